/-
  Part of the proofs over this seat: what each function of the program computes, function by function (the text is written by a program of this hand-in's own).
  Conditions: each theorem states its own.
-/
import Derived.Test.YtjehmnojfpedjaaGreatDoorProg
import Derived.KernelRfl
import Derived.Test.YtjehmnojfpedjaaGreatDoorPfModel
import Derived.Test.YtjehmnojfpedjaaGreatDoorPfShelf
namespace Go.Proofs.YtjehmnojfpedjaaGreatDoor
open Go.PF
set_option maxRecDepth 100000
set_option linter.unusedSimpArgs false
set_option linter.unusedVariables false

theorem ag29:aggOk Tryz.prog 29 4=true:=by kernel_rfl
theorem ag43:aggOk Tryz.prog 43 4=true:=by kernel_rfl
theorem ag45:aggOk Tryz.prog 45 5=true:=by kernel_rfl
theorem ag51:aggOk Tryz.prog 51 2=true:=by kernel_rfl
theorem ag53:aggOk Tryz.prog 53 7=true:=by kernel_rfl
theorem fo124_0:fieldOk Tryz.prog 124 0 0=true:=by kernel_rfl
theorem fo124_1:fieldOk Tryz.prog 124 1 1=true:=by kernel_rfl
theorem fo133_0:fieldOk Tryz.prog 133 0 0=true:=by kernel_rfl
theorem fo133_1:fieldOk Tryz.prog 133 1 1=true:=by kernel_rfl
theorem fo133_2:fieldOk Tryz.prog 133 2 2=true:=by kernel_rfl
theorem fo181_1:fieldOk Tryz.prog 181 1 1=true:=by kernel_rfl
theorem fo29_0:fieldOk Tryz.prog 29 0 0=true:=by kernel_rfl
theorem fo29_1:fieldOk Tryz.prog 29 1 1=true:=by kernel_rfl
theorem fo29_2:fieldOk Tryz.prog 29 2 2=true:=by kernel_rfl
theorem fo29_3:fieldOk Tryz.prog 29 3 3=true:=by kernel_rfl
theorem fo43_0:fieldOk Tryz.prog 43 0 0=true:=by kernel_rfl
theorem fo43_1:fieldOk Tryz.prog 43 1 1=true:=by kernel_rfl
theorem fo43_2:fieldOk Tryz.prog 43 2 2=true:=by kernel_rfl
theorem fo43_3:fieldOk Tryz.prog 43 3 3=true:=by kernel_rfl
theorem fo45_0:fieldOk Tryz.prog 45 0 0=true:=by kernel_rfl
theorem fo45_1:fieldOk Tryz.prog 45 1 1=true:=by kernel_rfl
theorem fo51_0:fieldOk Tryz.prog 51 0 0=true:=by kernel_rfl
theorem fo51_1:fieldOk Tryz.prog 51 1 1=true:=by kernel_rfl
theorem fo53_0:fieldOk Tryz.prog 53 0 0=true:=by kernel_rfl
theorem fo53_1:fieldOk Tryz.prog 53 1 1=true:=by kernel_rfl
theorem fo53_2:fieldOk Tryz.prog 53 2 3=true:=by kernel_rfl
theorem ifc164:isIfcT Tryz.prog 164=true:=by kernel_rfl
theorem mixed:Tryz.prog.follows .mixedOrders=true:=by kernel_rfl
theorem one22:oneOk Tryz.prog 22=true:=by kernel_rfl
theorem one27:oneOk Tryz.prog 27=true:=by kernel_rfl
theorem one3:oneOk Tryz.prog 3=true:=by kernel_rfl
theorem one39:oneOk Tryz.prog 39=true:=by kernel_rfl
theorem one4:oneOk Tryz.prog 4=true:=by kernel_rfl
theorem one5:oneOk Tryz.prog 5=true:=by kernel_rfl
theorem one9:oneOk Tryz.prog 9=true:=by kernel_rfl
theorem s2_51:str2Ok Tryz.prog 51=true:=by kernel_rfl
theorem sl147:SlT Tryz.prog 147 9 1 16 (Str []):=SlT.mk' (by kernel_rfl) (by kernel_rfl)
theorem sl22:SlT Tryz.prog 22 3 1 8 (.int .i64 0):=SlT.mk' (by kernel_rfl) (by kernel_rfl)
theorem sl27:SlT Tryz.prog 27 51 2 32 (.agg #[Str [],Str []]):=SlT.mk' (by kernel_rfl) (by kernel_rfl)
theorem sl39:SlT Tryz.prog 39 5 1 1 (.int .u8 0):=SlT.mk' (by kernel_rfl) (by kernel_rfl)
theorem sl91:SlT Tryz.prog 91 22 1 24 (.slice none 0 0):=SlT.mk' (by kernel_rfl) (by kernel_rfl)
theorem st9:Tryz.prog.underlying 9=some .string:=by kernel_rfl
theorem tb4:Tryz.prog.underlying 4=some .bool:=by kernel_rfl
theorem ti3:Tryz.prog.underlying 3=some (.int .i64):=by kernel_rfl
theorem ti5:Tryz.prog.underlying 5=some (.int .u8):=by kernel_rfl
theorem tp197:Tryz.prog.underlying 197=some (.pointer 5):=by kernel_rfl
theorem tz29:(Tryz.prog.info? 29).bind (·.zero)=some (.agg #[.int .i64 0,.slice none 0 0,.slice none 0 0,Str []]):=by kernel_rfl
theorem tz43:(Tryz.prog.info? 43).bind (·.zero)=some (.agg #[.int .i64 0,.slice none 0 0,Str [],.int .i64 0]):=by kernel_rfl
theorem tz45:(Tryz.prog.info? 45).bind (·.zero)=some (.agg #[.int .i64 0,.int .i64 0,.slice none 0 0,Str [],.int .i64 0]):=by kernel_rfl
theorem tz51:(Tryz.prog.info? 51).bind (·.zero)=some (.agg #[Str [],Str []]):=by kernel_rfl
theorem tz53:(Tryz.prog.info? 53).bind (·.zero)=some (.agg #[.slice none 0 0,Str [],Str [],.int .i64 0,.slice none 0 0,Str [],.int .i64 0]):=by kernel_rfl
theorem us39:Tryz.prog.underlying 39=some (.slice 5):=by kernel_rfl
theorem sIn (x:Int) (lo:Int) (hi:Int) (w:World):Does Tryz.prog 92 [I x,I lo,I hi] w (fun v w'=>v=.bool (decide (lo≤x∧x≤hi))∧SH w w' [] []):=by
 refine fE (N:=15) Tryz.func92 r0 (by kernel_rfl) r0 ?_
 have hs0:=SH.refl w []
 refine sr (tA (.bool false) r0 (nx (tm (I x) r0 ?_)))
 refine tm (I lo) r0 (qt r0 (geq (k:=.i64) (a:=x) (b:=lo) r0 r0) (tm (.bool (decide (lo≤x))) r0 ?_))
 refine spd (p:=lo≤x) 10 r0 (fun h1=>?_) (fun h1=>?_)
 ·refine q ⟨_,rfl,rfl⟩ r0 r0 (mv (v:=I x) r0) (q ⟨_,rfl,rfl⟩ r0 r0 (mv (v:=I hi) r0) (q ⟨_,rfl,rfl⟩ r0 r0 (leq (k:=.i64) (a:=x) (b:=hi) r0 r0) (qt r0 (pt (v:=.bool (decide (x≤hi))) r0 r0) (tA (.bool (decide (x≤hi))) r0 (nn (rt ?_))))))
  refine fT (.bool (decide (x≤hi))) r0 ?_
  have e1:(decide (x≤hi))=(decide (lo≤x∧x≤hi)):=by simp[*]
  exact⟨(congrArg (Value.bool) e1),hs0⟩
 ·refine gf5 r0 (gf5 r0 (gf5 r0 (qt r0 (pf (v:=.bool false) r0 r0) (tA (.bool false) r0 (nn (rt ?_))))))
  refine fT (.bool false) r0 ?_
  have e2:false=(decide (lo≤x∧x≤hi)):=by simp[*]
  exact⟨(congrArg (Value.bool) e2),hs0⟩
theorem iWithin (x:Int) (lo:Int) (hi:Int) (w:World):Does Tryz.prog 73 [I x,I lo,I hi] w (fun v w'=>v=.bool (decide (lo≤x∧x≤hi))∧SH w w' [] []):=by
 refine fE (N:=15) Tryz.func73 r0 (by kernel_rfl) r0 ?_
 have hs0:=SH.refl w []
 refine sr (tA (.bool false) r0 (nx (tm (I x) r0 ?_)))
 refine tm (I lo) r0 (qt r0 (geq (k:=.i64) (a:=x) (b:=lo) r0 r0) (tm (.bool (decide (lo≤x))) r0 ?_))
 refine spd (p:=lo≤x) 10 r0 (fun h1=>?_) (fun h1=>?_)
 ·refine q ⟨_,rfl,rfl⟩ r0 r0 (mv (v:=I x) r0) (q ⟨_,rfl,rfl⟩ r0 r0 (mv (v:=I hi) r0) (q ⟨_,rfl,rfl⟩ r0 r0 (leq (k:=.i64) (a:=x) (b:=hi) r0 r0) (qt r0 (pt (v:=.bool (decide (x≤hi))) r0 r0) (tA (.bool (decide (x≤hi))) r0 (nn (rt ?_))))))
  refine fT (.bool (decide (x≤hi))) r0 ?_
  have e1:(decide (x≤hi))=(decide (lo≤x∧x≤hi)):=by simp[*]
  exact⟨(congrArg (Value.bool) e1),hs0⟩
 ·refine gf5 r0 (gf5 r0 (gf5 r0 (qt r0 (pf (v:=.bool false) r0 r0) (tA (.bool false) r0 (nn (rt ?_))))))
  refine fT (.bool false) r0 ?_
  have e2:false=(decide (lo≤x∧x≤hi)):=by simp[*]
  exact⟨(congrArg (Value.bool) e2),hs0⟩
theorem iBV1 (x:Int) (w:World):Does Tryz.prog 103 [I x] w (fun v w'=>v=.bool (decide (¬ (0≤x∧x≤255)))∧SH w w' [] []):=by
 refine fE (N:=6) Tryz.func103 r0 (by kernel_rfl) r0 ?_
 have hs0:=SH.refl w []
 refine sr (tA (.bool false) r0 (nx (tm (I x) r0 ?_)))
 refine cL r0 (iWithin (x:=x) (lo:=0) (hi:=255) (w:=_)) ?_
 rintro _ w1 ⟨rfl,hs1⟩
 replace hs1:=hs0.call0 hs1
 refine qt r0 (nd (p:=0≤x∧x≤255) r0) (tA (.bool (decide (¬ (0≤x∧x≤255)))) r0 (nn (rt (fT (.bool (decide (¬ (0≤x∧x≤255)))) r0 ?_))))
 exact⟨rfl,hs1⟩
theorem sBytesValid {Azs:Option Addr} {czs:Nat} (zs:List Int) (w:World) (hzs:Sl w [] 1 Azs zs.length czs (zs.map I)):Does Tryz.prog 41 [.slice Azs zs.length czs] w (fun v w'=>v=.bool (isBytes zs)∧SH w w' [] []):=by
 refine fE (N:=19) Tryz.func41 r0 (by kernel_rfl) r0 ?_
 have hs0:=SH.refl w []
 have hzs_m:zs.length≤9223372036854775807:=Nat.le_trans hzs.cap hzs.capMax
 refine sr (tA (.bool false) r0 (nn (sq (sr ?_))))
 refine tA (I 0) r0 (nn (bl (lp (σ:=Nat) (fun(k:Nat) f w'=>Hz f [(0,.slice Azs zs.length czs),(3,I (k:Int))]∧(k≤zs.length)∧(allB (zs.take k)=true)∧SH w w' [] []) (fun k=>zs.length-k) 0 ⟨(zR r0),(by simp),(by simp[allB]),hs0⟩ ?_)))
 rintro k f w1 ⟨⟨g1,rfl⟩,hk,ha,hs1⟩
 refine sq (sr (tm (I (k:Int)) r0 (tm (Z13 Azs zs czs) r0 (qt r0 (lnA (n:=zs.length) sl22 r0) (qt r0 (lss (k:=.i64) (a:=(k:Int)) (b:=(zs.length:Int)) r0 r0) (nl ?_))))))
 refine nN ?_
 refine cdd (p:=(k:Int)<(zs.length:Int)) r0 (fun h1=>?_) (fun h1=>?_)
 ·refine sk (nN (sq (bl (sr (tm (Z13 Azs zs czs) r0 (tm (I (k:Int)) r0 ?_))))))
  refine ixw1 k sl22 r0 r0 hzs (by omega) (getm I 0 (by omega)) trivial r0 (fun a1 ha1=>?_)
  refine qt r0 (lda (v:=I (zs.getD k 0)) hs1 ha1 (fun _ h=>h) r0 r0 one3) (cL r0 (sIn (x:=zs.getD k 0) (lo:=0) (hi:=255) (w:=_)) ?_)
  rintro _ w2 ⟨rfl,hs2⟩
  replace hs2:=hs1.call0 hs2
  refine qt r0 (nd (p:=0≤(zs.getD k 0)∧(zs.getD k 0)≤255) r0) (nn ?_)
  refine cdd (p:=¬ (0≤(zs.getD k 0)∧(zs.getD k 0)≤255)) r0 (fun h2=>?_) (fun h2=>?_)
  ·refine sr (tA (.bool false) r0 (nn ?_))
   refine rt (bR (tR (tR (bR (tR ?_)))))
   refine fT (.bool false) r0 ?_
   have e1:false=isBytes zs:=by exact bytes_no1 (k:=k) (by omega) (by simpa using h2)
   exact⟨(congrArg (Value.bool) e1),hs2⟩
  ·refine sk (bN (nN (rg (tm (I (k:Int)) r0 (qt r0 (add (a:=(k:Int)) (b:=1) r0 r0 (by exact⟨by omega,by omega⟩)) (tA (I ((k:Int)+1)) r0 (nl ?_)))))))
   refine nN ?_
   refine⟨(k+1),⟨(zR r0),(by omega),(allB_step (by omega) ha (by simpa using h2)),hs2⟩,?_⟩
   omega
 ·refine ex (tE (tE (bE ?_)))
  refine nN (sr (tm (Z13 Azs zs czs) r0 (qt r0 (lnA (n:=zs.length) sl22 r0) (qt r0 (leq (k:=.i64) (a:=(zs.length:Int)) (b:=120) r0 r0) (tA (.bool (decide ((zs.length:Int)≤120))) r0 (nl ?_))))))
  refine nN (rt (fT (.bool (decide ((zs.length:Int)≤120))) r0 ?_))
  have e2:(decide ((zs.length:Int)≤120))=isBytes zs:=by exact bytes_yes (k:=k) (by omega) ha
  exact⟨(congrArg (Value.bool) e2),hs1⟩
theorem slIndexFunc (p:Int→Bool) {Azs:Option Addr} {czs:Nat} (zs:List Int) (kf:FuncId) (w:World) (hzs:Sl w [] 1 Azs zs.length czs (zs.map I)) (hf: ∀ (x:Int) (w:World),Does Tryz.prog kf [.int .i64 x] w (fun v w'=>v=.bool (p x)∧SH w w' [] [])):Does Tryz.prog 133 [.slice Azs zs.length czs,.func (.func kf) #[] #[]] w (fun v w'=>v=.int .i64 (idxF p zs)∧SH w w' [] []):=by
 refine fE (N:=19) Tryz.func133 r0 (by kernel_rfl) r0 ?_
 have hs0:=SH.refl w []
 have hzs_m:zs.length≤9223372036854775807:=Nat.le_trans hzs.cap hzs.capMax
 refine sr (tA (I 0) r0 (nn (sq (sr ?_))))
 refine tm (Z13 Azs zs czs) r0 (qt r0 (lnA (n:=zs.length) sl22 r0) (tm (I 0) r0 (nn (bl (lp (σ:=Nat) (fun(k:Nat) f w'=>Has f [(0,.slice Azs zs.length czs),(1,.func (.func kf) #[] #[]),(7,I (zs.length:Int)),(8,I (k:Int))]∧(k≤zs.length)∧(∀ j,j<k→p (zs.getD j 0)=false)∧SH w w' [] []) (fun k=>zs.length-k) 0 ⟨(hA r0),(by simp),(by intro j hj; omega),hs0⟩ ?_)))))
 rintro k f w1 ⟨hf,hk,hn,hs1⟩
 obtain ⟨g1,rfl⟩:=has_upd hf
 clear hf
 refine sr (qt r0 (lss (k:=.i64) (a:=(k:Int)) (b:=(zs.length:Int)) r0 r0) (nn (sq ?_)))
 refine cdd (p:=(k:Int)<(zs.length:Int)) r0 (fun h1=>?_) (fun h1=>?_)
 ·refine sk (nN (sq (bl (sr (tm (I (k:Int)) r0 (tA (I (k:Int)) r0 ?_))))))
  refine nx (tm (.func (.func kf) #[] #[]) r0 (tm (Z13 Azs zs czs) r0 (tm (I (k:Int)) r0 (ixw1 k sl22 r0 r0 hzs (by omega) (getm I 0 (by omega)) trivial r0 (fun a1 ha1=>?_)))))
  refine qt r0 (lda (v:=I (zs.getD k 0)) hs1 ha1 (fun _ h=>h) r0 r0 one3) (clv (k:=kf) trivial r0 r0 (hf (zs.getD k 0) _) ?_)
  rintro _ w2 ⟨rfl,hs2⟩
  replace hs2:=hs1.call0 hs2
  refine nn ?_
  refine cd (b:=p (zs.getD k 0)) r0 (fun h2=>?_) (fun h2=>?_)
  ·refine sr (tm (I (k:Int)) r0 (tA (I (k:Int)) r0 (nn ?_)))
   refine rt (bR (tR (tR (bR (tR ?_)))))
   refine fT (I (k:Int)) r0 ?_
   have e1:(k:Int)=idxF p zs:=by exact idxF_eq (by omega) hn h2
   exact⟨(congrArg (Value.int .i64) e1),hs2⟩
  ·refine sk (bN (nN (rg (qt r0 (add (a:=(k:Int)) (b:=1) r0 r0 (by exact⟨by omega,by omega⟩)) (tm (I ((k:Int)+1)) r0 (nn ?_))))))
   refine⟨(k+1),⟨(hA r0),(by omega),(by intro j hj; rcases Nat.lt_succ_iff_lt_or_eq.1 hj with h | h; exact hn j h; subst h; exact h2),hs2⟩,?_⟩
   omega
 ·refine ex (tE (tE (bE ?_)))
  refine nN (sr (tA (I (-1)) r0 (nn (rt (fT (I (-1)) r0 ?_)))))
  have e2:(-1)=idxF p zs:=by exact idxF_none (fun j hj=>hn j (by omega))
  exact⟨(congrArg (Value.int .i64) e2),hs1⟩
theorem slContainsFunc (p:Int→Bool) {Azs:Option Addr} {czs:Nat} (zs:List Int) (kf:FuncId) (w:World) (hzs:Sl w [] 1 Azs zs.length czs (zs.map I)) (hf: ∀ (x:Int) (w:World),Does Tryz.prog kf [.int .i64 x] w (fun v w'=>v=.bool (p x)∧SH w w' [] [])):Does Tryz.prog 75 [.slice Azs zs.length czs,.func (.func kf) #[] #[]] w (fun v w'=>v=.bool (zs.any p)∧SH w w' [] []):=by
 refine fE (N:=9) Tryz.func75 r0 (by kernel_rfl) r0 ?_
 have hs0:=SH.refl w []
 have hzs_m:zs.length≤9223372036854775807:=Nat.le_trans hzs.cap hzs.capMax
 refine sr (tA (.bool false) r0 (nx (tm (Z13 Azs zs czs) r0 ?_)))
 refine tm (.func (.func kf) #[] #[]) r0 (cL r0 (slIndexFunc (p:=p) (Azs:=Azs) (czs:=czs) (zs:=zs) (kf:=kf) (w:=_) (hzs:=(hzs.up0 hs0)) (hf:=hf)) ?_)
 rintro _ w1 ⟨rfl,hs1⟩
 replace hs1:=hs0.call0 hs1
 refine qt r0 (geq (k:=.i64) (a:=idxF p zs) (b:=0) r0 r0) (tA (.bool (decide ((0:Int)≤(idxF p zs)))) r0 (nn (rt (fT (.bool (decide ((0:Int)≤(idxF p zs)))) r0 ?_))))
 have e1:(decide ((0:Int)≤(idxF p zs)))=zs.any p:=by exact idxF_any p zs
 exact⟨(congrArg (Value.bool) e1),hs1⟩
theorem iBytesValid {Azs:Option Addr} {czs:Nat} (zs:List Int) (w:World) (hzs:Sl w [] 1 Azs zs.length czs (zs.map I)):Does Tryz.prog 46 [.slice Azs zs.length czs] w (fun v w'=>v=.bool (isBytes zs)∧SH w w' [] []):=by
 refine fE (N:=11) Tryz.func46 r0 (by kernel_rfl) r0 ?_
 have hs0:=SH.refl w []
 have hzs_m:zs.length≤9223372036854775807:=Nat.le_trans hzs.cap hzs.capMax
 refine sr (tA (.bool false) r0 (nx (tm (Z13 Azs zs czs) r0 ?_)))
 refine qt r0 (lnA (n:=zs.length) sl22 r0) (qt r0 (leq (k:=.i64) (a:=(zs.length:Int)) (b:=120) r0 r0) (tm (.bool (decide ((zs.length:Int)≤120))) r0 ?_))
 refine spd (p:=(zs.length:Int)≤120) 6 r0 (fun h1=>?_) (fun h1=>?_)
 ·refine q ⟨_,rfl,rfl⟩ r0 r0 (mv (v:=.slice Azs zs.length czs) r0) (cl ⟨_,rfl,rfl⟩ r0 (slContainsFunc (p:=(fun x=>(decide (¬ (0≤x∧x≤255))))) (Azs:=Azs) (czs:=czs) (zs:=zs) (kf:=103) (w:=_) (hzs:=(hzs.up0 hs0)) (hf:=(fun x w=>iBV1 x w))) ?_)
  rintro _ w1 ⟨rfl,hs1⟩
  replace hs1:=hs0.call0 hs1
  refine q ⟨_,rfl,rfl⟩ r0 r0 (nt (b:=zs.any (fun x=>(decide (¬ (0≤x∧x≤255))))) r0) (qt r0 (pt (v:=.bool (!(zs.any (fun x=>(decide (¬ (0≤x∧x≤255))))))) r0 r0) (tA (.bool (!(zs.any (fun x=>(decide (¬ (0≤x∧x≤255))))))) r0 (nn (rt (fT (.bool (!(zs.any (fun x=>(decide (¬ (0≤x∧x≤255))))))) r0 ?_)))))
  have e1:(!(zs.any (fun x=>(decide (¬ (0≤x∧x≤255))))))=isBytes zs:=by rw[← isBytes_not]; simp[*]
  exact⟨(congrArg (Value.bool) e1),hs1⟩
 ·refine gf5 r0 (gf5 r0 (gf5 r0 (qt r0 (pf (v:=.bool false) r0 r0) (tA (.bool false) r0 (nn (rt ?_))))))
  refine fT (.bool false) r0 ?_
  have e2:false=isBytes zs:=by rw[← isBytes_not]; simp[*]
  exact⟨(congrArg (Value.bool) e2),hs0⟩
theorem sameBytes {Axs:Option Addr} {cxs:Nat} (xs:List Int) {Abs:Option Addr} {cbs:Nat} (bs:List Int) (w:World) (hxs:Sl w [] 1 Axs xs.length cxs (xs.map I)) (hbs:Sl w [] 1 Abs bs.length cbs (bs.map I)):Does Tryz.prog 23 [.slice Axs xs.length cxs,.slice Abs bs.length cbs] w (fun v w'=>v=.bool (decide (xs=bs))∧SH w w' [] []):=by
 refine fE (N:=26) Tryz.func23 r0 (by kernel_rfl) r0 ?_
 have hs0:=SH.refl w []
 have hxs_m:xs.length≤9223372036854775807:=Nat.le_trans hxs.cap hxs.capMax
 have hbs_m:bs.length≤9223372036854775807:=Nat.le_trans hbs.cap hbs.capMax
 refine sr (tA (.bool false) r0 (nn (sq (sr ?_))))
 refine tm (Z13 Axs xs cxs) r0 (qt r0 (lnA (n:=xs.length) sl22 r0) (tm (Z13 Abs bs cbs) r0 (qt r0 (lnA (n:=bs.length) sl22 r0) (qt r0 (nei (k:=.i64) (a:=(xs.length:Int)) (b:=(bs.length:Int)) r0 r0) (nn ?_)))))
 refine cdd (p:=(xs.length:Int)≠(bs.length:Int)) r0 (fun h1=>?_) (fun h1=>?_)
 ·refine sr (tA (.bool false) r0 (nn (rt (tR ?_))))
  refine fT (.bool false) r0 ?_
  have e1:false=(decide (xs=bs)):=by simp; intro h; subst h; exact h1 r0
  exact⟨(congrArg (Value.bool) e1),hs0⟩
 ·refine sk (nN (sq (sr (tA (I 0) r0 (nn ?_)))))
  refine bl (lp (σ:=Nat) (fun(k:Nat) f w'=>Hz f [(0,.slice Axs xs.length cxs),(1,.slice Abs bs.length cbs),(5,I (k:Int))]∧(xs.length=bs.length)∧(k≤xs.length)∧(xs.take k=bs.take k)∧SH w w' [] []) (fun k=>xs.length-k) 0 ⟨(zR r0),(by omega),(by simp),(by simp),hs0⟩ ?_)
  rintro k f w1 ⟨⟨g1,rfl⟩,hl,hk,ha,hs1⟩
  refine sq (sr (tm (I (k:Int)) r0 (tm (Z13 Axs xs cxs) r0 (qt r0 (lnA (n:=xs.length) sl22 r0) (qt r0 (lss (k:=.i64) (a:=(k:Int)) (b:=(xs.length:Int)) r0 r0) (nl ?_))))))
  refine nN ?_
  refine cdd (p:=(k:Int)<(xs.length:Int)) r0 (fun h2=>?_) (fun h2=>?_)
  ·refine sk (nN (sq (bl (sq (rq (fun w'=>SH w w' [] []) mixed (by kernel_rfl) hs1.drew (qA r0 (mv (v:=.slice Axs xs.length cxs) r0) (qA r0 (mv (v:=I (k:Int)) r0) ?_)))))))
   refine ixq1 k sl22 r0 r0 hxs (by omega) (getm I 0 (by omega)) trivial r0 (fun a1 ha1=>?_)
   refine qB r0 (fun hsq=>lda (v:=I (xs.getD k 0)) hsq ha1 (fun _ h=>h) r0 r0 one3) (qA r0 (mv (v:=.slice Abs bs.length cbs) r0) (qA r0 (mv (v:=I (k:Int)) r0) (ixq1 k sl22 r0 r0 hbs (by omega) (getm I 0 (by omega)) trivial r0 (fun a2 ha2=>?_))))
   refine qB r0 (fun hsq=>lda (v:=I (bs.getD k 0)) hsq ha2 (fun _ h=>h) r0 r0 one3) (qA r0 (nei (k:=.i64) (a:=xs.getD k 0) (b:=bs.getD k 0) r0 r0) (qn (fun w2 hs2=>?_)))
   refine nN ?_
   refine cdd (p:=(xs.getD k 0)≠(bs.getD k 0)) r0 (fun h3=>?_) (fun h3=>?_)
   ·refine sr (tA (.bool false) r0 (nn ?_))
    refine rt (bR (tR (tR (bR (tR ?_)))))
    refine fT (.bool false) r0 ?_
    have e2:false=(decide (xs=bs)):=by simp; intro h; subst h; exact h3 r0
    exact⟨(congrArg (Value.bool) e2),hs2⟩
   ·refine sk (bN (nN (rg (tm (I (k:Int)) r0 (qt r0 (add (a:=(k:Int)) (b:=1) r0 r0 (by exact⟨by omega,by omega⟩)) (tA (I ((k:Int)+1)) r0 (nl ?_)))))))
    refine nN ?_
    refine⟨(k+1),⟨(zR r0),(hl),(by omega),(take_succ_eq (by omega) (by omega) ha (by simpa using h3)),hs2⟩,?_⟩
    omega
  ·refine ex (tE (tE (bE ?_)))
   refine nN (sr (tA (.bool true) r0 (nn (rt (fT (.bool true) r0 ?_)))))
   have e3:true=(decide (xs=bs)):=by simp; exact take_all_eq hl (by omega) ha
   exact⟨(congrArg (Value.bool) e3),hs1⟩
theorem slIndexByte (l:List UInt8) (c:UInt8) (w:World):Does Tryz.prog 192 [Str l,.int .u8 (c.toNat:Int)] w (fun v w'=>v=.int .i64 (idxB l c)∧SH w w' [] []):=by
 refine fE (N:=8) Tryz.func192 r0 (by kernel_rfl) r0 ?_
 have hs0:=SH.refl w []
 refine sr (tA (I 0) r0 (nx (tm (Str l) r0 ?_)))
 refine tm (.int .u8 (c.toNat:Int)) r0 (qt r0 (ibs (l:=l) (c:=c) Tryz.func211 (by kernel_rfl) r0 (by kernel_rfl) (by kernel_rfl) r0 r0) (tA (I (idxB l c)) r0 (nn (rt (fT (I (idxB l c)) r0 ?_)))))
 exact⟨rfl,hs0⟩
theorem stIndexByte (l:List UInt8) (c:UInt8) (w:World):Does Tryz.prog 177 [Str l,.int .u8 (c.toNat:Int)] w (fun v w'=>v=.int .i64 (idxB l c)∧SH w w' [] []):=by
 refine fE (N:=8) Tryz.func177 r0 (by kernel_rfl) r0 ?_
 have hs0:=SH.refl w []
 refine sr (tA (I 0) r0 (nx (tm (Str l) r0 ?_)))
 refine tm (.int .u8 (c.toNat:Int)) r0 (cL r0 (slIndexByte (l:=l) (c:=c) (w:=_)) ?_)
 rintro _ w1 ⟨rfl,hs1⟩
 replace hs1:=hs0.call0 hs1
 refine tA (I (idxB l c)) r0 (nn (rt (fT (I (idxB l c)) r0 ?_)))
 exact⟨rfl,hs1⟩
theorem pick {rb:Nat} {Ab:Option Addr} {cb:Nat} {bs:List UInt8} {p:Nat} (n:Int) (w:World) (hr:w.heap[rb]?=some (.cells [.slice Ab bs.length cb,.int .i64 (p:Int)].toArray 124 (0,0))) (hb:Sl w [rb] 1 Ab bs.length cb (bs.map U)) (hbn:bs.length≤2000) (hp:p≤1099511627776):Does Tryz.prog 57 [pB rb,I n] w (fun v w'=>∃ r:Int,∃ q:Nat,v=.int .i64 r∧(0≤r∧(r<n∨r=0))∧(q≤p+1)∧SH w w' [rb] [.blk rb 124 [.slice Ab bs.length cb,I (q:Int)]]):=by
 refine fE (N:=99) Tryz.func57 r0 (by kernel_rfl) r0 ?_
 have hs0:=SH.entry1 hr
 refine sr (tA (I 0) r0 (nx (tm (pB rb) r0 ?_)))
 refine tm (pB rb) r0 (tn r0 (qt r0 (fa 1 fo124_1 r0) (qt r0 (lD (I (p:Int)) hs0 0 r0 one3) (qt r0 (add (a:=(p:Int)) (b:=1) r0 r0 (by have h1_:=u8_bd (bs.getD ((p+1-1) % bs.length) 0); have h2_:=u8_bd (bs.getD (((p+1-1)*7+3) % bs.length) 0); have h3_:=div_bd (p+1-1) bs.length; exact⟨by omega,by omega⟩)) (tn r0 (qt r0 (fa 1 fo124_1 r0) (sT (I ((p:Int)+1)) hs0 0 r0 one3 (fun w1 hs1=>?_))))))))
 refine nn (sq (sr (tm (I n) r0 (qt r0 (lss (k:=.i64) (a:=n) (b:=1) r0 r0) (tm (.bool (decide (n<1))) r0 ?_)))))
 refine spd (p:=n<1) 17 r0 (fun h1=>?_) (fun h1=>?_)
 ·refine gt5 r0 (gt5 r0 (gt5 r0 (gt5 r0 (gt5 r0 (gt5 r0 (qt r0 (pt (v:=.bool true) r0 r0) (nl ?_)))))))
  refine nN (cdt r0 (sr (tA (I 0) r0 (nn (rt (tR ?_))))))
  refine fT (I 0) r0 ?_
  exact⟨0,p+1,rfl,(by simp),(by omega),hs1⟩
 ·refine q ⟨_,rfl,rfl⟩ r0 r0 (mv (v:=pB rb) r0) (q ⟨_,rfl,rfl⟩ r0 r0 (nc r0) (q ⟨_,rfl,rfl⟩ r0 r0 (fa 0 fo124_0 r0) (q ⟨_,rfl,rfl⟩ r0 r0 (lD (.slice Ab bs.length cb) hs1 0 r0 one39) (q ⟨_,rfl,rfl⟩ r0 r0 (lnA (n:=bs.length) sl39 r0) (q ⟨_,rfl,rfl⟩ r0 r0 (eqi (k:=.i64) (a:=(bs.length:Int)) (b:=0) r0 r0) (qt r0 (pf (v:=.bool (decide ((bs.length:Int)=0))) r0 r0) (nl ?_)))))))
  refine nN ?_
  refine cdd (p:=(bs.length:Int)=0) r0 (fun h2=>?_) (fun h2=>?_)
  ·refine sr (tA (I 0) r0 (nn (rt (tR ?_))))
   refine fT (I 0) r0 ?_
   exact⟨0,p+1,rfl,(by simp),(by omega),hs1⟩
  ·refine sk (nN (sr (tm (pB rb) r0 (tn r0 (qt r0 (fa 1 fo124_1 r0) (qt r0 (lD (I ((p:Int)+1)) hs1 0 r0 one3) ?_))))))
   refine qt r0 (subN (a:=p+1) (b:=1) r0 r0 (by omega) (by omega)) (tA (I (((p+1)-1:Nat):Int)) r0 (nn (sq (sr (tm (I (((p+1)-1:Nat):Int)) r0 ?_)))))
   refine tm (pB rb) r0 (tn r0 (qt r0 (fa 0 fo124_0 r0) (qt r0 (lD (.slice Ab bs.length cb) hs1 0 r0 one39) (qt r0 (lnA (n:=bs.length) sl39 r0) (qt r0 (lss (k:=.i64) (a:=(((p+1)-1:Nat):Int)) (b:=(bs.length:Int)) r0 r0) (nn ?_))))))
   refine cdd (p:=(((p+1)-1:Nat):Int)<(bs.length:Int)) r0 (fun h3=>?_) (fun h3=>?_)
   ·refine sr (tm (pB rb) r0 (tn r0 (qt r0 (fa 0 fo124_0 r0) (qt r0 (lD (.slice Ab bs.length cb) hs1 0 r0 one39) (tm (I (((p+1)-1:Nat):Int)) r0 (ixw1 ((p+1)-1) sl39 r0 r0 hb (by omega) (getm U 0 (by omega)) trivial r0 (fun a1 ha1=>?_)))))))
    refine qt r0 (lda (v:=.int .u8 (((bs.getD ((p+1)-1) 0).toNat:Nat):Int)) hs1 ha1 (fun _ h=>h) r0 r0 one5) (qt r0 (cvI (a:=(((bs.getD ((p+1)-1) 0).toNat:Nat):Int)) (s:=.u8) ti5 ti3 r0 (by have:=u8_bd ((bs.getD ((p+1)-1) 0)); exact⟨by omega,by omega⟩)) (tm (I n) r0 (qt r0 (rem (a:=(((bs.getD ((p+1)-1) 0).toNat:Nat):Int)) (b:=n) r0 r0 (by have h1_:=u8_bd (bs.getD ((p+1-1) % bs.length) 0); have h2_:=u8_bd (bs.getD (((p+1-1)*7+3) % bs.length) 0); have h3_:=div_bd (p+1-1) bs.length; omega) (by omega)) (tA (I ((((bs.getD ((p+1)-1) 0).toNat:Nat):Int) % n)) r0 (nn (rt (tR ?_)))))))
    refine fT (I ((((bs.getD ((p+1)-1) 0).toNat:Nat):Int) % n)) r0 ?_
    exact⟨(((bs.getD ((p+1)-1) 0).toNat:Nat):Int) % n,p+1,rfl,(mod_pos (by omega)),(by omega),hs1⟩
   ·refine sk (nN (sq (rq (fun w'=>SH w w' [rb] [.blk rb 124 [.slice Ab bs.length cb,I ((p:Int)+1)]]) mixed (by kernel_rfl) hs1.drew (qA r0 (mv (v:=pB rb) r0) (qA r0 (nc r0) (qA r0 (fa 0 fo124_0 r0) (qB r0 (fun hsq=>lD (.slice Ab bs.length cb) hsq 0 r0 one39) ?_)))))))
    refine qA r0 (mv (v:=I (((p+1)-1:Nat):Int)) r0) (qA r0 (mv (v:=pB rb) r0) (qA r0 (nc r0) (qA r0 (fa 0 fo124_0 r0) (qB r0 (fun hsq=>lD (.slice Ab bs.length cb) hsq 0 r0 one39) (qA r0 (lnA (n:=bs.length) sl39 r0) (qA r0 (rem (a:=(((p+1)-1:Nat):Int)) (b:=(bs.length:Int)) r0 r0 (by have h1_:=u8_bd (bs.getD ((p+1-1) % bs.length) 0); have h2_:=u8_bd (bs.getD (((p+1-1)*7+3) % bs.length) 0); have h3_:=div_bd (p+1-1) bs.length; omega) (by omega)) (ixq1 (((p+1)-1) % bs.length) sl39 r0 r0 hb (by exact Nat.mod_lt _ (by omega)) (getm U 0 (by exact Nat.mod_lt _ (by omega))) trivial r0 (fun a2 ha2=>?_))))))))
    refine qB r0 (fun hsq=>lda (v:=.int .u8 (((bs.getD (((p+1)-1) % bs.length) 0).toNat:Nat):Int)) hsq ha2 (fun _ h=>h) r0 r0 one5) (qA r0 (cvI (a:=(((bs.getD (((p+1)-1) % bs.length) 0).toNat:Nat):Int)) (s:=.u8) ti5 ti3 r0 (by have:=u8_bd ((bs.getD (((p+1)-1) % bs.length) 0)); exact⟨by omega,by omega⟩)) (qA r0 (mul (a:=(((bs.getD (((p+1)-1) % bs.length) 0).toNat:Nat):Int)) (b:=131) r0 r0 (by have h1_:=u8_bd (bs.getD ((p+1-1) % bs.length) 0); have h2_:=u8_bd (bs.getD (((p+1-1)*7+3) % bs.length) 0); have h3_:=div_bd (p+1-1) bs.length; exact⟨by omega,by omega⟩)) (qA r0 (mv (v:=pB rb) r0) (qA r0 (nc r0) (qA r0 (fa 0 fo124_0 r0) (qB r0 (fun hsq=>lD (.slice Ab bs.length cb) hsq 0 r0 one39) (qA r0 (mv (v:=I (((p+1)-1:Nat):Int)) r0) ?_)))))))
    refine qA r0 (mul (a:=(((p+1)-1:Nat):Int)) (b:=7) r0 r0 (by have h1_:=u8_bd (bs.getD ((p+1-1) % bs.length) 0); have h2_:=u8_bd (bs.getD (((p+1-1)*7+3) % bs.length) 0); have h3_:=div_bd (p+1-1) bs.length; exact⟨by omega,by omega⟩)) (qA r0 (add (a:=(((p+1)-1:Nat):Int)*7) (b:=3) r0 r0 (by have h1_:=u8_bd (bs.getD ((p+1-1) % bs.length) 0); have h2_:=u8_bd (bs.getD (((p+1-1)*7+3) % bs.length) 0); have h3_:=div_bd (p+1-1) bs.length; exact⟨by omega,by omega⟩)) (qA r0 (mv (v:=pB rb) r0) (qA r0 (nc r0) (qA r0 (fa 0 fo124_0 r0) (qB r0 (fun hsq=>lD (.slice Ab bs.length cb) hsq 0 r0 one39) (qA r0 (lnA (n:=bs.length) sl39 r0) (qA r0 (rem (a:=((((p+1)-1:Nat):Int)*7)+3) (b:=(bs.length:Int)) r0 r0 (by have h1_:=u8_bd (bs.getD ((p+1-1) % bs.length) 0); have h2_:=u8_bd (bs.getD (((p+1-1)*7+3) % bs.length) 0); have h3_:=div_bd (p+1-1) bs.length; omega) (by omega)) ?_)))))))
    refine ixq1 (((((p+1)-1)*7)+3) % bs.length) sl39 r0 r0 hb (by exact Nat.mod_lt _ (by omega)) (getm U 0 (by exact Nat.mod_lt _ (by omega))) trivial r0 (fun a3 ha3=>?_)
    refine qB r0 (fun hsq=>lda (v:=.int .u8 (((bs.getD (((((p+1)-1)*7)+3) % bs.length) 0).toNat:Nat):Int)) hsq ha3 (fun _ h=>h) r0 r0 one5) (qA r0 (cvI (a:=(((bs.getD (((((p+1)-1)*7)+3) % bs.length) 0).toNat:Nat):Int)) (s:=.u8) ti5 ti3 r0 (by have:=u8_bd ((bs.getD (((((p+1)-1)*7)+3) % bs.length) 0)); exact⟨by omega,by omega⟩)) (qA r0 (mul (a:=(((bs.getD (((((p+1)-1)*7)+3) % bs.length) 0).toNat:Nat):Int)) (b:=1117) r0 r0 (by have h1_:=u8_bd (bs.getD ((p+1-1) % bs.length) 0); have h2_:=u8_bd (bs.getD (((p+1-1)*7+3) % bs.length) 0); have h3_:=div_bd (p+1-1) bs.length; exact⟨by omega,by omega⟩)) (qA r0 (add (a:=(((bs.getD (((p+1)-1) % bs.length) 0).toNat:Nat):Int)*131) (b:=(((bs.getD (((((p+1)-1)*7)+3) % bs.length) 0).toNat:Nat):Int)*1117) r0 r0 (by have h1_:=u8_bd (bs.getD ((p+1-1) % bs.length) 0); have h2_:=u8_bd (bs.getD (((p+1-1)*7+3) % bs.length) 0); have h3_:=div_bd (p+1-1) bs.length; exact⟨by omega,by omega⟩)) (qA r0 (mv (v:=I (((p+1)-1:Nat):Int)) r0) (qA r0 (mul (a:=(((p+1)-1:Nat):Int)) (b:=29) r0 r0 (by have h1_:=u8_bd (bs.getD ((p+1-1) % bs.length) 0); have h2_:=u8_bd (bs.getD (((p+1-1)*7+3) % bs.length) 0); have h3_:=div_bd (p+1-1) bs.length; exact⟨by omega,by omega⟩)) (qA r0 (add (a:=((((bs.getD (((p+1)-1) % bs.length) 0).toNat:Nat):Int)*131)+((((bs.getD (((((p+1)-1)*7)+3) % bs.length) 0).toNat:Nat):Int)*1117)) (b:=(((p+1)-1:Nat):Int)*29) r0 r0 (by have h1_:=u8_bd (bs.getD ((p+1-1) % bs.length) 0); have h2_:=u8_bd (bs.getD (((p+1-1)*7+3) % bs.length) 0); have h3_:=div_bd (p+1-1) bs.length; exact⟨by omega,by omega⟩)) (qA r0 (mv (v:=I (((p+1)-1:Nat):Int)) r0) ?_)))))))
    refine qA r0 (mv (v:=pB rb) r0) (qA r0 (nc r0) (qA r0 (fa 0 fo124_0 r0) (qB r0 (fun hsq=>lD (.slice Ab bs.length cb) hsq 0 r0 one39) (qA r0 (lnA (n:=bs.length) sl39 r0) (qA r0 (quo (a:=(((p+1)-1:Nat):Int)) (b:=(bs.length:Int)) r0 r0 (by have h1_:=u8_bd (bs.getD ((p+1-1) % bs.length) 0); have h2_:=u8_bd (bs.getD (((p+1-1)*7+3) % bs.length) 0); have h3_:=div_bd (p+1-1) bs.length; omega) (by have h1_:=u8_bd (bs.getD ((p+1-1) % bs.length) 0); have h2_:=u8_bd (bs.getD (((p+1-1)*7+3) % bs.length) 0); have h3_:=div_bd (p+1-1) bs.length; omega) (by have h1_:=u8_bd (bs.getD ((p+1-1) % bs.length) 0); have h2_:=u8_bd (bs.getD (((p+1-1)*7+3) % bs.length) 0); have h3_:=div_bd (p+1-1) bs.length; omega)) (qA r0 (mul (a:=(((p+1)-1:Nat):Int) / (bs.length:Int)) (b:=53) r0 r0 (by have h1_:=u8_bd (bs.getD ((p+1-1) % bs.length) 0); have h2_:=u8_bd (bs.getD (((p+1-1)*7+3) % bs.length) 0); have h3_:=div_bd (p+1-1) bs.length; exact⟨by omega,by omega⟩)) (qA r0 (add (a:=(((((bs.getD (((p+1)-1) % bs.length) 0).toNat:Nat):Int)*131)+((((bs.getD (((((p+1)-1)*7)+3) % bs.length) 0).toNat:Nat):Int)*1117))+((((p+1)-1:Nat):Int)*29)) (b:=((((p+1)-1:Nat):Int) / (bs.length:Int))*53) r0 r0 (by have h1_:=u8_bd (bs.getD ((p+1-1) % bs.length) 0); have h2_:=u8_bd (bs.getD (((p+1-1)*7+3) % bs.length) 0); have h3_:=div_bd (p+1-1) bs.length; exact⟨by omega,by omega⟩)) ?_)))))))
    refine qA r0 (asg (v:=I (((((((bs.getD (((p+1)-1) % bs.length) 0).toNat:Nat):Int)*131)+((((bs.getD (((((p+1)-1)*7)+3) % bs.length) 0).toNat:Nat):Int)*1117))+((((p+1)-1:Nat):Int)*29))+(((((p+1)-1:Nat):Int) / (bs.length:Int))*53))) r0) (qn (fun w2 hs2=>?_))
    refine nN (sr (tm (I (((((((bs.getD (((p+1)-1) % bs.length) 0).toNat:Nat):Int)*131)+((((bs.getD (((((p+1)-1)*7)+3) % bs.length) 0).toNat:Nat):Int)*1117))+((((p+1)-1:Nat):Int)*29))+(((((p+1)-1:Nat):Int) / (bs.length:Int))*53))) r0 (tm (I (((((((bs.getD (((p+1)-1) % bs.length) 0).toNat:Nat):Int)*131)+((((bs.getD (((((p+1)-1)*7)+3) % bs.length) 0).toNat:Nat):Int)*1117))+((((p+1)-1:Nat):Int)*29))+(((((p+1)-1:Nat):Int) / (bs.length:Int))*53))) r0 (qt r0 (quo (a:=((((((bs.getD (((p+1)-1) % bs.length) 0).toNat:Nat):Int)*131)+((((bs.getD (((((p+1)-1)*7)+3) % bs.length) 0).toNat:Nat):Int)*1117))+((((p+1)-1:Nat):Int)*29))+(((((p+1)-1:Nat):Int) / (bs.length:Int))*53)) (b:=64) r0 r0 (by have h1_:=u8_bd (bs.getD ((p+1-1) % bs.length) 0); have h2_:=u8_bd (bs.getD (((p+1-1)*7+3) % bs.length) 0); have h3_:=div_bd (p+1-1) bs.length; omega) (by have h1_:=u8_bd (bs.getD ((p+1-1) % bs.length) 0); have h2_:=u8_bd (bs.getD (((p+1-1)*7+3) % bs.length) 0); have h3_:=div_bd (p+1-1) bs.length; omega) (by have h1_:=u8_bd (bs.getD ((p+1-1) % bs.length) 0); have h2_:=u8_bd (bs.getD (((p+1-1)*7+3) % bs.length) 0); have h3_:=div_bd (p+1-1) bs.length; omega)) (qt r0 (xr (a:=(((((bs.getD (((p+1)-1) % bs.length) 0).toNat)*131)+(((bs.getD (((((p+1)-1)*7)+3) % bs.length) 0).toNat)*1117))+(((p+1)-1)*29))+((((p+1)-1) / bs.length)*53)) (b:=((((((bs.getD (((p+1)-1) % bs.length) 0).toNat)*131)+(((bs.getD (((((p+1)-1)*7)+3) % bs.length) 0).toNat)*1117))+(((p+1)-1)*29))+((((p+1)-1) / bs.length)*53)) / 64) r0 r0 (by have h1_:=u8_bd (bs.getD ((p+1-1) % bs.length) 0); have h2_:=u8_bd (bs.getD (((p+1-1)*7+3) % bs.length) 0); have h3_:=div_bd (p+1-1) bs.length; omega) (by have h1_:=u8_bd (bs.getD ((p+1-1) % bs.length) 0); have h2_:=u8_bd (bs.getD (((p+1-1)*7+3) % bs.length) 0); have h3_:=div_bd (p+1-1) bs.length; omega)) (tA (I ((((((((bs.getD (((p+1)-1) % bs.length) 0).toNat)*131)+(((bs.getD (((((p+1)-1)*7)+3) % bs.length) 0).toNat)*1117))+(((p+1)-1)*29))+((((p+1)-1) / bs.length)*53)) ^^^ (((((((bs.getD (((p+1)-1) % bs.length) 0).toNat)*131)+(((bs.getD (((((p+1)-1)*7)+3) % bs.length) 0).toNat)*1117))+(((p+1)-1)*29))+((((p+1)-1) / bs.length)*53)) / 64):Nat):Int)) r0 ?_))))))
    refine nx (tm (I ((((((((bs.getD (((p+1)-1) % bs.length) 0).toNat)*131)+(((bs.getD (((((p+1)-1)*7)+3) % bs.length) 0).toNat)*1117))+(((p+1)-1)*29))+((((p+1)-1) / bs.length)*53)) ^^^ (((((((bs.getD (((p+1)-1) % bs.length) 0).toNat)*131)+(((bs.getD (((((p+1)-1)*7)+3) % bs.length) 0).toNat)*1117))+(((p+1)-1)*29))+((((p+1)-1) / bs.length)*53)) / 64):Nat):Int)) r0 (tm (I n) r0 (qt r0 (rem (a:=((((((((bs.getD (((p+1)-1) % bs.length) 0).toNat)*131)+(((bs.getD (((((p+1)-1)*7)+3) % bs.length) 0).toNat)*1117))+(((p+1)-1)*29))+((((p+1)-1) / bs.length)*53)) ^^^ (((((((bs.getD (((p+1)-1) % bs.length) 0).toNat)*131)+(((bs.getD (((((p+1)-1)*7)+3) % bs.length) 0).toNat)*1117))+(((p+1)-1)*29))+((((p+1)-1) / bs.length)*53)) / 64):Nat):Int)) (b:=n) r0 r0 (by have h1_:=u8_bd (bs.getD ((p+1-1) % bs.length) 0); have h2_:=u8_bd (bs.getD (((p+1-1)*7+3) % bs.length) 0); have h3_:=div_bd (p+1-1) bs.length; omega) (by omega)) (tA (I (((((((((bs.getD (((p+1)-1) % bs.length) 0).toNat)*131)+(((bs.getD (((((p+1)-1)*7)+3) % bs.length) 0).toNat)*1117))+(((p+1)-1)*29))+((((p+1)-1) / bs.length)*53)) ^^^ (((((((bs.getD (((p+1)-1) % bs.length) 0).toNat)*131)+(((bs.getD (((((p+1)-1)*7)+3) % bs.length) 0).toNat)*1117))+(((p+1)-1)*29))+((((p+1)-1) / bs.length)*53)) / 64):Nat):Int) % n)) r0 ?_))))
    refine nn (rt (fT (I (((((((((bs.getD (((p+1)-1) % bs.length) 0).toNat)*131)+(((bs.getD (((((p+1)-1)*7)+3) % bs.length) 0).toNat)*1117))+(((p+1)-1)*29))+((((p+1)-1) / bs.length)*53)) ^^^ (((((((bs.getD (((p+1)-1) % bs.length) 0).toNat)*131)+(((bs.getD (((((p+1)-1)*7)+3) % bs.length) 0).toNat)*1117))+(((p+1)-1)*29))+((((p+1)-1) / bs.length)*53)) / 64):Nat):Int) % n)) r0 ?_))
    exact⟨((((((((bs.getD (((p+1)-1) % bs.length) 0).toNat)*131)+(((bs.getD (((((p+1)-1)*7)+3) % bs.length) 0).toNat)*1117))+(((p+1)-1)*29))+((((p+1)-1) / bs.length)*53)) ^^^ (((((((bs.getD (((p+1)-1) % bs.length) 0).toNat)*131)+(((bs.getD (((((p+1)-1)*7)+3) % bs.length) 0).toNat)*1117))+(((p+1)-1)*29))+((((p+1)-1) / bs.length)*53)) / 64):Nat):Int) % n,p+1,rfl,(mod_pos (by omega)),(by omega),hs2⟩
theorem l6Open {Acs:Option Addr} {ccs:Nat} (cs:List UInt8) (w:World) (hcs:Sl w [] 1 Acs cs.length ccs (cs.map U)):Does Tryz.prog 54 [.slice Acs cs.length ccs] w (fun v w'=>∃ gr:Nat,v=.pointer (some ⟨gr,0,none⟩)∧SH w w' [] [.blk gr 124 [.slice Acs ((cs.take 2000).length) ccs,I 0]]):=by
 refine fE (N:=11) Tryz.func54 r0 (by kernel_rfl) r0 ?_
 have hs0:=SH.refl w []
 have hcs_m:cs.length≤9223372036854775807:=Nat.le_trans hcs.cap hcs.capMax
 refine sr (tA (.pointer none) r0 (nn (sq (sr ?_))))
 refine tm (.slice Acs cs.length ccs) r0 (qt r0 (lnA (n:=cs.length) sl39 r0) (qt r0 (gtr (k:=.i64) (a:=(cs.length:Int)) (b:=2000) r0 r0) (nn ?_)))
 refine cdd (p:=(2000:Int)<(cs.length:Int)) r0 (fun h1=>?_) (fun h1=>?_)
 ·refine rg (tm (.slice Acs cs.length ccs) r0 (qt r0 (cuhm_ (zs:=cs) 2000 sl39 r0 r0 (by omega) hcs.cap) (tA (.slice Acs ((cs.take 2000).length) ccs) r0 (nx ?_))))
  refine tm (.slice Acs ((cs.take 2000).length) ccs) r0 (qt r0 (bdv (v:=.agg #[.slice Acs ((cs.take 2000).length) ccs,I 0]) [(0,.slice Acs ((cs.take 2000).length) ccs)] r0 (fun _=>by kernel_rfl)) (bx (v:=.agg #[.slice Acs ((cs.take 2000).length) ccs,I 0]) (cs:=[.slice Acs ((cs.take 2000).length) ccs,I 0]) hs0 r0 r0 trivial r0 (fun b1 w1 hs1=>?_)))
  refine tA (pB b1) r0 (nn (rt (fT (pB b1) r0 ?_)))
  exact⟨b1,rfl,hs1⟩
 ·refine sk (nN (sr (tm (.slice Acs cs.length ccs) r0 (qt r0 (bdv (v:=.agg #[.slice Acs cs.length ccs,I 0]) [(0,.slice Acs cs.length ccs)] r0 (fun _=>by kernel_rfl)) (bx (v:=.agg #[.slice Acs cs.length ccs,I 0]) (cs:=[.slice Acs cs.length ccs,I 0]) hs0 r0 r0 trivial r0 (fun b2 w2 hs2=>?_))))))
  refine tA (pB b2) r0 (nn (rt (fT (pB b2) r0 ?_)))
  have e1:cs.length=(cs.take 2000).length:=by rw[List.take_of_length_le (by omega)]
  exact⟨b2,rfl,(hs2.cast (lc (congrArg (It.blk b2 124) (lc (slv r0 e1 r0) (lc r0 r0))) r0))⟩
theorem rdOf {rb:Nat} {Ab:Option Addr} {cb:Nat} {bs:List UInt8} {p:Nat} {Ass:Option Addr} {css:Nat} (ss:List (List UInt8)) (w:World) (hr:w.heap[rb]?=some (.cells [.slice Ab bs.length cb,.int .i64 (p:Int)].toArray 124 (0,0))) (hb:Sl w [rb] 1 Ab bs.length cb (bs.map U)) (hbn:bs.length≤2000) (hp:p≤549755813888) (hss:Sl w [rb] 1 Ass ss.length css (ss.map Str)) (hne:0<ss.length):Does Tryz.prog 180 [pB rb,.slice Ass ss.length css] w (fun v w'=>∃ s:List UInt8,∃ q:Nat,v=Str s∧(s∈ss)∧(q≤p+1)∧SH w w' [rb] [.blk rb 124 [.slice Ab bs.length cb,I (q:Int)]]):=by
 refine fE (N:=12) Tryz.func180 r0 (by kernel_rfl) r0 ?_
 have hs0:=SH.entry1 hr
 have hss_m:ss.length≤9223372036854775807:=Nat.le_trans hss.cap hss.capMax
 refine sr (tA (Str []) r0 (nx (tm (.slice Ass ss.length css) r0 ?_)))
 refine tm (pB rb) r0 (tm (.slice Ass ss.length css) r0 (qt r0 (lnA (n:=ss.length) sl147 r0) (cL r0 (pick (rb:=rb) (Ab:=Ab) (cb:=cb) (bs:=bs) (p:=p) (n:=(ss.length:Int)) (w:=_) (hr:=(blk_heap hs0 0 r0)) (hb:=(hb.up hs0 (fun _ h=>h) (fun _ h=>.inl h))) (hbn:=‹_›) (hp:=(by omega))) ?_)))
 rintro _ w1 ⟨r1,q1,rfl,p1,p2,hs1⟩
 replace hs1:=hs0.callM 0 r0 hs1 m_1
 refine ixw1 r1.toNat sl147 r0 (ieq (x:=r1) (by omega)) hss (by omega) (getm Str [] (by omega)) trivial r0 (fun a1 ha1=>?_)
 refine qt r0 (lda (v:=Str (ss.getD r1.toNat [])) hs1 ha1 (fun _ h=>h) r0 r0 one9) (tA (Str (ss.getD r1.toNat [])) r0 (nn (rt (fT (Str (ss.getD r1.toNat [])) r0 ?_))))
 exact⟨ss.getD r1.toNat [],q1,rfl,(getD_mem (by omega)),(by omega),hs1⟩
theorem bStringN {bb:Nat} {pb:Option Addr} (w:World) (hbd:w.heap[bb]?=some (.cells [.pointer pb,.slice none 0 0].toArray 181 (0,0))):Does Tryz.prog 195 [pB bb] w (fun v w'=>v=Str []∧SH w w' [bb] []):=by
 refine fE (N:=14) Tryz.func195 r0 (by kernel_rfl) r0 ?_
 have hs0:=SH.entry1 hbd
 refine sr (tA (Str []) r0 (nn (sq (ra (fun w'=>∃ L,SH w w' [bb] L∧(.blk bb 181 [.pointer pb,ns])∈L∧True) mixed ?_))))
 have hs1:=hs0.drew
 refine tk (fuel:=2) (is:=[0,1,2,3,4,5,6,7,8,9]) (.cons r0 (.cons r0 (.cons r0 (.cons r0 (.cons r0 (.cons r0 (.cons r0 (.cons r0 (.cons r0 (.cons r0 (.nil))))))))))) (by kernel_rfl) (by kernel_rfl) (m1 hs1 0 r0) (yA r0 (mv (v:=pB bb) r0) (yA r0 (nc r0) (yA r0 (fa 1 fo181_1 r0) (yB r0 (fun ⟨Lq,hsq,mh0,_⟩=>lM ns hsq mh0 r0 one39) (yA r0 (usd0 r0) (yA r0 (mv (v:=pB bb) r0) (yA r0 (nc r0) ?_)))))))
 refine yA r0 (fa 1 fo181_1 r0) (yB r0 (fun ⟨Lq,hsq,mh0,_⟩=>lM ns hsq mh0 r0 one39) (yA r0 (lnA (n:=0) sl39 r0) (.nil (a1 (i:=10) (by kernel_rfl) (one_ r0 (qt r0 (ust0 (p:=none) r0 r0) (nk (m1 hs1 0 r0) ?_)))))))
 refine tk (fuel:=0) (is:=[11]) (.cons r0 (.nil)) (by kernel_rfl) (by kernel_rfl) (m1 hs1 0 r0) (yA r0 (asg (v:=Str []) r0) (.nil (ad (by kernel_rfl) (nN (rt (fT (Str []) r0 ?_))))))
 exact⟨rfl,(hs1.pk [] r0)⟩
theorem bStringR {bb gb:Nat} {pb:Option Addr} {cbb:Nat} (l:List UInt8) (w:World) (hbd:w.heap[bb]?=some (.cells [.pointer pb,.slice (some ⟨gb,0,none⟩) l.length cbb].toArray 181 (0,0))) (hbo:OwnR w (some ⟨gb,0,none⟩) l.length cbb 5 1 (l.map U)) (hbx: ∀ k,(It.own (some ⟨gb,0,none⟩) l.length cbb 5 1 (l.map U)).has k→ ¬ (It.blk bb 181 [.pointer pb,.slice (some ⟨gb,0,none⟩) l.length cbb]).has k) (hl0:0<l.length) (hlc:cbb≠0):Does Tryz.prog 195 [pB bb] w (fun v w'=>v=Str l∧SH w w' ([bb]++(ownM (some ⟨gb,0,none⟩) cbb++[])) []):=by
 refine fE (N:=14) Tryz.func195 r0 (by kernel_rfl) r0 ?_
 have hs0:SH w w ([bb]++(ownM (Z6 gb) cbb++[])) [.blk bb 181 [.pointer pb,sb gb l.length cbb],.own (Z6 gb) l.length cbb 5 1 (l.map U)]:=entryB hbd hbo hbx
 refine sr (tA (Str []) r0 (nn (sq (ra (fun w'=>∃ L,SH w w' ([bb]++(ownM (Z6 gb) cbb++[])) L∧(.blk bb 181 [.pointer pb,sb gb l.length cbb])∈L∧True) mixed ?_))))
 have hs1:=hs0.drew
 refine tk (fuel:=2) (is:=[0,1,2,3,4,5,6,7,8,9]) (.cons r0 (.cons r0 (.cons r0 (.cons r0 (.cons r0 (.cons r0 (.cons r0 (.cons r0 (.cons r0 (.cons r0 (.nil))))))))))) (by kernel_rfl) (by kernel_rfl) (m1 hs1 0 r0) (yA r0 (mv (v:=pB bb) r0) (yA r0 (nc r0) (yA r0 (fa 1 fo181_1 r0) (yB r0 (fun ⟨Lq,hsq,mh0,_⟩=>lM (sb gb l.length cbb) hsq mh0 r0 one39) (yA r0 (usd (a:=⟨gb,0,none⟩) r0 (by exact hlc)) (yA r0 (mv (v:=pB bb) r0) (yA r0 (nc r0) ?_)))))))
 refine yA r0 (fa 1 fo181_1 r0) (yB r0 (fun ⟨Lq,hsq,mh0,_⟩=>lM (sb gb l.length cbb) hsq mh0 r0 one39) (yA r0 (lnA (n:=l.length) sl39 r0) (.nil (a1 (i:=10) (by kernel_rfl) (one_ r0 (ust (l:=l) hs1 1 r0 tp197 (by kernel_rfl) r0 r0 (by omega) trivial r0 (fun w1 hs2=>?_)))))))
 refine nk (m1 hs2 0 r0) ?_
 refine tk (fuel:=0) (is:=[11]) (.cons r0 (.nil)) (by kernel_rfl) (by kernel_rfl) (m1 hs2 0 r0) (yA r0 (asg (v:=Str l) r0) (.nil (ad (by kernel_rfl) (nN (rt (fT (Str l) r0 ?_))))))
 exact⟨rfl,(hs2.pk [] r0)⟩
theorem bString {bb:Nat} {pb:Option Addr} {Abb:Option Addr} {cbb:Nat} (l:List UInt8) (w:World) (hbd:w.heap[bb]?=some (.cells [.pointer pb,.slice Abb l.length cbb].toArray 181 (0,0))) (hpb:pb=none∨pb=some ⟨bb,0,none⟩) (hbo:OwnR w Abb l.length cbb 5 1 (l.map U)) (hbx: ∀ k,(It.own Abb l.length cbb 5 1 (l.map U)).has k→ ¬ (It.blk bb 181 [.pointer pb,.slice Abb l.length cbb]).has k) (hA:l.length=0→Abb=none∧cbb=0):Does Tryz.prog 195 [pB bb] w (fun v w'=>v=Str l∧SH w w' ([bb]++(ownM Abb cbb++[])) []):=by
 rcases Nat.eq_zero_or_pos l.length with h0 | h0
 ·obtain ⟨rfl,rfl⟩:=hA h0
  have hl:l=[]:=List.eq_nil_of_length_eq_zero h0
  subst hl
  exact(bStringN w hbd).mono fun v w' h=>⟨h.1,h.2.monoM (by intro k hk; simp at hk; subst hk; simp)⟩
 ·obtain ⟨gb,rfl⟩:=ownR_form hbo h0
  exact bStringR l w hbd hbo hbx h0 (by have:=hbo.2.1; omega)
theorem iLetter (c:UInt8) (w:World):Does Tryz.prog 156 [.int .u8 (c.toNat:Int)] w (fun v w'=>v=.bool (decide (97≤(c.toNat:Int)∧(c.toNat:Int)≤122))∧SH w w' [] []):=by
 refine fE (N:=9) Tryz.func156 r0 (by kernel_rfl) r0 ?_
 have hs0:=SH.refl w []
 refine sr (tA (.bool false) r0 (nx (tm (.int .u8 (c.toNat:Int)) r0 ?_)))
 refine qt r0 (geq (k:=.u8) (a:=(c.toNat:Int)) (b:=97) r0 r0) (tm (.bool (decide ((97:Int)≤(c.toNat:Int)))) r0 ?_)
 refine spd (p:=(97:Int)≤(c.toNat:Int)) 5 r0 (fun h1=>?_) (fun h1=>?_)
 ·refine q ⟨_,rfl,rfl⟩ r0 r0 (mv (v:=.int .u8 (c.toNat:Int)) r0) (q ⟨_,rfl,rfl⟩ r0 r0 (leq (k:=.u8) (a:=(c.toNat:Int)) (b:=122) r0 r0) (qt r0 (pt (v:=.bool (decide ((c.toNat:Int)≤122))) r0 r0) (tA (.bool (decide ((c.toNat:Int)≤122))) r0 (nn (rt (fT (.bool (decide ((c.toNat:Int)≤122))) r0 ?_))))))
  have e1:(decide ((c.toNat:Int)≤122))=(decide (97≤(c.toNat:Int)∧(c.toNat:Int)≤122)):=by simp[h1]
  exact⟨(congrArg (Value.bool) e1),hs0⟩
 ·refine gf5 r0 (gf5 r0 (qt r0 (pf (v:=.bool false) r0 r0) (tA (.bool false) r0 (nn (rt (fT (.bool false) r0 ?_))))))
  have e2:false=(decide (97≤(c.toNat:Int)∧(c.toNat:Int)≤122)):=by simp[h1]
  exact⟨(congrArg (Value.bool) e2),hs0⟩
theorem iDigit (c:UInt8) (w:World):Does Tryz.prog 176 [.int .u8 (c.toNat:Int)] w (fun v w'=>v=.bool (decide (48≤(c.toNat:Int)∧(c.toNat:Int)≤57))∧SH w w' [] []):=by
 refine fE (N:=9) Tryz.func176 r0 (by kernel_rfl) r0 ?_
 have hs0:=SH.refl w []
 refine sr (tA (.bool false) r0 (nx (tm (.int .u8 (c.toNat:Int)) r0 ?_)))
 refine qt r0 (geq (k:=.u8) (a:=(c.toNat:Int)) (b:=48) r0 r0) (tm (.bool (decide ((48:Int)≤(c.toNat:Int)))) r0 ?_)
 refine spd (p:=(48:Int)≤(c.toNat:Int)) 5 r0 (fun h1=>?_) (fun h1=>?_)
 ·refine q ⟨_,rfl,rfl⟩ r0 r0 (mv (v:=.int .u8 (c.toNat:Int)) r0) (q ⟨_,rfl,rfl⟩ r0 r0 (leq (k:=.u8) (a:=(c.toNat:Int)) (b:=57) r0 r0) (qt r0 (pt (v:=.bool (decide ((c.toNat:Int)≤57))) r0 r0) (tA (.bool (decide ((c.toNat:Int)≤57))) r0 (nn (rt (fT (.bool (decide ((c.toNat:Int)≤57))) r0 ?_))))))
  have e1:(decide ((c.toNat:Int)≤57))=(decide (48≤(c.toNat:Int)∧(c.toNat:Int)≤57)):=by simp[h1]
  exact⟨(congrArg (Value.bool) e1),hs0⟩
 ·refine gf5 r0 (gf5 r0 (qt r0 (pf (v:=.bool false) r0 r0) (tA (.bool false) r0 (nn (rt (fT (.bool false) r0 ?_))))))
  have e2:false=(decide (48≤(c.toNat:Int)∧(c.toNat:Int)≤57)):=by simp[h1]
  exact⟨(congrArg (Value.bool) e2),hs0⟩
theorem sLetter (c:UInt8) (w:World):Does Tryz.prog 181 [.int .u8 (c.toNat:Int)] w (fun v w'=>v=.bool (letC c)∧SH w w' [] []):=by
 refine fE (N:=21) Tryz.func181 r0 (by kernel_rfl) r0 ?_
 have hs0:=SH.refl w []
 refine sr (tA (.bool false) r0 (nx (tm (.int .u8 (c.toNat:Int)) r0 ?_)))
 refine qt r0 (geq (k:=.u8) (a:=(c.toNat:Int)) (b:=97) r0 r0) (tm (.bool (decide ((97:Int)≤(c.toNat:Int)))) r0 ?_)
 refine spd (p:=(97:Int)≤(c.toNat:Int)) 5 r0 (fun h1=>?_) (fun h1=>?_)
 ·refine q ⟨_,rfl,rfl⟩ r0 r0 (mv (v:=.int .u8 (c.toNat:Int)) r0) (q ⟨_,rfl,rfl⟩ r0 r0 (leq (k:=.u8) (a:=(c.toNat:Int)) (b:=122) r0 r0) (qt r0 (pt (v:=.bool (decide ((c.toNat:Int)≤122))) r0 r0) (tm (.bool (decide ((c.toNat:Int)≤122))) r0 ?_)))
  refine spd (p:=(c.toNat:Int)≤122) 9 r0 (fun h2=>?_) (fun h2=>?_)
  ·refine gt5 r0 (gt5 r0 (gt5 r0 (gku r0 r0 r0 r0 r0 (gku r0 r0 r0 r0 r0 (gt5 r0 (qt r0 (pt (v:=.bool true) r0 r0) (tm (.bool true) r0 ?_)))))))
   refine gt5 r0 (gt5 r0 (qt r0 (pt (v:=.bool true) r0 r0) (tA (.bool true) r0 (nn (rt (fT (.bool true) r0 ?_))))))
   have e1:true=letC c:=by simp only[letC]; (simp; omega)
   exact⟨(congrArg (Value.bool) e1),hs0⟩
  ·refine q ⟨_,rfl,rfl⟩ r0 r0 (mv (v:=.int .u8 (c.toNat:Int)) r0) (q ⟨_,rfl,rfl⟩ r0 r0 (geq (k:=.u8) (a:=(c.toNat:Int)) (b:=48) r0 r0) (q ⟨_,rfl,rfl⟩ r0 r0 (mv (v:=.bool (decide ((48:Int)≤(c.toNat:Int)))) r0) ?_))
   refine spd (p:=(48:Int)≤(c.toNat:Int)) 12 r0 (fun h3=>?_) (fun h3=>?_)
   ·refine q ⟨_,rfl,rfl⟩ r0 r0 (mv (v:=.int .u8 (c.toNat:Int)) r0) (q ⟨_,rfl,rfl⟩ r0 r0 (leq (k:=.u8) (a:=(c.toNat:Int)) (b:=57) r0 r0) (q ⟨_,rfl,rfl⟩ r0 r0 (pt (v:=.bool (decide ((c.toNat:Int)≤57))) r0 r0) (qt r0 (pf (v:=.bool (decide ((c.toNat:Int)≤57))) r0 r0) (tm (.bool (decide ((c.toNat:Int)≤57))) r0 ?_))))
    refine spd (p:=(c.toNat:Int)≤57) 17 r0 (fun h4=>?_) (fun h4=>?_)
    ·refine gt5 r0 (gt5 r0 (qt r0 (pt (v:=.bool true) r0 r0) (tA (.bool true) r0 (nn (rt (fT (.bool true) r0 ?_))))))
     have e2:true=letC c:=by simp only[letC]; (simp; omega)
     exact⟨(congrArg (Value.bool) e2),hs0⟩
    ·refine q ⟨_,rfl,rfl⟩ r0 r0 (mv (v:=.int .u8 (c.toNat:Int)) r0) (q ⟨_,rfl,rfl⟩ r0 r0 (eqi (k:=.u8) (a:=(c.toNat:Int)) (b:=45) r0 r0) (qt r0 (pf (v:=.bool (decide ((c.toNat:Int)=45))) r0 r0) (tA (.bool (decide ((c.toNat:Int)=45))) r0 (nn (rt (fT (.bool (decide ((c.toNat:Int)=45))) r0 ?_))))))
     have e3:(decide ((c.toNat:Int)=45))=letC c:=by simp only[letC]; simp[h1,h2,h3,h4]
     exact⟨(congrArg (Value.bool) e3),hs0⟩
   ·refine gf5 r0 (gf5 r0 (q ⟨_,rfl,rfl⟩ r0 r0 (pf (v:=.bool false) r0 r0) (qt r0 (pf (v:=.bool false) r0 r0) (tm (.bool false) r0 (q ⟨_,rfl,rfl⟩ r0 r0 (mv (v:=.int .u8 (c.toNat:Int)) r0) (q ⟨_,rfl,rfl⟩ r0 r0 (eqi (k:=.u8) (a:=(c.toNat:Int)) (b:=45) r0 r0) (qt r0 (pf (v:=.bool (decide ((c.toNat:Int)=45))) r0 r0) ?_)))))))
    refine tA (.bool (decide ((c.toNat:Int)=45))) r0 (nn (rt (fT (.bool (decide ((c.toNat:Int)=45))) r0 ?_)))
    have e4:(decide ((c.toNat:Int)=45))=letC c:=by simp only[letC]; (simp; omega)
    exact⟨(congrArg (Value.bool) e4),hs0⟩
 ·refine gf5 r0 (gf5 r0 (qt r0 (pf (v:=.bool false) r0 r0) (tm (.bool false) r0 (q ⟨_,rfl,rfl⟩ r0 r0 (mv (v:=.int .u8 (c.toNat:Int)) r0) (q ⟨_,rfl,rfl⟩ r0 r0 (geq (k:=.u8) (a:=(c.toNat:Int)) (b:=48) r0 r0) (q ⟨_,rfl,rfl⟩ r0 r0 (mv (v:=.bool (decide ((48:Int)≤(c.toNat:Int)))) r0) ?_))))))
  refine spd (p:=(48:Int)≤(c.toNat:Int)) 12 r0 (fun h5=>?_) (fun h5=>?_)
  ·refine q ⟨_,rfl,rfl⟩ r0 r0 (mv (v:=.int .u8 (c.toNat:Int)) r0) (q ⟨_,rfl,rfl⟩ r0 r0 (leq (k:=.u8) (a:=(c.toNat:Int)) (b:=57) r0 r0) (q ⟨_,rfl,rfl⟩ r0 r0 (pt (v:=.bool (decide ((c.toNat:Int)≤57))) r0 r0) (qt r0 (pf (v:=.bool (decide ((c.toNat:Int)≤57))) r0 r0) (tm (.bool (decide ((c.toNat:Int)≤57))) r0 ?_))))
   refine spd (p:=(c.toNat:Int)≤57) 17 r0 (fun h6=>?_) (fun h6=>?_)
   ·refine gt5 r0 (gt5 r0 (qt r0 (pt (v:=.bool true) r0 r0) (tA (.bool true) r0 (nn (rt (fT (.bool true) r0 ?_))))))
    have e5:true=letC c:=by simp only[letC]; (simp; omega)
    exact⟨(congrArg (Value.bool) e5),hs0⟩
   ·refine q ⟨_,rfl,rfl⟩ r0 r0 (mv (v:=.int .u8 (c.toNat:Int)) r0) (q ⟨_,rfl,rfl⟩ r0 r0 (eqi (k:=.u8) (a:=(c.toNat:Int)) (b:=45) r0 r0) (qt r0 (pf (v:=.bool (decide ((c.toNat:Int)=45))) r0 r0) (tA (.bool (decide ((c.toNat:Int)=45))) r0 (nn (rt (fT (.bool (decide ((c.toNat:Int)=45))) r0 ?_))))))
    have e6:(decide ((c.toNat:Int)=45))=letC c:=by simp only[letC]; simp[h1,h5,h6]
    exact⟨(congrArg (Value.bool) e6),hs0⟩
  ·refine gf5 r0 (gf5 r0 (q ⟨_,rfl,rfl⟩ r0 r0 (pf (v:=.bool false) r0 r0) (qt r0 (pf (v:=.bool false) r0 r0) (tm (.bool false) r0 (q ⟨_,rfl,rfl⟩ r0 r0 (mv (v:=.int .u8 (c.toNat:Int)) r0) (q ⟨_,rfl,rfl⟩ r0 r0 (eqi (k:=.u8) (a:=(c.toNat:Int)) (b:=45) r0 r0) (qt r0 (pf (v:=.bool (decide ((c.toNat:Int)=45))) r0 r0) ?_)))))))
   refine tA (.bool (decide ((c.toNat:Int)=45))) r0 (nn (rt (fT (.bool (decide ((c.toNat:Int)=45))) r0 ?_)))
   have e7:(decide ((c.toNat:Int)=45))=letC c:=by simp only[letC]; simp[h1,h5]
   exact⟨(congrArg (Value.bool) e7),hs0⟩
theorem isPort (x:Int) (w:World):Does Tryz.prog 122 [I x] w (fun v w'=>v=.bool (decide (0≤x∧x≤65535))∧SH w w' [] []):=by
 refine fE (N:=5) Tryz.func122 r0 (by kernel_rfl) r0 ?_
 have hs0:=SH.refl w []
 refine sr (tA (.bool false) r0 (nx (tm (I x) r0 ?_)))
 refine cL r0 (iWithin (x:=x) (lo:=0) (hi:=65535) (w:=_)) ?_
 rintro _ w1 ⟨rfl,hs1⟩
 replace hs1:=hs0.call0 hs1
 refine tA (.bool (decide (0≤x∧x≤65535))) r0 (nn (rt (fT (.bool (decide (0≤x∧x≤65535))) r0 ?_)))
 exact⟨rfl,hs1⟩
theorem iConsists (l:List UInt8) (m:List UInt8) (w:World) (hl_n:l.length≤9223372036854775807):Does Tryz.prog 155 [Str l,Str m] w (fun v w'=>v=.bool (l.all (okC m))∧SH w w' [] []):=by
 refine fE (N:=32) Tryz.func155 r0 (by kernel_rfl) r0 ?_
 have hs0:=SH.refl w []
 refine sr (tA (.bool false) r0 (nn (sq (sr ?_))))
 refine tm (Str l) r0 (qt r0 (lnS (l:=l) st9 r0) (tm (I 0) r0 (nn (bl (lp (σ:=Nat) (fun(k:Nat) f w'=>Hz f [(0,Str l),(1,Str m),(7,I (l.length:Int)),(8,I (k:Int))]∧(k≤l.length)∧((l.take k).all (okC m)=true)∧SH w w' [] []) (fun k=>l.length-k) 0 ⟨(zR r0),(by simp),(by simp),hs0⟩ ?_)))))
 rintro k f w1 ⟨⟨g1,rfl⟩,hk,ha,hs1⟩
 refine sr (qt r0 (lss (k:=.i64) (a:=(k:Int)) (b:=(l.length:Int)) r0 r0) (nn (sq ?_)))
 refine cdd (p:=(k:Int)<(l.length:Int)) r0 (fun h1=>?_) (fun h1=>?_)
 ·refine sk (nN (sq (bl (sr (tm (I (k:Int)) r0 (tA (I (k:Int)) r0 ?_))))))
  refine nx (tm (Str l) r0 (tm (I (k:Int)) r0 (qt r0 (ixs (l:=l) k st9 r0 r0 (by omega)) (cL r0 (iLetter (c:=(l.getD k 0)) (w:=_)) ?_))))
  rintro _ w2 ⟨rfl,hs2⟩
  replace hs2:=hs1.call0 hs2
  refine qt r0 (nd (p:=97≤(((l.getD k 0).toNat:Nat):Int)∧(((l.getD k 0).toNat:Nat):Int)≤122) r0) (tm (.bool (decide (¬ (97≤(((l.getD k 0).toNat:Nat):Int)∧(((l.getD k 0).toNat:Nat):Int)≤122)))) r0 ?_)
  refine spd (p:=¬ (97≤(((l.getD k 0).toNat:Nat):Int)∧(((l.getD k 0).toNat:Nat):Int)≤122)) 16 r0 (fun h2=>?_) (fun h2=>?_)
  ·refine q ⟨_,rfl,rfl⟩ r0 r0 (mv (v:=Str l) r0) (q ⟨_,rfl,rfl⟩ r0 r0 (mv (v:=I (k:Int)) r0) (q ⟨_,rfl,rfl⟩ r0 r0 (ixs (l:=l) k st9 r0 r0 (by omega)) (cl ⟨_,rfl,rfl⟩ r0 (iDigit (c:=(l.getD k 0)) (w:=_)) ?_)))
   rintro _ w3 ⟨rfl,hs3⟩
   replace hs3:=hs2.call0 hs3
   refine q ⟨_,rfl,rfl⟩ r0 r0 (nd (p:=48≤(((l.getD k 0).toNat:Nat):Int)∧(((l.getD k 0).toNat:Nat):Int)≤57) r0) (qt r0 (pt (v:=.bool (decide (¬ (48≤(((l.getD k 0).toNat:Nat):Int)∧(((l.getD k 0).toNat:Nat):Int)≤57)))) r0 r0) (tm (.bool (decide (¬ (48≤(((l.getD k 0).toNat:Nat):Int)∧(((l.getD k 0).toNat:Nat):Int)≤57)))) r0 ?_))
   refine spd (p:=¬ (48≤(((l.getD k 0).toNat:Nat):Int)∧(((l.getD k 0).toNat:Nat):Int)≤57)) 23 r0 (fun h3=>?_) (fun h3=>?_)
   ·refine q ⟨_,rfl,rfl⟩ r0 r0 (mv (v:=Str m) r0) (q ⟨_,rfl,rfl⟩ r0 r0 (mv (v:=Str l) r0) (q ⟨_,rfl,rfl⟩ r0 r0 (mv (v:=I (k:Int)) r0) (q ⟨_,rfl,rfl⟩ r0 r0 (ixs (l:=l) k st9 r0 r0 (by omega)) (cl ⟨_,rfl,rfl⟩ r0 (stIndexByte (l:=m) (c:=(l.getD k 0)) (w:=_)) ?_))))
    rintro _ w4 ⟨rfl,hs4⟩
    replace hs4:=hs3.call0 hs4
    refine q ⟨_,rfl,rfl⟩ r0 r0 (lss (k:=.i64) (a:=idxB m (l.getD k 0)) (b:=0) r0 r0) (qt r0 (pt (v:=.bool (decide ((idxB m (l.getD k 0))<0))) r0 r0) (nn ?_))
    refine cdd (p:=(idxB m (l.getD k 0))<0) r0 (fun h4=>?_) (fun h4=>?_)
    ·refine sr (tA (.bool false) r0 (nn ?_))
     refine rt (bR (tR (tR (bR (tR ?_)))))
     refine fT (.bool false) r0 ?_
     have e1:false=l.all (okC m):=by exact(all_no (d:=0) (k:=k) (by omega) (by simp only[okC,decide_eq_false_iff_not]; omega)).symm
     exact⟨(congrArg (Value.bool) e1),hs4⟩
    ·refine sk (bN (nN (rg (qt r0 (add (a:=(k:Int)) (b:=1) r0 r0 (by exact⟨by omega,by omega⟩)) (tm (I ((k:Int)+1)) r0 (nn ?_))))))
     refine⟨(k+1),⟨(zR r0),(by omega),(all_step (d:=0) (by omega) ha (by simp only[okC,decide_eq_true_eq]; omega)),hs4⟩,?_⟩
     omega
   ·refine gf5 r0 (gf5 r0 (gf5 r0 (gf5 r0 (gf5 r0 (gf5 r0 (qt r0 (pf (v:=.bool false) r0 r0) (nl ?_)))))))
    refine nN (cdf r0 (sk (bN (nN (rg (qt r0 (add (a:=(k:Int)) (b:=1) r0 r0 (by exact⟨by omega,by omega⟩)) (tm (I ((k:Int)+1)) r0 ?_)))))))
    refine nn ?_
    refine⟨(k+1),⟨(zR r0),(by omega),(all_step (d:=0) (by omega) ha (by simp only[okC,decide_eq_true_eq]; omega)),hs3⟩,?_⟩
    omega
  ·refine gf5 r0 (gf5 r0 (gf5 r0 (gf5 r0 (gf5 r0 (qt r0 (pf (v:=.bool false) r0 r0) (tm (.bool false) r0 (gf5 r0 ?_)))))))
   refine gf5 r0 (gf5 r0 (gf5 r0 (gf5 r0 (gf5 r0 (qt r0 (pf (v:=.bool false) r0 r0) (nn ?_))))))
   refine cdf r0 (sk (bN (nN (rg (qt r0 (add (a:=(k:Int)) (b:=1) r0 r0 (by exact⟨by omega,by omega⟩)) (tm (I ((k:Int)+1)) r0 (nl ?_)))))))
   refine nN ?_
   refine⟨(k+1),⟨(zR r0),(by omega),(all_step (d:=0) (by omega) ha (by simp only[okC,decide_eq_true_eq]; omega)),hs2⟩,?_⟩
   omega
 ·refine ex (tE (tE (bE ?_)))
  refine nN (sr (tA (.bool true) r0 (nn (rt (fT (.bool true) r0 ?_)))))
  have e2:true=l.all (okC m):=by exact(all_yes (by omega) ha).symm
  exact⟨(congrArg (Value.bool) e2),hs1⟩
theorem slClone {Axs:Option Addr} {cxs:Nat} (xs:List Int) (w:World) (hxs:Sl w [] 1 Axs xs.length cxs (xs.map I)) (hxs_n:xs.length≤1099511627776):Does Tryz.prog 104 [.slice Axs xs.length cxs] w (fun v w'=>∃ Ar:Option Addr,∃ cr:Nat,v=.slice Ar xs.length cr∧SH w w' [] [.own Ar xs.length cr 3 1 (xs.map I)]):=by
 refine fE (N:=8) Tryz.func104 r0 (by kernel_rfl) r0 ?_
 have hs0:=SH.refl w []
 have hxs_m:xs.length≤9223372036854775807:=Nat.le_trans hxs.cap hxs.capMax
 refine sr (tA ns r0 (nn (sq (sr ?_))))
 refine tm (Z13 Axs xs cxs) r0 (qt r0 (slnil (A:=Axs) sl22 r0 r0) (nn ?_))
 refine cdd (p:=Axs=none) r0 (fun h1=>?_) (fun h1=>?_)
 ·refine sr (tA ns r0 (nn (rt (tR ?_))))
  refine fT ns r0 ?_
  have hs1:=hs0.nl [.own none (([]:List Int).length) 0 3 1 (([]:List Int).map I)] r0
  have e1:([]:List Int)=xs:=by exact(sl_none hxs ‹_›).symm
  have e2:=congrArg List.length e1
  exact⟨none,0,(slv r0 e2 r0),(hs1.cast (lc (own_eq (g:=I) r0 e2 r0 e1) r0))⟩
 ·refine sk (nN (sr (bsk hs0 sl22 [] [] trivial r0 (fun b1 w1 hs2=>?_))))
  refine tm (Z13 Axs xs cxs) r0 (apm (g:=I) (ys:=([]:List Int)) (zs:=xs) hs2 0 r0 sl22 r0 r0 r0 (hxs.up0 hs2) (fun _=>rfl) (by unfold maxLen; (simp; omega)) (by(simp; omega)) trivial r0 (fun A1 c1 w2 hs3=>?_))
  refine tA (Z13 A1 xs c1) r0 (nn (rt (fT (Z13 A1 xs c1) r0 ?_)))
  exact⟨A1,c1,rfl,hs3⟩
theorem slGrow (n:Int) (w:World) (hn:0≤n∧n≤1099511627776):Does Tryz.prog 165 [ns,I n] w (fun v w'=>∃ Ar:Option Addr,∃ cr:Nat,v=.slice Ar ([]:List Int).length cr∧SH w w' [] [.own Ar (([]:List Int).length) cr 3 1 (([]:List Int).map I)]):=by
 refine fE (N:=27) Tryz.func165 r0 (by kernel_rfl) r0 ?_
 have hs0:=SH.refl w []
 refine sr (tA ns r0 (nn (sq (sr ?_))))
 refine tm (I n) r0 (qt r0 (lss (k:=.i64) (a:=n) (b:=0) r0 r0) (nn ?_))
 refine cdd (p:=n<0) r0 (fun h1=>absurd h1 (by omega)) (fun h1=>?_)
 refine sk (nN (sq (sr (tm (I n) r0 (tm ns r0 (qt r0 (lnC (c:=0) sl22 r0) ?_))))))
 refine tm ns r0 (qt r0 (lnA (n:=0) sl22 r0) (qt r0 (sub (a:=0) (b:=0) r0 r0 (by exact⟨by omega,by omega⟩)) (qt r0 (sub (a:=n) (b:=(0:Int)-0) r0 r0 (by exact⟨by omega,by omega⟩)) (tA (I (n-((0:Int)-0))) r0 (nn (sq ?_))))))
 refine rg (tm (I (n-((0:Int)-0))) r0 (qt r0 (gtr (k:=.i64) (a:=n-((0:Int)-0)) (b:=0) r0 r0) (nn ?_)))
 refine cdd (p:=(0:Int)<(n-((0:Int)-0))) r0 (fun h2=>?_) (fun h2=>?_)
 ·refine rg (tm ns r0 (tm ns r0 (qt r0 (lnC (c:=0) sl22 r0) (qt r0 (cun sl22 r0 r0) (tm (I (n-((0:Int)-0))) r0 (apz (g:=I) (zz:=0) (m:=(n-((0:Int)-0)).toNat) hs0 sl22 r0 ti3 r0 (ieq (x:=n-((0:Int)-0)) (by omega)) (by omega) (by unfold maxLen; omega) (by omega) trivial r0 (fun A1 c1 w1 hs1=>?_)))))))
  refine tm ns r0 (qt r0 (lnA (n:=0) sl22 r0) ?_)
  have e1:((List.replicate ((n-((0:Int)-0)).toNat) (0:Int)).map I).take (0*1)=((List.replicate ((n-((0:Int)-0)).toNat) (0:Int)).take 0).map I:=by rfl
  have hs2:SH w w1 [] [.own A1 0 c1 3 1 (((List.replicate ((n-((0:Int)-0)).toNat) (0:Int)).take 0).map I)]:=e1 ▸ SH.trunc hs1 0 (0) r0 (by omega)
  refine qt r0 (cuh 0 sl22 r0 r0 (Nat.le_trans (by omega) (own_cap hs1 0 r0).1)) (tA (.slice A1 0 c1) r0 ?_)
  have e2:0=((List.replicate ((n-((0:Int)-0)).toNat) (0:Int)).take 0).length:=by rfl
  have hs3:SH w w1 [] [.own A1 (((List.replicate ((n-((0:Int)-0)).toNat) (0:Int)).take 0).length) c1 3 1 (((List.replicate ((n-((0:Int)-0)).toNat) (0:Int)).take 0).map I)]:=(hs2.cast (lc (own_eq (g:=I) r0 e2 r0 r0) r0))
  refine re 0 (v:=.slice A1 (((List.replicate ((n-((0:Int)-0)).toNat) (0:Int)).take 0).length) c1) (show (.slice A1 0 c1:Value)=.slice A1 (((List.replicate ((n-((0:Int)-0)).toNat) (0:Int)).take 0).length) c1 from slv r0 e2 r0) (nx (tm (.slice A1 (((List.replicate ((n-((0:Int)-0)).toNat) (0:Int)).take 0).length) c1) r0 (tA (.slice A1 (((List.replicate ((n-((0:Int)-0)).toNat) (0:Int)).take 0).length) c1) r0 (nl ?_))))
  refine nN (rt (fT (.slice A1 (((List.replicate ((n-((0:Int)-0)).toNat) (0:Int)).take 0).length) c1) r0 ?_))
  have e3:(List.replicate ((n-((0:Int)-0)).toNat) (0:Int)).take 0=([]:List Int):=by rfl
  have e4:=congrArg List.length e3
  exact⟨A1,c1,(slv r0 e4 r0),(hs3.cast (lc (own_eq (g:=I) r0 e4 r0 e3) r0))⟩
 ·refine sk (nN (sr (tm ns r0 (tA ns r0 (nn ?_)))))
  refine rt (fT ns r0 ?_)
  have hs4:=hs0.nl [.own none (([]:List Int).length) 0 3 1 (([]:List Int).map I)] r0
  exact⟨none,0,rfl,hs4⟩
theorem slConcat {Ahs:Option Addr} {chs:Nat} (hs:List Hd) (w:World) (hhs:Sl w [] 1 Ahs hs.length chs (hs.map hv)) (hhs_in: ∀ u∈hs,HdOk w [] u) (hct:(catH hs).length≤1099511627776):Does Tryz.prog 130 [.slice Ahs hs.length chs] w (fun v w'=>∃ Ar:Option Addr,∃ cr:Nat,v=.slice Ar (catH hs).length cr∧SH w w' [] [.own Ar ((catH hs).length) cr 3 1 ((catH hs).map I)]):=by
 refine fE (N:=36) Tryz.func130 r0 (by kernel_rfl) r0 ?_
 have hs0:=SH.refl w []
 have hhs_m:hs.length≤9223372036854775807:=Nat.le_trans hhs.cap hhs.capMax
 refine sr (tA ns r0 (nx (tA (I 0) r0 ?_)))
 refine nn (sq (sr (tm (.slice Ahs hs.length chs) r0 (qt r0 (lnA (n:=hs.length) sl91 r0) (tm (I 0) r0 ?_)))))
 refine nn (bl (lp (σ:=Nat) (fun(k:Nat) f w'=>Hz f [(0,.slice Ahs hs.length chs),(3,I ((catH (hs.take k)).length:Int)),(9,.slice Ahs hs.length chs),(10,I (hs.length:Int)),(11,I (k:Int))]∧(k≤hs.length)∧SH w w' [] []) (fun k=>hs.length-k) 0 ⟨(zH ⟨rfl,(show (I 0:Value)=I ((catH (hs.take 0)).length:Int) from congrArg (Value.int .i64) (by simp[catH])),rfl,rfl,rfl,trivial⟩),(by simp),hs0⟩ ?_))
 rintro k f w1 ⟨⟨g1,rfl⟩,hk,hs1⟩
 refine sr (qt r0 (lss (k:=.i64) (a:=(k:Int)) (b:=(hs.length:Int)) r0 r0) (nn (sq ?_)))
 refine cdd (p:=(k:Int)<(hs.length:Int)) r0 (fun h1=>?_) (fun h1=>?_)
 ·refine sk (nN (sq (bl (sr (ixw1 k sl91 r0 r0 hhs (by omega) (getm hv hd0 (by omega)) trivial r0 (fun a1 ha1=>?_))))))
  refine qt r0 (lda (v:=.slice ((hs.getD k hd0).A) (((hs.getD k hd0).xs).length) ((hs.getD k hd0).c)) hs1 ha1 (fun _ h=>h) r0 r0 one22) (tA (.slice ((hs.getD k hd0).A) (((hs.getD k hd0).xs).length) ((hs.getD k hd0).c)) r0 (nx (tm (I ((catH (hs.take k)).length:Int)) r0 (tm (.slice ((hs.getD k hd0).A) (((hs.getD k hd0).xs).length) ((hs.getD k hd0).c)) r0 ?_))))
  refine qt r0 (lnA (n:=((hs.getD k hd0).xs).length) sl22 r0) (qt r0 (add (a:=((catH (hs.take k)).length:Int)) (b:=((((hs.getD k hd0).xs).length:Nat):Int)) r0 r0 (by have hq:=catH_len (l:=hs) (k:=k+1); rw[← catH_succ (by omega),List.length_append]at hq; exact⟨by omega,by omega⟩)) (tA (I (((catH (hs.take k)).length:Int)+((((hs.getD k hd0).xs).length:Nat):Int))) r0 (nx (tm (I (((catH (hs.take k)).length:Int)+((((hs.getD k hd0).xs).length:Nat):Int))) r0 ?_))))
  refine qt r0 (lss (k:=.i64) (a:=((catH (hs.take k)).length:Int)+((((hs.getD k hd0).xs).length:Nat):Int)) (b:=0) r0 r0) (nn ?_)
  refine cdd (p:=(((catH (hs.take k)).length:Int)+((((hs.getD k hd0).xs).length:Nat):Int))<0) r0 (fun h2=>absurd h2 (by omega)) (fun h2=>?_)
  refine sk (bN (nN (rg (qt r0 (add (a:=(k:Int)) (b:=1) r0 r0 (by exact⟨by omega,by omega⟩)) (tm (I ((k:Int)+1)) r0 (nn ?_))))))
  refine⟨(k+1),⟨(zH ⟨rfl,(show (I (((catH (hs.take k)).length:Int)+((((hs.getD k hd0).xs).length:Nat):Int)):Value)=I ((catH (hs.take (k+1))).length:Int) from congrArg (Value.int .i64) (by rw[← catH_succ (by omega)]; simp)),rfl,rfl,rfl,trivial⟩),(by omega),hs1⟩,?_⟩
  omega
 ·refine ex (tE (tE (bE ?_)))
  refine nN (sr (tm (I ((catH (hs.take k)).length:Int)) r0 (cL r0 (slGrow (n:=((catH (hs.take k)).length:Int)) (w:=_) (hn:=(by have hq:=catH_len (l:=hs) (k:=k); omega))) ?_)))
  rintro _ w2 ⟨A1,c1,rfl,hs2⟩
  replace hs2:=hs1.call0 hs2
  refine tA (.slice A1 (([]:List Int).length) c1) r0 (nn (sq (sr (tm (.slice Ahs hs.length chs) r0 (qt r0 (lnA (n:=hs.length) sl91 r0) ?_)))))
  refine tm (I 0) r0 (nn (bl ?_))
  have e1:([]:List Int)=catH (hs.take 0):=by simp[catH]
  have e2:([]:List Int).length=(catH (hs.take 0)).length:=by rw[e1]
  refine lp (σ:=(Option Addr)×Nat×Nat) (fun⟨Ag6,cg6,j⟩ f w'=>Hz f [(6,.slice Ag6 ((catH (hs.take j)).length) cg6),(25,.slice Ahs hs.length chs),(26,I (hs.length:Int)),(27,I (j:Int))]∧(j≤hs.length)∧SH w w' [] [.own Ag6 ((catH (hs.take j)).length) cg6 3 1 ((catH (hs.take j)).map I)]) (fun⟨Ag6,cg6,j⟩=>hs.length-j) (A1,c1,0) ⟨(zH ⟨(show (.slice A1 (([]:List Int).length) c1:Value)=.slice A1 ((catH (hs.take 0)).length) c1 from slv r0 e2 r0),rfl,rfl,rfl,trivial⟩),(by simp),(hs2.cast (lc (own_eq (g:=I) r0 e2 r0 e1) r0))⟩ ?_
  rintro ⟨Ag6,cg6,j⟩ f w3 ⟨⟨g2,rfl⟩,hj,hs3⟩
  refine sr (qt r0 (lss (k:=.i64) (a:=(j:Int)) (b:=(hs.length:Int)) r0 r0) (nn (sq ?_)))
  refine cdd (p:=(j:Int)<(hs.length:Int)) r0 (fun h3=>?_) (fun h3=>?_)
  ·refine sk (nN (sq (bl (sr (ixw1 j sl91 r0 r0 hhs (by omega) (getm hv hd0 (by omega)) trivial r0 (fun a2 ha2=>?_))))))
   refine qt r0 (lda (v:=.slice ((hs.getD j hd0).A) (((hs.getD j hd0).xs).length) ((hs.getD j hd0).c)) hs3 ha2 (fun _ h=>h) r0 r0 one22) (tA (.slice ((hs.getD j hd0).A) (((hs.getD j hd0).xs).length) ((hs.getD j hd0).c)) r0 (nn (rg (tm (.slice Ag6 ((catH (hs.take j)).length) cg6) r0 (tm (.slice ((hs.getD j hd0).A) (((hs.getD j hd0).xs).length) ((hs.getD j hd0).c)) r0 (apm (g:=I) (ys:=catH (hs.take j)) (zs:=(hs.getD j hd0).xs) hs3 0 r0 sl22 r0 r0 r0 (Sl.up0 (hhs_in _ (getD_mem' (by omega))) hs3) (fun _=>rfl) (by unfold maxLen; have hq:=catH_len (l:=hs) (k:=j+1); rw[← catH_succ (by omega),List.length_append]at hq; omega) (by have hq:=catH_len (l:=hs) (k:=j+1); rw[← catH_succ (by omega),List.length_append]at hq; omega) trivial r0 (fun A2 c2 w4 hs4=>?_)))))))
   refine tA (.slice A2 (((catH (hs.take j))++((hs.getD j hd0).xs)).length) c2) r0 (nl (bN (nN (rg (qt r0 (add (a:=(j:Int)) (b:=1) r0 r0 (by exact⟨by omega,by omega⟩)) (tm (I ((j:Int)+1)) r0 (nl ?_)))))))
   refine nN ?_
   have e3:(catH (hs.take j))++((hs.getD j hd0).xs)=catH (hs.take (j+1)):=by exact catH_succ (by omega)
   have e4:((catH (hs.take j))++((hs.getD j hd0).xs)).length=(catH (hs.take (j+1))).length:=by rw[e3]
   refine⟨(A2,c2,j+1),⟨(zH ⟨(show (.slice A2 (((catH (hs.take j))++((hs.getD j hd0).xs)).length) c2:Value)=.slice A2 ((catH (hs.take (j+1))).length) c2 from slv r0 e4 r0),rfl,rfl,rfl,trivial⟩),(by omega),(hs4.cast (lc (own_eq (g:=I) r0 e4 r0 e3) r0))⟩,?_⟩
   show hs.length-(j+1)<hs.length-j
   omega
  ·refine ex (tE (tE (bE ?_)))
   refine nN (sr (tm (.slice Ag6 ((catH (hs.take j)).length) cg6) r0 (tA (.slice Ag6 ((catH (hs.take j)).length) cg6) r0 (nn (rt ?_)))))
   refine fT (.slice Ag6 ((catH (hs.take j)).length) cg6) r0 ?_
   have e5:catH (hs.take j)=catH hs:=by have:j=hs.length:=(by omega); subst this; simp
   have e6:=congrArg List.length e5
   exact⟨Ag6,cg6,(slv r0 e6 r0),(hs3.cast (lc (own_eq (g:=I) r0 e6 r0 e5) r0))⟩
theorem slIndexS (l:List UInt8) (c:UInt8) (w:World):Does Tryz.prog 182 [Str l,Str [c]] w (fun v w'=>v=.int .i64 (idxB l c)∧SH w w' [] []):=by
 refine fE (N:=143) Tryz.func182 r0 (by kernel_rfl) r0 ?_
 have hs0:=SH.refl w []
 refine sr (tA (I 0) r0 (nx (tm (Str [c]) r0 ?_)))
 refine qt r0 (lnS (l:=[c]) st9 r0) (tA (I (([c].length:Nat):Int)) r0 (nn (sq (bl (sr ?_)))))
 refine tm (I (([c].length:Nat):Int)) r0 (qt r0 (eqi (k:=.i64) (a:=(([c].length:Nat):Int)) (b:=0) r0 r0) (tm (.bool (decide ((([c].length:Nat):Int)=0))) r0 ?_))
 refine spd (p:=(([c].length:Nat):Int)=0) 19 r0 (fun h1=>absurd h1 (by simp)) (fun h1=>?_)
 refine q ⟨_,rfl,rfl⟩ r0 r0 (mv (v:=Str [c]) r0) (q ⟨_,rfl,rfl⟩ r0 r0 (mv (v:=Str l) r0) (q ⟨_,rfl,rfl⟩ r0 r0 (eqs (l:=[c]) (m:=l) r0 r0) (qt r0 (pf (v:=.bool (decide ([c]=l))) r0 r0) (tA (.bool (decide ([c]=l))) r0 (nn ?_)))))
 refine cdd (p:=[c]=l) r0 (fun h2=>?_) (fun h2=>?_)
 ·refine sr (tA (I 0) r0 (nn ?_))
  refine rt (bR (tR ?_))
  refine fT (I 0) r0 ?_
  have e1:0=idxB l c:=by subst h2; exact(idxB_self c).symm
  exact⟨(congrArg (Value.int .i64) e1),hs0⟩
 ·refine sr (tm (I (([c].length:Nat):Int)) r0 (qt r0 (eqi (k:=.i64) (a:=(([c].length:Nat):Int)) (b:=1) r0 r0) (tA (.bool (decide ((([c].length:Nat):Int)=1))) r0 (nn ?_))))
  refine cdd (p:=(([c].length:Nat):Int)=1) r0 (fun h3=>?_) (fun h3=>absurd (by rfl) h3)
  refine sr (tm (Str l) r0 (tm (Str [c]) r0 (qt r0 (ixs (l:=[c]) 0 st9 r0 r0 (by omega)) (cL r0 (slIndexByte (l:=l) (c:=([c].getD 0 0)) (w:=_)) ?_))))
  rintro _ w1 ⟨rfl,hs1⟩
  replace hs1:=hs0.call0 hs1
  refine tA (I (idxB l ([c].getD 0 0))) r0 (nn ?_)
  refine rt (bR (tR ?_))
  refine fT (I (idxB l ([c].getD 0 0))) r0 ?_
  have e2:idxB l ([c].getD 0 0)=idxB l c:=by rfl
  exact⟨(congrArg (Value.int .i64) e2),hs1⟩
theorem stIndex (l:List UInt8) (c:UInt8) (w:World):Does Tryz.prog 191 [Str l,Str [c]] w (fun v w'=>v=.int .i64 (idxB l c)∧SH w w' [] []):=by
 refine fE (N:=8) Tryz.func191 r0 (by kernel_rfl) r0 ?_
 have hs0:=SH.refl w []
 refine sr (tA (I 0) r0 (nx (tm (Str l) r0 ?_)))
 refine tm (Str [c]) r0 (cL r0 (slIndexS (l:=l) (c:=c) (w:=_)) ?_)
 rintro _ w1 ⟨rfl,hs1⟩
 replace hs1:=hs0.call0 hs1
 refine tA (I (idxB l c)) r0 (nn (rt (fT (I (idxB l c)) r0 ?_)))
 exact⟨rfl,hs1⟩
theorem stCount (l:List UInt8) (c:UInt8) (w:World):Does Tryz.prog 190 [Str l,Str [c]] w (fun v w'=>v=.int .i64 ((l.count c:Nat):Int)∧SH w w' [] []):=by
 refine fE (N:=34) Tryz.func190 r0 (by kernel_rfl) r0 ?_
 have hs0:=SH.refl w []
 refine sr (tA (I 0) r0 (nn (sq (sr ?_))))
 refine tm (Str [c]) r0 (qt r0 (lnS (l:=[c]) st9 r0) (qt r0 (eqi (k:=.i64) (a:=(([c].length:Nat):Int)) (b:=0) r0 r0) (nn ?_)))
 refine cdd (p:=(([c].length:Nat):Int)=0) r0 (fun h1=>absurd h1 (by simp)) (fun h1=>?_)
 refine sk (nN (sq (sr (tm (Str [c]) r0 (qt r0 (lnS (l:=[c]) st9 r0) (qt r0 (eqi (k:=.i64) (a:=(([c].length:Nat):Int)) (b:=1) r0 r0) ?_))))))
 refine nn ?_
 refine cdd (p:=(([c].length:Nat):Int)=1) r0 (fun h2=>?_) (fun h2=>absurd (by rfl) h2)
 refine sr (tm (Str l) r0 (tm (Str [c]) r0 (qt r0 (ixs (l:=[c]) 0 st9 r0 r0 (by omega)) (qt r0 (csc (l:=l) (c:=([c].getD 0 0)) Tryz.func210 (by kernel_rfl) r0 (by kernel_rfl) (by kernel_rfl) r0 r0) (tA (I ((l.count ([c].getD 0 0):Nat):Int)) r0 (nl ?_))))))
 refine nN (rt (tR ?_))
 refine fT (I ((l.count ([c].getD 0 0):Nat):Int)) r0 ?_
 have e1:((l.count ([c].getD 0 0):Nat):Int)=((l.count c:Nat):Int):=by rfl
 exact⟨(congrArg (Value.int .i64) e1),hs0⟩
theorem genSplit (l:List UInt8) (c:UInt8) (w:World) (hl_n:l.length≤1099511627776):Does Tryz.prog 175 [Str l,Str [c],I 0,I (-1)] w (fun v w'=>∃ Ar:Option Addr,∃ cr:Nat,v=.slice Ar (splitB c l).length cr∧SH w w' [] [.own Ar ((splitB c l).length) cr 9 1 ((splitB c l).map Str)]):=by
 refine fE (N:=66) Tryz.func175 r0 (by kernel_rfl) r0 ?_
 have hs0:=SH.refl w []
 refine sr (tA ns r0 (nn (sq (sr ?_))))
 refine tm (I (-1)) r0 (qt r0 (eqi (k:=.i64) (a:=(-1)) (b:=0) r0 r0) (nn ?_))
 refine cdd (p:=((-1):Int)=0) r0 (fun h1=>absurd h1 (by decide)) (fun h1=>?_)
 refine sk (nN (sq (sr (tm (Str [c]) r0 (qt r0 (eqs (l:=[c]) (m:=[]) r0 r0) (nl ?_))))))
 refine nN ?_
 refine cdd (p:=[c]=[]) r0 (fun h2=>absurd h2 (by simp)) (fun h2=>?_)
 refine sk (nN (sq (sr (tm (I (-1)) r0 (qt r0 (lss (k:=.i64) (a:=(-1)) (b:=0) r0 r0) (nl ?_))))))
 refine nN ?_
 refine cdd (p:=(-1)<0) r0 (fun h3=>?_) (fun h3=>absurd (by decide) h3)
 refine rg (tm (Str l) r0 (tm (Str [c]) r0 (cL r0 (stCount (l:=l) (c:=c) (w:=_)) ?_)))
 rintro _ w1 ⟨rfl,hs1⟩
 replace hs1:=hs0.call0 hs1
 refine qt r0 (add (a:=((l.count c:Nat):Int)) (b:=1) r0 r0 (by(have hsl:=splitB_len c l; have hcl:=List.count_le_length (a:=c) (l:=l); exact⟨by omega,by omega⟩))) (tA (I (((l.count c:Nat):Int)+1)) r0 (nx (tm (I (((l.count c:Nat):Int)+1)) r0 (tm (Str l) r0 ?_))))
 refine qt r0 (lnS (l:=l) st9 r0) (qt r0 (add (a:=(l.length:Int)) (b:=1) r0 r0 (by(exact⟨by omega,by omega⟩))) (qt r0 (mnI (a:=((l.count c:Nat):Int)+1) (b:=(l.length:Int)+1) r0 r0) (tA (I (min (((l.count c:Nat):Int)+1) ((l.length:Int)+1))) r0 (nx ?_))))
 refine tm (I (min (((l.count c:Nat):Int)+1) ((l.length:Int)+1))) r0 (mkm (g:=Str) (z:=[]) (n:=(min (((l.count c:Nat):Int)+1) ((l.length:Int)+1)).toNat) hs1 sl147 r0 (ieq (x:=min (((l.count c:Nat):Int)+1) ((l.length:Int)+1)) (by(omega))) (ieq (x:=min (((l.count c:Nat):Int)+1) ((l.length:Int)+1)) (by(omega))) (by(omega)) (by unfold maxLen; (omega)) trivial r0 (fun b1 w2 hs2=>?_))
 refine tA (sb b1 ((List.replicate ((min (((l.count c:Nat):Int)+1) ((l.length:Int)+1)).toNat) ([]:List UInt8)).length) ((min (((l.count c:Nat):Int)+1) ((l.length:Int)+1)).toNat)) r0 (nx (tm (I (min (((l.count c:Nat):Int)+1) ((l.length:Int)+1))) r0 (qt r0 (sub (a:=min (((l.count c:Nat):Int)+1) ((l.length:Int)+1)) (b:=1) r0 r0 (by(exact⟨by omega,by omega⟩))) (tA (I ((min (((l.count c:Nat):Int)+1) ((l.length:Int)+1))-1)) r0 ?_))))
 refine nx (tA (I 0) r0 (nn (sq ?_)))
 refine bl ?_
 have e1:List.replicate ((min (((l.count c:Nat):Int)+1) ((l.length:Int)+1)).toNat) ([]:List UInt8)=(splitB c l).take 0++List.replicate ((splitB c l).length-0) ([]:List UInt8):=by have hsl:=splitB_len c l; have hcl:=List.count_le_length (a:=c) (l:=l); rw[show (min (((l.count c:Nat):Int)+1) ((l.length:Int)+1)).toNat=(splitB c l).length by omega]; simp
 have e2:(List.replicate ((min (((l.count c:Nat):Int)+1) ((l.length:Int)+1)).toNat) ([]:List UInt8)).length=(splitB c l).length:=by(have hsl:=splitB_len c l; have hcl:=List.count_le_length (a:=c) (l:=l); first | rfl | (simp; done) | (simp; omega) | omega)
 refine lp (σ:=(Option Addr)×Nat×Nat×(List UInt8)) (fun⟨Ag9,cg9,k,s⟩ f w'=>Hz f [(0,Str s),(1,Str [c]),(2,I 0),(3,I ((l.count c:Nat):Int)),(9,.slice Ag9 ((splitB c l).length) cg9),(10,I (k:Int))]∧(k<(splitB c l).length)∧(splitB c s=(splitB c l).drop k)∧(s.length≤l.length)∧SH w w' [] [.own Ag9 ((splitB c l).length) cg9 9 1 (((splitB c l).take k++List.replicate ((splitB c l).length-k) ([]:List UInt8)).map Str)]) (fun⟨Ag9,cg9,k,s⟩=>l.length+1-k) ((Z6 b1),(min (((l.count c:Nat):Int)+1) ((l.length:Int)+1)).toNat,0,l) ⟨(zH ⟨rfl,rfl,rfl,(show (I ((min (((l.count c:Nat):Int)+1) ((l.length:Int)+1))-1):Value)=I ((l.count c:Nat):Int) from congrArg (Value.int .i64) (by have hsl:=splitB_len c l; have hcl:=List.count_le_length (a:=c) (l:=l); omega)),(show (.slice (Z6 b1) ((List.replicate ((min (((l.count c:Nat):Int)+1) ((l.length:Int)+1)).toNat) ([]:List UInt8)).length) ((min (((l.count c:Nat):Int)+1) ((l.length:Int)+1)).toNat):Value)=.slice (Z6 b1) ((splitB c l).length) ((min (((l.count c:Nat):Int)+1) ((l.length:Int)+1)).toNat) from slv r0 e2 r0),rfl,trivial⟩),(by have hsl:=splitB_len c l; have hcl:=List.count_le_length (a:=c) (l:=l); omega),(by simp),(Nat.le_refl _),(hs2.cast (lc (own_eq (g:=Str) r0 e2 r0 e1) r0))⟩ ?_
 rintro ⟨Ag9,cg9,k,s⟩ f w3 ⟨⟨g1,rfl⟩,hk,hs_,hsn,hs3⟩
 refine sq (sr (tm (I (k:Int)) r0 (tm (I ((l.count c:Nat):Int)) r0 (qt r0 (lss (k:=.i64) (a:=(k:Int)) (b:=((l.count c:Nat):Int)) r0 r0) (nn ?_)))))
 refine cdd (p:=(k:Int)<((l.count c:Nat):Int)) r0 (fun h4=>?_) (fun h4=>?_)
 ·refine sk (nN (bl (sr (tm (Str s) r0 (tm (Str [c]) r0 (cL r0 (stIndex (l:=s) (c:=c) (w:=_)) ?_))))))
  rintro _ w4 ⟨rfl,hs4⟩
  replace hs4:=hs3.call0 hs4
  refine tA (I (idxB s c)) r0 (nn (sq (sr (tm (I (idxB s c)) r0 (qt r0 (lss (k:=.i64) (a:=idxB s c) (b:=0) r0 r0) ?_)))))
  refine nn ?_
  refine cdd (p:=(idxB s c)<0) r0 (fun h5=>?_) (fun h5=>?_)
  ·refine ex (tE (bX r0 (tE (bE ?_))))
   refine nN (sr (tm (.slice Ag9 ((splitB c l).length) cg9) r0 (tm (I (k:Int)) r0 (tm (Str s) r0 ?_))))
   obtain ⟨b2,rfl⟩:=own_form hs4 0 r0 (by(omega))
   refine qt r0 (ixo k sl147 r0 r0 (by(omega))) (stomn (g:=Str) (ys:=(splitB c l).take k++List.replicate ((splitB c l).length-k) ([]:List UInt8)) (o:=k) (u:=s) hs4 0 r0 r0 r0 r0 (by(omega)) r0 one9 trivial (fun w5 hs5=>?_))
   refine nx (tm (sb b2 ((splitB c l).length) cg9) r0 (tm (I (k:Int)) r0 (qt r0 (add (a:=(k:Int)) (b:=1) r0 r0 (by(have hsl:=splitB_len c l; have hcl:=List.count_le_length (a:=c) (l:=l); exact⟨by omega,by omega⟩))) ?_)))
   have e3:((((splitB c l).take k++List.replicate ((splitB c l).length-k) ([]:List UInt8)).set k s).map Str).take ((k+1)*1)=((((splitB c l).take k++List.replicate ((splitB c l).length-k) ([]:List UInt8)).set k s).take (k+1)).map Str:=by simp[List.map_take]
   have hs6:SH w w5 [] [.own (Z6 b2) (k+1) cg9 9 1 (((((splitB c l).take k++List.replicate ((splitB c l).length-k) ([]:List UInt8)).set k s).take (k+1)).map Str)]:=e3 ▸ SH.trunc hs5 0 (k+1) r0 (by(first | omega | (simp; omega)))
   refine qt r0 (cuh (k+1) sl147 r0 r0 (Nat.le_trans (by(first | omega | (simp; omega))) (own_cap hs5 0 r0).1)) (tA (sb b2 (k+1) cg9) r0 ?_)
   have e4:k+1=((((splitB c l).take k++List.replicate ((splitB c l).length-k) ([]:List UInt8)).set k s).take (k+1)).length:=by(first | rfl | (simp; done) | (simp; omega) | (simp at*; omega))
   have hs7:SH w w5 [] [.own (Z6 b2) (((((splitB c l).take k++List.replicate ((splitB c l).length-k) ([]:List UInt8)).set k s).take (k+1)).length) cg9 9 1 (((((splitB c l).take k++List.replicate ((splitB c l).length-k) ([]:List UInt8)).set k s).take (k+1)).map Str)]:=(hs6.cast (lc (own_eq (g:=Str) r0 e4 r0 r0) r0))
   refine re 8 (v:=sb b2 (((((splitB c l).take k++List.replicate ((splitB c l).length-k) ([]:List UInt8)).set k s).take (k+1)).length) cg9) (show (sb b2 (k+1) cg9:Value)=sb b2 (((((splitB c l).take k++List.replicate ((splitB c l).length-k) ([]:List UInt8)).set k s).take (k+1)).length) cg9 from slv r0 e4 r0) (nn (rt (fT (sb b2 (((((splitB c l).take k++List.replicate ((splitB c l).length-k) ([]:List UInt8)).set k s).take (k+1)).length) cg9) r0 ?_)))
   have e5:(((splitB c l).take k++List.replicate ((splitB c l).length-k) ([]:List UInt8)).set k s).take (k+1)=splitB c l:=by exact split_end (split_stop hs_ (by omega))
   have e6:=congrArg List.length e5
   exact⟨(Z6 b2),cg9,(slv r0 e6 r0),(hs7.cast (lc (own_eq (g:=Str) r0 e6 r0 e5) r0))⟩
  ·refine sk (nN (sr (tm (.slice Ag9 ((splitB c l).length) cg9) r0 (tm (I (k:Int)) r0 (tm (Str s) r0 (tm (I (idxB s c)) r0 ?_))))))
   refine tm (I 0) r0 (qt r0 (add (a:=idxB s c) (b:=0) r0 r0 (by(have hsl:=splitB_len c l; have hcl:=List.count_le_length (a:=c) (l:=l); have hib:=idxB_lt s c; (try have e1:[c].length=1:=rfl); exact⟨by omega,by omega⟩))) (qt r0 (cuhs (l:=s) (((idxB s c)+0).toNat) st9 r0 (ieq (x:=(idxB s c)+0) (by(omega))) (by(have hsl:=splitB_len c l; have hcl:=List.count_le_length (a:=c) (l:=l); have hib:=idxB_lt s c; (try have e1:[c].length=1:=rfl); first | omega | (simp; omega)))) ?_))
   obtain ⟨b3,rfl⟩:=own_form hs4 0 r0 (by(omega))
   refine qt r0 (ixo k sl147 r0 r0 (by(omega))) (stomn (g:=Str) (ys:=(splitB c l).take k++List.replicate ((splitB c l).length-k) ([]:List UInt8)) (o:=k) (u:=s.take (((idxB s c)+0).toNat)) hs4 0 r0 r0 r0 r0 (by(omega)) r0 one9 trivial (fun w6 hs8=>?_))
   refine nx (tm (Str s) r0 (tm (I (idxB s c)) r0 (tm (Str [c]) r0 (qt r0 (lnS (l:=[c]) st9 r0) ?_))))
   refine qt r0 (add (a:=idxB s c) (b:=(([c].length:Nat):Int)) r0 r0 (by(have hsl:=splitB_len c l; have hcl:=List.count_le_length (a:=c) (l:=l); have hib:=idxB_lt s c; (try have e1:[c].length=1:=rfl); exact⟨by omega,by omega⟩))) (qt r0 (culs (l:=s) (((idxB s c)+(([c].length:Nat):Int)).toNat) st9 r0 (ieq (x:=(idxB s c)+(([c].length:Nat):Int)) (by(omega))) (by(have hsl:=splitB_len c l; have hcl:=List.count_le_length (a:=c) (l:=l); have hib:=idxB_lt s c; (try have e1:[c].length=1:=rfl); first | omega | (simp; omega)))) (tA (Str (s.drop (((idxB s c)+(([c].length:Nat):Int)).toNat))) r0 (nn (rg (tm (I (k:Int)) r0 (qt r0 (add (a:=(k:Int)) (b:=1) r0 r0 (by(have hsl:=splitB_len c l; have hcl:=List.count_le_length (a:=c) (l:=l); exact⟨by omega,by omega⟩))) ?_))))))
   refine tA (I ((k:Int)+1)) r0 (nl (bN (nN ?_)))
   have e7:((splitB c l).take k++List.replicate ((splitB c l).length-k) ([]:List UInt8)).set k (s.take (((idxB s c)+0).toNat))=(splitB c l).take (k+1)++List.replicate ((splitB c l).length-(k+1)) ([]:List UInt8):=by exact split_set (split_take hs_ (by omega) (by omega))
   refine⟨((Z6 b3),cg9,k+1,(s.drop (((idxB s c)+(([c].length:Nat):Int)).toNat))),⟨(zR r0),(by have h_:=splitB_len c l; omega),(split_next hs_ (by omega) (by simp; omega)),(by simp; omega),(hs8.cast (lc (own_eq (g:=Str) r0 r0 r0 e7) r0))⟩,?_⟩
   show l.length+1-(k+1)<l.length+1-k
   (have hcl:=List.count_le_length (a:=c) (l:=l); omega)
 ·refine ex (tE (tE (bE ?_)))
  refine nN (sr (tm (.slice Ag9 ((splitB c l).length) cg9) r0 (tm (I (k:Int)) r0 (tm (Str s) r0 ?_))))
  obtain ⟨b4,rfl⟩:=own_form hs3 0 r0 (by(omega))
  refine qt r0 (ixo k sl147 r0 r0 (by(omega))) (stomn (g:=Str) (ys:=(splitB c l).take k++List.replicate ((splitB c l).length-k) ([]:List UInt8)) (o:=k) (u:=s) hs3 0 r0 r0 r0 r0 (by(omega)) r0 one9 trivial (fun w7 hs9=>?_))
  refine nx (tm (sb b4 ((splitB c l).length) cg9) r0 (tm (I (k:Int)) r0 (qt r0 (add (a:=(k:Int)) (b:=1) r0 r0 (by(have hsl:=splitB_len c l; have hcl:=List.count_le_length (a:=c) (l:=l); exact⟨by omega,by omega⟩))) ?_)))
  have e8:((((splitB c l).take k++List.replicate ((splitB c l).length-k) ([]:List UInt8)).set k s).map Str).take ((k+1)*1)=((((splitB c l).take k++List.replicate ((splitB c l).length-k) ([]:List UInt8)).set k s).take (k+1)).map Str:=by simp[List.map_take]
  have hs10:SH w w7 [] [.own (Z6 b4) (k+1) cg9 9 1 (((((splitB c l).take k++List.replicate ((splitB c l).length-k) ([]:List UInt8)).set k s).take (k+1)).map Str)]:=e8 ▸ SH.trunc hs9 0 (k+1) r0 (by(first | omega | (simp; omega)))
  refine qt r0 (cuh (k+1) sl147 r0 r0 (Nat.le_trans (by(first | omega | (simp; omega))) (own_cap hs9 0 r0).1)) (tA (sb b4 (k+1) cg9) r0 ?_)
  have e9:k+1=((((splitB c l).take k++List.replicate ((splitB c l).length-k) ([]:List UInt8)).set k s).take (k+1)).length:=by(first | rfl | (simp; done) | (simp; omega) | (simp at*; omega))
  have hs11:SH w w7 [] [.own (Z6 b4) (((((splitB c l).take k++List.replicate ((splitB c l).length-k) ([]:List UInt8)).set k s).take (k+1)).length) cg9 9 1 (((((splitB c l).take k++List.replicate ((splitB c l).length-k) ([]:List UInt8)).set k s).take (k+1)).map Str)]:=(hs10.cast (lc (own_eq (g:=Str) r0 e9 r0 r0) r0))
  refine re 8 (v:=sb b4 (((((splitB c l).take k++List.replicate ((splitB c l).length-k) ([]:List UInt8)).set k s).take (k+1)).length) cg9) (show (sb b4 (k+1) cg9:Value)=sb b4 (((((splitB c l).take k++List.replicate ((splitB c l).length-k) ([]:List UInt8)).set k s).take (k+1)).length) cg9 from slv r0 e9 r0) (nn (rt (fT (sb b4 (((((splitB c l).take k++List.replicate ((splitB c l).length-k) ([]:List UInt8)).set k s).take (k+1)).length) cg9) r0 ?_)))
  have e10:(((splitB c l).take k++List.replicate ((splitB c l).length-k) ([]:List UInt8)).set k s).take (k+1)=splitB c l:=by exact split_end (split_last hs_ hk (by omega))
  have e11:=congrArg List.length e10
  exact⟨(Z6 b4),cg9,(slv r0 e11 r0),(hs11.cast (lc (own_eq (g:=Str) r0 e11 r0 e10) r0))⟩
theorem stSplit (l:List UInt8) (c:UInt8) (w:World) (hl_n:l.length≤1099511627776):Does Tryz.prog 154 [Str l,Str [c]] w (fun v w'=>∃ Ar:Option Addr,∃ cr:Nat,v=.slice Ar (splitB c l).length cr∧SH w w' [] [.own Ar ((splitB c l).length) cr 9 1 ((splitB c l).map Str)]):=by
 refine fE (N:=8) Tryz.func154 r0 (by kernel_rfl) r0 ?_
 have hs0:=SH.refl w []
 refine sr (tA ns r0 (nx (tm (Str l) r0 ?_)))
 refine tm (Str [c]) r0 (cL r0 (genSplit (l:=l) (c:=c) (w:=_) (hl_n:=(by omega))) ?_)
 rintro _ w1 ⟨A1,c1,rfl,hs1⟩
 replace hs1:=hs0.call0 hs1
 refine tA (.slice A1 ((splitB c l).length) c1) r0 (nn (rt (fT (.slice A1 ((splitB c l).length) c1) r0 ?_)))
 exact⟨A1,c1,rfl,hs1⟩
theorem l2Cut (l:List UInt8) (c:UInt8) (w:World) (hl_n:l.length≤1099511627776):Does Tryz.prog 141 [Str l,.int .u8 (c.toNat:Int)] w (fun v w'=>∃ Ar:Option Addr,∃ cr:Nat,v=.slice Ar (splitB c l).length cr∧SH w w' [] [.own Ar ((splitB c l).length) cr 9 1 ((splitB c l).map Str)]):=by
 refine fE (N:=35) Tryz.func141 r0 (by kernel_rfl) r0 ?_
 have hs0:=SH.refl w []
 refine sr (tA ns r0 (nx (bsk hs0 sl147 [] [] trivial r0 (fun b1 w1 hs1=>?_))))
 refine tA (sb b1 (([]:List (List UInt8)).length) 0) r0 (nx (tA (I 0) r0 (nn ?_)))
 refine sq (sr (tA (I 0) r0 (nn (bl (lp (σ:=(Option Addr)×Nat×Nat×Nat×(List (List UInt8))) (fun⟨Ag5,cg5,i,a,zs⟩ f w'=>Hz f [(0,Str l),(1,.int .u8 (c.toNat:Int)),(5,.slice Ag5 zs.length cg5),(6,I (a:Int)),(7,I (i:Int))]∧(i≤l.length)∧(a≤i)∧(zs++splitB c (l.drop a)=splitB c l)∧(∀ j,a≤j→j<i→l.getD j 0≠c)∧SH w w' [] [.own Ag5 zs.length cg5 9 1 (zs.map Str)]) (fun⟨Ag5,cg5,i,a,zs⟩=>l.length-i) ((Z6 b1),0,0,0,([]:List (List UInt8))) ⟨(zR r0),(by omega),(by omega),(by simp),(by intro j _ hj; omega),hs1⟩ ?_)))))
 rintro ⟨Ag5,cg5,i,a,zs⟩ f w2 ⟨⟨g1,rfl⟩,hi,ha,hz,hn,hs2⟩
 refine sq (sr (tm (I (i:Int)) r0 (tm (Str l) r0 (qt r0 (lnS (l:=l) st9 r0) (qt r0 (lss (k:=.i64) (a:=(i:Int)) (b:=(l.length:Int)) r0 r0) (nl ?_))))))
 refine nN ?_
 refine cdd (p:=(i:Int)<(l.length:Int)) r0 (fun h1=>?_) (fun h1=>?_)
 ·refine sk (nN (sq (bl (sr (tm (Str l) r0 (tm (I (i:Int)) r0 ?_))))))
  refine qt r0 (ixs (l:=l) i st9 r0 r0 (by(omega))) (tm (.int .u8 (c.toNat:Int)) r0 (qt r0 (eqi (k:=.u8) (a:=(((l.getD i 0).toNat:Nat):Int)) (b:=(c.toNat:Int)) r0 r0) (nn ?_)))
  refine cdd (p:=(((l.getD i 0).toNat:Nat):Int)=(c.toNat:Int)) r0 (fun h2=>?_) (fun h2=>?_)
  ·refine sr (tm (.slice Ag5 zs.length cg5) r0 (tm (Str l) r0 (tm (I (a:Int)) r0 (tm (I (i:Int)) r0 (qt r0 (cus (l:=l) a i st9 r0 r0 r0 (by(omega)) (by(omega))) (bsk hs2 sl147 [Str ((l.take i).drop a)] [Str ((l.take i).drop a)] trivial r0 (fun b2 w3 hs3=>?_)))))))
   refine apm (g:=Str) (ys:=zs) (zs:=([(l.take i).drop a]:List (List UInt8))) hs3 0 r0 sl147 r0 r0 r0 (hs3.sl0 1 r0) (fun _=>rfl) (by unfold maxLen; (have hzl:=cut_len hz; (simp; omega))) (by(have hzl:=cut_len hz; (simp; omega))) trivial r0 (fun A1 c1 w4 hs4=>?_)
   refine tA (.slice A1 ((zs++([(l.take i).drop a]:List (List UInt8))).length) c1) r0 (nn (rg (tm (I (i:Int)) r0 (qt r0 (add (a:=(i:Int)) (b:=1) r0 r0 (by(exact⟨by omega,by omega⟩))) (tA (I ((i:Int)+1)) r0 (nl ?_))))))
   refine bN (nN (rg (tm (I (i:Int)) r0 (qt r0 (add (a:=(i:Int)) (b:=1) r0 r0 (by(exact⟨by omega,by omega⟩))) (tA (I ((i:Int)+1)) r0 (nn ?_))))))
   refine⟨(A1,c1,i+1,i+1,(zs++([(l.take i).drop a]:List (List UInt8)))),⟨(zR r0),(by omega),(by omega),(cut_step hz ha (by omega) hn (u8_eq (by omega))),(by intro j h_ hj; omega),(hs4.pk [1] r0)⟩,?_⟩
   show l.length-(i+1)<l.length-i
   omega
  ·refine sk (bN (nN (rg (tm (I (i:Int)) r0 (qt r0 (add (a:=(i:Int)) (b:=1) r0 r0 (by(exact⟨by omega,by omega⟩))) (tA (I ((i:Int)+1)) r0 (nl ?_)))))))
   refine nN ?_
   refine⟨(Ag5,cg5,i+1,a,zs),⟨(zR r0),(by omega),(by omega),(hz),(by intro j h_ hj; rcases Nat.lt_succ_iff_lt_or_eq.1 hj with h | h; exact hn j h_ h; subst h; intro he; exact absurd (congrArg (fun z=>((UInt8.toNat z:Nat):Int)) he) ‹_›),hs2⟩,?_⟩
   show l.length-(i+1)<l.length-i
   omega
 ·refine ex (tE (tE (bE ?_)))
  refine nN (sr (tm (.slice Ag5 zs.length cg5) r0 (tm (Str l) r0 (tm (I (a:Int)) r0 (qt r0 (culs (l:=l) a st9 r0 r0 (by(omega))) (bsk hs2 sl147 [Str (l.drop a)] [Str (l.drop a)] trivial r0 (fun b3 w5 hs5=>?_)))))))
  refine apm (g:=Str) (ys:=zs) (zs:=([l.drop a]:List (List UInt8))) hs5 0 r0 sl147 r0 r0 r0 (hs5.sl0 1 r0) (fun _=>rfl) (by unfold maxLen; (have hzl:=cut_len hz; (simp; omega))) (by(have hzl:=cut_len hz; (simp; omega))) trivial r0 (fun A2 c2 w6 hs6=>?_)
  refine tA (.slice A2 ((zs++([l.drop a]:List (List UInt8))).length) c2) r0 (nn (rt (fT (.slice A2 ((zs++([l.drop a]:List (List UInt8))).length) c2) r0 ?_)))
  have e1:zs++([l.drop a]:List (List UInt8))=splitB c l:=by exact cut_end hz (by omega) hn
  have e2:=congrArg List.length e1
  exact⟨A2,c2,(slv r0 e2 r0),((hs6.pq [1] r0).cast (lc (own_eq (g:=Str) r0 e2 r0 e1) r0))⟩
theorem iNameValid (l:List UInt8) (w:World) (hl_n:l.length≤1099511627776):Does Tryz.prog 123 [Str l] w (fun v w'=>v=.bool (nameOk l)∧SH w w' [] []):=by
 refine fE (N:=35) Tryz.func123 r0 (by kernel_rfl) r0 ?_
 have hs0:=SH.refl w []
 refine sr (tA (.bool false) r0 (nx (tm (Str l) r0 ?_)))
 refine cL r0 (stSplit (l:=l) (c:=46) (w:=_) (hl_n:=(by(omega)))) ?_
 rintro _ w1 ⟨A1,c1,rfl,hs1⟩
 replace hs1:=hs0.call0 hs1
 refine tA (.slice A1 ((splitB 46 l).length) c1) r0 (nn (sq (sr (tm (.slice A1 ((splitB 46 l).length) c1) r0 (qt r0 (lnA (n:=(splitB 46 l).length) sl147 r0) ?_)))))
 refine tm (I 0) r0 (nn (bl (lp (σ:=Nat) (fun(k:Nat) f w'=>Hz f [(0,Str l),(3,.slice A1 ((splitB 46 l).length) c1),(8,.slice A1 ((splitB 46 l).length) c1),(9,I (((splitB 46 l).length:Nat):Int)),(10,I (k:Int))]∧(k≤(splitB 46 l).length)∧(((splitB 46 l).take k).all partOk=true)∧SH w w' [] [.own A1 ((splitB 46 l).length) c1 9 1 ((splitB 46 l).map Str)]) (fun k=>(splitB 46 l).length-k) 0 ⟨(zR r0),(by simp),(by simp),hs1⟩ ?_)))
 rintro k f w2 ⟨⟨g1,rfl⟩,hk,ha,hs2⟩
 refine sr (qt r0 (lss (k:=.i64) (a:=(k:Int)) (b:=(((splitB 46 l).length:Nat):Int)) r0 r0) (nn (sq ?_)))
 refine cdd (p:=(k:Int)<(((splitB 46 l).length:Nat):Int)) r0 (fun h1=>?_) (fun h1=>?_)
 ·refine sk (nN (sq (bl (sr (ixw1 k sl147 r0 r0 (hs2.sl0 0 r0) (by(omega)) (getm Str [] (by(omega))) trivial r0 (fun a1 ha1=>?_))))))
  refine qt r0 (lda (v:=Str ((splitB 46 l).getD k [])) (SH.refl w2 []) ha1 (fun _ h=>h) r0 r0 one9) (tA (Str ((splitB 46 l).getD k [])) r0 (nx (tm (Str ((splitB 46 l).getD k [])) r0 (qt r0 (eqs (l:=(splitB 46 l).getD k []) (m:=[]) r0 r0) ?_))))
  refine tm (.bool (decide ((splitB 46 l).getD k []=[]))) r0 ?_
  refine spd (p:=(splitB 46 l).getD k []=[]) 16 r0 (fun h2=>?_) (fun h2=>?_)
  ·refine gt5 r0 (gt5 r0 (gt5 r0 (qt r0 (pt (v:=.bool true) r0 r0) (nn (cdt r0 (sq ?_))))))
   refine rg (tA (.bool false) r0 (nn ?_))
   refine rt (bR (tR (tR (bR (tR ?_)))))
   refine fT (.bool false) r0 ?_
   have e1:false=nameOk l:=by(exact(name_bad (k:=k) (by omega) (part_nil ‹_›)).symm)
   exact⟨(congrArg (Value.bool) e1),(hs2.pk [] r0)⟩
  ·refine q ⟨_,rfl,rfl⟩ r0 r0 (mv (v:=Str ((splitB 46 l).getD k [])) r0) (cl ⟨_,rfl,rfl⟩ r0 (iConsists (l:=(splitB 46 l).getD k []) (m:=[45]) (w:=_) (hl_n:=(by(have hsb:=splitB_getD 46 l k; have hsl:=splitB_len 46 l; have hcl:=List.count_le_length (a:=(46:UInt8)) (l:=l); omega)))) ?_)
   rintro _ w3 ⟨rfl,hs3⟩
   replace hs3:=hs2.call0 hs3
   refine q ⟨_,rfl,rfl⟩ r0 r0 (nt (b:=((splitB 46 l).getD k []).all (okC [45])) r0) (qt r0 (pf (v:=.bool (!(((splitB 46 l).getD k []).all (okC [45])))) r0 r0) (nn ?_))
   refine cd (b:=!(((splitB 46 l).getD k []).all (okC [45]))) r0 (fun h3=>?_) (fun h3=>?_)
   ·have h4:(((splitB 46 l).getD k []).all (okC [45]))=false:=by simpa using h3
    refine sr (tA (.bool false) r0 (nn ?_))
    refine rt (bR (tR (tR (bR (tR ?_)))))
    refine fT (.bool false) r0 ?_
    have e2:false=nameOk l:=by(exact(name_bad (k:=k) (by omega) (part_bad ‹_›)).symm)
    exact⟨(congrArg (Value.bool) e2),(hs3.pk [] r0)⟩
   ·have h5:(((splitB 46 l).getD k []).all (okC [45]))=true:=by simpa using h3
    refine sk (bN (nN (rg (qt r0 (add (a:=(k:Int)) (b:=1) r0 r0 (by(have hsb:=splitB_getD 46 l k; have hsl:=splitB_len 46 l; have hcl:=List.count_le_length (a:=(46:UInt8)) (l:=l); exact⟨by omega,by omega⟩))) (tm (I ((k:Int)+1)) r0 (nn ?_))))))
    refine⟨(k+1),⟨(zR r0),(by omega),(all_step (d:=[]) (by omega) ha (part_mk ‹_› ‹_›)),hs3⟩,?_⟩
    omega
 ·refine ex (tE (tE (bE ?_)))
  refine nN (sr (tm (Str l) r0 (qt r0 (lnS (l:=l) st9 r0) (qt r0 (leq (k:=.i64) (a:=(l.length:Int)) (b:=20) r0 r0) (tm (.bool (decide ((l.length:Int)≤20))) r0 ?_)))))
  refine spd (p:=(l.length:Int)≤20) 25 r0 (fun h6=>?_) (fun h6=>?_)
  ·refine q ⟨_,rfl,rfl⟩ r0 r0 (mv (v:=.slice A1 ((splitB 46 l).length) c1) r0) (q ⟨_,rfl,rfl⟩ r0 r0 (mv (v:=.slice A1 ((splitB 46 l).length) c1) r0) (q ⟨_,rfl,rfl⟩ r0 r0 (lnA (n:=(splitB 46 l).length) sl147 r0) (q ⟨_,rfl,rfl⟩ r0 r0 (subN (a:=(splitB 46 l).length) (b:=1) r0 r0 (by have hsb:=splitB_getD 46 l k; have hsl:=splitB_len 46 l; have hcl:=List.count_le_length (a:=(46:UInt8)) (l:=l); have:=splitB_pos 46 l; omega) (by have hsb:=splitB_getD 46 l k; have hsl:=splitB_len 46 l; have hcl:=List.count_le_length (a:=(46:UInt8)) (l:=l); have:=splitB_pos 46 l; omega)) (ixw1 (((splitB 46 l).length)-1) sl147 r0 r0 (hs2.sl0 0 r0) (by(have hsb:=splitB_getD 46 l k; have hsl:=splitB_len 46 l; have hcl:=List.count_le_length (a:=(46:UInt8)) (l:=l); omega)) (getm Str [] (by(have hsb:=splitB_getD 46 l k; have hsl:=splitB_len 46 l; have hcl:=List.count_le_length (a:=(46:UInt8)) (l:=l); omega))) ⟨_,rfl,rfl⟩ r0 (fun a2 ha2=>?_)))))
   refine q ⟨_,rfl,rfl⟩ r0 r0 (lda (v:=Str ((splitB 46 l).getD (((splitB 46 l).length)-1) [])) (SH.refl w2 []) ha2 (fun _ h=>h) r0 r0 one9) (q ⟨_,rfl,rfl⟩ r0 r0 (ixs (l:=(splitB 46 l).getD (((splitB 46 l).length)-1) []) 0 st9 r0 r0 (by exact name_last (by omega) ha (by have:=splitB_pos 46 l; omega))) (cl ⟨_,rfl,rfl⟩ r0 (iLetter (c:=(((splitB 46 l).getD (((splitB 46 l).length)-1) []).getD 0 0)) (w:=_)) ?_))
   rintro _ w4 ⟨rfl,hs4⟩
   replace hs4:=hs2.call0 hs4
   refine qt r0 (pt (v:=.bool (decide (97≤(((((splitB 46 l).getD (((splitB 46 l).length)-1) []).getD 0 0).toNat:Nat):Int)∧(((((splitB 46 l).getD (((splitB 46 l).length)-1) []).getD 0 0).toNat:Nat):Int)≤122))) r0 r0) (tA (.bool (decide (97≤(((((splitB 46 l).getD (((splitB 46 l).length)-1) []).getD 0 0).toNat:Nat):Int)∧(((((splitB 46 l).getD (((splitB 46 l).length)-1) []).getD 0 0).toNat:Nat):Int)≤122))) r0 (nn (rt (fT (.bool (decide (97≤(((((splitB 46 l).getD (((splitB 46 l).length)-1) []).getD 0 0).toNat:Nat):Int)∧(((((splitB 46 l).getD (((splitB 46 l).length)-1) []).getD 0 0).toNat:Nat):Int)≤122))) r0 ?_))))
   have e3:(decide (97≤(((((splitB 46 l).getD (((splitB 46 l).length)-1) []).getD 0 0).toNat:Nat):Int)∧(((((splitB 46 l).getD (((splitB 46 l).length)-1) []).getD 0 0).toNat:Nat):Int)≤122))=nameOk l:=by(exact(name_end2 (by omega) ha (by omega)).symm)
   exact⟨(congrArg (Value.bool) e3),(hs4.pk [] r0)⟩
  ·refine gf5 r0 (gf5 r0 (gf5 r0 (gf5 r0 (gf5 r0 (gf5 r0 (gf5 r0 (gf5 r0 ?_)))))))
   refine qt r0 (pf (v:=.bool false) r0 r0) (tA (.bool false) r0 (nn (rt (fT (.bool false) r0 ?_))))
   have e4:false=nameOk l:=by(exact(name_end1 (by omega) ha (by omega)).symm)
   exact⟨(congrArg (Value.bool) e4),(hs2.pk [] r0)⟩
theorem sNameValid (l:List UInt8) (w:World) (hl_n:l.length≤1099511627776):Does Tryz.prog 163 [Str l] w (fun v w'=>v=.bool (nameOk l)∧SH w w' [] []):=by
 refine fE (N:=53) Tryz.func163 r0 (by kernel_rfl) r0 ?_
 have hs0:=SH.refl w []
 refine sr (tA (.bool false) r0 (nx (tm (Str l) r0 ?_)))
 refine cL r0 (l2Cut (l:=l) (c:=(46:UInt8)) (w:=_) (hl_n:=(by(omega)))) ?_
 rintro _ w1 ⟨A1,c1,rfl,hs1⟩
 replace hs1:=hs0.call0 hs1
 refine tA (.slice A1 ((splitB (46:UInt8) l).length) c1) r0 (nn (sq (sr (tA (I 0) r0 (nl ?_)))))
 refine nN (bl (lp (σ:=Nat) (fun(k:Nat) f w'=>Hz f [(0,Str l),(3,.slice A1 ((splitB (46:UInt8) l).length) c1),(4,I (k:Int))]∧(k≤(splitB 46 l).length)∧(((splitB 46 l).take k).all partOk=true)∧SH w w' [] [.own A1 ((splitB (46:UInt8) l).length) c1 9 1 ((splitB (46:UInt8) l).map Str)]) (fun k=>(splitB 46 l).length-k) 0 ⟨(zR r0),(by simp),(by simp),hs1⟩ ?_))
 rintro k f w2 ⟨⟨g1,rfl⟩,hk,ha,hs2⟩
 refine sq (sr (tm (I (k:Int)) r0 (tm (.slice A1 ((splitB (46:UInt8) l).length) c1) r0 (qt r0 (lnA (n:=(splitB (46:UInt8) l).length) sl147 r0) (qt r0 (lss (k:=.i64) (a:=(k:Int)) (b:=(((splitB (46:UInt8) l).length:Nat):Int)) r0 r0) (nl ?_))))))
 refine nN ?_
 refine cdd (p:=(k:Int)<(((splitB (46:UInt8) l).length:Nat):Int)) r0 (fun h1=>?_) (fun h1=>?_)
 ·refine sk (nN (sq (bl (sr (tm (.slice A1 ((splitB (46:UInt8) l).length) c1) r0 (tm (I (k:Int)) r0 ?_))))))
  refine ixw1 k sl147 r0 r0 (hs2.sl0 0 r0) (by(omega)) (getm Str [] (by(omega))) trivial r0 (fun a1 ha1=>?_)
  refine qt r0 (lda (v:=Str ((splitB (46:UInt8) l).getD k [])) (SH.refl w2 []) ha1 (fun _ h=>h) r0 r0 one9) (tA (Str ((splitB (46:UInt8) l).getD k [])) r0 (nn (sq (sr (tm (Str ((splitB (46:UInt8) l).getD k [])) r0 ?_)))))
  refine qt r0 (lnS (l:=(splitB (46:UInt8) l).getD k []) st9 r0) (qt r0 (eqi (k:=.i64) (a:=((((splitB (46:UInt8) l).getD k []).length:Nat):Int)) (b:=0) r0 r0) (nn ?_))
  refine cdd (p:=((((splitB (46:UInt8) l).getD k []).length:Nat):Int)=0) r0 (fun h2=>?_) (fun h2=>?_)
  ·refine sr (tA (.bool false) r0 (nn ?_))
   refine rt (tR (bR (tR (tR (bR (tR ?_))))))
   refine fT (.bool false) r0 ?_
   have e1:false=nameOk l:=by(exact(name_bad (k:=k) (by omega) (part_len0 (by omega))).symm)
   exact⟨(congrArg (Value.bool) e1),(hs2.pk [] r0)⟩
  ·refine sk (nN (sr (tA (I 0) r0 (nn (bl ?_)))))
   refine lp (σ:=Nat) (fun(j:Nat) f w'=>Hz f [(0,Str l),(3,.slice A1 ((splitB (46:UInt8) l).length) c1),(4,I (k:Int)),(5,Str ((splitB (46:UInt8) l).getD k [])),(6,I (j:Int))]∧(j≤((splitB 46 l).getD k []).length)∧((((splitB 46 l).getD k []).take j).all letC=true)∧SH w w' [] [.own A1 ((splitB (46:UInt8) l).length) c1 9 1 ((splitB (46:UInt8) l).map Str)]) (fun j=>((splitB 46 l).getD k []).length-j) 0 ⟨(zR r0),(by simp),(by simp),hs2⟩ ?_
   rintro j f w3 ⟨⟨g2,rfl⟩,hj,hb,hs3⟩
   refine sq (sr (tm (I (j:Int)) r0 (tm (Str ((splitB (46:UInt8) l).getD k [])) r0 (qt r0 (lnS (l:=(splitB (46:UInt8) l).getD k []) st9 r0) (qt r0 (lss (k:=.i64) (a:=(j:Int)) (b:=((((splitB (46:UInt8) l).getD k []).length:Nat):Int)) r0 r0) (nl ?_))))))
   refine nN ?_
   refine cdd (p:=(j:Int)<((((splitB (46:UInt8) l).getD k []).length:Nat):Int)) r0 (fun h3=>?_) (fun h3=>?_)
   ·refine sk (nN (sq (bl (sr (tm (Str ((splitB (46:UInt8) l).getD k [])) r0 (tm (I (j:Int)) r0 ?_))))))
    refine qt r0 (ixs (l:=(splitB (46:UInt8) l).getD k []) j st9 r0 r0 (by omega)) (cL r0 (sLetter (c:=(((splitB (46:UInt8) l).getD k []).getD j 0)) (w:=_)) ?_)
    rintro _ w4 ⟨rfl,hs4⟩
    replace hs4:=hs3.call0 hs4
    refine qt r0 (nt (b:=letC (((splitB (46:UInt8) l).getD k []).getD j 0)) r0) (nn ?_)
    refine cd (b:=!(letC (((splitB (46:UInt8) l).getD k []).getD j 0))) r0 (fun h4=>?_) (fun h4=>?_)
    ·have h5:(letC (((splitB (46:UInt8) l).getD k []).getD j 0))=false:=by simpa using h4
     refine sr (tA (.bool false) r0 (nn ?_))
     refine rt (bR (tR (tR (bR (bR (tR (tR (bR (tR ?_)))))))))
     refine fT (.bool false) r0 ?_
     have e2:false=nameOk l:=by(exact(name_bad (k:=k) (by omega) (part_bad1 (j:=j) (by omega) ‹_›)).symm)
     exact⟨(congrArg (Value.bool) e2),(hs4.pk [] r0)⟩
    ·have h6:(letC (((splitB (46:UInt8) l).getD k []).getD j 0))=true:=by simpa using h4
     refine sk (bN (nN (rg (tm (I (j:Int)) r0 (qt r0 (add (a:=(j:Int)) (b:=1) r0 r0 (by(have hsb:=splitB_getD 46 l k; have hsl:=splitB_len 46 l; have hcl:=List.count_le_length (a:=(46:UInt8)) (l:=l); exact⟨by omega,by omega⟩))) (tA (I ((j:Int)+1)) r0 (nl ?_)))))))
     refine nN ?_
     refine⟨(j+1),⟨(zR r0),(by omega),(all_step (d:=0) (by omega) hb ‹_›),hs4⟩,?_⟩
     omega
   ·refine ex (tE (tE (bE ?_)))
    refine bN (nN (rg (tm (I (k:Int)) r0 (qt r0 (add (a:=(k:Int)) (b:=1) r0 r0 (by(have hsb:=splitB_getD 46 l k; have hsl:=splitB_len 46 l; have hcl:=List.count_le_length (a:=(46:UInt8)) (l:=l); exact⟨by omega,by omega⟩))) (tA (I ((k:Int)+1)) r0 (nn ?_))))))
    refine⟨(k+1),⟨(zR r0),(by omega),(all_step (d:=[]) (by omega) ha (part_mk1 (j:=j) (by omega) (by omega) hb)),hs3⟩,?_⟩
    omega
 ·refine ex (tE (tE (bE ?_)))
  refine nN (sr (tm (.slice A1 ((splitB (46:UInt8) l).length) c1) r0 (tm (.slice A1 ((splitB (46:UInt8) l).length) c1) r0 (qt r0 (lnA (n:=(splitB (46:UInt8) l).length) sl147 r0) (qt r0 (subN (a:=(splitB (46:UInt8) l).length) (b:=1) r0 r0 (by have hsb:=splitB_getD 46 l k; have hsl:=splitB_len 46 l; have hcl:=List.count_le_length (a:=(46:UInt8)) (l:=l); have:=splitB_pos 46 l; omega) (by have hsb:=splitB_getD 46 l k; have hsl:=splitB_len 46 l; have hcl:=List.count_le_length (a:=(46:UInt8)) (l:=l); have:=splitB_pos 46 l; omega)) (ixw1 (((splitB (46:UInt8) l).length)-1) sl147 r0 r0 (hs2.sl0 0 r0) (by(have hsb:=splitB_getD 46 l k; have hsl:=splitB_len 46 l; have hcl:=List.count_le_length (a:=(46:UInt8)) (l:=l); omega)) (getm Str [] (by(have hsb:=splitB_getD 46 l k; have hsl:=splitB_len 46 l; have hcl:=List.count_le_length (a:=(46:UInt8)) (l:=l); omega))) trivial r0 (fun a2 ha2=>?_)))))))
  refine qt r0 (lda (v:=Str ((splitB (46:UInt8) l).getD (((splitB (46:UInt8) l).length)-1) [])) (SH.refl w2 []) ha2 (fun _ h=>h) r0 r0 one9) (tA (Str ((splitB (46:UInt8) l).getD (((splitB (46:UInt8) l).length)-1) [])) r0 (nx (tm (Str l) r0 (qt r0 (lnS (l:=l) st9 r0) ?_))))
  refine qt r0 (leq (k:=.i64) (a:=(l.length:Int)) (b:=20) r0 r0) (tm (.bool (decide ((l.length:Int)≤20))) r0 ?_)
  refine spd (p:=(l.length:Int)≤20) 43 r0 (fun h7=>?_) (fun h7=>?_)
  ·refine q ⟨_,rfl,rfl⟩ r0 r0 (mv (v:=Str ((splitB (46:UInt8) l).getD (((splitB (46:UInt8) l).length)-1) [])) r0) (q ⟨_,rfl,rfl⟩ r0 r0 (ixs (l:=(splitB (46:UInt8) l).getD (((splitB (46:UInt8) l).length)-1) []) 0 st9 r0 r0 (by exact name_last (by omega) ha (by have:=splitB_pos 46 l; omega))) (q ⟨_,rfl,rfl⟩ r0 r0 (geq (k:=.u8) (a:=(((((splitB (46:UInt8) l).getD (((splitB (46:UInt8) l).length)-1) []).getD 0 0).toNat:Nat):Int)) (b:=97) r0 r0) (qt r0 (pt (v:=.bool (decide ((97:Int)≤(((((splitB (46:UInt8) l).getD (((splitB (46:UInt8) l).length)-1) []).getD 0 0).toNat:Nat):Int)))) r0 r0) (tm (.bool (decide ((97:Int)≤(((((splitB (46:UInt8) l).getD (((splitB (46:UInt8) l).length)-1) []).getD 0 0).toNat:Nat):Int)))) r0 ?_))))
   refine spd (p:=(97:Int)≤(((((splitB (46:UInt8) l).getD (((splitB (46:UInt8) l).length)-1) []).getD 0 0).toNat:Nat):Int)) 48 r0 (fun h8=>?_) (fun h8=>?_)
   ·refine q ⟨_,rfl,rfl⟩ r0 r0 (mv (v:=Str ((splitB (46:UInt8) l).getD (((splitB (46:UInt8) l).length)-1) [])) r0) (q ⟨_,rfl,rfl⟩ r0 r0 (ixs (l:=(splitB (46:UInt8) l).getD (((splitB (46:UInt8) l).length)-1) []) 0 st9 r0 r0 (by exact name_last (by omega) ha (by have:=splitB_pos 46 l; omega))) (q ⟨_,rfl,rfl⟩ r0 r0 (leq (k:=.u8) (a:=(((((splitB (46:UInt8) l).getD (((splitB (46:UInt8) l).length)-1) []).getD 0 0).toNat:Nat):Int)) (b:=122) r0 r0) (qt r0 (pt (v:=.bool (decide ((((((splitB (46:UInt8) l).getD (((splitB (46:UInt8) l).length)-1) []).getD 0 0).toNat:Nat):Int)≤122))) r0 r0) (tA (.bool (decide ((((((splitB (46:UInt8) l).getD (((splitB (46:UInt8) l).length)-1) []).getD 0 0).toNat:Nat):Int)≤122))) r0 (nn (rt ?_))))))
    refine fT (.bool (decide ((((((splitB (46:UInt8) l).getD (((splitB (46:UInt8) l).length)-1) []).getD 0 0).toNat:Nat):Int)≤122))) r0 ?_
    have e3:(decide ((((((splitB (46:UInt8) l).getD (((splitB (46:UInt8) l).length)-1) []).getD 0 0).toNat:Nat):Int)≤122))=nameOk l:=by exact name_end3 (by omega) ha (by omega) ‹_›
    exact⟨(congrArg (Value.bool) e3),(hs2.pk [] r0)⟩
   ·refine gf5 r0 (gf5 r0 (gf5 r0 (qt r0 (pf (v:=.bool false) r0 r0) (tA (.bool false) r0 (nn (rt ?_))))))
    refine fT (.bool false) r0 ?_
    have e4:false=nameOk l:=by exact name_end4 (by omega) ha (by omega) ‹_›
    exact⟨(congrArg (Value.bool) e4),(hs2.pk [] r0)⟩
  ·refine gf5 r0 (gf5 r0 (gf5 r0 (qt r0 (pf (v:=.bool false) r0 r0) (tm (.bool false) r0 (gf5 r0 (gf5 r0 (gf5 r0 ?_)))))))
   refine qt r0 (pf (v:=.bool false) r0 r0) (tA (.bool false) r0 (nn (rt (fT (.bool false) r0 ?_))))
   have e5:false=nameOk l:=by(exact(name_end1 (by omega) ha (by omega)).symm)
   exact⟨(congrArg (Value.bool) e5),(hs2.pk [] r0)⟩
theorem iQuadValid {Aqs:Option Addr} {cqs:Nat} (qs:List Int) (w:World) (hqs:Sl w [] 1 Aqs qs.length cqs (qs.map I)):Does Tryz.prog 121 [.slice Aqs qs.length cqs] w (fun v w'=>v=.bool (quadOk qs)∧SH w w' [] []):=by
 refine fE (N:=10) Tryz.func121 r0 (by kernel_rfl) r0 ?_
 have hs0:=SH.refl w []
 have hqs_m:qs.length≤9223372036854775807:=Nat.le_trans hqs.cap hqs.capMax
 refine sr (tA (.bool false) r0 (nx (tm (Z13 Aqs qs cqs) r0 ?_)))
 refine qt r0 (lnA (n:=qs.length) sl22 r0) (qt r0 (eqi (k:=.i64) (a:=(qs.length:Int)) (b:=4) r0 r0) (tm (.bool (decide ((qs.length:Int)=4))) r0 ?_))
 refine spd (p:=(qs.length:Int)=4) 6 r0 (fun h1=>?_) (fun h1=>?_)
 ·refine q ⟨_,rfl,rfl⟩ r0 r0 (mv (v:=.slice Aqs qs.length cqs) r0) (cl ⟨_,rfl,rfl⟩ r0 (iBytesValid (Azs:=Aqs) (czs:=cqs) (zs:=qs) (w:=_) (hzs:=(hqs.up0 hs0))) ?_)
  rintro _ w1 ⟨rfl,hs1⟩
  replace hs1:=hs0.call0 hs1
  refine qt r0 (pt (v:=.bool (isBytes qs)) r0 r0) (tA (.bool (isBytes qs)) r0 (nn (rt (fT (.bool (isBytes qs)) r0 ?_))))
  have e1:(isBytes qs)=quadOk qs:=by simp[quadOk,h1] <;> omega
  exact⟨(congrArg (Value.bool) e1),hs1⟩
 ·refine gf5 r0 (gf5 r0 (qt r0 (pf (v:=.bool false) r0 r0) (tA (.bool false) r0 (nn (rt (fT (.bool false) r0 ?_))))))
  have e2:false=quadOk qs:=by simp[quadOk,h1] <;> omega
  exact⟨(congrArg (Value.bool) e2),hs0⟩
theorem sQuadValid {Aqs:Option Addr} {cqs:Nat} (qs:List Int) (w:World) (hqs:Sl w [] 1 Aqs qs.length cqs (qs.map I)):Does Tryz.prog 162 [.slice Aqs qs.length cqs] w (fun v w'=>v=.bool (quadOk qs)∧SH w w' [] []):=by
 refine fE (N:=10) Tryz.func162 r0 (by kernel_rfl) r0 ?_
 have hs0:=SH.refl w []
 have hqs_m:qs.length≤9223372036854775807:=Nat.le_trans hqs.cap hqs.capMax
 refine sr (tA (.bool false) r0 (nx (tm (Z13 Aqs qs cqs) r0 ?_)))
 refine cL r0 (sBytesValid (Azs:=Aqs) (czs:=cqs) (zs:=qs) (w:=_) (hzs:=(hqs.up0 hs0))) ?_
 rintro _ w1 ⟨rfl,hs1⟩
 replace hs1:=hs0.call0 hs1
 refine tm (.bool (isBytes qs)) r0 ?_
 refine spl (b:=isBytes qs) 5 r0 (fun h1=>?_) (fun h1=>?_)
 ·refine q ⟨_,rfl,rfl⟩ r0 r0 (mv (v:=.slice Aqs qs.length cqs) r0) (q ⟨_,rfl,rfl⟩ r0 r0 (lnA (n:=qs.length) sl22 r0) (q ⟨_,rfl,rfl⟩ r0 r0 (eqi (k:=.i64) (a:=(qs.length:Int)) (b:=4) r0 r0) (qt r0 (pt (v:=.bool (decide ((qs.length:Int)=4))) r0 r0) (tA (.bool (decide ((qs.length:Int)=4))) r0 (nn (rt ?_))))))
  refine fT (.bool (decide ((qs.length:Int)=4))) r0 ?_
  have e1:(decide ((qs.length:Int)=4))=quadOk qs:=by simp[quadOk,h1] <;> omega
  exact⟨(congrArg (Value.bool) e1),hs1⟩
 ·refine gf5 r0 (gf5 r0 (gf5 r0 (qt r0 (pf (v:=.bool false) r0 r0) (tA (.bool false) r0 (nn (rt ?_))))))
  refine fT (.bool false) r0 ?_
  have e2:false=quadOk qs:=by simp[quadOk,h1] <;> omega
  exact⟨(congrArg (Value.bool) e2),hs1⟩
theorem iUserValid (s:List UInt8) (w:World) (hs_n:s.length≤9223372036854775807):Does Tryz.prog 135 [Str s] w (fun v w'=>v=.bool (userOk s)∧SH w w' [] []):=by
 refine fE (N:=10) Tryz.func135 r0 (by kernel_rfl) r0 ?_
 have hs0:=SH.refl w []
 refine sr (tA (.bool false) r0 (nx (tm (Str s) r0 ?_)))
 refine qt r0 (lnS (l:=s) st9 r0) (qt r0 (leq (k:=.i64) (a:=(s.length:Int)) (b:=8) r0 r0) (tm (.bool (decide ((s.length:Int)≤8))) r0 ?_))
 refine spd (p:=(s.length:Int)≤8) 6 r0 (fun h1=>?_) (fun h1=>?_)
 ·refine q ⟨_,rfl,rfl⟩ r0 r0 (mv (v:=Str s) r0) (cl ⟨_,rfl,rfl⟩ r0 (iConsists (l:=s) (m:=[]) (w:=_) (hl_n:=(by omega))) ?_)
  rintro _ w1 ⟨rfl,hs1⟩
  replace hs1:=hs0.call0 hs1
  refine qt r0 (pt (v:=.bool (s.all (okC []))) r0 r0) (tA (.bool (s.all (okC []))) r0 (nn (rt (fT (.bool (s.all (okC []))) r0 ?_))))
  have e1:(s.all (okC []))=userOk s:=by simp[userOk,h1] <;> omega
  exact⟨(congrArg (Value.bool) e1),hs1⟩
 ·refine gf5 r0 (gf5 r0 (qt r0 (pf (v:=.bool false) r0 r0) (tA (.bool false) r0 (nn (rt (fT (.bool false) r0 ?_))))))
  have e2:false=userOk s:=by simp[userOk,h1] <;> omega
  exact⟨(congrArg (Value.bool) e2),hs0⟩
theorem sUserValid (s:List UInt8) (w:World) (hs_n:s.length≤9223372036854775807):Does Tryz.prog 164 [Str s] w (fun v w'=>v=.bool (userOk s)∧SH w w' [] []):=by
 refine fE (N:=24) Tryz.func164 r0 (by kernel_rfl) r0 ?_
 have hs0:=SH.refl w []
 refine sr (tA (.bool false) r0 (nn (sq (sr ?_))))
 refine tA (I 0) r0 (nn (bl (lp (σ:=Nat) (fun(k:Nat) f w'=>Hz f [(0,Str s),(3,I (k:Int))]∧(k≤s.length)∧((s.take k).all (okC [])=true)∧SH w w' [] []) (fun k=>s.length-k) 0 ⟨(zR r0),(by simp),(by simp),hs0⟩ ?_)))
 rintro k f w1 ⟨⟨g1,rfl⟩,hk,ha,hs1⟩
 refine sq (sr (tm (I (k:Int)) r0 (tm (Str s) r0 (qt r0 (lnS (l:=s) st9 r0) (qt r0 (lss (k:=.i64) (a:=(k:Int)) (b:=(s.length:Int)) r0 r0) (nl ?_))))))
 refine nN ?_
 refine cdd (p:=(k:Int)<(s.length:Int)) r0 (fun h1=>?_) (fun h1=>?_)
 ·refine sk (nN (sq (bl (sr (tm (Str s) r0 (tm (I (k:Int)) r0 ?_))))))
  refine qt r0 (ixs (l:=s) k st9 r0 r0 (by omega)) (cL r0 (sLetter (c:=(s.getD k 0)) (w:=_)) ?_)
  rintro _ w2 ⟨rfl,hs2⟩
  replace hs2:=hs1.call0 hs2
  refine qt r0 (nt (b:=letC (s.getD k 0)) r0) (tm (.bool (!(letC (s.getD k 0)))) r0 ?_)
  refine spl (b:=!(letC (s.getD k 0))) 15 r0 (fun h2=>?_) (fun h2=>?_)
  ·have h3:(letC (s.getD k 0))=false:=by simpa using h2
   refine gt5 r0 (gt5 r0 (gt5 r0 (gt5 r0 (qt r0 (pt (v:=.bool true) r0 r0) (nn (cdt r0 ?_))))))
   refine sr (tA (.bool false) r0 (nn ?_))
   refine rt (bR (tR (tR (bR (tR ?_)))))
   refine fT (.bool false) r0 ?_
   have e1:false=userOk s:=by exact(user_bad (k:=k) (by omega) (.inl ‹_›)).symm
   exact⟨(congrArg (Value.bool) e1),hs2⟩
  ·have h4:(letC (s.getD k 0))=true:=by simpa using h2
   refine q ⟨_,rfl,rfl⟩ r0 r0 (mv (v:=Str s) r0) (q ⟨_,rfl,rfl⟩ r0 r0 (mv (v:=I (k:Int)) r0) (q ⟨_,rfl,rfl⟩ r0 r0 (ixs (l:=s) k st9 r0 r0 (by omega)) (q ⟨_,rfl,rfl⟩ r0 r0 (eqi (k:=.u8) (a:=(((s.getD k 0).toNat:Nat):Int)) (b:=45) r0 r0) (qt r0 (pf (v:=.bool (decide ((((s.getD k 0).toNat:Nat):Int)=45))) r0 r0) (nn ?_)))))
   refine cdd (p:=(((s.getD k 0).toNat:Nat):Int)=45) r0 (fun h5=>?_) (fun h5=>?_)
   ·refine sr (tA (.bool false) r0 (nn ?_))
    refine rt (bR (tR (tR (bR (tR ?_)))))
    refine fT (.bool false) r0 ?_
    have e2:false=userOk s:=by exact(user_bad (k:=k) (by omega) (.inr ‹_›)).symm
    exact⟨(congrArg (Value.bool) e2),hs2⟩
   ·refine sk (bN (nN (rg (tm (I (k:Int)) r0 (qt r0 (add (a:=(k:Int)) (b:=1) r0 r0 (by exact⟨by omega,by omega⟩)) (tA (I ((k:Int)+1)) r0 (nl ?_)))))))
    refine nN ?_
    refine⟨(k+1),⟨(zR r0),(by omega),(all_step (d:=0) (by omega) ha (user_mk ‹_› ‹_›)),hs2⟩,?_⟩
    omega
 ·refine ex (tE (tE (bE ?_)))
  refine nN (sr (tm (Str s) r0 (qt r0 (lnS (l:=s) st9 r0) (qt r0 (leq (k:=.i64) (a:=(s.length:Int)) (b:=8) r0 r0) (tA (.bool (decide ((s.length:Int)≤8))) r0 (nl ?_))))))
  refine nN (rt (fT (.bool (decide ((s.length:Int)≤8))) r0 ?_))
  have e3:(decide ((s.length:Int)≤8))=userOk s:=by exact user_end (by omega) ha
  exact⟨(congrArg (Value.bool) e3),hs1⟩
theorem slIndex {Azs:Option Addr} {czs:Nat} (zs:List Int) (n:Int) (w:World) (hzs:Sl w [] 1 Azs zs.length czs (zs.map I)):Does Tryz.prog 136 [.slice Azs zs.length czs,I n] w (fun v w'=>v=.int .i64 (idxP (fun x=>decide (n=x)) zs)∧SH w w' [] []):=by
 refine fE (N:=19) Tryz.func136 r0 (by kernel_rfl) r0 ?_
 have hs0:=SH.refl w []
 have hzs_m:zs.length≤9223372036854775807:=Nat.le_trans hzs.cap hzs.capMax
 refine sr (tA (I 0) r0 (nn (sq (sr ?_))))
 refine tm (Z13 Azs zs czs) r0 (qt r0 (lnA (n:=zs.length) sl22 r0) (tm (I 0) r0 (nn (bl (lp (σ:=Nat) (fun(k:Nat) f w'=>Hz f [(0,.slice Azs zs.length czs),(1,I n),(7,I (zs.length:Int)),(8,I (k:Int))]∧(k≤zs.length)∧(∀ j,j<k→decide (n=zs.getD j 0)=false)∧SH w w' [] []) (fun k=>zs.length-k) 0 ⟨(zR r0),(by simp),(by intro j hj; omega),hs0⟩ ?_)))))
 rintro k f w1 ⟨⟨g1,rfl⟩,hk,hn,hs1⟩
 refine sr (qt r0 (lss (k:=.i64) (a:=(k:Int)) (b:=(zs.length:Int)) r0 r0) (nn (sq ?_)))
 refine cdd (p:=(k:Int)<(zs.length:Int)) r0 (fun h1=>?_) (fun h1=>?_)
 ·refine sk (nN (sq (bl (sr (tm (I (k:Int)) r0 (tA (I (k:Int)) r0 ?_))))))
  refine nx (tm (I n) r0 (tm (Z13 Azs zs czs) r0 (tm (I (k:Int)) r0 (ixw1 k sl22 r0 r0 hzs (by omega) (getm I 0 (by omega)) trivial r0 (fun a1 ha1=>?_)))))
  refine qt r0 (lda (v:=I (zs.getD k 0)) hs1 ha1 (fun _ h=>h) r0 r0 one3) (qt r0 (eqi (k:=.i64) (a:=n) (b:=zs.getD k 0) r0 r0) (nn ?_))
  refine cdd (p:=n=(zs.getD k 0)) r0 (fun h2=>?_) (fun h2=>?_)
  ·refine sr (tm (I (k:Int)) r0 (tA (I (k:Int)) r0 (nn ?_)))
   refine rt (bR (tR (tR (bR (tR ?_)))))
   refine fT (I (k:Int)) r0 ?_
   have e1:(k:Int)=idxP (fun x=>decide (n=x)) zs:=by exact idxP_eq (d:=0) (by omega) hn (decide_eq_true ‹_›)
   exact⟨(congrArg (Value.int .i64) e1),hs1⟩
  ·refine sk (bN (nN (rg (qt r0 (add (a:=(k:Int)) (b:=1) r0 r0 (by exact⟨by omega,by omega⟩)) (tm (I ((k:Int)+1)) r0 (nn ?_))))))
   refine⟨(k+1),⟨(zR r0),(by omega),(by intro j hj; rcases Nat.lt_succ_iff_lt_or_eq.1 hj with h | h; exact hn j h; subst h; exact decide_eq_false ‹_›),hs1⟩,?_⟩
   omega
 ·refine ex (tE (tE (bE ?_)))
  refine nN (sr (tA (I (-1)) r0 (nn (rt (fT (I (-1)) r0 ?_)))))
  have e2:(-1)=idxP (fun x=>decide (n=x)) zs:=by exact idxP_none (d:=0) (fun j hj=>hn j (by omega))
  exact⟨(congrArg (Value.int .i64) e2),hs1⟩
theorem slContains {Azs:Option Addr} {czs:Nat} (zs:List Int) (n:Int) (w:World) (hzs:Sl w [] 1 Azs zs.length czs (zs.map I)):Does Tryz.prog 80 [.slice Azs zs.length czs,I n] w (fun v w'=>v=.bool (decide (n∈zs))∧SH w w' [] []):=by
 refine fE (N:=9) Tryz.func80 r0 (by kernel_rfl) r0 ?_
 have hs0:=SH.refl w []
 have hzs_m:zs.length≤9223372036854775807:=Nat.le_trans hzs.cap hzs.capMax
 refine sr (tA (.bool false) r0 (nx (tm (Z13 Azs zs czs) r0 ?_)))
 refine tm (I n) r0 (cL r0 (slIndex (Azs:=Azs) (czs:=czs) (zs:=zs) (n:=n) (w:=_) (hzs:=(hzs.up0 hs0))) ?_)
 rintro _ w1 ⟨rfl,hs1⟩
 replace hs1:=hs0.call0 hs1
 refine qt r0 (geq (k:=.i64) (a:=idxP (fun x=>decide (n=x)) zs) (b:=0) r0 r0) (tA (.bool (decide ((0:Int)≤(idxP (fun x=>decide (n=x)) zs)))) r0 (nn (rt (fT (.bool (decide ((0:Int)≤(idxP (fun x=>decide (n=x)) zs)))) r0 ?_))))
 have e1:(decide ((0:Int)≤(idxP (fun x=>decide (n=x)) zs)))=(decide (n∈zs)):=by exact idxP_int n zs
 exact⟨(congrArg (Value.bool) e1),hs1⟩
theorem l5Has {Azs:Option Addr} {czs:Nat} (zs:List Int) (n:Int) (w:World) (hzs:Sl w [] 1 Azs zs.length czs (zs.map I)):Does Tryz.prog 93 [.slice Azs zs.length czs,I n] w (fun v w'=>v=.bool (decide (n∈zs))∧SH w w' [] []):=by
 refine fE (N:=18) Tryz.func93 r0 (by kernel_rfl) r0 ?_
 have hs0:=SH.refl w []
 have hzs_m:zs.length≤9223372036854775807:=Nat.le_trans hzs.cap hzs.capMax
 refine sr (tA (.bool false) r0 (nn (sq (sr ?_))))
 refine tA (I 0) r0 (nn (bl (lp (σ:=Nat) (fun(k:Nat) f w'=>Hz f [(0,.slice Azs zs.length czs),(1,I n),(5,I (k:Int))]∧(k≤zs.length)∧(n ∉ zs.take k)∧SH w w' [] []) (fun k=>zs.length-k) 0 ⟨(zR r0),(by simp),(by simp),hs0⟩ ?_)))
 rintro k f w1 ⟨⟨g1,rfl⟩,hk,hn,hs1⟩
 refine sq (sr (tm (I (k:Int)) r0 (tm (Z13 Azs zs czs) r0 (qt r0 (lnA (n:=zs.length) sl22 r0) (qt r0 (lss (k:=.i64) (a:=(k:Int)) (b:=(zs.length:Int)) r0 r0) (nl ?_))))))
 refine nN ?_
 refine cdd (p:=(k:Int)<(zs.length:Int)) r0 (fun h1=>?_) (fun h1=>?_)
 ·refine sk (nN (sq (bl (sr (tm (Z13 Azs zs czs) r0 (tm (I (k:Int)) r0 ?_))))))
  refine ixw1 k sl22 r0 r0 hzs (by omega) (getm I 0 (by omega)) trivial r0 (fun a1 ha1=>?_)
  refine qt r0 (lda (v:=I (zs.getD k 0)) hs1 ha1 (fun _ h=>h) r0 r0 one3) (tm (I n) r0 (qt r0 (eqi (k:=.i64) (a:=zs.getD k 0) (b:=n) r0 r0) (nn ?_)))
  refine cdd (p:=(zs.getD k 0)=n) r0 (fun h2=>?_) (fun h2=>?_)
  ·refine sr (tA (.bool true) r0 (nn ?_))
   refine rt (bR (tR (tR (bR (tR ?_)))))
   refine fT (.bool true) r0 ?_
   have e1:true=(decide (n∈zs)):=by exact(decide_eq_true (has_yes (k:=k) (by omega) (by omega))).symm
   exact⟨(congrArg (Value.bool) e1),hs1⟩
  ·refine sk (bN (nN (rg (tm (I (k:Int)) r0 (qt r0 (add (a:=(k:Int)) (b:=1) r0 r0 (by exact⟨by omega,by omega⟩)) (tA (I ((k:Int)+1)) r0 (nl ?_)))))))
   refine nN ?_
   refine⟨(k+1),⟨(zR r0),(by omega),(has_step (by omega) hn (by omega)),hs1⟩,?_⟩
   omega
 ·refine ex (tE (tE (bE ?_)))
  refine nN (sr (tA (.bool false) r0 (nn (rt (fT (.bool false) r0 ?_)))))
  have e2:false=(decide (n∈zs)):=by exact(decide_eq_false (has_no (k:=k) (by omega) hn)).symm
  exact⟨(congrArg (Value.bool) e2),hs1⟩
theorem iAreMethods {Ams:Option Addr} {cms:Nat} (ms:List Int) (w:World) (hms:Sl w [] 1 Ams ms.length cms (ms.map I)):Does Tryz.prog 74 [.slice Ams ms.length cms] w (fun v w'=>v=.bool (methOk ms)∧SH w w' [] []):=by
 refine fE (N:=26) Tryz.func74 r0 (by kernel_rfl) r0 ?_
 have hs0:=SH.refl w []
 have hms_m:ms.length≤9223372036854775807:=Nat.le_trans hms.cap hms.capMax
 refine sr (tA (.bool false) r0 (nn (sq (sr ?_))))
 refine tm (Z13 Ams ms cms) r0 (qt r0 (lnA (n:=ms.length) sl22 r0) (tm (I 0) r0 (nn (bl (lp (σ:=Nat) (fun(k:Nat) f w'=>Hz f [(0,.slice Ams ms.length cms),(5,.slice Ams ms.length cms),(6,I (ms.length:Int)),(7,I (k:Int))]∧(k≤ms.length)∧(methT ms k)∧SH w w' [] []) (fun k=>ms.length-k) 0 ⟨(zR r0),(by simp),(methT0 ms),hs0⟩ ?_)))))
 rintro k f w1 ⟨⟨g1,rfl⟩,hk,ha,hs1⟩
 refine sr (qt r0 (lss (k:=.i64) (a:=(k:Int)) (b:=(ms.length:Int)) r0 r0) (nn (sq ?_)))
 refine cdd (p:=(k:Int)<(ms.length:Int)) r0 (fun h1=>?_) (fun h1=>?_)
 ·refine sk (nN (sq (bl (sr (tm (I (k:Int)) r0 (ixw1 k sl22 r0 r0 hms (by omega) (getm I 0 (by omega)) trivial r0 (fun a1 ha1=>?_)))))))
  refine qt r0 (lda (v:=I (ms.getD k 0)) hs1 ha1 (fun _ h=>h) r0 r0 one3) (tA (I (k:Int)) r0 (tA (I (ms.getD k 0)) r0 (nx (tm (I (ms.getD k 0)) r0 ?_))))
  refine cL r0 (iWithin (x:=ms.getD k 0) (lo:=0) (hi:=254) (w:=_)) ?_
  rintro _ w2 ⟨rfl,hs2⟩
  replace hs2:=hs1.call0 hs2
  refine qt r0 (nd (p:=0≤(ms.getD k 0)∧(ms.getD k 0)≤254) r0) (tm (.bool (decide (¬ (0≤(ms.getD k 0)∧(ms.getD k 0)≤254)))) r0 ?_)
  refine spd (p:=¬ (0≤(ms.getD k 0)∧(ms.getD k 0)≤254)) 15 r0 (fun h2=>?_) (fun h2=>?_)
  ·refine gt5 r0 (gt5 r0 (gt5 r0 (gt5 r0 (gt5 r0 (qt r0 (pt (v:=.bool true) r0 r0) (nn ?_))))))
   refine cdt r0 (sr (tA (.bool false) r0 (nn ?_)))
   refine rt (bR (tR (tR (bR (tR ?_)))))
   refine fT (.bool false) r0 ?_
   have e1:false=methOk ms:=by exact(meth_bad1 (k:=k) (by omega) ‹_›).symm
   exact⟨(congrArg (Value.bool) e1),hs2⟩
  ·refine q ⟨_,rfl,rfl⟩ r0 r0 (mv (v:=.slice Ams ms.length cms) r0) (q ⟨_,rfl,rfl⟩ r0 r0 (mv (v:=I (k:Int)) r0) (q ⟨_,rfl,rfl⟩ r0 r0 (cuhm_ (zs:=ms) k sl22 r0 r0 (by omega) hms.cap) (q ⟨_,rfl,rfl⟩ r0 r0 (mv (v:=I (ms.getD k 0)) r0) (cl ⟨_,rfl,rfl⟩ r0 (slContains (Azs:=Ams) (czs:=cms) (zs:=ms.take k) (n:=ms.getD k 0) (w:=_) (hzs:=(Sl.cuthm (hms.up0 hs2) (by omega)))) ?_))))
   rintro _ w3 ⟨rfl,hs3⟩
   replace hs3:=hs2.call0 hs3
   refine qt r0 (pf (v:=.bool (decide ((ms.getD k 0)∈(ms.take k)))) r0 r0) (nn ?_)
   refine cdd (p:=(ms.getD k 0)∈(ms.take k)) r0 (fun h3=>?_) (fun h3=>?_)
   ·refine sr (tA (.bool false) r0 (nn ?_))
    refine rt (bR (tR (tR (bR (tR ?_)))))
    refine fT (.bool false) r0 ?_
    have e2:false=methOk ms:=by exact(meth_bad2 (k:=k) (by omega) ‹_›).symm
    exact⟨(congrArg (Value.bool) e2),hs3⟩
   ·refine sk (bN (nN (rg (qt r0 (add (a:=(k:Int)) (b:=1) r0 r0 (by exact⟨by omega,by omega⟩)) (tm (I ((k:Int)+1)) r0 (nn ?_))))))
    refine⟨(k+1),⟨(zR r0),(by omega),(methT_step (by omega) ha (Decidable.not_not.1 ‹_›) ‹_›),hs3⟩,?_⟩
    omega
 ·refine ex (tE (tE (bE ?_)))
  refine nN (sr (tm (Z13 Ams ms cms) r0 (qt r0 (lnA (n:=ms.length) sl22 r0) (cL r0 (iWithin (x:=(ms.length:Int)) (lo:=1) (hi:=8) (w:=_)) ?_))))
  rintro _ w4 ⟨rfl,hs4⟩
  replace hs4:=hs1.call0 hs4
  refine tA (.bool (decide (1≤(ms.length:Int)∧(ms.length:Int)≤8))) r0 (nn (rt (fT (.bool (decide (1≤(ms.length:Int)∧(ms.length:Int)≤8))) r0 ?_)))
  have e3:(decide (1≤(ms.length:Int)∧(ms.length:Int)≤8))=methOk ms:=by exact meth_end (by omega) ha
  exact⟨(congrArg (Value.bool) e3),hs4⟩
theorem sL5Ok {Ams:Option Addr} {cms:Nat} (ms:List Int) (w:World) (hms:Sl w [] 1 Ams ms.length cms (ms.map I)):Does Tryz.prog 127 [.slice Ams ms.length cms] w (fun v w'=>v=.bool (methOk ms)∧SH w w' [] []):=by
 refine fE (N:=29) Tryz.func127 r0 (by kernel_rfl) r0 ?_
 have hs0:=SH.refl w []
 have hms_m:ms.length≤9223372036854775807:=Nat.le_trans hms.cap hms.capMax
 refine sr (tA (.bool false) r0 (nn (sq (sr ?_))))
 refine tA (I 0) r0 (nn (bl (lp (σ:=Nat) (fun(k:Nat) f w'=>Hz f [(0,.slice Ams ms.length cms),(3,I (k:Int))]∧(k≤ms.length)∧(methT ms k)∧SH w w' [] []) (fun k=>ms.length-k) 0 ⟨(zR r0),(by simp),(methT0 ms),hs0⟩ ?_)))
 rintro k f w1 ⟨⟨g1,rfl⟩,hk,ha,hs1⟩
 refine sq (sr (tm (I (k:Int)) r0 (tm (Z13 Ams ms cms) r0 (qt r0 (lnA (n:=ms.length) sl22 r0) (qt r0 (lss (k:=.i64) (a:=(k:Int)) (b:=(ms.length:Int)) r0 r0) (nl ?_))))))
 refine nN ?_
 refine cdd (p:=(k:Int)<(ms.length:Int)) r0 (fun h1=>?_) (fun h1=>?_)
 ·refine sk (nN (sq (bl (sq (rq (fun w'=>SH w w' [] []) mixed (by kernel_rfl) hs1.drew (qA r0 (mv (v:=.slice Ams ms.length cms) r0) (qA r0 (mv (v:=I (k:Int)) r0) ?_)))))))
  refine ixq1 k sl22 r0 r0 hms (by omega) (getm I 0 (by omega)) trivial r0 (fun a1 ha1=>?_)
  refine qB r0 (fun hsq=>lda (v:=I (ms.getD k 0)) hsq ha1 (fun _ h=>h) r0 r0 one3) (qc (.bool (decide (0≤(ms.getD k 0)∧(ms.getD k 0)≤254))) trivial r0 (fun wq hsq=>(sIn (x:=ms.getD k 0) (lo:=0) (hi:=254) (w:=_)).mono (fun v w' h=>⟨h.1,by simpa using hsq.call0 h.2⟩)) (qA r0 (nd (p:=0≤(ms.getD k 0)∧(ms.getD k 0)≤254) r0) (qA r0 (mv (v:=.bool (decide (¬ (0≤(ms.getD k 0)∧(ms.getD k 0)≤254)))) r0) ?_)))
  refine qspd (p:=¬ (0≤(ms.getD k 0)∧(ms.getD k 0)≤254)) 16 r0 (fun h2=>?_) (fun h2=>?_)
  ·refine kt5 r0 (kt5 r0 (kt5 r0 (kt5 r0 (kt5 r0 (kt5 r0 (kt5 r0 (kt5 r0 ?_)))))))
   refine qA r0 (pt (v:=.bool true) r0 r0) (qn (fun w2 hs2=>?_))
   refine nN (cdt r0 (sr (tA (.bool false) r0 (nn ?_))))
   refine rt (bR (tR (tR (bR (tR ?_)))))
   refine fT (.bool false) r0 ?_
   have e1:false=methOk ms:=by exact(meth_bad1 (k:=k) (by omega) ‹_›).symm
   exact⟨(congrArg (Value.bool) e1),hs2⟩
  ·refine qq ⟨_,rfl,rfl⟩ r0 r0 (fun wq hsq=>mv (v:=.slice Ams ms.length cms) r0) (qq ⟨_,rfl,rfl⟩ r0 r0 (fun wq hsq=>mv (v:=I (k:Int)) r0) (qq ⟨_,rfl,rfl⟩ r0 r0 (fun wq hsq=>cuhm_ (zs:=ms) k sl22 r0 r0 (by omega) hms.cap) (qq ⟨_,rfl,rfl⟩ r0 r0 (fun wq hsq=>mv (v:=.slice Ams ms.length cms) r0) (qq ⟨_,rfl,rfl⟩ r0 r0 (fun wq hsq=>mv (v:=I (k:Int)) r0) (ixq1 k sl22 r0 r0 hms (by omega) (getm I 0 (by omega)) ⟨_,rfl,rfl⟩ r0 (fun a2 ha2=>?_))))))
   refine qq ⟨_,rfl,rfl⟩ r0 r0 (fun wq hsq=>lda (v:=I (ms.getD k 0)) hsq ha2 (fun _ h=>h) r0 r0 one3) (qc (.bool (decide ((ms.getD k 0)∈(ms.take k)))) ⟨_,rfl,rfl⟩ r0 (fun wq hsq=>(l5Has (Azs:=Ams) (czs:=cms) (zs:=ms.take k) (n:=ms.getD k 0) (w:=_) (hzs:=(Sl.cuthm (hms.up0 hsq) (by omega)))).mono (fun v w' h=>⟨h.1,by simpa using hsq.call0 h.2⟩)) (qA r0 (pf (v:=.bool (decide ((ms.getD k 0)∈(ms.take k)))) r0 r0) (qn (fun w3 hs3=>?_))))
   refine nN ?_
   refine cdd (p:=(ms.getD k 0)∈(ms.take k)) r0 (fun h3=>?_) (fun h3=>?_)
   ·refine sr (tA (.bool false) r0 (nn ?_))
    refine rt (bR (tR (tR (bR (tR ?_)))))
    refine fT (.bool false) r0 ?_
    have e2:false=methOk ms:=by exact(meth_bad2 (k:=k) (by omega) ‹_›).symm
    exact⟨(congrArg (Value.bool) e2),hs3⟩
   ·refine sk (bN (nN (rg (tm (I (k:Int)) r0 (qt r0 (add (a:=(k:Int)) (b:=1) r0 r0 (by exact⟨by omega,by omega⟩)) (tA (I ((k:Int)+1)) r0 (nl ?_)))))))
    refine nN ?_
    refine⟨(k+1),⟨(zR r0),(by omega),(methT_step (by omega) ha (Decidable.not_not.1 ‹_›) ‹_›),hs3⟩,?_⟩
    omega
 ·refine ex (tE (tE (bE ?_)))
  refine nN (sr (tm (Z13 Ams ms cms) r0 (qt r0 (lnA (n:=ms.length) sl22 r0) (cL r0 (sIn (x:=(ms.length:Int)) (lo:=1) (hi:=8) (w:=_)) ?_))))
  rintro _ w4 ⟨rfl,hs4⟩
  replace hs4:=hs1.call0 hs4
  refine tA (.bool (decide (1≤(ms.length:Int)∧(ms.length:Int)≤8))) r0 (nn (rt (fT (.bool (decide (1≤(ms.length:Int)∧(ms.length:Int)≤8))) r0 ?_)))
  have e3:(decide (1≤(ms.length:Int)∧(ms.length:Int)≤8))=methOk ms:=by exact meth_end (by omega) ha
  exact⟨(congrArg (Value.bool) e3),hs4⟩
theorem iAddressValid (ak:Int) {Aaq:Option Addr} {caq:Nat} (aq:List Int) (an:List UInt8) (apt:Int) (w:World) (haq:Sl w [] 1 Aaq aq.length caq (aq.map I)) (han_n:an.length≤1099511627776):Does Tryz.prog 62 [.agg #[I ak,.slice Aaq aq.length caq,Str an,I apt]] w (fun v w'=>v=.bool (addrOk ak aq an apt)∧SH w w' [] []):=by
 refine fE (N:=36) Tryz.func62 r0 (by kernel_rfl) r0 ?_
 have hs0:=SH.refl w []
 have haq_m:aq.length≤9223372036854775807:=Nat.le_trans haq.cap haq.capMax
 refine sr (bx (v:=.agg #[I ak,(Z10 Aaq aq caq),Str an,I apt]) (cs:=[I ak,(Z10 Aaq aq caq),Str an,I apt]) hs0 r0 r0 trivial r0 (fun b1 w1 hs1=>?_))
 refine tA (.bool false) r0 (nn (sq (sr (qt r0 (fa 0 fo43_0 r0) (qt r0 (lD (I ak) hs1 0 r0 one3) ?_)))))
 refine nn (bl (sr (qt r0 (eqi (k:=.i64) (a:=ak) (b:=1) r0 r0) (tA (.bool (decide (ak=1))) r0 (nl ?_)))))
 refine nN ?_
 refine cdd (p:=ak=1) r0 (fun h1=>?_) (fun h1=>?_)
 ·refine sr (qt r0 (fa 1 fo43_1 r0) (qt r0 (lD (Z13 Aaq aq caq) hs1 0 r0 one22) (cL r0 (iQuadValid (Aqs:=Aaq) (cqs:=caq) (qs:=aq) (w:=_) (hqs:=(haq.up0 hs1))) ?_)))
  rintro _ w2 ⟨rfl,hs2⟩
  replace hs2:=hs1.call0 hs2
  refine tm (.bool (quadOk aq)) r0 ?_
  refine spl (b:=quadOk aq) 10 r0 (fun h2=>?_) (fun h2=>?_)
  ·refine q ⟨_,rfl,rfl⟩ r0 r0 (fa 2 fo43_2 r0) (q ⟨_,rfl,rfl⟩ r0 r0 (lD (Str an) hs2 0 r0 one9) (q ⟨_,rfl,rfl⟩ r0 r0 (eqs (l:=an) (m:=[]) r0 r0) (qt r0 (pt (v:=.bool (decide (an=[]))) r0 r0) (tm (.bool (decide (an=[]))) r0 ?_))))
   refine spd (p:=an=[]) 15 r0 (fun h3=>?_) (fun h3=>?_)
   ·refine q ⟨_,rfl,rfl⟩ r0 r0 (fa 3 fo43_3 r0) (q ⟨_,rfl,rfl⟩ r0 r0 (lD (I apt) hs2 0 r0 one3) (cl ⟨_,rfl,rfl⟩ r0 (isPort (x:=apt) (w:=_)) ?_))
    rintro _ w3 ⟨rfl,hs3⟩
    replace hs3:=hs2.call0 hs3
    refine qt r0 (pt (v:=.bool (decide (0≤apt∧apt≤65535))) r0 r0) (tA (.bool (decide (0≤apt∧apt≤65535))) r0 (nn ?_))
    refine rt (bR (tR ?_))
    refine fT (.bool (decide (0≤apt∧apt≤65535))) r0 ?_
    have e1:(decide (0≤apt∧apt≤65535))=addrOk ak aq an apt:=by(rw[addr_is1 ‹_›]; simp[h1,h2,h3]; done)
    exact⟨(congrArg (Value.bool) e1),(hs3.pk [] r0)⟩
   ·refine gf5 r0 (gf5 r0 (gf5 r0 (qt r0 (pf (v:=.bool false) r0 r0) (tA (.bool false) r0 (nn ?_)))))
    refine rt (bR (tR ?_))
    refine fT (.bool false) r0 ?_
    have e2:false=addrOk ak aq an apt:=by(rw[addr_is1 ‹_›]; simp[h1,h2,h3]; done)
    exact⟨(congrArg (Value.bool) e2),(hs2.pk [] r0)⟩
  ·refine gf5 r0 (gf5 r0 (gf5 r0 (qt r0 (pf (v:=.bool false) r0 r0) (tm (.bool false) r0 (gf5 r0 (gf5 r0 (gf5 r0 ?_)))))))
   refine qt r0 (pf (v:=.bool false) r0 r0) (tA (.bool false) r0 (nn ?_))
   refine rt (bR (tR ?_))
   refine fT (.bool false) r0 ?_
   have e3:false=addrOk ak aq an apt:=by(rw[addr_is1 ‹_›]; simp[h1,h2]; done)
   exact⟨(congrArg (Value.bool) e3),(hs2.pk [] r0)⟩
 ·refine sr (qt r0 (eqi (k:=.i64) (a:=ak) (b:=3) r0 r0) (tA (.bool (decide (ak=3))) r0 (nn ?_)))
  refine cdd (p:=ak=3) r0 (fun h4=>?_) (fun h4=>?_)
  ·refine sr (qt r0 (fa 2 fo43_2 r0) (qt r0 (lD (Str an) hs1 0 r0 one9) (cL r0 (iNameValid (l:=an) (w:=_) (hl_n:=(by omega))) ?_)))
   rintro _ w4 ⟨rfl,hs4⟩
   replace hs4:=hs1.call0 hs4
   refine tm (.bool (nameOk an)) r0 ?_
   refine spl (b:=nameOk an) 25 r0 (fun h5=>?_) (fun h5=>?_)
   ·refine q ⟨_,rfl,rfl⟩ r0 r0 (fa 1 fo43_1 r0) (q ⟨_,rfl,rfl⟩ r0 r0 (lD (Z13 Aaq aq caq) hs4 0 r0 one22) (q ⟨_,rfl,rfl⟩ r0 r0 (lnA (n:=aq.length) sl22 r0) (q ⟨_,rfl,rfl⟩ r0 r0 (eqi (k:=.i64) (a:=(aq.length:Int)) (b:=0) r0 r0) (qt r0 (pt (v:=.bool (decide ((aq.length:Int)=0))) r0 r0) (tm (.bool (decide ((aq.length:Int)=0))) r0 ?_)))))
    refine spd (p:=(aq.length:Int)=0) 31 r0 (fun h6=>?_) (fun h6=>?_)
    ·refine q ⟨_,rfl,rfl⟩ r0 r0 (fa 3 fo43_3 r0) (q ⟨_,rfl,rfl⟩ r0 r0 (lD (I apt) hs4 0 r0 one3) (cl ⟨_,rfl,rfl⟩ r0 (isPort (x:=apt) (w:=_)) ?_))
     rintro _ w5 ⟨rfl,hs5⟩
     replace hs5:=hs4.call0 hs5
     refine qt r0 (pt (v:=.bool (decide (0≤apt∧apt≤65535))) r0 r0) (tA (.bool (decide (0≤apt∧apt≤65535))) r0 (nn ?_))
     refine rt (bR (tR ?_))
     refine fT (.bool (decide (0≤apt∧apt≤65535))) r0 ?_
     have e4:(decide (0≤apt∧apt≤65535))=addrOk ak aq an apt:=by(rw[addr_is3 ‹_›]; have hq0:aq=[]:=List.eq_nil_of_length_eq_zero (by omega); simp[hq0,h1,h4,h5,h6]; done)
     exact⟨(congrArg (Value.bool) e4),(hs5.pk [] r0)⟩
    ·refine gf5 r0 (gf5 r0 (gf5 r0 (qt r0 (pf (v:=.bool false) r0 r0) (tA (.bool false) r0 (nn ?_)))))
     refine rt (bR (tR ?_))
     refine fT (.bool false) r0 ?_
     have e5:false=addrOk ak aq an apt:=by(rw[addr_is3 ‹_›]; have hq0: ¬ aq=[]:=fun he=>absurd (by rw[he]; rfl:(aq.length:Int)=0) ‹_›; simp[hq0,h1,h4,h5,h6]; done)
     exact⟨(congrArg (Value.bool) e5),(hs4.pk [] r0)⟩
   ·refine gf5 r0 (gf5 r0 (gf5 r0 (gf5 r0 (qt r0 (pf (v:=.bool false) r0 r0) (tm (.bool false) r0 (gf5 r0 (gf5 r0 ?_)))))))
    refine gf5 r0 (qt r0 (pf (v:=.bool false) r0 r0) (tA (.bool false) r0 (nn ?_)))
    refine rt (bR (tR ?_))
    refine fT (.bool false) r0 ?_
    have e6:false=addrOk ak aq an apt:=by(rw[addr_is3 ‹_›]; simp[h1,h4,h5]; done)
    exact⟨(congrArg (Value.bool) e6),(hs4.pk [] r0)⟩
  ·refine sk (bN (nN (sr (tA (.bool false) r0 (nn ?_)))))
   refine rt (fT (.bool false) r0 ?_)
   have e7:false=addrOk ak aq an apt:=by exact(addr_no _ _ _ ‹_› ‹_›).symm
   exact⟨(congrArg (Value.bool) e7),(hs1.pk [] r0)⟩
theorem sAddressValid (ak:Int) {Aaq:Option Addr} {caq:Nat} (aq:List Int) (an:List UInt8) (apt:Int) (w:World) (haq:Sl w [] 1 Aaq aq.length caq (aq.map I)) (han_n:an.length≤1099511627776):Does Tryz.prog 128 [.agg #[I ak,.slice Aaq aq.length caq,Str an,I apt]] w (fun v w'=>v=.bool (addrOk ak aq an apt)∧SH w w' [] []):=by
 refine fE (N:=30) Tryz.func128 r0 (by kernel_rfl) r0 ?_
 have hs0:=SH.refl w []
 have haq_m:aq.length≤9223372036854775807:=Nat.le_trans haq.cap haq.capMax
 refine sr (bx (v:=.agg #[I ak,(Z10 Aaq aq caq),Str an,I apt]) (cs:=[I ak,(Z10 Aaq aq caq),Str an,I apt]) hs0 r0 r0 trivial r0 (fun b1 w1 hs1=>?_))
 refine tA (.bool false) r0 (nn (sq (sr (qt r0 (fa 3 fo43_3 r0) (qt r0 (lD (I apt) hs1 0 r0 one3) ?_)))))
 refine cL r0 (sIn (x:=apt) (lo:=0) (hi:=65535) (w:=_)) ?_
 rintro _ w2 ⟨rfl,hs2⟩
 replace hs2:=hs1.call0 hs2
 refine qt r0 (nd (p:=0≤apt∧apt≤65535) r0) (nn ?_)
 refine cdd (p:=¬ (0≤apt∧apt≤65535)) r0 (fun h1=>?_) (fun h1=>?_)
 ·refine sr (tA (.bool false) r0 (nn (rt (tR ?_))))
  refine fT (.bool false) r0 ?_
  have e1:false=addrOk ak aq an apt:=by exact(addr_port _ _ ‹_›).symm
  exact⟨(congrArg (Value.bool) e1),(hs2.pk [] r0)⟩
 ·refine sk (nN (sq (sr (qt r0 (fa 0 fo43_0 r0) (qt r0 (lD (I ak) hs2 0 r0 one3) (nl ?_))))))
  refine nN (bl (sr (qt r0 (eqi (k:=.i64) (a:=ak) (b:=1) r0 r0) (tA (.bool (decide (ak=1))) r0 (nn ?_)))))
  refine cdd (p:=ak=1) r0 (fun h2=>?_) (fun h2=>?_)
  ·refine sr (qt r0 (fa 1 fo43_1 r0) (qt r0 (lD (Z13 Aaq aq caq) hs2 0 r0 one22) (cL r0 (sQuadValid (Aqs:=Aaq) (cqs:=caq) (qs:=aq) (w:=_) (hqs:=(haq.up0 hs2))) ?_)))
   rintro _ w3 ⟨rfl,hs3⟩
   replace hs3:=hs2.call0 hs3
   refine tm (.bool (quadOk aq)) r0 ?_
   refine spl (b:=quadOk aq) 14 r0 (fun h3=>?_) (fun h3=>?_)
   ·refine q ⟨_,rfl,rfl⟩ r0 r0 (fa 2 fo43_2 r0) (q ⟨_,rfl,rfl⟩ r0 r0 (lD (Str an) hs3 0 r0 one9) (q ⟨_,rfl,rfl⟩ r0 r0 (eqs (l:=an) (m:=[]) r0 r0) (qt r0 (pt (v:=.bool (decide (an=[]))) r0 r0) (tA (.bool (decide (an=[]))) r0 (nn ?_)))))
    refine rt (bR (tR ?_))
    refine fT (.bool (decide (an=[]))) r0 ?_
    have e2:(decide (an=[]))=addrOk ak aq an apt:=by(rw[addr_is1 ‹_›]; have hp0:0≤apt∧apt≤65535:=Decidable.not_not.1 ‹_›; simp[hp0.1,hp0.2,h1,h2,h3]; done)
    exact⟨(congrArg (Value.bool) e2),(hs3.pk [] r0)⟩
   ·refine gf5 r0 (gf5 r0 (gf5 r0 (qt r0 (pf (v:=.bool false) r0 r0) (tA (.bool false) r0 (nn ?_)))))
    refine rt (bR (tR ?_))
    refine fT (.bool false) r0 ?_
    have e3:false=addrOk ak aq an apt:=by(rw[addr_is1 ‹_›]; simp[h1,h2,h3]; done)
    exact⟨(congrArg (Value.bool) e3),(hs3.pk [] r0)⟩
  ·refine sr (qt r0 (eqi (k:=.i64) (a:=ak) (b:=3) r0 r0) (tA (.bool (decide (ak=3))) r0 (nn ?_)))
   refine cdd (p:=ak=3) r0 (fun h4=>?_) (fun h4=>?_)
   ·refine sr (qt r0 (fa 2 fo43_2 r0) (qt r0 (lD (Str an) hs2 0 r0 one9) (cL r0 (sNameValid (l:=an) (w:=_) (hl_n:=(by omega))) ?_)))
    rintro _ w4 ⟨rfl,hs4⟩
    replace hs4:=hs2.call0 hs4
    refine tm (.bool (nameOk an)) r0 ?_
    refine spl (b:=nameOk an) 24 r0 (fun h5=>?_) (fun h5=>?_)
    ·refine q ⟨_,rfl,rfl⟩ r0 r0 (fa 1 fo43_1 r0) (q ⟨_,rfl,rfl⟩ r0 r0 (lD (Z13 Aaq aq caq) hs4 0 r0 one22) (q ⟨_,rfl,rfl⟩ r0 r0 (lnA (n:=aq.length) sl22 r0) (q ⟨_,rfl,rfl⟩ r0 r0 (eqi (k:=.i64) (a:=(aq.length:Int)) (b:=0) r0 r0) (qt r0 (pt (v:=.bool (decide ((aq.length:Int)=0))) r0 r0) (tA (.bool (decide ((aq.length:Int)=0))) r0 (nn ?_))))))
     refine rt (bR (tR ?_))
     refine fT (.bool (decide ((aq.length:Int)=0))) r0 ?_
     have e4:(decide ((aq.length:Int)=0))=addrOk ak aq an apt:=by(rw[addr_is3 ‹_›]; have hp0:0≤apt∧apt≤65535:=Decidable.not_not.1 ‹_›; simp[hp0.1,hp0.2,h1,h2,h4,h5]; done)
     exact⟨(congrArg (Value.bool) e4),(hs4.pk [] r0)⟩
    ·refine gf5 r0 (gf5 r0 (gf5 r0 (gf5 r0 (qt r0 (pf (v:=.bool false) r0 r0) (tA (.bool false) r0 (nn ?_))))))
     refine rt (bR (tR ?_))
     refine fT (.bool false) r0 ?_
     have e5:false=addrOk ak aq an apt:=by(rw[addr_is3 ‹_›]; simp[h1,h2,h4,h5]; done)
     exact⟨(congrArg (Value.bool) e5),(hs4.pk [] r0)⟩
   ·refine sk (bN (nN (sr (tA (.bool false) r0 (nn ?_)))))
    refine rt (fT (.bool false) r0 ?_)
    have e6:false=addrOk ak aq an apt:=by exact(addr_no _ _ _ ‹_› ‹_›).symm
    exact⟨(congrArg (Value.bool) e6),(hs2.pk [] r0)⟩
theorem iIsLogin (lu:List UInt8) (lw:List UInt8) (w:World) (hlu_n:lu.length≤9223372036854775807) (hlw_n:lw.length≤9223372036854775807):Does Tryz.prog 79 [.agg #[Str lu,Str lw]] w (fun v w'=>v=.bool (loginOk lu lw)∧SH w w' [] []):=by
 refine fE (N:=21) Tryz.func79 r0 (by kernel_rfl) r0 ?_
 have hs0:=SH.refl w []
 refine sr (bx (v:=.agg #[Str lu,Str lw]) (cs:=[Str lu,Str lw]) hs0 r0 r0 trivial r0 (fun b1 w1 hs1=>?_))
 refine tA (.bool false) r0 (nx (qt r0 (fa 0 fo51_0 r0) (qt r0 (lD (Str lu) hs1 0 r0 one9) (qt r0 (nes (l:=lu) (m:=[]) r0 r0) ?_))))
 refine tm (.bool (decide (lu≠[]))) r0 ?_
 refine spd (p:=lu≠[]) 6 r0 (fun h1=>?_) (fun h1=>?_)
 ·refine q ⟨_,rfl,rfl⟩ r0 r0 (fa 1 fo51_1 r0) (q ⟨_,rfl,rfl⟩ r0 r0 (lD (Str lw) hs1 0 r0 one9) (q ⟨_,rfl,rfl⟩ r0 r0 (nes (l:=lw) (m:=[]) r0 r0) (qt r0 (pt (v:=.bool (decide (lw≠[]))) r0 r0) (tm (.bool (decide (lw≠[]))) r0 ?_))))
  refine spd (p:=lw≠[]) 11 r0 (fun h2=>?_) (fun h2=>?_)
  ·refine q ⟨_,rfl,rfl⟩ r0 r0 (fa 0 fo51_0 r0) (q ⟨_,rfl,rfl⟩ r0 r0 (lD (Str lu) hs1 0 r0 one9) (cl ⟨_,rfl,rfl⟩ r0 (iUserValid (s:=lu) (w:=_) (hs_n:=(by omega))) ?_))
   rintro _ w2 ⟨rfl,hs2⟩
   replace hs2:=hs1.call0 hs2
   refine qt r0 (pt (v:=.bool (userOk lu)) r0 r0) (tm (.bool (userOk lu)) r0 ?_)
   refine spl (b:=userOk lu) 16 r0 (fun h3=>?_) (fun h3=>?_)
   ·refine q ⟨_,rfl,rfl⟩ r0 r0 (fa 1 fo51_1 r0) (q ⟨_,rfl,rfl⟩ r0 r0 (lD (Str lw) hs2 0 r0 one9) (cl ⟨_,rfl,rfl⟩ r0 (iUserValid (s:=lw) (w:=_) (hs_n:=(by omega))) ?_))
    rintro _ w3 ⟨rfl,hs3⟩
    replace hs3:=hs2.call0 hs3
    refine qt r0 (pt (v:=.bool (userOk lw)) r0 r0) (tA (.bool (userOk lw)) r0 (nn (rt (fT (.bool (userOk lw)) r0 ?_))))
    have e1:(userOk lw)=loginOk lu lw:=by simp[loginOk,h1,h2,h3]
    exact⟨(congrArg (Value.bool) e1),(hs3.pk [] r0)⟩
   ·refine gf5 r0 (gf5 r0 (gf5 r0 (qt r0 (pf (v:=.bool false) r0 r0) (tA (.bool false) r0 (nn (rt ?_))))))
    refine fT (.bool false) r0 ?_
    have e2:false=loginOk lu lw:=by simp[loginOk,h1,h2,h3]
    exact⟨(congrArg (Value.bool) e2),(hs2.pk [] r0)⟩
  ·refine gf5 r0 (gf5 r0 (gf5 r0 (qt r0 (pf (v:=.bool false) r0 r0) (tm (.bool false) r0 (gf5 r0 (gf5 r0 (gf5 r0 ?_)))))))
   refine qt r0 (pf (v:=.bool false) r0 r0) (tA (.bool false) r0 (nn (rt (fT (.bool false) r0 ?_))))
   have e3:false=loginOk lu lw:=by simp[loginOk,h1,h2]
   exact⟨(congrArg (Value.bool) e3),(hs1.pk [] r0)⟩
 ·refine gf5 r0 (gf5 r0 (gf5 r0 (qt r0 (pf (v:=.bool false) r0 r0) (tm (.bool false) r0 (gf5 r0 (gf5 r0 (gf5 r0 ?_)))))))
  refine qt r0 (pf (v:=.bool false) r0 r0) (tm (.bool false) r0 (gf5 r0 (gf5 r0 (gf5 r0 (qt r0 (pf (v:=.bool false) r0 r0) (tA (.bool false) r0 (nl ?_)))))))
  refine nN (rt (fT (.bool false) r0 ?_))
  have e4:false=loginOk lu lw:=by simp[loginOk,h1]
  exact⟨(congrArg (Value.bool) e4),(hs1.pk [] r0)⟩
theorem sL11Ok (lu:List UInt8) (lw:List UInt8) (w:World) (hlu_n:lu.length≤9223372036854775807) (hlw_n:lw.length≤9223372036854775807):Does Tryz.prog 129 [.agg #[Str lu,Str lw]] w (fun v w'=>v=.bool (loginOk lu lw)∧SH w w' [] []):=by
 refine fE (N:=23) Tryz.func129 r0 (by kernel_rfl) r0 ?_
 have hs0:=SH.refl w []
 refine sr (bx (v:=.agg #[Str lu,Str lw]) (cs:=[Str lu,Str lw]) hs0 r0 r0 trivial r0 (fun b1 w1 hs1=>?_))
 refine tA (.bool false) r0 (nx (qt r0 (fa 0 fo51_0 r0) (qt r0 (lD (Str lu) hs1 0 r0 one9) (cL r0 (sUserValid (s:=lu) (w:=_) (hs_n:=(by omega))) ?_))))
 rintro _ w2 ⟨rfl,hs2⟩
 replace hs2:=hs1.call0 hs2
 refine tm (.bool (userOk lu)) r0 ?_
 refine spl (b:=userOk lu) 6 r0 (fun h1=>?_) (fun h1=>?_)
 ·refine q ⟨_,rfl,rfl⟩ r0 r0 (fa 1 fo51_1 r0) (q ⟨_,rfl,rfl⟩ r0 r0 (lD (Str lw) hs2 0 r0 one9) (cl ⟨_,rfl,rfl⟩ r0 (sUserValid (s:=lw) (w:=_) (hs_n:=(by omega))) ?_))
  rintro _ w3 ⟨rfl,hs3⟩
  replace hs3:=hs2.call0 hs3
  refine qt r0 (pt (v:=.bool (userOk lw)) r0 r0) (tm (.bool (userOk lw)) r0 ?_)
  refine spl (b:=userOk lw) 11 r0 (fun h2=>?_) (fun h2=>?_)
  ·refine q ⟨_,rfl,rfl⟩ r0 r0 (fa 0 fo51_0 r0) (q ⟨_,rfl,rfl⟩ r0 r0 (lD (Str lu) hs3 0 r0 one9) (q ⟨_,rfl,rfl⟩ r0 r0 (lnS (l:=lu) st9 r0) (q ⟨_,rfl,rfl⟩ r0 r0 (gtr (k:=.i64) (a:=(lu.length:Int)) (b:=0) r0 r0) (qt r0 (pt (v:=.bool (decide ((0:Int)<(lu.length:Int)))) r0 r0) (tm (.bool (decide ((0:Int)<(lu.length:Int)))) r0 ?_)))))
   refine spd (p:=(0:Int)<(lu.length:Int)) 17 r0 (fun h3=>?_) (fun h3=>?_)
   ·refine q ⟨_,rfl,rfl⟩ r0 r0 (fa 1 fo51_1 r0) (q ⟨_,rfl,rfl⟩ r0 r0 (lD (Str lw) hs3 0 r0 one9) (q ⟨_,rfl,rfl⟩ r0 r0 (lnS (l:=lw) st9 r0) (q ⟨_,rfl,rfl⟩ r0 r0 (gtr (k:=.i64) (a:=(lw.length:Int)) (b:=0) r0 r0) (qt r0 (pt (v:=.bool (decide ((0:Int)<(lw.length:Int)))) r0 r0) (tA (.bool (decide ((0:Int)<(lw.length:Int)))) r0 (nn ?_))))))
    refine rt (fT (.bool (decide ((0:Int)<(lw.length:Int)))) r0 ?_)
    have e1:(decide ((0:Int)<(lw.length:Int)))=loginOk lu lw:=by simp only[loginOk_len]; simp only[h1,h2,h3,decide_true,decide_false,Bool.and_true,Bool.true_and,Bool.and_false,Bool.false_and]
    exact⟨(congrArg (Value.bool) e1),(hs3.pk [] r0)⟩
   ·refine gf5 r0 (gf5 r0 (gf5 r0 (gf5 r0 (qt r0 (pf (v:=.bool false) r0 r0) (tA (.bool false) r0 (nn ?_))))))
    refine rt (fT (.bool false) r0 ?_)
    have e2:false=loginOk lu lw:=by simp only[loginOk_len]; simp only[h1,h2,h3,decide_true,decide_false,Bool.and_true,Bool.true_and,Bool.and_false,Bool.false_and]
    exact⟨(congrArg (Value.bool) e2),(hs3.pk [] r0)⟩
  ·refine gf5 r0 (gf5 r0 (gf5 r0 (gf5 r0 (qt r0 (pf (v:=.bool false) r0 r0) (tm (.bool false) r0 (gf5 r0 (gf5 r0 ?_)))))))
   refine gf5 r0 (gf5 r0 (qt r0 (pf (v:=.bool false) r0 r0) (tA (.bool false) r0 (nn (rt (fT (.bool false) r0 ?_))))))
   have e3:false=loginOk lu lw:=by simp only[loginOk_len]; simp only[h1,h2,decide_true,decide_false,Bool.and_true,Bool.true_and,Bool.and_false,Bool.false_and]
   exact⟨(congrArg (Value.bool) e3),(hs3.pk [] r0)⟩
 ·refine gf5 r0 (gf5 r0 (gf5 r0 (qt r0 (pf (v:=.bool false) r0 r0) (tm (.bool false) r0 (gf5 r0 (gf5 r0 (gf5 r0 ?_)))))))
  refine gf5 r0 (qt r0 (pf (v:=.bool false) r0 r0) (tm (.bool false) r0 (gf5 r0 (gf5 r0 (gf5 r0 (gf5 r0 (qt r0 (pf (v:=.bool false) r0 r0) ?_)))))))
  refine tA (.bool false) r0 (nn (rt (fT (.bool false) r0 ?_)))
  have e4:false=loginOk lu lw:=by simp only[loginOk_len]; simp only[h1,decide_true,decide_false,Bool.and_true,Bool.true_and,Bool.and_false,Bool.false_and]
  exact⟨(congrArg (Value.bool) e4),(hs2.pk [] r0)⟩
theorem iClientValid {Ams:Option Addr} {cms:Nat} (ms:List Int) (lu:List UInt8) (lw:List UInt8) (ak:Int) {Aaq:Option Addr} {caq:Nat} (aq:List Int) (an:List UInt8) (apt:Int) (w:World) (hms:Sl w [] 1 Ams ms.length cms (ms.map I)) (hlu_n:lu.length≤2147483648) (hlw_n:lw.length≤2147483648) (haq:Sl w [] 1 Aaq aq.length caq (aq.map I)) (han_n:an.length≤1099511627776):Does Tryz.prog 66 [.agg #[.slice Ams ms.length cms,Str lu,Str lw,I ak,.slice Aaq aq.length caq,Str an,I apt]] w (fun v w'=>v=.bool (clientOk ms lu lw ak aq an apt)∧SH w w' [] []):=by
 refine fE (N:=23) Tryz.func66 r0 (by kernel_rfl) r0 ?_
 have hs0:=SH.refl w []
 have hms_m:ms.length≤9223372036854775807:=Nat.le_trans hms.cap hms.capMax
 have haq_m:aq.length≤9223372036854775807:=Nat.le_trans haq.cap haq.capMax
 refine sr (bx (v:=.agg #[(Z10 Ams ms cms),Str lu,Str lw,I ak,(Z10 Aaq aq caq),Str an,I apt]) (cs:=[(Z10 Ams ms cms),Str lu,Str lw,I ak,(Z10 Aaq aq caq),Str an,I apt]) hs0 r0 r0 trivial r0 (fun b1 w1 hs1=>?_))
 refine tA (.bool false) r0 (nn (sq (sr (qt r0 (fa 0 fo53_0 r0) (qt r0 (lD (Z13 Ams ms cms) hs1 0 r0 one22) ?_)))))
 refine cL r0 (iAreMethods (Ams:=Ams) (cms:=cms) (ms:=ms) (w:=_) (hms:=(hms.up0 hs1))) ?_
 rintro _ w2 ⟨rfl,hs2⟩
 replace hs2:=hs1.call0 hs2
 refine qt r0 (nt (b:=methOk ms) r0) (tm (.bool (!(methOk ms))) r0 ?_)
 refine spl (b:=!(methOk ms)) 7 r0 (fun h1=>?_) (fun h1=>?_)
 ·have h2:(methOk ms)=false:=by simpa using h1
  refine gt5 r0 (gt5 r0 (gt5 r0 (gt5 r0 (qt r0 (pt (v:=.bool true) r0 r0) (nn (cdt r0 ?_))))))
  refine sr (tA (.bool false) r0 (nn (rt (tR ?_))))
  refine fT (.bool false) r0 ?_
  have e1:false=clientOk ms lu lw ak aq an apt:=by simp[clientOk,h2]
  exact⟨(congrArg (Value.bool) e1),(hs2.pk [] r0)⟩
 ·have h3:(methOk ms)=true:=by simpa using h1
  refine q ⟨_,rfl,rfl⟩ r0 r0 (fa 3 fo53_2 r0) (q ⟨_,rfl,rfl⟩ r0 r0 (lG [I ak,(Z10 Aaq aq caq),Str an,I apt] hs2 0 r0 ag43) (cl ⟨_,rfl,rfl⟩ r0 (iAddressValid (ak:=ak) (Aaq:=Aaq) (caq:=caq) (aq:=aq) (an:=an) (apt:=apt) (w:=_) (haq:=(haq.up0 hs2)) (han_n:=(by omega))) ?_))
  rintro _ w3 ⟨rfl,hs3⟩
  replace hs3:=hs2.call0 hs3
  refine q ⟨_,rfl,rfl⟩ r0 r0 (nt (b:=addrOk ak aq an apt) r0) (qt r0 (pf (v:=.bool (!(addrOk ak aq an apt))) r0 r0) (nn ?_))
  refine cd (b:=!(addrOk ak aq an apt)) r0 (fun h4=>?_) (fun h4=>?_)
  ·have h5:(addrOk ak aq an apt)=false:=by simpa using h4
   refine sr (tA (.bool false) r0 (nn (rt (tR ?_))))
   refine fT (.bool false) r0 ?_
   have e2:false=clientOk ms lu lw ak aq an apt:=by simp[clientOk,h3,h5]
   exact⟨(congrArg (Value.bool) e2),(hs3.pk [] r0)⟩
  ·have h6:(addrOk ak aq an apt)=true:=by simpa using h4
   refine sk (nN (sq (sr (qt r0 (fa 0 fo53_0 r0) (qt r0 (lD (Z13 Ams ms cms) hs3 0 r0 one22) (cL r0 (slContains (Azs:=Ams) (czs:=cms) (zs:=ms) (n:=2) (w:=_) (hzs:=(hms.up0 hs3))) ?_))))))
   rintro _ w4 ⟨rfl,hs4⟩
   replace hs4:=hs3.call0 hs4
   refine nn ?_
   refine cdd (p:=2∈ms) r0 (fun h7=>?_) (fun h7=>?_)
   ·refine sr (qt r0 (fa 1 fo53_1 r0) (qt r0 (lG [Str lu,Str lw] hs4 0 r0 ag51) (cL r0 (iIsLogin (lu:=lu) (lw:=lw) (w:=_) (hlu_n:=(by omega)) (hlw_n:=(by omega))) ?_)))
    rintro _ w5 ⟨rfl,hs5⟩
    replace hs5:=hs4.call0 hs5
    refine tA (.bool (loginOk lu lw)) r0 (nn (rt (tR ?_)))
    refine fT (.bool (loginOk lu lw)) r0 ?_
    have e3:(loginOk lu lw)=clientOk ms lu lw ak aq an apt:=by simp[clientOk,h3,h6,h7]
    exact⟨(congrArg (Value.bool) e3),(hs5.pk [] r0)⟩
   ·refine sk (nN (sr (qt r0 (fa 1 fo53_1 r0) (qt r0 (lG [Str lu,Str lw] hs4 0 r0 ag51) (qt r0 (bdv (v:=.agg #[Str [],Str []]) [] r0 (fun _=>by kernel_rfl)) (qt r0 (eq2 (a:=lu) (b:=lw) (c:=[]) (e:=[]) s2_51 r0 r0) ?_))))))
    refine tA (.bool (decide (lu=[]∧lw=[]))) r0 (nn (rt (fT (.bool (decide (lu=[]∧lw=[]))) r0 ?_)))
    have e4:(decide (lu=[]∧lw=[]))=clientOk ms lu lw ak aq an apt:=by simp[clientOk,h3,h6,h7]
    exact⟨(congrArg (Value.bool) e4),(hs4.pk [] r0)⟩
theorem sClientValid {Ams:Option Addr} {cms:Nat} (ms:List Int) (lu:List UInt8) (lw:List UInt8) (ak:Int) {Aaq:Option Addr} {caq:Nat} (aq:List Int) (an:List UInt8) (apt:Int) (w:World) (hms:Sl w [] 1 Ams ms.length cms (ms.map I)) (hlu_n:lu.length≤2147483648) (hlw_n:lw.length≤2147483648) (haq:Sl w [] 1 Aaq aq.length caq (aq.map I)) (han_n:an.length≤1099511627776):Does Tryz.prog 67 [.agg #[.slice Ams ms.length cms,Str lu,Str lw,I ak,.slice Aaq aq.length caq,Str an,I apt]] w (fun v w'=>v=.bool (clientOk ms lu lw ak aq an apt)∧SH w w' [] []):=by
 refine fE (N:=23) Tryz.func67 r0 (by kernel_rfl) r0 ?_
 have hs0:=SH.refl w []
 have hms_m:ms.length≤9223372036854775807:=Nat.le_trans hms.cap hms.capMax
 have haq_m:aq.length≤9223372036854775807:=Nat.le_trans haq.cap haq.capMax
 refine sr (bx (v:=.agg #[(Z10 Ams ms cms),Str lu,Str lw,I ak,(Z10 Aaq aq caq),Str an,I apt]) (cs:=[(Z10 Ams ms cms),Str lu,Str lw,I ak,(Z10 Aaq aq caq),Str an,I apt]) hs0 r0 r0 trivial r0 (fun b1 w1 hs1=>?_))
 refine tA (.bool false) r0 (nn (sq (sr (qt r0 (fa 0 fo53_0 r0) (qt r0 (lD (Z13 Ams ms cms) hs1 0 r0 one22) ?_)))))
 refine cL r0 (sL5Ok (Ams:=Ams) (cms:=cms) (ms:=ms) (w:=_) (hms:=(hms.up0 hs1))) ?_
 rintro _ w2 ⟨rfl,hs2⟩
 replace hs2:=hs1.call0 hs2
 refine qt r0 (nt (b:=methOk ms) r0) (tm (.bool (!(methOk ms))) r0 ?_)
 refine spl (b:=!(methOk ms)) 7 r0 (fun h1=>?_) (fun h1=>?_)
 ·have h2:(methOk ms)=false:=by simpa using h1
  refine gt5 r0 (gt5 r0 (gt5 r0 (gt5 r0 (qt r0 (pt (v:=.bool true) r0 r0) (nn (cdt r0 ?_))))))
  refine sr (tA (.bool false) r0 (nn (rt (tR ?_))))
  refine fT (.bool false) r0 ?_
  have e1:false=clientOk ms lu lw ak aq an apt:=by simp[clientOk,h2]
  exact⟨(congrArg (Value.bool) e1),(hs2.pk [] r0)⟩
 ·have h3:(methOk ms)=true:=by simpa using h1
  refine q ⟨_,rfl,rfl⟩ r0 r0 (fa 3 fo53_2 r0) (q ⟨_,rfl,rfl⟩ r0 r0 (lG [I ak,(Z10 Aaq aq caq),Str an,I apt] hs2 0 r0 ag43) (cl ⟨_,rfl,rfl⟩ r0 (sAddressValid (ak:=ak) (Aaq:=Aaq) (caq:=caq) (aq:=aq) (an:=an) (apt:=apt) (w:=_) (haq:=(haq.up0 hs2)) (han_n:=(by omega))) ?_))
  rintro _ w3 ⟨rfl,hs3⟩
  replace hs3:=hs2.call0 hs3
  refine q ⟨_,rfl,rfl⟩ r0 r0 (nt (b:=addrOk ak aq an apt) r0) (qt r0 (pf (v:=.bool (!(addrOk ak aq an apt))) r0 r0) (nn ?_))
  refine cd (b:=!(addrOk ak aq an apt)) r0 (fun h4=>?_) (fun h4=>?_)
  ·have h5:(addrOk ak aq an apt)=false:=by simpa using h4
   refine sr (tA (.bool false) r0 (nn (rt (tR ?_))))
   refine fT (.bool false) r0 ?_
   have e2:false=clientOk ms lu lw ak aq an apt:=by simp[clientOk,h3,h5]
   exact⟨(congrArg (Value.bool) e2),(hs3.pk [] r0)⟩
  ·have h6:(addrOk ak aq an apt)=true:=by simpa using h4
   refine sk (nN (sq (sr (qt r0 (fa 0 fo53_0 r0) (qt r0 (lD (Z13 Ams ms cms) hs3 0 r0 one22) (cL r0 (l5Has (Azs:=Ams) (czs:=cms) (zs:=ms) (n:=2) (w:=_) (hzs:=(hms.up0 hs3))) ?_))))))
   rintro _ w4 ⟨rfl,hs4⟩
   replace hs4:=hs3.call0 hs4
   refine nn ?_
   refine cdd (p:=2∈ms) r0 (fun h7=>?_) (fun h7=>?_)
   ·refine sr (qt r0 (fa 1 fo53_1 r0) (qt r0 (lG [Str lu,Str lw] hs4 0 r0 ag51) (cL r0 (sL11Ok (lu:=lu) (lw:=lw) (w:=_) (hlu_n:=(by omega)) (hlw_n:=(by omega))) ?_)))
    rintro _ w5 ⟨rfl,hs5⟩
    replace hs5:=hs4.call0 hs5
    refine tA (.bool (loginOk lu lw)) r0 (nn (rt (tR ?_)))
    refine fT (.bool (loginOk lu lw)) r0 ?_
    have e3:(loginOk lu lw)=clientOk ms lu lw ak aq an apt:=by simp[clientOk,h3,h6,h7]
    exact⟨(congrArg (Value.bool) e3),(hs5.pk [] r0)⟩
   ·refine sk (nN (sr (qt r0 (fa 1 fo53_1 r0) (qt r0 (lG [Str lu,Str lw] hs4 0 r0 ag51) (qt r0 (bdv (v:=.agg #[Str [],Str []]) [] r0 (fun _=>by kernel_rfl)) (qt r0 (eq2 (a:=lu) (b:=lw) (c:=[]) (e:=[]) s2_51 r0 r0) ?_))))))
    refine tA (.bool (decide (lu=[]∧lw=[]))) r0 (nn (rt (fT (.bool (decide (lu=[]∧lw=[]))) r0 ?_)))
    have e4:(decide (lu=[]∧lw=[]))=clientOk ms lu lw ak aq an apt:=by simp[clientOk,h3,h6,h7]
    exact⟨(congrArg (Value.bool) e4),(hs4.pk [] r0)⟩
set_option maxHeartbeats 8000000 in
theorem l91Quad {rb:Nat} {Ab:Option Addr} {cb:Nat} {bs:List UInt8} {p:Nat} (w:World) (hr:w.heap[rb]?=some (.cells [.slice Ab bs.length cb,.int .i64 (p:Int)].toArray 124 (0,0))) (hb:Sl w [rb] 1 Ab bs.length cb (bs.map U)) (hbn:bs.length≤2000) (hp:p≤549755813888):Does Tryz.prog 159 [pB rb] w (fun v w'=>∃ Ar:Option Addr,∃ cr:Nat,∃ r:List Int,∃ q:Nat,v=.slice Ar r.length cr∧(r.length≤4)∧(q≤p+10)∧SH w w' [rb] [.blk rb 124 [.slice Ab bs.length cb,I (q:Int)],.own Ar r.length cr 3 1 (r.map I)]):=by
 refine fE (N:=31) Tryz.func159 r0 (by kernel_rfl) r0 ?_
 have hs0:=SH.entry1 hr
 refine sr (tA ns r0 (nn (sq ?_)))
 refine raJ (fun w'=>∃ L,SH w w' [rb] L∧True) (fun f w'=>∃ (r1':Int) (q1' b2':Nat) (r4':Int) (q4':Nat) (r8':Int) (q8':Nat) (r10':Int) (q10':Nat) (r12':Int) (q12' b13':Nat),Hz f [(0,pB rb),(3,sb b13' (([(Z24 r1').getD r4'.toNat 0,r8',r10',r12']:List Int).length) 4)]∧(0≤r1'∧(r1'<256∨r1'=0))∧(q1'≤p+1)∧(0≤r4'∧(r4'<5∨r4'=0))∧(q4'≤q1'+1)∧(0≤r8'∧(r8'<2∨r8'=0))∧(q8'≤q4'+1)∧(0≤r10'∧(r10'<2∨r10'=0))∧(q10'≤q8'+1)∧(0≤r12'∧(r12'<256∨r12'=0))∧(q12'≤q10'+1)∧SH w w' [rb] [(Z5 rb Ab bs cb q12'),oI b13' ([(Z24 r1').getD r4'.toNat 0,r8',r10',r12']:List Int) 4 3,oI b2' (Z24 r1') 5 3]) mixed ?_ ?_
 ·refine dG 2 15 8191 (fun f w'=>∃ (r1':Int) (q1' b2':Nat) (r4':Int) (q4':Nat) (r8':Int) (q8':Nat) (r10':Int) (q10':Nat) (r12':Int) (q12':Nat),Hz f [(0,pB rb),(10,I ((Z24 r1').getD r4'.toNat 0)),(12,I r8'),(14,I r10'),(16,I r12')]∧(0≤r1'∧(r1'<256∨r1'=0))∧(q1'≤p+1)∧(0≤r4'∧(r4'<5∨r4'=0))∧(q4'≤q1'+1)∧(0≤r8'∧(r8'<2∨r8'=0))∧(q8'≤q4'+1)∧(0≤r10'∧(r10'<2∨r10'=0))∧(q10'≤q8'+1)∧(0≤r12'∧(r12'<256∨r12'=0))∧(q12'≤q10'+1)∧SH w w' [rb] [(Z5 rb Ab bs cb q12'),oI b2' (Z24 r1') 5 3]) ?_ (fun D_1_0=>?_)
  ·rintro f w1 ⟨r1',q1',b2',r4',q4',r8',q8',r10',q10',r12',q12',⟨g1,rfl⟩,p1,p2,p3,p4,p5,p6,p7,p8,p9,p10,hs1⟩
   refine aO 13 r0 (bsk hs1 sl22 [I ((Z24 r1').getD r4'.toNat 0),I r8',I r10',I r12'] [I ((Z24 r1').getD r4'.toNat 0),I r8',I r10',I r12'] trivial r0 (fun b13' w2 hs2=>?_))
   refine nk ⟨_,hs2,trivial⟩ ?_
   refine tk (fuel:=0) (is:=[14]) (.cons r0 (.nil)) (by kernel_rfl) (by kernel_rfl) ⟨_,hs2,trivial⟩ (yA r0 (asg (v:=sb b13' (([(Z24 r1').getD r4'.toNat 0,r8',r10',r12']:List Int).length) 4) r0) (.nil (ad (by kernel_rfl) ?_)))
   exact⟨r1',q1',b2',r4',q4',r8',q8',r10',q10',r12',q12',b13',(zR r0),p1,p2,p3,p4,p5,p6,p7,p8,p9,p10,(hs2.pk [0,2,1] r0)⟩
  refine dG 3 15 4095 (fun f w'=>∃ (r1':Int) (q1' b2':Nat) (r4':Int) (q4':Nat) (r8':Int) (q8':Nat) (r10':Int) (q10':Nat),Hz f [(0,pB rb),(10,I ((Z24 r1').getD r4'.toNat 0)),(12,I r8'),(14,I r10'),(15,pB rb)]∧(0≤r1'∧(r1'<256∨r1'=0))∧(q1'≤p+1)∧(0≤r4'∧(r4'<5∨r4'=0))∧(q4'≤q1'+1)∧(0≤r8'∧(r8'<2∨r8'=0))∧(q8'≤q4'+1)∧(0≤r10'∧(r10'<2∨r10'=0))∧(q10'≤q8'+1)∧SH w w' [rb] [(Z5 rb Ab bs cb q10'),oI b2' (Z24 r1') 5 3]) ?_ (fun D_1_1=>?_)
  ·rintro f w3 ⟨r1',q1',b2',r4',q4',r8',q8',r10',q10',⟨g2,rfl⟩,p11,p12,p13,p14,p15,p16,p17,p18,hs3⟩
   refine aO 12 r0 (cL r0 (pick (rb:=rb) (Ab:=Ab) (cb:=cb) (bs:=bs) (p:=q10') (n:=256) (w:=_) (hr:=(blk_heap hs3 0 r0)) (hb:=(hb.up hs3 (fun _ h=>h) (fun _ h=>.inl h))) (hbn:=‹_›) (hp:=(by omega))) ?_)
   rintro _ w4 ⟨r12',q12',rfl,p19,p20,hs4⟩
   replace hs4:=hs3.callM 0 r0 hs4 m_1
   exact nk ⟨_,hs4,trivial⟩ (alc D_1_0 ⟨r1',q1',b2',r4',q4',r8',q8',r10',q10',r12',q12',(zR r0),p11,p12,p13,p14,p15,p16,p17,p18,p19,p20,(hs4.pk [1,0] r0)⟩)
  refine dG 3 15 8127 (fun f w'=>∃ (r1':Int) (q1' b2':Nat) (r4':Int) (q4':Nat) (r8':Int) (q8':Nat) (r10':Int) (q10':Nat) (r12':Int) (q12':Nat),Hz f [(0,pB rb),(9,.pointer (some ⟨b2',r4'.toNat*1,none⟩)),(12,I r8'),(14,I r10'),(16,I r12')]∧(0≤r1'∧(r1'<256∨r1'=0))∧(q1'≤p+1)∧(0≤r4'∧(r4'<5∨r4'=0))∧(q4'≤q1'+1)∧(0≤r8'∧(r8'<2∨r8'=0))∧(q8'≤q4'+1)∧(0≤r10'∧(r10'<2∨r10'=0))∧(q10'≤q8'+1)∧(0≤r12'∧(r12'<256∨r12'=0))∧(q12'≤q10'+1)∧SH w w' [rb] [(Z5 rb Ab bs cb q12'),oI b2' (Z24 r1') 5 3]) ?_ (fun D_1_2=>?_)
  ·rintro f w5 ⟨r1',q1',b2',r4',q4',r8',q8',r10',q10',r12',q12',⟨g3,rfl⟩,p21,p22,p23,p24,p25,p26,p27,p28,p29,p30,hs5⟩
   refine aO 6 r0 (qt r0 (ldo1n (g:=I) (ys:=(Z24 r1')) (o:=r4'.toNat) 0 hs5 1 r0 r0 (by(simp; omega)) one3) ?_)
   exact nk ⟨_,hs5,trivial⟩ (alc D_1_0 ⟨r1',q1',b2',r4',q4',r8',q8',r10',q10',r12',q12',(zR r0),p21,p22,p23,p24,p25,p26,p27,p28,p29,p30,hs5⟩)
  refine dG 4 15 3071 (fun f w'=>∃ (r1':Int) (q1' b2':Nat) (r4':Int) (q4':Nat) (r8':Int) (q8':Nat),Hz f [(0,pB rb),(10,I ((Z24 r1').getD r4'.toNat 0)),(12,I r8'),(13,pB rb),(15,pB rb)]∧(0≤r1'∧(r1'<256∨r1'=0))∧(q1'≤p+1)∧(0≤r4'∧(r4'<5∨r4'=0))∧(q4'≤q1'+1)∧(0≤r8'∧(r8'<2∨r8'=0))∧(q8'≤q4'+1)∧SH w w' [rb] [(Z5 rb Ab bs cb q8'),oI b2' (Z24 r1') 5 3]) ?_ (fun D_1_3=>?_)
  ·rintro f w6 ⟨r1',q1',b2',r4',q4',r8',q8',⟨g4,rfl⟩,p31,p32,p33,p34,p35,p36,hs6⟩
   refine aO 10 r0 (cL r0 (pick (rb:=rb) (Ab:=Ab) (cb:=cb) (bs:=bs) (p:=q8') (n:=2) (w:=_) (hr:=(blk_heap hs6 0 r0)) (hb:=(hb.up hs6 (fun _ h=>h) (fun _ h=>.inl h))) (hbn:=‹_›) (hp:=(by omega))) ?_)
   rintro _ w7 ⟨r10',q10',rfl,p37,p38,hs7⟩
   replace hs7:=hs6.callM 0 r0 hs7 m_1
   exact nk ⟨_,hs7,trivial⟩ (alc D_1_1 ⟨r1',q1',b2',r4',q4',r8',q8',r10',q10',(zR r0),p31,p32,p33,p34,p35,p36,p37,p38,(hs7.pk [1,0] r0)⟩)
  refine dG 4 15 4031 (fun f w'=>∃ (r1':Int) (q1' b2':Nat) (r4':Int) (q4':Nat) (r8':Int) (q8':Nat) (r10':Int) (q10':Nat),Hz f [(0,pB rb),(9,.pointer (some ⟨b2',r4'.toNat*1,none⟩)),(12,I r8'),(14,I r10'),(15,pB rb)]∧(0≤r1'∧(r1'<256∨r1'=0))∧(q1'≤p+1)∧(0≤r4'∧(r4'<5∨r4'=0))∧(q4'≤q1'+1)∧(0≤r8'∧(r8'<2∨r8'=0))∧(q8'≤q4'+1)∧(0≤r10'∧(r10'<2∨r10'=0))∧(q10'≤q8'+1)∧SH w w' [rb] [(Z5 rb Ab bs cb q10'),oI b2' (Z24 r1') 5 3]) ?_ (fun D_1_4=>?_)
  ·rintro f w8 ⟨r1',q1',b2',r4',q4',r8',q8',r10',q10',⟨g5,rfl⟩,p39,p40,p41,p42,p43,p44,p45,p46,hs8⟩
   refine aaL [6,12] (fa_cons ?_ (fa_one ?_))
   ·refine one_ r0 (qt r0 (ldo1n (g:=I) (ys:=(Z24 r1')) (o:=r4'.toNat) 0 hs8 1 r0 r0 (by(simp; omega)) one3) ?_)
    exact nk ⟨_,hs8,trivial⟩ (alc D_1_1 ⟨r1',q1',b2',r4',q4',r8',q8',r10',q10',(zR r0),p39,p40,p41,p42,p43,p44,p45,p46,hs8⟩)
   ·refine one_ r0 (cL r0 (pick (rb:=rb) (Ab:=Ab) (cb:=cb) (bs:=bs) (p:=q10') (n:=256) (w:=_) (hr:=(blk_heap hs8 0 r0)) (hb:=(hb.up hs8 (fun _ h=>h) (fun _ h=>.inl h))) (hbn:=‹_›) (hp:=(by omega))) ?_)
    rintro _ w9 ⟨r12',q12',rfl,p47,p48,hs9⟩
    replace hs9:=hs8.callM 0 r0 hs9 m_1
    exact nk ⟨_,hs9,trivial⟩ (alc D_1_2 ⟨r1',q1',b2',r4',q4',r8',q8',r10',q10',r12',q12',(zR r0),p39,p40,p41,p42,p43,p44,p45,p46,p47,p48,(hs9.pk [1,0] r0)⟩)
  refine dG 5 15 2815 (fun f w'=>∃ (r1':Int) (q1' b2':Nat) (r4':Int) (q4':Nat),Hz f [(0,pB rb),(10,I ((Z24 r1').getD r4'.toNat 0)),(11,pB rb),(13,pB rb),(15,pB rb)]∧(0≤r1'∧(r1'<256∨r1'=0))∧(q1'≤p+1)∧(0≤r4'∧(r4'<5∨r4'=0))∧(q4'≤q1'+1)∧SH w w' [rb] [(Z5 rb Ab bs cb q4'),oI b2' (Z24 r1') 5 3]) ?_ (fun D_1_5=>?_)
  ·rintro f w10 ⟨r1',q1',b2',r4',q4',⟨g6,rfl⟩,p49,p50,p51,p52,hs10⟩
   refine aO 8 r0 (cL r0 (pick (rb:=rb) (Ab:=Ab) (cb:=cb) (bs:=bs) (p:=q4') (n:=2) (w:=_) (hr:=(blk_heap hs10 0 r0)) (hb:=(hb.up hs10 (fun _ h=>h) (fun _ h=>.inl h))) (hbn:=‹_›) (hp:=(by omega))) ?_)
   rintro _ w11 ⟨r8',q8',rfl,p53,p54,hs11⟩
   replace hs11:=hs10.callM 0 r0 hs11 m_1
   exact nk ⟨_,hs11,trivial⟩ (alc D_1_3 ⟨r1',q1',b2',r4',q4',r8',q8',(zR r0),p49,p50,p51,p52,p53,p54,(hs11.pk [1,0] r0)⟩)
  refine dG 5 15 3007 (fun f w'=>∃ (r1':Int) (q1' b2':Nat) (r4':Int) (q4':Nat) (r8':Int) (q8':Nat),Hz f [(0,pB rb),(9,.pointer (some ⟨b2',r4'.toNat*1,none⟩)),(12,I r8'),(13,pB rb),(15,pB rb)]∧(0≤r1'∧(r1'<256∨r1'=0))∧(q1'≤p+1)∧(0≤r4'∧(r4'<5∨r4'=0))∧(q4'≤q1'+1)∧(0≤r8'∧(r8'<2∨r8'=0))∧(q8'≤q4'+1)∧SH w w' [rb] [(Z5 rb Ab bs cb q8'),oI b2' (Z24 r1') 5 3]) ?_ (fun D_1_6=>?_)
  ·rintro f w12 ⟨r1',q1',b2',r4',q4',r8',q8',⟨g7,rfl⟩,p55,p56,p57,p58,p59,p60,hs12⟩
   refine aaL [6,10] (fa_cons ?_ (fa_one ?_))
   ·refine one_ r0 (qt r0 (ldo1n (g:=I) (ys:=(Z24 r1')) (o:=r4'.toNat) 0 hs12 1 r0 r0 (by(simp; omega)) one3) ?_)
    exact nk ⟨_,hs12,trivial⟩ (alc D_1_3 ⟨r1',q1',b2',r4',q4',r8',q8',(zR r0),p55,p56,p57,p58,p59,p60,hs12⟩)
   ·refine one_ r0 (cL r0 (pick (rb:=rb) (Ab:=Ab) (cb:=cb) (bs:=bs) (p:=q8') (n:=2) (w:=_) (hr:=(blk_heap hs12 0 r0)) (hb:=(hb.up hs12 (fun _ h=>h) (fun _ h=>.inl h))) (hbn:=‹_›) (hp:=(by omega))) ?_)
    rintro _ w13 ⟨r10',q10',rfl,p61,p62,hs13⟩
    replace hs13:=hs12.callM 0 r0 hs13 m_1
    exact nk ⟨_,hs13,trivial⟩ (alc D_1_4 ⟨r1',q1',b2',r4',q4',r8',q8',r10',q10',(zR r0),p55,p56,p57,p58,p59,p60,p61,p62,(hs13.pk [1,0] r0)⟩)
  refine dG 5 15 8091 (fun f w'=>∃ (r1':Int) (q1':Nat) (r4':Int) (q4':Nat) (r8':Int) (q8':Nat) (r10':Int) (q10':Nat) (r12':Int) (q12':Nat),Hz f [(0,pB rb),(5,I r1'),(8,I r4'),(12,I r8'),(14,I r10'),(16,I r12')]∧(0≤r1'∧(r1'<256∨r1'=0))∧(q1'≤p+1)∧(0≤r4'∧(r4'<5∨r4'=0))∧(q4'≤q1'+1)∧(0≤r8'∧(r8'<2∨r8'=0))∧(q8'≤q4'+1)∧(0≤r10'∧(r10'<2∨r10'=0))∧(q10'≤q8'+1)∧(0≤r12'∧(r12'<256∨r12'=0))∧(q12'≤q10'+1)∧SH w w' [rb] [(Z5 rb Ab bs cb q12')]) ?_ (fun D_1_7=>?_)
  ·rintro f w14 ⟨r1',q1',r4',q4',r8',q8',r10',q10',r12',q12',⟨g8,rfl⟩,p63,p64,p65,p66,p67,p68,p69,p70,p71,p72,hs14⟩
   refine aO 2 r0 (bsk hs14 sl22 [I 0,I 1,I 10,I 255,I r1'] [I 0,I 1,I 10,I 255,I r1'] trivial r0 (fun b2' w15 hs15=>?_))
   refine nk ⟨_,hs15,trivial⟩ ?_
   refine tk (fuel:=3) (is:=[5]) (.cons r0 (.nil)) (by kernel_rfl) (by kernel_rfl) ⟨_,hs15,trivial⟩ (yA r0 (ixo r4'.toNat sl22 r0 (ieq (x:=r4') (by omega)) (by omega)) (.nil ?_))
   exact alc D_1_2 ⟨r1',q1',b2',r4',q4',r8',q8',r10',q10',r12',q12',(zR r0),p63,p64,p65,p66,p67,p68,p69,p70,p71,p72,hs15⟩
  refine dG 6 15 2751 (fun f w'=>∃ (r1':Int) (q1' b2':Nat) (r4':Int) (q4':Nat),Hz f [(0,pB rb),(9,.pointer (some ⟨b2',r4'.toNat*1,none⟩)),(11,pB rb),(13,pB rb),(15,pB rb)]∧(0≤r1'∧(r1'<256∨r1'=0))∧(q1'≤p+1)∧(0≤r4'∧(r4'<5∨r4'=0))∧(q4'≤q1'+1)∧SH w w' [rb] [(Z5 rb Ab bs cb q4'),oI b2' (Z24 r1') 5 3]) ?_ (fun D_1_8=>?_)
  ·rintro f w16 ⟨r1',q1',b2',r4',q4',⟨g9,rfl⟩,p73,p74,p75,p76,hs16⟩
   refine aaL [6,8] (fa_cons ?_ (fa_one ?_))
   ·refine one_ r0 (qt r0 (ldo1n (g:=I) (ys:=(Z24 r1')) (o:=r4'.toNat) 0 hs16 1 r0 r0 (by(simp; omega)) one3) ?_)
    exact nk ⟨_,hs16,trivial⟩ (alc D_1_5 ⟨r1',q1',b2',r4',q4',(zR r0),p73,p74,p75,p76,hs16⟩)
   ·refine one_ r0 (cL r0 (pick (rb:=rb) (Ab:=Ab) (cb:=cb) (bs:=bs) (p:=q4') (n:=2) (w:=_) (hr:=(blk_heap hs16 0 r0)) (hb:=(hb.up hs16 (fun _ h=>h) (fun _ h=>.inl h))) (hbn:=‹_›) (hp:=(by omega))) ?_)
    rintro _ w17 ⟨r8',q8',rfl,p77,p78,hs17⟩
    replace hs17:=hs16.callM 0 r0 hs17 m_1
    exact nk ⟨_,hs17,trivial⟩ (alc D_1_6 ⟨r1',q1',b2',r4',q4',r8',q8',(zR r0),p73,p74,p75,p76,p77,p78,(hs17.pk [1,0] r0)⟩)
  refine dG 6 15 3995 (fun f w'=>∃ (r1':Int) (q1':Nat) (r4':Int) (q4':Nat) (r8':Int) (q8':Nat) (r10':Int) (q10':Nat),Hz f [(0,pB rb),(5,I r1'),(8,I r4'),(12,I r8'),(14,I r10'),(15,pB rb)]∧(0≤r1'∧(r1'<256∨r1'=0))∧(q1'≤p+1)∧(0≤r4'∧(r4'<5∨r4'=0))∧(q4'≤q1'+1)∧(0≤r8'∧(r8'<2∨r8'=0))∧(q8'≤q4'+1)∧(0≤r10'∧(r10'<2∨r10'=0))∧(q10'≤q8'+1)∧SH w w' [rb] [(Z5 rb Ab bs cb q10')]) ?_ (fun D_1_9=>?_)
  ·rintro f w18 ⟨r1',q1',r4',q4',r8',q8',r10',q10',⟨g10,rfl⟩,p79,p80,p81,p82,p83,p84,p85,p86,hs18⟩
   refine aaL [2,12] (fa_cons ?_ (fa_one ?_))
   ·refine one_ r0 (bsk hs18 sl22 [I 0,I 1,I 10,I 255,I r1'] [I 0,I 1,I 10,I 255,I r1'] trivial r0 (fun b2' w19 hs19=>?_))
    refine nk ⟨_,hs19,trivial⟩ ?_
    refine tk (fuel:=4) (is:=[5]) (.cons r0 (.nil)) (by kernel_rfl) (by kernel_rfl) ⟨_,hs19,trivial⟩ (yA r0 (ixo r4'.toNat sl22 r0 (ieq (x:=r4') (by omega)) (by omega)) (.nil ?_))
    exact alc D_1_4 ⟨r1',q1',b2',r4',q4',r8',q8',r10',q10',(zR r0),p79,p80,p81,p82,p83,p84,p85,p86,hs19⟩
   ·refine one_ r0 (cL r0 (pick (rb:=rb) (Ab:=Ab) (cb:=cb) (bs:=bs) (p:=q10') (n:=256) (w:=_) (hr:=(blk_heap hs18 0 r0)) (hb:=(hb.up hs18 (fun _ h=>h) (fun _ h=>.inl h))) (hbn:=‹_›) (hp:=(by omega))) ?_)
    rintro _ w20 ⟨r12',q12',rfl,p87,p88,hs20⟩
    replace hs20:=hs18.callM 0 r0 hs20 m_1
    exact nk ⟨_,hs20,trivial⟩ (alc D_1_7 ⟨r1',q1',r4',q4',r8',q8',r10',q10',r12',q12',(zR r0),p79,p80,p81,p82,p83,p84,p85,p86,p87,p88,hs20⟩)
  refine dG 7 15 2971 (fun f w'=>∃ (r1':Int) (q1':Nat) (r4':Int) (q4':Nat) (r8':Int) (q8':Nat),Hz f [(0,pB rb),(5,I r1'),(8,I r4'),(12,I r8'),(13,pB rb),(15,pB rb)]∧(0≤r1'∧(r1'<256∨r1'=0))∧(q1'≤p+1)∧(0≤r4'∧(r4'<5∨r4'=0))∧(q4'≤q1'+1)∧(0≤r8'∧(r8'<2∨r8'=0))∧(q8'≤q4'+1)∧SH w w' [rb] [(Z5 rb Ab bs cb q8')]) ?_ (fun D_1_10=>?_)
  ·rintro f w21 ⟨r1',q1',r4',q4',r8',q8',⟨g11,rfl⟩,p89,p90,p91,p92,p93,p94,hs21⟩
   refine aaL [2,10] (fa_cons ?_ (fa_one ?_))
   ·refine one_ r0 (bsk hs21 sl22 [I 0,I 1,I 10,I 255,I r1'] [I 0,I 1,I 10,I 255,I r1'] trivial r0 (fun b2' w22 hs22=>?_))
    refine nk ⟨_,hs22,trivial⟩ ?_
    refine tk (fuel:=5) (is:=[5]) (.cons r0 (.nil)) (by kernel_rfl) (by kernel_rfl) ⟨_,hs22,trivial⟩ (yA r0 (ixo r4'.toNat sl22 r0 (ieq (x:=r4') (by omega)) (by omega)) (.nil ?_))
    exact alc D_1_6 ⟨r1',q1',b2',r4',q4',r8',q8',(zR r0),p89,p90,p91,p92,p93,p94,hs22⟩
   ·refine one_ r0 (cL r0 (pick (rb:=rb) (Ab:=Ab) (cb:=cb) (bs:=bs) (p:=q8') (n:=2) (w:=_) (hr:=(blk_heap hs21 0 r0)) (hb:=(hb.up hs21 (fun _ h=>h) (fun _ h=>.inl h))) (hbn:=‹_›) (hp:=(by omega))) ?_)
    rintro _ w23 ⟨r10',q10',rfl,p95,p96,hs23⟩
    replace hs23:=hs21.callM 0 r0 hs23 m_1
    exact nk ⟨_,hs23,trivial⟩ (alc D_1_9 ⟨r1',q1',r4',q4',r8',q8',r10',q10',(zR r0),p89,p90,p91,p92,p93,p94,p95,p96,hs23⟩)
  refine dG 8 15 2703 (fun f w'=>∃ (r1':Int) (q1' b2':Nat),Hz f [(0,pB rb),(6,sb b2' ((Z24 r1').length) 5),(7,pB rb),(11,pB rb),(13,pB rb),(15,pB rb)]∧(0≤r1'∧(r1'<256∨r1'=0))∧(q1'≤p+1)∧SH w w' [rb] [(Z5 rb Ab bs cb q1'),oI b2' (Z24 r1') 5 3]) ?_ (fun D_1_11=>?_)
  ·rintro f w24 ⟨r1',q1',b2',⟨g12,rfl⟩,p97,p98,hs24⟩
   refine aO 4 r0 (cL r0 (pick (rb:=rb) (Ab:=Ab) (cb:=cb) (bs:=bs) (p:=q1') (n:=5) (w:=_) (hr:=(blk_heap hs24 0 r0)) (hb:=(hb.up hs24 (fun _ h=>h) (fun _ h=>.inl h))) (hbn:=‹_›) (hp:=(by omega))) ?_)
   rintro _ w25 ⟨r4',q4',rfl,p99,p100,hs25⟩
   replace hs25:=hs24.callM 0 r0 hs25 m_1
   refine nk ⟨_,hs25,trivial⟩ ?_
   refine tk (fuel:=6) (is:=[5]) (.cons r0 (.nil)) (by kernel_rfl) (by kernel_rfl) ⟨_,hs25,trivial⟩ (yA r0 (ixo r4'.toNat sl22 r0 (ieq (x:=r4') (by omega)) (by(simp; omega))) (.nil ?_))
   exact alc D_1_8 ⟨r1',q1',b2',r4',q4',(zR r0),p97,p98,p99,p100,(hs25.pk [1,0] r0)⟩
  refine dG 8 15 2715 (fun f w'=>∃ (r1':Int) (q1':Nat) (r4':Int) (q4':Nat),Hz f [(0,pB rb),(5,I r1'),(8,I r4'),(11,pB rb),(13,pB rb),(15,pB rb)]∧(0≤r1'∧(r1'<256∨r1'=0))∧(q1'≤p+1)∧(0≤r4'∧(r4'<5∨r4'=0))∧(q4'≤q1'+1)∧SH w w' [rb] [(Z5 rb Ab bs cb q4')]) ?_ (fun D_1_12=>?_)
  ·rintro f w26 ⟨r1',q1',r4',q4',⟨g13,rfl⟩,p101,p102,p103,p104,hs26⟩
   refine aaL [2,8] (fa_cons ?_ (fa_one ?_))
   ·refine one_ r0 (bsk hs26 sl22 [I 0,I 1,I 10,I 255,I r1'] [I 0,I 1,I 10,I 255,I r1'] trivial r0 (fun b2' w27 hs27=>?_))
    refine nk ⟨_,hs27,trivial⟩ ?_
    refine tk (fuel:=6) (is:=[5]) (.cons r0 (.nil)) (by kernel_rfl) (by kernel_rfl) ⟨_,hs27,trivial⟩ (yA r0 (ixo r4'.toNat sl22 r0 (ieq (x:=r4') (by omega)) (by omega)) (.nil ?_))
    exact alc D_1_8 ⟨r1',q1',b2',r4',q4',(zR r0),p101,p102,p103,p104,hs27⟩
   ·refine one_ r0 (cL r0 (pick (rb:=rb) (Ab:=Ab) (cb:=cb) (bs:=bs) (p:=q4') (n:=2) (w:=_) (hr:=(blk_heap hs26 0 r0)) (hb:=(hb.up hs26 (fun _ h=>h) (fun _ h=>.inl h))) (hbn:=‹_›) (hp:=(by omega))) ?_)
    rintro _ w28 ⟨r8',q8',rfl,p105,p106,hs28⟩
    replace hs28:=hs26.callM 0 r0 hs28 m_1
    exact nk ⟨_,hs28,trivial⟩ (alc D_1_10 ⟨r1',q1',r4',q4',r8',q8',(zR r0),p101,p102,p103,p104,p105,p106,hs28⟩)
  refine dG 9 15 2699 (fun f w'=>∃ (r1':Int) (q1':Nat),Hz f [(0,pB rb),(5,I r1'),(7,pB rb),(11,pB rb),(13,pB rb),(15,pB rb)]∧(0≤r1'∧(r1'<256∨r1'=0))∧(q1'≤p+1)∧SH w w' [rb] [(Z5 rb Ab bs cb q1')]) ?_ (fun D_1_13=>?_)
  ·rintro f w29 ⟨r1',q1',⟨g14,rfl⟩,p107,p108,hs29⟩
   refine aaL [2,4] (fa_cons ?_ (fa_one ?_))
   ·refine one_ r0 (bsk hs29 sl22 [I 0,I 1,I 10,I 255,I r1'] [I 0,I 1,I 10,I 255,I r1'] trivial r0 (fun b2' w30 hs30=>?_))
    exact nk ⟨_,hs30,trivial⟩ (alc D_1_11 ⟨r1',q1',b2',(zR r0),p107,p108,hs30⟩)
   ·refine one_ r0 (cL r0 (pick (rb:=rb) (Ab:=Ab) (cb:=cb) (bs:=bs) (p:=q1') (n:=5) (w:=_) (hr:=(blk_heap hs29 0 r0)) (hb:=(hb.up hs29 (fun _ h=>h) (fun _ h=>.inl h))) (hbn:=‹_›) (hp:=(by omega))) ?_)
    rintro _ w31 ⟨r4',q4',rfl,p109,p110,hs31⟩
    replace hs31:=hs29.callM 0 r0 hs31 m_1
    exact nk ⟨_,hs31,trivial⟩ (alc D_1_12 ⟨r1',q1',r4',q4',(zR r0),p107,p108,p109,p110,hs31⟩)
  refine dG 10 15 2697 (fun f w'=>Hz f [(0,pB rb),(4,pB rb),(7,pB rb),(11,pB rb),(13,pB rb),(15,pB rb)]∧SH w w' [rb] [(Z5 rb Ab bs cb p)]) ?_ (fun D_1_14=>?_)
  ·rintro f w32 ⟨⟨g15,rfl⟩,hs32⟩
   refine aO 1 r0 (cL r0 (pick (rb:=rb) (Ab:=Ab) (cb:=cb) (bs:=bs) (p:=p) (n:=256) (w:=_) (hr:=(blk_heap hs32 0 r0)) (hb:=(hb.up hs32 (fun _ h=>h) (fun _ h=>.inl h))) (hbn:=‹_›) (hp:=(by omega))) ?_)
   rintro _ w33 ⟨r1',q1',rfl,p111,p112,hs33⟩
   replace hs33:=hs32.callM 0 r0 hs33 m_1
   exact nk ⟨_,hs33,trivial⟩ (alc D_1_13 ⟨r1',q1',(zR r0),p111,p112,hs33⟩)
  have hs34:=hs0.drew
  refine tk (fuel:=10) (is:=[0,3,7,9,11]) (.cons r0 (.cons r0 (.cons r0 (.cons r0 (.cons r0 (.nil)))))) (by kernel_rfl) (by kernel_rfl) ⟨_,hs34,trivial⟩ (yA r0 (mv (v:=pB rb) r0) (yA r0 (mv (v:=pB rb) r0) (yA r0 (mv (v:=pB rb) r0) (yA r0 (mv (v:=pB rb) r0) (yA r0 (mv (v:=pB rb) r0) (.nil ?_))))))
  exact alc D_1_14 ⟨(zR r0),hs34⟩
 rintro f w34 ⟨r1',q1',b2',r4',q4',r8',q8',r10',q10',r12',q12',b13',⟨g16,rfl⟩,p113,p114,p115,p116,p117,p118,p119,p120,p121,p122,hs35⟩
 refine nN (sq (sr (tm (pB rb) r0 (cL r0 (pick (rb:=rb) (Ab:=Ab) (cb:=cb) (bs:=bs) (p:=q12') (n:=40) (w:=_) (hr:=(blk_heap hs35 0 r0)) (hb:=(hb.up hs35 (fun _ h=>h) (fun _ h=>.inl h))) (hbn:=‹_›) (hp:=(by omega))) ?_))))
 rintro _ w35 ⟨r1,q1,rfl,p123,p124,hs36⟩
 replace hs36:=hs35.callM 0 r0 hs36 m_1
 refine nn (bl (sr (qt r0 (eqi (k:=.i64) (a:=r1) (b:=0) r0 r0) (tA (.bool (decide (r1=0))) r0 (nl ?_)))))
 refine nN ?_
 refine cdd (p:=r1=0) r0 (fun h1=>?_) (fun h1=>?_)
 ·refine rg (tm (sb b13' (([(Z24 r1').getD r4'.toNat 0,r8',r10',r12']:List Int).length) 4) r0 (tm (pB rb) r0 (cL r0 (pick (rb:=rb) (Ab:=Ab) (cb:=cb) (bs:=bs) (p:=q1) (n:=4) (w:=_) (hr:=(blk_heap hs36 2 r0)) (hb:=(hb.up hs36 (fun _ h=>h) (fun _ h=>.inl h))) (hbn:=‹_›) (hp:=(by omega))) ?_)))
  rintro _ w36 ⟨r2,q2,rfl,p125,p126,hs37⟩
  replace hs37:=hs36.callM 2 r0 hs37 m_1
  refine qt r0 (ixo r2.toNat sl22 r0 (ieq (x:=r2) (by omega)) (by(simp; omega))) (stomn (g:=I) (ys:=([(Z24 r1').getD r4'.toNat 0,r8',r10',r12']:List Int)) (o:=r2.toNat) (u:=256) hs37 0 r0 r0 r0 r0 (by(simp; omega)) r0 one3 trivial (fun w37 hs38=>?_))
  refine nl (bN (nN (sr (tm (sb b13' (([(Z24 r1').getD r4'.toNat 0,r8',r10',r12']:List Int).length) 4) r0 (tA (sb b13' (([(Z24 r1').getD r4'.toNat 0,r8',r10',r12']:List Int).length) 4) r0 ?_)))))
  have e1:([(Z24 r1').getD r4'.toNat 0,r8',r10',r12']:List Int).length=(([(Z24 r1').getD r4'.toNat 0,r8',r10',r12']:List Int).set r2.toNat 256).length:=by(simp; done)
  have hs39:SH w w37 [rb] [oI b2' (Z24 r1') 5 3,(Z5 rb Ab bs cb q2),oI b13' (([(Z24 r1').getD r4'.toNat 0,r8',r10',r12']:List Int).set r2.toNat 256) 4 3]:=(hs38.cast (lc r0 (lc r0 (lc (own_eq (g:=I) r0 e1 r0 r0) r0))))
  refine re 2 (v:=sb b13' ((([(Z24 r1').getD r4'.toNat 0,r8',r10',r12']:List Int).set r2.toNat 256).length) 4) (show (sb b13' (([(Z24 r1').getD r4'.toNat 0,r8',r10',r12']:List Int).length) 4:Value)=sb b13' ((([(Z24 r1').getD r4'.toNat 0,r8',r10',r12']:List Int).set r2.toNat 256).length) 4 from slv r0 e1 r0) (nn (rt (fT (sb b13' ((([(Z24 r1').getD r4'.toNat 0,r8',r10',r12']:List Int).set r2.toNat 256).length) 4) r0 ?_)))
  exact⟨(Z6 b13'),4,([(Z24 r1').getD r4'.toNat 0,r8',r10',r12']:List Int).set r2.toNat 256,q2,rfl,(by simp),(by omega),(hs39.pk [1,2] r0)⟩
 ·refine sr (qt r0 (eqi (k:=.i64) (a:=r1) (b:=1) r0 r0) (tA (.bool (decide (r1=1))) r0 (nn ?_)))
  refine cdd (p:=r1=1) r0 (fun h2=>?_) (fun h2=>?_)
  ·refine sr (tm (sb b13' (([(Z24 r1').getD r4'.toNat 0,r8',r10',r12']:List Int).length) 4) r0 ?_)
   have e2:(([(Z24 r1').getD r4'.toNat 0,r8',r10',r12']:List Int).map I).take (3*1)=(([(Z24 r1').getD r4'.toNat 0,r8',r10',r12']:List Int).take 3).map I:=by rfl
   have hs40:SH w w35 [rb] [oI b2' (Z24 r1') 5 3,(Z5 rb Ab bs cb q1),.own (Z6 b13') 3 4 3 1 ((([(Z24 r1').getD r4'.toNat 0,r8',r10',r12']:List Int).take 3).map I)]:=e2 ▸ SH.trunc hs36 0 (3) r0 (by(simp; done))
   refine qt r0 (cuh 3 sl22 r0 r0 (Nat.le_trans (by(simp; done)) (own_cap hs36 0 r0).1)) (tA (sb b13' 3 4) r0 ?_)
   have e3:3=(([(Z24 r1').getD r4'.toNat 0,r8',r10',r12']:List Int).take 3).length:=by rfl
   have hs41:SH w w35 [rb] [oI b2' (Z24 r1') 5 3,(Z5 rb Ab bs cb q1),oI b13' (([(Z24 r1').getD r4'.toNat 0,r8',r10',r12']:List Int).take 3) 4 3]:=(hs40.cast (lc r0 (lc r0 (lc (own_eq (g:=I) r0 e3 r0 r0) r0))))
   refine re 2 (v:=sb b13' ((([(Z24 r1').getD r4'.toNat 0,r8',r10',r12']:List Int).take 3).length) 4) (show (sb b13' 3 4:Value)=sb b13' ((([(Z24 r1').getD r4'.toNat 0,r8',r10',r12']:List Int).take 3).length) 4 from slv r0 e3 r0) (nn ?_)
   refine rt (bR (tR ?_))
   refine fT (sb b13' ((([(Z24 r1').getD r4'.toNat 0,r8',r10',r12']:List Int).take 3).length) 4) r0 ?_
   exact⟨(Z6 b13'),4,([(Z24 r1').getD r4'.toNat 0,r8',r10',r12']:List Int).take 3,q1,rfl,(by omega),(by omega),(hs41.pk [1,2] r0)⟩
  ·refine sk (bN (nN (sr (tm (sb b13' (([(Z24 r1').getD r4'.toNat 0,r8',r10',r12']:List Int).length) 4) r0 (tA (sb b13' (([(Z24 r1').getD r4'.toNat 0,r8',r10',r12']:List Int).length) 4) r0 (nl ?_))))))
   refine nN (rt (fT (sb b13' (([(Z24 r1').getD r4'.toNat 0,r8',r10',r12']:List Int).length) 4) r0 ?_))
   exact⟨(Z6 b13'),4,([(Z24 r1').getD r4'.toNat 0,r8',r10',r12']:List Int),q1,rfl,(by simp),(by omega),(hs36.pk [2,0] r0)⟩
set_option maxHeartbeats 8000000 in
theorem l91Port {rb:Nat} {Ab:Option Addr} {cb:Nat} {bs:List UInt8} {p:Nat} (w:World) (hr:w.heap[rb]?=some (.cells [.slice Ab bs.length cb,.int .i64 (p:Int)].toArray 124 (0,0))) (hb:Sl w [rb] 1 Ab bs.length cb (bs.map U)) (hbn:bs.length≤2000) (hp:p≤549755813888):Does Tryz.prog 160 [pB rb] w (fun v w'=>∃ r:Int,∃ q:Nat,v=.int .i64 r∧(q≤p+10)∧SH w w' [rb] [.blk rb 124 [.slice Ab bs.length cb,I (q:Int)]]):=by
 refine fE (N:=18) Tryz.func160 r0 (by kernel_rfl) r0 ?_
 have hs0:=SH.entry1 hr
 refine sr (tA (I 0) r0 (nn (sq (sr ?_))))
 refine tm (pB rb) r0 (cL r0 (pick (rb:=rb) (Ab:=Ab) (cb:=cb) (bs:=bs) (p:=p) (n:=40) (w:=_) (hr:=(blk_heap hs0 0 r0)) (hb:=(hb.up hs0 (fun _ h=>h) (fun _ h=>.inl h))) (hbn:=‹_›) (hp:=(by omega))) ?_)
 rintro _ w1 ⟨r1,q1,rfl,p1,p2,hs1⟩
 replace hs1:=hs0.callM 0 r0 hs1 m_1
 refine qt r0 (eqi (k:=.i64) (a:=r1) (b:=0) r0 r0) (nn ?_)
 refine cdd (p:=r1=0) r0 (fun h1=>?_) (fun h1=>?_)
 ·refine sr (bsk hs1 sl22 [I (-1),I 65536] [I (-1),I 65536] trivial r0 (fun b1 w2 hs2=>?_))
  refine tm (pB rb) r0 (cL r0 (pick (rb:=rb) (Ab:=Ab) (cb:=cb) (bs:=bs) (p:=q1) (n:=2) (w:=_) (hr:=(blk_heap hs2 0 r0)) (hb:=(hb.up hs2 (fun _ h=>h) (fun _ h=>.inl h))) (hbn:=‹_›) (hp:=(by omega))) ?_)
  rintro _ w3 ⟨r2,q2,rfl,p3,p4,hs3⟩
  replace hs3:=hs2.callM 0 r0 hs3 m_1
  refine qt r0 (ixo r2.toNat sl22 r0 (ieq (x:=r2) (by omega)) (by omega)) (qt r0 (ldo1n (g:=I) (ys:=([(-1),65536]:List Int)) (o:=r2.toNat) 0 hs3 0 r0 r0 (by(simp; omega)) one3) (tA (I (([(-1),65536]:List Int).getD r2.toNat 0)) r0 (nn (rt (tR ?_)))))
  refine fT (I (([(-1),65536]:List Int).getD r2.toNat 0)) r0 ?_
  exact⟨([(-1),65536]:List Int).getD r2.toNat 0,q2,rfl,(by omega),(hs3.pk [1] r0)⟩
 ·refine sk (nN (sr (tm (pB rb) r0 (cL r0 (pick (rb:=rb) (Ab:=Ab) (cb:=cb) (bs:=bs) (p:=q1) (n:=65536) (w:=_) (hr:=(blk_heap hs1 0 r0)) (hb:=(hb.up hs1 (fun _ h=>h) (fun _ h=>.inl h))) (hbn:=‹_›) (hp:=(by omega))) ?_))))
  rintro _ w4 ⟨r3,q3,rfl,p5,p6,hs4⟩
  replace hs4:=hs1.callM 0 r0 hs4 m_1
  refine bsk hs4 sl22 [I 0,I 80,I 443,I 65535,I r3] [I 0,I 80,I 443,I 65535,I r3] trivial r0 (fun b2 w5 hs5=>?_)
  refine tm (pB rb) r0 (cL r0 (pick (rb:=rb) (Ab:=Ab) (cb:=cb) (bs:=bs) (p:=q3) (n:=5) (w:=_) (hr:=(blk_heap hs5 0 r0)) (hb:=(hb.up hs5 (fun _ h=>h) (fun _ h=>.inl h))) (hbn:=‹_›) (hp:=(by omega))) ?_)
  rintro _ w6 ⟨r4,q4,rfl,p7,p8,hs6⟩
  replace hs6:=hs5.callM 0 r0 hs6 m_1
  refine qt r0 (ixo r4.toNat sl22 r0 (ieq (x:=r4) (by omega)) (by omega)) (qt r0 (ldo1n (g:=I) (ys:=([0,80,443,65535,r3]:List Int)) (o:=r4.toNat) 0 hs6 0 r0 r0 (by(simp; omega)) one3) (tA (I (([0,80,443,65535,r3]:List Int).getD r4.toNat 0)) r0 (nn (rt (fT (I (([0,80,443,65535,r3]:List Int).getD r4.toNat 0)) r0 ?_)))))
  exact⟨([0,80,443,65535,r3]:List Int).getD r4.toNat 0,q4,rfl,(by omega),(hs6.pk [1] r0)⟩
theorem l91Name {rb:Nat} {Ab:Option Addr} {cb:Nat} {bs:List UInt8} {p:Nat} (w:World) (hr:w.heap[rb]?=some (.cells [.slice Ab bs.length cb,.int .i64 (p:Int)].toArray 124 (0,0))) (hb:Sl w [rb] 1 Ab bs.length cb (bs.map U)) (hbn:bs.length≤2000) (hp:p≤274877906944):Does Tryz.prog 161 [pB rb] w (fun v w'=>∃ s:List UInt8,∃ q:Nat,v=Str s∧(s.length≤21)∧(q≤p+10)∧SH w w' [rb] [.blk rb 124 [.slice Ab bs.length cb,I (q:Int)]]):=by
 refine fE (N:=12) Tryz.func161 r0 (by kernel_rfl) r0 ?_
 have hs0:=SH.entry1 hr
 refine sr (tA (Str []) r0 (nn (sq (sr ?_))))
 refine tm (pB rb) r0 (cL r0 (pick (rb:=rb) (Ab:=Ab) (cb:=cb) (bs:=bs) (p:=p) (n:=20) (w:=_) (hr:=(blk_heap hs0 0 r0)) (hb:=(hb.up hs0 (fun _ h=>h) (fun _ h=>.inl h))) (hbn:=‹_›) (hp:=(by omega))) ?_)
 rintro _ w1 ⟨r1,q1,rfl,p1,p2,hs1⟩
 replace hs1:=hs0.callM 0 r0 hs1 m_1
 refine qt r0 (eqi (k:=.i64) (a:=r1) (b:=0) r0 r0) (nn ?_)
 refine cdd (p:=r1=0) r0 (fun h1=>?_) (fun h1=>?_)
 ·refine sr (tm (pB rb) r0 (bsk hs1 sl147 [Str [],Str [97,46,46,98],Str [46,97],Str [97,46],Str [65],Str [97,95,98],Str [97,98,99,100,101,102,103,104,105,106,107,108,109,110,111,112,113,114,115,116],Str [97,98,99,100,101,102,103,104,105,106,107,108,109,110,111,112,113,114,115,116,117],Str [97,46,57]] [Str [],Str [97,46,46,98],Str [46,97],Str [97,46],Str [65],Str [97,95,98],Str [97,98,99,100,101,102,103,104,105,106,107,108,109,110,111,112,113,114,115,116],Str [97,98,99,100,101,102,103,104,105,106,107,108,109,110,111,112,113,114,115,116,117],Str [97,46,57]] trivial r0 (fun b1 w2 hs2=>?_)))
  refine cL r0 (rdOf (rb:=rb) (Ab:=Ab) (cb:=cb) (bs:=bs) (p:=q1) (Ass:=(Z6 b1)) (css:=9) (ss:=([[],[97,46,46,98],[46,97],[97,46],[65],[97,95,98],[97,98,99,100,101,102,103,104,105,106,107,108,109,110,111,112,113,114,115,116],[97,98,99,100,101,102,103,104,105,106,107,108,109,110,111,112,113,114,115,116,117],[97,46,57]]:List (List UInt8))) (w:=_) (hr:=(blk_heap hs2 0 r0)) (hb:=(hb.up hs2 (fun _ h=>h) (fun _ h=>.inl h))) (hbn:=‹_›) (hp:=(by omega)) (hss:=(hs2.sl 1 r0 (by intro k hk; simp at hk; subst hk; exact⟨_,memi 0 r0,rfl⟩))) (hne:=(by(simp; done)))) ?_
  rintro _ w3 ⟨s1,q2,rfl,p3,p4,hs3⟩
  replace hs3:=hs2.callM 0 r0 hs3 m_1
  refine tA (Str s1) r0 (nn (rt (tR ?_)))
  refine fT (Str s1) r0 ?_
  exact⟨s1,q2,rfl,(by exact names9 ‹_›),(by omega),(hs3.pk [1] r0)⟩
 ·refine sk (nN (sr (tm (pB rb) r0 (bsk hs1 sl147 [Str [120,46,111,114,103],Str [119,119,119,46,120,46,111,114,103],Str [97],Str [98,45,99,46,110,101,116],Str [57,97,46,98],Str [121]] [Str [120,46,111,114,103],Str [119,119,119,46,120,46,111,114,103],Str [97],Str [98,45,99,46,110,101,116],Str [57,97,46,98],Str [121]] trivial r0 (fun b2 w4 hs4=>?_)))))
  refine cL r0 (rdOf (rb:=rb) (Ab:=Ab) (cb:=cb) (bs:=bs) (p:=q1) (Ass:=(Z6 b2)) (css:=6) (ss:=([[120,46,111,114,103],[119,119,119,46,120,46,111,114,103],[97],[98,45,99,46,110,101,116],[57,97,46,98],[121]]:List (List UInt8))) (w:=_) (hr:=(blk_heap hs4 0 r0)) (hb:=(hb.up hs4 (fun _ h=>h) (fun _ h=>.inl h))) (hbn:=‹_›) (hp:=(by omega)) (hss:=(hs4.sl 1 r0 (by intro k hk; simp at hk; subst hk; exact⟨_,memi 0 r0,rfl⟩))) (hne:=(by(simp; done)))) ?_
  rintro _ w5 ⟨s2,q3,rfl,p5,p6,hs5⟩
  replace hs5:=hs4.callM 0 r0 hs5 m_1
  refine tA (Str s2) r0 (nn (rt (fT (Str s2) r0 ?_)))
  exact⟨s2,q3,rfl,(by exact names6 ‹_›),(by omega),(hs5.pk [1] r0)⟩
set_option maxHeartbeats 8000000 in
theorem l91Address {rb:Nat} {Ab:Option Addr} {cb:Nat} {bs:List UInt8} {p:Nat} (w:World) (hr:w.heap[rb]?=some (.cells [.slice Ab bs.length cb,.int .i64 (p:Int)].toArray 124 (0,0))) (hb:Sl w [rb] 1 Ab bs.length cb (bs.map U)) (hbn:bs.length≤2000) (hp:p≤137438953472):Does Tryz.prog 126 [pB rb] w (fun v w'=>∃ Aqr:Option Addr,∃ cqr:Nat,∃ ak:Int,∃ aq:List Int,∃ an:List UInt8,∃ apt:Int,∃ q:Nat,v=.agg #[.int .i64 ak,.slice Aqr aq.length cqr,Str an,.int .i64 apt]∧(aq.length≤4)∧(an.length≤21)∧(q≤p+40)∧SH w w' [rb] [.blk rb 124 [.slice Ab bs.length cb,I (q:Int)],.own Aqr aq.length cqr 3 1 (aq.map I)]):=by
 refine fE (N:=25) Tryz.func126 r0 (by kernel_rfl) r0 ?_
 have hs0:SH w w [rb] [(Z5 rb Ab bs cb p)]:=SH.entry1 hr
 refine sr (al (v:=.agg #[I 0,ns,Str [],I 0]) (cs:=[I 0,ns,Str [],I 0]) hs0 tz43 r0 trivial r0 (fun b1 w1 hs1=>?_))
 refine nn (sq (sr (tm (pB rb) r0 (cL r0 (pick (rb:=rb) (Ab:=Ab) (cb:=cb) (bs:=bs) (p:=p) (n:=2) (w:=_) (hr:=(blk_heap hs1 0 r0)) (hb:=(hb.up hs1 (fun _ h=>h) (fun _ h=>.inl h))) (hbn:=‹_›) (hp:=(by omega))) ?_))))
 rintro _ w2 ⟨r1,q1,rfl,p1,p2,hs2⟩
 replace hs2:=hs1.callM 0 r0 hs2 m_1
 refine qt r0 (eqi (k:=.i64) (a:=r1) (b:=0) r0 r0) (nn ?_)
 refine cdd (p:=r1=0) r0 (fun h1=>?_) (fun h1=>?_)
 ·refine sr (tm (pB rb) r0 (cL r0 (l91Quad (rb:=rb) (Ab:=Ab) (cb:=cb) (bs:=bs) (p:=q1) (w:=_) (hr:=(blk_heap hs2 1 r0)) (hb:=(hb.up hs2 (fun _ h=>h) (fun _ h=>.inl h))) (hbn:=‹_›) (hp:=(by omega))) ?_))
  rintro _ w3 ⟨A1,c1,r2,q2,rfl,p3,p4,hs3⟩
  replace hs3:=hs2.callM 1 r0 hs3 m_1
  refine tm (pB rb) r0 (cL r0 (l91Port (rb:=rb) (Ab:=Ab) (cb:=cb) (bs:=bs) (p:=q2) (w:=_) (hr:=(blk_heap hs3 1 r0)) (hb:=(hb.up hs3 (fun _ h=>h) (fun _ h=>.inl h))) (hbn:=‹_›) (hp:=(by omega))) ?_)
  rintro _ w4 ⟨r3,q3,rfl,p5,hs4⟩
  replace hs4:=hs3.callM 1 r0 hs4 m_1
  refine qt r0 (bdv (v:=.agg #[I 1,.slice A1 r2.length c1,Str [],I r3]) [(0,I 1),(1,.slice A1 r2.length c1),(3,I r3)] r0 (fun _=>by kernel_rfl)) (sG [I 1,.slice A1 r2.length c1,Str [],I r3] hs4 0 r0 ag43 (fun w5 hs5=>?_))
  refine nn (rt (tR ?_))
  refine fret (v:=.agg #[I 1,.slice A1 r2.length c1,Str [],I r3]) (resC hs5 2 r0 r0 ag43 r0 .nil) r0 ?_
  exact⟨A1,c1,1,r2,[],r3,q3,rfl,(by omega),(by simp),(by omega),(hs5.pk [1,0] r0)⟩
 ·refine sk (nN (sr (bsk hs2 sl22 [] [] trivial r0 (fun b2 w6 (hs6:SH w w6 [rb] [(Z14 b1),(Z5 rb Ab bs cb q1),(Z27 b2)])=>?_))))
  refine tm (pB rb) r0 (cL r0 (l91Name (rb:=rb) (Ab:=Ab) (cb:=cb) (bs:=bs) (p:=q1) (w:=_) (hr:=(blk_heap hs6 1 r0)) (hb:=(hb.up hs6 (fun _ h=>h) (fun _ h=>.inl h))) (hbn:=‹_›) (hp:=(by omega))) ?_)
  rintro _ w7 ⟨s1,q4,rfl,p6,p7,hs7⟩
  replace hs7:=hs6.callM 1 r0 hs7 m_1
  refine tm (pB rb) r0 (cL r0 (l91Port (rb:=rb) (Ab:=Ab) (cb:=cb) (bs:=bs) (p:=q4) (w:=_) (hr:=(blk_heap hs7 2 r0)) (hb:=(hb.up hs7 (fun _ h=>h) (fun _ h=>.inl h))) (hbn:=‹_›) (hp:=(by omega))) ?_)
  rintro _ w8 ⟨r4,q5,rfl,p8,hs8⟩
  replace hs8:=hs7.callM 2 r0 hs8 m_1
  refine qt r0 (bdv (v:=.agg #[I 3,sb b2 (([]:List Int).length) 0,Str s1,I r4]) [(0,I 3),(1,sb b2 (([]:List Int).length) 0),(2,Str s1),(3,I r4)] r0 (fun _=>by kernel_rfl)) (al (v:=.agg #[I 0,ns,Str [],I 0]) (cs:=[I 0,ns,Str [],I 0]) hs8 tz43 r0 trivial r0 (fun b3 w9 (hs9:SH w w9 [rb] [(Z14 b1),(Z27 b2),(Z5 rb Ab bs cb q5),(Z14 b3)])=>?_))
  refine sG [I 3,sb b2 (([]:List Int).length) 0,Str s1,I r4] hs9 3 r0 ag43 (fun w10 hs10=>?_)
  refine nn (sq (sr (tm (pB rb) r0 (cL r0 (pick (rb:=rb) (Ab:=Ab) (cb:=cb) (bs:=bs) (p:=q5) (n:=40) (w:=_) (hr:=(blk_heap hs10 2 r0)) (hb:=(hb.up hs10 (fun _ h=>h) (fun _ h=>.inl h))) (hbn:=‹_›) (hp:=(by omega))) ?_))))
  rintro _ w11 ⟨r5,q6,rfl,p9,p10,hs11⟩
  replace hs11:=hs10.callM 2 r0 hs11 m_1
  refine qt r0 (eqi (k:=.i64) (a:=r5) (b:=0) r0 r0) (nn ?_)
  refine cdd (p:=r5=0) r0 (fun h2=>?_) (fun h2=>?_)
  ·refine rg (tm (pB rb) r0 (cL r0 (pick (rb:=rb) (Ab:=Ab) (cb:=cb) (bs:=bs) (p:=q6) (n:=5) (w:=_) (hr:=(blk_heap hs11 3 r0)) (hb:=(hb.up hs11 (fun _ h=>h) (fun _ h=>.inl h))) (hbn:=‹_›) (hp:=(by omega))) ?_))
   rintro _ w12 ⟨r6,q7,rfl,p11,p12,hs12⟩
   replace hs12:=hs11.callM 3 r0 hs12 m_1
   refine qt r0 (fa 0 fo43_0 r0) (sT (I r6) hs12 2 r0 one3 (fun w13 hs13=>?_))
   refine nx (qt r0 (lG [I r6,sb b2 (([]:List Int).length) 0,Str s1,I r4] hs13 3 r0 ag43) (sG [I r6,sb b2 (([]:List Int).length) 0,Str s1,I r4] hs13 0 r0 ag43 (fun w14 hs14=>?_)))
   refine nn (rt (fret (v:=.agg #[I r6,sb b2 (([]:List Int).length) 0,Str s1,I r4]) (resC hs14 3 r0 r0 ag43 r0 .nil) r0 ?_))
   exact⟨(Z6 b2),0,r6,([]:List Int),s1,r4,q7,rfl,(by simp),(by omega),(by omega),(hs14.pk [1,0] r0)⟩
  ·refine sk (nN (sr (qt r0 (lG [I 3,sb b2 (([]:List Int).length) 0,Str s1,I r4] hs11 2 r0 ag43) (sG [I 3,sb b2 (([]:List Int).length) 0,Str s1,I r4] hs11 0 r0 ag43 (fun w15 (hs15:SH w w15 [rb] [(Z27 b2),.blk b3 43 [I 3,sb b2 (([]:List Int).length) 0,Str s1,I r4],(Z5 rb Ab bs cb q6),.blk b1 43 [I 3,sb b2 (([]:List Int).length) 0,Str s1,I r4]])=>?_)))))
   refine nn (rt (fret (v:=.agg #[I 3,sb b2 (([]:List Int).length) 0,Str s1,I r4]) (resC hs15 3 r0 r0 ag43 r0 .nil) r0 ?_))
   exact⟨(Z6 b2),0,3,([]:List Int),s1,r4,q6,rfl,(by simp),(by omega),(by omega),(hs15.pk [2,0] r0)⟩

end Go.Proofs.YtjehmnojfpedjaaGreatDoor
