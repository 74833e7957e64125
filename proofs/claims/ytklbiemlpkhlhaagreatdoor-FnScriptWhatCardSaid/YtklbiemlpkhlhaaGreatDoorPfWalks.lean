/-
  Part of the proofs over this seat: what each function of the program computes, function by function (the text is written by a program of this hand-in's own).
  Conditions: each theorem states its own.
-/
import Derived.Test.YtklbiemlpkhlhaaGreatDoorProg
import Derived.KernelRfl
import Derived.Test.YtklbiemlpkhlhaaGreatDoorPfModel
import Derived.Test.YtklbiemlpkhlhaaGreatDoorPfShelf
namespace Go.Proofs.YtklbiemlpkhlhaaGreatDoor
open Go.PF Tryz
set_option maxRecDepth 100000
set_option linter.unusedSimpArgs false
set_option linter.unusedVariables false
set_option maxHeartbeats 8000000

theorem iA:qF prog 135 8=true:=by kernel_rfl
theorem Fc:qF prog 177 2=true:=by kernel_rfl
theorem cV:qF prog 34 4=true:=by kernel_rfl
theorem jI:qF prog 38 2=true:=by kernel_rfl
theorem cG:qF prog 74 4=true:=by kernel_rfl
theorem hH:qF prog 79 6=true:=by kernel_rfl
theorem qU:qF prog 83 5=true:=by kernel_rfl
theorem Fm:HG prog 124 7 9=true:=by kernel_rfl
theorem QH:HG prog 51 5 9=true:=by kernel_rfl
theorem CQ:mC prog 135 0 0=true:=by kernel_rfl
theorem AZ:mC prog 135 1 4=true:=by kernel_rfl
theorem QZ:mC prog 156 0 0=true:=by kernel_rfl
theorem vW:mC prog 156 1 1=true:=by kernel_rfl
theorem qY:mC prog 156 2 2=true:=by kernel_rfl
theorem V1:mC prog 177 0 0=true:=by kernel_rfl
theorem M5:mC prog 177 1 1=true:=by kernel_rfl
theorem o7:mC prog 34 0 0=true:=by kernel_rfl
theorem xV:mC prog 34 1 1=true:=by kernel_rfl
theorem CR:mC prog 34 2 2=true:=by kernel_rfl
theorem A0:mC prog 34 3 3=true:=by kernel_rfl
theorem BA:mC prog 38 0 0=true:=by kernel_rfl
theorem BB:mC prog 38 1 1=true:=by kernel_rfl
theorem M6:mC prog 41 0 0=true:=by kernel_rfl
theorem CS:mC prog 41 1 1=true:=by kernel_rfl
theorem CT:mC prog 57 0 0=true:=by kernel_rfl
theorem Q0:mC prog 57 1 1=true:=by kernel_rfl
theorem o8:mC prog 74 0 0=true:=by kernel_rfl
theorem pL:mC prog 74 1 1=true:=by kernel_rfl
theorem sW:mC prog 74 2 2=true:=by kernel_rfl
theorem pV:mC prog 74 3 3=true:=by kernel_rfl
theorem M7:mC prog 79 0 0=true:=by kernel_rfl
theorem mW:mC prog 79 1 1=true:=by kernel_rfl
theorem EY:mC prog 79 2 5=true:=by kernel_rfl
theorem HM:mC prog 83 0 0=true:=by kernel_rfl
theorem zT:mC prog 83 1 1=true:=by kernel_rfl
theorem Mw:KL prog 48=true:=by kernel_rfl
theorem mixed:prog.follows .mixedOrders=true:=by kernel_rfl
theorem tC:m8 prog 22=true:=by kernel_rfl
theorem cN:m8 prog 3=true:=by kernel_rfl
theorem j4:m8 prog 31=true:=by kernel_rfl
theorem AE:m8 prog 32=true:=by kernel_rfl
theorem ON:m8 prog 39=true:=by kernel_rfl
theorem rF:m8 prog 4=true:=by kernel_rfl
theorem OO:m8 prog 5=true:=by kernel_rfl
theorem eC:m8 prog 9=true:=by kernel_rfl
theorem An:K5 prog 38=true:=by kernel_rfl
theorem AG:jW prog 126 31 1 24 (.slice none 0 0):=jW.mk' (by kernel_rfl) (by kernel_rfl)
theorem pD:jW prog 138 177 2 32 (.agg #[.int .i64 0,.slice none 0 0]):=jW.mk' (by kernel_rfl) (by kernel_rfl)
theorem l9:jW prog 22 5 1 1 (.int .u8 0):=jW.mk' (by kernel_rfl) (by kernel_rfl)
theorem aV:jW prog 31 3 1 8 (.int .i64 0):=jW.mk' (by kernel_rfl) (by kernel_rfl)
theorem pP:jW prog 32 38 2 32 (.agg #[aA [],aA []]):=jW.mk' (by kernel_rfl) (by kernel_rfl)
theorem fZ:jW prog 59 9 1 16 (aA []):=jW.mk' (by kernel_rfl) (by kernel_rfl)
theorem dI:prog.underlying 9=some .string:=by kernel_rfl
theorem Cv:prog.underlying 4=some .bool:=by kernel_rfl
theorem xB:prog.underlying 3=some (.int .i64):=by kernel_rfl
theorem tJ:prog.underlying 5=some (.int .u8):=by kernel_rfl
theorem LA:prog.underlying 39=some (.pointer 41):=by kernel_rfl
theorem Ye:prog.underlying 70=some (.pointer 5):=by kernel_rfl
theorem Dk:prog.underlying 96=some .unsafePointer:=by kernel_rfl
theorem tK:(prog.info? 135).bind (·.zero)=some (.agg #[.int .i64 0,.slice none 0 0,aA [],.int .i64 0,.int .i64 0,.slice none 0 0,aA [],.int .i64 0]):=by kernel_rfl
theorem oY:(prog.info? 34).bind (·.zero)=some (.agg #[.int .i64 0,.slice none 0 0,.slice none 0 0,aA []]):=by kernel_rfl
theorem B3:(prog.info? 38).bind (·.zero)=some (.agg #[aA [],aA []]):=by kernel_rfl
theorem Dm:(prog.info? 41).bind (·.zero)=some (.agg #[.pointer none,.slice none 0 0]):=by kernel_rfl
theorem kZ:(prog.info? 74).bind (·.zero)=some (.agg #[.int .i64 0,.slice none 0 0,aA [],.int .i64 0]):=by kernel_rfl
theorem I7:(prog.info? 79).bind (·.zero)=some (.agg #[.int .i64 0,.int .i64 0,.slice none 0 0,aA [],.int .i64 0,aA []]):=by kernel_rfl
theorem LB:(prog.info? 83).bind (·.zero)=some (.agg #[.int .i64 0,.int .i64 0,.slice none 0 0,aA [],.int .i64 0]):=by kernel_rfl
theorem T0:GG prog 41=true:=by kernel_rfl
theorem LD:prog.underlying 22=some (.slice 5):=by kernel_rfl
theorem wV (x:Int) (lo:Int) (hi:Int) (w:World):bF prog 86 [I x,I lo,I hi] w (fun v w'=>v=.bool (decide (lo≤x∧x≤hi))∧SH w w' [] []):=by
 refine fQ 15 func86 r0 r0 ?_
 have aK:=SH.refl w []
 refine sr (tA (.bool false) r0 (nx (tm (I x) r0 (tm (I lo) r0 (qt r0 (geq r0 r0) (tm (.bool (decide (lo≤x))) r0 (fF 10 r0 (fun h1=>?_) (fun h1=>?_))))))))
 ·exact qh r0 (mv (v:=I x) r0) (qh r0 (mv (v:=I hi) r0) (qh r0 (leq r0 r0) (qt r0 (pt (v:=.bool (decide (x≤hi))) r0 r0) (tA (.bool (decide (x≤hi))) r0 (nn (rt (fB r0 (by simp[*]) aK)))))))
 exact bA r0 (bA r0 (bA r0 (qt r0 (pf (v:=.bool false) r0 r0) (tA (.bool false) r0 (nn (rt (fB r0 (by simp[*]) aK)))))))
theorem x4 (x:Int) (lo:Int) (hi:Int) (w:World):bF prog 54 [I x,I lo,I hi] w (fun v w'=>v=.bool (decide (lo≤x∧x≤hi))∧SH w w' [] []):=by
 refine fQ 15 func54 r0 r0 ?_
 have aK:=SH.refl w []
 refine sr (tA (.bool false) r0 (nx (tm (I x) r0 (tm (I lo) r0 (qt r0 (geq r0 r0) (tm (.bool (decide (lo≤x))) r0 (fF 10 r0 (fun h1=>?_) (fun h1=>?_))))))))
 ·exact qh r0 (mv (v:=I x) r0) (qh r0 (mv (v:=I hi) r0) (qh r0 (leq r0 r0) (qt r0 (pt (v:=.bool (decide (x≤hi))) r0 r0) (tA (.bool (decide (x≤hi))) r0 (nn (rt (fB r0 (by simp[*]) aK)))))))
 exact bA r0 (bA r0 (bA r0 (qt r0 (pf (v:=.bool false) r0 r0) (tA (.bool false) r0 (nn (rt (fB r0 (by simp[*]) aK)))))))
theorem Lf (x:Int) (w:World):bF prog 163 [I x] w (fun v w'=>v=.bool (decide (¬ (0≤x∧x≤255)))∧SH w w' [] []):=by
 refine fQ 6 func163 r0 r0 ?_
 have aK:=SH.refl w []
 refine sr (tA (.bool false) r0 (nx (tm (I x) r0 (cS aK r0 (x4 _ 0 255 _) (fun w1 aE=>qt r0 (nd r0) (tA (.bool (decide (¬ (0≤x∧x≤255)))) r0 (nn (rt (fT (.bool (decide (¬ (0≤x∧x≤255)))) r0 ?_)))))))))
 exact⟨rfl,aE⟩
theorem wU {Azs:aM} {czs:Nat} (zs:aC) (w:World) (hzs:Sl w [] 1 Azs zs.length czs (zs.map I)):bF prog 134 [.slice Azs zs.length czs] w (fun v w'=>v=.bool (bJ zs)∧SH w w' [] []):=by
 refine fQ 19 func134 r0 r0 ?_
 have aK:=SH.refl w []
 have sY:zs.length≤9223372036854775807:=cB hzs.cap hzs.cO
 refine sr (tA (.bool false) r0 (nn (sq (sr (tA (I 0) r0 (nn (bl (lp (σ:=Nat) (fun(k:Nat) f w'=>Hz f [(0,.slice Azs zs.length czs),(3,I (k:Int))]∧(k≤zs.length)∧(vB (zs.take k)=true)∧SH w w' [] []) (fun k=>zs.length-k) 0 ⟨(zR r0),(by simp),(by simp[vB]),aK⟩ ?_))))))))
 rintro k f w1 ⟨⟨g1,rfl⟩,hk,ha,aE⟩
 refine sq (sr (tm (I (k:Int)) r0 (tm (cD Azs zs czs) r0 (qt r0 (dK aV r0) (qt r0 (lss r0 r0) (nl (nN (bI r0 (fun h1=>?_) (fun h1=>?_)))))))))
 ·refine sk (nN (sq (bl (sr (tm (cD Azs zs czs) r0 (tm (I (k:Int)) r0 (gN k aV r0 r0 hzs (by omega) (eQ I 0 (by omega)) aH r0 (fun a1 eL=>qt r0 (eW aE eL (fun _ h=>h) r0 r0 cN) (cS aE r0 (wV _ 0 255 _) (fun w2 aI=>qt r0 (nd r0) (nn (bI r0 (fun h2=>?_) (fun h2=>?_)))))))))))))
  ·exact sr (tA (.bool false) r0 (nn (rt (bR (tR (tR (bR (tR (fB r0 (Gd (k:=k) (by omega) (by simpa using h2)) aI)))))))))
  refine sk (bN (nN (rg (tm (I (k:Int)) r0 (qt r0 (add r0 r0 (by exact⟨by omega,by omega⟩)) (tA (I ((k:Int)+1)) r0 (nl (nN ?_))))))))
  refine⟨(k+1),⟨(zR r0),(by omega),(Fe (by omega) ha (by simpa using h2)),aI⟩,?_⟩
  omega
 refine ex (tE (tE (bE (nN (sr (tm (cD Azs zs czs) r0 (qt r0 (dK aV r0) (qt r0 (leq r0 r0) (tA (.bool (decide ((zs.length:Int)≤120))) r0 (nl (nN (rt (fT (.bool (decide ((zs.length:Int)≤120))) r0 ?_)))))))))))))
 have e2:(decide ((zs.length:Int)≤120))=bJ zs:=by exact Ge (k:=k) (by omega) ha
 exact⟨(aS (Value.bool) e2),aE⟩
theorem Vj (p:Int→Bool) {Azs:aM} {czs:Nat} (zs:aC) (kf:FuncId) (w:World) (hzs:Sl w [] 1 Azs zs.length czs (zs.map I)) (hf: ∀ (x:Int) (w:World),bF prog kf [.int .i64 x] w (fun v w'=>v=.bool (p x)∧SH w w' [] [])):bF prog 95 [.slice Azs zs.length czs,.func (.func kf) #[] #[]] w (fun v w'=>v=.int .i64 (x5 p zs)∧SH w w' [] []):=by
 refine fQ 19 func95 r0 r0 ?_
 have aK:=SH.refl w []
 have sY:zs.length≤9223372036854775807:=cB hzs.cap hzs.cO
 refine sr (tA (I 0) r0 (nn (sq (sr (tm (cD Azs zs czs) r0 (qt r0 (dK aV r0) (tm (I 0) r0 (nn (bl (lp (σ:=Nat) (fun(k:Nat) f w'=>Has f [(0,.slice Azs zs.length czs),(1,.func (.func kf) #[] #[]),(7,I (zs.length:Int)),(8,I (k:Int))]∧(k≤zs.length)∧(∀ j,j<k→p (zs.getD j 0)=false)∧SH w w' [] []) (fun k=>zs.length-k) 0 ⟨(hA r0),(by simp),(by intro j hj; omega),aK⟩ ?_))))))))))
 rintro k f w1 ⟨hf,hk,hn,aE⟩
 obtain ⟨g1,rfl⟩:=NA hf
 clear hf
 refine sr (qt r0 (lss r0 r0) (nn (sq (bI r0 (fun h1=>?_) (fun h1=>?_)))))
 ·refine sk (nN (sq (bl (sr (tm (I (k:Int)) r0 (tA (I (k:Int)) r0 (nx (tm (.func (.func kf) #[] #[]) r0 (tm (cD Azs zs czs) r0 (tm (I (k:Int)) r0 (gN k aV r0 r0 hzs (by omega) (eQ I 0 (by omega)) aH r0 (fun a1 eL=>qt r0 (eW aE eL (fun _ h=>h) r0 r0 cN) (QJ (k:=kf) aH r0 r0 (hf (zs.getD k 0) _) ?_)))))))))))))
  rintro _ w2 ⟨rfl,aI⟩
  replace aI:=aE.cJ aI
  refine nn (cd r0 (fun h2=>?_) (fun h2=>?_))
  ·exact sr (tm (I (k:Int)) r0 (tA (I (k:Int)) r0 (nn (rt (bR (tR (tR (bR (tR (fI r0 (Mt (by omega) hn h2) aI))))))))))
  refine sk (bN (nN (rg (qt r0 (add r0 r0 (by exact⟨by omega,by omega⟩)) (tm (I ((k:Int)+1)) r0 (nn ?_))))))
  refine⟨(k+1),⟨(hA r0),(by omega),(by intro j hj; rcases Nat.lt_succ_iff_lt_or_eq.1 hj with h | h; exact hn j h; subst h; exact h2),aI⟩,?_⟩
  omega
 refine ex (tE (tE (bE (nN (sr (tA (I (-1)) r0 (nn (rt (fT (I (-1)) r0 ?_)))))))))
 have e2:(-1)=x5 p zs:=by exact Mu (fun j hj=>hn j (by omega))
 exact⟨(aS (Value.int .i64) e2),aE⟩
theorem Bt (p:Int→Bool) {Azs:aM} {czs:Nat} (zs:aC) (kf:FuncId) (w:World) (hzs:Sl w [] 1 Azs zs.length czs (zs.map I)) (hf: ∀ (x:Int) (w:World),bF prog kf [.int .i64 x] w (fun v w'=>v=.bool (p x)∧SH w w' [] [])):bF prog 56 [.slice Azs zs.length czs,.func (.func kf) #[] #[]] w (fun v w'=>v=.bool (zs.any p)∧SH w w' [] []):=by
 refine fQ 9 func56 r0 r0 ?_
 have aK:=SH.refl w []
 have sY:zs.length≤9223372036854775807:=cB hzs.cap hzs.cO
 refine sr (tA (.bool false) r0 (nx (tm (cD Azs zs czs) r0 (tm (.func (.func kf) #[] #[]) r0 (cS aK r0 (Vj _ _ _ _ (hzs.aP aK) hf) (fun w1 aE=>qt r0 (geq r0 r0) (tA (.bool (decide ((0:Int)≤(x5 p zs)))) r0 (nn (rt (fT (.bool (decide ((0:Int)≤(x5 p zs)))) r0 ?_))))))))))
 have e1:(decide ((0:Int)≤(x5 p zs)))=zs.any p:=by exact Ms p zs
 exact⟨(aS (Value.bool) e1),aE⟩
theorem H4 {Azs:aM} {czs:Nat} (zs:aC) (w:World) (hzs:Sl w [] 1 Azs zs.length czs (zs.map I)):bF prog 113 [.slice Azs zs.length czs] w (fun v w'=>v=.bool (bJ zs)∧SH w w' [] []):=by
 refine fQ 11 func113 r0 r0 ?_
 have aK:=SH.refl w []
 have sY:zs.length≤9223372036854775807:=cB hzs.cap hzs.cO
 refine sr (tA (.bool false) r0 (nx (tm (cD Azs zs czs) r0 (qt r0 (dK aV r0) (qt r0 (leq r0 r0) (tm (.bool (decide ((zs.length:Int)≤120))) r0 (fF 6 r0 (fun h1=>?_) (fun h1=>?_))))))))
 ·refine qh r0 (mv (v:=.slice Azs zs.length czs) r0) (cl ⟨_,rfl,rfl⟩ r0 (Bt (fun x=>(decide (¬ (0≤x∧x≤255)))) _ 163 _ (hzs.aP aK) (fun x w=>Lf x w)) ?_)
  rintro _ w1 ⟨rfl,aE⟩
  replace aE:=aK.cJ aE
  refine qh r0 (nt r0) (qt r0 (pt (v:=.bool (!(zs.any (fun x=>(decide (¬ (0≤x∧x≤255))))))) r0 r0) (tA (.bool (!(zs.any (fun x=>(decide (¬ (0≤x∧x≤255))))))) r0 (nn (rt (fT (.bool (!(zs.any (fun x=>(decide (¬ (0≤x∧x≤255))))))) r0 ?_)))))
  have e1:(!(zs.any (fun x=>(decide (¬ (0≤x∧x≤255))))))=bJ zs:=by rw[← XN]; simp[*]
  exact⟨(aS (Value.bool) e1),aE⟩
 exact bA r0 (bA r0 (bA r0 (qt r0 (pf (v:=.bool false) r0 r0) (tA (.bool false) r0 (nn (rt (fB r0 (by rw[← XN]; simp[*]) aK)))))))
theorem Bv (l:aD) (c:UInt8) (w:World):bF prog 63 [aA l,.int .u8 (c.toNat:Int)] w (fun v w'=>v=.int .i64 (cE l c)∧SH w w' [] []):=by
 refine fQ 8 func63 r0 r0 ?_
 have aK:=SH.refl w []
 refine sr (tA (I 0) r0 (nx (tm (aA l) r0 (tm (.int .u8 (c.toNat:Int)) r0 (qt r0 (Mm (l:=l) (c:=c) func103 (by kernel_rfl) r0 (by kernel_rfl) (by kernel_rfl) r0 r0) (tA (I (cE l c)) r0 (nn (rt (fT (I (cE l c)) r0 ?_)))))))))
 exact⟨rfl,aK⟩
theorem PO (l:aD) (c:UInt8) (w:World):bF prog 33 [aA l,.int .u8 (c.toNat:Int)] w (fun v w'=>v=.int .i64 (cE l c)∧SH w w' [] []):=by
 refine fQ 8 func33 r0 r0 ?_
 have aK:=SH.refl w []
 refine sr (tA (I 0) r0 (nx (tm (aA l) r0 (tm (.int .u8 (c.toNat:Int)) r0 (cS aK r0 (Bv _ _ _) (fun w1 aE=>tA (I (cE l c)) r0 (nn (rt (fT (I (cE l c)) r0 ?_)))))))))
 exact⟨rfl,aE⟩
theorem TE (w:World):bF prog 135 [] w (fun v w'=>v=aA eN∧SH w w' [] []):=by
 refine fQ 1 func135 r0 r0 ?_
 have aK:=SH.refl w []
 refine sr (tA (aA []) r0 (nx (tA (aA eN) r0 (nn (rt (fT (aA eN) r0 ?_))))))
 exact⟨rfl,aK⟩
theorem Ap (c:UInt8) (w:World):bF prog 137 [.int .u8 (c.toNat:Int)] w (fun v w'=>v=.int .i64 (cE eN c)∧SH w w' [] []):=by
 refine fQ 14 func137 r0 r0 ?_
 have aK:=SH.refl w []
 refine sr (tA (I 0) r0 (nn (sq (sr (tA (I 0) r0 (nn (bl (lp (σ:=Nat) (fun(k:Nat) f w'=>Hz f [(0,.int .u8 (c.toNat:Int)),(3,I (k:Int))]∧(k≤16)∧(∀ j,j<k→eN.getD j 0≠c)∧SH w w' [] []) (fun k=>16-k) 0 ⟨(zR r0),(by simp),(by intro j hj; omega),aK⟩ ?_))))))))
 rintro k f w1 ⟨⟨g1,rfl⟩,hk,hn,aE⟩
 refine sq (sr (tm (I (k:Int)) r0 (qt r0 (lss r0 r0) (nn (bI r0 (fun h1=>?_) (fun h1=>?_))))))
 ·refine sk (nN (sq (bl (sr (cS aE r0 (TE _) (fun w2 aI=>tm (I (k:Int)) r0 (qt r0 (l5 k dI r0 r0 (by rw[sX]; omega)) (tm (.int .u8 (c.toNat:Int)) r0 (qt r0 (dO r0 r0) (nn (bI r0 (fun h2=>?_) (fun h2=>?_))))))))))))
  ·exact sr (tm (I (k:Int)) r0 (tA (I (k:Int)) r0 (nn (rt (bR (tR (tR (bR (tR (fI r0 (by exact(R2 (by rw[sX]; omega) hn (Dn (by omega))).symm) aI))))))))))
  refine sk (bN (nN (rg (tm (I (k:Int)) r0 (qt r0 (add r0 r0 (by exact⟨by omega,by omega⟩)) (tA (I ((k:Int)+1)) r0 (nl (nN ?_))))))))
  refine⟨(k+1),⟨(zR r0),(by omega),(by intro j hj; rcases Nat.lt_succ_iff_lt_or_eq.1 hj with h | h; exact hn j h; subst h; intro he; exact h2 (by rw[he])),aI⟩,?_⟩
  omega
 refine ex (tE (tE (bE (nN (sr (tA (I (-1)) r0 (nn (rt (fT (I (-1)) r0 ?_)))))))))
 have e2:(-1)=cE eN c:=by exact(XL (fun j hj=>hn j (by rw[sX]at hj; omega))).symm
 exact⟨(aS (Value.int .i64) e2),aE⟩
theorem As (l:aD) (w:World) (hl_n:l.length≤1099511627776):bF prog 89 [aA l] w (fun v w'=>∃ Ar:aM,∃ cr:Nat,v=.tuple #[.slice Ar ((bW l).1).length cr,.bool ((bW l).2)]∧SH w w' [] [.own Ar (((bW l).1).length) cr 3 1 (((bW l).1).map I)]):=by
 refine fQ 49 func89 r0 r0 ?_
 have aK:=SH.refl w []
 refine sr (tA ns r0 (tA (.bool false) r0 (nx (cR aK aV [] [] aH r0 (fun b1 w1 aE=>tA (sb b1 (([]:aC).length) 0) r0 (nn (sq (sr (tm (aA l) r0 (qt r0 (gG dI r0) (qt r0 (rem r0 r0 (by omega) (by omega)) (qt r0 (nK r0 r0) (tm (.bool (decide (((l.length:Int) % 2)≠0))) r0 (fF 13 r0 (fun h1=>?_) (fun h1=>?_)))))))))))))))
 ·refine aT r0 (aT r0 (aT r0 (qt r0 (pt (v:=.bool true) r0 r0) (nn (fX r0 (sq (rg (tm (sb b1 (([]:aC).length) 0) r0 (tA (sb b1 (([]:aC).length) 0) r0 (tA (.bool false) r0 (nn (rt (tR (bO (.tmp (.tmp .nil)) r0 ?_))))))))))))))
  have e1:([]:aC)=(bW l).1:=by rw[C0 (by omega)]
  have e2:=aS List.length e1
  have e3:false=(bW l).2:=by rw[C0 (by omega)]
  exact⟨(Z7 b1),0,(kE (eE r0 e2 r0) (aS (Value.bool) e3)),(aE.cast (lc (dZ (g:=I) r0 e2 r0 e1) r0))⟩
 refine qh r0 (mv (v:=aA l) r0) (qh r0 (gG dI r0) (qh r0 (gtr r0 r0) (qt r0 (pf (v:=.bool (decide ((240:Int)<(l.length:Int)))) r0 r0) (nn (bI r0 (fun h2=>?_) (fun h2=>?_))))))
 ·refine sr (tm (sb b1 (([]:aC).length) 0) r0 (tA (sb b1 (([]:aC).length) 0) r0 (tA (.bool false) r0 (nn (rt (tR (bO (.tmp (.tmp .nil)) r0 ?_)))))))
  have e4:([]:aC)=(bW l).1:=by rw[C0 (by omega)]
  have e5:=aS List.length e4
  have e6:false=(bW l).2:=by rw[C0 (by omega)]
  exact⟨(Z7 b1),0,(kE (eE r0 e5 r0) (aS (Value.bool) e6)),(aE.cast (lc (dZ (g:=I) r0 e5 r0 e4) r0))⟩
 refine sk (nN (sq (sr (tA (I 0) r0 (nn (bl ?_))))))
 have e7:([]:aC)=jQ l 0:=by rfl
 have e8:([]:aC).length=(jQ l 0).length:=by rw[e7]
 refine lp (σ:=(aM)×Nat×Nat) (fun⟨iQ,iT,k⟩ f w'=>Hz f [(0,aA l),(4,.slice iQ ((jQ l k).length) iT),(5,I ((2*k:Nat):Int))]∧(k≤l.length / 2)∧(∀ j,j<k→zW l j=true)∧SH w w' [] [.own iQ ((jQ l k).length) iT 3 1 ((jQ l k).map I)]) (fun⟨iQ,iT,k⟩=>l.length-k) ((Z7 b1),0,0) ⟨(zH ⟨rfl,(show (.slice (Z7 b1) (([]:aC).length) 0:Value)=.slice (Z7 b1) ((jQ l 0).length) 0 from eE r0 e8 r0),(show (I 0:Value)=I ((2*0:Nat):Int) from aS (Value.int .i64) (by simp)),aH⟩),(by simp),(by intro j hj; omega),(aE.cast (lc (dZ (g:=I) r0 e8 r0 e7) r0))⟩ ?_
 rintro ⟨iQ,iT,k⟩ f w2 ⟨⟨g1,rfl⟩,hk,hg,aI⟩
 refine sq (sr (tm (I ((2*k:Nat):Int)) r0 (tm (aA l) r0 (qt r0 (gG dI r0) (qt r0 (lss r0 r0) (nl (nN (bI r0 (fun h3=>?_) (fun h3=>?_)))))))))
 ·refine sk (nN (sq (bl (sr (tm (aA l) r0 (tm (I ((2*k:Nat):Int)) r0 (qt r0 (l5 (2*k) dI r0 r0 (by omega)) (cS aI r0 (Ap _ _) (fun w3 aN=>tA (I (cE eN (l.getD (2*k) 0))) r0 (nx (tm (aA l) r0 (tm (I ((2*k:Nat):Int)) r0 (qt r0 (add r0 r0 (by have:=sV (l.getD (2*k) 0); have:=sV (l.getD (2*k+1) 0); exact⟨by omega,by omega⟩)) (qt r0 (l5 ((2*k)+1) dI r0 r0 (by omega)) (cS aN r0 (Ap _ _) (fun w4 aR=>tA (I (cE eN (l.getD ((2*k)+1) 0))) r0 (nn (sq (sr (tm (I (cE eN (l.getD (2*k) 0))) r0 (qt r0 (lss r0 r0) (tm (.bool (decide ((cE eN (l.getD (2*k) 0))<0))) r0 (fF 36 r0 (fun h4=>?_) (fun h4=>?_))))))))))))))))))))))))
  ·refine aT r0 (aT r0 (qt r0 (pt (v:=.bool true) r0 r0) (nn (fX r0 (sr (cR aR aV [] [] aH r0 (fun b2 w5 aZ=>tA (sb b2 (([]:aC).length) 0) r0 (tA (.bool false) r0 (nn (rt (tR (bR (tR (tR (bR (tR (bO (.tmp (.tmp .nil)) r0 ?_)))))))))))))))))
   have e9:([]:aC)=(bW l).1:=by rw[CZ (k:=k) (by omega) (CY (by omega))]
   have lP:=aS List.length e9
   have mB:false=(bW l).2:=by rw[CZ (k:=k) (by omega) (CY (by omega))]
   exact⟨(Z7 b2),0,(kE (eE r0 lP r0) (aS (Value.bool) mB)),((aZ.pq [1] r0).cast (lc (dZ (g:=I) r0 lP r0 e9) r0))⟩
  refine qh r0 (mv (v:=I (cE eN (l.getD ((2*k)+1) 0))) r0) (qh r0 (lss r0 r0) (qt r0 (pf (v:=.bool (decide ((cE eN (l.getD ((2*k)+1) 0))<0))) r0 r0) (nn (bI r0 (fun h5=>?_) (fun h5=>?_)))))
  ·refine sr (cR aR aV [] [] aH r0 (fun b3 w6 bG=>tA (sb b3 (([]:aC).length) 0) r0 (tA (.bool false) r0 (nn (rt (tR (bR (tR (tR (bR (tR (bO (.tmp (.tmp .nil)) r0 ?_))))))))))))
   have nU:([]:aC)=(bW l).1:=by rw[CZ (k:=k) (by omega) (CY (by omega))]
   have pU:=aS List.length nU
   have qW:false=(bW l).2:=by rw[CZ (k:=k) (by omega) (CY (by omega))]
   exact⟨(Z7 b3),0,(kE (eE r0 pU r0) (aS (Value.bool) qW)),((bG.pq [1] r0).cast (lc (dZ (g:=I) r0 pU r0 nU) r0))⟩
  refine sk (nN (rg (tm (.slice iQ ((jQ l k).length) iT) r0 (tm (I (cE eN (l.getD (2*k) 0))) r0 (qt r0 (mul r0 r0 (by have:=sV (l.getD (2*k) 0); have:=sV (l.getD (2*k+1) 0); exact⟨by omega,by omega⟩)) (tm (I (cE eN (l.getD ((2*k)+1) 0))) r0 (qt r0 (add r0 r0 (by have:=sV (l.getD (2*k) 0); have:=sV (l.getD (2*k+1) 0); exact⟨by omega,by omega⟩)) (cR aR aV [I ((16*(cE eN (l.getD (2*k) 0)))+(cE eN (l.getD ((2*k)+1) 0)))] [I ((16*(cE eN (l.getD (2*k) 0)))+(cE eN (l.getD ((2*k)+1) 0)))] aH r0 (fun b4 w7 bU=>gI (g:=I) (ys:=jQ l k) (zs:=([(16*(cE eN (l.getD (2*k) 0)))+(cE eN (l.getD ((2*k)+1) 0))]:aC)) bU 0 r0 aV r0 r0 r0 (bU.cI 1 r0) (fun _=>rfl) (by unfold maxLen; (simp; omega)) (by(simp; omega)) aH r0 (fun A1 c1 w8 bV=>tA (.slice A1 (((jQ l k)++([(16*(cE eN (l.getD (2*k) 0)))+(cE eN (l.getD ((2*k)+1) 0))]:aC)).length) c1) r0 (nl (bN (nN (rg (tm (I ((2*k:Nat):Int)) r0 (qt r0 (add r0 r0 (by have:=sV (l.getD (2*k) 0); have:=sV (l.getD (2*k+1) 0); exact⟨by omega,by omega⟩)) (tA (I (((2*k:Nat):Int)+2)) r0 (nn ?_))))))))))))))))))
  have rR:(jQ l k)++([(16*(cE eN (l.getD (2*k) 0)))+(cE eN (l.getD ((2*k)+1) 0))]:aC)=jQ l (k+1):=by exact WK l k
  have wR:((jQ l k)++([(16*(cE eN (l.getD (2*k) 0)))+(cE eN (l.getD ((2*k)+1) 0))]:aC)).length=(jQ l (k+1)).length:=by rw[rR]
  refine⟨(A1,c1,k+1),⟨(zH ⟨rfl,(show (.slice A1 (((jQ l k)++([(16*(cE eN (l.getD (2*k) 0)))+(cE eN (l.getD ((2*k)+1) 0))]:aC)).length) c1:Value)=.slice A1 ((jQ l (k+1)).length) c1 from eE r0 wR r0),(show (I (((2*k:Nat):Int)+2):Value)=I ((2*(k+1):Nat):Int) from aS (Value.int .i64) (by omega)),aH⟩),(by omega),(WM hg (by omega) (by omega)),((bV.pq [1] r0).cast (lc (dZ (g:=I) r0 wR r0 rR) r0))⟩,?_⟩
  show l.length-(k+1)<l.length-k
  omega
 refine ex (tE (tE (bE (nN (sr (tm (.slice iQ ((jQ l k).length) iT) r0 (tA (.slice iQ ((jQ l k).length) iT) r0 (tA (.bool true) r0 (nn (rt (bO (.tmp (.tmp .nil)) r0 ?_)))))))))))
 have CM:jQ l k=(bW l).1:=by rw[NC (by omega) (by omega) (by omega) hg]
 have CN:=aS List.length CM
 have J1:true=(bW l).2:=by rw[NC (by omega) (by omega) (by omega) hg]
 exact⟨iQ,iT,(kE (eE r0 CN r0) (aS (Value.bool) J1)),(aI.cast (lc (dZ (g:=I) r0 CN r0 CM) r0))⟩
theorem XB (l:aD) (w:World) (hl_n:l.length≤1099511627776):bF prog 39 [aA l] w (fun v w'=>∃ Ar:aM,∃ cr:Nat,v=.tuple #[.slice Ar ((bW l).1).length cr,.bool ((bW l).2)]∧SH w w' [] [.own Ar (((bW l).1).length) cr 3 1 (((bW l).1).map I)]):=by
 refine fQ 46 func39 r0 r0 ?_
 have aK:=SH.refl w []
 refine sr (tA ns r0 (tA (.bool false) r0 (nn (sq (sq (rg (tm (aA l) r0 (qt r0 (gG dI r0) (qt r0 (rem r0 r0 (by omega) (by omega)) (qt r0 (dO r0 r0) (tm (.bool (decide (((l.length:Int) % 2)=1))) r0 (fF 12 r0 (fun h1=>?_) (fun h1=>?_)))))))))))))
 ·refine aT r0 (aT r0 (aT r0 (qt r0 (pt (v:=.bool true) r0 r0) (nn (fX r0 (sq (rg (tA ns r0 (tA (.bool false) r0 (nn (rt (tR (bO (.tmp (.tmp .nil)) r0 ?_)))))))))))))
  have aE:=aK.nl [Z0] r0
  have e1:([]:aC)=(bW l).1:=by rw[C0 (by omega)]
  have e2:=aS List.length e1
  have e3:false=(bW l).2:=by rw[C0 (by omega)]
  exact⟨none,0,(kE (eE r0 e2 r0) (aS (Value.bool) e3)),(aE.cast (lc (dZ (g:=I) r0 e2 r0 e1) r0))⟩
 refine qh r0 (mv (v:=aA l) r0) (qh r0 (gG dI r0) (qh r0 (gtr r0 r0) (qt r0 (pf (v:=.bool (decide ((240:Int)<(l.length:Int)))) r0 r0) (nn (bI r0 (fun h2=>?_) (fun h2=>?_))))))
 ·refine sr (tA ns r0 (tA (.bool false) r0 (nn (rt (tR (bO (.tmp (.tmp .nil)) r0 ?_))))))
  have aI:=aK.nl [Z0] r0
  have e4:([]:aC)=(bW l).1:=by rw[C0 (by omega)]
  have e5:=aS List.length e4
  have e6:false=(bW l).2:=by rw[C0 (by omega)]
  exact⟨none,0,(kE (eE r0 e5 r0) (aS (Value.bool) e6)),(aI.cast (lc (dZ (g:=I) r0 e5 r0 e4) r0))⟩
 refine sk (nN (sr (tA ns r0 (nn (sq (sr (tA (I 0) r0 (nn (bl ?_)))))))))
 have aN:=aK.nl [Z0] r0
 have e7:([]:aC)=jQ l 0:=by rfl
 have e8:([]:aC).length=(jQ l 0).length:=by rw[e7]
 refine lp (σ:=(aM)×Nat×Nat) (fun⟨iQ,iT,k⟩ f w'=>Hz f [(0,aA l),(4,.slice iQ ((jQ l k).length) iT),(5,I ((2*k:Nat):Int))]∧(k≤l.length / 2)∧(∀ j,j<k→zW l j=true)∧SH w w' [] [.own iQ ((jQ l k).length) iT 3 1 ((jQ l k).map I)]) (fun⟨iQ,iT,k⟩=>l.length-k) (none,0,0) ⟨(zH ⟨rfl,(show (.slice none (([]:aC).length) 0:Value)=.slice none ((jQ l 0).length) 0 from eE r0 e8 r0),(show (I 0:Value)=I ((2*0:Nat):Int) from aS (Value.int .i64) (by simp)),aH⟩),(by simp),(by intro j hj; omega),(aN.cast (lc (dZ (g:=I) r0 e8 r0 e7) r0))⟩ ?_
 rintro ⟨iQ,iT,k⟩ f w1 ⟨⟨g1,rfl⟩,hk,hg,aR⟩
 refine sq (sr (tm (I ((2*k:Nat):Int)) r0 (tm (aA l) r0 (qt r0 (gG dI r0) (qt r0 (lss r0 r0) (nl (nN (bI r0 (fun h3=>?_) (fun h3=>?_)))))))))
 ·refine sk (nN (sq (bl (sq (rq (fun w'=>SH w w' [] [.own iQ ((jQ l k).length) iT 3 1 ((jQ l k).map I)]) mixed (by kernel_rfl) aR.drew (qA r0 (mv (v:=aA l) r0) (qA r0 (mv (v:=I ((2*k:Nat):Int)) r0) (qA r0 (l5 (2*k) dI r0 r0 (by omega)) (qc (I (cE eN (l.getD (2*k) 0))) aH r0 (fun wq aU=>(PO eN _ _).mono (fun v w' h=>⟨h.1,by simpa using aU.cJ h.2⟩)) (qA r0 (mv (v:=aA l) r0) (qA r0 (mv (v:=I ((2*k:Nat):Int)) r0) (qA r0 (add r0 r0 (by have:=sV (l.getD (2*k) 0); have:=sV (l.getD (2*k+1) 0); exact⟨by omega,by omega⟩)) (qA r0 (l5 ((2*k)+1) dI r0 r0 (by omega)) (qc (I (cE eN (l.getD ((2*k)+1) 0))) aH r0 (fun wq aU=>(PO eN _ _).mono (fun v w' h=>⟨h.1,by simpa using aU.cJ h.2⟩)) (qA r0 (fW (v:=I (cE eN (l.getD (2*k) 0))) r0) (qA r0 (fW (v:=I (cE eN (l.getD ((2*k)+1) 0))) r0) (qn (fun w2 aZ=>nN (sq (sr (tm (I (cE eN (l.getD (2*k) 0))) r0 (qt r0 (lss r0 r0) (tm (.bool (decide ((cE eN (l.getD (2*k) 0))<0))) r0 (fF 34 r0 (fun h4=>?_) (fun h4=>?_)))))))))))))))))))))))))
  ·refine aT r0 (aT r0 (qt r0 (pt (v:=.bool true) r0 r0) (nn (fX r0 (sr (tA ns r0 (tA (.bool false) r0 (nn (rt (tR (bR (tR (tR (bR (tR (bO (.tmp (.tmp .nil)) r0 ?_))))))))))))))))
   have bG:=aZ.nl [Z0] r0
   have e9:([]:aC)=(bW l).1:=by rw[CZ (k:=k) (by omega) (CY (by omega))]
   have lP:=aS List.length e9
   have mB:false=(bW l).2:=by rw[CZ (k:=k) (by omega) (CY (by omega))]
   exact⟨none,0,(kE (eE r0 lP r0) (aS (Value.bool) mB)),((bG.pq [1] r0).cast (lc (dZ (g:=I) r0 lP r0 e9) r0))⟩
  refine qh r0 (mv (v:=I (cE eN (l.getD ((2*k)+1) 0))) r0) (qh r0 (lss r0 r0) (qt r0 (pf (v:=.bool (decide ((cE eN (l.getD ((2*k)+1) 0))<0))) r0 r0) (nn (bI r0 (fun h5=>?_) (fun h5=>?_)))))
  ·refine sr (tA ns r0 (tA (.bool false) r0 (nn (rt (tR (bR (tR (tR (bR (tR (bO (.tmp (.tmp .nil)) r0 ?_)))))))))))
   have bU:=aZ.nl [Z0] r0
   have nU:([]:aC)=(bW l).1:=by rw[CZ (k:=k) (by omega) (CY (by omega))]
   have pU:=aS List.length nU
   have qW:false=(bW l).2:=by rw[CZ (k:=k) (by omega) (CY (by omega))]
   exact⟨none,0,(kE (eE r0 pU r0) (aS (Value.bool) qW)),((bU.pq [1] r0).cast (lc (dZ (g:=I) r0 pU r0 nU) r0))⟩
  refine sk (nN (rg (tm (.slice iQ ((jQ l k).length) iT) r0 (tm (I (cE eN (l.getD (2*k) 0))) r0 (qt r0 (mul r0 r0 (by have:=sV (l.getD (2*k) 0); have:=sV (l.getD (2*k+1) 0); exact⟨by omega,by omega⟩)) (tm (I (cE eN (l.getD ((2*k)+1) 0))) r0 (qt r0 (add r0 r0 (by have:=sV (l.getD (2*k) 0); have:=sV (l.getD (2*k+1) 0); exact⟨by omega,by omega⟩)) (cR aZ aV [I ((16*(cE eN (l.getD (2*k) 0)))+(cE eN (l.getD ((2*k)+1) 0)))] [I ((16*(cE eN (l.getD (2*k) 0)))+(cE eN (l.getD ((2*k)+1) 0)))] aH r0 (fun b1 w3 bV=>gI (g:=I) (ys:=jQ l k) (zs:=([(16*(cE eN (l.getD (2*k) 0)))+(cE eN (l.getD ((2*k)+1) 0))]:aC)) bV 0 r0 aV r0 r0 r0 (bV.cI 1 r0) (fun _=>rfl) (by unfold maxLen; (simp; omega)) (by(simp; omega)) aH r0 (fun A1 c1 w4 b9=>tA (.slice A1 (((jQ l k)++([(16*(cE eN (l.getD (2*k) 0)))+(cE eN (l.getD ((2*k)+1) 0))]:aC)).length) c1) r0 (nl (bN (nN (rg (tm (I ((2*k:Nat):Int)) r0 (qt r0 (add r0 r0 (by have:=sV (l.getD (2*k) 0); have:=sV (l.getD (2*k+1) 0); exact⟨by omega,by omega⟩)) (tA (I (((2*k:Nat):Int)+2)) r0 (nn ?_))))))))))))))))))
  have rR:(jQ l k)++([(16*(cE eN (l.getD (2*k) 0)))+(cE eN (l.getD ((2*k)+1) 0))]:aC)=jQ l (k+1):=by exact WK l k
  have wR:((jQ l k)++([(16*(cE eN (l.getD (2*k) 0)))+(cE eN (l.getD ((2*k)+1) 0))]:aC)).length=(jQ l (k+1)).length:=by rw[rR]
  refine⟨(A1,c1,k+1),⟨(zH ⟨rfl,(show (.slice A1 (((jQ l k)++([(16*(cE eN (l.getD (2*k) 0)))+(cE eN (l.getD ((2*k)+1) 0))]:aC)).length) c1:Value)=.slice A1 ((jQ l (k+1)).length) c1 from eE r0 wR r0),(show (I (((2*k:Nat):Int)+2):Value)=I ((2*(k+1):Nat):Int) from aS (Value.int .i64) (by omega)),aH⟩),(by omega),(WM hg (by omega) (by omega)),((b9.pq [1] r0).cast (lc (dZ (g:=I) r0 wR r0 rR) r0))⟩,?_⟩
  show l.length-(k+1)<l.length-k
  omega
 refine ex (tE (tE (bE (nN (sr (tm (.slice iQ ((jQ l k).length) iT) r0 (tA (.slice iQ ((jQ l k).length) iT) r0 (tA (.bool true) r0 (nn (rt (bO (.tmp (.tmp .nil)) r0 ?_)))))))))))
 have CM:jQ l k=(bW l).1:=by rw[NC (by omega) (by omega) (by omega) hg]
 have CN:=aS List.length CM
 have J1:true=(bW l).2:=by rw[NC (by omega) (by omega) (by omega) hg]
 exact⟨iQ,iT,(kE (eE r0 CN r0) (aS (Value.bool) J1)),(aR.cast (lc (dZ (g:=I) r0 CN r0 CM) r0))⟩
theorem Au {Axs:aM} {cxs:Nat} (xs:aC) (w:World) (hxs:Sl w [] 1 Axs xs.length cxs (xs.map I)):bF prog 85 [.slice Axs xs.length cxs] w (fun v w'=>v=aA (mX xs)∧SH w w' [] []):=by
 refine fQ 45 func85 r0 r0 ?_
 have aK:=SH.refl w []
 have KJ:xs.length≤9223372036854775807:=cB hxs.cap hxs.cO
 refine sr (tA (aA []) r0 (nx (tA (aA []) r0 (nn (sq (sr (tA (I 0) r0 (nn (bl (lp (σ:=Nat) (fun(k:Nat) f w'=>Hz f [(0,.slice Axs xs.length cxs),(3,aA (kT xs k)),(4,I (k:Int))]∧(k≤xs.length)∧(0<k→bJ xs=true)∧SH w w' [] []) (fun k=>xs.length-k) 0 ⟨(zH ⟨rfl,(show (aA []:Value)=aA (kT xs 0) from aS (aA) (by rfl)),rfl,aH⟩),(by simp),(by intro h; omega),aK⟩ ?_))))))))))
 rintro k f w1 ⟨⟨g1,rfl⟩,hk,hb,aE⟩
 refine sq (sr (tm (I (k:Int)) r0 (tm (cD Axs xs cxs) r0 (qt r0 (dK aV r0) (qt r0 (lss r0 r0) (tm (.bool (decide ((k:Int)<(xs.length:Int)))) r0 (fF 9 r0 (fun h1=>?_) (fun h1=>?_))))))))
 ·refine qh r0 (mv (v:=.slice Axs xs.length cxs) r0) (cl ⟨_,rfl,rfl⟩ r0 (wU _ _ (hxs.aP aE)) ?_)
  rintro _ w2 ⟨rfl,aI⟩
  replace aI:=aE.cJ aI
  refine qt r0 (pt (v:=.bool (bJ xs)) r0 r0) (nn (cd r0 (fun h2=>?_) (fun h2=>?_)))
  ·refine sk (nN (sq (bl (rq (fun w'=>SH w w' [] []) mixed (by kernel_rfl) aI.drew (qA r0 (mv (v:=aA (kT xs k)) r0) (qc (aA eN) aH r0 (fun wq aU=>(TE _).mono (fun v w' h=>⟨h.1,by simpa using aU.cJ h.2⟩)) (qA r0 (mv (v:=.slice Axs xs.length cxs) r0) (qA r0 (mv (v:=I (k:Int)) r0) (qL k aV r0 r0 hxs (by omega) (eQ I 0 (by omega)) aH r0 (fun a1 eL=>?_))))))))))
   have hy:=jT (by assumption:bJ xs=true) (k:=k) (by omega)
   refine qB r0 (fun aU=>eW aU eL (fun _ h=>h) r0 r0 cN) (qA r0 (quo (a:=xs.getD k 0) (b:=16) r0 r0 (by omega) (by omega) (by omega)) (qA r0 (mv (v:=.slice Axs xs.length cxs) r0) (qA r0 (mv (v:=I (k:Int)) r0) (qL k aV r0 r0 hxs (by omega) (eQ I 0 (by omega)) aH r0 (fun a2 jG=>qB r0 (fun aU=>eW aU jG (fun _ h=>h) r0 r0 cN) (qA r0 (quo (a:=xs.getD k 0) (b:=16) r0 r0 (by omega) (by omega) (by omega)) (qA r0 (add r0 r0 (by exact⟨by omega,by omega⟩)) (qA r0 (JV (l:=eN) (((xs.getD k 0) / 16).toNat) ((((xs.getD k 0) / 16)+1).toNat) dI r0 (jK (x:=(xs.getD k 0) / 16) (by omega)) (jK (x:=((xs.getD k 0) / 16)+1) (by omega)) (by have:=sX; omega) (by have:=sX; omega)) (qA r0 (cat r0 r0 (by have:=KC xs k; have:=hZ (by assumption:bJ xs=true); simp[sX]; omega)) (qc (aA eN) aH r0 (fun wq aU=>(TE _).mono (fun v w' h=>⟨h.1,by simpa using aU.cJ h.2⟩)) (qA r0 (mv (v:=.slice Axs xs.length cxs) r0) (qA r0 (mv (v:=I (k:Int)) r0) (qL k aV r0 r0 hxs (by omega) (eQ I 0 (by omega)) aH r0 (fun a3 nV=>qB r0 (fun aU=>eW aU nV (fun _ h=>h) r0 r0 cN) (qA r0 (rem r0 r0 (by omega) (by omega)) (qA r0 (mv (v:=.slice Axs xs.length cxs) r0) (qA r0 (mv (v:=I (k:Int)) r0) (qL k aV r0 r0 hxs (by omega) (eQ I 0 (by omega)) aH r0 (fun a4 xW=>qB r0 (fun aU=>eW aU xW (fun _ h=>h) r0 r0 cN) (qA r0 (rem r0 r0 (by omega) (by omega)) (qA r0 (add r0 r0 (by exact⟨by omega,by omega⟩)) (qA r0 (JV (l:=eN) (((xs.getD k 0) % 16).toNat) ((((xs.getD k 0) % 16)+1).toNat) dI r0 (jK (x:=(xs.getD k 0) % 16) (by omega)) (jK (x:=((xs.getD k 0) % 16)+1) (by omega)) (by have:=sX; omega) (by have:=sX; omega)) (qA r0 (cat r0 r0 (by have:=KC xs k; have:=hZ (by assumption:bJ xs=true); simp[sX]; omega)) (qA r0 (fW (v:=aA (((kT xs k)++((eN.take ((((xs.getD k 0) / 16)+1).toNat)).drop (((xs.getD k 0) / 16).toNat)))++((eN.take ((((xs.getD k 0) % 16)+1).toNat)).drop (((xs.getD k 0) % 16).toNat)))) r0) (qn (fun w3 aN=>?_))))))))))))))))))))))))))
   refine bN (nN (rg (tm (I (k:Int)) r0 (qt r0 (add r0 r0 (by exact⟨by omega,by omega⟩)) (tA (I ((k:Int)+1)) r0 (nn ?_))))))
   refine⟨(k+1),⟨(zH ⟨rfl,(show (aA (((kT xs k)++((eN.take ((((xs.getD k 0) / 16)+1).toNat)).drop (((xs.getD k 0) / 16).toNat)))++((eN.take ((((xs.getD k 0) % 16)+1).toNat)).drop (((xs.getD k 0) % 16).toNat))):Value)=aA (kT xs (k+1)) from aS (aA) (by exact WQ xs k)),rfl,aH⟩),(by omega),(fun _=>h2),aN⟩,?_⟩
   omega
  exact ex (tE (tE (bE (nN (sr (tm (aA (kT xs k)) r0 (tA (aA (kT xs k)) r0 (nn (rt (fS r0 (WS hk hb (by exact .inr (by simpa using h2))) aI))))))))))
 exact bA r0 (bA r0 (qt r0 (pf (v:=.bool false) r0 r0) (nn (qV r0 (ex (tE (tE (bE (nN (sr (tm (aA (kT xs k)) r0 (tA (aA (kT xs k)) r0 (nn (rt (fS r0 (WS hk hb (by exact .inl (by omega))) aE)))))))))))))))
theorem pick {rb:Nat} {Ab:aM} {cb:Nat} {bs:aD} {p:Nat} (n:Int) (w:World) (hr:w.heap[rb]?=some (.cells [.slice Ab bs.length cb,.int .i64 (p:Int)].toArray 57 (0,0))) (hb:Sl w [rb] 1 Ab bs.length cb (bs.map U)) (hbn:bs.length≤2000) (hp:p≤1099511627776):bF prog 17 [pB rb,I n] w (fun v w'=>∃ r:Int,∃ q:Nat,v=.int .i64 r∧(0≤r∧(r<n∨r=0))∧(q≤p+1)∧SH w w' [rb] [.blk rb 57 [.slice Ab bs.length cb,I (q:Int)]]):=by
 refine fE (N:=99) func17 r0 (by kernel_rfl) r0 ?_
 have aK:=SH.rS hr
 refine sr (tA (I 0) r0 (nx (tm (pB rb) r0 (tm (pB rb) r0 (tn r0 (qt r0 (fa 1 Q0 r0) (qt r0 (lD (I (p:Int)) aK 0 r0 cN) (qt r0 (add (a:=(p:Int)) (b:=1) r0 r0 (by have h1_:=iL (bs.getD ((p+1-1) % bs.length) 0); have h2_:=iL (bs.getD (((p+1-1)*7+3) % bs.length) 0); have h3_:=o0 (p+1-1) bs.length; exact⟨by omega,by omega⟩)) (tn r0 (qt r0 (fa 1 Q0 r0) (sT (I ((p:Int)+1)) aK 0 r0 cN (fun w1 aE=>?_))))))))))))
 refine nn (sq (sr (tm (I n) r0 (qt r0 (lss (k:=.i64) (a:=n) (b:=1) r0 r0) (tm (.bool (decide (n<1))) r0 (fF (p:=n<1) 17 r0 (fun h1=>?_) (fun h1=>?_)))))))
 ·refine aT r0 (aT r0 (aT r0 (aT r0 (aT r0 (aT r0 (qt r0 (pt (v:=.bool true) r0 r0) (nl (nN (fX r0 (sr (tA (I 0) r0 (nn (rt (tR (fT (I 0) r0 ?_)))))))))))))))
  exact⟨0,p+1,rfl,(by simp),(by omega),aE⟩
 refine qh r0 (mv (v:=pB rb) r0) (qh r0 (nc r0) (qh r0 (fa 0 CT r0) (qh r0 (lD (mA Ab bs cb) aE 0 r0 tC) (qh r0 (dK (n:=bs.length) l9 r0) (qh r0 (dO (k:=.i64) (a:=(bs.length:Int)) (b:=0) r0 r0) (qt r0 (pf (v:=.bool (decide ((bs.length:Int)=0))) r0 r0) (nl (nN (bI r0 (fun h2=>?_) (fun h2=>?_))))))))))
 ·refine sr (tA (I 0) r0 (nn (rt (tR (fT (I 0) r0 ?_)))))
  exact⟨0,p+1,rfl,(by simp),(by omega),aE⟩
 refine sk (nN (sr (tm (pB rb) r0 (tn r0 (qt r0 (fa 1 Q0 r0) (qt r0 (lD (I ((p:Int)+1)) aE 0 r0 cN) (qt r0 (PR (a:=p+1) (b:=1) r0 r0 (by omega) (by omega)) (tA (I (((p+1)-1:Nat):Int)) r0 (nn (sq (sr (tm (I (((p+1)-1:Nat):Int)) r0 (tm (pB rb) r0 (tn r0 (qt r0 (fa 0 CT r0) (qt r0 (lD (mA Ab bs cb) aE 0 r0 tC) (qt r0 (dK (n:=bs.length) l9 r0) (qt r0 (lss (k:=.i64) (a:=(((p+1)-1:Nat):Int)) (b:=(bs.length:Int)) r0 r0) (nn (bI r0 (fun h3=>?_) (fun h3=>?_)))))))))))))))))))))
 ·refine sr (tm (pB rb) r0 (tn r0 (qt r0 (fa 0 CT r0) (qt r0 (lD (mA Ab bs cb) aE 0 r0 tC) (tm (I (((p+1)-1:Nat):Int)) r0 (gN ((p+1)-1) l9 r0 r0 hb (by omega) (eQ U 0 (by omega)) aH r0 (fun a1 eL=>?_)))))))
  refine qt r0 (eW (v:=.int .u8 (((bs.getD ((p+1)-1) 0).toNat:Nat):Int)) aE eL (fun _ h=>h) r0 r0 OO) (qt r0 (EV (a:=(((bs.getD ((p+1)-1) 0).toNat:Nat):Int)) (s:=.u8) tJ xB r0 (by have:=iL ((bs.getD ((p+1)-1) 0)); exact⟨by omega,by omega⟩)) (tm (I n) r0 (qt r0 (rem (a:=(((bs.getD ((p+1)-1) 0).toNat:Nat):Int)) (b:=n) r0 r0 (by have h1_:=iL (bs.getD ((p+1-1) % bs.length) 0); have h2_:=iL (bs.getD (((p+1-1)*7+3) % bs.length) 0); have h3_:=o0 (p+1-1) bs.length; omega) (by omega)) (tA (I ((((bs.getD ((p+1)-1) 0).toNat:Nat):Int) % n)) r0 (nn (rt (tR (fT (I ((((bs.getD ((p+1)-1) 0).toNat:Nat):Int) % n)) r0 ?_))))))))
  exact⟨(((bs.getD ((p+1)-1) 0).toNat:Nat):Int) % n,p+1,rfl,(YN (by omega)),(by omega),aE⟩
 refine sk (nN (sq (rq (fun w'=>SH w w' [rb] [.blk rb 57 [.slice Ab bs.length cb,I ((p:Int)+1)]]) mixed (by kernel_rfl) aE.drew (qA r0 (mv (v:=pB rb) r0) (qA r0 (nc r0) (qA r0 (fa 0 CT r0) (qB r0 (fun aU=>lD (mA Ab bs cb) aU 0 r0 tC) (qA r0 (mv (v:=I (((p+1)-1:Nat):Int)) r0) (qA r0 (mv (v:=pB rb) r0) (qA r0 (nc r0) (qA r0 (fa 0 CT r0) (qB r0 (fun aU=>lD (mA Ab bs cb) aU 0 r0 tC) (qA r0 (dK (n:=bs.length) l9 r0) (qA r0 (rem (a:=(((p+1)-1:Nat):Int)) (b:=(bs.length:Int)) r0 r0 (by have h1_:=iL (bs.getD ((p+1-1) % bs.length) 0); have h2_:=iL (bs.getD (((p+1-1)*7+3) % bs.length) 0); have h3_:=o0 (p+1-1) bs.length; omega) (by omega)) (qL (((p+1)-1) % bs.length) l9 r0 r0 hb (by exact Nat.mod_lt _ (by omega)) (eQ U 0 (by exact Nat.mod_lt _ (by omega))) aH r0 (fun a2 jG=>?_))))))))))))))))
 refine qB r0 (fun aU=>eW (v:=.int .u8 (((bs.getD (((p+1)-1) % bs.length) 0).toNat:Nat):Int)) aU jG (fun _ h=>h) r0 r0 OO) (qA r0 (EV (a:=(((bs.getD (((p+1)-1) % bs.length) 0).toNat:Nat):Int)) (s:=.u8) tJ xB r0 (by have:=iL ((bs.getD (((p+1)-1) % bs.length) 0)); exact⟨by omega,by omega⟩)) (qA r0 (mul (a:=(((bs.getD (((p+1)-1) % bs.length) 0).toNat:Nat):Int)) (b:=131) r0 r0 (by have h1_:=iL (bs.getD ((p+1-1) % bs.length) 0); have h2_:=iL (bs.getD (((p+1-1)*7+3) % bs.length) 0); have h3_:=o0 (p+1-1) bs.length; exact⟨by omega,by omega⟩)) (qA r0 (mv (v:=pB rb) r0) (qA r0 (nc r0) (qA r0 (fa 0 CT r0) (qB r0 (fun aU=>lD (mA Ab bs cb) aU 0 r0 tC) (qA r0 (mv (v:=I (((p+1)-1:Nat):Int)) r0) (qA r0 (mul (a:=(((p+1)-1:Nat):Int)) (b:=7) r0 r0 (by have h1_:=iL (bs.getD ((p+1-1) % bs.length) 0); have h2_:=iL (bs.getD (((p+1-1)*7+3) % bs.length) 0); have h3_:=o0 (p+1-1) bs.length; exact⟨by omega,by omega⟩)) (qA r0 (add (a:=(((p+1)-1:Nat):Int)*7) (b:=3) r0 r0 (by have h1_:=iL (bs.getD ((p+1-1) % bs.length) 0); have h2_:=iL (bs.getD (((p+1-1)*7+3) % bs.length) 0); have h3_:=o0 (p+1-1) bs.length; exact⟨by omega,by omega⟩)) (qA r0 (mv (v:=pB rb) r0) (qA r0 (nc r0) (qA r0 (fa 0 CT r0) (qB r0 (fun aU=>lD (mA Ab bs cb) aU 0 r0 tC) (qA r0 (dK (n:=bs.length) l9 r0) (qA r0 (rem (a:=((((p+1)-1:Nat):Int)*7)+3) (b:=(bs.length:Int)) r0 r0 (by have h1_:=iL (bs.getD ((p+1-1) % bs.length) 0); have h2_:=iL (bs.getD (((p+1-1)*7+3) % bs.length) 0); have h3_:=o0 (p+1-1) bs.length; omega) (by omega)) (qL (((((p+1)-1)*7)+3) % bs.length) l9 r0 r0 hb (by exact Nat.mod_lt _ (by omega)) (eQ U 0 (by exact Nat.mod_lt _ (by omega))) aH r0 (fun a3 nV=>?_)))))))))))))))))
 refine qB r0 (fun aU=>eW (v:=.int .u8 (((bs.getD (((((p+1)-1)*7)+3) % bs.length) 0).toNat:Nat):Int)) aU nV (fun _ h=>h) r0 r0 OO) (qA r0 (EV (a:=(((bs.getD (((((p+1)-1)*7)+3) % bs.length) 0).toNat:Nat):Int)) (s:=.u8) tJ xB r0 (by have:=iL ((bs.getD (((((p+1)-1)*7)+3) % bs.length) 0)); exact⟨by omega,by omega⟩)) (qA r0 (mul (a:=(((bs.getD (((((p+1)-1)*7)+3) % bs.length) 0).toNat:Nat):Int)) (b:=1117) r0 r0 (by have h1_:=iL (bs.getD ((p+1-1) % bs.length) 0); have h2_:=iL (bs.getD (((p+1-1)*7+3) % bs.length) 0); have h3_:=o0 (p+1-1) bs.length; exact⟨by omega,by omega⟩)) (qA r0 (add (a:=(((bs.getD (((p+1)-1) % bs.length) 0).toNat:Nat):Int)*131) (b:=(((bs.getD (((((p+1)-1)*7)+3) % bs.length) 0).toNat:Nat):Int)*1117) r0 r0 (by have h1_:=iL (bs.getD ((p+1-1) % bs.length) 0); have h2_:=iL (bs.getD (((p+1-1)*7+3) % bs.length) 0); have h3_:=o0 (p+1-1) bs.length; exact⟨by omega,by omega⟩)) (qA r0 (mv (v:=I (((p+1)-1:Nat):Int)) r0) (qA r0 (mul (a:=(((p+1)-1:Nat):Int)) (b:=29) r0 r0 (by have h1_:=iL (bs.getD ((p+1-1) % bs.length) 0); have h2_:=iL (bs.getD (((p+1-1)*7+3) % bs.length) 0); have h3_:=o0 (p+1-1) bs.length; exact⟨by omega,by omega⟩)) (qA r0 (add (a:=((((bs.getD (((p+1)-1) % bs.length) 0).toNat:Nat):Int)*131)+((((bs.getD (((((p+1)-1)*7)+3) % bs.length) 0).toNat:Nat):Int)*1117)) (b:=(((p+1)-1:Nat):Int)*29) r0 r0 (by have h1_:=iL (bs.getD ((p+1-1) % bs.length) 0); have h2_:=iL (bs.getD (((p+1-1)*7+3) % bs.length) 0); have h3_:=o0 (p+1-1) bs.length; exact⟨by omega,by omega⟩)) (qA r0 (mv (v:=I (((p+1)-1:Nat):Int)) r0) (qA r0 (mv (v:=pB rb) r0) (qA r0 (nc r0) (qA r0 (fa 0 CT r0) (qB r0 (fun aU=>lD (mA Ab bs cb) aU 0 r0 tC) (qA r0 (dK (n:=bs.length) l9 r0) (qA r0 (quo (a:=(((p+1)-1:Nat):Int)) (b:=(bs.length:Int)) r0 r0 (by have h1_:=iL (bs.getD ((p+1-1) % bs.length) 0); have h2_:=iL (bs.getD (((p+1-1)*7+3) % bs.length) 0); have h3_:=o0 (p+1-1) bs.length; omega) (by have h1_:=iL (bs.getD ((p+1-1) % bs.length) 0); have h2_:=iL (bs.getD (((p+1-1)*7+3) % bs.length) 0); have h3_:=o0 (p+1-1) bs.length; omega) (by have h1_:=iL (bs.getD ((p+1-1) % bs.length) 0); have h2_:=iL (bs.getD (((p+1-1)*7+3) % bs.length) 0); have h3_:=o0 (p+1-1) bs.length; omega)) (qA r0 (mul (a:=(((p+1)-1:Nat):Int) / (bs.length:Int)) (b:=53) r0 r0 (by have h1_:=iL (bs.getD ((p+1-1) % bs.length) 0); have h2_:=iL (bs.getD (((p+1-1)*7+3) % bs.length) 0); have h3_:=o0 (p+1-1) bs.length; exact⟨by omega,by omega⟩)) (qA r0 (add (a:=(((((bs.getD (((p+1)-1) % bs.length) 0).toNat:Nat):Int)*131)+((((bs.getD (((((p+1)-1)*7)+3) % bs.length) 0).toNat:Nat):Int)*1117))+((((p+1)-1:Nat):Int)*29)) (b:=((((p+1)-1:Nat):Int) / (bs.length:Int))*53) r0 r0 (by have h1_:=iL (bs.getD ((p+1-1) % bs.length) 0); have h2_:=iL (bs.getD (((p+1-1)*7+3) % bs.length) 0); have h3_:=o0 (p+1-1) bs.length; exact⟨by omega,by omega⟩)) ?_)))))))))))))))
 refine qA r0 (fW (v:=I (((((((bs.getD (((p+1)-1) % bs.length) 0).toNat:Nat):Int)*131)+((((bs.getD (((((p+1)-1)*7)+3) % bs.length) 0).toNat:Nat):Int)*1117))+((((p+1)-1:Nat):Int)*29))+(((((p+1)-1:Nat):Int) / (bs.length:Int))*53))) r0) (qn (fun w2 aI=>?_))
 refine nN (sr (tm (I (((((((bs.getD (((p+1)-1) % bs.length) 0).toNat:Nat):Int)*131)+((((bs.getD (((((p+1)-1)*7)+3) % bs.length) 0).toNat:Nat):Int)*1117))+((((p+1)-1:Nat):Int)*29))+(((((p+1)-1:Nat):Int) / (bs.length:Int))*53))) r0 (tm (I (((((((bs.getD (((p+1)-1) % bs.length) 0).toNat:Nat):Int)*131)+((((bs.getD (((((p+1)-1)*7)+3) % bs.length) 0).toNat:Nat):Int)*1117))+((((p+1)-1:Nat):Int)*29))+(((((p+1)-1:Nat):Int) / (bs.length:Int))*53))) r0 (qt r0 (quo (a:=((((((bs.getD (((p+1)-1) % bs.length) 0).toNat:Nat):Int)*131)+((((bs.getD (((((p+1)-1)*7)+3) % bs.length) 0).toNat:Nat):Int)*1117))+((((p+1)-1:Nat):Int)*29))+(((((p+1)-1:Nat):Int) / (bs.length:Int))*53)) (b:=64) r0 r0 (by have h1_:=iL (bs.getD ((p+1-1) % bs.length) 0); have h2_:=iL (bs.getD (((p+1-1)*7+3) % bs.length) 0); have h3_:=o0 (p+1-1) bs.length; omega) (by have h1_:=iL (bs.getD ((p+1-1) % bs.length) 0); have h2_:=iL (bs.getD (((p+1-1)*7+3) % bs.length) 0); have h3_:=o0 (p+1-1) bs.length; omega) (by have h1_:=iL (bs.getD ((p+1-1) % bs.length) 0); have h2_:=iL (bs.getD (((p+1-1)*7+3) % bs.length) 0); have h3_:=o0 (p+1-1) bs.length; omega)) (qt r0 (xr (a:=(((((bs.getD (((p+1)-1) % bs.length) 0).toNat)*131)+(((bs.getD (((((p+1)-1)*7)+3) % bs.length) 0).toNat)*1117))+(((p+1)-1)*29))+((((p+1)-1) / bs.length)*53)) (b:=((((((bs.getD (((p+1)-1) % bs.length) 0).toNat)*131)+(((bs.getD (((((p+1)-1)*7)+3) % bs.length) 0).toNat)*1117))+(((p+1)-1)*29))+((((p+1)-1) / bs.length)*53)) / 64) r0 r0 (by have h1_:=iL (bs.getD ((p+1-1) % bs.length) 0); have h2_:=iL (bs.getD (((p+1-1)*7+3) % bs.length) 0); have h3_:=o0 (p+1-1) bs.length; omega) (by have h1_:=iL (bs.getD ((p+1-1) % bs.length) 0); have h2_:=iL (bs.getD (((p+1-1)*7+3) % bs.length) 0); have h3_:=o0 (p+1-1) bs.length; omega)) (tA (I ((((((((bs.getD (((p+1)-1) % bs.length) 0).toNat)*131)+(((bs.getD (((((p+1)-1)*7)+3) % bs.length) 0).toNat)*1117))+(((p+1)-1)*29))+((((p+1)-1) / bs.length)*53)) ^^^ (((((((bs.getD (((p+1)-1) % bs.length) 0).toNat)*131)+(((bs.getD (((((p+1)-1)*7)+3) % bs.length) 0).toNat)*1117))+(((p+1)-1)*29))+((((p+1)-1) / bs.length)*53)) / 64):Nat):Int)) r0 ?_))))))
 refine nx (tm (I ((((((((bs.getD (((p+1)-1) % bs.length) 0).toNat)*131)+(((bs.getD (((((p+1)-1)*7)+3) % bs.length) 0).toNat)*1117))+(((p+1)-1)*29))+((((p+1)-1) / bs.length)*53)) ^^^ (((((((bs.getD (((p+1)-1) % bs.length) 0).toNat)*131)+(((bs.getD (((((p+1)-1)*7)+3) % bs.length) 0).toNat)*1117))+(((p+1)-1)*29))+((((p+1)-1) / bs.length)*53)) / 64):Nat):Int)) r0 (tm (I n) r0 (qt r0 (rem (a:=((((((((bs.getD (((p+1)-1) % bs.length) 0).toNat)*131)+(((bs.getD (((((p+1)-1)*7)+3) % bs.length) 0).toNat)*1117))+(((p+1)-1)*29))+((((p+1)-1) / bs.length)*53)) ^^^ (((((((bs.getD (((p+1)-1) % bs.length) 0).toNat)*131)+(((bs.getD (((((p+1)-1)*7)+3) % bs.length) 0).toNat)*1117))+(((p+1)-1)*29))+((((p+1)-1) / bs.length)*53)) / 64):Nat):Int)) (b:=n) r0 r0 (by have h1_:=iL (bs.getD ((p+1-1) % bs.length) 0); have h2_:=iL (bs.getD (((p+1-1)*7+3) % bs.length) 0); have h3_:=o0 (p+1-1) bs.length; omega) (by omega)) (tA (I (((((((((bs.getD (((p+1)-1) % bs.length) 0).toNat)*131)+(((bs.getD (((((p+1)-1)*7)+3) % bs.length) 0).toNat)*1117))+(((p+1)-1)*29))+((((p+1)-1) / bs.length)*53)) ^^^ (((((((bs.getD (((p+1)-1) % bs.length) 0).toNat)*131)+(((bs.getD (((((p+1)-1)*7)+3) % bs.length) 0).toNat)*1117))+(((p+1)-1)*29))+((((p+1)-1) / bs.length)*53)) / 64):Nat):Int) % n)) r0 ?_))))
 refine nn (rt (fT (I (((((((((bs.getD (((p+1)-1) % bs.length) 0).toNat)*131)+(((bs.getD (((((p+1)-1)*7)+3) % bs.length) 0).toNat)*1117))+(((p+1)-1)*29))+((((p+1)-1) / bs.length)*53)) ^^^ (((((((bs.getD (((p+1)-1) % bs.length) 0).toNat)*131)+(((bs.getD (((((p+1)-1)*7)+3) % bs.length) 0).toNat)*1117))+(((p+1)-1)*29))+((((p+1)-1) / bs.length)*53)) / 64):Nat):Int) % n)) r0 ?_))
 exact⟨((((((((bs.getD (((p+1)-1) % bs.length) 0).toNat)*131)+(((bs.getD (((((p+1)-1)*7)+3) % bs.length) 0).toNat)*1117))+(((p+1)-1)*29))+((((p+1)-1) / bs.length)*53)) ^^^ (((((((bs.getD (((p+1)-1) % bs.length) 0).toNat)*131)+(((bs.getD (((((p+1)-1)*7)+3) % bs.length) 0).toNat)*1117))+(((p+1)-1)*29))+((((p+1)-1) / bs.length)*53)) / 64):Nat):Int) % n,p+1,rfl,(YN (by omega)),(by omega),aI⟩
theorem Ng {Acs:aM} {ccs:Nat} (cs:aD) (w:World) (hcs:Sl w [] 1 Acs cs.length ccs (cs.map U)):bF prog 16 [.slice Acs cs.length ccs] w (fun v w'=>∃ gr:Nat,v=.pointer (some ⟨gr,0,none⟩)∧SH w w' [] [.blk gr 57 [.slice Acs ((cs.take 2000).length) ccs,I 0]]):=by
 refine fQ 11 func16 r0 r0 ?_
 have aK:=SH.refl w []
 have BD:cs.length≤9223372036854775807:=cB hcs.cap hcs.cO
 refine sr (tA (.pointer none) r0 (nn (sq (sr (tm (mA Acs cs ccs) r0 (qt r0 (dK l9 r0) (qt r0 (gtr r0 r0) (nn (bI r0 (fun h1=>?_) (fun h1=>?_))))))))))
 ·refine rg (tm (mA Acs cs ccs) r0 (qt r0 (JU (zs:=cs) 2000 l9 r0 r0 (by omega) hcs.cap) (tA (.slice Acs ((cs.take 2000).length) ccs) r0 (nx (tm (.slice Acs ((cs.take 2000).length) ccs) r0 (qt r0 (bQ (v:=.agg #[.slice Acs ((cs.take 2000).length) ccs,I 0]) [(0,.slice Acs ((cs.take 2000).length) ccs)] r0) (bx (v:=.agg #[.slice Acs ((cs.take 2000).length) ccs,I 0]) (cs:=[.slice Acs ((cs.take 2000).length) ccs,I 0]) aK r0 r0 aH r0 (fun b1 w1 aE=>tA (pB b1) r0 (nn (rt (fT (pB b1) r0 ?_)))))))))))
  exact⟨b1,rfl,aE⟩
 refine sk (nN (sr (tm (mA Acs cs ccs) r0 (qt r0 (bQ (v:=.agg #[.slice Acs cs.length ccs,I 0]) [(0,.slice Acs cs.length ccs)] r0) (bx (v:=.agg #[.slice Acs cs.length ccs,I 0]) (cs:=[.slice Acs cs.length ccs,I 0]) aK r0 r0 aH r0 (fun b2 w2 aI=>tA (pB b2) r0 (nn (rt (fT (pB b2) r0 ?_)))))))))
 have e1:cs.length=(cs.take 2000).length:=by rw[lI (by omega)]
 exact⟨b2,rfl,(aI.cast (lc (aS (It.blk b2 57) (lc (eE r0 e1 r0) (lc r0 r0))) r0))⟩
theorem KX {rb:Nat} {Ab:aM} {cb:Nat} {bs:aD} {p:Nat} {Ass:aM} {css:Nat} (ss:List aD) (w:World) (hr:w.heap[rb]?=some (.cells [.slice Ab bs.length cb,.int .i64 (p:Int)].toArray 57 (0,0))) (hb:Sl w [rb] 1 Ab bs.length cb (bs.map U)) (hbn:bs.length≤2000) (hp:p≤549755813888) (hss:Sl w [rb] 1 Ass ss.length css (ss.map aA)) (hne:0<ss.length):bF prog 29 [pB rb,.slice Ass ss.length css] w (fun v w'=>∃ s:aD,∃ q:Nat,v=aA s∧(s∈ss)∧(q≤p+1)∧SH w w' [rb] [.blk rb 57 [.slice Ab bs.length cb,I (q:Int)]]):=by
 refine fQ 12 func29 r0 r0 ?_
 have aK:=SH.rS hr
 have Zg:ss.length≤9223372036854775807:=cB hss.cap hss.cO
 refine sr (tA (aA []) r0 (nx (tm (.slice Ass ss.length css) r0 (tm (pB rb) r0 (tm (.slice Ass ss.length css) r0 (qt r0 (dK fZ r0) (cL r0 (pick (rb:=rb) (Ab:=Ab) (cb:=cb) (bs:=bs) (p:=p) (n:=(ss.length:Int)) (w:=_) (hr:=(gM aK 0 r0)) (hb:=(hb.up aK (fun _ h=>h) (fun _ h=>.inl h))) (hbn:=‹_›) (hp:=(by omega))) ?_)))))))
 rintro _ w1 ⟨r1,q1,rfl,p1,p2,aE⟩
 replace aE:=aK.xR 0 r0 aE x7
 refine gN r1.toNat fZ r0 (jK (x:=r1) (by omega)) hss (by omega) (eQ aA [] (by omega)) aH r0 (fun a1 eL=>qt r0 (eW aE eL (fun _ h=>h) r0 r0 eC) (tA (aA (ss.getD r1.toNat [])) r0 (nn (rt (fT (aA (ss.getD r1.toNat [])) r0 ?_)))))
 exact⟨ss.getD r1.toNat [],q1,rfl,(Jk (by omega)),(by omega),aE⟩
theorem Gy {bb:Nat} {Abb:aM} {cbb nbb:Nat} (w:World) (hbd:w.heap[bb]?=some (.cells [.pointer none,.slice Abb nbb cbb].toArray 41 (0,0))):bF prog 35 [pB bb] w (fun v w'=>v=.tuple #[]∧SH w w' [bb] [.blk bb 41 [pB bb,.slice Abb nbb cbb]]):=by
 refine fQ 20 func35 r0 r0 ?_
 have aK:=SH.rS hbd
 refine sr (tm (pB bb) r0 (tn r0 (qt r0 (fa 0 M6 r0) (qt r0 (lD (.pointer none) aK 0 r0 ON) (qt r0 (Rg LA r0 r0) (nl (nN (fX r0 (rg (tm (pB bb) r0 (tm (pB bb) r0 (qt r0 (Yc aK 0 r0 LA Dk T0 (by simp) r0) (qt r0 (Qc (v:=pB bb) func65 (by kernel_rfl) r0 (by kernel_rfl) (by kernel_rfl) r0) (qt r0 (Ji aK 0 r0 Dk LA T0 (by kernel_rfl) r0) (tn r0 (qt r0 (fa 0 M6 r0) (sT (pB bb) aK 0 r0 ON (fun w1 aE=>nl (M4 (v:=.tuple #[]) .nil r0 ?_)))))))))))))))))))
 exact⟨rfl,aE⟩
theorem Gz {bb:Nat} {Abb:aM} {cbb nbb:Nat} (w:World) (hbd:w.heap[bb]?=some (.cells [.pointer (some ⟨bb,0,none⟩),.slice Abb nbb cbb].toArray 41 (0,0))):bF prog 35 [pB bb] w (fun v w'=>v=.tuple #[]∧SH w w' [bb] [.blk bb 41 [pB bb,.slice Abb nbb cbb]]):=by
 refine fQ 20 func35 r0 r0 ?_
 have aK:=SH.rS hbd
 refine sr (tm (pB bb) r0 (tn r0 (qt r0 (fa 0 M6 r0) (qt r0 (lD (pB bb) aK 0 r0 ON) (qt r0 (Rh LA r0 r0) (nl (nN (qV r0 (sr (tm (pB bb) r0 (tn r0 (qt r0 (fa 0 M6 r0) (qt r0 (lD (pB bb) aK 0 r0 ON) (tm (pB bb) r0 (qt r0 (Rf LA T0 r0 r0) (nn (qV r0 (sk (M4 (v:=.tuple #[]) .nil r0 ?_)))))))))))))))))))
 exact⟨rfl,aK⟩
theorem U4 {bb:Nat} {Abb:aM} {cbb nbb:Nat} {pb:aM} (w:World) (hbd:w.heap[bb]?=some (.cells [.pointer pb,.slice Abb nbb cbb].toArray 41 (0,0))) (hpb:pb=none∨pb=some ⟨bb,0,none⟩):bF prog 35 [pB bb] w (fun v w'=>v=.tuple #[]∧SH w w' [bb] [.blk bb 41 [pB bb,.slice Abb nbb cbb]]):=by
 rcases hpb with rfl | rfl
 ·exact Gy w hbd
 exact Gz w hbd
theorem Ed {bb:Nat} {pb:aM} {Abb:aM} {cbb:Nat} (l:aD) (c:UInt8) (w:World) (hbd:w.heap[bb]?=some (.cells [.pointer pb,.slice Abb l.length cbb].toArray 41 (0,0))) (hpb:pb=none∨pb=some ⟨bb,0,none⟩) (hbo:j6 w Abb l.length cbb 5 1 (l.map U)) (hbx: ∀ k,(It.own Abb l.length cbb 5 1 (l.map U)).has k→ ¬ (It.blk bb 41 [.pointer pb,.slice Abb l.length cbb]).has k) (hl:l.length≤1099511627776):bF prog 126 [pB bb,.int .u8 (c.toNat:Int)] w (fun v w'=>∃ Aor:aM,∃ cor:Nat,v=.nilIface∧SH w w' ([bb]++(dC Abb cbb++[])) [.blk bb 41 [pB bb,.slice Aor ((l++[c]).length) cor],.own Aor ((l++[c]).length) cor 5 1 ((l++[c]).map U)]):=by
 refine fQ 17 func126 r0 r0 ?_
 have aK:SH w w ([bb]++(dC Abb cbb++[])) [.blk bb 41 [.pointer pb,.slice Abb l.length cbb],.own Abb l.length cbb 5 1 (l.map U)]:=QV hbd hbo hbx
 refine sr (tA (.nilIface) r0 (nx (tm (pB bb) r0 (cL r0 (U4 _ (gM aK 0 r0) (‹_›)) ?_))))
 rintro _ w1 ⟨rfl,aE⟩
 replace aE:=aK.cK [0] [1] aE r0
 refine nx (tm (pB bb) r0 (tm (pB bb) r0 (tn r0 (qt r0 (fa 1 CS r0) (qt r0 (lD (mA Abb l cbb) aE 1 r0 tC) (tm (.int .u8 (c.toNat:Int)) r0 (cR aE l9 [.int .u8 (c.toNat:Int)] [.int .u8 (c.toNat:Int)] aH r0 (fun b1 w2 aI=>gI (g:=U) (ys:=l) (zs:=([c]:aD)) aI 0 r0 l9 r0 r0 r0 (aI.cI 2 r0) (fun _=>rfl) (by unfold maxLen; (simp; omega)) (by(simp; omega)) aH r0 (fun A1 c1 w3 aN=>tn r0 (qt r0 (fa 1 CS r0) (sT (.slice A1 ((l++([c]:aD)).length) c1) aN 0 r0 tC (fun w4 aR=>nx (tA (.nilIface) r0 (nn (rt (fT (.nilIface) r0 ?_))))))))))))))))
 exact⟨A1,c1,rfl,(aR.pk [2,1] r0)⟩
theorem Fw {bb:Nat} {pb:aM} (w:World) (hbd:w.heap[bb]?=some (.cells [.pointer pb,.slice none 0 0].toArray 41 (0,0))):bF prog 25 [pB bb] w (fun v w'=>v=aA []∧SH w w' [bb] []):=by
 refine fQ 14 func25 r0 r0 ?_
 have aK:=SH.rS hbd
 refine sr (tA (aA []) r0 (nn (sq (ra (fun w'=>∃ L,SH w w' [bb] L∧(.blk bb 41 [.pointer pb,ns])∈L∧True) mixed ?_))))
 have aE:=aK.drew
 refine tQ (fuel:=2) (is:=[0,1,2,3,4,5,6,7,8,9]) (.cons r0 (.cons r0 (.cons r0 (.cons r0 (.cons r0 (.cons r0 (.cons r0 (.cons r0 (.cons r0 (.cons r0 (.nil))))))))))) (m1 aE 0 r0) (yA r0 (mv (v:=pB bb) r0) (yA r0 (nc r0) (yA r0 (fa 1 CS r0) (yB r0 (fun ⟨Lq,aU,dH,_⟩=>lM ns aU dH r0 tC) (yA r0 (Ym r0) (yA r0 (mv (v:=pB bb) r0) (yA r0 (nc r0) (yA r0 (fa 1 CS r0) (yB r0 (fun ⟨Lq,aU,dH,_⟩=>lM ns aU dH r0 tC) (yA r0 (dK l9 r0) (.nil (a1 (i:=10) (by kernel_rfl) (eI r0 (qt r0 (Yp (p:=none) r0 r0) (nk (m1 aE 0 r0) (tQ (fuel:=0) (is:=[11]) (.cons r0 (.nil)) (m1 aE 0 r0) (yA r0 (fW (v:=aA []) r0) (.nil (aQ (nN (rt (fT (aA []) r0 ?_))))))))))))))))))))))
 exact⟨rfl,(aE.pk [] r0)⟩
theorem Fx {bb gb:Nat} {pb:aM} {cbb:Nat} (l:aD) (w:World) (hbd:w.heap[bb]?=some (.cells [.pointer pb,.slice (some ⟨gb,0,none⟩) l.length cbb].toArray 41 (0,0))) (hbo:j6 w (some ⟨gb,0,none⟩) l.length cbb 5 1 (l.map U)) (hbx: ∀ k,(It.own (some ⟨gb,0,none⟩) l.length cbb 5 1 (l.map U)).has k→ ¬ (It.blk bb 41 [.pointer pb,.slice (some ⟨gb,0,none⟩) l.length cbb]).has k) (hl0:0<l.length) (hlc:cbb≠0):bF prog 25 [pB bb] w (fun v w'=>v=aA l∧SH w w' ([bb]++(dC (some ⟨gb,0,none⟩) cbb++[])) []):=by
 refine fQ 14 func25 r0 r0 ?_
 have aK:SH w w ([bb]++(dC (Z7 gb) cbb++[])) [.blk bb 41 [.pointer pb,sb gb l.length cbb],.own (Z7 gb) l.length cbb 5 1 (l.map U)]:=QV hbd hbo hbx
 refine sr (tA (aA []) r0 (nn (sq (ra (fun w'=>∃ L,SH w w' ([bb]++(dC (Z7 gb) cbb++[])) L∧(.blk bb 41 [.pointer pb,sb gb l.length cbb])∈L∧True) mixed ?_))))
 have aE:=aK.drew
 refine tQ (fuel:=2) (is:=[0,1,2,3,4,5,6,7,8,9]) (.cons r0 (.cons r0 (.cons r0 (.cons r0 (.cons r0 (.cons r0 (.cons r0 (.cons r0 (.cons r0 (.cons r0 (.nil))))))))))) (m1 aE 0 r0) (yA r0 (mv (v:=pB bb) r0) (yA r0 (nc r0) (yA r0 (fa 1 CS r0) (yB r0 (fun ⟨Lq,aU,dH,_⟩=>lM (sb gb l.length cbb) aU dH r0 tC) (yA r0 (usd (a:=⟨gb,0,none⟩) r0 (by exact hlc)) (yA r0 (mv (v:=pB bb) r0) (yA r0 (nc r0) (yA r0 (fa 1 CS r0) (yB r0 (fun ⟨Lq,aU,dH,_⟩=>lM (sb gb l.length cbb) aU dH r0 tC) (yA r0 (dK l9 r0) (.nil (a1 (i:=10) (by kernel_rfl) (eI r0 (yR (l:=l) aE 1 r0 Ye (by kernel_rfl) r0 r0 (by omega) aH r0 (fun w1 aI=>nk (m1 aI 0 r0) (tQ (fuel:=0) (is:=[11]) (.cons r0 (.nil)) (m1 aI 0 r0) (yA r0 (fW (v:=aA l) r0) (.nil (aQ (nN (rt (fT (aA l) r0 ?_))))))))))))))))))))))
 exact⟨rfl,(aI.pk [] r0)⟩
theorem UQ {bb:Nat} {pb:aM} {Abb:aM} {cbb:Nat} (l:aD) (w:World) (hbd:w.heap[bb]?=some (.cells [.pointer pb,.slice Abb l.length cbb].toArray 41 (0,0))) (hpb:pb=none∨pb=some ⟨bb,0,none⟩) (hbo:j6 w Abb l.length cbb 5 1 (l.map U)) (hbx: ∀ k,(It.own Abb l.length cbb 5 1 (l.map U)).has k→ ¬ (It.blk bb 41 [.pointer pb,.slice Abb l.length cbb]).has k) (hA:l.length=0→Abb=none∧cbb=0):bF prog 25 [pB bb] w (fun v w'=>v=aA l∧SH w w' ([bb]++(dC Abb cbb++[])) []):=by
 rcases wI l.length with h0 | h0
 ·obtain ⟨rfl,rfl⟩:=hA h0
  have hl:l=[]:=vO h0
  subst hl
  exact(Fw w hbd).mono fun v w' h=>⟨h.1,h.2.Px (by intro k hk; simp at hk; subst hk; simp)⟩
 obtain ⟨gb,rfl⟩:=Qx hbo h0
 exact Fx l w hbd hbo hbx h0 (by have:=hbo.2.1; omega)
theorem XC {Axs:aM} {cxs:Nat} (xs:aC) (w:World) (hxs:Sl w [] 1 Axs xs.length cxs (xs.map I)):bF prog 76 [.slice Axs xs.length cxs] w (fun v w'=>v=aA (mX xs)∧SH w w' [] []):=by
 refine fE (N:=25) func76 r0 (by kernel_rfl) r0 ?_
 have aK:=SH.refl w []
 have KJ:xs.length≤9223372036854775807:=cB hxs.cap hxs.cO
 refine sr (tA (aA []) r0 (nn (sq (sr (tm (cD Axs xs cxs) r0 (cS aK r0 (H4 (Azs:=Axs) (czs:=cxs) (zs:=xs) (w:=_) (hzs:=(hxs.aP aK))) (fun w1 aE=>?_)))))))
 refine qt r0 (nt r0) (nn (cd r0 (fun h1=>?_) (fun h1=>?_)))
 ·have h2:=dX h1
  exact sr (tA (aA []) r0 (nn (rt (tR (fS r0 (by have h0:bJ xs=false:=(by simpa using h1); simp[mX,h0]) aE)))))
 have h3:=dY h1
 refine sk (nN (sr (al (v:=.agg #[.pointer none,ns]) (cs:=[.pointer none,ns]) aE Dm r0 aH r0 (fun b1 w2 aI=>?_))))
 refine nn (sq (sr (tm (cD Axs xs cxs) r0 (qt r0 (dK (n:=xs.length) aV r0) (tm (I 0) r0 (nn (bl ?_)))))))
 have aN:=aI.nl [MA] r0
 have hbz:bJ xs=true:=by simpa using h1
 have e2:([]:aD)=kT xs 0:=by rfl
 have e3:([]:aD).length=(kT xs 0).length:=by rw[e2]
 refine lp (σ:=(aM)×Nat×(aM)×Nat) (fun⟨Ab_,cb_,pb_,k⟩ f w'=>Hz f [(3,pB b1),(9,.slice Axs xs.length cxs),(10,I (xs.length:Int)),(11,I (k:Int))]∧(k≤xs.length)∧(pb_=none∨pb_=some ⟨b1,0,none⟩)∧(k=0→Ab_=none∧cb_=0)∧SH w w' [] [.blk b1 41 [.pointer pb_,.slice Ab_ ((kT xs k).length) cb_],.own Ab_ ((kT xs k).length) cb_ 5 1 ((kT xs k).map U)]) (fun⟨Ab_,cb_,pb_,k⟩=>xs.length-k) (none,0,none,0) ⟨(zR r0),(by simp),(.inl r0),(fun _=>⟨rfl,rfl⟩),(aN.cast (lc (aS (It.blk b1 41) (lc r0 (lc (eE r0 e3 r0) r0))) (lc (dZ (g:=U) r0 e3 r0 e2) r0)))⟩ ?_
 rintro ⟨Ab_,cb_,pb_,k⟩ f w3 ⟨⟨g1,rfl⟩,hk,WV,hA,aR⟩
 refine sr (qt r0 (lss (k:=.i64) (a:=(k:Int)) (b:=(xs.length:Int)) r0 r0) (nn (sq (bI r0 (fun h4=>?_) (fun h4=>?_)))))
 ·refine sk (nN (sq (bl (sr (gN k aV r0 r0 hxs (by omega) (eQ I 0 (by omega)) aH r0 (fun a1 eL=>?_))))))
  refine qt r0 (eW (v:=I (xs.getD k 0)) aR eL (fun _ h=>h) r0 r0 cN) (tA (I (xs.getD k 0)) r0 (nx (tm (I (xs.getD k 0)) r0 (qt r0 (quo (a:=xs.getD k 0) (b:=16) r0 r0 (by have hy:=jT hbz (k:=k) (by omega); omega) (by have hy:=jT hbz (k:=k) (by omega); omega) (by have hy:=jT hbz (k:=k) (by omega); omega)) (qt r0 (l5 (l:=eN) (((xs.getD k 0) / 16).toNat) dI r0 (jK (x:=(xs.getD k 0) / 16) (by have hy:=jT hbz (k:=k) (by omega); omega)) (by have hy:=jT hbz (k:=k) (by omega); have:=sX; omega)) (cL r0 (Ed (bb:=b1) (pb:=pb_) (Abb:=Ab_) (cbb:=cb_) (l:=kT xs k) (c:=(eN.getD (((xs.getD k 0) / 16).toNat) 0)) (w:=_) (hbd:=(gM aR 0 r0)) (hpb:=(by assumption)) (hbo:=(sB aR 1 r0)) (hbx:=(uP aR 1 0 (by decide) r0 r0)) (hl:=(by have:=KC xs k; have:=hZ hbz; (try simp); omega))) ?_))))))
  rintro _ w4 ⟨I9,JR,rfl,aZ⟩
  replace aZ:=aR.cK [0,1] [] aZ r0
  refine nn (rg (tm (I (xs.getD k 0)) r0 (qt r0 (rem (a:=xs.getD k 0) (b:=16) r0 r0 (by have hy:=jT hbz (k:=k) (by omega); omega) (by have hy:=jT hbz (k:=k) (by omega); omega)) (qt r0 (l5 (l:=eN) (((xs.getD k 0) % 16).toNat) dI r0 (jK (x:=(xs.getD k 0) % 16) (by have hy:=jT hbz (k:=k) (by omega); omega)) (by have hy:=jT hbz (k:=k) (by omega); have:=sX; omega)) (cL r0 (Ed (bb:=b1) (pb:=(Z7 b1)) (Abb:=I9) (cbb:=JR) (l:=(kT xs k)++[(eN.getD (((xs.getD k 0) / 16).toNat) 0)]) (c:=(eN.getD (((xs.getD k 0) % 16).toNat) 0)) (w:=_) (hbd:=(gM aZ 0 r0)) (hpb:=(.inr r0)) (hbo:=(sB aZ 1 r0)) (hbx:=(uP aZ 1 0 (by decide) r0 r0)) (hl:=(by have:=KC xs k; have:=hZ hbz; (try simp); omega))) ?_)))))
  rintro _ w5 ⟨GO,HK,rfl,bG⟩
  replace bG:=aZ.cK [0,1] [] bG r0
  refine nl (bN (nN (rg (qt r0 (add (a:=(k:Int)) (b:=1) r0 r0 (by exact⟨by omega,by omega⟩)) (tm (I ((k:Int)+1)) r0 (nn ?_))))))
  have e4:((kT xs k)++[(eN.getD (((xs.getD k 0) / 16).toNat) 0)])++[(eN.getD (((xs.getD k 0) % 16).toNat) 0)]=kT xs (k+1):=by exact WR hbz (by omega)
  have e5:(((kT xs k)++[(eN.getD (((xs.getD k 0) / 16).toNat) 0)])++[(eN.getD (((xs.getD k 0) % 16).toNat) 0)]).length=(kT xs (k+1)).length:=by rw[e4]
  refine⟨(GO,HK,(Z7 b1),k+1),⟨(zR r0),(by omega),(.inr r0),(fun h=>by omega),(bG.cast (lc (aS (It.blk b1 41) (lc r0 (lc (eE r0 e5 r0) r0))) (lc (dZ (g:=U) r0 e5 r0 e4) r0)))⟩,?_⟩
  show xs.length-(k+1)<xs.length-k
  omega
 refine ex (tE (tE (bE (nN (sr (cL r0 (UQ (bb:=b1) (pb:=pb_) (Abb:=Ab_) (cbb:=cb_) (l:=kT xs k) (w:=_) (hbd:=(gM aR 0 r0)) (hpb:=(by assumption)) (hbo:=(sB aR 1 r0)) (hbx:=(uP aR 1 0 (by decide) r0 r0)) (hA:=(by intro h0; rw[WO hbz k hk]at h0; exact hA (by omega)))) ?_))))))
 rintro _ w6 ⟨rfl,bU⟩
 replace bU:=aR.cK [0,1] [] bU r0
 refine tA (aA (kT xs k)) r0 (nn (rt (fT (aA (kT xs k)) r0 ?_)))
 have e6:(kT xs k)=mX xs:=by have h0:k=xs.length:=(by omega); subst h0; rw[mX,cF hbz]
 exact⟨(aS (aA) e6),bU⟩
theorem XE (c:UInt8) (w:World):bF prog 204 [.int .u8 (c.toNat:Int)] w (fun v w'=>v=.bool (decide (97≤(c.toNat:Int)∧(c.toNat:Int)≤122))∧SH w w' [] []):=by
 refine fQ 9 func204 r0 r0 ?_
 have aK:=SH.refl w []
 refine sr (tA (.bool false) r0 (nx (tm (.int .u8 (c.toNat:Int)) r0 (qt r0 (geq r0 r0) (tm (.bool (decide ((97:Int)≤(c.toNat:Int)))) r0 (fF 5 r0 (fun h1=>?_) (fun h1=>?_)))))))
 ·refine qh r0 (mv (v:=.int .u8 (c.toNat:Int)) r0) (qh r0 (leq r0 r0) (qt r0 (pt (v:=.bool (decide ((c.toNat:Int)≤122))) r0 r0) (tA (.bool (decide ((c.toNat:Int)≤122))) r0 (nn (rt (fT (.bool (decide ((c.toNat:Int)≤122))) r0 ?_))))))
  have e1:(decide ((c.toNat:Int)≤122))=(decide (97≤(c.toNat:Int)∧(c.toNat:Int)≤122)):=by simp[h1]
  exact⟨(aS (Value.bool) e1),aK⟩
 refine bA r0 (bA r0 (qt r0 (pf (v:=.bool false) r0 r0) (tA (.bool false) r0 (nn (rt (fT (.bool false) r0 ?_))))))
 have e2:false=(decide (97≤(c.toNat:Int)∧(c.toNat:Int)≤122)):=by simp[h1]
 exact⟨(aS (Value.bool) e2),aK⟩
theorem Lk (c:UInt8) (w:World):bF prog 205 [.int .u8 (c.toNat:Int)] w (fun v w'=>v=.bool (decide (48≤(c.toNat:Int)∧(c.toNat:Int)≤57))∧SH w w' [] []):=by
 refine fQ 9 func205 r0 r0 ?_
 have aK:=SH.refl w []
 refine sr (tA (.bool false) r0 (nx (tm (.int .u8 (c.toNat:Int)) r0 (qt r0 (geq r0 r0) (tm (.bool (decide ((48:Int)≤(c.toNat:Int)))) r0 (fF 5 r0 (fun h1=>?_) (fun h1=>?_)))))))
 ·refine qh r0 (mv (v:=.int .u8 (c.toNat:Int)) r0) (qh r0 (leq r0 r0) (qt r0 (pt (v:=.bool (decide ((c.toNat:Int)≤57))) r0 r0) (tA (.bool (decide ((c.toNat:Int)≤57))) r0 (nn (rt (fT (.bool (decide ((c.toNat:Int)≤57))) r0 ?_))))))
  have e1:(decide ((c.toNat:Int)≤57))=(decide (48≤(c.toNat:Int)∧(c.toNat:Int)≤57)):=by simp[h1]
  exact⟨(aS (Value.bool) e1),aK⟩
 refine bA r0 (bA r0 (qt r0 (pf (v:=.bool false) r0 r0) (tA (.bool false) r0 (nn (rt (fT (.bool false) r0 ?_))))))
 have e2:false=(decide (48≤(c.toNat:Int)∧(c.toNat:Int)≤57)):=by simp[h1]
 exact⟨(aS (Value.bool) e2),aK⟩
theorem Bd (c:UInt8) (w:World):bF prog 184 [.int .u8 (c.toNat:Int)] w (fun v w'=>v=.bool (nI c)∧SH w w' [] []):=by
 refine fQ 21 func184 r0 r0 ?_
 have aK:=SH.refl w []
 refine sr (tA (.bool false) r0 (nx (tm (.int .u8 (c.toNat:Int)) r0 (qt r0 (geq r0 r0) (tm (.bool (decide ((97:Int)≤(c.toNat:Int)))) r0 (fF 5 r0 (fun h1=>?_) (fun h1=>?_)))))))
 ·refine qh r0 (mv (v:=.int .u8 (c.toNat:Int)) r0) (qh r0 (leq r0 r0) (qt r0 (pt (v:=.bool (decide ((c.toNat:Int)≤122))) r0 r0) (tm (.bool (decide ((c.toNat:Int)≤122))) r0 (fF 9 r0 (fun h2=>?_) (fun h2=>?_)))))
  ·refine aT r0 (aT r0 (aT r0 (CW r0 r0 r0 r0 r0 (CW r0 r0 r0 r0 r0 (aT r0 (qt r0 (pt (v:=.bool true) r0 r0) (tm (.bool true) r0 (aT r0 (aT r0 (qt r0 (pt (v:=.bool true) r0 r0) (tA (.bool true) r0 (nn (rt (fT (.bool true) r0 ?_))))))))))))))
   have e1:true=nI c:=by simp only[nI]; (simp; omega)
   exact⟨(aS (Value.bool) e1),aK⟩
  refine qh r0 (mv (v:=.int .u8 (c.toNat:Int)) r0) (qh r0 (geq r0 r0) (qh r0 (mv (v:=.bool (decide ((48:Int)≤(c.toNat:Int)))) r0) (fF 12 r0 (fun h3=>?_) (fun h3=>?_))))
  ·refine qh r0 (mv (v:=.int .u8 (c.toNat:Int)) r0) (qh r0 (leq r0 r0) (qh r0 (pt (v:=.bool (decide ((c.toNat:Int)≤57))) r0 r0) (qt r0 (pf (v:=.bool (decide ((c.toNat:Int)≤57))) r0 r0) (tm (.bool (decide ((c.toNat:Int)≤57))) r0 (fF 17 r0 (fun h4=>?_) (fun h4=>?_))))))
   ·refine aT r0 (aT r0 (qt r0 (pt (v:=.bool true) r0 r0) (tA (.bool true) r0 (nn (rt (fT (.bool true) r0 ?_))))))
    have e2:true=nI c:=by simp only[nI]; (simp; omega)
    exact⟨(aS (Value.bool) e2),aK⟩
   refine qh r0 (mv (v:=.int .u8 (c.toNat:Int)) r0) (qh r0 (dO r0 r0) (qt r0 (pf (v:=.bool (decide ((c.toNat:Int)=45))) r0 r0) (tA (CE c) r0 (nn (rt (fT (CE c) r0 ?_))))))
   have e3:(decide ((c.toNat:Int)=45))=nI c:=by simp only[nI]; simp[h1,h2,h3,h4]
   exact⟨(aS (Value.bool) e3),aK⟩
  refine bA r0 (bA r0 (qh r0 (pf (v:=.bool false) r0 r0) (qt r0 (pf (v:=.bool false) r0 r0) (tm (.bool false) r0 (qh r0 (mv (v:=.int .u8 (c.toNat:Int)) r0) (qh r0 (dO r0 r0) (qt r0 (pf (v:=.bool (decide ((c.toNat:Int)=45))) r0 r0) (tA (CE c) r0 (nn (rt (fT (CE c) r0 ?_)))))))))))
  have e4:(decide ((c.toNat:Int)=45))=nI c:=by simp only[nI]; (simp; omega)
  exact⟨(aS (Value.bool) e4),aK⟩
 refine bA r0 (bA r0 (qt r0 (pf (v:=.bool false) r0 r0) (tm (.bool false) r0 (qh r0 (mv (v:=.int .u8 (c.toNat:Int)) r0) (qh r0 (geq r0 r0) (qh r0 (mv (v:=.bool (decide ((48:Int)≤(c.toNat:Int)))) r0) (fF 12 r0 (fun h5=>?_) (fun h5=>?_))))))))
 ·refine qh r0 (mv (v:=.int .u8 (c.toNat:Int)) r0) (qh r0 (leq r0 r0) (qh r0 (pt (v:=.bool (decide ((c.toNat:Int)≤57))) r0 r0) (qt r0 (pf (v:=.bool (decide ((c.toNat:Int)≤57))) r0 r0) (tm (.bool (decide ((c.toNat:Int)≤57))) r0 (fF 17 r0 (fun h6=>?_) (fun h6=>?_))))))
  ·refine aT r0 (aT r0 (qt r0 (pt (v:=.bool true) r0 r0) (tA (.bool true) r0 (nn (rt (fT (.bool true) r0 ?_))))))
   have e5:true=nI c:=by simp only[nI]; (simp; omega)
   exact⟨(aS (Value.bool) e5),aK⟩
  refine qh r0 (mv (v:=.int .u8 (c.toNat:Int)) r0) (qh r0 (dO r0 r0) (qt r0 (pf (v:=.bool (decide ((c.toNat:Int)=45))) r0 r0) (tA (CE c) r0 (nn (rt (fT (CE c) r0 ?_))))))
  have e6:(decide ((c.toNat:Int)=45))=nI c:=by simp only[nI]; simp[h1,h5,h6]
  exact⟨(aS (Value.bool) e6),aK⟩
 refine bA r0 (bA r0 (qh r0 (pf (v:=.bool false) r0 r0) (qt r0 (pf (v:=.bool false) r0 r0) (tm (.bool false) r0 (qh r0 (mv (v:=.int .u8 (c.toNat:Int)) r0) (qh r0 (dO r0 r0) (qt r0 (pf (v:=.bool (decide ((c.toNat:Int)=45))) r0 r0) (tA (CE c) r0 (nn (rt (fT (CE c) r0 ?_)))))))))))
 have e7:(decide ((c.toNat:Int)=45))=nI c:=by simp only[nI]; simp[h1,h5]
 exact⟨(aS (Value.bool) e7),aK⟩
theorem XO (x:Int) (w:World):bF prog 155 [I x] w (fun v w'=>v=.bool (decide (0≤x∧x≤65535))∧SH w w' [] []):=by
 refine fQ 5 func155 r0 r0 ?_
 have aK:=SH.refl w []
 refine sr (tA (.bool false) r0 (nx (tm (I x) r0 (cS aK r0 (x4 _ 0 65535 _) (fun w1 aE=>tA (.bool (decide (0≤x∧x≤65535))) r0 (nn (rt (fT (.bool (decide (0≤x∧x≤65535))) r0 ?_))))))))
 exact⟨rfl,aE⟩
theorem W7 (l:aD) (m:aD) (w:World) (hl_n:l.length≤9223372036854775807):bF prog 151 [aA l,aA m] w (fun v w'=>v=.bool (l.all (lE m))∧SH w w' [] []):=by
 refine fQ 32 func151 r0 r0 ?_
 have aK:=SH.refl w []
 refine sr (tA (.bool false) r0 (nn (sq (sr (tm (aA l) r0 (qt r0 (gG dI r0) (tm (I 0) r0 (nn (bl (lp (σ:=Nat) (fun(k:Nat) f w'=>Hz f [(0,aA l),(1,aA m),(7,I (l.length:Int)),(8,I (k:Int))]∧(k≤l.length)∧((l.take k).all (lE m)=true)∧SH w w' [] []) (fun k=>l.length-k) 0 ⟨(zR r0),(by simp),(by simp),aK⟩ ?_))))))))))
 rintro k f w1 ⟨⟨g1,rfl⟩,hk,ha,aE⟩
 refine sr (qt r0 (lss r0 r0) (nn (sq (bI r0 (fun h1=>?_) (fun h1=>?_)))))
 ·refine sk (nN (sq (bl (sr (tm (I (k:Int)) r0 (tA (I (k:Int)) r0 (nx (tm (aA l) r0 (tm (I (k:Int)) r0 (qt r0 (l5 k dI r0 r0 (by omega)) (cS aE r0 (XE _ _) (fun w2 aI=>qt r0 (nd r0) (tm (.bool (decide (¬ (97≤(((l.getD k 0).toNat:Nat):Int)∧(((l.getD k 0).toNat:Nat):Int)≤122)))) r0 (fF 16 r0 (fun h2=>?_) (fun h2=>?_)))))))))))))))
  ·refine qh r0 (mv (v:=aA l) r0) (qh r0 (mv (v:=I (k:Int)) r0) (qh r0 (l5 k dI r0 r0 (by omega)) (cl ⟨_,rfl,rfl⟩ r0 (Lk _ _) ?_)))
   rintro _ w3 ⟨rfl,aN⟩
   replace aN:=aI.cJ aN
   refine qh r0 (nd r0) (qt r0 (pt (v:=.bool (decide (¬ (48≤(((l.getD k 0).toNat:Nat):Int)∧(((l.getD k 0).toNat:Nat):Int)≤57)))) r0 r0) (tm (.bool (decide (¬ (48≤(((l.getD k 0).toNat:Nat):Int)∧(((l.getD k 0).toNat:Nat):Int)≤57)))) r0 (fF 23 r0 (fun h3=>?_) (fun h3=>?_))))
   ·refine qh r0 (mv (v:=aA m) r0) (qh r0 (mv (v:=aA l) r0) (qh r0 (mv (v:=I (k:Int)) r0) (qh r0 (l5 k dI r0 r0 (by omega)) (cl ⟨_,rfl,rfl⟩ r0 (PO _ _ _) ?_))))
    rintro _ w4 ⟨rfl,aR⟩
    replace aR:=aN.cJ aR
    refine qh r0 (lss r0 r0) (qt r0 (pt (v:=.bool (decide ((cE m (l.getD k 0))<0))) r0 r0) (nn (bI r0 (fun h4=>?_) (fun h4=>?_))))
    ·exact sr (tA (.bool false) r0 (nn (rt (bR (tR (tR (bR (tR (fB r0 (by exact(CJ (d:=0) (k:=k) (by omega) (by simp only[lE,P5]; omega)).symm) aR)))))))))
    refine sk (bN (nN (rg (qt r0 (add r0 r0 (by exact⟨by omega,by omega⟩)) (tm (I ((k:Int)+1)) r0 (nn ?_))))))
    refine⟨(k+1),⟨(zR r0),(by omega),(wL (d:=0) (by omega) ha (by simp only[lE,kP]; omega)),aR⟩,?_⟩
    omega
   refine bA r0 (bA r0 (bA r0 (bA r0 (bA r0 (bA r0 (qt r0 (pf (v:=.bool false) r0 r0) (nl (nN (qV r0 (sk (bN (nN (rg (qt r0 (add r0 r0 (by exact⟨by omega,by omega⟩)) (tm (I ((k:Int)+1)) r0 (nn ?_))))))))))))))))
   refine⟨(k+1),⟨(zR r0),(by omega),(wL (d:=0) (by omega) ha (by simp only[lE,kP]; omega)),aN⟩,?_⟩
   omega
  refine bA r0 (bA r0 (bA r0 (bA r0 (bA r0 (qt r0 (pf (v:=.bool false) r0 r0) (tm (.bool false) r0 (bA r0 (bA r0 (bA r0 (bA r0 (bA r0 (bA r0 (qt r0 (pf (v:=.bool false) r0 r0) (nn (qV r0 (sk (bN (nN (rg (qt r0 (add r0 r0 (by exact⟨by omega,by omega⟩)) (tm (I ((k:Int)+1)) r0 (nl (nN ?_)))))))))))))))))))))))
  refine⟨(k+1),⟨(zR r0),(by omega),(wL (d:=0) (by omega) ha (by simp only[lE,kP]; omega)),aI⟩,?_⟩
  omega
 refine ex (tE (tE (bE (nN (sr (tA (.bool true) r0 (nn (rt (fT (.bool true) r0 ?_)))))))))
 have e2:true=l.all (lE m):=by exact(EI (by omega) ha).symm
 exact⟨(aS (Value.bool) e2),aE⟩
theorem TM {Axs:aM} {cxs:Nat} (xs:aC) (w:World) (hxs:Sl w [] 1 Axs xs.length cxs (xs.map I)) (RS:xs.length≤1099511627776):bF prog 52 [.slice Axs xs.length cxs] w (fun v w'=>∃ Ar:aM,∃ cr:Nat,v=.slice Ar xs.length cr∧SH w w' [] [.own Ar xs.length cr 3 1 (xs.map I)]):=by
 refine fQ 8 func52 r0 r0 ?_
 have aK:=SH.refl w []
 have KJ:xs.length≤9223372036854775807:=cB hxs.cap hxs.cO
 refine sr (tA ns r0 (nn (sq (sr (tm (cD Axs xs cxs) r0 (qt r0 (slnil (A:=Axs) aV r0 r0) (nn (bI r0 (fun h1=>?_) (fun h1=>?_)))))))))
 ·refine sr (tA ns r0 (nn (rt (tR (fT ns r0 ?_)))))
  have aE:=aK.nl [Z0] r0
  have e1:([]:aC)=xs:=by exact(Vn hxs ‹_›).symm
  have e2:=aS List.length e1
  exact⟨none,0,(eE r0 e2 r0),(aE.cast (lc (dZ (g:=I) r0 e2 r0 e1) r0))⟩
 refine sk (nN (sr (cR aK aV [] [] aH r0 (fun b1 w1 aI=>tm (cD Axs xs cxs) r0 (gI (g:=I) (ys:=([]:aC)) (zs:=xs) aI 0 r0 aV r0 r0 r0 (hxs.aP aI) (fun _=>rfl) (by unfold maxLen; (simp; omega)) (by(simp; omega)) aH r0 (fun A1 c1 w2 aN=>tA (.slice A1 xs.length c1) r0 (nn (rt (fT (.slice A1 xs.length c1) r0 ?_)))))))))
 exact⟨A1,c1,rfl,aN⟩
theorem Vg (n:Int) (w:World) (hn:0≤n∧n≤1099511627776):bF prog 162 [ns,I n] w (fun v w'=>∃ Ar:aM,∃ cr:Nat,v=.slice Ar ([]:aC).length cr∧SH w w' [] [.own Ar (([]:aC).length) cr 3 1 (([]:aC).map I)]):=by
 refine fQ 27 func162 r0 r0 ?_
 have aK:=SH.refl w []
 refine sr (tA ns r0 (nn (sq (sr (tm (I n) r0 (qt r0 (lss r0 r0) (nn (bI r0 (fun h1=>absurd h1 (by omega)) (fun h1=>sk (nN (sq (sr (tm (I n) r0 (tm ns r0 (qt r0 (X6 (c:=0) aV r0) (tm ns r0 (qt r0 (dK aV r0) (qt r0 (sub r0 r0 (by exact⟨by omega,by omega⟩)) (qt r0 (sub r0 r0 (by exact⟨by omega,by omega⟩)) (tA (I (n-((0:Int)-0))) r0 (nn (sq (rg (tm (I (n-((0:Int)-0))) r0 (qt r0 (gtr r0 r0) (nn (bI r0 (fun h2=>?_) (fun h2=>?_))))))))))))))))))))))))))))
 ·refine rg (tm ns r0 (tm ns r0 (qt r0 (X6 (c:=0) aV r0) (qt r0 (Hc aV r0 r0) (tm (I (n-((0:Int)-0))) r0 (Fl (g:=I) (zz:=0) (m:=(n-((0:Int)-0)).toNat) aK aV r0 xB r0 (jK (x:=n-((0:Int)-0)) (by omega)) (by omega) (by unfold maxLen; omega) (by omega) aH r0 (fun A1 c1 w1 aE=>tm ns r0 (qt r0 (dK aV r0) ?_))))))))
  have e1:((List.replicate ((n-((0:Int)-0)).toNat) (0:Int)).map I).take (0*1)=(zG n).map I:=by rfl
  have aI:SH w w1 [] [.own A1 0 c1 3 1 ((zG n).map I)]:=e1 ▸ SH.TV aE 0 (0) r0 (by omega)
  refine qt r0 (JT 0 aV r0 r0 (cB (by omega) (S5 aE 0 r0).1)) (tA (.slice A1 0 c1) r0 ?_)
  have e2:0=(zG n).length:=by rfl
  have aN:SH w w1 [] [.own A1 ((zG n).length) c1 3 1 ((zG n).map I)]:=(aI.cast (lc (dZ (g:=I) r0 e2 r0 r0) r0))
  refine re 0 (v:=.slice A1 ((zG n).length) c1) (show (.slice A1 0 c1:Value)=.slice A1 ((zG n).length) c1 from eE r0 e2 r0) (nx (tm (.slice A1 ((zG n).length) c1) r0 (tA (.slice A1 ((zG n).length) c1) r0 (nl (nN (rt (fT (.slice A1 ((zG n).length) c1) r0 ?_)))))))
  have e3:(List.replicate ((n-((0:Int)-0)).toNat) (0:Int)).take 0=([]:aC):=by rfl
  have e4:=aS List.length e3
  exact⟨A1,c1,(eE r0 e4 r0),(aN.cast (lc (dZ (g:=I) r0 e4 r0 e3) r0))⟩
 refine sk (nN (sr (tm ns r0 (tA ns r0 (nn (rt (fT ns r0 ?_)))))))
 have aR:=aK.nl [Z0] r0
 exact⟨none,0,rfl,aR⟩
theorem Uz {Ahs:aM} {chs:Nat} (hs:List Hd) (w:World) (hhs:Sl w [] 1 Ahs hs.length chs (hs.map hv)) (Kq: ∀ u∈hs,GP w [] u) (hct:(iK hs).length≤1099511627776):bF prog 112 [.slice Ahs hs.length chs] w (fun v w'=>∃ Ar:aM,∃ cr:Nat,v=.slice Ar (iK hs).length cr∧SH w w' [] [.own Ar ((iK hs).length) cr 3 1 ((iK hs).map I)]):=by
 refine fQ 36 func112 r0 r0 ?_
 have aK:=SH.refl w []
 have Zd:hs.length≤9223372036854775807:=cB hhs.cap hhs.cO
 refine sr (tA ns r0 (nx (tA (I 0) r0 (nn (sq (sr (tm (.slice Ahs hs.length chs) r0 (qt r0 (dK AG r0) (tm (I 0) r0 (nn (bl (lp (σ:=Nat) (fun(k:Nat) f w'=>Hz f [(0,.slice Ahs hs.length chs),(3,I ((iK (hs.take k)).length:Int)),(9,.slice Ahs hs.length chs),(10,I (hs.length:Int)),(11,I (k:Int))]∧(k≤hs.length)∧SH w w' [] []) (fun k=>hs.length-k) 0 ⟨(zH ⟨rfl,(show (I 0:Value)=I ((iK (hs.take 0)).length:Int) from aS (Value.int .i64) (by simp[iK])),rfl,rfl,rfl,aH⟩),(by simp),aK⟩ ?_))))))))))))
 rintro k f w1 ⟨⟨g1,rfl⟩,hk,aE⟩
 refine sr (qt r0 (lss r0 r0) (nn (sq (bI r0 (fun h1=>?_) (fun h1=>?_)))))
 ·refine sk (nN (sq (bl (sr (gN k AG r0 r0 hhs (by omega) (eQ hv gU (by omega)) aH r0 (fun a1 eL=>qt r0 (eW aE eL (fun _ h=>h) r0 r0 j4) (tA (L9 hs k) r0 (nx (tm (I ((iK (hs.take k)).length:Int)) r0 (tm (L9 hs k) r0 (qt r0 (dK aV r0) (qt r0 (add r0 r0 (by have hq:=MQ (l:=hs) (k:=k+1); rw[← JQ (by omega),bH]at hq; exact⟨by omega,by omega⟩)) (tA (I (((iK (hs.take k)).length:Int)+((((hs.getD k gU).xs).length:Nat):Int))) r0 (nx (tm (I (((iK (hs.take k)).length:Int)+((((hs.getD k gU).xs).length:Nat):Int))) r0 (qt r0 (lss r0 r0) (nn (bI r0 (fun h2=>absurd h2 (by omega)) (fun h2=>sk (bN (nN (rg (qt r0 (add r0 r0 (by exact⟨by omega,by omega⟩)) (tm (I ((k:Int)+1)) r0 (nn ?_)))))))))))))))))))))))))
  refine⟨(k+1),⟨(zH ⟨rfl,(show (I (((iK (hs.take k)).length:Int)+((((hs.getD k gU).xs).length:Nat):Int)):Value)=I ((iK (hs.take (k+1))).length:Int) from aS (Value.int .i64) (by rw[← JQ (by omega)]; simp)),rfl,rfl,rfl,aH⟩),(by omega),aE⟩,?_⟩
  omega
 refine ex (tE (tE (bE (nN (sr (tm (I ((iK (hs.take k)).length:Int)) r0 (dP aE r0 (Vg _ _ (by have hq:=MQ (l:=hs) (k:=k); omega)) (fun A1 c1 w2 aI=>tA (.slice A1 (([]:aC).length) c1) r0 (nn (sq (sr (tm (.slice Ahs hs.length chs) r0 (qt r0 (dK AG r0) (tm (I 0) r0 (nn (bl ?_))))))))))))))))
 have e1:([]:aC)=iK (hs.take 0):=by simp[iK]
 have e2:([]:aC).length=(iK (hs.take 0)).length:=by rw[e1]
 refine lp (σ:=(aM)×Nat×Nat) (fun⟨AO,AV,j⟩ f w'=>Hz f [(6,.slice AO ((iK (hs.take j)).length) AV),(25,.slice Ahs hs.length chs),(26,I (hs.length:Int)),(27,I (j:Int))]∧(j≤hs.length)∧SH w w' [] [.own AO ((iK (hs.take j)).length) AV 3 1 ((iK (hs.take j)).map I)]) (fun⟨AO,AV,j⟩=>hs.length-j) (A1,c1,0) ⟨(zH ⟨(show (.slice A1 (([]:aC).length) c1:Value)=.slice A1 ((iK (hs.take 0)).length) c1 from eE r0 e2 r0),rfl,rfl,rfl,aH⟩),(by simp),(aI.cast (lc (dZ (g:=I) r0 e2 r0 e1) r0))⟩ ?_
 rintro ⟨AO,AV,j⟩ f w3 ⟨⟨g2,rfl⟩,hj,aN⟩
 refine sr (qt r0 (lss r0 r0) (nn (sq (bI r0 (fun h3=>?_) (fun h3=>?_)))))
 ·refine sk (nN (sq (bl (sr (gN j AG r0 r0 hhs (by omega) (eQ hv gU (by omega)) aH r0 (fun a2 jG=>qt r0 (eW aN jG (fun _ h=>h) r0 r0 j4) (tA (L9 hs j) r0 (nn (rg (tm (.slice AO ((iK (hs.take j)).length) AV) r0 (tm (L9 hs j) r0 (gI (g:=I) (ys:=iK (hs.take j)) (zs:=(hs.getD j gU).xs) aN 0 r0 aV r0 r0 r0 (Sl.aP (Kq _ (CV (by omega))) aN) (fun _=>rfl) (by unfold maxLen; have hq:=MQ (l:=hs) (k:=j+1); rw[← JQ (by omega),bH]at hq; omega) (by have hq:=MQ (l:=hs) (k:=j+1); rw[← JQ (by omega),bH]at hq; omega) aH r0 (fun A2 c2 w4 aR=>tA (.slice A2 (((iK (hs.take j))++((hs.getD j gU).xs)).length) c2) r0 (nl (bN (nN (rg (qt r0 (add r0 r0 (by exact⟨by omega,by omega⟩)) (tm (I ((j:Int)+1)) r0 (nl (nN ?_)))))))))))))))))))))
  have e3:(iK (hs.take j))++((hs.getD j gU).xs)=iK (hs.take (j+1)):=by exact JQ (by omega)
  have e4:((iK (hs.take j))++((hs.getD j gU).xs)).length=(iK (hs.take (j+1))).length:=by rw[e3]
  refine⟨(A2,c2,j+1),⟨(zH ⟨(show (.slice A2 (((iK (hs.take j))++((hs.getD j gU).xs)).length) c2:Value)=.slice A2 ((iK (hs.take (j+1))).length) c2 from eE r0 e4 r0),rfl,rfl,rfl,aH⟩),(by omega),(aR.cast (lc (dZ (g:=I) r0 e4 r0 e3) r0))⟩,?_⟩
  show hs.length-(j+1)<hs.length-j
  omega
 refine ex (tE (tE (bE (nN (sr (tm (.slice AO ((iK (hs.take j)).length) AV) r0 (tA (.slice AO ((iK (hs.take j)).length) AV) r0 (nn (rt (fT (.slice AO ((iK (hs.take j)).length) AV) r0 ?_))))))))))
 have e5:iK (hs.take j)=iK hs:=by have:j=hs.length:=(by omega); subst this; simp
 have e6:=aS List.length e5
 exact⟨AO,AV,(eE r0 e6 r0),(aN.cast (lc (dZ (g:=I) r0 e6 r0 e5) r0))⟩
theorem Bw (l:aD) (c:UInt8) (w:World):bF prog 160 [aA l,aA [c]] w (fun v w'=>v=.int .i64 (cE l c)∧SH w w' [] []):=by
 refine fQ 143 func160 r0 r0 ?_
 have aK:=SH.refl w []
 refine sr (tA (I 0) r0 (nx (tm (aA [c]) r0 (qt r0 (gG dI r0) (tA (I (([c].length:Nat):Int)) r0 (nn (sq (bl (sr (tm (I (([c].length:Nat):Int)) r0 (qt r0 (dO r0 r0) (tm (.bool (decide ((([c].length:Nat):Int)=0))) r0 (fF 19 r0 (fun h1=>absurd h1 (by simp)) (fun h1=>qh r0 (mv (v:=aA [c]) r0) (qh r0 (mv (v:=aA l) r0) (qh r0 (eqs r0 r0) (qt r0 (pf (v:=.bool (decide ([c]=l))) r0 r0) (tA (.bool (decide ([c]=l))) r0 (nn (bI r0 (fun h2=>?_) (fun h2=>?_)))))))))))))))))))))
 ·exact sr (tA (I 0) r0 (nn (rt (bR (tR (fI r0 (by subst h2; exact(Mq c).symm) aK))))))
 refine sr (tm (I (([c].length:Nat):Int)) r0 (qt r0 (dO r0 r0) (tA (.bool (decide ((([c].length:Nat):Int)=1))) r0 (nn (bI r0 (fun h3=>?_) (fun h3=>absurd (by rfl) h3))))))
 exact sr (tm (aA l) r0 (tm (aA [c]) r0 (qt r0 (l5 0 dI r0 r0 (by omega)) (cS aK r0 (Bv _ ([c].getD 0 0) _) (fun w1 aE=>tA (I (cE l ([c].getD 0 0))) r0 (nn (rt (bR (tR (fI r0 (by rfl) aE))))))))))
theorem Wg (l:aD) (c:UInt8) (w:World):bF prog 106 [aA l,aA [c]] w (fun v w'=>v=.int .i64 (cE l c)∧SH w w' [] []):=by
 refine fQ 8 func106 r0 r0 ?_
 have aK:=SH.refl w []
 refine sr (tA (I 0) r0 (nx (tm (aA l) r0 (tm (aA [c]) r0 (cS aK r0 (Bw _ _ _) (fun w1 aE=>tA (I (cE l c)) r0 (nn (rt (fT (I (cE l c)) r0 ?_)))))))))
 exact⟨rfl,aE⟩
theorem Wc (l:aD) (c:UInt8) (w:World):bF prog 105 [aA l,aA [c]] w (fun v w'=>v=.int .i64 ((l.count c:Nat):Int)∧SH w w' [] []):=by
 refine fQ 34 func105 r0 r0 ?_
 have aK:=SH.refl w []
 refine sr (tA (I 0) r0 (nn (sq (sr (tm (aA [c]) r0 (qt r0 (gG dI r0) (qt r0 (dO r0 r0) (nn (bI r0 (fun h1=>absurd h1 (by simp)) (fun h1=>sk (nN (sq (sr (tm (aA [c]) r0 (qt r0 (gG dI r0) (qt r0 (dO r0 r0) (nn (bI r0 (fun h2=>?_) (fun h2=>absurd (by rfl) h2)))))))))))))))))))
 exact sr (tm (aA l) r0 (tm (aA [c]) r0 (qt r0 (l5 0 dI r0 r0 (by omega)) (qt r0 (Ha (l:=l) (c:=([c].getD 0 0)) func159 (by kernel_rfl) r0 (by kernel_rfl) (by kernel_rfl) r0 r0) (tA (I ((l.count ([c].getD 0 0):Nat):Int)) r0 (nl (nN (rt (tR (fI r0 (by rfl) aK))))))))))
theorem Jj (l:aD) (c:UInt8) (w:World) (hl_n:l.length≤1099511627776):bF prog 66 [aA l,aA [c],I 0,I (-1)] w (fun v w'=>∃ Ar:aM,∃ cr:Nat,v=.slice Ar (aB c l).length cr∧SH w w' [] [.own Ar ((aB c l).length) cr 9 1 ((aB c l).map aA)]):=by
 refine fQ 66 func66 r0 r0 ?_
 have aK:=SH.refl w []
 refine sr (tA ns r0 (nn (sq (sr (tm (I (-1)) r0 (qt r0 (dO r0 r0) (nn (bI r0 (fun h1=>absurd h1 (by decide)) (fun h1=>sk (nN (sq (sr (tm (aA [c]) r0 (qt r0 (eqs r0 r0) (nl (nN (bI r0 (fun h2=>absurd h2 (by simp)) (fun h2=>sk (nN (sq (sr (tm (I (-1)) r0 (qt r0 (lss r0 r0) (nl (nN (bI r0 (fun h3=>?_) (fun h3=>absurd (by decide) h3)))))))))))))))))))))))))))
 refine rg (tm (aA l) r0 (tm (aA [c]) r0 (cS aK r0 (Wc _ _ _) (fun w1 aE=>?_))))
 have rX:=oH c l
 have hcl:=pS (a:=c) (l:=l)
 refine qt r0 (add r0 r0 (by(exact⟨by omega,by omega⟩))) (tA (I (((l.count c:Nat):Int)+1)) r0 (nx (tm (I (((l.count c:Nat):Int)+1)) r0 (tm (aA l) r0 (qt r0 (gG dI r0) (qt r0 (add r0 r0 (by(exact⟨by omega,by omega⟩))) (qt r0 (Pw (a:=((l.count c:Nat):Int)+1) (b:=(l.length:Int)+1) r0 r0) (tA (I (min (((l.count c:Nat):Int)+1) ((l.length:Int)+1))) r0 (nx (tm (I (min (((l.count c:Nat):Int)+1) ((l.length:Int)+1))) r0 (DE (g:=aA) (z:=[]) (n:=(min (((l.count c:Nat):Int)+1) ((l.length:Int)+1)).toNat) aE fZ r0 (jK (x:=min (((l.count c:Nat):Int)+1) ((l.length:Int)+1)) (by omega)) (jK (x:=min (((l.count c:Nat):Int)+1) ((l.length:Int)+1)) (by omega)) (by omega) (by unfold maxLen; (omega)) aH r0 (fun b1 w2 aI=>tA (sb b1 ((List.replicate ((min (((l.count c:Nat):Int)+1) ((l.length:Int)+1)).toNat) ([]:aD)).length) ((min (((l.count c:Nat):Int)+1) ((l.length:Int)+1)).toNat)) r0 (nx (tm (I (min (((l.count c:Nat):Int)+1) ((l.length:Int)+1))) r0 (qt r0 (sub r0 r0 (by(exact⟨by omega,by omega⟩))) (tA (I ((min (((l.count c:Nat):Int)+1) ((l.length:Int)+1))-1)) r0 (nx (tA (I 0) r0 (nn (sq (bl ?_)))))))))))))))))))))
 have e1:List.replicate ((min (((l.count c:Nat):Int)+1) ((l.length:Int)+1)).toNat) ([]:aD)=(aB c l).take 0++List.replicate ((aB c l).length-0) ([]:aD):=by have rX:=oH c l; have hcl:=pS (a:=c) (l:=l); rw[show (min (((l.count c:Nat):Int)+1) ((l.length:Int)+1)).toNat=(aB c l).length by omega]; simp
 have e2:(List.replicate ((min (((l.count c:Nat):Int)+1) ((l.length:Int)+1)).toNat) ([]:aD)).length=(aB c l).length:=by(have rX:=oH c l; have hcl:=pS (a:=c) (l:=l); (simp; omega))
 refine lp (σ:=(aM)×Nat×Nat×(aD)) (fun⟨DX,nE,k,s⟩ f w'=>Hz f [(0,aA s),(1,aA [c]),(2,I 0),(3,I ((l.count c:Nat):Int)),(9,.slice DX ((aB c l).length) nE),(10,I (k:Int))]∧(k<(aB c l).length)∧(aB c s=(aB c l).drop k)∧(s.length≤l.length)∧SH w w' [] [.own DX ((aB c l).length) nE 9 1 (((aB c l).take k++List.replicate ((aB c l).length-k) ([]:aD)).map aA)]) (fun⟨DX,nE,k,s⟩=>l.length+1-k) ((Z7 b1),(min (((l.count c:Nat):Int)+1) ((l.length:Int)+1)).toNat,0,l) ⟨(zH ⟨rfl,rfl,rfl,(show (I ((min (((l.count c:Nat):Int)+1) ((l.length:Int)+1))-1):Value)=I ((l.count c:Nat):Int) from aS (Value.int .i64) (by omega)),(show (.slice (Z7 b1) ((List.replicate ((min (((l.count c:Nat):Int)+1) ((l.length:Int)+1)).toNat) ([]:aD)).length) ((min (((l.count c:Nat):Int)+1) ((l.length:Int)+1)).toNat):Value)=.slice (Z7 b1) ((aB c l).length) ((min (((l.count c:Nat):Int)+1) ((l.length:Int)+1)).toNat) from eE r0 e2 r0),rfl,aH⟩),(by omega),(by simp),(lA _),(aI.cast (lc (dZ (g:=aA) r0 e2 r0 e1) r0))⟩ ?_
 rintro ⟨DX,nE,k,s⟩ f w3 ⟨⟨g1,rfl⟩,hk,NN,hsn,aN⟩
 refine sq (sr (tm (I (k:Int)) r0 (tm (I ((l.count c:Nat):Int)) r0 (qt r0 (lss r0 r0) (nn (bI r0 (fun h4=>?_) (fun h4=>?_)))))))
 ·refine sk (nN (bl (sr (tm (aA s) r0 (tm (aA [c]) r0 (cS aN r0 (Wg _ _ _) (fun w4 aR=>tA (I (cE s c)) r0 (nn (sq (sr (tm (I (cE s c)) r0 (qt r0 (lss r0 r0) (nn (bI r0 (fun h5=>?_) (fun h5=>?_)))))))))))))))
  ·refine ex (tE (bX r0 (tE (bE (nN (sr (tm (.slice DX ((aB c l).length) nE) r0 (tm (I (k:Int)) r0 (tm (aA s) r0 ?_)))))))))
   obtain ⟨b2,rfl⟩:=sA aR 0 r0 (by omega)
   refine qt r0 (lR k fZ r0 r0 (by omega)) (DQ (g:=aA) (ys:=(aB c l).take k++List.replicate ((aB c l).length-k) ([]:aD)) (o:=k) (u:=s) aR 0 r0 r0 r0 r0 (by omega) r0 eC aH (fun w5 aZ=>nx (tm (sb b2 ((aB c l).length) nE) r0 (tm (I (k:Int)) r0 (qt r0 (add r0 r0 (by(exact⟨by omega,by omega⟩))) ?_)))))
   have e3:((((aB c l).take k++List.replicate ((aB c l).length-k) ([]:aD)).set k s).map aA).take ((k+1)*1)=((((aB c l).take k++List.replicate ((aB c l).length-k) ([]:aD)).set k s).take (k+1)).map aA:=by simp[List.map_take]
   have bG:SH w w5 [] [.own (Z7 b2) (k+1) nE 9 1 (((((aB c l).take k++List.replicate ((aB c l).length-k) ([]:aD)).set k s).take (k+1)).map aA)]:=e3 ▸ SH.TV aZ 0 (k+1) r0 (by omega)
   refine qt r0 (JT (k+1) fZ r0 r0 (cB (by omega) (S5 aZ 0 r0).1)) (tA (sb b2 (k+1) nE) r0 ?_)
   have e4:k+1=((((aB c l).take k++List.replicate ((aB c l).length-k) ([]:aD)).set k s).take (k+1)).length:=by((simp; omega))
   have bU:SH w w5 [] [.own (Z7 b2) (((((aB c l).take k++List.replicate ((aB c l).length-k) ([]:aD)).set k s).take (k+1)).length) nE 9 1 (((((aB c l).take k++List.replicate ((aB c l).length-k) ([]:aD)).set k s).take (k+1)).map aA)]:=(bG.cast (lc (dZ (g:=aA) r0 e4 r0 r0) r0))
   refine re 8 (v:=sb b2 (((((aB c l).take k++List.replicate ((aB c l).length-k) ([]:aD)).set k s).take (k+1)).length) nE) (show (sb b2 (k+1) nE:Value)=sb b2 (((((aB c l).take k++List.replicate ((aB c l).length-k) ([]:aD)).set k s).take (k+1)).length) nE from eE r0 e4 r0) (nn (rt (fT (sb b2 (((((aB c l).take k++List.replicate ((aB c l).length-k) ([]:aD)).set k s).take (k+1)).length) nE) r0 ?_)))
   have e5:(((aB c l).take k++List.replicate ((aB c l).length-k) ([]:aD)).set k s).take (k+1)=aB c l:=by exact Cb (Vz NN (by omega))
   have e6:=aS List.length e5
   exact⟨(Z7 b2),nE,(eE r0 e6 r0),(bU.cast (lc (dZ (g:=aA) r0 e6 r0 e5) r0))⟩
  refine sk (nN (sr (tm (.slice DX ((aB c l).length) nE) r0 (tm (I (k:Int)) r0 (tm (aA s) r0 (tm (I (cE s c)) r0 ?_))))))
  have rX:=oH c l
  have hcl:=pS (a:=c) (l:=l)
  have hib:=NW s c
  refine tm (I 0) r0 (qt r0 (add r0 r0 (by((try have e1:[c].length=1:=rfl); exact⟨by omega,by omega⟩))) (qt r0 (xU (l:=s) (((cE s c)+0).toNat) dI r0 (jK (x:=(cE s c)+0) (by omega)) (by((try have e1:[c].length=1:=rfl); omega))) ?_))
  obtain ⟨b3,rfl⟩:=sA aR 0 r0 (by omega)
  refine qt r0 (lR k fZ r0 r0 (by omega)) (DQ (g:=aA) (ys:=(aB c l).take k++List.replicate ((aB c l).length-k) ([]:aD)) (o:=k) (u:=s.take (((cE s c)+0).toNat)) aR 0 r0 r0 r0 r0 (by omega) r0 eC aH (fun w6 bV=>nx (tm (aA s) r0 (tm (I (cE s c)) r0 (tm (aA [c]) r0 (qt r0 (gG dI r0) (qt r0 (add r0 r0 (by((try have e1:[c].length=1:=rfl); exact⟨by omega,by omega⟩))) (qt r0 (CK (l:=s) (((cE s c)+(([c].length:Nat):Int)).toNat) dI r0 (jK (x:=(cE s c)+(([c].length:Nat):Int)) (by omega)) (by((try have e1:[c].length=1:=rfl); omega))) (tA (aA (s.drop (((cE s c)+(([c].length:Nat):Int)).toNat))) r0 (nn (rg (tm (I (k:Int)) r0 (qt r0 (add r0 r0 (by(exact⟨by omega,by omega⟩))) (tA (I ((k:Int)+1)) r0 (nl (bN (nN ?_)))))))))))))))))
  have e7:((aB c l).take k++List.replicate ((aB c l).length-k) ([]:aD)).set k (s.take (((cE s c)+0).toNat))=(aB c l).take (k+1)++List.replicate ((aB c l).length-(k+1)) ([]:aD):=by exact Cc (Cd NN (by omega) (by omega))
  refine⟨((Z7 b3),nE,k+1,(s.drop (((cE s c)+(([c].length:Nat):Int)).toNat))),⟨(zR r0),(by have h_:=oH c l; omega),(Vy NN (by omega) (by simp; omega)),(by simp; omega),(bV.cast (lc (dZ (g:=aA) r0 r0 r0 e7) r0))⟩,?_⟩
  show l.length+1-(k+1)<l.length+1-k
  (have hcl:=pS (a:=c) (l:=l); omega)
 refine ex (tE (tE (bE (nN (sr (tm (.slice DX ((aB c l).length) nE) r0 (tm (I (k:Int)) r0 (tm (aA s) r0 ?_))))))))
 obtain ⟨b4,rfl⟩:=sA aN 0 r0 (by omega)
 refine qt r0 (lR k fZ r0 r0 (by omega)) (DQ (g:=aA) (ys:=(aB c l).take k++List.replicate ((aB c l).length-k) ([]:aD)) (o:=k) (u:=s) aN 0 r0 r0 r0 r0 (by omega) r0 eC aH (fun w7 b9=>nx (tm (sb b4 ((aB c l).length) nE) r0 (tm (I (k:Int)) r0 (qt r0 (add r0 r0 (by(exact⟨by omega,by omega⟩))) ?_)))))
 have e8:((((aB c l).take k++List.replicate ((aB c l).length-k) ([]:aD)).set k s).map aA).take ((k+1)*1)=((((aB c l).take k++List.replicate ((aB c l).length-k) ([]:aD)).set k s).take (k+1)).map aA:=by simp[List.map_take]
 have cM:SH w w7 [] [.own (Z7 b4) (k+1) nE 9 1 (((((aB c l).take k++List.replicate ((aB c l).length-k) ([]:aD)).set k s).take (k+1)).map aA)]:=e8 ▸ SH.TV b9 0 (k+1) r0 (by omega)
 refine qt r0 (JT (k+1) fZ r0 r0 (cB (by omega) (S5 b9 0 r0).1)) (tA (sb b4 (k+1) nE) r0 ?_)
 have e9:k+1=((((aB c l).take k++List.replicate ((aB c l).length-k) ([]:aD)).set k s).take (k+1)).length:=by((simp; omega))
 have cW:SH w w7 [] [.own (Z7 b4) (((((aB c l).take k++List.replicate ((aB c l).length-k) ([]:aD)).set k s).take (k+1)).length) nE 9 1 (((((aB c l).take k++List.replicate ((aB c l).length-k) ([]:aD)).set k s).take (k+1)).map aA)]:=(cM.cast (lc (dZ (g:=aA) r0 e9 r0 r0) r0))
 refine re 8 (v:=sb b4 (((((aB c l).take k++List.replicate ((aB c l).length-k) ([]:aD)).set k s).take (k+1)).length) nE) (show (sb b4 (k+1) nE:Value)=sb b4 (((((aB c l).take k++List.replicate ((aB c l).length-k) ([]:aD)).set k s).take (k+1)).length) nE from eE r0 e9 r0) (nn (rt (fT (sb b4 (((((aB c l).take k++List.replicate ((aB c l).length-k) ([]:aD)).set k s).take (k+1)).length) nE) r0 ?_)))
 have lP:(((aB c l).take k++List.replicate ((aB c l).length-k) ([]:aD)).set k s).take (k+1)=aB c l:=by exact Cb (Vx NN hk (by omega))
 have mB:=aS List.length lP
 exact⟨(Z7 b4),nE,(eE r0 mB r0),(cW.cast (lc (dZ (g:=aA) r0 mB r0 lP) r0))⟩
theorem K4 (l:aD) (c:UInt8) (w:World) (hl_n:l.length≤1099511627776):bF prog 36 [aA l,aA [c]] w (fun v w'=>∃ Ar:aM,∃ cr:Nat,v=.slice Ar (aB c l).length cr∧SH w w' [] [.own Ar ((aB c l).length) cr 9 1 ((aB c l).map aA)]):=by
 refine fQ 8 func36 r0 r0 ?_
 have aK:=SH.refl w []
 refine sr (tA ns r0 (nx (tm (aA l) r0 (tm (aA [c]) r0 (dP aK r0 (Jj _ _ _ (by omega)) (fun A1 c1 w1 aE=>tA (.slice A1 ((aB c l).length) c1) r0 (nn (rt (fT (.slice A1 ((aB c l).length) c1) r0 ?_)))))))))
 exact⟨A1,c1,rfl,aE⟩
theorem H8 (l:aD) (c:UInt8) (w:World) (hl_n:l.length≤1099511627776):bF prog 43 [aA l,.int .u8 (c.toNat:Int)] w (fun v w'=>∃ Ar:aM,∃ cr:Nat,v=.slice Ar (aB c l).length cr∧SH w w' [] [.own Ar ((aB c l).length) cr 9 1 ((aB c l).map aA)]):=by
 refine fQ 35 func43 r0 r0 ?_
 have aK:=SH.refl w []
 refine sr (tA ns r0 (nx (cR aK fZ [] [] aH r0 (fun b1 w1 aE=>tA (sb b1 (([]:List aD).length) 0) r0 (nx (tA (I 0) r0 (nn (sq (sr (tA (I 0) r0 (nn (bl (lp (σ:=(aM)×Nat×Nat×Nat×(List aD)) (fun⟨iM,iG,i,a,zs⟩ f w'=>Hz f [(0,aA l),(1,.int .u8 (c.toNat:Int)),(5,.slice iM zs.length iG),(6,I (a:Int)),(7,I (i:Int))]∧(i≤l.length)∧(a≤i)∧(zs++aB c (l.drop a)=aB c l)∧(∀ j,a≤j→j<i→l.getD j 0≠c)∧SH w w' [] [.own iM zs.length iG 9 1 (zs.map aA)]) (fun⟨iM,iG,i,a,zs⟩=>l.length-i) ((Z7 b1),0,0,0,([]:List aD)) ⟨(zR r0),(by omega),(by omega),(by simp),(by intro j _ hj; omega),aE⟩ ?_)))))))))))))
 rintro ⟨iM,iG,i,a,zs⟩ f w2 ⟨⟨g1,rfl⟩,hi,ha,hz,hn,aI⟩
 refine sq (sr (tm (I (i:Int)) r0 (tm (aA l) r0 (qt r0 (gG dI r0) (qt r0 (lss r0 r0) (nl (nN (bI r0 (fun h1=>?_) (fun h1=>?_)))))))))
 ·refine sk (nN (sq (bl (sr (tm (aA l) r0 (tm (I (i:Int)) r0 (qt r0 (l5 i dI r0 r0 (by omega)) (tm (.int .u8 (c.toNat:Int)) r0 (qt r0 (dO r0 r0) (nn (bI r0 (fun h2=>?_) (fun h2=>?_))))))))))))
  ·refine sr (tm (.slice iM zs.length iG) r0 (tm (aA l) r0 (tm (I (a:Int)) r0 (tm (I (i:Int)) r0 (qt r0 (JV (l:=l) a i dI r0 r0 r0 (by omega) (by omega)) (cR aI fZ [aA ((l.take i).drop a)] [aA ((l.take i).drop a)] aH r0 (fun b2 w3 aN=>gI (g:=aA) (ys:=zs) (zs:=([(l.take i).drop a]:List aD)) aN 0 r0 fZ r0 r0 r0 (aN.cI 1 r0) (fun _=>rfl) (by unfold maxLen; (have hzl:=MZ hz; (simp; omega))) (by(have hzl:=MZ hz; (simp; omega))) aH r0 (fun A1 c1 w4 aR=>tA (.slice A1 ((zs++([(l.take i).drop a]:List aD)).length) c1) r0 (nn (rg (tm (I (i:Int)) r0 (qt r0 (add r0 r0 (by(exact⟨by omega,by omega⟩))) (tA (I ((i:Int)+1)) r0 (nl (bN (nN (rg (tm (I (i:Int)) r0 (qt r0 (add r0 r0 (by(exact⟨by omega,by omega⟩))) (tA (I ((i:Int)+1)) r0 (nn ?_)))))))))))))))))))))
   refine⟨(A1,c1,i+1,i+1,(zs++([(l.take i).drop a]:List aD))),⟨(zR r0),(by omega),(by omega),(Hi hz ha (by omega) hn (Dn (by omega))),(by intro j h_ hj; omega),(aR.pk [1] r0)⟩,?_⟩
   show l.length-(i+1)<l.length-i
   omega
  refine sk (bN (nN (rg (tm (I (i:Int)) r0 (qt r0 (add r0 r0 (by(exact⟨by omega,by omega⟩))) (tA (I ((i:Int)+1)) r0 (nl (nN ?_))))))))
  refine⟨(iM,iG,i+1,a,zs),⟨(zR r0),(by omega),(by omega),(hz),(by intro j h_ hj; rcases Nat.lt_succ_iff_lt_or_eq.1 hj with h | h; exact hn j h_ h; subst h; intro he; exact absurd (aS (fun z=>((UInt8.toNat z:Nat):Int)) he) ‹_›),aI⟩,?_⟩
  show l.length-(i+1)<l.length-i
  omega
 refine ex (tE (tE (bE (nN (sr (tm (.slice iM zs.length iG) r0 (tm (aA l) r0 (tm (I (a:Int)) r0 (qt r0 (CK (l:=l) a dI r0 r0 (by omega)) (cR aI fZ [aA (l.drop a)] [aA (l.drop a)] aH r0 (fun b3 w5 aZ=>gI (g:=aA) (ys:=zs) (zs:=([l.drop a]:List aD)) aZ 0 r0 fZ r0 r0 r0 (aZ.cI 1 r0) (fun _=>rfl) (by unfold maxLen; (have hzl:=MZ hz; (simp; omega))) (by(have hzl:=MZ hz; (simp; omega))) aH r0 (fun A2 c2 w6 bG=>tA (.slice A2 ((zs++([l.drop a]:List aD)).length) c2) r0 (nn (rt (fT (.slice A2 ((zs++([l.drop a]:List aD)).length) c2) r0 ?_)))))))))))))))
 have e1:zs++([l.drop a]:List aD)=aB c l:=by exact Hh hz (by omega) hn
 have e2:=aS List.length e1
 exact⟨A2,c2,(eE r0 e2 r0),((bG.pq [1] r0).cast (lc (dZ (g:=aA) r0 e2 r0 e1) r0))⟩
theorem Lw (l:aD) (w:World) (hl_n:l.length≤1099511627776):bF prog 156 [aA l] w (fun v w'=>v=.bool (nX l)∧SH w w' [] []):=by
 refine fE (N:=35) func156 r0 (by kernel_rfl) r0 ?_
 have aK:=SH.refl w []
 refine sr (tA (.bool false) r0 (nx (tm (aA l) r0 (dP aK r0 (K4 (l:=l) (c:=46) (w:=_) (hl_n:=(by(omega)))) (fun A1 c1 w1 aE=>?_)))))
 refine tA (.slice A1 ((aB 46 l).length) c1) r0 (nn (sq (sr (tm (.slice A1 ((aB 46 l).length) c1) r0 (qt r0 (dK (n:=(aB 46 l).length) fZ r0) (tm (I 0) r0 (nn (bl (lp (σ:=Nat) (fun(k:Nat) f w'=>Hz f [(0,aA l),(3,.slice A1 ((aB 46 l).length) c1),(8,.slice A1 ((aB 46 l).length) c1),(9,I (((aB 46 l).length:Nat):Int)),(10,I (k:Int))]∧(k≤(aB 46 l).length)∧(((aB 46 l).take k).all pY=true)∧SH w w' [] [.own A1 ((aB 46 l).length) c1 9 1 ((aB 46 l).map aA)]) (fun k=>(aB 46 l).length-k) 0 ⟨(zR r0),(by simp),(by simp),aE⟩ ?_)))))))))
 rintro k f w2 ⟨⟨g1,rfl⟩,hk,ha,aI⟩
 refine sr (qt r0 (lss (k:=.i64) (a:=(k:Int)) (b:=(((aB 46 l).length:Nat):Int)) r0 r0) (nn (sq (bI r0 (fun h1=>?_) (fun h1=>?_)))))
 ·refine sk (nN (sq (bl (sr (gN k fZ r0 r0 (aI.cI 0 r0) (by(omega)) (eQ aA [] (by(omega))) aH r0 (fun a1 eL=>?_))))))
  refine qt r0 (eW (v:=aA ((aB 46 l).getD k [])) (SH.refl w2 []) eL (fun _ h=>h) r0 r0 eC) (tA (aA ((aB 46 l).getD k [])) r0 (nx (tm (aA ((aB 46 l).getD k [])) r0 (qt r0 (eqs (l:=(aB 46 l).getD k []) (m:=[]) r0 r0) (tm (.bool (decide ((aB 46 l).getD k []=[]))) r0 (fF (p:=(aB 46 l).getD k []=[]) 16 r0 (fun h2=>?_) (fun h2=>?_)))))))
  ·exact aT r0 (aT r0 (aT r0 (qt r0 (pt (v:=.bool true) r0 r0) (nn (fX r0 (sq (rg (tA (.bool false) r0 (nn (rt (bR (tR (tR (bR (tR (fB r0 (by(exact(OG (k:=k) (by omega) (ZL (by assumption))).symm)) (aI.pk [] r0)))))))))))))))))
  refine qh r0 (mv (v:=aA ((aB 46 l).getD k [])) r0) (cl ⟨_,rfl,rfl⟩ r0 (W7 (l:=(aB 46 l).getD k []) (m:=[45]) (w:=_) (hl_n:=(by(have uE:=lH 46 l k; have rX:=oH 46 l; have hcl:=pS (a:=(46:UInt8)) (l:=l); omega)))) ?_)
  rintro _ w3 ⟨rfl,aN⟩
  replace aN:=aI.cJ aN
  refine qh r0 (nt r0) (qt r0 (pf (v:=.bool (!(((aB 46 l).getD k []).all (lE [45])))) r0 r0) (nn (cd r0 (fun h3=>?_) (fun h3=>?_))))
  ·have h4:=dX h3
   exact sr (tA (.bool false) r0 (nn (rt (bR (tR (tR (bR (tR (fB r0 (by(exact(OG (k:=k) (by omega) (ZI (by assumption))).symm)) (aN.pk [] r0))))))))))
  have h5:=dY h3
  refine sk (bN (nN (rg (qt r0 (add (a:=(k:Int)) (b:=1) r0 r0 (by(have uE:=lH 46 l k; have rX:=oH 46 l; have hcl:=pS (a:=(46:UInt8)) (l:=l); exact⟨by omega,by omega⟩))) (tm (I ((k:Int)+1)) r0 (nn ?_))))))
  refine⟨(k+1),⟨(zR r0),(by omega),(wL (d:=[]) (by omega) ha (ZK (by assumption) (by assumption))),aN⟩,?_⟩
  omega
 refine ex (tE (tE (bE (nN (sr (tm (aA l) r0 (qt r0 (gG (l:=l) dI r0) (qt r0 (leq (k:=.i64) (a:=(l.length:Int)) (b:=20) r0 r0) (tm (.bool (decide ((l.length:Int)≤20))) r0 (fF (p:=(l.length:Int)≤20) 25 r0 (fun h6=>?_) (fun h6=>?_)))))))))))
 ·refine qh r0 (mv (v:=.slice A1 ((aB 46 l).length) c1) r0) (qh r0 (mv (v:=.slice A1 ((aB 46 l).length) c1) r0) (qh r0 (dK (n:=(aB 46 l).length) fZ r0) (qh r0 (PR (a:=(aB 46 l).length) (b:=1) r0 r0 (by have uE:=lH 46 l k; have rX:=oH 46 l; have hcl:=pS (a:=(46:UInt8)) (l:=l); have:=DP 46 l; omega) (by have uE:=lH 46 l k; have rX:=oH 46 l; have hcl:=pS (a:=(46:UInt8)) (l:=l); have:=DP 46 l; omega)) (gN (((aB 46 l).length)-1) fZ r0 r0 (aI.cI 0 r0) (by(have uE:=lH 46 l k; have rX:=oH 46 l; have hcl:=pS (a:=(46:UInt8)) (l:=l); omega)) (eQ aA [] (by(have uE:=lH 46 l k; have rX:=oH 46 l; have hcl:=pS (a:=(46:UInt8)) (l:=l); omega))) ⟨_,rfl,rfl⟩ r0 (fun a2 jG=>?_)))))
  refine qh r0 (eW (v:=aA ((aB 46 l).getD (((aB 46 l).length)-1) [])) (SH.refl w2 []) jG (fun _ h=>h) r0 r0 eC) (qh r0 (l5 (l:=(aB 46 l).getD (((aB 46 l).length)-1) []) 0 dI r0 r0 (by exact SR (by omega) ha (by have:=DP 46 l; omega))) (cl ⟨_,rfl,rfl⟩ r0 (XE (c:=(AQ l)) (w:=_)) ?_))
  rintro _ w4 ⟨rfl,aR⟩
  replace aR:=aI.cJ aR
  refine qt r0 (pt (v:=.bool (decide (97≤(((AQ l).toNat:Nat):Int)∧(((AQ l).toNat:Nat):Int)≤122))) r0 r0) (tA (.bool (decide (97≤(((AQ l).toNat:Nat):Int)∧(((AQ l).toNat:Nat):Int)≤122))) r0 (nn (rt (fT (.bool (decide (97≤(((AQ l).toNat:Nat):Int)∧(((AQ l).toNat:Nat):Int)≤122))) r0 ?_))))
  have e3:(decide (97≤(((AQ l).toNat:Nat):Int)∧(((AQ l).toNat:Nat):Int)≤122))=nX l:=by(exact(SQ (by omega) ha (by omega)).symm)
  exact⟨(aS (Value.bool) e3),(aR.pk [] r0)⟩
 refine bA r0 (bA r0 (bA r0 (bA r0 (bA r0 (bA r0 (bA r0 (bA r0 (qt r0 (pf (v:=.bool false) r0 r0) (tA (.bool false) r0 (nn (rt (fT (.bool false) r0 ?_))))))))))))
 have e4:false=nX l:=by(exact(YP (by omega) ha (by omega)).symm)
 exact⟨(aS (Value.bool) e4),(aI.pk [] r0)⟩
theorem Tp (l:aD) (w:World) (hl_n:l.length≤1099511627776):bF prog 131 [aA l] w (fun v w'=>v=.bool (nX l)∧SH w w' [] []):=by
 refine fE (N:=53) func131 r0 (by kernel_rfl) r0 ?_
 have aK:=SH.refl w []
 refine sr (tA (.bool false) r0 (nx (tm (aA l) r0 (dP aK r0 (H8 (l:=l) (c:=(46:UInt8)) (w:=_) (hl_n:=(by(omega)))) (fun A1 c1 w1 aE=>?_)))))
 refine tA (.slice A1 ((aB (46:UInt8) l).length) c1) r0 (nn (sq (sr (tA (I 0) r0 (nl (nN (bl (lp (σ:=Nat) (fun(k:Nat) f w'=>Hz f [(0,aA l),(3,.slice A1 ((aB (46:UInt8) l).length) c1),(4,I (k:Int))]∧(k≤(aB 46 l).length)∧(((aB 46 l).take k).all pY=true)∧SH w w' [] [.own A1 ((aB (46:UInt8) l).length) c1 9 1 ((aB (46:UInt8) l).map aA)]) (fun k=>(aB 46 l).length-k) 0 ⟨(zR r0),(by simp),(by simp),aE⟩ ?_))))))))
 rintro k f w2 ⟨⟨g1,rfl⟩,hk,ha,aI⟩
 refine sq (sr (tm (I (k:Int)) r0 (tm (.slice A1 ((aB (46:UInt8) l).length) c1) r0 (qt r0 (dK (n:=(aB (46:UInt8) l).length) fZ r0) (qt r0 (lss (k:=.i64) (a:=(k:Int)) (b:=(((aB (46:UInt8) l).length:Nat):Int)) r0 r0) (nl (nN (bI r0 (fun h1=>?_) (fun h1=>?_)))))))))
 ·refine sk (nN (sq (bl (sr (tm (.slice A1 ((aB (46:UInt8) l).length) c1) r0 (tm (I (k:Int)) r0 (gN k fZ r0 r0 (aI.cI 0 r0) (by(omega)) (eQ aA [] (by(omega))) aH r0 (fun a1 eL=>?_))))))))
  refine qt r0 (eW (v:=aA ((aB (46:UInt8) l).getD k [])) (SH.refl w2 []) eL (fun _ h=>h) r0 r0 eC) (tA (aA ((aB (46:UInt8) l).getD k [])) r0 (nn (sq (sr (tm (aA ((aB (46:UInt8) l).getD k [])) r0 (qt r0 (gG (l:=(aB (46:UInt8) l).getD k []) dI r0) (qt r0 (dO (k:=.i64) (a:=((((aB (46:UInt8) l).getD k []).length:Nat):Int)) (b:=0) r0 r0) (nn (bI r0 (fun h2=>?_) (fun h2=>?_))))))))))
  ·exact sr (tA (.bool false) r0 (nn (rt (tR (bR (tR (tR (bR (tR (fB r0 (by(exact(OG (k:=k) (by omega) (ZJ (by omega))).symm)) (aI.pk [] r0)))))))))))
  refine sk (nN (sr (tA (I 0) r0 (nn (bl ?_)))))
  refine lp (σ:=Nat) (fun(j:Nat) f w'=>Hz f [(0,aA l),(3,.slice A1 ((aB (46:UInt8) l).length) c1),(4,I (k:Int)),(5,aA ((aB (46:UInt8) l).getD k [])),(6,I (j:Int))]∧(j≤((aB 46 l).getD k []).length)∧((((aB 46 l).getD k []).take j).all nI=true)∧SH w w' [] [.own A1 ((aB (46:UInt8) l).length) c1 9 1 ((aB (46:UInt8) l).map aA)]) (fun j=>((aB 46 l).getD k []).length-j) 0 ⟨(zR r0),(by simp),(by simp),aI⟩ ?_
  rintro j f w3 ⟨⟨g2,rfl⟩,hj,hb,aN⟩
  refine sq (sr (tm (I (j:Int)) r0 (tm (aA ((aB (46:UInt8) l).getD k [])) r0 (qt r0 (gG (l:=(aB (46:UInt8) l).getD k []) dI r0) (qt r0 (lss (k:=.i64) (a:=(j:Int)) (b:=((((aB (46:UInt8) l).getD k []).length:Nat):Int)) r0 r0) (nl (nN (bI r0 (fun h3=>?_) (fun h3=>?_)))))))))
  ·refine sk (nN (sq (bl (sr (tm (aA ((aB (46:UInt8) l).getD k [])) r0 (tm (I (j:Int)) r0 (qt r0 (l5 (l:=(aB (46:UInt8) l).getD k []) j dI r0 r0 (by omega)) (cS aN r0 (Bd (c:=(((aB (46:UInt8) l).getD k []).getD j 0)) (w:=_)) (fun w4 aR=>?_)))))))))
   refine qt r0 (nt r0) (nn (cd r0 (fun h4=>?_) (fun h4=>?_)))
   ·have h5:=dX h4
    exact sr (tA (.bool false) r0 (nn (rt (bR (tR (tR (bR (bR (tR (tR (bR (tR (fB r0 (by(exact(OG (k:=k) (by omega) (Rb (j:=j) (by omega) (by assumption))).symm)) (aR.pk [] r0))))))))))))))
   have h6:=dY h4
   refine sk (bN (nN (rg (tm (I (j:Int)) r0 (qt r0 (add (a:=(j:Int)) (b:=1) r0 r0 (by(have uE:=lH 46 l k; have rX:=oH 46 l; have hcl:=pS (a:=(46:UInt8)) (l:=l); exact⟨by omega,by omega⟩))) (tA (I ((j:Int)+1)) r0 (nl (nN ?_))))))))
   refine⟨(j+1),⟨(zR r0),(by omega),(wL (d:=0) (by omega) hb (by assumption)),aR⟩,?_⟩
   omega
  refine ex (tE (tE (bE (bN (nN (rg (tm (I (k:Int)) r0 (qt r0 (add (a:=(k:Int)) (b:=1) r0 r0 (by(have uE:=lH 46 l k; have rX:=oH 46 l; have hcl:=pS (a:=(46:UInt8)) (l:=l); exact⟨by omega,by omega⟩))) (tA (I ((k:Int)+1)) r0 (nn ?_))))))))))
  refine⟨(k+1),⟨(zR r0),(by omega),(wL (d:=[]) (by omega) ha (Rc (j:=j) (by omega) (by omega) hb)),aN⟩,?_⟩
  omega
 refine ex (tE (tE (bE (nN (sr (tm (.slice A1 ((aB (46:UInt8) l).length) c1) r0 (tm (.slice A1 ((aB (46:UInt8) l).length) c1) r0 (qt r0 (dK (n:=(aB (46:UInt8) l).length) fZ r0) (qt r0 (PR (a:=(aB (46:UInt8) l).length) (b:=1) r0 r0 (by have uE:=lH 46 l k; have rX:=oH 46 l; have hcl:=pS (a:=(46:UInt8)) (l:=l); have:=DP 46 l; omega) (by have uE:=lH 46 l k; have rX:=oH 46 l; have hcl:=pS (a:=(46:UInt8)) (l:=l); have:=DP 46 l; omega)) (gN (((aB (46:UInt8) l).length)-1) fZ r0 r0 (aI.cI 0 r0) (by(have uE:=lH 46 l k; have rX:=oH 46 l; have hcl:=pS (a:=(46:UInt8)) (l:=l); omega)) (eQ aA [] (by(have uE:=lH 46 l k; have rX:=oH 46 l; have hcl:=pS (a:=(46:UInt8)) (l:=l); omega))) aH r0 (fun a2 jG=>?_)))))))))))
 refine qt r0 (eW (v:=aA ((aB (46:UInt8) l).getD (((aB (46:UInt8) l).length)-1) [])) (SH.refl w2 []) jG (fun _ h=>h) r0 r0 eC) (tA (aA ((aB (46:UInt8) l).getD (((aB (46:UInt8) l).length)-1) [])) r0 (nx (tm (aA l) r0 (qt r0 (gG (l:=l) dI r0) (qt r0 (leq (k:=.i64) (a:=(l.length:Int)) (b:=20) r0 r0) (tm (.bool (decide ((l.length:Int)≤20))) r0 (fF (p:=(l.length:Int)≤20) 43 r0 (fun h7=>?_) (fun h7=>?_))))))))
 ·refine qh r0 (mv (v:=aA ((aB (46:UInt8) l).getD (((aB (46:UInt8) l).length)-1) [])) r0) (qh r0 (l5 (l:=(aB (46:UInt8) l).getD (((aB (46:UInt8) l).length)-1) []) 0 dI r0 r0 (by exact SR (by omega) ha (by have:=DP 46 l; omega))) (qh r0 (geq (k:=.u8) (a:=(((((aB (46:UInt8) l).getD (((aB (46:UInt8) l).length)-1) []).getD 0 0).toNat:Nat):Int)) (b:=97) r0 r0) (qt r0 (pt (v:=.bool (decide ((97:Int)≤(((((aB (46:UInt8) l).getD (((aB (46:UInt8) l).length)-1) []).getD 0 0).toNat:Nat):Int)))) r0 r0) (tm (.bool (decide ((97:Int)≤(((((aB (46:UInt8) l).getD (((aB (46:UInt8) l).length)-1) []).getD 0 0).toNat:Nat):Int)))) r0 (fF (p:=(97:Int)≤(((((aB (46:UInt8) l).getD (((aB (46:UInt8) l).length)-1) []).getD 0 0).toNat:Nat):Int)) 48 r0 (fun h8=>?_) (fun h8=>?_))))))
  ·exact qh r0 (mv (v:=aA ((aB (46:UInt8) l).getD (((aB (46:UInt8) l).length)-1) [])) r0) (qh r0 (l5 (l:=(aB (46:UInt8) l).getD (((aB (46:UInt8) l).length)-1) []) 0 dI r0 r0 (by exact SR (by omega) ha (by have:=DP 46 l; omega))) (qh r0 (leq (k:=.u8) (a:=(((((aB (46:UInt8) l).getD (((aB (46:UInt8) l).length)-1) []).getD 0 0).toNat:Nat):Int)) (b:=122) r0 r0) (qt r0 (pt (v:=.bool (decide ((((((aB (46:UInt8) l).getD (((aB (46:UInt8) l).length)-1) []).getD 0 0).toNat:Nat):Int)≤122))) r0 r0) (tA (.bool (decide ((((((aB (46:UInt8) l).getD (((aB (46:UInt8) l).length)-1) []).getD 0 0).toNat:Nat):Int)≤122))) r0 (nn (rt (fB r0 (Py (by omega) ha (by omega) (by assumption)) (aI.pk [] r0))))))))
  exact bA r0 (bA r0 (bA r0 (qt r0 (pf (v:=.bool false) r0 r0) (tA (.bool false) r0 (nn (rt (fB r0 (Pz (by omega) ha (by omega) (by assumption)) (aI.pk [] r0))))))))
 refine bA r0 (bA r0 (bA r0 (qt r0 (pf (v:=.bool false) r0 r0) (tm (.bool false) r0 (bA r0 (bA r0 (bA r0 (qt r0 (pf (v:=.bool false) r0 r0) (tA (.bool false) r0 (nn (rt (fT (.bool false) r0 ?_))))))))))))
 have e5:false=nX l:=by(exact(YP (by omega) ha (by omega)).symm)
 exact⟨(aS (Value.bool) e5),(aI.pk [] r0)⟩
theorem XG {Aqs:aM} {cqs:Nat} (qs:aC) (w:World) (hqs:Sl w [] 1 Aqs qs.length cqs (qs.map I)):bF prog 154 [.slice Aqs qs.length cqs] w (fun v w'=>v=.bool (kO qs)∧SH w w' [] []):=by
 refine fQ 10 func154 r0 r0 ?_
 have aK:=SH.refl w []
 have NJ:qs.length≤9223372036854775807:=cB hqs.cap hqs.cO
 refine sr (tA (.bool false) r0 (nx (tm (cD Aqs qs cqs) r0 (qt r0 (dK aV r0) (qt r0 (dO r0 r0) (tm (.bool (decide ((qs.length:Int)=4))) r0 (fF 6 r0 (fun h1=>?_) (fun h1=>?_))))))))
 ·refine qh r0 (mv (v:=.slice Aqs qs.length cqs) r0) (cl ⟨_,rfl,rfl⟩ r0 (H4 _ _ (hqs.aP aK)) ?_)
  rintro _ w1 ⟨rfl,aE⟩
  replace aE:=aK.cJ aE
  refine qt r0 (pt (v:=.bool (bJ qs)) r0 r0) (tA (.bool (bJ qs)) r0 (nn (rt (fT (.bool (bJ qs)) r0 ?_))))
  have e1:(bJ qs)=kO qs:=by simp[kO,h1] <;> omega
  exact⟨(aS (Value.bool) e1),aE⟩
 refine bA r0 (bA r0 (qt r0 (pf (v:=.bool false) r0 r0) (tA (.bool false) r0 (nn (rt (fT (.bool false) r0 ?_))))))
 have e2:false=kO qs:=by simp[kO,h1] <;> omega
 exact⟨(aS (Value.bool) e2),aK⟩
theorem Bf {Aqs:aM} {cqs:Nat} (qs:aC) (w:World) (hqs:Sl w [] 1 Aqs qs.length cqs (qs.map I)):bF prog 130 [.slice Aqs qs.length cqs] w (fun v w'=>v=.bool (kO qs)∧SH w w' [] []):=by
 refine fQ 10 func130 r0 r0 ?_
 have aK:=SH.refl w []
 have NJ:qs.length≤9223372036854775807:=cB hqs.cap hqs.cO
 refine sr (tA (.bool false) r0 (nx (tm (cD Aqs qs cqs) r0 (cS aK r0 (wU _ _ (hqs.aP aK)) (fun w1 aE=>tm (.bool (bJ qs)) r0 (hP 5 r0 (fun h1=>?_) (fun h1=>?_)))))))
 ·exact qh r0 (mv (v:=.slice Aqs qs.length cqs) r0) (qh r0 (dK aV r0) (qh r0 (dO r0 r0) (qt r0 (pt (v:=.bool (decide ((qs.length:Int)=4))) r0 r0) (tA (.bool (decide ((qs.length:Int)=4))) r0 (nn (rt (fB r0 (by simp[kO,h1] <;> omega) aE)))))))
 exact bA r0 (bA r0 (bA r0 (qt r0 (pf (v:=.bool false) r0 r0) (tA (.bool false) r0 (nn (rt (fB r0 (by simp[kO,h1] <;> omega) aE)))))))
theorem R1 (s:aD) (w:World) (hs_n:s.length≤9223372036854775807):bF prog 97 [aA s] w (fun v w'=>v=.bool (lO s)∧SH w w' [] []):=by
 refine fQ 10 func97 r0 r0 ?_
 have aK:=SH.refl w []
 refine sr (tA (.bool false) r0 (nx (tm (aA s) r0 (qt r0 (gG dI r0) (qt r0 (leq r0 r0) (tm (.bool (decide ((s.length:Int)≤8))) r0 (fF 6 r0 (fun h1=>?_) (fun h1=>?_))))))))
 ·refine qh r0 (mv (v:=aA s) r0) (cl ⟨_,rfl,rfl⟩ r0 (W7 _ [] _ (by omega)) ?_)
  rintro _ w1 ⟨rfl,aE⟩
  replace aE:=aK.cJ aE
  refine qt r0 (pt (v:=.bool (s.all (lE []))) r0 r0) (tA (.bool (s.all (lE []))) r0 (nn (rt (fT (.bool (s.all (lE []))) r0 ?_))))
  have e1:(s.all (lE []))=lO s:=by simp[lO,h1] <;> omega
  exact⟨(aS (Value.bool) e1),aE⟩
 refine bA r0 (bA r0 (qt r0 (pf (v:=.bool false) r0 r0) (tA (.bool false) r0 (nn (rt (fT (.bool false) r0 ?_))))))
 have e2:false=lO s:=by simp[lO,h1] <;> omega
 exact⟨(aS (Value.bool) e2),aK⟩
theorem TJ (s:aD) (w:World) (hs_n:s.length≤9223372036854775807):bF prog 127 [aA s] w (fun v w'=>v=.bool (lO s)∧SH w w' [] []):=by
 refine fQ 24 func127 r0 r0 ?_
 have aK:=SH.refl w []
 refine sr (tA (.bool false) r0 (nn (sq (sr (tA (I 0) r0 (nn (bl (lp (σ:=Nat) (fun(k:Nat) f w'=>Hz f [(0,aA s),(3,I (k:Int))]∧(k≤s.length)∧((s.take k).all (lE [])=true)∧SH w w' [] []) (fun k=>s.length-k) 0 ⟨(zR r0),(by simp),(by simp),aK⟩ ?_))))))))
 rintro k f w1 ⟨⟨g1,rfl⟩,hk,ha,aE⟩
 refine sq (sr (tm (I (k:Int)) r0 (tm (aA s) r0 (qt r0 (gG dI r0) (qt r0 (lss r0 r0) (nl (nN (bI r0 (fun h1=>?_) (fun h1=>?_)))))))))
 ·refine sk (nN (sq (bl (sr (tm (aA s) r0 (tm (I (k:Int)) r0 (qt r0 (l5 k dI r0 r0 (by omega)) (cS aE r0 (Bd _ _) (fun w2 aI=>qt r0 (nt r0) (tm (.bool (!(nI (s.getD k 0)))) r0 (hP 15 r0 (fun h2=>?_) (fun h2=>?_))))))))))))
  ·have h3:=dX h2
   exact aT r0 (aT r0 (aT r0 (aT r0 (qt r0 (pt (v:=.bool true) r0 r0) (nn (fX r0 (sr (tA (.bool false) r0 (nn (rt (bR (tR (tR (bR (tR (fB r0 (by exact(Dv (k:=k) (by omega) (.inl ‹_›)).symm) aI))))))))))))))))
  have h4:=dY h2
  refine qh r0 (mv (v:=aA s) r0) (qh r0 (mv (v:=I (k:Int)) r0) (qh r0 (l5 k dI r0 r0 (by omega)) (qh r0 (dO r0 r0) (qt r0 (pf (v:=.bool (decide ((((s.getD k 0).toNat:Nat):Int)=45))) r0 r0) (nn (bI r0 (fun h5=>?_) (fun h5=>?_)))))))
  ·exact sr (tA (.bool false) r0 (nn (rt (bR (tR (tR (bR (tR (fB r0 (by exact(Dv (k:=k) (by omega) (.inr ‹_›)).symm) aI)))))))))
  refine sk (bN (nN (rg (tm (I (k:Int)) r0 (qt r0 (add r0 r0 (by exact⟨by omega,by omega⟩)) (tA (I ((k:Int)+1)) r0 (nl (nN ?_))))))))
  refine⟨(k+1),⟨(zR r0),(by omega),(wL (d:=0) (by omega) ha (Yo ‹_› ‹_›)),aI⟩,?_⟩
  omega
 refine ex (tE (tE (bE (nN (sr (tm (aA s) r0 (qt r0 (gG dI r0) (qt r0 (leq r0 r0) (tA (.bool (decide ((s.length:Int)≤8))) r0 (nl (nN (rt (fT (.bool (decide ((s.length:Int)≤8))) r0 ?_)))))))))))))
 have e3:(decide ((s.length:Int)≤8))=lO s:=by exact Yn (by omega) ha
 exact⟨(aS (Value.bool) e3),aE⟩
theorem Vi {Azs:aM} {czs:Nat} (zs:aC) (n:Int) (w:World) (hzs:Sl w [] 1 Azs zs.length czs (zs.map I)):bF prog 98 [.slice Azs zs.length czs,I n] w (fun v w'=>v=.int .i64 (m5 (fun x=>decide (n=x)) zs)∧SH w w' [] []):=by
 refine fQ 19 func98 r0 r0 ?_
 have aK:=SH.refl w []
 have sY:zs.length≤9223372036854775807:=cB hzs.cap hzs.cO
 refine sr (tA (I 0) r0 (nn (sq (sr (tm (cD Azs zs czs) r0 (qt r0 (dK aV r0) (tm (I 0) r0 (nn (bl (lp (σ:=Nat) (fun(k:Nat) f w'=>Hz f [(0,.slice Azs zs.length czs),(1,I n),(7,I (zs.length:Int)),(8,I (k:Int))]∧(k≤zs.length)∧(∀ j,j<k→decide (n=zs.getD j 0)=false)∧SH w w' [] []) (fun k=>zs.length-k) 0 ⟨(zR r0),(by simp),(by intro j hj; omega),aK⟩ ?_))))))))))
 rintro k f w1 ⟨⟨g1,rfl⟩,hk,hn,aE⟩
 refine sr (qt r0 (lss r0 r0) (nn (sq (bI r0 (fun h1=>?_) (fun h1=>?_)))))
 ·refine sk (nN (sq (bl (sr (tm (I (k:Int)) r0 (tA (I (k:Int)) r0 (nx (tm (I n) r0 (tm (cD Azs zs czs) r0 (tm (I (k:Int)) r0 (gN k aV r0 r0 hzs (by omega) (eQ I 0 (by omega)) aH r0 (fun a1 eL=>qt r0 (eW aE eL (fun _ h=>h) r0 r0 cN) (qt r0 (dO r0 r0) (nn (bI r0 (fun h2=>?_) (fun h2=>?_))))))))))))))))
  ·exact sr (tm (I (k:Int)) r0 (tA (I (k:Int)) r0 (nn (rt (bR (tR (tR (bR (tR (fI r0 (NY (d:=0) (by omega) hn (decide_eq_true ‹_›)) aE))))))))))
  refine sk (bN (nN (rg (qt r0 (add r0 r0 (by exact⟨by omega,by omega⟩)) (tm (I ((k:Int)+1)) r0 (nn ?_))))))
  refine⟨(k+1),⟨(zR r0),(by omega),(by intro j hj; rcases Nat.lt_succ_iff_lt_or_eq.1 hj with h | h; exact hn j h; subst h; exact decide_eq_false ‹_›),aE⟩,?_⟩
  omega
 refine ex (tE (tE (bE (nN (sr (tA (I (-1)) r0 (nn (rt (fT (I (-1)) r0 ?_)))))))))
 have e2:(-1)=m5 (fun x=>decide (n=x)) zs:=by exact NZ (d:=0) (fun j hj=>hn j (by omega))
 exact⟨(aS (Value.int .i64) e2),aE⟩
theorem TN {Azs:aM} {czs:Nat} (zs:aC) (n:Int) (w:World) (hzs:Sl w [] 1 Azs zs.length czs (zs.map I)):bF prog 61 [.slice Azs zs.length czs,I n] w (fun v w'=>v=.bool (decide (n∈zs))∧SH w w' [] []):=by
 refine fQ 9 func61 r0 r0 ?_
 have aK:=SH.refl w []
 have sY:zs.length≤9223372036854775807:=cB hzs.cap hzs.cO
 refine sr (tA (.bool false) r0 (nx (tm (cD Azs zs czs) r0 (tm (I n) r0 (cS aK r0 (Vi _ _ _ (hzs.aP aK)) (fun w1 aE=>qt r0 (geq r0 r0) (tA (.bool (decide ((0:Int)≤(m5 (fun x=>decide (n=x)) zs)))) r0 (nn (rt (fT (.bool (decide ((0:Int)≤(m5 (fun x=>decide (n=x)) zs)))) r0 ?_))))))))))
 have e1:(decide ((0:Int)≤(m5 (fun x=>decide (n=x)) zs)))=(decide (n∈zs)):=by exact Mv n zs
 exact⟨(aS (Value.bool) e1),aE⟩
theorem R7 {Azs:aM} {czs:Nat} (zs:aC) (n:Int) (w:World) (hzs:Sl w [] 1 Azs zs.length czs (zs.map I)):bF prog 128 [.slice Azs zs.length czs,I n] w (fun v w'=>v=.bool (decide (n∈zs))∧SH w w' [] []):=by
 refine fQ 18 func128 r0 r0 ?_
 have aK:=SH.refl w []
 have sY:zs.length≤9223372036854775807:=cB hzs.cap hzs.cO
 refine sr (tA (.bool false) r0 (nn (sq (sr (tA (I 0) r0 (nn (bl (lp (σ:=Nat) (fun(k:Nat) f w'=>Hz f [(0,.slice Azs zs.length czs),(1,I n),(5,I (k:Int))]∧(k≤zs.length)∧(n ∉ zs.take k)∧SH w w' [] []) (fun k=>zs.length-k) 0 ⟨(zR r0),(by simp),(by simp),aK⟩ ?_))))))))
 rintro k f w1 ⟨⟨g1,rfl⟩,hk,hn,aE⟩
 refine sq (sr (tm (I (k:Int)) r0 (tm (cD Azs zs czs) r0 (qt r0 (dK aV r0) (qt r0 (lss r0 r0) (nl (nN (bI r0 (fun h1=>?_) (fun h1=>?_)))))))))
 ·refine sk (nN (sq (bl (sr (tm (cD Azs zs czs) r0 (tm (I (k:Int)) r0 (gN k aV r0 r0 hzs (by omega) (eQ I 0 (by omega)) aH r0 (fun a1 eL=>qt r0 (eW aE eL (fun _ h=>h) r0 r0 cN) (tm (I n) r0 (qt r0 (dO r0 r0) (nn (bI r0 (fun h2=>?_) (fun h2=>?_)))))))))))))
  ·exact sr (tA (.bool true) r0 (nn (rt (bR (tR (tR (bR (tR (fB r0 (by exact(decide_eq_true (Js (k:=k) (by omega) (by omega))).symm) aE)))))))))
  refine sk (bN (nN (rg (tm (I (k:Int)) r0 (qt r0 (add r0 r0 (by exact⟨by omega,by omega⟩)) (tA (I ((k:Int)+1)) r0 (nl (nN ?_))))))))
  refine⟨(k+1),⟨(zR r0),(by omega),(Jr (by omega) hn (by omega)),aE⟩,?_⟩
  omega
 refine ex (tE (tE (bE (nN (sr (tA (.bool false) r0 (nn (rt (fT (.bool false) r0 ?_)))))))))
 have e2:false=(decide (n∈zs)):=by exact(decide_eq_false (Jq (k:=k) (by omega) hn)).symm
 exact⟨(aS (Value.bool) e2),aE⟩
theorem NT {Ams:aM} {cms:Nat} (ms:aC) (w:World) (hms:Sl w [] 1 Ams ms.length cms (ms.map I)):bF prog 55 [.slice Ams ms.length cms] w (fun v w'=>v=.bool (j9 ms)∧SH w w' [] []):=by
 refine fQ 26 func55 r0 r0 ?_
 have aK:=SH.refl w []
 have RJ:ms.length≤9223372036854775807:=cB hms.cap hms.cO
 refine sr (tA (.bool false) r0 (nn (sq (sr (tm (cD Ams ms cms) r0 (qt r0 (dK aV r0) (tm (I 0) r0 (nn (bl (lp (σ:=Nat) (fun(k:Nat) f w'=>Hz f [(0,.slice Ams ms.length cms),(5,.slice Ams ms.length cms),(6,I (ms.length:Int)),(7,I (k:Int))]∧(k≤ms.length)∧(BU ms k)∧SH w w' [] []) (fun k=>ms.length-k) 0 ⟨(zR r0),(by simp),(YI ms),aK⟩ ?_))))))))))
 rintro k f w1 ⟨⟨g1,rfl⟩,hk,ha,aE⟩
 refine sr (qt r0 (lss r0 r0) (nn (sq (bI r0 (fun h1=>?_) (fun h1=>?_)))))
 ·refine sk (nN (sq (bl (sr (tm (I (k:Int)) r0 (gN k aV r0 r0 hms (by omega) (eQ I 0 (by omega)) aH r0 (fun a1 eL=>qt r0 (eW aE eL (fun _ h=>h) r0 r0 cN) (tA (I (k:Int)) r0 (tA (I (ms.getD k 0)) r0 (nx (tm (I (ms.getD k 0)) r0 (cS aE r0 (x4 _ 0 254 _) (fun w2 aI=>qt r0 (nd r0) (tm (.bool (decide (¬ (0≤(ms.getD k 0)∧(ms.getD k 0)≤254)))) r0 (fF 15 r0 (fun h2=>?_) (fun h2=>?_))))))))))))))))
  ·exact aT r0 (aT r0 (aT r0 (aT r0 (aT r0 (qt r0 (pt (v:=.bool true) r0 r0) (nn (fX r0 (sr (tA (.bool false) r0 (nn (rt (bR (tR (tR (bR (tR (fB r0 (by exact(YK (k:=k) (by omega) ‹_›).symm) aI)))))))))))))))))
  refine qh r0 (mv (v:=.slice Ams ms.length cms) r0) (qh r0 (mv (v:=I (k:Int)) r0) (qh r0 (JU (zs:=ms) k aV r0 r0 (by omega) hms.cap) (qh r0 (mv (v:=I (ms.getD k 0)) r0) (cl ⟨_,rfl,rfl⟩ r0 (TN _ _ _ (Sl.JX (hms.aP aI) (by omega))) ?_))))
  rintro _ w3 ⟨rfl,aN⟩
  replace aN:=aI.cJ aN
  refine qt r0 (pf (v:=.bool (decide ((ms.getD k 0)∈(ms.take k)))) r0 r0) (nn (bI r0 (fun h3=>?_) (fun h3=>?_)))
  ·exact sr (tA (.bool false) r0 (nn (rt (bR (tR (tR (bR (tR (fB r0 (by exact(YL (k:=k) (by omega) ‹_›).symm) aN)))))))))
  refine sk (bN (nN (rg (qt r0 (add r0 r0 (by exact⟨by omega,by omega⟩)) (tm (I ((k:Int)+1)) r0 (nn ?_))))))
  refine⟨(k+1),⟨(zR r0),(by omega),(YJ (by omega) ha (Decidable.not_not.1 ‹_›) ‹_›),aN⟩,?_⟩
  omega
 refine ex (tE (tE (bE (nN (sr (tm (cD Ams ms cms) r0 (qt r0 (dK aV r0) (cS aE r0 (x4 _ 1 8 _) (fun w4 aR=>tA (.bool (decide (1≤(ms.length:Int)∧(ms.length:Int)≤8))) r0 (nn (rt (fT (.bool (decide (1≤(ms.length:Int)∧(ms.length:Int)≤8))) r0 ?_))))))))))))
 have e3:(decide (1≤(ms.length:Int)∧(ms.length:Int)≤8))=j9 ms:=by exact YM (by omega) ha
 exact⟨(aS (Value.bool) e3),aR⟩
theorem PD {Ams:aM} {cms:Nat} (ms:aC) (w:World) (hms:Sl w [] 1 Ams ms.length cms (ms.map I)):bF prog 78 [.slice Ams ms.length cms] w (fun v w'=>v=.bool (j9 ms)∧SH w w' [] []):=by
 refine fQ 29 func78 r0 r0 ?_
 have aK:=SH.refl w []
 have RJ:ms.length≤9223372036854775807:=cB hms.cap hms.cO
 refine sr (tA (.bool false) r0 (nn (sq (sr (tA (I 0) r0 (nn (bl (lp (σ:=Nat) (fun(k:Nat) f w'=>Hz f [(0,.slice Ams ms.length cms),(3,I (k:Int))]∧(k≤ms.length)∧(BU ms k)∧SH w w' [] []) (fun k=>ms.length-k) 0 ⟨(zR r0),(by simp),(YI ms),aK⟩ ?_))))))))
 rintro k f w1 ⟨⟨g1,rfl⟩,hk,ha,aE⟩
 refine sq (sr (tm (I (k:Int)) r0 (tm (cD Ams ms cms) r0 (qt r0 (dK aV r0) (qt r0 (lss r0 r0) (nl (nN (bI r0 (fun h1=>?_) (fun h1=>?_)))))))))
 ·refine sk (nN (sq (bl (sq (rq (fun w'=>SH w w' [] []) mixed (by kernel_rfl) aE.drew (qA r0 (mv (v:=.slice Ams ms.length cms) r0) (qA r0 (mv (v:=I (k:Int)) r0) (qL k aV r0 r0 hms (by omega) (eQ I 0 (by omega)) aH r0 (fun a1 eL=>qB r0 (fun aU=>eW aU eL (fun _ h=>h) r0 r0 cN) (qc (.bool (decide (0≤(ms.getD k 0)∧(ms.getD k 0)≤254))) aH r0 (fun wq aU=>(wV _ 0 254 _).mono (fun v w' h=>⟨h.1,by simpa using aU.cJ h.2⟩)) (qA r0 (nd r0) (qA r0 (mv (v:=.bool (decide (¬ (0≤(ms.getD k 0)∧(ms.getD k 0)≤254)))) r0) (ZR 16 r0 (fun h2=>?_) (fun h2=>?_))))))))))))))
  ·exact kW r0 (kW r0 (kW r0 (kW r0 (kW r0 (kW r0 (kW r0 (kW r0 (qA r0 (pt (v:=.bool true) r0 r0) (qn (fun w2 aI=>nN (fX r0 (sr (tA (.bool false) r0 (nn (rt (bR (tR (tR (bR (tR (fB r0 (by exact(YK (k:=k) (by omega) ‹_›).symm) aI)))))))))))))))))))))
  refine qq ⟨_,rfl,rfl⟩ r0 r0 (fun wq aU=>mv (v:=.slice Ams ms.length cms) r0) (qq ⟨_,rfl,rfl⟩ r0 r0 (fun wq aU=>mv (v:=I (k:Int)) r0) (qq ⟨_,rfl,rfl⟩ r0 r0 (fun wq aU=>JU (zs:=ms) k aV r0 r0 (by omega) hms.cap) (qq ⟨_,rfl,rfl⟩ r0 r0 (fun wq aU=>mv (v:=.slice Ams ms.length cms) r0) (qq ⟨_,rfl,rfl⟩ r0 r0 (fun wq aU=>mv (v:=I (k:Int)) r0) (qL k aV r0 r0 hms (by omega) (eQ I 0 (by omega)) ⟨_,rfl,rfl⟩ r0 (fun a2 jG=>qq ⟨_,rfl,rfl⟩ r0 r0 (fun wq aU=>eW aU jG (fun _ h=>h) r0 r0 cN) (qc (.bool (decide ((ms.getD k 0)∈(ms.take k)))) ⟨_,rfl,rfl⟩ r0 (fun wq aU=>(R7 _ _ _ (Sl.JX (hms.aP aU) (by omega))).mono (fun v w' h=>⟨h.1,by simpa using aU.cJ h.2⟩)) (qA r0 (pf (v:=.bool (decide ((ms.getD k 0)∈(ms.take k)))) r0 r0) (qn (fun w3 aN=>nN (bI r0 (fun h3=>?_) (fun h3=>?_))))))))))))
  ·exact sr (tA (.bool false) r0 (nn (rt (bR (tR (tR (bR (tR (fB r0 (by exact(YL (k:=k) (by omega) ‹_›).symm) aN)))))))))
  refine sk (bN (nN (rg (tm (I (k:Int)) r0 (qt r0 (add r0 r0 (by exact⟨by omega,by omega⟩)) (tA (I ((k:Int)+1)) r0 (nl (nN ?_))))))))
  refine⟨(k+1),⟨(zR r0),(by omega),(YJ (by omega) ha (Decidable.not_not.1 ‹_›) ‹_›),aN⟩,?_⟩
  omega
 refine ex (tE (tE (bE (nN (sr (tm (cD Ams ms cms) r0 (qt r0 (dK aV r0) (cS aE r0 (wV _ 1 8 _) (fun w4 aR=>tA (.bool (decide (1≤(ms.length:Int)∧(ms.length:Int)≤8))) r0 (nn (rt (fT (.bool (decide (1≤(ms.length:Int)∧(ms.length:Int)≤8))) r0 ?_))))))))))))
 have e3:(decide (1≤(ms.length:Int)∧(ms.length:Int)≤8))=j9 ms:=by exact YM (by omega) ha
 exact⟨(aS (Value.bool) e3),aR⟩
theorem x0 (ak:Int) {Aaq:aM} {caq:Nat} (aq:aC) (an:aD) (apt:Int) (w:World) (haq:Sl w [] 1 Aaq aq.length caq (aq.map I)) (han_n:an.length≤1099511627776):bF prog 102 [.agg #[I ak,.slice Aaq aq.length caq,aA an,I apt]] w (fun v w'=>v=.bool (dN ak aq an apt)∧SH w w' [] []):=by
 refine fQ 36 func102 r0 r0 ?_
 have aK:=SH.refl w []
 have pM:aq.length≤9223372036854775807:=cB haq.cap haq.cO
 refine sr (bx (v:=.agg #[I ak,(Z4 Aaq aq caq),aA an,I apt]) (cs:=[I ak,(Z4 Aaq aq caq),aA an,I apt]) aK r0 r0 aH r0 (fun b1 w1 aE=>tA (.bool false) r0 (nn (sq (sr (qt r0 (fa 0 o8 r0) (qt r0 (lD (I ak) aE 0 r0 cN) (nn (bl (sr (qt r0 (dO r0 r0) (tA (sP ak) r0 (nl (nN (bI r0 (fun h1=>?_) (fun h1=>?_))))))))))))))))
 ·refine sr (qt r0 (fa 1 pL r0) (qt r0 (lD (cD Aaq aq caq) aE 0 r0 j4) (cS aE r0 (XG _ _ (haq.aP aE)) (fun w2 aI=>tm (.bool (kO aq)) r0 (hP 10 r0 (fun h2=>?_) (fun h2=>?_))))))
  ·refine qh r0 (fa 2 sW r0) (qh r0 (lD (aA an) aI 0 r0 eC) (qh r0 (eqs r0 r0) (qt r0 (pt (v:=.bool (decide (an=[]))) r0 r0) (tm (yY an) r0 (fF 15 r0 (fun h3=>?_) (fun h3=>?_))))))
   ·refine qh r0 (fa 3 pV r0) (qh r0 (lD (I apt) aI 0 r0 cN) (cl ⟨_,rfl,rfl⟩ r0 (XO _ _) ?_))
    rintro _ w3 ⟨rfl,aN⟩
    replace aN:=aI.cJ aN
    exact qt r0 (pt (v:=.bool (decide (0≤apt∧apt≤65535))) r0 r0) (tA (.bool (decide (0≤apt∧apt≤65535))) r0 (nn (rt (bR (tR (fB r0 (by(rw[EG ‹_›]; simp[h1,h2,h3]; done)) (aN.pk [] r0)))))))
   exact bA r0 (bA r0 (bA r0 (qt r0 (pf (v:=.bool false) r0 r0) (tA (.bool false) r0 (nn (rt (bR (tR (fB r0 (by(rw[EG ‹_›]; simp[h1,h2,h3]; done)) (aI.pk [] r0))))))))))
  exact bA r0 (bA r0 (bA r0 (qt r0 (pf (v:=.bool false) r0 r0) (tm (.bool false) r0 (bA r0 (bA r0 (bA r0 (qt r0 (pf (v:=.bool false) r0 r0) (tA (.bool false) r0 (nn (rt (bR (tR (fB r0 (by(rw[EG ‹_›]; simp[h1,h2]; done)) (aI.pk [] r0)))))))))))))))
 refine sr (qt r0 (dO r0 r0) (tA (.bool (decide (ak=3))) r0 (nn (bI r0 (fun h4=>?_) (fun h4=>?_)))))
 ·refine sr (qt r0 (fa 2 sW r0) (qt r0 (lD (aA an) aE 0 r0 eC) (cS aE r0 (Lw _ _ (by omega)) (fun w4 aR=>tm (.bool (nX an)) r0 (hP 25 r0 (fun h5=>?_) (fun h5=>?_))))))
  ·refine qh r0 (fa 1 pL r0) (qh r0 (lD (cD Aaq aq caq) aR 0 r0 j4) (qh r0 (dK aV r0) (qh r0 (dO r0 r0) (qt r0 (pt (v:=.bool (decide ((aq.length:Int)=0))) r0 r0) (tm (.bool (decide ((aq.length:Int)=0))) r0 (fF 31 r0 (fun h6=>?_) (fun h6=>?_)))))))
   ·refine qh r0 (fa 3 pV r0) (qh r0 (lD (I apt) aR 0 r0 cN) (cl ⟨_,rfl,rfl⟩ r0 (XO _ _) ?_))
    rintro _ w5 ⟨rfl,aZ⟩
    replace aZ:=aR.cJ aZ
    exact qt r0 (pt (v:=.bool (decide (0≤apt∧apt≤65535))) r0 r0) (tA (.bool (decide (0≤apt∧apt≤65535))) r0 (nn (rt (bR (tR (fB r0 (by(rw[CI ‹_›]; have RM:aq=[]:=vO (by omega); simp[RM,h1,h4,h5,h6]; done)) (aZ.pk [] r0)))))))
   exact bA r0 (bA r0 (bA r0 (qt r0 (pf (v:=.bool false) r0 r0) (tA (.bool false) r0 (nn (rt (bR (tR (fB r0 (by(rw[CI ‹_›]; have RM: ¬ aq=[]:=fun he=>absurd (by rw[he]; rfl:(aq.length:Int)=0) ‹_›; simp[RM,h1,h4,h5,h6]; done)) (aR.pk [] r0))))))))))
  exact bA r0 (bA r0 (bA r0 (bA r0 (qt r0 (pf (v:=.bool false) r0 r0) (tm (.bool false) r0 (bA r0 (bA r0 (bA r0 (qt r0 (pf (v:=.bool false) r0 r0) (tA (.bool false) r0 (nn (rt (bR (tR (fB r0 (by(rw[CI ‹_›]; simp[h1,h4,h5]; done)) (aR.pk [] r0))))))))))))))))
 refine sk (bN (nN (sr (tA (.bool false) r0 (nn (rt (fT (.bool false) r0 ?_)))))))
 have e7:false=dN ak aq an apt:=by exact(EH _ _ _ ‹_› ‹_›).symm
 exact⟨(aS (Value.bool) e7),(aE.pk [] r0)⟩
theorem AF (ak:Int) {Aaq:aM} {caq:Nat} (aq:aC) (an:aD) (apt:Int) (w:World) (haq:Sl w [] 1 Aaq aq.length caq (aq.map I)) (han_n:an.length≤1099511627776):bF prog 81 [.agg #[I ak,.slice Aaq aq.length caq,aA an,I apt]] w (fun v w'=>v=.bool (dN ak aq an apt)∧SH w w' [] []):=by
 refine fQ 30 func81 r0 r0 ?_
 have aK:=SH.refl w []
 have pM:aq.length≤9223372036854775807:=cB haq.cap haq.cO
 refine sr (bx (v:=.agg #[I ak,(Z4 Aaq aq caq),aA an,I apt]) (cs:=[I ak,(Z4 Aaq aq caq),aA an,I apt]) aK r0 r0 aH r0 (fun b1 w1 aE=>tA (.bool false) r0 (nn (sq (sr (qt r0 (fa 3 pV r0) (qt r0 (lD (I apt) aE 0 r0 cN) (cS aE r0 (wV _ 0 65535 _) (fun w2 aI=>qt r0 (nd r0) (nn (bI r0 (fun h1=>?_) (fun h1=>?_))))))))))))
 ·exact sr (tA (.bool false) r0 (nn (rt (tR (fB r0 (by exact(UK _ _ ‹_›).symm) (aI.pk [] r0))))))
 refine sk (nN (sq (sr (qt r0 (fa 0 o8 r0) (qt r0 (lD (I ak) aI 0 r0 cN) (nl (nN (bl (sr (qt r0 (dO r0 r0) (tA (sP ak) r0 (nn (bI r0 (fun h2=>?_) (fun h2=>?_))))))))))))))
 ·refine sr (qt r0 (fa 1 pL r0) (qt r0 (lD (cD Aaq aq caq) aI 0 r0 j4) (cS aI r0 (Bf _ _ (haq.aP aI)) (fun w3 aN=>tm (.bool (kO aq)) r0 (hP 14 r0 (fun h3=>?_) (fun h3=>?_))))))
  ·exact qh r0 (fa 2 sW r0) (qh r0 (lD (aA an) aN 0 r0 eC) (qh r0 (eqs r0 r0) (qt r0 (pt (v:=.bool (decide (an=[]))) r0 r0) (tA (yY an) r0 (nn (rt (bR (tR (fB r0 (by(rw[EG ‹_›]; have BK:0≤apt∧apt≤65535:=Decidable.not_not.1 ‹_›; simp[BK.1,BK.2,h1,h2,h3]; done)) (aN.pk [] r0))))))))))
  exact bA r0 (bA r0 (bA r0 (qt r0 (pf (v:=.bool false) r0 r0) (tA (.bool false) r0 (nn (rt (bR (tR (fB r0 (by(rw[EG ‹_›]; simp[h1,h2,h3]; done)) (aN.pk [] r0))))))))))
 refine sr (qt r0 (dO r0 r0) (tA (.bool (decide (ak=3))) r0 (nn (bI r0 (fun h4=>?_) (fun h4=>?_)))))
 ·refine sr (qt r0 (fa 2 sW r0) (qt r0 (lD (aA an) aI 0 r0 eC) (cS aI r0 (Tp _ _ (by omega)) (fun w4 aR=>tm (.bool (nX an)) r0 (hP 24 r0 (fun h5=>?_) (fun h5=>?_))))))
  ·exact qh r0 (fa 1 pL r0) (qh r0 (lD (cD Aaq aq caq) aR 0 r0 j4) (qh r0 (dK aV r0) (qh r0 (dO r0 r0) (qt r0 (pt (v:=.bool (decide ((aq.length:Int)=0))) r0 r0) (tA (.bool (decide ((aq.length:Int)=0))) r0 (nn (rt (bR (tR (fB r0 (by(rw[CI ‹_›]; have BK:0≤apt∧apt≤65535:=Decidable.not_not.1 ‹_›; simp[BK.1,BK.2,h1,h2,h4,h5]; done)) (aR.pk [] r0)))))))))))
  exact bA r0 (bA r0 (bA r0 (bA r0 (qt r0 (pf (v:=.bool false) r0 r0) (tA (.bool false) r0 (nn (rt (bR (tR (fB r0 (by(rw[CI ‹_›]; simp[h1,h2,h4,h5]; done)) (aR.pk [] r0)))))))))))
 refine sk (bN (nN (sr (tA (.bool false) r0 (nn (rt (fT (.bool false) r0 ?_)))))))
 have e6:false=dN ak aq an apt:=by exact(EH _ _ _ ‹_› ‹_›).symm
 exact⟨(aS (Value.bool) e6),(aI.pk [] r0)⟩
theorem NU (lu:aD) (lw:aD) (w:World) (HV:lu.length≤9223372036854775807) (HW:lw.length≤9223372036854775807):bF prog 60 [.agg #[aA lu,aA lw]] w (fun v w'=>v=.bool (iW lu lw)∧SH w w' [] []):=by
 refine fQ 21 func60 r0 r0 ?_
 have aK:=SH.refl w []
 refine sr (bx (v:=.agg #[aA lu,aA lw]) (cs:=[aA lu,aA lw]) aK r0 r0 aH r0 (fun b1 w1 aE=>tA (.bool false) r0 (nx (qt r0 (fa 0 BA r0) (qt r0 (lD (aA lu) aE 0 r0 eC) (qt r0 (v8 r0 r0) (tm (.bool (decide (lu≠[]))) r0 (fF 6 r0 (fun h1=>?_) (fun h1=>?_)))))))))
 ·refine qh r0 (fa 1 BB r0) (qh r0 (lD (aA lw) aE 0 r0 eC) (qh r0 (v8 r0 r0) (qt r0 (pt (v:=.bool (decide (lw≠[]))) r0 r0) (tm (.bool (decide (lw≠[]))) r0 (fF 11 r0 (fun h2=>?_) (fun h2=>?_))))))
  ·refine qh r0 (fa 0 BA r0) (qh r0 (lD (aA lu) aE 0 r0 eC) (cl ⟨_,rfl,rfl⟩ r0 (R1 _ _ (by omega)) ?_))
   rintro _ w2 ⟨rfl,aI⟩
   replace aI:=aE.cJ aI
   refine qt r0 (pt (v:=.bool (lO lu)) r0 r0) (tm (.bool (lO lu)) r0 (hP 16 r0 (fun h3=>?_) (fun h3=>?_)))
   ·refine qh r0 (fa 1 BB r0) (qh r0 (lD (aA lw) aI 0 r0 eC) (cl ⟨_,rfl,rfl⟩ r0 (R1 _ _ (by omega)) ?_))
    rintro _ w3 ⟨rfl,aN⟩
    replace aN:=aI.cJ aN
    refine qt r0 (pt (v:=.bool (lO lw)) r0 r0) (tA (.bool (lO lw)) r0 (nn (rt (fT (.bool (lO lw)) r0 ?_))))
    have e1:(lO lw)=iW lu lw:=by simp[iW,h1,h2,h3]
    exact⟨(aS (Value.bool) e1),(aN.pk [] r0)⟩
   exact bA r0 (bA r0 (bA r0 (qt r0 (pf (v:=.bool false) r0 r0) (tA (.bool false) r0 (nn (rt (fB r0 (by simp[iW,h1,h2,h3]) (aI.pk [] r0))))))))
  refine bA r0 (bA r0 (bA r0 (qt r0 (pf (v:=.bool false) r0 r0) (tm (.bool false) r0 (bA r0 (bA r0 (bA r0 (qt r0 (pf (v:=.bool false) r0 r0) (tA (.bool false) r0 (nn (rt (fT (.bool false) r0 ?_))))))))))))
  have e3:false=iW lu lw:=by simp[iW,h1,h2]
  exact⟨(aS (Value.bool) e3),(aE.pk [] r0)⟩
 refine bA r0 (bA r0 (bA r0 (qt r0 (pf (v:=.bool false) r0 r0) (tm (.bool false) r0 (bA r0 (bA r0 (bA r0 (qt r0 (pf (v:=.bool false) r0 r0) (tm (.bool false) r0 (bA r0 (bA r0 (bA r0 (qt r0 (pf (v:=.bool false) r0 r0) (tA (.bool false) r0 (nl (nN (rt (fT (.bool false) r0 ?_))))))))))))))))))
 have e4:false=iW lu lw:=by simp[iW,h1]
 exact⟨(aS (Value.bool) e4),(aE.pk [] r0)⟩
theorem O9 (lu:aD) (lw:aD) (w:World) (HV:lu.length≤9223372036854775807) (HW:lw.length≤9223372036854775807):bF prog 77 [.agg #[aA lu,aA lw]] w (fun v w'=>v=.bool (iW lu lw)∧SH w w' [] []):=by
 refine fQ 23 func77 r0 r0 ?_
 have aK:=SH.refl w []
 refine sr (bx (v:=.agg #[aA lu,aA lw]) (cs:=[aA lu,aA lw]) aK r0 r0 aH r0 (fun b1 w1 aE=>tA (.bool false) r0 (nx (qt r0 (fa 0 BA r0) (qt r0 (lD (aA lu) aE 0 r0 eC) (cS aE r0 (TJ _ _ (by omega)) (fun w2 aI=>tm (.bool (lO lu)) r0 (hP 6 r0 (fun h1=>?_) (fun h1=>?_)))))))))
 ·refine qh r0 (fa 1 BB r0) (qh r0 (lD (aA lw) aI 0 r0 eC) (cl ⟨_,rfl,rfl⟩ r0 (TJ _ _ (by omega)) ?_))
  rintro _ w3 ⟨rfl,aN⟩
  replace aN:=aI.cJ aN
  refine qt r0 (pt (v:=.bool (lO lw)) r0 r0) (tm (.bool (lO lw)) r0 (hP 11 r0 (fun h2=>?_) (fun h2=>?_)))
  ·refine qh r0 (fa 0 BA r0) (qh r0 (lD (aA lu) aN 0 r0 eC) (qh r0 (gG dI r0) (qh r0 (gtr r0 r0) (qt r0 (pt (v:=.bool (decide ((0:Int)<(lu.length:Int)))) r0 r0) (tm (.bool (decide ((0:Int)<(lu.length:Int)))) r0 (fF 17 r0 (fun h3=>?_) (fun h3=>?_)))))))
   ·refine qh r0 (fa 1 BB r0) (qh r0 (lD (aA lw) aN 0 r0 eC) (qh r0 (gG dI r0) (qh r0 (gtr r0 r0) (qt r0 (pt (v:=.bool (decide ((0:Int)<(lw.length:Int)))) r0 r0) (tA (.bool (decide ((0:Int)<(lw.length:Int)))) r0 (nn (rt (fT (.bool (decide ((0:Int)<(lw.length:Int)))) r0 ?_))))))))
    have e1:(decide ((0:Int)<(lw.length:Int)))=iW lu lw:=by simp only[OA]; simp only[h1,h2,h3,decide_true,decide_false,D6,D5,u9,GZ]
    exact⟨(aS (Value.bool) e1),(aN.pk [] r0)⟩
   refine bA r0 (bA r0 (bA r0 (bA r0 (qt r0 (pf (v:=.bool false) r0 r0) (tA (.bool false) r0 (nn (rt (fT (.bool false) r0 ?_))))))))
   have e2:false=iW lu lw:=by simp only[OA]; simp only[h1,h2,h3,decide_true,decide_false,D6,D5,u9,GZ]
   exact⟨(aS (Value.bool) e2),(aN.pk [] r0)⟩
  refine bA r0 (bA r0 (bA r0 (bA r0 (qt r0 (pf (v:=.bool false) r0 r0) (tm (.bool false) r0 (bA r0 (bA r0 (bA r0 (bA r0 (qt r0 (pf (v:=.bool false) r0 r0) (tA (.bool false) r0 (nn (rt (fT (.bool false) r0 ?_))))))))))))))
  have e3:false=iW lu lw:=by simp only[OA]; simp only[h1,h2,decide_true,decide_false,D6,D5,u9,GZ]
  exact⟨(aS (Value.bool) e3),(aN.pk [] r0)⟩
 refine bA r0 (bA r0 (bA r0 (qt r0 (pf (v:=.bool false) r0 r0) (tm (.bool false) r0 (bA r0 (bA r0 (bA r0 (bA r0 (qt r0 (pf (v:=.bool false) r0 r0) (tm (.bool false) r0 (bA r0 (bA r0 (bA r0 (bA r0 (qt r0 (pf (v:=.bool false) r0 r0) (tA (.bool false) r0 (nn (rt (fT (.bool false) r0 ?_)))))))))))))))))))
 have e4:false=iW lu lw:=by simp only[OA]; simp only[h1,decide_true,decide_false,D6,D5,u9,GZ]
 exact⟨(aS (Value.bool) e4),(aI.pk [] r0)⟩
theorem r7 (s:aD) (w:World) (hs_n:s.length≤2147483648):bF prog 109 [aA s] w (fun v w'=>∃ Ar:aM,∃ cr:Nat,v=.slice Ar (aW s).length cr∧SH w w' [] [.own Ar ((aW s).length) cr 3 1 ((aW s).map I)]):=by
 refine fQ 22 func109 r0 r0 ?_
 have aK:=SH.refl w []
 refine sr (tA ns r0 (nx (tm (aA s) r0 (qt r0 (gG dI r0) (DE (g:=I) (z:=0) (n:=s.length) aK aV r0 r0 r0 (by omega) (by unfold maxLen; omega) aH r0 (fun b1 w1 aE=>tA (sb b1 ((List.replicate s.length (0:Int)).length) s.length) r0 (nn (sq (sr (tm (sb b1 ((List.replicate s.length (0:Int)).length) s.length) r0 (qt r0 (dK aV r0) (tm (I 0) r0 (nn (bl ?_))))))))))))))
 have e1:List.replicate s.length (0:Int)=(aW s).take 0++List.replicate (s.length-0) (0:Int):=by simp
 have e2:(List.replicate s.length (0:Int)).length=s.length:=by(simp; done)
 refine lp (σ:=(aM)×Nat×Nat) (fun⟨k9,k6,k⟩ f w'=>Hz f [(0,aA s),(3,.slice k9 s.length k6),(9,I (((List.replicate s.length (0:Int)).length:Nat):Int)),(10,I (k:Int))]∧(k≤s.length)∧SH w w' [] [.own k9 s.length k6 3 1 (((aW s).take k++List.replicate (s.length-k) (0:Int)).map I)]) (fun⟨k9,k6,k⟩=>s.length-k) ((Z7 b1),s.length,0) ⟨(zH ⟨rfl,(show (.slice (Z7 b1) ((List.replicate s.length (0:Int)).length) s.length:Value)=.slice (Z7 b1) s.length s.length from eE r0 e2 r0),rfl,rfl,aH⟩),(by simp),(aE.cast (lc (dZ (g:=I) r0 e2 r0 e1) r0))⟩ ?_
 rintro ⟨k9,k6,k⟩ f w2 ⟨⟨g1,rfl⟩,hk,aI⟩
 refine sr (qt r0 (lss r0 r0) (nn (sq (bI r0 (fun h1=>?_) (fun h1=>?_)))))
 ·refine sk (nN (sq (bl (sr (tm (I (k:Int)) r0 (tA (I (k:Int)) r0 (nn (rg (tm (.slice k9 s.length k6) r0 (tm (I (k:Int)) r0 (tm (aA s) r0 (tm (I (k:Int)) r0 (qt r0 (l5 k dI r0 r0 (by omega)) (qt r0 (EV (a:=(((s.getD k 0).toNat:Nat):Int)) (s:=.u8) tJ xB r0 (by have:=iL ((s.getD k 0)); exact⟨by omega,by omega⟩)) ?_))))))))))))))
  obtain ⟨b2,rfl⟩:=sA aI 0 r0 (by omega)
  refine qt r0 (lR k aV r0 r0 (by omega)) (DQ (g:=I) (ys:=(aW s).take k++List.replicate (s.length-k) (0:Int)) (o:=k) (u:=(((s.getD k 0).toNat:Nat):Int)) aI 0 r0 r0 r0 r0 (by omega) r0 cN aH (fun w3 aN=>nl (bN (nN (rg (qt r0 (add r0 r0 (by exact⟨by omega,by omega⟩)) (tm (I ((k:Int)+1)) r0 (nn ?_))))))))
  have e3:((aW s).take k++List.replicate (s.length-k) (0:Int)).set k (((s.getD k 0).toNat:Nat):Int)=(aW s).take (k+1)++List.replicate (s.length-(k+1)) (0:Int):=by exact Xi (by omega)
  refine⟨((Z7 b2),k6,k+1),⟨(zR r0),(by omega),(aN.cast (lc (dZ (g:=I) r0 r0 r0 e3) r0))⟩,?_⟩
  show s.length-(k+1)<s.length-k
  omega
 refine ex (tE (tE (bE (nN (sr (tm (.slice k9 s.length k6) r0 (tA (.slice k9 s.length k6) r0 (nn (rt (fT (.slice k9 s.length k6) r0 ?_))))))))))
 have e4:(aW s).take k++List.replicate (s.length-k) (0:Int)=aW s:=by have:k=s.length:=(by omega); subst this; rw[Cw (lA _)]; simp
 have e5:s.length=(aW s).length:=by exact(show s.length=((aW s).take k++List.replicate (s.length-k) (0:Int)).length by(simp[cT]; omega)).trans (aS List.length e4)
 exact⟨k9,k6,(eE r0 e5 r0),(aI.cast (lc (dZ (g:=I) r0 e5 r0 e4) r0))⟩
theorem DL (s:aD) (w:World) (hs_n:s.length≤2147483648):bF prog 88 [aA s] w (fun v w'=>∃ Ar:aM,∃ cr:Nat,v=.slice Ar (aW s).length cr∧SH w w' [] [.own Ar ((aW s).length) cr 3 1 ((aW s).map I)]):=by
 refine fQ 20 func88 r0 r0 ?_
 have aK:=SH.refl w []
 refine sr (tA ns r0 (nx (cR aK aV [] [] aH r0 (fun b1 w1 aE=>tA (sb b1 (([]:aC).length) 0) r0 (nn (sq (sr (tA (I 0) r0 (nl (nN (bl ?_)))))))))))
 have e1:([]:aC)=(aW s).take 0:=by simp
 have e2:([]:aC).length=((aW s).take 0).length:=by rw[e1]
 refine lp (σ:=(aM)×Nat×Nat) (fun⟨k9,k6,k⟩ f w'=>Hz f [(0,aA s),(3,.slice k9 (((aW s).take k).length) k6),(4,I (k:Int))]∧(k≤s.length)∧SH w w' [] [.own k9 (((aW s).take k).length) k6 3 1 (((aW s).take k).map I)]) (fun⟨k9,k6,k⟩=>s.length-k) ((Z7 b1),0,0) ⟨(zH ⟨rfl,(show (.slice (Z7 b1) (([]:aC).length) 0:Value)=.slice (Z7 b1) (((aW s).take 0).length) 0 from eE r0 e2 r0),rfl,aH⟩),(by simp),(aE.cast (lc (dZ (g:=I) r0 e2 r0 e1) r0))⟩ ?_
 rintro ⟨k9,k6,k⟩ f w2 ⟨⟨g1,rfl⟩,hk,aI⟩
 refine sq (sr (tm (I (k:Int)) r0 (tm (aA s) r0 (qt r0 (gG dI r0) (qt r0 (lss r0 r0) (nl (nN (bI r0 (fun h1=>?_) (fun h1=>?_)))))))))
 ·refine sk (nN (sq (bl (rg (tm (.slice k9 (((aW s).take k).length) k6) r0 (tm (aA s) r0 (tm (I (k:Int)) r0 (qt r0 (l5 k dI r0 r0 (by omega)) (qt r0 (EV (a:=(((s.getD k 0).toNat:Nat):Int)) (s:=.u8) tJ xB r0 (by have:=iL ((s.getD k 0)); exact⟨by omega,by omega⟩)) (cR aI aV [I (((s.getD k 0).toNat:Nat):Int)] [I (((s.getD k 0).toNat:Nat):Int)] aH r0 (fun b2 w3 aN=>gI (g:=I) (ys:=(aW s).take k) (zs:=([(((s.getD k 0).toNat:Nat):Int)]:aC)) aN 0 r0 aV r0 r0 r0 (aN.cI 1 r0) (fun _=>rfl) (by unfold maxLen; have htl:=cT s; simp only[dV,bP,bK]; omega) (by have htl:=cT s; simp only[dV,bP,bK]; omega) aH r0 (fun A1 c1 w4 aR=>tA (.slice A1 ((((aW s).take k)++([(((s.getD k 0).toNat:Nat):Int)]:aC)).length) c1) r0 (nl (bN (nN (rg (tm (I (k:Int)) r0 (qt r0 (add r0 r0 (by(exact⟨by omega,by omega⟩))) (tA (I ((k:Int)+1)) r0 (nn ?_))))))))))))))))))))
  have e3:((aW s).take k)++([(((s.getD k 0).toNat:Nat):Int)]:aC)=(aW s).take (k+1):=by exact Xh (by omega)
  have e4:(((aW s).take k)++([(((s.getD k 0).toNat:Nat):Int)]:aC)).length=((aW s).take (k+1)).length:=by rw[e3]
  refine⟨(A1,c1,k+1),⟨(zH ⟨rfl,(show (.slice A1 ((((aW s).take k)++([(((s.getD k 0).toNat:Nat):Int)]:aC)).length) c1:Value)=.slice A1 (((aW s).take (k+1)).length) c1 from eE r0 e4 r0),rfl,aH⟩),(by omega),((aR.pq [1] r0).cast (lc (dZ (g:=I) r0 e4 r0 e3) r0))⟩,?_⟩
  show s.length-(k+1)<s.length-k
  omega
 refine ex (tE (tE (bE (nN (sr (tm (.slice k9 (((aW s).take k).length) k6) r0 (tA (.slice k9 (((aW s).take k).length) k6) r0 (nn (rt (fT (.slice k9 (((aW s).take k).length) k6) r0 ?_))))))))))
 have e5:(aW s).take k=aW s:=by exact Cw (by omega)
 have e6:=aS List.length e5
 exact⟨k9,k6,(eE r0 e6 r0),(aI.cast (lc (dZ (g:=I) r0 e6 r0 e5) r0))⟩
theorem NV (n:Int) (w:World) (hn:0≤n∧n≤65535):bF prog 108 [I n,I 2] w (fun v w'=>∃ Ar:aM,∃ cr:Nat,v=.slice Ar (bB n).length cr∧SH w w' [] [.own Ar ((bB n).length) cr 3 1 ((bB n).map I)]):=by
 refine fQ 27 func108 r0 r0 ?_
 have aK:=SH.refl w []
 refine sr (tA ns r0 (nx (tm (I 2) r0 (DE (g:=I) (z:=0) (n:=2) aK aV r0 r0 r0 (by omega) (by unfold maxLen; omega) aH r0 (fun b1 w1 aE=>tA (sb b1 ((List.replicate 2 (0:Int)).length) 2) r0 (nn (sq (sr (tm (sb b1 ((List.replicate 2 (0:Int)).length) 2) r0 (qt r0 (dK aV r0) (tm (I 0) r0 (nn (bl ?_)))))))))))))
 have e1:List.replicate 2 (0:Int)=(bB n).take 0++List.replicate (2-0) (0:Int):=by simp
 have e2:(List.replicate 2 (0:Int)).length=2:=by rfl
 refine lp (σ:=(aM)×Nat×Nat) (fun⟨iM,iG,k⟩ f w'=>Hz f [(0,I n),(1,I 2),(5,.slice iM 2 iG),(10,I (((List.replicate 2 (0:Int)).length:Nat):Int)),(11,I (k:Int))]∧(k≤2)∧SH w w' [] [.own iM 2 iG 3 1 (((bB n).take k++List.replicate (2-k) (0:Int)).map I)]) (fun⟨iM,iG,k⟩=>2-k) ((Z7 b1),2,0) ⟨(zH ⟨rfl,rfl,(show (.slice (Z7 b1) ((List.replicate 2 (0:Int)).length) 2:Value)=.slice (Z7 b1) 2 2 from eE r0 e2 r0),rfl,rfl,aH⟩),(by simp),(aE.cast (lc (dZ (g:=I) r0 e2 r0 e1) r0))⟩ ?_
 rintro ⟨iM,iG,k⟩ f w2 ⟨⟨g1,rfl⟩,hk,aI⟩
 refine sr (qt r0 (lss r0 r0) (nn (sq (bI r0 (fun h1=>?_) (fun h1=>?_)))))
 ·refine sk (nN (sq (bl (sr (tm (I (k:Int)) r0 (tA (I (k:Int)) r0 (nn (rg (tm (.slice iM 2 iG) r0 (tm (I (k:Int)) r0 (tm (I n) r0 (tm (I 2) r0 (qt r0 (sub r0 r0 (by exact⟨by omega,by omega⟩)) (tm (I (k:Int)) r0 (qt r0 (sub r0 r0 (by exact⟨by omega,by omega⟩)) (qt r0 (mul r0 r0 (by exact⟨by omega,by omega⟩)) (qt r0 (shr (a:=n) (b:=8*(((2:Int)-1)-(k:Int))) r0 r0 (by omega) (by omega)) (qt r0 (Fi (a:=n / 2 ^ (8*(((2:Int)-1)-(k:Int))).toNat) r0 r0 (by exact Qm hn) (by exact Qn hn)) ?_))))))))))))))))))
  obtain ⟨b2,rfl⟩:=sA aI 0 r0 (by omega)
  refine qt r0 (lR k aV r0 r0 (by omega)) (DQ (g:=I) (ys:=(bB n).take k++List.replicate (2-k) (0:Int)) (o:=k) (u:=(n / 2 ^ (8*(((2:Int)-1)-(k:Int))).toNat) % 256) aI 0 r0 r0 r0 r0 (by omega) r0 cN aH (fun w3 aN=>nl (bN (nN (rg (qt r0 (add r0 r0 (by exact⟨by omega,by omega⟩)) (tm (I ((k:Int)+1)) r0 (nn ?_))))))))
  have e3:((bB n).take k++List.replicate (2-k) (0:Int)).set k ((n / 2 ^ (8*(((2:Int)-1)-(k:Int))).toNat) % 256)=(bB n).take (k+1)++List.replicate (2-(k+1)) (0:Int):=by exact Qh (by omega)
  refine⟨((Z7 b2),iG,k+1),⟨(zR r0),(by omega),(aN.cast (lc (dZ (g:=I) r0 r0 r0 e3) r0))⟩,?_⟩
  show 2-(k+1)<2-k
  omega
 refine ex (tE (tE (bE (nN (sr (tm (.slice iM 2 iG) r0 (tA (.slice iM 2 iG) r0 (nn (rt (fT (.slice iM 2 iG) r0 ?_))))))))))
 have e4:(bB n).take k++List.replicate (2-k) (0:Int)=bB n:=by have:k=2:=(by omega); subst this; simp[bB]
 have e5:2=(bB n).length:=by exact(show 2=((bB n).take k++List.replicate (2-k) (0:Int)).length by(simp[bB]; omega)).trans (aS List.length e4)
 exact⟨iM,iG,(eE r0 e5 r0),(aI.cast (lc (dZ (g:=I) r0 e5 r0 e4) r0))⟩
theorem PB (n:Int) (w:World) (hn:0≤n∧n≤65535):bF prog 133 [I n,I 2] w (fun v w'=>∃ Ar:aM,∃ cr:Nat,v=.slice Ar (bB n).length cr∧SH w w' [] [.own Ar ((bB n).length) cr 3 1 ((bB n).map I)]):=by
 refine fQ 23 func133 r0 r0 ?_
 have aK:=SH.refl w []
 refine sr (tA ns r0 (nx (tm (I 2) r0 (DE (g:=I) (z:=0) (n:=2) aK aV r0 r0 r0 (by omega) (by unfold maxLen; omega) aH r0 (fun b1 w1 aE=>tA (sb b1 ((List.replicate 2 (0:Int)).length) 2) r0 (nn (sq (sr (tm (I 2) r0 (qt r0 (sub r0 r0 (by exact⟨by omega,by omega⟩)) (tA (I ((2:Int)-1)) r0 (nn (bl ?_)))))))))))))
 have e1:List.replicate 2 (0:Int)=AD n 0:=by simp[AD]
 have e2:(List.replicate 2 (0:Int)).length=2:=by rfl
 refine lp (σ:=(aM)×Nat×Nat×Int) (fun⟨iM,iG,k,m⟩ f w'=>Hz f [(0,I m),(5,.slice iM 2 iG),(6,I (1-(k:Int)))]∧(k≤2)∧(m=KT n k)∧(0≤m∧m≤65535)∧SH w w' [] [.own iM 2 iG 3 1 ((AD n k).map I)]) (fun⟨iM,iG,k,m⟩=>2-k) ((Z7 b1),2,0,n) ⟨(zH ⟨rfl,(show (.slice (Z7 b1) ((List.replicate 2 (0:Int)).length) 2:Value)=.slice (Z7 b1) 2 2 from eE r0 e2 r0),(show (I ((2:Int)-1):Value)=I (1-((0:Nat):Int)) from aS (Value.int .i64) (by simp)),aH⟩),(by simp),(by simp[KT]),(hn),(aE.cast (lc (dZ (g:=I) r0 e2 r0 e1) r0))⟩ ?_
 rintro ⟨iM,iG,k,m⟩ f w2 ⟨⟨g1,rfl⟩,hk,hm,Kt,aI⟩
 refine sq (sr (tm (I (1-(k:Int))) r0 (qt r0 (geq r0 r0) (nn (bI r0 (fun h1=>?_) (fun h1=>?_))))))
 ·refine sk (nN (sq (bl (sr (tm (.slice iM 2 iG) r0 (tm (I (1-(k:Int))) r0 (tm (I m) r0 (qt r0 (rem r0 r0 (by omega) (by omega)) ?_))))))))
  obtain ⟨b2,rfl⟩:=sA aI 0 r0 (by omega)
  refine qt r0 (lR ((1-(k:Int)).toNat) aV r0 (jK (x:=1-(k:Int)) (by omega)) (by omega)) (DQ (g:=I) (ys:=AD n k) (o:=(1-(k:Int)).toNat) (u:=m % 256) aI 0 r0 r0 r0 r0 (by omega) r0 cN aH (fun w3 aN=>nn (rg (tm (I m) r0 (qt r0 (quo (a:=m) (b:=256) r0 r0 (by omega) (by omega) (by omega)) (tA (I (m / 256)) r0 (nl (bN (nN (rg (tm (I (1-(k:Int))) r0 (qt r0 (sub r0 r0 (by exact⟨by omega,by omega⟩)) (tA (I ((1-(k:Int))-1)) r0 (nn ?_))))))))))))))
  have e3:(AD n k).set ((1-(k:Int)).toNat) (m % 256)=AD n (k+1):=by rw[hm]; exact Ql (by omega) (by omega)
  refine⟨((Z7 b2),iG,k+1,m / 256),⟨(zH ⟨rfl,rfl,(show (I ((1-(k:Int))-1):Value)=I (1-(((k+1):Nat):Int)) from aS (Value.int .i64) (by omega)),aH⟩),(by omega),(by rw[hm]; exact Qk (by omega)),(by omega),(aN.cast (lc (dZ (g:=I) r0 r0 r0 e3) r0))⟩,?_⟩
  show 2-(k+1)<2-k
  omega
 refine ex (tE (tE (bE (nN (sr (tm (.slice iM 2 iG) r0 (tA (.slice iM 2 iG) r0 (nn (rt (fT (.slice iM 2 iG) r0 ?_))))))))))
 have e4:AD n k=bB n:=by have:k=2:=(by omega); subst this; rfl
 have e5:2=(bB n).length:=by exact(show 2=(AD n k).length by(have:k=2:=(by omega); subst this; rfl)).trans (aS List.length e4)
 exact⟨iM,iG,(eE r0 e5 r0),(aI.cast (lc (dZ (g:=I) r0 e5 r0 e4) r0))⟩
theorem RW (ak:Int) {Aaq:aM} {caq:Nat} (aq:aC) (an:aD) (apt:Int) (w:World) (haq:Sl w [] 1 Aaq aq.length caq (aq.map I)) (han_n:an.length≤1099511627776) (hok:dN ak aq an apt=true):bF prog 111 [.agg #[I ak,.slice Aaq aq.length caq,aA an,I apt]] w (fun v w'=>∃ Ar:aM,∃ cr:Nat,v=.slice Ar (iZ ak aq an apt).length cr∧SH w w' [] [.own Ar ((iZ ak aq an apt).length) cr 3 1 ((iZ ak aq an apt).map I)]):=by
 refine fQ 29 func111 r0 r0 ?_
 have aK:=SH.refl w []
 have pM:aq.length≤9223372036854775807:=cB haq.cap haq.cO
 refine sr (bx (v:=.agg #[I ak,(Z4 Aaq aq caq),aA an,I apt]) (cs:=[I ak,(Z4 Aaq aq caq),aA an,I apt]) aK r0 r0 aH r0 (fun b1 w1 aE=>tA ns r0 (nx (qt r0 (fa 0 o8 r0) (qt r0 (lD (I ak) aE 0 r0 cN) (cR aE aV [I ak] [I ak] aH r0 (fun b2 w2 aI=>tA (sb b2 (([ak]:aC).length) 1) r0 (nn (sq (sr (qt r0 (fa 0 o8 r0) (qt r0 (lD (I ak) aI 0 r0 cN) (qt r0 (dO r0 r0) (nn (bI r0 (fun h1=>?_) (fun h1=>?_))))))))))))))))
 ·have haf:=fK hok
  have htl:=cT an
  refine rg (tm (sb b2 (([ak]:aC).length) 1) r0 (qt r0 (fa 1 pL r0) (qt r0 (lD (cD Aaq aq caq) aI 0 r0 j4) (gI (g:=I) (ys:=([ak]:aC)) (zs:=aq) aI 1 r0 aV r0 r0 r0 (haq.aP aI) (fun _=>rfl) (by unfold maxLen; have hnb:(bB apt).length=2:=rfl; simp only[bH,bP,bK]; omega) (by have hnb:(bB apt).length=2:=rfl; simp only[bH,bP,bK]; omega) aH r0 (fun A1 c1 w3 aN=>tA (.slice A1 ((([ak]:aC)++aq).length) c1) r0 (nx (tm (.slice A1 ((([ak]:aC)++aq).length) c1) r0 (qt r0 (fa 3 pV r0) (qt r0 (lD (I apt) aN 0 r0 cN) (dP aN r0 (NV _ _ (by(have hnb:(bB apt).length=2:=rfl; omega))) (fun A2 c2 w4 aR=>gI (g:=I) (ys:=([ak]:aC)++aq) (zs:=bB apt) aR 1 r0 aV r0 r0 r0 (aR.cI 2 r0) (fun _=>rfl) (by unfold maxLen; have hnb:(bB apt).length=2:=rfl; simp only[bH,bP,bK]; omega) (by have hnb:(bB apt).length=2:=rfl; simp only[bH,bP,bK]; omega) aH r0 (fun A3 c3 w5 aZ=>tA (.slice A3 (((([ak]:aC)++aq)++(bB apt)).length) c3) r0 (nn (rt (fT (.slice A3 (((([ak]:aC)++aq)++(bB apt)).length) c3) r0 ?_)))))))))))))))
  have e1:(([ak]:aC)++aq)++(bB apt)=iZ ak aq an apt:=by simp[iZ,h1]
  have e2:=aS List.length e1
  exact⟨A3,c3,(eE r0 e2 r0),((aZ.pq [2] r0).cast (lc (dZ (g:=I) r0 e2 r0 e1) r0))⟩
 refine kA (fun w'=>∃ L,SH w w' [] L∧(.blk b1 74 [I ak,(Z4 Aaq aq caq),aA an,I apt])∈L∧True) (fun f w'=>∃ (rQ:Nat) (n7:aM) (oB:Nat) (DW:aM) (EN:Nat),Hz f [(1,pB b1),(3,.slice DW (((([ak]:aC)++(gF an))++(aW an)).length) EN)]∧SH w w' [] [.blk b1 74 [I ak,(Z4 Aaq aq caq),aA an,I apt],.own DW (((([ak]:aC)++(gF an))++(aW an)).length) EN 3 1 (((([ak]:aC)++(gF an))++(aW an)).map I),oI rQ (gF an) 1 3,(lX n7 an oB)]) mixed ?_ ?_
 ·refine dG 2 11 511 (fun f w'=>∃ (rQ:Nat) (jD:aM) (jF:Nat) (n7:aM) (oB:Nat),Hz f [(1,pB b1),(3,sb b2 (([ak]:aC).length) 1),(19,.slice jD ((([ak]:aC)++(gF an)).length) jF),(22,.slice n7 ((aW an).length) oB)]∧SH w w' [] [.blk b1 74 [I ak,(Z4 Aaq aq caq),aA an,I apt],.own jD ((([ak]:aC)++(gF an)).length) jF 3 1 ((([ak]:aC)++(gF an)).map I),oI rQ (gF an) 1 3,(lX n7 an oB)]) ?_ (fun D_4_0=>?_)
  ·rintro f w6 ⟨rQ,jD,jF,n7,oB,⟨g1,rfl⟩,bG⟩
   have haf:=fK hok
   have htl:=cT an
   refine aO 9 r0 (gI (g:=I) (ys:=([ak]:aC)++(gF an)) (zs:=aW an) bG 1 r0 aV r0 r0 r0 (bG.cI 3 r0) (fun _=>rfl) (by unfold maxLen; have hnb:(bB apt).length=2:=rfl; simp only[bH,bP,bK]; omega) (by have hnb:(bB apt).length=2:=rfl; simp only[bH,bP,bK]; omega) aH r0 (fun DW EN w7 bU=>nk (m1 bU 0 r0) (tQ (fuel:=0) (is:=[10]) (.cons r0 (.nil)) (m1 bU 0 r0) (yA r0 (fW (v:=.slice DW (((([ak]:aC)++(gF an))++(aW an)).length) EN) r0) (.nil (aQ ?_))))))
   exact⟨rQ,n7,oB,DW,EN,(zR r0),(bU.pk [0,3,1,2] r0)⟩
  refine dG 3 11 255 (fun f w'=>∃ (rQ:Nat) (jD:aM) (jF:Nat),Hz f [(1,pB b1),(3,sb b2 (([ak]:aC).length) 1),(19,.slice jD ((([ak]:aC)++(gF an)).length) jF),(21,aA an)]∧SH w w' [] [.blk b1 74 [I ak,(Z4 Aaq aq caq),aA an,I apt],.own jD ((([ak]:aC)++(gF an)).length) jF 3 1 ((([ak]:aC)++(gF an)).map I),oI rQ (gF an) 1 3]) ?_ (fun D_4_1=>?_)
  ·rintro f w8 ⟨rQ,jD,jF,⟨g2,rfl⟩,bV⟩
   exact aO 8 r0 (dP bV r0 (r7 _ _ (by(have haf:=fK hok; have htl:=cT an; have hnb:(bB apt).length=2:=rfl; omega))) (fun n7 oB w9 b9=>nk (m1 b9 0 r0) (bS D_4_0 ⟨rQ,jD,jF,n7,oB,(zR r0),b9⟩)))
  refine dG 4 11 223 (fun f w'=>∃ (rQ:Nat),Hz f [(1,pB b1),(3,sb b2 (([ak]:aC).length) 1),(14,sb b2 (([ak]:aC).length) 1),(18,sb rQ ((gF an).length) 1),(21,aA an)]∧SH w w' [] [.blk b1 74 [I ak,(Z4 Aaq aq caq),aA an,I apt],oI b2 ([ak]:aC) 1 3,oI rQ (gF an) 1 3]) ?_ (fun D_4_2=>?_)
  ·rintro f kF ⟨rQ,⟨g3,rfl⟩,cM⟩
   exact aO 5 r0 (gI (g:=I) (ys:=([ak]:aC)) (zs:=(gF an)) cM 1 r0 aV r0 r0 r0 (cM.cI 2 r0) (fun _=>rfl) (by unfold maxLen; have haf:=fK hok; have htl:=cT an; have hnb:(bB apt).length=2:=rfl; simp only[bH,bP,bK]; omega) (by have haf:=fK hok; have htl:=cT an; have hnb:(bB apt).length=2:=rfl; simp only[bH,bP,bK]; omega) aH r0 (fun jD jF kB cW=>nk (m1 cW 0 r0) (bS D_4_1 ⟨rQ,jD,jF,(zR r0),(cW.pk [0,2,1] r0)⟩)))
  refine dG 5 11 207 (fun f w'=>Hz f [(1,pB b1),(3,sb b2 (([ak]:aC).length) 1),(14,sb b2 (([ak]:aC).length) 1),(17,I (an.length:Int)),(21,aA an)]∧SH w w' [] [.blk b1 74 [I ak,(Z4 Aaq aq caq),aA an,I apt],oI b2 ([ak]:aC) 1 3]) ?_ (fun D_4_3=>?_)
  ·rintro f kI ⟨⟨g4,rfl⟩,dB⟩
   exact aO 4 r0 (cR dB aV (qT an) (qT an) aH r0 (fun rQ lU cY=>nk (m1 cY 0 r0) (bS D_4_2 ⟨rQ,(zR r0),cY⟩)))
  have dJ:=aI.drew
  exact tQ (fuel:=5) (is:=[0,1,2,3,6,7]) (.cons r0 (.cons r0 (.cons r0 (.cons r0 (.cons r0 (.cons r0 (.nil))))))) (m1 dJ 0 r0) (yA r0 (mv (v:=sb b2 (([ak]:aC).length) 1) r0) (yA r0 (fa 2 sW r0) (yB r0 (fun ⟨Lq,aU,dH,_⟩=>lM (aA an) aU dH r0 eC) (yA r0 (gG dI r0) (yA r0 (fa 2 sW r0) (yB r0 (fun ⟨Lq,aU,dH,_⟩=>lM (aA an) aU dH r0 eC) (.nil (bS D_4_3 ⟨(zR r0),dJ⟩))))))))
 rintro f mH ⟨rQ,n7,oB,DW,EN,⟨g5,rfl⟩,dM⟩
 refine nN ?_
 have eO:=dM.pq [0,1] r0
 refine sr (tm (.slice DW (((([ak]:aC)++(gF an))++(aW an)).length) EN) r0 (qt r0 (fa 3 pV r0) (qt r0 (lD (I apt) eO 0 r0 cN) (dP eO r0 (NV _ _ (by(have haf:=fK hok; have htl:=cT an; have hnb:(bB apt).length=2:=rfl; omega))) (fun A4 c4 mI eK=>gI (g:=I) (ys:=(([ak]:aC)++(gF an))++(aW an)) (zs:=bB apt) eK 1 r0 aV r0 r0 r0 (eK.cI 2 r0) (fun _=>rfl) (by unfold maxLen; have haf:=fK hok; have htl:=cT an; have hnb:(bB apt).length=2:=rfl; simp only[bH,bP,bK]; omega) (by have haf:=fK hok; have htl:=cT an; have hnb:(bB apt).length=2:=rfl; simp only[bH,bP,bK]; omega) aH r0 (fun A5 c5 mU eZ=>tA (.slice A5 ((((([ak]:aC)++(gF an))++(aW an))++(bB apt)).length) c5) r0 (nn (rt (fT (.slice A5 ((((([ak]:aC)++(gF an))++(aW an))++(bB apt)).length) c5) r0 ?_)))))))))
 have e3:((([ak]:aC)++(gF an))++(aW an))++(bB apt)=iZ ak aq an apt:=by simp[iZ,h1]
 have e4:=aS List.length e3
 exact⟨A5,c5,(eE r0 e4 r0),((eZ.pq [2] r0).cast (lc (dZ (g:=I) r0 e4 r0 e3) r0))⟩
theorem Tc (ak:Int) {Aaq:aM} {caq:Nat} (aq:aC) (an:aD) (apt:Int) (w:World) (haq:Sl w [] 1 Aaq aq.length caq (aq.map I)) (han_n:an.length≤1099511627776) (hok:dN ak aq an apt=true):bF prog 136 [.agg #[I ak,.slice Aaq aq.length caq,aA an,I apt]] w (fun v w'=>∃ Ar:aM,∃ cr:Nat,v=.slice Ar (iZ ak aq an apt).length cr∧SH w w' [] [.own Ar ((iZ ak aq an apt).length) cr 3 1 ((iZ ak aq an apt).map I)]):=by
 refine fQ 30 func136 r0 r0 ?_
 have aK:=SH.refl w []
 have pM:aq.length≤9223372036854775807:=cB haq.cap haq.cO
 refine sr (bx (v:=.agg #[I ak,(Z4 Aaq aq caq),aA an,I apt]) (cs:=[I ak,(Z4 Aaq aq caq),aA an,I apt]) aK r0 r0 aH r0 (fun b1 w1 aE=>tA ns r0 (nx (qt r0 (fa 0 o8 r0) (qt r0 (lD (I ak) aE 0 r0 cN) (cR aE aV [I ak] [I ak] aH r0 (fun b2 w2 aI=>tA (sb b2 (([ak]:aC).length) 1) r0 (nn (sq (sr (qt r0 (fa 0 o8 r0) (qt r0 (lD (I ak) aI 0 r0 cN) (qt r0 (dO r0 r0) (nn (bI r0 (fun h1=>?_) (fun h1=>?_))))))))))))))))
 ·have haf:=fK hok
  have htl:=cT an
  refine rg (tm (sb b2 (([ak]:aC).length) 1) r0 (qt r0 (fa 1 pL r0) (qt r0 (lD (cD Aaq aq caq) aI 0 r0 j4) (gI (g:=I) (ys:=([ak]:aC)) (zs:=aq) aI 1 r0 aV r0 r0 r0 (haq.aP aI) (fun _=>rfl) (by unfold maxLen; have hnb:(bB apt).length=2:=rfl; simp only[bH,bP,bK]; omega) (by have hnb:(bB apt).length=2:=rfl; simp only[bH,bP,bK]; omega) aH r0 (fun A1 c1 w3 aN=>tA (.slice A1 ((([ak]:aC)++aq).length) c1) r0 (nx (tm (.slice A1 ((([ak]:aC)++aq).length) c1) r0 (qt r0 (fa 3 pV r0) (qt r0 (lD (I apt) aN 0 r0 cN) (dP aN r0 (PB _ _ (by(have hnb:(bB apt).length=2:=rfl; omega))) (fun A2 c2 w4 aR=>gI (g:=I) (ys:=([ak]:aC)++aq) (zs:=bB apt) aR 1 r0 aV r0 r0 r0 (aR.cI 2 r0) (fun _=>rfl) (by unfold maxLen; have hnb:(bB apt).length=2:=rfl; simp only[bH,bP,bK]; omega) (by have hnb:(bB apt).length=2:=rfl; simp only[bH,bP,bK]; omega) aH r0 (fun A3 c3 w5 aZ=>tA (.slice A3 (((([ak]:aC)++aq)++(bB apt)).length) c3) r0 (nn (rt (fT (.slice A3 (((([ak]:aC)++aq)++(bB apt)).length) c3) r0 ?_)))))))))))))))
  have e1:(([ak]:aC)++aq)++(bB apt)=iZ ak aq an apt:=by simp[iZ,h1]
  have e2:=aS List.length e1
  exact⟨A3,c3,(eE r0 e2 r0),((aZ.pq [2] r0).cast (lc (dZ (g:=I) r0 e2 r0 e1) r0))⟩
 refine sr (tm (sb b2 (([ak]:aC).length) 1) r0 (qt r0 (fa 2 sW r0) (qt r0 (lD (aA an) aI 0 r0 eC) (qt r0 (gG dI r0) (cR aI aV (qT an) (qT an) aH r0 (fun b3 w6 bG=>?_))))))
 have haf:=fK hok
 have htl:=cT an
 refine gI (g:=I) (ys:=([ak]:aC)) (zs:=(gF an)) bG 1 r0 aV r0 r0 r0 (bG.cI 2 r0) (fun _=>rfl) (by unfold maxLen; have hnb:(bB apt).length=2:=rfl; simp only[bH,bP,bK]; omega) (by have hnb:(bB apt).length=2:=rfl; simp only[bH,bP,bK]; omega) aH r0 (fun A4 c4 w7 bU=>tA (.slice A4 ((([ak]:aC)++(gF an)).length) c4) r0 (nn (rg (tm (.slice A4 ((([ak]:aC)++(gF an)).length) c4) r0 (qt r0 (fa 2 sW r0) (qt r0 (lD (aA an) bU 0 r0 eC) (dP bU r0 (DL _ _ (by(have hnb:(bB apt).length=2:=rfl; omega))) (fun A5 c5 w8 bV=>gI (g:=I) (ys:=([ak]:aC)++(gF an)) (zs:=aW an) bV 2 r0 aV r0 r0 r0 (bV.cI 3 r0) (fun _=>rfl) (by unfold maxLen; have hnb:(bB apt).length=2:=rfl; simp only[bH,bP,bK]; omega) (by have hnb:(bB apt).length=2:=rfl; simp only[bH,bP,bK]; omega) aH r0 (fun A6 c6 w9 b9=>tA (.slice A6 (((([ak]:aC)++(gF an))++(aW an)).length) c6) r0 (nn ?_))))))))))
 have cM:=b9.pq [0,3] r0
 refine sr (tm (.slice A6 (((([ak]:aC)++(gF an))++(aW an)).length) c6) r0 (qt r0 (fa 3 pV r0) (qt r0 (lD (I apt) cM 0 r0 cN) (dP cM r0 (PB _ _ (by(have hnb:(bB apt).length=2:=rfl; omega))) (fun A7 c7 kF cW=>gI (g:=I) (ys:=(([ak]:aC)++(gF an))++(aW an)) (zs:=bB apt) cW 1 r0 aV r0 r0 r0 (cW.cI 2 r0) (fun _=>rfl) (by unfold maxLen; have hnb:(bB apt).length=2:=rfl; simp only[bH,bP,bK]; omega) (by have hnb:(bB apt).length=2:=rfl; simp only[bH,bP,bK]; omega) aH r0 (fun A8 c8 kB dB=>tA (.slice A8 ((((([ak]:aC)++(gF an))++(aW an))++(bB apt)).length) c8) r0 (nn (rt (fT (.slice A8 ((((([ak]:aC)++(gF an))++(aW an))++(bB apt)).length) c8) r0 ?_)))))))))
 have e3:((([ak]:aC)++(gF an))++(aW an))++(bB apt)=iZ ak aq an apt:=by simp[iZ,h1]
 have e4:=aS List.length e3
 exact⟨A8,c8,(eE r0 e4 r0),((dB.pq [2] r0).cast (lc (dZ (g:=I) r0 e4 r0 e3) r0))⟩
theorem Aw (n:Int) (ak:Int) {Aaq:aM} {caq:Nat} (aq:aC) (an:aD) (apt:Int) (w:World) (haq:Sl w [] 1 Aaq aq.length caq (aq.map I)) (han_n:an.length≤1099511627776) (hok:dN ak aq an apt=true):bF prog 87 [I n,.agg #[I ak,.slice Aaq aq.length caq,aA an,I apt]] w (fun v w'=>∃ Ar:aM,∃ cr:Nat,v=.slice Ar ([5,n,0]++iZ ak aq an apt).length cr∧SH w w' [] [.own Ar (([5,n,0]++iZ ak aq an apt).length) cr 3 1 (([5,n,0]++iZ ak aq an apt).map I)]):=by
 refine fQ 10 func87 r0 r0 ?_
 have aK:=SH.refl w []
 have pM:aq.length≤9223372036854775807:=cB haq.cap haq.cO
 refine sr (bx (v:=.agg #[I ak,(Z4 Aaq aq caq),aA an,I apt]) (cs:=[I ak,(Z4 Aaq aq caq),aA an,I apt]) aK r0 r0 aH r0 (fun b1 w1 aE=>tA ns r0 (nx (tm (I n) r0 (cR aE aV [I 5,I n,I 0] [I 5,I n,I 0] aH r0 (fun b2 w2 aI=>qt r0 (lG [I ak,(Z4 Aaq aq caq),aA an,I apt] aI 0 r0 cG) (dP aI r0 (Tc _ _ _ _ _ (haq.aP aI) (by omega) (by omega)) (fun A1 c1 w3 aN=>gI (g:=I) (ys:=([5,n,0]:aC)) (zs:=iZ ak aq an apt) aN 1 r0 aV r0 r0 r0 (aN.cI 2 r0) (fun _=>rfl) (by unfold maxLen; have hbl:=ED hok; simp only[bH,bP,bK]; omega) (by have hbl:=ED hok; simp only[bH,bP,bK]; omega) aH r0 (fun A2 c2 w4 aR=>tA (.slice A2 ((([5,n,0]:aC)++(iZ ak aq an apt)).length) c2) r0 (nn (rt (fT (.slice A2 ((([5,n,0]:aC)++(iZ ak aq an apt)).length) c2) r0 ?_))))))))))))
 have e1:([5,n,0]:aC)++(iZ ak aq an apt)=[5,n,0]++iZ ak aq an apt:=by rfl
 have e2:=aS List.length e1
 exact⟨A2,c2,(eE r0 e2 r0),((aR.pq [2] r0).cast (lc (dZ (g:=I) r0 e2 r0 e1) r0))⟩
theorem XD (n:Int) (ak:Int) {Aaq:aM} {caq:Nat} (aq:aC) (an:aD) (apt:Int) (w:World) (haq:Sl w [] 1 Aaq aq.length caq (aq.map I)) (han_n:an.length≤1099511627776):bF prog 110 [.agg #[I n,I ak,.slice Aaq aq.length caq,aA an,I apt]] w (fun v w'=>v=.bool (uV n ak aq an apt)∧SH w w' [] []):=by
 refine fQ 11 func110 r0 r0 ?_
 have aK:=SH.refl w []
 have pM:aq.length≤9223372036854775807:=cB haq.cap haq.cO
 refine sr (bx (v:=.agg #[I n,I ak,(Z4 Aaq aq caq),aA an,I apt]) (cs:=[I n,I ak,(Z4 Aaq aq caq),aA an,I apt]) aK r0 r0 aH r0 (fun b1 w1 aE=>tA (.bool false) r0 (nx (qt r0 (fa 0 HM r0) (qt r0 (lD (I n) aE 0 r0 cN) (cS aE r0 (x4 _ 1 3 _) (fun w2 aI=>tm (.bool (decide (1≤n∧n≤3))) r0 (fF 6 r0 (fun h1=>?_) (fun h1=>?_)))))))))
 ·refine qh r0 (fa 1 zT r0) (qh r0 (lG [I ak,(Z4 Aaq aq caq),aA an,I apt] aI 0 r0 cG) (cl ⟨_,rfl,rfl⟩ r0 (x0 _ _ _ _ _ (haq.aP aI) (by omega)) ?_))
  rintro _ w3 ⟨rfl,aN⟩
  replace aN:=aI.cJ aN
  refine qt r0 (pt (v:=.bool (dN ak aq an apt)) r0 r0) (tA (.bool (dN ak aq an apt)) r0 (nn (rt (fT (.bool (dN ak aq an apt)) r0 ?_))))
  have e1:(dN ak aq an apt)=uV n ak aq an apt:=by simp[uV,h1]
  exact⟨(aS (Value.bool) e1),(aN.pk [] r0)⟩
 exact bA r0 (bA r0 (bA r0 (qt r0 (pf (v:=.bool false) r0 r0) (tA (.bool false) r0 (nn (rt (fB r0 (by simp[uV,h1]) (aI.pk [] r0))))))))
theorem Md (n:Int) (ak:Int) {Aaq:aM} {caq:Nat} (aq:aC) (an:aD) (apt:Int) (w:World) (haq:Sl w [] 1 Aaq aq.length caq (aq.map I)) (han_n:an.length≤1099511627776):bF prog 69 [.agg #[I n,I ak,.slice Aaq aq.length caq,aA an,I apt]] w (fun v w'=>∃ Ar:aM,∃ cr:Nat,v=.tuple #[.slice Ar ((mF n ak aq an apt).1).length cr,.bool ((mF n ak aq an apt).2)]∧SH w w' [] [.own Ar (((mF n ak aq an apt).1).length) cr 3 1 (((mF n ak aq an apt).1).map I)]):=by
 refine fQ 14 func69 r0 r0 ?_
 have aK:=SH.refl w []
 have pM:aq.length≤9223372036854775807:=cB haq.cap haq.cO
 refine sr (bx (v:=.agg #[I n,I ak,(Z4 Aaq aq caq),aA an,I apt]) (cs:=[I n,I ak,(Z4 Aaq aq caq),aA an,I apt]) aK r0 r0 aH r0 (fun b1 w1 aE=>tA ns r0 (tA (.bool false) r0 (nn (sq (sr (qt r0 (lG [I n,I ak,(Z4 Aaq aq caq),aA an,I apt] aE 0 r0 qU) (cS aE r0 (XD _ _ _ _ _ _ (haq.aP aE) (by omega)) (fun w2 aI=>qt r0 (nt r0) (nn (cd r0 (fun h1=>?_) (fun h1=>?_))))))))))))
 ·have h2:=dX h1
  refine sr (tA ns r0 (tA (.bool false) r0 (nn (rt (tR (bO (.tmp (.tmp .nil)) r0 ?_))))))
  have aN:=aI.nl [Z0] r0
  have e1:mF n ak aq an apt=(([]:aC),false):=by(simp[mF,h2]; done)
  rw[e1]
  exact⟨none,0,rfl,(aN.pk [1] r0)⟩
 have h3:=dY h1
 refine sk (nN (sq ?_))
 refine kA (fun w'=>∃ L,SH w w' [] L∧(.blk b1 83 [I n,I ak,(Z4 Aaq aq caq),aA an,I apt])∈L∧True) (fun f w'=>∃ (jD:aM) (jF:Nat) (cP:aM) (cQ:Nat),Hz f [(2,.slice cP ((([5,n,0]:aC)++(iZ ak aq an apt)).length) cQ),(3,.bool true)]∧SH w w' [] [.blk b1 83 [I n,I ak,(Z4 Aaq aq caq),aA an,I apt],.own cP ((([5,n,0]:aC)++(iZ ak aq an apt)).length) cQ 3 1 ((([5,n,0]:aC)++(iZ ak aq an apt)).map I),.own jD ((iZ ak aq an apt).length) jF 3 1 ((iZ ak aq an apt).map I)]) mixed ?_ ?_
 ·refine dG 3 9 63 (fun f w'=>∃ (kR:Nat) (jD:aM) (jF:Nat),Hz f [(2,ns),(3,.bool false),(9,sb kR (([5,n,0]:aC).length) 3),(12,.slice jD ((iZ ak aq an apt).length) jF)]∧SH w w' [] [.blk b1 83 [I n,I ak,(Z4 Aaq aq caq),aA an,I apt],oI kR ([5,n,0]:aC) 3 3,.own jD ((iZ ak aq an apt).length) jF 3 1 ((iZ ak aq an apt).map I)]) ?_ (fun D_3_0=>?_)
  ·rintro f w3 ⟨kR,jD,jF,⟨g1,rfl⟩,aR⟩
   refine aO 6 r0 (gI (g:=I) (ys:=([5,n,0]:aC)) (zs:=iZ ak aq an apt) aR 1 r0 aV r0 r0 r0 (aR.cI 2 r0) (fun _=>rfl) (by unfold maxLen; have hbl:=ED (O5 ‹_›); simp only[bH,bP,bK]; omega) (by have hbl:=ED (O5 ‹_›); simp only[bH,bP,bK]; omega) aH r0 (fun cP cQ w4 aZ=>nk (m1 aZ 0 r0) (tQ (fuel:=0) (is:=[7,8]) (.cons r0 (.cons r0 (.nil))) (m1 aZ 0 r0) (yA r0 (fW (v:=.slice cP ((([5,n,0]:aC)++(iZ ak aq an apt)).length) cQ) r0) (yA r0 (fW (v:=.bool true) r0) (.nil (aQ ?_)))))))
   exact⟨jD,jF,cP,cQ,(zR r0),(aZ.pk [0,2,1] r0)⟩
  refine dG 4 9 31 (fun f w'=>∃ (kR:Nat),Hz f [(2,ns),(3,.bool false),(9,sb kR (([5,n,0]:aC).length) 3),(11,.agg #[I ak,(Z4 Aaq aq caq),aA an,I apt])]∧SH w w' [] [.blk b1 83 [I n,I ak,(Z4 Aaq aq caq),aA an,I apt],oI kR ([5,n,0]:aC) 3 3]) ?_ (fun D_3_1=>?_)
  ·rintro f w5 ⟨kR,⟨g2,rfl⟩,bG⟩
   exact aO 5 r0 (dP bG r0 (RW _ _ _ _ _ (haq.aP bG) (by omega) (by exact O5 ‹_›)) (fun jD jF w6 bU=>nk (m1 bU 0 r0) (bS D_3_0 ⟨kR,jD,jF,(zR r0),bU⟩)))
  refine dG 4 9 59 (fun f w'=>∃ (jD:aM) (jF:Nat),Hz f [(2,ns),(3,.bool false),(8,I n),(12,.slice jD ((iZ ak aq an apt).length) jF)]∧SH w w' [] [.blk b1 83 [I n,I ak,(Z4 Aaq aq caq),aA an,I apt],.own jD ((iZ ak aq an apt).length) jF 3 1 ((iZ ak aq an apt).map I)]) ?_ (fun D_3_2=>?_)
  ·rintro f w7 ⟨jD,jF,⟨g3,rfl⟩,bV⟩
   exact aO 2 r0 (cR bV aV [I 5,I n,I 0] [I 5,I n,I 0] aH r0 (fun kR w8 b9=>nk (m1 b9 0 r0) (bS D_3_0 ⟨kR,jD,jF,(zR r0),(b9.pk [0,2,1] r0)⟩)))
  refine dG 5 9 27 (fun f w'=>Hz f [(2,ns),(3,.bool false),(8,I n),(11,.agg #[I ak,(Z4 Aaq aq caq),aA an,I apt])]∧SH w w' [] [.blk b1 83 [I n,I ak,(Z4 Aaq aq caq),aA an,I apt]]) ?_ (fun D_3_3=>?_)
  ·rintro f w9 ⟨⟨g4,rfl⟩,cM⟩
   refine jN [2,5] (eX ?_ (jP ?_))
   ·exact eI r0 (cR cM aV [I 5,I n,I 0] [I 5,I n,I 0] aH r0 (fun kR kF cW=>nk (m1 cW 0 r0) (bS D_3_1 ⟨kR,(zR r0),cW⟩)))
   exact eI r0 (dP cM r0 (RW _ _ _ _ _ (haq.aP cM) (by omega) (by exact O5 ‹_›)) (fun jD jF kB dB=>nk (m1 dB 0 r0) (bS D_3_2 ⟨jD,jF,(zR r0),dB⟩)))
  have cY:=aI.drew
  exact tQ (fuel:=5) (is:=[0,1,3,4]) (.cons r0 (.cons r0 (.cons r0 (.cons r0 (.nil))))) (m1 cY 0 r0) (yA r0 (fa 0 HM r0) (yB r0 (fun ⟨Lq,aU,dH,_⟩=>lM (I n) aU dH r0 cN) (yA r0 (fa 1 zT r0) (yB r0 (fun ⟨Lq,aU,dH,_⟩=>rD (vs:=[I ak,(Z4 Aaq aq caq),aA an,I apt]) aU dH r0 r0 r0 cG) (.nil (bS D_3_3 ⟨(zR r0),cY⟩))))))
 rintro f kI ⟨jD,jF,cP,cQ,⟨g5,rfl⟩,dJ⟩
 refine nN (rt (bO (.tmp (.tmp .nil)) r0 ?_))
 have e2:mF n ak aq an apt=(([5,n,0]:aC)++(iZ ak aq an apt),true):=by(simp[mF,h3]; done)
 rw[e2]
 exact⟨cP,cQ,rfl,(dJ.pk [1] r0)⟩
theorem Tw (n:Int) (ak:Int) {Aaq:aM} {caq:Nat} (aq:aC) (an:aD) (apt:Int) (w:World) (haq:Sl w [] 1 Aaq aq.length caq (aq.map I)) (han_n:an.length≤1099511627776):bF prog 47 [.agg #[I n,I ak,.slice Aaq aq.length caq,aA an,I apt]] w (fun v w'=>∃ Ar:aM,∃ cr:Nat,v=.tuple #[.slice Ar ((mF n ak aq an apt).1).length cr,.bool ((mF n ak aq an apt).2)]∧SH w w' [] [.own Ar (((mF n ak aq an apt).1).length) cr 3 1 (((mF n ak aq an apt).1).map I)]):=by
 refine fQ 20 func47 r0 r0 ?_
 have aK:=SH.refl w []
 have pM:aq.length≤9223372036854775807:=cB haq.cap haq.cO
 refine sr (bx (v:=.agg #[I n,I ak,(Z4 Aaq aq caq),aA an,I apt]) (cs:=[I n,I ak,(Z4 Aaq aq caq),aA an,I apt]) aK r0 r0 aH r0 (fun b1 w1 aE=>tA ns r0 (tA (.bool false) r0 (nn (sq (sr (qt r0 (fa 0 HM r0) (qt r0 (lD (I n) aE 0 r0 cN) (cS aE r0 (wV _ 1 3 _) (fun w2 aI=>qt r0 (nd r0) (tm (.bool (decide (¬ (1≤n∧n≤3)))) r0 (fF 8 r0 (fun h1=>?_) (fun h1=>?_)))))))))))))
 ·refine aT r0 (aT r0 (aT r0 (aT r0 (qt r0 (pt (v:=.bool true) r0 r0) (nn (fX r0 (sr (cR aI aV [] [] aH r0 (fun b2 w3 aN=>tA (sb b2 (([]:aC).length) 0) r0 (tA (.bool false) r0 (nn (rt (tR (bO (.tmp (.tmp .nil)) r0 ?_))))))))))))))
  have e1:mF n ak aq an apt=(([]:aC),false):=by(simp[mF,uV,h1]; done)
  rw[e1]
  exact⟨(Z7 b2),0,rfl,(aN.pk [1] r0)⟩
 refine qh r0 (fa 1 zT r0) (qh r0 (lG [I ak,(Z4 Aaq aq caq),aA an,I apt] aI 0 r0 cG) (cl ⟨_,rfl,rfl⟩ r0 (AF _ _ _ _ _ (haq.aP aI) (by omega)) ?_))
 rintro _ w4 ⟨rfl,aR⟩
 replace aR:=aI.cJ aR
 refine qh r0 (nt r0) (qt r0 (pf (v:=.bool (!(dN ak aq an apt))) r0 r0) (nn (cd r0 (fun h2=>?_) (fun h2=>?_))))
 ·have h3:=dX h2
  refine sr (cR aR aV [] [] aH r0 (fun b3 w5 aZ=>tA (sb b3 (([]:aC).length) 0) r0 (tA (.bool false) r0 (nn (rt (tR (bO (.tmp (.tmp .nil)) r0 ?_)))))))
  have e2:mF n ak aq an apt=(([]:aC),false):=by(simp[mF,uV,h1,h3]; done)
  rw[e2]
  exact⟨(Z7 b3),0,rfl,(aZ.pk [1] r0)⟩
 have h4:=dY h2
 refine sk (nN (sr (qt r0 (fa 0 HM r0) (qt r0 (lD (I n) aR 0 r0 cN) (qt r0 (fa 1 zT r0) (qt r0 (lG [I ak,(Z4 Aaq aq caq),aA an,I apt] aR 0 r0 cG) (dP aR r0 (Aw _ _ _ _ _ _ (haq.aP aR) (by omega) (‹_›)) (fun A1 c1 w6 bG=>tA (.slice A1 (([5,n,0]++iZ ak aq an apt).length) c1) r0 (tA (.bool true) r0 (nn (rt (bO (.tmp (.tmp .nil)) r0 ?_))))))))))))
 have e3:mF n ak aq an apt=([5,n,0]++iZ ak aq an apt,true):=by(simp[mF,uV,h1,h4]; done)
 rw[e3]
 exact⟨A1,c1,rfl,(bG.pk [1] r0)⟩
theorem Ls (lu:aD) (lw:aD) (w:World) (HV:lu.length≤2147483648) (HW:lw.length≤2147483648):bF prog 70 [.agg #[aA lu,aA lw]] w (fun v w'=>∃ Ar:aM,∃ cr:Nat,v=.tuple #[.slice Ar ((m6 lu lw).1).length cr,.bool ((m6 lu lw).2)]∧SH w w' [] [.own Ar (((m6 lu lw).1).length) cr 3 1 (((m6 lu lw).1).map I)]):=by
 refine fQ 23 func70 r0 r0 ?_
 have aK:=SH.refl w []
 refine sr (bx (v:=.agg #[aA lu,aA lw]) (cs:=[aA lu,aA lw]) aK r0 r0 aH r0 (fun b1 w1 aE=>tA ns r0 (tA (.bool false) r0 (nn (sq (sr (qt r0 (lG [aA lu,aA lw] aE 0 r0 jI) (cS aE r0 (NU _ _ _ (by omega) (by omega)) (fun w2 aI=>qt r0 (nt r0) (nn (cd r0 (fun h1=>?_) (fun h1=>?_))))))))))))
 ·have h2:=dX h1
  refine sr (tA ns r0 (tA (.bool false) r0 (nn (rt (tR (bO (.tmp (.tmp .nil)) r0 ?_))))))
  have aN:=aI.nl [Z0] r0
  have e1:m6 lu lw=(([]:aC),false):=by(try simp only[MP,MR,xH]); simp[m6,h2]
  rw[e1]
  exact⟨none,0,rfl,(aN.pk [1] r0)⟩
 have h3:=dY h1
 refine sk (nN (sq ?_))
 refine kA (fun w'=>∃ L,SH w w' [] L∧(.blk b1 38 [aA lu,aA lw])∈L∧True) (fun f w'=>∃ (dA:Nat) (cP:aM) (cQ gJ:Nat) (iY:aM) (jA AR:Nat) (DV:aM) (EM:Nat),Hz f [(2,.slice DV ((iK ([(⟨(Z7 dA),2,(j8 lu)⟩:Hd),(⟨cP,cQ,aW lu⟩:Hd),(⟨(Z7 gJ),1,(gF lw)⟩:Hd),(⟨iY,jA,aW lw⟩:Hd)]:List Hd)).length) EM),(3,.bool true)]∧SH w w' [] [(oM b1 lu lw),oI gJ (gF lw) 1 3,(lX iY lw jA),.own (Z7 AR) (([(⟨(Z7 dA),2,(j8 lu)⟩:Hd),(⟨cP,cQ,aW lu⟩:Hd),(⟨(Z7 gJ),1,(gF lw)⟩:Hd),(⟨iY,jA,aW lw⟩:Hd)]:List Hd).length) 4 31 1 (([(⟨(Z7 dA),2,(j8 lu)⟩:Hd),(⟨cP,cQ,aW lu⟩:Hd),(⟨(Z7 gJ),1,(gF lw)⟩:Hd),(⟨iY,jA,aW lw⟩:Hd)]:List Hd).map hv),.own DV ((iK ([(⟨(Z7 dA),2,(j8 lu)⟩:Hd),(⟨cP,cQ,aW lu⟩:Hd),(⟨(Z7 gJ),1,(gF lw)⟩:Hd),(⟨iY,jA,aW lw⟩:Hd)]:List Hd)).length) EM 3 1 ((iK ([(⟨(Z7 dA),2,(j8 lu)⟩:Hd),(⟨cP,cQ,aW lu⟩:Hd),(⟨(Z7 gJ),1,(gF lw)⟩:Hd),(⟨iY,jA,aW lw⟩:Hd)]:List Hd)).map I),oI dA (j8 lu) 2 3,(lX cP lu cQ)]) mixed ?_ ?_
 ·refine dG 3 18 32767 (fun f w'=>∃ (dA:Nat) (cP:aM) (cQ gJ:Nat) (iY:aM) (jA AR:Nat),Hz f [(2,ns),(3,.bool false),(21,sb AR (([(⟨(Z7 dA),2,(j8 lu)⟩:Hd),(⟨cP,cQ,aW lu⟩:Hd),(⟨(Z7 gJ),1,(gF lw)⟩:Hd),(⟨iY,jA,aW lw⟩:Hd)]:List Hd).length) 4)]∧SH w w' [] [(oM b1 lu lw),oI gJ (gF lw) 1 3,(lX iY lw jA),.own (Z7 AR) (([(⟨(Z7 dA),2,(j8 lu)⟩:Hd),(⟨cP,cQ,aW lu⟩:Hd),(⟨(Z7 gJ),1,(gF lw)⟩:Hd),(⟨iY,jA,aW lw⟩:Hd)]:List Hd).length) 4 31 1 (([(⟨(Z7 dA),2,(j8 lu)⟩:Hd),(⟨cP,cQ,aW lu⟩:Hd),(⟨(Z7 gJ),1,(gF lw)⟩:Hd),(⟨iY,jA,aW lw⟩:Hd)]:List Hd).map hv),oI dA (j8 lu) 2 3,(lX cP lu cQ)]) ?_ (fun D_3_0=>?_)
  ·rintro f w3 ⟨dA,cP,cQ,gJ,iY,jA,AR,⟨g1,rfl⟩,aR⟩
   refine aO 15 r0 (dP aR r0 (Uz ([(⟨(Z7 dA),2,(j8 lu)⟩:Hd),(⟨cP,cQ,aW lu⟩:Hd),(⟨(Z7 gJ),1,(gF lw)⟩:Hd),(⟨iY,jA,aW lw⟩:Hd)]:List Hd) _ (aR.cI 3 r0) (eX (aR.cI 4 r0) (eX (aR.cI 5 r0) (eX (aR.cI 1 r0) (eX (aR.cI 2 r0) o5)))) (by have hlf:=FL ‹_›; have htl:=cT lu; have htw:=cT lw; simp[iK]; omega)) (fun DV EM w4 aZ=>nk (m1 aZ 0 r0) (tQ (fuel:=0) (is:=[16,17]) (.cons r0 (.cons r0 (.nil))) (m1 aZ 0 r0) (yA r0 (fW (v:=.slice DV ((iK ([(⟨(Z7 dA),2,(j8 lu)⟩:Hd),(⟨cP,cQ,aW lu⟩:Hd),(⟨(Z7 gJ),1,(gF lw)⟩:Hd),(⟨iY,jA,aW lw⟩:Hd)]:List Hd)).length) EM) r0) (yA r0 (fW (v:=.bool true) r0) (.nil (aQ ?_)))))))
   exact⟨dA,cP,cQ,gJ,iY,jA,AR,DV,EM,(zR r0),(aZ.pk [0,1,2,3,6,4,5] r0)⟩
  refine dG 4 18 16383 (fun f w'=>∃ (dA:Nat) (cP:aM) (cQ gJ:Nat) (iY:aM) (jA:Nat),Hz f [(2,ns),(3,.bool false),(10,sb dA ((j8 lu).length) 2),(13,.slice cP ((aW lu).length) cQ),(17,sb gJ ((gF lw).length) 1),(20,.slice iY ((aW lw).length) jA)]∧SH w w' [] [(oM b1 lu lw),oI gJ (gF lw) 1 3,(lX iY lw jA),oI dA (j8 lu) 2 3,(lX cP lu cQ)]) ?_ (fun D_3_1=>?_)
  ·rintro f w5 ⟨dA,cP,cQ,gJ,iY,jA,⟨g2,rfl⟩,bG⟩
   exact aO 14 r0 (cR bG AG [sb dA ((j8 lu).length) 2,.slice cP ((aW lu).length) cQ,sb gJ ((gF lw).length) 1,.slice iY ((aW lw).length) jA] [sb dA ((j8 lu).length) 2,.slice cP ((aW lu).length) cQ,sb gJ ((gF lw).length) 1,.slice iY ((aW lw).length) jA] aH r0 (fun AR w6 bU=>nk (m1 bU 0 r0) (bS D_3_0 ⟨dA,cP,cQ,gJ,iY,jA,AR,(zR r0),(bU.pk [0,1,2,5,3,4] r0)⟩)))
  refine dG 5 18 8191 (fun f w'=>∃ (dA:Nat) (cP:aM) (cQ gJ:Nat),Hz f [(2,ns),(3,.bool false),(10,sb dA ((j8 lu).length) 2),(13,.slice cP ((aW lu).length) cQ),(17,sb gJ ((gF lw).length) 1),(19,aA lw)]∧SH w w' [] [(oM b1 lu lw),oI gJ (gF lw) 1 3,oI dA (j8 lu) 2 3,(lX cP lu cQ)]) ?_ (fun D_3_2=>?_)
  ·rintro f w7 ⟨dA,cP,cQ,gJ,⟨g3,rfl⟩,bV⟩
   exact aO 13 r0 (dP bV r0 (r7 _ _ (by omega)) (fun iY jA w8 b9=>nk (m1 b9 0 r0) (bS D_3_1 ⟨dA,cP,cQ,gJ,iY,jA,(zR r0),(b9.pk [0,1,4,2,3] r0)⟩)))
  refine dG 5 18 15359 (fun f w'=>∃ (dA:Nat) (cP:aM) (cQ:Nat) (iY:aM) (jA:Nat),Hz f [(2,ns),(3,.bool false),(10,sb dA ((j8 lu).length) 2),(13,.slice cP ((aW lu).length) cQ),(16,I (lw.length:Int)),(20,.slice iY ((aW lw).length) jA)]∧SH w w' [] [(oM b1 lu lw),(lX iY lw jA),oI dA (j8 lu) 2 3,(lX cP lu cQ)]) ?_ (fun D_3_3=>?_)
  ·rintro f w9 ⟨dA,cP,cQ,iY,jA,⟨g4,rfl⟩,cM⟩
   exact aO 10 r0 (cR cM aV (qT lw) (qT lw) aH r0 (fun gJ kF cW=>nk (m1 cW 0 r0) (bS D_3_1 ⟨dA,cP,cQ,gJ,iY,jA,(zR r0),(cW.pk [0,4,1,2,3] r0)⟩)))
  refine dG 5 18 16375 (fun f w'=>∃ (cP:aM) (cQ gJ:Nat) (iY:aM) (jA:Nat),Hz f [(2,ns),(3,.bool false),(9,I (lu.length:Int)),(13,.slice cP ((aW lu).length) cQ),(17,sb gJ ((gF lw).length) 1),(20,.slice iY ((aW lw).length) jA)]∧SH w w' [] [(oM b1 lu lw),oI gJ (gF lw) 1 3,(lX iY lw jA),(lX cP lu cQ)]) ?_ (fun D_3_4=>?_)
  ·rintro f kB ⟨cP,cQ,gJ,iY,jA,⟨g5,rfl⟩,dB⟩
   exact aO 3 r0 (cR dB aV (sO lu) (sO lu) aH r0 (fun dA kI cY=>nk (m1 cY 0 r0) (bS D_3_1 ⟨dA,cP,cQ,gJ,iY,jA,(zR r0),(cY.pk [0,1,2,4,3] r0)⟩)))
  refine dG 6 18 7167 (fun f w'=>∃ (dA:Nat) (cP:aM) (cQ:Nat),Hz f [(2,ns),(3,.bool false),(10,sb dA ((j8 lu).length) 2),(13,.slice cP ((aW lu).length) cQ),(16,I (lw.length:Int)),(19,aA lw)]∧SH w w' [] [(oM b1 lu lw),oI dA (j8 lu) 2 3,(lX cP lu cQ)]) ?_ (fun D_3_5=>?_)
  ·rintro f lU ⟨dA,cP,cQ,⟨g6,rfl⟩,dJ⟩
   refine jN [10,13] (eX ?_ (jP ?_))
   ·exact eI r0 (cR dJ aV (qT lw) (qT lw) aH r0 (fun gJ mH dM=>nk (m1 dM 0 r0) (bS D_3_2 ⟨dA,cP,cQ,gJ,(zR r0),(dM.pk [0,3,1,2] r0)⟩)))
   exact eI r0 (dP dJ r0 (r7 _ _ (by omega)) (fun iY jA mI eO=>nk (m1 eO 0 r0) (bS D_3_3 ⟨dA,cP,cQ,iY,jA,(zR r0),(eO.pk [0,3,1,2] r0)⟩)))
  refine dG 6 18 8127 (fun f w'=>∃ (dA gJ:Nat),Hz f [(2,ns),(3,.bool false),(10,sb dA ((j8 lu).length) 2),(12,aA lu),(17,sb gJ ((gF lw).length) 1),(19,aA lw)]∧SH w w' [] [(oM b1 lu lw),oI gJ (gF lw) 1 3,oI dA (j8 lu) 2 3]) ?_ (fun D_3_6=>?_)
  ·rintro f mU ⟨dA,gJ,⟨g7,rfl⟩,eK⟩
   exact aO 6 r0 (dP eK r0 (r7 _ _ (by omega)) (fun cP cQ n6 eZ=>nk (m1 eZ 0 r0) (bS D_3_2 ⟨dA,cP,cQ,gJ,(zR r0),eZ⟩)))
  refine dG 6 18 8183 (fun f w'=>∃ (cP:aM) (cQ gJ:Nat),Hz f [(2,ns),(3,.bool false),(9,I (lu.length:Int)),(13,.slice cP ((aW lu).length) cQ),(17,sb gJ ((gF lw).length) 1),(19,aA lw)]∧SH w w' [] [(oM b1 lu lw),oI gJ (gF lw) 1 3,(lX cP lu cQ)]) ?_ (fun D_3_7=>?_)
  ·rintro f m9 ⟨cP,cQ,gJ,⟨g8,rfl⟩,fV⟩
   refine jN [3,13] (eX ?_ (jP ?_))
   ·exact eI r0 (cR fV aV (sO lu) (sO lu) aH r0 (fun dA qQ fD=>nk (m1 fD 0 r0) (bS D_3_2 ⟨dA,cP,cQ,gJ,(zR r0),(fD.pk [0,1,3,2] r0)⟩)))
   exact eI r0 (dP fV r0 (r7 _ _ (by omega)) (fun iY jA rJ gK=>nk (m1 gK 0 r0) (bS D_3_4 ⟨cP,cQ,gJ,iY,jA,(zR r0),(gK.pk [0,1,3,2] r0)⟩)))
  refine dG 6 18 15351 (fun f w'=>∃ (cP:aM) (cQ:Nat) (iY:aM) (jA:Nat),Hz f [(2,ns),(3,.bool false),(9,I (lu.length:Int)),(13,.slice cP ((aW lu).length) cQ),(16,I (lw.length:Int)),(20,.slice iY ((aW lw).length) jA)]∧SH w w' [] [(oM b1 lu lw),(lX iY lw jA),(lX cP lu cQ)]) ?_ (fun D_3_8=>?_)
  ·rintro f tL ⟨cP,cQ,iY,jA,⟨g9,rfl⟩,hU⟩
   refine jN [3,10] (eX ?_ (jP ?_))
   ·exact eI r0 (cR hU aV (sO lu) (sO lu) aH r0 (fun dA sC iN=>nk (m1 iN 0 r0) (bS D_3_3 ⟨dA,cP,cQ,iY,jA,(zR r0),(iN.pk [0,1,3,2] r0)⟩)))
   exact eI r0 (cR hU aV (qT lw) (qT lw) aH r0 (fun gJ vK iB=>nk (m1 iB 0 r0) (bS D_3_4 ⟨cP,cQ,gJ,iY,jA,(zR r0),(iB.pk [0,3,1,2] r0)⟩)))
  refine dG 7 18 7103 (fun f w'=>∃ (dA:Nat),Hz f [(2,ns),(3,.bool false),(10,sb dA ((j8 lu).length) 2),(12,aA lu),(16,I (lw.length:Int)),(19,aA lw)]∧SH w w' [] [(oM b1 lu lw),oI dA (j8 lu) 2 3]) ?_ (fun D_3_9=>?_)
  ·rintro f xC ⟨dA,⟨EZ,rfl⟩,iE⟩
   refine jN [6,10] (eX ?_ (jP ?_))
   ·exact eI r0 (dP iE r0 (r7 _ _ (by omega)) (fun cP cQ vL jB=>nk (m1 jB 0 r0) (bS D_3_5 ⟨dA,cP,cQ,(zR r0),jB⟩)))
   exact eI r0 (cR iE aV (qT lw) (qT lw) aH r0 (fun gJ vM gV=>nk (m1 gV 0 r0) (bS D_3_6 ⟨dA,gJ,(zR r0),(gV.pk [0,2,1] r0)⟩)))
  refine dG 7 18 7159 (fun f w'=>∃ (cP:aM) (cQ:Nat),Hz f [(2,ns),(3,.bool false),(9,I (lu.length:Int)),(13,.slice cP ((aW lu).length) cQ),(16,I (lw.length:Int)),(19,aA lw)]∧SH w w' [] [(oM b1 lu lw),(lX cP lu cQ)]) ?_ (fun D_3_10=>?_)
  ·rintro f B5 ⟨cP,cQ,⟨HN,rfl⟩,kU⟩
   refine jN [3,10,13] (eX ?_ (eX ?_ (jP ?_)))
   ·exact eI r0 (cR kU aV (sO lu) (sO lu) aH r0 (fun dA AJ kV=>nk (m1 kV 0 r0) (bS D_3_5 ⟨dA,cP,cQ,(zR r0),(kV.pk [0,2,1] r0)⟩)))
   ·exact eI r0 (cR kU aV (qT lw) (qT lw) aH r0 (fun gJ DS kY=>nk (m1 kY 0 r0) (bS D_3_7 ⟨cP,cQ,gJ,(zR r0),(kY.pk [0,2,1] r0)⟩)))
   exact eI r0 (dP kU r0 (r7 _ _ (by omega)) (fun iY jA B6 kH=>nk (m1 kH 0 r0) (bS D_3_8 ⟨cP,cQ,iY,jA,(zR r0),(kH.pk [0,2,1] r0)⟩)))
  refine dG 7 18 8119 (fun f w'=>∃ (gJ:Nat),Hz f [(2,ns),(3,.bool false),(9,I (lu.length:Int)),(12,aA lu),(17,sb gJ ((gF lw).length) 1),(19,aA lw)]∧SH w w' [] [(oM b1 lu lw),oI gJ (gF lw) 1 3]) ?_ (fun D_3_11=>?_)
  ·rintro f GK ⟨gJ,⟨J5,rfl⟩,iU⟩
   refine jN [3,6] (eX ?_ (jP ?_))
   ·exact eI r0 (cR iU aV (sO lu) (sO lu) aH r0 (fun dA GL mK=>nk (m1 mK 0 r0) (bS D_3_6 ⟨dA,gJ,(zR r0),mK⟩)))
   exact eI r0 (dP iU r0 (r7 _ _ (by omega)) (fun cP cQ GM lL=>nk (m1 lL 0 r0) (bS D_3_7 ⟨cP,cQ,gJ,(zR r0),lL⟩)))
  refine dG 8 18 7095 (fun f w'=>Hz f [(2,ns),(3,.bool false),(9,I (lu.length:Int)),(12,aA lu),(16,I (lw.length:Int)),(19,aA lw)]∧SH w w' [] [(oM b1 lu lw)]) ?_ (fun D_3_12=>?_)
  ·rintro f LF ⟨⟨J6,rfl⟩,mY⟩
   refine jN [3,6,10] (eX ?_ (eX ?_ (jP ?_)))
   ·exact eI r0 (cR mY aV (sO lu) (sO lu) aH r0 (fun dA LG lN=>nk (m1 lN 0 r0) (bS D_3_9 ⟨dA,(zR r0),lN⟩)))
   ·exact eI r0 (dP mY r0 (r7 _ _ (by omega)) (fun cP cQ LH mS=>nk (m1 mS 0 r0) (bS D_3_10 ⟨cP,cQ,(zR r0),mS⟩)))
   exact eI r0 (cR mY aV (qT lw) (qT lw) aH r0 (fun gJ LI mZ=>nk (m1 mZ 0 r0) (bS D_3_11 ⟨gJ,(zR r0),mZ⟩)))
  have m0:=aI.drew
  exact tQ (fuel:=8) (is:=[0,1,2,4,5,7,8,9,11,12]) (.cons r0 (.cons r0 (.cons r0 (.cons r0 (.cons r0 (.cons r0 (.cons r0 (.cons r0 (.cons r0 (.cons r0 (.nil))))))))))) (m1 m0 0 r0) (yA r0 (fa 0 BA r0) (yB r0 (fun ⟨Lq,aU,dH,_⟩=>lM (aA lu) aU dH r0 eC) (yA r0 (gG dI r0) (yA r0 (fa 0 BA r0) (yB r0 (fun ⟨Lq,aU,dH,_⟩=>lM (aA lu) aU dH r0 eC) (yA r0 (fa 1 BB r0) (yB r0 (fun ⟨Lq,aU,dH,_⟩=>lM (aA lw) aU dH r0 eC) (yA r0 (gG dI r0) (yA r0 (fa 1 BB r0) (yB r0 (fun ⟨Lq,aU,dH,_⟩=>lM (aA lw) aU dH r0 eC) (.nil (bS D_3_12 ⟨(zR r0),m0⟩))))))))))))
 rintro f P1 ⟨dA,cP,cQ,gJ,iY,jA,AR,DV,EM,⟨M8,rfl⟩,oE⟩
 refine nN ?_
 have oV:=oE.pq [4] r0
 refine rt (bO (.tmp (.tmp .nil)) r0 ?_)
 have e2:m6 lu lw=(iK ([(⟨(Z7 dA),2,(j8 lu)⟩:Hd),(⟨cP,cQ,aW lu⟩:Hd),(⟨(Z7 gJ),1,(gF lw)⟩:Hd),(⟨iY,jA,aW lw⟩:Hd)]:List Hd),true):=by(try simp only[MP,MR,xH]); simp[m6,h3]
 rw[e2]
 exact⟨DV,EM,rfl,oV⟩
theorem Tm (lu:aD) (lw:aD) (w:World) (HV:lu.length≤2147483648) (HW:lw.length≤2147483648):bF prog 48 [.agg #[aA lu,aA lw]] w (fun v w'=>∃ Ar:aM,∃ cr:Nat,v=.tuple #[.slice Ar ((m6 lu lw).1).length cr,.bool ((m6 lu lw).2)]∧SH w w' [] [.own Ar (((m6 lu lw).1).length) cr 3 1 (((m6 lu lw).1).map I)]):=by
 refine fQ 28 func48 r0 r0 ?_
 have aK:=SH.refl w []
 refine sr (bx (v:=.agg #[aA lu,aA lw]) (cs:=[aA lu,aA lw]) aK r0 r0 aH r0 (fun b1 w1 aE=>tA ns r0 (tA (.bool false) r0 (nn (sq (sr (qt r0 (lG [aA lu,aA lw] aE 0 r0 jI) (cS aE r0 (O9 _ _ _ (by omega) (by omega)) (fun w2 aI=>qt r0 (nt r0) (nn (cd r0 (fun h1=>?_) (fun h1=>?_))))))))))))
 ·have h2:=dX h1
  refine sr (cR aI aV [] [] aH r0 (fun b2 w3 aN=>tA (sb b2 (([]:aC).length) 0) r0 (tA (.bool false) r0 (nn (rt (tR (bO (.tmp (.tmp .nil)) r0 ?_)))))))
  have e1:m6 lu lw=(([]:aC),false):=by(try simp only[MP,MR,xH]); simp[m6,h2]
  rw[e1]
  exact⟨(Z7 b2),0,rfl,(aN.pk [1] r0)⟩
 have h3:=dY h1
 refine sk (nN (sq ?_))
 refine kA (fun w'=>∃ L,SH w w' [] L∧(.blk b1 38 [aA lu,aA lw])∈L∧True) (fun f w'=>∃ (cP:aM) (cQ:Nat) (gR:aM) (gT:Nat),Hz f [(1,pB b1),(4,.slice gR (((j8 lu)++(aW lu)).length) gT)]∧SH w w' [] [(oM b1 lu lw),.own gR (((j8 lu)++(aW lu)).length) gT 3 1 (((j8 lu)++(aW lu)).map I),(lX cP lu cQ)]) mixed ?_ ?_
 ·refine dG 2 9 127 (fun f w'=>∃ (dA:Nat) (cP:aM) (cQ:Nat),Hz f [(1,pB b1),(12,sb dA ((j8 lu).length) 2),(15,.slice cP ((aW lu).length) cQ)]∧SH w w' [] [(oM b1 lu lw),oI dA (j8 lu) 2 3,(lX cP lu cQ)]) ?_ (fun D_3_0=>?_)
  ·rintro f w4 ⟨dA,cP,cQ,⟨g1,rfl⟩,aR⟩
   have hlf:=FL ‹_›
   have htl:=cT lu
   have htw:=cT lw
   refine aO 7 r0 (gI (g:=I) (ys:=(j8 lu)) (zs:=aW lu) aR 1 r0 aV r0 r0 r0 (aR.cI 2 r0) (fun _=>rfl) (by unfold maxLen; simp only[bH,bP,bK]; omega) (by simp only[bH,bP,bK]; omega) aH r0 (fun gR gT w5 aZ=>nk (m1 aZ 0 r0) (tQ (fuel:=0) (is:=[8]) (.cons r0 (.nil)) (m1 aZ 0 r0) (yA r0 (fW (v:=.slice gR (((j8 lu)++(aW lu)).length) gT) r0) (.nil (aQ ?_))))))
   exact⟨cP,cQ,gR,gT,(zR r0),(aZ.pk [0,2,1] r0)⟩
  refine dG 3 9 63 (fun f w'=>∃ (dA:Nat),Hz f [(1,pB b1),(12,sb dA ((j8 lu).length) 2),(14,aA lu)]∧SH w w' [] [(oM b1 lu lw),oI dA (j8 lu) 2 3]) ?_ (fun D_3_1=>?_)
  ·rintro f w6 ⟨dA,⟨g2,rfl⟩,bG⟩
   exact aO 6 r0 (dP bG r0 (DL _ _ (by omega)) (fun cP cQ w7 bU=>nk (m1 bU 0 r0) (bS D_3_0 ⟨dA,cP,cQ,(zR r0),bU⟩)))
  refine dG 3 9 119 (fun f w'=>∃ (cP:aM) (cQ:Nat),Hz f [(1,pB b1),(11,I (lu.length:Int)),(15,.slice cP ((aW lu).length) cQ)]∧SH w w' [] [(oM b1 lu lw),(lX cP lu cQ)]) ?_ (fun D_3_2=>?_)
  ·rintro f w8 ⟨cP,cQ,⟨g3,rfl⟩,bV⟩
   exact aO 3 r0 (cR bV aV (sO lu) (sO lu) aH r0 (fun dA w9 b9=>nk (m1 b9 0 r0) (bS D_3_0 ⟨dA,cP,cQ,(zR r0),(b9.pk [0,2,1] r0)⟩)))
  refine dG 4 9 55 (fun f w'=>Hz f [(1,pB b1),(11,I (lu.length:Int)),(14,aA lu)]∧SH w w' [] [(oM b1 lu lw)]) ?_ (fun D_3_3=>?_)
  ·rintro f kF ⟨⟨g4,rfl⟩,cM⟩
   refine jN [3,6] (eX ?_ (jP ?_))
   ·exact eI r0 (cR cM aV (sO lu) (sO lu) aH r0 (fun dA kB cW=>nk (m1 cW 0 r0) (bS D_3_1 ⟨dA,(zR r0),cW⟩)))
   exact eI r0 (dP cM r0 (DL _ _ (by omega)) (fun cP cQ kI dB=>nk (m1 dB 0 r0) (bS D_3_2 ⟨cP,cQ,(zR r0),dB⟩)))
  have cY:=aI.drew
  exact tQ (fuel:=4) (is:=[0,1,2,4,5]) (.cons r0 (.cons r0 (.cons r0 (.cons r0 (.cons r0 (.nil)))))) (m1 cY 0 r0) (yA r0 (fa 0 BA r0) (yB r0 (fun ⟨Lq,aU,dH,_⟩=>lM (aA lu) aU dH r0 eC) (yA r0 (gG dI r0) (yA r0 (fa 0 BA r0) (yB r0 (fun ⟨Lq,aU,dH,_⟩=>lM (aA lu) aU dH r0 eC) (.nil (bS D_3_3 ⟨(zR r0),cY⟩)))))))
 rintro f lU ⟨cP,cQ,gR,gT,⟨g5,rfl⟩,dJ⟩
 refine nN (sr (tm (.slice gR (((j8 lu)++(aW lu)).length) gT) r0 (qt r0 (fa 1 BB r0) (qt r0 (lD (aA lw) dJ 0 r0 eC) (qt r0 (gG dI r0) (cR dJ aV (qT lw) (qT lw) aH r0 (fun b3 mH dM=>?_)))))))
 have hlf:=FL ‹_›
 have htl:=cT lu
 have htw:=cT lw
 refine gI (g:=I) (ys:=(j8 lu)++(aW lu)) (zs:=(gF lw)) dM 1 r0 aV r0 r0 r0 (dM.cI 3 r0) (fun _=>rfl) (by unfold maxLen; simp only[bH,bP,bK]; omega) (by simp only[bH,bP,bK]; omega) aH r0 (fun A1 c1 mI eO=>tA (.slice A1 ((((j8 lu)++(aW lu))++(gF lw)).length) c1) r0 (nn ?_))
 have eK:=eO.pq [0,3] r0
 refine sr (tm (.slice A1 ((((j8 lu)++(aW lu))++(gF lw)).length) c1) r0 (qt r0 (fa 1 BB r0) (qt r0 (lD (aA lw) eK 0 r0 eC) (dP eK r0 (DL _ _ (by omega)) (fun A2 c2 mU eZ=>gI (g:=I) (ys:=((j8 lu)++(aW lu))++(gF lw)) (zs:=aW lw) eZ 1 r0 aV r0 r0 r0 (eZ.cI 2 r0) (fun _=>rfl) (by unfold maxLen; simp only[bH,bP,bK]; omega) (by simp only[bH,bP,bK]; omega) aH r0 (fun A3 c3 n6 fV=>tA (.slice A3 (((((j8 lu)++(aW lu))++(gF lw))++(aW lw)).length) c3) r0 (tA (.bool true) r0 (nn (rt (bO (.tmp (.tmp .nil)) r0 ?_))))))))))
 have e2:m6 lu lw=((((j8 lu)++(aW lu))++(gF lw))++(aW lw),true):=by(try simp only[MP,MR,xH]); simp[m6,h3]
 rw[e2]
 exact⟨A3,c3,rfl,(fV.pk [2] r0)⟩
theorem I0 (n:Int) (w:World) (hn: -9223372036854775808≤n∧n≤9223372036854775807) (hGp:bZ prog w [] "internal/strconv.uint64pow10" jH):bF prog 74 [I n] w (fun v w'=>v=aA (Lib.itoa n)∧SH w w' [] []):=by
 exact Hv ⟨_,_,func74,by kernel_rfl,rfl⟩ r0 (Tryz.strconv_Itoa n hn.1 hn.2 w hGp.Wn)
theorem writeString {bb:Nat} {pb:aM} {Abb:aM} {cbb:Nat} (l:aD) (s:aD) (w:World) (hbd:w.heap[bb]?=some (.cells [.pointer pb,.slice Abb l.length cbb].toArray 41 (0,0))) (hpb:pb=none∨pb=some ⟨bb,0,none⟩) (hbo:j6 w Abb l.length cbb 5 1 (l.map U)) (hbx: ∀ k,(It.own Abb l.length cbb 5 1 (l.map U)).has k→ ¬ (It.blk bb 41 [.pointer pb,.slice Abb l.length cbb]).has k) (hs_n:s.length≤1099511627776) (hl:l.length≤1099511627776):bF prog 23 [pB bb,aA s] w (fun v w'=>∃ Aor:aM,∃ cor:Nat,v=.tuple #[.int .i64 (s.length:Int),.nilIface]∧SH w w' ([bb]++(dC Abb cbb++[])) [.blk bb 41 [pB bb,.slice Aor ((l++s).length) cor],.own Aor ((l++s).length) cor 5 1 ((l++s).map U)]):=by
 refine fQ 19 func23 r0 r0 ?_
 have aK:SH w w ([bb]++(dC Abb cbb++[])) [.blk bb 41 [.pointer pb,.slice Abb l.length cbb],.own Abb l.length cbb 5 1 (l.map U)]:=QV hbd hbo hbx
 refine sr (tA (I 0) r0 (tA (.nilIface) r0 (nx (tm (pB bb) r0 (cL r0 (U4 _ (gM aK 0 r0) (‹_›)) ?_)))))
 rintro _ w1 ⟨rfl,aE⟩
 replace aE:=aK.cK [0] [1] aE r0
 refine nx (tm (pB bb) r0 (tm (pB bb) r0 (tn r0 (qt r0 (fa 1 CS r0) (qt r0 (lD (mA Abb l cbb) aE 1 r0 tC) (tm (aA s) r0 (Fj (ys:=l) (s:=s) aE 0 r0 l9 dI r0 r0 (by unfold maxLen; omega) (by omega) aH r0 (fun A1 c1 w2 aI=>tn r0 (qt r0 (fa 1 CS r0) (sT (.slice A1 ((l++s).length) c1) aI 0 r0 tC (fun w3 aN=>nx (tm (aA s) r0 (qt r0 (gG dI r0) (tA (I (s.length:Int)) r0 (tA (.nilIface) r0 (nn (rt (bO (.tmp (.tmp .nil)) r0 ?_))))))))))))))))))
 exact⟨A1,c1,rfl,(aN.pk [1,0] r0)⟩
theorem Cg {bxs:Nat} {cxs:Nat} (xs:List aD) (m:aD) (w:World) (hxs:Sl w [] 1 (some ⟨bxs,0,none⟩) xs.length cxs (xs.map aA)) (RS:xs.length≤1099511627776) (hl:(Lib.join xs m).length≤140737488355328):bF prog 218 [sb bxs xs.length cxs,aA m] w (fun v w'=>v=aA (Lib.join xs m)∧SH w w' [] []):=by
 exact Hw ⟨_,_,func218,by kernel_rfl,rfl⟩ Tryz.strings_Join_none Tryz.strings_Join hxs RS hl
theorem Nd (n:Int) (w:World) (hn:0≤n∧n≤9223372036854775807) (ih: ∀ (m:Int) (w:World),0≤m→m<n→bF prog 93 [I m] w (fun v w'=>v=aA (Lib.itoa m)∧SH w w' [] [])):bF prog 93 [I n] w (fun v w'=>v=aA (Lib.itoa n)∧SH w w' [] []):=by
 refine fQ 28 func93 r0 r0 ?_
 have aK:=SH.refl w []
 refine sr (tA (aA []) r0 (nn (sq (sr (tm (I n) r0 (qt r0 (lss r0 r0) (nn (bI r0 (fun h1=>absurd h1 (by omega)) (fun h1=>sk (nN (sq (sr (tm (I n) r0 (qt r0 (lss r0 r0) (nl (nN (bI r0 (fun h2=>absurd h2 (by omega)) (fun h2=>sk (nN (sq (sr (tm (I n) r0 (qt r0 (lss r0 r0) (nl (nN (bI r0 (fun h3=>?_) (fun h3=>?_)))))))))))))))))))))))))))
 ·exact sr (tm (I n) r0 (qt r0 (add r0 r0 (by(exact⟨by omega,by omega⟩))) (qt r0 (M0 (a:=48+n) (s:=.i64) xB tJ r0 (by omega) (by omega)) (cR aK l9 [.int .u8 (((UInt8.ofNat (48+n).toNat).toNat:Nat):Int)] [.int .u8 (((UInt8.ofNat (48+n).toNat).toNat:Nat):Int)] aH r0 (fun b1 w1 aE=>qt r0 (JY (l:=([(UInt8.ofNat (48+n).toNat)]:aD)) LD tJ dI r0 (aE.cI 0 r0)) (tA (aA ([(UInt8.ofNat (48+n).toNat)]:aD)) r0 (nn (rt (tR (fS r0 (Hm (by omega) (by omega)) (aE.pk [] r0)))))))))))
 refine sk (nN (sq ?_))
 refine kA (fun w'=>∃ L,SH w w' [] L∧True) (fun f w'=>∃ (pJ:Nat),Hz f [(2,aA ((Lib.itoa (n / 10))++(qS n)))]∧SH w w' [] [.own (Z7 pJ) ((qS n).length) 1 5 1 ((qS n).map U)]) mixed ?_ ?_
 ·refine dG 3 11 255 (fun f w'=>∃ (pJ:Nat),Hz f [(2,aA []),(20,aA (Lib.itoa (n / 10))),(25,sb pJ ((qS n).length) 1)]∧SH w w' [] [.own (Z7 pJ) ((qS n).length) 1 5 1 ((qS n).map U)]) ?_ (fun D_7_0=>?_)
  ·rintro f w2 ⟨pJ,⟨g1,rfl⟩,aI⟩
   refine aO 8 r0 (qt r0 (JY (l:=(qS n)) LD tJ dI r0 (aI.cI 0 r0)) (nk ⟨_,aI,aH⟩ (tQ (fuel:=0) (is:=[9,10]) (.cons r0 (.cons r0 (.nil))) ⟨_,aI,aH⟩ (yA r0 (cat r0 r0 (by(have hdl:=sL (n / 10) (by omega) (by omega); (simp; omega)))) (yA r0 (fW (v:=aA ((Lib.itoa (n / 10))++(qS n))) r0) (.nil (aQ ?_)))))))
   exact⟨pJ,(zR r0),aI⟩
  refine dG 3 11 507 (fun f w'=>∃ (pJ:Nat),Hz f [(2,aA []),(19,I (n / 10)),(26,aA (qS n))]∧SH w w' [] [.own (Z7 pJ) ((qS n).length) 1 5 1 ((qS n).map U)]) ?_ (fun D_7_1=>?_)
  ·rintro f w3 ⟨pJ,⟨g2,rfl⟩,aN⟩
   refine aO 2 r0 (cS aN r0 (ih (n / 10) _ (by omega) (by omega)) (fun w4 aR=>nk ⟨_,aR,aH⟩ (tQ (fuel:=0) (is:=[9,10]) (.cons r0 (.cons r0 (.nil))) ⟨_,aR,aH⟩ (yA r0 (cat r0 r0 (by(have hdl:=sL (n / 10) (by omega) (by omega); (simp; omega)))) (yA r0 (fW (v:=aA ((Lib.itoa (n / 10))++(qS n))) r0) (.nil (aQ ?_)))))))
   exact⟨pJ,(zR r0),aR⟩
  refine dG 4 11 127 (fun f w'=>Hz f [(2,aA []),(20,aA (Lib.itoa (n / 10))),(24,.int .u8 (((UInt8.ofNat (48+(n % 10)).toNat).toNat:Nat):Int))]∧SH w w' [] []) ?_ (fun D_7_2=>?_)
  ·rintro f w5 ⟨⟨g3,rfl⟩,aZ⟩
   exact aO 7 r0 (cR aZ l9 (LV n) (LV n) aH r0 (fun pJ w6 bG=>nk ⟨_,bG,aH⟩ (bS D_7_0 ⟨pJ,(zR r0),bG⟩)))
  refine dG 4 11 251 (fun f w'=>∃ (pJ:Nat),Hz f [(2,aA []),(19,I (n / 10)),(25,sb pJ ((qS n).length) 1)]∧SH w w' [] [.own (Z7 pJ) ((qS n).length) 1 5 1 ((qS n).map U)]) ?_ (fun D_7_3=>?_)
  ·rintro f w7 ⟨pJ,⟨g4,rfl⟩,bU⟩
   refine jN [2,8] (eX ?_ (jP ?_))
   ·exact eI r0 (cS bU r0 (ih (n / 10) _ (by omega) (by omega)) (fun w8 bV=>nk ⟨_,bV,aH⟩ (bS D_7_0 ⟨pJ,(zR r0),bV⟩)))
   exact eI r0 (qt r0 (JY (l:=(qS n)) LD tJ dI r0 (bU.cI 0 r0)) (nk ⟨_,bU,aH⟩ (bS D_7_1 ⟨pJ,(zR r0),bU⟩)))
  refine dG 5 11 123 (fun f w'=>Hz f [(2,aA []),(19,I (n / 10)),(24,.int .u8 (((UInt8.ofNat (48+(n % 10)).toNat).toNat:Nat):Int))]∧SH w w' [] []) ?_ (fun D_7_4=>?_)
  ·rintro f w9 ⟨⟨g5,rfl⟩,b9⟩
   refine jN [2,7] (eX ?_ (jP ?_))
   ·exact eI r0 (cS b9 r0 (ih (n / 10) _ (by omega) (by omega)) (fun kF cM=>nk ⟨_,cM,aH⟩ (bS D_7_2 ⟨(zR r0),cM⟩)))
   exact eI r0 (cR b9 l9 (LV n) (LV n) aH r0 (fun pJ kB cW=>nk ⟨_,cW,aH⟩ (bS D_7_3 ⟨pJ,(zR r0),cW⟩)))
  have dB:=aK.drew
  exact tQ (fuel:=5) (is:=[0,1,3,4,5,6]) (.cons r0 (.cons r0 (.cons r0 (.cons r0 (.cons r0 (.cons r0 (.nil))))))) ⟨_,dB,aH⟩ (yA r0 (mv (v:=I n) r0) (yA r0 (quo (a:=n) (b:=10) r0 r0 (by omega) (by omega) (by omega)) (yA r0 (mv (v:=I n) r0) (yA r0 (rem r0 r0 (by omega) (by omega)) (yA r0 (add r0 r0 (by(exact⟨by omega,by omega⟩))) (yA r0 (M0 (a:=48+(n % 10)) (s:=.i64) xB tJ r0 (by omega) (by omega)) (.nil (bS D_7_4 ⟨(zR r0),dB⟩))))))))
 rintro f kI ⟨pJ,⟨g6,rfl⟩,cY⟩
 refine nN (rt (fT (aA ((Lib.itoa (n / 10))++(qS n))) r0 ?_))
 have e2:(Lib.itoa (n / 10))++(qS n)=Lib.itoa n:=by exact Hl (by omega)
 exact⟨(aS (aA) e2),(cY.pk [] r0)⟩
theorem DC (n:Int) (w:World) (hn:0≤n∧n≤9223372036854775807):bF prog 93 [I n] w (fun v w'=>v=aA (Lib.itoa n)∧SH w w' [] []):=by
 have key: ∀ (j:Nat) (n:Int) (w:World),n.toNat=j→0≤n→n≤9223372036854775807→bF prog 93 [I n] w (fun v w'=>v=aA (Lib.itoa n)∧SH w w' [] []):=by
  intro j
  induction j using Nat.strongRecOn with
  | _ j ih=>
   intro n w hj h0 h1
   exact Nd n w ⟨h0,h1⟩ (fun m w RI hmn=>ih m.toNat (by omega) m w r0 RI (by omega))
 exact key _ n w r0 hn.1 hn.2
theorem R0 {Aqs:aM} {cqs:Nat} (qs:aC) (w:World) (hqs:Sl w [] 1 Aqs qs.length cqs (qs.map I)) (hq:kO qs=true) (hGp:bZ prog w [] "internal/strconv.uint64pow10" jH):bF prog 217 [.slice Aqs qs.length cqs] w (fun v w'=>v=aA (fJ qs)∧SH w w' [] []):=by
 refine fQ 24 func217 r0 r0 ?_
 have aK:=SH.refl w []
 have NJ:qs.length≤9223372036854775807:=cB hqs.cap hqs.cO
 refine sr (tA (aA []) r0 (nx (tm (cD Aqs qs cqs) r0 (qt r0 (dK aV r0) (DE (g:=aA) (z:=[]) (n:=qs.length) aK fZ r0 r0 r0 (by(have xY:=wA hq; omega)) (by unfold maxLen; (omega)) aH r0 (fun b1 w1 aE=>tA (sb b1 ((List.replicate qs.length ([]:aD)).length) qs.length) r0 (nn (sq (sr (tm (cD Aqs qs cqs) r0 (qt r0 (dK aV r0) (tm (I 0) r0 (nn (bl ?_))))))))))))))
 have e1:List.replicate qs.length ([]:aD)=(qs.map Lib.itoa).take 0++List.replicate (qs.length-0) ([]:aD):=by simp
 have e2:(List.replicate qs.length ([]:aD)).length=qs.length:=by((simp; done))
 refine lp (σ:=Nat) (fun(k:Nat) f w'=>Hz f [(3,sb b1 qs.length qs.length),(9,.slice Aqs qs.length cqs),(10,I (qs.length:Int)),(11,I (k:Int))]∧(k≤qs.length)∧SH w w' [] [.own (Z7 b1) qs.length qs.length 9 1 (((qs.map Lib.itoa).take k++List.replicate (qs.length-k) ([]:aD)).map aA)]) (fun k=>qs.length-k) 0 ⟨(zH ⟨(show (.slice (Z7 b1) ((List.replicate qs.length ([]:aD)).length) qs.length:Value)=.slice (Z7 b1) qs.length qs.length from eE r0 e2 r0),rfl,rfl,rfl,aH⟩),(by simp),(aE.cast (lc (dZ (g:=aA) r0 e2 r0 e1) r0))⟩ ?_
 rintro k f w2 ⟨⟨g1,rfl⟩,hk,aI⟩
 refine sr (qt r0 (lss r0 r0) (nn (sq (bI r0 (fun h1=>?_) (fun h1=>?_)))))
 ·refine sk (nN (sq (bl (sr (tm (I (k:Int)) r0 (gN k aV r0 r0 hqs (by omega) (eQ I 0 (by omega)) aH r0 (fun a1 eL=>qt r0 (eW aI eL (fun _ h=>h) r0 r0 cN) (tA (I (k:Int)) r0 (tA (I (qs.getD k 0)) r0 (nn (rg (tm (sb b1 qs.length qs.length) r0 (tm (I (k:Int)) r0 (tm (I (qs.getD k 0)) r0 (cS aI r0 (I0 _ _ (by have hy:=oG hq (k:=k) (by omega); omega) (hGp.aP aI)) (fun w3 aN=>qt r0 (lR k fZ r0 r0 (by omega)) (DQ (g:=aA) (ys:=(qs.map Lib.itoa).take k++List.replicate (qs.length-k) ([]:aD)) (o:=k) (u:=Lib.itoa (qs.getD k 0)) aN 0 r0 r0 r0 r0 (by omega) r0 eC aH (fun w4 aR=>nl (bN (nN (rg (qt r0 (add r0 r0 (by(exact⟨by omega,by omega⟩))) (tm (I ((k:Int)+1)) r0 (nn ?_))))))))))))))))))))))))
  have e3:((qs.map Lib.itoa).take k++List.replicate (qs.length-k) ([]:aD)).set k (Lib.itoa (qs.getD k 0))=(qs.map Lib.itoa).take (k+1)++List.replicate (qs.length-(k+1)) ([]:aD):=by exact Rp (by omega)
  refine⟨(k+1),⟨(zR r0),(by omega),(aR.cast (lc (dZ (g:=aA) r0 r0 r0 e3) r0))⟩,?_⟩
  omega
 refine ex (tE (tE (bE (nN (sr (tm (sb b1 qs.length qs.length) r0 ?_))))))
 have e4:qs.length=((qs.map Lib.itoa).take k++List.replicate (qs.length-k) ([]:aD)).length:=by(simp; omega)
 have aZ:SH w w2 [] [.own (Z7 b1) (((qs.map Lib.itoa).take k++List.replicate (qs.length-k) ([]:aD)).length) qs.length 9 1 (((qs.map Lib.itoa).take k++List.replicate (qs.length-k) ([]:aD)).map aA)]:=(aI.cast (lc (dZ (g:=aA) r0 e4 r0 r0) r0))
 refine cS aZ r0 (bF.Gf (lc (eE r0 e4.symm r0) (lc r0 r0)) (Cg _ [46] _ (aZ.cI 0 r0) (by(have xY:=wA hq; omega)) (by rw[ZZ (by omega)]; exact cB (ZW hq) (by decide:87≤140737488355328)))) (fun w5 bG=>tA (aA (Lib.join ((qs.map Lib.itoa).take k++List.replicate (qs.length-k) ([]:aD)) [46])) r0 (nn (rt (fT (aA (Lib.join ((qs.map Lib.itoa).take k++List.replicate (qs.length-k) ([]:aD)) [46])) r0 ?_))))
 have e5:Lib.join ((qs.map Lib.itoa).take k++List.replicate (qs.length-k) ([]:aD)) [46]=fJ qs:=by rw[ZZ (by omega)]; rfl
 exact⟨(aS (aA) e5),(bG.pk [] r0)⟩
theorem PC {Aqs:aM} {cqs:Nat} (qs:aC) (w:World) (hqs:Sl w [] 1 Aqs qs.length cqs (qs.map I)) (hq:kO qs=true):bF prog 186 [.slice Aqs qs.length cqs] w (fun v w'=>v=aA (fJ qs)∧SH w w' [] []):=by
 refine fQ 25 func186 r0 r0 ?_
 have aK:=SH.refl w []
 have NJ:qs.length≤9223372036854775807:=cB hqs.cap hqs.cO
 refine sr (tA (aA []) r0 (nn (sq (rq (fun w'=>SH w w' [] []) mixed (by kernel_rfl) aK.drew (qA r0 (mv (v:=.slice Aqs qs.length cqs) r0) ?_)))))
 have xY:=wA hq
 have g0:=DB (oG hq (k:=0) (by omega))
 have g1:=DB (oG hq (k:=1) (by omega))
 have g2:=DB (oG hq (k:=2) (by omega))
 have g3:=DB (oG hq (k:=3) (by omega))
 refine qL 0 aV r0 r0 hqs (by omega) (eQ I 0 (by omega)) aH r0 (fun a1 eL=>?_)
 have xY:=wA hq
 have g0:=oG hq (k:=0) (by omega)
 have g1:=oG hq (k:=1) (by omega)
 have g2:=oG hq (k:=2) (by omega)
 have g3:=oG hq (k:=3) (by omega)
 refine qB r0 (fun aU=>eW aU eL (fun _ h=>h) r0 r0 cN) (qc (aA (Lib.itoa (qs.getD 0 0))) aH r0 (fun wq aU=>(DC _ _ (by omega)).mono (fun v w' h=>⟨h.1,by simpa using aU.cJ h.2⟩)) (qA r0 (cat r0 r0 (by simp only[bH,bP,bK]; omega)) (qA r0 (mv (v:=.slice Aqs qs.length cqs) r0) (qL 1 aV r0 r0 hqs (by omega) (eQ I 0 (by omega)) aH r0 (fun a2 jG=>qB r0 (fun aU=>eW aU jG (fun _ h=>h) r0 r0 cN) (qc (aA (Lib.itoa (qs.getD 1 0))) aH r0 (fun wq aU=>(DC _ _ (by omega)).mono (fun v w' h=>⟨h.1,by simpa using aU.cJ h.2⟩)) (qA r0 (cat r0 r0 (by simp only[bH,bP,bK]; omega)) (qA r0 (cat r0 r0 (by simp only[bH,bP,bK]; omega)) (qA r0 (mv (v:=.slice Aqs qs.length cqs) r0) (qL 2 aV r0 r0 hqs (by omega) (eQ I 0 (by omega)) aH r0 (fun a3 nV=>qB r0 (fun aU=>eW aU nV (fun _ h=>h) r0 r0 cN) (qc (aA (Lib.itoa (qs.getD 2 0))) aH r0 (fun wq aU=>(DC _ _ (by omega)).mono (fun v w' h=>⟨h.1,by simpa using aU.cJ h.2⟩)) (qA r0 (cat r0 r0 (by simp only[bH,bP,bK]; omega)) (qA r0 (cat r0 r0 (by simp only[bH,bP,bK]; omega)) (qA r0 (mv (v:=.slice Aqs qs.length cqs) r0) (qL 3 aV r0 r0 hqs (by omega) (eQ I 0 (by omega)) aH r0 (fun a4 xW=>qB r0 (fun aU=>eW aU xW (fun _ h=>h) r0 r0 cN) (qc (aA (Lib.itoa (qs.getD 3 0))) aH r0 (fun wq aU=>(DC _ _ (by omega)).mono (fun v w' h=>⟨h.1,by simpa using aU.cJ h.2⟩)) (qA r0 (cat r0 r0 (by simp only[bH,bP,bK]; omega)) (qA r0 (fW (v:=aA (((((((Lib.itoa (qs.getD 0 0))++[46])++(Lib.itoa (qs.getD 1 0)))++[46])++(Lib.itoa (qs.getD 2 0)))++[46])++(Lib.itoa (qs.getD 3 0)))) r0) (qn (fun w1 aE=>nN (rt (fT (aA (((((((Lib.itoa (qs.getD 0 0))++[46])++(Lib.itoa (qs.getD 1 0)))++[46])++(Lib.itoa (qs.getD 2 0)))++[46])++(Lib.itoa (qs.getD 3 0)))) r0 ?_))))))))))))))))))))))))
 have e1:((((((Lib.itoa (qs.getD 0 0))++[46])++(Lib.itoa (qs.getD 1 0)))++[46])++(Lib.itoa (qs.getD 2 0)))++[46])++(Lib.itoa (qs.getD 3 0))=fJ qs:=by exact(KW (wA hq)).symm
 exact⟨(aS (aA) e1),aE⟩
theorem Ln (ak:Int) {Aaq:aM} {caq:Nat} (aq:aC) (an:aD) (apt:Int) (w:World) (haq:Sl w [] 1 Aaq aq.length caq (aq.map I)) (han_n:an.length≤1099511627776) (hok:dN ak aq an apt=true) (hGp:bZ prog w [] "internal/strconv.uint64pow10" jH):bF prog 227 [.agg #[I ak,.slice Aaq aq.length caq,aA an,I apt]] w (fun v w'=>v=aA (jJ ak aq an)∧SH w w' [] []):=by
 refine fQ 11 func227 r0 r0 ?_
 have aK:=SH.refl w []
 have pM:aq.length≤9223372036854775807:=cB haq.cap haq.cO
 refine sr (bx (v:=.agg #[I ak,(Z4 Aaq aq caq),aA an,I apt]) (cs:=[I ak,(Z4 Aaq aq caq),aA an,I apt]) aK r0 r0 aH r0 (fun b1 w1 aE=>tA (aA []) r0 (nn (sq (sr (qt r0 (fa 0 o8 r0) (qt r0 (lD (I ak) aE 0 r0 cN) (qt r0 (dO r0 r0) (nn (bI r0 (fun h1=>?_) (fun h1=>?_)))))))))))
 ·exact sr (qt r0 (fa 1 pL r0) (qt r0 (lD (cD Aaq aq caq) aE 0 r0 j4) (cS aE r0 (R0 _ _ (haq.aP aE) (by exact zN hok ‹_›) (hGp.aP aE)) (fun w2 aI=>tA (aA (fJ aq)) r0 (nn (rt (tR (fS r0 (by simp[jJ,h1]) (aI.pk [] r0)))))))))
 refine sk (nN (sr (qt r0 (fa 2 sW r0) (qt r0 (lD (aA an) aE 0 r0 eC) (tA (aA an) r0 (nl (nN (rt (fT (aA an) r0 ?_)))))))))
 have e2:an=jJ ak aq an:=by simp[jJ,h1]
 exact⟨(aS (aA) e2),(aE.pk [] r0)⟩
theorem Td (ak:Int) {Aaq:aM} {caq:Nat} (aq:aC) (an:aD) (apt:Int) (w:World) (haq:Sl w [] 1 Aaq aq.length caq (aq.map I)) (han_n:an.length≤1099511627776) (hok:dN ak aq an apt=true):bF prog 132 [.agg #[I ak,.slice Aaq aq.length caq,aA an,I apt]] w (fun v w'=>v=aA (jJ ak aq an)∧SH w w' [] []):=by
 refine fQ 11 func132 r0 r0 ?_
 have aK:=SH.refl w []
 have pM:aq.length≤9223372036854775807:=cB haq.cap haq.cO
 refine sr (bx (v:=.agg #[I ak,(Z4 Aaq aq caq),aA an,I apt]) (cs:=[I ak,(Z4 Aaq aq caq),aA an,I apt]) aK r0 r0 aH r0 (fun b1 w1 aE=>tA (aA []) r0 (nn (sq (sr (qt r0 (fa 0 o8 r0) (qt r0 (lD (I ak) aE 0 r0 cN) (qt r0 (dO r0 r0) (nn (bI r0 (fun h1=>?_) (fun h1=>?_)))))))))))
 ·exact sr (qt r0 (fa 1 pL r0) (qt r0 (lD (cD Aaq aq caq) aE 0 r0 j4) (cS aE r0 (PC _ _ (haq.aP aE) (by exact zN hok ‹_›)) (fun w2 aI=>tA (aA (fJ aq)) r0 (nn (rt (tR (fS r0 (by simp[jJ,h1]) (aI.pk [] r0)))))))))
 refine sk (nN (sr (qt r0 (fa 2 sW r0) (qt r0 (lD (aA an) aE 0 r0 eC) (tA (aA an) r0 (nl (nN (rt (fT (aA an) r0 ?_)))))))))
 have e2:an=jJ ak aq an:=by simp[jJ,h1]
 exact⟨(aS (aA) e2),(aE.pk [] r0)⟩
theorem Vh (s:aD) (t:aD) (w:World) (hs_n:s.length≤1099511627776) (C7:t.length≤1099511627776):bF prog 64 [aA s,aA t] w (fun v w'=>v=.bool (decide (pZ s t))∧SH w w' [] []):=by
 refine fQ 21 func64 r0 r0 ?_
 have aK:=SH.refl w []
 refine sr (tA (.bool false) r0 (nx (tm (aA s) r0 (qt r0 (gG dI r0) (tm (aA t) r0 (qt r0 (gG dI r0) (qt r0 (geq r0 r0) (tm (.bool (decide ((t.length:Int)≤(s.length:Int)))) r0 (fF 10 r0 (fun h1=>?_) (fun h1=>?_))))))))))
 ·refine qh r0 (mv (v:=aA s) r0) (qh r0 (mv (v:=aA s) r0) (qh r0 (gG dI r0) (qh r0 (mv (v:=aA t) r0) (qh r0 (gG dI r0) (qh r0 (sub r0 r0 (by exact⟨by omega,by omega⟩)) (qh r0 (CK (l:=s) (((s.length:Int)-(t.length:Int)).toNat) dI r0 (jK (x:=(s.length:Int)-(t.length:Int)) (by omega)) (by omega)) (qh r0 (mv (v:=aA t) r0) (qh r0 (eqs r0 r0) (qt r0 (pt (v:=.bool (decide (s.drop (((s.length:Int)-(t.length:Int)).toNat)=t))) r0 r0) (tA (.bool (decide (s.drop (((s.length:Int)-(t.length:Int)).toNat)=t))) r0 (nn (rt (fT (.bool (decide (s.drop (((s.length:Int)-(t.length:Int)).toNat)=t))) r0 ?_)))))))))))))
  have e1:(decide (s.drop (((s.length:Int)-(t.length:Int)).toNat)=t))=decide (pZ s t):=by(have hx:t.length≤s.length:=(by omega); simp[pZ,hx]; done)
  exact⟨(aS (Value.bool) e1),aK⟩
 refine bA r0 (bA r0 (bA r0 (bA r0 (bA r0 (bA r0 (bA r0 (bA r0 (bA r0 (qt r0 (pf (v:=.bool false) r0 r0) (tA (.bool false) r0 (nn (rt (fT (.bool false) r0 ?_)))))))))))))
 have e2:false=decide (pZ s t):=by(have hx: ¬ t.length≤s.length:=(by omega); simp[pZ,hx]; done)
 exact⟨(aS (Value.bool) e2),aK⟩
theorem W0 (ak:Int) {Aaq:aM} {caq:Nat} (aq:aC) (an:aD) (apt:Int) (w:World) (haq:Sl w [] 1 Aaq aq.length caq (aq.map I)) (han_n:an.length≤1099511627776) (hok:dN ak aq an apt=true) (hGp:bZ prog w [] "internal/strconv.uint64pow10" jH):bF prog 182 [.agg #[I ak,.slice Aaq aq.length caq,aA an,I apt]] w (fun v w'=>v=aA (jJ ak aq an++[58]++Lib.itoa apt)∧SH w w' [] []):=by
 refine fQ 10 func182 r0 r0 ?_
 have aK:=SH.refl w []
 have pM:aq.length≤9223372036854775807:=cB haq.cap haq.cO
 refine sr (bx (v:=.agg #[I ak,(Z4 Aaq aq caq),aA an,I apt]) (cs:=[I ak,(Z4 Aaq aq caq),aA an,I apt]) aK r0 r0 aH r0 (fun b1 w1 aE=>?_))
 have haf:=fK hok
 have hhl:=RK hok
 have hil:=sL apt (by omega) (by omega)
 refine tA (aA []) r0 (nn (sq (rq (fun w'=>SH w w' [] [.blk b1 74 [I ak,(Z4 Aaq aq caq),aA an,I apt]]) mixed (by kernel_rfl) aE.drew (qB r0 (fun aU=>lG [I ak,(Z4 Aaq aq caq),aA an,I apt] aU 0 r0 cG) (qc (aA (jJ ak aq an)) aH r0 (fun wq aU=>(Ln _ _ _ _ _ (haq.aP aU) (by omega) (by omega) (hGp.aP aU)).mono (fun v w' h=>⟨h.1,by simpa using aU.cJ h.2⟩)) (qA r0 (cat r0 r0 (by simp only[bH,bP,bK]; omega)) (qA r0 (fa 3 pV r0) (qB r0 (fun aU=>lD (I apt) aU 0 r0 cN) (qc (aA (Lib.itoa apt)) aH r0 (fun wq aU=>(I0 _ _ (by omega) (hGp.aP aU)).mono (fun v w' h=>⟨h.1,by simpa using aU.cJ h.2⟩)) (qA r0 (cat r0 r0 (by simp only[bH,bP,bK]; omega)) (qA r0 (fW (v:=aA (((jJ ak aq an)++[58])++(Lib.itoa apt))) r0) (qn (fun w2 aI=>nN (rt (fT (aA (((jJ ak aq an)++[58])++(Lib.itoa apt))) r0 ?_)))))))))))))))
 have e1:((jJ ak aq an)++[58])++(Lib.itoa apt)=jJ ak aq an++[58]++Lib.itoa apt:=by rfl
 exact⟨(aS (aA) e1),(aI.pk [] r0)⟩
theorem Ld (ak:Int) {Aaq:aM} {caq:Nat} (aq:aC) (an:aD) (apt:Int) (w:World) (haq:Sl w [] 1 Aaq aq.length caq (aq.map I)) (han_n:an.length≤1099511627776) (hGp:bZ prog w [] "internal/strconv.uint64pow10" jH):bF prog 214 [.agg #[I ak,.slice Aaq aq.length caq,aA an,I apt]] w (fun v w'=>v=aA (gZ ak aq an apt)∧SH w w' [] []):=by
 refine fQ 8 func214 r0 r0 ?_
 have aK:=SH.refl w []
 have pM:aq.length≤9223372036854775807:=cB haq.cap haq.cO
 refine sr (bx (v:=.agg #[I ak,(Z4 Aaq aq caq),aA an,I apt]) (cs:=[I ak,(Z4 Aaq aq caq),aA an,I apt]) aK r0 r0 aH r0 (fun b1 w1 aE=>tA (aA []) r0 (nn (sq (sr (qt r0 (lG [I ak,(Z4 Aaq aq caq),aA an,I apt] aE 0 r0 cG) (cS aE r0 (x0 _ _ _ _ _ (haq.aP aE) (by omega)) (fun w2 aI=>qt r0 (nt r0) (nn (cd r0 (fun h1=>?_) (fun h1=>?_)))))))))))
 ·have h2:=dX h1
  exact sr (tA (aA []) r0 (nn (rt (tR (fS r0 (by simp[gZ,h2]) (aI.pk [] r0))))))
 have h3:=dY h1
 refine sk (nN (sr (qt r0 (lG [I ak,(Z4 Aaq aq caq),aA an,I apt] aI 0 r0 cG) (cS aI r0 (W0 _ _ _ _ _ (haq.aP aI) (by omega) (by omega) (hGp.aP aI)) (fun w3 aN=>tA (aA (jJ ak aq an++[58]++Lib.itoa apt)) r0 (nn (rt (fT (aA (jJ ak aq an++[58]++Lib.itoa apt)) r0 ?_))))))))
 have e2:jJ ak aq an++[58]++Lib.itoa apt=gZ ak aq an apt:=by simp[gZ,h3]
 exact⟨(aS (aA) e2),(aN.pk [] r0)⟩
theorem PK {Axs:aM} {cxs:Nat} (xs:aC) {Abs:aM} {cbs:Nat} (bs:aC) (w:World) (hxs:Sl w [] 1 Axs xs.length cxs (xs.map I)) (hbs:Sl w [] 1 Abs bs.length cbs (bs.map I)):bF prog 161 [.slice Axs xs.length cxs,.slice Abs bs.length cbs] w (fun v w'=>v=.bool (decide (xs=bs))∧SH w w' [] []):=by
 refine fQ 26 func161 r0 r0 ?_
 have aK:=SH.refl w []
 have KJ:xs.length≤9223372036854775807:=cB hxs.cap hxs.cO
 have nW:bs.length≤9223372036854775807:=cB hbs.cap hbs.cO
 refine sr (tA (.bool false) r0 (nn (sq (sr (tm (cD Axs xs cxs) r0 (qt r0 (dK aV r0) (tm (cD Abs bs cbs) r0 (qt r0 (dK aV r0) (qt r0 (nK r0 r0) (nn (bI r0 (fun h1=>?_) (fun h1=>?_))))))))))))
 ·exact sr (tA (.bool false) r0 (nn (rt (tR (fB r0 (by simp; intro h; subst h; exact h1 r0) aK)))))
 refine sk (nN (sq (sr (tm (cD Axs xs cxs) r0 (qt r0 (dK aV r0) (tm (I 0) r0 (nn (bl (lp (σ:=Nat) (fun(k:Nat) f w'=>Hz f [(0,.slice Axs xs.length cxs),(1,.slice Abs bs.length cbs),(12,I (xs.length:Int)),(13,I (k:Int))]∧(xs.length=bs.length)∧(k≤xs.length)∧(xs.take k=bs.take k)∧SH w w' [] []) (fun k=>xs.length-k) 0 ⟨(zR r0),(by omega),(by simp),(by simp),aK⟩ ?_)))))))))
 rintro k f w1 ⟨⟨g1,rfl⟩,hl,hk,ha,aE⟩
 refine sr (qt r0 (lss r0 r0) (nn (sq (bI r0 (fun h2=>?_) (fun h2=>?_)))))
 ·refine sk (nN (sq (bl (sr (tm (I (k:Int)) r0 (tA (I (k:Int)) r0 (nn (sq (rq (fun w'=>SH w w' [] []) mixed (by kernel_rfl) aE.drew (qA r0 (mv (v:=.slice Axs xs.length cxs) r0) (qA r0 (mv (v:=I (k:Int)) r0) (qL k aV r0 r0 hxs (by omega) (eQ I 0 (by omega)) aH r0 (fun a1 eL=>qB r0 (fun aU=>eW aU eL (fun _ h=>h) r0 r0 cN) (qA r0 (mv (v:=.slice Abs bs.length cbs) r0) (qA r0 (mv (v:=I (k:Int)) r0) (qL k aV r0 r0 hbs (by omega) (eQ I 0 (by omega)) aH r0 (fun a2 jG=>qB r0 (fun aU=>eW aU jG (fun _ h=>h) r0 r0 cN) (qA r0 (nK r0 r0) (qn (fun w2 aI=>nN (bI r0 (fun h3=>?_) (fun h3=>?_))))))))))))))))))))))
  ·exact sr (tA (.bool false) r0 (nn (rt (bR (tR (tR (bR (tR (fB r0 (by simp; intro h; subst h; exact h3 r0) aI)))))))))
  refine sk (bN (nN (rg (qt r0 (add r0 r0 (by exact⟨by omega,by omega⟩)) (tm (I ((k:Int)+1)) r0 (nn ?_))))))
  refine⟨(k+1),⟨(zR r0),(hl),(by omega),(Wv (by omega) (by omega) ha (by simpa using h3)),aI⟩,?_⟩
  omega
 refine ex (tE (tE (bE (nN (sr (tA (.bool true) r0 (nn (rt (fT (.bool true) r0 ?_)))))))))
 have e3:true=(decide (xs=bs)):=by simp; exact Wu hl (by omega) ha
 exact⟨(aS (Value.bool) e3),aE⟩
theorem RY (c:Int) (ak:Int) {Aaq:aM} {caq:Nat} (aq:aC) (an:aD) (apt:Int) (us:aD) (w:World) (haq:Sl w [] 1 Aaq aq.length caq (aq.map I)) (han_n:an.length≤1099511627776) (hus_n:us.length≤2147483648):bF prog 107 [.agg #[I c,I ak,.slice Aaq aq.length caq,aA an,I apt,aA us]] w (fun v w'=>v=.bool (gL c ak aq an apt us)∧SH w w' [] []):=by
 refine fQ 32 func107 r0 r0 ?_
 have aK:=SH.refl w []
 have pM:aq.length≤9223372036854775807:=cB haq.cap haq.cO
 refine sr (bx (v:=.agg #[I c,I ak,(Z4 Aaq aq caq),aA an,I apt,aA us]) (cs:=[I c,I ak,(Z4 Aaq aq caq),aA an,I apt,aA us]) aK r0 r0 aH r0 (fun b1 w1 aE=>tA (.bool false) r0 (nn (sq (sr (qt r0 (fa 0 M7 r0) (qt r0 (lD (I c) aE 0 r0 cN) (cS aE r0 (x4 _ 1 2 _) (fun w2 aI=>qt r0 (nd r0) (tm (.bool (decide (¬ (1≤c∧c≤2)))) r0 (fF 7 r0 (fun h1=>?_) (fun h1=>?_))))))))))))
 ·exact aT r0 (aT r0 (aT r0 (aT r0 (qt r0 (pt (v:=.bool true) r0 r0) (tm (.bool true) r0 (aT r0 (aT r0 (aT r0 (aT r0 (qt r0 (pt (v:=.bool true) r0 r0) (nn (fX r0 (sr (tA (.bool false) r0 (nn (rt (tR (fB r0 (by(simp[gL,h1]; done)) (aI.pk [] r0)))))))))))))))))))
 refine qh r0 (fa 1 mW r0) (qh r0 (lG [I ak,(Z4 Aaq aq caq),aA an,I apt] aI 0 r0 cG) (cl ⟨_,rfl,rfl⟩ r0 (x0 _ _ _ _ _ (haq.aP aI) (by omega)) ?_))
 rintro _ w3 ⟨rfl,aN⟩
 replace aN:=aI.cJ aN
 refine qh r0 (nt r0) (qt r0 (pf (v:=.bool (!(dN ak aq an apt))) r0 r0) (tm (.bool (!(dN ak aq an apt))) r0 (hP 13 r0 (fun h2=>?_) (fun h2=>?_))))
 ·have h3:=dX h2
  exact aT r0 (aT r0 (aT r0 (aT r0 (qt r0 (pt (v:=.bool true) r0 r0) (nn (fX r0 (sr (tA (.bool false) r0 (nn (rt (tR (fB r0 (by(simp[gL,h1,h3]; done)) (aN.pk [] r0)))))))))))))
 have h4:=dY h2
 refine qh r0 (fa 5 EY r0) (qh r0 (lD (aA us) aN 0 r0 eC) (cl ⟨_,rfl,rfl⟩ r0 (R1 _ _ (by omega)) ?_))
 rintro _ w4 ⟨rfl,aR⟩
 replace aR:=aN.cJ aR
 refine qh r0 (nt r0) (qt r0 (pf (v:=.bool (!(lO us))) r0 r0) (nn (cd r0 (fun h5=>?_) (fun h5=>?_))))
 ·have h6:=dX h5
  exact sr (tA (.bool false) r0 (nn (rt (tR (fB r0 (by(simp[gL,h1,h4,h6]; done)) (aR.pk [] r0))))))
 have h7:=dY h5
 refine sk (nN (sr (qt r0 (fa 1 mW r0) (qt r0 (fa 0 o8 r0) (qt r0 (lD (I ak) aR 0 r0 cN) (qt r0 (dO r0 r0) (tm (.bool (decide (ak=3))) r0 (fF 23 r0 (fun h8=>?_) (fun h8=>?_)))))))))
 ·refine aT r0 (aT r0 (aT r0 (aT r0 (aT r0 (aT r0 (aT r0 (qt r0 (pt (v:=.bool true) r0 r0) (tA (.bool true) r0 (nn (rt (fT (.bool true) r0 ?_)))))))))))
  have e4:true=gL c ak aq an apt us:=by exact(Y6 (by exact Decidable.not_not.1 ‹_›) ‹_› ‹_› ‹_›).symm
  exact⟨(aS (Value.bool) e4),(aR.pk [] r0)⟩
 refine qh r0 (fa 1 mW r0) (qh r0 (fa 1 pL r0) (qh r0 (lD (cD Aaq aq caq) aR 0 r0 j4) (qh r0 (JU (zs:=aq) 3 aV r0 r0 (by(have h4_:=(HF (by assumption:dN ak aq an apt=true) ‹_›).1; omega)) haq.cap) (cR aR aV [I 0,I 0,I 0] [I 0,I 0,I 0] ⟨_,rfl,rfl⟩ r0 (fun b2 w5 aZ=>cl ⟨_,rfl,rfl⟩ r0 (PK _ ([0,0,0]:aC) _ (Sl.JX (haq.aP aZ) (by(have h4_:=(HF (by assumption:dN ak aq an apt=true) ‹_›).1; omega))) (aZ.cI 1 r0)) ?_)))))
 rintro _ w6 ⟨rfl,bG⟩
 replace bG:=aZ.cJ bG
 refine qh r0 (nd r0) (qt r0 (pf (v:=.bool (decide (¬ ((aq.take 3)=([0,0,0]:aC))))) r0 r0) (tA (.bool (decide (¬ ((aq.take 3)=([0,0,0]:aC))))) r0 (nn (rt (fT (.bool (decide (¬ ((aq.take 3)=([0,0,0]:aC))))) r0 ?_)))))
 have e5:(decide (¬ ((aq.take 3)=([0,0,0]:aC))))=gL c ak aq an apt us:=by(simp[gL,h1,h4,h7,h8] <;> omega)
 exact⟨(aS (Value.bool) e5),(bG.pk [] r0)⟩
theorem K0 (c:Int) (ak:Int) {Aaq:aM} {caq:Nat} (aq:aC) (an:aD) (apt:Int) (us:aD) (w:World) (haq:Sl w [] 1 Aaq aq.length caq (aq.map I)) (han_n:an.length≤1099511627776) (hus_n:us.length≤2147483648):bF prog 83 [.agg #[I c,I ak,.slice Aaq aq.length caq,aA an,I apt,aA us]] w (fun v w'=>v=.bool (gL c ak aq an apt us)∧SH w w' [] []):=by
 refine fQ 43 func83 r0 r0 ?_
 have aK:=SH.refl w []
 have pM:aq.length≤9223372036854775807:=cB haq.cap haq.cO
 refine sr (bx (v:=.agg #[I c,I ak,(Z4 Aaq aq caq),aA an,I apt,aA us]) (cs:=[I c,I ak,(Z4 Aaq aq caq),aA an,I apt,aA us]) aK r0 r0 aH r0 (fun b1 w1 aE=>tA (.bool false) r0 (nn (sq (sr (qt r0 (fa 0 M7 r0) (qt r0 (lD (I c) aE 0 r0 cN) (cS aE r0 (wV _ 1 2 _) (fun w2 aI=>qt r0 (nd r0) (tm (.bool (decide (¬ (1≤c∧c≤2)))) r0 (fF 7 r0 (fun h1=>?_) (fun h1=>?_))))))))))))
 ·exact aT r0 (aT r0 (aT r0 (aT r0 (qt r0 (pt (v:=.bool true) r0 r0) (tm (.bool true) r0 (aT r0 (aT r0 (aT r0 (aT r0 (qt r0 (pt (v:=.bool true) r0 r0) (nn (fX r0 (sr (tA (.bool false) r0 (nn (rt (tR (fB r0 (by(simp[gL,h1]; done)) (aI.pk [] r0)))))))))))))))))))
 refine qh r0 (fa 1 mW r0) (qh r0 (lG [I ak,(Z4 Aaq aq caq),aA an,I apt] aI 0 r0 cG) (cl ⟨_,rfl,rfl⟩ r0 (AF _ _ _ _ _ (haq.aP aI) (by omega)) ?_))
 rintro _ w3 ⟨rfl,aN⟩
 replace aN:=aI.cJ aN
 refine qh r0 (nt r0) (qt r0 (pf (v:=.bool (!(dN ak aq an apt))) r0 r0) (tm (.bool (!(dN ak aq an apt))) r0 (hP 13 r0 (fun h2=>?_) (fun h2=>?_))))
 ·have h3:=dX h2
  exact aT r0 (aT r0 (aT r0 (aT r0 (qt r0 (pt (v:=.bool true) r0 r0) (nn (fX r0 (sr (tA (.bool false) r0 (nn (rt (tR (fB r0 (by(simp[gL,h1,h3]; done)) (aN.pk [] r0)))))))))))))
 have h4:=dY h2
 refine qh r0 (fa 5 EY r0) (qh r0 (lD (aA us) aN 0 r0 eC) (cl ⟨_,rfl,rfl⟩ r0 (TJ _ _ (by omega)) ?_))
 rintro _ w4 ⟨rfl,aR⟩
 replace aR:=aN.cJ aR
 refine qh r0 (nt r0) (qt r0 (pf (v:=.bool (!(lO us))) r0 r0) (nn (cd r0 (fun h5=>?_) (fun h5=>?_))))
 ·have h6:=dX h5
  exact sr (tA (.bool false) r0 (nn (rt (tR (fB r0 (by(simp[gL,h1,h4,h6]; done)) (aR.pk [] r0))))))
 have h7:=dY h5
 refine sk (nN (sq (rq (fun w'=>SH w w' [] [.blk b1 79 [I c,I ak,(Z4 Aaq aq caq),aA an,I apt,aA us]]) mixed (by kernel_rfl) aR.drew (qA r0 (fa 1 mW r0) (qA r0 (fa 0 o8 r0) (qB r0 (fun aU=>lD (I ak) aU 0 r0 cN) (qA r0 (dO r0 r0) (qA r0 (mv (v:=.bool (decide (ak=3))) r0) (ZR 23 r0 (fun h8=>?_) (fun h8=>?_))))))))))
 ·refine kW r0 (kW r0 (kW r0 (kW r0 (kW r0 (kW r0 (kW r0 (kW r0 (kW r0 (kW r0 (kW r0 (kW r0 (kW r0 (kW r0 (kW r0 (kW r0 (kW r0 (kW r0 (qA r0 (pt (v:=.bool true) r0 r0) (qA r0 (fW (v:=.bool true) r0) (qn (fun w5 aZ=>nN (rt (fT (.bool true) r0 ?_)))))))))))))))))))))))
  have e4:true=gL c ak aq an apt us:=by exact(Y6 (by exact Decidable.not_not.1 ‹_›) ‹_› ‹_› ‹_›).symm
  exact⟨(aS (Value.bool) e4),(aZ.pk [] r0)⟩
 have h4_:=(HF (by assumption:dN ak aq an apt=true) ‹_›).1
 refine qq ⟨_,rfl,rfl⟩ r0 r0 (fun wq aU=>fa 1 mW r0) (qq ⟨_,rfl,rfl⟩ r0 r0 (fun wq aU=>fa 1 pL r0) (qq ⟨_,rfl,rfl⟩ r0 r0 (fun wq aU=>lD (cD Aaq aq caq) aU 0 r0 j4) (qL 0 aV r0 r0 haq (by omega) (eQ I 0 (by omega)) ⟨_,rfl,rfl⟩ r0 (fun a1 eL=>qq ⟨_,rfl,rfl⟩ r0 r0 (fun wq aU=>eW aU eL (fun _ h=>h) r0 r0 cN) (qq ⟨_,rfl,rfl⟩ r0 r0 (fun wq aU=>fa 1 mW r0) (qq ⟨_,rfl,rfl⟩ r0 r0 (fun wq aU=>fa 1 pL r0) (qq ⟨_,rfl,rfl⟩ r0 r0 (fun wq aU=>lD (cD Aaq aq caq) aU 0 r0 j4) (qL 1 aV r0 r0 haq (by omega) (eQ I 0 (by omega)) ⟨_,rfl,rfl⟩ r0 (fun a2 jG=>qq ⟨_,rfl,rfl⟩ r0 r0 (fun wq aU=>eW aU jG (fun _ h=>h) r0 r0 cN) (qq ⟨_,rfl,rfl⟩ r0 r0 (fun wq aU=>add r0 r0 (by(have xY:=HF (by assumption:dN ak aq an apt=true) ‹_›; have g0:=jT xY.2 (k:=0) (by omega); have g1:=jT xY.2 (k:=1) (by omega); have g2:=jT xY.2 (k:=2) (by omega); exact⟨by omega,by omega⟩))) (qq ⟨_,rfl,rfl⟩ r0 r0 (fun wq aU=>fa 1 mW r0) (qq ⟨_,rfl,rfl⟩ r0 r0 (fun wq aU=>fa 1 pL r0) (qq ⟨_,rfl,rfl⟩ r0 r0 (fun wq aU=>lD (cD Aaq aq caq) aU 0 r0 j4) (qL 2 aV r0 r0 haq (by omega) (eQ I 0 (by omega)) ⟨_,rfl,rfl⟩ r0 (fun a3 nV=>qq ⟨_,rfl,rfl⟩ r0 r0 (fun wq aU=>eW aU nV (fun _ h=>h) r0 r0 cN) (qq ⟨_,rfl,rfl⟩ r0 r0 (fun wq aU=>add r0 r0 (by(have xY:=HF (by assumption:dN ak aq an apt=true) ‹_›; have g0:=jT xY.2 (k:=0) (by omega); have g1:=jT xY.2 (k:=1) (by omega); have g2:=jT xY.2 (k:=2) (by omega); exact⟨by omega,by omega⟩))) (qq ⟨_,rfl,rfl⟩ r0 r0 (fun wq aU=>gtr r0 r0) (qA r0 (pf (v:=.bool (decide ((0:Int)<(((aq.getD 0 0)+(aq.getD 1 0))+(aq.getD 2 0))))) r0 r0) (qA r0 (fW (v:=.bool (decide ((0:Int)<(((aq.getD 0 0)+(aq.getD 1 0))+(aq.getD 2 0))))) r0) (qn (fun w6 bG=>nN (rt (fT (.bool (decide ((0:Int)<(((aq.getD 0 0)+(aq.getD 1 0))+(aq.getD 2 0))))) r0 ?_)))))))))))))))))))))))
 have e5:(decide ((0:Int)<(((aq.getD 0 0)+(aq.getD 1 0))+(aq.getD 2 0))))=gL c ak aq an apt us:=by exact(Qt (by exact Decidable.not_not.1 ‹_›) ‹_› ‹_› ‹_›).symm
 exact⟨(aS (Value.bool) e5),(bG.pk [] r0)⟩
theorem Ly (c:Int) (ak:Int) {Aaq:aM} {caq:Nat} (aq:aC) (an:aD) (apt:Int) (us:aD) (w:World) (haq:Sl w [] 1 Aaq aq.length caq (aq.map I)) (han_n:an.length≤1099511627776) (hus_n:us.length≤2147483648):bF prog 68 [.agg #[I c,I ak,.slice Aaq aq.length caq,aA an,I apt,aA us]] w (fun v w'=>∃ Ar:aM,∃ cr:Nat,v=.tuple #[.slice Ar ((lT c ak aq an apt us).1).length cr,.bool ((lT c ak aq an apt us).2)]∧SH w w' [] [.own Ar (((lT c ak aq an apt us).1).length) cr 3 1 (((lT c ak aq an apt us).1).map I)]):=by
 refine fQ 47 func68 r0 r0 ?_
 have aK:=SH.refl w []
 have pM:aq.length≤9223372036854775807:=cB haq.cap haq.cO
 refine sr (bx (v:=.agg #[I c,I ak,(Z4 Aaq aq caq),aA an,I apt,aA us]) (cs:=[I c,I ak,(Z4 Aaq aq caq),aA an,I apt,aA us]) aK r0 r0 aH r0 (fun b1 w1 aE=>tA ns r0 (tA (.bool false) r0 (nn (sq (sr (qt r0 (lG [I c,I ak,(Z4 Aaq aq caq),aA an,I apt,aA us] aE 0 r0 hH) (cS aE r0 (RY _ _ _ _ _ _ _ (haq.aP aE) (by omega) (by omega)) (fun w2 aI=>qt r0 (nt r0) (nn (cd r0 (fun h1=>?_) (fun h1=>?_))))))))))))
 ·have h2:=dX h1
  refine sr (tA ns r0 (tA (.bool false) r0 (nn (rt (tR (bO (.tmp (.tmp .nil)) r0 ?_))))))
  have aN:=aI.nl [Z0] r0
  have e1:lT c ak aq an apt us=(([]:aC),false):=by(simp[lT,h2]; done)
  rw[e1]
  exact⟨none,0,rfl,(aN.pk [1] r0)⟩
 have h3:=dY h1
 refine sk (nN (sq ?_))
 refine kA (fun w'=>∃ L,SH w w' [] L∧(.blk b1 79 [I c,I ak,(Z4 Aaq aq caq),aA an,I apt,aA us])∈L∧True) (fun f w'=>∃ (cP:aM) (cQ:Nat) (gR:aM) (gT:Nat),Hz f [(1,pB b1),(4,.slice gR ((([4,c]:aC)++(bB apt)).length) gT)]∧SH w w' [] [.blk b1 79 [I c,I ak,(Z4 Aaq aq caq),aA an,I apt,aA us],(EA gR c apt gT),(nR cP apt cQ)]) mixed ?_ ?_
 ·refine dG 2 9 127 (fun f w'=>∃ (kR:Nat) (cP:aM) (cQ:Nat),Hz f [(1,pB b1),(11,sb kR (([4,c]:aC).length) 2),(15,.slice cP ((bB apt).length) cQ)]∧SH w w' [] [.blk b1 79 [I c,I ak,(Z4 Aaq aq caq),aA an,I apt,aA us],oI kR ([4,c]:aC) 2 3,(nR cP apt cQ)]) ?_ (fun D_3_0=>?_)
  ·rintro f w3 ⟨kR,cP,cQ,⟨g1,rfl⟩,aR⟩
   have hop:=hE (by assumption:gL c ak aq an apt us=true)
   have haf:=gP hop.2.1
   have hap:=fK hop.2.1
   have hul:=gY hop.2.2.1
   have htn:=cT an
   have htu:=cT us
   refine aO 7 r0 (gI (g:=I) (ys:=([4,c]:aC)) (zs:=bB apt) aR 1 r0 aV r0 r0 r0 (aR.cI 2 r0) (fun _=>rfl) (by unfold maxLen; have hnb:(bB apt).length=2:=rfl; simp only[bH,bP,bK]; omega) (by have hnb:(bB apt).length=2:=rfl; simp only[bH,bP,bK]; omega) aH r0 (fun gR gT w4 aZ=>nk (m1 aZ 0 r0) (tQ (fuel:=0) (is:=[8]) (.cons r0 (.nil)) (m1 aZ 0 r0) (yA r0 (fW (v:=.slice gR ((([4,c]:aC)++(bB apt)).length) gT) r0) (.nil (aQ ?_))))))
   exact⟨cP,cQ,gR,gT,(zR r0),(aZ.pk [0,2,1] r0)⟩
  refine dG 3 9 63 (fun f w'=>∃ (kR:Nat),Hz f [(1,pB b1),(11,sb kR (([4,c]:aC).length) 2),(14,I apt)]∧SH w w' [] [.blk b1 79 [I c,I ak,(Z4 Aaq aq caq),aA an,I apt,aA us],oI kR ([4,c]:aC) 2 3]) ?_ (fun D_3_1=>?_)
  ·rintro f w5 ⟨kR,⟨g2,rfl⟩,bG⟩
   exact aO 6 r0 (dP bG r0 (NV _ _ (by have hop:=hE (by assumption:gL c ak aq an apt us=true); have haf:=gP hop.2.1; have hap:=fK hop.2.1; have hul:=gY hop.2.2.1; have htn:=cT an; have htu:=cT us; have hnb:(bB apt).length=2:=rfl; omega)) (fun cP cQ w6 bU=>nk (m1 bU 0 r0) (bS D_3_0 ⟨kR,cP,cQ,(zR r0),bU⟩)))
  refine dG 3 9 123 (fun f w'=>∃ (cP:aM) (cQ:Nat),Hz f [(1,pB b1),(10,I c),(15,.slice cP ((bB apt).length) cQ)]∧SH w w' [] [.blk b1 79 [I c,I ak,(Z4 Aaq aq caq),aA an,I apt,aA us],(nR cP apt cQ)]) ?_ (fun D_3_2=>?_)
  ·rintro f w7 ⟨cP,cQ,⟨g3,rfl⟩,bV⟩
   exact aO 2 r0 (cR bV aV [I 4,I c] [I 4,I c] aH r0 (fun kR w8 b9=>nk (m1 b9 0 r0) (bS D_3_0 ⟨kR,cP,cQ,(zR r0),(b9.pk [0,2,1] r0)⟩)))
  refine dG 4 9 59 (fun f w'=>Hz f [(1,pB b1),(10,I c),(14,I apt)]∧SH w w' [] [.blk b1 79 [I c,I ak,(Z4 Aaq aq caq),aA an,I apt,aA us]]) ?_ (fun D_3_3=>?_)
  ·rintro f w9 ⟨⟨g4,rfl⟩,cM⟩
   refine jN [2,6] (eX ?_ (jP ?_))
   ·exact eI r0 (cR cM aV [I 4,I c] [I 4,I c] aH r0 (fun kR kF cW=>nk (m1 cW 0 r0) (bS D_3_1 ⟨kR,(zR r0),cW⟩)))
   exact eI r0 (dP cM r0 (NV _ _ (by have hop:=hE (by assumption:gL c ak aq an apt us=true); have haf:=gP hop.2.1; have hap:=fK hop.2.1; have hul:=gY hop.2.2.1; have htn:=cT an; have htu:=cT us; have hnb:(bB apt).length=2:=rfl; omega)) (fun cP cQ kB dB=>nk (m1 dB 0 r0) (bS D_3_2 ⟨cP,cQ,(zR r0),dB⟩)))
  have cY:=aI.drew
  exact tQ (fuel:=4) (is:=[0,1,3,4,5]) (.cons r0 (.cons r0 (.cons r0 (.cons r0 (.cons r0 (.nil)))))) (m1 cY 0 r0) (yA r0 (fa 0 M7 r0) (yB r0 (fun ⟨Lq,aU,dH,_⟩=>lM (I c) aU dH r0 cN) (yA r0 (fa 1 mW r0) (yA r0 (fa 3 pV r0) (yB r0 (fun ⟨Lq,aU,dH,_⟩=>lM (I apt) aU dH r0 cN) (.nil (bS D_3_3 ⟨(zR r0),cY⟩)))))))
 rintro f kI ⟨cP,cQ,gR,gT,⟨g5,rfl⟩,dJ⟩
 refine nN (sr (qt r0 (fa 1 mW r0) (qt r0 (fa 1 pL r0) (qt r0 (lD (cD Aaq aq caq) dJ 0 r0 j4) (tA (cD Aaq aq caq) r0 (nl (nN (sq (sr (qt r0 (fa 1 mW r0) (qt r0 (fa 0 o8 r0) (qt r0 (lD (I ak) dJ 0 r0 cN) (qt r0 (dO r0 r0) (nn (bI r0 (fun h4=>?_) (fun h4=>?_))))))))))))))))
 ·refine rg (cR dJ aV [I 0,I 0,I 0,I 1] [I 0,I 0,I 0,I 1] aH r0 (fun b2 lU dM=>tA (sb b2 (([0,0,0,1]:aC).length) 4) r0 (nn (sq ?_))))
  refine kA (fun w'=>∃ L,SH w w' [] L∧(.blk b1 79 [I c,I ak,(Z4 Aaq aq caq),aA an,I apt,aA us])∈L∧True) (fun f w'=>∃ (b7'':Nat) (A5'':aM) (c5'':Nat) (A8'':aM) (c8'':Nat),Hz f [(1,pB b1),(4,.slice A8'' (((((([4,c]:aC)++(bB apt))++([0,0,0,1]:aC))++(aW us))++([0]:aC)).length) c8'')]∧SH w w' [] [.blk b1 79 [I c,I ak,(Z4 Aaq aq caq),aA an,I apt,aA us],.own A8'' (((((([4,c]:aC)++(bB apt))++([0,0,0,1]:aC))++(aW us))++([0]:aC)).length) c8'' 3 1 (((((([4,c]:aC)++(bB apt))++([0,0,0,1]:aC))++(aW us))++([0]:aC)).map I),(nR cP apt cQ),(zI b2),(lX A5'' us c5''),(wK b7'')]) mixed ?_ ?_
  ·refine dG 2 10 255 (fun f w'=>∃ (b7'':Nat) (A5'':aM) (c5'':Nat) (A6'':aM) (c6'':Nat),Hz f [(1,pB b1),(4,.slice gR ((([4,c]:aC)++(bB apt)).length) gT),(31,.slice A6'' ((((([4,c]:aC)++(bB apt))++([0,0,0,1]:aC))++(aW us)).length) c6''),(32,sb b7'' (([0]:aC).length) 1)]∧SH w w' [] [.blk b1 79 [I c,I ak,(Z4 Aaq aq caq),aA an,I apt,aA us],.own A6'' ((((([4,c]:aC)++(bB apt))++([0,0,0,1]:aC))++(aW us)).length) c6'' 3 1 ((((([4,c]:aC)++(bB apt))++([0,0,0,1]:aC))++(aW us)).map I),(nR cP apt cQ),(zI b2),(lX A5'' us c5''),(wK b7'')]) ?_ (fun D_7_0=>?_)
   ·rintro f mH ⟨b7'',A5'',c5'',A6'',c6'',⟨g6,rfl⟩,eO⟩
    refine aO 8 r0 (gI (g:=I) (ys:=((([4,c]:aC)++(bB apt))++([0,0,0,1]:aC))++(aW us)) (zs:=([0]:aC)) eO 1 r0 aV r0 r0 r0 (eO.cI 5 r0) (fun _=>rfl) (by unfold maxLen; have hop:=hE (by assumption:gL c ak aq an apt us=true); have haf:=gP hop.2.1; have hap:=fK hop.2.1; have hul:=gY hop.2.2.1; have htn:=cT an; have htu:=cT us; have hnb:(bB apt).length=2:=rfl; simp only[bH,bP,bK]; omega) (by have hop:=hE (by assumption:gL c ak aq an apt us=true); have haf:=gP hop.2.1; have hap:=fK hop.2.1; have hul:=gY hop.2.2.1; have htn:=cT an; have htu:=cT us; have hnb:(bB apt).length=2:=rfl; simp only[bH,bP,bK]; omega) aH r0 (fun A8'' c8'' mI eK=>nk (m1 eK 0 r0) (tQ (fuel:=0) (is:=[9]) (.cons r0 (.nil)) (m1 eK 0 r0) (yA r0 (fW (v:=.slice A8'' (((((([4,c]:aC)++(bB apt))++([0,0,0,1]:aC))++(aW us))++([0]:aC)).length) c8'') r0) (.nil (aQ ?_))))))
    exact⟨b7'',A5'',c5'',A8'',c8'',(zR r0),(eK.pk [0,5,1,2,3,4] r0)⟩
   refine dG 3 10 127 (fun f w'=>∃ (A5'':aM) (c5'':Nat) (A6'':aM) (c6'':Nat),Hz f [(1,pB b1),(4,.slice gR ((([4,c]:aC)++(bB apt)).length) gT),(31,.slice A6'' ((((([4,c]:aC)++(bB apt))++([0,0,0,1]:aC))++(aW us)).length) c6'')]∧SH w w' [] [.blk b1 79 [I c,I ak,(Z4 Aaq aq caq),aA an,I apt,aA us],.own A6'' ((((([4,c]:aC)++(bB apt))++([0,0,0,1]:aC))++(aW us)).length) c6'' 3 1 ((((([4,c]:aC)++(bB apt))++([0,0,0,1]:aC))++(aW us)).map I),(nR cP apt cQ),(zI b2),(lX A5'' us c5'')]) ?_ (fun D_7_1=>?_)
   ·rintro f mU ⟨A5'',c5'',A6'',c6'',⟨g7,rfl⟩,eZ⟩
    exact aO 7 r0 (cR eZ aV [I 0] [I 0] aH r0 (fun b7'' n6 fV=>nk (m1 fV 0 r0) (bS D_7_0 ⟨b7'',A5'',c5'',A6'',c6'',(zR r0),fV⟩)))
   refine dG 3 10 191 (fun f w'=>∃ (A2'':aM) (c2'' b7'':Nat) (A5'':aM) (c5'':Nat),Hz f [(1,pB b1),(4,.slice gR ((([4,c]:aC)++(bB apt)).length) gT),(27,.slice A2'' (((([4,c]:aC)++(bB apt))++([0,0,0,1]:aC)).length) c2''),(30,.slice A5'' ((aW us).length) c5''),(32,sb b7'' (([0]:aC).length) 1)]∧SH w w' [] [.blk b1 79 [I c,I ak,(Z4 Aaq aq caq),aA an,I apt,aA us],(L5 A2'' c apt c2''),(nR cP apt cQ),(zI b2),(lX A5'' us c5''),(wK b7'')]) ?_ (fun D_7_2=>?_)
   ·rintro f m9 ⟨A2'',c2'',b7'',A5'',c5'',⟨g8,rfl⟩,fD⟩
    exact aO 6 r0 (gI (g:=I) (ys:=(([4,c]:aC)++(bB apt))++([0,0,0,1]:aC)) (zs:=aW us) fD 1 r0 aV r0 r0 r0 (fD.cI 4 r0) (fun _=>rfl) (by unfold maxLen; have hop:=hE (by assumption:gL c ak aq an apt us=true); have haf:=gP hop.2.1; have hap:=fK hop.2.1; have hul:=gY hop.2.2.1; have htn:=cT an; have htu:=cT us; have hnb:(bB apt).length=2:=rfl; simp only[bH,bP,bK]; omega) (by have hop:=hE (by assumption:gL c ak aq an apt us=true); have haf:=gP hop.2.1; have hap:=fK hop.2.1; have hul:=gY hop.2.2.1; have htn:=cT an; have htu:=cT us; have hnb:(bB apt).length=2:=rfl; simp only[bH,bP,bK]; omega) aH r0 (fun A6'' c6'' qQ gK=>nk (m1 gK 0 r0) (bS D_7_0 ⟨b7'',A5'',c5'',A6'',c6'',(zR r0),(gK.pk [0,5,1,2,3,4] r0)⟩)))
   refine dG 4 10 63 (fun f w'=>∃ (A2'':aM) (c2'':Nat) (A5'':aM) (c5'':Nat),Hz f [(1,pB b1),(4,.slice gR ((([4,c]:aC)++(bB apt)).length) gT),(27,.slice A2'' (((([4,c]:aC)++(bB apt))++([0,0,0,1]:aC)).length) c2''),(30,.slice A5'' ((aW us).length) c5'')]∧SH w w' [] [.blk b1 79 [I c,I ak,(Z4 Aaq aq caq),aA an,I apt,aA us],(L5 A2'' c apt c2''),(nR cP apt cQ),(zI b2),(lX A5'' us c5'')]) ?_ (fun D_7_3=>?_)
   ·rintro f rJ ⟨A2'',c2'',A5'',c5'',⟨g9,rfl⟩,hU⟩
    refine jN [6,7] (eX ?_ (jP ?_))
    ·exact eI r0 (gI (g:=I) (ys:=(([4,c]:aC)++(bB apt))++([0,0,0,1]:aC)) (zs:=aW us) hU 1 r0 aV r0 r0 r0 (hU.cI 4 r0) (fun _=>rfl) (by unfold maxLen; have hop:=hE (by assumption:gL c ak aq an apt us=true); have haf:=gP hop.2.1; have hap:=fK hop.2.1; have hul:=gY hop.2.2.1; have htn:=cT an; have htu:=cT us; have hnb:(bB apt).length=2:=rfl; simp only[bH,bP,bK]; omega) (by have hop:=hE (by assumption:gL c ak aq an apt us=true); have haf:=gP hop.2.1; have hap:=fK hop.2.1; have hul:=gY hop.2.2.1; have htn:=cT an; have htu:=cT us; have hnb:(bB apt).length=2:=rfl; simp only[bH,bP,bK]; omega) aH r0 (fun A6'' c6'' tL iN=>nk (m1 iN 0 r0) (bS D_7_1 ⟨A5'',c5'',A6'',c6'',(zR r0),(iN.pk [0,4,1,2,3] r0)⟩)))
    exact eI r0 (cR hU aV [I 0] [I 0] aH r0 (fun b7'' sC iB=>nk (m1 iB 0 r0) (bS D_7_2 ⟨A2'',c2'',b7'',A5'',c5'',(zR r0),iB⟩)))
   refine dG 4 10 159 (fun f w'=>∃ (A2'':aM) (c2'' b7'':Nat),Hz f [(1,pB b1),(4,.slice gR ((([4,c]:aC)++(bB apt)).length) gT),(27,.slice A2'' (((([4,c]:aC)++(bB apt))++([0,0,0,1]:aC)).length) c2''),(29,aA us),(32,sb b7'' (([0]:aC).length) 1)]∧SH w w' [] [.blk b1 79 [I c,I ak,(Z4 Aaq aq caq),aA an,I apt,aA us],(L5 A2'' c apt c2''),(nR cP apt cQ),(zI b2),(wK b7'')]) ?_ (fun D_7_4=>?_)
   ·rintro f vK ⟨A2'',c2'',b7'',⟨EZ,rfl⟩,iE⟩
    exact aO 5 r0 (dP iE r0 (r7 _ _ (by omega)) (fun A5'' c5'' xC jB=>nk (m1 jB 0 r0) (bS D_7_2 ⟨A2'',c2'',b7'',A5'',c5'',(zR r0),(jB.pk [0,1,2,3,5,4] r0)⟩)))
   refine dG 5 10 31 (fun f w'=>∃ (A2'':aM) (c2'':Nat),Hz f [(1,pB b1),(4,.slice gR ((([4,c]:aC)++(bB apt)).length) gT),(27,.slice A2'' (((([4,c]:aC)++(bB apt))++([0,0,0,1]:aC)).length) c2''),(29,aA us)]∧SH w w' [] [.blk b1 79 [I c,I ak,(Z4 Aaq aq caq),aA an,I apt,aA us],(L5 A2'' c apt c2''),(nR cP apt cQ),(zI b2)]) ?_ (fun D_7_5=>?_)
   ·rintro f vL ⟨A2'',c2'',⟨HN,rfl⟩,gV⟩
    refine jN [5,7] (eX ?_ (jP ?_))
    ·exact eI r0 (dP gV r0 (r7 _ _ (by omega)) (fun A5'' c5'' vM kU=>nk (m1 kU 0 r0) (bS D_7_3 ⟨A2'',c2'',A5'',c5'',(zR r0),kU⟩)))
    exact eI r0 (cR gV aV [I 0] [I 0] aH r0 (fun b7'' B5 kV=>nk (m1 kV 0 r0) (bS D_7_4 ⟨A2'',c2'',b7'',(zR r0),kV⟩)))
   refine dG 5 10 155 (fun f w'=>∃ (b7'':Nat),Hz f [(1,pB b1),(4,.slice gR ((([4,c]:aC)++(bB apt)).length) gT),(25,.slice gR ((([4,c]:aC)++(bB apt)).length) gT),(26,sb b2 (([0,0,0,1]:aC).length) 4),(29,aA us),(32,sb b7'' (([0]:aC).length) 1)]∧SH w w' [] [.blk b1 79 [I c,I ak,(Z4 Aaq aq caq),aA an,I apt,aA us],(EA gR c apt gT),(nR cP apt cQ),(zI b2),(wK b7'')]) ?_ (fun D_7_6=>?_)
   ·rintro f AJ ⟨b7'',⟨J5,rfl⟩,kY⟩
    exact aO 2 r0 (gI (g:=I) (ys:=([4,c]:aC)++(bB apt)) (zs:=([0,0,0,1]:aC)) kY 1 r0 aV r0 r0 r0 (kY.cI 3 r0) (fun _=>rfl) (by unfold maxLen; have hop:=hE (by assumption:gL c ak aq an apt us=true); have haf:=gP hop.2.1; have hap:=fK hop.2.1; have hul:=gY hop.2.2.1; have htn:=cT an; have htu:=cT us; have hnb:(bB apt).length=2:=rfl; simp only[bH,bP,bK]; omega) (by have hop:=hE (by assumption:gL c ak aq an apt us=true); have haf:=gP hop.2.1; have hap:=fK hop.2.1; have hul:=gY hop.2.2.1; have htn:=cT an; have htu:=cT us; have hnb:(bB apt).length=2:=rfl; simp only[bH,bP,bK]; omega) aH r0 (fun A2'' c2'' DS kH=>nk (m1 kH 0 r0) (bS D_7_4 ⟨A2'',c2'',b7'',(zR r0),(kH.pk [0,4,1,2,3] r0)⟩)))
   refine dG 6 10 27 (fun f w'=>Hz f [(1,pB b1),(4,.slice gR ((([4,c]:aC)++(bB apt)).length) gT),(25,.slice gR ((([4,c]:aC)++(bB apt)).length) gT),(26,sb b2 (([0,0,0,1]:aC).length) 4),(29,aA us)]∧SH w w' [] [.blk b1 79 [I c,I ak,(Z4 Aaq aq caq),aA an,I apt,aA us],(EA gR c apt gT),(nR cP apt cQ),(zI b2)]) ?_ (fun D_7_7=>?_)
   ·rintro f B6 ⟨⟨J6,rfl⟩,iU⟩
    refine jN [2,7] (eX ?_ (jP ?_))
    ·exact eI r0 (gI (g:=I) (ys:=([4,c]:aC)++(bB apt)) (zs:=([0,0,0,1]:aC)) iU 1 r0 aV r0 r0 r0 (iU.cI 3 r0) (fun _=>rfl) (by unfold maxLen; have hop:=hE (by assumption:gL c ak aq an apt us=true); have haf:=gP hop.2.1; have hap:=fK hop.2.1; have hul:=gY hop.2.2.1; have htn:=cT an; have htu:=cT us; have hnb:(bB apt).length=2:=rfl; simp only[bH,bP,bK]; omega) (by have hop:=hE (by assumption:gL c ak aq an apt us=true); have haf:=gP hop.2.1; have hap:=fK hop.2.1; have hul:=gY hop.2.2.1; have htn:=cT an; have htu:=cT us; have hnb:(bB apt).length=2:=rfl; simp only[bH,bP,bK]; omega) aH r0 (fun A2'' c2'' GK mK=>nk (m1 mK 0 r0) (bS D_7_5 ⟨A2'',c2'',(zR r0),(mK.pk [0,3,1,2] r0)⟩)))
    exact eI r0 (cR iU aV [I 0] [I 0] aH r0 (fun b7'' GL lL=>nk (m1 lL 0 r0) (bS D_7_6 ⟨b7'',(zR r0),lL⟩)))
   have mY:=dM.drew
   exact tQ (fuel:=6) (is:=[0,1,3,4]) (.cons r0 (.cons r0 (.cons r0 (.cons r0 (.nil))))) (m1 mY 0 r0) (yA r0 (mv (v:=.slice gR ((([4,c]:aC)++(bB apt)).length) gT) r0) (yA r0 (mv (v:=sb b2 (([0,0,0,1]:aC).length) 4) r0) (yA r0 (fa 5 EY r0) (yB r0 (fun ⟨Lq,aU,dH,_⟩=>lM (aA us) aU dH r0 eC) (.nil (bS D_7_7 ⟨(zR r0),mY⟩))))))
  rintro f GM ⟨b7'',A5'',c5'',A8'',c8'',⟨M8,rfl⟩,lN⟩
  refine nN ?_
  have mS:=lN.pq [0,1] r0
  refine sq (sr (qt r0 (fa 1 mW r0) (qt r0 (fa 0 o8 r0) (qt r0 (lD (I ak) mS 0 r0 cN) (qt r0 (dO r0 r0) (nl (nN (bI r0 (fun h5=>?_) (fun h5=>?_)))))))))
  ·refine rg (tm (.slice A8'' (((((([4,c]:aC)++(bB apt))++([0,0,0,1]:aC))++(aW us))++([0]:aC)).length) c8'') r0 (qt r0 (fa 1 mW r0) (qt r0 (fa 2 sW r0) (qt r0 (lD (aA an) mS 0 r0 eC) (dP mS r0 (r7 _ _ (by(have hop:=hE (by assumption:gL c ak aq an apt us=true); have haf:=gP hop.2.1; have hap:=fK hop.2.1; have hul:=gY hop.2.2.1; have htn:=cT an; have htu:=cT us; have hnb:(bB apt).length=2:=rfl; omega))) (fun A1 c1 LF mZ=>gI (g:=I) (ys:=(((([4,c]:aC)++(bB apt))++([0,0,0,1]:aC))++(aW us))++([0]:aC)) (zs:=aW an) mZ 1 r0 aV r0 r0 r0 (mZ.cI 2 r0) (fun _=>rfl) (by unfold maxLen; have hop:=hE (by assumption:gL c ak aq an apt us=true); have haf:=gP hop.2.1; have hap:=fK hop.2.1; have hul:=gY hop.2.2.1; have htn:=cT an; have htu:=cT us; have hnb:(bB apt).length=2:=rfl; simp only[bH,bP,bK]; omega) (by have hop:=hE (by assumption:gL c ak aq an apt us=true); have haf:=gP hop.2.1; have hap:=fK hop.2.1; have hul:=gY hop.2.2.1; have htn:=cT an; have htu:=cT us; have hnb:(bB apt).length=2:=rfl; simp only[bH,bP,bK]; omega) aH r0 (fun A2 c2 LG m0=>cR m0 aV [I 0] [I 0] aH r0 (fun b3 LH oE=>gI (g:=I) (ys:=((((([4,c]:aC)++(bB apt))++([0,0,0,1]:aC))++(aW us))++([0]:aC))++(aW an)) (zs:=([0]:aC)) oE 2 r0 aV r0 r0 r0 (oE.cI 3 r0) (fun _=>rfl) (by unfold maxLen; have hop:=hE (by assumption:gL c ak aq an apt us=true); have haf:=gP hop.2.1; have hap:=fK hop.2.1; have hul:=gY hop.2.2.1; have htn:=cT an; have htu:=cT us; have hnb:(bB apt).length=2:=rfl; simp only[bH,bP,bK]; omega) (by have hop:=hE (by assumption:gL c ak aq an apt us=true); have haf:=gP hop.2.1; have hap:=fK hop.2.1; have hul:=gY hop.2.2.1; have htn:=cT an; have htu:=cT us; have hnb:(bB apt).length=2:=rfl; simp only[bH,bP,bK]; omega) aH r0 (fun A3 c3 LI oV=>tA (.slice A3 (((((((([4,c]:aC)++(bB apt))++([0,0,0,1]:aC))++(aW us))++([0]:aC))++(aW an))++([0]:aC)).length) c3) r0 (nn ?_))))))))))
   have qI:=oV.pq [3] r0
   refine sr (tm (.slice A3 (((((((([4,c]:aC)++(bB apt))++([0,0,0,1]:aC))++(aW us))++([0]:aC))++(aW an))++([0]:aC)).length) c3) r0 (tA (.slice A3 (((((((([4,c]:aC)++(bB apt))++([0,0,0,1]:aC))++(aW us))++([0]:aC))++(aW an))++([0]:aC)).length) c3) r0 (tA (.bool true) r0 (nn (rt (bO (.tmp (.tmp .nil)) r0 ?_))))))
   have e2:lT c ak aq an apt us=((((((([4,c]:aC)++(bB apt))++([0,0,0,1]:aC))++(aW us))++([0]:aC))++(aW an))++([0]:aC),true):=by(rw[Y7 ‹_›,Y5 ‹_›]; done)
   rw[e2]
   exact⟨A3,c3,rfl,qI⟩
  refine sk (nN (sr (tm (.slice A8'' (((((([4,c]:aC)++(bB apt))++([0,0,0,1]:aC))++(aW us))++([0]:aC)).length) c8'') r0 (tA (.slice A8'' (((((([4,c]:aC)++(bB apt))++([0,0,0,1]:aC))++(aW us))++([0]:aC)).length) c8'') r0 (tA (.bool true) r0 (nl (nN (rt (bO (.tmp (.tmp .nil)) r0 ?_)))))))))
  have e3:lT c ak aq an apt us=((((([4,c]:aC)++(bB apt))++([0,0,0,1]:aC))++(aW us))++([0]:aC),true):=by(exfalso; omega)
  rw[e3]
  exact⟨A8'',c8'',rfl,(mS.pk [1] r0)⟩
 refine sk (nN (sq ?_))
 refine kA (fun w'=>∃ L,SH w w' [] L∧(.blk b1 79 [I c,I ak,(Z4 Aaq aq caq),aA an,I apt,aA us])∈L∧True) (fun f w'=>∃ (b7''':Nat) (A5''':aM) (c5''':Nat) (A8''':aM) (c8''':Nat),Hz f [(1,pB b1),(4,.slice A8''' (((((([4,c]:aC)++(bB apt))++aq)++(aW us))++([0]:aC)).length) c8''')]∧SH w w' [] [.blk b1 79 [I c,I ak,(Z4 Aaq aq caq),aA an,I apt,aA us],.own A8''' (((((([4,c]:aC)++(bB apt))++aq)++(aW us))++([0]:aC)).length) c8''' 3 1 (((((([4,c]:aC)++(bB apt))++aq)++(aW us))++([0]:aC)).map I),(nR cP apt cQ),(lX A5''' us c5'''),(wK b7''')]) mixed ?_ ?_
 ·refine dG 2 10 255 (fun f w'=>∃ (b7''':Nat) (A5''':aM) (c5''':Nat) (A6''':aM) (c6''':Nat),Hz f [(1,pB b1),(4,.slice gR ((([4,c]:aC)++(bB apt)).length) gT),(31,.slice A6''' ((((([4,c]:aC)++(bB apt))++aq)++(aW us)).length) c6'''),(32,sb b7''' (([0]:aC).length) 1)]∧SH w w' [] [.blk b1 79 [I c,I ak,(Z4 Aaq aq caq),aA an,I apt,aA us],.own A6''' ((((([4,c]:aC)++(bB apt))++aq)++(aW us)).length) c6''' 3 1 ((((([4,c]:aC)++(bB apt))++aq)++(aW us)).map I),(nR cP apt cQ),(lX A5''' us c5'''),(wK b7''')]) ?_ (fun D_7_0=>?_)
  ·rintro f P1 ⟨b7''',A5''',c5''',A6''',c6''',⟨g15,rfl⟩,rV⟩
   refine aO 8 r0 (gI (g:=I) (ys:=((([4,c]:aC)++(bB apt))++aq)++(aW us)) (zs:=([0]:aC)) rV 1 r0 aV r0 r0 r0 (rV.cI 4 r0) (fun _=>rfl) (by unfold maxLen; have hop:=hE (by assumption:gL c ak aq an apt us=true); have haf:=gP hop.2.1; have hap:=fK hop.2.1; have hul:=gY hop.2.2.1; have htn:=cT an; have htu:=cT us; have hnb:(bB apt).length=2:=rfl; simp only[bH,bP,bK]; omega) (by have hop:=hE (by assumption:gL c ak aq an apt us=true); have haf:=gP hop.2.1; have hap:=fK hop.2.1; have hul:=gY hop.2.2.1; have htn:=cT an; have htu:=cT us; have hnb:(bB apt).length=2:=rfl; simp only[bH,bP,bK]; omega) aH r0 (fun A8''' c8''' T3 vD=>nk (m1 vD 0 r0) (tQ (fuel:=0) (is:=[9]) (.cons r0 (.nil)) (m1 vD 0 r0) (yA r0 (fW (v:=.slice A8''' (((((([4,c]:aC)++(bB apt))++aq)++(aW us))++([0]:aC)).length) c8''') r0) (.nil (aQ ?_))))))
   exact⟨b7''',A5''',c5''',A8''',c8''',(zR r0),(vD.pk [0,4,1,2,3] r0)⟩
  refine dG 3 10 127 (fun f w'=>∃ (A5''':aM) (c5''':Nat) (A6''':aM) (c6''':Nat),Hz f [(1,pB b1),(4,.slice gR ((([4,c]:aC)++(bB apt)).length) gT),(31,.slice A6''' ((((([4,c]:aC)++(bB apt))++aq)++(aW us)).length) c6''')]∧SH w w' [] [.blk b1 79 [I c,I ak,(Z4 Aaq aq caq),aA an,I apt,aA us],.own A6''' ((((([4,c]:aC)++(bB apt))++aq)++(aW us)).length) c6''' 3 1 ((((([4,c]:aC)++(bB apt))++aq)++(aW us)).map I),(nR cP apt cQ),(lX A5''' us c5''')]) ?_ (fun D_7_1=>?_)
  ·rintro f T5 ⟨A5''',c5''',A6''',c6''',⟨g16,rfl⟩,pO⟩
   exact aO 7 r0 (cR pO aV [I 0] [I 0] aH r0 (fun b7''' T6 pW=>nk (m1 pW 0 r0) (bS D_7_0 ⟨b7''',A5''',c5''',A6''',c6''',(zR r0),pW⟩)))
  refine dG 3 10 191 (fun f w'=>∃ (A2''':aM) (c2''' b7''':Nat) (A5''':aM) (c5''':Nat),Hz f [(1,pB b1),(4,.slice gR ((([4,c]:aC)++(bB apt)).length) gT),(27,.slice A2''' (((([4,c]:aC)++(bB apt))++aq).length) c2'''),(30,.slice A5''' ((aW us).length) c5'''),(32,sb b7''' (([0]:aC).length) 1)]∧SH w w' [] [.blk b1 79 [I c,I ak,(Z4 Aaq aq caq),aA an,I apt,aA us],(L8 A2''' c apt aq c2'''),(nR cP apt cQ),(lX A5''' us c5'''),(wK b7''')]) ?_ (fun D_7_2=>?_)
  ·rintro f T7 ⟨A2''',c2''',b7''',A5''',c5''',⟨g17,rfl⟩,pX⟩
   exact aO 6 r0 (gI (g:=I) (ys:=(([4,c]:aC)++(bB apt))++aq) (zs:=aW us) pX 1 r0 aV r0 r0 r0 (pX.cI 3 r0) (fun _=>rfl) (by unfold maxLen; have hop:=hE (by assumption:gL c ak aq an apt us=true); have haf:=gP hop.2.1; have hap:=fK hop.2.1; have hul:=gY hop.2.2.1; have htn:=cT an; have htu:=cT us; have hnb:(bB apt).length=2:=rfl; simp only[bH,bP,bK]; omega) (by have hop:=hE (by assumption:gL c ak aq an apt us=true); have haf:=gP hop.2.1; have hap:=fK hop.2.1; have hul:=gY hop.2.2.1; have htn:=cT an; have htu:=cT us; have hnb:(bB apt).length=2:=rfl; simp only[bH,bP,bK]; omega) aH r0 (fun A6''' c6''' Dw uD=>nk (m1 uD 0 r0) (bS D_7_0 ⟨b7''',A5''',c5''',A6''',c6''',(zR r0),(uD.pk [0,4,1,2,3] r0)⟩)))
  refine dG 4 10 63 (fun f w'=>∃ (A2''':aM) (c2''':Nat) (A5''':aM) (c5''':Nat),Hz f [(1,pB b1),(4,.slice gR ((([4,c]:aC)++(bB apt)).length) gT),(27,.slice A2''' (((([4,c]:aC)++(bB apt))++aq).length) c2'''),(30,.slice A5''' ((aW us).length) c5''')]∧SH w w' [] [.blk b1 79 [I c,I ak,(Z4 Aaq aq caq),aA an,I apt,aA us],(L8 A2''' c apt aq c2'''),(nR cP apt cQ),(lX A5''' us c5''')]) ?_ (fun D_7_3=>?_)
  ·rintro f Dx ⟨A2''',c2''',A5''',c5''',⟨g18,rfl⟩,rW⟩
   refine jN [6,7] (eX ?_ (jP ?_))
   ·exact eI r0 (gI (g:=I) (ys:=(([4,c]:aC)++(bB apt))++aq) (zs:=aW us) rW 1 r0 aV r0 r0 r0 (rW.cI 3 r0) (fun _=>rfl) (by unfold maxLen; have hop:=hE (by assumption:gL c ak aq an apt us=true); have haf:=gP hop.2.1; have hap:=fK hop.2.1; have hul:=gY hop.2.2.1; have htn:=cT an; have htu:=cT us; have hnb:(bB apt).length=2:=rfl; simp only[bH,bP,bK]; omega) (by have hop:=hE (by assumption:gL c ak aq an apt us=true); have haf:=gP hop.2.1; have hap:=fK hop.2.1; have hul:=gY hop.2.2.1; have htn:=cT an; have htu:=cT us; have hnb:(bB apt).length=2:=rfl; simp only[bH,bP,bK]; omega) aH r0 (fun A6''' c6''' Dy vZ=>nk (m1 vZ 0 r0) (bS D_7_1 ⟨A5''',c5''',A6''',c6''',(zR r0),(vZ.pk [0,3,1,2] r0)⟩)))
   exact eI r0 (cR rW aV [I 0] [I 0] aH r0 (fun b7''' Dz BL=>nk (m1 BL 0 r0) (bS D_7_2 ⟨A2''',c2''',b7''',A5''',c5''',(zR r0),BL⟩)))
  refine dG 4 10 159 (fun f w'=>∃ (A2''':aM) (c2''' b7''':Nat),Hz f [(1,pB b1),(4,.slice gR ((([4,c]:aC)++(bB apt)).length) gT),(27,.slice A2''' (((([4,c]:aC)++(bB apt))++aq).length) c2'''),(29,aA us),(32,sb b7''' (([0]:aC).length) 1)]∧SH w w' [] [.blk b1 79 [I c,I ak,(Z4 Aaq aq caq),aA an,I apt,aA us],(L8 A2''' c apt aq c2'''),(nR cP apt cQ),(wK b7''')]) ?_ (fun D_7_4=>?_)
  ·rintro f Ea ⟨A2''',c2''',b7''',⟨g19,rfl⟩,zX⟩
   exact aO 5 r0 (dP zX r0 (r7 _ _ (by omega)) (fun A5''' c5''' w48 BM=>nk (m1 BM 0 r0) (bS D_7_2 ⟨A2''',c2''',b7''',A5''',c5''',(zR r0),(BM.pk [0,1,2,4,3] r0)⟩)))
  refine dG 5 10 31 (fun f w'=>∃ (A2''':aM) (c2''':Nat),Hz f [(1,pB b1),(4,.slice gR ((([4,c]:aC)++(bB apt)).length) gT),(27,.slice A2''' (((([4,c]:aC)++(bB apt))++aq).length) c2'''),(29,aA us)]∧SH w w' [] [.blk b1 79 [I c,I ak,(Z4 Aaq aq caq),aA an,I apt,aA us],(L8 A2''' c apt aq c2'''),(nR cP apt cQ)]) ?_ (fun D_7_5=>?_)
  ·rintro f w49 ⟨A2''',c2''',⟨g20,rfl⟩,zY⟩
   refine jN [5,7] (eX ?_ (jP ?_))
   ·exact eI r0 (dP zY r0 (r7 _ _ (by omega)) (fun A5''' c5''' w50 FA=>nk (m1 FA 0 r0) (bS D_7_3 ⟨A2''',c2''',A5''',c5''',(zR r0),FA⟩)))
   exact eI r0 (cR zY aV [I 0] [I 0] aH r0 (fun b7''' w51 C2=>nk (m1 C2 0 r0) (bS D_7_4 ⟨A2''',c2''',b7''',(zR r0),C2⟩)))
  refine dG 5 10 155 (fun f w'=>∃ (b7''':Nat),Hz f [(1,pB b1),(4,.slice gR ((([4,c]:aC)++(bB apt)).length) gT),(25,.slice gR ((([4,c]:aC)++(bB apt)).length) gT),(26,.slice Aaq aq.length caq),(29,aA us),(32,sb b7''' (([0]:aC).length) 1)]∧SH w w' [] [.blk b1 79 [I c,I ak,(Z4 Aaq aq caq),aA an,I apt,aA us],(EA gR c apt gT),(nR cP apt cQ),(wK b7''')]) ?_ (fun D_7_6=>?_)
  ·rintro f w52 ⟨b7''',⟨g21,rfl⟩,HY⟩
   exact aO 2 r0 (gI (g:=I) (ys:=([4,c]:aC)++(bB apt)) (zs:=aq) HY 1 r0 aV r0 r0 r0 (haq.aP HY) (fun _=>rfl) (by unfold maxLen; have hop:=hE (by assumption:gL c ak aq an apt us=true); have haf:=gP hop.2.1; have hap:=fK hop.2.1; have hul:=gY hop.2.2.1; have htn:=cT an; have htu:=cT us; have hnb:(bB apt).length=2:=rfl; simp only[bH,bP,bK]; omega) (by have hop:=hE (by assumption:gL c ak aq an apt us=true); have haf:=gP hop.2.1; have hap:=fK hop.2.1; have hul:=gY hop.2.2.1; have htn:=cT an; have htu:=cT us; have hnb:(bB apt).length=2:=rfl; simp only[bH,bP,bK]; omega) aH r0 (fun A2''' c2''' w53 FB=>nk (m1 FB 0 r0) (bS D_7_4 ⟨A2''',c2''',b7''',(zR r0),(FB.pk [0,3,1,2] r0)⟩)))
  refine dG 6 10 27 (fun f w'=>Hz f [(1,pB b1),(4,.slice gR ((([4,c]:aC)++(bB apt)).length) gT),(25,.slice gR ((([4,c]:aC)++(bB apt)).length) gT),(26,.slice Aaq aq.length caq),(29,aA us)]∧SH w w' [] [.blk b1 79 [I c,I ak,(Z4 Aaq aq caq),aA an,I apt,aA us],(EA gR c apt gT),(nR cP apt cQ)]) ?_ (fun D_7_7=>?_)
  ·rintro f w54 ⟨⟨g22,rfl⟩,BN⟩
   refine jN [2,7] (eX ?_ (jP ?_))
   ·exact eI r0 (gI (g:=I) (ys:=([4,c]:aC)++(bB apt)) (zs:=aq) BN 1 r0 aV r0 r0 r0 (haq.aP BN) (fun _=>rfl) (by unfold maxLen; have hop:=hE (by assumption:gL c ak aq an apt us=true); have haf:=gP hop.2.1; have hap:=fK hop.2.1; have hul:=gY hop.2.2.1; have htn:=cT an; have htu:=cT us; have hnb:(bB apt).length=2:=rfl; simp only[bH,bP,bK]; omega) (by have hop:=hE (by assumption:gL c ak aq an apt us=true); have haf:=gP hop.2.1; have hap:=fK hop.2.1; have hul:=gY hop.2.2.1; have htn:=cT an; have htu:=cT us; have hnb:(bB apt).length=2:=rfl; simp only[bH,bP,bK]; omega) aH r0 (fun A2''' c2''' w55 BO=>nk (m1 BO 0 r0) (bS D_7_5 ⟨A2''',c2''',(zR r0),(BO.pk [0,2,1] r0)⟩)))
   exact eI r0 (cR BN aV [I 0] [I 0] aH r0 (fun b7''' w56 C3=>nk (m1 C3 0 r0) (bS D_7_6 ⟨b7''',(zR r0),C3⟩)))
  have NK:=dJ.drew
  exact tQ (fuel:=6) (is:=[0,1,3,4]) (.cons r0 (.cons r0 (.cons r0 (.cons r0 (.nil))))) (m1 NK 0 r0) (yA r0 (mv (v:=.slice gR ((([4,c]:aC)++(bB apt)).length) gT) r0) (yA r0 (mv (v:=.slice Aaq aq.length caq) r0) (yA r0 (fa 5 EY r0) (yB r0 (fun ⟨Lq,aU,dH,_⟩=>lM (aA us) aU dH r0 eC) (.nil (bS D_7_7 ⟨(zR r0),NK⟩))))))
 rintro f w57 ⟨b7''',A5''',c5''',A8''',c8''',⟨g23,rfl⟩,NL⟩
 refine nN ?_
 have C4:=NL.pq [0,1] r0
 refine sq (sr (qt r0 (fa 1 mW r0) (qt r0 (fa 0 o8 r0) (qt r0 (lD (I ak) C4 0 r0 cN) (qt r0 (dO r0 r0) (nl (nN (bI r0 (fun h6=>?_) (fun h6=>?_)))))))))
 ·refine rg (tm (.slice A8''' (((((([4,c]:aC)++(bB apt))++aq)++(aW us))++([0]:aC)).length) c8''') r0 (qt r0 (fa 1 mW r0) (qt r0 (fa 2 sW r0) (qt r0 (lD (aA an) C4 0 r0 eC) (dP C4 r0 (r7 _ _ (by omega)) (fun A4 c4 w58 KE=>gI (g:=I) (ys:=(((([4,c]:aC)++(bB apt))++aq)++(aW us))++([0]:aC)) (zs:=aW an) KE 1 r0 aV r0 r0 r0 (KE.cI 2 r0) (fun _=>rfl) (by unfold maxLen; have hop:=hE (by assumption:gL c ak aq an apt us=true); have haf:=gP hop.2.1; have hap:=fK hop.2.1; have hul:=gY hop.2.2.1; have htn:=cT an; have htu:=cT us; have hnb:(bB apt).length=2:=rfl; simp only[bH,bP,bK]; omega) (by have hop:=hE (by assumption:gL c ak aq an apt us=true); have haf:=gP hop.2.1; have hap:=fK hop.2.1; have hul:=gY hop.2.2.1; have htn:=cT an; have htu:=cT us; have hnb:(bB apt).length=2:=rfl; simp only[bH,bP,bK]; omega) aH r0 (fun A5 c5 w59 RN=>cR RN aV [I 0] [I 0] aH r0 (fun b4 w60 KF=>gI (g:=I) (ys:=((((([4,c]:aC)++(bB apt))++aq)++(aW us))++([0]:aC))++(aW an)) (zs:=([0]:aC)) KF 2 r0 aV r0 r0 r0 (KF.cI 3 r0) (fun _=>rfl) (by unfold maxLen; have hop:=hE (by assumption:gL c ak aq an apt us=true); have haf:=gP hop.2.1; have hap:=fK hop.2.1; have hul:=gY hop.2.2.1; have htn:=cT an; have htu:=cT us; have hnb:(bB apt).length=2:=rfl; simp only[bH,bP,bK]; omega) (by have hop:=hE (by assumption:gL c ak aq an apt us=true); have haf:=gP hop.2.1; have hap:=fK hop.2.1; have hul:=gY hop.2.2.1; have htn:=cT an; have htu:=cT us; have hnb:(bB apt).length=2:=rfl; simp only[bH,bP,bK]; omega) aH r0 (fun A6 c6 w61 KG=>tA (.slice A6 (((((((([4,c]:aC)++(bB apt))++aq)++(aW us))++([0]:aC))++(aW an))++([0]:aC)).length) c6) r0 (nn ?_))))))))))
  have NM:=KG.pq [3] r0
  refine sr (tm (.slice A6 (((((((([4,c]:aC)++(bB apt))++aq)++(aW us))++([0]:aC))++(aW an))++([0]:aC)).length) c6) r0 (tA (.slice A6 (((((((([4,c]:aC)++(bB apt))++aq)++(aW us))++([0]:aC))++(aW an))++([0]:aC)).length) c6) r0 (tA (.bool true) r0 (nn (rt (bO (.tmp (.tmp .nil)) r0 ?_))))))
  have e4:lT c ak aq an apt us=((((((([4,c]:aC)++(bB apt))++aq)++(aW us))++([0]:aC))++(aW an))++([0]:aC),true):=by(exfalso; omega)
  rw[e4]
  exact⟨A6,c6,rfl,NM⟩
 refine sk (nN (sr (tm (.slice A8''' (((((([4,c]:aC)++(bB apt))++aq)++(aW us))++([0]:aC)).length) c8''') r0 (tA (.slice A8''' (((((([4,c]:aC)++(bB apt))++aq)++(aW us))++([0]:aC)).length) c8''') r0 (tA (.bool true) r0 (nl (nN (rt (bO (.tmp (.tmp .nil)) r0 ?_)))))))))
 have e5:lT c ak aq an apt us=((((([4,c]:aC)++(bB apt))++aq)++(aW us))++([0]:aC),true):=by(rw[Y7 ‹_›,Y4 ‹_›]; done)
 rw[e5]
 exact⟨A8''',c8''',rfl,(C4.pk [1] r0)⟩

end Go.Proofs.YtklbiemlpkhlhaaGreatDoor
