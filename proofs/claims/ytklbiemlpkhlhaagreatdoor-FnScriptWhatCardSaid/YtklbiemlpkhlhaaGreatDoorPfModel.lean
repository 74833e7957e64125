/-
  Part of the proofs over this seat: plain functions that say what the program computes, and their laws.
  Conditions: none; every theorem states its own.
-/
import Derived.Test.YtklbiemlpkhlhaaGreatDoorPfBase
namespace Go.PF
open Go.RowKit
set_option linter.unusedSimpArgs false
set_option linter.unusedVariables false
theorem gQ {α:Type _} {l:List α} {i:Nat} {a:α}:l.getD i a=l[i]?.getD a:=yS
theorem gE {α:Type _} {l:List α} {i:Nat} (h:i<l.length):l[i]?=some l[i]:=wH h
theorem UY {w:World} {a:Addr} {v:Value} (h:w.cell? a=some v):a.block<w.heap.size:=by
  rcases qR a.block w.heap.size with h' | h'
  · exact h'
  · simp[World.cell?,Array.getElem?_eq_none h']at h
theorem SH.below {w w':World} {L:gD} (h:SH w w' [] L):Below w.heap.size w w':=⟨h.os,h.tape,h.output,h.size,fun k hk=>h.rC k hk (by simp)⟩
theorem DD {P:Program} {k:FuncId} {args:cU} {as:Array Value} {w:World} (h:bF P k args w fun v w'=>v=.bool true∧SH w w' [] []) (ha:args.toArray=as):
    Calls P k as w fun e w'=>e=.returned (.bool true)∧Below w.heap.size w w':=by
  subst ha
  refine Calls.mono h.2 fun e w' r=>?_
  cases e with
  | returned v=>exact⟨by rw[r.1],r.2.below⟩
  | _=>exact r.elim

def isByte (x:Int):Bool:=decide (0≤x∧x≤255)
def vB (l:aC):Bool:=l.all isByte
def bJ (l:aC):Bool:=vB l && decide (l.length≤120)
theorem Ff {zs:aC} {k:Nat} (hk:k<zs.length):vB (zs.take (k+1))=(vB (zs.take k) && isByte (zs.getD k 0)):=by
  unfold vB
  rw[qD hk,List.all_append,gQ,gE hk]
  simp
theorem Fe {zs:aC} {k:Nat} (hk:k<zs.length) (ha:vB (zs.take k)=true) (h:0≤zs.getD k 0∧zs.getD k 0≤255):vB (zs.take (k+1))=true:=by
  rw[Ff hk,ha]
  simpa [isByte] using h
theorem Gd {zs:aC} {k:Nat} (hk:k<zs.length) (h: ¬ (0≤zs.getD k 0∧zs.getD k 0≤255)):false=bJ zs:=by
  have h1:vB zs=false:=by
    unfold vB
    rw[List.all_eq_false]
    refine⟨zs[k],rM hk,?_⟩
    rw[gQ,gE hk]at h
    simpa [isByte] using h
  simp[bJ,h1]
theorem Ge {zs:aC} {k:Nat} (hk:zs.length≤k) (ha:vB (zs.take k)=true):decide (((zs.length:Nat):Int)≤120)=bJ zs:=by
  rw[lI hk]at ha
  simp only[bJ,ha,D5]
  congr 1
  apply propext
  omega
def cE (l:aD) (c:UInt8):Int:=
  match (List.range l.length).find? (fun i=>l.getD i 0 == c) with
  | some i=>i
  | none=> -1
section
variable {P:Program} {f:Fr} {w:World} {d:Nat} {ty:TypeId} {pos:String} {aft:Array Edge} {gd:Option (Nat×Bool)} {x y:Operand}
theorem Mm {k:FuncId} {fn:Func} {ts:Array TypeId} {l:aD} {c:UInt8} (hf:P.funcs[k]?=some fn) (hname:(fn.name == "runtime.NumGoroutine")=false)
    (hb:fn.body.isNone=true) (hn:Extern.findNext fn=none) (he:Extern.find fn=some Extern.BytealgIndexByte.indexByte) (hx:ev f x=aA l) (hy:ev f y=U c):
    RV P f w ⟨some d,.call ⟨.value (.func k), #[x,y],ts⟩,ty,pos,aft,gd⟩ (.int .i64 (cE l c)):=by
  have hr:=run_callFunc_indexByte (P:=P) hf hname hb hn he #[aA l,U c] w
  refine RV.mk ?_
  have hd:execOp (ev f) ⟨some d,.call ⟨.value (.func k), #[x,y],ts⟩,ty,pos,aft,gd⟩=callFunc k #[aA l,U c]:=by
    have hg:ev f (.func k)=.func (.func k) #[] #[]:=rfl
    simp[execOp,resolve,hg,Deferred.ofValue,invoke,hx,hy]
  rw[hd,hr]
  have hfun:(fun i=>(⟨l.toArray⟩:ByteArray)[i]! == UInt8.ofNat c.toNat)=fun i=>l.getD i 0 == c:=by
    funext i
    have:(⟨l.toArray⟩:ByteArray)[i]! =l.getD i 0:=by
      rw[gQ]
      by_cases hi:i<l.length
      · have h1:i<(⟨l.toArray⟩:ByteArray).size:=by simpa [ByteArray.size] using hi
        rw[getElem!_pos (⟨l.toArray⟩:ByteArray) i h1,gE hi]
        rfl
      · have h1: ¬ i<(⟨l.toArray⟩:ByteArray).size:=by simpa [ByteArray.size] using hi
        rw[getElem!_neg (⟨l.toArray⟩:ByteArray) i h1,B8 (by omega)]
        rfl
    rw[this]
    simp
  have hi:Extern.BytealgIndexByte.indexByte #[aA l,U c]=(match (List.range (⟨l.toArray⟩:ByteArray).size).find? fun i=>(⟨l.toArray⟩:ByteArray)[i]! == UInt8.ofNat c.toNat with
    | some i=>pure (goInt i)
    | none=>pure (goInt (-1))):=rfl
  rw[hi,hfun,GD]
  unfold cE
  cases (List.range l.length).find? (fun i=>l.getD i 0 == c) <;> rfl
end
theorem R2 {l:aD} {c:UInt8} {k:Nat} (hk:k<l.length) (hne: ∀ j,j<k→l.getD j 0≠c) (he:l.getD k 0=c):cE l c=(k:Int):=by
  unfold cE
  have:(List.range l.length).find? (fun i=>l.getD i 0 == c)=some k:=by
    rw[GU]
    exact⟨by simpa using he,by simpa using hk,fun j hj=>by simpa using hne j hj⟩
  rw[this]
theorem XL {l:aD} {c:UInt8} (hne: ∀ j,j<l.length→l.getD j 0≠c):cE l c= -1:=by
  unfold cE
  have:(List.range l.length).find? (fun i=>l.getD i 0 == c)=none:=by
    rw[D4]
    intro j hj
    simpa using hne j (List.mem_range.1 hj)
  rw[this]
theorem R3 (l:aD) (c:UInt8): -1≤cE l c∧cE l c<l.length∨cE l c= -1:=by
  unfold cE
  split
  · rename_i i hi
    have:=GS hi
    rw[List.mem_range]at this
    omega
  · omega
theorem Mn (l:aD) (c:UInt8): -1≤cE l c∧cE l c≤l.length:=by
  have:=R3 l c
  omega
def x5 (p:Int→Bool) (l:aC):Int:=
  match (List.range l.length).find? (fun i=>p (l.getD i 0)) with
  | some i=>i
  | none=> -1
theorem Mt {p:Int→Bool} {l:aC} {k:Nat} (hk:k<l.length) (hne: ∀ j,j<k→p (l.getD j 0)=false) (he:p (l.getD k 0)=true):(k:Int)=x5 p l:=by
  unfold x5
  have:(List.range l.length).find? (fun i=>p (l.getD i 0))=some k:=by
    rw[GU]
    exact⟨he,by simpa using hk,fun j hj=>by rw[hne j hj]; rfl⟩
  rw[this]
theorem Mu {p:Int→Bool} {l:aC} (hne: ∀ j,j<l.length→p (l.getD j 0)=false): -1=x5 p l:=by
  unfold x5
  have:(List.range l.length).find? (fun i=>p (l.getD i 0))=none:=by
    rw[D4]
    intro j hj
    rw[hne j (List.mem_range.1 hj)]
    simp
  rw[this]
theorem Ms (p:Int→Bool) (l:aC):decide (0≤x5 p l)=l.any p:=by
  unfold x5
  rw[wJ,kP,List.any_eq_true]
  cases h:(List.range l.length).find? (fun i=>p (l.getD i 0)) with
  | none=>
    rw[D4]at h
    constructor
    · intro h0; simp at h0
    · rintro ⟨x,hx,hp⟩
      obtain ⟨j,hj,rfl⟩:=xF hx
      have:=h j (List.mem_range.2 hj)
      rw[gQ,gE hj]at this
      exact absurd hp this
  | some i=>
    have hm:=GS h
    have hp:=JH h
    rw[List.mem_range]at hm
    constructor
    · intro _
      refine⟨l[i],rM hm,?_⟩
      rw[gQ,gE hm]at hp
      exact hp
    · intro _; simp
theorem XN (l:aC):(decide (((l.length:Nat):Int)≤120) && !(l.any fun x=>decide (¬ (0≤x∧x≤255))))=bJ l:=by
  unfold bJ vB
  rw[Bool.and_comm]
  congr 1
  · rw[List.not_any_eq_all_not]
    congr 1
    funext x
    by_cases h:0≤x∧x≤255 <;> simp[isByte,h]
  · congr 1
    apply propext
    omega
def eN:aD:=[48,49,50,51,52,53,54,55,56,57,97,98,99,100,101,102]
theorem sX:eN.length=16:=rfl
theorem Dn {a b:UInt8} (h:((a.toNat:Nat):Int)=((b.toNat:Nat):Int)):a=b:=by
  have:a.toNat=b.toNat:=by omega
  exact UInt8.toNat_inj.1 this
theorem Wv {α:Type} {as bs:List α} {k:Nat} {d:α} (h1:k<as.length) (h2:k<bs.length) (h:as.take k=bs.take k) (he:as.getD k d=bs.getD k d):as.take (k+1)=bs.take (k+1):=by
  rw[qD h1,qD h2,h]
  rw[gQ,gQ,gE h1,gE h2]at he
  simp at he
  rw[he]
theorem Wu {α:Type} {as bs:List α} {k:Nat} (hl:as.length=bs.length) (h1:as.length≤k) (h:as.take k=bs.take k):as=bs:=by
  rwa [lI h1,lI (by omega)]at h
def marks (k0:Int) (n:Nat):aC:=(List.range n).map (fun i=>k0+(i:Nat))
@[simp] theorem Zm (k0:Int) (n:Nat):(marks k0 n).length=n:=by simp[marks]
def WT (l:aD) (i:Nat):Int:=16*cE eN (l.getD (2*i) 0)+cE eN (l.getD (2*i+1) 0)
def zW (l:aD) (i:Nat):Bool:=decide (0≤cE eN (l.getD (2*i) 0)∧0≤cE eN (l.getD (2*i+1) 0))
def jQ (l:aD) (k:Nat):aC:=(List.range k).map (WT l)
def KB (l:aD):Bool:=decide (l.length % 2=0∧l.length≤240) && (List.range (l.length / 2)).all (zW l)
def bW (l:aD):aC×Bool:=if KB l then(jQ l (l.length / 2),true) else([],false)
theorem WK (l:aD) (k:Nat):jQ l k++[16*cE eN (l.getD (2*k) 0)+cE eN (l.getD (2*k+1) 0)]=jQ l (k+1):=by simp[jQ,List.range_succ,WT]
@[simp] theorem Zb (l:aD) (k:Nat):(jQ l k).length=k:=by simp[jQ]
theorem RD (l:aD):(bW l).1.length≤120:=by
  unfold bW
  split
  · rename_i h
    simp[KB]at h
    simp
    omega
  · simp
theorem C0 {l:aD} (h: ¬ (l.length % 2=0∧l.length≤240)):bW l=([],false):=by
  unfold bW
  rw[b0]
  simp only[KB,iF,kP]
  exact fun hh=>h hh.1
theorem CZ {l:aD} {k:Nat} (hk:k<l.length / 2) (h:zW l k=false):bW l=([],false):=by
  unfold bW
  rw[b0]
  simp only[KB,iF,List.all_eq_true]
  exact fun hh=>by
    have:=hh.2 k (List.mem_range.2 hk)
    rw[h]at this
    cases this
theorem NC {l:aD} {k:Nat} (h1:l.length % 2=0) (h2:l.length≤240) (hk:k=l.length / 2) (hg: ∀ j,j<k→zW l j=true):bW l=(jQ l k,true):=by
  subst hk
  unfold bW
  rw[cF]
  simp only[KB,iF,List.all_eq_true,kP]
  exact⟨⟨h1,h2⟩,fun x hx=>hg x (List.mem_range.1 hx)⟩
theorem WM {l:aD} {k:Nat} (hg: ∀ j,j<k→zW l j=true) (h1: ¬ cE eN (l.getD (2*k) 0)<0) (h2: ¬ cE eN (l.getD (2*k+1) 0)<0): ∀ j,j<k+1→zW l j=true:=by
  intro j hj
  rcases Nat.lt_succ_iff_lt_or_eq.1 hj with h | h
  · exact hg j h
  · subst h
    simp only[zW,kP]
    omega
theorem CY {l:aD} {k:Nat} (h:cE eN (l.getD (2*k) 0)<0∨cE eN (l.getD (2*k+1) 0)<0):zW l k=false:=by
  simp only[zW,P5]
  omega
theorem sV (c:UInt8): -1≤cE eN c∧cE eN c<16:=by
  have:=R3 eN c
  rw[sX]at this
  omega
def E6 (z:Int):aD:=(eN.take (z / 16+1).toNat).drop (z / 16).toNat++(eN.take (z % 16+1).toNat).drop (z % 16).toNat
def kT (xs:aC) (k:Nat):aD:=(List.range k).flatMap (fun i=>E6 (xs.getD i 0))
def mX (xs:aC):aD:=if bJ xs then kT xs xs.length else[]
theorem Kp (z:Int):(E6 z).length≤2:=by
  unfold E6
  simp only[bH,fC,dV]
  omega
theorem WQ (xs:aC) (k:Nat):kT xs k++(eN.take (xs.getD k 0 / 16+1).toNat).drop (xs.getD k 0 / 16).toNat++(eN.take (xs.getD k 0 % 16+1).toNat).drop (xs.getD k 0 % 16).toNat=kT xs (k+1):=by
  simp[kT,List.range_succ,JC,E6,vR]
theorem KC (xs:aC) (k:Nat):(kT xs k).length≤2*k:=by
  induction k with
  | zero=>simp[kT]
  | succ k ih=>
    rw[← WQ,vR,bH]
    have:=Kp (xs.getD k 0)
    unfold E6 at this
    omega
theorem hZ {xs:aC} (h:bJ xs=true):xs.length≤120:=by
  simp[bJ]at h
  exact h.2
theorem jT {xs:aC} (h:bJ xs=true) {k:Nat} (hk:k<xs.length):0≤xs.getD k 0∧xs.getD k 0≤255:=by
  simp only[bJ,iF,vB,List.all_eq_true]at h
  have:=h.1 xs[k] (rM hk)
  rw[gQ,gE hk]
  simpa [isByte] using this
theorem BJ (xs:aC):(mX xs).length≤240:=by
  unfold mX
  split
  · rename_i h
    have:=KC xs xs.length
    have:=hZ h
    omega
  · simp
theorem WS {xs:aC} {k:Nat} (hk:k≤xs.length) (hb:0<k→bJ xs=true) (h: ¬ k<xs.length∨bJ xs=false):kT xs k=mX xs:=by
  unfold mX
  rcases wI k with h0 | h0
  · subst h0
    split
    · rename_i hh
      have:xs.length=0:=by
        rcases h with h | h
        · omega
        · rw[h]at hh; cases hh
      rw[this]
    · simp[kT]
  · rw[cF (hb h0)]
    have:k=xs.length:=by
      rcases h with h | h
      · omega
      · rw[hb h0]at h; cases h
    rw[this]
theorem VH {n:Nat} (h:n<16):(eN.take (n+1)).drop n=[eN.getD n 0]:=by
  rw[qD (by rw[sX]; exact h),P3 (by simp[sX]; omega),List.drop_eq_nil_of_le (by simp[sX]; omega),gQ,gE (by rw[sX]; exact h)]
  rfl
theorem Ko {z:Int} (h0:0≤z) (h1:z≤255):E6 z=[eN.getD (z / 16).toNat 0,eN.getD (z % 16).toNat 0]:=by
  unfold E6
  rw[show (z / 16+1).toNat=(z / 16).toNat+1 from by omega,show (z % 16+1).toNat=(z % 16).toNat+1 from by omega,VH (by omega),VH (by omega)]
  rfl
theorem WR {xs:aC} {k:Nat} (hb:bJ xs=true) (hk:k<xs.length):(kT xs k++[eN.getD (xs.getD k 0 / 16).toNat 0])++[eN.getD (xs.getD k 0 % 16).toNat 0]=kT xs (k+1):=by
  have this:=And.intro hk (Ko (jT hb hk).1 (jT hb hk).2)
  rw[vR]
  simp only[kT,List.range_succ,JC]
  congr 1
  rw[GW,List.flatMap_nil,xH,this.2]
  rfl
theorem iL (c:UInt8):c.toNat≤255:=by
  have:=c.toNat_lt
  omega
theorem o0 (a b:Nat):0≤((a:Nat):Int) / ((b:Nat):Int)∧((a:Nat):Int) / ((b:Nat):Int)≤((a:Nat):Int):=by
  rw[← Int.natCast_ediv]
  exact⟨Int.natCast_nonneg _,Int.ofNat_le.2 (Nat.div_le_self a b)⟩
theorem YN {a n:Int} (h:1≤n):0≤a % n∧(a % n<n∨a % n=0):=⟨Int.emod_nonneg _ (by omega),.inl (Int.emod_lt_of_pos _ (by omega))⟩
section
variable {P:Program} {f:Fr} {w:World} {d:Nat} {ty:TypeId} {pos:String} {aft:Array Edge} {gd:Option (Nat×Bool)} {x y:Operand} {t t2:TypeId}
theorem PR {a b:Nat} (hx:ev f x=.int .i64 ((a:Nat):Int)) (hy:ev f y=.int .i64 ((b:Nat):Int)) (h:b≤a) (ha:a≤9223372036854775807):RV P f w ⟨some d,.binOp .sub t x y t2,ty,pos,aft,gd⟩ (.int .i64 ((a-b:Nat):Int)):=by
  have:=sub (P:=P) (f:=f) (w:=w) (d:=d) (ty:=ty) (pos:=pos) (aft:=aft) (gd:=gd) (t:=t) (t2:=t2) hx hy ⟨by omega,by omega⟩
  rwa [show ((a:Nat):Int)-((b:Nat):Int)=((a-b:Nat):Int) from by omega]at this
end
theorem Jk {α:Type} {l:List α} {i:Nat} {d:α} (h:i<l.length):l.getD i d∈l:=by
  rw[gQ,gE h]
  exact rM h
theorem WO {xs:aC} (hb:bJ xs=true): ∀ k,k≤xs.length→(kT xs k).length=2*k
  | 0,_=>by simp[kT]
  | k+1,h=>by
    rw[← WR hb h]
    simp[WO hb k (by omega)]
    omega
theorem Q1 {α:Type} {l m:List α} {i:Nat} {d:α} (h:i<l.length):(l++m).getD i d=l.getD i d:=by
  simp only[gQ,List.getElem?_append_left h]
theorem Q2 {α:Type} {l m:List α} {i:Nat} {d:α} (h:l.length≤i):(l++m).getD i d=m.getD (i-l.length) d:=by
  simp only[gQ,P4 h]
theorem Mo {l:aD} {c:UInt8} (h:0≤cE l c):l.getD (cE l c).toNat 0=c:=by
  unfold cE at h ⊢
  split at h
  · rename_i i hi
    have:=JH hi
    simpa using this
  · omega
section
variable {H:Type} {enc:TypeId×Value→H} {P:Program} {w:World} {sp:Nat→Bool} {held:Bool} {fuel:Nat} {t e:TypeId} {cs:cU} {x:DataW H×List MemPlace}
theorem Rx (hT:P.underlying t=some (.int .u8)) (h:DataW.trod enc P w 0 sp held fuel t cs=some x): ∃ c:UInt8,cs=[U c]:=by
  obtain ⟨n,rfl,_,hw⟩:=DataW.trod_int hT h
  have e1:IntKind.u8.min=0:=rfl
  have e2:IntKind.u8.max=255:=rfl
  have hw':(decide (IntKind.u8.min≤n) && decide (n≤IntKind.u8.max))=true:=hw
  rw[iF,e1,e2]at hw'
  have h1:=pI hw'.1
  have h2:=pI hw'.2
  refine⟨UInt8.ofNat n.toNat,?_⟩
  show _=[Value.int .u8 ((UInt8.ofNat n.toNat).toNat:Int)]
  rw[D1]
  congr 2
  omega
theorem Ru (hT:P.underlying t=some .string) (h:DataW.trod enc P w 0 sp held fuel t cs=some x): ∃ l:aD,cs=[aA l]∧l.length≤maxLen:=by
  cases fuel with
  | zero=>simp[DataW.trod]at h
  | succ n=>
    unfold DataW.trod at h
    rw[hT]at h
    match cs,h with
    | [.string s],h=>
      simp only at h
      split at h
      · rename_i hs
        have e1:s.data.toList.length=s.size:=Array.length_toList
        exact⟨s.data.toList,rfl,e1 ▸ hs⟩
      · cases h
end
section
variable {H:Type} {enc:TypeId×Value→H} {P:Program} {w:World} {sp:Nat→Bool} {held:Bool} {fuel:Nat} {t e:TypeId} {cs:cU} {x:DataW H×List MemPlace}
theorem YD {α β:Type} {g:α→Option β}: ∀ {l:List α} {r:List β},l.mapM g=some r→r.length=l.length∧ ∀ (j:Nat) a,l[j]?=some a→g a=r[j]?
  | [],r,h=>by
    simp at h
    subst h
    exact⟨rfl,fun j a ha=>by simp at ha⟩
  | b::l,r,h=>by
    simp only[List.mapM_cons,Option.bind_eq_bind,Option.bind_eq_some_iff,Option.pure_def,Option.some.injEq]at h
    obtain ⟨y,hy,ys,hys,rfl⟩:=h
    obtain ⟨h1,h2⟩:=YD hys
    refine⟨by simp[h1],fun j a ha=>?_⟩
    cases j with
    | zero=>
      simp at ha
      subst ha
      simpa using hy
    | succ j=>simpa using h2 j a (by simpa using ha)
theorem UZ {b:Nat} {a:Addr} {n:Nat} {cs':cU} (h:w.cells? b a n=some cs'):cs'.length=n∧ ∀ j u,cs'[j]?=some u→w.cell? (a.add j)=some u:=by
  unfold World.cells? at h
  split at h
  · obtain ⟨h1,h2⟩:=YD h
    rw[List.length_range]at h1
    refine⟨h1,fun j u hu=>?_⟩
    have hj:j<n:=by
      rw[← h1]
      exact(List.getElem?_eq_some_iff.1 hu).1
    rw[h2 j j (by simp[hj]),hu]
  · cases h
theorem ZM {α:Type} {Q:Nat→α→Prop}: ∀ n,(∀ i,i<n→ ∃ u,Q i u)→ ∃ us:List α,us.length=n∧ ∀ i u,us[i]?=some u→Q i u
  | 0,_=>⟨[],rfl,fun i u h=>by simp at h⟩
  | n+1,h=>by
    obtain ⟨us,h1,h2⟩:=ZM n fun i hi=>h i (by omega)
    obtain ⟨u,hu⟩:=h n (by omega)
    refine⟨us++[u],by simp[h1],fun i v hv=>?_⟩
    rw[List.getElem?_append]at hv
    split at hv
    · exact h2 i v hv
    · rename_i hi
      have:i=n:=by
        have:=(List.getElem?_eq_some_iff.1 hv).1
        simp at this
        omega
      subst this
      rw[h1]at hv
      simp at hv
      subst hv
      exact hu
theorem Rv {α:Type} (g:α→cU) {R:α→Prop} {sz:Nat} (hT:P.underlying t=some (.slice e)) (lQ:P.cellsOf e=sz) (h0:0<sz)
    (hel: ∀ n cs' y,DataW.trod enc P w 0 sp held n e cs'=some y→ ∃ u,cs'=g u∧R u)
    (h:DataW.trod enc P w 0 sp held fuel t cs=some x): ∃ (A:aM) (c:Nat) (us:List α),cs=[.slice A us.length c]∧Sl w [] sz A us.length c (us.flatMap g)∧ ∀ u∈us,R u:=by
  rcases DataW.trod_slice hT h with ⟨rfl,_⟩ | ⟨a,len,cap,elems,rest,n,_,rfl,_,hb,hl,hm,hlen,hel',_,_⟩
  · exact⟨none,0,[],rfl,by simpa using ⟨by simp,lA _,yX _,fun h=>by omega⟩,by simp⟩
  · subst lQ
    have hone: ∀ i,i<len→ ∃ u,(∀ j v,(g u)[j]?=some v→w.cell? ((a.add (i*P.cellsOf e)).add j)=some v)∧(g u).length=P.cellsOf e∧R u:=by
      intro i hi
      have:=hel' i hi
      rw[gE (by omega)]at this
      obtain ⟨cs',hc,ht⟩:=Option.bind_eq_some_iff.1 this
      obtain ⟨u,rfl,hR⟩:=hel _ _ _ ht
      exact⟨u,(UZ hc).2,(UZ hc).1,hR⟩
    obtain ⟨us,hul,hu⟩:=ZM len hone
    have hmem: ∀ u∈us,(g u).length=P.cellsOf e∧R u:=by
      intro u hum
      obtain ⟨i,hi,rfl⟩:=xF hum
      exact(hu i _ (gE hi)).2
    have hfl: ∀ us:List α,(∀ u∈us,(g u).length=P.cellsOf e)→(us.flatMap g).length=us.length*P.cellsOf e:=by
      intro us hus
      induction us with
      | nil=>simp
      | cons u us ih=>rw[GW,bH,ih fun v hv=>hus v (rL _ hv),hus u (sK ..),bP,Nat.add_mul]; omega
    have hget: ∀ (us:List α),(∀ u∈us,(g u).length=P.cellsOf e)→ ∀ (k:Nat) v,(us.flatMap g)[k]?=some v→ ∃ i u,us[i]?=some u∧ ∃ j,j<P.cellsOf e∧k=i*P.cellsOf e+j∧(g u)[j]?=some v:=by
      intro us hus
      induction us with
      | nil=>intro k v hv; simp at hv
      | cons u us ih=>
        intro k v hv
        rw[GW,List.getElem?_append]at hv
        have hlu:=hus u (sK ..)
        split at hv
        · rename_i hk
          exact⟨0,u,rfl,k,by omega,by omega,hv⟩
        · rename_i hk
          obtain ⟨i,u',hi,j,hj,hk',hv'⟩:=ih (fun v hv=>hus v (rL _ hv)) _ _ hv
          exact⟨i+1,u',by simpa using hi,j,hj,by rw[Nat.add_mul]; omega,hv'⟩
    refine⟨some a,cap,us,by rw[hul],⟨hfl us fun u hu=>(hmem u hu).1,by omega,hm,fun hn=>⟨a,rfl,?_,by simp,fun k v hv=>?_⟩⟩,fun u hu=>(hmem u hu).2⟩
    · have h1:=hone 0 (by omega)
      obtain ⟨u,h2,h3,_⟩:=h1
      have:=h2 0 _ (gE (by omega))
      have:=UY this
      rwa [block_add,block_add]at this
    · obtain ⟨i,u,hi,j,hj,rfl,hv'⟩:=hget us (fun u hu=>(hmem u hu).1) k v hv
      have:=(hu i u hi).1 j v hv'
      rwa [add_add]at this
theorem Jd {α:Type} (g:α→Value) (us:List α):us.flatMap (fun u=>[g u])=us.map g:=by
  induction us with
  | nil=>rfl
  | cons u us ih=>rw[GW,ih]; rfl
theorem Rw {α:Type} (g:α→Value) {R:α→Prop} (hT:P.underlying t=some (.slice e)) (lQ:P.cellsOf e=1)
    (hel: ∀ n cs' y,DataW.trod enc P w 0 sp held n e cs'=some y→ ∃ u,cs'=[g u]∧R u)
    (h:DataW.trod enc P w 0 sp held fuel t cs=some x): ∃ (A:aM) (c:Nat) (us:List α),cs=[.slice A us.length c]∧Sl w [] 1 A us.length c (us.map g)∧ ∀ u∈us,R u:=by
  obtain ⟨A,c,us,h1,h2,h3⟩:=Rv (fun u=>[g u]) hT lQ (by omega) hel h
  rw[Jd]at h2
  exact⟨A,c,us,h1,h2,h3⟩
theorem DJ (hT:P.underlying t=some (.slice e)) (he:P.underlying e=some (.int .u8)) (lQ:P.cellsOf e=1) (h:DataW.trod enc P w 0 sp held fuel t cs=some x):
    ∃ (A:aM) (c:Nat) (us:aD),cs=[.slice A us.length c]∧Sl w [] 1 A us.length c (us.map U):=by
  obtain ⟨A,c,us,h1,h2,_⟩:=Rw (R:=fun _=>True) U hT lQ (fun _ _ _ h=>by obtain ⟨u,hu⟩:=Rx he h; exact⟨u,hu,trivial⟩) h
  exact⟨A,c,us,h1,h2⟩
theorem tH {n:Nat} (hT:P.underlying t=some (.array n e)) (he:P.underlying e=some .string) (lQ:P.cellsOf e=1) (rY:P.cellsOf t=n) {ls:List aD} {ps:List MemPlace}
    (h:DataW.trod enc P w 0 sp held fuel t cs=some (.agg (ls.map fun l=>.lit (.string l)),ps)):cs=ls.map aA:=by
  obtain ⟨xs,m,_,hx,hlen,hn,hel⟩:=DataW.trod_array hT h
  simp only[Prod.mk.injEq,DataW.agg.injEq]at hx
  have hl:ls.length=n:=by
    have:=aS List.length hx.1
    simp at this
    omega
  refine List.ext_getElem? fun i=>?_
  by_cases hi:i<n
  · have:=hel i hi
    rw[lQ,CB,gE (by omega)]at this
    have hci:i<cs.length:=by omega
    have htk:(cs.drop i).take 1=[cs[i]]:=by
      rw[rK hci]
      rfl
    rw[htk]at this
    have hxi:=aS (·[i]?) hx.1
    simp only[vQ,gE (show i<ls.length by omega),gE (show i<xs.length by omega),yU,Option.some.injEq]at hxi
    obtain ⟨l,ND,_⟩:=Ru he this
    have hval:xs[i].1=.lit (.string l):=by
      simp only[List.cons.injEq,xJ]at ND
      cases m with
      | zero=>simp[DataW.trod]at this
      | succ m=>
        unfold DataW.trod at this
        rw[he,ND]at this
        simp only[aA]at this
        split at this
        · have h2:=aS Prod.fst (Option.some.inj this)
          simpa using h2.symm
        · cases this
    rw[hval]at hxi
    simp only[DataW.lit.injEq,Lit.string.injEq]at hxi
    rw[gE hci,vQ,gE (by omega)]
    simp only[yU,Option.some.injEq]
    simp only[List.cons.injEq,xJ]at ND
    rw[ND,hxi]
  · rw[B8 (by omega),B8 (by simp; omega)]
end
section
variable {H:Type} {enc:TypeId×Value→H} {P:Program} {w:World}
theorem B2 {sp:Nat→Bool}: ∀ {ns:List String} {gs:List (DataW H)} {ps:List MemPlace},DataW.TrodVars enc P w sp ns gs ps→gs.length=ns.length
  | [],[],_,_=>rfl
  | [],_::_,_,h=>h.elim
  | _::_,[],_,h=>h.elim
  | n::ns,d::ds,ps,h=>by
    obtain ⟨_,_,_,_,_,_,_,_,_,_,hs,_⟩:=h
    simp[B2 hs]
theorem tD {n:String} {g:Nat} {cs:Array Value} {us:cU} (hg:P.globalNamed n=some g) (hv:w.var? P n=some cs) (hc:cs.toList=us) (h0:0<us.length):PA w [] ⟨g,0,none⟩ us:=by
  have hcell: ∀ j,w.cell? ⟨g,j,none⟩=us[j]?:=fun j=>by
    rw[World.var?_cell hg hv j,← hc]
    simp
  refine⟨?_,by simp,fun j u hu=>?_⟩
  · have:=hcell 0
    rw[gE h0]at this
    exact UY this
  · rw[UG,hcell,hu]
end
def jY:List aD:=[[109,111,114,101],[111,108,100],[104,101,108,108,111],[116,117,110,110,101,108],[108,105,110,101],[104,101,97,100],[111,116,104,101,114]]
theorem BS:jY.length=7:=rfl
def mL (z:Int):aD:=if 0≤z∧z≤6 then jY.getD z.toNat [] else[]
theorem XS {z:Int} (h: ¬ (0≤z∧z≤6)):mL z=[]:=b0 h
theorem Nb {z:Int} (h:0≤z∧z≤6):mL z=jY.getD z.toNat []:=cF h
theorem sZ {l:aC}:bJ l=true↔(∀ x∈l,0≤x∧x≤255)∧l.length≤120:=by
  simp[bJ,vB,isByte,List.all_eq_true]
theorem N1 {l m:aC} (h:bJ l=true) (hs:m.Sublist l):bJ m=true:=by
  rw[sZ]at*
  exact⟨fun x hx=>h.1 x (hs.subset hx),cB hs.length_le h.2⟩
section
variable {α:Type}
theorem Fh {p:α→Bool} {l:List α} {k:Nat} (d:α) (h:k<l.length):(l.take (k+1)).all p=((l.take k).all p && p (l.getD k d)):=by
  rw[qD h,List.all_append,gQ,gE h]
  simp
theorem wL {p:α→Bool} {l:List α} {k:Nat} {d:α} (h:k<l.length) (ha:(l.take k).all p=true) (hp:p (l.getD k d)=true):(l.take (k+1)).all p=true:=by
  rw[Fh d h,ha,hp]
  rfl
theorem CJ {p:α→Bool} {l:List α} {k:Nat} {d:α} (h:k<l.length) (hp:p (l.getD k d)=false):l.all p=false:=by
  rw[List.all_eq_false]
  refine⟨l[k],rM h,?_⟩
  rw[gQ,gE h]at hp
  simpa using hp
theorem EI {p:α→Bool} {l:List α} {k:Nat} (h:l.length≤k) (ha:(l.take k).all p=true):l.all p=true:=by
  rwa [lI h]at ha
def m5 (p:α→Bool) (l:List α):Int:=match l.findIdx? p with | some i=>(i:Int) | none=> -1
theorem NY {p:α→Bool} {l:List α} {k:Nat} {d:α} (hk:k<l.length) (hne: ∀ j,j<k→p (l.getD j d)=false) (he:p (l.getD k d)=true):(k:Int)=m5 p l:=by
  unfold m5
  have:l.findIdx? p=some k:=by
    rw[List.findIdx?_eq_some_iff_getElem]
    refine⟨hk,?_,fun j hj=>?_⟩
    · rw[gQ,gE hk]at he
      exact he
    · have:=hne j hj
      rw[gQ,gE (by omega)]at this
      simpa using this
  rw[this]
theorem NZ {p:α→Bool} {l:List α} {d:α} (hne: ∀ j,j<l.length→p (l.getD j d)=false): -1=m5 p l:=by
  unfold m5
  have:l.findIdx? p=none:=by
    rw[List.findIdx?_eq_none_iff]
    intro x hx
    obtain ⟨j,hj,rfl⟩:=xF hx
    have:=hne j hj
    rwa [gQ,gE hj]at this
  rw[this]
theorem NX (p:α→Bool) (l:List α):decide (0≤m5 p l)=l.any p:=by
  unfold m5
  rw[← List.findIdx?_isSome]
  cases l.findIdx? p <;> simp
end
theorem XK (l:aD) (c:UInt8):0≤cE l c↔c∈l:=by
  unfold cE
  cases h:(List.range l.length).find? (fun i=>l.getD i 0 == c) with
  | none=>
    rw[D4]at h
    constructor
    · intro h0; simp at h0
    · intro hc
      obtain ⟨j,hj,rfl⟩:=xF hc
      have:=h j (List.mem_range.2 hj)
      rw[gQ,gE hj]at this
      simp at this
  | some i=>
    have hm:=List.mem_range.1 (GS h)
    have hp:=JH h
    constructor
    · intro _
      have:l[i]=c:=by
        rw[gQ,gE hm]at hp
        simpa using hp
      exact this ▸ rM hm
    · intro _; simp
def lE (m:aD) (c:UInt8):Bool:=decide ((97≤((c.toNat:Nat):Int)∧((c.toNat:Nat):Int)≤122)∨(48≤((c.toNat:Nat):Int)∧((c.toNat:Nat):Int)≤57)∨0≤cE m c)
def nI (c:UInt8):Bool:=decide ((97≤((c.toNat:Nat):Int)∧((c.toNat:Nat):Int)≤122)∨(48≤((c.toNat:Nat):Int)∧((c.toNat:Nat):Int)≤57)∨((c.toNat:Nat):Int)=45)
theorem DG (m:aD) (c:UInt8):lE m c=true↔((97≤((c.toNat:Nat):Int)∧((c.toNat:Nat):Int)≤122)∨(48≤((c.toNat:Nat):Int)∧((c.toNat:Nat):Int)≤57))∨c∈m:=by
  simp only[lE,kP,XK,or_assoc]
theorem Yi {c:UInt8} {n:Nat} (hn:n<256):((c.toNat:Nat):Int)=(n:Int)↔c=UInt8.ofNat n:=by
  constructor
  · intro h
    apply UInt8.toNat_inj.1
    rw[D1]
    omega
  · intro h
    rw[h,D1]
    omega
section
variable {l:aD} {n:Int} {b:Bool}
end
theorem MU {α:Type} {xs:List α} {k:Nat} {d:α} (h:k<xs.length):(xs.take k++List.replicate (xs.length-k) d).set k (xs.getD k d)=xs.take (k+1)++List.replicate (xs.length-(k+1)) d:=by
  rw[List.set_append_right _ _ (by simp; omega),dV,Nat.min_eq_left (by omega),Nat.sub_self,qD h,vR]
  congr 1
  rw[show xs.length-k=(xs.length-(k+1))+1 from by omega,List.replicate_succ,gQ,gE h]
  rfl
abbrev eH (u:aD×aD):cU:=[aA u.1,aA u.2]
def lS:aD×aD:=([],[])
def aB (c:UInt8):aD→List aD
  | []=>[[]]
  | a::l=>if a=c then[]::aB c l else match aB c l with | []=>[[a]] | p::ps=>(a::p)::ps
theorem IZ {c:UInt8} {p:aD} (h: ∀ x∈p,x≠c):aB c p=[p]:=by
  induction p with
  | nil=>rfl
  | cons a p ih=>rw[aB,b0 (h a (sK ..)),ih fun x hx=>h x (rL _ hx)]
theorem yH {c:UInt8} {p r:aD} (h: ∀ x∈p,x≠c):aB c (p++c::r)=p::aB c r:=by
  induction p with
  | nil=>simp[aB]
  | cons a p ih=>rw[List.cons_append,aB,b0 (h a (sK ..)),ih fun x hx=>h x (rL _ hx)]
theorem oH (c:UInt8) (l:aD):(aB c l).length=l.count c+1:=by
  induction l with
  | nil=>rfl
  | cons a l ih=>
    rw[aB,List.count_cons]
    split
    · rename_i h
      simp[ih,h]
    · rename_i h
      cases hs:aB c l with
      | nil=>rw[hs]at ih; simp at ih
      | cons p ps=>rw[hs]at ih; simp[h]; simpa using ih
theorem Vv (c:UInt8) (l:aD): ∀ p∈aB c l,p.length≤l.length:=by
  induction l with
  | nil=>simp[aB]
  | cons a l ih=>
    rw[aB]
    split
    · intro p hp
      rcases List.mem_cons.1 hp with rfl | hp
      · simp
      · have:=ih p hp; simp; omega
    · cases hs:aB c l with
      | nil=>simp
      | cons q qs=>
        rw[hs]at ih
        intro p hp
        rcases List.mem_cons.1 hp with rfl | hp
        · have:=ih q (sK ..); simp; omega
        · have:=ih p (rL _ hp); simp; omega
theorem lH (c:UInt8) (l:aD) (k:Nat):((aB c l).getD k []).length≤l.length:=by
  rw[gQ]
  by_cases hk:k<(aB c l).length
  · rw[gE hk]
    exact Vv c l _ (rM hk)
  · rw[B8 (by omega)]
    simp
theorem DP (c:UInt8) (l:aD):0<(aB c l).length:=by
  rw[oH]
  omega
theorem R4 {l:aD} {c:UInt8} (h:0≤cE l c):(cE l c).toNat<l.length∧aB c l=l.take (cE l c).toNat::aB c (l.drop ((cE l c).toNat+1)):=by
  unfold cE at*
  cases hf:(List.range l.length).find? (fun i=>l.getD i 0 == c) with
  | none=>rw[hf]at h; simp at h
  | some i=>
    have hm:=List.mem_range.1 (GS hf)
    have hp:=JH hf
    have hne: ∀ j,j<i→l.getD j 0≠c:=by
      intro j hj
      rw[GU]at hf
      have:=hf.2.2 j hj
      simpa using this
    refine⟨by simpa using hm,?_⟩
    have hi:l[i]=c:=by
      rw[gQ,gE hm]at hp
      simpa using hp
    have hl:l=l.take i++c::l.drop (i+1):=by
      conv=>lhs; rw[← D0 i l]
      rw[rK hm,hi]
    show aB c l=l.take i::aB c (l.drop (i+1))
    conv=>lhs; rw[hl]
    refine yH fun x hx=>?_
    obtain ⟨j,hj,rfl⟩:=xF hx
    rw[dV]at hj
    have:=hne j (by omega)
    rw[gQ,gE (by omega)]at this
    simpa using this
theorem Mp {l:aD} {c:UInt8} (h:cE l c<0):aB c l=[l]:=by
  refine IZ fun x hx he=>?_
  subst he
  have:=(XK l x).2 hx
  omega
theorem Cc {α:Type} {P:List α} {k:Nat} {x d:α} {r:List α} (h:P.drop k=x::r):(P.take k++List.replicate (P.length-k) d).set k x=P.take (k+1)++List.replicate (P.length-(k+1)) d:=by
  have hk:k<P.length:=by
    rcases qR k P.length with h' | h'
    · exact h'
    · rw[List.drop_eq_nil_of_le h']at h
      cases h
  have hx:P[k]=x:=by
    rw[rK hk]at h
    exact(List.cons.inj h).1
  have:=MU (xs:=P) (d:=d) hk
  rw[gQ,gE hk]at this
  simpa [hx] using this
theorem Cb {α:Type} {P:List α} {k:Nat} {x d:α} (h:P.drop k=[x]):((P.take k++List.replicate (P.length-k) d).set k x).take (k+1)=P:=by
  rw[Cc h]
  have hl:P.length=k+1:=by
    have:=aS List.length h
    simp at this
    omega
  rw[hl]
  simp[← hl]
theorem Cd {c:UInt8} {l s:aD} {k m:Nat} (hs:aB c s=(aB c l).drop k) (h:0≤cE s c) (hm:m=(cE s c).toNat):(aB c l).drop k=s.take m::aB c (s.drop (m+1)):=by
  subst hm
  rw[← hs]
  exact(R4 h).2
theorem Vy {c:UInt8} {l s:aD} {k m:Nat} (hs:aB c s=(aB c l).drop k) (h:0≤cE s c) (hm:m=(cE s c).toNat+1):aB c (s.drop m)=(aB c l).drop (k+1):=by
  subst hm
  have h1:=Cd hs h rfl
  have h2:=aS (List.drop 1) h1
  rw[yW]at h2
  exact h2.symm
theorem Vx {c:UInt8} {l s:aD} {k:Nat} (hs:aB c s=(aB c l).drop k) (hk:k<(aB c l).length) (h:l.count c≤k):(aB c l).drop k=[s]:=by
  have h1:=oH c l
  have h2:=oH c s
  have h3:=aS List.length hs
  rw[fC]at h3
  have h4:s.count c=0:=by omega
  rw[← hs]
  exact IZ fun x hx he=>by
    subst he
    exact absurd (List.count_pos_iff.2 hx) (by omega)
theorem Vz {c:UInt8} {l s:aD} {k:Nat} (hs:aB c s=(aB c l).drop k) (h:cE s c<0):(aB c l).drop k=[s]:=by
  rw[← hs]
  exact Mp h
theorem Hi {c:UInt8} {l:aD} {zs:List aD} {a i:Nat} (h:zs++aB c (l.drop a)=aB c l) (ha:a≤i) (hi:i<l.length) (hn: ∀ j,a≤j→j<i→l.getD j 0≠c) (hc:l.getD i 0=c):
    (zs++[(l.take i).drop a])++aB c (l.drop (i+1))=aB c l:=by
  rw[← h,vR]
  congr 1
  have hg:l[i]=c:=by
    rw[gQ,gE hi]at hc
    simpa using hc
  have hd:l.drop a=(l.take i).drop a++c::l.drop (i+1):=by
    conv=>lhs; rw[← D0 i l]
    rw[P3 (by simp; omega),rK hi,hg]
  rw[hd,yH]
  · rfl
  · intro x hx
    obtain ⟨j,hj,rfl⟩:=xF hx
    simp only[fC,dV]at hj
    have:=hn (a+j) (by omega) (by omega)
    rw[gQ,gE (by omega)]at this
    simpa using this
theorem Hh {c:UInt8} {l:aD} {zs:List aD} {a i:Nat} (h:zs++aB c (l.drop a)=aB c l) (hi:l.length≤i) (hn: ∀ j,a≤j→j<i→l.getD j 0≠c):zs++[l.drop a]=aB c l:=by
  rw[← h]
  congr 1
  refine(IZ fun x hx=>?_).symm
  obtain ⟨j,hj,rfl⟩:=xF hx
  simp only[fC]at hj
  have:=hn (a+j) (by omega) (by omega)
  rw[gQ,gE (by omega)]at this
  simpa using this
theorem Y2 (c:UInt8):lE [45] c=nI c:=by
  rw[wJ,DG]
  have V6:=Yi (c:=c) (n:=45) (by omega)
  have Ij:UInt8.ofNat 45=45:=rfl
  rw[Ij]at V6
  simp only[nI,kP,List.mem_cons,List.not_mem_nil,or_false]
  rw[← V6]
  simp only[or_assoc]
  exact Iff.rfl
def pY (p:aD):Bool:=decide (p≠[]) && p.all (lE [45])
def z6 (l:aD):UInt8:=((aB 46 l).getD ((aB 46 l).length-1) []).getD 0 0
def nX (l:aD):Bool:=(aB 46 l).all pY && decide (l.length≤20) && decide (97≤(((z6 l).toNat:Nat):Int)∧(((z6 l).toNat:Nat):Int)≤122)
theorem OG {l:aD} {k:Nat} (hk:k<(aB 46 l).length) (h:pY ((aB 46 l).getD k [])=false):nX l=false:=by
  simp[nX,CJ hk h]
theorem ZL {p:aD} (h:p=[]):pY p=false:=by simp[pY,h]
theorem ZJ {p:aD} (h:p.length=0):pY p=false:=ZL (vO h)
theorem ZI {p:aD} (h:p.all (lE [45])=false):pY p=false:=by simp[pY,h]
theorem Rb {p:aD} {j:Nat} (hj:j<p.length) (h:nI (p.getD j 0)=false):pY p=false:=ZI (CJ hj (by rw[Y2]; exact h))
theorem ZK {p:aD} (h: ¬ p=[]) (h2:p.all (lE [45])=true):pY p=true:=by simp only[pY,h2,D6,kP]; exact h
theorem Rc {p:aD} {j:Nat} (h: ¬ p.length=0) (hj:p.length≤j) (h2:(p.take j).all nI=true):pY p=true:=by
  refine ZK (fun he=>h (by rw[he]; rfl)) ?_
  rw[lI hj]at h2
  rw[show lE [45]=nI from funext Y2]
  exact h2
theorem SR {l:aD} {k:Nat} (hk:(aB 46 l).length≤k) (ha:((aB 46 l).take k).all pY=true) {j:Nat} (hj:j<(aB 46 l).length):0<((aB 46 l).getD j []).length:=by
  have h:=EI hk ha
  have:=List.all_eq_true.1 h _ (rM hj)
  rw[gQ,gE hj]
  rcases wI ((aB 46 l)[j]).length with h0 | h0
  · rw[ZJ h0]at this
    cases this
  · simpa using h0
theorem YO {l:aD} {k:Nat} (hk:(aB 46 l).length≤k) (ha:((aB 46 l).take k).all pY=true):nX l=(decide (l.length≤20) && decide (97≤(((z6 l).toNat:Nat):Int)∧(((z6 l).toNat:Nat):Int)≤122)):=by
  simp only[nX,EI hk ha,D5]
theorem YP {l:aD} {k:Nat} (hk:(aB 46 l).length≤k) (ha:((aB 46 l).take k).all pY=true) (h: ¬ ((l.length:Nat):Int)≤20):nX l=false:=by
  rw[YO hk ha,decide_eq_false (by omega)]
  rfl
theorem SQ {l:aD} {k:Nat} (hk:(aB 46 l).length≤k) (ha:((aB 46 l).take k).all pY=true) (h:((l.length:Nat):Int)≤20):nX l=decide (97≤(((z6 l).toNat:Nat):Int)∧(((z6 l).toNat:Nat):Int)≤122):=by
  rw[YO hk ha,decide_eq_true (by omega:l.length≤20)]
  rfl
theorem OE {l:aD} (h:nX l=true):l.length≤20:=by
  simp only[nX,iF,kP]at h
  exact h.1.2
def kO (q:aC):Bool:=decide (q.length=4) && bJ q
theorem wA {q:aC} (h:kO q=true):q.length=4:=by
  simp only[kO,iF,kP]at h
  exact h.1
def lO (s:aD):Bool:=decide (s.length≤8) && s.all (lE [])
theorem Y1 (c:UInt8):lE [] c=(nI c && decide (((c.toNat:Nat):Int)≠45)):=by
  rw[wJ,DG]
  simp only[nI,iF,kP,List.not_mem_nil,or_false]
  omega
theorem Dv {s:aD} {k:Nat} (hk:k<s.length) (h:nI (s.getD k 0)=false∨(((s.getD k 0).toNat:Nat):Int)=45):lO s=false:=by
  have:lE [] (s.getD k 0)=false:=by
    rw[Y1]
    rcases h with h | h
    · rw[h]; rfl
    · rw[decide_eq_false (fun hn=>hn h),u9]
  simp[lO,CJ hk this]
theorem Yn {s:aD} {k:Nat} (hk:s.length≤k) (h:(s.take k).all (lE [])=true):decide (((s.length:Nat):Int)≤8)=lO s:=by
  simp only[lO,EI hk h,D6]
  congr 1
  apply propext
  omega
def iW (u p:aD):Bool:=decide (u≠[]) && decide (p≠[]) && lO u && lO p
theorem gY {s:aD} (h:lO s=true):s.length≤8:=by
  simp only[lO,iF,kP]at h
  exact h.1
def j9 (ms:aC):Bool:=decide ((∀ x∈ms,0≤x∧x≤254)∧ms.Nodup∧1≤ms.length∧ms.length≤8)
def BU (ms:aC) (k:Nat):Prop:=(∀ x∈ms.take k,0≤x∧x≤254)∧(ms.take k).Nodup
theorem YI (ms:aC):BU ms 0:=by simp[BU]
theorem YJ {ms:aC} {k:Nat} (hk:k<ms.length) (h:BU ms k) (h1:0≤ms.getD k 0∧ms.getD k 0≤254) (h2:ms.getD k 0 ∉ ms.take k):BU ms (k+1):=by
  have hg:ms.getD k 0=ms[k]:=by rw[gQ,gE hk]; rfl
  rw[hg]at h1 h2
  unfold BU
  rw[qD hk]
  refine⟨fun x hx=>?_,List.nodup_append.2 ⟨h.2,by simp,?_⟩⟩
  · rcases List.mem_append.1 hx with hx | hx
    · exact h.1 x hx
    · simp at hx
      subst hx
      exact h1
  · intro a ha b hb he
    simp at hb
    subst hb
    subst he
    exact h2 ha
theorem YK {ms:aC} {k:Nat} (hk:k<ms.length) (h: ¬ (0≤ms.getD k 0∧ms.getD k 0≤254)):j9 ms=false:=by
  have hg:ms.getD k 0=ms[k]:=by rw[gQ,gE hk]; rfl
  rw[hg]at h
  refine decide_eq_false fun hx=>h (hx.1 _ (rM hk))
theorem YL {ms:aC} {k:Nat} (hk:k<ms.length) (h:ms.getD k 0∈ms.take k):j9 ms=false:=by
  have hg:ms.getD k 0=ms[k]:=by rw[gQ,gE hk]; rfl
  rw[hg]at h
  refine decide_eq_false fun hx=>?_
  have h1:=hx.2.1
  rw[← D0 k ms,rK hk]at h1
  exact(List.nodup_append.1 h1).2.2 _ h _ (sK ..) rfl
theorem YM {ms:aC} {k:Nat} (hk:ms.length≤k) (h:BU ms k):decide ((1:Int)≤((ms.length:Nat):Int)∧((ms.length:Nat):Int)≤8)=j9 ms:=by
  unfold BU at h
  rw[lI hk]at h
  unfold j9
  congr 1
  apply propext
  constructor
  · intro hl
    exact⟨h.1,h.2,by omega,by omega⟩
  · intro hl
    omega
theorem BT {ms:aC} (h:j9 ms=true):1≤ms.length∧ms.length≤8:=(pI h).2.2
def dN (k:Int) (q:aC) (nm:aD) (p:Int):Bool:=
  decide (0≤p∧p≤65535) && ((decide (k=1) && kO q && decide (nm=[])) || (decide (k=3) && nX nm && decide (q=[])))
theorem QA (q:aC) (nm:aD) (p:Int):dN 1 q nm p=(decide (0≤p∧p≤65535) && (kO q && decide (nm=[]))):=by simp[dN]
theorem QB (q:aC) (nm:aD) (p:Int):dN 3 q nm p=(decide (0≤p∧p≤65535) && (nX nm && decide (q=[]))):=by simp[dN]
theorem EH {k:Int} (q:aC) (nm:aD) (p:Int) (h1: ¬ k=1) (h3: ¬ k=3):dN k q nm p=false:=by simp[dN,h1,h3]
theorem UK {k:Int} (q:aC) (nm:aD) {p:Int} (h: ¬ (0≤p∧p≤65535)):dN k q nm p=false:=by simp only[dN,decide_eq_false h,GZ]
def Gh (ms:aC) (u p:aD) (k:Int) (q:aC) (nm:aD) (pt:Int):Bool:=
  j9 ms && dN k q nm pt && (if 2∈ms then iW u p else decide (u=[]∧p=[]))
theorem Mv (n:Int) (l:aC):decide (0≤m5 (fun x=>decide (n=x)) l)=decide (n∈l):=by
  rw[NX]
  rw[wJ]
  simp
theorem Mq (c:UInt8):cE [c] c=0:=by simp[cE]
theorem NW (l:aD) (c:UInt8): -1≤cE l c∧cE l c<(l.length:Int):=by
  rcases Int.lt_or_le (cE l c) 0 with h | h
  · refine⟨?_,by omega⟩
    unfold cE
    split <;> omega
  · have:=(R4 h).1
    omega
theorem MZ {c:UInt8} {l m:aD} {zs:List aD} (h:zs++aB c m=aB c l):zs.length≤l.length:=by
  have h1:=aS List.length h
  rw[bH,oH,oH]at h1
  have:=pS (a:=c) (l:=l)
  omega
theorem Py {l:aD} {k:Nat} (hk:(aB 46 l).length≤k) (ha:((aB 46 l).take k).all pY=true) (h:((l.length:Nat):Int)≤20) (h1:97≤(((z6 l).toNat:Nat):Int)):decide ((((z6 l).toNat:Nat):Int)≤122)=nX l:=by
  rw[SQ hk ha h]
  congr 1
  apply propext
  omega
theorem Pz {l:aD} {k:Nat} (hk:(aB 46 l).length≤k) (ha:((aB 46 l).take k).all pY=true) (h:((l.length:Nat):Int)≤20) (h1: ¬ 97≤(((z6 l).toNat:Nat):Int)):false=nX l:=by
  rw[SQ hk ha h,decide_eq_false (by omega)]
theorem Yo {c:UInt8} (h:nI c=true) (h2: ¬ ((c.toNat:Nat):Int)=45):lE [] c=true:=by
  rw[Y1,h,decide_eq_true h2]
  rfl
theorem Jr {zs:aC} {n:Int} {k:Nat} (hk:k<zs.length) (h:n ∉ zs.take k) (hn: ¬ zs.getD k 0=n):n ∉ zs.take (k+1):=by
  rw[qD hk]
  rw[gQ,gE hk]at hn
  intro hm
  rcases List.mem_append.1 hm with hm | hm
  · exact h hm
  · simp at hm
    exact hn hm.symm
theorem Js {zs:aC} {n:Int} {k:Nat} (hk:k<zs.length) (hn:zs.getD k 0=n):n∈zs:=by
  rw[gQ,gE hk]at hn
  exact hn ▸ rM hk
theorem Jq {zs:aC} {n:Int} {k:Nat} (hk:zs.length≤k) (h:n ∉ zs.take k):n ∉ zs:=by
  rwa [lI hk]at h
theorem EG {k:Int} {q:aC} {nm:aD} {p:Int} (h:k=1):dN k q nm p=(decide (0≤p∧p≤65535) && (kO q && decide (nm=[]))):=by rw[h,QA]
theorem CI {k:Int} {q:aC} {nm:aD} {p:Int} (h:k=3):dN k q nm p=(decide (0≤p∧p≤65535) && (nX nm && decide (q=[]))):=by rw[h,QB]
theorem OA (u p:aD):iW u p=(lO u && lO p && decide ((0:Int)<((u.length:Nat):Int)) && decide ((0:Int)<((p.length:Nat):Int))):=by
  have h: ∀ l:aD,decide (l≠[])=decide ((0:Int)<((l.length:Nat):Int)):=by
    intro l
    congr 1
    apply propext
    cases l <;> simp
  rw[iW,h,h,wJ]
  simp only[iF]
  constructor
  · rintro ⟨⟨⟨a,b⟩,c⟩,d⟩; exact⟨⟨⟨c,d⟩,a⟩,b⟩
  · rintro ⟨⟨⟨a,b⟩,c⟩,d⟩; exact⟨⟨⟨c,d⟩,a⟩,b⟩
def aW (s:aD):aC:=s.map fun c=>((c.toNat:Nat):Int)
theorem cT (s:aD):(aW s).length=s.length:=by simp[aW]
theorem PV {s:aD} {k:Nat} (h:k<s.length):(aW s).getD k 0=(((s.getD k 0).toNat:Nat):Int):=by
  simp only[aW,gQ,vQ,gE h,yU,B9]
theorem Xi {s:aD} {k:Nat} (h:k<s.length):((aW s).take k++List.replicate (s.length-k) (0:Int)).set k (((s.getD k 0).toNat:Nat):Int)=(aW s).take (k+1)++List.replicate (s.length-(k+1)) 0:=by
  have:=MU (xs:=aW s) (k:=k) (d:=(0:Int)) (by rw[cT]; exact h)
  rwa [PV h,cT]at this
theorem Xh {s:aD} {k:Nat} (h:k<s.length):(aW s).take k++[(((s.getD k 0).toNat:Nat):Int)]=(aW s).take (k+1):=by
  rw[← PV h,qD (by rw[cT]; exact h),gQ,gE (by rw[cT]; exact h)]
  rfl
theorem Cw {s:aD} {k:Nat} (h:s.length≤k):(aW s).take k=aW s:=lI (by rw[cT]; exact h)
def bB (n:Int):aC:=[n / 256 % 256,n % 256]
theorem Qh {n:Int} {k:Nat} (h:k<2):((bB n).take k++List.replicate (2-k) (0:Int)).set k (n / 2 ^ (8*((2:Int)-1-(k:Nat))).toNat % 256)=(bB n).take (k+1)++List.replicate (2-(k+1)) 0:=by
  rcases Nat.lt_succ_iff_lt_or_eq.1 h with h | rfl
  · obtain rfl:k=0:=by omega
    simp[bB]
  · simp[bB]
def iZ (k:Int) (q:aC) (nm:aD) (p:Int):aC:=(k::(if k=1 then q else((nm.length:Nat):Int)::aW nm))++bB p
theorem ED {k:Int} {q:aC} {nm:aD} {p:Int} (h:dN k q nm p=true):(iZ k q nm p).length≤24:=by
  by_cases h1:k=1
  · subst h1
    rw[QA]at h
    simp only[iF]at h
    have:=wA h.2.1
    simp[iZ,bB,this]
  · by_cases h3:k=3
    · subst h3
      rw[QB]at h
      simp only[iF]at h
      have:=OE h.2.1
      simp[iZ,bB,cT]
      omega
    · rw[EH q nm p h1 h3]at h
      cases h
theorem fK {k:Int} {q:aC} {nm:aD} {p:Int} (h:dN k q nm p=true):0≤p∧p≤65535∧(k=1→q.length=4)∧(¬ k=1→nm.length≤20):=by
  have hp:0≤p∧p≤65535:=by
    rcases Decidable.em (0≤p∧p≤65535) with hp | hp
    · exact hp
    · rw[UK q nm hp]at h
      cases h
  refine⟨hp.1,hp.2,fun h1=>?_,fun h1=>?_⟩
  · rw[EG h1]at h
    simp only[iF]at h
    exact wA h.2.1
  · by_cases h3:k=3
    · rw[CI h3]at h
      simp only[iF]at h
      exact OE h.2.1
    · rw[EH q nm p h1 h3]at h
      cases h
def uV (c k:Int) (q:aC) (nm:aD) (p:Int):Bool:=decide (1≤c∧c≤3) && dN k q nm p
def mF (c k:Int) (q:aC) (nm:aD) (p:Int):aC×Bool:=if uV c k q nm p then([5,c,0]++iZ k q nm p,true) else([],false)
def m6 (u w:aD):aC×Bool:=if iW u w then([1,((u.length:Nat):Int)]++aW u++[((w.length:Nat):Int)]++aW w,true) else([],false)
theorem FL {u w:aD} (h:iW u w=true):u.length≤8∧w.length≤8:=by
  simp only[iW,iF]at h
  exact⟨gY h.1.2,gY h.2⟩
theorem Qm {n:Int} {k:Nat} (h:0≤n∧n≤65535):0≤n / 2 ^ k:=Int.ediv_nonneg h.1 (Int.le_of_lt (Int.pow_pos (by decide)))
def KT (n:Int) (k:Nat):Int:=match k with | 0=>n | 1=>n / 256 | _=>n / 256 / 256
theorem Qk {n:Int} {k:Nat} (h:k<2):KT n k / 256=KT n (k+1):=by
  match k,h with
  | 0,_=>rfl
  | 1,_=>rfl
def AD (n:Int) (k:Nat):aC:=match k with | 0=>[0,0] | 1=>[0,n % 256] | _=>bB n
theorem Ql {n:Int} {k i:Nat} (h:k<2) (hi:i=1-k):(AD n k).set i (KT n k % 256)=AD n (k+1):=by
  match k,h with
  | 0,_=>subst hi; rfl
  | 1,_=>subst hi; rfl
theorem Qn {n:Int} {k:Nat} (h:0≤n∧n≤65535):n / 2 ^ k≤9223372036854775807:=by
  have:=Int.ediv_le_self (a:=n) (2 ^ k) h.1
  omega
theorem O5 {c k:Int} {q:aC} {nm:aD} {p:Int} (h:uV c k q nm p=true):dN k q nm p=true:=by
  simp only[uV,iF]at h
  exact h.2
theorem Hm {n:Int} (h0:0≤n) (h1:n<10):[UInt8.ofNat (48+n).toNat]=Lib.itoa n:=by
  have h2:n.toNat<10:=by omega
  unfold Lib.itoa
  rw[b0 (by omega),Lib.decDigits,dif_pos h2]
  congr 2
  omega
theorem Hl {n:Int} (h1: ¬ n<10):Lib.itoa (n / 10)++[UInt8.ofNat (48+n % 10).toNat]=Lib.itoa n:=by
  have h2: ¬ n.toNat<10:=by omega
  unfold Lib.itoa
  rw[b0 (by omega),b0 (by omega),Lib.decDigits.eq_def n.toNat,dif_neg h2]
  have e1:(n / 10).toNat=n.toNat / 10:=by omega
  have e2:(48+n % 10).toNat=48+n.toNat % 10:=by omega
  rw[e1,e2]
def fJ (q:aC):aD:=Lib.join (q.map Lib.itoa) [46]
theorem oG {q:aC} {k:Nat} (h:kO q=true) (hk:k<q.length):0≤q.getD k 0∧q.getD k 0≤255:=by
  simp only[kO,iF]at h
  exact jT h.2 hk
theorem Rp {q:aC} {k:Nat} (hk:k<q.length):((q.map Lib.itoa).take k++List.replicate (q.length-k) ([]:aD)).set k (Lib.itoa (q.getD k 0))=(q.map Lib.itoa).take (k+1)++List.replicate (q.length-(k+1)) []:=by
  have:=MU (xs:=q.map Lib.itoa) (k:=k) (d:=([]:aD)) (by simpa using hk)
  have e1:(q.map Lib.itoa).getD k []=Lib.itoa (q.getD k 0):=by
    simp only[gQ,vQ,gE hk,yU,B9]
  rwa [e1,yV]at this
theorem DB {x:Int} (h:0≤x∧x≤255):(Lib.itoa x).length≤21:=sL x (by omega) (by omega)
theorem KW {q:aC} (h:q.length=4):fJ q=Lib.itoa (q.getD 0 0)++[46]++Lib.itoa (q.getD 1 0)++[46]++Lib.itoa (q.getD 2 0)++[46]++Lib.itoa (q.getD 3 0):=by
  match q,h with
  | [a,b,c,d],_=>simp[fJ,Lib.join,List.intercalate]
theorem ZW {q:aC} (h:kO q=true):(fJ q).length≤87:=by
  have h4:=wA h
  have g0:=DB (oG h (k:=0) (by omega))
  have g1:=DB (oG h (k:=1) (by omega))
  have g2:=DB (oG h (k:=2) (by omega))
  have g3:=DB (oG h (k:=3) (by omega))
  rw[KW h4]
  simp only[bH,bP,bK]
  omega
def jJ (k:Int) (q:aC) (nm:aD):aD:=if k=1 then fJ q else nm
theorem zN {k:Int} {q:aC} {nm:aD} {p:Int} (h:dN k q nm p=true) (h1:k=1):kO q=true:=by
  rw[EG h1]at h
  simp only[iF]at h
  exact h.2.1
theorem RK {k:Int} {q:aC} {nm:aD} {p:Int} (h:dN k q nm p=true):(jJ k q nm).length≤87:=by
  unfold jJ
  split
  · rename_i h1
    exact ZW (zN h h1)
  · rename_i h1
    have:=(fK h).2.2.2 h1
    omega
def pZ (s t:aD):Prop:=t.length≤s.length∧s.drop (s.length-t.length)=t
instance (s t:aD):Decidable (pZ s t):=inferInstanceAs (Decidable (_∧_))
theorem ZZ {q:aC} {k:Nat} (hk:k=q.length):(q.map Lib.itoa).take k++List.replicate (q.length-k) ([]:aD)=q.map Lib.itoa:=by
  subst hk
  rw[lI (by simp),Nat.sub_self,List.replicate_zero,xH]
theorem QP (u:Nat): ∀ c∈Lib.decDigits u,48≤c.toNat∧c.toNat≤57:=by
  induction u using Nat.strongRecOn with
  | _ u ih=>
    rw[Lib.decDigits]
    split
    · rename_i h
      intro c hc
      obtain rfl:c=UInt8.ofNat (48+u):=by simpa only[GV] using hc
      rw[D1]
      omega
    · intro c hc
      rcases List.mem_append.1 hc with hc | hc
      · exact ih (u / 10) (by omega) c hc
      · obtain rfl:c=UInt8.ofNat (48+u % 10):=by simpa only[GV] using hc
        rw[D1]
        omega
theorem Hp {u:Nat} (h:u<1000):(Lib.decDigits u).length≤3:=by
  rw[Lib.decDigits]
  split
  · simp
  · rw[Lib.decDigits]
    split
    · simp
    · rw[Lib.decDigits]
      split
      · simp
      · omega
theorem zZ {x:Int} (h:0≤x): ∀ c∈Lib.itoa x,48≤c.toNat∧c.toNat≤57:=by
  unfold Lib.itoa
  rw[b0 (by omega)]
  exact QP _
theorem N3 {x:Int} (h:0≤x∧x≤255):(Lib.itoa x).length≤3:=by
  unfold Lib.itoa
  rw[b0 (by omega)]
  exact Hp (by omega)
theorem Vu (c:UInt8) (l:aD): ∀ x∈l,x=c∨ ∃ p∈aB c l,x∈p:=by
  induction l with
  | nil=>simp
  | cons a l ih=>
    intro x hx
    rw[aB]
    rcases List.mem_cons.1 hx with rfl | hx
    · split
      · rename_i h; exact .inl h
      · right
        cases hs:aB c l with
        | nil=>exact⟨[x],by simp,by simp⟩
        | cons p ps=>exact⟨x::p,by simp,by simp⟩
    · rcases ih x hx with h | ⟨p,hp,hxp⟩
      · exact .inl h
      · right
        split
        · exact⟨p,rL _ hp,hxp⟩
        · cases hs:aB c l with
          | nil=>rw[hs]at hp; cases hp
          | cons r rs=>
            rw[hs]at hp
            rcases List.mem_cons.1 hp with rfl | hp
            · exact⟨a::p,by simp,rL _ hxp⟩
            · exact⟨p,rL _ hp,hxp⟩
theorem OM {c:UInt8} (h:48≤c.toNat∧c.toNat≤57):lE [45,46] c=true:=by
  rw[DG]
  left; right
  omega
theorem Qo {c:UInt8} (h:lE [45] c=true):lE [45,46] c=true:=by
  rw[DG]at*
  rcases h with h | h
  · exact .inl h
  · right
    simp at h
    simp[h]
theorem OL:lE [45,46] 46=true:=by
  rw[DG]
  right
  simp
theorem O3 {q:aC} (h:kO q=true):(fJ q).length≤15∧ ∀ c∈fJ q,lE [45,46] c=true:=by
  have h4:=wA h
  have g0:=oG h (k:=0) (by omega)
  have g1:=oG h (k:=1) (by omega)
  have g2:=oG h (k:=2) (by omega)
  have g3:=oG h (k:=3) (by omega)
  rw[KW h4]
  refine⟨?_,?_⟩
  · have l0:=N3 g0
    have l1:=N3 g1
    have l2:=N3 g2
    have l3:=N3 g3
    simp only[bH,bP,bK]
    omega
  · intro c hc
    simp only[JG,GV]at hc
    rcases hc with (((((hc | rfl) | hc) | rfl) | hc) | rfl) | hc
    · exact OM (zZ g0.1 c hc)
    · exact OL
    · exact OM (zZ g1.1 c hc)
    · exact OL
    · exact OM (zZ g2.1 c hc)
    · exact OL
    · exact OM (zZ g3.1 c hc)
theorem Qb {l:aD} (h:nX l=true):l.length≤20∧ ∀ c∈l,lE [45,46] c=true:=by
  refine⟨OE h,fun c hc=>?_⟩
  simp only[nX,iF]at h
  rcases Vu 46 l c hc with rfl | ⟨p,hp,hcp⟩
  · exact OL
  · have:=List.all_eq_true.1 h.1.1 p hp
    simp only[pY,iF]at this
    exact Qo (List.all_eq_true.1 this.2 c hcp)
theorem RL {k:Int} {q:aC} {nm:aD} {p:Int} (h:dN k q nm p=true):(jJ k q nm).length≤20∧ ∀ c∈jJ k q nm,lE [45,46] c=true:=by
  unfold jJ
  split
  · rename_i h1
    have:=O3 (zN h h1)
    exact⟨by omega,this.2⟩
  · rename_i h1
    by_cases h3:k=3
    · rw[CI h3]at h
      simp only[iF]at h
      exact Qb h.2.1
    · rw[EH q nm p h1 h3]at h
      cases h
theorem Qp {c:UInt8} (h:lE [45,46] c=true):c≠58:=by
  intro he
  subst he
  revert h
  rw[DG]
  simp
def gZ (k:Int) (q:aC) (nm:aD) (p:Int):aD:=if dN k q nm p then jJ k q nm++[58]++Lib.itoa p else[]
theorem EF (k:Int) (q:aC) (nm:aD) (p:Int):(gZ k q nm p).length≤42:=by
  unfold gZ
  split
  · rename_i h
    have h1:=(RL h).1
    have h2:=fK h
    have h3:=sL p (by omega) (by omega)
    simp only[bH,bP,bK]
    omega
  · simp
def gL (c k:Int) (q:aC) (nm:aD) (p:Int) (u:aD):Bool:=decide (1≤c∧c≤2) && dN k q nm p && lO u && (decide (k=3) || decide (q.take 3≠[0,0,0]))
def r9 (c k:Int) (q:aC) (nm:aD) (p:Int) (u:aD):aC:=[4,c]++bB p++(if k=3 then[0,0,0,1] else q)++aW u++[0]++(if k=3 then aW nm++[0] else[])
def lT (c k:Int) (q:aC) (nm:aD) (p:Int) (u:aD):aC×Bool:=if gL c k q nm p u then(r9 c k q nm p u,true) else([],false)
theorem hE {c k:Int} {q:aC} {nm:aD} {p:Int} {u:aD} (h:gL c k q nm p u=true):(1≤c∧c≤2)∧dN k q nm p=true∧lO u=true∧(k=3∨q.take 3≠[0,0,0]):=by
  simp only[gL,iF,Bool.or_eq_true,kP]at h
  exact⟨h.1.1.1,h.1.1.2,h.1.2,h.2⟩
theorem gP {k:Int} {q:aC} {nm:aD} {p:Int} (h:dN k q nm p=true):(k=1∨k=3)∧q.length≤4∧nm.length≤20∧(k=1→nm=[])∧(k=3→q=[]):=by
  by_cases h1:k=1
  · subst h1
    rw[QA]at h
    simp only[iF,kP]at h
    have:=wA h.2.1
    exact⟨.inl rfl,by omega,by rw[h.2.2]; simp,fun _=>h.2.2,fun h3=>by omega⟩
  · by_cases h3:k=3
    · subst h3
      rw[QB]at h
      simp only[iF,kP]at h
      have:=OE h.2.1
      exact⟨.inr rfl,by rw[h.2.2]; simp,this,fun h1=>by omega,fun _=>h.2.2⟩
    · rw[EH q nm p h1 h3]at h
      cases h
theorem Wt {q:aC} (h4:q.length=4) (hb:bJ q=true):(decide (q.take 3≠[0,0,0]))=decide ((0:Int)<q.getD 0 0+q.getD 1 0+q.getD 2 0):=by
  have g0:=jT hb (k:=0) (by omega)
  have g1:=jT hb (k:=1) (by omega)
  have g2:=jT hb (k:=2) (by omega)
  match q,h4 with
  | [a,b,c,d],_=>
    simp only[uX,uY]at*
    congr 1
    apply propext
    simp
    constructor
    · intro h
      by_cases ha:a=0
      · by_cases hb:b=0
        · have:=h ha hb
          omega
        · omega
      · omega
    · intro h ha hb hc
      omega
theorem HF {k:Int} {q:aC} {nm:aD} {p:Int} (h:dN k q nm p=true) (h3: ¬ k=3):q.length=4∧bJ q=true:=by
  have h1:k=1:=by rcases (gP h).1 with h | h <;> omega
  have:=zN h h1
  simp only[kO,iF,kP]at this
  exact this
def zP (t:aD):aD:=[67,79,78,78,69,67,84,32]++t++[32,72,84,84,80,47,49,46,49,13,10,72,111,115,116,58,32]++t++[13,10,13,10]
def nG (k:Int) (q:aC) (nm:aD) (p:Int):aD:=if dN k q nm p then zP (gZ k q nm p) else[]
theorem QM (k:Int) (q:aC) (nm:aD) (p:Int):(nG k q nm p).length≤120:=by
  unfold nG zP
  have:=EF k q nm p
  split
  · simp only[bH,bP,bK]
    omega
  · simp
theorem UJ {k:Int} {q:aC} {nm:aD} {p:Int}:gZ k q nm p=[]↔dN k q nm p=false:=by
  unfold gZ
  cases h:dN k q nm p <;> simp
def mT (c k:Int) (q:aC) (nm:aD) (p:Int):aC×Bool:=if (0≤c∧c≤8)∧dN k q nm p=true then([5,c,0]++iZ k q nm p,true) else([],false)
theorem Ry (c k:Int) (q:aC) (nm:aD) (p:Int):(mT c k q nm p).1.length≤27:=by
  unfold mT
  split
  · rename_i h
    have:=ED h.2
    simp
    omega
  · simp
theorem Y6 {c k:Int} {q:aC} {nm:aD} {p:Int} {u:aD} (h1:1≤c∧c≤2) (h2:dN k q nm p=true) (h3:lO u=true) (h:k=3):gL c k q nm p u=true:=by
  unfold gL
  rw[h2,h3,decide_eq_true h1,decide_eq_true h]
  rfl
theorem Qs {c k:Int} {q:aC} {nm:aD} {p:Int} {u:aD} (h1:1≤c∧c≤2) (h2:dN k q nm p=true) (h3:lO u=true) (h: ¬ k=3):gL c k q nm p u=decide (q.take 3≠[0,0,0]):=by
  unfold gL
  rw[h2,h3,decide_eq_true h1,decide_eq_false h]
  simp
theorem Qt {c k:Int} {q:aC} {nm:aD} {p:Int} {u:aD} (h1:1≤c∧c≤2) (h2:dN k q nm p=true) (h3:lO u=true) (h: ¬ k=3):gL c k q nm p u=decide ((0:Int)<q.getD 0 0+q.getD 1 0+q.getD 2 0):=by
  have hq:=HF h2 h
  rw[Qs h1 h2 h3 h,Wt hq.1 hq.2]
theorem Y7 {c k:Int} {q:aC} {nm:aD} {p:Int} {u:aD} (h:gL c k q nm p u=true):lT c k q nm p u=(r9 c k q nm p u,true):=cF h
theorem Y5 {c k:Int} {q:aC} {nm:aD} {p:Int} {u:aD} (h:k=3):r9 c k q nm p u=((((([4,c]++bB p)++[0,0,0,1])++aW u)++[0])++aW nm)++[0]:=by simp[r9,h]
theorem Y4 {c k:Int} {q:aC} {nm:aD} {p:Int} {u:aD} (h: ¬ k=3):r9 c k q nm p u=((([4,c]++bB p)++q)++aW u)++[0]:=by simp[r9,h]
def SN (k:Int):aD:=if k≤0 then[109,48] else[109]++Lib.itoa k
def YG (k0:Int) (n:Nat):List (aD×Int×Bool):=(List.range n).map fun i=>(SN (k0+3*((i:Nat):Int)),k0+3*((i:Nat):Int)+1,decide ((k0+3*((i:Nat):Int)+1+1) % 3=0))
@[simp] theorem Zl (k0:Int) (n:Nat):(YG k0 n).length=n:=by simp[YG]
def zS (c:UInt8):Bool:=decide (48≤((c.toNat:Nat):Int)∧((c.toNat:Nat):Int)≤57)
def oW (s:aD):Int:=s.foldl (fun n c=>10*n+(((c.toNat:Nat):Int)-48)) 0
def cZ (s:aD):Int:=if (1≤s.length∧s.length≤5)∧s.all zS=true then oW s else -1
theorem YX (s:aD) (c:UInt8):oW (s++[c])=10*oW s+(((c.toNat:Nat):Int)-48):=by simp[oW]
theorem YY {s:aD} {k:Nat} (h:k<s.length):oW (s.take (k+1))=10*oW (s.take k)+((((s.getD k 0).toNat:Nat):Int)-48):=by
  rw[qD h,YX,gQ,gE h]
  rfl
theorem QR {u:Nat} (h:u<10):Lib.decDigits u=[UInt8.ofNat (48+u)]:=by rw[Lib.decDigits,dif_pos h]
theorem QQ {u:Nat} (h: ¬ u<10):Lib.decDigits u=Lib.decDigits (u / 10)++[UInt8.ofNat (48+u % 10)]:=by rw[Lib.decDigits.eq_def u,dif_neg h]
theorem QT {d:Nat} (h:d<10):(UInt8.ofNat (48+d)).toNat=48+d:=by
  rw[D1]
  omega
theorem SY (u:Nat):oW (Lib.decDigits u)=(u:Int):=by
  induction u using Nat.strongRecOn with
  | _ u ih=>
    by_cases h:u<10
    · rw[QR h]
      have:=QT h
      simp only[oW,CA,List.foldl_nil,this]
      omega
    · rw[QQ h,YX,ih (u / 10) (by omega),QT (Nat.mod_lt _ (by decide))]
      omega
theorem QS (u:Nat):Lib.decDigits u≠[]:=by
  by_cases h:u<10
  · rw[QR h]; simp
  · rw[QQ h]; simp
theorem VF {u:Nat} (h:u<100000):(Lib.decDigits u).length≤5:=by
  rw[Lib.decDigits]
  split
  · simp
  · rw[Lib.decDigits]
    split
    · simp
    · rw[Lib.decDigits]
      split
      · simp
      · rw[Lib.decDigits]
        split
        · simp
        · rw[Lib.decDigits]
          split
          · simp
          · omega
theorem VC: ∀ (l m:aD) (a:Nat),Lib.decFrom a (l++m)=(Lib.decFrom a l).bind (fun b=>Lib.decFrom b m)
  | [],m,a=>rfl
  | c::l,m,a=>by
    rw[List.cons_append,Lib.decFrom,Lib.decFrom]
    cases Lib.digitVal c with
    | none=>rfl
    | some d=>exact VC l m _
theorem VG {d:Nat} (h:d<10):Lib.digitVal (UInt8.ofNat (48+d))=some d:=by
  unfold Lib.digitVal
  rw[QT h,cF (by omega)]
  congr 1
  omega
theorem Hn (u:Nat):Lib.decFrom 0 (Lib.decDigits u)=some u:=by
  induction u using Nat.strongRecOn with
  | _ u ih=>
    by_cases h:u<10
    · rw[QR h,Lib.decFrom,VG h]
      simp[Lib.decFrom]
    · rw[QQ h,VC,ih (u / 10) (by omega)]
      simp only[JE,Lib.decFrom,VG (Nat.mod_lt u (show 0<10 by decide))]
      congr 1
      omega
theorem KM {x:Int} (h:0≤x):Lib.itoa x=Lib.decDigits x.toNat:=by
  unfold Lib.itoa
  rw[b0 (by omega)]
theorem Fv {x:Int} (h:0≤x∧x≤65535):Lib.atoiAll (Lib.itoa x)=.ok x:=by
  rw[KM h.1,Lib.atoiAll_short _ (cB (VF (by omega)) (by decide))]
  have hd:=QP x.toNat
  have hf:=Hn x.toNat
  cases hl:Lib.decDigits x.toNat with
  | nil=>exact absurd hl (QS _)
  | cons c r=>
    rw[hl]at hd hf
    have hc:=hd c (sK ..)
    have h1: ¬ c=45:=fun he=>by subst he; revert hc; decide
    have h2: ¬ c=43:=fun he=>by subst he; revert hc; decide
    simp only[Lib.atoi,beq_iff_eq,b0 h1,b0 h2,Lib.decNat,List.isEmpty_cons,hf,JD,if_false,yU,Lib.NumEnd.ofOption]
    congr 1
    omega
theorem SX {x:Int} (h:0≤x∧x≤65535):cZ (Lib.itoa x)=x:=by
  rw[KM h.1]
  have h1:=VF (show x.toNat<100000 by omega)
  have h2:1≤(Lib.decDigits x.toNat).length:=List.length_pos_iff.2 (QS _)
  unfold cZ
  rw[cF ⟨⟨h2,h1⟩,List.all_eq_true.2 fun c hc=>by have:=QP _ c hc; simp only[zS,kP]; omega⟩,SY]
  omega
def jX (s:aD):Int×Bool:=match Lib.atoiAll s with
  | .ok v=>(v,decide (Lib.itoa v=s))
  | Lib.NumEnd.syntax=>(0,false)
  | .range=>(Lib.atoiSat s,false)
theorem VD {x:Int} (h:0≤x∧x≤65535):jX (Lib.itoa x)=(x,true):=by simp[jX,Fv h]
theorem VE {s:aD} (h:(jX s).2=true):Lib.itoa (jX s).1=s:=by
  unfold jX at*
  split <;> rename_i h1 <;> rw[h1]at h
  · simpa using h
  · cases h
  · cases h
def k8 (s:aD):aC:=(aB 46 s).map cZ
def iC (s:aD):aC×Bool:=if kO (k8 s)=true∧fJ (k8 s)=s then(k8 s,true) else([],false)
theorem OJ {x:Int} (h:0≤x): ∀ c∈Lib.itoa x,c≠46:=by
  intro c hc he
  have:=zZ h c hc
  subst he
  revert this
  decide
theorem PN {q:aC} (h:kO q=true):aB 46 (fJ q)=q.map Lib.itoa:=by
  have h4:=wA h
  have g0:=oG h (k:=0) (by omega)
  have g1:=oG h (k:=1) (by omega)
  have g2:=oG h (k:=2) (by omega)
  have g3:=oG h (k:=3) (by omega)
  rw[KW h4]
  match q,h4 with
  | [a,b,c,d],_=>
    simp only[uX,uY]at*
    have e:Lib.itoa a++[46]++Lib.itoa b++[46]++Lib.itoa c++[46]++Lib.itoa d=Lib.itoa a++46::(Lib.itoa b++46::(Lib.itoa c++46::Lib.itoa d)):=by simp
    rw[e,yH (OJ g0.1),yH (OJ g1.1),yH (OJ g2.1),IZ (OJ g3.1)]
    rfl
theorem Rj {q:aC} (h:kO q=true):k8 (fJ q)=q:=by
  unfold k8
  rw[PN h,List.map_map]
  conv=>rhs; rw[← List.map_id q]
  refine List.map_congr_left fun x hx=>?_
  obtain ⟨k,hk,rfl⟩:=xF hx
  have:=oG h hk
  rw[gQ,gE hk]at this
  exact SX (by simp at this; omega)
theorem ZV {q:aC} (h:kO q=true):iC (fJ q)=(q,true):=by
  unfold iC
  rw[Rj h,cF ⟨h,rfl⟩]
theorem O2 {s:aD} (h:(iC s).2=true):kO (iC s).1=true∧fJ (iC s).1=s:=by
  unfold iC at*
  split at h
  · rename_i hh
    rw[cF hh]
    exact hh
  · cases h
theorem ZU {s:aD} (h:(iC s).2=false):iC s=([],false):=by
  unfold iC at*
  split at h
  · cases h
  · rename_i hh
    rw[b0 hh]
theorem Rk {s:aD} {q:aC} (h:kO q=true) (hs:fJ q=s):iC s=(q,true):=by
  subst hs
  exact ZV h
theorem Mz (x y:aD) (r:List aD) (c:UInt8):Lib.join (x::y::r) [c]=x++c::Lib.join (y::r) [c]:=by
  rw[Lib.join_cons,Lib.join_cons]
  simp[Lib.joinTail]
theorem Na (c:UInt8) (s:aD):Lib.join (aB c s) [c]=s:=by
  induction s with
  | nil=>rfl
  | cons a l ih=>
    rw[aB]
    have hp:=DP c l
    cases hs:aB c l with
    | nil=>rw[hs]at hp; simp at hp
    | cons p ps=>
      rw[hs]at ih
      split
      · rename_i h
        rw[Mz,ih,h]
        rfl
      · simp only
        rw[Lib.join_cons]at*
        rw[List.cons_append,ih]
theorem Rn {s:aD} {q:aC} (h:aB 46 s=q.map Lib.itoa) (hq:kO q=true):iC s=(q,true):=by
  refine Rk hq ?_
  unfold fJ
  rw[← h]
  exact Na 46 s
def addrOf (host:aD) (port:Int):Int×aC×aD×Int:=if (iC host).2 then(1,(iC host).1,[],port) else(3,[],host,port)
def aG (s:aD):(Int×aC×aD×Int)×Bool:=
  let w:=aB 58 s
  let a:=addrOf (w.getD 0 []) (cZ (w.getD 1 []))
  if w.length=2∧dN a.1 a.2.1 a.2.2.1 a.2.2.2=true∧gZ a.1 a.2.1 a.2.2.1 a.2.2.2=s then(a,true) else((0,[],[],0),false)
theorem YT {k:Int} {q:aC} {nm:aD} {p:Int} (h:dN k q nm p=true): ∀ c∈jJ k q nm,c≠58:=fun c hc=>Qp ((RL h).2 c hc)
theorem Qg {x:Int} (h:0≤x): ∀ c∈Lib.itoa x,c≠58:=by
  intro c hc he
  have:=zZ h c hc
  subst he
  revert this
  decide
theorem Vw {k:Int} {q:aC} {nm:aD} {p:Int} (h:dN k q nm p=true):aB 58 (gZ k q nm p)=[jJ k q nm,Lib.itoa p]:=by
  have hf:=fK h
  have e:gZ k q nm p=jJ k q nm++58::Lib.itoa p:=by simp[gZ,h]
  rw[e,yH (YT h),IZ (Qg hf.1)]
theorem Qa {nm:aD} (h:nX nm=true):(iC nm).2=false:=by
  rcases oL (iC nm).2 with hq | hq
  · exfalso
    obtain ⟨h1,h2⟩:=O2 hq
    have h3:=PN h1
    rw[h2]at h3
    have h4:=wA h1
    have g3:=oG h1 (k:=3) (by omega)
    simp only[nX,iF,kP]at h
    have h5:=h.2
    unfold z6 at h5
    rw[h3,yV,h4]at h5
    have e:((iC nm).1.map Lib.itoa).getD 3 []=Lib.itoa ((iC nm).1.getD 3 0):=by
      simp only[gQ,vQ,gE (show 3<(iC nm).1.length by omega),yU,B9]
    rw[show 4-1=3 from rfl,e]at h5
    have hd:=zZ g3.1
    cases hl:Lib.itoa ((iC nm).1.getD 3 0) with
    | nil=>
      rw[KM g3.1]at hl
      exact QS _ hl
    | cons c r=>
      rw[hl]at hd h5
      have:=hd c (sK ..)
      simp at h5
      omega
  · exact hq
theorem QF {k:Int} {q:aC} {nm:aD} {p:Int} (h:dN k q nm p=true):addrOf (jJ k q nm) p=(k,q,nm,p):=by
  have hf:=gP h
  unfold addrOf
  rcases hf.1 with h1 | h3
  · have hq:=zN h h1
    have e:jJ k q nm=fJ q:=by simp[jJ,h1]
    rw[e,ZV hq,hf.2.2.2.1 h1,h1]
    rfl
  · have hn:nX nm=true:=by
      rw[CI h3]at h
      simp only[iF]at h
      exact h.2.1
    have e:jJ k q nm=nm:=by simp[jJ,h3]
    rw[e,Qa hn,hf.2.2.2.2 h3,h3]
    rfl
theorem QE {k:Int} {q:aC} {nm:aD} {p:Int} (h:dN k q nm p=true):aG (gZ k q nm p)=((k,q,nm,p),true):=by
  have hf:=fK h
  unfold aG
  simp only[Vw h,uX,uY,bP,bK]
  rw[SX ⟨hf.1,hf.2.1⟩,QF h,cF ⟨by trivial,h,rfl⟩]
theorem Ev {s:aD} {k:Int} {q:aC} {nm:aD} {p:Int} (h:dN k q nm p=true) (hs:gZ k q nm p=s):aG s=((k,q,nm,p),true):=by
  subst hs
  exact QE h
theorem MC {s:aD} (h:(aG s).2=true):dN (aG s).1.1 (aG s).1.2.1 (aG s).1.2.2.1 (aG s).1.2.2.2=true∧gZ (aG s).1.1 (aG s).1.2.1 (aG s).1.2.2.1 (aG s).1.2.2.2=s:=by
  unfold aG at*
  simp only at*
  split at h
  · rename_i hh
    rw[cF hh]
    exact hh.2
  · cases h
theorem JN {s:aD} (h:(aG s).2=false):aG s=((0,[],[],0),false):=by
  unfold aG at*
  simp only at*
  split at h
  · cases h
  · rename_i hh
    rw[b0 hh]
theorem Fb {s host port:aD} {n:Int} (hs:s=host++58::port) (hp:Lib.itoa n=port) (h:dN (addrOf host n).1 (addrOf host n).2.1 (addrOf host n).2.2.1 (addrOf host n).2.2.2=true):aG s=(addrOf host n,true):=by
  have hh:jJ (addrOf host n).1 (addrOf host n).2.1 (addrOf host n).2.2.1=host:=by
    unfold addrOf
    split
    · rename_i hq
      simp[jJ,(O2 hq).2]
    · simp[jJ]
  have hn:(addrOf host n).2.2.2=n:=by unfold addrOf; split <;> rfl
  have e:gZ (addrOf host n).1 (addrOf host n).2.1 (addrOf host n).2.2.1 (addrOf host n).2.2.2=jJ (addrOf host n).1 (addrOf host n).2.1 (addrOf host n).2.2.1++[58]++Lib.itoa (addrOf host n).2.2.2:=by simp[gZ,h]
  refine Ev h (e.trans ?_)
  rw[hh,hn,hp,hs]
  simp
def I4 (bs:aC) (s:Nat×Bool) (n:Nat):Bool:=s.2 || decide (bs.length<s.1+n)
def aF (bs:aC) (s:Nat×Bool) (n:Nat):aC:=if I4 bs s n then List.replicate n 0 else(bs.drop s.1).take n
def eT (bs:aC) (s:Nat×Bool) (n:Nat):Nat×Bool:=if I4 bs s n then(s.1,true) else(s.1+n,false)
theorem Dd {bs:aC} {s:Nat×Bool} {n:Nat} (h:s.2=false) (h2:s.1+n≤bs.length):I4 bs s n=false:=by
  unfold I4
  rw[h,decide_eq_false (by omega)]
  rfl
theorem Dc {bs:aC} {s:Nat×Bool} {n:Nat} (h:s.2=true∨bs.length<s.1+n):I4 bs s n=true:=by
  unfold I4
  rcases h with h | h <;> simp[h]
theorem rI {bs:aC} {s:Nat×Bool} {n:Nat} (h:s.2=false) (h2:s.1+n≤bs.length):aF bs s n=(bs.drop s.1).take n:=by simp[aF,Dd h h2]
theorem nM {bs:aC} {s:Nat×Bool} {n:Nat} (h:s.2=false) (h2:s.1+n≤bs.length):eT bs s n=(s.1+n,false):=by simp[eT,Dd h h2]
theorem AH {bs:aC} {s:Nat×Bool} {n:Nat} (h:s.2=true∨bs.length<s.1+n):aF bs s n=List.replicate n 0:=by simp[aF,Dc h]
theorem I5 {bs:aC} {s:Nat×Bool} {n:Nat} (h:s.2=true∨bs.length<s.1+n):eT bs s n=(s.1,true):=by simp[eT,Dc h]
theorem n5 {bs:aC} {s:Nat×Bool} {n:Nat} (h:(eT bs s n).2=false):s.2=false∧s.1+n≤bs.length∧eT bs s n=(s.1+n,false)∧aF bs s n=(bs.drop s.1).take n:=by
  rcases oL s.2 with h1 | h1
  · rw[I5 (.inl h1)]at h
    cases h
  · rcases qR bs.length (s.1+n) with h2 | h2
    · rw[I5 (.inr h2)]at h
      cases h
    · exact⟨h1,h2,nM h1 h2,rI h1 h2⟩
@[simp] theorem Xp (bs:aC) (s:Nat×Bool) (n:Nat):(aF bs s n).length=n:=by
  rcases oL s.2 with h1 | h1
  · rw[AH (.inl h1)]; simp
  · rcases qR bs.length (s.1+n) with h2 | h2
    · rw[AH (.inr h2)]; simp
    · rw[rI h1 h2]; simp; omega
theorem TU {bs:aC} {s:Nat×Bool} {n:Nat} (hv:s.2=false→bJ bs=true): ∀ x∈aF bs s n,0≤x∧x≤255:=by
  rcases oL s.2 with h1 | h1
  · rw[AH (.inl h1)]
    intro x hx
    have:=List.eq_of_mem_replicate hx
    omega
  · rcases qR bs.length (s.1+n) with h2 | h2
    · rw[AH (.inr h2)]
      intro x hx
      have:=List.eq_of_mem_replicate hx
      omega
    · rw[rI h1 h2]
      intro x hx
      exact(sZ.1 (hv h1)).1 x (uW (vP hx))
theorem CU {l:aC} (h: ∀ x∈l,0≤x∧x≤255) (k:Nat):0≤l.getD k 0∧l.getD k 0≤255:=by
  rw[gQ]
  by_cases hk:k<l.length
  · rw[gE hk]
    exact h _ (rM hk)
  · rw[B8 (by omega)]
    simp
def cH (bs:aC) (s:Nat×Bool):Int:=(aF bs s 1).getD 0 0
theorem HH {bs:aC} {s:Nat×Bool} (hv:s.2=false→bJ bs=true):0≤cH bs s∧cH bs s≤255:=CU (TU hv) 0
theorem vC {bs:aC} {s:Nat×Bool} (h:s.2=false) (h2:s.1+1≤bs.length):cH bs s=bs.getD s.1 0:=by
  unfold cH
  rw[rI h h2]
  simp only[gQ,D2,D3]
  simp
def aL (l:aC):Int:=l.foldl (fun n x=>256*n+x) 0
theorem YZ {l:aC} {k:Nat} (h:k<l.length):aL (l.take (k+1))=256*aL (l.take k)+l.getD k 0:=by
  rw[qD h,gQ,gE h]
  unfold aL
  rw[List.foldl_append]
  rfl
theorem OK {l:aC} (h: ∀ x∈l,0≤x∧x≤255) (k:Nat):l.length≤2→0≤aL (l.take k)∧aL (l.take k)≤65535∧(k≤1→aL (l.take k)≤255):=by
  intro hl
  match l,hl with
  | [],_=>simp[aL]
  | [a],_=>
    have ha:=h a (by simp)
    match k with
    | 0=>simp[aL]
    | k+1=>simp[aL]; omega
  | [a,b],_=>
    have ha:=h a (by simp)
    have hb:=h b (by simp)
    match k with
    | 0=>simp[aL]
    | 1=>simp[aL]; omega
    | k+2=>simp[aL]; omega
def lC (bs:aC) (s:Nat×Bool) (l:aC):Nat×Bool:=if aF bs s l.length=l then eT bs s l.length else((eT bs s l.length).1,true)
theorem M3 {bs:aC} {s:Nat×Bool} {l:aC} (h:(lC bs s l).2=false):s.2=false∧s.1+l.length≤bs.length∧(bs.drop s.1).take l.length=l∧lC bs s l=(s.1+l.length,false):=by
  unfold lC at*
  split at h
  · rename_i hl
    obtain ⟨h1,h2,h3,h4⟩:=n5 h
    rw[h4]at hl
    exact⟨h1,h2,hl,by rw[cF (by rw[h4]; exact hl),h3]⟩
  · cases h
theorem VT {bs:aC} {s:Nat×Bool} {l:aC} (h:s.2=false) (h2:s.1+l.length≤bs.length) (h3:(bs.drop s.1).take l.length=l):lC bs s l=(s.1+l.length,false):=by
  unfold lC
  rw[rI h h2,cF h3,nM h h2]
def bT (l:aC):aD:=l.map fun x=>UInt8.ofNat x.toNat
@[simp] theorem oQ (l:aC):(bT l).length=l.length:=by simp[bT]
theorem US {l:aC} {k:Nat} (h:k<l.length):(bT l).getD k 0=UInt8.ofNat (l.getD k 0).toNat:=by
  simp only[bT,gQ,vQ,gE h,yU,B9]
theorem Fz {l:aC} {k:Nat} (h:k<l.length):((bT l).take k++List.replicate (l.length-k) (0:UInt8)).set k (UInt8.ofNat (l.getD k 0).toNat)=(bT l).take (k+1)++List.replicate (l.length-(k+1)) 0:=by
  have:=MU (xs:=bT l) (k:=k) (d:=(0:UInt8)) (by rw[oQ]; exact h)
  rwa [US h,oQ]at this
theorem Fy {l:aC} {k:Nat} (h:k<l.length):(bT l).take k++[UInt8.ofNat (l.getD k 0).toNat]=(bT l).take (k+1):=by
  rw[← US h,qD (by rw[oQ]; exact h),gQ,gE (by rw[oQ]; exact h)]
  rfl
theorem UR {l:aC} {k:Nat} (h:l.length≤k):(bT l).take k=bT l:=lI (by rw[oQ]; exact h)
def jM (bs:aC) (s:Nat×Bool):aD:=bT (aF bs (eT bs s 1) (cH bs s).toNat)
def vJ (bs:aC) (s:Nat×Bool):Nat×Bool:=eT bs (eT bs s 1) (cH bs s).toNat
def eU (bs:aC) (s:Nat×Bool):(Int×aC×aD×Int)×Nat×Bool:=
  let s1:=eT bs s 1
  let s2:=if cH bs s=1 then eT bs s1 4 else if cH bs s=3 then vJ bs s1 else s1
  let q:=if cH bs s=1 then aF bs s1 4 else[]
  let nm:=if cH bs s=3 then jM bs s1 else[]
  let p:=aL (aF bs s2 2)
  ((cH bs s,q,nm,p),if dN (cH bs s) q nm p=true then eT bs s2 2 else((eT bs s2 2).1,true))
theorem VI {b:aC} {k:Nat} (h:k<b.length) (x:Int):(b.drop k).take 1=[x]↔b.getD k 0=x:=by
  rw[rK h,List.take_succ_cons,List.take_zero,gQ,gE h]
  exact⟨fun hx=>(List.cons.inj hx).1,fun hx=>by rw[← hx]; rfl⟩
theorem J2 {b:aC} {s:Nat×Bool} {x:Int} (h:(lC b s [x]).2=false):s.2=false∧s.1+1≤b.length∧b.getD s.1 0=x∧lC b s [x]=(s.1+1,false):=by
  obtain ⟨h1,h2,h3,h4⟩:=M3 h
  exact⟨h1,h2,(VI (by simp only[bP,bK]at h2; omega) x).1 h3,h4⟩
theorem J3 {b:aC} {s:Nat×Bool} {x:Int} (h:s.2=false) (h2:s.1+1≤b.length) (h3:b.getD s.1 0=x):lC b s [x]=(s.1+1,false):=VT h h2 ((VI (by omega) x).2 h3)
theorem not_iff {b:Bool}:(!b)=false↔b=true:=by cases b <;> simp
def eM (b:aC):aC×Int×Bool:=
  if bJ b=true∧3≤b.length∧b.getD 0 0=5∧b.getD 1 0≤(b.length:Int)-2∧j9 ((b.drop 2).take (b.getD 1 0).toNat)=true then
    ((b.drop 2).take (b.getD 1 0).toNat,2+b.getD 1 0,true) else([],0,false)
def WJ (b:aC):aC×Int×Bool:=
  let s1:=lC b (0,!bJ b) [5]
  let s2:=eT b s1 1
  let ms:=aF b s2 (cH b s1).toNat
  let s3:=eT b s2 (cH b s1).toNat
  if s3.2=false∧j9 ms=true then(ms,(s3.1:Int),true) else([],0,false)
theorem Kj (b:aC):WJ b=eM b:=by
  unfold WJ eM
  simp only
  by_cases hc:bJ b=true∧3≤b.length∧b.getD 0 0=5∧b.getD 1 0≤(b.length:Int)-2∧j9 ((b.drop 2).take (b.getD 1 0).toNat)=true
  · obtain ⟨h1,h2,h3,h4,h5⟩:=hc
    have hb:=jT h1 (k:=1) (by omega)
    have e1:lC b (0,!bJ b) [5]=(1,false):=J3 (by simp[h1]) (by simp; omega) h3
    have e2:cH b (1,false)=b.getD 1 0:=vC rfl (by simp; omega)
    have e3:eT b (1,false) 1=(2,false):=nM rfl (by simp; omega)
    have e4:aF b (2,false) (b.getD 1 0).toNat=(b.drop 2).take (b.getD 1 0).toNat:=rI rfl (by show 2+(b.getD 1 0).toNat≤b.length; omega)
    have e5:eT b (2,false) (b.getD 1 0).toNat=(2+(b.getD 1 0).toNat,false):=nM rfl (by show 2+(b.getD 1 0).toNat≤b.length; omega)
    rw[e1,e2,e3,e4,e5,cF ⟨rfl,h5⟩,cF ⟨h1,h2,h3,h4,h5⟩]
    simp only[Prod.mk.injEq,true_and,xJ]
    omega
  · rw[b0 hc,b0]
    rintro ⟨h1,h2⟩
    obtain ⟨g1,g2,g3,g4⟩:=n5 h1
    obtain ⟨k1,k2,k3,k4⟩:=n5 g1
    obtain ⟨m1,m2,m3,m4⟩:=J2 k1
    have hb:bJ b=true:=not_iff.1 m1
    rw[m4]at k2 k3
    rw[m4,vC rfl k2,k3]at g2 g4
    rw[m4,vC rfl k2,k3,g4]at h2
    simp only[pT]at g2 k2 h2 m3 ⊢
    have zV:=jT hb (k:=1) (by omega)
    have hm:=(BT h2).1
    rw[dV]at hm
    exact hc ⟨hb,by omega,m3,by omega,h2⟩
theorem Ki {b:aC} (h:(eM b).2.2=true):bJ b=true∧3≤b.length∧b.getD 0 0=5∧b.getD 1 0≤(b.length:Int)-2∧j9 (eM b).1=true∧eM b=((b.drop 2).take (b.getD 1 0).toNat,2+b.getD 1 0,true)∧(eM b).2.1≤b.length:=by
  unfold eM at*
  split at h
  · rename_i hc
    rw[cF hc]
    exact⟨hc.1,hc.2.1,hc.2.2.1,hc.2.2.2.1,hc.2.2.2.2,rfl,by simp only; omega⟩
  · cases h
def fA (b:aC):(aD×aD)×Int×Bool:=
  let at_:=2+(b.getD 1 0).toNat
  let en:=at_+1+(b.getD at_ 0).toNat
  let u:=bT ((b.take at_).drop 2)
  let w:=bT ((b.take en).drop (at_+1))
  if bJ b=true∧5≤b.length∧b.getD 0 0=1∧b.getD 1 0≤(b.length:Int)-3∧b.getD at_ 0≤(b.length:Int)-at_-1∧iW u w=true then((u,w),(en:Int),true) else(([],[]),0,false)
def X7 (b:aC):(aD×aD)×Int×Bool:=
  let s1:=lC b (0,!bJ b) [1]
  let u:=jM b s1
  let s2:=vJ b s1
  let w:=jM b s2
  let s3:=vJ b s2
  if s3.2=false∧iW u w=true then((u,w),(s3.1:Int),true) else(([],[]),0,false)
theorem TY {b:aC} {s:Nat×Bool} (h:(vJ b s).2=false):s.2=false∧s.1+1+(b.getD s.1 0).toNat≤b.length∧vJ b s=(s.1+1+(b.getD s.1 0).toNat,false)∧jM b s=bT ((b.drop (s.1+1)).take (b.getD s.1 0).toNat):=by
  unfold vJ jM at*
  obtain ⟨g1,g2,g3,g4⟩:=n5 h
  obtain ⟨k1,k2,k3,k4⟩:=n5 g1
  rw[k3,vC k1 k2]at g2 g3 g4
  rw[k3,vC k1 k2]
  exact⟨k1,g2,g3,by rw[g4]⟩
theorem TZ {b:aC} {s:Nat×Bool} (h:s.2=false) (h2:s.1+1+(b.getD s.1 0).toNat≤b.length):vJ b s=(s.1+1+(b.getD s.1 0).toNat,false)∧jM b s=bT ((b.drop (s.1+1)).take (b.getD s.1 0).toNat):=by
  unfold vJ jM
  have k2:s.1+1≤b.length:=by omega
  rw[nM h k2,vC h k2,nM rfl h2,rI rfl h2]
  exact⟨rfl,rfl⟩
theorem DR (b:aC) (i j:Nat):(b.take (i+j)).drop i=(b.drop i).take j:=by
  rw[uZ]
  congr 1
  omega
theorem Ph {u w:aD} (h:iW u w=true):1≤u.length∧1≤w.length:=by
  simp only[iW,iF,kP]at h
  exact⟨List.length_pos_iff.2 h.1.1.1,List.length_pos_iff.2 h.1.1.2⟩
theorem Pj (b:aC):X7 b=fA b:=by
  unfold X7 fA
  simp only[DR]
  by_cases hc:bJ b=true∧5≤b.length∧b.getD 0 0=1∧b.getD 1 0≤(b.length:Int)-3∧b.getD (2+(b.getD 1 0).toNat) 0≤(b.length:Int)-((2+(b.getD 1 0).toNat:Nat):Int)-1∧iW (bT ((b.drop 2).take (b.getD 1 0).toNat)) (bT ((b.drop (2+(b.getD 1 0).toNat+1)).take (b.getD (2+(b.getD 1 0).toNat) 0).toNat))=true
  · obtain ⟨h1,h2,h3,h4,h5,h6⟩:=hc
    have hb:=jT h1 (k:=1) (by omega)
    have pN:=jT h1 (k:=2+(b.getD 1 0).toNat) (by omega)
    have e1:lC b (0,!bJ b) [1]=(1,false):=J3 (by simp[h1]) (by simp; omega) h3
    obtain ⟨e2,e3⟩:=TZ (b:=b) (s:=(1,false)) rfl (by simp only; omega)
    have a1:(1:Nat)+1+(b.getD 1 0).toNat=2+(b.getD 1 0).toNat:=by omega
    simp only[a1]at e2 e3
    obtain ⟨e4,e5⟩:=TZ (b:=b) (s:=(2+(b.getD 1 0).toNat,false)) rfl (by simp only; omega)
    rw[e1,e2,e3,e4,e5,cF ⟨rfl,h6⟩,cF ⟨h1,h2,h3,h4,h5,h6⟩]
  · rw[b0 hc,b0]
    rintro ⟨h1,h2⟩
    obtain ⟨g1,g2,g3,g4⟩:=TY h1
    obtain ⟨k1,k2,k3,k4⟩:=TY g1
    obtain ⟨m1,m2,m3,m4⟩:=J2 k1
    have hb:bJ b=true:=not_iff.1 m1
    rw[m4]at k2 k3 k4
    simp only[pT]at k2 k3 k4 m3
    rw[m4]at g2 g4 h2
    simp only[pT]at g2 g4 h2
    rw[k3]at g2 g4
    rw[k4,k3,g4]at h2
    have a1:(1:Nat)+1+(b.getD 1 0).toNat=2+(b.getD 1 0).toNat:=by omega
    simp only[a1]at g2 h2 k2
    have zV:=jT hb (k:=1) (by omega)
    have pN:=jT hb (k:=2+(b.getD 1 0).toNat) (by omega)
    have hl:=Ph h2
    rw[oQ,oQ,dV,dV]at hl
    exact hc ⟨hb,by omega,m3,by omega,by omega,h2⟩
theorem KP {b:aC} (h:(fA b).2.2=true):bJ b=true∧iW (fA b).1.1 (fA b).1.2=true∧0≤(fA b).2.1∧(fA b).2.1≤b.length:=by
  unfold fA at*
  simp only at*
  split at h
  · rename_i hc
    rw[cF hc]
    exact⟨hc.1,hc.2.2.2.2.2,by simp only; omega,by have:=jT hc.1 (k:=2+(b.getD 1 0).toNat); simp only; omega⟩
  · cases h
def dF (b:aC):Int:=if 0<b.length∧b.getD 0 0=1 then 7 else if 1<b.length∧b.getD 0 0=3 then 4+b.getD 1 0 else -1
def CH (b:aC) (n:Nat):Int×aC×aD×Int:=(b.getD 0 0,if b.getD 0 0=1 then(b.drop 1).take 4 else[],if b.getD 0 0=1 then[] else bT ((b.drop 2).take (n-4)),aL ((b.drop (n-2)).take 2))
def oO (a:Int×aC×aD×Int):Bool:=dN a.1 a.2.1 a.2.2.1 a.2.2.2
def fO (b:aC):(Int×aC×aD×Int)×Int×Bool:=
  if bJ b=true∧0≤dF b∧dF b≤b.length∧oO (CH b (dF b).toNat)=true then(CH b (dF b).toNat,dF b,true) else((0,[],[],0),0,false)
theorem J7 {b:aC} (k j:Nat):(b.drop k).getD j 0=b.getD (k+j) 0:=by
  simp only[gQ,D3]
theorem Ep {b:aC} {k:Nat} (hb:bJ b=true) (h:(fO (b.drop k)).2.2=true):eU b (k,false)=((fO (b.drop k)).1,(k+(fO (b.drop k)).2.1.toNat,false))∧k+(fO (b.drop k)).2.1.toNat≤b.length:=by
  unfold fO at*
  split at h
  · rename_i hc
    rw[cF hc]
    obtain ⟨h1,h2,h3,h4⟩:=hc
    simp only[fC,oO,CH]at h3 h4 ⊢
    unfold dF at*
    simp only[fC,J7,Nat.add_zero,yW]at*
    have hlen:k<b.length:=by
      rcases qR k b.length with h' | h'
      · exact h'
      · rw[b0 (by omega),b0 (by omega)]at h2
        omega
    have e1:cH b (k,false)=b.getD k 0:=vC rfl (by simp; omega)
    have e2:eT b (k,false) 1=(k+1,false):=nM rfl (by simp; omega)
    unfold eU
    simp only[e1,e2]
    by_cases c1:b.getD k 0=1
    · have cc:0<b.length-k∧b.getD k 0=1:=⟨by omega,c1⟩
      simp only[cF cc,cF c1]at h2 h3 h4 ⊢
      have c3: ¬ b.getD k 0=3:=by omega
      have e3:aF b (k+1,false) 4=(b.drop (k+1)).take 4:=rI rfl (by simp only; omega)
      have e4:eT b (k+1,false) 4=(k+5,false):=nM rfl (by simp only; omega)
      have e5:aF b (k+5,false) 2=(b.drop (k+5)).take 2:=rI rfl (by simp only; omega)
      have e6:eT b (k+5,false) 2=(k+7,false):=nM rfl (by simp only; omega)
      have a7:(7:Int).toNat=7:=rfl
      simp only[b0 c3,e3,e4,e5,e6,a7]at h4 ⊢
      rw[cF h4]
      exact⟨rfl,by omega⟩
    · have cc: ¬ (0<b.length-k∧b.getD k 0=1):=fun h=>c1 h.2
      simp only[b0 cc,b0 c1]at h2 h3 h4 ⊢
      by_cases c3:1<b.length-k∧b.getD k 0=3
      · simp only[cF c3,cF c3.2]at h2 h3 h4 ⊢
        have zV:=jT hb (k:=k+1) (by omega)
        obtain ⟨e3,e4⟩:=TZ (b:=b) (s:=(k+1,false)) rfl (by simp only; omega)
        simp only at e3 e4
        have e5:aF b (k+1+1+(b.getD (k+1) 0).toNat,false) 2=(b.drop (k+1+1+(b.getD (k+1) 0).toNat)).take 2:=rI rfl (by simp only; omega)
        have e6:eT b (k+1+1+(b.getD (k+1) 0).toNat,false) 2=(k+1+1+(b.getD (k+1) 0).toNat+2,false):=nM rfl (by simp only; omega)
        have a1:(4+b.getD (k+1) 0).toNat-4=(b.getD (k+1) 0).toNat:=by omega
        have a2:k+((4+b.getD (k+1) 0).toNat-2)=k+1+1+(b.getD (k+1) 0).toNat:=by omega
        simp only[e3,e4,e5,e6,a1,a2]at h4 ⊢
        have a3:k+2=k+1+1:=rfl
        simp only[a3]at h4 ⊢
        rw[cF h4]
        refine⟨?_,by omega⟩
        simp only[Prod.mk.injEq,true_and,xJ]
        omega
      · simp only[b0 c3]at h2
        omega
  · cases h
theorem Eo {b:aC} {s:Nat×Bool} (hb:bJ b=true) (h:(eU b s).2.2=false):s.2=false∧(fO (b.drop s.1)).2.2=true:=by
  unfold eU at h
  by_cases c1:cH b s=1
  · have c3: ¬ cH b s=3:=by omega
    simp only[cF c1,b0 c3]at h
    split at h
    · rename_i hok
      obtain ⟨g1,g2,g3,g4⟩:=n5 h
      obtain ⟨k1,k2,k3,k4⟩:=n5 g1
      obtain ⟨m1,m2,m3,m4⟩:=n5 k1
      rw[m3]at k2 k3 k4
      rw[m3,k3]at g2 g4
      rw[m3,k4,k3,g4]at hok
      rw[vC m1 m2]at c1 hok
      refine⟨m1,?_⟩
      simp only at k2 g2 hok
      unfold fO
      have cc:0<(b.drop s.1).length∧(b.drop s.1).getD 0 0=1:=⟨by rw[fC]; omega,by rw[J7]; exact c1⟩
      have hz:dF (b.drop s.1)=7:=by unfold dF; rw[cF cc]
      have hall:bJ (b.drop s.1)=true∧0≤dF (b.drop s.1)∧dF (b.drop s.1)≤(b.drop s.1).length∧oO (CH (b.drop s.1) (dF (b.drop s.1)).toNat)=true:=by
        refine⟨N1 hb (LS _ _),by omega,by rw[hz,fC]; omega,?_⟩
        rw[hz]
        have a7:(7:Int).toNat=7:=rfl
        simp only[oO,CH,a7,cc.2,if_true,yW]
        rw[c1]at hok
        exact hok
      rw[cF hall]
    · cases h
  · by_cases c3:cH b s=3
    · simp only[b0 c1,cF c3]at h
      split at h
      · rename_i hok
        obtain ⟨g1,g2,g3,g4⟩:=n5 h
        obtain ⟨k1,k2,k3,k4⟩:=TY g1
        obtain ⟨m1,m2,m3,m4⟩:=n5 k1
        rw[m3]at k2 k3 k4
        rw[m3,k3]at g2 g4
        rw[m3,k4,k3,g4]at hok
        rw[vC m1 m2]at c3 c1 hok
        refine⟨m1,?_⟩
        simp only at k2 g2 hok
        have zV:=jT hb (k:=s.1+1) (by omega)
        unfold fO
        have Gg: ¬ (0<(b.drop s.1).length∧(b.drop s.1).getD 0 0=1):=by rw[J7]; simp only[Nat.add_zero]; omega
        have cc:1<(b.drop s.1).length∧(b.drop s.1).getD 0 0=3:=⟨by rw[fC]; omega,by rw[J7]; exact c3⟩
        have hz:dF (b.drop s.1)=4+b.getD (s.1+1) 0:=by unfold dF; rw[b0 Gg,cF cc,J7]
        have hall:bJ (b.drop s.1)=true∧0≤dF (b.drop s.1)∧dF (b.drop s.1)≤(b.drop s.1).length∧oO (CH (b.drop s.1) (dF (b.drop s.1)).toNat)=true:=by
          refine⟨N1 hb (LS _ _),by omega,by rw[hz,fC]; omega,?_⟩
          rw[hz]
          have a1:(4+b.getD (s.1+1) 0).toNat-4=(b.getD (s.1+1) 0).toNat:=by omega
          have a2:s.1+((4+b.getD (s.1+1) 0).toNat-2)=s.1+1+1+(b.getD (s.1+1) 0).toNat:=by omega
          have a4: ¬ (3:Int)=1:=by decide
          simp only[oO,CH,a1,cc.2,b0 a4,yW,a2]
          rw[c3]at hok
          exact hok
        rw[cF hall]
      · cases h
    · simp only[b0 c1,b0 c3]at h
      rw[EH _ _ _ c1 c3]at h
      cases h
theorem QD {b:aC} (h:(fO b).2.2=true):oO (fO b).1=true∧0≤(fO b).2.1∧(fO b).2.1≤b.length:=by
  unfold fO at*
  split at h
  · rename_i hc
    rw[cF hc]
    exact⟨hc.2.2.2,hc.2.1,hc.2.2.1⟩
  · cases h
theorem B1 {b:aC} {s:Nat×Bool} (n:Nat) (h:s.2=true):(eT b s n).2=true:=by rw[I5 (.inl h)]
theorem VS {b:aC} {s:Nat×Bool} (l:aC) (h:s.2=true):(lC b s l).2=true:=by
  unfold lC
  split
  · exact B1 _ h
  · rfl
theorem Yh {b:aC} {s:Nat×Bool} (h:s.2=true):(vJ b s).2=true:=B1 _ (B1 _ h)
theorem Em (b:aC) {s:Nat×Bool} (h:s.2=true):(eU b s).2.2=true:=by
  have key: ∀ (c:Prop) [Decidable c] (u:Nat×Bool),u.2=true→(if c then u else(u.1,true)).2=true:=by
    intro c _ u hu
    split
    · exact hu
    · rfl
  unfold eU
  refine key _ _ (B1 _ ?_)
  split
  · exact B1 _ (B1 _ h)
  · split
    · exact Yh (B1 _ h)
    · exact B1 _ h
def codeFrom (b:aC):Int×(Int×aC×aD×Int)×Int×Bool:=
  if bJ b=true∧3≤b.length∧b.getD 0 0=5∧b.getD 2 0=0∧(fO (b.drop 3)).2.2=true then(b.getD 1 0,(fO (b.drop 3)).1,(fO (b.drop 3)).2.1+3,true) else(0,(0,[],[],0),0,false)
def fL (b:aC):Int×(Int×aC×aD×Int)×Int×Bool:=
  let s1:=lC b (0,!bJ b) [5]
  let s3:=lC b (eT b s1 1) [0]
  (cH b s1,(eU b s3).1,((eU b s3).2.1:Int),!(eU b s3).2.2)
theorem Gi (b:aC):(codeFrom b).2.2.2=(fL b).2.2.2∧((codeFrom b).2.2.2=true→fL b=codeFrom b):=by
  by_cases hc:bJ b=true∧3≤b.length∧b.getD 0 0=5∧b.getD 2 0=0∧(fO (b.drop 3)).2.2=true
  · obtain ⟨h1,h2,h3,h4,h5⟩:=hc
    have e1:lC b (0,!bJ b) [5]=(1,false):=J3 (by simp[h1]) (by simp; omega) h3
    have e2:cH b (1,false)=b.getD 1 0:=vC rfl (by simp; omega)
    have e3:eT b (1,false) 1=(2,false):=nM rfl (by simp; omega)
    have e4:lC b (2,false) [0]=(3,false):=J3 rfl (by simp only; omega) h4
    have e5:=(Ep h1 h5).1
    have hd:=QD h5
    have:fL b=codeFrom b:=by
      unfold fL codeFrom
      simp only[e1,e2,e3,e4,e5]
      rw[cF ⟨h1,h2,h3,h4,h5⟩]
      simp only[Prod.mk.injEq,true_and,Bool.not_false,xJ]
      omega
    exact⟨by rw[this],fun _=>this⟩
  · have hn:codeFrom b=(0,(0,[],[],0),0,false):=by unfold codeFrom; rw[b0 hc]
    have hr:(fL b).2.2.2=false:=by
      rcases oL (fL b).2.2.2 with hr | hr
      · exfalso
        unfold fL at hr
        simp only[Bool.not_eq_true']at hr
        have hb:bJ b=true:=by
          by_cases hb:bJ b=true
          · exact hb
          · exfalso
            have h0:bJ b=false:=by simpa using hb
            rw[Em _ (VS _ (B1 _ (VS _ (by simp[h0]))))]at hr
            cases hr
        obtain ⟨g1,g2⟩:=Eo hb hr
        obtain ⟨k1,k2,k3,k4⟩:=J2 g1
        obtain ⟨m1,m2,m3,m4⟩:=n5 k1
        obtain ⟨p1,p2,p3,p4⟩:=J2 m1
        rw[p4]at m2 m3
        rw[p4,m3]at k2 k3 k4
        rw[p4,m3,k4]at g2
        simp only[pT]at k2 k3 p3 g2
        exact hc ⟨hb,by omega,p3,k3,g2⟩
      · exact hr
    exact⟨by rw[hn,hr],fun h=>by rw[hn]at h; cases h⟩
abbrev Lg:=aD×aD
def z7 (u:Lg):Bool:=iW u.1 u.2
def DT (wt:aC):Bool:=wt.all fun m=>decide (m=0∨m=2)
def iV (st:Int) (wt:aC) (lg:List Lg) (to:aD):Bool:=
  decide (0≤st∧st≤4) && j9 wt && decide (lg.length≤4) && DT wt && lg.all z7 && (decide (¬ st=1) || decide (2∈wt)) && (if st=3 then(aG to).2 else decide (to=[]))
theorem Ew:aG []=((0,[],[],0),false):=by
  have h:(aG []).2=false:=by
    unfold aG
    rfl
  exact JN h
def o9 (wt ms:aC):Int:=if j9 wt=true∧j9 ms=true then(match wt.find? (fun m=>decide (m∈ms)) with | some m=>m | none=>255) else 255
theorem ZO {wt ms:aC} {k:Nat} (h1:j9 wt=true) (h2:j9 ms=true) (hk:k<wt.length) (hn: ∀ j,j<k→wt.getD j 0 ∉ ms) (h:wt.getD k 0∈ms):o9 wt ms=wt.getD k 0:=by
  have hg: ∀ j,(h:j<wt.length)→wt.getD j 0=wt[j]:=fun j h=>by rw[gQ,gE h]; rfl
  have:wt.find? (fun m=>decide (m∈ms))=some wt[k]:=by
    rw[List.find?_eq_some_iff_getElem]
    refine⟨by rw[← hg k hk]; simpa using h,k,hk,rfl,fun j hj=>?_⟩
    have:=hn j hj
    rw[hg j (by omega)]at this
    simp[this]
  unfold o9
  rw[cF ⟨h1,h2⟩,this,hg k hk]
theorem ZN {wt ms:aC} {k:Nat} (hk:wt.length≤k) (hn: ∀ j,j<k→wt.getD j 0 ∉ ms):o9 wt ms=255:=by
  have:wt.find? (fun m=>decide (m∈ms))=none:=by
    rw[D4]
    intro u hu
    obtain ⟨j,hj,rfl⟩:=xF hu
    have:=hn j (by omega)
    rw[gQ,gE hj]at this
    simpa using this
  unfold o9
  rw[this]
  split <;> rfl
theorem OX {wt ms:aC} (h: ¬ (j9 wt=true∧j9 ms=true)):o9 wt ms=255:=b0 h
theorem OY (wt ms:aC):0≤o9 wt ms∧o9 wt ms≤255:=by
  unfold o9
  split
  · rename_i h
    split
    · rename_i m hm
      have hmem:=GS hm
      have hok:(∀ x∈wt,0≤x∧x≤254)∧_:=pI h.1
      have:=hok.1 m hmem
      omega
    · omega
  · omega
def hG (wt b:aC):Int×aC:=
  if (eM b).2.2=true∧(eM b).2.1=(b.length:Int) then
    (if o9 wt (eM b).1=0 then 2 else if o9 wt (eM b).1=2 then 1 else 4,[5,o9 wt (eM b).1]) else(4,[])
def o6 (lg:List Lg) (u w:aD):Bool:=iW u w && decide ((u,w)∈lg)
def gX (lg:List Lg) (b:aC):Int×aC:=
  if (fA b).2.2=true∧(fA b).2.1=(b.length:Int) then
    (if o6 lg (fA b).1.1 (fA b).1.2 then(2,[1,0]) else(4,[1,1])) else(4,[])
abbrev Ad:=Int×aC×aD×Int
def dD (b:aC):(Int×Ad)×Int×Bool:=
  if (codeFrom b).2.2.2=true∧1≤(codeFrom b).1∧(codeFrom b).1≤3 then(((codeFrom b).1,(codeFrom b).2.1),(codeFrom b).2.2.1,true) else((0,(0,[],[],0)),0,false)
def fM (b:aC):Int×aD×aC:=
  let r:=dD b
  let a:=r.1.2
  if r.2.2=true∧r.2.1=(b.length:Int) then
    (if r.1.1=1 then(3,gZ a.1 a.2.1 a.2.2.1 a.2.2.2,(mT 0 a.1 a.2.1 a.2.2.1 a.2.2.2).1) else(4,[],(mT 7 a.1 a.2.1 a.2.2.1 a.2.2.2).1)) else(4,[],[])
def bY (st:Int) (wt:aC) (lg:List Lg) (to:aD) (b:aC):(Int×aC×List Lg×aD)×aC×Bool:=
  if iV st wt lg to=true∧bJ b=true∧st<3 then
    (if st=0 then(((hG wt b).1,wt,lg,[]),(hG wt b).2,true)
     else if st=1 then(((gX lg b).1,wt,lg,[]),(gX lg b).2,true)
     else(((fM b).1,wt,lg,(fM b).2.1),(fM b).2.2,true))
  else((0,[],[],[]),[],false)
theorem QK {b:aC} (h:(codeFrom b).2.2.2=true):oO (codeFrom b).2.1=true∧3≤(codeFrom b).2.2.1∧(codeFrom b).2.2.1≤b.length:=by
  unfold codeFrom at*
  split at h
  · rename_i hc
    rw[cF hc]
    have:=QD hc.2.2.2.2
    rw[fC]at this
    exact⟨this.1,by simp only; omega,by simp only; omega⟩
  · cases h
theorem O4 {b:aC} (h:(dD b).2.2=true):oO (dD b).1.2=true∧(1≤(dD b).1.1∧(dD b).1.1≤3)∧3≤(dD b).2.1∧(dD b).2.1≤b.length:=by
  unfold dD at*
  split at h
  · rename_i hc
    rw[cF hc]
    have:=QK hc.1
    exact⟨this.1,hc.2,this.2⟩
  · cases h
theorem wY {st:Int} {wt:aC} {lg:List Lg} {to:aD} (h:iV st wt lg to=true):(0≤st∧st≤4)∧j9 wt=true∧lg.length≤4∧DT wt=true∧lg.all z7=true∧(st=1→2∈wt)∧(st=3→(aG to).2=true)∧(¬ st=3→to=[]):=by
  simp only[iV,iF,Bool.or_eq_true,kP]at h
  obtain ⟨⟨⟨⟨⟨⟨h1,h2⟩,h3⟩,h4⟩,h5⟩,h6⟩,h7⟩:=h
  refine⟨h1,h2,h3,h4,h5,fun hs=>h6.resolve_left (fun hn=>hn hs),fun hs=>?_,fun hs=>?_⟩
  · rw[cF hs]at h7
    exact h7
  · rw[b0 hs]at h7
    exact pI h7
def l6 (f:Bool):aC:=if f then[1,0] else[1,1]
def sD (wt:aC) (lg:List Lg):Bool:=DT wt && lg.all z7 && (j9 wt && decide (lg.length≤4))
theorem Yq (wt:aC):wt.any (fun m=>decide (m≠0∧m≠2))=!DT wt:=by
  unfold DT
  rw[wJ]
  simp
theorem Nx (lg:List Lg):lg.any (fun x=>!iW x.1 x.2)=!lg.all z7:=by
  rw[wJ]
  simp[z7]
theorem GI (st:Int) (wt:aC) (lg:List Lg) (to:aD):iV st wt lg to=(decide (0≤st∧st≤4) && j9 wt && decide (lg.length≤4) && !(wt.any fun m=>decide (m≠0∧m≠2)) && !(lg.any fun x=>!iW x.1 x.2) && (decide (¬ st=1) || decide (2∈wt)) && (if st=3 then(aG to).2 else decide (to=[]))):=by
  rw[Yq,Nx,Bool.not_not,Bool.not_not]
  rfl
theorem TQ (st:Int) (wt:aC) (lg:List Lg) (to:aD):iV st wt lg to=(sD wt lg && decide (0≤st∧st≤4) && (decide (¬ st=1) || decide (2∈wt)) && (decide (decide (st=3)=(aG to).2) && ((aG to).2 || decide (to=[])))):=by
  have hl:(if st=3 then(aG to).2 else decide (to=[]))=(decide (decide (st=3)=(aG to).2) && ((aG to).2 || decide (to=[]))):=by
    by_cases h3:st=3
    · cases h:(aG to).2 <;> simp[h3]
    · cases h:(aG to).2
      · simp[h3]
      · have:to≠[]:=fun he=>by rw[he,Ew]at h; cases h
        simp[h3,this]
  unfold iV sD
  rw[hl]
  cases j9 wt <;> cases DT wt <;> cases lg.all z7 <;> cases decide (0≤st∧st≤4) <;> cases decide (lg.length≤4) <;> rfl
theorem Ys {wt:aC} {lg:List Lg} {k:Nat} (hk:k<wt.length) (h:wt.getD k 0≠0∧wt.getD k 0≠2):false=sD wt lg:=by
  have:DT wt=false:=CJ (d:=0) hk (decide_eq_false fun hh=>hh.elim h.1 h.2)
  unfold sD
  rw[this]
  rfl
theorem Yt {wt:aC} {lg:List Lg} {k:Nat} (hk:k<lg.length) (h:iW (lg.getD k lS).1 (lg.getD k lS).2=false):false=sD wt lg:=by
  have:lg.all z7=false:=CJ (d:=lS) hk h
  unfold sD
  rw[this,u9]
  rfl
theorem Eb {wt:aC} {lg:List Lg} {j k:Nat} (hj:wt.length≤j) (hk:lg.length≤k) (h1:(wt.take j).all (fun m=>decide (m=0∨m=2))=true) (h2:(lg.take k).all z7=true):(j9 wt && decide (lg.length≤4))=sD wt lg:=by
  have e1:DT wt=true:=EI hj h1
  have e2:lg.all z7=true:=EI hk h2
  unfold sD
  rw[e1,e2]
  rfl
def eJ (wt:aC) (lg:List Lg):(Int×aC×List Lg×aD)×Bool:=if sD wt lg then((0,wt,lg,[]),true) else((0,[],[],[]),false)
theorem Vo {w:World} {A:aM} {X:eP} {sz c:Nat} {α:Type} {g:α→cU} {zs:List α} (h:Sl w X sz A zs.length c (zs.flatMap g)) (hA:A=none):zs=[]:=by
  rcases wI zs.length with h0 | h0
  · exact vO h0
  · obtain ⟨a,ha,_⟩:=h.2.2.2 h0
    rw[hA]at ha
    cases ha
section
variable {st:Int} {wt:aC} {lg:List Lg} {to:aD}
theorem Cq (h: ¬ (0≤st∧st≤4)):false=iV st wt lg to:=by rw[GI,decide_eq_false h]; rfl
theorem Xd (h:j9 wt=false):false=iV st wt lg to:=by rw[GI,h,u9]; rfl
theorem Xe (h:(4:Int)<((lg.length:Nat):Int)):false=iV st wt lg to:=by rw[GI,decide_eq_false (show ¬ lg.length≤4 by omega),u9]; rfl
theorem Xf (h:wt.any (fun m=>decide (m≠0∧m≠2))=true):false=iV st wt lg to:=by rw[GI,h,Bool.not_true,u9]; rfl
theorem Xg (h:lg.any (fun x=>!iW x.1 x.2)=true):false=iV st wt lg to:=by rw[GI,h,Bool.not_true,u9]; rfl
theorem Cr (h1:st=1) (h2: ¬ 2∈wt):false=iV st wt lg to:=by
  have e:(decide (¬ st=1) || decide (2∈wt))=false:=by rw[decide_eq_false (fun hh: ¬ st=1=>hh h1),decide_eq_false h2]; rfl
  rw[GI,e,u9]
  rfl
theorem Cs (h1:0≤st∧st≤4) (h2:j9 wt=true) (h3: ¬ (4:Int)<((lg.length:Nat):Int)) (h4:wt.any (fun m=>decide (m≠0∧m≠2))=false) (h5:lg.any (fun x=>!iW x.1 x.2)=false) (h6:st=1→2∈wt):iV st wt lg to=if st=3 then(aG to).2 else decide (to=[]):=by
  have Q7:(decide (¬ st=1) || decide (2∈wt))=true:=by
    by_cases h:st=1
    · rw[decide_eq_true (h6 h),Bool.or_true]
    · rw[decide_eq_true h,Bool.true_or]
  rw[GI,decide_eq_true h1,h2,decide_eq_true (show lg.length≤4 by omega),h4,h5,Q7]
  rfl
theorem Ct (h1:0≤st∧st≤4) (h2:j9 wt=true) (h3: ¬ (4:Int)<((lg.length:Nat):Int)) (h4:wt.any (fun m=>decide (m≠0∧m≠2))=false) (h5:lg.any (fun x=>!iW x.1 x.2)=false) (h6:st=1→2∈wt) (h7:st=3):(aG to).2=iV st wt lg to:=by
  rw[Cs h1 h2 h3 h4 h5 h6,cF h7]
theorem Cu (h1:0≤st∧st≤4) (h2:j9 wt=true) (h3: ¬ (4:Int)<((lg.length:Nat):Int)) (h4:wt.any (fun m=>decide (m≠0∧m≠2))=false) (h5:lg.any (fun x=>!iW x.1 x.2)=false) (h6:st=1→2∈wt) (h7: ¬ st=3):decide (to=[])=iV st wt lg to:=by
  rw[Cs h1 h2 h3 h4 h5 h6,b0 h7]
theorem Yf (h:sD wt lg=false):false=iV st wt lg to:=by rw[TQ,h]; rfl
theorem Dg (h: ¬ decide (st=3)=(aG to).2):false=iV st wt lg to:=by rw[TQ,decide_eq_false h,GZ,u9]
theorem Dh (h1:sD wt lg=true) (h2:0≤st∧st≤4) (h6:st=1→2∈wt) (h7:decide (st=3)=(aG to).2):iV st wt lg to=((aG to).2 || decide (to=[])):=by
  have Q7:(decide (¬ st=1) || decide (2∈wt))=true:=by
    by_cases h:st=1
    · rw[decide_eq_true (h6 h),Bool.or_true]
    · rw[decide_eq_true h,Bool.true_or]
  rw[TQ,h1,decide_eq_true h2,Q7,decide_eq_true h7]
  rfl
theorem Di (h1:sD wt lg=true) (h2:0≤st∧st≤4) (h6:st=1→2∈wt) (h7:decide (st=3)=(aG to).2) (h8:(aG to).2=true):true=iV st wt lg to:=by rw[Dh h1 h2 h6 h7,h8]; rfl
theorem Dj (h1:sD wt lg=true) (h2:0≤st∧st≤4) (h6:st=1→2∈wt) (h7:decide (st=3)=(aG to).2) (h8:(aG to).2=false):decide (to=[])=iV st wt lg to:=by rw[Dh h1 h2 h6 h7,h8]; rfl
end
theorem Kh {b:aC} (h:(eM b).2.2=true):(eM b).2.1≤(b.length:Int):=(Ki h).2.2.2.2.2.2
theorem PE {wt b:aC} (h:(eM b).2.2=false):hG wt b=(4,[]):=b0 (by rw[h]; simp)
theorem Bh {wt b:aC} (h:(eM b).2.1<(b.length:Int)):hG wt b=(4,[]):=b0 (fun hh=>by omega)
theorem Bi {wt b:aC} (h:(eM b).2.1≠(b.length:Int)):hG wt b=(4,[]):=b0 (fun hh=>h hh.2)
theorem IQ {wt b:aC} (h:(eM b).2.2=true) (h2: ¬ (eM b).2.1<(b.length:Int)):hG wt b=(if o9 wt (eM b).1=0 then 2 else if o9 wt (eM b).1=2 then 1 else 4,[5,o9 wt (eM b).1]):=cF ⟨h,by have:=Kh h; omega⟩
theorem IU {wt b:aC} (h:(eM b).2.2=true) (h2: ¬ (eM b).2.1≠(b.length:Int)):hG wt b=(if o9 wt (eM b).1=0 then 2 else if o9 wt (eM b).1=2 then 1 else 4,[5,o9 wt (eM b).1]):=cF ⟨h,Decidable.not_not.1 h2⟩
theorem PG {lg:List Lg} {b:aC} (h:(fA b).2.2=false):gX lg b=(4,[]):=b0 (by rw[h]; simp)
theorem Bk {lg:List Lg} {b:aC} (h:(fA b).2.1<(b.length:Int)):gX lg b=(4,[]):=b0 (fun hh=>by omega)
theorem Bl {lg:List Lg} {b:aC} (h:(fA b).2.1≠(b.length:Int)):gX lg b=(4,[]):=b0 (fun hh=>h hh.2)
theorem Bj {lg:List Lg} {b:aC} (h:(fA b).2.2=true) (h2:(fA b).2.1=(b.length:Int)):gX lg b=(if o6 lg (fA b).1.1 (fA b).1.2 then 2 else 4,l6 (o6 lg (fA b).1.1 (fA b).1.2)):=by
  unfold gX
  rw[cF ⟨h,h2⟩]
  cases o6 lg (fA b).1.1 (fA b).1.2 <;> rfl
theorem PH {lg:List Lg} {b:aC} (h:(fA b).2.2=true) (h2: ¬ (fA b).2.1<(b.length:Int)):gX lg b=(if o6 lg (fA b).1.1 (fA b).1.2 then 2 else 4,l6 (o6 lg (fA b).1.1 (fA b).1.2)):=Bj h (by have:=(KP h).2.2.2; omega)
theorem PI {lg:List Lg} {b:aC} (h:(fA b).2.2=true) (h2: ¬ (fA b).2.1≠(b.length:Int)):gX lg b=(if o6 lg (fA b).1.1 (fA b).1.2 then 2 else 4,l6 (o6 lg (fA b).1.1 (fA b).1.2)):=Bj h (Decidable.not_not.1 h2)
theorem IX {b:aC} (h:(dD b).2.2=false):fM b=(4,[],[]):=b0 (by rw[h]; simp)
theorem TK {b:aC} (h:(dD b).2.1<(b.length:Int)):fM b=(4,[],[]):=b0 (fun hh=>by omega)
theorem TL {b:aC} (h:(dD b).2.1≠(b.length:Int)):fM b=(4,[],[]):=b0 (fun hh=>h hh.2)
theorem IV {b:aC} (h:(dD b).2.2=true) (h2:(dD b).2.1=(b.length:Int)) (hc:(dD b).1.1=1):fM b=(3,gZ (dD b).1.2.1 (dD b).1.2.2.1 (dD b).1.2.2.2.1 (dD b).1.2.2.2.2,(mT 0 (dD b).1.2.1 (dD b).1.2.2.1 (dD b).1.2.2.2.1 (dD b).1.2.2.2.2).1):=by
  unfold fM
  simp only
  rw[cF ⟨h,h2⟩,cF hc]
theorem IW {b:aC} (h:(dD b).2.2=true) (h2:(dD b).2.1=(b.length:Int)) (hc: ¬ (dD b).1.1=1):fM b=(4,[],(mT 7 (dD b).1.2.1 (dD b).1.2.2.1 (dD b).1.2.2.2.1 (dD b).1.2.2.2.2).1):=by
  unfold fM
  simp only
  rw[cF ⟨h,h2⟩,b0 hc]
theorem IK {b:aC} (h:(dD b).2.2=true) (h2: ¬ (dD b).2.1<(b.length:Int)):(dD b).2.1=(b.length:Int):=by have:=(O4 h).2.2.2; omega
theorem QG {k:Int} {q:aC} {nm:aD} {p:Int} (h:dN k q nm p=true):jJ k q nm++[58]++Lib.itoa p=gZ k q nm p:=by simp[gZ,h]
section
variable {st:Int} {wt:aC} {lg:List Lg} {to:aD} {b:aC}
theorem I3 (h:iV st wt lg to=false∨bJ b=false∨3≤st):bY st wt lg to b=((0,[],[],[]),[],false):=by
  refine b0 fun hh=>?_
  rcases h with h | h | h
  · rw[h]at hh; exact absurd hh.1 (by decide)
  · rw[h]at hh; exact absurd hh.2.1 (by decide)
  · omega
theorem Cn (h1:iV st wt lg to=true) (h2:bJ b=true) (h:st=0):bY st wt lg to b=(((hG wt b).1,wt,lg,to),(hG wt b).2,true):=by
  have ht:=(wY h1).2.2.2.2.2.2.2 (by omega)
  unfold bY
  rw[cF ⟨h1,h2,by omega⟩,cF h,ht]
theorem Co (h1:iV st wt lg to=true) (h2:bJ b=true) (h:st=1):bY st wt lg to b=(((gX lg b).1,wt,lg,to),(gX lg b).2,true):=by
  have ht:=(wY h1).2.2.2.2.2.2.2 (by omega)
  unfold bY
  rw[cF ⟨h1,h2,by omega⟩,b0 (by omega),cF h,ht]
theorem Cp (h1:iV st wt lg to=true) (h2:bJ b=true) (h:st=2):bY st wt lg to b=(((fM b).1,wt,lg,(fM b).2.1),(fM b).2.2,true):=by
  unfold bY
  rw[cF ⟨h1,h2,by omega⟩,b0 (by omega),b0 (by omega)]
end
theorem IL (b:aC):(dD b).1.2.2.2.1.length≤255:=by
  unfold dD
  split
  · rename_i h
    have:=gP (QK h.1).1
    simp only
    omega
  · simp
section
variable {st:Int} {wt:aC} {lg:List Lg} {to:aD} {b:aC}
theorem Wy (h1:iV st wt lg to=true) (h2:bJ b=true) (h:st=0):bY st wt lg to b=(((hG wt b).1,wt,lg,[]),(hG wt b).2,true):=by
  rw[Cn h1 h2 h,(wY h1).2.2.2.2.2.2.2 (by omega)]
theorem Wz (h1:iV st wt lg to=true) (h2:bJ b=true) (h:st=1):bY st wt lg to b=(((gX lg b).1,wt,lg,[]),(gX lg b).2,true):=by
  rw[Co h1 h2 h,(wY h1).2.2.2.2.2.2.2 (by omega)]
theorem Xa (st:Int) (wt:aC) (lg:List Lg) (to:aD) (b:aC):(bY st wt lg to b).1.2.1.length≤8∧(bY st wt lg to b).1.2.2.1.length≤4∧(bY st wt lg to b).2.1.length≤27:=by
  have hh: ∀ wt b,(hG wt b).2.length≤27:=fun wt b=>by unfold hG; split <;> simp
  have hl: ∀ lg b,(gX lg b).2.length≤27:=fun lg b=>by unfold gX; split <;> (try split) <;> simp
  have hr: ∀ b,(fM b).2.2.length≤27:=fun b=>by
    unfold fM
    simp only
    split
    · split <;> exact Ry _ _ _ _ _
    · simp
  unfold bY
  split
  · rename_i h
    have hp:=wY h.1
    have hm:=BT hp.2.1
    have h3:=hp.2.2.1
    have e1:=hh wt b
    have e2:=hl lg b
    have e3:=hr b
    split
    · exact⟨hm.2,h3,e1⟩
    · split
      · exact⟨hm.2,h3,e2⟩
      · exact⟨hm.2,h3,e3⟩
  · simp
end
abbrev T4:=Int×aC×List Lg×aD
structure Cl where
  ms:aC
  lu:aD
  lw:aD
  ak:Int
  aq:aC
  an:aD
  apt:Int
theorem Hg {b:aC} {i:Int} {k:Nat} (h:0≤i):(b.take ((k:Int)+i).toNat).drop k=(b.drop k).take i.toNat:=by
  rw[show ((k:Int)+i).toNat=k+i.toNat by omega,DR]
theorem Kn {b ms:aC} {n:Int} (h1:bJ b=true) (h2:3≤b.length) (h3:b.getD 0 0=5) (h4:b.getD 1 0≤(b.length:Int)-2) (hm:ms=(b.drop 2).take (b.getD 1 0).toNat) (h5:j9 ms=true) (hn:n=2+(ms.length:Int)):eM b=(ms,n,true):=by
  subst hm
  unfold eM
  rw[cF ⟨h1,h2,h3,h4,h5⟩]
  have hb:=jT h1 (k:=1) (by omega)
  rw[dV,fC]at hn
  simp only[Prod.mk.injEq,true_and,xJ]
  omega
theorem Kl {b:aC} (h: ¬ (bJ b=true∧3≤b.length∧b.getD 0 0=5∧b.getD 1 0≤(b.length:Int)-2∧j9 ((b.drop 2).take (b.getD 1 0).toNat)=true)):eM b=([],0,false):=b0 h
theorem KR {b:aC} (h:bJ b=false∨b.length<5∨b.getD 0 0≠1∨(b.length:Int)-3<b.getD 1 0∨(b.length:Int)-((2+(b.getD 1 0).toNat:Nat):Int)-1<b.getD (2+(b.getD 1 0).toNat) 0):fA b=(([],[]),0,false):=by
  unfold fA
  simp only
  rw[b0]
  rintro ⟨h1,h2,h3,h4,h5,h6⟩
  rcases h with h | h | h | h | h
  · rw[h1]at h; cases h
  · omega
  · exact h h3
  · omega
  · omega
theorem X8 {b:aC} {u w:aD} {a e:Nat} (h1:bJ b=true) (h2:5≤b.length) (h3:b.getD 0 0=1) (h4:b.getD 1 0≤(b.length:Int)-3) (ha:a=2+(b.getD 1 0).toNat) (he:e=a+1+(b.getD a 0).toNat) (h5:b.getD a 0≤(b.length:Int)-(a:Int)-1) (hu:u=bT ((b.take a).drop 2)) (hw:w=bT ((b.take e).drop (a+1))):
    fA b=if iW u w=true then((u,w),(e:Int),true) else(([],[]),0,false):=by
  subst hu hw he ha
  unfold fA
  simp only
  by_cases h6:iW (bT ((b.take (2+(b.getD 1 0).toNat)).drop 2)) (bT ((b.take (2+(b.getD 1 0).toNat+1+(b.getD (2+(b.getD 1 0).toNat) 0).toNat)).drop (2+(b.getD 1 0).toNat+1)))=true
  · rw[cF h6,cF ⟨h1,h2,h3,h4,h5,h6⟩]
  · rw[b0 h6,b0 (fun h=>h6 h.2.2.2.2.2)]
theorem pF {b:aC} (hb:bJ b=true):dF b≤259∧(0≤dF b→4≤dF b):=by
  unfold dF
  split
  · omega
  · split
    · rename_i h
      have:=jT hb (k:=1) h.1
      omega
    · omega
theorem QC {b:aC} (h:bJ b=false∨dF b<0∨(b.length:Int)<dF b):fO b=((0,[],[],0),0,false):=by
  unfold fO
  rw[b0]
  rintro ⟨h1,h2,h3,h4⟩
  rcases h with h | h | h
  · rw[h1]at h; cases h
  · omega
  · omega
theorem MB {b:aC} {q:aC} {nm:aD} {p:Int} (h1:bJ b=true) (h2:0≤dF b) (h3:dF b≤b.length) (hq:q=if b.getD 0 0=1 then(b.drop 1).take 4 else[]) (hn:nm=if b.getD 0 0=1 then[] else bT ((b.drop 2).take ((dF b).toNat-4))) (hp:p=aL ((b.drop ((dF b).toNat-2)).take 2)):
    fO b=if dN (b.getD 0 0) q nm p=true then((b.getD 0 0,q,nm,p),dF b,true) else((0,[],[],0),0,false):=by
  subst hq hn hp
  unfold fO
  by_cases h4:oO (CH b (dF b).toNat)=true
  · rw[cF ⟨h1,h2,h3,h4⟩]
    exact(cF (show dN (b.getD 0 0) (if b.getD 0 0=1 then(b.drop 1).take 4 else[]) (if b.getD 0 0=1 then[] else bT ((b.drop 2).take ((dF b).toNat-4))) (aL ((b.drop ((dF b).toNat-2)).take 2))=true from h4)).symm
  · rw[b0 (fun h=>h4 h.2.2.2)]
    exact(b0 (show ¬ dN (b.getD 0 0) (if b.getD 0 0=1 then(b.drop 1).take 4 else[]) (if b.getD 0 0=1 then[] else bT ((b.drop 2).take ((dF b).toNat-4))) (aL ((b.drop ((dF b).toNat-2)).take 2))=true from h4)).symm
theorem JS {b:aC} (h:bJ b=false∨b.length<3∨b.getD 0 0≠5∨b.getD 2 0≠0∨(fO (b.drop 3)).2.2=false):codeFrom b=(0,(0,[],[],0),0,false):=by
  unfold codeFrom
  rw[b0]
  rintro ⟨h1,h2,h3,h4,h5⟩
  rcases h with h | h | h | h | h
  · rw[h1]at h; cases h
  · omega
  · exact h h3
  · exact h h4
  · rw[h5]at h; cases h
theorem Gl {b:aC} (h1:bJ b=true) (h2:3≤b.length) (h3:b.getD 0 0=5) (h4:b.getD 2 0=0) (h5:(fO (b.drop 3)).2.2=true):codeFrom b=(b.getD 1 0,(fO (b.drop 3)).1,(fO (b.drop 3)).2.1+3,true):=cF ⟨h1,h2,h3,h4,h5⟩
theorem KU {b:aC} (h:bJ b=true) (k:Nat):0≤aL ((b.drop k).take 2)∧aL ((b.drop k).take 2)≤65535:=by
  have:=OK (l:=(b.drop k).take 2) (fun x hx=>(sZ.1 h).1 x (uW (vP hx))) 2 (by rw[dV]; omega)
  rw[lI (by rw[dV]; omega)]at this
  exact⟨this.1,this.2.1⟩
theorem Qi {s:aD} (h: ¬ (1≤s.length∧s.length≤5)):cZ s= -1:=b0 fun hh=>h hh.1
theorem YU {s:aD} {k:Nat} (hk:k<s.length) (h: ¬ (48≤(((s.getD k 0).toNat:Nat):Int)∧(((s.getD k 0).toNat:Nat):Int)≤57)):cZ s= -1:=by
  refine b0 fun hh=>?_
  have:=CJ (p:=zS) (d:=0) hk (by simp only[zS,P5]; exact h)
  rw[this]at hh
  exact absurd hh.2 (by decide)
theorem Qj {s:aD} {k:Nat} (h:1≤s.length∧s.length≤5) (hk:s.length≤k) (ha:(s.take k).all zS=true):oW (s.take k)=cZ s:=by
  unfold cZ
  rw[cF ⟨h,EI hk ha⟩,lI hk]
theorem Hr {c:UInt8} (h:zS c=true):48≤((c.toNat:Nat):Int)∧((c.toNat:Nat):Int)≤57:=pI h
theorem YV {s:aD} (h:s.all zS=true): ∀ k,k≤s.length→0≤oW (s.take k)∧oW (s.take k)<10 ^ k
  | 0,_=>by simp[oW]
  | k+1,hk=>by
    have ih:=YV h k (by omega)
    have hd:=List.all_eq_true.1 h _ (rM (show k<s.length by omega))
    have hg:s.getD k 0=s[k]:=by rw[gQ,gE (show k<s.length by omega)]; rfl
    rw[YY (by omega),hg]
    have:=Hr hd
    rw[Int.pow_succ]
    omega
theorem Mx {x z:Int} (hx:0≤x) (h:Lib.itoa z=Lib.itoa x):z=x:=by
  rcases Int.lt_or_le z 0 with hz | hz
  · exfalso
    have e:Lib.itoa z=45::Lib.decDigits z.natAbs:=by
      unfold Lib.itoa
      rw[cF hz]
    have:=zZ hx 45 (by rw[← h,e]; exact sK ..)
    revert this
    decide
  · rw[KM hz,KM hx]at h
    have:=aS oW h
    rw[SY,SY]at this
    omega
theorem Rm {s:aD} {k:Nat} (hk:k<(aB 46 s).length) (h:(jX ((aB 46 s).getD k [])).2=false):iC s=([],false):=by
  rcases oL (iC s).2 with hq | hq
  · exfalso
    obtain ⟨h1,h2⟩:=O2 hq
    have h3:=PN h1
    rw[h2]at h3
    rw[h3,yV]at hk
    have g:=oG h1 hk
    have e:((iC s).1.map Lib.itoa).getD k []=Lib.itoa ((iC s).1.getD k 0):=by
      simp only[gQ,vQ,gE hk,yU,B9]
    rw[h3,e,VD ⟨g.1,by omega⟩]at h
    cases h
  · exact ZU hq
theorem YE: ∀ {zs qs:aC},(∀ x∈qs,0≤x)→zs.map Lib.itoa=qs.map Lib.itoa→zs=qs
  | [],[],_,_=>rfl
  | [],_::_,_,h=>by simp at h
  | _::_,[],_,h=>by simp at h
  | z::zs,q::qs,hq,h=>by
    rw[G0,G0]at h
    have h1:=(List.cons.inj h).1
    have h2:=(List.cons.inj h).2
    rw[Mx (hq q (sK ..)) h1,YE (fun x hx=>hq x (rL _ hx)) h2]
theorem Rq {s:aD} {zs:aC} (h:aB 46 s=zs.map Lib.itoa) (hz:kO zs=false):iC s=([],false):=by
  rcases oL (iC s).2 with hq | hq
  · exfalso
    obtain ⟨h1,h2⟩:=O2 hq
    have h3:=PN h1
    rw[h2,h]at h3
    have:zs=(iC s).1:=YE (fun x hx=>by
      simp only[kO,iF]at h1
      exact((sZ.1 h1.2).1 x hx).1) h3
    rw[this,h1]at hz
    cases hz
  · exact ZU hq
theorem Hq {s:aD} {zs:aC} {k:Nat} (hk:k<(aB 46 s).length) (h:(aB 46 s).take k=zs.map Lib.itoa) (hd:(jX ((aB 46 s).getD k [])).2=true):(aB 46 s).take (k+1)=(zs++[(jX ((aB 46 s).getD k [])).1]).map Lib.itoa:=by
  rw[qD hk,List.map_append,h]
  have:=VE hd
  simp only[G0,List.map_nil,this]
  rw[gQ,gE hk]
  rfl
def dW (l:aD) (c:UInt8):aD:=if 0≤cE l c then l.take (cE l c).toNat else l
def kS (l:aD) (c:UInt8):aD:=if 0≤cE l c then l.drop ((cE l c).toNat+1) else[]
theorem U9 {a b:aD} {c:UInt8} (h: ∀ x∈a,x≠c):cE (a++c::b) c=(a.length:Int):=by
  refine R2 (by simp) (fun j hj=>?_) ?_
  · rw[Q1 hj,gQ,gE hj]
    exact h _ (rM hj)
  · rw[Q2 (lA _),Nat.sub_self]
    rfl
theorem U6 {a b:aD} {c:UInt8} (h: ∀ x∈a,x≠c):dW (a++c::b) c=a∧kS (a++c::b) c=b:=by
  unfold dW kS
  have e:((a.length:Nat):Int).toNat=a.length:=rfl
  rw[U9 h,cF (by omega),cF (by omega),e]
  refine⟨by simp,?_⟩
  rw[show a.length+1=(a++[c]).length by simp,show a++c::b=(a++[c])++b by simp,List.drop_left']
  rfl
theorem Hj {l:aD} {c:UInt8} (h:0≤cE l c):l=dW l c++c::kS l c:=by
  have hs:=R4 h
  unfold dW kS
  rw[cF h,cF h]
  have hc:=Mo h
  conv=>lhs; rw[← D0 (cE l c).toNat l]
  congr 1
  rw[rK hs.1]
  congr 1
  rw[gQ,gE hs.1]at hc
  exact hc
theorem Ho:jX []=(0,false):=rfl
theorem JO (s:aD):aG s=if (jX (kS s 58)).2=true∧oO (addrOf (dW s 58) (jX (kS s 58)).1)=true then(addrOf (dW s 58) (jX (kS s 58)).1,true) else((0,[],[],0),false):=by
  rcases oL (aG s).2 with hq | hq
  · obtain ⟨h1,h2⟩:=MC hq
    have hf:=fK h1
    have e:gZ (aG s).1.1 (aG s).1.2.1 (aG s).1.2.2.1 (aG s).1.2.2.2=jJ (aG s).1.1 (aG s).1.2.1 (aG s).1.2.2.1++58::Lib.itoa (aG s).1.2.2.2:=by simp[gZ,h1]
    have hc:=U6 (b:=Lib.itoa (aG s).1.2.2.2) (YT h1)
    rw[← e,h2]at hc
    rw[hc.1,hc.2,VD ⟨hf.1,hf.2.1⟩,QF h1,cF ⟨rfl,h1⟩,← hq]
  · rw[JN hq,b0]
    rintro ⟨h1,h2⟩
    rcases Int.lt_or_le (cE s 58) 0 with hi | hi
    · have:kS s 58=[]:=b0 (by omega)
      rw[this,Ho]at h1
      cases h1
    · have:=Fb (Hj hi) (VE h1) h2
      rw[this]at hq
      cases hq
theorem Yb {bs:aC} {sa:Nat} {sf:Bool} {n:Int} {lo hi:Nat} (h:sf=false) (h2:sa+n.toNat≤bs.length) (hlo:lo=sa) (hhi:hi=sa+n.toNat):(bs.take hi).drop lo=aF bs (sa,sf) n.toNat:=by
  subst hlo hhi
  rw[DR,rI h h2]
def gH (b:aC) (s:Nat×Bool):aC:=if s.2 then[] else(b.drop s.1).takeWhile fun x=>decide (x≠0)
def qP (b:aC) (s:Nat×Bool):Nat×Bool:=if s.2 then(s.1,true) else if s.1+(gH b s).length<b.length then(s.1+(gH b s).length+1,false) else(b.length,true)
def zE (b:aC) (k:Nat):Int:=if k+((b.drop k).takeWhile fun x=>decide (x≠0)).length<b.length then((k+((b.drop k).takeWhile fun x=>decide (x≠0)).length:Nat):Int) else -1
abbrev Old:=(Int×Ad)×aD
def DH (c:Int) (a:Ad) (u:aD):Bool:=gL c a.1 a.2.1 a.2.2.1 a.2.2.2 u
def IE (b:aC):Old×Int×Bool:=
  let s1:=lC b (0,!bJ b) [4]
  let c:=cH b s1
  let s2:=eT b s1 1
  let p:=aL (aF b s2 2)
  let s3:=eT b s2 2
  let q:=aF b s3 4
  let s4:=eT b s3 4
  let u:=bT (gH b s4)
  let s5:=qP b s4
  let s6:=if q=[0,0,0,1] then qP b s5 else s5
  let a:Ad:=if q=[0,0,0,1] then(3,[],bT (gH b s5),p) else(1,q,[],p)
  if s6.2=false∧DH c a u=true then(((c,a),u),(s6.1:Int),true) else(((0,(0,[],[],0)),[]),0,false)
def yC (b:aC):Old×Int×Bool:=
  let e:=(zE b 8).toNat
  let u:=bT ((b.take e).drop 8)
  let p:=aL ((b.drop 2).take 2)
  let nul:=b.getD 4 0=0∧b.getD 5 0=0∧b.getD 6 0=0
  let l:=zE b (e+1)
  let a:Ad:=if nul then(3,[],bT ((b.take l.toNat).drop (e+1)),p) else(1,(b.drop 4).take 4,[],p)
  let n:=if nul then l else zE b 8
  if bJ b=true∧9≤b.length∧b.getD 0 0=4∧0≤zE b 8∧(nul→0≤l∧b.getD 7 0=1)∧DH (b.getD 1 0) a u=true then(((b.getD 1 0,a),u),n+1,true) else(((0,(0,[],[],0)),[]),0,false)
theorem T2 {b:aC} {k:Nat} (h:0≤zE b k):qP b (k,false)=((zE b k).toNat+1,false)∧gH b (k,false)=(b.take (zE b k).toNat).drop k∧k≤(zE b k).toNat∧(zE b k).toNat<b.length:=by
  unfold zE at*
  split at h
  · rename_i hlt
    rw[cF hlt]
    have e:gH b (k,false)=(b.drop k).takeWhile fun x=>decide (x≠0):=rfl
    have e2:((k+((b.drop k).takeWhile fun x=>decide (x≠0)).length:Nat):Int).toNat=k+((b.drop k).takeWhile fun x=>decide (x≠0)).length:=rfl
    rw[e2]
    refine⟨?_,?_,by omega,hlt⟩
    · unfold qP
      rw[e]
      simp only[JD,if_false]
      rw[cF hlt]
    · rw[e,DR]
      exact(List.prefix_iff_eq_take.1 (List.takeWhile_prefix _))
  · omega
theorem T1 {b:aC} {s:Nat×Bool} (h:(qP b s).2=false):s.2=false∧0≤zE b s.1∧qP b s=((zE b s.1).toNat+1,false)∧gH b s=(b.take (zE b s.1).toNat).drop s.1∧s.1≤(zE b s.1).toNat∧(zE b s.1).toNat<b.length:=by
  obtain ⟨k,f⟩:=s
  cases f with
  | true=>simp[qP]at h
  | false=>
    have hz:0≤zE b k:=by
      unfold qP at h
      simp only[JD,if_false]at h
      split at h
      · rename_i hlt
        unfold zE
        rw[cF (by simpa [gH] using hlt)]
        omega
      · cases h
    exact⟨rfl,hz,T2 hz⟩
theorem Jh {b:aC} {k:Nat} (h:k+4≤b.length) (x y z u:Int):(b.drop k).take 4=[x,y,z,u]↔b.getD k 0=x∧b.getD (k+1) 0=y∧b.getD (k+2) 0=z∧b.getD (k+3) 0=u:=by
  have hg: ∀ j,(hj:j<b.length)→b.getD j 0=b[j]:=fun j hj=>by rw[gQ,gE hj]; rfl
  rw[rK (show k<b.length by omega),rK (show k+1<b.length by omega),rK (show k+1+1<b.length by omega),rK (show k+1+1+1<b.length by omega),
    hg k (by omega),hg (k+1) (by omega),hg (k+2) (by omega),hg (k+3) (by omega)]
  simp only[List.take_succ_cons,List.take_zero,List.cons.injEq,xJ]
theorem Xm {b:aC} {k:Nat} (h:k+4≤b.length):((b.drop k).take 4).take 3=[0,0,0]↔b.getD k 0=0∧b.getD (k+1) 0=0∧b.getD (k+2) 0=0:=by
  have hg: ∀ j,(hj:j<b.length)→b.getD j 0=b[j]:=fun j hj=>by rw[gQ,gE hj]; rfl
  rw[List.take_take,rK (show k<b.length by omega),rK (show k+1<b.length by omega),rK (show k+1+1<b.length by omega),
    hg k (by omega),hg (k+1) (by omega),hg (k+2) (by omega)]
  have e3:min 3 4=3:=rfl
  simp only[e3,List.take_succ_cons,List.take_zero,List.cons.injEq,xJ]
theorem Y8 (b:aC):IE b=yC b:=by
  have hpos: ∀ (h1:bJ b=true) (h2:9≤b.length) (h3:b.getD 0 0=4) (h4:0≤zE b 8),IE b=yC b:=by
    intro h1 h2 h3 h4
    have e1:lC b (0,!bJ b) [4]=(1,false):=J3 (by simp[h1]) (by simp; omega) h3
    have e2:cH b (1,false)=b.getD 1 0:=vC rfl (by simp only; omega)
    have e3:eT b (1,false) 1=(2,false):=nM rfl (by simp only; omega)
    have e4:aF b (2,false) 2=(b.drop 2).take 2:=rI rfl (by simp only; omega)
    have e5:eT b (2,false) 2=(4,false):=nM rfl (by simp only; omega)
    have e6:aF b (4,false) 4=(b.drop 4).take 4:=rI rfl (by simp only; omega)
    have e7:eT b (4,false) 4=(8,false):=nM rfl (by simp only; omega)
    obtain ⟨e8,e9,lP,mB⟩:=T2 h4
    unfold IE yC
    simp only[e1,e2,e3,e4,e5,e6,e7,e8,e9]
    have q4:=Jh (b:=b) (k:=4) (by omega) 0 0 0 1
    have q3:=Xm (b:=b) (k:=4) (by omega)
    by_cases hn:b.getD 4 0=0∧b.getD 5 0=0∧b.getD 6 0=0
    · by_cases h7:b.getD 7 0=1
      · have hq:(b.drop 4).take 4=[0,0,0,1]:=q4.2 ⟨hn.1,hn.2.1,hn.2.2,h7⟩
        simp only[cF hq,cF hn]
        rcases Int.lt_or_le (zE b ((zE b 8).toNat+1)) 0 with hl | hl
        · rw[b0,b0]
          · rintro ⟨_,_,_,_,h,_⟩
            have:=(h hn).1
            omega
          · rintro ⟨h,_⟩
            have:=(T1 h).2.1
            simp only at this
            omega
        · obtain ⟨f1,f2,f3,f4⟩:=T2 hl
          rw[f1,f2]
          by_cases hok:DH (b.getD 1 0) (3,[],bT ((b.take (zE b ((zE b 8).toNat+1)).toNat).drop ((zE b 8).toNat+1)),aL ((b.drop 2).take 2)) (bT ((b.take (zE b 8).toNat).drop 8))=true
          · rw[cF ⟨by first | rfl | trivial,hok⟩,cF ⟨h1,h2,h3,h4,fun _=>⟨hl,h7⟩,hok⟩]
            simp only[Prod.mk.injEq,true_and,xJ]
            omega
          · rw[b0 (fun h=>hok h.2),b0 (fun h=>hok h.2.2.2.2.2)]
      · have hq: ¬ (b.drop 4).take 4=[0,0,0,1]:=fun h=>h7 (q4.1 h).2.2.2
        simp only[b0 hq]
        rw[b0,b0]
        · rintro ⟨_,_,_,_,h,_⟩
          exact h7 (h hn).2
        · rintro ⟨_,h⟩
          rcases (hE h).2.2.2 with h | h
          · simp only at h
            omega
          · exact h (q3.2 hn)
    · have hq: ¬ (b.drop 4).take 4=[0,0,0,1]:=fun h=>hn ⟨(q4.1 h).1,(q4.1 h).2.1,(q4.1 h).2.2.1⟩
      simp only[b0 hq,b0 hn]
      by_cases hok:DH (b.getD 1 0) (1,(b.drop 4).take 4,[],aL ((b.drop 2).take 2)) (bT ((b.take (zE b 8).toNat).drop 8))=true
      · rw[cF ⟨by first | rfl | trivial,hok⟩,cF ⟨h1,h2,h3,h4,fun h=>absurd h hn,hok⟩]
        simp only[Prod.mk.injEq,true_and,xJ]
        omega
      · rw[b0 (fun h=>hok h.2),b0 (fun h=>hok h.2.2.2.2.2)]
  by_cases hc:bJ b=true∧9≤b.length∧b.getD 0 0=4∧0≤zE b 8
  · exact hpos hc.1 hc.2.1 hc.2.2.1 hc.2.2.2
  · have hf:yC b=(((0,(0,[],[],0)),[]),0,false):=by
      unfold yC
      simp only
      rw[b0 (fun h=>hc ⟨h.1,h.2.1,h.2.2.1,h.2.2.2.1⟩)]
    rw[hf]
    unfold IE
    simp only
    rw[b0]
    rintro ⟨h,_⟩
    have hu:(qP b (eT b (eT b (eT b (lC b (0,!bJ b) [4]) 1) 2) 4)).2=false:=by
      split at h
      · exact(T1 h).1
      · exact h
    obtain ⟨g1,g2,g3,g4,g5,g6⟩:=T1 hu
    obtain ⟨k1,k2,k3,k4⟩:=n5 g1
    obtain ⟨m1,m2,m3,m4⟩:=n5 k1
    obtain ⟨p1,p2,p3,p4⟩:=n5 m1
    obtain ⟨r1,r2,r3,r4⟩:=J2 p1
    rw[r4]at p2 p3
    rw[r4,p3]at m2 m3
    rw[r4,p3,m3]at k2 k3
    rw[r4,p3,m3,k3]at g2 g5 g6
    simp only[pT]at p2 m2 k2 g2 g5 g6 r3
    exact hc ⟨not_iff.1 r1,by omega,r3,g2⟩
theorem Xw {bs:aC} {sa n:Nat} {sf:Bool} (h:sf=true):(sa,true)=eT bs (sa,sf) n:=(I5 (s:=(sa,sf)) (.inl h)).symm
theorem Xx {bs:aC} {sa n:Nat} {sf:Bool} (h:bs.length<sa+n):(sa,true)=eT bs (sa,sf) n:=(I5 (s:=(sa,sf)) (.inr h)).symm
theorem Xy {bs:aC} {sa n:Nat} {sf:Bool} (h:sf=false) (h2:sa+n≤bs.length):(sa+n,sf)=eT bs (sa,sf) n:=by rw[nM (s:=(sa,sf)) h h2,h]
theorem Xq {bs:aC} {sa n:Nat} {sf:Bool} (h:sf=true):List.replicate n 0=aF bs (sa,sf) n:=(AH (s:=(sa,sf)) (.inl h)).symm
theorem Xr {bs:aC} {sa n:Nat} {sf:Bool} (h:bs.length<sa+n):List.replicate n 0=aF bs (sa,sf) n:=(AH (s:=(sa,sf)) (.inr h)).symm
theorem Iq {bs:aC} {s t:Nat×Bool} {l:aC} (h1:t=eT bs s l.length) (h: ¬ aF bs s l.length=l):(t.1,true)=lC bs s l:=by
  unfold lC
  rw[b0 h,h1]
theorem Ir {bs:aC} {s t:Nat×Bool} {l:aC} (h1:t=eT bs s l.length) (h:aF bs s l.length=l):t=lC bs s l:=by
  unfold lC
  rw[cF h,h1]
theorem I6 {bs:aC} {s:Nat×Bool} (hv:s.2=false→bJ bs=true):(jM bs s).length≤255:=by
  unfold jM
  rw[oQ,Xp]
  have:=HH hv
  omega
theorem zL {bs:aC} {s s1 s2 s3:Nat×Bool} (h1:s1=eT bs s 1) (hk:cH bs s=1) (h2:s2=eT bs s1 4) (h3:s3=eT bs s2 2):eU bs s=((cH bs s,aF bs s1 4,[],aL (aF bs s2 2)),if dN (cH bs s) (aF bs s1 4) [] (aL (aF bs s2 2))=true then s3 else(s3.1,true)):=by
  subst h1 h2 h3
  have h3: ¬ cH bs s=3:=by omega
  unfold eU
  simp only[cF hk,b0 h3]
theorem zM {bs:aC} {s s1 s2 s3:Nat×Bool} (h1:s1=eT bs s 1) (hn: ¬ cH bs s=1) (hk:cH bs s=3) (h2:s2=vJ bs s1) (h3:s3=eT bs s2 2):eU bs s=((cH bs s,[],jM bs s1,aL (aF bs s2 2)),if dN (cH bs s) [] (jM bs s1) (aL (aF bs s2 2))=true then s3 else(s3.1,true)):=by
  subst h1 h2 h3
  unfold eU
  simp only[cF hk,b0 hn]
theorem zK {bs:aC} {s s1 s3:Nat×Bool} (h1:s1=eT bs s 1) (hn: ¬ cH bs s=1) (hk: ¬ cH bs s=3) (h3:s3=eT bs s1 2):eU bs s=((cH bs s,[],[],aL (aF bs s1 2)),if dN (cH bs s) [] [] (aL (aF bs s1 2))=true then s3 else(s3.1,true)):=by
  subst h1 h3
  unfold eU
  simp only[b0 hk,b0 hn]
theorem RC {b:aC} {s1 s2 s3:Nat×Bool} (h1:s1=lC b (0,!bJ b) [5]) (h2:s2=eT b s1 1) (h3:s3=eT b s2 (cH b s1).toNat):eM b=if s3.2=false∧j9 (aF b s2 (cH b s1).toNat)=true then(aF b s2 (cH b s1).toNat,(s3.1:Int),true) else([],0,false):=by
  subst h1 h2 h3
  exact(Kj b).symm
theorem SJ {b:aC} {s1 s2 s3:Nat×Bool} (h1:s1=lC b (0,!bJ b) [1]) (h2:s2=vJ b s1) (h3:s3=vJ b s2):fA b=if s3.2=false∧iW (jM b s1) (jM b s2)=true then((jM b s1,jM b s2),(s3.1:Int),true) else(([],[]),0,false):=by
  subst h1 h2 h3
  exact(Pj b).symm
theorem Gk {b:aC} {s1 s2 s3 s4:Nat×Bool} (h1:s1=lC b (0,!bJ b) [5]) (h2:s2=eT b s1 1) (h3:s3=lC b s2 [0]) (h4:s4=(eU b s3).2):fL b=(cH b s1,(eU b s3).1,(s4.1:Int),!s4.2):=by
  subst h1 h2 h3 h4
  rfl
theorem S9 {b:aC}:dD b=if (fL b).2.2.2=true∧uV (fL b).1 (fL b).2.1.1 (fL b).2.1.2.1 (fL b).2.1.2.2.1 (fL b).2.1.2.2.2=true then(((fL b).1,(fL b).2.1),(fL b).2.2.1,true) else((0,(0,[],[],0)),0,false):=by
  have h:=Gi b
  unfold dD
  rcases oL (codeFrom b).2.2.2 with hc | hc
  · have he:=h.2 hc
    rw[he]
    have hok:=(QK hc).1
    by_cases h3:1≤(codeFrom b).1∧(codeFrom b).1≤3
    · rw[cF ⟨hc,h3⟩,cF ⟨hc,by unfold uV; rw[decide_eq_true h3]; exact hok⟩]
    · rw[b0 (fun hh=>h3 hh.2),b0]
      rintro ⟨_,hr⟩
      simp only[uV,iF,kP]at hr
      exact h3 hr.1
  · rw[b0 (by rw[hc]; simp),b0 (by rw[← h.1,hc]; simp)]
theorem En {b:aC} {s:Nat×Bool} (hv:s.2=false→bJ b=true):(eU b s).1.2.2.1.length≤255:=by
  unfold eU
  simp only
  split
  · refine I6 fun h=>hv ?_
    exact(n5 h).1
  · simp
theorem Gj (b:aC):(fL b).2.1.2.2.1.length≤255:=by
  unfold fL
  refine En fun h=>?_
  have h1:=(n5 (M3 h).1).1
  exact not_iff.1 (M3 h1).1
theorem U8 {b:aC} {i:Int} (h:0≤i):(b.take (2+i).toNat).drop 2=(b.drop 2).take i.toNat:=Hg (k:=2) h
theorem KA {b:aC} (h:bJ b=false∨b.length<3∨b.getD 0 0≠5∨(b.length:Int)-2<b.getD 1 0∨(bJ b=true∧3≤b.length∧j9 ((b.take (2+b.getD 1 0).toNat).drop 2)=false)):eM b=([],0,false):=by
  refine Kl fun⟨h1,h2,h3,h4,h5⟩=>?_
  rcases h with h | h | h | h | h
  · rw[h1]at h; cases h
  · omega
  · exact h h3
  · omega
  · have hb:=jT h1 (k:=1) (by omega)
    rw[U8 hb.1,h5]at h
    cases h.2.2
theorem Km {b:aC} (h1:bJ b=true) (h2:3≤b.length) (h3:b.getD 0 0=5) (h4:b.getD 1 0≤(b.length:Int)-2) (h5:j9 ((b.take (2+b.getD 1 0).toNat).drop 2)=true):eM b=((b.take (2+b.getD 1 0).toNat).drop 2,2+(((b.take (2+b.getD 1 0).toNat).drop 2).length:Int),true):=by
  have hb:=jT h1 (k:=1) (by omega)
  exact Kn h1 h2 h3 h4 (U8 hb.1) h5 rfl
theorem Jc {lg:List Lg} {u w:aD} {k:Nat} (hk:k<lg.length) (h:lg.getD k lS=(u,w)) (hok:iW u w=true):true=o6 lg u w:=by
  unfold o6
  rw[hok,decide_eq_true]
  · rfl
  · rw[← h]
    exact CV hk
theorem Ja {lg:List Lg} {u w:aD} (h:iW u w=false):false=o6 lg u w:=by
  unfold o6
  rw[h]
  rfl
theorem Jb {lg:List Lg} {u w:aD} {k:Nat} (hk:lg.length≤k) (hn: ∀ j,j<k→ ¬ lg.getD j lS=(u,w)):false=o6 lg u w:=by
  unfold o6
  rw[decide_eq_false,u9]
  intro hm
  obtain ⟨j,hj,he⟩:=xF hm
  refine hn j (by omega) ?_
  rw[gQ,gE hj]
  exact he
theorem ZF {x:Lg} {u w:aD} (h:x.1=u∧x.2=w):x=(u,w):=by rw[← h.1,← h.2]
theorem SS {b:Bool} (h:b=false): ¬ b=true:=by rw[h]; decide
theorem PU {b:aC} {i:Int} (h:4≤i):(b.take i.toNat).drop (i-2).toNat=(b.drop (i.toNat-2)).take 2:=by
  rw[show (i-2).toNat=i.toNat-2 by omega]
  have:=DR b (i.toNat-2) 2
  rw[show i.toNat-2+2=i.toNat by omega]at this
  exact this
theorem Cj {b:aC} {i:Int} (h:4≤i):(b.take (i-2).toNat).drop 2=(b.drop 2).take (i.toNat-4):=by
  rw[show (i-2).toNat=2+(i.toNat-4) by omega,DR]
theorem Et {b:aC} (h1:bJ b=true) (h2:0≤dF b) (h3:dF b≤b.length) (hk:b.getD 0 0=1) (hok:dN (b.getD 0 0) ((b.take 5).drop 1) [] (aL ((b.take (dF b).toNat).drop (dF b-2).toNat))=true):fO b=((b.getD 0 0,(b.take 5).drop 1,[],aL ((b.take (dF b).toNat).drop (dF b-2).toNat)),dF b,true):=by
  have hz:=(pF h1).2 h2
  rw[MB (q:=(b.take 5).drop 1) (nm:=[]) (p:=aL ((b.take (dF b).toNat).drop (dF b-2).toNat)) h1 h2 h3 (by rw[cF hk]; exact DR b 1 4) (by rw[cF hk]) (by rw[PU hz]),cF hok]
theorem Eu {b:aC} (h1:bJ b=true) (h2:0≤dF b) (h3:dF b≤b.length) (hk:b.getD 0 0=1) (hok:dN (b.getD 0 0) ((b.take 5).drop 1) [] (aL ((b.take (dF b).toNat).drop (dF b-2).toNat))=false):fO b=((0,[],[],0),0,false):=by
  have hz:=(pF h1).2 h2
  rw[MB (q:=(b.take 5).drop 1) (nm:=[]) (p:=aL ((b.take (dF b).toNat).drop (dF b-2).toNat)) h1 h2 h3 (by rw[cF hk]; exact DR b 1 4) (by rw[cF hk]) (by rw[PU hz]),b0 (SS hok)]
theorem Er {b:aC} (h1:bJ b=true) (h2:0≤dF b) (h3:dF b≤b.length) (hk: ¬ b.getD 0 0=1) (hok:dN (b.getD 0 0) [] (bT ((b.take (dF b-2).toNat).drop 2)) (aL ((b.take (dF b).toNat).drop (dF b-2).toNat))=true):fO b=((b.getD 0 0,[],bT ((b.take (dF b-2).toNat).drop 2),aL ((b.take (dF b).toNat).drop (dF b-2).toNat)),dF b,true):=by
  have hz:=(pF h1).2 h2
  rw[MB (q:=[]) (nm:=bT ((b.take (dF b-2).toNat).drop 2)) (p:=aL ((b.take (dF b).toNat).drop (dF b-2).toNat)) h1 h2 h3 (by rw[b0 hk]) (by rw[b0 hk,Cj hz]) (by rw[PU hz]),cF hok]
theorem Es {b:aC} (h1:bJ b=true) (h2:0≤dF b) (h3:dF b≤b.length) (hk: ¬ b.getD 0 0=1) (hok:dN (b.getD 0 0) [] (bT ((b.take (dF b-2).toNat).drop 2)) (aL ((b.take (dF b).toNat).drop (dF b-2).toNat))=false):fO b=((0,[],[],0),0,false):=by
  have hz:=(pF h1).2 h2
  rw[MB (q:=[]) (nm:=bT ((b.take (dF b-2).toNat).drop 2)) (p:=aL ((b.take (dF b).toNat).drop (dF b-2).toNat)) h1 h2 h3 (by rw[b0 hk]) (by rw[b0 hk,Cj hz]) (by rw[PU hz]),b0 (SS hok)]
theorem rH {b:aC} (h:b.getD 0 0=1) (h0:0≤dF b):dF b=7:=by
  unfold dF at*
  split
  · rfl
  · rename_i hn
    rw[b0 hn]at h0
    split
    · omega
    · rename_i Kv
      rw[b0 Kv]at h0
      omega
theorem M1 (s:aD):(jX s).1=(lJ s).1∧(jX s).2=(!(lJ s).2 && decide (Lib.itoa (lJ s).1=s)):=by
  unfold jX lJ
  split <;> simp_all
theorem JW (l:aD) (c:UInt8):(dW l c).length≤l.length:=by
  unfold dW
  split <;> simp
  omega
theorem QO (l:aD) (c:UInt8):(kS l c).length≤l.length:=by
  unfold kS
  split <;> simp
theorem YW {s:aD} {k:Nat} (h:(s.take k).all zS=true) (hk:k≤5):0≤oW (s.take k)∧oW (s.take k)≤99999:=by
  have:=YV h (s.take k).length (lA _)
  rw[List.take_length,dV]at this
  have hl:min k s.length=0∨min k s.length=1∨min k s.length=2∨min k s.length=3∨min k s.length=4∨min k s.length=5:=by omega
  rcases hl with hl | hl | hl | hl | hl | hl <;> rw[hl]at this <;> simp at this <;> omega
theorem ZT (s:aD):(k8 s).length=(aB 46 s).length:=by simp[k8]
theorem Ri {s:aD} {k:Nat} (h:k<(aB 46 s).length):(k8 s).take k++[cZ ((aB 46 s).getD k [])]=(k8 s).take (k+1):=by
  rw[qD (by rw[ZT]; exact h)]
  congr 1
  simp[k8,gQ,gE h]
theorem S7 {s:aD} {k:Nat} (h:(aB 46 s).length≤k):(k8 s).take k=k8 s:=lI (by rw[ZT]; exact h)
theorem Rl {q:aC} (h:kO q=true):fJ q≠[]:=by
  rw[KW (wA h)]
  simp
def BZ (q:aC):aD:=if kO q then fJ q else[]
theorem Ro {s:aD} (h: ¬ BZ (k8 s)≠s) (hs: ¬ s=[]):iC s=(k8 s,true):=by
  have h':=Decidable.not_not.1 h
  unfold iC
  unfold BZ at h'
  split at h'
  · rename_i hq
    rw[cF ⟨hq,h'⟩]
  · exact absurd h'.symm hs
theorem ZY {s:aD} (h: ¬ (BZ (k8 s)=s∧ ¬ s=[])):iC s=([],false):=by
  unfold iC
  refine b0 fun hq=>h ?_
  unfold BZ
  rw[cF hq.1]
  refine⟨hq.2,fun he=>?_⟩
  have:=Rl hq.1
  rw[hq.2]at this
  exact this he
theorem CG (s:aD) (n:Int):(addrOf s n).2.2.1.length≤s.length:=by
  unfold addrOf
  split <;> simp
theorem Ex {s:aD} (h:(((aB 58 s).length:Nat):Int)≠2):aG s=((0,[],[],0),false):=by
  unfold aG
  simp only
  exact b0 fun hh=>h (by omega)
theorem Ey {s:aD} (h:dN (addrOf ((aB 58 s).getD 0 []) (cZ ((aB 58 s).getD 1 []))).1 (addrOf ((aB 58 s).getD 0 []) (cZ ((aB 58 s).getD 1 []))).2.1 (addrOf ((aB 58 s).getD 0 []) (cZ ((aB 58 s).getD 1 []))).2.2.1 (addrOf ((aB 58 s).getD 0 []) (cZ ((aB 58 s).getD 1 []))).2.2.2=false):aG s=((0,[],[],0),false):=by
  unfold aG
  simp only
  exact b0 fun hh=>by rw[h]at hh; exact absurd hh.2.1 (by decide)
theorem Ez {s:aD} (h:gZ (addrOf ((aB 58 s).getD 0 []) (cZ ((aB 58 s).getD 1 []))).1 (addrOf ((aB 58 s).getD 0 []) (cZ ((aB 58 s).getD 1 []))).2.1 (addrOf ((aB 58 s).getD 0 []) (cZ ((aB 58 s).getD 1 []))).2.2.1 (addrOf ((aB 58 s).getD 0 []) (cZ ((aB 58 s).getD 1 []))).2.2.2≠s):aG s=((0,[],[],0),false):=by
  unfold aG
  simp only
  exact b0 fun hh=>h hh.2.2
theorem Fa {s:aD} (h0: ¬ (((aB 58 s).length:Nat):Int)≠2) (h1:dN (addrOf ((aB 58 s).getD 0 []) (cZ ((aB 58 s).getD 1 []))).1 (addrOf ((aB 58 s).getD 0 []) (cZ ((aB 58 s).getD 1 []))).2.1 (addrOf ((aB 58 s).getD 0 []) (cZ ((aB 58 s).getD 1 []))).2.2.1 (addrOf ((aB 58 s).getD 0 []) (cZ ((aB 58 s).getD 1 []))).2.2.2=true)
    (h: ¬ gZ (addrOf ((aB 58 s).getD 0 []) (cZ ((aB 58 s).getD 1 []))).1 (addrOf ((aB 58 s).getD 0 []) (cZ ((aB 58 s).getD 1 []))).2.1 (addrOf ((aB 58 s).getD 0 []) (cZ ((aB 58 s).getD 1 []))).2.2.1 (addrOf ((aB 58 s).getD 0 []) (cZ ((aB 58 s).getD 1 []))).2.2.2≠s):aG s=(addrOf ((aB 58 s).getD 0 []) (cZ ((aB 58 s).getD 1 [])),true):=by
  unfold aG
  simp only
  exact cF ⟨by omega,h1,Decidable.not_not.1 h⟩
def iX (s t:aD):Prop:=t.length≤s.length∧s.take t.length=t
instance (s t:aD):Decidable (iX s t):=inferInstanceAs (Decidable (_∧_))
theorem OZ {s t:aD}:iX s t↔t <+:s:=by
  constructor
  · intro h
    rw[← h.2]
    exact List.take_prefix _ _
  · intro h
    exact⟨h.length_le,(List.prefix_iff_eq_take.1 h).symm⟩
def B7:aD:=[67,79,78,78,69,67,84,32]
def vN (s:aD):aD:=if 0≤cE (s.drop 8) 32 then dW (s.drop 8) 32 else[]
def AX (a:Ad):aD:=nG a.1 a.2.1 a.2.2.1 a.2.2.2
def AW (s:aD):Ad×Int×Bool:=
  if iX s B7∧(aG (vN s)).2=true∧iX s (AX (aG (vN s)).1) then((aG (vN s)).1,((AX (aG (vN s)).1).length:Int),true) else((0,[],[],0),0,false)
def yP (s:aD):aD:=if iX s B7 then s.drop 8 else s
theorem Gs {a:Ad} (h:oO a=true):AX a=B7++(gZ a.1 a.2.1 a.2.2.1 a.2.2.2++32::([72,84,84,80,47,49,46,49,13,10,72,111,115,116,58,32]++gZ a.1 a.2.1 a.2.2.1 a.2.2.2++[13,10,13,10])):=by
  unfold AX nG zP
  rw[cF (show dN a.1 a.2.1 a.2.2.1 a.2.2.2=true from h)]
  simp[B7]
theorem Y3 {c:UInt8} (h:lE [45,46] c=true):c≠32:=by
  intro he
  subst he
  revert h
  rw[DG]
  simp
theorem YS {x:Int} (h:0≤x): ∀ c∈Lib.itoa x,c≠32:=by
  intro c hc he
  have:=zZ h c hc
  subst he
  revert this
  decide
theorem YR {a:Ad} (h:oO a=true): ∀ c∈gZ a.1 a.2.1 a.2.2.1 a.2.2.2,c≠32:=by
  intro c hc
  have h':dN a.1 a.2.1 a.2.2.1 a.2.2.2=true:=h
  have e:gZ a.1 a.2.1 a.2.2.1 a.2.2.2=jJ a.1 a.2.1 a.2.2.1++[58]++Lib.itoa a.2.2.2:=by simp[gZ,h']
  rw[e]at hc
  simp only[JG,GV]at hc
  rcases hc with (hc | rfl) | hc
  · exact Y3 ((RL h').2 c hc)
  · decide
  · exact YS (fK h').1 c hc
theorem U3 {s:aD} {a:Ad} (h:oO a=true) (hp:iX s (AX a)):iX s B7∧yP s=s.drop 8∧vN s=gZ a.1 a.2.1 a.2.2.1 a.2.2.2∧dW (s.drop 8) 32=gZ a.1 a.2.1 a.2.2.1 a.2.2.2:=by
  rw[OZ,Gs h]at hp
  obtain ⟨r,hr⟩:=hp
  rw[vR]at hr
  have hc:iX s B7:=OZ.2 ⟨_,hr⟩
  have hd:s.drop 8=gZ a.1 a.2.1 a.2.2.1 a.2.2.2++32::([72,84,84,80,47,49,46,49,13,10,72,111,115,116,58,32]++gZ a.1 a.2.1 a.2.2.1 a.2.2.2++[13,10,13,10]++r):=by
    rw[← hr]
    show (B7++_).drop B7.length=_
    rw[List.drop_left]
    simp
  have hi:=U9 (b:=[72,84,84,80,47,49,46,49,13,10,72,111,115,116,58,32]++gZ a.1 a.2.1 a.2.2.1 a.2.2.2++[13,10,13,10]++r) (YR h)
  have hA:=(U6 (b:=[72,84,84,80,47,49,46,49,13,10,72,111,115,116,58,32]++gZ a.1 a.2.1 a.2.2.1 a.2.2.2++[13,10,13,10]++r) (YR h)).1
  rw[← hd]at hi hA
  refine⟨hc,cF hc,?_,hA⟩
  unfold vN
  rw[cF (by omega),hA]
theorem UI {a:Ad} (h:oO a=true):aG (gZ a.1 a.2.1 a.2.2.1 a.2.2.2)=(a,true):=QE h
theorem Gx {s:aD} (h:(aG (dW (yP s) 32)).2=true) (hp:iX s (AX (aG (dW (yP s) 32)).1)):AW s=((aG (dW (yP s) 32)).1,((AX (aG (dW (yP s) 32)).1).length:Int),true):=by
  have hok:=(MC h).1
  obtain ⟨h1,h2,h3,h4⟩:=U3 (a:=(aG (dW (yP s) 32)).1) hok hp
  have e:aG (vN s)=((aG (dW (yP s) 32)).1,true):=by rw[h3]; exact UI hok
  unfold AW
  rw[e,cF ⟨h1,rfl,hp⟩]
theorem Gw {s:aD} (h: ¬ ((aG (dW (yP s) 32)).2=true∧iX s (AX (aG (dW (yP s) 32)).1))):AW s=((0,[],[],0),0,false):=by
  unfold AW
  refine b0 fun hc=>h ?_
  obtain ⟨h1,h2,h3⟩:=hc
  have hok:=(MC h2).1
  obtain ⟨g1,g2,g3,g4⟩:=U3 (a:=(aG (vN s)).1) hok h3
  have e:aG (dW (yP s) 32)=((aG (vN s)).1,true):=by rw[g2,g4]; exact UI hok
  rw[e]
  exact⟨rfl,h3⟩
abbrev Pr:=Ad×Ad
def BW (p:Pr):Bool:=oO p.1 && oO p.2 && decide (p.1.1=1) && decide (p.2.1=1)
def qM (p:Pr):aD:=[80,82,79,88,89,32,84,67,80,52,32]++fJ p.1.2.1++[32]++fJ p.2.2.1++[32]++Lib.itoa p.1.2.2.2++[32]++Lib.itoa p.2.2.2.2++[13,10]
def kD (p:Pr):aD:=if BW p then qM p else[]
def bM (s:aD):Int:=match (List.range s.length).find? (fun i=>decide (1≤i) && decide (s.getD (i-1) 0=13) && decide (s.getD i 0=10)) with | some i=>(i:Int)+1 | none=> -1
def pG (s:aD):List aD:=aB 32 (s.take ((bM s).toNat-2))
def tF (w:List aD):Pr:=(addrOf (w.getD 2 []) (cZ (w.getD 4 [])),addrOf (w.getD 3 []) (cZ (w.getD 5 [])))
def z8 (s:aD):Pr×Int×Bool:=
  if 0≤bM s∧(pG s).length=6∧kD (tF (pG s))=s.take (bM s).toNat then(tF (pG s),bM s,true) else(((0,[],[],0),(0,[],[],0)),0,false)
def YF (k0:Int) (n:Nat):List Lg:=(List.range n).map fun i=>(SN (k0+2*((i:Nat):Int)),SN (k0+2*((i:Nat):Int)+1))
@[simp] theorem Zk (k0:Int) (n:Nat):(YF k0 n).length=n:=by simp[YF]
theorem Xb {st:Int} {wt:aC} {lg:List Lg} {to:aD} {b:aC}: ∀ u∈(bY st wt lg to b).1.2.2.1,u∈lg:=by
  unfold bY
  split
  · split
    · exact fun u h=>h
    · split <;> exact fun u h=>h
  · simp
theorem Xc (st:Int) (wt:aC) (lg:List Lg) (to:aD) (b:aC):(bY st wt lg to b).1.2.2.2.length≤42:=by
  unfold bY
  split
  · split
    · simp
    · split
      · simp
      · simp only
        unfold fM
        simp only
        split
        · split
          · exact EF _ _ _ _
          · simp
        · simp
  · simp
section
variable {c:Cl} {t:T4} (hc:Gh c.ms c.lu c.lw c.ak c.aq c.an c.apt=true) (ht:iV t.1 t.2.1 t.2.2.1 t.2.2.2=true)
include hc ht
end
def xS:aC:=[67,79,78,78,69,67,84,32]
def yD:aC:=[80,82,79,88,89,32]
def eD:aC:=[13,10,13,10,0,13,10,81,85,73,84,10,33,17]
def oA (b p:aC):Bool:=decide (b.take p.length=p.take b.length)
def pA (b p:aC) (k:Int):Int:=if p.length≤b.length then k else 0
def eY (b:aC):Int:=
  if bJ b=true then
    (if b.length=0 then 0 else if b.getD 0 0=4 then 1 else if b.getD 0 0=5 then 2
     else if oA b xS=true then pA b xS 3 else if oA b yD=true then pA b yD 4 else if oA b eD=true then pA b eD 5 else 6)
  else 6
theorem UM {b p:aC} {k:Nat} (h1:k<b.length) (h2:k<p.length) (h:b.getD k 0≠p.getD k 0):oA b p=false:=by
  refine decide_eq_false fun he=>h ?_
  have:=aS (fun l=>l.getD k 0) he
  simp only[gQ,D2,cF h1,cF h2]at this
  simpa [gQ] using this
theorem UN {b p:aC} {k:Nat} (h1:k<b.length) (h2:k<p.length) (hk:b.take k=p.take k) (h:b.getD k 0=p.getD k 0):b.take (k+1)=p.take (k+1):=by
  rw[qD h1,qD h2,hk]
  have e1:b.getD k 0=b[k]:=by rw[gQ,gE h1]; rfl
  have e2:p.getD k 0=p[k]:=by rw[gQ,gE h2]; rfl
  rw[← e1,← e2,h]
theorem MF {b p:aC} {k:Nat} (xX:k≤b.length) (RG:k≤p.length) (hk:b.take k=p.take k) (h: ¬ (k<b.length∧k<p.length)):oA b p=true:=by
  refine decide_eq_true ?_
  rcases qR k b.length with h1 | h1
  · have h2:p.length≤k:=by omega
    have e:k=p.length:=by omega
    rw[e]at hk
    rw[hk,lI (lA _),lI (by omega)]
  · have e:k=b.length:=by omega
    rw[e]at hk
    rw[← hk,lI (by omega),lI (lA _)]
theorem qH:aW [67,79,78,78,69,67,84,32]=xS:=rfl
theorem qO:aW [80,82,79,88,89,32]=yD:=rfl
def pE (b p:aC):Bool:=decide (p.length≤b.length) && decide (b.take p.length=p)
theorem yI {b p:aC} (h:pE b p=true):oA b p=true∧p.length≤b.length:=by
  simp only[pE,iF,kP]at h
  refine⟨decide_eq_true ?_,h.1⟩
  rw[h.2,lI h.1]
theorem wW {b p:aC} (h:pE p b=true):oA b p=true∧b.length≤p.length:=by
  simp only[pE,iF,kP]at h
  refine⟨decide_eq_true ?_,h.1⟩
  rw[h.2,lI h.1]
theorem yK {b p:aC} (h1:pE b p=false) (h2:pE p b=false):oA b p=false:=by
  refine decide_eq_false fun he=>?_
  rcases Nat.le_total p.length b.length with h | h
  · rw[lI (l:=p) h]at he
    simp[pE,h,he]at h1
  · rw[lI (l:=b) h]at he
    simp[pE,h,← he]at h2
theorem yJ {b p:aC} (h1:pE b p=false) (h2:pE p b=true): ¬ p.length≤b.length:=by
  intro h
  obtain ⟨ha,hb⟩:=wW h2
  have he:=pI ha
  rw[lI (l:=p) h]at he
  simp[pE,h,he]at h1
def N9 (c:aC) (b:aC):aC:=c.set (eY b).toNat (c.getD (eY b).toNat 0+1)
def XT (ls:List aC):aC:=ls.foldl N9 (List.replicate 7 0)
@[simp] theorem Nc (c b:aC):(N9 c b).length=c.length:=by simp[N9]
@[simp] theorem Zj (ls:List aC):(XT ls).length=7:=by
  have: ∀ (ls:List aC) (c:aC),(ls.foldl N9 c).length=c.length:=fun ls=>by
    induction ls with
    | nil=>intro c; rfl
    | cons b t ih=>intro c; rw[CA,ih,Nc]
  unfold XT
  rw[this]
  rfl
theorem rG {ka:Int} {qa:aC} {na:aD} {pa kb:Int} {qb:aC} {nb:aD} {pb:Int} (h:dN ka qa na pa=true∧ka=1∧dN kb qb nb pb=true∧kb=1):
    kO qa=true∧kO qb=true∧(0≤pa∧pa≤9223372036854775807)∧(0≤pb∧pb≤9223372036854775807)∧(fJ qa).length≤15∧(fJ qb).length≤15∧(Lib.itoa pa).length≤21∧(Lib.itoa pb).length≤21:=by
  obtain ⟨h1,h2,h3,h4⟩:=h
  have a1:=zN h1 h2
  have a2:=zN h3 h4
  have b1:0≤pa∧pa≤65535:=by simp only[dN,iF,kP]at h1; exact h1.1
  have b2:0≤pb∧pb≤65535:=by simp only[dN,iF,kP]at h3; exact h3.1
  exact⟨a1,a2,by omega,by omega,(O3 a1).1,(O3 a2).1,sL pa (by omega) (by omega),sL pb (by omega) (by omega)⟩
def l7 (ka:Int) (qa:aC) (na:aD) (pa kb:Int) (qb:aC) (nb:aD) (pb:Int):Bool:=dN ka qa na pa && dN kb qb nb pb && decide (ka=1) && decide (kb=1)
theorem FQ {ka:Int} {qa:aC} {na:aD} {pa kb:Int} {qb:aC} {nb:aD} {pb:Int} (h:l7 ka qa na pa kb qb nb pb=true):dN ka qa na pa=true∧ka=1∧dN kb qb nb pb=true∧kb=1:=by
  simp only[l7,iF,kP]at h
  exact⟨h.1.1.1,h.1.2,h.1.1.2,h.2⟩
def zO (p:Pr):aD:=[80,82,79,88,89]++32::([84,67,80,52]++32::(fJ p.1.2.1++32::(fJ p.2.2.1++32::(Lib.itoa p.1.2.2.2++32::Lib.itoa p.2.2.2.2))))
theorem SF (p:Pr):qM p=zO p++[13,10]:=by simp[qM,zO]
theorem Il {b r:aD} (h: ∀ c∈b,c≠13):bM (b++[13,10]++r)=((b.length:Nat):Int)+2:=by
  have hg: ∀ j,(b++[13,10]++r).getD j 0=if j<b.length then b.getD j 0 else if j=b.length then 13 else if j=b.length+1 then 10 else r.getD (j-(b.length+2)) 0:=by
    intro j
    simp only[gQ,vR]
    by_cases h1:j<b.length
    · rw[List.getElem?_append_left h1,cF h1]
    · rw[P4 (by omega),b0 h1]
      by_cases h2:j=b.length
      · subst h2; simp
      · rw[b0 h2]
        by_cases h3:j=b.length+1
        · subst h3; simp
        · rw[b0 h3,P4 (by simp; omega)]
          simp only[bP,bK]
          rw[show j-b.length-(0+1+1)=j-(b.length+2) by omega]
  have hn: ∀ j,j<b.length→b.getD j 0≠13:=by
    intro j hj
    rw[gQ,gE hj]
    exact h _ (rM hj)
  have hf:(List.range (b++[13,10]++r).length).find? (fun i=>decide (1≤i) && decide ((b++[13,10]++r).getD (i-1) 0=13) && decide ((b++[13,10]++r).getD i 0=10))=some (b.length+1):=by
    rw[GU]
    refine⟨?_,by simp,?_⟩
    · rw[hg,hg]; simp
    · intro j hj
      rw[hg (j-1)]
      rcases wI j with h0 | h0
      · subst h0; simp
      · have h1:j-1<b.length:=by omega
        have:=hn (j-1) h1
        rw[cF h1,decide_eq_false this]; simp
  unfold bM
  rw[hf]
  simp
  omega
theorem ZX {q:aC} (h:kO q=true): ∀ c∈fJ q,c≠13∧c≠32:=by
  intro c hc
  have h1:=(O3 h).2 c hc
  refine⟨fun he=>?_,Y3 h1⟩
  subst he
  revert h1
  rw[DG]
  simp
theorem XP {x:Int} (h:0≤x): ∀ c∈Lib.itoa x,c≠13∧c≠32:=by
  intro c hc
  refine⟨fun he=>?_,YS h c hc⟩
  have:=zZ h c hc
  subst he
  revert this
  decide
def aJ (s:aD):aD:=if 0≤bM s then s.take ((bM s).toNat-2) else s
theorem ZG {p:Pr} (h:BW p=true):(kO p.1.2.1=true∧0≤p.1.2.2.2∧p.1.2.2.2≤65535)∧(kO p.2.2.1=true∧0≤p.2.2.2.2∧p.2.2.2.2≤65535)∧dN p.1.1 p.1.2.1 p.1.2.2.1 p.1.2.2.2=true∧dN p.2.1 p.2.2.1 p.2.2.2.1 p.2.2.2.2=true∧p.1.1=1∧p.2.1=1:=by
  simp only[BW,oO,iF,kP]at h
  obtain ⟨⟨⟨h1,h2⟩,h3⟩,h4⟩:=h
  have b1:0≤p.1.2.2.2∧p.1.2.2.2≤65535:=by have V4:=h1; simp only[dN,iF,kP]at V4; exact V4.1
  have b2:0≤p.2.2.2.2∧p.2.2.2.2≤65535:=by have V5:=h2; simp only[dN,iF,kP]at V5; exact V5.1
  exact⟨⟨zN h1 h3,b1⟩,⟨zN h2 h4,b2⟩,h1,h2,h3,h4⟩
theorem UL {a:Ad} (h:dN a.1 a.2.1 a.2.2.1 a.2.2.2=true) (h1:a.1=1):aG (fJ a.2.1++[58]++Lib.itoa a.2.2.2)=(a,true)∧addrOf (fJ a.2.1) (cZ (Lib.itoa a.2.2.2))=a:=by
  have e1:jJ a.1 a.2.1 a.2.2.1=fJ a.2.1:=by simp[jJ,h1]
  have b:0≤a.2.2.2∧a.2.2.2≤65535:=by have h':=h; simp only[dN,iF,kP]at h'; exact h'.1
  constructor
  · have:=QE h
    rw[← QG h,e1]at this
    exact this
  · rw[SX b,← e1]
    exact QF h
theorem Ou {s:aD} {p:Pr} (h:BW p=true) (hp:iX s (qM p)):
    bM s=(((qM p).length:Nat):Int)∧aJ s=zO p∧pG s=[[80,82,79,88,89],[84,67,80,52],fJ p.1.2.1,fJ p.2.2.1,Lib.itoa p.1.2.2.2,Lib.itoa p.2.2.2.2]:=by
  obtain ⟨⟨Kw,zV⟩,⟨Kx,pN⟩,_⟩:=ZG h
  have n1:=ZX Kw
  have n2:=ZX Kx
  have n3:=XP zV.1
  have n4:=XP pN.1
  rw[OZ,SF]at hp
  obtain ⟨r,hr⟩:=hp
  have hb: ∀ c∈zO p,c≠13:=by
    intro c hc
    simp only[zO,JG,List.mem_cons,List.not_mem_nil,or_false]at hc
    rcases hc with (rfl | rfl | rfl | rfl | rfl) | rfl | (rfl | rfl | rfl | rfl) | rfl | hc | rfl | hc | rfl | hc | rfl | hc
    all_goals first | decide | exact(n1 c hc).1 | exact(n2 c hc).1 | exact(n3 c hc).1 | exact(n4 c hc).1
  have e1:bM s=(((zO p).length:Nat):Int)+2:=by rw[← hr]; exact Il hb
  have e2:s.take ((bM s).toNat-2)=zO p:=by
    rw[e1,← hr,show ((((zO p).length:Nat):Int)+2).toNat-2=(zO p).length by omega,vR,GY]
  refine⟨by rw[e1,SF]; simp,?_,?_⟩
  · unfold aJ
    rw[cF (by rw[e1]; omega),e2]
  · unfold pG
    rw[e2]
    unfold zO
    rw[yH (by decide),yH (by decide),yH (fun c hc=>(n1 c hc).2),yH (fun c hc=>(n2 c hc).2),yH (fun c hc=>(n3 c hc).2),IZ (fun c hc=>(n4 c hc).2)]
def nJ (s:aD):(Ad×Bool)×(Ad×Bool):=(aG ((aB 32 (aJ s)).getD 2 []++[58]++(aB 32 (aJ s)).getD 4 []),aG ((aB 32 (aJ s)).getD 3 []++[58]++(aB 32 (aJ s)).getD 5 []))
theorem X5 {s:aD} {p:Pr} (h:BW p=true) (hp:iX s (qM p)):z8 s=(p,(((qM p).length:Nat):Int),true)∧(aB 32 (aJ s)).length=6∧nJ s=((p.1,true),(p.2,true)):=by
  obtain ⟨k1,k2,k3⟩:=Ou h hp
  obtain ⟨_,_,h1,h2,h3,h4⟩:=ZG h
  have a1:=UL (a:=p.1) h1 h3
  have a2:=UL (a:=p.2) h2 h4
  have e:tF (pG s)=p:=by
    unfold tF
    rw[k3]
    show (addrOf (fJ p.1.2.1) (cZ (Lib.itoa p.1.2.2.2)),addrOf (fJ p.2.2.1) (cZ (Lib.itoa p.2.2.2.2)))=p
    rw[a1.2,a2.2]
  have hcut:aB 32 (aJ s)=pG s:=by
    unfold pG aJ
    rw[cF (by rw[k1]; omega)]
  refine⟨?_,by rw[hcut,k3]; rfl,?_⟩
  · unfold z8
    rw[e,k3,k1,cF]
    refine⟨by omega,rfl,?_⟩
    unfold kD
    rw[cF h]
    simpa using hp.2.symm
  · unfold nJ
    rw[hcut,k3]
    show (aG (fJ p.1.2.1++[58]++Lib.itoa p.1.2.2.2),aG (fJ p.2.2.1++[58]++Lib.itoa p.2.2.2.2))=_
    rw[a1.1,a2.1]
theorem CO (s:aD):bM s≤(s.length:Int)∧(0≤bM s→2≤bM s):=by
  unfold bM
  split
  · rename_i i hi
    have hm:=GS hi
    have hp:=JH hi
    simp at hm hp
    omega
  · simp
theorem Ow {s:aD} (h1:(nJ s).1.2=true) (h2:(nJ s).2.2=true) (h3:kD ((nJ s).1.1,(nJ s).2.1)≠[]) (h4:iX s (kD ((nJ s).1.1,(nJ s).2.1))):
    z8 s=(((nJ s).1.1,(nJ s).2.1),(((kD ((nJ s).1.1,(nJ s).2.1)).length:Nat):Int),true):=by
  have hk:BW ((nJ s).1.1,(nJ s).2.1)=true:=by
    rcases oL (BW ((nJ s).1.1,(nJ s).2.1)) with hh | hh
    · exact hh
    · exact absurd (by simp[kD,hh]) h3
  have e:kD ((nJ s).1.1,(nJ s).2.1)=qM ((nJ s).1.1,(nJ s).2.1):=by simp[kD,hk]
  rw[e]at h4 ⊢
  exact(X5 hk h4).1
theorem Ov {s:aD} (h: ¬ ((aB 32 (aJ s)).length=6∧(nJ s).1.2=true∧(nJ s).2.2=true∧kD ((nJ s).1.1,(nJ s).2.1)≠[]∧iX s (kD ((nJ s).1.1,(nJ s).2.1)))):
    z8 s=(((0,[],[],0),(0,[],[],0)),0,false):=by
  unfold z8
  refine b0 fun hc=>h ?_
  obtain ⟨g1,g2,g3⟩:=hc
  have hl:=(CO s).1
  have h2:=(CO s).2 g1
  have hk:BW (tF (pG s))=true:=by
    rcases oL (BW (tF (pG s))) with hh | hh
    · exact hh
    · have e:kD (tF (pG s))=[]:=by simp[kD,hh]
      rw[e]at g3
      have:=aS List.length g3
      simp at this
      omega
  have e:kD (tF (pG s))=qM (tF (pG s)):=by simp[kD,hk]
  have hp:iX s (qM (tF (pG s))):=by
    rw[← e,g3,OZ]
    exact List.take_prefix _ _
  obtain ⟨_,k1,k2⟩:=X5 hk hp
  rw[k2]
  refine⟨k1,rfl,rfl,?_,?_⟩
  · show kD (tF (pG s))≠[]
    rw[e,SF]; simp
  · show iX s (kD (tF (pG s)))
    rw[e]; exact hp
abbrev LN:=List (Int×aC)
def pQ (b:aC):Int:=aL ((b.drop 1).take 2)
def yN:Nat→aC→Option LN
  | 0,b=>if b.length=0 then some [] else none
  | n+1,b=>if b.length=0 then some [] else if b.length<3∨(b.length:Int)-3<pQ b then none else(yN n (b.drop (3+(pQ b).toNat))).map ((b.getD 0 0,(b.drop 3).take (pQ b).toNat):: ·)
def mG (b:aC):Option LN:=yN b.length b
theorem Ws: ∀ (n:Nat) (b:aC),b.length≤n→yN n b=mG b:=by
  have key: ∀ (m:Nat) (b:aC) (n:Nat),b.length≤m→b.length≤n→yN n b=yN m b:=by
    intro m
    induction m with
    | zero=>
      intro b n h1 h2
      have:b.length=0:=by omega
      cases n <;> simp[yN,this]
    | succ m ih=>
      intro b n h1 h2
      cases n with
      | zero=>
        have:b.length=0:=by omega
        simp[yN,this]
      | succ n=>
        unfold yN
        split
        · rfl
        · split
          · rfl
          · rw[ih _ n (by simp; omega) (by simp; omega)]
  intro n b h
  exact key b.length b n (lA _) h
theorem Wr {b:aC} (h:b.length=0):mG b=some []:=by
  unfold mG
  rw[h]
  simp[yN,h]
theorem Ch {b:aC} (h0:b.length≠0) (h:b.length<3∨(b.length:Int)-3<pQ b):mG b=none:=by
  unfold mG
  cases hl:b.length with
  | zero=>exact absurd hl h0
  | succ n=>simp only[yN]; rw[b0 h0,cF h]
theorem Ci {b:aC} (h: ¬ (b.length<3∨(b.length:Int)-3<pQ b)):mG b=(mG (b.drop (3+(pQ b).toNat))).map ((b.getD 0 0,(b.drop 3).take (pQ b).toNat):: ·):=by
  have h0:b.length≠0:=by omega
  conv=>lhs; unfold mG
  cases hl:b.length with
  | zero=>exact absurd hl h0
  | succ n=>
    simp only[yN]
    rw[b0 h0,b0 h,Ws n _ (by simp; omega)]
def yM (t:Int×aC):Bool:=decide (0≤t.1∧t.1≤255) && decide (t.2.length≤16) && bJ t.2
def wX (l:LN):Bool:=decide (l.length≤4) && l.all yM
def kX (b:aC):Bool:=bJ b && (match mG b with | some l=>wX l | none=>false)
def wF (b:aC) (s:Nat×Bool):Nat×Bool:=eT b (eT b (eT b s 1) 2) (aL (aF b (eT b s 1) 2)).toNat
def GH (b:aC) (s:Nat×Bool):Int×aC:=(cH b s,aF b (eT b (eT b s 1) 2) (aL (aF b (eT b s 1) 2)).toNat)
theorem QU {b:aC} {k:Nat} (h:k≤b.length):(b.drop k).length=b.length-k:=by simp
theorem PS {b:aC} {k:Nat}:pQ (b.drop k)=aL ((b.drop (k+1)).take 2):=by
  unfold pQ; rw[yW]
theorem Wp {b:aC} {k:Nat} (hv:bJ b=true) (h:(wF b (k,false)).2=false):(wF b (k,false)).1=k+3+(pQ (b.drop k)).toNat∧(wF b (k,false)).1≤b.length∧mG (b.drop k)=(mG (b.drop (wF b (k,false)).1)).map (GH b (k,false):: ·):=by
  unfold wF at h ⊢
  obtain ⟨h3,l3,e3,v3⟩:=n5 h
  obtain ⟨h2,l2,e2,v2⟩:=n5 h3
  obtain ⟨h1,l1,e1,v1⟩:=n5 h2
  rw[e1]at h2 l2 e2 v2 h3 l3 e3 v3
  simp only at l1 l2 l3 e1 e2 e3 v2
  rw[e2,v2]at l3 e3
  simp only at l3 e3
  have hs:pQ (b.drop k)=aL ((b.drop (k+1)).take 2):=PS
  have h0:=(KU hv (k+1)).1
  rw[e1,e2,v2,e3]
  simp only
  rw[← hs]at l3 ⊢
  have hx:k+1+2+(pQ (b.drop k)).toNat=k+3+(pQ (b.drop k)).toNat:=by omega
  refine⟨hx,l3,?_⟩
  rw[Ci (by rw[QU (by omega)]; rw[← hs]at h0; omega)]
  have e4:(b.drop k).drop (3+(pQ (b.drop k)).toNat)=b.drop (k+1+2+(pQ (b.drop k)).toNat):=by
    rw[yW]; congr 1; omega
  rw[e4]
  congr 2
  unfold GH
  rw[e1,e2,v2,vC rfl l1,← hs,rI rfl l3,yW]
  rw[gQ,gQ,D3]
  rfl
theorem Wo {b:aC} {k:Nat} (hv:bJ b=true) (hk:k<b.length) (h:(wF b (k,false)).2=true):mG (b.drop k)=none:=by
  refine Ch (by rw[QU (by omega)]; omega) ?_
  rw[QU (by omega)]
  by_cases h3:b.length-k<3
  · exact .inl h3
  · refine .inr ?_
    unfold wF at h
    rw[nM (s:=(k,false)) rfl (by simp; omega),nM (s:=(k+1,false)) rfl (by simp; omega),rI (s:=(k+1,false)) rfl (by simp; omega)]at h
    have hs:pQ (b.drop k)=aL ((b.drop (k+1)).take 2):=PS
    have h0:=(KU hv (k+1)).1
    simp only at h
    rw[← hs]at h h0
    by_cases hl:k+1+2+(pQ (b.drop k)).toNat≤b.length
    · rw[nM (s:=(k+1+2,false)) rfl (by simpa using hl)]at h
      cases h
    · omega
def oD (b:aC):Int:=aL ((b.drop 14).take 2)
def iD (b:aC):Int×Bool:=if bJ b=true∧28≤b.length∧oA b eD=true∧12≤oD b∧oD b≤(b.length:Int)-16∧kX ((b.take (16+oD b).toNat).drop 28)=true then(16+oD b,true) else(0,false)
def BG (b:aC):Nat×Bool:=lC b (0,!bJ b) eD
def BH (b:aC):Nat×Bool:=eT b (BG b) 2
def CX (b:aC):Int:=aL (aF b (BG b) 2)
def rU (b:aC):Nat×Bool:=eT b (BH b) (CX b).toNat
def lK (b:aC):aC:=aF b (BH b) (CX b).toNat
def tY (c:aC):Nat×Bool:=eT c (eT c (eT c (eT c (0,!bJ c) 4) 4) 2) 2
theorem HT:eD.length=14:=rfl
theorem WH {b:aC} (h1:(rU b).2=false) (h2:(tY (lK b)).2=false):
    bJ b=true∧28≤b.length∧oA b eD=true∧12≤oD b∧oD b≤(b.length:Int)-16∧(lK b).drop (tY (lK b)).1=(b.take (16+oD b).toNat).drop 28∧((rU b).1:Int)=16+oD b:=by
  unfold rU at h1
  obtain ⟨g2,l2,e2,v2⟩:=n5 h1
  unfold BH at g2
  obtain ⟨g1,l1,e1,v1⟩:=n5 g2
  unfold BG at g1
  obtain ⟨g0,l0,a0,e0⟩:=M3 g1
  have hv:bJ b=true:=by simpa using g0
  have r1:BG b=(14,false):=by unfold BG; rw[e0]; simp[HT]
  have r2:BH b=(16,false):=by unfold BH; rw[r1]at e1 ⊢; rw[e1]
  have n1:CX b=oD b:=by unfold CX oD; rw[r1]at v1 ⊢; rw[v1]
  rw[r2,n1]at l2 e2 v2
  have hb:=(KU hv 14)
  have hb':0≤oD b:=hb.1
  simp only at l2 e2 v2
  have hB:lK b=(b.drop 16).take (oD b).toNat:=by unfold lK; rw[r2,n1]; exact v2
  unfold tY at h2 ⊢
  obtain ⟨k4,m4,f4,_⟩:=n5 h2
  obtain ⟨k3,m3,f3,_⟩:=n5 k4
  obtain ⟨k2,m2,f2,_⟩:=n5 k3
  obtain ⟨k1,Pq,f1,_⟩:=n5 k2
  have hl:(lK b).length=(oD b).toNat:=by rw[hB]; simp; omega
  rw[f1]at f2 m2
  rw[f1,f2]at f3 m3
  rw[f1,f2,f3]at f4 m4
  simp only at Pq m2 m3 m4 f2 f3 f4
  rw[f1,f2,f3,f4]
  simp only
  refine⟨hv,by omega,?_,by omega,by omega,?_,?_⟩
  · unfold oA
    rw[kP]
    simp only[HT]at a0 l0 ⊢
    rw[List.drop_zero]at a0
    rw[a0,lI (by rw[HT]; omega)]
  · rw[hB,uZ,yW,uZ]
    rw[show (oD b).toNat-(0+4+4+2+2)=(16+oD b).toNat-28 by omega]
  · unfold rU
    rw[r2,n1,e2]
    simp only
    omega
theorem Ka {b:aC} (h1:bJ b=true) (h2:28≤b.length) (h3:oA b eD=true) (h4:12≤oD b) (h5:oD b≤(b.length:Int)-16):(rU b).2=false∧(tY (lK b)).2=false:=by
  have a0:(b.drop 0).take eD.length=eD:=by
    have:=pI h3
    rw[List.drop_zero,this,lI (by rw[HT]; omega)]
  have r1:BG b=(14,false):=by unfold BG; rw[VT (by simp[h1]) (by simp[HT]; omega) a0]; simp[HT]
  have r2:BH b=(16,false):=by unfold BH; rw[r1,nM rfl (by simp; omega)]
  have n1:CX b=oD b:=by unfold CX oD; rw[r1,rI rfl (by simp; omega)]
  have r3:rU b=(16+(oD b).toNat,false):=by unfold rU; rw[r2,n1,nM rfl (by simp; omega)]
  have hB:lK b=(b.drop 16).take (oD b).toNat:=by unfold lK; rw[r2,n1,rI rfl (by simp; omega)]
  have hl:(lK b).length=(oD b).toNat:=by rw[hB]; simp; omega
  have hv:bJ (lK b)=true:=N1 h1 (by rw[hB]; exact(List.take_sublist _ _).trans (LS _ _))
  refine⟨by rw[r3],?_⟩
  unfold tY
  have f1:eT (lK b) (0,!bJ (lK b)) 4=(4,false):=nM (by simp[hv]) (by simp; omega)
  have f2:eT (lK b) (4,false) 4=(8,false):=nM rfl (by simp; omega)
  have f3:eT (lK b) (8,false) 2=(10,false):=nM rfl (by simp; omega)
  have f4:eT (lK b) (10,false) 2=(12,false):=nM rfl (by simp; omega)
  rw[f1,f2,f3,f4]
theorem Kg {b:aC} (h1:(rU b).2=false) (h2:(tY (lK b)).2=false) (h3:kX ((lK b).drop (tY (lK b)).1)=true):iD b=(((rU b).1:Int),true):=by
  obtain ⟨a1,a2,a3,a4,a5,a6,a7⟩:=WH h1 h2
  unfold iD
  rw[cF ⟨a1,a2,a3,a4,a5,by rw[← a6]; exact h3⟩,a7]
theorem Ke {b:aC} (h:(rU b).2=true∨(tY (lK b)).2=true):iD b=(0,false):=by
  unfold iD
  refine b0 fun hc=>?_
  have:=Ka hc.1 hc.2.1 hc.2.2.1 hc.2.2.2.1 hc.2.2.2.2.1
  rcases h with h | h
  · rw[this.1]at h; cases h
  · rw[this.2]at h; cases h
theorem Kf {b:aC} (h1:(rU b).2=false) (h2:(tY (lK b)).2=false) (h3:kX ((lK b).drop (tY (lK b)).1)=false):iD b=(0,false):=by
  obtain ⟨a1,a2,a3,a4,a5,a6,a7⟩:=WH h1 h2
  unfold iD
  refine b0 fun hc=>?_
  rw[← a6,h3]at hc
  exact absurd hc.2.2.2.2.2 (by decide)
def gB (b:aC):Int×Bool:=
  if eY b=1 then(yC b).2 else if eY b=2 then(eM b).2 else if eY b=3 then(AW (bT b)).2 else if eY b=4 then(z8 (bT b)).2 else if eY b=5 then iD b else(0,false)
def stateT (k:Int):aD:=if k=0 then[104,101,108,108,111] else if k=1 then[108,111,103,105,110] else if k=2 then[114,101,113,117,101,115,116] else if k=3 then[111,112,101,110] else[115,104,117,116]
def kC (b:aC) (f:Bool):aD:=if f=true then mX b else[110,111]
def m7 (s:aD):aD×aD:=if (aB 47 s).length=2 then((aB 47 s).getD 0 [],(aB 47 s).getD 1 []) else([],[])
theorem TX {p:Int→Bool}: ∀ (l:aC) (m:Nat),m<l.length→(∀ j,j<m→p (l.getD j 0)=true)→p (l.getD m 0)=false→(l.takeWhile p).length=m
  | [],m,h,_,_=>by cases h
  | a::l,0,_,_,h=>by
    have:p a=false:=by simpa using h
    simp[List.takeWhile_cons,this]
  | a::l,m+1,h,hj,he=>by
    have ha:p a=true:=by simpa using hj 0 (by omega)
    rw[List.takeWhile_cons,cF ha,bP]
    rw[TX l m (by simpa using h) (fun j hjm=>by simpa using hj (j+1) (by omega)) (by simpa using he)]
theorem TW {p:Int→Bool}: ∀ (l:aC),(∀ j,j<l.length→p (l.getD j 0)=true)→(l.takeWhile p).length=l.length
  | [],_=>rfl
  | a::l,h=>by
    have ha:p a=true:=by simpa using h 0 (by simp)
    rw[List.takeWhile_cons,cF ha,bP,bP]
    rw[TW l (fun j hj=>by simpa using h (j+1) (by simpa using hj))]
theorem wQ {α:Type} {l:List α} {k j:Nat} {d:α}:(l.drop k).getD j d=l.getD (k+j) d:=by
  rw[gQ,gQ,D3]
theorem Yy {b:aC} {k0 k:Nat} (h0:k0≤k) (hk:k<b.length) (ha: ∀ j,k0≤j→j<k→b.getD j 0≠0) (h:b.getD k 0=0):zE b k0=((k:Nat):Int):=by
  have e:((b.drop k0).takeWhile fun x=>decide (x≠0)).length=k-k0:=by
    refine TX _ _ (by simp; omega) (fun j hj=>?_) ?_
    · rw[wQ]; exact decide_eq_true (ha (k0+j) (by omega) (by omega))
    · rw[wQ,show k0+(k-k0)=k by omega,h]; decide
  unfold zE
  rw[e,cF (by omega)]
  omega
theorem Yz {b:aC} {k0 k:Nat} (hk:b.length≤k) (ha: ∀ j,k0≤j→j<k→b.getD j 0≠0):zE b k0= -1:=by
  have e:((b.drop k0).takeWhile fun x=>decide (x≠0)).length=(b.drop k0).length:=by
    refine TW _ (fun j hj=>?_)
    simp at hj
    rw[wQ]; exact decide_eq_true (ha (k0+j) (by omega) (by omega))
  unfold zE
  rw[e,b0 (by simp; omega)]
theorem VO {s:aD} {k:Nat} (h1:1≤k) (hk:k<s.length) (ha: ∀ j,1≤j→j<k→ ¬ (s.getD (j-1) 0=13∧s.getD j 0=10)) (h:s.getD (k-1) 0=13∧s.getD k 0=10):bM s=((k:Nat):Int)+1:=by
  have hf:(List.range s.length).find? (fun i=>decide (1≤i) && decide (s.getD (i-1) 0=13) && decide (s.getD i 0=10))=some k:=by
    rw[GU]
    refine⟨by simp[h1,h.1,h.2, -List.getD_eq_getElem?_getD],by simpa using hk,fun j hj=>?_⟩
    rcases wI j with h0 | h0
    · subst h0; simp
    · have:=ha j h0 hj
      rw[Bool.not_eq_true',Bool.and_assoc,Bool.and_eq_false_iff]
      refine .inr ?_
      rw[← Bool.decide_and]
      exact decide_eq_false this
  unfold bM
  rw[hf]
theorem VN {s:aD} {k:Nat} (hk:s.length≤k) (ha: ∀ j,1≤j→j<k→ ¬ (s.getD (j-1) 0=13∧s.getD j 0=10)):bM s= -1:=by
  have hf:(List.range s.length).find? (fun i=>decide (1≤i) && decide (s.getD (i-1) 0=13) && decide (s.getD i 0=10))=none:=by
    rw[D4]
    intro i hi
    simp only[List.mem_range]at hi
    rcases wI i with h0 | h0
    · subst h0; simp
    · have:=ha i h0 (by omega)
      rw[Bool.and_assoc,← Bool.decide_and,decide_eq_false this]
      simp
  unfold bM
  rw[hf]
def gO (s:aD) (k:Nat):aD:=if 0≤cE (s.drop k) 32 then dW (s.drop k) 32 else[]
theorem Ec (s:aD):gO s 8=vN s:=rfl
theorem Yu {s:aD} {k0 k:Nat} (h0:k0≤k) (hk:k<s.length) (ha: ∀ j,k0≤j→j<k→s.getD j 0≠32) (h:s.getD k 0=32):gO s k0=(s.take k).drop k0:=by
  have e:cE (s.drop k0) 32=((k-k0:Nat):Int):=by
    refine R2 (by simp; omega) (fun j hj=>?_) ?_
    · rw[wQ]; exact ha _ (by omega) (by omega)
    · rw[wQ,show k0+(k-k0)=k by omega]; exact h
  unfold gO dW
  rw[e,cF (by omega),cF (by omega)]
  show (s.drop k0).take (k-k0)=_
  rw[uZ]
theorem Yw {s:aD} {k0 k:Nat} (hk:s.length≤k) (ha: ∀ j,k0≤j→j<k→s.getD j 0≠32):gO s k0=[]:=by
  have e:cE (s.drop k0) 32= -1:=by
    refine XL (fun j hj=>?_)
    simp at hj
    rw[wQ]; exact ha _ (by omega) (by omega)
  unfold gO
  rw[e,b0 (by omega)]
theorem HI {a:UInt8}:((a.toNat:Nat):Int)=13↔a=13:=⟨fun h=>UInt8.toNat_inj.1 (by have:(13:UInt8).toNat=13:=rfl; omega),fun h=>by subst h; rfl⟩
theorem wP {a:UInt8}:((a.toNat:Nat):Int)=10↔a=10:=⟨fun h=>UInt8.toNat_inj.1 (by have:(10:UInt8).toNat=10:=rfl; omega),fun h=>by subst h; rfl⟩
theorem UU {a:UInt8}:((a.toNat:Nat):Int)=32↔a=32:=⟨fun h=>UInt8.toNat_inj.1 (by have:(32:UInt8).toNat=32:=rfl; omega),fun h=>by subst h; rfl⟩
def gW (b:aC):Int×Bool:=(yC b).2
def jO (s:aD):Int×Bool:=(AW s).2
def iO (s:aD):Int×Bool:=(z8 s).2
theorem pH (b:aC) (k:Nat): -1≤zE b k∧zE b k<(b.length:Int)∧(0≤zE b k→(k:Int)≤zE b k):=by
  unfold zE
  split <;> omega
theorem wE {b:aC} {i j:Nat} (h:bJ b=true): ∀ x∈(b.take i).drop j,0≤x∧x≤255:=fun x hx=>(sZ.1 h).1 x (vP (uW hx))
theorem IH {b:aC} (h:bJ b=false∨b.length<9∨b.getD 0 0≠4∨zE b 8<0∨((b.getD 4 0=0∧b.getD 5 0=0∧b.getD 6 0=0)∧(zE b (zE b 8+1).toNat<0∨b.getD 7 0≠1))):gW b=(0,false):=by
  unfold gW yC
  simp only
  rw[b0]
  intro hc
  obtain ⟨h1,h2,h3,h4,h5,h6⟩:=hc
  rcases h with h | h | h | h | ⟨hn,h⟩
  · rw[h]at h1; cases h1
  · omega
  · exact h h3
  · omega
  · have:=h5 hn
    rw[show (zE b 8+1).toNat=(zE b 8).toNat+1 by omega]at h
    rcases h with h | h
    · omega
    · exact h this.2
theorem IG {b:aC} {f:Bool} (h1:bJ b=true) (h2:9≤b.length) (h3:b.getD 0 0=4) (h4:0≤zE b 8) (hn: ¬ (b.getD 4 0=0∧b.getD 5 0=0∧b.getD 6 0=0))
    (h:gL (b.getD 1 0) 1 ((b.take 8).drop 4) [] (aL ((b.take 4).drop 2)) (bT ((b.take (zE b 8).toNat).drop 8))=f):gW b=if f=true then(zE b 8+1,true) else(0,false):=by
  have e1:(b.take 8).drop 4=(b.drop 4).take 4:=by rw[uZ]
  have e2:(b.take 4).drop 2=(b.drop 2).take 2:=by rw[uZ]
  rw[e1,e2]at h
  unfold gW yC
  simp only[b0 hn,DH,h]
  cases f
  · simp
  · rw[cF ⟨h1,h2,h3,h4,fun x=>absurd x hn,rfl⟩]; rfl
theorem Y9 {b:aC} {f:Bool} (h1:bJ b=true) (h2:9≤b.length) (h3:b.getD 0 0=4) (h4:0≤zE b 8) (hn:b.getD 4 0=0∧b.getD 5 0=0∧b.getD 6 0=0) (h5:0≤zE b (zE b 8+1).toNat) (h6:b.getD 7 0=1)
    (h:gL (b.getD 1 0) 3 [] (bT ((b.take (zE b (zE b 8+1).toNat).toNat).drop (zE b 8+1).toNat)) (aL ((b.take 4).drop 2)) (bT ((b.take (zE b 8).toNat).drop 8))=f):gW b=if f=true then(zE b (zE b 8+1).toNat+1,true) else(0,false):=by
  have e2:(b.take 4).drop 2=(b.drop 2).take 2:=by rw[uZ]
  have e3:(zE b 8+1).toNat=(zE b 8).toNat+1:=by omega
  rw[e2,e3]at h
  rw[e3]at h5 ⊢
  unfold gW yC
  simp only[cF hn,DH,h]
  cases f
  · simp
  · rw[cF ⟨h1,h2,h3,h4,fun _=>⟨h5,h6⟩,rfl⟩]; rfl
theorem QN {s:aD} (h: ¬ iX s [67,79,78,78,69,67,84,32]∨(aG (gO s 8)).2=false∨ ¬ iX s (nG (aG (gO s 8)).1.1 (aG (gO s 8)).1.2.1 (aG (gO s 8)).1.2.2.1 (aG (gO s 8)).1.2.2.2)):jO s=(0,false):=by
  unfold jO AW
  rw[b0]
  rw[← Ec]
  intro hc
  rcases h with h | h | h
  · exact h hc.1
  · rw[h]at hc; cases hc.2.1
  · exact h hc.2.2
theorem Gv {s:aD} (h1:iX s [67,79,78,78,69,67,84,32]) (h2:(aG (gO s 8)).2=true) (h3:iX s (nG (aG (gO s 8)).1.1 (aG (gO s 8)).1.2.1 (aG (gO s 8)).1.2.2.1 (aG (gO s 8)).1.2.2.2)):
    jO s=(((nG (aG (gO s 8)).1.1 (aG (gO s 8)).1.2.1 (aG (gO s 8)).1.2.2.1 (aG (gO s 8)).1.2.2.2).length:Int),true):=by
  unfold jO AW
  rw[← Ec,cF ⟨h1,h2,h3⟩]
  rfl
theorem Yv (s:aD) (k:Nat):(gO s k).length≤s.length:=by
  unfold gO
  split
  · have:=JW (s.drop k) 32
    simp at this
    omega
  · simp
theorem EE (s:aD):(aG s).1.2.2.1.length≤64:=by
  rcases oL (aG s).2 with h | h
  · have h0:=(MC h).1
    have h1:=fK h0
    simp only[dN,iF,Bool.or_eq_true,kP]at h0
    rcases h0.2 with ⟨_,hn⟩ | ⟨⟨hk,_⟩,_⟩
    · rw[hn]; simp
    · have:=h1.2.2.2 (by omega)
      omega
  · rw[JN h]; simp
theorem SE {ka:Int} {qa:aC} {na:aD} {pa kb:Int} {qb:aC} {nb:aD} {pb:Int} (h:l7 ka qa na pa kb qb nb pb=true):kD ((ka,qa,na,pa),(kb,qb,nb,pb))=qM ((ka,qa,na,pa),(kb,qb,nb,pb)):=cF h
theorem SD {ka:Int} {qa:aC} {na:aD} {pa kb:Int} {qb:aC} {nb:aD} {pb:Int} (h:l7 ka qa na pa kb qb nb pb=false):kD ((ka,qa,na,pa),(kb,qb,nb,pb))=[]:=b0 (show ¬ l7 ka qa na pa kb qb nb pb=true by rw[h]; decide)
theorem SG {s:aD} (h:bM s<0∨(pG s).length≠6∨kD (tF (pG s))≠s.take (bM s).toNat):iO s=(0,false):=by
  unfold iO z8
  rw[b0]
  rintro ⟨h1,h2,h3⟩
  rcases h with h | h | h
  · omega
  · exact h h2
  · exact h h3
theorem Om {s:aD} (h1:0≤bM s) (h2:(pG s).length=6) (h3:kD (tF (pG s))=s.take (bM s).toNat):iO s=(bM s,true):=by
  unfold iO z8
  rw[cF ⟨h1,h2,h3⟩]
theorem P2 {s:aD} (h:2≤bM s):aB 32 (s.take (bM s-2).toNat)=pG s:=by
  unfold pG
  rw[show (bM s-2).toNat=(bM s).toNat-2 by omega]
theorem Oj {s:aD} (hw:2≤bM s) (h:(((aB 32 (s.take (bM s-2).toNat)).length:Nat):Int)≠6):iO s=(0,false):=SG (.inr (.inl (by rw[← P2 hw]; omega)))
theorem Ok {s:aD} (hw:2≤bM s) (h:kD (tF (aB 32 (s.take (bM s-2).toNat)))≠s.take (bM s).toNat):iO s=(0,false):=SG (.inr (.inr (by rw[← P2 hw]; exact h)))
theorem Ol {s:aD} (hw:2≤bM s) (h1: ¬ (((aB 32 (s.take (bM s-2).toNat)).length:Nat):Int)≠6) (h: ¬ kD (tF (aB 32 (s.take (bM s-2).toNat)))≠s.take (bM s).toNat):iO s=(bM s,true):=Om (by omega) (by rw[← P2 hw]; omega) (by rw[← P2 hw]; exact Decidable.not_not.1 h)
theorem T8 (s:aD) (n k:Nat):((aB 32 (s.take n)).getD k []).length≤s.length:=cB (lH 32 _ k) (by simp[dV]; omega)
theorem Ot (s:aD):(bM s≤(s.length:Int)∧(0≤bM s→2≤bM s))∧(∀ k,((aB 32 (s.take (bM s-2).toNat)).getD k []).length≤s.length)∧(addrOf ((aB 32 (s.take (bM s-2).toNat)).getD 2 []) (cZ ((aB 32 (s.take (bM s-2).toNat)).getD 4 []))).2.2.1.length≤s.length∧(addrOf ((aB 32 (s.take (bM s-2).toNat)).getD 3 []) (cZ ((aB 32 (s.take (bM s-2).toNat)).getD 5 []))).2.2.1.length≤s.length:=
  ⟨CO s,T8 s _,cB (CG _ _) (T8 s _ 2),cB (CG _ _) (T8 s _ 3)⟩
def fG (s t:aD):aD:=if iX s t then s.drop t.length else s
theorem De (s:aD):fG s [67,79,78,78,69,67,84,32]=yP s:=rfl
theorem Gu {s:aD} (h:(aG (dW (fG s [67,79,78,78,69,67,84,32]) 32)).2=true) (hp:iX s (nG (aG (dW (fG s [67,79,78,78,69,67,84,32]) 32)).1.1 (aG (dW (fG s [67,79,78,78,69,67,84,32]) 32)).1.2.1 (aG (dW (fG s [67,79,78,78,69,67,84,32]) 32)).1.2.2.1 (aG (dW (fG s [67,79,78,78,69,67,84,32]) 32)).1.2.2.2)):jO s=(((nG (aG (dW (fG s [67,79,78,78,69,67,84,32]) 32)).1.1 (aG (dW (fG s [67,79,78,78,69,67,84,32]) 32)).1.2.1 (aG (dW (fG s [67,79,78,78,69,67,84,32]) 32)).1.2.2.1 (aG (dW (fG s [67,79,78,78,69,67,84,32]) 32)).1.2.2.2).length:Int),true):=by
  rw[De]at*
  unfold jO
  rw[Gx h hp]
  rfl
theorem U2 {s:aD} (h:(aG (dW (fG s [67,79,78,78,69,67,84,32]) 32)).2=false∨ ¬ iX s (nG (aG (dW (fG s [67,79,78,78,69,67,84,32]) 32)).1.1 (aG (dW (fG s [67,79,78,78,69,67,84,32]) 32)).1.2.1 (aG (dW (fG s [67,79,78,78,69,67,84,32]) 32)).1.2.2.1 (aG (dW (fG s [67,79,78,78,69,67,84,32]) 32)).1.2.2.2)):jO s=(0,false):=by
  rw[De]at*
  unfold jO
  rw[Gw]
  rintro ⟨h1,h2⟩
  rcases h with h | h
  · rw[h]at h1; cases h1
  · exact h h2
theorem Df (s t:aD):(fG s t).length≤s.length:=by
  unfold fG
  split
  · simp
  · exact lA _
theorem MT (s t:aD):(fG s t).length≤s.length∧(dW (fG s t) 32).length≤s.length∧(aG (dW (fG s t) 32)).1.2.2.1.length≤64∧(nG (aG (dW (fG s t) 32)).1.1 (aG (dW (fG s t) 32)).1.2.1 (aG (dW (fG s t) 32)).1.2.2.1 (aG (dW (fG s t) 32)).1.2.2.2).length≤120:=
  ⟨Df s t,cB (JW _ _) (Df s t),EE _,QM _ _ _ _⟩
theorem X3 {ka:Int} {qa:aC} {na:aD} {pa kb:Int} {qb:aC} {nb:aD} {pb:Int}:Lib.join [[80,82,79,88,89],[84,67,80,52],fJ qa,fJ qb,Lib.itoa pa,Lib.itoa pb] [32]++[13,10]=qM ((ka,qa,na,pa),(kb,qb,nb,pb)):=by simp[qM,Lib.join,List.intercalate]
theorem SI {ka:Int} {qa:aC} {na:aD} {pa kb:Int} {qb:aC} {nb:aD} {pb:Int} (h:l7 ka qa na pa kb qb nb pb=true):(Lib.join [[80,82,79,88,89],[84,67,80,52],fJ qa,fJ qb,Lib.itoa pa,Lib.itoa pb] [32]).length≤100:=by
  have hpb:=rG (FQ h)
  simp[Lib.join,List.intercalate]
  omega
theorem Yg {p:Int→Bool} (l:aC):l.takeWhile p=l.take (l.takeWhile p).length:=List.prefix_iff_eq_take.1 (List.takeWhile_prefix p)
theorem Yl {b:aC} {s:Nat×Bool} (hle:s.1≤b.length) (h:cH b s≠0):s.2=false∧s.1<b.length∧b.getD s.1 0≠0∧cH b s=b.getD s.1 0∧eT b s 1=(s.1+1,false):=by
  rcases oL s.2 with h1 | h1
  · exact absurd (by simp[cH,AH (.inl h1)]) h
  · rcases qR s.1 b.length with h2 | h2
    · have e:=vC h1 (show s.1+1≤b.length by omega)
      exact⟨h1,h2,by rw[← e]; exact h,e,nM h1 (by omega)⟩
    · exact absurd (by simp[cH,AH (.inr (show b.length<s.1+1 by omega))]) h
theorem Yj {b:aC} {sa k:Nat} (hk:sa+k<b.length):(b.drop sa).take k++[b.getD (sa+k) 0]=(b.drop sa).take (k+1):=by
  have hk':k<(b.drop sa).length:=by simp; omega
  have e:(b.drop sa).take (k+1)=(b.drop sa).take k++[(b.drop sa)[k]]:=qD hk'
  rw[e,← wQ,gQ,gE hk']
  rfl
theorem Yk {b:aC} {sa k:Nat} {qa:Nat} {qf:Bool} (hle:sa+k≤b.length) (hz: ∀ j,j<k→b.getD (sa+j) 0≠0) (h0:cH b (sa+k,false)=0) (hs:(qa,qf)=eT b (sa+k,false) 1):(qa,qf)=qP b (sa,false)∧(b.drop sa).take k=gH b (sa,false):=by
  have hd:(b.drop sa).length=b.length-sa:=by simp
  have hl:((b.drop sa).takeWhile fun x=>decide (x≠0)).length=k:=by
    rcases qR (sa+k) b.length with h | h
    · refine TX _ k (by omega) (fun j hj=>?_) ?_
      · rw[wQ]; exact decide_eq_true (hz j hj)
      · rw[vC rfl (by simp only; omega)]at h0
        rw[wQ]; simp only at h0; rw[h0]; decide
    · rw[TW _ (fun j hj=>by rw[wQ]; exact decide_eq_true (hz j (by omega)))]
      omega
  have hu:gH b (sa,false)=(b.drop sa).take k:=by
    unfold gH
    simp only[JD,if_false]
    rw[Yg,hl]
  refine⟨?_,hu.symm⟩
  unfold qP
  rw[hu]
  have hk:((b.drop sa).take k).length=k:=by simp; omega
  simp only[JD,if_false,hk]
  rcases qR (sa+k) b.length with h | h
  · rw[cF h,hs,nM rfl (by simp only; omega)]
  · rw[b0 (by omega),hs,I5 (.inr (by simp only; omega))]
    simp only[Prod.mk.injEq,xJ]
    omega
theorem Ds (b:aC) (sa:Nat):(sa,true)=qP b (sa,true)∧([]:aC)=gH b (sa,true):=⟨by simp[qP],by simp[gH]⟩
section
variable {b:aC} {sa k ya qa:Nat} {yf sf qf:Bool}
theorem B4 (e1:ya=sa+k) (e2:ya≤b.length) (e3:yf=sf) (hne: ¬ cH b (ya,yf)=0) (hs:(qa,qf)=eT b (ya,yf) 1):qa=sa+(k+1)∧qa≤b.length∧qf=sf∧sf=false∧cH b (ya,yf)=b.getD (sa+k) 0∧b.getD (sa+k) 0≠0∧sa+k<b.length:=by
  obtain ⟨u1,u2,u3,u4,u5⟩:=Yl (b:=b) (s:=(ya,yf)) e2 hne
  simp only at u1 u2 u3 u4 u5
  rw[u5]at hs
  simp only[Prod.mk.injEq]at hs
  subst e3
  rw[← e1]
  exact⟨by omega,by omega,by rw[hs.2,u1],u1,u4,u3,u2⟩
theorem Dq (e1:ya=sa+k) (e2:ya≤b.length) (e3:yf=sf) (hz: ∀ j,j<k→b.getD (sa+j) 0≠0) (h1:(!yf)=true) (h0:cH b (ya,yf)=0) (hs:(qa,qf)=eT b (ya,yf) 1):(qa,qf)=qP b (sa,sf)∧(b.drop sa).take k=gH b (sa,sf):=by
  have h:yf=false:=by simpa using h1
  subst e3 e1
  subst h
  exact Yk e2 hz h0 hs
theorem Dr (e1:ya=sa+k) (e3:yf=sf) (hk:sf=true→k=0) (h1:(!yf)=false):(ya,yf)=qP b (sa,sf)∧(b.drop sa).take k=gH b (sa,sf):=by
  have h:yf=true:=by simpa using h1
  subst e3 e1
  subst h
  have:=hk rfl
  subst this
  exact⟨(Ds b sa).1,(Ds b sa).2⟩
theorem Dp (hv:yf=false→bJ b=true) (e3:yf=sf) (hk:sf=true→k=0): ∀ x∈(b.drop sa).take k,0≤x∧x≤255:=by
  subst e3
  rcases oL yf with h | h
  · rw[hk h]; simp
  · exact fun x hx=>(sZ.1 (hv h)).1 x (uW (vP hx))
theorem Dt (hv:yf=false→bJ b=true) (e3:yf=sf) (hk:sf=true→k=0):((b.drop sa).take k).length≤65535:=by
  subst e3
  rcases oL yf with h | h
  · rw[hk h]; simp
  · have:=hZ (hv h)
    simp only[dV,fC]; omega
end
theorem PZ {b:aC} {s:Nat×Bool} (hv:s.2=false→bJ b=true):(bT (gH b s)).length≤120:=by
  rw[oQ]
  unfold gH
  rcases oL s.2 with h | h
  · simp[h]
  · have h1:=hZ (hv h)
    have h2:=(List.takeWhile_prefix (l:=b.drop s.1) (fun x=>decide (x≠0))).length_le
    rw[b0 (by rw[h]; decide)]
    rw[fC]at h2
    omega
section
variable {b:aC} {s1 s2 s3 s4 s5 s6:Nat×Bool}
theorem S2 (h1:s1=lC b (0,!bJ b) [4]) (h2:s2=eT b s1 1) (h3:s3=eT b s2 2) (h4:s4=eT b s3 4) (h5:s5=qP b s4) (hq: ¬ aF b s3 4=[0,0,0,1]):gW b=if s5.2=false∧gL (cH b s1) 1 (aF b s3 4) [] (aL (aF b s2 2)) (bT (gH b s4))=true then((s5.1:Int),true) else(0,false):=by
  unfold gW
  rw[← Y8]
  unfold IE
  simp only
  rw[← h1,← h2,← h3,← h4,← h5]
  simp only[b0 hq,DH]
  split <;> rfl
theorem S3 (h1:s1=lC b (0,!bJ b) [4]) (h2:s2=eT b s1 1) (h3:s3=eT b s2 2) (h4:s4=eT b s3 4) (h5:s5=qP b s4) (h6:s6=qP b s5) (hq:aF b s3 4=[0,0,0,1]):gW b=if s6.2=false∧gL (cH b s1) 3 [] (bT (gH b s5)) (aL (aF b s2 2)) (bT (gH b s4))=true then((s6.1:Int),true) else(0,false):=by
  unfold gW
  rw[← Y8]
  unfold IE
  simp only
  rw[← h1,← h2,← h3,← h4,← h5,← h6]
  simp only[cF hq,DH]
  split <;> rfl
end
theorem Bx {b:aC} {k:Int} (h:eY b=k) (h6:k≠6):bJ b=true:=by
  rcases oL (bJ b) with hh | hh
  · exact hh
  · exfalso
    apply h6
    rw[← h]
    simp[eY,hh]
theorem Eg {b:aC} (h:eY b=1):gB b=((gW b).1,(gW b).2):=by simp only[gB,h,if_true]; rfl
theorem Eh {b:aC} (h:eY b=2):gB b=((eM b).2.1,(eM b).2.2):=by unfold gB; rw[h,b0 (by decide),cF rfl]
theorem Ei {b:aC} (h:eY b=3):gB b=((jO (bT b)).1,(jO (bT b)).2):=by unfold gB; rw[h,b0 (by decide),b0 (by decide),cF rfl]; rfl
theorem Ej {b:aC} (h:eY b=4):gB b=((iO (bT b)).1,(iO (bT b)).2):=by unfold gB; rw[h,b0 (by decide),b0 (by decide),b0 (by decide),cF rfl]; rfl
theorem Ek {b:aC} (h:eY b=5):gB b=((iD b).1,(iD b).2):=by unfold gB; rw[h,b0 (by decide),b0 (by decide),b0 (by decide),b0 (by decide),cF rfl]
theorem Ef {b:aC} (h1: ¬ eY b=1) (h2: ¬ eY b=2) (h3: ¬ eY b=3) (h4: ¬ eY b=4) (h5: ¬ eY b=5):gB b=(0,false):=by unfold gB; rw[b0 h1,b0 h2,b0 h3,b0 h4,b0 h5]
theorem wO {b:aC} {k:Int} (h:eY b=k) (h6:k≠6):(∀ x∈b,0≤x∧x≤255)∧b.length≤120:=⟨(sZ.1 (Bx h h6)).1,hZ (Bx h h6)⟩
theorem Qu (b:aC):0≤(gW b).1∧(gW b).1≤(b.length:Int):=by
  have h1:=pH b 8
  have h2:=pH b ((zE b 8).toNat+1)
  unfold gW yC
  by_cases hn:b.getD 4 0=0∧b.getD 5 0=0∧b.getD 6 0=0
  · simp only[cF hn]
    split
    · rename_i h
      have:=(h.2.2.2.2.1 hn).1
      constructor <;> simp only <;> omega
    · simp
  · simp only[b0 hn]
    split
    · rename_i h
      have:=h.2.2.2.1
      constructor <;> simp only <;> omega
    · simp
theorem Oh (s:aD):0≤(iO s).1∧(iO s).1≤(s.length:Int):=by
  have:=CO s
  unfold iO z8
  split
  · rename_i h; exact⟨h.1,this.1⟩
  · simp
theorem Gt (s:aD):0≤(jO s).1∧(jO s).1≤120:=by
  unfold jO AW
  split
  · have:=QM (aG (vN s)).1.1 (aG (vN s)).1.2.1 (aG (vN s)).1.2.2.1 (aG (vN s)).1.2.2.2
    unfold AX
    constructor <;> simp only <;> omega
  · simp
theorem Kc (b:aC):0≤(iD b).1∧(iD b).1≤(b.length:Int):=by
  unfold iD
  split
  · rename_i h; constructor <;> simp only <;> omega
  · simp
theorem Kk (b:aC):0≤(eM b).2.1∧(eM b).2.1≤(b.length:Int):=by
  unfold eM
  split
  · rename_i h
    have h1:=jT h.1 (k:=1) (by omega)
    constructor <;> simp only <;> omega
  · simp
theorem PL (b:aC):0≤(gB b).1∧(gB b).1≤(b.length:Int)+120:=by
  have h1:=Qu b
  have h2:=Kk b
  have h3:=Gt (bT b)
  have h4:=Oh (bT b)
  have h5:=Kc b
  rw[oQ]at h4
  unfold gW at h1
  unfold jO at h3
  unfold iO at h4
  unfold gB
  split
  · omega
  · split
    · omega
    · split
      · omega
      · split
        · omega
        · split
          · omega
          · constructor <;> simp only <;> omega
theorem R6 (z:Int):(mL z).length≤16:=by
  unfold mL
  split
  · have h: ∀ n,(jY.getD n []).length≤16:=by
      intro n
      match n with
      | 0=>decide
      | 1=>decide
      | 2=>decide
      | 3=>decide
      | 4=>decide
      | 5=>decide
      | 6=>decide
      | n+7=>simp[jY]
    exact h _
  · simp
def vH (b:aC):aD:=mL (eY b)++(if (gB b).2=true then[32]++Lib.itoa (gB b).1 else[])
theorem Ca {b:aC} (h:(gB b).2=true):mL (eY b)++([32]++Lib.itoa (gB b).1)=vH b:=by unfold vH; rw[cF h]
theorem Bz {b:aC} (h:(gB b).2=false):mL (eY b)=vH b:=by unfold vH; rw[b0 (by rw[h]; decide)]; simp
def vG (s:aD):aD:=(if (bW s).2=true then vH (bW s).1 else[110,111])++[10]
theorem Vp {s:aD} (h:(bW s).2=false):[110,111,10]=vG s:=by unfold vG; rw[b0 (by rw[h]; decide)]; rfl
theorem Vq {s:aD} (h:(bW s).2=true) (h2:(gB (bW s).1).2=false):mL (eY (bW s).1)++[10]=vG s:=by unfold vG; rw[cF h,← Bz h2]
theorem Vr {s:aD} (h:(bW s).2=true) (h2:(gB (bW s).1).2=true):mL (eY (bW s).1)++[32]++Lib.itoa (gB (bW s).1).1++[10]=vG s:=by unfold vG; rw[cF h,← Ca h2]; simp
theorem IY (s:aD):(bW s).1.length≤120∧(0≤(gB (bW s).1).1∧(gB (bW s).1).1≤240)∧(mL (eY (bW s).1)).length≤16:=by
  have h1:=RD s
  have h2:=PL (bW s).1
  exact⟨h1,by omega,R6 _⟩
def tB (s:aD):aD:=if (aB 47 s).length=2 then kC (m6 ((aB 47 s).getD 0 []) ((aB 47 s).getD 1 [])).1 (m6 ((aB 47 s).getD 0 []) ((aB 47 s).getD 1 [])).2 else[110,111]
theorem Pl {s:aD} (h:(((aB 47 s).length:Nat):Int)≠2):[110,111]=tB s:=by unfold tB; rw[b0 (by omega)]
theorem Pm {s:aD} (h: ¬ (((aB 47 s).length:Nat):Int)≠2):kC (m6 ((aB 47 s).getD 0 []) ((aB 47 s).getD 1 [])).1 (m6 ((aB 47 s).getD 0 []) ((aB 47 s).getD 1 [])).2=tB s:=by unfold tB; rw[cF (by omega)]
def mV (old:Bool) (s:aD):aD:=if (aG s).2=true then(if old=true then kC (lT 1 (aG s).1.1 (aG s).1.2.1 (aG s).1.2.2.1 (aG s).1.2.2.2 []).1 (lT 1 (aG s).1.1 (aG s).1.2.1 (aG s).1.2.2.1 (aG s).1.2.2.2 []).2 else kC (mF 1 (aG s).1.1 (aG s).1.2.1 (aG s).1.2.2.1 (aG s).1.2.2.2).1 (mF 1 (aG s).1.1 (aG s).1.2.1 (aG s).1.2.2.1 (aG s).1.2.2.2).2) else[110,111]
theorem Fo {b:Bool} {s:aD} (h:(aG s).2=false):[110,111]=mV b s:=by unfold mV; rw[b0 (by rw[h]; decide)]
theorem Fp {c s:aD} (h:(aG s).2=true) (h2:c=[111,108,100]):kC (lT 1 (aG s).1.1 (aG s).1.2.1 (aG s).1.2.2.1 (aG s).1.2.2.2 []).1 (lT 1 (aG s).1.1 (aG s).1.2.1 (aG s).1.2.2.1 (aG s).1.2.2.2 []).2=mV (decide (c=[111,108,100])) s:=by unfold mV; rw[cF h,cF (decide_eq_true h2)]
theorem Fq {c s:aD} (h:(aG s).2=true) (h2: ¬ c=[111,108,100]):kC (mF 1 (aG s).1.1 (aG s).1.2.1 (aG s).1.2.2.1 (aG s).1.2.2.2).1 (mF 1 (aG s).1.1 (aG s).1.2.1 (aG s).1.2.2.1 (aG s).1.2.2.2).2=mV (decide (c=[111,108,100])) s:=by unfold mV; rw[cF h,b0 (by rw[decide_eq_false h2]; decide)]
theorem PM (s:aD) (k:Nat):((aB 47 s).getD k []).length≤s.length:=lH 47 s k
theorem Cm (wt:aC) (lg:List Lg):iV 0 wt lg []=sD wt lg:=by
  rw[wJ]
  simp only[iV,sD,iF,Bool.or_eq_true,kP]
  constructor
  · rintro ⟨⟨⟨⟨⟨⟨_,h2⟩,h3⟩,h4⟩,h5⟩,_⟩,_⟩
    exact⟨⟨h4,h5⟩,h2,h3⟩
  · rintro ⟨⟨h4,h5⟩,h2,h3⟩
    exact⟨⟨⟨⟨⟨⟨by omega,h2⟩,h3⟩,h4⟩,h5⟩,.inl (by decide)⟩,by rw[b0 (by decide)]; simp⟩
theorem Wx {wt:aC} {lg:List Lg} (h:iV 0 wt lg []=true):eJ wt lg=((0,wt,lg,[]),true):=by unfold eJ; rw[cF (by rw[← Cm]; exact h)]
theorem Ww {wt:aC} {lg:List Lg} (h:iV 0 wt lg []=false):eJ wt lg=((0,[],[],[]),false):=by unfold eJ; rw[b0 (by rw[← Cm,h]; decide)]
abbrev Tk:=Int×aC×List Lg×aD
def K9:Tk:=(0,[2,0],[([97,110,110],[97,98,99])],[])
def yG (t:Tk) (b:aC):Tk×aC×Bool:=bY t.1 t.2.1 t.2.2.1 t.2.2.2 b
def PJ (k:Int) (r:aC):aD:=if r.length=0 then stateT k else stateT k++[32]++mX r
def l8 (t:Tk) (b:aC):Tk×aD:=if (yG t b).2.2=true then((yG t b).1,PJ (yG t b).1.1 (yG t b).2.1) else(t,[110,111])
def vF (t:Tk) (s:aD):Tk×aD:=if (bW s).2=true then l8 t (bW s).1 else(t,[110,111])
def GF (s:aD):aD:=if (bW s).2=true then vH (bW s).1 else[110,111]
def x6 (t:Tk) (a s:aD):Tk×aD:=
  if a=[111,108,100] then(t,mV true s) else if a=[114,101,113,117,101,115,116] then(t,mV false s) else if a=[108,111,103,105,110] then(t,tB s)
  else if a=[115,110,105,102,102] then(t,GF s) else if a=[115,97,121] then vF t s else(t,[119,104,97,116])
def fP (t:Tk) (l:aD):Tk×aD:=if (aB 32 l).length=2 then x6 t ((aB 32 l).getD 0 []) ((aB 32 l).getD 1 []) else(t,[119,104,97,116])
abbrev Xs:=Tk×aD×aD
def tI (x:Xs) (c:UInt8):Xs:=if c=10 then((fP x.1 x.2.2).1,x.2.1++((fP x.1 x.2.2).2++[10]),[]) else(x.1,x.2.1,x.2.2++[c])
def jL (s:aD):Xs:=s.foldl tI (K9,[],[])
def bL (s:aD):aD:=if 400<s.length then[116,111,111,32,108,111,110,103,10] else(jL s).2.1++stateT (jL s).1.1++[10]
theorem DM (s r:aD):jL (s++r)=r.foldl tI (jL s):=by unfold jL; rw[List.foldl_append]
theorem PQ (x:Xs): ∀ (r:aD),(∀ c∈r,c≠10)→r.foldl tI x=(x.1,x.2.1,x.2.2++r)
  | [],_=>by simp
  | c::r,h=>by
    have hc:c≠10:=h c (by simp)
    rw[CA,PQ _ r (fun d hd=>h d (by simp[hd]))]
    simp[tI,hc]
theorem K7 {α:Type} {l:List α} {k:Nat} {d:α} (h:k<l.length):l.take (k+1)=l.take k++[l.getD k d]:=by
  rw[qD h,gQ,gE h]
  rfl
theorem Uu {s:aD} {k m:Nat} {t:Tk} {o:aD} (hk:k<s.length) (hm:m≤k) (h:jL (s.take k)=(t,o,(s.take k).drop m)) (hc:s.getD k 0≠10):jL (s.take (k+1))=(t,o,(s.take (k+1)).drop m):=by
  rw[K7 (d:=0) hk,DM,h]
  simp only[CA,List.foldl_nil,tI,b0 hc]
  rw[P3 (by simp; omega)]
theorem Ut {s:aD} {k m:Nat} {t t':Tk} {o o':aD} (hk:k<s.length) (h:jL (s.take k)=(t,o,(s.take k).drop m)) (hc:s.getD k 0=10) (h1:t'=(fP t ((s.take k).drop m)).1) (h2:o'=(fP t ((s.take k).drop m)).2++[10]):jL (s.take (k+1))=(t',o++o',(s.take (k+1)).drop (k+1)):=by
  have e:(s.take (k+1)).drop (k+1)=[]:=List.drop_eq_nil_of_le (List.length_take_le _ _)
  rw[e,K7 (d:=0) hk,DM,h]
  simp only[CA,List.foldl_nil,tI,cF hc,h1,h2]
theorem Us {s:aD} {k m:Nat} {t:Tk} {o:aD} (hk:s.length≤k) (hl:s.length≤400) (h:jL (s.take k)=(t,o,(s.take k).drop m)):bL s=o++stateT t.1++[10]:=by
  rw[lI hk]at h
  unfold bL
  rw[b0 (by omega),h]
theorem J4 {s:aD} (h:400<s.length):bL s=[116,111,111,32,108,111,110,103,10]:=cF h
theorem wD (k:Int):(stateT k).length≤7:=by
  unfold stateT
  split
  · simp
  · split
    · simp
    · split
      · simp
      · split <;> simp
theorem WN (b:aC) (f:Bool):(kC b f).length≤240:=by
  unfold kC
  split
  · exact BJ b
  · simp
theorem UP (b:Bool) (s:aD):(mV b s).length≤240:=by
  unfold mV
  split
  · split <;> exact WN _ _
  · simp
theorem Pk (s:aD):(tB s).length≤240:=by
  unfold tB
  split
  · exact WN _ _
  · simp
theorem Vt (s:aD):(GF s).length≤240:=by
  unfold GF
  split
  · have h:=IY s
    have h2:=sL (gB (bW s).1).1 (by omega) (by omega)
    unfold vH
    split
    · simp only[bH,bP,bK]; omega
    · simp only[bH,bK]; omega
  · simp
theorem Uk (t:Tk) (b:aC):(l8 t b).2.length≤260:=by
  unfold l8 PJ
  split
  · have h1:=wD (yG t b).1.1
    have h2:=BJ (yG t b).2.1
    split
    · simp only; omega
    · simp only[bH,bP,bK]; omega
  · simp
theorem Ue (t:Tk) (s:aD):(vF t s).2.length≤260:=by
  unfold vF
  split
  · exact Uk _ _
  · simp
theorem IB (t:Tk) (l:aD):(fP t l).2.length≤260:=by
  unfold fP x6
  have h1:=UP true ((aB 32 l).getD 1 [])
  have h2:=UP false ((aB 32 l).getD 1 [])
  have h3:=Pk ((aB 32 l).getD 1 [])
  have h4:=Vt ((aB 32 l).getD 1 [])
  have h5:=Ue t ((aB 32 l).getD 1 [])
  repeat' split
  all_goals first | exact h5 | (simp only; omega) | simp
theorem yO (st:Int) (wt:aC) (lg:List Lg) (to:aD) (b:aC):0≤(bY st wt lg to b).1.1∧(bY st wt lg to b).1.1≤4:=by
  unfold bY
  split
  · split
    · unfold hG
      simp only
      split
      · simp only
        split
        · simp
        · split <;> simp
      · simp
    · split
      · unfold gX
        simp only
        split
        · split <;> simp
        · simp
      · unfold fM
        simp only
        split
        · split <;> simp
        · simp
  · simp
def qC (t:Tk):Prop:=(0≤t.1∧t.1≤4)∧t.2.1.length≤8∧t.2.2.1.length≤4∧t.2.2.2.length≤42∧ ∀ u∈t.2.2.1,u.1.length≤3∧u.2.length≤3
theorem Xn:qC K9:=by simp[qC,K9]
theorem Uj {t:Tk} (h:qC t) (b:aC):qC (l8 t b).1:=by
  unfold l8
  split
  · have h1:=Xa t.1 t.2.1 t.2.2.1 t.2.2.2 b
    exact⟨yO _ _ _ _ _,h1.1,h1.2.1,Xc _ _ _ _ _,fun u hu=>h.2.2.2.2 u (Xb u hu)⟩
  · exact h
theorem Ud {t:Tk} (h:qC t) (s:aD):qC (vF t s).1:=by
  unfold vF
  split
  · exact Uj h _
  · exact h
theorem Og {t:Tk} (h:qC t) (l:aD):qC (fP t l).1:=by
  unfold fP x6
  have h5:=Ud h ((aB 32 l).getD 1 [])
  repeat' split
  all_goals first | exact h5 | exact h
theorem DN {s:aD}:qC (jL s).1∧(jL s).2.1.length≤261*s.length:=by
  have key: ∀ (n:Nat),n≤s.length→qC (jL (s.take n)).1∧(jL (s.take n)).2.1.length≤261*n:=by
    intro n
    induction n with
    | zero=>intro _; exact⟨Xn,by simp[jL]⟩
    | succ n ih=>
      intro hn
      obtain ⟨h1,h2⟩:=ih (by omega)
      rw[K7 (d:=0) (by omega),DM]
      simp only[CA,List.foldl_nil,tI]
      split
      · have h3:=IB (jL (s.take n)).1 (jL (s.take n)).2.2
        exact⟨Og h1 _,by simp only[bH,bP,bK]; omega⟩
      · exact⟨h1,by simp only; omega⟩
  have:=key s.length (lA _)
  rwa [List.take_length]at this
theorem UH:dN 0 [] [] 0=false:=by decide
theorem Qr:lT 1 0 [] [] 0 []=([],false):=by unfold lT gL; rw[UH]; simp
theorem Rz:mF 1 0 [] [] 0=([],false):=by unfold mF uV; rw[UH]; simp
theorem Pg:m6 [] []=([],false):=by decide
theorem Fs (s:aD):kC (lT 1 (aG s).1.1 (aG s).1.2.1 (aG s).1.2.2.1 (aG s).1.2.2.2 []).1 (lT 1 (aG s).1.1 (aG s).1.2.1 (aG s).1.2.2.1 (aG s).1.2.2.2 []).2=mV true s:=by
  unfold mV
  rcases oL (aG s).2 with h | h
  · rw[cF h,cF rfl]
  · rw[b0 (by rw[h]; decide),JN h]
    simp only
    rw[Qr]
    rfl
theorem Ft (s:aD):kC (mF 1 (aG s).1.1 (aG s).1.2.1 (aG s).1.2.2.1 (aG s).1.2.2.2).1 (mF 1 (aG s).1.1 (aG s).1.2.1 (aG s).1.2.2.1 (aG s).1.2.2.2).2=mV false s:=by
  unfold mV
  rcases oL (aG s).2 with h | h
  · rw[cF h,b0 (by decide)]
  · rw[b0 (by rw[h]; decide),JN h]
    simp only
    rw[Rz]
    rfl
theorem Pn (s:aD):kC (m6 (m7 s).1 (m7 s).2).1 (m6 (m7 s).1 (m7 s).2).2=tB s:=by
  unfold tB m7
  split
  · rfl
  · simp only
    rw[Pg]
    rfl
theorem Vs (s:aD):vG s=GF s++[10]:=rfl
theorem SZ {s:aD} {i:Nat}:Lib.occAt s [13,10] i=true↔(i+1<s.length∧s.getD i 0=13∧s.getD (i+1) 0=10):=by
  unfold Lib.occAt
  rw[List.isPrefixOf_iff_prefix]
  constructor
  · rintro ⟨r,hr⟩
    have hl:=aS List.length hr
    simp only[bH,bP,bK,fC]at hl
    have h0:(s.drop i).getD 0 0=13:=by rw[← hr]; rfl
    have h1:(s.drop i).getD 1 0=10:=by rw[← hr]; rfl
    rw[wQ]at h0 h1
    exact⟨by omega,h0,h1⟩
  · rintro ⟨h,h0,h1⟩
    refine⟨s.drop (i+2),?_⟩
    rw[rK (show i<s.length by omega),rK h]
    rw[gQ,gE (show i<s.length by omega)]at h0
    rw[gQ,gE h]at h1
    simp only[B9]at h0 h1
    rw[h0,h1]; rfl
theorem He (s:aD):(Lib.cut s [13,10]).1=aJ s:=by
  unfold Lib.cut aJ
  rcases Lib.index_spec s [13,10] with ⟨h1,h2⟩ | ⟨i,h1,h2,h3,h4⟩
  · have e:bM s= -1:=by
      refine VN (k:=s.length) (lA _) (fun j h0 hj hh=>?_)
      have:=h2 (j-1) (by omega)
      rw[Bool.eq_false_iff]at this
      refine this (SZ.2 ⟨by omega,hh.1,?_⟩)
      rw[show j-1+1=j by omega]
      exact hh.2
    rw[h1,e,b0 (by decide),b0 (by decide)]
  · obtain ⟨g1,g2,g3⟩:=SZ.1 h3
    have e:bM s=((i+1:Nat):Int)+1:=by
      refine VO (by omega) g1 (fun j h0 hj hh=>?_) ⟨by rw[show i+1-1=i by omega]; exact g2,g3⟩
      have:=h4 (j-1) (by omega)
      rw[Bool.eq_false_iff]at this
      refine this (SZ.2 ⟨by omega,hh.1,?_⟩)
      rw[show j-1+1=j by omega]
      exact hh.2
    rw[h1,e,cF (by omega),cF (by omega)]
    simp only
    congr 1
theorem U7 (s:aD):(aJ s).length≤s.length:=by
  unfold aJ
  split
  · exact List.length_take_le' ..
  · exact lA _
def s9 (s:aD) (i j:Nat):aD:=(aB 32 (aJ s)).getD i []++[58]++(aB 32 (aJ s)).getD j []
theorem Oi {s:aD} (h1:(aG (s9 s 2 4)).2=true) (h2:(aG (s9 s 3 5)).2=true) (h3: ¬ kD ((aG (s9 s 2 4)).1,(aG (s9 s 3 5)).1)=[]) (h4:iX s (kD ((aG (s9 s 2 4)).1,(aG (s9 s 3 5)).1))):
    iO s=(((kD ((aG (s9 s 2 4)).1,(aG (s9 s 3 5)).1)).length:Int),true):=by
  unfold iO
  rw[Ow (s:=s) h1 h2 h3 h4]
  rfl
theorem KO {s:aD} (h:(aB 32 (aJ s)).length≠6∨(aG (s9 s 2 4)).2=false∨(aG (s9 s 3 5)).2=false∨kD ((aG (s9 s 2 4)).1,(aG (s9 s 3 5)).1)=[]∨ ¬ iX s (kD ((aG (s9 s 2 4)).1,(aG (s9 s 3 5)).1))):iO s=(0,false):=by
  unfold iO
  rw[Ov]
  rintro ⟨g1,g2,g3,g4,g5⟩
  have V2:(aG (s9 s 2 4)).2=true:=g2
  have V3:(aG (s9 s 3 5)).2=true:=g3
  rcases h with h | h | h | h | h
  · exact h g1
  · rw[h]at V2; cases V2
  · rw[h]at V3; cases V3
  · exact g4 h
  · exact h g5
theorem Of (ka:Int) (qa:aC) (na:aD) (pa kb:Int) (qb:aC) (nb:aD) (pb:Int):(kD ((ka,qa,na,pa),(kb,qb,nb,pb))).length≤102:=by
  rcases oL (l7 ka qa na pa kb qb nb pb) with h | h
  · rw[SE h,← X3,bH]
    have:=SI h
    simp only[bP,bK]
    omega
  · rw[SD h]; simp
theorem Oc (s:aD):(aJ s).length≤s.length∧(∀ k,((aB 32 (aJ s)).getD k []).length≤s.length)∧(aG ((aB 32 (aJ s)).getD 2 []++[58]++(aB 32 (aJ s)).getD 4 [])).1.2.2.1.length≤64∧(aG ((aB 32 (aJ s)).getD 3 []++[58]++(aB 32 (aJ s)).getD 5 [])).1.2.2.1.length≤64:=
  ⟨U7 s,fun k=>cB (lH 32 (aJ s) k) (U7 s),EE _,EE _⟩
abbrev dL:=Int×Hd
abbrev mD (x:dL):cU:=[I x.1,hv x.2]
abbrev nL:dL:=(0,gU)
def n0 (l:List dL):LN:=l.map fun u=>(u.1,u.2.xs)
def pR (u:dL):Bool:=yM (u.1,u.2.xs)
theorem Cz (l:List dL) (u:dL):n0 (l++[u])=n0 l++[(u.1,u.2.xs)]:=by simp[n0]
theorem PW (l:List dL):wX (n0 l)=(decide (l.length≤4) && l.all pR):=by
  unfold wX n0 pR
  rw[yV,List.all_map]
  rfl
theorem TR {u:dL} (h: ¬ (0≤u.1∧u.1≤255)∨bJ u.2.xs=false∨16<u.2.xs.length):pR u=false:=by
  unfold pR yM
  rcases h with h | h | h
  · simp[h]
  · simp[h]
  · simp; omega
theorem Xj {u:dL} (h1:0≤u.1∧u.1≤255) (h2:bJ u.2.xs=true) (h3:u.2.xs.length≤16):pR u=true:=by
  unfold pR yM
  simp[h1,h2,h3]
theorem TS {l:List dL} {k:Nat} (hk:k<l.length) (h:pR (l.getD k nL)=false):wX (n0 l)=false:=by
  rw[PW,CJ (d:=nL) hk h,u9]
theorem Xk {l:List dL} {k:Nat} (hk:l.length≤k) (h:(l.take k).all pR=true):wX (n0 l)=decide (l.length≤4):=by
  rw[PW]
  rw[lI hk]at h
  rw[h,D6]
theorem Xl {b:aC} {k:Nat} {e:Int} {tg:List dL} {h:Hd} (hz:mG b=(mG (b.drop k)).map (n0 tg++ ·)) (hc: ¬ ((b.length:Int)-k<3)) (he:e=(k:Int)+3+aL ((b.take (k+3)).drop (k+1))) (h0:0≤aL ((b.take (k+3)).drop (k+1))) (Jx: ¬ ((b.length:Int)-k-3<aL ((b.take (k+3)).drop (k+1)))) (hx:h.xs=(b.take e.toNat).drop (k+3)):
    mG b=(mG (b.drop e.toNat)).map (n0 (tg++[(b.getD k 0,h)])++ ·):=by
  have e1:(b.take (k+3)).drop (k+1)=(b.drop (k+1)).take 2:=by rw[uZ]; congr 1; omega
  have hs:pQ (b.drop k)=aL ((b.take (k+3)).drop (k+1)):=by rw[PS,e1]
  rw[← hs]at he h0 Jx
  rw[Ci (b:=b.drop k) (by rw[fC]; omega)]at hz
  have e4:(b.drop k).drop (3+(pQ (b.drop k)).toNat)=b.drop e.toNat:=by rw[yW]; congr 1; omega
  have e5:((b.drop k).drop 3).take (pQ (b.drop k)).toNat=h.xs:=by
    rw[hx,uZ,yW]
    congr 1
    omega
  have e6:(b.drop k).getD 0 0=b.getD k 0:=wQ
  rw[e4,e5,e6]at hz
  rw[hz,Option.map_map,Cz]
  congr 1
  funext l
  simp
theorem Da {b:aC} {k:Nat} {tg:List dL} (hz:mG b=(mG (b.drop k)).map (n0 tg++ ·)) (hk:k<b.length) (h:(b.length:Int)-k<3∨(b.length:Int)-k-3<aL ((b.take (k+3)).drop (k+1))):kX b=false:=by
  have e1:(b.take (k+3)).drop (k+1)=(b.drop (k+1)).take 2:=by rw[uZ]; congr 1; omega
  have hs:pQ (b.drop k)=aL ((b.take (k+3)).drop (k+1)):=by rw[PS,e1]
  rw[← hs]at h
  rw[Ch (b:=b.drop k) (by rw[fC]; omega) (by rw[fC]; omega)]at hz
  unfold kX
  rw[hz]
  simp
theorem PX {b:aC} {k:Nat} {tg:List dL} (hv:bJ b=true) (hz:mG b=(mG (b.drop k)).map (n0 tg++ ·)) (hk:b.length≤k):kX b=wX (n0 tg):=by
  rw[Wr (b:=b.drop k) (by rw[fC]; omega)]at hz
  unfold kX
  rw[hz,hv]
  simp
theorem Db {b:aC} (h:bJ b=false):kX b=false:=by unfold kX; rw[h]; rfl
theorem Cy {b:aC} {ya qa:Nat} {yf qf:Bool} {tg:List dL} {n:Int} {h:Hd} (hv:yf=false→bJ b=true) (hy:yf=false→ya≤b.length∧mG b=(mG (b.drop ya)).map (n0 tg++ ·)) (hf:yf=false) (hl:ya<b.length) (hq:(qa,qf)=wF b (ya,yf)) (hn:n=cH b (ya,yf)) (hx:h.xs=(GH b (ya,yf)).2):
    (qf=false→(ya<qa∧qa≤b.length)∧mG b=(mG (b.drop qa)).map (n0 (tg++[(n,h)])++ ·))∧(qf=true→kX b=false):=by
  subst hf
  have hvb:=hv rfl
  obtain ⟨g1,g2⟩:=hy rfl
  have ea:(wF b (ya,false)).1=qa:=by rw[← hq]
  have ef:(wF b (ya,false)).2=qf:=by rw[← hq]
  refine⟨fun h0=>?_,fun h0=>?_⟩
  · obtain ⟨t1,t2,t3⟩:=Wp hvb (ef.trans h0)
    rw[ea]at t1 t2 t3
    refine⟨⟨by omega,t2⟩,?_⟩
    rw[g2,t3,Option.map_map,Cz,hx,hn]
    congr 1
    funext l
    simp[GH]
  · have t:=Wo hvb hl (ef.trans h0)
    unfold kX
    rw[g2,t]
    simp
theorem Fg {α:Type} {p:α→Bool} (l:List α):(!(l.any fun u=>!p u))=l.all p:=by
  induction l with
  | nil=>rfl
  | cons a l ih=>simp[ih]
theorem KV {b:aC} (h:bJ b=true) (k:Nat):0≤aL ((b.take (k+3)).drop (k+1))∧aL ((b.take (k+3)).drop (k+1))≤65535:=by
  rw[uZ,show k+3-(k+1)=2 by omega]
  exact KU h (k+1)
theorem Y0 {b:aC} {s:Nat×Bool} (hv:s.2=false→bJ b=true):0≤aL (aF b s 2)∧aL (aF b s 2)≤65535:=by
  by_cases h:s.2=false∧s.1+2≤b.length
  · rw[rI h.1 h.2]; exact KU (hv h.1) _
  · have:aF b s 2=List.replicate 2 0:=by
      rcases oL s.2 with h1 | h1
      · exact AH (.inl h1)
      · exact AH (.inr (by simp[h1]at h; omega))
    rw[this]; decide
theorem K8 {b:aC} {ya qa:Nat} {yf qf:Bool} {tg:List dL} (hv:yf=false→bJ b=true) (hy:yf=false→ya≤b.length∧mG b=(mG (b.drop ya)).map (n0 tg++ ·)) (hf:yf=false) (hl:ya<b.length) (hq:(qa,qf)=wF b (ya,yf)):(qf=false→ya<qa∧qa≤b.length)∧(qf=true→kX b=false):=by
  have h:=Cy (h:=⟨none,0,(GH b (ya,yf)).2⟩) hv hy hf hl hq rfl rfl
  exact⟨fun h0=>(h.1 h0).1,h.2⟩
section
variable {b:aC} {s s1 s2 s3:Nat×Bool}
theorem I2 (h1:s1=eT b s 1) (h2:s2=eT b s1 (Int.toNat 2)) (h3:s3=eT b s2 (aL (aF b s1 (Int.toNat 2))).toNat):s3=wF b s:=by
  have t2:Int.toNat 2=2:=rfl
  rw[t2]at h2 h3
  unfold wF
  rw[h3,h2,h1]
theorem Wq (h1:s1=eT b s 1) (h2:s2=eT b s1 (Int.toNat 2)):aF b s2 (aL (aF b s1 (Int.toNat 2))).toNat=(GH b s).2:=by
  have t2:Int.toNat 2=2:=rfl
  rw[t2]at h2 ⊢
  unfold GH
  rw[h2,h1]
end
theorem Kd {b:aC} (h:bJ b=true):(0≤aL ((b.take 16).drop 14)∧aL ((b.take 16).drop 14)≤65535)∧(0≤aL ((b.take 26).drop 24)∧aL ((b.take 26).drop 24)≤65535)∧(0≤aL ((b.take 28).drop 26)∧aL ((b.take 28).drop 26)≤65535):=⟨KV h 13,KV h 23,KV h 25⟩
theorem WI (b:aC):oD b=aL ((b.take 16).drop 14):=by unfold oD; rw[uZ]
theorem HS {b:aC} (h:bJ b=false∨b.length<28∨oA b eD=false∨aL ((b.take 16).drop 14)<12∨(b.length:Int)-16<aL ((b.take 16).drop 14)∨kX ((b.take (16+aL ((b.take 16).drop 14)).toNat).drop 28)=false):iD b=(0,false):=by
  unfold iD
  rw[WI]
  refine b0 ?_
  rintro ⟨g1,g2,g3,g4,g5,g6⟩
  rcases h with h | h | h | h | h | h
  · rw[h]at g1; cases g1
  · omega
  · rw[h]at g3; cases g3
  · omega
  · omega
  · rw[h]at g6; cases g6
theorem Kb {b:aC} (g1:bJ b=true) (g2:28≤b.length) (g3:oA b eD=true) (g4:12≤aL ((b.take 16).drop 14)) (g5:aL ((b.take 16).drop 14)≤(b.length:Int)-16) (g6:kX ((b.take (16+aL ((b.take 16).drop 14)).toNat).drop 28)=true):iD b=(16+aL ((b.take 16).drop 14),true):=by
  unfold iD
  rw[WI,cF ⟨g1,g2,g3,g4,g5,g6⟩]
section
variable {b c:aC} {s1 s2 s3 s4 s5 s6 s7:Nat×Bool}
theorem NB (h1:s1=lC b (0,!bJ b) eD) (h2:s2=eT b s1 (Int.toNat 2)) (h3:s3=eT b s2 (aL (aF b s1 (Int.toNat 2))).toNat) (hc:c=aF b s2 (aL (aF b s1 (Int.toNat 2))).toNat) (h4:s4=eT c (0,!bJ c) (Int.toNat 4)) (h5:s5=eT c s4 (Int.toNat 4)) (h6:s6=eT c s5 (Int.toNat 2)) (h7:s7=eT c s6 (Int.toNat 2)):s3=rU b∧c=lK b∧s7=tY (lK b):=by
  have t2:Int.toNat 2=2:=rfl
  have t4:Int.toNat 4=4:=rfl
  rw[t2]at h2 h3 hc h6 h7
  rw[t4]at h4 h5
  have e3:s3=rU b:=by unfold rU BH CX BG; rw[h3,h2,h1]
  have ec:c=lK b:=by unfold lK BH CX BG; rw[hc,h2,h1]
  refine⟨e3,ec,?_⟩
  rw[← ec]
  unfold tY
  rw[h7,h6,h5,h4]
theorem WG (h:s3=rU b∧c=lK b∧s7=tY (lK b)) (h':s3.2=true∨s7.2=true):iD b=(0,false):=by
  obtain ⟨rfl,rfl,rfl⟩:=h
  exact Ke h'
theorem Jy (h:s3=rU b∧c=lK b∧s7=tY (lK b)) (h1:s3.2=false) (h2:s7.2=false) (h3:kX (c.drop s7.1)=false):iD b=(0,false):=by
  obtain ⟨rfl,rfl,rfl⟩:=h
  exact Kf h1 h2 h3
theorem Jz (h:s3=rU b∧c=lK b∧s7=tY (lK b)) (h1:s3.2=false) (h2:s7.2=false) (h3:kX (c.drop s7.1)=true):iD b=((s3.1:Int),true):=by
  obtain ⟨rfl,rfl,rfl⟩:=h
  exact Kg h1 h2 h3
end
def j5:List aD:=[[104,101,108,108,111],[108,111,103,105,110],[114,101,113,117,101,115,116],[111,112,101,110],[115,104,117,116]]
theorem yL:j5.length=5:=rfl
theorem I1 {k:Int} (h0:0≤k) (h4:k≤4):j5.getD k.toNat []=stateT k:=by
  have h:k=0∨k=1∨k=2∨k=3∨k=4:=by omega
  rcases h with rfl | rfl | rfl | rfl | rfl <;> rfl
def oX (t:Tk) (s:aD):Tk×aD:=((vF t s).1,(vF t s).2++[10])
def eV (t:Tk) (l:aD):Tk×aD:=((fP t l).1,(fP t l).2++[10])
section
variable {sx:Int} {wt:aC} {lg:List Lg} {to:aD} {s:aD} {b:aC}
theorem Bo (h:(bY sx wt lg to b).2.2=false):l8 (sx,wt,lg,to) b=((sx,wt,lg,to),[110,111]):=by
  have h':(yG (sx,wt,lg,to) b).2.2=false:=h
  unfold l8
  rw[b0 (by rw[h']; decide)]
theorem Bm (h:(bY sx wt lg to b).2.2=true) (h0:(((bY sx wt lg to b).2.1.length:Nat):Int)=0):l8 (sx,wt,lg,to) b=((bY sx wt lg to b).1,stateT (bY sx wt lg to b).1.1):=by
  have h':(yG (sx,wt,lg,to) b).2.2=true:=h
  have e:yG (sx,wt,lg,to) b=bY sx wt lg to b:=rfl
  unfold l8 PJ
  rw[cF h',e,cF (by omega)]
theorem Bn (h:(bY sx wt lg to b).2.2=true) (h0: ¬ (((bY sx wt lg to b).2.1.length:Nat):Int)=0):l8 (sx,wt,lg,to) b=((bY sx wt lg to b).1,stateT (bY sx wt lg to b).1.1++[32]++mX (bY sx wt lg to b).2.1):=by
  have h':(yG (sx,wt,lg,to) b).2.2=true:=h
  have e:yG (sx,wt,lg,to) b=bY sx wt lg to b:=rfl
  unfold l8 PJ
  rw[cF h',e,b0 (by omega)]
theorem Uh (h:(bW s).2=false):oX (sx,wt,lg,to) s=((sx,wt,lg,to),[110,111,10]):=by
  unfold oX vF
  rw[b0 (by rw[h]; decide)]
  rfl
theorem Ui (hh:(bW s).2=true) (h:(bY sx wt lg to (bW s).1).2.2=false):oX (sx,wt,lg,to) s=((sx,wt,lg,to),[110,111,10]):=by
  unfold oX vF
  rw[cF hh,Bo h]
  rfl
theorem Uf (hh:(bW s).2=true) (h:(bY sx wt lg to (bW s).1).2.2=true) (h0:(((bY sx wt lg to (bW s).1).2.1.length:Nat):Int)=0):oX (sx,wt,lg,to) s=((bY sx wt lg to (bW s).1).1,stateT (bY sx wt lg to (bW s).1).1.1++[10]):=by
  unfold oX vF
  rw[cF hh,Bm h h0]
theorem Ug (hh:(bW s).2=true) (h:(bY sx wt lg to (bW s).1).2.2=true) (h0: ¬ (((bY sx wt lg to (bW s).1).2.1.length:Nat):Int)=0):oX (sx,wt,lg,to) s=((bY sx wt lg to (bW s).1).1,stateT (bY sx wt lg to (bW s).1).1.1++[32]++mX (bY sx wt lg to (bW s).1).2.1++[10]):=by
  unfold oX vF
  rw[cF hh,Bn h h0]
end
section
variable {t:Tk} {l:aD}
theorem X4 (h:(((aB 32 l).length:Nat):Int)≠2):fP t l=(t,[119,104,97,116]):=by unfold fP; rw[b0 (by omega)]
theorem wS (h: ¬ (((aB 32 l).length:Nat):Int)≠2):fP t l=x6 t ((aB 32 l).getD 0 []) ((aB 32 l).getD 1 []):=by unfold fP; rw[cF (by omega)]
variable {a s:aD}
theorem YA (h:a=[111,108,100]):x6 t a s=(t,mV true s):=cF h
theorem YB (h:a=[114,101,113,117,101,115,116]):x6 t a s=(t,mV false s):=by subst h; rfl
theorem X9 (h:a=[108,111,103,105,110]):x6 t a s=(t,tB s):=by subst h; rfl
theorem SK (h:a=[115,110,105,102,102]):x6 t a s=(t,GF s):=by subst h; rfl
theorem SL (h:a=[115,97,121]):x6 t a s=vF t s:=by subst h; rfl
theorem YC (h1: ¬ a=[111,108,100]) (h2: ¬ a=[114,101,113,117,101,115,116]) (h3: ¬ a=[108,111,103,105,110]) (h4: ¬ a=[115,110,105,102,102]) (h5: ¬ a=[115,97,121]):x6 t a s=(t,[119,104,97,116]):=by
  unfold x6
  rw[b0 h1,b0 h2,b0 h3,b0 h4,b0 h5]
theorem Oy (h:(((aB 32 l).length:Nat):Int)≠2):eV t l=(t,[119,104,97,116,10]):=by unfold eV; rw[X4 h]; rfl
theorem Oz (h: ¬ (((aB 32 l).length:Nat):Int)≠2) (h2:(aB 32 l).getD 0 []=[111,108,100]):eV t l=(t,kC (lT 1 (aG ((aB 32 l).getD 1 [])).1.1 (aG ((aB 32 l).getD 1 [])).1.2.1 (aG ((aB 32 l).getD 1 [])).1.2.2.1 (aG ((aB 32 l).getD 1 [])).1.2.2.2 []).1 (lT 1 (aG ((aB 32 l).getD 1 [])).1.1 (aG ((aB 32 l).getD 1 [])).1.2.1 (aG ((aB 32 l).getD 1 [])).1.2.2.1 (aG ((aB 32 l).getD 1 [])).1.2.2.2 []).2++[10]):=by
  unfold eV; rw[wS h,YA h2,Fs]
theorem Pa (h: ¬ (((aB 32 l).length:Nat):Int)≠2) (h2:(aB 32 l).getD 0 []=[114,101,113,117,101,115,116]):eV t l=(t,kC (mF 1 (aG ((aB 32 l).getD 1 [])).1.1 (aG ((aB 32 l).getD 1 [])).1.2.1 (aG ((aB 32 l).getD 1 [])).1.2.2.1 (aG ((aB 32 l).getD 1 [])).1.2.2.2).1 (mF 1 (aG ((aB 32 l).getD 1 [])).1.1 (aG ((aB 32 l).getD 1 [])).1.2.1 (aG ((aB 32 l).getD 1 [])).1.2.2.1 (aG ((aB 32 l).getD 1 [])).1.2.2.2).2++[10]):=by
  unfold eV; rw[wS h,YB h2,Ft]
theorem Ox (h: ¬ (((aB 32 l).length:Nat):Int)≠2) (h2:(aB 32 l).getD 0 []=[108,111,103,105,110]):eV t l=(t,kC (m6 (m7 ((aB 32 l).getD 1 [])).1 (m7 ((aB 32 l).getD 1 [])).2).1 (m6 (m7 ((aB 32 l).getD 1 [])).1 (m7 ((aB 32 l).getD 1 [])).2).2++[10]):=by
  unfold eV; rw[wS h,X9 h2,Pn]
theorem Pb (h: ¬ (((aB 32 l).length:Nat):Int)≠2) (h2:(aB 32 l).getD 0 []=[115,110,105,102,102]):eV t l=(t,vG ((aB 32 l).getD 1 [])):=by
  unfold eV; rw[wS h,SK h2,Vs]
theorem Pf (h: ¬ (((aB 32 l).length:Nat):Int)≠2) (h2:(aB 32 l).getD 0 []=[115,97,121]):eV t l=oX t ((aB 32 l).getD 1 []):=by
  unfold eV; rw[wS h,SL h2]; rfl
theorem Pc (h: ¬ (((aB 32 l).length:Nat):Int)≠2) (h1: ¬ (aB 32 l).getD 0 []=[111,108,100]) (h2: ¬ (aB 32 l).getD 0 []=[114,101,113,117,101,115,116]) (h3: ¬ (aB 32 l).getD 0 []=[108,111,103,105,110]) (h4: ¬ (aB 32 l).getD 0 []=[115,110,105,102,102]) (h5: ¬ (aB 32 l).getD 0 []=[115,97,121]):eV t l=(t,[119,104,97,116,10]):=by
  unfold eV; rw[wS h,YC h1 h2 h3 h4 h5]; rfl
theorem FK (l:aD):(∀ k,((aB 32 l).getD k []).length≤l.length)∧(aG ((aB 32 l).getD 1 [])).1.2.2.1.length≤64∧(m7 ((aB 32 l).getD 1 [])).1.length≤l.length∧(m7 ((aB 32 l).getD 1 [])).2.length≤l.length:=by
  refine⟨lH 32 l,EE _,?_,?_⟩
  · unfold m7; split
    · exact cB (lH 47 _ 0) (lH 32 l 1)
    · simp
  · unfold m7; split
    · exact cB (lH 47 _ 1) (lH 32 l 1)
    · simp
end
theorem Ck:eJ [2,0] [([97,110,110],[97,98,99])]=(K9,true):=by unfold eJ; rw[cF (by decide)]; rfl
theorem VZ {lg:List Lg} (h: ∀ u∈lg,u.1.length≤3∧u.2.length≤3): ∀ u∈lg,u.1.length≤9223372036854775807∧u.2.length≤9223372036854775807:=fun u hu=>⟨cB (h u hu).1 (by decide),cB (h u hu).2 (by decide)⟩
section
variable {t:Tk} {l:aD}
theorem X1 (h: ¬ (((aB 32 l).length:Nat):Int)≠2) (h2:(aB 32 l).getD 0 []=[111,108,100]∨(aB 32 l).getD 0 []=[114,101,113,117,101,115,116]):fP t l=(t,mV (decide ((aB 32 l).getD 0 []=[111,108,100])) ((aB 32 l).getD 1 [])):=by
  rw[wS h]
  rcases h2 with h2 | h2
  · rw[YA h2,decide_eq_true h2]
  · rw[YB h2,decide_eq_false (by rw[h2]; decide)]
theorem Ny (h: ¬ (((aB 32 l).length:Nat):Int)≠2) (h2:(aB 32 l).getD 0 []=[108,111,103,105,110]):fP t l=(t,tB ((aB 32 l).getD 1 [])):=by
  rw[wS h,X9 h2]
theorem X0 (h: ¬ (((aB 32 l).length:Nat):Int)≠2) (h2:(aB 32 l).getD 0 []=[115,110,105,102,102]∨(aB 32 l).getD 0 []=[115,97,121]) (h3:(bW ((aB 32 l).getD 1 [])).2=false):fP t l=(t,[110,111]):=by
  rw[wS h]
  rcases h2 with h2 | h2
  · rw[SK h2]; unfold GF; rw[b0 (by rw[h3]; decide)]
  · rw[SL h2]; unfold vF; rw[b0 (by rw[h3]; decide)]
theorem Nz (h: ¬ (((aB 32 l).length:Nat):Int)≠2) (h2:(aB 32 l).getD 0 []=[115,110,105,102,102]) (h3:(bW ((aB 32 l).getD 1 [])).2=true):fP t l=(t,vH (bW ((aB 32 l).getD 1 [])).1):=by
  rw[wS h,SK h2]; unfold GF; rw[cF h3]
theorem Ob (h: ¬ (((aB 32 l).length:Nat):Int)≠2) (h2:(aB 32 l).getD 0 []=[115,97,121]) (h3:(bW ((aB 32 l).getD 1 [])).2=true):fP t l=l8 t (bW ((aB 32 l).getD 1 [])).1:=by
  rw[wS h,SL h2]; unfold vF; rw[cF h3]
theorem Oa (h: ¬ (((aB 32 l).length:Nat):Int)≠2) (h1: ¬ (aB 32 l).getD 0 []=[111,108,100]) (h2: ¬ (aB 32 l).getD 0 []=[114,101,113,117,101,115,116]) (h3: ¬ (aB 32 l).getD 0 []=[108,111,103,105,110]) (h4: ¬ (aB 32 l).getD 0 []=[115,110,105,102,102]) (h5: ¬ (aB 32 l).getD 0 []=[115,97,121]):fP t l=(t,[119,104,97,116]):=by
  rw[wS h,YC h1 h2 h3 h4 h5]
end
def iH (s t:aD):aD:=if pZ s t then s.take (s.length-t.length) else s
def B0 (s rest:aD) (t:Tk) (o:aD):Prop:=(∃ pre,s=pre++rest∧jL pre=(t,o,[]))∨(rest=[]∧ ∃ ln,jL s=(t,o,ln))
section
variable {s ln rest o:aD} {t:Tk}
theorem Ul:B0 s s K9 []:=.inl ⟨[],rfl,rfl⟩
theorem Bp (h:B0 s rest t o):qC t∧o.length≤261*s.length:=by
  rcases h with ⟨pre,rfl,h⟩ | ⟨_,x,h⟩
  · have:=DN (s:=pre)
    rw[h]at this
    refine⟨this.1,cB this.2 ?_⟩
    rw[bH]; omega
  · have:=DN (s:=s)
    rw[h]at this
    exact this
theorem Oe (hl:wG ln rest) (hs:pZ ln [10]):ln=iH ln [10]++[10]∧ ∀ c∈iH ln [10],c≠10:=by
  rcases hl with ⟨a,rfl,ha⟩ | ⟨h1,h2,_⟩
  · have e:iH (a++[10]) [10]=a:=by
      unfold iH; rw[cF hs]; simp
    rw[e]; exact⟨rfl,ha⟩
  · exfalso
    obtain ⟨h3,h4⟩:=hs
    have hm:(10:UInt8)∈ln.drop (ln.length-[(10:UInt8)].length):=by rw[h4]; simp
    exact h2 10 (uW hm) rfl
theorem Od (hl:wG ln rest) (hs: ¬ pZ ln [10]):(∀ c∈ln,c≠10)∧rest=[]:=by
  rcases hl with ⟨a,rfl,ha⟩ | ⟨_,h2,h3⟩
  · exact absurd ⟨by simp,by simp⟩ hs
  · exact⟨h2,h3⟩
theorem X2 (hl:wG ln rest):ln≠[]:=by
  rcases hl with ⟨a,rfl,_⟩ | ⟨h1,_,_⟩
  · simp
  · exact h1
theorem Up (h:B0 s (ln++rest) t o) (hl:wG ln rest) (hs:pZ ln [10]):B0 s rest (fP t (iH ln [10])).1 (o++((fP t (iH ln [10])).2++[10])):=by
  obtain ⟨e,ha⟩:=Oe hl hs
  rcases h with ⟨pre,rfl,h⟩ | ⟨h,_⟩
  · refine .inl ⟨pre++ln,by simp,?_⟩
    have e2:ln.foldl tI (t,o,[])=(iH ln [10]++[10]).foldl tI (t,o,[]):=aS (fun z=>z.foldl tI (t,o,[])) e
    rw[DM,h,e2,List.foldl_append,PQ _ _ ha]
    simp[tI]
  · exact absurd (List.append_eq_nil_iff.1 h).1 (X2 hl)
theorem Uo (h:B0 s (ln++rest) t o) (hl:wG ln rest) (hs: ¬ pZ ln [10]):B0 s rest t o:=by
  obtain ⟨ha,rfl⟩:=Od hl hs
  rcases h with ⟨pre,rfl,h⟩ | ⟨h,_⟩
  · refine .inr ⟨rfl,ln,?_⟩
    rw[xH,DM,h,PQ _ _ ha]
    simp
  · exact absurd (List.append_eq_nil_iff.1 h).1 (X2 hl)
theorem Um (h:B0 s [] t o) (hl:s.length≤400):bL s=o++(stateT t.1++[10]):=by
  have: ∃ ln,jL s=(t,o,ln):=by
    rcases h with ⟨pre,rfl,h⟩ | ⟨_,h⟩
    · exact⟨[],by rw[xH]; exact h⟩
    · exact h
  obtain ⟨x,h⟩:=this
  unfold bL
  rw[b0 (by omega),h,vR]
end
theorem Mr {s:aD} {c:UInt8} (h:0≤cE s c):(cE s c).toNat<s.length∧s.getD (cE s c).toNat 0=c∧ ∀ j,j<(cE s c).toNat→s.getD j 0≠c:=by
  unfold cE at h ⊢
  split at h
  · rename_i i hi
    have h0:=hi
    rw[GU]at h0
    have h1:=h0.2.1
    rw[List.mem_range]at h1
    exact⟨by simpa using h1,by simpa using h0.1,fun j hj=>by simpa using h0.2.2 j (by simpa using hj)⟩
  · omega
theorem Oq {s:aD} (h:cE s 10≥0):wG (s.take (cE s 10+1).toNat) (s.drop (cE s 10+1).toNat):=by
  obtain ⟨h1,h2,h3⟩:=Mr (s:=s) (c:=10) h
  have e:(cE s 10+1).toNat=(cE s 10).toNat+1:=by omega
  refine .inl ⟨s.take (cE s 10).toNat,?_,?_⟩
  · rw[e,K7 (d:=0) h1,h2]
  · intro c hc
    obtain ⟨j,hj,rfl⟩:=List.mem_iff_getElem.1 hc
    rw[dV]at hj
    have:=h3 j (by omega)
    rw[gQ,gE (by omega)]at this
    simpa using this
theorem Oo {s:aD} (h: ¬ cE s 10≥0) (hl:0<s.length):wG s []:=by
  refine .inr ⟨List.ne_nil_of_length_pos hl,?_,rfl⟩
  intro c hc e
  subst e
  obtain ⟨j,hj,hje⟩:=List.mem_iff_getElem.1 hc
  have hb:=Mn s 10
  have hn:cE s 10= -1:=by omega
  have h0:cE s 10≠ -1:=by
    unfold cE
    split
    · omega
    · rename_i h
      rw[D4]at h
      have:=h j (List.mem_range.2 hj)
      rw[gQ,gE hj,hje]at this
      simp at this
  exact h0 hn
theorem Un {s ln rest o:aD} {t:Tk} (h:B0 s (ln++rest) t o):ln.length≤s.length:=by
  rcases h with ⟨pre,rfl,_⟩ | ⟨h,_⟩
  · rw[bH,bH]; omega
  · rw[(List.append_eq_nil_iff.1 h).1]; simp
theorem Hf (s t:aD):(iH s t).length≤s.length:=by
  unfold iH
  split
  · rw[dV]; omega
  · exact lA _
def jZ (s:aD):Nat→Nat
  | 0=>0
  | k+1=>if s.getD k 0=10 then k+1 else jZ s k
def dE (s:aD):aD:=s.take (jZ s s.length)
def k7 (s:aD):aD:=s.drop (jZ s (s.length-1))
theorem XU (s:aD): ∀ k,jZ s k≤k
  | 0=>lA _
  | k+1=>by
    unfold jZ
    split
    · exact lA _
    · exact Nat.le_succ_of_le (XU s k)
theorem XV {s:aD}: ∀ {k j:Nat},jZ s k≤j→j<k→s.getD j 0≠10
  | 0,_,_,h=>by omega
  | k+1,j,h1,h2=>by
    unfold jZ at h1
    split at h1
    · omega
    · rename_i hn
      rcases qR j k with h | h
      · exact XV h1 h
      · have:j=k:=by omega
        subst this; exact hn
theorem XW {s:aD}: ∀ {k:Nat},jZ s k≠0→s.getD (jZ s k-1) 0=10
  | 0,h=>by exact absurd rfl h
  | k+1,h=>by
    unfold jZ at h ⊢
    split
    · rename_i hc; exact hc
    · rename_i hn
      rw[b0 hn]at h
      exact XW h
theorem R9 {s:aD} {k:Nat} (h:s.getD k 0≠10):jZ s (k+1)=jZ s k:=b0 h
theorem R8 {s:aD} {k:Nat} (h:s.getD k 0=10):jZ s (k+1)=k+1:=cF h
theorem qG (s:aD):(dE s).length≤s.length:=by unfold dE; rw[dV]; omega
theorem r8 (s:aD):(k7 s).length≤s.length:=by unfold k7; rw[fC]; omega
theorem Hy {s:aD} {n:Nat} (h: ∀ j,n≤j→j<s.length→s.getD j 0≠10): ∀ c∈s.drop n,c≠10:=by
  intro c hc
  obtain ⟨j,hj,rfl⟩:=List.mem_iff_getElem.1 hc
  rw[fC]at hj
  have:=h (n+j) (by omega) (by omega)
  rw[gQ,gE (by omega)]at this
  simpa using this
theorem Gr (s:aD): ∀ c∈s.drop (jZ s s.length),c≠10:=Hy (fun j h1 h2=>XV h1 h2)
theorem Gp (s:aD):dE s=[]∨ ∃ a,dE s=a++[10]:=by
  unfold dE
  by_cases h:jZ s s.length=0
  · left; rw[h]; rfl
  · right
    have h1:=XW h
    have h2:=XU s s.length
    obtain ⟨m,hm⟩: ∃ m,jZ s s.length=m+1:=⟨jZ s s.length-1,by omega⟩
    rw[hm]at h1 h2 ⊢
    exact⟨s.take m,by rw[K7 (d:=0) (by omega)]; congr 2⟩
theorem Uq {a:aD}:(jL (a++[10])).2.2=[]:=by
  rw[DM]; simp[tI]
theorem Bq (s:aD):(jL s).1=(jL (dE s)).1∧(jL s).2.1=(jL (dE s)).2.1∧(jL (dE s)).2.2=[]:=by
  have e:s=dE s++s.drop (jZ s s.length):=(D0 _ _).symm
  have h3:(jL (dE s)).2.2=[]:=by
    rcases Gp s with h | ⟨a,h⟩
    · rw[h]; rfl
    · rw[h]; exact Uq
  have h1:jL s=((jL (dE s)).1,(jL (dE s)).2.1,(jL (dE s)).2.2++s.drop (jZ s s.length)):=by
    conv=>lhs; rw[e]
    rw[DM,PQ _ _ (Gr s)]
  exact⟨by rw[h1],by rw[h1],h3⟩
theorem VU {s:aD} (h:s.length≤400):bL (dE s)=bL s:=by
  have h1:=qG s
  obtain ⟨e1,e2,_⟩:=Bq s
  unfold bL
  rw[b0 (by omega),b0 (by omega),e1,e2]
theorem Ur (s:aD):(jL s).2.1=[]∨ ∃ a,(jL s).2.1=a++[10]:=by
  have key: ∀ (r:aD) (x:Xs),(x.2.1=[]∨ ∃ a,x.2.1=a++[10])→((r.foldl tI x).2.1=[]∨ ∃ a,(r.foldl tI x).2.1=a++[10]):=by
    intro r
    induction r with
    | nil=>exact fun x h=>h
    | cons c r ih=>
      intro x h
      rw[CA]
      apply ih
      unfold tI
      split
      · exact .inr ⟨x.2.1++(fP x.1 x.2.2).2,by simp⟩
      · exact h
  exact key s _ (.inl rfl)
theorem Wj (k:Int): ∀ c∈stateT k,c≠10:=by
  unfold stateT
  split
  · decide
  · split
    · decide
    · split
      · decide
      · split <;> decide
theorem Ns {o t:aD} (ho:o=[]∨ ∃ a,o=a++[10]) (ht: ∀ c∈t,c≠10):k7 (o++t++[10])=t++[10]:=by
  have e:(o++t++[10]).length-1=o.length+t.length:=by simp
  have e2:jZ (o++(t++[10])) (o.length+t.length)=jZ (o++(t++[10])) o.length:=by
    have: ∀ n,n≤t.length→jZ (o++(t++[10])) (o.length+n)=jZ (o++(t++[10])) o.length:=by
      intro n
      induction n with
      | zero=>intro _; rfl
      | succ n ih=>
        intro hn
        rw[← Nat.add_assoc,R9,ih (by omega)]
        rw[Q2 (by omega),show o.length+n-o.length=n by omega,Q1 (by omega)]
        refine ht _ ?_
        rw[gQ,gE (by omega)]
        exact rM _
    exact this t.length (lA _)
  have e3:jZ (o++(t++[10])) o.length=o.length:=by
    rcases ho with rfl | ⟨a,rfl⟩
    · rfl
    · rw[bH,bP,bK]
      refine R8 ?_
      rw[Q1 (by simp),Q2 (by omega)]
      simp
  unfold k7
  rw[e,vR,e2,e3,List.drop_left]
theorem QW {s:aD} (h:s.length≤400):bL s=(jL s).2.1++stateT (jL s).1.1++[10]:=b0 (by omega)
theorem VV {s:aD} (h:s.length≤400):k7 (bL s)=stateT (jL s).1.1++[10]:=by
  rw[QW h]; exact Ns (Ur s) (Wj _)
theorem Iz {s:aD} (h:s.length≤400):(bL s).take ((bL s).length-(k7 (bL s)).length)=(jL s).2.1:=by
  rw[VV h,QW h,vR]
  have:((jL s).2.1++(stateT (jL s).1.1++[10])).length-(stateT (jL s).1.1++[10]).length=(jL s).2.1.length:=by simp
  rw[this,GY]
theorem VW {s:aD} (h:s.length+4≤400):
    bL (dE s++[122,122,122,10])=(bL (dE s)).take ((bL (dE s)).length-(k7 (bL (dE s))).length)++[119,104,97,116,10]++k7 (bL (dE s)):=by
  have h1:=qG s
  have hc:=Bq s
  rw[Iz (by omega),VV (by omega),QW (s:=dE s++[122,122,122,10]) (by simp; omega),DM]
  have hz:jL (dE s)=((jL (dE s)).1,(jL (dE s)).2.1,[]):=by rw[← hc.2.2]
  have hl: ∀ t:Tk,fP t [122,122,122]=(t,[119,104,97,116]):=fun t=>by unfold fP; rw[b0 (by decide)]
  rw[hz]
  simp[tI,hl]
theorem QX (s:aD):0<(bL s).length:=by
  unfold bL
  split
  · simp
  · simp only[bH,bP,bK]; omega
theorem HL:bL []=[104,101,108,108,111,10]:=by decide
theorem rT {s:aD}:(bL s).length≤261*s.length+20:=by
  unfold bL
  have h1:=(DN (s:=s)).2
  have h2:=wD (jL s).1.1
  split
  · simp
  · simp only[bH,bP,bK]; omega
theorem uR {ss:List aD} {s:aD} (h:s∈ss) (n:Nat) (hb:ss.all (fun x=>decide (x.length≤n))=true):s.length≤n:=pI (List.all_eq_true.1 hb s h)
theorem Pt {x o:aD} {m B:Nat} (h:o.length+x.length*m≤B) (h1:m % 2=1):(o++x).length+(x++x).length*(m / 2)≤B:=by
  have e:x.length*m=(x.length+x.length)*(m / 2)+x.length:=by
    conv=>lhs; rw[show m=2*(m / 2)+1 by omega]
    rw[Nat.mul_add,CB,← Nat.mul_assoc,Nat.mul_two]
  rw[bH,bH]; omega
theorem Ps {x o:aD} {m B:Nat} (h:o.length+x.length*m≤B) (h1:m % 2≠1):o.length+(x++x).length*(m / 2)≤B:=by
  have e:x.length*m=(x.length+x.length)*(m / 2):=by
    conv=>lhs; rw[show m=2*(m / 2) by omega]
    rw[← Nat.mul_assoc,Nat.mul_two]
  rw[bH]; omega
theorem SM {x o:aD} {m B:Nat} (h:o.length+x.length*m≤B) (h1:0<m):x.length≤B∧o.length≤B:=by
  have:x.length≤x.length*m:=Nat.le_mul_of_pos_right _ h1
  omega
set_option maxRecDepth 100000 in
theorem Ix:bL [115,97,121,32,48,53,48,50,48,48,48,50,10,115,97,121,32,48,49,48,51,54,49,54,101,54,101,48,51,54,49,54,50,54,51,10,115,97,121,32,48,53,48,49,48,48,48,51,48,53,55,56,50,101,54,102,55,50,54,55,48,48,53,48,10]=[108,111,103,105,110,32,48,53,48,50,10,114,101,113,117,101,115,116,32,48,49,48,48,10,111,112,101,110,32,48,53,48,48,48,48,48,51,48,53,55,56,50,101,54,102,55,50,54,55,48,48,53,48,10,111,112,101,110,10]:=by decide+kernel
set_option maxRecDepth 100000 in
theorem Iv:bL [115,97,121,32,48,53,48,49,48,48,10,115,97,121,32,48,53,48,51,48,48,48,51,48,53,55,56,50,101,54,102,55,50,54,55,48,48,53,48,10,115,97,121,32,48,48,10]=[114,101,113,117,101,115,116,32,48,53,48,48,10,115,104,117,116,32,48,53,48,55,48,48,48,51,48,53,55,56,50,101,54,102,55,50,54,55,48,48,53,48,10,110,111,10,115,104,117,116,10]:=by decide+kernel
set_option maxRecDepth 100000 in
theorem Iu:bL [111,108,100,32,120,46,111,114,103,58,56,48,10,114,101,113,117,101,115,116,32,120,46,111,114,103,58,56,48,10,114,101,113,117,101,115,116,32,49,46,50,46,51,46,52,58,52,52,51,10,111,108,100,32,48,46,48,46,48,46,49,58,56,48,10,108,111,103,105,110,32,97,110,110,47,97,98,99,10]=[48,52,48,49,48,48,53,48,48,48,48,48,48,48,48,49,48,48,55,56,50,101,54,102,55,50,54,55,48,48,10,48,53,48,49,48,48,48,51,48,53,55,56,50,101,54,102,55,50,54,55,48,48,53,48,10,48,53,48,49,48,48,48,49,48,49,48,50,48,51,48,52,48,49,98,98,10,110,111,10,48,49,48,51,54,49,54,101,54,101,48,51,54,49,54,50,54,51,10,104,101,108,108,111,10]:=by decide+kernel
set_option maxRecDepth 100000 in
theorem Iw:bL [115,110,105,102,102,32,48,53,48,49,48,48,102,102,10,115,110,105,102,102,32,48,53,10,115,110,105,102,102,32,48,100,48,97,10,115,110,105,102,102,32,52,51,52,102,52,101,52,101,52,53,52,51,53,52,50,48,10,115,110,105,102,102,32,102,102,10,115,110,105,102,102,32,10]=[104,101,108,108,111,32,51,10,104,101,108,108,111,10,109,111,114,101,10,116,117,110,110,101,108,10,111,116,104,101,114,10,109,111,114,101,10,104,101,108,108,111,10]:=by decide+kernel
set_option maxRecDepth 100000 in
theorem Is:bL [111,108,100,10,111,108,100,32,120,46,111,114,103,10,108,111,103,105,110,32,97,110,110,10,108,111,103,105,110,32,97,110,110,47,10,115,110,105,102,102,32,48,103,10,115,97,121,32,48,10,115,97,121,32,102,102,10,111,108,100,32,120,32,121,10,10]=[119,104,97,116,10,110,111,10,110,111,10,110,111,10,110,111,10,110,111,10,115,104,117,116,10,119,104,97,116,10,119,104,97,116,10,115,104,117,116,10]:=by decide+kernel
theorem Gn {s:aD} {k:Nat} (hz:jZ s s.length=jZ s k) (h0:0<k) (hc:s.getD (k-1) 0=10):s.take k=dE s:=by
  obtain ⟨m,rfl⟩: ∃ m,k=m+1:=⟨k-1,by omega⟩
  unfold dE
  rw[hz,R8 (by simpa using hc)]
theorem Gq {s:aD} {k:Nat} (hz:jZ s s.length=jZ s k) (h0:0<k) (hc:s.getD (k-1) 0≠10):jZ s s.length=jZ s (k-1):=by
  obtain ⟨m,rfl⟩: ∃ m,k=m+1:=⟨k-1,by omega⟩
  rw[hz,R9 (by simpa using hc)]
  rfl
theorem Gm {s:aD} {k:Nat} (hz:jZ s s.length=jZ s k) (h0:k=0):[]=dE s:=by
  subst h0
  unfold dE
  rw[hz]
  rfl
theorem Nu {s:aD} {i:Int} (hz:jZ s (s.length-1)=jZ s (i+1).toNat) (h0:0≤i) (hc:s.getD i.toNat 0=10):s.drop (i+1).toNat=k7 s:=by
  have e:(i+1).toNat=i.toNat+1:=by omega
  unfold k7
  rw[hz,e,R8 hc]
theorem Nv {s:aD} {i:Int} (hz:jZ s (s.length-1)=jZ s (i+1).toNat) (h0:0≤i) (hc:s.getD i.toNat 0≠10):jZ s (s.length-1)=jZ s (i-1+1).toNat:=by
  have e:(i+1).toNat=i.toNat+1:=by omega
  have e2:(i-1+1).toNat=i.toNat:=by omega
  rw[hz,e,e2,R9 hc]
theorem Nt {s:aD} {i:Int} (hz:jZ s (s.length-1)=jZ s (i+1).toNat) (h0:i<0):s=k7 s:=by
  have e:(i+1).toNat=0:=by omega
  unfold k7
  rw[hz,e]
  rfl
abbrev Z0:It:=.own none (([]:aC).length) 0 3 1 (([]:aC).map I)
abbrev Z1 (a0:aD)(a1:aM)(a2:Nat)(a3:aM)(a4:Nat):cU:=[I ((addrOf ((aB (32:UInt8) (a0.take (((bM a0)-2).toNat))).getD 2 []) (cZ ((aB (32:UInt8) (a0.take (((bM a0)-2).toNat))).getD 4 []))).1),.slice a1 (((addrOf ((aB (32:UInt8) (a0.take (((bM a0)-2).toNat))).getD 2 []) (cZ ((aB (32:UInt8) (a0.take (((bM a0)-2).toNat))).getD 4 []))).2.1).length) a2,aA ((addrOf ((aB (32:UInt8) (a0.take (((bM a0)-2).toNat))).getD 2 []) (cZ ((aB (32:UInt8) (a0.take (((bM a0)-2).toNat))).getD 4 []))).2.2.1),I ((addrOf ((aB (32:UInt8) (a0.take (((bM a0)-2).toNat))).getD 2 []) (cZ ((aB (32:UInt8) (a0.take (((bM a0)-2).toNat))).getD 4 []))).2.2.2),I ((addrOf ((aB (32:UInt8) (a0.take (((bM a0)-2).toNat))).getD 3 []) (cZ ((aB (32:UInt8) (a0.take (((bM a0)-2).toNat))).getD 5 []))).1),.slice a3 (((addrOf ((aB (32:UInt8) (a0.take (((bM a0)-2).toNat))).getD 3 []) (cZ ((aB (32:UInt8) (a0.take (((bM a0)-2).toNat))).getD 5 []))).2.1).length) a4,aA ((addrOf ((aB (32:UInt8) (a0.take (((bM a0)-2).toNat))).getD 3 []) (cZ ((aB (32:UInt8) (a0.take (((bM a0)-2).toNat))).getD 5 []))).2.2.1),I ((addrOf ((aB (32:UInt8) (a0.take (((bM a0)-2).toNat))).getD 3 []) (cZ ((aB (32:UInt8) (a0.take (((bM a0)-2).toNat))).getD 5 []))).2.2.2)]
abbrev Z2 (a0:aD):=(lT 1 ((aG ((aB (32:UInt8) a0).getD 1 [])).1.1) ((aG ((aB (32:UInt8) a0).getD 1 [])).1.2.1) ((aG ((aB (32:UInt8) a0).getD 1 [])).1.2.2.1) ((aG ((aB (32:UInt8) a0).getD 1 [])).1.2.2.2) [])
abbrev Z3 (a0:aD):=(mF 1 ((aG ((aB (32:UInt8) a0).getD 1 [])).1.1) ((aG ((aB (32:UInt8) a0).getD 1 [])).1.2.1) ((aG ((aB (32:UInt8) a0).getD 1 [])).1.2.2.1) ((aG ((aB (32:UInt8) a0).getD 1 [])).1.2.2.2))
abbrev Z4 (a0:aM)(a1:aC)(a2:Nat):Value:=.slice a0 a1.length a2
abbrev Z5:cU:=[I 0,ns,aA [],I 0,I 0,ns,aA [],I 0]
abbrev Z6 (a0:Int)(a1:aC)(a2:List (aD×aD))(a3:aD)(a4:aD)(a5:aM)(a6:Nat)(a7:aM)(a8:Nat):cU:=[I ((bY a0 a1 a2 a3 ((bW a4).1)).1.1),.slice a5 (((bY a0 a1 a2 a3 ((bW a4).1)).1.2.1).length) a6,.slice a7 (((bY a0 a1 a2 a3 ((bW a4).1)).1.2.2.1).length) a8,aA ((bY a0 a1 a2 a3 ((bW a4).1)).1.2.2.2)]
abbrev Z7 (a0:Nat):aM:=(some ⟨a0,0,none⟩)
abbrev Z8:=([aW [67,79,78,78,69,67,84,32],aW [80,82,79,88,89,32],eD]:List aC)
abbrev Z9 (a0:aD):=(m6 ((m7 ((aB (32:UInt8) a0).getD 1 [])).1) ((m7 ((aB (32:UInt8) a0).getD 1 [])).2))
abbrev CD (a0:aM)(a1:aD)(a2:Nat):It:=.own a0 (((addrOf ((aB (32:UInt8) (a1.take (((bM a1)-2).toNat))).getD 2 []) (cZ ((aB (32:UInt8) (a1.take (((bM a1)-2).toNat))).getD 4 []))).2.1).length) a2 3 1 (((addrOf ((aB (32:UInt8) (a1.take (((bM a1)-2).toNat))).getD 2 []) (cZ ((aB (32:UInt8) (a1.take (((bM a1)-2).toNat))).getD 4 []))).2.1).map I)
abbrev sM (a0:aC)(a1:aM)(a2:Nat):cU:=[I (a0.getD 1 0),I 1,.slice a1 (((a0.take 8).drop 4).length) a2,aA [],I (aL ((a0.take 4).drop 2)),aA (bT ((a0.take ((zE a0 (Int.toNat 8)).toNat)).drop 8))]
abbrev G6 (a0:aD)(a1:aM)(a2:Nat):cU:=[I ((addrOf ((aB (58:UInt8) a0).getD 0 []) (cZ ((aB (58:UInt8) a0).getD 1 []))).1),.slice a1 (((addrOf ((aB (58:UInt8) a0).getD 0 []) (cZ ((aB (58:UInt8) a0).getD 1 []))).2.1).length) a2,aA ((addrOf ((aB (58:UInt8) a0).getD 0 []) (cZ ((aB (58:UInt8) a0).getD 1 []))).2.2.1),I ((addrOf ((aB (58:UInt8) a0).getD 0 []) (cZ ((aB (58:UInt8) a0).getD 1 []))).2.2.2)]
abbrev cD (a0:aM)(a1:aC)(a2:Nat):Value:=(.slice a0 a1.length a2)
abbrev qE (a0:aC):=(mT 0 ((dD a0).1.2.1) ((dD a0).1.2.2.1) ((dD a0).1.2.2.2.1) ((dD a0).1.2.2.2.2))
abbrev yZ (a0:aD)(a1:aM)(a2:Nat):cU:=[I ((aG (gO a0 (Int.toNat 8))).1.1),.slice a1 (((aG (gO a0 (Int.toNat 8))).1.2.1).length) a2,aA ((aG (gO a0 (Int.toNat 8))).1.2.2.1),I ((aG (gO a0 (Int.toNat 8))).1.2.2.2)]
abbrev eA:cU:=[I 0,ns,aA [],I 0]
abbrev rN (a0:aC):=(mT 7 ((dD a0).1.2.1) ((dD a0).1.2.2.1) ((dD a0).1.2.2.2.1) ((dD a0).1.2.2.2.2))
abbrev cA (a0:aM)(a1:List (aD×aD))(a2:Nat):Value:=.slice a0 a1.length a2
abbrev lW (a0:aC):=((a0.take ((dF a0).toNat)).drop (((dF a0)-2).toNat))
abbrev y0 (a0:aM)(a1:aD)(a2:Nat):Value:=.slice a0 (((addrOf ((aB (32:UInt8) (a1.take (((bM a1)-2).toNat))).getD 2 []) (cZ ((aB (32:UInt8) (a1.take (((bM a1)-2).toNat))).getD 4 []))).2.1).length) a2
abbrev zA (a0:aD):Value:=aA ((addrOf ((aB (32:UInt8) (a0.take (((bM a0)-2).toNat))).getD 2 []) (cZ ((aB (32:UInt8) (a0.take (((bM a0)-2).toNat))).getD 4 []))).2.2.1)
abbrev iR:cU:=[I 0,I 0,ns,aA [],I 0,aA []]
abbrev gF (a0:aD):=([(a0.length:Int)]:aC)
abbrev zB (a0:aD):Value:=I ((addrOf ((aB (32:UInt8) (a0.take (((bM a0)-2).toNat))).getD 2 []) (cZ ((aB (32:UInt8) (a0.take (((bM a0)-2).toNat))).getD 4 []))).2.2.2)
abbrev j7 (a0:aM)(a1:List (aD×aD))(a2:Nat):It:=.own a0 a1.length a2 38 2 (a1.flatMap eH)
abbrev zC (a0:aD):Value:=I ((addrOf ((aB (32:UInt8) (a0.take (((bM a0)-2).toNat))).getD 2 []) (cZ ((aB (32:UInt8) (a0.take (((bM a0)-2).toNat))).getD 4 []))).1)
abbrev vS (a0:aC):=(bT ((a0.take ((zE a0 (Int.toNat ((zE a0 (Int.toNat 8))+1))).toNat)).drop (((zE a0 (Int.toNat 8))+1).toNat)))
abbrev lX (a0:aM)(a1:aD)(a2:Nat):It:=.own a0 ((aW a1).length) a2 3 1 ((aW a1).map I)
abbrev xL (a0:aC):=(bT ((a0.take (2+(a0.getD 1 0).toNat+1+(a0.getD (2+(a0.getD 1 0).toNat) 0).toNat)).drop ((2+(a0.getD 1 0).toNat)+1)))
abbrev fN:cU:=[I 0,ns,ns,aA []]
abbrev jE (a0:aM)(a1:aC)(a2:Nat):It:=.own a0 a1.length a2 3 1 (a1.map I)
abbrev mO (a0:Int)(a1:aC)(a2:List (aD×aD))(a3:aD)(a4:aD):=(oX (a0,a1,a2,a3) ((aB (32:UInt8) a4).getD 1 []))
abbrev j8 (a0:aD):=([1,(a0.length:Int)]:aC)
abbrev LY (a0:aM)(a1:aD)(a2:Nat):It:=.own a0 (((addrOf ((aB (32:UInt8) (a1.take (((bM a1)-2).toNat))).getD 3 []) (cZ ((aB (32:UInt8) (a1.take (((bM a1)-2).toNat))).getD 5 []))).2.1).length) a2 3 1 (((addrOf ((aB (32:UInt8) (a1.take (((bM a1)-2).toNat))).getD 3 []) (cZ ((aB (32:UInt8) (a1.take (((bM a1)-2).toNat))).getD 5 []))).2.1).map I)
abbrev nR (a0:aM)(a1:Int)(a2:Nat):It:=.own a0 ((bB a1).length) a2 3 1 ((bB a1).map I)
abbrev kG (a0:aC)(a1:aC):=(o9 a0 ((eM a1).1))
abbrev LZ (a0:aD)(a1:aM)(a2:Nat):cU:=[I ((aG (dW (fG a0 [67,79,78,78,69,67,84,32]) 32)).1.1),.slice a1 (((aG (dW (fG a0 [67,79,78,78,69,67,84,32]) 32)).1.2.1).length) a2,aA ((aG (dW (fG a0 [67,79,78,78,69,67,84,32]) 32)).1.2.2.1),I ((aG (dW (fG a0 [67,79,78,78,69,67,84,32]) 32)).1.2.2.2)]
abbrev D7 (a0:aC)(a1:aM)(a2:Nat):cU:=[I ((fO (a0.drop 3)).1.1),.slice a1 (((fO (a0.drop 3)).1.2.1).length) a2,aA ((fO (a0.drop 3)).1.2.2.1),I ((fO (a0.drop 3)).1.2.2.2)]
abbrev G7 (a0:aM)(a1:aD)(a2:Nat):Value:=.slice a0 (((addrOf ((aB (32:UInt8) (a1.take (((bM a1)-2).toNat))).getD 3 []) (cZ ((aB (32:UInt8) (a1.take (((bM a1)-2).toNat))).getD 5 []))).2.1).length) a2
abbrev G8 (a0:aD):Value:=aA ((addrOf ((aB (32:UInt8) (a0.take (((bM a0)-2).toNat))).getD 3 []) (cZ ((aB (32:UInt8) (a0.take (((bM a0)-2).toNat))).getD 5 []))).2.2.1)
abbrev G9 (a0:aD):Value:=I ((addrOf ((aB (32:UInt8) (a0.take (((bM a0)-2).toNat))).getD 3 []) (cZ ((aB (32:UInt8) (a0.take (((bM a0)-2).toNat))).getD 5 []))).2.2.2)
abbrev qS (a0:Int):=([(UInt8.ofNat (48+(a0 % 10)).toNat)]:aD)
abbrev JI (a0:aD):=(nG ((aG (gO a0 (Int.toNat 8))).1.1) ((aG (gO a0 (Int.toNat 8))).1.2.1) ((aG (gO a0 (Int.toNat 8))).1.2.2.1) ((aG (gO a0 (Int.toNat 8))).1.2.2.2))
abbrev HA (a0:aD):Value:=I ((addrOf ((aB (32:UInt8) (a0.take (((bM a0)-2).toNat))).getD 3 []) (cZ ((aB (32:UInt8) (a0.take (((bM a0)-2).toNat))).getD 5 []))).1)
abbrev vA (a0:aD):=(m6 ((aB 47 a0).getD 0 []) ((aB 47 a0).getD 1 []))
abbrev sN (a0:aC):=(bT ((a0.take ((zE a0 (Int.toNat 8)).toNat)).drop 8))
abbrev k5 (a0:aD):=((aB 32 a0).getD 1 [])
abbrev D8 (a0:aM)(a1:Int)(a2:aC)(a3:List (aD×aD))(a4:aD)(a5:aD)(a6:Nat):It:=.own a0 (((bY a1 a2 a3 a4 ((bW a5).1)).1.2.2.1).length) a6 38 2 (((bY a1 a2 a3 a4 ((bW a5).1)).1.2.2.1).flatMap eH)
abbrev zD (a0:aM)(a1:aC)(a2:Nat):It:=.own a0 (((a1.take 20).drop 16).length) a2 3 1 (((a1.take 20).drop 16).map I)
abbrev HB (a0:aC)(a1:aM)(a2:Nat):cU:=[I ((dD a0).1.2.1),.slice a1 (((dD a0).1.2.2.1).length) a2,aA ((dD a0).1.2.2.2.1),I ((dD a0).1.2.2.2.2)]
abbrev D9 (a0:aM)(a1:Int)(a2:aC)(a3:List (aD×aD))(a4:aD)(a5:aD)(a6:Nat):It:=.own a0 (((bY a1 a2 a3 a4 ((bW a5).1)).1.2.1).length) a6 3 1 (((bY a1 a2 a3 a4 ((bW a5).1)).1.2.1).map I)
abbrev HC (a0:aD)(a1:aM)(a2:Nat):cU:=[I ((aG a0).1.1),.slice a1 (((aG a0).1.2.1).length) a2,aA ((aG a0).1.2.2.1),I ((aG a0).1.2.2.2)]
abbrev zF (a0:aM)(a1:aC)(a2:Nat):It:=.own a0 (((a1.take 8).drop 4).length) a2 3 1 (((a1.take 8).drop 4).map I)
abbrev n9 (a0:Nat):Value:=sb a0 (([]:aC).length) 0
abbrev vT (a0:aC):=(bT ((a0.take (2+(a0.getD 1 0).toNat)).drop 2))
abbrev rO (a0:aM)(a1:aC)(a2:Nat):Value:=.slice a0 (((a1.take 20).drop 16).length) a2
abbrev zG (a0:Int):=((List.replicate ((a0-((0:Int)-0)).toNat) (0:Int)).take 0)
abbrev P7 (a0:aD)(a1:aM)(a2:Nat):cU:=[I ((aG ((aB (32:UInt8) a0).getD 1 [])).1.1),.slice a1 (((aG ((aB (32:UInt8) a0).getD 1 [])).1.2.1).length) a2,aA ((aG ((aB (32:UInt8) a0).getD 1 [])).1.2.2.1),I ((aG ((aB (32:UInt8) a0).getD 1 [])).1.2.2.2)]
abbrev HD (a0:aD):=(mF 1 ((aG a0).1.1) ((aG a0).1.2.1) ((aG a0).1.2.2.1) ((aG a0).1.2.2.2))
abbrev AQ (a0:aD):=(((aB 46 a0).getD (((aB 46 a0).length)-1) []).getD 0 0)
abbrev EA (a0:aM)(a1:Int)(a2:Int)(a3:Nat):It:=.own a0 ((([4,a1]:aC)++(bB a2)).length) a3 3 1 ((([4,a1]:aC)++(bB a2)).map I)
abbrev xM (a0:List (aD×aD))(a1:aC):=(o6 a0 ((fA a1).1.1) ((fA a1).1.2))
abbrev lB:cU:=[aA [],aA []]
abbrev L2 (a0:aC)(a1:aM)(a2:Nat):cU:=[I ((dD a0).1.1),I ((dD a0).1.2.1),.slice a1 (((dD a0).1.2.2.1).length) a2,aA ((dD a0).1.2.2.2.1),I ((dD a0).1.2.2.2.2)]
abbrev P8 (a0:aM)(a1:aD)(a2:Nat):It:=.own a0 (((addrOf ((aB (58:UInt8) a1).getD 0 []) (cZ ((aB (58:UInt8) a1).getD 1 []))).2.1).length) a2 3 1 (((addrOf ((aB (58:UInt8) a1).getD 0 []) (cZ ((aB (58:UInt8) a1).getD 1 []))).2.1).map I)
abbrev L3 (a0:Int)(a1:aC)(a2:List (aD×aD))(a3:aD)(a4:aC)(a5:aM)(a6:Nat)(a7:aM)(a8:Nat):cU:=[I ((bY a0 a1 a2 a3 a4).1.1),.slice a5 (((bY a0 a1 a2 a3 a4).1.2.1).length) a6,.slice a7 (((bY a0 a1 a2 a3 a4).1.2.2.1).length) a8,aA ((bY a0 a1 a2 a3 a4).1.2.2.2)]
abbrev rP (a0:aC):Value:=I (aL ((a0.take 26).drop 24))
abbrev L4 (a0:aC)(a1:aM)(a2:Nat):cU:=[I ((fL a0).1),I ((fL a0).2.1.1),.slice a1 (((fL a0).2.1.2.1).length) a2,aA ((fL a0).2.1.2.2.1),I ((fL a0).2.1.2.2.2)]
abbrev L5 (a0:aM)(a1:Int)(a2:Int)(a3:Nat):It:=.own a0 (((([4,a1]:aC)++(bB a2))++([0,0,0,1]:aC)).length) a3 3 1 (((([4,a1]:aC)++(bB a2))++([0,0,0,1]:aC)).map I)
abbrev oZ (a0:Nat):It:=oI a0 ([]:aC) 0 3
abbrev L6 (a0:aC):=(gZ ((dD a0).1.2.1) ((dD a0).1.2.2.1) ((dD a0).1.2.2.2.1) ((dD a0).1.2.2.2.2))
abbrev mA (a0:aM)(a1:aD)(a2:Nat):Value:=(.slice a0 a1.length a2)
abbrev EB (a0:aC):cU:=[aA ((fA a0).1.1),aA ((fA a0).1.2)]
abbrev HE:=([13,10,13,10,0,13,10,81,85,73,84,10,33,17]:aC)
abbrev oM (a0:Nat)(a1:aD)(a2:aD):It:=.blk a0 38 [aA a1,aA a2]
abbrev sO (a0:aD):cU:=[I 1,I (a0.length:Int)]
abbrev sP (a0:Int):Value:=(.bool (decide (a0=1)))
abbrev JJ (a0:aM)(a1:aD)(a2:Nat):Value:=.slice a0 (((aG ((aB (32:UInt8) a1).getD 1 [])).1.2.1).length) a2
abbrev EC (a0:aC):=((a0.take ((2+(a0.getD 1 0)).toNat)).drop 2)
abbrev L7:cU:=[I 13,I 10,I 13,I 10,I 0,I 13,I 10,I 81,I 85,I 73,I 84,I 10,I 33,I 17]
abbrev JK (a0:aD):Value:=aA ((aG ((aB (32:UInt8) a0).getD 1 [])).1.2.2.1)
abbrev L8 (a0:aM)(a1:Int)(a2:Int)(a3:aC)(a4:Nat):It:=.own a0 (((([4,a1]:aC)++(bB a2))++a3).length) a4 3 1 (((([4,a1]:aC)++(bB a2))++a3).map I)
abbrev xN (a0:aC):Value:=I (aL ((a0.take 4).drop 2))
abbrev zI (a0:Nat):It:=oI a0 ([0,0,0,1]:aC) 4 3
abbrev JL (a0:aD):Value:=I ((aG ((aB (32:UInt8) a0).getD 1 [])).1.2.2.2)
abbrev CE (a0:UInt8):Value:=(.bool (decide ((a0.toNat:Int)=45)))
abbrev oN (a0:aM)(a1:List (aD×aD))(a2:Nat):Value:=(.slice a0 a1.length a2)
abbrev L9 (a0:List Hd)(a1:Nat):Value:=(.slice ((a0.getD a1 gU).A) (((a0.getD a1 gU).xs).length) ((a0.getD a1 gU).c))
abbrev MA:It:=.own none (([]:aD).length) 0 5 1 (([]:aD).map U)
abbrev qT (a0:aD):cU:=[I (a0.length:Int)]
abbrev P9 (a0:aM)(a1:aD)(a2:Nat):It:=.own a0 (((aG (gO a1 (Int.toNat 8))).1.2.1).length) a2 3 1 (((aG (gO a1 (Int.toNat 8))).1.2.1).map I)
abbrev JM (a0:aD):Value:=I ((aG ((aB (32:UInt8) a0).getD 1 [])).1.1)
abbrev vU (a0:aD):=(iC (dW a0 58))
abbrev zJ (a0:aC):Value:=(.bool ((eM a0).2.2))
abbrev CF (a0:aM)(a1:aD)(a2:Nat):Value:=.slice a0 (((aG a1).1.2.1).length) a2
abbrev wK (a0:Nat):It:=oI a0 ([0]:aC) 1 3
abbrev UF:cU:=[aA [],aA [48,53],aA [48,53,48,49,48,48],aA [48,52],aA [48,100,48,97,48,100,48,97],aA [52,51,52,102,52,101,52,101,52,53,52,51,53,52],aA [102,102],aA [48,103]]
abbrev xO (a0:aD):Value:=I ((jX (kS a0 58)).1)
abbrev xP (a0:aD):Value:=(.bool ((aG a0).2))
abbrev LV (a0:Int):cU:=[.int .u8 (((UInt8.ofNat (48+(a0 % 10)).toNat).toNat:Nat):Int)]
abbrev G1 (a0:aD):=(a0.take (((cE a0 (10:UInt8))+1).toNat))
abbrev G2 (a0:aD):=(a0.drop (((cE a0 (10:UInt8))+1).toNat))
abbrev AP:cU:=[I 0,I 0,ns,aA [],I 0]
abbrev UD:cU:=[aA [120,46,111,114,103,58,56,48],aA [49,46,50,46,51,46,52,58,52,52,51],aA [48,46,48,46,48,46,49,58,56,48],aA [120,46,111,114,103,58],aA [97,58,49]]
abbrev UE:cU:=[aA [119,104,97,116],aA [],aA [111,108,100],aA [115,97,121],aA [111,108,100,32,120,32,121],aA [115,110,105,102,102],aA [119,104,97,116,32,120]]
abbrev G3 (a0:aC):=((a0.take (((dF a0)-2).toNat)).drop 2)
abbrev G4 (a0:aM)(a1:Int)(a2:aC)(a3:List (aD×aD))(a4:aD)(a5:aD)(a6:Nat):Value:=.slice a0 (((bY a1 a2 a3 a4 ((bW a5).1)).1.2.2.1).length) a6
abbrev xK (a0:aC):Value:=(.bool (!(bJ a0)))
abbrev yY (a0:aD):Value:=(.bool (decide (a0=[])))
abbrev G5 (a0:aM)(a1:Int)(a2:aC)(a3:List (aD×aD))(a4:aD)(a5:aD)(a6:Nat):Value:=.slice a0 (((bY a1 a2 a3 a4 ((bW a5).1)).1.2.1).length) a6
end Go.PF
