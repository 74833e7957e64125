/-
  Part of the proofs over this seat: plain functions that say what the program computes, and their laws.
  Conditions: none; every theorem states its own.
-/
import Derived.Test.YtjehmnojfpedjaaGreatDoorPfBase
namespace Go.PF
open Go.RowKit
abbrev Z3:=([([0]:List Int),([2]:List Int),([2,0]:List Int)]:List (List Int))
abbrev Z4:=([([0]:List Int),([2]:List Int),([0,2]:List Int),([2,1]:List Int)]:List (List Int))
abbrev Z8:=([([0]:List Int),([2]:List Int),([2,0]:List Int),([0,2]:List Int)]:List (List Int))
abbrev Z22:=([([0]:List Int),([2]:List Int),([0,2]:List Int),([1]:List Int)]:List (List Int))
theorem cell_lt {w:World} {a:Addr} {v:Value} (h:w.cell? a=some v):a.block<w.heap.size:=by
  rcases Nat.lt_or_ge a.block w.heap.size with h' | h'
  · exact h'
  · simp[World.cell?,Array.getElem?_eq_none h']at h
theorem SH.below {w w':World} {L:List It} (h:SH w w' [] L):Below w.heap.size w w':=⟨h.os,h.tape,h.output,h.size,fun k hk=>h.keep k hk (by simp)⟩
theorem law_done {P:Program} {k:FuncId} {args:List Value} {as:Array Value} {w:World} (h:Does P k args w fun v w'=>v=.bool true∧SH w w' [] []) (ha:args.toArray=as):
    Calls P k as w fun e w'=>e=.returned (.bool true)∧Below w.heap.size w w':=by
  subst ha
  refine Calls.mono h.2 fun e w' r=>?_
  cases e with
  | returned v=>exact⟨by rw[r.1],r.2.below⟩
  | _=>exact r.elim

def isByte (x:Int):Bool:=decide (0≤x∧x≤255)
def allB (l:List Int):Bool:=l.all isByte
def isBytes (l:List Int):Bool:=allB l && decide (l.length≤120)
theorem allB_take {zs:List Int} {k:Nat} (hk:k<zs.length):allB (zs.take (k+1))=(allB (zs.take k) && isByte (zs.getD k 0)):=by
  unfold allB
  rw[List.take_succ_eq_append_getElem hk,List.all_append,List.getD_eq_getElem?_getD,List.getElem?_eq_getElem hk]
  simp
theorem allB_step {zs:List Int} {k:Nat} (hk:k<zs.length) (ha:allB (zs.take k)=true) (h:0≤zs.getD k 0∧zs.getD k 0≤255):allB (zs.take (k+1))=true:=by
  rw[allB_take hk,ha]
  simpa [isByte] using h
theorem bytes_no1 {zs:List Int} {k:Nat} (hk:k<zs.length) (h: ¬ (0≤zs.getD k 0∧zs.getD k 0≤255)):false=isBytes zs:=by
  have h1:allB zs=false:=by
    unfold allB
    rw[List.all_eq_false]
    refine⟨zs[k],List.getElem_mem hk,?_⟩
    rw[List.getD_eq_getElem?_getD,List.getElem?_eq_getElem hk]at h
    simpa [isByte] using h
  simp[isBytes,h1]
theorem bytes_yes {zs:List Int} {k:Nat} (hk:zs.length≤k) (ha:allB (zs.take k)=true):decide (((zs.length:Nat):Int)≤120)=isBytes zs:=by
  rw[List.take_of_length_le hk]at ha
  simp only[isBytes,ha,Bool.true_and]
  congr 1
  apply propext
  omega
def idxB (l:List UInt8) (c:UInt8):Int:=
  match (List.range l.length).find? (fun i=>l.getD i 0 == c) with
  | some i=>i
  | none=> -1
section
variable {P:Program} {f:Fr} {w:World} {d:Nat} {ty:TypeId} {pos:String} {aft:Array Edge} {gd:Option (Nat×Bool)} {x y:Operand}
theorem ibs {k:FuncId} {fn:Func} {ts:Array TypeId} {l:List UInt8} {c:UInt8} (hf:P.funcs[k]?=some fn) (hname:(fn.name == "runtime.NumGoroutine")=false)
    (hb:fn.body.isNone=true) (hn:Extern.findNext fn=none) (he:Extern.find fn=some Extern.BytealgIndexByte.indexByte) (hx:ev f x=Str l) (hy:ev f y=U c):
    RV P f w ⟨some d,.call ⟨.value (.func k), #[x,y],ts⟩,ty,pos,aft,gd⟩ (.int .i64 (idxB l c)):=by
  have hr:=run_callFunc_indexByte (P:=P) hf hname hb hn he #[Str l,U c] w
  refine RV.mk ?_
  have hd:execOp (ev f) ⟨some d,.call ⟨.value (.func k), #[x,y],ts⟩,ty,pos,aft,gd⟩=callFunc k #[Str l,U c]:=by
    have hg:ev f (.func k)=.func (.func k) #[] #[]:=rfl
    simp[execOp,resolve,hg,Deferred.ofValue,invoke,hx,hy]
  rw[hd,hr]
  have hfun:(fun i=>(⟨l.toArray⟩:ByteArray)[i]! == UInt8.ofNat c.toNat)=fun i=>l.getD i 0 == c:=by
    funext i
    have:(⟨l.toArray⟩:ByteArray)[i]! =l.getD i 0:=by
      rw[List.getD_eq_getElem?_getD]
      by_cases hi:i<l.length
      · have h1:i<(⟨l.toArray⟩:ByteArray).size:=by simpa [ByteArray.size] using hi
        rw[getElem!_pos (⟨l.toArray⟩:ByteArray) i h1,List.getElem?_eq_getElem hi]
        rfl
      · have h1: ¬ i<(⟨l.toArray⟩:ByteArray).size:=by simpa [ByteArray.size] using hi
        rw[getElem!_neg (⟨l.toArray⟩:ByteArray) i h1,List.getElem?_eq_none (by omega)]
        rfl
    rw[this]
    simp
  have hi:Extern.BytealgIndexByte.indexByte #[Str l,U c]=(match (List.range (⟨l.toArray⟩:ByteArray).size).find? fun i=>(⟨l.toArray⟩:ByteArray)[i]! == UInt8.ofNat c.toNat with
    | some i=>pure (goInt i)
    | none=>pure (goInt (-1))):=rfl
  rw[hi,hfun,size_mk]
  unfold idxB
  cases (List.range l.length).find? (fun i=>l.getD i 0 == c) <;> rfl
end
theorem idxB_eq {l:List UInt8} {c:UInt8} {k:Nat} (hk:k<l.length) (hne: ∀ j,j<k→l.getD j 0≠c) (he:l.getD k 0=c):idxB l c=(k:Int):=by
  unfold idxB
  have:(List.range l.length).find? (fun i=>l.getD i 0 == c)=some k:=by
    rw[List.find?_range_eq_some]
    exact⟨by simpa using he,by simpa using hk,fun j hj=>by simpa using hne j hj⟩
  rw[this]
def idxF (p:Int→Bool) (l:List Int):Int:=
  match (List.range l.length).find? (fun i=>p (l.getD i 0)) with
  | some i=>i
  | none=> -1
theorem idxF_eq {p:Int→Bool} {l:List Int} {k:Nat} (hk:k<l.length) (hne: ∀ j,j<k→p (l.getD j 0)=false) (he:p (l.getD k 0)=true):(k:Int)=idxF p l:=by
  unfold idxF
  have:(List.range l.length).find? (fun i=>p (l.getD i 0))=some k:=by
    rw[List.find?_range_eq_some]
    exact⟨he,by simpa using hk,fun j hj=>by rw[hne j hj]; rfl⟩
  rw[this]
theorem idxF_none {p:Int→Bool} {l:List Int} (hne: ∀ j,j<l.length→p (l.getD j 0)=false): -1=idxF p l:=by
  unfold idxF
  have:(List.range l.length).find? (fun i=>p (l.getD i 0))=none:=by
    rw[List.find?_eq_none]
    intro j hj
    rw[hne j (List.mem_range.1 hj)]
    simp
  rw[this]
theorem idxF_any (p:Int→Bool) (l:List Int):decide (0≤idxF p l)=l.any p:=by
  unfold idxF
  rw[Bool.eq_iff_iff,decide_eq_true_eq,List.any_eq_true]
  cases h:(List.range l.length).find? (fun i=>p (l.getD i 0)) with
  | none=>
    rw[List.find?_eq_none]at h
    constructor
    · intro h0; simp at h0
    · rintro ⟨x,hx,hp⟩
      obtain ⟨j,hj,rfl⟩:=List.getElem_of_mem hx
      have:=h j (List.mem_range.2 hj)
      rw[List.getD_eq_getElem?_getD,List.getElem?_eq_getElem hj]at this
      exact absurd hp this
  | some i=>
    have hm:=List.mem_of_find?_eq_some h
    have hp:=List.find?_some h
    rw[List.mem_range]at hm
    constructor
    · intro _
      refine⟨l[i],List.getElem_mem hm,?_⟩
      rw[List.getD_eq_getElem?_getD,List.getElem?_eq_getElem hm]at hp
      exact hp
    · intro _; simp
theorem isBytes_not (l:List Int):(decide (((l.length:Nat):Int)≤120) && !(l.any fun x=>decide (¬ (0≤x∧x≤255))))=isBytes l:=by
  unfold isBytes allB
  rw[Bool.and_comm]
  congr 1
  · rw[List.not_any_eq_all_not]
    congr 1
    funext x
    by_cases h:0≤x∧x≤255 <;> simp[isByte,h]
  · congr 1
    apply propext
    omega
def hexDs:List UInt8:=[48,49,50,51,52,53,54,55,56,57,97,98,99,100,101,102]
theorem u8_eq {a b:UInt8} (h:((a.toNat:Nat):Int)=((b.toNat:Nat):Int)):a=b:=by
  have:a.toNat=b.toNat:=by omega
  exact UInt8.toNat_inj.1 this
theorem take_succ_eq {α:Type} {as bs:List α} {k:Nat} {d:α} (h1:k<as.length) (h2:k<bs.length) (h:as.take k=bs.take k) (he:as.getD k d=bs.getD k d):as.take (k+1)=bs.take (k+1):=by
  rw[List.take_succ_eq_append_getElem h1,List.take_succ_eq_append_getElem h2,h]
  rw[List.getD_eq_getElem?_getD,List.getD_eq_getElem?_getD,List.getElem?_eq_getElem h1,List.getElem?_eq_getElem h2]at he
  simp at he
  rw[he]
theorem take_all_eq {α:Type} {as bs:List α} {k:Nat} (hl:as.length=bs.length) (h1:as.length≤k) (h:as.take k=bs.take k):as=bs:=by
  rwa [List.take_of_length_le h1,List.take_of_length_le (by omega)]at h
def marks (k0:Int) (n:Nat):List Int:=(List.range n).map (fun i=>k0+(i:Nat))
@[simp] theorem marks_len (k0:Int) (n:Nat):(marks k0 n).length=n:=by simp[marks]
def hexV (l:List UInt8) (i:Nat):Int:=16*idxB hexDs (l.getD (2*i) 0)+idxB hexDs (l.getD (2*i+1) 0)
def hexN (l:List UInt8) (k:Nat):List Int:=(List.range k).map (hexV l)
@[simp] theorem hexN_len (l:List UInt8) (k:Nat):(hexN l k).length=k:=by simp[hexN]
theorem isBytes_len {xs:List Int} (h:isBytes xs=true):xs.length≤120:=by
  simp[isBytes]at h
  exact h.2
theorem isBytes_get {xs:List Int} (h:isBytes xs=true) {k:Nat} (hk:k<xs.length):0≤xs.getD k 0∧xs.getD k 0≤255:=by
  simp only[isBytes,Bool.and_eq_true,allB,List.all_eq_true]at h
  have:=h.1 xs[k] (List.getElem_mem hk)
  rw[List.getD_eq_getElem?_getD,List.getElem?_eq_getElem hk]
  simpa [isByte] using this
theorem u8_bd (c:UInt8):c.toNat≤255:=by
  have:=c.toNat_lt
  omega
theorem div_bd (a b:Nat):0≤((a:Nat):Int) / ((b:Nat):Int)∧((a:Nat):Int) / ((b:Nat):Int)≤((a:Nat):Int):=by
  rw[← Int.natCast_ediv]
  exact⟨Int.natCast_nonneg _,Int.ofNat_le.2 (Nat.div_le_self a b)⟩
theorem mod_pos {a n:Int} (h:1≤n):0≤a % n∧(a % n<n∨a % n=0):=⟨Int.emod_nonneg _ (by omega),.inl (Int.emod_lt_of_pos _ (by omega))⟩
section
variable {P:Program} {f:Fr} {w:World} {d:Nat} {ty:TypeId} {pos:String} {aft:Array Edge} {gd:Option (Nat×Bool)} {x y:Operand} {t t2:TypeId}
theorem subN {a b:Nat} (hx:ev f x=.int .i64 ((a:Nat):Int)) (hy:ev f y=.int .i64 ((b:Nat):Int)) (h:b≤a) (ha:a≤9223372036854775807):RV P f w ⟨some d,.binOp .sub t x y t2,ty,pos,aft,gd⟩ (.int .i64 ((a-b:Nat):Int)):=by
  have:=sub (P:=P) (f:=f) (w:=w) (d:=d) (ty:=ty) (pos:=pos) (aft:=aft) (gd:=gd) (t:=t) (t2:=t2) hx hy ⟨by omega,by omega⟩
  rwa [show ((a:Nat):Int)-((b:Nat):Int)=((a-b:Nat):Int) from by omega]at this
end
theorem getD_mem {α:Type} {l:List α} {i:Nat} {d:α} (h:i<l.length):l.getD i d∈l:=by
  rw[List.getD_eq_getElem?_getD,List.getElem?_eq_getElem h]
  exact List.getElem_mem h
theorem getD_appL {α:Type} {l m:List α} {i:Nat} {d:α} (h:i<l.length):(l++m).getD i d=l.getD i d:=by
  simp only[List.getD_eq_getElem?_getD,List.getElem?_append_left h]
theorem getD_appR {α:Type} {l m:List α} {i:Nat} {d:α} (h:l.length≤i):(l++m).getD i d=m.getD (i-l.length) d:=by
  simp only[List.getD_eq_getElem?_getD,List.getElem?_append_right h]
theorem idxB_get {l:List UInt8} {c:UInt8} (h:0≤idxB l c):l.getD (idxB l c).toNat 0=c:=by
  unfold idxB at h ⊢
  split at h
  · rename_i i hi
    have:=List.find?_some hi
    simpa using this
  · omega
section
variable {H:Type} {enc:TypeId×Value→H} {P:Program} {w:World} {sp:Nat→Bool} {held:Bool} {fuel:Nat} {t e:TypeId} {cs:List Value} {x:DataW H×List MemPlace}
theorem rd_u (hT:P.underlying t=some (.int .u8)) (h:DataW.trod enc P w 0 sp held fuel t cs=some x): ∃ c:UInt8,cs=[U c]:=by
  obtain ⟨n,rfl,_,hw⟩:=DataW.trod_int hT h
  have e1:IntKind.u8.min=0:=rfl
  have e2:IntKind.u8.max=255:=rfl
  have hw':(decide (IntKind.u8.min≤n) && decide (n≤IntKind.u8.max))=true:=hw
  rw[Bool.and_eq_true,e1,e2]at hw'
  have h1:=of_decide_eq_true hw'.1
  have h2:=of_decide_eq_true hw'.2
  refine⟨UInt8.ofNat n.toNat,?_⟩
  show _=[Value.int .u8 ((UInt8.ofNat n.toNat).toNat:Int)]
  rw[UInt8.toNat_ofNat']
  congr 2
  omega
end
section
variable {H:Type} {enc:TypeId×Value→H} {P:Program} {w:World} {sp:Nat→Bool} {held:Bool} {fuel:Nat} {t e:TypeId} {cs:List Value} {x:DataW H×List MemPlace}
theorem mapM_get {α β:Type} {g:α→Option β}: ∀ {l:List α} {r:List β},l.mapM g=some r→r.length=l.length∧ ∀ (j:Nat) a,l[j]?=some a→g a=r[j]?
  | [],r,h=>by
    simp at h
    subst h
    exact⟨rfl,fun j a ha=>by simp at ha⟩
  | b::l,r,h=>by
    simp only[List.mapM_cons,Option.bind_eq_bind,Option.bind_eq_some_iff,Option.pure_def,Option.some.injEq]at h
    obtain ⟨y,hy,ys,hys,rfl⟩:=h
    obtain ⟨h1,h2⟩:=mapM_get hys
    refine⟨by simp[h1],fun j a ha=>?_⟩
    cases j with
    | zero=>
      simp at ha
      subst ha
      simpa using hy
    | succ j=>simpa using h2 j a (by simpa using ha)
theorem cells?_get {b:Nat} {a:Addr} {n:Nat} {cs':List Value} (h:w.cells? b a n=some cs'):cs'.length=n∧ ∀ j u,cs'[j]?=some u→w.cell? (a.add j)=some u:=by
  unfold World.cells? at h
  split at h
  · obtain ⟨h1,h2⟩:=mapM_get h
    rw[List.length_range]at h1
    refine⟨h1,fun j u hu=>?_⟩
    have hj:j<n:=by
      rw[← h1]
      exact(List.getElem?_eq_some_iff.1 hu).1
    rw[h2 j j (by simp[hj]),hu]
  · cases h
theorem pick_list {α:Type} {Q:Nat→α→Prop}: ∀ n,(∀ i,i<n→ ∃ u,Q i u)→ ∃ us:List α,us.length=n∧ ∀ i u,us[i]?=some u→Q i u
  | 0,_=>⟨[],rfl,fun i u h=>by simp at h⟩
  | n+1,h=>by
    obtain ⟨us,h1,h2⟩:=pick_list n fun i hi=>h i (by omega)
    obtain ⟨u,hu⟩:=h n (by omega)
    refine⟨us++[u],by simp[h1],fun i v hv=>?_⟩
    rw[List.getElem?_append]at hv
    split at hv
    · exact h2 i v hv
    · rename_i hi
      have:i=n:=by
        have:=(List.getElem?_eq_some_iff.1 hv).1
        simp at this
        omega
      subst this
      rw[h1]at hv
      simp at hv
      subst hv
      exact hu
theorem rd_sl {α:Type} (g:α→List Value) {R:α→Prop} {sz:Nat} (hT:P.underlying t=some (.slice e)) (hsz:P.cellsOf e=sz) (h0:0<sz)
    (hel: ∀ n cs' y,DataW.trod enc P w 0 sp held n e cs'=some y→ ∃ u,cs'=g u∧R u)
    (h:DataW.trod enc P w 0 sp held fuel t cs=some x): ∃ (A:Option Addr) (c:Nat) (us:List α),cs=[.slice A us.length c]∧Sl w [] sz A us.length c (us.flatMap g)∧ ∀ u∈us,R u:=by
  rcases DataW.trod_slice hT h with ⟨rfl,_⟩ | ⟨a,len,cap,elems,rest,n,_,rfl,_,hb,hl,hm,hlen,hel',_,_⟩
  · exact⟨none,0,[],rfl,by simpa using ⟨by simp,Nat.le_refl _,Nat.zero_le _,fun h=>by omega⟩,by simp⟩
  · subst hsz
    have hone: ∀ i,i<len→ ∃ u,(∀ j v,(g u)[j]?=some v→w.cell? ((a.add (i*P.cellsOf e)).add j)=some v)∧(g u).length=P.cellsOf e∧R u:=by
      intro i hi
      have:=hel' i hi
      rw[List.getElem?_eq_getElem (by omega)]at this
      obtain ⟨cs',hc,ht⟩:=Option.bind_eq_some_iff.1 this
      obtain ⟨u,rfl,hR⟩:=hel _ _ _ ht
      exact⟨u,(cells?_get hc).2,(cells?_get hc).1,hR⟩
    obtain ⟨us,hul,hu⟩:=pick_list len hone
    have hmem: ∀ u∈us,(g u).length=P.cellsOf e∧R u:=by
      intro u hum
      obtain ⟨i,hi,rfl⟩:=List.getElem_of_mem hum
      exact(hu i _ (List.getElem?_eq_getElem hi)).2
    have hfl: ∀ us:List α,(∀ u∈us,(g u).length=P.cellsOf e)→(us.flatMap g).length=us.length*P.cellsOf e:=by
      intro us hus
      induction us with
      | nil=>simp
      | cons u us ih=>rw[List.flatMap_cons,List.length_append,ih fun v hv=>hus v (List.mem_cons_of_mem _ hv),hus u (List.mem_cons_self ..),List.length_cons,Nat.add_mul]; omega
    have hget: ∀ (us:List α),(∀ u∈us,(g u).length=P.cellsOf e)→ ∀ (k:Nat) v,(us.flatMap g)[k]?=some v→ ∃ i u,us[i]?=some u∧ ∃ j,j<P.cellsOf e∧k=i*P.cellsOf e+j∧(g u)[j]?=some v:=by
      intro us hus
      induction us with
      | nil=>intro k v hv; simp at hv
      | cons u us ih=>
        intro k v hv
        rw[List.flatMap_cons,List.getElem?_append]at hv
        have hlu:=hus u (List.mem_cons_self ..)
        split at hv
        · rename_i hk
          exact⟨0,u,rfl,k,by omega,by omega,hv⟩
        · rename_i hk
          obtain ⟨i,u',hi,j,hj,hk',hv'⟩:=ih (fun v hv=>hus v (List.mem_cons_of_mem _ hv)) _ _ hv
          exact⟨i+1,u',by simpa using hi,j,hj,by rw[Nat.add_mul]; omega,hv'⟩
    refine⟨some a,cap,us,by rw[hul],⟨hfl us fun u hu=>(hmem u hu).1,by omega,hm,fun hn=>⟨a,rfl,?_,by simp,fun k v hv=>?_⟩⟩,fun u hu=>(hmem u hu).2⟩
    · have h1:=hone 0 (by omega)
      obtain ⟨u,h2,h3,_⟩:=h1
      have:=h2 0 _ (List.getElem?_eq_getElem (by omega))
      have:=cell_lt this
      rwa [block_add,block_add]at this
    · obtain ⟨i,u,hi,j,hj,rfl,hv'⟩:=hget us (fun u hu=>(hmem u hu).1) k v hv
      have:=(hu i u hi).1 j v hv'
      rwa [add_add]at this
theorem flatMap_one {α:Type} (g:α→Value) (us:List α):us.flatMap (fun u=>[g u])=us.map g:=by
  induction us with
  | nil=>rfl
  | cons u us ih=>rw[List.flatMap_cons,ih]; rfl
theorem rd_slm {α:Type} (g:α→Value) {R:α→Prop} (hT:P.underlying t=some (.slice e)) (hsz:P.cellsOf e=1)
    (hel: ∀ n cs' y,DataW.trod enc P w 0 sp held n e cs'=some y→ ∃ u,cs'=[g u]∧R u)
    (h:DataW.trod enc P w 0 sp held fuel t cs=some x): ∃ (A:Option Addr) (c:Nat) (us:List α),cs=[.slice A us.length c]∧Sl w [] 1 A us.length c (us.map g)∧ ∀ u∈us,R u:=by
  obtain ⟨A,c,us,h1,h2,h3⟩:=rd_sl (fun u=>[g u]) hT hsz (by omega) hel h
  rw[flatMap_one]at h2
  exact⟨A,c,us,h1,h2,h3⟩
theorem rd_us (hT:P.underlying t=some (.slice e)) (he:P.underlying e=some (.int .u8)) (hsz:P.cellsOf e=1) (h:DataW.trod enc P w 0 sp held fuel t cs=some x):
    ∃ (A:Option Addr) (c:Nat) (us:List UInt8),cs=[.slice A us.length c]∧Sl w [] 1 A us.length c (us.map U):=by
  obtain ⟨A,c,us,h1,h2,_⟩:=rd_slm (R:=fun _=>True) U hT hsz (fun _ _ _ h=>by obtain ⟨u,hu⟩:=rd_u he h; exact⟨u,hu,trivial⟩) h
  exact⟨A,c,us,h1,h2⟩
end
section
variable {H:Type} {enc:TypeId×Value→H} {P:Program} {w:World}
end
theorem isBytes_iff {l:List Int}:isBytes l=true↔(∀ x∈l,0≤x∧x≤255)∧l.length≤120:=by
  simp[isBytes,allB,isByte,List.all_eq_true]
theorem isBytes_sub {l m:List Int} (h:isBytes l=true) (hs:m.Sublist l):isBytes m=true:=by
  rw[isBytes_iff]at*
  exact⟨fun x hx=>h.1 x (hs.subset hx),Nat.le_trans hs.length_le h.2⟩
section
variable {α:Type}
theorem all_take {p:α→Bool} {l:List α} {k:Nat} (d:α) (h:k<l.length):(l.take (k+1)).all p=((l.take k).all p && p (l.getD k d)):=by
  rw[List.take_succ_eq_append_getElem h,List.all_append,List.getD_eq_getElem?_getD,List.getElem?_eq_getElem h]
  simp
theorem all_step {p:α→Bool} {l:List α} {k:Nat} {d:α} (h:k<l.length) (ha:(l.take k).all p=true) (hp:p (l.getD k d)=true):(l.take (k+1)).all p=true:=by
  rw[all_take d h,ha,hp]
  rfl
theorem all_no {p:α→Bool} {l:List α} {k:Nat} {d:α} (h:k<l.length) (hp:p (l.getD k d)=false):l.all p=false:=by
  rw[List.all_eq_false]
  refine⟨l[k],List.getElem_mem h,?_⟩
  rw[List.getD_eq_getElem?_getD,List.getElem?_eq_getElem h]at hp
  simpa using hp
theorem all_yes {p:α→Bool} {l:List α} {k:Nat} (h:l.length≤k) (ha:(l.take k).all p=true):l.all p=true:=by
  rwa [List.take_of_length_le h]at ha
def idxP (p:α→Bool) (l:List α):Int:=match l.findIdx? p with | some i=>(i:Int) | none=> -1
theorem idxP_eq {p:α→Bool} {l:List α} {k:Nat} {d:α} (hk:k<l.length) (hne: ∀ j,j<k→p (l.getD j d)=false) (he:p (l.getD k d)=true):(k:Int)=idxP p l:=by
  unfold idxP
  have:l.findIdx? p=some k:=by
    rw[List.findIdx?_eq_some_iff_getElem]
    refine⟨hk,?_,fun j hj=>?_⟩
    · rw[List.getD_eq_getElem?_getD,List.getElem?_eq_getElem hk]at he
      exact he
    · have:=hne j hj
      rw[List.getD_eq_getElem?_getD,List.getElem?_eq_getElem (by omega)]at this
      simpa using this
  rw[this]
theorem idxP_none {p:α→Bool} {l:List α} {d:α} (hne: ∀ j,j<l.length→p (l.getD j d)=false): -1=idxP p l:=by
  unfold idxP
  have:l.findIdx? p=none:=by
    rw[List.findIdx?_eq_none_iff]
    intro x hx
    obtain ⟨j,hj,rfl⟩:=List.getElem_of_mem hx
    have:=hne j hj
    rwa [List.getD_eq_getElem?_getD,List.getElem?_eq_getElem hj]at this
  rw[this]
theorem idxP_any (p:α→Bool) (l:List α):decide (0≤idxP p l)=l.any p:=by
  unfold idxP
  rw[← List.findIdx?_isSome]
  cases l.findIdx? p <;> simp
end
theorem idxB_mem (l:List UInt8) (c:UInt8):0≤idxB l c↔c∈l:=by
  unfold idxB
  cases h:(List.range l.length).find? (fun i=>l.getD i 0 == c) with
  | none=>
    rw[List.find?_eq_none]at h
    constructor
    · intro h0; simp at h0
    · intro hc
      obtain ⟨j,hj,rfl⟩:=List.getElem_of_mem hc
      have:=h j (List.mem_range.2 hj)
      rw[List.getD_eq_getElem?_getD,List.getElem?_eq_getElem hj]at this
      simp at this
  | some i=>
    have hm:=List.mem_range.1 (List.mem_of_find?_eq_some h)
    have hp:=List.find?_some h
    constructor
    · intro _
      have:l[i]=c:=by
        rw[List.getD_eq_getElem?_getD,List.getElem?_eq_getElem hm]at hp
        simpa using hp
      exact this ▸ List.getElem_mem hm
    · intro _; simp
def okC (m:List UInt8) (c:UInt8):Bool:=decide ((97≤((c.toNat:Nat):Int)∧((c.toNat:Nat):Int)≤122)∨(48≤((c.toNat:Nat):Int)∧((c.toNat:Nat):Int)≤57)∨0≤idxB m c)
def letC (c:UInt8):Bool:=decide ((97≤((c.toNat:Nat):Int)∧((c.toNat:Nat):Int)≤122)∨(48≤((c.toNat:Nat):Int)∧((c.toNat:Nat):Int)≤57)∨((c.toNat:Nat):Int)=45)
theorem okC_iff (m:List UInt8) (c:UInt8):okC m c=true↔((97≤((c.toNat:Nat):Int)∧((c.toNat:Nat):Int)≤122)∨(48≤((c.toNat:Nat):Int)∧((c.toNat:Nat):Int)≤57))∨c∈m:=by
  simp only[okC,decide_eq_true_eq,idxB_mem,or_assoc]
theorem u8_lit {c:UInt8} {n:Nat} (hn:n<256):((c.toNat:Nat):Int)=(n:Int)↔c=UInt8.ofNat n:=by
  constructor
  · intro h
    apply UInt8.toNat_inj.1
    rw[UInt8.toNat_ofNat']
    omega
  · intro h
    rw[h,UInt8.toNat_ofNat']
    omega
section
variable {l:List UInt8} {n:Int} {b:Bool}
end
theorem copy_setG {α:Type} {xs:List α} {k:Nat} {d:α} (h:k<xs.length):(xs.take k++List.replicate (xs.length-k) d).set k (xs.getD k d)=xs.take (k+1)++List.replicate (xs.length-(k+1)) d:=by
  rw[List.set_append_right _ _ (by simp; omega),List.length_take,Nat.min_eq_left (by omega),Nat.sub_self,List.take_succ_eq_append_getElem h,List.append_assoc]
  congr 1
  rw[show xs.length-k=(xs.length-(k+1))+1 from by omega,List.replicate_succ,List.getD_eq_getElem?_getD,List.getElem?_eq_getElem h]
  rfl
abbrev gLogin (u:List UInt8×List UInt8):List Value:=[Str u.1,Str u.2]
def login0:List UInt8×List UInt8:=([],[])
def splitB (c:UInt8):List UInt8→List (List UInt8)
  | []=>[[]]
  | a::l=>if a=c then[]::splitB c l else match splitB c l with | []=>[[a]] | p::ps=>(a::p)::ps
theorem splitB_no {c:UInt8} {p:List UInt8} (h: ∀ x∈p,x≠c):splitB c p=[p]:=by
  induction p with
  | nil=>rfl
  | cons a p ih=>rw[splitB,if_neg (h a (List.mem_cons_self ..)),ih fun x hx=>h x (List.mem_cons_of_mem _ hx)]
theorem splitB_at {c:UInt8} {p r:List UInt8} (h: ∀ x∈p,x≠c):splitB c (p++c::r)=p::splitB c r:=by
  induction p with
  | nil=>simp[splitB]
  | cons a p ih=>rw[List.cons_append,splitB,if_neg (h a (List.mem_cons_self ..)),ih fun x hx=>h x (List.mem_cons_of_mem _ hx)]
theorem splitB_len (c:UInt8) (l:List UInt8):(splitB c l).length=l.count c+1:=by
  induction l with
  | nil=>rfl
  | cons a l ih=>
    rw[splitB,List.count_cons]
    split
    · rename_i h
      simp[ih,h]
    · rename_i h
      cases hs:splitB c l with
      | nil=>rw[hs]at ih; simp at ih
      | cons p ps=>rw[hs]at ih; simp[h]; simpa using ih
theorem splitB_sum (c:UInt8) (l:List UInt8): ∀ p∈splitB c l,p.length≤l.length:=by
  induction l with
  | nil=>simp[splitB]
  | cons a l ih=>
    rw[splitB]
    split
    · intro p hp
      rcases List.mem_cons.1 hp with rfl | hp
      · simp
      · have:=ih p hp; simp; omega
    · cases hs:splitB c l with
      | nil=>simp
      | cons q qs=>
        rw[hs]at ih
        intro p hp
        rcases List.mem_cons.1 hp with rfl | hp
        · have:=ih q (List.mem_cons_self ..); simp; omega
        · have:=ih p (List.mem_cons_of_mem _ hp); simp; omega
theorem splitB_getD (c:UInt8) (l:List UInt8) (k:Nat):((splitB c l).getD k []).length≤l.length:=by
  rw[List.getD_eq_getElem?_getD]
  by_cases hk:k<(splitB c l).length
  · rw[List.getElem?_eq_getElem hk]
    exact splitB_sum c l _ (List.getElem_mem hk)
  · rw[List.getElem?_eq_none (by omega)]
    simp
theorem splitB_pos (c:UInt8) (l:List UInt8):0<(splitB c l).length:=by
  rw[splitB_len]
  omega
theorem idxB_split {l:List UInt8} {c:UInt8} (h:0≤idxB l c):(idxB l c).toNat<l.length∧splitB c l=l.take (idxB l c).toNat::splitB c (l.drop ((idxB l c).toNat+1)):=by
  unfold idxB at*
  cases hf:(List.range l.length).find? (fun i=>l.getD i 0 == c) with
  | none=>rw[hf]at h; simp at h
  | some i=>
    have hm:=List.mem_range.1 (List.mem_of_find?_eq_some hf)
    have hp:=List.find?_some hf
    have hne: ∀ j,j<i→l.getD j 0≠c:=by
      intro j hj
      rw[List.find?_range_eq_some]at hf
      have:=hf.2.2 j hj
      simpa using this
    refine⟨by simpa using hm,?_⟩
    have hi:l[i]=c:=by
      rw[List.getD_eq_getElem?_getD,List.getElem?_eq_getElem hm]at hp
      simpa using hp
    have hl:l=l.take i++c::l.drop (i+1):=by
      conv=>lhs; rw[← List.take_append_drop i l]
      rw[List.drop_eq_getElem_cons hm,hi]
    show splitB c l=l.take i::splitB c (l.drop (i+1))
    conv=>lhs; rw[hl]
    refine splitB_at fun x hx=>?_
    obtain ⟨j,hj,rfl⟩:=List.getElem_of_mem hx
    rw[List.length_take]at hj
    have:=hne j (by omega)
    rw[List.getD_eq_getElem?_getD,List.getElem?_eq_getElem (by omega)]at this
    simpa using this
theorem idxB_nosplit {l:List UInt8} {c:UInt8} (h:idxB l c<0):splitB c l=[l]:=by
  refine splitB_no fun x hx he=>?_
  subst he
  have:=(idxB_mem l x).2 hx
  omega
theorem split_set {α:Type} {P:List α} {k:Nat} {x d:α} {r:List α} (h:P.drop k=x::r):(P.take k++List.replicate (P.length-k) d).set k x=P.take (k+1)++List.replicate (P.length-(k+1)) d:=by
  have hk:k<P.length:=by
    rcases Nat.lt_or_ge k P.length with h' | h'
    · exact h'
    · rw[List.drop_eq_nil_of_le h']at h
      cases h
  have hx:P[k]=x:=by
    rw[List.drop_eq_getElem_cons hk]at h
    exact(List.cons.inj h).1
  have:=copy_setG (xs:=P) (d:=d) hk
  rw[List.getD_eq_getElem?_getD,List.getElem?_eq_getElem hk]at this
  simpa [hx] using this
theorem split_end {α:Type} {P:List α} {k:Nat} {x d:α} (h:P.drop k=[x]):((P.take k++List.replicate (P.length-k) d).set k x).take (k+1)=P:=by
  rw[split_set h]
  have hl:P.length=k+1:=by
    have:=congrArg List.length h
    simp at this
    omega
  rw[hl]
  simp[← hl]
theorem split_take {c:UInt8} {l s:List UInt8} {k m:Nat} (hs:splitB c s=(splitB c l).drop k) (h:0≤idxB s c) (hm:m=(idxB s c).toNat):(splitB c l).drop k=s.take m::splitB c (s.drop (m+1)):=by
  subst hm
  rw[← hs]
  exact(idxB_split h).2
theorem split_next {c:UInt8} {l s:List UInt8} {k m:Nat} (hs:splitB c s=(splitB c l).drop k) (h:0≤idxB s c) (hm:m=(idxB s c).toNat+1):splitB c (s.drop m)=(splitB c l).drop (k+1):=by
  subst hm
  have h1:=split_take hs h rfl
  have h2:=congrArg (List.drop 1) h1
  rw[List.drop_drop]at h2
  exact h2.symm
theorem split_last {c:UInt8} {l s:List UInt8} {k:Nat} (hs:splitB c s=(splitB c l).drop k) (hk:k<(splitB c l).length) (h:l.count c≤k):(splitB c l).drop k=[s]:=by
  have h1:=splitB_len c l
  have h2:=splitB_len c s
  have h3:=congrArg List.length hs
  rw[List.length_drop]at h3
  have h4:s.count c=0:=by omega
  rw[← hs]
  exact splitB_no fun x hx he=>by
    subst he
    exact absurd (List.count_pos_iff.2 hx) (by omega)
theorem split_stop {c:UInt8} {l s:List UInt8} {k:Nat} (hs:splitB c s=(splitB c l).drop k) (h:idxB s c<0):(splitB c l).drop k=[s]:=by
  rw[← hs]
  exact idxB_nosplit h
theorem cut_step {c:UInt8} {l:List UInt8} {zs:List (List UInt8)} {a i:Nat} (h:zs++splitB c (l.drop a)=splitB c l) (ha:a≤i) (hi:i<l.length) (hn: ∀ j,a≤j→j<i→l.getD j 0≠c) (hc:l.getD i 0=c):
    (zs++[(l.take i).drop a])++splitB c (l.drop (i+1))=splitB c l:=by
  rw[← h,List.append_assoc]
  congr 1
  have hg:l[i]=c:=by
    rw[List.getD_eq_getElem?_getD,List.getElem?_eq_getElem hi]at hc
    simpa using hc
  have hd:l.drop a=(l.take i).drop a++c::l.drop (i+1):=by
    conv=>lhs; rw[← List.take_append_drop i l]
    rw[List.drop_append_of_le_length (by simp; omega),List.drop_eq_getElem_cons hi,hg]
  rw[hd,splitB_at]
  · rfl
  · intro x hx
    obtain ⟨j,hj,rfl⟩:=List.getElem_of_mem hx
    simp only[List.length_drop,List.length_take]at hj
    have:=hn (a+j) (by omega) (by omega)
    rw[List.getD_eq_getElem?_getD,List.getElem?_eq_getElem (by omega)]at this
    simpa using this
theorem cut_end {c:UInt8} {l:List UInt8} {zs:List (List UInt8)} {a i:Nat} (h:zs++splitB c (l.drop a)=splitB c l) (hi:l.length≤i) (hn: ∀ j,a≤j→j<i→l.getD j 0≠c):zs++[l.drop a]=splitB c l:=by
  rw[← h]
  congr 1
  refine(splitB_no fun x hx=>?_).symm
  obtain ⟨j,hj,rfl⟩:=List.getElem_of_mem hx
  simp only[List.length_drop]at hj
  have:=hn (a+j) (by omega) (by omega)
  rw[List.getD_eq_getElem?_getD,List.getElem?_eq_getElem (by omega)]at this
  simpa using this
theorem okC45 (c:UInt8):okC [45] c=letC c:=by
  rw[Bool.eq_iff_iff,okC_iff]
  have h45:=u8_lit (c:=c) (n:=45) (by omega)
  have e45:UInt8.ofNat 45=45:=rfl
  rw[e45]at h45
  simp only[letC,decide_eq_true_eq,List.mem_cons,List.not_mem_nil,or_false]
  rw[← h45]
  simp only[or_assoc]
  exact Iff.rfl
def partOk (p:List UInt8):Bool:=decide (p≠[]) && p.all (okC [45])
def lastC (l:List UInt8):UInt8:=((splitB 46 l).getD ((splitB 46 l).length-1) []).getD 0 0
def nameOk (l:List UInt8):Bool:=(splitB 46 l).all partOk && decide (l.length≤20) && decide (97≤(((lastC l).toNat:Nat):Int)∧(((lastC l).toNat:Nat):Int)≤122)
theorem name_bad {l:List UInt8} {k:Nat} (hk:k<(splitB 46 l).length) (h:partOk ((splitB 46 l).getD k [])=false):nameOk l=false:=by
  simp[nameOk,all_no hk h]
theorem part_nil {p:List UInt8} (h:p=[]):partOk p=false:=by simp[partOk,h]
theorem part_len0 {p:List UInt8} (h:p.length=0):partOk p=false:=part_nil (List.eq_nil_of_length_eq_zero h)
theorem part_bad {p:List UInt8} (h:p.all (okC [45])=false):partOk p=false:=by simp[partOk,h]
theorem part_bad1 {p:List UInt8} {j:Nat} (hj:j<p.length) (h:letC (p.getD j 0)=false):partOk p=false:=part_bad (all_no hj (by rw[okC45]; exact h))
theorem part_mk {p:List UInt8} (h: ¬ p=[]) (h2:p.all (okC [45])=true):partOk p=true:=by simp only[partOk,h2,Bool.and_true,decide_eq_true_eq]; exact h
theorem part_mk1 {p:List UInt8} {j:Nat} (h: ¬ p.length=0) (hj:p.length≤j) (h2:(p.take j).all letC=true):partOk p=true:=by
  refine part_mk (fun he=>h (by rw[he]; rfl)) ?_
  rw[List.take_of_length_le hj]at h2
  rw[show okC [45]=letC from funext okC45]
  exact h2
theorem name_last {l:List UInt8} {k:Nat} (hk:(splitB 46 l).length≤k) (ha:((splitB 46 l).take k).all partOk=true) {j:Nat} (hj:j<(splitB 46 l).length):0<((splitB 46 l).getD j []).length:=by
  have h:=all_yes hk ha
  have:=List.all_eq_true.1 h _ (List.getElem_mem hj)
  rw[List.getD_eq_getElem?_getD,List.getElem?_eq_getElem hj]
  rcases Nat.eq_zero_or_pos ((splitB 46 l)[j]).length with h0 | h0
  · rw[part_len0 h0]at this
    cases this
  · simpa using h0
theorem name_end {l:List UInt8} {k:Nat} (hk:(splitB 46 l).length≤k) (ha:((splitB 46 l).take k).all partOk=true):nameOk l=(decide (l.length≤20) && decide (97≤(((lastC l).toNat:Nat):Int)∧(((lastC l).toNat:Nat):Int)≤122)):=by
  simp only[nameOk,all_yes hk ha,Bool.true_and]
theorem name_end1 {l:List UInt8} {k:Nat} (hk:(splitB 46 l).length≤k) (ha:((splitB 46 l).take k).all partOk=true) (h: ¬ ((l.length:Nat):Int)≤20):nameOk l=false:=by
  rw[name_end hk ha,decide_eq_false (by omega)]
  rfl
theorem name_end2 {l:List UInt8} {k:Nat} (hk:(splitB 46 l).length≤k) (ha:((splitB 46 l).take k).all partOk=true) (h:((l.length:Nat):Int)≤20):nameOk l=decide (97≤(((lastC l).toNat:Nat):Int)∧(((lastC l).toNat:Nat):Int)≤122):=by
  rw[name_end hk ha,decide_eq_true (by omega:l.length≤20)]
  rfl
theorem nameOk_len {l:List UInt8} (h:nameOk l=true):l.length≤20:=by
  simp only[nameOk,Bool.and_eq_true,decide_eq_true_eq]at h
  exact h.1.2
def quadOk (q:List Int):Bool:=decide (q.length=4) && isBytes q
theorem quadOk_len {q:List Int} (h:quadOk q=true):q.length=4:=by
  simp only[quadOk,Bool.and_eq_true,decide_eq_true_eq]at h
  exact h.1
def userOk (s:List UInt8):Bool:=decide (s.length≤8) && s.all (okC [])
theorem okC0 (c:UInt8):okC [] c=(letC c && decide (((c.toNat:Nat):Int)≠45)):=by
  rw[Bool.eq_iff_iff,okC_iff]
  simp only[letC,Bool.and_eq_true,decide_eq_true_eq,List.not_mem_nil,or_false]
  omega
theorem user_bad {s:List UInt8} {k:Nat} (hk:k<s.length) (h:letC (s.getD k 0)=false∨(((s.getD k 0).toNat:Nat):Int)=45):userOk s=false:=by
  have:okC [] (s.getD k 0)=false:=by
    rw[okC0]
    rcases h with h | h
    · rw[h]; rfl
    · rw[decide_eq_false (fun hn=>hn h),Bool.and_false]
  simp[userOk,all_no hk this]
theorem user_end {s:List UInt8} {k:Nat} (hk:s.length≤k) (h:(s.take k).all (okC [])=true):decide (((s.length:Nat):Int)≤8)=userOk s:=by
  simp only[userOk,all_yes hk h,Bool.and_true]
  congr 1
  apply propext
  omega
def loginOk (u p:List UInt8):Bool:=decide (u≠[]) && decide (p≠[]) && userOk u && userOk p
theorem userOk_len {s:List UInt8} (h:userOk s=true):s.length≤8:=by
  simp only[userOk,Bool.and_eq_true,decide_eq_true_eq]at h
  exact h.1
def methOk (ms:List Int):Bool:=decide ((∀ x∈ms,0≤x∧x≤254)∧ms.Nodup∧1≤ms.length∧ms.length≤8)
def methT (ms:List Int) (k:Nat):Prop:=(∀ x∈ms.take k,0≤x∧x≤254)∧(ms.take k).Nodup
theorem methT0 (ms:List Int):methT ms 0:=by simp[methT]
theorem methT_step {ms:List Int} {k:Nat} (hk:k<ms.length) (h:methT ms k) (h1:0≤ms.getD k 0∧ms.getD k 0≤254) (h2:ms.getD k 0 ∉ ms.take k):methT ms (k+1):=by
  have hg:ms.getD k 0=ms[k]:=by rw[List.getD_eq_getElem?_getD,List.getElem?_eq_getElem hk]; rfl
  rw[hg]at h1 h2
  unfold methT
  rw[List.take_succ_eq_append_getElem hk]
  refine⟨fun x hx=>?_,List.nodup_append.2 ⟨h.2,by simp,?_⟩⟩
  · rcases List.mem_append.1 hx with hx | hx
    · exact h.1 x hx
    · simp at hx
      subst hx
      exact h1
  · intro a ha b hb he
    simp at hb
    subst hb
    subst he
    exact h2 ha
theorem meth_bad1 {ms:List Int} {k:Nat} (hk:k<ms.length) (h: ¬ (0≤ms.getD k 0∧ms.getD k 0≤254)):methOk ms=false:=by
  have hg:ms.getD k 0=ms[k]:=by rw[List.getD_eq_getElem?_getD,List.getElem?_eq_getElem hk]; rfl
  rw[hg]at h
  refine decide_eq_false fun hx=>h (hx.1 _ (List.getElem_mem hk))
theorem meth_bad2 {ms:List Int} {k:Nat} (hk:k<ms.length) (h:ms.getD k 0∈ms.take k):methOk ms=false:=by
  have hg:ms.getD k 0=ms[k]:=by rw[List.getD_eq_getElem?_getD,List.getElem?_eq_getElem hk]; rfl
  rw[hg]at h
  refine decide_eq_false fun hx=>?_
  have h1:=hx.2.1
  rw[← List.take_append_drop k ms,List.drop_eq_getElem_cons hk]at h1
  exact(List.nodup_append.1 h1).2.2 _ h _ (List.mem_cons_self ..) rfl
theorem meth_end {ms:List Int} {k:Nat} (hk:ms.length≤k) (h:methT ms k):decide ((1:Int)≤((ms.length:Nat):Int)∧((ms.length:Nat):Int)≤8)=methOk ms:=by
  unfold methT at h
  rw[List.take_of_length_le hk]at h
  unfold methOk
  congr 1
  apply propext
  constructor
  · intro hl
    exact⟨h.1,h.2,by omega,by omega⟩
  · intro hl
    omega
theorem methOk_len {ms:List Int} (h:methOk ms=true):1≤ms.length∧ms.length≤8:=(of_decide_eq_true h).2.2
def addrOk (k:Int) (q:List Int) (nm:List UInt8) (p:Int):Bool:=
  decide (0≤p∧p≤65535) && ((decide (k=1) && quadOk q && decide (nm=[])) || (decide (k=3) && nameOk nm && decide (q=[])))
theorem addr1 (q:List Int) (nm:List UInt8) (p:Int):addrOk 1 q nm p=(decide (0≤p∧p≤65535) && (quadOk q && decide (nm=[]))):=by simp[addrOk]
theorem addr3 (q:List Int) (nm:List UInt8) (p:Int):addrOk 3 q nm p=(decide (0≤p∧p≤65535) && (nameOk nm && decide (q=[]))):=by simp[addrOk]
theorem addr_no {k:Int} (q:List Int) (nm:List UInt8) (p:Int) (h1: ¬ k=1) (h3: ¬ k=3):addrOk k q nm p=false:=by simp[addrOk,h1,h3]
theorem addr_port {k:Int} (q:List Int) (nm:List UInt8) {p:Int} (h: ¬ (0≤p∧p≤65535)):addrOk k q nm p=false:=by simp only[addrOk,decide_eq_false h,Bool.false_and]
def clientOk (ms:List Int) (u p:List UInt8) (k:Int) (q:List Int) (nm:List UInt8) (pt:Int):Bool:=
  methOk ms && addrOk k q nm pt && (if 2∈ms then loginOk u p else decide (u=[]∧p=[]))
theorem idxP_int (n:Int) (l:List Int):decide (0≤idxP (fun x=>decide (n=x)) l)=decide (n∈l):=by
  rw[idxP_any]
  rw[Bool.eq_iff_iff]
  simp
theorem idxB_self (c:UInt8):idxB [c] c=0:=by simp[idxB]
theorem idxB_lt (l:List UInt8) (c:UInt8): -1≤idxB l c∧idxB l c<(l.length:Int):=by
  rcases Int.lt_or_le (idxB l c) 0 with h | h
  · refine⟨?_,by omega⟩
    unfold idxB
    split <;> omega
  · have:=(idxB_split h).1
    omega
theorem cut_len {c:UInt8} {l m:List UInt8} {zs:List (List UInt8)} (h:zs++splitB c m=splitB c l):zs.length≤l.length:=by
  have h1:=congrArg List.length h
  rw[List.length_append,splitB_len,splitB_len]at h1
  have:=List.count_le_length (a:=c) (l:=l)
  omega
theorem name_end3 {l:List UInt8} {k:Nat} (hk:(splitB 46 l).length≤k) (ha:((splitB 46 l).take k).all partOk=true) (h:((l.length:Nat):Int)≤20) (h1:97≤(((lastC l).toNat:Nat):Int)):decide ((((lastC l).toNat:Nat):Int)≤122)=nameOk l:=by
  rw[name_end2 hk ha h]
  congr 1
  apply propext
  omega
theorem name_end4 {l:List UInt8} {k:Nat} (hk:(splitB 46 l).length≤k) (ha:((splitB 46 l).take k).all partOk=true) (h:((l.length:Nat):Int)≤20) (h1: ¬ 97≤(((lastC l).toNat:Nat):Int)):false=nameOk l:=by
  rw[name_end2 hk ha h,decide_eq_false (by omega)]
theorem user_mk {c:UInt8} (h:letC c=true) (h2: ¬ ((c.toNat:Nat):Int)=45):okC [] c=true:=by
  rw[okC0,h,decide_eq_true h2]
  rfl
theorem has_step {zs:List Int} {n:Int} {k:Nat} (hk:k<zs.length) (h:n ∉ zs.take k) (hn: ¬ zs.getD k 0=n):n ∉ zs.take (k+1):=by
  rw[List.take_succ_eq_append_getElem hk]
  rw[List.getD_eq_getElem?_getD,List.getElem?_eq_getElem hk]at hn
  intro hm
  rcases List.mem_append.1 hm with hm | hm
  · exact h hm
  · simp at hm
    exact hn hm.symm
theorem has_yes {zs:List Int} {n:Int} {k:Nat} (hk:k<zs.length) (hn:zs.getD k 0=n):n∈zs:=by
  rw[List.getD_eq_getElem?_getD,List.getElem?_eq_getElem hk]at hn
  exact hn ▸ List.getElem_mem hk
theorem has_no {zs:List Int} {n:Int} {k:Nat} (hk:zs.length≤k) (h:n ∉ zs.take k):n ∉ zs:=by
  rwa [List.take_of_length_le hk]at h
theorem addr_is1 {k:Int} {q:List Int} {nm:List UInt8} {p:Int} (h:k=1):addrOk k q nm p=(decide (0≤p∧p≤65535) && (quadOk q && decide (nm=[]))):=by rw[h,addr1]
theorem addr_is3 {k:Int} {q:List Int} {nm:List UInt8} {p:Int} (h:k=3):addrOk k q nm p=(decide (0≤p∧p≤65535) && (nameOk nm && decide (q=[]))):=by rw[h,addr3]
theorem loginOk_len (u p:List UInt8):loginOk u p=(userOk u && userOk p && decide ((0:Int)<((u.length:Nat):Int)) && decide ((0:Int)<((p.length:Nat):Int))):=by
  have h: ∀ l:List UInt8,decide (l≠[])=decide ((0:Int)<((l.length:Nat):Int)):=by
    intro l
    congr 1
    apply propext
    cases l <;> simp
  rw[loginOk,h,h,Bool.eq_iff_iff]
  simp only[Bool.and_eq_true]
  constructor
  · rintro ⟨⟨⟨a,b⟩,c⟩,d⟩; exact⟨⟨⟨c,d⟩,a⟩,b⟩
  · rintro ⟨⟨⟨a,b⟩,c⟩,d⟩; exact⟨⟨⟨c,d⟩,a⟩,b⟩
theorem four_len (i:Nat):(Z4.getD i []).length≤2:=by
  match i with
  | 0=>decide
  | 1=>decide
  | 2=>decide
  | 3=>decide
  | n+4=>simp
theorem names9 {s:List UInt8} (h:s∈([[],[97,46,46,98],[46,97],[97,46],[65],[97,95,98],[97,98,99,100,101,102,103,104,105,106,107,108,109,110,111,112,113,114,115,116],[97,98,99,100,101,102,103,104,105,106,107,108,109,110,111,112,113,114,115,116,117],[97,46,57]]:List (List UInt8))):s.length≤21:=by
  have: ∀ s∈([[],[97,46,46,98],[46,97],[97,46],[65],[97,95,98],[97,98,99,100,101,102,103,104,105,106,107,108,109,110,111,112,113,114,115,116],[97,98,99,100,101,102,103,104,105,106,107,108,109,110,111,112,113,114,115,116,117],[97,46,57]]:List (List UInt8)),s.length≤21:=by decide
  exact this s h
theorem names6 {s:List UInt8} (h:s∈([[120,46,111,114,103],[119,119,119,46,120,46,111,114,103],[97],[98,45,99,46,110,101,116],[57,97,46,98],[121]]:List (List UInt8))):s.length≤21:=by
  have: ∀ s∈([[120,46,111,114,103],[119,119,119,46,120,46,111,114,103],[97],[98,45,99,46,110,101,116],[57,97,46,98],[121]]:List (List UInt8)),s.length≤21:=by decide
  exact this s h
theorem three_login (i:Nat):(([([97,110,110],[97,98,99]),([98,111,98],[57]),([98,111,98],[97,98,99])]:List (List UInt8×List UInt8)).getD i login0).1.length≤5∧(([([97,110,110],[97,98,99]),([98,111,98],[57]),([98,111,98],[97,98,99])]:List (List UInt8×List UInt8)).getD i login0).2.length≤5:=by
  match i with
  | 0=>decide
  | 1=>decide
  | 2=>decide
  | n+3=>simp[login0]
def textI (s:List UInt8):List Int:=s.map fun c=>((c.toNat:Nat):Int)
theorem textI_len (s:List UInt8):(textI s).length=s.length:=by simp[textI]
theorem textI_get {s:List UInt8} {k:Nat} (h:k<s.length):(textI s).getD k 0=(((s.getD k 0).toNat:Nat):Int):=by
  simp only[textI,List.getD_eq_getElem?_getD,List.getElem?_map,List.getElem?_eq_getElem h,Option.map_some,Option.getD_some]
theorem textI_set {s:List UInt8} {k:Nat} (h:k<s.length):((textI s).take k++List.replicate (s.length-k) (0:Int)).set k (((s.getD k 0).toNat:Nat):Int)=(textI s).take (k+1)++List.replicate (s.length-(k+1)) 0:=by
  have:=copy_setG (xs:=textI s) (k:=k) (d:=(0:Int)) (by rw[textI_len]; exact h)
  rwa [textI_get h,textI_len]at this
theorem textI_app {s:List UInt8} {k:Nat} (h:k<s.length):(textI s).take k++[(((s.getD k 0).toNat:Nat):Int)]=(textI s).take (k+1):=by
  rw[← textI_get h,List.take_succ_eq_append_getElem (by rw[textI_len]; exact h),List.getD_eq_getElem?_getD,List.getElem?_eq_getElem (by rw[textI_len]; exact h)]
  rfl
theorem textI_all {s:List UInt8} {k:Nat} (h:s.length≤k):(textI s).take k=textI s:=List.take_of_length_le (by rw[textI_len]; exact h)
def numB (n:Int):List Int:=[n / 256 % 256,n % 256]
theorem numB_set {n:Int} {k:Nat} (h:k<2):((numB n).take k++List.replicate (2-k) (0:Int)).set k (n / 2 ^ (8*((2:Int)-1-(k:Nat))).toNat % 256)=(numB n).take (k+1)++List.replicate (2-(k+1)) 0:=by
  rcases Nat.lt_succ_iff_lt_or_eq.1 h with h | rfl
  · obtain rfl:k=0:=by omega
    simp[numB]
  · simp[numB]
def addrB (k:Int) (q:List Int) (nm:List UInt8) (p:Int):List Int:=(k::(if k=1 then q else((nm.length:Nat):Int)::textI nm))++numB p
theorem addrB_len {k:Int} {q:List Int} {nm:List UInt8} {p:Int} (h:addrOk k q nm p=true):(addrB k q nm p).length≤24:=by
  by_cases h1:k=1
  · subst h1
    rw[addr1]at h
    simp only[Bool.and_eq_true]at h
    have:=quadOk_len h.2.1
    simp[addrB,numB,this]
  · by_cases h3:k=3
    · subst h3
      rw[addr3]at h
      simp only[Bool.and_eq_true]at h
      have:=nameOk_len h.2.1
      simp[addrB,numB,textI_len]
      omega
    · rw[addr_no q nm p h1 h3]at h
      cases h
theorem addrOk_fit {k:Int} {q:List Int} {nm:List UInt8} {p:Int} (h:addrOk k q nm p=true):0≤p∧p≤65535∧(k=1→q.length=4)∧(¬ k=1→nm.length≤20):=by
  have hp:0≤p∧p≤65535:=by
    rcases Decidable.em (0≤p∧p≤65535) with hp | hp
    · exact hp
    · rw[addr_port q nm hp]at h
      cases h
  refine⟨hp.1,hp.2,fun h1=>?_,fun h1=>?_⟩
  · rw[addr_is1 h1]at h
    simp only[Bool.and_eq_true]at h
    exact quadOk_len h.2.1
  · by_cases h3:k=3
    · rw[addr_is3 h3]at h
      simp only[Bool.and_eq_true]at h
      exact nameOk_len h.2.1
    · rw[addr_no q nm p h1 h3]at h
      cases h
def reqOk (c k:Int) (q:List Int) (nm:List UInt8) (p:Int):Bool:=decide (1≤c∧c≤3) && addrOk k q nm p
def reqP (c k:Int) (q:List Int) (nm:List UInt8) (p:Int):List Int×Bool:=if reqOk c k q nm p then([5,c,0]++addrB k q nm p,true) else([],false)
def helloP (ms:List Int):List Int×Bool:=if methOk ms then([5,((ms.length:Nat):Int)]++ms,true) else([],false)
def loginP (u w:List UInt8):List Int×Bool:=if loginOk u w then([1,((u.length:Nat):Int)]++textI u++[((w.length:Nat):Int)]++textI w,true) else([],false)
theorem loginOk_fit {u w:List UInt8} (h:loginOk u w=true):u.length≤8∧w.length≤8:=by
  simp only[loginOk,Bool.and_eq_true]at h
  exact⟨userOk_len h.1.2,userOk_len h.2⟩
def sayP (ms:List Int) (u w:List UInt8) (k:Int) (q:List Int) (nm:List UInt8) (p:Int) (s:Int):List Int×Bool:=
  if clientOk ms u w k q nm p then(if s=0 then helloP ms else if s=1 then loginP u w else if s=2 then reqP 1 k q nm p else([],false)) else([],false)
theorem clientOk_fit {ms:List Int} {u w:List UInt8} {k:Int} {q:List Int} {nm:List UInt8} {p:Int} (h:clientOk ms u w k q nm p=true):methOk ms=true∧addrOk k q nm p=true:=by
  simp only[clientOk,Bool.and_eq_true]at h
  exact h.1
theorem helloP_len (ms:List Int):(helloP ms).1.length≤10:=by
  unfold helloP
  split
  · rename_i h
    have:=methOk_len h
    simp
    omega
  · simp
theorem loginP_len (u w:List UInt8):(loginP u w).1.length≤19:=by
  unfold loginP
  split
  · rename_i h
    have:=loginOk_fit h
    simp[textI_len]
    omega
  · simp
theorem reqP_len (c k:Int) (q:List Int) (nm:List UInt8) (p:Int):(reqP c k q nm p).1.length≤27:=by
  unfold reqP
  split
  · rename_i h
    simp only[reqOk,Bool.and_eq_true]at h
    have:=addrB_len h.2
    simp
    omega
  · simp
theorem num_and {n:Int} {k:Nat} (h:0≤n∧n≤65535):0≤n / 2 ^ k:=Int.ediv_nonneg h.1 (Int.le_of_lt (Int.pow_pos (by decide)))
def numM (n:Int) (k:Nat):Int:=match k with | 0=>n | 1=>n / 256 | _=>n / 256 / 256
theorem numM_step {n:Int} {k:Nat} (h:k<2):numM n k / 256=numM n (k+1):=by
  match k,h with
  | 0,_=>rfl
  | 1,_=>rfl
def numR (n:Int) (k:Nat):List Int:=match k with | 0=>[0,0] | 1=>[0,n % 256] | _=>numB n
theorem numR_step {n:Int} {k i:Nat} (h:k<2) (hi:i=1-k):(numR n k).set i (numM n k % 256)=numR n (k+1):=by
  match k,h with
  | 0,_=>subst hi; rfl
  | 1,_=>subst hi; rfl
theorem num_and2 {n:Int} {k:Nat} (h:0≤n∧n≤65535):n / 2 ^ k≤9223372036854775807:=by
  have:=Int.ediv_le_self (a:=n) (2 ^ k) h.1
  omega
theorem reqOk_addr {c k:Int} {q:List Int} {nm:List UInt8} {p:Int} (h:reqOk c k q nm p=true):addrOk k q nm p=true:=by
  simp only[reqOk,Bool.and_eq_true]at h
  exact h.2
theorem decDigits_small {n:Int} (h0:0≤n) (h1:n<10):[UInt8.ofNat (48+n).toNat]=Lib.itoa n:=by
  have h2:n.toNat<10:=by omega
  unfold Lib.itoa
  rw[if_neg (by omega),Lib.decDigits,dif_pos h2]
  congr 2
  omega
theorem decDigits_big {n:Int} (h1: ¬ n<10):Lib.itoa (n / 10)++[UInt8.ofNat (48+n % 10).toNat]=Lib.itoa n:=by
  have h2: ¬ n.toNat<10:=by omega
  unfold Lib.itoa
  rw[if_neg (by omega),if_neg (by omega),Lib.decDigits.eq_def n.toNat,dif_neg h2]
  have e1:(n / 10).toNat=n.toNat / 10:=by omega
  have e2:(48+n % 10).toNat=48+n.toNat % 10:=by omega
  rw[e1,e2]
def quadT (q:List Int):List UInt8:=Lib.join (q.map Lib.itoa) [46]
theorem quad_get {q:List Int} {k:Nat} (h:quadOk q=true) (hk:k<q.length):0≤q.getD k 0∧q.getD k 0≤255:=by
  simp only[quadOk,Bool.and_eq_true]at h
  exact isBytes_get h.2 hk
theorem quad_set {q:List Int} {k:Nat} (hk:k<q.length):((q.map Lib.itoa).take k++List.replicate (q.length-k) ([]:List UInt8)).set k (Lib.itoa (q.getD k 0))=(q.map Lib.itoa).take (k+1)++List.replicate (q.length-(k+1)) []:=by
  have:=copy_setG (xs:=q.map Lib.itoa) (k:=k) (d:=([]:List UInt8)) (by simpa using hk)
  have e1:(q.map Lib.itoa).getD k []=Lib.itoa (q.getD k 0):=by
    simp only[List.getD_eq_getElem?_getD,List.getElem?_map,List.getElem?_eq_getElem hk,Option.map_some,Option.getD_some]
  rwa [e1,List.length_map]at this
theorem itoa_b {x:Int} (h:0≤x∧x≤255):(Lib.itoa x).length≤21:=Lib.itoa_length_le x (by omega) (by omega)
theorem quadT_eq {q:List Int} (h:q.length=4):quadT q=Lib.itoa (q.getD 0 0)++[46]++Lib.itoa (q.getD 1 0)++[46]++Lib.itoa (q.getD 2 0)++[46]++Lib.itoa (q.getD 3 0):=by
  match q,h with
  | [a,b,c,d],_=>simp[quadT,Lib.join,List.intercalate]
theorem quadT_len {q:List Int} (h:quadOk q=true):(quadT q).length≤87:=by
  have h4:=quadOk_len h
  have g0:=itoa_b (quad_get h (k:=0) (by omega))
  have g1:=itoa_b (quad_get h (k:=1) (by omega))
  have g2:=itoa_b (quad_get h (k:=2) (by omega))
  have g3:=itoa_b (quad_get h (k:=3) (by omega))
  rw[quadT_eq h4]
  simp only[List.length_append,List.length_cons,List.length_nil]
  omega
def hostT (k:Int) (q:List Int) (nm:List UInt8):List UInt8:=if k=1 then quadT q else nm
theorem addr_quad {k:Int} {q:List Int} {nm:List UInt8} {p:Int} (h:addrOk k q nm p=true) (h1:k=1):quadOk q=true:=by
  rw[addr_is1 h1]at h
  simp only[Bool.and_eq_true]at h
  exact h.2.1
theorem hostT_len {k:Int} {q:List Int} {nm:List UInt8} {p:Int} (h:addrOk k q nm p=true):(hostT k q nm).length≤87:=by
  unfold hostT
  split
  · rename_i h1
    exact quadT_len (addr_quad h h1)
  · rename_i h1
    have:=(addrOk_fit h).2.2.2 h1
    omega
def sufP (s t:List UInt8):Prop:=t.length≤s.length∧s.drop (s.length-t.length)=t
instance (s t:List UInt8):Decidable (sufP s t):=inferInstanceAs (Decidable (_∧_))
theorem quad_whole {q:List Int} {k:Nat} (hk:k=q.length):(q.map Lib.itoa).take k++List.replicate (q.length-k) ([]:List UInt8)=q.map Lib.itoa:=by
  subst hk
  rw[List.take_of_length_le (by simp),Nat.sub_self,List.replicate_zero,List.append_nil]
theorem dec_digit (u:Nat): ∀ c∈Lib.decDigits u,48≤c.toNat∧c.toNat≤57:=by
  induction u using Nat.strongRecOn with
  | _ u ih=>
    rw[Lib.decDigits]
    split
    · rename_i h
      intro c hc
      obtain rfl:c=UInt8.ofNat (48+u):=by simpa only[List.mem_singleton] using hc
      rw[UInt8.toNat_ofNat']
      omega
    · intro c hc
      rcases List.mem_append.1 hc with hc | hc
      · exact ih (u / 10) (by omega) c hc
      · obtain rfl:c=UInt8.ofNat (48+u % 10):=by simpa only[List.mem_singleton] using hc
        rw[UInt8.toNat_ofNat']
        omega
theorem dec_len3 {u:Nat} (h:u<1000):(Lib.decDigits u).length≤3:=by
  rw[Lib.decDigits]
  split
  · simp
  · rw[Lib.decDigits]
    split
    · simp
    · rw[Lib.decDigits]
      split
      · simp
      · omega
theorem itoa_digit {x:Int} (h:0≤x): ∀ c∈Lib.itoa x,48≤c.toNat∧c.toNat≤57:=by
  unfold Lib.itoa
  rw[if_neg (by omega)]
  exact dec_digit _
theorem itoa_len3 {x:Int} (h:0≤x∧x≤255):(Lib.itoa x).length≤3:=by
  unfold Lib.itoa
  rw[if_neg (by omega)]
  exact dec_len3 (by omega)
theorem splitB_cover (c:UInt8) (l:List UInt8): ∀ x∈l,x=c∨ ∃ p∈splitB c l,x∈p:=by
  induction l with
  | nil=>simp
  | cons a l ih=>
    intro x hx
    rw[splitB]
    rcases List.mem_cons.1 hx with rfl | hx
    · split
      · rename_i h; exact .inl h
      · right
        cases hs:splitB c l with
        | nil=>exact⟨[x],by simp,by simp⟩
        | cons p ps=>exact⟨x::p,by simp,by simp⟩
    · rcases ih x hx with h | ⟨p,hp,hxp⟩
      · exact .inl h
      · right
        split
        · exact⟨p,List.mem_cons_of_mem _ hp,hxp⟩
        · cases hs:splitB c l with
          | nil=>rw[hs]at hp; cases hp
          | cons r rs=>
            rw[hs]at hp
            rcases List.mem_cons.1 hp with rfl | hp
            · exact⟨a::p,by simp,List.mem_cons_of_mem _ hxp⟩
            · exact⟨p,List.mem_cons_of_mem _ hp,hxp⟩
theorem okC_dig {c:UInt8} (h:48≤c.toNat∧c.toNat≤57):okC [45,46] c=true:=by
  rw[okC_iff]
  left; right
  omega
theorem okC_45 {c:UInt8} (h:okC [45] c=true):okC [45,46] c=true:=by
  rw[okC_iff]at*
  rcases h with h | h
  · exact .inl h
  · right
    simp at h
    simp[h]
theorem okC_46:okC [45,46] 46=true:=by
  rw[okC_iff]
  right
  simp
theorem quadT_ok {q:List Int} (h:quadOk q=true):(quadT q).length≤15∧ ∀ c∈quadT q,okC [45,46] c=true:=by
  have h4:=quadOk_len h
  have g0:=quad_get h (k:=0) (by omega)
  have g1:=quad_get h (k:=1) (by omega)
  have g2:=quad_get h (k:=2) (by omega)
  have g3:=quad_get h (k:=3) (by omega)
  rw[quadT_eq h4]
  refine⟨?_,?_⟩
  · have l0:=itoa_len3 g0
    have l1:=itoa_len3 g1
    have l2:=itoa_len3 g2
    have l3:=itoa_len3 g3
    simp only[List.length_append,List.length_cons,List.length_nil]
    omega
  · intro c hc
    simp only[List.mem_append,List.mem_singleton]at hc
    rcases hc with (((((hc | rfl) | hc) | rfl) | hc) | rfl) | hc
    · exact okC_dig (itoa_digit g0.1 c hc)
    · exact okC_46
    · exact okC_dig (itoa_digit g1.1 c hc)
    · exact okC_46
    · exact okC_dig (itoa_digit g2.1 c hc)
    · exact okC_46
    · exact okC_dig (itoa_digit g3.1 c hc)
theorem name_ok {l:List UInt8} (h:nameOk l=true):l.length≤20∧ ∀ c∈l,okC [45,46] c=true:=by
  refine⟨nameOk_len h,fun c hc=>?_⟩
  simp only[nameOk,Bool.and_eq_true]at h
  rcases splitB_cover 46 l c hc with rfl | ⟨p,hp,hcp⟩
  · exact okC_46
  · have:=List.all_eq_true.1 h.1.1 p hp
    simp only[partOk,Bool.and_eq_true]at this
    exact okC_45 (List.all_eq_true.1 this.2 c hcp)
theorem host_ok {k:Int} {q:List Int} {nm:List UInt8} {p:Int} (h:addrOk k q nm p=true):(hostT k q nm).length≤20∧ ∀ c∈hostT k q nm,okC [45,46] c=true:=by
  unfold hostT
  split
  · rename_i h1
    have:=quadT_ok (addr_quad h h1)
    exact⟨by omega,this.2⟩
  · rename_i h1
    by_cases h3:k=3
    · rw[addr_is3 h3]at h
      simp only[Bool.and_eq_true]at h
      exact name_ok h.2.1
    · rw[addr_no q nm p h1 h3]at h
      cases h
theorem okC_58 {c:UInt8} (h:okC [45,46] c=true):c≠58:=by
  intro he
  subst he
  revert h
  rw[okC_iff]
  simp
def addrT (k:Int) (q:List Int) (nm:List UInt8) (p:Int):List UInt8:=if addrOk k q nm p then hostT k q nm++[58]++Lib.itoa p else[]
theorem addrT_len (k:Int) (q:List Int) (nm:List UInt8) (p:Int):(addrT k q nm p).length≤42:=by
  unfold addrT
  split
  · rename_i h
    have h1:=(host_ok h).1
    have h2:=addrOk_fit h
    have h3:=Lib.itoa_length_le p (by omega) (by omega)
    simp only[List.length_append,List.length_cons,List.length_nil]
    omega
  · simp
theorem addr_fit2 {k:Int} {q:List Int} {nm:List UInt8} {p:Int} (h:addrOk k q nm p=true):(k=1∨k=3)∧q.length≤4∧nm.length≤20∧(k=1→nm=[])∧(k=3→q=[]):=by
  by_cases h1:k=1
  · subst h1
    rw[addr1]at h
    simp only[Bool.and_eq_true,decide_eq_true_eq]at h
    have:=quadOk_len h.2.1
    exact⟨.inl rfl,by omega,by rw[h.2.2]; simp,fun _=>h.2.2,fun h3=>by omega⟩
  · by_cases h3:k=3
    · subst h3
      rw[addr3]at h
      simp only[Bool.and_eq_true,decide_eq_true_eq]at h
      have:=nameOk_len h.2.1
      exact⟨.inr rfl,by rw[h.2.2]; simp,this,fun h1=>by omega,fun _=>h.2.2⟩
    · rw[addr_no q nm p h1 h3]at h
      cases h
def replyP (c k:Int) (q:List Int) (nm:List UInt8) (p:Int):List Int×Bool:=if (0≤c∧c≤8)∧addrOk k q nm p=true then([5,c,0]++addrB k q nm p,true) else([],false)
theorem replyP_len (c k:Int) (q:List Int) (nm:List UInt8) (p:Int):(replyP c k q nm p).1.length≤27:=by
  unfold replyP
  split
  · rename_i h
    have:=addrB_len h.2
    simp
    omega
  · simp
def markT (k:Int):List UInt8:=if k≤0 then[109,48] else[109]++Lib.itoa k
def markR (k0:Int) (n:Nat):List (List UInt8×Int×Bool):=(List.range n).map fun i=>(markT (k0+3*((i:Nat):Int)),k0+3*((i:Nat):Int)+1,decide ((k0+3*((i:Nat):Int)+1+1) % 3=0))
@[simp] theorem markR_len (k0:Int) (n:Nat):(markR k0 n).length=n:=by simp[markR]
def digB (c:UInt8):Bool:=decide (48≤((c.toNat:Nat):Int)∧((c.toNat:Nat):Int)≤57)
def numF (s:List UInt8):Int:=s.foldl (fun n c=>10*n+(((c.toNat:Nat):Int)-48)) 0
def numD (s:List UInt8):Int:=if (1≤s.length∧s.length≤5)∧s.all digB=true then numF s else -1
theorem numF_snoc (s:List UInt8) (c:UInt8):numF (s++[c])=10*numF s+(((c.toNat:Nat):Int)-48):=by simp[numF]
theorem numF_take {s:List UInt8} {k:Nat} (h:k<s.length):numF (s.take (k+1))=10*numF (s.take k)+((((s.getD k 0).toNat:Nat):Int)-48):=by
  rw[List.take_succ_eq_append_getElem h,numF_snoc,List.getD_eq_getElem?_getD,List.getElem?_eq_getElem h]
  rfl
theorem dec_lt10 {u:Nat} (h:u<10):Lib.decDigits u=[UInt8.ofNat (48+u)]:=by rw[Lib.decDigits,dif_pos h]
theorem dec_ge10 {u:Nat} (h: ¬ u<10):Lib.decDigits u=Lib.decDigits (u / 10)++[UInt8.ofNat (48+u % 10)]:=by rw[Lib.decDigits.eq_def u,dif_neg h]
theorem dig_val {d:Nat} (h:d<10):(UInt8.ofNat (48+d)).toNat=48+d:=by
  rw[UInt8.toNat_ofNat']
  omega
theorem numF_dec (u:Nat):numF (Lib.decDigits u)=(u:Int):=by
  induction u using Nat.strongRecOn with
  | _ u ih=>
    by_cases h:u<10
    · rw[dec_lt10 h]
      have:=dig_val h
      simp only[numF,List.foldl_cons,List.foldl_nil,this]
      omega
    · rw[dec_ge10 h,numF_snoc,ih (u / 10) (by omega),dig_val (Nat.mod_lt _ (by decide))]
      omega
theorem dec_ne (u:Nat):Lib.decDigits u≠[]:=by
  by_cases h:u<10
  · rw[dec_lt10 h]; simp
  · rw[dec_ge10 h]; simp
theorem dec_len5 {u:Nat} (h:u<100000):(Lib.decDigits u).length≤5:=by
  rw[Lib.decDigits]
  split
  · simp
  · rw[Lib.decDigits]
    split
    · simp
    · rw[Lib.decDigits]
      split
      · simp
      · rw[Lib.decDigits]
        split
        · simp
        · rw[Lib.decDigits]
          split
          · simp
          · omega
theorem decFrom_app: ∀ (l m:List UInt8) (a:Nat),Lib.decFrom a (l++m)=(Lib.decFrom a l).bind (fun b=>Lib.decFrom b m)
  | [],m,a=>rfl
  | c::l,m,a=>by
    rw[List.cons_append,Lib.decFrom,Lib.decFrom]
    cases Lib.digitVal c with
    | none=>rfl
    | some d=>exact decFrom_app l m _
theorem digVal {d:Nat} (h:d<10):Lib.digitVal (UInt8.ofNat (48+d))=some d:=by
  unfold Lib.digitVal
  rw[dig_val h,if_pos (by omega)]
  congr 1
  omega
theorem decFrom_dec (u:Nat):Lib.decFrom 0 (Lib.decDigits u)=some u:=by
  induction u using Nat.strongRecOn with
  | _ u ih=>
    by_cases h:u<10
    · rw[dec_lt10 h,Lib.decFrom,digVal h]
      simp[Lib.decFrom]
    · rw[dec_ge10 h,decFrom_app,ih (u / 10) (by omega)]
      simp only[Option.bind_some,Lib.decFrom,digVal (Nat.mod_lt u (show 0<10 by decide))]
      congr 1
      omega
theorem itoa_nn {x:Int} (h:0≤x):Lib.itoa x=Lib.decDigits x.toNat:=by
  unfold Lib.itoa
  rw[if_neg (by omega)]
theorem atoi_itoa {x:Int} (h:0≤x∧x≤65535):Lib.atoiAll (Lib.itoa x)=.ok x:=by
  rw[itoa_nn h.1,Lib.atoiAll_short _ (Nat.le_trans (dec_len5 (by omega)) (by decide))]
  have hd:=dec_digit x.toNat
  have hf:=decFrom_dec x.toNat
  cases hl:Lib.decDigits x.toNat with
  | nil=>exact absurd hl (dec_ne _)
  | cons c r=>
    rw[hl]at hd hf
    have hc:=hd c (List.mem_cons_self ..)
    have h1: ¬ c=45:=fun he=>by subst he; revert hc; decide
    have h2: ¬ c=43:=fun he=>by subst he; revert hc; decide
    simp only[Lib.atoi,beq_iff_eq,if_neg h1,if_neg h2,Lib.decNat,List.isEmpty_cons,hf,Bool.false_eq_true,if_false,Option.map_some,Lib.NumEnd.ofOption]
    congr 1
    omega
theorem numD_itoa {x:Int} (h:0≤x∧x≤65535):numD (Lib.itoa x)=x:=by
  rw[itoa_nn h.1]
  have h1:=dec_len5 (show x.toNat<100000 by omega)
  have h2:1≤(Lib.decDigits x.toNat).length:=List.length_pos_iff.2 (dec_ne _)
  unfold numD
  rw[if_pos ⟨⟨h2,h1⟩,List.all_eq_true.2 fun c hc=>by have:=dec_digit _ c hc; simp only[digB,decide_eq_true_eq]; omega⟩,numF_dec]
  omega
def decI (s:List UInt8):Int×Bool:=match Lib.atoiAll s with
  | .ok v=>(v,decide (Lib.itoa v=s))
  | Lib.NumEnd.syntax=>(0,false)
  | .range=>(Lib.atoiSat s,false)
theorem decI_itoa {x:Int} (h:0≤x∧x≤65535):decI (Lib.itoa x)=(x,true):=by simp[decI,atoi_itoa h]
theorem decI_ok {s:List UInt8} (h:(decI s).2=true):Lib.itoa (decI s).1=s:=by
  unfold decI at*
  split <;> rename_i h1 <;> rw[h1]at h
  · simpa using h
  · cases h
  · cases h
def quadD (s:List UInt8):List Int:=(splitB 46 s).map numD
def quadFrom (s:List UInt8):List Int×Bool:=if quadOk (quadD s)=true∧quadT (quadD s)=s then(quadD s,true) else([],false)
theorem no46 {x:Int} (h:0≤x): ∀ c∈Lib.itoa x,c≠46:=by
  intro c hc he
  have:=itoa_digit h c hc
  subst he
  revert this
  decide
theorem split_quad {q:List Int} (h:quadOk q=true):splitB 46 (quadT q)=q.map Lib.itoa:=by
  have h4:=quadOk_len h
  have g0:=quad_get h (k:=0) (by omega)
  have g1:=quad_get h (k:=1) (by omega)
  have g2:=quad_get h (k:=2) (by omega)
  have g3:=quad_get h (k:=3) (by omega)
  rw[quadT_eq h4]
  match q,h4 with
  | [a,b,c,d],_=>
    simp only[List.getD_cons_zero,List.getD_cons_succ]at*
    have e:Lib.itoa a++[46]++Lib.itoa b++[46]++Lib.itoa c++[46]++Lib.itoa d=Lib.itoa a++46::(Lib.itoa b++46::(Lib.itoa c++46::Lib.itoa d)):=by simp
    rw[e,splitB_at (no46 g0.1),splitB_at (no46 g1.1),splitB_at (no46 g2.1),splitB_no (no46 g3.1)]
    rfl
theorem quadD_quad {q:List Int} (h:quadOk q=true):quadD (quadT q)=q:=by
  unfold quadD
  rw[split_quad h,List.map_map]
  conv=>rhs; rw[← List.map_id q]
  refine List.map_congr_left fun x hx=>?_
  obtain ⟨k,hk,rfl⟩:=List.getElem_of_mem hx
  have:=quad_get h hk
  rw[List.getD_eq_getElem?_getD,List.getElem?_eq_getElem hk]at this
  exact numD_itoa (by simp at this; omega)
theorem quadFrom_quad {q:List Int} (h:quadOk q=true):quadFrom (quadT q)=(q,true):=by
  unfold quadFrom
  rw[quadD_quad h,if_pos ⟨h,rfl⟩]
theorem quadFrom_ok {s:List UInt8} (h:(quadFrom s).2=true):quadOk (quadFrom s).1=true∧quadT (quadFrom s).1=s:=by
  unfold quadFrom at*
  split at h
  · rename_i hh
    rw[if_pos hh]
    exact hh
  · cases h
theorem quadFrom_no {s:List UInt8} (h:(quadFrom s).2=false):quadFrom s=([],false):=by
  unfold quadFrom at*
  split at h
  · cases h
  · rename_i hh
    rw[if_neg hh]
theorem quadFrom_eq {s:List UInt8} {q:List Int} (h:quadOk q=true) (hs:quadT q=s):quadFrom s=(q,true):=by
  subst hs
  exact quadFrom_quad h
theorem join_cons2 (x y:List UInt8) (r:List (List UInt8)) (c:UInt8):Lib.join (x::y::r) [c]=x++c::Lib.join (y::r) [c]:=by
  rw[Lib.join_cons,Lib.join_cons]
  simp[Lib.joinTail]
theorem join_split (c:UInt8) (s:List UInt8):Lib.join (splitB c s) [c]=s:=by
  induction s with
  | nil=>rfl
  | cons a l ih=>
    rw[splitB]
    have hp:=splitB_pos c l
    cases hs:splitB c l with
    | nil=>rw[hs]at hp; simp at hp
    | cons p ps=>
      rw[hs]at ih
      split
      · rename_i h
        rw[join_cons2,ih,h]
        rfl
      · simp only
        rw[Lib.join_cons]at*
        rw[List.cons_append,ih]
theorem quad_parts {s:List UInt8} {q:List Int} (h:splitB 46 s=q.map Lib.itoa) (hq:quadOk q=true):quadFrom s=(q,true):=by
  refine quadFrom_eq hq ?_
  unfold quadT
  rw[← h]
  exact join_split 46 s
def addrOf (host:List UInt8) (port:Int):Int×List Int×List UInt8×Int:=if (quadFrom host).2 then(1,(quadFrom host).1,[],port) else(3,[],host,port)
def addrFrom (s:List UInt8):(Int×List Int×List UInt8×Int)×Bool:=
  let w:=splitB 58 s
  let a:=addrOf (w.getD 0 []) (numD (w.getD 1 []))
  if w.length=2∧addrOk a.1 a.2.1 a.2.2.1 a.2.2.2=true∧addrT a.1 a.2.1 a.2.2.1 a.2.2.2=s then(a,true) else((0,[],[],0),false)
theorem no58 {k:Int} {q:List Int} {nm:List UInt8} {p:Int} (h:addrOk k q nm p=true): ∀ c∈hostT k q nm,c≠58:=fun c hc=>okC_58 ((host_ok h).2 c hc)
theorem no58i {x:Int} (h:0≤x): ∀ c∈Lib.itoa x,c≠58:=by
  intro c hc he
  have:=itoa_digit h c hc
  subst he
  revert this
  decide
theorem split_addr {k:Int} {q:List Int} {nm:List UInt8} {p:Int} (h:addrOk k q nm p=true):splitB 58 (addrT k q nm p)=[hostT k q nm,Lib.itoa p]:=by
  have hf:=addrOk_fit h
  have e:addrT k q nm p=hostT k q nm++58::Lib.itoa p:=by simp[addrT,h]
  rw[e,splitB_at (no58 h),splitB_no (no58i hf.1)]
theorem name_noquad {nm:List UInt8} (h:nameOk nm=true):(quadFrom nm).2=false:=by
  rcases Bool.eq_false_or_eq_true (quadFrom nm).2 with hq | hq
  · exfalso
    obtain ⟨h1,h2⟩:=quadFrom_ok hq
    have h3:=split_quad h1
    rw[h2]at h3
    have h4:=quadOk_len h1
    have g3:=quad_get h1 (k:=3) (by omega)
    simp only[nameOk,Bool.and_eq_true,decide_eq_true_eq]at h
    have h5:=h.2
    unfold lastC at h5
    rw[h3,List.length_map,h4]at h5
    have e:((quadFrom nm).1.map Lib.itoa).getD 3 []=Lib.itoa ((quadFrom nm).1.getD 3 0):=by
      simp only[List.getD_eq_getElem?_getD,List.getElem?_map,List.getElem?_eq_getElem (show 3<(quadFrom nm).1.length by omega),Option.map_some,Option.getD_some]
    rw[show 4-1=3 from rfl,e]at h5
    have hd:=itoa_digit g3.1
    cases hl:Lib.itoa ((quadFrom nm).1.getD 3 0) with
    | nil=>
      rw[itoa_nn g3.1]at hl
      exact dec_ne _ hl
    | cons c r=>
      rw[hl]at hd h5
      have:=hd c (List.mem_cons_self ..)
      simp at h5
      omega
  · exact hq
theorem addrOf_addr {k:Int} {q:List Int} {nm:List UInt8} {p:Int} (h:addrOk k q nm p=true):addrOf (hostT k q nm) p=(k,q,nm,p):=by
  have hf:=addr_fit2 h
  unfold addrOf
  rcases hf.1 with h1 | h3
  · have hq:=addr_quad h h1
    have e:hostT k q nm=quadT q:=by simp[hostT,h1]
    rw[e,quadFrom_quad hq,hf.2.2.2.1 h1,h1]
    rfl
  · have hn:nameOk nm=true:=by
      rw[addr_is3 h3]at h
      simp only[Bool.and_eq_true]at h
      exact h.2.1
    have e:hostT k q nm=nm:=by simp[hostT,h3]
    rw[e,name_noquad hn,hf.2.2.2.2 h3,h3]
    rfl
theorem addrFrom_addr {k:Int} {q:List Int} {nm:List UInt8} {p:Int} (h:addrOk k q nm p=true):addrFrom (addrT k q nm p)=((k,q,nm,p),true):=by
  have hf:=addrOk_fit h
  unfold addrFrom
  simp only[split_addr h,List.getD_cons_zero,List.getD_cons_succ,List.length_cons,List.length_nil]
  rw[numD_itoa ⟨hf.1,hf.2.1⟩,addrOf_addr h,if_pos ⟨by trivial,h,rfl⟩]
theorem addrFrom_eq {s:List UInt8} {k:Int} {q:List Int} {nm:List UInt8} {p:Int} (h:addrOk k q nm p=true) (hs:addrT k q nm p=s):addrFrom s=((k,q,nm,p),true):=by
  subst hs
  exact addrFrom_addr h
theorem addrFrom_ok {s:List UInt8} (h:(addrFrom s).2=true):addrOk (addrFrom s).1.1 (addrFrom s).1.2.1 (addrFrom s).1.2.2.1 (addrFrom s).1.2.2.2=true∧addrT (addrFrom s).1.1 (addrFrom s).1.2.1 (addrFrom s).1.2.2.1 (addrFrom s).1.2.2.2=s:=by
  unfold addrFrom at*
  simp only at*
  split at h
  · rename_i hh
    rw[if_pos hh]
    exact hh.2
  · cases h
theorem addrFrom_no {s:List UInt8} (h:(addrFrom s).2=false):addrFrom s=((0,[],[],0),false):=by
  unfold addrFrom at*
  simp only at*
  split at h
  · cases h
  · rename_i hh
    rw[if_neg hh]
theorem addr_way {s host port:List UInt8} {n:Int} (hs:s=host++58::port) (hp:Lib.itoa n=port) (h:addrOk (addrOf host n).1 (addrOf host n).2.1 (addrOf host n).2.2.1 (addrOf host n).2.2.2=true):addrFrom s=(addrOf host n,true):=by
  have hh:hostT (addrOf host n).1 (addrOf host n).2.1 (addrOf host n).2.2.1=host:=by
    unfold addrOf
    split
    · rename_i hq
      simp[hostT,(quadFrom_ok hq).2]
    · simp[hostT]
  have hn:(addrOf host n).2.2.2=n:=by unfold addrOf; split <;> rfl
  have e:addrT (addrOf host n).1 (addrOf host n).2.1 (addrOf host n).2.2.1 (addrOf host n).2.2.2=hostT (addrOf host n).1 (addrOf host n).2.1 (addrOf host n).2.2.1++[58]++Lib.itoa (addrOf host n).2.2.2:=by simp[addrT,h]
  refine addrFrom_eq h (e.trans ?_)
  rw[hh,hn,hp,hs]
  simp
def tkF (bs:List Int) (s:Nat×Bool) (n:Nat):Bool:=s.2 || decide (bs.length<s.1+n)
def tkL (bs:List Int) (s:Nat×Bool) (n:Nat):List Int:=if tkF bs s n then List.replicate n 0 else(bs.drop s.1).take n
def tkS (bs:List Int) (s:Nat×Bool) (n:Nat):Nat×Bool:=if tkF bs s n then(s.1,true) else(s.1+n,false)
theorem tkF_yes {bs:List Int} {s:Nat×Bool} {n:Nat} (h:s.2=false) (h2:s.1+n≤bs.length):tkF bs s n=false:=by
  unfold tkF
  rw[h,decide_eq_false (by omega)]
  rfl
theorem tkF_no {bs:List Int} {s:Nat×Bool} {n:Nat} (h:s.2=true∨bs.length<s.1+n):tkF bs s n=true:=by
  unfold tkF
  rcases h with h | h <;> simp[h]
theorem tkL_yes {bs:List Int} {s:Nat×Bool} {n:Nat} (h:s.2=false) (h2:s.1+n≤bs.length):tkL bs s n=(bs.drop s.1).take n:=by simp[tkL,tkF_yes h h2]
theorem tkS_yes {bs:List Int} {s:Nat×Bool} {n:Nat} (h:s.2=false) (h2:s.1+n≤bs.length):tkS bs s n=(s.1+n,false):=by simp[tkS,tkF_yes h h2]
theorem tkL_no {bs:List Int} {s:Nat×Bool} {n:Nat} (h:s.2=true∨bs.length<s.1+n):tkL bs s n=List.replicate n 0:=by simp[tkL,tkF_no h]
theorem tkS_no {bs:List Int} {s:Nat×Bool} {n:Nat} (h:s.2=true∨bs.length<s.1+n):tkS bs s n=(s.1,true):=by simp[tkS,tkF_no h]
theorem tkS_ok {bs:List Int} {s:Nat×Bool} {n:Nat} (h:(tkS bs s n).2=false):s.2=false∧s.1+n≤bs.length∧tkS bs s n=(s.1+n,false)∧tkL bs s n=(bs.drop s.1).take n:=by
  rcases Bool.eq_false_or_eq_true s.2 with h1 | h1
  · rw[tkS_no (.inl h1)]at h
    cases h
  · rcases Nat.lt_or_ge bs.length (s.1+n) with h2 | h2
    · rw[tkS_no (.inr h2)]at h
      cases h
    · exact⟨h1,h2,tkS_yes h1 h2,tkL_yes h1 h2⟩
@[simp] theorem tkL_len (bs:List Int) (s:Nat×Bool) (n:Nat):(tkL bs s n).length=n:=by
  rcases Bool.eq_false_or_eq_true s.2 with h1 | h1
  · rw[tkL_no (.inl h1)]; simp
  · rcases Nat.lt_or_ge bs.length (s.1+n) with h2 | h2
    · rw[tkL_no (.inr h2)]; simp
    · rw[tkL_yes h1 h2]; simp; omega
theorem tkL_byte {bs:List Int} {s:Nat×Bool} {n:Nat} (hv:s.2=false→isBytes bs=true): ∀ x∈tkL bs s n,0≤x∧x≤255:=by
  rcases Bool.eq_false_or_eq_true s.2 with h1 | h1
  · rw[tkL_no (.inl h1)]
    intro x hx
    have:=List.eq_of_mem_replicate hx
    omega
  · rcases Nat.lt_or_ge bs.length (s.1+n) with h2 | h2
    · rw[tkL_no (.inr h2)]
      intro x hx
      have:=List.eq_of_mem_replicate hx
      omega
    · rw[tkL_yes h1 h2]
      intro x hx
      exact(isBytes_iff.1 (hv h1)).1 x (List.mem_of_mem_drop (List.mem_of_mem_take hx))
theorem getD_byte {l:List Int} (h: ∀ x∈l,0≤x∧x≤255) (k:Nat):0≤l.getD k 0∧l.getD k 0≤255:=by
  rw[List.getD_eq_getElem?_getD]
  by_cases hk:k<l.length
  · rw[List.getElem?_eq_getElem hk]
    exact h _ (List.getElem_mem hk)
  · rw[List.getElem?_eq_none (by omega)]
    simp
def byV (bs:List Int) (s:Nat×Bool):Int:=(tkL bs s 1).getD 0 0
theorem byV_bd {bs:List Int} {s:Nat×Bool} (hv:s.2=false→isBytes bs=true):0≤byV bs s∧byV bs s≤255:=getD_byte (tkL_byte hv) 0
theorem byV_yes {bs:List Int} {s:Nat×Bool} (h:s.2=false) (h2:s.1+1≤bs.length):byV bs s=bs.getD s.1 0:=by
  unfold byV
  rw[tkL_yes h h2]
  simp only[List.getD_eq_getElem?_getD,List.getElem?_take,List.getElem?_drop]
  simp
def ofB (l:List Int):Int:=l.foldl (fun n x=>256*n+x) 0
theorem ofB_take {l:List Int} {k:Nat} (h:k<l.length):ofB (l.take (k+1))=256*ofB (l.take k)+l.getD k 0:=by
  rw[List.take_succ_eq_append_getElem h,List.getD_eq_getElem?_getD,List.getElem?_eq_getElem h]
  unfold ofB
  rw[List.foldl_append]
  rfl
theorem ofB_bd {l:List Int} (h: ∀ x∈l,0≤x∧x≤255) (k:Nat):l.length≤2→0≤ofB (l.take k)∧ofB (l.take k)≤65535∧(k≤1→ofB (l.take k)≤255):=by
  intro hl
  match l,hl with
  | [],_=>simp[ofB]
  | [a],_=>
    have ha:=h a (by simp)
    match k with
    | 0=>simp[ofB]
    | k+1=>simp[ofB]; omega
  | [a,b],_=>
    have ha:=h a (by simp)
    have hb:=h b (by simp)
    match k with
    | 0=>simp[ofB]
    | 1=>simp[ofB]; omega
    | k+2=>simp[ofB]; omega
def exS (bs:List Int) (s:Nat×Bool) (l:List Int):Nat×Bool:=if tkL bs s l.length=l then tkS bs s l.length else((tkS bs s l.length).1,true)
theorem exS_ok {bs:List Int} {s:Nat×Bool} {l:List Int} (h:(exS bs s l).2=false):s.2=false∧s.1+l.length≤bs.length∧(bs.drop s.1).take l.length=l∧exS bs s l=(s.1+l.length,false):=by
  unfold exS at*
  split at h
  · rename_i hl
    obtain ⟨h1,h2,h3,h4⟩:=tkS_ok h
    rw[h4]at hl
    exact⟨h1,h2,hl,by rw[if_pos (by rw[h4]; exact hl),h3]⟩
  · cases h
theorem exS_yes {bs:List Int} {s:Nat×Bool} {l:List Int} (h:s.2=false) (h2:s.1+l.length≤bs.length) (h3:(bs.drop s.1).take l.length=l):exS bs s l=(s.1+l.length,false):=by
  unfold exS
  rw[tkL_yes h h2,if_pos h3,tkS_yes h h2]
def bT (l:List Int):List UInt8:=l.map fun x=>UInt8.ofNat x.toNat
@[simp] theorem bT_len (l:List Int):(bT l).length=l.length:=by simp[bT]
theorem bT_get {l:List Int} {k:Nat} (h:k<l.length):(bT l).getD k 0=UInt8.ofNat (l.getD k 0).toNat:=by
  simp only[bT,List.getD_eq_getElem?_getD,List.getElem?_map,List.getElem?_eq_getElem h,Option.map_some,Option.getD_some]
theorem bT_set {l:List Int} {k:Nat} (h:k<l.length):((bT l).take k++List.replicate (l.length-k) (0:UInt8)).set k (UInt8.ofNat (l.getD k 0).toNat)=(bT l).take (k+1)++List.replicate (l.length-(k+1)) 0:=by
  have:=copy_setG (xs:=bT l) (k:=k) (d:=(0:UInt8)) (by rw[bT_len]; exact h)
  rwa [bT_get h,bT_len]at this
theorem bT_app {l:List Int} {k:Nat} (h:k<l.length):(bT l).take k++[UInt8.ofNat (l.getD k 0).toNat]=(bT l).take (k+1):=by
  rw[← bT_get h,List.take_succ_eq_append_getElem (by rw[bT_len]; exact h),List.getD_eq_getElem?_getD,List.getElem?_eq_getElem (by rw[bT_len]; exact h)]
  rfl
theorem bT_all {l:List Int} {k:Nat} (h:l.length≤k):(bT l).take k=bT l:=List.take_of_length_le (by rw[bT_len]; exact h)
def txV (bs:List Int) (s:Nat×Bool):List UInt8:=bT (tkL bs (tkS bs s 1) (byV bs s).toNat)
def txS (bs:List Int) (s:Nat×Bool):Nat×Bool:=tkS bs (tkS bs s 1) (byV bs s).toNat
def adR (bs:List Int) (s:Nat×Bool):(Int×List Int×List UInt8×Int)×Nat×Bool:=
  let s1:=tkS bs s 1
  let s2:=if byV bs s=1 then tkS bs s1 4 else if byV bs s=3 then txS bs s1 else s1
  let q:=if byV bs s=1 then tkL bs s1 4 else[]
  let nm:=if byV bs s=3 then txV bs s1 else[]
  let p:=ofB (tkL bs s2 2)
  ((byV bs s,q,nm,p),if addrOk (byV bs s) q nm p=true then tkS bs s2 2 else((tkS bs s2 2).1,true))
theorem drop_take1 {b:List Int} {k:Nat} (h:k<b.length) (x:Int):(b.drop k).take 1=[x]↔b.getD k 0=x:=by
  rw[List.drop_eq_getElem_cons h,List.take_succ_cons,List.take_zero,List.getD_eq_getElem?_getD,List.getElem?_eq_getElem h]
  exact⟨fun hx=>(List.cons.inj hx).1,fun hx=>by rw[← hx]; rfl⟩
theorem ex1 {b:List Int} {s:Nat×Bool} {x:Int} (h:(exS b s [x]).2=false):s.2=false∧s.1+1≤b.length∧b.getD s.1 0=x∧exS b s [x]=(s.1+1,false):=by
  obtain ⟨h1,h2,h3,h4⟩:=exS_ok h
  exact⟨h1,h2,(drop_take1 (by simp only[List.length_cons,List.length_nil]at h2; omega) x).1 h3,h4⟩
theorem ex1_yes {b:List Int} {s:Nat×Bool} {x:Int} (h:s.2=false) (h2:s.1+1≤b.length) (h3:b.getD s.1 0=x):exS b s [x]=(s.1+1,false):=exS_yes h h2 ((drop_take1 (by omega) x).2 h3)
theorem not_iff {b:Bool}:(!b)=false↔b=true:=by cases b <;> simp
def helloFrom (b:List Int):List Int×Int×Bool:=
  if isBytes b=true∧3≤b.length∧b.getD 0 0=5∧b.getD 1 0≤(b.length:Int)-2∧methOk ((b.drop 2).take (b.getD 1 0).toNat)=true then
    ((b.drop 2).take (b.getD 1 0).toNat,2+b.getD 1 0,true) else([],0,false)
def helloR (b:List Int):List Int×Int×Bool:=
  let s1:=exS b (0,!isBytes b) [5]
  let s2:=tkS b s1 1
  let ms:=tkL b s2 (byV b s1).toNat
  let s3:=tkS b s2 (byV b s1).toNat
  if s3.2=false∧methOk ms=true then(ms,(s3.1:Int),true) else([],0,false)
theorem helloR_eq (b:List Int):helloR b=helloFrom b:=by
  unfold helloR helloFrom
  simp only
  by_cases hc:isBytes b=true∧3≤b.length∧b.getD 0 0=5∧b.getD 1 0≤(b.length:Int)-2∧methOk ((b.drop 2).take (b.getD 1 0).toNat)=true
  · obtain ⟨h1,h2,h3,h4,h5⟩:=hc
    have hb:=isBytes_get h1 (k:=1) (by omega)
    have e1:exS b (0,!isBytes b) [5]=(1,false):=ex1_yes (by simp[h1]) (by simp; omega) h3
    have e2:byV b (1,false)=b.getD 1 0:=byV_yes rfl (by simp; omega)
    have e3:tkS b (1,false) 1=(2,false):=tkS_yes rfl (by simp; omega)
    have e4:tkL b (2,false) (b.getD 1 0).toNat=(b.drop 2).take (b.getD 1 0).toNat:=tkL_yes rfl (by show 2+(b.getD 1 0).toNat≤b.length; omega)
    have e5:tkS b (2,false) (b.getD 1 0).toNat=(2+(b.getD 1 0).toNat,false):=tkS_yes rfl (by show 2+(b.getD 1 0).toNat≤b.length; omega)
    rw[e1,e2,e3,e4,e5,if_pos ⟨rfl,h5⟩,if_pos ⟨h1,h2,h3,h4,h5⟩]
    simp only[Prod.mk.injEq,true_and,and_true]
    omega
  · rw[if_neg hc,if_neg]
    rintro ⟨h1,h2⟩
    obtain ⟨g1,g2,g3,g4⟩:=tkS_ok h1
    obtain ⟨k1,k2,k3,k4⟩:=tkS_ok g1
    obtain ⟨m1,m2,m3,m4⟩:=ex1 k1
    have hb:isBytes b=true:=not_iff.1 m1
    rw[m4]at k2 k3
    rw[m4,byV_yes rfl k2,k3]at g2 g4
    rw[m4,byV_yes rfl k2,k3,g4]at h2
    simp only[Nat.zero_add]at g2 k2 h2 m3 ⊢
    have hb1:=isBytes_get hb (k:=1) (by omega)
    have hm:=(methOk_len h2).1
    rw[List.length_take]at hm
    exact hc ⟨hb,by omega,m3,by omega,h2⟩
theorem helloFrom_ok {b:List Int} (h:(helloFrom b).2.2=true):isBytes b=true∧3≤b.length∧b.getD 0 0=5∧b.getD 1 0≤(b.length:Int)-2∧methOk (helloFrom b).1=true∧helloFrom b=((b.drop 2).take (b.getD 1 0).toNat,2+b.getD 1 0,true)∧(helloFrom b).2.1≤b.length:=by
  unfold helloFrom at*
  split at h
  · rename_i hc
    rw[if_pos hc]
    exact⟨hc.1,hc.2.1,hc.2.2.1,hc.2.2.2.1,hc.2.2.2.2,rfl,by simp only; omega⟩
  · cases h
def loginFrom (b:List Int):(List UInt8×List UInt8)×Int×Bool:=
  let at_:=2+(b.getD 1 0).toNat
  let en:=at_+1+(b.getD at_ 0).toNat
  let u:=bT ((b.take at_).drop 2)
  let w:=bT ((b.take en).drop (at_+1))
  if isBytes b=true∧5≤b.length∧b.getD 0 0=1∧b.getD 1 0≤(b.length:Int)-3∧b.getD at_ 0≤(b.length:Int)-at_-1∧loginOk u w=true then((u,w),(en:Int),true) else(([],[]),0,false)
def loginR (b:List Int):(List UInt8×List UInt8)×Int×Bool:=
  let s1:=exS b (0,!isBytes b) [1]
  let u:=txV b s1
  let s2:=txS b s1
  let w:=txV b s2
  let s3:=txS b s2
  if s3.2=false∧loginOk u w=true then((u,w),(s3.1:Int),true) else(([],[]),0,false)
theorem tx_ok {b:List Int} {s:Nat×Bool} (h:(txS b s).2=false):s.2=false∧s.1+1+(b.getD s.1 0).toNat≤b.length∧txS b s=(s.1+1+(b.getD s.1 0).toNat,false)∧txV b s=bT ((b.drop (s.1+1)).take (b.getD s.1 0).toNat):=by
  unfold txS txV at*
  obtain ⟨g1,g2,g3,g4⟩:=tkS_ok h
  obtain ⟨k1,k2,k3,k4⟩:=tkS_ok g1
  rw[k3,byV_yes k1 k2]at g2 g3 g4
  rw[k3,byV_yes k1 k2]
  exact⟨k1,g2,g3,by rw[g4]⟩
theorem tx_yes {b:List Int} {s:Nat×Bool} (h:s.2=false) (h2:s.1+1+(b.getD s.1 0).toNat≤b.length):txS b s=(s.1+1+(b.getD s.1 0).toNat,false)∧txV b s=bT ((b.drop (s.1+1)).take (b.getD s.1 0).toNat):=by
  unfold txS txV
  have k2:s.1+1≤b.length:=by omega
  rw[tkS_yes h k2,byV_yes h k2,tkS_yes rfl h2,tkL_yes rfl h2]
  exact⟨rfl,rfl⟩
theorem take_drop_sub (b:List Int) (i j:Nat):(b.take (i+j)).drop i=(b.drop i).take j:=by
  rw[List.drop_take]
  congr 1
  omega
theorem loginOk_ne {u w:List UInt8} (h:loginOk u w=true):1≤u.length∧1≤w.length:=by
  simp only[loginOk,Bool.and_eq_true,decide_eq_true_eq]at h
  exact⟨List.length_pos_iff.2 h.1.1.1,List.length_pos_iff.2 h.1.1.2⟩
theorem loginR_eq (b:List Int):loginR b=loginFrom b:=by
  unfold loginR loginFrom
  simp only[take_drop_sub]
  by_cases hc:isBytes b=true∧5≤b.length∧b.getD 0 0=1∧b.getD 1 0≤(b.length:Int)-3∧b.getD (2+(b.getD 1 0).toNat) 0≤(b.length:Int)-((2+(b.getD 1 0).toNat:Nat):Int)-1∧loginOk (bT ((b.drop 2).take (b.getD 1 0).toNat)) (bT ((b.drop (2+(b.getD 1 0).toNat+1)).take (b.getD (2+(b.getD 1 0).toNat) 0).toNat))=true
  · obtain ⟨h1,h2,h3,h4,h5,h6⟩:=hc
    have hb:=isBytes_get h1 (k:=1) (by omega)
    have hb2:=isBytes_get h1 (k:=2+(b.getD 1 0).toNat) (by omega)
    have e1:exS b (0,!isBytes b) [1]=(1,false):=ex1_yes (by simp[h1]) (by simp; omega) h3
    obtain ⟨e2,e3⟩:=tx_yes (b:=b) (s:=(1,false)) rfl (by simp only; omega)
    have a1:(1:Nat)+1+(b.getD 1 0).toNat=2+(b.getD 1 0).toNat:=by omega
    simp only[a1]at e2 e3
    obtain ⟨e4,e5⟩:=tx_yes (b:=b) (s:=(2+(b.getD 1 0).toNat,false)) rfl (by simp only; omega)
    rw[e1,e2,e3,e4,e5,if_pos ⟨rfl,h6⟩,if_pos ⟨h1,h2,h3,h4,h5,h6⟩]
  · rw[if_neg hc,if_neg]
    rintro ⟨h1,h2⟩
    obtain ⟨g1,g2,g3,g4⟩:=tx_ok h1
    obtain ⟨k1,k2,k3,k4⟩:=tx_ok g1
    obtain ⟨m1,m2,m3,m4⟩:=ex1 k1
    have hb:isBytes b=true:=not_iff.1 m1
    rw[m4]at k2 k3 k4
    simp only[Nat.zero_add]at k2 k3 k4 m3
    rw[m4]at g2 g4 h2
    simp only[Nat.zero_add]at g2 g4 h2
    rw[k3]at g2 g4
    rw[k4,k3,g4]at h2
    have a1:(1:Nat)+1+(b.getD 1 0).toNat=2+(b.getD 1 0).toNat:=by omega
    simp only[a1]at g2 h2 k2
    have hb1:=isBytes_get hb (k:=1) (by omega)
    have hb2:=isBytes_get hb (k:=2+(b.getD 1 0).toNat) (by omega)
    have hl:=loginOk_ne h2
    rw[bT_len,bT_len,List.length_take,List.length_take]at hl
    exact hc ⟨hb,by omega,m3,by omega,by omega,h2⟩
theorem loginFrom_ok {b:List Int} (h:(loginFrom b).2.2=true):isBytes b=true∧loginOk (loginFrom b).1.1 (loginFrom b).1.2=true∧0≤(loginFrom b).2.1∧(loginFrom b).2.1≤b.length:=by
  unfold loginFrom at*
  simp only at*
  split at h
  · rename_i hc
    rw[if_pos hc]
    exact⟨hc.1,hc.2.2.2.2.2,by simp only; omega,by have:=isBytes_get hc.1 (k:=2+(b.getD 1 0).toNat); simp only; omega⟩
  · cases h
def szA (b:List Int):Int:=if 0<b.length∧b.getD 0 0=1 then 7 else if 1<b.length∧b.getD 0 0=3 then 4+b.getD 1 0 else -1
def addrV (b:List Int) (n:Nat):Int×List Int×List UInt8×Int:=(b.getD 0 0,if b.getD 0 0=1 then(b.drop 1).take 4 else[],if b.getD 0 0=1 then[] else bT ((b.drop 2).take (n-4)),ofB ((b.drop (n-2)).take 2))
def aOk (a:Int×List Int×List UInt8×Int):Bool:=addrOk a.1 a.2.1 a.2.2.1 a.2.2.2
def addrD (b:List Int):(Int×List Int×List UInt8×Int)×Int×Bool:=
  if isBytes b=true∧0≤szA b∧szA b≤b.length∧aOk (addrV b (szA b).toNat)=true then(addrV b (szA b).toNat,szA b,true) else((0,[],[],0),0,false)
theorem getD_drop {b:List Int} (k j:Nat):(b.drop k).getD j 0=b.getD (k+j) 0:=by
  simp only[List.getD_eq_getElem?_getD,List.getElem?_drop]
theorem adR_yes {b:List Int} {k:Nat} (hb:isBytes b=true) (h:(addrD (b.drop k)).2.2=true):adR b (k,false)=((addrD (b.drop k)).1,(k+(addrD (b.drop k)).2.1.toNat,false))∧k+(addrD (b.drop k)).2.1.toNat≤b.length:=by
  unfold addrD at*
  split at h
  · rename_i hc
    rw[if_pos hc]
    obtain ⟨h1,h2,h3,h4⟩:=hc
    simp only[List.length_drop,aOk,addrV]at h3 h4 ⊢
    unfold szA at*
    simp only[List.length_drop,getD_drop,Nat.add_zero,List.drop_drop]at*
    have hlen:k<b.length:=by
      rcases Nat.lt_or_ge k b.length with h' | h'
      · exact h'
      · rw[if_neg (by omega),if_neg (by omega)]at h2
        omega
    have e1:byV b (k,false)=b.getD k 0:=byV_yes rfl (by simp; omega)
    have e2:tkS b (k,false) 1=(k+1,false):=tkS_yes rfl (by simp; omega)
    unfold adR
    simp only[e1,e2]
    by_cases c1:b.getD k 0=1
    · have cc:0<b.length-k∧b.getD k 0=1:=⟨by omega,c1⟩
      simp only[if_pos cc,if_pos c1]at h2 h3 h4 ⊢
      have c3: ¬ b.getD k 0=3:=by omega
      have e3:tkL b (k+1,false) 4=(b.drop (k+1)).take 4:=tkL_yes rfl (by simp only; omega)
      have e4:tkS b (k+1,false) 4=(k+5,false):=tkS_yes rfl (by simp only; omega)
      have e5:tkL b (k+5,false) 2=(b.drop (k+5)).take 2:=tkL_yes rfl (by simp only; omega)
      have e6:tkS b (k+5,false) 2=(k+7,false):=tkS_yes rfl (by simp only; omega)
      have a7:(7:Int).toNat=7:=rfl
      simp only[if_neg c3,e3,e4,e5,e6,a7]at h4 ⊢
      rw[if_pos h4]
      exact⟨rfl,by omega⟩
    · have cc: ¬ (0<b.length-k∧b.getD k 0=1):=fun h=>c1 h.2
      simp only[if_neg cc,if_neg c1]at h2 h3 h4 ⊢
      by_cases c3:1<b.length-k∧b.getD k 0=3
      · simp only[if_pos c3,if_pos c3.2]at h2 h3 h4 ⊢
        have hb1:=isBytes_get hb (k:=k+1) (by omega)
        obtain ⟨e3,e4⟩:=tx_yes (b:=b) (s:=(k+1,false)) rfl (by simp only; omega)
        simp only at e3 e4
        have e5:tkL b (k+1+1+(b.getD (k+1) 0).toNat,false) 2=(b.drop (k+1+1+(b.getD (k+1) 0).toNat)).take 2:=tkL_yes rfl (by simp only; omega)
        have e6:tkS b (k+1+1+(b.getD (k+1) 0).toNat,false) 2=(k+1+1+(b.getD (k+1) 0).toNat+2,false):=tkS_yes rfl (by simp only; omega)
        have a1:(4+b.getD (k+1) 0).toNat-4=(b.getD (k+1) 0).toNat:=by omega
        have a2:k+((4+b.getD (k+1) 0).toNat-2)=k+1+1+(b.getD (k+1) 0).toNat:=by omega
        simp only[e3,e4,e5,e6,a1,a2]at h4 ⊢
        have a3:k+2=k+1+1:=rfl
        simp only[a3]at h4 ⊢
        rw[if_pos h4]
        refine⟨?_,by omega⟩
        simp only[Prod.mk.injEq,true_and,and_true]
        omega
      · simp only[if_neg c3]at h2
        omega
  · cases h
theorem adR_ok {b:List Int} {s:Nat×Bool} (hb:isBytes b=true) (h:(adR b s).2.2=false):s.2=false∧(addrD (b.drop s.1)).2.2=true:=by
  unfold adR at h
  by_cases c1:byV b s=1
  · have c3: ¬ byV b s=3:=by omega
    simp only[if_pos c1,if_neg c3]at h
    split at h
    · rename_i hok
      obtain ⟨g1,g2,g3,g4⟩:=tkS_ok h
      obtain ⟨k1,k2,k3,k4⟩:=tkS_ok g1
      obtain ⟨m1,m2,m3,m4⟩:=tkS_ok k1
      rw[m3]at k2 k3 k4
      rw[m3,k3]at g2 g4
      rw[m3,k4,k3,g4]at hok
      rw[byV_yes m1 m2]at c1 hok
      refine⟨m1,?_⟩
      simp only at k2 g2 hok
      unfold addrD
      have cc:0<(b.drop s.1).length∧(b.drop s.1).getD 0 0=1:=⟨by rw[List.length_drop]; omega,by rw[getD_drop]; exact c1⟩
      have hz:szA (b.drop s.1)=7:=by unfold szA; rw[if_pos cc]
      have hall:isBytes (b.drop s.1)=true∧0≤szA (b.drop s.1)∧szA (b.drop s.1)≤(b.drop s.1).length∧aOk (addrV (b.drop s.1) (szA (b.drop s.1)).toNat)=true:=by
        refine⟨isBytes_sub hb (List.drop_sublist _ _),by omega,by rw[hz,List.length_drop]; omega,?_⟩
        rw[hz]
        have a7:(7:Int).toNat=7:=rfl
        simp only[aOk,addrV,a7,cc.2,if_true,List.drop_drop]
        rw[c1]at hok
        exact hok
      rw[if_pos hall]
    · cases h
  · by_cases c3:byV b s=3
    · simp only[if_neg c1,if_pos c3]at h
      split at h
      · rename_i hok
        obtain ⟨g1,g2,g3,g4⟩:=tkS_ok h
        obtain ⟨k1,k2,k3,k4⟩:=tx_ok g1
        obtain ⟨m1,m2,m3,m4⟩:=tkS_ok k1
        rw[m3]at k2 k3 k4
        rw[m3,k3]at g2 g4
        rw[m3,k4,k3,g4]at hok
        rw[byV_yes m1 m2]at c3 c1 hok
        refine⟨m1,?_⟩
        simp only at k2 g2 hok
        have hb1:=isBytes_get hb (k:=s.1+1) (by omega)
        unfold addrD
        have cc1: ¬ (0<(b.drop s.1).length∧(b.drop s.1).getD 0 0=1):=by rw[getD_drop]; simp only[Nat.add_zero]; omega
        have cc:1<(b.drop s.1).length∧(b.drop s.1).getD 0 0=3:=⟨by rw[List.length_drop]; omega,by rw[getD_drop]; exact c3⟩
        have hz:szA (b.drop s.1)=4+b.getD (s.1+1) 0:=by unfold szA; rw[if_neg cc1,if_pos cc,getD_drop]
        have hall:isBytes (b.drop s.1)=true∧0≤szA (b.drop s.1)∧szA (b.drop s.1)≤(b.drop s.1).length∧aOk (addrV (b.drop s.1) (szA (b.drop s.1)).toNat)=true:=by
          refine⟨isBytes_sub hb (List.drop_sublist _ _),by omega,by rw[hz,List.length_drop]; omega,?_⟩
          rw[hz]
          have a1:(4+b.getD (s.1+1) 0).toNat-4=(b.getD (s.1+1) 0).toNat:=by omega
          have a2:s.1+((4+b.getD (s.1+1) 0).toNat-2)=s.1+1+1+(b.getD (s.1+1) 0).toNat:=by omega
          have a4: ¬ (3:Int)=1:=by decide
          simp only[aOk,addrV,a1,cc.2,if_neg a4,List.drop_drop,a2]
          rw[c3]at hok
          exact hok
        rw[if_pos hall]
      · cases h
    · simp only[if_neg c1,if_neg c3]at h
      rw[addr_no _ _ _ c1 c3]at h
      cases h
theorem addrD_ok {b:List Int} (h:(addrD b).2.2=true):aOk (addrD b).1=true∧0≤(addrD b).2.1∧(addrD b).2.1≤b.length:=by
  unfold addrD at*
  split at h
  · rename_i hc
    rw[if_pos hc]
    exact⟨hc.2.2.2,hc.2.1,hc.2.2.1⟩
  · cases h
theorem tkS_fail {b:List Int} {s:Nat×Bool} (n:Nat) (h:s.2=true):(tkS b s n).2=true:=by rw[tkS_no (.inl h)]
theorem exS_fail {b:List Int} {s:Nat×Bool} (l:List Int) (h:s.2=true):(exS b s l).2=true:=by
  unfold exS
  split
  · exact tkS_fail _ h
  · rfl
theorem txS_fail {b:List Int} {s:Nat×Bool} (h:s.2=true):(txS b s).2=true:=tkS_fail _ (tkS_fail _ h)
theorem adR_fail (b:List Int) {s:Nat×Bool} (h:s.2=true):(adR b s).2.2=true:=by
  have key: ∀ (c:Prop) [Decidable c] (u:Nat×Bool),u.2=true→(if c then u else(u.1,true)).2=true:=by
    intro c _ u hu
    split
    · exact hu
    · rfl
  unfold adR
  refine key _ _ (tkS_fail _ ?_)
  split
  · exact tkS_fail _ (tkS_fail _ h)
  · split
    · exact txS_fail (tkS_fail _ h)
    · exact tkS_fail _ h
def codeFrom (b:List Int):Int×(Int×List Int×List UInt8×Int)×Int×Bool:=
  if isBytes b=true∧3≤b.length∧b.getD 0 0=5∧b.getD 2 0=0∧(addrD (b.drop 3)).2.2=true then(b.getD 1 0,(addrD (b.drop 3)).1,(addrD (b.drop 3)).2.1+3,true) else(0,(0,[],[],0),0,false)
def codeR (b:List Int):Int×(Int×List Int×List UInt8×Int)×Int×Bool:=
  let s1:=exS b (0,!isBytes b) [5]
  let s3:=exS b (tkS b s1 1) [0]
  (byV b s1,(adR b s3).1,((adR b s3).2.1:Int),!(adR b s3).2.2)
theorem codeR_eq (b:List Int):(codeFrom b).2.2.2=(codeR b).2.2.2∧((codeFrom b).2.2.2=true→codeR b=codeFrom b):=by
  by_cases hc:isBytes b=true∧3≤b.length∧b.getD 0 0=5∧b.getD 2 0=0∧(addrD (b.drop 3)).2.2=true
  · obtain ⟨h1,h2,h3,h4,h5⟩:=hc
    have e1:exS b (0,!isBytes b) [5]=(1,false):=ex1_yes (by simp[h1]) (by simp; omega) h3
    have e2:byV b (1,false)=b.getD 1 0:=byV_yes rfl (by simp; omega)
    have e3:tkS b (1,false) 1=(2,false):=tkS_yes rfl (by simp; omega)
    have e4:exS b (2,false) [0]=(3,false):=ex1_yes rfl (by simp only; omega) h4
    have e5:=(adR_yes h1 h5).1
    have hd:=addrD_ok h5
    have:codeR b=codeFrom b:=by
      unfold codeR codeFrom
      simp only[e1,e2,e3,e4,e5]
      rw[if_pos ⟨h1,h2,h3,h4,h5⟩]
      simp only[Prod.mk.injEq,true_and,Bool.not_false,and_true]
      omega
    exact⟨by rw[this],fun _=>this⟩
  · have hn:codeFrom b=(0,(0,[],[],0),0,false):=by unfold codeFrom; rw[if_neg hc]
    have hr:(codeR b).2.2.2=false:=by
      rcases Bool.eq_false_or_eq_true (codeR b).2.2.2 with hr | hr
      · exfalso
        unfold codeR at hr
        simp only[Bool.not_eq_true']at hr
        have hb:isBytes b=true:=by
          by_cases hb:isBytes b=true
          · exact hb
          · exfalso
            have h0:isBytes b=false:=by simpa using hb
            rw[adR_fail _ (exS_fail _ (tkS_fail _ (exS_fail _ (by simp[h0]))))]at hr
            cases hr
        obtain ⟨g1,g2⟩:=adR_ok hb hr
        obtain ⟨k1,k2,k3,k4⟩:=ex1 g1
        obtain ⟨m1,m2,m3,m4⟩:=tkS_ok k1
        obtain ⟨p1,p2,p3,p4⟩:=ex1 m1
        rw[p4]at m2 m3
        rw[p4,m3]at k2 k3 k4
        rw[p4,m3,k4]at g2
        simp only[Nat.zero_add]at k2 k3 p3 g2
        exact hc ⟨hb,by omega,p3,k3,g2⟩
      · exact hr
    exact⟨by rw[hn,hr],fun h=>by rw[hn]at h; cases h⟩
abbrev Lg:=List UInt8×List UInt8
def lgOk (u:Lg):Bool:=loginOk u.1 u.2
def wantOk (wt:List Int):Bool:=wt.all fun m=>decide (m=0∨m=2)
def talkOk (st:Int) (wt:List Int) (lg:List Lg) (to:List UInt8):Bool:=
  decide (0≤st∧st≤4) && methOk wt && decide (lg.length≤4) && wantOk wt && lg.all lgOk && (decide (¬ st=1) || decide (2∈wt)) && (if st=3 then(addrFrom to).2 else decide (to=[]))
theorem addrFrom_nil:addrFrom []=((0,[],[],0),false):=by
  have h:(addrFrom []).2=false:=by
    unfold addrFrom
    rfl
  exact addrFrom_no h
def helloPick (wt ms:List Int):Int:=if methOk wt=true∧methOk ms=true then(match wt.find? (fun m=>decide (m∈ms)) with | some m=>m | none=>255) else 255
theorem pick_yes {wt ms:List Int} {k:Nat} (h1:methOk wt=true) (h2:methOk ms=true) (hk:k<wt.length) (hn: ∀ j,j<k→wt.getD j 0 ∉ ms) (h:wt.getD k 0∈ms):helloPick wt ms=wt.getD k 0:=by
  have hg: ∀ j,(h:j<wt.length)→wt.getD j 0=wt[j]:=fun j h=>by rw[List.getD_eq_getElem?_getD,List.getElem?_eq_getElem h]; rfl
  have:wt.find? (fun m=>decide (m∈ms))=some wt[k]:=by
    rw[List.find?_eq_some_iff_getElem]
    refine⟨by rw[← hg k hk]; simpa using h,k,hk,rfl,fun j hj=>?_⟩
    have:=hn j hj
    rw[hg j (by omega)]at this
    simp[this]
  unfold helloPick
  rw[if_pos ⟨h1,h2⟩,this,hg k hk]
theorem pick_none {wt ms:List Int} {k:Nat} (hk:wt.length≤k) (hn: ∀ j,j<k→wt.getD j 0 ∉ ms):helloPick wt ms=255:=by
  have:wt.find? (fun m=>decide (m∈ms))=none:=by
    rw[List.find?_eq_none]
    intro u hu
    obtain ⟨j,hj,rfl⟩:=List.getElem_of_mem hu
    have:=hn j (by omega)
    rw[List.getD_eq_getElem?_getD,List.getElem?_eq_getElem hj]at this
    simpa using this
  unfold helloPick
  rw[this]
  split <;> rfl
theorem pick_bad {wt ms:List Int} (h: ¬ (methOk wt=true∧methOk ms=true)):helloPick wt ms=255:=if_neg h
theorem pick_bd (wt ms:List Int):0≤helloPick wt ms∧helloPick wt ms≤255:=by
  unfold helloPick
  split
  · rename_i h
    split
    · rename_i m hm
      have hmem:=List.mem_of_find?_eq_some hm
      have hok:(∀ x∈wt,0≤x∧x≤254)∧_:=of_decide_eq_true h.1
      have:=hok.1 m hmem
      omega
    · omega
  · omega
def sayHello (wt b:List Int):Int×List Int:=
  if (helloFrom b).2.2=true∧(helloFrom b).2.1=(b.length:Int) then
    (if helloPick wt (helloFrom b).1=0 then 2 else if helloPick wt (helloFrom b).1=2 then 1 else 4,[5,helloPick wt (helloFrom b).1]) else(4,[])
def fitsL (lg:List Lg) (u w:List UInt8):Bool:=loginOk u w && decide ((u,w)∈lg)
def sayLogin (lg:List Lg) (b:List Int):Int×List Int:=
  if (loginFrom b).2.2=true∧(loginFrom b).2.1=(b.length:Int) then
    (if fitsL lg (loginFrom b).1.1 (loginFrom b).1.2 then(2,[1,0]) else(4,[1,1])) else(4,[])
abbrev Ad:=Int×List Int×List UInt8×Int
def reqFrom (b:List Int):(Int×Ad)×Int×Bool:=
  if (codeFrom b).2.2.2=true∧1≤(codeFrom b).1∧(codeFrom b).1≤3 then(((codeFrom b).1,(codeFrom b).2.1),(codeFrom b).2.2.1,true) else((0,(0,[],[],0)),0,false)
def sayReq (b:List Int):Int×List UInt8×List Int:=
  let r:=reqFrom b
  let a:=r.1.2
  if r.2.2=true∧r.2.1=(b.length:Int) then
    (if r.1.1=1 then(3,addrT a.1 a.2.1 a.2.2.1 a.2.2.2,(replyP 0 a.1 a.2.1 a.2.2.1 a.2.2.2).1) else(4,[],(replyP 7 a.1 a.2.1 a.2.2.1 a.2.2.2).1)) else(4,[],[])
def talkSay (st:Int) (wt:List Int) (lg:List Lg) (to:List UInt8) (b:List Int):(Int×List Int×List Lg×List UInt8)×List Int×Bool:=
  if talkOk st wt lg to=true∧isBytes b=true∧st<3 then
    (if st=0 then(((sayHello wt b).1,wt,lg,[]),(sayHello wt b).2,true)
     else if st=1 then(((sayLogin lg b).1,wt,lg,[]),(sayLogin lg b).2,true)
     else(((sayReq b).1,wt,lg,(sayReq b).2.1),(sayReq b).2.2,true))
  else((0,[],[],[]),[],false)
theorem codeFrom_ok {b:List Int} (h:(codeFrom b).2.2.2=true):aOk (codeFrom b).2.1=true∧3≤(codeFrom b).2.2.1∧(codeFrom b).2.2.1≤b.length:=by
  unfold codeFrom at*
  split at h
  · rename_i hc
    rw[if_pos hc]
    have:=addrD_ok hc.2.2.2.2
    rw[List.length_drop]at this
    exact⟨this.1,by simp only; omega,by simp only; omega⟩
  · cases h
theorem reqFrom_ok {b:List Int} (h:(reqFrom b).2.2=true):aOk (reqFrom b).1.2=true∧(1≤(reqFrom b).1.1∧(reqFrom b).1.1≤3)∧3≤(reqFrom b).2.1∧(reqFrom b).2.1≤b.length:=by
  unfold reqFrom at*
  split at h
  · rename_i hc
    rw[if_pos hc]
    have:=codeFrom_ok hc.1
    exact⟨this.1,hc.2,this.2⟩
  · cases h
theorem talkOk_parts {st:Int} {wt:List Int} {lg:List Lg} {to:List UInt8} (h:talkOk st wt lg to=true):(0≤st∧st≤4)∧methOk wt=true∧lg.length≤4∧wantOk wt=true∧lg.all lgOk=true∧(st=1→2∈wt)∧(st=3→(addrFrom to).2=true)∧(¬ st=3→to=[]):=by
  simp only[talkOk,Bool.and_eq_true,Bool.or_eq_true,decide_eq_true_eq]at h
  obtain ⟨⟨⟨⟨⟨⟨h1,h2⟩,h3⟩,h4⟩,h5⟩,h6⟩,h7⟩:=h
  refine⟨h1,h2,h3,h4,h5,fun hs=>h6.resolve_left (fun hn=>hn hs),fun hs=>?_,fun hs=>?_⟩
  · rw[if_pos hs]at h7
    exact h7
  · rw[if_neg hs]at h7
    exact of_decide_eq_true h7
def lrB (f:Bool):List Int:=if f then[1,0] else[1,1]
def wlOk (wt:List Int) (lg:List Lg):Bool:=wantOk wt && lg.all lgOk && (methOk wt && decide (lg.length≤4))
theorem want_any (wt:List Int):wt.any (fun m=>decide (m≠0∧m≠2))=!wantOk wt:=by
  unfold wantOk
  rw[Bool.eq_iff_iff]
  simp
theorem lg_any (lg:List Lg):lg.any (fun x=>!loginOk x.1 x.2)=!lg.all lgOk:=by
  rw[Bool.eq_iff_iff]
  simp[lgOk]
theorem talk_i (st:Int) (wt:List Int) (lg:List Lg) (to:List UInt8):talkOk st wt lg to=(decide (0≤st∧st≤4) && methOk wt && decide (lg.length≤4) && !(wt.any fun m=>decide (m≠0∧m≠2)) && !(lg.any fun x=>!loginOk x.1 x.2) && (decide (¬ st=1) || decide (2∈wt)) && (if st=3 then(addrFrom to).2 else decide (to=[]))):=by
  rw[want_any,lg_any,Bool.not_not,Bool.not_not]
  rfl
theorem talk_s (st:Int) (wt:List Int) (lg:List Lg) (to:List UInt8):talkOk st wt lg to=(wlOk wt lg && decide (0≤st∧st≤4) && (decide (¬ st=1) || decide (2∈wt)) && (decide (decide (st=3)=(addrFrom to).2) && ((addrFrom to).2 || decide (to=[])))):=by
  have hl:(if st=3 then(addrFrom to).2 else decide (to=[]))=(decide (decide (st=3)=(addrFrom to).2) && ((addrFrom to).2 || decide (to=[]))):=by
    by_cases h3:st=3
    · cases h:(addrFrom to).2 <;> simp[h3]
    · cases h:(addrFrom to).2
      · simp[h3]
      · have:to≠[]:=fun he=>by rw[he,addrFrom_nil]at h; cases h
        simp[h3,this]
  unfold talkOk wlOk
  rw[hl]
  cases methOk wt <;> cases wantOk wt <;> cases lg.all lgOk <;> cases decide (0≤st∧st≤4) <;> cases decide (lg.length≤4) <;> rfl
theorem wl_bad1 {wt:List Int} {lg:List Lg} {k:Nat} (hk:k<wt.length) (h:wt.getD k 0≠0∧wt.getD k 0≠2):false=wlOk wt lg:=by
  have:wantOk wt=false:=all_no (d:=0) hk (decide_eq_false fun hh=>hh.elim h.1 h.2)
  unfold wlOk
  rw[this]
  rfl
theorem wl_bad2 {wt:List Int} {lg:List Lg} {k:Nat} (hk:k<lg.length) (h:loginOk (lg.getD k login0).1 (lg.getD k login0).2=false):false=wlOk wt lg:=by
  have:lg.all lgOk=false:=all_no (d:=login0) hk h
  unfold wlOk
  rw[this,Bool.and_false]
  rfl
theorem wl_end {wt:List Int} {lg:List Lg} {j k:Nat} (hj:wt.length≤j) (hk:lg.length≤k) (h1:(wt.take j).all (fun m=>decide (m=0∨m=2))=true) (h2:(lg.take k).all lgOk=true):(methOk wt && decide (lg.length≤4))=wlOk wt lg:=by
  have e1:wantOk wt=true:=all_yes hj h1
  have e2:lg.all lgOk=true:=all_yes hk h2
  unfold wlOk
  rw[e1,e2]
  rfl
def talkNew (wt:List Int) (lg:List Lg):(Int×List Int×List Lg×List UInt8)×Bool:=if wlOk wt lg then((0,wt,lg,[]),true) else((0,[],[],[]),false)
theorem sl_noneF {w:World} {A:Option Addr} {X:List Nat} {sz c:Nat} {α:Type} {g:α→List Value} {zs:List α} (h:Sl w X sz A zs.length c (zs.flatMap g)) (hA:A=none):zs=[]:=by
  rcases Nat.eq_zero_or_pos zs.length with h0 | h0
  · exact List.eq_nil_of_length_eq_zero h0
  · obtain ⟨a,ha,_⟩:=h.2.2.2 h0
    rw[hA]at ha
    cases ha
section
variable {st:Int} {wt:List Int} {lg:List Lg} {to:List UInt8}
theorem talk_no1 (h: ¬ (0≤st∧st≤4)):false=talkOk st wt lg to:=by rw[talk_i,decide_eq_false h]; rfl
theorem talk_no2 (h:methOk wt=false):false=talkOk st wt lg to:=by rw[talk_i,h,Bool.and_false]; rfl
theorem talk_no3 (h:(4:Int)<((lg.length:Nat):Int)):false=talkOk st wt lg to:=by rw[talk_i,decide_eq_false (show ¬ lg.length≤4 by omega),Bool.and_false]; rfl
theorem talk_no4 (h:wt.any (fun m=>decide (m≠0∧m≠2))=true):false=talkOk st wt lg to:=by rw[talk_i,h,Bool.not_true,Bool.and_false]; rfl
theorem talk_no5 (h:lg.any (fun x=>!loginOk x.1 x.2)=true):false=talkOk st wt lg to:=by rw[talk_i,h,Bool.not_true,Bool.and_false]; rfl
theorem talk_no6 (h1:st=1) (h2: ¬ 2∈wt):false=talkOk st wt lg to:=by
  have e:(decide (¬ st=1) || decide (2∈wt))=false:=by rw[decide_eq_false (fun hh: ¬ st=1=>hh h1),decide_eq_false h2]; rfl
  rw[talk_i,e,Bool.and_false]
  rfl
theorem talk_y (h1:0≤st∧st≤4) (h2:methOk wt=true) (h3: ¬ (4:Int)<((lg.length:Nat):Int)) (h4:wt.any (fun m=>decide (m≠0∧m≠2))=false) (h5:lg.any (fun x=>!loginOk x.1 x.2)=false) (h6:st=1→2∈wt):talkOk st wt lg to=if st=3 then(addrFrom to).2 else decide (to=[]):=by
  have h6':(decide (¬ st=1) || decide (2∈wt))=true:=by
    by_cases h:st=1
    · rw[decide_eq_true (h6 h),Bool.or_true]
    · rw[decide_eq_true h,Bool.true_or]
  rw[talk_i,decide_eq_true h1,h2,decide_eq_true (show lg.length≤4 by omega),h4,h5,h6']
  rfl
theorem talk_y3 (h1:0≤st∧st≤4) (h2:methOk wt=true) (h3: ¬ (4:Int)<((lg.length:Nat):Int)) (h4:wt.any (fun m=>decide (m≠0∧m≠2))=false) (h5:lg.any (fun x=>!loginOk x.1 x.2)=false) (h6:st=1→2∈wt) (h7:st=3):(addrFrom to).2=talkOk st wt lg to:=by
  rw[talk_y h1 h2 h3 h4 h5 h6,if_pos h7]
theorem talk_yn (h1:0≤st∧st≤4) (h2:methOk wt=true) (h3: ¬ (4:Int)<((lg.length:Nat):Int)) (h4:wt.any (fun m=>decide (m≠0∧m≠2))=false) (h5:lg.any (fun x=>!loginOk x.1 x.2)=false) (h6:st=1→2∈wt) (h7: ¬ st=3):decide (to=[])=talkOk st wt lg to:=by
  rw[talk_y h1 h2 h3 h4 h5 h6,if_neg h7]
theorem ts_no1 (h:wlOk wt lg=false):false=talkOk st wt lg to:=by rw[talk_s,h]; rfl
theorem ts_no7 (h: ¬ decide (st=3)=(addrFrom to).2):false=talkOk st wt lg to:=by rw[talk_s,decide_eq_false h,Bool.false_and,Bool.and_false]
theorem ts_y (h1:wlOk wt lg=true) (h2:0≤st∧st≤4) (h6:st=1→2∈wt) (h7:decide (st=3)=(addrFrom to).2):talkOk st wt lg to=((addrFrom to).2 || decide (to=[])):=by
  have h6':(decide (¬ st=1) || decide (2∈wt))=true:=by
    by_cases h:st=1
    · rw[decide_eq_true (h6 h),Bool.or_true]
    · rw[decide_eq_true h,Bool.true_or]
  rw[talk_s,h1,decide_eq_true h2,h6',decide_eq_true h7]
  rfl
theorem ts_y1 (h1:wlOk wt lg=true) (h2:0≤st∧st≤4) (h6:st=1→2∈wt) (h7:decide (st=3)=(addrFrom to).2) (h8:(addrFrom to).2=true):true=talkOk st wt lg to:=by rw[ts_y h1 h2 h6 h7,h8]; rfl
theorem ts_y2 (h1:wlOk wt lg=true) (h2:0≤st∧st≤4) (h6:st=1→2∈wt) (h7:decide (st=3)=(addrFrom to).2) (h8:(addrFrom to).2=false):decide (to=[])=talkOk st wt lg to:=by rw[ts_y h1 h2 h6 h7,h8]; rfl
end
theorem helloFrom_n {b:List Int} (h:(helloFrom b).2.2=true):(helloFrom b).2.1≤(b.length:Int):=(helloFrom_ok h).2.2.2.2.2.2
theorem sayH_no1 {wt b:List Int} (h:(helloFrom b).2.2=false):sayHello wt b=(4,[]):=if_neg (by rw[h]; simp)
theorem sayH_no2 {wt b:List Int} (h:(helloFrom b).2.1<(b.length:Int)):sayHello wt b=(4,[]):=if_neg (fun hh=>by omega)
theorem sayH_no3 {wt b:List Int} (h:(helloFrom b).2.1≠(b.length:Int)):sayHello wt b=(4,[]):=if_neg (fun hh=>h hh.2)
theorem sayH_y {wt b:List Int} (h:(helloFrom b).2.2=true) (h2: ¬ (helloFrom b).2.1<(b.length:Int)):sayHello wt b=(if helloPick wt (helloFrom b).1=0 then 2 else if helloPick wt (helloFrom b).1=2 then 1 else 4,[5,helloPick wt (helloFrom b).1]):=if_pos ⟨h,by have:=helloFrom_n h; omega⟩
theorem sayH_y2 {wt b:List Int} (h:(helloFrom b).2.2=true) (h2: ¬ (helloFrom b).2.1≠(b.length:Int)):sayHello wt b=(if helloPick wt (helloFrom b).1=0 then 2 else if helloPick wt (helloFrom b).1=2 then 1 else 4,[5,helloPick wt (helloFrom b).1]):=if_pos ⟨h,Decidable.not_not.1 h2⟩
theorem sayL_no1 {lg:List Lg} {b:List Int} (h:(loginFrom b).2.2=false):sayLogin lg b=(4,[]):=if_neg (by rw[h]; simp)
theorem sayL_no2 {lg:List Lg} {b:List Int} (h:(loginFrom b).2.1<(b.length:Int)):sayLogin lg b=(4,[]):=if_neg (fun hh=>by omega)
theorem sayL_no3 {lg:List Lg} {b:List Int} (h:(loginFrom b).2.1≠(b.length:Int)):sayLogin lg b=(4,[]):=if_neg (fun hh=>h hh.2)
theorem sayL_eq {lg:List Lg} {b:List Int} (h:(loginFrom b).2.2=true) (h2:(loginFrom b).2.1=(b.length:Int)):sayLogin lg b=(if fitsL lg (loginFrom b).1.1 (loginFrom b).1.2 then 2 else 4,lrB (fitsL lg (loginFrom b).1.1 (loginFrom b).1.2)):=by
  unfold sayLogin
  rw[if_pos ⟨h,h2⟩]
  cases fitsL lg (loginFrom b).1.1 (loginFrom b).1.2 <;> rfl
theorem sayL_y {lg:List Lg} {b:List Int} (h:(loginFrom b).2.2=true) (h2: ¬ (loginFrom b).2.1<(b.length:Int)):sayLogin lg b=(if fitsL lg (loginFrom b).1.1 (loginFrom b).1.2 then 2 else 4,lrB (fitsL lg (loginFrom b).1.1 (loginFrom b).1.2)):=sayL_eq h (by have:=(loginFrom_ok h).2.2.2; omega)
theorem sayL_y2 {lg:List Lg} {b:List Int} (h:(loginFrom b).2.2=true) (h2: ¬ (loginFrom b).2.1≠(b.length:Int)):sayLogin lg b=(if fitsL lg (loginFrom b).1.1 (loginFrom b).1.2 then 2 else 4,lrB (fitsL lg (loginFrom b).1.1 (loginFrom b).1.2)):=sayL_eq h (Decidable.not_not.1 h2)
theorem sayR_no1 {b:List Int} (h:(reqFrom b).2.2=false):sayReq b=(4,[],[]):=if_neg (by rw[h]; simp)
theorem sayR_no2 {b:List Int} (h:(reqFrom b).2.1<(b.length:Int)):sayReq b=(4,[],[]):=if_neg (fun hh=>by omega)
theorem sayR_no3 {b:List Int} (h:(reqFrom b).2.1≠(b.length:Int)):sayReq b=(4,[],[]):=if_neg (fun hh=>h hh.2)
theorem sayR_c {b:List Int} (h:(reqFrom b).2.2=true) (h2:(reqFrom b).2.1=(b.length:Int)) (hc:(reqFrom b).1.1=1):sayReq b=(3,addrT (reqFrom b).1.2.1 (reqFrom b).1.2.2.1 (reqFrom b).1.2.2.2.1 (reqFrom b).1.2.2.2.2,(replyP 0 (reqFrom b).1.2.1 (reqFrom b).1.2.2.1 (reqFrom b).1.2.2.2.1 (reqFrom b).1.2.2.2.2).1):=by
  unfold sayReq
  simp only
  rw[if_pos ⟨h,h2⟩,if_pos hc]
theorem sayR_n {b:List Int} (h:(reqFrom b).2.2=true) (h2:(reqFrom b).2.1=(b.length:Int)) (hc: ¬ (reqFrom b).1.1=1):sayReq b=(4,[],(replyP 7 (reqFrom b).1.2.1 (reqFrom b).1.2.2.1 (reqFrom b).1.2.2.2.1 (reqFrom b).1.2.2.2.2).1):=by
  unfold sayReq
  simp only
  rw[if_pos ⟨h,h2⟩,if_neg hc]
theorem reqFrom_n {b:List Int} (h:(reqFrom b).2.2=true) (h2: ¬ (reqFrom b).2.1<(b.length:Int)):(reqFrom b).2.1=(b.length:Int):=by have:=(reqFrom_ok h).2.2.2; omega
theorem addrT_y {k:Int} {q:List Int} {nm:List UInt8} {p:Int} (h:addrOk k q nm p=true):hostT k q nm++[58]++Lib.itoa p=addrT k q nm p:=by simp[addrT,h]
section
variable {st:Int} {wt:List Int} {lg:List Lg} {to:List UInt8} {b:List Int}
theorem talkSay_no (h:talkOk st wt lg to=false∨isBytes b=false∨3≤st):talkSay st wt lg to b=((0,[],[],[]),[],false):=by
  refine if_neg fun hh=>?_
  rcases h with h | h | h
  · rw[h]at hh; exact absurd hh.1 (by decide)
  · rw[h]at hh; exact absurd hh.2.1 (by decide)
  · omega
theorem talkSay_0 (h1:talkOk st wt lg to=true) (h2:isBytes b=true) (h:st=0):talkSay st wt lg to b=(((sayHello wt b).1,wt,lg,to),(sayHello wt b).2,true):=by
  have ht:=(talkOk_parts h1).2.2.2.2.2.2.2 (by omega)
  unfold talkSay
  rw[if_pos ⟨h1,h2,by omega⟩,if_pos h,ht]
theorem talkSay_1 (h1:talkOk st wt lg to=true) (h2:isBytes b=true) (h:st=1):talkSay st wt lg to b=(((sayLogin lg b).1,wt,lg,to),(sayLogin lg b).2,true):=by
  have ht:=(talkOk_parts h1).2.2.2.2.2.2.2 (by omega)
  unfold talkSay
  rw[if_pos ⟨h1,h2,by omega⟩,if_neg (by omega),if_pos h,ht]
theorem talkSay_2 (h1:talkOk st wt lg to=true) (h2:isBytes b=true) (h:st=2):talkSay st wt lg to b=(((sayReq b).1,wt,lg,(sayReq b).2.1),(sayReq b).2.2,true):=by
  unfold talkSay
  rw[if_pos ⟨h1,h2,by omega⟩,if_neg (by omega),if_neg (by omega)]
end
theorem reqFrom_nm (b:List Int):(reqFrom b).1.2.2.2.1.length≤255:=by
  unfold reqFrom
  split
  · rename_i h
    have:=addr_fit2 (codeFrom_ok h.1).1
    simp only
    omega
  · simp
section
variable {st:Int} {wt:List Int} {lg:List Lg} {to:List UInt8} {b:List Int}
theorem talkSay_0n (h1:talkOk st wt lg to=true) (h2:isBytes b=true) (h:st=0):talkSay st wt lg to b=(((sayHello wt b).1,wt,lg,[]),(sayHello wt b).2,true):=by
  rw[talkSay_0 h1 h2 h,(talkOk_parts h1).2.2.2.2.2.2.2 (by omega)]
theorem talkSay_1n (h1:talkOk st wt lg to=true) (h2:isBytes b=true) (h:st=1):talkSay st wt lg to b=(((sayLogin lg b).1,wt,lg,[]),(sayLogin lg b).2,true):=by
  rw[talkSay_1 h1 h2 h,(talkOk_parts h1).2.2.2.2.2.2.2 (by omega)]
theorem talkSay_len (st:Int) (wt:List Int) (lg:List Lg) (to:List UInt8) (b:List Int):(talkSay st wt lg to b).1.2.1.length≤8∧(talkSay st wt lg to b).1.2.2.1.length≤4∧(talkSay st wt lg to b).2.1.length≤27:=by
  have hh: ∀ wt b,(sayHello wt b).2.length≤27:=fun wt b=>by unfold sayHello; split <;> simp
  have hl: ∀ lg b,(sayLogin lg b).2.length≤27:=fun lg b=>by unfold sayLogin; split <;> (try split) <;> simp
  have hr: ∀ b,(sayReq b).2.2.length≤27:=fun b=>by
    unfold sayReq
    simp only
    split
    · split <;> exact replyP_len _ _ _ _ _
    · simp
  unfold talkSay
  split
  · rename_i h
    have hp:=talkOk_parts h.1
    have hm:=methOk_len hp.2.1
    have h3:=hp.2.2.1
    have e1:=hh wt b
    have e2:=hl lg b
    have e3:=hr b
    split
    · exact⟨hm.2,h3,e1⟩
    · split
      · exact⟨hm.2,h3,e2⟩
      · exact⟨hm.2,h3,e3⟩
  · simp
end
abbrev T4:=Int×List Int×List Lg×List UInt8
structure Cl where
  ms:List Int
  lu:List UInt8
  lw:List UInt8
  ak:Int
  aq:List Int
  an:List UInt8
  apt:Int
abbrev sayC (c:Cl) (s:Int):List Int×Bool:=sayP c.ms c.lu c.lw c.ak c.aq c.an c.apt s
abbrev tS (t:T4) (b:List Int):T4×List Int×Bool:=talkSay t.1 t.2.1 t.2.2.1 t.2.2.2 b
def stepT (c:Cl) (t:T4):Option T4:=if (sayC c t.1).2=true∧(tS t (sayC c t.1).1).2.2=true then some (tS t (sayC c t.1).1).1 else none
def runT (c:Cl):Nat→T4→T4
  | 0,t=>t
  | n+1,t=>match stepT c t with | some t'=>runT c n t' | none=>t
def clRun (c:Cl) (t:T4):T4×Bool:=if clientOk c.ms c.lu c.lw c.ak c.aq c.an c.apt=true∧talkOk t.1 t.2.1 t.2.2.1 t.2.2.2=true then(runT c 3 t,true) else((0,[],[],[]),false)
theorem runT_none {c:Cl} {t:T4} (h:stepT c t=none) (n:Nat):runT c n t=t:=by
  cases n with
  | zero=>rfl
  | succ n=>unfold runT; rw[h]
theorem runT_some {c:Cl} {t t':T4} (h:stepT c t=some t') (n:Nat):runT c (n+1) t=runT c n t':=by
  conv=>lhs; unfold runT
  rw[h]
theorem step_no1 {c:Cl} {t:T4} (h:(sayC c t.1).2=false):stepT c t=none:=if_neg (by rw[h]; simp)
theorem step_no2 {c:Cl} {t:T4} (h:(tS t (sayC c t.1).1).2.2=false):stepT c t=none:=if_neg (by rw[h]; simp)
theorem step_y {c:Cl} {t t':T4} (h1:(sayC c t.1).2=true) (h2:(tS t (sayC c t.1).1).2.2=true) (h:t'=(tS t (sayC c t.1).1).1):stepT c t=some t':=by
  unfold stepT
  rw[if_pos ⟨h1,h2⟩,h]
theorem cut_b {b:List Int} {i:Int} {k:Nat} (h:0≤i):(b.take ((k:Int)+i).toNat).drop k=(b.drop k).take i.toNat:=by
  rw[show ((k:Int)+i).toNat=k+i.toNat by omega,take_drop_sub]
theorem hello_yes {b ms:List Int} {n:Int} (h1:isBytes b=true) (h2:3≤b.length) (h3:b.getD 0 0=5) (h4:b.getD 1 0≤(b.length:Int)-2) (hm:ms=(b.drop 2).take (b.getD 1 0).toNat) (h5:methOk ms=true) (hn:n=2+(ms.length:Int)):helloFrom b=(ms,n,true):=by
  subst hm
  unfold helloFrom
  rw[if_pos ⟨h1,h2,h3,h4,h5⟩]
  have hb:=isBytes_get h1 (k:=1) (by omega)
  rw[List.length_take,List.length_drop]at hn
  simp only[Prod.mk.injEq,true_and,and_true]
  omega
theorem hello_no {b:List Int} (h: ¬ (isBytes b=true∧3≤b.length∧b.getD 0 0=5∧b.getD 1 0≤(b.length:Int)-2∧methOk ((b.drop 2).take (b.getD 1 0).toNat)=true)):helloFrom b=([],0,false):=if_neg h
theorem login_no {b:List Int} (h:isBytes b=false∨b.length<5∨b.getD 0 0≠1∨(b.length:Int)-3<b.getD 1 0∨(b.length:Int)-((2+(b.getD 1 0).toNat:Nat):Int)-1<b.getD (2+(b.getD 1 0).toNat) 0):loginFrom b=(([],[]),0,false):=by
  unfold loginFrom
  simp only
  rw[if_neg]
  rintro ⟨h1,h2,h3,h4,h5,h6⟩
  rcases h with h | h | h | h | h
  · rw[h1]at h; cases h
  · omega
  · exact h h3
  · omega
  · omega
theorem login_eq {b:List Int} {u w:List UInt8} {a e:Nat} (h1:isBytes b=true) (h2:5≤b.length) (h3:b.getD 0 0=1) (h4:b.getD 1 0≤(b.length:Int)-3) (ha:a=2+(b.getD 1 0).toNat) (he:e=a+1+(b.getD a 0).toNat) (h5:b.getD a 0≤(b.length:Int)-(a:Int)-1) (hu:u=bT ((b.take a).drop 2)) (hw:w=bT ((b.take e).drop (a+1))):
    loginFrom b=if loginOk u w=true then((u,w),(e:Int),true) else(([],[]),0,false):=by
  subst hu hw he ha
  unfold loginFrom
  simp only
  by_cases h6:loginOk (bT ((b.take (2+(b.getD 1 0).toNat)).drop 2)) (bT ((b.take (2+(b.getD 1 0).toNat+1+(b.getD (2+(b.getD 1 0).toNat) 0).toNat)).drop (2+(b.getD 1 0).toNat+1)))=true
  · rw[if_pos h6,if_pos ⟨h1,h2,h3,h4,h5,h6⟩]
  · rw[if_neg h6,if_neg (fun h=>h6 h.2.2.2.2.2)]
theorem szA_bd {b:List Int} (hb:isBytes b=true):szA b≤259∧(0≤szA b→4≤szA b):=by
  unfold szA
  split
  · omega
  · split
    · rename_i h
      have:=isBytes_get hb (k:=1) h.1
      omega
    · omega
theorem addrD_no {b:List Int} (h:isBytes b=false∨szA b<0∨(b.length:Int)<szA b):addrD b=((0,[],[],0),0,false):=by
  unfold addrD
  rw[if_neg]
  rintro ⟨h1,h2,h3,h4⟩
  rcases h with h | h | h
  · rw[h1]at h; cases h
  · omega
  · omega
theorem addrD_eq {b:List Int} {q:List Int} {nm:List UInt8} {p:Int} (h1:isBytes b=true) (h2:0≤szA b) (h3:szA b≤b.length) (hq:q=if b.getD 0 0=1 then(b.drop 1).take 4 else[]) (hn:nm=if b.getD 0 0=1 then[] else bT ((b.drop 2).take ((szA b).toNat-4))) (hp:p=ofB ((b.drop ((szA b).toNat-2)).take 2)):
    addrD b=if addrOk (b.getD 0 0) q nm p=true then((b.getD 0 0,q,nm,p),szA b,true) else((0,[],[],0),0,false):=by
  subst hq hn hp
  unfold addrD
  by_cases h4:aOk (addrV b (szA b).toNat)=true
  · rw[if_pos ⟨h1,h2,h3,h4⟩]
    exact(if_pos (show addrOk (b.getD 0 0) (if b.getD 0 0=1 then(b.drop 1).take 4 else[]) (if b.getD 0 0=1 then[] else bT ((b.drop 2).take ((szA b).toNat-4))) (ofB ((b.drop ((szA b).toNat-2)).take 2))=true from h4)).symm
  · rw[if_neg (fun h=>h4 h.2.2.2)]
    exact(if_neg (show ¬ addrOk (b.getD 0 0) (if b.getD 0 0=1 then(b.drop 1).take 4 else[]) (if b.getD 0 0=1 then[] else bT ((b.drop 2).take ((szA b).toNat-4))) (ofB ((b.drop ((szA b).toNat-2)).take 2))=true from h4)).symm
theorem code_no {b:List Int} (h:isBytes b=false∨b.length<3∨b.getD 0 0≠5∨b.getD 2 0≠0∨(addrD (b.drop 3)).2.2=false):codeFrom b=(0,(0,[],[],0),0,false):=by
  unfold codeFrom
  rw[if_neg]
  rintro ⟨h1,h2,h3,h4,h5⟩
  rcases h with h | h | h | h | h
  · rw[h1]at h; cases h
  · omega
  · exact h h3
  · exact h h4
  · rw[h5]at h; cases h
theorem code_yes {b:List Int} (h1:isBytes b=true) (h2:3≤b.length) (h3:b.getD 0 0=5) (h4:b.getD 2 0=0) (h5:(addrD (b.drop 3)).2.2=true):codeFrom b=(b.getD 1 0,(addrD (b.drop 3)).1,(addrD (b.drop 3)).2.1+3,true):=if_pos ⟨h1,h2,h3,h4,h5⟩
theorem numD_no1 {s:List UInt8} (h: ¬ (1≤s.length∧s.length≤5)):numD s= -1:=if_neg fun hh=>h hh.1
theorem numD_no2 {s:List UInt8} {k:Nat} (hk:k<s.length) (h: ¬ (48≤(((s.getD k 0).toNat:Nat):Int)∧(((s.getD k 0).toNat:Nat):Int)≤57)):numD s= -1:=by
  refine if_neg fun hh=>?_
  have:=all_no (p:=digB) (d:=0) hk (by simp only[digB,decide_eq_false_iff_not]; exact h)
  rw[this]at hh
  exact absurd hh.2 (by decide)
theorem numD_yes {s:List UInt8} {k:Nat} (h:1≤s.length∧s.length≤5) (hk:s.length≤k) (ha:(s.take k).all digB=true):numF (s.take k)=numD s:=by
  unfold numD
  rw[if_pos ⟨h,all_yes hk ha⟩,List.take_of_length_le hk]
theorem digB_bd {c:UInt8} (h:digB c=true):48≤((c.toNat:Nat):Int)∧((c.toNat:Nat):Int)≤57:=of_decide_eq_true h
theorem numF_bd {s:List UInt8} (h:s.all digB=true): ∀ k,k≤s.length→0≤numF (s.take k)∧numF (s.take k)<10 ^ k
  | 0,_=>by simp[numF]
  | k+1,hk=>by
    have ih:=numF_bd h k (by omega)
    have hd:=List.all_eq_true.1 h _ (List.getElem_mem (show k<s.length by omega))
    have hg:s.getD k 0=s[k]:=by rw[List.getD_eq_getElem?_getD,List.getElem?_eq_getElem (show k<s.length by omega)]; rfl
    rw[numF_take (by omega),hg]
    have:=digB_bd hd
    rw[Int.pow_succ]
    omega
theorem itoa_inj {x z:Int} (hx:0≤x) (h:Lib.itoa z=Lib.itoa x):z=x:=by
  rcases Int.lt_or_le z 0 with hz | hz
  · exfalso
    have e:Lib.itoa z=45::Lib.decDigits z.natAbs:=by
      unfold Lib.itoa
      rw[if_pos hz]
    have:=itoa_digit hx 45 (by rw[← h,e]; exact List.mem_cons_self ..)
    revert this
    decide
  · rw[itoa_nn hz,itoa_nn hx]at h
    have:=congrArg numF h
    rw[numF_dec,numF_dec]at this
    omega
theorem quad_dec_no {s:List UInt8} {k:Nat} (hk:k<(splitB 46 s).length) (h:(decI ((splitB 46 s).getD k [])).2=false):quadFrom s=([],false):=by
  rcases Bool.eq_false_or_eq_true (quadFrom s).2 with hq | hq
  · exfalso
    obtain ⟨h1,h2⟩:=quadFrom_ok hq
    have h3:=split_quad h1
    rw[h2]at h3
    rw[h3,List.length_map]at hk
    have g:=quad_get h1 hk
    have e:((quadFrom s).1.map Lib.itoa).getD k []=Lib.itoa ((quadFrom s).1.getD k 0):=by
      simp only[List.getD_eq_getElem?_getD,List.getElem?_map,List.getElem?_eq_getElem hk,Option.map_some,Option.getD_some]
    rw[h3,e,decI_itoa ⟨g.1,by omega⟩]at h
    cases h
  · exact quadFrom_no hq
theorem map_itoa_inj: ∀ {zs qs:List Int},(∀ x∈qs,0≤x)→zs.map Lib.itoa=qs.map Lib.itoa→zs=qs
  | [],[],_,_=>rfl
  | [],_::_,_,h=>by simp at h
  | _::_,[],_,h=>by simp at h
  | z::zs,q::qs,hq,h=>by
    rw[List.map_cons,List.map_cons]at h
    have h1:=(List.cons.inj h).1
    have h2:=(List.cons.inj h).2
    rw[itoa_inj (hq q (List.mem_cons_self ..)) h1,map_itoa_inj (fun x hx=>hq x (List.mem_cons_of_mem _ hx)) h2]
theorem quad_val_no {s:List UInt8} {zs:List Int} (h:splitB 46 s=zs.map Lib.itoa) (hz:quadOk zs=false):quadFrom s=([],false):=by
  rcases Bool.eq_false_or_eq_true (quadFrom s).2 with hq | hq
  · exfalso
    obtain ⟨h1,h2⟩:=quadFrom_ok hq
    have h3:=split_quad h1
    rw[h2,h]at h3
    have:zs=(quadFrom s).1:=map_itoa_inj (fun x hx=>by
      simp only[quadOk,Bool.and_eq_true]at h1
      exact((isBytes_iff.1 h1.2).1 x hx).1) h3
    rw[this,h1]at hz
    cases hz
  · exact quadFrom_no hq
theorem dec_step {s:List UInt8} {zs:List Int} {k:Nat} (hk:k<(splitB 46 s).length) (h:(splitB 46 s).take k=zs.map Lib.itoa) (hd:(decI ((splitB 46 s).getD k [])).2=true):(splitB 46 s).take (k+1)=(zs++[(decI ((splitB 46 s).getD k [])).1]).map Lib.itoa:=by
  rw[List.take_succ_eq_append_getElem hk,List.map_append,h]
  have:=decI_ok hd
  simp only[List.map_cons,List.map_nil,this]
  rw[List.getD_eq_getElem?_getD,List.getElem?_eq_getElem hk]
  rfl
def cutA (l:List UInt8) (c:UInt8):List UInt8:=if 0≤idxB l c then l.take (idxB l c).toNat else l
def cutZ (l:List UInt8) (c:UInt8):List UInt8:=if 0≤idxB l c then l.drop ((idxB l c).toNat+1) else[]
theorem cut_app {a b:List UInt8} {c:UInt8} (h: ∀ x∈a,x≠c):idxB (a++c::b) c=(a.length:Int):=by
  refine idxB_eq (by simp) (fun j hj=>?_) ?_
  · rw[getD_appL hj,List.getD_eq_getElem?_getD,List.getElem?_eq_getElem hj]
    exact h _ (List.getElem_mem hj)
  · rw[getD_appR (Nat.le_refl _),Nat.sub_self]
    rfl
theorem cutA_app {a b:List UInt8} {c:UInt8} (h: ∀ x∈a,x≠c):cutA (a++c::b) c=a∧cutZ (a++c::b) c=b:=by
  unfold cutA cutZ
  have e:((a.length:Nat):Int).toNat=a.length:=rfl
  rw[cut_app h,if_pos (by omega),if_pos (by omega),e]
  refine⟨by simp,?_⟩
  rw[show a.length+1=(a++[c]).length by simp,show a++c::b=(a++[c])++b by simp,List.drop_left']
  rfl
theorem cut_whole {l:List UInt8} {c:UInt8} (h:0≤idxB l c):l=cutA l c++c::cutZ l c:=by
  have hs:=idxB_split h
  unfold cutA cutZ
  rw[if_pos h,if_pos h]
  have hc:=idxB_get h
  conv=>lhs; rw[← List.take_append_drop (idxB l c).toNat l]
  congr 1
  rw[List.drop_eq_getElem_cons hs.1]
  congr 1
  rw[List.getD_eq_getElem?_getD,List.getElem?_eq_getElem hs.1]at hc
  exact hc
theorem decI_nil:decI []=(0,false):=rfl
theorem addr_impl (s:List UInt8):addrFrom s=if (decI (cutZ s 58)).2=true∧aOk (addrOf (cutA s 58) (decI (cutZ s 58)).1)=true then(addrOf (cutA s 58) (decI (cutZ s 58)).1,true) else((0,[],[],0),false):=by
  rcases Bool.eq_false_or_eq_true (addrFrom s).2 with hq | hq
  · obtain ⟨h1,h2⟩:=addrFrom_ok hq
    have hf:=addrOk_fit h1
    have e:addrT (addrFrom s).1.1 (addrFrom s).1.2.1 (addrFrom s).1.2.2.1 (addrFrom s).1.2.2.2=hostT (addrFrom s).1.1 (addrFrom s).1.2.1 (addrFrom s).1.2.2.1++58::Lib.itoa (addrFrom s).1.2.2.2:=by simp[addrT,h1]
    have hc:=cutA_app (b:=Lib.itoa (addrFrom s).1.2.2.2) (no58 h1)
    rw[← e,h2]at hc
    rw[hc.1,hc.2,decI_itoa ⟨hf.1,hf.2.1⟩,addrOf_addr h1,if_pos ⟨rfl,h1⟩,← hq]
  · rw[addrFrom_no hq,if_neg]
    rintro ⟨h1,h2⟩
    rcases Int.lt_or_le (idxB s 58) 0 with hi | hi
    · have:cutZ s 58=[]:=if_neg (by omega)
      rw[this,decI_nil]at h1
      cases h1
    · have:=addr_way (cut_whole hi) (decI_ok h1) h2
      rw[this]at hq
      cases hq
theorem tk_cut {bs:List Int} {sa:Nat} {sf:Bool} {n:Int} {lo hi:Nat} (h:sf=false) (h2:sa+n.toNat≤bs.length) (hlo:lo=sa) (hhi:hi=sa+n.toNat):(bs.take hi).drop lo=tkL bs (sa,sf) n.toNat:=by
  subst hlo hhi
  rw[take_drop_sub,tkL_yes h h2]
theorem tkS_n1 {bs:List Int} {sa n:Nat} {sf:Bool} (h:sf=true):(sa,true)=tkS bs (sa,sf) n:=(tkS_no (s:=(sa,sf)) (.inl h)).symm
theorem tkS_n2 {bs:List Int} {sa n:Nat} {sf:Bool} (h:bs.length<sa+n):(sa,true)=tkS bs (sa,sf) n:=(tkS_no (s:=(sa,sf)) (.inr h)).symm
theorem tkS_y {bs:List Int} {sa n:Nat} {sf:Bool} (h:sf=false) (h2:sa+n≤bs.length):(sa+n,sf)=tkS bs (sa,sf) n:=by rw[tkS_yes (s:=(sa,sf)) h h2,h]
theorem tkL_n1 {bs:List Int} {sa n:Nat} {sf:Bool} (h:sf=true):List.replicate n 0=tkL bs (sa,sf) n:=(tkL_no (s:=(sa,sf)) (.inl h)).symm
theorem tkL_n2 {bs:List Int} {sa n:Nat} {sf:Bool} (h:bs.length<sa+n):List.replicate n 0=tkL bs (sa,sf) n:=(tkL_no (s:=(sa,sf)) (.inr h)).symm
theorem exS_no {bs:List Int} {s t:Nat×Bool} {l:List Int} (h1:t=tkS bs s l.length) (h: ¬ tkL bs s l.length=l):(t.1,true)=exS bs s l:=by
  unfold exS
  rw[if_neg h,h1]
theorem exS_y {bs:List Int} {s t:Nat×Bool} {l:List Int} (h1:t=tkS bs s l.length) (h:tkL bs s l.length=l):t=exS bs s l:=by
  unfold exS
  rw[if_pos h,h1]
theorem txV_len {bs:List Int} {s:Nat×Bool} (hv:s.2=false→isBytes bs=true):(txV bs s).length≤255:=by
  unfold txV
  rw[bT_len,tkL_len]
  have:=byV_bd hv
  omega
theorem adR_1 {bs:List Int} {s s1 s2 s3:Nat×Bool} (h1:s1=tkS bs s 1) (hk:byV bs s=1) (h2:s2=tkS bs s1 4) (h3:s3=tkS bs s2 2):adR bs s=((byV bs s,tkL bs s1 4,[],ofB (tkL bs s2 2)),if addrOk (byV bs s) (tkL bs s1 4) [] (ofB (tkL bs s2 2))=true then s3 else(s3.1,true)):=by
  subst h1 h2 h3
  have h3: ¬ byV bs s=3:=by omega
  unfold adR
  simp only[if_pos hk,if_neg h3]
theorem adR_3 {bs:List Int} {s s1 s2 s3:Nat×Bool} (h1:s1=tkS bs s 1) (hn: ¬ byV bs s=1) (hk:byV bs s=3) (h2:s2=txS bs s1) (h3:s3=tkS bs s2 2):adR bs s=((byV bs s,[],txV bs s1,ofB (tkL bs s2 2)),if addrOk (byV bs s) [] (txV bs s1) (ofB (tkL bs s2 2))=true then s3 else(s3.1,true)):=by
  subst h1 h2 h3
  unfold adR
  simp only[if_pos hk,if_neg hn]
theorem adR_0 {bs:List Int} {s s1 s3:Nat×Bool} (h1:s1=tkS bs s 1) (hn: ¬ byV bs s=1) (hk: ¬ byV bs s=3) (h3:s3=tkS bs s1 2):adR bs s=((byV bs s,[],[],ofB (tkL bs s1 2)),if addrOk (byV bs s) [] [] (ofB (tkL bs s1 2))=true then s3 else(s3.1,true)):=by
  subst h1 h3
  unfold adR
  simp only[if_neg hk,if_neg hn]
theorem hello_r {b:List Int} {s1 s2 s3:Nat×Bool} (h1:s1=exS b (0,!isBytes b) [5]) (h2:s2=tkS b s1 1) (h3:s3=tkS b s2 (byV b s1).toNat):helloFrom b=if s3.2=false∧methOk (tkL b s2 (byV b s1).toNat)=true then(tkL b s2 (byV b s1).toNat,(s3.1:Int),true) else([],0,false):=by
  subst h1 h2 h3
  exact(helloR_eq b).symm
theorem login_r {b:List Int} {s1 s2 s3:Nat×Bool} (h1:s1=exS b (0,!isBytes b) [1]) (h2:s2=txS b s1) (h3:s3=txS b s2):loginFrom b=if s3.2=false∧loginOk (txV b s1) (txV b s2)=true then((txV b s1,txV b s2),(s3.1:Int),true) else(([],[]),0,false):=by
  subst h1 h2 h3
  exact(loginR_eq b).symm
theorem code_r {b:List Int} {s1 s2 s3 s4:Nat×Bool} (h1:s1=exS b (0,!isBytes b) [5]) (h2:s2=tkS b s1 1) (h3:s3=exS b s2 [0]) (h4:s4=(adR b s3).2):codeR b=(byV b s1,(adR b s3).1,(s4.1:Int),!s4.2):=by
  subst h1 h2 h3 h4
  rfl
theorem req_code {b:List Int}:reqFrom b=if (codeR b).2.2.2=true∧reqOk (codeR b).1 (codeR b).2.1.1 (codeR b).2.1.2.1 (codeR b).2.1.2.2.1 (codeR b).2.1.2.2.2=true then(((codeR b).1,(codeR b).2.1),(codeR b).2.2.1,true) else((0,(0,[],[],0)),0,false):=by
  have h:=codeR_eq b
  unfold reqFrom
  rcases Bool.eq_false_or_eq_true (codeFrom b).2.2.2 with hc | hc
  · have he:=h.2 hc
    rw[he]
    have hok:=(codeFrom_ok hc).1
    by_cases h3:1≤(codeFrom b).1∧(codeFrom b).1≤3
    · rw[if_pos ⟨hc,h3⟩,if_pos ⟨hc,by unfold reqOk; rw[decide_eq_true h3]; exact hok⟩]
    · rw[if_neg (fun hh=>h3 hh.2),if_neg]
      rintro ⟨_,hr⟩
      simp only[reqOk,Bool.and_eq_true,decide_eq_true_eq]at hr
      exact h3 hr.1
  · rw[if_neg (by rw[hc]; simp),if_neg (by rw[← h.1,hc]; simp)]
theorem adR_nm {b:List Int} {s:Nat×Bool} (hv:s.2=false→isBytes b=true):(adR b s).1.2.2.1.length≤255:=by
  unfold adR
  simp only
  split
  · refine txV_len fun h=>hv ?_
    exact(tkS_ok h).1
  · simp
theorem codeR_nm (b:List Int):(codeR b).2.1.2.2.1.length≤255:=by
  unfold codeR
  refine adR_nm fun h=>?_
  have h1:=(tkS_ok (exS_ok h).1).1
  exact not_iff.1 (exS_ok h1).1
theorem cut_2 {b:List Int} {i:Int} (h:0≤i):(b.take (2+i).toNat).drop 2=(b.drop 2).take i.toNat:=cut_b (k:=2) h
theorem hello_n {b:List Int} (h:isBytes b=false∨b.length<3∨b.getD 0 0≠5∨(b.length:Int)-2<b.getD 1 0∨(isBytes b=true∧3≤b.length∧methOk ((b.take (2+b.getD 1 0).toNat).drop 2)=false)):helloFrom b=([],0,false):=by
  refine hello_no fun⟨h1,h2,h3,h4,h5⟩=>?_
  rcases h with h | h | h | h | h
  · rw[h1]at h; cases h
  · omega
  · exact h h3
  · omega
  · have hb:=isBytes_get h1 (k:=1) (by omega)
    rw[cut_2 hb.1,h5]at h
    cases h.2.2
theorem hello_y {b:List Int} (h1:isBytes b=true) (h2:3≤b.length) (h3:b.getD 0 0=5) (h4:b.getD 1 0≤(b.length:Int)-2) (h5:methOk ((b.take (2+b.getD 1 0).toNat).drop 2)=true):helloFrom b=((b.take (2+b.getD 1 0).toNat).drop 2,2+(((b.take (2+b.getD 1 0).toNat).drop 2).length:Int),true):=by
  have hb:=isBytes_get h1 (k:=1) (by omega)
  exact hello_yes h1 h2 h3 h4 (cut_2 hb.1) h5 rfl
theorem fits_yes {lg:List Lg} {u w:List UInt8} {k:Nat} (hk:k<lg.length) (h:lg.getD k login0=(u,w)) (hok:loginOk u w=true):true=fitsL lg u w:=by
  unfold fitsL
  rw[hok,decide_eq_true]
  · rfl
  · rw[← h]
    exact getD_mem' hk
theorem fits_no1 {lg:List Lg} {u w:List UInt8} (h:loginOk u w=false):false=fitsL lg u w:=by
  unfold fitsL
  rw[h]
  rfl
theorem fits_no2 {lg:List Lg} {u w:List UInt8} {k:Nat} (hk:lg.length≤k) (hn: ∀ j,j<k→ ¬ lg.getD j login0=(u,w)):false=fitsL lg u w:=by
  unfold fitsL
  rw[decide_eq_false,Bool.and_false]
  intro hm
  obtain ⟨j,hj,he⟩:=List.getElem_of_mem hm
  refine hn j (by omega) ?_
  rw[List.getD_eq_getElem?_getD,List.getElem?_eq_getElem hj]
  exact he
theorem pair_eq {x:Lg} {u w:List UInt8} (h:x.1=u∧x.2=w):x=(u,w):=by rw[← h.1,← h.2]
theorem ne_true {b:Bool} (h:b=false): ¬ b=true:=by rw[h]; decide
theorem take_drop2 {b:List Int} {i:Int} (h:4≤i):(b.take i.toNat).drop (i-2).toNat=(b.drop (i.toNat-2)).take 2:=by
  rw[show (i-2).toNat=i.toNat-2 by omega]
  have:=take_drop_sub b (i.toNat-2) 2
  rw[show i.toNat-2+2=i.toNat by omega]at this
  exact this
theorem take_drop3 {b:List Int} {i:Int} (h:4≤i):(b.take (i-2).toNat).drop 2=(b.drop 2).take (i.toNat-4):=by
  rw[show (i-2).toNat=2+(i.toNat-4) by omega,take_drop_sub]
theorem addrD_q {b:List Int} (h1:isBytes b=true) (h2:0≤szA b) (h3:szA b≤b.length) (hk:b.getD 0 0=1) (hok:addrOk (b.getD 0 0) ((b.take 5).drop 1) [] (ofB ((b.take (szA b).toNat).drop (szA b-2).toNat))=true):addrD b=((b.getD 0 0,(b.take 5).drop 1,[],ofB ((b.take (szA b).toNat).drop (szA b-2).toNat)),szA b,true):=by
  have hz:=(szA_bd h1).2 h2
  rw[addrD_eq (q:=(b.take 5).drop 1) (nm:=[]) (p:=ofB ((b.take (szA b).toNat).drop (szA b-2).toNat)) h1 h2 h3 (by rw[if_pos hk]; exact take_drop_sub b 1 4) (by rw[if_pos hk]) (by rw[take_drop2 hz]),if_pos hok]
theorem addrD_qn {b:List Int} (h1:isBytes b=true) (h2:0≤szA b) (h3:szA b≤b.length) (hk:b.getD 0 0=1) (hok:addrOk (b.getD 0 0) ((b.take 5).drop 1) [] (ofB ((b.take (szA b).toNat).drop (szA b-2).toNat))=false):addrD b=((0,[],[],0),0,false):=by
  have hz:=(szA_bd h1).2 h2
  rw[addrD_eq (q:=(b.take 5).drop 1) (nm:=[]) (p:=ofB ((b.take (szA b).toNat).drop (szA b-2).toNat)) h1 h2 h3 (by rw[if_pos hk]; exact take_drop_sub b 1 4) (by rw[if_pos hk]) (by rw[take_drop2 hz]),if_neg (ne_true hok)]
theorem addrD_n {b:List Int} (h1:isBytes b=true) (h2:0≤szA b) (h3:szA b≤b.length) (hk: ¬ b.getD 0 0=1) (hok:addrOk (b.getD 0 0) [] (bT ((b.take (szA b-2).toNat).drop 2)) (ofB ((b.take (szA b).toNat).drop (szA b-2).toNat))=true):addrD b=((b.getD 0 0,[],bT ((b.take (szA b-2).toNat).drop 2),ofB ((b.take (szA b).toNat).drop (szA b-2).toNat)),szA b,true):=by
  have hz:=(szA_bd h1).2 h2
  rw[addrD_eq (q:=[]) (nm:=bT ((b.take (szA b-2).toNat).drop 2)) (p:=ofB ((b.take (szA b).toNat).drop (szA b-2).toNat)) h1 h2 h3 (by rw[if_neg hk]) (by rw[if_neg hk,take_drop3 hz]) (by rw[take_drop2 hz]),if_pos hok]
theorem addrD_nn {b:List Int} (h1:isBytes b=true) (h2:0≤szA b) (h3:szA b≤b.length) (hk: ¬ b.getD 0 0=1) (hok:addrOk (b.getD 0 0) [] (bT ((b.take (szA b-2).toNat).drop 2)) (ofB ((b.take (szA b).toNat).drop (szA b-2).toNat))=false):addrD b=((0,[],[],0),0,false):=by
  have hz:=(szA_bd h1).2 h2
  rw[addrD_eq (q:=[]) (nm:=bT ((b.take (szA b-2).toNat).drop 2)) (p:=ofB ((b.take (szA b).toNat).drop (szA b-2).toNat)) h1 h2 h3 (by rw[if_neg hk]) (by rw[if_neg hk,take_drop3 hz]) (by rw[take_drop2 hz]),if_neg (ne_true hok)]
theorem szA_7 {b:List Int} (h:b.getD 0 0=1) (h0:0≤szA b):szA b=7:=by
  unfold szA at*
  split
  · rfl
  · rename_i hn
    rw[if_neg hn]at h0
    split
    · omega
    · rename_i hn2
      rw[if_neg hn2]at h0
      omega
theorem decI_eq (s:List UInt8):(decI s).1=(atoiR s).1∧(decI s).2=(!(atoiR s).2 && decide (Lib.itoa (atoiR s).1=s)):=by
  unfold decI atoiR
  split <;> simp_all
theorem cutA_len (l:List UInt8) (c:UInt8):(cutA l c).length≤l.length:=by
  unfold cutA
  split <;> simp
  omega
theorem cutZ_len (l:List UInt8) (c:UInt8):(cutZ l c).length≤l.length:=by
  unfold cutZ
  split <;> simp
theorem numF_bd2 {s:List UInt8} {k:Nat} (h:(s.take k).all digB=true) (hk:k≤5):0≤numF (s.take k)∧numF (s.take k)≤99999:=by
  have:=numF_bd h (s.take k).length (Nat.le_refl _)
  rw[List.take_length,List.length_take]at this
  have hl:min k s.length=0∨min k s.length=1∨min k s.length=2∨min k s.length=3∨min k s.length=4∨min k s.length=5:=by omega
  rcases hl with hl | hl | hl | hl | hl | hl <;> rw[hl]at this <;> simp at this <;> omega
theorem quadD_len (s:List UInt8):(quadD s).length=(splitB 46 s).length:=by simp[quadD]
theorem quadD_app {s:List UInt8} {k:Nat} (h:k<(splitB 46 s).length):(quadD s).take k++[numD ((splitB 46 s).getD k [])]=(quadD s).take (k+1):=by
  rw[List.take_succ_eq_append_getElem (by rw[quadD_len]; exact h)]
  congr 1
  simp[quadD,List.getD_eq_getElem?_getD,List.getElem?_eq_getElem h]
theorem quadD_all {s:List UInt8} {k:Nat} (h:(splitB 46 s).length≤k):(quadD s).take k=quadD s:=List.take_of_length_le (by rw[quadD_len]; exact h)
theorem quadT_ne {q:List Int} (h:quadOk q=true):quadT q≠[]:=by
  rw[quadT_eq (quadOk_len h)]
  simp
def quadQ (q:List Int):List UInt8:=if quadOk q then quadT q else[]
theorem quad_s1 {s:List UInt8} (h: ¬ quadQ (quadD s)≠s) (hs: ¬ s=[]):quadFrom s=(quadD s,true):=by
  have h':=Decidable.not_not.1 h
  unfold quadFrom
  unfold quadQ at h'
  split at h'
  · rename_i hq
    rw[if_pos ⟨hq,h'⟩]
  · exact absurd h'.symm hs
theorem quad_s2 {s:List UInt8} (h: ¬ (quadQ (quadD s)=s∧ ¬ s=[])):quadFrom s=([],false):=by
  unfold quadFrom
  refine if_neg fun hq=>h ?_
  unfold quadQ
  rw[if_pos hq.1]
  refine⟨hq.2,fun he=>?_⟩
  have:=quadT_ne hq.1
  rw[hq.2]at this
  exact this he
theorem addrOf_len (s:List UInt8) (n:Int):(addrOf s n).2.2.1.length≤s.length:=by
  unfold addrOf
  split <;> simp
theorem addr_s0 {s:List UInt8} (h:(((splitB 58 s).length:Nat):Int)≠2):addrFrom s=((0,[],[],0),false):=by
  unfold addrFrom
  simp only
  exact if_neg fun hh=>h (by omega)
theorem addr_s1 {s:List UInt8} (h:addrOk (addrOf ((splitB 58 s).getD 0 []) (numD ((splitB 58 s).getD 1 []))).1 (addrOf ((splitB 58 s).getD 0 []) (numD ((splitB 58 s).getD 1 []))).2.1 (addrOf ((splitB 58 s).getD 0 []) (numD ((splitB 58 s).getD 1 []))).2.2.1 (addrOf ((splitB 58 s).getD 0 []) (numD ((splitB 58 s).getD 1 []))).2.2.2=false):addrFrom s=((0,[],[],0),false):=by
  unfold addrFrom
  simp only
  exact if_neg fun hh=>by rw[h]at hh; exact absurd hh.2.1 (by decide)
theorem addr_s2 {s:List UInt8} (h:addrT (addrOf ((splitB 58 s).getD 0 []) (numD ((splitB 58 s).getD 1 []))).1 (addrOf ((splitB 58 s).getD 0 []) (numD ((splitB 58 s).getD 1 []))).2.1 (addrOf ((splitB 58 s).getD 0 []) (numD ((splitB 58 s).getD 1 []))).2.2.1 (addrOf ((splitB 58 s).getD 0 []) (numD ((splitB 58 s).getD 1 []))).2.2.2≠s):addrFrom s=((0,[],[],0),false):=by
  unfold addrFrom
  simp only
  exact if_neg fun hh=>h hh.2.2
theorem addr_sy {s:List UInt8} (h0: ¬ (((splitB 58 s).length:Nat):Int)≠2) (h1:addrOk (addrOf ((splitB 58 s).getD 0 []) (numD ((splitB 58 s).getD 1 []))).1 (addrOf ((splitB 58 s).getD 0 []) (numD ((splitB 58 s).getD 1 []))).2.1 (addrOf ((splitB 58 s).getD 0 []) (numD ((splitB 58 s).getD 1 []))).2.2.1 (addrOf ((splitB 58 s).getD 0 []) (numD ((splitB 58 s).getD 1 []))).2.2.2=true)
    (h: ¬ addrT (addrOf ((splitB 58 s).getD 0 []) (numD ((splitB 58 s).getD 1 []))).1 (addrOf ((splitB 58 s).getD 0 []) (numD ((splitB 58 s).getD 1 []))).2.1 (addrOf ((splitB 58 s).getD 0 []) (numD ((splitB 58 s).getD 1 []))).2.2.1 (addrOf ((splitB 58 s).getD 0 []) (numD ((splitB 58 s).getD 1 []))).2.2.2≠s):addrFrom s=(addrOf ((splitB 58 s).getD 0 []) (numD ((splitB 58 s).getD 1 [])),true):=by
  unfold addrFrom
  simp only
  exact if_pos ⟨by omega,h1,Decidable.not_not.1 h⟩
def markLg (k0:Int) (n:Nat):List Lg:=(List.range n).map fun i=>(markT (k0+2*((i:Nat):Int)),markT (k0+2*((i:Nat):Int)+1))
@[simp] theorem markLg_len (k0:Int) (n:Nat):(markLg k0 n).length=n:=by simp[markLg]
theorem talkSay_lg {st:Int} {wt:List Int} {lg:List Lg} {to:List UInt8} {b:List Int}: ∀ u∈(talkSay st wt lg to b).1.2.2.1,u∈lg:=by
  unfold talkSay
  split
  · split
    · exact fun u h=>h
    · split <;> exact fun u h=>h
  · simp
theorem talkSay_to (st:Int) (wt:List Int) (lg:List Lg) (to:List UInt8) (b:List Int):(talkSay st wt lg to b).1.2.2.2.length≤42:=by
  unfold talkSay
  split
  · split
    · simp
    · split
      · simp
      · simp only
        unfold sayReq
        simp only
        split
        · split
          · exact addrT_len _ _ _ _
          · simp
        · simp
  · simp
theorem lg_ext {a b:Lg} (h:a.1=b.1∧a.2=b.2):a=b:=Prod.ext h.1 h.2
theorem tS_up {s:Int} {w:List Int} {l:List Lg} {to:List UInt8} {b:List Int} (h:(talkSay s w l to b).2.2=true):0≤s∧s≤2∧s+1≤(talkSay s w l to b).1.1:=by
  unfold talkSay at*
  split at h
  · rename_i hc
    have hp:=(talkOk_parts hc.1).1
    rw[if_pos hc]
    refine⟨hp.1,by omega,?_⟩
    split
    · unfold sayHello
      simp only
      split
      · simp only
        split
        · omega
        · split <;> omega
      · simp only; omega
    · split
      · unfold sayLogin
        simp only
        split
        · split <;> simp only <;> omega
        · simp only; omega
      · unfold sayReq
        simp only
        split
        · split <;> simp only <;> omega
        · simp only; omega
  · cases h
theorem say_hi {ms:List Int} {u w:List UInt8} {k:Int} {q:List Int} {nm:List UInt8} {p n:Int} (h:3≤n):(sayP ms u w k q nm p n).2=false:=by
  unfold sayP
  split
  · rw[if_neg (by omega),if_neg (by omega),if_neg (by omega)]
  · rfl
theorem cl_y {c:Cl} {t:T4} (h1:clientOk c.ms c.lu c.lw c.ak c.aq c.an c.apt=true) (h2:talkOk t.1 t.2.1 t.2.2.1 t.2.2.2=true):clRun c t=(runT c 3 t,true):=if_pos ⟨h1,h2⟩
theorem cl_n {c:Cl} {t:T4} (h:clientOk c.ms c.lu c.lw c.ak c.aq c.an c.apt=false∨talkOk t.1 t.2.1 t.2.2.1 t.2.2.2=false):clRun c t=((0,[],[],[]),false):=by
  refine if_neg fun hh=>?_
  rcases h with h | h
  · rw[h]at hh; exact absurd hh.1 (by decide)
  · rw[h]at hh; exact absurd hh.2 (by decide)
theorem runT_fit {c:Cl} {lg:List Lg}: ∀ (n:Nat) (t:T4),(t.2.1.length≤8∧t.2.2.1.length≤4∧ ∀ u∈t.2.2.1,u∈lg)→((runT c n t).2.1.length≤8∧(runT c n t).2.2.1.length≤4∧ ∀ u∈(runT c n t).2.2.1,u∈lg)
  | 0,t,h=>h
  | n+1,t,h=>by
    unfold runT
    split
    · rename_i t' ht
      refine runT_fit n t' ?_
      unfold stepT at ht
      split at ht
      · have:=Option.some.inj ht
        subst this
        have hl:=talkSay_len t.1 t.2.1 t.2.2.1 t.2.2.2 (sayC c t.1).1
        exact⟨hl.1,hl.2.1,fun u hu=>h.2.2 u (talkSay_lg u hu)⟩
      · cases ht
    · exact h
theorem clRun_fit (c:Cl) (t:T4):(clRun c t).1.2.1.length≤8∧(clRun c t).1.2.2.1.length≤4∧ ∀ u∈(clRun c t).1.2.2.1,u∈t.2.2.1:=by
  unfold clRun
  split
  · rename_i h
    have hp:=talkOk_parts h.2
    have hm:=methOk_len hp.2.1
    exact runT_fit 3 t ⟨hm.2,hp.2.2.1,fun u hu=>hu⟩
  · simp
theorem four_len3 (i:Nat):(Z8.getD i []).length≤2:=by
  match i with
  | 0=>decide
  | 1=>decide
  | 2=>decide
  | 3=>decide
  | n+4=>simp
theorem three_len (i:Nat):(Z3.getD i []).length≤2:=by
  match i with
  | 0=>decide
  | 1=>decide
  | 2=>decide
  | n+3=>simp
theorem talkNew_fit {wt:List Int} {lg:List Lg}:(talkNew wt lg).1.2.1.length≤wt.length∧(talkNew wt lg).1.2.2.1.length≤lg.length∧(talkNew wt lg).1.2.2.2.length≤42∧ ∀ u∈(talkNew wt lg).1.2.2.1,u∈lg:=by
  unfold talkNew
  split <;> simp
theorem lgs2: ∀ u∈([([97,110,110],[97,98,99]),([98,111,98],[57])]:List Lg),u.1.length≤5∧u.2.length≤5:=by decide
theorem lgs1: ∀ u∈([([97,110,110],[97,98,99])]:List Lg),u.1.length≤5∧u.2.length≤5:=by decide
theorem lg_R {l:List Lg} (h: ∀ u∈l,u.1.length≤5∧u.2.length≤5): ∀ u∈l,u.1.length≤9223372036854775807∧u.2.length≤9223372036854775807:=fun u hu=>by
  have:=h u hu
  exact⟨by omega,by omega⟩
theorem bT_textI (s:List UInt8):bT (textI s)=s:=by
  simp[bT,textI,Function.comp_def]
theorem textI_bd (s:List UInt8): ∀ x∈textI s,0≤x∧x≤255:=by
  intro x hx
  simp only[textI,List.mem_map]at hx
  obtain ⟨c,_,rfl⟩:=hx
  have:=c.toNat_lt
  omega
theorem hello_rt {ms:List Int} (h:methOk ms=true):helloFrom ([5,((ms.length:Nat):Int)]++ms)=(ms,2+((ms.length:Nat):Int),true):=by
  have hl:=methOk_len h
  have hm: ∀ x∈ms,0≤x∧x≤254:=(of_decide_eq_true h).1
  have hd:(([5,((ms.length:Nat):Int)]++ms).drop 2).take (([5,((ms.length:Nat):Int)]++ms).getD 1 0).toNat=ms:=by simp
  unfold helloFrom
  rw[hd,if_pos]
  · simp
  · refine⟨isBytes_iff.2 ⟨?_,by simp; omega⟩,by simp; omega,by simp,by simp; omega,h⟩
    intro x hx
    simp only[List.cons_append,List.nil_append,List.mem_cons]at hx
    rcases hx with rfl | rfl | hx
    · omega
    · omega
    · have:=hm x hx
      omega
theorem login_rt {u w:List UInt8} (h:loginOk u w=true):loginFrom ([1,((u.length:Nat):Int)]++textI u++[((w.length:Nat):Int)]++textI w)=((u,w),((([1,((u.length:Nat):Int)]++textI u++[((w.length:Nat):Int)]++textI w).length:Nat):Int),true):=by
  have hf:=loginOk_fit h
  have hn:=loginOk_ne h
  have hb:[1,((u.length:Nat):Int)]++textI u++[((w.length:Nat):Int)]++textI w=1::((u.length:Nat):Int)::(textI u++((w.length:Nat):Int)::textI w):=by simp
  rw[hb]
  have g1:(1::((u.length:Nat):Int)::(textI u++((w.length:Nat):Int)::textI w)).getD 1 0=((u.length:Nat):Int):=rfl
  have e1:2+(((u.length:Nat):Int)).toNat=u.length+2:=by omega
  have g2:(1::((u.length:Nat):Int)::(textI u++((w.length:Nat):Int)::textI w)).getD (u.length+2) 0=((w.length:Nat):Int):=by
    simp[List.getD_eq_getElem?_getD,textI_len]
  have l1:(1::((u.length:Nat):Int)::(textI u++((w.length:Nat):Int)::textI w)).length=u.length+2+1+w.length:=by simp[textI_len]; omega
  have g3:((1::((u.length:Nat):Int)::(textI u++((w.length:Nat):Int)::textI w)).take (u.length+2)).drop 2=textI u:=by
    simp only[List.take_succ_cons,List.drop_succ_cons,List.drop_zero]
    rw[List.take_append_of_le_length (by rw[textI_len]; omega),List.take_of_length_le (by rw[textI_len]; omega)]
  have g4:((1::((u.length:Nat):Int)::(textI u++((w.length:Nat):Int)::textI w)).take (u.length+2+1+w.length)).drop (u.length+2+1)=textI w:=by
    rw[List.take_of_length_le (by omega)]
    simp only[List.drop_succ_cons]
    have e:u.length+1=(textI u).length+1:=by rw[textI_len]
    rw[e,List.drop_append,List.drop_eq_nil_of_le (by omega),Nat.add_sub_cancel_left]
    rfl
  have e2:(((w.length:Nat):Int)).toNat=w.length:=by omega
  unfold loginFrom
  simp only[g1,e1,g2,e2,g3,g4,bT_textI]
  rw[if_pos,l1]
  refine⟨isBytes_iff.2 ⟨?_,by omega⟩,by omega,rfl,by omega,by omega,h⟩
  intro x hx
  simp only[List.mem_cons,List.mem_append]at hx
  rcases hx with rfl | rfl | hx | rfl | hx
  · omega
  · omega
  · exact textI_bd u x hx
  · omega
  · exact textI_bd w x hx
theorem ofB2 {p:Int} (h:0≤p∧p≤65535):ofB [p / 256 % 256,p % 256]=p:=by
  simp only[ofB,List.foldl]
  omega
theorem addr_rt {k:Int} {q:List Int} {nm:List UInt8} {p:Int} (h:addrOk k q nm p=true):addrD (addrB k q nm p)=((k,q,nm,p),(((addrB k q nm p).length:Nat):Int),true):=by
  have hlen:=addrB_len h
  by_cases h1:k=1
  · subst h1
    have h':=h
    rw[addr1]at h'
    simp only[Bool.and_eq_true,decide_eq_true_eq]at h'
    obtain ⟨hp,hq,hnm⟩:=h'
    subst hnm
    have hl:=quadOk_len hq
    have hbq:isBytes q=true:=by simp only[quadOk,Bool.and_eq_true]at hq; exact hq.2
    have hbm:=(isBytes_iff.1 hbq).1
    match q,hl,hbm,h with
    | [a,b,c,d],_,hbm,h=>
      have e:addrB 1 [a,b,c,d] [] p=[1,a,b,c,d,p / 256 % 256,p % 256]:=rfl
      rw[e]
      have hv:addrV [1,a,b,c,d,p / 256 % 256,p % 256] 7=(1,[a,b,c,d],[],p):=by
        have:=ofB2 hp
        simp only[addrV,List.getD_cons_zero,if_true,List.drop,List.take,this]
      have hs:szA [1,a,b,c,d,p / 256 % 256,p % 256]=7:=rfl
      unfold addrD
      rw[hs]
      have e7:(7:Int).toNat=7:=rfl
      rw[e7,hv,if_pos]
      · rfl
      · refine⟨isBytes_iff.2 ⟨?_,by simp⟩,by omega,by simp,h⟩
        intro x hx
        simp only[List.mem_cons,List.not_mem_nil,or_false]at hx hbm
        rcases hx with rfl | rfl | rfl | rfl | rfl | rfl | rfl
        · omega
        · exact hbm _ (.inl rfl)
        · exact hbm _ (.inr (.inl rfl))
        · exact hbm _ (.inr (.inr (.inl rfl)))
        · exact hbm _ (.inr (.inr (.inr rfl)))
        · omega
        · omega
  · by_cases h3:k=3
    · subst h3
      have h':=h
      rw[addr3]at h'
      simp only[Bool.and_eq_true,decide_eq_true_eq]at h'
      obtain ⟨hp,hn,hq⟩:=h'
      subst hq
      have hnl:=nameOk_len hn
      have e:addrB 3 [] nm p=3::((nm.length:Nat):Int)::(textI nm++[p / 256 % 256,p % 256]):=rfl
      rw[e]
      have hs:szA (3::((nm.length:Nat):Int)::(textI nm++[p / 256 % 256,p % 256]))=((nm.length+4:Nat):Int):=by
        unfold szA
        rw[if_neg (by simp),if_pos (by simp)]
        show 4+((nm.length:Nat):Int)=_
        omega
      have hl:(3::((nm.length:Nat):Int)::(textI nm++[p / 256 % 256,p % 256])).length=nm.length+4:=by simp[textI_len]
      have hv:addrV (3::((nm.length:Nat):Int)::(textI nm++[p / 256 % 256,p % 256])) (nm.length+4)=(3,[],nm,p):=by
        have g0:(3::((nm.length:Nat):Int)::(textI nm++[p / 256 % 256,p % 256])).getD 0 0=3:=rfl
        have e1:nm.length+4-4=(textI nm).length:=by rw[textI_len]; omega
        have e2:nm.length+4-2=(textI nm).length+2:=by rw[textI_len]; omega
        unfold addrV
        rw[g0,e1,e2]
        simp only[List.drop_succ_cons,List.drop_zero,List.take_left,List.drop_left,bT_textI]
        have:=ofB2 hp
        simp[this]
      unfold addrD
      rw[hs]
      have e7:(((nm.length+4:Nat):Int)).toNat=nm.length+4:=by omega
      rw[e7,hv,hl,if_pos]
      refine⟨isBytes_iff.2 ⟨?_,by omega⟩,by omega,by omega,h⟩
      intro x hx
      simp only[List.mem_cons,List.mem_append,List.not_mem_nil,or_false]at hx
      rcases hx with rfl | rfl | hx | rfl | rfl
      · omega
      · omega
      · exact textI_bd nm x hx
      · omega
      · omega
    · rw[addr_no _ _ _ h1 h3]at h
      cases h
theorem addrB_bytes {k:Int} {q:List Int} {nm:List UInt8} {p:Int} (h:addrOk k q nm p=true):isBytes (addrB k q nm p)=true:=by
  have:=addr_rt h
  unfold addrD at this
  split at this
  · rename_i hc
    exact hc.1
  · have:=congrArg (fun x=>x.2.2) this
    cases this
theorem req_rt {c k:Int} {q:List Int} {nm:List UInt8} {p:Int} (h:reqOk c k q nm p=true):isBytes ([5,c,0]++addrB k q nm p)=true∧reqFrom ([5,c,0]++addrB k q nm p)=((c,(k,q,nm,p)),((([5,c,0]++addrB k q nm p).length:Nat):Int),true):=by
  simp only[reqOk,Bool.and_eq_true,decide_eq_true_eq]at h
  have hb:=addrB_bytes h.2
  have hl:=addrB_len h.2
  have hB:isBytes ([5,c,0]++addrB k q nm p)=true:=by
    refine isBytes_iff.2 ⟨?_,by simp; omega⟩
    intro x hx
    simp only[List.cons_append,List.nil_append,List.mem_cons]at hx
    rcases hx with rfl | rfl | rfl | hx
    · omega
    · omega
    · omega
    · exact(isBytes_iff.1 hb).1 x hx
  have hr:=addr_rt h.2
  have hd:([5,c,0]++addrB k q nm p).drop 3=addrB k q nm p:=rfl
  have hc:codeFrom ([5,c,0]++addrB k q nm p)=(c,(k,q,nm,p),((([5,c,0]++addrB k q nm p).length:Nat):Int),true):=by
    unfold codeFrom
    rw[hd,hr,if_pos ⟨hB,by simp,rfl,rfl,rfl⟩]
    refine Prod.ext rfl (Prod.ext rfl (Prod.ext ?_ rfl))
    simp
    omega
  refine⟨hB,?_⟩
  unfold reqFrom
  rw[hc,if_pos ⟨rfl,h.1⟩]
theorem pick_in {wt ms:List Int} (h:helloPick wt ms≠255):helloPick wt ms∈wt∧helloPick wt ms∈ms:=by
  unfold helloPick at*
  split at h
  · rename_i hc
    rw[if_pos hc]
    split at h
    · rename_i m hm
      have h1:=List.mem_of_find?_eq_some hm
      have h2:=List.find?_some hm
      exact⟨h1,of_decide_eq_true h2⟩
    · exact absurd rfl h
  · exact absurd rfl h
theorem tS_ok {s:Int} {w:List Int} {l:List Lg} {to:List UInt8} {b:List Int} (h:(talkSay s w l to b).2.2=true):talkOk (talkSay s w l to b).1.1 (talkSay s w l to b).1.2.1 (talkSay s w l to b).1.2.2.1 (talkSay s w l to b).1.2.2.2=true:=by
  unfold talkSay at*
  split at h
  · rename_i hc
    rw[if_pos hc]
    have hp:=talkOk_parts hc.1
    have mk: ∀ s',(0≤s'∧s'≤4)→(s'=1→2∈w)→ ¬ s'=3→talkOk s' w l []=true:=fun s' h0 h1 h3=>by
      unfold talkOk
      rw[decide_eq_true h0,hp.2.1,decide_eq_true hp.2.2.1,hp.2.2.2.1,hp.2.2.2.2.1,if_neg h3]
      by_cases hs:s'=1
      · simp[hs,h1 hs]
      · simp[hs]
    split
    · unfold sayHello
      split
      · simp only
        split
        · exact mk _ (by omega) (by omega) (by omega)
        · split
          · rename_i _ h2
            refine mk _ (by omega) (fun _=>?_) (by omega)
            have:=pick_in (wt:=w) (ms:=(helloFrom b).1) (by omega)
            rw[h2]at this
            exact this.1
          · exact mk _ (by omega) (by omega) (by omega)
      · exact mk _ (by simp) (by simp) (by simp)
    · split
      · unfold sayLogin
        split
        · split
          · exact mk _ (by simp) (by simp) (by simp)
          · exact mk _ (by simp) (by simp) (by simp)
        · exact mk _ (by simp) (by simp) (by simp)
      · unfold sayReq
        simp only
        split
        · rename_i hr
          have ha:=(reqFrom_ok hr.1).1
          split
          · simp only
            unfold talkOk
            rw[hp.2.1,decide_eq_true hp.2.2.1,hp.2.2.2.1,hp.2.2.2.2.1,if_pos rfl,addrFrom_addr ha]
            simp
          · exact mk _ (by simp) (by simp) (by simp)
        · exact mk _ (by simp) (by simp) (by simp)
  · cases h
section
variable {c:Cl} {t:T4} (hc:clientOk c.ms c.lu c.lw c.ak c.aq c.an c.apt=true) (ht:talkOk t.1 t.2.1 t.2.2.1 t.2.2.2=true)
include hc ht
theorem step0 (h:t.1=0):stepT c t=some (if helloPick t.2.1 c.ms=0 then 2 else if helloPick t.2.1 c.ms=2 then 1 else 4,t.2.1,t.2.2.1,[]):=by
  have hm:=(clientOk_fit hc).1
  have hl:=methOk_len hm
  have hmm: ∀ x∈c.ms,0≤x∧x≤254:=(of_decide_eq_true hm).1
  have e:sayC c t.1=([5,((c.ms.length:Nat):Int)]++c.ms,true):=by
    show sayP _ _ _ _ _ _ _ _=_
    unfold sayP helloP
    rw[if_pos hc,if_pos h,if_pos hm]
  have hr:=hello_rt hm
  have hB:isBytes ([5,((c.ms.length:Nat):Int)]++c.ms)=true:=by
    have h1:(helloFrom ([5,((c.ms.length:Nat):Int)]++c.ms)).2.2=true:=by rw[hr]
    exact(helloFrom_ok h1).1
  have e2:tS t (sayC c t.1).1=((if helloPick t.2.1 c.ms=0 then 2 else if helloPick t.2.1 c.ms=2 then 1 else 4,t.2.1,t.2.2.1,[]),[5,helloPick t.2.1 c.ms],true):=by
    rw[e]
    show talkSay _ _ _ _ _=_
    rw[talkSay_0n ht hB h]
    unfold sayHello
    rw[hr,if_pos ⟨rfl,by simp; omega⟩]
  exact step_y (by rw[e]) (by rw[e2]) (by rw[e2])
omit ht in
theorem step1n (h:t.1=1) (hw:loginOk c.lu c.lw=false):stepT c t=none:=by
  refine step_no1 ?_
  show (sayP _ _ _ _ _ _ _ _).2=_
  unfold sayP loginP
  rw[if_pos hc,if_neg (by omega),if_pos h,hw]
  rfl
theorem step1 (h:t.1=1) (hw:loginOk c.lu c.lw=true):stepT c t=some (if (c.lu,c.lw)∈t.2.2.1 then 2 else 4,t.2.1,t.2.2.1,[]):=by
  have e:sayC c t.1=([1,((c.lu.length:Nat):Int)]++textI c.lu++[((c.lw.length:Nat):Int)]++textI c.lw,true):=by
    show sayP _ _ _ _ _ _ _ _=_
    unfold sayP loginP
    rw[if_pos hc,if_neg (by omega),if_pos h,if_pos hw]
  have hr:=login_rt hw
  have hB:isBytes ([1,((c.lu.length:Nat):Int)]++textI c.lu++[((c.lw.length:Nat):Int)]++textI c.lw)=true:=by
    refine(loginFrom_ok ?_).1
    rw[hr]
  have hg:fitsL t.2.2.1 c.lu c.lw=decide ((c.lu,c.lw)∈t.2.2.1):=by unfold fitsL; rw[hw]; rfl
  have e2:(tS t (sayC c t.1).1).1=(if (c.lu,c.lw)∈t.2.2.1 then 2 else 4,t.2.1,t.2.2.1,[])∧(tS t (sayC c t.1).1).2.2=true:=by
    rw[e]
    show (talkSay _ _ _ _ _).1=_∧(talkSay _ _ _ _ _).2.2=_
    rw[talkSay_1n ht hB h,sayL_eq (by rw[hr]) (by rw[hr])]
    rw[hr]
    simp only[hg,decide_eq_true_eq,and_true]
  exact step_y (by rw[e]) e2.2 e2.1.symm
theorem step2 (h:t.1=2):stepT c t=some (3,t.2.1,t.2.2.1,addrT c.ak c.aq c.an c.apt):=by
  have ha:=(clientOk_fit hc).2
  have hq:reqOk 1 c.ak c.aq c.an c.apt=true:=by
    unfold reqOk
    rw[ha]
    rfl
  have e:sayC c t.1=([5,1,0]++addrB c.ak c.aq c.an c.apt,true):=by
    show sayP _ _ _ _ _ _ _ _=_
    unfold sayP reqP
    rw[if_pos hc,if_neg (by omega),if_neg (by omega),if_pos h,if_pos hq]
  have hr:=req_rt hq
  have e2:(tS t (sayC c t.1).1).1=(3,t.2.1,t.2.2.1,addrT c.ak c.aq c.an c.apt)∧(tS t (sayC c t.1).1).2.2=true:=by
    rw[e]
    show (talkSay _ _ _ _ _).1=_∧(talkSay _ _ _ _ _).2.2=_
    rw[talkSay_2 ht hr.1 h,sayR_c (by rw[hr.2]) (by rw[hr.2]) (by rw[hr.2]),hr.2]
    exact⟨rfl,rfl⟩
  exact step_y (by rw[e]) e2.2 e2.1.symm
end
theorem step_ok {c:Cl} {t t':T4} (h:stepT c t=some t'):talkOk t'.1 t'.2.1 t'.2.2.1 t'.2.2.2=true:=by
  unfold stepT at h
  split at h
  · rename_i hc
    have:=Option.some.inj h
    subst this
    exact tS_ok hc.2
  · cases h
def endT (c:Cl) (t:T4):T4:=
  let yes:T4:=(3,t.2.1,t.2.2.1,addrT c.ak c.aq c.an c.apt)
  let no:T4:=(4,t.2.1,t.2.2.1,[])
  if 3≤t.1 then t
  else if t.1=2 then yes
  else if t.1=1 then(if loginOk c.lu c.lw=true then(if (c.lu,c.lw)∈t.2.2.1 then yes else no) else t)
  else if helloPick t.2.1 c.ms=0 then yes
  else if helloPick t.2.1 c.ms=2 then(if (c.lu,c.lw)∈t.2.2.1 then yes else no)
  else no
theorem login_of {c:Cl} (hc:clientOk c.ms c.lu c.lw c.ak c.aq c.an c.apt=true) (h:2∈c.ms):loginOk c.lu c.lw=true:=by
  simp only[clientOk,Bool.and_eq_true]at hc
  have:=hc.2
  rw[if_pos h]at this
  exact this
theorem runT_hi {c:Cl} {t:T4} (h:3≤t.1) (n:Nat):runT c n t=t:=runT_none (step_no1 (say_hi h)) n
theorem run_2 {c:Cl} {t:T4} (hc:clientOk c.ms c.lu c.lw c.ak c.aq c.an c.apt=true) (ht:talkOk t.1 t.2.1 t.2.2.1 t.2.2.2=true) (h:t.1=2) (n:Nat):runT c (n+1) t=(3,t.2.1,t.2.2.1,addrT c.ak c.aq c.an c.apt):=by
  rw[runT_some (step2 hc ht h),runT_hi (by simp)]
theorem run_1 {c:Cl} {t:T4} (hc:clientOk c.ms c.lu c.lw c.ak c.aq c.an c.apt=true) (ht:talkOk t.1 t.2.1 t.2.2.1 t.2.2.2=true) (h:t.1=1) (hw:loginOk c.lu c.lw=true) (n:Nat):runT c (n+2) t=if (c.lu,c.lw)∈t.2.2.1 then(3,t.2.1,t.2.2.1,addrT c.ak c.aq c.an c.apt) else(4,t.2.1,t.2.2.1,[]):=by
  have hs:=step1 hc ht h hw
  have ho:=step_ok hs
  rw[runT_some hs]
  split
  · rename_i hm
    rw[if_pos hm]at ho
    exact run_2 hc ho rfl n
  · exact runT_hi (by simp) _
theorem run_end {c:Cl} {t:T4} (hc:clientOk c.ms c.lu c.lw c.ak c.aq c.an c.apt=true) (ht:talkOk t.1 t.2.1 t.2.2.1 t.2.2.2=true):runT c 3 t=endT c t:=by
  have hp:=talkOk_parts ht
  unfold endT
  simp only
  split
  · rename_i h
    exact runT_hi h 3
  · split
    · rename_i h
      exact run_2 hc ht h 2
    · split
      · rename_i h
        split
        · rename_i hw
          exact run_1 hc ht h hw 1
        · rename_i hw
          exact runT_none (step1n hc h (by simpa using hw)) 3
      · have h0:t.1=0:=by omega
        have hs:=step0 hc ht h0
        have ho:=step_ok hs
        rw[runT_some hs]
        split
        · rename_i hm
          rw[if_pos hm]at ho
          exact run_2 hc ho rfl 1
        · rename_i hm
          rw[if_neg hm]at ho
          split
          · rename_i hm2
            rw[if_pos hm2]at ho
            have hw:=login_of hc (hm2 ▸ (pick_in (wt:=t.2.1) (ms:=c.ms) (by omega)).2)
            exact run_1 hc ho rfl hw 0
          · exact runT_hi (by simp) 2
theorem clRun_y {c:Cl} {t:T4} (h:(clRun c t).2=true):clientOk c.ms c.lu c.lw c.ak c.aq c.an c.apt=true∧talkOk t.1 t.2.1 t.2.2.1 t.2.2.2=true∧clRun c t=(endT c t,true):=by
  unfold clRun at*
  split at h
  · rename_i hc
    rw[if_pos hc,run_end hc.1 hc.2]
    exact⟨hc.1,hc.2,rfl⟩
  · cases h
theorem run_ok {c:Cl}: ∀ (n:Nat) {t:T4},talkOk t.1 t.2.1 t.2.2.1 t.2.2.2=true→talkOk (runT c n t).1 (runT c n t).2.1 (runT c n t).2.2.1 (runT c n t).2.2.2=true
  | 0,t,h=>h
  | n+1,t,h=>by
    unfold runT
    split
    · rename_i t' ht
      exact run_ok n (step_ok ht)
    · exact h
theorem end_ok {c:Cl} {t:T4} (h:(clRun c t).2=true):talkOk (clRun c t).1.1 (clRun c t).1.2.1 (clRun c t).1.2.2.1 (clRun c t).1.2.2.2=true:=by
  obtain ⟨hc,ht,e⟩:=clRun_y h
  rw[e,← run_end hc ht]
  exact run_ok 3 ht
theorem law_run {c:Cl} {t:T4} (h:(clRun c t).2=true):(3≤(clRun c t).1.1)∨(t.1=1∧(sayP c.ms c.lu c.lw c.ak c.aq c.an c.apt 1).2=false):=by
  obtain ⟨hc,ht,e⟩:=clRun_y h
  have hs:(sayP c.ms c.lu c.lw c.ak c.aq c.an c.apt 1).2=loginOk c.lu c.lw:=by
    unfold sayP loginP
    rw[if_pos hc,if_neg (by decide),if_pos rfl]
    split <;> simp_all
  have hp:=(talkOk_parts ht).1
  rw[e,hs]
  grind [endT]
theorem law_twice {c:Cl} {t:T4} (h:(clRun c t).2=true):clRun c (clRun c t).1=((clRun c t).1,true):=by
  have ho:=end_ok h
  obtain ⟨hc,ht,e⟩:=clRun_y h
  have e2:clRun c (clRun c t).1=(endT c (clRun c t).1,true):=by
    show (if _ then _ else _)=_
    rw[if_pos ⟨hc,ho⟩,run_end hc ho]
  rcases law_run h with h3 | ⟨h1,hs⟩
  · rw[e2]
    have:endT c (clRun c t).1=(clRun c t).1:=by
      show (if _ then _ else _)=_
      rw[if_pos h3]
    rw[this]
  · have hl:loginOk c.lu c.lw=false:=by
      unfold sayP loginP at hs
      rw[if_pos hc,if_neg (by decide),if_pos rfl]at hs
      cases hh:loginOk c.lu c.lw
      · rfl
      · rw[hh]at hs; cases hs
    have:endT c t=t:=by
      unfold endT
      simp only
      rw[if_neg (by omega),if_neg (by omega),if_pos h1,if_neg (by rw[hl]; simp)]
    rw[e2,e]
    rw[this,this]
theorem clRun_to (c:Cl) (t:T4):(clRun c t).1.2.2.2.length≤42+t.2.2.2.length:=by
  by_cases h:(clRun c t).2=true
  · obtain ⟨hc,ht,e⟩:=clRun_y h
    rw[e]
    have:=addrT_len c.ak c.aq c.an c.apt
    grind [endT]
  · unfold clRun at h ⊢
    split at h
    · exact absurd rfl h
    · rename_i hh
      rw[if_neg hh]
      simp
abbrev Z0 (a0:Nat)(a1:Nat)(a2:Nat)(a3:Nat):=([(⟨(some ⟨a0,0,none⟩),1,([0]:List Int)⟩:Hd),(⟨(some ⟨a1,0,none⟩),1,([2]:List Int)⟩:Hd),(⟨(some ⟨a2,0,none⟩),2,([0,2]:List Int)⟩:Hd),(⟨(some ⟨a3,0,none⟩),2,([2,1]:List Int)⟩:Hd)]:List Hd)
abbrev Z1:List Value:=[ns,Str [],Str [],I 0,ns,Str [],I 0]
abbrev Z2 (a0:Int)(a1:Option Addr)(a2:List Int)(a3:Nat)(a4:Option Addr)(a5:List (List UInt8×List UInt8))(a6:Nat)(a7:List UInt8):List Value:=[I a0,.slice a1 a2.length a3,.slice a4 a5.length a6,Str a7]
abbrev Z5 (a0:Nat)(a1:Option Addr)(a2:List UInt8)(a3:Nat)(a4:Nat):It:=.blk a0 124 [.slice a1 a2.length a3,I (a4:Int)]
abbrev Z6 (a0:Nat):Option Addr:=(some ⟨a0,0,none⟩)
abbrev Z7 (a0:Option Addr)(a1:List Int)(a2:Nat):It:=.own a0 a1.length a2 3 1 (a1.map I)
abbrev Z9 (a0:Option Addr)(a1:List (List UInt8×List UInt8))(a2:Nat):It:=.own a0 a1.length a2 51 2 (a1.flatMap gLogin)
abbrev Z10 (a0:Option Addr)(a1:List Int)(a2:Nat):Value:=.slice a0 a1.length a2
abbrev Z11 (a0:Nat):It:=.blk a0 29 [I 0,ns,ns,Str []]
abbrev Z12 (a0:List UInt8):=([(a0.length:Int)]:List Int)
abbrev Z13 (a0:Option Addr)(a1:List Int)(a2:Nat):Value:=(.slice a0 a1.length a2)
abbrev Z14 (a0:Nat):It:=.blk a0 43 [I 0,ns,Str [],I 0]
abbrev Z15 (a0:Nat):It:=oI a0 ([0,2]:List Int) 2 3
abbrev Z16 (a0:Nat):It:=oI a0 ([2,1]:List Int) 2 3
abbrev Z17 (a0:Nat):It:=oI a0 ([0]:List Int) 1 3
abbrev Z18 (a0:List Int)(a1:List UInt8)(a2:List UInt8)(a3:Int)(a4:List Int)(a5:List UInt8)(a6:Int)(a7:Int)(a8:List Int)(a9:List (List UInt8×List UInt8))(a10:List UInt8):Value:=Str ((clRun ⟨a0,a1,a2,a3,a4,a5,a6⟩ (((clRun ⟨a0,a1,a2,a3,a4,a5,a6⟩ (a7,a8,a9,a10)).1.1),((clRun ⟨a0,a1,a2,a3,a4,a5,a6⟩ (a7,a8,a9,a10)).1.2.1),((clRun ⟨a0,a1,a2,a3,a4,a5,a6⟩ (a7,a8,a9,a10)).1.2.2.1),((clRun ⟨a0,a1,a2,a3,a4,a5,a6⟩ (a7,a8,a9,a10)).1.2.2.2))).1.2.2.2)
abbrev Z19 (a0:Nat):It:=oI a0 ([2]:List Int) 1 3
abbrev Z20 (a0:List Int)(a1:List UInt8)(a2:List UInt8)(a3:Int)(a4:List Int)(a5:List UInt8)(a6:Int)(a7:Int)(a8:List Int)(a9:List (List UInt8×List UInt8))(a10:List UInt8):Value:=I ((clRun ⟨a0,a1,a2,a3,a4,a5,a6⟩ (((clRun ⟨a0,a1,a2,a3,a4,a5,a6⟩ (a7,a8,a9,a10)).1.1),((clRun ⟨a0,a1,a2,a3,a4,a5,a6⟩ (a7,a8,a9,a10)).1.2.1),((clRun ⟨a0,a1,a2,a3,a4,a5,a6⟩ (a7,a8,a9,a10)).1.2.2.1),((clRun ⟨a0,a1,a2,a3,a4,a5,a6⟩ (a7,a8,a9,a10)).1.2.2.2))).1.1)
abbrev Z21 (a0:List UInt8):=([1,(a0.length:Int)]:List Int)
abbrev Z23 (a0:Option Addr)(a1:List (List UInt8×List UInt8))(a2:Nat):Value:=.slice a0 a1.length a2
abbrev Z24 (a0:Int):=([0,1,10,255,a0]:List Int)
abbrev Z25 (a0:List Int)(a1:List UInt8)(a2:List UInt8)(a3:Int)(a4:List Int)(a5:List UInt8)(a6:Int)(a7:Int)(a8:List Int)(a9:List (List UInt8×List UInt8))(a10:List UInt8):Value:=(.bool ((clRun ⟨a0,a1,a2,a3,a4,a5,a6⟩ (((clRun ⟨a0,a1,a2,a3,a4,a5,a6⟩ (a7,a8,a9,a10)).1.1),((clRun ⟨a0,a1,a2,a3,a4,a5,a6⟩ (a7,a8,a9,a10)).1.2.1),((clRun ⟨a0,a1,a2,a3,a4,a5,a6⟩ (a7,a8,a9,a10)).1.2.2.1),((clRun ⟨a0,a1,a2,a3,a4,a5,a6⟩ (a7,a8,a9,a10)).1.2.2.2))).2))
abbrev Z26 (a0:Int)(a1:List Int)(a2:List (List UInt8×List UInt8))(a3:List UInt8)(a4:List Int)(a5:List UInt8)(a6:List UInt8)(a7:Int)(a8:List Int)(a9:List UInt8)(a10:Int):Value:=(.bool ((talkSay a0 a1 a2 a3 ((sayP a4 a5 a6 a7 a8 a9 a10 a0).1)).2.2))
abbrev Z27 (a0:Nat):It:=oI a0 ([]:List Int) 0 3
abbrev Z28 (a0:List Int)(a1:List UInt8)(a2:List UInt8)(a3:Int)(a4:List Int)(a5:List UInt8)(a6:Int)(a7:Int)(a8:List Int)(a9:List (List UInt8×List UInt8))(a10:List UInt8):Value:=Str ((clRun ⟨a0,a1,a2,a3,a4,a5,a6⟩ (a7,a8,a9,a10)).1.2.2.2)
end Go.PF
