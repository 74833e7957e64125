/-
  Part of the proofs over this seat: plain functions that say what the program computes, and their laws.
  Conditions: none; every theorem states its own.
-/
import Derived.Test.YtbopieehnmljkaaGreatDoorPfBase
namespace Go.PF
open Go.RowKit
theorem gQ {α:Type _} {l:List α} {i:Nat} {a:α}:l.getD i a=l[i]?.getD a:=List.getD_eq_getElem?_getD
theorem gE {α:Type _} {l:List α} {i:Nat} (h:i<l.length):l[i]?=some l[i]:=List.getElem?_eq_getElem h
theorem cell_lt {w:World} {a:Addr} {v:Value} (h:w.cell? a=some v):a.block<w.heap.size:=by
  rcases Nat.lt_or_ge a.block w.heap.size with h' | h'
  · exact h'
  · simp[World.cell?,Array.getElem?_eq_none h']at h
theorem SH.below {w w':World} {L:List It} (h:SH w w' [] L):Below w.heap.size w w':=⟨h.os,h.tape,h.output,h.size,fun k hk=>h.keep k hk (by simp)⟩
theorem law_done {P:Program} {k:FuncId} {args:List Value} {as:Array Value} {w:World} (h:Does P k args w fun v w'=>v=.bool true∧SH w w' [] []) (ha:args.toArray=as):
    Calls P k as w fun e w'=>e=.returned (.bool true)∧Below w.heap.size w w':=by
  subst ha
  refine Calls.mono h.2 fun e w' r=>?_
  cases e with
  | returned v=>exact⟨by rw[r.1],r.2.below⟩
  | _=>exact r.elim

def isByte (x:Int):Bool:=decide (0≤x∧x≤255)
def allB (l:List Int):Bool:=l.all isByte
def isBytes (l:List Int):Bool:=allB l && decide (l.length≤120)
theorem allB_take {zs:List Int} {k:Nat} (hk:k<zs.length):allB (zs.take (k+1))=(allB (zs.take k) && isByte (zs.getD k 0)):=by
  unfold allB
  rw[List.take_succ_eq_append_getElem hk,List.all_append,gQ,gE hk]
  simp
theorem allB_step {zs:List Int} {k:Nat} (hk:k<zs.length) (ha:allB (zs.take k)=true) (h:0≤zs.getD k 0∧zs.getD k 0≤255):allB (zs.take (k+1))=true:=by
  rw[allB_take hk,ha]
  simpa [isByte] using h
theorem bytes_no1 {zs:List Int} {k:Nat} (hk:k<zs.length) (h: ¬ (0≤zs.getD k 0∧zs.getD k 0≤255)):false=isBytes zs:=by
  have h1:allB zs=false:=by
    unfold allB
    rw[List.all_eq_false]
    refine⟨zs[k],List.getElem_mem hk,?_⟩
    rw[gQ,gE hk]at h
    simpa [isByte] using h
  simp[isBytes,h1]
theorem bytes_yes {zs:List Int} {k:Nat} (hk:zs.length≤k) (ha:allB (zs.take k)=true):decide (((zs.length:Nat):Int)≤120)=isBytes zs:=by
  rw[List.take_of_length_le hk]at ha
  simp only[isBytes,ha,Bool.true_and]
  congr 1
  apply propext
  omega
def idxB (l:List UInt8) (c:UInt8):Int:=
  match (List.range l.length).find? (fun i=>l.getD i 0 == c) with
  | some i=>i
  | none=> -1
section
variable {P:Program} {f:Fr} {w:World} {d:Nat} {ty:TypeId} {pos:String} {aft:Array Edge} {gd:Option (Nat×Bool)} {x y:Operand}
theorem ibs {k:FuncId} {fn:Func} {ts:Array TypeId} {l:List UInt8} {c:UInt8} (hf:P.funcs[k]?=some fn) (hname:(fn.name == "runtime.NumGoroutine")=false)
    (hb:fn.body.isNone=true) (hn:Extern.findNext fn=none) (he:Extern.find fn=some Extern.BytealgIndexByte.indexByte) (hx:ev f x=Str l) (hy:ev f y=U c):
    RV P f w ⟨some d,.call ⟨.value (.func k), #[x,y],ts⟩,ty,pos,aft,gd⟩ (.int .i64 (idxB l c)):=by
  have hr:=run_callFunc_indexByte (P:=P) hf hname hb hn he #[Str l,U c] w
  refine RV.mk ?_
  have hd:execOp (ev f) ⟨some d,.call ⟨.value (.func k), #[x,y],ts⟩,ty,pos,aft,gd⟩=callFunc k #[Str l,U c]:=by
    have hg:ev f (.func k)=.func (.func k) #[] #[]:=rfl
    simp[execOp,resolve,hg,Deferred.ofValue,invoke,hx,hy]
  rw[hd,hr]
  have hfun:(fun i=>(⟨l.toArray⟩:ByteArray)[i]! == UInt8.ofNat c.toNat)=fun i=>l.getD i 0 == c:=by
    funext i
    have:(⟨l.toArray⟩:ByteArray)[i]! =l.getD i 0:=by
      rw[gQ]
      by_cases hi:i<l.length
      · have h1:i<(⟨l.toArray⟩:ByteArray).size:=by simpa [ByteArray.size] using hi
        rw[getElem!_pos (⟨l.toArray⟩:ByteArray) i h1,gE hi]
        rfl
      · have h1: ¬ i<(⟨l.toArray⟩:ByteArray).size:=by simpa [ByteArray.size] using hi
        rw[getElem!_neg (⟨l.toArray⟩:ByteArray) i h1,List.getElem?_eq_none (by omega)]
        rfl
    rw[this]
    simp
  have hi:Extern.BytealgIndexByte.indexByte #[Str l,U c]=(match (List.range (⟨l.toArray⟩:ByteArray).size).find? fun i=>(⟨l.toArray⟩:ByteArray)[i]! == UInt8.ofNat c.toNat with
    | some i=>pure (goInt i)
    | none=>pure (goInt (-1))):=rfl
  rw[hi,hfun,size_mk]
  unfold idxB
  cases (List.range l.length).find? (fun i=>l.getD i 0 == c) <;> rfl
end
theorem idxB_eq {l:List UInt8} {c:UInt8} {k:Nat} (hk:k<l.length) (hne: ∀ j,j<k→l.getD j 0≠c) (he:l.getD k 0=c):idxB l c=(k:Int):=by
  unfold idxB
  have:(List.range l.length).find? (fun i=>l.getD i 0 == c)=some k:=by
    rw[List.find?_range_eq_some]
    exact⟨by simpa using he,by simpa using hk,fun j hj=>by simpa using hne j hj⟩
  rw[this]
theorem idxB_none {l:List UInt8} {c:UInt8} (hne: ∀ j,j<l.length→l.getD j 0≠c):idxB l c= -1:=by
  unfold idxB
  have:(List.range l.length).find? (fun i=>l.getD i 0 == c)=none:=by
    rw[List.find?_eq_none]
    intro j hj
    simpa using hne j (List.mem_range.1 hj)
  rw[this]
theorem idxB_range (l:List UInt8) (c:UInt8): -1≤idxB l c∧idxB l c<l.length∨idxB l c= -1:=by
  unfold idxB
  split
  · rename_i i hi
    have:=List.mem_of_find?_eq_some hi
    rw[List.mem_range]at this
    omega
  · omega
theorem idxB_bd (l:List UInt8) (c:UInt8): -1≤idxB l c∧idxB l c≤l.length:=by
  have:=idxB_range l c
  omega
def idxF (p:Int→Bool) (l:List Int):Int:=
  match (List.range l.length).find? (fun i=>p (l.getD i 0)) with
  | some i=>i
  | none=> -1
theorem idxF_eq {p:Int→Bool} {l:List Int} {k:Nat} (hk:k<l.length) (hne: ∀ j,j<k→p (l.getD j 0)=false) (he:p (l.getD k 0)=true):(k:Int)=idxF p l:=by
  unfold idxF
  have:(List.range l.length).find? (fun i=>p (l.getD i 0))=some k:=by
    rw[List.find?_range_eq_some]
    exact⟨he,by simpa using hk,fun j hj=>by rw[hne j hj]; rfl⟩
  rw[this]
theorem idxF_none {p:Int→Bool} {l:List Int} (hne: ∀ j,j<l.length→p (l.getD j 0)=false): -1=idxF p l:=by
  unfold idxF
  have:(List.range l.length).find? (fun i=>p (l.getD i 0))=none:=by
    rw[List.find?_eq_none]
    intro j hj
    rw[hne j (List.mem_range.1 hj)]
    simp
  rw[this]
theorem idxF_any (p:Int→Bool) (l:List Int):decide (0≤idxF p l)=l.any p:=by
  unfold idxF
  rw[Bool.eq_iff_iff,decide_eq_true_eq,List.any_eq_true]
  cases h:(List.range l.length).find? (fun i=>p (l.getD i 0)) with
  | none=>
    rw[List.find?_eq_none]at h
    constructor
    · intro h0; simp at h0
    · rintro ⟨x,hx,hp⟩
      obtain ⟨j,hj,rfl⟩:=List.getElem_of_mem hx
      have:=h j (List.mem_range.2 hj)
      rw[gQ,gE hj]at this
      exact absurd hp this
  | some i=>
    have hm:=List.mem_of_find?_eq_some h
    have hp:=List.find?_some h
    rw[List.mem_range]at hm
    constructor
    · intro _
      refine⟨l[i],List.getElem_mem hm,?_⟩
      rw[gQ,gE hm]at hp
      exact hp
    · intro _; simp
theorem isBytes_not (l:List Int):(decide (((l.length:Nat):Int)≤120) && !(l.any fun x=>decide (¬ (0≤x∧x≤255))))=isBytes l:=by
  unfold isBytes allB
  rw[Bool.and_comm]
  congr 1
  · rw[List.not_any_eq_all_not]
    congr 1
    funext x
    by_cases h:0≤x∧x≤255 <;> simp[isByte,h]
  · congr 1
    apply propext
    omega
def hexDs:List UInt8:=[48,49,50,51,52,53,54,55,56,57,97,98,99,100,101,102]
theorem hexDs_len:hexDs.length=16:=rfl
theorem u8_eq {a b:UInt8} (h:((a.toNat:Nat):Int)=((b.toNat:Nat):Int)):a=b:=by
  have:a.toNat=b.toNat:=by omega
  exact UInt8.toNat_inj.1 this
theorem take_succ_eq {α:Type} {as bs:List α} {k:Nat} {d:α} (h1:k<as.length) (h2:k<bs.length) (h:as.take k=bs.take k) (he:as.getD k d=bs.getD k d):as.take (k+1)=bs.take (k+1):=by
  rw[List.take_succ_eq_append_getElem h1,List.take_succ_eq_append_getElem h2,h]
  rw[gQ,gQ,gE h1,gE h2]at he
  simp at he
  rw[he]
theorem take_all_eq {α:Type} {as bs:List α} {k:Nat} (hl:as.length=bs.length) (h1:as.length≤k) (h:as.take k=bs.take k):as=bs:=by
  rwa [List.take_of_length_le h1,List.take_of_length_le (by omega)]at h
def marks (k0:Int) (n:Nat):List Int:=(List.range n).map (fun i=>k0+(i:Nat))
@[simp] theorem marks_len (k0:Int) (n:Nat):(marks k0 n).length=n:=by simp[marks]
def hexV (l:List UInt8) (i:Nat):Int:=16*idxB hexDs (l.getD (2*i) 0)+idxB hexDs (l.getD (2*i+1) 0)
def hexOk (l:List UInt8) (i:Nat):Bool:=decide (0≤idxB hexDs (l.getD (2*i) 0)∧0≤idxB hexDs (l.getD (2*i+1) 0))
def hexN (l:List UInt8) (k:Nat):List Int:=(List.range k).map (hexV l)
def hexGood (l:List UInt8):Bool:=decide (l.length % 2=0∧l.length≤240) && (List.range (l.length / 2)).all (hexOk l)
def hexFrom (l:List UInt8):List Int×Bool:=if hexGood l then(hexN l (l.length / 2),true) else([],false)
theorem hexN_succ (l:List UInt8) (k:Nat):hexN l k++[16*idxB hexDs (l.getD (2*k) 0)+idxB hexDs (l.getD (2*k+1) 0)]=hexN l (k+1):=by simp[hexN,List.range_succ,hexV]
@[simp] theorem hexN_len (l:List UInt8) (k:Nat):(hexN l k).length=k:=by simp[hexN]
theorem hexFrom_len (l:List UInt8):(hexFrom l).1.length≤120:=by
  unfold hexFrom
  split
  · rename_i h
    simp[hexGood]at h
    simp
    omega
  · simp
theorem hex_size {l:List UInt8} (h: ¬ (l.length % 2=0∧l.length≤240)):hexFrom l=([],false):=by
  unfold hexFrom
  rw[if_neg]
  simp only[hexGood,Bool.and_eq_true,decide_eq_true_eq]
  exact fun hh=>h hh.1
theorem hex_bad {l:List UInt8} {k:Nat} (hk:k<l.length / 2) (h:hexOk l k=false):hexFrom l=([],false):=by
  unfold hexFrom
  rw[if_neg]
  simp only[hexGood,Bool.and_eq_true,List.all_eq_true]
  exact fun hh=>by
    have:=hh.2 k (List.mem_range.2 hk)
    rw[h]at this
    cases this
theorem hex_good {l:List UInt8} {k:Nat} (h1:l.length % 2=0) (h2:l.length≤240) (hk:k=l.length / 2) (hg: ∀ j,j<k→hexOk l j=true):hexFrom l=(hexN l k,true):=by
  subst hk
  unfold hexFrom
  rw[if_pos]
  simp only[hexGood,Bool.and_eq_true,List.all_eq_true,decide_eq_true_eq]
  exact⟨⟨h1,h2⟩,fun x hx=>hg x (List.mem_range.1 hx)⟩
theorem hexOk_step {l:List UInt8} {k:Nat} (hg: ∀ j,j<k→hexOk l j=true) (h1: ¬ idxB hexDs (l.getD (2*k) 0)<0) (h2: ¬ idxB hexDs (l.getD (2*k+1) 0)<0): ∀ j,j<k+1→hexOk l j=true:=by
  intro j hj
  rcases Nat.lt_succ_iff_lt_or_eq.1 hj with h | h
  · exact hg j h
  · subst h
    simp only[hexOk,decide_eq_true_eq]
    omega
theorem hexOk_no {l:List UInt8} {k:Nat} (h:idxB hexDs (l.getD (2*k) 0)<0∨idxB hexDs (l.getD (2*k+1) 0)<0):hexOk l k=false:=by
  simp only[hexOk,decide_eq_false_iff_not]
  omega
theorem dig_bd (c:UInt8): -1≤idxB hexDs c∧idxB hexDs c<16:=by
  have:=idxB_range hexDs c
  rw[hexDs_len]at this
  omega
def hexD (z:Int):List UInt8:=(hexDs.take (z / 16+1).toNat).drop (z / 16).toNat++(hexDs.take (z % 16+1).toNat).drop (z % 16).toNat
def hexT (xs:List Int) (k:Nat):List UInt8:=(List.range k).flatMap (fun i=>hexD (xs.getD i 0))
def hexText (xs:List Int):List UInt8:=if isBytes xs then hexT xs xs.length else[]
theorem hexD_len (z:Int):(hexD z).length≤2:=by
  unfold hexD
  simp only[List.length_append,List.length_drop,List.length_take]
  omega
theorem hexT_succ (xs:List Int) (k:Nat):hexT xs k++(hexDs.take (xs.getD k 0 / 16+1).toNat).drop (xs.getD k 0 / 16).toNat++(hexDs.take (xs.getD k 0 % 16+1).toNat).drop (xs.getD k 0 % 16).toNat=hexT xs (k+1):=by
  simp[hexT,List.range_succ,List.flatMap_append,hexD,List.append_assoc]
theorem hexT_len (xs:List Int) (k:Nat):(hexT xs k).length≤2*k:=by
  induction k with
  | zero=>simp[hexT]
  | succ k ih=>
    rw[← hexT_succ,List.append_assoc,List.length_append]
    have:=hexD_len (xs.getD k 0)
    unfold hexD at this
    omega
theorem isBytes_len {xs:List Int} (h:isBytes xs=true):xs.length≤120:=by
  simp[isBytes]at h
  exact h.2
theorem isBytes_get {xs:List Int} (h:isBytes xs=true) {k:Nat} (hk:k<xs.length):0≤xs.getD k 0∧xs.getD k 0≤255:=by
  simp only[isBytes,Bool.and_eq_true,allB,List.all_eq_true]at h
  have:=h.1 xs[k] (List.getElem_mem hk)
  rw[gQ,gE hk]
  simpa [isByte] using this
theorem hexText_len (xs:List Int):(hexText xs).length≤240:=by
  unfold hexText
  split
  · rename_i h
    have:=hexT_len xs xs.length
    have:=isBytes_len h
    omega
  · simp
theorem hexText_at {xs:List Int} {k:Nat} (hk:k≤xs.length) (hb:0<k→isBytes xs=true) (h: ¬ k<xs.length∨isBytes xs=false):hexT xs k=hexText xs:=by
  unfold hexText
  rcases Nat.eq_zero_or_pos k with h0 | h0
  · subst h0
    split
    · rename_i hh
      have:xs.length=0:=by
        rcases h with h | h
        · omega
        · rw[h]at hh; cases hh
      rw[this]
    · simp[hexT]
  · rw[if_pos (hb h0)]
    have:k=xs.length:=by
      rcases h with h | h
      · omega
      · rw[hb h0]at h; cases h
    rw[this]
theorem dig_one {n:Nat} (h:n<16):(hexDs.take (n+1)).drop n=[hexDs.getD n 0]:=by
  rw[List.take_succ_eq_append_getElem (by rw[hexDs_len]; exact h),List.drop_append_of_le_length (by simp[hexDs_len]; omega),List.drop_eq_nil_of_le (by simp[hexDs_len]; omega),gQ,gE (by rw[hexDs_len]; exact h)]
  rfl
theorem hexD_eq {z:Int} (h0:0≤z) (h1:z≤255):hexD z=[hexDs.getD (z / 16).toNat 0,hexDs.getD (z % 16).toNat 0]:=by
  unfold hexD
  rw[show (z / 16+1).toNat=(z / 16).toNat+1 from by omega,show (z % 16+1).toNat=(z % 16).toNat+1 from by omega,dig_one (by omega),dig_one (by omega)]
  rfl
theorem hexT_succ2 {xs:List Int} {k:Nat} (hb:isBytes xs=true) (hk:k<xs.length):(hexT xs k++[hexDs.getD (xs.getD k 0 / 16).toNat 0])++[hexDs.getD (xs.getD k 0 % 16).toNat 0]=hexT xs (k+1):=by
  have this:=And.intro hk (hexD_eq (isBytes_get hb hk).1 (isBytes_get hb hk).2)
  rw[List.append_assoc]
  simp only[hexT,List.range_succ,List.flatMap_append]
  congr 1
  rw[List.flatMap_cons,List.flatMap_nil,List.append_nil,this.2]
  rfl
theorem u8_bd (c:UInt8):c.toNat≤255:=by
  have:=c.toNat_lt
  omega
section
variable {P:Program} {f:Fr} {w:World} {d:Nat} {ty:TypeId} {pos:String} {aft:Array Edge} {gd:Option (Nat×Bool)} {x y:Operand} {t t2:TypeId}
theorem subN {a b:Nat} (hx:ev f x=.int .i64 ((a:Nat):Int)) (hy:ev f y=.int .i64 ((b:Nat):Int)) (h:b≤a) (ha:a≤9223372036854775807):RV P f w ⟨some d,.binOp .sub t x y t2,ty,pos,aft,gd⟩ (.int .i64 ((a-b:Nat):Int)):=by
  have:=sub (P:=P) (f:=f) (w:=w) (d:=d) (ty:=ty) (pos:=pos) (aft:=aft) (gd:=gd) (t:=t) (t2:=t2) hx hy ⟨by omega,by omega⟩
  rwa [show ((a:Nat):Int)-((b:Nat):Int)=((a-b:Nat):Int) from by omega]at this
end
theorem hexT_len2 {xs:List Int} (hb:isBytes xs=true): ∀ k,k≤xs.length→(hexT xs k).length=2*k
  | 0,_=>by simp[hexT]
  | k+1,h=>by
    rw[← hexT_succ2 hb h]
    simp[hexT_len2 hb k (by omega)]
    omega
theorem getD_appL {α:Type} {l m:List α} {i:Nat} {d:α} (h:i<l.length):(l++m).getD i d=l.getD i d:=by
  simp only[gQ,List.getElem?_append_left h]
theorem getD_appR {α:Type} {l m:List α} {i:Nat} {d:α} (h:l.length≤i):(l++m).getD i d=m.getD (i-l.length) d:=by
  simp only[gQ,List.getElem?_append_right h]
theorem idxB_get {l:List UInt8} {c:UInt8} (h:0≤idxB l c):l.getD (idxB l c).toNat 0=c:=by
  unfold idxB at h ⊢
  split at h
  · rename_i i hi
    have:=List.find?_some hi
    simpa using this
  · omega
section
variable {H:Type} {enc:TypeId×Value→H} {P:Program} {w:World} {sp:Nat→Bool} {held:Bool} {fuel:Nat} {t e:TypeId} {cs:List Value} {x:DataW H×List MemPlace}
theorem rd_s (hT:P.underlying t=some .string) (h:DataW.trod enc P w 0 sp held fuel t cs=some x): ∃ l:List UInt8,cs=[Str l]∧l.length≤maxLen:=by
  cases fuel with
  | zero=>simp[DataW.trod]at h
  | succ n=>
    unfold DataW.trod at h
    rw[hT]at h
    match cs,h with
    | [.string s],h=>
      simp only at h
      split at h
      · rename_i hs
        have e1:s.data.toList.length=s.size:=Array.length_toList
        exact⟨s.data.toList,rfl,e1 ▸ hs⟩
      · cases h
end
section
variable {H:Type} {enc:TypeId×Value→H} {P:Program} {w:World} {sp:Nat→Bool} {held:Bool} {fuel:Nat} {t e:TypeId} {cs:List Value} {x:DataW H×List MemPlace}
theorem rd_texts {n:Nat} (hT:P.underlying t=some (.array n e)) (he:P.underlying e=some .string) (hsz:P.cellsOf e=1) (hst:P.cellsOf t=n) {ls:List (List UInt8)} {ps:List MemPlace}
    (h:DataW.trod enc P w 0 sp held fuel t cs=some (.agg (ls.map fun l=>.lit (.string l)),ps)):cs=ls.map Str:=by
  obtain ⟨xs,m,_,hx,hlen,hn,hel⟩:=DataW.trod_array hT h
  simp only[Prod.mk.injEq,DataW.agg.injEq]at hx
  have hl:ls.length=n:=by
    have:=congrArg List.length hx.1
    simp at this
    omega
  refine List.ext_getElem? fun i=>?_
  by_cases hi:i<n
  · have:=hel i hi
    rw[hsz,Nat.mul_one,gE (by omega)]at this
    have hci:i<cs.length:=by omega
    have htk:(cs.drop i).take 1=[cs[i]]:=by
      rw[List.drop_eq_getElem_cons hci]
      rfl
    rw[htk]at this
    have hxi:=congrArg (·[i]?) hx.1
    simp only[List.getElem?_map,gE (show i<ls.length by omega),gE (show i<xs.length by omega),Option.map_some,Option.some.injEq]at hxi
    obtain ⟨l,hl1,_⟩:=rd_s he this
    have hval:xs[i].1=.lit (.string l):=by
      simp only[List.cons.injEq,and_true]at hl1
      cases m with
      | zero=>simp[DataW.trod]at this
      | succ m=>
        unfold DataW.trod at this
        rw[he,hl1]at this
        simp only[Str]at this
        split at this
        · have h2:=congrArg Prod.fst (Option.some.inj this)
          simpa using h2.symm
        · cases this
    rw[hval]at hxi
    simp only[DataW.lit.injEq,Lit.string.injEq]at hxi
    rw[gE hci,List.getElem?_map,gE (by omega)]
    simp only[Option.map_some,Option.some.injEq]
    simp only[List.cons.injEq,and_true]at hl1
    rw[hl1,hxi]
  · rw[List.getElem?_eq_none (by omega),List.getElem?_eq_none (by simp; omega)]
end
section
variable {H:Type} {enc:TypeId×Value→H} {P:Program} {w:World}
theorem trodVars_len {sp:Nat→Bool}: ∀ {ns:List String} {gs:List (DataW H)} {ps:List MemPlace},DataW.TrodVars enc P w sp ns gs ps→gs.length=ns.length
  | [],[],_,_=>rfl
  | [],_::_,_,h=>h.elim
  | _::_,[],_,h=>h.elim
  | n::ns,d::ds,ps,h=>by
    obtain ⟨_,_,_,_,_,_,_,_,_,_,hs,_⟩:=h
    simp[trodVars_len hs]
theorem pa_var {n:String} {g:Nat} {cs:Array Value} {us:List Value} (hg:P.globalNamed n=some g) (hv:w.var? P n=some cs) (hc:cs.toList=us) (h0:0<us.length):PA w [] ⟨g,0,none⟩ us:=by
  have hcell: ∀ j,w.cell? ⟨g,j,none⟩=us[j]?:=fun j=>by
    rw[World.var?_cell hg hv j,← hc]
    simp
  refine⟨?_,by simp,fun j u hu=>?_⟩
  · have:=hcell 0
    rw[gE h0]at this
    exact cell_lt this
  · rw[add_lit0,hcell,hu]
end
def kindTs:List (List UInt8):=[[109,111,114,101],[111,108,100],[104,101,108,108,111],[116,117,110,110,101,108],[108,105,110,101],[104,101,97,100],[111,116,104,101,114]]
theorem kindTs_len:kindTs.length=7:=rfl
def kindText (z:Int):List UInt8:=if 0≤z∧z≤6 then kindTs.getD z.toNat [] else[]
theorem kindText_no {z:Int} (h: ¬ (0≤z∧z≤6)):kindText z=[]:=if_neg h
theorem kindText_yes {z:Int} (h:0≤z∧z≤6):kindText z=kindTs.getD z.toNat []:=if_pos h
theorem isBytes_iff {l:List Int}:isBytes l=true↔(∀ x∈l,0≤x∧x≤255)∧l.length≤120:=by
  simp[isBytes,allB,isByte,List.all_eq_true]
theorem isBytes_sub {l m:List Int} (h:isBytes l=true) (hs:m.Sublist l):isBytes m=true:=by
  rw[isBytes_iff]at*
  exact⟨fun x hx=>h.1 x (hs.subset hx),Nat.le_trans hs.length_le h.2⟩
section
variable {α:Type}
theorem all_take {p:α→Bool} {l:List α} {k:Nat} (d:α) (h:k<l.length):(l.take (k+1)).all p=((l.take k).all p && p (l.getD k d)):=by
  rw[List.take_succ_eq_append_getElem h,List.all_append,gQ,gE h]
  simp
theorem all_step {p:α→Bool} {l:List α} {k:Nat} {d:α} (h:k<l.length) (ha:(l.take k).all p=true) (hp:p (l.getD k d)=true):(l.take (k+1)).all p=true:=by
  rw[all_take d h,ha,hp]
  rfl
theorem all_no {p:α→Bool} {l:List α} {k:Nat} {d:α} (h:k<l.length) (hp:p (l.getD k d)=false):l.all p=false:=by
  rw[List.all_eq_false]
  refine⟨l[k],List.getElem_mem h,?_⟩
  rw[gQ,gE h]at hp
  simpa using hp
theorem all_yes {p:α→Bool} {l:List α} {k:Nat} (h:l.length≤k) (ha:(l.take k).all p=true):l.all p=true:=by
  rwa [List.take_of_length_le h]at ha
def idxP (p:α→Bool) (l:List α):Int:=match l.findIdx? p with | some i=>(i:Int) | none=> -1
theorem idxP_eq {p:α→Bool} {l:List α} {k:Nat} {d:α} (hk:k<l.length) (hne: ∀ j,j<k→p (l.getD j d)=false) (he:p (l.getD k d)=true):(k:Int)=idxP p l:=by
  unfold idxP
  have:l.findIdx? p=some k:=by
    rw[List.findIdx?_eq_some_iff_getElem]
    refine⟨hk,?_,fun j hj=>?_⟩
    · rw[gQ,gE hk]at he
      exact he
    · have:=hne j hj
      rw[gQ,gE (by omega)]at this
      simpa using this
  rw[this]
theorem idxP_none {p:α→Bool} {l:List α} {d:α} (hne: ∀ j,j<l.length→p (l.getD j d)=false): -1=idxP p l:=by
  unfold idxP
  have:l.findIdx? p=none:=by
    rw[List.findIdx?_eq_none_iff]
    intro x hx
    obtain ⟨j,hj,rfl⟩:=List.getElem_of_mem hx
    have:=hne j hj
    rwa [gQ,gE hj]at this
  rw[this]
theorem idxP_any (p:α→Bool) (l:List α):decide (0≤idxP p l)=l.any p:=by
  unfold idxP
  rw[← List.findIdx?_isSome]
  cases l.findIdx? p <;> simp
end
theorem idxB_mem (l:List UInt8) (c:UInt8):0≤idxB l c↔c∈l:=by
  unfold idxB
  cases h:(List.range l.length).find? (fun i=>l.getD i 0 == c) with
  | none=>
    rw[List.find?_eq_none]at h
    constructor
    · intro h0; simp at h0
    · intro hc
      obtain ⟨j,hj,rfl⟩:=List.getElem_of_mem hc
      have:=h j (List.mem_range.2 hj)
      rw[gQ,gE hj]at this
      simp at this
  | some i=>
    have hm:=List.mem_range.1 (List.mem_of_find?_eq_some h)
    have hp:=List.find?_some h
    constructor
    · intro _
      have:l[i]=c:=by
        rw[gQ,gE hm]at hp
        simpa using hp
      exact this ▸ List.getElem_mem hm
    · intro _; simp
def okC (m:List UInt8) (c:UInt8):Bool:=decide ((97≤((c.toNat:Nat):Int)∧((c.toNat:Nat):Int)≤122)∨(48≤((c.toNat:Nat):Int)∧((c.toNat:Nat):Int)≤57)∨0≤idxB m c)
def letC (c:UInt8):Bool:=decide ((97≤((c.toNat:Nat):Int)∧((c.toNat:Nat):Int)≤122)∨(48≤((c.toNat:Nat):Int)∧((c.toNat:Nat):Int)≤57)∨((c.toNat:Nat):Int)=45)
theorem okC_iff (m:List UInt8) (c:UInt8):okC m c=true↔((97≤((c.toNat:Nat):Int)∧((c.toNat:Nat):Int)≤122)∨(48≤((c.toNat:Nat):Int)∧((c.toNat:Nat):Int)≤57))∨c∈m:=by
  simp only[okC,decide_eq_true_eq,idxB_mem,or_assoc]
theorem u8_lit {c:UInt8} {n:Nat} (hn:n<256):((c.toNat:Nat):Int)=(n:Int)↔c=UInt8.ofNat n:=by
  constructor
  · intro h
    apply UInt8.toNat_inj.1
    rw[UInt8.toNat_ofNat']
    omega
  · intro h
    rw[h,UInt8.toNat_ofNat']
    omega
section
variable {l:List UInt8} {n:Int} {b:Bool}
end
theorem copy_setG {α:Type} {xs:List α} {k:Nat} {d:α} (h:k<xs.length):(xs.take k++List.replicate (xs.length-k) d).set k (xs.getD k d)=xs.take (k+1)++List.replicate (xs.length-(k+1)) d:=by
  rw[List.set_append_right _ _ (by simp; omega),List.length_take,Nat.min_eq_left (by omega),Nat.sub_self,List.take_succ_eq_append_getElem h,List.append_assoc]
  congr 1
  rw[show xs.length-k=(xs.length-(k+1))+1 from by omega,List.replicate_succ,gQ,gE h]
  rfl
abbrev gLogin (u:List UInt8×List UInt8):List Value:=[Str u.1,Str u.2]
def login0:List UInt8×List UInt8:=([],[])
def splitB (c:UInt8):List UInt8→List (List UInt8)
  | []=>[[]]
  | a::l=>if a=c then[]::splitB c l else match splitB c l with | []=>[[a]] | p::ps=>(a::p)::ps
theorem splitB_no {c:UInt8} {p:List UInt8} (h: ∀ x∈p,x≠c):splitB c p=[p]:=by
  induction p with
  | nil=>rfl
  | cons a p ih=>rw[splitB,if_neg (h a (List.mem_cons_self ..)),ih fun x hx=>h x (List.mem_cons_of_mem _ hx)]
theorem splitB_at {c:UInt8} {p r:List UInt8} (h: ∀ x∈p,x≠c):splitB c (p++c::r)=p::splitB c r:=by
  induction p with
  | nil=>simp[splitB]
  | cons a p ih=>rw[List.cons_append,splitB,if_neg (h a (List.mem_cons_self ..)),ih fun x hx=>h x (List.mem_cons_of_mem _ hx)]
theorem splitB_len (c:UInt8) (l:List UInt8):(splitB c l).length=l.count c+1:=by
  induction l with
  | nil=>rfl
  | cons a l ih=>
    rw[splitB,List.count_cons]
    split
    · rename_i h
      simp[ih,h]
    · rename_i h
      cases hs:splitB c l with
      | nil=>rw[hs]at ih; simp at ih
      | cons p ps=>rw[hs]at ih; simp[h]; simpa using ih
theorem splitB_sum (c:UInt8) (l:List UInt8): ∀ p∈splitB c l,p.length≤l.length:=by
  induction l with
  | nil=>simp[splitB]
  | cons a l ih=>
    rw[splitB]
    split
    · intro p hp
      rcases List.mem_cons.1 hp with rfl | hp
      · simp
      · have:=ih p hp; simp; omega
    · cases hs:splitB c l with
      | nil=>simp
      | cons q qs=>
        rw[hs]at ih
        intro p hp
        rcases List.mem_cons.1 hp with rfl | hp
        · have:=ih q (List.mem_cons_self ..); simp; omega
        · have:=ih p (List.mem_cons_of_mem _ hp); simp; omega
theorem splitB_getD (c:UInt8) (l:List UInt8) (k:Nat):((splitB c l).getD k []).length≤l.length:=by
  rw[gQ]
  by_cases hk:k<(splitB c l).length
  · rw[gE hk]
    exact splitB_sum c l _ (List.getElem_mem hk)
  · rw[List.getElem?_eq_none (by omega)]
    simp
theorem splitB_pos (c:UInt8) (l:List UInt8):0<(splitB c l).length:=by
  rw[splitB_len]
  omega
theorem idxB_split {l:List UInt8} {c:UInt8} (h:0≤idxB l c):(idxB l c).toNat<l.length∧splitB c l=l.take (idxB l c).toNat::splitB c (l.drop ((idxB l c).toNat+1)):=by
  unfold idxB at*
  cases hf:(List.range l.length).find? (fun i=>l.getD i 0 == c) with
  | none=>rw[hf]at h; simp at h
  | some i=>
    have hm:=List.mem_range.1 (List.mem_of_find?_eq_some hf)
    have hp:=List.find?_some hf
    have hne: ∀ j,j<i→l.getD j 0≠c:=by
      intro j hj
      rw[List.find?_range_eq_some]at hf
      have:=hf.2.2 j hj
      simpa using this
    refine⟨by simpa using hm,?_⟩
    have hi:l[i]=c:=by
      rw[gQ,gE hm]at hp
      simpa using hp
    have hl:l=l.take i++c::l.drop (i+1):=by
      conv=>lhs; rw[← List.take_append_drop i l]
      rw[List.drop_eq_getElem_cons hm,hi]
    show splitB c l=l.take i::splitB c (l.drop (i+1))
    conv=>lhs; rw[hl]
    refine splitB_at fun x hx=>?_
    obtain ⟨j,hj,rfl⟩:=List.getElem_of_mem hx
    rw[List.length_take]at hj
    have:=hne j (by omega)
    rw[gQ,gE (by omega)]at this
    simpa using this
theorem idxB_nosplit {l:List UInt8} {c:UInt8} (h:idxB l c<0):splitB c l=[l]:=by
  refine splitB_no fun x hx he=>?_
  subst he
  have:=(idxB_mem l x).2 hx
  omega
theorem split_set {α:Type} {P:List α} {k:Nat} {x d:α} {r:List α} (h:P.drop k=x::r):(P.take k++List.replicate (P.length-k) d).set k x=P.take (k+1)++List.replicate (P.length-(k+1)) d:=by
  have hk:k<P.length:=by
    rcases Nat.lt_or_ge k P.length with h' | h'
    · exact h'
    · rw[List.drop_eq_nil_of_le h']at h
      cases h
  have hx:P[k]=x:=by
    rw[List.drop_eq_getElem_cons hk]at h
    exact(List.cons.inj h).1
  have:=copy_setG (xs:=P) (d:=d) hk
  rw[gQ,gE hk]at this
  simpa [hx] using this
theorem split_end {α:Type} {P:List α} {k:Nat} {x d:α} (h:P.drop k=[x]):((P.take k++List.replicate (P.length-k) d).set k x).take (k+1)=P:=by
  rw[split_set h]
  have hl:P.length=k+1:=by
    have:=congrArg List.length h
    simp at this
    omega
  rw[hl]
  simp[← hl]
theorem split_take {c:UInt8} {l s:List UInt8} {k m:Nat} (hs:splitB c s=(splitB c l).drop k) (h:0≤idxB s c) (hm:m=(idxB s c).toNat):(splitB c l).drop k=s.take m::splitB c (s.drop (m+1)):=by
  subst hm
  rw[← hs]
  exact(idxB_split h).2
theorem split_next {c:UInt8} {l s:List UInt8} {k m:Nat} (hs:splitB c s=(splitB c l).drop k) (h:0≤idxB s c) (hm:m=(idxB s c).toNat+1):splitB c (s.drop m)=(splitB c l).drop (k+1):=by
  subst hm
  have h1:=split_take hs h rfl
  have h2:=congrArg (List.drop 1) h1
  rw[List.drop_drop]at h2
  exact h2.symm
theorem split_last {c:UInt8} {l s:List UInt8} {k:Nat} (hs:splitB c s=(splitB c l).drop k) (hk:k<(splitB c l).length) (h:l.count c≤k):(splitB c l).drop k=[s]:=by
  have h1:=splitB_len c l
  have h2:=splitB_len c s
  have h3:=congrArg List.length hs
  rw[List.length_drop]at h3
  have h4:s.count c=0:=by omega
  rw[← hs]
  exact splitB_no fun x hx he=>by
    subst he
    exact absurd (List.count_pos_iff.2 hx) (by omega)
theorem split_stop {c:UInt8} {l s:List UInt8} {k:Nat} (hs:splitB c s=(splitB c l).drop k) (h:idxB s c<0):(splitB c l).drop k=[s]:=by
  rw[← hs]
  exact idxB_nosplit h
theorem cut_step {c:UInt8} {l:List UInt8} {zs:List (List UInt8)} {a i:Nat} (h:zs++splitB c (l.drop a)=splitB c l) (ha:a≤i) (hi:i<l.length) (hn: ∀ j,a≤j→j<i→l.getD j 0≠c) (hc:l.getD i 0=c):
    (zs++[(l.take i).drop a])++splitB c (l.drop (i+1))=splitB c l:=by
  rw[← h,List.append_assoc]
  congr 1
  have hg:l[i]=c:=by
    rw[gQ,gE hi]at hc
    simpa using hc
  have hd:l.drop a=(l.take i).drop a++c::l.drop (i+1):=by
    conv=>lhs; rw[← List.take_append_drop i l]
    rw[List.drop_append_of_le_length (by simp; omega),List.drop_eq_getElem_cons hi,hg]
  rw[hd,splitB_at]
  · rfl
  · intro x hx
    obtain ⟨j,hj,rfl⟩:=List.getElem_of_mem hx
    simp only[List.length_drop,List.length_take]at hj
    have:=hn (a+j) (by omega) (by omega)
    rw[gQ,gE (by omega)]at this
    simpa using this
theorem cut_end {c:UInt8} {l:List UInt8} {zs:List (List UInt8)} {a i:Nat} (h:zs++splitB c (l.drop a)=splitB c l) (hi:l.length≤i) (hn: ∀ j,a≤j→j<i→l.getD j 0≠c):zs++[l.drop a]=splitB c l:=by
  rw[← h]
  congr 1
  refine(splitB_no fun x hx=>?_).symm
  obtain ⟨j,hj,rfl⟩:=List.getElem_of_mem hx
  simp only[List.length_drop]at hj
  have:=hn (a+j) (by omega) (by omega)
  rw[gQ,gE (by omega)]at this
  simpa using this
theorem okC45 (c:UInt8):okC [45] c=letC c:=by
  rw[Bool.eq_iff_iff,okC_iff]
  have h45:=u8_lit (c:=c) (n:=45) (by omega)
  have e45:UInt8.ofNat 45=45:=rfl
  rw[e45]at h45
  simp only[letC,decide_eq_true_eq,List.mem_cons,List.not_mem_nil,or_false]
  rw[← h45]
  simp only[or_assoc]
  exact Iff.rfl
def partOk (p:List UInt8):Bool:=decide (p≠[]) && p.all (okC [45])
def lastC (l:List UInt8):UInt8:=((splitB 46 l).getD ((splitB 46 l).length-1) []).getD 0 0
def nameOk (l:List UInt8):Bool:=(splitB 46 l).all partOk && decide (l.length≤20) && decide (97≤(((lastC l).toNat:Nat):Int)∧(((lastC l).toNat:Nat):Int)≤122)
theorem name_bad {l:List UInt8} {k:Nat} (hk:k<(splitB 46 l).length) (h:partOk ((splitB 46 l).getD k [])=false):nameOk l=false:=by
  simp[nameOk,all_no hk h]
theorem part_nil {p:List UInt8} (h:p=[]):partOk p=false:=by simp[partOk,h]
theorem part_len0 {p:List UInt8} (h:p.length=0):partOk p=false:=part_nil (List.eq_nil_of_length_eq_zero h)
theorem part_bad {p:List UInt8} (h:p.all (okC [45])=false):partOk p=false:=by simp[partOk,h]
theorem part_bad1 {p:List UInt8} {j:Nat} (hj:j<p.length) (h:letC (p.getD j 0)=false):partOk p=false:=part_bad (all_no hj (by rw[okC45]; exact h))
theorem part_mk {p:List UInt8} (h: ¬ p=[]) (h2:p.all (okC [45])=true):partOk p=true:=by simp only[partOk,h2,Bool.and_true,decide_eq_true_eq]; exact h
theorem part_mk1 {p:List UInt8} {j:Nat} (h: ¬ p.length=0) (hj:p.length≤j) (h2:(p.take j).all letC=true):partOk p=true:=by
  refine part_mk (fun he=>h (by rw[he]; rfl)) ?_
  rw[List.take_of_length_le hj]at h2
  rw[show okC [45]=letC from funext okC45]
  exact h2
theorem name_last {l:List UInt8} {k:Nat} (hk:(splitB 46 l).length≤k) (ha:((splitB 46 l).take k).all partOk=true) {j:Nat} (hj:j<(splitB 46 l).length):0<((splitB 46 l).getD j []).length:=by
  have h:=all_yes hk ha
  have:=List.all_eq_true.1 h _ (List.getElem_mem hj)
  rw[gQ,gE hj]
  rcases Nat.eq_zero_or_pos ((splitB 46 l)[j]).length with h0 | h0
  · rw[part_len0 h0]at this
    cases this
  · simpa using h0
theorem name_end {l:List UInt8} {k:Nat} (hk:(splitB 46 l).length≤k) (ha:((splitB 46 l).take k).all partOk=true):nameOk l=(decide (l.length≤20) && decide (97≤(((lastC l).toNat:Nat):Int)∧(((lastC l).toNat:Nat):Int)≤122)):=by
  simp only[nameOk,all_yes hk ha,Bool.true_and]
theorem name_end1 {l:List UInt8} {k:Nat} (hk:(splitB 46 l).length≤k) (ha:((splitB 46 l).take k).all partOk=true) (h: ¬ ((l.length:Nat):Int)≤20):nameOk l=false:=by
  rw[name_end hk ha,decide_eq_false (by omega)]
  rfl
theorem name_end2 {l:List UInt8} {k:Nat} (hk:(splitB 46 l).length≤k) (ha:((splitB 46 l).take k).all partOk=true) (h:((l.length:Nat):Int)≤20):nameOk l=decide (97≤(((lastC l).toNat:Nat):Int)∧(((lastC l).toNat:Nat):Int)≤122):=by
  rw[name_end hk ha,decide_eq_true (by omega:l.length≤20)]
  rfl
theorem nameOk_len {l:List UInt8} (h:nameOk l=true):l.length≤20:=by
  simp only[nameOk,Bool.and_eq_true,decide_eq_true_eq]at h
  exact h.1.2
def quadOk (q:List Int):Bool:=decide (q.length=4) && isBytes q
theorem quadOk_len {q:List Int} (h:quadOk q=true):q.length=4:=by
  simp only[quadOk,Bool.and_eq_true,decide_eq_true_eq]at h
  exact h.1
def userOk (s:List UInt8):Bool:=decide (s.length≤8) && s.all (okC [])
theorem okC0 (c:UInt8):okC [] c=(letC c && decide (((c.toNat:Nat):Int)≠45)):=by
  rw[Bool.eq_iff_iff,okC_iff]
  simp only[letC,Bool.and_eq_true,decide_eq_true_eq,List.not_mem_nil,or_false]
  omega
theorem user_bad {s:List UInt8} {k:Nat} (hk:k<s.length) (h:letC (s.getD k 0)=false∨(((s.getD k 0).toNat:Nat):Int)=45):userOk s=false:=by
  have:okC [] (s.getD k 0)=false:=by
    rw[okC0]
    rcases h with h | h
    · rw[h]; rfl
    · rw[decide_eq_false (fun hn=>hn h),Bool.and_false]
  simp[userOk,all_no hk this]
theorem user_end {s:List UInt8} {k:Nat} (hk:s.length≤k) (h:(s.take k).all (okC [])=true):decide (((s.length:Nat):Int)≤8)=userOk s:=by
  simp only[userOk,all_yes hk h,Bool.and_true]
  congr 1
  apply propext
  omega
def loginOk (u p:List UInt8):Bool:=decide (u≠[]) && decide (p≠[]) && userOk u && userOk p
theorem userOk_len {s:List UInt8} (h:userOk s=true):s.length≤8:=by
  simp only[userOk,Bool.and_eq_true,decide_eq_true_eq]at h
  exact h.1
def methOk (ms:List Int):Bool:=decide ((∀ x∈ms,0≤x∧x≤254)∧ms.Nodup∧1≤ms.length∧ms.length≤8)
def methT (ms:List Int) (k:Nat):Prop:=(∀ x∈ms.take k,0≤x∧x≤254)∧(ms.take k).Nodup
theorem methT0 (ms:List Int):methT ms 0:=by simp[methT]
theorem methT_step {ms:List Int} {k:Nat} (hk:k<ms.length) (h:methT ms k) (h1:0≤ms.getD k 0∧ms.getD k 0≤254) (h2:ms.getD k 0 ∉ ms.take k):methT ms (k+1):=by
  have hg:ms.getD k 0=ms[k]:=by rw[gQ,gE hk]; rfl
  rw[hg]at h1 h2
  unfold methT
  rw[List.take_succ_eq_append_getElem hk]
  refine⟨fun x hx=>?_,List.nodup_append.2 ⟨h.2,by simp,?_⟩⟩
  · rcases List.mem_append.1 hx with hx | hx
    · exact h.1 x hx
    · simp at hx
      subst hx
      exact h1
  · intro a ha b hb he
    simp at hb
    subst hb
    subst he
    exact h2 ha
theorem meth_bad1 {ms:List Int} {k:Nat} (hk:k<ms.length) (h: ¬ (0≤ms.getD k 0∧ms.getD k 0≤254)):methOk ms=false:=by
  have hg:ms.getD k 0=ms[k]:=by rw[gQ,gE hk]; rfl
  rw[hg]at h
  refine decide_eq_false fun hx=>h (hx.1 _ (List.getElem_mem hk))
theorem meth_bad2 {ms:List Int} {k:Nat} (hk:k<ms.length) (h:ms.getD k 0∈ms.take k):methOk ms=false:=by
  have hg:ms.getD k 0=ms[k]:=by rw[gQ,gE hk]; rfl
  rw[hg]at h
  refine decide_eq_false fun hx=>?_
  have h1:=hx.2.1
  rw[← List.take_append_drop k ms,List.drop_eq_getElem_cons hk]at h1
  exact(List.nodup_append.1 h1).2.2 _ h _ (List.mem_cons_self ..) rfl
theorem meth_end {ms:List Int} {k:Nat} (hk:ms.length≤k) (h:methT ms k):decide ((1:Int)≤((ms.length:Nat):Int)∧((ms.length:Nat):Int)≤8)=methOk ms:=by
  unfold methT at h
  rw[List.take_of_length_le hk]at h
  unfold methOk
  congr 1
  apply propext
  constructor
  · intro hl
    exact⟨h.1,h.2,by omega,by omega⟩
  · intro hl
    omega
theorem methOk_len {ms:List Int} (h:methOk ms=true):1≤ms.length∧ms.length≤8:=(of_decide_eq_true h).2.2
def addrOk (k:Int) (q:List Int) (nm:List UInt8) (p:Int):Bool:=
  decide (0≤p∧p≤65535) && ((decide (k=1) && quadOk q && decide (nm=[])) || (decide (k=3) && nameOk nm && decide (q=[])))
theorem addr1 (q:List Int) (nm:List UInt8) (p:Int):addrOk 1 q nm p=(decide (0≤p∧p≤65535) && (quadOk q && decide (nm=[]))):=by simp[addrOk]
theorem addr3 (q:List Int) (nm:List UInt8) (p:Int):addrOk 3 q nm p=(decide (0≤p∧p≤65535) && (nameOk nm && decide (q=[]))):=by simp[addrOk]
theorem addr_no {k:Int} (q:List Int) (nm:List UInt8) (p:Int) (h1: ¬ k=1) (h3: ¬ k=3):addrOk k q nm p=false:=by simp[addrOk,h1,h3]
theorem addr_port {k:Int} (q:List Int) (nm:List UInt8) {p:Int} (h: ¬ (0≤p∧p≤65535)):addrOk k q nm p=false:=by simp only[addrOk,decide_eq_false h,Bool.false_and]
def clientOk (ms:List Int) (u p:List UInt8) (k:Int) (q:List Int) (nm:List UInt8) (pt:Int):Bool:=
  methOk ms && addrOk k q nm pt && (if 2∈ms then loginOk u p else decide (u=[]∧p=[]))
theorem idxP_int (n:Int) (l:List Int):decide (0≤idxP (fun x=>decide (n=x)) l)=decide (n∈l):=by
  rw[idxP_any]
  rw[Bool.eq_iff_iff]
  simp
theorem idxB_self (c:UInt8):idxB [c] c=0:=by simp[idxB]
theorem idxB_lt (l:List UInt8) (c:UInt8): -1≤idxB l c∧idxB l c<(l.length:Int):=by
  rcases Int.lt_or_le (idxB l c) 0 with h | h
  · refine⟨?_,by omega⟩
    unfold idxB
    split <;> omega
  · have:=(idxB_split h).1
    omega
theorem cut_len {c:UInt8} {l m:List UInt8} {zs:List (List UInt8)} (h:zs++splitB c m=splitB c l):zs.length≤l.length:=by
  have h1:=congrArg List.length h
  rw[List.length_append,splitB_len,splitB_len]at h1
  have:=List.count_le_length (a:=c) (l:=l)
  omega
theorem name_end3 {l:List UInt8} {k:Nat} (hk:(splitB 46 l).length≤k) (ha:((splitB 46 l).take k).all partOk=true) (h:((l.length:Nat):Int)≤20) (h1:97≤(((lastC l).toNat:Nat):Int)):decide ((((lastC l).toNat:Nat):Int)≤122)=nameOk l:=by
  rw[name_end2 hk ha h]
  congr 1
  apply propext
  omega
theorem name_end4 {l:List UInt8} {k:Nat} (hk:(splitB 46 l).length≤k) (ha:((splitB 46 l).take k).all partOk=true) (h:((l.length:Nat):Int)≤20) (h1: ¬ 97≤(((lastC l).toNat:Nat):Int)):false=nameOk l:=by
  rw[name_end2 hk ha h,decide_eq_false (by omega)]
theorem user_mk {c:UInt8} (h:letC c=true) (h2: ¬ ((c.toNat:Nat):Int)=45):okC [] c=true:=by
  rw[okC0,h,decide_eq_true h2]
  rfl
theorem has_step {zs:List Int} {n:Int} {k:Nat} (hk:k<zs.length) (h:n ∉ zs.take k) (hn: ¬ zs.getD k 0=n):n ∉ zs.take (k+1):=by
  rw[List.take_succ_eq_append_getElem hk]
  rw[gQ,gE hk]at hn
  intro hm
  rcases List.mem_append.1 hm with hm | hm
  · exact h hm
  · simp at hm
    exact hn hm.symm
theorem has_yes {zs:List Int} {n:Int} {k:Nat} (hk:k<zs.length) (hn:zs.getD k 0=n):n∈zs:=by
  rw[gQ,gE hk]at hn
  exact hn ▸ List.getElem_mem hk
theorem has_no {zs:List Int} {n:Int} {k:Nat} (hk:zs.length≤k) (h:n ∉ zs.take k):n ∉ zs:=by
  rwa [List.take_of_length_le hk]at h
theorem addr_is1 {k:Int} {q:List Int} {nm:List UInt8} {p:Int} (h:k=1):addrOk k q nm p=(decide (0≤p∧p≤65535) && (quadOk q && decide (nm=[]))):=by rw[h,addr1]
theorem addr_is3 {k:Int} {q:List Int} {nm:List UInt8} {p:Int} (h:k=3):addrOk k q nm p=(decide (0≤p∧p≤65535) && (nameOk nm && decide (q=[]))):=by rw[h,addr3]
theorem loginOk_len (u p:List UInt8):loginOk u p=(userOk u && userOk p && decide ((0:Int)<((u.length:Nat):Int)) && decide ((0:Int)<((p.length:Nat):Int))):=by
  have h: ∀ l:List UInt8,decide (l≠[])=decide ((0:Int)<((l.length:Nat):Int)):=by
    intro l
    congr 1
    apply propext
    cases l <;> simp
  rw[loginOk,h,h,Bool.eq_iff_iff]
  simp only[Bool.and_eq_true]
  constructor
  · rintro ⟨⟨⟨a,b⟩,c⟩,d⟩; exact⟨⟨⟨c,d⟩,a⟩,b⟩
  · rintro ⟨⟨⟨a,b⟩,c⟩,d⟩; exact⟨⟨⟨c,d⟩,a⟩,b⟩
def textI (s:List UInt8):List Int:=s.map fun c=>((c.toNat:Nat):Int)
theorem textI_len (s:List UInt8):(textI s).length=s.length:=by simp[textI]
theorem textI_get {s:List UInt8} {k:Nat} (h:k<s.length):(textI s).getD k 0=(((s.getD k 0).toNat:Nat):Int):=by
  simp only[textI,gQ,List.getElem?_map,gE h,Option.map_some,Option.getD_some]
theorem textI_set {s:List UInt8} {k:Nat} (h:k<s.length):((textI s).take k++List.replicate (s.length-k) (0:Int)).set k (((s.getD k 0).toNat:Nat):Int)=(textI s).take (k+1)++List.replicate (s.length-(k+1)) 0:=by
  have:=copy_setG (xs:=textI s) (k:=k) (d:=(0:Int)) (by rw[textI_len]; exact h)
  rwa [textI_get h,textI_len]at this
theorem textI_app {s:List UInt8} {k:Nat} (h:k<s.length):(textI s).take k++[(((s.getD k 0).toNat:Nat):Int)]=(textI s).take (k+1):=by
  rw[← textI_get h,List.take_succ_eq_append_getElem (by rw[textI_len]; exact h),gQ,gE (by rw[textI_len]; exact h)]
  rfl
theorem textI_all {s:List UInt8} {k:Nat} (h:s.length≤k):(textI s).take k=textI s:=List.take_of_length_le (by rw[textI_len]; exact h)
def numB (n:Int):List Int:=[n / 256 % 256,n % 256]
theorem numB_set {n:Int} {k:Nat} (h:k<2):((numB n).take k++List.replicate (2-k) (0:Int)).set k (n / 2 ^ (8*((2:Int)-1-(k:Nat))).toNat % 256)=(numB n).take (k+1)++List.replicate (2-(k+1)) 0:=by
  rcases Nat.lt_succ_iff_lt_or_eq.1 h with h | rfl
  · obtain rfl:k=0:=by omega
    simp[numB]
  · simp[numB]
def addrB (k:Int) (q:List Int) (nm:List UInt8) (p:Int):List Int:=(k::(if k=1 then q else((nm.length:Nat):Int)::textI nm))++numB p
theorem addrB_len {k:Int} {q:List Int} {nm:List UInt8} {p:Int} (h:addrOk k q nm p=true):(addrB k q nm p).length≤24:=by
  by_cases h1:k=1
  · subst h1
    rw[addr1]at h
    simp only[Bool.and_eq_true]at h
    have:=quadOk_len h.2.1
    simp[addrB,numB,this]
  · by_cases h3:k=3
    · subst h3
      rw[addr3]at h
      simp only[Bool.and_eq_true]at h
      have:=nameOk_len h.2.1
      simp[addrB,numB,textI_len]
      omega
    · rw[addr_no q nm p h1 h3]at h
      cases h
theorem addrOk_fit {k:Int} {q:List Int} {nm:List UInt8} {p:Int} (h:addrOk k q nm p=true):0≤p∧p≤65535∧(k=1→q.length=4)∧(¬ k=1→nm.length≤20):=by
  have hp:0≤p∧p≤65535:=by
    rcases Decidable.em (0≤p∧p≤65535) with hp | hp
    · exact hp
    · rw[addr_port q nm hp]at h
      cases h
  refine⟨hp.1,hp.2,fun h1=>?_,fun h1=>?_⟩
  · rw[addr_is1 h1]at h
    simp only[Bool.and_eq_true]at h
    exact quadOk_len h.2.1
  · by_cases h3:k=3
    · rw[addr_is3 h3]at h
      simp only[Bool.and_eq_true]at h
      exact nameOk_len h.2.1
    · rw[addr_no q nm p h1 h3]at h
      cases h
def reqOk (c k:Int) (q:List Int) (nm:List UInt8) (p:Int):Bool:=decide (1≤c∧c≤3) && addrOk k q nm p
def reqP (c k:Int) (q:List Int) (nm:List UInt8) (p:Int):List Int×Bool:=if reqOk c k q nm p then([5,c,0]++addrB k q nm p,true) else([],false)
def loginP (u w:List UInt8):List Int×Bool:=if loginOk u w then([1,((u.length:Nat):Int)]++textI u++[((w.length:Nat):Int)]++textI w,true) else([],false)
theorem loginOk_fit {u w:List UInt8} (h:loginOk u w=true):u.length≤8∧w.length≤8:=by
  simp only[loginOk,Bool.and_eq_true]at h
  exact⟨userOk_len h.1.2,userOk_len h.2⟩
theorem num_and {n:Int} {k:Nat} (h:0≤n∧n≤65535):0≤n / 2 ^ k:=Int.ediv_nonneg h.1 (Int.le_of_lt (Int.pow_pos (by decide)))
def numM (n:Int) (k:Nat):Int:=match k with | 0=>n | 1=>n / 256 | _=>n / 256 / 256
theorem numM_step {n:Int} {k:Nat} (h:k<2):numM n k / 256=numM n (k+1):=by
  match k,h with
  | 0,_=>rfl
  | 1,_=>rfl
def numR (n:Int) (k:Nat):List Int:=match k with | 0=>[0,0] | 1=>[0,n % 256] | _=>numB n
theorem numR_step {n:Int} {k i:Nat} (h:k<2) (hi:i=1-k):(numR n k).set i (numM n k % 256)=numR n (k+1):=by
  match k,h with
  | 0,_=>subst hi; rfl
  | 1,_=>subst hi; rfl
theorem num_and2 {n:Int} {k:Nat} (h:0≤n∧n≤65535):n / 2 ^ k≤9223372036854775807:=by
  have:=Int.ediv_le_self (a:=n) (2 ^ k) h.1
  omega
theorem reqOk_addr {c k:Int} {q:List Int} {nm:List UInt8} {p:Int} (h:reqOk c k q nm p=true):addrOk k q nm p=true:=by
  simp only[reqOk,Bool.and_eq_true]at h
  exact h.2
theorem decDigits_small {n:Int} (h0:0≤n) (h1:n<10):[UInt8.ofNat (48+n).toNat]=Lib.itoa n:=by
  have h2:n.toNat<10:=by omega
  unfold Lib.itoa
  rw[if_neg (by omega),Lib.decDigits,dif_pos h2]
  congr 2
  omega
theorem decDigits_big {n:Int} (h1: ¬ n<10):Lib.itoa (n / 10)++[UInt8.ofNat (48+n % 10).toNat]=Lib.itoa n:=by
  have h2: ¬ n.toNat<10:=by omega
  unfold Lib.itoa
  rw[if_neg (by omega),if_neg (by omega),Lib.decDigits.eq_def n.toNat,dif_neg h2]
  have e1:(n / 10).toNat=n.toNat / 10:=by omega
  have e2:(48+n % 10).toNat=48+n.toNat % 10:=by omega
  rw[e1,e2]
def quadT (q:List Int):List UInt8:=Lib.join (q.map Lib.itoa) [46]
theorem quad_get {q:List Int} {k:Nat} (h:quadOk q=true) (hk:k<q.length):0≤q.getD k 0∧q.getD k 0≤255:=by
  simp only[quadOk,Bool.and_eq_true]at h
  exact isBytes_get h.2 hk
theorem quad_set {q:List Int} {k:Nat} (hk:k<q.length):((q.map Lib.itoa).take k++List.replicate (q.length-k) ([]:List UInt8)).set k (Lib.itoa (q.getD k 0))=(q.map Lib.itoa).take (k+1)++List.replicate (q.length-(k+1)) []:=by
  have:=copy_setG (xs:=q.map Lib.itoa) (k:=k) (d:=([]:List UInt8)) (by simpa using hk)
  have e1:(q.map Lib.itoa).getD k []=Lib.itoa (q.getD k 0):=by
    simp only[gQ,List.getElem?_map,gE hk,Option.map_some,Option.getD_some]
  rwa [e1,List.length_map]at this
theorem itoa_b {x:Int} (h:0≤x∧x≤255):(Lib.itoa x).length≤21:=Lib.itoa_length_le x (by omega) (by omega)
theorem quadT_eq {q:List Int} (h:q.length=4):quadT q=Lib.itoa (q.getD 0 0)++[46]++Lib.itoa (q.getD 1 0)++[46]++Lib.itoa (q.getD 2 0)++[46]++Lib.itoa (q.getD 3 0):=by
  match q,h with
  | [a,b,c,d],_=>simp[quadT,Lib.join,List.intercalate]
theorem quadT_len {q:List Int} (h:quadOk q=true):(quadT q).length≤87:=by
  have h4:=quadOk_len h
  have g0:=itoa_b (quad_get h (k:=0) (by omega))
  have g1:=itoa_b (quad_get h (k:=1) (by omega))
  have g2:=itoa_b (quad_get h (k:=2) (by omega))
  have g3:=itoa_b (quad_get h (k:=3) (by omega))
  rw[quadT_eq h4]
  simp only[List.length_append,List.length_cons,List.length_nil]
  omega
def hostT (k:Int) (q:List Int) (nm:List UInt8):List UInt8:=if k=1 then quadT q else nm
theorem addr_quad {k:Int} {q:List Int} {nm:List UInt8} {p:Int} (h:addrOk k q nm p=true) (h1:k=1):quadOk q=true:=by
  rw[addr_is1 h1]at h
  simp only[Bool.and_eq_true]at h
  exact h.2.1
theorem hostT_len {k:Int} {q:List Int} {nm:List UInt8} {p:Int} (h:addrOk k q nm p=true):(hostT k q nm).length≤87:=by
  unfold hostT
  split
  · rename_i h1
    exact quadT_len (addr_quad h h1)
  · rename_i h1
    have:=(addrOk_fit h).2.2.2 h1
    omega
def sufP (s t:List UInt8):Prop:=t.length≤s.length∧s.drop (s.length-t.length)=t
instance (s t:List UInt8):Decidable (sufP s t):=inferInstanceAs (Decidable (_∧_))
theorem quad_whole {q:List Int} {k:Nat} (hk:k=q.length):(q.map Lib.itoa).take k++List.replicate (q.length-k) ([]:List UInt8)=q.map Lib.itoa:=by
  subst hk
  rw[List.take_of_length_le (by simp),Nat.sub_self,List.replicate_zero,List.append_nil]
theorem dec_digit (u:Nat): ∀ c∈Lib.decDigits u,48≤c.toNat∧c.toNat≤57:=by
  induction u using Nat.strongRecOn with
  | _ u ih=>
    rw[Lib.decDigits]
    split
    · rename_i h
      intro c hc
      obtain rfl:c=UInt8.ofNat (48+u):=by simpa only[List.mem_singleton] using hc
      rw[UInt8.toNat_ofNat']
      omega
    · intro c hc
      rcases List.mem_append.1 hc with hc | hc
      · exact ih (u / 10) (by omega) c hc
      · obtain rfl:c=UInt8.ofNat (48+u % 10):=by simpa only[List.mem_singleton] using hc
        rw[UInt8.toNat_ofNat']
        omega
theorem dec_len3 {u:Nat} (h:u<1000):(Lib.decDigits u).length≤3:=by
  rw[Lib.decDigits]
  split
  · simp
  · rw[Lib.decDigits]
    split
    · simp
    · rw[Lib.decDigits]
      split
      · simp
      · omega
theorem itoa_digit {x:Int} (h:0≤x): ∀ c∈Lib.itoa x,48≤c.toNat∧c.toNat≤57:=by
  unfold Lib.itoa
  rw[if_neg (by omega)]
  exact dec_digit _
theorem itoa_len3 {x:Int} (h:0≤x∧x≤255):(Lib.itoa x).length≤3:=by
  unfold Lib.itoa
  rw[if_neg (by omega)]
  exact dec_len3 (by omega)
theorem splitB_cover (c:UInt8) (l:List UInt8): ∀ x∈l,x=c∨ ∃ p∈splitB c l,x∈p:=by
  induction l with
  | nil=>simp
  | cons a l ih=>
    intro x hx
    rw[splitB]
    rcases List.mem_cons.1 hx with rfl | hx
    · split
      · rename_i h; exact .inl h
      · right
        cases hs:splitB c l with
        | nil=>exact⟨[x],by simp,by simp⟩
        | cons p ps=>exact⟨x::p,by simp,by simp⟩
    · rcases ih x hx with h | ⟨p,hp,hxp⟩
      · exact .inl h
      · right
        split
        · exact⟨p,List.mem_cons_of_mem _ hp,hxp⟩
        · cases hs:splitB c l with
          | nil=>rw[hs]at hp; cases hp
          | cons r rs=>
            rw[hs]at hp
            rcases List.mem_cons.1 hp with rfl | hp
            · exact⟨a::p,by simp,List.mem_cons_of_mem _ hxp⟩
            · exact⟨p,List.mem_cons_of_mem _ hp,hxp⟩
theorem okC_dig {c:UInt8} (h:48≤c.toNat∧c.toNat≤57):okC [45,46] c=true:=by
  rw[okC_iff]
  left; right
  omega
theorem okC_45 {c:UInt8} (h:okC [45] c=true):okC [45,46] c=true:=by
  rw[okC_iff]at*
  rcases h with h | h
  · exact .inl h
  · right
    simp at h
    simp[h]
theorem okC_46:okC [45,46] 46=true:=by
  rw[okC_iff]
  right
  simp
theorem quadT_ok {q:List Int} (h:quadOk q=true):(quadT q).length≤15∧ ∀ c∈quadT q,okC [45,46] c=true:=by
  have h4:=quadOk_len h
  have g0:=quad_get h (k:=0) (by omega)
  have g1:=quad_get h (k:=1) (by omega)
  have g2:=quad_get h (k:=2) (by omega)
  have g3:=quad_get h (k:=3) (by omega)
  rw[quadT_eq h4]
  refine⟨?_,?_⟩
  · have l0:=itoa_len3 g0
    have l1:=itoa_len3 g1
    have l2:=itoa_len3 g2
    have l3:=itoa_len3 g3
    simp only[List.length_append,List.length_cons,List.length_nil]
    omega
  · intro c hc
    simp only[List.mem_append,List.mem_singleton]at hc
    rcases hc with (((((hc | rfl) | hc) | rfl) | hc) | rfl) | hc
    · exact okC_dig (itoa_digit g0.1 c hc)
    · exact okC_46
    · exact okC_dig (itoa_digit g1.1 c hc)
    · exact okC_46
    · exact okC_dig (itoa_digit g2.1 c hc)
    · exact okC_46
    · exact okC_dig (itoa_digit g3.1 c hc)
theorem name_ok {l:List UInt8} (h:nameOk l=true):l.length≤20∧ ∀ c∈l,okC [45,46] c=true:=by
  refine⟨nameOk_len h,fun c hc=>?_⟩
  simp only[nameOk,Bool.and_eq_true]at h
  rcases splitB_cover 46 l c hc with rfl | ⟨p,hp,hcp⟩
  · exact okC_46
  · have:=List.all_eq_true.1 h.1.1 p hp
    simp only[partOk,Bool.and_eq_true]at this
    exact okC_45 (List.all_eq_true.1 this.2 c hcp)
theorem host_ok {k:Int} {q:List Int} {nm:List UInt8} {p:Int} (h:addrOk k q nm p=true):(hostT k q nm).length≤20∧ ∀ c∈hostT k q nm,okC [45,46] c=true:=by
  unfold hostT
  split
  · rename_i h1
    have:=quadT_ok (addr_quad h h1)
    exact⟨by omega,this.2⟩
  · rename_i h1
    by_cases h3:k=3
    · rw[addr_is3 h3]at h
      simp only[Bool.and_eq_true]at h
      exact name_ok h.2.1
    · rw[addr_no q nm p h1 h3]at h
      cases h
theorem okC_58 {c:UInt8} (h:okC [45,46] c=true):c≠58:=by
  intro he
  subst he
  revert h
  rw[okC_iff]
  simp
def addrT (k:Int) (q:List Int) (nm:List UInt8) (p:Int):List UInt8:=if addrOk k q nm p then hostT k q nm++[58]++Lib.itoa p else[]
theorem addrT_len (k:Int) (q:List Int) (nm:List UInt8) (p:Int):(addrT k q nm p).length≤42:=by
  unfold addrT
  split
  · rename_i h
    have h1:=(host_ok h).1
    have h2:=addrOk_fit h
    have h3:=Lib.itoa_length_le p (by omega) (by omega)
    simp only[List.length_append,List.length_cons,List.length_nil]
    omega
  · simp
def oldOk (c k:Int) (q:List Int) (nm:List UInt8) (p:Int) (u:List UInt8):Bool:=decide (1≤c∧c≤2) && addrOk k q nm p && userOk u && (decide (k=3) || decide (q.take 3≠[0,0,0]))
def oldB (c k:Int) (q:List Int) (nm:List UInt8) (p:Int) (u:List UInt8):List Int:=[4,c]++numB p++(if k=3 then[0,0,0,1] else q)++textI u++[0]++(if k=3 then textI nm++[0] else[])
def oldP (c k:Int) (q:List Int) (nm:List UInt8) (p:Int) (u:List UInt8):List Int×Bool:=if oldOk c k q nm p u then(oldB c k q nm p u,true) else([],false)
theorem oldOk_parts {c k:Int} {q:List Int} {nm:List UInt8} {p:Int} {u:List UInt8} (h:oldOk c k q nm p u=true):(1≤c∧c≤2)∧addrOk k q nm p=true∧userOk u=true∧(k=3∨q.take 3≠[0,0,0]):=by
  simp only[oldOk,Bool.and_eq_true,Bool.or_eq_true,decide_eq_true_eq]at h
  exact⟨h.1.1.1,h.1.1.2,h.1.2,h.2⟩
theorem addr_fit2 {k:Int} {q:List Int} {nm:List UInt8} {p:Int} (h:addrOk k q nm p=true):(k=1∨k=3)∧q.length≤4∧nm.length≤20∧(k=1→nm=[])∧(k=3→q=[]):=by
  by_cases h1:k=1
  · subst h1
    rw[addr1]at h
    simp only[Bool.and_eq_true,decide_eq_true_eq]at h
    have:=quadOk_len h.2.1
    exact⟨.inl rfl,by omega,by rw[h.2.2]; simp,fun _=>h.2.2,fun h3=>by omega⟩
  · by_cases h3:k=3
    · subst h3
      rw[addr3]at h
      simp only[Bool.and_eq_true,decide_eq_true_eq]at h
      have:=nameOk_len h.2.1
      exact⟨.inr rfl,by rw[h.2.2]; simp,this,fun h1=>by omega,fun _=>h.2.2⟩
    · rw[addr_no q nm p h1 h3]at h
      cases h
theorem take3_zero {q:List Int} (h4:q.length=4) (hb:isBytes q=true):(decide (q.take 3≠[0,0,0]))=decide ((0:Int)<q.getD 0 0+q.getD 1 0+q.getD 2 0):=by
  have g0:=isBytes_get hb (k:=0) (by omega)
  have g1:=isBytes_get hb (k:=1) (by omega)
  have g2:=isBytes_get hb (k:=2) (by omega)
  match q,h4 with
  | [a,b,c,d],_=>
    simp only[List.getD_cons_zero,List.getD_cons_succ]at*
    congr 1
    apply propext
    simp
    constructor
    · intro h
      by_cases ha:a=0
      · by_cases hb:b=0
        · have:=h ha hb
          omega
        · omega
      · omega
    · intro h ha hb hc
      omega
theorem addr_quad4 {k:Int} {q:List Int} {nm:List UInt8} {p:Int} (h:addrOk k q nm p=true) (h3: ¬ k=3):q.length=4∧isBytes q=true:=by
  have h1:k=1:=by rcases (addr_fit2 h).1 with h | h <;> omega
  have:=addr_quad h h1
  simp only[quadOk,Bool.and_eq_true,decide_eq_true_eq]at this
  exact this
def connW (t:List UInt8):List UInt8:=[67,79,78,78,69,67,84,32]++t++[32,72,84,84,80,47,49,46,49,13,10,72,111,115,116,58,32]++t++[13,10,13,10]
def connT (k:Int) (q:List Int) (nm:List UInt8) (p:Int):List UInt8:=if addrOk k q nm p then connW (addrT k q nm p) else[]
theorem connT_len (k:Int) (q:List Int) (nm:List UInt8) (p:Int):(connT k q nm p).length≤120:=by
  unfold connT connW
  have:=addrT_len k q nm p
  split
  · simp only[List.length_append,List.length_cons,List.length_nil]
    omega
  · simp
theorem addrT_nil {k:Int} {q:List Int} {nm:List UInt8} {p:Int}:addrT k q nm p=[]↔addrOk k q nm p=false:=by
  unfold addrT
  cases h:addrOk k q nm p <;> simp
def replyP (c k:Int) (q:List Int) (nm:List UInt8) (p:Int):List Int×Bool:=if (0≤c∧c≤8)∧addrOk k q nm p=true then([5,c,0]++addrB k q nm p,true) else([],false)
theorem replyP_len (c k:Int) (q:List Int) (nm:List UInt8) (p:Int):(replyP c k q nm p).1.length≤27:=by
  unfold replyP
  split
  · rename_i h
    have:=addrB_len h.2
    simp
    omega
  · simp
theorem oldOk_3 {c k:Int} {q:List Int} {nm:List UInt8} {p:Int} {u:List UInt8} (h1:1≤c∧c≤2) (h2:addrOk k q nm p=true) (h3:userOk u=true) (h:k=3):oldOk c k q nm p u=true:=by
  unfold oldOk
  rw[h2,h3,decide_eq_true h1,decide_eq_true h]
  rfl
theorem oldOk_1 {c k:Int} {q:List Int} {nm:List UInt8} {p:Int} {u:List UInt8} (h1:1≤c∧c≤2) (h2:addrOk k q nm p=true) (h3:userOk u=true) (h: ¬ k=3):oldOk c k q nm p u=decide (q.take 3≠[0,0,0]):=by
  unfold oldOk
  rw[h2,h3,decide_eq_true h1,decide_eq_false h]
  simp
theorem oldOk_1s {c k:Int} {q:List Int} {nm:List UInt8} {p:Int} {u:List UInt8} (h1:1≤c∧c≤2) (h2:addrOk k q nm p=true) (h3:userOk u=true) (h: ¬ k=3):oldOk c k q nm p u=decide ((0:Int)<q.getD 0 0+q.getD 1 0+q.getD 2 0):=by
  have hq:=addr_quad4 h2 h
  rw[oldOk_1 h1 h2 h3 h,take3_zero hq.1 hq.2]
theorem oldP_yes {c k:Int} {q:List Int} {nm:List UInt8} {p:Int} {u:List UInt8} (h:oldOk c k q nm p u=true):oldP c k q nm p u=(oldB c k q nm p u,true):=if_pos h
theorem oldB_3 {c k:Int} {q:List Int} {nm:List UInt8} {p:Int} {u:List UInt8} (h:k=3):oldB c k q nm p u=((((([4,c]++numB p)++[0,0,0,1])++textI u)++[0])++textI nm)++[0]:=by simp[oldB,h]
theorem oldB_1 {c k:Int} {q:List Int} {nm:List UInt8} {p:Int} {u:List UInt8} (h: ¬ k=3):oldB c k q nm p u=((([4,c]++numB p)++q)++textI u)++[0]:=by simp[oldB,h]
def markT (k:Int):List UInt8:=if k≤0 then[109,48] else[109]++Lib.itoa k
def markR (k0:Int) (n:Nat):List (List UInt8×Int×Bool):=(List.range n).map fun i=>(markT (k0+3*((i:Nat):Int)),k0+3*((i:Nat):Int)+1,decide ((k0+3*((i:Nat):Int)+1+1) % 3=0))
@[simp] theorem markR_len (k0:Int) (n:Nat):(markR k0 n).length=n:=by simp[markR]
def digB (c:UInt8):Bool:=decide (48≤((c.toNat:Nat):Int)∧((c.toNat:Nat):Int)≤57)
def numF (s:List UInt8):Int:=s.foldl (fun n c=>10*n+(((c.toNat:Nat):Int)-48)) 0
def numD (s:List UInt8):Int:=if (1≤s.length∧s.length≤5)∧s.all digB=true then numF s else -1
theorem numF_snoc (s:List UInt8) (c:UInt8):numF (s++[c])=10*numF s+(((c.toNat:Nat):Int)-48):=by simp[numF]
theorem numF_take {s:List UInt8} {k:Nat} (h:k<s.length):numF (s.take (k+1))=10*numF (s.take k)+((((s.getD k 0).toNat:Nat):Int)-48):=by
  rw[List.take_succ_eq_append_getElem h,numF_snoc,gQ,gE h]
  rfl
theorem dec_lt10 {u:Nat} (h:u<10):Lib.decDigits u=[UInt8.ofNat (48+u)]:=by rw[Lib.decDigits,dif_pos h]
theorem dec_ge10 {u:Nat} (h: ¬ u<10):Lib.decDigits u=Lib.decDigits (u / 10)++[UInt8.ofNat (48+u % 10)]:=by rw[Lib.decDigits.eq_def u,dif_neg h]
theorem dig_val {d:Nat} (h:d<10):(UInt8.ofNat (48+d)).toNat=48+d:=by
  rw[UInt8.toNat_ofNat']
  omega
theorem numF_dec (u:Nat):numF (Lib.decDigits u)=(u:Int):=by
  induction u using Nat.strongRecOn with
  | _ u ih=>
    by_cases h:u<10
    · rw[dec_lt10 h]
      have:=dig_val h
      simp only[numF,List.foldl_cons,List.foldl_nil,this]
      omega
    · rw[dec_ge10 h,numF_snoc,ih (u / 10) (by omega),dig_val (Nat.mod_lt _ (by decide))]
      omega
theorem dec_ne (u:Nat):Lib.decDigits u≠[]:=by
  by_cases h:u<10
  · rw[dec_lt10 h]; simp
  · rw[dec_ge10 h]; simp
theorem dec_len5 {u:Nat} (h:u<100000):(Lib.decDigits u).length≤5:=by
  rw[Lib.decDigits]
  split
  · simp
  · rw[Lib.decDigits]
    split
    · simp
    · rw[Lib.decDigits]
      split
      · simp
      · rw[Lib.decDigits]
        split
        · simp
        · rw[Lib.decDigits]
          split
          · simp
          · omega
theorem decFrom_app: ∀ (l m:List UInt8) (a:Nat),Lib.decFrom a (l++m)=(Lib.decFrom a l).bind (fun b=>Lib.decFrom b m)
  | [],m,a=>rfl
  | c::l,m,a=>by
    rw[List.cons_append,Lib.decFrom,Lib.decFrom]
    cases Lib.digitVal c with
    | none=>rfl
    | some d=>exact decFrom_app l m _
theorem digVal {d:Nat} (h:d<10):Lib.digitVal (UInt8.ofNat (48+d))=some d:=by
  unfold Lib.digitVal
  rw[dig_val h,if_pos (by omega)]
  congr 1
  omega
theorem decFrom_dec (u:Nat):Lib.decFrom 0 (Lib.decDigits u)=some u:=by
  induction u using Nat.strongRecOn with
  | _ u ih=>
    by_cases h:u<10
    · rw[dec_lt10 h,Lib.decFrom,digVal h]
      simp[Lib.decFrom]
    · rw[dec_ge10 h,decFrom_app,ih (u / 10) (by omega)]
      simp only[Option.bind_some,Lib.decFrom,digVal (Nat.mod_lt u (show 0<10 by decide))]
      congr 1
      omega
theorem itoa_nn {x:Int} (h:0≤x):Lib.itoa x=Lib.decDigits x.toNat:=by
  unfold Lib.itoa
  rw[if_neg (by omega)]
theorem atoi_itoa {x:Int} (h:0≤x∧x≤65535):Lib.atoiAll (Lib.itoa x)=.ok x:=by
  rw[itoa_nn h.1,Lib.atoiAll_short _ (Nat.le_trans (dec_len5 (by omega)) (by decide))]
  have hd:=dec_digit x.toNat
  have hf:=decFrom_dec x.toNat
  cases hl:Lib.decDigits x.toNat with
  | nil=>exact absurd hl (dec_ne _)
  | cons c r=>
    rw[hl]at hd hf
    have hc:=hd c (List.mem_cons_self ..)
    have h1: ¬ c=45:=fun he=>by subst he; revert hc; decide
    have h2: ¬ c=43:=fun he=>by subst he; revert hc; decide
    simp only[Lib.atoi,beq_iff_eq,if_neg h1,if_neg h2,Lib.decNat,List.isEmpty_cons,hf,Bool.false_eq_true,if_false,Option.map_some,Lib.NumEnd.ofOption]
    congr 1
    omega
theorem numD_itoa {x:Int} (h:0≤x∧x≤65535):numD (Lib.itoa x)=x:=by
  rw[itoa_nn h.1]
  have h1:=dec_len5 (show x.toNat<100000 by omega)
  have h2:1≤(Lib.decDigits x.toNat).length:=List.length_pos_iff.2 (dec_ne _)
  unfold numD
  rw[if_pos ⟨⟨h2,h1⟩,List.all_eq_true.2 fun c hc=>by have:=dec_digit _ c hc; simp only[digB,decide_eq_true_eq]; omega⟩,numF_dec]
  omega
def decI (s:List UInt8):Int×Bool:=match Lib.atoiAll s with
  | .ok v=>(v,decide (Lib.itoa v=s))
  | Lib.NumEnd.syntax=>(0,false)
  | .range=>(Lib.atoiSat s,false)
theorem decI_itoa {x:Int} (h:0≤x∧x≤65535):decI (Lib.itoa x)=(x,true):=by simp[decI,atoi_itoa h]
theorem decI_ok {s:List UInt8} (h:(decI s).2=true):Lib.itoa (decI s).1=s:=by
  unfold decI at*
  split <;> rename_i h1 <;> rw[h1]at h
  · simpa using h
  · cases h
  · cases h
def quadD (s:List UInt8):List Int:=(splitB 46 s).map numD
def quadFrom (s:List UInt8):List Int×Bool:=if quadOk (quadD s)=true∧quadT (quadD s)=s then(quadD s,true) else([],false)
theorem no46 {x:Int} (h:0≤x): ∀ c∈Lib.itoa x,c≠46:=by
  intro c hc he
  have:=itoa_digit h c hc
  subst he
  revert this
  decide
theorem split_quad {q:List Int} (h:quadOk q=true):splitB 46 (quadT q)=q.map Lib.itoa:=by
  have h4:=quadOk_len h
  have g0:=quad_get h (k:=0) (by omega)
  have g1:=quad_get h (k:=1) (by omega)
  have g2:=quad_get h (k:=2) (by omega)
  have g3:=quad_get h (k:=3) (by omega)
  rw[quadT_eq h4]
  match q,h4 with
  | [a,b,c,d],_=>
    simp only[List.getD_cons_zero,List.getD_cons_succ]at*
    have e:Lib.itoa a++[46]++Lib.itoa b++[46]++Lib.itoa c++[46]++Lib.itoa d=Lib.itoa a++46::(Lib.itoa b++46::(Lib.itoa c++46::Lib.itoa d)):=by simp
    rw[e,splitB_at (no46 g0.1),splitB_at (no46 g1.1),splitB_at (no46 g2.1),splitB_no (no46 g3.1)]
    rfl
theorem quadD_quad {q:List Int} (h:quadOk q=true):quadD (quadT q)=q:=by
  unfold quadD
  rw[split_quad h,List.map_map]
  conv=>rhs; rw[← List.map_id q]
  refine List.map_congr_left fun x hx=>?_
  obtain ⟨k,hk,rfl⟩:=List.getElem_of_mem hx
  have:=quad_get h hk
  rw[gQ,gE hk]at this
  exact numD_itoa (by simp at this; omega)
theorem quadFrom_quad {q:List Int} (h:quadOk q=true):quadFrom (quadT q)=(q,true):=by
  unfold quadFrom
  rw[quadD_quad h,if_pos ⟨h,rfl⟩]
theorem quadFrom_ok {s:List UInt8} (h:(quadFrom s).2=true):quadOk (quadFrom s).1=true∧quadT (quadFrom s).1=s:=by
  unfold quadFrom at*
  split at h
  · rename_i hh
    rw[if_pos hh]
    exact hh
  · cases h
theorem quadFrom_no {s:List UInt8} (h:(quadFrom s).2=false):quadFrom s=([],false):=by
  unfold quadFrom at*
  split at h
  · cases h
  · rename_i hh
    rw[if_neg hh]
theorem quadFrom_eq {s:List UInt8} {q:List Int} (h:quadOk q=true) (hs:quadT q=s):quadFrom s=(q,true):=by
  subst hs
  exact quadFrom_quad h
theorem join_cons2 (x y:List UInt8) (r:List (List UInt8)) (c:UInt8):Lib.join (x::y::r) [c]=x++c::Lib.join (y::r) [c]:=by
  rw[Lib.join_cons,Lib.join_cons]
  simp[Lib.joinTail]
theorem join_split (c:UInt8) (s:List UInt8):Lib.join (splitB c s) [c]=s:=by
  induction s with
  | nil=>rfl
  | cons a l ih=>
    rw[splitB]
    have hp:=splitB_pos c l
    cases hs:splitB c l with
    | nil=>rw[hs]at hp; simp at hp
    | cons p ps=>
      rw[hs]at ih
      split
      · rename_i h
        rw[join_cons2,ih,h]
        rfl
      · simp only
        rw[Lib.join_cons]at*
        rw[List.cons_append,ih]
theorem quad_parts {s:List UInt8} {q:List Int} (h:splitB 46 s=q.map Lib.itoa) (hq:quadOk q=true):quadFrom s=(q,true):=by
  refine quadFrom_eq hq ?_
  unfold quadT
  rw[← h]
  exact join_split 46 s
def addrOf (host:List UInt8) (port:Int):Int×List Int×List UInt8×Int:=if (quadFrom host).2 then(1,(quadFrom host).1,[],port) else(3,[],host,port)
def addrFrom (s:List UInt8):(Int×List Int×List UInt8×Int)×Bool:=
  let w:=splitB 58 s
  let a:=addrOf (w.getD 0 []) (numD (w.getD 1 []))
  if w.length=2∧addrOk a.1 a.2.1 a.2.2.1 a.2.2.2=true∧addrT a.1 a.2.1 a.2.2.1 a.2.2.2=s then(a,true) else((0,[],[],0),false)
theorem no58 {k:Int} {q:List Int} {nm:List UInt8} {p:Int} (h:addrOk k q nm p=true): ∀ c∈hostT k q nm,c≠58:=fun c hc=>okC_58 ((host_ok h).2 c hc)
theorem no58i {x:Int} (h:0≤x): ∀ c∈Lib.itoa x,c≠58:=by
  intro c hc he
  have:=itoa_digit h c hc
  subst he
  revert this
  decide
theorem split_addr {k:Int} {q:List Int} {nm:List UInt8} {p:Int} (h:addrOk k q nm p=true):splitB 58 (addrT k q nm p)=[hostT k q nm,Lib.itoa p]:=by
  have hf:=addrOk_fit h
  have e:addrT k q nm p=hostT k q nm++58::Lib.itoa p:=by simp[addrT,h]
  rw[e,splitB_at (no58 h),splitB_no (no58i hf.1)]
theorem name_noquad {nm:List UInt8} (h:nameOk nm=true):(quadFrom nm).2=false:=by
  rcases Bool.eq_false_or_eq_true (quadFrom nm).2 with hq | hq
  · exfalso
    obtain ⟨h1,h2⟩:=quadFrom_ok hq
    have h3:=split_quad h1
    rw[h2]at h3
    have h4:=quadOk_len h1
    have g3:=quad_get h1 (k:=3) (by omega)
    simp only[nameOk,Bool.and_eq_true,decide_eq_true_eq]at h
    have h5:=h.2
    unfold lastC at h5
    rw[h3,List.length_map,h4]at h5
    have e:((quadFrom nm).1.map Lib.itoa).getD 3 []=Lib.itoa ((quadFrom nm).1.getD 3 0):=by
      simp only[gQ,List.getElem?_map,gE (show 3<(quadFrom nm).1.length by omega),Option.map_some,Option.getD_some]
    rw[show 4-1=3 from rfl,e]at h5
    have hd:=itoa_digit g3.1
    cases hl:Lib.itoa ((quadFrom nm).1.getD 3 0) with
    | nil=>
      rw[itoa_nn g3.1]at hl
      exact dec_ne _ hl
    | cons c r=>
      rw[hl]at hd h5
      have:=hd c (List.mem_cons_self ..)
      simp at h5
      omega
  · exact hq
theorem addrOf_addr {k:Int} {q:List Int} {nm:List UInt8} {p:Int} (h:addrOk k q nm p=true):addrOf (hostT k q nm) p=(k,q,nm,p):=by
  have hf:=addr_fit2 h
  unfold addrOf
  rcases hf.1 with h1 | h3
  · have hq:=addr_quad h h1
    have e:hostT k q nm=quadT q:=by simp[hostT,h1]
    rw[e,quadFrom_quad hq,hf.2.2.2.1 h1,h1]
    rfl
  · have hn:nameOk nm=true:=by
      rw[addr_is3 h3]at h
      simp only[Bool.and_eq_true]at h
      exact h.2.1
    have e:hostT k q nm=nm:=by simp[hostT,h3]
    rw[e,name_noquad hn,hf.2.2.2.2 h3,h3]
    rfl
theorem addrFrom_addr {k:Int} {q:List Int} {nm:List UInt8} {p:Int} (h:addrOk k q nm p=true):addrFrom (addrT k q nm p)=((k,q,nm,p),true):=by
  have hf:=addrOk_fit h
  unfold addrFrom
  simp only[split_addr h,List.getD_cons_zero,List.getD_cons_succ,List.length_cons,List.length_nil]
  rw[numD_itoa ⟨hf.1,hf.2.1⟩,addrOf_addr h,if_pos ⟨by trivial,h,rfl⟩]
theorem addrFrom_eq {s:List UInt8} {k:Int} {q:List Int} {nm:List UInt8} {p:Int} (h:addrOk k q nm p=true) (hs:addrT k q nm p=s):addrFrom s=((k,q,nm,p),true):=by
  subst hs
  exact addrFrom_addr h
theorem addrFrom_ok {s:List UInt8} (h:(addrFrom s).2=true):addrOk (addrFrom s).1.1 (addrFrom s).1.2.1 (addrFrom s).1.2.2.1 (addrFrom s).1.2.2.2=true∧addrT (addrFrom s).1.1 (addrFrom s).1.2.1 (addrFrom s).1.2.2.1 (addrFrom s).1.2.2.2=s:=by
  unfold addrFrom at*
  simp only at*
  split at h
  · rename_i hh
    rw[if_pos hh]
    exact hh.2
  · cases h
theorem addrFrom_no {s:List UInt8} (h:(addrFrom s).2=false):addrFrom s=((0,[],[],0),false):=by
  unfold addrFrom at*
  simp only at*
  split at h
  · cases h
  · rename_i hh
    rw[if_neg hh]
theorem addr_way {s host port:List UInt8} {n:Int} (hs:s=host++58::port) (hp:Lib.itoa n=port) (h:addrOk (addrOf host n).1 (addrOf host n).2.1 (addrOf host n).2.2.1 (addrOf host n).2.2.2=true):addrFrom s=(addrOf host n,true):=by
  have hh:hostT (addrOf host n).1 (addrOf host n).2.1 (addrOf host n).2.2.1=host:=by
    unfold addrOf
    split
    · rename_i hq
      simp[hostT,(quadFrom_ok hq).2]
    · simp[hostT]
  have hn:(addrOf host n).2.2.2=n:=by unfold addrOf; split <;> rfl
  have e:addrT (addrOf host n).1 (addrOf host n).2.1 (addrOf host n).2.2.1 (addrOf host n).2.2.2=hostT (addrOf host n).1 (addrOf host n).2.1 (addrOf host n).2.2.1++[58]++Lib.itoa (addrOf host n).2.2.2:=by simp[addrT,h]
  refine addrFrom_eq h (e.trans ?_)
  rw[hh,hn,hp,hs]
  simp
def tkF (bs:List Int) (s:Nat×Bool) (n:Nat):Bool:=s.2 || decide (bs.length<s.1+n)
def tkL (bs:List Int) (s:Nat×Bool) (n:Nat):List Int:=if tkF bs s n then List.replicate n 0 else(bs.drop s.1).take n
def tkS (bs:List Int) (s:Nat×Bool) (n:Nat):Nat×Bool:=if tkF bs s n then(s.1,true) else(s.1+n,false)
theorem tkF_yes {bs:List Int} {s:Nat×Bool} {n:Nat} (h:s.2=false) (h2:s.1+n≤bs.length):tkF bs s n=false:=by
  unfold tkF
  rw[h,decide_eq_false (by omega)]
  rfl
theorem tkF_no {bs:List Int} {s:Nat×Bool} {n:Nat} (h:s.2=true∨bs.length<s.1+n):tkF bs s n=true:=by
  unfold tkF
  rcases h with h | h <;> simp[h]
theorem tkL_yes {bs:List Int} {s:Nat×Bool} {n:Nat} (h:s.2=false) (h2:s.1+n≤bs.length):tkL bs s n=(bs.drop s.1).take n:=by simp[tkL,tkF_yes h h2]
theorem tkS_yes {bs:List Int} {s:Nat×Bool} {n:Nat} (h:s.2=false) (h2:s.1+n≤bs.length):tkS bs s n=(s.1+n,false):=by simp[tkS,tkF_yes h h2]
theorem tkL_no {bs:List Int} {s:Nat×Bool} {n:Nat} (h:s.2=true∨bs.length<s.1+n):tkL bs s n=List.replicate n 0:=by simp[tkL,tkF_no h]
theorem tkS_no {bs:List Int} {s:Nat×Bool} {n:Nat} (h:s.2=true∨bs.length<s.1+n):tkS bs s n=(s.1,true):=by simp[tkS,tkF_no h]
theorem tkS_ok {bs:List Int} {s:Nat×Bool} {n:Nat} (h:(tkS bs s n).2=false):s.2=false∧s.1+n≤bs.length∧tkS bs s n=(s.1+n,false)∧tkL bs s n=(bs.drop s.1).take n:=by
  rcases Bool.eq_false_or_eq_true s.2 with h1 | h1
  · rw[tkS_no (.inl h1)]at h
    cases h
  · rcases Nat.lt_or_ge bs.length (s.1+n) with h2 | h2
    · rw[tkS_no (.inr h2)]at h
      cases h
    · exact⟨h1,h2,tkS_yes h1 h2,tkL_yes h1 h2⟩
@[simp] theorem tkL_len (bs:List Int) (s:Nat×Bool) (n:Nat):(tkL bs s n).length=n:=by
  rcases Bool.eq_false_or_eq_true s.2 with h1 | h1
  · rw[tkL_no (.inl h1)]; simp
  · rcases Nat.lt_or_ge bs.length (s.1+n) with h2 | h2
    · rw[tkL_no (.inr h2)]; simp
    · rw[tkL_yes h1 h2]; simp; omega
theorem tkL_byte {bs:List Int} {s:Nat×Bool} {n:Nat} (hv:s.2=false→isBytes bs=true): ∀ x∈tkL bs s n,0≤x∧x≤255:=by
  rcases Bool.eq_false_or_eq_true s.2 with h1 | h1
  · rw[tkL_no (.inl h1)]
    intro x hx
    have:=List.eq_of_mem_replicate hx
    omega
  · rcases Nat.lt_or_ge bs.length (s.1+n) with h2 | h2
    · rw[tkL_no (.inr h2)]
      intro x hx
      have:=List.eq_of_mem_replicate hx
      omega
    · rw[tkL_yes h1 h2]
      intro x hx
      exact(isBytes_iff.1 (hv h1)).1 x (List.mem_of_mem_drop (List.mem_of_mem_take hx))
theorem getD_byte {l:List Int} (h: ∀ x∈l,0≤x∧x≤255) (k:Nat):0≤l.getD k 0∧l.getD k 0≤255:=by
  rw[gQ]
  by_cases hk:k<l.length
  · rw[gE hk]
    exact h _ (List.getElem_mem hk)
  · rw[List.getElem?_eq_none (by omega)]
    simp
def byV (bs:List Int) (s:Nat×Bool):Int:=(tkL bs s 1).getD 0 0
theorem byV_bd {bs:List Int} {s:Nat×Bool} (hv:s.2=false→isBytes bs=true):0≤byV bs s∧byV bs s≤255:=getD_byte (tkL_byte hv) 0
theorem byV_yes {bs:List Int} {s:Nat×Bool} (h:s.2=false) (h2:s.1+1≤bs.length):byV bs s=bs.getD s.1 0:=by
  unfold byV
  rw[tkL_yes h h2]
  simp only[gQ,List.getElem?_take,List.getElem?_drop]
  simp
def ofB (l:List Int):Int:=l.foldl (fun n x=>256*n+x) 0
theorem ofB_take {l:List Int} {k:Nat} (h:k<l.length):ofB (l.take (k+1))=256*ofB (l.take k)+l.getD k 0:=by
  rw[List.take_succ_eq_append_getElem h,gQ,gE h]
  unfold ofB
  rw[List.foldl_append]
  rfl
theorem ofB_bd {l:List Int} (h: ∀ x∈l,0≤x∧x≤255) (k:Nat):l.length≤2→0≤ofB (l.take k)∧ofB (l.take k)≤65535∧(k≤1→ofB (l.take k)≤255):=by
  intro hl
  match l,hl with
  | [],_=>simp[ofB]
  | [a],_=>
    have ha:=h a (by simp)
    match k with
    | 0=>simp[ofB]
    | k+1=>simp[ofB]; omega
  | [a,b],_=>
    have ha:=h a (by simp)
    have hb:=h b (by simp)
    match k with
    | 0=>simp[ofB]
    | 1=>simp[ofB]; omega
    | k+2=>simp[ofB]; omega
def exS (bs:List Int) (s:Nat×Bool) (l:List Int):Nat×Bool:=if tkL bs s l.length=l then tkS bs s l.length else((tkS bs s l.length).1,true)
theorem exS_ok {bs:List Int} {s:Nat×Bool} {l:List Int} (h:(exS bs s l).2=false):s.2=false∧s.1+l.length≤bs.length∧(bs.drop s.1).take l.length=l∧exS bs s l=(s.1+l.length,false):=by
  unfold exS at*
  split at h
  · rename_i hl
    obtain ⟨h1,h2,h3,h4⟩:=tkS_ok h
    rw[h4]at hl
    exact⟨h1,h2,hl,by rw[if_pos (by rw[h4]; exact hl),h3]⟩
  · cases h
theorem exS_yes {bs:List Int} {s:Nat×Bool} {l:List Int} (h:s.2=false) (h2:s.1+l.length≤bs.length) (h3:(bs.drop s.1).take l.length=l):exS bs s l=(s.1+l.length,false):=by
  unfold exS
  rw[tkL_yes h h2,if_pos h3,tkS_yes h h2]
def bT (l:List Int):List UInt8:=l.map fun x=>UInt8.ofNat x.toNat
@[simp] theorem bT_len (l:List Int):(bT l).length=l.length:=by simp[bT]
theorem bT_get {l:List Int} {k:Nat} (h:k<l.length):(bT l).getD k 0=UInt8.ofNat (l.getD k 0).toNat:=by
  simp only[bT,gQ,List.getElem?_map,gE h,Option.map_some,Option.getD_some]
theorem bT_set {l:List Int} {k:Nat} (h:k<l.length):((bT l).take k++List.replicate (l.length-k) (0:UInt8)).set k (UInt8.ofNat (l.getD k 0).toNat)=(bT l).take (k+1)++List.replicate (l.length-(k+1)) 0:=by
  have:=copy_setG (xs:=bT l) (k:=k) (d:=(0:UInt8)) (by rw[bT_len]; exact h)
  rwa [bT_get h,bT_len]at this
theorem bT_app {l:List Int} {k:Nat} (h:k<l.length):(bT l).take k++[UInt8.ofNat (l.getD k 0).toNat]=(bT l).take (k+1):=by
  rw[← bT_get h,List.take_succ_eq_append_getElem (by rw[bT_len]; exact h),gQ,gE (by rw[bT_len]; exact h)]
  rfl
theorem bT_all {l:List Int} {k:Nat} (h:l.length≤k):(bT l).take k=bT l:=List.take_of_length_le (by rw[bT_len]; exact h)
def txV (bs:List Int) (s:Nat×Bool):List UInt8:=bT (tkL bs (tkS bs s 1) (byV bs s).toNat)
def txS (bs:List Int) (s:Nat×Bool):Nat×Bool:=tkS bs (tkS bs s 1) (byV bs s).toNat
def adR (bs:List Int) (s:Nat×Bool):(Int×List Int×List UInt8×Int)×Nat×Bool:=
  let s1:=tkS bs s 1
  let s2:=if byV bs s=1 then tkS bs s1 4 else if byV bs s=3 then txS bs s1 else s1
  let q:=if byV bs s=1 then tkL bs s1 4 else[]
  let nm:=if byV bs s=3 then txV bs s1 else[]
  let p:=ofB (tkL bs s2 2)
  ((byV bs s,q,nm,p),if addrOk (byV bs s) q nm p=true then tkS bs s2 2 else((tkS bs s2 2).1,true))
theorem drop_take1 {b:List Int} {k:Nat} (h:k<b.length) (x:Int):(b.drop k).take 1=[x]↔b.getD k 0=x:=by
  rw[List.drop_eq_getElem_cons h,List.take_succ_cons,List.take_zero,gQ,gE h]
  exact⟨fun hx=>(List.cons.inj hx).1,fun hx=>by rw[← hx]; rfl⟩
theorem ex1 {b:List Int} {s:Nat×Bool} {x:Int} (h:(exS b s [x]).2=false):s.2=false∧s.1+1≤b.length∧b.getD s.1 0=x∧exS b s [x]=(s.1+1,false):=by
  obtain ⟨h1,h2,h3,h4⟩:=exS_ok h
  exact⟨h1,h2,(drop_take1 (by simp only[List.length_cons,List.length_nil]at h2; omega) x).1 h3,h4⟩
theorem ex1_yes {b:List Int} {s:Nat×Bool} {x:Int} (h:s.2=false) (h2:s.1+1≤b.length) (h3:b.getD s.1 0=x):exS b s [x]=(s.1+1,false):=exS_yes h h2 ((drop_take1 (by omega) x).2 h3)
theorem not_iff {b:Bool}:(!b)=false↔b=true:=by cases b <;> simp
def helloFrom (b:List Int):List Int×Int×Bool:=
  if isBytes b=true∧3≤b.length∧b.getD 0 0=5∧b.getD 1 0≤(b.length:Int)-2∧methOk ((b.drop 2).take (b.getD 1 0).toNat)=true then
    ((b.drop 2).take (b.getD 1 0).toNat,2+b.getD 1 0,true) else([],0,false)
def helloR (b:List Int):List Int×Int×Bool:=
  let s1:=exS b (0,!isBytes b) [5]
  let s2:=tkS b s1 1
  let ms:=tkL b s2 (byV b s1).toNat
  let s3:=tkS b s2 (byV b s1).toNat
  if s3.2=false∧methOk ms=true then(ms,(s3.1:Int),true) else([],0,false)
theorem helloR_eq (b:List Int):helloR b=helloFrom b:=by
  unfold helloR helloFrom
  simp only
  by_cases hc:isBytes b=true∧3≤b.length∧b.getD 0 0=5∧b.getD 1 0≤(b.length:Int)-2∧methOk ((b.drop 2).take (b.getD 1 0).toNat)=true
  · obtain ⟨h1,h2,h3,h4,h5⟩:=hc
    have hb:=isBytes_get h1 (k:=1) (by omega)
    have e1:exS b (0,!isBytes b) [5]=(1,false):=ex1_yes (by simp[h1]) (by simp; omega) h3
    have e2:byV b (1,false)=b.getD 1 0:=byV_yes rfl (by simp; omega)
    have e3:tkS b (1,false) 1=(2,false):=tkS_yes rfl (by simp; omega)
    have e4:tkL b (2,false) (b.getD 1 0).toNat=(b.drop 2).take (b.getD 1 0).toNat:=tkL_yes rfl (by show 2+(b.getD 1 0).toNat≤b.length; omega)
    have e5:tkS b (2,false) (b.getD 1 0).toNat=(2+(b.getD 1 0).toNat,false):=tkS_yes rfl (by show 2+(b.getD 1 0).toNat≤b.length; omega)
    rw[e1,e2,e3,e4,e5,if_pos ⟨rfl,h5⟩,if_pos ⟨h1,h2,h3,h4,h5⟩]
    simp only[Prod.mk.injEq,true_and,and_true]
    omega
  · rw[if_neg hc,if_neg]
    rintro ⟨h1,h2⟩
    obtain ⟨g1,g2,g3,g4⟩:=tkS_ok h1
    obtain ⟨k1,k2,k3,k4⟩:=tkS_ok g1
    obtain ⟨m1,m2,m3,m4⟩:=ex1 k1
    have hb:isBytes b=true:=not_iff.1 m1
    rw[m4]at k2 k3
    rw[m4,byV_yes rfl k2,k3]at g2 g4
    rw[m4,byV_yes rfl k2,k3,g4]at h2
    simp only[Nat.zero_add]at g2 k2 h2 m3 ⊢
    have hb1:=isBytes_get hb (k:=1) (by omega)
    have hm:=(methOk_len h2).1
    rw[List.length_take]at hm
    exact hc ⟨hb,by omega,m3,by omega,h2⟩
theorem helloFrom_ok {b:List Int} (h:(helloFrom b).2.2=true):isBytes b=true∧3≤b.length∧b.getD 0 0=5∧b.getD 1 0≤(b.length:Int)-2∧methOk (helloFrom b).1=true∧helloFrom b=((b.drop 2).take (b.getD 1 0).toNat,2+b.getD 1 0,true)∧(helloFrom b).2.1≤b.length:=by
  unfold helloFrom at*
  split at h
  · rename_i hc
    rw[if_pos hc]
    exact⟨hc.1,hc.2.1,hc.2.2.1,hc.2.2.2.1,hc.2.2.2.2,rfl,by simp only; omega⟩
  · cases h
def loginFrom (b:List Int):(List UInt8×List UInt8)×Int×Bool:=
  let at_:=2+(b.getD 1 0).toNat
  let en:=at_+1+(b.getD at_ 0).toNat
  let u:=bT ((b.take at_).drop 2)
  let w:=bT ((b.take en).drop (at_+1))
  if isBytes b=true∧5≤b.length∧b.getD 0 0=1∧b.getD 1 0≤(b.length:Int)-3∧b.getD at_ 0≤(b.length:Int)-at_-1∧loginOk u w=true then((u,w),(en:Int),true) else(([],[]),0,false)
def loginR (b:List Int):(List UInt8×List UInt8)×Int×Bool:=
  let s1:=exS b (0,!isBytes b) [1]
  let u:=txV b s1
  let s2:=txS b s1
  let w:=txV b s2
  let s3:=txS b s2
  if s3.2=false∧loginOk u w=true then((u,w),(s3.1:Int),true) else(([],[]),0,false)
theorem tx_ok {b:List Int} {s:Nat×Bool} (h:(txS b s).2=false):s.2=false∧s.1+1+(b.getD s.1 0).toNat≤b.length∧txS b s=(s.1+1+(b.getD s.1 0).toNat,false)∧txV b s=bT ((b.drop (s.1+1)).take (b.getD s.1 0).toNat):=by
  unfold txS txV at*
  obtain ⟨g1,g2,g3,g4⟩:=tkS_ok h
  obtain ⟨k1,k2,k3,k4⟩:=tkS_ok g1
  rw[k3,byV_yes k1 k2]at g2 g3 g4
  rw[k3,byV_yes k1 k2]
  exact⟨k1,g2,g3,by rw[g4]⟩
theorem tx_yes {b:List Int} {s:Nat×Bool} (h:s.2=false) (h2:s.1+1+(b.getD s.1 0).toNat≤b.length):txS b s=(s.1+1+(b.getD s.1 0).toNat,false)∧txV b s=bT ((b.drop (s.1+1)).take (b.getD s.1 0).toNat):=by
  unfold txS txV
  have k2:s.1+1≤b.length:=by omega
  rw[tkS_yes h k2,byV_yes h k2,tkS_yes rfl h2,tkL_yes rfl h2]
  exact⟨rfl,rfl⟩
theorem take_drop_sub (b:List Int) (i j:Nat):(b.take (i+j)).drop i=(b.drop i).take j:=by
  rw[List.drop_take]
  congr 1
  omega
theorem loginOk_ne {u w:List UInt8} (h:loginOk u w=true):1≤u.length∧1≤w.length:=by
  simp only[loginOk,Bool.and_eq_true,decide_eq_true_eq]at h
  exact⟨List.length_pos_iff.2 h.1.1.1,List.length_pos_iff.2 h.1.1.2⟩
theorem loginR_eq (b:List Int):loginR b=loginFrom b:=by
  unfold loginR loginFrom
  simp only[take_drop_sub]
  by_cases hc:isBytes b=true∧5≤b.length∧b.getD 0 0=1∧b.getD 1 0≤(b.length:Int)-3∧b.getD (2+(b.getD 1 0).toNat) 0≤(b.length:Int)-((2+(b.getD 1 0).toNat:Nat):Int)-1∧loginOk (bT ((b.drop 2).take (b.getD 1 0).toNat)) (bT ((b.drop (2+(b.getD 1 0).toNat+1)).take (b.getD (2+(b.getD 1 0).toNat) 0).toNat))=true
  · obtain ⟨h1,h2,h3,h4,h5,h6⟩:=hc
    have hb:=isBytes_get h1 (k:=1) (by omega)
    have hb2:=isBytes_get h1 (k:=2+(b.getD 1 0).toNat) (by omega)
    have e1:exS b (0,!isBytes b) [1]=(1,false):=ex1_yes (by simp[h1]) (by simp; omega) h3
    obtain ⟨e2,e3⟩:=tx_yes (b:=b) (s:=(1,false)) rfl (by simp only; omega)
    have a1:(1:Nat)+1+(b.getD 1 0).toNat=2+(b.getD 1 0).toNat:=by omega
    simp only[a1]at e2 e3
    obtain ⟨e4,e5⟩:=tx_yes (b:=b) (s:=(2+(b.getD 1 0).toNat,false)) rfl (by simp only; omega)
    rw[e1,e2,e3,e4,e5,if_pos ⟨rfl,h6⟩,if_pos ⟨h1,h2,h3,h4,h5,h6⟩]
  · rw[if_neg hc,if_neg]
    rintro ⟨h1,h2⟩
    obtain ⟨g1,g2,g3,g4⟩:=tx_ok h1
    obtain ⟨k1,k2,k3,k4⟩:=tx_ok g1
    obtain ⟨m1,m2,m3,m4⟩:=ex1 k1
    have hb:isBytes b=true:=not_iff.1 m1
    rw[m4]at k2 k3 k4
    simp only[Nat.zero_add]at k2 k3 k4 m3
    rw[m4]at g2 g4 h2
    simp only[Nat.zero_add]at g2 g4 h2
    rw[k3]at g2 g4
    rw[k4,k3,g4]at h2
    have a1:(1:Nat)+1+(b.getD 1 0).toNat=2+(b.getD 1 0).toNat:=by omega
    simp only[a1]at g2 h2 k2
    have hb1:=isBytes_get hb (k:=1) (by omega)
    have hb2:=isBytes_get hb (k:=2+(b.getD 1 0).toNat) (by omega)
    have hl:=loginOk_ne h2
    rw[bT_len,bT_len,List.length_take,List.length_take]at hl
    exact hc ⟨hb,by omega,m3,by omega,by omega,h2⟩
theorem loginFrom_ok {b:List Int} (h:(loginFrom b).2.2=true):isBytes b=true∧loginOk (loginFrom b).1.1 (loginFrom b).1.2=true∧0≤(loginFrom b).2.1∧(loginFrom b).2.1≤b.length:=by
  unfold loginFrom at*
  simp only at*
  split at h
  · rename_i hc
    rw[if_pos hc]
    exact⟨hc.1,hc.2.2.2.2.2,by simp only; omega,by have:=isBytes_get hc.1 (k:=2+(b.getD 1 0).toNat); simp only; omega⟩
  · cases h
def szA (b:List Int):Int:=if 0<b.length∧b.getD 0 0=1 then 7 else if 1<b.length∧b.getD 0 0=3 then 4+b.getD 1 0 else -1
def addrV (b:List Int) (n:Nat):Int×List Int×List UInt8×Int:=(b.getD 0 0,if b.getD 0 0=1 then(b.drop 1).take 4 else[],if b.getD 0 0=1 then[] else bT ((b.drop 2).take (n-4)),ofB ((b.drop (n-2)).take 2))
def aOk (a:Int×List Int×List UInt8×Int):Bool:=addrOk a.1 a.2.1 a.2.2.1 a.2.2.2
def addrD (b:List Int):(Int×List Int×List UInt8×Int)×Int×Bool:=
  if isBytes b=true∧0≤szA b∧szA b≤b.length∧aOk (addrV b (szA b).toNat)=true then(addrV b (szA b).toNat,szA b,true) else((0,[],[],0),0,false)
theorem getD_drop {b:List Int} (k j:Nat):(b.drop k).getD j 0=b.getD (k+j) 0:=by
  simp only[gQ,List.getElem?_drop]
theorem adR_yes {b:List Int} {k:Nat} (hb:isBytes b=true) (h:(addrD (b.drop k)).2.2=true):adR b (k,false)=((addrD (b.drop k)).1,(k+(addrD (b.drop k)).2.1.toNat,false))∧k+(addrD (b.drop k)).2.1.toNat≤b.length:=by
  unfold addrD at*
  split at h
  · rename_i hc
    rw[if_pos hc]
    obtain ⟨h1,h2,h3,h4⟩:=hc
    simp only[List.length_drop,aOk,addrV]at h3 h4 ⊢
    unfold szA at*
    simp only[List.length_drop,getD_drop,Nat.add_zero,List.drop_drop]at*
    have hlen:k<b.length:=by
      rcases Nat.lt_or_ge k b.length with h' | h'
      · exact h'
      · rw[if_neg (by omega),if_neg (by omega)]at h2
        omega
    have e1:byV b (k,false)=b.getD k 0:=byV_yes rfl (by simp; omega)
    have e2:tkS b (k,false) 1=(k+1,false):=tkS_yes rfl (by simp; omega)
    unfold adR
    simp only[e1,e2]
    by_cases c1:b.getD k 0=1
    · have cc:0<b.length-k∧b.getD k 0=1:=⟨by omega,c1⟩
      simp only[if_pos cc,if_pos c1]at h2 h3 h4 ⊢
      have c3: ¬ b.getD k 0=3:=by omega
      have e3:tkL b (k+1,false) 4=(b.drop (k+1)).take 4:=tkL_yes rfl (by simp only; omega)
      have e4:tkS b (k+1,false) 4=(k+5,false):=tkS_yes rfl (by simp only; omega)
      have e5:tkL b (k+5,false) 2=(b.drop (k+5)).take 2:=tkL_yes rfl (by simp only; omega)
      have e6:tkS b (k+5,false) 2=(k+7,false):=tkS_yes rfl (by simp only; omega)
      have a7:(7:Int).toNat=7:=rfl
      simp only[if_neg c3,e3,e4,e5,e6,a7]at h4 ⊢
      rw[if_pos h4]
      exact⟨rfl,by omega⟩
    · have cc: ¬ (0<b.length-k∧b.getD k 0=1):=fun h=>c1 h.2
      simp only[if_neg cc,if_neg c1]at h2 h3 h4 ⊢
      by_cases c3:1<b.length-k∧b.getD k 0=3
      · simp only[if_pos c3,if_pos c3.2]at h2 h3 h4 ⊢
        have hb1:=isBytes_get hb (k:=k+1) (by omega)
        obtain ⟨e3,e4⟩:=tx_yes (b:=b) (s:=(k+1,false)) rfl (by simp only; omega)
        simp only at e3 e4
        have e5:tkL b (k+1+1+(b.getD (k+1) 0).toNat,false) 2=(b.drop (k+1+1+(b.getD (k+1) 0).toNat)).take 2:=tkL_yes rfl (by simp only; omega)
        have e6:tkS b (k+1+1+(b.getD (k+1) 0).toNat,false) 2=(k+1+1+(b.getD (k+1) 0).toNat+2,false):=tkS_yes rfl (by simp only; omega)
        have a1:(4+b.getD (k+1) 0).toNat-4=(b.getD (k+1) 0).toNat:=by omega
        have a2:k+((4+b.getD (k+1) 0).toNat-2)=k+1+1+(b.getD (k+1) 0).toNat:=by omega
        simp only[e3,e4,e5,e6,a1,a2]at h4 ⊢
        have a3:k+2=k+1+1:=rfl
        simp only[a3]at h4 ⊢
        rw[if_pos h4]
        refine⟨?_,by omega⟩
        simp only[Prod.mk.injEq,true_and,and_true]
        omega
      · simp only[if_neg c3]at h2
        omega
  · cases h
theorem adR_ok {b:List Int} {s:Nat×Bool} (hb:isBytes b=true) (h:(adR b s).2.2=false):s.2=false∧(addrD (b.drop s.1)).2.2=true:=by
  unfold adR at h
  by_cases c1:byV b s=1
  · have c3: ¬ byV b s=3:=by omega
    simp only[if_pos c1,if_neg c3]at h
    split at h
    · rename_i hok
      obtain ⟨g1,g2,g3,g4⟩:=tkS_ok h
      obtain ⟨k1,k2,k3,k4⟩:=tkS_ok g1
      obtain ⟨m1,m2,m3,m4⟩:=tkS_ok k1
      rw[m3]at k2 k3 k4
      rw[m3,k3]at g2 g4
      rw[m3,k4,k3,g4]at hok
      rw[byV_yes m1 m2]at c1 hok
      refine⟨m1,?_⟩
      simp only at k2 g2 hok
      unfold addrD
      have cc:0<(b.drop s.1).length∧(b.drop s.1).getD 0 0=1:=⟨by rw[List.length_drop]; omega,by rw[getD_drop]; exact c1⟩
      have hz:szA (b.drop s.1)=7:=by unfold szA; rw[if_pos cc]
      have hall:isBytes (b.drop s.1)=true∧0≤szA (b.drop s.1)∧szA (b.drop s.1)≤(b.drop s.1).length∧aOk (addrV (b.drop s.1) (szA (b.drop s.1)).toNat)=true:=by
        refine⟨isBytes_sub hb (List.drop_sublist _ _),by omega,by rw[hz,List.length_drop]; omega,?_⟩
        rw[hz]
        have a7:(7:Int).toNat=7:=rfl
        simp only[aOk,addrV,a7,cc.2,if_true,List.drop_drop]
        rw[c1]at hok
        exact hok
      rw[if_pos hall]
    · cases h
  · by_cases c3:byV b s=3
    · simp only[if_neg c1,if_pos c3]at h
      split at h
      · rename_i hok
        obtain ⟨g1,g2,g3,g4⟩:=tkS_ok h
        obtain ⟨k1,k2,k3,k4⟩:=tx_ok g1
        obtain ⟨m1,m2,m3,m4⟩:=tkS_ok k1
        rw[m3]at k2 k3 k4
        rw[m3,k3]at g2 g4
        rw[m3,k4,k3,g4]at hok
        rw[byV_yes m1 m2]at c3 c1 hok
        refine⟨m1,?_⟩
        simp only at k2 g2 hok
        have hb1:=isBytes_get hb (k:=s.1+1) (by omega)
        unfold addrD
        have cc1: ¬ (0<(b.drop s.1).length∧(b.drop s.1).getD 0 0=1):=by rw[getD_drop]; simp only[Nat.add_zero]; omega
        have cc:1<(b.drop s.1).length∧(b.drop s.1).getD 0 0=3:=⟨by rw[List.length_drop]; omega,by rw[getD_drop]; exact c3⟩
        have hz:szA (b.drop s.1)=4+b.getD (s.1+1) 0:=by unfold szA; rw[if_neg cc1,if_pos cc,getD_drop]
        have hall:isBytes (b.drop s.1)=true∧0≤szA (b.drop s.1)∧szA (b.drop s.1)≤(b.drop s.1).length∧aOk (addrV (b.drop s.1) (szA (b.drop s.1)).toNat)=true:=by
          refine⟨isBytes_sub hb (List.drop_sublist _ _),by omega,by rw[hz,List.length_drop]; omega,?_⟩
          rw[hz]
          have a1:(4+b.getD (s.1+1) 0).toNat-4=(b.getD (s.1+1) 0).toNat:=by omega
          have a2:s.1+((4+b.getD (s.1+1) 0).toNat-2)=s.1+1+1+(b.getD (s.1+1) 0).toNat:=by omega
          have a4: ¬ (3:Int)=1:=by decide
          simp only[aOk,addrV,a1,cc.2,if_neg a4,List.drop_drop,a2]
          rw[c3]at hok
          exact hok
        rw[if_pos hall]
      · cases h
    · simp only[if_neg c1,if_neg c3]at h
      rw[addr_no _ _ _ c1 c3]at h
      cases h
theorem addrD_ok {b:List Int} (h:(addrD b).2.2=true):aOk (addrD b).1=true∧0≤(addrD b).2.1∧(addrD b).2.1≤b.length:=by
  unfold addrD at*
  split at h
  · rename_i hc
    rw[if_pos hc]
    exact⟨hc.2.2.2,hc.2.1,hc.2.2.1⟩
  · cases h
theorem tkS_fail {b:List Int} {s:Nat×Bool} (n:Nat) (h:s.2=true):(tkS b s n).2=true:=by rw[tkS_no (.inl h)]
theorem exS_fail {b:List Int} {s:Nat×Bool} (l:List Int) (h:s.2=true):(exS b s l).2=true:=by
  unfold exS
  split
  · exact tkS_fail _ h
  · rfl
theorem txS_fail {b:List Int} {s:Nat×Bool} (h:s.2=true):(txS b s).2=true:=tkS_fail _ (tkS_fail _ h)
theorem adR_fail (b:List Int) {s:Nat×Bool} (h:s.2=true):(adR b s).2.2=true:=by
  have key: ∀ (c:Prop) [Decidable c] (u:Nat×Bool),u.2=true→(if c then u else(u.1,true)).2=true:=by
    intro c _ u hu
    split
    · exact hu
    · rfl
  unfold adR
  refine key _ _ (tkS_fail _ ?_)
  split
  · exact tkS_fail _ (tkS_fail _ h)
  · split
    · exact txS_fail (tkS_fail _ h)
    · exact tkS_fail _ h
def codeFrom (b:List Int):Int×(Int×List Int×List UInt8×Int)×Int×Bool:=
  if isBytes b=true∧3≤b.length∧b.getD 0 0=5∧b.getD 2 0=0∧(addrD (b.drop 3)).2.2=true then(b.getD 1 0,(addrD (b.drop 3)).1,(addrD (b.drop 3)).2.1+3,true) else(0,(0,[],[],0),0,false)
def codeR (b:List Int):Int×(Int×List Int×List UInt8×Int)×Int×Bool:=
  let s1:=exS b (0,!isBytes b) [5]
  let s3:=exS b (tkS b s1 1) [0]
  (byV b s1,(adR b s3).1,((adR b s3).2.1:Int),!(adR b s3).2.2)
theorem codeR_eq (b:List Int):(codeFrom b).2.2.2=(codeR b).2.2.2∧((codeFrom b).2.2.2=true→codeR b=codeFrom b):=by
  by_cases hc:isBytes b=true∧3≤b.length∧b.getD 0 0=5∧b.getD 2 0=0∧(addrD (b.drop 3)).2.2=true
  · obtain ⟨h1,h2,h3,h4,h5⟩:=hc
    have e1:exS b (0,!isBytes b) [5]=(1,false):=ex1_yes (by simp[h1]) (by simp; omega) h3
    have e2:byV b (1,false)=b.getD 1 0:=byV_yes rfl (by simp; omega)
    have e3:tkS b (1,false) 1=(2,false):=tkS_yes rfl (by simp; omega)
    have e4:exS b (2,false) [0]=(3,false):=ex1_yes rfl (by simp only; omega) h4
    have e5:=(adR_yes h1 h5).1
    have hd:=addrD_ok h5
    have:codeR b=codeFrom b:=by
      unfold codeR codeFrom
      simp only[e1,e2,e3,e4,e5]
      rw[if_pos ⟨h1,h2,h3,h4,h5⟩]
      simp only[Prod.mk.injEq,true_and,Bool.not_false,and_true]
      omega
    exact⟨by rw[this],fun _=>this⟩
  · have hn:codeFrom b=(0,(0,[],[],0),0,false):=by unfold codeFrom; rw[if_neg hc]
    have hr:(codeR b).2.2.2=false:=by
      rcases Bool.eq_false_or_eq_true (codeR b).2.2.2 with hr | hr
      · exfalso
        unfold codeR at hr
        simp only[Bool.not_eq_true']at hr
        have hb:isBytes b=true:=by
          by_cases hb:isBytes b=true
          · exact hb
          · exfalso
            have h0:isBytes b=false:=by simpa using hb
            rw[adR_fail _ (exS_fail _ (tkS_fail _ (exS_fail _ (by simp[h0]))))]at hr
            cases hr
        obtain ⟨g1,g2⟩:=adR_ok hb hr
        obtain ⟨k1,k2,k3,k4⟩:=ex1 g1
        obtain ⟨m1,m2,m3,m4⟩:=tkS_ok k1
        obtain ⟨p1,p2,p3,p4⟩:=ex1 m1
        rw[p4]at m2 m3
        rw[p4,m3]at k2 k3 k4
        rw[p4,m3,k4]at g2
        simp only[Nat.zero_add]at k2 k3 p3 g2
        exact hc ⟨hb,by omega,p3,k3,g2⟩
      · exact hr
    exact⟨by rw[hn,hr],fun h=>by rw[hn]at h; cases h⟩
abbrev Lg:=List UInt8×List UInt8
def lgOk (u:Lg):Bool:=loginOk u.1 u.2
def wantOk (wt:List Int):Bool:=wt.all fun m=>decide (m=0∨m=2)
def talkOk (st:Int) (wt:List Int) (lg:List Lg) (to:List UInt8):Bool:=
  decide (0≤st∧st≤4) && methOk wt && decide (lg.length≤4) && wantOk wt && lg.all lgOk && (decide (¬ st=1) || decide (2∈wt)) && (if st=3 then(addrFrom to).2 else decide (to=[]))
theorem addrFrom_nil:addrFrom []=((0,[],[],0),false):=by
  have h:(addrFrom []).2=false:=by
    unfold addrFrom
    rfl
  exact addrFrom_no h
def helloPick (wt ms:List Int):Int:=if methOk wt=true∧methOk ms=true then(match wt.find? (fun m=>decide (m∈ms)) with | some m=>m | none=>255) else 255
theorem pick_yes {wt ms:List Int} {k:Nat} (h1:methOk wt=true) (h2:methOk ms=true) (hk:k<wt.length) (hn: ∀ j,j<k→wt.getD j 0 ∉ ms) (h:wt.getD k 0∈ms):helloPick wt ms=wt.getD k 0:=by
  have hg: ∀ j,(h:j<wt.length)→wt.getD j 0=wt[j]:=fun j h=>by rw[gQ,gE h]; rfl
  have:wt.find? (fun m=>decide (m∈ms))=some wt[k]:=by
    rw[List.find?_eq_some_iff_getElem]
    refine⟨by rw[← hg k hk]; simpa using h,k,hk,rfl,fun j hj=>?_⟩
    have:=hn j hj
    rw[hg j (by omega)]at this
    simp[this]
  unfold helloPick
  rw[if_pos ⟨h1,h2⟩,this,hg k hk]
theorem pick_none {wt ms:List Int} {k:Nat} (hk:wt.length≤k) (hn: ∀ j,j<k→wt.getD j 0 ∉ ms):helloPick wt ms=255:=by
  have:wt.find? (fun m=>decide (m∈ms))=none:=by
    rw[List.find?_eq_none]
    intro u hu
    obtain ⟨j,hj,rfl⟩:=List.getElem_of_mem hu
    have:=hn j (by omega)
    rw[gQ,gE hj]at this
    simpa using this
  unfold helloPick
  rw[this]
  split <;> rfl
theorem pick_bad {wt ms:List Int} (h: ¬ (methOk wt=true∧methOk ms=true)):helloPick wt ms=255:=if_neg h
theorem pick_bd (wt ms:List Int):0≤helloPick wt ms∧helloPick wt ms≤255:=by
  unfold helloPick
  split
  · rename_i h
    split
    · rename_i m hm
      have hmem:=List.mem_of_find?_eq_some hm
      have hok:(∀ x∈wt,0≤x∧x≤254)∧_:=of_decide_eq_true h.1
      have:=hok.1 m hmem
      omega
    · omega
  · omega
def sayHello (wt b:List Int):Int×List Int:=
  if (helloFrom b).2.2=true∧(helloFrom b).2.1=(b.length:Int) then
    (if helloPick wt (helloFrom b).1=0 then 2 else if helloPick wt (helloFrom b).1=2 then 1 else 4,[5,helloPick wt (helloFrom b).1]) else(4,[])
def fitsL (lg:List Lg) (u w:List UInt8):Bool:=loginOk u w && decide ((u,w)∈lg)
def sayLogin (lg:List Lg) (b:List Int):Int×List Int:=
  if (loginFrom b).2.2=true∧(loginFrom b).2.1=(b.length:Int) then
    (if fitsL lg (loginFrom b).1.1 (loginFrom b).1.2 then(2,[1,0]) else(4,[1,1])) else(4,[])
abbrev Ad:=Int×List Int×List UInt8×Int
def reqFrom (b:List Int):(Int×Ad)×Int×Bool:=
  if (codeFrom b).2.2.2=true∧1≤(codeFrom b).1∧(codeFrom b).1≤3 then(((codeFrom b).1,(codeFrom b).2.1),(codeFrom b).2.2.1,true) else((0,(0,[],[],0)),0,false)
def sayReq (b:List Int):Int×List UInt8×List Int:=
  let r:=reqFrom b
  let a:=r.1.2
  if r.2.2=true∧r.2.1=(b.length:Int) then
    (if r.1.1=1 then(3,addrT a.1 a.2.1 a.2.2.1 a.2.2.2,(replyP 0 a.1 a.2.1 a.2.2.1 a.2.2.2).1) else(4,[],(replyP 7 a.1 a.2.1 a.2.2.1 a.2.2.2).1)) else(4,[],[])
def talkSay (st:Int) (wt:List Int) (lg:List Lg) (to:List UInt8) (b:List Int):(Int×List Int×List Lg×List UInt8)×List Int×Bool:=
  if talkOk st wt lg to=true∧isBytes b=true∧st<3 then
    (if st=0 then(((sayHello wt b).1,wt,lg,[]),(sayHello wt b).2,true)
     else if st=1 then(((sayLogin lg b).1,wt,lg,[]),(sayLogin lg b).2,true)
     else(((sayReq b).1,wt,lg,(sayReq b).2.1),(sayReq b).2.2,true))
  else((0,[],[],[]),[],false)
theorem codeFrom_ok {b:List Int} (h:(codeFrom b).2.2.2=true):aOk (codeFrom b).2.1=true∧3≤(codeFrom b).2.2.1∧(codeFrom b).2.2.1≤b.length:=by
  unfold codeFrom at*
  split at h
  · rename_i hc
    rw[if_pos hc]
    have:=addrD_ok hc.2.2.2.2
    rw[List.length_drop]at this
    exact⟨this.1,by simp only; omega,by simp only; omega⟩
  · cases h
theorem reqFrom_ok {b:List Int} (h:(reqFrom b).2.2=true):aOk (reqFrom b).1.2=true∧(1≤(reqFrom b).1.1∧(reqFrom b).1.1≤3)∧3≤(reqFrom b).2.1∧(reqFrom b).2.1≤b.length:=by
  unfold reqFrom at*
  split at h
  · rename_i hc
    rw[if_pos hc]
    have:=codeFrom_ok hc.1
    exact⟨this.1,hc.2,this.2⟩
  · cases h
theorem talkOk_parts {st:Int} {wt:List Int} {lg:List Lg} {to:List UInt8} (h:talkOk st wt lg to=true):(0≤st∧st≤4)∧methOk wt=true∧lg.length≤4∧wantOk wt=true∧lg.all lgOk=true∧(st=1→2∈wt)∧(st=3→(addrFrom to).2=true)∧(¬ st=3→to=[]):=by
  simp only[talkOk,Bool.and_eq_true,Bool.or_eq_true,decide_eq_true_eq]at h
  obtain ⟨⟨⟨⟨⟨⟨h1,h2⟩,h3⟩,h4⟩,h5⟩,h6⟩,h7⟩:=h
  refine⟨h1,h2,h3,h4,h5,fun hs=>h6.resolve_left (fun hn=>hn hs),fun hs=>?_,fun hs=>?_⟩
  · rw[if_pos hs]at h7
    exact h7
  · rw[if_neg hs]at h7
    exact of_decide_eq_true h7
def lrB (f:Bool):List Int:=if f then[1,0] else[1,1]
def wlOk (wt:List Int) (lg:List Lg):Bool:=wantOk wt && lg.all lgOk && (methOk wt && decide (lg.length≤4))
theorem want_any (wt:List Int):wt.any (fun m=>decide (m≠0∧m≠2))=!wantOk wt:=by
  unfold wantOk
  rw[Bool.eq_iff_iff]
  simp
theorem lg_any (lg:List Lg):lg.any (fun x=>!loginOk x.1 x.2)=!lg.all lgOk:=by
  rw[Bool.eq_iff_iff]
  simp[lgOk]
theorem talk_i (st:Int) (wt:List Int) (lg:List Lg) (to:List UInt8):talkOk st wt lg to=(decide (0≤st∧st≤4) && methOk wt && decide (lg.length≤4) && !(wt.any fun m=>decide (m≠0∧m≠2)) && !(lg.any fun x=>!loginOk x.1 x.2) && (decide (¬ st=1) || decide (2∈wt)) && (if st=3 then(addrFrom to).2 else decide (to=[]))):=by
  rw[want_any,lg_any,Bool.not_not,Bool.not_not]
  rfl
theorem talk_s (st:Int) (wt:List Int) (lg:List Lg) (to:List UInt8):talkOk st wt lg to=(wlOk wt lg && decide (0≤st∧st≤4) && (decide (¬ st=1) || decide (2∈wt)) && (decide (decide (st=3)=(addrFrom to).2) && ((addrFrom to).2 || decide (to=[])))):=by
  have hl:(if st=3 then(addrFrom to).2 else decide (to=[]))=(decide (decide (st=3)=(addrFrom to).2) && ((addrFrom to).2 || decide (to=[]))):=by
    by_cases h3:st=3
    · cases h:(addrFrom to).2 <;> simp[h3]
    · cases h:(addrFrom to).2
      · simp[h3]
      · have:to≠[]:=fun he=>by rw[he,addrFrom_nil]at h; cases h
        simp[h3,this]
  unfold talkOk wlOk
  rw[hl]
  cases methOk wt <;> cases wantOk wt <;> cases lg.all lgOk <;> cases decide (0≤st∧st≤4) <;> cases decide (lg.length≤4) <;> rfl
theorem wl_bad1 {wt:List Int} {lg:List Lg} {k:Nat} (hk:k<wt.length) (h:wt.getD k 0≠0∧wt.getD k 0≠2):false=wlOk wt lg:=by
  have:wantOk wt=false:=all_no (d:=0) hk (decide_eq_false fun hh=>hh.elim h.1 h.2)
  unfold wlOk
  rw[this]
  rfl
theorem wl_bad2 {wt:List Int} {lg:List Lg} {k:Nat} (hk:k<lg.length) (h:loginOk (lg.getD k login0).1 (lg.getD k login0).2=false):false=wlOk wt lg:=by
  have:lg.all lgOk=false:=all_no (d:=login0) hk h
  unfold wlOk
  rw[this,Bool.and_false]
  rfl
theorem wl_end {wt:List Int} {lg:List Lg} {j k:Nat} (hj:wt.length≤j) (hk:lg.length≤k) (h1:(wt.take j).all (fun m=>decide (m=0∨m=2))=true) (h2:(lg.take k).all lgOk=true):(methOk wt && decide (lg.length≤4))=wlOk wt lg:=by
  have e1:wantOk wt=true:=all_yes hj h1
  have e2:lg.all lgOk=true:=all_yes hk h2
  unfold wlOk
  rw[e1,e2]
  rfl
def talkNew (wt:List Int) (lg:List Lg):(Int×List Int×List Lg×List UInt8)×Bool:=if wlOk wt lg then((0,wt,lg,[]),true) else((0,[],[],[]),false)
theorem sl_noneF {w:World} {A:Option Addr} {X:List Nat} {sz c:Nat} {α:Type} {g:α→List Value} {zs:List α} (h:Sl w X sz A zs.length c (zs.flatMap g)) (hA:A=none):zs=[]:=by
  rcases Nat.eq_zero_or_pos zs.length with h0 | h0
  · exact List.eq_nil_of_length_eq_zero h0
  · obtain ⟨a,ha,_⟩:=h.2.2.2 h0
    rw[hA]at ha
    cases ha
section
variable {st:Int} {wt:List Int} {lg:List Lg} {to:List UInt8}
theorem talk_no1 (h: ¬ (0≤st∧st≤4)):false=talkOk st wt lg to:=by rw[talk_i,decide_eq_false h]; rfl
theorem talk_no2 (h:methOk wt=false):false=talkOk st wt lg to:=by rw[talk_i,h,Bool.and_false]; rfl
theorem talk_no3 (h:(4:Int)<((lg.length:Nat):Int)):false=talkOk st wt lg to:=by rw[talk_i,decide_eq_false (show ¬ lg.length≤4 by omega),Bool.and_false]; rfl
theorem talk_no4 (h:wt.any (fun m=>decide (m≠0∧m≠2))=true):false=talkOk st wt lg to:=by rw[talk_i,h,Bool.not_true,Bool.and_false]; rfl
theorem talk_no5 (h:lg.any (fun x=>!loginOk x.1 x.2)=true):false=talkOk st wt lg to:=by rw[talk_i,h,Bool.not_true,Bool.and_false]; rfl
theorem talk_no6 (h1:st=1) (h2: ¬ 2∈wt):false=talkOk st wt lg to:=by
  have e:(decide (¬ st=1) || decide (2∈wt))=false:=by rw[decide_eq_false (fun hh: ¬ st=1=>hh h1),decide_eq_false h2]; rfl
  rw[talk_i,e,Bool.and_false]
  rfl
theorem talk_y (h1:0≤st∧st≤4) (h2:methOk wt=true) (h3: ¬ (4:Int)<((lg.length:Nat):Int)) (h4:wt.any (fun m=>decide (m≠0∧m≠2))=false) (h5:lg.any (fun x=>!loginOk x.1 x.2)=false) (h6:st=1→2∈wt):talkOk st wt lg to=if st=3 then(addrFrom to).2 else decide (to=[]):=by
  have h6':(decide (¬ st=1) || decide (2∈wt))=true:=by
    by_cases h:st=1
    · rw[decide_eq_true (h6 h),Bool.or_true]
    · rw[decide_eq_true h,Bool.true_or]
  rw[talk_i,decide_eq_true h1,h2,decide_eq_true (show lg.length≤4 by omega),h4,h5,h6']
  rfl
theorem talk_y3 (h1:0≤st∧st≤4) (h2:methOk wt=true) (h3: ¬ (4:Int)<((lg.length:Nat):Int)) (h4:wt.any (fun m=>decide (m≠0∧m≠2))=false) (h5:lg.any (fun x=>!loginOk x.1 x.2)=false) (h6:st=1→2∈wt) (h7:st=3):(addrFrom to).2=talkOk st wt lg to:=by
  rw[talk_y h1 h2 h3 h4 h5 h6,if_pos h7]
theorem talk_yn (h1:0≤st∧st≤4) (h2:methOk wt=true) (h3: ¬ (4:Int)<((lg.length:Nat):Int)) (h4:wt.any (fun m=>decide (m≠0∧m≠2))=false) (h5:lg.any (fun x=>!loginOk x.1 x.2)=false) (h6:st=1→2∈wt) (h7: ¬ st=3):decide (to=[])=talkOk st wt lg to:=by
  rw[talk_y h1 h2 h3 h4 h5 h6,if_neg h7]
theorem ts_no1 (h:wlOk wt lg=false):false=talkOk st wt lg to:=by rw[talk_s,h]; rfl
theorem ts_no7 (h: ¬ decide (st=3)=(addrFrom to).2):false=talkOk st wt lg to:=by rw[talk_s,decide_eq_false h,Bool.false_and,Bool.and_false]
theorem ts_y (h1:wlOk wt lg=true) (h2:0≤st∧st≤4) (h6:st=1→2∈wt) (h7:decide (st=3)=(addrFrom to).2):talkOk st wt lg to=((addrFrom to).2 || decide (to=[])):=by
  have h6':(decide (¬ st=1) || decide (2∈wt))=true:=by
    by_cases h:st=1
    · rw[decide_eq_true (h6 h),Bool.or_true]
    · rw[decide_eq_true h,Bool.true_or]
  rw[talk_s,h1,decide_eq_true h2,h6',decide_eq_true h7]
  rfl
theorem ts_y1 (h1:wlOk wt lg=true) (h2:0≤st∧st≤4) (h6:st=1→2∈wt) (h7:decide (st=3)=(addrFrom to).2) (h8:(addrFrom to).2=true):true=talkOk st wt lg to:=by rw[ts_y h1 h2 h6 h7,h8]; rfl
theorem ts_y2 (h1:wlOk wt lg=true) (h2:0≤st∧st≤4) (h6:st=1→2∈wt) (h7:decide (st=3)=(addrFrom to).2) (h8:(addrFrom to).2=false):decide (to=[])=talkOk st wt lg to:=by rw[ts_y h1 h2 h6 h7,h8]; rfl
end
theorem helloFrom_n {b:List Int} (h:(helloFrom b).2.2=true):(helloFrom b).2.1≤(b.length:Int):=(helloFrom_ok h).2.2.2.2.2.2
theorem sayH_no1 {wt b:List Int} (h:(helloFrom b).2.2=false):sayHello wt b=(4,[]):=if_neg (by rw[h]; simp)
theorem sayH_no2 {wt b:List Int} (h:(helloFrom b).2.1<(b.length:Int)):sayHello wt b=(4,[]):=if_neg (fun hh=>by omega)
theorem sayH_no3 {wt b:List Int} (h:(helloFrom b).2.1≠(b.length:Int)):sayHello wt b=(4,[]):=if_neg (fun hh=>h hh.2)
theorem sayH_y {wt b:List Int} (h:(helloFrom b).2.2=true) (h2: ¬ (helloFrom b).2.1<(b.length:Int)):sayHello wt b=(if helloPick wt (helloFrom b).1=0 then 2 else if helloPick wt (helloFrom b).1=2 then 1 else 4,[5,helloPick wt (helloFrom b).1]):=if_pos ⟨h,by have:=helloFrom_n h; omega⟩
theorem sayH_y2 {wt b:List Int} (h:(helloFrom b).2.2=true) (h2: ¬ (helloFrom b).2.1≠(b.length:Int)):sayHello wt b=(if helloPick wt (helloFrom b).1=0 then 2 else if helloPick wt (helloFrom b).1=2 then 1 else 4,[5,helloPick wt (helloFrom b).1]):=if_pos ⟨h,Decidable.not_not.1 h2⟩
theorem sayL_no1 {lg:List Lg} {b:List Int} (h:(loginFrom b).2.2=false):sayLogin lg b=(4,[]):=if_neg (by rw[h]; simp)
theorem sayL_no2 {lg:List Lg} {b:List Int} (h:(loginFrom b).2.1<(b.length:Int)):sayLogin lg b=(4,[]):=if_neg (fun hh=>by omega)
theorem sayL_no3 {lg:List Lg} {b:List Int} (h:(loginFrom b).2.1≠(b.length:Int)):sayLogin lg b=(4,[]):=if_neg (fun hh=>h hh.2)
theorem sayL_eq {lg:List Lg} {b:List Int} (h:(loginFrom b).2.2=true) (h2:(loginFrom b).2.1=(b.length:Int)):sayLogin lg b=(if fitsL lg (loginFrom b).1.1 (loginFrom b).1.2 then 2 else 4,lrB (fitsL lg (loginFrom b).1.1 (loginFrom b).1.2)):=by
  unfold sayLogin
  rw[if_pos ⟨h,h2⟩]
  cases fitsL lg (loginFrom b).1.1 (loginFrom b).1.2 <;> rfl
theorem sayL_y {lg:List Lg} {b:List Int} (h:(loginFrom b).2.2=true) (h2: ¬ (loginFrom b).2.1<(b.length:Int)):sayLogin lg b=(if fitsL lg (loginFrom b).1.1 (loginFrom b).1.2 then 2 else 4,lrB (fitsL lg (loginFrom b).1.1 (loginFrom b).1.2)):=sayL_eq h (by have:=(loginFrom_ok h).2.2.2; omega)
theorem sayL_y2 {lg:List Lg} {b:List Int} (h:(loginFrom b).2.2=true) (h2: ¬ (loginFrom b).2.1≠(b.length:Int)):sayLogin lg b=(if fitsL lg (loginFrom b).1.1 (loginFrom b).1.2 then 2 else 4,lrB (fitsL lg (loginFrom b).1.1 (loginFrom b).1.2)):=sayL_eq h (Decidable.not_not.1 h2)
theorem sayR_no1 {b:List Int} (h:(reqFrom b).2.2=false):sayReq b=(4,[],[]):=if_neg (by rw[h]; simp)
theorem sayR_no2 {b:List Int} (h:(reqFrom b).2.1<(b.length:Int)):sayReq b=(4,[],[]):=if_neg (fun hh=>by omega)
theorem sayR_no3 {b:List Int} (h:(reqFrom b).2.1≠(b.length:Int)):sayReq b=(4,[],[]):=if_neg (fun hh=>h hh.2)
theorem sayR_c {b:List Int} (h:(reqFrom b).2.2=true) (h2:(reqFrom b).2.1=(b.length:Int)) (hc:(reqFrom b).1.1=1):sayReq b=(3,addrT (reqFrom b).1.2.1 (reqFrom b).1.2.2.1 (reqFrom b).1.2.2.2.1 (reqFrom b).1.2.2.2.2,(replyP 0 (reqFrom b).1.2.1 (reqFrom b).1.2.2.1 (reqFrom b).1.2.2.2.1 (reqFrom b).1.2.2.2.2).1):=by
  unfold sayReq
  simp only
  rw[if_pos ⟨h,h2⟩,if_pos hc]
theorem sayR_n {b:List Int} (h:(reqFrom b).2.2=true) (h2:(reqFrom b).2.1=(b.length:Int)) (hc: ¬ (reqFrom b).1.1=1):sayReq b=(4,[],(replyP 7 (reqFrom b).1.2.1 (reqFrom b).1.2.2.1 (reqFrom b).1.2.2.2.1 (reqFrom b).1.2.2.2.2).1):=by
  unfold sayReq
  simp only
  rw[if_pos ⟨h,h2⟩,if_neg hc]
theorem reqFrom_n {b:List Int} (h:(reqFrom b).2.2=true) (h2: ¬ (reqFrom b).2.1<(b.length:Int)):(reqFrom b).2.1=(b.length:Int):=by have:=(reqFrom_ok h).2.2.2; omega
theorem addrT_y {k:Int} {q:List Int} {nm:List UInt8} {p:Int} (h:addrOk k q nm p=true):hostT k q nm++[58]++Lib.itoa p=addrT k q nm p:=by simp[addrT,h]
section
variable {st:Int} {wt:List Int} {lg:List Lg} {to:List UInt8} {b:List Int}
theorem talkSay_no (h:talkOk st wt lg to=false∨isBytes b=false∨3≤st):talkSay st wt lg to b=((0,[],[],[]),[],false):=by
  refine if_neg fun hh=>?_
  rcases h with h | h | h
  · rw[h]at hh; exact absurd hh.1 (by decide)
  · rw[h]at hh; exact absurd hh.2.1 (by decide)
  · omega
theorem talkSay_0 (h1:talkOk st wt lg to=true) (h2:isBytes b=true) (h:st=0):talkSay st wt lg to b=(((sayHello wt b).1,wt,lg,to),(sayHello wt b).2,true):=by
  have ht:=(talkOk_parts h1).2.2.2.2.2.2.2 (by omega)
  unfold talkSay
  rw[if_pos ⟨h1,h2,by omega⟩,if_pos h,ht]
theorem talkSay_1 (h1:talkOk st wt lg to=true) (h2:isBytes b=true) (h:st=1):talkSay st wt lg to b=(((sayLogin lg b).1,wt,lg,to),(sayLogin lg b).2,true):=by
  have ht:=(talkOk_parts h1).2.2.2.2.2.2.2 (by omega)
  unfold talkSay
  rw[if_pos ⟨h1,h2,by omega⟩,if_neg (by omega),if_pos h,ht]
theorem talkSay_2 (h1:talkOk st wt lg to=true) (h2:isBytes b=true) (h:st=2):talkSay st wt lg to b=(((sayReq b).1,wt,lg,(sayReq b).2.1),(sayReq b).2.2,true):=by
  unfold talkSay
  rw[if_pos ⟨h1,h2,by omega⟩,if_neg (by omega),if_neg (by omega)]
end
theorem reqFrom_nm (b:List Int):(reqFrom b).1.2.2.2.1.length≤255:=by
  unfold reqFrom
  split
  · rename_i h
    have:=addr_fit2 (codeFrom_ok h.1).1
    simp only
    omega
  · simp
section
variable {st:Int} {wt:List Int} {lg:List Lg} {to:List UInt8} {b:List Int}
theorem talkSay_0n (h1:talkOk st wt lg to=true) (h2:isBytes b=true) (h:st=0):talkSay st wt lg to b=(((sayHello wt b).1,wt,lg,[]),(sayHello wt b).2,true):=by
  rw[talkSay_0 h1 h2 h,(talkOk_parts h1).2.2.2.2.2.2.2 (by omega)]
theorem talkSay_1n (h1:talkOk st wt lg to=true) (h2:isBytes b=true) (h:st=1):talkSay st wt lg to b=(((sayLogin lg b).1,wt,lg,[]),(sayLogin lg b).2,true):=by
  rw[talkSay_1 h1 h2 h,(talkOk_parts h1).2.2.2.2.2.2.2 (by omega)]
theorem talkSay_len (st:Int) (wt:List Int) (lg:List Lg) (to:List UInt8) (b:List Int):(talkSay st wt lg to b).1.2.1.length≤8∧(talkSay st wt lg to b).1.2.2.1.length≤4∧(talkSay st wt lg to b).2.1.length≤27:=by
  have hh: ∀ wt b,(sayHello wt b).2.length≤27:=fun wt b=>by unfold sayHello; split <;> simp
  have hl: ∀ lg b,(sayLogin lg b).2.length≤27:=fun lg b=>by unfold sayLogin; split <;> (try split) <;> simp
  have hr: ∀ b,(sayReq b).2.2.length≤27:=fun b=>by
    unfold sayReq
    simp only
    split
    · split <;> exact replyP_len _ _ _ _ _
    · simp
  unfold talkSay
  split
  · rename_i h
    have hp:=talkOk_parts h.1
    have hm:=methOk_len hp.2.1
    have h3:=hp.2.2.1
    have e1:=hh wt b
    have e2:=hl lg b
    have e3:=hr b
    split
    · exact⟨hm.2,h3,e1⟩
    · split
      · exact⟨hm.2,h3,e2⟩
      · exact⟨hm.2,h3,e3⟩
  · simp
end
abbrev T4:=Int×List Int×List Lg×List UInt8
structure Cl where
  ms:List Int
  lu:List UInt8
  lw:List UInt8
  ak:Int
  aq:List Int
  an:List UInt8
  apt:Int
theorem cut_b {b:List Int} {i:Int} {k:Nat} (h:0≤i):(b.take ((k:Int)+i).toNat).drop k=(b.drop k).take i.toNat:=by
  rw[show ((k:Int)+i).toNat=k+i.toNat by omega,take_drop_sub]
theorem hello_yes {b ms:List Int} {n:Int} (h1:isBytes b=true) (h2:3≤b.length) (h3:b.getD 0 0=5) (h4:b.getD 1 0≤(b.length:Int)-2) (hm:ms=(b.drop 2).take (b.getD 1 0).toNat) (h5:methOk ms=true) (hn:n=2+(ms.length:Int)):helloFrom b=(ms,n,true):=by
  subst hm
  unfold helloFrom
  rw[if_pos ⟨h1,h2,h3,h4,h5⟩]
  have hb:=isBytes_get h1 (k:=1) (by omega)
  rw[List.length_take,List.length_drop]at hn
  simp only[Prod.mk.injEq,true_and,and_true]
  omega
theorem hello_no {b:List Int} (h: ¬ (isBytes b=true∧3≤b.length∧b.getD 0 0=5∧b.getD 1 0≤(b.length:Int)-2∧methOk ((b.drop 2).take (b.getD 1 0).toNat)=true)):helloFrom b=([],0,false):=if_neg h
theorem login_no {b:List Int} (h:isBytes b=false∨b.length<5∨b.getD 0 0≠1∨(b.length:Int)-3<b.getD 1 0∨(b.length:Int)-((2+(b.getD 1 0).toNat:Nat):Int)-1<b.getD (2+(b.getD 1 0).toNat) 0):loginFrom b=(([],[]),0,false):=by
  unfold loginFrom
  simp only
  rw[if_neg]
  rintro ⟨h1,h2,h3,h4,h5,h6⟩
  rcases h with h | h | h | h | h
  · rw[h1]at h; cases h
  · omega
  · exact h h3
  · omega
  · omega
theorem login_eq {b:List Int} {u w:List UInt8} {a e:Nat} (h1:isBytes b=true) (h2:5≤b.length) (h3:b.getD 0 0=1) (h4:b.getD 1 0≤(b.length:Int)-3) (ha:a=2+(b.getD 1 0).toNat) (he:e=a+1+(b.getD a 0).toNat) (h5:b.getD a 0≤(b.length:Int)-(a:Int)-1) (hu:u=bT ((b.take a).drop 2)) (hw:w=bT ((b.take e).drop (a+1))):
    loginFrom b=if loginOk u w=true then((u,w),(e:Int),true) else(([],[]),0,false):=by
  subst hu hw he ha
  unfold loginFrom
  simp only
  by_cases h6:loginOk (bT ((b.take (2+(b.getD 1 0).toNat)).drop 2)) (bT ((b.take (2+(b.getD 1 0).toNat+1+(b.getD (2+(b.getD 1 0).toNat) 0).toNat)).drop (2+(b.getD 1 0).toNat+1)))=true
  · rw[if_pos h6,if_pos ⟨h1,h2,h3,h4,h5,h6⟩]
  · rw[if_neg h6,if_neg (fun h=>h6 h.2.2.2.2.2)]
theorem szA_bd {b:List Int} (hb:isBytes b=true):szA b≤259∧(0≤szA b→4≤szA b):=by
  unfold szA
  split
  · omega
  · split
    · rename_i h
      have:=isBytes_get hb (k:=1) h.1
      omega
    · omega
theorem addrD_no {b:List Int} (h:isBytes b=false∨szA b<0∨(b.length:Int)<szA b):addrD b=((0,[],[],0),0,false):=by
  unfold addrD
  rw[if_neg]
  rintro ⟨h1,h2,h3,h4⟩
  rcases h with h | h | h
  · rw[h1]at h; cases h
  · omega
  · omega
theorem addrD_eq {b:List Int} {q:List Int} {nm:List UInt8} {p:Int} (h1:isBytes b=true) (h2:0≤szA b) (h3:szA b≤b.length) (hq:q=if b.getD 0 0=1 then(b.drop 1).take 4 else[]) (hn:nm=if b.getD 0 0=1 then[] else bT ((b.drop 2).take ((szA b).toNat-4))) (hp:p=ofB ((b.drop ((szA b).toNat-2)).take 2)):
    addrD b=if addrOk (b.getD 0 0) q nm p=true then((b.getD 0 0,q,nm,p),szA b,true) else((0,[],[],0),0,false):=by
  subst hq hn hp
  unfold addrD
  by_cases h4:aOk (addrV b (szA b).toNat)=true
  · rw[if_pos ⟨h1,h2,h3,h4⟩]
    exact(if_pos (show addrOk (b.getD 0 0) (if b.getD 0 0=1 then(b.drop 1).take 4 else[]) (if b.getD 0 0=1 then[] else bT ((b.drop 2).take ((szA b).toNat-4))) (ofB ((b.drop ((szA b).toNat-2)).take 2))=true from h4)).symm
  · rw[if_neg (fun h=>h4 h.2.2.2)]
    exact(if_neg (show ¬ addrOk (b.getD 0 0) (if b.getD 0 0=1 then(b.drop 1).take 4 else[]) (if b.getD 0 0=1 then[] else bT ((b.drop 2).take ((szA b).toNat-4))) (ofB ((b.drop ((szA b).toNat-2)).take 2))=true from h4)).symm
theorem code_no {b:List Int} (h:isBytes b=false∨b.length<3∨b.getD 0 0≠5∨b.getD 2 0≠0∨(addrD (b.drop 3)).2.2=false):codeFrom b=(0,(0,[],[],0),0,false):=by
  unfold codeFrom
  rw[if_neg]
  rintro ⟨h1,h2,h3,h4,h5⟩
  rcases h with h | h | h | h | h
  · rw[h1]at h; cases h
  · omega
  · exact h h3
  · exact h h4
  · rw[h5]at h; cases h
theorem code_yes {b:List Int} (h1:isBytes b=true) (h2:3≤b.length) (h3:b.getD 0 0=5) (h4:b.getD 2 0=0) (h5:(addrD (b.drop 3)).2.2=true):codeFrom b=(b.getD 1 0,(addrD (b.drop 3)).1,(addrD (b.drop 3)).2.1+3,true):=if_pos ⟨h1,h2,h3,h4,h5⟩
theorem ofB_2 {b:List Int} (h:isBytes b=true) (k:Nat):0≤ofB ((b.drop k).take 2)∧ofB ((b.drop k).take 2)≤65535:=by
  have:=ofB_bd (l:=(b.drop k).take 2) (fun x hx=>(isBytes_iff.1 h).1 x (List.mem_of_mem_drop (List.mem_of_mem_take hx))) 2 (by rw[List.length_take]; omega)
  rw[List.take_of_length_le (by rw[List.length_take]; omega)]at this
  exact⟨this.1,this.2.1⟩
theorem numD_no1 {s:List UInt8} (h: ¬ (1≤s.length∧s.length≤5)):numD s= -1:=if_neg fun hh=>h hh.1
theorem numD_no2 {s:List UInt8} {k:Nat} (hk:k<s.length) (h: ¬ (48≤(((s.getD k 0).toNat:Nat):Int)∧(((s.getD k 0).toNat:Nat):Int)≤57)):numD s= -1:=by
  refine if_neg fun hh=>?_
  have:=all_no (p:=digB) (d:=0) hk (by simp only[digB,decide_eq_false_iff_not]; exact h)
  rw[this]at hh
  exact absurd hh.2 (by decide)
theorem numD_yes {s:List UInt8} {k:Nat} (h:1≤s.length∧s.length≤5) (hk:s.length≤k) (ha:(s.take k).all digB=true):numF (s.take k)=numD s:=by
  unfold numD
  rw[if_pos ⟨h,all_yes hk ha⟩,List.take_of_length_le hk]
theorem digB_bd {c:UInt8} (h:digB c=true):48≤((c.toNat:Nat):Int)∧((c.toNat:Nat):Int)≤57:=of_decide_eq_true h
theorem numF_bd {s:List UInt8} (h:s.all digB=true): ∀ k,k≤s.length→0≤numF (s.take k)∧numF (s.take k)<10 ^ k
  | 0,_=>by simp[numF]
  | k+1,hk=>by
    have ih:=numF_bd h k (by omega)
    have hd:=List.all_eq_true.1 h _ (List.getElem_mem (show k<s.length by omega))
    have hg:s.getD k 0=s[k]:=by rw[gQ,gE (show k<s.length by omega)]; rfl
    rw[numF_take (by omega),hg]
    have:=digB_bd hd
    rw[Int.pow_succ]
    omega
theorem itoa_inj {x z:Int} (hx:0≤x) (h:Lib.itoa z=Lib.itoa x):z=x:=by
  rcases Int.lt_or_le z 0 with hz | hz
  · exfalso
    have e:Lib.itoa z=45::Lib.decDigits z.natAbs:=by
      unfold Lib.itoa
      rw[if_pos hz]
    have:=itoa_digit hx 45 (by rw[← h,e]; exact List.mem_cons_self ..)
    revert this
    decide
  · rw[itoa_nn hz,itoa_nn hx]at h
    have:=congrArg numF h
    rw[numF_dec,numF_dec]at this
    omega
theorem quad_dec_no {s:List UInt8} {k:Nat} (hk:k<(splitB 46 s).length) (h:(decI ((splitB 46 s).getD k [])).2=false):quadFrom s=([],false):=by
  rcases Bool.eq_false_or_eq_true (quadFrom s).2 with hq | hq
  · exfalso
    obtain ⟨h1,h2⟩:=quadFrom_ok hq
    have h3:=split_quad h1
    rw[h2]at h3
    rw[h3,List.length_map]at hk
    have g:=quad_get h1 hk
    have e:((quadFrom s).1.map Lib.itoa).getD k []=Lib.itoa ((quadFrom s).1.getD k 0):=by
      simp only[gQ,List.getElem?_map,gE hk,Option.map_some,Option.getD_some]
    rw[h3,e,decI_itoa ⟨g.1,by omega⟩]at h
    cases h
  · exact quadFrom_no hq
theorem map_itoa_inj: ∀ {zs qs:List Int},(∀ x∈qs,0≤x)→zs.map Lib.itoa=qs.map Lib.itoa→zs=qs
  | [],[],_,_=>rfl
  | [],_::_,_,h=>by simp at h
  | _::_,[],_,h=>by simp at h
  | z::zs,q::qs,hq,h=>by
    rw[List.map_cons,List.map_cons]at h
    have h1:=(List.cons.inj h).1
    have h2:=(List.cons.inj h).2
    rw[itoa_inj (hq q (List.mem_cons_self ..)) h1,map_itoa_inj (fun x hx=>hq x (List.mem_cons_of_mem _ hx)) h2]
theorem quad_val_no {s:List UInt8} {zs:List Int} (h:splitB 46 s=zs.map Lib.itoa) (hz:quadOk zs=false):quadFrom s=([],false):=by
  rcases Bool.eq_false_or_eq_true (quadFrom s).2 with hq | hq
  · exfalso
    obtain ⟨h1,h2⟩:=quadFrom_ok hq
    have h3:=split_quad h1
    rw[h2,h]at h3
    have:zs=(quadFrom s).1:=map_itoa_inj (fun x hx=>by
      simp only[quadOk,Bool.and_eq_true]at h1
      exact((isBytes_iff.1 h1.2).1 x hx).1) h3
    rw[this,h1]at hz
    cases hz
  · exact quadFrom_no hq
theorem dec_step {s:List UInt8} {zs:List Int} {k:Nat} (hk:k<(splitB 46 s).length) (h:(splitB 46 s).take k=zs.map Lib.itoa) (hd:(decI ((splitB 46 s).getD k [])).2=true):(splitB 46 s).take (k+1)=(zs++[(decI ((splitB 46 s).getD k [])).1]).map Lib.itoa:=by
  rw[List.take_succ_eq_append_getElem hk,List.map_append,h]
  have:=decI_ok hd
  simp only[List.map_cons,List.map_nil,this]
  rw[gQ,gE hk]
  rfl
def cutA (l:List UInt8) (c:UInt8):List UInt8:=if 0≤idxB l c then l.take (idxB l c).toNat else l
def cutZ (l:List UInt8) (c:UInt8):List UInt8:=if 0≤idxB l c then l.drop ((idxB l c).toNat+1) else[]
theorem cut_app {a b:List UInt8} {c:UInt8} (h: ∀ x∈a,x≠c):idxB (a++c::b) c=(a.length:Int):=by
  refine idxB_eq (by simp) (fun j hj=>?_) ?_
  · rw[getD_appL hj,gQ,gE hj]
    exact h _ (List.getElem_mem hj)
  · rw[getD_appR (Nat.le_refl _),Nat.sub_self]
    rfl
theorem cutA_app {a b:List UInt8} {c:UInt8} (h: ∀ x∈a,x≠c):cutA (a++c::b) c=a∧cutZ (a++c::b) c=b:=by
  unfold cutA cutZ
  have e:((a.length:Nat):Int).toNat=a.length:=rfl
  rw[cut_app h,if_pos (by omega),if_pos (by omega),e]
  refine⟨by simp,?_⟩
  rw[show a.length+1=(a++[c]).length by simp,show a++c::b=(a++[c])++b by simp,List.drop_left']
  rfl
theorem cut_whole {l:List UInt8} {c:UInt8} (h:0≤idxB l c):l=cutA l c++c::cutZ l c:=by
  have hs:=idxB_split h
  unfold cutA cutZ
  rw[if_pos h,if_pos h]
  have hc:=idxB_get h
  conv=>lhs; rw[← List.take_append_drop (idxB l c).toNat l]
  congr 1
  rw[List.drop_eq_getElem_cons hs.1]
  congr 1
  rw[gQ,gE hs.1]at hc
  exact hc
theorem decI_nil:decI []=(0,false):=rfl
theorem addr_impl (s:List UInt8):addrFrom s=if (decI (cutZ s 58)).2=true∧aOk (addrOf (cutA s 58) (decI (cutZ s 58)).1)=true then(addrOf (cutA s 58) (decI (cutZ s 58)).1,true) else((0,[],[],0),false):=by
  rcases Bool.eq_false_or_eq_true (addrFrom s).2 with hq | hq
  · obtain ⟨h1,h2⟩:=addrFrom_ok hq
    have hf:=addrOk_fit h1
    have e:addrT (addrFrom s).1.1 (addrFrom s).1.2.1 (addrFrom s).1.2.2.1 (addrFrom s).1.2.2.2=hostT (addrFrom s).1.1 (addrFrom s).1.2.1 (addrFrom s).1.2.2.1++58::Lib.itoa (addrFrom s).1.2.2.2:=by simp[addrT,h1]
    have hc:=cutA_app (b:=Lib.itoa (addrFrom s).1.2.2.2) (no58 h1)
    rw[← e,h2]at hc
    rw[hc.1,hc.2,decI_itoa ⟨hf.1,hf.2.1⟩,addrOf_addr h1,if_pos ⟨rfl,h1⟩,← hq]
  · rw[addrFrom_no hq,if_neg]
    rintro ⟨h1,h2⟩
    rcases Int.lt_or_le (idxB s 58) 0 with hi | hi
    · have:cutZ s 58=[]:=if_neg (by omega)
      rw[this,decI_nil]at h1
      cases h1
    · have:=addr_way (cut_whole hi) (decI_ok h1) h2
      rw[this]at hq
      cases hq
theorem tk_cut {bs:List Int} {sa:Nat} {sf:Bool} {n:Int} {lo hi:Nat} (h:sf=false) (h2:sa+n.toNat≤bs.length) (hlo:lo=sa) (hhi:hi=sa+n.toNat):(bs.take hi).drop lo=tkL bs (sa,sf) n.toNat:=by
  subst hlo hhi
  rw[take_drop_sub,tkL_yes h h2]
def unL (b:List Int) (s:Nat×Bool):List Int:=if s.2 then[] else(b.drop s.1).takeWhile fun x=>decide (x≠0)
def unS (b:List Int) (s:Nat×Bool):Nat×Bool:=if s.2 then(s.1,true) else if s.1+(unL b s).length<b.length then(s.1+(unL b s).length+1,false) else(b.length,true)
def zE (b:List Int) (k:Nat):Int:=if k+((b.drop k).takeWhile fun x=>decide (x≠0)).length<b.length then((k+((b.drop k).takeWhile fun x=>decide (x≠0)).length:Nat):Int) else -1
abbrev Old:=(Int×Ad)×List UInt8
def oldA (c:Int) (a:Ad) (u:List UInt8):Bool:=oldOk c a.1 a.2.1 a.2.2.1 a.2.2.2 u
def oldR (b:List Int):Old×Int×Bool:=
  let s1:=exS b (0,!isBytes b) [4]
  let c:=byV b s1
  let s2:=tkS b s1 1
  let p:=ofB (tkL b s2 2)
  let s3:=tkS b s2 2
  let q:=tkL b s3 4
  let s4:=tkS b s3 4
  let u:=bT (unL b s4)
  let s5:=unS b s4
  let s6:=if q=[0,0,0,1] then unS b s5 else s5
  let a:Ad:=if q=[0,0,0,1] then(3,[],bT (unL b s5),p) else(1,q,[],p)
  if s6.2=false∧oldA c a u=true then(((c,a),u),(s6.1:Int),true) else(((0,(0,[],[],0)),[]),0,false)
def oldFrom (b:List Int):Old×Int×Bool:=
  let e:=(zE b 8).toNat
  let u:=bT ((b.take e).drop 8)
  let p:=ofB ((b.drop 2).take 2)
  let nul:=b.getD 4 0=0∧b.getD 5 0=0∧b.getD 6 0=0
  let l:=zE b (e+1)
  let a:Ad:=if nul then(3,[],bT ((b.take l.toNat).drop (e+1)),p) else(1,(b.drop 4).take 4,[],p)
  let n:=if nul then l else zE b 8
  if isBytes b=true∧9≤b.length∧b.getD 0 0=4∧0≤zE b 8∧(nul→0≤l∧b.getD 7 0=1)∧oldA (b.getD 1 0) a u=true then(((b.getD 1 0,a),u),n+1,true) else(((0,(0,[],[],0)),[]),0,false)
theorem un_yes {b:List Int} {k:Nat} (h:0≤zE b k):unS b (k,false)=((zE b k).toNat+1,false)∧unL b (k,false)=(b.take (zE b k).toNat).drop k∧k≤(zE b k).toNat∧(zE b k).toNat<b.length:=by
  unfold zE at*
  split at h
  · rename_i hlt
    rw[if_pos hlt]
    have e:unL b (k,false)=(b.drop k).takeWhile fun x=>decide (x≠0):=rfl
    have e2:((k+((b.drop k).takeWhile fun x=>decide (x≠0)).length:Nat):Int).toNat=k+((b.drop k).takeWhile fun x=>decide (x≠0)).length:=rfl
    rw[e2]
    refine⟨?_,?_,by omega,hlt⟩
    · unfold unS
      rw[e]
      simp only[Bool.false_eq_true,if_false]
      rw[if_pos hlt]
    · rw[e,take_drop_sub]
      exact(List.prefix_iff_eq_take.1 (List.takeWhile_prefix _))
  · omega
theorem un_ok {b:List Int} {s:Nat×Bool} (h:(unS b s).2=false):s.2=false∧0≤zE b s.1∧unS b s=((zE b s.1).toNat+1,false)∧unL b s=(b.take (zE b s.1).toNat).drop s.1∧s.1≤(zE b s.1).toNat∧(zE b s.1).toNat<b.length:=by
  obtain ⟨k,f⟩:=s
  cases f with
  | true=>simp[unS]at h
  | false=>
    have hz:0≤zE b k:=by
      unfold unS at h
      simp only[Bool.false_eq_true,if_false]at h
      split at h
      · rename_i hlt
        unfold zE
        rw[if_pos (by simpa [unL] using hlt)]
        omega
      · cases h
    exact⟨rfl,hz,un_yes hz⟩
theorem four_eq {b:List Int} {k:Nat} (h:k+4≤b.length) (x y z u:Int):(b.drop k).take 4=[x,y,z,u]↔b.getD k 0=x∧b.getD (k+1) 0=y∧b.getD (k+2) 0=z∧b.getD (k+3) 0=u:=by
  have hg: ∀ j,(hj:j<b.length)→b.getD j 0=b[j]:=fun j hj=>by rw[gQ,gE hj]; rfl
  rw[List.drop_eq_getElem_cons (show k<b.length by omega),List.drop_eq_getElem_cons (show k+1<b.length by omega),List.drop_eq_getElem_cons (show k+1+1<b.length by omega),List.drop_eq_getElem_cons (show k+1+1+1<b.length by omega),
    hg k (by omega),hg (k+1) (by omega),hg (k+2) (by omega),hg (k+3) (by omega)]
  simp only[List.take_succ_cons,List.take_zero,List.cons.injEq,and_true]
theorem three_eq {b:List Int} {k:Nat} (h:k+4≤b.length):((b.drop k).take 4).take 3=[0,0,0]↔b.getD k 0=0∧b.getD (k+1) 0=0∧b.getD (k+2) 0=0:=by
  have hg: ∀ j,(hj:j<b.length)→b.getD j 0=b[j]:=fun j hj=>by rw[gQ,gE hj]; rfl
  rw[List.take_take,List.drop_eq_getElem_cons (show k<b.length by omega),List.drop_eq_getElem_cons (show k+1<b.length by omega),List.drop_eq_getElem_cons (show k+1+1<b.length by omega),
    hg k (by omega),hg (k+1) (by omega),hg (k+2) (by omega)]
  have e3:min 3 4=3:=rfl
  simp only[e3,List.take_succ_cons,List.take_zero,List.cons.injEq,and_true]
theorem oldR_eq (b:List Int):oldR b=oldFrom b:=by
  have hpos: ∀ (h1:isBytes b=true) (h2:9≤b.length) (h3:b.getD 0 0=4) (h4:0≤zE b 8),oldR b=oldFrom b:=by
    intro h1 h2 h3 h4
    have e1:exS b (0,!isBytes b) [4]=(1,false):=ex1_yes (by simp[h1]) (by simp; omega) h3
    have e2:byV b (1,false)=b.getD 1 0:=byV_yes rfl (by simp only; omega)
    have e3:tkS b (1,false) 1=(2,false):=tkS_yes rfl (by simp only; omega)
    have e4:tkL b (2,false) 2=(b.drop 2).take 2:=tkL_yes rfl (by simp only; omega)
    have e5:tkS b (2,false) 2=(4,false):=tkS_yes rfl (by simp only; omega)
    have e6:tkL b (4,false) 4=(b.drop 4).take 4:=tkL_yes rfl (by simp only; omega)
    have e7:tkS b (4,false) 4=(8,false):=tkS_yes rfl (by simp only; omega)
    obtain ⟨e8,e9,e10,e11⟩:=un_yes h4
    unfold oldR oldFrom
    simp only[e1,e2,e3,e4,e5,e6,e7,e8,e9]
    have q4:=four_eq (b:=b) (k:=4) (by omega) 0 0 0 1
    have q3:=three_eq (b:=b) (k:=4) (by omega)
    by_cases hn:b.getD 4 0=0∧b.getD 5 0=0∧b.getD 6 0=0
    · by_cases h7:b.getD 7 0=1
      · have hq:(b.drop 4).take 4=[0,0,0,1]:=q4.2 ⟨hn.1,hn.2.1,hn.2.2,h7⟩
        simp only[if_pos hq,if_pos hn]
        rcases Int.lt_or_le (zE b ((zE b 8).toNat+1)) 0 with hl | hl
        · rw[if_neg,if_neg]
          · rintro ⟨_,_,_,_,h,_⟩
            have:=(h hn).1
            omega
          · rintro ⟨h,_⟩
            have:=(un_ok h).2.1
            simp only at this
            omega
        · obtain ⟨f1,f2,f3,f4⟩:=un_yes hl
          rw[f1,f2]
          by_cases hok:oldA (b.getD 1 0) (3,[],bT ((b.take (zE b ((zE b 8).toNat+1)).toNat).drop ((zE b 8).toNat+1)),ofB ((b.drop 2).take 2)) (bT ((b.take (zE b 8).toNat).drop 8))=true
          · rw[if_pos ⟨by first | rfl | trivial,hok⟩,if_pos ⟨h1,h2,h3,h4,fun _=>⟨hl,h7⟩,hok⟩]
            simp only[Prod.mk.injEq,true_and,and_true]
            omega
          · rw[if_neg (fun h=>hok h.2),if_neg (fun h=>hok h.2.2.2.2.2)]
      · have hq: ¬ (b.drop 4).take 4=[0,0,0,1]:=fun h=>h7 (q4.1 h).2.2.2
        simp only[if_neg hq]
        rw[if_neg,if_neg]
        · rintro ⟨_,_,_,_,h,_⟩
          exact h7 (h hn).2
        · rintro ⟨_,h⟩
          rcases (oldOk_parts h).2.2.2 with h | h
          · simp only at h
            omega
          · exact h (q3.2 hn)
    · have hq: ¬ (b.drop 4).take 4=[0,0,0,1]:=fun h=>hn ⟨(q4.1 h).1,(q4.1 h).2.1,(q4.1 h).2.2.1⟩
      simp only[if_neg hq,if_neg hn]
      by_cases hok:oldA (b.getD 1 0) (1,(b.drop 4).take 4,[],ofB ((b.drop 2).take 2)) (bT ((b.take (zE b 8).toNat).drop 8))=true
      · rw[if_pos ⟨by first | rfl | trivial,hok⟩,if_pos ⟨h1,h2,h3,h4,fun h=>absurd h hn,hok⟩]
        simp only[Prod.mk.injEq,true_and,and_true]
        omega
      · rw[if_neg (fun h=>hok h.2),if_neg (fun h=>hok h.2.2.2.2.2)]
  by_cases hc:isBytes b=true∧9≤b.length∧b.getD 0 0=4∧0≤zE b 8
  · exact hpos hc.1 hc.2.1 hc.2.2.1 hc.2.2.2
  · have hf:oldFrom b=(((0,(0,[],[],0)),[]),0,false):=by
      unfold oldFrom
      simp only
      rw[if_neg (fun h=>hc ⟨h.1,h.2.1,h.2.2.1,h.2.2.2.1⟩)]
    rw[hf]
    unfold oldR
    simp only
    rw[if_neg]
    rintro ⟨h,_⟩
    have hu:(unS b (tkS b (tkS b (tkS b (exS b (0,!isBytes b) [4]) 1) 2) 4)).2=false:=by
      split at h
      · exact(un_ok h).1
      · exact h
    obtain ⟨g1,g2,g3,g4,g5,g6⟩:=un_ok hu
    obtain ⟨k1,k2,k3,k4⟩:=tkS_ok g1
    obtain ⟨m1,m2,m3,m4⟩:=tkS_ok k1
    obtain ⟨p1,p2,p3,p4⟩:=tkS_ok m1
    obtain ⟨r1,r2,r3,r4⟩:=ex1 p1
    rw[r4]at p2 p3
    rw[r4,p3]at m2 m3
    rw[r4,p3,m3]at k2 k3
    rw[r4,p3,m3,k3]at g2 g5 g6
    simp only[Nat.zero_add]at p2 m2 k2 g2 g5 g6 r3
    exact hc ⟨not_iff.1 r1,by omega,r3,g2⟩
theorem tkS_n1 {bs:List Int} {sa n:Nat} {sf:Bool} (h:sf=true):(sa,true)=tkS bs (sa,sf) n:=(tkS_no (s:=(sa,sf)) (.inl h)).symm
theorem tkS_n2 {bs:List Int} {sa n:Nat} {sf:Bool} (h:bs.length<sa+n):(sa,true)=tkS bs (sa,sf) n:=(tkS_no (s:=(sa,sf)) (.inr h)).symm
theorem tkS_y {bs:List Int} {sa n:Nat} {sf:Bool} (h:sf=false) (h2:sa+n≤bs.length):(sa+n,sf)=tkS bs (sa,sf) n:=by rw[tkS_yes (s:=(sa,sf)) h h2,h]
theorem tkL_n1 {bs:List Int} {sa n:Nat} {sf:Bool} (h:sf=true):List.replicate n 0=tkL bs (sa,sf) n:=(tkL_no (s:=(sa,sf)) (.inl h)).symm
theorem tkL_n2 {bs:List Int} {sa n:Nat} {sf:Bool} (h:bs.length<sa+n):List.replicate n 0=tkL bs (sa,sf) n:=(tkL_no (s:=(sa,sf)) (.inr h)).symm
theorem exS_no {bs:List Int} {s t:Nat×Bool} {l:List Int} (h1:t=tkS bs s l.length) (h: ¬ tkL bs s l.length=l):(t.1,true)=exS bs s l:=by
  unfold exS
  rw[if_neg h,h1]
theorem exS_y {bs:List Int} {s t:Nat×Bool} {l:List Int} (h1:t=tkS bs s l.length) (h:tkL bs s l.length=l):t=exS bs s l:=by
  unfold exS
  rw[if_pos h,h1]
theorem txV_len {bs:List Int} {s:Nat×Bool} (hv:s.2=false→isBytes bs=true):(txV bs s).length≤255:=by
  unfold txV
  rw[bT_len,tkL_len]
  have:=byV_bd hv
  omega
theorem adR_1 {bs:List Int} {s s1 s2 s3:Nat×Bool} (h1:s1=tkS bs s 1) (hk:byV bs s=1) (h2:s2=tkS bs s1 4) (h3:s3=tkS bs s2 2):adR bs s=((byV bs s,tkL bs s1 4,[],ofB (tkL bs s2 2)),if addrOk (byV bs s) (tkL bs s1 4) [] (ofB (tkL bs s2 2))=true then s3 else(s3.1,true)):=by
  subst h1 h2 h3
  have h3: ¬ byV bs s=3:=by omega
  unfold adR
  simp only[if_pos hk,if_neg h3]
theorem adR_3 {bs:List Int} {s s1 s2 s3:Nat×Bool} (h1:s1=tkS bs s 1) (hn: ¬ byV bs s=1) (hk:byV bs s=3) (h2:s2=txS bs s1) (h3:s3=tkS bs s2 2):adR bs s=((byV bs s,[],txV bs s1,ofB (tkL bs s2 2)),if addrOk (byV bs s) [] (txV bs s1) (ofB (tkL bs s2 2))=true then s3 else(s3.1,true)):=by
  subst h1 h2 h3
  unfold adR
  simp only[if_pos hk,if_neg hn]
theorem adR_0 {bs:List Int} {s s1 s3:Nat×Bool} (h1:s1=tkS bs s 1) (hn: ¬ byV bs s=1) (hk: ¬ byV bs s=3) (h3:s3=tkS bs s1 2):adR bs s=((byV bs s,[],[],ofB (tkL bs s1 2)),if addrOk (byV bs s) [] [] (ofB (tkL bs s1 2))=true then s3 else(s3.1,true)):=by
  subst h1 h3
  unfold adR
  simp only[if_neg hk,if_neg hn]
theorem hello_r {b:List Int} {s1 s2 s3:Nat×Bool} (h1:s1=exS b (0,!isBytes b) [5]) (h2:s2=tkS b s1 1) (h3:s3=tkS b s2 (byV b s1).toNat):helloFrom b=if s3.2=false∧methOk (tkL b s2 (byV b s1).toNat)=true then(tkL b s2 (byV b s1).toNat,(s3.1:Int),true) else([],0,false):=by
  subst h1 h2 h3
  exact(helloR_eq b).symm
theorem login_r {b:List Int} {s1 s2 s3:Nat×Bool} (h1:s1=exS b (0,!isBytes b) [1]) (h2:s2=txS b s1) (h3:s3=txS b s2):loginFrom b=if s3.2=false∧loginOk (txV b s1) (txV b s2)=true then((txV b s1,txV b s2),(s3.1:Int),true) else(([],[]),0,false):=by
  subst h1 h2 h3
  exact(loginR_eq b).symm
theorem code_r {b:List Int} {s1 s2 s3 s4:Nat×Bool} (h1:s1=exS b (0,!isBytes b) [5]) (h2:s2=tkS b s1 1) (h3:s3=exS b s2 [0]) (h4:s4=(adR b s3).2):codeR b=(byV b s1,(adR b s3).1,(s4.1:Int),!s4.2):=by
  subst h1 h2 h3 h4
  rfl
theorem req_code {b:List Int}:reqFrom b=if (codeR b).2.2.2=true∧reqOk (codeR b).1 (codeR b).2.1.1 (codeR b).2.1.2.1 (codeR b).2.1.2.2.1 (codeR b).2.1.2.2.2=true then(((codeR b).1,(codeR b).2.1),(codeR b).2.2.1,true) else((0,(0,[],[],0)),0,false):=by
  have h:=codeR_eq b
  unfold reqFrom
  rcases Bool.eq_false_or_eq_true (codeFrom b).2.2.2 with hc | hc
  · have he:=h.2 hc
    rw[he]
    have hok:=(codeFrom_ok hc).1
    by_cases h3:1≤(codeFrom b).1∧(codeFrom b).1≤3
    · rw[if_pos ⟨hc,h3⟩,if_pos ⟨hc,by unfold reqOk; rw[decide_eq_true h3]; exact hok⟩]
    · rw[if_neg (fun hh=>h3 hh.2),if_neg]
      rintro ⟨_,hr⟩
      simp only[reqOk,Bool.and_eq_true,decide_eq_true_eq]at hr
      exact h3 hr.1
  · rw[if_neg (by rw[hc]; simp),if_neg (by rw[← h.1,hc]; simp)]
theorem adR_nm {b:List Int} {s:Nat×Bool} (hv:s.2=false→isBytes b=true):(adR b s).1.2.2.1.length≤255:=by
  unfold adR
  simp only
  split
  · refine txV_len fun h=>hv ?_
    exact(tkS_ok h).1
  · simp
theorem codeR_nm (b:List Int):(codeR b).2.1.2.2.1.length≤255:=by
  unfold codeR
  refine adR_nm fun h=>?_
  have h1:=(tkS_ok (exS_ok h).1).1
  exact not_iff.1 (exS_ok h1).1
theorem cut_2 {b:List Int} {i:Int} (h:0≤i):(b.take (2+i).toNat).drop 2=(b.drop 2).take i.toNat:=cut_b (k:=2) h
theorem hello_n {b:List Int} (h:isBytes b=false∨b.length<3∨b.getD 0 0≠5∨(b.length:Int)-2<b.getD 1 0∨(isBytes b=true∧3≤b.length∧methOk ((b.take (2+b.getD 1 0).toNat).drop 2)=false)):helloFrom b=([],0,false):=by
  refine hello_no fun⟨h1,h2,h3,h4,h5⟩=>?_
  rcases h with h | h | h | h | h
  · rw[h1]at h; cases h
  · omega
  · exact h h3
  · omega
  · have hb:=isBytes_get h1 (k:=1) (by omega)
    rw[cut_2 hb.1,h5]at h
    cases h.2.2
theorem hello_y {b:List Int} (h1:isBytes b=true) (h2:3≤b.length) (h3:b.getD 0 0=5) (h4:b.getD 1 0≤(b.length:Int)-2) (h5:methOk ((b.take (2+b.getD 1 0).toNat).drop 2)=true):helloFrom b=((b.take (2+b.getD 1 0).toNat).drop 2,2+(((b.take (2+b.getD 1 0).toNat).drop 2).length:Int),true):=by
  have hb:=isBytes_get h1 (k:=1) (by omega)
  exact hello_yes h1 h2 h3 h4 (cut_2 hb.1) h5 rfl
theorem fits_yes {lg:List Lg} {u w:List UInt8} {k:Nat} (hk:k<lg.length) (h:lg.getD k login0=(u,w)) (hok:loginOk u w=true):true=fitsL lg u w:=by
  unfold fitsL
  rw[hok,decide_eq_true]
  · rfl
  · rw[← h]
    exact getD_mem' hk
theorem fits_no1 {lg:List Lg} {u w:List UInt8} (h:loginOk u w=false):false=fitsL lg u w:=by
  unfold fitsL
  rw[h]
  rfl
theorem fits_no2 {lg:List Lg} {u w:List UInt8} {k:Nat} (hk:lg.length≤k) (hn: ∀ j,j<k→ ¬ lg.getD j login0=(u,w)):false=fitsL lg u w:=by
  unfold fitsL
  rw[decide_eq_false,Bool.and_false]
  intro hm
  obtain ⟨j,hj,he⟩:=List.getElem_of_mem hm
  refine hn j (by omega) ?_
  rw[gQ,gE hj]
  exact he
theorem pair_eq {x:Lg} {u w:List UInt8} (h:x.1=u∧x.2=w):x=(u,w):=by rw[← h.1,← h.2]
theorem ne_true {b:Bool} (h:b=false): ¬ b=true:=by rw[h]; decide
theorem take_drop2 {b:List Int} {i:Int} (h:4≤i):(b.take i.toNat).drop (i-2).toNat=(b.drop (i.toNat-2)).take 2:=by
  rw[show (i-2).toNat=i.toNat-2 by omega]
  have:=take_drop_sub b (i.toNat-2) 2
  rw[show i.toNat-2+2=i.toNat by omega]at this
  exact this
theorem take_drop3 {b:List Int} {i:Int} (h:4≤i):(b.take (i-2).toNat).drop 2=(b.drop 2).take (i.toNat-4):=by
  rw[show (i-2).toNat=2+(i.toNat-4) by omega,take_drop_sub]
theorem addrD_q {b:List Int} (h1:isBytes b=true) (h2:0≤szA b) (h3:szA b≤b.length) (hk:b.getD 0 0=1) (hok:addrOk (b.getD 0 0) ((b.take 5).drop 1) [] (ofB ((b.take (szA b).toNat).drop (szA b-2).toNat))=true):addrD b=((b.getD 0 0,(b.take 5).drop 1,[],ofB ((b.take (szA b).toNat).drop (szA b-2).toNat)),szA b,true):=by
  have hz:=(szA_bd h1).2 h2
  rw[addrD_eq (q:=(b.take 5).drop 1) (nm:=[]) (p:=ofB ((b.take (szA b).toNat).drop (szA b-2).toNat)) h1 h2 h3 (by rw[if_pos hk]; exact take_drop_sub b 1 4) (by rw[if_pos hk]) (by rw[take_drop2 hz]),if_pos hok]
theorem addrD_qn {b:List Int} (h1:isBytes b=true) (h2:0≤szA b) (h3:szA b≤b.length) (hk:b.getD 0 0=1) (hok:addrOk (b.getD 0 0) ((b.take 5).drop 1) [] (ofB ((b.take (szA b).toNat).drop (szA b-2).toNat))=false):addrD b=((0,[],[],0),0,false):=by
  have hz:=(szA_bd h1).2 h2
  rw[addrD_eq (q:=(b.take 5).drop 1) (nm:=[]) (p:=ofB ((b.take (szA b).toNat).drop (szA b-2).toNat)) h1 h2 h3 (by rw[if_pos hk]; exact take_drop_sub b 1 4) (by rw[if_pos hk]) (by rw[take_drop2 hz]),if_neg (ne_true hok)]
theorem addrD_n {b:List Int} (h1:isBytes b=true) (h2:0≤szA b) (h3:szA b≤b.length) (hk: ¬ b.getD 0 0=1) (hok:addrOk (b.getD 0 0) [] (bT ((b.take (szA b-2).toNat).drop 2)) (ofB ((b.take (szA b).toNat).drop (szA b-2).toNat))=true):addrD b=((b.getD 0 0,[],bT ((b.take (szA b-2).toNat).drop 2),ofB ((b.take (szA b).toNat).drop (szA b-2).toNat)),szA b,true):=by
  have hz:=(szA_bd h1).2 h2
  rw[addrD_eq (q:=[]) (nm:=bT ((b.take (szA b-2).toNat).drop 2)) (p:=ofB ((b.take (szA b).toNat).drop (szA b-2).toNat)) h1 h2 h3 (by rw[if_neg hk]) (by rw[if_neg hk,take_drop3 hz]) (by rw[take_drop2 hz]),if_pos hok]
theorem addrD_nn {b:List Int} (h1:isBytes b=true) (h2:0≤szA b) (h3:szA b≤b.length) (hk: ¬ b.getD 0 0=1) (hok:addrOk (b.getD 0 0) [] (bT ((b.take (szA b-2).toNat).drop 2)) (ofB ((b.take (szA b).toNat).drop (szA b-2).toNat))=false):addrD b=((0,[],[],0),0,false):=by
  have hz:=(szA_bd h1).2 h2
  rw[addrD_eq (q:=[]) (nm:=bT ((b.take (szA b-2).toNat).drop 2)) (p:=ofB ((b.take (szA b).toNat).drop (szA b-2).toNat)) h1 h2 h3 (by rw[if_neg hk]) (by rw[if_neg hk,take_drop3 hz]) (by rw[take_drop2 hz]),if_neg (ne_true hok)]
theorem szA_7 {b:List Int} (h:b.getD 0 0=1) (h0:0≤szA b):szA b=7:=by
  unfold szA at*
  split
  · rfl
  · rename_i hn
    rw[if_neg hn]at h0
    split
    · omega
    · rename_i hn2
      rw[if_neg hn2]at h0
      omega
theorem decI_eq (s:List UInt8):(decI s).1=(atoiR s).1∧(decI s).2=(!(atoiR s).2 && decide (Lib.itoa (atoiR s).1=s)):=by
  unfold decI atoiR
  split <;> simp_all
theorem cutA_len (l:List UInt8) (c:UInt8):(cutA l c).length≤l.length:=by
  unfold cutA
  split <;> simp
  omega
theorem cutZ_len (l:List UInt8) (c:UInt8):(cutZ l c).length≤l.length:=by
  unfold cutZ
  split <;> simp
theorem numF_bd2 {s:List UInt8} {k:Nat} (h:(s.take k).all digB=true) (hk:k≤5):0≤numF (s.take k)∧numF (s.take k)≤99999:=by
  have:=numF_bd h (s.take k).length (Nat.le_refl _)
  rw[List.take_length,List.length_take]at this
  have hl:min k s.length=0∨min k s.length=1∨min k s.length=2∨min k s.length=3∨min k s.length=4∨min k s.length=5:=by omega
  rcases hl with hl | hl | hl | hl | hl | hl <;> rw[hl]at this <;> simp at this <;> omega
theorem quadD_len (s:List UInt8):(quadD s).length=(splitB 46 s).length:=by simp[quadD]
theorem quadD_app {s:List UInt8} {k:Nat} (h:k<(splitB 46 s).length):(quadD s).take k++[numD ((splitB 46 s).getD k [])]=(quadD s).take (k+1):=by
  rw[List.take_succ_eq_append_getElem (by rw[quadD_len]; exact h)]
  congr 1
  simp[quadD,gQ,gE h]
theorem quadD_all {s:List UInt8} {k:Nat} (h:(splitB 46 s).length≤k):(quadD s).take k=quadD s:=List.take_of_length_le (by rw[quadD_len]; exact h)
theorem quadT_ne {q:List Int} (h:quadOk q=true):quadT q≠[]:=by
  rw[quadT_eq (quadOk_len h)]
  simp
def quadQ (q:List Int):List UInt8:=if quadOk q then quadT q else[]
theorem quad_s1 {s:List UInt8} (h: ¬ quadQ (quadD s)≠s) (hs: ¬ s=[]):quadFrom s=(quadD s,true):=by
  have h':=Decidable.not_not.1 h
  unfold quadFrom
  unfold quadQ at h'
  split at h'
  · rename_i hq
    rw[if_pos ⟨hq,h'⟩]
  · exact absurd h'.symm hs
theorem quad_s2 {s:List UInt8} (h: ¬ (quadQ (quadD s)=s∧ ¬ s=[])):quadFrom s=([],false):=by
  unfold quadFrom
  refine if_neg fun hq=>h ?_
  unfold quadQ
  rw[if_pos hq.1]
  refine⟨hq.2,fun he=>?_⟩
  have:=quadT_ne hq.1
  rw[hq.2]at this
  exact this he
theorem addrOf_len (s:List UInt8) (n:Int):(addrOf s n).2.2.1.length≤s.length:=by
  unfold addrOf
  split <;> simp
theorem addr_s0 {s:List UInt8} (h:(((splitB 58 s).length:Nat):Int)≠2):addrFrom s=((0,[],[],0),false):=by
  unfold addrFrom
  simp only
  exact if_neg fun hh=>h (by omega)
theorem addr_s1 {s:List UInt8} (h:addrOk (addrOf ((splitB 58 s).getD 0 []) (numD ((splitB 58 s).getD 1 []))).1 (addrOf ((splitB 58 s).getD 0 []) (numD ((splitB 58 s).getD 1 []))).2.1 (addrOf ((splitB 58 s).getD 0 []) (numD ((splitB 58 s).getD 1 []))).2.2.1 (addrOf ((splitB 58 s).getD 0 []) (numD ((splitB 58 s).getD 1 []))).2.2.2=false):addrFrom s=((0,[],[],0),false):=by
  unfold addrFrom
  simp only
  exact if_neg fun hh=>by rw[h]at hh; exact absurd hh.2.1 (by decide)
theorem addr_s2 {s:List UInt8} (h:addrT (addrOf ((splitB 58 s).getD 0 []) (numD ((splitB 58 s).getD 1 []))).1 (addrOf ((splitB 58 s).getD 0 []) (numD ((splitB 58 s).getD 1 []))).2.1 (addrOf ((splitB 58 s).getD 0 []) (numD ((splitB 58 s).getD 1 []))).2.2.1 (addrOf ((splitB 58 s).getD 0 []) (numD ((splitB 58 s).getD 1 []))).2.2.2≠s):addrFrom s=((0,[],[],0),false):=by
  unfold addrFrom
  simp only
  exact if_neg fun hh=>h hh.2.2
theorem addr_sy {s:List UInt8} (h0: ¬ (((splitB 58 s).length:Nat):Int)≠2) (h1:addrOk (addrOf ((splitB 58 s).getD 0 []) (numD ((splitB 58 s).getD 1 []))).1 (addrOf ((splitB 58 s).getD 0 []) (numD ((splitB 58 s).getD 1 []))).2.1 (addrOf ((splitB 58 s).getD 0 []) (numD ((splitB 58 s).getD 1 []))).2.2.1 (addrOf ((splitB 58 s).getD 0 []) (numD ((splitB 58 s).getD 1 []))).2.2.2=true)
    (h: ¬ addrT (addrOf ((splitB 58 s).getD 0 []) (numD ((splitB 58 s).getD 1 []))).1 (addrOf ((splitB 58 s).getD 0 []) (numD ((splitB 58 s).getD 1 []))).2.1 (addrOf ((splitB 58 s).getD 0 []) (numD ((splitB 58 s).getD 1 []))).2.2.1 (addrOf ((splitB 58 s).getD 0 []) (numD ((splitB 58 s).getD 1 []))).2.2.2≠s):addrFrom s=(addrOf ((splitB 58 s).getD 0 []) (numD ((splitB 58 s).getD 1 [])),true):=by
  unfold addrFrom
  simp only
  exact if_pos ⟨by omega,h1,Decidable.not_not.1 h⟩
def preP (s t:List UInt8):Prop:=t.length≤s.length∧s.take t.length=t
instance (s t:List UInt8):Decidable (preP s t):=inferInstanceAs (Decidable (_∧_))
theorem preP_iff {s t:List UInt8}:preP s t↔t <+:s:=by
  constructor
  · intro h
    rw[← h.2]
    exact List.take_prefix _ _
  · intro h
    exact⟨h.length_le,(List.prefix_iff_eq_take.1 h).symm⟩
def CON:List UInt8:=[67,79,78,78,69,67,84,32]
def wordAt (s:List UInt8):List UInt8:=if 0≤idxB (s.drop 8) 32 then cutA (s.drop 8) 32 else[]
def connTA (a:Ad):List UInt8:=connT a.1 a.2.1 a.2.2.1 a.2.2.2
def connFrom (s:List UInt8):Ad×Int×Bool:=
  if preP s CON∧(addrFrom (wordAt s)).2=true∧preP s (connTA (addrFrom (wordAt s)).1) then((addrFrom (wordAt s)).1,((connTA (addrFrom (wordAt s)).1).length:Int),true) else((0,[],[],0),0,false)
def trimC (s:List UInt8):List UInt8:=if preP s CON then s.drop 8 else s
theorem connTA_ok {a:Ad} (h:aOk a=true):connTA a=CON++(addrT a.1 a.2.1 a.2.2.1 a.2.2.2++32::([72,84,84,80,47,49,46,49,13,10,72,111,115,116,58,32]++addrT a.1 a.2.1 a.2.2.1 a.2.2.2++[13,10,13,10])):=by
  unfold connTA connT connW
  rw[if_pos (show addrOk a.1 a.2.1 a.2.2.1 a.2.2.2=true from h)]
  simp[CON]
theorem okC_32 {c:UInt8} (h:okC [45,46] c=true):c≠32:=by
  intro he
  subst he
  revert h
  rw[okC_iff]
  simp
theorem no32i {x:Int} (h:0≤x): ∀ c∈Lib.itoa x,c≠32:=by
  intro c hc he
  have:=itoa_digit h c hc
  subst he
  revert this
  decide
theorem no32a {a:Ad} (h:aOk a=true): ∀ c∈addrT a.1 a.2.1 a.2.2.1 a.2.2.2,c≠32:=by
  intro c hc
  have h':addrOk a.1 a.2.1 a.2.2.1 a.2.2.2=true:=h
  have e:addrT a.1 a.2.1 a.2.2.1 a.2.2.2=hostT a.1 a.2.1 a.2.2.1++[58]++Lib.itoa a.2.2.2:=by simp[addrT,h']
  rw[e]at hc
  simp only[List.mem_append,List.mem_singleton]at hc
  rcases hc with (hc | rfl) | hc
  · exact okC_32 ((host_ok h').2 c hc)
  · decide
  · exact no32i (addrOk_fit h').1 c hc
theorem conn_word {s:List UInt8} {a:Ad} (h:aOk a=true) (hp:preP s (connTA a)):preP s CON∧trimC s=s.drop 8∧wordAt s=addrT a.1 a.2.1 a.2.2.1 a.2.2.2∧cutA (s.drop 8) 32=addrT a.1 a.2.1 a.2.2.1 a.2.2.2:=by
  rw[preP_iff,connTA_ok h]at hp
  obtain ⟨r,hr⟩:=hp
  rw[List.append_assoc]at hr
  have hc:preP s CON:=preP_iff.2 ⟨_,hr⟩
  have hd:s.drop 8=addrT a.1 a.2.1 a.2.2.1 a.2.2.2++32::([72,84,84,80,47,49,46,49,13,10,72,111,115,116,58,32]++addrT a.1 a.2.1 a.2.2.1 a.2.2.2++[13,10,13,10]++r):=by
    rw[← hr]
    show (CON++_).drop CON.length=_
    rw[List.drop_left]
    simp
  have hi:=cut_app (b:=[72,84,84,80,47,49,46,49,13,10,72,111,115,116,58,32]++addrT a.1 a.2.1 a.2.2.1 a.2.2.2++[13,10,13,10]++r) (no32a h)
  have hA:=(cutA_app (b:=[72,84,84,80,47,49,46,49,13,10,72,111,115,116,58,32]++addrT a.1 a.2.1 a.2.2.1 a.2.2.2++[13,10,13,10]++r) (no32a h)).1
  rw[← hd]at hi hA
  refine⟨hc,if_pos hc,?_,hA⟩
  unfold wordAt
  rw[if_pos (by omega),hA]
theorem addrFrom_a {a:Ad} (h:aOk a=true):addrFrom (addrT a.1 a.2.1 a.2.2.1 a.2.2.2)=(a,true):=addrFrom_addr h
theorem conn_impl_yes {s:List UInt8} (h:(addrFrom (cutA (trimC s) 32)).2=true) (hp:preP s (connTA (addrFrom (cutA (trimC s) 32)).1)):connFrom s=((addrFrom (cutA (trimC s) 32)).1,((connTA (addrFrom (cutA (trimC s) 32)).1).length:Int),true):=by
  have hok:=(addrFrom_ok h).1
  obtain ⟨h1,h2,h3,h4⟩:=conn_word (a:=(addrFrom (cutA (trimC s) 32)).1) hok hp
  have e:addrFrom (wordAt s)=((addrFrom (cutA (trimC s) 32)).1,true):=by rw[h3]; exact addrFrom_a hok
  unfold connFrom
  rw[e,if_pos ⟨h1,rfl,hp⟩]
theorem conn_impl_no {s:List UInt8} (h: ¬ ((addrFrom (cutA (trimC s) 32)).2=true∧preP s (connTA (addrFrom (cutA (trimC s) 32)).1))):connFrom s=((0,[],[],0),0,false):=by
  unfold connFrom
  refine if_neg fun hc=>h ?_
  obtain ⟨h1,h2,h3⟩:=hc
  have hok:=(addrFrom_ok h2).1
  obtain ⟨g1,g2,g3,g4⟩:=conn_word (a:=(addrFrom (wordAt s)).1) hok h3
  have e:addrFrom (cutA (trimC s) 32)=((addrFrom (wordAt s)).1,true):=by rw[g2,g4]; exact addrFrom_a hok
  rw[e]
  exact⟨rfl,h3⟩
abbrev Pr:=Ad×Ad
def pairOk (p:Pr):Bool:=aOk p.1 && aOk p.2 && decide (p.1.1=1) && decide (p.2.1=1)
def lineW (p:Pr):List UInt8:=[80,82,79,88,89,32,84,67,80,52,32]++quadT p.1.2.1++[32]++quadT p.2.2.1++[32]++Lib.itoa p.1.2.2.2++[32]++Lib.itoa p.2.2.2.2++[13,10]
def lineT (p:Pr):List UInt8:=if pairOk p then lineW p else[]
def endL (s:List UInt8):Int:=match (List.range s.length).find? (fun i=>decide (1≤i) && decide (s.getD (i-1) 0=13) && decide (s.getD i 0=10)) with | some i=>(i:Int)+1 | none=> -1
def words6 (s:List UInt8):List (List UInt8):=splitB 32 (s.take ((endL s).toNat-2))
def pairOf (w:List (List UInt8)):Pr:=(addrOf (w.getD 2 []) (numD (w.getD 4 [])),addrOf (w.getD 3 []) (numD (w.getD 5 [])))
def lineFrom (s:List UInt8):Pr×Int×Bool:=
  if 0≤endL s∧(words6 s).length=6∧lineT (pairOf (words6 s))=s.take (endL s).toNat then(pairOf (words6 s),endL s,true) else(((0,[],[],0),(0,[],[],0)),0,false)
def markLg (k0:Int) (n:Nat):List Lg:=(List.range n).map fun i=>(markT (k0+2*((i:Nat):Int)),markT (k0+2*((i:Nat):Int)+1))
@[simp] theorem markLg_len (k0:Int) (n:Nat):(markLg k0 n).length=n:=by simp[markLg]
theorem talkSay_lg {st:Int} {wt:List Int} {lg:List Lg} {to:List UInt8} {b:List Int}: ∀ u∈(talkSay st wt lg to b).1.2.2.1,u∈lg:=by
  unfold talkSay
  split
  · split
    · exact fun u h=>h
    · split <;> exact fun u h=>h
  · simp
theorem talkSay_to (st:Int) (wt:List Int) (lg:List Lg) (to:List UInt8) (b:List Int):(talkSay st wt lg to b).1.2.2.2.length≤42:=by
  unfold talkSay
  split
  · split
    · simp
    · split
      · simp
      · simp only
        unfold sayReq
        simp only
        split
        · split
          · exact addrT_len _ _ _ _
          · simp
        · simp
  · simp
section
variable {c:Cl} {t:T4} (hc:clientOk c.ms c.lu c.lw c.ak c.aq c.an c.apt=true) (ht:talkOk t.1 t.2.1 t.2.2.1 t.2.2.2=true)
include hc ht
end
def connP:List Int:=[67,79,78,78,69,67,84,32]
def proxP:List Int:=[80,82,79,88,89,32]
def headP:List Int:=[13,10,13,10,0,13,10,81,85,73,84,10,33,17]
def alikeB (b p:List Int):Bool:=decide (b.take p.length=p.take b.length)
def kindW (b p:List Int) (k:Int):Int:=if p.length≤b.length then k else 0
def sniffK (b:List Int):Int:=
  if isBytes b=true then
    (if b.length=0 then 0 else if b.getD 0 0=4 then 1 else if b.getD 0 0=5 then 2
     else if alikeB b connP=true then kindW b connP 3 else if alikeB b proxP=true then kindW b proxP 4 else if alikeB b headP=true then kindW b headP 5 else 6)
  else 6
theorem alike_no {b p:List Int} {k:Nat} (h1:k<b.length) (h2:k<p.length) (h:b.getD k 0≠p.getD k 0):alikeB b p=false:=by
  refine decide_eq_false fun he=>h ?_
  have:=congrArg (fun l=>l.getD k 0) he
  simp only[gQ,List.getElem?_take,if_pos h1,if_pos h2]at this
  simpa [gQ] using this
theorem alike_step {b p:List Int} {k:Nat} (h1:k<b.length) (h2:k<p.length) (hk:b.take k=p.take k) (h:b.getD k 0=p.getD k 0):b.take (k+1)=p.take (k+1):=by
  rw[List.take_succ_eq_append_getElem h1,List.take_succ_eq_append_getElem h2,hk]
  have e1:b.getD k 0=b[k]:=by rw[gQ,gE h1]; rfl
  have e2:p.getD k 0=p[k]:=by rw[gQ,gE h2]; rfl
  rw[← e1,← e2,h]
theorem alike_yes {b p:List Int} {k:Nat} (hk1:k≤b.length) (hk2:k≤p.length) (hk:b.take k=p.take k) (h: ¬ (k<b.length∧k<p.length)):alikeB b p=true:=by
  refine decide_eq_true ?_
  rcases Nat.lt_or_ge k b.length with h1 | h1
  · have h2:p.length≤k:=by omega
    have e:k=p.length:=by omega
    rw[e]at hk
    rw[hk,List.take_of_length_le (Nat.le_refl _),List.take_of_length_le (by omega)]
  · have e:k=b.length:=by omega
    rw[e]at hk
    rw[← hk,List.take_of_length_le (by omega),List.take_of_length_le (Nat.le_refl _)]
theorem conn_t:textI [67,79,78,78,69,67,84,32]=connP:=rfl
theorem prox_t:textI [80,82,79,88,89,32]=proxP:=rfl
def startsB (b p:List Int):Bool:=decide (p.length≤b.length) && decide (b.take p.length=p)
theorem starts_alike {b p:List Int} (h:startsB b p=true):alikeB b p=true∧p.length≤b.length:=by
  simp only[startsB,Bool.and_eq_true,decide_eq_true_eq]at h
  refine⟨decide_eq_true ?_,h.1⟩
  rw[h.2,List.take_of_length_le h.1]
theorem starts_alike2 {b p:List Int} (h:startsB p b=true):alikeB b p=true∧b.length≤p.length:=by
  simp only[startsB,Bool.and_eq_true,decide_eq_true_eq]at h
  refine⟨decide_eq_true ?_,h.1⟩
  rw[h.2,List.take_of_length_le h.1]
theorem starts_not {b p:List Int} (h1:startsB b p=false) (h2:startsB p b=false):alikeB b p=false:=by
  refine decide_eq_false fun he=>?_
  rcases Nat.le_total p.length b.length with h | h
  · rw[List.take_of_length_le (l:=p) h]at he
    simp[startsB,h,he]at h1
  · rw[List.take_of_length_le (l:=b) h]at he
    simp[startsB,h,← he]at h2
theorem starts_lt {b p:List Int} (h1:startsB b p=false) (h2:startsB p b=true): ¬ p.length≤b.length:=by
  intro h
  obtain ⟨ha,hb⟩:=starts_alike2 h2
  have he:=of_decide_eq_true ha
  rw[List.take_of_length_le (l:=p) h]at he
  simp[startsB,h,he]at h1
def kindsT (c:List Int) (b:List Int):List Int:=c.set (sniffK b).toNat (c.getD (sniffK b).toNat 0+1)
def kindsC (ls:List (List Int)):List Int:=ls.foldl kindsT (List.replicate 7 0)
@[simp] theorem kindsT_len (c b:List Int):(kindsT c b).length=c.length:=by simp[kindsT]
@[simp] theorem kindsC_len (ls:List (List Int)):(kindsC ls).length=7:=by
  have: ∀ (ls:List (List Int)) (c:List Int),(ls.foldl kindsT c).length=c.length:=fun ls=>by
    induction ls with
    | nil=>intro c; rfl
    | cons b t ih=>intro c; rw[List.foldl_cons,ih,kindsT_len]
  unfold kindsC
  rw[this]
  rfl
theorem pair_b {ka:Int} {qa:List Int} {na:List UInt8} {pa kb:Int} {qb:List Int} {nb:List UInt8} {pb:Int} (h:addrOk ka qa na pa=true∧ka=1∧addrOk kb qb nb pb=true∧kb=1):
    quadOk qa=true∧quadOk qb=true∧(0≤pa∧pa≤9223372036854775807)∧(0≤pb∧pb≤9223372036854775807)∧(quadT qa).length≤15∧(quadT qb).length≤15∧(Lib.itoa pa).length≤21∧(Lib.itoa pb).length≤21:=by
  obtain ⟨h1,h2,h3,h4⟩:=h
  have a1:=addr_quad h1 h2
  have a2:=addr_quad h3 h4
  have b1:0≤pa∧pa≤65535:=by simp only[addrOk,Bool.and_eq_true,decide_eq_true_eq]at h1; exact h1.1
  have b2:0≤pb∧pb≤65535:=by simp only[addrOk,Bool.and_eq_true,decide_eq_true_eq]at h3; exact h3.1
  exact⟨a1,a2,by omega,by omega,(quadT_ok a1).1,(quadT_ok a2).1,Lib.itoa_length_le pa (by omega) (by omega),Lib.itoa_length_le pb (by omega) (by omega)⟩
def pairB (ka:Int) (qa:List Int) (na:List UInt8) (pa kb:Int) (qb:List Int) (nb:List UInt8) (pb:Int):Bool:=addrOk ka qa na pa && addrOk kb qb nb pb && decide (ka=1) && decide (kb=1)
theorem pairB_y {ka:Int} {qa:List Int} {na:List UInt8} {pa kb:Int} {qb:List Int} {nb:List UInt8} {pb:Int} (h:pairB ka qa na pa kb qb nb pb=true):addrOk ka qa na pa=true∧ka=1∧addrOk kb qb nb pb=true∧kb=1:=by
  simp only[pairB,Bool.and_eq_true,decide_eq_true_eq]at h
  exact⟨h.1.1.1,h.1.2,h.1.1.2,h.2⟩
def bodyW (p:Pr):List UInt8:=[80,82,79,88,89]++32::([84,67,80,52]++32::(quadT p.1.2.1++32::(quadT p.2.2.1++32::(Lib.itoa p.1.2.2.2++32::Lib.itoa p.2.2.2.2))))
theorem lineW_body (p:Pr):lineW p=bodyW p++[13,10]:=by simp[lineW,bodyW]
theorem endL_at {b r:List UInt8} (h: ∀ c∈b,c≠13):endL (b++[13,10]++r)=((b.length:Nat):Int)+2:=by
  have hg: ∀ j,(b++[13,10]++r).getD j 0=if j<b.length then b.getD j 0 else if j=b.length then 13 else if j=b.length+1 then 10 else r.getD (j-(b.length+2)) 0:=by
    intro j
    simp only[gQ,List.append_assoc]
    by_cases h1:j<b.length
    · rw[List.getElem?_append_left h1,if_pos h1]
    · rw[List.getElem?_append_right (by omega),if_neg h1]
      by_cases h2:j=b.length
      · subst h2; simp
      · rw[if_neg h2]
        by_cases h3:j=b.length+1
        · subst h3; simp
        · rw[if_neg h3,List.getElem?_append_right (by simp; omega)]
          simp only[List.length_cons,List.length_nil]
          rw[show j-b.length-(0+1+1)=j-(b.length+2) by omega]
  have hn: ∀ j,j<b.length→b.getD j 0≠13:=by
    intro j hj
    rw[gQ,gE hj]
    exact h _ (List.getElem_mem hj)
  have hf:(List.range (b++[13,10]++r).length).find? (fun i=>decide (1≤i) && decide ((b++[13,10]++r).getD (i-1) 0=13) && decide ((b++[13,10]++r).getD i 0=10))=some (b.length+1):=by
    rw[List.find?_range_eq_some]
    refine⟨?_,by simp,?_⟩
    · rw[hg,hg]; simp
    · intro j hj
      rw[hg (j-1)]
      rcases Nat.eq_zero_or_pos j with h0 | h0
      · subst h0; simp
      · have h1:j-1<b.length:=by omega
        have:=hn (j-1) h1
        rw[if_pos h1,decide_eq_false this]; simp
  unfold endL
  rw[hf]
  simp
  omega
theorem quad_no {q:List Int} (h:quadOk q=true): ∀ c∈quadT q,c≠13∧c≠32:=by
  intro c hc
  have h1:=(quadT_ok h).2 c hc
  refine⟨fun he=>?_,okC_32 h1⟩
  subst he
  revert h1
  rw[okC_iff]
  simp
theorem itoa_no {x:Int} (h:0≤x): ∀ c∈Lib.itoa x,c≠13∧c≠32:=by
  intro c hc
  refine⟨fun he=>?_,no32i h c hc⟩
  have:=itoa_digit h c hc
  subst he
  revert this
  decide
def cutCR (s:List UInt8):List UInt8:=if 0≤endL s then s.take ((endL s).toNat-2) else s
theorem pair_parts {p:Pr} (h:pairOk p=true):(quadOk p.1.2.1=true∧0≤p.1.2.2.2∧p.1.2.2.2≤65535)∧(quadOk p.2.2.1=true∧0≤p.2.2.2.2∧p.2.2.2.2≤65535)∧addrOk p.1.1 p.1.2.1 p.1.2.2.1 p.1.2.2.2=true∧addrOk p.2.1 p.2.2.1 p.2.2.2.1 p.2.2.2.2=true∧p.1.1=1∧p.2.1=1:=by
  simp only[pairOk,aOk,Bool.and_eq_true,decide_eq_true_eq]at h
  obtain ⟨⟨⟨h1,h2⟩,h3⟩,h4⟩:=h
  have b1:0≤p.1.2.2.2∧p.1.2.2.2≤65535:=by have h1':=h1; simp only[addrOk,Bool.and_eq_true,decide_eq_true_eq]at h1'; exact h1'.1
  have b2:0≤p.2.2.2.2∧p.2.2.2.2≤65535:=by have h2':=h2; simp only[addrOk,Bool.and_eq_true,decide_eq_true_eq]at h2'; exact h2'.1
  exact⟨⟨addr_quad h1 h3,b1⟩,⟨addr_quad h2 h4,b2⟩,h1,h2,h3,h4⟩
theorem addr_q1 {a:Ad} (h:addrOk a.1 a.2.1 a.2.2.1 a.2.2.2=true) (h1:a.1=1):addrFrom (quadT a.2.1++[58]++Lib.itoa a.2.2.2)=(a,true)∧addrOf (quadT a.2.1) (numD (Lib.itoa a.2.2.2))=a:=by
  have e1:hostT a.1 a.2.1 a.2.2.1=quadT a.2.1:=by simp[hostT,h1]
  have b:0≤a.2.2.2∧a.2.2.2≤65535:=by have h':=h; simp only[addrOk,Bool.and_eq_true,decide_eq_true_eq]at h'; exact h'.1
  constructor
  · have:=addrFrom_addr h
    rw[← addrT_y h,e1]at this
    exact this
  · rw[numD_itoa b,← e1]
    exact addrOf_addr h
theorem line_key {s:List UInt8} {p:Pr} (h:pairOk p=true) (hp:preP s (lineW p)):
    endL s=(((lineW p).length:Nat):Int)∧cutCR s=bodyW p∧words6 s=[[80,82,79,88,89],[84,67,80,52],quadT p.1.2.1,quadT p.2.2.1,Lib.itoa p.1.2.2.2,Lib.itoa p.2.2.2.2]:=by
  obtain ⟨⟨hq1,hb1⟩,⟨hq2,hb2⟩,_⟩:=pair_parts h
  have n1:=quad_no hq1
  have n2:=quad_no hq2
  have n3:=itoa_no hb1.1
  have n4:=itoa_no hb2.1
  rw[preP_iff,lineW_body]at hp
  obtain ⟨r,hr⟩:=hp
  have hb: ∀ c∈bodyW p,c≠13:=by
    intro c hc
    simp only[bodyW,List.mem_append,List.mem_cons,List.not_mem_nil,or_false]at hc
    rcases hc with (rfl | rfl | rfl | rfl | rfl) | rfl | (rfl | rfl | rfl | rfl) | rfl | hc | rfl | hc | rfl | hc | rfl | hc
    all_goals first | decide | exact(n1 c hc).1 | exact(n2 c hc).1 | exact(n3 c hc).1 | exact(n4 c hc).1
  have e1:endL s=(((bodyW p).length:Nat):Int)+2:=by rw[← hr]; exact endL_at hb
  have e2:s.take ((endL s).toNat-2)=bodyW p:=by
    rw[e1,← hr,show ((((bodyW p).length:Nat):Int)+2).toNat-2=(bodyW p).length by omega,List.append_assoc,List.take_left]
  refine⟨by rw[e1,lineW_body]; simp,?_,?_⟩
  · unfold cutCR
    rw[if_pos (by rw[e1]; omega),e2]
  · unfold words6
    rw[e2]
    unfold bodyW
    rw[splitB_at (by decide),splitB_at (by decide),splitB_at (fun c hc=>(n1 c hc).2),splitB_at (fun c hc=>(n2 c hc).2),splitB_at (fun c hc=>(n3 c hc).2),splitB_no (fun c hc=>(n4 c hc).2)]
def lineGP (s:List UInt8):(Ad×Bool)×(Ad×Bool):=(addrFrom ((splitB 32 (cutCR s)).getD 2 []++[58]++(splitB 32 (cutCR s)).getD 4 []),addrFrom ((splitB 32 (cutCR s)).getD 3 []++[58]++(splitB 32 (cutCR s)).getD 5 []))
theorem line_pair {s:List UInt8} {p:Pr} (h:pairOk p=true) (hp:preP s (lineW p)):lineFrom s=(p,(((lineW p).length:Nat):Int),true)∧(splitB 32 (cutCR s)).length=6∧lineGP s=((p.1,true),(p.2,true)):=by
  obtain ⟨k1,k2,k3⟩:=line_key h hp
  obtain ⟨_,_,h1,h2,h3,h4⟩:=pair_parts h
  have a1:=addr_q1 (a:=p.1) h1 h3
  have a2:=addr_q1 (a:=p.2) h2 h4
  have e:pairOf (words6 s)=p:=by
    unfold pairOf
    rw[k3]
    show (addrOf (quadT p.1.2.1) (numD (Lib.itoa p.1.2.2.2)),addrOf (quadT p.2.2.1) (numD (Lib.itoa p.2.2.2.2)))=p
    rw[a1.2,a2.2]
  have hcut:splitB 32 (cutCR s)=words6 s:=by
    unfold words6 cutCR
    rw[if_pos (by rw[k1]; omega)]
  refine⟨?_,by rw[hcut,k3]; rfl,?_⟩
  · unfold lineFrom
    rw[e,k3,k1,if_pos]
    refine⟨by omega,rfl,?_⟩
    unfold lineT
    rw[if_pos h]
    simpa using hp.2.symm
  · unfold lineGP
    rw[hcut,k3]
    show (addrFrom (quadT p.1.2.1++[58]++Lib.itoa p.1.2.2.2),addrFrom (quadT p.2.2.1++[58]++Lib.itoa p.2.2.2.2))=_
    rw[a1.1,a2.1]
theorem endL_le (s:List UInt8):endL s≤(s.length:Int)∧(0≤endL s→2≤endL s):=by
  unfold endL
  split
  · rename_i i hi
    have hm:=List.mem_of_find?_eq_some hi
    have hp:=List.find?_some hi
    simp at hm hp
    omega
  · simp
theorem line_yes {s:List UInt8} (h1:(lineGP s).1.2=true) (h2:(lineGP s).2.2=true) (h3:lineT ((lineGP s).1.1,(lineGP s).2.1)≠[]) (h4:preP s (lineT ((lineGP s).1.1,(lineGP s).2.1))):
    lineFrom s=(((lineGP s).1.1,(lineGP s).2.1),(((lineT ((lineGP s).1.1,(lineGP s).2.1)).length:Nat):Int),true):=by
  have hk:pairOk ((lineGP s).1.1,(lineGP s).2.1)=true:=by
    rcases Bool.eq_false_or_eq_true (pairOk ((lineGP s).1.1,(lineGP s).2.1)) with hh | hh
    · exact hh
    · exact absurd (by simp[lineT,hh]) h3
  have e:lineT ((lineGP s).1.1,(lineGP s).2.1)=lineW ((lineGP s).1.1,(lineGP s).2.1):=by simp[lineT,hk]
  rw[e]at h4 ⊢
  exact(line_pair hk h4).1
theorem line_no {s:List UInt8} (h: ¬ ((splitB 32 (cutCR s)).length=6∧(lineGP s).1.2=true∧(lineGP s).2.2=true∧lineT ((lineGP s).1.1,(lineGP s).2.1)≠[]∧preP s (lineT ((lineGP s).1.1,(lineGP s).2.1)))):
    lineFrom s=(((0,[],[],0),(0,[],[],0)),0,false):=by
  unfold lineFrom
  refine if_neg fun hc=>h ?_
  obtain ⟨g1,g2,g3⟩:=hc
  have hl:=(endL_le s).1
  have h2:=(endL_le s).2 g1
  have hk:pairOk (pairOf (words6 s))=true:=by
    rcases Bool.eq_false_or_eq_true (pairOk (pairOf (words6 s))) with hh | hh
    · exact hh
    · have e:lineT (pairOf (words6 s))=[]:=by simp[lineT,hh]
      rw[e]at g3
      have:=congrArg List.length g3
      simp at this
      omega
  have e:lineT (pairOf (words6 s))=lineW (pairOf (words6 s)):=by simp[lineT,hk]
  have hp:preP s (lineW (pairOf (words6 s))):=by
    rw[← e,g3,preP_iff]
    exact List.take_prefix _ _
  obtain ⟨_,k1,k2⟩:=line_pair hk hp
  rw[k2]
  refine⟨k1,rfl,rfl,?_,?_⟩
  · show lineT (pairOf (words6 s))≠[]
    rw[e,lineW_body]; simp
  · show preP s (lineT (pairOf (words6 s)))
    rw[e]; exact hp
abbrev TgL:=List (Int×List Int)
def sz2 (b:List Int):Int:=ofB ((b.drop 1).take 2)
def tagsN:Nat→List Int→Option TgL
  | 0,b=>if b.length=0 then some [] else none
  | n+1,b=>if b.length=0 then some [] else if b.length<3∨(b.length:Int)-3<sz2 b then none else(tagsN n (b.drop (3+(sz2 b).toNat))).map ((b.getD 0 0,(b.drop 3).take (sz2 b).toNat):: ·)
def tagsL (b:List Int):Option TgL:=tagsN b.length b
theorem tagsN_more: ∀ (n:Nat) (b:List Int),b.length≤n→tagsN n b=tagsL b:=by
  have key: ∀ (m:Nat) (b:List Int) (n:Nat),b.length≤m→b.length≤n→tagsN n b=tagsN m b:=by
    intro m
    induction m with
    | zero=>
      intro b n h1 h2
      have:b.length=0:=by omega
      cases n <;> simp[tagsN,this]
    | succ m ih=>
      intro b n h1 h2
      cases n with
      | zero=>
        have:b.length=0:=by omega
        simp[tagsN,this]
      | succ n=>
        unfold tagsN
        split
        · rfl
        · split
          · rfl
          · rw[ih _ n (by simp; omega) (by simp; omega)]
  intro n b h
  exact key b.length b n (Nat.le_refl _) h
theorem tagsL_nil {b:List Int} (h:b.length=0):tagsL b=some []:=by
  unfold tagsL
  rw[h]
  simp[tagsN,h]
theorem tagsL_bad {b:List Int} (h0:b.length≠0) (h:b.length<3∨(b.length:Int)-3<sz2 b):tagsL b=none:=by
  unfold tagsL
  cases hl:b.length with
  | zero=>exact absurd hl h0
  | succ n=>simp only[tagsN]; rw[if_neg h0,if_pos h]
theorem tagsL_step {b:List Int} (h: ¬ (b.length<3∨(b.length:Int)-3<sz2 b)):tagsL b=(tagsL (b.drop (3+(sz2 b).toNat))).map ((b.getD 0 0,(b.drop 3).take (sz2 b).toNat):: ·):=by
  have h0:b.length≠0:=by omega
  conv=>lhs; unfold tagsL
  cases hl:b.length with
  | zero=>exact absurd hl h0
  | succ n=>
    simp only[tagsN]
    rw[if_neg h0,if_neg h,tagsN_more n _ (by simp; omega)]
def tagOk (t:Int×List Int):Bool:=decide (0≤t.1∧t.1≤255) && decide (t.2.length≤16) && isBytes t.2
def tagsOk (l:TgL):Bool:=decide (l.length≤4) && l.all tagOk
def tagsFrom (b:List Int):Bool:=isBytes b && (match tagsL b with | some l=>tagsOk l | none=>false)
def tagR (b:List Int) (s:Nat×Bool):Nat×Bool:=tkS b (tkS b (tkS b s 1) 2) (ofB (tkL b (tkS b s 1) 2)).toNat
def tagV (b:List Int) (s:Nat×Bool):Int×List Int:=(byV b s,tkL b (tkS b (tkS b s 1) 2) (ofB (tkL b (tkS b s 1) 2)).toNat)
theorem drop_len {b:List Int} {k:Nat} (h:k≤b.length):(b.drop k).length=b.length-k:=by simp
theorem sz2_at {b:List Int} {k:Nat}:sz2 (b.drop k)=ofB ((b.drop (k+1)).take 2):=by
  unfold sz2; rw[List.drop_drop]
theorem tagR_yes {b:List Int} {k:Nat} (hv:isBytes b=true) (h:(tagR b (k,false)).2=false):(tagR b (k,false)).1=k+3+(sz2 (b.drop k)).toNat∧(tagR b (k,false)).1≤b.length∧tagsL (b.drop k)=(tagsL (b.drop (tagR b (k,false)).1)).map (tagV b (k,false):: ·):=by
  unfold tagR at h ⊢
  obtain ⟨h3,l3,e3,v3⟩:=tkS_ok h
  obtain ⟨h2,l2,e2,v2⟩:=tkS_ok h3
  obtain ⟨h1,l1,e1,v1⟩:=tkS_ok h2
  rw[e1]at h2 l2 e2 v2 h3 l3 e3 v3
  simp only at l1 l2 l3 e1 e2 e3 v2
  rw[e2,v2]at l3 e3
  simp only at l3 e3
  have hs:sz2 (b.drop k)=ofB ((b.drop (k+1)).take 2):=sz2_at
  have h0:=(ofB_2 hv (k+1)).1
  rw[e1,e2,v2,e3]
  simp only
  rw[← hs]at l3 ⊢
  have hx:k+1+2+(sz2 (b.drop k)).toNat=k+3+(sz2 (b.drop k)).toNat:=by omega
  refine⟨hx,l3,?_⟩
  rw[tagsL_step (by rw[drop_len (by omega)]; rw[← hs]at h0; omega)]
  have e4:(b.drop k).drop (3+(sz2 (b.drop k)).toNat)=b.drop (k+1+2+(sz2 (b.drop k)).toNat):=by
    rw[List.drop_drop]; congr 1; omega
  rw[e4]
  congr 2
  unfold tagV
  rw[e1,e2,v2,byV_yes rfl l1,← hs,tkL_yes rfl l3,List.drop_drop]
  rw[gQ,gQ,List.getElem?_drop]
  rfl
theorem tagR_no {b:List Int} {k:Nat} (hv:isBytes b=true) (hk:k<b.length) (h:(tagR b (k,false)).2=true):tagsL (b.drop k)=none:=by
  refine tagsL_bad (by rw[drop_len (by omega)]; omega) ?_
  rw[drop_len (by omega)]
  by_cases h3:b.length-k<3
  · exact .inl h3
  · refine .inr ?_
    unfold tagR at h
    rw[tkS_yes (s:=(k,false)) rfl (by simp; omega),tkS_yes (s:=(k+1,false)) rfl (by simp; omega),tkL_yes (s:=(k+1,false)) rfl (by simp; omega)]at h
    have hs:sz2 (b.drop k)=ofB ((b.drop (k+1)).take 2):=sz2_at
    have h0:=(ofB_2 hv (k+1)).1
    simp only at h
    rw[← hs]at h h0
    by_cases hl:k+1+2+(sz2 (b.drop k)).toNat≤b.length
    · rw[tkS_yes (s:=(k+1+2,false)) rfl (by simpa using hl)]at h
      cases h
    · omega
def headS (b:List Int):Int:=ofB ((b.drop 14).take 2)
def headFrom (b:List Int):Int×Bool:=if isBytes b=true∧28≤b.length∧alikeB b headP=true∧12≤headS b∧headS b≤(b.length:Int)-16∧tagsFrom ((b.take (16+headS b).toNat).drop 28)=true then(16+headS b,true) else(0,false)
def hdR1 (b:List Int):Nat×Bool:=exS b (0,!isBytes b) headP
def hdR2 (b:List Int):Nat×Bool:=tkS b (hdR1 b) 2
def hdN (b:List Int):Int:=ofB (tkL b (hdR1 b) 2)
def hdR3 (b:List Int):Nat×Bool:=tkS b (hdR2 b) (hdN b).toNat
def hdB (b:List Int):List Int:=tkL b (hdR2 b) (hdN b).toNat
def hdR4 (c:List Int):Nat×Bool:=tkS c (tkS c (tkS c (tkS c (0,!isBytes c) 4) 4) 2) 2
theorem headP_len:headP.length=14:=rfl
theorem hd_yes {b:List Int} (h1:(hdR3 b).2=false) (h2:(hdR4 (hdB b)).2=false):
    isBytes b=true∧28≤b.length∧alikeB b headP=true∧12≤headS b∧headS b≤(b.length:Int)-16∧(hdB b).drop (hdR4 (hdB b)).1=(b.take (16+headS b).toNat).drop 28∧((hdR3 b).1:Int)=16+headS b:=by
  unfold hdR3 at h1
  obtain ⟨g2,l2,e2,v2⟩:=tkS_ok h1
  unfold hdR2 at g2
  obtain ⟨g1,l1,e1,v1⟩:=tkS_ok g2
  unfold hdR1 at g1
  obtain ⟨g0,l0,a0,e0⟩:=exS_ok g1
  have hv:isBytes b=true:=by simpa using g0
  have r1:hdR1 b=(14,false):=by unfold hdR1; rw[e0]; simp[headP_len]
  have r2:hdR2 b=(16,false):=by unfold hdR2; rw[r1]at e1 ⊢; rw[e1]
  have n1:hdN b=headS b:=by unfold hdN headS; rw[r1]at v1 ⊢; rw[v1]
  rw[r2,n1]at l2 e2 v2
  have hb:=(ofB_2 hv 14)
  have hb':0≤headS b:=hb.1
  simp only at l2 e2 v2
  have hB:hdB b=(b.drop 16).take (headS b).toNat:=by unfold hdB; rw[r2,n1]; exact v2
  unfold hdR4 at h2 ⊢
  obtain ⟨k4,m4,f4,_⟩:=tkS_ok h2
  obtain ⟨k3,m3,f3,_⟩:=tkS_ok k4
  obtain ⟨k2,m2,f2,_⟩:=tkS_ok k3
  obtain ⟨k1,m1',f1,_⟩:=tkS_ok k2
  have hl:(hdB b).length=(headS b).toNat:=by rw[hB]; simp; omega
  rw[f1]at f2 m2
  rw[f1,f2]at f3 m3
  rw[f1,f2,f3]at f4 m4
  simp only at m1' m2 m3 m4 f2 f3 f4
  rw[f1,f2,f3,f4]
  simp only
  refine⟨hv,by omega,?_,by omega,by omega,?_,?_⟩
  · unfold alikeB
    rw[decide_eq_true_eq]
    simp only[headP_len]at a0 l0 ⊢
    rw[List.drop_zero]at a0
    rw[a0,List.take_of_length_le (by rw[headP_len]; omega)]
  · rw[hB,List.drop_take,List.drop_drop,List.drop_take]
    rw[show (headS b).toNat-(0+4+4+2+2)=(16+headS b).toNat-28 by omega]
  · unfold hdR3
    rw[r2,n1,e2]
    simp only
    omega
theorem hd_no {b:List Int} (h1:isBytes b=true) (h2:28≤b.length) (h3:alikeB b headP=true) (h4:12≤headS b) (h5:headS b≤(b.length:Int)-16):(hdR3 b).2=false∧(hdR4 (hdB b)).2=false:=by
  have a0:(b.drop 0).take headP.length=headP:=by
    have:=of_decide_eq_true h3
    rw[List.drop_zero,this,List.take_of_length_le (by rw[headP_len]; omega)]
  have r1:hdR1 b=(14,false):=by unfold hdR1; rw[exS_yes (by simp[h1]) (by simp[headP_len]; omega) a0]; simp[headP_len]
  have r2:hdR2 b=(16,false):=by unfold hdR2; rw[r1,tkS_yes rfl (by simp; omega)]
  have n1:hdN b=headS b:=by unfold hdN headS; rw[r1,tkL_yes rfl (by simp; omega)]
  have r3:hdR3 b=(16+(headS b).toNat,false):=by unfold hdR3; rw[r2,n1,tkS_yes rfl (by simp; omega)]
  have hB:hdB b=(b.drop 16).take (headS b).toNat:=by unfold hdB; rw[r2,n1,tkL_yes rfl (by simp; omega)]
  have hl:(hdB b).length=(headS b).toNat:=by rw[hB]; simp; omega
  have hv:isBytes (hdB b)=true:=isBytes_sub h1 (by rw[hB]; exact(List.take_sublist _ _).trans (List.drop_sublist _ _))
  refine⟨by rw[r3],?_⟩
  unfold hdR4
  have f1:tkS (hdB b) (0,!isBytes (hdB b)) 4=(4,false):=tkS_yes (by simp[hv]) (by simp; omega)
  have f2:tkS (hdB b) (4,false) 4=(8,false):=tkS_yes rfl (by simp; omega)
  have f3:tkS (hdB b) (8,false) 2=(10,false):=tkS_yes rfl (by simp; omega)
  have f4:tkS (hdB b) (10,false) 2=(12,false):=tkS_yes rfl (by simp; omega)
  rw[f1,f2,f3,f4]
theorem head_yes {b:List Int} (h1:(hdR3 b).2=false) (h2:(hdR4 (hdB b)).2=false) (h3:tagsFrom ((hdB b).drop (hdR4 (hdB b)).1)=true):headFrom b=(((hdR3 b).1:Int),true):=by
  obtain ⟨a1,a2,a3,a4,a5,a6,a7⟩:=hd_yes h1 h2
  unfold headFrom
  rw[if_pos ⟨a1,a2,a3,a4,a5,by rw[← a6]; exact h3⟩,a7]
theorem head_no1 {b:List Int} (h:(hdR3 b).2=true∨(hdR4 (hdB b)).2=true):headFrom b=(0,false):=by
  unfold headFrom
  refine if_neg fun hc=>?_
  have:=hd_no hc.1 hc.2.1 hc.2.2.1 hc.2.2.2.1 hc.2.2.2.2.1
  rcases h with h | h
  · rw[this.1]at h; cases h
  · rw[this.2]at h; cases h
theorem head_no2 {b:List Int} (h1:(hdR3 b).2=false) (h2:(hdR4 (hdB b)).2=false) (h3:tagsFrom ((hdB b).drop (hdR4 (hdB b)).1)=false):headFrom b=(0,false):=by
  obtain ⟨a1,a2,a3,a4,a5,a6,a7⟩:=hd_yes h1 h2
  unfold headFrom
  refine if_neg fun hc=>?_
  rw[← a6,h3]at hc
  exact absurd hc.2.2.2.2.2 (by decide)
def sniffZ (b:List Int):Int×Bool:=
  if sniffK b=1 then(oldFrom b).2 else if sniffK b=2 then(helloFrom b).2 else if sniffK b=3 then(connFrom (bT b)).2 else if sniffK b=4 then(lineFrom (bT b)).2 else if sniffK b=5 then headFrom b else(0,false)
def stateT (k:Int):List UInt8:=if k=0 then[104,101,108,108,111] else if k=1 then[108,111,103,105,110] else if k=2 then[114,101,113,117,101,115,116] else if k=3 then[111,112,101,110] else[115,104,117,116]
def hexOrT (b:List Int) (f:Bool):List UInt8:=if f=true then hexText b else[110,111]
def loginT (s:List UInt8):List UInt8×List UInt8:=if (splitB 47 s).length=2 then((splitB 47 s).getD 0 [],(splitB 47 s).getD 1 []) else([],[])
theorem tw_len {p:Int→Bool}: ∀ (l:List Int) (m:Nat),m<l.length→(∀ j,j<m→p (l.getD j 0)=true)→p (l.getD m 0)=false→(l.takeWhile p).length=m
  | [],m,h,_,_=>by cases h
  | a::l,0,_,_,h=>by
    have:p a=false:=by simpa using h
    simp[List.takeWhile_cons,this]
  | a::l,m+1,h,hj,he=>by
    have ha:p a=true:=by simpa using hj 0 (by omega)
    rw[List.takeWhile_cons,if_pos ha,List.length_cons]
    rw[tw_len l m (by simpa using h) (fun j hjm=>by simpa using hj (j+1) (by omega)) (by simpa using he)]
theorem tw_all {p:Int→Bool}: ∀ (l:List Int),(∀ j,j<l.length→p (l.getD j 0)=true)→(l.takeWhile p).length=l.length
  | [],_=>rfl
  | a::l,h=>by
    have ha:p a=true:=by simpa using h 0 (by simp)
    rw[List.takeWhile_cons,if_pos ha,List.length_cons,List.length_cons]
    rw[tw_all l (fun j hj=>by simpa using h (j+1) (by simpa using hj))]
theorem drop_getD {α:Type} {l:List α} {k j:Nat} {d:α}:(l.drop k).getD j d=l.getD (k+j) d:=by
  rw[gQ,gQ,List.getElem?_drop]
theorem zE_at {b:List Int} {k0 k:Nat} (h0:k0≤k) (hk:k<b.length) (ha: ∀ j,k0≤j→j<k→b.getD j 0≠0) (h:b.getD k 0=0):zE b k0=((k:Nat):Int):=by
  have e:((b.drop k0).takeWhile fun x=>decide (x≠0)).length=k-k0:=by
    refine tw_len _ _ (by simp; omega) (fun j hj=>?_) ?_
    · rw[drop_getD]; exact decide_eq_true (ha (k0+j) (by omega) (by omega))
    · rw[drop_getD,show k0+(k-k0)=k by omega,h]; decide
  unfold zE
  rw[e,if_pos (by omega)]
  omega
theorem zE_none {b:List Int} {k0 k:Nat} (hk:b.length≤k) (ha: ∀ j,k0≤j→j<k→b.getD j 0≠0):zE b k0= -1:=by
  have e:((b.drop k0).takeWhile fun x=>decide (x≠0)).length=(b.drop k0).length:=by
    refine tw_all _ (fun j hj=>?_)
    simp at hj
    rw[drop_getD]; exact decide_eq_true (ha (k0+j) (by omega) (by omega))
  unfold zE
  rw[e,if_neg (by simp; omega)]
theorem endL_yes {s:List UInt8} {k:Nat} (h1:1≤k) (hk:k<s.length) (ha: ∀ j,1≤j→j<k→ ¬ (s.getD (j-1) 0=13∧s.getD j 0=10)) (h:s.getD (k-1) 0=13∧s.getD k 0=10):endL s=((k:Nat):Int)+1:=by
  have hf:(List.range s.length).find? (fun i=>decide (1≤i) && decide (s.getD (i-1) 0=13) && decide (s.getD i 0=10))=some k:=by
    rw[List.find?_range_eq_some]
    refine⟨by simp[h1,h.1,h.2, -List.getD_eq_getElem?_getD],by simpa using hk,fun j hj=>?_⟩
    rcases Nat.eq_zero_or_pos j with h0 | h0
    · subst h0; simp
    · have:=ha j h0 hj
      rw[Bool.not_eq_true',Bool.and_assoc,Bool.and_eq_false_iff]
      refine .inr ?_
      rw[← Bool.decide_and]
      exact decide_eq_false this
  unfold endL
  rw[hf]
theorem endL_no {s:List UInt8} {k:Nat} (hk:s.length≤k) (ha: ∀ j,1≤j→j<k→ ¬ (s.getD (j-1) 0=13∧s.getD j 0=10)):endL s= -1:=by
  have hf:(List.range s.length).find? (fun i=>decide (1≤i) && decide (s.getD (i-1) 0=13) && decide (s.getD i 0=10))=none:=by
    rw[List.find?_eq_none]
    intro i hi
    simp only[List.mem_range]at hi
    rcases Nat.eq_zero_or_pos i with h0 | h0
    · subst h0; simp
    · have:=ha i h0 (by omega)
      rw[Bool.and_assoc,← Bool.decide_and,decide_eq_false this]
      simp
  unfold endL
  rw[hf]
def wordN (s:List UInt8) (k:Nat):List UInt8:=if 0≤idxB (s.drop k) 32 then cutA (s.drop k) 32 else[]
theorem wordN8 (s:List UInt8):wordN s 8=wordAt s:=rfl
theorem wordN_at {s:List UInt8} {k0 k:Nat} (h0:k0≤k) (hk:k<s.length) (ha: ∀ j,k0≤j→j<k→s.getD j 0≠32) (h:s.getD k 0=32):wordN s k0=(s.take k).drop k0:=by
  have e:idxB (s.drop k0) 32=((k-k0:Nat):Int):=by
    refine idxB_eq (by simp; omega) (fun j hj=>?_) ?_
    · rw[drop_getD]; exact ha _ (by omega) (by omega)
    · rw[drop_getD,show k0+(k-k0)=k by omega]; exact h
  unfold wordN cutA
  rw[e,if_pos (by omega),if_pos (by omega)]
  show (s.drop k0).take (k-k0)=_
  rw[List.drop_take]
theorem wordN_none {s:List UInt8} {k0 k:Nat} (hk:s.length≤k) (ha: ∀ j,k0≤j→j<k→s.getD j 0≠32):wordN s k0=[]:=by
  have e:idxB (s.drop k0) 32= -1:=by
    refine idxB_none (fun j hj=>?_)
    simp at hj
    rw[drop_getD]; exact ha _ (by omega) (by omega)
  unfold wordN
  rw[e,if_neg (by omega)]
theorem c13 {a:UInt8}:((a.toNat:Nat):Int)=13↔a=13:=⟨fun h=>UInt8.toNat_inj.1 (by have:(13:UInt8).toNat=13:=rfl; omega),fun h=>by subst h; rfl⟩
theorem c10 {a:UInt8}:((a.toNat:Nat):Int)=10↔a=10:=⟨fun h=>UInt8.toNat_inj.1 (by have:(10:UInt8).toNat=10:=rfl; omega),fun h=>by subst h; rfl⟩
theorem c32 {a:UInt8}:((a.toNat:Nat):Int)=32↔a=32:=⟨fun h=>UInt8.toNat_inj.1 (by have:(32:UInt8).toNat=32:=rfl; omega),fun h=>by subst h; rfl⟩
def oldZ (b:List Int):Int×Bool:=(oldFrom b).2
def connZ (s:List UInt8):Int×Bool:=(connFrom s).2
def lineZ (s:List UInt8):Int×Bool:=(lineFrom s).2
theorem zE_bd (b:List Int) (k:Nat): -1≤zE b k∧zE b k<(b.length:Int)∧(0≤zE b k→(k:Int)≤zE b k):=by
  unfold zE
  split <;> omega
theorem sub_byte {b:List Int} {i j:Nat} (h:isBytes b=true): ∀ x∈(b.take i).drop j,0≤x∧x≤255:=fun x hx=>(isBytes_iff.1 h).1 x (List.mem_of_mem_take (List.mem_of_mem_drop hx))
theorem oldZ_no {b:List Int} (h:isBytes b=false∨b.length<9∨b.getD 0 0≠4∨zE b 8<0∨((b.getD 4 0=0∧b.getD 5 0=0∧b.getD 6 0=0)∧(zE b (zE b 8+1).toNat<0∨b.getD 7 0≠1))):oldZ b=(0,false):=by
  unfold oldZ oldFrom
  simp only
  rw[if_neg]
  intro hc
  obtain ⟨h1,h2,h3,h4,h5,h6⟩:=hc
  rcases h with h | h | h | h | ⟨hn,h⟩
  · rw[h]at h1; cases h1
  · omega
  · exact h h3
  · omega
  · have:=h5 hn
    rw[show (zE b 8+1).toNat=(zE b 8).toNat+1 by omega]at h
    rcases h with h | h
    · omega
    · exact h this.2
theorem oldZ_1 {b:List Int} {f:Bool} (h1:isBytes b=true) (h2:9≤b.length) (h3:b.getD 0 0=4) (h4:0≤zE b 8) (hn: ¬ (b.getD 4 0=0∧b.getD 5 0=0∧b.getD 6 0=0))
    (h:oldOk (b.getD 1 0) 1 ((b.take 8).drop 4) [] (ofB ((b.take 4).drop 2)) (bT ((b.take (zE b 8).toNat).drop 8))=f):oldZ b=if f=true then(zE b 8+1,true) else(0,false):=by
  have e1:(b.take 8).drop 4=(b.drop 4).take 4:=by rw[List.drop_take]
  have e2:(b.take 4).drop 2=(b.drop 2).take 2:=by rw[List.drop_take]
  rw[e1,e2]at h
  unfold oldZ oldFrom
  simp only[if_neg hn,oldA,h]
  cases f
  · simp
  · rw[if_pos ⟨h1,h2,h3,h4,fun x=>absurd x hn,rfl⟩]; rfl
theorem oldZ_2 {b:List Int} {f:Bool} (h1:isBytes b=true) (h2:9≤b.length) (h3:b.getD 0 0=4) (h4:0≤zE b 8) (hn:b.getD 4 0=0∧b.getD 5 0=0∧b.getD 6 0=0) (h5:0≤zE b (zE b 8+1).toNat) (h6:b.getD 7 0=1)
    (h:oldOk (b.getD 1 0) 3 [] (bT ((b.take (zE b (zE b 8+1).toNat).toNat).drop (zE b 8+1).toNat)) (ofB ((b.take 4).drop 2)) (bT ((b.take (zE b 8).toNat).drop 8))=f):oldZ b=if f=true then(zE b (zE b 8+1).toNat+1,true) else(0,false):=by
  have e2:(b.take 4).drop 2=(b.drop 2).take 2:=by rw[List.drop_take]
  have e3:(zE b 8+1).toNat=(zE b 8).toNat+1:=by omega
  rw[e2,e3]at h
  rw[e3]at h5 ⊢
  unfold oldZ oldFrom
  simp only[if_pos hn,oldA,h]
  cases f
  · simp
  · rw[if_pos ⟨h1,h2,h3,h4,fun _=>⟨h5,h6⟩,rfl⟩]; rfl
theorem connZ_no {s:List UInt8} (h: ¬ preP s [67,79,78,78,69,67,84,32]∨(addrFrom (wordN s 8)).2=false∨ ¬ preP s (connT (addrFrom (wordN s 8)).1.1 (addrFrom (wordN s 8)).1.2.1 (addrFrom (wordN s 8)).1.2.2.1 (addrFrom (wordN s 8)).1.2.2.2)):connZ s=(0,false):=by
  unfold connZ connFrom
  rw[if_neg]
  rw[← wordN8]
  intro hc
  rcases h with h | h | h
  · exact h hc.1
  · rw[h]at hc; cases hc.2.1
  · exact h hc.2.2
theorem connZ_yes {s:List UInt8} (h1:preP s [67,79,78,78,69,67,84,32]) (h2:(addrFrom (wordN s 8)).2=true) (h3:preP s (connT (addrFrom (wordN s 8)).1.1 (addrFrom (wordN s 8)).1.2.1 (addrFrom (wordN s 8)).1.2.2.1 (addrFrom (wordN s 8)).1.2.2.2)):
    connZ s=(((connT (addrFrom (wordN s 8)).1.1 (addrFrom (wordN s 8)).1.2.1 (addrFrom (wordN s 8)).1.2.2.1 (addrFrom (wordN s 8)).1.2.2.2).length:Int),true):=by
  unfold connZ connFrom
  rw[← wordN8,if_pos ⟨h1,h2,h3⟩]
  rfl
theorem wordN_len (s:List UInt8) (k:Nat):(wordN s k).length≤s.length:=by
  unfold wordN
  split
  · have:=cutA_len (s.drop k) 32
    simp at this
    omega
  · simp
theorem addrFrom_nm (s:List UInt8):(addrFrom s).1.2.2.1.length≤64:=by
  rcases Bool.eq_false_or_eq_true (addrFrom s).2 with h | h
  · have h0:=(addrFrom_ok h).1
    have h1:=addrOk_fit h0
    simp only[addrOk,Bool.and_eq_true,Bool.or_eq_true,decide_eq_true_eq]at h0
    rcases h0.2 with ⟨_,hn⟩ | ⟨⟨hk,_⟩,_⟩
    · rw[hn]; simp
    · have:=h1.2.2.2 (by omega)
      omega
  · rw[addrFrom_no h]; simp
theorem lineT_y {ka:Int} {qa:List Int} {na:List UInt8} {pa kb:Int} {qb:List Int} {nb:List UInt8} {pb:Int} (h:pairB ka qa na pa kb qb nb pb=true):lineT ((ka,qa,na,pa),(kb,qb,nb,pb))=lineW ((ka,qa,na,pa),(kb,qb,nb,pb)):=if_pos h
theorem lineT_n {ka:Int} {qa:List Int} {na:List UInt8} {pa kb:Int} {qb:List Int} {nb:List UInt8} {pb:Int} (h:pairB ka qa na pa kb qb nb pb=false):lineT ((ka,qa,na,pa),(kb,qb,nb,pb))=[]:=if_neg (show ¬ pairB ka qa na pa kb qb nb pb=true by rw[h]; decide)
theorem lineZ_no {s:List UInt8} (h:endL s<0∨(words6 s).length≠6∨lineT (pairOf (words6 s))≠s.take (endL s).toNat):lineZ s=(0,false):=by
  unfold lineZ lineFrom
  rw[if_neg]
  rintro ⟨h1,h2,h3⟩
  rcases h with h | h | h
  · omega
  · exact h h2
  · exact h h3
theorem lineZ_yes {s:List UInt8} (h1:0≤endL s) (h2:(words6 s).length=6) (h3:lineT (pairOf (words6 s))=s.take (endL s).toNat):lineZ s=(endL s,true):=by
  unfold lineZ lineFrom
  rw[if_pos ⟨h1,h2,h3⟩]
theorem words6_at {s:List UInt8} (h:2≤endL s):splitB 32 (s.take (endL s-2).toNat)=words6 s:=by
  unfold words6
  rw[show (endL s-2).toNat=(endL s).toNat-2 by omega]
theorem lineZ_n2 {s:List UInt8} (hw:2≤endL s) (h:(((splitB 32 (s.take (endL s-2).toNat)).length:Nat):Int)≠6):lineZ s=(0,false):=lineZ_no (.inr (.inl (by rw[← words6_at hw]; omega)))
theorem lineZ_n3 {s:List UInt8} (hw:2≤endL s) (h:lineT (pairOf (splitB 32 (s.take (endL s-2).toNat)))≠s.take (endL s).toNat):lineZ s=(0,false):=lineZ_no (.inr (.inr (by rw[← words6_at hw]; exact h)))
theorem lineZ_y {s:List UInt8} (hw:2≤endL s) (h1: ¬ (((splitB 32 (s.take (endL s-2).toNat)).length:Nat):Int)≠6) (h: ¬ lineT (pairOf (splitB 32 (s.take (endL s-2).toNat)))≠s.take (endL s).toNat):lineZ s=(endL s,true):=lineZ_yes (by omega) (by rw[← words6_at hw]; omega) (by rw[← words6_at hw]; exact Decidable.not_not.1 h)
theorem word_len (s:List UInt8) (n k:Nat):((splitB 32 (s.take n)).getD k []).length≤s.length:=Nat.le_trans (splitB_getD 32 _ k) (by simp[List.length_take]; omega)
theorem line_f (s:List UInt8):(endL s≤(s.length:Int)∧(0≤endL s→2≤endL s))∧(∀ k,((splitB 32 (s.take (endL s-2).toNat)).getD k []).length≤s.length)∧(addrOf ((splitB 32 (s.take (endL s-2).toNat)).getD 2 []) (numD ((splitB 32 (s.take (endL s-2).toNat)).getD 4 []))).2.2.1.length≤s.length∧(addrOf ((splitB 32 (s.take (endL s-2).toNat)).getD 3 []) (numD ((splitB 32 (s.take (endL s-2).toNat)).getD 5 []))).2.2.1.length≤s.length:=
  ⟨endL_le s,word_len s _,Nat.le_trans (addrOf_len _ _) (word_len s _ 2),Nat.le_trans (addrOf_len _ _) (word_len s _ 3)⟩
def trimP (s t:List UInt8):List UInt8:=if preP s t then s.drop t.length else s
theorem trimP_C (s:List UInt8):trimP s [67,79,78,78,69,67,84,32]=trimC s:=rfl
theorem connZ_iy {s:List UInt8} (h:(addrFrom (cutA (trimP s [67,79,78,78,69,67,84,32]) 32)).2=true) (hp:preP s (connT (addrFrom (cutA (trimP s [67,79,78,78,69,67,84,32]) 32)).1.1 (addrFrom (cutA (trimP s [67,79,78,78,69,67,84,32]) 32)).1.2.1 (addrFrom (cutA (trimP s [67,79,78,78,69,67,84,32]) 32)).1.2.2.1 (addrFrom (cutA (trimP s [67,79,78,78,69,67,84,32]) 32)).1.2.2.2)):connZ s=(((connT (addrFrom (cutA (trimP s [67,79,78,78,69,67,84,32]) 32)).1.1 (addrFrom (cutA (trimP s [67,79,78,78,69,67,84,32]) 32)).1.2.1 (addrFrom (cutA (trimP s [67,79,78,78,69,67,84,32]) 32)).1.2.2.1 (addrFrom (cutA (trimP s [67,79,78,78,69,67,84,32]) 32)).1.2.2.2).length:Int),true):=by
  rw[trimP_C]at*
  unfold connZ
  rw[conn_impl_yes h hp]
  rfl
theorem connZ_in {s:List UInt8} (h:(addrFrom (cutA (trimP s [67,79,78,78,69,67,84,32]) 32)).2=false∨ ¬ preP s (connT (addrFrom (cutA (trimP s [67,79,78,78,69,67,84,32]) 32)).1.1 (addrFrom (cutA (trimP s [67,79,78,78,69,67,84,32]) 32)).1.2.1 (addrFrom (cutA (trimP s [67,79,78,78,69,67,84,32]) 32)).1.2.2.1 (addrFrom (cutA (trimP s [67,79,78,78,69,67,84,32]) 32)).1.2.2.2)):connZ s=(0,false):=by
  rw[trimP_C]at*
  unfold connZ
  rw[conn_impl_no]
  rintro ⟨h1,h2⟩
  rcases h with h | h
  · rw[h]at h1; cases h1
  · exact h h2
theorem trimP_len (s t:List UInt8):(trimP s t).length≤s.length:=by
  unfold trimP
  split
  · simp
  · exact Nat.le_refl _
theorem conn_f (s t:List UInt8):(trimP s t).length≤s.length∧(cutA (trimP s t) 32).length≤s.length∧(addrFrom (cutA (trimP s t) 32)).1.2.2.1.length≤64∧(connT (addrFrom (cutA (trimP s t) 32)).1.1 (addrFrom (cutA (trimP s t) 32)).1.2.1 (addrFrom (cutA (trimP s t) 32)).1.2.2.1 (addrFrom (cutA (trimP s t) 32)).1.2.2.2).length≤120:=
  ⟨trimP_len s t,Nat.le_trans (cutA_len _ _) (trimP_len s t),addrFrom_nm _,connT_len _ _ _ _⟩
theorem line_join {ka:Int} {qa:List Int} {na:List UInt8} {pa kb:Int} {qb:List Int} {nb:List UInt8} {pb:Int}:Lib.join [[80,82,79,88,89],[84,67,80,52],quadT qa,quadT qb,Lib.itoa pa,Lib.itoa pb] [32]++[13,10]=lineW ((ka,qa,na,pa),(kb,qb,nb,pb)):=by simp[lineW,Lib.join,List.intercalate]
theorem line_jlen {ka:Int} {qa:List Int} {na:List UInt8} {pa kb:Int} {qb:List Int} {nb:List UInt8} {pb:Int} (h:pairB ka qa na pa kb qb nb pb=true):(Lib.join [[80,82,79,88,89],[84,67,80,52],quadT qa,quadT qb,Lib.itoa pa,Lib.itoa pb] [32]).length≤100:=by
  have hpb:=pair_b (pairB_y h)
  simp[Lib.join,List.intercalate]
  omega
theorem tw_take {p:Int→Bool} (l:List Int):l.takeWhile p=l.take (l.takeWhile p).length:=List.prefix_iff_eq_take.1 (List.takeWhile_prefix p)
theorem un_byte {b:List Int} {s:Nat×Bool} (hle:s.1≤b.length) (h:byV b s≠0):s.2=false∧s.1<b.length∧b.getD s.1 0≠0∧byV b s=b.getD s.1 0∧tkS b s 1=(s.1+1,false):=by
  rcases Bool.eq_false_or_eq_true s.2 with h1 | h1
  · exact absurd (by simp[byV,tkL_no (.inl h1)]) h
  · rcases Nat.lt_or_ge s.1 b.length with h2 | h2
    · have e:=byV_yes h1 (show s.1+1≤b.length by omega)
      exact⟨h1,h2,by rw[← e]; exact h,e,tkS_yes h1 (by omega)⟩
    · exact absurd (by simp[byV,tkL_no (.inr (show b.length<s.1+1 by omega))]) h
theorem un_app {b:List Int} {sa k:Nat} (hk:sa+k<b.length):(b.drop sa).take k++[b.getD (sa+k) 0]=(b.drop sa).take (k+1):=by
  have hk':k<(b.drop sa).length:=by simp; omega
  have e:(b.drop sa).take (k+1)=(b.drop sa).take k++[(b.drop sa)[k]]:=List.take_succ_eq_append_getElem hk'
  rw[e,← drop_getD,gQ,gE hk']
  rfl
theorem un_brk {b:List Int} {sa k:Nat} {qa:Nat} {qf:Bool} (hle:sa+k≤b.length) (hz: ∀ j,j<k→b.getD (sa+j) 0≠0) (h0:byV b (sa+k,false)=0) (hs:(qa,qf)=tkS b (sa+k,false) 1):(qa,qf)=unS b (sa,false)∧(b.drop sa).take k=unL b (sa,false):=by
  have hd:(b.drop sa).length=b.length-sa:=by simp
  have hl:((b.drop sa).takeWhile fun x=>decide (x≠0)).length=k:=by
    rcases Nat.lt_or_ge (sa+k) b.length with h | h
    · refine tw_len _ k (by omega) (fun j hj=>?_) ?_
      · rw[drop_getD]; exact decide_eq_true (hz j hj)
      · rw[byV_yes rfl (by simp only; omega)]at h0
        rw[drop_getD]; simp only at h0; rw[h0]; decide
    · rw[tw_all _ (fun j hj=>by rw[drop_getD]; exact decide_eq_true (hz j (by omega)))]
      omega
  have hu:unL b (sa,false)=(b.drop sa).take k:=by
    unfold unL
    simp only[Bool.false_eq_true,if_false]
    rw[tw_take,hl]
  refine⟨?_,hu.symm⟩
  unfold unS
  rw[hu]
  have hk:((b.drop sa).take k).length=k:=by simp; omega
  simp only[Bool.false_eq_true,if_false,hk]
  rcases Nat.lt_or_ge (sa+k) b.length with h | h
  · rw[if_pos h,hs,tkS_yes rfl (by simp only; omega)]
  · rw[if_neg (by omega),hs,tkS_no (.inr (by simp only; omega))]
    simp only[Prod.mk.injEq,and_true]
    omega
theorem un_failS (b:List Int) (sa:Nat):(sa,true)=unS b (sa,true)∧([]:List Int)=unL b (sa,true):=⟨by simp[unS],by simp[unL]⟩
section
variable {b:List Int} {sa k ya qa:Nat} {yf sf qf:Bool}
theorem un_step (e1:ya=sa+k) (e2:ya≤b.length) (e3:yf=sf) (hne: ¬ byV b (ya,yf)=0) (hs:(qa,qf)=tkS b (ya,yf) 1):qa=sa+(k+1)∧qa≤b.length∧qf=sf∧sf=false∧byV b (ya,yf)=b.getD (sa+k) 0∧b.getD (sa+k) 0≠0∧sa+k<b.length:=by
  obtain ⟨u1,u2,u3,u4,u5⟩:=un_byte (b:=b) (s:=(ya,yf)) e2 hne
  simp only at u1 u2 u3 u4 u5
  rw[u5]at hs
  simp only[Prod.mk.injEq]at hs
  subst e3
  rw[← e1]
  exact⟨by omega,by omega,by rw[hs.2,u1],u1,u4,u3,u2⟩
theorem un_done (e1:ya=sa+k) (e2:ya≤b.length) (e3:yf=sf) (hz: ∀ j,j<k→b.getD (sa+j) 0≠0) (h1:(!yf)=true) (h0:byV b (ya,yf)=0) (hs:(qa,qf)=tkS b (ya,yf) 1):(qa,qf)=unS b (sa,sf)∧(b.drop sa).take k=unL b (sa,sf):=by
  have h:yf=false:=by simpa using h1
  subst e3 e1
  subst h
  exact un_brk e2 hz h0 hs
theorem un_exit (e1:ya=sa+k) (e3:yf=sf) (hk:sf=true→k=0) (h1:(!yf)=false):(ya,yf)=unS b (sa,sf)∧(b.drop sa).take k=unL b (sa,sf):=by
  have h:yf=true:=by simpa using h1
  subst e3 e1
  subst h
  have:=hk rfl
  subst this
  exact⟨(un_failS b sa).1,(un_failS b sa).2⟩
theorem un_by (hv:yf=false→isBytes b=true) (e3:yf=sf) (hk:sf=true→k=0): ∀ x∈(b.drop sa).take k,0≤x∧x≤255:=by
  subst e3
  rcases Bool.eq_false_or_eq_true yf with h | h
  · rw[hk h]; simp
  · exact fun x hx=>(isBytes_iff.1 (hv h)).1 x (List.mem_of_mem_drop (List.mem_of_mem_take hx))
theorem un_l65 (hv:yf=false→isBytes b=true) (e3:yf=sf) (hk:sf=true→k=0):((b.drop sa).take k).length≤65535:=by
  subst e3
  rcases Bool.eq_false_or_eq_true yf with h | h
  · rw[hk h]; simp
  · have:=isBytes_len (hv h)
    simp only[List.length_take,List.length_drop]; omega
end
theorem unL_len {b:List Int} {s:Nat×Bool} (hv:s.2=false→isBytes b=true):(bT (unL b s)).length≤120:=by
  rw[bT_len]
  unfold unL
  rcases Bool.eq_false_or_eq_true s.2 with h | h
  · simp[h]
  · have h1:=isBytes_len (hv h)
    have h2:=(List.takeWhile_prefix (l:=b.drop s.1) (fun x=>decide (x≠0))).length_le
    rw[if_neg (by rw[h]; decide)]
    rw[List.length_drop]at h2
    omega
section
variable {b:List Int} {s1 s2 s3 s4 s5 s6:Nat×Bool}
theorem old_r1 (h1:s1=exS b (0,!isBytes b) [4]) (h2:s2=tkS b s1 1) (h3:s3=tkS b s2 2) (h4:s4=tkS b s3 4) (h5:s5=unS b s4) (hq: ¬ tkL b s3 4=[0,0,0,1]):oldZ b=if s5.2=false∧oldOk (byV b s1) 1 (tkL b s3 4) [] (ofB (tkL b s2 2)) (bT (unL b s4))=true then((s5.1:Int),true) else(0,false):=by
  unfold oldZ
  rw[← oldR_eq]
  unfold oldR
  simp only
  rw[← h1,← h2,← h3,← h4,← h5]
  simp only[if_neg hq,oldA]
  split <;> rfl
theorem old_r2 (h1:s1=exS b (0,!isBytes b) [4]) (h2:s2=tkS b s1 1) (h3:s3=tkS b s2 2) (h4:s4=tkS b s3 4) (h5:s5=unS b s4) (h6:s6=unS b s5) (hq:tkL b s3 4=[0,0,0,1]):oldZ b=if s6.2=false∧oldOk (byV b s1) 3 [] (bT (unL b s5)) (ofB (tkL b s2 2)) (bT (unL b s4))=true then((s6.1:Int),true) else(0,false):=by
  unfold oldZ
  rw[← oldR_eq]
  unfold oldR
  simp only
  rw[← h1,← h2,← h3,← h4,← h5,← h6]
  simp only[if_pos hq,oldA]
  split <;> rfl
end
theorem sniffK_v {b:List Int} {k:Int} (h:sniffK b=k) (h6:k≠6):isBytes b=true:=by
  rcases Bool.eq_false_or_eq_true (isBytes b) with hh | hh
  · exact hh
  · exfalso
    apply h6
    rw[← h]
    simp[sniffK,hh]
theorem zq1 {b:List Int} (h:sniffK b=1):sniffZ b=((oldZ b).1,(oldZ b).2):=by simp only[sniffZ,h,if_true]; rfl
theorem zq2 {b:List Int} (h:sniffK b=2):sniffZ b=((helloFrom b).2.1,(helloFrom b).2.2):=by unfold sniffZ; rw[h,if_neg (by decide),if_pos rfl]
theorem zq3 {b:List Int} (h:sniffK b=3):sniffZ b=((connZ (bT b)).1,(connZ (bT b)).2):=by unfold sniffZ; rw[h,if_neg (by decide),if_neg (by decide),if_pos rfl]; rfl
theorem zq4 {b:List Int} (h:sniffK b=4):sniffZ b=((lineZ (bT b)).1,(lineZ (bT b)).2):=by unfold sniffZ; rw[h,if_neg (by decide),if_neg (by decide),if_neg (by decide),if_pos rfl]; rfl
theorem zq5 {b:List Int} (h:sniffK b=5):sniffZ b=((headFrom b).1,(headFrom b).2):=by unfold sniffZ; rw[h,if_neg (by decide),if_neg (by decide),if_neg (by decide),if_neg (by decide),if_pos rfl]
theorem zq0 {b:List Int} (h1: ¬ sniffK b=1) (h2: ¬ sniffK b=2) (h3: ¬ sniffK b=3) (h4: ¬ sniffK b=4) (h5: ¬ sniffK b=5):sniffZ b=(0,false):=by unfold sniffZ; rw[if_neg h1,if_neg h2,if_neg h3,if_neg h4,if_neg h5]
theorem bT_120 {b:List Int} {k:Int} (h:sniffK b=k) (h6:k≠6):(∀ x∈b,0≤x∧x≤255)∧b.length≤120:=⟨(isBytes_iff.1 (sniffK_v h h6)).1,isBytes_len (sniffK_v h h6)⟩
theorem oldZ_bd (b:List Int):0≤(oldZ b).1∧(oldZ b).1≤(b.length:Int):=by
  have h1:=zE_bd b 8
  have h2:=zE_bd b ((zE b 8).toNat+1)
  unfold oldZ oldFrom
  by_cases hn:b.getD 4 0=0∧b.getD 5 0=0∧b.getD 6 0=0
  · simp only[if_pos hn]
    split
    · rename_i h
      have:=(h.2.2.2.2.1 hn).1
      constructor <;> simp only <;> omega
    · simp
  · simp only[if_neg hn]
    split
    · rename_i h
      have:=h.2.2.2.1
      constructor <;> simp only <;> omega
    · simp
theorem lineZ_bd (s:List UInt8):0≤(lineZ s).1∧(lineZ s).1≤(s.length:Int):=by
  have:=endL_le s
  unfold lineZ lineFrom
  split
  · rename_i h; exact⟨h.1,this.1⟩
  · simp
theorem connZ_bd (s:List UInt8):0≤(connZ s).1∧(connZ s).1≤120:=by
  unfold connZ connFrom
  split
  · have:=connT_len (addrFrom (wordAt s)).1.1 (addrFrom (wordAt s)).1.2.1 (addrFrom (wordAt s)).1.2.2.1 (addrFrom (wordAt s)).1.2.2.2
    unfold connTA
    constructor <;> simp only <;> omega
  · simp
theorem headFrom_bd (b:List Int):0≤(headFrom b).1∧(headFrom b).1≤(b.length:Int):=by
  unfold headFrom
  split
  · rename_i h; constructor <;> simp only <;> omega
  · simp
theorem hello_bd (b:List Int):0≤(helloFrom b).2.1∧(helloFrom b).2.1≤(b.length:Int):=by
  unfold helloFrom
  split
  · rename_i h
    have h1:=isBytes_get h.1 (k:=1) (by omega)
    constructor <;> simp only <;> omega
  · simp
theorem sniffZ_bd (b:List Int):0≤(sniffZ b).1∧(sniffZ b).1≤(b.length:Int)+120:=by
  have h1:=oldZ_bd b
  have h2:=hello_bd b
  have h3:=connZ_bd (bT b)
  have h4:=lineZ_bd (bT b)
  have h5:=headFrom_bd b
  rw[bT_len]at h4
  unfold oldZ at h1
  unfold connZ at h3
  unfold lineZ at h4
  unfold sniffZ
  split
  · omega
  · split
    · omega
    · split
      · omega
      · split
        · omega
        · split
          · omega
          · constructor <;> simp only <;> omega
theorem kindText_16 (z:Int):(kindText z).length≤16:=by
  unfold kindText
  split
  · have h: ∀ n,(kindTs.getD n []).length≤16:=by
      intro n
      match n with
      | 0=>decide
      | 1=>decide
      | 2=>decide
      | 3=>decide
      | 4=>decide
      | 5=>decide
      | 6=>decide
      | n+7=>simp[kindTs]
    exact h _
  · simp
def sniffT (b:List Int):List UInt8:=kindText (sniffK b)++(if (sniffZ b).2=true then[32]++Lib.itoa (sniffZ b).1 else[])
theorem sniffT_y {b:List Int} (h:(sniffZ b).2=true):kindText (sniffK b)++([32]++Lib.itoa (sniffZ b).1)=sniffT b:=by unfold sniffT; rw[if_pos h]
theorem sniffT_n {b:List Int} (h:(sniffZ b).2=false):kindText (sniffK b)=sniffT b:=by unfold sniffT; rw[if_neg (by rw[h]; decide)]; simp
def sniffS (s:List UInt8):List UInt8:=(if (hexFrom s).2=true then sniffT (hexFrom s).1 else[110,111])++[10]
theorem sniffS_0 {s:List UInt8} (h:(hexFrom s).2=false):[110,111,10]=sniffS s:=by unfold sniffS; rw[if_neg (by rw[h]; decide)]; rfl
theorem sniffS_1 {s:List UInt8} (h:(hexFrom s).2=true) (h2:(sniffZ (hexFrom s).1).2=false):kindText (sniffK (hexFrom s).1)++[10]=sniffS s:=by unfold sniffS; rw[if_pos h,← sniffT_n h2]
theorem sniffS_2 {s:List UInt8} (h:(hexFrom s).2=true) (h2:(sniffZ (hexFrom s).1).2=true):kindText (sniffK (hexFrom s).1)++[32]++Lib.itoa (sniffZ (hexFrom s).1).1++[10]=sniffS s:=by unfold sniffS; rw[if_pos h,← sniffT_y h2]; simp
theorem sniff_f (s:List UInt8):(hexFrom s).1.length≤120∧(0≤(sniffZ (hexFrom s).1).1∧(sniffZ (hexFrom s).1).1≤240)∧(kindText (sniffK (hexFrom s).1)).length≤16:=by
  have h1:=hexFrom_len s
  have h2:=sniffZ_bd (hexFrom s).1
  exact⟨h1,by omega,kindText_16 _⟩
def loginX (s:List UInt8):List UInt8:=if (splitB 47 s).length=2 then hexOrT (loginP ((splitB 47 s).getD 0 []) ((splitB 47 s).getD 1 [])).1 (loginP ((splitB 47 s).getD 0 []) ((splitB 47 s).getD 1 [])).2 else[110,111]
theorem loginX_n {s:List UInt8} (h:(((splitB 47 s).length:Nat):Int)≠2):[110,111]=loginX s:=by unfold loginX; rw[if_neg (by omega)]
theorem loginX_y {s:List UInt8} (h: ¬ (((splitB 47 s).length:Nat):Int)≠2):hexOrT (loginP ((splitB 47 s).getD 0 []) ((splitB 47 s).getD 1 [])).1 (loginP ((splitB 47 s).getD 0 []) ((splitB 47 s).getD 1 [])).2=loginX s:=by unfold loginX; rw[if_pos (by omega)]
def askX (old:Bool) (s:List UInt8):List UInt8:=if (addrFrom s).2=true then(if old=true then hexOrT (oldP 1 (addrFrom s).1.1 (addrFrom s).1.2.1 (addrFrom s).1.2.2.1 (addrFrom s).1.2.2.2 []).1 (oldP 1 (addrFrom s).1.1 (addrFrom s).1.2.1 (addrFrom s).1.2.2.1 (addrFrom s).1.2.2.2 []).2 else hexOrT (reqP 1 (addrFrom s).1.1 (addrFrom s).1.2.1 (addrFrom s).1.2.2.1 (addrFrom s).1.2.2.2).1 (reqP 1 (addrFrom s).1.1 (addrFrom s).1.2.1 (addrFrom s).1.2.2.1 (addrFrom s).1.2.2.2).2) else[110,111]
theorem askX_0 {b:Bool} {s:List UInt8} (h:(addrFrom s).2=false):[110,111]=askX b s:=by unfold askX; rw[if_neg (by rw[h]; decide)]
theorem askX_o {c s:List UInt8} (h:(addrFrom s).2=true) (h2:c=[111,108,100]):hexOrT (oldP 1 (addrFrom s).1.1 (addrFrom s).1.2.1 (addrFrom s).1.2.2.1 (addrFrom s).1.2.2.2 []).1 (oldP 1 (addrFrom s).1.1 (addrFrom s).1.2.1 (addrFrom s).1.2.2.1 (addrFrom s).1.2.2.2 []).2=askX (decide (c=[111,108,100])) s:=by unfold askX; rw[if_pos h,if_pos (decide_eq_true h2)]
theorem askX_r {c s:List UInt8} (h:(addrFrom s).2=true) (h2: ¬ c=[111,108,100]):hexOrT (reqP 1 (addrFrom s).1.1 (addrFrom s).1.2.1 (addrFrom s).1.2.2.1 (addrFrom s).1.2.2.2).1 (reqP 1 (addrFrom s).1.1 (addrFrom s).1.2.1 (addrFrom s).1.2.2.1 (addrFrom s).1.2.2.2).2=askX (decide (c=[111,108,100])) s:=by unfold askX; rw[if_pos h,if_neg (by rw[decide_eq_false h2]; decide)]
theorem split47_len (s:List UInt8) (k:Nat):((splitB 47 s).getD k []).length≤s.length:=splitB_getD 47 s k
theorem talkOk_wl (wt:List Int) (lg:List Lg):talkOk 0 wt lg []=wlOk wt lg:=by
  rw[Bool.eq_iff_iff]
  simp only[talkOk,wlOk,Bool.and_eq_true,Bool.or_eq_true,decide_eq_true_eq]
  constructor
  · rintro ⟨⟨⟨⟨⟨⟨_,h2⟩,h3⟩,h4⟩,h5⟩,_⟩,_⟩
    exact⟨⟨h4,h5⟩,h2,h3⟩
  · rintro ⟨⟨h4,h5⟩,h2,h3⟩
    exact⟨⟨⟨⟨⟨⟨by omega,h2⟩,h3⟩,h4⟩,h5⟩,.inl (by decide)⟩,by rw[if_neg (by decide)]; simp⟩
theorem talkNew_y {wt:List Int} {lg:List Lg} (h:talkOk 0 wt lg []=true):talkNew wt lg=((0,wt,lg,[]),true):=by unfold talkNew; rw[if_pos (by rw[← talkOk_wl]; exact h)]
theorem talkNew_n {wt:List Int} {lg:List Lg} (h:talkOk 0 wt lg []=false):talkNew wt lg=((0,[],[],[]),false):=by unfold talkNew; rw[if_neg (by rw[← talkOk_wl,h]; decide)]
abbrev Tk:=Int×List Int×List Lg×List UInt8
def tk0:Tk:=(0,[2,0],[([97,110,110],[97,98,99])],[])
def sayR (t:Tk) (b:List Int):Tk×List Int×Bool:=talkSay t.1 t.2.1 t.2.2.1 t.2.2.2 b
def sayV (k:Int) (r:List Int):List UInt8:=if r.length=0 then stateT k else stateT k++[32]++hexText r
def sayX (t:Tk) (b:List Int):Tk×List UInt8:=if (sayR t b).2.2=true then((sayR t b).1,sayV (sayR t b).1.1 (sayR t b).2.1) else(t,[110,111])
def sayL (t:Tk) (s:List UInt8):Tk×List UInt8:=if (hexFrom s).2=true then sayX t (hexFrom s).1 else(t,[110,111])
def sniffW (s:List UInt8):List UInt8:=if (hexFrom s).2=true then sniffT (hexFrom s).1 else[110,111]
def lineV (t:Tk) (a s:List UInt8):Tk×List UInt8:=
  if a=[111,108,100] then(t,askX true s) else if a=[114,101,113,117,101,115,116] then(t,askX false s) else if a=[108,111,103,105,110] then(t,loginX s)
  else if a=[115,110,105,102,102] then(t,sniffW s) else if a=[115,97,121] then sayL t s else(t,[119,104,97,116])
def lineX (t:Tk) (l:List UInt8):Tk×List UInt8:=if (splitB 32 l).length=2 then lineV t ((splitB 32 l).getD 0 []) ((splitB 32 l).getD 1 []) else(t,[119,104,97,116])
abbrev Xs:=Tk×List UInt8×List UInt8
def stepX (x:Xs) (c:UInt8):Xs:=if c=10 then((lineX x.1 x.2.2).1,x.2.1++((lineX x.1 x.2.2).2++[10]),[]) else(x.1,x.2.1,x.2.2++[c])
def scS (s:List UInt8):Xs:=s.foldl stepX (tk0,[],[])
def execT (s:List UInt8):List UInt8:=if 400<s.length then[116,111,111,32,108,111,110,103,10] else(scS s).2.1++stateT (scS s).1.1++[10]
theorem scS_app (s r:List UInt8):scS (s++r)=r.foldl stepX (scS s):=by unfold scS; rw[List.foldl_append]
theorem stepX_run (x:Xs): ∀ (r:List UInt8),(∀ c∈r,c≠10)→r.foldl stepX x=(x.1,x.2.1,x.2.2++r)
  | [],_=>by simp
  | c::r,h=>by
    have hc:c≠10:=h c (by simp)
    rw[List.foldl_cons,stepX_run _ r (fun d hd=>h d (by simp[hd]))]
    simp[stepX,hc]
theorem take_snoc {α:Type} {l:List α} {k:Nat} {d:α} (h:k<l.length):l.take (k+1)=l.take k++[l.getD k d]:=by
  rw[List.take_succ_eq_append_getElem h,gQ,gE h]
  rfl
theorem scT_step {s:List UInt8} {k m:Nat} {t:Tk} {o:List UInt8} (hk:k<s.length) (hm:m≤k) (h:scS (s.take k)=(t,o,(s.take k).drop m)) (hc:s.getD k 0≠10):scS (s.take (k+1))=(t,o,(s.take (k+1)).drop m):=by
  rw[take_snoc (d:=0) hk,scS_app,h]
  simp only[List.foldl_cons,List.foldl_nil,stepX,if_neg hc]
  rw[List.drop_append_of_le_length (by simp; omega)]
theorem scT_line {s:List UInt8} {k m:Nat} {t t':Tk} {o o':List UInt8} (hk:k<s.length) (h:scS (s.take k)=(t,o,(s.take k).drop m)) (hc:s.getD k 0=10) (h1:t'=(lineX t ((s.take k).drop m)).1) (h2:o'=(lineX t ((s.take k).drop m)).2++[10]):scS (s.take (k+1))=(t',o++o',(s.take (k+1)).drop (k+1)):=by
  have e:(s.take (k+1)).drop (k+1)=[]:=List.drop_eq_nil_of_le (List.length_take_le _ _)
  rw[e,take_snoc (d:=0) hk,scS_app,h]
  simp only[List.foldl_cons,List.foldl_nil,stepX,if_pos hc,h1,h2]
theorem scT_end {s:List UInt8} {k m:Nat} {t:Tk} {o:List UInt8} (hk:s.length≤k) (hl:s.length≤400) (h:scS (s.take k)=(t,o,(s.take k).drop m)):execT s=o++stateT t.1++[10]:=by
  rw[List.take_of_length_le hk]at h
  unfold execT
  rw[if_neg (by omega),h]
theorem execT_long {s:List UInt8} (h:400<s.length):execT s=[116,111,111,32,108,111,110,103,10]:=if_pos h
theorem stateT_len (k:Int):(stateT k).length≤7:=by
  unfold stateT
  split
  · simp
  · split
    · simp
    · split
      · simp
      · split <;> simp
theorem hexOrT_len (b:List Int) (f:Bool):(hexOrT b f).length≤240:=by
  unfold hexOrT
  split
  · exact hexText_len b
  · simp
theorem askX_len (b:Bool) (s:List UInt8):(askX b s).length≤240:=by
  unfold askX
  split
  · split <;> exact hexOrT_len _ _
  · simp
theorem loginX_len (s:List UInt8):(loginX s).length≤240:=by
  unfold loginX
  split
  · exact hexOrT_len _ _
  · simp
theorem sniffW_len (s:List UInt8):(sniffW s).length≤240:=by
  unfold sniffW
  split
  · have h:=sniff_f s
    have h2:=Lib.itoa_length_le (sniffZ (hexFrom s).1).1 (by omega) (by omega)
    unfold sniffT
    split
    · simp only[List.length_append,List.length_cons,List.length_nil]; omega
    · simp only[List.length_append,List.length_nil]; omega
  · simp
theorem sayX_len (t:Tk) (b:List Int):(sayX t b).2.length≤260:=by
  unfold sayX sayV
  split
  · have h1:=stateT_len (sayR t b).1.1
    have h2:=hexText_len (sayR t b).2.1
    split
    · simp only; omega
    · simp only[List.length_append,List.length_cons,List.length_nil]; omega
  · simp
theorem sayL_len (t:Tk) (s:List UInt8):(sayL t s).2.length≤260:=by
  unfold sayL
  split
  · exact sayX_len _ _
  · simp
theorem lineX_len (t:Tk) (l:List UInt8):(lineX t l).2.length≤260:=by
  unfold lineX lineV
  have h1:=askX_len true ((splitB 32 l).getD 1 [])
  have h2:=askX_len false ((splitB 32 l).getD 1 [])
  have h3:=loginX_len ((splitB 32 l).getD 1 [])
  have h4:=sniffW_len ((splitB 32 l).getD 1 [])
  have h5:=sayL_len t ((splitB 32 l).getD 1 [])
  repeat' split
  all_goals first | exact h5 | (simp only; omega) | simp
theorem talkSay_st (st:Int) (wt:List Int) (lg:List Lg) (to:List UInt8) (b:List Int):0≤(talkSay st wt lg to b).1.1∧(talkSay st wt lg to b).1.1≤4:=by
  unfold talkSay
  split
  · split
    · unfold sayHello
      simp only
      split
      · simp only
        split
        · simp
        · split <;> simp
      · simp
    · split
      · unfold sayLogin
        simp only
        split
        · split <;> simp
        · simp
      · unfold sayReq
        simp only
        split
        · split <;> simp
        · simp
  · simp
def tkFit (t:Tk):Prop:=(0≤t.1∧t.1≤4)∧t.2.1.length≤8∧t.2.2.1.length≤4∧t.2.2.2.length≤42∧ ∀ u∈t.2.2.1,u.1.length≤3∧u.2.length≤3
theorem tk0_fit:tkFit tk0:=by simp[tkFit,tk0]
theorem sayX_fit {t:Tk} (h:tkFit t) (b:List Int):tkFit (sayX t b).1:=by
  unfold sayX
  split
  · have h1:=talkSay_len t.1 t.2.1 t.2.2.1 t.2.2.2 b
    exact⟨talkSay_st _ _ _ _ _,h1.1,h1.2.1,talkSay_to _ _ _ _ _,fun u hu=>h.2.2.2.2 u (talkSay_lg u hu)⟩
  · exact h
theorem sayL_fit {t:Tk} (h:tkFit t) (s:List UInt8):tkFit (sayL t s).1:=by
  unfold sayL
  split
  · exact sayX_fit h _
  · exact h
theorem lineX_fit {t:Tk} (h:tkFit t) (l:List UInt8):tkFit (lineX t l).1:=by
  unfold lineX lineV
  have h5:=sayL_fit h ((splitB 32 l).getD 1 [])
  repeat' split
  all_goals first | exact h5 | exact h
theorem scS_fit {s:List UInt8}:tkFit (scS s).1∧(scS s).2.1.length≤261*s.length:=by
  have key: ∀ (n:Nat),n≤s.length→tkFit (scS (s.take n)).1∧(scS (s.take n)).2.1.length≤261*n:=by
    intro n
    induction n with
    | zero=>intro _; exact⟨tk0_fit,by simp[scS]⟩
    | succ n ih=>
      intro hn
      obtain ⟨h1,h2⟩:=ih (by omega)
      rw[take_snoc (d:=0) (by omega),scS_app]
      simp only[List.foldl_cons,List.foldl_nil,stepX]
      split
      · have h3:=lineX_len (scS (s.take n)).1 (scS (s.take n)).2.2
        exact⟨lineX_fit h1 _,by simp only[List.length_append,List.length_cons,List.length_nil]; omega⟩
      · exact⟨h1,by simp only; omega⟩
  have:=key s.length (Nat.le_refl _)
  rwa [List.take_length]at this
theorem addr0_no:addrOk 0 [] [] 0=false:=by decide
theorem old0:oldP 1 0 [] [] 0 []=([],false):=by unfold oldP oldOk; rw[addr0_no]; simp
theorem req0:reqP 1 0 [] [] 0=([],false):=by unfold reqP reqOk; rw[addr0_no]; simp
theorem login0_no:loginP [] []=([],false):=by decide
theorem ask_o (s:List UInt8):hexOrT (oldP 1 (addrFrom s).1.1 (addrFrom s).1.2.1 (addrFrom s).1.2.2.1 (addrFrom s).1.2.2.2 []).1 (oldP 1 (addrFrom s).1.1 (addrFrom s).1.2.1 (addrFrom s).1.2.2.1 (addrFrom s).1.2.2.2 []).2=askX true s:=by
  unfold askX
  rcases Bool.eq_false_or_eq_true (addrFrom s).2 with h | h
  · rw[if_pos h,if_pos rfl]
  · rw[if_neg (by rw[h]; decide),addrFrom_no h]
    simp only
    rw[old0]
    rfl
theorem ask_r (s:List UInt8):hexOrT (reqP 1 (addrFrom s).1.1 (addrFrom s).1.2.1 (addrFrom s).1.2.2.1 (addrFrom s).1.2.2.2).1 (reqP 1 (addrFrom s).1.1 (addrFrom s).1.2.1 (addrFrom s).1.2.2.1 (addrFrom s).1.2.2.2).2=askX false s:=by
  unfold askX
  rcases Bool.eq_false_or_eq_true (addrFrom s).2 with h | h
  · rw[if_pos h,if_neg (by decide)]
  · rw[if_neg (by rw[h]; decide),addrFrom_no h]
    simp only
    rw[req0]
    rfl
theorem login_q (s:List UInt8):hexOrT (loginP (loginT s).1 (loginT s).2).1 (loginP (loginT s).1 (loginT s).2).2=loginX s:=by
  unfold loginX loginT
  split
  · rfl
  · simp only
    rw[login0_no]
    rfl
theorem sniffS_w (s:List UInt8):sniffS s=sniffW s++[10]:=rfl
theorem occ2 {s:List UInt8} {i:Nat}:Lib.occAt s [13,10] i=true↔(i+1<s.length∧s.getD i 0=13∧s.getD (i+1) 0=10):=by
  unfold Lib.occAt
  rw[List.isPrefixOf_iff_prefix]
  constructor
  · rintro ⟨r,hr⟩
    have hl:=congrArg List.length hr
    simp only[List.length_append,List.length_cons,List.length_nil,List.length_drop]at hl
    have h0:(s.drop i).getD 0 0=13:=by rw[← hr]; rfl
    have h1:(s.drop i).getD 1 0=10:=by rw[← hr]; rfl
    rw[drop_getD]at h0 h1
    exact⟨by omega,h0,h1⟩
  · rintro ⟨h,h0,h1⟩
    refine⟨s.drop (i+2),?_⟩
    rw[List.drop_eq_getElem_cons (show i<s.length by omega),List.drop_eq_getElem_cons h]
    rw[gQ,gE (show i<s.length by omega)]at h0
    rw[gQ,gE h]at h1
    simp only[Option.getD_some]at h0 h1
    rw[h0,h1]; rfl
theorem cutCR_eq (s:List UInt8):(Lib.cut s [13,10]).1=cutCR s:=by
  unfold Lib.cut cutCR
  rcases Lib.index_spec s [13,10] with ⟨h1,h2⟩ | ⟨i,h1,h2,h3,h4⟩
  · have e:endL s= -1:=by
      refine endL_no (k:=s.length) (Nat.le_refl _) (fun j h0 hj hh=>?_)
      have:=h2 (j-1) (by omega)
      rw[Bool.eq_false_iff]at this
      refine this (occ2.2 ⟨by omega,hh.1,?_⟩)
      rw[show j-1+1=j by omega]
      exact hh.2
    rw[h1,e,if_neg (by decide),if_neg (by decide)]
  · obtain ⟨g1,g2,g3⟩:=occ2.1 h3
    have e:endL s=((i+1:Nat):Int)+1:=by
      refine endL_yes (by omega) g1 (fun j h0 hj hh=>?_) ⟨by rw[show i+1-1=i by omega]; exact g2,g3⟩
      have:=h4 (j-1) (by omega)
      rw[Bool.eq_false_iff]at this
      refine this (occ2.2 ⟨by omega,hh.1,?_⟩)
      rw[show j-1+1=j by omega]
      exact hh.2
    rw[h1,e,if_pos (by omega),if_pos (by omega)]
    simp only
    congr 1
theorem cutCR_len (s:List UInt8):(cutCR s).length≤s.length:=by
  unfold cutCR
  split
  · exact List.length_take_le' ..
  · exact Nat.le_refl _
def lineGt (s:List UInt8) (i j:Nat):List UInt8:=(splitB 32 (cutCR s)).getD i []++[58]++(splitB 32 (cutCR s)).getD j []
theorem lineZ_iy {s:List UInt8} (h1:(addrFrom (lineGt s 2 4)).2=true) (h2:(addrFrom (lineGt s 3 5)).2=true) (h3: ¬ lineT ((addrFrom (lineGt s 2 4)).1,(addrFrom (lineGt s 3 5)).1)=[]) (h4:preP s (lineT ((addrFrom (lineGt s 2 4)).1,(addrFrom (lineGt s 3 5)).1))):
    lineZ s=(((lineT ((addrFrom (lineGt s 2 4)).1,(addrFrom (lineGt s 3 5)).1)).length:Int),true):=by
  unfold lineZ
  rw[line_yes (s:=s) h1 h2 h3 h4]
  rfl
theorem lineZ_in {s:List UInt8} (h:(splitB 32 (cutCR s)).length≠6∨(addrFrom (lineGt s 2 4)).2=false∨(addrFrom (lineGt s 3 5)).2=false∨lineT ((addrFrom (lineGt s 2 4)).1,(addrFrom (lineGt s 3 5)).1)=[]∨ ¬ preP s (lineT ((addrFrom (lineGt s 2 4)).1,(addrFrom (lineGt s 3 5)).1))):lineZ s=(0,false):=by
  unfold lineZ
  rw[line_no]
  rintro ⟨g1,g2,g3,g4,g5⟩
  have g2':(addrFrom (lineGt s 2 4)).2=true:=g2
  have g3':(addrFrom (lineGt s 3 5)).2=true:=g3
  rcases h with h | h | h | h | h
  · exact h g1
  · rw[h]at g2'; cases g2'
  · rw[h]at g3'; cases g3'
  · exact g4 h
  · exact h g5
theorem lineT_102 (ka:Int) (qa:List Int) (na:List UInt8) (pa kb:Int) (qb:List Int) (nb:List UInt8) (pb:Int):(lineT ((ka,qa,na,pa),(kb,qb,nb,pb))).length≤102:=by
  rcases Bool.eq_false_or_eq_true (pairB ka qa na pa kb qb nb pb) with h | h
  · rw[lineT_y h,← line_join,List.length_append]
    have:=line_jlen h
    simp only[List.length_cons,List.length_nil]
    omega
  · rw[lineT_n h]; simp
theorem lineG_f (s:List UInt8):(cutCR s).length≤s.length∧(∀ k,((splitB 32 (cutCR s)).getD k []).length≤s.length)∧(addrFrom ((splitB 32 (cutCR s)).getD 2 []++[58]++(splitB 32 (cutCR s)).getD 4 [])).1.2.2.1.length≤64∧(addrFrom ((splitB 32 (cutCR s)).getD 3 []++[58]++(splitB 32 (cutCR s)).getD 5 [])).1.2.2.1.length≤64:=
  ⟨cutCR_len s,fun k=>Nat.le_trans (splitB_getD 32 (cutCR s) k) (cutCR_len s),addrFrom_nm _,addrFrom_nm _⟩
abbrev TgE:=Int×Hd
abbrev gTgE (x:TgE):List Value:=[I x.1,hv x.2]
abbrev tgE0:TgE:=(0,hd0)
def tgX (l:List TgE):TgL:=l.map fun u=>(u.1,u.2.xs)
def tgB (u:TgE):Bool:=tagOk (u.1,u.2.xs)
theorem tgX_push (l:List TgE) (u:TgE):tgX (l++[u])=tgX l++[(u.1,u.2.xs)]:=by simp[tgX]
theorem tgX_ok (l:List TgE):tagsOk (tgX l)=(decide (l.length≤4) && l.all tgB):=by
  unfold tagsOk tgX tgB
  rw[List.length_map,List.all_map]
  rfl
theorem tgB_no {u:TgE} (h: ¬ (0≤u.1∧u.1≤255)∨isBytes u.2.xs=false∨16<u.2.xs.length):tgB u=false:=by
  unfold tgB tagOk
  rcases h with h | h | h
  · simp[h]
  · simp[h]
  · simp; omega
theorem tgB_yes {u:TgE} (h1:0≤u.1∧u.1≤255) (h2:isBytes u.2.xs=true) (h3:u.2.xs.length≤16):tgB u=true:=by
  unfold tgB tagOk
  simp[h1,h2,h3]
theorem tgs_no {l:List TgE} {k:Nat} (hk:k<l.length) (h:tgB (l.getD k tgE0)=false):tagsOk (tgX l)=false:=by
  rw[tgX_ok,all_no (d:=tgE0) hk h,Bool.and_false]
theorem tgs_all {l:List TgE} {k:Nat} (hk:l.length≤k) (h:(l.take k).all tgB=true):tagsOk (tgX l)=decide (l.length≤4):=by
  rw[tgX_ok]
  rw[List.take_of_length_le hk]at h
  rw[h,Bool.and_true]
theorem tgs_step {b:List Int} {k:Nat} {e:Int} {tg:List TgE} {h:Hd} (hz:tagsL b=(tagsL (b.drop k)).map (tgX tg++ ·)) (hc: ¬ ((b.length:Int)-k<3)) (he:e=(k:Int)+3+ofB ((b.take (k+3)).drop (k+1))) (h0:0≤ofB ((b.take (k+3)).drop (k+1))) (hc2: ¬ ((b.length:Int)-k-3<ofB ((b.take (k+3)).drop (k+1)))) (hx:h.xs=(b.take e.toNat).drop (k+3)):
    tagsL b=(tagsL (b.drop e.toNat)).map (tgX (tg++[(b.getD k 0,h)])++ ·):=by
  have e1:(b.take (k+3)).drop (k+1)=(b.drop (k+1)).take 2:=by rw[List.drop_take]; congr 1; omega
  have hs:sz2 (b.drop k)=ofB ((b.take (k+3)).drop (k+1)):=by rw[sz2_at,e1]
  rw[← hs]at he h0 hc2
  rw[tagsL_step (b:=b.drop k) (by rw[List.length_drop]; omega)]at hz
  have e4:(b.drop k).drop (3+(sz2 (b.drop k)).toNat)=b.drop e.toNat:=by rw[List.drop_drop]; congr 1; omega
  have e5:((b.drop k).drop 3).take (sz2 (b.drop k)).toNat=h.xs:=by
    rw[hx,List.drop_take,List.drop_drop]
    congr 1
    omega
  have e6:(b.drop k).getD 0 0=b.getD k 0:=drop_getD
  rw[e4,e5,e6]at hz
  rw[hz,Option.map_map,tgX_push]
  congr 1
  funext l
  simp
theorem tgs_bad {b:List Int} {k:Nat} {tg:List TgE} (hz:tagsL b=(tagsL (b.drop k)).map (tgX tg++ ·)) (hk:k<b.length) (h:(b.length:Int)-k<3∨(b.length:Int)-k-3<ofB ((b.take (k+3)).drop (k+1))):tagsFrom b=false:=by
  have e1:(b.take (k+3)).drop (k+1)=(b.drop (k+1)).take 2:=by rw[List.drop_take]; congr 1; omega
  have hs:sz2 (b.drop k)=ofB ((b.take (k+3)).drop (k+1)):=by rw[sz2_at,e1]
  rw[← hs]at h
  rw[tagsL_bad (b:=b.drop k) (by rw[List.length_drop]; omega) (by rw[List.length_drop]; omega)]at hz
  unfold tagsFrom
  rw[hz]
  simp
theorem tgs_end {b:List Int} {k:Nat} {tg:List TgE} (hv:isBytes b=true) (hz:tagsL b=(tagsL (b.drop k)).map (tgX tg++ ·)) (hk:b.length≤k):tagsFrom b=tagsOk (tgX tg):=by
  rw[tagsL_nil (b:=b.drop k) (by rw[List.length_drop]; omega)]at hz
  unfold tagsFrom
  rw[hz,hv]
  simp
theorem tgs_nv {b:List Int} (h:isBytes b=false):tagsFrom b=false:=by unfold tagsFrom; rw[h]; rfl
theorem tgR_step {b:List Int} {ya qa:Nat} {yf qf:Bool} {tg:List TgE} {n:Int} {h:Hd} (hv:yf=false→isBytes b=true) (hy:yf=false→ya≤b.length∧tagsL b=(tagsL (b.drop ya)).map (tgX tg++ ·)) (hf:yf=false) (hl:ya<b.length) (hq:(qa,qf)=tagR b (ya,yf)) (hn:n=byV b (ya,yf)) (hx:h.xs=(tagV b (ya,yf)).2):
    (qf=false→(ya<qa∧qa≤b.length)∧tagsL b=(tagsL (b.drop qa)).map (tgX (tg++[(n,h)])++ ·))∧(qf=true→tagsFrom b=false):=by
  subst hf
  have hvb:=hv rfl
  obtain ⟨g1,g2⟩:=hy rfl
  have ea:(tagR b (ya,false)).1=qa:=by rw[← hq]
  have ef:(tagR b (ya,false)).2=qf:=by rw[← hq]
  refine⟨fun h0=>?_,fun h0=>?_⟩
  · obtain ⟨t1,t2,t3⟩:=tagR_yes hvb (ef.trans h0)
    rw[ea]at t1 t2 t3
    refine⟨⟨by omega,t2⟩,?_⟩
    rw[g2,t3,Option.map_map,tgX_push,hx,hn]
    congr 1
    funext l
    simp[tagV]
  · have t:=tagR_no hvb hl (ef.trans h0)
    unfold tagsFrom
    rw[g2,t]
    simp
theorem all_not_any {α:Type} {p:α→Bool} (l:List α):(!(l.any fun u=>!p u))=l.all p:=by
  induction l with
  | nil=>rfl
  | cons a l ih=>simp[ih]
theorem ofB_c {b:List Int} (h:isBytes b=true) (k:Nat):0≤ofB ((b.take (k+3)).drop (k+1))∧ofB ((b.take (k+3)).drop (k+1))≤65535:=by
  rw[List.drop_take,show k+3-(k+1)=2 by omega]
  exact ofB_2 h (k+1)
theorem ofB_tk {b:List Int} {s:Nat×Bool} (hv:s.2=false→isBytes b=true):0≤ofB (tkL b s 2)∧ofB (tkL b s 2)≤65535:=by
  by_cases h:s.2=false∧s.1+2≤b.length
  · rw[tkL_yes h.1 h.2]; exact ofB_2 (hv h.1) _
  · have:tkL b s 2=List.replicate 2 0:=by
      rcases Bool.eq_false_or_eq_true s.2 with h1 | h1
      · exact tkL_no (.inl h1)
      · exact tkL_no (.inr (by simp[h1]at h; omega))
    rw[this]; decide
theorem tgR_bd {b:List Int} {ya qa:Nat} {yf qf:Bool} {tg:List TgE} (hv:yf=false→isBytes b=true) (hy:yf=false→ya≤b.length∧tagsL b=(tagsL (b.drop ya)).map (tgX tg++ ·)) (hf:yf=false) (hl:ya<b.length) (hq:(qa,qf)=tagR b (ya,yf)):(qf=false→ya<qa∧qa≤b.length)∧(qf=true→tagsFrom b=false):=by
  have h:=tgR_step (h:=⟨none,0,(tagV b (ya,yf)).2⟩) hv hy hf hl hq rfl rfl
  exact⟨fun h0=>(h.1 h0).1,h.2⟩
section
variable {b:List Int} {s s1 s2 s3:Nat×Bool}
theorem tagR_eq (h1:s1=tkS b s 1) (h2:s2=tkS b s1 (Int.toNat 2)) (h3:s3=tkS b s2 (ofB (tkL b s1 (Int.toNat 2))).toNat):s3=tagR b s:=by
  have t2:Int.toNat 2=2:=rfl
  rw[t2]at h2 h3
  unfold tagR
  rw[h3,h2,h1]
theorem tagV_eq (h1:s1=tkS b s 1) (h2:s2=tkS b s1 (Int.toNat 2)):tkL b s2 (ofB (tkL b s1 (Int.toNat 2))).toNat=(tagV b s).2:=by
  have t2:Int.toNat 2=2:=rfl
  rw[t2]at h2 ⊢
  unfold tagV
  rw[h2,h1]
end
theorem head_c {b:List Int} (h:isBytes b=true):(0≤ofB ((b.take 16).drop 14)∧ofB ((b.take 16).drop 14)≤65535)∧(0≤ofB ((b.take 26).drop 24)∧ofB ((b.take 26).drop 24)≤65535)∧(0≤ofB ((b.take 28).drop 26)∧ofB ((b.take 28).drop 26)≤65535):=⟨ofB_c h 13,ofB_c h 23,ofB_c h 25⟩
theorem headS_eq (b:List Int):headS b=ofB ((b.take 16).drop 14):=by unfold headS; rw[List.drop_take]
theorem headF_no {b:List Int} (h:isBytes b=false∨b.length<28∨alikeB b headP=false∨ofB ((b.take 16).drop 14)<12∨(b.length:Int)-16<ofB ((b.take 16).drop 14)∨tagsFrom ((b.take (16+ofB ((b.take 16).drop 14)).toNat).drop 28)=false):headFrom b=(0,false):=by
  unfold headFrom
  rw[headS_eq]
  refine if_neg ?_
  rintro ⟨g1,g2,g3,g4,g5,g6⟩
  rcases h with h | h | h | h | h | h
  · rw[h]at g1; cases g1
  · omega
  · rw[h]at g3; cases g3
  · omega
  · omega
  · rw[h]at g6; cases g6
theorem headF_yes {b:List Int} (g1:isBytes b=true) (g2:28≤b.length) (g3:alikeB b headP=true) (g4:12≤ofB ((b.take 16).drop 14)) (g5:ofB ((b.take 16).drop 14)≤(b.length:Int)-16) (g6:tagsFrom ((b.take (16+ofB ((b.take 16).drop 14)).toNat).drop 28)=true):headFrom b=(16+ofB ((b.take 16).drop 14),true):=by
  unfold headFrom
  rw[headS_eq,if_pos ⟨g1,g2,g3,g4,g5,g6⟩]
section
variable {b c:List Int} {s1 s2 s3 s4 s5 s6 s7:Nat×Bool}
theorem hdI (h1:s1=exS b (0,!isBytes b) headP) (h2:s2=tkS b s1 (Int.toNat 2)) (h3:s3=tkS b s2 (ofB (tkL b s1 (Int.toNat 2))).toNat) (hc:c=tkL b s2 (ofB (tkL b s1 (Int.toNat 2))).toNat) (h4:s4=tkS c (0,!isBytes c) (Int.toNat 4)) (h5:s5=tkS c s4 (Int.toNat 4)) (h6:s6=tkS c s5 (Int.toNat 2)) (h7:s7=tkS c s6 (Int.toNat 2)):s3=hdR3 b∧c=hdB b∧s7=hdR4 (hdB b):=by
  have t2:Int.toNat 2=2:=rfl
  have t4:Int.toNat 4=4:=rfl
  rw[t2]at h2 h3 hc h6 h7
  rw[t4]at h4 h5
  have e3:s3=hdR3 b:=by unfold hdR3 hdR2 hdN hdR1; rw[h3,h2,h1]
  have ec:c=hdB b:=by unfold hdB hdR2 hdN hdR1; rw[hc,h2,h1]
  refine⟨e3,ec,?_⟩
  rw[← ec]
  unfold hdR4
  rw[h7,h6,h5,h4]
theorem hdI_n1 (h:s3=hdR3 b∧c=hdB b∧s7=hdR4 (hdB b)) (h':s3.2=true∨s7.2=true):headFrom b=(0,false):=by
  obtain ⟨rfl,rfl,rfl⟩:=h
  exact head_no1 h'
theorem hdI_n2 (h:s3=hdR3 b∧c=hdB b∧s7=hdR4 (hdB b)) (h1:s3.2=false) (h2:s7.2=false) (h3:tagsFrom (c.drop s7.1)=false):headFrom b=(0,false):=by
  obtain ⟨rfl,rfl,rfl⟩:=h
  exact head_no2 h1 h2 h3
theorem hdI_y (h:s3=hdR3 b∧c=hdB b∧s7=hdR4 (hdB b)) (h1:s3.2=false) (h2:s7.2=false) (h3:tagsFrom (c.drop s7.1)=true):headFrom b=((s3.1:Int),true):=by
  obtain ⟨rfl,rfl,rfl⟩:=h
  exact head_yes h1 h2 h3
end
def stateTs:List (List UInt8):=[[104,101,108,108,111],[108,111,103,105,110],[114,101,113,117,101,115,116],[111,112,101,110],[115,104,117,116]]
theorem stateTs_len:stateTs.length=5:=rfl
theorem stateTs_at {k:Int} (h0:0≤k) (h4:k≤4):stateTs.getD k.toNat []=stateT k:=by
  have h:k=0∨k=1∨k=2∨k=3∨k=4:=by omega
  rcases h with rfl | rfl | rfl | rfl | rfl <;> rfl
def sayLn (t:Tk) (s:List UInt8):Tk×List UInt8:=((sayL t s).1,(sayL t s).2++[10])
def lineXn (t:Tk) (l:List UInt8):Tk×List UInt8:=((lineX t l).1,(lineX t l).2++[10])
section
variable {sx:Int} {wt:List Int} {lg:List Lg} {to:List UInt8} {s:List UInt8} {b:List Int}
theorem sayX_n (h:(talkSay sx wt lg to b).2.2=false):sayX (sx,wt,lg,to) b=((sx,wt,lg,to),[110,111]):=by
  have h':(sayR (sx,wt,lg,to) b).2.2=false:=h
  unfold sayX
  rw[if_neg (by rw[h']; decide)]
theorem sayX_0 (h:(talkSay sx wt lg to b).2.2=true) (h0:(((talkSay sx wt lg to b).2.1.length:Nat):Int)=0):sayX (sx,wt,lg,to) b=((talkSay sx wt lg to b).1,stateT (talkSay sx wt lg to b).1.1):=by
  have h':(sayR (sx,wt,lg,to) b).2.2=true:=h
  have e:sayR (sx,wt,lg,to) b=talkSay sx wt lg to b:=rfl
  unfold sayX sayV
  rw[if_pos h',e,if_pos (by omega)]
theorem sayX_1 (h:(talkSay sx wt lg to b).2.2=true) (h0: ¬ (((talkSay sx wt lg to b).2.1.length:Nat):Int)=0):sayX (sx,wt,lg,to) b=((talkSay sx wt lg to b).1,stateT (talkSay sx wt lg to b).1.1++[32]++hexText (talkSay sx wt lg to b).2.1):=by
  have h':(sayR (sx,wt,lg,to) b).2.2=true:=h
  have e:sayR (sx,wt,lg,to) b=talkSay sx wt lg to b:=rfl
  unfold sayX sayV
  rw[if_pos h',e,if_neg (by omega)]
theorem sayLn_h (h:(hexFrom s).2=false):sayLn (sx,wt,lg,to) s=((sx,wt,lg,to),[110,111,10]):=by
  unfold sayLn sayL
  rw[if_neg (by rw[h]; decide)]
  rfl
theorem sayLn_n (hh:(hexFrom s).2=true) (h:(talkSay sx wt lg to (hexFrom s).1).2.2=false):sayLn (sx,wt,lg,to) s=((sx,wt,lg,to),[110,111,10]):=by
  unfold sayLn sayL
  rw[if_pos hh,sayX_n h]
  rfl
theorem sayLn_0 (hh:(hexFrom s).2=true) (h:(talkSay sx wt lg to (hexFrom s).1).2.2=true) (h0:(((talkSay sx wt lg to (hexFrom s).1).2.1.length:Nat):Int)=0):sayLn (sx,wt,lg,to) s=((talkSay sx wt lg to (hexFrom s).1).1,stateT (talkSay sx wt lg to (hexFrom s).1).1.1++[10]):=by
  unfold sayLn sayL
  rw[if_pos hh,sayX_0 h h0]
theorem sayLn_1 (hh:(hexFrom s).2=true) (h:(talkSay sx wt lg to (hexFrom s).1).2.2=true) (h0: ¬ (((talkSay sx wt lg to (hexFrom s).1).2.1.length:Nat):Int)=0):sayLn (sx,wt,lg,to) s=((talkSay sx wt lg to (hexFrom s).1).1,stateT (talkSay sx wt lg to (hexFrom s).1).1.1++[32]++hexText (talkSay sx wt lg to (hexFrom s).1).2.1++[10]):=by
  unfold sayLn sayL
  rw[if_pos hh,sayX_1 h h0]
end
section
variable {t:Tk} {l:List UInt8}
theorem line_n (h:(((splitB 32 l).length:Nat):Int)≠2):lineX t l=(t,[119,104,97,116]):=by unfold lineX; rw[if_neg (by omega)]
theorem line_v (h: ¬ (((splitB 32 l).length:Nat):Int)≠2):lineX t l=lineV t ((splitB 32 l).getD 0 []) ((splitB 32 l).getD 1 []):=by unfold lineX; rw[if_pos (by omega)]
variable {a s:List UInt8}
theorem lv_o (h:a=[111,108,100]):lineV t a s=(t,askX true s):=if_pos h
theorem lv_r (h:a=[114,101,113,117,101,115,116]):lineV t a s=(t,askX false s):=by subst h; rfl
theorem lv_l (h:a=[108,111,103,105,110]):lineV t a s=(t,loginX s):=by subst h; rfl
theorem lv_s (h:a=[115,110,105,102,102]):lineV t a s=(t,sniffW s):=by subst h; rfl
theorem lv_y (h:a=[115,97,121]):lineV t a s=sayL t s:=by subst h; rfl
theorem lv_w (h1: ¬ a=[111,108,100]) (h2: ¬ a=[114,101,113,117,101,115,116]) (h3: ¬ a=[108,111,103,105,110]) (h4: ¬ a=[115,110,105,102,102]) (h5: ¬ a=[115,97,121]):lineV t a s=(t,[119,104,97,116]):=by
  unfold lineV
  rw[if_neg h1,if_neg h2,if_neg h3,if_neg h4,if_neg h5]
theorem ln_n (h:(((splitB 32 l).length:Nat):Int)≠2):lineXn t l=(t,[119,104,97,116,10]):=by unfold lineXn; rw[line_n h]; rfl
theorem ln_o (h: ¬ (((splitB 32 l).length:Nat):Int)≠2) (h2:(splitB 32 l).getD 0 []=[111,108,100]):lineXn t l=(t,hexOrT (oldP 1 (addrFrom ((splitB 32 l).getD 1 [])).1.1 (addrFrom ((splitB 32 l).getD 1 [])).1.2.1 (addrFrom ((splitB 32 l).getD 1 [])).1.2.2.1 (addrFrom ((splitB 32 l).getD 1 [])).1.2.2.2 []).1 (oldP 1 (addrFrom ((splitB 32 l).getD 1 [])).1.1 (addrFrom ((splitB 32 l).getD 1 [])).1.2.1 (addrFrom ((splitB 32 l).getD 1 [])).1.2.2.1 (addrFrom ((splitB 32 l).getD 1 [])).1.2.2.2 []).2++[10]):=by
  unfold lineXn; rw[line_v h,lv_o h2,ask_o]
theorem ln_r (h: ¬ (((splitB 32 l).length:Nat):Int)≠2) (h2:(splitB 32 l).getD 0 []=[114,101,113,117,101,115,116]):lineXn t l=(t,hexOrT (reqP 1 (addrFrom ((splitB 32 l).getD 1 [])).1.1 (addrFrom ((splitB 32 l).getD 1 [])).1.2.1 (addrFrom ((splitB 32 l).getD 1 [])).1.2.2.1 (addrFrom ((splitB 32 l).getD 1 [])).1.2.2.2).1 (reqP 1 (addrFrom ((splitB 32 l).getD 1 [])).1.1 (addrFrom ((splitB 32 l).getD 1 [])).1.2.1 (addrFrom ((splitB 32 l).getD 1 [])).1.2.2.1 (addrFrom ((splitB 32 l).getD 1 [])).1.2.2.2).2++[10]):=by
  unfold lineXn; rw[line_v h,lv_r h2,ask_r]
theorem ln_l (h: ¬ (((splitB 32 l).length:Nat):Int)≠2) (h2:(splitB 32 l).getD 0 []=[108,111,103,105,110]):lineXn t l=(t,hexOrT (loginP (loginT ((splitB 32 l).getD 1 [])).1 (loginT ((splitB 32 l).getD 1 [])).2).1 (loginP (loginT ((splitB 32 l).getD 1 [])).1 (loginT ((splitB 32 l).getD 1 [])).2).2++[10]):=by
  unfold lineXn; rw[line_v h,lv_l h2,login_q]
theorem ln_s (h: ¬ (((splitB 32 l).length:Nat):Int)≠2) (h2:(splitB 32 l).getD 0 []=[115,110,105,102,102]):lineXn t l=(t,sniffS ((splitB 32 l).getD 1 [])):=by
  unfold lineXn; rw[line_v h,lv_s h2,sniffS_w]
theorem ln_y (h: ¬ (((splitB 32 l).length:Nat):Int)≠2) (h2:(splitB 32 l).getD 0 []=[115,97,121]):lineXn t l=sayLn t ((splitB 32 l).getD 1 []):=by
  unfold lineXn; rw[line_v h,lv_y h2]; rfl
theorem ln_w (h: ¬ (((splitB 32 l).length:Nat):Int)≠2) (h1: ¬ (splitB 32 l).getD 0 []=[111,108,100]) (h2: ¬ (splitB 32 l).getD 0 []=[114,101,113,117,101,115,116]) (h3: ¬ (splitB 32 l).getD 0 []=[108,111,103,105,110]) (h4: ¬ (splitB 32 l).getD 0 []=[115,110,105,102,102]) (h5: ¬ (splitB 32 l).getD 0 []=[115,97,121]):lineXn t l=(t,[119,104,97,116,10]):=by
  unfold lineXn; rw[line_v h,lv_w h1 h2 h3 h4 h5]; rfl
theorem ln_f (l:List UInt8):(∀ k,((splitB 32 l).getD k []).length≤l.length)∧(addrFrom ((splitB 32 l).getD 1 [])).1.2.2.1.length≤64∧(loginT ((splitB 32 l).getD 1 [])).1.length≤l.length∧(loginT ((splitB 32 l).getD 1 [])).2.length≤l.length:=by
  refine⟨splitB_getD 32 l,addrFrom_nm _,?_,?_⟩
  · unfold loginT; split
    · exact Nat.le_trans (splitB_getD 47 _ 0) (splitB_getD 32 l 1)
    · simp
  · unfold loginT; split
    · exact Nat.le_trans (splitB_getD 47 _ 1) (splitB_getD 32 l 1)
    · simp
end
theorem talkNew_0:talkNew [2,0] [([97,110,110],[97,98,99])]=(tk0,true):=by unfold talkNew; rw[if_pos (by decide)]; rfl
theorem fit_R {lg:List Lg} (h: ∀ u∈lg,u.1.length≤3∧u.2.length≤3): ∀ u∈lg,u.1.length≤9223372036854775807∧u.2.length≤9223372036854775807:=fun u hu=>⟨Nat.le_trans (h u hu).1 (by decide),Nat.le_trans (h u hu).2 (by decide)⟩
section
variable {t:Tk} {l:List UInt8}
theorem li_o (h: ¬ (((splitB 32 l).length:Nat):Int)≠2) (h2:(splitB 32 l).getD 0 []=[111,108,100]∨(splitB 32 l).getD 0 []=[114,101,113,117,101,115,116]):lineX t l=(t,askX (decide ((splitB 32 l).getD 0 []=[111,108,100])) ((splitB 32 l).getD 1 [])):=by
  rw[line_v h]
  rcases h2 with h2 | h2
  · rw[lv_o h2,decide_eq_true h2]
  · rw[lv_r h2,decide_eq_false (by rw[h2]; decide)]
theorem li_l (h: ¬ (((splitB 32 l).length:Nat):Int)≠2) (h2:(splitB 32 l).getD 0 []=[108,111,103,105,110]):lineX t l=(t,loginX ((splitB 32 l).getD 1 [])):=by
  rw[line_v h,lv_l h2]
theorem li_h (h: ¬ (((splitB 32 l).length:Nat):Int)≠2) (h2:(splitB 32 l).getD 0 []=[115,110,105,102,102]∨(splitB 32 l).getD 0 []=[115,97,121]) (h3:(hexFrom ((splitB 32 l).getD 1 [])).2=false):lineX t l=(t,[110,111]):=by
  rw[line_v h]
  rcases h2 with h2 | h2
  · rw[lv_s h2]; unfold sniffW; rw[if_neg (by rw[h3]; decide)]
  · rw[lv_y h2]; unfold sayL; rw[if_neg (by rw[h3]; decide)]
theorem li_s (h: ¬ (((splitB 32 l).length:Nat):Int)≠2) (h2:(splitB 32 l).getD 0 []=[115,110,105,102,102]) (h3:(hexFrom ((splitB 32 l).getD 1 [])).2=true):lineX t l=(t,sniffT (hexFrom ((splitB 32 l).getD 1 [])).1):=by
  rw[line_v h,lv_s h2]; unfold sniffW; rw[if_pos h3]
theorem li_y (h: ¬ (((splitB 32 l).length:Nat):Int)≠2) (h2:(splitB 32 l).getD 0 []=[115,97,121]) (h3:(hexFrom ((splitB 32 l).getD 1 [])).2=true):lineX t l=sayX t (hexFrom ((splitB 32 l).getD 1 [])).1:=by
  rw[line_v h,lv_y h2]; unfold sayL; rw[if_pos h3]
theorem li_w (h: ¬ (((splitB 32 l).length:Nat):Int)≠2) (h1: ¬ (splitB 32 l).getD 0 []=[111,108,100]) (h2: ¬ (splitB 32 l).getD 0 []=[114,101,113,117,101,115,116]) (h3: ¬ (splitB 32 l).getD 0 []=[108,111,103,105,110]) (h4: ¬ (splitB 32 l).getD 0 []=[115,110,105,102,102]) (h5: ¬ (splitB 32 l).getD 0 []=[115,97,121]):lineX t l=(t,[119,104,97,116]):=by
  rw[line_v h,lv_w h1 h2 h3 h4 h5]
end
def cutS (s t:List UInt8):List UInt8:=if sufP s t then s.take (s.length-t.length) else s
def scR (s rest:List UInt8) (t:Tk) (o:List UInt8):Prop:=(∃ pre,s=pre++rest∧scS pre=(t,o,[]))∨(rest=[]∧ ∃ ln,scS s=(t,o,ln))
section
variable {s ln rest o:List UInt8} {t:Tk}
theorem scR_0:scR s s tk0 []:=.inl ⟨[],rfl,rfl⟩
theorem scR_fit (h:scR s rest t o):tkFit t∧o.length≤261*s.length:=by
  rcases h with ⟨pre,rfl,h⟩ | ⟨_,x,h⟩
  · have:=scS_fit (s:=pre)
    rw[h]at this
    refine⟨this.1,Nat.le_trans this.2 ?_⟩
    rw[List.length_append]; omega
  · have:=scS_fit (s:=s)
    rw[h]at this
    exact this
theorem lineOf_suf (hl:LineOf ln rest) (hs:sufP ln [10]):ln=cutS ln [10]++[10]∧ ∀ c∈cutS ln [10],c≠10:=by
  rcases hl with ⟨a,rfl,ha⟩ | ⟨h1,h2,_⟩
  · have e:cutS (a++[10]) [10]=a:=by
      unfold cutS; rw[if_pos hs]; simp
    rw[e]; exact⟨rfl,ha⟩
  · exfalso
    obtain ⟨h3,h4⟩:=hs
    have hm:(10:UInt8)∈ln.drop (ln.length-[(10:UInt8)].length):=by rw[h4]; simp
    exact h2 10 (List.mem_of_mem_drop hm) rfl
theorem lineOf_no (hl:LineOf ln rest) (hs: ¬ sufP ln [10]):(∀ c∈ln,c≠10)∧rest=[]:=by
  rcases hl with ⟨a,rfl,ha⟩ | ⟨_,h2,h3⟩
  · exact absurd ⟨by simp,by simp⟩ hs
  · exact⟨h2,h3⟩
theorem lineOf_ne (hl:LineOf ln rest):ln≠[]:=by
  rcases hl with ⟨a,rfl,_⟩ | ⟨h1,_,_⟩
  · simp
  · exact h1
theorem scR_yes (h:scR s (ln++rest) t o) (hl:LineOf ln rest) (hs:sufP ln [10]):scR s rest (lineX t (cutS ln [10])).1 (o++((lineX t (cutS ln [10])).2++[10])):=by
  obtain ⟨e,ha⟩:=lineOf_suf hl hs
  rcases h with ⟨pre,rfl,h⟩ | ⟨h,_⟩
  · refine .inl ⟨pre++ln,by simp,?_⟩
    have e2:ln.foldl stepX (t,o,[])=(cutS ln [10]++[10]).foldl stepX (t,o,[]):=congrArg (fun z=>z.foldl stepX (t,o,[])) e
    rw[scS_app,h,e2,List.foldl_append,stepX_run _ _ ha]
    simp[stepX]
  · exact absurd (List.append_eq_nil_iff.1 h).1 (lineOf_ne hl)
theorem scR_no (h:scR s (ln++rest) t o) (hl:LineOf ln rest) (hs: ¬ sufP ln [10]):scR s rest t o:=by
  obtain ⟨ha,rfl⟩:=lineOf_no hl hs
  rcases h with ⟨pre,rfl,h⟩ | ⟨h,_⟩
  · refine .inr ⟨rfl,ln,?_⟩
    rw[List.append_nil,scS_app,h,stepX_run _ _ ha]
    simp
  · exact absurd (List.append_eq_nil_iff.1 h).1 (lineOf_ne hl)
theorem scR_end (h:scR s [] t o) (hl:s.length≤400):execT s=o++(stateT t.1++[10]):=by
  have: ∃ ln,scS s=(t,o,ln):=by
    rcases h with ⟨pre,rfl,h⟩ | ⟨_,h⟩
    · exact⟨[],by rw[List.append_nil]; exact h⟩
    · exact h
  obtain ⟨x,h⟩:=this
  unfold execT
  rw[if_neg (by omega),h,List.append_assoc]
end
theorem idxB_spec {s:List UInt8} {c:UInt8} (h:0≤idxB s c):(idxB s c).toNat<s.length∧s.getD (idxB s c).toNat 0=c∧ ∀ j,j<(idxB s c).toNat→s.getD j 0≠c:=by
  unfold idxB at h ⊢
  split at h
  · rename_i i hi
    have h0:=hi
    rw[List.find?_range_eq_some]at h0
    have h1:=h0.2.1
    rw[List.mem_range]at h1
    exact⟨by simpa using h1,by simpa using h0.1,fun j hj=>by simpa using h0.2.2 j (by simpa using hj)⟩
  · omega
theorem line_cut {s:List UInt8} (h:idxB s 10≥0):LineOf (s.take (idxB s 10+1).toNat) (s.drop (idxB s 10+1).toNat):=by
  obtain ⟨h1,h2,h3⟩:=idxB_spec (s:=s) (c:=10) h
  have e:(idxB s 10+1).toNat=(idxB s 10).toNat+1:=by omega
  refine .inl ⟨s.take (idxB s 10).toNat,?_,?_⟩
  · rw[e,take_snoc (d:=0) h1,h2]
  · intro c hc
    obtain ⟨j,hj,rfl⟩:=List.mem_iff_getElem.1 hc
    rw[List.length_take]at hj
    have:=h3 j (by omega)
    rw[gQ,gE (by omega)]at this
    simpa using this
theorem line_all {s:List UInt8} (h: ¬ idxB s 10≥0) (hl:0<s.length):LineOf s []:=by
  refine .inr ⟨List.ne_nil_of_length_pos hl,?_,rfl⟩
  intro c hc e
  subst e
  obtain ⟨j,hj,hje⟩:=List.mem_iff_getElem.1 hc
  have hb:=idxB_bd s 10
  have hn:idxB s 10= -1:=by omega
  have h0:idxB s 10≠ -1:=by
    unfold idxB
    split
    · omega
    · rename_i h
      rw[List.find?_eq_none]at h
      have:=h j (List.mem_range.2 hj)
      rw[gQ,gE hj,hje]at this
      simp at this
  exact h0 hn
theorem scR_len {s ln rest o:List UInt8} {t:Tk} (h:scR s (ln++rest) t o):ln.length≤s.length:=by
  rcases h with ⟨pre,rfl,_⟩ | ⟨h,_⟩
  · rw[List.length_append,List.length_append]; omega
  · rw[(List.append_eq_nil_iff.1 h).1]; simp
theorem cutS_len (s t:List UInt8):(cutS s t).length≤s.length:=by
  unfold cutS
  split
  · rw[List.length_take]; omega
  · exact Nat.le_refl _
abbrev Z0:It:=.own none (([]:List Int).length) 0 3 1 (([]:List Int).map I)
abbrev Z1 (a0:List UInt8)(a1:Option Addr)(a2:Nat)(a3:Option Addr)(a4:Nat):List Value:=[I ((addrOf ((splitB (32:UInt8) (a0.take (((endL a0)-2).toNat))).getD 2 []) (numD ((splitB (32:UInt8) (a0.take (((endL a0)-2).toNat))).getD 4 []))).1),.slice a1 (((addrOf ((splitB (32:UInt8) (a0.take (((endL a0)-2).toNat))).getD 2 []) (numD ((splitB (32:UInt8) (a0.take (((endL a0)-2).toNat))).getD 4 []))).2.1).length) a2,Str ((addrOf ((splitB (32:UInt8) (a0.take (((endL a0)-2).toNat))).getD 2 []) (numD ((splitB (32:UInt8) (a0.take (((endL a0)-2).toNat))).getD 4 []))).2.2.1),I ((addrOf ((splitB (32:UInt8) (a0.take (((endL a0)-2).toNat))).getD 2 []) (numD ((splitB (32:UInt8) (a0.take (((endL a0)-2).toNat))).getD 4 []))).2.2.2),I ((addrOf ((splitB (32:UInt8) (a0.take (((endL a0)-2).toNat))).getD 3 []) (numD ((splitB (32:UInt8) (a0.take (((endL a0)-2).toNat))).getD 5 []))).1),.slice a3 (((addrOf ((splitB (32:UInt8) (a0.take (((endL a0)-2).toNat))).getD 3 []) (numD ((splitB (32:UInt8) (a0.take (((endL a0)-2).toNat))).getD 5 []))).2.1).length) a4,Str ((addrOf ((splitB (32:UInt8) (a0.take (((endL a0)-2).toNat))).getD 3 []) (numD ((splitB (32:UInt8) (a0.take (((endL a0)-2).toNat))).getD 5 []))).2.2.1),I ((addrOf ((splitB (32:UInt8) (a0.take (((endL a0)-2).toNat))).getD 3 []) (numD ((splitB (32:UInt8) (a0.take (((endL a0)-2).toNat))).getD 5 []))).2.2.2)]
abbrev Z2 (a0:List UInt8):=(oldP 1 ((addrFrom ((splitB (32:UInt8) a0).getD 1 [])).1.1) ((addrFrom ((splitB (32:UInt8) a0).getD 1 [])).1.2.1) ((addrFrom ((splitB (32:UInt8) a0).getD 1 [])).1.2.2.1) ((addrFrom ((splitB (32:UInt8) a0).getD 1 [])).1.2.2.2) [])
abbrev Z3 (a0:List UInt8):=(reqP 1 ((addrFrom ((splitB (32:UInt8) a0).getD 1 [])).1.1) ((addrFrom ((splitB (32:UInt8) a0).getD 1 [])).1.2.1) ((addrFrom ((splitB (32:UInt8) a0).getD 1 [])).1.2.2.1) ((addrFrom ((splitB (32:UInt8) a0).getD 1 [])).1.2.2.2))
abbrev Z4 (a0:Option Addr)(a1:List Int)(a2:Nat):Value:=.slice a0 a1.length a2
abbrev Z5:List Value:=[I 0,ns,Str [],I 0,I 0,ns,Str [],I 0]
abbrev Z6:Value:=(.bool false)
abbrev Z7 (a0:Int)(a1:List Int)(a2:List (List UInt8×List UInt8))(a3:List UInt8)(a4:List UInt8)(a5:Option Addr)(a6:Nat)(a7:Option Addr)(a8:Nat):List Value:=[I ((talkSay a0 a1 a2 a3 ((hexFrom a4).1)).1.1),.slice a5 (((talkSay a0 a1 a2 a3 ((hexFrom a4).1)).1.2.1).length) a6,.slice a7 (((talkSay a0 a1 a2 a3 ((hexFrom a4).1)).1.2.2.1).length) a8,Str ((talkSay a0 a1 a2 a3 ((hexFrom a4).1)).1.2.2.2)]
abbrev Z8 (a0:Nat):Option Addr:=(some ⟨a0,0,none⟩)
abbrev Z9:=([textI [67,79,78,78,69,67,84,32],textI [80,82,79,88,89,32],headP]:List (List Int))
abbrev Z10 (a0:List UInt8):=(loginP ((loginT ((splitB (32:UInt8) a0).getD 1 [])).1) ((loginT ((splitB (32:UInt8) a0).getD 1 [])).2))
abbrev Z11 (a0:Option Addr)(a1:List UInt8)(a2:Nat):It:=.own a0 (((addrOf ((splitB (32:UInt8) (a1.take (((endL a1)-2).toNat))).getD 2 []) (numD ((splitB (32:UInt8) (a1.take (((endL a1)-2).toNat))).getD 4 []))).2.1).length) a2 3 1 (((addrOf ((splitB (32:UInt8) (a1.take (((endL a1)-2).toNat))).getD 2 []) (numD ((splitB (32:UInt8) (a1.take (((endL a1)-2).toNat))).getD 4 []))).2.1).map I)
abbrev Z12 (a0:List Int)(a1:Option Addr)(a2:Nat):List Value:=[I (a0.getD 1 0),I 1,.slice a1 (((a0.take 8).drop 4).length) a2,Str [],I (ofB ((a0.take 4).drop 2)),Str (bT ((a0.take ((zE a0 (Int.toNat 8)).toNat)).drop 8))]
abbrev Z13 (a0:List UInt8)(a1:Option Addr)(a2:Nat):List Value:=[I ((addrOf ((splitB (58:UInt8) a0).getD 0 []) (numD ((splitB (58:UInt8) a0).getD 1 []))).1),.slice a1 (((addrOf ((splitB (58:UInt8) a0).getD 0 []) (numD ((splitB (58:UInt8) a0).getD 1 []))).2.1).length) a2,Str ((addrOf ((splitB (58:UInt8) a0).getD 0 []) (numD ((splitB (58:UInt8) a0).getD 1 []))).2.2.1),I ((addrOf ((splitB (58:UInt8) a0).getD 0 []) (numD ((splitB (58:UInt8) a0).getD 1 []))).2.2.2)]
abbrev Z14 (a0:Option Addr)(a1:List Int)(a2:Nat):Value:=(.slice a0 a1.length a2)
abbrev Z15 (a0:List Int):=(replyP 0 ((reqFrom a0).1.2.1) ((reqFrom a0).1.2.2.1) ((reqFrom a0).1.2.2.2.1) ((reqFrom a0).1.2.2.2.2))
abbrev Z16 (a0:List UInt8)(a1:Option Addr)(a2:Nat):List Value:=[I ((addrFrom (wordN a0 (Int.toNat 8))).1.1),.slice a1 (((addrFrom (wordN a0 (Int.toNat 8))).1.2.1).length) a2,Str ((addrFrom (wordN a0 (Int.toNat 8))).1.2.2.1),I ((addrFrom (wordN a0 (Int.toNat 8))).1.2.2.2)]
abbrev Z17:List Value:=[I 0,ns,Str [],I 0]
abbrev Z18 (a0:List Int):=(replyP 7 ((reqFrom a0).1.2.1) ((reqFrom a0).1.2.2.1) ((reqFrom a0).1.2.2.2.1) ((reqFrom a0).1.2.2.2.2))
abbrev Z19 (a0:Option Addr)(a1:List (List UInt8×List UInt8))(a2:Nat):Value:=.slice a0 a1.length a2
abbrev Z20 (a0:List Int):=((a0.take ((szA a0).toNat)).drop (((szA a0)-2).toNat))
abbrev Z21 (a0:Option Addr)(a1:List UInt8)(a2:Nat):Value:=.slice a0 (((addrOf ((splitB (32:UInt8) (a1.take (((endL a1)-2).toNat))).getD 2 []) (numD ((splitB (32:UInt8) (a1.take (((endL a1)-2).toNat))).getD 4 []))).2.1).length) a2
abbrev Z22 (a0:List UInt8):Value:=Str ((addrOf ((splitB (32:UInt8) (a0.take (((endL a0)-2).toNat))).getD 2 []) (numD ((splitB (32:UInt8) (a0.take (((endL a0)-2).toNat))).getD 4 []))).2.2.1)
abbrev Z23:List Value:=[I 0,I 0,ns,Str [],I 0,Str []]
abbrev Z24 (a0:List UInt8):=([(a0.length:Int)]:List Int)
abbrev Z25 (a0:List UInt8):Value:=I ((addrOf ((splitB (32:UInt8) (a0.take (((endL a0)-2).toNat))).getD 2 []) (numD ((splitB (32:UInt8) (a0.take (((endL a0)-2).toNat))).getD 4 []))).2.2.2)
abbrev Z26 (a0:Option Addr)(a1:List (List UInt8×List UInt8))(a2:Nat):It:=.own a0 a1.length a2 31 2 (a1.flatMap gLogin)
abbrev Z27 (a0:List UInt8):Value:=I ((addrOf ((splitB (32:UInt8) (a0.take (((endL a0)-2).toNat))).getD 2 []) (numD ((splitB (32:UInt8) (a0.take (((endL a0)-2).toNat))).getD 4 []))).1)
abbrev Z28 (a0:List Int):=(bT ((a0.take ((zE a0 (Int.toNat ((zE a0 (Int.toNat 8))+1))).toNat)).drop (((zE a0 (Int.toNat 8))+1).toNat)))
abbrev Z29 (a0:Option Addr)(a1:List UInt8)(a2:Nat):It:=.own a0 ((textI a1).length) a2 3 1 ((textI a1).map I)
abbrev Z30 (a0:List Int):=(bT ((a0.take (2+(a0.getD 1 0).toNat+1+(a0.getD (2+(a0.getD 1 0).toNat) 0).toNat)).drop ((2+(a0.getD 1 0).toNat)+1)))
abbrev Z31:List Value:=[I 0,ns,ns,Str []]
abbrev Z32 (a0:Option Addr)(a1:List Int)(a2:Nat):It:=.own a0 a1.length a2 3 1 (a1.map I)
abbrev Z33 (a0:Int)(a1:List Int)(a2:List (List UInt8×List UInt8))(a3:List UInt8)(a4:List UInt8):=(sayLn (a0,a1,a2,a3) ((splitB (32:UInt8) a4).getD 1 []))
abbrev Z34 (a0:List UInt8):=([1,(a0.length:Int)]:List Int)
abbrev Z35:Value:=(.bool true)
abbrev Z36 (a0:Option Addr)(a1:List UInt8)(a2:Nat):It:=.own a0 (((addrOf ((splitB (32:UInt8) (a1.take (((endL a1)-2).toNat))).getD 3 []) (numD ((splitB (32:UInt8) (a1.take (((endL a1)-2).toNat))).getD 5 []))).2.1).length) a2 3 1 (((addrOf ((splitB (32:UInt8) (a1.take (((endL a1)-2).toNat))).getD 3 []) (numD ((splitB (32:UInt8) (a1.take (((endL a1)-2).toNat))).getD 5 []))).2.1).map I)
abbrev Z37 (a0:Option Addr)(a1:Int)(a2:Nat):It:=.own a0 ((numB a1).length) a2 3 1 ((numB a1).map I)
abbrev Z38 (a0:List Int)(a1:List Int):=(helloPick a0 ((helloFrom a1).1))
abbrev Z39 (a0:List UInt8)(a1:Option Addr)(a2:Nat):List Value:=[I ((addrFrom (cutA (trimP a0 [67,79,78,78,69,67,84,32]) 32)).1.1),.slice a1 (((addrFrom (cutA (trimP a0 [67,79,78,78,69,67,84,32]) 32)).1.2.1).length) a2,Str ((addrFrom (cutA (trimP a0 [67,79,78,78,69,67,84,32]) 32)).1.2.2.1),I ((addrFrom (cutA (trimP a0 [67,79,78,78,69,67,84,32]) 32)).1.2.2.2)]
abbrev Z40 (a0:List Int)(a1:Option Addr)(a2:Nat):List Value:=[I ((addrD (a0.drop 3)).1.1),.slice a1 (((addrD (a0.drop 3)).1.2.1).length) a2,Str ((addrD (a0.drop 3)).1.2.2.1),I ((addrD (a0.drop 3)).1.2.2.2)]
abbrev Z41 (a0:Option Addr)(a1:List UInt8)(a2:Nat):Value:=.slice a0 (((addrOf ((splitB (32:UInt8) (a1.take (((endL a1)-2).toNat))).getD 3 []) (numD ((splitB (32:UInt8) (a1.take (((endL a1)-2).toNat))).getD 5 []))).2.1).length) a2
abbrev Z42 (a0:List UInt8):Value:=Str ((addrOf ((splitB (32:UInt8) (a0.take (((endL a0)-2).toNat))).getD 3 []) (numD ((splitB (32:UInt8) (a0.take (((endL a0)-2).toNat))).getD 5 []))).2.2.1)
abbrev Z43 (a0:List UInt8):Value:=I ((addrOf ((splitB (32:UInt8) (a0.take (((endL a0)-2).toNat))).getD 3 []) (numD ((splitB (32:UInt8) (a0.take (((endL a0)-2).toNat))).getD 5 []))).2.2.2)
abbrev Z44 (a0:Int):=([(UInt8.ofNat (48+(a0 % 10)).toNat)]:List UInt8)
abbrev Z45 (a0:List UInt8):=(connT ((addrFrom (wordN a0 (Int.toNat 8))).1.1) ((addrFrom (wordN a0 (Int.toNat 8))).1.2.1) ((addrFrom (wordN a0 (Int.toNat 8))).1.2.2.1) ((addrFrom (wordN a0 (Int.toNat 8))).1.2.2.2))
abbrev Z46 (a0:List UInt8):Value:=I ((addrOf ((splitB (32:UInt8) (a0.take (((endL a0)-2).toNat))).getD 3 []) (numD ((splitB (32:UInt8) (a0.take (((endL a0)-2).toNat))).getD 5 []))).1)
abbrev Z47 (a0:List UInt8):=(loginP ((splitB 47 a0).getD 0 []) ((splitB 47 a0).getD 1 []))
abbrev Z48 (a0:List Int):=(bT ((a0.take ((zE a0 (Int.toNat 8)).toNat)).drop 8))
abbrev Z49 (a0:List UInt8):=((splitB 32 a0).getD 1 [])
abbrev Z50 (a0:Option Addr)(a1:Int)(a2:List Int)(a3:List (List UInt8×List UInt8))(a4:List UInt8)(a5:List UInt8)(a6:Nat):It:=.own a0 (((talkSay a1 a2 a3 a4 ((hexFrom a5).1)).1.2.2.1).length) a6 31 2 (((talkSay a1 a2 a3 a4 ((hexFrom a5).1)).1.2.2.1).flatMap gLogin)
abbrev Z51 (a0:Option Addr)(a1:List Int)(a2:Nat):It:=.own a0 (((a1.take 20).drop 16).length) a2 3 1 (((a1.take 20).drop 16).map I)
abbrev Z52 (a0:List Int)(a1:Option Addr)(a2:Nat):List Value:=[I ((reqFrom a0).1.2.1),.slice a1 (((reqFrom a0).1.2.2.1).length) a2,Str ((reqFrom a0).1.2.2.2.1),I ((reqFrom a0).1.2.2.2.2)]
abbrev Z53 (a0:Option Addr)(a1:Int)(a2:List Int)(a3:List (List UInt8×List UInt8))(a4:List UInt8)(a5:List UInt8)(a6:Nat):It:=.own a0 (((talkSay a1 a2 a3 a4 ((hexFrom a5).1)).1.2.1).length) a6 3 1 (((talkSay a1 a2 a3 a4 ((hexFrom a5).1)).1.2.1).map I)
abbrev Z54 (a0:List UInt8)(a1:Option Addr)(a2:Nat):List Value:=[I ((addrFrom a0).1.1),.slice a1 (((addrFrom a0).1.2.1).length) a2,Str ((addrFrom a0).1.2.2.1),I ((addrFrom a0).1.2.2.2)]
abbrev Z55 (a0:Option Addr)(a1:List Int)(a2:Nat):It:=.own a0 (((a1.take 8).drop 4).length) a2 3 1 (((a1.take 8).drop 4).map I)
abbrev Z56 (a0:Nat):Value:=sb a0 (([]:List Int).length) 0
abbrev Z57 (a0:List Int):=(bT ((a0.take (2+(a0.getD 1 0).toNat)).drop 2))
abbrev Z58 (a0:Option Addr)(a1:List Int)(a2:Nat):Value:=.slice a0 (((a1.take 20).drop 16).length) a2
abbrev Z59 (a0:Int):=((List.replicate ((a0-((0:Int)-0)).toNat) (0:Int)).take 0)
abbrev Z60 (a0:List UInt8)(a1:Option Addr)(a2:Nat):List Value:=[I ((addrFrom ((splitB (32:UInt8) a0).getD 1 [])).1.1),.slice a1 (((addrFrom ((splitB (32:UInt8) a0).getD 1 [])).1.2.1).length) a2,Str ((addrFrom ((splitB (32:UInt8) a0).getD 1 [])).1.2.2.1),I ((addrFrom ((splitB (32:UInt8) a0).getD 1 [])).1.2.2.2)]
abbrev Z61 (a0:List UInt8):=(reqP 1 ((addrFrom a0).1.1) ((addrFrom a0).1.2.1) ((addrFrom a0).1.2.2.1) ((addrFrom a0).1.2.2.2))
abbrev Z62 (a0:List UInt8):=(((splitB 46 a0).getD (((splitB 46 a0).length)-1) []).getD 0 0)
abbrev Z63 (a0:Option Addr)(a1:Int)(a2:Int)(a3:Nat):It:=.own a0 ((([4,a1]:List Int)++(numB a2)).length) a3 3 1 ((([4,a1]:List Int)++(numB a2)).map I)
abbrev Z64 (a0:List (List UInt8×List UInt8))(a1:List Int):=(fitsL a0 ((loginFrom a1).1.1) ((loginFrom a1).1.2))
abbrev Z65:List Value:=[Str [],Str []]
abbrev Z66 (a0:List Int)(a1:Option Addr)(a2:Nat):List Value:=[I ((reqFrom a0).1.1),I ((reqFrom a0).1.2.1),.slice a1 (((reqFrom a0).1.2.2.1).length) a2,Str ((reqFrom a0).1.2.2.2.1),I ((reqFrom a0).1.2.2.2.2)]
abbrev Z67 (a0:Option Addr)(a1:List UInt8)(a2:Nat):It:=.own a0 (((addrOf ((splitB (58:UInt8) a1).getD 0 []) (numD ((splitB (58:UInt8) a1).getD 1 []))).2.1).length) a2 3 1 (((addrOf ((splitB (58:UInt8) a1).getD 0 []) (numD ((splitB (58:UInt8) a1).getD 1 []))).2.1).map I)
abbrev Z68 (a0:Int)(a1:List Int)(a2:List (List UInt8×List UInt8))(a3:List UInt8)(a4:List Int)(a5:Option Addr)(a6:Nat)(a7:Option Addr)(a8:Nat):List Value:=[I ((talkSay a0 a1 a2 a3 a4).1.1),.slice a5 (((talkSay a0 a1 a2 a3 a4).1.2.1).length) a6,.slice a7 (((talkSay a0 a1 a2 a3 a4).1.2.2.1).length) a8,Str ((talkSay a0 a1 a2 a3 a4).1.2.2.2)]
abbrev Z69 (a0:List Int):Value:=I (ofB ((a0.take 26).drop 24))
abbrev Z70 (a0:List Int)(a1:Option Addr)(a2:Nat):List Value:=[I ((codeR a0).1),I ((codeR a0).2.1.1),.slice a1 (((codeR a0).2.1.2.1).length) a2,Str ((codeR a0).2.1.2.2.1),I ((codeR a0).2.1.2.2.2)]
abbrev Z71 (a0:Option Addr)(a1:Int)(a2:Int)(a3:Nat):It:=.own a0 (((([4,a1]:List Int)++(numB a2))++([0,0,0,1]:List Int)).length) a3 3 1 (((([4,a1]:List Int)++(numB a2))++([0,0,0,1]:List Int)).map I)
abbrev Z72 (a0:Nat):It:=oI a0 ([]:List Int) 0 3
abbrev Z73 (a0:List Int):=(addrT ((reqFrom a0).1.2.1) ((reqFrom a0).1.2.2.1) ((reqFrom a0).1.2.2.2.1) ((reqFrom a0).1.2.2.2.2))
abbrev Z74 (a0:List Int):List Value:=[Str ((loginFrom a0).1.1),Str ((loginFrom a0).1.2)]
abbrev Z75:=([13,10,13,10,0,13,10,81,85,73,84,10,33,17]:List Int)
abbrev Z76 (a0:Nat)(a1:List UInt8)(a2:List UInt8):It:=.blk a0 31 [Str a1,Str a2]
abbrev Z77 (a0:List UInt8):List Value:=[I 1,I (a0.length:Int)]
abbrev Z78 (a0:Option Addr)(a1:List UInt8)(a2:Nat):Value:=.slice a0 (((addrFrom ((splitB (32:UInt8) a1).getD 1 [])).1.2.1).length) a2
abbrev Z79 (a0:List Int):=((a0.take ((2+(a0.getD 1 0)).toNat)).drop 2)
abbrev Z80:List Value:=[I 13,I 10,I 13,I 10,I 0,I 13,I 10,I 81,I 85,I 73,I 84,I 10,I 33,I 17]
abbrev Z81 (a0:List UInt8):Value:=Str ((addrFrom ((splitB (32:UInt8) a0).getD 1 [])).1.2.2.1)
abbrev Z82 (a0:Option Addr)(a1:Int)(a2:Int)(a3:List Int)(a4:Nat):It:=.own a0 (((([4,a1]:List Int)++(numB a2))++a3).length) a4 3 1 (((([4,a1]:List Int)++(numB a2))++a3).map I)
abbrev Z83 (a0:List Int):Value:=I (ofB ((a0.take 4).drop 2))
abbrev Z84 (a0:Nat):It:=oI a0 ([0,0,0,1]:List Int) 4 3
abbrev Z85 (a0:List UInt8):Value:=I ((addrFrom ((splitB (32:UInt8) a0).getD 1 [])).1.2.2.2)
abbrev Z86 (a0:UInt8):Value:=(.bool (decide ((a0.toNat:Int)=45)))
abbrev Z87 (a0:Option Addr)(a1:List (List UInt8×List UInt8))(a2:Nat):Value:=(.slice a0 a1.length a2)
abbrev Z88 (a0:Int):Value:=(.bool (decide (a0=1)))
abbrev Z89 (a0:List Hd)(a1:Nat):Value:=(.slice ((a0.getD a1 hd0).A) (((a0.getD a1 hd0).xs).length) ((a0.getD a1 hd0).c))
abbrev Z90:It:=.own none (([]:List UInt8).length) 0 5 1 (([]:List UInt8).map U)
abbrev Z91 (a0:List UInt8):List Value:=[I (a0.length:Int)]
abbrev Z92 (a0:Option Addr)(a1:List UInt8)(a2:Nat):It:=.own a0 (((addrFrom (wordN a1 (Int.toNat 8))).1.2.1).length) a2 3 1 (((addrFrom (wordN a1 (Int.toNat 8))).1.2.1).map I)
abbrev Z93 (a0:List UInt8):Value:=I ((addrFrom ((splitB (32:UInt8) a0).getD 1 [])).1.1)
abbrev Z94 (a0:List UInt8):=(quadFrom (cutA a0 58))
abbrev Z95 (a0:List Int):Value:=(.bool ((helloFrom a0).2.2))
abbrev Z96 (a0:Option Addr)(a1:List UInt8)(a2:Nat):Value:=.slice a0 (((addrFrom a1).1.2.1).length) a2
abbrev Z97 (a0:Nat):It:=oI a0 ([0]:List Int) 1 3
abbrev Z98 (a0:List UInt8):Value:=I ((decI (cutZ a0 58)).1)
abbrev Z99 (a0:List UInt8):Value:=(.bool ((addrFrom a0).2))
abbrev Z100 (a0:Int):List Value:=[.int .u8 (((UInt8.ofNat (48+(a0 % 10)).toNat).toNat:Nat):Int)]
abbrev Z101 (a0:List UInt8):=(a0.take (((idxB a0 (10:UInt8))+1).toNat))
abbrev Z102 (a0:List UInt8):=(a0.drop (((idxB a0 (10:UInt8))+1).toNat))
abbrev Z103:List Value:=[I 0,I 0,ns,Str [],I 0]
abbrev Z104 (a0:List Int):=((a0.take (((szA a0)-2).toNat)).drop 2)
abbrev Z105 (a0:Option Addr)(a1:Int)(a2:List Int)(a3:List (List UInt8×List UInt8))(a4:List UInt8)(a5:List UInt8)(a6:Nat):Value:=.slice a0 (((talkSay a1 a2 a3 a4 ((hexFrom a5).1)).1.2.2.1).length) a6
abbrev Z106 (a0:List Int):Value:=(.bool (!(isBytes a0)))
abbrev Z107 (a0:List UInt8):Value:=(.bool (decide (a0=[])))
abbrev Z108 (a0:Option Addr)(a1:Int)(a2:List Int)(a3:List (List UInt8×List UInt8))(a4:List UInt8)(a5:List UInt8)(a6:Nat):Value:=.slice a0 (((talkSay a1 a2 a3 a4 ((hexFrom a5).1)).1.2.1).length) a6
abbrev Z109 (a0:List UInt8):Value:=Str ((addrFrom a0).1.2.2.1)
abbrev Z110 (a0:Option Addr)(a1:Int)(a2:Int)(a3:List UInt8)(a4:Nat):Value:=(.slice a0 (((((([4,a1]:List Int)++(numB a2))++([0,0,0,1]:List Int))++(textI a3))++([0]:List Int)).length) a4)
abbrev Z111 (a0:Option Addr)(a1:List Int)(a2:Nat):Value:=.slice a0 (((codeFrom a1).2.1.2.1).length) a2
abbrev Z112 (a0:Option Addr)(a1:List UInt8)(a2:Nat):Value:=.slice a0 (((addrFrom (wordN a1 (Int.toNat 8))).1.2.1).length) a2
abbrev Z113 (a0:List Int):=(tagsFrom ((a0.take ((16+(ofB ((a0.take 16).drop 14))).toNat)).drop 28))
abbrev Z114 (a0:List UInt8):=((splitB 32 a0).getD 0 [])
abbrev Z115 (a0:List (List UInt8×List UInt8))(a1:Nat):List Value:=[Str ((a0.getD a1 login0).1),Str ((a0.getD a1 login0).2)]
abbrev Z116 (a0:List UInt8):Value:=Str ((addrFrom (wordN a0 (Int.toNat 8))).1.2.2.1)
abbrev Z117 (a0:Option Addr)(a1:List Int)(a2:Nat):Value:=.slice a0 (((a1.take 24).drop 20).length) a2
abbrev Z118 (a0:List UInt8):Value:=I ((addrFrom a0).1.2.2.2)
abbrev Z119 (a0:UInt8):Value:=(.int .u8 (a0.toNat:Int))
abbrev Z120 (a0:List Int):Value:=I (a0.getD 0 0)
abbrev Z121 (a0:List UInt8):Value:=I ((addrFrom (wordN a0 (Int.toNat 8))).1.2.2.2)
abbrev Z122 (a0:Int)(a1:List Int)(a2:List (List UInt8×List UInt8))(a3:List UInt8)(a4:List UInt8):Value:=Str ((talkSay a0 a1 a2 a3 ((hexFrom a4).1)).1.2.2.2)
abbrev Z123 (a0:List Int):Value:=I (ofB ((a0.take 28).drop 26))
abbrev Z124 (a0:List UInt8):Value:=I ((addrFrom (wordN a0 (Int.toNat 8))).1.1)
abbrev Z125 (a0:List Int):Value:=Str ((codeFrom a0).2.1.2.2.1)
abbrev Z126 (a0:Option Addr)(a1:Int)(a2:Int)(a3:List UInt8)(a4:Nat):It:=.own a0 ((((([4,a1]:List Int)++(numB a2))++([0,0,0,1]:List Int))++(textI a3)).length) a4 3 1 ((((([4,a1]:List Int)++(numB a2))++([0,0,0,1]:List Int))++(textI a3)).map I)
abbrev Z127 (a0:Option Addr)(a1:List Int)(a2:Nat):It:=.own a0 (((a1.take 24).drop 20).length) a2 3 1 (((a1.take 24).drop 20).map I)
abbrev Z128 (a0:Nat):Option Addr:=(some ⟨a0,1,none⟩)
abbrev Z129 (a0:List Int):Value:=(.bool ((lineZ (bT a0)).2))
abbrev Z130 (a0:List Int):Value:=(.bool ((connZ (bT a0)).2))
abbrev Z131 (a0:List Int):Value:=I ((codeFrom a0).2.1.2.2.2)
abbrev Z132 (a0:List UInt8):Value:=I ((addrFrom a0).1.1)
abbrev Z133 (a0:List UInt8):Value:=Str ((splitB (47:UInt8) a0).getD 1 [])
abbrev Z134 (a0:List UInt8):Value:=Str ((splitB (47:UInt8) a0).getD 0 [])
abbrev Z135 (a0:List Int):Value:=I (a0.getD 1 0)
abbrev Z136 (a0:List UInt8):=(oldP 1 ((addrFrom a0).1.1) ((addrFrom a0).1.2.1) ((addrFrom a0).1.2.2.1) ((addrFrom a0).1.2.2.2) [])
abbrev Z137 (a0:UInt8):Value:=(.bool (decide ((a0.toNat:Int)≤57)))
abbrev Z138 (a0:Nat):It:=oI a0 ([2,0]:List Int) 2 3
abbrev Z139 (a0:List UInt8):Value:=Str ((addrOf ((splitB (58:UInt8) a0).getD 0 []) (numD ((splitB (58:UInt8) a0).getD 1 []))).2.2.1)
abbrev Z140 (a0:Option Addr)(a1:List Int)(a2:Nat):Value:=.slice a0 (((codeR a1).2.1.2.1).length) a2
abbrev Z141 (a0:Int)(a1:List Int)(a2:List (List UInt8×List UInt8))(a3:List UInt8)(a4:List UInt8):Value:=I ((talkSay a0 a1 a2 a3 ((hexFrom a4).1)).1.1)
abbrev Z142 (a0:List UInt8):Value:=I ((addrOf ((splitB (58:UInt8) a0).getD 0 []) (numD ((splitB (58:UInt8) a0).getD 1 []))).2.2.2)
abbrev Z143 (a0:List Int)(a1:Nat)(a2:Bool):Value:=I (byV a0 (a1,a2))
abbrev Z144 (a0:List Int):Value:=(.bool ((headFrom a0).2))
abbrev Z145 (a0:List Int):Value:=(.bool (decide ((a0.length:Int)=0)))
abbrev Z146 (a0:List UInt8):Value:=I ((addrOf ((splitB (58:UInt8) a0).getD 0 []) (numD ((splitB (58:UInt8) a0).getD 1 []))).1)
abbrev Z147 (a0:List Int)(a1:Nat)(a2:Int):=((a0.take (a1+a2.toNat)).drop ((((a1+a2.toNat:Nat):Int)-a2).toNat))
abbrev Z148:List Value:=[I 0,I 0,I 0,I 1]
abbrev Z149:It:=.own none (([]:List TgE).length) 0 166 2 (([]:List TgE).flatMap gTgE)
abbrev Z150 (a0:Option Addr)(a1:Int)(a2:Int)(a3:List Int)(a4:List UInt8)(a5:Nat):Value:=(.slice a0 (((((([4,a1]:List Int)++(numB a2))++a3)++(textI a4))++([0]:List Int)).length) a5)
abbrev Z151 (a0:List UInt8)(a1:UInt8):=(a0.drop (((idxB a0 a1)+(([a1].length:Nat):Int)).toNat))
abbrev Z152 (a0:List Int):Value:=I ((codeFrom a0).2.1.1)
abbrev Z153 (a0:Option Addr)(a1:List UInt8)(a2:Nat):Value:=.slice a0 (((addrOf ((splitB (58:UInt8) a1).getD 0 []) (numD ((splitB (58:UInt8) a1).getD 1 []))).2.1).length) a2
abbrev Z154 (a0:List UInt8)(a1:List UInt8):Value:=(.bool (decide ((a0.length:Int)≤(a1.length:Int))))
abbrev Z155:Value:=Str [97,110,110]
abbrev Z156 (a0:List Int):Value:=Str ((codeR a0).2.1.2.2.1)
abbrev Z157 (a0:List UInt8)(a1:List UInt8):Value:=(.bool (decide (a0.take a1.length=a1)))
abbrev Z158 (a0:List UInt8):=(sniffS ((splitB (32:UInt8) a0).getD 1 []))
abbrev Z159:=(textI [67,79,78,78,69,67,84,32])
end Go.PF
