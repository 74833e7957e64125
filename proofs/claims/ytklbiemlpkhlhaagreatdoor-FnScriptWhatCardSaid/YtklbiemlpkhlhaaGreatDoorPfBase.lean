/-
  Part of the proofs over this seat: rules for walking functions of the model (frames as functions, memory as a list of owned rows), and plain functions that say what the program computes.
  Conditions: none; every theorem states its own.
-/
import Derived.WalkKit
import Derived.Below
import Derived.Laws.OwnMore
import Derived.Laws.MakeOwn
import Derived.Maps.AppendAt
import Derived.Deep.Quiet
import Derived.OrdersHeld
import Derived.Lib.Builder
import Derived.Lib.UnsafeStr
import Derived.ProofKit
import Derived.OpenShut
import Derived.Lib.Bytealg
import Derived.Laws.StructEq
import Derived.Laws.Shifts
import Derived.KernelRfl
import Derived.Laws.BytesString
import Derived.Lib.LaidTab
import Derived.Lib.ItoaNum
import Derived.Lib.ItoaLen
import Derived.Lib.Join
import Derived.Lib.AtoiTie
import Derived.Lib.AtoiAllCases
import Derived.Lib.AtoiErrMem
import Derived.Sort.Grow
import Derived.Deep.Draws
import Derived.Lib.IndexMore
import Derived.Lib.AppendStr
import Derived.RangeFuncWrites
import Derived.TacticsIn
import Derived.RangeFuncLeaves
namespace Go.PF
open Go.RowKit
set_option linter.unusedSimpArgs false
set_option linter.unusedVariables false
abbrev aC:=List Int
abbrev aD:=List UInt8
abbrev aM:=Option Addr
abbrev cU:=List Value
abbrev El:=Option Nat
abbrev eP:=List Nat
abbrev bH:=@List.length_append
abbrev bK:=@List.length_nil
abbrev bP:=@List.length_cons
abbrev aS:=@congrArg
abbrev cB:=@Nat.le_trans
abbrev dV:=@List.length_take
abbrev fC:=@List.length_drop
abbrev iF:=@Bool.and_eq_true
abbrev lI:=@List.take_of_length_le
abbrev b0:=@if_neg
abbrev cF:=@if_pos
abbrev qD:=@List.take_succ_eq_append_getElem
abbrev kP:=@decide_eq_true_eq
abbrev oL:=@Bool.eq_false_or_eq_true
abbrev nQ:=@List.mem_of_getElem?
abbrev kQ:=@run_underlying
abbrev rK:=@List.drop_eq_getElem_cons
abbrev pS:=@List.count_le_length
abbrev vO:=@List.eq_nil_of_length_eq_zero
abbrev pI:=@of_decide_eq_true
abbrev rL:=@List.mem_cons_of_mem
abbrev lA:=@Nat.le_refl
abbrev wH:=@List.getElem?_eq_getElem
abbrev yS:=@List.getD_eq_getElem?_getD
abbrev sK:=@List.mem_cons_self
abbrev sL:=@Lib.itoa_length_le
abbrev uW:=@List.mem_of_mem_drop
abbrev rM:=@List.getElem_mem
abbrev uX:=@List.getD_cons_zero
abbrev uY:=@List.getD_cons_succ
abbrev vP:=@List.mem_of_mem_take
abbrev pT:=@Nat.zero_add
abbrev vQ:=@List.getElem?_map
abbrev vR:=@List.append_assoc
abbrev wI:=@Nat.eq_zero_or_pos
abbrev xF:=@List.getElem_of_mem
abbrev qR:=@Nat.lt_or_ge
abbrev uZ:=@List.drop_take
abbrev u9:=@Bool.and_false
abbrev xG:=@List.size_toArray
abbrev yT:=@of_decide_eq_false
abbrev wJ:=@Bool.eq_iff_iff
abbrev B8:=@List.getElem?_eq_none
abbrev xH:=@List.append_nil
abbrev GR:=@Array.getD_eq_getD_getElem?
abbrev GS:=@List.mem_of_find?_eq_some
abbrev yU:=@Option.map_some
abbrev yV:=@List.length_map
abbrev D0:=@List.take_append_drop
abbrev GU:=@List.find?_range_eq_some
abbrev yW:=@List.drop_drop
abbrev B9:=@Option.getD_some
abbrev xI:=@Int.zero_add
abbrev D1:=@UInt8.toNat_ofNat'
abbrev D2:=@List.getElem?_take
abbrev D3:=@List.getElem?_drop
abbrev D4:=@List.find?_eq_none
abbrev CA:=@List.foldl_cons
abbrev GV:=@List.mem_singleton
abbrev yX:=@Nat.zero_le
abbrev GW:=@List.flatMap_cons
abbrev JC:=@List.flatMap_append
abbrev D5:=@Bool.true_and
abbrev D6:=@Bool.and_true
abbrev JD:=@Bool.false_eq_true
abbrev CB:=@Nat.mul_one
abbrev GX:=@heap_alloc_new
abbrev GY:=@List.take_left
abbrev GZ:=@Bool.false_and
abbrev LO:=@Array.getElem?_modify
abbrev JE:=@Option.bind_some
abbrev JF:=@Nat.mod_eq_of_lt
abbrev P3:=@List.drop_append_of_le_length
abbrev xJ:=@and_true
abbrev G0:=@List.map_cons
abbrev JG:=@List.mem_append
abbrev JH:=@List.find?_some
abbrev LP:=@Array.toList_append
abbrev P4:=@List.getElem?_append_right
abbrev LQ:=@grownCap_le_maxLen
abbrev LR:=@Nat.lt_of_lt_of_le
abbrev CC:=@wpIn_mono
abbrev LS:=@List.drop_sublist
abbrev LU:=@Array.size_append
abbrev P5:=@decide_eq_false_iff_not
abbrev P6:=@Int.eq_ofNat_of_zero_le
theorem aH:True:=trivial

abbrev Fr:=Nat→Value
def fY (f:Fr) (d:Nat) (v:Value):Fr:=fun t=>bif Nat.beq t d then v else f t
def LC (f:Fr):List (Nat×Value)→Fr
  | []=>f
  | p::l=>fY (LC f l) p.1 p.2
def ev (f:Fr):Operand→Value
  | .tmp t=>f t
  | .const v=>v
  | .global g=>.pointer (some ⟨g,0,none⟩)
  | .func k=>.func (.func k) #[] #[]
theorem MN {a b:Nat} (h:a≠b):Nat.beq a b=false:=by
  cases hb:Nat.beq a b
  · rfl
  · exact absurd (Nat.eq_of_beq_eq_true hb) h
theorem I8 {f:Fr} {t:Nat} {v:Value} (h:f t=v):fY f t v=f:=by
  funext u
  unfold fY
  by_cases hu:u=t
  · subst hu; simp[h]
  · have:Nat.beq u t=false:=MN hu
    simp[this]

theorem Du {f:Fr}: ∀ {l:List (Nat×Value)},(∀ p∈l,f p.1=p.2)→LC f l=f
  | [],_=>rfl
  | p::l,h=>by
    show fY (LC f l) p.1 p.2=f
    rw[Du (l:=l) fun q hq=>h q (rL _ hq)]
    exact I8 (h p (sK ..))

structure mJ (N:Nat) (f:Fr) (a:Act):Prop where
  size:a.tmps.size=N
  nod:a.defers=[]
  at_: ∀ t,a.tmps.getD t undef=f t

theorem mJ.eval {N:Nat} {f:Fr} {a:Act} (h:mJ N f a):a.eval=ev f:=by
  funext x
  cases x <;> simp[Act.eval,ev,h.at_]

theorem mJ.put {N:Nat} {f:Fr} {a:Act} (h:mJ N f a) {d:Nat} (hd:Nat.blt d N=true) (v:Value):mJ N (fY f d v) (a.put (some d) v):=by
  have hd':d<N:=by simpa [Nat.blt_eq] using hd
  refine⟨by simp[Act.put,h.size],by simp[Act.put,h.nod],fun t=>?_⟩
  have h0:=h.at_ t
  simp only[Act.put,fY]
  by_cases ht:t=d
  · subst ht
    simp[h.size,hd']
  · have hb:Nat.beq t d=false:=MN ht
    have hn: ¬ d=t:=fun e=>ht e.symm
    simp only[hb,cond_false]
    rw[← h0]
    simp[GR,hn]

section
variable (P:Program) (N:Nat)
abbrev Po:=Exit→Fr→World→Prop
@[irreducible] def W (c:Code) (Q:Po) (f:Fr) (w:World):Prop:=
  ∀ a,mJ N f a→c.wp P (fun e a' w'=>∃ f',mJ N f' a'∧Q e f' w') a w
@[irreducible] def WL (ops:Array Oper) (Q:Po) (l:List Oper) (f:Fr) (w:World):Prop:=
  ∀ a,mJ N f a→wpList P ops (fun e a' w'=>∃ f',mJ N f' a'∧Q e f' w') l a w
end

section
variable {P:Program} {N:Nat} {Q:Po} {f:Fr} {w:World}
def xA (next:Fr→World→Prop) (Q:Po):Po
  | .normal,f,w=>next f w
  | e,f,w=>Q e f w
def DA (id:Nat) (Q:Po):Po
  | .exit id',f,w=>bif Nat.beq id' id then Q .normal f w else Q (.exit id') f w
  | e,f,w=>Q e f w

theorem W.mono {c:Code} {Q':Po} (h:W P N c Q f w) (hq: ∀ e f w,Q e f w→Q' e f w):W P N c Q' f w:=by
  unfold W at*
  exact fun a ha=>Code.wp_mono (fun e a' w' ⟨f',hf,hQ⟩=>⟨f',hf,hq _ _ _ hQ⟩) (h a ha)

theorem sq {x y:Code} (h:W P N x (xA (W P N y Q) Q) f w):W P N (.seq x y) Q f w:=by
  unfold W at*
  intro a ha
  refine wp_seq (Code.wp_mono (fun e a' w' ⟨f',hf,hQ⟩=>?_) (h a ha))
  cases e with
  | normal=>
    exact hQ a' hf
  | _=>exact⟨f',hf,hQ⟩
theorem sk (h:Q .normal f w):W P N .skip Q f w:=by unfold W; exact fun a ha=>wp_skip ⟨f,ha,h⟩
theorem rt (h:Q .ret f w):W P N .ret Q f w:=by unfold W; exact fun a ha=>wp_ret ⟨f,ha,h⟩
theorem ex {id:Nat} (h:Q (.exit id) f w):W P N (.exit id) Q f w:=by unfold W; exact fun a ha=>wp_exit ⟨f,ha,h⟩
theorem bl {id:Nat} {c:Code} (h:W P N c (DA id Q) f w):W P N (.block id c) Q f w:=by
  unfold W at*
  intro a ha
  refine wp_block (Code.wp_mono (fun e a' w' ⟨f',hf,hQ⟩=>?_) (h a ha))
  cases e with
  | exit id'=>
    unfold DA at hQ
    unfold Exit.inBlock
    by_cases hid:id'=id
    · subst hid
      simp only[if_true]
      have hb:Nat.beq id' id'=true:=by simp
      simp only[hb,cond_true]at hQ
      exact⟨f',hf,hQ⟩
    · have hb:Nat.beq id' id=false:=MN hid
      simp only[hid,if_false]
      simp only[hb,cond_false]at hQ
      exact⟨f',hf,hQ⟩
  | _=>exact⟨f',hf,hQ⟩
theorem cd {c:Operand} {x y:Code} {b:Bool} (hc:ev f c=.bool b) (ht:b=true→W P N x Q f w) (hf:b=false→W P N y Q f w):W P N (.cond c x y) Q f w:=by
  unfold W at*
  intro a ha
  exact wp_cond_split (by rw[ha.eval]; exact hc) (fun h=>ht h a ha) (fun h=>hf h a ha)
theorem bI {c:Operand} {x y:Code} {p:Prop} [Decidable p] (hc:ev f c=.bool (decide p)) (ht:p→W P N x Q f w) (hf: ¬ p→W P N y Q f w):W P N (.cond c x y) Q f w:=
  cd hc (fun h=>ht (pI h)) (fun h=>hf (yT h))
theorem fX {c:Operand} {x y:Code} (hc:ev f c=.bool true) (ht:W P N x Q f w):W P N (.cond c x y) Q f w:=cd hc (fun _=>ht) (fun h=>by cases h)
theorem qV {c:Operand} {x y:Code} (hc:ev f c=.bool false) (ht:W P N y Q f w):W P N (.cond c x y) Q f w:=cd hc (fun h=>by cases h) (fun _=>ht)
theorem lp {c:Code} {σ:Type} (I:σ→Fr→World→Prop) (μ:σ→Nat) (s:σ) (h0:I s f w)
    (round: ∀ s f w,I s f w→W P N c (xA (fun f' w'=>∃ s',I s' f' w'∧μ s'<μ s) Q) f w):W P N (.loop c) Q f w:=by
  have key: ∀ n s f w,μ s=n→I s f w→ ∀ a,mJ N f a→ ∀ (b:Frame) (k:List Item) (cs:List Frame),
      ∃ e a' w',(∃ f',mJ N f' a'∧Q e f' w')∧Arrives P (lone (b.at a (.code c:: .inLoop c::k)) cs w) b k cs e a' w':=by
    intro n
    induction n using Nat.strongRecOn with
    | _ n ih=>
      intro s f w hn hI a ha b k cs
      have hr:=round s f w hI
      unfold W at hr
      obtain ⟨e,a₁,w₁,⟨f₁,hf₁,hq⟩,harr⟩:=hr a ha b (.inLoop c::k) cs
      cases e with
      | normal=>
        obtain ⟨s',hI₁,hlt⟩:=hq
        obtain ⟨e₂,a₂,w₂,hq₂,harr₂⟩:=ih (μ s') (hn ▸ hlt) s' f₁ w₁ rfl hI₁ a₁ hf₁ b k cs
        exact⟨e₂,a₂,w₂,hq₂,.of_steps (Steps.trans harr (.one step_inLoop)) harr₂⟩
      | exit id=>exact⟨_,a₁,w₁,⟨f₁,hf₁,hq⟩,.pass (x:=.inLoop c) rfl (fun _ _=>.inl (by simp)) harr⟩
      | goto l=>exact⟨_,a₁,w₁,⟨f₁,hf₁,hq⟩,.pass (x:=.inLoop c) rfl (fun _ _=>.inl (by simp)) harr⟩
      | ret=>exact⟨_,a₁,w₁,⟨f₁,hf₁,hq⟩,.pass (x:=.inLoop c) rfl (fun _ _=>.inl (by simp)) harr⟩
      | panic ch=>exact⟨_,a₁,w₁,⟨f₁,hf₁,hq⟩,.pass (x:=.inLoop c) rfl (fun _ _=>.inl (by simp)) harr⟩
      | outgrown=>exact⟨_,a₁,w₁,⟨f₁,hf₁,hq⟩,.pass (x:=.inLoop c) rfl (fun _ _=>.inl (by simp)) harr⟩
  unfold W
  intro a ha b k cs
  obtain ⟨e,a',w',hq,harr⟩:=key _ s f w rfl h0 a ha b k cs
  exact⟨e,a',w',hq,.of_steps (.one step_loop) harr⟩

theorem rg {id:Nat} {l:List Oper} (h:WL P N l.toArray Q l f w):W P N (.region id l.toArray false) Q f w:=by
  unfold W WL at*
  exact fun a ha=>wp_region_lit (h a ha)
theorem nl {ops:Array Oper} (h:Q .normal f w):WL P N ops Q [] f w:=by
  unfold WL
  exact fun a ha=>wpList_nil ⟨f,ha,h⟩

end

section
variable {P:Program} {N:Nat} {Q:Po} {f:Fr} {w:World}

def xE (P:Program) (k:FuncId):Prop:=∃ fn c,P.funcs[k]?=some fn∧(fn.name == "runtime.NumGoroutine")=false∧fn.body=some c

def bF (P:Program) (k:FuncId) (args:cU) (w:World) (post:Value→World→Prop):Prop:=
  xE P k∧Calls P k args.toArray w fun | .returned v,w'=>post v w' | _,_=>False

theorem bF.mono {k:FuncId} {args:cU} {post post':Value→World→Prop} (h:bF P k args w post) (hp: ∀ v w',post v w'→post' v w'):bF P k args w post':=
  ⟨h.1,Calls.mono h.2 fun e w' r=>by cases e <;> first | exact hp _ _ r | exact r⟩

theorem bF.FO {k:FuncId} {args:cU} {post:Value→World→Prop} {R:Ending→World→Prop} {as:Array Value} (hb:xE P k) (ha:args.toArray=as) (h:Calls P k as w R)
    (hp: ∀ e w',R e w'→ ∃ v,e=.returned v∧post v w'):bF P k args w post:=by
  subst ha
  exact⟨hb,Calls.mono h fun e w' r=>by obtain ⟨v,rfl,hv⟩:=hp e w' r; exact hv⟩

def BR (args:cU):Fr:=fun t=>args.getD t undef

inductive sJ (P:Program) (w:World) (f:Fr):List ResultVar→cU→Prop
  | nil:sJ P w f [] []
  | tmp {t:Tmp} {rs:List ResultVar} {vs:cU} (h:sJ P w f rs vs):sJ P w f (.tmp t::rs) (f t::vs)
  | cell {t:Tmp} {ty:TypeId} {a:Addr} {v:Value} {rs:List ResultVar} {vs:cU} (hp:f t=.pointer (some a)) (hl:(loadVar ty a).run P w=.ok v w) (h:sJ P w f rs vs):sJ P w f (.cell t ty::rs) (v::vs)

def BV:cU→Value
  | [v]=>v
  | vs=>.tuple vs.toArray

def KY (f:Fr):ResultVar→Sem Value
  | .tmp t=>pure (f t)
  | .cell x t=>do loadVar t (← asAddr (f x))
theorem O8 {fn:Func} {rs:List ResultVar} {a:Act} {vs:cU} (hf:fn.results=rs.toArray) (ha:mJ N f a) (h:sJ P w f rs vs):
    (results fn a.tmps).run P w=.ok (BV vs) w:=by
  have key: ∀ {rs:List ResultVar} {vs:cU},sJ P w f rs vs→(rs.mapM (KY f)).run P w=.ok vs w:=by
    intro rs vs h
    induction h with
    | nil=>simp
    | tmp h ih=>simp only[List.mapM_cons,Sem.run_bind,KY,Sem.run_pure,Result.andThen_ok,ih]
    | cell hp hl h ih=>simp only[List.mapM_cons,Sem.run_bind,KY,Sem.run_pure,hp,asAddr,Result.andThen_ok,hl,ih]
  have hres:results fn a.tmps=(do let vs ← rs.toArray.mapM (KY f); pure (if h:vs.size=1 then vs[0] else .tuple vs)):=by
    unfold results
    rw[hf]
    congr 1
    congr 1
    funext x
    cases x <;> simp only[KY,ha.at_]
  rw[hres,List.mapM_toArray]
  simp only[Sem.run_bind,Sem.run_map,key h,Result.andThen_ok,Sem.run_pure]
  congr 1
  match vs with
  | []=>rfl
  | [v]=>rfl
  | v::u::vs=>simp[BV]

def fin (P:Program) (rs:List ResultVar) (post:Value→World→Prop):Po
  | .normal,f,w | .ret,f,w=>∃ vs,sJ P w f rs vs∧post (BV vs) w
  | _,_,_=>False

theorem Jf {k:FuncId} {fn:Func} {c:Code} {args:cU} {post:Value→World→Prop} {rs:List ResultVar} (hf:P.funcs[k]?=some fn) (hb:fn.body=some c)
    (hn:(fn.name == "runtime.NumGoroutine")=false) (hr:fn.results=rs.toArray) (hN:fn.ntmps=N) (ha:Nat.ble args.length N=true)
    (h:W P N c (fin P rs post) (BR args) w):bF P k args w post:=by
  refine⟨⟨fn,c,hf,hn,hb⟩,calls_of_wp hf hb ?_⟩
  have hle:args.length≤N:=Nat.le_of_ble_eq_true ha
  have hrep:mJ N (BR args) {tmps:=args.toArray++Array.replicate (fn.ntmps-args.toArray.size) undef,defers:=[]}:=by
    refine⟨by simp[hN]; omega,rfl,fun t=>?_⟩
    simp only[BR,GR,yS,Array.getElem?_append,xG,List.getElem?_toArray]
    by_cases ht:t<args.length
    · rw[cF ht]
    · rw[b0 ht,B8 (by omega)]
      rw[Array.getElem?_replicate]
      split <;> rfl
  unfold W at h
  refine Code.wp_mono (fun e a' w' hx=>?_) (h _ hrep)
  obtain ⟨f',hf',hQ⟩:=hx
  cases e with
  | normal=>
    obtain ⟨vs,h1,h2⟩:=hQ
    exact⟨hf'.nod,_,O8 hr hf' h1,h2⟩
  | ret=>
    obtain ⟨vs,h1,h2⟩:=hQ
    exact⟨hf'.nod,_,O8 hr hf' h1,h2⟩
  | _=>exact hQ.elim

def gs (ops:Array Oper) (j:Nat):Option Tmp:=(ops[j]?).bind (·.dst)
def On (ops:Array Oper) (f:Fr):Option (Nat×Bool)→Prop
  | none=>True
  | some (j,b)=>∃ t,gs ops j=some t∧f t=.bool b
theorem On.wanted {ops:Array Oper} {o:Oper} {a:Act} (h:On ops f o.guard) (ha:mJ N f a):Region.wanted o (yielded ops a.tmps)=true:=by
  unfold Region.wanted
  cases hg:o.guard with
  | none=>rfl
  | some p=>
    obtain ⟨j,b⟩:=p
    rw[hg]at h
    obtain ⟨t,hj,ht⟩:=h
    have h0:=ha.at_ t
    rw[ht,GR]at h0
    have:a.tmps[t]?=some (.bool b):=by
      cases hx:a.tmps[t]? with
      | none=>rw[hx]at h0; cases h0
      | some v=>rw[hx]at h0; simp at h0; rw[h0]
    have hj':(ops[j]?).bind (·.dst)=some t:=hj
    simp[yielded,hj',this]
theorem Off.wanted {ops:Array Oper} {o:Oper} {a:Act} {j:Nat} {b:Bool} {t:Tmp} (hg:o.guard=some (j,!b)) (hj:gs ops j=some t) (ht:f t=.bool b) (ha:mJ N f a):Region.wanted o (yielded ops a.tmps)=false:=by
  unfold Region.wanted
  rw[hg]
  have h0:=ha.at_ t
  rw[ht,GR]at h0
  have:a.tmps[t]?=some (.bool b):=by
    cases hx:a.tmps[t]? with
    | none=>rw[hx]at h0; cases h0
    | some v=>rw[hx]at h0; simp at h0; rw[h0]
  have hj':(ops[j]?).bind (·.dst)=some t:=hj
  cases b <;> simp[yielded,hj',this]

section
variable {ops:Array Oper} {rest:List Oper} {o:Oper} {d:Nat} {v:Value} {w':World}
theorem WL.op (hg:On ops f o.guard) (hdst:o.dst=some d) (hd:Nat.blt d N=true)
    (hrun:(execOp (ev f) o).run P w=.ok (.value v) w') (h:WL P N ops Q rest (fY f d v) w'):WL P N ops Q (o::rest) f w:=by
  unfold WL at*
  intro a ha
  refine wpList_step fun K hK=>?_
  rw[cF (hg.wanted ha)]
  unfold Oper.wp
  rw[ha.eval,hrun,Oper.upon_value,hdst]
  exact hK _ _ (h _ (ha.put hd v))
theorem WL.OP (hg:On ops f o.guard) (hdst:o.dst=none)
    (hrun:(execOp (ev f) o).run P w=.ok .skip w') (h:WL P N ops Q rest f w'):WL P N ops Q (o::rest) f w:=by
  unfold WL at*
  intro a ha
  refine wpList_step fun K hK=>?_
  rw[cF (hg.wanted ha)]
  unfold Oper.wp
  rw[ha.eval,hrun,Oper.upon_skip,hdst]
  exact hK _ _ (h _ ha)
theorem gk {j:Nat} (b:Bool) {t:Tmp} (hdst:o.dst=some d) (hg:o.guard=some (j,!b)) (hj:gs ops j=some t) (ht:f t=.bool b) (hd:Nat.blt d N=true) (h:WL P N ops Q rest (fY f d undef) w):WL P N ops Q (o::rest) f w:=by
  unfold WL at*
  intro a ha
  refine wpList_step fun K hK=>?_
  rw[b0 (by rw[Off.wanted hg hj ht ha]; simp),hdst]
  exact hK _ _ (h _ (ha.put hd _))
theorem hP {l:List Oper} {b:Bool} (t:Nat) (ht:f t=.bool b) (h1:b=true→WL P N ops Q l (fY f t (.bool true)) w) (h2:b=false→WL P N ops Q l (fY f t (.bool false)) w):WL P N ops Q l f w:=by
  cases b
  · have:=h2 rfl; rwa [I8 ht]at this
  · have:=h1 rfl; rwa [I8 ht]at this
theorem fF {l:List Oper} {p:Prop} [Decidable p] (t:Nat) (ht:f t=.bool (decide p)) (h1:p→WL P N ops Q l (fY f t (.bool true)) w) (h2: ¬ p→WL P N ops Q l (fY f t (.bool false)) w):WL P N ops Q l f w:=
  hP t ht (fun h=>h1 (pI h)) (fun h=>h2 (yT h))
theorem re {l:List Oper} {v:Value} (t:Nat) (ht:f t=v) (h:WL P N ops Q l (fY f t v) w):WL P N ops Q l f w:=by rwa [I8 ht]at h
theorem Aj {k:FuncId} {args:Array Operand} {ts:Array TypeId} {g:Operand} {first cap:Array Value} {ty:TypeId} {pos:String} {aft:Array Edge} {gd:Option (Nat×Bool)} {dst:Option Tmp} (hb:xE P k) (hv:ev f g=.func (.func k) first cap):
    (execOp (ev f) ⟨dst,.call ⟨.value g,args,ts⟩,ty,pos,aft,gd⟩).run P w=.ok (.enter k (first++args.map (ev f)++cap)) w:=by
  obtain ⟨fn,c,hf,hn,hb⟩:=hb
  have h1:fn.name≠ "runtime.NumGoroutine" :=by simpa using hn
  simp[execOp,resolve,hv,Deferred.ofValue,invoke,callFunc,hf,h1,hb]

theorem WL.call {k:FuncId} {args:List Operand} {ts:Array TypeId} {g:Operand} {first cap:cU} {ty:TypeId} {pos:String} {aft:Array Edge} {gd:Option (Nat×Bool)} {post:Value→World→Prop}
    (hg:On ops f gd) (hd:Nat.blt d N=true) (hv:ev f g=.func (.func k) first.toArray cap.toArray) (hF:bF P k (first++args.map (ev f)++cap) w post)
    (h: ∀ v w',post v w'→WL P N ops Q rest (fY f d v) w'):WL P N ops Q (⟨some d,.call ⟨.value g,args.toArray,ts⟩,ty,pos,aft,gd⟩::rest) f w:=by
  unfold WL at*
  intro a ha
  refine wpList_step fun K hK=>?_
  rw[cF (On.wanted (o:=⟨some d,.call ⟨.value g,args.toArray,ts⟩,ty,pos,aft,gd⟩) hg ha)]
  unfold Oper.wp
  rw[ha.eval,Aj hF.1 hv,Oper.upon_enter]
  have hargs:first.toArray++(args.toArray).map (ev f)++cap.toArray=(first++args.map (ev f)++cap).toArray:=by simp
  rw[hargs]
  exact Calls.mono hF.2 fun e w' r=>by
    cases e with
    | returned v=>exact hK _ _ (h v w' r _ (ha.put hd v))
    | _=>exact r.elim
theorem cl {k:FuncId} {args:List Operand} {ts:Array TypeId} {ty:TypeId} {pos:String} {aft:Array Edge} {gd:Option (Nat×Bool)} {post:Value→World→Prop}
    (hg:On ops f gd) (hd:Nat.blt d N=true) (hF:bF P k (args.map (ev f)) w post)
    (h: ∀ v w',post v w'→WL P N ops Q rest (fY f d v) w'):WL P N ops Q (⟨some d,.call ⟨.value (.func k),args.toArray,ts⟩,ty,pos,aft,gd⟩::rest) f w:=
  WL.call (first:=[]) (cap:=[]) hg hd rfl (by simpa using hF) h
end
end

section
variable {P:Program} {N:Nat} {Q:Po} {f:Fr} {w:World} {ops:Array Oper} {rest:List Oper} {o:Oper} {d:Nat} {v:Value}
def RV (P:Program) (f:Fr) (w:World) (o:Oper) (v:Value):Prop:=(execOp (ev f) o).run P w=.ok (.value v) w
theorem RV.mk (h:(execOp (ev f) o).run P w=.ok (.value v) w):RV P f w o v:=h
theorem q (hg:On ops f o.guard) (hdst:o.dst=some d) (hd:Nat.blt d N=true) (hr:RV P f w o v) (h:WL P N ops Q rest (fY f d v) w):WL P N ops Q (o::rest) f w:=WL.op hg hdst hd hr h

@[irreducible] def QL (P:Program) (N:Nat) (ops:Array Oper) (C:World→Prop) (Q:Fr→Prop) (l:List Oper) (f:Fr):Prop:=
  ∀ a,mJ N f a→wpQuiet P ops C (fun a'=>∃ f',mJ N f' a'∧Q f') l a
theorem Yx {C:World→Prop}: ∀ (l:List Oper) (ops:Array Oper) (K K':Act→Prop) (a:Act),(∀ a,K a→K' a)→wpQuiet P ops C K l a→wpQuiet P ops C K' l a:=by
  intro l
  induction l with
  | nil=>exact fun _ _ _ _ hk h=>hk _ h
  | cons o l ih=>
    intro ops K K' a hk h
    simp only[wpQuiet]at h ⊢
    split
    · rename_i hw
      rw[cF hw]at h
      exact Oper.quiet_mono (fun a=>ih ops K K' a hk) h
    · rename_i hw
      rw[b0 hw]at h
      exact ih ops K K' _ hk h
theorem rq {id:Nat} {l:List Oper} (C:World→Prop) (hm:P.follows .mixedOrders=true) (hB:Region.lexB .any l.toArray=true) (hC:C w.drew) (h:QL P N l.toArray C (fun f'=>∀ w',C w'→Q .normal f' w') l f):W P N (.region id l.toArray true) Q f w:=by
  unfold W QL at*
  refine fun a ha=>wp_region_quiet (C:=C) hm hB hC ?_
  have:=h a ha
  refine Yx _ _ _ _ _ (fun a' hx w' hw'=>?_) (by simpa using this)
  obtain ⟨f',hf,hq⟩:=hx
  exact⟨f',hf,hq w' hw'⟩
section
variable {C:World→Prop} {Qf:Fr→Prop}
theorem qn (h:Qf f):QL P N ops C Qf [] f:=by unfold QL; exact fun a ha=>wpQuiet_nil ⟨f,ha,h⟩
theorem qq (hg:On ops f o.guard) (hdst:o.dst=some d) (hd:Nat.blt d N=true) (hr: ∀ w,C w→RV P f w o v) (h:QL P N ops C Qf rest (fY f d v)):QL P N ops C Qf (o::rest) f:=by
  unfold QL at*
  intro a ha
  refine wpQuiet_step fun K hK=>?_
  rw[cF (hg.wanted ha)]
  refine⟨v,fun w hw=>?_,by rw[hdst]; exact hK _ (h _ (ha.put hd v))⟩
  unfold Oper.quietAt
  rw[ha.eval,hr w hw]
  exact⟨rfl,rfl⟩
theorem qk {j:Nat} (b:Bool) {t:Tmp} (hdst:o.dst=some d) (hg:o.guard=some (j,!b)) (hj:gs ops j=some t) (ht:f t=.bool b) (hd:Nat.blt d N=true) (h:QL P N ops C Qf rest (fY f d undef)):QL P N ops C Qf (o::rest) f:=by
  unfold QL at*
  intro a ha
  refine wpQuiet_step fun K hK=>?_
  rw[b0 (by rw[Off.wanted hg hj ht ha]; simp),hdst]
  exact hK _ (h _ (ha.put hd _))
theorem qc {k:FuncId} {args:List Operand} {ts:Array TypeId} {ty:TypeId} {pos:String} {aft:Array Edge} {gd:Option (Nat×Bool)} (v:Value)
    (hg:On ops f gd) (hd:Nat.blt d N=true) (hF: ∀ w,C w→bF P k (args.map (ev f)) w fun v' w'=>v'=v∧C w')
    (h:QL P N ops C Qf rest (fY f d v)):QL P N ops C Qf (⟨some d,.call ⟨.value (.func k),args.toArray,ts⟩,ty,pos,aft,gd⟩::rest) f:=by
  unfold QL at*
  intro a ha
  refine wpQuiet_step fun K hK=>?_
  rw[cF (On.wanted (o:=⟨some d,.call ⟨.value (.func k),args.toArray,ts⟩,ty,pos,aft,gd⟩) hg ha)]
  refine⟨v,fun w hw=>?_,hK _ (h _ (ha.put hd v))⟩
  unfold Oper.quietAt
  have hF':=hF w hw
  rw[ha.eval,Aj (first:= #[]) (cap:= #[]) hF'.1 rfl]
  have hargs:(#[]:Array Value)++(args.toArray).map (ev f)++ #[]=(args.map (ev f)).toArray:=by simp
  rw[hargs]
  refine⟨rfl,Calls.mono hF'.2 fun e w' r=>?_⟩
  cases e with
  | returned v'=>exact⟨by rw[r.1],r.2⟩
  | _=>exact r.elim
theorem ZS {l:List Oper} {b:Bool} (t:Nat) (ht:f t=.bool b) (h1:b=true→QL P N ops C Qf l (fY f t (.bool true))) (h2:b=false→QL P N ops C Qf l (fY f t (.bool false))):QL P N ops C Qf l f:=by
  cases b
  · have:=h2 rfl; rwa [I8 ht]at this
  · have:=h1 rfl; rwa [I8 ht]at this
theorem ZR {l:List Oper} {p:Prop} [Decidable p] (t:Nat) (ht:f t=.bool (decide p)) (h1:p→QL P N ops C Qf l (fY f t (.bool true))) (h2: ¬ p→QL P N ops C Qf l (fY f t (.bool false))):QL P N ops C Qf l f:=
  ZS t ht (fun h=>h1 (pI h)) (fun h=>h2 (yT h))
end
end

section
variable {P:Program} {N:Nat} {Q:Po} {f:Fr} {w:World} {ops:Array Oper} {rest:List Oper} {d:Nat} {ty:TypeId} {pos:String} {aft:Array Edge} {gd:Option (Nat×Bool)}
variable {x y z:Operand} {t t2:TypeId}

def GQ (x:Int):Prop:= -9223372036854775808≤x∧x≤9223372036854775807
theorem AK {x:Int} (h:GQ x):IntKind.i64.wrap x=x:=by
  unfold GQ at h
  rw[IntKind.wrap_i64]; omega

theorem mv {v:Value} (hx:ev f x=v):
    RV P f w ⟨some d,.move x,ty,pos,aft,gd⟩ v:=RV.mk (by simp only[execOp,hx]; rfl)
theorem fW {v:Value} (hx:ev f x=v):
    RV P f w ⟨some d,.assign x,ty,pos,aft,gd⟩ v:=RV.mk (by simp only[execOp,hx]; rfl)
theorem pt {v:Value} (hc:ev f z=.bool true) (hx:ev f x=v):
    RV P f w ⟨some d,.pick z x y,ty,pos,aft,gd⟩ v:=RV.mk (by simp[execOp,hc,asBool,hx])
theorem pf {v:Value} (hc:ev f z=.bool false) (hy:ev f y=v):
    RV P f w ⟨some d,.pick z x y,ty,pos,aft,gd⟩ v:=RV.mk (by simp[execOp,hc,asBool,hy])

section
variable {a b:Int}
theorem add (hx:ev f x=.int .i64 a) (hy:ev f y=.int .i64 b) (hb:GQ (a+b)):
    RV P f w ⟨some d,.binOp .add t x y t2,ty,pos,aft,gd⟩ (.int .i64 (a+b)):=RV.mk (by simp[execOp,hx,hy,eqGuard,binOp,Op.intArith,AK hb])
theorem sub (hx:ev f x=.int .i64 a) (hy:ev f y=.int .i64 b) (hb:GQ (a-b)):
    RV P f w ⟨some d,.binOp .sub t x y t2,ty,pos,aft,gd⟩ (.int .i64 (a-b)):=RV.mk (by simp[execOp,hx,hy,eqGuard,binOp,Op.intArith,AK hb])
theorem mul (hx:ev f x=.int .i64 a) (hy:ev f y=.int .i64 b) (hb:GQ (a*b)):
    RV P f w ⟨some d,.binOp .mul t x y t2,ty,pos,aft,gd⟩ (.int .i64 (a*b)):=RV.mk (by simp[execOp,hx,hy,eqGuard,binOp,Op.intArith,AK hb])
theorem quo (hx:ev f x=.int .i64 a) (hy:ev f y=.int .i64 b) (ha:0≤a) (ha':a≤9223372036854775807) (hb:1≤b):
    RV P f w ⟨some d,.binOp .quo t x y t2,ty,pos,aft,gd⟩ (.int .i64 (a / b)):=by
  have RA:b≠0:=by omega
  have h1:0≤a / b:=Int.ediv_nonneg ha (by omega)
  have h2:a / b≤a:=Int.ediv_le_self b ha
  have hw:IntKind.i64.wrap (a.tdiv b)=a / b:=by
    rw[Int.tdiv_eq_ediv_of_nonneg ha]
    exact AK ⟨by omega,by omega⟩
  exact RV.mk (by simp[execOp,hx,hy,eqGuard,binOp,Op.intDiv,RA,hw])
theorem rem (hx:ev f x=.int .i64 a) (hy:ev f y=.int .i64 b) (ha:0≤a) (hb:1≤b):
    RV P f w ⟨some d,.binOp .rem t x y t2,ty,pos,aft,gd⟩ (.int .i64 (a % b)):=by
  have RA:b≠0:=by omega
  have hw:a.tmod b=a % b:=Int.tmod_eq_emod_of_nonneg ha
  exact RV.mk (by simp[execOp,hx,hy,eqGuard,binOp,Op.intDiv,RA,hw])
variable {k:IntKind}
theorem lss (hx:ev f x=.int k a) (hy:ev f y=.int k b):
    RV P f w ⟨some d,.binOp .lss t x y t2,ty,pos,aft,gd⟩ (.bool (decide (a<b))):=RV.mk (by simp[execOp,hx,hy,eqGuard,binOp,Op.intCmp])
theorem leq (hx:ev f x=.int k a) (hy:ev f y=.int k b):
    RV P f w ⟨some d,.binOp .leq t x y t2,ty,pos,aft,gd⟩ (.bool (decide (a≤b))):=RV.mk (by simp[execOp,hx,hy,eqGuard,binOp,Op.intCmp])
theorem gtr (hx:ev f x=.int k a) (hy:ev f y=.int k b):
    RV P f w ⟨some d,.binOp .gtr t x y t2,ty,pos,aft,gd⟩ (.bool (decide (b<a))):=RV.mk (by simp[execOp,hx,hy,eqGuard,binOp,Op.intCmp])
theorem geq (hx:ev f x=.int k a) (hy:ev f y=.int k b):
    RV P f w ⟨some d,.binOp .geq t x y t2,ty,pos,aft,gd⟩ (.bool (decide (b≤a))):=RV.mk (by simp[execOp,hx,hy,eqGuard,binOp,Op.intCmp])
theorem dO (hx:ev f x=.int k a) (hy:ev f y=.int k b):
    RV P f w ⟨some d,.binOp .eql t x y t2,ty,pos,aft,gd⟩ (.bool (decide (a=b))):=RV.mk (by simp[execOp,hx,hy,eqGuard,binOp,Op.intCmp]; rfl)
theorem nK (hx:ev f x=.int k a) (hy:ev f y=.int k b):
    RV P f w ⟨some d,.binOp .neq t x y t2,ty,pos,aft,gd⟩ (.bool (decide (a≠b))):=RV.mk (by simp[execOp,hx,hy,eqGuard,binOp,Op.intCmp,bne]; rfl)
end
theorem nt {b:Bool} (hx:ev f x=.bool b):
    RV P f w ⟨some d,.unOp .not t x,ty,pos,aft,gd⟩ (.bool (!b)):=RV.mk (by simp[execOp,hx,Op.unary])
theorem nd {p:Prop} [Decidable p] (hx:ev f x=.bool (decide p)):RV P f w ⟨some d,.unOp .not t x,ty,pos,aft,gd⟩ (.bool (decide (¬ p))):=by
  have:=nt (P:=P) (w:=w) (d:=d) (ty:=ty) (pos:=pos) (aft:=aft) (gd:=gd) (t:=t) hx
  rwa [show (!decide p)=decide (¬ p) from by simp]at this
theorem xt {vs:Array Value} {v:Value} (i:Nat) (hx:ev f x=.tuple vs) (hv:vs[i]?=some v):
    RV P f w ⟨some d,.extract x i,ty,pos,aft,gd⟩ v:=RV.mk (by simp[execOp,hx,Instr.extract,hv])
theorem mf {fn:Fn} {a c:List Operand}:
    RV P f w ⟨some d,.makeFunc fn a.toArray c.toArray,ty,pos,aft,gd⟩ (.func fn (a.map (ev f)).toArray (c.map (ev f)).toArray):=RV.mk (by simp[execOp,Instr.makeFunc])

def aA (l:aD):Value:=.string ⟨l.toArray⟩
theorem GD (l:aD):(ByteArray.mk l.toArray).size=l.length:=by simp[ByteArray.size]
section
variable {l m:aD}
theorem gG (ht:P.underlying t=some .string) (hx:ev f x=aA l):
    RV P f w ⟨some d,.call ⟨.builtin .len, #[x], #[t]⟩,ty,pos,aft,gd⟩ (.int .i64 l.length):=
  RV.mk (by simp[execOp,resolve,invoke,builtin,Builtin.len_,hx,aA,kQ ht,goInt,GD])
end
end


def j6 (w:World) (A:aM) (n c:Nat) (e:TypeId) (sz:Nat) (xs:cU):Prop:=
  xs.length=n*sz∧n≤c∧c≤maxLen∧
    (c=0∨ ∃ g cur,A=some ⟨g,0,none⟩∧w.heap[g]?=some (.cells cur e (0,0))∧cur.size=c*sz∧cur.toList.take (n*sz)=xs)

abbrev I (x:Int):Value:=.int .i64 x
structure Hd where
  A:aM
  c:Nat
  xs:aC
def Hd.has (u:Hd) (k:Nat):Prop:=u.c≠0∧ ∃ a,u.A=some a∧a.block=k
def Hd.row (w:World) (e:TypeId) (u:Hd):Prop:=j6 w u.A u.xs.length u.c e 1 (u.xs.map I)
inductive It where
  | blk (g:Nat) (t:TypeId) (cs:cU)
  | own (A:aM) (n c:Nat) (e:TypeId) (sz:Nat) (xs:cU)
  | rows (e:TypeId) (us:List Hd)

def It.has:It→Nat→Prop
  | .blk g _ _,k=>g=k
  | .own A _ c _ _ _,k=>c≠0∧ ∃ a,A=some a∧a.block=k
  | .rows _ us,k=>∃ u∈us,u.has k
def It.ok (w:World):It→Prop
  | .blk g t cs=>w.heap[g]?=some (.cells cs.toArray t (0,0))
  | .own A n c e sz xs=>j6 w A n c e sz xs
  | .rows e us=>(∀ u∈us,u.row w e)∧us.Pairwise fun a b=>∀ k,a.has k→ ¬ b.has k
theorem j6.lt {w:World} {A:aM} {n c:Nat} {e:TypeId} {sz:Nat} {xs:cU} (h:j6 w A n c e sz xs) {k:Nat} (hk:c≠0∧ ∃ a,A=some a∧a.block=k):k<w.heap.size:=by
  obtain ⟨hc,a,rfl,rfl⟩:=hk
  obtain ⟨_,_,_,h0 | ⟨g,cur,hA,hg,_⟩⟩:=h
  · exact absurd h0 hc
  · cases hA
    exact(Array.getElem?_eq_some_iff.1 hg).1
theorem j6.rC {w w':World} {A:aM} {n c:Nat} {e:TypeId} {sz:Nat} {xs:cU} (h:j6 w A n c e sz xs) (hk: ∀ k,(c≠0∧ ∃ a,A=some a∧a.block=k)→w'.heap[k]?=w.heap[k]?):j6 w' A n c e sz xs:=by
  obtain ⟨h1,h2,h3,h0 | ⟨g,cur,hA,hg,h4⟩⟩:=h
  · exact⟨h1,h2,h3,.inl h0⟩
  · by_cases hc:c=0
    · exact⟨h1,h2,h3,.inl hc⟩
    · exact⟨h1,h2,h3,.inr ⟨g,cur,hA,(hk g ⟨hc,_,hA,rfl⟩).trans hg,h4⟩⟩

theorem It.S1 {w:World} {i:It} (h:i.ok w) {k:Nat} (hk:i.has k):k<w.heap.size:=by
  cases i with
  | blk g t cs=>
    cases hk
    exact(Array.getElem?_eq_some_iff.1 h).1
  | own A n c e sz xs=>exact j6.lt h hk
  | rows e us=>
    obtain ⟨u,hu,hk⟩:=hk
    exact j6.lt (h.1 u hu) hk
theorem It.Qq {w w':World} {i:It} (h:i.ok w) (hk: ∀ k,i.has k→w'.heap[k]?=w.heap[k]?):i.ok w':=by
  cases i with
  | blk g t cs=>exact(hk g rfl).trans h
  | own A n c e sz xs=>exact j6.rC h hk
  | rows e us=>exact⟨fun u hu=>j6.rC (h.1 u hu) fun k hx=>hk k ⟨u,hu,hx⟩,h.2⟩

abbrev gD:=List It
structure SH (w0 w:World) (M:eP) (L:gD):Prop where
  os:w.os=w0.os
  tape:w.tape=w0.tape
  output:w.output=w0.output
  size:w0.heap.size≤w.heap.size
  rC: ∀ k,k<w0.heap.size→k ∉ M→w.heap[k]?=w0.heap[k]?
  ok: ∀ i∈L,i.ok w
  lo: ∀ i∈L,∀ k,i.has k→w0.heap.size≤k∨k∈M
  dis:L.Pairwise fun a b=>∀ k,a.has k→ ¬ b.has k

theorem SH.refl (w:World) (M:eP):SH w w M []:=
  ⟨rfl,rfl,rfl,lA _,fun _ _ _=>rfl,(by intro i h; cases h),(by intro i h; cases h),List.Pairwise.nil⟩
theorem SH.entry {w:World} {M:eP} {L:gD} (h: ∀ i∈L,i.ok w) (hM: ∀ i∈L,∀ k,i.has k→k∈M) (hd:L.Pairwise fun a b=>∀ k,a.has k→ ¬ b.has k):SH w w M L:=
  ⟨rfl,rfl,rfl,lA _,fun _ _ _=>rfl,h,fun i hi k hk=>.inr (hM i hi k hk),hd⟩
theorem SH.rS {w:World} {g:Nat} {t:TypeId} {cs:cU} (h:w.heap[g]?=some (.cells cs.toArray t (0,0))):SH w w [g] [.blk g t cs]:=
  SH.entry (by intro i hi; simp at hi; subst hi; exact h) (by intro i hi k hk; simp at hi; subst hi; cases hk; simp) (by simp)

section
variable {w0 w w1:World} {M:eP} {L:gD}

theorem SH.change (hs:SH w0 w M L) (K New:gD) (X:Nat→Prop) (hos:w1.os=w.os) (htape:w1.tape=w.tape) (hout:w1.output=w.output) (KH:w.heap.size≤w1.heap.size)
    (hkeep: ∀ k,k<w.heap.size→ ¬ X k→w1.heap[k]?=w.heap[k]?) (hK:K.Sublist L) (hKX: ∀ i∈K,∀ k,i.has k→ ¬ X k) (hX: ∀ k,X k→w0.heap.size≤k∨k∈M)
    (hok: ∀ i∈New,i.ok w1) (hlo: ∀ i∈New,∀ k,i.has k→X k∨w.heap.size≤k) (hdis:New.Pairwise fun a b=>∀ k,a.has k→ ¬ b.has k):SH w0 w1 M (K++New):=by
  refine⟨hos.trans hs.os,htape.trans hs.tape,hout.trans hs.output,cB hs.size KH,?_,?_,?_,?_⟩
  · intro k hk hM
    have hx: ¬ X k:=fun h=>by
      rcases hX k h with h | h
      · omega
      · exact hM h
    exact(hkeep k (LR hk hs.size) hx).trans (hs.rC k hk hM)
  · intro i hi
    rcases List.mem_append.1 hi with hi | hi
    · have h0:=hs.ok i (hK.subset hi)
      exact It.Qq h0 fun k hk=>hkeep k (It.S1 h0 hk) (hKX i hi k hk)
    · exact hok i hi
  · intro i hi k hk
    rcases List.mem_append.1 hi with hi | hi
    · exact hs.lo i (hK.subset hi) k hk
    · rcases hlo i hi k hk with h | h
      · exact hX k h
      · exact .inl (cB hs.size h)
  · refine List.pairwise_append.2 ⟨hs.dis.sublist hK,hdis,fun a ha b hb k hka hkb=>?_⟩
    rcases hlo b hb k hkb with h | h
    · exact hKX a ha k hka h
    · have:=It.S1 (hs.ok a (hK.subset ha)) hka
      omega

theorem ZH {L:gD} {i:Nat} {a:It} (h:L.Pairwise fun a b=>∀ k,a.has k→ ¬ b.has k) (hi:L[i]?=some a): ∀ b∈L.eraseIdx i,∀ k,b.has k→ ¬ a.has k:=by
  induction L generalizing i with
  | nil=>simp at hi
  | cons x L ih=>
    rw[List.pairwise_cons]at h
    cases i with
    | zero=>
      simp at hi
      subst hi
      intro b hb k hk hx
      simp at hb
      exact h.1 b hb k hx hk
    | succ i=>
      simp at hi
      intro b hb k hk ha
      simp only[List.eraseIdx_cons_succ,List.mem_cons]at hb
      rcases hb with rfl | hb
      · exact h.1 a (nQ hi) k hk ha
      · exact ih h.2 hi b hb k hk ha

theorem SH.write (hs:SH w0 w M L) (i:Nat) {it:It} (New:gD) (hi:L[i]?=some it) (hos:w1.os=w.os) (htape:w1.tape=w.tape) (hout:w1.output=w.output) (KH:w.heap.size≤w1.heap.size)
    (hkeep: ∀ k,k<w.heap.size→ ¬ it.has k→w1.heap[k]?=w.heap[k]?) (hok: ∀ i∈New,i.ok w1) (hlo: ∀ i∈New,∀ k,i.has k→it.has k∨w.heap.size≤k)
    (hdis:New.Pairwise fun a b=>∀ k,a.has k→ ¬ b.has k):SH w0 w1 M (L.eraseIdx i++New):=
  hs.change _ New it.has hos htape hout KH hkeep (List.eraseIdx_sublist L i) (ZH hs.dis hi) (hs.lo it (nQ hi)) hok hlo hdis
theorem SH.more (hs:SH w0 w M L) (New:gD) (hos:w1.os=w.os) (htape:w1.tape=w.tape) (hout:w1.output=w.output) (KH:w.heap.size≤w1.heap.size)
    (hkeep: ∀ k,k<w.heap.size→w1.heap[k]?=w.heap[k]?) (hok: ∀ i∈New,i.ok w1) (hlo: ∀ i∈New,∀ k,i.has k→w.heap.size≤k)
    (hdis:New.Pairwise fun a b=>∀ k,a.has k→ ¬ b.has k):SH w0 w1 M (L++New):=
  hs.change L New (fun _=>False) hos htape hout KH (fun k hk _=>hkeep k hk) (List.Sublist.refl _) (fun _ _ _ _ h=>h) (fun _ h=>h.elim) hok (fun i hi k hk=>.inr (hlo i hi k hk)) hdis
theorem SH.cJ {L':gD} (hs:SH w0 w M L) (hc:SH w w1 [] L'):SH w0 w1 M (L++L'):=
  hs.more L' hc.os hc.tape hc.output hc.size (fun k hk=>hc.rC k hk (by simp)) hc.ok (fun i hi k hk=>by
    rcases hc.lo i hi k hk with h | h
    · exact h
    · cases h) hc.dis
theorem SH.xR {L':gD} {M':eP} (hs:SH w0 w M L) (i:Nat) {it:It} (hi:L[i]?=some it) (hc:SH w w1 M' L') (hM: ∀ k∈M',it.has k):SH w0 w1 M (L.eraseIdx i++L'):=
  hs.write i L' hi hc.os hc.tape hc.output hc.size (fun k hk hn=>hc.rC k hk (fun h=>hn (hM k h))) hc.ok (fun j hj k hk=>by
    rcases hc.lo j hj k hk with h | h
    · exact .inr h
    · exact .inl (hM k h)) hc.dis
theorem SH.drew (hs:SH w0 w M L):SH w0 w.drew M L:=by
  have:=hs.more (w1:=w.drew) [] rfl rfl rfl (lA _) (fun _ _=>rfl) (by simp) (by simp) .nil
  simpa using this
theorem SH.weaken {L':gD} (hs:SH w0 w M L) (h:L'.Sublist L):SH w0 w M L':=
  ⟨hs.os,hs.tape,hs.output,hs.size,hs.rC,fun i hi=>hs.ok i (h.subset hi),fun i hi=>hs.lo i (h.subset hi),hs.dis.sublist h⟩
end

def Sl (w:World) (X:eP) (sz:Nat) (A:aM) (n c:Nat) (xs:cU):Prop:=
  xs.length=n*sz∧n≤c∧c≤maxLen∧(0<n→ ∃ a,A=some a∧a.block<w.heap.size∧a.block ∉ X∧ ∀ j u,xs[j]?=some u→w.cell? (a.add j)=some u)
def PA (w:World) (X:eP) (a:Addr) (us:cU):Prop:=
  a.block<w.heap.size∧a.block ∉ X∧ ∀ j u,us[j]?=some u→w.cell? (a.add j)=some u

theorem block_add (a:Addr) (n:Nat):(a.add n).block=a.block:=by unfold Addr.add; split <;> rfl
theorem add_add (a:Addr) (i j:Nat):(a.add i).add j=a.add (i+j):=by
  unfold Addr.add
  by_cases hi:i=0 <;> by_cases hj:j=0 <;> simp[hi,hj,Nat.add_assoc]
theorem UG (g j:Nat):(⟨g,0,none⟩:Addr).add j=⟨g,j,none⟩:=by unfold Addr.add; split <;> simp_all

section
variable {w0 w w1:World} {M X Y:eP} {L:gD} {sz n c:Nat} {A:aM} {xs:cU}
theorem Sl.nil:Sl w X sz none 0 0 []:=⟨by simp,lA _,yX _,fun h=>by omega⟩
theorem Sl.len (h:Sl w X sz A n c xs):xs.length=n*sz:=h.1
theorem Sl.cap (h:Sl w X sz A n c xs):n≤c:=h.2.1
theorem Sl.cO (h:Sl w X sz A n c xs):c≤maxLen:=h.2.2.1
theorem Sl.at_ (h:Sl w X sz A n c xs) {i:Nat} (hi:i<n): ∃ a,A=some a∧PA w X (a.add (i*sz)) ((xs.drop (i*sz)).take sz):=by
  obtain ⟨a,rfl,hb,hx,hc⟩:=h.2.2.2 (by omega)
  refine⟨a,rfl,by rw[block_add]; exact hb,by rw[block_add]; exact hx,fun j u hu=>?_⟩
  rw[add_add]
  refine hc _ u ?_
  rw[D2]at hu
  split at hu
  · rwa [D3]at hu
  · cases hu
theorem Sl.mono (h:Sl w X sz A n c xs) (hY: ∀ k∈Y,k∈X):Sl w Y sz A n c xs:=
  ⟨h.1,h.2.1,h.2.2.1,fun hn=>by
    obtain ⟨a,e,hb,hx,hc⟩:=h.2.2.2 hn
    exact⟨a,e,hb,fun hk=>hx (hY _ hk),hc⟩⟩
theorem Sl.up (h:Sl w0 X sz A n c xs) (hs:SH w0 w M L) (hM: ∀ k∈M,k∈X) (hY: ∀ k∈Y,k∈X∨w0.heap.size≤k):Sl w Y sz A n c xs:=
  ⟨h.1,h.2.1,h.2.2.1,fun hn=>by
    obtain ⟨a,e,hb,hx,hc⟩:=h.2.2.2 hn
    refine⟨a,e,LR hb hs.size,fun hk=>?_,fun j u hu=>?_⟩
    · rcases hY _ hk with h | h
      · exact hx h
      · omega
    · rw[World.cell?_of_block (w:=w0) (by rw[block_add]; exact hs.rC a.block hb (fun hk=>hx (hM _ hk)))]
      exact hc j u hu⟩
theorem Sl.cut (h:Sl w X sz A n c xs) {lo hi:Nat} (h1:lo≤hi) (h2:hi≤n):Sl w X sz (if c=lo then A else A.map (·.add (lo*sz))) (hi-lo) (c-lo) ((xs.drop (lo*sz)).take ((hi-lo)*sz)):=by
  have hl:=h.1
  have hc:=h.2.1
  have hm:=h.2.2.1
  have hle:(hi-lo)*sz≤n*sz-lo*sz:=by rw[← Nat.sub_mul]; exact Nat.mul_le_mul_right _ (by omega)
  refine⟨by simp[hl]; omega,by omega,by omega,fun hn=>?_⟩
  obtain ⟨a,rfl,hb,hx,hcell⟩:=h.2.2.2 (by omega)
  rw[b0 (by omega)]
  refine⟨a.add (lo*sz),rfl,by rw[block_add]; exact hb,by rw[block_add]; exact hx,fun j u hu=>?_⟩
  rw[add_add]
  refine hcell _ u ?_
  rw[D2]at hu
  split at hu
  · rwa [D3]at hu
  · cases hu
theorem PA.up {a:Addr} {us:cU} (h:PA w0 X a us) (hs:SH w0 w M L) (hM: ∀ k∈M,k∈X) {j:Nat} {u:Value} (hu:us[j]?=some u):w.cell? (a.add j)=some u:=by
  rw[World.cell?_of_block (w:=w0) (by rw[block_add]; exact hs.rC a.block h.1 (fun hk=>h.2.1 (hM _ hk)))]
  exact h.2.2 j u hu
theorem j6.sl {e:TypeId} (h:j6 w A n c e sz xs) (hX: ∀ k∈X,∀ a,c≠0→A=some a→a.block≠k):Sl w X sz A n c xs:=by
  obtain ⟨h1,h2,h3,h0 | ⟨g,cur,rfl,hg,hcs,htake⟩⟩:=h
  · exact⟨h1,h2,h3,fun hn=>by omega⟩
  · refine⟨h1,h2,h3,fun hn=>⟨_,rfl,(Array.getElem?_eq_some_iff.1 hg).1,fun hk=>hX _ hk _ (by omega) rfl rfl,fun j u hu=>?_⟩⟩
    rw[UG,cell_of_row w g j cur e (0,0) hg]
    rw[← htake,D2]at hu
    split at hu
    · simpa using hu
    · cases hu
theorem SH.sl (hs:SH w0 w M L) (i:Nat) {e:TypeId} (hi:L[i]?=some (.own A n c e sz xs)) (hX: ∀ k∈X,∃ b∈L.eraseIdx i,b.has k):Sl w X sz A n c xs:=
  j6.sl (hs.ok _ (nQ hi)) fun k hk a hc hA hak=>by
    obtain ⟨b,hb,hbk⟩:=hX k hk
    exact ZH hs.dis hi b hb k hbk ⟨hc,a,hA,hak⟩
theorem SH.cI (hs:SH w0 w M L) (i:Nat) {e:TypeId} (hi:L[i]?=some (.own A n c e sz xs)):Sl w [] sz A n c xs:=hs.sl i hi (by simp)
end

def mC (P:Program) (s:TypeId) (i off:Nat):Bool:=
  match P.underlying s with
  | some (.struct fs)=>match fs[i]? with
    | some f=>f.offset == off && (match P.info? f.type with | some j=>j.size != 0 | none=>false)
    | none=>false
  | _=>false
def m8 (P:Program) (t:TypeId):Bool:=
  match P.underlying t with
  | some (.struct _) | some (.array _ _) | none=>false
  | _=>match P.info? t with | some j=>j.size == 1 | none=>false
def qF (P:Program) (t:TypeId) (n:Nat):Bool:=
  (match P.underlying t with
  | some (.struct _) | some (.array _ _)=>true
  | _=>false) && (match P.info? t with | some j=>j.size == n | none=>false)
structure jW (P:Program) (t e sz by_:Nat) (z:Value):Prop where
  und:P.underlying t=some (.slice e)
  inf: ∃ i,P.info? e=some i∧i.zero=some z∧i.size=sz∧i.bytes=by_
theorem jW.mk' {P:Program} {t e sz by_:Nat} {z:Value} (h:P.underlying t=some (.slice e)) (hi:(P.info? e).map (fun i=>(i.zero,i.size,i.bytes))=some (some z,sz,by_)):jW P t e sz by_ z:=by
  cases hp:P.info? e with
  | none=>rw[hp]at hi; cases hi
  | some i=>
    rw[hp]at hi
    simp at hi
    exact⟨h,i,hp,hi.1,hi.2.1,hi.2.2⟩

section
variable {P:Program} {N:Nat} {Q:Po} {f:Fr} {w0 w:World} {M:eP} {L:gD} {ops:Array Oper} {rest:List Oper} {d:Nat} {ty:TypeId} {pos:String} {aft:Array Edge} {gd:Option (Nat×Bool)}
variable {x y z:Operand} {t t2:TypeId}

theorem nc {a:Addr} (hx:ev f x=.pointer (some a)):
    RV P f w ⟨some d,.nilCheck x,ty,pos,aft,gd⟩ (.pointer (some a)):=RV.mk (by simp[execOp,hx])
theorem Al {s:TypeId} {i off:Nat} (hf:mC P s i off=true) (a:Addr) (w:World):(Instr.fieldAt s (.pointer (some a)) i).run P w=.ok (.pointer (some (a.add off))) w:=by
  unfold mC at hf
  split at hf
  · rename_i fs hu
    split at hf
    · rename_i fl hfl
      split at hf
      · rename_i j hj
        simp at hf
        obtain ⟨h1,h2⟩:=hf
        subst h1
        simp[Instr.fieldAt,kQ hu,hfl,Instr.sureAddr,fieldPlace,sizeOf,typeInfo,hj,h2]
      · simp at hf
    · cases hf
  · cases hf
theorem fa {i:Nat} (off:Nat) {g o:Nat} (hf:mC P t i off=true) (hx:ev f x=.pointer (some ⟨g,o,none⟩)):
    RV P f w ⟨some d,.fieldAddr t x i,ty,pos,aft,gd⟩ (.pointer (some ⟨g,o+off,none⟩)):=
  RV.mk (by simp[execOp,hx,Al hf,Addr.add_lit])

theorem Sn (h:m8 P t=true) (w:World):(isAgg t).run P w=.ok false w:=by
  unfold m8 at h
  cases hu:P.underlying t with
  | none=>rw[hu]at h; cases h
  | some u=>cases u <;> simp_all [isAgg,kQ hu]
theorem Bs (h:m8 P t=true) (w:World):(sizeOf t).run P w=.ok 1 w:=by
  unfold m8 at h
  split at h
  · cases h
  · cases h
  · cases h
  · split at h
    · rename_i j hj
      simp at h
      simp[sizeOf,typeInfo,hj,h]
    · cases h
theorem O6 (h:m8 P t=true) {a:Addr} {v:Value} (hc:w.cell? a=some v):(loadVar t a).run P w=.ok v w:=by
  simp[loadVar,Sn h,hc]
theorem Sm {n:Nat} (h:qF P t n=true) (w:World):(isAgg t).run P w=.ok true w:=by
  unfold qF at h
  simp only[iF]at h
  cases hu:P.underlying t with
  | none=>rw[hu]at h; cases h.1
  | some u=>cases u <;> simp_all [isAgg,kQ hu]
theorem Br {n:Nat} (h:qF P t n=true) (w:World):(sizeOf t).run P w=.ok n w:=by
  unfold qF at h
  simp only[iF]at h
  obtain ⟨_,h⟩:=h
  split at h
  · rename_i j hj
    simp at h
    simp[sizeOf,typeInfo,hj,h]
  · cases h
theorem TB {n:Nat} (h:qF P t n=true) {a:Addr} {cs:cU} (hn:cs.length=n) (hc: ∀ j u,cs[j]?=some u→w.cell? (a.add j)=some u):(loadVar t a).run P w=.ok (.agg cs.toArray) w:=by
  subst hn
  simp[loadVar,Sm h,Br h,run_loadCells_list w a cs hc]

theorem MO {g:Nat} {u:TypeId} {cs:cU} (hs:SH w0 w M L) (i:Nat) (hi:L[i]?=some (.blk g u cs)) (o:Nat):w.cell? ⟨g,o,none⟩=cs[o]?:=by
  have:=cell_of_row w g o cs.toArray u (0,0) (hs.ok _ (nQ hi))
  simpa using this
theorem Gb {g:Nat} {u:TypeId} {cs:cU} (hs:SH w0 w M L) (i:Nat) (hi:L[i]?=some (.blk g u cs)) (o:Nat):w.frozen? ⟨g,o,none⟩=false:=by
  have h:w.heap[g]?=_:=hs.ok _ (nQ hi)
  simp[World.frozen?,h]

theorem ld {g o:Nat} {u:TypeId} {cs:cU} {v:Value} (hs:SH w0 w M L) (i:Nat) (hi:L[i]?=some (.blk g u cs)) (hx:ev f x=.pointer (some ⟨g,o,none⟩)) (hc:cs[o]?=some v) (h1:m8 P t=true):
    RV P f w ⟨some d,.load t x,ty,pos,aft,gd⟩ v:=
  RV.mk (by simp[execOp,hx,Instr.loadAt,Instr.sureAddr,O6 h1 ((MO hs i hi o).trans hc)])
theorem XY {g o n:Nat} {u:TypeId} {cs vs:cU} (hs:SH w0 w M L) (i:Nat) (hi:L[i]?=some (.blk g u cs)) (hx:ev f x=.pointer (some ⟨g,o,none⟩)) (hc:(cs.drop o).take n=vs) (hn:vs.length=n) (h1:qF P t n=true):
    RV P f w ⟨some d,.load t x,ty,pos,aft,gd⟩ (.agg vs.toArray):=
  RV.mk (by
    have:=TB (P:=P) (w:=w) h1 (a:=⟨g,o,none⟩) (cs:=vs) hn (fun j u hu=>by
      rw[Addr.add_lit,MO hs i hi]
      rw[← hc,D2]at hu
      split at hu
      · rwa [D3]at hu
      · cases hu)
    simp[execOp,hx,Instr.loadAt,Instr.sureAddr,this])
theorem eW {X:eP} {a:Addr} {us:cU} {v:Value} (hs:SH w0 w M L) (ha:PA w0 X a us) (hM: ∀ k∈M,k∈X) (hx:ev f x=.pointer (some a)) (hc:us[0]?=some v) (h1:m8 P t=true):
    RV P f w ⟨some d,.load t x,ty,pos,aft,gd⟩ v:=
  RV.mk (by
    have WE:=ha.up hs hM hc
    rw[Addr.add_zero']at WE
    simp[execOp,hx,Instr.loadAt,Instr.sureAddr,O6 h1 WE])
theorem KN {X:eP} {a:Addr} {us:cU} {n:Nat} (hs:SH w0 w M L) (ha:PA w0 X a us) (hM: ∀ k∈M,k∈X) (hx:ev f x=.pointer (some a)) (hn:us.length=n) (h1:qF P t n=true):
    RV P f w ⟨some d,.load t x,ty,pos,aft,gd⟩ (.agg us.toArray):=
  RV.mk (by
    have:=TB (P:=P) (w:=w) h1 (a:=a) (cs:=us) hn (fun j u hu=>ha.up hs hM hu)
    simp[execOp,hx,Instr.loadAt,Instr.sureAddr,this])

theorem Uv {g o:Nat} {u:TypeId} {cs:cU} (h:w.heap[g]?=some (.cells cs.toArray u (0,0))) (v:Value):(w.setCell ⟨g,o,none⟩ v).heap[g]?=some (.cells (cs.set o v).toArray u (0,0)):=by
  simp[World.setCell,LO,h]
theorem SH.set {g o:Nat} {u:TypeId} {cs:cU} (hs:SH w0 w M L) (i:Nat) (hi:L[i]?=some (.blk g u cs)) (v:Value):SH w0 (w.setCell ⟨g,o,none⟩ v) M (L.eraseIdx i++[.blk g u (cs.set o v)]):=
  hs.write i [.blk g u (cs.set o v)] hi rfl rfl rfl (by simp[World.setCell]) (fun k _ hn=>Below.heap_setCell _ _ _ _ (fun e=>hn (by rw[e]; rfl)))
    (by intro j hj; simp at hj; subst hj; exact Uv (hs.ok _ (nQ hi)) v) (by intro j hj k hk; simp at hj; subst hj; exact .inl hk) (by simp)
theorem st {g o:Nat} {u:TypeId} {cs:cU} {v:Value} (hs:SH w0 w M L) (i:Nat) (hi:L[i]?=some (.blk g u cs)) (hx:ev f x=.pointer (some ⟨g,o,none⟩)) (hy:ev f y=v) (ho:Nat.blt o cs.length=true) (hv:v.oneCell'=true) (h1:m8 P t=true)
    (hg:On ops f gd) (h: ∀ w1,SH w0 w1 M (L.eraseIdx i++[.blk g u (cs.set o v)])→WL P N ops Q rest f w1):
    WL P N ops Q (⟨none,.store t x y,ty,pos,aft,gd⟩::rest) f w:=
  WL.OP hg rfl (w':=w.setCell ⟨g,o,none⟩ v) (by
    have ho':o<cs.length:=by simpa [Nat.blt_eq] using ho
    have hcell:w.cell? ⟨g,o,none⟩=some cs[o]:=(MO hs i hi o).trans (wH ho')
    have hfz:=Gb hs i hi o
    have rY:(store ⟨g,o,none⟩ v).run P w=.ok () (w.setCell ⟨g,o,none⟩ v):=by
      rw[run_store P w _ v _ hv]
      simp[hcell,hfz]
    have hvc:v.cells= #[v]:=by cases v <;> first | (simp[Value.oneCell']at hv; done) | rfl
    simp[execOp,hx,hy,Instr.storeAt,Instr.sureAddr,storeVar,Bs h1,hvc,storeCells,Addr.add_zero',rY]) (h _ (hs.set i hi v))
end

section
variable {P:Program} {N:Nat} {Q:Po} {f:Fr} {w0 w:World} {M:eP} {L:gD} {ops:Array Oper} {rest:List Oper} {d:Nat} {ty:TypeId} {pos:String} {aft:Array Edge} {gd:Option (Nat×Bool)}
variable {x y z:Operand} {t t2:TypeId}

theorem SH.alloc (hs:SH w0 w M L) (e:TypeId) (cs:cU):SH w0 (w.alloc (.cells cs.toArray e)) M (L++[.blk w.heap.size e cs]):=
  hs.more [.blk w.heap.size e cs] rfl rfl rfl (by simp) (fun k hk=>Below.heap_alloc _ _ _ hk) (by intro i hi; simp at hi; subst hi; exact GX w _)
    (by intro i hi k hk; simp at hi; subst hi; cases hk; exact lA _) (by simp)
theorem Qy (w:World) (e:TypeId) (sz n:Nat) (cs:cU) (hl:cs.length=n*sz) (hm:n≤maxLen):j6 (w.alloc (.cells cs.toArray e)) (some ⟨w.heap.size,0,none⟩) n n e sz cs:=
  ⟨hl,lA _,hm,.inr ⟨_,_,rfl,GX w _,by simpa using hl,by simp[← hl]⟩⟩
theorem SH.UO (hs:SH w0 w M L) (e:TypeId) (sz n:Nat) (cs:cU) (hl:cs.length=n*sz) (hm:n≤maxLen):
    SH w0 (w.alloc (.cells cs.toArray e)) M (L++[.own (some ⟨w.heap.size,0,none⟩) n n e sz cs]):=
  hs.more [_] rfl rfl rfl (by simp) (fun k hk=>Below.heap_alloc _ _ _ hk) (by intro i hi; simp at hi; subst hi; exact Qy w e sz n cs hl hm)
    (by
      intro i hi k hk
      simp at hi
      subst hi
      obtain ⟨_,a,ha,hk⟩:=hk
      cases ha
      exact Nat.le_of_eq hk) (by simp)

theorem bx {e:TypeId} {v:Value} {cs:cU} (hs:SH w0 w M L) (hx:ev f x=v) (hc:v.cells=cs.toArray) (hg:On ops f gd) (hd:Nat.blt d N=true)
    (h: ∀ g w1,SH w0 w1 M (L++[.blk g e cs])→WL P N ops Q rest (fY f d (.pointer (some ⟨g,0,none⟩))) w1):WL P N ops Q (⟨some d,.box e x,ty,pos,aft,gd⟩::rest) f w:=
  WL.op hg rfl hd (w':=w.alloc (.cells cs.toArray e)) (by simp[execOp,hx,Instr.box,newVar,newRow,hc]) (h _ _ (hs.alloc e cs))
theorem al {e:TypeId} {v:Value} {cs:cU} (hs:SH w0 w M L) (hz:(P.info? e).bind (·.zero)=some v) (hc:v.cells=cs.toArray) (hg:On ops f gd) (hd:Nat.blt d N=true)
    (h: ∀ g w1,SH w0 w1 M (L++[.blk g e cs])→WL P N ops Q rest (fY f d (.pointer (some ⟨g,0,none⟩))) w1):WL P N ops Q (⟨some d,.alloc e,ty,pos,aft,gd⟩::rest) f w:=
  WL.op hg rfl hd (w':=w.alloc (.cells cs.toArray e)) (by
    cases hi:P.info? e with
    | none=>rw[hi]at hz; cases hz
    | some i=>
      rw[hi]at hz
      have hz':i.zero=some v:=hz
      simp[execOp,Instr.alloc,zeroValue,typeInfo,hi,hz',newVar,newRow,hc]) (h _ _ (hs.alloc e cs))
theorem bs {parts:List (Nat×Operand)} {e sz b n:Nat} {z:Value} {cs:cU} (hs:SH w0 w M L) (hT:jW P t e sz b z) (vs:List (Nat×Value)) (hp:parts.map (fun p=>(p.1,ev f p.2))=vs)
    (hf:Instr.fill (fun i=>some (i*sz,sz)) ((Array.range (n*sz)).map ((if n*sz=0 then #[] else z.cells)[· % (if n*sz=0 then(#[]:Array Value) else z.cells).size]!)) vs=some cs.toArray) (hl:cs.length=n*sz) (hn:n*sz≤65536) (lQ:0<sz)
    (hg:On ops f gd) (hd:Nat.blt d N=true)
    (h: ∀ g w1,SH w0 w1 M (L++[.own (some ⟨g,0,none⟩) n n e sz cs])→WL P N ops Q rest (fY f d (.slice (some ⟨g,0,none⟩) n n)) w1):WL P N ops Q (⟨some d,.buildSlice t n parts.toArray,ty,pos,aft,gd⟩::rest) f w:=
  WL.op hg rfl hd (w':=w.alloc (.cells cs.toArray e)) (by
    have hp':(parts.map fun(i,x)=>(i,ev f x))=vs:=hp
    obtain ⟨i,hi,hz,h1,_⟩:=hT.inf
    subst h1
    have Jw: ¬ (n*i.size>2 ^ 24):=by omega
    simp only[execOp,List.map_toArray,hp',Instr.buildSlice,Sem.run_bind,kQ hT.und,Result.andThen_ok,sizeOf,typeInfo,program,Sem.run,hi,Sem.run_pure,Jw,if_false]
    by_cases h0:n*i.size=0
    · have hf':=hf
      rw[cF h0]at hf'
      rw[cF h0]
      simp only[Sem.run_pure,Result.andThen_ok,Sem.run_bind,hf',newRow,newObj]
      rfl
    · have hf':=hf
      rw[b0 h0]at hf'
      rw[b0 h0]
      simp only[Sem.run_pure,Result.andThen_ok,Sem.run_bind,zeroValue,typeInfo,program,Sem.run,hi,hz,hf',newRow,newObj]
      rfl) (h _ _ (hs.UO e sz n cs hl (by
        have:n≤n*sz:=Nat.le_mul_of_pos_right _ lQ
        unfold maxLen; omega)))
theorem mk {e b:Nat} {z:Value} {n:Nat} (hs:SH w0 w M L) (hT:jW P t e 1 b z) (hz:z.cells= #[z]) (hx:ev f x=.int .i64 n) (hy:ev f y=.int .i64 n) (hn:b*n≤281474976710656) (hm:n≤maxLen) (hg:On ops f gd) (hd:Nat.blt d N=true)
    (h: ∀ g w1,SH w0 w1 M (L++[.own (some ⟨g,0,none⟩) n n e 1 (List.replicate n z)])→WL P N ops Q rest (fY f d (.slice (some ⟨g,0,none⟩) n n)) w1):WL P N ops Q (⟨some d,.makeSlice t x y,ty,pos,aft,gd⟩::rest) f w:=by
  obtain ⟨i,hi,hzi,h1,h2⟩:=hT.inf
  subst h2
  have qZ:(n:Int)≤9223372036854775807:=by unfold maxLen at hm; omega
  have hb':(i.bytes:Int)*(n:Int)≤281474976710656:=by
    have h:((i.bytes*n:Nat):Int)≤281474976710656:=by omega
    rwa [Int.natCast_mul]at h
  have hr:=run_make (P:=P) w t e i z hT.und hi hzi .i64 .i64 n n (by omega) (Int.le_refl _) hb' qZ
  simp only[Int.toNat_natCast,h1,CB,hz]at hr
  have hcells:madeCells #[z] n=(List.replicate n z).toArray:=by
    rw[← toList_madeCells_one]
  rw[hcells]at hr
  exact WL.op hg rfl hd (w':=w.alloc (.cells (List.replicate n z).toArray e)) (by simp[execOp,hx,hy,hr]) (h _ _ (hs.UO e 1 n _ (by simp) hm))

theorem Sc {ty e:TypeId} {i:TypeInfo} {zv:Value} (ht:P.underlying t=some (.slice e)) (hi:P.info? e=some i) (hz:i.zero=some zv)
    (A:aM) (a:Addr) (n c:Nat) (news:cU) (hl:news.length=n*i.size) (hnews: ∀ j v,news[j]?=some v→w.cell? (a.add j)=some v)
    (h0:0<n) (qZ:(n:Int)≤9223372036854775807) (Jl:n*i.bytes≤281474976710656):
    (Builtin.append_ #[t,t] ty #[.slice A 0 0,.slice (some a) n c]).run P w=
      .ok (.slice (some ⟨w.heap.size,0,none⟩) n (grownCap w n 0 e)) (w.drew.alloc (.cells (news.toArray++Builtin.zeroCells zv.cells (grownCap w n 0 e-n)) e)):=by
  have hn:n≠0:=by omega
  have J8: ¬ (9223372036854775807<(n:Int)):=by omega
  have Q6: ¬ (281474976710656<Builtin.nextslicecap n 0*i.bytes):=by rw[nextslicecap_zero h0]; omega
  have hf:=run_firstCells_some (P:=P) w.drew i.size n a n c news hl (by simpa using hnews)
  have RE:(Builtin.firstCells i.size 0 (.slice A 0 0)).run P w.drew=.ok #[] w.drew:=by
    cases A <;> simp[Builtin.firstCells,loadCells,loadCellsFrom]
  simp[Builtin.append_,kQ ht,sizeOf,typeInfo,zeroValue,hi,hz,Builtin.lenOf,hn,J8,Q6,Question.forced,RE,hf,newRow,grownCap]

theorem Se {ty e:TypeId} {i:TypeInfo} (ht:P.underlying t=some (.slice e)) (hi:P.info? e=some i) (A:aM) (n c c2:Nat) (hc:n≤c):(Builtin.append_ #[t,t] ty #[.slice A n c,.slice none 0 c2]).run P w=.ok (.slice A n c) w:=by
  cases A <;> simp[Builtin.append_,kQ ht,sizeOf,typeInfo,hi,Builtin.lenOf,Builtin.firstCells,hc,storeCells]
theorem Sg {ty e:TypeId} {i:TypeInfo} (ht:P.underlying t=some (.slice e)) (hi:P.info? e=some i) (A:aM) (a:Addr) (n c c2:Nat) (hc:n≤c):(Builtin.append_ #[t,t] ty #[.slice A n c,.slice (some a) 0 c2]).run P w=.ok (.slice A n c) w:=by
  cases A <;> simp[Builtin.append_,kQ ht,sizeOf,typeInfo,hi,Builtin.lenOf,Builtin.firstCells,loadCells,loadCellsFrom,hc,storeCells]

theorem Sb {ty e sz b n c m c2:Nat} {z:Value} {A A2:aM} {xs news:cU} (hT:jW P t e sz b z) (hzs:z.cells.size=sz) (lQ:0<sz) (ho:j6 w A n c e sz xs) (hS:Sl w [] sz A2 m c2 news)
    (h1: ∀ u∈news,u.oneCell'=true) (qZ:n+m≤maxLen) (hb:(n+m)*b≤140737488355328):
    ∃ A' c' w1,(Builtin.append_ #[t,t] ty #[.slice A n c,.slice A2 m c2]).run P w=.ok (.slice A' (n+m) c') w1∧j6 w1 A' (n+m) c' e sz (xs++news)∧
      w1.os=w.os∧w1.tape=w.tape∧w1.output=w.output∧w.heap.size≤w1.heap.size∧(∀ k,k<w.heap.size→ ¬ (It.own A n c e sz xs).has k→w1.heap[k]?=w.heap[k]?)∧
      ∀ k,(It.own A' (n+m) c' e sz (xs++news)).has k→(It.own A n c e sz xs).has k∨w.heap.size≤k:=by
  obtain ⟨i,hi,hz,NR,hbi⟩:=hT.inf
  subst NR
  subst hbi
  rcases wI m with hm | hm
  · subst hm
    have HX:news=[]:=vO (by simpa using hS.1)
    subst HX
    refine⟨A,c,w,?_,by simpa using ho,rfl,rfl,rfl,lA _,fun _ _ _=>rfl,fun k hk=>.inl (by simpa [It.has] using hk)⟩
    rcases A2 with _ | a
    · exact Se hT.und hi A n c c2 ho.2.1
    · exact Sg hT.und hi A a n c c2 ho.2.1
  · obtain ⟨a,rfl,_,_,hcell⟩:=hS.2.2.2 hm
    obtain ⟨o1,o2,o3,o4⟩:=ho
    by_cases hc:c=0
    · subst hc
      have hn:n=0:=by omega
      subst hn
      have hx:xs=[]:=vO (by simpa using o1)
      subst hx
      have hmx:m≤maxLen:=by omega
      have hr:=Sc (P:=P) (w:=w) (t:=t) (ty:=ty) hT.und hi hz A a m c2 news hS.1 hcell hm (by unfold maxLen at hmx; omega) (by simp only[pT]at hb; omega)
      have hge:=grownCap_ge w m 0 e
      have hcm:grownCap w m 0 e≤maxLen:=LQ w m 0 e hmx
      refine⟨_,_,_,by simpa using hr,⟨by simpa using hS.1,by simpa using hge,hcm,.inr ⟨_,_,rfl,GX w.drew _,?_,?_⟩⟩,rfl,rfl,rfl,by simp,fun k hk _=>(Below.heap_alloc w.drew _ k hk),fun k hk=>.inr ?_⟩
      · simp only[LU,xG,size_zeroCells,hzs,hS.1,← Nat.add_mul]
        congr 1
        omega
      · simp only[LP,List.nil_append,pT,← hS.1]
        exact GY
      · obtain ⟨_,a',ha',hk⟩:=hk
        cases ha'
        exact Nat.le_of_eq hk
    · obtain ⟨g,cur,rfl,hg,hcs,htake⟩:=o4.resolve_left hc
      have hown:w.ownsRow 0 e i.size (.slice (some ⟨g,0,none⟩) n c) n xs:=⟨o1,.inr ⟨g,c,cur,rfl,yX _,hg,o2,o3,hcs,htake⟩⟩
      obtain ⟨v',w',hrun,h2,h3,_,h5⟩:=run_append_own_at (P:=P) w 0 t ty e i z i.size i.bytes hT.und hi hz rfl rfl hzs lQ _ n xs hown a m c2 news hS.1 hcell h1 qZ hb (yX _)
      rcases h2.2 with ⟨hv,hnm⟩ | ⟨g',cap,cur',hv,_,hg',hle,hcap,Kz,htk⟩
      · omega
      · subst hv
        refine⟨_,_,w',hrun,⟨h2.1,hle,hcap,.inr ⟨g',cur',rfl,hg',Kz,htk⟩⟩,h3.os,h3.tape,h3.output,h3.size,fun k hk hn=>h3.block k hk (fun hk'=>hn ⟨hc,_,rfl,?_⟩),fun k hk=>?_⟩
        · simp[Value.ownBlock]at hk'
          exact hk'.symm
        · obtain ⟨_,a',ha',hk⟩:=hk
          cases ha'
          simp[Value.ownBlock]at h5 hk
          rcases h5 with h5 | h5
          · exact .inl ⟨hc,_,rfl,by show g=k; omega⟩
          · exact .inr (by omega)

theorem ap {e sz b n c m c2:Nat} {z':Value} {A A2:aM} {xs news:cU} (hs:SH w0 w M L) (i:Nat) (hi:L[i]?=some (.own A n c e sz xs)) (hT:jW P t e sz b z') (hzs:z'.cells.size=sz) (lQ:0<sz)
    (hx:ev f x=.slice A n c) (hy:ev f y=.slice A2 m c2) (hS:Sl w [] sz A2 m c2 news) (h1: ∀ u∈news,u.oneCell'=true) (qZ:n+m≤maxLen) (hb:(n+m)*b≤140737488355328) (hg:On ops f gd) (hd:Nat.blt d N=true)
    (h: ∀ A' c' w1,SH w0 w1 M (L.eraseIdx i++[.own A' (n+m) c' e sz (xs++news)])→WL P N ops Q rest (fY f d (.slice A' (n+m) c')) w1):
    WL P N ops Q (⟨some d,.call ⟨.builtin .append, #[x,y], #[t,t]⟩,ty,pos,aft,gd⟩::rest) f w:=by
  obtain ⟨A',c',w1,hrun,ho,q1,q2,q3,q4,q5,q6⟩:=Sb (ty:=ty) hT hzs lQ (hs.ok _ (nQ hi)) hS h1 qZ hb
  refine WL.op hg rfl hd (w':=w1) (by simp[execOp,resolve,invoke,builtin,hx,hy,hrun]) (h A' c' w1 (hs.write i [_] hi q1 q2 q3 q4 q5 ?_ ?_ (by simp)))
  · intro j hj; simp at hj; subst hj; exact ho
  · intro j hj k hk; simp at hj; subst hj; exact q6 k hk
end

section
variable {P:Program} {N:Nat} {Q:Po} {f:Fr} {w0 w:World} {M:eP} {L:gD} {ops:Array Oper} {rest:List Oper} {d:Nat} {ty:TypeId} {pos:String} {aft:Array Edge} {gd:Option (Nat×Bool)}
variable {x y z:Operand} {t t2:TypeId} {A:aM} {n c e sz b:Nat} {zv:Value} {xs:cU}

theorem dK (hT:jW P t e sz b zv) (hx:ev f x=.slice A n c):
    RV P f w ⟨some d,.call ⟨.builtin .len, #[x], #[t]⟩,ty,pos,aft,gd⟩ (.int .i64 n):=
  RV.mk (by simp[execOp,resolve,invoke,builtin,Builtin.len_,hx,kQ hT.und,goInt])
theorem KZ {i:Nat} {k:IntKind} (hT:jW P t e sz b zv) (a:Addr) (hi:i<n) (w:World):(Instr.indexAt t (.slice (some a) n c) (.int k i)).run P w=.ok (.pointer (some (a.add (i*sz)))) w:=by
  obtain ⟨j,hj,_,h1,_⟩:=hT.inf
  subst h1
  simp[Instr.indexAt,asIntOf,kQ hT.und,sizeOf,typeInfo,hj,hi]
theorem lR {k:IntKind} {g:Nat} (i:Nat) (hT:jW P t e sz b zv) (hx:ev f x=.slice (some ⟨g,0,none⟩) n c) (hy:ev f y=.int k i) (hi:i<n):
    RV P f w ⟨some d,.indexAddr t x y,ty,pos,aft,gd⟩ (.pointer (some ⟨g,i*sz,none⟩)):=
  RV.mk (by simp[execOp,hx,hy,KZ hT ⟨g,0,none⟩ hi,Addr.add_lit])
theorem sA (hs:SH w0 w M L) (i:Nat) (hi:L[i]?=some (.own A n c e sz xs)) (h0:0<n): ∃ g,A=some ⟨g,0,none⟩:=by
  obtain ⟨_,h2,_,h | ⟨g,_,hA,_⟩⟩:j6 w A n c e sz xs:=hs.ok _ (nQ hi)
  · omega
  · exact⟨g,hA⟩
theorem S5 (hs:SH w0 w M L) (i:Nat) (hi:L[i]?=some (.own A n c e sz xs)):n≤c∧c≤maxLen:=
  have h:j6 w A n c e sz xs:=hs.ok _ (nQ hi)
  ⟨h.2.1,h.2.2.1⟩
theorem S4 {g o:Nat} (h:j6 w (some ⟨g,0,none⟩) n c e sz xs) (ho:o<n*sz):w.cell? ⟨g,o,none⟩=xs[o]?∧w.frozen? ⟨g,o,none⟩=false:=by
  obtain ⟨h1,h2,h3,h0 | ⟨g',cur,hA,hg,hcs,htake⟩⟩:=h
  · subst h0
    have:n=0:=by omega
    subst this
    omega
  · cases hA
    refine⟨?_,by simp[World.frozen?,hg]⟩
    rw[cell_of_row w g o cur e (0,0) hg,← htake,D2,cF ho]
    simp
theorem XZ {g o:Nat} {v:Value} (hs:SH w0 w M L) (i:Nat) (hi:L[i]?=some (.own (some ⟨g,0,none⟩) n c e sz xs)) (hx:ev f x=.pointer (some ⟨g,o,none⟩)) (hc:xs[o]?=some v) (h1:m8 P t=true):
    RV P f w ⟨some d,.load t x,ty,pos,aft,gd⟩ v:=
  RV.mk (by
    have ho:j6 w (some ⟨g,0,none⟩) n c e sz xs:=hs.ok _ (nQ hi)
    have hlt:o<xs.length:=by
      rcases qR o xs.length with h | h
      · exact h
      · rw[B8 h]at hc; cases hc
    have hcell:=(S4 ho (by rw[← ho.1]; exact hlt)).1
    rw[hc]at hcell
    simp[execOp,hx,Instr.loadAt,Instr.sureAddr,O6 h1 hcell])
theorem Qz {g o:Nat} (h:j6 w (some ⟨g,0,none⟩) n c e sz xs) (ho:o<n*sz) (v:Value):j6 (w.setCell ⟨g,o,none⟩ v) (some ⟨g,0,none⟩) n c e sz (xs.set o v):=by
  obtain ⟨h1,h2,h3,h0 | ⟨g',cur,hA,hg,hcs,htake⟩⟩:=h
  · subst h0
    have:n=0:=by omega
    subst this
    omega
  · cases hA
    refine⟨by simpa using h1,h2,h3,.inr ⟨g,cur.setIfInBounds o v,rfl,by simp[World.setCell,LO,hg],by simpa using hcs,?_⟩⟩
    rw[← htake,Array.toList_setIfInBounds,List.take_set]
theorem Wl {g o:Nat} {v:Value} (hs:SH w0 w M L) (i:Nat) (hi:L[i]?=some (.own (some ⟨g,0,none⟩) n c e sz xs)) (hx:ev f x=.pointer (some ⟨g,o,none⟩)) (hy:ev f y=v) (ho:o<n*sz) (hv:v.oneCell'=true) (h1:m8 P t=true)
    (hg:On ops f gd) (h: ∀ w1,SH w0 w1 M (L.eraseIdx i++[.own (some ⟨g,0,none⟩) n c e sz (xs.set o v)])→WL P N ops Q rest f w1):
    WL P N ops Q (⟨none,.store t x y,ty,pos,aft,gd⟩::rest) f w:=by
  have hO:j6 w (some ⟨g,0,none⟩) n c e sz xs:=hs.ok _ (nQ hi)
  have hlt:o<xs.length:=by rw[hO.1]; exact ho
  obtain ⟨hcell,hfz⟩:=S4 hO ho
  rw[wH hlt]at hcell
  have rY:(store ⟨g,o,none⟩ v).run P w=.ok () (w.setCell ⟨g,o,none⟩ v):=by
    rw[run_store P w _ v _ hv]
    simp[hcell,hfz]
  have hvc:v.cells= #[v]:=by cases v <;> first | (simp[Value.oneCell']at hv; done) | rfl
  refine WL.OP hg rfl (w':=w.setCell ⟨g,o,none⟩ v) (by simp[execOp,hx,hy,Instr.storeAt,Instr.sureAddr,storeVar,Bs h1,hvc,storeCells,Addr.add_zero',rY])
    (h _ (hs.write i [.own (some ⟨g,0,none⟩) n c e sz (xs.set o v)] hi rfl rfl rfl (by simp[World.setCell]) (fun k hk hn=>Below.heap_setCell _ _ _ _ (fun e=>hn ?_)) ?_ ?_ (by simp)))
  · refine⟨?_,_,rfl,e.symm⟩
    intro h0
    have:=hO.2.1
    subst h0
    have:n=0:=by omega
    subst this
    omega
  · intro j hj; simp at hj; subst hj; exact Qz hO ho v
  · intro j hj k hk; simp at hj; subst hj; exact .inl hk

theorem Si {lo hi:Nat} {kl kh:IntKind} (hT:jW P t e sz b zv) (h1:lo≤hi) (h2:hi≤c) (w:World):
    (Instr.sliceAt t (.slice A n c) (some (.int kl lo)) (some (.int kh hi)) none).run P w=.ok (.slice (if c=lo then A else A.map (·.add (lo*sz))) (hi-lo) (c-lo)) w:=by
  obtain ⟨j,hj,_,aE,_⟩:=hT.inf
  subst aE
  simp[Instr.sliceAt,Instr.slice,kQ hT.und,Instr.sliceBounds,Instr.sliceBound,asIntOf,h1,h2,sizeOf,typeInfo,hj]
theorem cu (lo hi:Nat) {kl kh:IntKind} (hT:jW P t e sz b zv) (hx:ev f x=.slice A n c) (hy:ev f y=.int kl lo) (hz:ev f z=.int kh hi) (h1:lo≤hi) (h2:hi≤c):
    RV P f w ⟨some d,.slice t x (some y) (some z) none,ty,pos,aft,gd⟩ (.slice (if c=lo then A else A.map (·.add (lo*sz))) (hi-lo) (c-lo)):=
  RV.mk (by simp[execOp,hx,hy,hz,Si hT h1 h2])
theorem JT (hi:Nat) {kh:IntKind} (hT:jW P t e sz b zv) (hx:ev f x=.slice A n c) (hz:ev f z=.int kh hi) (h2:hi≤c):
    RV P f w ⟨some d,.slice t x none (some z) none,ty,pos,aft,gd⟩ (.slice A hi c):=
  RV.mk (by
    obtain ⟨j,hj,_,aE,_⟩:=hT.inf
    have hA:(if c=0 then A else A.map (·.add (0*sz)))=A:=by cases A <;> simp[Addr.add_zero']
    subst aE
    have hA':(A.map fun a=>a.add 0)=A:=by cases A <;> simp[Addr.add_zero']
    simp[execOp,hx,hz,Instr.sliceAt,Instr.slice,kQ hT.und,Instr.sliceBounds,Instr.sliceBound,asIntOf,h2,sizeOf,typeInfo,hj,hA'])
theorem Hb (lo:Nat) {kl:IntKind} (hT:jW P t e sz b zv) (hx:ev f x=.slice A n c) (hy:ev f y=.int kl lo) (h1:lo≤n):
    RV P f w ⟨some d,.slice t x (some y) none none,ty,pos,aft,gd⟩ (.slice (if c=lo then A else A.map (·.add (lo*sz))) (n-lo) (c-lo)):=
  RV.mk (by
    obtain ⟨j,hj,_,aE,_⟩:=hT.inf
    subst aE
    simp[execOp,hx,hy,Instr.sliceAt,Instr.slice,kQ hT.und,Instr.sliceBounds,Instr.sliceBound,asIntOf,h1,sizeOf,typeInfo,hj])
section
variable {l m:aD}
theorem l5 {k:IntKind} (i:Nat) (ht:P.underlying t=some .string) (hx:ev f x=aA l) (hy:ev f y=.int k i) (hi:i<l.length):
    RV P f w ⟨some d,.index t x y,ty,pos,aft,gd⟩ (.int .u8 ((l.getD i 0).toNat:Nat)):=
  RV.mk (by
    have h1:(⟨l.toArray⟩:ByteArray)[i]?=some (l.getD i 0):=by
      rw[yS,wH hi]
      have:i<(⟨l.toArray⟩:ByteArray).size:=by simpa [ByteArray.size] using hi
      rw[getElem?_pos (⟨l.toArray⟩:ByteArray) i this]
      rfl
    simp[execOp,hx,hy,aA,Instr.index,asIntOf,kQ ht,h1])
theorem extract_mk (l:aD) (lo hi:Nat):(⟨l.toArray⟩:ByteArray).extract lo hi=⟨((l.take hi).drop lo).toArray⟩:=by
  apply ByteArray.ext
  rw[ByteArray.data_extract,List.extract_toArray,uZ]
theorem JV (lo hi:Nat) {kl kh:IntKind} (ht:P.underlying t=some .string) (hx:ev f x=aA l) (hy:ev f y=.int kl lo) (hz:ev f z=.int kh hi) (h1:lo≤hi) (h2:hi≤l.length):
    RV P f w ⟨some d,.slice t x (some y) (some z) none,ty,pos,aft,gd⟩ (aA ((l.take hi).drop lo)):=
  RV.mk (by
    simp[execOp,hx,hy,hz,aA,Instr.sliceAt,Instr.slice,kQ ht,Instr.sliceBounds,Instr.sliceBound,asIntOf,h1,h2,GD,extract_mk])
theorem xU (hi:Nat) {kh:IntKind} (ht:P.underlying t=some .string) (hx:ev f x=aA l) (hz:ev f z=.int kh hi) (h2:hi≤l.length):
    RV P f w ⟨some d,.slice t x none (some z) none,ty,pos,aft,gd⟩ (aA (l.take hi)):=
  RV.mk (by
    simp[execOp,hx,hz,aA,Instr.sliceAt,Instr.slice,kQ ht,Instr.sliceBounds,Instr.sliceBound,asIntOf,h2,GD,extract_mk])
theorem CK (lo:Nat) {kl:IntKind} (ht:P.underlying t=some .string) (hx:ev f x=aA l) (hy:ev f y=.int kl lo) (h1:lo≤l.length):
    RV P f w ⟨some d,.slice t x (some y) none none,ty,pos,aft,gd⟩ (aA (l.drop lo)):=
  RV.mk (by
    simp[execOp,hx,hy,aA,Instr.sliceAt,Instr.slice,kQ ht,Instr.sliceBounds,Instr.sliceBound,asIntOf,h1,GD,extract_mk])
theorem Fk (l m:aD):(⟨l.toArray⟩:ByteArray)++⟨m.toArray⟩=⟨(l++m).toArray⟩:=by
  apply ByteArray.ext
  simp
theorem cat (hx:ev f x=aA l) (hy:ev f y=aA m) (hb:l.length+m.length≤9223372036854775807):
    RV P f w ⟨some d,.binOp .add t x y t2,ty,pos,aft,gd⟩ (aA (l++m)):=
  RV.mk (by
    have h1: ¬ ((9223372036854775807:Int)<(l.length:Int)+(m.length:Int)):=by omega
    simp[execOp,hx,hy,aA,eqGuard,binOp,Op.stringOp,GD,h1,Fk])
theorem eqs (hx:ev f x=aA l) (hy:ev f y=aA m):
    RV P f w ⟨some d,.binOp .eql t x y t2,ty,pos,aft,gd⟩ (.bool (decide (l=m))):=
  RV.mk (by
    simp[execOp,hx,hy,aA,eqGuard,binOp,Op.stringOp]
    rw[wJ]
    simp)
end
end

abbrev U (c:UInt8):Value:=.int .u8 ((c.toNat:Nat):Int)
abbrev ns:Value:=.slice none 0 0
abbrev pB (g:Nat):Value:=.pointer (some ⟨g,0,none⟩)
abbrev sb (g n c:Nat):Value:=.slice (some ⟨g,0,none⟩) n c
abbrev oI (g:Nat) (l:aC) (c e:Nat):It:=.own (some ⟨g,0,none⟩) l.length c e 1 (l.map I)
theorem eQ {α:Type} (g:α→Value) {l:List α} {i:Nat} (d:α) (h:i<l.length):(l.map g)[i]?=some (g (l.getD i d)):=by
  rw[vQ,yS,wH h]
  rfl
def Has (f:Fr):List (Nat×Value)→Prop
  | []=>True
  | p::l=>f p.1=p.2∧Has f l
theorem WD {f:Fr}: ∀ {l:List (Nat×Value)},Has f l→ ∀ p∈l,f p.1=p.2
  | _::_,h,_,.head _=>h.1
  | _::_,h,_,.tail _ hp=>WD h.2 _ hp
theorem NA {f:Fr} {l:List (Nat×Value)} (h:Has f l): ∃ g,f=LC g l:=⟨f,(Du (WD h)).symm⟩

section
variable {P:Program} {N:Nat} {Q:Po} {f:Fr} {w0 w:World} {M:eP} {L:gD} {ops:Array Oper} {rest:List Oper} {d:Nat} {ty:TypeId} {pos:String} {aft:Array Edge} {gd:Option (Nat×Bool)}
variable {x y z:Operand} {t t2:TypeId} {e n c b:Nat} {A:aM} {zv:Value}
theorem bO {rs:List ResultVar} {vs:cU} {v:Value} {post:Value→World→Prop} (h:sJ P w f rs vs) (hv:BV vs=v) (hp:post v w):fin P rs post .ret f w:=⟨vs,h,by rw[hv]; exact hp⟩
theorem M4 {rs:List ResultVar} {vs:cU} {v:Value} {post:Value→World→Prop} (h:sJ P w f rs vs) (hv:BV vs=v) (hp:post v w):fin P rs post .normal f w:=⟨vs,h,by rw[hv]; exact hp⟩
theorem cX {t:Tmp} {ty u:TypeId} {g k:Nat} {cs:cU} {rs:List ResultVar} {vs:cU} (hs:SH w0 w M L) (i:Nat) (hi:L[i]?=some (.blk g u cs)) (hp:f t=.pointer (some ⟨g,0,none⟩)) (ha:qF P ty k=true) (hk:cs.length=k)
    (h:sJ P w f rs vs):sJ P w f (.cell t ty::rs) (.agg cs.toArray::vs):=
  .cell hp (TB ha hk fun j u hu=>by rw[Addr.add_lit,MO hs i hi]; simpa using hu) h
section
variable {α:Type} {g:α→Value} {ys zs:List α}
theorem gI {c2:Nat} {A2:aM} (hs:SH w0 w M L) (i:Nat) (hi:L[i]?=some (.own A ys.length c e 1 (ys.map g))) (hT:jW P t e 1 b zv) (hzs:zv.cells.size=1)
    (hx:ev f x=.slice A ys.length c) (hy:ev f y=.slice A2 zs.length c2) (hS:Sl w [] 1 A2 zs.length c2 (zs.map g)) (h1: ∀ u,(g u).oneCell'=true) (qZ:ys.length+zs.length≤maxLen) (hb:(ys.length+zs.length)*b≤140737488355328) (hg:On ops f gd) (hd:Nat.blt d N=true)
    (h: ∀ A' c' w1,SH w0 w1 M (L.eraseIdx i++[.own A' (ys++zs).length c' e 1 ((ys++zs).map g)])→WL P N ops Q rest (fY f d (.slice A' (ys++zs).length c')) w1):
    WL P N ops Q (⟨some d,.call ⟨.builtin .append, #[x,y], #[t,t]⟩,ty,pos,aft,gd⟩::rest) f w:=
  ap hs i hi hT hzs (by omega) hx hy hS (by intro u hu; obtain ⟨v,_,rfl⟩:=List.mem_map.1 hu; exact h1 v) qZ hb hg hd fun A' c' w1 aE=>by
    rw[← List.map_append,← bH]at aE
    rw[← bH]
    exact h A' c' w1 aE
theorem DE {z:α} (hs:SH w0 w M L) (hT:jW P t e 1 b (g z)) (hz:(g z).cells= #[g z]) (hx:ev f x=.int .i64 n) (hy:ev f y=.int .i64 n) (hn:b*n≤281474976710656) (hm:n≤maxLen) (hg:On ops f gd) (hd:Nat.blt d N=true)
    (h: ∀ k w1,SH w0 w1 M (L++[.own (some ⟨k,0,none⟩) (List.replicate n z).length n e 1 ((List.replicate n z).map g)])→WL P N ops Q rest (fY f d (.slice (some ⟨k,0,none⟩) (List.replicate n z).length n)) w1):WL P N ops Q (⟨some d,.makeSlice t x y,ty,pos,aft,gd⟩::rest) f w:=
  mk hs hT hz hx hy hn hm hg hd fun k w1 aE=>by
    rw[← List.map_replicate]at aE
    have:=h k w1
    rw[List.length_replicate]at this
    exact this aE
end
theorem XR {X:eP} {k:IntKind} {sz:Nat} {xs:cU} (i:Nat) (hT:jW P t e sz b zv) (hx:ev f x=.slice A n c) (hy:ev f y=.int k i) (hS:Sl w0 X sz A n c xs) (hi:i<n) (hg:On ops f gd) (hd:Nat.blt d N=true)
    (h: ∀ a,PA w0 X a ((xs.drop (i*sz)).take sz)→WL P N ops Q rest (fY f d (.pointer (some a))) w):
    WL P N ops Q (⟨some d,.indexAddr t x y,ty,pos,aft,gd⟩::rest) f w:=by
  obtain ⟨a,rfl,hp⟩:=hS.at_ hi
  exact WL.op hg rfl hd (by simp[execOp,hx,hy,KZ hT a hi]) (h _ hp)
theorem S6 {X:eP} {a:Addr} {xs:cU} {i:Nat} {u:Value} (h:PA w X a ((xs.drop (i*1)).take 1)) (hu:xs[i]?=some u):PA w X a [u]:=by
  obtain ⟨h1,h2,h3⟩:=h
  refine⟨h1,h2,fun j v hv=>?_⟩
  cases j with
  | zero=>
    simp at hv
    subst hv
    exact h3 0 u (by simp[hu])
  | succ j=>simp at hv
theorem gN {X:eP} {k:IntKind} {xs:cU} {u:Value} (i:Nat) (hT:jW P t e 1 b zv) (hx:ev f x=.slice A n c) (hy:ev f y=.int k i) (hS:Sl w0 X 1 A n c xs) (hi:i<n) (hu:xs[i]?=some u) (hg:On ops f gd) (hd:Nat.blt d N=true)
    (h: ∀ a,PA w0 X a [u]→WL P N ops Q rest (fY f d (.pointer (some a))) w):
    WL P N ops Q (⟨some d,.indexAddr t x y,ty,pos,aft,gd⟩::rest) f w:=
  XR i hT hx hy hS hi hg hd fun a ha=>h a (S6 ha hu)
theorem qL {C:World→Prop} {Qf:Fr→Prop} {X:eP} {k:IntKind} {xs:cU} {u:Value} (i:Nat) (hT:jW P t e 1 b zv) (hx:ev f x=.slice A n c) (hy:ev f y=.int k i) (hS:Sl w0 X 1 A n c xs) (hi:i<n) (hu:xs[i]?=some u) (hg:On ops f gd) (hd:Nat.blt d N=true)
    (h: ∀ a,PA w0 X a [u]→QL P N ops C Qf rest (fY f d (.pointer (some a)))):
    QL P N ops C Qf (⟨some d,.indexAddr t x y,ty,pos,aft,gd⟩::rest) f:=by
  obtain ⟨a,rfl,hp⟩:=hS.at_ hi
  exact qq hg rfl hd (fun w _=>RV.mk (by simp[execOp,hx,hy,KZ hT a hi])) (h _ (S6 hp hu))
end

section
variable {P:Program} {N:Nat} {Q:Po} {f:Fr} {w0 w:World} {M:eP} {L:gD} {ops:Array Oper} {rest:List Oper} {d:Nat} {ty:TypeId} {pos:String} {aft:Array Edge} {gd:Option (Nat×Bool)}
variable {x y z:Operand} {t t2:TypeId} {e n c b:Nat} {A:aM} {zv:Value}

theorem jK {f:Fr} {y:Operand} {k:IntKind} {x:Int} (h0:0≤x) (h:ev f y=.int k x:=by rfl):ev f y=.int k ((x.toNat:Nat):Int):=by
  rw[h,Int.toNat_of_nonneg h0]
theorem Wm {a b:Int} (hx:ev f x=.int .u8 a) (hy:ev f y=.int .u8 b) (h0:0≤a-b) (h1:a-b≤255):RV P f w ⟨some d,.binOp .sub t x y t2,ty,pos,aft,gd⟩ (.int .u8 (a-b)):=by
  have:IntKind.u8.wrap (a-b)=a-b:=by simp[IntKind.wrap,IntKind.bits,IntKind.signed]; omega
  exact RV.mk (by simp[execOp,hx,hy,eqGuard,binOp,Op.intArith,this])
theorem EV {a:Int} {s:IntKind} (hs:P.underlying t=some (.int s)) (hd:P.underlying t2=some (.int .i64)) (hx:ev f x=.int s a) (hb:GQ a):RV P f w ⟨some d,.convert t t2 x,ty,pos,aft,gd⟩ (.int .i64 a):=
  RV.mk (by simp[execOp,hx,convert,kQ hs,kQ hd,Conv.intToInt,AK hb])
theorem Hk {a:Int} {s:IntKind} (hs:P.underlying t=some (.int s)) (hd:P.underlying t2=some (.int .u8)) (hx:ev f x=.int s a) (h0:0≤a) (h1:a≤255):RV P f w ⟨some d,.convert t t2 x,ty,pos,aft,gd⟩ (.int .u8 a):=by
  have:IntKind.u8.wrap a=a:=by simp[IntKind.wrap,IntKind.bits,IntKind.signed]; omega
  exact RV.mk (by simp[execOp,hx,convert,kQ hs,kQ hd,Conv.intToInt,this])
theorem Pw {a b:Int} (hx:ev f x=.int .i64 a) (hy:ev f y=.int .i64 b):RV P f w ⟨some d,.call ⟨.builtin .min, #[x,y], #[t,t2]⟩,ty,pos,aft,gd⟩ (.int .i64 (min a b)):=
  RV.mk (by
    have:(if b<a then b else a)=min a b:=by rw[Int.min_def]; split <;> split <;> omega
    simp[execOp,resolve,invoke,builtin,Builtin.min_,hx,hy,Builtin.min2,this])
section
variable {l m:aD}
theorem v8 (hx:ev f x=aA l) (hy:ev f y=aA m):RV P f w ⟨some d,.binOp .neq t x y t2,ty,pos,aft,gd⟩ (.bool (decide (l≠m))):=
  RV.mk (by
    simp[execOp,hx,hy,aA,eqGuard,binOp,Op.stringOp]
    rw[wJ]
    simp)
theorem Ip {a b:Bool} (ht:P.underlying t=some .bool) (w:World):(Op.equal t (.bool a) (.bool b)).run P w=.ok (a == b) w:=by
  have: ∀ n,(Op.equalIn (n+1) t (.bool a) (.bool b)).run P w=.ok (a == b) w:=fun n=>by simp[Op.equalIn,kQ ht]
  exact this 9999
theorem VR {a b:Bool} (ht:P.underlying t=some .bool) (hx:ev f x=.bool a) (hy:ev f y=.bool b):RV P f w ⟨some d,.binOp .eql t x y t2,ty,pos,aft,gd⟩ (.bool (decide (a=b))):=
  RV.mk (by
    simp[execOp,hx,hy,eqGuard,binOp,Ip ht]
    cases a <;> cases b <;> rfl)
end
section
variable {α:Type} {g:α→Value} {ys zs:List α} {X:eP}
theorem Sl.aP {sz:Nat} {xs:cU} (h:Sl w0 [] sz A n c xs) (hs:SH w0 w [] L):Sl w [] sz A n c xs:=h.up hs (by simp) (by simp)
theorem Sl.SC {sz:Nat} {xs ys:cU} {m:Nat} (h:Sl w X sz A n c xs) (hn:n=m) (hx:xs=ys):Sl w X sz A m c ys:=by subst hn; subst hx; exact h
theorem Sl.lZ (h:Sl w X 1 A zs.length c (zs.map g)) {lo hi:Nat} (h1:lo≤hi) (h2:hi≤zs.length):Sl w X 1 (if c=lo then A else A.map (·.add (lo*1))) ((zs.take hi).drop lo).length (c-lo) (((zs.take hi).drop lo).map g):=
  (h.cut h1 h2).SC (by simp; omega) (by simp[List.map_take,List.map_drop,uZ])
theorem Sl.VA (h:Sl w X 1 A zs.length c (zs.map g)) {lo:Nat} (h1:lo≤zs.length):Sl w X 1 (if c=lo then A else A.map (·.add (lo*1))) (zs.drop lo).length (c-lo) ((zs.drop lo).map g):=
  (h.cut h1 (lA _)).SC (by simp) (by rw[List.map_drop]; simp only[CB]; exact lI (by simp))
theorem Sl.JX (h:Sl w X 1 A zs.length c (zs.map g)) {hi:Nat} (h2:hi≤zs.length):Sl w X 1 A (zs.take hi).length c ((zs.take hi).map g):=by
  have:=h.cut (lo:=0) (yX hi) h2
  have hA:(if c=0 then A else A.map (·.add (0*1)))=A:=by cases A <;> simp[Addr.add_zero']
  rw[hA]at this
  exact this.SC (by simp; omega) (by simp[List.map_take])
theorem pK (lo hi:Nat) {kl kh:IntKind} (hT:jW P t e 1 b zv) (hx:ev f x=.slice A zs.length c) (hy:ev f y=.int kl lo) (hz:ev f z=.int kh hi) (h1:lo≤hi) (h2:hi≤zs.length) (hc:zs.length≤c):
    RV P f w ⟨some d,.slice t x (some y) (some z) none,ty,pos,aft,gd⟩ (.slice (if c=lo then A else A.map (·.add (lo*1))) ((zs.take hi).drop lo).length (c-lo)):=by
  have:=cu (P:=P) (w:=w) (d:=d) (ty:=ty) (pos:=pos) (aft:=aft) (gd:=gd) lo hi hT hx hy hz h1 (by omega)
  rwa [show hi-lo=((zs.take hi).drop lo).length from by simp; omega]at this
theorem JU (hi:Nat) {kh:IntKind} (hT:jW P t e 1 b zv) (hx:ev f x=.slice A zs.length c) (hz:ev f z=.int kh hi) (h2:hi≤zs.length) (hc:zs.length≤c):
    RV P f w ⟨some d,.slice t x none (some z) none,ty,pos,aft,gd⟩ (.slice A (zs.take hi).length c):=by
  have:=JT (P:=P) (w:=w) (d:=d) (ty:=ty) (pos:=pos) (aft:=aft) (gd:=gd) hi hT hx hz (by omega)
  rwa [show hi=(zs.take hi).length from by simp; omega]at this
theorem U5 (lo:Nat) {kl:IntKind} (hT:jW P t e 1 b zv) (hx:ev f x=.slice A zs.length c) (hy:ev f y=.int kl lo) (h1:lo≤zs.length):
    RV P f w ⟨some d,.slice t x (some y) none none,ty,pos,aft,gd⟩ (.slice (if c=lo then A else A.map (·.add (lo*1))) (zs.drop lo).length (c-lo)):=by
  have:=Hb (P:=P) (w:=w) (d:=d) (ty:=ty) (pos:=pos) (aft:=aft) (gd:=gd) lo hT hx hy h1
  rwa [show zs.length-lo=(zs.drop lo).length from by simp]at this
end
theorem SH.pick {L':gD} (hs:SH w0 w M L) (is:eP) (h:is.map (fun i=>L[i]?)=L'.map some) (hn:is.Nodup):SH w0 w M L':=by
  have hget: ∀ k,(hk:k<L'.length)→ ∃ i,is[k]?=some i∧L[i]?=some L'[k]:=by
    intro k hk
    have hl:is.length=L'.length:=by have:=aS List.length h; simpa using this
    have hk':k<is.length:=by omega
    refine⟨is[k],wH hk',?_⟩
    have:=aS (fun l=>l[k]?) h
    simp[hk,hk']at this
    exact this
  have hmem: ∀ i∈L',i∈L:=by
    intro i hi
    obtain ⟨k,hk,rfl⟩:=xF hi
    obtain ⟨j,_,hj⟩:=hget k hk
    exact nQ hj
  refine⟨hs.os,hs.tape,hs.output,hs.size,hs.rC,fun i hi=>hs.ok i (hmem i hi),fun i hi=>hs.lo i (hmem i hi),?_⟩
  rw[List.pairwise_iff_getElem]
  intro p q hp hq hpq k xX RG
  obtain ⟨i,hi,hLi⟩:=hget p hp
  obtain ⟨j,hj,hLj⟩:=hget q hq
  have hne:i≠j:=by
    intro heq
    subst heq
    obtain ⟨hp',e1⟩:=List.getElem?_eq_some_iff.1 hi
    obtain ⟨hq',e2⟩:=List.getElem?_eq_some_iff.1 hj
    have:=List.pairwise_iff_getElem.1 hn p q hp' hq' hpq
    rw[e1,e2]at this
    exact this rfl
  obtain ⟨hli,ei⟩:=List.getElem?_eq_some_iff.1 hLi
  obtain ⟨hlj,ej⟩:=List.getElem?_eq_some_iff.1 hLj
  have hd:=List.pairwise_iff_getElem.1 hs.dis
  rcases Nat.lt_or_gt_of_ne hne with hlt | hgt
  · exact hd i j hli hlj hlt k (by rw[ei]; exact xX) (by rw[ej]; exact RG)
  · exact hd j i hlj hli hgt k (by rw[ej]; exact RG) (by rw[ei]; exact xX)
theorem SH.AB {L':gD} (h: ∀ i∈L',i.ok w∧ ∀ k,¬ i.has k) (hs:SH w0 w M L):SH w0 w M (L++L'):=by
  refine⟨hs.os,hs.tape,hs.output,hs.size,hs.rC,?_,?_,?_⟩
  · intro i hi
    rcases List.mem_append.1 hi with hi | hi
    · exact hs.ok i hi
    · exact(h i hi).1
  · intro i hi k hk
    rcases List.mem_append.1 hi with hi | hi
    · exact hs.lo i hi k hk
    · exact absurd hk ((h i hi).2 k)
  · refine List.pairwise_append.2 ⟨hs.dis,?_,fun a _ b hb k _ hkb=>(h b hb).2 k hkb⟩
    rw[List.pairwise_iff_getElem]
    intro p q hp hq _ k hk
    exact absurd hk ((h _ (rM hp)).2 k)
theorem DF {e:Nat}:(It.own none 0 0 e 1 []).ok w∧ ∀ k,¬ (It.own none 0 0 e 1 []).has k:=⟨⟨by simp,lA _,yX _,.inl rfl⟩,fun _ h=>h.1 rfl⟩
end

section
variable {P:Program} {N:Nat} {Q:Po} {f:Fr} {w:World} {n:Fr→World→Prop}
theorem nN (h:n f w):xA n Q .normal f w:=h
theorem tR (h:Q .ret f w):xA n Q .ret f w:=h
theorem tE {id:Nat} (h:Q (.exit id) f w):xA n Q (.exit id) f w:=h
theorem bN {i:Nat} (h:Q .normal f w):DA i Q .normal f w:=h
theorem bR {i:Nat} (h:Q .ret f w):DA i Q .ret f w:=h
theorem bE {i:Nat} (h:Q .normal f w):DA i Q (.exit i) f w:=by
  have hb:Nat.beq i i=true:=by simp
  show (bif Nat.beq i i then Q .normal f w else Q (.exit i) f w)
  rw[hb]
  exact h
theorem bX {i id:Nat} (hb:Nat.beq id i=false) (h:Q (.exit id) f w):DA i Q (.exit id) f w:=by
  show (bif Nat.beq id i then Q .normal f w else Q (.exit id) f w)
  rw[hb]
  exact h
end
theorem gM {w0 w:World} {M:eP} {L:gD} {g:Nat} {t:TypeId} {cs:cU} (hs:SH w0 w M L) (i:Nat) (hi:L[i]?=some (.blk g t cs)):w.heap[g]?=some (.cells cs.toArray t (0,0)):=hs.ok _ (nQ hi)
theorem Gc {w0 w:World} {L:gD} {g:Nat} {t:TypeId} {cs:cU} (hs:SH w0 w [] L) (i:Nat) (hi:L[i]?=some (.blk g t cs)):w0.heap.size≤g:=by
  rcases hs.lo _ (nQ hi) g rfl with h | h
  · exact h
  · cases h

section
variable {P:Program} {N:Nat} {Q:Po} {f:Fr} {w:World} {ops:Array Oper} {S:World→Prop} {fuel:Nat} {listed:Array Bool}
def IA (N:Nat) (Q:Po):Exit→Act→World→Prop
  | .normal,a,w=>∃ f,mJ N f a∧Q .normal f w
  | _,_,_=>False
@[irreducible] def AL (P:Program) (N:Nat) (ops:Array Oper) (S:World→Prop) (Q:Po) (fuel:Nat) (listed:Array Bool) (f:Fr) (w:World):Prop:=
  ∀ a,mJ N f a→wpAnyH P .any ops (IA N Q) S fuel listed a w
theorem ra {id:Nat} {l:List Oper} (S:World→Prop) (hm:P.follows .mixedOrders=true) (h:AL P N l.toArray S Q l.length (Array.replicate l.length false) f w.drew):W P N (.region id l.toArray true) Q f w:=by
  unfold W AL at*
  intro a ha
  refine Code.wp_mono (fun e a' w' hq=>?_) (wp_region_held (Q:=IA N Q) (S:=S) hm (by simpa using h a ha))
  cases e with
  | normal=>exact hq
  | _=>exact hq.elim
theorem kA {id:Nat} {l:List Oper} (S:World→Prop) (J:Fr→World→Prop) (hm:P.follows .mixedOrders=true) (h:AL P N l.toArray S (fun _=>J) l.length (Array.replicate l.length false) f w.drew)
    (h2: ∀ f w,J f w→Q .normal f w):W P N (.region id l.toArray true) Q f w:=by
  unfold W AL at*
  intro a ha
  refine Code.wp_mono (fun e a' w' hq=>?_) (wp_region_held (Q:=IA N (fun _=>J)) (S:=S) hm (by simpa using h a ha))
  cases e with
  | normal=>
    obtain ⟨f',hf,hj⟩:=hq
    exact⟨f',hf,h2 _ _ hj⟩
  | _=>exact hq.elim
theorem ad (hr:Region.ready .any ops listed=[]) (h:Q .normal f w):AL P N ops S Q fuel listed f w:=by
  unfold AL
  exact fun a ha=>wpAnyH_done hr ⟨f,ha,h⟩ fuel

inductive QY (P:Program) (N:Nat) (ops:Array Oper) (S:World→Prop) (K:Fr→Prop):List Oper→Fr→Prop
  | nil {f:Fr} (h:K f):QY P N ops S K [] f
  | op {f:Fr} {o:Oper} {l:List Oper} {d:Nat} {v:Value} (hg:On ops f o.guard) (hdst:o.dst=some d) (hd:Nat.blt d N=true) (hr: ∀ w,S w→RV P f w o v) (h:QY P N ops S K l (fY f d v)):QY P N ops S K (o::l) f
  | skip {f:Fr} {o:Oper} {l:List Oper} {d j:Nat} {b:Bool} {t:Tmp} (hdst:o.dst=some d) (hg:o.guard=some (j,!b)) (hj:gs ops j=some t) (ht:f t=.bool b) (hd:Nat.blt d N=true) (h:QY P N ops S K l (fY f d undef)):QY P N ops S K (o::l) f

def K6 (ops:Array Oper):Array Bool→eP→Bool
  | _,[]=>true
  | listed,i::is=>Region.free .any ops listed i && (Region.ready .any ops listed).contains i && K6 ops (listed.setIfInBounds i true) is
def K1:Array Bool→eP→Array Bool
  | l,[]=>l
  | l,i::is=>K1 (l.setIfInBounds i true) is

theorem Ya (is:eP) {l:List Oper} (hl:is.map (fun i=>ops[i]?)=l.map some) (hns:Region.noSelect ops=true) (hB:K6 ops listed is=true) (hS:S w)
    (h:QY P N ops S (fun f'=>AL P N ops S Q fuel (K1 listed is) f' w) l f):AL P N ops S Q (fuel+is.length) listed f w:=by
  induction is generalizing l listed f with
  | nil=>
    cases l with
    | nil=>cases h with | nil h=>simpa [K1] using h
    | cons o l=>simp at hl
  | cons i is ih=>
    cases l with
    | nil=>simp at hl
    | cons o l=>
      simp only[G0,List.cons.injEq]at hl
      simp only[K6,iF]at hB
      obtain ⟨⟨hf,hr⟩,hB'⟩:=hB
      unfold AL
      intro a ha
      cases h with
      | op hg hdst hd hrun h'=>
        rename_i d v
        have:=ih (listed:=listed.setIfInBounds i true) (f:=fY f d v) hl.2 hB' h'
        unfold AL at this
        refine wpAnyH_take (v:=v) hl.1 hns hf hr (fun c a w hq=>hq.elim) (.inl ⟨hg.wanted ha,fun w hw=>by rw[ha.eval]; exact hrun w hw⟩) hS ?_
        rw[hdst]
        exact this _ (ha.put hd v)
      | skip hdst hg hj ht hd h'=>
        rename_i d j b t
        have:=ih (listed:=listed.setIfInBounds i true) (f:=fY f d undef) hl.2 hB' h'
        unfold AL at this
        refine wpAnyH_take (v:=undef) hl.1 hns hf hr (fun c a w hq=>hq.elim) (.inr ⟨Off.wanted hg hj ht ha,rfl⟩) hS ?_
        rw[hdst]
        exact this _ (ha.put hd undef)

inductive DZ (ops:Array Oper):eP→List Oper→Prop
  | nil:DZ ops [] []
  | cons {i:Nat} {o:Oper} {is:eP} {l:List Oper} (h:ops[i]?=some o) (t:DZ ops is l):DZ ops (i::is) (o::l)
theorem DZ.eq {is:eP} {l:List Oper} (h:DZ ops is l):is.map (fun i=>ops[i]?)=l.map some:=by
  induction h with
  | nil=>rfl
  | cons h t ih=>simp[h,ih]
theorem tk {is:eP} {l:List Oper} (hs:DZ ops is l) (hns:Region.noSelect ops=true) (hB:K6 ops listed is=true) (hS:S w)
    (h:QY P N ops S (fun f'=>AL P N ops S Q fuel (K1 listed is) f' w) l f):AL P N ops S Q (fuel+is.length) listed f w:=
  Ya is hs.eq hns hB hS h

def KQ (P:Program) (N:Nat) (ops:Array Oper) (S:World→Prop) (Q:Po) (fuel:Nat) (listed:Array Bool):Po
  | .normal,f,w=>S w∧AL P N ops S Q fuel listed f w
  | _,_,_=>False
theorem kq (hS:S w) (h:AL P N ops S Q fuel listed f w):KQ P N ops S Q fuel listed .normal f w:=⟨hS,h⟩
def One (P:Program) (N:Nat) (ops:Array Oper) (S:World→Prop) (Q:Po) (fuel:Nat) (listed:Array Bool) (f:Fr) (w:World) (i:Nat):Prop:=
  ∃ o,ops[i]?=some o∧WL P N ops (KQ P N ops S Q fuel (listed.setIfInBounds i true)) [o] f w
theorem eI {i:Nat} {o:Oper} (ho:ops[i]?=some o) (h:WL P N ops (KQ P N ops S Q fuel (listed.setIfInBounds i true)) [o] f w):One P N ops S Q fuel listed f w i:=⟨o,ho,h⟩
theorem One.wp {i:Nat} (h:One P N ops S Q fuel listed f w i): ∀ a,mJ N f a→
    wpOp P ops (IA N Q) i (fun a' w'=>S w'∧wpAnyH P .any ops (IA N Q) S fuel (listed.setIfInBounds i true) a' w') a w:=by
  obtain ⟨o,ho,h⟩:=h
  intro a ha
  unfold WL at h
  have h':=h a ha
  unfold wpOp
  simp only[ho]
  simp only[wpList]at h'
  have hout: ∀ (c:List PanicEntry) (a':Act) (w':World),(∃ f',mJ N f' a'∧KQ P N ops S Q fuel (listed.setIfInBounds i true) (.panic c) f' w')→False:=fun c a' w' ⟨_,_,hk⟩=>hk
  have hlet: ¬ LetsOut (fun e a' w'=>∃ f',mJ N f' a'∧KQ P N ops S Q fuel (listed.setIfInBounds i true) e f' w'):=fun⟨_,_,_,_,hk⟩=>hk
  have hk: ∀ a' w',(∃ f',mJ N f' a'∧KQ P N ops S Q fuel (listed.setIfInBounds i true) .normal f' w')→S w'∧wpAnyH P .any ops (IA N Q) S fuel (listed.setIfInBounds i true) a' w':=fun a' w' ⟨f',hf,hk⟩=>by
    obtain ⟨h1,h2⟩:=hk
    unfold AL at h2
    exact⟨h1,h2 a' hf⟩
  split
  · rename_i hw
    rw[cF hw]at h'
    rcases h' with h' | ⟨_,hl⟩
    · refine .inl ?_
      have h1:=Oper.wp_mono hk h'
      unfold Oper.wp at h1 ⊢
      generalize (execOp a.eval o).run P w=r at h1 ⊢
      cases r with
      | ok n w'=>
        cases n <;> simp only[Oper.upon]at h1 ⊢ <;>
          first
            | exact h1
            | exact Calls.mono h1 (fun e w'' he=>by
                cases e with
                | returned v=>exact he
                | panicked c=>exact(hout _ _ _ he).elim
                | outgrown=>exact absurd he hlet)
      | halt x w'=>cases x <;> simp only[Oper.upon]at h1 ⊢ <;> first | exact h1 | exact(hout _ _ _ h1).elim
    · exact absurd hl hlet
  · rename_i hw
    rw[b0 hw]at h'
    exact hk _ _ h'
theorem aa {rs:eP} (hr:Region.ready .any ops listed=rs) (hne:rs≠[]) (h: ∀ i∈rs,One P N ops S Q fuel listed f w i):AL P N ops S Q (fuel+1) listed f w:=by
  unfold AL
  exact fun a ha=>wpAnyH_all hr hne fun i hi=>(h i hi).wp a ha
theorem a1 {i:Nat} (hr:Region.ready .any ops listed=[i]) (h:One P N ops S Q fuel listed f w i):AL P N ops S Q (fuel+1) listed f w:=
  aa hr (by simp) (by intro j hj; simp at hj; subst hj; exact h)
theorem a2 {i j:Nat} (hr:Region.ready .any ops listed=[i,j]) (h:One P N ops S Q fuel listed f w i) (h':One P N ops S Q fuel listed f w j):AL P N ops S Q (fuel+1) listed f w:=
  aa hr (by simp) (by intro k hk; simp at hk; rcases hk with rfl | rfl <;> assumption)
theorem a3 {i j k:Nat} (hr:Region.ready .any ops listed=[i,j,k]) (h:One P N ops S Q fuel listed f w i) (h':One P N ops S Q fuel listed f w j) (h'':One P N ops S Q fuel listed f w k):AL P N ops S Q (fuel+1) listed f w:=
  aa hr (by simp) (by intro m hm; simp at hm; rcases hm with rfl | rfl | rfl <;> assumption)
theorem a4 {i j k m:Nat} (hr:Region.ready .any ops listed=[i,j,k,m]) (h:One P N ops S Q fuel listed f w i) (h':One P N ops S Q fuel listed f w j) (h'':One P N ops S Q fuel listed f w k) (h3:One P N ops S Q fuel listed f w m):AL P N ops S Q (fuel+1) listed f w:=
  aa hr (by simp) (by intro n hn; simp at hn; rcases hn with rfl | rfl | rfl | rfl <;> assumption)
end

theorem cC {L:gD} {it:It} (i:Nat) (h:L[i]?=some it):it∈L:=nQ h
section
variable {P:Program} {N:Nat} {f:Fr} {w0 w:World} {M:eP} {L:gD} {ops:Array Oper} {d:Nat} {ty:TypeId} {pos:String} {aft:Array Edge} {gd:Option (Nat×Bool)} {x y:Operand} {t:TypeId}
theorem Nw {g o:Nat} {u:TypeId} {cs:cU} {v:Value} (hs:SH w0 w M L) (hi:It.blk g u cs∈L) (hx:ev f x=.pointer (some ⟨g,o,none⟩)) (hc:cs[o]?=some v) (h1:m8 P t=true):
    RV P f w ⟨some d,.load t x,ty,pos,aft,gd⟩ v:=by
  obtain ⟨i,hi⟩:=List.getElem?_of_mem hi
  exact ld hs i hi hx hc h1
theorem rD {g o n:Nat} {u:TypeId} {cs vs:cU} (hs:SH w0 w M L) (hi:It.blk g u cs∈L) (hx:ev f x=.pointer (some ⟨g,o,none⟩)) (hc:(cs.drop o).take n=vs) (hn:vs.length=n) (h1:qF P t n=true):
    RV P f w ⟨some d,.load t x,ty,pos,aft,gd⟩ (.agg vs.toArray):=by
  obtain ⟨i,hi⟩:=List.getElem?_of_mem hi
  exact XY hs i hi hx hc hn h1
theorem N4 {S:World→Prop} {K:Fr→Prop} {l:List Oper} {A:aM} {n c e b:Nat} {zv:Value} {X:eP} {k:IntKind} {xs:cU} {u:Value} (i:Nat) (hT:jW P t e 1 b zv) (hx:ev f x=.slice A n c) (hy:ev f y=.int k i) (hS:Sl w0 X 1 A n c xs) (hi:i<n) (hu:xs[i]?=some u)
    (hg:On ops f gd) (hd:Nat.blt d N=true) (h: ∀ a,PA w0 X a [u]→QY P N ops S K l (fY f d (.pointer (some a)))):
    QY P N ops S K (⟨some d,.indexAddr t x y,ty,pos,aft,gd⟩::l) f:=by
  obtain ⟨a,rfl,hp⟩:=hS.at_ hi
  exact .op hg rfl hd (fun w _=>RV.mk (by simp[execOp,hx,hy,KZ hT a hi])) (h _ (S6 hp hu))
end
theorem QJ {P:Program} {N:Nat} {Q:Po} {f:Fr} {w:World} {ops:Array Oper} {rest:List Oper} {d:Nat} {k:FuncId} {args:List Operand} {ts:Array TypeId} {g:Operand} {ty:TypeId} {pos:String} {aft:Array Edge} {gd:Option (Nat×Bool)} {post:Value→World→Prop}
    (hg:On ops f gd) (hd:Nat.blt d N=true) (hv:ev f g=.func (.func k) #[] #[]) (hF:bF P k (args.map (ev f)) w post)
    (h: ∀ v w',post v w'→WL P N ops Q rest (fY f d v) w'):WL P N ops Q (⟨some d,.call ⟨.value g,args.toArray,ts⟩,ty,pos,aft,gd⟩::rest) f w:=
  WL.call (first:=[]) (cap:=[]) hg hd hv (by simpa using hF) h

def dC (A:aM) (c:Nat):eP:=if c=0 then[] else match A with | some a=>[a.block] | none=>[]
def It.blocks:It→eP
  | .blk g _ _=>[g]
  | .own A _ c _ _ _=>dC A c
  | .rows _ us=>us.flatMap fun u=>dC u.A u.c
theorem YH {A:aM} {c k:Nat}:k∈dC A c↔c≠0∧ ∃ a,A=some a∧a.block=k:=by
  unfold dC
  split
  · rename_i h
    simp[h]
  · rename_i h
    cases A with
    | none=>simp
    | some a=>simp[h,eq_comm]
theorem It.x8 {i:It} {k:Nat}:k∈i.blocks↔i.has k:=by
  cases i with
  | blk g t cs=>simp[It.blocks,It.has,eq_comm]
  | own A n c e sz xs=>simp only[It.blocks,It.has,YH]
  | rows e us=>simp only[It.blocks,It.has,Hd.has,List.mem_flatMap,YH]
section
variable {w0 w w1:World} {M:eP} {L:gD}
theorem SH.CP (K:gD) (h: ∀ i∈K,i.ok w) (hd:K.Pairwise fun a b=>∀ _k,a.has _k→ ¬ b.has _k):SH w w (K.flatMap It.blocks) K:=
  SH.entry h (fun i hi _ hk=>List.mem_flatMap.2 ⟨i,hi,It.x8.2 hk⟩) hd
theorem SH.vV {K R L':gD} {M':eP} (hs:SH w0 w M (K++R)) (hc:SH w w1 M' L') (hM:M'=K.flatMap It.blocks):SH w0 w1 M (R++L'):=by
  have hX: ∀ k,k∈M'→ ∃ i∈K,i.has k:=fun k hk=>by
    rw[hM,List.mem_flatMap]at hk
    obtain ⟨i,hi,hk⟩:=hk
    exact⟨i,hi,It.x8.1 hk⟩
  have hdis:=List.pairwise_append.1 hs.dis
  exact hs.change R L' (fun k=>k∈M') hc.os hc.tape hc.output hc.size hc.rC (List.sublist_append_right K R)
    (fun b hb k hk hm=>by
      obtain ⟨i,hi,hik⟩:=hX k hm
      exact hdis.2.2 i hi b hb k hik hk)
    (fun k hm=>by
      obtain ⟨i,hi,hik⟩:=hX k hm
      exact hs.lo i (List.mem_append_left _ hi) k hik)
    hc.ok (fun i hi k hk=>(hc.lo i hi k hk).symm) hc.dis
theorem sB (hs:SH w0 w M L) (i:Nat) {A:aM} {n c e sz:Nat} {xs:cU} (hi:L[i]?=some (.own A n c e sz xs)):j6 w A n c e sz xs:=hs.ok _ (nQ hi)
theorem uP (hs:SH w0 w M L) (i j:Nat) (hij:i≠j) {a b:It} (hi:L[i]?=some a) (hj:L[j]?=some b): ∀ k,a.has k→ ¬ b.has k:=by
  have h:=List.pairwise_iff_getElem.1 hs.dis
  obtain ⟨hli,rfl⟩:=List.getElem?_eq_some_iff.1 hi
  obtain ⟨hlj,rfl⟩:=List.getElem?_eq_some_iff.1 hj
  rcases Nat.lt_or_gt_of_ne hij with hlt | hgt
  · exact h i j hli hlj hlt
  · exact fun k ha hb=>h j i hlj hli hgt k hb ha
end
section
variable {P:Program} {N:Nat} {Q:Po} {f:Fr} {w0 w:World} {M:eP} {L:gD} {ops:Array Oper} {rest:List Oper} {d:Nat} {ty:TypeId} {pos:String} {aft:Array Edge} {gd:Option (Nat×Bool)}
variable {x y z:Operand} {t t2 e:TypeId}
theorem xr {a b:Nat} (hx:ev f x=.int .i64 a) (hy:ev f y=.int .i64 b) (ha:a<9223372036854775808) (hb:b<9223372036854775808):RV P f w ⟨some d,.binOp .xor t x y t2,ty,pos,aft,gd⟩ (.int .i64 ((a ^^^ b:Nat):Int)):=by
  have hx':a ^^^ b<2 ^ 63:=Nat.xor_lt_two_pow (by omega) (by omega)
  have e1:a % 2 ^ IntKind.i64.bits=a:=JF (show a<2 ^ 64 by omega)
  have e2:b % 2 ^ IntKind.i64.bits=b:=JF (show b<2 ^ 64 by omega)
  have e3:=AK (x:=((a ^^^ b:Nat):Int)) ⟨by omega,by omega⟩
  exact RV.mk (by simp[execOp,hx,hy,eqGuard,binOp,Op.intBits,e1,e2,e3])
theorem ZQ {p:aM} (hp:P.underlying t=some (.pointer e)) (hx:ev f x=.pointer p) (hy:ev f y=.pointer none):RV P f w ⟨some d,.binOp .eql t x y t2,ty,pos,aft,gd⟩ (.bool (decide (p=none))):=
  RV.mk (by
    have h: ∀ n,(Op.equalIn (n+1) t (.pointer p) (.pointer none)).run P w=.ok (decide (p=none)) w:=fun n=>by
      cases p <;> simp[Op.equalIn,kQ hp]
    have h2:(Op.equal t (.pointer p) (.pointer none)).run P w=.ok (decide (p=none)) w:=h 9999
    simp[execOp,hx,hy,eqGuard,binOp,h2])
theorem Re {j:TypeInfo} {a:Addr} (hp:P.underlying t=some (.pointer e)) (he:P.info? e=some j) (hx:ev f x=.pointer (some a)) (hy:ev f y=.pointer (some a)):RV P f w ⟨some d,.binOp .neq t x y t2,ty,pos,aft,gd⟩ (.bool false):=
  RV.mk (by
    have:=Go.Lib.run_neq_ptr_same w a hp he
    simp[execOp,hx,hy,eqGuard,this])
theorem UT {g:Nat} {u:TypeId} {cs:cU} (hs:SH w0 w M L) (i:Nat) (hi:L[i]?=some (.blk g u cs)):w.shape? g=some (u,cs.length):=by
  have h:w.heap[g]?=_:=hs.ok _ (nQ hi)
  simp[World.shape?,h]
def GG (P:Program) (t:TypeId):Bool:=match P.info? t with | some j=>j.size != 0 | none=>false
theorem Yc {g:Nat} {u:TypeId} {cs:cU} (hs:SH w0 w M L) (i:Nat) (hi:L[i]?=some (.blk g u cs)) (h1:P.underlying t=some (.pointer e)) (h2:P.underlying t2=some .unsafePointer) (h3:GG P e=true) (hc:0<cs.length) (hx:ev f x=.pointer (some ⟨g,0,none⟩)):
    RV P f w ⟨some d,.convert t t2 x,ty,pos,aft,gd⟩ (.pointer (some ⟨g,0,none⟩)):=by
  unfold GG at h3
  cases hj:P.info? e with
  | none=>rw[hj]at h3; cases h3
  | some j=>
    rw[hj]at h3
    have:=Go.Lib.run_to_unsafe (P:=P) w ⟨g,0,none⟩ h1 h2 hj (by simpa using h3) (UT hs i hi) hc
    exact RV.mk (by simp[execOp,hx,this])
theorem Ji {g:Nat} {u:TypeId} {cs:cU} (hs:SH w0 w M L) (i:Nat) (hi:L[i]?=some (.blk g u cs)) (h1:P.underlying t=some .unsafePointer) (h2:P.underlying t2=some (.pointer e)) (h3:GG P e=true) (hl:liesAt P P.depth u (cs.length / P.cellsOf u) 0 e 1=true) (hx:ev f x=.pointer (some ⟨g,0,none⟩)):
    RV P f w ⟨some d,.convert t t2 x,ty,pos,aft,gd⟩ (.pointer (some ⟨g,0,none⟩)):=by
  unfold GG at h3
  cases hj:P.info? e with
  | none=>rw[hj]at h3; cases h3
  | some j=>
    have:=Go.Lib.run_from_unsafe (P:=P) w ⟨g,0,none⟩ h1 h2 hj (UT hs i hi) hl
    exact RV.mk (by simp[execOp,hx,this])
theorem Qc {k:FuncId} {fn:Func} {ts:Array TypeId} {v:Value} (hf:P.funcs[k]?=some fn) (hname:(fn.name == "runtime.NumGoroutine")=false)
    (hb:fn.body.isNone=true) (hn:Extern.findNext fn=none) (he:Extern.find fn=some Extern.AbiNoEscape.same) (hx:ev f x=v):
    RV P f w ⟨some d,.call ⟨.value (.func k), #[x],ts⟩,ty,pos,aft,gd⟩ v:=by
  refine RV.mk ?_
  have hg:ev f (.func k)=.func (.func k) #[] #[]:=rfl
  have hbb:fn.body=none:=by cases h:fn.body <;> simp_all
  have hr:(callFunc k #[v]).run P w=.ok (.value v) w:=by
    have:=Go.Lib.run_noEscape (P:=P) w v
    have hname': ¬ fn.name= "runtime.NumGoroutine" :=by simpa using hname
    simp[callFunc,hf,hname',hbb,hn,he,this]
  have hd:execOp (ev f) ⟨some d,.call ⟨.value (.func k), #[x],ts⟩,ty,pos,aft,gd⟩=callFunc k #[v]:=by
    simp[execOp,resolve,hg,Deferred.ofValue,invoke,hx]
  rw[hd,hr]
end
section
variable {P:Program} {N:Nat} {Q:Po} {f:Fr} {w0 w:World} {M:eP} {L:gD} {ops:Array Oper} {rest:List Oper} {d:Nat} {ty:TypeId} {pos:String} {aft:Array Edge} {gd:Option (Nat×Bool)}
variable {x y z:Operand} {t t2:TypeId} {e n c b:Nat} {A:aM} {zv:Value} {α:Type} {g:α→Value} {ys zs:List α}
theorem DQ {k o:Nat} {u:α} {v:Value} (hs:SH w0 w M L) (i:Nat) (hi:L[i]?=some (.own (some ⟨k,0,none⟩) n c e 1 (ys.map g))) (hx:ev f x=.pointer (some ⟨k,o*1,none⟩)) (hy:ev f y=v) (hv:v=g u) (ho:o<n) (h1:(g u).oneCell'=true) (h2:m8 P t=true)
    (hg:On ops f gd) (h: ∀ w1,SH w0 w1 M (L.eraseIdx i++[.own (some ⟨k,0,none⟩) n c e 1 ((ys.set o u).map g)])→WL P N ops Q rest f w1):
    WL P N ops Q (⟨none,.store t x y,ty,pos,aft,gd⟩::rest) f w:=
  Wl hs i hi hx (hy.trans hv) (by omega) h1 h2 hg fun w1 aE=>by
    refine h w1 ?_
    rw[List.map_set]
    simpa using aE
theorem H9 (d0:α) {k o:Nat} (hs:SH w0 w M L) (i:Nat) (hi:L[i]?=some (.own (some ⟨k,0,none⟩) n c e 1 (ys.map g))) (hx:ev f x=.pointer (some ⟨k,o*1,none⟩)) (ho:o<ys.length) (h1:m8 P t=true):
    RV P f w ⟨some d,.load t x,ty,pos,aft,gd⟩ (g (ys.getD o d0)):=
  XZ hs i hi hx (by rw[CB]; exact eQ g d0 ho) h1
theorem SH.cast {L':gD} (hs:SH w0 w M L) (h:L=L'):SH w0 w M L':=h ▸ hs
theorem usd {ts:Array TypeId} {a:Addr} {m:Nat} (hx:ev f x=.slice (some a) m c) (hc:c≠0):RV P f w ⟨some d,.call ⟨.builtin .unsafeSliceData, #[x],ts⟩,ty,pos,aft,gd⟩ (.pointer (some a)):=
  RV.mk (by simp[execOp,resolve,invoke,builtin,hx,Go.Lib.run_unsafeSliceData_row w ts ty a m c hc])
theorem Ym {ts:Array TypeId} {m:Nat} (hx:ev f x=.slice none m c):RV P f w ⟨some d,.call ⟨.builtin .unsafeSliceData, #[x],ts⟩,ty,pos,aft,gd⟩ (.pointer none):=
  RV.mk (by simp[execOp,resolve,invoke,builtin,hx,Go.Lib.run_unsafeSliceData_nil w ts ty m c])
theorem Yp {pt it:TypeId} {p:aM} (hx:ev f x=.pointer p) (hy:ev f y=.int .i64 0):RV P f w ⟨some d,.call ⟨.builtin .unsafeString, #[x,y], #[pt,it]⟩,ty,pos,aft,gd⟩ (aA []):=
  RV.mk (by simp[execOp,resolve,invoke,builtin,hx,hy,Go.Lib.run_unsafeString_none w pt it ty p]; rfl)
theorem yR {pt it:TypeId} {l:aD} {k:Nat} (hs:SH w0 w M L) (i:Nat) (hi:L[i]?=some (.own (some ⟨k,0,none⟩) l.length c e 1 (l.map U))) (hp:P.underlying pt=some (.pointer e)) (hc:P.cellsOf e=1)
    (hx:ev f x=.pointer (some ⟨k,0,none⟩)) (hy:ev f y=.int .i64 (l.length:Nat)) (h0:0<l.length) (hg:On ops f gd) (hd:Nat.blt d N=true)
    (h: ∀ w1,SH w0 w1 M (L.eraseIdx i)→WL P N ops Q rest (fY f d (aA l)) w1):
    WL P N ops Q (⟨some d,.call ⟨.builtin .unsafeString, #[x,y], #[pt,it]⟩,ty,pos,aft,gd⟩::rest) f w:=by
  have ho:=sB hs i hi
  obtain ⟨h1,h2,h3,h4 | ⟨g',cur,hA,hgc,hcs,htake⟩⟩:=id ho
  · omega
  · cases hA
    have iI:w.shape? k=some (e,cur.size):=by simp[World.shape?,hgc]
    have hr:=Go.Lib.run_unsafeString_row (P:=P) w pt it ty e hp hc k cur.size iI l (by intro hn; subst hn; simp at h0) (by omega) (by unfold maxLen at h3; omega) (fun j u hu=>by
      have hj:j<l.length:=(List.getElem?_eq_some_iff.1 hu).1
      rw[Addr.add_lit,pT,(S4 ho (by omega)).1,vQ,hu]
      rfl)
    refine WL.op hg rfl hd (w':=w.freeze ⟨k,0,none⟩ l.length) (by simp[execOp,resolve,invoke,builtin,hx,hy,hr]; rfl) (h _ ?_)
    have hb:=Go.Lib.below_freeze (B:=0) (Below.refl 0 w) (p:=⟨k,0,none⟩) (yX _) l.length
    have:=hs.write (w1:=w.freeze ⟨k,0,none⟩ l.length) i [] hi hb.os hb.tape hb.output hb.size (fun j hj hn=>by
      unfold World.freeze
      split
      · rfl
      · have:k≠j:=fun e=>hn ⟨by omega,_,rfl,e⟩
        simp only[LO]
        rw[b0 this]) (by simp) (by simp) .nil
    simpa using this
end
theorem dZ {α:Type} {g:α→Value} {A A':aM} {n n' c c' e:Nat} {zs zs':List α} (hA:A=A') (hn:n=n') (hc:c=c') (hz:zs=zs'):It.own A n c e 1 (zs.map g)=It.own A' n' c' e 1 (zs'.map g):=by
  subst hA; subst hn; subst hc; subst hz; rfl
theorem lc {α:Type} {a b:α} {l m:List α} (h:a=b) (t:l=m):a::l=b::m:=by subst h; subst t; rfl
theorem eE {A A':aM} {n n' c c':Nat} (hA:A=A') (hn:n=n') (hc:c=c'):Value.slice A n c=Value.slice A' n' c':=by subst hA; subst hn; subst hc; rfl
theorem kE {a b a' b':Value} (h1:a=a') (h2:b=b'):Value.tuple #[a,b]=.tuple #[a',b']:=by subst h1; subst h2; rfl
theorem Dl {a b c a' b' c':Value} (h1:a=a') (h2:b=b') (h3:c=c'):Value.tuple #[a,b,c]=.tuple #[a',b',c']:=by subst h1; subst h2; subst h3; rfl
theorem Sl.PT {α:Type} {g:α→Value} {w:World} {X:eP} {A:aM} {c:Nat} {zs:List α} (h:Sl w X 1 A zs.length c (zs.map g)) (n:Nat):Sl w X 1 A (zs.take n).length c ((zs.take n).map g):=by
  rcases Nat.le_total n zs.length with hn | hn
  · exact h.JX hn
  · rw[lI hn]
    exact h
theorem SH.mE {w0 w:World} {L:gD} {g:Nat} {t:TypeId} {cs:cU} (hs:SH w0 w [] L) (i:Nat) (hi:L[i]?=some (.blk g t cs)): ∀ k∈[g],w0.heap.size≤k:=by
  intro k hk
  simp at hk
  subst hk
  exact Gc hs i hi
section
variable {P:Program} {f:Fr} {w:World} {d:Nat} {ty:TypeId} {pos:String} {aft:Array Edge} {gd:Option (Nat×Bool)} {t:TypeId}
theorem Ga {parts:List (Nat×Operand)} {v:Value} (vs:List (Nat×Value)) (hp:parts.map (fun p=>(p.1,ev f p.2))=vs) (hb: ∀ w,(Instr.build t vs.toArray).run P w=.ok v w):
    RV P f w ⟨some d,.build t parts.toArray,ty,pos,aft,gd⟩ v:=
  RV.mk (by
    have hp':(parts.map fun(i,x)=>(i,ev f x))=vs:=hp
    simp only[execOp,List.map_toArray,hp',Sem.run_bind,hb,Result.andThen_ok,Sem.run_pure])
end
section
variable {P:Program} {f:Fr} {w:World} {d:Nat} {ty:TypeId} {pos:String} {aft:Array Edge} {gd:Option (Nat×Bool)} {t t2 e:TypeId} {x y:Operand}
theorem Rg (hp:P.underlying t=some (.pointer e)) (hx:ev f x=.pointer none) (hy:ev f y=.pointer none):RV P f w ⟨some d,.binOp .eql t x y t2,ty,pos,aft,gd⟩ (.bool true):=by
  have:=ZQ (w:=w) (d:=d) (ty:=ty) (pos:=pos) (aft:=aft) (gd:=gd) (t2:=t2) hp hx hy
  simpa using this
theorem Rh {a:Addr} (hp:P.underlying t=some (.pointer e)) (hx:ev f x=.pointer (some a)) (hy:ev f y=.pointer none):RV P f w ⟨some d,.binOp .eql t x y t2,ty,pos,aft,gd⟩ (.bool false):=by
  have:=ZQ (w:=w) (d:=d) (ty:=ty) (pos:=pos) (aft:=aft) (gd:=gd) (t2:=t2) hp hx hy
  simpa using this
theorem Rf {a:Addr} (hp:P.underlying t=some (.pointer e)) (he:GG P e=true) (hx:ev f x=.pointer (some a)) (hy:ev f y=.pointer (some a)):RV P f w ⟨some d,.binOp .neq t x y t2,ty,pos,aft,gd⟩ (.bool false):=by
  unfold GG at he
  cases hj:P.info? e with
  | none=>rw[hj]at he; cases he
  | some j=>exact Re hp hj hx hy
end
theorem QV {w:World} {g:Nat} {t:TypeId} {cs:cU} {A:aM} {n c e sz:Nat} {xs:cU} (h:w.heap[g]?=some (.cells cs.toArray t (0,0))) (ho:j6 w A n c e sz xs)
    (hx: ∀ k,(It.own A n c e sz xs).has k→ ¬ (It.blk g t cs).has k):SH w w ([g]++(dC A c++[])) [.blk g t cs,.own A n c e sz xs]:=
  SH.CP [.blk g t cs,.own A n c e sz xs] (by
    intro i hi
    simp at hi
    rcases hi with rfl | rfl
    · exact h
    · exact ho) (by
    refine List.pairwise_cons.2 ⟨fun b hb k hk hbk=>?_,by simp⟩
    simp at hb
    subst hb
    exact hx k hbk hk)
theorem SH.Px {w0 w:World} {M M':eP} {L:gD} (hs:SH w0 w M L) (h: ∀ k∈M,k∈M'):SH w0 w M' L:=
  ⟨hs.os,hs.tape,hs.output,hs.size,fun k hk hn=>hs.rC k hk (fun hm=>hn (h k hm)),hs.ok,fun i hi k hk=>(hs.lo i hi k hk).imp id (h k),hs.dis⟩
theorem Qx {w:World} {A:aM} {n c e sz:Nat} {xs:cU} (h:j6 w A n c e sz xs) (h0:0<n): ∃ g,A=some ⟨g,0,none⟩:=by
  obtain ⟨_,h2,_,h | ⟨g,_,hA,_⟩⟩:=h
  · omega
  · exact⟨g,hA⟩
theorem bF.Gf {P:Program} {k:FuncId} {args args':cU} {w:World} {post:Value→World→Prop} (h:args=args') (hd:bF P k args w post):bF P k args' w post:=h ▸ hd

section
variable {P:Program} {N:Nat} {Q:Po} {f:Fr} {w0 w:World} {M:eP} {L:gD} {ops:Array Oper} {rest:List Oper} {ty:TypeId} {pos:String} {aft:Array Edge} {gd:Option (Nat×Bool)} {x y:Operand} {t:TypeId}
theorem SH.setRow {g:Nat} {u:TypeId} {cs cs':cU} (hs:SH w0 w M L) (i:Nat) (hi:L[i]?=some (.blk g u cs)):SH w0 (w.setRow g cs'.toArray) M (L.eraseIdx i++[.blk g u cs']):=
  hs.write i [.blk g u cs'] hi rfl rfl rfl (by simp[World.setRow]) (fun k _ hn=>by
      have:g≠k:=fun e=>hn e
      simp only[World.setRow,LO]
      rw[b0 this])
    (by intro j hj; simp at hj; subst hj; exact setRow_heap w g cs.toArray _ u _ (hs.ok _ (nQ hi))) (by intro j hj k hk; simp at hj; subst hj; exact .inl hk) (by simp)
theorem Wk {g o n:Nat} {u:TypeId} {cs vs cs':cU} (hs:SH w0 w M L) (i:Nat) (hi:L[i]?=some (.blk g u cs)) (hx:ev f x=.pointer (some ⟨g,o,none⟩)) (hy:ev f y=.agg vs.toArray) (hl:vs.length=n) (ho:Nat.ble (o+n) cs.length=true)
    (hv:vs.all (·.oneCell')=true) (hcs:cs.take o++vs++cs.drop (o+n)=cs') (h1:qF P t n=true)
    (hg:On ops f gd) (h: ∀ w1,SH w0 w1 M (L.eraseIdx i++[.blk g u cs'])→WL P N ops Q rest f w1):
    WL P N ops Q (⟨none,.store t x y,ty,pos,aft,gd⟩::rest) f w:=
  WL.OP hg rfl (w':=w.setRow g cs'.toArray) (by
    have hb:w.heap[g]?=some (.cells cs.toArray u (0,0)):=hs.ok _ (nQ hi)
    have ho':o+n≤cs.length:=Nat.le_of_ble_eq_true ho
    subst hl
    subst hcs
    have:=run_storeCells_at P g o u vs 0 cs.toArray w hb (by simpa using ho') (List.all_eq_true.1 hv)
    simp only[Nat.add_zero]at this
    simp[execOp,hx,hy,Instr.storeAt,Instr.sureAddr,storeVar,Br h1,Value.cells,this]) (h _ (hs.setRow i hi))
end
theorem oP {l m:cU} (h:l=m):Value.agg l.toArray=.agg m.toArray:=by subst h; rfl

section
variable {P:Program} {N:Nat} {Q:Po} {f:Fr} {w0 w:World} {M:eP} {L:gD} {ops:Array Oper} {rest:List Oper} {d:Nat} {ty:TypeId} {pos:String} {aft:Array Edge} {gd:Option (Nat×Bool)} {x y:Operand} {t e:TypeId}
theorem PA.yQ {X Y:eP} {a:Addr} {us:cU} (h:PA w0 X a us) (hs:SH w0 w M L) (hM: ∀ k∈M,k∈X) (hY: ∀ k∈Y,k∈X∨w0.heap.size≤k):PA w Y a us:=
  ⟨LR h.1 hs.size,fun hk=>(hY _ hk).elim h.2.1 (fun hh=>by have:=h.1; omega),fun _ _ hu=>h.up hs hM hu⟩
theorem PA.aP {a:Addr} {us:cU} (h:PA w0 [] a us) (hs:SH w0 w [] L):PA w [] a us:=h.yQ hs (by simp) (by simp)
def HG (P:Program) (t n e:Nat):Bool:=
  match P.underlying t with
  | some (.array m e')=>m == n && e' == e && (match P.info? e with | some j=>j.size == 1 | none=>false)
  | _=>false
theorem Am {n i:Nat} {k:IntKind} (hA:HG P t n e=true) (a:Addr) (hi:i<n) (w:World):(Instr.indexAt t (.pointer (some a)) (.int k i)).run P w=.ok (.pointer (some (a.add i))) w:=by
  unfold HG at hA
  split at hA
  · rename_i m e' hu
    simp only[iF,beq_iff_eq]at hA
    obtain ⟨⟨h1,h2⟩,h3⟩:=hA
    subst h1
    subst h2
    cases hj:P.info? e' with
    | none=>rw[hj]at h3; cases h3
    | some j=>
      rw[hj]at h3
      simp at h3
      simp[Instr.indexAt,asIntOf,kQ hu,Instr.sureAddr,sizeOf,typeInfo,hj,hi,h3]
  · cases hA
theorem ZD {X:eP} {a:Addr} {us:cU} {u:Value} {i:Nat} (h:PA w X a us) (hu:us[i]?=some u):PA w X (a.add i) [u]:=
  ⟨by rw[block_add]; exact h.1,by rw[block_add]; exact h.2.1,fun j v hv=>by
    cases j with
    | zero=>
      simp at hv
      subst hv
      rw[Addr.add_zero']
      exact h.2.2 i u hu
    | succ j=>simp at hv⟩
theorem R5 {X:eP} {k:IntKind} {us:cU} {u:Value} {g n:Nat} (i:Nat) (hA:HG P t n e=true) (hx:ev f x=.pointer (some ⟨g,0,none⟩)) (hy:ev f y=.int k i) (hS:PA w0 X ⟨g,0,none⟩ us) (hi:i<n) (hu:us[i]?=some u) (hg:On ops f gd) (hd:Nat.blt d N=true)
    (h: ∀ a,PA w0 X a [u]→WL P N ops Q rest (fY f d (.pointer (some a))) w):
    WL P N ops Q (⟨some d,.indexAddr t x y,ty,pos,aft,gd⟩::rest) f w:=
  WL.op hg rfl hd (by simp[execOp,hx,hy,Am hA ⟨g,0,none⟩ hi]) (h _ (ZD hS hu))
theorem My {C:World→Prop} {Qf:Fr→Prop} {X:eP} {k:IntKind} {us:cU} {u:Value} {g n:Nat} (i:Nat) (hA:HG P t n e=true) (hx:ev f x=.pointer (some ⟨g,0,none⟩)) (hy:ev f y=.int k i) (hS:PA w0 X ⟨g,0,none⟩ us) (hi:i<n) (hu:us[i]?=some u) (hg:On ops f gd) (hd:Nat.blt d N=true)
    (h: ∀ a,PA w0 X a [u]→QL P N ops C Qf rest (fY f d (.pointer (some a)))):
    QL P N ops C Qf (⟨some d,.indexAddr t x y,ty,pos,aft,gd⟩::rest) f:=
  qq hg rfl hd (fun w _=>RV.mk (by simp[execOp,hx,hy,Am hA ⟨g,0,none⟩ hi])) (h _ (ZD hS hu))
end


abbrev hv (h:Hd):Value:=.slice h.A h.xs.length h.c
def gU:Hd:=⟨none,0,[]⟩
def GP (w:World) (X:eP) (h:Hd):Prop:=Sl w X 1 h.A h.xs.length h.c (h.xs.map I)
def iK (l:List Hd):aC:=l.flatMap (·.xs)
theorem JQ {l:List Hd} {k:Nat} (h:k<l.length):iK (l.take k)++(l.getD k gU).xs=iK (l.take (k+1)):=by
  unfold iK
  rw[qD h,JC,yS,wH h]
  simp
theorem MQ {l:List Hd} {k:Nat}:(iK (l.take k)).length≤(iK l).length:=by
  have:iK l=iK (l.take k)++iK (l.drop k):=by
    unfold iK
    rw[← JC,D0]
  rw[this]
  simp
theorem o5 {α:Type} {p:α→Prop}: ∀ u∈([]:List α),p u:=by simp
theorem eX {α:Type} {p:α→Prop} {a:α} {l:List α} (h:p a) (t: ∀ u∈l,p u): ∀ u∈a::l,p u:=by
  intro u hu
  rcases List.mem_cons.1 hu with rfl | hu
  · exact h
  · exact t u hu
theorem CV {α:Type} {l:List α} {i:Nat} {d:α} (h:i<l.length):l.getD i d∈l:=by
  rw[yS,wH h]
  exact rM h
section
variable {P:Program} {N:Nat} {Q:Po} {f:Fr} {w0 w:World} {M:eP} {L:gD} {ops:Array Oper} {rest:List Oper} {d:Nat} {ty:TypeId} {pos:String} {aft:Array Edge} {gd:Option (Nat×Bool)}
variable {x y z:Operand} {t t2:TypeId} {e n c b:Nat} {A:aM} {zv:Value}
theorem Sj (ht:P.underlying t=some (.slice e)) (w:World):(Op.equal t (.slice A n c) (.slice none 0 0)).run P w=.ok (decide (A=none)) w:=by
  have: ∀ m,(Op.equalIn (m+1) t (.slice A n c) (.slice none 0 0)).run P w=.ok (decide (A=none)) w:=fun m=>by
    cases A <;> simp[Op.equalIn,kQ ht]
  exact this 9999
theorem slnil {sz:Nat} (hT:jW P t e sz b zv) (hx:ev f x=.slice A n c) (hy:ev f y=.slice none 0 0):RV P f w ⟨some d,.binOp .eql t x y t2,ty,pos,aft,gd⟩ (.bool (decide (A=none))):=
  RV.mk (by simp[execOp,hx,hy,eqGuard,binOp,Sj hT.und])
theorem Vn {X:eP} {α:Type} {g:α→Value} {zs:List α} (h:Sl w X 1 A zs.length c (zs.map g)) (hA:A=none):zs=[]:=by
  rcases wI zs.length with h0 | h0
  · exact vO h0
  · obtain ⟨a,ha,_⟩:=h.2.2.2 h0
    rw[hA]at ha
    cases ha
theorem X6 {sz:Nat} (hT:jW P t e sz b zv) (hx:ev f x=.slice A n c):
    RV P f w ⟨some d,.call ⟨.builtin .cap, #[x], #[t]⟩,ty,pos,aft,gd⟩ (.int .i64 c):=
  RV.mk (by simp[execOp,resolve,invoke,builtin,Builtin.cap_,hx,kQ hT.und,goInt])
theorem Hc {sz:Nat} {kh:IntKind} (hT:jW P t e sz b zv) (hx:ev f x=.slice none 0 0) (hz:ev f z=.int kh ((0:Nat):Int)):
    RV P f w ⟨some d,.slice t x none (some z) none,ty,pos,aft,gd⟩ (.slice none 0 0):=JT 0 hT hx hz (lA _)
theorem SH.TV {xs:cU} {sz:Nat} (hs:SH w0 w M L) (i k:Nat) (hi:L[i]?=some (.own A n c e sz xs)) (hk:k≤n):SH w0 w M (L.eraseIdx i++[.own A k c e sz (xs.take (k*sz))]):=by
  refine hs.write i [_] hi rfl rfl rfl (lA _) (fun _ _ _=>rfl) ?_ ?_ (by simp)
  · intro j hj
    simp at hj
    subst hj
    obtain ⟨h1,h2,h3,h4⟩:j6 w A n c e sz xs:=hs.ok _ (nQ hi)
    have hle:k*sz≤n*sz:=Nat.mul_le_mul_right _ hk
    refine⟨by rw[dV,h1]; exact Nat.min_eq_left hle,by omega,h3,h4.imp id fun⟨g,cur,ha,hg,lQ,htk⟩=>⟨g,cur,ha,hg,lQ,?_⟩⟩
    rw[← htk,List.take_take]
    congr 1
    omega
  · intro j hj k' hk'
    simp at hj
    subst hj
    exact .inl hk'
theorem Fl {m:Nat} {α:Type} {g:α→Value} {zz:α} (hs:SH w0 w M L) (hT:jW P t e 1 b (g zz)) (hz:(g zz).cells= #[g zz]) (qJ:P.underlying t2=some (.int .i64)) (hx:ev f x=.slice none 0 0) (hy:ev f y=.int .i64 (m:Nat)) (h0:0<m) (qZ:m≤maxLen) (hb:m*b≤140737488355328) (hg:On ops f gd) (hd:Nat.blt d N=true)
    (h: ∀ A' c' w1,SH w0 w1 M (L++[.own A' (List.replicate m zz).length c' e 1 ((List.replicate m zz).map g)])→WL P N ops Q rest (fY f d (.slice A' (List.replicate m zz).length c')) w1):
    WL P N ops Q (⟨some d,.call ⟨.builtin .append, #[x,y], #[t,t2]⟩,ty,pos,aft,gd⟩::rest) f w:=by
  obtain ⟨i,hi,hzi,h1,h2⟩:=hT.inf
  subst h2
  have Ku:(m:Int)≤9223372036854775807:=by unfold maxLen at qZ; omega
  have hwrap:IntKind.i64.wrap ((m:Nat):Int)=m:=AK ⟨by omega,Ku⟩
  have HX: ¬ (((m:Nat):Int)<0):=by omega
  have hb':(m:Int)*(i.bytes:Int)≤140737488355328:=by
    have:((m*i.bytes:Nat):Int)≤140737488355328:=by omega
    rwa [Int.natCast_mul]at this
  have zV: ¬ ((m:Int)*(i.bytes:Int)>281474976710656):=by omega
  have pN: ¬ (281474976710656<Builtin.nextslicecap m 0*i.bytes):=by rw[nextslicecap_zero h0]; omega
  have J8: ¬ (9223372036854775807<((m:Nat):Int)):=by omega
  have RI:m≠0:=by omega
  have hge:=grownCap_ge w m 0 e
  have hcm:grownCap w m 0 e≤maxLen:=LQ w m 0 e qZ
  have uO:Builtin.zeroCells (g zz).cells m=(List.replicate m (g zz)).toArray:=by
    rw[hz]
    apply Array.ext
    · simp[Builtin.zeroCells]
    · intro j h1 h2
      simp[Builtin.zeroCells,Nat.mod_one]
  have hr:(Builtin.append_ #[t,t2] ty #[.slice none 0 0,.int .i64 (m:Nat)]).run P w=
      .ok (.slice (some ⟨w.heap.size,0,none⟩) m (grownCap w m 0 e)) (w.drew.alloc (.cells ((List.replicate m (g zz)).toArray++Builtin.zeroCells (g zz).cells (grownCap w m 0 e-m)) e)):=by
    simp[Builtin.append_,kQ hT.und,kQ qJ,sizeOf,typeInfo,zeroValue,hi,hzi,asInt,asIntOf,hwrap,HX,zV,RI,J8,pN,Question.forced,Builtin.firstCells,newRow,grownCap,h1]
    rw[uO]
    simp
  have hcells:(List.replicate m (g zz)).length=m:=by simp
  refine WL.op hg rfl hd (v:=.slice (some ⟨w.heap.size,0,none⟩) m (grownCap w m 0 e)) (w':=w.drew.alloc (.cells ((List.replicate m (g zz)).toArray++Builtin.zeroCells (g zz).cells (grownCap w m 0 e-m)) e)) (by
    have KI:execOp (ev f) ⟨some d,.call ⟨.builtin .append, #[x,y], #[t,t2]⟩,ty,pos,aft,gd⟩=(do let v ← Builtin.append_ #[t,t2] ty #[.slice none 0 0,.int .i64 (m:Nat)]; pure (.value v)):=by
      simp[execOp,resolve,invoke,builtin,hx,hy]
    rw[KI,Sem.run_bind,hr]
    rfl) ?_
  have:=h (some ⟨w.heap.size,0,none⟩) (grownCap w m 0 e) (w.drew.alloc (.cells ((List.replicate m (g zz)).toArray++Builtin.zeroCells (g zz).cells (grownCap w m 0 e-m)) e))
  rw[List.length_replicate]at this
  refine this (hs.drew.more [_] rfl rfl rfl (by simp) (fun k hk=>Below.heap_alloc _ _ _ hk) ?_ ?_ (by simp))
  · intro j hj
    simp at hj
    subst hj
    refine⟨by simp,hge,hcm,.inr ⟨_,_,rfl,GX w.drew _,?_,?_⟩⟩
    · simp only[LU,xG,size_zeroCells,hcells,hz]
      simp
      omega
    · simp only[LP,CB]
      exact List.take_left' hcells
  · intro j hj k hk
    simp at hj
    subst hj
    obtain ⟨_,a',ha',hk⟩:=hk
    cases ha'
    exact Nat.le_of_eq hk
end
theorem MR:iK []=[]:=rfl
theorem MP (a:Hd) (l:List Hd):iK (a::l)=a.xs++iK l:=rfl
section
variable {P:Program} {N:Nat} {Q:Po} {f:Fr} {w:World} {ops:Array Oper} {rest:List Oper} {o:Oper} {d:Nat}
theorem Off.Yr {a:Act} {j:Nat} {b:Bool} {t:Tmp} (hg:o.guard=some (j,b)) (hj:gs ops j=some t) (ht:f t=undef) (ha:mJ N f a):Region.wanted o (yielded ops a.tmps)=false:=by
  unfold Region.wanted
  rw[hg]
  have h0:=ha.at_ t
  rw[ht,GR]at h0
  have hj':(ops[j]?).bind (·.dst)=some t:=hj
  have hy:yielded ops a.tmps j=none:=by
    unfold yielded
    rw[hj']
    simp only[JE]
    cases hx:a.tmps[t]? with
    | none=>rfl
    | some v=>
      rw[hx]at h0
      simp at h0
      rw[h0]
      rfl
  simp[hy]
theorem CW {j:Nat} {b:Bool} {t:Tmp} (hdst:o.dst=some d) (hg:o.guard=some (j,b)) (hj:gs ops j=some t) (ht:f t=undef) (hd:Nat.blt d N=true) (h:WL P N ops Q rest (fY f d undef) w):WL P N ops Q (o::rest) f w:=by
  unfold WL at*
  intro a ha
  refine wpList_step fun K hK=>?_
  rw[b0 (by rw[Off.Yr hg hj ht ha]; simp),hdst]
  exact hK _ _ (h _ (ha.put hd _))
end

section
variable {α:Type} {g:α→cU} {sz:Nat}
theorem V0 (hg: ∀ u,(g u).length=sz): ∀ (l:List α) (k:Nat),(l.flatMap g).drop (k*sz)=(l.drop k).flatMap g
  | [],k=>by simp
  | u::l,0=>by simp
  | u::l,k+1=>by
    rw[GW,List.drop_succ_cons,Nat.add_mul,Nat.one_mul,Nat.add_comm,List.drop_append,hg,Nat.add_sub_cancel_left,V0 hg l k]
    rw[List.drop_of_length_le (by rw[hg]; omega),List.nil_append]
theorem Je (hg: ∀ u,(g u).length=sz) {l:List α} {i:Nat} (d:α) (h:i<l.length):((l.flatMap g).drop (i*sz)).take sz=g (l.getD i d):=by
  rw[V0 hg,rK h,GW,List.take_left' (hg _),yS,wH h]
  rfl
end

section
variable {P:Program} {N:Nat} {Q:Po} {f:Fr} {w0 w:World} {M:eP} {L:gD} {ops:Array Oper} {rest:List Oper} {d:Nat} {ty:TypeId} {pos:String} {aft:Array Edge} {gd:Option (Nat×Bool)}
variable {x y z:Operand} {t t2:TypeId} {e n c b sz:Nat} {A:aM} {zv:Value} {α:Type} {g:α→cU} {ys zs:List α} {X:eP}
theorem ZE {i:Nat} (hg: ∀ u,(g u).length=sz) (d0:α) {a:Addr} (h:PA w X a (((zs.flatMap g).drop (i*sz)).take sz)) (hi:i<zs.length):PA w X a (g (zs.getD i d0)):=by rwa [Je hg d0 hi]at h
theorem H6 {k:IntKind} (hgl: ∀ u,(g u).length=sz) (d0:α) (i:Nat) (hT:jW P t e sz b zv) (hx:ev f x=.slice A n c) (hy:ev f y=.int k i) (hS:Sl w0 X sz A n c (zs.flatMap g)) (hi:i<n) (hiz:i<zs.length) (hg:On ops f gd) (hd:Nat.blt d N=true)
    (h: ∀ a,PA w0 X a (g (zs.getD i d0))→WL P N ops Q rest (fY f d (.pointer (some a))) w):
    WL P N ops Q (⟨some d,.indexAddr t x y,ty,pos,aft,gd⟩::rest) f w:=
  XR i hT hx hy hS hi hg hd fun a ha=>h a (ZE hgl d0 ha hiz)
theorem XQ {C:World→Prop} {Qf:Fr→Prop} {k:IntKind} (hgl: ∀ u,(g u).length=sz) (d0:α) (i:Nat) (hT:jW P t e sz b zv) (hx:ev f x=.slice A n c) (hy:ev f y=.int k i) (hS:Sl w0 X sz A n c (zs.flatMap g)) (hi:i<n) (hiz:i<zs.length) (hg:On ops f gd) (hd:Nat.blt d N=true)
    (h: ∀ a,PA w0 X a (g (zs.getD i d0))→QL P N ops C Qf rest (fY f d (.pointer (some a)))):
    QL P N ops C Qf (⟨some d,.indexAddr t x y,ty,pos,aft,gd⟩::rest) f:=by
  obtain ⟨a,rfl,hp⟩:=hS.at_ hi
  exact qq hg rfl hd (fun w _=>RV.mk (by simp[execOp,hx,hy,KZ hT a hi])) (h _ (ZE hgl d0 hp hiz))
theorem fap {i:Nat} (off:Nat) {a:Addr} (hf:mC P t i off=true) (hx:ev f x=.pointer (some a)):RV P f w ⟨some d,.fieldAddr t x i,ty,pos,aft,gd⟩ (.pointer (some (a.add off))):=
  RV.mk (by simp[execOp,hx,Al hf])
theorem SA {a:Addr} {us:cU} {v:Value} (off:Nat) (hs:SH w0 w M L) (ha:PA w0 X a us) (hM: ∀ k∈M,k∈X) (hx:ev f x=.pointer (some (a.add off))) (hc:us[off]?=some v) (h1:m8 P t=true):
    RV P f w ⟨some d,.load t x,ty,pos,aft,gd⟩ v:=
  RV.mk (by simp[execOp,hx,Instr.loadAt,Instr.sureAddr,O6 h1 (ha.up hs hM hc)])
theorem Qv (h1: ∀ u,(g u).all (·.oneCell')=true) (l:List α): ∀ u∈l.flatMap g,u.oneCell'=true:=by
  intro u hu
  obtain ⟨v,_,hv⟩:=List.mem_flatMap.1 hu
  exact List.all_eq_true.1 (h1 v) u hv
theorem JP {c2:Nat} {A2:aM} (hs:SH w0 w M L) (i:Nat) (hi:L[i]?=some (.own A ys.length c e sz (ys.flatMap g))) (hT:jW P t e sz b zv) (hzs:zv.cells.size=sz) (lQ:0<sz)
    (hx:ev f x=.slice A ys.length c) (hy:ev f y=.slice A2 zs.length c2) (hS:Sl w [] sz A2 zs.length c2 (zs.flatMap g)) (h1: ∀ u,(g u).all (·.oneCell')=true) (qZ:ys.length+zs.length≤maxLen) (hb:(ys.length+zs.length)*b≤140737488355328) (hg:On ops f gd) (hd:Nat.blt d N=true)
    (h: ∀ A' c' w1,SH w0 w1 M (L.eraseIdx i++[.own A' (ys++zs).length c' e sz ((ys++zs).flatMap g)])→WL P N ops Q rest (fY f d (.slice A' (ys++zs).length c')) w1):
    WL P N ops Q (⟨some d,.call ⟨.builtin .append, #[x,y], #[t,t]⟩,ty,pos,aft,gd⟩::rest) f w:=
  ap hs i hi hT hzs lQ hx hy hS (Qv h1 zs) qZ hb hg hd fun A' c' w1 aE=>by
    rw[← JC,← bH]at aE
    rw[← bH]
    exact h A' c' w1 aE
end
section
variable {P:Program} {N:Nat} {Q:Po} {f:Fr} {w0 w:World} {M:eP} {L:gD} {ops:Array Oper} {rest:List Oper} {d:Nat} {ty:TypeId} {pos:String} {aft:Array Edge} {gd:Option (Nat×Bool)}
variable {x y z:Operand} {t t2:TypeId} {e n c b sz:Nat} {A:aM} {zv:Value} {α:Type} {g:α→cU} {ys zs:List α} {X:eP}
theorem Qe {e sz:Nat}:(It.own none 0 0 e sz []).ok w∧ ∀ k,¬ (It.own none 0 0 e sz []).has k:=⟨⟨by simp,lA _,yX _,.inl rfl⟩,fun _ h=>h.1 rfl⟩
theorem Ra {α:Type} {g:α→cU} {A A':aM} {n n' c c' e sz:Nat} {zs zs':List α} (hA:A=A') (hn:n=n') (hc:c=c') (hz:zs=zs'):It.own A n c e sz (zs.flatMap g)=It.own A' n' c' e sz (zs'.flatMap g):=by
  subst hA; subst hn; subst hc; subst hz; rfl
end
section
variable {P:Program} {N:Nat} {Q:Po} {f:Fr} {w0 w:World} {M:eP} {L:gD} {ops:Array Oper} {rest:List Oper} {d:Nat} {ty:TypeId} {pos:String} {aft:Array Edge} {gd:Option (Nat×Bool)}
variable {x y:Operand} {t t2:TypeId} {e n c b:Nat} {A:aM}
end
def N2 (P:Program) (t:TypeId):Bool:=match P.underlying t with | some .string=>true | _=>false
theorem H5 {P:Program} {t:TypeId} (h:N2 P t=true):P.underlying t=some .string:=by
  unfold N2 at h
  split at h
  · assumption
  · cases h
def K5 (P:Program) (t:TypeId):Bool:=
  (match P.underlying t with
  | some (.struct fs)=>(match fs.toList with
    | [a,b]=>a.name != "_" && b.name != "_" && a.offset == 0 && b.offset == 1 && N2 P a.type && N2 P b.type
    | _=>false)
  | _=>false) && !P.stoodInHeld t && !P.eqGuardType P.depth t
section
variable {P:Program} {N:Nat} {Q:Po} {f:Fr} {w:World} {ops:Array Oper} {rest:List Oper} {d:Nat} {ty:TypeId} {pos:String} {aft:Array Edge} {gd:Option (Nat×Bool)} {x y:Operand} {t t2:TypeId}
theorem O7 {e:TypeId} (he:P.underlying e=some .string) {xs:Array Value} {off:Nat} {v:Value} (hx:xs[off]?=some v) (w:World):(part e xs off).run P w=.ok v w:=by
  simp[part,isAgg,kQ he,hx]
theorem Ak {d:Nat} {e:TypeId} (he:P.underlying e=some .string) (l m:aD) (w:World):(Op.equalIn (d+1) e (aA l) (aA m)).run P w=.ok (decide (l=m)) w:=by
  simp[Op.equalIn,kQ he,aA]
  rw[beq_toListBytes,ByteArray.toList_eq,ByteArray.toList_eq]
  rw[wJ]
  simp
theorem Sk (h:K5 P t=true) (a b c e:aD) (w:World):(Op.equalIn 10000 t (.agg #[aA a,aA b]) (.agg #[aA c,aA e])).run P w=.ok (decide (a=c∧b=e)) w:=by
  unfold K5 at h
  rw[iF,iF]at h
  obtain ⟨⟨h,hp⟩,_⟩:=h
  split at h
  · rename_i fs hu
    split at h
    · rename_i fa fb hfs
      simp only[iF,bne_iff_ne,ne_eq,beq_iff_eq]at h
      obtain ⟨⟨⟨⟨⟨n1,n2⟩,o1⟩,o2⟩,s1⟩,s2⟩:=h
      have hS:P.underlying t=some (.struct (P.fieldsOf t)):=by simp[Program.fieldsOf,hu]
      have hF:(P.fieldsOf t).toList=[fa,fb]:=by simp[Program.fieldsOf,hu,hfs]
      have p1: ∀ w,(part fa.type #[aA a,aA b] fa.offset).run P w=.ok (aA a) w:=fun w=>O7 (H5 s1) (by rw[o1]; rfl) w
      have p2: ∀ w,(part fa.type #[aA c,aA e] fa.offset).run P w=.ok (aA c) w:=fun w=>O7 (H5 s1) (by rw[o1]; rfl) w
      have p3: ∀ w,(part fb.type #[aA a,aA b] fb.offset).run P w=.ok (aA b) w:=fun w=>O7 (H5 s2) (by rw[o2]; rfl) w
      have p4: ∀ w,(part fb.type #[aA c,aA e] fb.offset).run P w=.ok (aA e) w:=fun w=>O7 (H5 s2) (by rw[o2]; rfl) w
      have q1: ∀ w,(Op.equalIn 9999 fa.type (aA a) (aA c)).run P w=.ok (decide (a=c)) w:=Ak (P:=P) (d:=9998) (H5 s1) a c
      have q2: ∀ w,(Op.equalIn 9999 fb.type (aA b) (aA e)).run P w=.ok (decide (b=e)) w:=Ak (P:=P) (d:=9998) (H5 s2) b e
      rw[show (10000:Nat)=9999+1 from rfl,run_equalIn_struct w 9999 t _ _ hS (by simpa using hp),hF]
      by_cases h1:a=c
      · subst h1
        by_cases h2:b=e
        · subst h2
          simp[Op.eqFields,n1,n2,p1,p3,q1,q2]
        · simp[Op.eqFields,n1,n2,p1,p2,p3,p4,q1,q2,h2]
      · simp[Op.eqFields,n1,p1,p2,q1,h1]
    · cases h
  · cases h
theorem VQ {a b c e:aD} (h:K5 P t=true) (hx:ev f x=.agg #[aA a,aA b]) (hy:ev f y=.agg #[aA c,aA e]):
    RV P f w ⟨some d,.binOp .eql t x y t2,ty,pos,aft,gd⟩ (.bool (decide (a=c∧b=e))):=
  RV.mk (by
    have hm:P.eqGuardType P.depth t=false:=by
      unfold K5 at h
      rw[iF]at h
      simpa using h.2
    simp only[execOp,hx,hy,Sem.run_bind,run_eqGuard_agg w _ t x y _ _ hm,Result.andThen_ok,run_eql_struct,Sk h,Sem.run_pure])
theorem Ha {k:FuncId} {fn:Func} {ts:Array TypeId} {l:aD} {c:UInt8} (hf:P.funcs[k]?=some fn) (hname:(fn.name == "runtime.NumGoroutine")=false)
    (hb:fn.body.isNone=true) (hn:Extern.findNext fn=none) (he:Extern.find fn=some Extern.BytealgCount.count) (hx:ev f x=aA l) (hy:ev f y=U c):
    RV P f w ⟨some d,.call ⟨.value (.func k), #[x,y],ts⟩,ty,pos,aft,gd⟩ (.int .i64 ((l.count c:Nat):Int)):=by
  have hr:=run_callFunc_standIn (P:=P) hf hname hb hn he #[aA l,U c] w
  refine RV.mk ?_
  have hd:execOp (ev f) ⟨some d,.call ⟨.value (.func k), #[x,y],ts⟩,ty,pos,aft,gd⟩=callFunc k #[aA l,U c]:=by
    have hg:ev f (.func k)=.func (.func k) #[] #[]:=rfl
    simp[execOp,resolve,hg,Deferred.ofValue,invoke,hx,hy]
  rw[hd,hr]
  have h1:=Go.Lib.run_countString (P:=P) ⟨l.toArray⟩ ((c.toNat:Nat):Int) w
  have h2:(Extern.BytealgCount.count #[aA l,U c]).run P w=.ok (.int .i64 ((l.count c:Nat):Int)) w:=by
    refine h1.trans ?_
    simp[Go.Lib.countByte]
  rw[h2]
  rfl
variable {a b:Int}
theorem shr (hx:ev f x=.int .i64 a) (hy:ev f y=.int .i64 b) (hb:0≤b) (pN:b≤64):RV P f w ⟨some d,.binOp .shr t x y t2,ty,pos,aft,gd⟩ (.int .i64 (a / 2 ^ b.toNat)):=
  RV.mk (by
    simp[execOp,hx,hy,eqGuard,binOp])
theorem Fi (hx:ev f x=.int .i64 a) (hy:ev f y=.int .i64 255) (ha:0≤a) (jG:a≤9223372036854775807):RV P f w ⟨some d,.binOp .and t x y t2,ty,pos,aft,gd⟩ (.int .i64 (a % 256)):=
  RV.mk (by
    obtain ⟨n,rfl⟩:=P6 ha
    have e1:n % 2 ^ IntKind.i64.bits=n:=JF (show n<2 ^ 64 by omega)
    have e2:255 % 2 ^ IntKind.i64.bits=255:=by decide
    have e3:n &&& 255=n % 256:=Nat.and_two_pow_sub_one_eq_mod n 8
    have e4:=AK (x:=((n % 256:Nat):Int)) ⟨by omega,by omega⟩
    have e5:((n % 256:Nat):Int)=(n:Int) % 256:=by omega
    rw[e5]at e4
    simp[execOp,hx,hy,eqGuard,binOp,Op.intBits,e1,e2,e3,e4])
end
section
variable {P:Program} {N:Nat} {Q:Po} {f:Fr} {w:World} {ops:Array Oper} {S:World→Prop} {fuel fuel':Nat} {listed listed':Array Bool}
theorem AL.cast (h:listed=listed') (h2:AL P N ops S Q fuel listed' f w):AL P N ops S Q fuel listed f w:=h ▸ h2
end
theorem HR {w:World} {X:eP} {zs:List Hd} {L:List aC} {i:Nat} (hL:zs.map Hd.xs=L) (h: ∀ u∈zs,GP w X u) (hi:i<zs.length):Sl w X 1 (zs.getD i gU).A (L.getD i []).length (zs.getD i gU).c ((L.getD i []).map I):=by
  subst hL
  have h1:(zs.map Hd.xs).getD i []=(zs.getD i gU).xs:=by
    simp only[yS,vQ,wH hi,yU,B9]
  rw[h1]
  exact h _ (CV hi)
section
variable {P:Program} {f:Fr} {w0 w:World} {M:eP} {L0:gD} {d:Nat} {ty:TypeId} {pos:String} {aft:Array Edge} {gd:Option (Nat×Bool)} {x:Operand} {t e n c:Nat}
theorem SB {G o:Nat} {L:List aC} {ys:List Hd} (hL:ys.map Hd.xs=L) (hs:SH w0 w M L0) (i:Nat) (hi:L0[i]?=some (.own (some ⟨G,0,none⟩) n c e 1 (ys.map hv))) (hx:ev f x=.pointer (some ⟨G,o*1,none⟩)) (ho:o<ys.length) (h1:m8 P t=true):
    RV P f w ⟨some d,.load t x,ty,pos,aft,gd⟩ (.slice (ys.getD o gU).A (L.getD o []).length (ys.getD o gU).c):=by
  subst hL
  have h2:(ys.map Hd.xs).getD o []=(ys.getD o gU).xs:=by
    simp only[yS,vQ,wH ho,yU,B9]
  rw[h2]
  exact XZ hs i hi hx (by rw[CB]; exact eQ hv gU ho) h1
end
section
variable {P:Program} {f:Fr} {w0 w:World} {M:eP} {L0:gD} {d:Nat} {ty:TypeId} {pos:String} {aft:Array Edge} {gd:Option (Nat×Bool)} {x:Operand} {t e n c sz:Nat}
end
theorem cR {P:Program} {N:Nat} {Q:Po} {f:Fr} {w0 w:World} {M:eP} {L:gD} {ops:Array Oper} {rest:List Oper} {d:Nat} {ty:TypeId} {pos:String} {aft:Array Edge} {gd:Option (Nat×Bool)} {t:TypeId}
    {parts:List (Nat×Operand)} {e sz b n:Nat} {z:Value} (hs:SH w0 w M L) (hT:jW P t e sz b z) (vs:cU) (cs:cU) (hg:On ops f gd) (hd:Nat.blt d N=true)
    (h: ∀ g w1,SH w0 w1 M (L++[.own (some ⟨g,0,none⟩) n n e sz cs])→WL P N ops Q rest (fY f d (.slice (some ⟨g,0,none⟩) n n)) w1)
    (hp:parts.map (fun p=>(p.1,ev f p.2))=vs.zipIdx.map (fun p=>(p.2,p.1)):=by rfl)
    (hf:Instr.fill (fun i=>some (i*sz,sz)) ((Array.range (n*sz)).map ((if n*sz=0 then #[] else z.cells)[· % (if n*sz=0 then(#[]:Array Value) else z.cells).size]!)) (vs.zipIdx.map (fun p=>(p.2,p.1)))=some cs.toArray:=by kernel_rfl) (hl:cs.length=n*sz:=by rfl) (hn:n*sz≤65536:=by decide) (lQ:0<sz:=by decide):
    WL P N ops Q (⟨some d,.buildSlice t n parts.toArray,ty,pos,aft,gd⟩::rest) f w:=bs hs hT _ hp hf hl hn lQ hg hd h
theorem bS {P:Program} {N:Nat} {Q:Po} {f:Fr} {w:World} {ops:Array Oper} {S:World→Prop} {fuel:Nat} {listed listed':Array Bool} {I:Fr→World→Prop} (D: ∀ f w,I f w→AL P N ops S Q fuel listed' f w) (hI:I f w) (h:listed=listed':=by kernel_rfl):AL P N ops S Q fuel listed f w:=AL.cast h (D f w hI)
def XX (n m:Nat):Array Bool:=((List.range n).map m.testBit).toArray
theorem jN {P:Program} {N:Nat} {Q:Po} {f:Fr} {w:World} {ops:Array Oper} {S:World→Prop} {fuel:Nat} {listed:Array Bool} (rs:eP) (h: ∀ i∈rs,One P N ops S Q fuel listed f w i) (hr:Region.ready .any ops listed=rs:=by kernel_rfl) (hne:rs≠[]:=by decide):AL P N ops S Q (fuel+1) listed f w:=aa hr hne h
theorem jP {α:Type} {p:α→Prop} {a:α} (h:p a): ∀ u∈[a],p u:=eX h o5
theorem Hv {P:Program} {k:FuncId} {args:cU} {as:Array Value} {w:World} {v:Value} (hb:xE P k) (ha:args.toArray=as)
    (h:Calls P k as w fun e w'=>e=.returned v∧ ∃ k os,w'=Sort.grow (w.drewN k) os):bF P k args w (fun u w'=>u=v∧SH w w' [] []):=by
  refine bF.FO hb ha h ?_
  rintro e w' ⟨rfl,j,os,rfl⟩
  refine⟨v,rfl,rfl,rfl,rfl,rfl,?_,?_,by simp,by simp,by simp⟩
  · simp[Sort.grow]
  · intro i hi _
    simp only[Sort.grow]
    rw[Array.getElem?_append_left (by simpa using hi)]
    rfl
theorem Ht {P:Program} {k:FuncId} {args:cU} {as:Array Value} {w:World} {v:Value} (hb:xE P k) (ha:args.toArray=as)
    (h:Calls P k as w fun e w'=>e=.returned v∧Below w.heap.size w w'):bF P k args w (fun u w'=>u=v∧SH w w' [] []):=by
  refine bF.FO hb ha h ?_
  rintro e w' ⟨rfl,hbl⟩
  exact⟨v,rfl,rfl,hbl.os,hbl.tape,hbl.output,hbl.size,fun i hi _=>hbl.block i hi,by simp,by simp,by simp⟩
theorem Hx {P:Program} {k:FuncId} {args:cU} {as:Array Value} {w:World} {v:Value} (hb:xE P k) (ha:args.toArray=as)
    (h:Calls P k as w fun e w'=>e=.returned v∧w'=w):bF P k args w (fun u w'=>u=v∧SH w w' [] []):=by
  refine bF.FO hb ha h ?_
  rintro e w' ⟨rfl,rfl⟩
  exact⟨v,rfl,rfl,SH.refl _ []⟩
theorem Hw {P:Program} {k:FuncId} (hb:xE P k)
    (h0: ∀ (a:aM) (c:Nat) (sep:ByteArray) (w:World),Calls P k #[.slice a 0 c,.string sep] w fun e w'=>e=.returned (.string ⟨#[]⟩)∧w'=w)
    (h1: ∀ (bk o c:Nat) (xs:List ByteArray) (sep:ByteArray) (w:World),(∀ (j:Nat) x,xs[j]?=some x→w.cell? ⟨bk,o+j,none⟩=some (.string x))→bk<w.heap.size→xs.length≤140737488355328→xs.length≤c→(Lib.join (xs.map (·.data.toList)) sep.data.toList).length≤140737488355328→
      Calls P k #[.slice (some ⟨bk,o,none⟩) xs.length c,.string sep] w fun e w'=>e=.returned (.string ⟨(Lib.join (xs.map (·.data.toList)) sep.data.toList).toArray⟩)∧Below w.heap.size w w')
    {w:World} {b c:Nat} {xs:List aD} {sep:aD} (hxs:Sl w [] 1 (some ⟨b,0,none⟩) xs.length c (xs.map aA)) (hn:xs.length≤1099511627776) (hl:(Lib.join xs sep).length≤140737488355328):
    bF P k [.slice (some ⟨b,0,none⟩) xs.length c,aA sep] w (fun v w'=>v=aA (Lib.join xs sep)∧SH w w' [] []):=by
  rcases wI xs.length with h | h
  · have hx:xs=[]:=vO h
    subst hx
    exact Hx hb rfl (h0 (some ⟨b,0,none⟩) c ⟨sep.toArray⟩ w)
  · obtain ⟨a,ha,hlt,_,hcell⟩:=hxs.2.2.2 h
    cases ha
    have e1:((xs.map fun l=>(⟨l.toArray⟩:ByteArray)).map (·.data.toList))=xs:=by
      rw[List.map_map]
      conv=>rhs; rw[← List.map_id xs]
      apply List.map_congr_left
      intro l _
      simp
    have h2:=h1 b 0 c (xs.map fun l=>(⟨l.toArray⟩:ByteArray)) ⟨sep.toArray⟩ w (by
      intro j x hx
      rw[vQ]at hx
      cases hy:xs[j]? with
      | none=>rw[hy]at hx; simp at hx
      | some l=>
        rw[hy]at hx
        simp at hx
        subst hx
        have:=hcell j (aA l) (by rw[vQ,hy]; rfl)
        rwa [Addr.add_lit]at this) hlt (by simp; omega) (by simpa using hxs.2.1) (by rw[e1]; exact hl)
    rw[e1,yV]at h2
    exact Ht hb rfl h2
section
variable {P:Program} {f:Fr} {w:World} {d:Nat} {ty:TypeId} {pos:String} {aft:Array Edge} {gd:Option (Nat×Bool)} {x:Operand} {t t2 e:TypeId}
theorem M0 {a:Int} {s:IntKind} (hs:P.underlying t=some (.int s)) (hd:P.underlying t2=some (.int .u8)) (hx:ev f x=.int s a) (h0:0≤a) (h1:a≤255):RV P f w ⟨some d,.convert t t2 x,ty,pos,aft,gd⟩ (.int .u8 (((UInt8.ofNat a.toNat).toNat:Nat):Int)):=by
  have h2:(((UInt8.ofNat a.toNat).toNat:Nat):Int)=a:=by
    rw[D1]
    omega
  rw[h2]
  exact Hk hs hd hx h0 h1
theorem JY {A:aM} {c:Nat} {l:aD} {X:eP} (hs:P.underlying t=some (.slice e)) (he:P.underlying e=some (.int .u8)) (hd:P.underlying t2=some .string) (hx:ev f x=.slice A l.length c) (hS:Sl w X 1 A l.length c (l.map U)):
    RV P f w ⟨some d,.convert t t2 x,ty,pos,aft,gd⟩ (aA l):=
  RV.mk (by
    have hr:(Conv.bytesToString (.slice A l.length c)).run P w=.ok (aA l) w:=by
      rcases wI l.length with h | h
      · have hl:l=[]:=vO h
        subst hl
        rcases A with _ | a
        · rfl
        · simp[Conv.bytesToString,loadCells,loadCellsFrom,aA]
          rfl
      · obtain ⟨a,rfl,_,_,hcell⟩:=hS.2.2.2 h
        have hm:(l.map U)=(l.map fun b=>((b.toNat:Nat):Int)).map (Value.int .u8):=by rw[List.map_map]; rfl
        have hlc:(loadCells a l.length).run P w=.ok ((l.map fun b=>((b.toNat:Nat):Int)).map (Value.int .u8)).toArray w:=by
          have:=run_loadCells_list (P:=P) w a (l.map U) (fun j u hu=>hcell j u hu)
          rw[yV]at this
          rw[this,hm]
        rw[run_bytesToString w a l.length c _ hlc]
        congr 2
        have key: ∀ (m:aD) (s:ByteArray),(m.map fun b=>((b.toNat:Nat):Int)).foldl (fun r n=>r.push (UInt8.ofNat n.toNat)) s=⟨s.data++m.toArray⟩:=by
          intro m
          induction m with
          | nil=>intro s; simp
          | cons b m ih=>
            intro s
            rw[G0,CA,ih]
            have hb:UInt8.ofNat ((b.toNat:Nat):Int).toNat=b:=by simp
            rw[hb]
            congr 1
            apply Array.ext'
            simp[ByteArray.push]
        rw[key]
        congr 1
        apply Array.ext'
        simp[ByteArray.empty,ByteArray.emptyWithCapacity]
        rfl
    simp[execOp,hx,convert,kQ hs,kQ he,kQ hd,hr])
end
section
variable {P:Program} {f:Fr} {w:World} {d:Nat} {x y:Operand} {t t2 ty:TypeId} {pos:String} {aft:Array Edge} {gd:Option (Nat×Bool)} {a b m:Int}
theorem Uw (hx:ev f x=.int .i64 a) (hy:ev f y=.int .u64 8) (ha:0≤a) (jG:a≤1125899906842624):RV P f w ⟨some d,.binOp .shl t x y t2,ty,pos,aft,gd⟩ (.int .i64 (a*256)):=
  RV.mk (by
    have e:=AK (x:=a*256) ⟨by omega,by omega⟩
    have e8:min 8 IntKind.i64.bits=8:=rfl
    simp[execOp,hx,hy,eqGuard,binOp,shift_shl_any]
    rw[e8]
    exact e)
theorem Qw (hx:ev f x=.int .i64 (m*256)) (hy:ev f y=.int .i64 b) (hm:0≤m) (Kt:m≤1125899906842624) (hb:0≤b) (pN:b≤255):RV P f w ⟨some d,.binOp .or t x y t2,ty,pos,aft,gd⟩ (.int .i64 (m*256+b)):=
  RV.mk (by
    obtain ⟨n,rfl⟩:=P6 hm
    obtain ⟨c,rfl⟩:=P6 hb
    have e3:n*256 ||| c=n*256+c:=by
      have:=Nat.shiftLeft_add_eq_or_of_lt (show c<2 ^ 8 by omega) n
      rw[Nat.shiftLeft_eq]at this
      exact this.symm
    obtain ⟨N,hN⟩: ∃ N:Nat,n*256=N:=⟨_,rfl⟩
    have e5:((n:Int)*256)=((N:Nat):Int):=by omega
    rw[hN]at e3
    rw[e5]at hx ⊢
    have e1:N % 2 ^ IntKind.i64.bits=N:=JF (show N<2 ^ 64 by omega)
    have e2:c % 2 ^ IntKind.i64.bits=c:=JF (show c<2 ^ 64 by omega)
    have e4:=AK (x:=((N+c:Nat):Int)) ⟨by omega,by omega⟩
    simp[execOp,hx,hy,eqGuard,binOp,Op.intBits,e1,e2,e3]
    simpa using e4)
end
section
variable {w0 w w1:World} {M:eP} {L:gD} {e:TypeId} {us:List Hd}
theorem SH.Ag (hs:SH w0 w M L) (e:TypeId):SH w0 w M (L++[.rows e []]):=
  hs.more [.rows e []] rfl rfl rfl (lA _) (fun _ _=>rfl) (by intro i hi; simp at hi; subst hi; exact⟨by simp,.nil⟩) (by intro i hi k hk; simp at hi; subst hi; obtain ⟨u,hu,_⟩:=hk; cases hu) (by simp)
theorem SH.TA (hs:SH w0 w M L) (i:Nat) (hi:L[i]?=some (.rows e us)) {u:Hd} (hu:u∈us):Sl w [] 1 u.A u.xs.length u.c (u.xs.map I):=
  j6.sl ((hs.ok _ (nQ hi)).1 u hu) (by simp)
theorem SH.Ah (A:aM) (c:Nat) (xs:aC) (hs:SH w0 w M (.rows e us:: .own A xs.length c e 1 (xs.map I)::L)):SH w0 w M (L++[.rows e (us++[⟨A,c,xs⟩])]):=by
  have hr:=hs.ok _ (sK ..)
  have ho:=hs.ok _ (rL _ (sK ..))
  have hd:=hs.dis
  rw[List.pairwise_cons,List.pairwise_cons]at hd
  refine⟨hs.os,hs.tape,hs.output,hs.size,hs.rC,?_,?_,?_⟩
  · intro i hi
    rcases List.mem_append.1 hi with hi | hi
    · exact hs.ok i (rL _ (rL _ hi))
    · simp at hi
      subst hi
      refine⟨fun u hu=>?_,List.pairwise_append.2 ⟨hr.2,by simp,fun a ha b hb k hka hkb=>?_⟩⟩
      · rcases List.mem_append.1 hu with hu | hu
        · exact hr.1 u hu
        · simp at hu
          subst hu
          exact ho
      · simp at hb
        subst hb
        exact hd.1 _ (sK ..) k ⟨a,ha,hka⟩ hkb
  · intro i hi k hk
    rcases List.mem_append.1 hi with hi | hi
    · exact hs.lo i (rL _ (rL _ hi)) k hk
    · simp at hi
      subst hi
      obtain ⟨u,hu,hk⟩:=hk
      rcases List.mem_append.1 hu with hu | hu
      · exact hs.lo _ (sK ..) k ⟨u,hu,hk⟩
      · simp at hu
        subst hu
        exact hs.lo _ (rL _ (sK ..)) k hk
  · refine List.pairwise_append.2 ⟨hd.2.2,by simp,fun a ha b hb k hka hkb=>?_⟩
    simp at hb
    subst hb
    obtain ⟨u,hu,hk⟩:=hkb
    rcases List.mem_append.1 hu with hu | hu
    · exact hd.1 a (rL _ ha) k ⟨u,hu,hk⟩ hka
    · simp at hu
      subst hu
      exact hd.2.1 a ha k hk hka
end
def bZ (P:Program) (w:World) (X:eP) (n:String) (Φ:Array Value→Prop):Prop:=∃ g cs,Φ cs∧P.globalNamed n=some g∧w.var? P n=some cs∧g<w.heap.size∧g ∉ X
theorem bZ.up {P:Program} {w0 w:World} {M X Y:eP} {L:gD} {n:String} {Φ:Array Value→Prop} (h:bZ P w0 X n Φ) (hs:SH w0 w M L) (hM: ∀ k∈M,k∈X) (hY: ∀ k∈Y,k∈X∨w0.heap.size≤k):bZ P w Y n Φ:=by
  obtain ⟨g,cs,h1,h2,h3,h4,h5⟩:=h
  refine⟨g,cs,h1,h2,?_,LR h4 hs.size,fun hk=>?_⟩
  · unfold World.var? at*
    rw[h2]at h3 ⊢
    simp only[JE]at h3 ⊢
    rw[hs.rC g h4 (fun hm=>h5 (hM _ hm))]
    exact h3
  · rcases hY _ hk with h | h
    · exact h5 h
    · omega
theorem bZ.aP {P:Program} {w0 w:World} {L:gD} {n:String} {Φ:Array Value→Prop} (h:bZ P w0 [] n Φ) (hs:SH w0 w [] L):bZ P w [] n Φ:=h.up hs (by simp) (by simp)
theorem bZ.mk' {P:Program} {w:World} {n:String} {Φ:Array Value→Prop} {g:Nat} {cs:Array Value} (h1:Φ cs) (h2:P.globalNamed n=some g) (h3:w.var? P n=some cs):bZ P w [] n Φ:=by
  refine⟨g,cs,h1,h2,h3,?_,by simp⟩
  unfold World.var? at h3
  rw[h2]at h3
  simp only[JE]at h3
  rcases qR g w.heap.size with h' | h'
  · exact h'
  · rw[Array.getElem?_eq_none h']at h3
    cases h3
def jH (cs:Array Value):Prop:=cs=(Lib.pow10Tab.map fun z=>Value.int .u64 z).toArray
def fH (cs:Array Value):Prop:=∃ tp p,cs= #[Value.iface tp p]
theorem bZ.Wn {P:Program} {w:World} {X:eP} {n:String} (h:bZ P w X n jH):Lib.TabIs P w n .u64 Lib.pow10Tab:=by
  obtain ⟨g,cs,h1,_,h3,_⟩:=h
  unfold Lib.TabIs
  rw[h3,h1]
theorem bZ.XM {P:Program} {w:World} {X:eP} {n:String} (h:bZ P w X n fH): ∃ tp p,w.var? P n=some #[.iface tp p]:=by
  obtain ⟨g,cs,⟨tp,p,rfl⟩,_,h3,_⟩:=h
  exact⟨tp,p,h3⟩
def AY (e:Bool) (u:TypeId) (v:Value):Value:=if e then .iface u v else .nilIface
def KL (P:Program) (t:TypeId):Bool:=match P.underlying t with | some (.interface _)=>true | _=>false
section
variable {P:Program} {f:Fr} {w:World} {d:Nat} {x y:Operand} {t t2 ty:TypeId} {pos:String} {aft:Array Edge} {gd:Option (Nat×Bool)} {e:Bool} {u:TypeId} {v:Value}
theorem Io (ht:KL P t=true) (hx:ev f x=AY e u v):RV P f w ⟨some d,.binOp .eql t x (.const .nilIface) t2,ty,pos,aft,gd⟩ (.bool (!e)):=
  RV.mk (by
    unfold KL at ht
    split at ht
    · rename_i ms hu
      have h: ∀ n,(Op.equalIn (n+1) t (AY e u v) .nilIface).run P w=.ok (!e) w:=fun n=>by
        cases e <;> simp[AY,Op.equalIn,kQ hu]
      have h2:(Op.equal t (AY e u v) .nilIface).run P w=.ok (!e) w:=h 9999
      have hy:ev f (.const .nilIface)=.nilIface:=rfl
      cases e
      · have hx':ev f x=.nilIface:=hx
        have h3:(Op.equal t .nilIface .nilIface).run P w=.ok true w:=h2
        simp[execOp,hx',hy,eqGuard,binOp,h3]
      · have hx':ev f x=.iface u v:=hx
        have h3:(Op.equal t (.iface u v) .nilIface).run P w=.ok false w:=h2
        simp[execOp,hx',hy,eqGuard,binOp,h3]
    · cases ht)
end
def lJ (s:aD):Int×Bool:=match Lib.atoiAll s with | .ok v=>(v,false) | Lib.NumEnd.syntax=>(0,true) | .range=>(Lib.atoiSat s,true)
theorem Fu (s:aD): -9223372036854775808≤(lJ s).1∧(lJ s).1≤9223372036854775807:=by
  unfold lJ
  split
  · rename_i v h
    exact Lib.atoiAll_bounds h
  · exact⟨by decide,by decide⟩
  · exact Lib.atoiSat_bounds s
theorem SH.S0 {w w':World} (h:Below w.heap.size w w'):SH w w' [] []:=⟨h.os,h.tape,h.output,h.size,fun i hi _=>h.block i hi,by simp,by simp,by simp⟩
theorem Hs {P:Program} {k:FuncId} {s:aD} {w:World} {T te:TypeId} {X:eP} (hb:xE P k)
    (hS:bZ P w X "strconv.ErrSyntax" fH) (hR:bZ P w X "strconv.ErrRange" fH)
    (h1: ∀ v,Lib.atoiAll s=.ok v→Calls P k #[.string ⟨s.toArray⟩] w fun e w'=>e=.returned (.tuple #[.int .i64 v,.nilIface])∧(w'=w∨ ∃ t,w'=Lib.bytesWorld w T t))
    (h2: ∀ tp p,Lib.atoiAll s=Lib.NumEnd.syntax→w.var? P "strconv.ErrSyntax" =some #[.iface tp p]→Calls P k #[.string ⟨s.toArray⟩] w fun e w'=>∃ N,e=.returned (.tuple #[.int .i64 0,.iface te (.pointer (some ⟨N,0,none⟩))])∧Below w.heap.size w w')
    (h3: ∀ tp p,Lib.atoiAll s=.range→w.var? P "strconv.ErrRange" =some #[.iface tp p]→Calls P k #[.string ⟨s.toArray⟩] w fun e w'=>∃ N,e=.returned (.tuple #[.int .i64 (Lib.atoiSat s),.iface te (.pointer (some ⟨N,0,none⟩))])∧Below w.heap.size w w'):
    bF P k [aA s] w (fun v w'=>∃ (u:TypeId) (ve:Value),v=.tuple #[.int .i64 (lJ s).1,AY (lJ s).2 u ve]∧SH w w' [] []):=by
  match ha:Lib.atoiAll s with
  | .ok v=>
    have e1:lJ s=(v,false):=by simp[lJ,ha]
    refine bF.FO hb rfl (h1 v ha) ?_
    rintro e w' ⟨rfl,hw⟩
    refine⟨_,rfl,0,.nilIface,by rw[e1]; rfl,?_⟩
    rcases hw with rfl | ⟨t,rfl⟩
    · exact SH.refl _ []
    · exact SH.S0 (Lib.bytesWorld_below w T t)
  | Lib.NumEnd.syntax=>
    have e1:lJ s=(0,true):=by simp[lJ,ha]
    obtain ⟨tp,p,hv⟩:=hS.XM
    refine bF.FO hb rfl (h2 tp p ha hv) ?_
    rintro e w' ⟨N,rfl,hw⟩
    exact⟨_,rfl,te,.pointer (some ⟨N,0,none⟩),by rw[e1]; rfl,SH.S0 hw⟩
  | .range=>
    have e1:lJ s=(Lib.atoiSat s,true):=by simp[lJ,ha]
    obtain ⟨tp,p,hv⟩:=hR.XM
    refine bF.FO hb rfl (h3 tp p ha hv) ?_
    rintro e w' ⟨N,rfl,hw⟩
    exact⟨_,rfl,te,.pointer (some ⟨N,0,none⟩),by rw[e1]; rfl,SH.S0 hw⟩
theorem tG {H:Type} {enc:TypeId×Value→H} {P:Program} {w:World} {sp:Nat→Bool} {held:Bool} {fuel:Nat} {t:TypeId} {cs:cU} {ps:List MemPlace} {n:String} {dd:DataW H} {zQ:Array Value} (hc:zQ.toList=cs) (hT:KL P t=true) (h:DataW.trod enc P w 0 sp held fuel t cs=some (.iface n dd,ps)):fH zQ:=by
  unfold KL at hT
  split at hT
  · rename_i ms hu
    cases fuel with
    | zero=>simp[DataW.trod]at h
    | succ fuel=>
      match cs,h with
      | [],h=>simp[DataW.trod,hu]at h
      | [c],h=>
        cases c <;> simp[DataW.trod,hu]at h
        rename_i tp p
        exact⟨tp,p,by rw[← Array.toList_inj,hc]⟩
      | a::b::l,h=>simp[DataW.trod,hu]at h
  · cases hT
section
variable {P:Program} {N:Nat} {Q:Po} {f:Fr} {w:World}
@[irreducible] def LW (P:Program) (N:Nat) (c:Code) (Q:Po) (f:Fr) (w:World):Prop:=
  ∀ a,mJ N f a→ ∀ (b:Frame) (k:List Item) (cs:List Frame),∃ e a' w',(∃ f',mJ N f' a'∧Q e f' w')∧Arrives P (lone (b.at a (.code c:: .inLoop c::k)) cs w) b k cs e a' w'
theorem ul0 {c:Code} (h:LW P N c Q f w):W P N (.loop c) Q f w:=by
  unfold W
  unfold LW at h
  intro a ha b k cs
  obtain ⟨e,a',w',hq,harr⟩:=h a ha b k cs
  exact⟨e,a',w',hq,.of_steps (.one step_loop) harr⟩
theorem PY {c:Code} (h:W P N c (xA (LW P N c Q) Q) f w):LW P N c Q f w:=by
  unfold W at h
  unfold LW at*
  intro a ha b k cs
  obtain ⟨e,a₁,w₁,⟨f₁,hf₁,hq⟩,harr⟩:=h a ha b (.inLoop c::k) cs
  cases e with
  | normal=>
    obtain ⟨e₂,a₂,w₂,hq₂,harr₂⟩:=hq a₁ hf₁ b k cs
    exact⟨e₂,a₂,w₂,hq₂,.of_steps (Steps.trans harr (.one step_inLoop)) harr₂⟩
  | exit id=>exact⟨_,a₁,w₁,⟨f₁,hf₁,hq⟩,.pass (x:=.inLoop c) rfl (fun _ _=>.inl (by simp)) harr⟩
  | goto l=>exact⟨_,a₁,w₁,⟨f₁,hf₁,hq⟩,.pass (x:=.inLoop c) rfl (fun _ _=>.inl (by simp)) harr⟩
  | ret=>exact⟨_,a₁,w₁,⟨f₁,hf₁,hq⟩,.pass (x:=.inLoop c) rfl (fun _ _=>.inl (by simp)) harr⟩
  | panic ch=>exact⟨_,a₁,w₁,⟨f₁,hf₁,hq⟩,.pass (x:=.inLoop c) rfl (fun _ _=>.inl (by simp)) harr⟩
  | outgrown=>exact⟨_,a₁,w₁,⟨f₁,hf₁,hq⟩,.pass (x:=.inLoop c) rfl (fun _ _=>.inl (by simp)) harr⟩
end
section
variable {P:Program} {f:Fr} {w:World} {d:Nat} {x y:Operand} {t t2 ty:TypeId} {pos:String} {aft:Array Edge} {gd:Option (Nat×Bool)}
end
theorem r0 {α:Sort _} {a:α}:a=a:=rfl
section
variable {P:Program} {N:Nat} {Q:Po} {f:Fr} {w0 w:World} {M:eP} {L:gD} {ops:Array Oper} {rest:List Oper} {d:Nat} {op:Op} {ty:TypeId} {pos:String} {aft:Array Edge}
variable {x y z:Operand} {t:TypeId} {o:Oper} {Qf:Fr→Prop} {C S:World→Prop} {fuel fuel':Nat} {listed listed':Array Bool}
theorem qt {v:Value} (hd:Nat.blt d N=true) (hr:RV P f w (⟨some d,op,ty,pos,aft,none⟩:Oper) v) (h:WL P N ops Q rest (fY f d v) w):WL P N ops Q ((⟨some d,op,ty,pos,aft,none⟩:Oper)::rest) f w:=q trivial rfl hd hr h
theorem tA (v:Value) (h1:(Nat.blt d N,ev f x)=(true,v)) (h:WL P N ops Q rest (fY f d v) w):WL P N ops Q ((⟨some d,.assign x,ty,pos,aft,none⟩:Oper)::rest) f w:=q trivial rfl (aS Prod.fst h1) (fW (aS Prod.snd h1)) h
theorem tm (v:Value) (h1:(Nat.blt d N,ev f x)=(true,v)) (h:WL P N ops Q rest (fY f d v) w):WL P N ops Q ((⟨some d,.move x,ty,pos,aft,none⟩:Oper)::rest) f w:=q trivial rfl (aS Prod.fst h1) (mv (aS Prod.snd h1)) h
theorem tn {a:Addr} (h1:(Nat.blt d N,ev f x)=(true,.pointer (some a))) (h:WL P N ops Q rest (fY f d (.pointer (some a))) w):WL P N ops Q ((⟨some d,.nilCheck x,ty,pos,aft,none⟩:Oper)::rest) f w:=q trivial rfl (aS Prod.fst h1) (nc (aS Prod.snd h1)) h
theorem nn {n:Fr→World→Prop} (h:n f w):WL P N ops (xA n Q) [] f w:=nl (nN h)
theorem sr {id:Nat} {l:List Oper} {c:Code} (h:WL P N l.toArray (xA (W P N c Q) Q) l f w):W P N (.seq (.region id l.toArray false) c) Q f w:=sq (rg h)
theorem nx {R:Po} {id:Nat} {l:List Oper} {c:Code} (h:WL P N l.toArray (xA (W P N c R) R) l f w):WL P N ops (xA (W P N (.seq (.region id l.toArray false) c) R) Q) [] f w:=nn (sr h)
theorem nk (hS:S w) (h:AL P N ops S Q fuel listed f w):WL P N ops (KQ P N ops S Q fuel listed) [] f w:=nl (kq hS h)
theorem aT {j:Nat} {t:Tmp} (h1:(o.dst,o.guard,gs ops j,f t,Nat.blt d N)=(some d,some (j,false),some t,.bool true,true)) (h:WL P N ops Q rest (fY f d undef) w):WL P N ops Q (o::rest) f w:=by
  simp only[Prod.mk.injEq]at h1; obtain ⟨a,b,c,e,g⟩:=h1; exact gk true a b c e g h
theorem bA {j:Nat} {t:Tmp} (h1:(o.dst,o.guard,gs ops j,f t,Nat.blt d N)=(some d,some (j,true),some t,.bool false,true)) (h:WL P N ops Q rest (fY f d undef) w):WL P N ops Q (o::rest) f w:=by
  simp only[Prod.mk.injEq]at h1; obtain ⟨a,b,c,e,g⟩:=h1; exact gk false a b c e g h
theorem kW {j:Nat} {t:Tmp} (h1:(o.dst,o.guard,gs ops j,f t,Nat.blt d N)=(some d,some (j,false),some t,.bool true,true)) (h:QL P N ops C Qf rest (fY f d undef)):QL P N ops C Qf (o::rest) f:=by
  simp only[Prod.mk.injEq]at h1; obtain ⟨a,b,c,e,g⟩:=h1; exact qk true a b c e g h
theorem qA {v:Value} (h1:(o.guard,o.dst,Nat.blt d N)=(none,some d,true)) (hr: ∀ {w},RV P f w o v) (h:QL P N ops C Qf rest (fY f d v)):QL P N ops C Qf (o::rest) f:=by
  simp only[Prod.mk.injEq]at h1; obtain ⟨a,b,c⟩:=h1; exact qq (by rw[a]; trivial) b c (fun _ _=>hr) h
theorem qB {v:Value} (h1:(o.guard,o.dst,Nat.blt d N)=(none,some d,true)) (hr: ∀ {w},C w→RV P f w o v) (h:QL P N ops C Qf rest (fY f d v)):QL P N ops C Qf (o::rest) f:=by
  simp only[Prod.mk.injEq]at h1; obtain ⟨a,b,c⟩:=h1; exact qq (by rw[a]; trivial) b c (fun _ h=>hr h) h
theorem yA {K:Fr→Prop} {v:Value} (h1:(o.guard,o.dst,Nat.blt d N)=(none,some d,true)) (hr: ∀ {w},RV P f w o v) (h:QY P N ops S K rest (fY f d v)):QY P N ops S K (o::rest) f:=by
  simp only[Prod.mk.injEq]at h1; obtain ⟨a,b,c⟩:=h1; exact .op (by rw[a]; trivial) b c (fun _ _=>hr) h
theorem yB {K:Fr→Prop} {v:Value} (h1:(o.guard,o.dst,Nat.blt d N)=(none,some d,true)) (hr: ∀ {w},S w→RV P f w o v) (h:QY P N ops S K rest (fY f d v)):QY P N ops S K (o::rest) f:=by
  simp only[Prod.mk.injEq]at h1; obtain ⟨a,b,c⟩:=h1; exact .op (by rw[a]; trivial) b c (fun _ h=>hr h) h
theorem lD {g o':Nat} {u:TypeId} {cs:cU} {gd:Option (Nat×Bool)} (v:Value) (hs:SH w0 w M L) (i:Nat) (h1:(L[i]?,ev f x,cs[o']?)=(some (.blk g u cs),.pointer (some ⟨g,o',none⟩),some v)) (h2:m8 P t=true):RV P f w ⟨some d,.load t x,ty,pos,aft,gd⟩ v:=by
  simp only[Prod.mk.injEq]at h1; exact ld hs i h1.1 h1.2.1 h1.2.2 h2
theorem lM {g o':Nat} {u:TypeId} {cs:cU} {gd:Option (Nat×Bool)} (v:Value) (hs:SH w0 w M L) (hi:It.blk g u cs∈L) (h1:(ev f x,cs[o']?)=(.pointer (some ⟨g,o',none⟩),some v)) (h2:m8 P t=true):RV P f w ⟨some d,.load t x,ty,pos,aft,gd⟩ v:=by
  simp only[Prod.mk.injEq]at h1; exact Nw hs hi h1.1 h1.2 h2
theorem lG {g o' n:Nat} {u:TypeId} {cs:cU} {gd:Option (Nat×Bool)} (vs:cU) (hs:SH w0 w M L) (i:Nat) (h1:(L[i]?,ev f x,(cs.drop o').take n,vs.length)=(some (.blk g u cs),.pointer (some ⟨g,o',none⟩),vs,n)) (h2:qF P t n=true):RV P f w ⟨some d,.load t x,ty,pos,aft,gd⟩ (.agg vs.toArray):=by
  simp only[Prod.mk.injEq]at h1; exact XY hs i h1.1 h1.2.1 h1.2.2.1 h1.2.2.2 h2
theorem sT {g o':Nat} {u:TypeId} {cs:cU} (v:Value) (hs:SH w0 w M L) (i:Nat) (h1:(L[i]?,ev f x,ev f y,Nat.blt o' cs.length,v.oneCell')=(some (.blk g u cs),.pointer (some ⟨g,o',none⟩),v,true,true)) (h2:m8 P t=true)
    (h: ∀ w1,SH w0 w1 M (L.eraseIdx i++[.blk g u (cs.set o' v)])→WL P N ops Q rest f w1):WL P N ops Q (⟨none,.store t x y,ty,pos,aft,none⟩::rest) f w:=by
  simp only[Prod.mk.injEq]at h1; exact st hs i h1.1 h1.2.1 h1.2.2.1 h1.2.2.2.1 h1.2.2.2.2 h2 trivial h
theorem sG {g o' n:Nat} {u:TypeId} {cs cs':cU} (vs:cU) (hs:SH w0 w M L) (i:Nat) (h1:(L[i]?,ev f x,ev f y,vs.length,Nat.ble (o'+n) cs.length,vs.all (·.oneCell'),cs.take o'++vs++cs.drop (o'+n))=(some (.blk g u cs),.pointer (some ⟨g,o',none⟩),.agg vs.toArray,n,true,true,cs')) (h2:qF P t n=true)
    (h: ∀ w1,SH w0 w1 M (L.eraseIdx i++[.blk g u cs'])→WL P N ops Q rest f w1):WL P N ops Q (⟨none,.store t x y,ty,pos,aft,none⟩::rest) f w:=by
  simp only[Prod.mk.injEq]at h1; exact Wk hs i h1.1 h1.2.1 h1.2.2.1 h1.2.2.2.1 h1.2.2.2.2.1 h1.2.2.2.2.2.1 h1.2.2.2.2.2.2 h2 trivial h
theorem cL {k:FuncId} {args:List Operand} {ts:Array TypeId} {post:Value→World→Prop} (hd:Nat.blt d N=true) (hF:bF P k (args.map (ev f)) w post)
    (h: ∀ v w',post v w'→WL P N ops Q rest (fY f d v) w'):WL P N ops Q (⟨some d,.call ⟨.value (.func k),args.toArray,ts⟩,ty,pos,aft,none⟩::rest) f w:=cl trivial hd hF h
theorem fE {k:FuncId} {fn:Func} {c:Code} {args:cU} {post:Value→World→Prop} {rs:List ResultVar} (hf:P.funcs[k]?=some fn) (hb:fn.body=some c)
    (hn:(fn.name == "runtime.NumGoroutine")=false) (h1:(fn.results,fn.ntmps,Nat.ble args.length N)=(rs.toArray,N,true)) (h:W P N c (fin P rs post) (BR args) w):bF P k args w post:=by
  simp only[Prod.mk.injEq]at h1; exact Jf hf hb hn h1.1 h1.2.1 h1.2.2 h
theorem fT {t:Tmp} {post:Value→World→Prop} (v:Value) (h1:f t=v) (hp:post v w):fin P [.tmp t] post .ret f w:=bO (v:=v) (.tmp .nil) h1 hp
def IC:eP→Bool
  | []=>true
  | a::l=>!(l.any (Nat.beq a)) && IC l
theorem SV: ∀ {l:eP},IC l=true→l.Nodup
  | [],_=>.nil
  | a::l,h=>by
    simp only[IC,iF,Bool.not_eq_true',List.any_eq_false]at h
    refine List.nodup_cons.mpr ⟨fun hm=>?_,SV h.2⟩
    have:=h.1 a hm
    simp at this
theorem SH.pk {L':gD} (hs:SH w0 w M L) (is:eP) (h:(is.map (fun i=>L[i]?),IC is)=(L'.map some,true)):SH w0 w M L':=hs.pick is (aS Prod.fst h) (SV (aS Prod.snd h))
theorem m1 {it:It} (hs:SH w0 w M L) (i:Nat) (h:L[i]?=some it): ∃ L,SH w0 w M L∧it∈L∧True:=⟨_,hs,cC i h,trivial⟩
theorem x7 {a:Nat}: ∀ k∈[a],a=k:=by intro k hk; simp at hk; exact hk.symm
theorem hA {l:List (Nat×Value)} (h:l.map (fun p=>f p.1)=l.map Prod.snd):Has f l:=by
  induction l with
  | nil=>trivial
  | cons p l ih=>simp only[G0,List.cons.injEq]at h; exact⟨h.1,ih h.2⟩
def Hz (f:Fr) (l:List (Nat×Value)):Prop:=∃ g,f=LC g l
theorem zH {l:List (Nat×Value)} (h:Has f l):Hz f l:=NA h
theorem zR {l:List (Nat×Value)} (h:l.map (fun p=>f p.1)=l.map Prod.snd):Hz f l:=NA (hA h)
theorem aO (i:Nat) {o:Oper} (ho:ops[i]?=some o) (h:WL P N ops (KQ P N ops S Q fuel (listed.setIfInBounds i true)) [o] f w) (hr:Region.ready .any ops listed=[i]:=by kernel_rfl):AL P N ops S Q (fuel+1) listed f w:=jN [i] (jP (eI ho h)) hr (by simp)
theorem dG (fuel' a b:Nat) (I:Fr→World→Prop) (h1: ∀ f w,I f w→AL P N ops S Q fuel' (XX a b) f w) (h2:(∀ f w,I f w→AL P N ops S Q fuel' (XX a b) f w)→AL P N ops S Q fuel listed f w):AL P N ops S Q fuel listed f w:=h2 h1
end
def BX (L:gD) (is:eP):gD:=is.filterMap (fun i=>L[i]?)
def N0 {α:Type} (L:List α) (is:eP):Bool:=is.all (fun i=>Nat.blt i L.length)
theorem ZP {L:gD}: ∀ {is:eP},N0 L is=true→is.map (fun i=>L[i]?)=(BX L is).map some
  | [],_=>rfl
  | i::is,h=>by
    simp only[N0,List.all_cons,iF]at h
    have hi:i<L.length:=by simpa [Nat.blt_eq] using h.1
    have:=ZP (L:=L) (is:=is) h.2
    simp[BX,wH hi]at this ⊢
    exact this
section
variable {w0 w w1:World} {M:eP} {L:gD}
theorem SH.pq (hs:SH w0 w M L) (is:eP) (h:(N0 L is,IC is)=(true,true)):SH w0 w M (BX L is):=by
  simp only[Prod.mk.injEq]at h
  exact hs.pick is (ZP h.1) (SV h.2)
theorem Rd {L:gD} {a b:eP}:BX L (a++b)=BX L a++BX L b:=by simp[BX,List.filterMap_append]
theorem SH.cK {L':gD} {M':eP} (hs:SH w0 w M L) (a b:eP) (hc:SH w w1 M' L') (h:(N0 L (a++b),IC (a++b),M')=(true,true,(BX L a).flatMap It.blocks)):SH w0 w1 M (BX L b++L'):=by
  simp only[Prod.mk.injEq]at h
  exact SH.vV (by rw[← Rd]; exact hs.pq (a++b) (by rw[h.1,h.2.1])) hc h.2.2
def SU:It→Bool
  | .own none 0 0 _ _ []=>true
  | _=>false
theorem Qd {i:It} (h:SU i=true):i.ok w∧ ∀ k,¬ i.has k:=by
  unfold SU at h
  split at h
  · exact⟨⟨by simp,lA _,yX _,.inl rfl⟩,fun _ h=>h.1 rfl⟩
  · cases h
theorem SH.nl (hs:SH w0 w M L) (l:gD) (h:l.all SU=true):SH w0 w M (L++l):=SH.AB (fun i hi=>Qd (List.all_eq_true.1 h i hi)) hs
end
section
variable {α β γ δ ε:Type}
end

section
variable {w0 w w1:World} {M:eP} {L:gD} {e:TypeId} {us vs:List Hd}
end
structure Cx where
  r:El
  n:Nat
  ds:List Deferred
def Cx.F (X:Cx):Fence:={Fence.wide with round:=X.r}
structure nP (X:Cx) (N:Nat) (f:Fr) (a:Act):Prop where
  dfs:a.defers=X.ds
  rep:mJ N f {a with defers:=[]}
theorem nP.eval {X:Cx} {N:Nat} {f:Fr} {a:Act} (h:nP X N f a):a.eval=ev f:=h.rep.eval
theorem nP.put {X:Cx} {N:Nat} {f:Fr} {a:Act} (h:nP X N f a) {d:Nat} (hd:Nat.blt d N=true) (v:Value):nP X N (fY f d v) (a.put (some d) v):=
  ⟨h.dfs,h.rep.put hd v⟩
section
variable (X:Cx) (P:Program) (N:Nat)
@[irreducible] def WX (c:Code) (Q:Po) (f:Fr) (w:World):Prop:=
  ∀ a,nP X N f a→c.wpIn X.F X.n P (fun e a' w'=>∃ f',nP X N f' a'∧Q e f' w') a w
@[irreducible] def LX (ops:Array Oper) (Q:Po) (l:List Oper) (f:Fr) (w:World):Prop:=
  ∀ a,nP X N f a→wpListIn X.F X.n P ops (fun e a' w'=>∃ f',nP X N f' a'∧Q e f' w') l a w
end
section
variable {X:Cx} {P:Program} {N:Nat} {Q:Po} {f:Fr} {w:World}
theorem vI {x y:Code} (h:WX X P N x (xA (WX X P N y Q) Q) f w):WX X P N (.seq x y) Q f w:=by
  unfold WX at*
  intro a ha
  refine wpIn_seq (CC (h a ha) fun e a' w' ⟨f',hf,hQ⟩=>?_)
  cases e with
  | normal=>exact hQ a' hf
  | _=>exact⟨f',hf,hQ⟩
theorem K2 (h:Q .normal f w):WX X P N .skip Q f w:=by unfold WX; exact fun a ha=>wpIn_skip ⟨f,ha,h⟩
theorem Ai (h:Q .ret f w):WX X P N .ret Q f w:=by unfold WX; exact fun a ha=>wpIn_ret ⟨f,ha,h⟩
theorem Iy {id:Nat} (h:Q (.exit id) f w):WX X P N (.exit id) Q f w:=by unfold WX; exact fun a ha=>wpIn_exit ⟨f,ha,h⟩
theorem QI {id:Nat} {c:Code} (h:WX X P N c (DA id Q) f w):WX X P N (.block id c) Q f w:=by
  unfold WX at*
  intro a ha
  refine wpIn_block (CC (h a ha) fun e a' w' ⟨f',hf,hQ⟩=>?_)
  cases e with
  | exit id'=>
    unfold DA at hQ
    unfold Exit.inBlock
    by_cases hid:id'=id
    · subst hid
      simp only[if_true]
      have hb:Nat.beq id' id'=true:=by simp
      simp only[hb,cond_true]at hQ
      exact⟨f',hf,hQ⟩
    · have hb:Nat.beq id' id=false:=MN hid
      simp only[hid,if_false]
      simp only[hb,cond_false]at hQ
      exact⟨f',hf,hQ⟩
  | _=>exact⟨f',hf,hQ⟩
theorem UW {c:Operand} {x y:Code} {b:Bool} (hc:ev f c=.bool b) (ht:b=true→WX X P N x Q f w) (hf:b=false→WX X P N y Q f w):WX X P N (.cond c x y) Q f w:=by
  unfold WX at*
  intro a ha
  exact wpIn_cond_split (by rw[ha.eval]; exact hc) (fun h=>ht h a ha) (fun h=>hf h a ha)
theorem MS {c:Operand} {x y:Code} {p:Prop} [Decidable p] (hc:ev f c=.bool (decide p)) (ht:p→WX X P N x Q f w) (hf: ¬ p→WX X P N y Q f w):WX X P N (.cond c x y) Q f w:=
  UW hc (fun h=>ht (pI h)) (fun h=>hf (yT h))
theorem Ae {id:Nat} {l:List Oper} (h:LX X P N l.toArray Q l f w):WX X P N (.region id l.toArray false) Q f w:=by
  unfold WX LX at*
  exact fun a ha=>wpIn_region_lit (h a ha)
theorem YQ {ops:Array Oper} (h:Q .normal f w):LX X P N ops Q [] f w:=by
  unfold LX
  exact fun a ha=>wpListIn_nil ⟨f,ha,h⟩
variable {ops:Array Oper} {rest:List Oper} {o:Oper} {d:Nat} {v:Value} {w':World}
theorem SW {o:Oper} {nx:Next} (h:(execOp (ev f) o).run P w=.ok nx w') (hv: ∀ d,nx≠ .defer d): ∀ c,o.op≠ .defer c:=by
  intro c hc
  obtain ⟨dst,op,ty,pos,aft,gd⟩:=o
  simp only at hc
  subst hc
  simp only[execOp,Sem.run_bind]at h
  cases hr:(resolve (ev f) c ty).run P w with
  | ok d w1=>rw[hr]at h; simp at h; exact hv d h.1.symm
  | _=>rw[hr]at h; simp at h
theorem LX.op (hg:On ops f o.guard) (hdst:o.dst=some d) (hd:Nat.blt d N=true)
    (hrun:(execOp (ev f) o).run P w=.ok (.value v) w') (h:LX X P N ops Q rest (fY f d v) w'):LX X P N ops Q (o::rest) f w:=by
  have hnd:=SW hrun (fun _ h=>by cases h)
  unfold LX at*
  intro a ha
  refine wpListIn_step fun K hK=>?_
  rw[cF (hg.wanted ha.rep)]
  unfold Oper.wpIn
  refine⟨fun _ _=>trivial,?_⟩
  rw[Oper.semAt_eq _ _ _ hnd,ha.eval,hrun,Oper.uponIn_value,hdst]
  exact hK _ _ (h _ (ha.put hd v))
theorem LX.OP (hg:On ops f o.guard) (hdst:o.dst=none)
    (hrun:(execOp (ev f) o).run P w=.ok .skip w') (h:LX X P N ops Q rest f w'):LX X P N ops Q (o::rest) f w:=by
  have hnd:=SW hrun (fun _ h=>by cases h)
  unfold LX at*
  intro a ha
  refine wpListIn_step fun K hK=>?_
  rw[cF (hg.wanted ha.rep)]
  unfold Oper.wpIn
  refine⟨fun _ _=>trivial,?_⟩
  rw[Oper.semAt_eq _ _ _ hnd,ha.eval,hrun,Oper.uponIn_skip,hdst]
  exact hK _ _ (h _ ha)
theorem qX (hg:On ops f o.guard) (hdst:o.dst=some d) (hd:Nat.blt d N=true) (hr:RV P f w o v) (h:LX X P N ops Q rest (fY f d v) w):LX X P N ops Q (o::rest) f w:=LX.op hg hdst hd hr h
end
def l4 (cs:Array Value):Prop:=∃ m,cs= #[Value.int .i64 m]
theorem bZ.cell {P:Program} {w:World} {X:eP} {n:String} {g:Nat} (h:bZ P w X n l4) (hg:P.globalNamed n=some g): ∃ m,w.cell? ⟨g,0,none⟩=some (.int .i64 m):=by
  obtain ⟨g',cs,⟨m,rfl⟩,h2,h3,_⟩:=h
  obtain rfl:=Option.some.inj (hg.symm.trans h2)
  refine⟨m,?_⟩
  unfold World.var? at h3
  rw[hg]at h3
  simp only[JE]at h3
  cases ho:w.heap[g]? with
  | none=>rw[ho]at h3; cases h3
  | some o=>
    rw[ho]at h3
    cases o <;> simp at h3
    subst h3
    simp[World.cell?,ho]
theorem Hu {P:Program} {k:FuncId} {args:cU} {as:Array Value} {w:World} {v:Value} (hb:xE P k) (ha:args.toArray=as)
    (h:Calls P k as w fun e w'=>e=.returned v∧ ∃ n,w'=w.drewN n):bF P k args w (fun u w'=>u=v∧SH w w' [] []):=by
  refine bF.FO hb ha h ?_
  rintro e w' ⟨rfl,n,rfl⟩
  exact⟨v,rfl,rfl,rfl,rfl,rfl,lA _,fun _ _ _=>rfl,by simp,by simp,by simp⟩
theorem SH.Ux {w0 w:World} {M:eP} {L:gD} {A:aM} {n c sz e:Nat} {xs:cU} {x1 x2 x3:It} (hs:SH w0 w M L) (i j1 j2 j3:Nat) (h1:j1≠i) (h2:j2≠i) (h3:j3≠i) (hi:L[i]?=some (.own A n c e sz xs)) (g1:L[j1]?=some x1) (g2:L[j2]?=some x2) (g3:L[j3]?=some x3):
    Sl w (x1.blocks++(x2.blocks++(x3.blocks++[]))) sz A n c xs:=
  hs.sl i hi fun k hk=>by
    simp only[xH,JG]at hk
    rcases hk with hk | hk | hk
    · exact⟨x1,List.mem_eraseIdx_iff_getElem?.2 ⟨j1,h1,g1⟩,It.x8.1 hk⟩
    · exact⟨x2,List.mem_eraseIdx_iff_getElem?.2 ⟨j2,h2,g2⟩,It.x8.1 hk⟩
    · exact⟨x3,List.mem_eraseIdx_iff_getElem?.2 ⟨j3,h3,g3⟩,It.x8.1 hk⟩
section
variable {P:Program} {w:World} {t u ty e:TypeId}
theorem TP (l:aD):Lib.strCells ⟨l.toArray⟩=l.map U:=by simp[Lib.strCells]
theorem Sd {i:TypeInfo} {zv:Value} (ht:P.underlying t=some (.slice e)) (hu:P.underlying u=some .string) (hi:P.info? e=some i) (hz:i.zero=some zv) (A:aM) (s:ByteArray)
    (h0:0<s.size) (qZ:(s.size:Int)≤9223372036854775807) (Jl:s.size*i.bytes≤281474976710656):
    (Builtin.append_ #[t,u] ty #[.slice A 0 0,.string s]).run P w=
      .ok (.slice (some ⟨w.heap.size,0,none⟩) s.size (grownCap w s.size 0 e)) (w.drew.alloc (.cells ((Lib.strCells s).toArray++Builtin.zeroCells zv.cells (grownCap w s.size 0 e-s.size)) e)):=by
  have hn:s.size≠0:=by omega
  have J8: ¬ (9223372036854775807<(s.size:Int)):=by omega
  have Q6: ¬ (281474976710656<Builtin.nextslicecap s.size 0*i.bytes):=by rw[nextslicecap_zero h0]; omega
  have hf:=Lib.run_firstCells_string (P:=P) w.drew i.size s
  have RE:(Builtin.firstCells i.size 0 (.slice A 0 0)).run P w.drew=.ok #[] w.drew:=by
    cases A <;> simp[Builtin.firstCells,loadCells,loadCellsFrom]
  simp[Builtin.append_,kQ ht,kQ hu,sizeOf,typeInfo,zeroValue,hi,hz,Builtin.lenOf,hn,J8,Q6,Question.forced,RE,hf,newRow,grownCap]
theorem Sf {i:TypeInfo} (ht:P.underlying t=some (.slice e)) (hu:P.underlying u=some .string) (hi:P.info? e=some i) (A:aM) (n c:Nat) (hc:n≤c) (s:ByteArray) (h0:s.size=0):(Builtin.append_ #[t,u] ty #[.slice A n c,.string s]).run P w=.ok (.slice A n c) w:=by
  have hf:=Lib.run_firstCells_string (P:=P) w i.size s
  have hn:Lib.strCells s=[]:=vO (by rw[Lib.strCells_length]; exact h0)
  rw[h0,hn]at hf
  cases A <;> simp[Builtin.append_,kQ ht,kQ hu,sizeOf,typeInfo,hi,Builtin.lenOf,h0,hf,hc,storeCells]
theorem Sh {n c:Nat} {A:aM} {xs:cU} (hT:jW P t e 1 1 (.int .u8 0)) (hu:P.underlying u=some .string) (ho:j6 w A n c e 1 xs) (s:aD) (qZ:n+s.length≤maxLen) (hb:n+s.length≤140737488355328):
    ∃ A' c' w1,(Builtin.append_ #[t,u] ty #[.slice A n c,aA s]).run P w=.ok (.slice A' (n+s.length) c') w1∧j6 w1 A' (n+s.length) c' e 1 (xs++s.map U)∧
      w1.os=w.os∧w1.tape=w.tape∧w1.output=w.output∧w.heap.size≤w1.heap.size∧(∀ k,k<w.heap.size→ ¬ (It.own A n c e 1 xs).has k→w1.heap[k]?=w.heap[k]?)∧
      ∀ k,(It.own A' (n+s.length) c' e 1 (xs++s.map U)).has k→(It.own A n c e 1 xs).has k∨w.heap.size≤k:=by
  obtain ⟨i,hi,hz,NR,hbi⟩:=hT.inf
  have lQ:(ByteArray.mk s.toArray).size=s.length:=GD s
  have hle:(s.map U).length=s.length:=by simp
  rcases wI s.length with hm | hm
  · have HX:s=[]:=vO hm
    subst HX
    exact⟨A,c,w,Sf hT.und hu hi A n c ho.2.1 _ lQ,by simpa using ho,rfl,rfl,rfl,lA _,fun _ _ _=>rfl,fun k hk=>.inl (by simpa [It.has] using hk)⟩
  · obtain ⟨o1,o2,o3,o4⟩:=ho
    by_cases hc:c=0
    · subst hc
      have hn:n=0:=by omega
      subst hn
      have hx:xs=[]:=vO (by simpa using o1)
      subst hx
      have hmx:s.length≤maxLen:=by omega
      have hr:=Sd (P:=P) (w:=w) (t:=t) (u:=u) (ty:=ty) hT.und hu hi hz A ⟨s.toArray⟩ (by rw[lQ]; exact hm) (by rw[lQ]; unfold maxLen at hmx; omega) (by rw[lQ,hbi]; omega)
      rw[lQ,TP]at hr
      have hge:=grownCap_ge w s.length 0 e
      have hcm:grownCap w s.length 0 e≤maxLen:=LQ w s.length 0 e hmx
      refine⟨_,_,_,by simpa [aA] using hr,⟨by simp,by simpa using hge,hcm,.inr ⟨_,_,rfl,GX w.drew _,?_,?_⟩⟩,rfl,rfl,rfl,by simp,fun k hk _=>(Below.heap_alloc w.drew _ k hk),fun k hk=>.inr ?_⟩
      · have uO:(Value.int IntKind.u8 0).cells.size=1:=rfl
        simp only[LU,xG,size_zeroCells,uO,hle]
        omega
      · simp only[LP,List.nil_append,pT,CB]
        conv=>lhs; rw[← hle]
        exact GY
      · obtain ⟨_,a',ha',hk⟩:=hk
        cases ha'
        exact Nat.le_of_eq hk
    · obtain ⟨g,cur,rfl,hg,hcs,htake⟩:=o4.resolve_left hc
      by_cases hroom:n+s.length≤c
      · have hr:=Lib.run_append_room_string (P:=P) w t u ty e i hT.und hu hi NR g n c cur hg ⟨s.toArray⟩ (by rw[lQ]; exact hroom) (by rw[lQ,hcs]; omega)
        rw[lQ,TP]at hr
        refine⟨_,_,_,hr,⟨by simp; omega,hroom,o3,.inr ⟨g,_,rfl,setRow_heap w g cur _ e _ hg,?_,?_⟩⟩,rfl,rfl,rfl,by simp,fun k hk hn=>setRow_other w g k _ (fun e=>hn ⟨hc,_,rfl,e.symm⟩),fun k hk=>.inl ?_⟩
        · simp only[xG,bH,dV,fC,Array.length_toList,hle]
          omega
        · have ht':cur.toList.take n=xs:=by simpa using htake
          have hlen:(xs++s.map U).length=(n+s.length)*1:=by rw[bH,hle]; omega
          rw[ht',← hlen]
          exact GY
        · obtain ⟨_,a',ha',hk⟩:=hk
          exact⟨hc,a',ha',hk⟩
      · have hown:w.ownsRow 0 e 1 (.slice (some ⟨g,0,none⟩) n c) n xs:=⟨o1,.inr ⟨g,c,cur,rfl,yX _,hg,o2,o3,hcs,htake⟩⟩
        have hmx:n+s.length≤maxLen:=qZ
        have hr:=Lib.run_append_grow_string (P:=P) w t u ty e i (.int .u8 0) hT.und hu hi hz ⟨g,0,none⟩ n c xs (by rw[NR]; simpa using o1) (hown.cells (g:=g) rfl) ⟨s.toArray⟩ (by rw[lQ]; omega) (by rw[lQ]; unfold maxLen at hmx; omega) (by rw[lQ,hbi]; exact growslice_fits (by omega) (by omega))
        rw[lQ,TP]at hr
        have hge:=grownCap_ge w (n+s.length) c e
        have hcm:grownCap w (n+s.length) c e≤maxLen:=LQ w (n+s.length) c e hmx
        have hxl:xs.length=n:=by simpa using o1
        refine⟨_,_,_,hr,⟨by simp; omega,hge,hcm,.inr ⟨_,_,rfl,GX w.drew _,?_,?_⟩⟩,rfl,rfl,rfl,by simp,fun k hk _=>(Below.heap_alloc w.drew _ k hk),fun k hk=>.inr ?_⟩
        · have uO:(Value.int IntKind.u8 0).cells.size=1:=rfl
          simp only[LU,xG,size_zeroCells,uO,hle,hxl]
          omega
        · have hlen:(xs++s.map U).length=(n+s.length)*1:=by rw[bH,hle]; omega
          simp only[LP,vR]
          rw[← vR,← hlen]
          exact GY
        · obtain ⟨_,a',ha',hk⟩:=hk
          cases ha'
          exact Nat.le_of_eq hk
end
section
variable {P:Program} {N:Nat} {Q:Po} {f:Fr} {w0 w:World} {M:eP} {L:gD} {ops:Array Oper} {rest:List Oper} {d:Nat} {ty t u e:TypeId} {pos:String} {aft:Array Edge} {gd:Option (Nat×Bool)} {x y:Operand} {A:aM} {c:Nat} {ys s:aD}
theorem Fj (hs:SH w0 w M L) (i:Nat) (hi:L[i]?=some (.own A ys.length c e 1 (ys.map U))) (hT:jW P t e 1 1 (.int .u8 0)) (hu:P.underlying u=some .string) (hx:ev f x=.slice A ys.length c) (hy:ev f y=aA s) (qZ:ys.length+s.length≤maxLen) (hb:ys.length+s.length≤140737488355328) (hg:On ops f gd) (hd:Nat.blt d N=true)
    (h: ∀ A' c' w1,SH w0 w1 M (L.eraseIdx i++[.own A' (ys++s).length c' e 1 ((ys++s).map U)])→WL P N ops Q rest (fY f d (.slice A' (ys++s).length c')) w1):
    WL P N ops Q (⟨some d,.call ⟨.builtin .append, #[x,y], #[t,u]⟩,ty,pos,aft,gd⟩::rest) f w:=by
  obtain ⟨A',c',w1,hrun,ho,q1,q2,q3,q4,q5,q6⟩:=Sh (ty:=ty) hT hu (hs.ok _ (nQ hi)) s qZ hb
  have e1:ys.length+s.length=(ys++s).length:=by simp
  have e2:ys.map U++s.map U=(ys++s).map U:=by simp
  rw[e1]at hrun
  rw[e1,e2]at ho q6
  refine WL.op hg rfl hd (w':=w1) (by simp[execOp,resolve,invoke,builtin,hx,hy,hrun]) (h A' c' w1 (hs.write i [.own A' (ys++s).length c' e 1 ((ys++s).map U)] hi q1 q2 q3 q4 q5 ?_ ?_ (by simp)))
  · intro j hj; rw[GV]at hj; subst hj; exact ho
  · intro j hj k hk; rw[GV]at hj; subst hj; exact q6 k hk
theorem SH.AA {x1 x2 x3:It} (hs:SH w0 w M L) (j1 j2 j3:Nat) (g1:L[j1]?=some x1) (g2:L[j2]?=some x2) (g3:L[j3]?=some x3): ∀ k∈x1.blocks++(x2.blocks++(x3.blocks++[])),k∈M∨w0.heap.size≤k:=by
  intro k hk
  simp only[xH,JG]at hk
  rcases hk with hk | hk | hk
  · exact(hs.lo _ (nQ g1) k (It.x8.1 hk)).symm
  · exact(hs.lo _ (nQ g2) k (It.x8.1 hk)).symm
  · exact(hs.lo _ (nQ g3) k (It.x8.1 hk)).symm
end
def ID (K:Fr→World→Prop):Po:=fun e f w=>e=.normal∧K f w
def KS (l:List Oper):Bool:=l.all fun o=>match o.op with | .defer _=>false | _=>true
theorem Sa {X:Cx} {n:Nat} {P:Program} {row:String} {args:Array Value} {w:World} {R:Value→World→Prop} (h:Rows P row args w R):RowsIn X.F n P row args w R:=
  fun c cs _=>let ⟨v,w',r,s⟩:=h c cs; ⟨v,w',r,stepsIn_wide.2 s⟩
theorem EK {X:Cx} {P:Program} {N:Nat} {Q:Po} {K:Fr→World→Prop} {ops:Array Oper} (hK: ∀ f w,K f w→Q .normal f w): ∀ (l:List Oper) (a1 a2:Act) (w:World),KS l=true→a1.tmps=a2.tmps→a2.defers=a1.defers++X.ds→
    wpList P ops (fun e a' w'=>∃ f',mJ N f' a'∧ID K e f' w') l a1 w→wpListIn X.F X.n P ops (fun e a' w'=>∃ f',nP X N f' a'∧Q e f' w') l a2 w
  | [],a1,a2,w,_,ht,hd,h=>by
    obtain ⟨f',hr,_,hk⟩:=h
    refine⟨f',⟨?_,?_,rfl,fun t=>?_⟩,hK _ _ hk⟩
    · rw[hd,hr.nod]; rfl
    · show a2.tmps.size=N
      rw[← ht]; exact hr.size
    · show a2.tmps.getD t undef=_
      rw[← ht]; exact hr.at_ t
  | o::l,a1,a2,w,hn,ht,hd,h=>by
    have hev:a1.eval=a2.eval:=by funext x; cases x <;> simp[Act.eval,ht]
    have hnd: ∀ c,o.op≠ .defer c:=by intro c hc; simp[KS,hc]at hn
    have hnl:KS l=true:=by
      unfold KS at hn ⊢
      rw[List.all_cons,iF]at hn
      exact hn.2
    have hput: ∀ (d:Option Tmp) (v:Value),(a1.put d v).tmps=(a2.put d v).tmps∧(a2.put d v).defers=(a1.put d v).defers++X.ds:=by
      intro d v; cases d <;> simp[Act.put,ht,hd]
    have hputd: ∀ (d:Option Tmp) (v:Value) (x:Deferred),(({a1 with defers:=x::a1.defers}:Act).put d v).tmps=(({a2 with defers:=x::a2.defers}:Act).put d v).tmps∧(({a2 with defers:=x::a2.defers}:Act).put d v).defers=(({a1 with defers:=x::a1.defers}:Act).put d v).defers++X.ds:=by
      intro d v x; cases d <;> simp[Act.put,ht,hd]
    unfold wpList at h
    unfold wpListIn
    rw[ht]at h
    split at h
    · rename_i hw
      rw[cF hw]
      rcases h with h | ⟨_,_,_,_,_,hh,_⟩
      · refine⟨fun _ _=>trivial,?_⟩
        rw[Oper.semAt_eq _ _ _ hnd,← hev]
        unfold Oper.wp at h
        cases hr:(execOp a1.eval o).run P w with
        | ok nx w'=>
          rw[hr]at h
          cases nx with
          | value v=>exact EK hK l _ _ _ hnl (hput _ _).1 (hput _ _).2 h
          | skip=>exact EK hK l _ _ _ hnl (hput _ _).1 (hput _ _).2 h
          | defer d=>exact EK hK l _ _ _ hnl (hputd _ _ _).1 (hputd _ _ _).2 h
          | enter f args=>
            refine⟨fun h=>(by cases h),?_⟩
            have hc:CallsIn Fence.wide (X.n-1) P f args w' _:=callsIn_wide.2 h
            exact CallsIn.mono (F:=X.F) hc fun e w' r=>by
              cases e with
              | returned v=>exact EK hK l _ _ _ hnl (hput _ _).1 (hput _ _).2 r
              | panicked ch=>obtain ⟨_,_,hh,_⟩:=r; cases hh
              | outgrown=>obtain ⟨_,_,_,_,hh,_⟩:=r; cases hh
          | row row args=>exact⟨fun h=>(by cases h),RowsIn.mono (Sa h) fun v w' r=>EK hK l _ _ _ hnl (hput _ _).1 (hput _ _).2 r⟩
          | _=>exact h.elim
        | halt hh w'=>
          rw[hr]at h
          cases hh with
          | panic v=>obtain ⟨_,_,hh,_⟩:=h; cases hh
          | _=>exact h.elim
      · cases hh
    · rename_i hw
      rw[b0 hw]
      exact⟨fun _ _=>trivial,EK hK l _ _ _ hnl (hput _ _).1 (hput _ _).2 h⟩
section
variable {X:Cx} {P:Program} {N:Nat} {Q:Po} {f:Fr} {w:World}
theorem IM {id:Nat} {l:List Oper} (hn:KS l=true) (h:WL P N l.toArray (ID (Q .normal)) l f w):WX X P N (.region id l.toArray false) Q f w:=by
  unfold WX
  unfold WL at h
  intro a ha
  refine wpIn_region_lit (EK (fun _ _ h=>h) l {a with defers:=[]} a w hn rfl ?_ (h _ ha.rep))
  rw[ha.dfs]; rfl
theorem UX {c:Operand} {x y:Code} (hc:ev f c=.bool false) (ht:WX X P N y Q f w):WX X P N (.cond c x y) Q f w:=UW hc (fun h=>by cases h) (fun _=>ht)
theorem WX.mono {c:Code} {Q':Po} (h:WX X P N c Q f w) (hq: ∀ e f w,Q e f w→Q' e f w):WX X P N c Q' f w:=by
  unfold WX at*
  exact fun a ha=>CC (h a ha) (fun e a' w' ⟨f',hf,hQ⟩=>⟨f',hf,hq _ _ _ hQ⟩)
theorem Pp {c:Code} {σ:Type} (I:σ→Fr→World→Prop) (μ:σ→Nat) (s:σ) (h0:I s f w)
    (round: ∀ s f w,I s f w→WX X P N c (xA (fun f' w'=>∃ s',I s' f' w'∧μ s'<μ s) Q) f w):WX X P N (.loop c) Q f w:=by
  have key: ∀ n s f w,μ s=n→I s f w→ ∀ a,nP X N f a→ ∀ (b:Frame) (k:List Item) (cs:List Frame),b.roundOf=X.F.round→X.F.fn b.fn→X.F.room (cs.length+1+X.n)→
      ∃ e a' w',(∃ f',nP X N f' a'∧Q e f' w')∧ArrivesIn (Machine.fenced P X.F) P (lone (b.atR a (.code c:: .inLoop c::k)) cs w) b k cs e a' w':=by
    intro n
    induction n using Nat.strongRecOn with
    | _ n ih=>
      intro s f w hn hI a ha b k cs hro hb hr
      have hrd:=round s f w hI
      unfold WX at hrd
      obtain ⟨e,a₁,w₁,⟨f₁,hf₁,hq⟩,harr⟩:=hrd a ha b (.inLoop c::k) cs hro hb hr
      cases e with
      | normal=>
        obtain ⟨s',hI₁,hlt⟩:=hq
        obtain ⟨e₂,a₂,w₂,hq₂,harr₂⟩:=ih (μ s') (hn ▸ hlt) s' f₁ w₁ rfl hI₁ a₁ hf₁ b k cs hro hb hr
        exact⟨e₂,a₂,w₂,hq₂,.of_steps (StepsIn.trans harr (.one (fenced_calm hb hr rfl) stepR_inLoop)) harr₂⟩
      | exit id=>exact⟨_,a₁,w₁,⟨f₁,hf₁,hq⟩,.pass (x:=.inLoop c) rfl (fun _ _=>.inl (by simp)) harr⟩
      | goto l=>exact⟨_,a₁,w₁,⟨f₁,hf₁,hq⟩,.pass (x:=.inLoop c) rfl (fun _ _=>.inl (by simp)) harr⟩
      | ret=>exact⟨_,a₁,w₁,⟨f₁,hf₁,hq⟩,.pass (x:=.inLoop c) rfl (fun _ _=>.inl (by simp)) harr⟩
      | panic ch=>exact⟨_,a₁,w₁,⟨f₁,hf₁,hq⟩,.pass (x:=.inLoop c) rfl (fun _ _=>.inl (by simp)) harr⟩
      | outgrown=>exact⟨_,a₁,w₁,⟨f₁,hf₁,hq⟩,.pass (x:=.inLoop c) rfl (fun _ _=>.inl (by simp)) harr⟩
  unfold WX
  intro a ha b k cs hro hb hr
  obtain ⟨e,a',w',hq,harr⟩:=key _ s f w rfl h0 a ha b k cs hro hb hr
  exact⟨e,a',w',hq,.of_steps (.one (fenced_calm hb hr rfl) stepR_loop) harr⟩
theorem Ee {ops:Array Oper} {rest:List Oper} {d:Nat} {g:Operand} {args:List Operand} {ts:Array TypeId} {ty:TypeId} {pos:String} {aft:Array Edge} {gd:Option (Nat×Bool)} {l:Nat} {fn:FuncId} {tmps:Array Value} {assign body:Code} {R:Ending→World→Prop}
    (hg:On ops f gd) (hd:Nat.blt d N=true) (hv:ev f g=.func (.yield l) #[] #[]) (hy:(Instr.yield l (args.map (ev f)).toArray).run P w=.ok (.round l fn tmps assign body) w)
    (hR:RoundIn X.F (X.n-1) P l fn tmps assign body w R) (h: ∀ e w',R e w'→ ∃ v,e=.returned v∧LX X P N ops Q rest (fY f d v) w'):
    LX X P N ops Q (⟨some d,.call ⟨.value g,args.toArray,ts⟩,ty,pos,aft,gd⟩::rest) f w:=by
  have hrun:(execOp (ev f) ⟨some d,.call ⟨.value g,args.toArray,ts⟩,ty,pos,aft,gd⟩).run P w=.ok (.round l fn tmps assign body) w:=by
    have hargs:(#[]:Array Value)++(args.toArray).map (ev f)++ #[]=(args.map (ev f)).toArray:=by simp
    have:(execOp (ev f) ⟨some d,.call ⟨.value g,args.toArray,ts⟩,ty,pos,aft,gd⟩).run P w=(Instr.yield l ((#[]:Array Value)++(args.toArray).map (ev f)++ #[])).run P w:=by
      simp[execOp,resolve,hv,Deferred.ofValue,invoke]
    rw[this,hargs,hy]
  have hnd:=SW hrun (fun _ h=>by cases h)
  unfold LX at*
  intro a ha
  refine wpListIn_step fun K hK=>?_
  rw[cF (On.wanted (o:=⟨some d,.call ⟨.value g,args.toArray,ts⟩,ty,pos,aft,gd⟩) hg ha.rep)]
  unfold Oper.wpIn
  refine⟨fun _ _=>trivial,?_⟩
  rw[Oper.semAt_eq _ _ _ hnd,ha.eval,hrun,Oper.uponIn_round]
  refine⟨fun h=>(by cases h),RoundIn.mono hR fun e w' r=>?_⟩
  obtain ⟨v,rfl,hv⟩:=h e w' r
  exact hK _ _ (hv _ (ha.put hd v))
def WZ (X:Cx) (P:Program) (N:Nat) (c:Code) (R:Exit→Act→World→Prop) (f:Fr) (w:World):Prop:=∀ a,nP X N f a→c.wpIn X.F X.n P R a w
theorem wZ {c:Code} {R:Exit→Act→World→Prop} (h:WX X P N c Q f w) (hq: ∀ e f w,Q e f w→ ∀ a,nP X N f a→R e a w):WZ X P N c R f w:=by
  unfold WX at h
  exact fun a ha=>CC (h a ha) fun e a' w' ⟨f',hf,hQ⟩=>hq e f' w' hQ a' hf
end
section
variable {X:Cx} {P:Program} {N:Nat} {Q:Po} {f:Fr} {w:World}
theorem wT {n:Nat} {c:Code} (h:W P N c Q f w):WX ⟨none,n,[]⟩ P N c Q f w:=by
  unfold WX
  unfold W at h
  intro a ha
  have hd:a.defers=[]:=ha.dfs
  have hr:mJ N f a:=by
    have:=ha.rep
    cases a
    simp only at hd
    subst hd
    exact this
  refine wpIn_wide.2 (Code.wp_mono (fun e a' w' ⟨f',hf,hQ⟩=>⟨f',⟨hf.nod,?_⟩,hQ⟩) (h a hr))
  exact⟨hf.size,rfl,hf.at_⟩
def TT (X:Cx) (N:Nat) (next:Fr→World→Prop) (R:Exit→Act→World→Prop):Po
  | .normal,f,w=>next f w
  | .ret,f,w=>∀ a,nP X N f a→R .ret a w
  | _,_,_=>False
theorem nZ {next:Fr→World→Prop} {R:Exit→Act→World→Prop} (h:next f w):TT X N next R .normal f w:=h
theorem rZ {next:Fr→World→Prop} {R:Exit→Act→World→Prop} (h: ∀ a,nP X N f a→R .ret a w):TT X N next R .ret f w:=h
theorem K3 {x y:Code} {R:Exit→Act→World→Prop} (h:WX X P N x (TT X N (WZ X P N y R) R) f w):WZ X P N (.seq x y) R f w:=by
  unfold WX at h
  intro a ha
  refine wpIn_seq (CC (h a ha) fun e a' w' ⟨f',hf,hQ⟩=>?_)
  cases e with
  | normal=>exact hQ a' hf
  | ret=>exact hQ a' hf
  | _=>exact hQ.elim
end
theorem Yd {X:Cx} {P:Program} {N:Nat} {f:Fr} {w:World} {d:List Deferred} {y:Code} {R:Exit→Act→World→Prop} (h:WZ {X with ds:=d} P N y R f w): ∀ a,nP {X with ds:=d} N f a→Exit.then (y.wpIn X.F X.n P R) R .normal a w:=h
theorem Wa {X:Cx} {P:Program} {N:Nat} {f:Fr} {w:World} {x y:Code} {R:Exit→Act→World→Prop} (h:WZ X P N x (Exit.then (y.wpIn X.F X.n P R) R) f w):WZ X P N (.seq x y) R f w:=fun a ha=>wpIn_seq (h a ha)
def VY (P:Program) (rs:List ResultVar) (R:Ending→World→Prop):Po
  | .normal,f,w | .ret,f,w=>∃ vs,sJ P w f rs vs∧R (.returned (BV vs)) w
  | _,_,_=>False
theorem VP {P:Program} {N n:Nat} {fn:Func} {rs:List ResultVar} {R:Ending→World→Prop} (hr:fn.results=rs.toArray) {e:Exit} {f:Fr} {w:World} (h:VY P rs R e f w):
    ∀ a,nP ⟨none,n,[]⟩ N f a→bodyPostM Fence.wide n P fn R e a w:=by
  intro a ha
  have key: ∀ {w:World},(∃ vs,sJ P w f rs vs∧R (.returned (BV vs)) w)→LeavesInM Fence.wide n P fn a.tmps R a.defers .returning w:=by
    rintro w ⟨vs,h1,h2⟩
    rw[ha.dfs]
    exact⟨_,O8 (a:={a with defers:=[]}) hr ha.rep h1,h2⟩
  cases e with
  | normal=>exact key h
  | ret=>exact key h
  | _=>exact h.elim
theorem Ik {P:Program} {N n:Nat} {fn:Func} {rs:List ResultVar} {post:Value→World→Prop} (hr:fn.results=rs.toArray) {f:Fr} {w:World} (h:fin P rs post .ret f w):
    ∀ a,nP ⟨none,n,[]⟩ N f a→bodyPostM Fence.wide n P fn (fun | .returned v,w'=>post v w' | _,_=>False) .ret a w:=VP hr h
theorem Ac {N n:Nat} {args:cU} {fn:Func} (hN:fn.ntmps=N) (ha:Nat.ble args.length N=true):nP ⟨none,n,[]⟩ N (BR args) {tmps:=args.toArray++Array.replicate (fn.ntmps-args.toArray.size) undef,defers:=[]}:=by
  have hle:args.length≤N:=Nat.le_of_ble_eq_true ha
  refine⟨rfl,⟨by simp[hN]; omega,rfl,fun t=>?_⟩⟩
  simp only[BR,GR,yS,Array.getElem?_append,xG,List.getElem?_toArray]
  by_cases ht:t<args.length
  · rw[cF ht]
  · rw[b0 ht,B8 (by omega)]
    rw[Array.getElem?_replicate]
    split <;> rfl
theorem Im {P:Program} {N n:Nat} {w:World} {k:FuncId} {fn:Func} {c:Code} {args:cU} {as:Array Value} {R:Ending→World→Prop} {rs:List ResultVar} (hf:P.funcs[k]?=some fn) (hb:fn.body=some c)
    (hr:fn.results=rs.toArray) (hN:fn.ntmps=N) (ha:Nat.ble args.length N=true) (has:args.toArray=as)
    (h:WX ⟨none,n,[]⟩ P N c (VY P rs R) (BR args) w):CallsIn Fence.wide n P k as w R:=by
  subst has
  refine callsIn_of_wp_marks (F:=Fence.wide) (n:=n) hf hb trivial ?_
  unfold WX at h
  exact CC (h _ (Ac hN ha)) fun e a' w' ⟨f',hf',hQ⟩=>VP hr hQ a' hf'
theorem Jg {P:Program} {N n:Nat} {w:World} {k:FuncId} {fn:Func} {c:Code} {args:cU} {post:Value→World→Prop} {rs:List ResultVar} (hf:P.funcs[k]?=some fn) (hb:fn.body=some c)
    (hn:(fn.name == "runtime.NumGoroutine")=false) (hr:fn.results=rs.toArray) (hN:fn.ntmps=N) (ha:Nat.ble args.length N=true)
    (h:WZ ⟨none,n,[]⟩ P N c (bodyPostM Fence.wide n P fn fun | .returned v,w'=>post v w' | _,_=>False) (BR args) w):bF P k args w post:=by
  refine⟨⟨fn,c,hf,hn,hb⟩,callsIn_wide.1 (callsIn_of_wp_marks (F:=Fence.wide) (n:=n) hf hb trivial ?_)⟩
  exact h _ (Ac hN ha)
abbrev OB (D:Nat):Deferred:={target:=.collected D,args:= #[]}
abbrev shut (w:World) (D:Nat):World:=w.putObj D (.deferred none)
def VX (P:Program) (rs:List ResultVar) (D:Nat) (post:Value→World→Prop):Po
  | .normal,f,w | .ret,f,w=>w.heap[D]?=some (.deferred (some []))∧ ∃ vs,sJ P (shut w D) f rs vs∧post (BV vs) (shut w D)
  | _,_,_=>False
theorem Pu {P:Program} {N n D:Nat} {fn:Func} {rs:List ResultVar} {post:Value→World→Prop} (hr:fn.results=rs.toArray) {e:Exit} {f:Fr} {w:World} (h:VX P rs D post e f w):
    ∀ a,nP ⟨none,n,[OB D]⟩ N f a→bodyPostM Fence.wide n P fn (fun | .returned v,w'=>post v w' | _,_=>False) e a w:=by
  intro a ha
  have key: ∀ {w:World},(w.heap[D]?=some (.deferred (some []))∧ ∃ vs,sJ P (shut w D) f rs vs∧post (BV vs) (shut w D))→LeavesInM Fence.wide n P fn a.tmps (fun | .returned v,w'=>post v w' | _,_=>False) a.defers .returning w:=by
    rintro w ⟨hD,vs,h1,h2⟩
    rw[ha.dfs]
    exact⟨by simp,.inl ⟨D,_,rfl,run_takeDeferred hD,_,O8 (a:={a with defers:=[]}) hr ha.rep h1,h2⟩⟩
  cases e with
  | normal=>exact key h
  | ret=>exact key h
  | _=>exact h.elim
def wG (ln rest:aD):Prop:=(∃ a,ln=a++[10]∧ ∀ c∈a,c≠10)∨(ln≠[]∧(∀ c∈ln,c≠10)∧rest=[])
section
variable {P:Program} {w0 w w1:World} {M:eP} {L:gD}
theorem SH.put {r:Nat} {o:Obj} (hs:SH w0 w M L) (hr:w0.heap.size≤r) (hL: ∀ i∈L,∀ k,i.has k→k≠r):SH w0 (w.putObj r o) M L:=by
  have:=hs.change (w1:=w.putObj r o) L [] (fun k=>k=r) rfl rfl rfl (by simp) (fun k _ hk=>World.putObj_heap_other hk) (List.Sublist.refl _) hL (fun k hk=>.inl (hk ▸ hr)) (by simp) (by simp) .nil
  simpa using this
theorem SH.news {o:Obj} (hs:SH w0 w M L):SH w0 (w.alloc o) M L:=by
  have:=hs.more (w1:=w.alloc o) [] rfl rfl rfl (by simp) (fun k hk=>Below.heap_alloc w o k hk) (by simp) (by simp) .nil
  simpa using this
theorem SH.H7 {Mb:eP} {L':gD} (hc:SH w w1 Mb L') {k:Nat} {o:Obj} (hk:w.heap[k]?=some o) (hM:k ∉ Mb):w1.heap[k]?=some o:=
  (hc.rC k (Array.getElem?_eq_some_iff.1 hk).1 hM).trans hk
theorem SH.MM {Mb:eP} {L':gD} (hc:SH w w1 Mb L') {r:Nat} (hr:r<w.heap.size) (hM:r ∉ Mb): ∀ i∈L',∀ k,i.has k→k≠r:=by
  intro i hi k hk e
  subst e
  rcases hc.lo i hi k hk with h | h
  · omega
  · exact hM h
theorem Rr {X:Cx} (hXr:X.r=none) {N n1:Nat} {g:Operand} {p0 gf box:Nat} {bt:TypeId} {assign body:Code} {Q:Exit→Act→World→Prop} {f:Fr} {σ:Type} (K:σ→gD) (R:aD→σ→Prop) (s0:aD) (t0:σ)
    (hg:ev f g=.func (.func gf) #[] #[pB box]) (hgf:xE P gf) (hX:X.n=n1+1)
    (hs:SH w w M (K t0++[.blk box bt [aA s0]])) (hR:R s0 t0)
    (hRn: ∀ s t,R s t→s.length≤2147483648)
    (hit: ∀ (l:Nat) (J:aD→World→Prop),(∀ s W W1 L1,J s W→SH W W1 [box] L1→J s W1)→(∀ s W,J s W→s.length≤2147483648)→
      (∀ ln rest W1,J (ln++rest) W1→wG ln rest→W1.heap[box]?=some (.cells #[aA rest] bt (0,0))→ ∃ fn tmps assign body,(Instr.yield l #[aA ln]).run P W1=.ok (.round l fn tmps assign body) W1∧
        RoundIn Fence.wide (n1-1) P l fn tmps assign body W1 (fun e W'=>e=.returned (.bool true)∧J rest W'∧W'.heap[box]?=some (.cells #[aA rest] bt (0,0))))→
      ∀ W s,W.heap[box]?=some (.cells #[aA s] bt (0,0))→J s W→CallsIn Fence.wide n1 P gf #[.func (.yield l) #[] #[],pB box] W (fun e W'=>(∃ v,e=.returned v)∧J [] W'))
    (hround: ∀ (l:Nat) t ln rest W,R (ln++rest) t→wG ln rest→WX ⟨some l,n1-1,[]⟩ P N assign (ID fun f' W'=>W'=W∧ ∀ W2,SH w W2 M (K t)→SH W2 W2 ((K t).flatMap It.blocks) (K t)→
        WX ⟨some l,n1-1,[]⟩ P N body (ID fun _ W3=>∃ t',R rest t'∧SH W2 W3 ((K t).flatMap It.blocks) (K t')) f' W2) (fY f p0 (aA ln)) W)
    (BK:Nat.blt p0 N=true)
    (hdone: ∀ D W t,w.heap.size≤D→R [] t→SH w W M (K t)→W.heap[D]?=some (.deferred (some []))→(∀ i∈K t,∀ k,i.has k→k≠D)→ ∀ a,nP {X with ds:=OB D::X.ds} N f a→Q .normal a W)
    {a:Act} (ha:nP X N f a):(Code.rangeFunc g #[p0] assign body).wpIn X.F X.n P Q a w:=by
  have hbx:w.heap[box]?=some (.cells #[aA s0] bt (0,0)):=hs.ok (.blk box bt [aA s0]) (by simp)
  have hbM:box∈M:=by
    rcases hs.lo (.blk box bt [aA s0]) (by simp) box rfl with h | h
    · have:=(Array.getElem?_eq_some_iff.1 hbx).1; omega
    · exact h
  have hblt:box<w.heap.size:=(Array.getElem?_eq_some_iff.1 hbx).1
  have Jo: ∀ i∈K t0,∀ k,i.has k→k≠box:=fun i hi k hk e=>(List.pairwise_append.1 hs.dis).2.2 i hi (.blk box bt [aA s0]) (by simp) k hk e.symm
  have hKlt: ∀ i∈K t0,∀ k,i.has k→k<w.heap.size:=fun i hi k hk=>It.S1 (hs.ok i (List.mem_append_left _ hi)) hk
  refine wpIn_rangeFunc ?_
  intro fn hfn
  have hro:X.F.round=none:=hXr
  rw[hro]
  obtain ⟨rec,hrec⟩: ∃ rec:LoopState→Option Code→Loop,rec=fun st pe=>{state:=st,pending:=pe,fn,tmps:=a.tmps,params:= #[p0],assign,body,defers:=w.heap.size}:=⟨_,rfl⟩
  obtain ⟨W1,M9⟩: ∃ W1,(w.alloc (.deferred (some []))).alloc (.loop (rec .ready none))=W1:=⟨_,rfl⟩
  have Jp:W1.heap[w.heap.size+1]?=some (.loop (rec .ready none)):=by
    rw[← M9]; have:=World.alloc_heap_new (w.alloc (.deferred (some []))) (.loop (rec .ready none)); rwa [World.size_alloc]at this
  have Jn:W1.heap[w.heap.size]?=some (.deferred (some [])):=by
    rw[← M9]; exact(Below.heap_alloc _ _ _ (by simp)).trans (World.alloc_heap_new w _)
  have aE:SH w W1 M (K t0++[.blk box bt [aA s0]]):=by rw[← M9]; exact hs.news.news
  have hev:a.eval g=.func (.func gf) #[] #[pB box]:=by rw[ha.eval]; exact hg
  obtain ⟨fng,cg,hfg,hng,hbg⟩:=hgf
  have hng':fng.name≠ "runtime.NumGoroutine" :=by simpa using hng
  refine⟨w.heap.size+1,[OB w.heap.size],W1,{target:=.fn (.func gf) #[pB box],args:= #[.func (.yield (w.heap.size+1)) #[] #[]]},W1,gf, #[.func (.yield (w.heap.size+1)) #[] #[]]++ #[pB box],W1,?_,?_,?_,?_,fun h=>(by cases h),?_⟩
  · rw[← M9,hrec]; exact run_enterLoop_outer _ _ _ _ _
  · simp only[resolve,hev]
    simp[go_sem]
  · intro f' hf'; exact trivial
  · simp[invoke,callFunc,hfg,hng',hbg]
  · -- the iterator, at what the loop keeps
    have hn:X.n-1=n1:=by omega
    rw[hn]
    have hJs:=hit (w.heap.size+1) (fun s W=>∃ t,R s t∧SH w W M (K t)∧W.heap[w.heap.size+1]?=some (.loop (rec .ready none))∧W.heap[w.heap.size]?=some (.deferred (some []))∧
        ∀ i∈K t,∀ k,i.has k→k≠w.heap.size∧k≠w.heap.size+1∧k≠box)
      (by
        rintro s W W1 L1 ⟨t,h1,h2,h3,h4,h5⟩ hc
        refine⟨t,h1,?_,hc.H7 h3 (by simp; omega),hc.H7 h4 (by simp; omega),h5⟩
        have:=h2.change (w1:=W1) (K t) [] (fun k=>k=box) hc.os hc.tape hc.output hc.size (fun k hk hx=>hc.rC k hk (by simpa using hx)) (List.Sublist.refl _) (fun i hi k hk=>(h5 i hi k hk).2.2) (fun k hk=>.inr (hk ▸ hbM)) (by simp) (by simp) .nil
        simpa using this)
      (fun s W ⟨t,h1,_⟩=>hRn s t h1)
      (by
        rintro ln rest W ⟨t,hr,iI,hl,hd,FC⟩ hln hb
        have hlt:w.heap.size+1<W.heap.size:=(Array.getElem?_eq_some_iff.1 hl).1
        have hy:=run_yield (P:=P) (args:= #[aA ln]) hl (by rw[hrec]; rfl)
        rw[hrec]at hy
        refine⟨fn,_,assign,body,hy,?_⟩
        have hrep:nP ⟨some (w.heap.size+1),n1-1,[]⟩ N (fY f p0 (aA ln)) {tmps:=(#[p0].zip #[aA ln]).foldl (fun t (p,v)=>t.setIfInBounds p v) a.tmps,defers:=[]}:=by
          have h:=ha.rep.put BK (aA ln)
          exact⟨rfl,⟨by simpa [Act.put] using h.size,rfl,fun t=>by simpa [Act.put] using h.at_ t⟩⟩
        have hA:=hround (w.heap.size+1) t ln rest W hr hln
        unfold WX at hA
        refine roundIn_of_wpIn hfn (CC (hA _ hrep) ?_)
        rintro e a' W' ⟨f',hf',he,rfl,hbody⟩
        subst he
        refine⟨_,run_beginRound hl (by rw[hrec]),?_⟩
        obtain ⟨W2,J9⟩: ∃ W2,W'.putObj (w.heap.size+1) (.loop {rec .ready none with state:=.busy})=W2:=⟨_,rfl⟩
        have RH:W2.heap[w.heap.size+1]?=some (.loop {rec .ready none with state:=.busy}):=by rw[← J9]; exact World.putObj_heap_same hlt
        have q8:W2.heap[w.heap.size]?=some (.deferred (some [])):=by rw[← J9]; exact(World.putObj_heap_other (by omega)).trans hd
        have pN:W2.heap[box]?=some (.cells #[aA rest] bt (0,0)):=by rw[← J9]; exact(World.putObj_heap_other (by omega)).trans hb
        have NQ:SH w W2 M (K t):=by rw[← J9]; exact iI.put (by omega) (fun i hi k hk=>(FC i hi k hk).2.1)
        have hB:=hbody W2 NQ (SH.CP (K t) NQ.ok NQ.dis)
        unfold WX at hB
        rw[J9]
        have hnot: ∀ r,(r=w.heap.size∨r=w.heap.size+1∨r=box)→r ∉ (K t).flatMap It.blocks:=by
          intro r hr' hm
          obtain ⟨i,hi,hk⟩:=List.mem_flatMap.1 hm
          have:=FC i hi r (It.x8.1 hk)
          omega
        refine CC (hB a' hf') ?_
        rintro e a3 W3 ⟨f3,_,he,t',hr',C5⟩
        subst he
        have WU:=C5.H7 RH (hnot _ (.inr (.inl rfl)))
        have BF:=C5.H7 q8 (hnot _ (.inl rfl))
        have Ju:=C5.H7 pN (hnot _ (.inr (.inr rfl)))
        have hend:=run_endRound (P:=P) none WU
        refine⟨_,_,hend,rfl,⟨t',hr',?_,?_,?_,?_⟩,?_⟩
        · have h3:SH w W3 M (K t'):=by simpa using SH.vV (R:=[]) (by simpa using NQ) C5 rfl
          exact h3.put (by omega) (C5.MM (Array.getElem?_eq_some_iff.1 RH).1 (hnot _ (.inr (.inl rfl))))
        · rw[World.putObj_heap_same (Array.getElem?_eq_some_iff.1 WU).1,hrec]; rfl
        · exact(World.putObj_heap_other (by omega)).trans BF
        · exact fun i hi k hk=>⟨C5.MM (Array.getElem?_eq_some_iff.1 q8).1 (hnot _ (.inl rfl)) i hi k hk,C5.MM (Array.getElem?_eq_some_iff.1 RH).1 (hnot _ (.inr (.inl rfl))) i hi k hk,C5.MM (Array.getElem?_eq_some_iff.1 pN).1 (hnot _ (.inr (.inr rfl))) i hi k hk⟩
        · exact(World.putObj_heap_other (by omega)).trans Ju)
      W1 s0 (aE.ok (.blk box bt [aA s0]) (by simp))
      ⟨t0,hR,aE.weaken (List.sublist_append_left _ _),Jp,Jn,fun i hi k hk=>⟨by have:=hKlt i hi k hk; omega,by have:=hKlt i hi k hk; omega,Jo i hi k hk⟩⟩
    refine CallsIn.mono (F:=X.F) hJs ?_
    rintro e W ⟨⟨v,rfl⟩,t,hr,iI,hl,hd,FC⟩
    refine⟨none,_,by have:=run_endLoop (P:=P) hl (by rw[hrec]; simp); rw[hrec]at this; exact this,?_⟩
    refine hdone w.heap.size _ t (lA _) hr (iI.put (by omega) (fun i hi k hk=>(FC i hi k hk).2.1)) ((World.putObj_heap_other (by omega)).trans hd) (fun i hi k hk=>(FC i hi k hk).1) _ ⟨?_,ha.rep⟩
    rw[ha.dfs]; rfl
theorem Rs {X:Cx} (hXr:X.r=none) {N n1:Nat} {g:Operand} {p0 gf box id:Nat} {bt:TypeId} {assign body:Code} {R_:Exit→Act→World→Prop} {f:Fr} {σ:Type} (K:σ→gD) (R:aD→σ→Prop) (s0:aD) (t0:σ)
    (hg:ev f g=.func (.func gf) #[] #[pB box]) (hgf:xE P gf) (hX:X.n=n1+1)
    (hs:SH w w M (K t0++[.blk box bt [aA s0]])) (hR:R s0 t0) (hRn: ∀ s t,R s t→s.length≤2147483648)
    (hit: ∀ (l:Nat) (J:aD→World→Prop),(∀ s W W1 L1,J s W→SH W W1 [box] L1→J s W1)→(∀ s W,J s W→s.length≤2147483648)→
      (∀ ln rest W1,J (ln++rest) W1→wG ln rest→W1.heap[box]?=some (.cells #[aA rest] bt (0,0))→ ∃ fn tmps assign body,(Instr.yield l #[aA ln]).run P W1=.ok (.round l fn tmps assign body) W1∧
        RoundIn Fence.wide (n1-1) P l fn tmps assign body W1 (fun e W'=>e=.returned (.bool true)∧J rest W'∧W'.heap[box]?=some (.cells #[aA rest] bt (0,0))))→
      ∀ W s,W.heap[box]?=some (.cells #[aA s] bt (0,0))→J s W→CallsIn Fence.wide n1 P gf #[.func (.yield l) #[] #[],pB box] W (fun e W'=>(∃ v,e=.returned v)∧J [] W'))
    (BK:Nat.blt p0 N=true)
    (hround: ∀ (l:Nat) t ln rest W,R (ln++rest) t→wG ln rest→WX ⟨some l,n1-1,[]⟩ P N assign (ID fun f' W'=>W'=W∧ ∀ W2,SH w W2 M (K t)→SH W2 W2 ((K t).flatMap It.blocks) (K t)→
        WX ⟨some l,n1-1,[]⟩ P N body (ID fun _ W3=>∃ t',R rest t'∧SH W2 W3 ((K t).flatMap It.blocks) (K t')) f' W2) (fY f p0 (aA ln)) W)
    (hrest: ∀ D W t,w.heap.size≤D→R [] t→SH w W M (K t)→W.heap[D]?=some (.deferred (some []))→(∀ i∈K t,∀ k,i.has k→k≠D)→ ∀ a,nP {X with ds:=OB D::X.ds} N f a→R_ .normal a W):
    WZ X P N (.block id (.rangeFunc g #[p0] assign body)) R_ f w:=by
  intro a ha
  refine wpIn_block (Rr hXr K R s0 t0 hg hgf hX hs hR hRn hit hround BK (fun D W t h1 h2 h3 h4 h5 a' ha'=>?_) ha)
  exact hrest D W t h1 h2 h3 h4 h5 a' ha'
theorem SH.rE {w0 w:World} {M:eP} {L:gD} (hs:SH w0 w M L): ∀ k∈L.flatMap It.blocks,k∈M∨w0.heap.size≤k:=by
  intro k hk
  obtain ⟨i,hi,hk⟩:=List.mem_flatMap.1 hk
  exact(hs.lo i hi k (It.x8.1 hk)).symm
end
section
variable {P:Program} {f:Fr} {w0 w:World} {M:eP} {L:gD} {d:Nat} {ty:TypeId} {pos:String} {aft:Array Edge} {gd:Option (Nat×Bool)} {x:Operand} {t e n c:Nat} {α:Type} {g:α→Value} {ys:List α}
theorem s8 (d0:α) {k o:Nat} (hs:SH w0 w M L) (hi:It.own (some ⟨k,0,none⟩) n c e 1 (ys.map g)∈L) (hx:ev f x=.pointer (some ⟨k,o*1,none⟩)) (ho:o<ys.length) (h1:m8 P t=true):
    RV P f w ⟨some d,.load t x,ty,pos,aft,gd⟩ (g (ys.getD o d0)):=by
  obtain ⟨i,hi⟩:=List.getElem?_of_mem hi
  exact H9 d0 hs i hi hx ho h1
end
section
variable {P:Program} {N:Nat} {Q:Po} {f:Fr} {w0 w:World} {M:eP} {L:gD} {ops:Array Oper} {rest:List Oper} {d:Nat} {op:Op} {ty:TypeId} {pos:String} {aft:Array Edge}
theorem qh {j:Nat} {b:Bool} {t:Tmp} {v:Value} (h1:(gs ops j,f t,Nat.blt d N)=(some t,.bool b,true)) (hr:RV P f w (⟨some d,op,ty,pos,aft,some (j,b)⟩:Oper) v) (h:WL P N ops Q rest (fY f d v) w):WL P N ops Q ((⟨some d,op,ty,pos,aft,some (j,b)⟩:Oper)::rest) f w:=by
  simp only[Prod.mk.injEq]at h1; exact q ⟨_,h1.1,h1.2.1⟩ rfl h1.2.2 hr h
theorem dX {b:Bool} (h:(!b)=true):b=false:=by simpa using h
theorem dY {b:Bool} (h:(!b)=false):b=true:=by simpa using h
theorem cS {k:FuncId} {args:List Operand} {ts:Array TypeId} {u:Value} {L':gD} (hs:SH w0 w M L) (hd:Nat.blt d N=true) (hF:bF P k (args.map (ev f)) w fun v w'=>v=u∧SH w w' [] L')
    (h: ∀ w',SH w0 w' M (L++L')→WL P N ops Q rest (fY f d u) w'):WL P N ops Q (⟨some d,.call ⟨.value (.func k),args.toArray,ts⟩,ty,pos,aft,none⟩::rest) f w:=
  cl trivial hd hF (by rintro _ w' ⟨rfl,hc⟩; exact h w' (hs.cJ hc))
theorem dP {k:FuncId} {args:List Operand} {ts:Array TypeId} {u:aM→Nat→Value} {L':aM→Nat→gD} (hs:SH w0 w M L) (hd:Nat.blt d N=true) (hF:bF P k (args.map (ev f)) w fun v w'=>∃ A c,v=u A c∧SH w w' [] (L' A c))
    (h: ∀ A c w',SH w0 w' M (L++L' A c)→WL P N ops Q rest (fY f d (u A c)) w'):WL P N ops Q (⟨some d,.call ⟨.value (.func k),args.toArray,ts⟩,ty,pos,aft,none⟩::rest) f w:=
  cl trivial hd hF (by rintro _ w' ⟨A,c,rfl,hc⟩; exact h A c w' (hs.cJ hc))
theorem fB {t:Tmp} {a b:Bool} (h1:f t=.bool a) (e:a=b) (hs:SH w0 w M L):fin P [.tmp t] (fun v w'=>v=.bool b∧SH w0 w' M L) .ret f w:=bO (.tmp .nil) rfl ⟨h1.trans (aS Value.bool e),hs⟩
theorem fI {t:Tmp} {a b:Int} (h1:f t=.int .i64 a) (e:a=b) (hs:SH w0 w M L):fin P [.tmp t] (fun v w'=>v=.int .i64 b∧SH w0 w' M L) .ret f w:=bO (.tmp .nil) rfl ⟨h1.trans (aS (Value.int .i64) e),hs⟩
theorem fS {t:Tmp} {a b:aD} (h1:f t=aA a) (e:a=b) (hs:SH w0 w M L):fin P [.tmp t] (fun v w'=>v=aA b∧SH w0 w' M L) .ret f w:=bO (.tmp .nil) rfl ⟨h1.trans (aS aA e),hs⟩
end
section
variable {P:Program} {N:Nat} {Q:Po} {f:Fr} {w0 w:World} {M:eP} {L:gD} {ops:Array Oper} {rest:List Oper} {d:Nat} {ty:TypeId} {pos:String} {aft:Array Edge} {S:World→Prop} {fuel:Nat} {listed:Array Bool} {gd:Option (Nat×Bool)}
theorem fQ {k:FuncId} {fn:Func} {c:Code} {args:cU} {post:Value→World→Prop} {rs:List ResultVar} (N:Nat) (hf:P.funcs[k]?=some fn) (hb:fn.body=some c)
    (h1:(fn.results,fn.ntmps,Nat.ble args.length N)=(rs.toArray,N,true)) (h:W P N c (fin P rs post) (BR args) w) (hn:(fn.name == "runtime.NumGoroutine")=false:=by kernel_rfl):bF P k args w post:=fE hf hb hn h1 h
theorem tQ {is:eP} {l:List Oper} (hs:DZ ops is l) (hS:S w)
    (h:QY P N ops S (fun f'=>AL P N ops S Q fuel (K1 listed is) f' w) l f) (hns:Region.noSelect ops=true:=by kernel_rfl) (hB:K6 ops listed is=true:=by kernel_rfl):AL P N ops S Q (fuel+is.length) listed f w:=tk hs hns hB hS h
theorem aQ (hr:Q .normal f w) (h:Region.ready .any ops listed=[]:=by kernel_rfl):AL P N ops S Q fuel listed f w:=ad h hr
end
theorem bQ {P:Program} {f:Fr} {w:World} {d:Nat} {t ty:TypeId} {pos:String} {aft:Array Edge} {gd:Option (Nat×Bool)} {parts:List (Nat×Operand)} {v:Value} (vs:List (Nat×Value)) (hp:parts.map (fun p=>(p.1,ev f p.2))=vs) (hb: ∀ w,(Instr.build t vs.toArray).run P w=.ok v w:=by intro _; kernel_rfl):
    RV P f w ⟨some d,.build t parts.toArray,ty,pos,aft,gd⟩ v:=Ga vs hp hb
end Go.PF
