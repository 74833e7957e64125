/-
  Proved: the statement Rows.FnExactExecuteCardSaid of this seat: for every input the call of laws.FnExactExecute returns true, and the arguments read behind it as before.
  Conditions: the listed package-level variables hold what the program's text lays in them (the card ties that to the text).
-/
import Derived.Test.YtbopieehnmljkaaGreatDoorRows
import Derived.Test.YtbopieehnmljkaaGreatDoorTie
import Derived.Test.YtbopieehnmljkaaGreatDoorCards
import Derived.SevenTiedAt
import Derived.Test.YtbopieehnmljkaaGreatDoorPfLFnExactExecute
import Derived.WalkKit
import Derived.ProofKit
import Derived.OpenShut
import Derived.ShutString
import Derived.ChangeOld
import Derived.Below
import Derived.OpenVars
import Derived.LaidLaws
import Derived.LaidMore
import Derived.LaidHandle
import Derived.Lay
import Derived.Shelf.Vars
namespace Go.Proofs.YtbopieehnmljkaaGreatDoor.fnExactExecute
open Go.ChangeShapes Go.WideShapes Go.ChangeAt Go.RowKit Go.PF
set_option linter.unusedVariables false

theorem own:ownKnob Tryz.prog.godebug=none:=by kernel_rfl
theorem laidOut:laidOutB Tryz.prog=true:=by kernel_rfl
set_option maxRecDepth 100000 in
theorem rd9 {H:Type} {enc:TypeId×Value→H} {w:World} {sp:Nat→Bool} {held:Bool} {fuel:Nat} {cs:List Value} {x:DataW H×List MemPlace} (h:DataW.trod enc Tryz.prog w 0 sp held fuel 9 cs=some x): ∃ l:List UInt8,cs=[Str l]∧l.length≤maxLen:=rd_s (by kernel_rfl) h
theorem of_laid {W:World} (h:laidMetH Tryz.prog Rows.fnExactExecuteRow.laid W):VarP Tryz.prog W [] "internal/strconv.uint64pow10" isPow∧PA W [] ⟨1,0,none⟩ (kindTs.map Str)∧PA W [] ⟨0,0,none⟩ (stateTs.map Str)∧VarP Tryz.prog W [] "strconv.ErrRange" isIfc∧VarP Tryz.prog W [] "strconv.ErrSyntax" isIfc∧True:=by
  rw[MakeChecks.laidMetH_plain _ _ _ (by kernel_rfl)]at h
  obtain ⟨ps,⟨g0,t0,cs0,u0,pp0,qq0,hg0,ht0,hv0,hd0,⟨g1,t1,cs1,u1,pp1,qq1,hg1,ht1,hv1,hd1,⟨g2,t2,cs2,u2,pp2,qq2,hg2,ht2,hv2,hd2,⟨g3,t3,cs3,u3,pp3,qq3,hg3,ht3,hv3,hd3,⟨g4,t4,cs4,u4,pp4,qq4,hg4,ht4,hv4,hd4,⟨g5,t5,cs5,u5,pp5,qq5,hg5,ht5,hv5,hd5,⟨g6,t6,cs6,u6,pp6,qq6,hg6,ht6,hv6,hd6,⟨g7,t7,cs7,u7,pp7,qq7,hg7,ht7,hv7,hd7,⟨g8,t8,cs8,u8,pp8,qq8,hg8,ht8,hv8,hd8,_,_⟩,_⟩,_⟩,_⟩,_⟩,_⟩,_⟩,_⟩,_⟩,_,_⟩:=h
  obtain rfl:=Option.some.inj ((show Tryz.prog.globalNamed "internal/strconv.uint64pow10" =some 5 by kernel_rfl).symm.trans hg2)
  obtain rfl:=Option.some.inj ((show (Tryz.prog.globals[5]?).map (·.type)=some 197 by kernel_rfl).symm.trans ht2)
  have c2:cs2.toList=Lib.pow10Tab.map (fun z=>Value.int .u64 z):=Lib.cells_of_tab (n:=20) (e:=174) (by kernel_rfl) (by kernel_rfl) (by kernel_rfl) (by kernel_rfl) hd2
  have w2:VarP Tryz.prog W [] "internal/strconv.uint64pow10" isPow:=VarP.mk' (Array.toList_inj.1 (by rw[c2])) (show Tryz.prog.globalNamed "internal/strconv.uint64pow10" =some 5 by kernel_rfl) hv2
  obtain rfl:=Option.some.inj ((show Tryz.prog.globalNamed "loop.example/proxyframes/impl.kindTexts" =some 1 by kernel_rfl).symm.trans hg6)
  obtain rfl:=Option.some.inj ((show (Tryz.prog.globals[1]?).map (·.type)=some 132 by kernel_rfl).symm.trans ht6)
  have c6:cs6.toList=kindTs.map Str:=rd_texts (n:=7) (e:=9) (by kernel_rfl) (by kernel_rfl) (by kernel_rfl) (by kernel_rfl) hd6
  have w6:PA W [] ⟨1,0,none⟩ (kindTs.map Str):=pa_var hg6 hv6 c6 (by simp[kindTs_len])
  obtain rfl:=Option.some.inj ((show Tryz.prog.globalNamed "loop.example/proxyframes/impl.stateTexts" =some 0 by kernel_rfl).symm.trans hg7)
  obtain rfl:=Option.some.inj ((show (Tryz.prog.globals[0]?).map (·.type)=some 48 by kernel_rfl).symm.trans ht7)
  have c7:cs7.toList=stateTs.map Str:=rd_texts (n:=5) (e:=9) (by kernel_rfl) (by kernel_rfl) (by kernel_rfl) (by kernel_rfl) hd7
  have w7:PA W [] ⟨0,0,none⟩ (stateTs.map Str):=pa_var hg7 hv7 c7 (by simp[stateTs_len])
  obtain rfl:=Option.some.inj ((show Tryz.prog.globalNamed "strconv.ErrRange" =some 7 by kernel_rfl).symm.trans hg4)
  obtain rfl:=Option.some.inj ((show (Tryz.prog.globals[7]?).map (·.type)=some 45 by kernel_rfl).symm.trans ht4)
  have w4:VarP Tryz.prog W [] "strconv.ErrRange" isIfc:=VarP.mk' (rd_if rfl (by kernel_rfl) hd4) (show Tryz.prog.globalNamed "strconv.ErrRange" =some 7 by kernel_rfl) hv4
  obtain rfl:=Option.some.inj ((show Tryz.prog.globalNamed "strconv.ErrSyntax" =some 6 by kernel_rfl).symm.trans hg5)
  obtain rfl:=Option.some.inj ((show (Tryz.prog.globals[6]?).map (·.type)=some 45 by kernel_rfl).symm.trans ht5)
  have w5:VarP Tryz.prog W [] "strconv.ErrSyntax" isIfc:=VarP.mk' (rd_if rfl (by kernel_rfl) hd5) (show Tryz.prog.globalNamed "strconv.ErrSyntax" =some 6 by kernel_rfl) hv5
  exact⟨w2,w6,w7,w4,w5,trivial⟩
/-- The frame, with the shape of the world told. -/
theorem handedSh {H:Type} {enc:TypeId×Value→H} {a:Assume} {C:Checked} {os:Os} {f:FuncId} {fn:Func} {s:ChangeSpec} {conds:List PathCond} {apart fresh handsOn again:Bool} {X:World→Array Value→Prop}
    (hX: ∀ (w w':World) (args:Array Value),w.heap=w'.heap→X w args→X w' args) (own:ownKnob C.prog.godebug=none) (started:os.Started) (noInit:C.prog.inits.idxOf? f=none) (hfn:C.prog.funcs[f]?=some fn)
    (witness: ∃ (w:World) (tape:Tape) (i:Input),w.os=os∧(w.forCall tape i).Shaped C.prog∧i.vars=[]∧Input.okWide C.prog (w.forCall tape i) .any w.heap.size f i∧
      ((s.pre enc C.prog fn conds apart (w.forCall tape i).memory i.args∧X (w.forCall tape i).memory i.args)∧sizedMet enc C.prog fn (OpenSpec.ofChange s) apart (w.forCall tape i).memory i.args)∧a.holds C.prog (lone (Frame.enter C.prog f i.args .normal) [] (w.forCall tape i)))
    (contract: ∀ (W:World) (base:Nat) (args:Array Value) (ds gs:List (DataW H)) (before:List MemPlace),(∀ (j:Nat) t v,fn.params[j]?=some t→args[j]?=some v→Value.okWide C.prog W .any base t v)→
      DataW.Whole enc C.prog fn.params.toList s.vars apart W args.toList ds gs before→conds.all (PathCond.test C.prog ⟨fn.params.toList,ds,s.plain.varTypes C.prog,gs⟩)=true→X W args→W.ShapedOpen C.prog→
      Calls C.prog f args W fun e W'=>∃ v,e=.returned v∧s.post enc C.prog fn apart fresh handsOn again W args v W'):
    ReturnsInHanded a C os f .any (fun w args=>(s.pre enc C.prog fn conds apart w args∧X w args)∧sizedMet enc C.prog fn (OpenSpec.ofChange s) apart w args) (s.post enc C.prog fn apart fresh handsOn again):=by
  refine returnsInHanded_of_calls own started noInit witness ?_
  rintro w tape i _ hsh _ ⟨_,_,_,fn1,hfn1,_,_,_,_,hval⟩ ⟨⟨⟨ds,gs,before,hw,hc⟩,hx⟩,hz⟩ _
  cases Option.some.inj (hfn1.symm.trans hfn)
  refine(contract (w.forCall tape i) w.heap.size i.args ds gs before hval (DataW.Whole.of_heap (w':=w.forCall tape i) (by rfl) hw) hc (hX _ _ _ (by rfl) hx) hsh).mono ?_
  rintro e W' ⟨v,rfl,hp⟩
  exact ChangeSpec.post_blind hp
theorem openInt {P:Program} {w:World} {n:String} {g:Nat} {t:TypeId} (h:w.ShapedOpen P) (hn:P.globalNamed n=some g) (hg:g<P.globals.size) (h0:((begin P (fun _ _=>0) default).world.heap[g]?).bind Obj.row?=some (#[.int .i64 0],t))
    (hb:P.buildable t=true) (hc:P.cellTypes P.depth t=some [t]) (hu:P.underlying t=some (.int .i64)):VarP P w [] n isI64:=by
  obtain ⟨m,hm⟩:=cell_of_shapedOpen_int h hg h0 rfl hb hc hu
  obtain ⟨cs,hh,hs,_⟩:=h.1 g _ t hg h0
  refine VarP.mk' (cs:=cs) ⟨m,?_⟩ hn (by simp[World.var?,hn,hh])
  have h1:cs.size=1:=hs
  simp[World.cell?,hh]at hm
  apply Array.ext
  · simp[h1]
  · intro i h2 h3
    have:i=0:=by omega
    subst this
    simpa [h2] using hm
set_option maxRecDepth 100000 in
theorem lifted (os:Os) (started:os.Started) (H:Type) (enc:TypeId×Value→H):
    ReturnsInHanded {} Tryz.checked os 3 .any (fun w args=>(Rows.fnExactExecuteSpec.pre enc Tryz.prog Tryz.f3 [] false w args∧laidMetH Tryz.prog Rows.fnExactExecuteRow.laid w)∧sizedMet enc Tryz.prog Tryz.f3 (OpenSpec.ofChange Rows.fnExactExecuteSpec) false w args) (Rows.fnExactExecuteSpec.post enc Tryz.prog Tryz.f3 false true false false):=by
  refine handedSh (C:=Tryz.checked) (X:=fun w _=>laidMetH Tryz.prog Rows.fnExactExecuteRow.laid w) (fun _ _ _ hh h=>h.of_heap hh) own started (by kernel_rfl) Tryz.func3
    (ChangeSpec.witness_shaped (enc:=enc) (C:=Tryz.checked) (os:=os) (X:=fun w _=>laidMetH Tryz.prog Rows.fnExactExecuteRow.laid w) false (World.laidAll Tryz.prog os Rows.fnExactExecuteRow.laid) #[.string ByteArray.empty] 8 (World.laidAll_os _ _ _) (World.shaped_of_ZipB (by kernel_rfl) (by kernel_rfl)) (by kernel_rfl) (by kernel_rfl) (by kernel_rfl)
      (by rw[MakeChecks.laidMetH_plain _ _ _ (by kernel_rfl)]; exact laidMet_laidAll _ (by kernel_rfl) (by kernel_rfl))) ?_
  intro W base args ds gs before hval0 hW _ hL0 hsh
  have ho_hMl:VarP Tryz.prog W [] "internal/bytealg.MaxLen" isI64:=openInt (g:=2) (t:=3) hsh (by kernel_rfl) (of_decide_eq_true (by kernel_rfl)) (by kernel_rfl) (by kernel_rfl) (by kernel_rfl) Tryz.underlying3
  have hL:=of_laid hL0
  have hval: ∀ (j:Nat) t v,Tryz.f3.params[j]?=some t→args[j]?=some v→Value.okWide Tryz.prog W .any base t v:=hval0
  have hW':=hW
  obtain ⟨p,q,hA0,hV,rfl,hfz,hnd⟩:=hW
  have hA:DataW.TrodAll enc Tryz.prog W 0 (fun _=>true) true Tryz.f3.params.toList args.toList ds p:=hA0
  rw[Tryz.params3]at hA hval
  obtain ⟨v0,vs0,d0,ds0,p0,q0,hargs,rfl,rfl,h0,r0⟩:=trodAll_cons hA
  obtain ⟨rfl,rfl,rfl⟩:=trodAll_nil r0
  obtain rfl:args= #[v0]:=by cases args; simp_all
  have hgl:gs.length=2:=trodVars_len hV
  rcases gs with _ | ⟨g_0,_ | ⟨g_1,_ | ⟨g_2,_⟩⟩⟩ <;> simp at hgl
  have k0:=h0
  have lt0: ∀ x∈p0,x.block<W.heap.size:=by obtain ⟨m,hm⟩:=k0; exact DataW.trod_lt m _ _ _ hm
  obtain ⟨l_a0,ev0,f0_0⟩: ∃ (l_a0:List UInt8),v0=Str l_a0∧l_a0.length≤maxLen:=by
    obtain ⟨z,hv⟩:=okWide_string Tryz.underlying9 (hval 0 9 v0 rfl rfl)
    subst hv
    obtain ⟨fuel,hf⟩:=h0
    obtain ⟨z0,hc,f0_0⟩:=rd9 (by simpa [Value.cells] using hf)
    simp only[List.cons.injEq,and_true]at hc
    try rw[hc]
    exact⟨z0,rfl,f0_0⟩
  subst ev0
  clear hA0 hval0
  refine Calls.mono (law_done (YtbopieehnmljkaaGreatDoor.lExactExecute (w:=W) (s:=l_a0) (hGp:=hL.1) (hGk:=hL.2.1) (hSt:=hL.2.2.1) (hEr:=hL.2.2.2.1) (hEs:=hL.2.2.2.2.1) (hMl:=ho_hMl)) rfl) fun e W' ⟨he,bel⟩=>?_
  subst he
  exact⟨_,rfl,_,_,_,[],_,q,hW',trodAll_mk1 (shut_bool Tryz.underlying4 _),(trodAll_cons_mk (Below.trod laidOut (by kernel_rfl) (of_decide_eq_true (by kernel_rfl)) k0 bel lt0) trodAll_mk0),(Below.trodVars laidOut bel (by kernel_rfl) hV),bel.frame _,fun h=>by cases h⟩

theorem over:Rows.fnExactExecuteRow.holds Tryz.pinned (OpenSpec.ofChange Rows.fnExactExecuteSpec):=
  OpenClaim.holds_of_wide 3 Tryz.f3 rfl rfl rfl rfl rfl rfl rfl ⟨rfl,rfl,rfl,rfl,rfl⟩ rfl rfl rfl rfl rfl (by kernel_rfl) Tryz.func3 (by kernel_rfl)
    (of_decide_eq_true (by kernel_rfl)) (by unfold Func.isWrapper; first | (rw[if_pos (by decide+kernel)]; kernel_rfl) | (rw[if_neg (by decide+kernel)]; exact⟨rfl,rfl⟩))
    (fun os started H enc _=>lifted os started H enc)

/-- THE STATEMENT: the tied card. -/
theorem proved:Rows.FnExactExecuteCardSaid:=
  Claim7.holds_tied_plain_at .later [] [.data,.data,.data,.data,.sentinel,.sentinel,.data,.data,.pinned] true (true, "b395c3fe4d11e7d14ea00fa5c48cbd5110a564ced50264797ad358a758bd6bea") true
    over (fun _ h=>by cases h) (by kernel_rfl) (fun _ h=>by cases h) fnExactExecute_row_tie rfl ⟨rfl,rfl⟩ (by kernel_rfl) rfl
    (fun f fn hf hfn=>by
      obtain rfl:f=3:=Option.some.inj ((show Tryz.prog.funcNamed "loop.example/proxyframes/laws.FnExactExecute" =some 3 by kernel_rfl).symm.trans hf) |>.symm
      obtain rfl:fn=Tryz.f3:=(Option.some.inj (Tryz.func3.symm.trans hfn)).symm
      exact⟨by kernel_rfl,fun j t ht=>by
        rw[Tryz.params3]at ht
        have hm:t∈[9]:=by simpa using Array.mem_of_getElem? ht
        have hall:([9].all fun u=>!Tryz.prog.wantsStandIn u)=true:=by kernel_rfl
        exact(show Tryz.prog.wantsStandIn t=false by simpa using List.all_eq_true.1 hall t hm)⟩)
    (by kernel_rfl)
#print axioms proved
end Go.Proofs.YtbopieehnmljkaaGreatDoor.fnExactExecute
