/-
  Proved: the statement Rows.FnScriptWhatCardSaid of this seat: for every input the call of laws.FnScriptWhat returns true, and the arguments read behind it as before.
  Conditions: the listed package-level variables hold what the program's text lays in them (the card ties that to the text).
-/
import Derived.Test.YtklbiemlpkhlhaaGreatDoorRows
import Derived.Test.YtklbiemlpkhlhaaGreatDoorTie
import Derived.Test.YtklbiemlpkhlhaaGreatDoorCards
import Derived.SevenTiedAt
import Derived.Test.YtklbiemlpkhlhaaGreatDoorPfLFnScriptWhat
import Derived.Test.YtklbiemlpkhlhaaGreatDoorPfCFnScriptWhat
import Derived.WalkKit
import Derived.ProofKit
import Derived.OpenShut
import Derived.ShutString
import Derived.ChangeOld
import Derived.Below
import Derived.OpenVars
import Derived.LaidLaws
import Derived.LaidMore
import Derived.LaidHandle
import Derived.Lay
import Derived.Shelf.Vars
namespace Go.Proofs.YtklbiemlpkhlhaaGreatDoor.fnScriptWhat
open Go.ChangeShapes Go.WideShapes Go.ChangeAt Go.RowKit Go.PF
set_option linter.unusedVariables false

theorem own:ownKnob Tryz.prog.godebug=none:=by kernel_rfl
theorem laidOut:laidOutB Tryz.prog=true:=by kernel_rfl
set_option maxRecDepth 100000 in
theorem uU {H:Type} {enc:TypeId×Value→H} {w:World} {sp:Nat→Bool} {held:Bool} {fuel:Nat} {cs:cU} {x:DataW H×List MemPlace} (h:DataW.trod enc Tryz.prog w 0 sp held fuel 22 cs=some x): ∃ A:aM,∃ c:Nat,∃ xs:aD,cs=[.slice A xs.length c]∧Sl w [] 1 A xs.length c (xs.map U):=DJ (e:=5) (by kernel_rfl) (by kernel_rfl) (by kernel_rfl) h
theorem uS {W:World} (h:laidMetH Tryz.prog Rows.fnScriptWhatRow.laid W):bZ Tryz.prog W [] "internal/strconv.uint64pow10" jH∧PA W [] ⟨1,0,none⟩ (jY.map aA)∧PA W [] ⟨0,0,none⟩ (j5.map aA)∧bZ Tryz.prog W [] "strconv.ErrRange" fH∧bZ Tryz.prog W [] "strconv.ErrSyntax" fH∧True:=by
  rw[MakeChecks.laidMetH_plain _ _ _ (by kernel_rfl)]at h
  obtain ⟨ps,⟨g0,t0,zQ,u0,FR,F1,E7,FD,FG,gU,⟨g1,t1,EP,u1,FT,F2,vY,BP,FH,E4,⟨g2,t2,tM,u2,FU,F3,q9,qJ,uJ,q8,⟨g3,t3,ER,u3,FV,F4,E8,FE,FI,BF,⟨g4,t4,ES,u4,FW,F5,uA,uF,uK,tU,⟨g5,t5,ET,u5,FX,F6,uB,uG,uL,tV,⟨g6,t6,tN,u6,FY,F7,oT,uH,uM,tW,⟨g7,t7,tO,u7,FZ,F8,oU,uI,uN,tX,⟨g8,t8,EU,u8,F0,F9,E9,FF,FJ,E5,_,_⟩,_⟩,_⟩,_⟩,_⟩,_⟩,_⟩,_⟩,_⟩,_,_⟩:=h
  obtain rfl:=Option.some.inj ((show Tryz.prog.globalNamed "internal/strconv.uint64pow10" =some 5 by kernel_rfl).symm.trans q9)
  obtain rfl:=Option.some.inj ((show (Tryz.prog.globals[5]?).map (·.type)=some 204 by kernel_rfl).symm.trans qJ)
  have c2:tM.toList=Lib.pow10Tab.map (fun z=>Value.int .u64 z):=Lib.cells_of_tab (n:=20) (e:=180) (by kernel_rfl) (by kernel_rfl) (by kernel_rfl) (by kernel_rfl) q8
  have w2:bZ Tryz.prog W [] "internal/strconv.uint64pow10" jH:=bZ.mk' (Array.toList_inj.1 (by rw[c2])) (show Tryz.prog.globalNamed "internal/strconv.uint64pow10" =some 5 by kernel_rfl) uJ
  obtain rfl:=Option.some.inj ((show Tryz.prog.globalNamed "loop.example/proxyframes/impl.kindTexts" =some 1 by kernel_rfl).symm.trans oT)
  obtain rfl:=Option.some.inj ((show (Tryz.prog.globals[1]?).map (·.type)=some 124 by kernel_rfl).symm.trans uH)
  have c6:tN.toList=jY.map aA:=tH (n:=7) (e:=9) (by kernel_rfl) (by kernel_rfl) (by kernel_rfl) (by kernel_rfl) tW
  have w6:PA W [] ⟨1,0,none⟩ (jY.map aA):=tD oT uM c6 (by simp[BS])
  obtain rfl:=Option.some.inj ((show Tryz.prog.globalNamed "loop.example/proxyframes/impl.stateTexts" =some 0 by kernel_rfl).symm.trans oU)
  obtain rfl:=Option.some.inj ((show (Tryz.prog.globals[0]?).map (·.type)=some 51 by kernel_rfl).symm.trans uI)
  have c7:tO.toList=j5.map aA:=tH (n:=5) (e:=9) (by kernel_rfl) (by kernel_rfl) (by kernel_rfl) (by kernel_rfl) tX
  have w7:PA W [] ⟨0,0,none⟩ (j5.map aA):=tD oU uN c7 (by simp[yL])
  obtain rfl:=Option.some.inj ((show Tryz.prog.globalNamed "strconv.ErrRange" =some 7 by kernel_rfl).symm.trans uA)
  obtain rfl:=Option.some.inj ((show (Tryz.prog.globals[7]?).map (·.type)=some 48 by kernel_rfl).symm.trans uF)
  have w4:bZ Tryz.prog W [] "strconv.ErrRange" fH:=bZ.mk' (tG rfl (by kernel_rfl) tU) (show Tryz.prog.globalNamed "strconv.ErrRange" =some 7 by kernel_rfl) uK
  obtain rfl:=Option.some.inj ((show Tryz.prog.globalNamed "strconv.ErrSyntax" =some 6 by kernel_rfl).symm.trans uB)
  obtain rfl:=Option.some.inj ((show (Tryz.prog.globals[6]?).map (·.type)=some 48 by kernel_rfl).symm.trans uG)
  have w5:bZ Tryz.prog W [] "strconv.ErrSyntax" fH:=bZ.mk' (tG rfl (by kernel_rfl) tV) (show Tryz.prog.globalNamed "strconv.ErrSyntax" =some 6 by kernel_rfl) uL
  exact⟨w2,w6,w7,w4,w5,trivial⟩
/-- The frame, with the shape of the world told. -/
theorem tT {H:Type} {enc:TypeId×Value→H} {a:Assume} {C:Checked} {os:Os} {f:FuncId} {fn:Func} {s:ChangeSpec} {conds:List PathCond} {apart fresh handsOn again:Bool} {X:World→Array Value→Prop}
    (hX: ∀ (w w':World) (args:Array Value),w.heap=w'.heap→X w args→X w' args) (own:ownKnob C.prog.godebug=none) (started:os.Started) (noInit:C.prog.inits.idxOf? f=none) (hfn:C.prog.funcs[f]?=some fn)
    (witness: ∃ (w:World) (tape:Tape) (i:Input),w.os=os∧(w.forCall tape i).Shaped C.prog∧i.vars=[]∧Input.okWide C.prog (w.forCall tape i) .any w.heap.size f i∧
      ((s.pre enc C.prog fn conds apart (w.forCall tape i).memory i.args∧X (w.forCall tape i).memory i.args)∧sizedMet enc C.prog fn (OpenSpec.ofChange s) apart (w.forCall tape i).memory i.args)∧a.holds C.prog (lone (Frame.enter C.prog f i.args .normal) [] (w.forCall tape i)))
    (contract: ∀ (W:World) (base:Nat) (args:Array Value) (ds gs:List (DataW H)) (before:List MemPlace),(∀ (j:Nat) t v,fn.params[j]?=some t→args[j]?=some v→Value.okWide C.prog W .any base t v)→
      DataW.Whole enc C.prog fn.params.toList s.vars apart W args.toList ds gs before→conds.all (PathCond.test C.prog ⟨fn.params.toList,ds,s.plain.varTypes C.prog,gs⟩)=true→X W args→W.ShapedOpen C.prog→
      Calls C.prog f args W fun e W'=>∃ v,e=.returned v∧s.post enc C.prog fn apart fresh handsOn again W args v W'):
    ReturnsInHanded a C os f .any (fun w args=>(s.pre enc C.prog fn conds apart w args∧X w args)∧sizedMet enc C.prog fn (OpenSpec.ofChange s) apart w args) (s.post enc C.prog fn apart fresh handsOn again):=by
  refine returnsInHanded_of_calls own started noInit witness ?_
  rintro w tape i _ iI _ ⟨_,_,_,EX,tZ,_,_,_,_,hval⟩ ⟨⟨⟨ds,gs,before,hw,hc⟩,hx⟩,hz⟩ _
  cases Option.some.inj (tZ.symm.trans hfn)
  refine(contract (w.forCall tape i) w.heap.size i.args ds gs before hval (DataW.Whole.of_heap (w':=w.forCall tape i) (by rfl) hw) hc (hX _ _ _ (by rfl) hx) iI).mono ?_
  rintro e W' ⟨v,rfl,hp⟩
  exact ChangeSpec.post_blind hp
theorem uT {P:Program} {w:World} {n:String} {g:Nat} {t:TypeId} (h:w.ShapedOpen P) (hn:P.globalNamed n=some g) (hg:g<P.globals.size) (h0:((begin P (fun _ _=>0) default).world.heap[g]?).bind Obj.row?=some (#[.int .i64 0],t))
    (hb:P.buildable t=true) (hc:P.cellTypes P.depth t=some [t]) (hu:P.underlying t=some (.int .i64)):bZ P w [] n l4:=by
  obtain ⟨m,hm⟩:=cell_of_shapedOpen_int h hg h0 rfl hb hc hu
  obtain ⟨cs,hh,hs,_⟩:=h.1 g _ t hg h0
  refine bZ.mk' (cs:=cs) ⟨m,?_⟩ hn (by simp[World.var?,hn,hh])
  have h1:cs.size=1:=hs
  simp[World.cell?,hh]at hm
  apply Array.ext
  · simp[h1]
  · intro i h2 h3
    have:i=0:=by omega
    subst this
    simpa [h2] using hm
set_option maxRecDepth 100000 in
theorem lifted (os:Os) (started:os.Started) (H:Type) (enc:TypeId×Value→H):
    ReturnsInHanded {} Tryz.checked os 5 .any (fun w args=>(Rows.fnScriptWhatSpec.pre enc Tryz.prog Tryz.f5 [] false w args∧laidMetH Tryz.prog Rows.fnScriptWhatRow.laid w)∧sizedMet enc Tryz.prog Tryz.f5 (OpenSpec.ofChange Rows.fnScriptWhatSpec) false w args) (Rows.fnScriptWhatSpec.post enc Tryz.prog Tryz.f5 false true false false):=by
  refine tT (C:=Tryz.checked) (X:=fun w _=>laidMetH Tryz.prog Rows.fnScriptWhatRow.laid w) (fun _ _ _ hh h=>h.of_heap hh) own started (by kernel_rfl) Tryz.func5
    (ChangeSpec.witness_shaped (enc:=enc) (C:=Tryz.checked) (os:=os) (X:=fun w _=>laidMetH Tryz.prog Rows.fnScriptWhatRow.laid w) false (World.laidAll Tryz.prog os Rows.fnScriptWhatRow.laid) #[.slice none 0 0] 8 (World.laidAll_os _ _ _) (World.shaped_of_ZipB (by kernel_rfl) (by kernel_rfl)) (by kernel_rfl) (by kernel_rfl) (by kernel_rfl)
      (by rw[MakeChecks.laidMetH_plain _ _ _ (by kernel_rfl)]; exact laidMet_laidAll _ (by kernel_rfl) (by kernel_rfl))) ?_
  intro W base args ds gs before hval0 hW _ tS iI
  have uC:bZ Tryz.prog W [] "internal/bytealg.MaxLen" l4:=uT (g:=2) (t:=3) iI (by kernel_rfl) (of_decide_eq_true (by kernel_rfl)) (by kernel_rfl) (by kernel_rfl) (by kernel_rfl) Tryz.underlying3
  have hL:=uS tS
  have hval: ∀ (j:Nat) t v,Tryz.f5.params[j]?=some t→args[j]?=some v→Value.okWide Tryz.prog W .any base t v:=hval0
  have hW':=hW
  obtain ⟨p,q,hA0,hV,rfl,hfz,hnd⟩:=hW
  have hA:DataW.TrodAll enc Tryz.prog W 0 (fun _=>true) true Tryz.f5.params.toList args.toList ds p:=hA0
  rw[Tryz.params5]at hA hval
  obtain ⟨v0,GJ,d0,EW,p0,q0,hargs,rfl,rfl,h0,r0⟩:=trodAll_cons hA
  obtain ⟨rfl,rfl,rfl⟩:=trodAll_nil r0
  obtain rfl:args= #[v0]:=by cases args; simp_all
  have hgl:gs.length=2:=B2 hV
  rcases gs with _ | ⟨E0,_ | ⟨E1,_ | ⟨E2,_⟩⟩⟩ <;> simp at hgl
  have k0:=h0
  have uQ: ∀ x∈p0,x.block<W.heap.size:=by obtain ⟨m,hm⟩:=k0; exact DataW.trod_lt m _ _ _ hm
  obtain ⟨A_a0,c_a0,xs_a0,tP,f0_0⟩: ∃ (A_a0:aM) (c_a0:Nat) (xs_a0:aD),v0=.slice A_a0 xs_a0.length c_a0∧Sl W [] 1 A_a0 xs_a0.length c_a0 (xs_a0.map U):=by
    obtain ⟨a,n,c,hv⟩:=okWide_slice Tryz.underlying22 (hval 0 22 v0 rfl rfl)
    subst hv
    obtain ⟨fuel,hf⟩:=h0
    obtain ⟨z0,z1,z2,hc,f0_0⟩:=uU (by simpa [Value.cells] using hf)
    simp only[List.cons.injEq,and_true]at hc
    try rw[hc]
    exact⟨z0,z1,z2,rfl,f0_0⟩
  subst tP
  clear hA0 hval0
  refine Calls.mono (DD (YtklbiemlpkhlhaaGreatDoor.Nq (w:=W) (cs:=xs_a0) (hcs:=f0_0) (hGp:=hL.1) (hGk:=hL.2.1) (hSt:=hL.2.2.1) (hEr:=hL.2.2.2.1) (hEs:=hL.2.2.2.2.1) (hMl:=uC)) rfl) fun e W' ⟨he,bel⟩=>?_
  subst he
  exact⟨_,rfl,_,_,_,[],_,q,hW',trodAll_mk1 (shut_bool Tryz.underlying4 _),(trodAll_cons_mk (Below.trod laidOut (by kernel_rfl) (of_decide_eq_true (by kernel_rfl)) k0 bel uQ) trodAll_mk0),(Below.trodVars laidOut bel (by kernel_rfl) hV),bel.frame _,fun h=>by cases h⟩

theorem over:Rows.fnScriptWhatRow.holds Tryz.pinned (OpenSpec.ofChange Rows.fnScriptWhatSpec):=
  OpenClaim.holds_of_wide 5 Tryz.f5 rfl rfl rfl rfl rfl rfl rfl ⟨rfl,rfl,rfl,rfl,rfl⟩ rfl rfl rfl rfl rfl (by kernel_rfl) Tryz.func5 closed
    (of_decide_eq_true (by kernel_rfl)) (by unfold Func.isWrapper; first | (rw[if_pos (by decide+kernel)]; kernel_rfl) | (rw[if_neg (by decide+kernel)]; exact⟨rfl,rfl⟩))
    (fun os started H enc _=>lifted os started H enc)

set_option maxHeartbeats 1000000000
/-- THE STATEMENT: the tied card. -/
theorem proved:Rows.FnScriptWhatCardSaid:=
  Claim7.holds_tied_plain_at .later [] [.data,.data,.data,.data,.sentinel,.sentinel,.data,.data,.pinned] true (true, "55d55c44daf498e7c60c9d13b3fa4d0466899b264a381e8ab6e13b566704e61e") true
    over (fun _ h=>by cases h) (by as_aux_lemma => kernel_rfl) (fun _ h=>by cases h) fnScriptWhat_row_tie rfl ⟨rfl,rfl⟩ (by as_aux_lemma => kernel_rfl) rfl
    (fun f fn hf hfn=>by
      obtain rfl:f=5:=Option.some.inj ((show Tryz.prog.funcNamed "loop.example/proxyframes/laws.FnScriptWhat" =some 5 by kernel_rfl).symm.trans hf) |>.symm
      obtain rfl:fn=Tryz.f5:=(Option.some.inj (Tryz.func5.symm.trans hfn)).symm
      exact⟨by kernel_rfl,fun j t ht=>by
        rw[Tryz.params5]at ht
        have hm:t∈[22]:=by simpa using Array.mem_of_getElem? ht
        have hall:([22].all fun u=>!Tryz.prog.wantsStandIn u)=true:=by kernel_rfl
        exact(show Tryz.prog.wantsStandIn t=false by simpa using List.all_eq_true.1 hall t hm)⟩)
    (by as_aux_lemma => kernel_rfl)
#print axioms proved
end Go.Proofs.YtklbiemlpkhlhaaGreatDoor.fnScriptWhat
