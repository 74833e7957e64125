/-
  Proved: the statement Rows.FnClientRunTwiceCardSaid of this seat: for every input the call of laws.FnClientRunTwice returns true, and the arguments read behind it as before.
  Conditions: the listed package-level variables hold what the program's text lays in them (the card ties that to the text).
-/
import Derived.Test.YtjehmnojfpedjaaGreatDoorRows
import Derived.Test.YtjehmnojfpedjaaGreatDoorTie
import Derived.Test.YtjehmnojfpedjaaGreatDoorCards
import Derived.SevenTiedAt
import Derived.Test.YtjehmnojfpedjaaGreatDoorPfLFnClientRunTwice
import Derived.WalkKit
import Derived.ProofKit
import Derived.OpenShut
import Derived.ShutString
import Derived.ChangeOld
import Derived.Below
import Derived.OpenVars
import Derived.LaidLaws
import Derived.LaidMore
import Derived.LaidHandle
import Derived.Lay
namespace Go.Proofs.YtjehmnojfpedjaaGreatDoor.fnClientRunTwice
open Go.ChangeShapes Go.WideShapes Go.ChangeAt Go.RowKit Go.PF
set_option linter.unusedVariables false

theorem own:ownKnob Tryz.prog.godebug=none:=by kernel_rfl
theorem laidOut:laidOutB Tryz.prog=true:=by kernel_rfl
set_option maxRecDepth 100000 in
theorem rd39 {H:Type} {enc:TypeId×Value→H} {w:World} {sp:Nat→Bool} {held:Bool} {fuel:Nat} {cs:List Value} {x:DataW H×List MemPlace} (h:DataW.trod enc Tryz.prog w 0 sp held fuel 39 cs=some x): ∃ A:Option Addr,∃ c:Nat,∃ xs:List UInt8,cs=[.slice A xs.length c]∧Sl w [] 1 A xs.length c (xs.map U):=rd_us (e:=5) (by kernel_rfl) (by kernel_rfl) (by kernel_rfl) h
theorem of_laid {W:World} (h:laidMetH Tryz.prog Rows.fnClientRunTwiceRow.laid W):VarP Tryz.prog W [] "internal/strconv.uint64pow10" isPow∧VarP Tryz.prog W [] "strconv.ErrRange" isIfc∧VarP Tryz.prog W [] "strconv.ErrSyntax" isIfc∧True:=by
  rw[MakeChecks.laidMetH_plain _ _ _ (by kernel_rfl)]at h
  obtain ⟨ps,⟨g0,t0,cs0,u0,pp0,qq0,hg0,ht0,hv0,hd0,⟨g1,t1,cs1,u1,pp1,qq1,hg1,ht1,hv1,hd1,⟨g2,t2,cs2,u2,pp2,qq2,hg2,ht2,hv2,hd2,⟨g3,t3,cs3,u3,pp3,qq3,hg3,ht3,hv3,hd3,⟨g4,t4,cs4,u4,pp4,qq4,hg4,ht4,hv4,hd4,⟨g5,t5,cs5,u5,pp5,qq5,hg5,ht5,hv5,hd5,⟨g6,t6,cs6,u6,pp6,qq6,hg6,ht6,hv6,hd6,_,_⟩,_⟩,_⟩,_⟩,_⟩,_⟩,_⟩,_,_⟩:=h
  obtain rfl:=Option.some.inj ((show Tryz.prog.globalNamed "internal/strconv.uint64pow10" =some 1 by kernel_rfl).symm.trans hg2)
  obtain rfl:=Option.some.inj ((show (Tryz.prog.globals[1]?).map (·.type)=some 199 by kernel_rfl).symm.trans ht2)
  have c2:cs2.toList=Lib.pow10Tab.map (fun z=>Value.int .u64 z):=Lib.cells_of_tab (n:=20) (e:=184) (by kernel_rfl) (by kernel_rfl) (by kernel_rfl) (by kernel_rfl) hd2
  have w2:VarP Tryz.prog W [] "internal/strconv.uint64pow10" isPow:=VarP.mk' (Array.toList_inj.1 (by rw[c2])) (show Tryz.prog.globalNamed "internal/strconv.uint64pow10" =some 1 by kernel_rfl) hv2
  obtain rfl:=Option.some.inj ((show Tryz.prog.globalNamed "strconv.ErrRange" =some 3 by kernel_rfl).symm.trans hg4)
  obtain rfl:=Option.some.inj ((show (Tryz.prog.globals[3]?).map (·.type)=some 164 by kernel_rfl).symm.trans ht4)
  have w4:VarP Tryz.prog W [] "strconv.ErrRange" isIfc:=VarP.mk' (rd_if rfl (by kernel_rfl) hd4) (show Tryz.prog.globalNamed "strconv.ErrRange" =some 3 by kernel_rfl) hv4
  obtain rfl:=Option.some.inj ((show Tryz.prog.globalNamed "strconv.ErrSyntax" =some 2 by kernel_rfl).symm.trans hg5)
  obtain rfl:=Option.some.inj ((show (Tryz.prog.globals[2]?).map (·.type)=some 164 by kernel_rfl).symm.trans ht5)
  have w5:VarP Tryz.prog W [] "strconv.ErrSyntax" isIfc:=VarP.mk' (rd_if rfl (by kernel_rfl) hd5) (show Tryz.prog.globalNamed "strconv.ErrSyntax" =some 2 by kernel_rfl) hv5
  exact⟨w2,w4,w5,trivial⟩
set_option maxRecDepth 100000 in
theorem lifted (os:Os) (started:os.Started) (H:Type) (enc:TypeId×Value→H):
    ReturnsInHanded {} Tryz.checked os 8 .any (fun w args=>(Rows.fnClientRunTwiceSpec.pre enc Tryz.prog Tryz.f8 [] false w args∧laidMetH Tryz.prog Rows.fnClientRunTwiceRow.laid w)∧sizedMet enc Tryz.prog Tryz.f8 (OpenSpec.ofChange Rows.fnClientRunTwiceSpec) false w args) (Rows.fnClientRunTwiceSpec.post enc Tryz.prog Tryz.f8 false true false false):=by
  refine returnsInHanded_of_change_and (C:=Tryz.checked) (X:=fun w _=>laidMetH Tryz.prog Rows.fnClientRunTwiceRow.laid w) (fun _ _ _ hh h=>h.of_heap hh) own started (by kernel_rfl) Tryz.func8
    (ChangeSpec.witness_shaped (enc:=enc) (C:=Tryz.checked) (os:=os) (X:=fun w _=>laidMetH Tryz.prog Rows.fnClientRunTwiceRow.laid w) false (World.laidAll Tryz.prog os Rows.fnClientRunTwiceRow.laid) #[.slice none 0 0] 8 (World.laidAll_os _ _ _) (World.shaped_of_ZipB (by kernel_rfl) (by kernel_rfl)) (by kernel_rfl) (by kernel_rfl) (by kernel_rfl)
      (by rw[MakeChecks.laidMetH_plain _ _ _ (by kernel_rfl)]; exact laidMet_laidAll _ (by kernel_rfl) (by kernel_rfl))) ?_
  intro W base args ds gs before hval0 hW _ _ hL0 _
  have hL:=of_laid hL0
  have hval: ∀ (j:Nat) t v,Tryz.f8.params[j]?=some t→args[j]?=some v→Value.okWide Tryz.prog W .any base t v:=hval0
  have hW':=hW
  obtain ⟨p,q,hA0,hV,rfl,hfz,hnd⟩:=hW
  have hA:DataW.TrodAll enc Tryz.prog W 0 (fun _=>true) true Tryz.f8.params.toList args.toList ds p:=hA0
  rw[Tryz.params8]at hA hval
  obtain ⟨v0,vs0,d0,ds0,p0,q0,hargs,rfl,rfl,h0,r0⟩:=trodAll_cons hA
  obtain ⟨rfl,rfl,rfl⟩:=trodAll_nil r0
  obtain rfl:args= #[v0]:=by cases args; simp_all
  obtain ⟨rfl,rfl⟩:=trodVars_none hV
  have k0:=h0
  have lt0: ∀ x∈p0,x.block<W.heap.size:=by obtain ⟨m,hm⟩:=k0; exact DataW.trod_lt m _ _ _ hm
  obtain ⟨A_a0,c_a0,xs_a0,ev0,f0_0⟩: ∃ (A_a0:Option Addr) (c_a0:Nat) (xs_a0:List UInt8),v0=.slice A_a0 xs_a0.length c_a0∧Sl W [] 1 A_a0 xs_a0.length c_a0 (xs_a0.map U):=by
    obtain ⟨a,n,c,hv⟩:=okWide_slice Tryz.underlying39 (hval 0 39 v0 rfl rfl)
    subst hv
    obtain ⟨fuel,hf⟩:=h0
    obtain ⟨z0,z1,z2,hc,f0_0⟩:=rd39 (by simpa [Value.cells] using hf)
    simp only[List.cons.injEq,and_true]at hc
    try rw[hc]
    exact⟨z0,z1,z2,rfl,f0_0⟩
  subst ev0
  clear hA0 hval0
  refine Calls.mono (law_done (YtjehmnojfpedjaaGreatDoor.lClientRunTwice (w:=W) (cs:=xs_a0) (hcs:=f0_0) (hGp:=hL.1) (hEr:=hL.2.1) (hEs:=hL.2.2.1)) rfl) fun e W' ⟨he,bel⟩=>?_
  subst he
  exact⟨_,rfl,_,_,_,[],_,[],hW',trodAll_mk1 (shut_bool Tryz.underlying4 _),(trodAll_cons_mk (Below.trod laidOut (by kernel_rfl) (of_decide_eq_true (by kernel_rfl)) k0 bel lt0) trodAll_mk0),rfl,bel.frame _,fun h=>by cases h⟩

theorem over:Rows.fnClientRunTwiceRow.holds Tryz.pinned (OpenSpec.ofChange Rows.fnClientRunTwiceSpec):=
  OpenClaim.holds_of_wide 8 Tryz.f8 rfl rfl rfl rfl rfl rfl rfl ⟨rfl,rfl,rfl,rfl,rfl⟩ rfl rfl rfl rfl rfl (by kernel_rfl) Tryz.func8 (by kernel_rfl)
    (of_decide_eq_true (by kernel_rfl)) (by unfold Func.isWrapper; first | (rw[if_pos (by decide+kernel)]; kernel_rfl) | (rw[if_neg (by decide+kernel)]; exact⟨rfl,rfl⟩))
    (fun os started H enc _=>lifted os started H enc)

/-- THE STATEMENT: the tied card. -/
theorem proved:Rows.FnClientRunTwiceCardSaid:=
  Claim7.holds_tied_plain_at .later [] [.data,.data,.data,.data,.sentinel,.sentinel,.pinned] true (true, "390495ab5bd0cd9bbe104b8d726f6979fc8121b75cf440ebbb34cd7ecab38c98") true
    over (fun _ h=>by cases h) (by kernel_rfl) (fun _ h=>by cases h) fnClientRunTwice_row_tie rfl ⟨rfl,rfl⟩ (by kernel_rfl) rfl
    (fun f fn hf hfn=>by
      obtain rfl:f=8:=Option.some.inj ((show Tryz.prog.funcNamed "loop.example/proxyframes/laws.FnClientRunTwice" =some 8 by kernel_rfl).symm.trans hf) |>.symm
      obtain rfl:fn=Tryz.f8:=(Option.some.inj (Tryz.func8.symm.trans hfn)).symm
      exact⟨by kernel_rfl,fun j t ht=>by
        rw[Tryz.params8]at ht
        have hm:t∈[39]:=by simpa using Array.mem_of_getElem? ht
        have hall:([39].all fun u=>!Tryz.prog.wantsStandIn u)=true:=by kernel_rfl
        exact(show Tryz.prog.wantsStandIn t=false by simpa using List.all_eq_true.1 hall t hm)⟩)
    (by kernel_rfl)
#print axioms proved
end Go.Proofs.YtjehmnojfpedjaaGreatDoor.fnClientRunTwice
