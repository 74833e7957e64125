/-
  Proved: the statement Rows.FnExactClientRunCardSaid of this seat: for every input the call of laws.FnExactClientRun returns true, and the arguments read behind it as before.
  Conditions: the listed package-level variables hold what the program's text lays in them (the card ties that to the text).
-/
import Derived.Test.YtjehmnojfpedjaaGreatDoorRows
import Derived.Test.YtjehmnojfpedjaaGreatDoorTie
import Derived.Test.YtjehmnojfpedjaaGreatDoorCards
import Derived.SevenTiedAt
import Derived.Test.YtjehmnojfpedjaaGreatDoorPfLFnExactClientRun
import Derived.WalkKit
import Derived.ProofKit
import Derived.OpenShut
import Derived.ShutString
import Derived.ChangeOld
import Derived.Below
import Derived.OpenVars
import Derived.LaidLaws
import Derived.LaidMore
import Derived.LaidHandle
import Derived.Lay
namespace Go.Proofs.YtjehmnojfpedjaaGreatDoor.fnExactClientRun
open Go.ChangeShapes Go.WideShapes Go.ChangeAt Go.RowKit Go.PF
set_option linter.unusedVariables false

theorem own:ownKnob Tryz.prog.godebug=none:=by kernel_rfl
theorem laidOut:laidOutB Tryz.prog=true:=by kernel_rfl
set_option maxRecDepth 100000 in
theorem rd22 {H:Type} {enc:TypeId×Value→H} {w:World} {sp:Nat→Bool} {held:Bool} {fuel:Nat} {cs:List Value} {x:DataW H×List MemPlace} (h:DataW.trod enc Tryz.prog w 0 sp held fuel 22 cs=some x): ∃ A:Option Addr,∃ c:Nat,∃ xs:List Int,cs=[.slice A xs.length c]∧Sl w [] 1 A xs.length c (xs.map I):=by obtain ⟨A,c,us,h1,h2,_⟩:=rd_is (e:=3) (by kernel_rfl) (by kernel_rfl) (by kernel_rfl) h; exact⟨A,c,us,h1,h2⟩
set_option maxRecDepth 100000 in
theorem rd9 {H:Type} {enc:TypeId×Value→H} {w:World} {sp:Nat→Bool} {held:Bool} {fuel:Nat} {cs:List Value} {x:DataW H×List MemPlace} (h:DataW.trod enc Tryz.prog w 0 sp held fuel 9 cs=some x): ∃ l:List UInt8,cs=[Str l]∧l.length≤maxLen:=rd_s (by kernel_rfl) h
set_option maxRecDepth 100000 in
theorem rd63 {H:Type} {enc:TypeId×Value→H} {w:World} {sp:Nat→Bool} {held:Bool} {fuel:Nat} {cs:List Value} {x:DataW H×List MemPlace} (h:DataW.trod enc Tryz.prog w 0 sp held fuel 63 cs=some x): ∃ l_0:List UInt8,∃ l_1:List UInt8,cs=[Str l_0,Str l_1]∧l_0.length≤maxLen∧l_1.length≤maxLen:=by
  obtain ⟨hl,n_,hf⟩:=rd_st (fs:= #[_,_]) Tryz.underlying63 h
  have hlen:cs.length=2:=hl.trans (show Tryz.prog.cellsOf 63=2 by kernel_rfl)
  match cs,hlen with
  | [k0,k1],_=>
    obtain ⟨y0,hy0⟩:=hf 0 _ rfl
    obtain ⟨l_0,e0,g0_0⟩:=rd9 hy0
    have e0':[k0]=[Str l_0]:=e0
    simp only[List.cons.injEq,and_true]at e0'
    subst e0'
    obtain ⟨y1,hy1⟩:=hf 1 _ rfl
    obtain ⟨l_1,e1,g1_0⟩:=rd9 hy1
    have e1':[k1]=[Str l_1]:=e1
    simp only[List.cons.injEq,and_true]at e1'
    subst e1'
    exact⟨l_0,l_1,rfl,g0_0,g1_0⟩
set_option maxRecDepth 100000 in
theorem rd3 {H:Type} {enc:TypeId×Value→H} {w:World} {sp:Nat→Bool} {held:Bool} {fuel:Nat} {cs:List Value} {x:DataW H×List MemPlace} (h:DataW.trod enc Tryz.prog w 0 sp held fuel 3 cs=some x): ∃ n:Int,cs=[.int .i64 n]∧I64 n:=rd_i (by kernel_rfl) h
set_option maxRecDepth 100000 in
theorem rd64 {H:Type} {enc:TypeId×Value→H} {w:World} {sp:Nat→Bool} {held:Bool} {fuel:Nat} {cs:List Value} {x:DataW H×List MemPlace} (h:DataW.trod enc Tryz.prog w 0 sp held fuel 64 cs=some x): ∃ n_0:Int,∃ A_1:Option Addr,∃ c_1:Nat,∃ xs_1:List Int,∃ l_2:List UInt8,∃ n_3:Int,cs=[.int .i64 n_0,.slice A_1 xs_1.length c_1,Str l_2,.int .i64 n_3]∧I64 n_0∧Sl w [] 1 A_1 xs_1.length c_1 (xs_1.map I)∧l_2.length≤maxLen∧I64 n_3:=by
  obtain ⟨hl,n_,hf⟩:=rd_st (fs:= #[_,_,_,_]) Tryz.underlying64 h
  have hlen:cs.length=4:=hl.trans (show Tryz.prog.cellsOf 64=4 by kernel_rfl)
  match cs,hlen with
  | [k0,k1,k2,k3],_=>
    obtain ⟨y0,hy0⟩:=hf 0 _ rfl
    obtain ⟨n_0,e0,g0_0⟩:=rd3 hy0
    have e0':[k0]=[.int .i64 n_0]:=e0
    simp only[List.cons.injEq,and_true]at e0'
    subst e0'
    obtain ⟨y1,hy1⟩:=hf 1 _ rfl
    obtain ⟨A_1,c_1,xs_1,e1,g1_0⟩:=rd22 hy1
    have e1':[k1]=[.slice A_1 xs_1.length c_1]:=e1
    simp only[List.cons.injEq,and_true]at e1'
    subst e1'
    obtain ⟨y2,hy2⟩:=hf 2 _ rfl
    obtain ⟨l_2,e2,g2_0⟩:=rd9 hy2
    have e2':[k2]=[Str l_2]:=e2
    simp only[List.cons.injEq,and_true]at e2'
    subst e2'
    obtain ⟨y3,hy3⟩:=hf 3 _ rfl
    obtain ⟨n_3,e3,g3_0⟩:=rd3 hy3
    have e3':[k3]=[.int .i64 n_3]:=e3
    simp only[List.cons.injEq,and_true]at e3'
    subst e3'
    exact⟨n_0,A_1,c_1,xs_1,l_2,n_3,rfl,g0_0,g1_0,g2_0,g3_0⟩
set_option maxRecDepth 100000 in
theorem rd66 {H:Type} {enc:TypeId×Value→H} {w:World} {sp:Nat→Bool} {held:Bool} {fuel:Nat} {cs:List Value} {x:DataW H×List MemPlace} (h:DataW.trod enc Tryz.prog w 0 sp held fuel 66 cs=some x): ∃ A_0:Option Addr,∃ c_0:Nat,∃ xs_0:List Int,∃ l_0_1:List UInt8,∃ l_1_1:List UInt8,∃ n_0_2:Int,∃ A_1_2:Option Addr,∃ c_1_2:Nat,∃ xs_1_2:List Int,∃ l_2_2:List UInt8,∃ n_3_2:Int,cs=[.slice A_0 xs_0.length c_0,Str l_0_1,Str l_1_1,.int .i64 n_0_2,.slice A_1_2 xs_1_2.length c_1_2,Str l_2_2,.int .i64 n_3_2]∧Sl w [] 1 A_0 xs_0.length c_0 (xs_0.map I)∧l_0_1.length≤maxLen∧l_1_1.length≤maxLen∧I64 n_0_2∧Sl w [] 1 A_1_2 xs_1_2.length c_1_2 (xs_1_2.map I)∧l_2_2.length≤maxLen∧I64 n_3_2:=by
  obtain ⟨hl,n_,hf⟩:=rd_st (fs:= #[_,_,_]) Tryz.underlying66 h
  have hlen:cs.length=7:=hl.trans (show Tryz.prog.cellsOf 66=7 by kernel_rfl)
  match cs,hlen with
  | [k0,k1,k2,k3,k4,k5,k6],_=>
    obtain ⟨y0,hy0⟩:=hf 0 _ rfl
    obtain ⟨A_0,c_0,xs_0,e0,g0_0⟩:=rd22 hy0
    have e0':[k0]=[.slice A_0 xs_0.length c_0]:=e0
    simp only[List.cons.injEq,and_true]at e0'
    subst e0'
    obtain ⟨y1,hy1⟩:=hf 1 _ rfl
    obtain ⟨l_0_1,l_1_1,e1,g1_0,g1_1⟩:=rd63 hy1
    have e1':[k1,k2]=[Str l_0_1,Str l_1_1]:=e1
    simp only[List.cons.injEq,and_true]at e1'
    obtain ⟨rfl,rfl⟩:=e1'
    obtain ⟨y2,hy2⟩:=hf 2 _ rfl
    obtain ⟨n_0_2,A_1_2,c_1_2,xs_1_2,l_2_2,n_3_2,e2,g2_0,g2_1,g2_2,g2_3⟩:=rd64 hy2
    have e2':[k3,k4,k5,k6]=[.int .i64 n_0_2,.slice A_1_2 xs_1_2.length c_1_2,Str l_2_2,.int .i64 n_3_2]:=e2
    simp only[List.cons.injEq,and_true]at e2'
    obtain ⟨rfl,rfl,rfl,rfl⟩:=e2'
    exact⟨A_0,c_0,xs_0,l_0_1,l_1_1,n_0_2,A_1_2,c_1_2,xs_1_2,l_2_2,n_3_2,rfl,g0_0,g1_0,g1_1,g2_0,g2_1,g2_2,g2_3⟩
set_option maxRecDepth 100000 in
theorem rd23 {H:Type} {enc:TypeId×Value→H} {w:World} {sp:Nat→Bool} {held:Bool} {fuel:Nat} {cs:List Value} {x:DataW H×List MemPlace} (h:DataW.trod enc Tryz.prog w 0 sp held fuel 23 cs=some x): ∃ A:Option Addr,∃ c:Nat,∃ xs:List (List UInt8×List UInt8),cs=[.slice A xs.length c]∧Sl w [] 2 A xs.length c (xs.flatMap gLogin)∧(∀ u∈xs,u.1.length≤9223372036854775807∧u.2.length≤9223372036854775807):=by obtain ⟨A,c,us,h1,h2,h3⟩:=rd_sl (α:=List UInt8×List UInt8) (R:=fun u=>u.1.length≤9223372036854775807∧u.2.length≤9223372036854775807) (sz:=2) gLogin (by kernel_rfl) (by kernel_rfl) (by decide) (fun n cs' y hy=>by obtain ⟨l_0,l_1,h0,hq0,hq1⟩:=rd63 hy; exact⟨(l_0,l_1),h0,by unfold maxLen at*; dsimp only; refine⟨?_,?_⟩ <;> omega⟩) h; exact⟨A,c,us,h1,h2,h3⟩
set_option maxRecDepth 100000 in
theorem rd25 {H:Type} {enc:TypeId×Value→H} {w:World} {sp:Nat→Bool} {held:Bool} {fuel:Nat} {cs:List Value} {x:DataW H×List MemPlace} (h:DataW.trod enc Tryz.prog w 0 sp held fuel 25 cs=some x): ∃ n_0:Int,∃ A_1:Option Addr,∃ c_1:Nat,∃ xs_1:List Int,∃ A_2:Option Addr,∃ c_2:Nat,∃ xs_2:List (List UInt8×List UInt8),∃ l_3:List UInt8,cs=[.int .i64 n_0,.slice A_1 xs_1.length c_1,.slice A_2 xs_2.length c_2,Str l_3]∧I64 n_0∧Sl w [] 1 A_1 xs_1.length c_1 (xs_1.map I)∧Sl w [] 2 A_2 xs_2.length c_2 (xs_2.flatMap gLogin)∧(∀ u∈xs_2,u.1.length≤9223372036854775807∧u.2.length≤9223372036854775807)∧l_3.length≤maxLen:=by
  obtain ⟨hl,n_,hf⟩:=rd_st (fs:= #[_,_,_,_]) Tryz.underlying25 h
  have hlen:cs.length=4:=hl.trans (show Tryz.prog.cellsOf 25=4 by kernel_rfl)
  match cs,hlen with
  | [k0,k1,k2,k3],_=>
    obtain ⟨y0,hy0⟩:=hf 0 _ rfl
    obtain ⟨n_0,e0,g0_0⟩:=rd3 hy0
    have e0':[k0]=[.int .i64 n_0]:=e0
    simp only[List.cons.injEq,and_true]at e0'
    subst e0'
    obtain ⟨y1,hy1⟩:=hf 1 _ rfl
    obtain ⟨A_1,c_1,xs_1,e1,g1_0⟩:=rd22 hy1
    have e1':[k1]=[.slice A_1 xs_1.length c_1]:=e1
    simp only[List.cons.injEq,and_true]at e1'
    subst e1'
    obtain ⟨y2,hy2⟩:=hf 2 _ rfl
    obtain ⟨A_2,c_2,xs_2,e2,g2_0,g2_1⟩:=rd23 hy2
    have e2':[k2]=[.slice A_2 xs_2.length c_2]:=e2
    simp only[List.cons.injEq,and_true]at e2'
    subst e2'
    obtain ⟨y3,hy3⟩:=hf 3 _ rfl
    obtain ⟨l_3,e3,g3_0⟩:=rd9 hy3
    have e3':[k3]=[Str l_3]:=e3
    simp only[List.cons.injEq,and_true]at e3'
    subst e3'
    exact⟨n_0,A_1,c_1,xs_1,A_2,c_2,xs_2,l_3,rfl,g0_0,g1_0,g2_0,g2_1,g3_0⟩
theorem of_laid {W:World} (h:laidMetH Tryz.prog Rows.fnExactClientRunRow.laid W):VarP Tryz.prog W [] "internal/strconv.uint64pow10" isPow∧VarP Tryz.prog W [] "strconv.ErrRange" isIfc∧VarP Tryz.prog W [] "strconv.ErrSyntax" isIfc∧True:=by
  rw[MakeChecks.laidMetH_plain _ _ _ (by kernel_rfl)]at h
  obtain ⟨ps,⟨g0,t0,cs0,u0,pp0,qq0,hg0,ht0,hv0,hd0,⟨g1,t1,cs1,u1,pp1,qq1,hg1,ht1,hv1,hd1,⟨g2,t2,cs2,u2,pp2,qq2,hg2,ht2,hv2,hd2,⟨g3,t3,cs3,u3,pp3,qq3,hg3,ht3,hv3,hd3,⟨g4,t4,cs4,u4,pp4,qq4,hg4,ht4,hv4,hd4,⟨g5,t5,cs5,u5,pp5,qq5,hg5,ht5,hv5,hd5,⟨g6,t6,cs6,u6,pp6,qq6,hg6,ht6,hv6,hd6,_,_⟩,_⟩,_⟩,_⟩,_⟩,_⟩,_⟩,_,_⟩:=h
  obtain rfl:=Option.some.inj ((show Tryz.prog.globalNamed "internal/strconv.uint64pow10" =some 1 by kernel_rfl).symm.trans hg2)
  obtain rfl:=Option.some.inj ((show (Tryz.prog.globals[1]?).map (·.type)=some 199 by kernel_rfl).symm.trans ht2)
  have c2:cs2.toList=Lib.pow10Tab.map (fun z=>Value.int .u64 z):=Lib.cells_of_tab (n:=20) (e:=184) (by kernel_rfl) (by kernel_rfl) (by kernel_rfl) (by kernel_rfl) hd2
  have w2:VarP Tryz.prog W [] "internal/strconv.uint64pow10" isPow:=VarP.mk' (Array.toList_inj.1 (by rw[c2])) (show Tryz.prog.globalNamed "internal/strconv.uint64pow10" =some 1 by kernel_rfl) hv2
  obtain rfl:=Option.some.inj ((show Tryz.prog.globalNamed "strconv.ErrRange" =some 3 by kernel_rfl).symm.trans hg4)
  obtain rfl:=Option.some.inj ((show (Tryz.prog.globals[3]?).map (·.type)=some 164 by kernel_rfl).symm.trans ht4)
  have w4:VarP Tryz.prog W [] "strconv.ErrRange" isIfc:=VarP.mk' (rd_if rfl (by kernel_rfl) hd4) (show Tryz.prog.globalNamed "strconv.ErrRange" =some 3 by kernel_rfl) hv4
  obtain rfl:=Option.some.inj ((show Tryz.prog.globalNamed "strconv.ErrSyntax" =some 2 by kernel_rfl).symm.trans hg5)
  obtain rfl:=Option.some.inj ((show (Tryz.prog.globals[2]?).map (·.type)=some 164 by kernel_rfl).symm.trans ht5)
  have w5:VarP Tryz.prog W [] "strconv.ErrSyntax" isIfc:=VarP.mk' (rd_if rfl (by kernel_rfl) hd5) (show Tryz.prog.globalNamed "strconv.ErrSyntax" =some 2 by kernel_rfl) hv5
  exact⟨w2,w4,w5,trivial⟩
set_option maxRecDepth 100000 in
theorem lifted (os:Os) (started:os.Started) (H:Type) (enc:TypeId×Value→H):
    ReturnsInHanded {} Tryz.checked os 10 .any (fun w args=>(Rows.fnExactClientRunSpec.pre enc Tryz.prog Tryz.f10 [] false w args∧laidMetH Tryz.prog Rows.fnExactClientRunRow.laid w)∧sizedMet enc Tryz.prog Tryz.f10 (OpenSpec.ofChange Rows.fnExactClientRunSpec) false w args) (Rows.fnExactClientRunSpec.post enc Tryz.prog Tryz.f10 false true false false):=by
  refine returnsInHanded_of_change_and (C:=Tryz.checked) (X:=fun w _=>laidMetH Tryz.prog Rows.fnExactClientRunRow.laid w) (fun _ _ _ hh h=>h.of_heap hh) own started (by kernel_rfl) Tryz.func10
    (ChangeSpec.witness_shaped (enc:=enc) (C:=Tryz.checked) (os:=os) (X:=fun w _=>laidMetH Tryz.prog Rows.fnExactClientRunRow.laid w) false (World.laidAll Tryz.prog os Rows.fnExactClientRunRow.laid) #[.agg #[.slice none 0 0,.string ByteArray.empty,.string ByteArray.empty,.int .i64 0,.slice none 0 0,.string ByteArray.empty,.int .i64 0],.agg #[.int .i64 0,.slice none 0 0,.slice none 0 0,.string ByteArray.empty]] 8 (World.laidAll_os _ _ _) (World.shaped_of_ZipB (by kernel_rfl) (by kernel_rfl)) (by kernel_rfl) (by kernel_rfl) (by kernel_rfl)
      (by rw[MakeChecks.laidMetH_plain _ _ _ (by kernel_rfl)]; exact laidMet_laidAll _ (by kernel_rfl) (by kernel_rfl))) ?_
  intro W base args ds gs before hval0 hW _ _ hL0 _
  have hL:=of_laid hL0
  have hval: ∀ (j:Nat) t v,Tryz.f10.params[j]?=some t→args[j]?=some v→Value.okWide Tryz.prog W .any base t v:=hval0
  have hW':=hW
  obtain ⟨p,q,hA0,hV,rfl,hfz,hnd⟩:=hW
  have hA:DataW.TrodAll enc Tryz.prog W 0 (fun _=>true) true Tryz.f10.params.toList args.toList ds p:=hA0
  rw[Tryz.params10]at hA hval
  obtain ⟨v0,vs0,d0,ds0,p0,q0,hargs,rfl,rfl,h0,r0⟩:=trodAll_cons hA
  obtain ⟨v1,vs1,d1,ds1,p1,q1,rfl,rfl,rfl,h1,r1⟩:=trodAll_cons r0
  obtain ⟨rfl,rfl,rfl⟩:=trodAll_nil r1
  obtain rfl:args= #[v0,v1]:=by cases args; simp_all
  obtain ⟨rfl,rfl⟩:=trodVars_none hV
  have k0:=h0
  have lt0: ∀ x∈p0,x.block<W.heap.size:=by obtain ⟨m,hm⟩:=k0; exact DataW.trod_lt m _ _ _ hm
  obtain ⟨A_0_a0,c_0_a0,xs_0_a0,l_0_1_a0,l_1_1_a0,n_0_2_a0,A_1_2_a0,c_1_2_a0,xs_1_2_a0,l_2_2_a0,n_3_2_a0,ev0,f0_0,f0_1,f0_2,f0_3,f0_4,f0_5,f0_6⟩: ∃ (A_0_a0:Option Addr) (c_0_a0:Nat) (xs_0_a0:List Int) (l_0_1_a0:List UInt8) (l_1_1_a0:List UInt8) (n_0_2_a0:Int) (A_1_2_a0:Option Addr) (c_1_2_a0:Nat) (xs_1_2_a0:List Int) (l_2_2_a0:List UInt8) (n_3_2_a0:Int),v0=.agg #[.slice A_0_a0 xs_0_a0.length c_0_a0,Str l_0_1_a0,Str l_1_1_a0,.int .i64 n_0_2_a0,.slice A_1_2_a0 xs_1_2_a0.length c_1_2_a0,Str l_2_2_a0,.int .i64 n_3_2_a0]∧Sl W [] 1 A_0_a0 xs_0_a0.length c_0_a0 (xs_0_a0.map I)∧l_0_1_a0.length≤maxLen∧l_1_1_a0.length≤maxLen∧I64 n_0_2_a0∧Sl W [] 1 A_1_2_a0 xs_1_2_a0.length c_1_2_a0 (xs_1_2_a0.map I)∧l_2_2_a0.length≤maxLen∧I64 n_3_2_a0:=by
    obtain ⟨cs,hv,_⟩:=okWide_struct Tryz.underlying66 (hval 0 66 v0 rfl rfl)
    subst hv
    obtain ⟨fuel,hf⟩:=h0
    obtain ⟨z0,z1,z2,z3,z4,z5,z6,z7,z8,z9,z10,hc,f0_0,f0_1,f0_2,f0_3,f0_4,f0_5,f0_6⟩:=rd66 (by simpa [Value.cells] using hf)
    have hc2:cs= #[.slice z0 z2.length z1,Str z3,Str z4,.int .i64 z5,.slice z6 z8.length z7,Str z9,.int .i64 z10]:=by cases cs; simp_all
    subst hc2
    exact⟨z0,z1,z2,z3,z4,z5,z6,z7,z8,z9,z10,rfl,f0_0,f0_1,f0_2,f0_3,f0_4,f0_5,f0_6⟩
  subst ev0
  have k1:=h1
  have lt1: ∀ x∈p1,x.block<W.heap.size:=by obtain ⟨m,hm⟩:=k1; exact DataW.trod_lt m _ _ _ hm
  obtain ⟨n_0_a1,A_1_a1,c_1_a1,xs_1_a1,A_2_a1,c_2_a1,xs_2_a1,l_3_a1,ev1,f1_0,f1_1,f1_2,f1_3,f1_4⟩: ∃ (n_0_a1:Int) (A_1_a1:Option Addr) (c_1_a1:Nat) (xs_1_a1:List Int) (A_2_a1:Option Addr) (c_2_a1:Nat) (xs_2_a1:List (List UInt8×List UInt8)) (l_3_a1:List UInt8),v1=.agg #[.int .i64 n_0_a1,.slice A_1_a1 xs_1_a1.length c_1_a1,.slice A_2_a1 xs_2_a1.length c_2_a1,Str l_3_a1]∧I64 n_0_a1∧Sl W [] 1 A_1_a1 xs_1_a1.length c_1_a1 (xs_1_a1.map I)∧Sl W [] 2 A_2_a1 xs_2_a1.length c_2_a1 (xs_2_a1.flatMap gLogin)∧(∀ u∈xs_2_a1,u.1.length≤9223372036854775807∧u.2.length≤9223372036854775807)∧l_3_a1.length≤maxLen:=by
    obtain ⟨cs,hv,_⟩:=okWide_struct Tryz.underlying25 (hval 1 25 v1 rfl rfl)
    subst hv
    obtain ⟨fuel,hf⟩:=h1
    obtain ⟨z0,z1,z2,z3,z4,z5,z6,z7,hc,f1_0,f1_1,f1_2,f1_3,f1_4⟩:=rd25 (by simpa [Value.cells] using hf)
    have hc2:cs= #[.int .i64 z0,.slice z1 z3.length z2,.slice z4 z6.length z5,Str z7]:=by cases cs; simp_all
    subst hc2
    exact⟨z0,z1,z2,z3,z4,z5,z6,z7,rfl,f1_0,f1_1,f1_2,f1_3,f1_4⟩
  subst ev1
  clear hA0 hval0
  refine Calls.mono (law_done (YtjehmnojfpedjaaGreatDoor.lExactClientRun (w:=W) (ms:=xs_0_a0) (hms:=f0_0) (lu:=l_0_1_a0) (hlu_n:=Nat.le_trans f0_1 (by decide)) (lw:=l_1_1_a0) (hlw_n:=Nat.le_trans f0_2 (by decide)) (ak:=n_0_2_a0) (aq:=xs_1_2_a0) (haq:=f0_4) (an:=l_2_2_a0) (han_n:=Nat.le_trans f0_5 (by decide)) (apt:=n_3_2_a0) (sx:=n_0_a1) (wt:=xs_1_a1) (hwt:=f1_1) (lg:=xs_2_a1) (hlg:=f1_2) (hlg_e:=f1_3) (to:=l_3_a1) (hto_n:=Nat.le_trans f1_4 (by decide)) (hGp:=hL.1) (hEr:=hL.2.1) (hEs:=hL.2.2.1)) rfl) fun e W' ⟨he,bel⟩=>?_
  subst he
  exact⟨_,rfl,_,_,_,[],_,[],hW',trodAll_mk1 (shut_bool Tryz.underlying4 _),(trodAll_cons_mk (Below.trod laidOut (by kernel_rfl) (of_decide_eq_true (by kernel_rfl)) k0 bel lt0) (trodAll_cons_mk (Below.trod laidOut (by kernel_rfl) (of_decide_eq_true (by kernel_rfl)) k1 bel lt1) trodAll_mk0)),rfl,bel.frame _,fun h=>by cases h⟩

theorem over:Rows.fnExactClientRunRow.holds Tryz.pinned (OpenSpec.ofChange Rows.fnExactClientRunSpec):=
  OpenClaim.holds_of_wide 10 Tryz.f10 rfl rfl rfl rfl rfl rfl rfl ⟨rfl,rfl,rfl,rfl,rfl⟩ rfl rfl rfl rfl rfl (by kernel_rfl) Tryz.func10 (by kernel_rfl)
    (of_decide_eq_true (by kernel_rfl)) (by unfold Func.isWrapper; first | (rw[if_pos (by decide+kernel)]; kernel_rfl) | (rw[if_neg (by decide+kernel)]; exact⟨rfl,rfl⟩))
    (fun os started H enc _=>lifted os started H enc)

/-- THE STATEMENT: the tied card. -/
theorem proved:Rows.FnExactClientRunCardSaid:=
  Claim7.holds_tied_plain_at .later [] [.data,.data,.data,.data,.sentinel,.sentinel,.pinned] true (true, "390495ab5bd0cd9bbe104b8d726f6979fc8121b75cf440ebbb34cd7ecab38c98") true
    over (fun _ h=>by cases h) (by kernel_rfl) (fun _ h=>by cases h) fnExactClientRun_row_tie rfl ⟨rfl,rfl⟩ (by kernel_rfl) rfl
    (fun f fn hf hfn=>by
      obtain rfl:f=10:=Option.some.inj ((show Tryz.prog.funcNamed "loop.example/proxyframes/laws.FnExactClientRun" =some 10 by kernel_rfl).symm.trans hf) |>.symm
      obtain rfl:fn=Tryz.f10:=(Option.some.inj (Tryz.func10.symm.trans hfn)).symm
      exact⟨by kernel_rfl,fun j t ht=>by
        rw[Tryz.params10]at ht
        have hm:t∈[66,25]:=by simpa using Array.mem_of_getElem? ht
        have hall:([66,25].all fun u=>!Tryz.prog.wantsStandIn u)=true:=by kernel_rfl
        exact(show Tryz.prog.wantsStandIn t=false by simpa using List.all_eq_true.1 hall t hm)⟩)
    (by kernel_rfl)
#print axioms proved
end Go.Proofs.YtjehmnojfpedjaaGreatDoor.fnExactClientRun
