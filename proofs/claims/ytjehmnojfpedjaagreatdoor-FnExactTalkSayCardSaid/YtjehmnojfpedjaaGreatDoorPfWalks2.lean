/-
  Part of the proofs over this seat: what each function of the program computes, function by function (the text is written by a program of this hand-in's own).
  Conditions: each theorem states its own.
-/
import Derived.Test.YtjehmnojfpedjaaGreatDoorPfWalks
namespace Go.Proofs.YtjehmnojfpedjaaGreatDoor
open Go.PF
set_option maxRecDepth 100000
set_option linter.unusedSimpArgs false
set_option linter.unusedVariables false

theorem rdByte {rb : Nat} {Ab : Option Addr} {cb : Nat} (bs : List Int) (sa : Nat) (sf : Bool) (w : World) (hr : w.heap[rb]? = some (.cells [.slice Ab bs.length cb, .int .i64 ((sa : Nat) : Int), .bool sf].toArray 133 (0, 0))) (hb : Sl w [rb] 1 Ab bs.length cb (bs.map I)) (hbv : sf = false → isBytes bs = true) (hsa : sa ≤ bs.length) : Does Tryz.prog 119 [pB rb] w (fun v w' => ∃ qa : Nat, ∃ qf : Bool, v = .int .i64 (byV bs (sa, sf)) ∧ (qa ≤ bs.length) ∧ ((qf = false → isBytes bs = true)) ∧ ((qa, qf) = tkS bs (sa, sf) 1) ∧ SH w w' [rb] [.blk rb 133 [.slice Ab bs.length cb, I ((qa : Nat) : Int), .bool qf]]) := by
 refine fn_enter (N := 7) Tryz.func119 rfl (by kernel_rfl) rfl rfl rfl ?_
 have hb_m : bs.length ≤ 9223372036854775807 := Nat.le_trans hb.cap hb.capMax
 have hs0 : SH w w [rb] [.blk rb 133 [.slice Ab bs.length cb, I ((sa : Nat) : Int), .bool sf]] := SH.entry1 hr
 refine sq (rg (qt rfl (asg (v := I 0) rfl) (nl (nN (sq (rg (qt rfl (mv (v := pB rb) rfl) ?_)))))))
 refine cl trivial rfl (rdTake (rb := rb) (Ab := Ab) (cb := cb) (bs := bs) (sa := sa) (sf := sf) (n := (1 : Int)) (w := _) (hr := (blk_heap hs0 0 rfl)) (hb := (hb.up hs0 (fun _ h => h) (fun _ h => .inl h))) (hbv := (by assumption)) (hsa := (by assumption)) (hn := (by omega))) ?_
 rintro _ w1 ⟨A1, c1, qa1, qf1, rfl, p1, p2, p3, hs1'⟩
 have hs1 : SH w w1 [rb] [.blk rb 133 [.slice Ab bs.length cb, I ((qa1 : Nat) : Int), .bool qf1], .own A1 ((tkL bs (sa, sf) (1 : Int).toNat).length) c1 3 1 ((tkL bs (sa, sf) (1 : Int).toNat).map I)] := SH.callK (K := [.blk rb 133 [.slice Ab bs.length cb, I ((sa : Nat) : Int), .bool sf]]) (R := []) hs0 hs1' rfl
 clear hs1'
 refine ixw1 0 sl22 rfl rfl (hs1.sl0 1 rfl) (by (simp; done)) (getm I 0 (by (simp; done))) trivial rfl (fun a1 ha1 => ?_)
 refine qt rfl (lda (v := I ((tkL bs (sa, sf) (1 : Int).toNat).getD 0 0)) (SH.refl w1 []) ha1 (fun _ h => h) rfl rfl one3) (qt rfl (asg (v := I ((tkL bs (sa, sf) (1 : Int).toNat).getD 0 0)) rfl) (nl (nN (rt (fret (v := I ((tkL bs (sa, sf) (1 : Int).toNat).getD 0 0)) (.tmp .nil) rfl ?_)))))
 have e1 : (tkL bs (sa, sf) (1 : Int).toNat).getD 0 0 = byV bs (sa, sf) := by rfl
 exact ⟨qa1, qf1, (congrArg (Value.int .i64) e1), (by assumption), (by assumption), (by assumption), (hs1.pick [0] rfl (by decide))⟩
theorem iNumber {Azs : Option Addr} {czs : Nat} (zs : List Int) (w : World) (hzs : Sl w [] 1 Azs zs.length czs (zs.map I)) (hz : ∀ x ∈ zs, 0 ≤ x ∧ x ≤ 255) (hzl : zs.length ≤ 2) : Does Tryz.prog 174 [.slice Azs zs.length czs] w (fun v w' => v = .int .i64 (ofB zs) ∧ SH w w' [] []) := by
 refine fn_enter (N := 18) Tryz.func174 rfl (by kernel_rfl) rfl rfl rfl ?_
 have hs0 : SH w w [] [] := SH.refl w []
 have hzs_m : zs.length ≤ 9223372036854775807 := Nat.le_trans hzs.cap hzs.capMax
 refine sq (rg (qt rfl (asg (v := I 0) rfl) (nl (nN (sq (rg (qt rfl (asg (v := I 0) rfl) ?_)))))))
 refine nl (nN (sq (sq (rg (qt rfl (mv (v := .slice Azs zs.length czs) rfl) (qt rfl (lnA (n := zs.length) sl22 rfl) (qt rfl (mv (v := I 0) rfl) ?_)))))))
 refine nl (nN (bl (lp (σ := Nat) (fun (k : Nat) f w' => Has f [(3, I (ofB (zs.take k))), (6, .slice Azs zs.length czs), (7, I ((zs.length : Nat) : Int)), (8, I ((k : Nat) : Int))] ∧ (k ≤ zs.length) ∧ SH w w' [] []) (fun k => zs.length - k) 0 ⟨⟨(show (I 0 : Value) = I (ofB (zs.take 0)) from congrArg (Value.int .i64) (by rfl)), rfl, rfl, rfl, trivial⟩, (by simp), hs0⟩ ?_)))
 rintro k f w1 ⟨hf, hk, hs1⟩
 obtain ⟨g1, rfl⟩ := has_upd hf
 clear hf
 refine sq (rg (qt rfl (lss (k := .i64) (a := ((k : Nat) : Int)) (b := ((zs.length : Nat) : Int)) rfl rfl) (nl (nN (sq ?_)))))
 refine cdd (p := ((k : Nat) : Int) < ((zs.length : Nat) : Int)) rfl (fun h1 => ?_) (fun h1 => ?_)
 · refine sk (nN (sq (bl (sq (rg (ixw1 k sl22 rfl rfl hzs (by (first | omega | (simp; done) | (simp; omega))) (getm I 0 (by (first | omega | (simp; done) | (simp; omega)))) trivial rfl (fun a1 ha1 => ?_)))))))
   refine qt rfl (lda (v := I (zs.getD k 0)) hs1 ha1 (fun _ h => h) rfl rfl one3) (qt rfl (asg (v := I (zs.getD k 0)) rfl) (nl (nN (rg (qt rfl (mv (v := I (ofB (zs.take k))) rfl) (qt rfl (shl8 (a := ofB (zs.take k)) rfl rfl (by (have hob := ofB_bd hz k hzl; have hgb := getD_byte hz k; have hk1 : k ≤ 1 := (by omega); omega)) (by (have hob := ofB_bd hz k hzl; have hgb := getD_byte hz k; have hk1 : k ≤ 1 := (by omega); omega))) (qt rfl (mv (v := I (zs.getD k 0)) rfl) ?_)))))))
   refine qt rfl (or8 (m := ofB (zs.take k)) (b := zs.getD k 0) rfl rfl (by (have hob := ofB_bd hz k hzl; have hgb := getD_byte hz k; have hk1 : k ≤ 1 := (by omega); omega)) (by (have hob := ofB_bd hz k hzl; have hgb := getD_byte hz k; have hk1 : k ≤ 1 := (by omega); omega)) (by (have hob := ofB_bd hz k hzl; have hgb := getD_byte hz k; have hk1 : k ≤ 1 := (by omega); omega)) (by (have hob := ofB_bd hz k hzl; have hgb := getD_byte hz k; have hk1 : k ≤ 1 := (by omega); omega))) (qt rfl (asg (v := I ((ofB (zs.take k)) * 256 + (zs.getD k 0))) rfl) (nl (bN (nN (rg (qt rfl (add (a := ((k : Nat) : Int)) (b := 1) rfl rfl (by (exact ⟨by omega, by omega⟩))) (qt rfl (mv (v := I (((k : Nat) : Int) + 1)) rfl) ?_)))))))
   refine nl (nN ?_)
   refine ⟨(k + 1), ⟨⟨(show (I ((ofB (zs.take k)) * 256 + (zs.getD k 0)) : Value) = I (ofB (zs.take (k + 1))) from congrArg (Value.int .i64) (by rw [ofB_take (by omega)]; omega)), rfl, rfl, rfl, trivial⟩, (by omega), hs1⟩, ?_⟩
   omega
 · refine ex (tE (tE (bE ?_)))
   refine nN (sq (rg (qt rfl (mv (v := I (ofB (zs.take k))) rfl) (qt rfl (asg (v := I (ofB (zs.take k))) rfl) (nl (nN (rt ?_)))))))
   refine fret (v := I (ofB (zs.take k))) (.tmp .nil) rfl ?_
   have e1 : ofB (zs.take k) = ofB zs := by rw [List.take_of_length_le (by omega)]
   exact ⟨(congrArg (Value.int .i64) e1), hs1⟩
theorem rdNumber {rb : Nat} {Ab : Option Addr} {cb : Nat} (bs : List Int) (sa : Nat) (sf : Bool) (n : Int) (w : World) (hr : w.heap[rb]? = some (.cells [.slice Ab bs.length cb, .int .i64 ((sa : Nat) : Int), .bool sf].toArray 133 (0, 0))) (hb : Sl w [rb] 1 Ab bs.length cb (bs.map I)) (hbv : sf = false → isBytes bs = true) (hsa : sa ≤ bs.length) (hn : 0 ≤ n ∧ n ≤ 2) : Does Tryz.prog 153 [pB rb, I n] w (fun v w' => ∃ qa : Nat, ∃ qf : Bool, v = .int .i64 (ofB (tkL bs (sa, sf) n.toNat)) ∧ (qa ≤ bs.length) ∧ ((qf = false → isBytes bs = true)) ∧ ((qa, qf) = tkS bs (sa, sf) n.toNat) ∧ SH w w' [rb] [.blk rb 133 [.slice Ab bs.length cb, I ((qa : Nat) : Int), .bool qf]]) := by
 refine fn_enter (N := 9) Tryz.func153 rfl (by kernel_rfl) rfl rfl rfl ?_
 have hb_m : bs.length ≤ 9223372036854775807 := Nat.le_trans hb.cap hb.capMax
 have hs0 : SH w w [rb] [.blk rb 133 [.slice Ab bs.length cb, I ((sa : Nat) : Int), .bool sf]] := SH.entry1 hr
 refine sq (rg (qt rfl (asg (v := I 0) rfl) (nl (nN (sq (rg (qt rfl (mv (v := pB rb) rfl) ?_)))))))
 refine qt rfl (mv (v := I n) rfl) (cl trivial rfl (rdTake (rb := rb) (Ab := Ab) (cb := cb) (bs := bs) (sa := sa) (sf := sf) (n := n) (w := _) (hr := (blk_heap hs0 0 rfl)) (hb := (hb.up hs0 (fun _ h => h) (fun _ h => .inl h))) (hbv := (by assumption)) (hsa := (by assumption)) (hn := (by omega))) ?_)
 rintro _ w1 ⟨A1, c1, qa1, qf1, rfl, p1, p2, p3, hs1'⟩
 have hs1 : SH w w1 [rb] [.blk rb 133 [.slice Ab bs.length cb, I ((qa1 : Nat) : Int), .bool qf1], .own A1 ((tkL bs (sa, sf) n.toNat).length) c1 3 1 ((tkL bs (sa, sf) n.toNat).map I)] := SH.callK (K := [.blk rb 133 [.slice Ab bs.length cb, I ((sa : Nat) : Int), .bool sf]]) (R := []) hs0 hs1' rfl
 clear hs1'
 refine cl trivial rfl (iNumber (Azs := A1) (czs := c1) (zs := tkL bs (sa, sf) n.toNat) (w := _) (hzs := (hs1.sl0 1 rfl)) (hz := (by exact tkL_byte hbv)) (hzl := (by (simp; omega)))) ?_
 rintro _ w2 ⟨rfl, hs2'⟩
 have hs2 := hs1.call0 hs2'
 clear hs2'
 refine qt rfl (asg (v := I (ofB (tkL bs (sa, sf) n.toNat))) rfl) (nl (nN (rt (fret (v := I (ofB (tkL bs (sa, sf) n.toNat))) (.tmp .nil) rfl ?_))))
 exact ⟨qa1, qf1, rfl, (by assumption), (by assumption), (by assumption), (hs2.pick [0] rfl (by decide))⟩
theorem rdExpect {rb : Nat} {Ab : Option Addr} {cb : Nat} (bs : List Int) (sa : Nat) (sf : Bool) {Aws : Option Addr} {cws : Nat} (ws : List Int) (w : World) (hr : w.heap[rb]? = some (.cells [.slice Ab bs.length cb, .int .i64 ((sa : Nat) : Int), .bool sf].toArray 133 (0, 0))) (hb : Sl w [rb] 1 Ab bs.length cb (bs.map I)) (hbv : sf = false → isBytes bs = true) (hsa : sa ≤ bs.length) (hws : Sl w [rb] 1 Aws ws.length cws (ws.map I)) (hw : ws.length ≤ 65535) : Does Tryz.prog 118 [pB rb, .slice Aws ws.length cws] w (fun v w' => ∃ qa : Nat, ∃ qf : Bool, v = .tuple #[] ∧ (qa ≤ bs.length) ∧ ((qf = false → isBytes bs = true)) ∧ ((qa, qf) = exS bs (sa, sf) ws) ∧ SH w w' [rb] [.blk rb 133 [.slice Ab bs.length cb, I ((qa : Nat) : Int), .bool qf]]) := by
 refine fn_enter (N := 14) Tryz.func118 rfl (by kernel_rfl) rfl rfl rfl ?_
 have hb_m : bs.length ≤ 9223372036854775807 := Nat.le_trans hb.cap hb.capMax
 have hs0 : SH w w [rb] [.blk rb 133 [.slice Ab bs.length cb, I ((sa : Nat) : Int), .bool sf]] := SH.entry1 hr
 have hws_m : ws.length ≤ 9223372036854775807 := Nat.le_trans hws.cap hws.capMax
 refine sq (rg (qt rfl (mv (v := pB rb) rfl) (qt rfl (mv (v := .slice Aws ws.length cws) rfl) (qt rfl (lnA (n := ws.length) sl22 rfl) (cl trivial rfl (rdTake (rb := rb) (Ab := Ab) (cb := cb) (bs := bs) (sa := sa) (sf := sf) (n := ((ws.length : Nat) : Int)) (w := _) (hr := (blk_heap hs0 0 rfl)) (hb := (hb.up hs0 (fun _ h => h) (fun _ h => .inl h))) (hbv := (by assumption)) (hsa := (by assumption)) (hn := (by omega))) ?_)))))
 rintro _ w1 ⟨A1, c1, qa1, qf1, rfl, p1, p2, p3, hs1'⟩
 have hs1 : SH w w1 [rb] [.blk rb 133 [.slice Ab bs.length cb, I ((qa1 : Nat) : Int), .bool qf1], .own A1 ((tkL bs (sa, sf) ((ws.length : Nat) : Int).toNat).length) c1 3 1 ((tkL bs (sa, sf) ((ws.length : Nat) : Int).toNat).map I)] := SH.callK (K := [.blk rb 133 [.slice Ab bs.length cb, I ((sa : Nat) : Int), .bool sf]]) (R := []) hs0 hs1' rfl
 clear hs1'
 refine qt rfl (mv (v := .slice Aws ws.length cws) rfl) (cl trivial rfl (slEqual (Axs := A1) (cxs := c1) (xs := tkL bs (sa, sf) ((ws.length : Nat) : Int).toNat) (Abs := Aws) (cbs := cws) (bs := ws) (w := _) (hxs := (hs1.sl0 1 rfl)) (hbs := (hws.up hs1 (fun _ h => h) (by simp)))) ?_)
 rintro _ w2 ⟨rfl, hs2'⟩
 have hs2 := hs1.call0 hs2'
 clear hs2'
 refine qt rfl (nd (p := (tkL bs (sa, sf) ((ws.length : Nat) : Int).toNat) = ws) rfl) (nl (nN ?_))
 refine cdd (p := ¬ ((tkL bs (sa, sf) ((ws.length : Nat) : Int).toNat) = ws)) rfl (fun h1 => ?_) (fun h1 => ?_)
 · refine rg (qt rfl (mv (v := pB rb) rfl) (qt rfl (nc rfl) (qt rfl (fa 2 fo133_2 rfl) (st (v := .bool true) hs2 0 rfl rfl rfl rfl rfl one4 trivial (fun w3 (hs3 : SH w w3 [rb] [.own A1 ((tkL bs (sa, sf) ((ws.length : Nat) : Int).toNat).length) c1 3 1 ((tkL bs (sa, sf) ((ws.length : Nat) : Int).toNat).map I), .blk rb 133 [.slice Ab bs.length cb, I ((qa1 : Nat) : Int), .bool true]]) => ?_)))))
   refine nl (fnor (v := .tuple #[]) .nil rfl ?_)
   exact ⟨qa1, true, rfl, (by assumption), (by (simp_all; done)), (by exact exS_no (by assumption) (by simpa using h1)), (hs3.pick [1] rfl (by decide))⟩
 · refine sk (fnor (v := .tuple #[]) .nil rfl ?_)
   exact ⟨qa1, qf1, rfl, (by assumption), (by assumption), (by exact exS_y (by assumption) (by simpa using h1)), (hs2.pick [0] rfl (by decide))⟩
theorem iBytesText {Azs : Option Addr} {czs : Nat} (zs : List Int) (w : World) (hzs : Sl w [] 1 Azs zs.length czs (zs.map I)) (hz : ∀ x ∈ zs, 0 ≤ x ∧ x ≤ 255) (hzl : zs.length ≤ 65535) : Does Tryz.prog 173 [.slice Azs zs.length czs] w (fun v w' => v = Str (bT zs) ∧ SH w w' [] []) := by
 refine fn_enter (N := 24) Tryz.func173 rfl (by kernel_rfl) rfl rfl rfl ?_
 have hs0 : SH w w [] [] := SH.refl w []
 have hzs_m : zs.length ≤ 9223372036854775807 := Nat.le_trans hzs.cap hzs.capMax
 refine sq (rg (qt rfl (asg (v := Str []) rfl) (nl (nN (sq (rg (qt rfl (mv (v := .slice Azs zs.length czs) rfl) ?_)))))))
 refine qt rfl (lnA (n := zs.length) sl22 rfl) (mkm (g := U) (z := 0) (n := zs.length) hs0 sl39 rfl rfl rfl (by omega) (by unfold maxLen; omega) trivial rfl (fun b1 w1 (hs1 : SH w w1 [] [.own (some ⟨b1, 0, none⟩) ((List.replicate zs.length (0 : UInt8)).length) zs.length 5 1 ((List.replicate zs.length (0 : UInt8)).map U)]) => ?_))
 refine qt rfl (asg (v := sb b1 ((List.replicate zs.length (0 : UInt8)).length) zs.length) rfl) (nl (nN (sq (sq (rg (qt rfl (mv (v := .slice Azs zs.length czs) rfl) (qt rfl (lnA (n := zs.length) sl22 rfl) ?_)))))))
 refine qt rfl (mv (v := I 0) rfl) (nl (nN (bl ?_)))
 have e1 : List.replicate zs.length (0 : UInt8) = (bT zs).take 0 ++ List.replicate (zs.length - 0) (0 : UInt8) := by simp
 have e2 : (List.replicate zs.length (0 : UInt8)).length = zs.length := by (simp; done)
 refine lp (σ := Nat) (fun (k : Nat) f w' => Has f [(3, sb b1 zs.length zs.length), (9, .slice Azs zs.length czs), (10, I ((zs.length : Nat) : Int)), (11, I ((k : Nat) : Int))] ∧ (k ≤ zs.length) ∧ SH w w' [] [.own (some ⟨b1, 0, none⟩) zs.length zs.length 5 1 (((bT zs).take k ++ List.replicate (zs.length - k) (0 : UInt8)).map U)]) (fun k => zs.length - k) 0 ⟨⟨(show (.slice (some ⟨b1, 0, none⟩) ((List.replicate zs.length (0 : UInt8)).length) zs.length : Value) = .slice (some ⟨b1, 0, none⟩) zs.length zs.length from slv rfl e2 rfl), rfl, rfl, rfl, trivial⟩, (by simp), (hs1.cast (lc (own_eq (g := U) rfl e2 rfl e1) rfl))⟩ ?_
 rintro k f w2 ⟨hf, hk, hs2⟩
 obtain ⟨g1, rfl⟩ := has_upd hf
 clear hf
 refine sq (rg (qt rfl (lss (k := .i64) (a := ((k : Nat) : Int)) (b := ((zs.length : Nat) : Int)) rfl rfl) (nl (nN (sq ?_)))))
 refine cdd (p := ((k : Nat) : Int) < ((zs.length : Nat) : Int)) rfl (fun h1 => ?_) (fun h1 => ?_)
 · refine sk (nN (sq (bl (sq (rg (qt rfl (mv (v := I ((k : Nat) : Int)) rfl) (ixw1 k sl22 rfl rfl hzs (by omega) (getm I 0 (by omega)) trivial rfl (fun a1 ha1 => ?_))))))))
   refine qt rfl (lda (v := I (zs.getD k 0)) hs2 ha1 (fun _ h => h) rfl rfl one3) (qt rfl (asg (v := I ((k : Nat) : Int)) rfl) (qt rfl (asg (v := I (zs.getD k 0)) rfl) (nl (nN (rg (qt rfl (mv (v := sb b1 zs.length zs.length) rfl) (qt rfl (mv (v := I ((k : Nat) : Int)) rfl) ?_)))))))
   refine qt rfl (mv (v := I (zs.getD k 0)) rfl) (qt rfl (cvB (a := zs.getD k 0) (s := .i64) ti3 ti5 rfl (by have hgb := getD_byte hz k; omega) (by have hgb := getD_byte hz k; omega)) (qt rfl (ixo k sl39 rfl rfl (by omega)) (stomn (g := U) (ys := (bT zs).take k ++ List.replicate (zs.length - k) (0 : UInt8)) (o := k) (u := (UInt8.ofNat (zs.getD k 0).toNat)) hs2 0 rfl rfl rfl rfl (by omega) rfl one5 trivial (fun w3 (hs3 : SH w w3 [] [.own (some ⟨b1, 0, none⟩) zs.length zs.length 5 1 ((((bT zs).take k ++ List.replicate (zs.length - k) (0 : UInt8)).set k (UInt8.ofNat (zs.getD k 0).toNat)).map U)]) => ?_))))
   refine nl (bN (nN (rg (qt rfl (add (a := ((k : Nat) : Int)) (b := 1) rfl rfl (by exact ⟨by omega, by omega⟩)) (qt rfl (mv (v := I (((k : Nat) : Int) + 1)) rfl) (nl (nN ?_)))))))
   have e3 : ((bT zs).take k ++ List.replicate (zs.length - k) (0 : UInt8)).set k (UInt8.ofNat (zs.getD k 0).toNat) = (bT zs).take (k + 1) ++ List.replicate (zs.length - (k + 1)) (0 : UInt8) := by exact bT_set (by omega)
   refine ⟨(k + 1), ⟨⟨rfl, rfl, rfl, rfl, trivial⟩, (by omega), (hs3.cast (lc (own_eq (g := U) rfl rfl rfl e3) rfl))⟩, ?_⟩
   omega
 · refine ex (tE (tE (bE ?_)))
   refine nN (sq (rg (qt rfl (mv (v := sb b1 zs.length zs.length) rfl) ?_)))
   have e4 : zs.length = ((bT zs).take k ++ List.replicate (zs.length - k) (0 : UInt8)).length := by (simp; omega)
   have hs4 : SH w w2 [] [.own (some ⟨b1, 0, none⟩) (((bT zs).take k ++ List.replicate (zs.length - k) (0 : UInt8)).length) zs.length 5 1 (((bT zs).take k ++ List.replicate (zs.length - k) (0 : UInt8)).map U)] := (hs2.cast (lc (own_eq (g := U) rfl e4 rfl rfl) rfl))
   refine re 22 (v := sb b1 (((bT zs).take k ++ List.replicate (zs.length - k) (0 : UInt8)).length) zs.length) (show (sb b1 zs.length zs.length : Value) = sb b1 (((bT zs).take k ++ List.replicate (zs.length - k) (0 : UInt8)).length) zs.length from slv rfl e4 rfl) (qt rfl (cvS (l := (bT zs).take k ++ List.replicate (zs.length - k) (0 : UInt8)) us39 ti5 st9 rfl (hs4.sl0 0 rfl)) (qt rfl (asg (v := Str ((bT zs).take k ++ List.replicate (zs.length - k) (0 : UInt8))) rfl) (nl (nN (rt (fret (v := Str ((bT zs).take k ++ List.replicate (zs.length - k) (0 : UInt8))) (.tmp .nil) rfl ?_))))))
   have e5 : (bT zs).take k ++ List.replicate (zs.length - k) (0 : UInt8) = bT zs := by have : k = zs.length := (by omega); subst this; rw [bT_all (Nat.le_refl _)]; simp
   exact ⟨(congrArg (Str) e5), (hs4.pick [] rfl (by decide))⟩
theorem rdText {rb : Nat} {Ab : Option Addr} {cb : Nat} (bs : List Int) (sa : Nat) (sf : Bool) (w : World) (hr : w.heap[rb]? = some (.cells [.slice Ab bs.length cb, .int .i64 ((sa : Nat) : Int), .bool sf].toArray 133 (0, 0))) (hb : Sl w [rb] 1 Ab bs.length cb (bs.map I)) (hbv : sf = false → isBytes bs = true) (hsa : sa ≤ bs.length) : Does Tryz.prog 150 [pB rb] w (fun v w' => ∃ qa : Nat, ∃ qf : Bool, v = Str (txV bs (sa, sf)) ∧ (qa ≤ bs.length) ∧ ((qf = false → isBytes bs = true)) ∧ ((qa, qf) = txS bs (sa, sf)) ∧ SH w w' [rb] [.blk rb 133 [.slice Ab bs.length cb, I ((qa : Nat) : Int), .bool qf]]) := by
 refine fn_enter (N := 8) Tryz.func150 rfl (by kernel_rfl) rfl rfl rfl ?_
 have hb_m : bs.length ≤ 9223372036854775807 := Nat.le_trans hb.cap hb.capMax
 have hs0 : SH w w [rb] [.blk rb 133 [.slice Ab bs.length cb, I ((sa : Nat) : Int), .bool sf]] := SH.entry1 hr
 refine sq (rg (qt rfl (asg (v := Str []) rfl) (nl (nN (sq (rg (qt rfl (mv (v := pB rb) rfl) ?_)))))))
 refine qt rfl (mv (v := pB rb) rfl) (cl trivial rfl (rdByte (rb := rb) (Ab := Ab) (cb := cb) (bs := bs) (sa := sa) (sf := sf) (w := _) (hr := (blk_heap hs0 0 rfl)) (hb := (hb.up hs0 (fun _ h => h) (fun _ h => .inl h))) (hbv := (by assumption)) (hsa := (by (first | assumption | omega | (simp; done))))) ?_)
 rintro _ w1 ⟨qa1, qf1, rfl, p1, p2, p3, hs1'⟩
 have hs1 : SH w w1 [rb] [.blk rb 133 [.slice Ab bs.length cb, I ((qa1 : Nat) : Int), .bool qf1]] := SH.callK (K := [.blk rb 133 [.slice Ab bs.length cb, I ((sa : Nat) : Int), .bool sf]]) (R := []) hs0 hs1' rfl
 clear hs1'
 refine cl trivial rfl (rdTake (rb := rb) (Ab := Ab) (cb := cb) (bs := bs) (sa := qa1) (sf := qf1) (n := byV bs (sa, sf)) (w := _) (hr := (blk_heap hs1 0 rfl)) (hb := (hb.up hs1 (fun _ h => h) (fun _ h => .inl h))) (hbv := (by assumption)) (hsa := (by (first | assumption | omega | (simp; done)))) (hn := (by (have hbd := byV_bd (bs := bs) (s := (sa, sf)) hbv; first | omega | assumption | (simp; done) | (simp; omega))))) ?_
 rintro _ w2 ⟨A1, c1, qa2, qf2, rfl, p4, p5, p6, hs2'⟩
 have hs2 : SH w w2 [rb] [.blk rb 133 [.slice Ab bs.length cb, I ((qa2 : Nat) : Int), .bool qf2], .own A1 ((tkL bs (qa1, qf1) (byV bs (sa, sf)).toNat).length) c1 3 1 ((tkL bs (qa1, qf1) (byV bs (sa, sf)).toNat).map I)] := SH.callK (K := [.blk rb 133 [.slice Ab bs.length cb, I ((qa1 : Nat) : Int), .bool qf1]]) (R := []) hs1 hs2' rfl
 clear hs2'
 refine cl trivial rfl (iBytesText (Azs := A1) (czs := c1) (zs := tkL bs (qa1, qf1) (byV bs (sa, sf)).toNat) (w := _) (hzs := (hs2.sl0 1 rfl)) (hz := (by exact tkL_byte (by assumption))) (hzl := (by have hbd := byV_bd (bs := bs) (s := (sa, sf)) hbv; simp; omega))) ?_
 rintro _ w3 ⟨rfl, hs3'⟩
 have hs3 := hs2.call0 hs3'
 clear hs3'
 refine qt rfl (asg (v := Str (bT (tkL bs (qa1, qf1) (byV bs (sa, sf)).toNat))) rfl) (nl (nN (rt (fret (v := Str (bT (tkL bs (qa1, qf1) (byV bs (sa, sf)).toNat))) (.tmp .nil) rfl ?_))))
 have e1 : bT (tkL bs (qa1, qf1) (byV bs (sa, sf)).toNat) = txV bs (sa, sf) := by (unfold txV; rw [← p3])
 exact ⟨qa2, qf2, (congrArg (Str) e1), (by assumption), (by assumption), (by (unfold txS; rw [← p3]; exact p6)), (hs3.pick [0] rfl (by decide))⟩
theorem rdAddress {rb : Nat} {Ab : Option Addr} {cb : Nat} (bs : List Int) (sa : Nat) (sf : Bool) (w : World) (hr : w.heap[rb]? = some (.cells [.slice Ab bs.length cb, .int .i64 ((sa : Nat) : Int), .bool sf].toArray 133 (0, 0))) (hb : Sl w [rb] 1 Ab bs.length cb (bs.map I)) (hbv : sf = false → isBytes bs = true) (hsa : sa ≤ bs.length) : Does Tryz.prog 120 [pB rb] w (fun v w' => ∃ Ar : Option Addr, ∃ cr : Nat, ∃ qa : Nat, ∃ qf : Bool, v = .agg #[.int .i64 ((adR bs (sa, sf)).1.1), .slice Ar ((adR bs (sa, sf)).1.2.1).length cr, Str ((adR bs (sa, sf)).1.2.2.1), .int .i64 ((adR bs (sa, sf)).1.2.2.2)] ∧ (qa ≤ bs.length) ∧ ((qf = false → isBytes bs = true)) ∧ ((qa, qf) = (adR bs (sa, sf)).2) ∧ SH w w' [rb] [.blk rb 133 [.slice Ab bs.length cb, I ((qa : Nat) : Int), .bool qf], .own Ar (((adR bs (sa, sf)).1.2.1).length) cr 3 1 (((adR bs (sa, sf)).1.2.1).map I)]) := by
 refine fn_enter (N := 29) Tryz.func120 rfl (by kernel_rfl) rfl rfl rfl ?_
 have hb_m : bs.length ≤ 9223372036854775807 := Nat.le_trans hb.cap hb.capMax
 have hs0 : SH w w [rb] [.blk rb 133 [.slice Ab bs.length cb, I ((sa : Nat) : Int), .bool sf]] := SH.entry1 hr
 refine sq (rg (al (v := .agg #[I 0, ns, Str [], I 0]) (cs := [I 0, ns, Str [], I 0]) hs0 tz43 rfl trivial rfl (fun b1 w1 (hs1 : SH w w1 [rb] [.blk rb 133 [.slice Ab bs.length cb, I ((sa : Nat) : Int), .bool sf], .blk b1 43 [I 0, ns, Str [], I 0]]) => ?_)))
 refine nl (nN (sq (rg (al (v := .agg #[I 0, ns, Str [], I 0]) (cs := [I 0, ns, Str [], I 0]) hs1 tz43 rfl trivial rfl (fun b2 w2 (hs2 : SH w w2 [rb] [.blk rb 133 [.slice Ab bs.length cb, I ((sa : Nat) : Int), .bool sf], .blk b1 43 [I 0, ns, Str [], I 0], .blk b2 43 [I 0, ns, Str [], I 0]]) => ?_)))))
 refine nl (nN (sq (rg (qt rfl (mv (v := pB rb) rfl) (cl trivial rfl (rdByte (rb := rb) (Ab := Ab) (cb := cb) (bs := bs) (sa := sa) (sf := sf) (w := _) (hr := (blk_heap hs2 0 rfl)) (hb := (hb.up hs2 (fun _ h => h) (fun _ h => .inl h))) (hbv := (by assumption)) (hsa := (by (first | assumption | omega | (simp; done))))) ?_)))))
 rintro _ w3 ⟨qa1, qf1, rfl, p1, p2, p3, hs3'⟩
 have hs3 : SH w w3 [rb] [.blk b1 43 [I 0, ns, Str [], I 0], .blk b2 43 [I 0, ns, Str [], I 0], .blk rb 133 [.slice Ab bs.length cb, I ((qa1 : Nat) : Int), .bool qf1]] := SH.callK (K := [.blk rb 133 [.slice Ab bs.length cb, I ((sa : Nat) : Int), .bool sf]]) (R := [.blk b1 43 [I 0, ns, Str [], I 0], .blk b2 43 [I 0, ns, Str [], I 0]]) hs2 hs3' rfl
 clear hs3'
 refine qt rfl (fa 0 fo43_0 rfl) (st (v := I (byV bs (sa, sf))) hs3 1 rfl rfl rfl rfl rfl one3 trivial (fun w4 (hs4 : SH w w4 [rb] [.blk b1 43 [I 0, ns, Str [], I 0], .blk rb 133 [.slice Ab bs.length cb, I ((qa1 : Nat) : Int), .bool qf1], .blk b2 43 [I (byV bs (sa, sf)), ns, Str [], I 0]]) => ?_))
 refine nl (nN (sq (sq (rg (qt rfl (fa 0 fo43_0 rfl) (qt rfl (ld (v := I (byV bs (sa, sf))) hs4 2 rfl rfl rfl one3) (nl ?_)))))))
 refine nN (bl (sq (rg (qt rfl (eqi (k := .i64) (a := byV bs (sa, sf)) (b := 1) rfl rfl) (qt rfl (asg (v := .bool (decide ((byV bs (sa, sf)) = 1))) rfl) (nl (nN ?_)))))))
 refine cdd (p := (byV bs (sa, sf)) = 1) rfl (fun h1 => ?_) (fun h1 => ?_)
 · refine rg (qt rfl (mv (v := pB rb) rfl) (cl trivial rfl (rdTake (rb := rb) (Ab := Ab) (cb := cb) (bs := bs) (sa := qa1) (sf := qf1) (n := (4 : Int)) (w := _) (hr := (blk_heap hs4 1 rfl)) (hb := (hb.up hs4 (fun _ h => h) (fun _ h => .inl h))) (hbv := (by assumption)) (hsa := (by (first | assumption | omega | (simp; done)))) (hn := (by (first | omega | assumption | (simp; done) | (simp; omega))))) ?_))
   rintro _ w5 ⟨A1, c1, qa2, qf2, rfl, p4, p5, p6, hs5'⟩
   have hs5 : SH w w5 [rb] [.blk b1 43 [I 0, ns, Str [], I 0], .blk b2 43 [I (byV bs (sa, sf)), ns, Str [], I 0], .blk rb 133 [.slice Ab bs.length cb, I ((qa2 : Nat) : Int), .bool qf2], .own A1 ((tkL bs (qa1, qf1) (4 : Int).toNat).length) c1 3 1 ((tkL bs (qa1, qf1) (4 : Int).toNat).map I)] := SH.callK (K := [.blk rb 133 [.slice Ab bs.length cb, I ((qa1 : Nat) : Int), .bool qf1]]) (R := [.blk b1 43 [I 0, ns, Str [], I 0], .blk b2 43 [I (byV bs (sa, sf)), ns, Str [], I 0]]) (hs4.pick [1, 0, 2] rfl (by decide)) hs5' rfl
   clear hs5'
   refine qt rfl (fa 1 fo43_1 rfl) (st (v := .slice A1 ((tkL bs (qa1, qf1) (4 : Int).toNat).length) c1) hs5 1 rfl rfl rfl rfl rfl one22 trivial (fun w6 (hs6 : SH w w6 [rb] [.blk b1 43 [I 0, ns, Str [], I 0], .blk rb 133 [.slice Ab bs.length cb, I ((qa2 : Nat) : Int), .bool qf2], .own A1 ((tkL bs (qa1, qf1) (4 : Int).toNat).length) c1 3 1 ((tkL bs (qa1, qf1) (4 : Int).toNat).map I), .blk b2 43 [I (byV bs (sa, sf)), .slice A1 ((tkL bs (qa1, qf1) (4 : Int).toNat).length) c1, Str [], I 0]]) => ?_))
   refine nl (bN (nN (sq (rg (qt rfl (mv (v := pB rb) rfl) (cl trivial rfl (rdNumber (rb := rb) (Ab := Ab) (cb := cb) (bs := bs) (sa := qa2) (sf := qf2) (n := (2 : Int)) (w := _) (hr := (blk_heap hs6 1 rfl)) (hb := (hb.up hs6 (fun _ h => h) (fun _ h => .inl h))) (hbv := (by assumption)) (hsa := (by (first | assumption | omega | (simp; done)))) (hn := (by (first | omega | assumption | (simp; done) | (simp; omega))))) ?_))))))
   rintro _ w7 ⟨qa3, qf3, rfl, p7, p8, p9, hs7'⟩
   have hs7 : SH w w7 [rb] [.blk b1 43 [I 0, ns, Str [], I 0], .own A1 ((tkL bs (qa1, qf1) (4 : Int).toNat).length) c1 3 1 ((tkL bs (qa1, qf1) (4 : Int).toNat).map I), .blk b2 43 [I (byV bs (sa, sf)), .slice A1 ((tkL bs (qa1, qf1) (4 : Int).toNat).length) c1, Str [], I 0], .blk rb 133 [.slice Ab bs.length cb, I ((qa3 : Nat) : Int), .bool qf3]] := SH.callK (K := [.blk rb 133 [.slice Ab bs.length cb, I ((qa2 : Nat) : Int), .bool qf2]]) (R := [.blk b1 43 [I 0, ns, Str [], I 0], .own A1 ((tkL bs (qa1, qf1) (4 : Int).toNat).length) c1 3 1 ((tkL bs (qa1, qf1) (4 : Int).toNat).map I), .blk b2 43 [I (byV bs (sa, sf)), .slice A1 ((tkL bs (qa1, qf1) (4 : Int).toNat).length) c1, Str [], I 0]]) (hs6.pick [1, 0, 2, 3] rfl (by decide)) hs7' rfl
   clear hs7'
   refine qt rfl (fa 3 fo43_3 rfl) (st (v := I (ofB (tkL bs (qa2, qf2) (2 : Int).toNat))) hs7 2 rfl rfl rfl rfl rfl one3 trivial (fun w8 (hs8 : SH w w8 [rb] [.blk b1 43 [I 0, ns, Str [], I 0], .own A1 ((tkL bs (qa1, qf1) (4 : Int).toNat).length) c1 3 1 ((tkL bs (qa1, qf1) (4 : Int).toNat).map I), .blk rb 133 [.slice Ab bs.length cb, I ((qa3 : Nat) : Int), .bool qf3], .blk b2 43 [I (byV bs (sa, sf)), .slice A1 ((tkL bs (qa1, qf1) (4 : Int).toNat).length) c1, Str [], I (ofB (tkL bs (qa2, qf2) (2 : Int).toNat))]]) => ?_))
   refine nl (nN (sq (sq (rg (qt rfl (ldg (vs := [I (byV bs (sa, sf)), .slice A1 ((tkL bs (qa1, qf1) (4 : Int).toNat).length) c1, Str [], I (ofB (tkL bs (qa2, qf2) (2 : Int).toNat))]) hs8 3 rfl rfl rfl rfl ag43) (cl trivial rfl (iAddressValid (ak := byV bs (sa, sf)) (Aaq := A1) (caq := c1) (aq := tkL bs (qa1, qf1) (4 : Int).toNat) (an := []) (apt := ofB (tkL bs (qa2, qf2) (2 : Int).toNat)) (w := _) (haq := (hs8.sl0 1 rfl)) (han_n := (by (first | omega | (simp; done) | (simp; omega))))) ?_))))))
   rintro _ w9 ⟨rfl, hs9'⟩
   have hs9 := hs8.call0 hs9'
   clear hs9'
   refine qt rfl (nt (b := addrOk (byV bs (sa, sf)) (tkL bs (qa1, qf1) (4 : Int).toNat) [] (ofB (tkL bs (qa2, qf2) (2 : Int).toNat))) rfl) (nl (nN ?_))
   refine cd (b := !(addrOk (byV bs (sa, sf)) (tkL bs (qa1, qf1) (4 : Int).toNat) [] (ofB (tkL bs (qa2, qf2) (2 : Int).toNat)))) rfl (fun h2 => ?_) (fun h2 => ?_)
   · have h3 : (addrOk (byV bs (sa, sf)) (tkL bs (qa1, qf1) (4 : Int).toNat) [] (ofB (tkL bs (qa2, qf2) (2 : Int).toNat))) = false := by simpa using h2
     refine rg (qt rfl (mv (v := pB rb) rfl) (qt rfl (nc rfl) (qt rfl (fa 2 fo133_2 rfl) (st (v := .bool true) hs9 2 rfl rfl rfl rfl rfl one4 trivial (fun w10 (hs10 : SH w w10 [rb] [.blk b1 43 [I 0, ns, Str [], I 0], .own A1 ((tkL bs (qa1, qf1) (4 : Int).toNat).length) c1 3 1 ((tkL bs (qa1, qf1) (4 : Int).toNat).map I), .blk b2 43 [I (byV bs (sa, sf)), .slice A1 ((tkL bs (qa1, qf1) (4 : Int).toNat).length) c1, Str [], I (ofB (tkL bs (qa2, qf2) (2 : Int).toNat))], .blk rb 133 [.slice Ab bs.length cb, I ((qa3 : Nat) : Int), .bool true]]) => ?_)))))
     refine nl (nN (sq (rg (qt rfl (ldg (vs := [I (byV bs (sa, sf)), .slice A1 ((tkL bs (qa1, qf1) (4 : Int).toNat).length) c1, Str [], I (ofB (tkL bs (qa2, qf2) (2 : Int).toNat))]) hs10 2 rfl rfl rfl rfl ag43) (stg (vs := [I (byV bs (sa, sf)), .slice A1 ((tkL bs (qa1, qf1) (4 : Int).toNat).length) c1, Str [], I (ofB (tkL bs (qa2, qf2) (2 : Int).toNat))]) hs10 0 rfl rfl rfl rfl rfl rfl rfl ag43 trivial (fun w11 (hs11 : SH w w11 [rb] [.own A1 ((tkL bs (qa1, qf1) (4 : Int).toNat).length) c1 3 1 ((tkL bs (qa1, qf1) (4 : Int).toNat).map I), .blk b2 43 [I (byV bs (sa, sf)), .slice A1 ((tkL bs (qa1, qf1) (4 : Int).toNat).length) c1, Str [], I (ofB (tkL bs (qa2, qf2) (2 : Int).toNat))], .blk rb 133 [.slice Ab bs.length cb, I ((qa3 : Nat) : Int), .bool true], .blk b1 43 [I (byV bs (sa, sf)), .slice A1 ((tkL bs (qa1, qf1) (4 : Int).toNat).length) c1, Str [], I (ofB (tkL bs (qa2, qf2) (2 : Int).toNat))]]) => ?_))))))
     refine nl (nN (rt (fret (v := .agg #[I (byV bs (sa, sf)), .slice A1 ((tkL bs (qa1, qf1) (4 : Int).toNat).length) c1, Str [], I (ofB (tkL bs (qa2, qf2) (2 : Int).toNat))]) (resC hs11 3 rfl rfl ag43 rfl .nil) rfl ?_)))
     have e1 : byV bs (sa, sf) = (adR bs (sa, sf)).1.1 := by (rw [adR_1 p3 (by assumption) p6 p9]; done)
     have e2 : tkL bs (qa1, qf1) (4 : Int).toNat = (adR bs (sa, sf)).1.2.1 := by (rw [adR_1 p3 (by assumption) p6 p9]; rfl)
     have e3 : (tkL bs (qa1, qf1) (4 : Int).toNat).length = ((adR bs (sa, sf)).1.2.1).length := by exact congrArg List.length e2
     have e4 : [] = (adR bs (sa, sf)).1.2.2.1 := by (rw [adR_1 p3 (by assumption) p6 p9]; done)
     have e5 : ofB (tkL bs (qa2, qf2) (2 : Int).toNat) = (adR bs (sa, sf)).1.2.2.2 := by (rw [adR_1 p3 (by assumption) p6 p9]; rfl)
     exact ⟨A1, c1, qa3, true, (aggv (lc (congrArg (Value.int .i64) e1) (lc (slv rfl e3 rfl) (lc (congrArg (Str) e4) (lc (congrArg (Value.int .i64) e5) rfl))))), (by assumption), (by (simp_all; done)), (by (rw [adR_1 p3 (by assumption) p6 p9]; exact (if_neg (by simp_all)).symm)), ((hs11.pick [2, 0] rfl (by decide)).cast (lc rfl (lc (own_eq (g := I) rfl e3 rfl e2) rfl)))⟩
   · have h4 : (addrOk (byV bs (sa, sf)) (tkL bs (qa1, qf1) (4 : Int).toNat) [] (ofB (tkL bs (qa2, qf2) (2 : Int).toNat))) = true := by simpa using h2
     refine sk (nN (sq (rg (qt rfl (ldg (vs := [I (byV bs (sa, sf)), .slice A1 ((tkL bs (qa1, qf1) (4 : Int).toNat).length) c1, Str [], I (ofB (tkL bs (qa2, qf2) (2 : Int).toNat))]) hs9 3 rfl rfl rfl rfl ag43) (stg (vs := [I (byV bs (sa, sf)), .slice A1 ((tkL bs (qa1, qf1) (4 : Int).toNat).length) c1, Str [], I (ofB (tkL bs (qa2, qf2) (2 : Int).toNat))]) hs9 0 rfl rfl rfl rfl rfl rfl rfl ag43 trivial (fun w12 (hs12 : SH w w12 [rb] [.own A1 ((tkL bs (qa1, qf1) (4 : Int).toNat).length) c1 3 1 ((tkL bs (qa1, qf1) (4 : Int).toNat).map I), .blk rb 133 [.slice Ab bs.length cb, I ((qa3 : Nat) : Int), .bool qf3], .blk b2 43 [I (byV bs (sa, sf)), .slice A1 ((tkL bs (qa1, qf1) (4 : Int).toNat).length) c1, Str [], I (ofB (tkL bs (qa2, qf2) (2 : Int).toNat))], .blk b1 43 [I (byV bs (sa, sf)), .slice A1 ((tkL bs (qa1, qf1) (4 : Int).toNat).length) c1, Str [], I (ofB (tkL bs (qa2, qf2) (2 : Int).toNat))]]) => ?_))))))
     refine nl (nN (rt (fret (v := .agg #[I (byV bs (sa, sf)), .slice A1 ((tkL bs (qa1, qf1) (4 : Int).toNat).length) c1, Str [], I (ofB (tkL bs (qa2, qf2) (2 : Int).toNat))]) (resC hs12 3 rfl rfl ag43 rfl .nil) rfl ?_)))
     have e6 : byV bs (sa, sf) = (adR bs (sa, sf)).1.1 := by (rw [adR_1 p3 (by assumption) p6 p9]; done)
     have e7 : tkL bs (qa1, qf1) (4 : Int).toNat = (adR bs (sa, sf)).1.2.1 := by (rw [adR_1 p3 (by assumption) p6 p9]; rfl)
     have e8 : (tkL bs (qa1, qf1) (4 : Int).toNat).length = ((adR bs (sa, sf)).1.2.1).length := by exact congrArg List.length e7
     have e9 : [] = (adR bs (sa, sf)).1.2.2.1 := by (rw [adR_1 p3 (by assumption) p6 p9]; done)
     have e10 : ofB (tkL bs (qa2, qf2) (2 : Int).toNat) = (adR bs (sa, sf)).1.2.2.2 := by (rw [adR_1 p3 (by assumption) p6 p9]; rfl)
     exact ⟨A1, c1, qa3, qf3, (aggv (lc (congrArg (Value.int .i64) e6) (lc (slv rfl e8 rfl) (lc (congrArg (Str) e9) (lc (congrArg (Value.int .i64) e10) rfl))))), (by assumption), (by assumption), (by (rw [adR_1 p3 (by assumption) p6 p9]; exact (if_pos (by assumption)).symm)), ((hs12.pick [1, 0] rfl (by decide)).cast (lc rfl (lc (own_eq (g := I) rfl e8 rfl e7) rfl)))⟩
 · refine sq (rg (qt rfl (eqi (k := .i64) (a := byV bs (sa, sf)) (b := 3) rfl rfl) (qt rfl (asg (v := .bool (decide ((byV bs (sa, sf)) = 3))) rfl) (nl (nN ?_)))))
   refine cdd (p := (byV bs (sa, sf)) = 3) rfl (fun h5 => ?_) (fun h5 => ?_)
   · refine rg (qt rfl (mv (v := pB rb) rfl) (cl trivial rfl (rdText (rb := rb) (Ab := Ab) (cb := cb) (bs := bs) (sa := qa1) (sf := qf1) (w := _) (hr := (blk_heap hs4 1 rfl)) (hb := (hb.up hs4 (fun _ h => h) (fun _ h => .inl h))) (hbv := (by assumption)) (hsa := (by (first | assumption | omega | (simp; done))))) ?_))
     rintro _ w13 ⟨qa4, qf4, rfl, p10, p11, p12, hs13'⟩
     have hs13 : SH w w13 [rb] [.blk b1 43 [I 0, ns, Str [], I 0], .blk b2 43 [I (byV bs (sa, sf)), ns, Str [], I 0], .blk rb 133 [.slice Ab bs.length cb, I ((qa4 : Nat) : Int), .bool qf4]] := SH.callK (K := [.blk rb 133 [.slice Ab bs.length cb, I ((qa1 : Nat) : Int), .bool qf1]]) (R := [.blk b1 43 [I 0, ns, Str [], I 0], .blk b2 43 [I (byV bs (sa, sf)), ns, Str [], I 0]]) (hs4.pick [1, 0, 2] rfl (by decide)) hs13' rfl
     clear hs13'
     refine qt rfl (fa 2 fo43_2 rfl) (st (v := Str (txV bs (qa1, qf1))) hs13 1 rfl rfl rfl rfl rfl one9 trivial (fun w14 (hs14 : SH w w14 [rb] [.blk b1 43 [I 0, ns, Str [], I 0], .blk rb 133 [.slice Ab bs.length cb, I ((qa4 : Nat) : Int), .bool qf4], .blk b2 43 [I (byV bs (sa, sf)), ns, Str (txV bs (qa1, qf1)), I 0]]) => ?_))
     refine nl (bN (nN (sq (rg (qt rfl (mv (v := pB rb) rfl) (cl trivial rfl (rdNumber (rb := rb) (Ab := Ab) (cb := cb) (bs := bs) (sa := qa4) (sf := qf4) (n := (2 : Int)) (w := _) (hr := (blk_heap hs14 1 rfl)) (hb := (hb.up hs14 (fun _ h => h) (fun _ h => .inl h))) (hbv := (by assumption)) (hsa := (by (first | assumption | omega | (simp; done)))) (hn := (by (first | omega | assumption | (simp; done) | (simp; omega))))) ?_))))))
     rintro _ w15 ⟨qa5, qf5, rfl, p13, p14, p15, hs15'⟩
     have hs15 : SH w w15 [rb] [.blk b1 43 [I 0, ns, Str [], I 0], .blk b2 43 [I (byV bs (sa, sf)), ns, Str (txV bs (qa1, qf1)), I 0], .blk rb 133 [.slice Ab bs.length cb, I ((qa5 : Nat) : Int), .bool qf5]] := SH.callK (K := [.blk rb 133 [.slice Ab bs.length cb, I ((qa4 : Nat) : Int), .bool qf4]]) (R := [.blk b1 43 [I 0, ns, Str [], I 0], .blk b2 43 [I (byV bs (sa, sf)), ns, Str (txV bs (qa1, qf1)), I 0]]) (hs14.pick [1, 0, 2] rfl (by decide)) hs15' rfl
     clear hs15'
     refine qt rfl (fa 3 fo43_3 rfl) (st (v := I (ofB (tkL bs (qa4, qf4) (2 : Int).toNat))) hs15 1 rfl rfl rfl rfl rfl one3 trivial (fun w16 (hs16 : SH w w16 [rb] [.blk b1 43 [I 0, ns, Str [], I 0], .blk rb 133 [.slice Ab bs.length cb, I ((qa5 : Nat) : Int), .bool qf5], .blk b2 43 [I (byV bs (sa, sf)), ns, Str (txV bs (qa1, qf1)), I (ofB (tkL bs (qa4, qf4) (2 : Int).toNat))]]) => ?_))
     refine nl (nN (sq (sq (rg (qt rfl (ldg (vs := [I (byV bs (sa, sf)), ns, Str (txV bs (qa1, qf1)), I (ofB (tkL bs (qa4, qf4) (2 : Int).toNat))]) hs16 2 rfl rfl rfl rfl ag43) (cl trivial rfl (iAddressValid (ak := byV bs (sa, sf)) (Aaq := none) (caq := 0) (aq := ([] : List Int)) (an := txV bs (qa1, qf1)) (apt := ofB (tkL bs (qa4, qf4) (2 : Int).toNat)) (w := _) (haq := Sl.nil) (han_n := (by (have htv := txV_len (bs := bs) (s := (qa1, qf1)) p2; first | omega | (simp; done) | (simp; omega))))) ?_))))))
     rintro _ w17 ⟨rfl, hs17'⟩
     have hs17 := hs16.call0 hs17'
     clear hs17'
     refine qt rfl (nt (b := addrOk (byV bs (sa, sf)) ([] : List Int) (txV bs (qa1, qf1)) (ofB (tkL bs (qa4, qf4) (2 : Int).toNat))) rfl) (nl (nN ?_))
     refine cd (b := !(addrOk (byV bs (sa, sf)) ([] : List Int) (txV bs (qa1, qf1)) (ofB (tkL bs (qa4, qf4) (2 : Int).toNat)))) rfl (fun h6 => ?_) (fun h6 => ?_)
     · have h7 : (addrOk (byV bs (sa, sf)) ([] : List Int) (txV bs (qa1, qf1)) (ofB (tkL bs (qa4, qf4) (2 : Int).toNat))) = false := by simpa using h6
       refine rg (qt rfl (mv (v := pB rb) rfl) (qt rfl (nc rfl) (qt rfl (fa 2 fo133_2 rfl) (st (v := .bool true) hs17 1 rfl rfl rfl rfl rfl one4 trivial (fun w18 (hs18 : SH w w18 [rb] [.blk b1 43 [I 0, ns, Str [], I 0], .blk b2 43 [I (byV bs (sa, sf)), ns, Str (txV bs (qa1, qf1)), I (ofB (tkL bs (qa4, qf4) (2 : Int).toNat))], .blk rb 133 [.slice Ab bs.length cb, I ((qa5 : Nat) : Int), .bool true]]) => ?_)))))
       refine nl (nN (sq (rg (qt rfl (ldg (vs := [I (byV bs (sa, sf)), ns, Str (txV bs (qa1, qf1)), I (ofB (tkL bs (qa4, qf4) (2 : Int).toNat))]) hs18 1 rfl rfl rfl rfl ag43) (stg (vs := [I (byV bs (sa, sf)), ns, Str (txV bs (qa1, qf1)), I (ofB (tkL bs (qa4, qf4) (2 : Int).toNat))]) hs18 0 rfl rfl rfl rfl rfl rfl rfl ag43 trivial (fun w19 (hs19 : SH w w19 [rb] [.blk b2 43 [I (byV bs (sa, sf)), ns, Str (txV bs (qa1, qf1)), I (ofB (tkL bs (qa4, qf4) (2 : Int).toNat))], .blk rb 133 [.slice Ab bs.length cb, I ((qa5 : Nat) : Int), .bool true], .blk b1 43 [I (byV bs (sa, sf)), ns, Str (txV bs (qa1, qf1)), I (ofB (tkL bs (qa4, qf4) (2 : Int).toNat))]]) => ?_))))))
       refine nl (nN (rt (fret (v := .agg #[I (byV bs (sa, sf)), ns, Str (txV bs (qa1, qf1)), I (ofB (tkL bs (qa4, qf4) (2 : Int).toNat))]) (resC hs19 2 rfl rfl ag43 rfl .nil) rfl ?_)))
       have hs20 : SH w w19 [rb] [.blk b2 43 [I (byV bs (sa, sf)), ns, Str (txV bs (qa1, qf1)), I (ofB (tkL bs (qa4, qf4) (2 : Int).toNat))], .blk rb 133 [.slice Ab bs.length cb, I ((qa5 : Nat) : Int), .bool true], .blk b1 43 [I (byV bs (sa, sf)), ns, Str (txV bs (qa1, qf1)), I (ofB (tkL bs (qa4, qf4) (2 : Int).toNat))], .own none (([] : List Int).length) 0 3 1 (([] : List Int).map I)] := SH.nils (by intro i hi; simp at hi; subst hi; exact nilItem) hs19
       have e11 : byV bs (sa, sf) = (adR bs (sa, sf)).1.1 := by (rw [adR_3 p3 (by assumption) (by assumption) p12 p15]; done)
       have e12 : ([] : List Int) = (adR bs (sa, sf)).1.2.1 := by (rw [adR_3 p3 (by assumption) (by assumption) p12 p15]; done)
       have e13 : ([] : List Int).length = ((adR bs (sa, sf)).1.2.1).length := by exact congrArg List.length e12
       have e14 : txV bs (qa1, qf1) = (adR bs (sa, sf)).1.2.2.1 := by (rw [adR_3 p3 (by assumption) (by assumption) p12 p15]; done)
       have e15 : ofB (tkL bs (qa4, qf4) (2 : Int).toNat) = (adR bs (sa, sf)).1.2.2.2 := by (rw [adR_3 p3 (by assumption) (by assumption) p12 p15]; rfl)
       exact ⟨none, 0, qa5, true, (aggv (lc (congrArg (Value.int .i64) e11) (lc (slv rfl e13 rfl) (lc (congrArg (Str) e14) (lc (congrArg (Value.int .i64) e15) rfl))))), (by assumption), (by (simp_all; done)), (by (rw [adR_3 p3 (by assumption) (by assumption) p12 p15]; exact (if_neg (by simp_all)).symm)), ((hs20.pick [1, 3] rfl (by decide)).cast (lc rfl (lc (own_eq (g := I) rfl e13 rfl e12) rfl)))⟩
     · have h8 : (addrOk (byV bs (sa, sf)) ([] : List Int) (txV bs (qa1, qf1)) (ofB (tkL bs (qa4, qf4) (2 : Int).toNat))) = true := by simpa using h6
       refine sk (nN (sq (rg (qt rfl (ldg (vs := [I (byV bs (sa, sf)), ns, Str (txV bs (qa1, qf1)), I (ofB (tkL bs (qa4, qf4) (2 : Int).toNat))]) hs17 2 rfl rfl rfl rfl ag43) (stg (vs := [I (byV bs (sa, sf)), ns, Str (txV bs (qa1, qf1)), I (ofB (tkL bs (qa4, qf4) (2 : Int).toNat))]) hs17 0 rfl rfl rfl rfl rfl rfl rfl ag43 trivial (fun w20 (hs21 : SH w w20 [rb] [.blk rb 133 [.slice Ab bs.length cb, I ((qa5 : Nat) : Int), .bool qf5], .blk b2 43 [I (byV bs (sa, sf)), ns, Str (txV bs (qa1, qf1)), I (ofB (tkL bs (qa4, qf4) (2 : Int).toNat))], .blk b1 43 [I (byV bs (sa, sf)), ns, Str (txV bs (qa1, qf1)), I (ofB (tkL bs (qa4, qf4) (2 : Int).toNat))]]) => ?_))))))
       refine nl (nN (rt (fret (v := .agg #[I (byV bs (sa, sf)), ns, Str (txV bs (qa1, qf1)), I (ofB (tkL bs (qa4, qf4) (2 : Int).toNat))]) (resC hs21 2 rfl rfl ag43 rfl .nil) rfl ?_)))
       have hs22 : SH w w20 [rb] [.blk rb 133 [.slice Ab bs.length cb, I ((qa5 : Nat) : Int), .bool qf5], .blk b2 43 [I (byV bs (sa, sf)), ns, Str (txV bs (qa1, qf1)), I (ofB (tkL bs (qa4, qf4) (2 : Int).toNat))], .blk b1 43 [I (byV bs (sa, sf)), ns, Str (txV bs (qa1, qf1)), I (ofB (tkL bs (qa4, qf4) (2 : Int).toNat))], .own none (([] : List Int).length) 0 3 1 (([] : List Int).map I)] := SH.nils (by intro i hi; simp at hi; subst hi; exact nilItem) hs21
       have e16 : byV bs (sa, sf) = (adR bs (sa, sf)).1.1 := by (rw [adR_3 p3 (by assumption) (by assumption) p12 p15]; done)
       have e17 : ([] : List Int) = (adR bs (sa, sf)).1.2.1 := by (rw [adR_3 p3 (by assumption) (by assumption) p12 p15]; done)
       have e18 : ([] : List Int).length = ((adR bs (sa, sf)).1.2.1).length := by exact congrArg List.length e17
       have e19 : txV bs (qa1, qf1) = (adR bs (sa, sf)).1.2.2.1 := by (rw [adR_3 p3 (by assumption) (by assumption) p12 p15]; done)
       have e20 : ofB (tkL bs (qa4, qf4) (2 : Int).toNat) = (adR bs (sa, sf)).1.2.2.2 := by (rw [adR_3 p3 (by assumption) (by assumption) p12 p15]; rfl)
       exact ⟨none, 0, qa5, qf5, (aggv (lc (congrArg (Value.int .i64) e16) (lc (slv rfl e18 rfl) (lc (congrArg (Str) e19) (lc (congrArg (Value.int .i64) e20) rfl))))), (by assumption), (by assumption), (by (rw [adR_3 p3 (by assumption) (by assumption) p12 p15]; exact (if_pos (by assumption)).symm)), ((hs22.pick [0, 3] rfl (by decide)).cast (lc rfl (lc (own_eq (g := I) rfl e18 rfl e17) rfl)))⟩
   · refine sk (bN (nN (sq (rg (qt rfl (mv (v := pB rb) rfl) (cl trivial rfl (rdNumber (rb := rb) (Ab := Ab) (cb := cb) (bs := bs) (sa := qa1) (sf := qf1) (n := (2 : Int)) (w := _) (hr := (blk_heap hs4 1 rfl)) (hb := (hb.up hs4 (fun _ h => h) (fun _ h => .inl h))) (hbv := (by assumption)) (hsa := (by (first | assumption | omega | (simp; done)))) (hn := (by (first | omega | assumption | (simp; done) | (simp; omega))))) ?_))))))
     rintro _ w21 ⟨qa6, qf6, rfl, p16, p17, p18, hs23'⟩
     have hs23 : SH w w21 [rb] [.blk b1 43 [I 0, ns, Str [], I 0], .blk b2 43 [I (byV bs (sa, sf)), ns, Str [], I 0], .blk rb 133 [.slice Ab bs.length cb, I ((qa6 : Nat) : Int), .bool qf6]] := SH.callK (K := [.blk rb 133 [.slice Ab bs.length cb, I ((qa1 : Nat) : Int), .bool qf1]]) (R := [.blk b1 43 [I 0, ns, Str [], I 0], .blk b2 43 [I (byV bs (sa, sf)), ns, Str [], I 0]]) (hs4.pick [1, 0, 2] rfl (by decide)) hs23' rfl
     clear hs23'
     refine qt rfl (fa 3 fo43_3 rfl) (st (v := I (ofB (tkL bs (qa1, qf1) (2 : Int).toNat))) hs23 1 rfl rfl rfl rfl rfl one3 trivial (fun w22 (hs24 : SH w w22 [rb] [.blk b1 43 [I 0, ns, Str [], I 0], .blk rb 133 [.slice Ab bs.length cb, I ((qa6 : Nat) : Int), .bool qf6], .blk b2 43 [I (byV bs (sa, sf)), ns, Str [], I (ofB (tkL bs (qa1, qf1) (2 : Int).toNat))]]) => ?_))
     refine nl (nN (sq (sq (rg (qt rfl (ldg (vs := [I (byV bs (sa, sf)), ns, Str [], I (ofB (tkL bs (qa1, qf1) (2 : Int).toNat))]) hs24 2 rfl rfl rfl rfl ag43) (cl trivial rfl (iAddressValid (ak := byV bs (sa, sf)) (Aaq := none) (caq := 0) (aq := ([] : List Int)) (an := []) (apt := ofB (tkL bs (qa1, qf1) (2 : Int).toNat)) (w := _) (haq := Sl.nil) (han_n := (by (first | omega | (simp; done) | (simp; omega))))) ?_))))))
     rintro _ w23 ⟨rfl, hs25'⟩
     have hs25 := hs24.call0 hs25'
     clear hs25'
     refine qt rfl (nt (b := addrOk (byV bs (sa, sf)) ([] : List Int) [] (ofB (tkL bs (qa1, qf1) (2 : Int).toNat))) rfl) (nl (nN ?_))
     refine cd (b := !(addrOk (byV bs (sa, sf)) ([] : List Int) [] (ofB (tkL bs (qa1, qf1) (2 : Int).toNat)))) rfl (fun h9 => ?_) (fun h9 => ?_)
     · have h10 : (addrOk (byV bs (sa, sf)) ([] : List Int) [] (ofB (tkL bs (qa1, qf1) (2 : Int).toNat))) = false := by simpa using h9
       refine rg (qt rfl (mv (v := pB rb) rfl) (qt rfl (nc rfl) (qt rfl (fa 2 fo133_2 rfl) (st (v := .bool true) hs25 1 rfl rfl rfl rfl rfl one4 trivial (fun w24 (hs26 : SH w w24 [rb] [.blk b1 43 [I 0, ns, Str [], I 0], .blk b2 43 [I (byV bs (sa, sf)), ns, Str [], I (ofB (tkL bs (qa1, qf1) (2 : Int).toNat))], .blk rb 133 [.slice Ab bs.length cb, I ((qa6 : Nat) : Int), .bool true]]) => ?_)))))
       refine nl (nN (sq (rg (qt rfl (ldg (vs := [I (byV bs (sa, sf)), ns, Str [], I (ofB (tkL bs (qa1, qf1) (2 : Int).toNat))]) hs26 1 rfl rfl rfl rfl ag43) (stg (vs := [I (byV bs (sa, sf)), ns, Str [], I (ofB (tkL bs (qa1, qf1) (2 : Int).toNat))]) hs26 0 rfl rfl rfl rfl rfl rfl rfl ag43 trivial (fun w25 (hs27 : SH w w25 [rb] [.blk b2 43 [I (byV bs (sa, sf)), ns, Str [], I (ofB (tkL bs (qa1, qf1) (2 : Int).toNat))], .blk rb 133 [.slice Ab bs.length cb, I ((qa6 : Nat) : Int), .bool true], .blk b1 43 [I (byV bs (sa, sf)), ns, Str [], I (ofB (tkL bs (qa1, qf1) (2 : Int).toNat))]]) => ?_))))))
       refine nl (nN (rt (fret (v := .agg #[I (byV bs (sa, sf)), ns, Str [], I (ofB (tkL bs (qa1, qf1) (2 : Int).toNat))]) (resC hs27 2 rfl rfl ag43 rfl .nil) rfl ?_)))
       have hs28 : SH w w25 [rb] [.blk b2 43 [I (byV bs (sa, sf)), ns, Str [], I (ofB (tkL bs (qa1, qf1) (2 : Int).toNat))], .blk rb 133 [.slice Ab bs.length cb, I ((qa6 : Nat) : Int), .bool true], .blk b1 43 [I (byV bs (sa, sf)), ns, Str [], I (ofB (tkL bs (qa1, qf1) (2 : Int).toNat))], .own none (([] : List Int).length) 0 3 1 (([] : List Int).map I)] := SH.nils (by intro i hi; simp at hi; subst hi; exact nilItem) hs27
       have e21 : byV bs (sa, sf) = (adR bs (sa, sf)).1.1 := by (rw [adR_0 p3 (by assumption) (by assumption) p18]; done)
       have e22 : ([] : List Int) = (adR bs (sa, sf)).1.2.1 := by (rw [adR_0 p3 (by assumption) (by assumption) p18]; done)
       have e23 : ([] : List Int).length = ((adR bs (sa, sf)).1.2.1).length := by exact congrArg List.length e22
       have e24 : [] = (adR bs (sa, sf)).1.2.2.1 := by (rw [adR_0 p3 (by assumption) (by assumption) p18]; done)
       have e25 : ofB (tkL bs (qa1, qf1) (2 : Int).toNat) = (adR bs (sa, sf)).1.2.2.2 := by (rw [adR_0 p3 (by assumption) (by assumption) p18]; rfl)
       exact ⟨none, 0, qa6, true, (aggv (lc (congrArg (Value.int .i64) e21) (lc (slv rfl e23 rfl) (lc (congrArg (Str) e24) (lc (congrArg (Value.int .i64) e25) rfl))))), (by assumption), (by (simp_all; done)), (by (rw [adR_0 p3 (by assumption) (by assumption) p18]; exact (if_neg (by simp_all)).symm)), ((hs28.pick [1, 3] rfl (by decide)).cast (lc rfl (lc (own_eq (g := I) rfl e23 rfl e22) rfl)))⟩
     · have h11 : (addrOk (byV bs (sa, sf)) ([] : List Int) [] (ofB (tkL bs (qa1, qf1) (2 : Int).toNat))) = true := by simpa using h9
       refine sk (nN (sq (rg (qt rfl (ldg (vs := [I (byV bs (sa, sf)), ns, Str [], I (ofB (tkL bs (qa1, qf1) (2 : Int).toNat))]) hs25 2 rfl rfl rfl rfl ag43) (stg (vs := [I (byV bs (sa, sf)), ns, Str [], I (ofB (tkL bs (qa1, qf1) (2 : Int).toNat))]) hs25 0 rfl rfl rfl rfl rfl rfl rfl ag43 trivial (fun w26 (hs29 : SH w w26 [rb] [.blk rb 133 [.slice Ab bs.length cb, I ((qa6 : Nat) : Int), .bool qf6], .blk b2 43 [I (byV bs (sa, sf)), ns, Str [], I (ofB (tkL bs (qa1, qf1) (2 : Int).toNat))], .blk b1 43 [I (byV bs (sa, sf)), ns, Str [], I (ofB (tkL bs (qa1, qf1) (2 : Int).toNat))]]) => ?_))))))
       refine nl (nN (rt (fret (v := .agg #[I (byV bs (sa, sf)), ns, Str [], I (ofB (tkL bs (qa1, qf1) (2 : Int).toNat))]) (resC hs29 2 rfl rfl ag43 rfl .nil) rfl ?_)))
       have hs30 : SH w w26 [rb] [.blk rb 133 [.slice Ab bs.length cb, I ((qa6 : Nat) : Int), .bool qf6], .blk b2 43 [I (byV bs (sa, sf)), ns, Str [], I (ofB (tkL bs (qa1, qf1) (2 : Int).toNat))], .blk b1 43 [I (byV bs (sa, sf)), ns, Str [], I (ofB (tkL bs (qa1, qf1) (2 : Int).toNat))], .own none (([] : List Int).length) 0 3 1 (([] : List Int).map I)] := SH.nils (by intro i hi; simp at hi; subst hi; exact nilItem) hs29
       have e26 : byV bs (sa, sf) = (adR bs (sa, sf)).1.1 := by (rw [adR_0 p3 (by assumption) (by assumption) p18]; done)
       have e27 : ([] : List Int) = (adR bs (sa, sf)).1.2.1 := by (rw [adR_0 p3 (by assumption) (by assumption) p18]; done)
       have e28 : ([] : List Int).length = ((adR bs (sa, sf)).1.2.1).length := by exact congrArg List.length e27
       have e29 : [] = (adR bs (sa, sf)).1.2.2.1 := by (rw [adR_0 p3 (by assumption) (by assumption) p18]; done)
       have e30 : ofB (tkL bs (qa1, qf1) (2 : Int).toNat) = (adR bs (sa, sf)).1.2.2.2 := by (rw [adR_0 p3 (by assumption) (by assumption) p18]; rfl)
       exact ⟨none, 0, qa6, qf6, (aggv (lc (congrArg (Value.int .i64) e26) (lc (slv rfl e28 rfl) (lc (congrArg (Str) e29) (lc (congrArg (Value.int .i64) e30) rfl))))), (by assumption), (by assumption), (by (rw [adR_0 p3 (by assumption) (by assumption) p18]; exact (if_pos (by assumption)).symm)), ((hs30.pick [0, 3] rfl (by decide)).cast (lc rfl (lc (own_eq (g := I) rfl e28 rfl e27) rfl)))⟩
theorem iHelloFrom {Abs : Option Addr} {cbs : Nat} (bs : List Int) (w : World) (hbs : Sl w [] 1 Abs bs.length cbs (bs.map I)) : Does Tryz.prog 106 [.slice Abs bs.length cbs] w (fun v w' => ∃ Ar : Option Addr, ∃ cr : Nat, v = .tuple #[.slice Ar ((helloFrom bs).1).length cr, .int .i64 ((helloFrom bs).2.1), .bool ((helloFrom bs).2.2)] ∧ SH w w' [] [.own Ar (((helloFrom bs).1).length) cr 3 1 (((helloFrom bs).1).map I)]) := by
 refine fn_enter (N := 30) Tryz.func106 rfl (by kernel_rfl) rfl rfl rfl ?_
 have hs0 : SH w w [] [] := SH.refl w []
 have hbs_m : bs.length ≤ 9223372036854775807 := Nat.le_trans hbs.cap hbs.capMax
 refine sq (rg (qt rfl (asg (v := ns) rfl) (qt rfl (asg (v := I 0) rfl) (qt rfl (asg (v := .bool false) rfl) (nl (nN (sq ?_)))))))
 refine rg (qt rfl (mv (v := .slice Abs bs.length cbs) rfl) (cl trivial rfl (newReader (Abs := Abs) (cbs := cbs) (bs := bs) (w := _) (hbs := (hbs.up0 hs0))) ?_))
 rintro _ w1 ⟨g1, rfl, hs1'⟩
 have hs1 := hs0.call0 hs1'
 clear hs1'
 refine qt rfl (asg (v := pB g1) rfl) (nl (nN (sq (rg (qt rfl (mv (v := pB g1) rfl) (bsk hs1 sl22 [I 5] [I 5] trivial rfl (fun b1 w2 (hs2 : SH w w2 [] [.blk g1 133 [.slice Abs bs.length cbs, I 0, .bool (!isBytes bs)], oI b1 ([5] : List Int) 1 3]) => ?_)))))))
 refine cl trivial rfl (rdExpect (rb := g1) (Ab := Abs) (cb := cbs) (bs := bs) (sa := 0) (sf := (!isBytes bs)) (Aws := (some ⟨b1, 0, none⟩)) (cws := 1) (ws := ([5] : List Int)) (w := _) (hr := (blk_heap hs2 0 rfl)) (hb := (hbs.up hs2 (by simp) (fun k h => .inr (hs2.lo1 0 rfl k h)))) (hbv := (by (simp; done))) (hsa := (by (first | assumption | omega | (simp; done)))) (hws := (hs2.sl 1 rfl (by intro k hk; simp at hk; subst hk; exact ⟨_, memi 0 rfl, rfl⟩))) (hw := (by (first | omega | assumption | (simp; done) | (simp; omega))))) ?_
 rintro _ w3 ⟨qa1, qf1, rfl, p1, p2, p3, hs3'⟩
 have hs3 : SH w w3 [] [oI b1 ([5] : List Int) 1 3, .blk g1 133 [.slice Abs bs.length cbs, I ((qa1 : Nat) : Int), .bool qf1]] := SH.callK (K := [.blk g1 133 [.slice Abs bs.length cbs, I 0, .bool (!isBytes bs)]]) (R := [oI b1 ([5] : List Int) 1 3]) hs2 hs3' rfl
 clear hs3'
 refine nl (nN (sq (rg (qt rfl (mv (v := pB g1) rfl) (qt rfl (mv (v := pB g1) rfl) (cl trivial rfl (rdByte (rb := g1) (Ab := Abs) (cb := cbs) (bs := bs) (sa := qa1) (sf := qf1) (w := _) (hr := (blk_heap hs3 1 rfl)) (hb := (hbs.up hs3 (by simp) (fun k h => .inr (hs3.lo1 1 rfl k h)))) (hbv := (by assumption)) (hsa := (by (first | assumption | omega | (simp; done))))) ?_))))))
 rintro _ w4 ⟨qa2, qf2, rfl, p4, p5, p6, hs4'⟩
 have hs4 : SH w w4 [] [oI b1 ([5] : List Int) 1 3, .blk g1 133 [.slice Abs bs.length cbs, I ((qa2 : Nat) : Int), .bool qf2]] := SH.callK (K := [.blk g1 133 [.slice Abs bs.length cbs, I ((qa1 : Nat) : Int), .bool qf1]]) (R := [oI b1 ([5] : List Int) 1 3]) (hs3.pick [1, 0] rfl (by decide)) hs4' rfl
 clear hs4'
 refine cl trivial rfl (rdTake (rb := g1) (Ab := Abs) (cb := cbs) (bs := bs) (sa := qa2) (sf := qf2) (n := byV bs (qa1, qf1)) (w := _) (hr := (blk_heap hs4 1 rfl)) (hb := (hbs.up hs4 (by simp) (fun k h => .inr (hs4.lo1 1 rfl k h)))) (hbv := (by assumption)) (hsa := (by (first | assumption | omega | (simp; done)))) (hn := (by (have hb1 := byV_bd (bs := bs) (s := (qa1, qf1)) p2; first | omega | assumption | (simp; done) | (simp; omega))))) ?_
 rintro _ w5 ⟨A1, c1, qa3, qf3, rfl, p7, p8, p9, hs5'⟩
 have hs5 : SH w w5 [] [oI b1 ([5] : List Int) 1 3, .blk g1 133 [.slice Abs bs.length cbs, I ((qa3 : Nat) : Int), .bool qf3], .own A1 ((tkL bs (qa2, qf2) (byV bs (qa1, qf1)).toNat).length) c1 3 1 ((tkL bs (qa2, qf2) (byV bs (qa1, qf1)).toNat).map I)] := SH.callK (K := [.blk g1 133 [.slice Abs bs.length cbs, I ((qa2 : Nat) : Int), .bool qf2]]) (R := [oI b1 ([5] : List Int) 1 3]) (hs4.pick [1, 0] rfl (by decide)) hs5' rfl
 clear hs5'
 refine qt rfl (asg (v := .slice A1 ((tkL bs (qa2, qf2) (byV bs (qa1, qf1)).toNat).length) c1) rfl) (nl (nN (sq (sq (rg (qt rfl (mv (v := pB g1) rfl) (qt rfl (nc rfl) ?_)))))))
 refine qt rfl (fa 2 fo133_2 rfl) (qt rfl (ld (v := .bool qf3) hs5 1 rfl rfl rfl one4) (qt rfl (mv (v := .bool qf3) rfl) ?_))
 refine spl (b := qf3) 20 rfl (fun h1 => ?_) (fun h1 => ?_)
 · refine gk true rfl rfl rfl rfl rfl (gk true rfl rfl rfl rfl rfl (gk true rfl rfl rfl rfl rfl (qt rfl (pt (v := .bool true) rfl rfl) (nl (nN (cdt rfl (sq ?_)))))))
   refine rg (qt rfl (asg (v := ns) rfl) (qt rfl (asg (v := I 0) rfl) (qt rfl (asg (v := .bool false) rfl) (nl (nN (rt (tR ?_)))))))
   refine fret (v := .tuple #[ns, I 0, .bool false]) (.tmp (.tmp (.tmp .nil))) rfl ?_
   have hs6 : SH w w5 [] [oI b1 ([5] : List Int) 1 3, .blk g1 133 [.slice Abs bs.length cbs, I ((qa3 : Nat) : Int), .bool qf3], .own A1 ((tkL bs (qa2, qf2) (byV bs (qa1, qf1)).toNat).length) c1 3 1 ((tkL bs (qa2, qf2) (byV bs (qa1, qf1)).toNat).map I), .own none (([] : List Int).length) 0 3 1 (([] : List Int).map I)] := SH.nils (by intro i hi; simp at hi; subst hi; exact nilItem) hs5
   have e1 : helloFrom bs = (([] : List Int), 0, false) := by (rw [hello_r p3 p6 p9]; simp [h1])
   have e2 : ([] : List Int) = (helloFrom bs).1 := by rw [e1]
   have e3 : ([] : List Int).length = ((helloFrom bs).1).length := by exact congrArg List.length e2
   have e4 : 0 = (helloFrom bs).2.1 := by rw [e1]
   have e5 : false = (helloFrom bs).2.2 := by rw [e1]
   exact ⟨none, 0, (tup3 (slv rfl e3 rfl) (congrArg (Value.int .i64) e4) (congrArg (Value.bool) e5)), ((hs6.pick [3] rfl (by decide)).cast (lc (own_eq (g := I) rfl e3 rfl e2) rfl))⟩
 · refine q ⟨_, rfl, rfl⟩ rfl rfl (mv (v := .slice A1 ((tkL bs (qa2, qf2) (byV bs (qa1, qf1)).toNat).length) c1) rfl) (cl ⟨_, rfl, rfl⟩ rfl (iAreMethods (Ams := A1) (cms := c1) (ms := tkL bs (qa2, qf2) (byV bs (qa1, qf1)).toNat) (w := _) (hms := (hs5.sl0 2 rfl))) ?_)
   rintro _ w6 ⟨rfl, hs7'⟩
   have hs7 := hs5.call0 hs7'
   clear hs7'
   refine q ⟨_, rfl, rfl⟩ rfl rfl (nt (b := methOk (tkL bs (qa2, qf2) (byV bs (qa1, qf1)).toNat)) rfl) (qt rfl (pf (v := .bool (!(methOk (tkL bs (qa2, qf2) (byV bs (qa1, qf1)).toNat)))) rfl rfl) (nl (nN ?_)))
   refine cd (b := !(methOk (tkL bs (qa2, qf2) (byV bs (qa1, qf1)).toNat))) rfl (fun h2 => ?_) (fun h2 => ?_)
   · have h3 : (methOk (tkL bs (qa2, qf2) (byV bs (qa1, qf1)).toNat)) = false := by simpa using h2
     refine sq (rg (qt rfl (asg (v := ns) rfl) (qt rfl (asg (v := I 0) rfl) (qt rfl (asg (v := .bool false) rfl) (nl (nN (rt (tR ?_))))))))
     refine fret (v := .tuple #[ns, I 0, .bool false]) (.tmp (.tmp (.tmp .nil))) rfl ?_
     have hs8 : SH w w6 [] [oI b1 ([5] : List Int) 1 3, .blk g1 133 [.slice Abs bs.length cbs, I ((qa3 : Nat) : Int), .bool qf3], .own A1 ((tkL bs (qa2, qf2) (byV bs (qa1, qf1)).toNat).length) c1 3 1 ((tkL bs (qa2, qf2) (byV bs (qa1, qf1)).toNat).map I), .own none (([] : List Int).length) 0 3 1 (([] : List Int).map I)] := SH.nils (by intro i hi; simp at hi; subst hi; exact nilItem) hs7
     have e6 : helloFrom bs = (([] : List Int), 0, false) := by (rw [hello_r p3 p6 p9]; simp [h1, h3])
     have e7 : ([] : List Int) = (helloFrom bs).1 := by rw [e6]
     have e8 : ([] : List Int).length = ((helloFrom bs).1).length := by exact congrArg List.length e7
     have e9 : 0 = (helloFrom bs).2.1 := by rw [e6]
     have e10 : false = (helloFrom bs).2.2 := by rw [e6]
     exact ⟨none, 0, (tup3 (slv rfl e8 rfl) (congrArg (Value.int .i64) e9) (congrArg (Value.bool) e10)), ((hs8.pick [3] rfl (by decide)).cast (lc (own_eq (g := I) rfl e8 rfl e7) rfl))⟩
   · have h4 : (methOk (tkL bs (qa2, qf2) (byV bs (qa1, qf1)).toNat)) = true := by simpa using h2
     refine sk (nN (sq (rq (fun w' => SH w w' [] [oI b1 ([5] : List Int) 1 3, .blk g1 133 [.slice Abs bs.length cbs, I ((qa3 : Nat) : Int), .bool qf3], .own A1 ((tkL bs (qa2, qf2) (byV bs (qa1, qf1)).toNat).length) c1 3 1 ((tkL bs (qa2, qf2) (byV bs (qa1, qf1)).toNat).map I)]) mixed (by kernel_rfl) hs7.drew (qq trivial rfl rfl (fun wq hsq => mv (v := .slice A1 ((tkL bs (qa2, qf2) (byV bs (qa1, qf1)).toNat).length) c1) rfl) (qq trivial rfl rfl (fun wq hsq => mv (v := pB g1) rfl) (qq trivial rfl rfl (fun wq hsq => nc rfl) (qq trivial rfl rfl (fun wq hsq => fa 1 fo133_1 rfl) ?_)))))))
     refine qq trivial rfl rfl (fun wq hsq => ld (v := I ((qa3 : Nat) : Int)) hsq 1 rfl rfl rfl one3) (qq trivial rfl rfl (fun wq hsq => asg (v := .slice A1 ((tkL bs (qa2, qf2) (byV bs (qa1, qf1)).toNat).length) c1) rfl) (qq trivial rfl rfl (fun wq hsq => asg (v := I ((qa3 : Nat) : Int)) rfl) (qq trivial rfl rfl (fun wq hsq => asg (v := .bool true) rfl) (qn (fun w7 hs9 => ?_)))))
     refine nN (rt (fret (v := .tuple #[.slice A1 ((tkL bs (qa2, qf2) (byV bs (qa1, qf1)).toNat).length) c1, I ((qa3 : Nat) : Int), .bool true]) (.tmp (.tmp (.tmp .nil))) rfl ?_))
     have e11 : helloFrom bs = (tkL bs (qa2, qf2) (byV bs (qa1, qf1)).toNat, ((qa3 : Nat) : Int), true) := by (rw [hello_r p3 p6 p9]; simp [h1, h4])
     have e12 : tkL bs (qa2, qf2) (byV bs (qa1, qf1)).toNat = (helloFrom bs).1 := by rw [e11]
     have e13 : (tkL bs (qa2, qf2) (byV bs (qa1, qf1)).toNat).length = ((helloFrom bs).1).length := by exact congrArg List.length e12
     have e14 : ((qa3 : Nat) : Int) = (helloFrom bs).2.1 := by rw [e11]
     have e15 : true = (helloFrom bs).2.2 := by rw [e11]
     exact ⟨A1, c1, (tup3 (slv rfl e13 rfl) (congrArg (Value.int .i64) e14) (congrArg (Value.bool) e15)), ((hs9.pick [2] rfl (by decide)).cast (lc (own_eq (g := I) rfl e13 rfl e12) rfl))⟩
theorem iLoginFrom {Abs : Option Addr} {cbs : Nat} (bs : List Int) (w : World) (hbs : Sl w [] 1 Abs bs.length cbs (bs.map I)) : Does Tryz.prog 108 [.slice Abs bs.length cbs] w (fun v w' => v = .tuple #[.agg #[Str ((loginFrom bs).1.1), Str ((loginFrom bs).1.2)], .int .i64 ((loginFrom bs).2.1), .bool ((loginFrom bs).2.2)] ∧ SH w w' [] []) := by
 refine fn_enter (N := 33) Tryz.func108 rfl (by kernel_rfl) rfl rfl rfl ?_
 have hs0 : SH w w [] [] := SH.refl w []
 have hbs_m : bs.length ≤ 9223372036854775807 := Nat.le_trans hbs.cap hbs.capMax
 refine sq (rg (al (v := .agg #[Str [], Str []]) (cs := [Str [], Str []]) hs0 tz51 rfl trivial rfl (fun b1 w1 (hs1 : SH w w1 [] [.blk b1 51 [Str [], Str []]]) => ?_)))
 refine qt rfl (asg (v := I 0) rfl) (qt rfl (asg (v := .bool false) rfl) (nl (nN (sq (rg (qt rfl (mv (v := .slice Abs bs.length cbs) rfl) (cl trivial rfl (newReader (Abs := Abs) (cbs := cbs) (bs := bs) (w := _) (hbs := (hbs.up0 hs1))) ?_)))))))
 rintro _ w2 ⟨g1, rfl, hs2'⟩
 have hs2 := hs1.call0 hs2'
 clear hs2'
 refine qt rfl (asg (v := pB g1) rfl) (nl (nN (sq (rg (qt rfl (mv (v := pB g1) rfl) (bsk hs2 sl22 [I 1] [I 1] trivial rfl (fun b2 w3 (hs3 : SH w w3 [] [.blk b1 51 [Str [], Str []], .blk g1 133 [.slice Abs bs.length cbs, I 0, .bool (!isBytes bs)], oI b2 ([1] : List Int) 1 3]) => ?_)))))))
 refine cl trivial rfl (rdExpect (rb := g1) (Ab := Abs) (cb := cbs) (bs := bs) (sa := 0) (sf := (!isBytes bs)) (Aws := (some ⟨b2, 0, none⟩)) (cws := 1) (ws := ([1] : List Int)) (w := _) (hr := (blk_heap hs3 1 rfl)) (hb := (hbs.up hs3 (by simp) (fun k h => .inr (hs3.lo1 1 rfl k h)))) (hbv := (by (simp; done))) (hsa := (by (first | assumption | omega | (simp; done)))) (hws := (hs3.sl 2 rfl (by intro k hk; simp at hk; subst hk; exact ⟨_, memi 1 rfl, rfl⟩))) (hw := (by (first | omega | assumption | (simp; done) | (simp; omega))))) ?_
 rintro _ w4 ⟨qa1, qf1, rfl, p1, p2, p3, hs4'⟩
 have hs4 : SH w w4 [] [.blk b1 51 [Str [], Str []], oI b2 ([1] : List Int) 1 3, .blk g1 133 [.slice Abs bs.length cbs, I ((qa1 : Nat) : Int), .bool qf1]] := SH.callK (K := [.blk g1 133 [.slice Abs bs.length cbs, I 0, .bool (!isBytes bs)]]) (R := [.blk b1 51 [Str [], Str []], oI b2 ([1] : List Int) 1 3]) (hs3.pick [1, 0, 2] rfl (by decide)) hs4' rfl
 clear hs4'
 refine nl (nN (sq (rg (al (v := .agg #[Str [], Str []]) (cs := [Str [], Str []]) hs4 tz51 rfl trivial rfl (fun b3 w5 (hs5 : SH w w5 [] [.blk b1 51 [Str [], Str []], oI b2 ([1] : List Int) 1 3, .blk g1 133 [.slice Abs bs.length cbs, I ((qa1 : Nat) : Int), .bool qf1], .blk b3 51 [Str [], Str []]]) => ?_)))))
 refine nl (nN (sq (rg (qt rfl (mv (v := pB g1) rfl) (cl trivial rfl (rdText (rb := g1) (Ab := Abs) (cb := cbs) (bs := bs) (sa := qa1) (sf := qf1) (w := _) (hr := (blk_heap hs5 2 rfl)) (hb := (hbs.up hs5 (by simp) (fun k h => .inr (hs5.lo1 2 rfl k h)))) (hbv := (by assumption)) (hsa := (by (first | assumption | omega | (simp; done))))) ?_)))))
 rintro _ w6 ⟨qa2, qf2, rfl, p4, p5, p6, hs6'⟩
 have hs6 : SH w w6 [] [.blk b1 51 [Str [], Str []], oI b2 ([1] : List Int) 1 3, .blk b3 51 [Str [], Str []], .blk g1 133 [.slice Abs bs.length cbs, I ((qa2 : Nat) : Int), .bool qf2]] := SH.callK (K := [.blk g1 133 [.slice Abs bs.length cbs, I ((qa1 : Nat) : Int), .bool qf1]]) (R := [.blk b1 51 [Str [], Str []], oI b2 ([1] : List Int) 1 3, .blk b3 51 [Str [], Str []]]) (hs5.pick [2, 0, 1, 3] rfl (by decide)) hs6' rfl
 clear hs6'
 refine qt rfl (fa 0 fo51_0 rfl) (st (v := Str (txV bs (qa1, qf1))) hs6 2 rfl rfl rfl rfl rfl one9 trivial (fun w7 (hs7 : SH w w7 [] [.blk b1 51 [Str [], Str []], oI b2 ([1] : List Int) 1 3, .blk g1 133 [.slice Abs bs.length cbs, I ((qa2 : Nat) : Int), .bool qf2], .blk b3 51 [Str (txV bs (qa1, qf1)), Str []]]) => ?_))
 refine nl (nN (sq (rg (qt rfl (mv (v := pB g1) rfl) (cl trivial rfl (rdText (rb := g1) (Ab := Abs) (cb := cbs) (bs := bs) (sa := qa2) (sf := qf2) (w := _) (hr := (blk_heap hs7 2 rfl)) (hb := (hbs.up hs7 (by simp) (fun k h => .inr (hs7.lo1 2 rfl k h)))) (hbv := (by assumption)) (hsa := (by (first | assumption | omega | (simp; done))))) ?_)))))
 rintro _ w8 ⟨qa3, qf3, rfl, p7, p8, p9, hs8'⟩
 have hs8 : SH w w8 [] [.blk b1 51 [Str [], Str []], oI b2 ([1] : List Int) 1 3, .blk b3 51 [Str (txV bs (qa1, qf1)), Str []], .blk g1 133 [.slice Abs bs.length cbs, I ((qa3 : Nat) : Int), .bool qf3]] := SH.callK (K := [.blk g1 133 [.slice Abs bs.length cbs, I ((qa2 : Nat) : Int), .bool qf2]]) (R := [.blk b1 51 [Str [], Str []], oI b2 ([1] : List Int) 1 3, .blk b3 51 [Str (txV bs (qa1, qf1)), Str []]]) (hs7.pick [2, 0, 1, 3] rfl (by decide)) hs8' rfl
 clear hs8'
 refine qt rfl (fa 1 fo51_1 rfl) (st (v := Str (txV bs (qa2, qf2))) hs8 2 rfl rfl rfl rfl rfl one9 trivial (fun w9 (hs9 : SH w w9 [] [.blk b1 51 [Str [], Str []], oI b2 ([1] : List Int) 1 3, .blk g1 133 [.slice Abs bs.length cbs, I ((qa3 : Nat) : Int), .bool qf3], .blk b3 51 [Str (txV bs (qa1, qf1)), Str (txV bs (qa2, qf2))]]) => ?_))
 refine nl (nN (sq (sq (rg (qt rfl (mv (v := pB g1) rfl) (qt rfl (nc rfl) (qt rfl (fa 2 fo133_2 rfl) ?_)))))))
 refine qt rfl (ld (v := .bool qf3) hs9 2 rfl rfl rfl one4) (qt rfl (mv (v := .bool qf3) rfl) ?_)
 refine spl (b := qf3) 22 rfl (fun h1 => ?_) (fun h1 => ?_)
 · refine gk true rfl rfl rfl rfl rfl (gk true rfl rfl rfl rfl rfl (gk true rfl rfl rfl rfl rfl (qt rfl (pt (v := .bool true) rfl rfl) (nl (nN (cdt rfl (sq ?_)))))))
   refine rg (qt rfl (bdv (v := .agg #[Str [], Str []]) [] rfl (fun _ => by kernel_rfl)) (stg (vs := [Str [], Str []]) hs9 0 rfl rfl rfl rfl rfl rfl rfl ag51 trivial (fun w10 (hs10 : SH w w10 [] [oI b2 ([1] : List Int) 1 3, .blk g1 133 [.slice Abs bs.length cbs, I ((qa3 : Nat) : Int), .bool qf3], .blk b3 51 [Str (txV bs (qa1, qf1)), Str (txV bs (qa2, qf2))], .blk b1 51 [Str [], Str []]]) => ?_)))
   refine qt rfl (asg (v := I 0) rfl) (qt rfl (asg (v := .bool false) rfl) (nl (nN ?_)))
   have hs11 : SH w w10 [] [.blk b1 51 [Str [], Str []]] := hs10.pick [3] rfl (by decide)
   refine rt (tR ?_)
   refine fret (v := .tuple #[.agg #[Str [], Str []], I 0, .bool false]) (resC hs11 0 rfl rfl ag51 rfl (.tmp (.tmp .nil))) rfl ?_
   have e1 : loginFrom bs = (([], []), 0, false) := by (rw [login_r p3 p6 p9]; simp [h1])
   have e2 : [] = (loginFrom bs).1.1 := by rw [e1]
   have e3 : [] = (loginFrom bs).1.2 := by rw [e1]
   have e4 : 0 = (loginFrom bs).2.1 := by rw [e1]
   have e5 : false = (loginFrom bs).2.2 := by rw [e1]
   exact ⟨(tup3 (aggv (lc (congrArg (Str) e2) (lc (congrArg (Str) e3) rfl))) (congrArg (Value.int .i64) e4) (congrArg (Value.bool) e5)), (hs11.pick [] rfl (by decide))⟩
 · refine q ⟨_, rfl, rfl⟩ rfl rfl (ldg (vs := [Str (txV bs (qa1, qf1)), Str (txV bs (qa2, qf2))]) hs9 3 rfl rfl rfl rfl ag51) (cl ⟨_, rfl, rfl⟩ rfl (iIsLogin (lu := txV bs (qa1, qf1)) (lw := txV bs (qa2, qf2)) (w := _) (hlu_n := (by (have ht1 := txV_len (bs := bs) (s := (qa1, qf1)) p2; have ht2 := txV_len (bs := bs) (s := (qa2, qf2)) p5; first | omega | (simp; done) | (simp; omega)))) (hlw_n := (by (have ht1 := txV_len (bs := bs) (s := (qa1, qf1)) p2; have ht2 := txV_len (bs := bs) (s := (qa2, qf2)) p5; first | omega | (simp; done) | (simp; omega))))) ?_)
   rintro _ w11 ⟨rfl, hs12'⟩
   have hs12 := hs9.call0 hs12'
   clear hs12'
   refine q ⟨_, rfl, rfl⟩ rfl rfl (nt (b := loginOk (txV bs (qa1, qf1)) (txV bs (qa2, qf2))) rfl) (qt rfl (pf (v := .bool (!(loginOk (txV bs (qa1, qf1)) (txV bs (qa2, qf2))))) rfl rfl) (nl (nN ?_)))
   refine cd (b := !(loginOk (txV bs (qa1, qf1)) (txV bs (qa2, qf2)))) rfl (fun h2 => ?_) (fun h2 => ?_)
   · have h3 : (loginOk (txV bs (qa1, qf1)) (txV bs (qa2, qf2))) = false := by simpa using h2
     refine sq (rg (qt rfl (bdv (v := .agg #[Str [], Str []]) [] rfl (fun _ => by kernel_rfl)) (stg (vs := [Str [], Str []]) hs12 0 rfl rfl rfl rfl rfl rfl rfl ag51 trivial (fun w12 (hs13 : SH w w12 [] [oI b2 ([1] : List Int) 1 3, .blk g1 133 [.slice Abs bs.length cbs, I ((qa3 : Nat) : Int), .bool qf3], .blk b3 51 [Str (txV bs (qa1, qf1)), Str (txV bs (qa2, qf2))], .blk b1 51 [Str [], Str []]]) => ?_))))
     refine qt rfl (asg (v := I 0) rfl) (qt rfl (asg (v := .bool false) rfl) (nl (nN ?_)))
     have hs14 : SH w w12 [] [.blk b1 51 [Str [], Str []]] := hs13.pick [3] rfl (by decide)
     refine rt (tR ?_)
     refine fret (v := .tuple #[.agg #[Str [], Str []], I 0, .bool false]) (resC hs14 0 rfl rfl ag51 rfl (.tmp (.tmp .nil))) rfl ?_
     have e6 : loginFrom bs = (([], []), 0, false) := by (rw [login_r p3 p6 p9]; simp [h1, h3])
     have e7 : [] = (loginFrom bs).1.1 := by rw [e6]
     have e8 : [] = (loginFrom bs).1.2 := by rw [e6]
     have e9 : 0 = (loginFrom bs).2.1 := by rw [e6]
     have e10 : false = (loginFrom bs).2.2 := by rw [e6]
     exact ⟨(tup3 (aggv (lc (congrArg (Str) e7) (lc (congrArg (Str) e8) rfl))) (congrArg (Value.int .i64) e9) (congrArg (Value.bool) e10)), (hs14.pick [] rfl (by decide))⟩
   · have h4 : (loginOk (txV bs (qa1, qf1)) (txV bs (qa2, qf2))) = true := by simpa using h2
     refine sk (nN (sq (ra (fun w' => ∃ L, SH w w' [] L ∧ (.blk g1 133 [.slice Abs bs.length cbs, I ((qa3 : Nat) : Int), .bool qf3]) ∈ L ∧ (.blk b3 51 [Str (txV bs (qa1, qf1)), Str (txV bs (qa2, qf2))]) ∈ L ∧ True) mixed ?_)))
     have hs15 := hs12.drew
     refine tk (fuel := 3) (is := [0, 1, 2, 3, 4]) (.cons rfl (.cons rfl (.cons rfl (.cons rfl (.cons rfl (.nil)))))) (by kernel_rfl) (by kernel_rfl) ⟨_, hs15, memi 2 rfl, memi 3 rfl, trivial⟩ (.op trivial rfl rfl (fun wq ⟨Lq, hsq, mh0, mh1, _⟩ => ldgm (vs := [Str (txV bs (qa1, qf1)), Str (txV bs (qa2, qf2))]) hsq mh1 rfl rfl rfl ag51) (.op trivial rfl rfl (fun wq _ => mv (v := pB g1) rfl) (.op trivial rfl rfl (fun wq _ => nc rfl) (.op trivial rfl rfl (fun wq _ => fa 1 fo133_1 rfl) (.op trivial rfl rfl (fun wq ⟨Lq, hsq, mh0, mh1, _⟩ => ldm (v := I ((qa3 : Nat) : Int)) hsq mh0 rfl rfl one3) (.nil (a1 (i := 5) (by kernel_rfl) ?_)))))))
     refine one_ rfl (stg (vs := [Str (txV bs (qa1, qf1)), Str (txV bs (qa2, qf2))]) hs15 0 rfl rfl rfl rfl rfl rfl rfl ag51 trivial (fun w13 (hs16 : SH w w13 [] [oI b2 ([1] : List Int) 1 3, .blk g1 133 [.slice Abs bs.length cbs, I ((qa3 : Nat) : Int), .bool qf3], .blk b3 51 [Str (txV bs (qa1, qf1)), Str (txV bs (qa2, qf2))], .blk b1 51 [Str (txV bs (qa1, qf1)), Str (txV bs (qa2, qf2))]]) => ?_))
     refine nl (kq ⟨_, hs16, memi 1 rfl, memi 2 rfl, trivial⟩ ?_)
     refine tk (fuel := 0) (is := [6, 7]) (.cons rfl (.cons rfl (.nil))) (by kernel_rfl) (by kernel_rfl) ⟨_, hs16, memi 1 rfl, memi 2 rfl, trivial⟩ (.op trivial rfl rfl (fun wq _ => asg (v := I ((qa3 : Nat) : Int)) rfl) (.op trivial rfl rfl (fun wq _ => asg (v := .bool true) rfl) (.nil (ad (by kernel_rfl) (nN ?_)))))
     have hs17 : SH w w13 [] [.blk b1 51 [Str (txV bs (qa1, qf1)), Str (txV bs (qa2, qf2))]] := hs16.pick [3] rfl (by decide)
     refine rt (fret (v := .tuple #[.agg #[Str (txV bs (qa1, qf1)), Str (txV bs (qa2, qf2))], I ((qa3 : Nat) : Int), .bool true]) (resC hs17 0 rfl rfl ag51 rfl (.tmp (.tmp .nil))) rfl ?_)
     have e11 : loginFrom bs = ((txV bs (qa1, qf1), txV bs (qa2, qf2)), ((qa3 : Nat) : Int), true) := by (rw [login_r p3 p6 p9]; simp [h1, h4])
     have e12 : txV bs (qa1, qf1) = (loginFrom bs).1.1 := by rw [e11]
     have e13 : txV bs (qa2, qf2) = (loginFrom bs).1.2 := by rw [e11]
     have e14 : ((qa3 : Nat) : Int) = (loginFrom bs).2.1 := by rw [e11]
     have e15 : true = (loginFrom bs).2.2 := by rw [e11]
     exact ⟨(tup3 (aggv (lc (congrArg (Str) e12) (lc (congrArg (Str) e13) rfl))) (congrArg (Value.int .i64) e14) (congrArg (Value.bool) e15)), (hs17.pick [] rfl (by decide))⟩
set_option maxHeartbeats 8000000 in
theorem iCodeFrom {Abs : Option Addr} {cbs : Nat} (bs : List Int) (w : World) (hbs : Sl w [] 1 Abs bs.length cbs (bs.map I)) : Does Tryz.prog 60 [.slice Abs bs.length cbs] w (fun v w' => ∃ Aqr : Option Addr, ∃ cqr : Nat, v = .tuple #[.int .i64 ((codeR bs).1), .agg #[.int .i64 ((codeR bs).2.1.1), .slice Aqr ((codeR bs).2.1.2.1).length cqr, Str ((codeR bs).2.1.2.2.1), .int .i64 ((codeR bs).2.1.2.2.2)], .int .i64 ((codeR bs).2.2.1), .bool ((codeR bs).2.2.2)] ∧ SH w w' [] [.own Aqr (((codeR bs).2.1.2.1).length) cqr 3 1 (((codeR bs).2.1.2.1).map I)]) := by
 refine fn_enter (N := 32) Tryz.func60 rfl (by kernel_rfl) rfl rfl rfl ?_
 have hs0 : SH w w [] [] := SH.refl w []
 have hbs_m : bs.length ≤ 9223372036854775807 := Nat.le_trans hbs.cap hbs.capMax
 refine sq (rg (qt rfl (asg (v := I 0) rfl) (al (v := .agg #[I 0, ns, Str [], I 0]) (cs := [I 0, ns, Str [], I 0]) hs0 tz43 rfl trivial rfl (fun b1 w1 (hs1 : SH w w1 [] [.blk b1 43 [I 0, ns, Str [], I 0]]) => ?_))))
 refine qt rfl (asg (v := I 0) rfl) (qt rfl (asg (v := .bool false) rfl) (nl (nN (sq (rg (qt rfl (mv (v := .slice Abs bs.length cbs) rfl) (cl trivial rfl (newReader (Abs := Abs) (cbs := cbs) (bs := bs) (w := _) (hbs := (hbs.up0 hs1))) ?_)))))))
 rintro _ w2 ⟨g1, rfl, hs2'⟩
 have hs2 := hs1.call0 hs2'
 clear hs2'
 refine qt rfl (asg (v := pB g1) rfl) (nl (nN (sq (rg (qt rfl (mv (v := pB g1) rfl) (bsk hs2 sl22 [I 5] [I 5] trivial rfl (fun b2 w3 (hs3 : SH w w3 [] [.blk b1 43 [I 0, ns, Str [], I 0], .blk g1 133 [.slice Abs bs.length cbs, I 0, .bool (!isBytes bs)], oI b2 ([5] : List Int) 1 3]) => ?_)))))))
 refine cl trivial rfl (rdExpect (rb := g1) (Ab := Abs) (cb := cbs) (bs := bs) (sa := 0) (sf := (!isBytes bs)) (Aws := (some ⟨b2, 0, none⟩)) (cws := 1) (ws := ([5] : List Int)) (w := _) (hr := (blk_heap hs3 1 rfl)) (hb := (hbs.up hs3 (by simp) (fun k h => .inr (hs3.lo1 1 rfl k h)))) (hbv := (by (simp; done))) (hsa := (by omega)) (hws := (hs3.sl 2 rfl (by intro k hk; simp at hk; subst hk; exact ⟨_, memi 1 rfl, rfl⟩))) (hw := (by (simp; done)))) ?_
 rintro _ w4 ⟨qa1, qf1, rfl, p1, p2, p3, hs4'⟩
 have hs4 : SH w w4 [] [.blk b1 43 [I 0, ns, Str [], I 0], oI b2 ([5] : List Int) 1 3, .blk g1 133 [.slice Abs bs.length cbs, I ((qa1 : Nat) : Int), .bool qf1]] := SH.callK (K := [.blk g1 133 [.slice Abs bs.length cbs, I 0, .bool (!isBytes bs)]]) (R := [.blk b1 43 [I 0, ns, Str [], I 0], oI b2 ([5] : List Int) 1 3]) (hs3.pick [1, 0, 2] rfl (by decide)) hs4' rfl
 clear hs4'
 refine nl (nN (sq (rg (qt rfl (mv (v := pB g1) rfl) (cl trivial rfl (rdByte (rb := g1) (Ab := Abs) (cb := cbs) (bs := bs) (sa := qa1) (sf := qf1) (w := _) (hr := (blk_heap hs4 2 rfl)) (hb := (hbs.up hs4 (by simp) (fun k h => .inr (hs4.lo1 2 rfl k h)))) (hbv := (by assumption)) (hsa := (by assumption))) ?_)))))
 rintro _ w5 ⟨qa2, qf2, rfl, p4, p5, p6, hs5'⟩
 have hs5 : SH w w5 [] [.blk b1 43 [I 0, ns, Str [], I 0], oI b2 ([5] : List Int) 1 3, .blk g1 133 [.slice Abs bs.length cbs, I ((qa2 : Nat) : Int), .bool qf2]] := SH.callK (K := [.blk g1 133 [.slice Abs bs.length cbs, I ((qa1 : Nat) : Int), .bool qf1]]) (R := [.blk b1 43 [I 0, ns, Str [], I 0], oI b2 ([5] : List Int) 1 3]) (hs4.pick [2, 0, 1] rfl (by decide)) hs5' rfl
 clear hs5'
 refine qt rfl (asg (v := I (byV bs (qa1, qf1))) rfl) (nl (nN (sq (rg (qt rfl (mv (v := pB g1) rfl) (bsk hs5 sl22 [I 0] [I 0] trivial rfl (fun b3 w6 (hs6 : SH w w6 [] [.blk b1 43 [I 0, ns, Str [], I 0], oI b2 ([5] : List Int) 1 3, .blk g1 133 [.slice Abs bs.length cbs, I ((qa2 : Nat) : Int), .bool qf2], oI b3 ([0] : List Int) 1 3]) => ?_)))))))
 refine cl trivial rfl (rdExpect (rb := g1) (Ab := Abs) (cb := cbs) (bs := bs) (sa := qa2) (sf := qf2) (Aws := (some ⟨b3, 0, none⟩)) (cws := 1) (ws := ([0] : List Int)) (w := _) (hr := (blk_heap hs6 2 rfl)) (hb := (hbs.up hs6 (by simp) (fun k h => .inr (hs6.lo1 2 rfl k h)))) (hbv := (by assumption)) (hsa := (by assumption)) (hws := (hs6.sl 3 rfl (by intro k hk; simp at hk; subst hk; exact ⟨_, memi 2 rfl, rfl⟩))) (hw := (by (simp; done)))) ?_
 rintro _ w7 ⟨qa3, qf3, rfl, p7, p8, p9, hs7'⟩
 have hs7 : SH w w7 [] [.blk b1 43 [I 0, ns, Str [], I 0], oI b2 ([5] : List Int) 1 3, oI b3 ([0] : List Int) 1 3, .blk g1 133 [.slice Abs bs.length cbs, I ((qa3 : Nat) : Int), .bool qf3]] := SH.callK (K := [.blk g1 133 [.slice Abs bs.length cbs, I ((qa2 : Nat) : Int), .bool qf2]]) (R := [.blk b1 43 [I 0, ns, Str [], I 0], oI b2 ([5] : List Int) 1 3, oI b3 ([0] : List Int) 1 3]) (hs6.pick [2, 0, 1, 3] rfl (by decide)) hs7' rfl
 clear hs7'
 refine nl (nN ?_)
 have hs8 : SH w w7 [] [.blk b1 43 [I 0, ns, Str [], I 0], .blk g1 133 [.slice Abs bs.length cbs, I ((qa3 : Nat) : Int), .bool qf3]] := hs7.pick [0, 3] rfl (by decide)
 refine sq (rg (qt rfl (mv (v := pB g1) rfl) (cl trivial rfl (rdAddress (rb := g1) (Ab := Abs) (cb := cbs) (bs := bs) (sa := qa3) (sf := qf3) (w := _) (hr := (blk_heap hs8 1 rfl)) (hb := (hbs.up hs8 (by simp) (fun k h => .inr (hs8.lo1 1 rfl k h)))) (hbv := (by assumption)) (hsa := (by assumption))) ?_)))
 rintro _ w8 ⟨A1, c1, qa4, qf4, rfl, p10, p11, p12, hs9'⟩
 have hs9 : SH w w8 [] [.blk b1 43 [I 0, ns, Str [], I 0], .blk g1 133 [.slice Abs bs.length cbs, I ((qa4 : Nat) : Int), .bool qf4], .own A1 (((adR bs (qa3, qf3)).1.2.1).length) c1 3 1 (((adR bs (qa3, qf3)).1.2.1).map I)] := SH.callK (K := [.blk g1 133 [.slice Abs bs.length cbs, I ((qa3 : Nat) : Int), .bool qf3]]) (R := [.blk b1 43 [I 0, ns, Str [], I 0]]) (hs8.pick [1, 0] rfl (by decide)) hs9' rfl
 clear hs9'
 refine al (v := .agg #[I 0, ns, Str [], I 0]) (cs := [I 0, ns, Str [], I 0]) hs9 tz43 rfl trivial rfl (fun b4 w9 (hs10 : SH w w9 [] [.blk b1 43 [I 0, ns, Str [], I 0], .blk g1 133 [.slice Abs bs.length cbs, I ((qa4 : Nat) : Int), .bool qf4], .own A1 (((adR bs (qa3, qf3)).1.2.1).length) c1 3 1 (((adR bs (qa3, qf3)).1.2.1).map I), .blk b4 43 [I 0, ns, Str [], I 0]]) => ?_)
 refine stg (vs := [I ((adR bs (qa3, qf3)).1.1), .slice A1 (((adR bs (qa3, qf3)).1.2.1).length) c1, Str ((adR bs (qa3, qf3)).1.2.2.1), I ((adR bs (qa3, qf3)).1.2.2.2)]) hs10 3 rfl rfl rfl rfl rfl rfl rfl ag43 trivial (fun w10 (hs11 : SH w w10 [] [.blk b1 43 [I 0, ns, Str [], I 0], .blk g1 133 [.slice Abs bs.length cbs, I ((qa4 : Nat) : Int), .bool qf4], .own A1 (((adR bs (qa3, qf3)).1.2.1).length) c1 3 1 (((adR bs (qa3, qf3)).1.2.1).map I), .blk b4 43 [I ((adR bs (qa3, qf3)).1.1), .slice A1 (((adR bs (qa3, qf3)).1.2.1).length) c1, Str ((adR bs (qa3, qf3)).1.2.2.1), I ((adR bs (qa3, qf3)).1.2.2.2)]]) => ?_)
 refine nl (nN (sq ?_))
 refine raJ (fun w' => ∃ L, SH w w' [] L ∧ (.blk g1 133 [.slice Abs bs.length cbs, I ((qa4 : Nat) : Int), .bool qf4]) ∈ L ∧ (.blk b4 43 [I ((adR bs (qa3, qf3)).1.1), .slice A1 (((adR bs (qa3, qf3)).1.2.1).length) c1, Str ((adR bs (qa3, qf3)).1.2.2.1), I ((adR bs (qa3, qf3)).1.2.2.2)]) ∈ L ∧ True) (fun f w' => Has f [(2, I (byV bs (qa1, qf1))), (3, pB b1), (4, I ((qa4 : Nat) : Int)), (5, .bool (!qf4))] ∧ SH w w' [] [.blk b1 43 [I ((adR bs (qa3, qf3)).1.1), .slice A1 (((adR bs (qa3, qf3)).1.2.1).length) c1, Str ((adR bs (qa3, qf3)).1.2.2.1), I ((adR bs (qa3, qf3)).1.2.2.2)], .blk g1 133 [.slice Abs bs.length cbs, I ((qa4 : Nat) : Int), .bool qf4], .own A1 (((adR bs (qa3, qf3)).1.2.1).length) c1 3 1 (((adR bs (qa3, qf3)).1.2.1).map I), .blk b4 43 [I ((adR bs (qa3, qf3)).1.1), .slice A1 (((adR bs (qa3, qf3)).1.2.1).length) c1, Str ((adR bs (qa3, qf3)).1.2.2.1), I ((adR bs (qa3, qf3)).1.2.2.2)]]) mixed ?_ ?_
 · refine dag (fuel' := 3) (listed' := lbits 15 4095) (fun f w' => Has f [(2, I (byV bs (qa1, qf1))), (3, pB b1), (4, I 0), (5, .bool false), (22, .agg #[I ((adR bs (qa3, qf3)).1.1), .slice A1 (((adR bs (qa3, qf3)).1.2.1).length) c1, Str ((adR bs (qa3, qf3)).1.2.2.1), I ((adR bs (qa3, qf3)).1.2.2.2)]), (26, I ((qa4 : Nat) : Int)), (31, .bool (!qf4))] ∧ SH w w' [] [.blk b1 43 [I 0, ns, Str [], I 0], .blk g1 133 [.slice Abs bs.length cbs, I ((qa4 : Nat) : Int), .bool qf4], .own A1 (((adR bs (qa3, qf3)).1.2.1).length) c1 3 1 (((adR bs (qa3, qf3)).1.2.1).map I), .blk b4 43 [I ((adR bs (qa3, qf3)).1.1), .slice A1 (((adR bs (qa3, qf3)).1.2.1).length) c1, Str ((adR bs (qa3, qf3)).1.2.2.1), I ((adR bs (qa3, qf3)).1.2.2.2)]]) ?_ (fun D_6_0 => ?_)
   · rintro f w11 ⟨hf, hs12⟩
     obtain ⟨g2, rfl⟩ := has_upd hf
     clear hf
     refine aaL [12] (fa_one ?_)
     refine one_ rfl (stg (vs := [I ((adR bs (qa3, qf3)).1.1), .slice A1 (((adR bs (qa3, qf3)).1.2.1).length) c1, Str ((adR bs (qa3, qf3)).1.2.2.1), I ((adR bs (qa3, qf3)).1.2.2.2)]) hs12 0 rfl rfl rfl rfl rfl rfl rfl ag43 trivial (fun w12 hs13 => ?_))
     refine nl (kq ⟨_, hs13, memi 0 rfl, memi 2 rfl, trivial⟩ ?_)
     refine tk (fuel := 0) (is := [13, 14]) (.cons rfl (.cons rfl (.nil))) (by kernel_rfl) (by kernel_rfl) ⟨_, hs13, memi 0 rfl, memi 2 rfl, trivial⟩ (.op trivial rfl rfl (fun wq _ => asg (v := I ((qa4 : Nat) : Int)) rfl) (.op trivial rfl rfl (fun wq _ => asg (v := .bool (!qf4)) rfl) (.nil (ad (by kernel_rfl) ?_))))
     exact ⟨⟨rfl, rfl, rfl, rfl, trivial⟩, (hs13.pick [3, 0, 1, 2] rfl (by decide))⟩
   have hs14 := hs11.drew
   refine tk (fuel := 3) (is := [0, 1, 2, 3, 4, 5, 6, 7, 8, 9, 10, 11]) (.cons rfl (.cons rfl (.cons rfl (.cons rfl (.cons rfl (.cons rfl (.cons rfl (.cons rfl (.cons rfl (.cons rfl (.cons rfl (.cons rfl (.nil))))))))))))) (by kernel_rfl) (by kernel_rfl) ⟨_, hs14, memi 1 rfl, memi 3 rfl, trivial⟩ (.op trivial rfl rfl (fun wq _ => mv (v := I (byV bs (qa1, qf1))) rfl) (.op trivial rfl rfl (fun wq ⟨Lq, hsq, mh0, mh1, _⟩ => ldgm (vs := [I ((adR bs (qa3, qf3)).1.1), .slice A1 (((adR bs (qa3, qf3)).1.2.1).length) c1, Str ((adR bs (qa3, qf3)).1.2.2.1), I ((adR bs (qa3, qf3)).1.2.2.2)]) hsq mh1 rfl rfl rfl ag43) (.op trivial rfl rfl (fun wq _ => mv (v := pB g1) rfl) (.op trivial rfl rfl (fun wq _ => nc rfl) (.op trivial rfl rfl (fun wq _ => fa 1 fo133_1 rfl) (.op trivial rfl rfl (fun wq ⟨Lq, hsq, mh0, mh1, _⟩ => ldm (v := I ((qa4 : Nat) : Int)) hsq mh0 rfl rfl one3) (.op trivial rfl rfl (fun wq _ => mv (v := pB g1) rfl) ?_)))))))
   refine .op trivial rfl rfl (fun wq _ => nc rfl) (.op trivial rfl rfl (fun wq _ => fa 2 fo133_2 rfl) (.op trivial rfl rfl (fun wq ⟨Lq, hsq, mh0, mh1, _⟩ => ldm (v := .bool qf4) hsq mh0 rfl rfl one4) (.op trivial rfl rfl (fun wq _ => nt (b := qf4) rfl) (.op trivial rfl rfl (fun wq _ => asg (v := I (byV bs (qa1, qf1))) rfl) (.nil ?_)))))
   exact alc D_6_0 ⟨⟨rfl, rfl, rfl, rfl, rfl, rfl, rfl, trivial⟩, hs14⟩
 rintro f w13 ⟨hf, hs15⟩
 obtain ⟨g3, rfl⟩ := has_upd hf
 clear hf
 refine nN ?_
 have hs16 : SH w w13 [] [.blk b1 43 [I ((adR bs (qa3, qf3)).1.1), .slice A1 (((adR bs (qa3, qf3)).1.2.1).length) c1, Str ((adR bs (qa3, qf3)).1.2.2.1), I ((adR bs (qa3, qf3)).1.2.2.2)], .own A1 (((adR bs (qa3, qf3)).1.2.1).length) c1 3 1 (((adR bs (qa3, qf3)).1.2.1).map I)] := hs15.pick [0, 2] rfl (by decide)
 refine rt (fret (v := .tuple #[I (byV bs (qa1, qf1)), .agg #[I ((adR bs (qa3, qf3)).1.1), .slice A1 (((adR bs (qa3, qf3)).1.2.1).length) c1, Str ((adR bs (qa3, qf3)).1.2.2.1), I ((adR bs (qa3, qf3)).1.2.2.2)], I ((qa4 : Nat) : Int), .bool (!qf4)]) (.tmp (resC hs16 0 rfl rfl ag43 rfl (.tmp (.tmp .nil)))) rfl ?_)
 have e1 : codeR bs = (byV bs (qa1, qf1), ((adR bs (qa3, qf3)).1.1, (adR bs (qa3, qf3)).1.2.1, (adR bs (qa3, qf3)).1.2.2.1, (adR bs (qa3, qf3)).1.2.2.2), ((qa4 : Nat) : Int), (!qf4)) := by (rw [code_r p3 p6 p9 p12]; done)
 have e2 : byV bs (qa1, qf1) = (codeR bs).1 := by rw [e1]
 have e3 : (adR bs (qa3, qf3)).1.1 = (codeR bs).2.1.1 := by rw [e1]
 have e4 : (adR bs (qa3, qf3)).1.2.1 = (codeR bs).2.1.2.1 := by rw [e1]
 have e5 : ((adR bs (qa3, qf3)).1.2.1).length = ((codeR bs).2.1.2.1).length := by exact congrArg List.length e4
 have e6 : (adR bs (qa3, qf3)).1.2.2.1 = (codeR bs).2.1.2.2.1 := by rw [e1]
 have e7 : (adR bs (qa3, qf3)).1.2.2.2 = (codeR bs).2.1.2.2.2 := by rw [e1]
 have e8 : ((qa4 : Nat) : Int) = (codeR bs).2.2.1 := by rw [e1]
 have e9 : (!qf4) = (codeR bs).2.2.2 := by rw [e1]
 exact ⟨A1, c1, (tup4 (congrArg (Value.int .i64) e2) (aggv (lc (congrArg (Value.int .i64) e3) (lc (slv rfl e5 rfl) (lc (congrArg (Str) e6) (lc (congrArg (Value.int .i64) e7) rfl))))) (congrArg (Value.int .i64) e8) (congrArg (Value.bool) e9)), ((hs16.pick [1] rfl (by decide)).cast (lc (own_eq (g := I) rfl e5 rfl e4) rfl))⟩
theorem iRequestFrom {Abs : Option Addr} {cbs : Nat} (bs : List Int) (w : World) (hbs : Sl w [] 1 Abs bs.length cbs (bs.map I)) : Does Tryz.prog 25 [.slice Abs bs.length cbs] w (fun v w' => ∃ Aqr : Option Addr, ∃ cqr : Nat, v = .tuple #[.agg #[.int .i64 ((reqFrom bs).1.1), .int .i64 ((reqFrom bs).1.2.1), .slice Aqr ((reqFrom bs).1.2.2.1).length cqr, Str ((reqFrom bs).1.2.2.2.1), .int .i64 ((reqFrom bs).1.2.2.2.2)], .int .i64 ((reqFrom bs).2.1), .bool ((reqFrom bs).2.2)] ∧ SH w w' [] [.own Aqr (((reqFrom bs).1.2.2.1).length) cqr 3 1 (((reqFrom bs).1.2.2.1).map I)]) := by
 refine fn_enter (N := 30) Tryz.func25 rfl (by kernel_rfl) rfl rfl rfl ?_
 have hs0 : SH w w [] [] := SH.refl w []
 have hbs_m : bs.length ≤ 9223372036854775807 := Nat.le_trans hbs.cap hbs.capMax
 refine sq (rg (al (v := .agg #[I 0, I 0, ns, Str [], I 0]) (cs := [I 0, I 0, ns, Str [], I 0]) hs0 tz45 rfl trivial rfl (fun b1 w1 (hs1 : SH w w1 [] [.blk b1 45 [I 0, I 0, ns, Str [], I 0]]) => ?_)))
 refine qt rfl (asg (v := I 0) rfl) (qt rfl (asg (v := .bool false) rfl) (nl (nN (sq (rg (qt rfl (mv (v := .slice Abs bs.length cbs) rfl) (cl trivial rfl (iCodeFrom (Abs := Abs) (cbs := cbs) (bs := bs) (w := _) (hbs := (hbs.up0 hs1))) ?_)))))))
 rintro _ w2 ⟨Aq1, cq1, rfl, hs2'⟩
 have hs2 := hs1.call0 hs2'
 clear hs2'
 refine qt rfl (mv (v := .tuple #[I ((codeR bs).1), .agg #[I ((codeR bs).2.1.1), .slice Aq1 (((codeR bs).2.1.2.1).length) cq1, Str ((codeR bs).2.1.2.2.1), I ((codeR bs).2.1.2.2.2)], I ((codeR bs).2.2.1), .bool ((codeR bs).2.2.2)]) rfl) (qt rfl (xt 0 (v := I ((codeR bs).1)) rfl rfl) (qt rfl (xt 1 (v := .agg #[I ((codeR bs).2.1.1), .slice Aq1 (((codeR bs).2.1.2.1).length) cq1, Str ((codeR bs).2.1.2.2.1), I ((codeR bs).2.1.2.2.2)]) rfl rfl) (qt rfl (xt 2 (v := I ((codeR bs).2.2.1)) rfl rfl) (qt rfl (xt 3 (v := .bool ((codeR bs).2.2.2)) rfl rfl) (al (v := .agg #[I 0, ns, Str [], I 0]) (cs := [I 0, ns, Str [], I 0]) hs2 tz43 rfl trivial rfl (fun b2 w3 (hs3 : SH w w3 [] [.blk b1 45 [I 0, I 0, ns, Str [], I 0], .own Aq1 (((codeR bs).2.1.2.1).length) cq1 3 1 (((codeR bs).2.1.2.1).map I), .blk b2 43 [I 0, ns, Str [], I 0]]) => ?_))))))
 refine qt rfl (asg (v := I ((codeR bs).1)) rfl) (stg (vs := [I ((codeR bs).2.1.1), .slice Aq1 (((codeR bs).2.1.2.1).length) cq1, Str ((codeR bs).2.1.2.2.1), I ((codeR bs).2.1.2.2.2)]) hs3 2 rfl rfl rfl rfl rfl rfl rfl ag43 trivial (fun w4 (hs4 : SH w w4 [] [.blk b1 45 [I 0, I 0, ns, Str [], I 0], .own Aq1 (((codeR bs).2.1.2.1).length) cq1 3 1 (((codeR bs).2.1.2.1).map I), .blk b2 43 [I ((codeR bs).2.1.1), .slice Aq1 (((codeR bs).2.1.2.1).length) cq1, Str ((codeR bs).2.1.2.2.1), I ((codeR bs).2.1.2.2.2)]]) => ?_))
 refine qt rfl (asg (v := I ((codeR bs).2.2.1)) rfl) (qt rfl (asg (v := .bool ((codeR bs).2.2.2)) rfl) (nl (nN (sq (rg (qt rfl (mv (v := I ((codeR bs).1)) rfl) (qt rfl (ldg (vs := [I ((codeR bs).2.1.1), .slice Aq1 (((codeR bs).2.1.2.1).length) cq1, Str ((codeR bs).2.1.2.2.1), I ((codeR bs).2.1.2.2.2)]) hs4 2 rfl rfl rfl rfl ag43) ?_)))))))
 refine qt rfl (bdv (v := .agg #[I ((codeR bs).1), I ((codeR bs).2.1.1), .slice Aq1 (((codeR bs).2.1.2.1).length) cq1, Str ((codeR bs).2.1.2.2.1), I ((codeR bs).2.1.2.2.2)]) [(0, I ((codeR bs).1)), (1, .agg #[I ((codeR bs).2.1.1), .slice Aq1 (((codeR bs).2.1.2.1).length) cq1, Str ((codeR bs).2.1.2.2.1), I ((codeR bs).2.1.2.2.2)])] rfl (fun _ => by kernel_rfl)) (al (v := .agg #[I 0, I 0, ns, Str [], I 0]) (cs := [I 0, I 0, ns, Str [], I 0]) hs4 tz45 rfl trivial rfl (fun b3 w5 (hs5 : SH w w5 [] [.blk b1 45 [I 0, I 0, ns, Str [], I 0], .own Aq1 (((codeR bs).2.1.2.1).length) cq1 3 1 (((codeR bs).2.1.2.1).map I), .blk b2 43 [I ((codeR bs).2.1.1), .slice Aq1 (((codeR bs).2.1.2.1).length) cq1, Str ((codeR bs).2.1.2.2.1), I ((codeR bs).2.1.2.2.2)], .blk b3 45 [I 0, I 0, ns, Str [], I 0]]) => ?_))
 refine stg (vs := [I ((codeR bs).1), I ((codeR bs).2.1.1), .slice Aq1 (((codeR bs).2.1.2.1).length) cq1, Str ((codeR bs).2.1.2.2.1), I ((codeR bs).2.1.2.2.2)]) hs5 3 rfl rfl rfl rfl rfl rfl rfl ag45 trivial (fun w6 (hs6 : SH w w6 [] [.blk b1 45 [I 0, I 0, ns, Str [], I 0], .own Aq1 (((codeR bs).2.1.2.1).length) cq1 3 1 (((codeR bs).2.1.2.1).map I), .blk b2 43 [I ((codeR bs).2.1.1), .slice Aq1 (((codeR bs).2.1.2.1).length) cq1, Str ((codeR bs).2.1.2.2.1), I ((codeR bs).2.1.2.2.2)], .blk b3 45 [I ((codeR bs).1), I ((codeR bs).2.1.1), .slice Aq1 (((codeR bs).2.1.2.1).length) cq1, Str ((codeR bs).2.1.2.2.1), I ((codeR bs).2.1.2.2.2)]]) => ?_)
 refine nl (nN (sq (sq (rg (qt rfl (mv (v := .bool ((codeR bs).2.2.2)) rfl) (qt rfl (nt (b := (codeR bs).2.2.2) rfl) (qt rfl (mv (v := .bool (!((codeR bs).2.2.2))) rfl) ?_)))))))
 refine spl (b := !((codeR bs).2.2.2)) 22 rfl (fun h1 => ?_) (fun h1 => ?_)
 · have h2 : ((codeR bs).2.2.2) = false := by simpa using h1
   refine gk true rfl rfl rfl rfl rfl (gk true rfl rfl rfl rfl rfl (gk true rfl rfl rfl rfl rfl (qt rfl (pt (v := .bool true) rfl rfl) (nl (nN (cdt rfl (sq ?_)))))))
   refine rg (qt rfl (bdv (v := .agg #[I 0, I 0, ns, Str [], I 0]) [] rfl (fun _ => by kernel_rfl)) (stg (vs := [I 0, I 0, ns, Str [], I 0]) hs6 0 rfl rfl rfl rfl rfl rfl rfl ag45 trivial (fun w7 (hs7 : SH w w7 [] [.own Aq1 (((codeR bs).2.1.2.1).length) cq1 3 1 (((codeR bs).2.1.2.1).map I), .blk b2 43 [I ((codeR bs).2.1.1), .slice Aq1 (((codeR bs).2.1.2.1).length) cq1, Str ((codeR bs).2.1.2.2.1), I ((codeR bs).2.1.2.2.2)], .blk b3 45 [I ((codeR bs).1), I ((codeR bs).2.1.1), .slice Aq1 (((codeR bs).2.1.2.1).length) cq1, Str ((codeR bs).2.1.2.2.1), I ((codeR bs).2.1.2.2.2)], .blk b1 45 [I 0, I 0, ns, Str [], I 0]]) => ?_)))
   refine qt rfl (asg (v := I 0) rfl) (qt rfl (asg (v := .bool false) rfl) (nl (nN ?_)))
   have hs8 : SH w w7 [] [.blk b1 45 [I 0, I 0, ns, Str [], I 0]] := hs7.pick [3] rfl (by decide)
   refine rt (tR ?_)
   refine fret (v := .tuple #[.agg #[I 0, I 0, ns, Str [], I 0], I 0, .bool false]) (resC hs8 0 rfl rfl ag45 rfl (.tmp (.tmp .nil))) rfl ?_
   have hs9 : SH w w7 [] [.blk b1 45 [I 0, I 0, ns, Str [], I 0], .own none (([] : List Int).length) 0 3 1 (([] : List Int).map I)] := SH.nils (by intro i hi; simp at hi; subst hi; exact nilItem) hs8
   have e1 : reqFrom bs = ((0, (0, ([] : List Int), [], 0)), 0, false) := by (rw [req_code]; simp [h2])
   have e2 : 0 = (reqFrom bs).1.1 := by rw [e1]
   have e3 : 0 = (reqFrom bs).1.2.1 := by rw [e1]
   have e4 : ([] : List Int) = (reqFrom bs).1.2.2.1 := by rw [e1]
   have e5 : ([] : List Int).length = ((reqFrom bs).1.2.2.1).length := by exact congrArg List.length e4
   have e6 : [] = (reqFrom bs).1.2.2.2.1 := by rw [e1]
   have e7 : 0 = (reqFrom bs).1.2.2.2.2 := by rw [e1]
   have e8 : 0 = (reqFrom bs).2.1 := by rw [e1]
   have e9 : false = (reqFrom bs).2.2 := by rw [e1]
   exact ⟨none, 0, (tup3 (aggv (lc (congrArg (Value.int .i64) e2) (lc (congrArg (Value.int .i64) e3) (lc (slv rfl e5 rfl) (lc (congrArg (Str) e6) (lc (congrArg (Value.int .i64) e7) rfl)))))) (congrArg (Value.int .i64) e8) (congrArg (Value.bool) e9)), ((hs9.pick [1] rfl (by decide)).cast (lc (own_eq (g := I) rfl e5 rfl e4) rfl))⟩
 · have h3 : ((codeR bs).2.2.2) = true := by simpa using h1
   refine q ⟨_, rfl, rfl⟩ rfl rfl (ldg (vs := [I ((codeR bs).1), I ((codeR bs).2.1.1), .slice Aq1 (((codeR bs).2.1.2.1).length) cq1, Str ((codeR bs).2.1.2.2.1), I ((codeR bs).2.1.2.2.2)]) hs6 3 rfl rfl rfl rfl ag45) (cl ⟨_, rfl, rfl⟩ rfl (iIsRequest (n := (codeR bs).1) (ak := (codeR bs).2.1.1) (Aaq := Aq1) (caq := cq1) (aq := (codeR bs).2.1.2.1) (an := (codeR bs).2.1.2.2.1) (apt := (codeR bs).2.1.2.2.2) (w := _) (haq := (hs6.sl0 1 rfl)) (han_n := (by (have hcn := codeR_nm bs; first | omega | (simp; done) | (simp; omega))))) ?_)
   rintro _ w8 ⟨rfl, hs10'⟩
   have hs10 := hs6.call0 hs10'
   clear hs10'
   refine q ⟨_, rfl, rfl⟩ rfl rfl (nt (b := reqOk ((codeR bs).1) ((codeR bs).2.1.1) ((codeR bs).2.1.2.1) ((codeR bs).2.1.2.2.1) ((codeR bs).2.1.2.2.2)) rfl) (qt rfl (pf (v := .bool (!(reqOk ((codeR bs).1) ((codeR bs).2.1.1) ((codeR bs).2.1.2.1) ((codeR bs).2.1.2.2.1) ((codeR bs).2.1.2.2.2)))) rfl rfl) (nl (nN ?_)))
   refine cd (b := !(reqOk ((codeR bs).1) ((codeR bs).2.1.1) ((codeR bs).2.1.2.1) ((codeR bs).2.1.2.2.1) ((codeR bs).2.1.2.2.2))) rfl (fun h4 => ?_) (fun h4 => ?_)
   · have h5 : (reqOk ((codeR bs).1) ((codeR bs).2.1.1) ((codeR bs).2.1.2.1) ((codeR bs).2.1.2.2.1) ((codeR bs).2.1.2.2.2)) = false := by simpa using h4
     refine sq (rg (qt rfl (bdv (v := .agg #[I 0, I 0, ns, Str [], I 0]) [] rfl (fun _ => by kernel_rfl)) (stg (vs := [I 0, I 0, ns, Str [], I 0]) hs10 0 rfl rfl rfl rfl rfl rfl rfl ag45 trivial (fun w9 (hs11 : SH w w9 [] [.own Aq1 (((codeR bs).2.1.2.1).length) cq1 3 1 (((codeR bs).2.1.2.1).map I), .blk b2 43 [I ((codeR bs).2.1.1), .slice Aq1 (((codeR bs).2.1.2.1).length) cq1, Str ((codeR bs).2.1.2.2.1), I ((codeR bs).2.1.2.2.2)], .blk b3 45 [I ((codeR bs).1), I ((codeR bs).2.1.1), .slice Aq1 (((codeR bs).2.1.2.1).length) cq1, Str ((codeR bs).2.1.2.2.1), I ((codeR bs).2.1.2.2.2)], .blk b1 45 [I 0, I 0, ns, Str [], I 0]]) => ?_))))
     refine qt rfl (asg (v := I 0) rfl) (qt rfl (asg (v := .bool false) rfl) (nl (nN ?_)))
     have hs12 : SH w w9 [] [.blk b1 45 [I 0, I 0, ns, Str [], I 0]] := hs11.pick [3] rfl (by decide)
     refine rt (tR ?_)
     refine fret (v := .tuple #[.agg #[I 0, I 0, ns, Str [], I 0], I 0, .bool false]) (resC hs12 0 rfl rfl ag45 rfl (.tmp (.tmp .nil))) rfl ?_
     have hs13 : SH w w9 [] [.blk b1 45 [I 0, I 0, ns, Str [], I 0], .own none (([] : List Int).length) 0 3 1 (([] : List Int).map I)] := SH.nils (by intro i hi; simp at hi; subst hi; exact nilItem) hs12
     have e10 : reqFrom bs = ((0, (0, ([] : List Int), [], 0)), 0, false) := by (rw [req_code]; simp [h3, h5])
     have e11 : 0 = (reqFrom bs).1.1 := by rw [e10]
     have e12 : 0 = (reqFrom bs).1.2.1 := by rw [e10]
     have e13 : ([] : List Int) = (reqFrom bs).1.2.2.1 := by rw [e10]
     have e14 : ([] : List Int).length = ((reqFrom bs).1.2.2.1).length := by exact congrArg List.length e13
     have e15 : [] = (reqFrom bs).1.2.2.2.1 := by rw [e10]
     have e16 : 0 = (reqFrom bs).1.2.2.2.2 := by rw [e10]
     have e17 : 0 = (reqFrom bs).2.1 := by rw [e10]
     have e18 : false = (reqFrom bs).2.2 := by rw [e10]
     exact ⟨none, 0, (tup3 (aggv (lc (congrArg (Value.int .i64) e11) (lc (congrArg (Value.int .i64) e12) (lc (slv rfl e14 rfl) (lc (congrArg (Str) e15) (lc (congrArg (Value.int .i64) e16) rfl)))))) (congrArg (Value.int .i64) e17) (congrArg (Value.bool) e18)), ((hs13.pick [1] rfl (by decide)).cast (lc (own_eq (g := I) rfl e14 rfl e13) rfl))⟩
   · have h6 : (reqOk ((codeR bs).1) ((codeR bs).2.1.1) ((codeR bs).2.1.2.1) ((codeR bs).2.1.2.2.1) ((codeR bs).2.1.2.2.2)) = true := by simpa using h4
     refine sk (nN (sq (rg (qt rfl (ldg (vs := [I ((codeR bs).1), I ((codeR bs).2.1.1), .slice Aq1 (((codeR bs).2.1.2.1).length) cq1, Str ((codeR bs).2.1.2.2.1), I ((codeR bs).2.1.2.2.2)]) hs10 3 rfl rfl rfl rfl ag45) (qt rfl (mv (v := I ((codeR bs).2.2.1)) rfl) (stg (vs := [I ((codeR bs).1), I ((codeR bs).2.1.1), .slice Aq1 (((codeR bs).2.1.2.1).length) cq1, Str ((codeR bs).2.1.2.2.1), I ((codeR bs).2.1.2.2.2)]) hs10 0 rfl rfl rfl rfl rfl rfl rfl ag45 trivial (fun w10 (hs14 : SH w w10 [] [.own Aq1 (((codeR bs).2.1.2.1).length) cq1 3 1 (((codeR bs).2.1.2.1).map I), .blk b2 43 [I ((codeR bs).2.1.1), .slice Aq1 (((codeR bs).2.1.2.1).length) cq1, Str ((codeR bs).2.1.2.2.1), I ((codeR bs).2.1.2.2.2)], .blk b3 45 [I ((codeR bs).1), I ((codeR bs).2.1.1), .slice Aq1 (((codeR bs).2.1.2.1).length) cq1, Str ((codeR bs).2.1.2.2.1), I ((codeR bs).2.1.2.2.2)], .blk b1 45 [I ((codeR bs).1), I ((codeR bs).2.1.1), .slice Aq1 (((codeR bs).2.1.2.1).length) cq1, Str ((codeR bs).2.1.2.2.1), I ((codeR bs).2.1.2.2.2)]]) => ?_)))))))
     refine qt rfl (asg (v := I ((codeR bs).2.2.1)) rfl) (qt rfl (asg (v := .bool true) rfl) (nl (nN ?_)))
     have hs15 : SH w w10 [] [.own Aq1 (((codeR bs).2.1.2.1).length) cq1 3 1 (((codeR bs).2.1.2.1).map I), .blk b1 45 [I ((codeR bs).1), I ((codeR bs).2.1.1), .slice Aq1 (((codeR bs).2.1.2.1).length) cq1, Str ((codeR bs).2.1.2.2.1), I ((codeR bs).2.1.2.2.2)]] := hs14.pick [0, 3] rfl (by decide)
     refine rt (fret (v := .tuple #[.agg #[I ((codeR bs).1), I ((codeR bs).2.1.1), .slice Aq1 (((codeR bs).2.1.2.1).length) cq1, Str ((codeR bs).2.1.2.2.1), I ((codeR bs).2.1.2.2.2)], I ((codeR bs).2.2.1), .bool true]) (resC hs15 1 rfl rfl ag45 rfl (.tmp (.tmp .nil))) rfl ?_)
     have e19 : reqFrom bs = (((codeR bs).1, ((codeR bs).2.1.1, (codeR bs).2.1.2.1, (codeR bs).2.1.2.2.1, (codeR bs).2.1.2.2.2)), (codeR bs).2.2.1, true) := by (rw [req_code]; simp [h3, h6])
     have e20 : (codeR bs).1 = (reqFrom bs).1.1 := by rw [e19]
     have e21 : (codeR bs).2.1.1 = (reqFrom bs).1.2.1 := by rw [e19]
     have e22 : (codeR bs).2.1.2.1 = (reqFrom bs).1.2.2.1 := by rw [e19]
     have e23 : ((codeR bs).2.1.2.1).length = ((reqFrom bs).1.2.2.1).length := by exact congrArg List.length e22
     have e24 : (codeR bs).2.1.2.2.1 = (reqFrom bs).1.2.2.2.1 := by rw [e19]
     have e25 : (codeR bs).2.1.2.2.2 = (reqFrom bs).1.2.2.2.2 := by rw [e19]
     have e26 : (codeR bs).2.2.1 = (reqFrom bs).2.1 := by rw [e19]
     have e27 : true = (reqFrom bs).2.2 := by rw [e19]
     exact ⟨Aq1, cq1, (tup3 (aggv (lc (congrArg (Value.int .i64) e20) (lc (congrArg (Value.int .i64) e21) (lc (slv rfl e23 rfl) (lc (congrArg (Str) e24) (lc (congrArg (Value.int .i64) e25) rfl)))))) (congrArg (Value.int .i64) e26) (congrArg (Value.bool) e27)), ((hs15.pick [0] rfl (by decide)).cast (lc (own_eq (g := I) rfl e23 rfl e22) rfl))⟩
theorem iPickBytes (m : Int) (w : World) (hm : 0 ≤ m ∧ m ≤ 255) : Does Tryz.prog 107 [I m] w (fun v w' => ∃ Ar : Option Addr, ∃ cr : Nat, v = .tuple #[.slice Ar [5, m].length cr, .bool true] ∧ SH w w' [] [.own Ar ([5, m].length) cr 3 1 ([5, m].map I)]) := by
 refine fn_enter (N := 9) Tryz.func107 rfl (by kernel_rfl) rfl rfl rfl ?_
 have hs0 : SH w w [] [] := SH.refl w []
 refine sq (rg (qt rfl (asg (v := ns) rfl) (qt rfl (asg (v := .bool false) rfl) (nl (nN (sq (sq ?_)))))))
 refine rg (qt rfl (mv (v := I m) rfl) (cl trivial rfl (iWithin (x := m) (lo := 0) (hi := 255) (w := _)) ?_))
 rintro _ w1 ⟨rfl, hs1'⟩
 have hs1 := hs0.call0 hs1'
 clear hs1'
 refine qt rfl (nd (p := 0 ≤ m ∧ m ≤ 255) rfl) (nl (nN ?_))
 refine cdd (p := ¬ (0 ≤ m ∧ m ≤ 255)) rfl (fun h1 => absurd h1 (by exact fun h => h hm)) (fun h1 => ?_)
 refine sk (nN (sq (rg (qt rfl (mv (v := I m) rfl) (bsk hs1 sl22 [I 5, I m] [I 5, I m] trivial rfl (fun b1 w2 (hs2 : SH w w2 [] [oI b1 ([5, m] : List Int) 2 3]) => ?_))))))
 refine qt rfl (asg (v := sb b1 (([5, m] : List Int).length) 2) rfl) (qt rfl (asg (v := .bool true) rfl) (nl (nN (rt (fret (v := .tuple #[sb b1 (([5, m] : List Int).length) 2, .bool true]) (.tmp (.tmp .nil)) rfl ?_)))))
 have e1 : ([5, m] : List Int) = [5, m] := by rfl
 have e2 : ([5, m] : List Int).length = [5, m].length := by exact congrArg List.length e1
 exact ⟨(some ⟨b1, 0, none⟩), 2, (tup2 (slv rfl e2 rfl) rfl), (hs2.cast (lc (own_eq (g := I) rfl e2 rfl e1) rfl))⟩
theorem sPickBytes (m : Int) (w : World) (hm : 0 ≤ m ∧ m ≤ 255) : Does Tryz.prog 96 [I m] w (fun v w' => ∃ Ar : Option Addr, ∃ cr : Nat, v = .tuple #[.slice Ar [5, m].length cr, .bool true] ∧ SH w w' [] [.own Ar ([5, m].length) cr 3 1 ([5, m].map I)]) := by
 refine fn_enter (N := 10) Tryz.func96 rfl (by kernel_rfl) rfl rfl rfl ?_
 have hs0 : SH w w [] [] := SH.refl w []
 refine sq (rg (qt rfl (asg (v := ns) rfl) (qt rfl (asg (v := .bool false) rfl) (nl (nN (sq (sq ?_)))))))
 refine rg (qt rfl (mv (v := I m) rfl) (cl trivial rfl (sIn (x := m) (lo := 0) (hi := 255) (w := _)) ?_))
 rintro _ w1 ⟨rfl, hs1'⟩
 have hs1 := hs0.call0 hs1'
 clear hs1'
 refine qt rfl (nd (p := 0 ≤ m ∧ m ≤ 255) rfl) (nl (nN ?_))
 refine cdd (p := ¬ (0 ≤ m ∧ m ≤ 255)) rfl (fun h1 => absurd h1 (by exact fun h => h hm)) (fun h1 => ?_)
 refine sk (nN (sq (rg (qt rfl (mv (v := I m) rfl) (bsk hs1 sl22 [I 5, I m] [I 5, I m] trivial rfl (fun b1 w2 (hs2 : SH w w2 [] [oI b1 ([5, m] : List Int) 2 3]) => ?_))))))
 refine qt rfl (asg (v := sb b1 (([5, m] : List Int).length) 2) rfl) (qt rfl (asg (v := .bool true) rfl) (nl (nN (rt (fret (v := .tuple #[sb b1 (([5, m] : List Int).length) 2, .bool true]) (.tmp (.tmp .nil)) rfl ?_)))))
 have e1 : ([5, m] : List Int) = [5, m] := by rfl
 have e2 : ([5, m] : List Int).length = [5, m].length := by exact congrArg List.length e1
 exact ⟨(some ⟨b1, 0, none⟩), 2, (tup2 (slv rfl e2 rfl) rfl), (hs2.cast (lc (own_eq (g := I) rfl e2 rfl e1) rfl))⟩
theorem iLoginReply (f : Bool) (w : World)  : Does Tryz.prog 109 [.bool f] w (fun v w' => ∃ Ar : Option Addr, ∃ cr : Nat, v = .slice Ar (lrB f).length cr ∧ SH w w' [] [.own Ar ((lrB f).length) cr 3 1 ((lrB f).map I)]) := by
 refine fn_enter (N := 6) Tryz.func109 rfl (by kernel_rfl) rfl rfl rfl ?_
 have hs0 : SH w w [] [] := SH.refl w []
 refine sq (rg (qt rfl (asg (v := ns) rfl) (nl (nN (sq (sq (rg ?_)))))))
 refine qt rfl (mv (v := .bool f) rfl) (nl (nN ?_))
 refine cd (b := f) rfl (fun h1 => ?_) (fun h1 => ?_)
 · refine sq (rg (bsk hs0 sl22 [I 1, I 0] [I 1, I 0] trivial rfl (fun b1 w1 (hs1 : SH w w1 [] [oI b1 ([1, 0] : List Int) 2 3]) => ?_)))
   refine qt rfl (asg (v := sb b1 (([1, 0] : List Int).length) 2) rfl) (nl (nN (rt (tR ?_))))
   refine fret (v := sb b1 (([1, 0] : List Int).length) 2) (.tmp .nil) rfl ?_
   have e1 : ([1, 0] : List Int) = lrB f := by simp [lrB, h1]
   have e2 : ([1, 0] : List Int).length = (lrB f).length := by exact congrArg List.length e1
   exact ⟨(some ⟨b1, 0, none⟩), 2, (slv rfl e2 rfl), (hs1.cast (lc (own_eq (g := I) rfl e2 rfl e1) rfl))⟩
 · refine sk (nN (sq (rg (bsk hs0 sl22 [I 1, I 1] [I 1, I 1] trivial rfl (fun b2 w2 (hs2 : SH w w2 [] [oI b2 ([1, 1] : List Int) 2 3]) => ?_)))))
   refine qt rfl (asg (v := sb b2 (([1, 1] : List Int).length) 2) rfl) (nl (nN (rt (fret (v := sb b2 (([1, 1] : List Int).length) 2) (.tmp .nil) rfl ?_))))
   have e3 : ([1, 1] : List Int) = lrB f := by simp [lrB, h1]
   have e4 : ([1, 1] : List Int).length = (lrB f).length := by exact congrArg List.length e3
   exact ⟨(some ⟨b2, 0, none⟩), 2, (slv rfl e4 rfl), (hs2.cast (lc (own_eq (g := I) rfl e4 rfl e3) rfl))⟩
theorem sLoginReply (f : Bool) (w : World)  : Does Tryz.prog 99 [.bool f] w (fun v w' => ∃ Ar : Option Addr, ∃ cr : Nat, v = .slice Ar (lrB f).length cr ∧ SH w w' [] [.own Ar ((lrB f).length) cr 3 1 ((lrB f).map I)]) := by
 refine fn_enter (N := 6) Tryz.func99 rfl (by kernel_rfl) rfl rfl rfl ?_
 have hs0 : SH w w [] [] := SH.refl w []
 refine sq (rg (qt rfl (asg (v := ns) rfl) (nl (nN (sq (sq (rg ?_)))))))
 refine qt rfl (mv (v := .bool f) rfl) (nl (nN ?_))
 refine cd (b := f) rfl (fun h1 => ?_) (fun h1 => ?_)
 · refine sq (rg (bsk hs0 sl22 [I 1, I 0] [I 1, I 0] trivial rfl (fun b1 w1 (hs1 : SH w w1 [] [oI b1 ([1, 0] : List Int) 2 3]) => ?_)))
   refine qt rfl (asg (v := sb b1 (([1, 0] : List Int).length) 2) rfl) (nl (nN (rt (tR ?_))))
   refine fret (v := sb b1 (([1, 0] : List Int).length) 2) (.tmp .nil) rfl ?_
   have e1 : ([1, 0] : List Int) = lrB f := by simp [lrB, h1]
   have e2 : ([1, 0] : List Int).length = (lrB f).length := by exact congrArg List.length e1
   exact ⟨(some ⟨b1, 0, none⟩), 2, (slv rfl e2 rfl), (hs1.cast (lc (own_eq (g := I) rfl e2 rfl e1) rfl))⟩
 · refine sk (nN (sq (rg (bsk hs0 sl22 [I 1, I 1] [I 1, I 1] trivial rfl (fun b2 w2 (hs2 : SH w w2 [] [oI b2 ([1, 1] : List Int) 2 3]) => ?_)))))
   refine qt rfl (asg (v := sb b2 (([1, 1] : List Int).length) 2) rfl) (nl (nN (rt (fret (v := sb b2 (([1, 1] : List Int).length) 2) (.tmp .nil) rfl ?_))))
   have e3 : ([1, 1] : List Int) = lrB f := by simp [lrB, h1]
   have e4 : ([1, 1] : List Int).length = (lrB f).length := by exact congrArg List.length e3
   exact ⟨(some ⟨b2, 0, none⟩), 2, (slv rfl e4 rfl), (hs2.cast (lc (own_eq (g := I) rfl e4 rfl e3) rfl))⟩
theorem iHelloPick {Awt : Option Addr} {cwt : Nat} (wt : List Int) {Ams : Option Addr} {cms : Nat} (ms : List Int) (w : World) (hwt : Sl w [] 1 Awt wt.length cwt (wt.map I)) (hms : Sl w [] 1 Ams ms.length cms (ms.map I)) : Does Tryz.prog 33 [.slice Awt wt.length cwt, .slice Ams ms.length cms] w (fun v w' => v = .int .i64 (helloPick wt ms) ∧ SH w w' [] []) := by
 refine fn_enter (N := 26) Tryz.func33 rfl (by kernel_rfl) rfl rfl rfl ?_
 have hs0 : SH w w [] [] := SH.refl w []
 have hwt_m : wt.length ≤ 9223372036854775807 := Nat.le_trans hwt.cap hwt.capMax
 have hms_m : ms.length ≤ 9223372036854775807 := Nat.le_trans hms.cap hms.capMax
 refine sq (rg (qt rfl (asg (v := I 0) rfl) (nl (nN (sq (sq (rg ?_)))))))
 refine qt rfl (mv (v := .slice Awt wt.length cwt) rfl) (cl trivial rfl (iAreMethods (Ams := Awt) (cms := cwt) (ms := wt) (w := _) (hms := (hwt.up0 hs0))) ?_)
 rintro _ w1 ⟨rfl, hs1'⟩
 have hs1 := hs0.call0 hs1'
 clear hs1'
 refine qt rfl (nt (b := methOk wt) rfl) (qt rfl (mv (v := .bool (!(methOk wt))) rfl) ?_)
 refine spl (b := !(methOk wt)) 10 rfl (fun h1 => ?_) (fun h1 => ?_)
 · have h2 : (methOk wt) = false := by simpa using h1
   refine gk true rfl rfl rfl rfl rfl (gk true rfl rfl rfl rfl rfl (gk true rfl rfl rfl rfl rfl (qt rfl (pt (v := .bool true) rfl rfl) (nl (nN (cdt rfl (sq ?_)))))))
   refine rg (qt rfl (asg (v := I 255) rfl) (nl (nN (rt (tR ?_)))))
   refine fret (v := I 255) (.tmp .nil) rfl ?_
   have e1 : 255 = helloPick wt ms := by exact Eq.symm (pick_bad (by simp [h2]))
   exact ⟨(congrArg (Value.int .i64) e1), hs1⟩
 · have h3 : (methOk wt) = true := by simpa using h1
   refine q ⟨_, rfl, rfl⟩ rfl rfl (mv (v := .slice Ams ms.length cms) rfl) (cl ⟨_, rfl, rfl⟩ rfl (iAreMethods (Ams := Ams) (cms := cms) (ms := ms) (w := _) (hms := (hms.up0 hs1))) ?_)
   rintro _ w2 ⟨rfl, hs2'⟩
   have hs2 := hs1.call0 hs2'
   clear hs2'
   refine q ⟨_, rfl, rfl⟩ rfl rfl (nt (b := methOk ms) rfl) (qt rfl (pf (v := .bool (!(methOk ms))) rfl rfl) (nl (nN ?_)))
   refine cd (b := !(methOk ms)) rfl (fun h4 => ?_) (fun h4 => ?_)
   · have h5 : (methOk ms) = false := by simpa using h4
     refine sq (rg (qt rfl (asg (v := I 255) rfl) (nl (nN (rt (tR ?_))))))
     refine fret (v := I 255) (.tmp .nil) rfl ?_
     have e2 : 255 = helloPick wt ms := by exact Eq.symm (pick_bad (by simp [h3, h5]))
     exact ⟨(congrArg (Value.int .i64) e2), hs2⟩
   · have h6 : (methOk ms) = true := by simpa using h4
     refine sk (nN (sq (sq (rg (qt rfl (mv (v := .slice Awt wt.length cwt) rfl) (qt rfl (lnA (n := wt.length) sl22 rfl) (qt rfl (mv (v := I 0) rfl) ?_)))))))
     refine nl (nN (bl (lp (σ := Nat) (fun (k : Nat) f w' => Has f [(1, .slice Ams ms.length cms), (15, .slice Awt wt.length cwt), (16, I ((wt.length : Nat) : Int)), (17, I ((k : Nat) : Int))] ∧ (k ≤ wt.length) ∧ (∀ j, j < k → wt.getD j 0 ∉ ms) ∧ SH w w' [] []) (fun k => wt.length - k) 0 ⟨⟨rfl, rfl, rfl, rfl, trivial⟩, (by simp), (by intro j hj; omega), hs2⟩ ?_)))
     rintro k f w3 ⟨hf, hk, hn, hs3⟩
     obtain ⟨g1, rfl⟩ := has_upd hf
     clear hf
     refine sq (rg (qt rfl (lss (k := .i64) (a := ((k : Nat) : Int)) (b := ((wt.length : Nat) : Int)) rfl rfl) (nl (nN (sq ?_)))))
     refine cdd (p := ((k : Nat) : Int) < ((wt.length : Nat) : Int)) rfl (fun h7 => ?_) (fun h7 => ?_)
     · refine sk (nN (sq (bl (sq (rg (ixw1 k sl22 rfl rfl hwt (by omega) (getm I 0 (by omega)) trivial rfl (fun a1 ha1 => ?_)))))))
       refine qt rfl (lda (v := I (wt.getD k 0)) hs3 ha1 (fun _ h => h) rfl rfl one3) (qt rfl (asg (v := I (wt.getD k 0)) rfl) (nl (nN (sq (rg (qt rfl (mv (v := .slice Ams ms.length cms) rfl) (qt rfl (mv (v := I (wt.getD k 0)) rfl) ?_)))))))
       refine cl trivial rfl (slContains (Azs := Ams) (czs := cms) (zs := ms) (n := wt.getD k 0) (w := _) (hzs := (hms.up0 hs3))) ?_
       rintro _ w4 ⟨rfl, hs4'⟩
       have hs4 := hs3.call0 hs4'
       clear hs4'
       refine nl (nN ?_)
       refine cdd (p := (wt.getD k 0) ∈ ms) rfl (fun h8 => ?_) (fun h8 => ?_)
       · refine sq (rg (qt rfl (mv (v := I (wt.getD k 0)) rfl) (qt rfl (asg (v := I (wt.getD k 0)) rfl) (nl (nN ?_)))))
         refine rt (bR (tR (tR (bR (tR ?_)))))
         refine fret (v := I (wt.getD k 0)) (.tmp .nil) rfl ?_
         have e3 : wt.getD k 0 = helloPick wt ms := by exact Eq.symm (pick_yes (by assumption) (by assumption) (by omega) hn (by assumption))
         exact ⟨(congrArg (Value.int .i64) e3), hs4⟩
       · refine sk (bN (nN (rg (qt rfl (add (a := ((k : Nat) : Int)) (b := 1) rfl rfl (by exact ⟨by omega, by omega⟩)) (qt rfl (mv (v := I (((k : Nat) : Int) + 1)) rfl) (nl (nN ?_)))))))
         refine ⟨(k + 1), ⟨⟨rfl, rfl, rfl, rfl, trivial⟩, (by omega), (by intro j hj; rcases Nat.lt_succ_iff_lt_or_eq.1 hj with h | h; exact hn j h; subst h; assumption), hs4⟩, ?_⟩
         omega
     · refine ex (tE (tE (bE ?_)))
       refine nN (sq (rg (qt rfl (asg (v := I 255) rfl) (nl (nN (rt (fret (v := I 255) (.tmp .nil) rfl ?_)))))))
       have e4 : 255 = helloPick wt ms := by exact Eq.symm (pick_none (by omega) hn)
       exact ⟨(congrArg (Value.int .i64) e4), hs3⟩
theorem sL1Bytes {Azs : Option Addr} {czs : Nat} (zs : List Int) (w : World) (hzs : Sl w [] 1 Azs zs.length czs (zs.map I)) (hz : ∀ x ∈ zs, 0 ≤ x ∧ x ≤ 255) (hzl : zs.length ≤ 65535) : Does Tryz.prog 144 [.slice Azs zs.length czs] w (fun v w' => v = Str (bT zs) ∧ SH w w' [] []) := by
 refine fn_enter (N := 22) Tryz.func144 rfl (by kernel_rfl) rfl rfl rfl ?_
 have hs0 : SH w w [] [] := SH.refl w []
 have hzs_m : zs.length ≤ 9223372036854775807 := Nat.le_trans hzs.cap hzs.capMax
 refine sq (rg (qt rfl (asg (v := Str []) rfl) (nl (nN (sq (rg (bsk hs0 sl39 [] [] trivial rfl (fun b1 w1 (hs1 : SH w w1 [] [.own (some ⟨b1, 0, none⟩) (([] : List UInt8).length) 0 5 1 (([] : List UInt8).map U)]) => ?_))))))))
 refine qt rfl (asg (v := sb b1 (([] : List UInt8).length) 0) rfl) (nl (nN (sq (sq (rg (qt rfl (asg (v := I 0) rfl) (nl ?_)))))))
 refine nN (bl ?_)
 have e1 : ([] : List UInt8) = (bT zs).take 0 := by simp
 have e2 : ([] : List UInt8).length = ((bT zs).take 0).length := by rw [e1]
 refine lp (σ := (Option Addr) × Nat × Nat) (fun ⟨Ag3, cg3, k⟩ f w' => Has f [(0, .slice Azs zs.length czs), (3, .slice Ag3 (((bT zs).take k).length) cg3), (4, I ((k : Nat) : Int))] ∧ (k ≤ zs.length) ∧ SH w w' [] [.own Ag3 (((bT zs).take k).length) cg3 5 1 (((bT zs).take k).map U)]) (fun ⟨Ag3, cg3, k⟩ => zs.length - k) ((some ⟨b1, 0, none⟩), 0, 0) ⟨⟨rfl, (show (.slice (some ⟨b1, 0, none⟩) (([] : List UInt8).length) 0 : Value) = .slice (some ⟨b1, 0, none⟩) (((bT zs).take 0).length) 0 from slv rfl e2 rfl), rfl, trivial⟩, (by simp), (hs1.cast (lc (own_eq (g := U) rfl e2 rfl e1) rfl))⟩ ?_
 rintro ⟨Ag3, cg3, k⟩ f w2 ⟨hf, hk, hs2⟩
 obtain ⟨g1, rfl⟩ := has_upd hf
 clear hf
 refine sq (sq (rg (qt rfl (mv (v := I ((k : Nat) : Int)) rfl) (qt rfl (mv (v := .slice Azs zs.length czs) rfl) (qt rfl (lnA (n := zs.length) sl22 rfl) (qt rfl (lss (k := .i64) (a := ((k : Nat) : Int)) (b := ((zs.length : Nat) : Int)) rfl rfl) (nl ?_)))))))
 refine nN ?_
 refine cdd (p := ((k : Nat) : Int) < ((zs.length : Nat) : Int)) rfl (fun h1 => ?_) (fun h1 => ?_)
 · refine sk (nN (sq (bl (rg (qt rfl (mv (v := .slice Ag3 (((bT zs).take k).length) cg3) rfl) (qt rfl (mv (v := .slice Azs zs.length czs) rfl) (qt rfl (mv (v := I ((k : Nat) : Int)) rfl) ?_)))))))
   refine ixw1 k sl22 rfl rfl hzs (by omega) (getm I 0 (by omega)) trivial rfl (fun a1 ha1 => ?_)
   refine qt rfl (lda (v := I (zs.getD k 0)) hs2 ha1 (fun _ h => h) rfl rfl one3) (qt rfl (cvB (a := zs.getD k 0) (s := .i64) ti3 ti5 rfl (by have hgb := getD_byte hz k; omega) (by have hgb := getD_byte hz k; omega)) (bsk hs2 sl39 [.int .u8 (((UInt8.ofNat (zs.getD k 0).toNat).toNat : Nat) : Int)] [.int .u8 (((UInt8.ofNat (zs.getD k 0).toNat).toNat : Nat) : Int)] trivial rfl (fun b2 w3 (hs3 : SH w w3 [] [.own Ag3 (((bT zs).take k).length) cg3 5 1 (((bT zs).take k).map U), .own (some ⟨b2, 0, none⟩) (([(UInt8.ofNat (zs.getD k 0).toNat)] : List UInt8).length) 1 5 1 (([(UInt8.ofNat (zs.getD k 0).toNat)] : List UInt8).map U)]) => ?_)))
   refine apm (g := U) (ys := (bT zs).take k) (zs := ([(UInt8.ofNat (zs.getD k 0).toNat)] : List UInt8)) hs3 0 rfl sl39 rfl rfl rfl (hs3.sl0 1 rfl) (fun _ => rfl) (by unfold maxLen; have hbt := bT_len zs; simp only [List.length_take, List.length_cons, List.length_nil]; omega) (by have hbt := bT_len zs; simp only [List.length_take, List.length_cons, List.length_nil]; omega) trivial rfl (fun A1 c1 w4 (hs4 : SH w w4 [] [.own (some ⟨b2, 0, none⟩) (([(UInt8.ofNat (zs.getD k 0).toNat)] : List UInt8).length) 1 5 1 (([(UInt8.ofNat (zs.getD k 0).toNat)] : List UInt8).map U), .own A1 ((((bT zs).take k) ++ ([(UInt8.ofNat (zs.getD k 0).toNat)] : List UInt8)).length) c1 5 1 ((((bT zs).take k) ++ ([(UInt8.ofNat (zs.getD k 0).toNat)] : List UInt8)).map U)]) => ?_)
   refine qt rfl (asg (v := .slice A1 ((((bT zs).take k) ++ ([(UInt8.ofNat (zs.getD k 0).toNat)] : List UInt8)).length) c1) rfl) (nl (bN (nN (rg (qt rfl (mv (v := I ((k : Nat) : Int)) rfl) (qt rfl (add (a := ((k : Nat) : Int)) (b := 1) rfl rfl (by exact ⟨by omega, by omega⟩)) (qt rfl (asg (v := I (((k : Nat) : Int) + 1)) rfl) ?_)))))))
   refine nl (nN ?_)
   have e3 : ((bT zs).take k) ++ ([(UInt8.ofNat (zs.getD k 0).toNat)] : List UInt8) = (bT zs).take (k + 1) := by exact bT_app (by omega)
   have e4 : (((bT zs).take k) ++ ([(UInt8.ofNat (zs.getD k 0).toNat)] : List UInt8)).length = ((bT zs).take (k + 1)).length := by rw [e3]
   refine ⟨(A1, c1, k + 1), ⟨⟨rfl, (show (.slice A1 ((((bT zs).take k) ++ ([(UInt8.ofNat (zs.getD k 0).toNat)] : List UInt8)).length) c1 : Value) = .slice A1 (((bT zs).take (k + 1)).length) c1 from slv rfl e4 rfl), rfl, trivial⟩, (by omega), ((hs4.pick [1] rfl (by decide)).cast (lc (own_eq (g := U) rfl e4 rfl e3) rfl))⟩, ?_⟩
   show zs.length - (k + 1) < zs.length - k
   omega
 · refine ex (tE (tE (bE ?_)))
   refine nN (sq (rg (qt rfl (mv (v := .slice Ag3 (((bT zs).take k).length) cg3) rfl) (qt rfl (cvS (l := (bT zs).take k) us39 ti5 st9 rfl (hs2.sl0 0 rfl)) (qt rfl (asg (v := Str ((bT zs).take k)) rfl) (nl (nN ?_)))))))
   refine rt (fret (v := Str ((bT zs).take k)) (.tmp .nil) rfl ?_)
   have e5 : (bT zs).take k = bT zs := by exact bT_all (by omega)
   exact ⟨(congrArg (Str) e5), (hs2.pick [] rfl (by decide))⟩
theorem sL1Of {Azs : Option Addr} {czs : Nat} (zs : List Int) (w : World) (hzs : Sl w [] 1 Azs zs.length czs (zs.map I)) (hz : ∀ x ∈ zs, 0 ≤ x ∧ x ≤ 255) (hzl : zs.length ≤ 2) : Does Tryz.prog 187 [.slice Azs zs.length czs] w (fun v w' => v = .int .i64 (ofB zs) ∧ SH w w' [] []) := by
 refine fn_enter (N := 19) Tryz.func187 rfl (by kernel_rfl) rfl rfl rfl ?_
 have hs0 : SH w w [] [] := SH.refl w []
 have hzs_m : zs.length ≤ 9223372036854775807 := Nat.le_trans hzs.cap hzs.capMax
 refine sq (rg (qt rfl (asg (v := I 0) rfl) (nl (nN (sq (rg (qt rfl (asg (v := I 0) rfl) ?_)))))))
 refine nl (nN (sq (sq (rg (qt rfl (asg (v := I 0) rfl) (nl (nN ?_)))))))
 refine bl (lp (σ := Nat) (fun (k : Nat) f w' => Has f [(0, .slice Azs zs.length czs), (3, I (ofB (zs.take k))), (4, I ((k : Nat) : Int))] ∧ (k ≤ zs.length) ∧ SH w w' [] []) (fun k => zs.length - k) 0 ⟨⟨rfl, (show (I 0 : Value) = I (ofB (zs.take 0)) from congrArg (Value.int .i64) (by rfl)), rfl, trivial⟩, (by simp), hs0⟩ ?_)
 rintro k f w1 ⟨hf, hk, hs1⟩
 obtain ⟨g1, rfl⟩ := has_upd hf
 clear hf
 refine sq (sq (rg (qt rfl (mv (v := I ((k : Nat) : Int)) rfl) (qt rfl (mv (v := .slice Azs zs.length czs) rfl) (qt rfl (lnA (n := zs.length) sl22 rfl) (qt rfl (lss (k := .i64) (a := ((k : Nat) : Int)) (b := ((zs.length : Nat) : Int)) rfl rfl) (nl ?_)))))))
 refine nN ?_
 refine cdd (p := ((k : Nat) : Int) < ((zs.length : Nat) : Int)) rfl (fun h1 => ?_) (fun h1 => ?_)
 · refine sk (nN (sq (bl (rg (qt rfl (mv (v := I (ofB (zs.take k))) rfl) (qt rfl (mul (a := 256) (b := ofB (zs.take k)) rfl rfl (by (have hob := ofB_bd hz k hzl; have hgb := getD_byte hz k; have hk1 : k ≤ 1 := (by omega); exact ⟨by omega, by omega⟩))) (qt rfl (mv (v := .slice Azs zs.length czs) rfl) ?_)))))))
   refine qt rfl (mv (v := I ((k : Nat) : Int)) rfl) (ixw1 k sl22 rfl rfl hzs (by (first | omega | (simp; done) | (simp; omega))) (getm I 0 (by (first | omega | (simp; done) | (simp; omega)))) trivial rfl (fun a1 ha1 => ?_))
   refine qt rfl (lda (v := I (zs.getD k 0)) hs1 ha1 (fun _ h => h) rfl rfl one3) (qt rfl (add (a := 256 * (ofB (zs.take k))) (b := zs.getD k 0) rfl rfl (by (have hob := ofB_bd hz k hzl; have hgb := getD_byte hz k; have hk1 : k ≤ 1 := (by omega); exact ⟨by omega, by omega⟩))) (qt rfl (asg (v := I ((256 * (ofB (zs.take k))) + (zs.getD k 0))) rfl) (nl (bN (nN (rg (qt rfl (mv (v := I ((k : Nat) : Int)) rfl) ?_)))))))
   refine qt rfl (add (a := ((k : Nat) : Int)) (b := 1) rfl rfl (by (exact ⟨by omega, by omega⟩))) (qt rfl (asg (v := I (((k : Nat) : Int) + 1)) rfl) (nl (nN ?_)))
   refine ⟨(k + 1), ⟨⟨rfl, (show (I ((256 * (ofB (zs.take k))) + (zs.getD k 0)) : Value) = I (ofB (zs.take (k + 1))) from congrArg (Value.int .i64) (by exact (ofB_take (by omega)).symm)), rfl, trivial⟩, (by omega), hs1⟩, ?_⟩
   omega
 · refine ex (tE (tE (bE ?_)))
   refine nN (sq (rg (qt rfl (mv (v := I (ofB (zs.take k))) rfl) (qt rfl (asg (v := I (ofB (zs.take k))) rfl) (nl (nN (rt ?_)))))))
   refine fret (v := I (ofB (zs.take k))) (.tmp .nil) rfl ?_
   have e1 : ofB (zs.take k) = ofB zs := by rw [List.take_of_length_le (by omega)]
   exact ⟨(congrArg (Value.int .i64) e1), hs1⟩
theorem sHelloFrom {Abs : Option Addr} {cbs : Nat} (bs : List Int) (w : World) (hbs : Sl w [] 1 Abs bs.length cbs (bs.map I)) : Does Tryz.prog 94 [.slice Abs bs.length cbs] w (fun v w' => ∃ Ar : Option Addr, ∃ cr : Nat, v = .tuple #[.slice Ar ((helloFrom bs).1).length cr, .int .i64 ((helloFrom bs).2.1), .bool ((helloFrom bs).2.2)] ∧ SH w w' [] [.own Ar (((helloFrom bs).1).length) cr 3 1 (((helloFrom bs).1).map I)]) := by
 refine fn_enter (N := 46) Tryz.func94 rfl (by kernel_rfl) rfl rfl rfl ?_
 have hs0 : SH w w [] [] := SH.refl w []
 have hbs_m : bs.length ≤ 9223372036854775807 := Nat.le_trans hbs.cap hbs.capMax
 refine sq (rg (qt rfl (asg (v := ns) rfl) (qt rfl (asg (v := I 0) rfl) (qt rfl (asg (v := .bool false) rfl) (nl (nN (sq ?_)))))))
 refine sq (rg (qt rfl (mv (v := .slice Abs bs.length cbs) rfl) (cl trivial rfl (sBytesValid (Azs := Abs) (czs := cbs) (zs := bs) (w := _) (hzs := (hbs.up0 hs0))) ?_)))
 rintro _ w1 ⟨rfl, hs1'⟩
 have hs1 := hs0.call0 hs1'
 clear hs1'
 refine qt rfl (nt (b := isBytes bs) rfl) (qt rfl (mv (v := .bool (!(isBytes bs))) rfl) ?_)
 refine spl (b := !(isBytes bs)) 9 rfl (fun h1 => ?_) (fun h1 => ?_)
 · have h2 : (isBytes bs) = false := by simpa using h1
   refine gk true rfl rfl rfl rfl rfl (gk true rfl rfl rfl rfl rfl (gk true rfl rfl rfl rfl rfl (qt rfl (pt (v := .bool true) rfl rfl) (qt rfl (mv (v := .bool true) rfl) (gk true rfl rfl rfl rfl rfl (gk true rfl rfl rfl rfl rfl (gk true rfl rfl rfl rfl rfl ?_)))))))
   refine gk true rfl rfl rfl rfl rfl (qt rfl (pt (v := .bool true) rfl rfl) (qt rfl (mv (v := .bool true) rfl) (gk true rfl rfl rfl rfl rfl (gk true rfl rfl rfl rfl rfl (gk true rfl rfl rfl rfl rfl (gk true rfl rfl rfl rfl rfl (gk true rfl rfl rfl rfl rfl ?_)))))))
   refine gk true rfl rfl rfl rfl rfl (gk true rfl rfl rfl rfl rfl (qt rfl (pt (v := .bool true) rfl rfl) (nl (nN (cdt rfl (sq (rg ?_)))))))
   refine bsk hs1 sl22 [] [] trivial rfl (fun b1 w2 (hs2 : SH w w2 [] [oI b1 ([] : List Int) 0 3]) => ?_)
   refine qt rfl (asg (v := sb b1 (([] : List Int).length) 0) rfl) (qt rfl (asg (v := I 0) rfl) (qt rfl (asg (v := .bool false) rfl) (nl (nN (rt (tR ?_))))))
   refine fret (v := .tuple #[sb b1 (([] : List Int).length) 0, I 0, .bool false]) (.tmp (.tmp (.tmp .nil))) rfl ?_
   have e1 : helloFrom bs = (([] : List Int), 0, false) := by exact hello_n (.inl (by assumption))
   have e2 : ([] : List Int) = (helloFrom bs).1 := by rw [e1]
   have e3 : ([] : List Int).length = ((helloFrom bs).1).length := by exact congrArg List.length e2
   have e4 : 0 = (helloFrom bs).2.1 := by rw [e1]
   have e5 : false = (helloFrom bs).2.2 := by rw [e1]
   exact ⟨(some ⟨b1, 0, none⟩), 0, (tup3 (slv rfl e3 rfl) (congrArg (Value.int .i64) e4) (congrArg (Value.bool) e5)), (hs2.cast (lc (own_eq (g := I) rfl e3 rfl e2) rfl))⟩
 · have h3 : (isBytes bs) = true := by simpa using h1
   refine q ⟨_, rfl, rfl⟩ rfl rfl (mv (v := .slice Abs bs.length cbs) rfl) (q ⟨_, rfl, rfl⟩ rfl rfl (lnA (n := bs.length) sl22 rfl) (q ⟨_, rfl, rfl⟩ rfl rfl (lss (k := .i64) (a := ((bs.length : Nat) : Int)) (b := 3) rfl rfl) (qt rfl (pf (v := .bool (decide (((bs.length : Nat) : Int) < 3))) rfl rfl) (qt rfl (mv (v := .bool (decide (((bs.length : Nat) : Int) < 3))) rfl) ?_))))
   refine spd (p := ((bs.length : Nat) : Int) < 3) 14 rfl (fun h4 => ?_) (fun h4 => ?_)
   · refine gk true rfl rfl rfl rfl rfl (gk true rfl rfl rfl rfl rfl (gk true rfl rfl rfl rfl rfl (gk true rfl rfl rfl rfl rfl (qt rfl (pt (v := .bool true) rfl rfl) (qt rfl (mv (v := .bool true) rfl) (gk true rfl rfl rfl rfl rfl (gk true rfl rfl rfl rfl rfl ?_)))))))
     refine gk true rfl rfl rfl rfl rfl (gk true rfl rfl rfl rfl rfl (gk true rfl rfl rfl rfl rfl (gk true rfl rfl rfl rfl rfl (gk true rfl rfl rfl rfl rfl (qt rfl (pt (v := .bool true) rfl rfl) (nl (nN ?_)))))))
     refine cdt rfl (sq (rg (bsk hs1 sl22 [] [] trivial rfl (fun b2 w3 (hs3 : SH w w3 [] [oI b2 ([] : List Int) 0 3]) => ?_))))
     refine qt rfl (asg (v := sb b2 (([] : List Int).length) 0) rfl) (qt rfl (asg (v := I 0) rfl) (qt rfl (asg (v := .bool false) rfl) (nl (nN (rt (tR ?_))))))
     refine fret (v := .tuple #[sb b2 (([] : List Int).length) 0, I 0, .bool false]) (.tmp (.tmp (.tmp .nil))) rfl ?_
     have e6 : helloFrom bs = (([] : List Int), 0, false) := by exact hello_n (.inr (.inl (by omega)))
     have e7 : ([] : List Int) = (helloFrom bs).1 := by rw [e6]
     have e8 : ([] : List Int).length = ((helloFrom bs).1).length := by exact congrArg List.length e7
     have e9 : 0 = (helloFrom bs).2.1 := by rw [e6]
     have e10 : false = (helloFrom bs).2.2 := by rw [e6]
     exact ⟨(some ⟨b2, 0, none⟩), 0, (tup3 (slv rfl e8 rfl) (congrArg (Value.int .i64) e9) (congrArg (Value.bool) e10)), (hs3.cast (lc (own_eq (g := I) rfl e8 rfl e7) rfl))⟩
   · refine q ⟨_, rfl, rfl⟩ rfl rfl (mv (v := .slice Abs bs.length cbs) rfl) (ixw1 0 sl22 rfl rfl hbs (by (first | omega | (simp; done) | (simp; omega))) (getm I 0 (by (first | omega | (simp; done) | (simp; omega)))) ⟨_, rfl, rfl⟩ rfl (fun a1 ha1 => ?_))
     refine q ⟨_, rfl, rfl⟩ rfl rfl (lda (v := I (bs.getD 0 0)) hs1 ha1 (fun _ h => h) rfl rfl one3) (q ⟨_, rfl, rfl⟩ rfl rfl (nei (k := .i64) (a := bs.getD 0 0) (b := 5) rfl rfl) (qt rfl (pf (v := .bool (decide ((bs.getD 0 0) ≠ 5))) rfl rfl) (qt rfl (mv (v := .bool (decide ((bs.getD 0 0) ≠ 5))) rfl) ?_)))
     refine spd (p := (bs.getD 0 0) ≠ 5) 20 rfl (fun h5 => ?_) (fun h5 => ?_)
     · refine gk true rfl rfl rfl rfl rfl (gk true rfl rfl rfl rfl rfl (gk true rfl rfl rfl rfl rfl (gk true rfl rfl rfl rfl rfl (gk true rfl rfl rfl rfl rfl (gk true rfl rfl rfl rfl rfl (gk true rfl rfl rfl rfl rfl (qt rfl (pt (v := .bool true) rfl rfl) ?_)))))))
       refine nl (nN (cdt rfl (sq (rg (bsk hs1 sl22 [] [] trivial rfl (fun b3 w4 (hs4 : SH w w4 [] [oI b3 ([] : List Int) 0 3]) => ?_))))))
       refine qt rfl (asg (v := sb b3 (([] : List Int).length) 0) rfl) (qt rfl (asg (v := I 0) rfl) (qt rfl (asg (v := .bool false) rfl) (nl (nN (rt (tR ?_))))))
       refine fret (v := .tuple #[sb b3 (([] : List Int).length) 0, I 0, .bool false]) (.tmp (.tmp (.tmp .nil))) rfl ?_
       have e11 : helloFrom bs = (([] : List Int), 0, false) := by exact hello_n (.inr (.inr (.inl (by assumption))))
       have e12 : ([] : List Int) = (helloFrom bs).1 := by rw [e11]
       have e13 : ([] : List Int).length = ((helloFrom bs).1).length := by exact congrArg List.length e12
       have e14 : 0 = (helloFrom bs).2.1 := by rw [e11]
       have e15 : false = (helloFrom bs).2.2 := by rw [e11]
       exact ⟨(some ⟨b3, 0, none⟩), 0, (tup3 (slv rfl e13 rfl) (congrArg (Value.int .i64) e14) (congrArg (Value.bool) e15)), (hs4.cast (lc (own_eq (g := I) rfl e13 rfl e12) rfl))⟩
     · refine q ⟨_, rfl, rfl⟩ rfl rfl (mv (v := .slice Abs bs.length cbs) rfl) (ixw1 1 sl22 rfl rfl hbs (by (first | omega | (simp; done) | (simp; omega))) (getm I 0 (by (first | omega | (simp; done) | (simp; omega)))) ⟨_, rfl, rfl⟩ rfl (fun a2 ha2 => ?_))
       refine q ⟨_, rfl, rfl⟩ rfl rfl (lda (v := I (bs.getD 1 0)) hs1 ha2 (fun _ h => h) rfl rfl one3) (q ⟨_, rfl, rfl⟩ rfl rfl (mv (v := .slice Abs bs.length cbs) rfl) (q ⟨_, rfl, rfl⟩ rfl rfl (lnA (n := bs.length) sl22 rfl) (q ⟨_, rfl, rfl⟩ rfl rfl (sub (a := ((bs.length : Nat) : Int)) (b := 2) rfl rfl (by (exact ⟨by omega, by omega⟩))) (q ⟨_, rfl, rfl⟩ rfl rfl (gtr (k := .i64) (a := bs.getD 1 0) (b := ((bs.length : Nat) : Int) - 2) rfl rfl) (qt rfl (pf (v := .bool (decide ((((bs.length : Nat) : Int) - 2) < (bs.getD 1 0)))) rfl rfl) (nl (nN ?_)))))))
       refine cdd (p := (((bs.length : Nat) : Int) - 2) < (bs.getD 1 0)) rfl (fun h6 => ?_) (fun h6 => ?_)
       · refine sq (rg (bsk hs1 sl22 [] [] trivial rfl (fun b4 w5 (hs5 : SH w w5 [] [oI b4 ([] : List Int) 0 3]) => ?_)))
         refine qt rfl (asg (v := sb b4 (([] : List Int).length) 0) rfl) (qt rfl (asg (v := I 0) rfl) (qt rfl (asg (v := .bool false) rfl) (nl (nN (rt (tR ?_))))))
         refine fret (v := .tuple #[sb b4 (([] : List Int).length) 0, I 0, .bool false]) (.tmp (.tmp (.tmp .nil))) rfl ?_
         have e16 : helloFrom bs = (([] : List Int), 0, false) := by exact hello_n (.inr (.inr (.inr (.inl (by omega)))))
         have e17 : ([] : List Int) = (helloFrom bs).1 := by rw [e16]
         have e18 : ([] : List Int).length = ((helloFrom bs).1).length := by exact congrArg List.length e17
         have e19 : 0 = (helloFrom bs).2.1 := by rw [e16]
         have e20 : false = (helloFrom bs).2.2 := by rw [e16]
         exact ⟨(some ⟨b4, 0, none⟩), 0, (tup3 (slv rfl e18 rfl) (congrArg (Value.int .i64) e19) (congrArg (Value.bool) e20)), (hs5.cast (lc (own_eq (g := I) rfl e18 rfl e17) rfl))⟩
       · refine sk (nN (sq (rg (bsk hs1 sl22 [] [] trivial rfl (fun b5 w6 (hs6 : SH w w6 [] [oI b5 ([] : List Int) 0 3]) => ?_)))))
         refine qt rfl (mv (v := .slice Abs bs.length cbs) rfl) (qt rfl (mv (v := .slice Abs bs.length cbs) rfl) (ixw1 1 sl22 rfl rfl hbs (by (first | omega | (simp; done) | (simp; omega))) (getm I 0 (by (first | omega | (simp; done) | (simp; omega)))) trivial rfl (fun a3 ha3 => ?_)))
         refine qt rfl (lda (v := I (bs.getD 1 0)) hs6 ha3 (fun _ h => h) rfl rfl one3) (qt rfl (add (a := 2) (b := bs.getD 1 0) rfl rfl (by have hg1 := isBytes_get (by assumption : isBytes bs = true) (k := 1) (by omega); (try simp only [List.length_drop, List.length_take]); have hbl := isBytes_len (by assumption : isBytes bs = true); exact ⟨by omega, by omega⟩)) (qt rfl (cum (zs := bs) 2 ((2 + (bs.getD 1 0)).toNat) sl22 rfl rfl (ieq (x := 2 + (bs.getD 1 0)) (by (have hg1 := isBytes_get (by assumption : isBytes bs = true) (k := 1) (by omega); omega))) (by (have hg1 := isBytes_get (by assumption : isBytes bs = true) (k := 1) (by omega); first | omega | (simp; done) | (simp; omega))) (by (first | omega | (simp; done) | (simp; omega))) hbs.cap) (apm (g := I) (ys := ([] : List Int)) (zs := (bs.take ((2 + (bs.getD 1 0)).toNat)).drop 2) hs6 0 rfl sl22 rfl rfl rfl (Sl.cutm (hbs.up0 hs6) (by (have hg1 := isBytes_get (by assumption : isBytes bs = true) (k := 1) (by omega); first | omega | (simp; done) | (simp; omega))) (by (first | omega | (simp; done) | (simp; omega)))) (fun _ => rfl) (by unfold maxLen; have hg1 := isBytes_get (by assumption : isBytes bs = true) (k := 1) (by omega); simp only [List.length_nil, List.length_drop, List.length_take]; have hbl := isBytes_len (by assumption : isBytes bs = true); omega) (by have hg1 := isBytes_get (by assumption : isBytes bs = true) (k := 1) (by omega); simp only [List.length_nil, List.length_drop, List.length_take]; have hbl := isBytes_len (by assumption : isBytes bs = true); omega) trivial rfl (fun A1 c1 w7 (hs7 : SH w w7 [] [.own A1 (((bs.take ((2 + (bs.getD 1 0)).toNat)).drop 2).length) c1 3 1 (((bs.take ((2 + (bs.getD 1 0)).toNat)).drop 2).map I)]) => ?_))))
         refine qt rfl (asg (v := .slice A1 (((bs.take ((2 + (bs.getD 1 0)).toNat)).drop 2).length) c1) rfl) (nl (nN (sq (sq (rg (qt rfl (mv (v := .slice A1 (((bs.take ((2 + (bs.getD 1 0)).toNat)).drop 2).length) c1) rfl) (cl trivial rfl (sL5Ok (Ams := A1) (cms := c1) (ms := (bs.take ((2 + (bs.getD 1 0)).toNat)).drop 2) (w := _) (hms := (hs7.sl0 0 rfl))) ?_)))))))
         rintro _ w8 ⟨rfl, hs8'⟩
         have hs8 := hs7.call0 hs8'
         clear hs8'
         refine qt rfl (nt (b := methOk ((bs.take ((2 + (bs.getD 1 0)).toNat)).drop 2)) rfl) (nl (nN ?_))
         refine cd (b := !(methOk ((bs.take ((2 + (bs.getD 1 0)).toNat)).drop 2))) rfl (fun h7 => ?_) (fun h7 => ?_)
         · have h8 : (methOk ((bs.take ((2 + (bs.getD 1 0)).toNat)).drop 2)) = false := by simpa using h7
           refine sq (rg (bsk hs8 sl22 [] [] trivial rfl (fun b6 w9 (hs9 : SH w w9 [] [.own A1 (((bs.take ((2 + (bs.getD 1 0)).toNat)).drop 2).length) c1 3 1 (((bs.take ((2 + (bs.getD 1 0)).toNat)).drop 2).map I), oI b6 ([] : List Int) 0 3]) => ?_)))
           refine qt rfl (asg (v := sb b6 (([] : List Int).length) 0) rfl) (qt rfl (asg (v := I 0) rfl) (qt rfl (asg (v := .bool false) rfl) (nl (nN (rt (tR ?_))))))
           refine fret (v := .tuple #[sb b6 (([] : List Int).length) 0, I 0, .bool false]) (.tmp (.tmp (.tmp .nil))) rfl ?_
           have e21 : helloFrom bs = (([] : List Int), 0, false) := by exact hello_n (.inr (.inr (.inr (.inr ⟨by assumption, by omega, by assumption⟩))))
           have e22 : ([] : List Int) = (helloFrom bs).1 := by rw [e21]
           have e23 : ([] : List Int).length = ((helloFrom bs).1).length := by exact congrArg List.length e22
           have e24 : 0 = (helloFrom bs).2.1 := by rw [e21]
           have e25 : false = (helloFrom bs).2.2 := by rw [e21]
           exact ⟨(some ⟨b6, 0, none⟩), 0, (tup3 (slv rfl e23 rfl) (congrArg (Value.int .i64) e24) (congrArg (Value.bool) e25)), ((hs9.pick [1] rfl (by decide)).cast (lc (own_eq (g := I) rfl e23 rfl e22) rfl))⟩
         · have h9 : (methOk ((bs.take ((2 + (bs.getD 1 0)).toNat)).drop 2)) = true := by simpa using h7
           refine sk (nN (sq (rg (qt rfl (mv (v := .slice A1 (((bs.take ((2 + (bs.getD 1 0)).toNat)).drop 2).length) c1) rfl) (qt rfl (mv (v := .slice A1 (((bs.take ((2 + (bs.getD 1 0)).toNat)).drop 2).length) c1) rfl) (qt rfl (lnA (n := ((bs.take ((2 + (bs.getD 1 0)).toNat)).drop 2).length) sl22 rfl) (qt rfl (add (a := 2) (b := ((((bs.take ((2 + (bs.getD 1 0)).toNat)).drop 2).length : Nat) : Int)) rfl rfl (by have hg1 := isBytes_get (by assumption : isBytes bs = true) (k := 1) (by omega); (try simp only [List.length_drop, List.length_take]); have hbl := isBytes_len (by assumption : isBytes bs = true); exact ⟨by omega, by omega⟩)) ?_)))))))
           refine qt rfl (asg (v := .slice A1 (((bs.take ((2 + (bs.getD 1 0)).toNat)).drop 2).length) c1) rfl) (qt rfl (asg (v := I (2 + ((((bs.take ((2 + (bs.getD 1 0)).toNat)).drop 2).length : Nat) : Int))) rfl) (qt rfl (asg (v := .bool true) rfl) (nl (nN (rt (fret (v := .tuple #[.slice A1 (((bs.take ((2 + (bs.getD 1 0)).toNat)).drop 2).length) c1, I (2 + ((((bs.take ((2 + (bs.getD 1 0)).toNat)).drop 2).length : Nat) : Int)), .bool true]) (.tmp (.tmp (.tmp .nil))) rfl ?_))))))
           have e26 : helloFrom bs = ((bs.take ((2 + (bs.getD 1 0)).toNat)).drop 2, 2 + ((((bs.take ((2 + (bs.getD 1 0)).toNat)).drop 2).length : Nat) : Int), true) := by exact hello_y (by assumption) (by omega) (Decidable.not_not.1 (by assumption)) (by omega) (by assumption)
           have e27 : (bs.take ((2 + (bs.getD 1 0)).toNat)).drop 2 = (helloFrom bs).1 := by rw [e26]
           have e28 : ((bs.take ((2 + (bs.getD 1 0)).toNat)).drop 2).length = ((helloFrom bs).1).length := by exact congrArg List.length e27
           have e29 : 2 + ((((bs.take ((2 + (bs.getD 1 0)).toNat)).drop 2).length : Nat) : Int) = (helloFrom bs).2.1 := by rw [e26]
           have e30 : true = (helloFrom bs).2.2 := by rw [e26]
           exact ⟨A1, c1, (tup3 (slv rfl e28 rfl) (congrArg (Value.int .i64) e29) (congrArg (Value.bool) e30)), (hs8.cast (lc (own_eq (g := I) rfl e28 rfl e27) rfl))⟩
theorem sHelloPick {Awt : Option Addr} {cwt : Nat} (wt : List Int) {Ams : Option Addr} {cms : Nat} (ms : List Int) (w : World) (hwt : Sl w [] 1 Awt wt.length cwt (wt.map I)) (hms : Sl w [] 1 Ams ms.length cms (ms.map I)) : Does Tryz.prog 95 [.slice Awt wt.length cwt, .slice Ams ms.length cms] w (fun v w' => v = .int .i64 (helloPick wt ms) ∧ SH w w' [] []) := by
 refine fn_enter (N := 30) Tryz.func95 rfl (by kernel_rfl) rfl rfl rfl ?_
 have hs0 : SH w w [] [] := SH.refl w []
 have hwt_m : wt.length ≤ 9223372036854775807 := Nat.le_trans hwt.cap hwt.capMax
 have hms_m : ms.length ≤ 9223372036854775807 := Nat.le_trans hms.cap hms.capMax
 refine sq (rg (qt rfl (asg (v := I 0) rfl) (nl (nN (sq (sq (rg ?_)))))))
 refine qt rfl (mv (v := .slice Awt wt.length cwt) rfl) (cl trivial rfl (sL5Ok (Ams := Awt) (cms := cwt) (ms := wt) (w := _) (hms := (hwt.up0 hs0))) ?_)
 rintro _ w1 ⟨rfl, hs1'⟩
 have hs1 := hs0.call0 hs1'
 clear hs1'
 refine qt rfl (nt (b := methOk wt) rfl) (qt rfl (mv (v := .bool (!(methOk wt))) rfl) ?_)
 refine spl (b := !(methOk wt)) 9 rfl (fun h1 => ?_) (fun h1 => ?_)
 · have h2 : (methOk wt) = false := by simpa using h1
   refine gk true rfl rfl rfl rfl rfl (gk true rfl rfl rfl rfl rfl (gk true rfl rfl rfl rfl rfl (qt rfl (pt (v := .bool true) rfl rfl) (nl (nN (cdt rfl (sq ?_)))))))
   refine rg (qt rfl (asg (v := I 255) rfl) (nl (nN (rt (tR ?_)))))
   refine fret (v := I 255) (.tmp .nil) rfl ?_
   have e1 : 255 = helloPick wt ms := by exact Eq.symm (pick_bad (by simp [h2]))
   exact ⟨(congrArg (Value.int .i64) e1), hs1⟩
 · have h3 : (methOk wt) = true := by simpa using h1
   refine q ⟨_, rfl, rfl⟩ rfl rfl (mv (v := .slice Ams ms.length cms) rfl) (cl ⟨_, rfl, rfl⟩ rfl (sL5Ok (Ams := Ams) (cms := cms) (ms := ms) (w := _) (hms := (hms.up0 hs1))) ?_)
   rintro _ w2 ⟨rfl, hs2'⟩
   have hs2 := hs1.call0 hs2'
   clear hs2'
   refine q ⟨_, rfl, rfl⟩ rfl rfl (nt (b := methOk ms) rfl) (qt rfl (pf (v := .bool (!(methOk ms))) rfl rfl) (nl (nN ?_)))
   refine cd (b := !(methOk ms)) rfl (fun h4 => ?_) (fun h4 => ?_)
   · have h5 : (methOk ms) = false := by simpa using h4
     refine sq (rg (qt rfl (asg (v := I 255) rfl) (nl (nN (rt (tR ?_))))))
     refine fret (v := I 255) (.tmp .nil) rfl ?_
     have e2 : 255 = helloPick wt ms := by exact Eq.symm (pick_bad (by simp [h3, h5]))
     exact ⟨(congrArg (Value.int .i64) e2), hs2⟩
   · have h6 : (methOk ms) = true := by simpa using h4
     refine sk (nN (sq (sq (rg (qt rfl (asg (v := I 0) rfl) (nl (nN ?_)))))))
     refine bl (lp (σ := Nat) (fun (k : Nat) f w' => Has f [(0, .slice Awt wt.length cwt), (1, .slice Ams ms.length cms), (5, I ((k : Nat) : Int))] ∧ (k ≤ wt.length) ∧ (∀ j, j < k → wt.getD j 0 ∉ ms) ∧ SH w w' [] []) (fun k => wt.length - k) 0 ⟨⟨rfl, rfl, rfl, trivial⟩, (by simp), (by intro j hj; omega), hs2⟩ ?_)
     rintro k f w3 ⟨hf, hk, hn, hs3⟩
     obtain ⟨g1, rfl⟩ := has_upd hf
     clear hf
     refine sq (sq (rg (qt rfl (mv (v := I ((k : Nat) : Int)) rfl) (qt rfl (mv (v := .slice Awt wt.length cwt) rfl) (qt rfl (lnA (n := wt.length) sl22 rfl) (qt rfl (lss (k := .i64) (a := ((k : Nat) : Int)) (b := ((wt.length : Nat) : Int)) rfl rfl) (nl ?_)))))))
     refine nN ?_
     refine cdd (p := ((k : Nat) : Int) < ((wt.length : Nat) : Int)) rfl (fun h7 => ?_) (fun h7 => ?_)
     · refine sk (nN (sq (bl (sq (rg (qt rfl (mv (v := .slice Ams ms.length cms) rfl) (qt rfl (mv (v := .slice Awt wt.length cwt) rfl) ?_)))))))
       refine qt rfl (mv (v := I ((k : Nat) : Int)) rfl) (ixw1 k sl22 rfl rfl hwt (by omega) (getm I 0 (by omega)) trivial rfl (fun a1 ha1 => ?_))
       refine qt rfl (lda (v := I (wt.getD k 0)) hs3 ha1 (fun _ h => h) rfl rfl one3) (cl trivial rfl (l5Has (Azs := Ams) (czs := cms) (zs := ms) (n := wt.getD k 0) (w := _) (hzs := (hms.up0 hs3))) ?_)
       rintro _ w4 ⟨rfl, hs4'⟩
       have hs4 := hs3.call0 hs4'
       clear hs4'
       refine nl (nN ?_)
       refine cdd (p := (wt.getD k 0) ∈ ms) rfl (fun h8 => ?_) (fun h8 => ?_)
       · refine sq (rg (qt rfl (mv (v := .slice Awt wt.length cwt) rfl) (qt rfl (mv (v := I ((k : Nat) : Int)) rfl) (ixw1 k sl22 rfl rfl hwt (by omega) (getm I 0 (by omega)) trivial rfl (fun a2 ha2 => ?_)))))
         refine qt rfl (lda (v := I (wt.getD k 0)) hs4 ha2 (fun _ h => h) rfl rfl one3) (qt rfl (asg (v := I (wt.getD k 0)) rfl) (nl (nN ?_)))
         refine rt (bR (tR (tR (bR (tR ?_)))))
         refine fret (v := I (wt.getD k 0)) (.tmp .nil) rfl ?_
         have e3 : wt.getD k 0 = helloPick wt ms := by exact Eq.symm (pick_yes (by assumption) (by assumption) (by omega) hn (by assumption))
         exact ⟨(congrArg (Value.int .i64) e3), hs4⟩
       · refine sk (bN (nN (rg (qt rfl (mv (v := I ((k : Nat) : Int)) rfl) (qt rfl (add (a := ((k : Nat) : Int)) (b := 1) rfl rfl (by exact ⟨by omega, by omega⟩)) (qt rfl (asg (v := I (((k : Nat) : Int) + 1)) rfl) (nl ?_)))))))
         refine nN ?_
         refine ⟨(k + 1), ⟨⟨rfl, rfl, rfl, trivial⟩, (by omega), (by intro j hj; rcases Nat.lt_succ_iff_lt_or_eq.1 hj with h | h; exact hn j h; subst h; assumption), hs4⟩, ?_⟩
         omega
     · refine ex (tE (tE (bE ?_)))
       refine nN (sq (rg (qt rfl (asg (v := I 255) rfl) (nl (nN (rt (fret (v := I 255) (.tmp .nil) rfl ?_)))))))
       have e4 : 255 = helloPick wt ms := by exact Eq.symm (pick_none (by omega) hn)
       exact ⟨(congrArg (Value.int .i64) e4), hs3⟩
set_option maxHeartbeats 8000000 in
theorem sLoginFrom {Abs : Option Addr} {cbs : Nat} (bs : List Int) (w : World) (hbs : Sl w [] 1 Abs bs.length cbs (bs.map I)) : Does Tryz.prog 97 [.slice Abs bs.length cbs] w (fun v w' => v = .tuple #[.agg #[Str ((loginFrom bs).1.1), Str ((loginFrom bs).1.2)], .int .i64 ((loginFrom bs).2.1), .bool ((loginFrom bs).2.2)] ∧ SH w w' [] []) := by
 refine fn_enter (N := 71) Tryz.func97 rfl (by kernel_rfl) rfl rfl rfl ?_
 have hs0 : SH w w [] [] := SH.refl w []
 have hbs_m : bs.length ≤ 9223372036854775807 := Nat.le_trans hbs.cap hbs.capMax
 refine sq (rg (al (v := .agg #[Str [], Str []]) (cs := [Str [], Str []]) hs0 tz51 rfl trivial rfl (fun b1 w1 (hs1 : SH w w1 [] [.blk b1 51 [Str [], Str []]]) => ?_)))
 refine qt rfl (asg (v := I 0) rfl) (qt rfl (asg (v := .bool false) rfl) (nl (nN (sq (sq (rg (qt rfl (mv (v := .slice Abs bs.length cbs) rfl) ?_)))))))
 refine cl trivial rfl (sBytesValid (Azs := Abs) (czs := cbs) (zs := bs) (w := _) (hzs := (hbs.up0 hs1))) ?_
 rintro _ w2 ⟨rfl, hs2'⟩
 have hs2 := hs1.call0 hs2'
 clear hs2'
 refine qt rfl (nt (b := isBytes bs) rfl) (qt rfl (mv (v := .bool (!(isBytes bs))) rfl) ?_)
 refine spl (b := !(isBytes bs)) 11 rfl (fun h1 => ?_) (fun h1 => ?_)
 · have h2 : (isBytes bs) = false := by simpa using h1
   refine gk true rfl rfl rfl rfl rfl (gk true rfl rfl rfl rfl rfl (gk true rfl rfl rfl rfl rfl (qt rfl (pt (v := .bool true) rfl rfl) (qt rfl (mv (v := .bool true) rfl) (gk true rfl rfl rfl rfl rfl (gk true rfl rfl rfl rfl rfl (gk true rfl rfl rfl rfl rfl ?_)))))))
   refine gk true rfl rfl rfl rfl rfl (qt rfl (pt (v := .bool true) rfl rfl) (qt rfl (mv (v := .bool true) rfl) (gk true rfl rfl rfl rfl rfl (gk true rfl rfl rfl rfl rfl (gk true rfl rfl rfl rfl rfl (gk true rfl rfl rfl rfl rfl (gk true rfl rfl rfl rfl rfl ?_)))))))
   refine gk true rfl rfl rfl rfl rfl (gk true rfl rfl rfl rfl rfl (qt rfl (pt (v := .bool true) rfl rfl) (nl (nN (cdt rfl (sq (rg ?_)))))))
   refine qt rfl (bdv (v := .agg #[Str [], Str []]) [] rfl (fun _ => by kernel_rfl)) (stg (vs := [Str [], Str []]) hs2 0 rfl rfl rfl rfl rfl rfl rfl ag51 trivial (fun w3 (hs3 : SH w w3 [] [.blk b1 51 [Str [], Str []]]) => ?_))
   refine qt rfl (asg (v := I 0) rfl) (qt rfl (asg (v := .bool false) rfl) (nl (nN (rt (tR ?_)))))
   refine fret (v := .tuple #[.agg #[Str [], Str []], I 0, .bool false]) (resC hs3 0 rfl rfl ag51 rfl (.tmp (.tmp .nil))) rfl ?_
   have e1 : loginFrom bs = (([], []), 0, false) := by exact login_no (.inl (by assumption))
   have e2 : [] = (loginFrom bs).1.1 := by rw [e1]
   have e3 : [] = (loginFrom bs).1.2 := by rw [e1]
   have e4 : 0 = (loginFrom bs).2.1 := by rw [e1]
   have e5 : false = (loginFrom bs).2.2 := by rw [e1]
   exact ⟨(tup3 (aggv (lc (congrArg (Str) e2) (lc (congrArg (Str) e3) rfl))) (congrArg (Value.int .i64) e4) (congrArg (Value.bool) e5)), (hs3.pick [] rfl (by decide))⟩
 · have h3 : (isBytes bs) = true := by simpa using h1
   refine q ⟨_, rfl, rfl⟩ rfl rfl (mv (v := .slice Abs bs.length cbs) rfl) (q ⟨_, rfl, rfl⟩ rfl rfl (lnA (n := bs.length) sl22 rfl) (q ⟨_, rfl, rfl⟩ rfl rfl (lss (k := .i64) (a := ((bs.length : Nat) : Int)) (b := 5) rfl rfl) (qt rfl (pf (v := .bool (decide (((bs.length : Nat) : Int) < 5))) rfl rfl) (qt rfl (mv (v := .bool (decide (((bs.length : Nat) : Int) < 5))) rfl) ?_))))
   refine spd (p := ((bs.length : Nat) : Int) < 5) 16 rfl (fun h4 => ?_) (fun h4 => ?_)
   · refine gk true rfl rfl rfl rfl rfl (gk true rfl rfl rfl rfl rfl (gk true rfl rfl rfl rfl rfl (gk true rfl rfl rfl rfl rfl (qt rfl (pt (v := .bool true) rfl rfl) (qt rfl (mv (v := .bool true) rfl) (gk true rfl rfl rfl rfl rfl (gk true rfl rfl rfl rfl rfl ?_)))))))
     refine gk true rfl rfl rfl rfl rfl (gk true rfl rfl rfl rfl rfl (gk true rfl rfl rfl rfl rfl (gk true rfl rfl rfl rfl rfl (gk true rfl rfl rfl rfl rfl (qt rfl (pt (v := .bool true) rfl rfl) (nl (nN ?_)))))))
     refine cdt rfl (sq (rg (qt rfl (bdv (v := .agg #[Str [], Str []]) [] rfl (fun _ => by kernel_rfl)) (stg (vs := [Str [], Str []]) hs2 0 rfl rfl rfl rfl rfl rfl rfl ag51 trivial (fun w4 (hs4 : SH w w4 [] [.blk b1 51 [Str [], Str []]]) => ?_)))))
     refine qt rfl (asg (v := I 0) rfl) (qt rfl (asg (v := .bool false) rfl) (nl (nN (rt (tR ?_)))))
     refine fret (v := .tuple #[.agg #[Str [], Str []], I 0, .bool false]) (resC hs4 0 rfl rfl ag51 rfl (.tmp (.tmp .nil))) rfl ?_
     have e6 : loginFrom bs = (([], []), 0, false) := by exact login_no (.inr (.inl (by omega)))
     have e7 : [] = (loginFrom bs).1.1 := by rw [e6]
     have e8 : [] = (loginFrom bs).1.2 := by rw [e6]
     have e9 : 0 = (loginFrom bs).2.1 := by rw [e6]
     have e10 : false = (loginFrom bs).2.2 := by rw [e6]
     exact ⟨(tup3 (aggv (lc (congrArg (Str) e7) (lc (congrArg (Str) e8) rfl))) (congrArg (Value.int .i64) e9) (congrArg (Value.bool) e10)), (hs4.pick [] rfl (by decide))⟩
   · refine q ⟨_, rfl, rfl⟩ rfl rfl (mv (v := .slice Abs bs.length cbs) rfl) (ixw1 0 sl22 rfl rfl hbs (by (first | omega | (simp; done) | (simp; omega))) (getm I 0 (by (first | omega | (simp; done) | (simp; omega)))) ⟨_, rfl, rfl⟩ rfl (fun a1 ha1 => ?_))
     refine q ⟨_, rfl, rfl⟩ rfl rfl (lda (v := I (bs.getD 0 0)) hs2 ha1 (fun _ h => h) rfl rfl one3) (q ⟨_, rfl, rfl⟩ rfl rfl (nei (k := .i64) (a := bs.getD 0 0) (b := 1) rfl rfl) (qt rfl (pf (v := .bool (decide ((bs.getD 0 0) ≠ 1))) rfl rfl) (qt rfl (mv (v := .bool (decide ((bs.getD 0 0) ≠ 1))) rfl) ?_)))
     refine spd (p := (bs.getD 0 0) ≠ 1) 22 rfl (fun h5 => ?_) (fun h5 => ?_)
     · refine gk true rfl rfl rfl rfl rfl (gk true rfl rfl rfl rfl rfl (gk true rfl rfl rfl rfl rfl (gk true rfl rfl rfl rfl rfl (gk true rfl rfl rfl rfl rfl (gk true rfl rfl rfl rfl rfl (gk true rfl rfl rfl rfl rfl (qt rfl (pt (v := .bool true) rfl rfl) ?_)))))))
       refine nl (nN (cdt rfl (sq (rg (qt rfl (bdv (v := .agg #[Str [], Str []]) [] rfl (fun _ => by kernel_rfl)) (stg (vs := [Str [], Str []]) hs2 0 rfl rfl rfl rfl rfl rfl rfl ag51 trivial (fun w5 (hs5 : SH w w5 [] [.blk b1 51 [Str [], Str []]]) => ?_)))))))
       refine qt rfl (asg (v := I 0) rfl) (qt rfl (asg (v := .bool false) rfl) (nl (nN (rt (tR ?_)))))
       refine fret (v := .tuple #[.agg #[Str [], Str []], I 0, .bool false]) (resC hs5 0 rfl rfl ag51 rfl (.tmp (.tmp .nil))) rfl ?_
       have e11 : loginFrom bs = (([], []), 0, false) := by exact login_no (.inr (.inr (.inl (by assumption))))
       have e12 : [] = (loginFrom bs).1.1 := by rw [e11]
       have e13 : [] = (loginFrom bs).1.2 := by rw [e11]
       have e14 : 0 = (loginFrom bs).2.1 := by rw [e11]
       have e15 : false = (loginFrom bs).2.2 := by rw [e11]
       exact ⟨(tup3 (aggv (lc (congrArg (Str) e12) (lc (congrArg (Str) e13) rfl))) (congrArg (Value.int .i64) e14) (congrArg (Value.bool) e15)), (hs5.pick [] rfl (by decide))⟩
     · refine q ⟨_, rfl, rfl⟩ rfl rfl (mv (v := .slice Abs bs.length cbs) rfl) (ixw1 1 sl22 rfl rfl hbs (by (first | omega | (simp; done) | (simp; omega))) (getm I 0 (by (first | omega | (simp; done) | (simp; omega)))) ⟨_, rfl, rfl⟩ rfl (fun a2 ha2 => ?_))
       refine q ⟨_, rfl, rfl⟩ rfl rfl (lda (v := I (bs.getD 1 0)) hs2 ha2 (fun _ h => h) rfl rfl one3) (q ⟨_, rfl, rfl⟩ rfl rfl (mv (v := .slice Abs bs.length cbs) rfl) (q ⟨_, rfl, rfl⟩ rfl rfl (lnA (n := bs.length) sl22 rfl) (q ⟨_, rfl, rfl⟩ rfl rfl (sub (a := ((bs.length : Nat) : Int)) (b := 3) rfl rfl (by (exact ⟨by omega, by omega⟩))) (q ⟨_, rfl, rfl⟩ rfl rfl (gtr (k := .i64) (a := bs.getD 1 0) (b := ((bs.length : Nat) : Int) - 3) rfl rfl) (qt rfl (pf (v := .bool (decide ((((bs.length : Nat) : Int) - 3) < (bs.getD 1 0)))) rfl rfl) (nl (nN ?_)))))))
       refine cdd (p := (((bs.length : Nat) : Int) - 3) < (bs.getD 1 0)) rfl (fun h6 => ?_) (fun h6 => ?_)
       · refine sq (rg (qt rfl (bdv (v := .agg #[Str [], Str []]) [] rfl (fun _ => by kernel_rfl)) (stg (vs := [Str [], Str []]) hs2 0 rfl rfl rfl rfl rfl rfl rfl ag51 trivial (fun w6 (hs6 : SH w w6 [] [.blk b1 51 [Str [], Str []]]) => ?_))))
         refine qt rfl (asg (v := I 0) rfl) (qt rfl (asg (v := .bool false) rfl) (nl (nN (rt (tR ?_)))))
         refine fret (v := .tuple #[.agg #[Str [], Str []], I 0, .bool false]) (resC hs6 0 rfl rfl ag51 rfl (.tmp (.tmp .nil))) rfl ?_
         have e16 : loginFrom bs = (([], []), 0, false) := by exact login_no (.inr (.inr (.inr (.inl (by omega)))))
         have e17 : [] = (loginFrom bs).1.1 := by rw [e16]
         have e18 : [] = (loginFrom bs).1.2 := by rw [e16]
         have e19 : 0 = (loginFrom bs).2.1 := by rw [e16]
         have e20 : false = (loginFrom bs).2.2 := by rw [e16]
         exact ⟨(tup3 (aggv (lc (congrArg (Str) e17) (lc (congrArg (Str) e18) rfl))) (congrArg (Value.int .i64) e19) (congrArg (Value.bool) e20)), (hs6.pick [] rfl (by decide))⟩
       · refine sk (nN (sq (rg (qt rfl (mv (v := .slice Abs bs.length cbs) rfl) (ixw1 1 sl22 rfl rfl hbs (by (first | omega | (simp; done) | (simp; omega))) (getm I 0 (by (first | omega | (simp; done) | (simp; omega)))) trivial rfl (fun a3 ha3 => ?_))))))
         refine qt rfl (lda (v := I (bs.getD 1 0)) hs2 ha3 (fun _ h => h) rfl rfl one3) (qt rfl (add (a := 2) (b := bs.getD 1 0) rfl rfl (by ((first | (have hg1 := isBytes_get (by assumption : isBytes bs = true) (k := 1) (by omega); have hg2 := isBytes_get (by assumption : isBytes bs = true) (k := 2 + (bs.getD 1 0).toNat) (by omega); have hbl := isBytes_len (by assumption : isBytes bs = true)) | (have hg1 := isBytes_get (by assumption : isBytes bs = true) (k := 1) (by omega))); exact ⟨by omega, by omega⟩))) (qt rfl (asg (v := I (2 + (bs.getD 1 0))) rfl) ?_))
         have e21 : 2 + (bs.getD 1 0) = ((2 + (bs.getD 1 0).toNat : Nat) : Int) := by have hg1 := isBytes_get (by assumption : isBytes bs = true) (k := 1) (by omega); omega
         refine re 5 (v := I ((2 + (bs.getD 1 0).toNat : Nat) : Int)) (congrArg (Value.int .i64) e21) (nl (nN (sq (sq (rg (qt rfl (mv (v := .slice Abs bs.length cbs) rfl) (qt rfl (mv (v := I ((2 + (bs.getD 1 0).toNat : Nat) : Int)) rfl) ?_)))))))
         refine ixw1 (2 + (bs.getD 1 0).toNat) sl22 rfl rfl hbs (by (first | omega | (simp; done) | (simp; omega))) (getm I 0 (by (first | omega | (simp; done) | (simp; omega)))) trivial rfl (fun a4 ha4 => ?_)
         refine qt rfl (lda (v := I (bs.getD (2 + (bs.getD 1 0).toNat) 0)) hs2 ha4 (fun _ h => h) rfl rfl one3) (qt rfl (mv (v := .slice Abs bs.length cbs) rfl) (qt rfl (lnA (n := bs.length) sl22 rfl) (qt rfl (mv (v := I ((2 + (bs.getD 1 0).toNat : Nat) : Int)) rfl) (qt rfl (sub (a := ((bs.length : Nat) : Int)) (b := ((2 + (bs.getD 1 0).toNat : Nat) : Int)) rfl rfl (by (exact ⟨by omega, by omega⟩))) (qt rfl (sub (a := ((bs.length : Nat) : Int) - ((2 + (bs.getD 1 0).toNat : Nat) : Int)) (b := 1) rfl rfl (by (exact ⟨by omega, by omega⟩))) (qt rfl (gtr (k := .i64) (a := bs.getD (2 + (bs.getD 1 0).toNat) 0) (b := (((bs.length : Nat) : Int) - ((2 + (bs.getD 1 0).toNat : Nat) : Int)) - 1) rfl rfl) (nl ?_)))))))
         refine nN ?_
         refine cdd (p := ((((bs.length : Nat) : Int) - ((2 + (bs.getD 1 0).toNat : Nat) : Int)) - 1) < (bs.getD (2 + (bs.getD 1 0).toNat) 0)) rfl (fun h7 => ?_) (fun h7 => ?_)
         · refine sq (rg (qt rfl (bdv (v := .agg #[Str [], Str []]) [] rfl (fun _ => by kernel_rfl)) (stg (vs := [Str [], Str []]) hs2 0 rfl rfl rfl rfl rfl rfl rfl ag51 trivial (fun w7 (hs7 : SH w w7 [] [.blk b1 51 [Str [], Str []]]) => ?_))))
           refine qt rfl (asg (v := I 0) rfl) (qt rfl (asg (v := .bool false) rfl) (nl (nN (rt (tR ?_)))))
           refine fret (v := .tuple #[.agg #[Str [], Str []], I 0, .bool false]) (resC hs7 0 rfl rfl ag51 rfl (.tmp (.tmp .nil))) rfl ?_
           have e22 : loginFrom bs = (([], []), 0, false) := by exact login_no (.inr (.inr (.inr (.inr (by omega)))))
           have e23 : [] = (loginFrom bs).1.1 := by rw [e22]
           have e24 : [] = (loginFrom bs).1.2 := by rw [e22]
           have e25 : 0 = (loginFrom bs).2.1 := by rw [e22]
           have e26 : false = (loginFrom bs).2.2 := by rw [e22]
           exact ⟨(tup3 (aggv (lc (congrArg (Str) e23) (lc (congrArg (Str) e24) rfl))) (congrArg (Value.int .i64) e25) (congrArg (Value.bool) e26)), (hs7.pick [] rfl (by decide))⟩
         · refine sk (nN (sq (rg (qt rfl (mv (v := I ((2 + (bs.getD 1 0).toNat : Nat) : Int)) rfl) (qt rfl (add (a := ((2 + (bs.getD 1 0).toNat : Nat) : Int)) (b := 1) rfl rfl (by (exact ⟨by omega, by omega⟩))) (qt rfl (mv (v := .slice Abs bs.length cbs) rfl) (qt rfl (mv (v := I ((2 + (bs.getD 1 0).toNat : Nat) : Int)) rfl) ?_)))))))
           refine ixw1 (2 + (bs.getD 1 0).toNat) sl22 rfl rfl hbs (by (first | omega | (simp; done) | (simp; omega))) (getm I 0 (by (first | omega | (simp; done) | (simp; omega)))) trivial rfl (fun a5 ha5 => ?_)
           refine qt rfl (lda (v := I (bs.getD (2 + (bs.getD 1 0).toNat) 0)) hs2 ha5 (fun _ h => h) rfl rfl one3) (qt rfl (add (a := ((2 + (bs.getD 1 0).toNat : Nat) : Int) + 1) (b := bs.getD (2 + (bs.getD 1 0).toNat) 0) rfl rfl (by ((first | (have hg1 := isBytes_get (by assumption : isBytes bs = true) (k := 1) (by omega); have hg2 := isBytes_get (by assumption : isBytes bs = true) (k := 2 + (bs.getD 1 0).toNat) (by omega); have hbl := isBytes_len (by assumption : isBytes bs = true)) | (have hg1 := isBytes_get (by assumption : isBytes bs = true) (k := 1) (by omega))); exact ⟨by omega, by omega⟩))) (qt rfl (asg (v := I ((((2 + (bs.getD 1 0).toNat : Nat) : Int) + 1) + (bs.getD (2 + (bs.getD 1 0).toNat) 0))) rfl) ?_))
           have e27 : (((2 + (bs.getD 1 0).toNat : Nat) : Int) + 1) + (bs.getD (2 + (bs.getD 1 0).toNat) 0) = ((2 + (bs.getD 1 0).toNat + 1 + (bs.getD (2 + (bs.getD 1 0).toNat) 0).toNat : Nat) : Int) := by have hg1 := isBytes_get (by assumption : isBytes bs = true) (k := 1) (by omega); have hg2 := isBytes_get (by assumption : isBytes bs = true) (k := 2 + (bs.getD 1 0).toNat) (by omega); have hbl := isBytes_len (by assumption : isBytes bs = true); omega
           refine re 6 (v := I ((2 + (bs.getD 1 0).toNat + 1 + (bs.getD (2 + (bs.getD 1 0).toNat) 0).toNat : Nat) : Int)) (congrArg (Value.int .i64) e27) (nl (nN (sq ?_)))
           refine raJ (fun w' => ∃ L, SH w w' [] L ∧ (.blk b1 51 [Str [], Str []]) ∈ L ∧ True) (fun f w' => ∃ (b11' : Nat), Has f [(2, pB b1), (6, I ((2 + (bs.getD 1 0).toNat + 1 + (bs.getD (2 + (bs.getD 1 0).toNat) 0).toNat : Nat) : Int)), (7, pB b11')] ∧ SH w w' [] [.blk b1 51 [Str [], Str []], .blk b11' 51 [Str (bT ((bs.take (2 + (bs.getD 1 0).toNat)).drop 2)), Str (bT ((bs.take (2 + (bs.getD 1 0).toNat + 1 + (bs.getD (2 + (bs.getD 1 0).toNat) 0).toNat)).drop ((2 + (bs.getD 1 0).toNat) + 1)))]]) mixed ?_ ?_
           · refine dag (fuel' := 1) (listed' := lbits 13 4095) (fun f w' => ∃ (b11' : Nat), Has f [(2, pB b1), (6, I ((2 + (bs.getD 1 0).toNat + 1 + (bs.getD (2 + (bs.getD 1 0).toNat) 0).toNat : Nat) : Int)), (7, pB b11'), (64, .agg #[Str (bT ((bs.take (2 + (bs.getD 1 0).toNat)).drop 2)), Str (bT ((bs.take (2 + (bs.getD 1 0).toNat + 1 + (bs.getD (2 + (bs.getD 1 0).toNat) 0).toNat)).drop ((2 + (bs.getD 1 0).toNat) + 1)))])] ∧ SH w w' [] [.blk b1 51 [Str [], Str []], .blk b11' 51 [Str [], Str []]]) ?_ (fun D_7_0 => ?_)
             · rintro f w8 ⟨b11', hf, hs8⟩
               obtain ⟨g1, rfl⟩ := has_upd hf
               clear hf
               refine aaL [12] (fa_one ?_)
               refine one_ rfl (stg (vs := [Str (bT ((bs.take (2 + (bs.getD 1 0).toNat)).drop 2)), Str (bT ((bs.take (2 + (bs.getD 1 0).toNat + 1 + (bs.getD (2 + (bs.getD 1 0).toNat) 0).toNat)).drop ((2 + (bs.getD 1 0).toNat) + 1)))]) hs8 1 rfl rfl rfl rfl rfl rfl rfl ag51 trivial (fun w9 hs9 => ?_))
               refine nl (kq ⟨_, hs9, memi 0 rfl, trivial⟩ ?_)
               refine ad (by kernel_rfl) ?_
               exact ⟨b11', ⟨rfl, rfl, rfl, trivial⟩, hs9⟩
             refine dag (fuel' := 2) (listed' := lbits 13 2047) (fun f w' => Has f [(2, pB b1), (6, I ((2 + (bs.getD 1 0).toNat + 1 + (bs.getD (2 + (bs.getD 1 0).toNat) 0).toNat : Nat) : Int)), (64, .agg #[Str (bT ((bs.take (2 + (bs.getD 1 0).toNat)).drop 2)), Str (bT ((bs.take (2 + (bs.getD 1 0).toNat + 1 + (bs.getD (2 + (bs.getD 1 0).toNat) 0).toNat)).drop ((2 + (bs.getD 1 0).toNat) + 1)))])] ∧ SH w w' [] [.blk b1 51 [Str [], Str []]]) ?_ (fun D_7_1 => ?_)
             · rintro f w10 ⟨hf, hs10⟩
               obtain ⟨g2, rfl⟩ := has_upd hf
               clear hf
               refine aaL [11] (fa_one ?_)
               refine one_ rfl (al (v := .agg #[Str [], Str []]) (cs := [Str [], Str []]) hs10 tz51 rfl trivial rfl (fun b11' w11 hs11 => ?_))
               exact nl (kq ⟨_, hs11, memi 0 rfl, trivial⟩ (alc D_7_0 ⟨b11', ⟨rfl, rfl, rfl, rfl, trivial⟩, hs11⟩))
             refine dag (fuel' := 3) (listed' := lbits 13 2559) (fun f w' => ∃ (b11' : Nat), Has f [(2, pB b1), (6, I ((2 + (bs.getD 1 0).toNat + 1 + (bs.getD (2 + (bs.getD 1 0).toNat) 0).toNat : Nat) : Int)), (7, pB b11'), (57, Str (bT ((bs.take (2 + (bs.getD 1 0).toNat)).drop 2))), (62, .slice (if cbs = (2 + (bs.getD 1 0).toNat) + 1 then Abs else Abs.map (·.add (((2 + (bs.getD 1 0).toNat) + 1) * 1))) (((bs.take (2 + (bs.getD 1 0).toNat + 1 + (bs.getD (2 + (bs.getD 1 0).toNat) 0).toNat)).drop ((2 + (bs.getD 1 0).toNat) + 1)).length) (cbs - ((2 + (bs.getD 1 0).toNat) + 1)))] ∧ SH w w' [] [.blk b1 51 [Str [], Str []], .blk b11' 51 [Str [], Str []]]) ?_ (fun D_7_2 => ?_)
             · rintro f w12 ⟨b11', hf, hs12⟩
               obtain ⟨g3, rfl⟩ := has_upd hf
               clear hf
               refine aaL [9] (fa_one ?_)
               refine one_ rfl (cl trivial rfl (sL1Bytes (Azs := if cbs = (2 + (bs.getD 1 0).toNat) + 1 then Abs else Abs.map (·.add (((2 + (bs.getD 1 0).toNat) + 1) * 1))) (czs := cbs - ((2 + (bs.getD 1 0).toNat) + 1)) (zs := (bs.take (2 + (bs.getD 1 0).toNat + 1 + (bs.getD (2 + (bs.getD 1 0).toNat) 0).toNat)).drop ((2 + (bs.getD 1 0).toNat) + 1)) (w := _) (hzs := (Sl.cutm (hbs.up0 hs12) (by (first | omega | (simp; done) | (simp; omega))) (by (first | omega | (simp; done) | (simp; omega))))) (hz := (by intro x hx; exact (isBytes_iff.1 (by assumption : isBytes bs = true)).1 x (List.mem_of_mem_take (List.mem_of_mem_drop hx)))) (hzl := (by have hbl := isBytes_len (by assumption : isBytes bs = true); simp only [List.length_drop, List.length_take]; omega))) ?_)
               rintro _ w13 ⟨rfl, hs13'⟩
               have hs13 := hs12.call0 hs13'
               clear hs13'
               refine nl (kq ⟨_, hs13, memi 0 rfl, trivial⟩ ?_)
               refine tk (fuel := 1) (is := [10]) (.cons rfl (.nil)) (by kernel_rfl) (by kernel_rfl) ⟨_, hs13, memi 0 rfl, trivial⟩ (.op trivial rfl rfl (fun wq _ => bdv (v := .agg #[Str (bT ((bs.take (2 + (bs.getD 1 0).toNat)).drop 2)), Str (bT ((bs.take (2 + (bs.getD 1 0).toNat + 1 + (bs.getD (2 + (bs.getD 1 0).toNat) 0).toNat)).drop ((2 + (bs.getD 1 0).toNat) + 1)))]) [(0, Str (bT ((bs.take (2 + (bs.getD 1 0).toNat)).drop 2))), (1, Str (bT ((bs.take (2 + (bs.getD 1 0).toNat + 1 + (bs.getD (2 + (bs.getD 1 0).toNat) 0).toNat)).drop ((2 + (bs.getD 1 0).toNat) + 1))))] rfl (fun _ => by kernel_rfl)) (.nil ?_))
               exact alc D_7_0 ⟨b11', ⟨rfl, rfl, rfl, rfl, trivial⟩, hs13⟩
             refine dag (fuel' := 4) (listed' := lbits 13 511) (fun f w' => Has f [(2, pB b1), (6, I ((2 + (bs.getD 1 0).toNat + 1 + (bs.getD (2 + (bs.getD 1 0).toNat) 0).toNat : Nat) : Int)), (57, Str (bT ((bs.take (2 + (bs.getD 1 0).toNat)).drop 2))), (62, .slice (if cbs = (2 + (bs.getD 1 0).toNat) + 1 then Abs else Abs.map (·.add (((2 + (bs.getD 1 0).toNat) + 1) * 1))) (((bs.take (2 + (bs.getD 1 0).toNat + 1 + (bs.getD (2 + (bs.getD 1 0).toNat) 0).toNat)).drop ((2 + (bs.getD 1 0).toNat) + 1)).length) (cbs - ((2 + (bs.getD 1 0).toNat) + 1)))] ∧ SH w w' [] [.blk b1 51 [Str [], Str []]]) ?_ (fun D_7_3 => ?_)
             · rintro f w14 ⟨hf, hs14⟩
               obtain ⟨g4, rfl⟩ := has_upd hf
               clear hf
               refine aaL [9, 11] (fa_cons ?_ (fa_one ?_))
               · refine one_ rfl (cl trivial rfl (sL1Bytes (Azs := if cbs = (2 + (bs.getD 1 0).toNat) + 1 then Abs else Abs.map (·.add (((2 + (bs.getD 1 0).toNat) + 1) * 1))) (czs := cbs - ((2 + (bs.getD 1 0).toNat) + 1)) (zs := (bs.take (2 + (bs.getD 1 0).toNat + 1 + (bs.getD (2 + (bs.getD 1 0).toNat) 0).toNat)).drop ((2 + (bs.getD 1 0).toNat) + 1)) (w := _) (hzs := (Sl.cutm (hbs.up0 hs14) (by (first | omega | (simp; done) | (simp; omega))) (by (first | omega | (simp; done) | (simp; omega))))) (hz := (by intro x hx; exact (isBytes_iff.1 (by assumption : isBytes bs = true)).1 x (List.mem_of_mem_take (List.mem_of_mem_drop hx)))) (hzl := (by have hbl := isBytes_len (by assumption : isBytes bs = true); simp only [List.length_drop, List.length_take]; omega))) ?_)
                 rintro _ w15 ⟨rfl, hs15'⟩
                 have hs15 := hs14.call0 hs15'
                 clear hs15'
                 refine nl (kq ⟨_, hs15, memi 0 rfl, trivial⟩ ?_)
                 refine tk (fuel := 2) (is := [10]) (.cons rfl (.nil)) (by kernel_rfl) (by kernel_rfl) ⟨_, hs15, memi 0 rfl, trivial⟩ (.op trivial rfl rfl (fun wq _ => bdv (v := .agg #[Str (bT ((bs.take (2 + (bs.getD 1 0).toNat)).drop 2)), Str (bT ((bs.take (2 + (bs.getD 1 0).toNat + 1 + (bs.getD (2 + (bs.getD 1 0).toNat) 0).toNat)).drop ((2 + (bs.getD 1 0).toNat) + 1)))]) [(0, Str (bT ((bs.take (2 + (bs.getD 1 0).toNat)).drop 2))), (1, Str (bT ((bs.take (2 + (bs.getD 1 0).toNat + 1 + (bs.getD (2 + (bs.getD 1 0).toNat) 0).toNat)).drop ((2 + (bs.getD 1 0).toNat) + 1))))] rfl (fun _ => by kernel_rfl)) (.nil ?_))
                 exact alc D_7_1 ⟨⟨rfl, rfl, rfl, trivial⟩, hs15⟩
               · refine one_ rfl (al (v := .agg #[Str [], Str []]) (cs := [Str [], Str []]) hs14 tz51 rfl trivial rfl (fun b11' w16 hs16 => ?_))
                 exact nl (kq ⟨_, hs16, memi 0 rfl, trivial⟩ (alc D_7_2 ⟨b11', ⟨rfl, rfl, rfl, rfl, rfl, trivial⟩, hs16⟩))
             refine dag (fuel' := 4) (listed' := lbits 13 2551) (fun f w' => ∃ (b11' : Nat), Has f [(2, pB b1), (6, I ((2 + (bs.getD 1 0).toNat + 1 + (bs.getD (2 + (bs.getD 1 0).toNat) 0).toNat : Nat) : Int)), (7, pB b11'), (56, .slice (if cbs = 2 then Abs else Abs.map (·.add (2 * 1))) (((bs.take (2 + (bs.getD 1 0).toNat)).drop 2).length) (cbs - 2)), (62, .slice (if cbs = (2 + (bs.getD 1 0).toNat) + 1 then Abs else Abs.map (·.add (((2 + (bs.getD 1 0).toNat) + 1) * 1))) (((bs.take (2 + (bs.getD 1 0).toNat + 1 + (bs.getD (2 + (bs.getD 1 0).toNat) 0).toNat)).drop ((2 + (bs.getD 1 0).toNat) + 1)).length) (cbs - ((2 + (bs.getD 1 0).toNat) + 1)))] ∧ SH w w' [] [.blk b1 51 [Str [], Str []], .blk b11' 51 [Str [], Str []]]) ?_ (fun D_7_4 => ?_)
             · rintro f w17 ⟨b11', hf, hs17⟩
               obtain ⟨g5, rfl⟩ := has_upd hf
               clear hf
               refine aaL [3] (fa_one ?_)
               refine one_ rfl (cl trivial rfl (sL1Bytes (Azs := if cbs = 2 then Abs else Abs.map (·.add (2 * 1))) (czs := cbs - 2) (zs := (bs.take (2 + (bs.getD 1 0).toNat)).drop 2) (w := _) (hzs := (Sl.cutm (hbs.up0 hs17) (by (first | omega | (simp; done) | (simp; omega))) (by (first | omega | (simp; done) | (simp; omega))))) (hz := (by intro x hx; exact (isBytes_iff.1 (by assumption : isBytes bs = true)).1 x (List.mem_of_mem_take (List.mem_of_mem_drop hx)))) (hzl := (by have hbl := isBytes_len (by assumption : isBytes bs = true); simp only [List.length_drop, List.length_take]; omega))) ?_)
               rintro _ w18 ⟨rfl, hs18'⟩
               have hs18 := hs17.call0 hs18'
               clear hs18'
               exact nl (kq ⟨_, hs18, memi 0 rfl, trivial⟩ (alc D_7_2 ⟨b11', ⟨rfl, rfl, rfl, rfl, rfl, trivial⟩, hs18⟩))
             refine dag (fuel' := 5) (listed' := lbits 13 503) (fun f w' => Has f [(2, pB b1), (6, I ((2 + (bs.getD 1 0).toNat + 1 + (bs.getD (2 + (bs.getD 1 0).toNat) 0).toNat : Nat) : Int)), (56, .slice (if cbs = 2 then Abs else Abs.map (·.add (2 * 1))) (((bs.take (2 + (bs.getD 1 0).toNat)).drop 2).length) (cbs - 2)), (62, .slice (if cbs = (2 + (bs.getD 1 0).toNat) + 1 then Abs else Abs.map (·.add (((2 + (bs.getD 1 0).toNat) + 1) * 1))) (((bs.take (2 + (bs.getD 1 0).toNat + 1 + (bs.getD (2 + (bs.getD 1 0).toNat) 0).toNat)).drop ((2 + (bs.getD 1 0).toNat) + 1)).length) (cbs - ((2 + (bs.getD 1 0).toNat) + 1)))] ∧ SH w w' [] [.blk b1 51 [Str [], Str []]]) ?_ (fun D_7_5 => ?_)
             · rintro f w19 ⟨hf, hs19⟩
               obtain ⟨g6, rfl⟩ := has_upd hf
               clear hf
               refine aaL [3, 11] (fa_cons ?_ (fa_one ?_))
               · refine one_ rfl (cl trivial rfl (sL1Bytes (Azs := if cbs = 2 then Abs else Abs.map (·.add (2 * 1))) (czs := cbs - 2) (zs := (bs.take (2 + (bs.getD 1 0).toNat)).drop 2) (w := _) (hzs := (Sl.cutm (hbs.up0 hs19) (by (first | omega | (simp; done) | (simp; omega))) (by (first | omega | (simp; done) | (simp; omega))))) (hz := (by intro x hx; exact (isBytes_iff.1 (by assumption : isBytes bs = true)).1 x (List.mem_of_mem_take (List.mem_of_mem_drop hx)))) (hzl := (by have hbl := isBytes_len (by assumption : isBytes bs = true); simp only [List.length_drop, List.length_take]; omega))) ?_)
                 rintro _ w20 ⟨rfl, hs20'⟩
                 have hs20 := hs19.call0 hs20'
                 clear hs20'
                 exact nl (kq ⟨_, hs20, memi 0 rfl, trivial⟩ (alc D_7_3 ⟨⟨rfl, rfl, rfl, rfl, trivial⟩, hs20⟩))
               · refine one_ rfl (al (v := .agg #[Str [], Str []]) (cs := [Str [], Str []]) hs19 tz51 rfl trivial rfl (fun b11' w21 hs21 => ?_))
                 exact nl (kq ⟨_, hs21, memi 0 rfl, trivial⟩ (alc D_7_4 ⟨b11', ⟨rfl, rfl, rfl, rfl, rfl, trivial⟩, hs21⟩))
             have hs22 := hs2.drew
             refine tk (fuel := 5) (is := [0, 1, 2, 4, 5, 6, 7, 8]) (.cons rfl (.cons rfl (.cons rfl (.cons rfl (.cons rfl (.cons rfl (.cons rfl (.cons rfl (.nil))))))))) (by kernel_rfl) (by kernel_rfl) ⟨_, hs22, memi 0 rfl, trivial⟩ (.op trivial rfl rfl (fun wq _ => mv (v := .slice Abs bs.length cbs) rfl) (.op trivial rfl rfl (fun wq _ => mv (v := I ((2 + (bs.getD 1 0).toNat : Nat) : Int)) rfl) (.op trivial rfl rfl (fun wq _ => cum (zs := bs) 2 (2 + (bs.getD 1 0).toNat) sl22 rfl rfl rfl (by (first | omega | (simp; done) | (simp; omega))) (by (first | omega | (simp; done) | (simp; omega))) hbs.cap) (.op trivial rfl rfl (fun wq _ => mv (v := .slice Abs bs.length cbs) rfl) (.op trivial rfl rfl (fun wq _ => mv (v := I ((2 + (bs.getD 1 0).toNat : Nat) : Int)) rfl) (.op trivial rfl rfl (fun wq _ => add (a := ((2 + (bs.getD 1 0).toNat : Nat) : Int)) (b := 1) rfl rfl (by (exact ⟨by omega, by omega⟩))) (.op trivial rfl rfl (fun wq _ => mv (v := I ((2 + (bs.getD 1 0).toNat + 1 + (bs.getD (2 + (bs.getD 1 0).toNat) 0).toNat : Nat) : Int)) rfl) ?_)))))))
             refine .op trivial rfl rfl (fun wq _ => cum (zs := bs) ((2 + (bs.getD 1 0).toNat) + 1) (2 + (bs.getD 1 0).toNat + 1 + (bs.getD (2 + (bs.getD 1 0).toNat) 0).toNat) sl22 rfl rfl rfl (by (first | omega | (simp; done) | (simp; omega))) (by (first | omega | (simp; done) | (simp; omega))) hbs.cap) (.nil ?_)
             exact alc D_7_5 ⟨⟨rfl, rfl, rfl, rfl, trivial⟩, hs22⟩
           rintro f w22 ⟨b11', hf, hs23⟩
           obtain ⟨g7, rfl⟩ := has_upd hf
           clear hf
           refine nN (sq (sq (rg (qt rfl (ldg (vs := [Str (bT ((bs.take (2 + (bs.getD 1 0).toNat)).drop 2)), Str (bT ((bs.take (2 + (bs.getD 1 0).toNat + 1 + (bs.getD (2 + (bs.getD 1 0).toNat) 0).toNat)).drop ((2 + (bs.getD 1 0).toNat) + 1)))]) hs23 1 rfl rfl rfl rfl ag51) (cl trivial rfl (sL11Ok (lu := bT ((bs.take (2 + (bs.getD 1 0).toNat)).drop 2)) (lw := bT ((bs.take (2 + (bs.getD 1 0).toNat + 1 + (bs.getD (2 + (bs.getD 1 0).toNat) 0).toNat)).drop ((2 + (bs.getD 1 0).toNat) + 1))) (w := _) (hlu_n := (by have hbl := isBytes_len (by assumption : isBytes bs = true); simp only [bT_len, List.length_drop, List.length_take]; omega)) (hlw_n := (by have hbl := isBytes_len (by assumption : isBytes bs = true); simp only [bT_len, List.length_drop, List.length_take]; omega))) ?_)))))
           rintro _ w23 ⟨rfl, hs24'⟩
           have hs24 := hs23.call0 hs24'
           clear hs24'
           refine qt rfl (nt (b := loginOk (bT ((bs.take (2 + (bs.getD 1 0).toNat)).drop 2)) (bT ((bs.take (2 + (bs.getD 1 0).toNat + 1 + (bs.getD (2 + (bs.getD 1 0).toNat) 0).toNat)).drop ((2 + (bs.getD 1 0).toNat) + 1)))) rfl) (nl (nN ?_))
           refine cd (b := !(loginOk (bT ((bs.take (2 + (bs.getD 1 0).toNat)).drop 2)) (bT ((bs.take (2 + (bs.getD 1 0).toNat + 1 + (bs.getD (2 + (bs.getD 1 0).toNat) 0).toNat)).drop ((2 + (bs.getD 1 0).toNat) + 1))))) rfl (fun h8 => ?_) (fun h8 => ?_)
           · have h9 : (loginOk (bT ((bs.take (2 + (bs.getD 1 0).toNat)).drop 2)) (bT ((bs.take (2 + (bs.getD 1 0).toNat + 1 + (bs.getD (2 + (bs.getD 1 0).toNat) 0).toNat)).drop ((2 + (bs.getD 1 0).toNat) + 1)))) = false := by simpa using h8
             refine sq (rg (qt rfl (bdv (v := .agg #[Str [], Str []]) [] rfl (fun _ => by kernel_rfl)) (stg (vs := [Str [], Str []]) hs24 0 rfl rfl rfl rfl rfl rfl rfl ag51 trivial (fun w24 (hs25 : SH w w24 [] [.blk b11' 51 [Str (bT ((bs.take (2 + (bs.getD 1 0).toNat)).drop 2)), Str (bT ((bs.take (2 + (bs.getD 1 0).toNat + 1 + (bs.getD (2 + (bs.getD 1 0).toNat) 0).toNat)).drop ((2 + (bs.getD 1 0).toNat) + 1)))], .blk b1 51 [Str [], Str []]]) => ?_))))
             refine qt rfl (asg (v := I 0) rfl) (qt rfl (asg (v := .bool false) rfl) (nl (nN (rt (tR ?_)))))
             refine fret (v := .tuple #[.agg #[Str [], Str []], I 0, .bool false]) (resC hs25 1 rfl rfl ag51 rfl (.tmp (.tmp .nil))) rfl ?_
             have e28 : loginFrom bs = (([], []), 0, false) := by (rw [login_eq (by assumption) (by omega) (Decidable.not_not.1 (by assumption)) (by omega) rfl rfl (by omega) rfl rfl]; first | exact if_pos (by assumption) | exact if_neg (ne_true (by assumption)))
             have e29 : [] = (loginFrom bs).1.1 := by rw [e28]
             have e30 : [] = (loginFrom bs).1.2 := by rw [e28]
             have e31 : 0 = (loginFrom bs).2.1 := by rw [e28]
             have e32 : false = (loginFrom bs).2.2 := by rw [e28]
             exact ⟨(tup3 (aggv (lc (congrArg (Str) e29) (lc (congrArg (Str) e30) rfl))) (congrArg (Value.int .i64) e31) (congrArg (Value.bool) e32)), (hs25.pick [] rfl (by decide))⟩
           · have h10 : (loginOk (bT ((bs.take (2 + (bs.getD 1 0).toNat)).drop 2)) (bT ((bs.take (2 + (bs.getD 1 0).toNat + 1 + (bs.getD (2 + (bs.getD 1 0).toNat) 0).toNat)).drop ((2 + (bs.getD 1 0).toNat) + 1)))) = true := by simpa using h8
             refine sk (nN (sq (rg (qt rfl (ldg (vs := [Str (bT ((bs.take (2 + (bs.getD 1 0).toNat)).drop 2)), Str (bT ((bs.take (2 + (bs.getD 1 0).toNat + 1 + (bs.getD (2 + (bs.getD 1 0).toNat) 0).toNat)).drop ((2 + (bs.getD 1 0).toNat) + 1)))]) hs24 1 rfl rfl rfl rfl ag51) (qt rfl (mv (v := I ((2 + (bs.getD 1 0).toNat + 1 + (bs.getD (2 + (bs.getD 1 0).toNat) 0).toNat : Nat) : Int)) rfl) (stg (vs := [Str (bT ((bs.take (2 + (bs.getD 1 0).toNat)).drop 2)), Str (bT ((bs.take (2 + (bs.getD 1 0).toNat + 1 + (bs.getD (2 + (bs.getD 1 0).toNat) 0).toNat)).drop ((2 + (bs.getD 1 0).toNat) + 1)))]) hs24 0 rfl rfl rfl rfl rfl rfl rfl ag51 trivial (fun w25 (hs26 : SH w w25 [] [.blk b11' 51 [Str (bT ((bs.take (2 + (bs.getD 1 0).toNat)).drop 2)), Str (bT ((bs.take (2 + (bs.getD 1 0).toNat + 1 + (bs.getD (2 + (bs.getD 1 0).toNat) 0).toNat)).drop ((2 + (bs.getD 1 0).toNat) + 1)))], .blk b1 51 [Str (bT ((bs.take (2 + (bs.getD 1 0).toNat)).drop 2)), Str (bT ((bs.take (2 + (bs.getD 1 0).toNat + 1 + (bs.getD (2 + (bs.getD 1 0).toNat) 0).toNat)).drop ((2 + (bs.getD 1 0).toNat) + 1)))]]) => ?_)))))))
             refine qt rfl (asg (v := I ((2 + (bs.getD 1 0).toNat + 1 + (bs.getD (2 + (bs.getD 1 0).toNat) 0).toNat : Nat) : Int)) rfl) (qt rfl (asg (v := .bool true) rfl) (nl (nN (rt (fret (v := .tuple #[.agg #[Str (bT ((bs.take (2 + (bs.getD 1 0).toNat)).drop 2)), Str (bT ((bs.take (2 + (bs.getD 1 0).toNat + 1 + (bs.getD (2 + (bs.getD 1 0).toNat) 0).toNat)).drop ((2 + (bs.getD 1 0).toNat) + 1)))], I ((2 + (bs.getD 1 0).toNat + 1 + (bs.getD (2 + (bs.getD 1 0).toNat) 0).toNat : Nat) : Int), .bool true]) (resC hs26 1 rfl rfl ag51 rfl (.tmp (.tmp .nil))) rfl ?_)))))
             have e33 : loginFrom bs = ((bT ((bs.take (2 + (bs.getD 1 0).toNat)).drop 2), bT ((bs.take (2 + (bs.getD 1 0).toNat + 1 + (bs.getD (2 + (bs.getD 1 0).toNat) 0).toNat)).drop ((2 + (bs.getD 1 0).toNat) + 1))), ((2 + (bs.getD 1 0).toNat + 1 + (bs.getD (2 + (bs.getD 1 0).toNat) 0).toNat : Nat) : Int), true) := by (rw [login_eq (by assumption) (by omega) (Decidable.not_not.1 (by assumption)) (by omega) rfl rfl (by omega) rfl rfl]; first | exact if_pos (by assumption) | exact if_neg (ne_true (by assumption)))
             have e34 : bT ((bs.take (2 + (bs.getD 1 0).toNat)).drop 2) = (loginFrom bs).1.1 := by rw [e33]
             have e35 : bT ((bs.take (2 + (bs.getD 1 0).toNat + 1 + (bs.getD (2 + (bs.getD 1 0).toNat) 0).toNat)).drop ((2 + (bs.getD 1 0).toNat) + 1)) = (loginFrom bs).1.2 := by rw [e33]
             have e36 : ((2 + (bs.getD 1 0).toNat + 1 + (bs.getD (2 + (bs.getD 1 0).toNat) 0).toNat : Nat) : Int) = (loginFrom bs).2.1 := by rw [e33]
             have e37 : true = (loginFrom bs).2.2 := by rw [e33]
             exact ⟨(tup3 (aggv (lc (congrArg (Str) e34) (lc (congrArg (Str) e35) rfl))) (congrArg (Value.int .i64) e36) (congrArg (Value.bool) e37)), (hs26.pick [] rfl (by decide))⟩
theorem slIndexL {Azs : Option Addr} {czs : Nat} (zs : List (List UInt8 × List UInt8)) (lu : List UInt8) (lw : List UInt8) (w : World) (hzs : Sl w [] 2 Azs zs.length czs (zs.flatMap gLogin)) (hzs_e : ∀ u ∈ zs, u.1.length ≤ 9223372036854775807 ∧ u.2.length ≤ 9223372036854775807) : Does Tryz.prog 140 [.slice Azs zs.length czs, .agg #[Str lu, Str lw]] w (fun v w' => v = .int .i64 (idxP (fun x => decide (x = (lu, lw))) zs) ∧ SH w w' [] []) := by
 refine fn_enter (N := 19) Tryz.func140 rfl (by kernel_rfl) rfl rfl rfl ?_
 have hs0 : SH w w [] [] := SH.refl w []
 have hzs_m : zs.length ≤ 9223372036854775807 := Nat.le_trans hzs.cap hzs.capMax
 refine sq (rg (bx (v := .agg #[Str lu, Str lw]) (cs := [Str lu, Str lw]) hs0 rfl rfl trivial rfl (fun b1 w1 (hs1 : SH w w1 [] [.blk b1 51 [Str lu, Str lw]]) => ?_)))
 refine qt rfl (asg (v := I 0) rfl) (nl (nN (sq (sq (rg (qt rfl (mv (v := .slice Azs zs.length czs) rfl) (qt rfl (lnA (n := zs.length) sl27 rfl) ?_)))))))
 refine qt rfl (mv (v := I 0) rfl) (nl (nN (bl (lp (σ := Nat) (fun (k : Nat) f w' => Has f [(0, .slice Azs zs.length czs), (3, pB b1), (7, I ((zs.length : Nat) : Int)), (8, I ((k : Nat) : Int))] ∧ (k ≤ zs.length) ∧ (∀ j, j < k → ¬ zs.getD j login0 = (lu, lw)) ∧ SH w w' [] [.blk b1 51 [Str lu, Str lw]]) (fun k => zs.length - k) 0 ⟨⟨rfl, rfl, rfl, rfl, trivial⟩, (by simp), (by intro j hj; omega), hs1⟩ ?_))))
 rintro k f w2 ⟨hf, hk, hn, hs2⟩
 obtain ⟨g1, rfl⟩ := has_upd hf
 clear hf
 refine sq (rg (qt rfl (lss (k := .i64) (a := ((k : Nat) : Int)) (b := ((zs.length : Nat) : Int)) rfl rfl) (nl (nN (sq ?_)))))
 refine cdd (p := ((k : Nat) : Int) < ((zs.length : Nat) : Int)) rfl (fun h1 => ?_) (fun h1 => ?_)
 · refine sk (nN (sq (bl (sq (rg (qt rfl (mv (v := I ((k : Nat) : Int)) rfl) (qt rfl (asg (v := I ((k : Nat) : Int)) rfl) ?_)))))))
   refine nl (nN (sq (rq (fun w' => SH w w' [] [.blk b1 51 [Str lu, Str lw]]) mixed (by kernel_rfl) hs2.drew (qq trivial rfl rfl (fun wq hsq => ldg (vs := [Str lu, Str lw]) hsq 0 rfl rfl rfl rfl ag51) (qq trivial rfl rfl (fun wq hsq => mv (v := .slice Azs zs.length czs) rfl) (qq trivial rfl rfl (fun wq hsq => mv (v := I ((k : Nat) : Int)) rfl) (ixqf (g := gLogin) (zs := zs) (fun _ => rfl) login0 k sl27 rfl rfl hzs (by omega) (by omega) trivial rfl (fun a1 ha1 => ?_))))))))
   refine qq trivial rfl rfl (fun wq hsq => ldag (us := [Str ((zs.getD k login0).1), Str ((zs.getD k login0).2)]) hsq ha1 (fun _ h => h) rfl rfl ag51) (qq trivial rfl rfl (fun wq hsq => eq2 (a := lu) (b := lw) (c := (zs.getD k login0).1) (e := (zs.getD k login0).2) s2_51 rfl rfl) (qn (fun w3 hs3 => ?_)))
   refine nN ?_
   refine cdd (p := lu = (zs.getD k login0).1 ∧ lw = (zs.getD k login0).2) rfl (fun h2 => ?_) (fun h2 => ?_)
   · refine sq (rg (qt rfl (mv (v := I ((k : Nat) : Int)) rfl) (qt rfl (asg (v := I ((k : Nat) : Int)) rfl) (nl (nN ?_)))))
     refine rt (bR (tR (tR (bR (tR ?_)))))
     refine fret (v := I ((k : Nat) : Int)) (.tmp .nil) rfl ?_
     have e1 : ((k : Nat) : Int) = idxP (fun x => decide (x = (lu, lw))) zs := by exact idxP_eq (d := login0) (by omega) (fun j hj => decide_eq_false (hn j hj)) (decide_eq_true (pair_eq ⟨h2.1.symm, h2.2.symm⟩))
     exact ⟨(congrArg (Value.int .i64) e1), (hs3.pick [] rfl (by decide))⟩
   · refine sk (bN (nN (rg (qt rfl (add (a := ((k : Nat) : Int)) (b := 1) rfl rfl (by exact ⟨by omega, by omega⟩)) (qt rfl (mv (v := I (((k : Nat) : Int) + 1)) rfl) (nl (nN ?_)))))))
     refine ⟨(k + 1), ⟨⟨rfl, rfl, rfl, rfl, trivial⟩, (by omega), (by intro j hj; rcases Nat.lt_succ_iff_lt_or_eq.1 hj with h | h; exact hn j h; subst h; intro he; refine absurd ?_ (by assumption : ¬ (_ ∧ _)); rw [he]; exact ⟨rfl, rfl⟩), hs3⟩, ?_⟩
     omega
 · refine ex (tE (tE (bE ?_)))
   refine nN (sq (rg (qt rfl (asg (v := I (-1)) rfl) (nl (nN (rt (fret (v := I (-1)) (.tmp .nil) rfl ?_)))))))
   have e2 : (-1) = idxP (fun x => decide (x = (lu, lw))) zs := by exact idxP_none (d := login0) (fun j hj => decide_eq_false (hn j (by omega)))
   exact ⟨(congrArg (Value.int .i64) e2), (hs2.pick [] rfl (by decide))⟩
theorem slContainsL {Azs : Option Addr} {czs : Nat} (zs : List (List UInt8 × List UInt8)) (lu : List UInt8) (lw : List UInt8) (w : World) (hzs : Sl w [] 2 Azs zs.length czs (zs.flatMap gLogin)) (hzs_e : ∀ u ∈ zs, u.1.length ≤ 9223372036854775807 ∧ u.2.length ≤ 9223372036854775807) : Does Tryz.prog 82 [.slice Azs zs.length czs, .agg #[Str lu, Str lw]] w (fun v w' => v = .bool (decide ((lu, lw) ∈ zs)) ∧ SH w w' [] []) := by
 refine fn_enter (N := 9) Tryz.func82 rfl (by kernel_rfl) rfl rfl rfl ?_
 have hs0 : SH w w [] [] := SH.refl w []
 have hzs_m : zs.length ≤ 9223372036854775807 := Nat.le_trans hzs.cap hzs.capMax
 refine sq (rg (bx (v := .agg #[Str lu, Str lw]) (cs := [Str lu, Str lw]) hs0 rfl rfl trivial rfl (fun b1 w1 (hs1 : SH w w1 [] [.blk b1 51 [Str lu, Str lw]]) => ?_)))
 refine qt rfl (asg (v := .bool false) rfl) (nl (nN (sq (rg (qt rfl (mv (v := .slice Azs zs.length czs) rfl) (qt rfl (ldg (vs := [Str lu, Str lw]) hs1 0 rfl rfl rfl rfl ag51) (cl trivial rfl (slIndexL (Azs := Azs) (czs := czs) (zs := zs) (lu := lu) (lw := lw) (w := _) (hzs := (hzs.up0 hs1)) (hzs_e := hzs_e)) ?_)))))))
 rintro _ w2 ⟨rfl, hs2'⟩
 have hs2 := hs1.call0 hs2'
 clear hs2'
 refine qt rfl (geq (k := .i64) (a := idxP (fun x => decide (x = (lu, lw))) zs) (b := 0) rfl rfl) (qt rfl (asg (v := .bool (decide ((0 : Int) ≤ (idxP (fun x => decide (x = (lu, lw))) zs)))) rfl) (nl (nN (rt (fret (v := .bool (decide ((0 : Int) ≤ (idxP (fun x => decide (x = (lu, lw))) zs)))) (.tmp .nil) rfl ?_)))))
 have e1 : (decide ((0 : Int) ≤ (idxP (fun x => decide (x = (lu, lw))) zs))) = (decide ((lu, lw) ∈ zs)) := by rw [idxP_any, Bool.eq_iff_iff]; simp
 exact ⟨(congrArg (Value.bool) e1), (hs2.pick [] rfl (by decide))⟩
theorem iLoginFits {Alg : Option Addr} {clg : Nat} (lg : List (List UInt8 × List UInt8)) (lu : List UInt8) (lw : List UInt8) (w : World) (hlg : Sl w [] 2 Alg lg.length clg (lg.flatMap gLogin)) (hlg_e : ∀ u ∈ lg, u.1.length ≤ 9223372036854775807 ∧ u.2.length ≤ 9223372036854775807) (hlu_n : lu.length ≤ 9223372036854775807) (hlw_n : lw.length ≤ 9223372036854775807) : Does Tryz.prog 32 [.slice Alg lg.length clg, .agg #[Str lu, Str lw]] w (fun v w' => v = .bool (fitsL lg lu lw) ∧ SH w w' [] []) := by
 refine fn_enter (N := 12) Tryz.func32 rfl (by kernel_rfl) rfl rfl rfl ?_
 have hs0 : SH w w [] [] := SH.refl w []
 have hlg_m : lg.length ≤ 9223372036854775807 := Nat.le_trans hlg.cap hlg.capMax
 refine sq (rg (bx (v := .agg #[Str lu, Str lw]) (cs := [Str lu, Str lw]) hs0 rfl rfl trivial rfl (fun b1 w1 (hs1 : SH w w1 [] [.blk b1 51 [Str lu, Str lw]]) => ?_)))
 refine qt rfl (asg (v := .bool false) rfl) (nl (nN (sq (rg (qt rfl (ldg (vs := [Str lu, Str lw]) hs1 0 rfl rfl rfl rfl ag51) (cl trivial rfl (iIsLogin (lu := lu) (lw := lw) (w := _) (hlu_n := (by omega)) (hlw_n := (by omega))) ?_))))))
 rintro _ w2 ⟨rfl, hs2'⟩
 have hs2 := hs1.call0 hs2'
 clear hs2'
 refine qt rfl (mv (v := .bool (loginOk lu lw)) rfl) ?_
 refine spl (b := loginOk lu lw) 7 rfl (fun h1 => ?_) (fun h1 => ?_)
 · refine q ⟨_, rfl, rfl⟩ rfl rfl (mv (v := .slice Alg lg.length clg) rfl) (q ⟨_, rfl, rfl⟩ rfl rfl (ldg (vs := [Str lu, Str lw]) hs2 0 rfl rfl rfl rfl ag51) (cl ⟨_, rfl, rfl⟩ rfl (slContainsL (Azs := Alg) (czs := clg) (zs := lg) (lu := lu) (lw := lw) (w := _) (hzs := (hlg.up0 hs2)) (hzs_e := hlg_e)) ?_))
   rintro _ w3 ⟨rfl, hs3'⟩
   have hs3 := hs2.call0 hs3'
   clear hs3'
   refine qt rfl (pt (v := .bool (decide ((lu, lw) ∈ lg))) rfl rfl) (qt rfl (asg (v := .bool (decide ((lu, lw) ∈ lg))) rfl) (nl (nN (rt (fret (v := .bool (decide ((lu, lw) ∈ lg))) (.tmp .nil) rfl ?_)))))
   have e1 : (decide ((lu, lw) ∈ lg)) = fitsL lg lu lw := by simp [fitsL, h1]
   exact ⟨(congrArg (Value.bool) e1), (hs3.pick [] rfl (by decide))⟩
 · refine gk false rfl rfl rfl rfl rfl (gk false rfl rfl rfl rfl rfl (gk false rfl rfl rfl rfl rfl (qt rfl (pf (v := .bool false) rfl rfl) (qt rfl (asg (v := .bool false) rfl) (nl (nN (rt ?_)))))))
   refine fret (v := .bool false) (.tmp .nil) rfl ?_
   have e2 : false = fitsL lg lu lw := by simp [fitsL, h1]
   exact ⟨(congrArg (Value.bool) e2), (hs2.pick [] rfl (by decide))⟩
theorem sLoginFits {Alg : Option Addr} {clg : Nat} (lg : List (List UInt8 × List UInt8)) (lu : List UInt8) (lw : List UInt8) (w : World) (hlg : Sl w [] 2 Alg lg.length clg (lg.flatMap gLogin)) (hlg_e : ∀ u ∈ lg, u.1.length ≤ 9223372036854775807 ∧ u.2.length ≤ 9223372036854775807) (hlu_n : lu.length ≤ 9223372036854775807) (hlw_n : lw.length ≤ 9223372036854775807) : Does Tryz.prog 98 [.slice Alg lg.length clg, .agg #[Str lu, Str lw]] w (fun v w' => v = .bool (fitsL lg lu lw) ∧ SH w w' [] []) := by
 refine fn_enter (N := 22) Tryz.func98 rfl (by kernel_rfl) rfl rfl rfl ?_
 have hs0 : SH w w [] [] := SH.refl w []
 have hlg_m : lg.length ≤ 9223372036854775807 := Nat.le_trans hlg.cap hlg.capMax
 refine sq (rg (bx (v := .agg #[Str lu, Str lw]) (cs := [Str lu, Str lw]) hs0 rfl rfl trivial rfl (fun b1 w1 (hs1 : SH w w1 [] [.blk b1 51 [Str lu, Str lw]]) => ?_)))
 refine qt rfl (asg (v := .bool false) rfl) (nl (nN (sq (sq (rg (qt rfl (asg (v := I 0) rfl) (nl ?_)))))))
 refine nN (bl (lp (σ := Nat) (fun (k : Nat) f w' => Has f [(0, .slice Alg lg.length clg), (3, pB b1), (5, I ((k : Nat) : Int))] ∧ (k ≤ lg.length) ∧ (∀ j, j < k → ¬ lg.getD j login0 = (lu, lw)) ∧ SH w w' [] [.blk b1 51 [Str lu, Str lw]]) (fun k => lg.length - k) 0 ⟨⟨rfl, rfl, rfl, trivial⟩, (by simp), (by intro j hj; omega), hs1⟩ ?_))
 rintro k f w2 ⟨hf, hk, hn, hs2⟩
 obtain ⟨g1, rfl⟩ := has_upd hf
 clear hf
 refine sq (sq (rg (qt rfl (mv (v := I ((k : Nat) : Int)) rfl) (qt rfl (mv (v := .slice Alg lg.length clg) rfl) (qt rfl (lnA (n := lg.length) sl27 rfl) (qt rfl (lss (k := .i64) (a := ((k : Nat) : Int)) (b := ((lg.length : Nat) : Int)) rfl rfl) (qt rfl (mv (v := .bool (decide (((k : Nat) : Int) < ((lg.length : Nat) : Int)))) rfl) ?_)))))))
 refine spd (p := ((k : Nat) : Int) < ((lg.length : Nat) : Int)) 10 rfl (fun h1 => ?_) (fun h1 => ?_)
 · refine q ⟨_, rfl, rfl⟩ rfl rfl (ldg (vs := [Str lu, Str lw]) hs2 0 rfl rfl rfl rfl ag51) (cl ⟨_, rfl, rfl⟩ rfl (sL11Ok (lu := lu) (lw := lw) (w := _) (hlu_n := (by omega)) (hlw_n := (by omega))) ?_)
   rintro _ w3 ⟨rfl, hs3'⟩
   have hs3 := hs2.call0 hs3'
   clear hs3'
   refine qt rfl (pt (v := .bool (loginOk lu lw)) rfl rfl) (nl (nN ?_))
   refine cd (b := loginOk lu lw) rfl (fun h2 => ?_) (fun h2 => ?_)
   · refine sk (nN (sq (bl (sq (rq (fun w' => SH w w' [] [.blk b1 51 [Str lu, Str lw]]) mixed (by kernel_rfl) hs3.drew (qq trivial rfl rfl (fun wq hsq => mv (v := .slice Alg lg.length clg) rfl) (qq trivial rfl rfl (fun wq hsq => mv (v := I ((k : Nat) : Int)) rfl) ?_)))))))
     refine ixqf (g := gLogin) (zs := lg) (fun _ => rfl) login0 k sl27 rfl rfl hlg (by omega) (by omega) trivial rfl (fun a1 ha1 => ?_)
     refine qq trivial rfl rfl (fun wq hsq => ldag (us := [Str ((lg.getD k login0).1), Str ((lg.getD k login0).2)]) hsq ha1 (fun _ h => h) rfl rfl ag51) (qq trivial rfl rfl (fun wq hsq => ldg (vs := [Str lu, Str lw]) hsq 0 rfl rfl rfl rfl ag51) (qq trivial rfl rfl (fun wq hsq => eq2 (a := (lg.getD k login0).1) (b := (lg.getD k login0).2) (c := lu) (e := lw) s2_51 rfl rfl) (qn (fun w4 hs4 => ?_))))
     refine nN ?_
     refine cdd (p := (lg.getD k login0).1 = lu ∧ (lg.getD k login0).2 = lw) rfl (fun h3 => ?_) (fun h3 => ?_)
     · refine sq (rg (qt rfl (asg (v := .bool true) rfl) (nl (nN ?_))))
       refine rt (bR (tR (tR (bR (tR ?_)))))
       refine fret (v := .bool true) (.tmp .nil) rfl ?_
       have e1 : true = fitsL lg lu lw := by exact fits_yes (k := k) (by omega) (pair_eq (by assumption)) (by assumption)
       exact ⟨(congrArg (Value.bool) e1), (hs4.pick [] rfl (by decide))⟩
     · refine sk (bN (nN (rg (qt rfl (mv (v := I ((k : Nat) : Int)) rfl) (qt rfl (add (a := ((k : Nat) : Int)) (b := 1) rfl rfl (by exact ⟨by omega, by omega⟩)) (qt rfl (asg (v := I (((k : Nat) : Int) + 1)) rfl) (nl ?_)))))))
       refine nN ?_
       refine ⟨(k + 1), ⟨⟨rfl, rfl, rfl, trivial⟩, (by omega), (by intro j hj; rcases Nat.lt_succ_iff_lt_or_eq.1 hj with h | h; exact hn j h; subst h; intro he; refine absurd ?_ (by assumption : ¬ (_ ∧ _)); rw [he]; exact ⟨rfl, rfl⟩), hs4⟩, ?_⟩
       omega
   · refine ex (tE (tE (bE ?_)))
     refine nN (sq (rg (qt rfl (asg (v := .bool false) rfl) (nl (nN (rt (fret (v := .bool false) (.tmp .nil) rfl ?_)))))))
     have e2 : false = fitsL lg lu lw := by exact fits_no1 (by assumption)
     exact ⟨(congrArg (Value.bool) e2), (hs3.pick [] rfl (by decide))⟩
 · refine gk false rfl rfl rfl rfl rfl (gk false rfl rfl rfl rfl rfl (qt rfl (pf (v := .bool false) rfl rfl) (nl (nN (cdf rfl ?_)))))
   refine ex (tE (tE (bE ?_)))
   refine nN (sq (rg (qt rfl (asg (v := .bool false) rfl) (nl (nN (rt (fret (v := .bool false) (.tmp .nil) rfl ?_)))))))
   have e3 : false = fitsL lg lu lw := by exact fits_no2 (by omega) hn
   exact ⟨(congrArg (Value.bool) e3), (hs2.pick [] rfl (by decide))⟩
theorem sL3Size {Abs : Option Addr} {cbs : Nat} (bs : List Int) (w : World) (hbs : Sl w [] 1 Abs bs.length cbs (bs.map I)) (hob : isBytes bs = true) : Does Tryz.prog 186 [.slice Abs bs.length cbs] w (fun v w' => v = .int .i64 (szA bs) ∧ SH w w' [] []) := by
 refine fn_enter (N := 25) Tryz.func186 rfl (by kernel_rfl) rfl rfl rfl ?_
 have hs0 : SH w w [] [] := SH.refl w []
 have hbs_m : bs.length ≤ 9223372036854775807 := Nat.le_trans hbs.cap hbs.capMax
 refine sq (rg (qt rfl (asg (v := I 0) rfl) (nl (nN (sq (sq (rg ?_)))))))
 refine qt rfl (mv (v := .slice Abs bs.length cbs) rfl) (qt rfl (lnA (n := bs.length) sl22 rfl) (qt rfl (gtr (k := .i64) (a := ((bs.length : Nat) : Int)) (b := 0) rfl rfl) (qt rfl (mv (v := .bool (decide ((0 : Int) < ((bs.length : Nat) : Int)))) rfl) ?_)))
 refine spd (p := (0 : Int) < ((bs.length : Nat) : Int)) 6 rfl (fun h1 => ?_) (fun h1 => ?_)
 · refine q ⟨_, rfl, rfl⟩ rfl rfl (mv (v := .slice Abs bs.length cbs) rfl) (ixw1 0 sl22 rfl rfl hbs (by (first | omega | (simp; done) | (simp; omega))) (getm I 0 (by (first | omega | (simp; done) | (simp; omega)))) ⟨_, rfl, rfl⟩ rfl (fun a1 ha1 => ?_))
   refine q ⟨_, rfl, rfl⟩ rfl rfl (lda (v := I (bs.getD 0 0)) hs0 ha1 (fun _ h => h) rfl rfl one3) (q ⟨_, rfl, rfl⟩ rfl rfl (eqi (k := .i64) (a := bs.getD 0 0) (b := 1) rfl rfl) (qt rfl (pt (v := .bool (decide ((bs.getD 0 0) = 1))) rfl rfl) (nl (nN ?_))))
   refine cdd (p := (bs.getD 0 0) = 1) rfl (fun h2 => ?_) (fun h2 => ?_)
   · refine sq (rg (qt rfl (asg (v := I 7) rfl) (nl (nN (rt (tR ?_))))))
     refine fret (v := I 7) (.tmp .nil) rfl ?_
     have e1 : 7 = szA bs := by (unfold szA; rw [if_pos (by exact ⟨by omega, by omega⟩)]; done)
     exact ⟨(congrArg (Value.int .i64) e1), hs0⟩
   · refine sk (nN (sq (sq (rg (qt rfl (mv (v := .slice Abs bs.length cbs) rfl) (qt rfl (lnA (n := bs.length) sl22 rfl) (qt rfl (gtr (k := .i64) (a := ((bs.length : Nat) : Int)) (b := 1) rfl rfl) ?_)))))))
     refine qt rfl (mv (v := .bool (decide ((1 : Int) < ((bs.length : Nat) : Int)))) rfl) ?_
     refine spd (p := (1 : Int) < ((bs.length : Nat) : Int)) 15 rfl (fun h3 => ?_) (fun h3 => ?_)
     · refine q ⟨_, rfl, rfl⟩ rfl rfl (mv (v := .slice Abs bs.length cbs) rfl) (ixw1 0 sl22 rfl rfl hbs (by (first | omega | (simp; done) | (simp; omega))) (getm I 0 (by (first | omega | (simp; done) | (simp; omega)))) ⟨_, rfl, rfl⟩ rfl (fun a2 ha2 => ?_))
       refine q ⟨_, rfl, rfl⟩ rfl rfl (lda (v := I (bs.getD 0 0)) hs0 ha2 (fun _ h => h) rfl rfl one3) (q ⟨_, rfl, rfl⟩ rfl rfl (eqi (k := .i64) (a := bs.getD 0 0) (b := 3) rfl rfl) (qt rfl (pt (v := .bool (decide ((bs.getD 0 0) = 3))) rfl rfl) (nl (nN ?_))))
       refine cdd (p := (bs.getD 0 0) = 3) rfl (fun h4 => ?_) (fun h4 => ?_)
       · refine sq (rg (qt rfl (mv (v := .slice Abs bs.length cbs) rfl) (ixw1 1 sl22 rfl rfl hbs (by (first | omega | (simp; done) | (simp; omega))) (getm I 0 (by (first | omega | (simp; done) | (simp; omega)))) trivial rfl (fun a3 ha3 => ?_))))
         refine qt rfl (lda (v := I (bs.getD 1 0)) hs0 ha3 (fun _ h => h) rfl rfl one3) (qt rfl (add (a := 4) (b := bs.getD 1 0) rfl rfl (by (have hg1 := isBytes_get hob (k := 1) (by omega); exact ⟨by omega, by omega⟩))) (qt rfl (asg (v := I (4 + (bs.getD 1 0))) rfl) (nl (nN (rt (tR ?_))))))
         refine fret (v := I (4 + (bs.getD 1 0))) (.tmp .nil) rfl ?_
         have e2 : 4 + (bs.getD 1 0) = szA bs := by (unfold szA; rw [if_neg (by omega), if_pos (by exact ⟨by omega, by omega⟩)]; done)
         exact ⟨(congrArg (Value.int .i64) e2), hs0⟩
       · refine sk (nN (sq (rg (qt rfl (asg (v := I (-1)) rfl) (nl (nN (rt ?_)))))))
         refine fret (v := I (-1)) (.tmp .nil) rfl ?_
         have e3 : (-1) = szA bs := by (unfold szA; rw [if_neg (by omega), if_neg (by omega)])
         exact ⟨(congrArg (Value.int .i64) e3), hs0⟩
     · refine gk false rfl rfl rfl rfl rfl (gk false rfl rfl rfl rfl rfl (gk false rfl rfl rfl rfl rfl (gk false rfl rfl rfl rfl rfl (qt rfl (pf (v := .bool false) rfl rfl) (nl (nN (cdf rfl ?_)))))))
       refine sk (nN (sq (rg (qt rfl (asg (v := I (-1)) rfl) (nl (nN (rt ?_)))))))
       refine fret (v := I (-1)) (.tmp .nil) rfl ?_
       have e4 : (-1) = szA bs := by (unfold szA; rw [if_neg (by omega), if_neg (by omega)])
       exact ⟨(congrArg (Value.int .i64) e4), hs0⟩
 · refine gk false rfl rfl rfl rfl rfl (gk false rfl rfl rfl rfl rfl (gk false rfl rfl rfl rfl rfl (gk false rfl rfl rfl rfl rfl (qt rfl (pf (v := .bool false) rfl rfl) (nl (nN (cdf rfl ?_)))))))
   refine sk (nN (sq (sq (rg (qt rfl (mv (v := .slice Abs bs.length cbs) rfl) (qt rfl (lnA (n := bs.length) sl22 rfl) (qt rfl (gtr (k := .i64) (a := ((bs.length : Nat) : Int)) (b := 1) rfl rfl) ?_)))))))
   refine qt rfl (mv (v := .bool (decide ((1 : Int) < ((bs.length : Nat) : Int)))) rfl) ?_
   refine spd (p := (1 : Int) < ((bs.length : Nat) : Int)) 15 rfl (fun h5 => ?_) (fun h5 => ?_)
   · refine q ⟨_, rfl, rfl⟩ rfl rfl (mv (v := .slice Abs bs.length cbs) rfl) (ixw1 0 sl22 rfl rfl hbs (by (first | omega | (simp; done) | (simp; omega))) (getm I 0 (by (first | omega | (simp; done) | (simp; omega)))) ⟨_, rfl, rfl⟩ rfl (fun a4 ha4 => ?_))
     refine q ⟨_, rfl, rfl⟩ rfl rfl (lda (v := I (bs.getD 0 0)) hs0 ha4 (fun _ h => h) rfl rfl one3) (q ⟨_, rfl, rfl⟩ rfl rfl (eqi (k := .i64) (a := bs.getD 0 0) (b := 3) rfl rfl) (qt rfl (pt (v := .bool (decide ((bs.getD 0 0) = 3))) rfl rfl) (nl (nN ?_))))
     refine cdd (p := (bs.getD 0 0) = 3) rfl (fun h6 => ?_) (fun h6 => ?_)
     · refine sq (rg (qt rfl (mv (v := .slice Abs bs.length cbs) rfl) (ixw1 1 sl22 rfl rfl hbs (by (first | omega | (simp; done) | (simp; omega))) (getm I 0 (by (first | omega | (simp; done) | (simp; omega)))) trivial rfl (fun a5 ha5 => ?_))))
       refine qt rfl (lda (v := I (bs.getD 1 0)) hs0 ha5 (fun _ h => h) rfl rfl one3) (qt rfl (add (a := 4) (b := bs.getD 1 0) rfl rfl (by (exact ⟨by omega, by omega⟩))) (qt rfl (asg (v := I (4 + (bs.getD 1 0))) rfl) (nl (nN (rt (tR ?_))))))
       refine fret (v := I (4 + (bs.getD 1 0))) (.tmp .nil) rfl ?_
       have e5 : 4 + (bs.getD 1 0) = szA bs := by (unfold szA; rw [if_neg (by omega), if_pos (by exact ⟨by omega, by omega⟩)]; done)
       exact ⟨(congrArg (Value.int .i64) e5), hs0⟩
     · refine sk (nN (sq (rg (qt rfl (asg (v := I (-1)) rfl) (nl (nN (rt ?_)))))))
       refine fret (v := I (-1)) (.tmp .nil) rfl ?_
       have e6 : (-1) = szA bs := by (unfold szA; rw [if_neg (by omega), if_neg (by omega)])
       exact ⟨(congrArg (Value.int .i64) e6), hs0⟩
   · refine gk false rfl rfl rfl rfl rfl (gk false rfl rfl rfl rfl rfl (gk false rfl rfl rfl rfl rfl (gk false rfl rfl rfl rfl rfl (qt rfl (pf (v := .bool false) rfl rfl) (nl (nN (cdf rfl ?_)))))))
     refine sk (nN (sq (rg (qt rfl (asg (v := I (-1)) rfl) (nl (nN (rt ?_)))))))
     refine fret (v := I (-1)) (.tmp .nil) rfl ?_
     have e7 : (-1) = szA bs := by (unfold szA; rw [if_neg (by omega), if_neg (by omega)])
     exact ⟨(congrArg (Value.int .i64) e7), hs0⟩
set_option maxHeartbeats 8000000 in
theorem sAddressOf {Abs : Option Addr} {cbs : Nat} (bs : List Int) (w : World) (hbs : Sl w [] 1 Abs bs.length cbs (bs.map I)) (hob : isBytes bs = true) : Does Tryz.prog 170 [.slice Abs bs.length cbs] w (fun v w' => ∃ Aqr : Option Addr, ∃ cqr : Nat, v = .tuple #[.agg #[.int .i64 ((addrD bs).1.1), .slice Aqr ((addrD bs).1.2.1).length cqr, Str ((addrD bs).1.2.2.1), .int .i64 ((addrD bs).1.2.2.2)], .int .i64 ((addrD bs).2.1), .bool ((addrD bs).2.2)] ∧ SH w w' [] [.own Aqr (((addrD bs).1.2.1).length) cqr 3 1 (((addrD bs).1.2.1).map I)]) := by
 refine fn_enter (N := 56) Tryz.func170 rfl (by kernel_rfl) rfl rfl rfl ?_
 have hs0 : SH w w [] [] := SH.refl w []
 have hbs_m : bs.length ≤ 9223372036854775807 := Nat.le_trans hbs.cap hbs.capMax
 refine sq (rg (al (v := .agg #[I 0, ns, Str [], I 0]) (cs := [I 0, ns, Str [], I 0]) hs0 tz43 rfl trivial rfl (fun b1 w1 (hs1 : SH w w1 [] [.blk b1 43 [I 0, ns, Str [], I 0]]) => ?_)))
 refine qt rfl (asg (v := I 0) rfl) (qt rfl (asg (v := .bool false) rfl) (nl (nN (sq (rg (qt rfl (mv (v := .slice Abs bs.length cbs) rfl) (cl trivial rfl (sL3Size (Abs := Abs) (cbs := cbs) (bs := bs) (w := _) (hbs := (hbs.up0 hs1)) (hob := (by (first | omega | assumption | (simp; done) | (simp; omega))))) ?_)))))))
 rintro _ w2 ⟨rfl, hs2'⟩
 have hs2 := hs1.call0 hs2'
 clear hs2'
 refine qt rfl (asg (v := I (szA bs)) rfl) (nl (nN (sq (sq (rg (qt rfl (mv (v := .slice Abs bs.length cbs) rfl) (cl trivial rfl (sBytesValid (Azs := Abs) (czs := cbs) (zs := bs) (w := _) (hzs := (hbs.up0 hs2))) ?_)))))))
 rintro _ w3 ⟨rfl, hs3'⟩
 have hs3 := hs2.call0 hs3'
 clear hs3'
 refine qt rfl (nt (b := isBytes bs) rfl) (qt rfl (mv (v := .bool (!(isBytes bs))) rfl) ?_)
 refine spl (b := !(isBytes bs)) 12 rfl (fun h1 => ?_) (fun h1 => ?_)
 · have h2 : (isBytes bs) = false := by simpa using h1
   refine gk true rfl rfl rfl rfl rfl (gk true rfl rfl rfl rfl rfl (qt rfl (pt (v := .bool true) rfl rfl) (qt rfl (mv (v := .bool true) rfl) (gk true rfl rfl rfl rfl rfl (gk true rfl rfl rfl rfl rfl (gk true rfl rfl rfl rfl rfl (gk true rfl rfl rfl rfl rfl ?_)))))))
   refine qt rfl (pt (v := .bool true) rfl rfl) (nl (nN (cdt rfl (sq (rg (qt rfl (bdv (v := .agg #[I 0, ns, Str [], I 0]) [] rfl (fun _ => by kernel_rfl)) (stg (vs := [I 0, ns, Str [], I 0]) hs3 0 rfl rfl rfl rfl rfl rfl rfl ag43 trivial (fun w4 (hs4 : SH w w4 [] [.blk b1 43 [I 0, ns, Str [], I 0]]) => ?_))))))))
   refine qt rfl (asg (v := I 0) rfl) (qt rfl (asg (v := .bool false) rfl) (nl (nN (rt (tR ?_)))))
   refine fret (v := .tuple #[.agg #[I 0, ns, Str [], I 0], I 0, .bool false]) (resC hs4 0 rfl rfl ag43 rfl (.tmp (.tmp .nil))) rfl ?_
   have hs5 : SH w w4 [] [.blk b1 43 [I 0, ns, Str [], I 0], .own none (([] : List Int).length) 0 3 1 (([] : List Int).map I)] := SH.nils (by intro i hi; simp at hi; subst hi; exact nilItem) hs4
   have e1 : addrD bs = ((0, ([] : List Int), [], 0), 0, false) := by exact addrD_no (.inl (by assumption))
   have e2 : 0 = (addrD bs).1.1 := by rw [e1]
   have e3 : ([] : List Int) = (addrD bs).1.2.1 := by rw [e1]
   have e4 : ([] : List Int).length = ((addrD bs).1.2.1).length := by exact congrArg List.length e3
   have e5 : [] = (addrD bs).1.2.2.1 := by rw [e1]
   have e6 : 0 = (addrD bs).1.2.2.2 := by rw [e1]
   have e7 : 0 = (addrD bs).2.1 := by rw [e1]
   have e8 : false = (addrD bs).2.2 := by rw [e1]
   exact ⟨none, 0, (tup3 (aggv (lc (congrArg (Value.int .i64) e2) (lc (slv rfl e4 rfl) (lc (congrArg (Str) e5) (lc (congrArg (Value.int .i64) e6) rfl))))) (congrArg (Value.int .i64) e7) (congrArg (Value.bool) e8)), ((hs5.pick [1] rfl (by decide)).cast (lc (own_eq (g := I) rfl e4 rfl e3) rfl))⟩
 · have h3 : (isBytes bs) = true := by simpa using h1
   refine q ⟨_, rfl, rfl⟩ rfl rfl (mv (v := I (szA bs)) rfl) (q ⟨_, rfl, rfl⟩ rfl rfl (lss (k := .i64) (a := szA bs) (b := 0) rfl rfl) (qt rfl (pf (v := .bool (decide ((szA bs) < 0))) rfl rfl) (qt rfl (mv (v := .bool (decide ((szA bs) < 0))) rfl) ?_)))
   refine spd (p := (szA bs) < 0) 16 rfl (fun h4 => ?_) (fun h4 => ?_)
   · refine gk true rfl rfl rfl rfl rfl (gk true rfl rfl rfl rfl rfl (gk true rfl rfl rfl rfl rfl (gk true rfl rfl rfl rfl rfl (qt rfl (pt (v := .bool true) rfl rfl) (nl (nN (cdt rfl ?_)))))))
     refine sq (rg (qt rfl (bdv (v := .agg #[I 0, ns, Str [], I 0]) [] rfl (fun _ => by kernel_rfl)) (stg (vs := [I 0, ns, Str [], I 0]) hs3 0 rfl rfl rfl rfl rfl rfl rfl ag43 trivial (fun w5 (hs6 : SH w w5 [] [.blk b1 43 [I 0, ns, Str [], I 0]]) => ?_))))
     refine qt rfl (asg (v := I 0) rfl) (qt rfl (asg (v := .bool false) rfl) (nl (nN (rt (tR ?_)))))
     refine fret (v := .tuple #[.agg #[I 0, ns, Str [], I 0], I 0, .bool false]) (resC hs6 0 rfl rfl ag43 rfl (.tmp (.tmp .nil))) rfl ?_
     have hs7 : SH w w5 [] [.blk b1 43 [I 0, ns, Str [], I 0], .own none (([] : List Int).length) 0 3 1 (([] : List Int).map I)] := SH.nils (by intro i hi; simp at hi; subst hi; exact nilItem) hs6
     have e9 : addrD bs = ((0, ([] : List Int), [], 0), 0, false) := by exact addrD_no (.inr (.inl (by assumption)))
     have e10 : 0 = (addrD bs).1.1 := by rw [e9]
     have e11 : ([] : List Int) = (addrD bs).1.2.1 := by rw [e9]
     have e12 : ([] : List Int).length = ((addrD bs).1.2.1).length := by exact congrArg List.length e11
     have e13 : [] = (addrD bs).1.2.2.1 := by rw [e9]
     have e14 : 0 = (addrD bs).1.2.2.2 := by rw [e9]
     have e15 : 0 = (addrD bs).2.1 := by rw [e9]
     have e16 : false = (addrD bs).2.2 := by rw [e9]
     exact ⟨none, 0, (tup3 (aggv (lc (congrArg (Value.int .i64) e10) (lc (slv rfl e12 rfl) (lc (congrArg (Str) e13) (lc (congrArg (Value.int .i64) e14) rfl))))) (congrArg (Value.int .i64) e15) (congrArg (Value.bool) e16)), ((hs7.pick [1] rfl (by decide)).cast (lc (own_eq (g := I) rfl e12 rfl e11) rfl))⟩
   · refine q ⟨_, rfl, rfl⟩ rfl rfl (mv (v := I (szA bs)) rfl) (q ⟨_, rfl, rfl⟩ rfl rfl (mv (v := .slice Abs bs.length cbs) rfl) (q ⟨_, rfl, rfl⟩ rfl rfl (lnA (n := bs.length) sl22 rfl) (q ⟨_, rfl, rfl⟩ rfl rfl (gtr (k := .i64) (a := szA bs) (b := ((bs.length : Nat) : Int)) rfl rfl) (qt rfl (pf (v := .bool (decide (((bs.length : Nat) : Int) < (szA bs)))) rfl rfl) (nl (nN ?_))))))
     refine cdd (p := ((bs.length : Nat) : Int) < (szA bs)) rfl (fun h5 => ?_) (fun h5 => ?_)
     · refine sq (rg (qt rfl (bdv (v := .agg #[I 0, ns, Str [], I 0]) [] rfl (fun _ => by kernel_rfl)) (stg (vs := [I 0, ns, Str [], I 0]) hs3 0 rfl rfl rfl rfl rfl rfl rfl ag43 trivial (fun w6 (hs8 : SH w w6 [] [.blk b1 43 [I 0, ns, Str [], I 0]]) => ?_))))
       refine qt rfl (asg (v := I 0) rfl) (qt rfl (asg (v := .bool false) rfl) (nl (nN (rt (tR ?_)))))
       refine fret (v := .tuple #[.agg #[I 0, ns, Str [], I 0], I 0, .bool false]) (resC hs8 0 rfl rfl ag43 rfl (.tmp (.tmp .nil))) rfl ?_
       have hs9 : SH w w6 [] [.blk b1 43 [I 0, ns, Str [], I 0], .own none (([] : List Int).length) 0 3 1 (([] : List Int).map I)] := SH.nils (by intro i hi; simp at hi; subst hi; exact nilItem) hs8
       have e17 : addrD bs = ((0, ([] : List Int), [], 0), 0, false) := by exact addrD_no (.inr (.inr (by assumption)))
       have e18 : 0 = (addrD bs).1.1 := by rw [e17]
       have e19 : ([] : List Int) = (addrD bs).1.2.1 := by rw [e17]
       have e20 : ([] : List Int).length = ((addrD bs).1.2.1).length := by exact congrArg List.length e19
       have e21 : [] = (addrD bs).1.2.2.1 := by rw [e17]
       have e22 : 0 = (addrD bs).1.2.2.2 := by rw [e17]
       have e23 : 0 = (addrD bs).2.1 := by rw [e17]
       have e24 : false = (addrD bs).2.2 := by rw [e17]
       exact ⟨none, 0, (tup3 (aggv (lc (congrArg (Value.int .i64) e18) (lc (slv rfl e20 rfl) (lc (congrArg (Str) e21) (lc (congrArg (Value.int .i64) e22) rfl))))) (congrArg (Value.int .i64) e23) (congrArg (Value.bool) e24)), ((hs9.pick [1] rfl (by decide)).cast (lc (own_eq (g := I) rfl e20 rfl e19) rfl))⟩
     · refine sk (nN (sq ?_))
       refine raJ (fun w' => ∃ L, SH w w' [] L ∧ (.blk b1 43 [I 0, ns, Str [], I 0]) ∈ L ∧ True) (fun f w' => ∃ (b3' b11' : Nat), Has f [(0, .slice Abs bs.length cbs), (2, pB b1), (5, I (szA bs)), (6, pB b11')] ∧ SH w w' [] [.blk b1 43 [I 0, ns, Str [], I 0], .blk b11' 43 [I (bs.getD 0 0), sb b3' (([] : List Int).length) 0, Str [], I (ofB ((bs.take ((szA bs).toNat)).drop (((szA bs) - 2).toNat)))], oI b3' ([] : List Int) 0 3]) mixed ?_ ?_
       · refine dag (fuel' := 1) (listed' := lbits 13 4095) (fun f w' => ∃ (b3' b11' : Nat), Has f [(0, .slice Abs bs.length cbs), (2, pB b1), (5, I (szA bs)), (6, pB b11'), (33, .agg #[I (bs.getD 0 0), sb b3' (([] : List Int).length) 0, Str [], I (ofB ((bs.take ((szA bs).toNat)).drop (((szA bs) - 2).toNat)))])] ∧ SH w w' [] [.blk b1 43 [I 0, ns, Str [], I 0], .blk b11' 43 [I 0, ns, Str [], I 0], oI b3' ([] : List Int) 0 3]) ?_ (fun D_4_0 => ?_)
         · rintro f w7 ⟨b3', b11', hf, hs10⟩
           obtain ⟨g1, rfl⟩ := has_upd hf
           clear hf
           refine aaL [12] (fa_one ?_)
           refine one_ rfl (stg (vs := [I (bs.getD 0 0), sb b3' (([] : List Int).length) 0, Str [], I (ofB ((bs.take ((szA bs).toNat)).drop (((szA bs) - 2).toNat)))]) hs10 1 rfl rfl rfl rfl rfl rfl rfl ag43 trivial (fun w8 hs11 => ?_))
           refine nl (kq ⟨_, hs11, memi 0 rfl, trivial⟩ ?_)
           refine ad (by kernel_rfl) ?_
           exact ⟨b3', b11', ⟨rfl, rfl, rfl, rfl, trivial⟩, (hs11.pick [0, 2, 1] rfl (by decide))⟩
         refine dag (fuel' := 2) (listed' := lbits 13 2047) (fun f w' => ∃ (b3' : Nat), Has f [(0, .slice Abs bs.length cbs), (2, pB b1), (5, I (szA bs)), (33, .agg #[I (bs.getD 0 0), sb b3' (([] : List Int).length) 0, Str [], I (ofB ((bs.take ((szA bs).toNat)).drop (((szA bs) - 2).toNat)))])] ∧ SH w w' [] [.blk b1 43 [I 0, ns, Str [], I 0], oI b3' ([] : List Int) 0 3]) ?_ (fun D_4_1 => ?_)
         · rintro f w9 ⟨b3', hf, hs12⟩
           obtain ⟨g2, rfl⟩ := has_upd hf
           clear hf
           refine aaL [11] (fa_one ?_)
           refine one_ rfl (al (v := .agg #[I 0, ns, Str [], I 0]) (cs := [I 0, ns, Str [], I 0]) hs12 tz43 rfl trivial rfl (fun b11' w10 hs13 => ?_))
           exact nl (kq ⟨_, hs13, memi 0 rfl, trivial⟩ (alc D_4_0 ⟨b3', b11', ⟨rfl, rfl, rfl, rfl, rfl, trivial⟩, (hs13.pick [0, 2, 1] rfl (by decide))⟩))
         refine dag (fuel' := 3) (listed' := lbits 13 2559) (fun f w' => ∃ (b3' b11' : Nat), Has f [(0, .slice Abs bs.length cbs), (2, pB b1), (5, I (szA bs)), (6, pB b11'), (25, I (bs.getD 0 0)), (26, sb b3' (([] : List Int).length) 0), (31, .slice (if cbs = ((szA bs) - 2).toNat then Abs else Abs.map (·.add ((((szA bs) - 2).toNat) * 1))) (((bs.take ((szA bs).toNat)).drop (((szA bs) - 2).toNat)).length) (cbs - (((szA bs) - 2).toNat)))] ∧ SH w w' [] [.blk b1 43 [I 0, ns, Str [], I 0], .blk b11' 43 [I 0, ns, Str [], I 0], oI b3' ([] : List Int) 0 3]) ?_ (fun D_4_2 => ?_)
         · rintro f w11 ⟨b3', b11', hf, hs14⟩
           obtain ⟨g3, rfl⟩ := has_upd hf
           clear hf
           refine aaL [9] (fa_one ?_)
           refine one_ rfl (cl trivial rfl (sL1Of (Azs := if cbs = ((szA bs) - 2).toNat then Abs else Abs.map (·.add ((((szA bs) - 2).toNat) * 1))) (czs := cbs - (((szA bs) - 2).toNat)) (zs := (bs.take ((szA bs).toNat)).drop (((szA bs) - 2).toNat)) (w := _) (hzs := (Sl.cutm (hbs.up0 hs14) (by (first | omega | (simp; done) | (simp; omega))) (by (first | omega | (simp; done) | (simp; omega))))) (hz := (by intro x hx; exact (isBytes_iff.1 hob).1 x (List.mem_of_mem_take (List.mem_of_mem_drop hx)))) (hzl := (by have hzb := szA_bd hob; have hbl := isBytes_len hob; have hz7 := szA_7 (b := bs); simp only [List.length_drop, List.length_take]; omega))) ?_)
           rintro _ w12 ⟨rfl, hs15'⟩
           have hs15 := hs14.call0 hs15'
           clear hs15'
           refine nl (kq ⟨_, hs15, memi 0 rfl, trivial⟩ ?_)
           refine tk (fuel := 1) (is := [10]) (.cons rfl (.nil)) (by kernel_rfl) (by kernel_rfl) ⟨_, hs15, memi 0 rfl, trivial⟩ (.op trivial rfl rfl (fun wq _ => bdv (v := .agg #[I (bs.getD 0 0), sb b3' (([] : List Int).length) 0, Str [], I (ofB ((bs.take ((szA bs).toNat)).drop (((szA bs) - 2).toNat)))]) [(0, I (bs.getD 0 0)), (1, sb b3' (([] : List Int).length) 0), (3, I (ofB ((bs.take ((szA bs).toNat)).drop (((szA bs) - 2).toNat))))] rfl (fun _ => by kernel_rfl)) (.nil ?_))
           exact alc D_4_0 ⟨b3', b11', ⟨rfl, rfl, rfl, rfl, rfl, trivial⟩, hs15⟩
         refine dag (fuel' := 3) (listed' := lbits 13 3063) (fun f w' => ∃ (b11' : Nat), Has f [(0, .slice Abs bs.length cbs), (2, pB b1), (5, I (szA bs)), (6, pB b11'), (25, I (bs.getD 0 0)), (32, I (ofB ((bs.take ((szA bs).toNat)).drop (((szA bs) - 2).toNat))))] ∧ SH w w' [] [.blk b1 43 [I 0, ns, Str [], I 0], .blk b11' 43 [I 0, ns, Str [], I 0]]) ?_ (fun D_4_3 => ?_)
         · rintro f w13 ⟨b11', hf, hs16⟩
           obtain ⟨g4, rfl⟩ := has_upd hf
           clear hf
           refine aaL [3] (fa_one ?_)
           refine one_ rfl (bsk hs16 sl22 [] [] trivial rfl (fun b3' w14 hs17 => ?_))
           refine nl (kq ⟨_, hs17, memi 0 rfl, trivial⟩ ?_)
           refine tk (fuel := 1) (is := [10]) (.cons rfl (.nil)) (by kernel_rfl) (by kernel_rfl) ⟨_, hs17, memi 0 rfl, trivial⟩ (.op trivial rfl rfl (fun wq _ => bdv (v := .agg #[I (bs.getD 0 0), sb b3' (([] : List Int).length) 0, Str [], I (ofB ((bs.take ((szA bs).toNat)).drop (((szA bs) - 2).toNat)))]) [(0, I (bs.getD 0 0)), (1, sb b3' (([] : List Int).length) 0), (3, I (ofB ((bs.take ((szA bs).toNat)).drop (((szA bs) - 2).toNat))))] rfl (fun _ => by kernel_rfl)) (.nil ?_))
           exact alc D_4_0 ⟨b3', b11', ⟨rfl, rfl, rfl, rfl, rfl, trivial⟩, hs17⟩
         refine dag (fuel' := 4) (listed' := lbits 13 511) (fun f w' => ∃ (b3' : Nat), Has f [(0, .slice Abs bs.length cbs), (2, pB b1), (5, I (szA bs)), (25, I (bs.getD 0 0)), (26, sb b3' (([] : List Int).length) 0), (31, .slice (if cbs = ((szA bs) - 2).toNat then Abs else Abs.map (·.add ((((szA bs) - 2).toNat) * 1))) (((bs.take ((szA bs).toNat)).drop (((szA bs) - 2).toNat)).length) (cbs - (((szA bs) - 2).toNat)))] ∧ SH w w' [] [.blk b1 43 [I 0, ns, Str [], I 0], oI b3' ([] : List Int) 0 3]) ?_ (fun D_4_4 => ?_)
         · rintro f w15 ⟨b3', hf, hs18⟩
           obtain ⟨g5, rfl⟩ := has_upd hf
           clear hf
           refine aaL [9, 11] (fa_cons ?_ (fa_one ?_))
           · refine one_ rfl (cl trivial rfl (sL1Of (Azs := if cbs = ((szA bs) - 2).toNat then Abs else Abs.map (·.add ((((szA bs) - 2).toNat) * 1))) (czs := cbs - (((szA bs) - 2).toNat)) (zs := (bs.take ((szA bs).toNat)).drop (((szA bs) - 2).toNat)) (w := _) (hzs := (Sl.cutm (hbs.up0 hs18) (by (first | omega | (simp; done) | (simp; omega))) (by (first | omega | (simp; done) | (simp; omega))))) (hz := (by intro x hx; exact (isBytes_iff.1 hob).1 x (List.mem_of_mem_take (List.mem_of_mem_drop hx)))) (hzl := (by have hzb := szA_bd hob; have hbl := isBytes_len hob; have hz7 := szA_7 (b := bs); simp only [List.length_drop, List.length_take]; omega))) ?_)
             rintro _ w16 ⟨rfl, hs19'⟩
             have hs19 := hs18.call0 hs19'
             clear hs19'
             refine nl (kq ⟨_, hs19, memi 0 rfl, trivial⟩ ?_)
             refine tk (fuel := 2) (is := [10]) (.cons rfl (.nil)) (by kernel_rfl) (by kernel_rfl) ⟨_, hs19, memi 0 rfl, trivial⟩ (.op trivial rfl rfl (fun wq _ => bdv (v := .agg #[I (bs.getD 0 0), sb b3' (([] : List Int).length) 0, Str [], I (ofB ((bs.take ((szA bs).toNat)).drop (((szA bs) - 2).toNat)))]) [(0, I (bs.getD 0 0)), (1, sb b3' (([] : List Int).length) 0), (3, I (ofB ((bs.take ((szA bs).toNat)).drop (((szA bs) - 2).toNat))))] rfl (fun _ => by kernel_rfl)) (.nil ?_))
             exact alc D_4_1 ⟨b3', ⟨rfl, rfl, rfl, rfl, trivial⟩, hs19⟩
           · refine one_ rfl (al (v := .agg #[I 0, ns, Str [], I 0]) (cs := [I 0, ns, Str [], I 0]) hs18 tz43 rfl trivial rfl (fun b11' w17 hs20 => ?_))
             exact nl (kq ⟨_, hs20, memi 0 rfl, trivial⟩ (alc D_4_2 ⟨b3', b11', ⟨rfl, rfl, rfl, rfl, rfl, rfl, rfl, trivial⟩, (hs20.pick [0, 2, 1] rfl (by decide))⟩))
         refine dag (fuel' := 4) (listed' := lbits 13 1015) (fun f w' => Has f [(0, .slice Abs bs.length cbs), (2, pB b1), (5, I (szA bs)), (25, I (bs.getD 0 0)), (32, I (ofB ((bs.take ((szA bs).toNat)).drop (((szA bs) - 2).toNat))))] ∧ SH w w' [] [.blk b1 43 [I 0, ns, Str [], I 0]]) ?_ (fun D_4_5 => ?_)
         · rintro f w18 ⟨hf, hs21⟩
           obtain ⟨g6, rfl⟩ := has_upd hf
           clear hf
           refine aaL [3, 11] (fa_cons ?_ (fa_one ?_))
           · refine one_ rfl (bsk hs21 sl22 [] [] trivial rfl (fun b3' w19 hs22 => ?_))
             refine nl (kq ⟨_, hs22, memi 0 rfl, trivial⟩ ?_)
             refine tk (fuel := 2) (is := [10]) (.cons rfl (.nil)) (by kernel_rfl) (by kernel_rfl) ⟨_, hs22, memi 0 rfl, trivial⟩ (.op trivial rfl rfl (fun wq _ => bdv (v := .agg #[I (bs.getD 0 0), sb b3' (([] : List Int).length) 0, Str [], I (ofB ((bs.take ((szA bs).toNat)).drop (((szA bs) - 2).toNat)))]) [(0, I (bs.getD 0 0)), (1, sb b3' (([] : List Int).length) 0), (3, I (ofB ((bs.take ((szA bs).toNat)).drop (((szA bs) - 2).toNat))))] rfl (fun _ => by kernel_rfl)) (.nil ?_))
             exact alc D_4_1 ⟨b3', ⟨rfl, rfl, rfl, rfl, trivial⟩, hs22⟩
           · refine one_ rfl (al (v := .agg #[I 0, ns, Str [], I 0]) (cs := [I 0, ns, Str [], I 0]) hs21 tz43 rfl trivial rfl (fun b11' w20 hs23 => ?_))
             exact nl (kq ⟨_, hs23, memi 0 rfl, trivial⟩ (alc D_4_3 ⟨b11', ⟨rfl, rfl, rfl, rfl, rfl, rfl, trivial⟩, hs23⟩))
         refine dag (fuel' := 4) (listed' := lbits 13 2551) (fun f w' => ∃ (b11' : Nat), Has f [(0, .slice Abs bs.length cbs), (2, pB b1), (5, I (szA bs)), (6, pB b11'), (25, I (bs.getD 0 0)), (31, .slice (if cbs = ((szA bs) - 2).toNat then Abs else Abs.map (·.add ((((szA bs) - 2).toNat) * 1))) (((bs.take ((szA bs).toNat)).drop (((szA bs) - 2).toNat)).length) (cbs - (((szA bs) - 2).toNat)))] ∧ SH w w' [] [.blk b1 43 [I 0, ns, Str [], I 0], .blk b11' 43 [I 0, ns, Str [], I 0]]) ?_ (fun D_4_6 => ?_)
         · rintro f w21 ⟨b11', hf, hs24⟩
           obtain ⟨g7, rfl⟩ := has_upd hf
           clear hf
           refine aaL [3, 9] (fa_cons ?_ (fa_one ?_))
           · refine one_ rfl (bsk hs24 sl22 [] [] trivial rfl (fun b3' w22 hs25 => ?_))
             exact nl (kq ⟨_, hs25, memi 0 rfl, trivial⟩ (alc D_4_2 ⟨b3', b11', ⟨rfl, rfl, rfl, rfl, rfl, rfl, rfl, trivial⟩, hs25⟩))
           · refine one_ rfl (cl trivial rfl (sL1Of (Azs := if cbs = ((szA bs) - 2).toNat then Abs else Abs.map (·.add ((((szA bs) - 2).toNat) * 1))) (czs := cbs - (((szA bs) - 2).toNat)) (zs := (bs.take ((szA bs).toNat)).drop (((szA bs) - 2).toNat)) (w := _) (hzs := (Sl.cutm (hbs.up0 hs24) (by (first | omega | (simp; done) | (simp; omega))) (by (first | omega | (simp; done) | (simp; omega))))) (hz := (by intro x hx; exact (isBytes_iff.1 hob).1 x (List.mem_of_mem_take (List.mem_of_mem_drop hx)))) (hzl := (by have hzb := szA_bd hob; have hbl := isBytes_len hob; have hz7 := szA_7 (b := bs); simp only [List.length_drop, List.length_take]; omega))) ?_)
             rintro _ w23 ⟨rfl, hs26'⟩
             have hs26 := hs24.call0 hs26'
             clear hs26'
             exact nl (kq ⟨_, hs26, memi 0 rfl, trivial⟩ (alc D_4_3 ⟨b11', ⟨rfl, rfl, rfl, rfl, rfl, rfl, trivial⟩, hs26⟩))
         refine dag (fuel' := 5) (listed' := lbits 13 503) (fun f w' => Has f [(0, .slice Abs bs.length cbs), (2, pB b1), (5, I (szA bs)), (25, I (bs.getD 0 0)), (31, .slice (if cbs = ((szA bs) - 2).toNat then Abs else Abs.map (·.add ((((szA bs) - 2).toNat) * 1))) (((bs.take ((szA bs).toNat)).drop (((szA bs) - 2).toNat)).length) (cbs - (((szA bs) - 2).toNat)))] ∧ SH w w' [] [.blk b1 43 [I 0, ns, Str [], I 0]]) ?_ (fun D_4_7 => ?_)
         · rintro f w24 ⟨hf, hs27⟩
           obtain ⟨g8, rfl⟩ := has_upd hf
           clear hf
           refine aaL [3, 9, 11] (fa_cons ?_ (fa_cons ?_ (fa_one ?_)))
           · refine one_ rfl (bsk hs27 sl22 [] [] trivial rfl (fun b3' w25 hs28 => ?_))
             exact nl (kq ⟨_, hs28, memi 0 rfl, trivial⟩ (alc D_4_4 ⟨b3', ⟨rfl, rfl, rfl, rfl, rfl, rfl, trivial⟩, hs28⟩))
           · refine one_ rfl (cl trivial rfl (sL1Of (Azs := if cbs = ((szA bs) - 2).toNat then Abs else Abs.map (·.add ((((szA bs) - 2).toNat) * 1))) (czs := cbs - (((szA bs) - 2).toNat)) (zs := (bs.take ((szA bs).toNat)).drop (((szA bs) - 2).toNat)) (w := _) (hzs := (Sl.cutm (hbs.up0 hs27) (by (first | omega | (simp; done) | (simp; omega))) (by (first | omega | (simp; done) | (simp; omega))))) (hz := (by intro x hx; exact (isBytes_iff.1 hob).1 x (List.mem_of_mem_take (List.mem_of_mem_drop hx)))) (hzl := (by have hzb := szA_bd hob; have hbl := isBytes_len hob; have hz7 := szA_7 (b := bs); simp only [List.length_drop, List.length_take]; omega))) ?_)
             rintro _ w26 ⟨rfl, hs29'⟩
             have hs29 := hs27.call0 hs29'
             clear hs29'
             exact nl (kq ⟨_, hs29, memi 0 rfl, trivial⟩ (alc D_4_5 ⟨⟨rfl, rfl, rfl, rfl, rfl, trivial⟩, hs29⟩))
           · refine one_ rfl (al (v := .agg #[I 0, ns, Str [], I 0]) (cs := [I 0, ns, Str [], I 0]) hs27 tz43 rfl trivial rfl (fun b11' w27 hs30 => ?_))
             exact nl (kq ⟨_, hs30, memi 0 rfl, trivial⟩ (alc D_4_6 ⟨b11', ⟨rfl, rfl, rfl, rfl, rfl, rfl, trivial⟩, hs30⟩))
         have hs31 := hs3.drew
         refine tk (fuel := 5) (is := [0, 1, 2, 4, 5, 6, 7, 8]) (.cons rfl (.cons rfl (.cons rfl (.cons rfl (.cons rfl (.cons rfl (.cons rfl (.cons rfl (.nil))))))))) (by kernel_rfl) (by kernel_rfl) ⟨_, hs31, memi 0 rfl, trivial⟩ (.op trivial rfl rfl (fun wq _ => mv (v := .slice Abs bs.length cbs) rfl) (ixy1 0 sl22 rfl rfl hbs (by (have hzb := szA_bd hob; have hbl := isBytes_len hob; have hz7 := szA_7 (b := bs); first | omega | (simp; done) | (simp; omega))) (getm I 0 (by (have hzb := szA_bd hob; have hbl := isBytes_len hob; have hz7 := szA_7 (b := bs); first | omega | (simp; done) | (simp; omega)))) trivial rfl (fun a1 ha1 => ?_)))
         refine .op trivial rfl rfl (fun wq ⟨Lq, hsq, mh0, _⟩ => lda (v := I (bs.getD 0 0)) hsq ha1 (fun _ h => h) rfl rfl one3) (.op trivial rfl rfl (fun wq _ => mv (v := .slice Abs bs.length cbs) rfl) (.op trivial rfl rfl (fun wq _ => mv (v := I (szA bs)) rfl) (.op trivial rfl rfl (fun wq _ => sub (a := szA bs) (b := 2) rfl rfl (by (exact ⟨by omega, by omega⟩))) (.op trivial rfl rfl (fun wq _ => mv (v := I (szA bs)) rfl) (.op trivial rfl rfl (fun wq _ => cum (zs := bs) (((szA bs) - 2).toNat) ((szA bs).toNat) sl22 rfl (ieq (x := (szA bs) - 2) (by (have hzb := szA_bd hob; have hbl := isBytes_len hob; have hz7 := szA_7 (b := bs); omega))) (ieq (x := szA bs) (by (omega))) (by (first | omega | (simp; done) | (simp; omega))) (by (first | omega | (simp; done) | (simp; omega))) hbs.cap) (.nil ?_))))))
         exact alc D_4_7 ⟨⟨rfl, rfl, rfl, rfl, rfl, trivial⟩, hs31⟩
       rintro f w28 ⟨b3', b11', hf, hs32⟩
       obtain ⟨g9, rfl⟩ := has_upd hf
       clear hf
       refine nN (sq (sq (rg (qt rfl (mv (v := .slice Abs bs.length cbs) rfl) (ixw1 0 sl22 rfl rfl hbs (by (have hzb := szA_bd hob; have hbl := isBytes_len hob; have hz7 := szA_7 (b := bs); first | omega | (simp; done) | (simp; omega))) (getm I 0 (by (have hzb := szA_bd hob; have hbl := isBytes_len hob; have hz7 := szA_7 (b := bs); first | omega | (simp; done) | (simp; omega)))) trivial rfl (fun a2 ha2 => ?_))))))
       refine qt rfl (lda (v := I (bs.getD 0 0)) hs32 ha2 (fun _ h => h) rfl rfl one3) (qt rfl (eqi (k := .i64) (a := bs.getD 0 0) (b := 1) rfl rfl) (nl (nN ?_)))
       refine cdd (p := (bs.getD 0 0) = 1) rfl (fun h6 => ?_) (fun h6 => ?_)
       · refine raJ (fun w' => ∃ L, SH w w' [] L ∧ (.blk b1 43 [I 0, ns, Str [], I 0]) ∈ L ∧ True) (fun f w' => ∃ (A4'' : Option Addr) (c4'' : Nat), Has f [(2, pB b1), (5, I (szA bs)), (6, pB b11')] ∧ SH w w' [] [.blk b1 43 [I 0, ns, Str [], I 0], .blk b11' 43 [I (bs.getD 0 0), .slice A4'' (((bs.take 5).drop 1).length) c4'', Str [], I (ofB ((bs.take ((szA bs).toNat)).drop (((szA bs) - 2).toNat)))], .own A4'' (((bs.take 5).drop 1).length) c4'' 3 1 (((bs.take 5).drop 1).map I)]) mixed ?_ ?_
         · refine dag (fuel' := 1) (listed' := lbits 7 63) (fun f w' => ∃ (A4'' : Option Addr) (c4'' : Nat), Has f [(2, pB b1), (5, I (szA bs)), (6, pB b11'), (42, .slice A4'' (((bs.take 5).drop 1).length) c4''), (43, .pointer (some ⟨b11', 1, none⟩))] ∧ SH w w' [] [.blk b1 43 [I 0, ns, Str [], I 0], .blk b11' 43 [I (bs.getD 0 0), sb b3' (([] : List Int).length) 0, Str [], I (ofB ((bs.take ((szA bs).toNat)).drop (((szA bs) - 2).toNat)))], .own A4'' (((bs.take 5).drop 1).length) c4'' 3 1 (((bs.take 5).drop 1).map I)]) ?_ (fun D_6_0 => ?_)
           · rintro f w29 ⟨A4'', c4'', hf, hs33⟩
             obtain ⟨g10, rfl⟩ := has_upd hf
             clear hf
             refine aaL [6] (fa_one ?_)
             refine one_ rfl (st (v := .slice A4'' (((bs.take 5).drop 1).length) c4'') hs33 1 rfl rfl rfl rfl rfl one22 trivial (fun w30 hs34 => ?_))
             refine nl (kq ⟨_, hs34, memi 0 rfl, trivial⟩ ?_)
             refine ad (by kernel_rfl) ?_
             exact ⟨A4'', c4'', ⟨rfl, rfl, rfl, trivial⟩, (hs34.pick [0, 2, 1] rfl (by decide))⟩
           refine dag (fuel' := 3) (listed' := lbits 7 15) (fun f w' => Has f [(2, pB b1), (5, I (szA bs)), (6, pB b11'), (39, sb b3' (([] : List Int).length) 0), (41, .slice (if cbs = 1 then Abs else Abs.map (·.add (1 * 1))) (((bs.take 5).drop 1).length) (cbs - 1))] ∧ SH w w' [] [.blk b1 43 [I 0, ns, Str [], I 0], .blk b11' 43 [I (bs.getD 0 0), sb b3' (([] : List Int).length) 0, Str [], I (ofB ((bs.take ((szA bs).toNat)).drop (((szA bs) - 2).toNat)))], oI b3' ([] : List Int) 0 3]) ?_ (fun D_6_1 => ?_)
           · rintro f w31 ⟨hf, hs35⟩
             obtain ⟨g11, rfl⟩ := has_upd hf
             clear hf
             refine aaL [4] (fa_one ?_)
             refine one_ rfl (apm (g := I) (ys := ([] : List Int)) (zs := (bs.take 5).drop 1) hs35 2 rfl sl22 rfl rfl rfl (Sl.cutm (hbs.up0 hs35) (by (first | omega | (simp; done) | (simp; omega))) (by (have hzb := szA_bd hob; have hbl := isBytes_len hob; have hz7 := szA_7 (b := bs); first | omega | (simp; done) | (simp; omega)))) (fun _ => rfl) (by unfold maxLen; have hzb := szA_bd hob; have hbl := isBytes_len hob; have hz7 := szA_7 (b := bs); simp only [List.length_nil, List.length_drop, List.length_take]; omega) (by have hzb := szA_bd hob; have hbl := isBytes_len hob; have hz7 := szA_7 (b := bs); simp only [List.length_nil, List.length_drop, List.length_take]; omega) trivial rfl (fun A4'' c4'' w32 hs36 => ?_))
             refine nl (kq ⟨_, hs36, memi 0 rfl, trivial⟩ ?_)
             refine tk (fuel := 1) (is := [5]) (.cons rfl (.nil)) (by kernel_rfl) (by kernel_rfl) ⟨_, hs36, memi 0 rfl, trivial⟩ (.op trivial rfl rfl (fun wq _ => fa 1 fo43_1 rfl) (.nil ?_))
             exact alc D_6_0 ⟨A4'', c4'', ⟨rfl, rfl, rfl, rfl, rfl, trivial⟩, hs36⟩
           refine dag (fuel' := 4) (listed' := lbits 7 13) (fun f w' => Has f [(2, pB b1), (5, I (szA bs)), (6, pB b11'), (38, .pointer (some ⟨b11', 1, none⟩)), (41, .slice (if cbs = 1 then Abs else Abs.map (·.add (1 * 1))) (((bs.take 5).drop 1).length) (cbs - 1))] ∧ SH w w' [] [.blk b1 43 [I 0, ns, Str [], I 0], .blk b11' 43 [I (bs.getD 0 0), sb b3' (([] : List Int).length) 0, Str [], I (ofB ((bs.take ((szA bs).toNat)).drop (((szA bs) - 2).toNat)))], oI b3' ([] : List Int) 0 3]) ?_ (fun D_6_2 => ?_)
           · rintro f w33 ⟨hf, hs37⟩
             obtain ⟨g12, rfl⟩ := has_upd hf
             clear hf
             refine aaL [1] (fa_one ?_)
             refine one_ rfl (qt rfl (ld (v := sb b3' (([] : List Int).length) 0) hs37 1 rfl rfl rfl one22) ?_)
             exact nl (kq ⟨_, hs37, memi 0 rfl, trivial⟩ (alc D_6_1 ⟨⟨rfl, rfl, rfl, rfl, rfl, trivial⟩, hs37⟩))
           have hs38 := hs32.drew
           refine tk (fuel := 4) (is := [0, 2, 3]) (.cons rfl (.cons rfl (.cons rfl (.nil)))) (by kernel_rfl) (by kernel_rfl) ⟨_, hs38, memi 0 rfl, trivial⟩ (.op trivial rfl rfl (fun wq _ => fa 1 fo43_1 rfl) (.op trivial rfl rfl (fun wq _ => mv (v := .slice Abs bs.length cbs) rfl) (.op trivial rfl rfl (fun wq _ => cum (zs := bs) 1 5 sl22 rfl rfl rfl (by (first | omega | (simp; done) | (simp; omega))) (by (have hzb := szA_bd hob; have hbl := isBytes_len hob; have hz7 := szA_7 (b := bs); first | omega | (simp; done) | (simp; omega))) hbs.cap) (.nil ?_))))
           exact alc D_6_2 ⟨⟨rfl, rfl, rfl, rfl, rfl, trivial⟩, hs38⟩
         rintro f w34 ⟨A4'', c4'', hf, hs39⟩
         obtain ⟨g13, rfl⟩ := has_upd hf
         clear hf
         refine nN (sq (sq (rg (qt rfl (ldg (vs := [I (bs.getD 0 0), .slice A4'' (((bs.take 5).drop 1).length) c4'', Str [], I (ofB ((bs.take ((szA bs).toNat)).drop (((szA bs) - 2).toNat)))]) hs39 1 rfl rfl rfl rfl ag43) (cl trivial rfl (sAddressValid (ak := bs.getD 0 0) (Aaq := A4'') (caq := c4'') (aq := (bs.take 5).drop 1) (an := []) (apt := ofB ((bs.take ((szA bs).toNat)).drop (((szA bs) - 2).toNat))) (w := _) (haq := (hs39.sl0 2 rfl)) (han_n := (by (simp; done)))) ?_)))))
         rintro _ w35 ⟨rfl, hs40'⟩
         have hs40 := hs39.call0 hs40'
         clear hs40'
         refine qt rfl (nt (b := addrOk (bs.getD 0 0) ((bs.take 5).drop 1) [] (ofB ((bs.take ((szA bs).toNat)).drop (((szA bs) - 2).toNat)))) rfl) (nl (nN ?_))
         refine cd (b := !(addrOk (bs.getD 0 0) ((bs.take 5).drop 1) [] (ofB ((bs.take ((szA bs).toNat)).drop (((szA bs) - 2).toNat))))) rfl (fun h7 => ?_) (fun h7 => ?_)
         · have h8 : (addrOk (bs.getD 0 0) ((bs.take 5).drop 1) [] (ofB ((bs.take ((szA bs).toNat)).drop (((szA bs) - 2).toNat)))) = false := by simpa using h7
           refine sq (rg (qt rfl (bdv (v := .agg #[I 0, ns, Str [], I 0]) [] rfl (fun _ => by kernel_rfl)) (stg (vs := [I 0, ns, Str [], I 0]) hs40 0 rfl rfl rfl rfl rfl rfl rfl ag43 trivial (fun w36 (hs41 : SH w w36 [] [.blk b11' 43 [I (bs.getD 0 0), .slice A4'' (((bs.take 5).drop 1).length) c4'', Str [], I (ofB ((bs.take ((szA bs).toNat)).drop (((szA bs) - 2).toNat)))], .own A4'' (((bs.take 5).drop 1).length) c4'' 3 1 (((bs.take 5).drop 1).map I), .blk b1 43 [I 0, ns, Str [], I 0]]) => ?_))))
           refine qt rfl (asg (v := I 0) rfl) (qt rfl (asg (v := .bool false) rfl) (nl (nN (rt (tR ?_)))))
           refine fret (v := .tuple #[.agg #[I 0, ns, Str [], I 0], I 0, .bool false]) (resC hs41 2 rfl rfl ag43 rfl (.tmp (.tmp .nil))) rfl ?_
           have hs42 : SH w w36 [] [.blk b11' 43 [I (bs.getD 0 0), .slice A4'' (((bs.take 5).drop 1).length) c4'', Str [], I (ofB ((bs.take ((szA bs).toNat)).drop (((szA bs) - 2).toNat)))], .own A4'' (((bs.take 5).drop 1).length) c4'' 3 1 (((bs.take 5).drop 1).map I), .blk b1 43 [I 0, ns, Str [], I 0], .own none (([] : List Int).length) 0 3 1 (([] : List Int).map I)] := SH.nils (by intro i hi; simp at hi; subst hi; exact nilItem) hs41
           have e25 : addrD bs = ((0, ([] : List Int), [], 0), 0, false) := by exact addrD_qn hob (by omega) (by omega) (by assumption) (by assumption)
           have e26 : 0 = (addrD bs).1.1 := by rw [e25]
           have e27 : ([] : List Int) = (addrD bs).1.2.1 := by rw [e25]
           have e28 : ([] : List Int).length = ((addrD bs).1.2.1).length := by exact congrArg List.length e27
           have e29 : [] = (addrD bs).1.2.2.1 := by rw [e25]
           have e30 : 0 = (addrD bs).1.2.2.2 := by rw [e25]
           have e31 : 0 = (addrD bs).2.1 := by rw [e25]
           have e32 : false = (addrD bs).2.2 := by rw [e25]
           exact ⟨none, 0, (tup3 (aggv (lc (congrArg (Value.int .i64) e26) (lc (slv rfl e28 rfl) (lc (congrArg (Str) e29) (lc (congrArg (Value.int .i64) e30) rfl))))) (congrArg (Value.int .i64) e31) (congrArg (Value.bool) e32)), ((hs42.pick [3] rfl (by decide)).cast (lc (own_eq (g := I) rfl e28 rfl e27) rfl))⟩
         · have h9 : (addrOk (bs.getD 0 0) ((bs.take 5).drop 1) [] (ofB ((bs.take ((szA bs).toNat)).drop (((szA bs) - 2).toNat)))) = true := by simpa using h7
           refine sk (nN (sq (rg (qt rfl (ldg (vs := [I (bs.getD 0 0), .slice A4'' (((bs.take 5).drop 1).length) c4'', Str [], I (ofB ((bs.take ((szA bs).toNat)).drop (((szA bs) - 2).toNat)))]) hs40 1 rfl rfl rfl rfl ag43) (qt rfl (mv (v := I (szA bs)) rfl) (stg (vs := [I (bs.getD 0 0), .slice A4'' (((bs.take 5).drop 1).length) c4'', Str [], I (ofB ((bs.take ((szA bs).toNat)).drop (((szA bs) - 2).toNat)))]) hs40 0 rfl rfl rfl rfl rfl rfl rfl ag43 trivial (fun w37 (hs43 : SH w w37 [] [.blk b11' 43 [I (bs.getD 0 0), .slice A4'' (((bs.take 5).drop 1).length) c4'', Str [], I (ofB ((bs.take ((szA bs).toNat)).drop (((szA bs) - 2).toNat)))], .own A4'' (((bs.take 5).drop 1).length) c4'' 3 1 (((bs.take 5).drop 1).map I), .blk b1 43 [I (bs.getD 0 0), .slice A4'' (((bs.take 5).drop 1).length) c4'', Str [], I (ofB ((bs.take ((szA bs).toNat)).drop (((szA bs) - 2).toNat)))]]) => ?_)))))))
           refine qt rfl (asg (v := I (szA bs)) rfl) (qt rfl (asg (v := .bool true) rfl) (nl (nN (rt (fret (v := .tuple #[.agg #[I (bs.getD 0 0), .slice A4'' (((bs.take 5).drop 1).length) c4'', Str [], I (ofB ((bs.take ((szA bs).toNat)).drop (((szA bs) - 2).toNat)))], I (szA bs), .bool true]) (resC hs43 2 rfl rfl ag43 rfl (.tmp (.tmp .nil))) rfl ?_)))))
           have e33 : addrD bs = ((bs.getD 0 0, (bs.take 5).drop 1, [], ofB ((bs.take ((szA bs).toNat)).drop (((szA bs) - 2).toNat))), szA bs, true) := by exact addrD_q hob (by omega) (by omega) (by assumption) (by assumption)
           have e34 : bs.getD 0 0 = (addrD bs).1.1 := by rw [e33]
           have e35 : (bs.take 5).drop 1 = (addrD bs).1.2.1 := by rw [e33]
           have e36 : ((bs.take 5).drop 1).length = ((addrD bs).1.2.1).length := by exact congrArg List.length e35
           have e37 : [] = (addrD bs).1.2.2.1 := by rw [e33]
           have e38 : ofB ((bs.take ((szA bs).toNat)).drop (((szA bs) - 2).toNat)) = (addrD bs).1.2.2.2 := by rw [e33]
           have e39 : szA bs = (addrD bs).2.1 := by rw [e33]
           have e40 : true = (addrD bs).2.2 := by rw [e33]
           exact ⟨A4'', c4'', (tup3 (aggv (lc (congrArg (Value.int .i64) e34) (lc (slv rfl e36 rfl) (lc (congrArg (Str) e37) (lc (congrArg (Value.int .i64) e38) rfl))))) (congrArg (Value.int .i64) e39) (congrArg (Value.bool) e40)), ((hs43.pick [1] rfl (by decide)).cast (lc (own_eq (g := I) rfl e36 rfl e35) rfl))⟩
       · refine rg (qt rfl (mv (v := .slice Abs bs.length cbs) rfl) (qt rfl (mv (v := I (szA bs)) rfl) (qt rfl (sub (a := szA bs) (b := 2) rfl rfl (by (exact ⟨by omega, by omega⟩))) (qt rfl (cum (zs := bs) 2 (((szA bs) - 2).toNat) sl22 rfl rfl (ieq (x := (szA bs) - 2) (by (have hzb := szA_bd hob; have hbl := isBytes_len hob; have hz7 := szA_7 (b := bs); omega))) (by (have hzb := szA_bd hob; have hbl := isBytes_len hob; have hz7 := szA_7 (b := bs); first | omega | (simp; done) | (simp; omega))) (by (first | omega | (simp; done) | (simp; omega))) hbs.cap) (cl trivial rfl (sL1Bytes (Azs := if cbs = 2 then Abs else Abs.map (·.add (2 * 1))) (czs := cbs - 2) (zs := (bs.take (((szA bs) - 2).toNat)).drop 2) (w := _) (hzs := (Sl.cutm (hbs.up0 hs32) (by (have hzb := szA_bd hob; have hbl := isBytes_len hob; have hz7 := szA_7 (b := bs); first | omega | (simp; done) | (simp; omega))) (by (first | omega | (simp; done) | (simp; omega))))) (hz := (by intro x hx; exact (isBytes_iff.1 hob).1 x (List.mem_of_mem_take (List.mem_of_mem_drop hx)))) (hzl := (by have hzb := szA_bd hob; have hbl := isBytes_len hob; have hz7 := szA_7 (b := bs); simp only [List.length_drop, List.length_take]; omega))) ?_)))))
         rintro _ w38 ⟨rfl, hs44'⟩
         have hs44 := hs32.call0 hs44'
         clear hs44'
         refine qt rfl (fa 2 fo43_2 rfl) (st (v := Str (bT ((bs.take (((szA bs) - 2).toNat)).drop 2))) hs44 1 rfl rfl rfl rfl rfl one9 trivial (fun w39 (hs45 : SH w w39 [] [.blk b1 43 [I 0, ns, Str [], I 0], oI b3' ([] : List Int) 0 3, .blk b11' 43 [I (bs.getD 0 0), sb b3' (([] : List Int).length) 0, Str (bT ((bs.take (((szA bs) - 2).toNat)).drop 2)), I (ofB ((bs.take ((szA bs).toNat)).drop (((szA bs) - 2).toNat)))]]) => ?_))
         refine nl (nN (sq (sq (rg (qt rfl (ldg (vs := [I (bs.getD 0 0), sb b3' (([] : List Int).length) 0, Str (bT ((bs.take (((szA bs) - 2).toNat)).drop 2)), I (ofB ((bs.take ((szA bs).toNat)).drop (((szA bs) - 2).toNat)))]) hs45 2 rfl rfl rfl rfl ag43) (cl trivial rfl (sAddressValid (ak := bs.getD 0 0) (Aaq := (some ⟨b3', 0, none⟩)) (caq := 0) (aq := ([] : List Int)) (an := bT ((bs.take (((szA bs) - 2).toNat)).drop 2)) (apt := ofB ((bs.take ((szA bs).toNat)).drop (((szA bs) - 2).toNat))) (w := _) (haq := (hs45.sl0 1 rfl)) (han_n := (by (have hzb := szA_bd hob; have hbl := isBytes_len hob; have hz7 := szA_7 (b := bs); simp only [bT_len, List.length_drop, List.length_take]; omega)))) ?_))))))
         rintro _ w40 ⟨rfl, hs46'⟩
         have hs46 := hs45.call0 hs46'
         clear hs46'
         refine qt rfl (nt (b := addrOk (bs.getD 0 0) ([] : List Int) (bT ((bs.take (((szA bs) - 2).toNat)).drop 2)) (ofB ((bs.take ((szA bs).toNat)).drop (((szA bs) - 2).toNat)))) rfl) (nl (nN ?_))
         refine cd (b := !(addrOk (bs.getD 0 0) ([] : List Int) (bT ((bs.take (((szA bs) - 2).toNat)).drop 2)) (ofB ((bs.take ((szA bs).toNat)).drop (((szA bs) - 2).toNat))))) rfl (fun h10 => ?_) (fun h10 => ?_)
         · have h11 : (addrOk (bs.getD 0 0) ([] : List Int) (bT ((bs.take (((szA bs) - 2).toNat)).drop 2)) (ofB ((bs.take ((szA bs).toNat)).drop (((szA bs) - 2).toNat)))) = false := by simpa using h10
           refine sq (rg (qt rfl (bdv (v := .agg #[I 0, ns, Str [], I 0]) [] rfl (fun _ => by kernel_rfl)) (stg (vs := [I 0, ns, Str [], I 0]) hs46 0 rfl rfl rfl rfl rfl rfl rfl ag43 trivial (fun w41 (hs47 : SH w w41 [] [oI b3' ([] : List Int) 0 3, .blk b11' 43 [I (bs.getD 0 0), sb b3' (([] : List Int).length) 0, Str (bT ((bs.take (((szA bs) - 2).toNat)).drop 2)), I (ofB ((bs.take ((szA bs).toNat)).drop (((szA bs) - 2).toNat)))], .blk b1 43 [I 0, ns, Str [], I 0]]) => ?_))))
           refine qt rfl (asg (v := I 0) rfl) (qt rfl (asg (v := .bool false) rfl) (nl (nN (rt (tR ?_)))))
           refine fret (v := .tuple #[.agg #[I 0, ns, Str [], I 0], I 0, .bool false]) (resC hs47 2 rfl rfl ag43 rfl (.tmp (.tmp .nil))) rfl ?_
           have hs48 : SH w w41 [] [oI b3' ([] : List Int) 0 3, .blk b11' 43 [I (bs.getD 0 0), sb b3' (([] : List Int).length) 0, Str (bT ((bs.take (((szA bs) - 2).toNat)).drop 2)), I (ofB ((bs.take ((szA bs).toNat)).drop (((szA bs) - 2).toNat)))], .blk b1 43 [I 0, ns, Str [], I 0], .own none (([] : List Int).length) 0 3 1 (([] : List Int).map I)] := SH.nils (by intro i hi; simp at hi; subst hi; exact nilItem) hs47
           have e41 : addrD bs = ((0, ([] : List Int), [], 0), 0, false) := by exact addrD_nn hob (by omega) (by omega) (by assumption) (by assumption)
           have e42 : 0 = (addrD bs).1.1 := by rw [e41]
           have e43 : ([] : List Int) = (addrD bs).1.2.1 := by rw [e41]
           have e44 : ([] : List Int).length = ((addrD bs).1.2.1).length := by exact congrArg List.length e43
           have e45 : [] = (addrD bs).1.2.2.1 := by rw [e41]
           have e46 : 0 = (addrD bs).1.2.2.2 := by rw [e41]
           have e47 : 0 = (addrD bs).2.1 := by rw [e41]
           have e48 : false = (addrD bs).2.2 := by rw [e41]
           exact ⟨none, 0, (tup3 (aggv (lc (congrArg (Value.int .i64) e42) (lc (slv rfl e44 rfl) (lc (congrArg (Str) e45) (lc (congrArg (Value.int .i64) e46) rfl))))) (congrArg (Value.int .i64) e47) (congrArg (Value.bool) e48)), ((hs48.pick [3] rfl (by decide)).cast (lc (own_eq (g := I) rfl e44 rfl e43) rfl))⟩
         · have h12 : (addrOk (bs.getD 0 0) ([] : List Int) (bT ((bs.take (((szA bs) - 2).toNat)).drop 2)) (ofB ((bs.take ((szA bs).toNat)).drop (((szA bs) - 2).toNat)))) = true := by simpa using h10
           refine sk (nN (sq (rg (qt rfl (ldg (vs := [I (bs.getD 0 0), sb b3' (([] : List Int).length) 0, Str (bT ((bs.take (((szA bs) - 2).toNat)).drop 2)), I (ofB ((bs.take ((szA bs).toNat)).drop (((szA bs) - 2).toNat)))]) hs46 2 rfl rfl rfl rfl ag43) (qt rfl (mv (v := I (szA bs)) rfl) (stg (vs := [I (bs.getD 0 0), sb b3' (([] : List Int).length) 0, Str (bT ((bs.take (((szA bs) - 2).toNat)).drop 2)), I (ofB ((bs.take ((szA bs).toNat)).drop (((szA bs) - 2).toNat)))]) hs46 0 rfl rfl rfl rfl rfl rfl rfl ag43 trivial (fun w42 (hs49 : SH w w42 [] [oI b3' ([] : List Int) 0 3, .blk b11' 43 [I (bs.getD 0 0), sb b3' (([] : List Int).length) 0, Str (bT ((bs.take (((szA bs) - 2).toNat)).drop 2)), I (ofB ((bs.take ((szA bs).toNat)).drop (((szA bs) - 2).toNat)))], .blk b1 43 [I (bs.getD 0 0), sb b3' (([] : List Int).length) 0, Str (bT ((bs.take (((szA bs) - 2).toNat)).drop 2)), I (ofB ((bs.take ((szA bs).toNat)).drop (((szA bs) - 2).toNat)))]]) => ?_)))))))
           refine qt rfl (asg (v := I (szA bs)) rfl) (qt rfl (asg (v := .bool true) rfl) (nl (nN (rt (fret (v := .tuple #[.agg #[I (bs.getD 0 0), sb b3' (([] : List Int).length) 0, Str (bT ((bs.take (((szA bs) - 2).toNat)).drop 2)), I (ofB ((bs.take ((szA bs).toNat)).drop (((szA bs) - 2).toNat)))], I (szA bs), .bool true]) (resC hs49 2 rfl rfl ag43 rfl (.tmp (.tmp .nil))) rfl ?_)))))
           have e49 : addrD bs = ((bs.getD 0 0, ([] : List Int), bT ((bs.take (((szA bs) - 2).toNat)).drop 2), ofB ((bs.take ((szA bs).toNat)).drop (((szA bs) - 2).toNat))), szA bs, true) := by exact addrD_n hob (by omega) (by omega) (by assumption) (by assumption)
           have e50 : bs.getD 0 0 = (addrD bs).1.1 := by rw [e49]
           have e51 : ([] : List Int) = (addrD bs).1.2.1 := by rw [e49]
           have e52 : ([] : List Int).length = ((addrD bs).1.2.1).length := by exact congrArg List.length e51
           have e53 : bT ((bs.take (((szA bs) - 2).toNat)).drop 2) = (addrD bs).1.2.2.1 := by rw [e49]
           have e54 : ofB ((bs.take ((szA bs).toNat)).drop (((szA bs) - 2).toNat)) = (addrD bs).1.2.2.2 := by rw [e49]
           have e55 : szA bs = (addrD bs).2.1 := by rw [e49]
           have e56 : true = (addrD bs).2.2 := by rw [e49]
           exact ⟨(some ⟨b3', 0, none⟩), 0, (tup3 (aggv (lc (congrArg (Value.int .i64) e50) (lc (slv rfl e52 rfl) (lc (congrArg (Str) e53) (lc (congrArg (Value.int .i64) e54) rfl))))) (congrArg (Value.int .i64) e55) (congrArg (Value.bool) e56)), ((hs49.pick [0] rfl (by decide)).cast (lc (own_eq (g := I) rfl e52 rfl e51) rfl))⟩
set_option maxHeartbeats 8000000 in
theorem sL12From {Abs : Option Addr} {cbs : Nat} (bs : List Int) (w : World) (hbs : Sl w [] 1 Abs bs.length cbs (bs.map I)) : Does Tryz.prog 145 [.slice Abs bs.length cbs] w (fun v w' => ∃ Aqr : Option Addr, ∃ cqr : Nat, v = .tuple #[.int .i64 ((codeFrom bs).1), .agg #[.int .i64 ((codeFrom bs).2.1.1), .slice Aqr ((codeFrom bs).2.1.2.1).length cqr, Str ((codeFrom bs).2.1.2.2.1), .int .i64 ((codeFrom bs).2.1.2.2.2)], .int .i64 ((codeFrom bs).2.2.1), .bool ((codeFrom bs).2.2.2)] ∧ SH w w' [] [.own Aqr (((codeFrom bs).2.1.2.1).length) cqr 3 1 (((codeFrom bs).2.1.2.1).map I)]) := by
 refine fn_enter (N := 46) Tryz.func145 rfl (by kernel_rfl) rfl rfl rfl ?_
 have hs0 : SH w w [] [] := SH.refl w []
 have hbs_m : bs.length ≤ 9223372036854775807 := Nat.le_trans hbs.cap hbs.capMax
 refine sq (rg (qt rfl (asg (v := I 0) rfl) (al (v := .agg #[I 0, ns, Str [], I 0]) (cs := [I 0, ns, Str [], I 0]) hs0 tz43 rfl trivial rfl (fun b1 w1 (hs1 : SH w w1 [] [.blk b1 43 [I 0, ns, Str [], I 0]]) => ?_))))
 refine qt rfl (asg (v := I 0) rfl) (qt rfl (asg (v := .bool false) rfl) (nl (nN (sq (sq (rg (qt rfl (mv (v := .slice Abs bs.length cbs) rfl) ?_)))))))
 refine cl trivial rfl (sBytesValid (Azs := Abs) (czs := cbs) (zs := bs) (w := _) (hzs := (hbs.up0 hs1))) ?_
 rintro _ w2 ⟨rfl, hs2'⟩
 have hs2 := hs1.call0 hs2'
 clear hs2'
 refine qt rfl (nt (b := isBytes bs) rfl) (qt rfl (mv (v := .bool (!(isBytes bs))) rfl) ?_)
 refine spl (b := !(isBytes bs)) 12 rfl (fun h1 => ?_) (fun h1 => ?_)
 · have h2 : (isBytes bs) = false := by simpa using h1
   refine gk true rfl rfl rfl rfl rfl (gk true rfl rfl rfl rfl rfl (gk true rfl rfl rfl rfl rfl (qt rfl (pt (v := .bool true) rfl rfl) (qt rfl (mv (v := .bool true) rfl) (gk true rfl rfl rfl rfl rfl (gk true rfl rfl rfl rfl rfl (gk true rfl rfl rfl rfl rfl ?_)))))))
   refine gk true rfl rfl rfl rfl rfl (qt rfl (pt (v := .bool true) rfl rfl) (qt rfl (mv (v := .bool true) rfl) (gk true rfl rfl rfl rfl rfl (gk true rfl rfl rfl rfl rfl (gk true rfl rfl rfl rfl rfl (gk true rfl rfl rfl rfl rfl (qt rfl (pt (v := .bool true) rfl rfl) ?_)))))))
   refine nl (nN (cdt rfl (sq (rg (qt rfl (bdv (v := .agg #[I 0, ns, Str [], I 0]) [] rfl (fun _ => by kernel_rfl)) (qt rfl (asg (v := I 0) rfl) (stg (vs := [I 0, ns, Str [], I 0]) hs2 0 rfl rfl rfl rfl rfl rfl rfl ag43 trivial (fun w3 (hs3 : SH w w3 [] [.blk b1 43 [I 0, ns, Str [], I 0]]) => ?_))))))))
   refine qt rfl (asg (v := I 0) rfl) (qt rfl (asg (v := .bool false) rfl) (nl (nN (rt (tR ?_)))))
   refine fret (v := .tuple #[I 0, .agg #[I 0, ns, Str [], I 0], I 0, .bool false]) (.tmp (resC hs3 0 rfl rfl ag43 rfl (.tmp (.tmp .nil)))) rfl ?_
   have hs4 : SH w w3 [] [.blk b1 43 [I 0, ns, Str [], I 0], .own none (([] : List Int).length) 0 3 1 (([] : List Int).map I)] := SH.nils (by intro i hi; simp at hi; subst hi; exact nilItem) hs3
   have e1 : codeFrom bs = (0, (0, ([] : List Int), [], 0), 0, false) := by exact code_no (.inl (by assumption))
   have e2 : 0 = (codeFrom bs).1 := by rw [e1]
   have e3 : 0 = (codeFrom bs).2.1.1 := by rw [e1]
   have e4 : ([] : List Int) = (codeFrom bs).2.1.2.1 := by rw [e1]
   have e5 : ([] : List Int).length = ((codeFrom bs).2.1.2.1).length := by exact congrArg List.length e4
   have e6 : [] = (codeFrom bs).2.1.2.2.1 := by rw [e1]
   have e7 : 0 = (codeFrom bs).2.1.2.2.2 := by rw [e1]
   have e8 : 0 = (codeFrom bs).2.2.1 := by rw [e1]
   have e9 : false = (codeFrom bs).2.2.2 := by rw [e1]
   exact ⟨none, 0, (tup4 (congrArg (Value.int .i64) e2) (aggv (lc (congrArg (Value.int .i64) e3) (lc (slv rfl e5 rfl) (lc (congrArg (Str) e6) (lc (congrArg (Value.int .i64) e7) rfl))))) (congrArg (Value.int .i64) e8) (congrArg (Value.bool) e9)), ((hs4.pick [1] rfl (by decide)).cast (lc (own_eq (g := I) rfl e5 rfl e4) rfl))⟩
 · have h3 : (isBytes bs) = true := by simpa using h1
   refine q ⟨_, rfl, rfl⟩ rfl rfl (mv (v := .slice Abs bs.length cbs) rfl) (q ⟨_, rfl, rfl⟩ rfl rfl (lnA (n := bs.length) sl22 rfl) (q ⟨_, rfl, rfl⟩ rfl rfl (lss (k := .i64) (a := ((bs.length : Nat) : Int)) (b := 3) rfl rfl) (qt rfl (pf (v := .bool (decide (((bs.length : Nat) : Int) < 3))) rfl rfl) (qt rfl (mv (v := .bool (decide (((bs.length : Nat) : Int) < 3))) rfl) ?_))))
   refine spd (p := ((bs.length : Nat) : Int) < 3) 17 rfl (fun h4 => ?_) (fun h4 => ?_)
   · refine gk true rfl rfl rfl rfl rfl (gk true rfl rfl rfl rfl rfl (gk true rfl rfl rfl rfl rfl (gk true rfl rfl rfl rfl rfl (qt rfl (pt (v := .bool true) rfl rfl) (qt rfl (mv (v := .bool true) rfl) (gk true rfl rfl rfl rfl rfl (gk true rfl rfl rfl rfl rfl ?_)))))))
     refine gk true rfl rfl rfl rfl rfl (gk true rfl rfl rfl rfl rfl (qt rfl (pt (v := .bool true) rfl rfl) (nl (nN (cdt rfl (sq (rg ?_)))))))
     refine qt rfl (bdv (v := .agg #[I 0, ns, Str [], I 0]) [] rfl (fun _ => by kernel_rfl)) (qt rfl (asg (v := I 0) rfl) (stg (vs := [I 0, ns, Str [], I 0]) hs2 0 rfl rfl rfl rfl rfl rfl rfl ag43 trivial (fun w4 (hs5 : SH w w4 [] [.blk b1 43 [I 0, ns, Str [], I 0]]) => ?_)))
     refine qt rfl (asg (v := I 0) rfl) (qt rfl (asg (v := .bool false) rfl) (nl (nN (rt (tR ?_)))))
     refine fret (v := .tuple #[I 0, .agg #[I 0, ns, Str [], I 0], I 0, .bool false]) (.tmp (resC hs5 0 rfl rfl ag43 rfl (.tmp (.tmp .nil)))) rfl ?_
     have hs6 : SH w w4 [] [.blk b1 43 [I 0, ns, Str [], I 0], .own none (([] : List Int).length) 0 3 1 (([] : List Int).map I)] := SH.nils (by intro i hi; simp at hi; subst hi; exact nilItem) hs5
     have e10 : codeFrom bs = (0, (0, ([] : List Int), [], 0), 0, false) := by exact code_no (.inr (.inl (by omega)))
     have e11 : 0 = (codeFrom bs).1 := by rw [e10]
     have e12 : 0 = (codeFrom bs).2.1.1 := by rw [e10]
     have e13 : ([] : List Int) = (codeFrom bs).2.1.2.1 := by rw [e10]
     have e14 : ([] : List Int).length = ((codeFrom bs).2.1.2.1).length := by exact congrArg List.length e13
     have e15 : [] = (codeFrom bs).2.1.2.2.1 := by rw [e10]
     have e16 : 0 = (codeFrom bs).2.1.2.2.2 := by rw [e10]
     have e17 : 0 = (codeFrom bs).2.2.1 := by rw [e10]
     have e18 : false = (codeFrom bs).2.2.2 := by rw [e10]
     exact ⟨none, 0, (tup4 (congrArg (Value.int .i64) e11) (aggv (lc (congrArg (Value.int .i64) e12) (lc (slv rfl e14 rfl) (lc (congrArg (Str) e15) (lc (congrArg (Value.int .i64) e16) rfl))))) (congrArg (Value.int .i64) e17) (congrArg (Value.bool) e18)), ((hs6.pick [1] rfl (by decide)).cast (lc (own_eq (g := I) rfl e14 rfl e13) rfl))⟩
   · refine q ⟨_, rfl, rfl⟩ rfl rfl (mv (v := .slice Abs bs.length cbs) rfl) (ixw1 0 sl22 rfl rfl hbs (by omega) (getm I 0 (by omega)) ⟨_, rfl, rfl⟩ rfl (fun a1 ha1 => ?_))
     refine q ⟨_, rfl, rfl⟩ rfl rfl (lda (v := I (bs.getD 0 0)) hs2 ha1 (fun _ h => h) rfl rfl one3) (q ⟨_, rfl, rfl⟩ rfl rfl (nei (k := .i64) (a := bs.getD 0 0) (b := 5) rfl rfl) (qt rfl (pf (v := .bool (decide ((bs.getD 0 0) ≠ 5))) rfl rfl) (qt rfl (mv (v := .bool (decide ((bs.getD 0 0) ≠ 5))) rfl) ?_)))
     refine spd (p := (bs.getD 0 0) ≠ 5) 23 rfl (fun h5 => ?_) (fun h5 => ?_)
     · refine gk true rfl rfl rfl rfl rfl (gk true rfl rfl rfl rfl rfl (gk true rfl rfl rfl rfl rfl (gk true rfl rfl rfl rfl rfl (qt rfl (pt (v := .bool true) rfl rfl) (nl (nN (cdt rfl ?_)))))))
       refine sq (rg (qt rfl (bdv (v := .agg #[I 0, ns, Str [], I 0]) [] rfl (fun _ => by kernel_rfl)) (qt rfl (asg (v := I 0) rfl) (stg (vs := [I 0, ns, Str [], I 0]) hs2 0 rfl rfl rfl rfl rfl rfl rfl ag43 trivial (fun w5 (hs7 : SH w w5 [] [.blk b1 43 [I 0, ns, Str [], I 0]]) => ?_)))))
       refine qt rfl (asg (v := I 0) rfl) (qt rfl (asg (v := .bool false) rfl) (nl (nN (rt (tR ?_)))))
       refine fret (v := .tuple #[I 0, .agg #[I 0, ns, Str [], I 0], I 0, .bool false]) (.tmp (resC hs7 0 rfl rfl ag43 rfl (.tmp (.tmp .nil)))) rfl ?_
       have hs8 : SH w w5 [] [.blk b1 43 [I 0, ns, Str [], I 0], .own none (([] : List Int).length) 0 3 1 (([] : List Int).map I)] := SH.nils (by intro i hi; simp at hi; subst hi; exact nilItem) hs7
       have e19 : codeFrom bs = (0, (0, ([] : List Int), [], 0), 0, false) := by exact code_no (.inr (.inr (.inl (by assumption))))
       have e20 : 0 = (codeFrom bs).1 := by rw [e19]
       have e21 : 0 = (codeFrom bs).2.1.1 := by rw [e19]
       have e22 : ([] : List Int) = (codeFrom bs).2.1.2.1 := by rw [e19]
       have e23 : ([] : List Int).length = ((codeFrom bs).2.1.2.1).length := by exact congrArg List.length e22
       have e24 : [] = (codeFrom bs).2.1.2.2.1 := by rw [e19]
       have e25 : 0 = (codeFrom bs).2.1.2.2.2 := by rw [e19]
       have e26 : 0 = (codeFrom bs).2.2.1 := by rw [e19]
       have e27 : false = (codeFrom bs).2.2.2 := by rw [e19]
       exact ⟨none, 0, (tup4 (congrArg (Value.int .i64) e20) (aggv (lc (congrArg (Value.int .i64) e21) (lc (slv rfl e23 rfl) (lc (congrArg (Str) e24) (lc (congrArg (Value.int .i64) e25) rfl))))) (congrArg (Value.int .i64) e26) (congrArg (Value.bool) e27)), ((hs8.pick [1] rfl (by decide)).cast (lc (own_eq (g := I) rfl e23 rfl e22) rfl))⟩
     · refine q ⟨_, rfl, rfl⟩ rfl rfl (mv (v := .slice Abs bs.length cbs) rfl) (ixw1 2 sl22 rfl rfl hbs (by omega) (getm I 0 (by omega)) ⟨_, rfl, rfl⟩ rfl (fun a2 ha2 => ?_))
       refine q ⟨_, rfl, rfl⟩ rfl rfl (lda (v := I (bs.getD 2 0)) hs2 ha2 (fun _ h => h) rfl rfl one3) (q ⟨_, rfl, rfl⟩ rfl rfl (nei (k := .i64) (a := bs.getD 2 0) (b := 0) rfl rfl) (qt rfl (pf (v := .bool (decide ((bs.getD 2 0) ≠ 0))) rfl rfl) (nl (nN ?_))))
       refine cdd (p := (bs.getD 2 0) ≠ 0) rfl (fun h6 => ?_) (fun h6 => ?_)
       · refine sq (rg (qt rfl (bdv (v := .agg #[I 0, ns, Str [], I 0]) [] rfl (fun _ => by kernel_rfl)) (qt rfl (asg (v := I 0) rfl) (stg (vs := [I 0, ns, Str [], I 0]) hs2 0 rfl rfl rfl rfl rfl rfl rfl ag43 trivial (fun w6 (hs9 : SH w w6 [] [.blk b1 43 [I 0, ns, Str [], I 0]]) => ?_)))))
         refine qt rfl (asg (v := I 0) rfl) (qt rfl (asg (v := .bool false) rfl) (nl (nN (rt (tR ?_)))))
         refine fret (v := .tuple #[I 0, .agg #[I 0, ns, Str [], I 0], I 0, .bool false]) (.tmp (resC hs9 0 rfl rfl ag43 rfl (.tmp (.tmp .nil)))) rfl ?_
         have hs10 : SH w w6 [] [.blk b1 43 [I 0, ns, Str [], I 0], .own none (([] : List Int).length) 0 3 1 (([] : List Int).map I)] := SH.nils (by intro i hi; simp at hi; subst hi; exact nilItem) hs9
         have e28 : codeFrom bs = (0, (0, ([] : List Int), [], 0), 0, false) := by exact code_no (.inr (.inr (.inr (.inl (by assumption)))))
         have e29 : 0 = (codeFrom bs).1 := by rw [e28]
         have e30 : 0 = (codeFrom bs).2.1.1 := by rw [e28]
         have e31 : ([] : List Int) = (codeFrom bs).2.1.2.1 := by rw [e28]
         have e32 : ([] : List Int).length = ((codeFrom bs).2.1.2.1).length := by exact congrArg List.length e31
         have e33 : [] = (codeFrom bs).2.1.2.2.1 := by rw [e28]
         have e34 : 0 = (codeFrom bs).2.1.2.2.2 := by rw [e28]
         have e35 : 0 = (codeFrom bs).2.2.1 := by rw [e28]
         have e36 : false = (codeFrom bs).2.2.2 := by rw [e28]
         exact ⟨none, 0, (tup4 (congrArg (Value.int .i64) e29) (aggv (lc (congrArg (Value.int .i64) e30) (lc (slv rfl e32 rfl) (lc (congrArg (Str) e33) (lc (congrArg (Value.int .i64) e34) rfl))))) (congrArg (Value.int .i64) e35) (congrArg (Value.bool) e36)), ((hs10.pick [1] rfl (by decide)).cast (lc (own_eq (g := I) rfl e32 rfl e31) rfl))⟩
       · refine sk (nN (sq (rg (qt rfl (mv (v := .slice Abs bs.length cbs) rfl) (qt rfl (culm (zs := bs) 3 sl22 rfl rfl (by omega)) (cl trivial rfl (sAddressOf (Abs := if cbs = 3 then Abs else Abs.map (·.add (3 * 1))) (cbs := cbs - 3) (bs := bs.drop 3) (w := _) (hbs := (Sl.cutlm (hbs.up0 hs2) (by omega))) (hob := (by exact isBytes_sub (by assumption) (List.drop_sublist _ _)))) ?_))))))
         rintro _ w7 ⟨Aq1, cq1, rfl, hs11'⟩
         have hs11 := hs2.call0 hs11'
         clear hs11'
         refine qt rfl (mv (v := .tuple #[.agg #[I ((addrD (bs.drop 3)).1.1), .slice Aq1 (((addrD (bs.drop 3)).1.2.1).length) cq1, Str ((addrD (bs.drop 3)).1.2.2.1), I ((addrD (bs.drop 3)).1.2.2.2)], I ((addrD (bs.drop 3)).2.1), .bool ((addrD (bs.drop 3)).2.2)]) rfl) (qt rfl (xt 0 (v := .agg #[I ((addrD (bs.drop 3)).1.1), .slice Aq1 (((addrD (bs.drop 3)).1.2.1).length) cq1, Str ((addrD (bs.drop 3)).1.2.2.1), I ((addrD (bs.drop 3)).1.2.2.2)]) rfl rfl) (qt rfl (xt 1 (v := I ((addrD (bs.drop 3)).2.1)) rfl rfl) (qt rfl (xt 2 (v := .bool ((addrD (bs.drop 3)).2.2)) rfl rfl) (al (v := .agg #[I 0, ns, Str [], I 0]) (cs := [I 0, ns, Str [], I 0]) hs11 tz43 rfl trivial rfl (fun b2 w8 (hs12 : SH w w8 [] [.blk b1 43 [I 0, ns, Str [], I 0], .own Aq1 (((addrD (bs.drop 3)).1.2.1).length) cq1 3 1 (((addrD (bs.drop 3)).1.2.1).map I), .blk b2 43 [I 0, ns, Str [], I 0]]) => ?_)))))
         refine stg (vs := [I ((addrD (bs.drop 3)).1.1), .slice Aq1 (((addrD (bs.drop 3)).1.2.1).length) cq1, Str ((addrD (bs.drop 3)).1.2.2.1), I ((addrD (bs.drop 3)).1.2.2.2)]) hs12 2 rfl rfl rfl rfl rfl rfl rfl ag43 trivial (fun w9 (hs13 : SH w w9 [] [.blk b1 43 [I 0, ns, Str [], I 0], .own Aq1 (((addrD (bs.drop 3)).1.2.1).length) cq1 3 1 (((addrD (bs.drop 3)).1.2.1).map I), .blk b2 43 [I ((addrD (bs.drop 3)).1.1), .slice Aq1 (((addrD (bs.drop 3)).1.2.1).length) cq1, Str ((addrD (bs.drop 3)).1.2.2.1), I ((addrD (bs.drop 3)).1.2.2.2)]]) => ?_)
         refine qt rfl (asg (v := I ((addrD (bs.drop 3)).2.1)) rfl) (qt rfl (asg (v := .bool ((addrD (bs.drop 3)).2.2)) rfl) (nl (nN (sq (sq (rg (qt rfl (mv (v := .bool ((addrD (bs.drop 3)).2.2)) rfl) ?_)))))))
         refine qt rfl (nt (b := (addrD (bs.drop 3)).2.2) rfl) (nl (nN ?_))
         refine cd (b := !((addrD (bs.drop 3)).2.2)) rfl (fun h7 => ?_) (fun h7 => ?_)
         · have h8 : ((addrD (bs.drop 3)).2.2) = false := by simpa using h7
           refine sq (rg (qt rfl (bdv (v := .agg #[I 0, ns, Str [], I 0]) [] rfl (fun _ => by kernel_rfl)) (qt rfl (asg (v := I 0) rfl) (stg (vs := [I 0, ns, Str [], I 0]) hs13 0 rfl rfl rfl rfl rfl rfl rfl ag43 trivial (fun w10 (hs14 : SH w w10 [] [.own Aq1 (((addrD (bs.drop 3)).1.2.1).length) cq1 3 1 (((addrD (bs.drop 3)).1.2.1).map I), .blk b2 43 [I ((addrD (bs.drop 3)).1.1), .slice Aq1 (((addrD (bs.drop 3)).1.2.1).length) cq1, Str ((addrD (bs.drop 3)).1.2.2.1), I ((addrD (bs.drop 3)).1.2.2.2)], .blk b1 43 [I 0, ns, Str [], I 0]]) => ?_)))))
           refine qt rfl (asg (v := I 0) rfl) (qt rfl (asg (v := .bool false) rfl) (nl (nN (rt (tR ?_)))))
           refine fret (v := .tuple #[I 0, .agg #[I 0, ns, Str [], I 0], I 0, .bool false]) (.tmp (resC hs14 2 rfl rfl ag43 rfl (.tmp (.tmp .nil)))) rfl ?_
           have hs15 : SH w w10 [] [.own Aq1 (((addrD (bs.drop 3)).1.2.1).length) cq1 3 1 (((addrD (bs.drop 3)).1.2.1).map I), .blk b2 43 [I ((addrD (bs.drop 3)).1.1), .slice Aq1 (((addrD (bs.drop 3)).1.2.1).length) cq1, Str ((addrD (bs.drop 3)).1.2.2.1), I ((addrD (bs.drop 3)).1.2.2.2)], .blk b1 43 [I 0, ns, Str [], I 0], .own none (([] : List Int).length) 0 3 1 (([] : List Int).map I)] := SH.nils (by intro i hi; simp at hi; subst hi; exact nilItem) hs14
           have e37 : codeFrom bs = (0, (0, ([] : List Int), [], 0), 0, false) := by exact code_no (.inr (.inr (.inr (.inr (by assumption)))))
           have e38 : 0 = (codeFrom bs).1 := by rw [e37]
           have e39 : 0 = (codeFrom bs).2.1.1 := by rw [e37]
           have e40 : ([] : List Int) = (codeFrom bs).2.1.2.1 := by rw [e37]
           have e41 : ([] : List Int).length = ((codeFrom bs).2.1.2.1).length := by exact congrArg List.length e40
           have e42 : [] = (codeFrom bs).2.1.2.2.1 := by rw [e37]
           have e43 : 0 = (codeFrom bs).2.1.2.2.2 := by rw [e37]
           have e44 : 0 = (codeFrom bs).2.2.1 := by rw [e37]
           have e45 : false = (codeFrom bs).2.2.2 := by rw [e37]
           exact ⟨none, 0, (tup4 (congrArg (Value.int .i64) e38) (aggv (lc (congrArg (Value.int .i64) e39) (lc (slv rfl e41 rfl) (lc (congrArg (Str) e42) (lc (congrArg (Value.int .i64) e43) rfl))))) (congrArg (Value.int .i64) e44) (congrArg (Value.bool) e45)), ((hs15.pick [3] rfl (by decide)).cast (lc (own_eq (g := I) rfl e41 rfl e40) rfl))⟩
         · have h9 : ((addrD (bs.drop 3)).2.2) = true := by simpa using h7
           refine sk (nN (sq ?_))
           refine raJ (fun w' => ∃ L, SH w w' [] L ∧ (.blk b2 43 [I ((addrD (bs.drop 3)).1.1), .slice Aq1 (((addrD (bs.drop 3)).1.2.1).length) cq1, Str ((addrD (bs.drop 3)).1.2.2.1), I ((addrD (bs.drop 3)).1.2.2.2)]) ∈ L ∧ True) (fun f w' => Has f [(2, I (bs.getD 1 0)), (3, pB b1), (4, I (((addrD (bs.drop 3)).2.1) + 3)), (5, .bool true)] ∧ SH w w' [] [.blk b1 43 [I ((addrD (bs.drop 3)).1.1), .slice Aq1 (((addrD (bs.drop 3)).1.2.1).length) cq1, Str ((addrD (bs.drop 3)).1.2.2.1), I ((addrD (bs.drop 3)).1.2.2.2)], .own Aq1 (((addrD (bs.drop 3)).1.2.1).length) cq1 3 1 (((addrD (bs.drop 3)).1.2.1).map I), .blk b2 43 [I ((addrD (bs.drop 3)).1.1), .slice Aq1 (((addrD (bs.drop 3)).1.2.1).length) cq1, Str ((addrD (bs.drop 3)).1.2.2.1), I ((addrD (bs.drop 3)).1.2.2.2)]]) mixed ?_ ?_
           · refine dag (fuel' := 3) (listed' := lbits 10 127) (fun f w' => Has f [(2, I (bs.getD 1 0)), (3, pB b1), (4, I 0), (5, .bool false), (43, .agg #[I ((addrD (bs.drop 3)).1.1), .slice Aq1 (((addrD (bs.drop 3)).1.2.1).length) cq1, Str ((addrD (bs.drop 3)).1.2.2.1), I ((addrD (bs.drop 3)).1.2.2.2)]), (45, I (((addrD (bs.drop 3)).2.1) + 3))] ∧ SH w w' [] [.blk b1 43 [I 0, ns, Str [], I 0], .own Aq1 (((addrD (bs.drop 3)).1.2.1).length) cq1 3 1 (((addrD (bs.drop 3)).1.2.1).map I), .blk b2 43 [I ((addrD (bs.drop 3)).1.1), .slice Aq1 (((addrD (bs.drop 3)).1.2.1).length) cq1, Str ((addrD (bs.drop 3)).1.2.2.1), I ((addrD (bs.drop 3)).1.2.2.2)]]) ?_ (fun D_6_0 => ?_)
             · rintro f w11 ⟨hf, hs16⟩
               obtain ⟨g1, rfl⟩ := has_upd hf
               clear hf
               refine aaL [7] (fa_one ?_)
               refine one_ rfl (stg (vs := [I ((addrD (bs.drop 3)).1.1), .slice Aq1 (((addrD (bs.drop 3)).1.2.1).length) cq1, Str ((addrD (bs.drop 3)).1.2.2.1), I ((addrD (bs.drop 3)).1.2.2.2)]) hs16 0 rfl rfl rfl rfl rfl rfl rfl ag43 trivial (fun w12 hs17 => ?_))
               refine nl (kq ⟨_, hs17, memi 1 rfl, trivial⟩ ?_)
               refine tk (fuel := 0) (is := [8, 9]) (.cons rfl (.cons rfl (.nil))) (by kernel_rfl) (by kernel_rfl) ⟨_, hs17, memi 1 rfl, trivial⟩ (.op trivial rfl rfl (fun wq _ => asg (v := I (((addrD (bs.drop 3)).2.1) + 3)) rfl) (.op trivial rfl rfl (fun wq _ => asg (v := .bool true) rfl) (.nil (ad (by kernel_rfl) ?_))))
               exact ⟨⟨rfl, rfl, rfl, rfl, trivial⟩, (hs17.pick [2, 0, 1] rfl (by decide))⟩
             have hs18 := hs13.drew
             refine tk (fuel := 3) (is := [0, 1, 2, 3, 4, 5, 6]) (.cons rfl (.cons rfl (.cons rfl (.cons rfl (.cons rfl (.cons rfl (.cons rfl (.nil)))))))) (by kernel_rfl) (by kernel_rfl) ⟨_, hs18, memi 2 rfl, trivial⟩ (.op trivial rfl rfl (fun wq _ => mv (v := .slice Abs bs.length cbs) rfl) (ixy1 1 sl22 rfl rfl hbs (by omega) (getm I 0 (by omega)) trivial rfl (fun a3 ha3 => ?_)))
             refine .op trivial rfl rfl (fun wq ⟨Lq, hsq, mh0, _⟩ => lda (v := I (bs.getD 1 0)) hsq ha3 (fun _ h => h) rfl rfl one3) (.op trivial rfl rfl (fun wq ⟨Lq, hsq, mh0, _⟩ => ldgm (vs := [I ((addrD (bs.drop 3)).1.1), .slice Aq1 (((addrD (bs.drop 3)).1.2.1).length) cq1, Str ((addrD (bs.drop 3)).1.2.2.1), I ((addrD (bs.drop 3)).1.2.2.2)]) hsq mh0 rfl rfl rfl ag43) (.op trivial rfl rfl (fun wq _ => mv (v := I ((addrD (bs.drop 3)).2.1)) rfl) (.op trivial rfl rfl (fun wq _ => add (a := (addrD (bs.drop 3)).2.1) (b := 3) rfl rfl (by have had := addrD_ok (by assumption : (addrD (bs.drop 3)).2.2 = true); rw [List.length_drop] at had; have hbl := isBytes_len (by assumption : isBytes bs = true); exact ⟨by omega, by omega⟩)) (.op trivial rfl rfl (fun wq _ => asg (v := I (bs.getD 1 0)) rfl) (.nil ?_)))))
             exact alc D_6_0 ⟨⟨rfl, rfl, rfl, rfl, rfl, rfl, trivial⟩, hs18⟩
           rintro f w13 ⟨hf, hs19⟩
           obtain ⟨g2, rfl⟩ := has_upd hf
           clear hf
           refine nN (rt (fret (v := .tuple #[I (bs.getD 1 0), .agg #[I ((addrD (bs.drop 3)).1.1), .slice Aq1 (((addrD (bs.drop 3)).1.2.1).length) cq1, Str ((addrD (bs.drop 3)).1.2.2.1), I ((addrD (bs.drop 3)).1.2.2.2)], I (((addrD (bs.drop 3)).2.1) + 3), .bool true]) (.tmp (resC hs19 0 rfl rfl ag43 rfl (.tmp (.tmp .nil)))) rfl ?_))
           have e46 : codeFrom bs = (bs.getD 1 0, ((addrD (bs.drop 3)).1.1, (addrD (bs.drop 3)).1.2.1, (addrD (bs.drop 3)).1.2.2.1, (addrD (bs.drop 3)).1.2.2.2), ((addrD (bs.drop 3)).2.1) + 3, true) := by exact code_yes (by assumption) (by omega) (by omega) (by omega) (by assumption)
           have e47 : bs.getD 1 0 = (codeFrom bs).1 := by rw [e46]
           have e48 : (addrD (bs.drop 3)).1.1 = (codeFrom bs).2.1.1 := by rw [e46]
           have e49 : (addrD (bs.drop 3)).1.2.1 = (codeFrom bs).2.1.2.1 := by rw [e46]
           have e50 : ((addrD (bs.drop 3)).1.2.1).length = ((codeFrom bs).2.1.2.1).length := by exact congrArg List.length e49
           have e51 : (addrD (bs.drop 3)).1.2.2.1 = (codeFrom bs).2.1.2.2.1 := by rw [e46]
           have e52 : (addrD (bs.drop 3)).1.2.2.2 = (codeFrom bs).2.1.2.2.2 := by rw [e46]
           have e53 : ((addrD (bs.drop 3)).2.1) + 3 = (codeFrom bs).2.2.1 := by rw [e46]
           have e54 : true = (codeFrom bs).2.2.2 := by rw [e46]
           exact ⟨Aq1, cq1, (tup4 (congrArg (Value.int .i64) e47) (aggv (lc (congrArg (Value.int .i64) e48) (lc (slv rfl e50 rfl) (lc (congrArg (Str) e51) (lc (congrArg (Value.int .i64) e52) rfl))))) (congrArg (Value.int .i64) e53) (congrArg (Value.bool) e54)), ((hs19.pick [1] rfl (by decide)).cast (lc (own_eq (g := I) rfl e50 rfl e49) rfl))⟩
theorem sRequestFrom {Abs : Option Addr} {cbs : Nat} (bs : List Int) (w : World) (hbs : Sl w [] 1 Abs bs.length cbs (bs.map I)) : Does Tryz.prog 100 [.slice Abs bs.length cbs] w (fun v w' => ∃ Aqr : Option Addr, ∃ cqr : Nat, v = .tuple #[.agg #[.int .i64 ((reqFrom bs).1.1), .int .i64 ((reqFrom bs).1.2.1), .slice Aqr ((reqFrom bs).1.2.2.1).length cqr, Str ((reqFrom bs).1.2.2.2.1), .int .i64 ((reqFrom bs).1.2.2.2.2)], .int .i64 ((reqFrom bs).2.1), .bool ((reqFrom bs).2.2)] ∧ SH w w' [] [.own Aqr (((reqFrom bs).1.2.2.1).length) cqr 3 1 (((reqFrom bs).1.2.2.1).map I)]) := by
 refine fn_enter (N := 28) Tryz.func100 rfl (by kernel_rfl) rfl rfl rfl ?_
 have hs0 : SH w w [] [] := SH.refl w []
 have hbs_m : bs.length ≤ 9223372036854775807 := Nat.le_trans hbs.cap hbs.capMax
 refine sq (rg (al (v := .agg #[I 0, I 0, ns, Str [], I 0]) (cs := [I 0, I 0, ns, Str [], I 0]) hs0 tz45 rfl trivial rfl (fun b1 w1 (hs1 : SH w w1 [] [.blk b1 45 [I 0, I 0, ns, Str [], I 0]]) => ?_)))
 refine qt rfl (asg (v := I 0) rfl) (qt rfl (asg (v := .bool false) rfl) (nl (nN (sq (rg (qt rfl (mv (v := .slice Abs bs.length cbs) rfl) (cl trivial rfl (sL12From (Abs := Abs) (cbs := cbs) (bs := bs) (w := _) (hbs := (hbs.up0 hs1))) ?_)))))))
 rintro _ w2 ⟨Aq1, cq1, rfl, hs2'⟩
 have hs2 := hs1.call0 hs2'
 clear hs2'
 refine qt rfl (mv (v := .tuple #[I ((codeFrom bs).1), .agg #[I ((codeFrom bs).2.1.1), .slice Aq1 (((codeFrom bs).2.1.2.1).length) cq1, Str ((codeFrom bs).2.1.2.2.1), I ((codeFrom bs).2.1.2.2.2)], I ((codeFrom bs).2.2.1), .bool ((codeFrom bs).2.2.2)]) rfl) (qt rfl (xt 0 (v := I ((codeFrom bs).1)) rfl rfl) (qt rfl (xt 1 (v := .agg #[I ((codeFrom bs).2.1.1), .slice Aq1 (((codeFrom bs).2.1.2.1).length) cq1, Str ((codeFrom bs).2.1.2.2.1), I ((codeFrom bs).2.1.2.2.2)]) rfl rfl) (qt rfl (xt 2 (v := I ((codeFrom bs).2.2.1)) rfl rfl) (qt rfl (xt 3 (v := .bool ((codeFrom bs).2.2.2)) rfl rfl) (al (v := .agg #[I 0, ns, Str [], I 0]) (cs := [I 0, ns, Str [], I 0]) hs2 tz43 rfl trivial rfl (fun b2 w3 (hs3 : SH w w3 [] [.blk b1 45 [I 0, I 0, ns, Str [], I 0], .own Aq1 (((codeFrom bs).2.1.2.1).length) cq1 3 1 (((codeFrom bs).2.1.2.1).map I), .blk b2 43 [I 0, ns, Str [], I 0]]) => ?_))))))
 refine qt rfl (asg (v := I ((codeFrom bs).1)) rfl) (stg (vs := [I ((codeFrom bs).2.1.1), .slice Aq1 (((codeFrom bs).2.1.2.1).length) cq1, Str ((codeFrom bs).2.1.2.2.1), I ((codeFrom bs).2.1.2.2.2)]) hs3 2 rfl rfl rfl rfl rfl rfl rfl ag43 trivial (fun w4 (hs4 : SH w w4 [] [.blk b1 45 [I 0, I 0, ns, Str [], I 0], .own Aq1 (((codeFrom bs).2.1.2.1).length) cq1 3 1 (((codeFrom bs).2.1.2.1).map I), .blk b2 43 [I ((codeFrom bs).2.1.1), .slice Aq1 (((codeFrom bs).2.1.2.1).length) cq1, Str ((codeFrom bs).2.1.2.2.1), I ((codeFrom bs).2.1.2.2.2)]]) => ?_))
 refine qt rfl (asg (v := I ((codeFrom bs).2.2.1)) rfl) (qt rfl (asg (v := .bool ((codeFrom bs).2.2.2)) rfl) (nl (nN (sq (sq (rg (qt rfl (mv (v := .bool ((codeFrom bs).2.2.2)) rfl) ?_)))))))
 refine qt rfl (nt (b := (codeFrom bs).2.2.2) rfl) (qt rfl (mv (v := .bool (!((codeFrom bs).2.2.2))) rfl) ?_)
 refine spl (b := !((codeFrom bs).2.2.2)) 18 rfl (fun h1 => ?_) (fun h1 => ?_)
 · have h2 : ((codeFrom bs).2.2.2) = false := by simpa using h1
   refine gk true rfl rfl rfl rfl rfl (gk true rfl rfl rfl rfl rfl (gk true rfl rfl rfl rfl rfl (qt rfl (pt (v := .bool true) rfl rfl) (nl (nN (cdt rfl (sq ?_)))))))
   refine rg (qt rfl (bdv (v := .agg #[I 0, I 0, ns, Str [], I 0]) [] rfl (fun _ => by kernel_rfl)) (stg (vs := [I 0, I 0, ns, Str [], I 0]) hs4 0 rfl rfl rfl rfl rfl rfl rfl ag45 trivial (fun w5 (hs5 : SH w w5 [] [.own Aq1 (((codeFrom bs).2.1.2.1).length) cq1 3 1 (((codeFrom bs).2.1.2.1).map I), .blk b2 43 [I ((codeFrom bs).2.1.1), .slice Aq1 (((codeFrom bs).2.1.2.1).length) cq1, Str ((codeFrom bs).2.1.2.2.1), I ((codeFrom bs).2.1.2.2.2)], .blk b1 45 [I 0, I 0, ns, Str [], I 0]]) => ?_)))
   refine qt rfl (asg (v := I 0) rfl) (qt rfl (asg (v := .bool false) rfl) (nl (nN (rt (tR ?_)))))
   refine fret (v := .tuple #[.agg #[I 0, I 0, ns, Str [], I 0], I 0, .bool false]) (resC hs5 2 rfl rfl ag45 rfl (.tmp (.tmp .nil))) rfl ?_
   have hs6 : SH w w5 [] [.own Aq1 (((codeFrom bs).2.1.2.1).length) cq1 3 1 (((codeFrom bs).2.1.2.1).map I), .blk b2 43 [I ((codeFrom bs).2.1.1), .slice Aq1 (((codeFrom bs).2.1.2.1).length) cq1, Str ((codeFrom bs).2.1.2.2.1), I ((codeFrom bs).2.1.2.2.2)], .blk b1 45 [I 0, I 0, ns, Str [], I 0], .own none (([] : List Int).length) 0 3 1 (([] : List Int).map I)] := SH.nils (by intro i hi; simp at hi; subst hi; exact nilItem) hs5
   have e1 : reqFrom bs = ((0, (0, ([] : List Int), [], 0)), 0, false) := by simp [reqFrom, h2]
   have e2 : 0 = (reqFrom bs).1.1 := by rw [e1]
   have e3 : 0 = (reqFrom bs).1.2.1 := by rw [e1]
   have e4 : ([] : List Int) = (reqFrom bs).1.2.2.1 := by rw [e1]
   have e5 : ([] : List Int).length = ((reqFrom bs).1.2.2.1).length := by exact congrArg List.length e4
   have e6 : [] = (reqFrom bs).1.2.2.2.1 := by rw [e1]
   have e7 : 0 = (reqFrom bs).1.2.2.2.2 := by rw [e1]
   have e8 : 0 = (reqFrom bs).2.1 := by rw [e1]
   have e9 : false = (reqFrom bs).2.2 := by rw [e1]
   exact ⟨none, 0, (tup3 (aggv (lc (congrArg (Value.int .i64) e2) (lc (congrArg (Value.int .i64) e3) (lc (slv rfl e5 rfl) (lc (congrArg (Str) e6) (lc (congrArg (Value.int .i64) e7) rfl)))))) (congrArg (Value.int .i64) e8) (congrArg (Value.bool) e9)), ((hs6.pick [3] rfl (by decide)).cast (lc (own_eq (g := I) rfl e5 rfl e4) rfl))⟩
 · have h3 : ((codeFrom bs).2.2.2) = true := by simpa using h1
   refine q ⟨_, rfl, rfl⟩ rfl rfl (mv (v := I ((codeFrom bs).1)) rfl) (cl ⟨_, rfl, rfl⟩ rfl (sIn (x := (codeFrom bs).1) (lo := 1) (hi := 3) (w := _)) ?_)
   rintro _ w6 ⟨rfl, hs7'⟩
   have hs7 := hs4.call0 hs7'
   clear hs7'
   refine q ⟨_, rfl, rfl⟩ rfl rfl (nd (p := 1 ≤ ((codeFrom bs).1) ∧ ((codeFrom bs).1) ≤ 3) rfl) (qt rfl (pf (v := .bool (decide (¬ (1 ≤ ((codeFrom bs).1) ∧ ((codeFrom bs).1) ≤ 3)))) rfl rfl) (nl (nN ?_)))
   refine cdd (p := ¬ (1 ≤ ((codeFrom bs).1) ∧ ((codeFrom bs).1) ≤ 3)) rfl (fun h4 => ?_) (fun h4 => ?_)
   · refine sq (rg (qt rfl (bdv (v := .agg #[I 0, I 0, ns, Str [], I 0]) [] rfl (fun _ => by kernel_rfl)) (stg (vs := [I 0, I 0, ns, Str [], I 0]) hs7 0 rfl rfl rfl rfl rfl rfl rfl ag45 trivial (fun w7 (hs8 : SH w w7 [] [.own Aq1 (((codeFrom bs).2.1.2.1).length) cq1 3 1 (((codeFrom bs).2.1.2.1).map I), .blk b2 43 [I ((codeFrom bs).2.1.1), .slice Aq1 (((codeFrom bs).2.1.2.1).length) cq1, Str ((codeFrom bs).2.1.2.2.1), I ((codeFrom bs).2.1.2.2.2)], .blk b1 45 [I 0, I 0, ns, Str [], I 0]]) => ?_))))
     refine qt rfl (asg (v := I 0) rfl) (qt rfl (asg (v := .bool false) rfl) (nl (nN (rt (tR ?_)))))
     refine fret (v := .tuple #[.agg #[I 0, I 0, ns, Str [], I 0], I 0, .bool false]) (resC hs8 2 rfl rfl ag45 rfl (.tmp (.tmp .nil))) rfl ?_
     have hs9 : SH w w7 [] [.own Aq1 (((codeFrom bs).2.1.2.1).length) cq1 3 1 (((codeFrom bs).2.1.2.1).map I), .blk b2 43 [I ((codeFrom bs).2.1.1), .slice Aq1 (((codeFrom bs).2.1.2.1).length) cq1, Str ((codeFrom bs).2.1.2.2.1), I ((codeFrom bs).2.1.2.2.2)], .blk b1 45 [I 0, I 0, ns, Str [], I 0], .own none (([] : List Int).length) 0 3 1 (([] : List Int).map I)] := SH.nils (by intro i hi; simp at hi; subst hi; exact nilItem) hs8
     have e10 : reqFrom bs = ((0, (0, ([] : List Int), [], 0)), 0, false) := by simp [reqFrom, h3, h4]
     have e11 : 0 = (reqFrom bs).1.1 := by rw [e10]
     have e12 : 0 = (reqFrom bs).1.2.1 := by rw [e10]
     have e13 : ([] : List Int) = (reqFrom bs).1.2.2.1 := by rw [e10]
     have e14 : ([] : List Int).length = ((reqFrom bs).1.2.2.1).length := by exact congrArg List.length e13
     have e15 : [] = (reqFrom bs).1.2.2.2.1 := by rw [e10]
     have e16 : 0 = (reqFrom bs).1.2.2.2.2 := by rw [e10]
     have e17 : 0 = (reqFrom bs).2.1 := by rw [e10]
     have e18 : false = (reqFrom bs).2.2 := by rw [e10]
     exact ⟨none, 0, (tup3 (aggv (lc (congrArg (Value.int .i64) e11) (lc (congrArg (Value.int .i64) e12) (lc (slv rfl e14 rfl) (lc (congrArg (Str) e15) (lc (congrArg (Value.int .i64) e16) rfl)))))) (congrArg (Value.int .i64) e17) (congrArg (Value.bool) e18)), ((hs9.pick [3] rfl (by decide)).cast (lc (own_eq (g := I) rfl e14 rfl e13) rfl))⟩
   · refine sk (nN (sq (rg (qt rfl (mv (v := I ((codeFrom bs).1)) rfl) (qt rfl (ldg (vs := [I ((codeFrom bs).2.1.1), .slice Aq1 (((codeFrom bs).2.1.2.1).length) cq1, Str ((codeFrom bs).2.1.2.2.1), I ((codeFrom bs).2.1.2.2.2)]) hs7 2 rfl rfl rfl rfl ag43) (qt rfl (bdv (v := .agg #[I ((codeFrom bs).1), I ((codeFrom bs).2.1.1), .slice Aq1 (((codeFrom bs).2.1.2.1).length) cq1, Str ((codeFrom bs).2.1.2.2.1), I ((codeFrom bs).2.1.2.2.2)]) [(0, I ((codeFrom bs).1)), (1, .agg #[I ((codeFrom bs).2.1.1), .slice Aq1 (((codeFrom bs).2.1.2.1).length) cq1, Str ((codeFrom bs).2.1.2.2.1), I ((codeFrom bs).2.1.2.2.2)])] rfl (fun _ => by kernel_rfl)) (qt rfl (mv (v := I ((codeFrom bs).2.2.1)) rfl) ?_)))))))
     refine stg (vs := [I ((codeFrom bs).1), I ((codeFrom bs).2.1.1), .slice Aq1 (((codeFrom bs).2.1.2.1).length) cq1, Str ((codeFrom bs).2.1.2.2.1), I ((codeFrom bs).2.1.2.2.2)]) hs7 0 rfl rfl rfl rfl rfl rfl rfl ag45 trivial (fun w8 (hs10 : SH w w8 [] [.own Aq1 (((codeFrom bs).2.1.2.1).length) cq1 3 1 (((codeFrom bs).2.1.2.1).map I), .blk b2 43 [I ((codeFrom bs).2.1.1), .slice Aq1 (((codeFrom bs).2.1.2.1).length) cq1, Str ((codeFrom bs).2.1.2.2.1), I ((codeFrom bs).2.1.2.2.2)], .blk b1 45 [I ((codeFrom bs).1), I ((codeFrom bs).2.1.1), .slice Aq1 (((codeFrom bs).2.1.2.1).length) cq1, Str ((codeFrom bs).2.1.2.2.1), I ((codeFrom bs).2.1.2.2.2)]]) => ?_)
     refine qt rfl (asg (v := I ((codeFrom bs).2.2.1)) rfl) (qt rfl (asg (v := .bool true) rfl) (nl (nN (rt (fret (v := .tuple #[.agg #[I ((codeFrom bs).1), I ((codeFrom bs).2.1.1), .slice Aq1 (((codeFrom bs).2.1.2.1).length) cq1, Str ((codeFrom bs).2.1.2.2.1), I ((codeFrom bs).2.1.2.2.2)], I ((codeFrom bs).2.2.1), .bool true]) (resC hs10 2 rfl rfl ag45 rfl (.tmp (.tmp .nil))) rfl ?_)))))
     have e19 : reqFrom bs = (((codeFrom bs).1, ((codeFrom bs).2.1.1, (codeFrom bs).2.1.2.1, (codeFrom bs).2.1.2.2.1, (codeFrom bs).2.1.2.2.2)), (codeFrom bs).2.2.1, true) := by simp [reqFrom, h3, h4]
     have e20 : (codeFrom bs).1 = (reqFrom bs).1.1 := by rw [e19]
     have e21 : (codeFrom bs).2.1.1 = (reqFrom bs).1.2.1 := by rw [e19]
     have e22 : (codeFrom bs).2.1.2.1 = (reqFrom bs).1.2.2.1 := by rw [e19]
     have e23 : ((codeFrom bs).2.1.2.1).length = ((reqFrom bs).1.2.2.1).length := by exact congrArg List.length e22
     have e24 : (codeFrom bs).2.1.2.2.1 = (reqFrom bs).1.2.2.2.1 := by rw [e19]
     have e25 : (codeFrom bs).2.1.2.2.2 = (reqFrom bs).1.2.2.2.2 := by rw [e19]
     have e26 : (codeFrom bs).2.2.1 = (reqFrom bs).2.1 := by rw [e19]
     have e27 : true = (reqFrom bs).2.2 := by rw [e19]
     exact ⟨Aq1, cq1, (tup3 (aggv (lc (congrArg (Value.int .i64) e20) (lc (congrArg (Value.int .i64) e21) (lc (slv rfl e23 rfl) (lc (congrArg (Str) e24) (lc (congrArg (Value.int .i64) e25) rfl)))))) (congrArg (Value.int .i64) e26) (congrArg (Value.bool) e27)), ((hs10.pick [0] rfl (by decide)).cast (lc (own_eq (g := I) rfl e23 rfl e22) rfl))⟩
theorem stAtoi (s : List UInt8) (w : World) (hs_n : s.length ≤ 1099511627776) (hEr : VarP Tryz.prog w [] "strconv.ErrRange" isIfc) (hEs : VarP Tryz.prog w [] "strconv.ErrSyntax" isIfc) : Does Tryz.prog 168 [Str s] w (fun v w' => ∃ ur : TypeId, ∃ vr : Value, v = .tuple #[.int .i64 ((atoiR s).1), errV ((atoiR s).2) ur vr] ∧ SH w w' [] []) := by
  refine (does_atoi ⟨_, _, Tryz.func168, by kernel_rfl, rfl⟩ hEs hEr (fun v h => Tryz.strconv_Atoi_ok ⟨s.toArray⟩ (by show s.toArray.size ≤ _; rw [List.size_toArray]; omega) v (by simpa using h) w) (fun tp p h hv => (Tryz.strconv_Atoi_syntax_var ⟨s.toArray⟩ (by show s.toArray.size ≤ _; rw [List.size_toArray]; omega) (by simpa using h) tp p w hv).mono fun e w1 ⟨N, h1, _, _, h2⟩ => ⟨N, h1, h2⟩) (fun tp p h hv => ?_)).mono fun v w1 h => h
  exact (Tryz.strconv_Atoi_range_var ⟨s.toArray⟩ (by show s.toArray.size ≤ _; rw [List.size_toArray]; omega) (by simpa using h) tp p w hv).mono fun e w1 ⟨N, h1, _, _, h2⟩ => ⟨N, by simpa using h1, h2⟩
theorem iDecimal (s : List UInt8) (w : World) (hs_n : s.length ≤ 1099511627776) (hGp : VarP Tryz.prog w [] "internal/strconv.uint64pow10" isPow) (hEr : VarP Tryz.prog w [] "strconv.ErrRange" isIfc) (hEs : VarP Tryz.prog w [] "strconv.ErrSyntax" isIfc) : Does Tryz.prog 138 [Str s] w (fun v w' => v = .tuple #[.int .i64 ((decI s).1), .bool ((decI s).2)] ∧ SH w w' [] []) := by
 refine fn_enter (N := 20) Tryz.func138 rfl (by kernel_rfl) rfl rfl rfl ?_
 have hs0 : SH w w [] [] := SH.refl w []
 refine sq (rg (qt rfl (asg (v := I 0) rfl) (qt rfl (asg (v := .bool false) rfl) (nl (nN (sq (rg ?_)))))))
 refine qt rfl (mv (v := Str s) rfl) (cl trivial rfl (stAtoi (s := s) (w := _) (hs_n := (by (first | omega | (simp; done) | (simp; omega)))) (hEr := (hEr.up0 hs0)) (hEs := (hEs.up0 hs0))) ?_)
 rintro _ w1 ⟨u1, v1, rfl, hs1'⟩
 have hs1 := hs0.call0 hs1'
 clear hs1'
 refine qt rfl (mv (v := .tuple #[I ((atoiR s).1), errV ((atoiR s).2) u1 v1]) rfl) (qt rfl (xt 0 (v := I ((atoiR s).1)) rfl rfl) (qt rfl (xt 1 (v := errV ((atoiR s).2) u1 v1) rfl rfl) (qt rfl (asg (v := I ((atoiR s).1)) rfl) (qt rfl (asg (v := errV ((atoiR s).2) u1 v1) rfl) (nl (nN (sq ?_)))))))
 refine rg (qt rfl (mv (v := I ((atoiR s).1)) rfl) (qt rfl (mv (v := errV ((atoiR s).2) u1 v1) rfl) (qt rfl (eqerr (e := (atoiR s).2) ifc164 rfl) (qt rfl (mv (v := .bool (!((atoiR s).2))) rfl) ?_))))
 refine spl (b := !((atoiR s).2)) 14 rfl (fun h1 => ?_) (fun h1 => ?_)
 · have h2 : ((atoiR s).2) = false := by simpa using h1
   refine q ⟨_, rfl, rfl⟩ rfl rfl (mv (v := I ((atoiR s).1)) rfl) (cl ⟨_, rfl, rfl⟩ rfl (stItoa (n := (atoiR s).1) (w := _) (hn := (by (have hab := atoiR_bd s; first | omega | assumption | (simp; done) | (simp; omega)))) (hGp := (hGp.up0 hs1))) ?_)
   rintro _ w2 ⟨rfl, hs2'⟩
   have hs2 := hs1.call0 hs2'
   clear hs2'
   refine q ⟨_, rfl, rfl⟩ rfl rfl (mv (v := Str s) rfl) (q ⟨_, rfl, rfl⟩ rfl rfl (eqs (l := Lib.itoa ((atoiR s).1)) (m := s) rfl rfl) (qt rfl (pt (v := .bool (decide (Lib.itoa ((atoiR s).1) = s))) rfl rfl) (qt rfl (asg (v := I ((atoiR s).1)) rfl) (qt rfl (asg (v := .bool (decide (Lib.itoa ((atoiR s).1) = s))) rfl) (nl (nN (rt ?_)))))))
   refine fret (v := .tuple #[I ((atoiR s).1), .bool (decide (Lib.itoa ((atoiR s).1) = s))]) (.tmp (.tmp .nil)) rfl ?_
   have e1 : (atoiR s).1 = (decI s).1 := by exact (decI_eq s).1.symm
   have e2 : (decide (Lib.itoa ((atoiR s).1) = s)) = (decI s).2 := by (rw [(decI_eq s).2]; simp [h2]; done)
   exact ⟨(tup2 (congrArg (Value.int .i64) e1) (congrArg (Value.bool) e2)), hs2⟩
 · have h3 : ((atoiR s).2) = true := by simpa using h1
   refine gk false rfl rfl rfl rfl rfl (gk false rfl rfl rfl rfl rfl (gk false rfl rfl rfl rfl rfl (gk false rfl rfl rfl rfl rfl (qt rfl (pf (v := .bool false) rfl rfl) (qt rfl (asg (v := I ((atoiR s).1)) rfl) (qt rfl (asg (v := .bool false) rfl) (nl ?_)))))))
   refine nN (rt (fret (v := .tuple #[I ((atoiR s).1), .bool false]) (.tmp (.tmp .nil)) rfl ?_))
   have e3 : (atoiR s).1 = (decI s).1 := by exact (decI_eq s).1.symm
   have e4 : false = (decI s).2 := by (rw [(decI_eq s).2]; simp [h3]; done)
   exact ⟨(tup2 (congrArg (Value.int .i64) e3) (congrArg (Value.bool) e4)), hs1⟩
theorem slCut (l : List UInt8) (c : UInt8) (w : World) (hl_n : l.length ≤ 1099511627776) : Does Tryz.prog 167 [Str l, Str [c]] w (fun v w' => v = .tuple #[Str (cutA l c), Str (cutZ l c), .bool (decide (0 ≤ idxB l c))] ∧ SH w w' [] []) := by
 refine fn_enter (N := 23) Tryz.func167 rfl (by kernel_rfl) rfl rfl rfl ?_
 have hs0 : SH w w [] [] := SH.refl w []
 refine sq (rg (qt rfl (asg (v := Str []) rfl) (qt rfl (asg (v := Str []) rfl) (qt rfl (asg (v := .bool false) rfl) (nl (nN (sq ?_)))))))
 refine sq (rg (qt rfl (mv (v := Str l) rfl) (qt rfl (mv (v := Str [c]) rfl) (cl trivial rfl (slIndexS (l := l) (c := c) (w := _)) ?_))))
 rintro _ w1 ⟨rfl, hs1'⟩
 have hs1 := hs0.call0 hs1'
 clear hs1'
 refine qt rfl (asg (v := I (idxB l c)) rfl) (nl (nN (sq (rg (qt rfl (mv (v := I (idxB l c)) rfl) (qt rfl (geq (k := .i64) (a := idxB l c) (b := 0) rfl rfl) (nl ?_)))))))
 refine nN ?_
 refine cdd (p := (0 : Int) ≤ (idxB l c)) rfl (fun h1 => ?_) (fun h1 => ?_)
 · refine sq (rq (fun w' => SH w w' [] []) mixed (by kernel_rfl) hs1.drew (qq trivial rfl rfl (fun wq hsq => mv (v := Str l) rfl) (qq trivial rfl rfl (fun wq hsq => mv (v := I (idxB l c)) rfl) (qq trivial rfl rfl (fun wq hsq => cuhs (l := l) ((idxB l c).toNat) st9 rfl (ieq (x := idxB l c) (by (omega))) (by (have hib := idxB_lt l c; have e1_ : [c].length = 1 := rfl; first | omega | (simp; done) | (simp; omega)))) (qq trivial rfl rfl (fun wq hsq => mv (v := Str l) rfl) (qq trivial rfl rfl (fun wq hsq => mv (v := I (idxB l c)) rfl) (qq trivial rfl rfl (fun wq hsq => mv (v := Str [c]) rfl) ?_)))))))
   refine qq trivial rfl rfl (fun wq hsq => lnS (l := [c]) st9 rfl) (qq trivial rfl rfl (fun wq hsq => add (a := idxB l c) (b := (([c].length : Nat) : Int)) rfl rfl (by (have hib := idxB_lt l c; have e1_ : [c].length = 1 := rfl; exact ⟨by omega, by omega⟩))) (qq trivial rfl rfl (fun wq hsq => culs (l := l) (((idxB l c) + (([c].length : Nat) : Int)).toNat) st9 rfl (ieq (x := (idxB l c) + (([c].length : Nat) : Int)) (by (omega))) (by (have hib := idxB_lt l c; have e1_ : [c].length = 1 := rfl; first | omega | (simp; done) | (simp; omega)))) (qq trivial rfl rfl (fun wq hsq => asg (v := Str (l.take ((idxB l c).toNat))) rfl) (qq trivial rfl rfl (fun wq hsq => asg (v := Str (l.drop (((idxB l c) + (([c].length : Nat) : Int)).toNat))) rfl) (qq trivial rfl rfl (fun wq hsq => asg (v := .bool true) rfl) (qn (fun w2 hs2 => ?_)))))))
   refine nN (rt (tR ?_))
   refine fret (v := .tuple #[Str (l.take ((idxB l c).toNat)), Str (l.drop (((idxB l c) + (([c].length : Nat) : Int)).toNat)), .bool true]) (.tmp (.tmp (.tmp .nil))) rfl ?_
   have e1 : l.take ((idxB l c).toNat) = cutA l c := by (simp [cutA, cutZ, h1]; done)
   have e2 : l.drop (((idxB l c) + (([c].length : Nat) : Int)).toNat) = cutZ l c := by (have e1 : [c].length = 1 := rfl; simp only [cutZ, if_pos (by assumption : 0 ≤ idxB l c)]; congr 1; simp only [List.length_cons, List.length_nil]; omega)
   have e3 : true = (decide (0 ≤ idxB l c)) := by (simp [cutA, cutZ, h1]; done)
   exact ⟨(tup3 (congrArg (Str) e1) (congrArg (Str) e2) (congrArg (Value.bool) e3)), hs2⟩
 · refine sk (nN (sq (rg (qt rfl (mv (v := Str l) rfl) (qt rfl (asg (v := Str l) rfl) (qt rfl (asg (v := Str []) rfl) (qt rfl (asg (v := .bool false) rfl) ?_)))))))
   refine nl (nN (rt (fret (v := .tuple #[Str l, Str [], .bool false]) (.tmp (.tmp (.tmp .nil))) rfl ?_)))
   have e4 : l = cutA l c := by (simp [cutA, cutZ, h1]; done)
   have e5 : [] = cutZ l c := by (simp [cutA, cutZ, h1]; done)
   have e6 : false = (decide (0 ≤ idxB l c)) := by (simp [cutA, cutZ, h1]; done)
   exact ⟨(tup3 (congrArg (Str) e4) (congrArg (Str) e5) (congrArg (Value.bool) e6)), hs1⟩
theorem stCut (l : List UInt8) (c : UInt8) (w : World) (hl_n : l.length ≤ 1099511627776) : Does Tryz.prog 137 [Str l, Str [c]] w (fun v w' => v = .tuple #[Str (cutA l c), Str (cutZ l c), .bool (decide (0 ≤ idxB l c))] ∧ SH w w' [] []) := by
 refine fn_enter (N := 13) Tryz.func137 rfl (by kernel_rfl) rfl rfl rfl ?_
 have hs0 : SH w w [] [] := SH.refl w []
 refine sq (rg (qt rfl (asg (v := Str []) rfl) (qt rfl (asg (v := Str []) rfl) (qt rfl (asg (v := .bool false) rfl) (nl (nN (sq ?_)))))))
 refine rg (qt rfl (mv (v := Str l) rfl) (qt rfl (mv (v := Str [c]) rfl) (cl trivial rfl (slCut (l := l) (c := c) (w := _) (hl_n := (by omega))) ?_)))
 rintro _ w1 ⟨rfl, hs1'⟩
 have hs1 := hs0.call0 hs1'
 clear hs1'
 refine qt rfl (xt 0 (v := Str (cutA l c)) rfl rfl) (qt rfl (xt 1 (v := Str (cutZ l c)) rfl rfl) (qt rfl (xt 2 (v := .bool (decide (0 ≤ idxB l c))) rfl rfl) (qt rfl (asg (v := Str (cutA l c)) rfl) (qt rfl (asg (v := Str (cutZ l c)) rfl) (qt rfl (asg (v := .bool (decide (0 ≤ idxB l c))) rfl) (nl (nN ?_)))))))
 refine rt (fret (v := .tuple #[Str (cutA l c), Str (cutZ l c), .bool (decide (0 ≤ idxB l c))]) (.tmp (.tmp (.tmp .nil))) rfl ?_)
 exact ⟨rfl, hs1⟩
theorem iQuadFrom (s : List UInt8) (w : World) (hs_n : s.length ≤ 1099511627776) (hGp : VarP Tryz.prog w [] "internal/strconv.uint64pow10" isPow) (hEr : VarP Tryz.prog w [] "strconv.ErrRange" isIfc) (hEs : VarP Tryz.prog w [] "strconv.ErrSyntax" isIfc) : Does Tryz.prog 139 [Str s] w (fun v w' => ∃ Ar : Option Addr, ∃ cr : Nat, v = .tuple #[.slice Ar ((quadFrom s).1).length cr, .bool ((quadFrom s).2)] ∧ SH w w' [] [.own Ar (((quadFrom s).1).length) cr 3 1 (((quadFrom s).1).map I)]) := by
 refine fn_enter (N := 32) Tryz.func139 rfl (by kernel_rfl) rfl rfl rfl ?_
 have hs0 : SH w w [] [] := SH.refl w []
 refine sq (rg (qt rfl (asg (v := ns) rfl) (qt rfl (asg (v := .bool false) rfl) (nl (nN (sq (rg ?_)))))))
 refine qt rfl (asg (v := ns) rfl) (nl (nN (sq (sq (rg (qt rfl (mv (v := Str s) rfl) (cl trivial rfl (stSplit (l := s) (c := 46) (w := _) (hl_n := (by (first | omega | (simp; done) | (simp; omega))))) ?_)))))))
 rintro _ w1 ⟨A1, c1, rfl, hs1'⟩
 have hs1 := hs0.call0 hs1'
 clear hs1'
 refine qt rfl (lnA (n := (splitB 46 s).length) sl147 rfl) (qt rfl (mv (v := I 0) rfl) (nl (nN (bl ?_))))
 have hs2 : SH w w1 [] [.own A1 ((splitB 46 s).length) c1 9 1 ((splitB 46 s).map Str), .own none (([] : List Int).length) 0 3 1 (([] : List Int).map I)] := SH.nils (by intro i hi; simp at hi; subst hi; exact nilItem) hs1
 refine lp (σ := (Option Addr) × Nat × Nat × (List Int)) (fun ⟨Ag4, cg4, k, zs⟩ f w' => Has f [(4, .slice Ag4 zs.length cg4), (10, .slice A1 ((splitB 46 s).length) c1), (11, I (((splitB 46 s).length : Nat) : Int)), (12, I ((k : Nat) : Int))] ∧ (k ≤ (splitB 46 s).length) ∧ ((splitB 46 s).take k = zs.map Lib.itoa) ∧ SH w w' [] [.own A1 ((splitB 46 s).length) c1 9 1 ((splitB 46 s).map Str), .own Ag4 zs.length cg4 3 1 (zs.map I)]) (fun ⟨Ag4, cg4, k, zs⟩ => (splitB 46 s).length - k) (none, 0, 0, ([] : List Int)) ⟨⟨rfl, rfl, rfl, rfl, trivial⟩, (by simp), (by simp), hs2⟩ ?_
 rintro ⟨Ag4, cg4, k, zs⟩ f w2 ⟨hf, hk, hz, hs3⟩
 obtain ⟨g1, rfl⟩ := has_upd hf
 clear hf
 refine sq (rg (qt rfl (lss (k := .i64) (a := ((k : Nat) : Int)) (b := (((splitB 46 s).length : Nat) : Int)) rfl rfl) (nl (nN (sq ?_)))))
 refine cdd (p := ((k : Nat) : Int) < (((splitB 46 s).length : Nat) : Int)) rfl (fun h1 => ?_) (fun h1 => ?_)
 · refine sk (nN (sq (bl (sq (rg (ixw1 k sl147 rfl rfl (hs3.sl0 0 rfl) (by (first | omega | (simp; done) | (simp; omega))) (getm Str [] (by (first | omega | (simp; done) | (simp; omega)))) trivial rfl (fun a1 ha1 => ?_)))))))
   refine qt rfl (lda (v := Str ((splitB 46 s).getD k [])) (SH.refl w2 []) ha1 (fun _ h => h) rfl rfl one9) (qt rfl (asg (v := Str ((splitB 46 s).getD k [])) rfl) (nl (nN (sq (rg (qt rfl (mv (v := Str ((splitB 46 s).getD k [])) rfl) (cl trivial rfl (iDecimal (s := (splitB 46 s).getD k []) (w := _) (hs_n := (by (have hsl := splitB_len 46 s; have hsb := splitB_getD 46 s k; have hcl := List.count_le_length (a := (46 : UInt8)) (l := s); have hzl := congrArg List.length hz; rw [List.length_take, List.length_map] at hzl; first | omega | (simp; done) | (simp; omega)))) (hGp := (hGp.up0 hs3)) (hEr := (hEr.up0 hs3)) (hEs := (hEs.up0 hs3))) ?_)))))))
   rintro _ w3 ⟨rfl, hs4'⟩
   have hs4 := hs3.call0 hs4'
   clear hs4'
   refine qt rfl (mv (v := .tuple #[I ((decI ((splitB 46 s).getD k [])).1), .bool ((decI ((splitB 46 s).getD k [])).2)]) rfl) (qt rfl (xt 0 (v := I ((decI ((splitB 46 s).getD k [])).1)) rfl rfl) (qt rfl (xt 1 (v := .bool ((decI ((splitB 46 s).getD k [])).2)) rfl rfl) (qt rfl (asg (v := I ((decI ((splitB 46 s).getD k [])).1)) rfl) (qt rfl (asg (v := .bool ((decI ((splitB 46 s).getD k [])).2)) rfl) (nl (nN (sq ?_)))))))
   refine sq (rg (qt rfl (mv (v := .bool ((decI ((splitB 46 s).getD k [])).2)) rfl) (qt rfl (nt (b := (decI ((splitB 46 s).getD k [])).2) rfl) (nl (nN ?_)))))
   refine cd (b := !((decI ((splitB 46 s).getD k [])).2)) rfl (fun h2 => ?_) (fun h2 => ?_)
   · have h3 : ((decI ((splitB 46 s).getD k [])).2) = false := by simpa using h2
     refine sq (rg (qt rfl (asg (v := ns) rfl) (qt rfl (asg (v := .bool false) rfl) (nl (nN ?_)))))
     refine rt (tR (bR (tR (tR (bR (tR ?_))))))
     refine fret (v := .tuple #[ns, .bool false]) (.tmp (.tmp .nil)) rfl ?_
     have hs5 : SH w w3 [] [.own A1 ((splitB 46 s).length) c1 9 1 ((splitB 46 s).map Str), .own Ag4 zs.length cg4 3 1 (zs.map I), .own none (([] : List Int).length) 0 3 1 (([] : List Int).map I)] := SH.nils (by intro i hi; simp at hi; subst hi; exact nilItem) hs4
     have e1 : quadFrom s = (([] : List Int), false) := by exact quad_dec_no (k := k) (by omega) (by assumption)
     have e2 : ([] : List Int) = (quadFrom s).1 := by rw [e1]
     have e3 : ([] : List Int).length = ((quadFrom s).1).length := by exact congrArg List.length e2
     have e4 : false = (quadFrom s).2 := by rw [e1]
     exact ⟨none, 0, (tup2 (slv rfl e3 rfl) (congrArg (Value.bool) e4)), ((hs5.pick [2] rfl (by decide)).cast (lc (own_eq (g := I) rfl e3 rfl e2) rfl))⟩
   · have h4 : ((decI ((splitB 46 s).getD k [])).2) = true := by simpa using h2
     refine sk (nN (rg (qt rfl (mv (v := .slice Ag4 zs.length cg4) rfl) (qt rfl (mv (v := I ((decI ((splitB 46 s).getD k [])).1)) rfl) (bsk hs4 sl22 [I ((decI ((splitB 46 s).getD k [])).1)] [I ((decI ((splitB 46 s).getD k [])).1)] trivial rfl (fun b1 w4 (hs6 : SH w w4 [] [.own A1 ((splitB 46 s).length) c1 9 1 ((splitB 46 s).map Str), .own Ag4 zs.length cg4 3 1 (zs.map I), oI b1 ([(decI ((splitB 46 s).getD k [])).1] : List Int) 1 3]) => ?_))))))
     refine apm (g := I) (ys := zs) (zs := ([(decI ((splitB 46 s).getD k [])).1] : List Int)) hs6 1 rfl sl22 rfl rfl rfl (hs6.sl0 2 rfl) (fun _ => rfl) (by unfold maxLen; (have hsl := splitB_len 46 s; have hsb := splitB_getD 46 s k; have hcl := List.count_le_length (a := (46 : UInt8)) (l := s); have hzl := congrArg List.length hz; rw [List.length_take, List.length_map] at hzl; first | omega | (simp; done) | (simp; omega))) (by (have hsl := splitB_len 46 s; have hsb := splitB_getD 46 s k; have hcl := List.count_le_length (a := (46 : UInt8)) (l := s); have hzl := congrArg List.length hz; rw [List.length_take, List.length_map] at hzl; first | omega | (simp; done) | (simp; omega))) trivial rfl (fun A2 c2 w5 (hs7 : SH w w5 [] [.own A1 ((splitB 46 s).length) c1 9 1 ((splitB 46 s).map Str), oI b1 ([(decI ((splitB 46 s).getD k [])).1] : List Int) 1 3, .own A2 ((zs ++ ([(decI ((splitB 46 s).getD k [])).1] : List Int)).length) c2 3 1 ((zs ++ ([(decI ((splitB 46 s).getD k [])).1] : List Int)).map I)]) => ?_)
     refine qt rfl (asg (v := .slice A2 ((zs ++ ([(decI ((splitB 46 s).getD k [])).1] : List Int)).length) c2) rfl) (nl (bN (nN (rg (qt rfl (add (a := ((k : Nat) : Int)) (b := 1) rfl rfl (by (have hsl := splitB_len 46 s; have hsb := splitB_getD 46 s k; have hcl := List.count_le_length (a := (46 : UInt8)) (l := s); have hzl := congrArg List.length hz; rw [List.length_take, List.length_map] at hzl; exact ⟨by omega, by omega⟩))) (qt rfl (mv (v := I (((k : Nat) : Int) + 1)) rfl) (nl ?_)))))))
     refine nN ?_
     refine ⟨(A2, c2, k + 1, (zs ++ ([(decI ((splitB 46 s).getD k [])).1] : List Int))), ⟨⟨rfl, rfl, rfl, rfl, trivial⟩, (by omega), (dec_step (by omega) hz (by assumption)), (hs7.pick [0, 2] rfl (by decide))⟩, ?_⟩
     show (splitB 46 s).length - (k + 1) < (splitB 46 s).length - k
     omega
 · refine ex (tE (tE (bE ?_)))
   refine nN (sq (sq (rg (qt rfl (mv (v := .slice Ag4 zs.length cg4) rfl) (cl trivial rfl (iQuadValid (Aqs := Ag4) (cqs := cg4) (qs := zs) (w := _) (hqs := (hs3.sl0 1 rfl))) ?_)))))
   rintro _ w6 ⟨rfl, hs8'⟩
   have hs8 := hs3.call0 hs8'
   clear hs8'
   refine qt rfl (nt (b := quadOk zs) rfl) (nl (nN ?_))
   refine cd (b := !(quadOk zs)) rfl (fun h5 => ?_) (fun h5 => ?_)
   · have h6 : (quadOk zs) = false := by simpa using h5
     refine sq (rg (qt rfl (asg (v := ns) rfl) (qt rfl (asg (v := .bool false) rfl) (nl (nN (rt (tR ?_)))))))
     refine fret (v := .tuple #[ns, .bool false]) (.tmp (.tmp .nil)) rfl ?_
     have hs9 : SH w w6 [] [.own A1 ((splitB 46 s).length) c1 9 1 ((splitB 46 s).map Str), .own Ag4 zs.length cg4 3 1 (zs.map I), .own none (([] : List Int).length) 0 3 1 (([] : List Int).map I)] := SH.nils (by intro i hi; simp at hi; subst hi; exact nilItem) hs8
     have e5 : quadFrom s = (([] : List Int), false) := by (rw [List.take_of_length_le (by omega)] at hz; first | exact quad_val_no hz (by assumption) | exact quad_parts hz (by assumption))
     have e6 : ([] : List Int) = (quadFrom s).1 := by rw [e5]
     have e7 : ([] : List Int).length = ((quadFrom s).1).length := by exact congrArg List.length e6
     have e8 : false = (quadFrom s).2 := by rw [e5]
     exact ⟨none, 0, (tup2 (slv rfl e7 rfl) (congrArg (Value.bool) e8)), ((hs9.pick [2] rfl (by decide)).cast (lc (own_eq (g := I) rfl e7 rfl e6) rfl))⟩
   · have h7 : (quadOk zs) = true := by simpa using h5
     refine sk (nN (sq (rg (qt rfl (mv (v := .slice Ag4 zs.length cg4) rfl) (qt rfl (asg (v := .slice Ag4 zs.length cg4) rfl) (qt rfl (asg (v := .bool true) rfl) (nl ?_)))))))
     refine nN (rt (fret (v := .tuple #[.slice Ag4 zs.length cg4, .bool true]) (.tmp (.tmp .nil)) rfl ?_))
     have e9 : quadFrom s = (zs, true) := by (rw [List.take_of_length_le (by omega)] at hz; first | exact quad_val_no hz (by assumption) | exact quad_parts hz (by assumption))
     have e10 : zs = (quadFrom s).1 := by rw [e9]
     have e11 : zs.length = ((quadFrom s).1).length := by exact congrArg List.length e10
     have e12 : true = (quadFrom s).2 := by rw [e9]
     exact ⟨Ag4, cg4, (tup2 (slv rfl e11 rfl) (congrArg (Value.bool) e12)), ((hs8.pick [1] rfl (by decide)).cast (lc (own_eq (g := I) rfl e11 rfl e10) rfl))⟩

end Go.Proofs.YtjehmnojfpedjaaGreatDoor
