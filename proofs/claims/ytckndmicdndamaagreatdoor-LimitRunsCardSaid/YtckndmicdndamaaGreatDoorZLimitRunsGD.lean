/- GD, for the statement LimitRuns: what it needs, no more. -/
import Derived.Test.YtckndmicdndamaaGreatDoorZLimitRunsGC
set_option linter.unusedVariables false
set_option maxRecDepth 8000
set_option maxHeartbeats 4000000
namespace Go.RM.Tryz
open Go.RM Go.Proofs
def slices_IndexFunc_uint64.b1 (a0:List Int) (a1:Int→Bool→Prop):Int→Rnd Int Unit Int→Prop:=fun x1 z1=>if x1 < (a0.length:Int) then (((InR x1 a0.length))∧∃ t15_5:Bool,(a1 (rdl a0 x1) t15_5)∧if t15_5=true then (z1=.ret x1) else (z1=.next (IntKind.i64.wrap (x1 + 1)))) else (z1=.exit ())
def slices_IndexFunc_uint64.f (a0:List Int) (a1:Int→Bool→Prop) (r:Int):Prop :=
 ∃ o1:Fin Unit Int,Loop (slices_IndexFunc_uint64.b1 a0 a1) 0 o1∧o1.on (fun _=>r=(-1)) (fun r_=>r=r_)
abbrev GD_c0:List PV:=[i6 0,i6 0,i6 0,nul,bo false,i6 0,u6 0,nul,nul,nul]
theorem slices_IndexFunc_uint64.D {a0:List Int} {a1:Int→Bool→Prop} {r:Int} {c1_:FuncId} {k1_:List PV} (hg1_:isGo Tryz.prog c1_=true) (hk1_:PV.free deep (.clo c1_ k1_)=true) (hka1_:k1_.all (PV.free deep)=true) (hq1_:∀ x0_ y_,a1 x0_ y_→D Tryz.prog X (.callH c1_ ([.val (.int .u64 x0_)] ++ k1_) [] (.val (.bool y_)) [])) (h:slices_IndexFunc_uint64.f a0 a1 r):D Tryz.prog X (.callH 189 [.rows (a0.map (cInt .u64)),.clo c1_ k1_] [] (.val (.int .i64 r)) []):=by
 unfold slices_IndexFunc_uint64.f at h
 refine .enter 19 0 fn189 q q q<|.seq<|.reg0 q (.o (asV q)<|.nil0)<|.seq<|.seq<|.reg0 q (.o (mvR q)<|.o (lnR (l:=a0) sl47 q)<|.o (mvV q)<|.nil0)<|.block<|.keepL [] [(0,.rows (a0.map (cInt .u64))),(1,.clo c1_ k1_),(7,i6 (a0.length:Int)),(8,i6 0)] [] (by decide) (by decide) ⟨.free q q,.free q hk1_,.free q q,.free q q,trivial⟩ trivial ?_
 obtain ⟨o1,hL1,h⟩:=h
 refine .loopB (slices_IndexFunc_uint64.b1 a0 a1) (fun x1=>listEnv [(0,.rows (a0.map (cInt .u64))),(1,.clo c1_ k1_),(7,i6 (a0.length:Int)),(8,i6 x1)]) (fun x1=>[]) (fun _=>listEnv []) (fun _=>[]) hL1 (fun r_=>r=r_) ?_ ?_ ?_
 ·rintro ⟨⟩ rfl
  try dsimp only [Fin.on] at h
  refine .seq<|.reg0 q (.o (asV q)<|.nil0) ?_
  replace h:=h.symm
  subst h
  refine .kf [(4,i6 (-1))] q q ?_
  exact .ret q
 ·rintro r_ rfl
  exact h
 ·rintro x1 z1 h hn1 hx1 hr1
  dsimp only [slices_IndexFunc_uint64.b1] at h
  refine .seq<|.reg0 q (.o (ltI q q)<|.nil0)<|.seq ?_
  by_cases c5:x1 < (a0.length:Int)
  ·rw [if_pos c5] at h
   refine .condT q (dt c5)<|.skip<|.seq<|.block<|.seq<|.reg0 q (.o (mvV q)<|.o (asV q)<|.nil0)<|.seq ?_
   obtain ⟨g15_3,h⟩:=h
   obtain ⟨t15_5,g15_5,h⟩:=h
   refine .reg0 q (.o (mvF q)<|.o (mvR q)<|.m q<|.o (ixR (l:=a0) (lit:=(cInt .u64)) sl47 q q (fun _=>q) g15_3.1 g15_3.2)<|.o (ldC q sz46 ag46 q)<|.callI q (callee_of q hg1_ q) (.pure (allCons q hka1_) q (hq1_ _ _ g15_5))<|.nil0) ?_
   by_cases c6:t15_5=true
   ·rw [if_pos c6] at h
    refine .condT q c6<|.seq<|.reg0 q (.o (mvV q)<|.o (asV q)<|.nil0) ?_
    have q3:=hr1 _ h
    replace q3:=q3.symm
    subst q3
    refine .kf [(4,i6 x1)] q q ?_
    exact .ret q
   ·rw [if_neg c6] at h
    refine .condF q (nb c6)<|.skip<|.inBlock<|.reg0 q (.o (addI q q)<|.o (mvV q)<|.nil0)<|.k [(0,.rows (a0.map (cInt .u64))),(1,.clo c1_ k1_),(7,i6 (a0.length:Int)),(8,i6 (IntKind.i64.wrap (x1 + 1)))] ⟨.free q q,.free q hk1_,.free q q,.free q q,trivial⟩ ?_
    exact hn1 _ h
  ·rw [if_neg c5] at h
   refine .condF q (df c5)<|.exit q<|.keepL [] [] [] (by decide) (by decide) trivial trivial ?_
   exact hx1 _ h
def slices_ContainsFunc_uint64.f (a0:List Int) (a1:Int→Bool→Prop) (r:Bool):Prop :=
 ∃ t2_2:Int,(slices_IndexFunc_uint64.f a0 a1 t2_2)∧r=(decide (t2_2 ≥ 0))
theorem slices_ContainsFunc_uint64.D {a0:List Int} {a1:Int→Bool→Prop} {r:Bool} {c1_:FuncId} {k1_:List PV} (hg1_:isGo Tryz.prog c1_=true) (hk1_:PV.free deep (.clo c1_ k1_)=true) (hka1_:k1_.all (PV.free deep)=true) (hq1_:∀ x0_ y_,a1 x0_ y_→D Tryz.prog X (.callH c1_ ([.val (.int .u64 x0_)] ++ k1_) [] (.val (.bool y_)) [])) (h:slices_ContainsFunc_uint64.f a0 a1 r):D Tryz.prog X (.callH 180 [.rows (a0.map (cInt .u64)),.clo c1_ k1_] [] (.val (.bool r)) []):=by
 unfold slices_ContainsFunc_uint64.f at h
 refine .enter 9 0 fn180 q q q<|.seq<|.reg0 q (.o (asV q)<|.nil0)<|.seq ?_
 obtain ⟨t2_2,g2_2,h⟩:=h
 refine .reg0 q (.o (mvR q)<|.o (mvF q)<|.callI q (callee_of q go189 q) (.pure (allCons q (allCons hk1_ q)) q (slices_IndexFunc_uint64.D hg1_ hk1_ hka1_ hq1_ g2_2))<|.o (geI q q)<|.a q<|.nil0) ?_
 replace h:=h.symm
 subst h
 refine .kf [(4,bo (decide (t2_2 ≥ 0)))] q q ?_
 exact .ret q
def facts_shaped_1.f (a0:Int) (f0:Int) (r:Bool):Prop :=
 r=((bitOp .andNot .u64 a0 f0) != 0)
theorem facts_shaped_1.D {a0 f0 r} (h:facts_shaped_1.f a0 f0 r):D Tryz.prog X (.callH 181 [.val (.int .u64 a0),.cptr ((cInt .u64) f0) 0] [] (.val (.bool r)) []):=by
 unfold facts_shaped_1.f at h
 refine .enter 8 0 fn181 q q q<|.seq<|.reg0 q (.o (asV q)<|.nil0)<|.seq<|.reg0 q (.o (mvV q)<|.o (ldC q sz46 ag46 q)<|.o (andNotI q q)<|.o (neI q q)<|.o (asV q)<|.nil0) ?_
 replace h:=h.symm
 subst h
 refine .kf [(3,bo ((bitOp .andNot .u64 a0 f0) != 0))] q q ?_
 exact .ret q
def facts_shaped.f (a0:Int) (a1:TFacts) (r:Int):Prop :=
 ∃ t2_1:Int × Int,(bits_Full.f a0 t2_1)∧if t2_1.2=0 then (∃ t4_16:Bool,(((a1.Rows.length:Int)=a0)→((bitOp .andNot .u64 a1.Gen t2_1.1)=0)→slices_ContainsFunc_uint64.f a1.Rows (fun x0_ y_=>facts_shaped_1.f x0_ t2_1.1 y_) t4_16)∧if ((!((a1.Rows.length:Int) == a0)) || ((!((bitOp .andNot .u64 a1.Gen t2_1.1) == 0)) || t4_16))=true then (r=30) else (r=0)) else (r=31)
theorem facts_shaped.D {a0 a1 r} (h:facts_shaped.f a0 a1 r):D Tryz.prog X (.callH 172 [.val (.int .i64 a0),.agg (TFacts.lit a1)] [] (.val (.int .i64 r)) []):=by
 unfold facts_shaped.f at h
 refine .enter 32 0 fn172 q q q<|.seq<|.room 0<|.reg0 q (.o (bxP (s:=2) (cs:=(TFacts.lit a1)) q ⟨q,by decide,q⟩ q)<|.o (asV q)<|.nil0)<|.seq ?_
 obtain ⟨t2_1,g2_1,h⟩:=h
 refine .room 0<|.reg0 q (.o (mvV q)<|.callI q (callee_of q go168 q) (.pure q q (bits_Full.D g2_1))<|.o (mvT q)<|.o (exT q q)<|.o (exT q q)<|.op 1 q (alP (s:=1) ze46 ⟨q,by decide,q⟩ q)<|.o (stB (cs0:=[u6 0]) (cs:=[u6 t2_1.1]) (cs1:=[u6 t2_1.1]) q q sz46 q ⟨Nat.le_of_ble_eq_true q,q⟩ q)<|.o (asV q)<|.nil0) ?_
 refine .seq<|.seq<|.reg0 q (.o (mvV q)<|.o (neI q q)<|.nil0) ?_
 by_cases c1:t2_1.2=0
 ·rw [if_pos c1] at h
  refine .condF q (nf c1)<|.skip<|.seq<|.seq ?_
  obtain ⟨t4_16,g4_16,h⟩:=h
  refine .reg0 (e1:=listEnv [(31,bo ((!((a1.Rows.length:Int) == a0)) || ((!((bitOp .andNot .u64 a1.Gen t2_1.1) == 0)) || t4_16)))]) (H1:=[⟨2,[(TFacts.lit a1)],0,none⟩,⟨1,[[u6 t2_1.1]],0,none⟩]) q ?_ ?_
  ·refine .o (faP fa49_1 q)<|.o (ldP q sz47 ag47 q)<|.o (lnR (l:=a1.Rows) sl47 q)<|.m q<|.o (neI q q)<|.m q<|?_
   by_cases c2:(a1.Rows.length:Int)=a0
   ·refine .g q (nf c2) (faP fa49_0 q)<|.g q (nf c2) (ldP q sz46 ag46 q)<|.g q (nf c2) (ldP q sz46 ag46 q)<|.g q (nf c2) (andNotI q q)<|.g q (nf c2) (neI q q)<|.o (pkFV q (nf c2) q)<|.m q<|?_
    by_cases c3:(bitOp .andNot .u64 a1.Gen t2_1.1)=0
    ·exact (.g q (nf c3) (faP fa49_1 q)<|.g q (nf c3) (ldP q sz47 ag47 q)<|.g q (nf c3) (mkF q)<|.callI (gT q q q (nf c3)) (callee_of q go180 q) (.lendC (args':=[.rows (a1.Rows.map (cInt .u64)),.clo 181 [.cptr [u6 t2_1.1] 0]])  [1] false (.cons (.free q q)<|.cons (cClo (.cons (cFixP q q (.cons (.free q q)<|.nil))<|.nil))<|.nil) (by decide) q q q q (slices_ContainsFunc_uint64.D (k1_:=[.cptr [u6 t2_1.1] 0]) go181 q q (fun x0_ y_ h_=>facts_shaped_1.D h_) (g4_16 c2 c3)))<|.o (pkFV q (nf c3) q)<|.nilL _ ⟨cB q (mOrF (bnotF (bt c2)) (mOrF (bnotF (bt c3)) q)),trivial⟩)
    ·exact (.n q (nt c3)<|.n q (nt c3)<|.n q (nt c3)<|.n q (nt c3)<|.o (pkTV q (nt c3) q)<|.nilL _ ⟨cB q (mOrF (bnotF (bt c2)) (mOrT (bnotT (bn c3)))),trivial⟩)
   ·exact (.n q (nt c2)<|.n q (nt c2)<|.n q (nt c2)<|.n q (nt c2)<|.n q (nt c2)<|.o (pkTV q (nt c2) q)<|.m q<|.n q q<|.n q q<|.n q q<|.n q q<|.o (pkTV q q q)<|.nilL _ ⟨cB q (mOrT (bnotT (bn c2))),trivial⟩)
  by_cases c4:((!((a1.Rows.length:Int) == a0)) || ((!((bitOp .andNot .u64 a1.Gen t2_1.1) == 0)) || t4_16))=true
  ·rw [if_pos c4] at h
   refine .condT q c4<|.seq<|.reg0 q (.o (asV q)<|.nil0) ?_
   replace h:=h.symm
   subst h
   refine .kf [(4,i6 30)] q q ?_
   exact .ret q
  ·rw [if_neg c4] at h
   refine .condF q (nb c4)<|.skip<|.seq<|.reg0 q (.o (asV q)<|.nil0) ?_
   replace h:=h.symm
   subst h
   refine .kf [(4,i6 0)] q q ?_
   exact .ret q
 ·rw [if_neg c1] at h
  refine .condT q (nt c1)<|.seq<|.reg0 q (.o (asV q)<|.nil0) ?_
  replace h:=h.symm
  subst h
  refine .kf [(4,i6 31)] q q ?_
  exact .ret q
def facts_canon.b1 (a0:TFacts):((List Int) × Int)→Rnd (((List Int) × Int)) ((List Int)) TFacts→Prop:=fun (x1,x2) z1=>if x2 < (a0.Rows.length:Int) then (((InR x2 a0.Rows.length))∧((InR x2 x1.length))∧z1=.next ((setl x1 x2 (bitOp .andNot .u64 (rdl a0.Rows x2) a0.Gen)),(IntKind.i64.wrap (x2 + 1)))) else (z1=.exit x1)
def facts_canon.f (a0:TFacts) (r:TFacts):Prop :=
 (((0:Int)≤(a0.Rows.length:Int)∧Fits (a0.Rows.length:Int) 8))∧∃ o1:Fin ((List Int)) TFacts,Loop (facts_canon.b1 a0) ((List.replicate (Int.toNat (a0.Rows.length:Int)) (0:Int)),0) o1∧o1.on (fun x3=>r=(TFacts.mk a0.Gen x3)) (fun r_=>r=r_)
theorem facts_canon.D {a0 r} (h:facts_canon.f a0 r):D Tryz.prog X (.callH 154 [.agg (TFacts.lit a0)] [] (.agg (TFacts.lit r)) []):=by
 unfold facts_canon.f at h
 refine .enter 31 0 fn154 q q q<|.seq<|.room 0<|.room 0<|.reg0 q (.o (bxP (s:=2) (cs:=(TFacts.lit a0)) q ⟨q,by decide,q⟩ q)<|.op 1 q (alP (s:=2) ze49 ⟨q,by decide,q⟩ q)<|.nil0)<|.seq ?_
 obtain ⟨g2_5,h⟩:=h
 refine .room 0<|.room 0 ?_
 refine .reg1 (e1:=listEnv [(1,.ptr 0 1 2 0 0),(2,.ptr 1 1 2 0 0),(3,.ptr 3 1 2 0 0)]) (H1:=[⟨2,[(TFacts.lit a0)],0,none⟩,⟨2,[[u6 0,nul]],0,none⟩,⟨1,(List.replicate (Int.toNat (a0.Rows.length:Int)) (0:Int)).map (cInt .u64),0,none⟩,⟨2,[[u6 a0.Gen,.own 2 ((List.replicate (Int.toNat (a0.Rows.length:Int)) (0:Int)).length)]],0,none⟩]) q ?_ ?_
 ·exact .drawM [(7,3,.ptr 3 1 2 0 0),(6,12,.agg [u6 a0.Gen,.own 2 ((List.replicate (Int.toNat (a0.Rows.length:Int)) (0:Int)).length)]),(5,11,.own 2 ((List.replicate (Int.toNat (a0.Rows.length:Int)) (0:Int)).length)),(4,10,i6 (a0.Rows.length:Int)),(3,9,.rows (a0.Rows.map (cInt .u64))),(2,8,.ptr 0 1 2 0 1),(1,7,u6 a0.Gen),(0,6,.ptr 0 1 2 0 0)] [(8,3,⟨2,[[u6 a0.Gen,.own 2 ((List.replicate (Int.toNat (a0.Rows.length:Int)) (0:Int)).length)]],0,none⟩),(7,3,⟨2,[[u6 0,nul]],0,none⟩),(5,2,⟨1,(List.replicate (Int.toNat (a0.Rows.length:Int)) (0:Int)).map (cInt .u64),0,none⟩)] [[],[0],[],[2],[3,2],[4,3,2],[1,0,5,4,3,2],[],[7,6,1,0,5,4,3,2]] (by rfl) (by rfl) (by rfl) (by exact ⟨oP (fun _=>faP fa49_0 q) q,oP (fun _=>ldP q sz46 ag46 q) q,oP (fun _=>faP fa49_1 q) q,oP (fun _=>ldP q sz47 ag47 q) q,oP (fun _=>lnR (l:=a0.Rows) sl47 q) q,oW 2 (fun _=>mkS (z0:=(0:Int)) sl47 un47 ze46 q q g2_5.1 g2_5.2 q) q fun _=>q,oP (fun _=>bldS (cs:=[u6 a0.Gen,.own 2 ((List.replicate (Int.toNat (a0.Rows.length:Int)) (0:Int)).length)]) ze49 pl49 q q) q,oW 3 (fun _=>alP (s:=2) ze49 ⟨q,by decide,q⟩ q) q fun _=>q,fun S hS hD hn=>.one0 0 q q (stB (cs0:=[u6 0,nul]) (cs:=[u6 a0.Gen,.own 2 ((List.replicate (Int.toNat (a0.Rows.length:Int)) (0:Int)).length)]) (cs1:=[u6 a0.Gen,.own 2 ((List.replicate (Int.toNat (a0.Rows.length:Int)) (0:Int)).length)]) q q sz49 q ⟨Nat.le_of_ble_eq_true q,q⟩ q) (drawE_other _ _ _ _ q) q,trivial⟩) _ (by exact ⟨.ptr q,.ptr q,.ptr q,trivial⟩) (by rfl)
 refine .seq<|.seq<|.reg0 q (.o (faP fa49_1 q)<|.o (ldP q sz47 ag47 q)<|.o (lnR (l:=a0.Rows) sl47 q)<|.o (mvV q)<|.nil0)<|.block<|.keepL [0,1,3,2] [(1,.ptr 0 1 2 0 0),(2,.ptr 1 1 2 0 0),(3,.ptr 2 1 2 0 0),(14,.rows (a0.Rows.map (cInt .u64))),(15,i6 (a0.Rows.length:Int)),(16,i6 0)] [⟨2,[(TFacts.lit a0)],0,none⟩,⟨2,[[u6 0,nul]],0,none⟩,⟨2,[[u6 a0.Gen,.own 3 ((List.replicate (Int.toNat (a0.Rows.length:Int)) (0:Int)).length)]],0,none⟩,⟨1,(List.replicate (Int.toNat (a0.Rows.length:Int)) (0:Int)).map (cInt .u64),0,none⟩] (by decide) (by decide) ⟨.ptr q,.ptr q,.ptr q,.free q q,.free q q,.free q q,trivial⟩ ⟨⟨_,q,bcBox (all2_free q)⟩,⟨_,q,bcBox (all2_free q)⟩,⟨_,q,bcBox (.cons (.free q q)<|.cons (.own q)<|.nil)⟩,⟨_,q,bcRow (l:=(List.replicate (Int.toNat (a0.Rows.length:Int)) (0:Int))) sl47 (Nat.le_refl _) q⟩,trivial⟩ ?_
 obtain ⟨o1,hL1,h⟩:=h
 refine .loopB (facts_canon.b1 a0) (fun (x1,x2)=>listEnv [(1,.ptr 0 1 2 0 0),(2,.ptr 1 1 2 0 0),(3,.ptr 2 1 2 0 0),(14,.rows (a0.Rows.map (cInt .u64))),(15,i6 (a0.Rows.length:Int)),(16,i6 x2)]) (fun (x1,x2)=>[⟨2,[(TFacts.lit a0)],0,none⟩,⟨2,[[u6 0,nul]],0,none⟩,⟨2,[[u6 a0.Gen,.own 3 x1.length]],0,none⟩,⟨1,x1.map (cInt .u64),0,none⟩]) (fun x3=>listEnv [(2,.ptr 0 1 2 0 0),(3,.ptr 1 1 2 0 0)]) (fun x3=>[⟨2,[[u6 0,nul]],0,none⟩,⟨2,[[u6 a0.Gen,.own 2 x3.length]],0,none⟩,⟨1,x3.map (cInt .u64),0,none⟩]) hL1 (fun r_=>r=r_) ?_ ?_ ?_
 ·rintro x3 rfl
  try dsimp only [Fin.on] at h
  refine .seq<|.reg0 q (.o (ldG q sz49 ag49 q)<|.o (stB (cs0:=[u6 0,nul]) (cs:=[u6 a0.Gen,.own 2 x3.length]) (cs1:=[u6 a0.Gen,.own 2 x3.length]) q q sz49 q ⟨Nat.le_of_ble_eq_true q,q⟩ q)<|.nil0) ?_
  replace h:=h.symm
  subst h
  refine .k [(2,.cptr [u6 a0.Gen,.rows (x3.map (cInt .u64))] 0)] ⟨cFixP q q (.cons (.free q q)<|.cons (cFixO (l:=x3) sl47 q q q q)<|.nil),trivial⟩ ?_
  exact .ret q
 ·rintro r_ rfl
  exact h
 ·rintro ⟨x1,x2⟩ z1 h hn1 hx1 hr1
  dsimp only [facts_canon.b1] at h
  refine .seq<|.reg0 q (.o (ltI q q)<|.nil0)<|.seq ?_
  by_cases c3:x2 < (a0.Rows.length:Int)
  ·rw [if_pos c3] at h
   refine .condT q (dt c3)<|.skip<|.seq<|.block<|.seq ?_
   obtain ⟨g13_1,h⟩:=h
   refine .reg0 q (.m q<|.o (ixR (l:=a0.Rows) (lit:=(cInt .u64)) sl47 q q (fun _=>q) g13_1.1 g13_1.2)<|.o (ldC q sz46 ag46 q)<|.a q<|.a q<|.nil0) ?_
   obtain ⟨g14_7,h⟩:=h
   refine .reg0 q (.o (faP fa49_1 q)<|.o (ldP q sz47 ag47 q)<|.m q<|.m q<|.o (faP fa49_0 q)<|.o (ldP q sz46 ag46 q)<|.o (andNotI q q)<|.o (ixO (l:=x1) sl47 q q q q g14_7.1 g14_7.2)<|.o (stO (l:=x1) (j:=x2) (cs:=[u6 (bitOp .andNot .u64 (rdl a0.Rows x2) a0.Gen)]) (bitOp .andNot .u64 (rdl a0.Rows x2) a0.Gen) sl47 q q sz46 q q g14_7.1 g14_7.2 (Nat.zero_le _) ⟨Nat.le_of_ble_eq_true q,q⟩ q)<|.nil0) ?_
   refine .inBlock<|.reg0 q (.o (addI q q)<|.o (mvV q)<|.nil0)<|.keepL [0,1,2,3] [(1,.ptr 0 1 2 0 0),(2,.ptr 1 1 2 0 0),(3,.ptr 2 1 2 0 0),(14,.rows (a0.Rows.map (cInt .u64))),(15,i6 (a0.Rows.length:Int)),(16,i6 (IntKind.i64.wrap (x2 + 1)))] [⟨2,[(TFacts.lit a0)],0,none⟩,⟨2,[[u6 0,nul]],0,none⟩,⟨2,[[u6 a0.Gen,.own 3 ((setl x1 x2 (bitOp .andNot .u64 (rdl a0.Rows x2) a0.Gen)).length)]],0,none⟩,⟨1,(setl x1 x2 (bitOp .andNot .u64 (rdl a0.Rows x2) a0.Gen)).map (cInt .u64),0,none⟩] (by decide) (by decide) ⟨.ptr q,.ptr q,.ptr q,.free q q,.free q q,.free q q,trivial⟩ ⟨⟨_,q,bcBox (all2_free q)⟩,⟨_,q,bcBox (all2_free q)⟩,⟨_,q,bcBox (.cons (.free q q)<|.cons (cOwnE q (by simp only [setl,List.length_set]))<|.nil)⟩,⟨_,q,bcRow (l:=(setl x1 x2 (bitOp .andNot .u64 (rdl a0.Rows x2) a0.Gen))) sl47 (Nat.le_refl _) q⟩,trivial⟩ ?_
   exact hn1 _ h
  ·rw [if_neg c3] at h
   refine .condF q (df c3)<|.exit q<|.keepL [1,2,3] [(2,.ptr 0 1 2 0 0),(3,.ptr 1 1 2 0 0)] [⟨2,[[u6 0,nul]],0,none⟩,⟨2,[[u6 a0.Gen,.own 2 x1.length]],0,none⟩,⟨1,x1.map (cInt .u64),0,none⟩] (by decide) (by decide) ⟨.ptr q,.ptr q,trivial⟩ ⟨⟨_,q,bcBox (all2_free q)⟩,⟨_,q,bcBox (.cons (.free q q)<|.cons (.own q)<|.nil)⟩,⟨_,q,bcRow (l:=x1) sl47 (Nat.le_refl _) q⟩,trivial⟩ ?_
   exact hx1 _ h
def slices_Equal_uint64.b1 (a0:List Int) (a1:List Int):Int→Rnd Int Unit Bool→Prop:=fun x1 z1=>if x1 < (a0.length:Int) then (((InR x1 a0.length))∧((InR x1 a1.length))∧if (rdl a0 x1)=(rdl a1 x1) then (z1=.next (IntKind.i64.wrap (x1 + 1))) else (z1=.ret false)) else (z1=.exit ())
def slices_Equal_uint64.f (a0:List Int) (a1:List Int) (r:Bool):Prop :=
 if (a0.length:Int)=(a1.length:Int) then (∃ o1:Fin Unit Bool,Loop (slices_Equal_uint64.b1 a0 a1) 0 o1∧o1.on (fun _=>r=true) (fun r_=>r=r_)) else (r=false)
theorem slices_Equal_uint64.D {a0 a1 r} (h:slices_Equal_uint64.f a0 a1 r):D Tryz.prog X (.callH 182 [.rows (a0.map (cInt .u64)),.rows (a1.map (cInt .u64))] [] (.val (.bool r)) []):=by
 unfold slices_Equal_uint64.f at h
 refine .enter 26 0 fn182 q q q<|.seq<|.reg0 q (.o (asV q)<|.nil0)<|.seq<|.seq<|.reg0 q (.o (mvR q)<|.o (lnR (l:=a0) sl47 q)<|.o (mvR q)<|.o (lnR (l:=a1) sl47 q)<|.o (neI q q)<|.nil0) ?_
 by_cases c1:(a0.length:Int)=(a1.length:Int)
 ·rw [if_pos c1] at h
  refine .condF q (nf c1)<|.skip<|.seq<|.seq<|.reg0 q (.o (mvR q)<|.o (lnR (l:=a0) sl47 q)<|.o (mvV q)<|.nil0)<|.block<|.keepL [] [(0,.rows (a0.map (cInt .u64))),(1,.rows (a1.map (cInt .u64))),(12,i6 (a0.length:Int)),(13,i6 0)] [] (by decide) (by decide) ⟨.free q q,.free q q,.free q q,.free q q,trivial⟩ trivial ?_
  obtain ⟨o1,hL1,h⟩:=h
  refine .loopB (slices_Equal_uint64.b1 a0 a1) (fun x1=>listEnv [(0,.rows (a0.map (cInt .u64))),(1,.rows (a1.map (cInt .u64))),(12,i6 (a0.length:Int)),(13,i6 x1)]) (fun x1=>[]) (fun _=>listEnv []) (fun _=>[]) hL1 (fun r_=>r=r_) ?_ ?_ ?_
  ·rintro ⟨⟩ rfl
   try dsimp only [Fin.on] at h
   refine .seq<|.reg0 q (.o (asV q)<|.nil0) ?_
   replace h:=h.symm
   subst h
   refine .kf [(4,bo true)] q q ?_
   exact .ret q
  ·rintro r_ rfl
   exact h
  ·rintro x1 z1 h hn1 hx1 hr1
   dsimp only [slices_Equal_uint64.b1] at h
   refine .seq<|.reg0 q (.o (ltI q q)<|.nil0)<|.seq ?_
   by_cases c6:x1 < (a0.length:Int)
   ·rw [if_pos c6] at h
    refine .condT q (dt c6)<|.skip<|.seq<|.block<|.seq<|.reg0 q (.o (mvV q)<|.o (asV q)<|.nil0)<|.seq ?_
    obtain ⟨g16_2,h⟩:=h
    obtain ⟨g16_6,h⟩:=h
    refine .reg1 (e1:=listEnv [(0,.rows (a0.map (cInt .u64))),(1,.rows (a1.map (cInt .u64))),(12,i6 (a0.length:Int)),(13,i6 x1),(24,bo ((rdl a0 x1) != (rdl a1 x1)))]) (H1:=[]) q ?_ ?_
    ·exact .drawM [(8,24,bo ((rdl a0 x1) != (rdl a1 x1))),(7,23,u6 (rdl a1 x1)),(6,22,.cptr ((cInt .u64) (rdl a1 x1)) 0),(5,21,i6 x1),(4,20,.rows (a1.map (cInt .u64))),(3,19,u6 (rdl a0 x1)),(2,18,.cptr ((cInt .u64) (rdl a0 x1)) 0),(1,17,i6 x1),(0,16,.rows (a0.map (cInt .u64)))] [] [[],[],[0,1],[2,0,1],[],[],[4,5],[6,4,5],[3,2,0,1,7,6,4,5]] (by rfl) (by rfl) (by rfl) (by exact ⟨oP (fun _=>mvR q) q,oP (fun _=>mvV q) q,oP (fun _=>ixR (l:=a0) (lit:=(cInt .u64)) sl47 q q (fun _=>q) g16_2.1 g16_2.2) q,oP (fun _=>ldC q sz46 ag46 q) q,oP (fun _=>mvR q) q,oP (fun _=>mvV q) q,oP (fun _=>ixR (l:=a1) (lit:=(cInt .u64)) sl47 q q (fun _=>q) g16_6.1 g16_6.2) q,oP (fun _=>ldC q sz46 ag46 q) q,oP (fun _=>neI q q) q,trivial⟩) _ (by exact ⟨.free q q,.free q q,.free q q,.free q q,.free q q,trivial⟩) (by rfl)
    by_cases c7:(rdl a0 x1)=(rdl a1 x1)
    ·rw [if_pos c7] at h
     refine .condF q (nf c7)<|.skip<|.inBlock<|.reg0 q (.o (addI q q)<|.o (mvV q)<|.nil0)<|.kf [(0,.rows (a0.map (cInt .u64))),(1,.rows (a1.map (cInt .u64))),(12,i6 (a0.length:Int)),(13,i6 (IntKind.i64.wrap (x1 + 1)))] q q ?_
     exact hn1 _ h
    ·rw [if_neg c7] at h
     refine .condT q (nt c7)<|.seq<|.reg0 q (.o (asV q)<|.nil0) ?_
     have q3:=hr1 _ h
     replace q3:=q3.symm
     subst q3
     refine .kf [(4,bo false)] q q ?_
     exact .ret q
   ·rw [if_neg c6] at h
    refine .condF q (df c6)<|.exit q<|.keepL [] [] [] (by decide) (by decide) trivial trivial ?_
    exact hx1 _ h
 ·rw [if_neg c1] at h
  refine .condT q (nt c1)<|.seq<|.reg0 q (.o (asV q)<|.nil0) ?_
  replace h:=h.symm
  subst h
  refine .kf [(4,bo false)] q q ?_
  exact .ret q
def facts_Same.f (a0:TFacts) (a1:TFacts) (r:Bool):Prop :=
 ∃ t2_10:Bool,((a0.Gen=a1.Gen)→slices_Equal_uint64.f a0.Rows a1.Rows t2_10)∧r=((a0.Gen == a1.Gen) && t2_10)
theorem facts_Same.D {a0 a1 r} (h:facts_Same.f a0 a1 r):D Tryz.prog X (.callH 173 [.agg (TFacts.lit a0),.agg (TFacts.lit a1)] [] (.val (.bool r)) []):=by
 unfold facts_Same.f at h
 refine .enter 17 0 fn173 q q q<|.seq<|.room 0<|.room 0<|.reg0 q (.o (bxP (s:=2) (cs:=(TFacts.lit a0)) q ⟨q,by decide,q⟩ q)<|.op 1 q (bxP (s:=2) (cs:=(TFacts.lit a1)) q ⟨q,by decide,q⟩ q)<|.o (asV q)<|.nil0)<|.seq ?_
 obtain ⟨t2_10,g2_10,h⟩:=h
 refine .reg0 (e1:=listEnv [(4,bo ((a0.Gen == a1.Gen) && t2_10))]) (H1:=[⟨2,[(TFacts.lit a0)],0,none⟩,⟨2,[(TFacts.lit a1)],0,none⟩]) q ?_ ?_
 ·refine .o (faP fa49_0 q)<|.o (ldP q sz46 ag46 q)<|.o (faP fa49_0 q)<|.o (ldP q sz46 ag46 q)<|.o (eqI q q)<|.m q<|?_
  by_cases c1:a0.Gen=a1.Gen
  ·exact (.g q (bt c1) (faP fa49_1 q)<|.g q (bt c1) (ldP q sz47 ag47 q)<|.g q (bt c1) (faP fa49_1 q)<|.g q (bt c1) (ldP q sz47 ag47 q)<|.callI (gT q q q (bt c1)) (callee_of q go182 q) (.pure q q (slices_Equal_uint64.D (g2_10 c1)))<|.o (pkTV q (bt c1) q)<|.a q<|.nilL _ ⟨cB q (mAndT (bt c1) q),trivial⟩)
  ·exact (.n q (bn c1)<|.n q (bn c1)<|.n q (bn c1)<|.n q (bn c1)<|.n q (bn c1)<|.o (pkFV q (bn c1) q)<|.a q<|.nilL _ ⟨cB q (mAndF (bn c1)),trivial⟩)
 replace h:=h.symm
 subst h
 refine .kf [(4,bo ((a0.Gen == a1.Gen) && t2_10))] q q ?_
 exact .ret q
def facts_Check.f (a0:Int) (a1:TFacts) (r:Int):Prop :=
 ∃ t2_2:Int,(facts_shaped.f a0 a1 t2_2)∧if t2_2=0 then (∃ t4_1:TFacts,(facts_canon.f a1 t4_1)∧∃ t4_3:Bool,(facts_Same.f t4_1 a1 t4_3)∧if t4_3=true then (r=0) else (r=30)) else (r=t2_2)
theorem facts_Check.D {a0 a1 r} (h:facts_Check.f a0 a1 r):D Tryz.prog X (.callH 150 [.val (.int .i64 a0),.agg (TFacts.lit a1)] [] (.val (.int .i64 r)) []):=by
 unfold facts_Check.f at h
 refine .enter 17 0 fn150 q q q<|.seq<|.room 0<|.reg0 q (.o (bxP (s:=2) (cs:=(TFacts.lit a1)) q ⟨q,by decide,q⟩ q)<|.o (asV q)<|.nil0)<|.seq<|.seq ?_
 obtain ⟨t2_2,g2_2,h⟩:=h
 refine .reg0 q (.m q<|.o (ldG q sz49 ag49 q)<|.c q go172 q q q (facts_shaped.D g2_2)<|.a q<|.nil0)<|.seq<|.reg0 q (.o (mvV q)<|.o (neI q q)<|.nil0) ?_
 by_cases c1:t2_2=0
 ·rw [if_pos c1] at h
  refine .condF q (nf c1)<|.skip<|.seq<|.seq ?_
  obtain ⟨t4_1,g4_1,h⟩:=h
  obtain ⟨t4_3,g4_3,h⟩:=h
  refine .reg1 (e1:=listEnv [(16,bo (!t4_3))]) (H1:=[⟨2,[(TFacts.lit a1)],0,none⟩]) q ?_ ?_
  ·exact .drawM [(4,16,bo (!t4_3)),(3,15,bo t4_3),(2,14,.agg (TFacts.lit a1)),(1,13,.agg (TFacts.lit t4_1)),(0,12,.agg (TFacts.lit a1))] [] [[],[0],[],[1,0,2],[3,1,0,2]] (by rfl) (by rfl) (by rfl) (by exact ⟨oP (fun _=>ldG q sz49 ag49 q) q,fun S hS hD hn=>.oneI hS hD hn q q (callee_of q go154 q) (.pure q q (facts_canon.D g4_1)) q q q,oP (fun _=>ldG q sz49 ag49 q) q,fun S hS hD hn=>.oneI hS hD hn q q (callee_of q go173 q) (.pure q q (facts_Same.D g4_3)) q q q,oP (fun _=>notB q) q,trivial⟩) _ (by exact ⟨.free q q,trivial⟩) (by rfl)
  by_cases c2:t4_3=true
  ·rw [if_pos c2] at h
   refine .condF q (bnotF c2)<|.skip<|.seq<|.reg0 q (.o (asV q)<|.nil0) ?_
   replace h:=h.symm
   subst h
   refine .kf [(4,i6 0)] q q ?_
   exact .ret q
  ·rw [if_neg c2] at h
   refine .condT q (bnotT (nb c2))<|.seq<|.reg0 q (.o (asV q)<|.nil0) ?_
   replace h:=h.symm
   subst h
   refine .kf [(4,i6 30)] q q ?_
   exact .ret q
 ·rw [if_neg c1] at h
  refine .condT q (nt c1)<|.seq<|.reg0 q (.o (mvV q)<|.o (asV q)<|.nil0) ?_
  replace h:=h.symm
  subst h
  refine .kf [(4,i6 t2_2)] q q ?_
  exact .ret q
def cells_dims.f (a0:Int) (r:Int):Prop :=
 if ((decide (a0 < 0)) || (decide (a0 > 64)))=true then (r=41) else (r=0)
theorem cells_dims.D {a0 r} (h:cells_dims.f a0 r):D Tryz.prog X (.callH 169 [.val (.int .i64 a0)] [] (.val (.int .i64 r)) []):=by
 unfold cells_dims.f at h
 refine .enter 9 0 fn169 q q q<|.seq<|.reg0 q (.o (asV q)<|.nil0)<|.seq<|.seq ?_
 refine .reg0 (e1:=listEnv [(8,bo ((decide (a0 < 0)) || (decide (a0 > 64))))]) (H1:=[]) q ?_ ?_
 ·refine .m q<|.o (ltI q q)<|.m q<|?_
  by_cases c1:a0 < 0
  ·exact (.n q (dt c1)<|.n q (dt c1)<|.o (pkTV q (dt c1) q)<|.nilL _ ⟨cB q (mOrT (dt c1)),trivial⟩)
  ·exact (.g q (df c1) (mvV q)<|.g q (df c1) (gtI q q)<|.o (pkFV q (df c1) q)<|.nilL _ ⟨cB q (mOrF (df c1) q),trivial⟩)
 by_cases c2:((decide (a0 < 0)) || (decide (a0 > 64)))=true
 ·rw [if_pos c2] at h
  refine .condT q c2<|.seq<|.reg0 q (.o (asV q)<|.nil0) ?_
  replace h:=h.symm
  subst h
  refine .kf [(2,i6 41)] q q ?_
  exact .ret q
 ·rw [if_neg c2] at h
  refine .condF q (nb c2)<|.skip<|.seq<|.reg0 q (.o (asV q)<|.nil0) ?_
  replace h:=h.symm
  subst h
  refine .kf [(2,i6 0)] q q ?_
  exact .ret q
def cells_mask.f (a0:Int) (r:Int):Prop :=
 if a0 ≥ 64 then (r=18446744073709551615) else ((((0:Int)≤a0))∧r=(IntKind.u64.wrap ((shlI .u64 1 a0) - 1)))
theorem cells_mask.D {a0 r} (h:cells_mask.f a0 r):D Tryz.prog X (.callH 183 [.val (.int .i64 a0)] [] (.val (.int .u64 r)) []):=by
 unfold cells_mask.f at h
 refine .enter 8 0 fn183 q q q<|.seq<|.reg0 q (.o (asV q)<|.nil0)<|.seq<|.seq<|.reg0 q (.o (mvV q)<|.o (geI q q)<|.nil0) ?_
 by_cases c1:a0 ≥ 64
 ·rw [if_pos c1] at h
  refine .condT q (dt c1)<|.seq<|.reg0 q (.o (asV q)<|.nil0) ?_
  replace h:=h.symm
  subst h
  refine .kf [(2,u6 18446744073709551615)] q q ?_
  exact .ret q
 ·rw [if_neg c1] at h
  refine .condF q (df c1)<|.skip<|.seq ?_
  obtain ⟨g4_1,h⟩:=h
  refine .reg0 q (.m q<|.o (shl_ q q g4_1)<|.o (subI q q)<|.a q<|.nil0) ?_
  replace h:=h.symm
  subst h
  refine .kf [(2,u6 (IntKind.u64.wrap ((shlI .u64 1 a0) - 1)))] q q ?_
  exact .ret q
def cells_right.f (a0:Int) (a1:TCell) (r:Bool):Prop :=
 ∃ t2_3:Int,(cells_mask.f a0 t2_3)∧if (bitOp .andNot .u64 a1.From t2_3)=0 then (if a1.Kind=1 then (r=true) else (if a1.Kind=0 then (r=(a1.K == 0)) else (if a1.Kind=2 then (r=((a1.From == 0) && ((a1.Kind == 2) && ((a1.K == 0) && true)))) else (r=false)))) else (r=false)
theorem cells_right.D {a0 a1 r} (h:cells_right.f a0 a1 r):D Tryz.prog X (.callH 174 [.val (.int .i64 a0),.agg (TCell.lit a1)] [] (.val (.bool r)) []):=by
 unfold cells_right.f at h
 refine .enter 25 0 fn174 q q q<|.seq<|.room 0<|.reg0 q (.o (bxP (s:=3) (cs:=(TCell.lit a1)) q ⟨q,by decide,q⟩ q)<|.o (asV q)<|.nil0)<|.seq<|.seq ?_
 obtain ⟨t2_3,g2_3,h⟩:=h
 refine .reg1 (e1:=listEnv [(3,.ptr 0 1 3 0 0),(10,bo ((bitOp .andNot .u64 a1.From t2_3) != 0))]) (H1:=[⟨3,[(TCell.lit a1)],0,none⟩]) q ?_ ?_
 ·exact .drawM [(5,10,bo ((bitOp .andNot .u64 a1.From t2_3) != 0)),(4,9,u6 (bitOp .andNot .u64 a1.From t2_3)),(3,8,u6 t2_3),(2,7,i6 a0),(1,6,u6 a1.From),(0,5,.ptr 0 1 3 0 0)] [] [[],[0],[],[2],[1,0,3,2],[4,1,0,3,2]] (by rfl) (by rfl) (by rfl) (by exact ⟨oP (fun _=>faP fa97_0 q) q,oP (fun _=>ldP q sz46 ag46 q) q,oP (fun _=>mvV q) q,fun S hS hD hn=>.oneI hS hD hn q q (callee_of q go183 q) (.pure q q (cells_mask.D g2_3)) q q q,oP (fun _=>andNotI q q) q,oP (fun _=>neI q q) q,trivial⟩) _ (by exact ⟨.ptr q,.free q q,trivial⟩) (by rfl)
 by_cases c1:(bitOp .andNot .u64 a1.From t2_3)=0
 ·rw [if_pos c1] at h
  refine .condF q (nf c1)<|.skip<|.seq<|.seq<|.reg0 q (.o (faP fa97_1 q)<|.o (ldP q sz95 ag95 q)<|.nil0)<|.block<|.seq<|.reg0 q (.o (eqI q q)<|.o (asV q)<|.nil0) ?_
  by_cases c2:a1.Kind=1
  ·rw [if_pos c2] at h
   refine .condT q (bt c2)<|.seq<|.reg0 q (.o (asV q)<|.nil0) ?_
   replace h:=h.symm
   subst h
   refine .kf [(4,bo true)] q q ?_
   exact .ret q
  ·rw [if_neg c2] at h
   refine .condF q (bn c2)<|.seq<|.reg0 q (.o (eqI q q)<|.o (asV q)<|.nil0) ?_
   by_cases c3:a1.Kind=0
   ·rw [if_pos c3] at h
    refine .condT q (bt c3)<|.seq<|.reg0 q (.o (faP fa97_2 q)<|.o (ldP q sz2 ag2 q)<|.o (eqI q q)<|.o (asV q)<|.nil0) ?_
    replace h:=h.symm
    subst h
    refine .kf [(4,bo (a1.K == 0))] q q ?_
    exact .ret q
   ·rw [if_neg c3] at h
    refine .condF q (bn c3)<|.seq<|.reg0 q (.o (eqI q q)<|.o (asV q)<|.nil0) ?_
    by_cases c4:a1.Kind=2
    ·rw [if_pos c4] at h
     refine .condT q (bt c4)<|.seq<|.reg0 q (.o (ldG q sz97 ag97 q)<|.o (bldS (cs:=[u6 0,i6 2,i6 0]) ze97 pl97 q q)<|.o (eqS (xs:=[.int .u64 a1.From,.int .i64 a1.Kind,.int .i64 a1.K]) (ys:=[.int .u64 0,.int .i64 2,.int .i64 0]) ek97 q q q q q)<|.o (asV q)<|.nil0) ?_
     replace h:=h.symm
     subst h
     refine .kf [(4,bo ((a1.From == 0) && ((a1.Kind == 2) && ((a1.K == 0) && true))))] q q ?_
     exact .ret q
    ·rw [if_neg c4] at h
     refine .condF q (bn c4)<|.skip<|.inBlock<|.seq<|.reg0 q (.o (asV q)<|.nil0) ?_
     replace h:=h.symm
     subst h
     refine .kf [(4,bo false)] q q ?_
     exact .ret q
 ·rw [if_neg c1] at h
  refine .condT q (nt c1)<|.seq<|.reg0 q (.o (asV q)<|.nil0) ?_
  replace h:=h.symm
  subst h
  refine .kf [(4,bo false)] q q ?_
  exact .ret q
def cells_Check.b1 (a0:Int) (a1:List TCell):Int→Rnd Int Unit Int→Prop:=fun x1 z1=>if x1 < (a1.length:Int) then (((InR x1 a1.length))∧∃ t18_2:Bool,(cells_right.f a0 (rdl a1 x1) t18_2)∧if t18_2=true then (z1=.next (IntKind.i64.wrap (x1 + 1))) else (z1=.ret 40)) else (z1=.exit ())
def cells_Check.f (a0:Int) (a1:List TCell) (r:Int):Prop :=
 ∃ t2_1:Int,(cells_dims.f a0 t2_1)∧if t2_1=0 then (if (a1.length:Int)=a0 then (∃ o1:Fin Unit Int,Loop (cells_Check.b1 a0 a1) 0 o1∧o1.on (fun _=>r=0) (fun r_=>r=r_)) else (r=40)) else (r=t2_1)
theorem cells_Check.D {a0 a1 r} (h:cells_Check.f a0 a1 r):D Tryz.prog X (.callH 151 [.val (.int .i64 a0),.rows (a1.map TCell.cells)] [] (.val (.int .i64 r)) []):=by
 unfold cells_Check.f at h
 refine .enter 28 0 fn151 q q q<|.seq<|.reg0 q (.o (asV q)<|.nil0)<|.seq<|.seq ?_
 obtain ⟨t2_1,g2_1,h⟩:=h
 refine .reg0 q (.m q<|.c q go169 q q q (cells_dims.D g2_1)<|.a q<|.nil0)<|.seq<|.reg0 q (.o (mvV q)<|.o (neI q q)<|.nil0) ?_
 by_cases c1:t2_1=0
 ·rw [if_pos c1] at h
  refine .condF q (nf c1)<|.skip<|.seq<|.seq<|.reg0 q (.o (mvR q)<|.o (lnR (l:=a1) sl50 q)<|.o (mvV q)<|.o (neI q q)<|.nil0) ?_
  by_cases c2:(a1.length:Int)=a0
  ·rw [if_pos c2] at h
   refine .condF q (nf c2)<|.skip<|.seq<|.seq<|.reg0 q (.o (mvR q)<|.o (lnR (l:=a1) sl50 q)<|.o (mvV q)<|.nil0)<|.block<|.keepL [] [(0,i6 a0),(17,.rows (a1.map TCell.cells)),(18,i6 (a1.length:Int)),(19,i6 0)] [] (by decide) (by decide) ⟨.free q q,.free q q,.free q q,.free q q,trivial⟩ trivial ?_
   obtain ⟨o1,hL1,h⟩:=h
   refine .loopB (cells_Check.b1 a0 a1) (fun x1=>listEnv [(0,i6 a0),(17,.rows (a1.map TCell.cells)),(18,i6 (a1.length:Int)),(19,i6 x1)]) (fun x1=>[]) (fun _=>listEnv []) (fun _=>[]) hL1 (fun r_=>r=r_) ?_ ?_ ?_
   ·rintro ⟨⟩ rfl
    try dsimp only [Fin.on] at h
    refine .seq<|.reg0 q (.o (asV q)<|.nil0) ?_
    replace h:=h.symm
    subst h
    refine .kf [(4,i6 0)] q q ?_
    exact .ret q
   ·rintro r_ rfl
    exact h
   ·rintro x1 z1 h hn1 hx1 hr1
    dsimp only [cells_Check.b1] at h
    refine .seq<|.reg0 q (.o (ltI q q)<|.nil0)<|.seq ?_
    by_cases c7:x1 < (a1.length:Int)
    ·rw [if_pos c7] at h
     refine .condT q (dt c7)<|.skip<|.seq<|.block<|.seq ?_
     obtain ⟨g17_0,h⟩:=h
     refine .room 0<|.reg0 q (.o (ixR (l:=a1) (lit:=TCell.lit) sl50 q q (fun _=>q) g17_0.1 g17_0.2)<|.o (ldCG q sz97 ag97 q)<|.o (alP (s:=3) ze97 ⟨q,by decide,q⟩ q)<|.o (stB (cs0:=[u6 0,i6 0,i6 0]) (cs:=(TCell.lit (rdl a1 x1))) (cs1:=(TCell.lit (rdl a1 x1))) q q sz97 q ⟨Nat.le_of_ble_eq_true q,q⟩ q)<|.nil0) ?_
     refine .seq ?_
     obtain ⟨t18_2,g18_2,h⟩:=h
     refine .reg0 q (.m q<|.o (ldG q sz97 ag97 q)<|.c q go174 q q q (cells_right.D g18_2)<|.o (notB q)<|.nil0) ?_
     by_cases c8:t18_2=true
     ·rw [if_pos c8] at h
      refine .condF q (bnotF c8)<|.skip<|.inBlock<|.reg0 q (.o (addI q q)<|.o (mvV q)<|.nil0)<|.kf [(0,i6 a0),(17,.rows (a1.map TCell.cells)),(18,i6 (a1.length:Int)),(19,i6 (IntKind.i64.wrap (x1 + 1)))] q q ?_
      exact hn1 _ h
     ·rw [if_neg c8] at h
      refine .condT q (bnotT (nb c8))<|.seq<|.reg0 q (.o (asV q)<|.nil0) ?_
      have q3:=hr1 _ h
      replace q3:=q3.symm
      subst q3
      refine .kf [(4,i6 40)] q q ?_
      exact .ret q
    ·rw [if_neg c7] at h
     refine .condF q (df c7)<|.exit q<|.keepL [] [] [] (by decide) (by decide) trivial trivial ?_
     exact hx1 _ h
  ·rw [if_neg c2] at h
   refine .condT q (nt c2)<|.seq<|.reg0 q (.o (asV q)<|.nil0) ?_
   replace h:=h.symm
   subst h
   refine .kf [(4,i6 40)] q q ?_
   exact .ret q
 ·rw [if_neg c1] at h
  refine .condT q (nt c1)<|.seq<|.reg0 q (.o (mvV q)<|.o (asV q)<|.nil0) ?_
  replace h:=h.symm
  subst h
  refine .kf [(4,i6 t2_1)] q q ?_
  exact .ret q
def weight_is.step (self110:TSpace→TWeight→Bool→Prop) (a0:TSpace) (a1:TWeight) (r:Bool):Prop :=
 if a1.Zero=true then (∃ t3_5:Bool,(¬ (a0.Tag=5)→weight_bare.f a1 0 t3_5)∧r=((!(a0.Tag == 5)) && t3_5)) else (∃ t4_3:Bool,(weight_bare.f a1 a0.Tag t4_3)∧if t4_3=true then (if a0.Tag=2 then (∃ t7_8:Int,(¬ (a1.Cost=(-1))→cost_Check.f a0.Dim a1.Cost t7_8)∧r=((!(a1.Cost == (-1))) && (t7_8 == 0))) else (if a0.Tag=3 then (∃ t9_4:Int,(facts_Check.f a0.Dim a1.Facts t9_4)∧r=(t9_4 == 0)) else (if a0.Tag=4 then (∃ t11_4:Int,(cells_Check.f a0.Dim a1.Cells t11_4)∧r=(t11_4 == 0)) else (if a0.Tag=5 then ((((a1.Parts.length:Int)=2)→(InR 0 a0.Parts.length))∧(((a1.Parts.length:Int)=2)→(InR 0 a1.Parts.length))∧∃ t13_13:Bool,(((a1.Parts.length:Int)=2)→self110 (rdl a0.Parts 0) (rdl a1.Parts 0) t13_13)∧(((a1.Parts.length:Int)=2)→(t13_13=true)→(InR 1 a0.Parts.length))∧(((a1.Parts.length:Int)=2)→(t13_13=true)→(InR 1 a1.Parts.length))∧∃ t13_24:Bool,(((a1.Parts.length:Int)=2)→(t13_13=true)→self110 (rdl a0.Parts 1) (rdl a1.Parts 1) t13_24)∧r=(((a1.Parts.length:Int) == 2) && (t13_13 && t13_24))) else (r=true))))) else (r=false))
abbrev GD_A0:List (List Nat):=[[],[0],[1,0],[2,1,0],[3,2,1,0],[4,3,2,1,0],[5,4,3,2,1,0],[6,5,4,3,2,1,0],[7,6,5,4,3,2,1,0],[4,3,2,1,0],[9,4,3,2,1,0],[10,9,4,3,2,1,0],[11,10,9,4,3,2,1,0],[8,7,6,5,4,3,2,1,0,12,11,10,9],[4,3,2,1,0,13,8,7,6,5,12,11,10,9],[14,4,3,2,1,0,13,8,7,6,5,12,11,10,9],[15,14,4,3,2,1,0,13,8,7,6,5,12,11,10,9],[16,15,14,4,3,2,1,0,13,8,7,6,5,12,11,10,9],[17,16,15,14,4,3,2,1,0,13,8,7,6,5,12,11,10,9],[18,17,16,15,14,4,3,2,1,0,13,8,7,6,5,12,11,10,9],[15,14,4,3,2,1,0,13,8,7,6,5,12,11,10,9],[20,15,14,4,3,2,1,0,13,8,7,6,5,12,11,10,9],[21,20,15,14,4,3,2,1,0,13,8,7,6,5,12,11,10,9],[22,21,20,15,14,4,3,2,1,0,13,8,7,6,5,12,11,10,9],[19,18,17,16,15,14,4,3,2,1,0,13,8,7,6,5,12,11,10,9,23,22,21,20],[15,14,4,3,2,1,0,13,8,7,6,5,12,11,10,9,24,19,18,17,16,23,22,21,20],[25,15,14,4,3,2,1,0,13,8,7,6,5,12,11,10,9,24,19,18,17,16,23,22,21,20]]
theorem weight_is.stepD {self110:TSpace→TWeight→Bool→Prop} {a0:TSpace} {a1:TWeight} (hs110:∀ z0_ z1_ r_,self110 z0_ z1_ r_→D Tryz.prog X (.callH 110 [.agg (TSpace.lit z0_),.agg (TWeight.lit z1_)] [] (.val (.bool r_)) [])) {r:Bool} (h:weight_is.step self110 a0 a1 r):D Tryz.prog X (.callH 110 [.agg (TSpace.lit a0),.agg (TWeight.lit a1)] [] (.val (.bool r)) []):=by
 unfold weight_is.step at h
 refine .enter 78 0 fn110 q q q<|.seq<|.room 0<|.room 0<|.reg0 q (.o (bxP (s:=3) (cs:=(TSpace.lit a0)) q ⟨q,by decide,q⟩ q)<|.op 1 q (bxP (s:=6) (cs:=(TWeight.lit a1)) q ⟨q,by decide,q⟩ q)<|.o (asV q)<|.nil0)<|.seq<|.seq<|.reg0 q (.o (faP fa53_0 q)<|.o (ldP q sz4 ag4 q)<|.nil0) ?_
 by_cases c1:a1.Zero=true
 ·rw [if_pos c1] at h
  refine .condT q c1<|.seq ?_
  obtain ⟨t3_5,g3_5,h⟩:=h
  refine .reg0 (e1:=listEnv [(4,bo ((!(a0.Tag == 5)) && t3_5))]) (H1:=[⟨3,[(TSpace.lit a0)],0,none⟩,⟨6,[(TWeight.lit a1)],0,none⟩]) q ?_ ?_
  ·refine .o (faP fa25_0 q)<|.o (ldP q sz22 ag22 q)<|.o (neI q q)<|.m q<|?_
   by_cases c2:a0.Tag=5
   ·exact (.n q (nf c2)<|.n q (nf c2)<|.o (pkFV q (nf c2) q)<|.a q<|.nilL _ ⟨cB q (mAndF (bnotF (bt c2))),trivial⟩)
   ·exact (.g q (nt c2) (ldG q sz53 ag53 q)<|.callI (gT q q q (nt c2)) (callee_of q go148 q) (.pure q q (weight_bare.D (g3_5 c2)))<|.o (pkTV q (nt c2) q)<|.a q<|.nilL _ ⟨cB q (mAndT (bnotT (bn c2)) q),trivial⟩)
  replace h:=h.symm
  subst h
  refine .kf [(4,bo ((!(a0.Tag == 5)) && t3_5))] q q ?_
  exact .ret q
 ·rw [if_neg c1] at h
  refine .condF q (nb c1)<|.skip<|.seq<|.seq ?_
  obtain ⟨t4_3,g4_3,h⟩:=h
  refine .reg0 q (.o (ldG q sz53 ag53 q)<|.o (faP fa25_0 q)<|.o (ldP q sz22 ag22 q)<|.c q go148 q q q (weight_bare.D g4_3)<|.o (notB q)<|.nil0) ?_
  by_cases c3:t4_3=true
  ·rw [if_pos c3] at h
   refine .condF q (bnotF c3)<|.skip<|.seq<|.seq<|.reg0 q (.o (faP fa25_0 q)<|.o (ldP q sz22 ag22 q)<|.nil0)<|.block<|.seq<|.reg0 q (.o (eqI q q)<|.o (asV q)<|.nil0) ?_
   by_cases c4:a0.Tag=2
   ·rw [if_pos c4] at h
    refine .condT q (bt c4)<|.seq ?_
    obtain ⟨t7_8,g7_8,h⟩:=h
    refine .reg0 (e1:=listEnv [(4,bo ((!(a1.Cost == (-1))) && (t7_8 == 0)))]) (H1:=[⟨3,[(TSpace.lit a0)],0,none⟩,⟨6,[(TWeight.lit a1)],0,none⟩]) q ?_ ?_
    ·refine .o (faP fa53_1 q)<|.o (ldP q sz3 ag3 q)<|.o (neI q q)<|.m q<|?_
     by_cases c5:a1.Cost=(-1)
     ·exact (.n q (nf c5)<|.n q (nf c5)<|.n q (nf c5)<|.n q (nf c5)<|.n q (nf c5)<|.n q (nf c5)<|.o (pkFV q (nf c5) q)<|.a q<|.nilL _ ⟨cB q (mAndF (bnotF (bt c5))),trivial⟩)
     ·exact (.g q (nt c5) (faP fa25_1 q)<|.g q (nt c5) (ldP q sz3 ag3 q)<|.g q (nt c5) (faP fa53_1 q)<|.g q (nt c5) (ldP q sz3 ag3 q)<|.callI (gT q q q (nt c5)) (callee_of q go149 q) (.pure q q (cost_Check.D (g7_8 c5)))<|.g q (nt c5) (eqI q q)<|.o (pkTV q (nt c5) q)<|.a q<|.nilL _ ⟨cB q (mAndT (bnotT (bn c5)) q),trivial⟩)
    replace h:=h.symm
    subst h
    refine .kf [(4,bo ((!(a1.Cost == (-1))) && (t7_8 == 0)))] q q ?_
    exact .ret q
   ·rw [if_neg c4] at h
    refine .condF q (bn c4)<|.seq<|.reg0 q (.o (eqI q q)<|.o (asV q)<|.nil0) ?_
    by_cases c6:a0.Tag=3
    ·rw [if_pos c6] at h
     refine .condT q (bt c6)<|.seq ?_
     obtain ⟨t9_4,g9_4,h⟩:=h
     refine .reg0 q (.o (faP fa25_1 q)<|.o (ldP q sz3 ag3 q)<|.o (faP fa53_2 q)<|.o (ldG q sz49 ag49 q)<|.c q go150 q q q (facts_Check.D g9_4)<|.o (eqI q q)<|.a q<|.nil0) ?_
     replace h:=h.symm
     subst h
     refine .kf [(4,bo (t9_4 == 0))] q q ?_
     exact .ret q
    ·rw [if_neg c6] at h
     refine .condF q (bn c6)<|.seq<|.reg0 q (.o (eqI q q)<|.o (asV q)<|.nil0) ?_
     by_cases c7:a0.Tag=4
     ·rw [if_pos c7] at h
      refine .condT q (bt c7)<|.seq ?_
      obtain ⟨t11_4,g11_4,h⟩:=h
      refine .reg0 q (.o (faP fa25_1 q)<|.o (ldP q sz3 ag3 q)<|.o (faP fa53_3 q)<|.o (ldP q sz50 ag50 q)<|.c q go151 q q q (cells_Check.D g11_4)<|.o (eqI q q)<|.a q<|.nil0) ?_
      replace h:=h.symm
      subst h
      refine .kf [(4,bo (t11_4 == 0))] q q ?_
      exact .ret q
     ·rw [if_neg c7] at h
      refine .condF q (bn c7)<|.seq<|.reg0 q (.o (eqI q q)<|.o (asV q)<|.nil0) ?_
      by_cases c8:a0.Tag=5
      ·rw [if_pos c8] at h
       refine .condT q (bt c8)<|.seq ?_
       obtain ⟨g13_7,h⟩:=h
       obtain ⟨g13_11,h⟩:=h
       obtain ⟨t13_13,g13_13,h⟩:=h
       obtain ⟨g13_18,h⟩:=h
       obtain ⟨g13_22,h⟩:=h
       obtain ⟨t13_24,g13_24,h⟩:=h
       refine .reg1 (e1:=listEnv [(4,bo (((a1.Parts.length:Int) == 2) && (t13_13 && t13_24)))]) (H1:=[⟨3,[(TSpace.lit a0)],0,none⟩,⟨6,[(TWeight.lit a1)],0,none⟩]) q ?_ ?_
       ·by_cases c9:(a1.Parts.length:Int)=2
        ·by_cases c10:t13_13=true
         ·exact .drawM [(26,4,bo t13_24),(25,77,bo t13_24),(24,76,bo t13_24),(23,75,.agg (TWeight.lit (rdl a1.Parts 1))),(22,74,.cptr (TWeight.lit (rdl a1.Parts 1)) 0),(21,73,.rows (a1.Parts.map TWeight.cells)),(20,72,.ptr 1 1 6 0 5),(19,71,.agg (TSpace.lit (rdl a0.Parts 1))),(18,70,.cptr (TSpace.lit (rdl a0.Parts 1)) 0),(17,69,.rows (a0.Parts.map TSpace.cells)),(16,68,.ptr 0 1 3 0 2),(15,67,bo t13_13),(14,66,bo t13_13),(13,65,bo t13_13),(12,64,.agg (TWeight.lit (rdl a1.Parts 0))),(11,63,.cptr (TWeight.lit (rdl a1.Parts 0)) 0),(10,62,.rows (a1.Parts.map TWeight.cells)),(9,61,.ptr 1 1 6 0 5),(8,60,.agg (TSpace.lit (rdl a0.Parts 0))),(7,59,.cptr (TSpace.lit (rdl a0.Parts 0)) 0),(6,58,.rows (a0.Parts.map TSpace.cells)),(5,57,.ptr 0 1 3 0 2),(4,56,bo ((a1.Parts.length:Int) == 2)),(3,55,bo ((a1.Parts.length:Int) == 2)),(2,54,i6 (a1.Parts.length:Int)),(1,53,.rows (a1.Parts.map TWeight.cells)),(0,52,.ptr 1 1 6 0 5)] [] GD_A0 (by rfl) (by rfl) (by rfl) (by exact ⟨oP (fun _=>faP fa53_4 q) q,oP (fun _=>ldP q sz51 ag51 q) q,oP (fun _=>lnR (l:=a1.Parts) sl51 q) q,oP (fun _=>eqI q q) q,oP (fun _=>mvV q) q,oG q (fun _=>q) (bt c9) (fun _=>faP fa25_2 q) q,oG q (fun _=>q) (bt c9) (fun _=>ldP q sz23 ag23 q) q,oG q (fun _=>q) (bt c9) (fun _=>ixR (l:=a0.Parts) (lit:=TSpace.lit) sl23 q q TSpace.cells_lit (g13_7 c9).1 (g13_7 c9).2) q,oG q (fun _=>q) (bt c9) (fun _=>ldCG q sz25 ag25 q) q,oG q (fun _=>q) (bt c9) (fun _=>faP fa53_4 q) q,oG q (fun _=>q) (bt c9) (fun _=>ldP q sz51 ag51 q) q,oG q (fun _=>q) (bt c9) (fun _=>ixR (l:=a1.Parts) (lit:=TWeight.lit) sl51 q q TWeight.cells_lit (g13_11 c9).1 (g13_11 c9).2) q,oG q (fun _=>q) (bt c9) (fun _=>ldCG q sz53 ag53 q) q,fun S hS hD hn=>.oneI hS hD hn (gT q q q (bt c9)) q (callee_of q go110 q) (.pure q q (hs110 _ _ _ (g13_13 c9))) q q q,oP (fun _=>pkTV q (bt c9) q) q,oP (fun _=>mvV q) q,oG q (fun _=>q) c10 (fun _=>faP fa25_2 q) q,oG q (fun _=>q) c10 (fun _=>ldP q sz23 ag23 q) q,oG q (fun _=>q) c10 (fun _=>ixR (l:=a0.Parts) (lit:=TSpace.lit) sl23 q q TSpace.cells_lit (g13_18 c9 c10).1 (g13_18 c9 c10).2) q,oG q (fun _=>q) c10 (fun _=>ldCG q sz25 ag25 q) q,oG q (fun _=>q) c10 (fun _=>faP fa53_4 q) q,oG q (fun _=>q) c10 (fun _=>ldP q sz51 ag51 q) q,oG q (fun _=>q) c10 (fun _=>ixR (l:=a1.Parts) (lit:=TWeight.lit) sl51 q q TWeight.cells_lit (g13_22 c9 c10).1 (g13_22 c9 c10).2) q,oG q (fun _=>q) c10 (fun _=>ldCG q sz53 ag53 q) q,fun S hS hD hn=>.oneI hS hD hn (gT q q q c10) q (callee_of q go110 q) (.pure q q (hs110 _ _ _ (g13_24 c9 c10))) q q q,oP (fun _=>pkTV q c10 q) q,oP (fun _=>asV q) q,trivial⟩) _ (by exact ⟨cB q (mAndT (bt c9) (mAndT c10 q)),trivial⟩) (by rfl)
         ·exact .drawM [(26,4,bo false),(25,77,bo false),(24,76,und),(23,75,und),(22,74,und),(21,73,und),(20,72,und),(19,71,und),(18,70,und),(17,69,und),(16,68,und),(15,67,bo t13_13),(14,66,bo t13_13),(13,65,bo t13_13),(12,64,.agg (TWeight.lit (rdl a1.Parts 0))),(11,63,.cptr (TWeight.lit (rdl a1.Parts 0)) 0),(10,62,.rows (a1.Parts.map TWeight.cells)),(9,61,.ptr 1 1 6 0 5),(8,60,.agg (TSpace.lit (rdl a0.Parts 0))),(7,59,.cptr (TSpace.lit (rdl a0.Parts 0)) 0),(6,58,.rows (a0.Parts.map TSpace.cells)),(5,57,.ptr 0 1 3 0 2),(4,56,bo ((a1.Parts.length:Int) == 2)),(3,55,bo ((a1.Parts.length:Int) == 2)),(2,54,i6 (a1.Parts.length:Int)),(1,53,.rows (a1.Parts.map TWeight.cells)),(0,52,.ptr 1 1 6 0 5)] [] GD_A0 (by rfl) (by rfl) (by rfl) (by exact ⟨oP (fun _=>faP fa53_4 q) q,oP (fun _=>ldP q sz51 ag51 q) q,oP (fun _=>lnR (l:=a1.Parts) sl51 q) q,oP (fun _=>eqI q q) q,oP (fun _=>mvV q) q,oG q (fun _=>q) (bt c9) (fun _=>faP fa25_2 q) q,oG q (fun _=>q) (bt c9) (fun _=>ldP q sz23 ag23 q) q,oG q (fun _=>q) (bt c9) (fun _=>ixR (l:=a0.Parts) (lit:=TSpace.lit) sl23 q q TSpace.cells_lit (g13_7 c9).1 (g13_7 c9).2) q,oG q (fun _=>q) (bt c9) (fun _=>ldCG q sz25 ag25 q) q,oG q (fun _=>q) (bt c9) (fun _=>faP fa53_4 q) q,oG q (fun _=>q) (bt c9) (fun _=>ldP q sz51 ag51 q) q,oG q (fun _=>q) (bt c9) (fun _=>ixR (l:=a1.Parts) (lit:=TWeight.lit) sl51 q q TWeight.cells_lit (g13_11 c9).1 (g13_11 c9).2) q,oG q (fun _=>q) (bt c9) (fun _=>ldCG q sz53 ag53 q) q,fun S hS hD hn=>.oneI hS hD hn (gT q q q (bt c9)) q (callee_of q go110 q) (.pure q q (hs110 _ _ _ (g13_13 c9))) q q q,oP (fun _=>pkTV q (bt c9) q) q,oP (fun _=>mvV q) q,oN q (fun _=>q) (nb c10) q,oN q (fun _=>q) (nb c10) q,oN q (fun _=>q) (nb c10) q,oN q (fun _=>q) (nb c10) q,oN q (fun _=>q) (nb c10) q,oN q (fun _=>q) (nb c10) q,oN q (fun _=>q) (nb c10) q,oN q (fun _=>q) (nb c10) q,oN q (fun _=>q) (nb c10) q,oP (fun _=>pkFV q (nb c10) q) q,oP (fun _=>asV q) q,trivial⟩) _ (by exact ⟨cB q (mAndT (bt c9) (mAndF (nb c10))),trivial⟩) (by rfl)
        ·exact .drawM [(26,4,bo false),(25,77,bo false),(24,76,und),(23,75,und),(22,74,und),(21,73,und),(20,72,und),(19,71,und),(18,70,und),(17,69,und),(16,68,und),(15,67,bo false),(14,66,bo false),(13,65,und),(12,64,und),(11,63,und),(10,62,und),(9,61,und),(8,60,und),(7,59,und),(6,58,und),(5,57,und),(4,56,bo ((a1.Parts.length:Int) == 2)),(3,55,bo ((a1.Parts.length:Int) == 2)),(2,54,i6 (a1.Parts.length:Int)),(1,53,.rows (a1.Parts.map TWeight.cells)),(0,52,.ptr 1 1 6 0 5)] [] GD_A0 (by rfl) (by rfl) (by rfl) (by exact ⟨oP (fun _=>faP fa53_4 q) q,oP (fun _=>ldP q sz51 ag51 q) q,oP (fun _=>lnR (l:=a1.Parts) sl51 q) q,oP (fun _=>eqI q q) q,oP (fun _=>mvV q) q,oN q (fun _=>q) (bn c9) q,oN q (fun _=>q) (bn c9) q,oN q (fun _=>q) (bn c9) q,oN q (fun _=>q) (bn c9) q,oN q (fun _=>q) (bn c9) q,oN q (fun _=>q) (bn c9) q,oN q (fun _=>q) (bn c9) q,oN q (fun _=>q) (bn c9) q,oN q (fun _=>q) (bn c9) q,oP (fun _=>pkFV q (bn c9) q) q,oP (fun _=>mvV q) q,oN q (fun _=>q) q q,oN q (fun _=>q) q q,oN q (fun _=>q) q q,oN q (fun _=>q) q q,oN q (fun _=>q) q q,oN q (fun _=>q) q q,oN q (fun _=>q) q q,oN q (fun _=>q) q q,oN q (fun _=>q) q q,oP (fun _=>pkFV q q q) q,oP (fun _=>asV q) q,trivial⟩) _ (by exact ⟨cB q (mAndF (bn c9)),trivial⟩) (by rfl)
       replace h:=h.symm
       subst h
       refine .kf [(4,bo (((a1.Parts.length:Int) == 2) && (t13_13 && t13_24)))] q q ?_
       exact .ret q
      ·rw [if_neg c8] at h
       refine .condF q (bn c8)<|.skip<|.inBlock<|.seq<|.reg0 q (.o (asV q)<|.nil0) ?_
       replace h:=h.symm
       subst h
       refine .kf [(4,bo true)] q q ?_
       exact .ret q
  ·rw [if_neg c3] at h
   refine .condT q (bnotT (nb c3))<|.seq<|.reg0 q (.o (asV q)<|.nil0) ?_
   replace h:=h.symm
   subst h
   refine .kf [(4,bo false)] q q ?_
   exact .ret q
def weight_is.fN:Nat→TSpace→TWeight→Bool→Prop
 | 0=>fun _ _ _=>False
 | n + 1=>weight_is.step (weight_is.fN n)
theorem weight_is.ND:∀ (n:Nat) {a0:TSpace} {a1:TWeight} {r:Bool} (h:weight_is.fN n a0 a1 r),D Tryz.prog X (.callH 110 [.agg (TSpace.lit a0),.agg (TWeight.lit a1)] [] (.val (.bool r)) [])
 | 0,_,_,_,h=>h.elim
 | n + 1,_,_,_,h=>weight_is.stepD (fun _ _ _ h=>weight_is.ND n h) h
def weight_is.f (a0:TSpace) (a1:TWeight) (r:Bool):Prop:=∃ n,weight_is.fN n a0 a1 r
theorem weight_is.D {a0 a1 r} (h:weight_is.f a0 a1 r):D Tryz.prog X (.callH 110 [.agg (TSpace.lit a0),.agg (TWeight.lit a1)] [] (.val (.bool r)) []):=by obtain ⟨n,h⟩:=h; exact weight_is.ND n h
def weight_checked_1.f (a0:TWeight) (f0:TSpace) (r:Bool):Prop :=
 ∃ t2_2:Bool,(weight_is.f f0 a0 t2_2)∧r=(!t2_2)
theorem weight_checked_1.D {a0 f0 r} (h:weight_checked_1.f a0 f0 r):D Tryz.prog X (.callH 109 [.agg (TWeight.lit a0),.cptr (TSpace.lit f0) 0] [] (.val (.bool r)) []):=by
 unfold weight_checked_1.f at h
 refine .enter 8 0 fn109 q q q<|.seq<|.room 0<|.reg0 q (.o (bxP (s:=6) (cs:=(TWeight.lit a0)) q ⟨q,by decide,q⟩ q)<|.o (asV q)<|.nil0)<|.seq ?_
 obtain ⟨t2_2,g2_2,h⟩:=h
 refine .reg0 q (.o (ldCG q sz25 ag25 q)<|.o (ldG q sz53 ag53 q)<|.c q go110 q q q (weight_is.D g2_2)<|.o (notB q)<|.a q<|.nil0) ?_
 replace h:=h.symm
 subst h
 refine .kf [(3,bo (!t2_2))] q q ?_
 exact .ret q
def weight_checked.f (a0:TSpace) (a1:List TWeight) (r:Int):Prop :=
 ∃ t2_1:Int,(weight_Space.f a0 t2_1)∧if t2_1=0 then (∃ t4_2:Bool,(slices_ContainsFunc_Weight.f a1 (fun x0_ y_=>weight_checked_1.f x0_ a0 y_) t4_2)∧if t4_2=true then (r=51) else (r=0)) else (r=t2_1)
theorem weight_checked.D {a0 a1 r} (h:weight_checked.f a0 a1 r):D Tryz.prog X (.callH 69 [.agg (TSpace.lit a0),.rows (a1.map TWeight.cells)] [] (.val (.int .i64 r)) []):=by
 unfold weight_checked.f at h
 refine .enter 14 0 fn69 q q q<|.seq<|.room 0<|.reg0 q (.o (bxP (s:=3) (cs:=(TSpace.lit a0)) q ⟨q,by decide,q⟩ q)<|.o (asV q)<|.nil0)<|.seq<|.seq ?_
 obtain ⟨t2_1,g2_1,h⟩:=h
 refine .reg0 q (.o (ldG q sz25 ag25 q)<|.c q go65 q q q (weight_Space.D g2_1)<|.a q<|.nil0)<|.seq<|.reg0 q (.o (mvV q)<|.o (neI q q)<|.nil0) ?_
 by_cases c1:t2_1=0
 ·rw [if_pos c1] at h
  refine .condF q (nf c1)<|.skip<|.seq<|.seq ?_
  obtain ⟨t4_2,g4_2,h⟩:=h
  refine .reg0 q (.o (mvR q)<|.o (mkF q)<|.callI q (callee_of q go108 q) (.lendC (args':=[.rows (a1.map TWeight.cells),.clo 109 [.cptr (TSpace.lit a0) 0]])  [0] false (.cons (.free q q)<|.cons (cClo (.cons (cFixP q q (.cons (.free q q)<|.cons (.free q q)<|.cons (.free q q)<|.nil))<|.nil))<|.nil) (by decide) q q q q (slices_ContainsFunc_Weight.D (k1_:=[.cptr (TSpace.lit a0) 0]) go109 q q (fun x0_ y_ h_=>weight_checked_1.D h_) g4_2))<|.nil0) ?_
  by_cases c2:t4_2=true
  ·rw [if_pos c2] at h
   refine .condT q c2<|.seq<|.reg0 q (.o (asV q)<|.nil0) ?_
   replace h:=h.symm
   subst h
   refine .kf [(4,i6 51)] q q ?_
   exact .ret q
  ·rw [if_neg c2] at h
   refine .condF q (nb c2)<|.skip<|.seq<|.reg0 q (.o (asV q)<|.nil0) ?_
   replace h:=h.symm
   subst h
   refine .kf [(4,i6 0)] q q ?_
   exact .ret q
 ·rw [if_neg c1] at h
  refine .condT q (nt c1)<|.seq<|.reg0 q (.o (mvV q)<|.o (asV q)<|.nil0) ?_
  replace h:=h.symm
  subst h
  refine .kf [(4,i6 t2_1)] q q ?_
  exact .ret q
def weight_Check.f (a0:TSpace) (a1:TWeight) (r:Int):Prop :=
 ∃ t2_3:Int,(weight_checked.f a0 [a1] t2_3)∧r=t2_3
theorem weight_Check.D {a0 a1 r} (h:weight_Check.f a0 a1 r):D Tryz.prog X (.callH 102 [.agg (TSpace.lit a0),.agg (TWeight.lit a1)] [] (.val (.int .i64 r)) []):=by
 unfold weight_Check.f at h
 refine .enter 9 0 fn102 q q q<|.seq<|.room 0<|.room 0<|.reg0 q (.o (bxP (s:=3) (cs:=(TSpace.lit a0)) q ⟨q,by decide,q⟩ q)<|.op 1 q (bxP (s:=6) (cs:=(TWeight.lit a1)) q ⟨q,by decide,q⟩ q)<|.o (asV q)<|.nil0)<|.seq ?_
 obtain ⟨t2_3,g2_3,h⟩:=h
 refine .room 0<|.reg0 q (.o (ldG q sz25 ag25 q)<|.o (ldG q sz53 ag53 q)<|.op 2 q (bldT (s:=6) (cs:=[bo a1.Zero,i6 a1.Cost,u6 a1.Facts.Gen,.rows (a1.Facts.Rows.map (cInt .u64)),.rows (a1.Cells.map TCell.cells),.rows (a1.Parts.map TWeight.cells)]) (cf:=TWeight.cells) [a1] un51 sz53 ze53 ⟨by decide,q,by decide⟩ q q q (by simp only [List.map,TWeight.cells_lit]; rfl) q)<|.callI q (callee_of q go69 q) (.lendC (args':=[.agg (TSpace.lit a0),.rows ([a1].map TWeight.cells)])  [2] false (.cons (.free q q)<|.cons (cFixO (l:=[a1]) sl51 q q q q)<|.nil) (by decide) q q q q (weight_checked.D g2_3))<|.o (asV q)<|.nil0) ?_
 replace h:=h.symm
 subst h
 refine .kf [(4,i6 t2_3)] q q ?_
 exact .ret q
def pds_Check.b1 (a0:TPds):Int→Rnd Int Unit Int→Prop:=fun x1 z1=>if x1 < (a0.Rules.length:Int) then (((InR x1 a0.Rules.length))∧∃ t25_4:Int,(weight_Check.f a0.Space ((rdl a0.Rules x1).F) t25_4)∧if t25_4=0 then (z1=.next (IntKind.i64.wrap (x1 + 1))) else (z1=.ret t25_4)) else (z1=.exit ())
def pds_Check.f (a0:TPds) (r:Int):Prop :=
 ∃ t2_2:Int,(weight_Space.f a0.Space t2_2)∧if t2_2=0 then (if (a0.Rules.length:Int) > 16384 then (r=3) else (if ((decide (a0.States < 0)) || ((decide (a0.States > 4096)) || ((decide (a0.Symbols < 0)) || (decide (a0.Symbols > 4096)))))=true then (r=110) else (∃ t8_3:Bool,(slices_ContainsFunc_Rule.f a0.Rules (fun x0_ y_=>pds_Check_1.f x0_ a0 y_) t8_3)∧if t8_3=true then (r=110) else (∃ o1:Fin Unit Int,Loop (pds_Check.b1 a0) 0 o1∧o1.on (fun _=>r=0) (fun r_=>r=r_))))) else (r=t2_2)
theorem pds_Check.D {a0 r} (h:pds_Check.f a0 r):D Tryz.prog X (.callH 61 [.agg (TPds.lit a0)] [] (.val (.int .i64 r)) []):=by
 unfold pds_Check.f at h
 refine .enter 55 0 fn61 q q q<|.seq<|.room 0<|.reg0 q (.o (bxP (s:=6) (cs:=(TPds.lit a0)) q ⟨q,by decide,q⟩ q)<|.o (asV q)<|.nil0)<|.seq<|.seq ?_
 obtain ⟨t2_2,g2_2,h⟩:=h
 refine .reg0 q (.o (faP fa28_0 q)<|.o (ldG q sz25 ag25 q)<|.c q go65 q q q (weight_Space.D g2_2)<|.a q<|.nil0)<|.seq<|.reg0 q (.o (mvV q)<|.o (neI q q)<|.nil0) ?_
 by_cases c1:t2_2=0
 ·rw [if_pos c1] at h
  refine .condF q (nf c1)<|.skip<|.seq<|.seq<|.reg0 q (.o (faP fa28_3 q)<|.o (ldP q sz26 ag26 q)<|.o (lnR (l:=a0.Rules) sl26 q)<|.o (gtI q q)<|.nil0) ?_
  by_cases c2:(a0.Rules.length:Int) > 16384
  ·rw [if_pos c2] at h
   refine .condT q (dt c2)<|.seq<|.reg0 q (.o (asV q)<|.nil0) ?_
   replace h:=h.symm
   subst h
   refine .kf [(2,i6 3)] q q ?_
   exact .ret q
  ·rw [if_neg c2] at h
   refine .condF q (df c2)<|.skip<|.seq<|.seq ?_
   refine .reg0 (e1:=listEnv [(1,.ptr 0 1 6 0 0),(34,bo ((decide (a0.States < 0)) || ((decide (a0.States > 4096)) || ((decide (a0.Symbols < 0)) || (decide (a0.Symbols > 4096))))))]) (H1:=[⟨6,[(TPds.lit a0)],0,none⟩]) q ?_ ?_
   ·refine .o (faP fa28_1 q)<|.o (ldP q sz3 ag3 q)<|.o (ltI q q)<|.m q<|?_
    by_cases c3:a0.States < 0
    ·exact (.n q (dt c3)<|.n q (dt c3)<|.n q (dt c3)<|.o (pkTV q (dt c3) q)<|.m q<|.n q q<|.n q q<|.n q q<|.o (pkTV q q q)<|.m q<|.n q q<|.n q q<|.n q q<|.o (pkTV q q q)<|.nilL _ ⟨.ptr q,cB q (mOrT (dt c3)),trivial⟩)
    ·refine .g q (df c3) (faP fa28_1 q)<|.g q (df c3) (ldP q sz3 ag3 q)<|.g q (df c3) (gtI q q)<|.o (pkFV q (df c3) q)<|.m q<|?_
     by_cases c4:a0.States > 4096
     ·exact (.n q (dt c4)<|.n q (dt c4)<|.n q (dt c4)<|.o (pkTV q (dt c4) q)<|.m q<|.n q q<|.n q q<|.n q q<|.o (pkTV q q q)<|.nilL _ ⟨.ptr q,cB q (mOrF (df c3) (mOrT (dt c4))),trivial⟩)
     ·refine .g q (df c4) (faP fa28_2 q)<|.g q (df c4) (ldP q sz3 ag3 q)<|.g q (df c4) (ltI q q)<|.o (pkFV q (df c4) q)<|.m q<|?_
      by_cases c5:a0.Symbols < 0
      ·exact (.n q (dt c5)<|.n q (dt c5)<|.n q (dt c5)<|.o (pkTV q (dt c5) q)<|.nilL _ ⟨.ptr q,cB q (mOrF (df c3) (mOrF (df c4) (mOrT (dt c5)))),trivial⟩)
      ·exact (.g q (df c5) (faP fa28_2 q)<|.g q (df c5) (ldP q sz3 ag3 q)<|.g q (df c5) (gtI q q)<|.o (pkFV q (df c5) q)<|.nilL _ ⟨.ptr q,cB q (mOrF (df c3) (mOrF (df c4) (mOrF (df c5) q))),trivial⟩)
   by_cases c6:((decide (a0.States < 0)) || ((decide (a0.States > 4096)) || ((decide (a0.Symbols < 0)) || (decide (a0.Symbols > 4096)))))=true
   ·rw [if_pos c6] at h
    refine .condT q c6<|.seq<|.reg0 q (.o (asV q)<|.nil0) ?_
    replace h:=h.symm
    subst h
    refine .kf [(2,i6 110)] q q ?_
    exact .ret q
   ·rw [if_neg c6] at h
    refine .condF q (nb c6)<|.skip<|.seq<|.seq ?_
    obtain ⟨t8_3,g8_3,h⟩:=h
    refine .reg0 q (.o (faP fa28_3 q)<|.o (ldP q sz26 ag26 q)<|.o (mkF q)<|.callI q (callee_of q go99 q) (.lendC (args':=[.rows (a0.Rules.map TRule.cells),.clo 100 [.cptr (TPds.lit a0) 0]])  [0] false (.cons (.free q q)<|.cons (cClo (.cons (cFixP q q (.cons (.free q q)<|.cons (.free q q)<|.cons (.free q q)<|.cons (.free q q)<|.cons (.free q q)<|.cons (.free q q)<|.nil))<|.nil))<|.nil) (by decide) q q q q (slices_ContainsFunc_Rule.D (k1_:=[.cptr (TPds.lit a0) 0]) go100 q q (fun x0_ y_ h_=>pds_Check_1.D h_) g8_3))<|.nil0) ?_
    by_cases c7:t8_3=true
    ·rw [if_pos c7] at h
     refine .condT q c7<|.seq<|.reg0 q (.o (asV q)<|.nil0) ?_
     replace h:=h.symm
     subst h
     refine .kf [(2,i6 110)] q q ?_
     exact .ret q
    ·rw [if_neg c7] at h
     refine .condF q (nb c7)<|.skip<|.seq<|.seq<|.reg0 q (.o (faP fa28_3 q)<|.o (ldP q sz26 ag26 q)<|.o (lnR (l:=a0.Rules) sl26 q)<|.o (mvV q)<|.nil0)<|.block<|.keepL [0] [(1,.ptr 0 1 6 0 0),(40,.rows (a0.Rules.map TRule.cells)),(41,i6 (a0.Rules.length:Int)),(42,i6 0)] [⟨6,[(TPds.lit a0)],0,none⟩] (by decide) (by decide) ⟨.ptr q,.free q q,.free q q,.free q q,trivial⟩ ⟨⟨_,q,bcBox (all2_free q)⟩,trivial⟩ ?_
     obtain ⟨o1,hL1,h⟩:=h
     refine .loopB (pds_Check.b1 a0) (fun x1=>listEnv [(1,.ptr 0 1 6 0 0),(40,.rows (a0.Rules.map TRule.cells)),(41,i6 (a0.Rules.length:Int)),(42,i6 x1)]) (fun x1=>[⟨6,[(TPds.lit a0)],0,none⟩]) (fun _=>listEnv []) (fun _=>[]) hL1 (fun r_=>r=r_) ?_ ?_ ?_
     ·rintro ⟨⟩ rfl
      try dsimp only [Fin.on] at h
      refine .seq<|.reg0 q (.o (asV q)<|.nil0) ?_
      replace h:=h.symm
      subst h
      refine .kf [(2,i6 0)] q q ?_
      exact .ret q
     ·rintro r_ rfl
      exact h
     ·rintro x1 z1 h hn1 hx1 hr1
      dsimp only [pds_Check.b1] at h
      refine .seq<|.reg0 q (.o (ltI q q)<|.nil0)<|.seq ?_
      by_cases c12:x1 < (a0.Rules.length:Int)
      ·rw [if_pos c12] at h
       refine .condT q (dt c12)<|.skip<|.seq<|.block<|.seq ?_
       obtain ⟨g24_0,h⟩:=h
       refine .room 0<|.reg0 q (.o (ixR (l:=a0.Rules) (lit:=TRule.lit) sl26 q q (fun _=>q) g24_0.1 g24_0.2)<|.o (ldCG q sz77 ag77 q)<|.op 1 q (alP (s:=10) ze77 ⟨q,by decide,q⟩ q)<|.o (stB (cs0:=GD_c0) (cs:=(TRule.lit (rdl a0.Rules x1))) (cs1:=(TRule.lit (rdl a0.Rules x1))) q q sz77 q ⟨Nat.le_of_ble_eq_true q,q⟩ q)<|.nil0) ?_
       refine .seq ?_
       obtain ⟨t25_4,g25_4,h⟩:=h
       refine .reg0 q (.o (faP fa28_0 q)<|.o (ldG q sz25 ag25 q)<|.o (faP fa77_4 q)<|.o (ldG q sz53 ag53 q)<|.c q go102 q q q (weight_Check.D g25_4)<|.a q<|.nil0)<|.seq<|.reg0 q (.o (mvV q)<|.o (neI q q)<|.nil0) ?_
       by_cases c13:t25_4=0
       ·rw [if_pos c13] at h
        refine .condF q (nf c13)<|.skip<|.inBlock<|.reg0 q (.o (addI q q)<|.o (mvV q)<|.nil0)<|.keepL [0] [(1,.ptr 0 1 6 0 0),(40,.rows (a0.Rules.map TRule.cells)),(41,i6 (a0.Rules.length:Int)),(42,i6 (IntKind.i64.wrap (x1 + 1)))] [⟨6,[(TPds.lit a0)],0,none⟩] (by decide) (by decide) ⟨.ptr q,.free q q,.free q q,.free q q,trivial⟩ ⟨⟨_,q,bcBox (all2_free q)⟩,trivial⟩ ?_
        exact hn1 _ h
       ·rw [if_neg c13] at h
        refine .condT q (nt c13)<|.seq<|.reg0 q (.o (mvV q)<|.o (asV q)<|.nil0) ?_
        have q3:=hr1 _ h
        replace q3:=q3.symm
        subst q3
        refine .kf [(2,i6 t25_4)] q q ?_
        exact .ret q
      ·rw [if_neg c12] at h
       refine .condF q (df c12)<|.exit q<|.keepL [] [] [] (by decide) (by decide) trivial trivial ?_
       exact hx1 _ h
 ·rw [if_neg c1] at h
  refine .condT q (nt c1)<|.seq<|.reg0 q (.o (mvV q)<|.o (asV q)<|.nil0) ?_
  replace h:=h.symm
  subst h
  refine .kf [(2,i6 t2_2)] q q ?_
  exact .ret q
def steps_Check.b1 (a0:TPds) (a1:TConf):Int→Rnd Int Unit Int→Prop:=fun x1 z1=>if x1 < (a1.W.length:Int) then (((InR x1 a1.W.length))∧if ((decide ((rdl a1.W x1) < 0)) || (decide ((rdl a1.W x1) ≥ a0.Symbols)))=true then (z1=.ret 120) else (z1=.next (IntKind.i64.wrap (x1 + 1)))) else (z1=.exit ())
def steps_Check.f (a0:TPds) (a1:TConf) (r:Int):Prop :=
 ∃ t2_1:Int,(pds_Check.f a0 t2_1)∧if t2_1=0 then (if ((decide (a1.P < 0)) || ((decide (a1.P ≥ a0.States)) || (decide ((a1.W.length:Int) > 4096))))=true then (r=120) else (∃ o1:Fin Unit Int,Loop (steps_Check.b1 a0 a1) 0 o1∧o1.on (fun _=>r=0) (fun r_=>r=r_))) else (r=t2_1)
theorem steps_Check.D {a0 a1 r} (h:steps_Check.f a0 a1 r):D Tryz.prog X (.callH 31 [.agg (TPds.lit a0),.agg (TConf.lit a1)] [] (.val (.int .i64 r)) []):=by
 unfold steps_Check.f at h
 refine .enter 45 0 fn31 q q q<|.seq<|.room 0<|.room 0<|.reg0 q (.o (bxP (s:=6) (cs:=(TPds.lit a0)) q ⟨q,by decide,q⟩ q)<|.op 1 q (bxP (s:=2) (cs:=(TConf.lit a1)) q ⟨q,by decide,q⟩ q)<|.o (asV q)<|.nil0)<|.seq<|.seq ?_
 obtain ⟨t2_1,g2_1,h⟩:=h
 refine .reg0 q (.o (ldG q sz28 ag28 q)<|.c q go61 q q q (pds_Check.D g2_1)<|.a q<|.nil0)<|.seq<|.reg0 q (.o (mvV q)<|.o (neI q q)<|.nil0) ?_
 by_cases c1:t2_1=0
 ·rw [if_pos c1] at h
  refine .condF q (nf c1)<|.skip<|.seq<|.seq ?_
  refine .reg0 (e1:=listEnv [(2,.ptr 0 1 6 0 0),(3,.ptr 1 1 2 0 0),(28,bo ((decide (a1.P < 0)) || ((decide (a1.P ≥ a0.States)) || (decide ((a1.W.length:Int) > 4096)))))]) (H1:=[⟨6,[(TPds.lit a0)],0,none⟩,⟨2,[(TConf.lit a1)],0,none⟩]) q ?_ ?_
  ·refine .o (faP fa36_0 q)<|.o (ldP q sz3 ag3 q)<|.o (ltI q q)<|.m q<|?_
   by_cases c2:a1.P < 0
   ·exact (.n q (dt c2)<|.n q (dt c2)<|.n q (dt c2)<|.n q (dt c2)<|.n q (dt c2)<|.o (pkTV q (dt c2) q)<|.m q<|.n q q<|.n q q<|.n q q<|.n q q<|.o (pkTV q q q)<|.nilL _ ⟨.ptr q,.ptr q,cB q (mOrT (dt c2)),trivial⟩)
   ·refine .g q (df c2) (faP fa36_0 q)<|.g q (df c2) (ldP q sz3 ag3 q)<|.g q (df c2) (faP fa28_1 q)<|.g q (df c2) (ldP q sz3 ag3 q)<|.g q (df c2) (geI q q)<|.o (pkFV q (df c2) q)<|.m q<|?_
    by_cases c3:a1.P ≥ a0.States
    ·exact (.n q (dt c3)<|.n q (dt c3)<|.n q (dt c3)<|.n q (dt c3)<|.o (pkTV q (dt c3) q)<|.nilL _ ⟨.ptr q,.ptr q,cB q (mOrF (df c2) (mOrT (dt c3))),trivial⟩)
    ·exact (.g q (df c3) (faP fa36_1 q)<|.g q (df c3) (ldP q sz29 ag29 q)<|.g q (df c3) (lnR (l:=a1.W) sl29 q)<|.g q (df c3) (gtI q q)<|.o (pkFV q (df c3) q)<|.nilL _ ⟨.ptr q,.ptr q,cB q (mOrF (df c2) (mOrF (df c3) q)),trivial⟩)
  by_cases c4:((decide (a1.P < 0)) || ((decide (a1.P ≥ a0.States)) || (decide ((a1.W.length:Int) > 4096))))=true
  ·rw [if_pos c4] at h
   refine .condT q c4<|.seq<|.reg0 q (.o (asV q)<|.nil0) ?_
   replace h:=h.symm
   subst h
   refine .kf [(4,i6 120)] q q ?_
   exact .ret q
  ·rw [if_neg c4] at h
   refine .condF q (nb c4)<|.skip<|.seq<|.seq<|.reg0 q (.o (faP fa36_1 q)<|.o (ldP q sz29 ag29 q)<|.o (lnR (l:=a1.W) sl29 q)<|.o (mvV q)<|.nil0)<|.block<|.keepL [0] [(2,.ptr 0 1 6 0 0),(30,.rows (a1.W.map (cInt .i64))),(31,i6 (a1.W.length:Int)),(32,i6 0)] [⟨6,[(TPds.lit a0)],0,none⟩] (by decide) (by decide) ⟨.ptr q,.free q q,.free q q,.free q q,trivial⟩ ⟨⟨_,q,bcBox (all2_free q)⟩,trivial⟩ ?_
   obtain ⟨o1,hL1,h⟩:=h
   refine .loopB (steps_Check.b1 a0 a1) (fun x1=>listEnv [(2,.ptr 0 1 6 0 0),(30,.rows (a1.W.map (cInt .i64))),(31,i6 (a1.W.length:Int)),(32,i6 x1)]) (fun x1=>[⟨6,[(TPds.lit a0)],0,none⟩]) (fun _=>listEnv []) (fun _=>[]) hL1 (fun r_=>r=r_) ?_ ?_ ?_
   ·rintro ⟨⟩ rfl
    try dsimp only [Fin.on] at h
    refine .seq<|.reg0 q (.o (asV q)<|.nil0) ?_
    replace h:=h.symm
    subst h
    refine .kf [(4,i6 0)] q q ?_
    exact .ret q
   ·rintro r_ rfl
    exact h
   ·rintro x1 z1 h hn1 hx1 hr1
    dsimp only [steps_Check.b1] at h
    refine .seq<|.reg0 q (.o (ltI q q)<|.nil0)<|.seq ?_
    by_cases c11:x1 < (a1.W.length:Int)
    ·rw [if_pos c11] at h
     refine .condT q (dt c11)<|.skip<|.seq<|.block<|.seq ?_
     obtain ⟨g18_0,h⟩:=h
     refine .reg0 q (.o (ixR (l:=a1.W) (lit:=(cInt .i64)) sl29 q q (fun _=>q) g18_0.1 g18_0.2)<|.o (ldC q sz3 ag3 q)<|.a q<|.nil0)<|.seq ?_
     refine .reg0 (e1:=listEnv [(2,.ptr 0 1 6 0 0),(30,.rows (a1.W.map (cInt .i64))),(31,i6 (a1.W.length:Int)),(32,i6 x1),(43,bo ((decide ((rdl a1.W x1) < 0)) || (decide ((rdl a1.W x1) ≥ a0.Symbols))))]) (H1:=[⟨6,[(TPds.lit a0)],0,none⟩]) q ?_ ?_
     ·refine .m q<|.o (ltI q q)<|.m q<|?_
      by_cases c12:(rdl a1.W x1) < 0
      ·exact (.n q (dt c12)<|.n q (dt c12)<|.n q (dt c12)<|.n q (dt c12)<|.o (pkTV q (dt c12) q)<|.nilL _ ⟨.ptr q,.free q q,.free q q,.free q q,cB q (mOrT (dt c12)),trivial⟩)
      ·exact (.g q (df c12) (mvV q)<|.g q (df c12) (faP fa28_2 q)<|.g q (df c12) (ldP q sz3 ag3 q)<|.g q (df c12) (geI q q)<|.o (pkFV q (df c12) q)<|.nilL _ ⟨.ptr q,.free q q,.free q q,.free q q,cB q (mOrF (df c12) q),trivial⟩)
     by_cases c13:((decide ((rdl a1.W x1) < 0)) || (decide ((rdl a1.W x1) ≥ a0.Symbols)))=true
     ·rw [if_pos c13] at h
      refine .condT q c13<|.seq<|.reg0 q (.o (asV q)<|.nil0) ?_
      have q3:=hr1 _ h
      replace q3:=q3.symm
      subst q3
      refine .kf [(4,i6 120)] q q ?_
      exact .ret q
     ·rw [if_neg c13] at h
      refine .condF q (nb c13)<|.skip<|.inBlock<|.reg0 q (.o (addI q q)<|.o (mvV q)<|.nil0)<|.keepL [0] [(2,.ptr 0 1 6 0 0),(30,.rows (a1.W.map (cInt .i64))),(31,i6 (a1.W.length:Int)),(32,i6 (IntKind.i64.wrap (x1 + 1)))] [⟨6,[(TPds.lit a0)],0,none⟩] (by decide) (by decide) ⟨.ptr q,.free q q,.free q q,.free q q,trivial⟩ ⟨⟨_,q,bcBox (all2_free q)⟩,trivial⟩ ?_
      exact hn1 _ h
    ·rw [if_neg c11] at h
     refine .condF q (df c11)<|.exit q<|.keepL [] [] [] (by decide) (by decide) trivial trivial ?_
     exact hx1 _ h
 ·rw [if_neg c1] at h
  refine .condT q (nt c1)<|.seq<|.reg0 q (.o (mvV q)<|.o (asV q)<|.nil0) ?_
  replace h:=h.symm
  subst h
  refine .kf [(4,i6 t2_1)] q q ?_
  exact .ret q
def slices_Equal_int.b1 (a0:List Int) (a1:List Int):Int→Rnd Int Unit Bool→Prop:=fun x1 z1=>if x1 < (a0.length:Int) then (((InR x1 a0.length))∧((InR x1 a1.length))∧if (rdl a0 x1)=(rdl a1 x1) then (z1=.next (IntKind.i64.wrap (x1 + 1))) else (z1=.ret false)) else (z1=.exit ())
def slices_Equal_int.f (a0:List Int) (a1:List Int) (r:Bool):Prop :=
 if (a0.length:Int)=(a1.length:Int) then (∃ o1:Fin Unit Bool,Loop (slices_Equal_int.b1 a0 a1) 0 o1∧o1.on (fun _=>r=true) (fun r_=>r=r_)) else (r=false)
theorem slices_Equal_int.D {a0 a1 r} (h:slices_Equal_int.f a0 a1 r):D Tryz.prog X (.callH 32 [.rows (a0.map (cInt .i64)),.rows (a1.map (cInt .i64))] [] (.val (.bool r)) []):=by
 unfold slices_Equal_int.f at h
 refine .enter 26 0 fn32 q q q<|.seq<|.reg0 q (.o (asV q)<|.nil0)<|.seq<|.seq<|.reg0 q (.o (mvR q)<|.o (lnR (l:=a0) sl29 q)<|.o (mvR q)<|.o (lnR (l:=a1) sl29 q)<|.o (neI q q)<|.nil0) ?_
 by_cases c1:(a0.length:Int)=(a1.length:Int)
 ·rw [if_pos c1] at h
  refine .condF q (nf c1)<|.skip<|.seq<|.seq<|.reg0 q (.o (mvR q)<|.o (lnR (l:=a0) sl29 q)<|.o (mvV q)<|.nil0)<|.block<|.keepL [] [(0,.rows (a0.map (cInt .i64))),(1,.rows (a1.map (cInt .i64))),(12,i6 (a0.length:Int)),(13,i6 0)] [] (by decide) (by decide) ⟨.free q q,.free q q,.free q q,.free q q,trivial⟩ trivial ?_
  obtain ⟨o1,hL1,h⟩:=h
  refine .loopB (slices_Equal_int.b1 a0 a1) (fun x1=>listEnv [(0,.rows (a0.map (cInt .i64))),(1,.rows (a1.map (cInt .i64))),(12,i6 (a0.length:Int)),(13,i6 x1)]) (fun x1=>[]) (fun _=>listEnv []) (fun _=>[]) hL1 (fun r_=>r=r_) ?_ ?_ ?_
  ·rintro ⟨⟩ rfl
   try dsimp only [Fin.on] at h
   refine .seq<|.reg0 q (.o (asV q)<|.nil0) ?_
   replace h:=h.symm
   subst h
   refine .kf [(4,bo true)] q q ?_
   exact .ret q
  ·rintro r_ rfl
   exact h
  ·rintro x1 z1 h hn1 hx1 hr1
   dsimp only [slices_Equal_int.b1] at h
   refine .seq<|.reg0 q (.o (ltI q q)<|.nil0)<|.seq ?_
   by_cases c6:x1 < (a0.length:Int)
   ·rw [if_pos c6] at h
    refine .condT q (dt c6)<|.skip<|.seq<|.block<|.seq<|.reg0 q (.o (mvV q)<|.o (asV q)<|.nil0)<|.seq ?_
    obtain ⟨g16_2,h⟩:=h
    obtain ⟨g16_6,h⟩:=h
    refine .reg1 (e1:=listEnv [(0,.rows (a0.map (cInt .i64))),(1,.rows (a1.map (cInt .i64))),(12,i6 (a0.length:Int)),(13,i6 x1),(24,bo ((rdl a0 x1) != (rdl a1 x1)))]) (H1:=[]) q ?_ ?_
    ·exact .drawM [(8,24,bo ((rdl a0 x1) != (rdl a1 x1))),(7,23,i6 (rdl a1 x1)),(6,22,.cptr ((cInt .i64) (rdl a1 x1)) 0),(5,21,i6 x1),(4,20,.rows (a1.map (cInt .i64))),(3,19,i6 (rdl a0 x1)),(2,18,.cptr ((cInt .i64) (rdl a0 x1)) 0),(1,17,i6 x1),(0,16,.rows (a0.map (cInt .i64)))] [] [[],[],[0,1],[2,0,1],[],[],[4,5],[6,4,5],[3,2,0,1,7,6,4,5]] (by rfl) (by rfl) (by rfl) (by exact ⟨oP (fun _=>mvR q) q,oP (fun _=>mvV q) q,oP (fun _=>ixR (l:=a0) (lit:=(cInt .i64)) sl29 q q (fun _=>q) g16_2.1 g16_2.2) q,oP (fun _=>ldC q sz3 ag3 q) q,oP (fun _=>mvR q) q,oP (fun _=>mvV q) q,oP (fun _=>ixR (l:=a1) (lit:=(cInt .i64)) sl29 q q (fun _=>q) g16_6.1 g16_6.2) q,oP (fun _=>ldC q sz3 ag3 q) q,oP (fun _=>neI q q) q,trivial⟩) _ (by exact ⟨.free q q,.free q q,.free q q,.free q q,.free q q,trivial⟩) (by rfl)
    by_cases c7:(rdl a0 x1)=(rdl a1 x1)
    ·rw [if_pos c7] at h
     refine .condF q (nf c7)<|.skip<|.inBlock<|.reg0 q (.o (addI q q)<|.o (mvV q)<|.nil0)<|.kf [(0,.rows (a0.map (cInt .i64))),(1,.rows (a1.map (cInt .i64))),(12,i6 (a0.length:Int)),(13,i6 (IntKind.i64.wrap (x1 + 1)))] q q ?_
     exact hn1 _ h
    ·rw [if_neg c7] at h
     refine .condT q (nt c7)<|.seq<|.reg0 q (.o (asV q)<|.nil0) ?_
     have q3:=hr1 _ h
     replace q3:=q3.symm
     subst q3
     refine .kf [(4,bo false)] q q ?_
     exact .ret q
   ·rw [if_neg c6] at h
    refine .condF q (df c6)<|.exit q<|.keepL [] [] [] (by decide) (by decide) trivial trivial ?_
    exact hx1 _ h
 ·rw [if_neg c1] at h
  refine .condT q (nt c1)<|.seq<|.reg0 q (.o (asV q)<|.nil0) ?_
  replace h:=h.symm
  subst h
  refine .kf [(4,bo false)] q q ?_
  exact .ret q
def steps_all.j1 (x8:Int):((List Int) × (List TConf))→(Rnd (((List Int) × (List TConf) × Int)) (((List Int) × (List TConf))) ((List Int) × (List TConf) × Int))→Prop:=fun (x17,x18) z1=>z1=.next (x17,x18,(IntKind.i64.wrap (x8 + 1)))
def steps_all.b1 (a0:TPds) (a1:TConf) (a2:TRule→TConf→(TConf × Bool × Int)→Prop):((List Int) × (List TConf) × Int)→Rnd (((List Int) × (List TConf) × Int)) (((List Int) × (List TConf))) ((List Int) × (List TConf) × Int)→Prop:=fun (x6,x7,x8) z1=>if x8 < (a0.Rules.length:Int) then (((InR x8 a0.Rules.length))∧∃ t48_3:TConf × Bool × Int,(a2 (rdl a0.Rules x8) a1 t48_3)∧if t48_3.2.2=0 then (if t48_3.2.1=true then (((Fits (x6.length + 1) 8))∧((Fits (x7.length + 1) 32))∧steps_all.j1 x8 ((x6 ++ [x8]),(x7 ++ [t48_3.1])) z1) else (steps_all.j1 x8 (x6,x7) z1)) else (z1=.ret ([],[],t48_3.2.2))) else (z1=.exit (x6,x7))
def steps_all.f (a0:TPds) (a1:TConf) (a2:TRule→TConf→(TConf × Bool × Int)→Prop) (r:(List Int) × (List TConf) × Int):Prop :=
 ∃ t2_2:Int,(steps_Check.f a0 a1 t2_2)∧if t2_2=0 then (∃ o1:Fin (((List Int) × (List TConf))) ((List Int) × (List TConf) × Int),Loop (steps_all.b1 a0 a1 a2) ([],[],0) o1∧o1.on (fun (x13,x14)=>r=(x13,x14,0)) (fun r_=>r=r_)) else (r=([],[],t2_2))
theorem steps_all.D {a0:TPds} {a1:TConf} {a2:TRule→TConf→(TConf × Bool × Int)→Prop} {r:(List Int) × (List TConf) × Int} {c2_:FuncId} {k2_:List PV} (hg2_:isGo Tryz.prog c2_=true) (hk2_:PV.free deep (.clo c2_ k2_)=true) (hka2_:k2_.all (PV.free deep)=true) (hq2_:∀ x0_ x1_ y_,a2 x0_ x1_ y_→D Tryz.prog X (.callH c2_ ([.agg (TRule.lit x0_),.agg (TConf.lit x1_)] ++ k2_) [] (.tuple [.agg (TConf.lit y_.1),.val (.bool y_.2.1),.val (.int .i64 y_.2.2)]) [])) (h:steps_all.f a0 a1 a2 r):D Tryz.prog X (.callH 62 [.agg (TPds.lit a0),.agg (TConf.lit a1),.clo c2_ k2_] [] (.tuple [.rows (r.1.map (cInt .i64)),.rows (r.2.1.map TConf.cells),.val (.int .i64 r.2.2)]) []):=by
 unfold steps_all.f at h
 refine .enter 54 0 fn62 q q q<|.seq<|.room 0<|.room 0<|.reg0 q (.o (bxP (s:=6) (cs:=(TPds.lit a0)) q ⟨q,by decide,q⟩ q)<|.op 1 q (bxP (s:=2) (cs:=(TConf.lit a1)) q ⟨q,by decide,q⟩ q)<|.o (asV q)<|.o (asV q)<|.o (asV q)<|.nil0)<|.seq<|.seq ?_
 obtain ⟨t2_2,g2_2,h⟩:=h
 refine .reg0 q (.o (ldG q sz28 ag28 q)<|.o (ldG q sz36 ag36 q)<|.c q go31 q q q (steps_Check.D g2_2)<|.a q<|.nil0)<|.seq<|.reg0 q (.o (mvV q)<|.o (neI q q)<|.nil0) ?_
 by_cases c1:t2_2=0
 ·rw [if_pos c1] at h
  refine .condF q (nf c1)<|.skip<|.seq<|.reg0 q (.o (asV q)<|.nil0)<|.seq<|.reg0 q (.o (asV q)<|.nil0)<|.seq<|.seq<|.reg0 q (.o (faP fa28_3 q)<|.o (ldP q sz26 ag26 q)<|.o (lnR (l:=a0.Rules) sl26 q)<|.o (mvV q)<|.nil0)<|.block<|.room 1<|.room 2<|.keepL [1,2,3] [(2,.clo c2_ k2_),(4,.ptr 0 1 2 0 0),(10,.own 1 0),(11,.own 2 0),(24,.rows (a0.Rules.map TRule.cells)),(25,i6 (a0.Rules.length:Int)),(26,i6 0)] [⟨2,[(TConf.lit a1)],0,none⟩,⟨1,[].map (cInt .i64),0,none⟩,⟨2,[].map TConf.cells,0,none⟩] (by decide) (by decide) ⟨.free q hk2_,.ptr q,.nilOwn,.nilOwn,.free q q,.free q q,.free q q,trivial⟩ ⟨⟨_,q,bcBox (all2_free q)⟩,⟨_,q,(bcRow (l:=[]) sl29 (Nat.le_refl _) q)⟩,⟨_,q,(bcRow (l:=[]) sl71 (Nat.le_refl _) q)⟩,trivial⟩ ?_
  obtain ⟨o1,hL1,h⟩:=h
  refine .loopB (steps_all.b1 a0 a1 a2) (fun (x6,x7,x8)=>listEnv [(2,.clo c2_ k2_),(4,.ptr 0 1 2 0 0),(10,.own 1 x6.length),(11,.own 2 x7.length),(24,.rows (a0.Rules.map TRule.cells)),(25,i6 (a0.Rules.length:Int)),(26,i6 x8)]) (fun (x6,x7,x8)=>[⟨2,[(TConf.lit a1)],0,none⟩,⟨1,x6.map (cInt .i64),0,none⟩,⟨2,x7.map TConf.cells,0,none⟩]) (fun (x13,x14)=>listEnv [(10,.own 0 x13.length),(11,.own 1 x14.length)]) (fun (x13,x14)=>[⟨1,x13.map (cInt .i64),0,none⟩,⟨2,x14.map TConf.cells,0,none⟩]) hL1 (fun r_=>r=r_) ?_ ?_ ?_
  ·rintro ⟨x13,x14⟩ rfl
   try dsimp only [Fin.on] at h
   refine .seq<|.reg0 q (.o (mvO q)<|.o (mvO q)<|.o (asO q)<|.o (asO q)<|.o (asV q)<|.nil0) ?_
   replace h:=h.symm
   subst h
   refine .k [(6,.rows (x13.map (cInt .i64))),(7,.rows (x14.map TConf.cells)),(8,i6 0)] ⟨cFixO (l:=x13) sl29 q q q q,cFixO (l:=x14) sl71 q q q q,.free q q,trivial⟩ ?_
   exact .ret q
  ·rintro r_ rfl
   exact h
  ·rintro ⟨x6,x7,x8⟩ z1 h hn1 hx1 hr1
   dsimp only [steps_all.b1] at h
   refine .seq<|.reg0 q (.o (ltI q q)<|.nil0)<|.seq ?_
   by_cases c16:x8 < (a0.Rules.length:Int)
   ·rw [if_pos c16] at h
    refine .condT q (dt c16)<|.skip<|.seq<|.block<|.seq ?_
    obtain ⟨g47_1,h⟩:=h
    refine .room 0<|.reg0 q (.o (mvV q)<|.o (ixR (l:=a0.Rules) (lit:=TRule.lit) sl26 q q (fun _=>q) g47_1.1 g47_1.2)<|.o (ldCG q sz77 ag77 q)<|.op 3 q (alP (s:=10) ze77 ⟨q,by decide,q⟩ q)<|.o (asV q)<|.o (stB (cs0:=GD_c0) (cs:=(TRule.lit (rdl a0.Rules x8))) (cs1:=(TRule.lit (rdl a0.Rules x8))) q q sz77 q ⟨Nat.le_of_ble_eq_true q,q⟩ q)<|.nil0) ?_
    refine .seq ?_
    obtain ⟨t48_3,g48_3,h⟩:=h
    refine .room 0<|.reg0 q (.o (mvF q)<|.o (ldG q sz77 ag77 q)<|.o (ldG q sz36 ag36 q)<|.callI q (callee_of q hg2_ q) (.pure (allCons q (allCons q hka2_)) q (hq2_ _ _ _ g48_3))<|.o (mvT q)<|.o (exT q q)<|.o (exT q q)<|.o (exT q q)<|.op 4 q (alP (s:=2) ze36 ⟨q,by decide,q⟩ q)<|.o (stB (cs0:=[i6 0,nul]) (cs:=(TConf.lit t48_3.1)) (cs1:=(TConf.lit t48_3.1)) q q sz36 q ⟨Nat.le_of_ble_eq_true q,q⟩ q)<|.o (asV q)<|.o (asV q)<|.nil0) ?_
    refine .seq<|.seq<|.reg0 q (.o (mvV q)<|.o (neI q q)<|.nil0) ?_
    by_cases c20:t48_3.2.2=0
    ·rw [if_pos c20] at h
     refine .condF q (nf c20)<|.skip<|.seq<|.reg0 q (.o (mvV q)<|.nil0) ?_
     refine .consJ (fun s_=>steps_all.j1 x8 s_ z1) (fun (x17,x18)=>listEnv [(2,.clo c2_ k2_),(4,.ptr 0 1 2 0 0),(10,.own 1 x17.length),(11,.own 2 x18.length),(24,.rows (a0.Rules.map TRule.cells)),(25,i6 (a0.Rules.length:Int)),(26,i6 x8)]) (fun (x17,x18)=>[⟨2,[(TConf.lit a1)],0,none⟩,⟨1,x17.map (cInt .i64),0,none⟩,⟨2,x18.map TConf.cells,0,none⟩]) ?_ fun hJ1=>?_
     ·rintro ⟨x17,x18⟩ h
      unfold steps_all.j1 at h
      try dsimp only at h
      refine .inBlock<|.reg0 q (.o (addI q q)<|.o (mvV q)<|.nil0)<|.keepL [0,1,2] [(2,.clo c2_ k2_),(4,.ptr 0 1 2 0 0),(10,.own 1 x17.length),(11,.own 2 x18.length),(24,.rows (a0.Rules.map TRule.cells)),(25,i6 (a0.Rules.length:Int)),(26,i6 (IntKind.i64.wrap (x8 + 1)))] [⟨2,[(TConf.lit a1)],0,none⟩,⟨1,x17.map (cInt .i64),0,none⟩,⟨2,x18.map TConf.cells,0,none⟩] (by decide) (by decide) ⟨.free q hk2_,.ptr q,.own q,.own q,.free q q,.free q q,.free q q,trivial⟩ ⟨⟨_,q,bcBox (all2_free q)⟩,⟨_,q,bcRow (l:=x17) sl29 (Nat.le_refl _) q⟩,⟨_,q,bcRow (l:=x18) sl71 (Nat.le_refl _) q⟩,trivial⟩ ?_
      exact hn1 _ h
     ·by_cases c22:t48_3.2.1=true
      ·rw [if_pos c22] at h
       refine .condT q c22 ?_
       obtain ⟨g53_3,h⟩:=h
       obtain ⟨g53_7,h⟩:=h
       refine .room 0<|.room 0<|.room 0<|.room 0 ?_
       refine .reg1 (e1:=listEnv [(2,.clo c2_ k2_),(4,.ptr 0 1 2 0 0),(10,.own 1 ((x6 ++ [x8]).length)),(11,.own 2 ((x7 ++ [t48_3.1]).length)),(24,.rows (a0.Rules.map TRule.cells)),(25,i6 (a0.Rules.length:Int)),(26,i6 x8)]) (H1:=[⟨2,[(TConf.lit a1)],0,none⟩,⟨1,(x6 ++ [x8]).map (cInt .i64),0,none⟩,⟨2,(x7 ++ [t48_3.1]).map TConf.cells,0,none⟩,⟨10,[(TRule.lit (rdl a0.Rules x8))],0,none⟩,⟨2,[(TConf.lit t48_3.1)],0,none⟩,⟨1,[x8].map (cInt .i64),0,none⟩,Blk.hole,⟨2,[t48_3.1].map TConf.cells,0,none⟩,Blk.hole]) q ?_ ?_
       ·exact .drawM [(9,11,.own 2 ((x7 ++ [t48_3.1]).length)),(8,10,.own 1 ((x6 ++ [x8]).length)),(7,50,.own 2 ((x7 ++ [t48_3.1]).length)),(6,49,.own 7 ([t48_3.1].length)),(5,48,.agg (TConf.lit t48_3.1)),(4,47,.own 2 x7.length),(3,46,.own 1 ((x6 ++ [x8]).length)),(2,45,.own 5 ([x8].length)),(1,44,i6 x8),(0,43,.own 1 x6.length)] [(7,2,⟨2,(x7 ++ [t48_3.1]).map TConf.cells,0,none⟩),(6,7,⟨2,[t48_3.1].map TConf.cells,0,none⟩),(3,1,⟨1,(x6 ++ [x8]).map (cInt .i64),0,none⟩),(2,5,⟨1,[x8].map (cInt .i64),0,none⟩)] [[],[],[1],[0,2,1],[],[],[5],[4,6,5,3,0,2,1],[3,0,2,1,7,4,6,5],[7,4,6,5,3,0,2,1,8]] (by rfl) (by rfl) (by rfl) (by exact ⟨oP (fun _=>mvO q) q,oP (fun _=>mvV q) q,oW 5 (fun _=>bldL (s:=1) (cs:=[i6 x8]) un29 sz3 ze3 ⟨by decide,q,by decide⟩ q q q q) q fun _=>q,oW 0 (fun _=>ap1 (l:=x6) x8 sl29 q q q (Nat.zero_le _) (elems_own (l:=[x8]) q q) g53_3) q fun _=>q,oP (fun _=>mvO q) q,oP (fun _=>ldG q sz36 ag36 q) q,oW 7 (fun _=>bldL (s:=2) (cs:=[i6 t48_3.1.P,.rows (t48_3.1.W.map (cInt .i64))]) un71 sz36 ze36 ⟨by decide,q,by decide⟩ q q q q) q fun _=>q,oW 0 (fun _=>ap1 (l:=x7) t48_3.1 sl71 q q q (Nat.zero_le _) (elems_own (l:=[t48_3.1]) q q) g53_7) q fun _=>q,oP (fun _=>asO q) q,oP (fun _=>asO q) q,trivial⟩) _ (by exact ⟨.free q hk2_,.ptr q,.own q,.own q,.free q q,.free q q,.free q q,trivial⟩) (by rfl)
       refine .keepL [0,1,2] [(2,.clo c2_ k2_),(4,.ptr 0 1 2 0 0),(10,.own 1 ((x6 ++ [x8]).length)),(11,.own 2 ((x7 ++ [t48_3.1]).length)),(24,.rows (a0.Rules.map TRule.cells)),(25,i6 (a0.Rules.length:Int)),(26,i6 x8)] [⟨2,[(TConf.lit a1)],0,none⟩,⟨1,(x6 ++ [x8]).map (cInt .i64),0,none⟩,⟨2,(x7 ++ [t48_3.1]).map TConf.cells,0,none⟩] (by decide) (by decide) ⟨.free q hk2_,.ptr q,.own q,.own q,.free q q,.free q q,.free q q,trivial⟩ ⟨⟨_,q,bcBox (all2_free q)⟩,⟨_,q,bcRow (l:=(x6 ++ [x8])) sl29 (Nat.le_refl _) q⟩,⟨_,q,bcRow (l:=(x7 ++ [t48_3.1])) sl71 (Nat.le_refl _) q⟩,trivial⟩ ?_
       exact hJ1 _ h
      ·rw [if_neg c22] at h
       refine .condF q (nb c22)<|.skip<|.keepL [0,1,2] [(2,.clo c2_ k2_),(4,.ptr 0 1 2 0 0),(10,.own 1 x6.length),(11,.own 2 x7.length),(24,.rows (a0.Rules.map TRule.cells)),(25,i6 (a0.Rules.length:Int)),(26,i6 x8)] [⟨2,[(TConf.lit a1)],0,none⟩,⟨1,x6.map (cInt .i64),0,none⟩,⟨2,x7.map TConf.cells,0,none⟩] (by decide) (by decide) ⟨.free q hk2_,.ptr q,.own q,.own q,.free q q,.free q q,.free q q,trivial⟩ ⟨⟨_,q,bcBox (all2_free q)⟩,⟨_,q,bcRow (l:=x6) sl29 (Nat.le_refl _) q⟩,⟨_,q,bcRow (l:=x7) sl71 (Nat.le_refl _) q⟩,trivial⟩ ?_
       exact hJ1 _ h
    ·rw [if_neg c20] at h
     refine .condT q (nt c20)<|.seq<|.reg0 q (.o (mvV q)<|.o (asV q)<|.o (asV q)<|.o (asV q)<|.nil0) ?_
     have q6:=hr1 _ h
     replace q6:=q6.symm
     subst q6
     refine .k [(6,.rows (([]:List Int).map (cInt .i64))),(7,.rows (([]:List TConf).map TConf.cells)),(8,i6 t48_3.2.2)] ⟨.nil,.nil,.free q q,trivial⟩ ?_
     exact .ret q
   ·rw [if_neg c16] at h
    refine .condF q (df c16)<|.exit q<|.keepL [1,2] [(10,.own 0 x6.length),(11,.own 1 x7.length)] [⟨1,x6.map (cInt .i64),0,none⟩,⟨2,x7.map TConf.cells,0,none⟩] (by decide) (by decide) ⟨.own q,.own q,trivial⟩ ⟨⟨_,q,bcRow (l:=x6) sl29 (Nat.le_refl _) q⟩,⟨_,q,bcRow (l:=x7) sl71 (Nat.le_refl _) q⟩,trivial⟩ ?_
    exact hx1 _ h
 ·rw [if_neg c1] at h
  refine .condT q (nt c1)<|.seq<|.reg0 q (.o (mvV q)<|.o (asV q)<|.o (asV q)<|.o (asV q)<|.nil0) ?_
  replace h:=h.symm
  subst h
  refine .k [(6,.rows (([]:List Int).map (cInt .i64))),(7,.rows (([]:List TConf).map TConf.cells)),(8,i6 t2_2)] ⟨.nil,.nil,.free q q,trivial⟩ ?_
  exact .ret q
def slices_Grow_int_o0.f (a1:Int) (r:(List Int)):Prop:=(0≤a1∧Fits a1 8)∧r=[]
theorem slices_Grow_int_o0.D {a1 r} (h:slices_Grow_int_o0.f a1 r):D Tryz.prog X (.callH 140 [.val (.slice none 0 0),.val (.int .i64 a1)] [] (.own 0 r.length) [⟨1,r.map (cInt .i64),0,none⟩]):=.ext (x_grow h)
end Go.RM.Tryz
