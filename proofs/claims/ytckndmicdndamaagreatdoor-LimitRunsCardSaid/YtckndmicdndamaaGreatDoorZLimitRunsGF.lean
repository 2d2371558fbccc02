/- GF, for the statement LimitRuns: what it needs, no more. -/
import Derived.Test.YtckndmicdndamaaGreatDoorZLimitRunsGE
set_option linter.unusedVariables false
set_option maxRecDepth 8000
set_option maxHeartbeats 4000000
namespace Go.RM.Tryz
open Go.RM Go.Proofs
def facts_Extend.b1 (a0:Int) (a1:TFacts) (a2:TFacts):((List Int) × Int)→Rnd (((List Int) × Int)) ((List Int)) (TFacts × Int)→Prop:=fun (x1,x2) z1=>if x2 < ((List.replicate (Int.toNat a0) (0:Int)).length:Int) then (((InR x2 a1.Rows.length))∧∃ t16_9:Int,(facts_makes.f a2 (rdl a1.Rows x2) t16_9)∧((InR x2 x1.length))∧z1=.next ((setl x1 x2 t16_9),(IntKind.i64.wrap (x2 + 1)))) else (z1=.exit x1)
def facts_Extend.f (a0:Int) (a1:TFacts) (a2:TFacts) (r:TFacts × Int):Prop :=
 ∃ t2_4:Int,(facts_checked.f a0 [a1,a2] t2_4)∧if t2_4=0 then (∃ t4_3:Int,(facts_makes.f a2 a1.Gen t4_3)∧(((0:Int)≤a0∧Fits a0 8))∧∃ o1:Fin ((List Int)) (TFacts × Int),Loop (facts_Extend.b1 a0 a1 a2) ((List.replicate (Int.toNat a0) (0:Int)),0) o1∧o1.on (fun x3=>∃ t18_1:TFacts,(facts_canon.f (TFacts.mk t4_3 x3) t18_1)∧r=(t18_1,0)) (fun r_=>r=r_)) else (r=((TFacts.mk 0 []),t2_4))
abbrev GF_c0:List PV:=[u6 0,i6 0,i6 0]
abbrev GF_c1:List PV:=[u6 0,i6 2,i6 0]
abbrev GF_c2:List PV:=[bo false,i6 0,u6 0,nul,nul,nul]
abbrev GF_c3:List PV:=[bo true,i6 0,u6 0,nul,nul,nul]
abbrev GF_c4:List PV:=[bo false,i6 0,u6 0,.rows (([]:List Int).map (cInt .u64)),.rows (([]:List TCell).map TCell.cells),.rows (([]:List TWeight).map TWeight.cells)]
theorem facts_Extend.D {a0 a1 a2 r} (h:facts_Extend.f a0 a1 a2 r):D Tryz.prog X (.callH 145 [.val (.int .i64 a0),.agg (TFacts.lit a1),.agg (TFacts.lit a2)] [] (.tuple [.agg (TFacts.lit r.1),.val (.int .i64 r.2)]) []):=by
 unfold facts_Extend.f at h
 refine .enter 47 0 fn145 q q q<|.seq<|.room 0<|.room 0<|.room 0<|.reg0 q (.o (bxP (s:=2) (cs:=(TFacts.lit a1)) q ⟨q,by decide,q⟩ q)<|.op 1 q (bxP (s:=2) (cs:=(TFacts.lit a2)) q ⟨q,by decide,q⟩ q)<|.op 2 q (alP (s:=2) ze49 ⟨q,by decide,q⟩ q)<|.o (asV q)<|.nil0)<|.seq<|.seq ?_
 obtain ⟨t2_4,g2_4,h⟩:=h
 refine .room 0<|.reg0 q (.o (mvV q)<|.o (ldG q sz49 ag49 q)<|.o (ldG q sz49 ag49 q)<|.op 3 q (bldL (s:=2) (cs:=[u6 a1.Gen,.rows (a1.Rows.map (cInt .u64)),u6 a2.Gen,.rows (a2.Rows.map (cInt .u64))]) un223 sz49 ze49 ⟨by decide,q,by decide⟩ q q q q)<|.callI q (callee_of q go153 q) (.lendC (args':=[i6 a0,.rows ([a1,a2].map TFacts.cells)])  [3] false (.cons (.free q q)<|.cons (cFixO (l:=[a1,a2]) sl223 q q q q)<|.nil) (by decide) q q q q (facts_checked.D g2_4))<|.o (asV q)<|.nil0) ?_
 refine .seq<|.reg0 q (.o (mvV q)<|.o (neI q q)<|.nil0) ?_
 by_cases c1:t2_4=0
 ·rw [if_pos c1] at h
  refine .condF q (nf c1)<|.skip<|.seq ?_
  obtain ⟨t4_3,g4_3,h⟩:=h
  obtain ⟨g4_5,h⟩:=h
  refine .room 0<|.room 0 ?_
  refine .reg1 (e1:=listEnv [(4,.ptr 0 1 2 0 0),(5,.ptr 1 1 2 0 0),(6,.ptr 2 1 2 0 0),(9,.ptr 5 1 2 0 0)]) (H1:=[⟨2,[(TFacts.lit a1)],0,none⟩,⟨2,[(TFacts.lit a2)],0,none⟩,⟨2,[[u6 0,nul]],0,none⟩,⟨2,[a1,a2].map TFacts.cells,0,none⟩,⟨1,(List.replicate (Int.toNat a0) (0:Int)).map (cInt .u64),0,none⟩,⟨2,[[u6 t4_3,.own 4 ((List.replicate (Int.toNat a0) (0:Int)).length)]],0,none⟩]) q ?_ ?_
  ·exact .drawM [(7,9,.ptr 5 1 2 0 0),(6,26,.agg [u6 t4_3,.own 4 ((List.replicate (Int.toNat a0) (0:Int)).length)]),(5,25,.own 4 ((List.replicate (Int.toNat a0) (0:Int)).length)),(4,24,i6 a0),(3,23,u6 t4_3),(2,22,u6 a1.Gen),(1,21,.ptr 0 1 2 0 0),(0,20,.agg (TFacts.lit a2))] [(8,5,⟨2,[[u6 t4_3,.own 4 ((List.replicate (Int.toNat a0) (0:Int)).length)]],0,none⟩),(7,5,⟨2,[[u6 0,nul]],0,none⟩),(5,4,⟨1,(List.replicate (Int.toNat a0) (0:Int)).map (cInt .u64),0,none⟩)] [[],[],[1],[0,2,1],[],[4],[3,0,2,1,5,4],[],[7,6,3,0,2,1,5,4]] (by rfl) (by rfl) (by rfl) (by exact ⟨oP (fun _=>ldG q sz49 ag49 q) q,oP (fun _=>faP fa49_0 q) q,oP (fun _=>ldP q sz46 ag46 q) q,fun S hS hD hn=>.oneI hS hD hn q q (callee_of q go171 q) (.pure q q (facts_makes.D g4_3)) q q q,oP (fun _=>mvV q) q,oW 4 (fun _=>mkS (z0:=(0:Int)) sl47 un47 ze46 q q g4_5.1 g4_5.2 q) q fun _=>q,oP (fun _=>bldS (cs:=[u6 t4_3,.own 4 ((List.replicate (Int.toNat a0) (0:Int)).length)]) ze49 pl49 q q) q,oW 5 (fun _=>alP (s:=2) ze49 ⟨q,by decide,q⟩ q) q fun _=>q,fun S hS hD hn=>.one0 0 q q (stB (cs0:=[u6 0,nul]) (cs:=[u6 t4_3,.own 4 ((List.replicate (Int.toNat a0) (0:Int)).length)]) (cs1:=[u6 t4_3,.own 4 ((List.replicate (Int.toNat a0) (0:Int)).length)]) q q sz49 q ⟨Nat.le_of_ble_eq_true q,q⟩ q) (drawE_other _ _ _ _ q) q,trivial⟩) _ (by exact ⟨.ptr q,.ptr q,.ptr q,.ptr q,trivial⟩) (by rfl)
  refine .seq<|.seq<|.reg0 q (.o (faP fa49_1 q)<|.o (ldP q sz47 ag47 q)<|.o (lnO (l:=(List.replicate (Int.toNat a0) (0:Int))) sl47 q q q)<|.o (mvV q)<|.nil0)<|.block<|.keepL [0,1,2,5,4] [(4,.ptr 0 1 2 0 0),(5,.ptr 1 1 2 0 0),(6,.ptr 2 1 2 0 0),(9,.ptr 3 1 2 0 0),(29,i6 ((List.replicate (Int.toNat a0) (0:Int)).length:Int)),(30,i6 0)] [⟨2,[(TFacts.lit a1)],0,none⟩,⟨2,[(TFacts.lit a2)],0,none⟩,⟨2,[[u6 0,nul]],0,none⟩,⟨2,[[u6 t4_3,.own 4 ((List.replicate (Int.toNat a0) (0:Int)).length)]],0,none⟩,⟨1,(List.replicate (Int.toNat a0) (0:Int)).map (cInt .u64),0,none⟩] (by decide) (by decide) ⟨.ptr q,.ptr q,.ptr q,.ptr q,.free q q,.free q q,trivial⟩ ⟨⟨_,q,bcBox (all2_free q)⟩,⟨_,q,bcBox (all2_free q)⟩,⟨_,q,bcBox (all2_free q)⟩,⟨_,q,bcBox (.cons (.free q q)<|.cons (.own q)<|.nil)⟩,⟨_,q,bcRow (l:=(List.replicate (Int.toNat a0) (0:Int))) sl47 (Nat.le_refl _) q⟩,trivial⟩ ?_
  obtain ⟨o1,hL1,h⟩:=h
  refine .loopB (facts_Extend.b1 a0 a1 a2) (fun (x1,x2)=>listEnv [(4,.ptr 0 1 2 0 0),(5,.ptr 1 1 2 0 0),(6,.ptr 2 1 2 0 0),(9,.ptr 3 1 2 0 0),(29,i6 ((List.replicate (Int.toNat a0) (0:Int)).length:Int)),(30,i6 x2)]) (fun (x1,x2)=>[⟨2,[(TFacts.lit a1)],0,none⟩,⟨2,[(TFacts.lit a2)],0,none⟩,⟨2,[[u6 0,nul]],0,none⟩,⟨2,[[u6 t4_3,.own 4 x1.length]],0,none⟩,⟨1,x1.map (cInt .u64),0,none⟩]) (fun x3=>listEnv [(6,.ptr 0 1 2 0 0),(9,.ptr 1 1 2 0 0)]) (fun x3=>[⟨2,[[u6 0,nul]],0,none⟩,⟨2,[[u6 t4_3,.own 2 x3.length]],0,none⟩,⟨1,x3.map (cInt .u64),0,none⟩]) hL1 (fun r_=>r=r_) ?_ ?_ ?_
  ·rintro x3 rfl
   try dsimp only [Fin.on] at h
   refine .seq ?_
   obtain ⟨t18_1,g18_1,h⟩:=h
   refine .reg0 q (.o (ldG q sz49 ag49 q)<|.callI q (callee_of q go154 q) (.lendC (args':=[.agg [u6 t4_3,.rows (x3.map (cInt .u64))]])  [2] true (.cons (cAgg (.cons (.free q q)<|.cons (cFixO (l:=x3) sl47 q q q q)<|.nil))<|.nil) (by decide) q q q q (facts_canon.D g18_1))<|.o (stB (cs0:=[u6 0,nul]) (cs:=(TFacts.lit t18_1)) (cs1:=(TFacts.lit t18_1)) q q sz49 q ⟨Nat.le_of_ble_eq_true q,q⟩ q)<|.a q<|.nil0) ?_
   replace h:=h.symm
   subst h
   refine .k [(6,.cptr (TFacts.lit t18_1) 0),(7,i6 0)] ⟨cFixP q q (.cons (.free q q)<|.cons (.free q q)<|.nil),.free q q,trivial⟩ ?_
   exact .ret q
  ·rintro r_ rfl
   exact h
  ·rintro ⟨x1,x2⟩ z1 h hn1 hx1 hr1
   dsimp only [facts_Extend.b1] at h
   refine .seq<|.reg0 q (.o (ltI q q)<|.nil0)<|.seq ?_
   by_cases c4:x2 < ((List.replicate (Int.toNat a0) (0:Int)).length:Int)
   ·rw [if_pos c4] at h
    refine .condT q (dt c4)<|.skip<|.seq<|.block<|.seq<|.reg0 q (.o (mvV q)<|.o (asV q)<|.nil0) ?_
    obtain ⟨g16_7,h⟩:=h
    obtain ⟨t16_9,g16_9,h⟩:=h
    obtain ⟨g16_10,h⟩:=h
    refine .reg1 (e1:=listEnv [(4,.ptr 0 1 2 0 0),(5,.ptr 1 1 2 0 0),(6,.ptr 2 1 2 0 0),(9,.ptr 3 1 2 0 0),(29,i6 ((List.replicate (Int.toNat a0) (0:Int)).length:Int)),(30,i6 x2)]) (H1:=[⟨2,[(TFacts.lit a1)],0,none⟩,⟨2,[(TFacts.lit a2)],0,none⟩,⟨2,[[u6 0,nul]],0,none⟩,⟨2,[[u6 t4_3,.own 4 x1.length]],0,none⟩,⟨1,(setl x1 x2 t16_9).map (cInt .u64),0,none⟩]) q ?_ ?_
    ·exact .drawM [(10,43,.ptr 4 x1.length 1 (Int.toNat x2) 0),(9,42,u6 t16_9),(8,41,u6 (rdl a1.Rows x2)),(7,40,.cptr ((cInt .u64) (rdl a1.Rows x2)) 0),(6,39,i6 x2),(5,38,.rows (a1.Rows.map (cInt .u64))),(4,37,.ptr 0 1 2 0 1),(3,36,.agg (TFacts.lit a2)),(2,35,i6 x2),(1,34,.own 4 x1.length),(0,33,.ptr 3 1 2 0 1)] [(11,4,⟨1,(setl x1 x2 t16_9).map (cInt .u64),0,none⟩)] [[],[0],[],[],[],[4],[],[5,4,6],[7,5,4,6],[3,8,7,5,4,6],[1,0,2,3,4,5,6,7,8,9],[10,1,0,2,3,4,5,6,7,8,9]] (by rfl) (by rfl) (by rfl) (by exact ⟨oP (fun _=>faP fa49_1 q) q,oP (fun _=>ldP q sz47 ag47 q) q,oP (fun _=>mvV q) q,oP (fun _=>ldG q sz49 ag49 q) q,oP (fun _=>faP fa49_1 q) q,oP (fun _=>ldP q sz47 ag47 q) q,oP (fun _=>mvV q) q,oP (fun _=>ixR (l:=a1.Rows) (lit:=(cInt .u64)) sl47 q q (fun _=>q) g16_7.1 g16_7.2) q,oP (fun _=>ldC q sz46 ag46 q) q,fun S hS hD hn=>.oneI hS hD hn q q (callee_of q go171 q) (.pure q q (facts_makes.D g16_9)) q q q,oP (fun _=>ixO (l:=x1) sl47 q q q q g16_10.1 g16_10.2) q,fun S hS hD hn=>.one0 0 q q (stO (l:=x1) (j:=x2) (cs:=[u6 t16_9]) t16_9 sl47 q q sz46 q q g16_10.1 g16_10.2 (Nat.zero_le _) ⟨Nat.le_of_ble_eq_true q,q⟩ q) (drawE_other _ _ _ _ q) q,trivial⟩) _ (by exact ⟨.ptr q,.ptr q,.ptr q,.ptr q,.free q q,.free q q,trivial⟩) (by rfl)
    refine .inBlock<|.reg0 q (.o (addI q q)<|.o (mvV q)<|.nil0)<|.keepL [0,1,2,3,4] [(4,.ptr 0 1 2 0 0),(5,.ptr 1 1 2 0 0),(6,.ptr 2 1 2 0 0),(9,.ptr 3 1 2 0 0),(29,i6 ((List.replicate (Int.toNat a0) (0:Int)).length:Int)),(30,i6 (IntKind.i64.wrap (x2 + 1)))] [⟨2,[(TFacts.lit a1)],0,none⟩,⟨2,[(TFacts.lit a2)],0,none⟩,⟨2,[[u6 0,nul]],0,none⟩,⟨2,[[u6 t4_3,.own 4 ((setl x1 x2 t16_9).length)]],0,none⟩,⟨1,(setl x1 x2 t16_9).map (cInt .u64),0,none⟩] (by decide) (by decide) ⟨.ptr q,.ptr q,.ptr q,.ptr q,.free q q,.free q q,trivial⟩ ⟨⟨_,q,bcBox (all2_free q)⟩,⟨_,q,bcBox (all2_free q)⟩,⟨_,q,bcBox (all2_free q)⟩,⟨_,q,bcBox (.cons (.free q q)<|.cons (cOwnE q (by simp only [setl,List.length_set]))<|.nil)⟩,⟨_,q,bcRow (l:=(setl x1 x2 t16_9)) sl47 (Nat.le_refl _) q⟩,trivial⟩ ?_
    exact hn1 _ h
   ·rw [if_neg c4] at h
    refine .condF q (df c4)<|.exit q<|.keepL [2,3,4] [(6,.ptr 0 1 2 0 0),(9,.ptr 1 1 2 0 0)] [⟨2,[[u6 0,nul]],0,none⟩,⟨2,[[u6 t4_3,.own 2 x1.length]],0,none⟩,⟨1,x1.map (cInt .u64),0,none⟩] (by decide) (by decide) ⟨.ptr q,.ptr q,trivial⟩ ⟨⟨_,q,bcBox (all2_free q)⟩,⟨_,q,bcBox (.cons (.free q q)<|.cons (.own q)<|.nil)⟩,⟨_,q,bcRow (l:=x1) sl47 (Nat.le_refl _) q⟩,trivial⟩ ?_
    exact hx1 _ h
 ·rw [if_neg c1] at h
  refine .condT q (nt c1)<|.seq<|.reg0 q (.o (bldS (cs:=[u6 0,nul]) ze49 pl49 q q)<|.o (mvV q)<|.o (stB (cs0:=[u6 0,nul]) (cs:=[u6 0,nul]) (cs1:=[u6 0,nul]) q q sz49 q ⟨Nat.le_of_ble_eq_true q,q⟩ q)<|.o (asV q)<|.nil0) ?_
  replace h:=h.symm
  subst h
  refine .k [(6,.cptr [u6 0,.rows (([]:List Int).map (cInt .u64))] 0),(7,i6 t2_4)] ⟨cFixP q q (.cons (.free q q)<|.cons (.nil)<|.nil),.free q q,trivial⟩ ?_
  exact .ret q
def cells_two.f (a0:Int) (a1:List TCell) (a2:List TCell) (r:Int):Prop :=
 ∃ t2_2:Int,(cells_Check.f a0 a1 t2_2)∧if t2_2=0 then (∃ t4_2:Int,(cells_Check.f a0 a2 t4_2)∧r=t4_2) else (r=t2_2)
theorem cells_two.D {a0 a1 a2 r} (h:cells_two.f a0 a1 a2 r):D Tryz.prog X (.callH 155 [.val (.int .i64 a0),.rows (a1.map TCell.cells),.rows (a2.map TCell.cells)] [] (.val (.int .i64 r)) []):=by
 unfold cells_two.f at h
 refine .enter 17 0 fn155 q q q<|.seq<|.reg0 q (.o (asV q)<|.nil0)<|.seq<|.seq ?_
 obtain ⟨t2_2,g2_2,h⟩:=h
 refine .reg0 q (.m q<|.o (mvR q)<|.c q go151 q q q (cells_Check.D g2_2)<|.a q<|.nil0)<|.seq<|.reg0 q (.o (mvV q)<|.o (neI q q)<|.nil0) ?_
 by_cases c1:t2_2=0
 ·rw [if_pos c1] at h
  refine .condF q (nf c1)<|.skip<|.seq ?_
  obtain ⟨t4_2,g4_2,h⟩:=h
  refine .reg0 q (.m q<|.o (mvR q)<|.c q go151 q q q (cells_Check.D g4_2)<|.a q<|.nil0) ?_
  replace h:=h.symm
  subst h
  refine .kf [(6,i6 t4_2)] q q ?_
  exact .ret q
 ·rw [if_neg c1] at h
  refine .condT q (nt c1)<|.seq<|.reg0 q (.o (mvV q)<|.o (asV q)<|.nil0) ?_
  replace h:=h.symm
  subst h
  refine .kf [(6,i6 t2_2)] q q ?_
  exact .ret q
def cells_both.f (a0:TCell) (a1:TCell) (r:TCell):Prop :=
 if a0.Kind=0 then (if a1.Kind=2 then (r=(TCell.mk 0 2 0)) else (r=(TCell.mk (bitOp .or .u64 a0.From a1.From) a1.Kind a1.K))) else (if ((!(a1.Kind == 0)) && ((!(a0.Kind == a1.Kind)) || (a0.K != a1.K)))=true then (if (2:Int)=2 then (r=(TCell.mk 0 2 0)) else (r=(TCell.mk (bitOp .or .u64 a0.From a1.From) 2 a0.K))) else (if a0.Kind=2 then (r=(TCell.mk 0 2 0)) else (r=(TCell.mk (bitOp .or .u64 a0.From a1.From) a0.Kind a0.K))))
theorem cells_both.D {a0 a1 r} (h:cells_both.f a0 a1 r):D Tryz.prog X (.callH 156 [.agg (TCell.lit a0),.agg (TCell.lit a1)] [] (.agg (TCell.lit r)) []):=by
 unfold cells_both.f at h
 refine .enter 48 0 fn156 q q q<|.seq<|.room 0<|.room 0<|.room 0<|.reg0 q (.o (bxP (s:=3) (cs:=(TCell.lit a0)) q ⟨q,by decide,q⟩ q)<|.op 1 q (bxP (s:=3) (cs:=(TCell.lit a1)) q ⟨q,by decide,q⟩ q)<|.op 2 q (alP (s:=3) ze97 ⟨q,by decide,q⟩ q)<|.nil0)<|.seq<|.room 0<|.reg0 q (.o (faP fa97_0 q)<|.o (ldP q sz46 ag46 q)<|.o (faP fa97_0 q)<|.o (ldP q sz46 ag46 q)<|.o (orI q q)<|.o (faP fa97_1 q)<|.o (ldP q sz95 ag95 q)<|.o (faP fa97_2 q)<|.o (ldP q sz2 ag2 q)<|.o (bldS (cs:=[u6 (bitOp .or .u64 a0.From a1.From),i6 a0.Kind,i6 a0.K]) ze97 pl97 q q)<|.op 3 q (alP (s:=3) ze97 ⟨q,by decide,q⟩ q)<|.o (stB (cs0:=GF_c0) (cs:=[u6 (bitOp .or .u64 a0.From a1.From),i6 a0.Kind,i6 a0.K]) (cs1:=[u6 (bitOp .or .u64 a0.From a1.From),i6 a0.Kind,i6 a0.K]) q q sz97 q ⟨Nat.le_of_ble_eq_true q,q⟩ q)<|.nil0) ?_
 refine .seq<|.seq<|.reg0 q (.o (faP fa97_1 q)<|.o (ldP q sz95 ag95 q)<|.o (eqI q q)<|.nil0) ?_
 by_cases c1:a0.Kind=0
 ·rw [if_pos c1] at h
  refine .condT q (bt c1) ?_
  refine .reg1 (e1:=listEnv [(4,.ptr 2 1 3 0 0),(5,.ptr 3 1 3 0 0)]) (H1:=[⟨3,[(TCell.lit a0)],0,none⟩,⟨3,[(TCell.lit a1)],0,none⟩,⟨3,[GF_c0],0,none⟩,⟨3,[[u6 (bitOp .or .u64 a0.From a1.From),i6 a1.Kind,i6 a1.K]],0,none⟩]) q ?_ ?_
  ·exact .drawM [(6,24,.ptr 3 1 3 0 2),(4,23,.ptr 3 1 3 0 1),(3,22,i6 a1.K),(2,21,.ptr 1 1 3 0 2),(1,20,i6 a1.Kind),(0,19,.ptr 1 1 3 0 1)] [(7,3,⟨3,[[u6 (bitOp .or .u64 a0.From a1.From),i6 a1.Kind,i6 a1.K]],0,none⟩),(5,3,⟨3,[[u6 (bitOp .or .u64 a0.From a1.From),i6 a1.Kind,i6 a0.K]],0,none⟩)] [[],[0],[],[2],[0,1],[4,0,1],[0,1,2,3,4,5],[6,0,1,2,3,4,5]] (by rfl) (by rfl) (by rfl) (by exact ⟨oP (fun _=>faP fa97_1 q) q,oP (fun _=>ldP q sz95 ag95 q) q,oP (fun _=>faP fa97_2 q) q,oP (fun _=>ldP q sz2 ag2 q) q,oP (fun _=>faP fa97_1 q) q,fun S hS hD hn=>.one0 0 q q (stB (cs0:=[u6 (bitOp .or .u64 a0.From a1.From),i6 a0.Kind,i6 a0.K]) (cs:=[i6 a1.Kind]) (cs1:=[u6 (bitOp .or .u64 a0.From a1.From),i6 a1.Kind,i6 a0.K]) q q sz95 q ⟨Nat.le_of_ble_eq_true q,q⟩ q) (drawE_other _ _ _ _ q) q,oP (fun _=>faP fa97_2 q) q,fun S hS hD hn=>.one0 0 q q (stB (cs0:=[u6 (bitOp .or .u64 a0.From a1.From),i6 a1.Kind,i6 a0.K]) (cs:=[i6 a1.K]) (cs1:=[u6 (bitOp .or .u64 a0.From a1.From),i6 a1.Kind,i6 a1.K]) q q sz2 q ⟨Nat.le_of_ble_eq_true q,q⟩ q) (drawE_other _ _ _ _ q) q,trivial⟩) _ (by exact ⟨.ptr q,.ptr q,trivial⟩) (by rfl)
  refine .seq<|.seq<|.reg0 q (.o (faP fa97_1 q)<|.o (ldP q sz95 ag95 q)<|.o (eqI q q)<|.nil0) ?_
  by_cases c2:a1.Kind=2
  ·rw [if_pos c2] at h
   refine .condT q (bt c2)<|.seq<|.reg0 q (.o (bldS (cs:=GF_c1) ze97 pl97 q q)<|.o (stB (cs0:=GF_c0) (cs:=GF_c1) (cs1:=GF_c1) q q sz97 q ⟨Nat.le_of_ble_eq_true q,q⟩ q)<|.nil0) ?_
   replace h:=h.symm
   subst h
   refine .k [(4,.cptr GF_c1 0)] ⟨cFixP q q (.cons (.free q q)<|.cons (.free q q)<|.cons (.free q q)<|.nil),trivial⟩ ?_
   exact .ret q
  ·rw [if_neg c2] at h
   refine .condF q (bn c2)<|.skip<|.seq<|.reg0 q (.o (ldG q sz97 ag97 q)<|.o (stB (cs0:=GF_c0) (cs:=[u6 (bitOp .or .u64 a0.From a1.From),i6 a1.Kind,i6 a1.K]) (cs1:=[u6 (bitOp .or .u64 a0.From a1.From),i6 a1.Kind,i6 a1.K]) q q sz97 q ⟨Nat.le_of_ble_eq_true q,q⟩ q)<|.nil0) ?_
   replace h:=h.symm
   subst h
   refine .k [(4,.cptr [u6 (bitOp .or .u64 a0.From a1.From),i6 a1.Kind,i6 a1.K] 0)] ⟨cFixP q q (.cons (.free q q)<|.cons (.free q q)<|.cons (.free q q)<|.nil),trivial⟩ ?_
   exact .ret q
 ·rw [if_neg c1] at h
  refine .condF q (bn c1)<|.seq ?_
  refine .reg0 (e1:=listEnv [(4,.ptr 2 1 3 0 0),(5,.ptr 3 1 3 0 0),(41,bo ((!(a1.Kind == 0)) && ((!(a0.Kind == a1.Kind)) || (a0.K != a1.K))))]) (H1:=[⟨3,[(TCell.lit a0)],0,none⟩,⟨3,[(TCell.lit a1)],0,none⟩,⟨3,[GF_c0],0,none⟩,⟨3,[[u6 (bitOp .or .u64 a0.From a1.From),i6 a0.Kind,i6 a0.K]],0,none⟩]) q ?_ ?_
  ·refine .o (faP fa97_1 q)<|.o (ldP q sz95 ag95 q)<|.o (neI q q)<|.m q<|?_
   by_cases c3:a1.Kind=0
   ·exact (.n q (nf c3)<|.n q (nf c3)<|.n q (nf c3)<|.n q (nf c3)<|.n q (nf c3)<|.n q (nf c3)<|.u q<|.u q<|.u q<|.u q<|.u q<|.n q (nf c3)<|.o (pkFV q (nf c3) q)<|.nilL _ ⟨.ptr q,.ptr q,cB q (mAndF (bnotF (bt c3))),trivial⟩)
   ·refine .g q (nt c3) (faP fa97_1 q)<|.g q (nt c3) (ldP q sz95 ag95 q)<|.g q (nt c3) (faP fa97_1 q)<|.g q (nt c3) (ldP q sz95 ag95 q)<|.g q (nt c3) (neI q q)<|.g q (nt c3) (mvV q)<|?_
    by_cases c4:a0.Kind=a1.Kind
    ·exact (.g q (nf c4) (faP fa97_2 q)<|.g q (nf c4) (ldP q sz2 ag2 q)<|.g q (nf c4) (faP fa97_2 q)<|.g q (nf c4) (ldP q sz2 ag2 q)<|.g q (nf c4) (neI q q)<|.g q (nt c3) (pkFV q (nf c4) q)<|.o (pkTV q (nt c3) q)<|.nilL _ ⟨.ptr q,.ptr q,cB q (mAndT (bnotT (bn c3)) (mOrF (bnotF (bt c4)) q)),trivial⟩)
    ·exact (.n q (nt c4)<|.n q (nt c4)<|.n q (nt c4)<|.n q (nt c4)<|.n q (nt c4)<|.g q (nt c3) (pkTV q (nt c4) q)<|.o (pkTV q (nt c3) q)<|.nilL _ ⟨.ptr q,.ptr q,cB q (mAndT (bnotT (bn c3)) (mOrT (bnotT (bn c4)))),trivial⟩)
  by_cases c5:((!(a1.Kind == 0)) && ((!(a0.Kind == a1.Kind)) || (a0.K != a1.K)))=true
  ·rw [if_pos c5] at h
   refine .condT q c5<|.reg0 q (.o (faP fa97_1 q)<|.o (stB (cs0:=[u6 (bitOp .or .u64 a0.From a1.From),i6 a0.Kind,i6 a0.K]) (cs:=[i6 2]) (cs1:=[u6 (bitOp .or .u64 a0.From a1.From),i6 2,i6 a0.K]) q q sz95 q ⟨Nat.le_of_ble_eq_true q,q⟩ q)<|.nil0)<|.seq<|.seq<|.reg0 q (.o (faP fa97_1 q)<|.o (ldP q sz95 ag95 q)<|.o (eqI q q)<|.nil0) ?_
   by_cases c6:(2:Int)=2
   ·rw [if_pos c6] at h
    refine .condT q (bt c6)<|.seq<|.reg0 q (.o (bldS (cs:=GF_c1) ze97 pl97 q q)<|.o (stB (cs0:=GF_c0) (cs:=GF_c1) (cs1:=GF_c1) q q sz97 q ⟨Nat.le_of_ble_eq_true q,q⟩ q)<|.nil0) ?_
    replace h:=h.symm
    subst h
    refine .k [(4,.cptr GF_c1 0)] ⟨cFixP q q (.cons (.free q q)<|.cons (.free q q)<|.cons (.free q q)<|.nil),trivial⟩ ?_
    exact .ret q
   ·rw [if_neg c6] at h
    refine .condF q (bn c6)<|.skip<|.seq<|.reg0 q (.o (ldG q sz97 ag97 q)<|.o (stB (cs0:=GF_c0) (cs:=[u6 (bitOp .or .u64 a0.From a1.From),i6 2,i6 a0.K]) (cs1:=[u6 (bitOp .or .u64 a0.From a1.From),i6 2,i6 a0.K]) q q sz97 q ⟨Nat.le_of_ble_eq_true q,q⟩ q)<|.nil0) ?_
    replace h:=h.symm
    subst h
    refine .k [(4,.cptr [u6 (bitOp .or .u64 a0.From a1.From),i6 2,i6 a0.K] 0)] ⟨cFixP q q (.cons (.free q q)<|.cons (.free q q)<|.cons (.free q q)<|.nil),trivial⟩ ?_
    exact .ret q
  ·rw [if_neg c5] at h
   refine .condF q (nb c5)<|.skip<|.seq<|.seq<|.reg0 q (.o (faP fa97_1 q)<|.o (ldP q sz95 ag95 q)<|.o (eqI q q)<|.nil0) ?_
   by_cases c7:a0.Kind=2
   ·rw [if_pos c7] at h
    refine .condT q (bt c7)<|.seq<|.reg0 q (.o (bldS (cs:=GF_c1) ze97 pl97 q q)<|.o (stB (cs0:=GF_c0) (cs:=GF_c1) (cs1:=GF_c1) q q sz97 q ⟨Nat.le_of_ble_eq_true q,q⟩ q)<|.nil0) ?_
    replace h:=h.symm
    subst h
    refine .k [(4,.cptr GF_c1 0)] ⟨cFixP q q (.cons (.free q q)<|.cons (.free q q)<|.cons (.free q q)<|.nil),trivial⟩ ?_
    exact .ret q
   ·rw [if_neg c7] at h
    refine .condF q (bn c7)<|.skip<|.seq<|.reg0 q (.o (ldG q sz97 ag97 q)<|.o (stB (cs0:=GF_c0) (cs:=[u6 (bitOp .or .u64 a0.From a1.From),i6 a0.Kind,i6 a0.K]) (cs1:=[u6 (bitOp .or .u64 a0.From a1.From),i6 a0.Kind,i6 a0.K]) q q sz97 q ⟨Nat.le_of_ble_eq_true q,q⟩ q)<|.nil0) ?_
    replace h:=h.symm
    subst h
    refine .k [(4,.cptr [u6 (bitOp .or .u64 a0.From a1.From),i6 a0.Kind,i6 a0.K] 0)] ⟨cFixP q q (.cons (.free q q)<|.cons (.free q q)<|.cons (.free q q)<|.nil),trivial⟩ ?_
    exact .ret q
def cells_Then.j1 (x52:Int):(Int × Int × Int)→(Rnd ((Int × Int × Int × Int)) ((Int × Int × Int)) ((List TCell) × Int))→Prop:=fun (x65,x66,x67) z2=>z2=.next (x65,x66,x67,(IntKind.i64.wrap (x52 + 1)))
def cells_Then.b2 (a0:Int) (a1:List TCell) (a2:List TCell) (x22:Int):(Int × Int × Int × Int)→Rnd ((Int × Int × Int × Int)) ((Int × Int × Int)) ((List TCell) × Int)→Prop:=fun (x49,x50,x51,x52) z2=>if x52 < a0 then ((((0:Int)≤x52))∧if (bitOp .and .u64 (shrI .u64 ((rdl a2 x22).From) x52) 1)=1 then (((InR x52 a1.length))∧∃ t91_5:TCell,(cells_both.f (TCell.mk x49 x50 x51) (rdl a1 x52) t91_5)∧cells_Then.j1 x52 (t91_5.From,t91_5.Kind,t91_5.K) z2) else (cells_Then.j1 x52 (x49,x50,x51) z2)) else (z2=.exit (x49,x50,x51))
def cells_Then.b1 (a0:Int) (a1:List TCell) (a2:List TCell):((List TCell) × Int)→Rnd (((List TCell) × Int)) ((List TCell)) ((List TCell) × Int)→Prop:=fun (x21,x22) z1=>if x22 < (a2.length:Int) then (((InR x22 a2.length))∧∃ o2:Fin ((Int × Int × Int)) ((List TCell) × Int),Loop (cells_Then.b2 a0 a1 a2 x22) (0,(rdl a2 x22).Kind,(rdl a2 x22).K,0) o2∧o2.on (fun (x59,x60,x61)=>((Fits (x21.length + 1) 24))∧z1=.next ((x21 ++ [(TCell.mk x59 x60 x61)]),(IntKind.i64.wrap (x22 + 1)))) (fun r_=>z1=.ret r_)) else (z1=.exit x21)
def cells_Then.f (a0:Int) (a1:List TCell) (a2:List TCell) (r:(List TCell) × Int):Prop :=
 ∃ t2_3:Int,(cells_two.f a0 a1 a2 t2_3)∧if t2_3=0 then (∃ o1:Fin ((List TCell)) ((List TCell) × Int),Loop (cells_Then.b1 a0 a1 a2) ([],0) o1∧o1.on (fun x42=>r=(x42,0)) (fun r_=>r=r_)) else (r=([],t2_3))
theorem cells_Then.D {a0 a1 a2 r} (h:cells_Then.f a0 a1 a2 r):D Tryz.prog X (.callH 146 [.val (.int .i64 a0),.rows (a1.map TCell.cells),.rows (a2.map TCell.cells)] [] (.tuple [.rows (r.1.map TCell.cells),.val (.int .i64 r.2)]) []):=by
 unfold cells_Then.f at h
 refine .enter 55 0 fn146 q q q<|.seq<|.reg0 q (.o (asV q)<|.o (asV q)<|.nil0)<|.seq<|.seq ?_
 obtain ⟨t2_3,g2_3,h⟩:=h
 refine .reg0 q (.m q<|.o (mvR q)<|.o (mvR q)<|.c q go155 q q q (cells_two.D g2_3)<|.a q<|.nil0)<|.seq<|.reg0 q (.o (mvV q)<|.o (neI q q)<|.nil0) ?_
 by_cases c1:t2_3=0
 ·rw [if_pos c1] at h
  refine .condF q (nf c1)<|.skip<|.seq<|.reg0 q (.o (asV q)<|.nil0)<|.seq<|.seq<|.reg0 q (.o (mvR q)<|.o (lnR (l:=a2) sl50 q)<|.o (mvV q)<|.nil0)<|.block<|.room 3<|.keepL [0] [(0,i6 a0),(1,.rows (a1.map TCell.cells)),(9,.own 0 0),(21,.rows (a2.map TCell.cells)),(22,i6 (a2.length:Int)),(23,i6 0)] [⟨3,[].map TCell.cells,0,none⟩] (by decide) (by decide) ⟨.free q q,.free q q,.nilOwn,.free q q,.free q q,.free q q,trivial⟩ ⟨⟨_,q,(bcRow (l:=[]) sl50 (Nat.le_refl _) q)⟩,trivial⟩ ?_
  obtain ⟨o1,hL1,h⟩:=h
  refine .loopB (cells_Then.b1 a0 a1 a2) (fun (x21,x22)=>listEnv [(0,i6 a0),(1,.rows (a1.map TCell.cells)),(9,.own 0 x21.length),(21,.rows (a2.map TCell.cells)),(22,i6 (a2.length:Int)),(23,i6 x22)]) (fun (x21,x22)=>[⟨3,x21.map TCell.cells,0,none⟩]) (fun x42=>listEnv [(9,.own 0 x42.length)]) (fun x42=>[⟨3,x42.map TCell.cells,0,none⟩]) hL1 (fun r_=>r=r_) ?_ ?_ ?_
  ·rintro x42 rfl
   try dsimp only [Fin.on] at h
   refine .seq<|.reg0 q (.o (mvO q)<|.o (asO q)<|.o (asV q)<|.nil0) ?_
   replace h:=h.symm
   subst h
   refine .k [(6,.rows (x42.map TCell.cells)),(7,i6 0)] ⟨cFixO (l:=x42) sl50 q q q q,.free q q,trivial⟩ ?_
   exact .ret q
  ·rintro r_ rfl
   exact h
  ·rintro ⟨x21,x22⟩ z1 h hn1 hx1 hr1
   dsimp only [cells_Then.b1] at h
   refine .seq<|.reg0 q (.o (ltI q q)<|.nil0)<|.seq ?_
   by_cases c24:x22 < (a2.length:Int)
   ·rw [if_pos c24] at h
    refine .condT q (dt c24)<|.skip<|.seq<|.block<|.seq ?_
    obtain ⟨g59_0,h⟩:=h
    refine .room 0<|.reg0 q (.o (ixR (l:=a2) (lit:=TCell.lit) sl50 q q (fun _=>q) g59_0.1 g59_0.2)<|.o (ldCG q sz97 ag97 q)<|.op 1 q (alP (s:=3) ze97 ⟨q,by decide,q⟩ q)<|.o (stB (cs0:=GF_c0) (cs:=(TCell.lit (rdl a2 x22))) (cs1:=(TCell.lit (rdl a2 x22))) q q sz97 q ⟨Nat.le_of_ble_eq_true q,q⟩ q)<|.nil0)<|.seq<|.room 0<|.reg0 q (.o (faP fa97_1 q)<|.o (ldP q sz95 ag95 q)<|.o (faP fa97_2 q)<|.o (ldP q sz2 ag2 q)<|.o (bldS (cs:=[u6 0,i6 ((rdl a2 x22).Kind),i6 ((rdl a2 x22).K)]) ze97 pl97 q q)<|.op 2 q (alP (s:=3) ze97 ⟨q,by decide,q⟩ q)<|.o (stB (cs0:=GF_c0) (cs:=[u6 0,i6 ((rdl a2 x22).Kind),i6 ((rdl a2 x22).K)]) (cs1:=[u6 0,i6 ((rdl a2 x22).Kind),i6 ((rdl a2 x22).K)]) q q sz97 q ⟨Nat.le_of_ble_eq_true q,q⟩ q)<|.nil0) ?_
    refine .seq<|.seq<|.reg0 q (.o (mvV q)<|.o (mvV q)<|.nil0)<|.block<|.keepL [0,1,2] [(0,i6 a0),(1,.rows (a1.map TCell.cells)),(9,.own 0 x21.length),(11,.ptr 1 1 3 0 0),(12,.ptr 2 1 3 0 0),(21,.rows (a2.map TCell.cells)),(22,i6 (a2.length:Int)),(23,i6 x22),(32,i6 a0),(33,i6 0)] [⟨3,x21.map TCell.cells,0,none⟩,⟨3,[(TCell.lit (rdl a2 x22))],0,none⟩,⟨3,[[u6 0,i6 ((rdl a2 x22).Kind),i6 ((rdl a2 x22).K)]],0,none⟩] (by decide) (by decide) ⟨.free q q,.free q q,.own q,.ptr q,.ptr q,.free q q,.free q q,.free q q,.free q q,.free q q,trivial⟩ ⟨⟨_,q,bcRow (l:=x21) sl50 (Nat.le_refl _) q⟩,⟨_,q,bcBox (all2_free q)⟩,⟨_,q,bcBox (all2_free q)⟩,trivial⟩ ?_
    obtain ⟨o2,hL2,h⟩:=h
    refine .loopB (cells_Then.b2 a0 a1 a2 x22) (fun (x49,x50,x51,x52)=>listEnv [(0,i6 a0),(1,.rows (a1.map TCell.cells)),(9,.own 0 x21.length),(11,.ptr 1 1 3 0 0),(12,.ptr 2 1 3 0 0),(21,.rows (a2.map TCell.cells)),(22,i6 (a2.length:Int)),(23,i6 x22),(32,i6 a0),(33,i6 x52)]) (fun (x49,x50,x51,x52)=>[⟨3,x21.map TCell.cells,0,none⟩,⟨3,[(TCell.lit (rdl a2 x22))],0,none⟩,⟨3,[[u6 x49,i6 x50,i6 x51]],0,none⟩]) (fun (x59,x60,x61)=>listEnv [(0,i6 a0),(1,.rows (a1.map TCell.cells)),(9,.own 0 x21.length),(12,.ptr 1 1 3 0 0),(21,.rows (a2.map TCell.cells)),(22,i6 (a2.length:Int)),(23,i6 x22)]) (fun (x59,x60,x61)=>[⟨3,x21.map TCell.cells,0,none⟩,⟨3,[[u6 x59,i6 x60,i6 x61]],0,none⟩]) hL2 (fun r_=>z1=.ret r_) ?_ ?_ ?_
    ·rintro ⟨x59,x60,x61⟩ rfl
     try dsimp only [Fin.on] at h
     obtain ⟨g92_3,h⟩:=h
     refine .room 0<|.room 0<|.reg0 q (.o (mvO q)<|.o (ldG q sz97 ag97 q)<|.op 2 q (bldL (s:=3) (cs:=[u6 x59,i6 x60,i6 x61]) un50 sz97 ze97 ⟨by decide,q,by decide⟩ q q q q)<|.o (ap1 (l:=x21) (TCell.mk x59 x60 x61) sl50 q q q (Nat.zero_le _) (elems_own (l:=[(TCell.mk x59 x60 x61)]) q q) g92_3)<|.o (asO q)<|.nil0) ?_
     refine .inBlock<|.reg0 q (.o (addI q q)<|.o (mvV q)<|.nil0)<|.keepL [0] [(0,i6 a0),(1,.rows (a1.map TCell.cells)),(9,.own 0 ((x21 ++ [(TCell.mk x59 x60 x61)]).length)),(21,.rows (a2.map TCell.cells)),(22,i6 (a2.length:Int)),(23,i6 (IntKind.i64.wrap (x22 + 1)))] [⟨3,(x21 ++ [(TCell.mk x59 x60 x61)]).map TCell.cells,0,none⟩] (by decide) (by decide) ⟨.free q q,.free q q,.own q,.free q q,.free q q,.free q q,trivial⟩ ⟨⟨_,q,bcRow (l:=(x21 ++ [(TCell.mk x59 x60 x61)])) sl50 (Nat.le_refl _) q⟩,trivial⟩ ?_
     exact hn1 _ h
    ·rintro r_ rfl
     exact h
    ·rintro ⟨x49,x50,x51,x52⟩ z2 h hn2 hx2 hr2
     dsimp only [cells_Then.b2] at h
     refine .seq<|.reg0 q (.o (ltI q q)<|.nil0)<|.seq ?_
     by_cases c35:x52 < a0
     ·rw [if_pos c35] at h
      refine .condT q (dt c35)<|.skip<|.seq<|.block<|.seq<|.reg0 q (.o (mvV q)<|.o (asV q)<|.nil0)<|.seq ?_
      obtain ⟨g88_3,h⟩:=h
      refine .reg0 q (.o (faP fa97_0 q)<|.o (ldP q sz46 ag46 q)<|.m q<|.o (shr_ q q g88_3)<|.o (andI q q)<|.o (eqI q q)<|.nil0) ?_
      refine .consJ (fun s_=>cells_Then.j1 x52 s_ z2) (fun (x65,x66,x67)=>listEnv [(0,i6 a0),(1,.rows (a1.map TCell.cells)),(9,.own 0 x21.length),(11,.ptr 1 1 3 0 0),(12,.ptr 2 1 3 0 0),(21,.rows (a2.map TCell.cells)),(22,i6 (a2.length:Int)),(23,i6 x22),(32,i6 a0),(33,i6 x52)]) (fun (x65,x66,x67)=>[⟨3,x21.map TCell.cells,0,none⟩,⟨3,[(TCell.lit (rdl a2 x22))],0,none⟩,⟨3,[[u6 x65,i6 x66,i6 x67]],0,none⟩]) ?_ fun hJ1=>?_
      ·rintro ⟨x65,x66,x67⟩ h
       unfold cells_Then.j1 at h
       try dsimp only at h
       refine .inBlock<|.reg0 q (.o (addI q q)<|.o (mvV q)<|.nil0)<|.keepL [0,1,2] [(0,i6 a0),(1,.rows (a1.map TCell.cells)),(9,.own 0 x21.length),(11,.ptr 1 1 3 0 0),(12,.ptr 2 1 3 0 0),(21,.rows (a2.map TCell.cells)),(22,i6 (a2.length:Int)),(23,i6 x22),(32,i6 a0),(33,i6 (IntKind.i64.wrap (x52 + 1)))] [⟨3,x21.map TCell.cells,0,none⟩,⟨3,[(TCell.lit (rdl a2 x22))],0,none⟩,⟨3,[[u6 x65,i6 x66,i6 x67]],0,none⟩] (by decide) (by decide) ⟨.free q q,.free q q,.own q,.ptr q,.ptr q,.free q q,.free q q,.free q q,.free q q,.free q q,trivial⟩ ⟨⟨_,q,bcRow (l:=x21) sl50 (Nat.le_refl _) q⟩,⟨_,q,bcBox (all2_free q)⟩,⟨_,q,bcBox (all2_free q)⟩,trivial⟩ ?_
       exact hn2 _ h
      ·by_cases c39:(bitOp .and .u64 (shrI .u64 ((rdl a2 x22).From) x52) 1)=1
       ·rw [if_pos c39] at h
        refine .condT q (bt c39) ?_
        obtain ⟨g91_3,h⟩:=h
        obtain ⟨t91_5,g91_5,h⟩:=h
        refine .reg1 (e1:=listEnv [(0,i6 a0),(1,.rows (a1.map TCell.cells)),(9,.own 0 x21.length),(11,.ptr 1 1 3 0 0),(12,.ptr 2 1 3 0 0),(21,.rows (a2.map TCell.cells)),(22,i6 (a2.length:Int)),(23,i6 x22),(32,i6 a0),(33,i6 x52)]) (H1:=[⟨3,x21.map TCell.cells,0,none⟩,⟨3,[(TCell.lit (rdl a2 x22))],0,none⟩,⟨3,[(TCell.lit t91_5)],0,none⟩]) q ?_ ?_
        ·exact .drawM [(5,47,.agg (TCell.lit t91_5)),(4,46,.agg (TCell.lit (rdl a1 x52))),(3,45,.cptr (TCell.lit (rdl a1 x52)) 0),(2,44,i6 x52),(1,43,.rows (a1.map TCell.cells)),(0,42,.agg [u6 x49,i6 x50,i6 x51])] [(6,2,⟨3,[(TCell.lit t91_5)],0,none⟩)] [[],[],[],[1,2],[3,1,2],[0,4,3,1,2],[5,0,4,3,1,2]] (by rfl) (by rfl) (by rfl) (by exact ⟨oP (fun _=>ldG q sz97 ag97 q) q,oP (fun _=>mvR q) q,oP (fun _=>mvV q) q,oP (fun _=>ixR (l:=a1) (lit:=TCell.lit) sl50 q q (fun _=>q) g91_3.1 g91_3.2) q,oP (fun _=>ldCG q sz97 ag97 q) q,fun S hS hD hn=>.oneI hS hD hn q q (callee_of q go156 q) (.pure q q (cells_both.D g91_5)) q q q,fun S hS hD hn=>.one0 0 q q (stB (cs0:=[u6 x49,i6 x50,i6 x51]) (cs:=(TCell.lit t91_5)) (cs1:=(TCell.lit t91_5)) q q sz97 q ⟨Nat.le_of_ble_eq_true q,q⟩ q) (drawE_other _ _ _ _ q) q,trivial⟩) _ (by exact ⟨.free q q,.free q q,.own q,.ptr q,.ptr q,.free q q,.free q q,.free q q,.free q q,.free q q,trivial⟩) (by rfl)
        refine .keepL [0,1,2] [(0,i6 a0),(1,.rows (a1.map TCell.cells)),(9,.own 0 x21.length),(11,.ptr 1 1 3 0 0),(12,.ptr 2 1 3 0 0),(21,.rows (a2.map TCell.cells)),(22,i6 (a2.length:Int)),(23,i6 x22),(32,i6 a0),(33,i6 x52)] [⟨3,x21.map TCell.cells,0,none⟩,⟨3,[(TCell.lit (rdl a2 x22))],0,none⟩,⟨3,[(TCell.lit t91_5)],0,none⟩] (by decide) (by decide) ⟨.free q q,.free q q,.own q,.ptr q,.ptr q,.free q q,.free q q,.free q q,.free q q,.free q q,trivial⟩ ⟨⟨_,q,bcRow (l:=x21) sl50 (Nat.le_refl _) q⟩,⟨_,q,bcBox (all2_free q)⟩,⟨_,q,bcBox (all2_free q)⟩,trivial⟩ ?_
        exact hJ1 _ h
       ·rw [if_neg c39] at h
        refine .condF q (bn c39)<|.skip<|.keepL [0,1,2] [(0,i6 a0),(1,.rows (a1.map TCell.cells)),(9,.own 0 x21.length),(11,.ptr 1 1 3 0 0),(12,.ptr 2 1 3 0 0),(21,.rows (a2.map TCell.cells)),(22,i6 (a2.length:Int)),(23,i6 x22),(32,i6 a0),(33,i6 x52)] [⟨3,x21.map TCell.cells,0,none⟩,⟨3,[(TCell.lit (rdl a2 x22))],0,none⟩,⟨3,[[u6 x49,i6 x50,i6 x51]],0,none⟩] (by decide) (by decide) ⟨.free q q,.free q q,.own q,.ptr q,.ptr q,.free q q,.free q q,.free q q,.free q q,.free q q,trivial⟩ ⟨⟨_,q,bcRow (l:=x21) sl50 (Nat.le_refl _) q⟩,⟨_,q,bcBox (all2_free q)⟩,⟨_,q,bcBox (all2_free q)⟩,trivial⟩ ?_
        exact hJ1 _ h
     ·rw [if_neg c35] at h
      refine .condF q (df c35)<|.exit q<|.keepL [0,2] [(0,i6 a0),(1,.rows (a1.map TCell.cells)),(9,.own 0 x21.length),(12,.ptr 1 1 3 0 0),(21,.rows (a2.map TCell.cells)),(22,i6 (a2.length:Int)),(23,i6 x22)] [⟨3,x21.map TCell.cells,0,none⟩,⟨3,[[u6 x49,i6 x50,i6 x51]],0,none⟩] (by decide) (by decide) ⟨.free q q,.free q q,.own q,.ptr q,.free q q,.free q q,.free q q,trivial⟩ ⟨⟨_,q,bcRow (l:=x21) sl50 (Nat.le_refl _) q⟩,⟨_,q,bcBox (all2_free q)⟩,trivial⟩ ?_
      exact hx2 _ h
   ·rw [if_neg c24] at h
    refine .condF q (df c24)<|.exit q<|.keepL [0] [(9,.own 0 x21.length)] [⟨3,x21.map TCell.cells,0,none⟩] (by decide) (by decide) ⟨.own q,trivial⟩ ⟨⟨_,q,bcRow (l:=x21) sl50 (Nat.le_refl _) q⟩,trivial⟩ ?_
    exact hx1 _ h
 ·rw [if_neg c1] at h
  refine .condT q (nt c1)<|.seq<|.reg0 q (.o (mvV q)<|.o (asV q)<|.o (asV q)<|.nil0) ?_
  replace h:=h.symm
  subst h
  refine .k [(6,.rows (([]:List TCell).map TCell.cells)),(7,i6 t2_3)] ⟨.nil,.free q q,trivial⟩ ?_
  exact .ret q
def weight_then.step (self107:TSpace→TWeight→TWeight→TWeight→Prop) (a0:TSpace) (a1:TWeight) (a2:TWeight) (r:TWeight):Prop :=
 if (a1.Zero || a2.Zero)=true then (r=(TWeight.mk true 0 (TFacts.mk 0 []) [] [])) else (if a0.Tag=2 then (∃ t7_7:Int × Int,(cost_Sum.f a0.Dim [a1.Cost,a2.Cost] t7_7)∧r=(TWeight.mk false t7_7.1 (TFacts.mk 0 []) [] [])) else (if a0.Tag=3 then (∃ t10_6:TFacts × Int,(facts_Extend.f a0.Dim a1.Facts a2.Facts t10_6)∧r=(TWeight.mk false 0 t10_6.1 [] [])) else (if a0.Tag=4 then (∃ t13_6:(List TCell) × Int,(cells_Then.f a0.Dim a1.Cells a2.Cells t13_6)∧r=(TWeight.mk false 0 (TFacts.mk 0 []) t13_6.1 [])) else (if a0.Tag=5 then (((InR 0 a0.Parts.length))∧((InR 0 a1.Parts.length))∧((InR 0 a2.Parts.length))∧∃ t16_12:TWeight,(self107 (rdl a0.Parts 0) (rdl a1.Parts 0) (rdl a2.Parts 0) t16_12)∧((InR 1 a0.Parts.length))∧((InR 1 a1.Parts.length))∧((InR 1 a2.Parts.length))∧∃ t16_25:TWeight,(self107 (rdl a0.Parts 1) (rdl a1.Parts 1) (rdl a2.Parts 1) t16_25)∧r=(TWeight.mk false 0 (TFacts.mk 0 []) [] [t16_12,t16_25])) else (r=(TWeight.mk false 0 (TFacts.mk 0 []) [] []))))))
theorem weight_then.stepD {self107:TSpace→TWeight→TWeight→TWeight→Prop} {a0:TSpace} {a1:TWeight} {a2:TWeight} (hs107:∀ z0_ z1_ z2_ r_,self107 z0_ z1_ z2_ r_→D Tryz.prog X (.callH 107 [.agg (TSpace.lit z0_),.agg (TWeight.lit z1_),.agg (TWeight.lit z2_)] [] (.agg (TWeight.lit r_)) [])) {r:TWeight} (h:weight_then.step self107 a0 a1 a2 r):D Tryz.prog X (.callH 107 [.agg (TSpace.lit a0),.agg (TWeight.lit a1),.agg (TWeight.lit a2)] [] (.agg (TWeight.lit r)) []):=by
 unfold weight_then.step at h
 refine .enter 88 0 fn107 q q q<|.seq<|.room 0<|.room 0<|.room 0<|.room 0<|.reg0 q (.o (bxP (s:=3) (cs:=(TSpace.lit a0)) q ⟨q,by decide,q⟩ q)<|.op 1 q (bxP (s:=6) (cs:=(TWeight.lit a1)) q ⟨q,by decide,q⟩ q)<|.op 2 q (bxP (s:=6) (cs:=(TWeight.lit a2)) q ⟨q,by decide,q⟩ q)<|.op 3 q (alP (s:=6) ze53 ⟨q,by decide,q⟩ q)<|.nil0) ?_
 refine .seq<|.seq ?_
 refine .reg0 (e1:=listEnv [(3,.ptr 0 1 3 0 0),(4,.ptr 1 1 6 0 0),(5,.ptr 2 1 6 0 0),(6,.ptr 3 1 6 0 0),(13,bo (a1.Zero || a2.Zero))]) (H1:=[⟨3,[(TSpace.lit a0)],0,none⟩,⟨6,[(TWeight.lit a1)],0,none⟩,⟨6,[(TWeight.lit a2)],0,none⟩,⟨6,[GF_c2],0,none⟩]) q ?_ ?_
 ·refine .o (faP fa53_0 q)<|.o (ldP q sz4 ag4 q)<|.m q<|?_
  by_cases c1:a1.Zero=true
  ·exact (.n q c1<|.n q c1<|.o (pkTV q c1 q)<|.nilL _ ⟨.ptr q,.ptr q,.ptr q,.ptr q,cB q (mOrT c1),trivial⟩)
  ·exact (.g q (nb c1) (faP fa53_0 q)<|.g q (nb c1) (ldP q sz4 ag4 q)<|.o (pkFV q (nb c1) q)<|.nilL _ ⟨.ptr q,.ptr q,.ptr q,.ptr q,cB q (mOrF (nb c1) q),trivial⟩)
 by_cases c2:(a1.Zero || a2.Zero)=true
 ·rw [if_pos c2] at h
  refine .condT q c2<|.seq<|.reg0 q (.o (bldS (cs:=GF_c3) ze53 pl53 q q)<|.o (stB (cs0:=GF_c2) (cs:=GF_c3) (cs1:=GF_c3) q q sz53 q ⟨Nat.le_of_ble_eq_true q,q⟩ q)<|.nil0) ?_
  replace h:=h.symm
  subst h
  refine .k [(6,.cptr [bo true,i6 0,u6 0,.rows (([]:List Int).map (cInt .u64)),.rows (([]:List TCell).map TCell.cells),.rows (([]:List TWeight).map TWeight.cells)] 0)] ⟨cFixP q q (.cons (.free q q)<|.cons (.free q q)<|.cons (.free q q)<|.cons (.nil)<|.cons (.nil)<|.cons (.nil)<|.nil),trivial⟩ ?_
  exact .ret q
 ·rw [if_neg c2] at h
  refine .condF q (nb c2)<|.skip<|.seq<|.room 0<|.reg0 q (.op 4 q (alP (s:=6) ze53 ⟨q,by decide,q⟩ q)<|.nil0)<|.seq<|.seq<|.reg0 q (.o (faP fa25_0 q)<|.o (ldP q sz22 ag22 q)<|.nil0)<|.block<|.seq<|.reg0 q (.o (eqI q q)<|.o (asV q)<|.nil0) ?_
  by_cases c3:a0.Tag=2
  ·rw [if_pos c3] at h
   refine .condT q (bt c3) ?_
   obtain ⟨t7_7,g7_7,h⟩:=h
   refine .room 0<|.reg0 q (.o (faP fa25_1 q)<|.o (ldP q sz3 ag3 q)<|.o (faP fa53_1 q)<|.o (ldP q sz3 ag3 q)<|.o (faP fa53_1 q)<|.o (ldP q sz3 ag3 q)<|.op 5 q (bldL (s:=1) (cs:=[i6 a1.Cost,i6 a2.Cost]) un29 sz3 ze3 ⟨by decide,q,by decide⟩ q q q q)<|.callI q (callee_of q go144 q) (.lendC (args':=[i6 a0.Dim,.rows ([a1.Cost,a2.Cost].map (cInt .i64))])  [5] false (.cons (.free q q)<|.cons (cFixO (l:=[a1.Cost,a2.Cost]) sl29 q q q q)<|.nil) (by decide) q q q q (cost_Sum.D g7_7))<|.o (mvT q)<|.o (exT q q)<|.o (exT q q)<|.o (faP fa53_1 q)<|.o (stB (cs0:=GF_c2) (cs:=[i6 t7_7.1]) (cs1:=[bo false,i6 t7_7.1,u6 0,nul,nul,nul]) q q sz3 q ⟨Nat.le_of_ble_eq_true q,q⟩ q)<|.nil0) ?_
   refine .inBlock<|.seq<|.reg0 q (.o (ldG q sz53 ag53 q)<|.o (stB (cs0:=GF_c2) (cs:=[bo false,i6 t7_7.1,u6 0,nul,nul,nul]) (cs1:=[bo false,i6 t7_7.1,u6 0,nul,nul,nul]) q q sz53 q ⟨Nat.le_of_ble_eq_true q,q⟩ q)<|.nil0) ?_
   replace h:=h.symm
   subst h
   refine .k [(6,.cptr [bo false,i6 t7_7.1,u6 0,.rows (([]:List Int).map (cInt .u64)),.rows (([]:List TCell).map TCell.cells),.rows (([]:List TWeight).map TWeight.cells)] 0)] ⟨cFixP q q (.cons (.free q q)<|.cons (.free q q)<|.cons (.free q q)<|.cons (.nil)<|.cons (.nil)<|.cons (.nil)<|.nil),trivial⟩ ?_
   exact .ret q
  ·rw [if_neg c3] at h
   refine .condF q (bn c3)<|.seq<|.reg0 q (.o (eqI q q)<|.o (asV q)<|.nil0) ?_
   by_cases c4:a0.Tag=3
   ·rw [if_pos c4] at h
    refine .condT q (bt c4) ?_
    obtain ⟨t10_6,g10_6,h⟩:=h
    refine .reg0 q (.o (faP fa25_1 q)<|.o (ldP q sz3 ag3 q)<|.o (faP fa53_2 q)<|.o (ldG q sz49 ag49 q)<|.o (faP fa53_2 q)<|.o (ldG q sz49 ag49 q)<|.c q go145 q q q (facts_Extend.D g10_6)<|.o (mvT q)<|.o (exT q q)<|.o (exT q q)<|.o (faP fa53_2 q)<|.o (stB (cs0:=GF_c2) (cs:=(TFacts.lit t10_6.1)) (cs1:=[bo false,i6 0,u6 t10_6.1.Gen,.rows (t10_6.1.Rows.map (cInt .u64)),nul,nul]) q q sz49 q ⟨Nat.le_of_ble_eq_true q,q⟩ q)<|.nil0) ?_
    refine .inBlock<|.seq<|.reg0 q (.o (ldG q sz53 ag53 q)<|.o (stB (cs0:=GF_c2) (cs:=[bo false,i6 0,u6 t10_6.1.Gen,.rows (t10_6.1.Rows.map (cInt .u64)),nul,nul]) (cs1:=[bo false,i6 0,u6 t10_6.1.Gen,.rows (t10_6.1.Rows.map (cInt .u64)),nul,nul]) q q sz53 q ⟨Nat.le_of_ble_eq_true q,q⟩ q)<|.nil0) ?_
    replace h:=h.symm
    subst h
    refine .k [(6,.cptr [bo false,i6 0,u6 t10_6.1.Gen,.rows (t10_6.1.Rows.map (cInt .u64)),.rows (([]:List TCell).map TCell.cells),.rows (([]:List TWeight).map TWeight.cells)] 0)] ⟨cFixP q q (.cons (.free q q)<|.cons (.free q q)<|.cons (.free q q)<|.cons (.free q q)<|.cons (.nil)<|.cons (.nil)<|.nil),trivial⟩ ?_
    exact .ret q
   ·rw [if_neg c4] at h
    refine .condF q (bn c4)<|.seq<|.reg0 q (.o (eqI q q)<|.o (asV q)<|.nil0) ?_
    by_cases c5:a0.Tag=4
    ·rw [if_pos c5] at h
     refine .condT q (bt c5) ?_
     obtain ⟨t13_6,g13_6,h⟩:=h
     refine .reg0 q (.o (faP fa25_1 q)<|.o (ldP q sz3 ag3 q)<|.o (faP fa53_3 q)<|.o (ldP q sz50 ag50 q)<|.o (faP fa53_3 q)<|.o (ldP q sz50 ag50 q)<|.c q go146 q q q (cells_Then.D g13_6)<|.o (mvT q)<|.o (exT q q)<|.o (exT q q)<|.o (faP fa53_3 q)<|.o (stB (cs0:=GF_c2) (cs:=[.rows (t13_6.1.map TCell.cells)]) (cs1:=[bo false,i6 0,u6 0,nul,.rows (t13_6.1.map TCell.cells),nul]) q q sz50 q ⟨Nat.le_of_ble_eq_true q,q⟩ q)<|.nil0) ?_
     refine .inBlock<|.seq<|.reg0 q (.o (ldG q sz53 ag53 q)<|.o (stB (cs0:=GF_c2) (cs:=[bo false,i6 0,u6 0,nul,.rows (t13_6.1.map TCell.cells),nul]) (cs1:=[bo false,i6 0,u6 0,nul,.rows (t13_6.1.map TCell.cells),nul]) q q sz53 q ⟨Nat.le_of_ble_eq_true q,q⟩ q)<|.nil0) ?_
     replace h:=h.symm
     subst h
     refine .k [(6,.cptr [bo false,i6 0,u6 0,.rows (([]:List Int).map (cInt .u64)),.rows (t13_6.1.map TCell.cells),.rows (([]:List TWeight).map TWeight.cells)] 0)] ⟨cFixP q q (.cons (.free q q)<|.cons (.free q q)<|.cons (.free q q)<|.cons (.nil)<|.cons (.free q q)<|.cons (.nil)<|.nil),trivial⟩ ?_
     exact .ret q
    ·rw [if_neg c5] at h
     refine .condF q (bn c5)<|.seq<|.reg0 q (.o (eqI q q)<|.o (asV q)<|.nil0) ?_
     by_cases c6:a0.Tag=5
     ·rw [if_pos c6] at h
      refine .condT q (bt c6) ?_
      obtain ⟨g16_2,h⟩:=h
      obtain ⟨g16_6,h⟩:=h
      obtain ⟨g16_10,h⟩:=h
      obtain ⟨t16_12,g16_12,h⟩:=h
      obtain ⟨g16_15,h⟩:=h
      obtain ⟨g16_19,h⟩:=h
      obtain ⟨g16_23,h⟩:=h
      obtain ⟨t16_25,g16_25,h⟩:=h
      refine .room 0 ?_
      refine .reg1 (e1:=listEnv [(6,.ptr 3 1 6 0 0),(7,.ptr 4 1 6 0 0)]) (H1:=[⟨3,[(TSpace.lit a0)],0,none⟩,⟨6,[(TWeight.lit a1)],0,none⟩,⟨6,[(TWeight.lit a2)],0,none⟩,⟨6,[GF_c2],0,none⟩,⟨6,[[bo false,i6 0,u6 0,nul,nul,.own 5 ([t16_12,t16_25].length)]],0,none⟩,⟨6,[t16_12,t16_25].map TWeight.cells,0,none⟩]) q ?_ ?_
      ·exact .drawM [(27,86,.ptr 4 1 6 0 5),(26,85,.own 5 ([t16_12,t16_25].length)),(25,84,.agg (TWeight.lit t16_25)),(24,83,.agg (TWeight.lit (rdl a2.Parts 1))),(23,82,.cptr (TWeight.lit (rdl a2.Parts 1)) 0),(22,81,.rows (a2.Parts.map TWeight.cells)),(21,80,.ptr 2 1 6 0 5),(20,79,.agg (TWeight.lit (rdl a1.Parts 1))),(19,78,.cptr (TWeight.lit (rdl a1.Parts 1)) 0),(18,77,.rows (a1.Parts.map TWeight.cells)),(17,76,.ptr 1 1 6 0 5),(16,75,.agg (TSpace.lit (rdl a0.Parts 1))),(15,74,.cptr (TSpace.lit (rdl a0.Parts 1)) 0),(14,73,.rows (a0.Parts.map TSpace.cells)),(13,72,.ptr 0 1 3 0 2),(12,71,.agg (TWeight.lit t16_12)),(11,70,.agg (TWeight.lit (rdl a2.Parts 0))),(10,69,.cptr (TWeight.lit (rdl a2.Parts 0)) 0),(9,68,.rows (a2.Parts.map TWeight.cells)),(8,67,.ptr 2 1 6 0 5),(7,66,.agg (TWeight.lit (rdl a1.Parts 0))),(6,65,.cptr (TWeight.lit (rdl a1.Parts 0)) 0),(5,64,.rows (a1.Parts.map TWeight.cells)),(4,63,.ptr 1 1 6 0 5),(3,62,.agg (TSpace.lit (rdl a0.Parts 0))),(2,61,.cptr (TSpace.lit (rdl a0.Parts 0)) 0),(1,60,.rows (a0.Parts.map TSpace.cells)),(0,59,.ptr 0 1 3 0 2)] [(28,4,⟨6,[[bo false,i6 0,u6 0,nul,nul,.own 5 ([t16_12,t16_25].length)]],0,none⟩),(26,5,⟨6,[t16_12,t16_25].map TWeight.cells,0,none⟩)] [[],[0],[1,0],[2,1,0],[],[4],[5,4],[6,5,4],[],[8],[9,8],[10,9,8],[3,2,1,0,7,6,5,4,11,10,9,8],[],[13],[14,13],[15,14,13],[],[17],[18,17],[19,18,17],[],[21],[22,21],[23,22,21],[16,15,14,13,20,19,18,17,24,23,22,21,12,3,2,1,0,7,6,5,4,11,10,9,8],[12,3,2,1,0,7,6,5,4,11,10,9,8,25,16,15,14,13,20,19,18,17,24,23,22,21],[0,1,2,3,4,5,6,7,8,9,10,11,12,13,14,15,16,17,18,19,20,21,22,23,24,25,26],[27,0,1,2,3,4,5,6,7,8,9,10,11,12,13,14,15,16,17,18,19,20,21,22,23,24,25,26]] (by rfl) (by rfl) (by rfl) (by exact ⟨oP (fun _=>faP fa25_2 q) q,oP (fun _=>ldP q sz23 ag23 q) q,oP (fun _=>ixR (l:=a0.Parts) (lit:=TSpace.lit) sl23 q q TSpace.cells_lit g16_2.1 g16_2.2) q,oP (fun _=>ldCG q sz25 ag25 q) q,oP (fun _=>faP fa53_4 q) q,oP (fun _=>ldP q sz51 ag51 q) q,oP (fun _=>ixR (l:=a1.Parts) (lit:=TWeight.lit) sl51 q q TWeight.cells_lit g16_6.1 g16_6.2) q,oP (fun _=>ldCG q sz53 ag53 q) q,oP (fun _=>faP fa53_4 q) q,oP (fun _=>ldP q sz51 ag51 q) q,oP (fun _=>ixR (l:=a2.Parts) (lit:=TWeight.lit) sl51 q q TWeight.cells_lit g16_10.1 g16_10.2) q,oP (fun _=>ldCG q sz53 ag53 q) q,fun S hS hD hn=>.oneI hS hD hn q q (callee_of q go107 q) (.pure q q (hs107 _ _ _ _ g16_12)) q q q,oP (fun _=>faP fa25_2 q) q,oP (fun _=>ldP q sz23 ag23 q) q,oP (fun _=>ixR (l:=a0.Parts) (lit:=TSpace.lit) sl23 q q TSpace.cells_lit g16_15.1 g16_15.2) q,oP (fun _=>ldCG q sz25 ag25 q) q,oP (fun _=>faP fa53_4 q) q,oP (fun _=>ldP q sz51 ag51 q) q,oP (fun _=>ixR (l:=a1.Parts) (lit:=TWeight.lit) sl51 q q TWeight.cells_lit g16_19.1 g16_19.2) q,oP (fun _=>ldCG q sz53 ag53 q) q,oP (fun _=>faP fa53_4 q) q,oP (fun _=>ldP q sz51 ag51 q) q,oP (fun _=>ixR (l:=a2.Parts) (lit:=TWeight.lit) sl51 q q TWeight.cells_lit g16_23.1 g16_23.2) q,oP (fun _=>ldCG q sz53 ag53 q) q,fun S hS hD hn=>.oneI hS hD hn q q (callee_of q go107 q) (.pure q q (hs107 _ _ _ _ g16_25)) q q q,oW 5 (fun _=>bldT (s:=6) (cs:=[bo t16_12.Zero,i6 t16_12.Cost,u6 t16_12.Facts.Gen,.rows (t16_12.Facts.Rows.map (cInt .u64)),.rows (t16_12.Cells.map TCell.cells),.rows (t16_12.Parts.map TWeight.cells),bo t16_25.Zero,i6 t16_25.Cost,u6 t16_25.Facts.Gen,.rows (t16_25.Facts.Rows.map (cInt .u64)),.rows (t16_25.Cells.map TCell.cells),.rows (t16_25.Parts.map TWeight.cells)]) (cf:=TWeight.cells) [t16_12,t16_25] un51 sz53 ze53 ⟨by decide,q,by decide⟩ q q q (by simp only [List.map,TWeight.cells_lit]; rfl) q) q fun _=>q,oP (fun _=>faP fa53_4 q) q,fun S hS hD hn=>.one0 0 q q (stB (cs0:=GF_c2) (cs:=[.own 5 ([t16_12,t16_25].length)]) (cs1:=[bo false,i6 0,u6 0,nul,nul,.own 5 ([t16_12,t16_25].length)]) q q sz51 q ⟨Nat.le_of_ble_eq_true q,q⟩ q) (drawE_other _ _ _ _ q) q,trivial⟩) _ (by exact ⟨.ptr q,.ptr q,trivial⟩) (by rfl)
      refine .inBlock<|.seq<|.reg0 q (.o (ldG q sz53 ag53 q)<|.o (stB (cs0:=GF_c2) (cs:=[bo false,i6 0,u6 0,nul,nul,.own 5 ([t16_12,t16_25].length)]) (cs1:=[bo false,i6 0,u6 0,nul,nul,.own 5 ([t16_12,t16_25].length)]) q q sz53 q ⟨Nat.le_of_ble_eq_true q,q⟩ q)<|.nil0) ?_
      replace h:=h.symm
      subst h
      refine .k [(6,.cptr [bo false,i6 0,u6 0,.rows (([]:List Int).map (cInt .u64)),.rows (([]:List TCell).map TCell.cells),.rows ([t16_12,t16_25].map TWeight.cells)] 0)] ⟨cFixP q q (.cons (.free q q)<|.cons (.free q q)<|.cons (.free q q)<|.cons (.nil)<|.cons (.nil)<|.cons (cFixO (l:=[t16_12,t16_25]) sl51 q q q q)<|.nil),trivial⟩ ?_
      exact .ret q
     ·rw [if_neg c6] at h
      refine .condF q (bn c6)<|.skip<|.inBlock<|.seq<|.reg0 q (.o (ldG q sz53 ag53 q)<|.o (stB (cs0:=GF_c2) (cs:=GF_c2) (cs1:=GF_c2) q q sz53 q ⟨Nat.le_of_ble_eq_true q,q⟩ q)<|.nil0) ?_
      replace h:=h.symm
      subst h
      refine .k [(6,.cptr GF_c4 0)] ⟨cFixP q q (.cons (.free q q)<|.cons (.free q q)<|.cons (.free q q)<|.cons (.nil)<|.cons (.nil)<|.cons (.nil)<|.nil),trivial⟩ ?_
      exact .ret q
def weight_then.fN:Nat→TSpace→TWeight→TWeight→TWeight→Prop
 | 0=>fun _ _ _ _=>False
 | n + 1=>weight_then.step (weight_then.fN n)
theorem weight_then.ND:∀ (n:Nat) {a0:TSpace} {a1:TWeight} {a2:TWeight} {r:TWeight} (h:weight_then.fN n a0 a1 a2 r),D Tryz.prog X (.callH 107 [.agg (TSpace.lit a0),.agg (TWeight.lit a1),.agg (TWeight.lit a2)] [] (.agg (TWeight.lit r)) [])
 | 0,_,_,_,_,h=>h.elim
 | n + 1,_,_,_,_,h=>weight_then.stepD (fun _ _ _ _ h=>weight_then.ND n h) h
def weight_then.f (a0:TSpace) (a1:TWeight) (a2:TWeight) (r:TWeight):Prop:=∃ n,weight_then.fN n a0 a1 a2 r
theorem weight_then.D {a0 a1 a2 r} (h:weight_then.f a0 a1 a2 r):D Tryz.prog X (.callH 107 [.agg (TSpace.lit a0),.agg (TWeight.lit a1),.agg (TWeight.lit a2)] [] (.agg (TWeight.lit r)) []):=by obtain ⟨n,h⟩:=h; exact weight_then.ND n h
def slices_Clone_uint64.f (a0:List Int) (r:(List Int)):Prop :=
 if a0.length=0 then (∀ (z_:Option Addr) (k_:Nat),if z_.isNone=true then (r=[]) else (((Fits (0 + 0) 8))∧r=[])) else (((Fits (0 + a0.length) 8))∧r=a0)
theorem slices_Clone_uint64.D {a0 r} (h:slices_Clone_uint64.f a0 r):D Tryz.prog X (.callH 114 [.rows (a0.map (cInt .u64))] [] (.rows (r.map (cInt .u64))) []):=by
 unfold slices_Clone_uint64.f at h
 by_cases c0_:a0.length=0
 ·rw [if_pos c0_] at h
  have e0_:=List.eq_nil_of_length_eq_zero c0_
  subst e0_
  refine .nilQ [] [] fun z_ k_=>?_
  replace h:=h z_ k_
  refine .enter 8 0 fn114 q q q<|.seq<|.reg0 q (.o (asV q)<|.nil0)<|.seq<|.seq<|.reg0 q (.o (mvV q)<|.o (eqEN un47 q q)<|.nil0) ?_
  by_cases c1:z_.isNone=true
  ·rw [if_pos c1] at h
   refine .condT q c1<|.seq<|.reg0 q (.o (asV q)<|.nil0) ?_
   replace h:=h.symm
   subst h
   refine .k [(2,.rows (([]:List Int).map (cInt .u64)))] ⟨.nil,trivial⟩ ?_
   exact .ret q
  ·rw [if_neg c1] at h
   refine .condF q (nb c1)<|.skip<|.seq ?_
   obtain ⟨g4_2,h⟩:=h
   refine .room 0<|.room 0<|.reg0 q (.o (bldL (s:=1) (cs:=[]) un47 sz46 ze46 ⟨by decide,q,by decide⟩ q q q q)<|.o (mvV q)<|.o (apL (l:=[]) [] sl47 q q q (Nat.zero_le _) q g4_2)<|.o (asO q)<|.nil0) ?_
   replace h:=h.symm
   subst h
   refine .k [(2,.rows ([].map (cInt .u64)))] ⟨cFixO (l:=[]) sl47 q q q q,trivial⟩ ?_
   exact .ret q
 ·rw [if_neg c0_] at h
  refine .enter 8 0 fn114 q q q<|.seq<|.reg0 q (.o (asV q)<|.nil0)<|.seq<|.seq<|.reg0 q (.o (mvR q)<|.o (eqRN c0_ un47 q q)<|.nil0)<|.condF q q<|.skip<|.seq ?_
  obtain ⟨g7_2,h⟩:=h
  refine .room 0<|.room 0<|.reg0 q (.o (bldL (s:=1) (cs:=[]) un47 sz46 ze46 ⟨by decide,q,by decide⟩ q q q q)<|.o (mvR q)<|.o (apL (l:=[]) a0 sl47 q q q (Nat.zero_le _) q g7_2)<|.o (asO q)<|.nil0) ?_
  replace h:=h.symm
  subst h
  refine .k [(2,.rows (a0.map (cInt .u64)))] ⟨cFixO (l:=a0) sl47 q q q q,trivial⟩ ?_
  exact .ret q
def slices_Clone_Cell.f (a0:List TCell) (r:(List TCell)):Prop :=
 if a0.length=0 then (∀ (z_:Option Addr) (k_:Nat),if z_.isNone=true then (r=[]) else (((Fits (0 + 0) 24))∧r=[])) else (((Fits (0 + a0.length) 24))∧r=a0)
theorem slices_Clone_Cell.D {a0 r} (h:slices_Clone_Cell.f a0 r):D Tryz.prog X (.callH 115 [.rows (a0.map TCell.cells)] [] (.rows (r.map TCell.cells)) []):=by
 unfold slices_Clone_Cell.f at h
 by_cases c0_:a0.length=0
 ·rw [if_pos c0_] at h
  have e0_:=List.eq_nil_of_length_eq_zero c0_
  subst e0_
  refine .nilQ [] [] fun z_ k_=>?_
  replace h:=h z_ k_
  refine .enter 8 0 fn115 q q q<|.seq<|.reg0 q (.o (asV q)<|.nil0)<|.seq<|.seq<|.reg0 q (.o (mvV q)<|.o (eqEN un50 q q)<|.nil0) ?_
  by_cases c1:z_.isNone=true
  ·rw [if_pos c1] at h
   refine .condT q c1<|.seq<|.reg0 q (.o (asV q)<|.nil0) ?_
   replace h:=h.symm
   subst h
   refine .k [(2,.rows (([]:List TCell).map TCell.cells))] ⟨.nil,trivial⟩ ?_
   exact .ret q
  ·rw [if_neg c1] at h
   refine .condF q (nb c1)<|.skip<|.seq ?_
   obtain ⟨g4_2,h⟩:=h
   refine .room 0<|.room 0<|.reg0 q (.o (bldL (s:=3) (cs:=[]) un50 sz97 ze97 ⟨by decide,q,by decide⟩ q q q q)<|.o (mvV q)<|.o (apL (l:=[]) [] sl50 q q q (Nat.zero_le _) q g4_2)<|.o (asO q)<|.nil0) ?_
   replace h:=h.symm
   subst h
   refine .k [(2,.rows ([].map TCell.cells))] ⟨cFixO (l:=[]) sl50 q q q q,trivial⟩ ?_
   exact .ret q
 ·rw [if_neg c0_] at h
  refine .enter 8 0 fn115 q q q<|.seq<|.reg0 q (.o (asV q)<|.nil0)<|.seq<|.seq<|.reg0 q (.o (mvR q)<|.o (eqRN c0_ un50 q q)<|.nil0)<|.condF q q<|.skip<|.seq ?_
  obtain ⟨g7_2,h⟩:=h
  refine .room 0<|.room 0<|.reg0 q (.o (bldL (s:=3) (cs:=[]) un50 sz97 ze97 ⟨by decide,q,by decide⟩ q q q q)<|.o (mvR q)<|.o (apL (l:=[]) a0 sl50 q q q (Nat.zero_le _) q g7_2)<|.o (asO q)<|.nil0) ?_
  replace h:=h.symm
  subst h
  refine .k [(2,.rows (a0.map TCell.cells))] ⟨cFixO (l:=a0) sl50 q q q q,trivial⟩ ?_
  exact .ret q
def slices_Clone_Weight_o0.f (a0:List TWeight) (r:(List TWeight)):Prop :=
 if a0.length=0 then (∀ (z_:Option Addr) (k_:Nat),if z_.isNone=true then (r=[]) else (((Fits (0 + 0) 96))∧r=[])) else (((Fits (0 + a0.length) 96))∧r=a0)
theorem slices_Clone_Weight_o0.D {a0 r} (h:slices_Clone_Weight_o0.f a0 r):D Tryz.prog X (.callH 116 [.rows (a0.map TWeight.cells)] [] (.own 0 r.length) [⟨6,r.map TWeight.cells,0,none⟩]):=by
 unfold slices_Clone_Weight_o0.f at h
 by_cases c0_:a0.length=0
 ·rw [if_pos c0_] at h
  have e0_:=List.eq_nil_of_length_eq_zero c0_
  subst e0_
  refine .nilQ [] [] fun z_ k_=>?_
  replace h:=h z_ k_
  refine .enter 8 0 fn116 q q q<|.seq<|.reg0 q (.o (asV q)<|.nil0)<|.seq<|.seq<|.reg0 q (.o (mvV q)<|.o (eqEN un51 q q)<|.nil0) ?_
  by_cases c1:z_.isNone=true
  ·rw [if_pos c1] at h
   refine .condT q c1<|.seq<|.reg0 q (.o (asV q)<|.nil0) ?_
   replace h:=h.symm
   subst h
   refine .room 6<|.keepL [0] [(2,.own 0 0)] [⟨6,[].map TWeight.cells,0,none⟩] (by decide) (by decide) ⟨.nilOwn,trivial⟩ ⟨⟨_,q,bcRow (l:=[]) sl51 (Nat.le_refl _) q⟩,trivial⟩ ?_
   exact .ret q
  ·rw [if_neg c1] at h
   refine .condF q (nb c1)<|.skip<|.seq ?_
   obtain ⟨g4_2,h⟩:=h
   refine .room 0<|.room 0<|.reg0 q (.o (bldL (s:=6) (cs:=[]) un51 sz53 ze53 ⟨by decide,q,by decide⟩ q q q q)<|.o (mvV q)<|.o (apL (l:=[]) [] sl51 q q q (Nat.zero_le _) q g4_2)<|.o (asO q)<|.nil0) ?_
   replace h:=h.symm
   subst h
   refine .keepL [0] [(2,.own 0 0)] [⟨6,[].map TWeight.cells,0,none⟩] (by decide) (by decide) ⟨.own q,trivial⟩ ⟨⟨_,q,bcRow (l:=[]) sl51 (Nat.le_refl _) q⟩,trivial⟩ ?_
   exact .ret q
 ·rw [if_neg c0_] at h
  refine .enter 8 0 fn116 q q q<|.seq<|.reg0 q (.o (asV q)<|.nil0)<|.seq<|.seq<|.reg0 q (.o (mvR q)<|.o (eqRN c0_ un51 q q)<|.nil0)<|.condF q q<|.skip<|.seq ?_
  obtain ⟨g7_2,h⟩:=h
  refine .room 0<|.room 0<|.reg0 q (.o (bldL (s:=6) (cs:=[]) un51 sz53 ze53 ⟨by decide,q,by decide⟩ q q q q)<|.o (mvR q)<|.o (apL (l:=[]) a0 sl51 q q q (Nat.zero_le _) q g7_2)<|.o (asO q)<|.nil0) ?_
  replace h:=h.symm
  subst h
  refine .keepL [0] [(2,.own 0 a0.length)] [⟨6,a0.map TWeight.cells,0,none⟩] (by decide) (by decide) ⟨.own q,trivial⟩ ⟨⟨_,q,bcRow (l:=a0) sl51 (Nat.le_refl _) q⟩,trivial⟩ ?_
  exact .ret q
def weight_copied.b1 (self71:TWeight→TWeight→Prop) (t4_2:(List TWeight)):((List TWeight) × Int)→Rnd (((List TWeight) × Int)) ((List TWeight)) TWeight→Prop:=fun (x1,x2) z1=>if x2 < (t4_2.length:Int) then (((InR x2 x1.length))∧∃ t16_8:TWeight,(self71 (rdl x1 x2) t16_8)∧((InR x2 x1.length))∧z1=.next ((setl x1 x2 t16_8),(IntKind.i64.wrap (x2 + 1)))) else (z1=.exit x1)
def weight_copied.step (self71:TWeight→TWeight→Prop) (a0:TWeight) (r:TWeight):Prop :=
 ∃ t2_3:(List Int),(slices_Clone_uint64.f a0.Facts.Rows t2_3)∧∃ t3_2:(List TCell),(slices_Clone_Cell.f a0.Cells t3_2)∧∃ t4_2:(List TWeight),(slices_Clone_Weight_o0.f a0.Parts t4_2)∧∃ o1:Fin ((List TWeight)) TWeight,Loop (weight_copied.b1 self71 t4_2) (t4_2,0) o1∧o1.on (fun x3=>r=(TWeight.mk a0.Zero a0.Cost (TFacts.mk a0.Facts.Gen t2_3) t3_2 x3)) (fun r_=>r=r_)
theorem weight_copied.stepD {self71:TWeight→TWeight→Prop} {a0:TWeight} (hs71:∀ z0_ r_,self71 z0_ r_→D Tryz.prog X (.callH 71 [.agg (TWeight.lit z0_)] [] (.agg (TWeight.lit r_)) [])) {r:TWeight} (h:weight_copied.step self71 a0 r):D Tryz.prog X (.callH 71 [.agg (TWeight.lit a0)] [] (.agg (TWeight.lit r)) []):=by
 unfold weight_copied.step at h
 refine .enter 36 0 fn71 q q q<|.seq<|.room 0<|.room 0<|.reg0 q (.o (bxP (s:=6) (cs:=(TWeight.lit a0)) q ⟨q,by decide,q⟩ q)<|.op 1 q (alP (s:=6) ze53 ⟨q,by decide,q⟩ q)<|.nil0)<|.seq ?_
 obtain ⟨t2_3,g2_3,h⟩:=h
 refine .reg0 q (.o (faP fa53_2 q)<|.o (faP fa49_1 q)<|.o (ldP q sz47 ag47 q)<|.c q go114 q q q (slices_Clone_uint64.D g2_3)<|.o (faP fa53_2 q)<|.o (faP fa49_1 q)<|.o (stB (cs0:=(TWeight.lit a0)) (cs:=[.rows (t2_3.map (cInt .u64))]) (cs1:=[bo a0.Zero,i6 a0.Cost,u6 a0.Facts.Gen,.rows (t2_3.map (cInt .u64)),.rows (a0.Cells.map TCell.cells),.rows (a0.Parts.map TWeight.cells)]) q q sz47 q ⟨Nat.le_of_ble_eq_true q,q⟩ q)<|.nil0) ?_
 refine .seq ?_
 obtain ⟨t3_2,g3_2,h⟩:=h
 refine .reg0 q (.o (faP fa53_3 q)<|.o (ldP q sz50 ag50 q)<|.c q go115 q q q (slices_Clone_Cell.D g3_2)<|.o (faP fa53_3 q)<|.o (stB (cs0:=[bo a0.Zero,i6 a0.Cost,u6 a0.Facts.Gen,.rows (t2_3.map (cInt .u64)),.rows (a0.Cells.map TCell.cells),.rows (a0.Parts.map TWeight.cells)]) (cs:=[.rows (t3_2.map TCell.cells)]) (cs1:=[bo a0.Zero,i6 a0.Cost,u6 a0.Facts.Gen,.rows (t2_3.map (cInt .u64)),.rows (t3_2.map TCell.cells),.rows (a0.Parts.map TWeight.cells)]) q q sz50 q ⟨Nat.le_of_ble_eq_true q,q⟩ q)<|.nil0) ?_
 refine .seq ?_
 obtain ⟨t4_2,g4_2,h⟩:=h
 refine .room 0<|.reg0 q (.o (faP fa53_4 q)<|.o (ldP q sz51 ag51 q)<|.callI q (callee_of q go116 q) (.focus (args':=[.rows (a0.Parts.map TWeight.cells)]) (H0:=[]) (Hc:=[⟨6,t4_2.map TWeight.cells,0,none⟩]) (Hd:=[⟨6,t4_2.map TWeight.cells,0,none⟩]) [] [] [2] false (.cons (.free q q)<|.nil) (HConvL.heap trivial) (by decide) q q (slices_Clone_Weight_o0.D g4_2) (.own q) (.cons (bcRow (l:=t4_2) sl51 (Nat.le_refl _) q)<|.nil) q (.inr (.inl q)) q)<|.o (faP fa53_4 q)<|.o (stB (cs0:=[bo a0.Zero,i6 a0.Cost,u6 a0.Facts.Gen,.rows (t2_3.map (cInt .u64)),.rows (t3_2.map TCell.cells),.rows (a0.Parts.map TWeight.cells)]) (cs:=[.own 2 t4_2.length]) (cs1:=[bo a0.Zero,i6 a0.Cost,u6 a0.Facts.Gen,.rows (t2_3.map (cInt .u64)),.rows (t3_2.map TCell.cells),.own 2 t4_2.length]) q q sz51 q ⟨Nat.le_of_ble_eq_true q,q⟩ q)<|.nil0) ?_
 refine .seq<|.seq<|.reg0 q (.o (faP fa53_4 q)<|.o (ldP q sz51 ag51 q)<|.o (lnO (l:=t4_2) sl51 q q q)<|.o (mvV q)<|.nil0)<|.block<|.keepL [0,2,1] [(1,.ptr 0 1 6 0 0),(2,.ptr 2 1 6 0 0),(20,i6 (t4_2.length:Int)),(21,i6 0)] [⟨6,[[bo a0.Zero,i6 a0.Cost,u6 a0.Facts.Gen,.rows (t2_3.map (cInt .u64)),.rows (t3_2.map TCell.cells),.own 1 t4_2.length]],0,none⟩,⟨6,t4_2.map TWeight.cells,0,none⟩,⟨6,[GF_c2],0,none⟩] (by decide) (by decide) ⟨.ptr q,.ptr q,.free q q,.free q q,trivial⟩ ⟨⟨_,q,bcBox (.cons (.free q q)<|.cons (.free q q)<|.cons (.free q q)<|.cons (.free q q)<|.cons (.free q q)<|.cons (.own q)<|.nil)⟩,⟨_,q,bcRow (l:=t4_2) sl51 (Nat.le_refl _) q⟩,⟨_,q,bcBox (all2_free q)⟩,trivial⟩ ?_
 obtain ⟨o1,hL1,h⟩:=h
 refine .loopB (weight_copied.b1 self71 t4_2) (fun (x1,x2)=>listEnv [(1,.ptr 0 1 6 0 0),(2,.ptr 2 1 6 0 0),(20,i6 (t4_2.length:Int)),(21,i6 x2)]) (fun (x1,x2)=>[⟨6,[[bo a0.Zero,i6 a0.Cost,u6 a0.Facts.Gen,.rows (t2_3.map (cInt .u64)),.rows (t3_2.map TCell.cells),.own 1 x1.length]],0,none⟩,⟨6,x1.map TWeight.cells,0,none⟩,⟨6,[GF_c2],0,none⟩]) (fun x3=>listEnv [(1,.ptr 0 1 6 0 0),(2,.ptr 2 1 6 0 0)]) (fun x3=>[⟨6,[[bo a0.Zero,i6 a0.Cost,u6 a0.Facts.Gen,.rows (t2_3.map (cInt .u64)),.rows (t3_2.map TCell.cells),.own 1 x3.length]],0,none⟩,⟨6,x3.map TWeight.cells,0,none⟩,⟨6,[GF_c2],0,none⟩]) hL1 (fun r_=>r=r_) ?_ ?_ ?_
 ·rintro x3 rfl
  try dsimp only [Fin.on] at h
  refine .seq<|.reg0 q (.o (ldG q sz53 ag53 q)<|.o (stB (cs0:=GF_c2) (cs:=[bo a0.Zero,i6 a0.Cost,u6 a0.Facts.Gen,.rows (t2_3.map (cInt .u64)),.rows (t3_2.map TCell.cells),.own 1 x3.length]) (cs1:=[bo a0.Zero,i6 a0.Cost,u6 a0.Facts.Gen,.rows (t2_3.map (cInt .u64)),.rows (t3_2.map TCell.cells),.own 1 x3.length]) q q sz53 q ⟨Nat.le_of_ble_eq_true q,q⟩ q)<|.nil0) ?_
  replace h:=h.symm
  subst h
  refine .k [(2,.cptr [bo a0.Zero,i6 a0.Cost,u6 a0.Facts.Gen,.rows (t2_3.map (cInt .u64)),.rows (t3_2.map TCell.cells),.rows (x3.map TWeight.cells)] 0)] ⟨cFixP q q (.cons (.free q q)<|.cons (.free q q)<|.cons (.free q q)<|.cons (.free q q)<|.cons (.free q q)<|.cons (cFixO (l:=x3) sl51 q q q q)<|.nil),trivial⟩ ?_
  exact .ret q
 ·rintro r_ rfl
  exact h
 ·rintro ⟨x1,x2⟩ z1 h hn1 hx1 hr1
  dsimp only [weight_copied.b1] at h
  refine .seq<|.reg0 q (.o (ltI q q)<|.nil0)<|.seq ?_
  by_cases c3:x2 < (t4_2.length:Int)
  ·rw [if_pos c3] at h
   refine .condT q (dt c3)<|.skip<|.seq<|.block<|.seq<|.reg0 q (.o (mvV q)<|.o (asV q)<|.nil0) ?_
   obtain ⟨g16_6,h⟩:=h
   obtain ⟨t16_8,g16_8,h⟩:=h
   obtain ⟨g16_9,h⟩:=h
   refine .reg1 (e1:=listEnv [(1,.ptr 0 1 6 0 0),(2,.ptr 2 1 6 0 0),(20,i6 (t4_2.length:Int)),(21,i6 x2)]) (H1:=[⟨6,[[bo a0.Zero,i6 a0.Cost,u6 a0.Facts.Gen,.rows (t2_3.map (cInt .u64)),.rows (t3_2.map TCell.cells),.own 1 x1.length]],0,none⟩,⟨6,(setl x1 x2 t16_8).map TWeight.cells,0,none⟩,⟨6,[GF_c2],0,none⟩]) q ?_ ?_
   ·exact .drawM [(9,33,.ptr 1 x1.length 6 (Int.toNat x2) 0),(8,32,.agg (TWeight.lit t16_8)),(7,31,.agg (TWeight.lit (rdl x1 x2))),(6,30,.ptr 1 x1.length 6 (Int.toNat x2) 0),(5,29,i6 x2),(4,28,.own 1 x1.length),(3,27,.ptr 0 1 6 0 5),(2,26,i6 x2),(1,25,.own 1 x1.length),(0,24,.ptr 0 1 6 0 5)] [(10,1,⟨6,(setl x1 x2 t16_8).map TWeight.cells,0,none⟩)] [[],[0],[],[],[3],[],[4,3,5],[6,4,3,5],[7,6,4,3,5],[1,0,2,3,4,5,6,7,8],[9,1,0,2,3,4,5,6,7,8]] (by rfl) (by rfl) (by rfl) (by exact ⟨oP (fun _=>faP fa53_4 q) q,oP (fun _=>ldP q sz51 ag51 q) q,oP (fun _=>mvV q) q,oP (fun _=>faP fa53_4 q) q,oP (fun _=>ldP q sz51 ag51 q) q,oP (fun _=>mvV q) q,oP (fun _=>ixO (l:=x1) sl51 q q q q g16_6.1 g16_6.2) q,oP (fun _=>ldOG (l:=x1) (j:=x2) sl51 q sz53 ag53 q q TWeight.cells_lit g16_6.1 g16_6.2 (by decide) q) q,fun S hS hD hn=>.oneI hS hD hn q q (callee_of q go71 q) (.pure q q (hs71 _ _ g16_8)) q q q,oP (fun _=>ixO (l:=x1) sl51 q q q q g16_9.1 g16_9.2) q,fun S hS hD hn=>.one0 0 q q (stO (l:=x1) (j:=x2) (cs:=(TWeight.lit t16_8)) t16_8 sl51 q q sz53 q q g16_9.1 g16_9.2 (Nat.zero_le _) ⟨Nat.le_of_ble_eq_true q,q⟩ (by simp only [TWeight.cells_lit]; rfl)) (drawE_other _ _ _ _ q) q,trivial⟩) _ (by exact ⟨.ptr q,.ptr q,.free q q,.free q q,trivial⟩) (by rfl)
   refine .inBlock<|.reg0 q (.o (addI q q)<|.o (mvV q)<|.nil0)<|.keepL [0,1,2] [(1,.ptr 0 1 6 0 0),(2,.ptr 2 1 6 0 0),(20,i6 (t4_2.length:Int)),(21,i6 (IntKind.i64.wrap (x2 + 1)))] [⟨6,[[bo a0.Zero,i6 a0.Cost,u6 a0.Facts.Gen,.rows (t2_3.map (cInt .u64)),.rows (t3_2.map TCell.cells),.own 1 ((setl x1 x2 t16_8).length)]],0,none⟩,⟨6,(setl x1 x2 t16_8).map TWeight.cells,0,none⟩,⟨6,[GF_c2],0,none⟩] (by decide) (by decide) ⟨.ptr q,.ptr q,.free q q,.free q q,trivial⟩ ⟨⟨_,q,bcBox (.cons (.free q q)<|.cons (.free q q)<|.cons (.free q q)<|.cons (.free q q)<|.cons (.free q q)<|.cons (cOwnE q (by simp only [setl,List.length_set]))<|.nil)⟩,⟨_,q,bcRow (l:=(setl x1 x2 t16_8)) sl51 (Nat.le_refl _) q⟩,⟨_,q,bcBox (all2_free q)⟩,trivial⟩ ?_
   exact hn1 _ h
  ·rw [if_neg c3] at h
   refine .condF q (df c3)<|.exit q<|.keepL [0,1,2] [(1,.ptr 0 1 6 0 0),(2,.ptr 2 1 6 0 0)] [⟨6,[[bo a0.Zero,i6 a0.Cost,u6 a0.Facts.Gen,.rows (t2_3.map (cInt .u64)),.rows (t3_2.map TCell.cells),.own 1 x1.length]],0,none⟩,⟨6,x1.map TWeight.cells,0,none⟩,⟨6,[GF_c2],0,none⟩] (by decide) (by decide) ⟨.ptr q,.ptr q,trivial⟩ ⟨⟨_,q,bcBox (.cons (.free q q)<|.cons (.free q q)<|.cons (.free q q)<|.cons (.free q q)<|.cons (.free q q)<|.cons (.own q)<|.nil)⟩,⟨_,q,bcRow (l:=x1) sl51 (Nat.le_refl _) q⟩,⟨_,q,bcBox (all2_free q)⟩,trivial⟩ ?_
   exact hx1 _ h
def weight_copied.fN:Nat→TWeight→TWeight→Prop
 | 0=>fun _ _=>False
 | n + 1=>weight_copied.step (weight_copied.fN n)
theorem weight_copied.ND:∀ (n:Nat) {a0:TWeight} {r:TWeight} (h:weight_copied.fN n a0 r),D Tryz.prog X (.callH 71 [.agg (TWeight.lit a0)] [] (.agg (TWeight.lit r)) [])
 | 0,_,_,h=>h.elim
 | n + 1,_,_,h=>weight_copied.stepD (fun _ _ h=>weight_copied.ND n h) h
def weight_copied.f (a0:TWeight) (r:TWeight):Prop:=∃ n,weight_copied.fN n a0 r
theorem weight_copied.D {a0 r} (h:weight_copied.f a0 r):D Tryz.prog X (.callH 71 [.agg (TWeight.lit a0)] [] (.agg (TWeight.lit r)) []):=by obtain ⟨n,h⟩:=h; exact weight_copied.ND n h
def weight_Extend.b1 (a0:TSpace) (a1:List TWeight):(Bool × Int × Int × (List Int) × (List TCell) × (List TWeight) × Int)→Rnd ((Bool × Int × Int × (List Int) × (List TCell) × (List TWeight) × Int)) ((Bool × Int × Int × (List Int) × (List TCell) × (List TWeight))) (TWeight × Int)→Prop:=fun (x1,x2,x3,x4,x5,x6,x7) z1=>if x7 < (a1.length:Int) then (((InR x7 a1.length))∧∃ t16_3:TWeight,(weight_then.f a0 (TWeight.mk x1 x2 (TFacts.mk x3 x4) x5 x6) (rdl a1 x7) t16_3)∧z1=.next (t16_3.Zero,t16_3.Cost,t16_3.Facts.Gen,t16_3.Facts.Rows,t16_3.Cells,t16_3.Parts,(IntKind.i64.wrap (x7 + 1)))) else (z1=.exit (x1,x2,x3,x4,x5,x6))
def weight_Extend.f (a0:TSpace) (a1:List TWeight) (r:TWeight × Int):Prop :=
 ∃ t2_2:Int,(weight_checked.f a0 a1 t2_2)∧if t2_2=0 then (∃ t4_1:TWeight,(weight_one.f a0 t4_1)∧∃ o1:Fin ((Bool × Int × Int × (List Int) × (List TCell) × (List TWeight))) (TWeight × Int),Loop (weight_Extend.b1 a0 a1) (t4_1.Zero,t4_1.Cost,t4_1.Facts.Gen,t4_1.Facts.Rows,t4_1.Cells,t4_1.Parts,0) o1∧o1.on (fun (x8,x9,x10,x11,x12,x13)=>∃ t18_1:TWeight,(weight_copied.f (TWeight.mk x8 x9 (TFacts.mk x10 x11) x12 x13) t18_1)∧r=(t18_1,0)) (fun r_=>r=r_)) else (r=((TWeight.mk false 0 (TFacts.mk 0 []) [] []),t2_2))
theorem weight_Extend.D {a0 a1 r} (h:weight_Extend.f a0 a1 r):D Tryz.prog X (.callH 68 [.agg (TSpace.lit a0),.rows (a1.map TWeight.cells)] [] (.tuple [.agg (TWeight.lit r.1),.val (.int .i64 r.2)]) []):=by
 unfold weight_Extend.f at h
 refine .enter 32 0 fn68 q q q<|.seq<|.room 0<|.room 0<|.reg0 q (.o (bxP (s:=3) (cs:=(TSpace.lit a0)) q ⟨q,by decide,q⟩ q)<|.op 1 q (alP (s:=6) ze53 ⟨q,by decide,q⟩ q)<|.o (asV q)<|.nil0)<|.seq<|.seq ?_
 obtain ⟨t2_2,g2_2,h⟩:=h
 refine .reg0 q (.o (ldG q sz25 ag25 q)<|.o (mvR q)<|.c q go69 q q q (weight_checked.D g2_2)<|.a q<|.nil0)<|.seq<|.reg0 q (.o (mvV q)<|.o (neI q q)<|.nil0) ?_
 by_cases c1:t2_2=0
 ·rw [if_pos c1] at h
  refine .condF q (nf c1)<|.skip<|.seq ?_
  obtain ⟨t4_1,g4_1,h⟩:=h
  refine .room 0<|.reg0 q (.o (ldG q sz25 ag25 q)<|.callI q (callee_of q go106 q) (.pure q q (weight_one.D g4_1))<|.op 2 q (alP (s:=6) ze53 ⟨q,by decide,q⟩ q)<|.o (stB (cs0:=GF_c2) (cs:=(TWeight.lit t4_1)) (cs1:=(TWeight.lit t4_1)) q q sz53 q ⟨Nat.le_of_ble_eq_true q,q⟩ q)<|.nil0)<|.seq<|.seq<|.reg0 q (.o (mvR q)<|.o (lnR (l:=a1) sl51 q)<|.o (mvV q)<|.nil0) ?_
  refine .block<|.keepL [0,1,2] [(2,.ptr 0 1 3 0 0),(4,.ptr 1 1 6 0 0),(7,.ptr 2 1 6 0 0),(19,.rows (a1.map TWeight.cells)),(20,i6 (a1.length:Int)),(21,i6 0)] [⟨3,[(TSpace.lit a0)],0,none⟩,⟨6,[GF_c2],0,none⟩,⟨6,[(TWeight.lit t4_1)],0,none⟩] (by decide) (by decide) ⟨.ptr q,.ptr q,.ptr q,.free q q,.free q q,.free q q,trivial⟩ ⟨⟨_,q,bcBox (all2_free q)⟩,⟨_,q,bcBox (all2_free q)⟩,⟨_,q,bcBox (all2_free q)⟩,trivial⟩ ?_
  obtain ⟨o1,hL1,h⟩:=h
  refine .loopB (weight_Extend.b1 a0 a1) (fun (x1,x2,x3,x4,x5,x6,x7)=>listEnv [(2,.ptr 0 1 3 0 0),(4,.ptr 1 1 6 0 0),(7,.ptr 2 1 6 0 0),(19,.rows (a1.map TWeight.cells)),(20,i6 (a1.length:Int)),(21,i6 x7)]) (fun (x1,x2,x3,x4,x5,x6,x7)=>[⟨3,[(TSpace.lit a0)],0,none⟩,⟨6,[GF_c2],0,none⟩,⟨6,[[bo x1,i6 x2,u6 x3,.rows (x4.map (cInt .u64)),.rows (x5.map TCell.cells),.rows (x6.map TWeight.cells)]],0,none⟩]) (fun (x8,x9,x10,x11,x12,x13)=>listEnv [(4,.ptr 0 1 6 0 0),(7,.ptr 1 1 6 0 0)]) (fun (x8,x9,x10,x11,x12,x13)=>[⟨6,[GF_c2],0,none⟩,⟨6,[[bo x8,i6 x9,u6 x10,.rows (x11.map (cInt .u64)),.rows (x12.map TCell.cells),.rows (x13.map TWeight.cells)]],0,none⟩]) hL1 (fun r_=>r=r_) ?_ ?_ ?_
  ·rintro ⟨x8,x9,x10,x11,x12,x13⟩ rfl
   try dsimp only [Fin.on] at h
   refine .seq ?_
   obtain ⟨t18_1,g18_1,h⟩:=h
   refine .reg0 q (.o (ldG q sz53 ag53 q)<|.c q go71 q q q (weight_copied.D g18_1)<|.o (stB (cs0:=GF_c2) (cs:=(TWeight.lit t18_1)) (cs1:=(TWeight.lit t18_1)) q q sz53 q ⟨Nat.le_of_ble_eq_true q,q⟩ q)<|.a q<|.nil0) ?_
   replace h:=h.symm
   subst h
   refine .k [(4,.cptr (TWeight.lit t18_1) 0),(5,i6 0)] ⟨cFixP q q (.cons (.free q q)<|.cons (.free q q)<|.cons (.free q q)<|.cons (.free q q)<|.cons (.free q q)<|.cons (.free q q)<|.nil),.free q q,trivial⟩ ?_
   exact .ret q
  ·rintro r_ rfl
   exact h
  ·rintro ⟨x1,x2,x3,x4,x5,x6,x7⟩ z1 h hn1 hx1 hr1
   dsimp only [weight_Extend.b1] at h
   refine .seq<|.reg0 q (.o (ltI q q)<|.nil0)<|.seq ?_
   by_cases c4:x7 < (a1.length:Int)
   ·rw [if_pos c4] at h
    refine .condT q (dt c4)<|.skip<|.seq<|.block<|.seq ?_
    obtain ⟨g15_0,h⟩:=h
    refine .room 0<|.reg0 q (.o (ixR (l:=a1) (lit:=TWeight.lit) sl51 q q TWeight.cells_lit g15_0.1 g15_0.2)<|.o (ldCG q sz53 ag53 q)<|.op 3 q (alP (s:=6) ze53 ⟨q,by decide,q⟩ q)<|.o (stB (cs0:=GF_c2) (cs:=(TWeight.lit (rdl a1 x7))) (cs1:=(TWeight.lit (rdl a1 x7))) q q sz53 q ⟨Nat.le_of_ble_eq_true q,q⟩ q)<|.nil0) ?_
    obtain ⟨t16_3,g16_3,h⟩:=h
    refine .reg0 q (.o (ldG q sz25 ag25 q)<|.o (ldG q sz53 ag53 q)<|.o (ldG q sz53 ag53 q)<|.c q go107 q q q (weight_then.D g16_3)<|.o (stB (cs0:=[bo x1,i6 x2,u6 x3,.rows (x4.map (cInt .u64)),.rows (x5.map TCell.cells),.rows (x6.map TWeight.cells)]) (cs:=(TWeight.lit t16_3)) (cs1:=(TWeight.lit t16_3)) q q sz53 q ⟨Nat.le_of_ble_eq_true q,q⟩ q)<|.nil0) ?_
    refine .inBlock<|.reg0 q (.o (addI q q)<|.o (mvV q)<|.nil0)<|.keepL [0,1,2] [(2,.ptr 0 1 3 0 0),(4,.ptr 1 1 6 0 0),(7,.ptr 2 1 6 0 0),(19,.rows (a1.map TWeight.cells)),(20,i6 (a1.length:Int)),(21,i6 (IntKind.i64.wrap (x7 + 1)))] [⟨3,[(TSpace.lit a0)],0,none⟩,⟨6,[GF_c2],0,none⟩,⟨6,[(TWeight.lit t16_3)],0,none⟩] (by decide) (by decide) ⟨.ptr q,.ptr q,.ptr q,.free q q,.free q q,.free q q,trivial⟩ ⟨⟨_,q,bcBox (all2_free q)⟩,⟨_,q,bcBox (all2_free q)⟩,⟨_,q,bcBox (all2_free q)⟩,trivial⟩ ?_
    exact hn1 _ h
   ·rw [if_neg c4] at h
    refine .condF q (df c4)<|.exit q<|.keepL [1,2] [(4,.ptr 0 1 6 0 0),(7,.ptr 1 1 6 0 0)] [⟨6,[GF_c2],0,none⟩,⟨6,[[bo x1,i6 x2,u6 x3,.rows (x4.map (cInt .u64)),.rows (x5.map TCell.cells),.rows (x6.map TWeight.cells)]],0,none⟩] (by decide) (by decide) ⟨.ptr q,.ptr q,trivial⟩ ⟨⟨_,q,bcBox (all2_free q)⟩,⟨_,q,bcBox (all2_free q)⟩,trivial⟩ ?_
    exact hx1 _ h
 ·rw [if_neg c1] at h
  refine .condT q (nt c1)<|.seq<|.reg0 q (.o (bldS (cs:=GF_c2) ze53 pl53 q q)<|.o (mvV q)<|.o (stB (cs0:=GF_c2) (cs:=GF_c2) (cs1:=GF_c2) q q sz53 q ⟨Nat.le_of_ble_eq_true q,q⟩ q)<|.o (asV q)<|.nil0) ?_
  replace h:=h.symm
  subst h
  refine .k [(4,.cptr GF_c4 0),(5,i6 t2_2)] ⟨cFixP q q (.cons (.free q q)<|.cons (.free q q)<|.cons (.free q q)<|.cons (.nil)<|.cons (.nil)<|.cons (.nil)<|.nil),.free q q,trivial⟩ ?_
  exact .ret q
end Go.RM.Tryz
