/- GG, for the statement LimitRuns: what it needs, no more. -/
import Derived.Test.YtckndmicdndamaaGreatDoorZLimitRunsGF
set_option linter.unusedVariables false
set_option maxRecDepth 8000
set_option maxHeartbeats 4000000
namespace Go.RM.Tryz
open Go.RM Go.Proofs
def steps_Run.j1 (a0:TPds) (a2:List Int) (x3:Bool) (x4:Int) (x5:Int) (x6:List Int) (x7:List TCell) (x8:List TWeight) (x11:Int) (t70_6:TConf × Bool × Int):Int→(Rnd ((Bool × Int × Int × (List Int) × (List TCell) × (List TWeight) × Int × (List Int) × Int)) ((Bool × Int × Int × (List Int) × (List TCell) × (List TWeight) × Int × (List Int))) (TConf × TWeight × Int × Int))→Prop:=fun x23 z1=>if x23=0 then (((InR (rdl a2 x11) a0.Rules.length))∧∃ t75_10:TWeight × Int,(weight_Extend.f a0.Space [(TWeight.mk x3 x4 (TFacts.mk x5 x6) x7 x8),(rdl a0.Rules (rdl a2 x11)).F] t75_10)∧z1=.next (t75_10.1.Zero,t75_10.1.Cost,t75_10.1.Facts.Gen,t75_10.1.Facts.Rows,t75_10.1.Cells,t75_10.1.Parts,t70_6.1.P,t70_6.1.W,(IntKind.i64.wrap (x11 + 1)))) else (z1=.ret ((TConf.mk 0 []),(TWeight.mk false 0 (TFacts.mk 0 []) [] []),x11,x23))
def steps_Run.b1 (a0:TPds) (a2:List Int):(Bool × Int × Int × (List Int) × (List TCell) × (List TWeight) × Int × (List Int) × Int)→Rnd ((Bool × Int × Int × (List Int) × (List TCell) × (List TWeight) × Int × (List Int) × Int)) ((Bool × Int × Int × (List Int) × (List TCell) × (List TWeight) × Int × (List Int))) (TConf × TWeight × Int × Int)→Prop:=fun (x3,x4,x5,x6,x7,x8,x9,x10,x11) z1=>if x11 < (a2.length:Int) then (((InR x11 a2.length))∧if ((decide ((rdl a2 x11) < 0)) || (decide ((rdl a2 x11) ≥ (a0.Rules.length:Int))))=true then (z1=.ret ((TConf.mk 0 []),(TWeight.mk false 0 (TFacts.mk 0 []) [] []),x11,5)) else (((InR (rdl a2 x11) a0.Rules.length))∧∃ t70_6:TConf × Bool × Int,(steps_next.f (rdl a0.Rules (rdl a2 x11)) (TConf.mk x9 x10) t70_6)∧if t70_6.2.1=true then (steps_Run.j1 a0 a2 x3 x4 x5 x6 x7 x8 x11 t70_6 t70_6.2.2 z1) else (steps_Run.j1 a0 a2 x3 x4 x5 x6 x7 x8 x11 t70_6 121 z1))) else (z1=.exit (x3,x4,x5,x6,x7,x8,x9,x10))
def steps_Run.f (a0:TPds) (a1:TConf) (a2:List Int) (r:TConf × TWeight × Int × Int):Prop :=
 ∃ t2_2:Int,(steps_Check.f a0 a1 t2_2)∧if t2_2=0 then (∃ t4_2:TWeight × Int,(weight_One.f a0.Space t4_2)∧∃ t5_4:(List Int),(slices_Clone_int.f a1.W t5_4)∧∃ o1:Fin ((Bool × Int × Int × (List Int) × (List TCell) × (List TWeight) × Int × (List Int))) (TConf × TWeight × Int × Int),Loop (steps_Run.b1 a0 a2) (t4_2.1.Zero,t4_2.1.Cost,t4_2.1.Facts.Gen,t4_2.1.Facts.Rows,t4_2.1.Cells,t4_2.1.Parts,a1.P,t5_4,0) o1∧o1.on (fun (x14,x15,x16,x17,x18,x19,x20,x21)=>r=((TConf.mk x20 x21),(TWeight.mk x14 x15 (TFacts.mk x16 x17) x18 x19),0,0)) (fun r_=>r=r_)) else (r=((TConf.mk 0 []),(TWeight.mk false 0 (TFacts.mk 0 []) [] []),0,t2_2))
abbrev GG_c0:List PV:=[bo false,i6 0,u6 0,nul,nul,nul]
abbrev GG_c1:List PV:=[i6 0,.rows (([]:List Int).map (cInt .i64))]
abbrev GG_c2:List PV:=[bo false,i6 0,u6 0,.rows (([]:List Int).map (cInt .u64)),.rows (([]:List TCell).map TCell.cells),.rows (([]:List TWeight).map TWeight.cells)]
theorem steps_Run.D {a0 a1 a2 r} (h:steps_Run.f a0 a1 a2 r):D Tryz.prog X (.callH 37 [.agg (TPds.lit a0),.agg (TConf.lit a1),.rows (a2.map (cInt .i64))] [] (.tuple [.agg (TConf.lit r.1),.agg (TWeight.lit r.2.1),.val (.int .i64 r.2.2.1),.val (.int .i64 r.2.2.2)]) []):=by
 unfold steps_Run.f at h
 refine .enter 95 0 fn37 q q q<|.seq<|.room 0<|.room 0<|.room 0<|.room 0<|.reg0 q (.o (bxP (s:=6) (cs:=(TPds.lit a0)) q ⟨q,by decide,q⟩ q)<|.op 1 q (bxP (s:=2) (cs:=(TConf.lit a1)) q ⟨q,by decide,q⟩ q)<|.op 2 q (alP (s:=2) ze36 ⟨q,by decide,q⟩ q)<|.op 3 q (alP (s:=6) ze53 ⟨q,by decide,q⟩ q)<|.o (asV q)<|.o (asV q)<|.nil0) ?_
 refine .seq<|.seq ?_
 obtain ⟨t2_2,g2_2,h⟩:=h
 refine .reg0 q (.o (ldG q sz28 ag28 q)<|.o (ldG q sz36 ag36 q)<|.c q go31 q q q (steps_Check.D g2_2)<|.a q<|.nil0)<|.seq<|.reg0 q (.o (mvV q)<|.o (neI q q)<|.nil0) ?_
 by_cases c1:t2_2=0
 ·rw [if_pos c1] at h
  refine .condF q (nf c1)<|.skip<|.seq ?_
  obtain ⟨t4_2,g4_2,h⟩:=h
  refine .room 0<|.reg0 q (.o (faP fa28_0 q)<|.o (ldG q sz25 ag25 q)<|.callI q (callee_of q go67 q) (.pure q q (weight_One.D g4_2))<|.o (mvT q)<|.o (exT q q)<|.o (exT q q)<|.op 4 q (alP (s:=6) ze53 ⟨q,by decide,q⟩ q)<|.o (stB (cs0:=GG_c0) (cs:=(TWeight.lit t4_2.1)) (cs1:=(TWeight.lit t4_2.1)) q q sz53 q ⟨Nat.le_of_ble_eq_true q,q⟩ q)<|.o (asV q)<|.nil0) ?_
  refine .seq ?_
  obtain ⟨t5_4,g5_4,h⟩:=h
  refine .room 0 ?_
  refine .reg1 (e1:=listEnv [(2,.rows (a2.map (cInt .i64))),(3,.ptr 0 1 6 0 0),(6,.ptr 2 1 2 0 0),(7,.ptr 3 1 6 0 0),(11,.ptr 4 1 6 0 0),(13,.ptr 5 1 2 0 0)]) (H1:=[⟨6,[(TPds.lit a0)],0,none⟩,⟨2,[(TConf.lit a1)],0,none⟩,⟨2,[[i6 0,nul]],0,none⟩,⟨6,[GG_c0],0,none⟩,⟨6,[(TWeight.lit t4_2.1)],0,none⟩,⟨2,[[i6 a1.P,.rows (t5_4.map (cInt .i64))]],0,none⟩]) q ?_ ?_
  ·exact .drawM [(6,13,.ptr 5 1 2 0 0),(5,38,.agg [i6 a1.P,.rows (t5_4.map (cInt .i64))]),(4,37,.rows (t5_4.map (cInt .i64))),(3,36,.rows (a1.W.map (cInt .i64))),(2,35,.ptr 1 1 2 0 1),(1,34,i6 a1.P),(0,33,.ptr 1 1 2 0 0)] [(7,5,⟨2,[[i6 a1.P,.rows (t5_4.map (cInt .i64))]],0,none⟩),(6,5,⟨2,[[i6 0,nul]],0,none⟩)] [[],[0],[],[2],[3,2],[1,0,4,3,2],[],[6,5,1,0,4,3,2]] (by rfl) (by rfl) (by rfl) (by exact ⟨oP (fun _=>faP fa36_0 q) q,oP (fun _=>ldP q sz3 ag3 q) q,oP (fun _=>faP fa36_1 q) q,oP (fun _=>ldP q sz29 ag29 q) q,fun S hS hD hn=>.oneI hS hD hn q q (callee_of q go34 q) (.pure q q (slices_Clone_int.D g5_4)) q q q,oP (fun _=>bldS (cs:=[i6 a1.P,.rows (t5_4.map (cInt .i64))]) ze36 pl36 q q) q,oW 5 (fun _=>alP (s:=2) ze36 ⟨q,by decide,q⟩ q) q fun _=>q,fun S hS hD hn=>.one0 0 q q (stB (cs0:=[i6 0,nul]) (cs:=[i6 a1.P,.rows (t5_4.map (cInt .i64))]) (cs1:=[i6 a1.P,.rows (t5_4.map (cInt .i64))]) q q sz36 q ⟨Nat.le_of_ble_eq_true q,q⟩ q) (drawE_other _ _ _ _ q) q,trivial⟩) _ (by exact ⟨.free q q,.ptr q,.ptr q,.ptr q,.ptr q,.ptr q,trivial⟩) (by rfl)
  refine .seq<|.seq<|.reg0 q (.o (mvR q)<|.o (lnR (l:=a2) sl29 q)<|.o (mvV q)<|.nil0)<|.block<|.keepL [0,2,3,4,5] [(3,.ptr 0 1 6 0 0),(6,.ptr 1 1 2 0 0),(7,.ptr 2 1 6 0 0),(11,.ptr 3 1 6 0 0),(13,.ptr 4 1 2 0 0),(39,.rows (a2.map (cInt .i64))),(40,i6 (a2.length:Int)),(41,i6 0)] [⟨6,[(TPds.lit a0)],0,none⟩,⟨2,[[i6 0,nul]],0,none⟩,⟨6,[GG_c0],0,none⟩,⟨6,[(TWeight.lit t4_2.1)],0,none⟩,⟨2,[[i6 a1.P,.rows (t5_4.map (cInt .i64))]],0,none⟩] (by decide) (by decide) ⟨.ptr q,.ptr q,.ptr q,.ptr q,.ptr q,.free q q,.free q q,.free q q,trivial⟩ ⟨⟨_,q,bcBox (all2_free q)⟩,⟨_,q,bcBox (all2_free q)⟩,⟨_,q,bcBox (all2_free q)⟩,⟨_,q,bcBox (all2_free q)⟩,⟨_,q,bcBox (all2_free q)⟩,trivial⟩ ?_
  obtain ⟨o1,hL1,h⟩:=h
  refine .loopB (steps_Run.b1 a0 a2) (fun (x3,x4,x5,x6,x7,x8,x9,x10,x11)=>listEnv [(3,.ptr 0 1 6 0 0),(6,.ptr 1 1 2 0 0),(7,.ptr 2 1 6 0 0),(11,.ptr 3 1 6 0 0),(13,.ptr 4 1 2 0 0),(39,.rows (a2.map (cInt .i64))),(40,i6 (a2.length:Int)),(41,i6 x11)]) (fun (x3,x4,x5,x6,x7,x8,x9,x10,x11)=>[⟨6,[(TPds.lit a0)],0,none⟩,⟨2,[[i6 0,nul]],0,none⟩,⟨6,[GG_c0],0,none⟩,⟨6,[[bo x3,i6 x4,u6 x5,.rows (x6.map (cInt .u64)),.rows (x7.map TCell.cells),.rows (x8.map TWeight.cells)]],0,none⟩,⟨2,[[i6 x9,.rows (x10.map (cInt .i64))]],0,none⟩]) (fun (x14,x15,x16,x17,x18,x19,x20,x21)=>listEnv [(6,.ptr 0 1 2 0 0),(7,.ptr 1 1 6 0 0),(11,.ptr 2 1 6 0 0),(13,.ptr 3 1 2 0 0)]) (fun (x14,x15,x16,x17,x18,x19,x20,x21)=>[⟨2,[[i6 0,nul]],0,none⟩,⟨6,[GG_c0],0,none⟩,⟨6,[[bo x14,i6 x15,u6 x16,.rows (x17.map (cInt .u64)),.rows (x18.map TCell.cells),.rows (x19.map TWeight.cells)]],0,none⟩,⟨2,[[i6 x20,.rows (x21.map (cInt .i64))]],0,none⟩]) hL1 (fun r_=>r=r_) ?_ ?_ ?_
  ·rintro ⟨x14,x15,x16,x17,x18,x19,x20,x21⟩ rfl
   try dsimp only [Fin.on] at h
   refine .seq ?_
   refine .reg1 (e1:=listEnv [(6,.ptr 0 1 2 0 0),(7,.ptr 1 1 6 0 0),(8,i6 0),(9,i6 0)]) (H1:=[⟨2,[[i6 x20,.rows (x21.map (cInt .i64))]],0,none⟩,⟨6,[[bo x14,i6 x15,u6 x16,.rows (x17.map (cInt .u64)),.rows (x18.map TCell.cells),.rows (x19.map TWeight.cells)]],0,none⟩,⟨6,[[bo x14,i6 x15,u6 x16,.rows (x17.map (cInt .u64)),.rows (x18.map TCell.cells),.rows (x19.map TWeight.cells)]],0,none⟩,⟨2,[[i6 x20,.rows (x21.map (cInt .i64))]],0,none⟩]) q ?_ ?_
   ·exact .drawM [(5,9,i6 0),(4,8,i6 0),(1,94,.agg [bo x14,i6 x15,u6 x16,.rows (x17.map (cInt .u64)),.rows (x18.map TCell.cells),.rows (x19.map TWeight.cells)]),(0,93,.agg [i6 x20,.rows (x21.map (cInt .i64))])] [(3,1,⟨6,[[bo x14,i6 x15,u6 x16,.rows (x17.map (cInt .u64)),.rows (x18.map TCell.cells),.rows (x19.map TWeight.cells)]],0,none⟩),(2,0,⟨2,[[i6 x20,.rows (x21.map (cInt .i64))]],0,none⟩)] [[],[],[0],[1,2,0],[3,1,2,0],[4,3,1,2,0]] (by rfl) (by rfl) (by rfl) (by exact ⟨oP (fun _=>ldG q sz36 ag36 q) q,oP (fun _=>ldG q sz53 ag53 q) q,fun S hS hD hn=>.one0 0 q q (stB (cs0:=[i6 0,nul]) (cs:=[i6 x20,.rows (x21.map (cInt .i64))]) (cs1:=[i6 x20,.rows (x21.map (cInt .i64))]) q q sz36 q ⟨Nat.le_of_ble_eq_true q,q⟩ q) (drawE_other _ _ _ _ q) q,fun S hS hD hn=>.one0 0 q q (stB (cs0:=GG_c0) (cs:=[bo x14,i6 x15,u6 x16,.rows (x17.map (cInt .u64)),.rows (x18.map TCell.cells),.rows (x19.map TWeight.cells)]) (cs1:=[bo x14,i6 x15,u6 x16,.rows (x17.map (cInt .u64)),.rows (x18.map TCell.cells),.rows (x19.map TWeight.cells)]) q q sz53 q ⟨Nat.le_of_ble_eq_true q,q⟩ q) (drawE_other _ _ _ _ q) q,oP (fun _=>asV q) q,oP (fun _=>asV q) q,trivial⟩) _ (by exact ⟨.ptr q,.ptr q,.free q q,.free q q,trivial⟩) (by rfl)
   replace h:=h.symm
   subst h
   refine .k [(6,.cptr [i6 x20,.rows (x21.map (cInt .i64))] 0),(7,.cptr [bo x14,i6 x15,u6 x16,.rows (x17.map (cInt .u64)),.rows (x18.map TCell.cells),.rows (x19.map TWeight.cells)] 0),(8,i6 0),(9,i6 0)] ⟨cFixP q q (.cons (.free q q)<|.cons (.free q q)<|.nil),cFixP q q (.cons (.free q q)<|.cons (.free q q)<|.cons (.free q q)<|.cons (.free q q)<|.cons (.free q q)<|.cons (.free q q)<|.nil),.free q q,.free q q,trivial⟩ ?_
   exact .ret q
  ·rintro r_ rfl
   exact h
  ·rintro ⟨x3,x4,x5,x6,x7,x8,x9,x10,x11⟩ z1 h hn1 hx1 hr1
   dsimp only [steps_Run.b1] at h
   refine .seq<|.reg0 q (.o (ltI q q)<|.nil0)<|.seq ?_
   by_cases c24:x11 < (a2.length:Int)
   ·rw [if_pos c24] at h
    refine .condT q (dt c24)<|.skip<|.seq<|.block<|.seq ?_
    obtain ⟨g67_1,h⟩:=h
    refine .reg0 q (.m q<|.o (ixR (l:=a2) (lit:=(cInt .i64)) sl29 q q (fun _=>q) g67_1.1 g67_1.2)<|.o (ldC q sz3 ag3 q)<|.a q<|.a q<|.nil0)<|.seq<|.seq ?_
    refine .reg0 (e1:=listEnv [(3,.ptr 0 1 6 0 0),(6,.ptr 1 1 2 0 0),(7,.ptr 2 1 6 0 0),(11,.ptr 3 1 6 0 0),(13,.ptr 4 1 2 0 0),(14,i6 x11),(15,i6 (rdl a2 x11)),(39,.rows (a2.map (cInt .i64))),(40,i6 (a2.length:Int)),(41,i6 x11),(54,bo ((decide ((rdl a2 x11) < 0)) || (decide ((rdl a2 x11) ≥ (a0.Rules.length:Int)))))]) (H1:=[⟨6,[(TPds.lit a0)],0,none⟩,⟨2,[[i6 0,nul]],0,none⟩,⟨6,[GG_c0],0,none⟩,⟨6,[[bo x3,i6 x4,u6 x5,.rows (x6.map (cInt .u64)),.rows (x7.map TCell.cells),.rows (x8.map TWeight.cells)]],0,none⟩,⟨2,[[i6 x9,.rows (x10.map (cInt .i64))]],0,none⟩]) q ?_ ?_
    ·refine .m q<|.o (ltI q q)<|.m q<|?_
     by_cases c30:(rdl a2 x11) < 0
     ·exact (.n q (dt c30)<|.n q (dt c30)<|.n q (dt c30)<|.n q (dt c30)<|.n q (dt c30)<|.o (pkTV q (dt c30) q)<|.nilL _ ⟨.ptr q,.ptr q,.ptr q,.ptr q,.ptr q,.free q q,.free q q,.free q q,.free q q,.free q q,cB q (mOrT (dt c30)),trivial⟩)
     ·exact (.g q (df c30) (mvV q)<|.g q (df c30) (faP fa28_3 q)<|.g q (df c30) (ldP q sz26 ag26 q)<|.g q (df c30) (lnR (l:=a0.Rules) sl26 q)<|.g q (df c30) (geI q q)<|.o (pkFV q (df c30) q)<|.nilL _ ⟨.ptr q,.ptr q,.ptr q,.ptr q,.ptr q,.free q q,.free q q,.free q q,.free q q,.free q q,cB q (mOrF (df c30) q),trivial⟩)
    by_cases c31:((decide ((rdl a2 x11) < 0)) || (decide ((rdl a2 x11) ≥ (a0.Rules.length:Int))))=true
    ·rw [if_pos c31] at h
     refine .condT q c31<|.seq<|.reg0 q (.o (bldS (cs:=[i6 0,nul]) ze36 pl36 q q)<|.o (bldS (cs:=GG_c0) ze53 pl53 q q)<|.o (mvV q)<|.o (stB (cs0:=[i6 0,nul]) (cs:=[i6 0,nul]) (cs1:=[i6 0,nul]) q q sz36 q ⟨Nat.le_of_ble_eq_true q,q⟩ q)<|.o (stB (cs0:=GG_c0) (cs:=GG_c0) (cs1:=GG_c0) q q sz53 q ⟨Nat.le_of_ble_eq_true q,q⟩ q)<|.o (asV q)<|.o (asV q)<|.nil0) ?_
     have q11:=hr1 _ h
     replace q11:=q11.symm
     subst q11
     refine .k [(6,.cptr GG_c1 0),(7,.cptr GG_c2 0),(8,i6 x11),(9,i6 5)] ⟨cFixP q q (.cons (.free q q)<|.cons (.nil)<|.nil),cFixP q q (.cons (.free q q)<|.cons (.free q q)<|.cons (.free q q)<|.cons (.nil)<|.cons (.nil)<|.cons (.nil)<|.nil),.free q q,.free q q,trivial⟩ ?_
     exact .ret q
    ·rw [if_neg c31] at h
     refine .condF q (nb c31)<|.skip<|.seq ?_
     obtain ⟨g70_3,h⟩:=h
     obtain ⟨t70_6,g70_6,h⟩:=h
     refine .room 0 ?_
     refine .reg1 (e1:=listEnv [(3,.ptr 0 1 6 0 0),(6,.ptr 1 1 2 0 0),(7,.ptr 2 1 6 0 0),(11,.ptr 3 1 6 0 0),(13,.ptr 4 1 2 0 0),(14,i6 x11),(15,i6 (rdl a2 x11)),(16,.ptr 5 1 2 0 0),(17,bo t70_6.2.1),(18,i6 t70_6.2.2),(39,.rows (a2.map (cInt .i64))),(40,i6 (a2.length:Int)),(41,i6 x11)]) (H1:=[⟨6,[(TPds.lit a0)],0,none⟩,⟨2,[[i6 0,nul]],0,none⟩,⟨6,[GG_c0],0,none⟩,⟨6,[[bo x3,i6 x4,u6 x5,.rows (x6.map (cInt .u64)),.rows (x7.map TCell.cells),.rows (x8.map TWeight.cells)]],0,none⟩,⟨2,[[i6 x9,.rows (x10.map (cInt .i64))]],0,none⟩,⟨2,[(TConf.lit t70_6.1)],0,none⟩]) q ?_ ?_
     ·exact .drawM [(14,18,i6 t70_6.2.2),(13,17,bo t70_6.2.1),(11,16,.ptr 5 1 2 0 0),(10,68,i6 t70_6.2.2),(9,67,bo t70_6.2.1),(8,66,.agg (TConf.lit t70_6.1)),(7,58,.tuple [.agg (TConf.lit t70_6.1),bo t70_6.2.1,i6 t70_6.2.2]),(6,65,.tuple [.agg (TConf.lit t70_6.1),bo t70_6.2.1,i6 t70_6.2.2]),(5,64,.agg [i6 x9,.rows (x10.map (cInt .i64))]),(4,63,.agg (TRule.lit (rdl a0.Rules (rdl a2 x11)))),(3,62,.cptr (TRule.lit (rdl a0.Rules (rdl a2 x11))) 0),(2,61,i6 (rdl a2 x11)),(1,60,.rows (a0.Rules.map TRule.cells)),(0,59,.ptr 0 1 6 0 5)] [(12,5,⟨2,[(TConf.lit t70_6.1)],0,none⟩),(11,5,⟨2,[[i6 0,nul]],0,none⟩)] [[],[0],[],[1,0,2],[3,1,0,2],[],[4,3,1,0,2,5],[6,4,3,1,0,2,5],[7,6,4,3,1,0,2,5],[7,6,4,3,1,0,2,5],[7,6,4,3,1,0,2,5],[],[11,8,7,6,4,3,1,0,2,5],[9,7,6,4,3,1,0,2,5,12,11,8],[10,7,6,4,3,1,0,2,5,13,9,12,11,8]] (by rfl) (by rfl) (by rfl) (by exact ⟨oP (fun _=>faP fa28_3 q) q,oP (fun _=>ldP q sz26 ag26 q) q,oP (fun _=>mvV q) q,oP (fun _=>ixR (l:=a0.Rules) (lit:=TRule.lit) sl26 q q (fun _=>q) g70_3.1 g70_3.2) q,oP (fun _=>ldCG q sz77 ag77 q) q,oP (fun _=>ldG q sz36 ag36 q) q,fun S hS hD hn=>.oneI hS hD hn q q (callee_of q go63 q) (.pure q q (steps_next.D g70_6)) q q q,oP (fun _=>mvT q) q,oP (fun _=>exT q q) q,oP (fun _=>exT q q) q,oP (fun _=>exT q q) q,oW 5 (fun _=>alP (s:=2) ze36 ⟨q,by decide,q⟩ q) q fun _=>q,fun S hS hD hn=>.one0 0 q q (stB (cs0:=[i6 0,nul]) (cs:=(TConf.lit t70_6.1)) (cs1:=(TConf.lit t70_6.1)) q q sz36 q ⟨Nat.le_of_ble_eq_true q,q⟩ q) (drawE_other _ _ _ _ q) q,oP (fun _=>asV q) q,oP (fun _=>asV q) q,trivial⟩) _ (by exact ⟨.ptr q,.ptr q,.ptr q,.ptr q,.ptr q,.free q q,.free q q,.ptr q,.free q q,.free q q,.free q q,.free q q,.free q q,trivial⟩) (by rfl)
     refine .seq<|.seq<|.reg0 q (.o (mvV q)<|.o (notB q)<|.nil0) ?_
     refine .consJ (fun s_=>steps_Run.j1 a0 a2 x3 x4 x5 x6 x7 x8 x11 t70_6 s_ z1) (fun x23=>listEnv [(3,.ptr 0 1 6 0 0),(6,.ptr 1 1 2 0 0),(7,.ptr 2 1 6 0 0),(11,.ptr 3 1 6 0 0),(13,.ptr 4 1 2 0 0),(14,i6 x11),(15,i6 (rdl a2 x11)),(16,.ptr 5 1 2 0 0),(18,i6 x23),(39,.rows (a2.map (cInt .i64))),(40,i6 (a2.length:Int)),(41,i6 x11)]) (fun x23=>[⟨6,[(TPds.lit a0)],0,none⟩,⟨2,[[i6 0,nul]],0,none⟩,⟨6,[GG_c0],0,none⟩,⟨6,[[bo x3,i6 x4,u6 x5,.rows (x6.map (cInt .u64)),.rows (x7.map TCell.cells),.rows (x8.map TWeight.cells)]],0,none⟩,⟨2,[[i6 x9,.rows (x10.map (cInt .i64))]],0,none⟩,⟨2,[(TConf.lit t70_6.1)],0,none⟩]) ?_ fun hJ1=>?_
     ·rintro x23 h
      unfold steps_Run.j1 at h
      try dsimp only at h
      refine .seq<|.seq<|.reg0 q (.o (mvV q)<|.o (neI q q)<|.nil0) ?_
      by_cases c33:x23=0
      ·rw [if_pos c33] at h
       refine .condF q (nf c33)<|.skip<|.seq<|.reg0 q (.o (ldG q sz36 ag36 q)<|.o (stB (cs0:=[i6 x9,.rows (x10.map (cInt .i64))]) (cs:=(TConf.lit t70_6.1)) (cs1:=(TConf.lit t70_6.1)) q q sz36 q ⟨Nat.le_of_ble_eq_true q,q⟩ q)<|.nil0) ?_
       obtain ⟨g75_6,h⟩:=h
       obtain ⟨t75_10,g75_10,h⟩:=h
       refine .room 0 ?_
       refine .reg1 (e1:=listEnv [(3,.ptr 0 1 6 0 0),(6,.ptr 1 1 2 0 0),(7,.ptr 2 1 6 0 0),(11,.ptr 3 1 6 0 0),(13,.ptr 4 1 2 0 0),(39,.rows (a2.map (cInt .i64))),(40,i6 (a2.length:Int)),(41,i6 x11)]) (H1:=[⟨6,[(TPds.lit a0)],0,none⟩,⟨2,[[i6 0,nul]],0,none⟩,⟨6,[GG_c0],0,none⟩,⟨6,[(TWeight.lit t75_10.1)],0,none⟩,⟨2,[(TConf.lit t70_6.1)],0,none⟩,⟨2,[(TConf.lit t70_6.1)],0,none⟩,⟨6,[(TWeight.mk x3 x4 (TFacts.mk x5 x6) x7 x8),(rdl a0.Rules (rdl a2 x11)).F].map TWeight.cells,(max 0 ([(TWeight.mk x3 x4 (TFacts.mk x5 x6) x7 x8),(rdl a0.Rules (rdl a2 x11)).F].map TWeight.cells:List (List PV)).length),none⟩]) q ?_ ?_
       ·exact .drawM [(13,91,i6 t75_10.2),(12,90,.agg (TWeight.lit t75_10.1)),(11,78,.tuple [.agg (TWeight.lit t75_10.1),i6 t75_10.2]),(10,89,.tuple [.agg (TWeight.lit t75_10.1),i6 t75_10.2]),(9,88,.own 6 ([(TWeight.mk x3 x4 (TFacts.mk x5 x6) x7 x8),(rdl a0.Rules (rdl a2 x11)).F].length)),(8,87,.agg (TWeight.lit ((rdl a0.Rules (rdl a2 x11)).F))),(7,86,.cptr (TRule.lit (rdl a0.Rules (rdl a2 x11))) 4),(6,85,.cptr (TRule.lit (rdl a0.Rules (rdl a2 x11))) 0),(5,84,i6 (rdl a2 x11)),(4,83,.rows (a0.Rules.map TRule.cells)),(3,82,.ptr 0 1 6 0 5),(2,81,.agg [bo x3,i6 x4,u6 x5,.rows (x6.map (cInt .u64)),.rows (x7.map TCell.cells),.rows (x8.map TWeight.cells)]),(1,80,.agg (TSpace.lit a0.Space)),(0,79,.ptr 0 1 6 0 0)] [(14,3,⟨6,[(TWeight.lit t75_10.1)],0,none⟩),(10,6,⟨6,[(TWeight.mk x3 x4 (TFacts.mk x5 x6) x7 x8),(rdl a0.Rules (rdl a2 x11)).F].map TWeight.cells,(max 0 ([(TWeight.mk x3 x4 (TFacts.mk x5 x6) x7 x8),(rdl a0.Rules (rdl a2 x11)).F].map TWeight.cells:List (List PV)).length),none⟩),(9,6,⟨6,[(TWeight.mk x3 x4 (TFacts.mk x5 x6) x7 x8),(rdl a0.Rules (rdl a2 x11)).F].map TWeight.cells,0,none⟩)] [[],[0],[],[],[3],[],[4,3,5],[6,4,3,5],[7,6,4,3,5],[2,8,7,6,4,3,5],[1,0,9,2,8,7,6,4,3,5],[10,1,0,9,2,8,7,6,4,3,5],[11,10,1,0,9,2,8,7,6,4,3,5],[11,10,1,0,9,2,8,7,6,4,3,5],[12,11,10,1,0,9,2,8,7,6,4,3,5]] (by rfl) (by rfl) (by rfl) (by exact ⟨oP (fun _=>faP fa28_0 q) q,oP (fun _=>ldG q sz25 ag25 q) q,oP (fun _=>ldG q sz53 ag53 q) q,oP (fun _=>faP fa28_3 q) q,oP (fun _=>ldP q sz26 ag26 q) q,oP (fun _=>mvV q) q,oP (fun _=>ixR (l:=a0.Rules) (lit:=TRule.lit) sl26 q q (fun _=>q) g75_6.1 g75_6.2) q,oP (fun _=>faC fa77_4 q) q,oP (fun _=>ldCG q sz53 ag53 q) q,oW 6 (fun _=>bldT (s:=6) (cs:=[bo x3,i6 x4,u6 x5,.rows (x6.map (cInt .u64)),.rows (x7.map TCell.cells),.rows (x8.map TWeight.cells),bo ((rdl a0.Rules (rdl a2 x11)).F.Zero),i6 ((rdl a0.Rules (rdl a2 x11)).F.Cost),u6 ((rdl a0.Rules (rdl a2 x11)).F.Facts.Gen),.rows ((rdl a0.Rules (rdl a2 x11)).F.Facts.Rows.map (cInt .u64)),.rows ((rdl a0.Rules (rdl a2 x11)).F.Cells.map TCell.cells),.rows ((rdl a0.Rules (rdl a2 x11)).F.Parts.map TWeight.cells)]) (cf:=TWeight.cells) [(TWeight.mk x3 x4 (TFacts.mk x5 x6) x7 x8),(rdl a0.Rules (rdl a2 x11)).F] un51 sz53 ze53 ⟨by decide,q,by decide⟩ q q q (by simp only [List.map,TWeight.cells_lit]; rfl) q) q fun _=>q,fun S hS hD hn=>.oneI hS hD hn q q (callee_of q go68 q) (.lendC (args':=[.agg (TSpace.lit a0.Space),.rows ([(TWeight.mk x3 x4 (TFacts.mk x5 x6) x7 x8),(rdl a0.Rules (rdl a2 x11)).F].map TWeight.cells)])  [6] true (.cons (.free q q)<|.cons (cFixO (l:=[(TWeight.mk x3 x4 (TFacts.mk x5 x6) x7 x8),(rdl a0.Rules (rdl a2 x11)).F]) sl51 q q q q)<|.nil) (by decide) q q q q (weight_Extend.D g75_10)) q q q,oP (fun _=>mvT q) q,oP (fun _=>exT q q) q,oP (fun _=>exT q q) q,fun S hS hD hn=>.one0 0 q q (stB (cs0:=[bo x3,i6 x4,u6 x5,.rows (x6.map (cInt .u64)),.rows (x7.map TCell.cells),.rows (x8.map TWeight.cells)]) (cs:=(TWeight.lit t75_10.1)) (cs1:=(TWeight.lit t75_10.1)) q q sz53 q ⟨Nat.le_of_ble_eq_true q,q⟩ q) (drawE_other _ _ _ _ q) q,trivial⟩) _ (by exact ⟨.ptr q,.ptr q,.ptr q,.ptr q,.ptr q,.free q q,.free q q,.free q q,trivial⟩) (by rfl)
       refine .inBlock<|.reg0 q (.o (addI q q)<|.o (mvV q)<|.nil0)<|.keepL [0,1,2,3,4] [(3,.ptr 0 1 6 0 0),(6,.ptr 1 1 2 0 0),(7,.ptr 2 1 6 0 0),(11,.ptr 3 1 6 0 0),(13,.ptr 4 1 2 0 0),(39,.rows (a2.map (cInt .i64))),(40,i6 (a2.length:Int)),(41,i6 (IntKind.i64.wrap (x11 + 1)))] [⟨6,[(TPds.lit a0)],0,none⟩,⟨2,[[i6 0,nul]],0,none⟩,⟨6,[GG_c0],0,none⟩,⟨6,[(TWeight.lit t75_10.1)],0,none⟩,⟨2,[(TConf.lit t70_6.1)],0,none⟩] (by decide) (by decide) ⟨.ptr q,.ptr q,.ptr q,.ptr q,.ptr q,.free q q,.free q q,.free q q,trivial⟩ ⟨⟨_,q,bcBox (all2_free q)⟩,⟨_,q,bcBox (all2_free q)⟩,⟨_,q,bcBox (all2_free q)⟩,⟨_,q,bcBox (all2_free q)⟩,⟨_,q,bcBox (all2_free q)⟩,trivial⟩ ?_
       exact hn1 _ h
      ·rw [if_neg c33] at h
       refine .condT q (nt c33)<|.seq<|.reg0 q (.o (bldS (cs:=[i6 0,nul]) ze36 pl36 q q)<|.o (bldS (cs:=GG_c0) ze53 pl53 q q)<|.o (mvV q)<|.o (mvV q)<|.o (stB (cs0:=[i6 0,nul]) (cs:=[i6 0,nul]) (cs1:=[i6 0,nul]) q q sz36 q ⟨Nat.le_of_ble_eq_true q,q⟩ q)<|.o (stB (cs0:=GG_c0) (cs:=GG_c0) (cs1:=GG_c0) q q sz53 q ⟨Nat.le_of_ble_eq_true q,q⟩ q)<|.o (asV q)<|.o (asV q)<|.nil0) ?_
       have q12:=hr1 _ h
       replace q12:=q12.symm
       subst q12
       refine .k [(6,.cptr GG_c1 0),(7,.cptr GG_c2 0),(8,i6 x11),(9,i6 x23)] ⟨cFixP q q (.cons (.free q q)<|.cons (.nil)<|.nil),cFixP q q (.cons (.free q q)<|.cons (.free q q)<|.cons (.free q q)<|.cons (.nil)<|.cons (.nil)<|.cons (.nil)<|.nil),.free q q,.free q q,trivial⟩ ?_
       exact .ret q
     ·by_cases c34:t70_6.2.1=true
      ·rw [if_pos c34] at h
       refine .condF q (bnotF c34)<|.skip<|.keepL [0,1,2,3,4,5] [(3,.ptr 0 1 6 0 0),(6,.ptr 1 1 2 0 0),(7,.ptr 2 1 6 0 0),(11,.ptr 3 1 6 0 0),(13,.ptr 4 1 2 0 0),(14,i6 x11),(15,i6 (rdl a2 x11)),(16,.ptr 5 1 2 0 0),(18,i6 t70_6.2.2),(39,.rows (a2.map (cInt .i64))),(40,i6 (a2.length:Int)),(41,i6 x11)] [⟨6,[(TPds.lit a0)],0,none⟩,⟨2,[[i6 0,nul]],0,none⟩,⟨6,[GG_c0],0,none⟩,⟨6,[[bo x3,i6 x4,u6 x5,.rows (x6.map (cInt .u64)),.rows (x7.map TCell.cells),.rows (x8.map TWeight.cells)]],0,none⟩,⟨2,[[i6 x9,.rows (x10.map (cInt .i64))]],0,none⟩,⟨2,[(TConf.lit t70_6.1)],0,none⟩] (by decide) (by decide) ⟨.ptr q,.ptr q,.ptr q,.ptr q,.ptr q,.free q q,.free q q,.ptr q,.free q q,.free q q,.free q q,.free q q,trivial⟩ ⟨⟨_,q,bcBox (all2_free q)⟩,⟨_,q,bcBox (all2_free q)⟩,⟨_,q,bcBox (all2_free q)⟩,⟨_,q,bcBox (all2_free q)⟩,⟨_,q,bcBox (all2_free q)⟩,⟨_,q,bcBox (all2_free q)⟩,trivial⟩ ?_
       exact hJ1 _ h
      ·rw [if_neg c34] at h
       refine .condT q (bnotT (nb c34))<|.reg0 q (.a q<|.nil0)<|.keepL [0,1,2,3,4,5] [(3,.ptr 0 1 6 0 0),(6,.ptr 1 1 2 0 0),(7,.ptr 2 1 6 0 0),(11,.ptr 3 1 6 0 0),(13,.ptr 4 1 2 0 0),(14,i6 x11),(15,i6 (rdl a2 x11)),(16,.ptr 5 1 2 0 0),(18,i6 121),(39,.rows (a2.map (cInt .i64))),(40,i6 (a2.length:Int)),(41,i6 x11)] [⟨6,[(TPds.lit a0)],0,none⟩,⟨2,[[i6 0,nul]],0,none⟩,⟨6,[GG_c0],0,none⟩,⟨6,[[bo x3,i6 x4,u6 x5,.rows (x6.map (cInt .u64)),.rows (x7.map TCell.cells),.rows (x8.map TWeight.cells)]],0,none⟩,⟨2,[[i6 x9,.rows (x10.map (cInt .i64))]],0,none⟩,⟨2,[(TConf.lit t70_6.1)],0,none⟩] (by decide) (by decide) ⟨.ptr q,.ptr q,.ptr q,.ptr q,.ptr q,.free q q,.free q q,.ptr q,.free q q,.free q q,.free q q,.free q q,trivial⟩ ⟨⟨_,q,bcBox (all2_free q)⟩,⟨_,q,bcBox (all2_free q)⟩,⟨_,q,bcBox (all2_free q)⟩,⟨_,q,bcBox (all2_free q)⟩,⟨_,q,bcBox (all2_free q)⟩,⟨_,q,bcBox (all2_free q)⟩,trivial⟩ ?_
       exact hJ1 _ h
   ·rw [if_neg c24] at h
    refine .condF q (df c24)<|.exit q<|.keepL [1,2,3,4] [(6,.ptr 0 1 2 0 0),(7,.ptr 1 1 6 0 0),(11,.ptr 2 1 6 0 0),(13,.ptr 3 1 2 0 0)] [⟨2,[[i6 0,nul]],0,none⟩,⟨6,[GG_c0],0,none⟩,⟨6,[[bo x3,i6 x4,u6 x5,.rows (x6.map (cInt .u64)),.rows (x7.map TCell.cells),.rows (x8.map TWeight.cells)]],0,none⟩,⟨2,[[i6 x9,.rows (x10.map (cInt .i64))]],0,none⟩] (by decide) (by decide) ⟨.ptr q,.ptr q,.ptr q,.ptr q,trivial⟩ ⟨⟨_,q,bcBox (all2_free q)⟩,⟨_,q,bcBox (all2_free q)⟩,⟨_,q,bcBox (all2_free q)⟩,⟨_,q,bcBox (all2_free q)⟩,trivial⟩ ?_
    exact hx1 _ h
 ·rw [if_neg c1] at h
  refine .condT q (nt c1)<|.seq<|.reg0 q (.o (bldS (cs:=[i6 0,nul]) ze36 pl36 q q)<|.o (bldS (cs:=GG_c0) ze53 pl53 q q)<|.o (mvV q)<|.o (stB (cs0:=[i6 0,nul]) (cs:=[i6 0,nul]) (cs1:=[i6 0,nul]) q q sz36 q ⟨Nat.le_of_ble_eq_true q,q⟩ q)<|.o (stB (cs0:=GG_c0) (cs:=GG_c0) (cs1:=GG_c0) q q sz53 q ⟨Nat.le_of_ble_eq_true q,q⟩ q)<|.o (asV q)<|.o (asV q)<|.nil0) ?_
  replace h:=h.symm
  subst h
  refine .k [(6,.cptr GG_c1 0),(7,.cptr GG_c2 0),(8,i6 0),(9,i6 t2_2)] ⟨cFixP q q (.cons (.free q q)<|.cons (.nil)<|.nil),cFixP q q (.cons (.free q q)<|.cons (.free q q)<|.cons (.free q q)<|.cons (.nil)<|.cons (.nil)<|.cons (.nil)<|.nil),.free q q,.free q q,trivial⟩ ?_
  exact .ret q
def cost_Least.j1 (x4:Int):Int→(Rnd ((Int × Int)) Int (Int × Int))→Prop:=fun x9 z1=>z1=.next (x9,(IntKind.i64.wrap (x4 + 1)))
def cost_Least.b1 (a1:List Int):(Int × Int)→Rnd ((Int × Int)) Int (Int × Int)→Prop:=fun (x3,x4) z1=>if x4 < (a1.length:Int) then (((InR x4 a1.length))∧if ((x3 == (-1)) || ((!((rdl a1 x4) == (-1))) && (decide ((rdl a1 x4) < x3))))=true then (cost_Least.j1 x4 (rdl a1 x4) z1) else (cost_Least.j1 x4 x3 z1)) else (z1=.exit x3)
def cost_Least.f (a0:Int) (a1:List Int) (r:Int × Int):Prop :=
 ∃ t2_2:Int,(cost_checks.f a0 a1 t2_2)∧if t2_2=0 then (∃ o1:Fin Int (Int × Int),Loop (cost_Least.b1 a1) ((-1),0) o1∧o1.on (fun x7=>r=(x7,0)) (fun r_=>r=r_)) else (r=(0,t2_2))
theorem cost_Least.D {a0 a1 r} (h:cost_Least.f a0 a1 r):D Tryz.prog X (.callH 111 [.val (.int .i64 a0),.rows (a1.map (cInt .i64))] [] (.tuple [.val (.int .i64 r.1),.val (.int .i64 r.2)]) []):=by
 unfold cost_Least.f at h
 refine .enter 36 0 fn111 q q q<|.seq<|.reg0 q (.o (asV q)<|.o (asV q)<|.nil0)<|.seq<|.seq ?_
 obtain ⟨t2_2,g2_2,h⟩:=h
 refine .reg0 q (.m q<|.o (mvR q)<|.c q go152 q q q (cost_checks.D g2_2)<|.a q<|.nil0)<|.seq<|.reg0 q (.o (mvV q)<|.o (neI q q)<|.nil0) ?_
 by_cases c1:t2_2=0
 ·rw [if_pos c1] at h
  refine .condF q (nf c1)<|.skip<|.seq<|.reg0 q (.o (asV q)<|.nil0)<|.seq<|.seq<|.reg0 q (.o (mvR q)<|.o (lnR (l:=a1) sl29 q)<|.o (mvV q)<|.nil0)<|.block<|.keepL [] [(7,i6 (-1)),(16,.rows (a1.map (cInt .i64))),(17,i6 (a1.length:Int)),(18,i6 0)] [] (by decide) (by decide) ⟨.free q q,.free q q,.free q q,.free q q,trivial⟩ trivial ?_
  obtain ⟨o1,hL1,h⟩:=h
  refine .loopB (cost_Least.b1 a1) (fun (x3,x4)=>listEnv [(7,i6 x3),(16,.rows (a1.map (cInt .i64))),(17,i6 (a1.length:Int)),(18,i6 x4)]) (fun (x3,x4)=>[]) (fun x7=>listEnv [(7,i6 x7)]) (fun x7=>[]) hL1 (fun r_=>r=r_) ?_ ?_ ?_
  ·rintro x7 rfl
   try dsimp only [Fin.on] at h
   refine .seq<|.reg0 q (.o (mvV q)<|.o (asV q)<|.o (asV q)<|.nil0) ?_
   replace h:=h.symm
   subst h
   refine .kf [(4,i6 x7),(5,i6 0)] q q ?_
   exact .ret q
  ·rintro r_ rfl
   exact h
  ·rintro ⟨x3,x4⟩ z1 h hn1 hx1 hr1
   dsimp only [cost_Least.b1] at h
   refine .seq<|.reg0 q (.o (ltI q q)<|.nil0)<|.seq ?_
   by_cases c20:x4 < (a1.length:Int)
   ·rw [if_pos c20] at h
    refine .condT q (dt c20)<|.skip<|.seq<|.block<|.seq ?_
    obtain ⟨g31_0,h⟩:=h
    refine .reg0 q (.o (ixR (l:=a1) (lit:=(cInt .i64)) sl29 q q (fun _=>q) g31_0.1 g31_0.2)<|.o (ldC q sz3 ag3 q)<|.a q<|.nil0)<|.seq ?_
    refine .reg0 (e1:=listEnv [(7,i6 x3),(9,i6 (rdl a1 x4)),(16,.rows (a1.map (cInt .i64))),(17,i6 (a1.length:Int)),(18,i6 x4),(32,bo ((x3 == (-1)) || ((!((rdl a1 x4) == (-1))) && (decide ((rdl a1 x4) < x3)))))]) (H1:=[]) q ?_ ?_
    ·refine .m q<|.o (eqI q q)<|.m q<|?_
     by_cases c25:x3=(-1)
     ·exact (.n q (bt c25)<|.n q (bt c25)<|.n q (bt c25)<|.u q<|.u q<|.u q<|.n q (bt c25)<|.o (pkTV q (bt c25) q)<|.nilL _ ⟨.free q q,.free q q,.free q q,.free q q,.free q q,cB q (mOrT (bt c25)),trivial⟩)
     ·refine .g q (bn c25) (mvV q)<|.g q (bn c25) (neI q q)<|.g q (bn c25) (mvV q)<|?_
      by_cases c26:(rdl a1 x4)=(-1)
      ·exact (.n q (nf c26)<|.n q (nf c26)<|.n q (nf c26)<|.g q (bn c25) (pkFV q (nf c26) q)<|.o (pkFV q (bn c25) q)<|.nilL _ ⟨.free q q,.free q q,.free q q,.free q q,.free q q,cB q (mOrF (bn c25) (mAndF (bnotF (bt c26)))),trivial⟩)
      ·exact (.g q (nt c26) (mvV q)<|.g q (nt c26) (mvV q)<|.g q (nt c26) (ltI q q)<|.g q (bn c25) (pkTV q (nt c26) q)<|.o (pkFV q (bn c25) q)<|.nilL _ ⟨.free q q,.free q q,.free q q,.free q q,.free q q,cB q (mOrF (bn c25) (mAndT (bnotT (bn c26)) q)),trivial⟩)
    refine .consJ (fun s_=>cost_Least.j1 x4 s_ z1) (fun x9=>listEnv [(7,i6 x9),(16,.rows (a1.map (cInt .i64))),(17,i6 (a1.length:Int)),(18,i6 x4)]) (fun x9=>[]) ?_ fun hJ1=>?_
    ·rintro x9 h
     unfold cost_Least.j1 at h
     try dsimp only at h
     refine .inBlock<|.reg0 q (.o (addI q q)<|.o (mvV q)<|.nil0)<|.kf [(7,i6 x9),(16,.rows (a1.map (cInt .i64))),(17,i6 (a1.length:Int)),(18,i6 (IntKind.i64.wrap (x4 + 1)))] q q ?_
     exact hn1 _ h
    ·by_cases c28:((x3 == (-1)) || ((!((rdl a1 x4) == (-1))) && (decide ((rdl a1 x4) < x3))))=true
     ·rw [if_pos c28] at h
      refine .condT q c28<|.reg0 q (.m q<|.a q<|.nil0)<|.kf [(7,i6 (rdl a1 x4)),(16,.rows (a1.map (cInt .i64))),(17,i6 (a1.length:Int)),(18,i6 x4)] q q ?_
      exact hJ1 _ h
     ·rw [if_neg c28] at h
      refine .condF q (nb c28)<|.skip<|.keepL [] [(7,i6 x3),(16,.rows (a1.map (cInt .i64))),(17,i6 (a1.length:Int)),(18,i6 x4)] [] (by decide) (by decide) ⟨.free q q,.free q q,.free q q,.free q q,trivial⟩ trivial ?_
      exact hJ1 _ h
   ·rw [if_neg c20] at h
    refine .condF q (df c20)<|.exit q<|.keepL [] [(7,i6 x3)] [] (by decide) (by decide) ⟨.free q q,trivial⟩ trivial ?_
    exact hx1 _ h
 ·rw [if_neg c1] at h
  refine .condT q (nt c1)<|.seq<|.reg0 q (.o (mvV q)<|.o (asV q)<|.o (asV q)<|.nil0) ?_
  replace h:=h.symm
  subst h
  refine .kf [(4,i6 0),(5,i6 t2_2)] q q ?_
  exact .ret q
def facts_Combine.b1 (a0:Int) (a1:TFacts) (a2:TFacts):((List Int) × Int)→Rnd (((List Int) × Int)) ((List Int)) (TFacts × Int)→Prop:=fun (x1,x2) z1=>if x2 < ((List.replicate (Int.toNat a0) (0:Int)).length:Int) then (((InR x2 a1.Rows.length))∧((InR x2 a2.Rows.length))∧((InR x2 x1.length))∧z1=.next ((setl x1 x2 (bitOp .or .u64 (rdl a1.Rows x2) (rdl a2.Rows x2))),(IntKind.i64.wrap (x2 + 1)))) else (z1=.exit x1)
def facts_Combine.f (a0:Int) (a1:TFacts) (a2:TFacts) (r:TFacts × Int):Prop :=
 ∃ t2_4:Int,(facts_checked.f a0 [a1,a2] t2_4)∧if t2_4=0 then ((((0:Int)≤a0∧Fits a0 8))∧∃ o1:Fin ((List Int)) (TFacts × Int),Loop (facts_Combine.b1 a0 a1 a2) ((List.replicate (Int.toNat a0) (0:Int)),0) o1∧o1.on (fun x3=>∃ t18_1:TFacts,(facts_canon.f (TFacts.mk (bitOp .or .u64 a1.Gen a2.Gen) x3) t18_1)∧r=(t18_1,0)) (fun r_=>r=r_)) else (r=((TFacts.mk 0 []),t2_4))
theorem facts_Combine.D {a0 a1 a2 r} (h:facts_Combine.f a0 a1 a2 r):D Tryz.prog X (.callH 112 [.val (.int .i64 a0),.agg (TFacts.lit a1),.agg (TFacts.lit a2)] [] (.tuple [.agg (TFacts.lit r.1),.val (.int .i64 r.2)]) []):=by
 unfold facts_Combine.f at h
 refine .enter 52 0 fn112 q q q<|.seq<|.room 0<|.room 0<|.room 0<|.reg0 q (.o (bxP (s:=2) (cs:=(TFacts.lit a1)) q ⟨q,by decide,q⟩ q)<|.op 1 q (bxP (s:=2) (cs:=(TFacts.lit a2)) q ⟨q,by decide,q⟩ q)<|.op 2 q (alP (s:=2) ze49 ⟨q,by decide,q⟩ q)<|.o (asV q)<|.nil0)<|.seq<|.seq ?_
 obtain ⟨t2_4,g2_4,h⟩:=h
 refine .room 0<|.reg0 q (.o (mvV q)<|.o (ldG q sz49 ag49 q)<|.o (ldG q sz49 ag49 q)<|.op 3 q (bldL (s:=2) (cs:=[u6 a1.Gen,.rows (a1.Rows.map (cInt .u64)),u6 a2.Gen,.rows (a2.Rows.map (cInt .u64))]) un223 sz49 ze49 ⟨by decide,q,by decide⟩ q q q q)<|.callI q (callee_of q go153 q) (.lendC (args':=[i6 a0,.rows ([a1,a2].map TFacts.cells)])  [3] false (.cons (.free q q)<|.cons (cFixO (l:=[a1,a2]) sl223 q q q q)<|.nil) (by decide) q q q q (facts_checked.D g2_4))<|.o (asV q)<|.nil0) ?_
 refine .seq<|.reg0 q (.o (mvV q)<|.o (neI q q)<|.nil0) ?_
 by_cases c1:t2_4=0
 ·rw [if_pos c1] at h
  refine .condF q (nf c1)<|.skip<|.seq ?_
  obtain ⟨g4_6,h⟩:=h
  refine .room 0<|.room 0 ?_
  refine .reg1 (e1:=listEnv [(4,.ptr 0 1 2 0 0),(5,.ptr 1 1 2 0 0),(6,.ptr 2 1 2 0 0),(9,.ptr 5 1 2 0 0)]) (H1:=[⟨2,[(TFacts.lit a1)],0,none⟩,⟨2,[(TFacts.lit a2)],0,none⟩,⟨2,[[u6 0,nul]],0,none⟩,⟨2,[a1,a2].map TFacts.cells,0,none⟩,⟨1,(List.replicate (Int.toNat a0) (0:Int)).map (cInt .u64),0,none⟩,⟨2,[[u6 (bitOp .or .u64 a1.Gen a2.Gen),.own 4 ((List.replicate (Int.toNat a0) (0:Int)).length)]],0,none⟩]) q ?_ ?_
  ·exact .drawM [(8,9,.ptr 5 1 2 0 0),(7,27,.agg [u6 (bitOp .or .u64 a1.Gen a2.Gen),.own 4 ((List.replicate (Int.toNat a0) (0:Int)).length)]),(6,26,.own 4 ((List.replicate (Int.toNat a0) (0:Int)).length)),(5,25,i6 a0),(4,24,u6 (bitOp .or .u64 a1.Gen a2.Gen)),(3,23,u6 a2.Gen),(2,22,.ptr 1 1 2 0 0),(1,21,u6 a1.Gen),(0,20,.ptr 0 1 2 0 0)] [(9,5,⟨2,[[u6 (bitOp .or .u64 a1.Gen a2.Gen),.own 4 ((List.replicate (Int.toNat a0) (0:Int)).length)]],0,none⟩),(8,5,⟨2,[[u6 0,nul]],0,none⟩),(6,4,⟨1,(List.replicate (Int.toNat a0) (0:Int)).map (cInt .u64),0,none⟩)] [[],[0],[],[2],[1,0,3,2],[],[5],[4,1,0,3,2,6,5],[],[8,7,4,1,0,3,2,6,5]] (by rfl) (by rfl) (by rfl) (by exact ⟨oP (fun _=>faP fa49_0 q) q,oP (fun _=>ldP q sz46 ag46 q) q,oP (fun _=>faP fa49_0 q) q,oP (fun _=>ldP q sz46 ag46 q) q,oP (fun _=>orI q q) q,oP (fun _=>mvV q) q,oW 4 (fun _=>mkS (z0:=(0:Int)) sl47 un47 ze46 q q g4_6.1 g4_6.2 q) q fun _=>q,oP (fun _=>bldS (cs:=[u6 (bitOp .or .u64 a1.Gen a2.Gen),.own 4 ((List.replicate (Int.toNat a0) (0:Int)).length)]) ze49 pl49 q q) q,oW 5 (fun _=>alP (s:=2) ze49 ⟨q,by decide,q⟩ q) q fun _=>q,fun S hS hD hn=>.one0 0 q q (stB (cs0:=[u6 0,nul]) (cs:=[u6 (bitOp .or .u64 a1.Gen a2.Gen),.own 4 ((List.replicate (Int.toNat a0) (0:Int)).length)]) (cs1:=[u6 (bitOp .or .u64 a1.Gen a2.Gen),.own 4 ((List.replicate (Int.toNat a0) (0:Int)).length)]) q q sz49 q ⟨Nat.le_of_ble_eq_true q,q⟩ q) (drawE_other _ _ _ _ q) q,trivial⟩) _ (by exact ⟨.ptr q,.ptr q,.ptr q,.ptr q,trivial⟩) (by rfl)
  refine .seq<|.seq<|.reg0 q (.o (faP fa49_1 q)<|.o (ldP q sz47 ag47 q)<|.o (lnO (l:=(List.replicate (Int.toNat a0) (0:Int))) sl47 q q q)<|.o (mvV q)<|.nil0)<|.block<|.keepL [0,1,2,5,4] [(4,.ptr 0 1 2 0 0),(5,.ptr 1 1 2 0 0),(6,.ptr 2 1 2 0 0),(9,.ptr 3 1 2 0 0),(30,i6 ((List.replicate (Int.toNat a0) (0:Int)).length:Int)),(31,i6 0)] [⟨2,[(TFacts.lit a1)],0,none⟩,⟨2,[(TFacts.lit a2)],0,none⟩,⟨2,[[u6 0,nul]],0,none⟩,⟨2,[[u6 (bitOp .or .u64 a1.Gen a2.Gen),.own 4 ((List.replicate (Int.toNat a0) (0:Int)).length)]],0,none⟩,⟨1,(List.replicate (Int.toNat a0) (0:Int)).map (cInt .u64),0,none⟩] (by decide) (by decide) ⟨.ptr q,.ptr q,.ptr q,.ptr q,.free q q,.free q q,trivial⟩ ⟨⟨_,q,bcBox (all2_free q)⟩,⟨_,q,bcBox (all2_free q)⟩,⟨_,q,bcBox (all2_free q)⟩,⟨_,q,bcBox (.cons (.free q q)<|.cons (.own q)<|.nil)⟩,⟨_,q,bcRow (l:=(List.replicate (Int.toNat a0) (0:Int))) sl47 (Nat.le_refl _) q⟩,trivial⟩ ?_
  obtain ⟨o1,hL1,h⟩:=h
  refine .loopB (facts_Combine.b1 a0 a1 a2) (fun (x1,x2)=>listEnv [(4,.ptr 0 1 2 0 0),(5,.ptr 1 1 2 0 0),(6,.ptr 2 1 2 0 0),(9,.ptr 3 1 2 0 0),(30,i6 ((List.replicate (Int.toNat a0) (0:Int)).length:Int)),(31,i6 x2)]) (fun (x1,x2)=>[⟨2,[(TFacts.lit a1)],0,none⟩,⟨2,[(TFacts.lit a2)],0,none⟩,⟨2,[[u6 0,nul]],0,none⟩,⟨2,[[u6 (bitOp .or .u64 a1.Gen a2.Gen),.own 4 x1.length]],0,none⟩,⟨1,x1.map (cInt .u64),0,none⟩]) (fun x3=>listEnv [(6,.ptr 0 1 2 0 0),(9,.ptr 1 1 2 0 0)]) (fun x3=>[⟨2,[[u6 0,nul]],0,none⟩,⟨2,[[u6 (bitOp .or .u64 a1.Gen a2.Gen),.own 2 x3.length]],0,none⟩,⟨1,x3.map (cInt .u64),0,none⟩]) hL1 (fun r_=>r=r_) ?_ ?_ ?_
  ·rintro x3 rfl
   try dsimp only [Fin.on] at h
   refine .seq ?_
   obtain ⟨t18_1,g18_1,h⟩:=h
   refine .reg0 q (.o (ldG q sz49 ag49 q)<|.callI q (callee_of q go154 q) (.lendC (args':=[.agg [u6 (bitOp .or .u64 a1.Gen a2.Gen),.rows (x3.map (cInt .u64))]])  [2] true (.cons (cAgg (.cons (.free q q)<|.cons (cFixO (l:=x3) sl47 q q q q)<|.nil))<|.nil) (by decide) q q q q (facts_canon.D g18_1))<|.o (stB (cs0:=[u6 0,nul]) (cs:=(TFacts.lit t18_1)) (cs1:=(TFacts.lit t18_1)) q q sz49 q ⟨Nat.le_of_ble_eq_true q,q⟩ q)<|.a q<|.nil0) ?_
   replace h:=h.symm
   subst h
   refine .k [(6,.cptr (TFacts.lit t18_1) 0),(7,i6 0)] ⟨cFixP q q (.cons (.free q q)<|.cons (.free q q)<|.nil),.free q q,trivial⟩ ?_
   exact .ret q
  ·rintro r_ rfl
   exact h
  ·rintro ⟨x1,x2⟩ z1 h hn1 hx1 hr1
   dsimp only [facts_Combine.b1] at h
   refine .seq<|.reg0 q (.o (ltI q q)<|.nil0)<|.seq ?_
   by_cases c4:x2 < ((List.replicate (Int.toNat a0) (0:Int)).length:Int)
   ·rw [if_pos c4] at h
    refine .condT q (dt c4)<|.skip<|.seq<|.block<|.seq<|.reg0 q (.o (mvV q)<|.o (asV q)<|.nil0) ?_
    obtain ⟨g16_6,h⟩:=h
    obtain ⟨g16_11,h⟩:=h
    obtain ⟨g16_14,h⟩:=h
    refine .reg1 (e1:=listEnv [(4,.ptr 0 1 2 0 0),(5,.ptr 1 1 2 0 0),(6,.ptr 2 1 2 0 0),(9,.ptr 3 1 2 0 0),(30,i6 ((List.replicate (Int.toNat a0) (0:Int)).length:Int)),(31,i6 x2)]) (H1:=[⟨2,[(TFacts.lit a1)],0,none⟩,⟨2,[(TFacts.lit a2)],0,none⟩,⟨2,[[u6 0,nul]],0,none⟩,⟨2,[[u6 (bitOp .or .u64 a1.Gen a2.Gen),.own 4 x1.length]],0,none⟩,⟨1,(setl x1 x2 (bitOp .or .u64 (rdl a1.Rows x2) (rdl a2.Rows x2))).map (cInt .u64),0,none⟩]) q ?_ ?_
    ·exact .drawM [(14,48,.ptr 4 x1.length 1 (Int.toNat x2) 0),(13,47,u6 (bitOp .or .u64 (rdl a1.Rows x2) (rdl a2.Rows x2))),(12,46,u6 (rdl a2.Rows x2)),(11,45,.cptr ((cInt .u64) (rdl a2.Rows x2)) 0),(10,44,i6 x2),(9,43,.rows (a2.Rows.map (cInt .u64))),(8,42,.ptr 1 1 2 0 1),(7,41,u6 (rdl a1.Rows x2)),(6,40,.cptr ((cInt .u64) (rdl a1.Rows x2)) 0),(5,39,i6 x2),(4,38,.rows (a1.Rows.map (cInt .u64))),(3,37,.ptr 0 1 2 0 1),(2,36,i6 x2),(1,35,.own 4 x1.length),(0,34,.ptr 3 1 2 0 1)] [(15,4,⟨1,(setl x1 x2 (bitOp .or .u64 (rdl a1.Rows x2) (rdl a2.Rows x2))).map (cInt .u64),0,none⟩)] [[],[0],[],[],[3],[],[4,3,5],[6,4,3,5],[],[8],[],[9,8,10],[11,9,8,10],[7,6,4,3,5,12,11,9,8,10],[1,0,2,3,4,5,6,7,8,9,10,11,12,13],[14,1,0,2,3,4,5,6,7,8,9,10,11,12,13]] (by rfl) (by rfl) (by rfl) (by exact ⟨oP (fun _=>faP fa49_1 q) q,oP (fun _=>ldP q sz47 ag47 q) q,oP (fun _=>mvV q) q,oP (fun _=>faP fa49_1 q) q,oP (fun _=>ldP q sz47 ag47 q) q,oP (fun _=>mvV q) q,oP (fun _=>ixR (l:=a1.Rows) (lit:=(cInt .u64)) sl47 q q (fun _=>q) g16_6.1 g16_6.2) q,oP (fun _=>ldC q sz46 ag46 q) q,oP (fun _=>faP fa49_1 q) q,oP (fun _=>ldP q sz47 ag47 q) q,oP (fun _=>mvV q) q,oP (fun _=>ixR (l:=a2.Rows) (lit:=(cInt .u64)) sl47 q q (fun _=>q) g16_11.1 g16_11.2) q,oP (fun _=>ldC q sz46 ag46 q) q,oP (fun _=>orI q q) q,oP (fun _=>ixO (l:=x1) sl47 q q q q g16_14.1 g16_14.2) q,fun S hS hD hn=>.one0 0 q q (stO (l:=x1) (j:=x2) (cs:=[u6 (bitOp .or .u64 (rdl a1.Rows x2) (rdl a2.Rows x2))]) (bitOp .or .u64 (rdl a1.Rows x2) (rdl a2.Rows x2)) sl47 q q sz46 q q g16_14.1 g16_14.2 (Nat.zero_le _) ⟨Nat.le_of_ble_eq_true q,q⟩ q) (drawE_other _ _ _ _ q) q,trivial⟩) _ (by exact ⟨.ptr q,.ptr q,.ptr q,.ptr q,.free q q,.free q q,trivial⟩) (by rfl)
    refine .inBlock<|.reg0 q (.o (addI q q)<|.o (mvV q)<|.nil0)<|.keepL [0,1,2,3,4] [(4,.ptr 0 1 2 0 0),(5,.ptr 1 1 2 0 0),(6,.ptr 2 1 2 0 0),(9,.ptr 3 1 2 0 0),(30,i6 ((List.replicate (Int.toNat a0) (0:Int)).length:Int)),(31,i6 (IntKind.i64.wrap (x2 + 1)))] [⟨2,[(TFacts.lit a1)],0,none⟩,⟨2,[(TFacts.lit a2)],0,none⟩,⟨2,[[u6 0,nul]],0,none⟩,⟨2,[[u6 (bitOp .or .u64 a1.Gen a2.Gen),.own 4 ((setl x1 x2 (bitOp .or .u64 (rdl a1.Rows x2) (rdl a2.Rows x2))).length)]],0,none⟩,⟨1,(setl x1 x2 (bitOp .or .u64 (rdl a1.Rows x2) (rdl a2.Rows x2))).map (cInt .u64),0,none⟩] (by decide) (by decide) ⟨.ptr q,.ptr q,.ptr q,.ptr q,.free q q,.free q q,trivial⟩ ⟨⟨_,q,bcBox (all2_free q)⟩,⟨_,q,bcBox (all2_free q)⟩,⟨_,q,bcBox (all2_free q)⟩,⟨_,q,bcBox (.cons (.free q q)<|.cons (cOwnE q (by simp only [setl,List.length_set]))<|.nil)⟩,⟨_,q,bcRow (l:=(setl x1 x2 (bitOp .or .u64 (rdl a1.Rows x2) (rdl a2.Rows x2)))) sl47 (Nat.le_refl _) q⟩,trivial⟩ ?_
    exact hn1 _ h
   ·rw [if_neg c4] at h
    refine .condF q (df c4)<|.exit q<|.keepL [2,3,4] [(6,.ptr 0 1 2 0 0),(9,.ptr 1 1 2 0 0)] [⟨2,[[u6 0,nul]],0,none⟩,⟨2,[[u6 (bitOp .or .u64 a1.Gen a2.Gen),.own 2 x1.length]],0,none⟩,⟨1,x1.map (cInt .u64),0,none⟩] (by decide) (by decide) ⟨.ptr q,.ptr q,trivial⟩ ⟨⟨_,q,bcBox (all2_free q)⟩,⟨_,q,bcBox (.cons (.free q q)<|.cons (.own q)<|.nil)⟩,⟨_,q,bcRow (l:=x1) sl47 (Nat.le_refl _) q⟩,trivial⟩ ?_
    exact hx1 _ h
 ·rw [if_neg c1] at h
  refine .condT q (nt c1)<|.seq<|.reg0 q (.o (bldS (cs:=[u6 0,nul]) ze49 pl49 q q)<|.o (mvV q)<|.o (stB (cs0:=[u6 0,nul]) (cs:=[u6 0,nul]) (cs1:=[u6 0,nul]) q q sz49 q ⟨Nat.le_of_ble_eq_true q,q⟩ q)<|.o (asV q)<|.nil0) ?_
  replace h:=h.symm
  subst h
  refine .k [(6,.cptr [u6 0,.rows (([]:List Int).map (cInt .u64))] 0),(7,i6 t2_4)] ⟨cFixP q q (.cons (.free q q)<|.cons (.nil)<|.nil),.free q q,trivial⟩ ?_
  exact .ret q
def cells_Both.b1 (a0:Int) (a1:List TCell) (a2:List TCell):((List TCell) × Int)→Rnd (((List TCell) × Int)) ((List TCell)) ((List TCell) × Int)→Prop:=fun (x2,x3) z1=>if x3 < a0 then (((InR x3 a1.length))∧((InR x3 a2.length))∧∃ t16_9:TCell,(cells_both.f (rdl a1 x3) (rdl a2 x3) t16_9)∧((Fits (x2.length + 1) 24))∧z1=.next ((x2 ++ [t16_9]),(IntKind.i64.wrap (x3 + 1)))) else (z1=.exit x2)
def cells_Both.f (a0:Int) (a1:List TCell) (a2:List TCell) (r:(List TCell) × Int):Prop :=
 ∃ t2_3:Int,(cells_two.f a0 a1 a2 t2_3)∧if t2_3=0 then (∃ o1:Fin ((List TCell)) ((List TCell) × Int),Loop (cells_Both.b1 a0 a1 a2) ([],0) o1∧o1.on (fun x4=>r=(x4,0)) (fun r_=>r=r_)) else (r=([],t2_3))
theorem cells_Both.D {a0 a1 a2 r} (h:cells_Both.f a0 a1 a2 r):D Tryz.prog X (.callH 113 [.val (.int .i64 a0),.rows (a1.map TCell.cells),.rows (a2.map TCell.cells)] [] (.tuple [.rows (r.1.map TCell.cells),.val (.int .i64 r.2)]) []):=by
 unfold cells_Both.f at h
 refine .enter 36 0 fn113 q q q<|.seq<|.reg0 q (.o (asV q)<|.o (asV q)<|.nil0)<|.seq<|.seq ?_
 obtain ⟨t2_3,g2_3,h⟩:=h
 refine .reg0 q (.m q<|.o (mvR q)<|.o (mvR q)<|.c q go155 q q q (cells_two.D g2_3)<|.a q<|.nil0)<|.seq<|.reg0 q (.o (mvV q)<|.o (neI q q)<|.nil0) ?_
 by_cases c1:t2_3=0
 ·rw [if_pos c1] at h
  refine .condF q (nf c1)<|.skip<|.seq<|.reg0 q (.o (asV q)<|.nil0)<|.seq<|.seq<|.reg0 q (.o (mvV q)<|.o (mvV q)<|.nil0)<|.block<|.room 3<|.keepL [0] [(1,.rows (a1.map TCell.cells)),(2,.rows (a2.map TCell.cells)),(9,.own 0 0),(18,i6 a0),(19,i6 0)] [⟨3,[].map TCell.cells,0,none⟩] (by decide) (by decide) ⟨.free q q,.free q q,.nilOwn,.free q q,.free q q,trivial⟩ ⟨⟨_,q,(bcRow (l:=[]) sl50 (Nat.le_refl _) q)⟩,trivial⟩ ?_
  obtain ⟨o1,hL1,h⟩:=h
  refine .loopB (cells_Both.b1 a0 a1 a2) (fun (x2,x3)=>listEnv [(1,.rows (a1.map TCell.cells)),(2,.rows (a2.map TCell.cells)),(9,.own 0 x2.length),(18,i6 a0),(19,i6 x3)]) (fun (x2,x3)=>[⟨3,x2.map TCell.cells,0,none⟩]) (fun x4=>listEnv [(9,.own 0 x4.length)]) (fun x4=>[⟨3,x4.map TCell.cells,0,none⟩]) hL1 (fun r_=>r=r_) ?_ ?_ ?_
  ·rintro x4 rfl
   try dsimp only [Fin.on] at h
   refine .seq<|.reg0 q (.o (mvO q)<|.o (asO q)<|.o (asV q)<|.nil0) ?_
   replace h:=h.symm
   subst h
   refine .k [(6,.rows (x4.map TCell.cells)),(7,i6 0)] ⟨cFixO (l:=x4) sl50 q q q q,.free q q,trivial⟩ ?_
   exact .ret q
  ·rintro r_ rfl
   exact h
  ·rintro ⟨x2,x3⟩ z1 h hn1 hx1 hr1
   dsimp only [cells_Both.b1] at h
   refine .seq<|.reg0 q (.o (ltI q q)<|.nil0)<|.seq ?_
   by_cases c4:x3 < a0
   ·rw [if_pos c4] at h
    refine .condT q (dt c4)<|.skip<|.seq<|.block<|.seq<|.reg0 q (.o (mvV q)<|.o (asV q)<|.nil0) ?_
    obtain ⟨g16_3,h⟩:=h
    obtain ⟨g16_7,h⟩:=h
    obtain ⟨t16_9,g16_9,h⟩:=h
    obtain ⟨g16_11,h⟩:=h
    refine .room 0<|.room 0 ?_
    refine .reg1 (e1:=listEnv [(1,.rows (a1.map TCell.cells)),(2,.rows (a2.map TCell.cells)),(9,.own 0 ((x2 ++ [t16_9]).length)),(18,i6 a0),(19,i6 x3)]) (H1:=[⟨3,(x2 ++ [t16_9]).map TCell.cells,0,none⟩,⟨3,[t16_9].map TCell.cells,0,none⟩,Blk.hole]) q ?_ ?_
    ·exact .drawM [(12,9,.own 0 ((x2 ++ [t16_9]).length)),(11,33,.own 0 ((x2 ++ [t16_9]).length)),(10,32,.own 1 ([t16_9].length)),(9,31,.agg (TCell.lit t16_9)),(8,30,.agg (TCell.lit (rdl a2 x3))),(7,29,.cptr (TCell.lit (rdl a2 x3)) 0),(6,28,i6 x3),(5,27,.rows (a2.map TCell.cells)),(4,26,.agg (TCell.lit (rdl a1 x3))),(3,25,.cptr (TCell.lit (rdl a1 x3)) 0),(2,24,i6 x3),(1,23,.rows (a1.map TCell.cells)),(0,22,.own 0 x2.length)] [(11,0,⟨3,(x2 ++ [t16_9]).map TCell.cells,0,none⟩),(10,1,⟨3,[t16_9].map TCell.cells,0,none⟩)] [[],[],[],[1,2],[3,1,2],[],[],[5,6],[7,5,6],[4,3,1,2,8,7,5,6],[9,4,3,1,2,8,7,5,6],[0,10,9,4,3,1,2,8,7,5,6],[11,0,10,9,4,3,1,2,8,7,5,6]] (by rfl) (by rfl) (by rfl) (by exact ⟨oP (fun _=>mvO q) q,oP (fun _=>mvR q) q,oP (fun _=>mvV q) q,oP (fun _=>ixR (l:=a1) (lit:=TCell.lit) sl50 q q (fun _=>q) g16_3.1 g16_3.2) q,oP (fun _=>ldCG q sz97 ag97 q) q,oP (fun _=>mvR q) q,oP (fun _=>mvV q) q,oP (fun _=>ixR (l:=a2) (lit:=TCell.lit) sl50 q q (fun _=>q) g16_7.1 g16_7.2) q,oP (fun _=>ldCG q sz97 ag97 q) q,fun S hS hD hn=>.oneI hS hD hn q q (callee_of q go156 q) (.pure q q (cells_both.D g16_9)) q q q,oW 1 (fun _=>bldL (s:=3) (cs:=[u6 t16_9.From,i6 t16_9.Kind,i6 t16_9.K]) un50 sz97 ze97 ⟨by decide,q,by decide⟩ q q q q) q fun _=>q,oW 0 (fun _=>ap1 (l:=x2) t16_9 sl50 q q q (Nat.zero_le _) (elems_own (l:=[t16_9]) q q) g16_11) q fun _=>q,oP (fun _=>asO q) q,trivial⟩) _ (by exact ⟨.free q q,.free q q,.own q,.free q q,.free q q,trivial⟩) (by rfl)
    refine .inBlock<|.reg0 q (.o (addI q q)<|.o (mvV q)<|.nil0)<|.keepL [0] [(1,.rows (a1.map TCell.cells)),(2,.rows (a2.map TCell.cells)),(9,.own 0 ((x2 ++ [t16_9]).length)),(18,i6 a0),(19,i6 (IntKind.i64.wrap (x3 + 1)))] [⟨3,(x2 ++ [t16_9]).map TCell.cells,0,none⟩] (by decide) (by decide) ⟨.free q q,.free q q,.own q,.free q q,.free q q,trivial⟩ ⟨⟨_,q,bcRow (l:=(x2 ++ [t16_9])) sl50 (Nat.le_refl _) q⟩,trivial⟩ ?_
    exact hn1 _ h
   ·rw [if_neg c4] at h
    refine .condF q (df c4)<|.exit q<|.keepL [0] [(9,.own 0 x2.length)] [⟨3,x2.map TCell.cells,0,none⟩] (by decide) (by decide) ⟨.own q,trivial⟩ ⟨⟨_,q,bcRow (l:=x2) sl50 (Nat.le_refl _) q⟩,trivial⟩ ?_
    exact hx1 _ h
 ·rw [if_neg c1] at h
  refine .condT q (nt c1)<|.seq<|.reg0 q (.o (mvV q)<|.o (asV q)<|.o (asV q)<|.nil0) ?_
  replace h:=h.symm
  subst h
  refine .k [(6,.rows (([]:List TCell).map TCell.cells)),(7,i6 t2_3)] ⟨.nil,.free q q,trivial⟩ ?_
  exact .ret q
def weight_either.step (self70:TSpace→TWeight→TWeight→TWeight→Prop) (a0:TSpace) (a1:TWeight) (a2:TWeight) (r:TWeight):Prop :=
 if a1.Zero=true then (r=a2) else (if a2.Zero=true then (r=a1) else (if a0.Tag=2 then (∃ t9_7:Int × Int,(cost_Least.f a0.Dim [a1.Cost,a2.Cost] t9_7)∧r=(TWeight.mk false t9_7.1 (TFacts.mk 0 []) [] [])) else (if a0.Tag=3 then (∃ t12_6:TFacts × Int,(facts_Combine.f a0.Dim a1.Facts a2.Facts t12_6)∧r=(TWeight.mk false 0 t12_6.1 [] [])) else (if a0.Tag=4 then (∃ t15_6:(List TCell) × Int,(cells_Both.f a0.Dim a1.Cells a2.Cells t15_6)∧r=(TWeight.mk false 0 (TFacts.mk 0 []) t15_6.1 [])) else (if a0.Tag=5 then (((InR 0 a0.Parts.length))∧((InR 0 a1.Parts.length))∧((InR 0 a2.Parts.length))∧∃ t18_12:TWeight,(self70 (rdl a0.Parts 0) (rdl a1.Parts 0) (rdl a2.Parts 0) t18_12)∧((InR 1 a0.Parts.length))∧((InR 1 a1.Parts.length))∧((InR 1 a2.Parts.length))∧∃ t18_25:TWeight,(self70 (rdl a0.Parts 1) (rdl a1.Parts 1) (rdl a2.Parts 1) t18_25)∧r=(TWeight.mk false 0 (TFacts.mk 0 []) [] [t18_12,t18_25])) else (r=(TWeight.mk false 0 (TFacts.mk 0 []) [] [])))))))
theorem weight_either.stepD {self70:TSpace→TWeight→TWeight→TWeight→Prop} {a0:TSpace} {a1:TWeight} {a2:TWeight} (hs70:∀ z0_ z1_ z2_ r_,self70 z0_ z1_ z2_ r_→D Tryz.prog X (.callH 70 [.agg (TSpace.lit z0_),.agg (TWeight.lit z1_),.agg (TWeight.lit z2_)] [] (.agg (TWeight.lit r_)) [])) {r:TWeight} (h:weight_either.step self70 a0 a1 a2 r):D Tryz.prog X (.callH 70 [.agg (TSpace.lit a0),.agg (TWeight.lit a1),.agg (TWeight.lit a2)] [] (.agg (TWeight.lit r)) []):=by
 unfold weight_either.step at h
 refine .enter 87 0 fn70 q q q<|.seq<|.room 0<|.room 0<|.room 0<|.room 0<|.reg0 q (.o (bxP (s:=3) (cs:=(TSpace.lit a0)) q ⟨q,by decide,q⟩ q)<|.op 1 q (bxP (s:=6) (cs:=(TWeight.lit a1)) q ⟨q,by decide,q⟩ q)<|.op 2 q (bxP (s:=6) (cs:=(TWeight.lit a2)) q ⟨q,by decide,q⟩ q)<|.op 3 q (alP (s:=6) ze53 ⟨q,by decide,q⟩ q)<|.nil0) ?_
 refine .seq<|.seq<|.reg0 q (.o (faP fa53_0 q)<|.o (ldP q sz4 ag4 q)<|.nil0) ?_
 by_cases c1:a1.Zero=true
 ·rw [if_pos c1] at h
  refine .condT q c1<|.seq<|.reg0 q (.o (ldG q sz53 ag53 q)<|.o (stB (cs0:=GG_c0) (cs:=(TWeight.lit a2)) (cs1:=(TWeight.lit a2)) q q sz53 q ⟨Nat.le_of_ble_eq_true q,q⟩ q)<|.nil0) ?_
  replace h:=h.symm
  subst h
  refine .k [(6,.cptr (TWeight.lit a2) 0)] ⟨cFixP q q (.cons (.free q q)<|.cons (.free q q)<|.cons (.free q q)<|.cons (.free q q)<|.cons (.free q q)<|.cons (.free q q)<|.nil),trivial⟩ ?_
  exact .ret q
 ·rw [if_neg c1] at h
  refine .condF q (nb c1)<|.skip<|.seq<|.seq<|.reg0 q (.o (faP fa53_0 q)<|.o (ldP q sz4 ag4 q)<|.nil0) ?_
  by_cases c2:a2.Zero=true
  ·rw [if_pos c2] at h
   refine .condT q c2<|.seq<|.reg0 q (.o (ldG q sz53 ag53 q)<|.o (stB (cs0:=GG_c0) (cs:=(TWeight.lit a1)) (cs1:=(TWeight.lit a1)) q q sz53 q ⟨Nat.le_of_ble_eq_true q,q⟩ q)<|.nil0) ?_
   replace h:=h.symm
   subst h
   refine .k [(6,.cptr (TWeight.lit a1) 0)] ⟨cFixP q q (.cons (.free q q)<|.cons (.free q q)<|.cons (.free q q)<|.cons (.free q q)<|.cons (.free q q)<|.cons (.free q q)<|.nil),trivial⟩ ?_
   exact .ret q
  ·rw [if_neg c2] at h
   refine .condF q (nb c2)<|.skip<|.seq<|.room 0<|.reg0 q (.op 4 q (alP (s:=6) ze53 ⟨q,by decide,q⟩ q)<|.nil0)<|.seq<|.seq<|.reg0 q (.o (faP fa25_0 q)<|.o (ldP q sz22 ag22 q)<|.nil0)<|.block<|.seq<|.reg0 q (.o (eqI q q)<|.o (asV q)<|.nil0) ?_
   by_cases c3:a0.Tag=2
   ·rw [if_pos c3] at h
    refine .condT q (bt c3) ?_
    obtain ⟨t9_7,g9_7,h⟩:=h
    refine .room 0<|.reg0 q (.o (faP fa25_1 q)<|.o (ldP q sz3 ag3 q)<|.o (faP fa53_1 q)<|.o (ldP q sz3 ag3 q)<|.o (faP fa53_1 q)<|.o (ldP q sz3 ag3 q)<|.op 5 q (bldL (s:=1) (cs:=[i6 a1.Cost,i6 a2.Cost]) un29 sz3 ze3 ⟨by decide,q,by decide⟩ q q q q)<|.callI q (callee_of q go111 q) (.lendC (args':=[i6 a0.Dim,.rows ([a1.Cost,a2.Cost].map (cInt .i64))])  [5] false (.cons (.free q q)<|.cons (cFixO (l:=[a1.Cost,a2.Cost]) sl29 q q q q)<|.nil) (by decide) q q q q (cost_Least.D g9_7))<|.o (mvT q)<|.o (exT q q)<|.o (exT q q)<|.o (faP fa53_1 q)<|.o (stB (cs0:=GG_c0) (cs:=[i6 t9_7.1]) (cs1:=[bo false,i6 t9_7.1,u6 0,nul,nul,nul]) q q sz3 q ⟨Nat.le_of_ble_eq_true q,q⟩ q)<|.nil0) ?_
    refine .inBlock<|.seq<|.reg0 q (.o (ldG q sz53 ag53 q)<|.o (stB (cs0:=GG_c0) (cs:=[bo false,i6 t9_7.1,u6 0,nul,nul,nul]) (cs1:=[bo false,i6 t9_7.1,u6 0,nul,nul,nul]) q q sz53 q ⟨Nat.le_of_ble_eq_true q,q⟩ q)<|.nil0) ?_
    replace h:=h.symm
    subst h
    refine .k [(6,.cptr [bo false,i6 t9_7.1,u6 0,.rows (([]:List Int).map (cInt .u64)),.rows (([]:List TCell).map TCell.cells),.rows (([]:List TWeight).map TWeight.cells)] 0)] ⟨cFixP q q (.cons (.free q q)<|.cons (.free q q)<|.cons (.free q q)<|.cons (.nil)<|.cons (.nil)<|.cons (.nil)<|.nil),trivial⟩ ?_
    exact .ret q
   ·rw [if_neg c3] at h
    refine .condF q (bn c3)<|.seq<|.reg0 q (.o (eqI q q)<|.o (asV q)<|.nil0) ?_
    by_cases c4:a0.Tag=3
    ·rw [if_pos c4] at h
     refine .condT q (bt c4) ?_
     obtain ⟨t12_6,g12_6,h⟩:=h
     refine .reg0 q (.o (faP fa25_1 q)<|.o (ldP q sz3 ag3 q)<|.o (faP fa53_2 q)<|.o (ldG q sz49 ag49 q)<|.o (faP fa53_2 q)<|.o (ldG q sz49 ag49 q)<|.c q go112 q q q (facts_Combine.D g12_6)<|.o (mvT q)<|.o (exT q q)<|.o (exT q q)<|.o (faP fa53_2 q)<|.o (stB (cs0:=GG_c0) (cs:=(TFacts.lit t12_6.1)) (cs1:=[bo false,i6 0,u6 t12_6.1.Gen,.rows (t12_6.1.Rows.map (cInt .u64)),nul,nul]) q q sz49 q ⟨Nat.le_of_ble_eq_true q,q⟩ q)<|.nil0) ?_
     refine .inBlock<|.seq<|.reg0 q (.o (ldG q sz53 ag53 q)<|.o (stB (cs0:=GG_c0) (cs:=[bo false,i6 0,u6 t12_6.1.Gen,.rows (t12_6.1.Rows.map (cInt .u64)),nul,nul]) (cs1:=[bo false,i6 0,u6 t12_6.1.Gen,.rows (t12_6.1.Rows.map (cInt .u64)),nul,nul]) q q sz53 q ⟨Nat.le_of_ble_eq_true q,q⟩ q)<|.nil0) ?_
     replace h:=h.symm
     subst h
     refine .k [(6,.cptr [bo false,i6 0,u6 t12_6.1.Gen,.rows (t12_6.1.Rows.map (cInt .u64)),.rows (([]:List TCell).map TCell.cells),.rows (([]:List TWeight).map TWeight.cells)] 0)] ⟨cFixP q q (.cons (.free q q)<|.cons (.free q q)<|.cons (.free q q)<|.cons (.free q q)<|.cons (.nil)<|.cons (.nil)<|.nil),trivial⟩ ?_
     exact .ret q
    ·rw [if_neg c4] at h
     refine .condF q (bn c4)<|.seq<|.reg0 q (.o (eqI q q)<|.o (asV q)<|.nil0) ?_
     by_cases c5:a0.Tag=4
     ·rw [if_pos c5] at h
      refine .condT q (bt c5) ?_
      obtain ⟨t15_6,g15_6,h⟩:=h
      refine .reg0 q (.o (faP fa25_1 q)<|.o (ldP q sz3 ag3 q)<|.o (faP fa53_3 q)<|.o (ldP q sz50 ag50 q)<|.o (faP fa53_3 q)<|.o (ldP q sz50 ag50 q)<|.c q go113 q q q (cells_Both.D g15_6)<|.o (mvT q)<|.o (exT q q)<|.o (exT q q)<|.o (faP fa53_3 q)<|.o (stB (cs0:=GG_c0) (cs:=[.rows (t15_6.1.map TCell.cells)]) (cs1:=[bo false,i6 0,u6 0,nul,.rows (t15_6.1.map TCell.cells),nul]) q q sz50 q ⟨Nat.le_of_ble_eq_true q,q⟩ q)<|.nil0) ?_
      refine .inBlock<|.seq<|.reg0 q (.o (ldG q sz53 ag53 q)<|.o (stB (cs0:=GG_c0) (cs:=[bo false,i6 0,u6 0,nul,.rows (t15_6.1.map TCell.cells),nul]) (cs1:=[bo false,i6 0,u6 0,nul,.rows (t15_6.1.map TCell.cells),nul]) q q sz53 q ⟨Nat.le_of_ble_eq_true q,q⟩ q)<|.nil0) ?_
      replace h:=h.symm
      subst h
      refine .k [(6,.cptr [bo false,i6 0,u6 0,.rows (([]:List Int).map (cInt .u64)),.rows (t15_6.1.map TCell.cells),.rows (([]:List TWeight).map TWeight.cells)] 0)] ⟨cFixP q q (.cons (.free q q)<|.cons (.free q q)<|.cons (.free q q)<|.cons (.nil)<|.cons (.free q q)<|.cons (.nil)<|.nil),trivial⟩ ?_
      exact .ret q
     ·rw [if_neg c5] at h
      refine .condF q (bn c5)<|.seq<|.reg0 q (.o (eqI q q)<|.o (asV q)<|.nil0) ?_
      by_cases c6:a0.Tag=5
      ·rw [if_pos c6] at h
       refine .condT q (bt c6) ?_
       obtain ⟨g18_2,h⟩:=h
       obtain ⟨g18_6,h⟩:=h
       obtain ⟨g18_10,h⟩:=h
       obtain ⟨t18_12,g18_12,h⟩:=h
       obtain ⟨g18_15,h⟩:=h
       obtain ⟨g18_19,h⟩:=h
       obtain ⟨g18_23,h⟩:=h
       obtain ⟨t18_25,g18_25,h⟩:=h
       refine .room 0 ?_
       refine .reg1 (e1:=listEnv [(6,.ptr 3 1 6 0 0),(7,.ptr 4 1 6 0 0)]) (H1:=[⟨3,[(TSpace.lit a0)],0,none⟩,⟨6,[(TWeight.lit a1)],0,none⟩,⟨6,[(TWeight.lit a2)],0,none⟩,⟨6,[GG_c0],0,none⟩,⟨6,[[bo false,i6 0,u6 0,nul,nul,.own 5 ([t18_12,t18_25].length)]],0,none⟩,⟨6,[t18_12,t18_25].map TWeight.cells,0,none⟩]) q ?_ ?_
       ·exact .drawM [(27,85,.ptr 4 1 6 0 5),(26,84,.own 5 ([t18_12,t18_25].length)),(25,83,.agg (TWeight.lit t18_25)),(24,82,.agg (TWeight.lit (rdl a2.Parts 1))),(23,81,.cptr (TWeight.lit (rdl a2.Parts 1)) 0),(22,80,.rows (a2.Parts.map TWeight.cells)),(21,79,.ptr 2 1 6 0 5),(20,78,.agg (TWeight.lit (rdl a1.Parts 1))),(19,77,.cptr (TWeight.lit (rdl a1.Parts 1)) 0),(18,76,.rows (a1.Parts.map TWeight.cells)),(17,75,.ptr 1 1 6 0 5),(16,74,.agg (TSpace.lit (rdl a0.Parts 1))),(15,73,.cptr (TSpace.lit (rdl a0.Parts 1)) 0),(14,72,.rows (a0.Parts.map TSpace.cells)),(13,71,.ptr 0 1 3 0 2),(12,70,.agg (TWeight.lit t18_12)),(11,69,.agg (TWeight.lit (rdl a2.Parts 0))),(10,68,.cptr (TWeight.lit (rdl a2.Parts 0)) 0),(9,67,.rows (a2.Parts.map TWeight.cells)),(8,66,.ptr 2 1 6 0 5),(7,65,.agg (TWeight.lit (rdl a1.Parts 0))),(6,64,.cptr (TWeight.lit (rdl a1.Parts 0)) 0),(5,63,.rows (a1.Parts.map TWeight.cells)),(4,62,.ptr 1 1 6 0 5),(3,61,.agg (TSpace.lit (rdl a0.Parts 0))),(2,60,.cptr (TSpace.lit (rdl a0.Parts 0)) 0),(1,59,.rows (a0.Parts.map TSpace.cells)),(0,58,.ptr 0 1 3 0 2)] [(28,4,⟨6,[[bo false,i6 0,u6 0,nul,nul,.own 5 ([t18_12,t18_25].length)]],0,none⟩),(26,5,⟨6,[t18_12,t18_25].map TWeight.cells,0,none⟩)] [[],[0],[1,0],[2,1,0],[],[4],[5,4],[6,5,4],[],[8],[9,8],[10,9,8],[3,2,1,0,7,6,5,4,11,10,9,8],[],[13],[14,13],[15,14,13],[],[17],[18,17],[19,18,17],[],[21],[22,21],[23,22,21],[16,15,14,13,20,19,18,17,24,23,22,21,12,3,2,1,0,7,6,5,4,11,10,9,8],[12,3,2,1,0,7,6,5,4,11,10,9,8,25,16,15,14,13,20,19,18,17,24,23,22,21],[0,1,2,3,4,5,6,7,8,9,10,11,12,13,14,15,16,17,18,19,20,21,22,23,24,25,26],[27,0,1,2,3,4,5,6,7,8,9,10,11,12,13,14,15,16,17,18,19,20,21,22,23,24,25,26]] (by rfl) (by rfl) (by rfl) (by exact ⟨oP (fun _=>faP fa25_2 q) q,oP (fun _=>ldP q sz23 ag23 q) q,oP (fun _=>ixR (l:=a0.Parts) (lit:=TSpace.lit) sl23 q q TSpace.cells_lit g18_2.1 g18_2.2) q,oP (fun _=>ldCG q sz25 ag25 q) q,oP (fun _=>faP fa53_4 q) q,oP (fun _=>ldP q sz51 ag51 q) q,oP (fun _=>ixR (l:=a1.Parts) (lit:=TWeight.lit) sl51 q q TWeight.cells_lit g18_6.1 g18_6.2) q,oP (fun _=>ldCG q sz53 ag53 q) q,oP (fun _=>faP fa53_4 q) q,oP (fun _=>ldP q sz51 ag51 q) q,oP (fun _=>ixR (l:=a2.Parts) (lit:=TWeight.lit) sl51 q q TWeight.cells_lit g18_10.1 g18_10.2) q,oP (fun _=>ldCG q sz53 ag53 q) q,fun S hS hD hn=>.oneI hS hD hn q q (callee_of q go70 q) (.pure q q (hs70 _ _ _ _ g18_12)) q q q,oP (fun _=>faP fa25_2 q) q,oP (fun _=>ldP q sz23 ag23 q) q,oP (fun _=>ixR (l:=a0.Parts) (lit:=TSpace.lit) sl23 q q TSpace.cells_lit g18_15.1 g18_15.2) q,oP (fun _=>ldCG q sz25 ag25 q) q,oP (fun _=>faP fa53_4 q) q,oP (fun _=>ldP q sz51 ag51 q) q,oP (fun _=>ixR (l:=a1.Parts) (lit:=TWeight.lit) sl51 q q TWeight.cells_lit g18_19.1 g18_19.2) q,oP (fun _=>ldCG q sz53 ag53 q) q,oP (fun _=>faP fa53_4 q) q,oP (fun _=>ldP q sz51 ag51 q) q,oP (fun _=>ixR (l:=a2.Parts) (lit:=TWeight.lit) sl51 q q TWeight.cells_lit g18_23.1 g18_23.2) q,oP (fun _=>ldCG q sz53 ag53 q) q,fun S hS hD hn=>.oneI hS hD hn q q (callee_of q go70 q) (.pure q q (hs70 _ _ _ _ g18_25)) q q q,oW 5 (fun _=>bldT (s:=6) (cs:=[bo t18_12.Zero,i6 t18_12.Cost,u6 t18_12.Facts.Gen,.rows (t18_12.Facts.Rows.map (cInt .u64)),.rows (t18_12.Cells.map TCell.cells),.rows (t18_12.Parts.map TWeight.cells),bo t18_25.Zero,i6 t18_25.Cost,u6 t18_25.Facts.Gen,.rows (t18_25.Facts.Rows.map (cInt .u64)),.rows (t18_25.Cells.map TCell.cells),.rows (t18_25.Parts.map TWeight.cells)]) (cf:=TWeight.cells) [t18_12,t18_25] un51 sz53 ze53 ⟨by decide,q,by decide⟩ q q q (by simp only [List.map,TWeight.cells_lit]; rfl) q) q fun _=>q,oP (fun _=>faP fa53_4 q) q,fun S hS hD hn=>.one0 0 q q (stB (cs0:=GG_c0) (cs:=[.own 5 ([t18_12,t18_25].length)]) (cs1:=[bo false,i6 0,u6 0,nul,nul,.own 5 ([t18_12,t18_25].length)]) q q sz51 q ⟨Nat.le_of_ble_eq_true q,q⟩ q) (drawE_other _ _ _ _ q) q,trivial⟩) _ (by exact ⟨.ptr q,.ptr q,trivial⟩) (by rfl)
       refine .inBlock<|.seq<|.reg0 q (.o (ldG q sz53 ag53 q)<|.o (stB (cs0:=GG_c0) (cs:=[bo false,i6 0,u6 0,nul,nul,.own 5 ([t18_12,t18_25].length)]) (cs1:=[bo false,i6 0,u6 0,nul,nul,.own 5 ([t18_12,t18_25].length)]) q q sz53 q ⟨Nat.le_of_ble_eq_true q,q⟩ q)<|.nil0) ?_
       replace h:=h.symm
       subst h
       refine .k [(6,.cptr [bo false,i6 0,u6 0,.rows (([]:List Int).map (cInt .u64)),.rows (([]:List TCell).map TCell.cells),.rows ([t18_12,t18_25].map TWeight.cells)] 0)] ⟨cFixP q q (.cons (.free q q)<|.cons (.free q q)<|.cons (.free q q)<|.cons (.nil)<|.cons (.nil)<|.cons (cFixO (l:=[t18_12,t18_25]) sl51 q q q q)<|.nil),trivial⟩ ?_
       exact .ret q
      ·rw [if_neg c6] at h
       refine .condF q (bn c6)<|.skip<|.inBlock<|.seq<|.reg0 q (.o (ldG q sz53 ag53 q)<|.o (stB (cs0:=GG_c0) (cs:=GG_c0) (cs1:=GG_c0) q q sz53 q ⟨Nat.le_of_ble_eq_true q,q⟩ q)<|.nil0) ?_
       replace h:=h.symm
       subst h
       refine .k [(6,.cptr GG_c2 0)] ⟨cFixP q q (.cons (.free q q)<|.cons (.free q q)<|.cons (.free q q)<|.cons (.nil)<|.cons (.nil)<|.cons (.nil)<|.nil),trivial⟩ ?_
       exact .ret q
def weight_either.fN:Nat→TSpace→TWeight→TWeight→TWeight→Prop
 | 0=>fun _ _ _ _=>False
 | n + 1=>weight_either.step (weight_either.fN n)
theorem weight_either.ND:∀ (n:Nat) {a0:TSpace} {a1:TWeight} {a2:TWeight} {r:TWeight} (h:weight_either.fN n a0 a1 a2 r),D Tryz.prog X (.callH 70 [.agg (TSpace.lit a0),.agg (TWeight.lit a1),.agg (TWeight.lit a2)] [] (.agg (TWeight.lit r)) [])
 | 0,_,_,_,_,h=>h.elim
 | n + 1,_,_,_,_,h=>weight_either.stepD (fun _ _ _ _ h=>weight_either.ND n h) h
def weight_either.f (a0:TSpace) (a1:TWeight) (a2:TWeight) (r:TWeight):Prop:=∃ n,weight_either.fN n a0 a1 a2 r
theorem weight_either.D {a0 a1 a2 r} (h:weight_either.f a0 a1 a2 r):D Tryz.prog X (.callH 70 [.agg (TSpace.lit a0),.agg (TWeight.lit a1),.agg (TWeight.lit a2)] [] (.agg (TWeight.lit r)) []):=by obtain ⟨n,h⟩:=h; exact weight_either.ND n h
def weight_Combine.b1 (a0:TSpace) (a1:List TWeight):(Bool × Int × Int × (List Int) × (List TCell) × (List TWeight) × Int)→Rnd ((Bool × Int × Int × (List Int) × (List TCell) × (List TWeight) × Int)) ((Bool × Int × Int × (List Int) × (List TCell) × (List TWeight))) (TWeight × Int)→Prop:=fun (x1,x2,x3,x4,x5,x6,x7) z1=>if x7 < (a1.length:Int) then (((InR x7 a1.length))∧∃ t16_3:TWeight,(weight_either.f a0 (TWeight.mk x1 x2 (TFacts.mk x3 x4) x5 x6) (rdl a1 x7) t16_3)∧z1=.next (t16_3.Zero,t16_3.Cost,t16_3.Facts.Gen,t16_3.Facts.Rows,t16_3.Cells,t16_3.Parts,(IntKind.i64.wrap (x7 + 1)))) else (z1=.exit (x1,x2,x3,x4,x5,x6))
def weight_Combine.f (a0:TSpace) (a1:List TWeight) (r:TWeight × Int):Prop :=
 ∃ t2_2:Int,(weight_checked.f a0 a1 t2_2)∧if t2_2=0 then (∃ t4_1:TWeight,(weight_zero.f a0 t4_1)∧∃ o1:Fin ((Bool × Int × Int × (List Int) × (List TCell) × (List TWeight))) (TWeight × Int),Loop (weight_Combine.b1 a0 a1) (t4_1.Zero,t4_1.Cost,t4_1.Facts.Gen,t4_1.Facts.Rows,t4_1.Cells,t4_1.Parts,0) o1∧o1.on (fun (x8,x9,x10,x11,x12,x13)=>∃ t18_1:TWeight,(weight_copied.f (TWeight.mk x8 x9 (TFacts.mk x10 x11) x12 x13) t18_1)∧r=(t18_1,0)) (fun r_=>r=r_)) else (r=((TWeight.mk false 0 (TFacts.mk 0 []) [] []),t2_2))
theorem weight_Combine.D {a0 a1 r} (h:weight_Combine.f a0 a1 r):D Tryz.prog X (.callH 38 [.agg (TSpace.lit a0),.rows (a1.map TWeight.cells)] [] (.tuple [.agg (TWeight.lit r.1),.val (.int .i64 r.2)]) []):=by
 unfold weight_Combine.f at h
 refine .enter 32 0 fn38 q q q<|.seq<|.room 0<|.room 0<|.reg0 q (.o (bxP (s:=3) (cs:=(TSpace.lit a0)) q ⟨q,by decide,q⟩ q)<|.op 1 q (alP (s:=6) ze53 ⟨q,by decide,q⟩ q)<|.o (asV q)<|.nil0)<|.seq<|.seq ?_
 obtain ⟨t2_2,g2_2,h⟩:=h
 refine .reg0 q (.o (ldG q sz25 ag25 q)<|.o (mvR q)<|.c q go69 q q q (weight_checked.D g2_2)<|.a q<|.nil0)<|.seq<|.reg0 q (.o (mvV q)<|.o (neI q q)<|.nil0) ?_
 by_cases c1:t2_2=0
 ·rw [if_pos c1] at h
  refine .condF q (nf c1)<|.skip<|.seq ?_
  obtain ⟨t4_1,g4_1,h⟩:=h
  refine .room 0<|.reg0 q (.o (ldG q sz25 ag25 q)<|.callI q (callee_of q go66 q) (.pure q q (weight_zero.D g4_1))<|.op 2 q (alP (s:=6) ze53 ⟨q,by decide,q⟩ q)<|.o (stB (cs0:=GG_c0) (cs:=(TWeight.lit t4_1)) (cs1:=(TWeight.lit t4_1)) q q sz53 q ⟨Nat.le_of_ble_eq_true q,q⟩ q)<|.nil0)<|.seq<|.seq<|.reg0 q (.o (mvR q)<|.o (lnR (l:=a1) sl51 q)<|.o (mvV q)<|.nil0) ?_
  refine .block<|.keepL [0,1,2] [(2,.ptr 0 1 3 0 0),(4,.ptr 1 1 6 0 0),(7,.ptr 2 1 6 0 0),(19,.rows (a1.map TWeight.cells)),(20,i6 (a1.length:Int)),(21,i6 0)] [⟨3,[(TSpace.lit a0)],0,none⟩,⟨6,[GG_c0],0,none⟩,⟨6,[(TWeight.lit t4_1)],0,none⟩] (by decide) (by decide) ⟨.ptr q,.ptr q,.ptr q,.free q q,.free q q,.free q q,trivial⟩ ⟨⟨_,q,bcBox (all2_free q)⟩,⟨_,q,bcBox (all2_free q)⟩,⟨_,q,bcBox (all2_free q)⟩,trivial⟩ ?_
  obtain ⟨o1,hL1,h⟩:=h
  refine .loopB (weight_Combine.b1 a0 a1) (fun (x1,x2,x3,x4,x5,x6,x7)=>listEnv [(2,.ptr 0 1 3 0 0),(4,.ptr 1 1 6 0 0),(7,.ptr 2 1 6 0 0),(19,.rows (a1.map TWeight.cells)),(20,i6 (a1.length:Int)),(21,i6 x7)]) (fun (x1,x2,x3,x4,x5,x6,x7)=>[⟨3,[(TSpace.lit a0)],0,none⟩,⟨6,[GG_c0],0,none⟩,⟨6,[[bo x1,i6 x2,u6 x3,.rows (x4.map (cInt .u64)),.rows (x5.map TCell.cells),.rows (x6.map TWeight.cells)]],0,none⟩]) (fun (x8,x9,x10,x11,x12,x13)=>listEnv [(4,.ptr 0 1 6 0 0),(7,.ptr 1 1 6 0 0)]) (fun (x8,x9,x10,x11,x12,x13)=>[⟨6,[GG_c0],0,none⟩,⟨6,[[bo x8,i6 x9,u6 x10,.rows (x11.map (cInt .u64)),.rows (x12.map TCell.cells),.rows (x13.map TWeight.cells)]],0,none⟩]) hL1 (fun r_=>r=r_) ?_ ?_ ?_
  ·rintro ⟨x8,x9,x10,x11,x12,x13⟩ rfl
   try dsimp only [Fin.on] at h
   refine .seq ?_
   obtain ⟨t18_1,g18_1,h⟩:=h
   refine .reg0 q (.o (ldG q sz53 ag53 q)<|.c q go71 q q q (weight_copied.D g18_1)<|.o (stB (cs0:=GG_c0) (cs:=(TWeight.lit t18_1)) (cs1:=(TWeight.lit t18_1)) q q sz53 q ⟨Nat.le_of_ble_eq_true q,q⟩ q)<|.a q<|.nil0) ?_
   replace h:=h.symm
   subst h
   refine .k [(4,.cptr (TWeight.lit t18_1) 0),(5,i6 0)] ⟨cFixP q q (.cons (.free q q)<|.cons (.free q q)<|.cons (.free q q)<|.cons (.free q q)<|.cons (.free q q)<|.cons (.free q q)<|.nil),.free q q,trivial⟩ ?_
   exact .ret q
  ·rintro r_ rfl
   exact h
  ·rintro ⟨x1,x2,x3,x4,x5,x6,x7⟩ z1 h hn1 hx1 hr1
   dsimp only [weight_Combine.b1] at h
   refine .seq<|.reg0 q (.o (ltI q q)<|.nil0)<|.seq ?_
   by_cases c4:x7 < (a1.length:Int)
   ·rw [if_pos c4] at h
    refine .condT q (dt c4)<|.skip<|.seq<|.block<|.seq ?_
    obtain ⟨g15_0,h⟩:=h
    refine .room 0<|.reg0 q (.o (ixR (l:=a1) (lit:=TWeight.lit) sl51 q q TWeight.cells_lit g15_0.1 g15_0.2)<|.o (ldCG q sz53 ag53 q)<|.op 3 q (alP (s:=6) ze53 ⟨q,by decide,q⟩ q)<|.o (stB (cs0:=GG_c0) (cs:=(TWeight.lit (rdl a1 x7))) (cs1:=(TWeight.lit (rdl a1 x7))) q q sz53 q ⟨Nat.le_of_ble_eq_true q,q⟩ q)<|.nil0) ?_
    obtain ⟨t16_3,g16_3,h⟩:=h
    refine .reg0 q (.o (ldG q sz25 ag25 q)<|.o (ldG q sz53 ag53 q)<|.o (ldG q sz53 ag53 q)<|.c q go70 q q q (weight_either.D g16_3)<|.o (stB (cs0:=[bo x1,i6 x2,u6 x3,.rows (x4.map (cInt .u64)),.rows (x5.map TCell.cells),.rows (x6.map TWeight.cells)]) (cs:=(TWeight.lit t16_3)) (cs1:=(TWeight.lit t16_3)) q q sz53 q ⟨Nat.le_of_ble_eq_true q,q⟩ q)<|.nil0) ?_
    refine .inBlock<|.reg0 q (.o (addI q q)<|.o (mvV q)<|.nil0)<|.keepL [0,1,2] [(2,.ptr 0 1 3 0 0),(4,.ptr 1 1 6 0 0),(7,.ptr 2 1 6 0 0),(19,.rows (a1.map TWeight.cells)),(20,i6 (a1.length:Int)),(21,i6 (IntKind.i64.wrap (x7 + 1)))] [⟨3,[(TSpace.lit a0)],0,none⟩,⟨6,[GG_c0],0,none⟩,⟨6,[(TWeight.lit t16_3)],0,none⟩] (by decide) (by decide) ⟨.ptr q,.ptr q,.ptr q,.free q q,.free q q,.free q q,trivial⟩ ⟨⟨_,q,bcBox (all2_free q)⟩,⟨_,q,bcBox (all2_free q)⟩,⟨_,q,bcBox (all2_free q)⟩,trivial⟩ ?_
    exact hn1 _ h
   ·rw [if_neg c4] at h
    refine .condF q (df c4)<|.exit q<|.keepL [1,2] [(4,.ptr 0 1 6 0 0),(7,.ptr 1 1 6 0 0)] [⟨6,[GG_c0],0,none⟩,⟨6,[[bo x1,i6 x2,u6 x3,.rows (x4.map (cInt .u64)),.rows (x5.map TCell.cells),.rows (x6.map TWeight.cells)]],0,none⟩] (by decide) (by decide) ⟨.ptr q,.ptr q,trivial⟩ ⟨⟨_,q,bcBox (all2_free q)⟩,⟨_,q,bcBox (all2_free q)⟩,trivial⟩ ?_
    exact hx1 _ h
 ·rw [if_neg c1] at h
  refine .condT q (nt c1)<|.seq<|.reg0 q (.o (bldS (cs:=GG_c0) ze53 pl53 q q)<|.o (mvV q)<|.o (stB (cs0:=GG_c0) (cs:=GG_c0) (cs1:=GG_c0) q q sz53 q ⟨Nat.le_of_ble_eq_true q,q⟩ q)<|.o (asV q)<|.nil0) ?_
  replace h:=h.symm
  subst h
  refine .k [(4,.cptr GG_c2 0),(5,i6 t2_2)] ⟨cFixP q q (.cons (.free q q)<|.cons (.free q q)<|.cons (.free q q)<|.cons (.nil)<|.cons (.nil)<|.cons (.nil)<|.nil),.free q q,trivial⟩ ?_
  exact .ret q
def limit_Worth.b1 (a0:TPds) (a1:TConf) (t2_4:(List (List Int)) × Int):(Bool × Int × Int × (List Int) × (List TCell) × (List TWeight) × Int)→Rnd ((Bool × Int × Int × (List Int) × (List TCell) × (List TWeight) × Int)) ((Bool × Int × Int × (List Int) × (List TCell) × (List TWeight))) (TWeight × Int)→Prop:=fun (x1,x2,x3,x4,x5,x6,x7) z1=>if x7 < (t2_4.1.length:Int) then (((InR x7 t2_4.1.length))∧∃ t18_3:TConf × TWeight × Int × Int,(steps_Run.f a0 a1 (rdl t2_4.1 x7) t18_3)∧∃ t19_5:TWeight × Int,(weight_Combine.f a0.Space [(TWeight.mk x1 x2 (TFacts.mk x3 x4) x5 x6),t18_3.2.1] t19_5)∧z1=.next (t19_5.1.Zero,t19_5.1.Cost,t19_5.1.Facts.Gen,t19_5.1.Facts.Rows,t19_5.1.Cells,t19_5.1.Parts,(IntKind.i64.wrap (x7 + 1)))) else (z1=.exit (x1,x2,x3,x4,x5,x6))
def limit_Worth.f (a0:TPds) (a1:TConf) (a2:TConf) (a3:Int) (r:TWeight × Int):Prop :=
 ∃ t2_4:(List (List Int)) × Int,(limit_Runs.f a0 a1 a2 a3 t2_4)∧if t2_4.2=0 then (∃ t4_2:TWeight × Int,(weight_Zero.f a0.Space t4_2)∧∃ o1:Fin ((Bool × Int × Int × (List Int) × (List TCell) × (List TWeight))) (TWeight × Int),Loop (limit_Worth.b1 a0 a1 t2_4) (t4_2.1.Zero,t4_2.1.Cost,t4_2.1.Facts.Gen,t4_2.1.Facts.Rows,t4_2.1.Cells,t4_2.1.Parts,0) o1∧o1.on (fun (x8,x9,x10,x11,x12,x13)=>r=((TWeight.mk x8 x9 (TFacts.mk x10 x11) x12 x13),0)) (fun r_=>r=r_)) else (r=((TWeight.mk false 0 (TFacts.mk 0 []) [] []),t2_4.2))
theorem limit_Worth.D {a0 a1 a2 a3 r} (h:limit_Worth.f a0 a1 a2 a3 r):D Tryz.prog X (.callH 13 [.agg (TPds.lit a0),.agg (TConf.lit a1),.agg (TConf.lit a2),.val (.int .i64 a3)] [] (.tuple [.agg (TWeight.lit r.1),.val (.int .i64 r.2)]) []):=by
 unfold limit_Worth.f at h
 refine .enter 64 0 fn13 q q q<|.seq<|.room 0<|.room 0<|.room 0<|.room 0<|.reg0 q (.o (bxP (s:=6) (cs:=(TPds.lit a0)) q ⟨q,by decide,q⟩ q)<|.op 1 q (bxP (s:=2) (cs:=(TConf.lit a1)) q ⟨q,by decide,q⟩ q)<|.op 2 q (bxP (s:=2) (cs:=(TConf.lit a2)) q ⟨q,by decide,q⟩ q)<|.op 3 q (alP (s:=6) ze53 ⟨q,by decide,q⟩ q)<|.o (asV q)<|.nil0) ?_
 refine .seq ?_
 obtain ⟨t2_4,g2_4,h⟩:=h
 refine .reg0 q (.o (ldG q sz28 ag28 q)<|.o (ldG q sz36 ag36 q)<|.o (ldG q sz36 ag36 q)<|.m q<|.c q go11 q q q (limit_Runs.D g2_4)<|.o (mvT q)<|.o (exT q q)<|.o (exT q q)<|.o (asR q)<|.a q<|.nil0)<|.seq<|.seq<|.reg0 q (.o (mvV q)<|.o (neI q q)<|.nil0) ?_
 by_cases c1:t2_4.2=0
 ·rw [if_pos c1] at h
  refine .condF q (nf c1)<|.skip<|.seq ?_
  obtain ⟨t4_2,g4_2,h⟩:=h
  refine .room 0<|.reg0 q (.o (faP fa28_0 q)<|.o (ldG q sz25 ag25 q)<|.callI q (callee_of q go36 q) (.pure q q (weight_Zero.D g4_2))<|.o (mvT q)<|.o (exT q q)<|.o (exT q q)<|.op 4 q (alP (s:=6) ze53 ⟨q,by decide,q⟩ q)<|.o (stB (cs0:=GG_c0) (cs:=(TWeight.lit t4_2.1)) (cs1:=(TWeight.lit t4_2.1)) q q sz53 q ⟨Nat.le_of_ble_eq_true q,q⟩ q)<|.o (asV q)<|.nil0) ?_
  refine .seq<|.seq<|.reg0 q (.o (mvR q)<|.o (lnR (l:=t2_4.1) sl40 q)<|.o (mvV q)<|.nil0)<|.block<|.keepL [0,1,3,4] [(4,.ptr 0 1 6 0 0),(5,.ptr 1 1 2 0 0),(8,.ptr 2 1 6 0 0),(12,.ptr 3 1 6 0 0),(38,.rows (t2_4.1.map (cSl (cInt .i64)))),(39,i6 (t2_4.1.length:Int)),(40,i6 0)] [⟨6,[(TPds.lit a0)],0,none⟩,⟨2,[(TConf.lit a1)],0,none⟩,⟨6,[GG_c0],0,none⟩,⟨6,[(TWeight.lit t4_2.1)],0,none⟩] (by decide) (by decide) ⟨.ptr q,.ptr q,.ptr q,.ptr q,.free q q,.free q q,.free q q,trivial⟩ ⟨⟨_,q,bcBox (all2_free q)⟩,⟨_,q,bcBox (all2_free q)⟩,⟨_,q,bcBox (all2_free q)⟩,⟨_,q,bcBox (all2_free q)⟩,trivial⟩ ?_
  obtain ⟨o1,hL1,h⟩:=h
  refine .loopB (limit_Worth.b1 a0 a1 t2_4) (fun (x1,x2,x3,x4,x5,x6,x7)=>listEnv [(4,.ptr 0 1 6 0 0),(5,.ptr 1 1 2 0 0),(8,.ptr 2 1 6 0 0),(12,.ptr 3 1 6 0 0),(38,.rows (t2_4.1.map (cSl (cInt .i64)))),(39,i6 (t2_4.1.length:Int)),(40,i6 x7)]) (fun (x1,x2,x3,x4,x5,x6,x7)=>[⟨6,[(TPds.lit a0)],0,none⟩,⟨2,[(TConf.lit a1)],0,none⟩,⟨6,[GG_c0],0,none⟩,⟨6,[[bo x1,i6 x2,u6 x3,.rows (x4.map (cInt .u64)),.rows (x5.map TCell.cells),.rows (x6.map TWeight.cells)]],0,none⟩]) (fun (x8,x9,x10,x11,x12,x13)=>listEnv [(8,.ptr 0 1 6 0 0),(12,.ptr 1 1 6 0 0)]) (fun (x8,x9,x10,x11,x12,x13)=>[⟨6,[GG_c0],0,none⟩,⟨6,[[bo x8,i6 x9,u6 x10,.rows (x11.map (cInt .u64)),.rows (x12.map TCell.cells),.rows (x13.map TWeight.cells)]],0,none⟩]) hL1 (fun r_=>r=r_) ?_ ?_ ?_
  ·rintro ⟨x8,x9,x10,x11,x12,x13⟩ rfl
   try dsimp only [Fin.on] at h
   refine .seq<|.reg0 q (.o (ldG q sz53 ag53 q)<|.o (stB (cs0:=GG_c0) (cs:=[bo x8,i6 x9,u6 x10,.rows (x11.map (cInt .u64)),.rows (x12.map TCell.cells),.rows (x13.map TWeight.cells)]) (cs1:=[bo x8,i6 x9,u6 x10,.rows (x11.map (cInt .u64)),.rows (x12.map TCell.cells),.rows (x13.map TWeight.cells)]) q q sz53 q ⟨Nat.le_of_ble_eq_true q,q⟩ q)<|.o (asV q)<|.nil0) ?_
   replace h:=h.symm
   subst h
   refine .k [(8,.cptr [bo x8,i6 x9,u6 x10,.rows (x11.map (cInt .u64)),.rows (x12.map TCell.cells),.rows (x13.map TWeight.cells)] 0),(9,i6 0)] ⟨cFixP q q (.cons (.free q q)<|.cons (.free q q)<|.cons (.free q q)<|.cons (.free q q)<|.cons (.free q q)<|.cons (.free q q)<|.nil),.free q q,trivial⟩ ?_
   exact .ret q
  ·rintro r_ rfl
   exact h
  ·rintro ⟨x1,x2,x3,x4,x5,x6,x7⟩ z1 h hn1 hx1 hr1
   dsimp only [limit_Worth.b1] at h
   refine .seq<|.reg0 q (.o (ltI q q)<|.nil0)<|.seq ?_
   by_cases c4:x7 < (t2_4.1.length:Int)
   ·rw [if_pos c4] at h
    refine .condT q (dt c4)<|.skip<|.seq<|.block<|.seq ?_
    obtain ⟨g17_0,h⟩:=h
    refine .reg0 q (.o (ixR (l:=t2_4.1) (lit:=(cSl (cInt .i64))) sl40 q q (fun _=>q) g17_0.1 g17_0.2)<|.o (ldC q sz29 ag29 q)<|.o (asR q)<|.nil0)<|.seq ?_
    obtain ⟨t18_3,g18_3,h⟩:=h
    refine .room 0<|.room 0<|.reg0 q (.o (ldG q sz28 ag28 q)<|.o (ldG q sz36 ag36 q)<|.o (mvR q)<|.callI q (callee_of q go37 q) (.pure q q (steps_Run.D g18_3))<|.o (mvT q)<|.o (exT q q)<|.o (exT q q)<|.o (exT q q)<|.o (exT q q)<|.op 4 q (alP (s:=2) ze36 ⟨q,by decide,q⟩ q)<|.op 5 q (alP (s:=6) ze53 ⟨q,by decide,q⟩ q)<|.o (stB (cs0:=[i6 0,nul]) (cs:=(TConf.lit t18_3.1)) (cs1:=(TConf.lit t18_3.1)) q q sz36 q ⟨Nat.le_of_ble_eq_true q,q⟩ q)<|.o (stB (cs0:=GG_c0) (cs:=(TWeight.lit t18_3.2.1)) (cs1:=(TWeight.lit t18_3.2.1)) q q sz53 q ⟨Nat.le_of_ble_eq_true q,q⟩ q)<|.o (asV q)<|.o (asV q)<|.nil0) ?_
    obtain ⟨t19_5,g19_5,h⟩:=h
    refine .room 0<|.reg0 (e1:=listEnv [(4,.ptr 0 1 6 0 0),(5,.ptr 1 1 2 0 0),(8,.ptr 2 1 6 0 0),(12,.ptr 3 1 6 0 0),(38,.rows (t2_4.1.map (cSl (cInt .i64)))),(39,i6 (t2_4.1.length:Int)),(40,i6 x7)]) (H1:=[⟨6,[(TPds.lit a0)],0,none⟩,⟨2,[(TConf.lit a1)],0,none⟩,⟨6,[GG_c0],0,none⟩,⟨6,[(TWeight.lit t19_5.1)],0,none⟩,⟨2,[(TConf.lit t18_3.1)],0,none⟩,⟨6,[(TWeight.lit t18_3.2.1)],0,none⟩,⟨6,[(TWeight.mk x1 x2 (TFacts.mk x3 x4) x5 x6),t18_3.2.1].map TWeight.cells,(max 0 ([(TWeight.mk x1 x2 (TFacts.mk x3 x4) x5 x6),t18_3.2.1].map TWeight.cells:List (List PV)).length),none⟩]) q (.o (faP fa28_0 q)<|.o (ldG q sz25 ag25 q)<|.o (ldG q sz53 ag53 q)<|.o (ldG q sz53 ag53 q)<|.op 6 q (bldT (s:=6) (cs:=[bo x1,i6 x2,u6 x3,.rows (x4.map (cInt .u64)),.rows (x5.map TCell.cells),.rows (x6.map TWeight.cells),bo t18_3.2.1.Zero,i6 t18_3.2.1.Cost,u6 t18_3.2.1.Facts.Gen,.rows (t18_3.2.1.Facts.Rows.map (cInt .u64)),.rows (t18_3.2.1.Cells.map TCell.cells),.rows (t18_3.2.1.Parts.map TWeight.cells)]) (cf:=TWeight.cells) [(TWeight.mk x1 x2 (TFacts.mk x3 x4) x5 x6),t18_3.2.1] un51 sz53 ze53 ⟨by decide,q,by decide⟩ q q q (by simp only [List.map,TWeight.cells_lit]; rfl) q)<|.callI q (callee_of q go38 q) (.lendC (args':=[.agg (TSpace.lit a0.Space),.rows ([(TWeight.mk x1 x2 (TFacts.mk x3 x4) x5 x6),t18_3.2.1].map TWeight.cells)])  [6] true (.cons (.free q q)<|.cons (cFixO (l:=[(TWeight.mk x1 x2 (TFacts.mk x3 x4) x5 x6),t18_3.2.1]) sl51 q q q q)<|.nil) (by decide) q q q q (weight_Combine.D g19_5))<|.o (mvT q)<|.o (exT q q)<|.o (exT q q)<|.o (stB (cs0:=[bo x1,i6 x2,u6 x3,.rows (x4.map (cInt .u64)),.rows (x5.map TCell.cells),.rows (x6.map TWeight.cells)]) (cs:=(TWeight.lit t19_5.1)) (cs1:=(TWeight.lit t19_5.1)) q q sz53 q ⟨Nat.le_of_ble_eq_true q,q⟩ q)<|.nilL _ ⟨.ptr q,.ptr q,.ptr q,.ptr q,.free q q,.free q q,.free q q,trivial⟩) ?_
    refine .inBlock<|.reg0 q (.o (addI q q)<|.o (mvV q)<|.nil0)<|.keepL [0,1,2,3] [(4,.ptr 0 1 6 0 0),(5,.ptr 1 1 2 0 0),(8,.ptr 2 1 6 0 0),(12,.ptr 3 1 6 0 0),(38,.rows (t2_4.1.map (cSl (cInt .i64)))),(39,i6 (t2_4.1.length:Int)),(40,i6 (IntKind.i64.wrap (x7 + 1)))] [⟨6,[(TPds.lit a0)],0,none⟩,⟨2,[(TConf.lit a1)],0,none⟩,⟨6,[GG_c0],0,none⟩,⟨6,[(TWeight.lit t19_5.1)],0,none⟩] (by decide) (by decide) ⟨.ptr q,.ptr q,.ptr q,.ptr q,.free q q,.free q q,.free q q,trivial⟩ ⟨⟨_,q,bcBox (all2_free q)⟩,⟨_,q,bcBox (all2_free q)⟩,⟨_,q,bcBox (all2_free q)⟩,⟨_,q,bcBox (all2_free q)⟩,trivial⟩ ?_
    exact hn1 _ h
   ·rw [if_neg c4] at h
    refine .condF q (df c4)<|.exit q<|.keepL [2,3] [(8,.ptr 0 1 6 0 0),(12,.ptr 1 1 6 0 0)] [⟨6,[GG_c0],0,none⟩,⟨6,[[bo x1,i6 x2,u6 x3,.rows (x4.map (cInt .u64)),.rows (x5.map TCell.cells),.rows (x6.map TWeight.cells)]],0,none⟩] (by decide) (by decide) ⟨.ptr q,.ptr q,trivial⟩ ⟨⟨_,q,bcBox (all2_free q)⟩,⟨_,q,bcBox (all2_free q)⟩,trivial⟩ ?_
    exact hx1 _ h
 ·rw [if_neg c1] at h
  refine .condT q (nt c1)<|.seq<|.reg0 q (.o (bldS (cs:=GG_c0) ze53 pl53 q q)<|.o (mvV q)<|.o (stB (cs0:=GG_c0) (cs:=GG_c0) (cs1:=GG_c0) q q sz53 q ⟨Nat.le_of_ble_eq_true q,q⟩ q)<|.o (asV q)<|.nil0) ?_
  replace h:=h.symm
  subst h
  refine .k [(8,.cptr GG_c2 0),(9,i6 t2_4.2)] ⟨cFixP q q (.cons (.free q q)<|.cons (.free q q)<|.cons (.free q q)<|.cons (.nil)<|.cons (.nil)<|.cons (.nil)<|.nil),.free q q,trivial⟩ ?_
  exact .ret q
end Go.RM.Tryz
