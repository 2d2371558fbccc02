/- GJ, for the statement LimitRuns: what it needs, no more. -/
import Derived.Test.YtckndmicdndamaaGreatDoorZLimitRunsGI
set_option linter.unusedVariables false
set_option maxRecDepth 8000
set_option maxHeartbeats 4000000
namespace Go.RM.Tryz
open Go.RM Go.Proofs
def r03_One.b1 (a0:Int):((List Int) × Int)→Rnd (((List Int) × Int)) ((List Int)) (TFacts × Int)→Prop:=fun (x2,x3) z1=>if x3 < a0 then (∃ t12_3:Int,(r01_Worth.f x3 t12_3)∧((Fits (x2.length + 1) 8))∧z1=.next ((x2 ++ [t12_3]),(IntKind.i64.wrap (x3 + 1)))) else (z1=.exit x2)
def r03_One.f (a0:Int) (r:TFacts × Int):Prop :=
 ∃ t2_1:Bool,(r03_dim.f a0 t2_1)∧if t2_1=true then (∃ o1:Fin ((List Int)) (TFacts × Int),Loop (r03_One.b1 a0) ([],0) o1∧o1.on (fun x4=>r=((TFacts.mk 0 x4),0)) (fun r_=>r=r_)) else (r=((TFacts.mk 0 []),31))
abbrev GJ_c0:List PV:=[bo false,i6 0,u6 0,nul,nul,nul]
abbrev GJ_c1:List PV:=[bo false,i6 0,u6 0,.rows (([]:List Int).map (cInt .u64)),.rows (([]:List TCell).map TCell.cells),.rows (([]:List TWeight).map TWeight.cells)]
abbrev GJ_c2:List PV:=[u6 0,i6 0,i6 0]
abbrev GJ_c3:List PV:=[u6 0,i6 2,i6 0]
theorem r03_One.D {a0 r} (h:r03_One.f a0 r):D Tryz.prog X (.callH 73 [.val (.int .i64 a0)] [] (.tuple [.agg (TFacts.lit r.1),.val (.int .i64 r.2)]) []):=by
 unfold r03_One.f at h
 refine .enter 24 0 fn73 q q q<|.seq<|.room 0<|.reg0 q (.o (alP (s:=2) ze49 ⟨q,by decide,q⟩ q)<|.o (asV q)<|.nil0)<|.seq<|.seq ?_
 obtain ⟨t2_1,g2_1,h⟩:=h
 refine .reg0 q (.m q<|.c q go117 q q q (r03_dim.D g2_1)<|.o (notB q)<|.nil0) ?_
 by_cases c1:t2_1=true
 ·rw [if_pos c1] at h
  refine .condF q (bnotF c1)<|.skip<|.seq<|.room 0<|.reg0 q (.o (bldS (cs:=[u6 0,nul]) ze49 pl49 q q)<|.op 1 q (alP (s:=2) ze49 ⟨q,by decide,q⟩ q)<|.o (stB (cs0:=[u6 0,nul]) (cs:=[u6 0,nul]) (cs1:=[u6 0,nul]) q q sz49 q ⟨Nat.le_of_ble_eq_true q,q⟩ q)<|.nil0)<|.seq<|.seq<|.reg0 q (.o (asV q)<|.nil0)<|.block<|.room 1<|.keepL [0,1,2] [(0,i6 a0),(2,.ptr 0 1 2 0 0),(4,.ptr 1 1 2 0 0),(5,i6 0)] [⟨2,[[u6 0,nul]],0,none⟩,⟨2,[[u6 0,.own 2 0]],0,none⟩,⟨1,[].map (cInt .u64),0,none⟩] (by decide) (by decide) ⟨.free q q,.ptr q,.ptr q,.free q q,trivial⟩ ⟨⟨_,q,bcBox (all2_free q)⟩,⟨_,q,bcBox (.cons (.free q q)<|.cons (.nilOwn)<|.nil)⟩,⟨_,q,(bcRow (l:=[]) sl47 (Nat.le_refl _) q)⟩,trivial⟩ ?_
  obtain ⟨o1,hL1,h⟩:=h
  refine .loopB (r03_One.b1 a0) (fun (x2,x3)=>listEnv [(0,i6 a0),(2,.ptr 0 1 2 0 0),(4,.ptr 1 1 2 0 0),(5,i6 x3)]) (fun (x2,x3)=>[⟨2,[[u6 0,nul]],0,none⟩,⟨2,[[u6 0,.own 2 x2.length]],0,none⟩,⟨1,x2.map (cInt .u64),0,none⟩]) (fun x4=>listEnv [(2,.ptr 0 1 2 0 0),(4,.ptr 1 1 2 0 0)]) (fun x4=>[⟨2,[[u6 0,nul]],0,none⟩,⟨2,[[u6 0,.own 2 x4.length]],0,none⟩,⟨1,x4.map (cInt .u64),0,none⟩]) hL1 (fun r_=>r=r_) ?_ ?_ ?_
  ·rintro x4 rfl
   try dsimp only [Fin.on] at h
   refine .seq<|.reg0 q (.o (ldG q sz49 ag49 q)<|.o (stB (cs0:=[u6 0,nul]) (cs:=[u6 0,.own 2 x4.length]) (cs1:=[u6 0,.own 2 x4.length]) q q sz49 q ⟨Nat.le_of_ble_eq_true q,q⟩ q)<|.o (asV q)<|.nil0) ?_
   replace h:=h.symm
   subst h
   refine .k [(2,.cptr [u6 0,.rows (x4.map (cInt .u64))] 0),(3,i6 0)] ⟨cFixP q q (.cons (.free q q)<|.cons (cFixO (l:=x4) sl47 q q q q)<|.nil),.free q q,trivial⟩ ?_
   exact .ret q
  ·rintro r_ rfl
   exact h
  ·rintro ⟨x2,x3⟩ z1 h hn1 hx1 hr1
   dsimp only [r03_One.b1] at h
   refine .seq<|.seq<|.reg0 q (.o (mvV q)<|.o (mvV q)<|.o (ltI q q)<|.nil0) ?_
   by_cases c4:x3 < a0
   ·rw [if_pos c4] at h
    refine .condT q (dt c4)<|.skip<|.seq<|.block ?_
    obtain ⟨t12_3,g12_3,h⟩:=h
    obtain ⟨g12_5,h⟩:=h
    refine .room 0<|.room 0 ?_
    refine .reg1 (e1:=listEnv [(0,i6 a0),(2,.ptr 0 1 2 0 0),(4,.ptr 1 1 2 0 0),(5,i6 x3)]) (H1:=[⟨2,[[u6 0,nul]],0,none⟩,⟨2,[[u6 0,.own 2 ((x2 ++ [t12_3]).length)]],0,none⟩,⟨1,(x2 ++ [t12_3]).map (cInt .u64),0,none⟩,⟨1,[t12_3].map (cInt .u64),0,none⟩,Blk.hole]) q ?_ ?_
    ·exact .drawM [(6,22,.ptr 1 1 2 0 1),(5,21,.own 2 ((x2 ++ [t12_3]).length)),(4,20,.own 3 ([t12_3].length)),(3,19,u6 t12_3),(2,18,i6 x3),(1,17,.own 2 x2.length),(0,16,.ptr 1 1 2 0 1)] [(7,1,⟨2,[[u6 0,.own 2 ((x2 ++ [t12_3]).length)]],0,none⟩),(5,2,⟨1,(x2 ++ [t12_3]).map (cInt .u64),0,none⟩),(4,3,⟨1,[t12_3].map (cInt .u64),0,none⟩)] [[],[0],[],[2],[3,2],[1,0,4,3,2],[0,1,2,3,4,5],[6,0,1,2,3,4,5]] (by rfl) (by rfl) (by rfl) (by exact ⟨oP (fun _=>faP fa49_1 q) q,oP (fun _=>ldP q sz47 ag47 q) q,oP (fun _=>mvV q) q,fun S hS hD hn=>.oneI hS hD hn q q (callee_of q go74 q) (.pure q q (r01_Worth.D g12_3)) q q q,oW 3 (fun _=>bldL (s:=1) (cs:=[u6 t12_3]) un47 sz46 ze46 ⟨by decide,q,by decide⟩ q q q q) q fun _=>q,oW 0 (fun _=>ap1 (l:=x2) t12_3 sl47 q q q (Nat.zero_le _) (elems_own (l:=[t12_3]) q q) g12_5) q fun _=>q,oP (fun _=>faP fa49_1 q) q,fun S hS hD hn=>.one0 0 q q (stB (cs0:=[u6 0,.own 2 x2.length]) (cs:=[.own 2 ((x2 ++ [t12_3]).length)]) (cs1:=[u6 0,.own 2 ((x2 ++ [t12_3]).length)]) q q sz47 q ⟨Nat.le_of_ble_eq_true q,q⟩ q) (drawE_other _ _ _ _ q) q,trivial⟩) _ (by exact ⟨.free q q,.ptr q,.ptr q,.free q q,trivial⟩) (by rfl)
    refine .inBlock<|.reg0 q (.o (mvV q)<|.o (addI q q)<|.o (asV q)<|.nil0)<|.keepL [0,1,2] [(0,i6 a0),(2,.ptr 0 1 2 0 0),(4,.ptr 1 1 2 0 0),(5,i6 (IntKind.i64.wrap (x3 + 1)))] [⟨2,[[u6 0,nul]],0,none⟩,⟨2,[[u6 0,.own 2 ((x2 ++ [t12_3]).length)]],0,none⟩,⟨1,(x2 ++ [t12_3]).map (cInt .u64),0,none⟩] (by decide) (by decide) ⟨.free q q,.ptr q,.ptr q,.free q q,trivial⟩ ⟨⟨_,q,bcBox (all2_free q)⟩,⟨_,q,bcBox (.cons (.free q q)<|.cons (.own q)<|.nil)⟩,⟨_,q,bcRow (l:=(x2 ++ [t12_3])) sl47 (Nat.le_refl _) q⟩,trivial⟩ ?_
    exact hn1 _ h
   ·rw [if_neg c4] at h
    refine .condF q (df c4)<|.exit q<|.keepL [0,1,2] [(2,.ptr 0 1 2 0 0),(4,.ptr 1 1 2 0 0)] [⟨2,[[u6 0,nul]],0,none⟩,⟨2,[[u6 0,.own 2 x2.length]],0,none⟩,⟨1,x2.map (cInt .u64),0,none⟩] (by decide) (by decide) ⟨.ptr q,.ptr q,trivial⟩ ⟨⟨_,q,bcBox (all2_free q)⟩,⟨_,q,bcBox (.cons (.free q q)<|.cons (.own q)<|.nil)⟩,⟨_,q,bcRow (l:=x2) sl47 (Nat.le_refl _) q⟩,trivial⟩ ?_
    exact hx1 _ h
 ·rw [if_neg c1] at h
  refine .condT q (bnotT (nb c1))<|.seq<|.reg0 q (.o (bldS (cs:=[u6 0,nul]) ze49 pl49 q q)<|.o (stB (cs0:=[u6 0,nul]) (cs:=[u6 0,nul]) (cs1:=[u6 0,nul]) q q sz49 q ⟨Nat.le_of_ble_eq_true q,q⟩ q)<|.o (asV q)<|.nil0) ?_
  replace h:=h.symm
  subst h
  refine .k [(2,.cptr [u6 0,.rows (([]:List Int).map (cInt .u64))] 0),(3,i6 31)] ⟨cFixP q q (.cons (.free q q)<|.cons (.nil)<|.nil),.free q q,trivial⟩ ?_
  exact .ret q
def r05_one.b1 (a0:TSpace):((List TCell) × Int)→Rnd (((List TCell) × Int)) ((List TCell)) TWeight→Prop:=fun (x2,x3) z1=>if x3 < a0.Dim then (∃ t16_3:Int,(r01_Worth.f x3 t16_3)∧((Fits (x2.length + 1) 24))∧z1=.next ((x2 ++ [(TCell.mk t16_3 0 0)]),(IntKind.i64.wrap (x3 + 1)))) else (z1=.exit x2)
def r05_one.step (self42:TSpace→TWeight→Prop) (a0:TSpace) (r:TWeight):Prop :=
 if a0.Tag=3 then (∃ t5_2:TFacts × Int,(r03_One.f a0.Dim t5_2)∧r=(TWeight.mk false 0 t5_2.1 [] [])) else (if a0.Tag=4 then (∃ o1:Fin ((List TCell)) TWeight,Loop (r05_one.b1 a0) ([],0) o1∧o1.on (fun x4=>r=(TWeight.mk false 0 (TFacts.mk 0 []) x4 [])) (fun r_=>r=r_)) else (if a0.Tag=5 then (((InR 0 a0.Parts.length))∧∃ t20_4:TWeight,(self42 (rdl a0.Parts 0) t20_4)∧((InR 1 a0.Parts.length))∧∃ t20_9:TWeight,(self42 (rdl a0.Parts 1) t20_9)∧r=(TWeight.mk false 0 (TFacts.mk 0 []) [] [t20_4,t20_9])) else (r=(TWeight.mk false 0 (TFacts.mk 0 []) [] []))))
theorem r05_one.stepD {self42:TSpace→TWeight→Prop} {a0:TSpace} (hs42:∀ z0_ r_,self42 z0_ r_→D Tryz.prog X (.callH 42 [.agg (TSpace.lit z0_)] [] (.agg (TWeight.lit r_)) [])) {r:TWeight} (h:r05_one.step self42 a0 r):D Tryz.prog X (.callH 42 [.agg (TSpace.lit a0)] [] (.agg (TWeight.lit r)) []):=by
 unfold r05_one.step at h
 refine .enter 48 0 fn42 q q q<|.seq<|.room 0<|.room 0<|.reg0 q (.o (bxP (s:=3) (cs:=(TSpace.lit a0)) q ⟨q,by decide,q⟩ q)<|.op 1 q (alP (s:=6) ze53 ⟨q,by decide,q⟩ q)<|.nil0)<|.seq<|.room 0<|.reg0 q (.o (bldS (cs:=GJ_c0) ze53 pl53 q q)<|.op 2 q (alP (s:=6) ze53 ⟨q,by decide,q⟩ q)<|.o (stB (cs0:=GJ_c0) (cs:=GJ_c0) (cs1:=GJ_c0) q q sz53 q ⟨Nat.le_of_ble_eq_true q,q⟩ q)<|.nil0) ?_
 refine .seq<|.seq<|.reg0 q (.o (faP fa25_0 q)<|.o (ldP q sz22 ag22 q)<|.nil0)<|.block<|.seq<|.reg0 q (.o (eqI q q)<|.o (asV q)<|.nil0) ?_
 by_cases c1:a0.Tag=3
 ·rw [if_pos c1] at h
  refine .condT q (bt c1) ?_
  obtain ⟨t5_2,g5_2,h⟩:=h
  refine .reg0 q (.o (faP fa25_1 q)<|.o (ldP q sz3 ag3 q)<|.c q go73 q q q (r03_One.D g5_2)<|.o (mvT q)<|.o (exT q q)<|.o (exT q q)<|.o (faP fa53_2 q)<|.o (stB (cs0:=GJ_c0) (cs:=(TFacts.lit t5_2.1)) (cs1:=[bo false,i6 0,u6 t5_2.1.Gen,.rows (t5_2.1.Rows.map (cInt .u64)),nul,nul]) q q sz49 q ⟨Nat.le_of_ble_eq_true q,q⟩ q)<|.nil0) ?_
  refine .inBlock<|.seq<|.reg0 q (.o (ldG q sz53 ag53 q)<|.o (stB (cs0:=GJ_c0) (cs:=[bo false,i6 0,u6 t5_2.1.Gen,.rows (t5_2.1.Rows.map (cInt .u64)),nul,nul]) (cs1:=[bo false,i6 0,u6 t5_2.1.Gen,.rows (t5_2.1.Rows.map (cInt .u64)),nul,nul]) q q sz53 q ⟨Nat.le_of_ble_eq_true q,q⟩ q)<|.nil0) ?_
  replace h:=h.symm
  subst h
  refine .k [(2,.cptr [bo false,i6 0,u6 t5_2.1.Gen,.rows (t5_2.1.Rows.map (cInt .u64)),.rows (([]:List TCell).map TCell.cells),.rows (([]:List TWeight).map TWeight.cells)] 0)] ⟨cFixP q q (.cons (.free q q)<|.cons (.free q q)<|.cons (.free q q)<|.cons (.free q q)<|.cons (.nil)<|.cons (.nil)<|.nil),trivial⟩ ?_
  exact .ret q
 ·rw [if_neg c1] at h
  refine .condF q (bn c1)<|.seq<|.reg0 q (.o (eqI q q)<|.o (asV q)<|.nil0) ?_
  by_cases c2:a0.Tag=4
  ·rw [if_pos c2] at h
   refine .condT q (bt c2)<|.seq<|.reg0 q (.o (asV q)<|.nil0)<|.block<|.room 3<|.keepL [0,1,2,3] [(1,.ptr 0 1 3 0 0),(2,.ptr 1 1 6 0 0),(3,.ptr 2 1 6 0 0),(4,i6 0)] [⟨3,[(TSpace.lit a0)],0,none⟩,⟨6,[GJ_c0],0,none⟩,⟨6,[[bo false,i6 0,u6 0,nul,.own 3 0,nul]],0,none⟩,⟨3,[].map TCell.cells,0,none⟩] (by decide) (by decide) ⟨.ptr q,.ptr q,.ptr q,.free q q,trivial⟩ ⟨⟨_,q,bcBox (all2_free q)⟩,⟨_,q,bcBox (all2_free q)⟩,⟨_,q,bcBox (.cons (.free q q)<|.cons (.free q q)<|.cons (.free q q)<|.cons (.free q q)<|.cons (.nilOwn)<|.cons (.free q q)<|.nil)⟩,⟨_,q,(bcRow (l:=[]) sl50 (Nat.le_refl _) q)⟩,trivial⟩ ?_
   obtain ⟨o1,hL1,h⟩:=h
   refine .loopB (r05_one.b1 a0) (fun (x2,x3)=>listEnv [(1,.ptr 0 1 3 0 0),(2,.ptr 1 1 6 0 0),(3,.ptr 2 1 6 0 0),(4,i6 x3)]) (fun (x2,x3)=>[⟨3,[(TSpace.lit a0)],0,none⟩,⟨6,[GJ_c0],0,none⟩,⟨6,[[bo false,i6 0,u6 0,nul,.own 3 x2.length,nul]],0,none⟩,⟨3,x2.map TCell.cells,0,none⟩]) (fun x4=>listEnv [(2,.ptr 0 1 6 0 0),(3,.ptr 1 1 6 0 0)]) (fun x4=>[⟨6,[GJ_c0],0,none⟩,⟨6,[[bo false,i6 0,u6 0,nul,.own 2 x4.length,nul]],0,none⟩,⟨3,x4.map TCell.cells,0,none⟩]) hL1 (fun r_=>r=r_) ?_ ?_ ?_
   ·rintro x4 rfl
    try dsimp only [Fin.on] at h
    refine .inBlock<|.seq<|.reg0 q (.o (ldG q sz53 ag53 q)<|.o (stB (cs0:=GJ_c0) (cs:=[bo false,i6 0,u6 0,nul,.own 2 x4.length,nul]) (cs1:=[bo false,i6 0,u6 0,nul,.own 2 x4.length,nul]) q q sz53 q ⟨Nat.le_of_ble_eq_true q,q⟩ q)<|.nil0) ?_
    replace h:=h.symm
    subst h
    refine .k [(2,.cptr [bo false,i6 0,u6 0,.rows (([]:List Int).map (cInt .u64)),.rows (x4.map TCell.cells),.rows (([]:List TWeight).map TWeight.cells)] 0)] ⟨cFixP q q (.cons (.free q q)<|.cons (.free q q)<|.cons (.free q q)<|.cons (.nil)<|.cons (cFixO (l:=x4) sl50 q q q q)<|.cons (.nil)<|.nil),trivial⟩ ?_
    exact .ret q
   ·rintro r_ rfl
    exact h
   ·rintro ⟨x2,x3⟩ z1 h hn1 hx1 hr1
    dsimp only [r05_one.b1] at h
    refine .seq<|.seq<|.reg0 q (.o (mvV q)<|.o (faP fa25_1 q)<|.o (ldP q sz3 ag3 q)<|.o (ltI q q)<|.nil0) ?_
    by_cases c5:x3 < a0.Dim
    ·rw [if_pos c5] at h
     refine .condT q (dt c5)<|.skip<|.seq<|.block ?_
     obtain ⟨t16_3,g16_3,h⟩:=h
     obtain ⟨g16_6,h⟩:=h
     refine .room 0<|.room 0 ?_
     refine .reg1 (e1:=listEnv [(1,.ptr 0 1 3 0 0),(2,.ptr 1 1 6 0 0),(3,.ptr 2 1 6 0 0),(4,i6 x3)]) (H1:=[⟨3,[(TSpace.lit a0)],0,none⟩,⟨6,[GJ_c0],0,none⟩,⟨6,[[bo false,i6 0,u6 0,nul,.own 3 ((x2 ++ [(TCell.mk t16_3 0 0)]).length),nul]],0,none⟩,⟨3,(x2 ++ [(TCell.mk t16_3 0 0)]).map TCell.cells,0,none⟩,⟨3,[(TCell.mk t16_3 0 0)].map TCell.cells,0,none⟩,Blk.hole]) q ?_ ?_
     ·exact .drawM [(7,32,.ptr 2 1 6 0 4),(6,31,.own 3 ((x2 ++ [(TCell.mk t16_3 0 0)]).length)),(5,30,.own 4 ([(TCell.mk t16_3 0 0)].length)),(4,29,.agg [u6 t16_3,i6 0,i6 0]),(3,28,u6 t16_3),(2,27,i6 x3),(1,26,.own 3 x2.length),(0,25,.ptr 2 1 6 0 4)] [(8,2,⟨6,[[bo false,i6 0,u6 0,nul,.own 3 ((x2 ++ [(TCell.mk t16_3 0 0)]).length),nul]],0,none⟩),(6,3,⟨3,(x2 ++ [(TCell.mk t16_3 0 0)]).map TCell.cells,0,none⟩),(5,4,⟨3,[(TCell.mk t16_3 0 0)].map TCell.cells,0,none⟩)] [[],[0],[],[2],[3,2],[4,3,2],[1,0,5,4,3,2],[0,1,2,3,4,5,6],[7,0,1,2,3,4,5,6]] (by rfl) (by rfl) (by rfl) (by exact ⟨oP (fun _=>faP fa53_3 q) q,oP (fun _=>ldP q sz50 ag50 q) q,oP (fun _=>mvV q) q,fun S hS hD hn=>.oneI hS hD hn q q (callee_of q go74 q) (.pure q q (r01_Worth.D g16_3)) q q q,oP (fun _=>bldS (cs:=[u6 t16_3,i6 0,i6 0]) ze97 pl97 q q) q,oW 4 (fun _=>bldL (s:=3) (cs:=[u6 t16_3,i6 0,i6 0]) un50 sz97 ze97 ⟨by decide,q,by decide⟩ q q q q) q fun _=>q,oW 0 (fun _=>ap1 (l:=x2) (TCell.mk t16_3 0 0) sl50 q q q (Nat.zero_le _) (elems_own (l:=[(TCell.mk t16_3 0 0)]) q q) g16_6) q fun _=>q,oP (fun _=>faP fa53_3 q) q,fun S hS hD hn=>.one0 0 q q (stB (cs0:=[bo false,i6 0,u6 0,nul,.own 3 x2.length,nul]) (cs:=[.own 3 ((x2 ++ [(TCell.mk t16_3 0 0)]).length)]) (cs1:=[bo false,i6 0,u6 0,nul,.own 3 ((x2 ++ [(TCell.mk t16_3 0 0)]).length),nul]) q q sz50 q ⟨Nat.le_of_ble_eq_true q,q⟩ q) (drawE_other _ _ _ _ q) q,trivial⟩) _ (by exact ⟨.ptr q,.ptr q,.ptr q,.free q q,trivial⟩) (by rfl)
     refine .inBlock<|.reg0 q (.o (mvV q)<|.o (addI q q)<|.o (asV q)<|.nil0)<|.keepL [0,1,2,3] [(1,.ptr 0 1 3 0 0),(2,.ptr 1 1 6 0 0),(3,.ptr 2 1 6 0 0),(4,i6 (IntKind.i64.wrap (x3 + 1)))] [⟨3,[(TSpace.lit a0)],0,none⟩,⟨6,[GJ_c0],0,none⟩,⟨6,[[bo false,i6 0,u6 0,nul,.own 3 ((x2 ++ [(TCell.mk t16_3 0 0)]).length),nul]],0,none⟩,⟨3,(x2 ++ [(TCell.mk t16_3 0 0)]).map TCell.cells,0,none⟩] (by decide) (by decide) ⟨.ptr q,.ptr q,.ptr q,.free q q,trivial⟩ ⟨⟨_,q,bcBox (all2_free q)⟩,⟨_,q,bcBox (all2_free q)⟩,⟨_,q,bcBox (.cons (.free q q)<|.cons (.free q q)<|.cons (.free q q)<|.cons (.free q q)<|.cons (.own q)<|.cons (.free q q)<|.nil)⟩,⟨_,q,bcRow (l:=(x2 ++ [(TCell.mk t16_3 0 0)])) sl50 (Nat.le_refl _) q⟩,trivial⟩ ?_
     exact hn1 _ h
    ·rw [if_neg c5] at h
     refine .condF q (df c5)<|.exit q<|.keepL [1,2,3] [(2,.ptr 0 1 6 0 0),(3,.ptr 1 1 6 0 0)] [⟨6,[GJ_c0],0,none⟩,⟨6,[[bo false,i6 0,u6 0,nul,.own 2 x2.length,nul]],0,none⟩,⟨3,x2.map TCell.cells,0,none⟩] (by decide) (by decide) ⟨.ptr q,.ptr q,trivial⟩ ⟨⟨_,q,bcBox (all2_free q)⟩,⟨_,q,bcBox (.cons (.free q q)<|.cons (.free q q)<|.cons (.free q q)<|.cons (.free q q)<|.cons (.own q)<|.cons (.free q q)<|.nil)⟩,⟨_,q,bcRow (l:=x2) sl50 (Nat.le_refl _) q⟩,trivial⟩ ?_
     exact hx1 _ h
  ·rw [if_neg c2] at h
   refine .condF q (bn c2)<|.seq<|.reg0 q (.o (eqI q q)<|.o (asV q)<|.nil0) ?_
   by_cases c6:a0.Tag=5
   ·rw [if_pos c6] at h
    refine .condT q (bt c6) ?_
    obtain ⟨g20_2,h⟩:=h
    obtain ⟨t20_4,g20_4,h⟩:=h
    obtain ⟨g20_7,h⟩:=h
    obtain ⟨t20_9,g20_9,h⟩:=h
    refine .room 0 ?_
    refine .reg1 (e1:=listEnv [(2,.ptr 1 1 6 0 0),(3,.ptr 2 1 6 0 0)]) (H1:=[⟨3,[(TSpace.lit a0)],0,none⟩,⟨6,[GJ_c0],0,none⟩,⟨6,[[bo false,i6 0,u6 0,nul,nul,.own 3 ([t20_4,t20_9].length)]],0,none⟩,⟨6,[t20_4,t20_9].map TWeight.cells,0,none⟩]) q ?_ ?_
    ·exact .drawM [(11,46,.ptr 2 1 6 0 5),(10,45,.own 3 ([t20_4,t20_9].length)),(9,44,.agg (TWeight.lit t20_9)),(8,43,.agg (TSpace.lit (rdl a0.Parts 1))),(7,42,.cptr (TSpace.lit (rdl a0.Parts 1)) 0),(6,41,.rows (a0.Parts.map TSpace.cells)),(5,40,.ptr 0 1 3 0 2),(4,39,.agg (TWeight.lit t20_4)),(3,38,.agg (TSpace.lit (rdl a0.Parts 0))),(2,37,.cptr (TSpace.lit (rdl a0.Parts 0)) 0),(1,36,.rows (a0.Parts.map TSpace.cells)),(0,35,.ptr 0 1 3 0 2)] [(12,2,⟨6,[[bo false,i6 0,u6 0,nul,nul,.own 3 ([t20_4,t20_9].length)]],0,none⟩),(10,3,⟨6,[t20_4,t20_9].map TWeight.cells,0,none⟩)] [[],[0],[1,0],[2,1,0],[3,2,1,0],[],[5],[6,5],[7,6,5],[8,7,6,5,4,3,2,1,0],[4,3,2,1,0,9,8,7,6,5],[0,1,2,3,4,5,6,7,8,9,10],[11,0,1,2,3,4,5,6,7,8,9,10]] (by rfl) (by rfl) (by rfl) (by exact ⟨oP (fun _=>faP fa25_2 q) q,oP (fun _=>ldP q sz23 ag23 q) q,oP (fun _=>ixR (l:=a0.Parts) (lit:=TSpace.lit) sl23 q q TSpace.cells_lit g20_2.1 g20_2.2) q,oP (fun _=>ldCG q sz25 ag25 q) q,fun S hS hD hn=>.oneI hS hD hn q q (callee_of q go42 q) (.pure q q (hs42 _ _ g20_4)) q q q,oP (fun _=>faP fa25_2 q) q,oP (fun _=>ldP q sz23 ag23 q) q,oP (fun _=>ixR (l:=a0.Parts) (lit:=TSpace.lit) sl23 q q TSpace.cells_lit g20_7.1 g20_7.2) q,oP (fun _=>ldCG q sz25 ag25 q) q,fun S hS hD hn=>.oneI hS hD hn q q (callee_of q go42 q) (.pure q q (hs42 _ _ g20_9)) q q q,oW 3 (fun _=>bldT (s:=6) (cs:=[bo t20_4.Zero,i6 t20_4.Cost,u6 t20_4.Facts.Gen,.rows (t20_4.Facts.Rows.map (cInt .u64)),.rows (t20_4.Cells.map TCell.cells),.rows (t20_4.Parts.map TWeight.cells),bo t20_9.Zero,i6 t20_9.Cost,u6 t20_9.Facts.Gen,.rows (t20_9.Facts.Rows.map (cInt .u64)),.rows (t20_9.Cells.map TCell.cells),.rows (t20_9.Parts.map TWeight.cells)]) (cf:=TWeight.cells) [t20_4,t20_9] un51 sz53 ze53 ⟨by decide,q,by decide⟩ q q q (by simp only [List.map,TWeight.cells_lit]; rfl) q) q fun _=>q,oP (fun _=>faP fa53_4 q) q,fun S hS hD hn=>.one0 0 q q (stB (cs0:=GJ_c0) (cs:=[.own 3 ([t20_4,t20_9].length)]) (cs1:=[bo false,i6 0,u6 0,nul,nul,.own 3 ([t20_4,t20_9].length)]) q q sz51 q ⟨Nat.le_of_ble_eq_true q,q⟩ q) (drawE_other _ _ _ _ q) q,trivial⟩) _ (by exact ⟨.ptr q,.ptr q,trivial⟩) (by rfl)
    refine .inBlock<|.seq<|.reg0 q (.o (ldG q sz53 ag53 q)<|.o (stB (cs0:=GJ_c0) (cs:=[bo false,i6 0,u6 0,nul,nul,.own 3 ([t20_4,t20_9].length)]) (cs1:=[bo false,i6 0,u6 0,nul,nul,.own 3 ([t20_4,t20_9].length)]) q q sz53 q ⟨Nat.le_of_ble_eq_true q,q⟩ q)<|.nil0) ?_
    replace h:=h.symm
    subst h
    refine .k [(2,.cptr [bo false,i6 0,u6 0,.rows (([]:List Int).map (cInt .u64)),.rows (([]:List TCell).map TCell.cells),.rows ([t20_4,t20_9].map TWeight.cells)] 0)] ⟨cFixP q q (.cons (.free q q)<|.cons (.free q q)<|.cons (.free q q)<|.cons (.nil)<|.cons (.nil)<|.cons (cFixO (l:=[t20_4,t20_9]) sl51 q q q q)<|.nil),trivial⟩ ?_
    exact .ret q
   ·rw [if_neg c6] at h
    refine .condF q (bn c6)<|.skip<|.inBlock<|.seq<|.reg0 q (.o (ldG q sz53 ag53 q)<|.o (stB (cs0:=GJ_c0) (cs:=GJ_c0) (cs1:=GJ_c0) q q sz53 q ⟨Nat.le_of_ble_eq_true q,q⟩ q)<|.nil0) ?_
    replace h:=h.symm
    subst h
    refine .k [(2,.cptr GJ_c1 0)] ⟨cFixP q q (.cons (.free q q)<|.cons (.free q q)<|.cons (.free q q)<|.cons (.nil)<|.cons (.nil)<|.cons (.nil)<|.nil),trivial⟩ ?_
    exact .ret q
def r05_one.fN:Nat→TSpace→TWeight→Prop
 | 0=>fun _ _=>False
 | n + 1=>r05_one.step (r05_one.fN n)
theorem r05_one.ND:∀ (n:Nat) {a0:TSpace} {r:TWeight} (h:r05_one.fN n a0 r),D Tryz.prog X (.callH 42 [.agg (TSpace.lit a0)] [] (.agg (TWeight.lit r)) [])
 | 0,_,_,h=>h.elim
 | n + 1,_,_,h=>r05_one.stepD (fun _ _ h=>r05_one.ND n h) h
def r05_one.f (a0:TSpace) (r:TWeight):Prop:=∃ n,r05_one.fN n a0 r
theorem r05_one.D {a0 r} (h:r05_one.f a0 r):D Tryz.prog X (.callH 42 [.agg (TSpace.lit a0)] [] (.agg (TWeight.lit r)) []):=by obtain ⟨n,h⟩:=h; exact r05_one.ND n h
def r05_One.f (a0:TSpace) (r:TWeight × Int):Prop :=
 ∃ t2_1:Int,(r05_Space.f a0 t2_1)∧if t2_1=0 then (∃ t3_1:TWeight,(r05_one.f a0 t3_1)∧r=(t3_1,0)) else (r=((TWeight.mk false 0 (TFacts.mk 0 []) [] []),50))
theorem r05_One.D {a0 r} (h:r05_One.f a0 r):D Tryz.prog X (.callH 16 [.agg (TSpace.lit a0)] [] (.tuple [.agg (TWeight.lit r.1),.val (.int .i64 r.2)]) []):=by
 unfold r05_One.f at h
 refine .enter 10 0 fn16 q q q<|.seq<|.room 0<|.room 0<|.reg0 q (.o (bxP (s:=3) (cs:=(TSpace.lit a0)) q ⟨q,by decide,q⟩ q)<|.op 1 q (alP (s:=6) ze53 ⟨q,by decide,q⟩ q)<|.o (asV q)<|.nil0)<|.seq<|.seq ?_
 obtain ⟨t2_1,g2_1,h⟩:=h
 refine .reg0 q (.o (ldG q sz25 ag25 q)<|.c q go41 q q q (r05_Space.D g2_1)<|.o (neI q q)<|.nil0) ?_
 by_cases c1:t2_1=0
 ·rw [if_pos c1] at h
  refine .condF q (nf c1)<|.skip<|.seq ?_
  obtain ⟨t3_1,g3_1,h⟩:=h
  refine .reg0 q (.o (ldG q sz25 ag25 q)<|.c q go42 q q q (r05_one.D g3_1)<|.o (stB (cs0:=GJ_c0) (cs:=(TWeight.lit t3_1)) (cs1:=(TWeight.lit t3_1)) q q sz53 q ⟨Nat.le_of_ble_eq_true q,q⟩ q)<|.a q<|.nil0) ?_
  replace h:=h.symm
  subst h
  refine .k [(2,.cptr (TWeight.lit t3_1) 0),(3,i6 0)] ⟨cFixP q q (.cons (.free q q)<|.cons (.free q q)<|.cons (.free q q)<|.cons (.free q q)<|.cons (.free q q)<|.cons (.free q q)<|.nil),.free q q,trivial⟩ ?_
  exact .ret q
 ·rw [if_neg c1] at h
  refine .condT q (nt c1)<|.seq<|.reg0 q (.o (bldS (cs:=GJ_c0) ze53 pl53 q q)<|.o (stB (cs0:=GJ_c0) (cs:=GJ_c0) (cs1:=GJ_c0) q q sz53 q ⟨Nat.le_of_ble_eq_true q,q⟩ q)<|.o (asV q)<|.nil0) ?_
  replace h:=h.symm
  subst h
  refine .k [(2,.cptr GJ_c1 0),(3,i6 50)] ⟨cFixP q q (.cons (.free q q)<|.cons (.free q q)<|.cons (.free q q)<|.cons (.nil)<|.cons (.nil)<|.cons (.nil)<|.nil),.free q q,trivial⟩ ?_
  exact .ret q
def r12_Applies.f (a0:TRule) (a1:TConf) (r:Bool):Prop :=
 ((a0.P=a1.P)→((a1.W.length:Int) > 0)→(InR 0 a1.W.length))∧r=((a0.P == a1.P) && ((decide ((a1.W.length:Int) > 0)) && ((rdl a1.W 0) == a0.G)))
abbrev GJ_A0:List (List Nat):=[[],[0],[],[2],[1,0,3,2],[4,1,0,3,2],[5,4,1,0,3,2],[6,5,4,1,0,3,2],[7,6,5,4,1,0,3,2],[8,7,6,5,4,1,0,3,2],[5,4,1,0,3,2,9,8,7,6],[10,5,4,1,0,3,2,9,8,7,6],[11,10,5,4,1,0,3,2,9,8,7,6],[12,11,10,5,4,1,0,3,2,9,8,7,6],[13,12,11,10,5,4,1,0,3,2,9,8,7,6],[14,13,12,11,10,5,4,1,0,3,2,9,8,7,6],[11,10,5,4,1,0,3,2,9,8,7,6],[16,11,10,5,4,1,0,3,2,9,8,7,6],[15,14,13,12,11,10,5,4,1,0,3,2,9,8,7,6,17,16],[11,10,5,4,1,0,3,2,9,8,7,6,18,15,14,13,12,17,16],[19,11,10,5,4,1,0,3,2,9,8,7,6,18,15,14,13,12,17,16]]
theorem r12_Applies.D {a0 a1 r} (h:r12_Applies.f a0 a1 r):D Tryz.prog X (.callH 59 [.agg (TRule.lit a0),.agg (TConf.lit a1)] [] (.val (.bool r)) []):=by
 unfold r12_Applies.f at h
 refine .enter 25 0 fn59 q q q<|.seq<|.room 0<|.room 0<|.reg0 q (.o (bxP (s:=10) (cs:=(TRule.lit a0)) q ⟨q,by decide,q⟩ q)<|.op 1 q (bxP (s:=2) (cs:=(TConf.lit a1)) q ⟨q,by decide,q⟩ q)<|.o (asV q)<|.nil0)<|.seq ?_
 obtain ⟨g2_14,h⟩:=h
 refine .reg1 (e1:=listEnv [(4,bo ((a0.P == a1.P) && ((decide ((a1.W.length:Int) > 0)) && ((rdl a1.W 0) == a0.G))))]) (H1:=[⟨10,[(TRule.lit a0)],0,none⟩,⟨2,[(TConf.lit a1)],0,none⟩]) q ?_ ?_
 ·by_cases c1:a0.P=a1.P
  ·by_cases c2:(a1.W.length:Int) > 0
   ·exact .drawM [(20,4,bo ((rdl a1.W 0) == a0.G)),(19,24,bo ((rdl a1.W 0) == a0.G)),(18,23,bo ((rdl a1.W 0) == a0.G)),(17,22,i6 a0.G),(16,21,.ptr 0 1 10 0 1),(15,20,i6 (rdl a1.W 0)),(14,19,.cptr ((cInt .i64) (rdl a1.W 0)) 0),(13,18,.rows (a1.W.map (cInt .i64))),(12,17,.ptr 1 1 2 0 1),(11,16,bo (decide ((a1.W.length:Int) > 0))),(10,15,bo (decide ((a1.W.length:Int) > 0))),(9,14,bo (decide ((a1.W.length:Int) > 0))),(8,13,i6 (a1.W.length:Int)),(7,12,.rows (a1.W.map (cInt .i64))),(6,11,.ptr 1 1 2 0 1),(5,10,bo (a0.P == a1.P)),(4,9,bo (a0.P == a1.P)),(3,8,i6 a1.P),(2,7,.ptr 1 1 2 0 0),(1,6,i6 a0.P),(0,5,.ptr 0 1 10 0 0)] [] GJ_A0 (by rfl) (by rfl) (by rfl) (by exact ⟨oP (fun _=>faP fa77_0 q) q,oP (fun _=>ldP q sz3 ag3 q) q,oP (fun _=>faP fa36_0 q) q,oP (fun _=>ldP q sz3 ag3 q) q,oP (fun _=>eqI q q) q,oP (fun _=>mvV q) q,oG q (fun _=>q) (bt c1) (fun _=>faP fa36_1 q) q,oG q (fun _=>q) (bt c1) (fun _=>ldP q sz29 ag29 q) q,oG q (fun _=>q) (bt c1) (fun _=>lnR (l:=a1.W) sl29 q) q,oG q (fun _=>q) (bt c1) (fun _=>gtI q q) q,oP (fun _=>pkTV q (bt c1) q) q,oP (fun _=>mvV q) q,oG q (fun _=>q) (dt c2) (fun _=>faP fa36_1 q) q,oG q (fun _=>q) (dt c2) (fun _=>ldP q sz29 ag29 q) q,oG q (fun _=>q) (dt c2) (fun _=>ixR (l:=a1.W) (lit:=(cInt .i64)) sl29 q q (fun _=>q) (g2_14 c1 c2).1 (g2_14 c1 c2).2) q,oG q (fun _=>q) (dt c2) (fun _=>ldC q sz3 ag3 q) q,oG q (fun _=>q) (dt c2) (fun _=>faP fa77_1 q) q,oG q (fun _=>q) (dt c2) (fun _=>ldP q sz3 ag3 q) q,oG q (fun _=>q) (dt c2) (fun _=>eqI q q) q,oP (fun _=>pkTV q (dt c2) q) q,oP (fun _=>asV q) q,trivial⟩) _ (by exact ⟨cB q (mAndT (bt c1) (mAndT (dt c2) q)),trivial⟩) (by rfl)
   ·exact .drawM [(20,4,bo false),(19,24,bo false),(18,23,und),(17,22,und),(16,21,und),(15,20,und),(14,19,und),(13,18,und),(12,17,und),(11,16,bo (decide ((a1.W.length:Int) > 0))),(10,15,bo (decide ((a1.W.length:Int) > 0))),(9,14,bo (decide ((a1.W.length:Int) > 0))),(8,13,i6 (a1.W.length:Int)),(7,12,.rows (a1.W.map (cInt .i64))),(6,11,.ptr 1 1 2 0 1),(5,10,bo (a0.P == a1.P)),(4,9,bo (a0.P == a1.P)),(3,8,i6 a1.P),(2,7,.ptr 1 1 2 0 0),(1,6,i6 a0.P),(0,5,.ptr 0 1 10 0 0)] [] GJ_A0 (by rfl) (by rfl) (by rfl) (by exact ⟨oP (fun _=>faP fa77_0 q) q,oP (fun _=>ldP q sz3 ag3 q) q,oP (fun _=>faP fa36_0 q) q,oP (fun _=>ldP q sz3 ag3 q) q,oP (fun _=>eqI q q) q,oP (fun _=>mvV q) q,oG q (fun _=>q) (bt c1) (fun _=>faP fa36_1 q) q,oG q (fun _=>q) (bt c1) (fun _=>ldP q sz29 ag29 q) q,oG q (fun _=>q) (bt c1) (fun _=>lnR (l:=a1.W) sl29 q) q,oG q (fun _=>q) (bt c1) (fun _=>gtI q q) q,oP (fun _=>pkTV q (bt c1) q) q,oP (fun _=>mvV q) q,oN q (fun _=>q) (df c2) q,oN q (fun _=>q) (df c2) q,oN q (fun _=>q) (df c2) q,oN q (fun _=>q) (df c2) q,oN q (fun _=>q) (df c2) q,oN q (fun _=>q) (df c2) q,oN q (fun _=>q) (df c2) q,oP (fun _=>pkFV q (df c2) q) q,oP (fun _=>asV q) q,trivial⟩) _ (by exact ⟨cB q (mAndT (bt c1) (mAndF (df c2))),trivial⟩) (by rfl)
  ·exact .drawM [(20,4,bo false),(19,24,bo false),(18,23,und),(17,22,und),(16,21,und),(15,20,und),(14,19,und),(13,18,und),(12,17,und),(11,16,bo false),(10,15,bo false),(9,14,und),(8,13,und),(7,12,und),(6,11,und),(5,10,bo (a0.P == a1.P)),(4,9,bo (a0.P == a1.P)),(3,8,i6 a1.P),(2,7,.ptr 1 1 2 0 0),(1,6,i6 a0.P),(0,5,.ptr 0 1 10 0 0)] [] GJ_A0 (by rfl) (by rfl) (by rfl) (by exact ⟨oP (fun _=>faP fa77_0 q) q,oP (fun _=>ldP q sz3 ag3 q) q,oP (fun _=>faP fa36_0 q) q,oP (fun _=>ldP q sz3 ag3 q) q,oP (fun _=>eqI q q) q,oP (fun _=>mvV q) q,oN q (fun _=>q) (bn c1) q,oN q (fun _=>q) (bn c1) q,oN q (fun _=>q) (bn c1) q,oN q (fun _=>q) (bn c1) q,oP (fun _=>pkFV q (bn c1) q) q,oP (fun _=>mvV q) q,oN q (fun _=>q) q q,oN q (fun _=>q) q q,oN q (fun _=>q) q q,oN q (fun _=>q) q q,oN q (fun _=>q) q q,oN q (fun _=>q) q q,oN q (fun _=>q) q q,oP (fun _=>pkFV q q q) q,oP (fun _=>asV q) q,trivial⟩) _ (by exact ⟨cB q (mAndF (bn c1)),trivial⟩) (by rfl)
 replace h:=h.symm
 subst h
 refine .kf [(4,bo ((a0.P == a1.P) && ((decide ((a1.W.length:Int) > 0)) && ((rdl a1.W 0) == a0.G))))] q q ?_
 exact .ret q
def r12_behind.f (a0:Int) (a1:List Int) (a2:List Int) (r:TConf):Prop :=
 ((Fits (0 + a1.length) 8))∧((Fits (a1.length + a2.length) 8))∧r=(TConf.mk a0 (a1 ++ a2))
theorem r12_behind.D {a0 a1 a2 r} (h:r12_behind.f a0 a1 a2 r):D Tryz.prog X (.callH 52 [.val (.int .i64 a0),.rows (a1.map (cInt .i64)),.rows (a2.map (cInt .i64))] [] (.agg (TConf.lit r)) []):=by
 unfold r12_behind.f at h
 refine .enter 14 0 fn52 q q q<|.seq<|.room 0<|.reg0 q (.o (alP (s:=2) ze36 ⟨q,by decide,q⟩ q)<|.nil0)<|.seq ?_
 obtain ⟨g2_3,h⟩:=h
 obtain ⟨g2_5,h⟩:=h
 refine .room 0<|.room 0<|.room 0<|.reg0 q (.o (mvV q)<|.op 1 q (bldL (s:=1) (cs:=[]) un29 sz3 ze3 ⟨by decide,q,by decide⟩ q q q q)<|.o (mvR q)<|.o (apL (l:=[]) a1 sl29 q q q (Nat.zero_le _) q g2_3)<|.o (mvR q)<|.o (apL (l:=a1) a2 sl29 q q q (Nat.zero_le _) q g2_5)<|.o (bldS (cs:=[i6 a0,.own 1 ((a1 ++ a2).length)]) ze36 pl36 q q)<|.o (stB (cs0:=[i6 0,nul]) (cs:=[i6 a0,.own 1 ((a1 ++ a2).length)]) (cs1:=[i6 a0,.own 1 ((a1 ++ a2).length)]) q q sz36 q ⟨Nat.le_of_ble_eq_true q,q⟩ q)<|.nil0) ?_
 replace h:=h.symm
 subst h
 refine .k [(6,.cptr [i6 a0,.rows ((a1 ++ a2).map (cInt .i64))] 0)] ⟨cFixP q q (.cons (.free q q)<|.cons (cFixO (l:=(a1 ++ a2)) sl29 q q q q)<|.nil),trivial⟩ ?_
 exact .ret q
def r12_By.f (a0:TRule) (a1:TConf) (r:TConf):Prop :=
 ((Cut 1 (a1.W.length:Int) a1.W.length))∧∃ t2_7:TConf,(r12_behind.f a0.Q a0.W (cutl a1.W 1 (a1.W.length:Int)) t2_7)∧r=t2_7
theorem r12_By.D {a0 a1 r} (h:r12_By.f a0 a1 r):D Tryz.prog X (.callH 60 [.agg (TRule.lit a0),.agg (TConf.lit a1)] [] (.agg (TConf.lit r)) []):=by
 unfold r12_By.f at h
 refine .enter 13 0 fn60 q q q<|.seq<|.room 0<|.room 0<|.room 0<|.reg0 q (.o (bxP (s:=10) (cs:=(TRule.lit a0)) q ⟨q,by decide,q⟩ q)<|.op 1 q (bxP (s:=2) (cs:=(TConf.lit a1)) q ⟨q,by decide,q⟩ q)<|.op 2 q (alP (s:=2) ze36 ⟨q,by decide,q⟩ q)<|.nil0)<|.seq ?_
 obtain ⟨g2_6,h⟩:=h
 obtain ⟨t2_7,g2_7,h⟩:=h
 refine .reg1 (e1:=listEnv [(4,.ptr 2 1 2 0 0)]) (H1:=[⟨10,[(TRule.lit a0)],0,none⟩,⟨2,[(TConf.lit a1)],0,none⟩,⟨2,[(TConf.lit t2_7)],0,none⟩]) q ?_ ?_
 ·exact .drawM [(7,12,.agg (TConf.lit t2_7)),(6,11,.rows ((cutl a1.W 1 (a1.W.length:Int)).map (cInt .i64))),(5,10,.rows (a1.W.map (cInt .i64))),(4,9,.ptr 1 1 2 0 1),(3,8,.rows (a0.W.map (cInt .i64))),(2,7,.ptr 0 1 10 0 3),(1,6,i6 a0.Q),(0,5,.ptr 0 1 10 0 2)] [(8,2,⟨2,[(TConf.lit t2_7)],0,none⟩)] [[],[0],[],[2],[],[4],[5,4],[1,0,3,2,6,5,4],[7,1,0,3,2,6,5,4]] (by rfl) (by rfl) (by rfl) (by exact ⟨oP (fun _=>faP fa77_2 q) q,oP (fun _=>ldP q sz3 ag3 q) q,oP (fun _=>faP fa77_3 q) q,oP (fun _=>ldP q sz29 ag29 q) q,oP (fun _=>faP fa36_1 q) q,oP (fun _=>ldP q sz29 ag29 q) q,oP (fun _=>slR (l:=a1.W) (v:=Int.toNat 1) sl29 q (bound_some q g2_6.1) bound_nl (cut_le' g2_6) (Nat.le_refl _)) q,fun S hS hD hn=>.oneI hS hD hn q q (callee_of q go52 q) (.pure q q (r12_behind.D g2_7)) q q q,fun S hS hD hn=>.one0 0 q q (stB (cs0:=[i6 0,nul]) (cs:=(TConf.lit t2_7)) (cs1:=(TConf.lit t2_7)) q q sz36 q ⟨Nat.le_of_ble_eq_true q,q⟩ q) (drawE_other _ _ _ _ q) q,trivial⟩) _ (by exact ⟨.ptr q,trivial⟩) (by rfl)
 replace h:=h.symm
 subst h
 refine .k [(4,.cptr (TConf.lit t2_7) 0)] ⟨cFixP q q (.cons (.free q q)<|.cons (.free q q)<|.nil),trivial⟩ ?_
 exact .ret q
def r12_long.f (a0:TConf) (r:Bool):Prop :=
 r=(decide ((a0.W.length:Int) > 4096))
theorem r12_long.D {a0 r} (h:r12_long.f a0 r):D Tryz.prog X (.callH 53 [.agg (TConf.lit a0)] [] (.val (.bool r)) []):=by
 unfold r12_long.f at h
 refine .enter 7 0 fn53 q q q<|.seq<|.room 0<|.reg0 q (.o (bxP (s:=2) (cs:=(TConf.lit a0)) q ⟨q,by decide,q⟩ q)<|.o (asV q)<|.nil0)<|.seq<|.reg0 q (.o (faP fa36_1 q)<|.o (ldP q sz29 ag29 q)<|.o (lnR (l:=a0.W) sl29 q)<|.o (gtI q q)<|.o (asV q)<|.nil0) ?_
 replace h:=h.symm
 subst h
 refine .kf [(2,bo (decide ((a0.W.length:Int) > 4096)))] q q ?_
 exact .ret q
def r12_Next.j1 (x8:Int):((List Int) × (List TConf))→(Rnd (((List Int) × (List TConf) × Int)) (((List Int) × (List TConf))) ((List Int) × (List TConf) × Int))→Prop:=fun (x15,x16) z1=>z1=.next (x15,x16,(IntKind.i64.wrap (x8 + 1)))
def r12_Next.b1 (a0:TPds) (a1:TConf):((List Int) × (List TConf) × Int)→Rnd (((List Int) × (List TConf) × Int)) (((List Int) × (List TConf))) ((List Int) × (List TConf) × Int)→Prop:=fun (x6,x7,x8) z1=>if x8 < (a0.Rules.length:Int) then (((InR x8 a0.Rules.length))∧∃ t38_6:Bool,(r12_Applies.f (rdl a0.Rules x8) a1 t38_6)∧if t38_6=true then (((InR x8 a0.Rules.length))∧∃ t39_6:TConf,(r12_By.f (rdl a0.Rules x8) a1 t39_6)∧∃ t40_1:Bool,(r12_long.f t39_6 t40_1)∧if t40_1=true then (z1=.ret ([],[],2)) else (((Fits (x6.length + 1) 8))∧((Fits (x7.length + 1) 32))∧r12_Next.j1 x8 ((x6 ++ [x8]),(x7 ++ [t39_6])) z1)) else (r12_Next.j1 x8 (x6,x7) z1)) else (z1=.exit (x6,x7))
def r12_Next.f (a0:TPds) (a1:TConf) (r:(List Int) × (List TConf) × Int):Prop :=
 ∃ t2_2:Int,(r12_Check.f a0 a1 t2_2)∧if t2_2=0 then (∃ o1:Fin (((List Int) × (List TConf))) ((List Int) × (List TConf) × Int),Loop (r12_Next.b1 a0 a1) ([],[],0) o1∧o1.on (fun (x12,x13)=>r=(x12,x13,0)) (fun r_=>r=r_)) else (r=([],[],t2_2))
theorem r12_Next.D {a0 a1 r} (h:r12_Next.f a0 a1 r):D Tryz.prog X (.callH 28 [.agg (TPds.lit a0),.agg (TConf.lit a1)] [] (.tuple [.rows (r.1.map (cInt .i64)),.rows (r.2.1.map TConf.cells),.val (.int .i64 r.2.2)]) []):=by
 unfold r12_Next.f at h
 refine .enter 52 0 fn28 q q q<|.seq<|.room 0<|.room 0<|.reg0 q (.o (bxP (s:=6) (cs:=(TPds.lit a0)) q ⟨q,by decide,q⟩ q)<|.op 1 q (bxP (s:=2) (cs:=(TConf.lit a1)) q ⟨q,by decide,q⟩ q)<|.o (asV q)<|.o (asV q)<|.o (asV q)<|.nil0)<|.seq ?_
 obtain ⟨t2_2,g2_2,h⟩:=h
 refine .reg0 q (.o (ldG q sz28 ag28 q)<|.o (ldG q sz36 ag36 q)<|.c q go17 q q q (r12_Check.D g2_2)<|.a q<|.nil0)<|.seq<|.seq<|.reg0 q (.o (mvV q)<|.o (neI q q)<|.nil0) ?_
 by_cases c1:t2_2=0
 ·rw [if_pos c1] at h
  refine .condF q (nf c1)<|.skip<|.seq<|.reg0 q (.o (asV q)<|.nil0)<|.seq<|.reg0 q (.o (asV q)<|.nil0)<|.seq<|.seq<|.reg0 q (.o (asV q)<|.nil0)<|.block<|.room 1<|.room 2<|.keepL [0,1,2,3] [(2,.ptr 0 1 6 0 0),(3,.ptr 1 1 2 0 0),(8,.own 2 0),(9,.own 3 0),(10,i6 0)] [⟨6,[(TPds.lit a0)],0,none⟩,⟨2,[(TConf.lit a1)],0,none⟩,⟨1,[].map (cInt .i64),0,none⟩,⟨2,[].map TConf.cells,0,none⟩] (by decide) (by decide) ⟨.ptr q,.ptr q,.nilOwn,.nilOwn,.free q q,trivial⟩ ⟨⟨_,q,bcBox (all2_free q)⟩,⟨_,q,bcBox (all2_free q)⟩,⟨_,q,(bcRow (l:=[]) sl29 (Nat.le_refl _) q)⟩,⟨_,q,(bcRow (l:=[]) sl71 (Nat.le_refl _) q)⟩,trivial⟩ ?_
  obtain ⟨o1,hL1,h⟩:=h
  refine .loopB (r12_Next.b1 a0 a1) (fun (x6,x7,x8)=>listEnv [(2,.ptr 0 1 6 0 0),(3,.ptr 1 1 2 0 0),(8,.own 2 x6.length),(9,.own 3 x7.length),(10,i6 x8)]) (fun (x6,x7,x8)=>[⟨6,[(TPds.lit a0)],0,none⟩,⟨2,[(TConf.lit a1)],0,none⟩,⟨1,x6.map (cInt .i64),0,none⟩,⟨2,x7.map TConf.cells,0,none⟩]) (fun (x12,x13)=>listEnv [(8,.own 0 x12.length),(9,.own 1 x13.length)]) (fun (x12,x13)=>[⟨1,x12.map (cInt .i64),0,none⟩,⟨2,x13.map TConf.cells,0,none⟩]) hL1 (fun r_=>r=r_) ?_ ?_ ?_
  ·rintro ⟨x12,x13⟩ rfl
   try dsimp only [Fin.on] at h
   refine .seq<|.reg0 q (.o (mvO q)<|.o (mvO q)<|.o (asO q)<|.o (asO q)<|.o (asV q)<|.nil0) ?_
   replace h:=h.symm
   subst h
   refine .k [(4,.rows (x12.map (cInt .i64))),(5,.rows (x13.map TConf.cells)),(6,i6 0)] ⟨cFixO (l:=x12) sl29 q q q q,cFixO (l:=x13) sl71 q q q q,.free q q,trivial⟩ ?_
   exact .ret q
  ·rintro r_ rfl
   exact h
  ·rintro ⟨x6,x7,x8⟩ z1 h hn1 hx1 hr1
   dsimp only [r12_Next.b1] at h
   refine .seq<|.seq<|.reg0 q (.o (mvV q)<|.o (faP fa28_3 q)<|.o (ldP q sz26 ag26 q)<|.o (lnR (l:=a0.Rules) sl26 q)<|.o (ltI q q)<|.nil0) ?_
   by_cases c12:x8 < (a0.Rules.length:Int)
   ·rw [if_pos c12] at h
    refine .condT q (dt c12)<|.skip<|.seq ?_
    refine .consJ (fun s_=>r12_Next.j1 x8 s_ z1) (fun (x15,x16)=>listEnv [(2,.ptr 0 1 6 0 0),(3,.ptr 1 1 2 0 0),(8,.own 2 x15.length),(9,.own 3 x16.length),(10,i6 x8)]) (fun (x15,x16)=>[⟨6,[(TPds.lit a0)],0,none⟩,⟨2,[(TConf.lit a1)],0,none⟩,⟨1,x15.map (cInt .i64),0,none⟩,⟨2,x16.map TConf.cells,0,none⟩]) ?_ fun hJ1=>?_
    ·rintro ⟨x15,x16⟩ h
     unfold r12_Next.j1 at h
     try dsimp only at h
     refine .reg0 q (.m q<|.o (addI q q)<|.a q<|.nil0)<|.keepL [0,1,2,3] [(2,.ptr 0 1 6 0 0),(3,.ptr 1 1 2 0 0),(8,.own 2 x15.length),(9,.own 3 x16.length),(10,i6 (IntKind.i64.wrap (x8 + 1)))] [⟨6,[(TPds.lit a0)],0,none⟩,⟨2,[(TConf.lit a1)],0,none⟩,⟨1,x15.map (cInt .i64),0,none⟩,⟨2,x16.map TConf.cells,0,none⟩] (by decide) (by decide) ⟨.ptr q,.ptr q,.own q,.own q,.free q q,trivial⟩ ⟨⟨_,q,bcBox (all2_free q)⟩,⟨_,q,bcBox (all2_free q)⟩,⟨_,q,bcRow (l:=x15) sl29 (Nat.le_refl _) q⟩,⟨_,q,bcRow (l:=x16) sl71 (Nat.le_refl _) q⟩,trivial⟩ ?_
     exact hn1 _ h
    ·refine .block<|.seq<|.seq ?_
     obtain ⟨g38_3,h⟩:=h
     obtain ⟨t38_6,g38_6,h⟩:=h
     refine .reg1 (e1:=listEnv [(2,.ptr 0 1 6 0 0),(3,.ptr 1 1 2 0 0),(8,.own 2 x6.length),(9,.own 3 x7.length),(10,i6 x8),(32,bo (!t38_6))]) (H1:=[⟨6,[(TPds.lit a0)],0,none⟩,⟨2,[(TConf.lit a1)],0,none⟩,⟨1,x6.map (cInt .i64),0,none⟩,⟨2,x7.map TConf.cells,0,none⟩]) q ?_ ?_
     ·exact .drawM [(7,32,bo (!t38_6)),(6,31,bo t38_6),(5,30,.agg (TConf.lit a1)),(4,29,.agg (TRule.lit (rdl a0.Rules x8))),(3,28,.cptr (TRule.lit (rdl a0.Rules x8)) 0),(2,27,i6 x8),(1,26,.rows (a0.Rules.map TRule.cells)),(0,25,.ptr 0 1 6 0 5)] [] [[],[0],[],[1,0,2],[3,1,0,2],[],[4,3,1,0,2,5],[6,4,3,1,0,2,5]] (by rfl) (by rfl) (by rfl) (by exact ⟨oP (fun _=>faP fa28_3 q) q,oP (fun _=>ldP q sz26 ag26 q) q,oP (fun _=>mvV q) q,oP (fun _=>ixR (l:=a0.Rules) (lit:=TRule.lit) sl26 q q (fun _=>q) g38_3.1 g38_3.2) q,oP (fun _=>ldCG q sz77 ag77 q) q,oP (fun _=>ldG q sz36 ag36 q) q,fun S hS hD hn=>.oneI hS hD hn q q (callee_of q go59 q) (.pure q q (r12_Applies.D g38_6)) q q q,oP (fun _=>notB q) q,trivial⟩) _ (by exact ⟨.ptr q,.ptr q,.own q,.own q,.free q q,.free q q,trivial⟩) (by rfl)
     by_cases c15:t38_6=true
     ·rw [if_pos c15] at h
      refine .condF q (bnotF c15)<|.skip<|.seq ?_
      obtain ⟨g39_3,h⟩:=h
      obtain ⟨t39_6,g39_6,h⟩:=h
      refine .room 0 ?_
      refine .reg1 (e1:=listEnv [(2,.ptr 0 1 6 0 0),(3,.ptr 1 1 2 0 0),(8,.own 2 x6.length),(9,.own 3 x7.length),(10,i6 x8),(11,.ptr 4 1 2 0 0)]) (H1:=[⟨6,[(TPds.lit a0)],0,none⟩,⟨2,[(TConf.lit a1)],0,none⟩,⟨1,x6.map (cInt .i64),0,none⟩,⟨2,x7.map TConf.cells,0,none⟩,⟨2,[(TConf.lit t39_6)],0,none⟩]) q ?_ ?_
      ·exact .drawM [(7,11,.ptr 4 1 2 0 0),(6,39,.agg (TConf.lit t39_6)),(5,38,.agg (TConf.lit a1)),(4,37,.agg (TRule.lit (rdl a0.Rules x8))),(3,36,.cptr (TRule.lit (rdl a0.Rules x8)) 0),(2,35,i6 x8),(1,34,.rows (a0.Rules.map TRule.cells)),(0,33,.ptr 0 1 6 0 5)] [(8,4,⟨2,[(TConf.lit t39_6)],0,none⟩),(7,4,⟨2,[[i6 0,nul]],0,none⟩)] [[],[0],[],[1,0,2],[3,1,0,2],[],[4,3,1,0,2,5],[],[7,6,4,3,1,0,2,5]] (by rfl) (by rfl) (by rfl) (by exact ⟨oP (fun _=>faP fa28_3 q) q,oP (fun _=>ldP q sz26 ag26 q) q,oP (fun _=>mvV q) q,oP (fun _=>ixR (l:=a0.Rules) (lit:=TRule.lit) sl26 q q (fun _=>q) g39_3.1 g39_3.2) q,oP (fun _=>ldCG q sz77 ag77 q) q,oP (fun _=>ldG q sz36 ag36 q) q,fun S hS hD hn=>.oneI hS hD hn q q (callee_of q go60 q) (.pure q q (r12_By.D g39_6)) q q q,oW 4 (fun _=>alP (s:=2) ze36 ⟨q,by decide,q⟩ q) q fun _=>q,fun S hS hD hn=>.one0 0 q q (stB (cs0:=[i6 0,nul]) (cs:=(TConf.lit t39_6)) (cs1:=(TConf.lit t39_6)) q q sz36 q ⟨Nat.le_of_ble_eq_true q,q⟩ q) (drawE_other _ _ _ _ q) q,trivial⟩) _ (by exact ⟨.ptr q,.ptr q,.own q,.own q,.free q q,.ptr q,trivial⟩) (by rfl)
      refine .seq<|.seq ?_
      obtain ⟨t40_1,g40_1,h⟩:=h
      refine .reg0 q (.o (ldG q sz36 ag36 q)<|.c q go53 q q q (r12_long.D g40_1)<|.nil0) ?_
      by_cases c16:t40_1=true
      ·rw [if_pos c16] at h
       refine .condT q c16<|.seq<|.reg0 q (.o (asV q)<|.o (asV q)<|.o (asV q)<|.nil0) ?_
       have q6:=hr1 _ h
       replace q6:=q6.symm
       subst q6
       refine .k [(4,.rows (([]:List Int).map (cInt .i64))),(5,.rows (([]:List TConf).map TConf.cells)),(6,i6 2)] ⟨.nil,.nil,.free q q,trivial⟩ ?_
       exact .ret q
      ·rw [if_neg c16] at h
       refine .condF q (nb c16)<|.skip ?_
       obtain ⟨g42_3,h⟩:=h
       obtain ⟨g42_7,h⟩:=h
       refine .room 0<|.room 0<|.room 0<|.room 0 ?_
       refine .reg1 (e1:=listEnv [(2,.ptr 0 1 6 0 0),(3,.ptr 1 1 2 0 0),(8,.own 2 ((x6 ++ [x8]).length)),(9,.own 3 ((x7 ++ [t39_6]).length)),(10,i6 x8)]) (H1:=[⟨6,[(TPds.lit a0)],0,none⟩,⟨2,[(TConf.lit a1)],0,none⟩,⟨1,(x6 ++ [x8]).map (cInt .i64),0,none⟩,⟨2,(x7 ++ [t39_6]).map TConf.cells,0,none⟩,⟨2,[(TConf.lit t39_6)],0,none⟩,⟨1,[x8].map (cInt .i64),0,none⟩,Blk.hole,⟨2,[t39_6].map TConf.cells,0,none⟩,Blk.hole]) q ?_ ?_
       ·exact .drawM [(9,9,.own 3 ((x7 ++ [t39_6]).length)),(8,8,.own 2 ((x6 ++ [x8]).length)),(7,49,.own 3 ((x7 ++ [t39_6]).length)),(6,48,.own 7 ([t39_6].length)),(5,47,.agg (TConf.lit t39_6)),(4,46,.own 3 x7.length),(3,45,.own 2 ((x6 ++ [x8]).length)),(2,44,.own 5 ([x8].length)),(1,43,i6 x8),(0,42,.own 2 x6.length)] [(7,3,⟨2,(x7 ++ [t39_6]).map TConf.cells,0,none⟩),(6,7,⟨2,[t39_6].map TConf.cells,0,none⟩),(3,2,⟨1,(x6 ++ [x8]).map (cInt .i64),0,none⟩),(2,5,⟨1,[x8].map (cInt .i64),0,none⟩)] [[],[],[1],[0,2,1],[],[],[5],[4,6,5,3,0,2,1],[3,0,2,1,7,4,6,5],[7,4,6,5,3,0,2,1,8]] (by rfl) (by rfl) (by rfl) (by exact ⟨oP (fun _=>mvO q) q,oP (fun _=>mvV q) q,oW 5 (fun _=>bldL (s:=1) (cs:=[i6 x8]) un29 sz3 ze3 ⟨by decide,q,by decide⟩ q q q q) q fun _=>q,oW 0 (fun _=>ap1 (l:=x6) x8 sl29 q q q (Nat.zero_le _) (elems_own (l:=[x8]) q q) g42_3) q fun _=>q,oP (fun _=>mvO q) q,oP (fun _=>ldG q sz36 ag36 q) q,oW 7 (fun _=>bldL (s:=2) (cs:=[i6 t39_6.P,.rows (t39_6.W.map (cInt .i64))]) un71 sz36 ze36 ⟨by decide,q,by decide⟩ q q q q) q fun _=>q,oW 0 (fun _=>ap1 (l:=x7) t39_6 sl71 q q q (Nat.zero_le _) (elems_own (l:=[t39_6]) q q) g42_7) q fun _=>q,oP (fun _=>asO q) q,oP (fun _=>asO q) q,trivial⟩) _ (by exact ⟨.ptr q,.ptr q,.own q,.own q,.free q q,trivial⟩) (by rfl)
       refine .inBlock<|.keepL [0,1,2,3] [(2,.ptr 0 1 6 0 0),(3,.ptr 1 1 2 0 0),(8,.own 2 ((x6 ++ [x8]).length)),(9,.own 3 ((x7 ++ [t39_6]).length)),(10,i6 x8)] [⟨6,[(TPds.lit a0)],0,none⟩,⟨2,[(TConf.lit a1)],0,none⟩,⟨1,(x6 ++ [x8]).map (cInt .i64),0,none⟩,⟨2,(x7 ++ [t39_6]).map TConf.cells,0,none⟩] (by decide) (by decide) ⟨.ptr q,.ptr q,.own q,.own q,.free q q,trivial⟩ ⟨⟨_,q,bcBox (all2_free q)⟩,⟨_,q,bcBox (all2_free q)⟩,⟨_,q,bcRow (l:=(x6 ++ [x8])) sl29 (Nat.le_refl _) q⟩,⟨_,q,bcRow (l:=(x7 ++ [t39_6])) sl71 (Nat.le_refl _) q⟩,trivial⟩ ?_
       exact hJ1 _ h
     ·rw [if_neg c15] at h
      refine .condT q (bnotT (nb c15))<|.exit q<|.keepL [0,1,2,3] [(2,.ptr 0 1 6 0 0),(3,.ptr 1 1 2 0 0),(8,.own 2 x6.length),(9,.own 3 x7.length),(10,i6 x8)] [⟨6,[(TPds.lit a0)],0,none⟩,⟨2,[(TConf.lit a1)],0,none⟩,⟨1,x6.map (cInt .i64),0,none⟩,⟨2,x7.map TConf.cells,0,none⟩] (by decide) (by decide) ⟨.ptr q,.ptr q,.own q,.own q,.free q q,trivial⟩ ⟨⟨_,q,bcBox (all2_free q)⟩,⟨_,q,bcBox (all2_free q)⟩,⟨_,q,bcRow (l:=x6) sl29 (Nat.le_refl _) q⟩,⟨_,q,bcRow (l:=x7) sl71 (Nat.le_refl _) q⟩,trivial⟩ ?_
      exact hJ1 _ h
   ·rw [if_neg c12] at h
    refine .condF q (df c12)<|.exit q<|.keepL [2,3] [(8,.own 0 x6.length),(9,.own 1 x7.length)] [⟨1,x6.map (cInt .i64),0,none⟩,⟨2,x7.map TConf.cells,0,none⟩] (by decide) (by decide) ⟨.own q,.own q,trivial⟩ ⟨⟨_,q,bcRow (l:=x6) sl29 (Nat.le_refl _) q⟩,⟨_,q,bcRow (l:=x7) sl71 (Nat.le_refl _) q⟩,trivial⟩ ?_
    exact hx1 _ h
 ·rw [if_neg c1] at h
  refine .condT q (nt c1)<|.seq<|.reg0 q (.o (mvV q)<|.o (asV q)<|.o (asV q)<|.o (asV q)<|.nil0) ?_
  replace h:=h.symm
  subst h
  refine .k [(4,.rows (([]:List Int).map (cInt .i64))),(5,.rows (([]:List TConf).map TConf.cells)),(6,i6 t2_2)] ⟨.nil,.nil,.free q q,trivial⟩ ?_
  exact .ret q
def r03_two.f (a0:Int) (a1:TFacts) (a2:TFacts) (r:Int):Prop :=
 ∃ t2_2:Int,(r03_Check.f a0 a1 t2_2)∧if t2_2=0 then (∃ t4_2:Int,(r03_Check.f a0 a2 t4_2)∧r=t4_2) else (r=t2_2)
theorem r03_two.D {a0 a1 a2 r} (h:r03_two.f a0 a1 a2 r):D Tryz.prog X (.callH 94 [.val (.int .i64 a0),.agg (TFacts.lit a1),.agg (TFacts.lit a2)] [] (.val (.int .i64 r)) []):=by
 unfold r03_two.f at h
 refine .enter 17 0 fn94 q q q<|.seq<|.room 0<|.room 0<|.reg0 q (.o (bxP (s:=2) (cs:=(TFacts.lit a1)) q ⟨q,by decide,q⟩ q)<|.op 1 q (bxP (s:=2) (cs:=(TFacts.lit a2)) q ⟨q,by decide,q⟩ q)<|.o (asV q)<|.nil0)<|.seq ?_
 obtain ⟨t2_2,g2_2,h⟩:=h
 refine .reg0 q (.m q<|.o (ldG q sz49 ag49 q)<|.c q go92 q q q (r03_Check.D g2_2)<|.a q<|.nil0)<|.seq<|.seq<|.reg0 q (.o (mvV q)<|.o (neI q q)<|.nil0) ?_
 by_cases c1:t2_2=0
 ·rw [if_pos c1] at h
  refine .condF q (nf c1)<|.skip<|.seq ?_
  obtain ⟨t4_2,g4_2,h⟩:=h
  refine .reg0 q (.m q<|.o (ldG q sz49 ag49 q)<|.c q go92 q q q (r03_Check.D g4_2)<|.a q<|.nil0) ?_
  replace h:=h.symm
  subst h
  refine .kf [(6,i6 t4_2)] q q ?_
  exact .ret q
 ·rw [if_neg c1] at h
  refine .condT q (nt c1)<|.seq<|.reg0 q (.o (mvV q)<|.o (asV q)<|.nil0) ?_
  replace h:=h.symm
  subst h
  refine .kf [(6,i6 t2_2)] q q ?_
  exact .ret q
def r01_Has.f (a0:Int) (a1:Int) (r:Bool):Prop :=
 ∃ t2_9:Int,((a1 ≥ 0)→(a1 < 64)→r01_Worth.f a1 t2_9)∧((a1 ≥ 0)→(a1 < 64)→((t2_9:Int) ≠ 0))∧r=((decide (a1 ≥ 0)) && ((decide (a1 < 64)) && ((Int.tmod (IntKind.u64.wrap (Int.tdiv a0 t2_9)) 2) == 1)))
theorem r01_Has.D {a0 a1 r} (h:r01_Has.f a0 a1 r):D Tryz.prog X (.callH 98 [.val (.int .u64 a0),.val (.int .i64 a1)] [] (.val (.bool r)) []):=by
 unfold r01_Has.f at h
 refine .enter 19 0 fn98 q q q<|.seq<|.reg0 q (.o (asV q)<|.nil0)<|.seq ?_
 obtain ⟨t2_9,g2_9,h⟩:=h
 obtain ⟨g2_10,h⟩:=h
 refine .reg0 (e1:=listEnv [(4,bo ((decide (a1 ≥ 0)) && ((decide (a1 < 64)) && ((Int.tmod (IntKind.u64.wrap (Int.tdiv a0 t2_9)) 2) == 1))))]) (H1:=[]) q ?_ ?_
 ·refine .m q<|.o (geI q q)<|.m q<|?_
  by_cases c1:a1 ≥ 0
  ·refine .g q (dt c1) (mvV q)<|.g q (dt c1) (ltI q q)<|.o (pkTV q (dt c1) q)<|.m q<|?_
   by_cases c2:a1 < 64
   ·exact (.g q (dt c2) (mvV q)<|.g q (dt c2) (mvV q)<|.callI (gT q q q (dt c2)) (callee_of q go74 q) (.pure q q (r01_Worth.D (g2_9 c1 c2)))<|.g q (dt c2) (quoI q q (g2_10 c1 c2))<|.g q (dt c2) (remI q q (by decide))<|.g q (dt c2) (eqI q q)<|.o (pkTV q (dt c2) q)<|.a q<|.nilL _ ⟨cB q (mAndT (dt c1) (mAndT (dt c2) q)),trivial⟩)
   ·exact (.n q (df c2)<|.n q (df c2)<|.n q (df c2)<|.n q (df c2)<|.n q (df c2)<|.n q (df c2)<|.o (pkFV q (df c2) q)<|.a q<|.nilL _ ⟨cB q (mAndT (dt c1) (mAndF (df c2))),trivial⟩)
  ·exact (.n q (df c1)<|.n q (df c1)<|.o (pkFV q (df c1) q)<|.m q<|.n q q<|.n q q<|.n q q<|.n q q<|.n q q<|.n q q<|.o (pkFV q q q)<|.a q<|.nilL _ ⟨cB q (mAndF (df c1)),trivial⟩)
 replace h:=h.symm
 subst h
 refine .kf [(4,bo ((decide (a1 ≥ 0)) && ((decide (a1 < 64)) && ((Int.tmod (IntKind.u64.wrap (Int.tdiv a0 t2_9)) 2) == 1))))] q q ?_
 exact .ret q
def r03_or.f (a0:Int) (a1:Int) (r:Int):Prop :=
 r=(bitOp .or .u64 a0 a1)
theorem r03_or.D {a0 a1 r} (h:r03_or.f a0 a1 r):D Tryz.prog X (.callH 95 [.val (.int .u64 a0),.val (.int .u64 a1)] [] (.val (.int .u64 r)) []):=by
 unfold r03_or.f at h
 refine .enter 8 0 fn95 q q q<|.seq<|.reg0 q (.o (asV q)<|.nil0)<|.seq<|.reg0 q (.o (mvV q)<|.o (mvV q)<|.o (orI q q)<|.o (asV q)<|.nil0) ?_
 replace h:=h.symm
 subst h
 refine .kf [(4,u6 (bitOp .or .u64 a0 a1))] q q ?_
 exact .ret q
def r03_made.j1 (x4:Int):Int→(Rnd ((Int × Int)) Int Int)→Prop:=fun x9 z1=>z1=.next (x9,(IntKind.i64.wrap (x4 + 1)))
def r03_made.b1 (a0:TFacts) (a1:Int):(Int × Int)→Rnd ((Int × Int)) Int Int→Prop:=fun (x3,x4) z1=>if x4 < (a0.Rows.length:Int) then (∃ t24_2:Bool,(r01_Has.f a1 x4 t24_2)∧if t24_2=true then (((InR x4 a0.Rows.length))∧∃ t27_6:Int,(r03_or.f x3 (rdl a0.Rows x4) t27_6)∧r03_made.j1 x4 t27_6 z1) else (r03_made.j1 x4 x3 z1)) else (z1=.exit x3)
def r03_made.f (a0:TFacts) (a1:Int) (r:Int):Prop :=
 ∃ o1:Fin Int Int,Loop (r03_made.b1 a0 a1) (a0.Gen,0) o1∧o1.on (fun x7=>r=x7) (fun r_=>r=r_)
theorem r03_made.D {a0 a1 r} (h:r03_made.f a0 a1 r):D Tryz.prog X (.callH 97 [.agg (TFacts.lit a0),.val (.int .u64 a1)] [] (.val (.int .u64 r)) []):=by
 unfold r03_made.f at h
 refine .enter 27 0 fn97 q q q<|.seq<|.room 0<|.reg0 q (.o (bxP (s:=2) (cs:=(TFacts.lit a0)) q ⟨q,by decide,q⟩ q)<|.o (asV q)<|.nil0)<|.seq<|.reg0 q (.o (faP fa49_0 q)<|.o (ldP q sz46 ag46 q)<|.o (asV q)<|.nil0)<|.seq<|.seq<|.reg0 q (.o (asV q)<|.nil0)<|.block<|.keepL [0] [(1,u6 a1),(2,.ptr 0 1 2 0 0),(5,u6 a0.Gen),(6,i6 0)] [⟨2,[(TFacts.lit a0)],0,none⟩] (by decide) (by decide) ⟨.free q q,.ptr q,.free q q,.free q q,trivial⟩ ⟨⟨_,q,bcBox (all2_free q)⟩,trivial⟩ ?_
 obtain ⟨o1,hL1,h⟩:=h
 refine .loopB (r03_made.b1 a0 a1) (fun (x3,x4)=>listEnv [(1,u6 a1),(2,.ptr 0 1 2 0 0),(5,u6 x3),(6,i6 x4)]) (fun (x3,x4)=>[⟨2,[(TFacts.lit a0)],0,none⟩]) (fun x7=>listEnv [(5,u6 x7)]) (fun x7=>[]) hL1 (fun r_=>r=r_) ?_ ?_ ?_
 ·rintro x7 rfl
  try dsimp only [Fin.on] at h
  refine .seq<|.reg0 q (.o (mvV q)<|.o (asV q)<|.nil0) ?_
  replace h:=h.symm
  subst h
  refine .kf [(4,u6 x7)] q q ?_
  exact .ret q
 ·rintro r_ rfl
  exact h
 ·rintro ⟨x3,x4⟩ z1 h hn1 hx1 hr1
  dsimp only [r03_made.b1] at h
  refine .seq<|.seq<|.reg0 q (.o (mvV q)<|.o (faP fa49_1 q)<|.o (ldP q sz47 ag47 q)<|.o (lnR (l:=a0.Rows) sl47 q)<|.o (ltI q q)<|.nil0) ?_
  by_cases c11:x4 < (a0.Rows.length:Int)
  ·rw [if_pos c11] at h
   refine .condT q (dt c11)<|.skip<|.seq<|.block<|.seq ?_
   obtain ⟨t24_2,g24_2,h⟩:=h
   refine .reg0 q (.m q<|.m q<|.c q go98 q q q (r01_Has.D g24_2)<|.nil0) ?_
   refine .consJ (fun s_=>r03_made.j1 x4 s_ z1) (fun x9=>listEnv [(1,u6 a1),(2,.ptr 0 1 2 0 0),(5,u6 x9),(6,i6 x4)]) (fun x9=>[⟨2,[(TFacts.lit a0)],0,none⟩]) ?_ fun hJ1=>?_
   ·rintro x9 h
    unfold r03_made.j1 at h
    try dsimp only at h
    refine .inBlock<|.reg0 q (.o (mvV q)<|.o (addI q q)<|.o (asV q)<|.nil0)<|.keepL [0] [(1,u6 a1),(2,.ptr 0 1 2 0 0),(5,u6 x9),(6,i6 (IntKind.i64.wrap (x4 + 1)))] [⟨2,[(TFacts.lit a0)],0,none⟩] (by decide) (by decide) ⟨.free q q,.ptr q,.free q q,.free q q,trivial⟩ ⟨⟨_,q,bcBox (all2_free q)⟩,trivial⟩ ?_
    exact hn1 _ h
   ·by_cases c15:t24_2=true
    ·rw [if_pos c15] at h
     refine .condT q c15 ?_
     obtain ⟨g27_4,h⟩:=h
     obtain ⟨t27_6,g27_6,h⟩:=h
     refine .reg0 q (.m q<|.o (faP fa49_1 q)<|.o (ldP q sz47 ag47 q)<|.m q<|.o (ixR (l:=a0.Rows) (lit:=(cInt .u64)) sl47 q q (fun _=>q) g27_4.1 g27_4.2)<|.o (ldC q sz46 ag46 q)<|.c q go95 q q q (r03_or.D g27_6)<|.a q<|.nil0)<|.keepL [0] [(1,u6 a1),(2,.ptr 0 1 2 0 0),(5,u6 t27_6),(6,i6 x4)] [⟨2,[(TFacts.lit a0)],0,none⟩] (by decide) (by decide) ⟨.free q q,.ptr q,.free q q,.free q q,trivial⟩ ⟨⟨_,q,bcBox (all2_free q)⟩,trivial⟩ ?_
     exact hJ1 _ h
    ·rw [if_neg c15] at h
     refine .condF q (nb c15)<|.skip<|.keepL [0] [(1,u6 a1),(2,.ptr 0 1 2 0 0),(5,u6 x3),(6,i6 x4)] [⟨2,[(TFacts.lit a0)],0,none⟩] (by decide) (by decide) ⟨.free q q,.ptr q,.free q q,.free q q,trivial⟩ ⟨⟨_,q,bcBox (all2_free q)⟩,trivial⟩ ?_
     exact hJ1 _ h
  ·rw [if_neg c11] at h
   refine .condF q (df c11)<|.exit q<|.keepL [] [(5,u6 x3)] [] (by decide) (by decide) ⟨.free q q,trivial⟩ trivial ?_
   exact hx1 _ h
def r03_Extend.b1 (a0:Int) (a1:TFacts) (a2:TFacts):((List Int) × Int)→Rnd (((List Int) × Int)) ((List Int)) (TFacts × Int)→Prop:=fun (x2,x3) z1=>if x3 < a0 then (((InR x3 a1.Rows.length))∧∃ t13_8:Int,(r03_made.f a2 (rdl a1.Rows x3) t13_8)∧((Fits (x2.length + 1) 8))∧z1=.next ((x2 ++ [t13_8]),(IntKind.i64.wrap (x3 + 1)))) else (z1=.exit x2)
def r03_Extend.f (a0:Int) (a1:TFacts) (a2:TFacts) (r:TFacts × Int):Prop :=
 ∃ t2_3:Int,(r03_two.f a0 a1 a2 t2_3)∧if t2_3=0 then (∃ t4_3:Int,(r03_made.f a2 a1.Gen t4_3)∧∃ o1:Fin ((List Int)) (TFacts × Int),Loop (r03_Extend.b1 a0 a1 a2) ([],0) o1∧o1.on (fun x4=>∃ t15_1:TFacts,(r03_canon.f (TFacts.mk t4_3 x4) t15_1)∧r=(t15_1,0)) (fun r_=>r=r_)) else (r=((TFacts.mk 0 []),t2_3))
theorem r03_Extend.D {a0 a1 a2 r} (h:r03_Extend.f a0 a1 a2 r):D Tryz.prog X (.callH 57 [.val (.int .i64 a0),.agg (TFacts.lit a1),.agg (TFacts.lit a2)] [] (.tuple [.agg (TFacts.lit r.1),.val (.int .i64 r.2)]) []):=by
 unfold r03_Extend.f at h
 refine .enter 43 0 fn57 q q q<|.seq<|.room 0<|.room 0<|.room 0<|.reg0 q (.o (bxP (s:=2) (cs:=(TFacts.lit a1)) q ⟨q,by decide,q⟩ q)<|.op 1 q (bxP (s:=2) (cs:=(TFacts.lit a2)) q ⟨q,by decide,q⟩ q)<|.op 2 q (alP (s:=2) ze49 ⟨q,by decide,q⟩ q)<|.o (asV q)<|.nil0)<|.seq ?_
 obtain ⟨t2_3,g2_3,h⟩:=h
 refine .reg0 q (.m q<|.o (ldG q sz49 ag49 q)<|.o (ldG q sz49 ag49 q)<|.c q go94 q q q (r03_two.D g2_3)<|.a q<|.nil0)<|.seq<|.seq<|.reg0 q (.o (mvV q)<|.o (neI q q)<|.nil0) ?_
 by_cases c1:t2_3=0
 ·rw [if_pos c1] at h
  refine .condF q (nf c1)<|.skip<|.seq ?_
  obtain ⟨t4_3,g4_3,h⟩:=h
  refine .room 0<|.reg0 q (.o (ldG q sz49 ag49 q)<|.o (faP fa49_0 q)<|.o (ldP q sz46 ag46 q)<|.callI q (callee_of q go97 q) (.pure q q (r03_made.D g4_3))<|.o (bldS (cs:=[u6 t4_3,nul]) ze49 pl49 q q)<|.op 3 q (alP (s:=2) ze49 ⟨q,by decide,q⟩ q)<|.o (stB (cs0:=[u6 0,nul]) (cs:=[u6 t4_3,nul]) (cs1:=[u6 t4_3,nul]) q q sz49 q ⟨Nat.le_of_ble_eq_true q,q⟩ q)<|.nil0) ?_
  refine .seq<|.seq<|.reg0 q (.o (asV q)<|.nil0)<|.block<|.room 1<|.keepL [0,1,2,3,4] [(0,i6 a0),(4,.ptr 0 1 2 0 0),(5,.ptr 1 1 2 0 0),(6,.ptr 2 1 2 0 0),(9,.ptr 3 1 2 0 0),(10,i6 0)] [⟨2,[(TFacts.lit a1)],0,none⟩,⟨2,[(TFacts.lit a2)],0,none⟩,⟨2,[[u6 0,nul]],0,none⟩,⟨2,[[u6 t4_3,.own 4 0]],0,none⟩,⟨1,[].map (cInt .u64),0,none⟩] (by decide) (by decide) ⟨.free q q,.ptr q,.ptr q,.ptr q,.ptr q,.free q q,trivial⟩ ⟨⟨_,q,bcBox (all2_free q)⟩,⟨_,q,bcBox (all2_free q)⟩,⟨_,q,bcBox (all2_free q)⟩,⟨_,q,bcBox (.cons (.free q q)<|.cons (.nilOwn)<|.nil)⟩,⟨_,q,(bcRow (l:=[]) sl47 (Nat.le_refl _) q)⟩,trivial⟩ ?_
  obtain ⟨o1,hL1,h⟩:=h
  refine .loopB (r03_Extend.b1 a0 a1 a2) (fun (x2,x3)=>listEnv [(0,i6 a0),(4,.ptr 0 1 2 0 0),(5,.ptr 1 1 2 0 0),(6,.ptr 2 1 2 0 0),(9,.ptr 3 1 2 0 0),(10,i6 x3)]) (fun (x2,x3)=>[⟨2,[(TFacts.lit a1)],0,none⟩,⟨2,[(TFacts.lit a2)],0,none⟩,⟨2,[[u6 0,nul]],0,none⟩,⟨2,[[u6 t4_3,.own 4 x2.length]],0,none⟩,⟨1,x2.map (cInt .u64),0,none⟩]) (fun x4=>listEnv [(6,.ptr 0 1 2 0 0),(9,.ptr 1 1 2 0 0)]) (fun x4=>[⟨2,[[u6 0,nul]],0,none⟩,⟨2,[[u6 t4_3,.own 2 x4.length]],0,none⟩,⟨1,x4.map (cInt .u64),0,none⟩]) hL1 (fun r_=>r=r_) ?_ ?_ ?_
  ·rintro x4 rfl
   try dsimp only [Fin.on] at h
   refine .seq ?_
   obtain ⟨t15_1,g15_1,h⟩:=h
   refine .reg0 q (.o (ldG q sz49 ag49 q)<|.callI q (callee_of q go96 q) (.lendC (args':=[.agg [u6 t4_3,.rows (x4.map (cInt .u64))]])  [2] true (.cons (cAgg (.cons (.free q q)<|.cons (cFixO (l:=x4) sl47 q q q q)<|.nil))<|.nil) (by decide) q q q q (r03_canon.D g15_1))<|.o (stB (cs0:=[u6 0,nul]) (cs:=(TFacts.lit t15_1)) (cs1:=(TFacts.lit t15_1)) q q sz49 q ⟨Nat.le_of_ble_eq_true q,q⟩ q)<|.a q<|.nil0) ?_
   replace h:=h.symm
   subst h
   refine .k [(6,.cptr (TFacts.lit t15_1) 0),(7,i6 0)] ⟨cFixP q q (.cons (.free q q)<|.cons (.free q q)<|.nil),.free q q,trivial⟩ ?_
   exact .ret q
  ·rintro r_ rfl
   exact h
  ·rintro ⟨x2,x3⟩ z1 h hn1 hx1 hr1
   dsimp only [r03_Extend.b1] at h
   refine .seq<|.seq<|.reg0 q (.o (mvV q)<|.o (mvV q)<|.o (ltI q q)<|.nil0) ?_
   by_cases c4:x3 < a0
   ·rw [if_pos c4] at h
    refine .condT q (dt c4)<|.skip<|.seq<|.block ?_
    obtain ⟨g13_6,h⟩:=h
    obtain ⟨t13_8,g13_8,h⟩:=h
    obtain ⟨g13_10,h⟩:=h
    refine .room 0<|.room 0 ?_
    refine .reg1 (e1:=listEnv [(0,i6 a0),(4,.ptr 0 1 2 0 0),(5,.ptr 1 1 2 0 0),(6,.ptr 2 1 2 0 0),(9,.ptr 3 1 2 0 0),(10,i6 x3)]) (H1:=[⟨2,[(TFacts.lit a1)],0,none⟩,⟨2,[(TFacts.lit a2)],0,none⟩,⟨2,[[u6 0,nul]],0,none⟩,⟨2,[[u6 t4_3,.own 4 ((x2 ++ [t13_8]).length)]],0,none⟩,⟨1,(x2 ++ [t13_8]).map (cInt .u64),0,none⟩,⟨1,[t13_8].map (cInt .u64),0,none⟩,Blk.hole]) q ?_ ?_
    ·exact .drawM [(11,40,.ptr 3 1 2 0 1),(10,39,.own 4 ((x2 ++ [t13_8]).length)),(9,38,.own 5 ([t13_8].length)),(8,37,u6 t13_8),(7,36,u6 (rdl a1.Rows x3)),(6,35,.cptr ((cInt .u64) (rdl a1.Rows x3)) 0),(5,34,i6 x3),(4,33,.rows (a1.Rows.map (cInt .u64))),(3,32,.ptr 0 1 2 0 1),(2,31,.agg (TFacts.lit a2)),(1,30,.own 4 x2.length),(0,29,.ptr 3 1 2 0 1)] [(12,3,⟨2,[[u6 t4_3,.own 4 ((x2 ++ [t13_8]).length)]],0,none⟩),(10,4,⟨1,(x2 ++ [t13_8]).map (cInt .u64),0,none⟩),(9,5,⟨1,[t13_8].map (cInt .u64),0,none⟩)] [[],[0],[],[],[3],[],[4,3,5],[6,4,3,5],[2,7,6,4,3,5],[8,2,7,6,4,3,5],[1,0,9,8,2,7,6,4,3,5],[0,1,2,3,4,5,6,7,8,9,10],[11,0,1,2,3,4,5,6,7,8,9,10]] (by rfl) (by rfl) (by rfl) (by exact ⟨oP (fun _=>faP fa49_1 q) q,oP (fun _=>ldP q sz47 ag47 q) q,oP (fun _=>ldG q sz49 ag49 q) q,oP (fun _=>faP fa49_1 q) q,oP (fun _=>ldP q sz47 ag47 q) q,oP (fun _=>mvV q) q,oP (fun _=>ixR (l:=a1.Rows) (lit:=(cInt .u64)) sl47 q q (fun _=>q) g13_6.1 g13_6.2) q,oP (fun _=>ldC q sz46 ag46 q) q,fun S hS hD hn=>.oneI hS hD hn q q (callee_of q go97 q) (.pure q q (r03_made.D g13_8)) q q q,oW 5 (fun _=>bldL (s:=1) (cs:=[u6 t13_8]) un47 sz46 ze46 ⟨by decide,q,by decide⟩ q q q q) q fun _=>q,oW 0 (fun _=>ap1 (l:=x2) t13_8 sl47 q q q (Nat.zero_le _) (elems_own (l:=[t13_8]) q q) g13_10) q fun _=>q,oP (fun _=>faP fa49_1 q) q,fun S hS hD hn=>.one0 0 q q (stB (cs0:=[u6 t4_3,.own 4 x2.length]) (cs:=[.own 4 ((x2 ++ [t13_8]).length)]) (cs1:=[u6 t4_3,.own 4 ((x2 ++ [t13_8]).length)]) q q sz47 q ⟨Nat.le_of_ble_eq_true q,q⟩ q) (drawE_other _ _ _ _ q) q,trivial⟩) _ (by exact ⟨.free q q,.ptr q,.ptr q,.ptr q,.ptr q,.free q q,trivial⟩) (by rfl)
    refine .inBlock<|.reg0 q (.o (mvV q)<|.o (addI q q)<|.o (asV q)<|.nil0)<|.keepL [0,1,2,3,4] [(0,i6 a0),(4,.ptr 0 1 2 0 0),(5,.ptr 1 1 2 0 0),(6,.ptr 2 1 2 0 0),(9,.ptr 3 1 2 0 0),(10,i6 (IntKind.i64.wrap (x3 + 1)))] [⟨2,[(TFacts.lit a1)],0,none⟩,⟨2,[(TFacts.lit a2)],0,none⟩,⟨2,[[u6 0,nul]],0,none⟩,⟨2,[[u6 t4_3,.own 4 ((x2 ++ [t13_8]).length)]],0,none⟩,⟨1,(x2 ++ [t13_8]).map (cInt .u64),0,none⟩] (by decide) (by decide) ⟨.free q q,.ptr q,.ptr q,.ptr q,.ptr q,.free q q,trivial⟩ ⟨⟨_,q,bcBox (all2_free q)⟩,⟨_,q,bcBox (all2_free q)⟩,⟨_,q,bcBox (all2_free q)⟩,⟨_,q,bcBox (.cons (.free q q)<|.cons (.own q)<|.nil)⟩,⟨_,q,bcRow (l:=(x2 ++ [t13_8])) sl47 (Nat.le_refl _) q⟩,trivial⟩ ?_
    exact hn1 _ h
   ·rw [if_neg c4] at h
    refine .condF q (df c4)<|.exit q<|.keepL [2,3,4] [(6,.ptr 0 1 2 0 0),(9,.ptr 1 1 2 0 0)] [⟨2,[[u6 0,nul]],0,none⟩,⟨2,[[u6 t4_3,.own 2 x2.length]],0,none⟩,⟨1,x2.map (cInt .u64),0,none⟩] (by decide) (by decide) ⟨.ptr q,.ptr q,trivial⟩ ⟨⟨_,q,bcBox (all2_free q)⟩,⟨_,q,bcBox (.cons (.free q q)<|.cons (.own q)<|.nil)⟩,⟨_,q,bcRow (l:=x2) sl47 (Nat.le_refl _) q⟩,trivial⟩ ?_
    exact hx1 _ h
 ·rw [if_neg c1] at h
  refine .condT q (nt c1)<|.seq<|.reg0 q (.o (bldS (cs:=[u6 0,nul]) ze49 pl49 q q)<|.o (mvV q)<|.o (stB (cs0:=[u6 0,nul]) (cs:=[u6 0,nul]) (cs1:=[u6 0,nul]) q q sz49 q ⟨Nat.le_of_ble_eq_true q,q⟩ q)<|.o (asV q)<|.nil0) ?_
  replace h:=h.symm
  subst h
  refine .k [(6,.cptr [u6 0,.rows (([]:List Int).map (cInt .u64))] 0),(7,i6 t2_3)] ⟨cFixP q q (.cons (.free q q)<|.cons (.nil)<|.nil),.free q q,trivial⟩ ?_
  exact .ret q
def r05_Joined.f (a0:TCell) (a1:TCell) (r:TCell):Prop :=
 if ((a0.Kind == 2) || (a1.Kind == 2))=true then (r=(TCell.mk 0 2 0)) else (if a0.Kind=0 then (r=(TCell.mk (bitOp .or .u64 a0.From a1.From) a1.Kind a1.K)) else (if ((a1.Kind == 1) && (a0.K != a1.K))=true then (r=(TCell.mk 0 2 0)) else (r=(TCell.mk (bitOp .or .u64 a0.From a1.From) a0.Kind a0.K))))
theorem r05_Joined.D {a0 a1 r} (h:r05_Joined.f a0 a1 r):D Tryz.prog X (.callH 56 [.agg (TCell.lit a0),.agg (TCell.lit a1)] [] (.agg (TCell.lit r)) []):=by
 unfold r05_Joined.f at h
 refine .enter 48 0 fn56 q q q<|.seq<|.room 0<|.room 0<|.room 0<|.reg0 q (.o (bxP (s:=3) (cs:=(TCell.lit a0)) q ⟨q,by decide,q⟩ q)<|.op 1 q (bxP (s:=3) (cs:=(TCell.lit a1)) q ⟨q,by decide,q⟩ q)<|.op 2 q (alP (s:=3) ze97 ⟨q,by decide,q⟩ q)<|.nil0)<|.seq<|.seq ?_
 refine .reg0 (e1:=listEnv [(2,.ptr 0 1 3 0 0),(3,.ptr 1 1 3 0 0),(4,.ptr 2 1 3 0 0),(13,bo ((a0.Kind == 2) || (a1.Kind == 2)))]) (H1:=[⟨3,[(TCell.lit a0)],0,none⟩,⟨3,[(TCell.lit a1)],0,none⟩,⟨3,[GJ_c2],0,none⟩]) q ?_ ?_
 ·refine .o (faP fa97_1 q)<|.o (ldP q sz95 ag95 q)<|.o (eqI q q)<|.m q<|?_
  by_cases c1:a0.Kind=2
  ·exact (.n q (bt c1)<|.n q (bt c1)<|.n q (bt c1)<|.o (pkTV q (bt c1) q)<|.nilL _ ⟨.ptr q,.ptr q,.ptr q,cB q (mOrT (bt c1)),trivial⟩)
  ·exact (.g q (bn c1) (faP fa97_1 q)<|.g q (bn c1) (ldP q sz95 ag95 q)<|.g q (bn c1) (eqI q q)<|.o (pkFV q (bn c1) q)<|.nilL _ ⟨.ptr q,.ptr q,.ptr q,cB q (mOrF (bn c1) q),trivial⟩)
 by_cases c2:((a0.Kind == 2) || (a1.Kind == 2))=true
 ·rw [if_pos c2] at h
  refine .condT q c2<|.seq<|.reg0 q (.o (bldS (cs:=GJ_c3) ze97 pl97 q q)<|.o (stB (cs0:=GJ_c2) (cs:=GJ_c3) (cs1:=GJ_c3) q q sz97 q ⟨Nat.le_of_ble_eq_true q,q⟩ q)<|.nil0) ?_
  replace h:=h.symm
  subst h
  refine .k [(4,.cptr GJ_c3 0)] ⟨cFixP q q (.cons (.free q q)<|.cons (.free q q)<|.cons (.free q q)<|.nil),trivial⟩ ?_
  exact .ret q
 ·rw [if_neg c2] at h
  refine .condF q (nb c2)<|.skip<|.seq<|.room 0<|.reg0 q (.o (faP fa97_0 q)<|.o (ldP q sz46 ag46 q)<|.o (faP fa97_0 q)<|.o (ldP q sz46 ag46 q)<|.o (orI q q)<|.o (faP fa97_1 q)<|.o (ldP q sz95 ag95 q)<|.o (faP fa97_2 q)<|.o (ldP q sz2 ag2 q)<|.o (bldS (cs:=[u6 (bitOp .or .u64 a0.From a1.From),i6 a0.Kind,i6 a0.K]) ze97 pl97 q q)<|.op 3 q (alP (s:=3) ze97 ⟨q,by decide,q⟩ q)<|.o (stB (cs0:=GJ_c2) (cs:=[u6 (bitOp .or .u64 a0.From a1.From),i6 a0.Kind,i6 a0.K]) (cs1:=[u6 (bitOp .or .u64 a0.From a1.From),i6 a0.Kind,i6 a0.K]) q q sz97 q ⟨Nat.le_of_ble_eq_true q,q⟩ q)<|.nil0) ?_
  refine .seq<|.block<|.seq<|.reg0 q (.o (faP fa97_1 q)<|.o (ldP q sz95 ag95 q)<|.o (eqI q q)<|.o (asV q)<|.nil0) ?_
  by_cases c3:a0.Kind=0
  ·rw [if_pos c3] at h
   refine .condT q (bt c3) ?_
   refine .reg1 (e1:=listEnv [(4,.ptr 2 1 3 0 0),(5,.ptr 3 1 3 0 0)]) (H1:=[⟨3,[(TCell.lit a0)],0,none⟩,⟨3,[(TCell.lit a1)],0,none⟩,⟨3,[GJ_c2],0,none⟩,⟨3,[[u6 (bitOp .or .u64 a0.From a1.From),i6 a1.Kind,i6 a1.K]],0,none⟩]) q ?_ ?_
   ·exact .drawM [(6,34,.ptr 3 1 3 0 2),(4,33,.ptr 3 1 3 0 1),(3,32,i6 a1.K),(2,31,.ptr 1 1 3 0 2),(1,30,i6 a1.Kind),(0,29,.ptr 1 1 3 0 1)] [(7,3,⟨3,[[u6 (bitOp .or .u64 a0.From a1.From),i6 a1.Kind,i6 a1.K]],0,none⟩),(5,3,⟨3,[[u6 (bitOp .or .u64 a0.From a1.From),i6 a1.Kind,i6 a0.K]],0,none⟩)] [[],[0],[],[2],[0,1],[4,0,1],[0,1,2,3,4,5],[6,0,1,2,3,4,5]] (by rfl) (by rfl) (by rfl) (by exact ⟨oP (fun _=>faP fa97_1 q) q,oP (fun _=>ldP q sz95 ag95 q) q,oP (fun _=>faP fa97_2 q) q,oP (fun _=>ldP q sz2 ag2 q) q,oP (fun _=>faP fa97_1 q) q,fun S hS hD hn=>.one0 0 q q (stB (cs0:=[u6 (bitOp .or .u64 a0.From a1.From),i6 a0.Kind,i6 a0.K]) (cs:=[i6 a1.Kind]) (cs1:=[u6 (bitOp .or .u64 a0.From a1.From),i6 a1.Kind,i6 a0.K]) q q sz95 q ⟨Nat.le_of_ble_eq_true q,q⟩ q) (drawE_other _ _ _ _ q) q,oP (fun _=>faP fa97_2 q) q,fun S hS hD hn=>.one0 0 q q (stB (cs0:=[u6 (bitOp .or .u64 a0.From a1.From),i6 a1.Kind,i6 a0.K]) (cs:=[i6 a1.K]) (cs1:=[u6 (bitOp .or .u64 a0.From a1.From),i6 a1.Kind,i6 a1.K]) q q sz2 q ⟨Nat.le_of_ble_eq_true q,q⟩ q) (drawE_other _ _ _ _ q) q,trivial⟩) _ (by exact ⟨.ptr q,.ptr q,trivial⟩) (by rfl)
   refine .inBlock<|.seq<|.reg0 q (.o (ldG q sz97 ag97 q)<|.o (stB (cs0:=GJ_c2) (cs:=[u6 (bitOp .or .u64 a0.From a1.From),i6 a1.Kind,i6 a1.K]) (cs1:=[u6 (bitOp .or .u64 a0.From a1.From),i6 a1.Kind,i6 a1.K]) q q sz97 q ⟨Nat.le_of_ble_eq_true q,q⟩ q)<|.nil0) ?_
   replace h:=h.symm
   subst h
   refine .k [(4,.cptr [u6 (bitOp .or .u64 a0.From a1.From),i6 a1.Kind,i6 a1.K] 0)] ⟨cFixP q q (.cons (.free q q)<|.cons (.free q q)<|.cons (.free q q)<|.nil),trivial⟩ ?_
   exact .ret q
  ·rw [if_neg c3] at h
   refine .condF q (bn c3)<|.seq ?_
   refine .reg0 (e1:=listEnv [(4,.ptr 2 1 3 0 0),(5,.ptr 3 1 3 0 0),(35,bo ((a1.Kind == 1) && (a0.K != a1.K)))]) (H1:=[⟨3,[(TCell.lit a0)],0,none⟩,⟨3,[(TCell.lit a1)],0,none⟩,⟨3,[GJ_c2],0,none⟩,⟨3,[[u6 (bitOp .or .u64 a0.From a1.From),i6 a0.Kind,i6 a0.K]],0,none⟩]) q ?_ ?_
   ·refine .o (faP fa97_1 q)<|.o (ldP q sz95 ag95 q)<|.o (eqI q q)<|.m q<|?_
    by_cases c4:a1.Kind=1
    ·exact (.g q (bt c4) (faP fa97_2 q)<|.g q (bt c4) (ldP q sz2 ag2 q)<|.g q (bt c4) (faP fa97_2 q)<|.g q (bt c4) (ldP q sz2 ag2 q)<|.g q (bt c4) (neI q q)<|.o (pkTV q (bt c4) q)<|.a q<|.nilL _ ⟨.ptr q,.ptr q,cB q (mAndT (bt c4) q),trivial⟩)
    ·exact (.n q (bn c4)<|.n q (bn c4)<|.n q (bn c4)<|.n q (bn c4)<|.n q (bn c4)<|.o (pkFV q (bn c4) q)<|.a q<|.nilL _ ⟨.ptr q,.ptr q,cB q (mAndF (bn c4)),trivial⟩)
   by_cases c5:((a1.Kind == 1) && (a0.K != a1.K))=true
   ·rw [if_pos c5] at h
    refine .condT q c5<|.seq<|.reg0 q (.o (bldS (cs:=GJ_c3) ze97 pl97 q q)<|.o (stB (cs0:=GJ_c2) (cs:=GJ_c3) (cs1:=GJ_c3) q q sz97 q ⟨Nat.le_of_ble_eq_true q,q⟩ q)<|.nil0) ?_
    replace h:=h.symm
    subst h
    refine .k [(4,.cptr GJ_c3 0)] ⟨cFixP q q (.cons (.free q q)<|.cons (.free q q)<|.cons (.free q q)<|.nil),trivial⟩ ?_
    exact .ret q
   ·rw [if_neg c5] at h
    refine .condF q (nb c5)<|.skip<|.inBlock<|.seq<|.reg0 q (.o (ldG q sz97 ag97 q)<|.o (stB (cs0:=GJ_c2) (cs:=[u6 (bitOp .or .u64 a0.From a1.From),i6 a0.Kind,i6 a0.K]) (cs1:=[u6 (bitOp .or .u64 a0.From a1.From),i6 a0.Kind,i6 a0.K]) q q sz97 q ⟨Nat.le_of_ble_eq_true q,q⟩ q)<|.nil0) ?_
    replace h:=h.symm
    subst h
    refine .k [(4,.cptr [u6 (bitOp .or .u64 a0.From a1.From),i6 a0.Kind,i6 a0.K] 0)] ⟨cFixP q q (.cons (.free q q)<|.cons (.free q q)<|.cons (.free q q)<|.nil),trivial⟩ ?_
    exact .ret q
def r05_behind.j1 (x10:Int):(Int × Int × Int)→(Rnd ((Int × Int × Int × Int)) ((Int × Int × Int)) TCell)→Prop:=fun (x23,x24,x25) z1=>z1=.next (x23,x24,x25,(IntKind.i64.wrap (x10 + 1)))
def r05_behind.b1 (a0:List TCell) (a1:TCell):(Int × Int × Int × Int)→Rnd ((Int × Int × Int × Int)) ((Int × Int × Int)) TCell→Prop:=fun (x7,x8,x9,x10) z1=>if x10 < (a0.length:Int) then (∃ t24_3:Bool,(r01_Has.f a1.From x10 t24_3)∧if t24_3=true then (((InR x10 a0.length))∧∃ t27_5:TCell,(r05_Joined.f (TCell.mk x7 x8 x9) (rdl a0 x10) t27_5)∧r05_behind.j1 x10 (t27_5.From,t27_5.Kind,t27_5.K) z1) else (r05_behind.j1 x10 (x7,x8,x9) z1)) else (z1=.exit (x7,x8,x9))
def r05_behind.f (a0:List TCell) (a1:TCell) (r:TCell):Prop :=
 ∃ o1:Fin ((Int × Int × Int)) TCell,Loop (r05_behind.b1 a0 a1) (0,a1.Kind,a1.K,0) o1∧o1.on (fun (x17,x18,x19)=>r=(TCell.mk x17 x18 x19)) (fun r_=>r=r_)
theorem r05_behind.D {a0 a1 r} (h:r05_behind.f a0 a1 r):D Tryz.prog X (.callH 58 [.rows (a0.map TCell.cells),.agg (TCell.lit a1)] [] (.agg (TCell.lit r)) []):=by
 unfold r05_behind.f at h
 refine .enter 29 0 fn58 q q q<|.seq<|.room 0<|.room 0<|.reg0 q (.o (bxP (s:=3) (cs:=(TCell.lit a1)) q ⟨q,by decide,q⟩ q)<|.op 1 q (alP (s:=3) ze97 ⟨q,by decide,q⟩ q)<|.nil0)<|.seq<|.room 0<|.reg0 q (.o (faP fa97_1 q)<|.o (ldP q sz95 ag95 q)<|.o (faP fa97_2 q)<|.o (ldP q sz2 ag2 q)<|.o (bldS (cs:=[u6 0,i6 a1.Kind,i6 a1.K]) ze97 pl97 q q)<|.op 2 q (alP (s:=3) ze97 ⟨q,by decide,q⟩ q)<|.o (stB (cs0:=GJ_c2) (cs:=[u6 0,i6 a1.Kind,i6 a1.K]) (cs1:=[u6 0,i6 a1.Kind,i6 a1.K]) q q sz97 q ⟨Nat.le_of_ble_eq_true q,q⟩ q)<|.nil0) ?_
 refine .seq<|.seq<|.reg0 q (.o (asV q)<|.nil0)<|.block<|.keepL [0,1,2] [(0,.rows (a0.map TCell.cells)),(3,.ptr 0 1 3 0 0),(4,.ptr 1 1 3 0 0),(5,.ptr 2 1 3 0 0),(6,i6 0)] [⟨3,[(TCell.lit a1)],0,none⟩,⟨3,[GJ_c2],0,none⟩,⟨3,[[u6 0,i6 a1.Kind,i6 a1.K]],0,none⟩] (by decide) (by decide) ⟨.free q q,.ptr q,.ptr q,.ptr q,.free q q,trivial⟩ ⟨⟨_,q,bcBox (all2_free q)⟩,⟨_,q,bcBox (all2_free q)⟩,⟨_,q,bcBox (all2_free q)⟩,trivial⟩ ?_
 obtain ⟨o1,hL1,h⟩:=h
 refine .loopB (r05_behind.b1 a0 a1) (fun (x7,x8,x9,x10)=>listEnv [(0,.rows (a0.map TCell.cells)),(3,.ptr 0 1 3 0 0),(4,.ptr 1 1 3 0 0),(5,.ptr 2 1 3 0 0),(6,i6 x10)]) (fun (x7,x8,x9,x10)=>[⟨3,[(TCell.lit a1)],0,none⟩,⟨3,[GJ_c2],0,none⟩,⟨3,[[u6 x7,i6 x8,i6 x9]],0,none⟩]) (fun (x17,x18,x19)=>listEnv [(4,.ptr 0 1 3 0 0),(5,.ptr 1 1 3 0 0)]) (fun (x17,x18,x19)=>[⟨3,[GJ_c2],0,none⟩,⟨3,[[u6 x17,i6 x18,i6 x19]],0,none⟩]) hL1 (fun r_=>r=r_) ?_ ?_ ?_
 ·rintro ⟨x17,x18,x19⟩ rfl
  try dsimp only [Fin.on] at h
  refine .seq<|.reg0 q (.o (ldG q sz97 ag97 q)<|.o (stB (cs0:=GJ_c2) (cs:=[u6 x17,i6 x18,i6 x19]) (cs1:=[u6 x17,i6 x18,i6 x19]) q q sz97 q ⟨Nat.le_of_ble_eq_true q,q⟩ q)<|.nil0) ?_
  replace h:=h.symm
  subst h
  refine .k [(4,.cptr [u6 x17,i6 x18,i6 x19] 0)] ⟨cFixP q q (.cons (.free q q)<|.cons (.free q q)<|.cons (.free q q)<|.nil),trivial⟩ ?_
  exact .ret q
 ·rintro r_ rfl
  exact h
 ·rintro ⟨x7,x8,x9,x10⟩ z1 h hn1 hx1 hr1
  dsimp only [r05_behind.b1] at h
  refine .seq<|.seq<|.reg0 q (.o (mvV q)<|.o (mvR q)<|.o (lnR (l:=a0) sl50 q)<|.o (ltI q q)<|.nil0) ?_
  by_cases c11:x10 < (a0.length:Int)
  ·rw [if_pos c11] at h
   refine .condT q (dt c11)<|.skip<|.seq<|.block<|.seq ?_
   obtain ⟨t24_3,g24_3,h⟩:=h
   refine .reg0 q (.o (faP fa97_0 q)<|.o (ldP q sz46 ag46 q)<|.m q<|.c q go98 q q q (r01_Has.D g24_3)<|.nil0) ?_
   refine .consJ (fun s_=>r05_behind.j1 x10 s_ z1) (fun (x23,x24,x25)=>listEnv [(0,.rows (a0.map TCell.cells)),(3,.ptr 0 1 3 0 0),(4,.ptr 1 1 3 0 0),(5,.ptr 2 1 3 0 0),(6,i6 x10)]) (fun (x23,x24,x25)=>[⟨3,[(TCell.lit a1)],0,none⟩,⟨3,[GJ_c2],0,none⟩,⟨3,[[u6 x23,i6 x24,i6 x25]],0,none⟩]) ?_ fun hJ1=>?_
   ·rintro ⟨x23,x24,x25⟩ h
    unfold r05_behind.j1 at h
    try dsimp only at h
    refine .inBlock<|.reg0 q (.o (mvV q)<|.o (addI q q)<|.o (asV q)<|.nil0)<|.keepL [0,1,2] [(0,.rows (a0.map TCell.cells)),(3,.ptr 0 1 3 0 0),(4,.ptr 1 1 3 0 0),(5,.ptr 2 1 3 0 0),(6,i6 (IntKind.i64.wrap (x10 + 1)))] [⟨3,[(TCell.lit a1)],0,none⟩,⟨3,[GJ_c2],0,none⟩,⟨3,[[u6 x23,i6 x24,i6 x25]],0,none⟩] (by decide) (by decide) ⟨.free q q,.ptr q,.ptr q,.ptr q,.free q q,trivial⟩ ⟨⟨_,q,bcBox (all2_free q)⟩,⟨_,q,bcBox (all2_free q)⟩,⟨_,q,bcBox (all2_free q)⟩,trivial⟩ ?_
    exact hn1 _ h
   ·by_cases c15:t24_3=true
    ·rw [if_pos c15] at h
     refine .condT q c15 ?_
     obtain ⟨g27_3,h⟩:=h
     obtain ⟨t27_5,g27_5,h⟩:=h
     refine .reg1 (e1:=listEnv [(0,.rows (a0.map TCell.cells)),(3,.ptr 0 1 3 0 0),(4,.ptr 1 1 3 0 0),(5,.ptr 2 1 3 0 0),(6,i6 x10)]) (H1:=[⟨3,[(TCell.lit a1)],0,none⟩,⟨3,[GJ_c2],0,none⟩,⟨3,[(TCell.lit t27_5)],0,none⟩]) q ?_ ?_
     ·exact .drawM [(5,27,.agg (TCell.lit t27_5)),(4,26,.agg (TCell.lit (rdl a0 x10))),(3,25,.cptr (TCell.lit (rdl a0 x10)) 0),(2,24,i6 x10),(1,23,.rows (a0.map TCell.cells)),(0,22,.agg [u6 x7,i6 x8,i6 x9])] [(6,2,⟨3,[(TCell.lit t27_5)],0,none⟩)] [[],[],[],[1,2],[3,1,2],[0,4,3,1,2],[5,0,4,3,1,2]] (by rfl) (by rfl) (by rfl) (by exact ⟨oP (fun _=>ldG q sz97 ag97 q) q,oP (fun _=>mvR q) q,oP (fun _=>mvV q) q,oP (fun _=>ixR (l:=a0) (lit:=TCell.lit) sl50 q q (fun _=>q) g27_3.1 g27_3.2) q,oP (fun _=>ldCG q sz97 ag97 q) q,fun S hS hD hn=>.oneI hS hD hn q q (callee_of q go56 q) (.pure q q (r05_Joined.D g27_5)) q q q,fun S hS hD hn=>.one0 0 q q (stB (cs0:=[u6 x7,i6 x8,i6 x9]) (cs:=(TCell.lit t27_5)) (cs1:=(TCell.lit t27_5)) q q sz97 q ⟨Nat.le_of_ble_eq_true q,q⟩ q) (drawE_other _ _ _ _ q) q,trivial⟩) _ (by exact ⟨.free q q,.ptr q,.ptr q,.ptr q,.free q q,trivial⟩) (by rfl)
     refine .keepL [0,1,2] [(0,.rows (a0.map TCell.cells)),(3,.ptr 0 1 3 0 0),(4,.ptr 1 1 3 0 0),(5,.ptr 2 1 3 0 0),(6,i6 x10)] [⟨3,[(TCell.lit a1)],0,none⟩,⟨3,[GJ_c2],0,none⟩,⟨3,[(TCell.lit t27_5)],0,none⟩] (by decide) (by decide) ⟨.free q q,.ptr q,.ptr q,.ptr q,.free q q,trivial⟩ ⟨⟨_,q,bcBox (all2_free q)⟩,⟨_,q,bcBox (all2_free q)⟩,⟨_,q,bcBox (all2_free q)⟩,trivial⟩ ?_
     exact hJ1 _ h
    ·rw [if_neg c15] at h
     refine .condF q (nb c15)<|.skip<|.keepL [0,1,2] [(0,.rows (a0.map TCell.cells)),(3,.ptr 0 1 3 0 0),(4,.ptr 1 1 3 0 0),(5,.ptr 2 1 3 0 0),(6,i6 x10)] [⟨3,[(TCell.lit a1)],0,none⟩,⟨3,[GJ_c2],0,none⟩,⟨3,[[u6 x7,i6 x8,i6 x9]],0,none⟩] (by decide) (by decide) ⟨.free q q,.ptr q,.ptr q,.ptr q,.free q q,trivial⟩ ⟨⟨_,q,bcBox (all2_free q)⟩,⟨_,q,bcBox (all2_free q)⟩,⟨_,q,bcBox (all2_free q)⟩,trivial⟩ ?_
     exact hJ1 _ h
  ·rw [if_neg c11] at h
   refine .condF q (df c11)<|.exit q<|.keepL [1,2] [(4,.ptr 0 1 3 0 0),(5,.ptr 1 1 3 0 0)] [⟨3,[GJ_c2],0,none⟩,⟨3,[[u6 x7,i6 x8,i6 x9]],0,none⟩] (by decide) (by decide) ⟨.ptr q,.ptr q,trivial⟩ ⟨⟨_,q,bcBox (all2_free q)⟩,⟨_,q,bcBox (all2_free q)⟩,trivial⟩ ?_
   exact hx1 _ h
end Go.RM.Tryz
