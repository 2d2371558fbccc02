/- GK, for the statement LimitRuns: what it needs, no more. -/
import Derived.Test.YtckndmicdndamaaGreatDoorZLimitRunsGJ
set_option linter.unusedVariables false
set_option maxRecDepth 8000
set_option maxHeartbeats 4000000
namespace Go.RM.Tryz
open Go.RM Go.Proofs
def r05_Then.b1 (a0:TSpace) (a1:TWeight) (a2:TWeight):((List TCell) × Int)→Rnd (((List TCell) × Int)) ((List TCell)) TWeight→Prop:=fun (x2,x3) z1=>if x3 < a0.Dim then (((InR x3 a2.Cells.length))∧∃ t21_9:TCell,(r05_behind.f a1.Cells (rdl a2.Cells x3) t21_9)∧((Fits (x2.length + 1) 24))∧z1=.next ((x2 ++ [t21_9]),(IntKind.i64.wrap (x3 + 1)))) else (z1=.exit x2)
def r05_Then.step (self27:TSpace→TWeight→TWeight→TWeight→Prop) (a0:TSpace) (a1:TWeight) (a2:TWeight) (r:TWeight):Prop :=
 if (a1.Zero || a2.Zero)=true then (r=(TWeight.mk true 0 (TFacts.mk 0 []) [] [])) else (if a0.Tag=2 then (r=(TWeight.mk false (if a0.Dim < (IntKind.i64.wrap (a1.Cost + a2.Cost)) then a0.Dim else (IntKind.i64.wrap (a1.Cost + a2.Cost))) (TFacts.mk 0 []) [] [])) else (if a0.Tag=3 then (∃ t10_6:TFacts × Int,(r03_Extend.f a0.Dim a1.Facts a2.Facts t10_6)∧r=(TWeight.mk false 0 t10_6.1 [] [])) else (if a0.Tag=4 then (∃ o1:Fin ((List TCell)) TWeight,Loop (r05_Then.b1 a0 a1 a2) ([],0) o1∧o1.on (fun x4=>r=(TWeight.mk false 0 (TFacts.mk 0 []) x4 [])) (fun r_=>r=r_)) else (if a0.Tag=5 then (((InR 0 a0.Parts.length))∧((InR 0 a1.Parts.length))∧((InR 0 a2.Parts.length))∧∃ t25_12:TWeight,(self27 (rdl a0.Parts 0) (rdl a1.Parts 0) (rdl a2.Parts 0) t25_12)∧((InR 1 a0.Parts.length))∧((InR 1 a1.Parts.length))∧((InR 1 a2.Parts.length))∧∃ t25_25:TWeight,(self27 (rdl a0.Parts 1) (rdl a1.Parts 1) (rdl a2.Parts 1) t25_25)∧r=(TWeight.mk false 0 (TFacts.mk 0 []) [] [t25_12,t25_25])) else (r=(TWeight.mk false 0 (TFacts.mk 0 []) [] []))))))
abbrev GK_c0:List PV:=[bo false,i6 0,u6 0,nul,nul,nul]
abbrev GK_c1:List PV:=[bo true,i6 0,u6 0,nul,nul,nul]
abbrev GK_c2:List PV:=[bo true,i6 0,u6 0,.rows (([]:List Int).map (cInt .u64)),.rows (([]:List TCell).map TCell.cells),.rows (([]:List TWeight).map TWeight.cells)]
abbrev GK_c3:List PV:=[bo false,i6 0,u6 0,.rows (([]:List Int).map (cInt .u64)),.rows (([]:List TCell).map TCell.cells),.rows (([]:List TWeight).map TWeight.cells)]
theorem r05_Then.stepD {self27:TSpace→TWeight→TWeight→TWeight→Prop} {a0:TSpace} {a1:TWeight} {a2:TWeight} (hs27:∀ z0_ z1_ z2_ r_,self27 z0_ z1_ z2_ r_→D Tryz.prog X (.callH 27 [.agg (TSpace.lit z0_),.agg (TWeight.lit z1_),.agg (TWeight.lit z2_)] [] (.agg (TWeight.lit r_)) [])) {r:TWeight} (h:r05_Then.step self27 a0 a1 a2 r):D Tryz.prog X (.callH 27 [.agg (TSpace.lit a0),.agg (TWeight.lit a1),.agg (TWeight.lit a2)] [] (.agg (TWeight.lit r)) []):=by
 unfold r05_Then.step at h
 refine .enter 95 0 fn27 q q q<|.seq<|.room 0<|.room 0<|.room 0<|.room 0<|.reg0 q (.o (bxP (s:=3) (cs:=(TSpace.lit a0)) q ⟨q,by decide,q⟩ q)<|.op 1 q (bxP (s:=6) (cs:=(TWeight.lit a1)) q ⟨q,by decide,q⟩ q)<|.op 2 q (bxP (s:=6) (cs:=(TWeight.lit a2)) q ⟨q,by decide,q⟩ q)<|.op 3 q (alP (s:=6) ze53 ⟨q,by decide,q⟩ q)<|.nil0) ?_
 refine .seq<|.seq ?_
 refine .reg0 (e1:=listEnv [(3,.ptr 0 1 3 0 0),(4,.ptr 1 1 6 0 0),(5,.ptr 2 1 6 0 0),(6,.ptr 3 1 6 0 0),(14,bo (a1.Zero || a2.Zero))]) (H1:=[⟨3,[(TSpace.lit a0)],0,none⟩,⟨6,[(TWeight.lit a1)],0,none⟩,⟨6,[(TWeight.lit a2)],0,none⟩,⟨6,[GK_c0],0,none⟩]) q ?_ ?_
 ·refine .o (faP fa53_0 q)<|.o (ldP q sz4 ag4 q)<|.m q<|?_
  by_cases c1:a1.Zero=true
  ·exact (.n q c1<|.n q c1<|.o (pkTV q c1 q)<|.nilL _ ⟨.ptr q,.ptr q,.ptr q,.ptr q,cB q (mOrT c1),trivial⟩)
  ·exact (.g q (nb c1) (faP fa53_0 q)<|.g q (nb c1) (ldP q sz4 ag4 q)<|.o (pkFV q (nb c1) q)<|.nilL _ ⟨.ptr q,.ptr q,.ptr q,.ptr q,cB q (mOrF (nb c1) q),trivial⟩)
 by_cases c2:(a1.Zero || a2.Zero)=true
 ·rw [if_pos c2] at h
  refine .condT q c2<|.seq<|.reg0 q (.o (bldS (cs:=GK_c1) ze53 pl53 q q)<|.o (stB (cs0:=GK_c0) (cs:=GK_c1) (cs1:=GK_c1) q q sz53 q ⟨Nat.le_of_ble_eq_true q,q⟩ q)<|.nil0) ?_
  replace h:=h.symm
  subst h
  refine .k [(6,.cptr GK_c2 0)] ⟨cFixP q q (.cons (.free q q)<|.cons (.free q q)<|.cons (.free q q)<|.cons (.nil)<|.cons (.nil)<|.cons (.nil)<|.nil),trivial⟩ ?_
  exact .ret q
 ·rw [if_neg c2] at h
  refine .condF q (nb c2)<|.skip<|.seq<|.room 0<|.reg0 q (.o (bldS (cs:=GK_c0) ze53 pl53 q q)<|.op 4 q (alP (s:=6) ze53 ⟨q,by decide,q⟩ q)<|.o (stB (cs0:=GK_c0) (cs:=GK_c0) (cs1:=GK_c0) q q sz53 q ⟨Nat.le_of_ble_eq_true q,q⟩ q)<|.nil0)<|.seq<|.seq<|.reg0 q (.o (faP fa25_0 q)<|.o (ldP q sz22 ag22 q)<|.nil0) ?_
  refine .block<|.seq<|.reg0 q (.o (eqI q q)<|.o (asV q)<|.nil0) ?_
  by_cases c3:a0.Tag=2
  ·rw [if_pos c3] at h
   refine .condT q (bt c3)<|.reg0 q (.o (faP fa53_1 q)<|.o (ldP q sz3 ag3 q)<|.o (faP fa53_1 q)<|.o (ldP q sz3 ag3 q)<|.o (addI q q)<|.o (faP fa25_1 q)<|.o (ldP q sz3 ag3 q)<|.o (minI q q)<|.o (faP fa53_1 q)<|.o (stB (cs0:=GK_c0) (cs:=[i6 (if a0.Dim < (IntKind.i64.wrap (a1.Cost + a2.Cost)) then a0.Dim else (IntKind.i64.wrap (a1.Cost + a2.Cost)))]) (cs1:=[bo false,i6 (if a0.Dim < (IntKind.i64.wrap (a1.Cost + a2.Cost)) then a0.Dim else (IntKind.i64.wrap (a1.Cost + a2.Cost))),u6 0,nul,nul,nul]) q q sz3 q ⟨Nat.le_of_ble_eq_true q,q⟩ q)<|.nil0) ?_
   refine .inBlock<|.seq<|.reg0 q (.o (ldG q sz53 ag53 q)<|.o (stB (cs0:=GK_c0) (cs:=[bo false,i6 (if a0.Dim < (IntKind.i64.wrap (a1.Cost + a2.Cost)) then a0.Dim else (IntKind.i64.wrap (a1.Cost + a2.Cost))),u6 0,nul,nul,nul]) (cs1:=[bo false,i6 (if a0.Dim < (IntKind.i64.wrap (a1.Cost + a2.Cost)) then a0.Dim else (IntKind.i64.wrap (a1.Cost + a2.Cost))),u6 0,nul,nul,nul]) q q sz53 q ⟨Nat.le_of_ble_eq_true q,q⟩ q)<|.nil0) ?_
   replace h:=h.symm
   subst h
   refine .k [(6,.cptr [bo false,i6 (if a0.Dim < (IntKind.i64.wrap (a1.Cost + a2.Cost)) then a0.Dim else (IntKind.i64.wrap (a1.Cost + a2.Cost))),u6 0,.rows (([]:List Int).map (cInt .u64)),.rows (([]:List TCell).map TCell.cells),.rows (([]:List TWeight).map TWeight.cells)] 0)] ⟨cFixP q q (.cons (.free q q)<|.cons (.free q q)<|.cons (.free q q)<|.cons (.nil)<|.cons (.nil)<|.cons (.nil)<|.nil),trivial⟩ ?_
   exact .ret q
  ·rw [if_neg c3] at h
   refine .condF q (bn c3)<|.seq<|.reg0 q (.o (eqI q q)<|.o (asV q)<|.nil0) ?_
   by_cases c4:a0.Tag=3
   ·rw [if_pos c4] at h
    refine .condT q (bt c4) ?_
    obtain ⟨t10_6,g10_6,h⟩:=h
    refine .reg0 q (.o (faP fa25_1 q)<|.o (ldP q sz3 ag3 q)<|.o (faP fa53_2 q)<|.o (ldG q sz49 ag49 q)<|.o (faP fa53_2 q)<|.o (ldG q sz49 ag49 q)<|.c q go57 q q q (r03_Extend.D g10_6)<|.o (mvT q)<|.o (exT q q)<|.o (exT q q)<|.o (faP fa53_2 q)<|.o (stB (cs0:=GK_c0) (cs:=(TFacts.lit t10_6.1)) (cs1:=[bo false,i6 0,u6 t10_6.1.Gen,.rows (t10_6.1.Rows.map (cInt .u64)),nul,nul]) q q sz49 q ⟨Nat.le_of_ble_eq_true q,q⟩ q)<|.nil0) ?_
    refine .inBlock<|.seq<|.reg0 q (.o (ldG q sz53 ag53 q)<|.o (stB (cs0:=GK_c0) (cs:=[bo false,i6 0,u6 t10_6.1.Gen,.rows (t10_6.1.Rows.map (cInt .u64)),nul,nul]) (cs1:=[bo false,i6 0,u6 t10_6.1.Gen,.rows (t10_6.1.Rows.map (cInt .u64)),nul,nul]) q q sz53 q ⟨Nat.le_of_ble_eq_true q,q⟩ q)<|.nil0) ?_
    replace h:=h.symm
    subst h
    refine .k [(6,.cptr [bo false,i6 0,u6 t10_6.1.Gen,.rows (t10_6.1.Rows.map (cInt .u64)),.rows (([]:List TCell).map TCell.cells),.rows (([]:List TWeight).map TWeight.cells)] 0)] ⟨cFixP q q (.cons (.free q q)<|.cons (.free q q)<|.cons (.free q q)<|.cons (.free q q)<|.cons (.nil)<|.cons (.nil)<|.nil),trivial⟩ ?_
    exact .ret q
   ·rw [if_neg c4] at h
    refine .condF q (bn c4)<|.seq<|.reg0 q (.o (eqI q q)<|.o (asV q)<|.nil0) ?_
    by_cases c5:a0.Tag=4
    ·rw [if_pos c5] at h
     refine .condT q (bt c5)<|.seq<|.reg0 q (.o (asV q)<|.nil0)<|.block<|.room 3<|.keepL [0,1,2,3,4,5] [(3,.ptr 0 1 3 0 0),(4,.ptr 1 1 6 0 0),(5,.ptr 2 1 6 0 0),(6,.ptr 3 1 6 0 0),(7,.ptr 4 1 6 0 0),(8,i6 0)] [⟨3,[(TSpace.lit a0)],0,none⟩,⟨6,[(TWeight.lit a1)],0,none⟩,⟨6,[(TWeight.lit a2)],0,none⟩,⟨6,[GK_c0],0,none⟩,⟨6,[[bo false,i6 0,u6 0,nul,.own 5 0,nul]],0,none⟩,⟨3,[].map TCell.cells,0,none⟩] (by decide) (by decide) ⟨.ptr q,.ptr q,.ptr q,.ptr q,.ptr q,.free q q,trivial⟩ ⟨⟨_,q,bcBox (all2_free q)⟩,⟨_,q,bcBox (all2_free q)⟩,⟨_,q,bcBox (all2_free q)⟩,⟨_,q,bcBox (all2_free q)⟩,⟨_,q,bcBox (.cons (.free q q)<|.cons (.free q q)<|.cons (.free q q)<|.cons (.free q q)<|.cons (.nilOwn)<|.cons (.free q q)<|.nil)⟩,⟨_,q,(bcRow (l:=[]) sl50 (Nat.le_refl _) q)⟩,trivial⟩ ?_
     obtain ⟨o1,hL1,h⟩:=h
     refine .loopB (r05_Then.b1 a0 a1 a2) (fun (x2,x3)=>listEnv [(3,.ptr 0 1 3 0 0),(4,.ptr 1 1 6 0 0),(5,.ptr 2 1 6 0 0),(6,.ptr 3 1 6 0 0),(7,.ptr 4 1 6 0 0),(8,i6 x3)]) (fun (x2,x3)=>[⟨3,[(TSpace.lit a0)],0,none⟩,⟨6,[(TWeight.lit a1)],0,none⟩,⟨6,[(TWeight.lit a2)],0,none⟩,⟨6,[GK_c0],0,none⟩,⟨6,[[bo false,i6 0,u6 0,nul,.own 5 x2.length,nul]],0,none⟩,⟨3,x2.map TCell.cells,0,none⟩]) (fun x4=>listEnv [(6,.ptr 0 1 6 0 0),(7,.ptr 1 1 6 0 0)]) (fun x4=>[⟨6,[GK_c0],0,none⟩,⟨6,[[bo false,i6 0,u6 0,nul,.own 2 x4.length,nul]],0,none⟩,⟨3,x4.map TCell.cells,0,none⟩]) hL1 (fun r_=>r=r_) ?_ ?_ ?_
     ·rintro x4 rfl
      try dsimp only [Fin.on] at h
      refine .inBlock<|.seq<|.reg0 q (.o (ldG q sz53 ag53 q)<|.o (stB (cs0:=GK_c0) (cs:=[bo false,i6 0,u6 0,nul,.own 2 x4.length,nul]) (cs1:=[bo false,i6 0,u6 0,nul,.own 2 x4.length,nul]) q q sz53 q ⟨Nat.le_of_ble_eq_true q,q⟩ q)<|.nil0) ?_
      replace h:=h.symm
      subst h
      refine .k [(6,.cptr [bo false,i6 0,u6 0,.rows (([]:List Int).map (cInt .u64)),.rows (x4.map TCell.cells),.rows (([]:List TWeight).map TWeight.cells)] 0)] ⟨cFixP q q (.cons (.free q q)<|.cons (.free q q)<|.cons (.free q q)<|.cons (.nil)<|.cons (cFixO (l:=x4) sl50 q q q q)<|.cons (.nil)<|.nil),trivial⟩ ?_
      exact .ret q
     ·rintro r_ rfl
      exact h
     ·rintro ⟨x2,x3⟩ z1 h hn1 hx1 hr1
      dsimp only [r05_Then.b1] at h
      refine .seq<|.seq<|.reg0 q (.o (mvV q)<|.o (faP fa25_1 q)<|.o (ldP q sz3 ag3 q)<|.o (ltI q q)<|.nil0) ?_
      by_cases c8:x3 < a0.Dim
      ·rw [if_pos c8] at h
       refine .condT q (dt c8)<|.skip<|.seq<|.block ?_
       obtain ⟨g21_7,h⟩:=h
       obtain ⟨t21_9,g21_9,h⟩:=h
       obtain ⟨g21_11,h⟩:=h
       refine .room 0<|.room 0 ?_
       refine .reg1 (e1:=listEnv [(3,.ptr 0 1 3 0 0),(4,.ptr 1 1 6 0 0),(5,.ptr 2 1 6 0 0),(6,.ptr 3 1 6 0 0),(7,.ptr 4 1 6 0 0),(8,i6 x3)]) (H1:=[⟨3,[(TSpace.lit a0)],0,none⟩,⟨6,[(TWeight.lit a1)],0,none⟩,⟨6,[(TWeight.lit a2)],0,none⟩,⟨6,[GK_c0],0,none⟩,⟨6,[[bo false,i6 0,u6 0,nul,.own 5 ((x2 ++ [t21_9]).length),nul]],0,none⟩,⟨3,(x2 ++ [t21_9]).map TCell.cells,0,none⟩,⟨3,[t21_9].map TCell.cells,0,none⟩,Blk.hole]) q ?_ ?_
       ·exact .drawM [(12,63,.ptr 4 1 6 0 4),(11,62,.own 5 ((x2 ++ [t21_9]).length)),(10,61,.own 6 ([t21_9].length)),(9,60,.agg (TCell.lit t21_9)),(8,59,.agg (TCell.lit (rdl a2.Cells x3))),(7,58,.cptr (TCell.lit (rdl a2.Cells x3)) 0),(6,57,i6 x3),(5,56,.rows (a2.Cells.map TCell.cells)),(4,55,.ptr 2 1 6 0 4),(3,54,.rows (a1.Cells.map TCell.cells)),(2,53,.ptr 1 1 6 0 4),(1,52,.own 5 x2.length),(0,51,.ptr 4 1 6 0 4)] [(13,4,⟨6,[[bo false,i6 0,u6 0,nul,.own 5 ((x2 ++ [t21_9]).length),nul]],0,none⟩),(11,5,⟨3,(x2 ++ [t21_9]).map TCell.cells,0,none⟩),(10,6,⟨3,[t21_9].map TCell.cells,0,none⟩)] [[],[0],[],[2],[],[4],[],[5,4,6],[7,5,4,6],[3,2,8,7,5,4,6],[9,3,2,8,7,5,4,6],[1,0,10,9,3,2,8,7,5,4,6],[0,1,2,3,4,5,6,7,8,9,10,11],[12,0,1,2,3,4,5,6,7,8,9,10,11]] (by rfl) (by rfl) (by rfl) (by exact ⟨oP (fun _=>faP fa53_3 q) q,oP (fun _=>ldP q sz50 ag50 q) q,oP (fun _=>faP fa53_3 q) q,oP (fun _=>ldP q sz50 ag50 q) q,oP (fun _=>faP fa53_3 q) q,oP (fun _=>ldP q sz50 ag50 q) q,oP (fun _=>mvV q) q,oP (fun _=>ixR (l:=a2.Cells) (lit:=TCell.lit) sl50 q q (fun _=>q) g21_7.1 g21_7.2) q,oP (fun _=>ldCG q sz97 ag97 q) q,fun S hS hD hn=>.oneI hS hD hn q q (callee_of q go58 q) (.pure q q (r05_behind.D g21_9)) q q q,oW 6 (fun _=>bldL (s:=3) (cs:=[u6 t21_9.From,i6 t21_9.Kind,i6 t21_9.K]) un50 sz97 ze97 ⟨by decide,q,by decide⟩ q q q q) q fun _=>q,oW 0 (fun _=>ap1 (l:=x2) t21_9 sl50 q q q (Nat.zero_le _) (elems_own (l:=[t21_9]) q q) g21_11) q fun _=>q,oP (fun _=>faP fa53_3 q) q,fun S hS hD hn=>.one0 0 q q (stB (cs0:=[bo false,i6 0,u6 0,nul,.own 5 x2.length,nul]) (cs:=[.own 5 ((x2 ++ [t21_9]).length)]) (cs1:=[bo false,i6 0,u6 0,nul,.own 5 ((x2 ++ [t21_9]).length),nul]) q q sz50 q ⟨Nat.le_of_ble_eq_true q,q⟩ q) (drawE_other _ _ _ _ q) q,trivial⟩) _ (by exact ⟨.ptr q,.ptr q,.ptr q,.ptr q,.ptr q,.free q q,trivial⟩) (by rfl)
       refine .inBlock<|.reg0 q (.o (mvV q)<|.o (addI q q)<|.o (asV q)<|.nil0)<|.keepL [0,1,2,3,4,5] [(3,.ptr 0 1 3 0 0),(4,.ptr 1 1 6 0 0),(5,.ptr 2 1 6 0 0),(6,.ptr 3 1 6 0 0),(7,.ptr 4 1 6 0 0),(8,i6 (IntKind.i64.wrap (x3 + 1)))] [⟨3,[(TSpace.lit a0)],0,none⟩,⟨6,[(TWeight.lit a1)],0,none⟩,⟨6,[(TWeight.lit a2)],0,none⟩,⟨6,[GK_c0],0,none⟩,⟨6,[[bo false,i6 0,u6 0,nul,.own 5 ((x2 ++ [t21_9]).length),nul]],0,none⟩,⟨3,(x2 ++ [t21_9]).map TCell.cells,0,none⟩] (by decide) (by decide) ⟨.ptr q,.ptr q,.ptr q,.ptr q,.ptr q,.free q q,trivial⟩ ⟨⟨_,q,bcBox (all2_free q)⟩,⟨_,q,bcBox (all2_free q)⟩,⟨_,q,bcBox (all2_free q)⟩,⟨_,q,bcBox (all2_free q)⟩,⟨_,q,bcBox (.cons (.free q q)<|.cons (.free q q)<|.cons (.free q q)<|.cons (.free q q)<|.cons (.own q)<|.cons (.free q q)<|.nil)⟩,⟨_,q,bcRow (l:=(x2 ++ [t21_9])) sl50 (Nat.le_refl _) q⟩,trivial⟩ ?_
       exact hn1 _ h
      ·rw [if_neg c8] at h
       refine .condF q (df c8)<|.exit q<|.keepL [3,4,5] [(6,.ptr 0 1 6 0 0),(7,.ptr 1 1 6 0 0)] [⟨6,[GK_c0],0,none⟩,⟨6,[[bo false,i6 0,u6 0,nul,.own 2 x2.length,nul]],0,none⟩,⟨3,x2.map TCell.cells,0,none⟩] (by decide) (by decide) ⟨.ptr q,.ptr q,trivial⟩ ⟨⟨_,q,bcBox (all2_free q)⟩,⟨_,q,bcBox (.cons (.free q q)<|.cons (.free q q)<|.cons (.free q q)<|.cons (.free q q)<|.cons (.own q)<|.cons (.free q q)<|.nil)⟩,⟨_,q,bcRow (l:=x2) sl50 (Nat.le_refl _) q⟩,trivial⟩ ?_
       exact hx1 _ h
    ·rw [if_neg c5] at h
     refine .condF q (bn c5)<|.seq<|.reg0 q (.o (eqI q q)<|.o (asV q)<|.nil0) ?_
     by_cases c9:a0.Tag=5
     ·rw [if_pos c9] at h
      refine .condT q (bt c9) ?_
      obtain ⟨g25_2,h⟩:=h
      obtain ⟨g25_6,h⟩:=h
      obtain ⟨g25_10,h⟩:=h
      obtain ⟨t25_12,g25_12,h⟩:=h
      obtain ⟨g25_15,h⟩:=h
      obtain ⟨g25_19,h⟩:=h
      obtain ⟨g25_23,h⟩:=h
      obtain ⟨t25_25,g25_25,h⟩:=h
      refine .room 0 ?_
      refine .reg1 (e1:=listEnv [(6,.ptr 3 1 6 0 0),(7,.ptr 4 1 6 0 0)]) (H1:=[⟨3,[(TSpace.lit a0)],0,none⟩,⟨6,[(TWeight.lit a1)],0,none⟩,⟨6,[(TWeight.lit a2)],0,none⟩,⟨6,[GK_c0],0,none⟩,⟨6,[[bo false,i6 0,u6 0,nul,nul,.own 5 ([t25_12,t25_25].length)]],0,none⟩,⟨6,[t25_12,t25_25].map TWeight.cells,0,none⟩]) q ?_ ?_
      ·exact .drawM [(27,93,.ptr 4 1 6 0 5),(26,92,.own 5 ([t25_12,t25_25].length)),(25,91,.agg (TWeight.lit t25_25)),(24,90,.agg (TWeight.lit (rdl a2.Parts 1))),(23,89,.cptr (TWeight.lit (rdl a2.Parts 1)) 0),(22,88,.rows (a2.Parts.map TWeight.cells)),(21,87,.ptr 2 1 6 0 5),(20,86,.agg (TWeight.lit (rdl a1.Parts 1))),(19,85,.cptr (TWeight.lit (rdl a1.Parts 1)) 0),(18,84,.rows (a1.Parts.map TWeight.cells)),(17,83,.ptr 1 1 6 0 5),(16,82,.agg (TSpace.lit (rdl a0.Parts 1))),(15,81,.cptr (TSpace.lit (rdl a0.Parts 1)) 0),(14,80,.rows (a0.Parts.map TSpace.cells)),(13,79,.ptr 0 1 3 0 2),(12,78,.agg (TWeight.lit t25_12)),(11,77,.agg (TWeight.lit (rdl a2.Parts 0))),(10,76,.cptr (TWeight.lit (rdl a2.Parts 0)) 0),(9,75,.rows (a2.Parts.map TWeight.cells)),(8,74,.ptr 2 1 6 0 5),(7,73,.agg (TWeight.lit (rdl a1.Parts 0))),(6,72,.cptr (TWeight.lit (rdl a1.Parts 0)) 0),(5,71,.rows (a1.Parts.map TWeight.cells)),(4,70,.ptr 1 1 6 0 5),(3,69,.agg (TSpace.lit (rdl a0.Parts 0))),(2,68,.cptr (TSpace.lit (rdl a0.Parts 0)) 0),(1,67,.rows (a0.Parts.map TSpace.cells)),(0,66,.ptr 0 1 3 0 2)] [(28,4,⟨6,[[bo false,i6 0,u6 0,nul,nul,.own 5 ([t25_12,t25_25].length)]],0,none⟩),(26,5,⟨6,[t25_12,t25_25].map TWeight.cells,0,none⟩)] [[],[0],[1,0],[2,1,0],[],[4],[5,4],[6,5,4],[],[8],[9,8],[10,9,8],[3,2,1,0,7,6,5,4,11,10,9,8],[],[13],[14,13],[15,14,13],[],[17],[18,17],[19,18,17],[],[21],[22,21],[23,22,21],[16,15,14,13,20,19,18,17,24,23,22,21,12,3,2,1,0,7,6,5,4,11,10,9,8],[12,3,2,1,0,7,6,5,4,11,10,9,8,25,16,15,14,13,20,19,18,17,24,23,22,21],[0,1,2,3,4,5,6,7,8,9,10,11,12,13,14,15,16,17,18,19,20,21,22,23,24,25,26],[27,0,1,2,3,4,5,6,7,8,9,10,11,12,13,14,15,16,17,18,19,20,21,22,23,24,25,26]] (by rfl) (by rfl) (by rfl) (by exact ⟨oP (fun _=>faP fa25_2 q) q,oP (fun _=>ldP q sz23 ag23 q) q,oP (fun _=>ixR (l:=a0.Parts) (lit:=TSpace.lit) sl23 q q TSpace.cells_lit g25_2.1 g25_2.2) q,oP (fun _=>ldCG q sz25 ag25 q) q,oP (fun _=>faP fa53_4 q) q,oP (fun _=>ldP q sz51 ag51 q) q,oP (fun _=>ixR (l:=a1.Parts) (lit:=TWeight.lit) sl51 q q TWeight.cells_lit g25_6.1 g25_6.2) q,oP (fun _=>ldCG q sz53 ag53 q) q,oP (fun _=>faP fa53_4 q) q,oP (fun _=>ldP q sz51 ag51 q) q,oP (fun _=>ixR (l:=a2.Parts) (lit:=TWeight.lit) sl51 q q TWeight.cells_lit g25_10.1 g25_10.2) q,oP (fun _=>ldCG q sz53 ag53 q) q,fun S hS hD hn=>.oneI hS hD hn q q (callee_of q go27 q) (.pure q q (hs27 _ _ _ _ g25_12)) q q q,oP (fun _=>faP fa25_2 q) q,oP (fun _=>ldP q sz23 ag23 q) q,oP (fun _=>ixR (l:=a0.Parts) (lit:=TSpace.lit) sl23 q q TSpace.cells_lit g25_15.1 g25_15.2) q,oP (fun _=>ldCG q sz25 ag25 q) q,oP (fun _=>faP fa53_4 q) q,oP (fun _=>ldP q sz51 ag51 q) q,oP (fun _=>ixR (l:=a1.Parts) (lit:=TWeight.lit) sl51 q q TWeight.cells_lit g25_19.1 g25_19.2) q,oP (fun _=>ldCG q sz53 ag53 q) q,oP (fun _=>faP fa53_4 q) q,oP (fun _=>ldP q sz51 ag51 q) q,oP (fun _=>ixR (l:=a2.Parts) (lit:=TWeight.lit) sl51 q q TWeight.cells_lit g25_23.1 g25_23.2) q,oP (fun _=>ldCG q sz53 ag53 q) q,fun S hS hD hn=>.oneI hS hD hn q q (callee_of q go27 q) (.pure q q (hs27 _ _ _ _ g25_25)) q q q,oW 5 (fun _=>bldT (s:=6) (cs:=[bo t25_12.Zero,i6 t25_12.Cost,u6 t25_12.Facts.Gen,.rows (t25_12.Facts.Rows.map (cInt .u64)),.rows (t25_12.Cells.map TCell.cells),.rows (t25_12.Parts.map TWeight.cells),bo t25_25.Zero,i6 t25_25.Cost,u6 t25_25.Facts.Gen,.rows (t25_25.Facts.Rows.map (cInt .u64)),.rows (t25_25.Cells.map TCell.cells),.rows (t25_25.Parts.map TWeight.cells)]) (cf:=TWeight.cells) [t25_12,t25_25] un51 sz53 ze53 ⟨by decide,q,by decide⟩ q q q (by simp only [List.map,TWeight.cells_lit]; rfl) q) q fun _=>q,oP (fun _=>faP fa53_4 q) q,fun S hS hD hn=>.one0 0 q q (stB (cs0:=GK_c0) (cs:=[.own 5 ([t25_12,t25_25].length)]) (cs1:=[bo false,i6 0,u6 0,nul,nul,.own 5 ([t25_12,t25_25].length)]) q q sz51 q ⟨Nat.le_of_ble_eq_true q,q⟩ q) (drawE_other _ _ _ _ q) q,trivial⟩) _ (by exact ⟨.ptr q,.ptr q,trivial⟩) (by rfl)
      refine .inBlock<|.seq<|.reg0 q (.o (ldG q sz53 ag53 q)<|.o (stB (cs0:=GK_c0) (cs:=[bo false,i6 0,u6 0,nul,nul,.own 5 ([t25_12,t25_25].length)]) (cs1:=[bo false,i6 0,u6 0,nul,nul,.own 5 ([t25_12,t25_25].length)]) q q sz53 q ⟨Nat.le_of_ble_eq_true q,q⟩ q)<|.nil0) ?_
      replace h:=h.symm
      subst h
      refine .k [(6,.cptr [bo false,i6 0,u6 0,.rows (([]:List Int).map (cInt .u64)),.rows (([]:List TCell).map TCell.cells),.rows ([t25_12,t25_25].map TWeight.cells)] 0)] ⟨cFixP q q (.cons (.free q q)<|.cons (.free q q)<|.cons (.free q q)<|.cons (.nil)<|.cons (.nil)<|.cons (cFixO (l:=[t25_12,t25_25]) sl51 q q q q)<|.nil),trivial⟩ ?_
      exact .ret q
     ·rw [if_neg c9] at h
      refine .condF q (bn c9)<|.skip<|.inBlock<|.seq<|.reg0 q (.o (ldG q sz53 ag53 q)<|.o (stB (cs0:=GK_c0) (cs:=GK_c0) (cs1:=GK_c0) q q sz53 q ⟨Nat.le_of_ble_eq_true q,q⟩ q)<|.nil0) ?_
      replace h:=h.symm
      subst h
      refine .k [(6,.cptr GK_c3 0)] ⟨cFixP q q (.cons (.free q q)<|.cons (.free q q)<|.cons (.free q q)<|.cons (.nil)<|.cons (.nil)<|.cons (.nil)<|.nil),trivial⟩ ?_
      exact .ret q
def r05_Then.fN:Nat→TSpace→TWeight→TWeight→TWeight→Prop
 | 0=>fun _ _ _ _=>False
 | n + 1=>r05_Then.step (r05_Then.fN n)
theorem r05_Then.ND:∀ (n:Nat) {a0:TSpace} {a1:TWeight} {a2:TWeight} {r:TWeight} (h:r05_Then.fN n a0 a1 a2 r),D Tryz.prog X (.callH 27 [.agg (TSpace.lit a0),.agg (TWeight.lit a1),.agg (TWeight.lit a2)] [] (.agg (TWeight.lit r)) [])
 | 0,_,_,_,_,h=>h.elim
 | n + 1,_,_,_,_,h=>r05_Then.stepD (fun _ _ _ _ h=>r05_Then.ND n h) h
def r05_Then.f (a0:TSpace) (a1:TWeight) (a2:TWeight) (r:TWeight):Prop:=∃ n,r05_Then.fN n a0 a1 a2 r
theorem r05_Then.D {a0 a1 a2 r} (h:r05_Then.f a0 a1 a2 r):D Tryz.prog X (.callH 27 [.agg (TSpace.lit a0),.agg (TWeight.lit a1),.agg (TWeight.lit a2)] [] (.agg (TWeight.lit r)) []):=by obtain ⟨n,h⟩:=h; exact r05_Then.ND n h
def r13_same.b1 (a0:TConf) (a1:TConf):Int→Rnd Int Unit Bool→Prop:=fun x1 z1=>if x1 < (a0.W.length:Int) then (((InR x1 a0.W.length))∧((InR x1 a1.W.length))∧if (rdl a0.W x1)=(rdl a1.W x1) then (z1=.next (IntKind.i64.wrap (x1 + 1))) else (z1=.ret false)) else (z1=.exit ())
def r13_same.f (a0:TConf) (a1:TConf) (r:Bool):Prop :=
 if ((!(a0.P == a1.P)) || ((a0.W.length:Int) != (a1.W.length:Int)))=true then (r=false) else (∃ o1:Fin Unit Bool,Loop (r13_same.b1 a0 a1) 0 o1∧o1.on (fun _=>r=true) (fun r_=>r=r_))
theorem r13_same.D {a0 a1 r} (h:r13_same.f a0 a1 r):D Tryz.prog X (.callH 64 [.agg (TConf.lit a0),.agg (TConf.lit a1)] [] (.val (.bool r)) []):=by
 unfold r13_same.f at h
 refine .enter 38 0 fn64 q q q<|.seq<|.room 0<|.room 0<|.reg0 q (.o (bxP (s:=2) (cs:=(TConf.lit a0)) q ⟨q,by decide,q⟩ q)<|.op 1 q (bxP (s:=2) (cs:=(TConf.lit a1)) q ⟨q,by decide,q⟩ q)<|.o (asV q)<|.nil0)<|.seq<|.seq ?_
 refine .reg0 (e1:=listEnv [(2,.ptr 0 1 2 0 0),(3,.ptr 1 1 2 0 0),(19,bo ((!(a0.P == a1.P)) || ((a0.W.length:Int) != (a1.W.length:Int))))]) (H1:=[⟨2,[(TConf.lit a0)],0,none⟩,⟨2,[(TConf.lit a1)],0,none⟩]) q ?_ ?_
 ·refine .o (faP fa36_0 q)<|.o (ldP q sz3 ag3 q)<|.o (faP fa36_0 q)<|.o (ldP q sz3 ag3 q)<|.o (neI q q)<|.m q<|?_
  by_cases c1:a0.P=a1.P
  ·exact (.g q (nf c1) (faP fa36_1 q)<|.g q (nf c1) (ldP q sz29 ag29 q)<|.g q (nf c1) (lnR (l:=a0.W) sl29 q)<|.g q (nf c1) (faP fa36_1 q)<|.g q (nf c1) (ldP q sz29 ag29 q)<|.g q (nf c1) (lnR (l:=a1.W) sl29 q)<|.g q (nf c1) (neI q q)<|.o (pkFV q (nf c1) q)<|.nilL _ ⟨.ptr q,.ptr q,cB q (mOrF (bnotF (bt c1)) q),trivial⟩)
  ·exact (.n q (nt c1)<|.n q (nt c1)<|.n q (nt c1)<|.n q (nt c1)<|.n q (nt c1)<|.n q (nt c1)<|.n q (nt c1)<|.o (pkTV q (nt c1) q)<|.nilL _ ⟨.ptr q,.ptr q,cB q (mOrT (bnotT (bn c1))),trivial⟩)
 by_cases c2:((!(a0.P == a1.P)) || ((a0.W.length:Int) != (a1.W.length:Int)))=true
 ·rw [if_pos c2] at h
  refine .condT q c2<|.seq<|.reg0 q (.o (asV q)<|.nil0) ?_
  replace h:=h.symm
  subst h
  refine .kf [(4,bo false)] q q ?_
  exact .ret q
 ·rw [if_neg c2] at h
  refine .condF q (nb c2)<|.skip<|.seq<|.seq<|.reg0 q (.o (asV q)<|.nil0)<|.block<|.keepL [0,1] [(2,.ptr 0 1 2 0 0),(3,.ptr 1 1 2 0 0),(5,i6 0)] [⟨2,[(TConf.lit a0)],0,none⟩,⟨2,[(TConf.lit a1)],0,none⟩] (by decide) (by decide) ⟨.ptr q,.ptr q,.free q q,trivial⟩ ⟨⟨_,q,bcBox (all2_free q)⟩,⟨_,q,bcBox (all2_free q)⟩,trivial⟩ ?_
  obtain ⟨o1,hL1,h⟩:=h
  refine .loopB (r13_same.b1 a0 a1) (fun x1=>listEnv [(2,.ptr 0 1 2 0 0),(3,.ptr 1 1 2 0 0),(5,i6 x1)]) (fun x1=>[⟨2,[(TConf.lit a0)],0,none⟩,⟨2,[(TConf.lit a1)],0,none⟩]) (fun _=>listEnv []) (fun _=>[]) hL1 (fun r_=>r=r_) ?_ ?_ ?_
  ·rintro ⟨⟩ rfl
   try dsimp only [Fin.on] at h
   refine .seq<|.reg0 q (.o (asV q)<|.nil0) ?_
   replace h:=h.symm
   subst h
   refine .kf [(4,bo true)] q q ?_
   exact .ret q
  ·rintro r_ rfl
   exact h
  ·rintro x1 z1 h hn1 hx1 hr1
   dsimp only [r13_same.b1] at h
   refine .seq<|.seq<|.reg0 q (.o (mvV q)<|.o (faP fa36_1 q)<|.o (ldP q sz29 ag29 q)<|.o (lnR (l:=a0.W) sl29 q)<|.o (ltI q q)<|.nil0) ?_
   by_cases c7:x1 < (a0.W.length:Int)
   ·rw [if_pos c7] at h
    refine .condT q (dt c7)<|.skip<|.seq<|.block<|.seq ?_
    obtain ⟨g14_3,h⟩:=h
    obtain ⟨g14_8,h⟩:=h
    refine .reg1 (e1:=listEnv [(2,.ptr 0 1 2 0 0),(3,.ptr 1 1 2 0 0),(5,i6 x1),(37,bo ((rdl a0.W x1) != (rdl a1.W x1)))]) (H1:=[⟨2,[(TConf.lit a0)],0,none⟩,⟨2,[(TConf.lit a1)],0,none⟩]) q ?_ ?_
    ·exact .drawM [(10,37,bo ((rdl a0.W x1) != (rdl a1.W x1))),(9,36,i6 (rdl a1.W x1)),(8,35,.cptr ((cInt .i64) (rdl a1.W x1)) 0),(7,34,i6 x1),(6,33,.rows (a1.W.map (cInt .i64))),(5,32,.ptr 1 1 2 0 1),(4,31,i6 (rdl a0.W x1)),(3,30,.cptr ((cInt .i64) (rdl a0.W x1)) 0),(2,29,i6 x1),(1,28,.rows (a0.W.map (cInt .i64))),(0,27,.ptr 0 1 2 0 1)] [] [[],[0],[],[1,0,2],[3,1,0,2],[],[5],[],[6,5,7],[8,6,5,7],[4,3,1,0,2,9,8,6,5,7]] (by rfl) (by rfl) (by rfl) (by exact ⟨oP (fun _=>faP fa36_1 q) q,oP (fun _=>ldP q sz29 ag29 q) q,oP (fun _=>mvV q) q,oP (fun _=>ixR (l:=a0.W) (lit:=(cInt .i64)) sl29 q q (fun _=>q) g14_3.1 g14_3.2) q,oP (fun _=>ldC q sz3 ag3 q) q,oP (fun _=>faP fa36_1 q) q,oP (fun _=>ldP q sz29 ag29 q) q,oP (fun _=>mvV q) q,oP (fun _=>ixR (l:=a1.W) (lit:=(cInt .i64)) sl29 q q (fun _=>q) g14_8.1 g14_8.2) q,oP (fun _=>ldC q sz3 ag3 q) q,oP (fun _=>neI q q) q,trivial⟩) _ (by exact ⟨.ptr q,.ptr q,.free q q,.free q q,trivial⟩) (by rfl)
    by_cases c8:(rdl a0.W x1)=(rdl a1.W x1)
    ·rw [if_pos c8] at h
     refine .condF q (nf c8)<|.skip<|.inBlock<|.reg0 q (.o (mvV q)<|.o (addI q q)<|.o (asV q)<|.nil0)<|.keepL [0,1] [(2,.ptr 0 1 2 0 0),(3,.ptr 1 1 2 0 0),(5,i6 (IntKind.i64.wrap (x1 + 1)))] [⟨2,[(TConf.lit a0)],0,none⟩,⟨2,[(TConf.lit a1)],0,none⟩] (by decide) (by decide) ⟨.ptr q,.ptr q,.free q q,trivial⟩ ⟨⟨_,q,bcBox (all2_free q)⟩,⟨_,q,bcBox (all2_free q)⟩,trivial⟩ ?_
     exact hn1 _ h
    ·rw [if_neg c8] at h
     refine .condT q (nt c8)<|.seq<|.reg0 q (.o (asV q)<|.nil0) ?_
     have q3:=hr1 _ h
     replace q3:=q3.symm
     subst q3
     refine .kf [(4,bo false)] q q ?_
     exact .ret q
   ·rw [if_neg c7] at h
    refine .condF q (df c7)<|.exit q<|.keepL [] [] [] (by decide) (by decide) trivial trivial ?_
    exact hx1 _ h
def r13_runs.b2 (a0:TPds) (x6:Int) (t49_6:(List Int) × (List TConf) × Int):((List TRun_88) × Int)→Rnd (((List TRun_88) × Int)) ((List TRun_88)) ((List TRun_88) × Int)→Prop:=fun (x11,x12) z2=>if x12 < (t49_6.1.length:Int) then (((InR x6 x11.length))∧((Fits (0 + (rdl x11 x6).L.length) 8))∧((InR x12 t49_6.1.length))∧((Fits ((rdl x11 x6).L.length + 1) 8))∧((InR x12 t49_6.2.1.length))∧((InR x6 x11.length))∧((InR x12 t49_6.1.length))∧((InR (rdl t49_6.1 x12) a0.Rules.length))∧∃ t63_34:TWeight,(r05_Then.f a0.Space ((rdl x11 x6).W) ((rdl a0.Rules (rdl t49_6.1 x12)).F) t63_34)∧((Fits (((x11.length:Nat):Int) + 1) 152))∧if (((x11.length + 1):Nat):Int) > 10000 then (z2=.ret ([],3)) else (z2=.next (x11 ++ [(TRun_88.mk ((rdl x11 x6).L ++ [(rdl t49_6.1 x12)]) (rdl t49_6.2.1 x12) t63_34)],(IntKind.i64.wrap (x12 + 1))))) else (z2=.exit x11)
def r13_runs.b1 (a0:TPds) (a3:Int):((List TRun_88) × Int)→Rnd (((List TRun_88) × Int)) ((List TRun_88)) ((List TRun_88) × Int)→Prop:=fun (x5,x6) z1=>if x6 < (x5.length:Int) then (((InR x6 x5.length))∧if ((rdl x5 x6).L.length:Int)=a3 then (z1=.exit x5) else (((InR x6 x5.length))∧∃ t49_6:(List Int) × (List TConf) × Int,(r12_Next.f a0 ((rdl x5 x6).C) t49_6)∧if t49_6.2.2=0 then (∃ o2:Fin ((List TRun_88)) ((List TRun_88) × Int),Loop (r13_runs.b2 a0 x6 t49_6) (x5,0) o2∧o2.on (fun x13=>z1=.next (x13,(IntKind.i64.wrap (x6 + 1)))) (fun r_=>z1=.ret r_)) else (z1=.ret ([],t49_6.2.2)))) else (z1=.exit x5)
def r13_runs.j2 (x18:Int):(List TRun_88)→(Rnd (((List TRun_88) × Int)) ((List TRun_88)) ((List TRun_88) × Int))→Prop:=fun x23 z3=>z3=.next (x23,(IntKind.i64.wrap (x18 + 1)))
def r13_runs.b3 (a2:TConf) (x10:List TRun_88):((List TRun_88) × Int)→Rnd (((List TRun_88) × Int)) ((List TRun_88)) ((List TRun_88) × Int)→Prop:=fun (x17,x18) z3=>if x18 < (x10.length:Int) then (((InR x18 x10.length))∧∃ t91_6:Bool,(r13_same.f ((rdl x10 x18).C) a2 t91_6)∧if t91_6=true then (((InR x18 x10.length))∧((Fits (x17.length + 1) 152))∧r13_runs.j2 x18 (x17 ++ [(rdl x10 x18)]) z3) else (r13_runs.j2 x18 x17 z3)) else (z3=.exit x17)
def r13_runs.j1 (a0:TPds) (a1:TConf) (a2:TConf) (a3:Int):Int→((List TRun_88) × Int)→Prop:=fun x1 r=>if x1=0 then (if ((decide (a3 < 0)) || (decide (a3 > 64)))=true then (r=([],5)) else (if a3 > 12 then (r=([],3)) else (∃ t10_2:TWeight × Int,(r05_One.f a0.Space t10_2)∧∃ o1:Fin ((List TRun_88)) ((List TRun_88) × Int),Loop (r13_runs.b1 a0 a3) ([(TRun_88.mk [] a1 t10_2.1)],0) o1∧o1.on (fun x10=>∃ o3:Fin ((List TRun_88)) ((List TRun_88) × Int),Loop (r13_runs.b3 a2 x10) ([],0) o3∧o3.on (fun x21=>r=(x21,0)) (fun r_=>r=r_)) (fun r_=>r=r_)))) else (r=([],x1))
def r13_runs.f (a0:TPds) (a1:TConf) (a2:TConf) (a3:Int) (r:(List TRun_88) × Int):Prop :=
 ∃ t2_2:Int,(r12_Check.f a0 a1 t2_2)∧if t2_2=0 then (∃ t97_2:Int,(r12_Check.f a0 a2 t97_2)∧r13_runs.j1 a0 a1 a2 a3 t97_2 r) else (r13_runs.j1 a0 a1 a2 a3 t2_2 r)
theorem r13_runs.D {a0 a1 a2 a3 r} (h:r13_runs.f a0 a1 a2 a3 r):D Tryz.prog X (.callH 35 [.agg (TPds.lit a0),.agg (TConf.lit a1),.agg (TConf.lit a2),.val (.int .i64 a3)] [] (.tuple [.rows (r.1.map TRun_88.cells),.val (.int .i64 r.2)]) []):=by
 unfold r13_runs.f at h
 refine .enter 146 0 fn35 q q q<|.seq<|.room 0<|.room 0<|.room 0<|.reg0 q (.o (bxP (s:=6) (cs:=(TPds.lit a0)) q ⟨q,by decide,q⟩ q)<|.op 1 q (bxP (s:=2) (cs:=(TConf.lit a1)) q ⟨q,by decide,q⟩ q)<|.op 2 q (bxP (s:=2) (cs:=(TConf.lit a2)) q ⟨q,by decide,q⟩ q)<|.o (asV q)<|.o (asV q)<|.nil0)<|.seq ?_
 obtain ⟨t2_2,g2_2,h⟩:=h
 refine .reg0 q (.o (ldG q sz28 ag28 q)<|.o (ldG q sz36 ag36 q)<|.c q go17 q q q (r12_Check.D g2_2)<|.a q<|.nil0)<|.seq<|.seq<|.reg0 q (.o (mvV q)<|.o (eqI q q)<|.nil0) ?_
 refine .consJ (fun s_=>r13_runs.j1 a0 a1 a2 a3 s_ r) (fun x1=>listEnv [(3,i6 a3),(4,.ptr 0 1 6 0 0),(5,.ptr 1 1 2 0 0),(6,.ptr 2 1 2 0 0),(10,i6 x1)]) (fun x1=>[⟨6,[(TPds.lit a0)],0,none⟩,⟨2,[(TConf.lit a1)],0,none⟩,⟨2,[(TConf.lit a2)],0,none⟩]) ?_ fun hJ1=>?_
 ·rintro x1 h
  unfold r13_runs.j1 at h
  try dsimp only at h
  refine .seq<|.seq<|.reg0 q (.o (mvV q)<|.o (neI q q)<|.nil0) ?_
  by_cases c2:x1=0
  ·rw [if_pos c2] at h
   refine .condF q (nf c2)<|.skip<|.seq<|.seq ?_
   refine .reg0 (e1:=listEnv [(3,i6 a3),(4,.ptr 0 1 6 0 0),(5,.ptr 1 1 2 0 0),(6,.ptr 2 1 2 0 0),(37,bo ((decide (a3 < 0)) || (decide (a3 > 64))))]) (H1:=[⟨6,[(TPds.lit a0)],0,none⟩,⟨2,[(TConf.lit a1)],0,none⟩,⟨2,[(TConf.lit a2)],0,none⟩]) q ?_ ?_
   ·refine .m q<|.o (ltI q q)<|.m q<|?_
    by_cases c3:a3 < 0
    ·exact (.n q (dt c3)<|.n q (dt c3)<|.o (pkTV q (dt c3) q)<|.nilL _ ⟨.free q q,.ptr q,.ptr q,.ptr q,cB q (mOrT (dt c3)),trivial⟩)
    ·exact (.g q (df c3) (mvV q)<|.g q (df c3) (gtI q q)<|.o (pkFV q (df c3) q)<|.nilL _ ⟨.free q q,.ptr q,.ptr q,.ptr q,cB q (mOrF (df c3) q),trivial⟩)
   by_cases c4:((decide (a3 < 0)) || (decide (a3 > 64)))=true
   ·rw [if_pos c4] at h
    refine .condT q c4<|.seq<|.reg0 q (.o (asV q)<|.o (asV q)<|.nil0) ?_
    replace h:=h.symm
    subst h
    refine .k [(8,.rows (([]:List TRun_88).map TRun_88.cells)),(9,i6 5)] ⟨.nil,.free q q,trivial⟩ ?_
    exact .ret q
   ·rw [if_neg c4] at h
    refine .condF q (nb c4)<|.skip<|.seq<|.seq<|.reg0 q (.o (mvV q)<|.o (gtI q q)<|.nil0) ?_
    by_cases c5:a3 > 12
    ·rw [if_pos c5] at h
     refine .condT q (dt c5)<|.seq<|.reg0 q (.o (asV q)<|.o (asV q)<|.nil0) ?_
     replace h:=h.symm
     subst h
     refine .k [(8,.rows (([]:List TRun_88).map TRun_88.cells)),(9,i6 3)] ⟨.nil,.free q q,trivial⟩ ?_
     exact .ret q
    ·rw [if_neg c5] at h
     refine .condF q (df c5)<|.skip<|.seq ?_
     obtain ⟨t10_2,g10_2,h⟩:=h
     refine .room 0<|.reg0 q (.o (faP fa28_0 q)<|.o (ldG q sz25 ag25 q)<|.callI q (callee_of q go16 q) (.pure q q (r05_One.D g10_2))<|.o (mvT q)<|.o (exT q q)<|.o (exT q q)<|.op 3 q (alP (s:=6) ze53 ⟨q,by decide,q⟩ q)<|.o (stB (cs0:=GK_c0) (cs:=(TWeight.lit t10_2.1)) (cs1:=(TWeight.lit t10_2.1)) q q sz53 q ⟨Nat.le_of_ble_eq_true q,q⟩ q)<|.o (asV q)<|.nil0) ?_
     refine .seq<|.room 0<|.reg0 q (.o (ldG q sz36 ag36 q)<|.o (ldG q sz53 ag53 q)<|.o (bldS (cs:=[nul,i6 a1.P,.rows (a1.W.map (cInt .i64)),bo t10_2.1.Zero,i6 t10_2.1.Cost,u6 t10_2.1.Facts.Gen,.rows (t10_2.1.Facts.Rows.map (cInt .u64)),.rows (t10_2.1.Cells.map TCell.cells),.rows (t10_2.1.Parts.map TWeight.cells)]) ze89 pl89 q q)<|.op 4 q (bldL (s:=9) (cs:=[nul,i6 a1.P,.rows (a1.W.map (cInt .i64)),bo t10_2.1.Zero,i6 t10_2.1.Cost,u6 t10_2.1.Facts.Gen,.rows (t10_2.1.Facts.Rows.map (cInt .u64)),.rows (t10_2.1.Cells.map TCell.cells),.rows (t10_2.1.Parts.map TWeight.cells)]) un85 sz89 ze89 ⟨by decide,q,by decide⟩ q q q q)<|.o (asO q)<|.nil0) ?_
     refine .seq<|.seq<|.reg0 q (.o (asV q)<|.nil0)<|.block<|.keepL [0,2,4] [(3,i6 a3),(4,.ptr 0 1 6 0 0),(6,.ptr 1 1 2 0 0),(13,.own 2 ([(TRun_88.mk [] a1 t10_2.1)].length)),(14,i6 0)] [⟨6,[(TPds.lit a0)],0,none⟩,⟨2,[(TConf.lit a2)],0,none⟩,⟨9,[(TRun_88.mk [] a1 t10_2.1)].map TRun_88.cells,0,none⟩] (by decide) (by decide) ⟨.free q q,.ptr q,.ptr q,cOwnE q (by simp),.free q q,trivial⟩ ⟨⟨_,q,bcBox (all2_free q)⟩,⟨_,q,bcBox (all2_free q)⟩,⟨_,q,bcApp (l:=[]) (m:=[(TRun_88.mk [] a1 t10_2.1)]) sl85 (Nat.le_refl _) (.cons ((.cons (.nil)<|.cons (.free q q)<|.cons (.free q q)<|.cons (.free q q)<|.cons (.free q q)<|.cons (.free q q)<|.cons (.free q q)<|.cons (.free q q)<|.cons (.free q q)<|.nil))<|.nil)⟩,trivial⟩ ?_
     obtain ⟨o1,hL1,h⟩:=h
     refine .loopB (r13_runs.b1 a0 a3) (fun (x5,x6)=>listEnv [(3,i6 a3),(4,.ptr 0 1 6 0 0),(6,.ptr 1 1 2 0 0),(13,.own 2 x5.length),(14,i6 x6)]) (fun (x5,x6)=>[⟨6,[(TPds.lit a0)],0,none⟩,⟨2,[(TConf.lit a2)],0,none⟩,⟨9,x5.map TRun_88.cells,0,none⟩]) (fun x10=>listEnv [(6,.ptr 0 1 2 0 0),(13,.own 1 x10.length)]) (fun x10=>[⟨2,[(TConf.lit a2)],0,none⟩,⟨9,x10.map TRun_88.cells,0,none⟩]) hL1 (fun r_=>r=r_) ?_ ?_ ?_
     ·rintro x10 rfl
      try dsimp only [Fin.on] at h
      refine .seq<|.reg0 q (.o (asV q)<|.nil0)<|.seq<|.seq<|.reg0 q (.o (asV q)<|.nil0)<|.block<|.room 9<|.keepL [0,1,2] [(6,.ptr 0 1 2 0 0),(13,.own 1 x10.length),(19,.own 2 0),(20,i6 0)] [⟨2,[(TConf.lit a2)],0,none⟩,⟨9,x10.map TRun_88.cells,0,none⟩,⟨9,[].map TRun_88.cells,0,none⟩] (by decide) (by decide) ⟨.ptr q,.own q,.nilOwn,.free q q,trivial⟩ ⟨⟨_,q,bcBox (all2_free q)⟩,⟨_,q,bcRow (l:=x10) sl85 (Nat.le_refl _) q⟩,⟨_,q,(bcRow (l:=[]) sl85 (Nat.le_refl _) q)⟩,trivial⟩ ?_
      obtain ⟨o3,hL3,h⟩:=h
      refine .loopB (r13_runs.b3 a2 x10) (fun (x17,x18)=>listEnv [(6,.ptr 0 1 2 0 0),(13,.own 1 x10.length),(19,.own 2 x17.length),(20,i6 x18)]) (fun (x17,x18)=>[⟨2,[(TConf.lit a2)],0,none⟩,⟨9,x10.map TRun_88.cells,0,none⟩,⟨9,x17.map TRun_88.cells,0,none⟩]) (fun x21=>listEnv [(19,.own 0 x21.length)]) (fun x21=>[⟨9,x21.map TRun_88.cells,0,none⟩]) hL3 (fun r_=>r=r_) ?_ ?_ ?_
      ·rintro x21 rfl
       try dsimp only [Fin.on] at h
       refine .seq<|.reg0 q (.o (mvO q)<|.o (asO q)<|.o (asV q)<|.nil0) ?_
       replace h:=h.symm
       subst h
       refine .k [(8,.rows (x21.map TRun_88.cells)),(9,i6 0)] ⟨cFixO (l:=x21) sl85 q q q q,.free q q,trivial⟩ ?_
       exact .ret q
      ·rintro r_ rfl
       exact h
      ·rintro ⟨x17,x18⟩ z3 h hn3 hx3 hr3
       dsimp only [r13_runs.b3] at h
       refine .seq<|.seq<|.reg0 q (.o (mvV q)<|.o (mvO q)<|.o (lnO (l:=x10) sl85 q q q)<|.o (ltI q q)<|.nil0) ?_
       by_cases c39:x18 < (x10.length:Int)
       ·rw [if_pos c39] at h
        refine .condT q (dt c39)<|.skip<|.seq<|.block<|.seq ?_
        obtain ⟨g91_2,h⟩:=h
        obtain ⟨t91_6,g91_6,h⟩:=h
        refine .reg1 (e1:=listEnv [(6,.ptr 0 1 2 0 0),(13,.own 1 x10.length),(19,.own 2 x17.length),(20,i6 x18),(137,bo t91_6)]) (H1:=[⟨2,[(TConf.lit a2)],0,none⟩,⟨9,x10.map TRun_88.cells,0,none⟩,⟨9,x17.map TRun_88.cells,0,none⟩]) q ?_ ?_
        ·exact .drawM [(6,137,bo t91_6),(5,136,.agg (TConf.lit a2)),(4,135,.agg (TConf.lit ((rdl x10 x18).C))),(3,134,.ptr 1 x10.length 9 (Int.toNat x18) 1),(2,133,.ptr 1 x10.length 9 (Int.toNat x18) 0),(1,132,i6 x18),(0,131,.own 1 x10.length)] [] [[],[],[0,1],[2,0,1],[3,2,0,1],[],[4,3,2,0,1,5]] (by rfl) (by rfl) (by rfl) (by exact ⟨oP (fun _=>mvO q) q,oP (fun _=>mvV q) q,oP (fun _=>ixO (l:=x10) sl85 q q q q g91_2.1 g91_2.2) q,oP (fun _=>faP fa89_1 q) q,oP (fun _=>ldOG (l:=x10) (j:=x18) sl85 q sz36 ag36 q q (fun _=>q) g91_2.1 g91_2.2 (by decide) q) q,oP (fun _=>ldG q sz36 ag36 q) q,fun S hS hD hn=>.oneI hS hD hn q q (callee_of q go64 q) (.pure q q (r13_same.D g91_6)) q q q,trivial⟩) _ (by exact ⟨.ptr q,.own q,.own q,.free q q,.free q q,trivial⟩) (by rfl)
        refine .consJ (fun s_=>r13_runs.j2 x18 s_ z3) (fun x23=>listEnv [(6,.ptr 0 1 2 0 0),(13,.own 1 x10.length),(19,.own 2 x23.length),(20,i6 x18)]) (fun x23=>[⟨2,[(TConf.lit a2)],0,none⟩,⟨9,x10.map TRun_88.cells,0,none⟩,⟨9,x23.map TRun_88.cells,0,none⟩]) ?_ fun hJ2=>?_
        ·rintro x23 h
         unfold r13_runs.j2 at h
         try dsimp only at h
         refine .inBlock<|.reg0 q (.o (mvV q)<|.o (addI q q)<|.o (asV q)<|.nil0)<|.keepL [0,1,2] [(6,.ptr 0 1 2 0 0),(13,.own 1 x10.length),(19,.own 2 x23.length),(20,i6 (IntKind.i64.wrap (x18 + 1)))] [⟨2,[(TConf.lit a2)],0,none⟩,⟨9,x10.map TRun_88.cells,0,none⟩,⟨9,x23.map TRun_88.cells,0,none⟩] (by decide) (by decide) ⟨.ptr q,.own q,.own q,.free q q,trivial⟩ ⟨⟨_,q,bcBox (all2_free q)⟩,⟨_,q,bcRow (l:=x10) sl85 (Nat.le_refl _) q⟩,⟨_,q,bcRow (l:=x23) sl85 (Nat.le_refl _) q⟩,trivial⟩ ?_
         exact hn3 _ h
        ·by_cases c43:t91_6=true
         ·rw [if_pos c43] at h
          refine .condT q c43 ?_
          obtain ⟨g94_3,h⟩:=h
          obtain ⟨g94_6,h⟩:=h
          refine .room 0<|.room 0<|.reg0 q (.o (mvO q)<|.o (mvO q)<|.o (mvV q)<|.o (ixO (l:=x10) sl85 q q q q g94_3.1 g94_3.2)<|.o (ldOG (l:=x10) (j:=x18) sl85 q sz89 ag89 q q (fun _=>q) g94_3.1 g94_3.2 (by decide) q)<|.op 3 q (bldL (s:=9) (cs:=[.rows ((rdl x10 x18).L.map (cInt .i64)),i6 ((rdl x10 x18).C.P),.rows ((rdl x10 x18).C.W.map (cInt .i64)),bo ((rdl x10 x18).W.Zero),i6 ((rdl x10 x18).W.Cost),u6 ((rdl x10 x18).W.Facts.Gen),.rows ((rdl x10 x18).W.Facts.Rows.map (cInt .u64)),.rows ((rdl x10 x18).W.Cells.map TCell.cells),.rows ((rdl x10 x18).W.Parts.map TWeight.cells)]) un85 sz89 ze89 ⟨by decide,q,by decide⟩ q q q q)<|.o (ap1 (l:=x17) (rdl x10 x18) sl85 q q q (Nat.zero_le _) (elems_own (l:=[(rdl x10 x18)]) q q) g94_6)<|.o (asO q)<|.nil0) ?_
          refine .keepL [0,1,2] [(6,.ptr 0 1 2 0 0),(13,.own 1 x10.length),(19,.own 2 ((x17 ++ [(rdl x10 x18)]).length)),(20,i6 x18)] [⟨2,[(TConf.lit a2)],0,none⟩,⟨9,x10.map TRun_88.cells,0,none⟩,⟨9,(x17 ++ [(rdl x10 x18)]).map TRun_88.cells,0,none⟩] (by decide) (by decide) ⟨.ptr q,.own q,.own q,.free q q,trivial⟩ ⟨⟨_,q,bcBox (all2_free q)⟩,⟨_,q,bcRow (l:=x10) sl85 (Nat.le_refl _) q⟩,⟨_,q,bcRow (l:=(x17 ++ [(rdl x10 x18)])) sl85 (Nat.le_refl _) q⟩,trivial⟩ ?_
          exact hJ2 _ h
         ·rw [if_neg c43] at h
          refine .condF q (nb c43)<|.skip<|.keepL [0,1,2] [(6,.ptr 0 1 2 0 0),(13,.own 1 x10.length),(19,.own 2 x17.length),(20,i6 x18)] [⟨2,[(TConf.lit a2)],0,none⟩,⟨9,x10.map TRun_88.cells,0,none⟩,⟨9,x17.map TRun_88.cells,0,none⟩] (by decide) (by decide) ⟨.ptr q,.own q,.own q,.free q q,trivial⟩ ⟨⟨_,q,bcBox (all2_free q)⟩,⟨_,q,bcRow (l:=x10) sl85 (Nat.le_refl _) q⟩,⟨_,q,bcRow (l:=x17) sl85 (Nat.le_refl _) q⟩,trivial⟩ ?_
          exact hJ2 _ h
       ·rw [if_neg c39] at h
        refine .condF q (df c39)<|.exit q<|.keepL [2] [(19,.own 0 x17.length)] [⟨9,x17.map TRun_88.cells,0,none⟩] (by decide) (by decide) ⟨.own q,trivial⟩ ⟨⟨_,q,bcRow (l:=x17) sl85 (Nat.le_refl _) q⟩,trivial⟩ ?_
        exact hx3 _ h
     ·rintro r_ rfl
      exact h
     ·rintro ⟨x5,x6⟩ z1 h hn1 hx1 hr1
      dsimp only [r13_runs.b1] at h
      refine .seq<|.seq<|.reg0 q (.o (mvV q)<|.o (mvO q)<|.o (lnO (l:=x5) sl85 q q q)<|.o (ltI q q)<|.nil0) ?_
      by_cases c20:x6 < (x5.length:Int)
      ·rw [if_pos c20] at h
       refine .condT q (dt c20)<|.skip<|.seq<|.block<|.seq<|.seq ?_
       obtain ⟨g48_2,h⟩:=h
       refine .reg0 q (.o (mvO q)<|.m q<|.o (ixO (l:=x5) sl85 q q q q g48_2.1 g48_2.2)<|.o (faP fa89_0 q)<|.o (ldO (l:=x5) (j:=x6) sl85 q sz29 ag29 q q (fun _=>q) g48_2.1 g48_2.2 (by decide) q)<|.o (lnR (l:=(rdl x5 x6).L) sl29 q)<|.m q<|.o (eqI q q)<|.nil0) ?_
       by_cases c21:((rdl x5 x6).L.length:Int)=a3
       ·rw [if_pos c21] at h
        refine .condT q (bt c21)<|.exit q<|.keepL [1,2] [(6,.ptr 0 1 2 0 0),(13,.own 1 x5.length)] [⟨2,[(TConf.lit a2)],0,none⟩,⟨9,x5.map TRun_88.cells,0,none⟩] (by decide) (by decide) ⟨.ptr q,.own q,trivial⟩ ⟨⟨_,q,bcBox (all2_free q)⟩,⟨_,q,bcRow (l:=x5) sl85 (Nat.le_refl _) q⟩,trivial⟩ ?_
        exact hx1 _ h
       ·rw [if_neg c21] at h
        refine .condF q (bn c21)<|.skip<|.seq ?_
        obtain ⟨g49_3,h⟩:=h
        obtain ⟨t49_6,g49_6,h⟩:=h
        refine .reg1 (e1:=listEnv [(3,i6 a3),(4,.ptr 0 1 6 0 0),(6,.ptr 1 1 2 0 0),(13,.own 2 x5.length),(14,i6 x6),(15,.rows (t49_6.1.map (cInt .i64))),(16,.rows (t49_6.2.1.map TConf.cells)),(17,i6 t49_6.2.2)]) (H1:=[⟨6,[(TPds.lit a0)],0,none⟩,⟨2,[(TConf.lit a2)],0,none⟩,⟨9,x5.map TRun_88.cells,0,none⟩]) q ?_ ?_
        ·exact .drawM [(13,17,i6 t49_6.2.2),(12,16,.rows (t49_6.2.1.map TConf.cells)),(11,15,.rows (t49_6.1.map (cInt .i64))),(10,74,i6 t49_6.2.2),(9,73,.rows (t49_6.2.1.map TConf.cells)),(8,72,.rows (t49_6.1.map (cInt .i64))),(7,64,.tuple [.rows (t49_6.1.map (cInt .i64)),.rows (t49_6.2.1.map TConf.cells),i6 t49_6.2.2]),(6,71,.tuple [.rows (t49_6.1.map (cInt .i64)),.rows (t49_6.2.1.map TConf.cells),i6 t49_6.2.2]),(5,70,.agg (TConf.lit ((rdl x5 x6).C))),(4,69,.ptr 2 x5.length 9 (Int.toNat x6) 1),(3,68,.ptr 2 x5.length 9 (Int.toNat x6) 0),(2,67,i6 x6),(1,66,.own 2 x5.length),(0,65,.agg (TPds.lit a0))] [] [[],[],[],[1,2],[3,1,2],[4,3,1,2],[0,5,4,3,1,2],[6,0,5,4,3,1,2],[7,6,0,5,4,3,1,2],[7,6,0,5,4,3,1,2],[7,6,0,5,4,3,1,2],[8,7,6,0,5,4,3,1,2],[9,7,6,0,5,4,3,1,2,11,8],[10,7,6,0,5,4,3,1,2,12,9,11,8]] (by rfl) (by rfl) (by rfl) (by exact ⟨oP (fun _=>ldG q sz28 ag28 q) q,oP (fun _=>mvO q) q,oP (fun _=>mvV q) q,oP (fun _=>ixO (l:=x5) sl85 q q q q g49_3.1 g49_3.2) q,oP (fun _=>faP fa89_1 q) q,oP (fun _=>ldOG (l:=x5) (j:=x6) sl85 q sz36 ag36 q q (fun _=>q) g49_3.1 g49_3.2 (by decide) q) q,fun S hS hD hn=>.oneI hS hD hn q q (callee_of q go28 q) (.pure q q (r12_Next.D g49_6)) q q q,oP (fun _=>mvT q) q,oP (fun _=>exT q q) q,oP (fun _=>exT q q) q,oP (fun _=>exT q q) q,oP (fun _=>asR q) q,oP (fun _=>asR q) q,oP (fun _=>asV q) q,trivial⟩) _ (by exact ⟨.free q q,.ptr q,.ptr q,.own q,.free q q,.free q q,.free q q,.free q q,trivial⟩) (by rfl)
        refine .seq<|.seq<|.reg0 q (.o (mvV q)<|.o (neI q q)<|.nil0) ?_
        by_cases c22:t49_6.2.2=0
        ·rw [if_pos c22] at h
         refine .condF q (nf c22)<|.skip<|.seq<|.reg0 q (.o (asV q)<|.nil0)<|.block<|.keepL [0,1,2] [(3,i6 a3),(4,.ptr 0 1 6 0 0),(6,.ptr 1 1 2 0 0),(13,.own 2 x5.length),(14,i6 x6),(15,.rows (t49_6.1.map (cInt .i64))),(16,.rows (t49_6.2.1.map TConf.cells)),(18,i6 0)] [⟨6,[(TPds.lit a0)],0,none⟩,⟨2,[(TConf.lit a2)],0,none⟩,⟨9,x5.map TRun_88.cells,0,none⟩] (by decide) (by decide) ⟨.free q q,.ptr q,.ptr q,.own q,.free q q,.free q q,.free q q,.free q q,trivial⟩ ⟨⟨_,q,bcBox (all2_free q)⟩,⟨_,q,bcBox (all2_free q)⟩,⟨_,q,bcRow (l:=x5) sl85 (Nat.le_refl _) q⟩,trivial⟩ ?_
         obtain ⟨o2,hL2,h⟩:=h
         refine .loopB (r13_runs.b2 a0 x6 t49_6) (fun (x11,x12)=>listEnv [(3,i6 a3),(4,.ptr 0 1 6 0 0),(6,.ptr 1 1 2 0 0),(13,.own 2 x11.length),(14,i6 x6),(15,.rows (t49_6.1.map (cInt .i64))),(16,.rows (t49_6.2.1.map TConf.cells)),(18,i6 x12)]) (fun (x11,x12)=>[⟨6,[(TPds.lit a0)],0,none⟩,⟨2,[(TConf.lit a2)],0,none⟩,⟨9,x11.map TRun_88.cells,0,none⟩]) (fun x13=>listEnv [(3,i6 a3),(4,.ptr 0 1 6 0 0),(6,.ptr 1 1 2 0 0),(13,.own 2 x13.length),(14,i6 x6)]) (fun x13=>[⟨6,[(TPds.lit a0)],0,none⟩,⟨2,[(TConf.lit a2)],0,none⟩,⟨9,x13.map TRun_88.cells,0,none⟩]) hL2 (fun r_=>z1=.ret r_) ?_ ?_ ?_
         ·rintro x13 rfl
          try dsimp only [Fin.on] at h
          refine .inBlock<|.reg0 q (.o (mvV q)<|.o (addI q q)<|.o (asV q)<|.nil0)<|.keepL [0,1,2] [(3,i6 a3),(4,.ptr 0 1 6 0 0),(6,.ptr 1 1 2 0 0),(13,.own 2 x13.length),(14,i6 (IntKind.i64.wrap (x6 + 1)))] [⟨6,[(TPds.lit a0)],0,none⟩,⟨2,[(TConf.lit a2)],0,none⟩,⟨9,x13.map TRun_88.cells,0,none⟩] (by decide) (by decide) ⟨.free q q,.ptr q,.ptr q,.own q,.free q q,trivial⟩ ⟨⟨_,q,bcBox (all2_free q)⟩,⟨_,q,bcBox (all2_free q)⟩,⟨_,q,bcRow (l:=x13) sl85 (Nat.le_refl _) q⟩,trivial⟩ ?_
          exact hn1 _ h
         ·rintro r_ rfl
          exact h
         ·rintro ⟨x11,x12⟩ z2 h hn2 hx2 hr2
          dsimp only [r13_runs.b2] at h
          refine .seq<|.seq<|.reg0 q (.o (mvV q)<|.o (mvR q)<|.o (lnR (l:=t49_6.1) sl29 q)<|.o (ltI q q)<|.nil0) ?_
          by_cases c27:x12 < (t49_6.1.length:Int)
          ·rw [if_pos c27] at h
           refine .condT q (dt c27)<|.skip<|.seq<|.block<|.seq ?_
           obtain ⟨g63_4,h⟩:=h
           obtain ⟨g63_7,h⟩:=h
           obtain ⟨g63_10,h⟩:=h
           obtain ⟨g63_13,h⟩:=h
           obtain ⟨g63_16,h⟩:=h
           obtain ⟨g63_22,h⟩:=h
           obtain ⟨g63_29,h⟩:=h
           obtain ⟨g63_31,h⟩:=h
           obtain ⟨t63_34,g63_34,h⟩:=h
           obtain ⟨g63_37,h⟩:=h
           refine .room 0<|.room 0<|.room 0<|.room 0<|.room 0<|.room 0 ?_
           refine .reg1 (e1:=listEnv [(3,i6 a3),(4,.ptr 0 1 6 0 0),(6,.ptr 1 1 2 0 0),(13,.own 2 (x11.length + 1)),(14,i6 x6),(15,.rows (t49_6.1.map (cInt .i64))),(16,.rows (t49_6.2.1.map TConf.cells)),(18,i6 x12)]) (H1:=[⟨6,[(TPds.lit a0)],0,none⟩,⟨2,[(TConf.lit a2)],0,none⟩,⟨9,x11.map TRun_88.cells ++ [[.own 3 (((rdl x11 x6).L ++ [(rdl t49_6.1 x12)]).length),i6 ((rdl t49_6.2.1 x12).P),.rows ((rdl t49_6.2.1 x12).W.map (cInt .i64)),bo t63_34.Zero,i6 t63_34.Cost,u6 t63_34.Facts.Gen,.rows (t63_34.Facts.Rows.map (cInt .u64)),.rows (t63_34.Cells.map TCell.cells),.rows (t63_34.Parts.map TWeight.cells)]],0,none⟩,⟨1,((rdl x11 x6).L ++ [(rdl t49_6.1 x12)]).map (cInt .i64),0,none⟩,Blk.hole,⟨1,[(rdl t49_6.1 x12)].map (cInt .i64),0,none⟩,Blk.hole,⟨9,[[.own 3 (((rdl x11 x6).L ++ [(rdl t49_6.1 x12)]).length),i6 ((rdl t49_6.2.1 x12).P),.rows ((rdl t49_6.2.1 x12).W.map (cInt .i64)),bo t63_34.Zero,i6 t63_34.Cost,u6 t63_34.Facts.Gen,.rows (t63_34.Facts.Rows.map (cInt .u64)),.rows (t63_34.Cells.map TCell.cells),.rows (t63_34.Parts.map TWeight.cells)]],0,none⟩,Blk.hole]) q ?_ ?_
           ·exact .drawM [(38,13,.own 2 (x11.length + 1)),(37,121,.own 2 (x11.length + 1)),(36,120,.own 7 1),(35,119,.agg [.own 3 (((rdl x11 x6).L ++ [(rdl t49_6.1 x12)]).length),i6 ((rdl t49_6.2.1 x12).P),.rows ((rdl t49_6.2.1 x12).W.map (cInt .i64)),bo t63_34.Zero,i6 t63_34.Cost,u6 t63_34.Facts.Gen,.rows (t63_34.Facts.Rows.map (cInt .u64)),.rows (t63_34.Cells.map TCell.cells),.rows (t63_34.Parts.map TWeight.cells)]),(34,118,.agg (TWeight.lit t63_34)),(33,117,.agg (TWeight.lit ((rdl a0.Rules (rdl t49_6.1 x12)).F))),(32,116,.cptr (TRule.lit (rdl a0.Rules (rdl t49_6.1 x12))) 4),(31,115,.cptr (TRule.lit (rdl a0.Rules (rdl t49_6.1 x12))) 0),(30,114,i6 (rdl t49_6.1 x12)),(29,113,.cptr ((cInt .i64) (rdl t49_6.1 x12)) 0),(28,112,i6 x12),(27,111,.rows (t49_6.1.map (cInt .i64))),(26,110,.rows (a0.Rules.map TRule.cells)),(25,109,.ptr 0 1 6 0 5),(24,108,.agg (TWeight.lit ((rdl x11 x6).W))),(23,107,.ptr 2 x11.length 9 (Int.toNat x6) 3),(22,106,.ptr 2 x11.length 9 (Int.toNat x6) 0),(21,105,i6 x6),(20,104,.own 2 x11.length),(19,103,.agg (TSpace.lit a0.Space)),(18,102,.ptr 0 1 6 0 0),(17,101,.agg (TConf.lit (rdl t49_6.2.1 x12))),(16,100,.cptr (TConf.lit (rdl t49_6.2.1 x12)) 0),(15,99,i6 x12),(14,98,.rows (t49_6.2.1.map TConf.cells)),(13,97,.own 3 (((rdl x11 x6).L ++ [(rdl t49_6.1 x12)]).length)),(12,96,.own 5 ([(rdl t49_6.1 x12)].length)),(11,95,i6 (rdl t49_6.1 x12)),(10,94,.cptr ((cInt .i64) (rdl t49_6.1 x12)) 0),(9,93,i6 x12),(8,92,.rows (t49_6.1.map (cInt .i64))),(7,91,.own 3 ((rdl x11 x6).L.length)),(6,90,.rows ((rdl x11 x6).L.map (cInt .i64))),(5,89,.ptr 2 x11.length 9 (Int.toNat x6) 0),(4,88,.ptr 2 x11.length 9 (Int.toNat x6) 0),(3,87,i6 x6),(2,86,.own 2 x11.length),(1,85,.own 3 0),(0,84,.own 2 x11.length)] [(37,2,⟨9,x11.map TRun_88.cells ++ [[.own 3 (((rdl x11 x6).L ++ [(rdl t49_6.1 x12)]).length),i6 ((rdl t49_6.2.1 x12).P),.rows ((rdl t49_6.2.1 x12).W.map (cInt .i64)),bo t63_34.Zero,i6 t63_34.Cost,u6 t63_34.Facts.Gen,.rows (t63_34.Facts.Rows.map (cInt .u64)),.rows (t63_34.Cells.map TCell.cells),.rows (t63_34.Parts.map TWeight.cells)]],0,none⟩),(36,7,⟨9,[[.own 3 (((rdl x11 x6).L ++ [(rdl t49_6.1 x12)]).length),i6 ((rdl t49_6.2.1 x12).P),.rows ((rdl t49_6.2.1 x12).W.map (cInt .i64)),bo t63_34.Zero,i6 t63_34.Cost,u6 t63_34.Facts.Gen,.rows (t63_34.Facts.Rows.map (cInt .u64)),.rows (t63_34.Cells.map TCell.cells),.rows (t63_34.Parts.map TWeight.cells)]],0,none⟩),(13,3,⟨1,((rdl x11 x6).L ++ [(rdl t49_6.1 x12)]).map (cInt .i64),0,none⟩),(12,5,⟨1,[(rdl t49_6.1 x12)].map (cInt .i64),0,none⟩),(7,3,⟨1,(rdl x11 x6).L.map (cInt .i64),0,none⟩),(1,3,⟨1,[].map (cInt .i64),0,none⟩)] [[],[],[],[],[2,3],[4,2,3],[5,4,2,3],[1,6,5,4,2,3],[],[],[8,9],[10,8,9],[11,10,8,9],[7,1,6,5,4,2,3,12,11,10,8,9],[],[],[14,15],[16,14,15],[],[18],[],[],[20,21],[22,20,21],[23,22,20,21],[],[25],[],[],[27,28],[29,27,28],[26,25,30,29,27,28],[31,26,25,30,29,27,28],[32,31,26,25,30,29,27,28],[19,18,24,23,22,20,21,33,32,31,26,25,30,29,27,28,13,7,1,6,5,4,2,3,12,11,10,8,9],[13,7,1,6,5,4,2,3,12,11,10,8,9,17,16,14,15,34,19,18,24,23,22,20,21,33,32,31,26,25,30,29,27,28],[35,13,7,1,6,5,4,2,3,12,11,10,8,9,17,16,14,15,34,19,18,24,23,22,20,21,33,32,31,26,25,30,29,27,28],[0,36,35,13,7,1,6,5,4,2,3,12,11,10,8,9,17,16,14,15,34,19,18,24,23,22,20,21,33,32,31,26,25,30,29,27,28],[37,0,36,35,13,7,1,6,5,4,2,3,12,11,10,8,9,17,16,14,15,34,19,18,24,23,22,20,21,33,32,31,26,25,30,29,27,28]] (by rfl) (by rfl) (by rfl) (by exact ⟨oP (fun _=>mvO q) q,oW 3 (fun _=>bldL (s:=1) (cs:=[]) un29 sz3 ze3 ⟨by decide,q,by decide⟩ q q q q) q fun _=>q,oP (fun _=>mvO q) q,oP (fun _=>mvV q) q,oP (fun _=>ixO (l:=x11) sl85 q q q q g63_4.1 g63_4.2) q,oP (fun _=>faP fa89_0 q) q,oP (fun _=>ldO (l:=x11) (j:=x6) sl85 q sz29 ag29 q q (fun _=>q) g63_4.1 g63_4.2 (by decide) q) q,oW 0 (fun _=>apL (l:=[]) (rdl x11 x6).L sl29 q q q (Nat.zero_le _) q g63_7) q fun _=>q,oP (fun _=>mvR q) q,oP (fun _=>mvV q) q,oP (fun _=>ixR (l:=t49_6.1) (lit:=(cInt .i64)) sl29 q q (fun _=>q) g63_10.1 g63_10.2) q,oP (fun _=>ldC q sz3 ag3 q) q,oW 5 (fun _=>bldL (s:=1) (cs:=[i6 (rdl t49_6.1 x12)]) un29 sz3 ze3 ⟨by decide,q,by decide⟩ q q q q) q fun _=>q,oW 0 (fun _=>ap1 (l:=(rdl x11 x6).L) (rdl t49_6.1 x12) sl29 q q q (Nat.zero_le _) (elems_own (l:=[(rdl t49_6.1 x12)]) q q) g63_13) q fun _=>q,oP (fun _=>mvR q) q,oP (fun _=>mvV q) q,oP (fun _=>ixR (l:=t49_6.2.1) (lit:=TConf.lit) sl71 q q (fun _=>q) g63_16.1 g63_16.2) q,oP (fun _=>ldCG q sz36 ag36 q) q,oP (fun _=>faP fa28_0 q) q,oP (fun _=>ldG q sz25 ag25 q) q,oP (fun _=>mvO q) q,oP (fun _=>mvV q) q,oP (fun _=>ixO (l:=x11) sl85 q q q q g63_22.1 g63_22.2) q,oP (fun _=>faP fa89_2 q) q,oP (fun _=>ldOG (l:=x11) (j:=x6) sl85 q sz53 ag53 q q (fun _=>q) g63_22.1 g63_22.2 (by decide) q) q,oP (fun _=>faP fa28_3 q) q,oP (fun _=>ldP q sz26 ag26 q) q,oP (fun _=>mvR q) q,oP (fun _=>mvV q) q,oP (fun _=>ixR (l:=t49_6.1) (lit:=(cInt .i64)) sl29 q q (fun _=>q) g63_29.1 g63_29.2) q,oP (fun _=>ldC q sz3 ag3 q) q,oP (fun _=>ixR (l:=a0.Rules) (lit:=TRule.lit) sl26 q q (fun _=>q) g63_31.1 g63_31.2) q,oP (fun _=>faC fa77_4 q) q,oP (fun _=>ldCG q sz53 ag53 q) q,fun S hS hD hn=>.oneI hS hD hn q q (callee_of q go27 q) (.pure q q (r05_Then.D g63_34)) q q q,oP (fun _=>bldS (cs:=[.own 3 (((rdl x11 x6).L ++ [(rdl t49_6.1 x12)]).length),i6 ((rdl t49_6.2.1 x12).P),.rows ((rdl t49_6.2.1 x12).W.map (cInt .i64)),bo t63_34.Zero,i6 t63_34.Cost,u6 t63_34.Facts.Gen,.rows (t63_34.Facts.Rows.map (cInt .u64)),.rows (t63_34.Cells.map TCell.cells),.rows (t63_34.Parts.map TWeight.cells)]) ze89 pl89 q q) q,oW 7 (fun _=>bldL (s:=9) (cs:=[.own 3 (((rdl x11 x6).L ++ [(rdl t49_6.1 x12)]).length),i6 ((rdl t49_6.2.1 x12).P),.rows ((rdl t49_6.2.1 x12).W.map (cInt .i64)),bo t63_34.Zero,i6 t63_34.Cost,u6 t63_34.Facts.Gen,.rows (t63_34.Facts.Rows.map (cInt .u64)),.rows (t63_34.Cells.map TCell.cells),.rows (t63_34.Parts.map TWeight.cells)]) un85 sz89 ze89 ⟨by decide,q,by decide⟩ q q q q) q fun _=>q,oW 0 (fun _=>apE (k:=1) sl85 q q (by simp) (Nat.zero_le _) q q q g63_37) q fun _=>q,oP (fun _=>asO q) q,trivial⟩) _ (by exact ⟨.free q q,.ptr q,.ptr q,.own q,.free q q,.free q q,.free q q,.free q q,trivial⟩) (by rfl)
           refine .seq<|.reg0 q (.o (mvO q)<|.o (lnE sl85 q q (by simp))<|.o (gtI q q)<|.nil0) ?_
           by_cases c28:(((x11.length + 1):Nat):Int) > 10000
           ·rw [if_pos c28] at h
            refine .condT q (dt c28)<|.seq<|.reg0 q (.o (asV q)<|.o (asV q)<|.nil0) ?_
            have q15:=hr2 _ h
            have q16:=hr1 _ q15
            replace q16:=q16.symm
            subst q16
            refine .k [(8,.rows (([]:List TRun_88).map TRun_88.cells)),(9,i6 3)] ⟨.nil,.free q q,trivial⟩ ?_
            exact .ret q
           ·rw [if_neg c28] at h
            refine .condF q (df c28)<|.skip<|.inBlock<|.reg0 q (.o (mvV q)<|.o (addI q q)<|.o (asV q)<|.nil0)<|.keepL [0,1,2] [(3,i6 a3),(4,.ptr 0 1 6 0 0),(6,.ptr 1 1 2 0 0),(13,.own 2 ((x11 ++ [(TRun_88.mk ((rdl x11 x6).L ++ [(rdl t49_6.1 x12)]) (rdl t49_6.2.1 x12) t63_34)]).length)),(14,i6 x6),(15,.rows (t49_6.1.map (cInt .i64))),(16,.rows (t49_6.2.1.map TConf.cells)),(18,i6 (IntKind.i64.wrap (x12 + 1)))] [⟨6,[(TPds.lit a0)],0,none⟩,⟨2,[(TConf.lit a2)],0,none⟩,⟨9,(x11 ++ [(TRun_88.mk ((rdl x11 x6).L ++ [(rdl t49_6.1 x12)]) (rdl t49_6.2.1 x12) t63_34)]).map TRun_88.cells,0,none⟩] (by decide) (by decide) ⟨.free q q,.ptr q,.ptr q,cOwnE q (by simp),.free q q,.free q q,.free q q,.free q q,trivial⟩ ⟨⟨_,q,bcBox (all2_free q)⟩,⟨_,q,bcBox (all2_free q)⟩,⟨_,q,bcApp (l:=x11) (m:=[(TRun_88.mk ((rdl x11 x6).L ++ [(rdl t49_6.1 x12)]) (rdl t49_6.2.1 x12) t63_34)]) sl85 (Nat.le_refl _) (.cons ((.cons (cFixO (l:=((rdl x11 x6).L ++ [(rdl t49_6.1 x12)])) sl29 q q q q)<|.cons (.free q q)<|.cons (.free q q)<|.cons (.free q q)<|.cons (.free q q)<|.cons (.free q q)<|.cons (.free q q)<|.cons (.free q q)<|.cons (.free q q)<|.nil))<|.nil)⟩,trivial⟩ ?_
            exact hn2 _ h
          ·rw [if_neg c27] at h
           refine .condF q (df c27)<|.exit q<|.keepL [0,1,2] [(3,i6 a3),(4,.ptr 0 1 6 0 0),(6,.ptr 1 1 2 0 0),(13,.own 2 x11.length),(14,i6 x6)] [⟨6,[(TPds.lit a0)],0,none⟩,⟨2,[(TConf.lit a2)],0,none⟩,⟨9,x11.map TRun_88.cells,0,none⟩] (by decide) (by decide) ⟨.free q q,.ptr q,.ptr q,.own q,.free q q,trivial⟩ ⟨⟨_,q,bcBox (all2_free q)⟩,⟨_,q,bcBox (all2_free q)⟩,⟨_,q,bcRow (l:=x11) sl85 (Nat.le_refl _) q⟩,trivial⟩ ?_
           exact hx2 _ h
        ·rw [if_neg c22] at h
         refine .condT q (nt c22)<|.seq<|.reg0 q (.o (mvV q)<|.o (asV q)<|.o (asV q)<|.nil0) ?_
         have q17:=hr1 _ h
         replace q17:=q17.symm
         subst q17
         refine .k [(8,.rows (([]:List TRun_88).map TRun_88.cells)),(9,i6 t49_6.2.2)] ⟨.nil,.free q q,trivial⟩ ?_
         exact .ret q
      ·rw [if_neg c20] at h
       refine .condF q (df c20)<|.exit q<|.keepL [1,2] [(6,.ptr 0 1 2 0 0),(13,.own 1 x5.length)] [⟨2,[(TConf.lit a2)],0,none⟩,⟨9,x5.map TRun_88.cells,0,none⟩] (by decide) (by decide) ⟨.ptr q,.own q,trivial⟩ ⟨⟨_,q,bcBox (all2_free q)⟩,⟨_,q,bcRow (l:=x5) sl85 (Nat.le_refl _) q⟩,trivial⟩ ?_
       exact hx1 _ h
  ·rw [if_neg c2] at h
   refine .condT q (nt c2)<|.seq<|.reg0 q (.o (mvV q)<|.o (asV q)<|.o (asV q)<|.nil0) ?_
   replace h:=h.symm
   subst h
   refine .k [(8,.rows (([]:List TRun_88).map TRun_88.cells)),(9,i6 x1)] ⟨.nil,.free q q,trivial⟩ ?_
   exact .ret q
 ·by_cases c44:t2_2=0
  ·rw [if_pos c44] at h
   refine .condT q (bt c44) ?_
   obtain ⟨t97_2,g97_2,h⟩:=h
   refine .reg0 q (.o (ldG q sz28 ag28 q)<|.o (ldG q sz36 ag36 q)<|.c q go17 q q q (r12_Check.D g97_2)<|.a q<|.nil0)<|.keepL [0,1,2] [(3,i6 a3),(4,.ptr 0 1 6 0 0),(5,.ptr 1 1 2 0 0),(6,.ptr 2 1 2 0 0),(10,i6 t97_2)] [⟨6,[(TPds.lit a0)],0,none⟩,⟨2,[(TConf.lit a1)],0,none⟩,⟨2,[(TConf.lit a2)],0,none⟩] (by decide) (by decide) ⟨.free q q,.ptr q,.ptr q,.ptr q,.free q q,trivial⟩ ⟨⟨_,q,bcBox (all2_free q)⟩,⟨_,q,bcBox (all2_free q)⟩,⟨_,q,bcBox (all2_free q)⟩,trivial⟩ ?_
   exact hJ1 _ h
  ·rw [if_neg c44] at h
   refine .condF q (bn c44)<|.skip<|.keepL [0,1,2] [(3,i6 a3),(4,.ptr 0 1 6 0 0),(5,.ptr 1 1 2 0 0),(6,.ptr 2 1 2 0 0),(10,i6 t2_2)] [⟨6,[(TPds.lit a0)],0,none⟩,⟨2,[(TConf.lit a1)],0,none⟩,⟨2,[(TConf.lit a2)],0,none⟩] (by decide) (by decide) ⟨.free q q,.ptr q,.ptr q,.ptr q,.free q q,trivial⟩ ⟨⟨_,q,bcBox (all2_free q)⟩,⟨_,q,bcBox (all2_free q)⟩,⟨_,q,bcBox (all2_free q)⟩,trivial⟩ ?_
   exact hJ1 _ h
def r13_Runs.b1 (t2_4:(List TRun_88) × Int):((List (List Int)) × Int)→Rnd (((List (List Int)) × Int)) ((List (List Int))) ((List (List Int)) × Int)→Prop:=fun (x2,x3) z1=>if x3 < (t2_4.1.length:Int) then (((InR x3 t2_4.1.length))∧((Fits (x2.length + 1) 24))∧z1=.next ((x2 ++ [(rdl t2_4.1 x3).L]),(IntKind.i64.wrap (x3 + 1)))) else (z1=.exit x2)
def r13_Runs.f (a0:TPds) (a1:TConf) (a2:TConf) (a3:Int) (r:(List (List Int)) × Int):Prop :=
 ∃ t2_4:(List TRun_88) × Int,(r13_runs.f a0 a1 a2 a3 t2_4)∧∃ o1:Fin ((List (List Int))) ((List (List Int)) × Int),Loop (r13_Runs.b1 t2_4) ([],0) o1∧o1.on (fun x4=>r=(x4,t2_4.2)) (fun r_=>r=r_)
theorem r13_Runs.D {a0 a1 a2 a3 r} (h:r13_Runs.f a0 a1 a2 a3 r):D Tryz.prog X (.callH 12 [.agg (TPds.lit a0),.agg (TConf.lit a1),.agg (TConf.lit a2),.val (.int .i64 a3)] [] (.tuple [.rows (r.1.map (cSl (cInt .i64))),.val (.int .i64 r.2)]) []):=by
 unfold r13_Runs.f at h
 refine .enter 38 0 fn12 q q q<|.seq<|.room 0<|.room 0<|.room 0<|.reg0 q (.o (bxP (s:=6) (cs:=(TPds.lit a0)) q ⟨q,by decide,q⟩ q)<|.op 1 q (bxP (s:=2) (cs:=(TConf.lit a1)) q ⟨q,by decide,q⟩ q)<|.op 2 q (bxP (s:=2) (cs:=(TConf.lit a2)) q ⟨q,by decide,q⟩ q)<|.o (asV q)<|.o (asV q)<|.nil0)<|.seq ?_
 obtain ⟨t2_4,g2_4,h⟩:=h
 refine .reg0 q (.o (ldG q sz28 ag28 q)<|.o (ldG q sz36 ag36 q)<|.o (ldG q sz36 ag36 q)<|.m q<|.c q go35 q q q (r13_runs.D g2_4)<|.o (mvT q)<|.o (exT q q)<|.o (exT q q)<|.o (asR q)<|.a q<|.nil0)<|.seq<|.reg0 q (.o (asV q)<|.nil0)<|.seq<|.seq<|.reg0 q (.o (asV q)<|.nil0)<|.block<|.room 1<|.keepL [3] [(10,.rows (t2_4.1.map TRun_88.cells)),(11,i6 t2_4.2),(12,.own 0 0),(13,i6 0)] [⟨1,[].map (cSl (cInt .i64)),0,none⟩] (by decide) (by decide) ⟨.free q q,.free q q,.nilOwn,.free q q,trivial⟩ ⟨⟨_,q,(bcRow (l:=[]) sl40 (Nat.le_refl _) q)⟩,trivial⟩ ?_
 obtain ⟨o1,hL1,h⟩:=h
 refine .loopB (r13_Runs.b1 t2_4) (fun (x2,x3)=>listEnv [(10,.rows (t2_4.1.map TRun_88.cells)),(11,i6 t2_4.2),(12,.own 0 x2.length),(13,i6 x3)]) (fun (x2,x3)=>[⟨1,x2.map (cSl (cInt .i64)),0,none⟩]) (fun x4=>listEnv [(11,i6 t2_4.2),(12,.own 0 x4.length)]) (fun x4=>[⟨1,x4.map (cSl (cInt .i64)),0,none⟩]) hL1 (fun r_=>r=r_) ?_ ?_ ?_
 ·rintro x4 rfl
  try dsimp only [Fin.on] at h
  refine .seq<|.reg0 q (.o (mvO q)<|.o (mvV q)<|.o (asO q)<|.o (asV q)<|.nil0) ?_
  replace h:=h.symm
  subst h
  refine .k [(8,.rows (x4.map (cSl (cInt .i64)))),(9,i6 t2_4.2)] ⟨cFixO (l:=x4) sl40 q q q q,.free q q,trivial⟩ ?_
  exact .ret q
 ·rintro r_ rfl
  exact h
 ·rintro ⟨x2,x3⟩ z1 h hn1 hx1 hr1
  dsimp only [r13_Runs.b1] at h
  refine .seq<|.seq<|.reg0 q (.o (mvV q)<|.o (mvR q)<|.o (lnR (l:=t2_4.1) sl85 q)<|.o (ltI q q)<|.nil0) ?_
  by_cases c3:x3 < (t2_4.1.length:Int)
  ·rw [if_pos c3] at h
   refine .condT q (dt c3)<|.skip<|.seq<|.block ?_
   obtain ⟨g12_3,h⟩:=h
   obtain ⟨g12_7,h⟩:=h
   refine .room 0<|.room 0<|.reg0 q (.o (mvO q)<|.o (mvR q)<|.o (mvV q)<|.o (ixR (l:=t2_4.1) (lit:=TRun_88.lit) sl85 q q (fun _=>q) g12_3.1 g12_3.2)<|.o (faC fa89_0 q)<|.o (ldC q sz29 ag29 q)<|.op 1 q (bldL (s:=1) (cs:=[.rows ((rdl t2_4.1 x3).L.map (cInt .i64))]) un40 sz29 ze29 ⟨by decide,q,by decide⟩ q q q q)<|.o (ap1 (l:=x2) ((rdl t2_4.1 x3).L) sl40 q q q (Nat.zero_le _) (elems_own (l:=[(rdl t2_4.1 x3).L]) q q) g12_7)<|.o (asO q)<|.nil0) ?_
   refine .inBlock<|.reg0 q (.o (mvV q)<|.o (addI q q)<|.o (asV q)<|.nil0)<|.keepL [0] [(10,.rows (t2_4.1.map TRun_88.cells)),(11,i6 t2_4.2),(12,.own 0 ((x2 ++ [(rdl t2_4.1 x3).L]).length)),(13,i6 (IntKind.i64.wrap (x3 + 1)))] [⟨1,(x2 ++ [(rdl t2_4.1 x3).L]).map (cSl (cInt .i64)),0,none⟩] (by decide) (by decide) ⟨.free q q,.free q q,.own q,.free q q,trivial⟩ ⟨⟨_,q,bcRow (l:=(x2 ++ [(rdl t2_4.1 x3).L])) sl40 (Nat.le_refl _) q⟩,trivial⟩ ?_
   exact hn1 _ h
  ·rw [if_neg c3] at h
   refine .condF q (df c3)<|.exit q<|.keepL [0] [(11,i6 t2_4.2),(12,.own 0 x2.length)] [⟨1,x2.map (cSl (cInt .i64)),0,none⟩] (by decide) (by decide) ⟨.free q q,.own q,trivial⟩ ⟨⟨_,q,bcRow (l:=x2) sl40 (Nat.le_refl _) q⟩,trivial⟩ ?_
   exact hx1 _ h
def r05_zero.step (self72:TSpace→TWeight→Prop) (a0:TSpace) (r:TWeight):Prop :=
 if a0.Tag=5 then (((InR 0 a0.Parts.length))∧∃ t3_4:TWeight,(self72 (rdl a0.Parts 0) t3_4)∧((InR 1 a0.Parts.length))∧∃ t3_9:TWeight,(self72 (rdl a0.Parts 1) t3_9)∧r=(TWeight.mk false 0 (TFacts.mk 0 []) [] [t3_4,t3_9])) else (r=(TWeight.mk true 0 (TFacts.mk 0 []) [] []))
theorem r05_zero.stepD {self72:TSpace→TWeight→Prop} {a0:TSpace} (hs72:∀ z0_ r_,self72 z0_ r_→D Tryz.prog X (.callH 72 [.agg (TSpace.lit z0_)] [] (.agg (TWeight.lit r_)) [])) {r:TWeight} (h:r05_zero.step self72 a0 r):D Tryz.prog X (.callH 72 [.agg (TSpace.lit a0)] [] (.agg (TWeight.lit r)) []):=by
 unfold r05_zero.step at h
 refine .enter 19 0 fn72 q q q<|.seq<|.room 0<|.room 0<|.reg0 q (.o (bxP (s:=3) (cs:=(TSpace.lit a0)) q ⟨q,by decide,q⟩ q)<|.op 1 q (alP (s:=6) ze53 ⟨q,by decide,q⟩ q)<|.nil0)<|.seq<|.seq<|.reg0 q (.o (faP fa25_0 q)<|.o (ldP q sz22 ag22 q)<|.o (eqI q q)<|.nil0) ?_
 by_cases c1:a0.Tag=5
 ·rw [if_pos c1] at h
  refine .condT q (bt c1)<|.seq ?_
  obtain ⟨g3_2,h⟩:=h
  obtain ⟨t3_4,g3_4,h⟩:=h
  obtain ⟨g3_7,h⟩:=h
  obtain ⟨t3_9,g3_9,h⟩:=h
  refine .room 0 ?_
  refine .reg1 (e1:=listEnv [(2,.ptr 1 1 6 0 0)]) (H1:=[⟨3,[(TSpace.lit a0)],0,none⟩,⟨6,[[bo false,i6 0,u6 0,nul,nul,.own 2 ([t3_4,t3_9].length)]],0,none⟩,⟨6,[t3_4,t3_9].map TWeight.cells,0,none⟩]) q ?_ ?_
  ·exact .drawM [(11,17,.agg [bo false,i6 0,u6 0,nul,nul,.own 2 ([t3_4,t3_9].length)]),(10,16,.own 2 ([t3_4,t3_9].length)),(9,15,.agg (TWeight.lit t3_9)),(8,14,.agg (TSpace.lit (rdl a0.Parts 1))),(7,13,.cptr (TSpace.lit (rdl a0.Parts 1)) 0),(6,12,.rows (a0.Parts.map TSpace.cells)),(5,11,.ptr 0 1 3 0 2),(4,10,.agg (TWeight.lit t3_4)),(3,9,.agg (TSpace.lit (rdl a0.Parts 0))),(2,8,.cptr (TSpace.lit (rdl a0.Parts 0)) 0),(1,7,.rows (a0.Parts.map TSpace.cells)),(0,6,.ptr 0 1 3 0 2)] [(12,1,⟨6,[[bo false,i6 0,u6 0,nul,nul,.own 2 ([t3_4,t3_9].length)]],0,none⟩),(10,2,⟨6,[t3_4,t3_9].map TWeight.cells,0,none⟩)] [[],[0],[1,0],[2,1,0],[3,2,1,0],[],[5],[6,5],[7,6,5],[8,7,6,5,4,3,2,1,0],[4,3,2,1,0,9,8,7,6,5],[10,4,3,2,1,0,9,8,7,6,5],[11,10,4,3,2,1,0,9,8,7,6,5]] (by rfl) (by rfl) (by rfl) (by exact ⟨oP (fun _=>faP fa25_2 q) q,oP (fun _=>ldP q sz23 ag23 q) q,oP (fun _=>ixR (l:=a0.Parts) (lit:=TSpace.lit) sl23 q q TSpace.cells_lit g3_2.1 g3_2.2) q,oP (fun _=>ldCG q sz25 ag25 q) q,fun S hS hD hn=>.oneI hS hD hn q q (callee_of q go72 q) (.pure q q (hs72 _ _ g3_4)) q q q,oP (fun _=>faP fa25_2 q) q,oP (fun _=>ldP q sz23 ag23 q) q,oP (fun _=>ixR (l:=a0.Parts) (lit:=TSpace.lit) sl23 q q TSpace.cells_lit g3_7.1 g3_7.2) q,oP (fun _=>ldCG q sz25 ag25 q) q,fun S hS hD hn=>.oneI hS hD hn q q (callee_of q go72 q) (.pure q q (hs72 _ _ g3_9)) q q q,oW 2 (fun _=>bldT (s:=6) (cs:=[bo t3_4.Zero,i6 t3_4.Cost,u6 t3_4.Facts.Gen,.rows (t3_4.Facts.Rows.map (cInt .u64)),.rows (t3_4.Cells.map TCell.cells),.rows (t3_4.Parts.map TWeight.cells),bo t3_9.Zero,i6 t3_9.Cost,u6 t3_9.Facts.Gen,.rows (t3_9.Facts.Rows.map (cInt .u64)),.rows (t3_9.Cells.map TCell.cells),.rows (t3_9.Parts.map TWeight.cells)]) (cf:=TWeight.cells) [t3_4,t3_9] un51 sz53 ze53 ⟨by decide,q,by decide⟩ q q q (by simp only [List.map,TWeight.cells_lit]; rfl) q) q fun _=>q,oP (fun _=>bldS (cs:=[bo false,i6 0,u6 0,nul,nul,.own 2 ([t3_4,t3_9].length)]) ze53 pl53 q q) q,fun S hS hD hn=>.one0 0 q q (stB (cs0:=GK_c0) (cs:=[bo false,i6 0,u6 0,nul,nul,.own 2 ([t3_4,t3_9].length)]) (cs1:=[bo false,i6 0,u6 0,nul,nul,.own 2 ([t3_4,t3_9].length)]) q q sz53 q ⟨Nat.le_of_ble_eq_true q,q⟩ q) (drawE_other _ _ _ _ q) q,trivial⟩) _ (by exact ⟨.ptr q,trivial⟩) (by rfl)
  replace h:=h.symm
  subst h
  refine .k [(2,.cptr [bo false,i6 0,u6 0,.rows (([]:List Int).map (cInt .u64)),.rows (([]:List TCell).map TCell.cells),.rows ([t3_4,t3_9].map TWeight.cells)] 0)] ⟨cFixP q q (.cons (.free q q)<|.cons (.free q q)<|.cons (.free q q)<|.cons (.nil)<|.cons (.nil)<|.cons (cFixO (l:=[t3_4,t3_9]) sl51 q q q q)<|.nil),trivial⟩ ?_
  exact .ret q
 ·rw [if_neg c1] at h
  refine .condF q (bn c1)<|.skip<|.seq<|.reg0 q (.o (bldS (cs:=GK_c1) ze53 pl53 q q)<|.o (stB (cs0:=GK_c0) (cs:=GK_c1) (cs1:=GK_c1) q q sz53 q ⟨Nat.le_of_ble_eq_true q,q⟩ q)<|.nil0) ?_
  replace h:=h.symm
  subst h
  refine .k [(2,.cptr GK_c2 0)] ⟨cFixP q q (.cons (.free q q)<|.cons (.free q q)<|.cons (.free q q)<|.cons (.nil)<|.cons (.nil)<|.cons (.nil)<|.nil),trivial⟩ ?_
  exact .ret q
def r05_zero.fN:Nat→TSpace→TWeight→Prop
 | 0=>fun _ _=>False
 | n + 1=>r05_zero.step (r05_zero.fN n)
theorem r05_zero.ND:∀ (n:Nat) {a0:TSpace} {r:TWeight} (h:r05_zero.fN n a0 r),D Tryz.prog X (.callH 72 [.agg (TSpace.lit a0)] [] (.agg (TWeight.lit r)) [])
 | 0,_,_,h=>h.elim
 | n + 1,_,_,h=>r05_zero.stepD (fun _ _ h=>r05_zero.ND n h) h
def r05_zero.f (a0:TSpace) (r:TWeight):Prop:=∃ n,r05_zero.fN n a0 r
theorem r05_zero.D {a0 r} (h:r05_zero.f a0 r):D Tryz.prog X (.callH 72 [.agg (TSpace.lit a0)] [] (.agg (TWeight.lit r)) []):=by obtain ⟨n,h⟩:=h; exact r05_zero.ND n h
def r05_Zero.f (a0:TSpace) (r:TWeight × Int):Prop :=
 ∃ t2_1:Int,(r05_Space.f a0 t2_1)∧if t2_1=0 then (∃ t3_1:TWeight,(r05_zero.f a0 t3_1)∧r=(t3_1,0)) else (r=((TWeight.mk false 0 (TFacts.mk 0 []) [] []),50))
theorem r05_Zero.D {a0 r} (h:r05_Zero.f a0 r):D Tryz.prog X (.callH 39 [.agg (TSpace.lit a0)] [] (.tuple [.agg (TWeight.lit r.1),.val (.int .i64 r.2)]) []):=by
 unfold r05_Zero.f at h
 refine .enter 10 0 fn39 q q q<|.seq<|.room 0<|.room 0<|.reg0 q (.o (bxP (s:=3) (cs:=(TSpace.lit a0)) q ⟨q,by decide,q⟩ q)<|.op 1 q (alP (s:=6) ze53 ⟨q,by decide,q⟩ q)<|.o (asV q)<|.nil0)<|.seq<|.seq ?_
 obtain ⟨t2_1,g2_1,h⟩:=h
 refine .reg0 q (.o (ldG q sz25 ag25 q)<|.c q go41 q q q (r05_Space.D g2_1)<|.o (neI q q)<|.nil0) ?_
 by_cases c1:t2_1=0
 ·rw [if_pos c1] at h
  refine .condF q (nf c1)<|.skip<|.seq ?_
  obtain ⟨t3_1,g3_1,h⟩:=h
  refine .reg0 q (.o (ldG q sz25 ag25 q)<|.c q go72 q q q (r05_zero.D g3_1)<|.o (stB (cs0:=GK_c0) (cs:=(TWeight.lit t3_1)) (cs1:=(TWeight.lit t3_1)) q q sz53 q ⟨Nat.le_of_ble_eq_true q,q⟩ q)<|.a q<|.nil0) ?_
  replace h:=h.symm
  subst h
  refine .k [(2,.cptr (TWeight.lit t3_1) 0),(3,i6 0)] ⟨cFixP q q (.cons (.free q q)<|.cons (.free q q)<|.cons (.free q q)<|.cons (.free q q)<|.cons (.free q q)<|.cons (.free q q)<|.nil),.free q q,trivial⟩ ?_
  exact .ret q
 ·rw [if_neg c1] at h
  refine .condT q (nt c1)<|.seq<|.reg0 q (.o (bldS (cs:=GK_c0) ze53 pl53 q q)<|.o (stB (cs0:=GK_c0) (cs:=GK_c0) (cs1:=GK_c0) q q sz53 q ⟨Nat.le_of_ble_eq_true q,q⟩ q)<|.o (asV q)<|.nil0) ?_
  replace h:=h.symm
  subst h
  refine .k [(2,.cptr GK_c3 0),(3,i6 50)] ⟨cFixP q q (.cons (.free q q)<|.cons (.free q q)<|.cons (.free q q)<|.cons (.nil)<|.cons (.nil)<|.cons (.nil)<|.nil),.free q q,trivial⟩ ?_
  exact .ret q
def r03_Combine.b1 (a0:Int) (a1:TFacts) (a2:TFacts):((List Int) × Int)→Rnd (((List Int) × Int)) ((List Int)) (TFacts × Int)→Prop:=fun (x2,x3) z1=>if x3 < a0 then (((InR x3 a1.Rows.length))∧((InR x3 a2.Rows.length))∧∃ t13_12:Int,(r03_or.f (rdl a1.Rows x3) (rdl a2.Rows x3) t13_12)∧((Fits (x2.length + 1) 8))∧z1=.next ((x2 ++ [t13_12]),(IntKind.i64.wrap (x3 + 1)))) else (z1=.exit x2)
def r03_Combine.f (a0:Int) (a1:TFacts) (a2:TFacts) (r:TFacts × Int):Prop :=
 ∃ t2_3:Int,(r03_two.f a0 a1 a2 t2_3)∧if t2_3=0 then (∃ t4_4:Int,(r03_or.f a1.Gen a2.Gen t4_4)∧∃ o1:Fin ((List Int)) (TFacts × Int),Loop (r03_Combine.b1 a0 a1 a2) ([],0) o1∧o1.on (fun x4=>∃ t15_1:TFacts,(r03_canon.f (TFacts.mk t4_4 x4) t15_1)∧r=(t15_1,0)) (fun r_=>r=r_)) else (r=((TFacts.mk 0 []),t2_3))
theorem r03_Combine.D {a0 a1 a2 r} (h:r03_Combine.f a0 a1 a2 r):D Tryz.prog X (.callH 55 [.val (.int .i64 a0),.agg (TFacts.lit a1),.agg (TFacts.lit a2)] [] (.tuple [.agg (TFacts.lit r.1),.val (.int .i64 r.2)]) []):=by
 unfold r03_Combine.f at h
 refine .enter 48 0 fn55 q q q<|.seq<|.room 0<|.room 0<|.room 0<|.reg0 q (.o (bxP (s:=2) (cs:=(TFacts.lit a1)) q ⟨q,by decide,q⟩ q)<|.op 1 q (bxP (s:=2) (cs:=(TFacts.lit a2)) q ⟨q,by decide,q⟩ q)<|.op 2 q (alP (s:=2) ze49 ⟨q,by decide,q⟩ q)<|.o (asV q)<|.nil0)<|.seq ?_
 obtain ⟨t2_3,g2_3,h⟩:=h
 refine .reg0 q (.m q<|.o (ldG q sz49 ag49 q)<|.o (ldG q sz49 ag49 q)<|.c q go94 q q q (r03_two.D g2_3)<|.a q<|.nil0)<|.seq<|.seq<|.reg0 q (.o (mvV q)<|.o (neI q q)<|.nil0) ?_
 by_cases c1:t2_3=0
 ·rw [if_pos c1] at h
  refine .condF q (nf c1)<|.skip<|.seq ?_
  obtain ⟨t4_4,g4_4,h⟩:=h
  refine .room 0<|.reg0 q (.o (faP fa49_0 q)<|.o (ldP q sz46 ag46 q)<|.o (faP fa49_0 q)<|.o (ldP q sz46 ag46 q)<|.callI q (callee_of q go95 q) (.pure q q (r03_or.D g4_4))<|.o (bldS (cs:=[u6 t4_4,nul]) ze49 pl49 q q)<|.op 3 q (alP (s:=2) ze49 ⟨q,by decide,q⟩ q)<|.o (stB (cs0:=[u6 0,nul]) (cs:=[u6 t4_4,nul]) (cs1:=[u6 t4_4,nul]) q q sz49 q ⟨Nat.le_of_ble_eq_true q,q⟩ q)<|.nil0) ?_
  refine .seq<|.seq<|.reg0 q (.o (asV q)<|.nil0)<|.block<|.room 1<|.keepL [0,1,2,3,4] [(0,i6 a0),(4,.ptr 0 1 2 0 0),(5,.ptr 1 1 2 0 0),(6,.ptr 2 1 2 0 0),(9,.ptr 3 1 2 0 0),(10,i6 0)] [⟨2,[(TFacts.lit a1)],0,none⟩,⟨2,[(TFacts.lit a2)],0,none⟩,⟨2,[[u6 0,nul]],0,none⟩,⟨2,[[u6 t4_4,.own 4 0]],0,none⟩,⟨1,[].map (cInt .u64),0,none⟩] (by decide) (by decide) ⟨.free q q,.ptr q,.ptr q,.ptr q,.ptr q,.free q q,trivial⟩ ⟨⟨_,q,bcBox (all2_free q)⟩,⟨_,q,bcBox (all2_free q)⟩,⟨_,q,bcBox (all2_free q)⟩,⟨_,q,bcBox (.cons (.free q q)<|.cons (.nilOwn)<|.nil)⟩,⟨_,q,(bcRow (l:=[]) sl47 (Nat.le_refl _) q)⟩,trivial⟩ ?_
  obtain ⟨o1,hL1,h⟩:=h
  refine .loopB (r03_Combine.b1 a0 a1 a2) (fun (x2,x3)=>listEnv [(0,i6 a0),(4,.ptr 0 1 2 0 0),(5,.ptr 1 1 2 0 0),(6,.ptr 2 1 2 0 0),(9,.ptr 3 1 2 0 0),(10,i6 x3)]) (fun (x2,x3)=>[⟨2,[(TFacts.lit a1)],0,none⟩,⟨2,[(TFacts.lit a2)],0,none⟩,⟨2,[[u6 0,nul]],0,none⟩,⟨2,[[u6 t4_4,.own 4 x2.length]],0,none⟩,⟨1,x2.map (cInt .u64),0,none⟩]) (fun x4=>listEnv [(6,.ptr 0 1 2 0 0),(9,.ptr 1 1 2 0 0)]) (fun x4=>[⟨2,[[u6 0,nul]],0,none⟩,⟨2,[[u6 t4_4,.own 2 x4.length]],0,none⟩,⟨1,x4.map (cInt .u64),0,none⟩]) hL1 (fun r_=>r=r_) ?_ ?_ ?_
  ·rintro x4 rfl
   try dsimp only [Fin.on] at h
   refine .seq ?_
   obtain ⟨t15_1,g15_1,h⟩:=h
   refine .reg0 q (.o (ldG q sz49 ag49 q)<|.callI q (callee_of q go96 q) (.lendC (args':=[.agg [u6 t4_4,.rows (x4.map (cInt .u64))]])  [2] true (.cons (cAgg (.cons (.free q q)<|.cons (cFixO (l:=x4) sl47 q q q q)<|.nil))<|.nil) (by decide) q q q q (r03_canon.D g15_1))<|.o (stB (cs0:=[u6 0,nul]) (cs:=(TFacts.lit t15_1)) (cs1:=(TFacts.lit t15_1)) q q sz49 q ⟨Nat.le_of_ble_eq_true q,q⟩ q)<|.a q<|.nil0) ?_
   replace h:=h.symm
   subst h
   refine .k [(6,.cptr (TFacts.lit t15_1) 0),(7,i6 0)] ⟨cFixP q q (.cons (.free q q)<|.cons (.free q q)<|.nil),.free q q,trivial⟩ ?_
   exact .ret q
  ·rintro r_ rfl
   exact h
  ·rintro ⟨x2,x3⟩ z1 h hn1 hx1 hr1
   dsimp only [r03_Combine.b1] at h
   refine .seq<|.seq<|.reg0 q (.o (mvV q)<|.o (mvV q)<|.o (ltI q q)<|.nil0) ?_
   by_cases c4:x3 < a0
   ·rw [if_pos c4] at h
    refine .condT q (dt c4)<|.skip<|.seq<|.block ?_
    obtain ⟨g13_5,h⟩:=h
    obtain ⟨g13_10,h⟩:=h
    obtain ⟨t13_12,g13_12,h⟩:=h
    obtain ⟨g13_14,h⟩:=h
    refine .room 0<|.room 0 ?_
    refine .reg1 (e1:=listEnv [(0,i6 a0),(4,.ptr 0 1 2 0 0),(5,.ptr 1 1 2 0 0),(6,.ptr 2 1 2 0 0),(9,.ptr 3 1 2 0 0),(10,i6 x3)]) (H1:=[⟨2,[(TFacts.lit a1)],0,none⟩,⟨2,[(TFacts.lit a2)],0,none⟩,⟨2,[[u6 0,nul]],0,none⟩,⟨2,[[u6 t4_4,.own 4 ((x2 ++ [t13_12]).length)]],0,none⟩,⟨1,(x2 ++ [t13_12]).map (cInt .u64),0,none⟩,⟨1,[t13_12].map (cInt .u64),0,none⟩,Blk.hole]) q ?_ ?_
    ·exact .drawM [(15,45,.ptr 3 1 2 0 1),(14,44,.own 4 ((x2 ++ [t13_12]).length)),(13,43,.own 5 ([t13_12].length)),(12,42,u6 t13_12),(11,41,u6 (rdl a2.Rows x3)),(10,40,.cptr ((cInt .u64) (rdl a2.Rows x3)) 0),(9,39,i6 x3),(8,38,.rows (a2.Rows.map (cInt .u64))),(7,37,.ptr 1 1 2 0 1),(6,36,u6 (rdl a1.Rows x3)),(5,35,.cptr ((cInt .u64) (rdl a1.Rows x3)) 0),(4,34,i6 x3),(3,33,.rows (a1.Rows.map (cInt .u64))),(2,32,.ptr 0 1 2 0 1),(1,31,.own 4 x2.length),(0,30,.ptr 3 1 2 0 1)] [(16,3,⟨2,[[u6 t4_4,.own 4 ((x2 ++ [t13_12]).length)]],0,none⟩),(14,4,⟨1,(x2 ++ [t13_12]).map (cInt .u64),0,none⟩),(13,5,⟨1,[t13_12].map (cInt .u64),0,none⟩)] [[],[0],[],[2],[],[3,2,4],[5,3,2,4],[],[7],[],[8,7,9],[10,8,7,9],[6,5,3,2,4,11,10,8,7,9],[12,6,5,3,2,4,11,10,8,7,9],[1,0,13,12,6,5,3,2,4,11,10,8,7,9],[0,1,2,3,4,5,6,7,8,9,10,11,12,13,14],[15,0,1,2,3,4,5,6,7,8,9,10,11,12,13,14]] (by rfl) (by rfl) (by rfl) (by exact ⟨oP (fun _=>faP fa49_1 q) q,oP (fun _=>ldP q sz47 ag47 q) q,oP (fun _=>faP fa49_1 q) q,oP (fun _=>ldP q sz47 ag47 q) q,oP (fun _=>mvV q) q,oP (fun _=>ixR (l:=a1.Rows) (lit:=(cInt .u64)) sl47 q q (fun _=>q) g13_5.1 g13_5.2) q,oP (fun _=>ldC q sz46 ag46 q) q,oP (fun _=>faP fa49_1 q) q,oP (fun _=>ldP q sz47 ag47 q) q,oP (fun _=>mvV q) q,oP (fun _=>ixR (l:=a2.Rows) (lit:=(cInt .u64)) sl47 q q (fun _=>q) g13_10.1 g13_10.2) q,oP (fun _=>ldC q sz46 ag46 q) q,fun S hS hD hn=>.oneI hS hD hn q q (callee_of q go95 q) (.pure q q (r03_or.D g13_12)) q q q,oW 5 (fun _=>bldL (s:=1) (cs:=[u6 t13_12]) un47 sz46 ze46 ⟨by decide,q,by decide⟩ q q q q) q fun _=>q,oW 0 (fun _=>ap1 (l:=x2) t13_12 sl47 q q q (Nat.zero_le _) (elems_own (l:=[t13_12]) q q) g13_14) q fun _=>q,oP (fun _=>faP fa49_1 q) q,fun S hS hD hn=>.one0 0 q q (stB (cs0:=[u6 t4_4,.own 4 x2.length]) (cs:=[.own 4 ((x2 ++ [t13_12]).length)]) (cs1:=[u6 t4_4,.own 4 ((x2 ++ [t13_12]).length)]) q q sz47 q ⟨Nat.le_of_ble_eq_true q,q⟩ q) (drawE_other _ _ _ _ q) q,trivial⟩) _ (by exact ⟨.free q q,.ptr q,.ptr q,.ptr q,.ptr q,.free q q,trivial⟩) (by rfl)
    refine .inBlock<|.reg0 q (.o (mvV q)<|.o (addI q q)<|.o (asV q)<|.nil0)<|.keepL [0,1,2,3,4] [(0,i6 a0),(4,.ptr 0 1 2 0 0),(5,.ptr 1 1 2 0 0),(6,.ptr 2 1 2 0 0),(9,.ptr 3 1 2 0 0),(10,i6 (IntKind.i64.wrap (x3 + 1)))] [⟨2,[(TFacts.lit a1)],0,none⟩,⟨2,[(TFacts.lit a2)],0,none⟩,⟨2,[[u6 0,nul]],0,none⟩,⟨2,[[u6 t4_4,.own 4 ((x2 ++ [t13_12]).length)]],0,none⟩,⟨1,(x2 ++ [t13_12]).map (cInt .u64),0,none⟩] (by decide) (by decide) ⟨.free q q,.ptr q,.ptr q,.ptr q,.ptr q,.free q q,trivial⟩ ⟨⟨_,q,bcBox (all2_free q)⟩,⟨_,q,bcBox (all2_free q)⟩,⟨_,q,bcBox (all2_free q)⟩,⟨_,q,bcBox (.cons (.free q q)<|.cons (.own q)<|.nil)⟩,⟨_,q,bcRow (l:=(x2 ++ [t13_12])) sl47 (Nat.le_refl _) q⟩,trivial⟩ ?_
    exact hn1 _ h
   ·rw [if_neg c4] at h
    refine .condF q (df c4)<|.exit q<|.keepL [2,3,4] [(6,.ptr 0 1 2 0 0),(9,.ptr 1 1 2 0 0)] [⟨2,[[u6 0,nul]],0,none⟩,⟨2,[[u6 t4_4,.own 2 x2.length]],0,none⟩,⟨1,x2.map (cInt .u64),0,none⟩] (by decide) (by decide) ⟨.ptr q,.ptr q,trivial⟩ ⟨⟨_,q,bcBox (all2_free q)⟩,⟨_,q,bcBox (.cons (.free q q)<|.cons (.own q)<|.nil)⟩,⟨_,q,bcRow (l:=x2) sl47 (Nat.le_refl _) q⟩,trivial⟩ ?_
    exact hx1 _ h
 ·rw [if_neg c1] at h
  refine .condT q (nt c1)<|.seq<|.reg0 q (.o (bldS (cs:=[u6 0,nul]) ze49 pl49 q q)<|.o (mvV q)<|.o (stB (cs0:=[u6 0,nul]) (cs:=[u6 0,nul]) (cs1:=[u6 0,nul]) q q sz49 q ⟨Nat.le_of_ble_eq_true q,q⟩ q)<|.o (asV q)<|.nil0) ?_
  replace h:=h.symm
  subst h
  refine .k [(6,.cptr [u6 0,.rows (([]:List Int).map (cInt .u64))] 0),(7,i6 t2_3)] ⟨cFixP q q (.cons (.free q q)<|.cons (.nil)<|.nil),.free q q,trivial⟩ ?_
  exact .ret q
end Go.RM.Tryz
