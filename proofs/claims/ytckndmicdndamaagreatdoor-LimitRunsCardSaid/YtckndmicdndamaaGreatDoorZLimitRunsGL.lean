/- GL, for the statement LimitRuns: what it needs, no more. -/
import Derived.Test.YtckndmicdndamaaGreatDoorZLimitRunsGK
set_option linter.unusedVariables false
set_option maxRecDepth 8000
set_option maxHeartbeats 4000000
namespace Go.RM.Tryz
open Go.RM Go.Proofs
def r05_Either.b1 (a0:TSpace) (a1:TWeight) (a2:TWeight):((List TCell) × Int)→Rnd (((List TCell) × Int)) ((List TCell)) TWeight→Prop:=fun (x2,x3) z1=>if x3 < a0.Dim then (((InR x3 a1.Cells.length))∧((InR x3 a2.Cells.length))∧∃ t23_12:TCell,(r05_Joined.f (rdl a1.Cells x3) (rdl a2.Cells x3) t23_12)∧((Fits (x2.length + 1) 24))∧z1=.next ((x2 ++ [t23_12]),(IntKind.i64.wrap (x3 + 1)))) else (z1=.exit x2)
def r05_Either.step (self26:TSpace→TWeight→TWeight→TWeight→Prop) (a0:TSpace) (a1:TWeight) (a2:TWeight) (r:TWeight):Prop :=
 if a1.Zero=true then (r=a2) else (if a2.Zero=true then (r=a1) else (if a0.Tag=2 then (r=(TWeight.mk false (if a2.Cost < a1.Cost then a2.Cost else a1.Cost) (TFacts.mk 0 []) [] [])) else (if a0.Tag=3 then (∃ t12_6:TFacts × Int,(r03_Combine.f a0.Dim a1.Facts a2.Facts t12_6)∧r=(TWeight.mk false 0 t12_6.1 [] [])) else (if a0.Tag=4 then (∃ o1:Fin ((List TCell)) TWeight,Loop (r05_Either.b1 a0 a1 a2) ([],0) o1∧o1.on (fun x4=>r=(TWeight.mk false 0 (TFacts.mk 0 []) x4 [])) (fun r_=>r=r_)) else (if a0.Tag=5 then (((InR 0 a0.Parts.length))∧((InR 0 a1.Parts.length))∧((InR 0 a2.Parts.length))∧∃ t27_12:TWeight,(self26 (rdl a0.Parts 0) (rdl a1.Parts 0) (rdl a2.Parts 0) t27_12)∧((InR 1 a0.Parts.length))∧((InR 1 a1.Parts.length))∧((InR 1 a2.Parts.length))∧∃ t27_25:TWeight,(self26 (rdl a0.Parts 1) (rdl a1.Parts 1) (rdl a2.Parts 1) t27_25)∧r=(TWeight.mk false 0 (TFacts.mk 0 []) [] [t27_12,t27_25])) else (r=(TWeight.mk false 0 (TFacts.mk 0 []) [] [])))))))
abbrev GL_c0:List PV:=[bo false,i6 0,u6 0,nul,nul,nul]
abbrev GL_c1:List PV:=[bo false,i6 0,u6 0,.rows (([]:List Int).map (cInt .u64)),.rows (([]:List TCell).map TCell.cells),.rows (([]:List TWeight).map TWeight.cells)]
theorem r05_Either.stepD {self26:TSpace→TWeight→TWeight→TWeight→Prop} {a0:TSpace} {a1:TWeight} {a2:TWeight} (hs26:∀ z0_ z1_ z2_ r_,self26 z0_ z1_ z2_ r_→D Tryz.prog X (.callH 26 [.agg (TSpace.lit z0_),.agg (TWeight.lit z1_),.agg (TWeight.lit z2_)] [] (.agg (TWeight.lit r_)) [])) {r:TWeight} (h:r05_Either.step self26 a0 a1 a2 r):D Tryz.prog X (.callH 26 [.agg (TSpace.lit a0),.agg (TWeight.lit a1),.agg (TWeight.lit a2)] [] (.agg (TWeight.lit r)) []):=by
 unfold r05_Either.step at h
 refine .enter 94 0 fn26 q q q<|.seq<|.room 0<|.room 0<|.room 0<|.room 0<|.reg0 q (.o (bxP (s:=3) (cs:=(TSpace.lit a0)) q ⟨q,by decide,q⟩ q)<|.op 1 q (bxP (s:=6) (cs:=(TWeight.lit a1)) q ⟨q,by decide,q⟩ q)<|.op 2 q (bxP (s:=6) (cs:=(TWeight.lit a2)) q ⟨q,by decide,q⟩ q)<|.op 3 q (alP (s:=6) ze53 ⟨q,by decide,q⟩ q)<|.nil0) ?_
 refine .seq<|.seq<|.reg0 q (.o (faP fa53_0 q)<|.o (ldP q sz4 ag4 q)<|.nil0) ?_
 by_cases c1:a1.Zero=true
 ·rw [if_pos c1] at h
  refine .condT q c1<|.seq<|.reg0 q (.o (ldG q sz53 ag53 q)<|.o (stB (cs0:=GL_c0) (cs:=(TWeight.lit a2)) (cs1:=(TWeight.lit a2)) q q sz53 q ⟨Nat.le_of_ble_eq_true q,q⟩ q)<|.nil0) ?_
  replace h:=h.symm
  subst h
  refine .k [(6,.cptr (TWeight.lit a2) 0)] ⟨cFixP q q (.cons (.free q q)<|.cons (.free q q)<|.cons (.free q q)<|.cons (.free q q)<|.cons (.free q q)<|.cons (.free q q)<|.nil),trivial⟩ ?_
  exact .ret q
 ·rw [if_neg c1] at h
  refine .condF q (nb c1)<|.skip<|.seq<|.seq<|.reg0 q (.o (faP fa53_0 q)<|.o (ldP q sz4 ag4 q)<|.nil0) ?_
  by_cases c2:a2.Zero=true
  ·rw [if_pos c2] at h
   refine .condT q c2<|.seq<|.reg0 q (.o (ldG q sz53 ag53 q)<|.o (stB (cs0:=GL_c0) (cs:=(TWeight.lit a1)) (cs1:=(TWeight.lit a1)) q q sz53 q ⟨Nat.le_of_ble_eq_true q,q⟩ q)<|.nil0) ?_
   replace h:=h.symm
   subst h
   refine .k [(6,.cptr (TWeight.lit a1) 0)] ⟨cFixP q q (.cons (.free q q)<|.cons (.free q q)<|.cons (.free q q)<|.cons (.free q q)<|.cons (.free q q)<|.cons (.free q q)<|.nil),trivial⟩ ?_
   exact .ret q
  ·rw [if_neg c2] at h
   refine .condF q (nb c2)<|.skip<|.seq<|.room 0<|.reg0 q (.o (bldS (cs:=GL_c0) ze53 pl53 q q)<|.op 4 q (alP (s:=6) ze53 ⟨q,by decide,q⟩ q)<|.o (stB (cs0:=GL_c0) (cs:=GL_c0) (cs1:=GL_c0) q q sz53 q ⟨Nat.le_of_ble_eq_true q,q⟩ q)<|.nil0)<|.seq<|.seq<|.reg0 q (.o (faP fa25_0 q)<|.o (ldP q sz22 ag22 q)<|.nil0) ?_
   refine .block<|.seq<|.reg0 q (.o (eqI q q)<|.o (asV q)<|.nil0) ?_
   by_cases c3:a0.Tag=2
   ·rw [if_pos c3] at h
    refine .condT q (bt c3)<|.reg0 q (.o (faP fa53_1 q)<|.o (ldP q sz3 ag3 q)<|.o (faP fa53_1 q)<|.o (ldP q sz3 ag3 q)<|.o (minI q q)<|.o (faP fa53_1 q)<|.o (stB (cs0:=GL_c0) (cs:=[i6 (if a2.Cost < a1.Cost then a2.Cost else a1.Cost)]) (cs1:=[bo false,i6 (if a2.Cost < a1.Cost then a2.Cost else a1.Cost),u6 0,nul,nul,nul]) q q sz3 q ⟨Nat.le_of_ble_eq_true q,q⟩ q)<|.nil0) ?_
    refine .inBlock<|.seq<|.reg0 q (.o (ldG q sz53 ag53 q)<|.o (stB (cs0:=GL_c0) (cs:=[bo false,i6 (if a2.Cost < a1.Cost then a2.Cost else a1.Cost),u6 0,nul,nul,nul]) (cs1:=[bo false,i6 (if a2.Cost < a1.Cost then a2.Cost else a1.Cost),u6 0,nul,nul,nul]) q q sz53 q ⟨Nat.le_of_ble_eq_true q,q⟩ q)<|.nil0) ?_
    replace h:=h.symm
    subst h
    refine .k [(6,.cptr [bo false,i6 (if a2.Cost < a1.Cost then a2.Cost else a1.Cost),u6 0,.rows (([]:List Int).map (cInt .u64)),.rows (([]:List TCell).map TCell.cells),.rows (([]:List TWeight).map TWeight.cells)] 0)] ⟨cFixP q q (.cons (.free q q)<|.cons (.free q q)<|.cons (.free q q)<|.cons (.nil)<|.cons (.nil)<|.cons (.nil)<|.nil),trivial⟩ ?_
    exact .ret q
   ·rw [if_neg c3] at h
    refine .condF q (bn c3)<|.seq<|.reg0 q (.o (eqI q q)<|.o (asV q)<|.nil0) ?_
    by_cases c4:a0.Tag=3
    ·rw [if_pos c4] at h
     refine .condT q (bt c4) ?_
     obtain ⟨t12_6,g12_6,h⟩:=h
     refine .reg0 q (.o (faP fa25_1 q)<|.o (ldP q sz3 ag3 q)<|.o (faP fa53_2 q)<|.o (ldG q sz49 ag49 q)<|.o (faP fa53_2 q)<|.o (ldG q sz49 ag49 q)<|.c q go55 q q q (r03_Combine.D g12_6)<|.o (mvT q)<|.o (exT q q)<|.o (exT q q)<|.o (faP fa53_2 q)<|.o (stB (cs0:=GL_c0) (cs:=(TFacts.lit t12_6.1)) (cs1:=[bo false,i6 0,u6 t12_6.1.Gen,.rows (t12_6.1.Rows.map (cInt .u64)),nul,nul]) q q sz49 q ⟨Nat.le_of_ble_eq_true q,q⟩ q)<|.nil0) ?_
     refine .inBlock<|.seq<|.reg0 q (.o (ldG q sz53 ag53 q)<|.o (stB (cs0:=GL_c0) (cs:=[bo false,i6 0,u6 t12_6.1.Gen,.rows (t12_6.1.Rows.map (cInt .u64)),nul,nul]) (cs1:=[bo false,i6 0,u6 t12_6.1.Gen,.rows (t12_6.1.Rows.map (cInt .u64)),nul,nul]) q q sz53 q ⟨Nat.le_of_ble_eq_true q,q⟩ q)<|.nil0) ?_
     replace h:=h.symm
     subst h
     refine .k [(6,.cptr [bo false,i6 0,u6 t12_6.1.Gen,.rows (t12_6.1.Rows.map (cInt .u64)),.rows (([]:List TCell).map TCell.cells),.rows (([]:List TWeight).map TWeight.cells)] 0)] ⟨cFixP q q (.cons (.free q q)<|.cons (.free q q)<|.cons (.free q q)<|.cons (.free q q)<|.cons (.nil)<|.cons (.nil)<|.nil),trivial⟩ ?_
     exact .ret q
    ·rw [if_neg c4] at h
     refine .condF q (bn c4)<|.seq<|.reg0 q (.o (eqI q q)<|.o (asV q)<|.nil0) ?_
     by_cases c5:a0.Tag=4
     ·rw [if_pos c5] at h
      refine .condT q (bt c5)<|.seq<|.reg0 q (.o (asV q)<|.nil0)<|.block<|.room 3<|.keepL [0,1,2,3,4,5] [(3,.ptr 0 1 3 0 0),(4,.ptr 1 1 6 0 0),(5,.ptr 2 1 6 0 0),(6,.ptr 3 1 6 0 0),(7,.ptr 4 1 6 0 0),(8,i6 0)] [⟨3,[(TSpace.lit a0)],0,none⟩,⟨6,[(TWeight.lit a1)],0,none⟩,⟨6,[(TWeight.lit a2)],0,none⟩,⟨6,[GL_c0],0,none⟩,⟨6,[[bo false,i6 0,u6 0,nul,.own 5 0,nul]],0,none⟩,⟨3,[].map TCell.cells,0,none⟩] (by decide) (by decide) ⟨.ptr q,.ptr q,.ptr q,.ptr q,.ptr q,.free q q,trivial⟩ ⟨⟨_,q,bcBox (all2_free q)⟩,⟨_,q,bcBox (all2_free q)⟩,⟨_,q,bcBox (all2_free q)⟩,⟨_,q,bcBox (all2_free q)⟩,⟨_,q,bcBox (.cons (.free q q)<|.cons (.free q q)<|.cons (.free q q)<|.cons (.free q q)<|.cons (.nilOwn)<|.cons (.free q q)<|.nil)⟩,⟨_,q,(bcRow (l:=[]) sl50 (Nat.le_refl _) q)⟩,trivial⟩ ?_
      obtain ⟨o1,hL1,h⟩:=h
      refine .loopB (r05_Either.b1 a0 a1 a2) (fun (x2,x3)=>listEnv [(3,.ptr 0 1 3 0 0),(4,.ptr 1 1 6 0 0),(5,.ptr 2 1 6 0 0),(6,.ptr 3 1 6 0 0),(7,.ptr 4 1 6 0 0),(8,i6 x3)]) (fun (x2,x3)=>[⟨3,[(TSpace.lit a0)],0,none⟩,⟨6,[(TWeight.lit a1)],0,none⟩,⟨6,[(TWeight.lit a2)],0,none⟩,⟨6,[GL_c0],0,none⟩,⟨6,[[bo false,i6 0,u6 0,nul,.own 5 x2.length,nul]],0,none⟩,⟨3,x2.map TCell.cells,0,none⟩]) (fun x4=>listEnv [(6,.ptr 0 1 6 0 0),(7,.ptr 1 1 6 0 0)]) (fun x4=>[⟨6,[GL_c0],0,none⟩,⟨6,[[bo false,i6 0,u6 0,nul,.own 2 x4.length,nul]],0,none⟩,⟨3,x4.map TCell.cells,0,none⟩]) hL1 (fun r_=>r=r_) ?_ ?_ ?_
      ·rintro x4 rfl
       try dsimp only [Fin.on] at h
       refine .inBlock<|.seq<|.reg0 q (.o (ldG q sz53 ag53 q)<|.o (stB (cs0:=GL_c0) (cs:=[bo false,i6 0,u6 0,nul,.own 2 x4.length,nul]) (cs1:=[bo false,i6 0,u6 0,nul,.own 2 x4.length,nul]) q q sz53 q ⟨Nat.le_of_ble_eq_true q,q⟩ q)<|.nil0) ?_
       replace h:=h.symm
       subst h
       refine .k [(6,.cptr [bo false,i6 0,u6 0,.rows (([]:List Int).map (cInt .u64)),.rows (x4.map TCell.cells),.rows (([]:List TWeight).map TWeight.cells)] 0)] ⟨cFixP q q (.cons (.free q q)<|.cons (.free q q)<|.cons (.free q q)<|.cons (.nil)<|.cons (cFixO (l:=x4) sl50 q q q q)<|.cons (.nil)<|.nil),trivial⟩ ?_
       exact .ret q
      ·rintro r_ rfl
       exact h
      ·rintro ⟨x2,x3⟩ z1 h hn1 hx1 hr1
       dsimp only [r05_Either.b1] at h
       refine .seq<|.seq<|.reg0 q (.o (mvV q)<|.o (faP fa25_1 q)<|.o (ldP q sz3 ag3 q)<|.o (ltI q q)<|.nil0) ?_
       by_cases c8:x3 < a0.Dim
       ·rw [if_pos c8] at h
        refine .condT q (dt c8)<|.skip<|.seq<|.block ?_
        obtain ⟨g23_5,h⟩:=h
        obtain ⟨g23_10,h⟩:=h
        obtain ⟨t23_12,g23_12,h⟩:=h
        obtain ⟨g23_14,h⟩:=h
        refine .room 0<|.room 0 ?_
        refine .reg1 (e1:=listEnv [(3,.ptr 0 1 3 0 0),(4,.ptr 1 1 6 0 0),(5,.ptr 2 1 6 0 0),(6,.ptr 3 1 6 0 0),(7,.ptr 4 1 6 0 0),(8,i6 x3)]) (H1:=[⟨3,[(TSpace.lit a0)],0,none⟩,⟨6,[(TWeight.lit a1)],0,none⟩,⟨6,[(TWeight.lit a2)],0,none⟩,⟨6,[GL_c0],0,none⟩,⟨6,[[bo false,i6 0,u6 0,nul,.own 5 ((x2 ++ [t23_12]).length),nul]],0,none⟩,⟨3,(x2 ++ [t23_12]).map TCell.cells,0,none⟩,⟨3,[t23_12].map TCell.cells,0,none⟩,Blk.hole]) q ?_ ?_
        ·exact .drawM [(15,62,.ptr 4 1 6 0 4),(14,61,.own 5 ((x2 ++ [t23_12]).length)),(13,60,.own 6 ([t23_12].length)),(12,59,.agg (TCell.lit t23_12)),(11,58,.agg (TCell.lit (rdl a2.Cells x3))),(10,57,.cptr (TCell.lit (rdl a2.Cells x3)) 0),(9,56,i6 x3),(8,55,.rows (a2.Cells.map TCell.cells)),(7,54,.ptr 2 1 6 0 4),(6,53,.agg (TCell.lit (rdl a1.Cells x3))),(5,52,.cptr (TCell.lit (rdl a1.Cells x3)) 0),(4,51,i6 x3),(3,50,.rows (a1.Cells.map TCell.cells)),(2,49,.ptr 1 1 6 0 4),(1,48,.own 5 x2.length),(0,47,.ptr 4 1 6 0 4)] [(16,4,⟨6,[[bo false,i6 0,u6 0,nul,.own 5 ((x2 ++ [t23_12]).length),nul]],0,none⟩),(14,5,⟨3,(x2 ++ [t23_12]).map TCell.cells,0,none⟩),(13,6,⟨3,[t23_12].map TCell.cells,0,none⟩)] [[],[0],[],[2],[],[3,2,4],[5,3,2,4],[],[7],[],[8,7,9],[10,8,7,9],[6,5,3,2,4,11,10,8,7,9],[12,6,5,3,2,4,11,10,8,7,9],[1,0,13,12,6,5,3,2,4,11,10,8,7,9],[0,1,2,3,4,5,6,7,8,9,10,11,12,13,14],[15,0,1,2,3,4,5,6,7,8,9,10,11,12,13,14]] (by rfl) (by rfl) (by rfl) (by exact ⟨oP (fun _=>faP fa53_3 q) q,oP (fun _=>ldP q sz50 ag50 q) q,oP (fun _=>faP fa53_3 q) q,oP (fun _=>ldP q sz50 ag50 q) q,oP (fun _=>mvV q) q,oP (fun _=>ixR (l:=a1.Cells) (lit:=TCell.lit) sl50 q q (fun _=>q) g23_5.1 g23_5.2) q,oP (fun _=>ldCG q sz97 ag97 q) q,oP (fun _=>faP fa53_3 q) q,oP (fun _=>ldP q sz50 ag50 q) q,oP (fun _=>mvV q) q,oP (fun _=>ixR (l:=a2.Cells) (lit:=TCell.lit) sl50 q q (fun _=>q) g23_10.1 g23_10.2) q,oP (fun _=>ldCG q sz97 ag97 q) q,fun S hS hD hn=>.oneI hS hD hn q q (callee_of q go56 q) (.pure q q (r05_Joined.D g23_12)) q q q,oW 6 (fun _=>bldL (s:=3) (cs:=[u6 t23_12.From,i6 t23_12.Kind,i6 t23_12.K]) un50 sz97 ze97 ⟨by decide,q,by decide⟩ q q q q) q fun _=>q,oW 0 (fun _=>ap1 (l:=x2) t23_12 sl50 q q q (Nat.zero_le _) (elems_own (l:=[t23_12]) q q) g23_14) q fun _=>q,oP (fun _=>faP fa53_3 q) q,fun S hS hD hn=>.one0 0 q q (stB (cs0:=[bo false,i6 0,u6 0,nul,.own 5 x2.length,nul]) (cs:=[.own 5 ((x2 ++ [t23_12]).length)]) (cs1:=[bo false,i6 0,u6 0,nul,.own 5 ((x2 ++ [t23_12]).length),nul]) q q sz50 q ⟨Nat.le_of_ble_eq_true q,q⟩ q) (drawE_other _ _ _ _ q) q,trivial⟩) _ (by exact ⟨.ptr q,.ptr q,.ptr q,.ptr q,.ptr q,.free q q,trivial⟩) (by rfl)
        refine .inBlock<|.reg0 q (.o (mvV q)<|.o (addI q q)<|.o (asV q)<|.nil0)<|.keepL [0,1,2,3,4,5] [(3,.ptr 0 1 3 0 0),(4,.ptr 1 1 6 0 0),(5,.ptr 2 1 6 0 0),(6,.ptr 3 1 6 0 0),(7,.ptr 4 1 6 0 0),(8,i6 (IntKind.i64.wrap (x3 + 1)))] [⟨3,[(TSpace.lit a0)],0,none⟩,⟨6,[(TWeight.lit a1)],0,none⟩,⟨6,[(TWeight.lit a2)],0,none⟩,⟨6,[GL_c0],0,none⟩,⟨6,[[bo false,i6 0,u6 0,nul,.own 5 ((x2 ++ [t23_12]).length),nul]],0,none⟩,⟨3,(x2 ++ [t23_12]).map TCell.cells,0,none⟩] (by decide) (by decide) ⟨.ptr q,.ptr q,.ptr q,.ptr q,.ptr q,.free q q,trivial⟩ ⟨⟨_,q,bcBox (all2_free q)⟩,⟨_,q,bcBox (all2_free q)⟩,⟨_,q,bcBox (all2_free q)⟩,⟨_,q,bcBox (all2_free q)⟩,⟨_,q,bcBox (.cons (.free q q)<|.cons (.free q q)<|.cons (.free q q)<|.cons (.free q q)<|.cons (.own q)<|.cons (.free q q)<|.nil)⟩,⟨_,q,bcRow (l:=(x2 ++ [t23_12])) sl50 (Nat.le_refl _) q⟩,trivial⟩ ?_
        exact hn1 _ h
       ·rw [if_neg c8] at h
        refine .condF q (df c8)<|.exit q<|.keepL [3,4,5] [(6,.ptr 0 1 6 0 0),(7,.ptr 1 1 6 0 0)] [⟨6,[GL_c0],0,none⟩,⟨6,[[bo false,i6 0,u6 0,nul,.own 2 x2.length,nul]],0,none⟩,⟨3,x2.map TCell.cells,0,none⟩] (by decide) (by decide) ⟨.ptr q,.ptr q,trivial⟩ ⟨⟨_,q,bcBox (all2_free q)⟩,⟨_,q,bcBox (.cons (.free q q)<|.cons (.free q q)<|.cons (.free q q)<|.cons (.free q q)<|.cons (.own q)<|.cons (.free q q)<|.nil)⟩,⟨_,q,bcRow (l:=x2) sl50 (Nat.le_refl _) q⟩,trivial⟩ ?_
        exact hx1 _ h
     ·rw [if_neg c5] at h
      refine .condF q (bn c5)<|.seq<|.reg0 q (.o (eqI q q)<|.o (asV q)<|.nil0) ?_
      by_cases c9:a0.Tag=5
      ·rw [if_pos c9] at h
       refine .condT q (bt c9) ?_
       obtain ⟨g27_2,h⟩:=h
       obtain ⟨g27_6,h⟩:=h
       obtain ⟨g27_10,h⟩:=h
       obtain ⟨t27_12,g27_12,h⟩:=h
       obtain ⟨g27_15,h⟩:=h
       obtain ⟨g27_19,h⟩:=h
       obtain ⟨g27_23,h⟩:=h
       obtain ⟨t27_25,g27_25,h⟩:=h
       refine .room 0 ?_
       refine .reg1 (e1:=listEnv [(6,.ptr 3 1 6 0 0),(7,.ptr 4 1 6 0 0)]) (H1:=[⟨3,[(TSpace.lit a0)],0,none⟩,⟨6,[(TWeight.lit a1)],0,none⟩,⟨6,[(TWeight.lit a2)],0,none⟩,⟨6,[GL_c0],0,none⟩,⟨6,[[bo false,i6 0,u6 0,nul,nul,.own 5 ([t27_12,t27_25].length)]],0,none⟩,⟨6,[t27_12,t27_25].map TWeight.cells,0,none⟩]) q ?_ ?_
       ·exact .drawM [(27,92,.ptr 4 1 6 0 5),(26,91,.own 5 ([t27_12,t27_25].length)),(25,90,.agg (TWeight.lit t27_25)),(24,89,.agg (TWeight.lit (rdl a2.Parts 1))),(23,88,.cptr (TWeight.lit (rdl a2.Parts 1)) 0),(22,87,.rows (a2.Parts.map TWeight.cells)),(21,86,.ptr 2 1 6 0 5),(20,85,.agg (TWeight.lit (rdl a1.Parts 1))),(19,84,.cptr (TWeight.lit (rdl a1.Parts 1)) 0),(18,83,.rows (a1.Parts.map TWeight.cells)),(17,82,.ptr 1 1 6 0 5),(16,81,.agg (TSpace.lit (rdl a0.Parts 1))),(15,80,.cptr (TSpace.lit (rdl a0.Parts 1)) 0),(14,79,.rows (a0.Parts.map TSpace.cells)),(13,78,.ptr 0 1 3 0 2),(12,77,.agg (TWeight.lit t27_12)),(11,76,.agg (TWeight.lit (rdl a2.Parts 0))),(10,75,.cptr (TWeight.lit (rdl a2.Parts 0)) 0),(9,74,.rows (a2.Parts.map TWeight.cells)),(8,73,.ptr 2 1 6 0 5),(7,72,.agg (TWeight.lit (rdl a1.Parts 0))),(6,71,.cptr (TWeight.lit (rdl a1.Parts 0)) 0),(5,70,.rows (a1.Parts.map TWeight.cells)),(4,69,.ptr 1 1 6 0 5),(3,68,.agg (TSpace.lit (rdl a0.Parts 0))),(2,67,.cptr (TSpace.lit (rdl a0.Parts 0)) 0),(1,66,.rows (a0.Parts.map TSpace.cells)),(0,65,.ptr 0 1 3 0 2)] [(28,4,⟨6,[[bo false,i6 0,u6 0,nul,nul,.own 5 ([t27_12,t27_25].length)]],0,none⟩),(26,5,⟨6,[t27_12,t27_25].map TWeight.cells,0,none⟩)] [[],[0],[1,0],[2,1,0],[],[4],[5,4],[6,5,4],[],[8],[9,8],[10,9,8],[3,2,1,0,7,6,5,4,11,10,9,8],[],[13],[14,13],[15,14,13],[],[17],[18,17],[19,18,17],[],[21],[22,21],[23,22,21],[16,15,14,13,20,19,18,17,24,23,22,21,12,3,2,1,0,7,6,5,4,11,10,9,8],[12,3,2,1,0,7,6,5,4,11,10,9,8,25,16,15,14,13,20,19,18,17,24,23,22,21],[0,1,2,3,4,5,6,7,8,9,10,11,12,13,14,15,16,17,18,19,20,21,22,23,24,25,26],[27,0,1,2,3,4,5,6,7,8,9,10,11,12,13,14,15,16,17,18,19,20,21,22,23,24,25,26]] (by rfl) (by rfl) (by rfl) (by exact ⟨oP (fun _=>faP fa25_2 q) q,oP (fun _=>ldP q sz23 ag23 q) q,oP (fun _=>ixR (l:=a0.Parts) (lit:=TSpace.lit) sl23 q q TSpace.cells_lit g27_2.1 g27_2.2) q,oP (fun _=>ldCG q sz25 ag25 q) q,oP (fun _=>faP fa53_4 q) q,oP (fun _=>ldP q sz51 ag51 q) q,oP (fun _=>ixR (l:=a1.Parts) (lit:=TWeight.lit) sl51 q q TWeight.cells_lit g27_6.1 g27_6.2) q,oP (fun _=>ldCG q sz53 ag53 q) q,oP (fun _=>faP fa53_4 q) q,oP (fun _=>ldP q sz51 ag51 q) q,oP (fun _=>ixR (l:=a2.Parts) (lit:=TWeight.lit) sl51 q q TWeight.cells_lit g27_10.1 g27_10.2) q,oP (fun _=>ldCG q sz53 ag53 q) q,fun S hS hD hn=>.oneI hS hD hn q q (callee_of q go26 q) (.pure q q (hs26 _ _ _ _ g27_12)) q q q,oP (fun _=>faP fa25_2 q) q,oP (fun _=>ldP q sz23 ag23 q) q,oP (fun _=>ixR (l:=a0.Parts) (lit:=TSpace.lit) sl23 q q TSpace.cells_lit g27_15.1 g27_15.2) q,oP (fun _=>ldCG q sz25 ag25 q) q,oP (fun _=>faP fa53_4 q) q,oP (fun _=>ldP q sz51 ag51 q) q,oP (fun _=>ixR (l:=a1.Parts) (lit:=TWeight.lit) sl51 q q TWeight.cells_lit g27_19.1 g27_19.2) q,oP (fun _=>ldCG q sz53 ag53 q) q,oP (fun _=>faP fa53_4 q) q,oP (fun _=>ldP q sz51 ag51 q) q,oP (fun _=>ixR (l:=a2.Parts) (lit:=TWeight.lit) sl51 q q TWeight.cells_lit g27_23.1 g27_23.2) q,oP (fun _=>ldCG q sz53 ag53 q) q,fun S hS hD hn=>.oneI hS hD hn q q (callee_of q go26 q) (.pure q q (hs26 _ _ _ _ g27_25)) q q q,oW 5 (fun _=>bldT (s:=6) (cs:=[bo t27_12.Zero,i6 t27_12.Cost,u6 t27_12.Facts.Gen,.rows (t27_12.Facts.Rows.map (cInt .u64)),.rows (t27_12.Cells.map TCell.cells),.rows (t27_12.Parts.map TWeight.cells),bo t27_25.Zero,i6 t27_25.Cost,u6 t27_25.Facts.Gen,.rows (t27_25.Facts.Rows.map (cInt .u64)),.rows (t27_25.Cells.map TCell.cells),.rows (t27_25.Parts.map TWeight.cells)]) (cf:=TWeight.cells) [t27_12,t27_25] un51 sz53 ze53 ⟨by decide,q,by decide⟩ q q q (by simp only [List.map,TWeight.cells_lit]; rfl) q) q fun _=>q,oP (fun _=>faP fa53_4 q) q,fun S hS hD hn=>.one0 0 q q (stB (cs0:=GL_c0) (cs:=[.own 5 ([t27_12,t27_25].length)]) (cs1:=[bo false,i6 0,u6 0,nul,nul,.own 5 ([t27_12,t27_25].length)]) q q sz51 q ⟨Nat.le_of_ble_eq_true q,q⟩ q) (drawE_other _ _ _ _ q) q,trivial⟩) _ (by exact ⟨.ptr q,.ptr q,trivial⟩) (by rfl)
       refine .inBlock<|.seq<|.reg0 q (.o (ldG q sz53 ag53 q)<|.o (stB (cs0:=GL_c0) (cs:=[bo false,i6 0,u6 0,nul,nul,.own 5 ([t27_12,t27_25].length)]) (cs1:=[bo false,i6 0,u6 0,nul,nul,.own 5 ([t27_12,t27_25].length)]) q q sz53 q ⟨Nat.le_of_ble_eq_true q,q⟩ q)<|.nil0) ?_
       replace h:=h.symm
       subst h
       refine .k [(6,.cptr [bo false,i6 0,u6 0,.rows (([]:List Int).map (cInt .u64)),.rows (([]:List TCell).map TCell.cells),.rows ([t27_12,t27_25].map TWeight.cells)] 0)] ⟨cFixP q q (.cons (.free q q)<|.cons (.free q q)<|.cons (.free q q)<|.cons (.nil)<|.cons (.nil)<|.cons (cFixO (l:=[t27_12,t27_25]) sl51 q q q q)<|.nil),trivial⟩ ?_
       exact .ret q
      ·rw [if_neg c9] at h
       refine .condF q (bn c9)<|.skip<|.inBlock<|.seq<|.reg0 q (.o (ldG q sz53 ag53 q)<|.o (stB (cs0:=GL_c0) (cs:=GL_c0) (cs1:=GL_c0) q q sz53 q ⟨Nat.le_of_ble_eq_true q,q⟩ q)<|.nil0) ?_
       replace h:=h.symm
       subst h
       refine .k [(6,.cptr GL_c1 0)] ⟨cFixP q q (.cons (.free q q)<|.cons (.free q q)<|.cons (.free q q)<|.cons (.nil)<|.cons (.nil)<|.cons (.nil)<|.nil),trivial⟩ ?_
       exact .ret q
def r05_Either.fN:Nat→TSpace→TWeight→TWeight→TWeight→Prop
 | 0=>fun _ _ _ _=>False
 | n + 1=>r05_Either.step (r05_Either.fN n)
theorem r05_Either.ND:∀ (n:Nat) {a0:TSpace} {a1:TWeight} {a2:TWeight} {r:TWeight} (h:r05_Either.fN n a0 a1 a2 r),D Tryz.prog X (.callH 26 [.agg (TSpace.lit a0),.agg (TWeight.lit a1),.agg (TWeight.lit a2)] [] (.agg (TWeight.lit r)) [])
 | 0,_,_,_,_,h=>h.elim
 | n + 1,_,_,_,_,h=>r05_Either.stepD (fun _ _ _ _ h=>r05_Either.ND n h) h
def r05_Either.f (a0:TSpace) (a1:TWeight) (a2:TWeight) (r:TWeight):Prop:=∃ n,r05_Either.fN n a0 a1 a2 r
theorem r05_Either.D {a0 a1 a2 r} (h:r05_Either.f a0 a1 a2 r):D Tryz.prog X (.callH 26 [.agg (TSpace.lit a0),.agg (TWeight.lit a1),.agg (TWeight.lit a2)] [] (.agg (TWeight.lit r)) []):=by obtain ⟨n,h⟩:=h; exact r05_Either.ND n h
def r13_Worth.b1 (a0:TPds) (t2_4:(List TRun_88) × Int):(Bool × Int × Int × (List Int) × (List TCell) × (List TWeight) × Int)→Rnd ((Bool × Int × Int × (List Int) × (List TCell) × (List TWeight) × Int)) ((Bool × Int × Int × (List Int) × (List TCell) × (List TWeight))) (TWeight × Int)→Prop:=fun (x1,x2,x3,x4,x5,x6,x7) z1=>if x7 < (t2_4.1.length:Int) then (((InR x7 t2_4.1.length))∧∃ t13_8:TWeight,(r05_Either.f a0.Space (TWeight.mk x1 x2 (TFacts.mk x3 x4) x5 x6) ((rdl t2_4.1 x7).W) t13_8)∧z1=.next (t13_8.Zero,t13_8.Cost,t13_8.Facts.Gen,t13_8.Facts.Rows,t13_8.Cells,t13_8.Parts,(IntKind.i64.wrap (x7 + 1)))) else (z1=.exit (x1,x2,x3,x4,x5,x6))
def r13_Worth.f (a0:TPds) (a1:TConf) (a2:TConf) (a3:Int) (r:TWeight × Int):Prop :=
 ∃ t2_4:(List TRun_88) × Int,(r13_runs.f a0 a1 a2 a3 t2_4)∧if t2_4.2=0 then (∃ t4_2:TWeight × Int,(r05_Zero.f a0.Space t4_2)∧∃ o1:Fin ((Bool × Int × Int × (List Int) × (List TCell) × (List TWeight))) (TWeight × Int),Loop (r13_Worth.b1 a0 t2_4) (t4_2.1.Zero,t4_2.1.Cost,t4_2.1.Facts.Gen,t4_2.1.Facts.Rows,t4_2.1.Cells,t4_2.1.Parts,0) o1∧o1.on (fun (x8,x9,x10,x11,x12,x13)=>r=((TWeight.mk x8 x9 (TFacts.mk x10 x11) x12 x13),0)) (fun r_=>r=r_)) else (r=((TWeight.mk false 0 (TFacts.mk 0 []) [] []),t2_4.2))
theorem r13_Worth.D {a0 a1 a2 a3 r} (h:r13_Worth.f a0 a1 a2 a3 r):D Tryz.prog X (.callH 14 [.agg (TPds.lit a0),.agg (TConf.lit a1),.agg (TConf.lit a2),.val (.int .i64 a3)] [] (.tuple [.agg (TWeight.lit r.1),.val (.int .i64 r.2)]) []):=by
 unfold r13_Worth.f at h
 refine .enter 49 0 fn14 q q q<|.seq<|.room 0<|.room 0<|.room 0<|.room 0<|.reg0 q (.o (bxP (s:=6) (cs:=(TPds.lit a0)) q ⟨q,by decide,q⟩ q)<|.op 1 q (bxP (s:=2) (cs:=(TConf.lit a1)) q ⟨q,by decide,q⟩ q)<|.op 2 q (bxP (s:=2) (cs:=(TConf.lit a2)) q ⟨q,by decide,q⟩ q)<|.op 3 q (alP (s:=6) ze53 ⟨q,by decide,q⟩ q)<|.o (asV q)<|.nil0) ?_
 refine .seq ?_
 obtain ⟨t2_4,g2_4,h⟩:=h
 refine .reg0 q (.o (ldG q sz28 ag28 q)<|.o (ldG q sz36 ag36 q)<|.o (ldG q sz36 ag36 q)<|.m q<|.c q go35 q q q (r13_runs.D g2_4)<|.o (mvT q)<|.o (exT q q)<|.o (exT q q)<|.o (asR q)<|.a q<|.nil0)<|.seq<|.seq<|.reg0 q (.o (mvV q)<|.o (neI q q)<|.nil0) ?_
 by_cases c1:t2_4.2=0
 ·rw [if_pos c1] at h
  refine .condF q (nf c1)<|.skip<|.seq ?_
  obtain ⟨t4_2,g4_2,h⟩:=h
  refine .room 0<|.reg0 q (.o (faP fa28_0 q)<|.o (ldG q sz25 ag25 q)<|.callI q (callee_of q go39 q) (.pure q q (r05_Zero.D g4_2))<|.o (mvT q)<|.o (exT q q)<|.o (exT q q)<|.op 4 q (alP (s:=6) ze53 ⟨q,by decide,q⟩ q)<|.o (stB (cs0:=GL_c0) (cs:=(TWeight.lit t4_2.1)) (cs1:=(TWeight.lit t4_2.1)) q q sz53 q ⟨Nat.le_of_ble_eq_true q,q⟩ q)<|.o (asV q)<|.nil0) ?_
  refine .seq<|.seq<|.reg0 q (.o (asV q)<|.nil0)<|.block<|.keepL [0,3,4] [(4,.ptr 0 1 6 0 0),(8,.ptr 1 1 6 0 0),(10,.rows (t2_4.1.map TRun_88.cells)),(12,.ptr 2 1 6 0 0),(14,i6 0)] [⟨6,[(TPds.lit a0)],0,none⟩,⟨6,[GL_c0],0,none⟩,⟨6,[(TWeight.lit t4_2.1)],0,none⟩] (by decide) (by decide) ⟨.ptr q,.ptr q,.free q q,.ptr q,.free q q,trivial⟩ ⟨⟨_,q,bcBox (all2_free q)⟩,⟨_,q,bcBox (all2_free q)⟩,⟨_,q,bcBox (all2_free q)⟩,trivial⟩ ?_
  obtain ⟨o1,hL1,h⟩:=h
  refine .loopB (r13_Worth.b1 a0 t2_4) (fun (x1,x2,x3,x4,x5,x6,x7)=>listEnv [(4,.ptr 0 1 6 0 0),(8,.ptr 1 1 6 0 0),(10,.rows (t2_4.1.map TRun_88.cells)),(12,.ptr 2 1 6 0 0),(14,i6 x7)]) (fun (x1,x2,x3,x4,x5,x6,x7)=>[⟨6,[(TPds.lit a0)],0,none⟩,⟨6,[GL_c0],0,none⟩,⟨6,[[bo x1,i6 x2,u6 x3,.rows (x4.map (cInt .u64)),.rows (x5.map TCell.cells),.rows (x6.map TWeight.cells)]],0,none⟩]) (fun (x8,x9,x10,x11,x12,x13)=>listEnv [(8,.ptr 0 1 6 0 0),(12,.ptr 1 1 6 0 0)]) (fun (x8,x9,x10,x11,x12,x13)=>[⟨6,[GL_c0],0,none⟩,⟨6,[[bo x8,i6 x9,u6 x10,.rows (x11.map (cInt .u64)),.rows (x12.map TCell.cells),.rows (x13.map TWeight.cells)]],0,none⟩]) hL1 (fun r_=>r=r_) ?_ ?_ ?_
  ·rintro ⟨x8,x9,x10,x11,x12,x13⟩ rfl
   try dsimp only [Fin.on] at h
   refine .seq<|.reg0 q (.o (ldG q sz53 ag53 q)<|.o (stB (cs0:=GL_c0) (cs:=[bo x8,i6 x9,u6 x10,.rows (x11.map (cInt .u64)),.rows (x12.map TCell.cells),.rows (x13.map TWeight.cells)]) (cs1:=[bo x8,i6 x9,u6 x10,.rows (x11.map (cInt .u64)),.rows (x12.map TCell.cells),.rows (x13.map TWeight.cells)]) q q sz53 q ⟨Nat.le_of_ble_eq_true q,q⟩ q)<|.o (asV q)<|.nil0) ?_
   replace h:=h.symm
   subst h
   refine .k [(8,.cptr [bo x8,i6 x9,u6 x10,.rows (x11.map (cInt .u64)),.rows (x12.map TCell.cells),.rows (x13.map TWeight.cells)] 0),(9,i6 0)] ⟨cFixP q q (.cons (.free q q)<|.cons (.free q q)<|.cons (.free q q)<|.cons (.free q q)<|.cons (.free q q)<|.cons (.free q q)<|.nil),.free q q,trivial⟩ ?_
   exact .ret q
  ·rintro r_ rfl
   exact h
  ·rintro ⟨x1,x2,x3,x4,x5,x6,x7⟩ z1 h hn1 hx1 hr1
   dsimp only [r13_Worth.b1] at h
   refine .seq<|.seq<|.reg0 q (.o (mvV q)<|.o (mvR q)<|.o (lnR (l:=t2_4.1) sl85 q)<|.o (ltI q q)<|.nil0) ?_
   by_cases c4:x7 < (t2_4.1.length:Int)
   ·rw [if_pos c4] at h
    refine .condT q (dt c4)<|.skip<|.seq<|.block ?_
    obtain ⟨g13_5,h⟩:=h
    obtain ⟨t13_8,g13_8,h⟩:=h
    refine .reg1 (e1:=listEnv [(4,.ptr 0 1 6 0 0),(8,.ptr 1 1 6 0 0),(10,.rows (t2_4.1.map TRun_88.cells)),(12,.ptr 2 1 6 0 0),(14,i6 x7)]) (H1:=[⟨6,[(TPds.lit a0)],0,none⟩,⟨6,[GL_c0],0,none⟩,⟨6,[(TWeight.lit t13_8)],0,none⟩]) q ?_ ?_
    ·exact .drawM [(8,47,.agg (TWeight.lit t13_8)),(7,46,.agg (TWeight.lit ((rdl t2_4.1 x7).W))),(6,45,.cptr (TRun_88.lit (rdl t2_4.1 x7)) 3),(5,44,.cptr (TRun_88.lit (rdl t2_4.1 x7)) 0),(4,43,i6 x7),(3,42,.rows (t2_4.1.map TRun_88.cells)),(2,41,.agg [bo x1,i6 x2,u6 x3,.rows (x4.map (cInt .u64)),.rows (x5.map TCell.cells),.rows (x6.map TWeight.cells)]),(1,40,.agg (TSpace.lit a0.Space)),(0,39,.ptr 0 1 6 0 0)] [(9,2,⟨6,[(TWeight.lit t13_8)],0,none⟩)] [[],[0],[],[],[],[3,4],[5,3,4],[6,5,3,4],[1,0,2,7,6,5,3,4],[8,1,0,2,7,6,5,3,4]] (by rfl) (by rfl) (by rfl) (by exact ⟨oP (fun _=>faP fa28_0 q) q,oP (fun _=>ldG q sz25 ag25 q) q,oP (fun _=>ldG q sz53 ag53 q) q,oP (fun _=>mvR q) q,oP (fun _=>mvV q) q,oP (fun _=>ixR (l:=t2_4.1) (lit:=TRun_88.lit) sl85 q q (fun _=>q) g13_5.1 g13_5.2) q,oP (fun _=>faC fa89_2 q) q,oP (fun _=>ldCG q sz53 ag53 q) q,fun S hS hD hn=>.oneI hS hD hn q q (callee_of q go26 q) (.pure q q (r05_Either.D g13_8)) q q q,fun S hS hD hn=>.one0 0 q q (stB (cs0:=[bo x1,i6 x2,u6 x3,.rows (x4.map (cInt .u64)),.rows (x5.map TCell.cells),.rows (x6.map TWeight.cells)]) (cs:=(TWeight.lit t13_8)) (cs1:=(TWeight.lit t13_8)) q q sz53 q ⟨Nat.le_of_ble_eq_true q,q⟩ q) (drawE_other _ _ _ _ q) q,trivial⟩) _ (by exact ⟨.ptr q,.ptr q,.free q q,.ptr q,.free q q,trivial⟩) (by rfl)
    refine .inBlock<|.reg0 q (.o (mvV q)<|.o (addI q q)<|.o (asV q)<|.nil0)<|.keepL [0,1,2] [(4,.ptr 0 1 6 0 0),(8,.ptr 1 1 6 0 0),(10,.rows (t2_4.1.map TRun_88.cells)),(12,.ptr 2 1 6 0 0),(14,i6 (IntKind.i64.wrap (x7 + 1)))] [⟨6,[(TPds.lit a0)],0,none⟩,⟨6,[GL_c0],0,none⟩,⟨6,[(TWeight.lit t13_8)],0,none⟩] (by decide) (by decide) ⟨.ptr q,.ptr q,.free q q,.ptr q,.free q q,trivial⟩ ⟨⟨_,q,bcBox (all2_free q)⟩,⟨_,q,bcBox (all2_free q)⟩,⟨_,q,bcBox (all2_free q)⟩,trivial⟩ ?_
    exact hn1 _ h
   ·rw [if_neg c4] at h
    refine .condF q (df c4)<|.exit q<|.keepL [1,2] [(8,.ptr 0 1 6 0 0),(12,.ptr 1 1 6 0 0)] [⟨6,[GL_c0],0,none⟩,⟨6,[[bo x1,i6 x2,u6 x3,.rows (x4.map (cInt .u64)),.rows (x5.map TCell.cells),.rows (x6.map TWeight.cells)]],0,none⟩] (by decide) (by decide) ⟨.ptr q,.ptr q,trivial⟩ ⟨⟨_,q,bcBox (all2_free q)⟩,⟨_,q,bcBox (all2_free q)⟩,trivial⟩ ?_
    exact hx1 _ h
 ·rw [if_neg c1] at h
  refine .condT q (nt c1)<|.seq<|.reg0 q (.o (bldS (cs:=GL_c0) ze53 pl53 q q)<|.o (mvV q)<|.o (stB (cs0:=GL_c0) (cs:=GL_c0) (cs1:=GL_c0) q q sz53 q ⟨Nat.le_of_ble_eq_true q,q⟩ q)<|.o (asV q)<|.nil0) ?_
  replace h:=h.symm
  subst h
  refine .k [(8,.cptr GL_c1 0),(9,i6 t2_4.2)] ⟨cFixP q q (.cons (.free q q)<|.cons (.free q q)<|.cons (.free q q)<|.cons (.nil)<|.cons (.nil)<|.cons (.nil)<|.nil),.free q q,trivial⟩ ?_
  exact .ret q
def r05_Same.b1 (a0:TWeight) (a1:TWeight):Int→Rnd Int Unit Bool→Prop:=fun x1 z1=>if x1 < (a0.Cells.length:Int) then (((InR x1 a0.Cells.length))∧((InR x1 a1.Cells.length))∧if (((rdl a0.Cells x1).From == (rdl a1.Cells x1).From) && (((rdl a0.Cells x1).Kind == (rdl a1.Cells x1).Kind) && (((rdl a0.Cells x1).K == (rdl a1.Cells x1).K) && true)))=true then (z1=.next (IntKind.i64.wrap (x1 + 1))) else (z1=.ret false)) else (z1=.exit ())
def r05_Same.b2 (self15:TWeight→TWeight→Bool→Prop) (a0:TWeight) (a1:TWeight):Int→Rnd Int Unit Bool→Prop:=fun x2 z2=>if x2 < (a0.Parts.length:Int) then (((InR x2 a0.Parts.length))∧((InR x2 a1.Parts.length))∧∃ t27_10:Bool,(self15 (rdl a0.Parts x2) (rdl a1.Parts x2) t27_10)∧if t27_10=true then (z2=.next (IntKind.i64.wrap (x2 + 1))) else (z2=.ret false)) else (z2=.exit ())
def r05_Same.step (self15:TWeight→TWeight→Bool→Prop) (a0:TWeight) (a1:TWeight) (r:Bool):Prop :=
 ∃ t2_17:Bool,((a0.Zero=a1.Zero)→(a0.Cost=a1.Cost)→r03_Same.f a0.Facts a1.Facts t2_17)∧if ((!(a0.Zero == a1.Zero)) || ((!(a0.Cost == a1.Cost)) || ((!t2_17) || ((!((a0.Cells.length:Int) == (a1.Cells.length:Int))) || ((a0.Parts.length:Int) != (a1.Parts.length:Int))))))=true then (r=false) else (∃ o1:Fin Unit Bool,Loop (r05_Same.b1 a0 a1) 0 o1∧o1.on (fun _=>∃ o2:Fin Unit Bool,Loop (r05_Same.b2 self15 a0 a1) 0 o2∧o2.on (fun _=>r=true) (fun r_=>r=r_)) (fun r_=>r=r_))
theorem r05_Same.stepD {self15:TWeight→TWeight→Bool→Prop} {a0:TWeight} {a1:TWeight} (hs15:∀ z0_ z1_ r_,self15 z0_ z1_ r_→D Tryz.prog X (.callH 15 [.agg (TWeight.lit z0_),.agg (TWeight.lit z1_)] [] (.val (.bool r_)) [])) {r:Bool} (h:r05_Same.step self15 a0 a1 r):D Tryz.prog X (.callH 15 [.agg (TWeight.lit a0),.agg (TWeight.lit a1)] [] (.val (.bool r)) []):=by
 unfold r05_Same.step at h
 refine .enter 82 0 fn15 q q q<|.seq<|.room 0<|.room 0<|.reg0 q (.o (bxP (s:=6) (cs:=(TWeight.lit a0)) q ⟨q,by decide,q⟩ q)<|.op 1 q (bxP (s:=6) (cs:=(TWeight.lit a1)) q ⟨q,by decide,q⟩ q)<|.o (asV q)<|.nil0)<|.seq<|.seq ?_
 obtain ⟨t2_17,g2_17,h⟩:=h
 refine .reg0 (e1:=listEnv [(2,.ptr 0 1 6 0 0),(3,.ptr 1 1 6 0 0),(44,bo ((!(a0.Zero == a1.Zero)) || ((!(a0.Cost == a1.Cost)) || ((!t2_17) || ((!((a0.Cells.length:Int) == (a1.Cells.length:Int))) || ((a0.Parts.length:Int) != (a1.Parts.length:Int)))))))]) (H1:=[⟨6,[(TWeight.lit a0)],0,none⟩,⟨6,[(TWeight.lit a1)],0,none⟩]) q ?_ ?_
 ·refine .o (faP fa53_0 q)<|.o (ldP q sz4 ag4 q)<|.o (faP fa53_0 q)<|.o (ldP q sz4 ag4 q)<|.o (neB un4 q q)<|.m q<|?_
  by_cases c1:a0.Zero=a1.Zero
  ·refine .g q (nf c1) (faP fa53_1 q)<|.g q (nf c1) (ldP q sz3 ag3 q)<|.g q (nf c1) (faP fa53_1 q)<|.g q (nf c1) (ldP q sz3 ag3 q)<|.g q (nf c1) (neI q q)<|.o (pkFV q (nf c1) q)<|.m q<|?_
   by_cases c2:a0.Cost=a1.Cost
   ·refine .g q (nf c2) (faP fa53_2 q)<|.g q (nf c2) (ldG q sz49 ag49 q)<|.g q (nf c2) (faP fa53_2 q)<|.g q (nf c2) (ldG q sz49 ag49 q)<|.callI (gT q q q (nf c2)) (callee_of q go40 q) (.pure q q (r03_Same.D (g2_17 c1 c2)))<|.g q (nf c2) (notB q)<|.o (pkFV q (nf c2) q)<|.m q<|?_
    by_cases c3:t2_17=true
    ·refine .g q (bnotF c3) (faP fa53_3 q)<|.g q (bnotF c3) (ldP q sz50 ag50 q)<|.g q (bnotF c3) (lnR (l:=a0.Cells) sl50 q)<|.g q (bnotF c3) (faP fa53_3 q)<|.g q (bnotF c3) (ldP q sz50 ag50 q)<|.g q (bnotF c3) (lnR (l:=a1.Cells) sl50 q)<|.g q (bnotF c3) (neI q q)<|.o (pkFV q (bnotF c3) q)<|.m q<|?_
     by_cases c4:(a0.Cells.length:Int)=(a1.Cells.length:Int)
     ·exact (.g q (nf c4) (faP fa53_4 q)<|.g q (nf c4) (ldP q sz51 ag51 q)<|.g q (nf c4) (lnR (l:=a0.Parts) sl51 q)<|.g q (nf c4) (faP fa53_4 q)<|.g q (nf c4) (ldP q sz51 ag51 q)<|.g q (nf c4) (lnR (l:=a1.Parts) sl51 q)<|.g q (nf c4) (neI q q)<|.o (pkFV q (nf c4) q)<|.nilL _ ⟨.ptr q,.ptr q,cB q (mOrF (bnotF (bt c1)) (mOrF (bnotF (bt c2)) (mOrF (bnotF c3) (mOrF (bnotF (bt c4)) q)))),trivial⟩)
     ·exact (.n q (nt c4)<|.n q (nt c4)<|.n q (nt c4)<|.n q (nt c4)<|.n q (nt c4)<|.n q (nt c4)<|.n q (nt c4)<|.o (pkTV q (nt c4) q)<|.nilL _ ⟨.ptr q,.ptr q,cB q (mOrF (bnotF (bt c1)) (mOrF (bnotF (bt c2)) (mOrF (bnotF c3) (mOrT (bnotT (bn c4)))))),trivial⟩)
    ·exact (.n q (bnotT (nb c3))<|.n q (bnotT (nb c3))<|.n q (bnotT (nb c3))<|.n q (bnotT (nb c3))<|.n q (bnotT (nb c3))<|.n q (bnotT (nb c3))<|.n q (bnotT (nb c3))<|.o (pkTV q (bnotT (nb c3)) q)<|.m q<|.n q q<|.n q q<|.n q q<|.n q q<|.n q q<|.n q q<|.n q q<|.o (pkTV q q q)<|.nilL _ ⟨.ptr q,.ptr q,cB q (mOrF (bnotF (bt c1)) (mOrF (bnotF (bt c2)) (mOrT (bnotT (nb c3))))),trivial⟩)
   ·exact (.n q (nt c2)<|.n q (nt c2)<|.n q (nt c2)<|.n q (nt c2)<|.n q (nt c2)<|.n q (nt c2)<|.o (pkTV q (nt c2) q)<|.m q<|.n q q<|.n q q<|.n q q<|.n q q<|.n q q<|.n q q<|.n q q<|.o (pkTV q q q)<|.m q<|.n q q<|.n q q<|.n q q<|.n q q<|.n q q<|.n q q<|.n q q<|.o (pkTV q q q)<|.nilL _ ⟨.ptr q,.ptr q,cB q (mOrF (bnotF (bt c1)) (mOrT (bnotT (bn c2)))),trivial⟩)
  ·exact (.n q (nt c1)<|.n q (nt c1)<|.n q (nt c1)<|.n q (nt c1)<|.n q (nt c1)<|.o (pkTV q (nt c1) q)<|.m q<|.n q q<|.n q q<|.n q q<|.n q q<|.n q q<|.n q q<|.o (pkTV q q q)<|.m q<|.n q q<|.n q q<|.n q q<|.n q q<|.n q q<|.n q q<|.n q q<|.o (pkTV q q q)<|.m q<|.n q q<|.n q q<|.n q q<|.n q q<|.n q q<|.n q q<|.n q q<|.o (pkTV q q q)<|.nilL _ ⟨.ptr q,.ptr q,cB q (mOrT (bnotT (bn c1))),trivial⟩)
 by_cases c5:((!(a0.Zero == a1.Zero)) || ((!(a0.Cost == a1.Cost)) || ((!t2_17) || ((!((a0.Cells.length:Int) == (a1.Cells.length:Int))) || ((a0.Parts.length:Int) != (a1.Parts.length:Int))))))=true
 ·rw [if_pos c5] at h
  refine .condT q c5<|.seq<|.reg0 q (.o (asV q)<|.nil0) ?_
  replace h:=h.symm
  subst h
  refine .kf [(4,bo false)] q q ?_
  exact .ret q
 ·rw [if_neg c5] at h
  refine .condF q (nb c5)<|.skip<|.seq<|.seq<|.reg0 q (.o (asV q)<|.nil0)<|.block<|.keepL [0,1] [(2,.ptr 0 1 6 0 0),(3,.ptr 1 1 6 0 0),(5,i6 0)] [⟨6,[(TWeight.lit a0)],0,none⟩,⟨6,[(TWeight.lit a1)],0,none⟩] (by decide) (by decide) ⟨.ptr q,.ptr q,.free q q,trivial⟩ ⟨⟨_,q,bcBox (all2_free q)⟩,⟨_,q,bcBox (all2_free q)⟩,trivial⟩ ?_
  obtain ⟨o1,hL1,h⟩:=h
  refine .loopB (r05_Same.b1 a0 a1) (fun x1=>listEnv [(2,.ptr 0 1 6 0 0),(3,.ptr 1 1 6 0 0),(5,i6 x1)]) (fun x1=>[⟨6,[(TWeight.lit a0)],0,none⟩,⟨6,[(TWeight.lit a1)],0,none⟩]) (fun _=>listEnv [(2,.ptr 0 1 6 0 0),(3,.ptr 1 1 6 0 0)]) (fun _=>[⟨6,[(TWeight.lit a0)],0,none⟩,⟨6,[(TWeight.lit a1)],0,none⟩]) hL1 (fun r_=>r=r_) ?_ ?_ ?_
  ·rintro ⟨⟩ rfl
   try dsimp only [Fin.on] at h
   refine .seq<|.seq<|.reg0 q (.o (asV q)<|.nil0)<|.block<|.keepL [0,1] [(2,.ptr 0 1 6 0 0),(3,.ptr 1 1 6 0 0),(6,i6 0)] [⟨6,[(TWeight.lit a0)],0,none⟩,⟨6,[(TWeight.lit a1)],0,none⟩] (by decide) (by decide) ⟨.ptr q,.ptr q,.free q q,trivial⟩ ⟨⟨_,q,bcBox (all2_free q)⟩,⟨_,q,bcBox (all2_free q)⟩,trivial⟩ ?_
   obtain ⟨o2,hL2,h⟩:=h
   refine .loopB (r05_Same.b2 self15 a0 a1) (fun x2=>listEnv [(2,.ptr 0 1 6 0 0),(3,.ptr 1 1 6 0 0),(6,i6 x2)]) (fun x2=>[⟨6,[(TWeight.lit a0)],0,none⟩,⟨6,[(TWeight.lit a1)],0,none⟩]) (fun _=>listEnv []) (fun _=>[]) hL2 (fun r_=>r=r_) ?_ ?_ ?_
   ·rintro ⟨⟩ rfl
    try dsimp only [Fin.on] at h
    refine .seq<|.reg0 q (.o (asV q)<|.nil0) ?_
    replace h:=h.symm
    subst h
    refine .kf [(4,bo true)] q q ?_
    exact .ret q
   ·rintro r_ rfl
    exact h
   ·rintro x2 z2 h hn2 hx2 hr2
    dsimp only [r05_Same.b2] at h
    refine .seq<|.seq<|.reg0 q (.o (mvV q)<|.o (faP fa53_4 q)<|.o (ldP q sz51 ag51 q)<|.o (lnR (l:=a0.Parts) sl51 q)<|.o (ltI q q)<|.nil0) ?_
    by_cases c16:x2 < (a0.Parts.length:Int)
    ·rw [if_pos c16] at h
     refine .condT q (dt c16)<|.skip<|.seq<|.block<|.seq ?_
     obtain ⟨g27_3,h⟩:=h
     obtain ⟨g27_8,h⟩:=h
     obtain ⟨t27_10,g27_10,h⟩:=h
     refine .reg1 (e1:=listEnv [(2,.ptr 0 1 6 0 0),(3,.ptr 1 1 6 0 0),(6,i6 x2),(81,bo (!t27_10))]) (H1:=[⟨6,[(TWeight.lit a0)],0,none⟩,⟨6,[(TWeight.lit a1)],0,none⟩]) q ?_ ?_
     ·exact .drawM [(11,81,bo (!t27_10)),(10,80,bo t27_10),(9,79,.agg (TWeight.lit (rdl a1.Parts x2))),(8,78,.cptr (TWeight.lit (rdl a1.Parts x2)) 0),(7,77,i6 x2),(6,76,.rows (a1.Parts.map TWeight.cells)),(5,75,.ptr 1 1 6 0 5),(4,74,.agg (TWeight.lit (rdl a0.Parts x2))),(3,73,.cptr (TWeight.lit (rdl a0.Parts x2)) 0),(2,72,i6 x2),(1,71,.rows (a0.Parts.map TWeight.cells)),(0,70,.ptr 0 1 6 0 5)] [] [[],[0],[],[1,0,2],[3,1,0,2],[],[5],[],[6,5,7],[8,6,5,7],[4,3,1,0,2,9,8,6,5,7],[10,4,3,1,0,2,9,8,6,5,7]] (by rfl) (by rfl) (by rfl) (by exact ⟨oP (fun _=>faP fa53_4 q) q,oP (fun _=>ldP q sz51 ag51 q) q,oP (fun _=>mvV q) q,oP (fun _=>ixR (l:=a0.Parts) (lit:=TWeight.lit) sl51 q q TWeight.cells_lit g27_3.1 g27_3.2) q,oP (fun _=>ldCG q sz53 ag53 q) q,oP (fun _=>faP fa53_4 q) q,oP (fun _=>ldP q sz51 ag51 q) q,oP (fun _=>mvV q) q,oP (fun _=>ixR (l:=a1.Parts) (lit:=TWeight.lit) sl51 q q TWeight.cells_lit g27_8.1 g27_8.2) q,oP (fun _=>ldCG q sz53 ag53 q) q,fun S hS hD hn=>.oneI hS hD hn q q (callee_of q go15 q) (.pure q q (hs15 _ _ _ g27_10)) q q q,oP (fun _=>notB q) q,trivial⟩) _ (by exact ⟨.ptr q,.ptr q,.free q q,.free q q,trivial⟩) (by rfl)
     by_cases c17:t27_10=true
     ·rw [if_pos c17] at h
      refine .condF q (bnotF c17)<|.skip<|.inBlock<|.reg0 q (.o (mvV q)<|.o (addI q q)<|.o (asV q)<|.nil0)<|.keepL [0,1] [(2,.ptr 0 1 6 0 0),(3,.ptr 1 1 6 0 0),(6,i6 (IntKind.i64.wrap (x2 + 1)))] [⟨6,[(TWeight.lit a0)],0,none⟩,⟨6,[(TWeight.lit a1)],0,none⟩] (by decide) (by decide) ⟨.ptr q,.ptr q,.free q q,trivial⟩ ⟨⟨_,q,bcBox (all2_free q)⟩,⟨_,q,bcBox (all2_free q)⟩,trivial⟩ ?_
      exact hn2 _ h
     ·rw [if_neg c17] at h
      refine .condT q (bnotT (nb c17))<|.seq<|.reg0 q (.o (asV q)<|.nil0) ?_
      have q6:=hr2 _ h
      replace q6:=q6.symm
      subst q6
      refine .kf [(4,bo false)] q q ?_
      exact .ret q
    ·rw [if_neg c16] at h
     refine .condF q (df c16)<|.exit q<|.keepL [] [] [] (by decide) (by decide) trivial trivial ?_
     exact hx2 _ h
  ·rintro r_ rfl
   exact h
  ·rintro x1 z1 h hn1 hx1 hr1
   dsimp only [r05_Same.b1] at h
   refine .seq<|.seq<|.reg0 q (.o (mvV q)<|.o (faP fa53_3 q)<|.o (ldP q sz50 ag50 q)<|.o (lnR (l:=a0.Cells) sl50 q)<|.o (ltI q q)<|.nil0) ?_
   by_cases c10:x1 < (a0.Cells.length:Int)
   ·rw [if_pos c10] at h
    refine .condT q (dt c10)<|.skip<|.seq<|.block<|.seq ?_
    obtain ⟨g14_3,h⟩:=h
    obtain ⟨g14_8,h⟩:=h
    refine .reg1 (e1:=listEnv [(2,.ptr 0 1 6 0 0),(3,.ptr 1 1 6 0 0),(5,i6 x1),(62,bo (!(((rdl a0.Cells x1).From == (rdl a1.Cells x1).From) && (((rdl a0.Cells x1).Kind == (rdl a1.Cells x1).Kind) && (((rdl a0.Cells x1).K == (rdl a1.Cells x1).K) && true)))))]) (H1:=[⟨6,[(TWeight.lit a0)],0,none⟩,⟨6,[(TWeight.lit a1)],0,none⟩]) q ?_ ?_
    ·exact .drawM [(10,62,bo (!(((rdl a0.Cells x1).From == (rdl a1.Cells x1).From) && (((rdl a0.Cells x1).Kind == (rdl a1.Cells x1).Kind) && (((rdl a0.Cells x1).K == (rdl a1.Cells x1).K) && true))))),(9,61,.agg (TCell.lit (rdl a1.Cells x1))),(8,60,.cptr (TCell.lit (rdl a1.Cells x1)) 0),(7,59,i6 x1),(6,58,.rows (a1.Cells.map TCell.cells)),(5,57,.ptr 1 1 6 0 4),(4,56,.agg (TCell.lit (rdl a0.Cells x1))),(3,55,.cptr (TCell.lit (rdl a0.Cells x1)) 0),(2,54,i6 x1),(1,53,.rows (a0.Cells.map TCell.cells)),(0,52,.ptr 0 1 6 0 4)] [] [[],[0],[],[1,0,2],[3,1,0,2],[],[5],[],[6,5,7],[8,6,5,7],[4,3,1,0,2,9,8,6,5,7]] (by rfl) (by rfl) (by rfl) (by exact ⟨oP (fun _=>faP fa53_3 q) q,oP (fun _=>ldP q sz50 ag50 q) q,oP (fun _=>mvV q) q,oP (fun _=>ixR (l:=a0.Cells) (lit:=TCell.lit) sl50 q q (fun _=>q) g14_3.1 g14_3.2) q,oP (fun _=>ldCG q sz97 ag97 q) q,oP (fun _=>faP fa53_3 q) q,oP (fun _=>ldP q sz50 ag50 q) q,oP (fun _=>mvV q) q,oP (fun _=>ixR (l:=a1.Cells) (lit:=TCell.lit) sl50 q q (fun _=>q) g14_8.1 g14_8.2) q,oP (fun _=>ldCG q sz97 ag97 q) q,oP (fun _=>neS (xs:=[.int .u64 ((rdl a0.Cells x1).From),.int .i64 ((rdl a0.Cells x1).Kind),.int .i64 ((rdl a0.Cells x1).K)]) (ys:=[.int .u64 ((rdl a1.Cells x1).From),.int .i64 ((rdl a1.Cells x1).Kind),.int .i64 ((rdl a1.Cells x1).K)]) ek97 q q q q q) q,trivial⟩) _ (by exact ⟨.ptr q,.ptr q,.free q q,.free q q,trivial⟩) (by rfl)
    by_cases c11:(((rdl a0.Cells x1).From == (rdl a1.Cells x1).From) && (((rdl a0.Cells x1).Kind == (rdl a1.Cells x1).Kind) && (((rdl a0.Cells x1).K == (rdl a1.Cells x1).K) && true)))=true
    ·rw [if_pos c11] at h
     refine .condF q (bnotF c11)<|.skip<|.inBlock<|.reg0 q (.o (mvV q)<|.o (addI q q)<|.o (asV q)<|.nil0)<|.keepL [0,1] [(2,.ptr 0 1 6 0 0),(3,.ptr 1 1 6 0 0),(5,i6 (IntKind.i64.wrap (x1 + 1)))] [⟨6,[(TWeight.lit a0)],0,none⟩,⟨6,[(TWeight.lit a1)],0,none⟩] (by decide) (by decide) ⟨.ptr q,.ptr q,.free q q,trivial⟩ ⟨⟨_,q,bcBox (all2_free q)⟩,⟨_,q,bcBox (all2_free q)⟩,trivial⟩ ?_
     exact hn1 _ h
    ·rw [if_neg c11] at h
     refine .condT q (bnotT (nb c11))<|.seq<|.reg0 q (.o (asV q)<|.nil0) ?_
     have q3:=hr1 _ h
     replace q3:=q3.symm
     subst q3
     refine .kf [(4,bo false)] q q ?_
     exact .ret q
   ·rw [if_neg c10] at h
    refine .condF q (df c10)<|.exit q<|.keepL [0,1] [(2,.ptr 0 1 6 0 0),(3,.ptr 1 1 6 0 0)] [⟨6,[(TWeight.lit a0)],0,none⟩,⟨6,[(TWeight.lit a1)],0,none⟩] (by decide) (by decide) ⟨.ptr q,.ptr q,trivial⟩ ⟨⟨_,q,bcBox (all2_free q)⟩,⟨_,q,bcBox (all2_free q)⟩,trivial⟩ ?_
    exact hx1 _ h
def r05_Same.fN:Nat→TWeight→TWeight→Bool→Prop
 | 0=>fun _ _ _=>False
 | n + 1=>r05_Same.step (r05_Same.fN n)
theorem r05_Same.ND:∀ (n:Nat) {a0:TWeight} {a1:TWeight} {r:Bool} (h:r05_Same.fN n a0 a1 r),D Tryz.prog X (.callH 15 [.agg (TWeight.lit a0),.agg (TWeight.lit a1)] [] (.val (.bool r)) [])
 | 0,_,_,_,h=>h.elim
 | n + 1,_,_,_,h=>r05_Same.stepD (fun _ _ _ h=>r05_Same.ND n h) h
def r05_Same.f (a0:TWeight) (a1:TWeight) (r:Bool):Prop:=∃ n,r05_Same.fN n a0 a1 r
theorem r05_Same.D {a0 a1 r} (h:r05_Same.f a0 a1 r):D Tryz.prog X (.callH 15 [.agg (TWeight.lit a0),.agg (TWeight.lit a1)] [] (.val (.bool r)) []):=by obtain ⟨n,h⟩:=h; exact r05_Same.ND n h
def l13_LimitRuns.b2 (t6_5:(List (List Int)) × Int) (t7_5:(List (List Int)) × Int) (x3:Int):Int→Rnd Int Unit Bool→Prop:=fun x5 z2=>((InR x3 t6_5.1.length))∧if x5 < ((rdl t6_5.1 x3).length:Int) then (((InR x3 t6_5.1.length))∧((InR x5 (rdl t6_5.1 x3).length))∧((InR x3 t7_5.1.length))∧((InR x5 (rdl t7_5.1 x3).length))∧if (rdl (rdl t6_5.1 x3) x5)=(rdl (rdl t7_5.1 x3) x5) then (z2=.next (IntKind.i64.wrap (x5 + 1))) else (z2=.ret false)) else (z2=.exit ())
def l13_LimitRuns.b1 (t6_5:(List (List Int)) × Int) (t7_5:(List (List Int)) × Int):Int→Rnd Int Unit Bool→Prop:=fun x3 z1=>if x3 < (t6_5.1.length:Int) then (((InR x3 t6_5.1.length))∧((InR x3 t7_5.1.length))∧if ((rdl t6_5.1 x3).length:Int)=((rdl t7_5.1 x3).length:Int) then (∃ o2:Fin Unit Bool,Loop (l13_LimitRuns.b2 t6_5 t7_5 x3) 0 o2∧o2.on (fun _=>z1=.next (IntKind.i64.wrap (x3 + 1))) (fun r_=>z1=.ret r_)) else (z1=.ret false)) else (z1=.exit ())
def l13_LimitRuns.j1 (a0:TQuery) (a1:TConf) (a2:TConf):Int→Bool→Prop:=fun x1 r=>∃ t6_5:(List (List Int)) × Int,(limit_Runs.f a0.P a1 a2 x1 t6_5)∧∃ t7_5:(List (List Int)) × Int,(r13_Runs.f a0.P a1 a2 x1 t7_5)∧∃ t8_5:TWeight × Int,(limit_Worth.f a0.P a1 a2 x1 t8_5)∧∃ t9_5:TWeight × Int,(r13_Worth.f a0.P a1 a2 x1 t9_5)∧∃ t10_13:Bool,(((t6_5.1.length:Int)=(t7_5.1.length:Int))→(t6_5.2=t7_5.2)→r05_Same.f t8_5.1 t9_5.1 t10_13)∧if ((!((t6_5.1.length:Int) == (t7_5.1.length:Int))) || ((!(t6_5.2 == t7_5.2)) || ((!t10_13) || (t8_5.2 != t9_5.2))))=true then (r=false) else (∃ o1:Fin Unit Bool,Loop (l13_LimitRuns.b1 t6_5 t7_5) 0 o1∧o1.on (fun _=>∃ t56_0:Bool,(l13_alive.f t56_0)∧r=t56_0) (fun r_=>r=r_))
def l13_LimitRuns.f (a0:TQuery) (a1:TConf) (a2:TConf) (a3:Int) (r:Bool):Prop :=
 ∃ t2_1:Bool,(l13_Small.f a0 t2_1)∧if ((!t2_1) || ((decide ((a1.W.length:Int) > 6)) || (decide ((a2.W.length:Int) > 30))))=true then (∃ t3_0:Bool,(l13_alive.f t3_0)∧r=t3_0) else (if a3≤12 then (∃ t57_1:Int,(l13_turns.f a3 t57_1)∧l13_LimitRuns.j1 a0 a1 a2 t57_1 r) else (l13_LimitRuns.j1 a0 a1 a2 a3 r))
theorem l13_LimitRuns.D {a0 a1 a2 a3 r} (h:l13_LimitRuns.f a0 a1 a2 a3 r):D Tryz.prog X (.callH 3 [.agg (TQuery.lit a0),.agg (TConf.lit a1),.agg (TConf.lit a2),.val (.int .i64 a3)] [] (.val (.bool r)) []):=by
 unfold l13_LimitRuns.f at h
 refine .enter 138 0 fn3 q q q<|.seq<|.room 0<|.room 0<|.room 0<|.reg0 q (.o (bxP (s:=13) (cs:=(TQuery.lit a0)) q ⟨q,by decide,q⟩ q)<|.op 1 q (bxP (s:=2) (cs:=(TConf.lit a1)) q ⟨q,by decide,q⟩ q)<|.op 2 q (bxP (s:=2) (cs:=(TConf.lit a2)) q ⟨q,by decide,q⟩ q)<|.o (asV q)<|.nil0)<|.seq<|.seq ?_
 obtain ⟨t2_1,g2_1,h⟩:=h
 refine .reg0 (e1:=listEnv [(3,i6 a3),(4,.ptr 0 1 13 0 0),(5,.ptr 1 1 2 0 0),(6,.ptr 2 1 2 0 0),(33,bo ((!t2_1) || ((decide ((a1.W.length:Int) > 6)) || (decide ((a2.W.length:Int) > 30)))))]) (H1:=[⟨13,[(TQuery.lit a0)],0,none⟩,⟨2,[(TConf.lit a1)],0,none⟩,⟨2,[(TConf.lit a2)],0,none⟩]) q ?_ ?_
 ·refine .o (ldG q sz34 ag34 q)<|.c q go8 q q q (l13_Small.D g2_1)<|.o (notB q)<|.m q<|?_
  by_cases c1:t2_1=true
  ·refine .g q (bnotF c1) (faP fa36_1 q)<|.g q (bnotF c1) (ldP q sz29 ag29 q)<|.g q (bnotF c1) (lnR (l:=a1.W) sl29 q)<|.g q (bnotF c1) (gtI q q)<|.o (pkFV q (bnotF c1) q)<|.m q<|?_
   by_cases c2:(a1.W.length:Int) > 6
   ·exact (.n q (dt c2)<|.n q (dt c2)<|.n q (dt c2)<|.n q (dt c2)<|.o (pkTV q (dt c2) q)<|.nilL _ ⟨.free q q,.ptr q,.ptr q,.ptr q,cB q (mOrF (bnotF c1) (mOrT (dt c2))),trivial⟩)
   ·exact (.g q (df c2) (faP fa36_1 q)<|.g q (df c2) (ldP q sz29 ag29 q)<|.g q (df c2) (lnR (l:=a2.W) sl29 q)<|.g q (df c2) (gtI q q)<|.o (pkFV q (df c2) q)<|.nilL _ ⟨.free q q,.ptr q,.ptr q,.ptr q,cB q (mOrF (bnotF c1) (mOrF (df c2) q)),trivial⟩)
  ·exact (.n q (bnotT (nb c1))<|.n q (bnotT (nb c1))<|.n q (bnotT (nb c1))<|.n q (bnotT (nb c1))<|.o (pkTV q (bnotT (nb c1)) q)<|.m q<|.n q q<|.n q q<|.n q q<|.n q q<|.o (pkTV q q q)<|.nilL _ ⟨.free q q,.ptr q,.ptr q,.ptr q,cB q (mOrT (bnotT (nb c1))),trivial⟩)
 by_cases c3:((!t2_1) || ((decide ((a1.W.length:Int) > 6)) || (decide ((a2.W.length:Int) > 30))))=true
 ·rw [if_pos c3] at h
  refine .condT q c3<|.seq ?_
  obtain ⟨t3_0,g3_0,h⟩:=h
  refine .reg0 q (.c q go9 q q q (l13_alive.D g3_0)<|.a q<|.nil0) ?_
  replace h:=h.symm
  subst h
  refine .kf [(8,bo t3_0)] q q ?_
  exact .ret q
 ·rw [if_neg c3] at h
  refine .condF q (nb c3)<|.skip<|.seq<|.seq<|.reg0 q (.o (mvV q)<|.o (leI q q)<|.nil0) ?_
  refine .consJ (fun s_=>l13_LimitRuns.j1 a0 a1 a2 s_ r) (fun x1=>listEnv [(3,i6 x1),(4,.ptr 0 1 13 0 0),(5,.ptr 1 1 2 0 0),(6,.ptr 2 1 2 0 0)]) (fun x1=>[⟨13,[(TQuery.lit a0)],0,none⟩,⟨2,[(TConf.lit a1)],0,none⟩,⟨2,[(TConf.lit a2)],0,none⟩]) ?_ fun hJ1=>?_
  ·rintro x1 h
   unfold l13_LimitRuns.j1 at h
   try dsimp only at h
   refine .seq ?_
   obtain ⟨t6_5,g6_5,h⟩:=h
   refine .reg0 q (.o (faP fa34_0 q)<|.o (ldG q sz28 ag28 q)<|.o (ldG q sz36 ag36 q)<|.o (ldG q sz36 ag36 q)<|.m q<|.c q go11 q q q (limit_Runs.D g6_5)<|.o (mvT q)<|.o (exT q q)<|.o (exT q q)<|.o (asR q)<|.a q<|.nil0)<|.seq ?_
   obtain ⟨t7_5,g7_5,h⟩:=h
   refine .reg0 q (.o (faP fa34_0 q)<|.o (ldG q sz28 ag28 q)<|.o (ldG q sz36 ag36 q)<|.o (ldG q sz36 ag36 q)<|.m q<|.c q go12 q q q (r13_Runs.D g7_5)<|.o (mvT q)<|.o (exT q q)<|.o (exT q q)<|.o (asR q)<|.a q<|.nil0)<|.seq ?_
   obtain ⟨t8_5,g8_5,h⟩:=h
   refine .room 0<|.reg0 (e1:=listEnv [(3,i6 x1),(4,.ptr 0 1 13 0 0),(5,.ptr 1 1 2 0 0),(6,.ptr 2 1 2 0 0),(9,.rows (t6_5.1.map (cSl (cInt .i64)))),(10,i6 t6_5.2),(11,.rows (t7_5.1.map (cSl (cInt .i64)))),(12,i6 t7_5.2),(13,.ptr 3 1 6 0 0),(14,i6 t8_5.2)]) (H1:=[⟨13,[(TQuery.lit a0)],0,none⟩,⟨2,[(TConf.lit a1)],0,none⟩,⟨2,[(TConf.lit a2)],0,none⟩,⟨6,[(TWeight.lit t8_5.1)],0,none⟩]) q (.o (faP fa34_0 q)<|.o (ldG q sz28 ag28 q)<|.o (ldG q sz36 ag36 q)<|.o (ldG q sz36 ag36 q)<|.o (mvV q)<|.callI q (callee_of q go13 q) (.pure q q (limit_Worth.D g8_5))<|.o (mvT q)<|.o (exT q q)<|.o (exT q q)<|.op 3 q (alP (s:=6) ze53 ⟨q,by decide,q⟩ q)<|.o (stB (cs0:=GL_c0) (cs:=(TWeight.lit t8_5.1)) (cs1:=(TWeight.lit t8_5.1)) q q sz53 q ⟨Nat.le_of_ble_eq_true q,q⟩ q)<|.o (asV q)<|.nilL _ ⟨.free q q,.ptr q,.ptr q,.ptr q,.free q q,.free q q,.free q q,.free q q,.ptr q,.free q q,trivial⟩) ?_
   refine .seq ?_
   obtain ⟨t9_5,g9_5,h⟩:=h
   refine .room 0<|.reg0 q (.o (faP fa34_0 q)<|.o (ldG q sz28 ag28 q)<|.o (ldG q sz36 ag36 q)<|.o (ldG q sz36 ag36 q)<|.o (mvV q)<|.callI q (callee_of q go14 q) (.pure q q (r13_Worth.D g9_5))<|.o (mvT q)<|.o (exT q q)<|.o (exT q q)<|.op 4 q (alP (s:=6) ze53 ⟨q,by decide,q⟩ q)<|.o (stB (cs0:=GL_c0) (cs:=(TWeight.lit t9_5.1)) (cs1:=(TWeight.lit t9_5.1)) q q sz53 q ⟨Nat.le_of_ble_eq_true q,q⟩ q)<|.o (asV q)<|.nil0) ?_
   refine .seq<|.seq ?_
   obtain ⟨t10_13,g10_13,h⟩:=h
   refine .reg0 (e1:=listEnv [(9,.rows (t6_5.1.map (cSl (cInt .i64)))),(11,.rows (t7_5.1.map (cSl (cInt .i64)))),(95,bo ((!((t6_5.1.length:Int) == (t7_5.1.length:Int))) || ((!(t6_5.2 == t7_5.2)) || ((!t10_13) || (t8_5.2 != t9_5.2)))))]) (H1:=[⟨13,[(TQuery.lit a0)],0,none⟩,⟨2,[(TConf.lit a1)],0,none⟩,⟨2,[(TConf.lit a2)],0,none⟩,⟨6,[(TWeight.lit t8_5.1)],0,none⟩,⟨6,[(TWeight.lit t9_5.1)],0,none⟩]) q ?_ ?_
   ·refine .o (mvR q)<|.o (lnR (l:=t6_5.1) sl40 q)<|.o (mvR q)<|.o (lnR (l:=t7_5.1) sl40 q)<|.o (neI q q)<|.m q<|?_
    by_cases c5:(t6_5.1.length:Int)=(t7_5.1.length:Int)
    ·refine .g q (nf c5) (mvV q)<|.g q (nf c5) (mvV q)<|.g q (nf c5) (neI q q)<|.o (pkFV q (nf c5) q)<|.m q<|?_
     by_cases c6:t6_5.2=t7_5.2
     ·refine .g q (nf c6) (ldG q sz53 ag53 q)<|.g q (nf c6) (ldG q sz53 ag53 q)<|.callI (gT q q q (nf c6)) (callee_of q go15 q) (.pure q q (r05_Same.D (g10_13 c5 c6)))<|.g q (nf c6) (notB q)<|.o (pkFV q (nf c6) q)<|.m q<|?_
      by_cases c7:t10_13=true
      ·exact (.g q (bnotF c7) (mvV q)<|.g q (bnotF c7) (mvV q)<|.g q (bnotF c7) (neI q q)<|.o (pkFV q (bnotF c7) q)<|.nilL _ ⟨.free q q,.free q q,cB q (mOrF (bnotF (bt c5)) (mOrF (bnotF (bt c6)) (mOrF (bnotF c7) q))),trivial⟩)
      ·exact (.n q (bnotT (nb c7))<|.n q (bnotT (nb c7))<|.n q (bnotT (nb c7))<|.o (pkTV q (bnotT (nb c7)) q)<|.nilL _ ⟨.free q q,.free q q,cB q (mOrF (bnotF (bt c5)) (mOrF (bnotF (bt c6)) (mOrT (bnotT (nb c7))))),trivial⟩)
     ·exact (.n q (nt c6)<|.n q (nt c6)<|.n q (nt c6)<|.n q (nt c6)<|.o (pkTV q (nt c6) q)<|.m q<|.n q q<|.n q q<|.n q q<|.o (pkTV q q q)<|.nilL _ ⟨.free q q,.free q q,cB q (mOrF (bnotF (bt c5)) (mOrT (bnotT (bn c6)))),trivial⟩)
    ·exact (.n q (nt c5)<|.n q (nt c5)<|.n q (nt c5)<|.o (pkTV q (nt c5) q)<|.m q<|.n q q<|.n q q<|.n q q<|.n q q<|.o (pkTV q q q)<|.m q<|.n q q<|.n q q<|.n q q<|.o (pkTV q q q)<|.nilL _ ⟨.free q q,.free q q,cB q (mOrT (bnotT (bn c5))),trivial⟩)
   by_cases c8:((!((t6_5.1.length:Int) == (t7_5.1.length:Int))) || ((!(t6_5.2 == t7_5.2)) || ((!t10_13) || (t8_5.2 != t9_5.2))))=true
   ·rw [if_pos c8] at h
    refine .condT q c8<|.seq<|.reg0 q (.o (asV q)<|.nil0) ?_
    replace h:=h.symm
    subst h
    refine .kf [(8,bo false)] q q ?_
    exact .ret q
   ·rw [if_neg c8] at h
    refine .condF q (nb c8)<|.skip<|.seq<|.seq<|.reg0 q (.o (asV q)<|.nil0)<|.block<|.keepL [] [(9,.rows (t6_5.1.map (cSl (cInt .i64)))),(11,.rows (t7_5.1.map (cSl (cInt .i64)))),(17,i6 0)] [] (by decide) (by decide) ⟨.free q q,.free q q,.free q q,trivial⟩ trivial ?_
    obtain ⟨o1,hL1,h⟩:=h
    refine .loopB (l13_LimitRuns.b1 t6_5 t7_5) (fun x3=>listEnv [(9,.rows (t6_5.1.map (cSl (cInt .i64)))),(11,.rows (t7_5.1.map (cSl (cInt .i64)))),(17,i6 x3)]) (fun x3=>[]) (fun _=>listEnv []) (fun _=>[]) hL1 (fun r_=>r=r_) ?_ ?_ ?_
    ·rintro ⟨⟩ rfl
     try dsimp only [Fin.on] at h
     refine .seq ?_
     obtain ⟨t56_0,g56_0,h⟩:=h
     refine .reg0 q (.c q go9 q q q (l13_alive.D g56_0)<|.a q<|.nil0) ?_
     replace h:=h.symm
     subst h
     refine .kf [(8,bo t56_0)] q q ?_
     exact .ret q
    ·rintro r_ rfl
     exact h
    ·rintro x3 z1 h hn1 hx1 hr1
     dsimp only [l13_LimitRuns.b1] at h
     refine .seq<|.seq<|.reg0 q (.o (mvV q)<|.o (mvR q)<|.o (lnR (l:=t6_5.1) sl40 q)<|.o (ltI q q)<|.nil0) ?_
     by_cases c21:x3 < (t6_5.1.length:Int)
     ·rw [if_pos c21] at h
      refine .condT q (dt c21)<|.skip<|.seq<|.block<|.seq<|.seq ?_
      obtain ⟨g40_2,h⟩:=h
      obtain ⟨g40_7,h⟩:=h
      refine .reg1 (e1:=listEnv [(9,.rows (t6_5.1.map (cSl (cInt .i64)))),(11,.rows (t7_5.1.map (cSl (cInt .i64)))),(17,i6 x3),(112,bo (((rdl t6_5.1 x3).length:Int) != ((rdl t7_5.1 x3).length:Int)))]) (H1:=[]) q ?_ ?_
      ·exact .drawM [(10,112,bo (((rdl t6_5.1 x3).length:Int) != ((rdl t7_5.1 x3).length:Int))),(9,111,i6 ((rdl t7_5.1 x3).length:Int)),(8,110,.rows ((rdl t7_5.1 x3).map (cInt .i64))),(7,109,.cptr ((cSl (cInt .i64)) (rdl t7_5.1 x3)) 0),(6,108,i6 x3),(5,107,.rows (t7_5.1.map (cSl (cInt .i64)))),(4,106,i6 ((rdl t6_5.1 x3).length:Int)),(3,105,.rows ((rdl t6_5.1 x3).map (cInt .i64))),(2,104,.cptr ((cSl (cInt .i64)) (rdl t6_5.1 x3)) 0),(1,103,i6 x3),(0,102,.rows (t6_5.1.map (cSl (cInt .i64))))] [] [[],[],[0,1],[2,0,1],[3,2,0,1],[],[],[5,6],[7,5,6],[8,7,5,6],[4,3,2,0,1,9,8,7,5,6]] (by rfl) (by rfl) (by rfl) (by exact ⟨oP (fun _=>mvR q) q,oP (fun _=>mvV q) q,oP (fun _=>ixR (l:=t6_5.1) (lit:=(cSl (cInt .i64))) sl40 q q (fun _=>q) g40_2.1 g40_2.2) q,oP (fun _=>ldC q sz29 ag29 q) q,oP (fun _=>lnR (l:=(rdl t6_5.1 x3)) sl29 q) q,oP (fun _=>mvR q) q,oP (fun _=>mvV q) q,oP (fun _=>ixR (l:=t7_5.1) (lit:=(cSl (cInt .i64))) sl40 q q (fun _=>q) g40_7.1 g40_7.2) q,oP (fun _=>ldC q sz29 ag29 q) q,oP (fun _=>lnR (l:=(rdl t7_5.1 x3)) sl29 q) q,oP (fun _=>neI q q) q,trivial⟩) _ (by exact ⟨.free q q,.free q q,.free q q,.free q q,trivial⟩) (by rfl)
      by_cases c22:((rdl t6_5.1 x3).length:Int)=((rdl t7_5.1 x3).length:Int)
      ·rw [if_pos c22] at h
       refine .condF q (nf c22)<|.skip<|.seq<|.reg0 q (.o (asV q)<|.nil0)<|.block<|.keepL [] [(9,.rows (t6_5.1.map (cSl (cInt .i64)))),(11,.rows (t7_5.1.map (cSl (cInt .i64)))),(17,i6 x3),(18,i6 0)] [] (by decide) (by decide) ⟨.free q q,.free q q,.free q q,.free q q,trivial⟩ trivial ?_
       obtain ⟨o2,hL2,h⟩:=h
       refine .loopB (l13_LimitRuns.b2 t6_5 t7_5 x3) (fun x5=>listEnv [(9,.rows (t6_5.1.map (cSl (cInt .i64)))),(11,.rows (t7_5.1.map (cSl (cInt .i64)))),(17,i6 x3),(18,i6 x5)]) (fun x5=>[]) (fun _=>listEnv [(9,.rows (t6_5.1.map (cSl (cInt .i64)))),(11,.rows (t7_5.1.map (cSl (cInt .i64)))),(17,i6 x3)]) (fun _=>[]) hL2 (fun r_=>z1=.ret r_) ?_ ?_ ?_
       ·rintro ⟨⟩ rfl
        try dsimp only [Fin.on] at h
        refine .inBlock<|.reg0 q (.o (mvV q)<|.o (addI q q)<|.o (asV q)<|.nil0)<|.kf [(9,.rows (t6_5.1.map (cSl (cInt .i64)))),(11,.rows (t7_5.1.map (cSl (cInt .i64)))),(17,i6 (IntKind.i64.wrap (x3 + 1)))] q q ?_
        exact hn1 _ h
       ·rintro r_ rfl
        exact h
       ·rintro x5 z2 h hn2 hx2 hr2
        dsimp only [l13_LimitRuns.b2] at h
        refine .seq<|.seq ?_
        obtain ⟨g50_3,h⟩:=h
        refine .reg0 q (.m q<|.o (mvR q)<|.m q<|.o (ixR (l:=t6_5.1) (lit:=(cSl (cInt .i64))) sl40 q q (fun _=>q) g50_3.1 g50_3.2)<|.o (ldC q sz29 ag29 q)<|.o (lnR (l:=(rdl t6_5.1 x3)) sl29 q)<|.o (ltI q q)<|.nil0) ?_
        by_cases c27:x5 < ((rdl t6_5.1 x3).length:Int)
        ·rw [if_pos c27] at h
         refine .condT q (dt c27)<|.skip<|.seq<|.block<|.seq ?_
         obtain ⟨g51_2,h⟩:=h
         obtain ⟨g51_5,h⟩:=h
         obtain ⟨g51_9,h⟩:=h
         obtain ⟨g51_12,h⟩:=h
         refine .reg1 (e1:=listEnv [(9,.rows (t6_5.1.map (cSl (cInt .i64)))),(11,.rows (t7_5.1.map (cSl (cInt .i64)))),(17,i6 x3),(18,i6 x5),(136,bo ((rdl (rdl t6_5.1 x3) x5) != (rdl (rdl t7_5.1 x3) x5)))]) (H1:=[]) q ?_ ?_
         ·exact .drawM [(14,136,bo ((rdl (rdl t6_5.1 x3) x5) != (rdl (rdl t7_5.1 x3) x5))),(13,135,i6 (rdl (rdl t7_5.1 x3) x5)),(12,134,.cptr ((cInt .i64) (rdl (rdl t7_5.1 x3) x5)) 0),(11,133,i6 x5),(10,132,.rows ((rdl t7_5.1 x3).map (cInt .i64))),(9,131,.cptr ((cSl (cInt .i64)) (rdl t7_5.1 x3)) 0),(8,130,i6 x3),(7,129,.rows (t7_5.1.map (cSl (cInt .i64)))),(6,128,i6 (rdl (rdl t6_5.1 x3) x5)),(5,127,.cptr ((cInt .i64) (rdl (rdl t6_5.1 x3) x5)) 0),(4,126,i6 x5),(3,125,.rows ((rdl t6_5.1 x3).map (cInt .i64))),(2,124,.cptr ((cSl (cInt .i64)) (rdl t6_5.1 x3)) 0),(1,123,i6 x3),(0,122,.rows (t6_5.1.map (cSl (cInt .i64))))] [] [[],[],[0,1],[2,0,1],[],[3,2,0,1,4],[5,3,2,0,1,4],[],[],[7,8],[9,7,8],[],[10,9,7,8,11],[12,10,9,7,8,11],[6,5,3,2,0,1,4,13,12,10,9,7,8,11]] (by rfl) (by rfl) (by rfl) (by exact ⟨oP (fun _=>mvR q) q,oP (fun _=>mvV q) q,oP (fun _=>ixR (l:=t6_5.1) (lit:=(cSl (cInt .i64))) sl40 q q (fun _=>q) g51_2.1 g51_2.2) q,oP (fun _=>ldC q sz29 ag29 q) q,oP (fun _=>mvV q) q,oP (fun _=>ixR (l:=(rdl t6_5.1 x3)) (lit:=(cInt .i64)) sl29 q q (fun _=>q) g51_5.1 g51_5.2) q,oP (fun _=>ldC q sz3 ag3 q) q,oP (fun _=>mvR q) q,oP (fun _=>mvV q) q,oP (fun _=>ixR (l:=t7_5.1) (lit:=(cSl (cInt .i64))) sl40 q q (fun _=>q) g51_9.1 g51_9.2) q,oP (fun _=>ldC q sz29 ag29 q) q,oP (fun _=>mvV q) q,oP (fun _=>ixR (l:=(rdl t7_5.1 x3)) (lit:=(cInt .i64)) sl29 q q (fun _=>q) g51_12.1 g51_12.2) q,oP (fun _=>ldC q sz3 ag3 q) q,oP (fun _=>neI q q) q,trivial⟩) _ (by exact ⟨.free q q,.free q q,.free q q,.free q q,.free q q,trivial⟩) (by rfl)
         by_cases c28:(rdl (rdl t6_5.1 x3) x5)=(rdl (rdl t7_5.1 x3) x5)
         ·rw [if_pos c28] at h
          refine .condF q (nf c28)<|.skip<|.inBlock<|.reg0 q (.o (mvV q)<|.o (addI q q)<|.o (asV q)<|.nil0)<|.kf [(9,.rows (t6_5.1.map (cSl (cInt .i64)))),(11,.rows (t7_5.1.map (cSl (cInt .i64)))),(17,i6 x3),(18,i6 (IntKind.i64.wrap (x5 + 1)))] q q ?_
          exact hn2 _ h
         ·rw [if_neg c28] at h
          refine .condT q (nt c28)<|.seq<|.reg0 q (.o (asV q)<|.nil0) ?_
          have q15:=hr2 _ h
          have q16:=hr1 _ q15
          replace q16:=q16.symm
          subst q16
          refine .kf [(8,bo false)] q q ?_
          exact .ret q
        ·rw [if_neg c27] at h
         refine .condF q (df c27)<|.exit q<|.keepL [] [(9,.rows (t6_5.1.map (cSl (cInt .i64)))),(11,.rows (t7_5.1.map (cSl (cInt .i64)))),(17,i6 x3)] [] (by decide) (by decide) ⟨.free q q,.free q q,.free q q,trivial⟩ trivial ?_
         exact hx2 _ h
      ·rw [if_neg c22] at h
       refine .condT q (nt c22)<|.seq<|.reg0 q (.o (asV q)<|.nil0) ?_
       have q17:=hr1 _ h
       replace q17:=q17.symm
       subst q17
       refine .kf [(8,bo false)] q q ?_
       exact .ret q
     ·rw [if_neg c21] at h
      refine .condF q (df c21)<|.exit q<|.keepL [] [] [] (by decide) (by decide) trivial trivial ?_
      exact hx1 _ h
  ·by_cases c29:a3≤12
   ·rw [if_pos c29] at h
    refine .condT q (dt c29) ?_
    obtain ⟨t57_1,g57_1,h⟩:=h
    refine .reg0 q (.m q<|.c q go10 q q q (l13_turns.D g57_1)<|.a q<|.nil0)<|.keepL [0,1,2] [(3,i6 t57_1),(4,.ptr 0 1 13 0 0),(5,.ptr 1 1 2 0 0),(6,.ptr 2 1 2 0 0)] [⟨13,[(TQuery.lit a0)],0,none⟩,⟨2,[(TConf.lit a1)],0,none⟩,⟨2,[(TConf.lit a2)],0,none⟩] (by decide) (by decide) ⟨.free q q,.ptr q,.ptr q,.ptr q,trivial⟩ ⟨⟨_,q,bcBox (all2_free q)⟩,⟨_,q,bcBox (all2_free q)⟩,⟨_,q,bcBox (all2_free q)⟩,trivial⟩ ?_
    exact hJ1 _ h
   ·rw [if_neg c29] at h
    refine .condF q (df c29)<|.skip<|.keepL [0,1,2] [(3,i6 a3),(4,.ptr 0 1 13 0 0),(5,.ptr 1 1 2 0 0),(6,.ptr 2 1 2 0 0)] [⟨13,[(TQuery.lit a0)],0,none⟩,⟨2,[(TConf.lit a1)],0,none⟩,⟨2,[(TConf.lit a2)],0,none⟩] (by decide) (by decide) ⟨.free q q,.ptr q,.ptr q,.ptr q,trivial⟩ ⟨⟨_,q,bcBox (all2_free q)⟩,⟨_,q,bcBox (all2_free q)⟩,⟨_,q,bcBox (all2_free q)⟩,trivial⟩ ?_
    exact hJ1 _ h
end Go.RM.Tryz
