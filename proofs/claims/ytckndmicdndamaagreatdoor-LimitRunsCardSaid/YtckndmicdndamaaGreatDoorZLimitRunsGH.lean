/- GH, for the statement LimitRuns: what it needs, no more. -/
import Derived.Test.YtckndmicdndamaaGreatDoorZLimitRunsGG
set_option linter.unusedVariables false
set_option maxRecDepth 8000
set_option maxHeartbeats 4000000
namespace Go.RM.Tryz
open Go.RM Go.Proofs
def l13_alive.f (r:Bool):Prop :=
 ∃ t4_3:(List (List Int)) × Int,(limit_Runs.f (TPds.mk (TSpace.mk 2 9 []) 1 1 [(TRule.mk 0 0 0 [0,0] (TWeight.mk false 1 (TFacts.mk 0 []) [] [])),(TRule.mk 0 0 0 [] (TWeight.mk false 2 (TFacts.mk 0 []) [] []))]) (TConf.mk 0 [0]) (TConf.mk 0 [0]) 2 t4_3)∧∃ t5_3:TWeight × Int,(limit_Worth.f (TPds.mk (TSpace.mk 2 9 []) 1 1 [(TRule.mk 0 0 0 [0,0] (TWeight.mk false 1 (TFacts.mk 0 []) [] [])),(TRule.mk 0 0 0 [] (TWeight.mk false 2 (TFacts.mk 0 []) [] []))]) (TConf.mk 0 [0]) (TConf.mk 0 []) 3 t5_3)∧((t4_3.2=0)→(t5_3.2=0)→((t4_3.1.length:Int)=2)→(InR 1 t4_3.1.length))∧((t4_3.2=0)→(t5_3.2=0)→((t4_3.1.length:Int)=2)→(((rdl t4_3.1 1).length:Int)=2)→(InR 1 t4_3.1.length))∧((t4_3.2=0)→(t5_3.2=0)→((t4_3.1.length:Int)=2)→(((rdl t4_3.1 1).length:Int)=2)→(InR 1 (rdl t4_3.1 1).length))∧r=((t4_3.2 == 0) && ((t5_3.2 == 0) && (((t4_3.1.length:Int) == 2) && ((((rdl t4_3.1 1).length:Int) == 2) && (((rdl (rdl t4_3.1 1) 1) == 1) && ((t5_3.1.Cost == 2) && (!t5_3.1.Zero)))))))
abbrev GH_c0:List PV:=[i6 0,i6 0,i6 0,nul,bo false,i6 2,u6 0,nul,nul,nul]
abbrev GH_c1:List PV:=[i6 2,i6 9,nul,i6 1,i6 1,.own 1 2]
theorem l13_alive.D {r} (h:l13_alive.f r):D Tryz.prog X (.callH 9 [] [] (.val (.bool r)) []):=by
 unfold l13_alive.f at h
 refine .enter 67 0 fn9 q q q<|.seq<|.reg0 q (.o (asV q)<|.nil0)<|.seq<|.room 0<|.room 0<|.room 0<|.reg0 q (.o (bldS (cs:=[i6 2,i6 9,nul]) ze25 pl25 q q)<|.o (bldL (s:=1) (cs:=[i6 0,i6 0]) un29 sz3 ze3 ⟨by decide,q,by decide⟩ q q q q)<|.o (bldS (cs:=[bo false,i6 1,u6 0,nul,nul,nul]) ze53 pl53 q q)<|.o (bldS (cs:=[i6 0,i6 0,i6 0,.own 0 ([0,0].length),bo false,i6 1,u6 0,nul,nul,nul]) ze77 pl77 q q)<|.o (bldS (cs:=[bo false,i6 2,u6 0,nul,nul,nul]) ze53 pl53 q q)<|.o (bldS (cs:=GH_c0) ze77 pl77 q q)<|.op 1 q (bldL (s:=10) (cs:=[i6 0,i6 0,i6 0,.own 0 ([0,0].length),bo false,i6 1,u6 0,nul,nul,nul,i6 0,i6 0,i6 0,nul,bo false,i6 2,u6 0,nul,nul,nul]) un26 sz77 ze77 ⟨by decide,q,by decide⟩ q q q q)<|.o (bldS (cs:=GH_c1) ze28 pl28 q q)<|.op 2 q (alP (s:=6) ze28 ⟨q,by decide,q⟩ q)<|.o (stB (cs0:=[i6 0,i6 0,nul,i6 0,i6 0,nul]) (cs:=GH_c1) (cs1:=GH_c1) q q sz28 q ⟨Nat.le_of_ble_eq_true q,q⟩ q)<|.nil0) ?_
 refine .seq<|.room 0<|.room 0<|.reg0 q (.op 3 q (bldL (s:=1) (cs:=[i6 0]) un29 sz3 ze3 ⟨by decide,q,by decide⟩ q q q q)<|.o (bldS (cs:=[i6 0,.own 3 ([0].length)]) ze36 pl36 q q)<|.op 4 q (alP (s:=2) ze36 ⟨q,by decide,q⟩ q)<|.o (stB (cs0:=[i6 0,nul]) (cs:=[i6 0,.own 3 ([0].length)]) (cs1:=[i6 0,.own 3 ([0].length)]) q q sz36 q ⟨Nat.le_of_ble_eq_true q,q⟩ q)<|.nil0) ?_
 refine .seq ?_
 obtain ⟨t4_3,g4_3,h⟩:=h
 refine .reg0 q (.o (ldG q sz28 ag28 q)<|.o (ldG q sz36 ag36 q)<|.o (ldG q sz36 ag36 q)<|.callI q (callee_of q go11 q) (.lendC (args':=[.agg [i6 2,i6 9,.rows (([]:List TSpace).map TSpace.cells),i6 1,i6 1,.rows ([(TRule.mk 0 0 0 [0,0] (TWeight.mk false 1 (TFacts.mk 0 []) [] [])),(TRule.mk 0 0 0 [] (TWeight.mk false 2 (TFacts.mk 0 []) [] []))].map TRule.cells)],.agg [i6 0,.rows ([0].map (cInt .i64))],.agg [i6 0,.rows ([0].map (cInt .i64))],i6 2])  [0,1,3] true (.cons (cAgg (.cons (.free q q)<|.cons (.free q q)<|.cons (.nil)<|.cons (.free q q)<|.cons (.free q q)<|.cons (cFixE (es1:=[(TRule.mk 0 0 0 [0,0] (TWeight.mk false 1 (TFacts.mk 0 []) [] [])),(TRule.mk 0 0 0 [] (TWeight.mk false 2 (TFacts.mk 0 []) [] []))].map TRule.cells) q q q (.cons ((.cons (.free q q)<|.cons (.free q q)<|.cons (.free q q)<|.cons (cFixO (l:=[0,0]) sl29 q q q q)<|.cons (.free q q)<|.cons (.free q q)<|.cons (.free q q)<|.cons (.nil)<|.cons (.nil)<|.cons (.nil)<|.nil))<|.cons ((.cons (.free q q)<|.cons (.free q q)<|.cons (.free q q)<|.cons (.nil)<|.cons (.free q q)<|.cons (.free q q)<|.cons (.free q q)<|.cons (.nil)<|.cons (.nil)<|.cons (.nil)<|.nil))<|.nil))<|.nil))<|.cons (cAgg (.cons (.free q q)<|.cons (cFixO (l:=[0]) sl29 q q q q)<|.nil))<|.cons (cAgg (.cons (.free q q)<|.cons (cFixO (l:=[0]) sl29 q q q q)<|.nil))<|.cons (.free q q)<|.nil) (by decide) q q q q (limit_Runs.D g4_3))<|.o (mvT q)<|.o (exT q q)<|.o (exT q q)<|.o (asR q)<|.a q<|.nil0) ?_
 refine .seq ?_
 obtain ⟨t5_3,g5_3,h⟩:=h
 refine .room 0<|.reg0 (e1:=listEnv [(3,.rows (t4_3.1.map (cSl (cInt .i64)))),(4,i6 t4_3.2),(5,.ptr 5 1 6 0 0),(6,i6 t5_3.2)]) (H1:=[⟨1,[0,0].map (cInt .i64),(max (max 0 ([0,0].map (cInt .i64):List (List PV)).length) ([0,0].map (cInt .i64):List (List PV)).length),none⟩,⟨10,[[i6 0,i6 0,i6 0,.own 0 ([0,0].length),bo false,i6 1,u6 0,nul,nul,nul],GH_c0],(max (max 0 ([[i6 0,i6 0,i6 0,.own 0 ([0,0].length),bo false,i6 1,u6 0,nul,nul,nul],GH_c0]:List (List PV)).length) ([[i6 0,i6 0,i6 0,.own 0 ([0,0].length),bo false,i6 1,u6 0,nul,nul,nul],GH_c0]:List (List PV)).length),none⟩,⟨6,[GH_c1],0,none⟩,⟨1,[0].map (cInt .i64),(max (max 0 ([0].map (cInt .i64):List (List PV)).length) ([0].map (cInt .i64):List (List PV)).length),none⟩,⟨2,[[i6 0,.own 3 ([0].length)]],0,none⟩,⟨6,[(TWeight.lit t5_3.1)],0,none⟩]) q (.o (ldG q sz28 ag28 q)<|.o (ldG q sz36 ag36 q)<|.o (bldS (cs:=[i6 0,nul]) ze36 pl36 q q)<|.callI q (callee_of q go13 q) (.lendC (args':=[.agg [i6 2,i6 9,.rows (([]:List TSpace).map TSpace.cells),i6 1,i6 1,.rows ([(TRule.mk 0 0 0 [0,0] (TWeight.mk false 1 (TFacts.mk 0 []) [] [])),(TRule.mk 0 0 0 [] (TWeight.mk false 2 (TFacts.mk 0 []) [] []))].map TRule.cells)],.agg [i6 0,.rows ([0].map (cInt .i64))],.agg [i6 0,.rows (([]:List Int).map (cInt .i64))],i6 3])  [0,1,3] true (.cons (cAgg (.cons (.free q q)<|.cons (.free q q)<|.cons (.nil)<|.cons (.free q q)<|.cons (.free q q)<|.cons (cFixE (es1:=[(TRule.mk 0 0 0 [0,0] (TWeight.mk false 1 (TFacts.mk 0 []) [] [])),(TRule.mk 0 0 0 [] (TWeight.mk false 2 (TFacts.mk 0 []) [] []))].map TRule.cells) q q q (.cons ((.cons (.free q q)<|.cons (.free q q)<|.cons (.free q q)<|.cons (cFixO (l:=[0,0]) sl29 q q q q)<|.cons (.free q q)<|.cons (.free q q)<|.cons (.free q q)<|.cons (.nil)<|.cons (.nil)<|.cons (.nil)<|.nil))<|.cons ((.cons (.free q q)<|.cons (.free q q)<|.cons (.free q q)<|.cons (.nil)<|.cons (.free q q)<|.cons (.free q q)<|.cons (.free q q)<|.cons (.nil)<|.cons (.nil)<|.cons (.nil)<|.nil))<|.nil))<|.nil))<|.cons (cAgg (.cons (.free q q)<|.cons (cFixO (l:=[0]) sl29 q q q q)<|.nil))<|.cons (cAgg (.cons (.free q q)<|.cons (.nil)<|.nil))<|.cons (.free q q)<|.nil) (by decide) q q q q (limit_Worth.D g5_3))<|.o (mvT q)<|.o (exT q q)<|.o (exT q q)<|.op 5 q (alP (s:=6) ze53 ⟨q,by decide,q⟩ q)<|.o (stB (cs0:=[bo false,i6 0,u6 0,nul,nul,nul]) (cs:=(TWeight.lit t5_3.1)) (cs1:=(TWeight.lit t5_3.1)) q q sz53 q ⟨Nat.le_of_ble_eq_true q,q⟩ q)<|.o (asV q)<|.nilL _ ⟨.free q q,.free q q,.ptr q,.free q q,trivial⟩) ?_
 refine .seq ?_
 obtain ⟨g6_13,h⟩:=h
 obtain ⟨g6_20,h⟩:=h
 obtain ⟨g6_22,h⟩:=h
 refine .reg0 (e1:=listEnv [(0,bo ((t4_3.2 == 0) && ((t5_3.2 == 0) && (((t4_3.1.length:Int) == 2) && ((((rdl t4_3.1 1).length:Int) == 2) && (((rdl (rdl t4_3.1 1) 1) == 1) && ((t5_3.1.Cost == 2) && (!t5_3.1.Zero))))))))]) (H1:=[⟨1,[0,0].map (cInt .i64),(max (max 0 ([0,0].map (cInt .i64):List (List PV)).length) ([0,0].map (cInt .i64):List (List PV)).length),none⟩,⟨10,[[i6 0,i6 0,i6 0,.own 0 ([0,0].length),bo false,i6 1,u6 0,nul,nul,nul],GH_c0],(max (max 0 ([[i6 0,i6 0,i6 0,.own 0 ([0,0].length),bo false,i6 1,u6 0,nul,nul,nul],GH_c0]:List (List PV)).length) ([[i6 0,i6 0,i6 0,.own 0 ([0,0].length),bo false,i6 1,u6 0,nul,nul,nul],GH_c0]:List (List PV)).length),none⟩,⟨6,[GH_c1],0,none⟩,⟨1,[0].map (cInt .i64),(max (max 0 ([0].map (cInt .i64):List (List PV)).length) ([0].map (cInt .i64):List (List PV)).length),none⟩,⟨2,[[i6 0,.own 3 ([0].length)]],0,none⟩,⟨6,[(TWeight.lit t5_3.1)],0,none⟩]) q ?_ ?_
 ·refine .m q<|.o (eqI q q)<|.m q<|?_
  by_cases c1:t4_3.2=0
  ·refine .g q (bt c1) (mvV q)<|.g q (bt c1) (eqI q q)<|.o (pkTV q (bt c1) q)<|.m q<|?_
   by_cases c2:t5_3.2=0
   ·refine .g q (bt c2) (mvR q)<|.g q (bt c2) (lnR (l:=t4_3.1) sl40 q)<|.g q (bt c2) (eqI q q)<|.o (pkTV q (bt c2) q)<|.m q<|?_
    by_cases c3:(t4_3.1.length:Int)=2
    ·refine .g q (bt c3) (mvR q)<|.g q (bt c3) (ixR (l:=t4_3.1) (lit:=(cSl (cInt .i64))) sl40 q q (fun _=>q) (g6_13 c1 c2 c3).1 (g6_13 c1 c2 c3).2)<|.g q (bt c3) (ldC q sz29 ag29 q)<|.g q (bt c3) (lnR (l:=(rdl t4_3.1 1)) sl29 q)<|.g q (bt c3) (eqI q q)<|.o (pkTV q (bt c3) q)<|.m q<|?_
     by_cases c4:((rdl t4_3.1 1).length:Int)=2
     ·refine .g q (bt c4) (mvR q)<|.g q (bt c4) (ixR (l:=t4_3.1) (lit:=(cSl (cInt .i64))) sl40 q q (fun _=>q) (g6_20 c1 c2 c3 c4).1 (g6_20 c1 c2 c3 c4).2)<|.g q (bt c4) (ldC q sz29 ag29 q)<|.g q (bt c4) (ixR (l:=(rdl t4_3.1 1)) (lit:=(cInt .i64)) sl29 q q (fun _=>q) (g6_22 c1 c2 c3 c4).1 (g6_22 c1 c2 c3 c4).2)<|.g q (bt c4) (ldC q sz3 ag3 q)<|.g q (bt c4) (eqI q q)<|.o (pkTV q (bt c4) q)<|.m q<|?_
      by_cases c5:(rdl (rdl t4_3.1 1) 1)=1
      ·refine .g q (bt c5) (faP fa53_1 q)<|.g q (bt c5) (ldP q sz3 ag3 q)<|.g q (bt c5) (eqI q q)<|.o (pkTV q (bt c5) q)<|.m q<|?_
       by_cases c6:t5_3.1.Cost=2
       ·exact (.g q (bt c6) (faP fa53_0 q)<|.g q (bt c6) (ldP q sz4 ag4 q)<|.g q (bt c6) (notB q)<|.o (pkTV q (bt c6) q)<|.a q<|.nilL _ ⟨cB q (mAndT (bt c1) (mAndT (bt c2) (mAndT (bt c3) (mAndT (bt c4) (mAndT (bt c5) (mAndT (bt c6) q)))))),trivial⟩)
       ·exact (.n q (bn c6)<|.n q (bn c6)<|.n q (bn c6)<|.o (pkFV q (bn c6) q)<|.a q<|.nilL _ ⟨cB q (mAndT (bt c1) (mAndT (bt c2) (mAndT (bt c3) (mAndT (bt c4) (mAndT (bt c5) (mAndF (bn c6))))))),trivial⟩)
      ·exact (.n q (bn c5)<|.n q (bn c5)<|.n q (bn c5)<|.o (pkFV q (bn c5) q)<|.m q<|.n q q<|.n q q<|.n q q<|.o (pkFV q q q)<|.a q<|.nilL _ ⟨cB q (mAndT (bt c1) (mAndT (bt c2) (mAndT (bt c3) (mAndT (bt c4) (mAndF (bn c5)))))),trivial⟩)
     ·exact (.n q (bn c4)<|.n q (bn c4)<|.n q (bn c4)<|.n q (bn c4)<|.n q (bn c4)<|.n q (bn c4)<|.o (pkFV q (bn c4) q)<|.m q<|.n q q<|.n q q<|.n q q<|.o (pkFV q q q)<|.m q<|.n q q<|.n q q<|.n q q<|.o (pkFV q q q)<|.a q<|.nilL _ ⟨cB q (mAndT (bt c1) (mAndT (bt c2) (mAndT (bt c3) (mAndF (bn c4))))),trivial⟩)
    ·exact (.n q (bn c3)<|.n q (bn c3)<|.n q (bn c3)<|.n q (bn c3)<|.n q (bn c3)<|.o (pkFV q (bn c3) q)<|.m q<|.n q q<|.n q q<|.n q q<|.n q q<|.n q q<|.n q q<|.o (pkFV q q q)<|.m q<|.n q q<|.n q q<|.n q q<|.o (pkFV q q q)<|.m q<|.n q q<|.n q q<|.n q q<|.o (pkFV q q q)<|.a q<|.nilL _ ⟨cB q (mAndT (bt c1) (mAndT (bt c2) (mAndF (bn c3)))),trivial⟩)
   ·exact (.n q (bn c2)<|.n q (bn c2)<|.n q (bn c2)<|.o (pkFV q (bn c2) q)<|.m q<|.n q q<|.n q q<|.n q q<|.n q q<|.n q q<|.o (pkFV q q q)<|.m q<|.n q q<|.n q q<|.n q q<|.n q q<|.n q q<|.n q q<|.o (pkFV q q q)<|.m q<|.n q q<|.n q q<|.n q q<|.o (pkFV q q q)<|.m q<|.n q q<|.n q q<|.n q q<|.o (pkFV q q q)<|.a q<|.nilL _ ⟨cB q (mAndT (bt c1) (mAndF (bn c2))),trivial⟩)
  ·exact (.n q (bn c1)<|.n q (bn c1)<|.o (pkFV q (bn c1) q)<|.m q<|.n q q<|.n q q<|.n q q<|.o (pkFV q q q)<|.m q<|.n q q<|.n q q<|.n q q<|.n q q<|.n q q<|.o (pkFV q q q)<|.m q<|.n q q<|.n q q<|.n q q<|.n q q<|.n q q<|.n q q<|.o (pkFV q q q)<|.m q<|.n q q<|.n q q<|.n q q<|.o (pkFV q q q)<|.m q<|.n q q<|.n q q<|.n q q<|.o (pkFV q q q)<|.a q<|.nilL _ ⟨cB q (mAndF (bn c1)),trivial⟩)
 replace h:=h.symm
 subst h
 refine .kf [(0,bo ((t4_3.2 == 0) && ((t5_3.2 == 0) && (((t4_3.1.length:Int) == 2) && ((((rdl t4_3.1 1).length:Int) == 2) && (((rdl (rdl t4_3.1 1) 1) == 1) && ((t5_3.1.Cost == 2) && (!t5_3.1.Zero))))))))] q q ?_
 exact .ret q
def l13_turns.f (a0:Int) (r:Int):Prop :=
 if ((decide (a0 > 4)) && (decide (a0≤64)))=true then (r=4) else (r=a0)
theorem l13_turns.D {a0 r} (h:l13_turns.f a0 r):D Tryz.prog X (.callH 10 [.val (.int .i64 a0)] [] (.val (.int .i64 r)) []):=by
 unfold l13_turns.f at h
 refine .enter 10 0 fn10 q q q<|.seq<|.reg0 q (.o (asV q)<|.nil0)<|.seq<|.seq ?_
 refine .reg0 (e1:=listEnv [(0,i6 a0),(8,bo ((decide (a0 > 4)) && (decide (a0≤64))))]) (H1:=[]) q ?_ ?_
 ·refine .m q<|.o (gtI q q)<|.m q<|?_
  by_cases c1:a0 > 4
  ·exact (.g q (dt c1) (mvV q)<|.g q (dt c1) (leI q q)<|.o (pkTV q (dt c1) q)<|.nilL _ ⟨.free q q,cB q (mAndT (dt c1) q),trivial⟩)
  ·exact (.n q (df c1)<|.n q (df c1)<|.o (pkFV q (df c1) q)<|.nilL _ ⟨.free q q,cB q (mAndF (df c1)),trivial⟩)
 by_cases c2:((decide (a0 > 4)) && (decide (a0≤64)))=true
 ·rw [if_pos c2] at h
  refine .condT q c2<|.seq<|.reg0 q (.o (asV q)<|.nil0) ?_
  replace h:=h.symm
  subst h
  refine .kf [(2,i6 4)] q q ?_
  exact .ret q
 ·rw [if_neg c2] at h
  refine .condF q (nb c2)<|.skip<|.seq<|.reg0 q (.o (mvV q)<|.o (asV q)<|.nil0) ?_
  replace h:=h.symm
  subst h
  refine .kf [(2,i6 a0)] q q ?_
  exact .ret q
def r05_Space.b1 (self41:TSpace→Int→Prop) (a0:TSpace):(Bool × Int)→Rnd ((Bool × Int)) Bool Int→Prop:=fun (x2,x3) z1=>if ((decide (x3 < (a0.Parts.length:Int))) && x2)=true then (((InR x3 a0.Parts.length))∧(¬ ((rdl a0.Parts x3).Tag=5)→(InR x3 a0.Parts.length))∧∃ t30_13:Int,(¬ ((rdl a0.Parts x3).Tag=5)→self41 (rdl a0.Parts x3) t30_13)∧z1=.next (((!((rdl a0.Parts x3).Tag == 5)) && (t30_13 == 0)),(IntKind.i64.wrap (x3 + 1)))) else (z1=.exit x2)
def r05_Space.j1 (self41:TSpace→Int→Prop) (a0:TSpace):Bool→Int→Prop:=fun x1 r=>if x1=true then (if ((decide (a0.Dim ≥ 0)) && ((decide (a0.Dim≤64)) && ((a0.Parts.length:Int) == 0)))=true then (r=0) else (r=50)) else (if a0.Tag=5 then (∃ o1:Fin Bool Int,Loop (r05_Space.b1 self41 a0) (((a0.Dim == 0) && ((a0.Parts.length:Int) == 2)),0) o1∧o1.on (fun x4=>if x4=true then (r=0) else (r=50)) (fun r_=>r=r_)) else (r=50))
def r05_Space.step (self41:TSpace→Int→Prop) (a0:TSpace) (r:Int):Prop :=
 if a0.Tag=1 then (if ((a0.Dim == 0) && ((a0.Parts.length:Int) == 0))=true then (r=0) else (r=50)) else (if a0.Tag=2 then (if ((decide (a0.Dim ≥ 0)) && ((decide (a0.Dim≤1048576)) && ((a0.Parts.length:Int) == 0)))=true then (r=0) else (r=50)) else (if a0.Tag=3 then (r05_Space.j1 self41 a0 (a0.Tag == 3) r) else (r05_Space.j1 self41 a0 (a0.Tag == 4) r)))
theorem r05_Space.stepD {self41:TSpace→Int→Prop} {a0:TSpace} (hs41:∀ z0_ r_,self41 z0_ r_→D Tryz.prog X (.callH 41 [.agg (TSpace.lit z0_)] [] (.val (.int .i64 r_)) [])) {r:Int} (h:r05_Space.step self41 a0 r):D Tryz.prog X (.callH 41 [.agg (TSpace.lit a0)] [] (.val (.int .i64 r)) []):=by
 unfold r05_Space.step at h
 refine .enter 90 0 fn41 q q q<|.seq<|.room 0<|.reg0 q (.o (bxP (s:=3) (cs:=(TSpace.lit a0)) q ⟨q,by decide,q⟩ q)<|.o (asV q)<|.nil0)<|.seq<|.reg0 q (.o (asV q)<|.nil0)<|.seq<|.seq<|.reg0 q (.o (faP fa25_0 q)<|.o (ldP q sz22 ag22 q)<|.nil0)<|.block<|.seq<|.reg0 q (.o (eqI q q)<|.o (asV q)<|.nil0) ?_
 by_cases c1:a0.Tag=1
 ·rw [if_pos c1] at h
  refine .condT q (bt c1) ?_
  refine .reg0 (e1:=listEnv [(3,bo ((a0.Dim == 0) && ((a0.Parts.length:Int) == 0)))]) (H1:=[⟨3,[(TSpace.lit a0)],0,none⟩]) q ?_ ?_
  ·refine .o (faP fa25_1 q)<|.o (ldP q sz3 ag3 q)<|.o (eqI q q)<|.m q<|?_
   by_cases c2:a0.Dim=0
   ·exact (.g q (bt c2) (faP fa25_2 q)<|.g q (bt c2) (ldP q sz23 ag23 q)<|.g q (bt c2) (lnR (l:=a0.Parts) sl23 q)<|.g q (bt c2) (eqI q q)<|.o (pkTV q (bt c2) q)<|.a q<|.nilL _ ⟨cB q (mAndT (bt c2) q),trivial⟩)
   ·exact (.n q (bn c2)<|.n q (bn c2)<|.n q (bn c2)<|.n q (bn c2)<|.o (pkFV q (bn c2) q)<|.a q<|.nilL _ ⟨cB q (mAndF (bn c2)),trivial⟩)
  refine .inBlock<|.seq<|.seq<|.reg0 q (.o (mvV q)<|.o (notB q)<|.nil0) ?_
  by_cases c3:((a0.Dim == 0) && ((a0.Parts.length:Int) == 0))=true
  ·rw [if_pos c3] at h
   refine .condF q (bnotF c3)<|.skip<|.seq<|.reg0 q (.o (asV q)<|.nil0) ?_
   replace h:=h.symm
   subst h
   refine .kf [(2,i6 0)] q q ?_
   exact .ret q
  ·rw [if_neg c3] at h
   refine .condT q (bnotT (nb c3))<|.seq<|.reg0 q (.o (asV q)<|.nil0) ?_
   replace h:=h.symm
   subst h
   refine .kf [(2,i6 50)] q q ?_
   exact .ret q
 ·rw [if_neg c1] at h
  refine .condF q (bn c1)<|.seq<|.reg0 q (.o (eqI q q)<|.o (asV q)<|.nil0) ?_
  by_cases c4:a0.Tag=2
  ·rw [if_pos c4] at h
   refine .condT q (bt c4) ?_
   refine .reg0 (e1:=listEnv [(3,bo ((decide (a0.Dim ≥ 0)) && ((decide (a0.Dim≤1048576)) && ((a0.Parts.length:Int) == 0))))]) (H1:=[⟨3,[(TSpace.lit a0)],0,none⟩]) q ?_ ?_
   ·refine .o (faP fa25_1 q)<|.o (ldP q sz3 ag3 q)<|.o (geI q q)<|.m q<|?_
    by_cases c5:a0.Dim ≥ 0
    ·refine .g q (dt c5) (faP fa25_1 q)<|.g q (dt c5) (ldP q sz3 ag3 q)<|.g q (dt c5) (leI q q)<|.o (pkTV q (dt c5) q)<|.m q<|?_
     by_cases c6:a0.Dim≤1048576
     ·exact (.g q (dt c6) (faP fa25_2 q)<|.g q (dt c6) (ldP q sz23 ag23 q)<|.g q (dt c6) (lnR (l:=a0.Parts) sl23 q)<|.g q (dt c6) (eqI q q)<|.o (pkTV q (dt c6) q)<|.a q<|.nilL _ ⟨cB q (mAndT (dt c5) (mAndT (dt c6) q)),trivial⟩)
     ·exact (.n q (df c6)<|.n q (df c6)<|.n q (df c6)<|.n q (df c6)<|.o (pkFV q (df c6) q)<|.a q<|.nilL _ ⟨cB q (mAndT (dt c5) (mAndF (df c6))),trivial⟩)
    ·exact (.n q (df c5)<|.n q (df c5)<|.n q (df c5)<|.o (pkFV q (df c5) q)<|.m q<|.n q q<|.n q q<|.n q q<|.n q q<|.o (pkFV q q q)<|.a q<|.nilL _ ⟨cB q (mAndF (df c5)),trivial⟩)
   refine .inBlock<|.seq<|.seq<|.reg0 q (.o (mvV q)<|.o (notB q)<|.nil0) ?_
   by_cases c7:((decide (a0.Dim ≥ 0)) && ((decide (a0.Dim≤1048576)) && ((a0.Parts.length:Int) == 0)))=true
   ·rw [if_pos c7] at h
    refine .condF q (bnotF c7)<|.skip<|.seq<|.reg0 q (.o (asV q)<|.nil0) ?_
    replace h:=h.symm
    subst h
    refine .kf [(2,i6 0)] q q ?_
    exact .ret q
   ·rw [if_neg c7] at h
    refine .condT q (bnotT (nb c7))<|.seq<|.reg0 q (.o (asV q)<|.nil0) ?_
    replace h:=h.symm
    subst h
    refine .kf [(2,i6 50)] q q ?_
    exact .ret q
  ·rw [if_neg c4] at h
   refine .condF q (bn c4)<|.seq<|.seq<|.reg0 q (.o (eqI q q)<|.o (asV q)<|.nil0) ?_
   refine .consJ (fun s_=>r05_Space.j1 self41 a0 s_ r) (fun x1=>listEnv [(1,.ptr 0 1 3 0 0),(6,i6 a0.Tag),(34,bo x1)]) (fun x1=>[⟨3,[(TSpace.lit a0)],0,none⟩]) ?_ fun hJ1=>?_
   ·rintro x1 h
    unfold r05_Space.j1 at h
    try dsimp only at h
    by_cases c9:x1=true
    ·rw [if_pos c9] at h
     refine .condT q c9 ?_
     refine .reg0 (e1:=listEnv [(3,bo ((decide (a0.Dim ≥ 0)) && ((decide (a0.Dim≤64)) && ((a0.Parts.length:Int) == 0))))]) (H1:=[⟨3,[(TSpace.lit a0)],0,none⟩]) q ?_ ?_
     ·refine .o (faP fa25_1 q)<|.o (ldP q sz3 ag3 q)<|.o (geI q q)<|.m q<|?_
      by_cases c10:a0.Dim ≥ 0
      ·refine .g q (dt c10) (faP fa25_1 q)<|.g q (dt c10) (ldP q sz3 ag3 q)<|.g q (dt c10) (leI q q)<|.o (pkTV q (dt c10) q)<|.m q<|?_
       by_cases c11:a0.Dim≤64
       ·exact (.g q (dt c11) (faP fa25_2 q)<|.g q (dt c11) (ldP q sz23 ag23 q)<|.g q (dt c11) (lnR (l:=a0.Parts) sl23 q)<|.g q (dt c11) (eqI q q)<|.o (pkTV q (dt c11) q)<|.a q<|.nilL _ ⟨cB q (mAndT (dt c10) (mAndT (dt c11) q)),trivial⟩)
       ·exact (.n q (df c11)<|.n q (df c11)<|.n q (df c11)<|.n q (df c11)<|.o (pkFV q (df c11) q)<|.a q<|.nilL _ ⟨cB q (mAndT (dt c10) (mAndF (df c11))),trivial⟩)
      ·exact (.n q (df c10)<|.n q (df c10)<|.n q (df c10)<|.o (pkFV q (df c10) q)<|.m q<|.n q q<|.n q q<|.n q q<|.n q q<|.o (pkFV q q q)<|.a q<|.nilL _ ⟨cB q (mAndF (df c10)),trivial⟩)
     refine .inBlock<|.seq<|.seq<|.reg0 q (.o (mvV q)<|.o (notB q)<|.nil0) ?_
     by_cases c12:((decide (a0.Dim ≥ 0)) && ((decide (a0.Dim≤64)) && ((a0.Parts.length:Int) == 0)))=true
     ·rw [if_pos c12] at h
      refine .condF q (bnotF c12)<|.skip<|.seq<|.reg0 q (.o (asV q)<|.nil0) ?_
      replace h:=h.symm
      subst h
      refine .kf [(2,i6 0)] q q ?_
      exact .ret q
     ·rw [if_neg c12] at h
      refine .condT q (bnotT (nb c12))<|.seq<|.reg0 q (.o (asV q)<|.nil0) ?_
      replace h:=h.symm
      subst h
      refine .kf [(2,i6 50)] q q ?_
      exact .ret q
    ·rw [if_neg c9] at h
     refine .condF q (nb c9)<|.seq<|.reg0 q (.o (eqI q q)<|.o (asV q)<|.nil0) ?_
     by_cases c13:a0.Tag=5
     ·rw [if_pos c13] at h
      refine .condT q (bt c13)<|.seq ?_
      refine .reg0 (e1:=listEnv [(1,.ptr 0 1 3 0 0),(3,bo ((a0.Dim == 0) && ((a0.Parts.length:Int) == 2)))]) (H1:=[⟨3,[(TSpace.lit a0)],0,none⟩]) q ?_ ?_
      ·refine .o (faP fa25_1 q)<|.o (ldP q sz3 ag3 q)<|.o (eqI q q)<|.m q<|?_
       by_cases c14:a0.Dim=0
       ·exact (.g q (bt c14) (faP fa25_2 q)<|.g q (bt c14) (ldP q sz23 ag23 q)<|.g q (bt c14) (lnR (l:=a0.Parts) sl23 q)<|.g q (bt c14) (eqI q q)<|.o (pkTV q (bt c14) q)<|.a q<|.nilL _ ⟨.ptr q,cB q (mAndT (bt c14) q),trivial⟩)
       ·exact (.n q (bn c14)<|.n q (bn c14)<|.n q (bn c14)<|.n q (bn c14)<|.o (pkFV q (bn c14) q)<|.a q<|.nilL _ ⟨.ptr q,cB q (mAndF (bn c14)),trivial⟩)
      refine .seq<|.reg0 q (.o (asV q)<|.nil0)<|.block<|.keepL [0] [(1,.ptr 0 1 3 0 0),(3,bo ((a0.Dim == 0) && ((a0.Parts.length:Int) == 2))),(4,i6 0)] [⟨3,[(TSpace.lit a0)],0,none⟩] (by decide) (by decide) ⟨.ptr q,.free q q,.free q q,trivial⟩ ⟨⟨_,q,bcBox (all2_free q)⟩,trivial⟩ ?_
      obtain ⟨o1,hL1,h⟩:=h
      refine .loopB (r05_Space.b1 self41 a0) (fun (x2,x3)=>listEnv [(1,.ptr 0 1 3 0 0),(3,bo x2),(4,i6 x3)]) (fun (x2,x3)=>[⟨3,[(TSpace.lit a0)],0,none⟩]) (fun x4=>listEnv [(3,bo x4)]) (fun x4=>[]) hL1 (fun r_=>r=r_) ?_ ?_ ?_
      ·rintro x4 rfl
       try dsimp only [Fin.on] at h
       refine .inBlock<|.seq<|.seq<|.reg0 q (.o (mvV q)<|.o (notB q)<|.nil0) ?_
       by_cases c24:x4=true
       ·rw [if_pos c24] at h
        refine .condF q (bnotF c24)<|.skip<|.seq<|.reg0 q (.o (asV q)<|.nil0) ?_
        replace h:=h.symm
        subst h
        refine .kf [(2,i6 0)] q q ?_
        exact .ret q
       ·rw [if_neg c24] at h
        refine .condT q (bnotT (nb c24))<|.seq<|.reg0 q (.o (asV q)<|.nil0) ?_
        replace h:=h.symm
        subst h
        refine .kf [(2,i6 50)] q q ?_
        exact .ret q
      ·rintro r_ rfl
       exact h
      ·rintro ⟨x2,x3⟩ z1 h hn1 hx1 hr1
       dsimp only [r05_Space.b1] at h
       refine .seq<|.seq ?_
       refine .reg0 (e1:=listEnv [(1,.ptr 0 1 3 0 0),(3,bo x2),(4,i6 x3),(69,bo ((decide (x3 < (a0.Parts.length:Int))) && x2))]) (H1:=[⟨3,[(TSpace.lit a0)],0,none⟩]) q ?_ ?_
       ·refine .m q<|.o (faP fa25_2 q)<|.o (ldP q sz23 ag23 q)<|.o (lnR (l:=a0.Parts) sl23 q)<|.o (ltI q q)<|.m q<|?_
        by_cases c21:x3 < (a0.Parts.length:Int)
        ·exact (.g q (dt c21) (mvV q)<|.o (pkTV q (dt c21) q)<|.nilL _ ⟨.ptr q,.free q q,.free q q,cB q (mAndT (dt c21) q),trivial⟩)
        ·exact (.n q (df c21)<|.o (pkFV q (df c21) q)<|.nilL _ ⟨.ptr q,.free q q,.free q q,cB q (mAndF (df c21)),trivial⟩)
       by_cases c22:((decide (x3 < (a0.Parts.length:Int))) && x2)=true
       ·rw [if_pos c22] at h
        refine .condT q c22<|.skip<|.seq<|.block ?_
        obtain ⟨g30_3,h⟩:=h
        obtain ⟨g30_11,h⟩:=h
        obtain ⟨t30_13,g30_13,h⟩:=h
        refine .reg0 (e1:=listEnv [(1,.ptr 0 1 3 0 0),(3,bo ((!((rdl a0.Parts x3).Tag == 5)) && (t30_13 == 0))),(4,i6 x3)]) (H1:=[⟨3,[(TSpace.lit a0)],0,none⟩]) q ?_ ?_
        ·refine .o (faP fa25_2 q)<|.o (ldP q sz23 ag23 q)<|.m q<|.o (ixR (l:=a0.Parts) (lit:=TSpace.lit) sl23 q q TSpace.cells_lit g30_3.1 g30_3.2)<|.o (faC fa25_0 q)<|.o (ldC q sz22 ag22 q)<|.o (neI q q)<|.m q<|?_
         by_cases c23:(rdl a0.Parts x3).Tag=5
         ·exact (.n q (nf c23)<|.n q (nf c23)<|.n q (nf c23)<|.n q (nf c23)<|.n q (nf c23)<|.n q (nf c23)<|.n q (nf c23)<|.o (pkFV q (nf c23) q)<|.a q<|.nilL _ ⟨.ptr q,cB q (mAndF (bnotF (bt c23))),.free q q,trivial⟩)
         ·exact (.g q (nt c23) (faP fa25_2 q)<|.g q (nt c23) (ldP q sz23 ag23 q)<|.g q (nt c23) (mvV q)<|.g q (nt c23) (ixR (l:=a0.Parts) (lit:=TSpace.lit) sl23 q q TSpace.cells_lit (g30_11 c23).1 (g30_11 c23).2)<|.g q (nt c23) (ldCG q sz25 ag25 q)<|.callI (gT q q q (nt c23)) (callee_of q go41 q) (.pure q q (hs41 _ _ (g30_13 c23)))<|.g q (nt c23) (eqI q q)<|.o (pkTV q (nt c23) q)<|.a q<|.nilL _ ⟨.ptr q,cB q (mAndT (bnotT (bn c23)) q),.free q q,trivial⟩)
        refine .inBlock<|.reg0 q (.o (mvV q)<|.o (addI q q)<|.o (asV q)<|.nil0)<|.keepL [0] [(1,.ptr 0 1 3 0 0),(3,bo ((!((rdl a0.Parts x3).Tag == 5)) && (t30_13 == 0))),(4,i6 (IntKind.i64.wrap (x3 + 1)))] [⟨3,[(TSpace.lit a0)],0,none⟩] (by decide) (by decide) ⟨.ptr q,.free q q,.free q q,trivial⟩ ⟨⟨_,q,bcBox (all2_free q)⟩,trivial⟩ ?_
        exact hn1 _ h
       ·rw [if_neg c22] at h
        refine .condF q (nb c22)<|.exit q<|.keepL [] [(3,bo x2)] [] (by decide) (by decide) ⟨.free q q,trivial⟩ trivial ?_
        exact hx1 _ h
     ·rw [if_neg c13] at h
      refine .condF q (bn c13)<|.reg0 q (.a q<|.nil0)<|.inBlock<|.seq<|.seq<|.reg0 q (.o (mvV q)<|.o (notB q)<|.nil0)<|.condT q (bnotT q)<|.seq<|.reg0 q (.o (asV q)<|.nil0) ?_
      replace h:=h.symm
      subst h
      refine .kf [(2,i6 50)] q q ?_
      exact .ret q
   ·by_cases c25:a0.Tag=3
    ·rw [if_pos c25] at h
     refine .condT q (bt c25)<|.skip<|.keepL [0] [(1,.ptr 0 1 3 0 0),(6,i6 a0.Tag),(34,bo (a0.Tag == 3))] [⟨3,[(TSpace.lit a0)],0,none⟩] (by decide) (by decide) ⟨.ptr q,.free q q,.free q q,trivial⟩ ⟨⟨_,q,bcBox (all2_free q)⟩,trivial⟩ ?_
     exact hJ1 _ h
    ·rw [if_neg c25] at h
     refine .condF q (bn c25)<|.reg0 q (.o (eqI q q)<|.a q<|.nil0)<|.keepL [0] [(1,.ptr 0 1 3 0 0),(6,i6 a0.Tag),(34,bo (a0.Tag == 4))] [⟨3,[(TSpace.lit a0)],0,none⟩] (by decide) (by decide) ⟨.ptr q,.free q q,.free q q,trivial⟩ ⟨⟨_,q,bcBox (all2_free q)⟩,trivial⟩ ?_
     exact hJ1 _ h
def r05_Space.fN:Nat→TSpace→Int→Prop
 | 0=>fun _ _=>False
 | n + 1=>r05_Space.step (r05_Space.fN n)
theorem r05_Space.ND:∀ (n:Nat) {a0:TSpace} {r:Int} (h:r05_Space.fN n a0 r),D Tryz.prog X (.callH 41 [.agg (TSpace.lit a0)] [] (.val (.int .i64 r)) [])
 | 0,_,_,h=>h.elim
 | n + 1,_,_,h=>r05_Space.stepD (fun _ _ h=>r05_Space.ND n h) h
def r05_Space.f (a0:TSpace) (r:Int):Prop:=∃ n,r05_Space.fN n a0 r
theorem r05_Space.D {a0 r} (h:r05_Space.f a0 r):D Tryz.prog X (.callH 41 [.agg (TSpace.lit a0)] [] (.val (.int .i64 r)) []):=by obtain ⟨n,h⟩:=h; exact r05_Space.ND n h
def r11_in.f (a0:Int) (a1:Int) (r:Bool):Prop :=
 r=((decide (a0 ≥ 0)) && (decide (a0 < a1)))
theorem r11_in.D {a0 a1 r} (h:r11_in.f a0 a1 r):D Tryz.prog X (.callH 118 [.val (.int .i64 a0),.val (.int .i64 a1)] [] (.val (.bool r)) []):=by
 unfold r11_in.f at h
 refine .enter 12 0 fn118 q q q<|.seq<|.reg0 q (.o (asV q)<|.nil0)<|.seq ?_
 refine .reg0 (e1:=listEnv [(4,bo ((decide (a0 ≥ 0)) && (decide (a0 < a1))))]) (H1:=[]) q ?_ ?_
 ·refine .m q<|.o (geI q q)<|.m q<|?_
  by_cases c1:a0 ≥ 0
  ·exact (.g q (dt c1) (mvV q)<|.g q (dt c1) (mvV q)<|.g q (dt c1) (ltI q q)<|.o (pkTV q (dt c1) q)<|.a q<|.nilL _ ⟨cB q (mAndT (dt c1) q),trivial⟩)
  ·exact (.n q (df c1)<|.n q (df c1)<|.n q (df c1)<|.o (pkFV q (df c1) q)<|.a q<|.nilL _ ⟨cB q (mAndF (df c1)),trivial⟩)
 replace h:=h.symm
 subst h
 refine .kf [(4,bo ((decide (a0 ≥ 0)) && (decide (a0 < a1))))] q q ?_
 exact .ret q
def r11_rule.b1 (a0:TPds) (a1:TRule):Int→Rnd Int Unit Bool→Prop:=fun x1 z1=>if x1 < (a1.W.length:Int) then (((InR x1 a1.W.length))∧∃ t14_7:Bool,(r11_in.f (rdl a1.W x1) a0.Symbols t14_7)∧if t14_7=true then (z1=.next (IntKind.i64.wrap (x1 + 1))) else (z1=.ret false)) else (z1=.exit ())
def r11_rule.f (a0:TPds) (a1:TRule) (r:Bool):Prop :=
 ∃ t2_4:Bool,(r11_in.f a1.P a0.States t2_4)∧∃ t2_11:Bool,((t2_4=true)→r11_in.f a1.Q a0.States t2_11)∧∃ t2_19:Bool,((t2_4=true)→(t2_11=true)→r11_in.f a1.G a0.Symbols t2_19)∧if ((!t2_4) || ((!t2_11) || ((!t2_19) || (decide ((a1.W.length:Int) > 4096)))))=true then (r=false) else (∃ o1:Fin Unit Bool,Loop (r11_rule.b1 a0 a1) 0 o1∧o1.on (fun _=>r=true) (fun r_=>r=r_))
theorem r11_rule.D {a0 a1 r} (h:r11_rule.f a0 a1 r):D Tryz.prog X (.callH 75 [.agg (TPds.lit a0),.agg (TRule.lit a1)] [] (.val (.bool r)) []):=by
 unfold r11_rule.f at h
 refine .enter 50 0 fn75 q q q<|.seq<|.room 0<|.room 0<|.reg0 q (.o (bxP (s:=6) (cs:=(TPds.lit a0)) q ⟨q,by decide,q⟩ q)<|.op 1 q (bxP (s:=10) (cs:=(TRule.lit a1)) q ⟨q,by decide,q⟩ q)<|.o (asV q)<|.nil0)<|.seq<|.seq ?_
 obtain ⟨t2_4,g2_4,h⟩:=h
 obtain ⟨t2_11,g2_11,h⟩:=h
 obtain ⟨t2_19,g2_19,h⟩:=h
 refine .reg0 (e1:=listEnv [(2,.ptr 0 1 6 0 0),(3,.ptr 1 1 10 0 0),(33,bo ((!t2_4) || ((!t2_11) || ((!t2_19) || (decide ((a1.W.length:Int) > 4096))))))]) (H1:=[⟨6,[(TPds.lit a0)],0,none⟩,⟨10,[(TRule.lit a1)],0,none⟩]) q ?_ ?_
 ·refine .o (faP fa77_0 q)<|.o (ldP q sz3 ag3 q)<|.o (faP fa28_1 q)<|.o (ldP q sz3 ag3 q)<|.c q go118 q q q (r11_in.D g2_4)<|.o (notB q)<|.m q<|?_
  by_cases c1:t2_4=true
  ·refine .g q (bnotF c1) (faP fa77_2 q)<|.g q (bnotF c1) (ldP q sz3 ag3 q)<|.g q (bnotF c1) (faP fa28_1 q)<|.g q (bnotF c1) (ldP q sz3 ag3 q)<|.callI (gT q q q (bnotF c1)) (callee_of q go118 q) (.pure q q (r11_in.D (g2_11 c1)))<|.g q (bnotF c1) (notB q)<|.o (pkFV q (bnotF c1) q)<|.m q<|?_
   by_cases c2:t2_11=true
   ·refine .g q (bnotF c2) (faP fa77_1 q)<|.g q (bnotF c2) (ldP q sz3 ag3 q)<|.g q (bnotF c2) (faP fa28_2 q)<|.g q (bnotF c2) (ldP q sz3 ag3 q)<|.callI (gT q q q (bnotF c2)) (callee_of q go118 q) (.pure q q (r11_in.D (g2_19 c1 c2)))<|.g q (bnotF c2) (notB q)<|.o (pkFV q (bnotF c2) q)<|.m q<|?_
    by_cases c3:t2_19=true
    ·exact (.g q (bnotF c3) (faP fa77_3 q)<|.g q (bnotF c3) (ldP q sz29 ag29 q)<|.g q (bnotF c3) (lnR (l:=a1.W) sl29 q)<|.g q (bnotF c3) (gtI q q)<|.o (pkFV q (bnotF c3) q)<|.nilL _ ⟨.ptr q,.ptr q,cB q (mOrF (bnotF c1) (mOrF (bnotF c2) (mOrF (bnotF c3) q))),trivial⟩)
    ·exact (.n q (bnotT (nb c3))<|.n q (bnotT (nb c3))<|.n q (bnotT (nb c3))<|.n q (bnotT (nb c3))<|.o (pkTV q (bnotT (nb c3)) q)<|.nilL _ ⟨.ptr q,.ptr q,cB q (mOrF (bnotF c1) (mOrF (bnotF c2) (mOrT (bnotT (nb c3))))),trivial⟩)
   ·exact (.n q (bnotT (nb c2))<|.n q (bnotT (nb c2))<|.n q (bnotT (nb c2))<|.n q (bnotT (nb c2))<|.n q (bnotT (nb c2))<|.n q (bnotT (nb c2))<|.o (pkTV q (bnotT (nb c2)) q)<|.m q<|.n q q<|.n q q<|.n q q<|.n q q<|.o (pkTV q q q)<|.nilL _ ⟨.ptr q,.ptr q,cB q (mOrF (bnotF c1) (mOrT (bnotT (nb c2)))),trivial⟩)
  ·exact (.n q (bnotT (nb c1))<|.n q (bnotT (nb c1))<|.n q (bnotT (nb c1))<|.n q (bnotT (nb c1))<|.n q (bnotT (nb c1))<|.n q (bnotT (nb c1))<|.o (pkTV q (bnotT (nb c1)) q)<|.m q<|.n q q<|.n q q<|.n q q<|.n q q<|.n q q<|.n q q<|.o (pkTV q q q)<|.m q<|.n q q<|.n q q<|.n q q<|.n q q<|.o (pkTV q q q)<|.nilL _ ⟨.ptr q,.ptr q,cB q (mOrT (bnotT (nb c1))),trivial⟩)
 by_cases c4:((!t2_4) || ((!t2_11) || ((!t2_19) || (decide ((a1.W.length:Int) > 4096)))))=true
 ·rw [if_pos c4] at h
  refine .condT q c4<|.seq<|.reg0 q (.o (asV q)<|.nil0) ?_
  replace h:=h.symm
  subst h
  refine .kf [(4,bo false)] q q ?_
  exact .ret q
 ·rw [if_neg c4] at h
  refine .condF q (nb c4)<|.skip<|.seq<|.seq<|.reg0 q (.o (asV q)<|.nil0)<|.block<|.keepL [0,1] [(2,.ptr 0 1 6 0 0),(3,.ptr 1 1 10 0 0),(5,i6 0)] [⟨6,[(TPds.lit a0)],0,none⟩,⟨10,[(TRule.lit a1)],0,none⟩] (by decide) (by decide) ⟨.ptr q,.ptr q,.free q q,trivial⟩ ⟨⟨_,q,bcBox (all2_free q)⟩,⟨_,q,bcBox (all2_free q)⟩,trivial⟩ ?_
  obtain ⟨o1,hL1,h⟩:=h
  refine .loopB (r11_rule.b1 a0 a1) (fun x1=>listEnv [(2,.ptr 0 1 6 0 0),(3,.ptr 1 1 10 0 0),(5,i6 x1)]) (fun x1=>[⟨6,[(TPds.lit a0)],0,none⟩,⟨10,[(TRule.lit a1)],0,none⟩]) (fun _=>listEnv []) (fun _=>[]) hL1 (fun r_=>r=r_) ?_ ?_ ?_
  ·rintro ⟨⟩ rfl
   try dsimp only [Fin.on] at h
   refine .seq<|.reg0 q (.o (asV q)<|.nil0) ?_
   replace h:=h.symm
   subst h
   refine .kf [(4,bo true)] q q ?_
   exact .ret q
  ·rintro r_ rfl
   exact h
  ·rintro x1 z1 h hn1 hx1 hr1
   dsimp only [r11_rule.b1] at h
   refine .seq<|.seq<|.reg0 q (.o (mvV q)<|.o (faP fa77_3 q)<|.o (ldP q sz29 ag29 q)<|.o (lnR (l:=a1.W) sl29 q)<|.o (ltI q q)<|.nil0) ?_
   by_cases c9:x1 < (a1.W.length:Int)
   ·rw [if_pos c9] at h
    refine .condT q (dt c9)<|.skip<|.seq<|.block<|.seq ?_
    obtain ⟨g14_3,h⟩:=h
    obtain ⟨t14_7,g14_7,h⟩:=h
    refine .reg1 (e1:=listEnv [(2,.ptr 0 1 6 0 0),(3,.ptr 1 1 10 0 0),(5,i6 x1),(49,bo (!t14_7))]) (H1:=[⟨6,[(TPds.lit a0)],0,none⟩,⟨10,[(TRule.lit a1)],0,none⟩]) q ?_ ?_
    ·exact .drawM [(8,49,bo (!t14_7)),(7,48,bo t14_7),(6,47,i6 a0.Symbols),(5,46,.ptr 0 1 6 0 4),(4,45,i6 (rdl a1.W x1)),(3,44,.cptr ((cInt .i64) (rdl a1.W x1)) 0),(2,43,i6 x1),(1,42,.rows (a1.W.map (cInt .i64))),(0,41,.ptr 1 1 10 0 3)] [] [[],[0],[],[1,0,2],[3,1,0,2],[],[5],[4,3,1,0,2,6,5],[7,4,3,1,0,2,6,5]] (by rfl) (by rfl) (by rfl) (by exact ⟨oP (fun _=>faP fa77_3 q) q,oP (fun _=>ldP q sz29 ag29 q) q,oP (fun _=>mvV q) q,oP (fun _=>ixR (l:=a1.W) (lit:=(cInt .i64)) sl29 q q (fun _=>q) g14_3.1 g14_3.2) q,oP (fun _=>ldC q sz3 ag3 q) q,oP (fun _=>faP fa28_2 q) q,oP (fun _=>ldP q sz3 ag3 q) q,fun S hS hD hn=>.oneI hS hD hn q q (callee_of q go118 q) (.pure q q (r11_in.D g14_7)) q q q,oP (fun _=>notB q) q,trivial⟩) _ (by exact ⟨.ptr q,.ptr q,.free q q,.free q q,trivial⟩) (by rfl)
    by_cases c10:t14_7=true
    ·rw [if_pos c10] at h
     refine .condF q (bnotF c10)<|.skip<|.inBlock<|.reg0 q (.o (mvV q)<|.o (addI q q)<|.o (asV q)<|.nil0)<|.keepL [0,1] [(2,.ptr 0 1 6 0 0),(3,.ptr 1 1 10 0 0),(5,i6 (IntKind.i64.wrap (x1 + 1)))] [⟨6,[(TPds.lit a0)],0,none⟩,⟨10,[(TRule.lit a1)],0,none⟩] (by decide) (by decide) ⟨.ptr q,.ptr q,.free q q,trivial⟩ ⟨⟨_,q,bcBox (all2_free q)⟩,⟨_,q,bcBox (all2_free q)⟩,trivial⟩ ?_
     exact hn1 _ h
    ·rw [if_neg c10] at h
     refine .condT q (bnotT (nb c10))<|.seq<|.reg0 q (.o (asV q)<|.nil0) ?_
     have q3:=hr1 _ h
     replace q3:=q3.symm
     subst q3
     refine .kf [(4,bo false)] q q ?_
     exact .ret q
   ·rw [if_neg c9] at h
    refine .condF q (df c9)<|.exit q<|.keepL [] [] [] (by decide) (by decide) trivial trivial ?_
    exact hx1 _ h
def r05_plain.f (a0:TWeight) (a1:Bool) (a2:Bool) (a3:Bool) (a4:Bool) (r:Bool):Prop :=
 r=(bif a1 then (bif a2 then (bif a3 then (a4 || ((a0.Parts.length:Int) == 0)) else (((a0.Cells.length:Int) == 0) && (a4 || ((a0.Parts.length:Int) == 0)))) else ((a0.Facts.Gen == 0) && (((a0.Facts.Rows.length:Int) == 0) && (bif a3 then (a4 || ((a0.Parts.length:Int) == 0)) else (((a0.Cells.length:Int) == 0) && (a4 || ((a0.Parts.length:Int) == 0))))))) else ((a0.Cost == 0) && (bif a2 then (bif a3 then (a4 || ((a0.Parts.length:Int) == 0)) else (((a0.Cells.length:Int) == 0) && (a4 || ((a0.Parts.length:Int) == 0)))) else ((a0.Facts.Gen == 0) && (((a0.Facts.Rows.length:Int) == 0) && (bif a3 then (a4 || ((a0.Parts.length:Int) == 0)) else (((a0.Cells.length:Int) == 0) && (a4 || ((a0.Parts.length:Int) == 0)))))))))
theorem r05_plain.D {a0 a1 a2 a3 a4 r} (h:r05_plain.f a0 a1 a2 a3 a4 r):D Tryz.prog X (.callH 91 [.agg (TWeight.lit a0),.val (.bool a1),.val (.bool a2),.val (.bool a3),.val (.bool a4)] [] (.val (.bool r)) []):=by
 unfold r05_plain.f at h
 refine .enter 51 0 fn91 q q q<|.seq<|.room 0<|.reg0 q (.o (bxP (s:=6) (cs:=(TWeight.lit a0)) q ⟨q,by decide,q⟩ q)<|.o (asV q)<|.nil0)<|.seq ?_
 refine .reg0 (e1:=listEnv [(10,bo (bif a1 then (bif a2 then (bif a3 then (a4 || ((a0.Parts.length:Int) == 0)) else (((a0.Cells.length:Int) == 0) && (a4 || ((a0.Parts.length:Int) == 0)))) else ((a0.Facts.Gen == 0) && (((a0.Facts.Rows.length:Int) == 0) && (bif a3 then (a4 || ((a0.Parts.length:Int) == 0)) else (((a0.Cells.length:Int) == 0) && (a4 || ((a0.Parts.length:Int) == 0))))))) else ((a0.Cost == 0) && (bif a2 then (bif a3 then (a4 || ((a0.Parts.length:Int) == 0)) else (((a0.Cells.length:Int) == 0) && (a4 || ((a0.Parts.length:Int) == 0)))) else ((a0.Facts.Gen == 0) && (((a0.Facts.Rows.length:Int) == 0) && (bif a3 then (a4 || ((a0.Parts.length:Int) == 0)) else (((a0.Cells.length:Int) == 0) && (a4 || ((a0.Parts.length:Int) == 0))))))))))]) (H1:=[⟨6,[(TWeight.lit a0)],0,none⟩]) q ?_ ?_
 ·refine .m q<|.m q<|?_
  by_cases c1:a1=true
  ·refine .n q c1<|.n q c1<|.n q c1<|.o (pkTV q c1 q)<|.m q<|.g q q (mvV q)<|.g q q (mvV q)<|?_
   by_cases c2:a2=true
   ·refine .n q c2<|.n q c2<|.n q c2<|.n q c2<|.n q c2<|.u q<|.u q<|.u q<|.u q<|.u q<|.n q c2<|.g q q (pkTV q c2 q)<|.o (pkTV q q q)<|.m q<|.g q q (mvV q)<|.g q q (mvV q)<|?_
    by_cases c3:a3=true
    ·refine .n q c3<|.n q c3<|.n q c3<|.n q c3<|.g q q (pkTV q c3 q)<|.o (pkTV q q q)<|.m q<|.g q q (mvV q)<|.g q q (mvV q)<|?_
     by_cases c4:a4=true
     ·exact (.n q c4<|.n q c4<|.n q c4<|.n q c4<|.g q q (pkTV q c4 q)<|.o (pkTV q q q)<|.a q<|.nilL _ ⟨cB q (mIteT c1 (mIteT c2 (mIteT c3 (mOrT c4)))),trivial⟩)
     ·exact (.g q (nb c4) (faP fa53_4 q)<|.g q (nb c4) (ldP q sz51 ag51 q)<|.g q (nb c4) (lnR (l:=a0.Parts) sl51 q)<|.g q (nb c4) (eqI q q)<|.g q q (pkFV q (nb c4) q)<|.o (pkTV q q q)<|.a q<|.nilL _ ⟨cB q (mIteT c1 (mIteT c2 (mIteT c3 (mOrF (nb c4) q)))),trivial⟩)
    ·refine .g q (nb c3) (faP fa53_3 q)<|.g q (nb c3) (ldP q sz50 ag50 q)<|.g q (nb c3) (lnR (l:=a0.Cells) sl50 q)<|.g q (nb c3) (eqI q q)<|.g q q (pkFV q (nb c3) q)<|.o (pkTV q q q)<|.m q<|?_
     by_cases c5:(a0.Cells.length:Int)=0
     ·refine .g q (bt c5) (mvV q)<|.g q (bt c5) (mvV q)<|?_
      by_cases c6:a4=true
      ·exact (.n q c6<|.n q c6<|.n q c6<|.n q c6<|.g q (bt c5) (pkTV q c6 q)<|.o (pkTV q (bt c5) q)<|.a q<|.nilL _ ⟨cB q (mIteT c1 (mIteT c2 (mIteF (nb c3) (mAndT (bt c5) (mOrT c6))))),trivial⟩)
      ·exact (.g q (nb c6) (faP fa53_4 q)<|.g q (nb c6) (ldP q sz51 ag51 q)<|.g q (nb c6) (lnR (l:=a0.Parts) sl51 q)<|.g q (nb c6) (eqI q q)<|.g q (bt c5) (pkFV q (nb c6) q)<|.o (pkTV q (bt c5) q)<|.a q<|.nilL _ ⟨cB q (mIteT c1 (mIteT c2 (mIteF (nb c3) (mAndT (bt c5) (mOrF (nb c6) q))))),trivial⟩)
     ·exact (.n q (bn c5)<|.n q (bn c5)<|.u q<|.u q<|.u q<|.u q<|.n q (bn c5)<|.o (pkFV q (bn c5) q)<|.a q<|.nilL _ ⟨cB q (mIteT c1 (mIteT c2 (mIteF (nb c3) (mAndF (bn c5))))),trivial⟩)
   ·refine .g q (nb c2) (faP fa53_2 q)<|.g q (nb c2) (faP fa49_0 q)<|.g q (nb c2) (ldP q sz46 ag46 q)<|.g q (nb c2) (eqI q q)<|.g q (nb c2) (mvV q)<|?_
    by_cases c7:a0.Facts.Gen=0
    ·refine .g q (bt c7) (faP fa53_2 q)<|.g q (bt c7) (faP fa49_1 q)<|.g q (bt c7) (ldP q sz47 ag47 q)<|.g q (bt c7) (lnR (l:=a0.Facts.Rows) sl47 q)<|.g q (bt c7) (eqI q q)<|.g q (nb c2) (pkTV q (bt c7) q)<|.g q q (pkFV q (nb c2) q)<|.o (pkTV q q q)<|.m q<|?_
     by_cases c8:(a0.Facts.Rows.length:Int)=0
     ·refine .g q (bt c8) (mvV q)<|.g q (bt c8) (mvV q)<|?_
      by_cases c9:a3=true
      ·refine .n q c9<|.n q c9<|.n q c9<|.n q c9<|.g q (bt c8) (pkTV q c9 q)<|.o (pkTV q (bt c8) q)<|.m q<|.g q q (mvV q)<|.g q q (mvV q)<|?_
       by_cases c10:a4=true
       ·exact (.n q c10<|.n q c10<|.n q c10<|.n q c10<|.g q q (pkTV q c10 q)<|.o (pkTV q q q)<|.a q<|.nilL _ ⟨cB q (mIteT c1 (mIteF (nb c2) (mAndT (bt c7) (mAndT (bt c8) (mIteT c9 (mOrT c10)))))),trivial⟩)
       ·exact (.g q (nb c10) (faP fa53_4 q)<|.g q (nb c10) (ldP q sz51 ag51 q)<|.g q (nb c10) (lnR (l:=a0.Parts) sl51 q)<|.g q (nb c10) (eqI q q)<|.g q q (pkFV q (nb c10) q)<|.o (pkTV q q q)<|.a q<|.nilL _ ⟨cB q (mIteT c1 (mIteF (nb c2) (mAndT (bt c7) (mAndT (bt c8) (mIteT c9 (mOrF (nb c10) q)))))),trivial⟩)
      ·refine .g q (nb c9) (faP fa53_3 q)<|.g q (nb c9) (ldP q sz50 ag50 q)<|.g q (nb c9) (lnR (l:=a0.Cells) sl50 q)<|.g q (nb c9) (eqI q q)<|.g q (bt c8) (pkFV q (nb c9) q)<|.o (pkTV q (bt c8) q)<|.m q<|?_
       by_cases c11:(a0.Cells.length:Int)=0
       ·refine .g q (bt c11) (mvV q)<|.g q (bt c11) (mvV q)<|?_
        by_cases c12:a4=true
        ·exact (.n q c12<|.n q c12<|.n q c12<|.n q c12<|.g q (bt c11) (pkTV q c12 q)<|.o (pkTV q (bt c11) q)<|.a q<|.nilL _ ⟨cB q (mIteT c1 (mIteF (nb c2) (mAndT (bt c7) (mAndT (bt c8) (mIteF (nb c9) (mAndT (bt c11) (mOrT c12))))))),trivial⟩)
        ·exact (.g q (nb c12) (faP fa53_4 q)<|.g q (nb c12) (ldP q sz51 ag51 q)<|.g q (nb c12) (lnR (l:=a0.Parts) sl51 q)<|.g q (nb c12) (eqI q q)<|.g q (bt c11) (pkFV q (nb c12) q)<|.o (pkTV q (bt c11) q)<|.a q<|.nilL _ ⟨cB q (mIteT c1 (mIteF (nb c2) (mAndT (bt c7) (mAndT (bt c8) (mIteF (nb c9) (mAndT (bt c11) (mOrF (nb c12) q))))))),trivial⟩)
       ·exact (.n q (bn c11)<|.n q (bn c11)<|.u q<|.u q<|.u q<|.u q<|.n q (bn c11)<|.o (pkFV q (bn c11) q)<|.a q<|.nilL _ ⟨cB q (mIteT c1 (mIteF (nb c2) (mAndT (bt c7) (mAndT (bt c8) (mIteF (nb c9) (mAndF (bn c11))))))),trivial⟩)
     ·exact (.n q (bn c8)<|.n q (bn c8)<|.u q<|.u q<|.u q<|.u q<|.n q (bn c8)<|.o (pkFV q (bn c8) q)<|.m q<|.n q q<|.n q q<|.u q<|.u q<|.u q<|.u q<|.n q q<|.o (pkFV q q q)<|.a q<|.nilL _ ⟨cB q (mIteT c1 (mIteF (nb c2) (mAndT (bt c7) (mAndF (bn c8))))),trivial⟩)
    ·exact (.n q (bn c7)<|.n q (bn c7)<|.n q (bn c7)<|.n q (bn c7)<|.n q (bn c7)<|.g q (nb c2) (pkFV q (bn c7) q)<|.g q q (pkFV q (nb c2) q)<|.o (pkTV q q q)<|.m q<|.n q q<|.n q q<|.u q<|.u q<|.u q<|.u q<|.n q q<|.o (pkFV q q q)<|.m q<|.n q q<|.n q q<|.u q<|.u q<|.u q<|.u q<|.n q q<|.o (pkFV q q q)<|.a q<|.nilL _ ⟨cB q (mIteT c1 (mIteF (nb c2) (mAndF (bn c7)))),trivial⟩)
  ·refine .g q (nb c1) (faP fa53_1 q)<|.g q (nb c1) (ldP q sz3 ag3 q)<|.g q (nb c1) (eqI q q)<|.o (pkFV q (nb c1) q)<|.m q<|?_
   by_cases c13:a0.Cost=0
   ·refine .g q (bt c13) (mvV q)<|.g q (bt c13) (mvV q)<|?_
    by_cases c14:a2=true
    ·refine .n q c14<|.n q c14<|.n q c14<|.n q c14<|.n q c14<|.u q<|.u q<|.u q<|.u q<|.u q<|.n q c14<|.g q (bt c13) (pkTV q c14 q)<|.o (pkTV q (bt c13) q)<|.m q<|.g q q (mvV q)<|.g q q (mvV q)<|?_
     by_cases c15:a3=true
     ·refine .n q c15<|.n q c15<|.n q c15<|.n q c15<|.g q q (pkTV q c15 q)<|.o (pkTV q q q)<|.m q<|.g q q (mvV q)<|.g q q (mvV q)<|?_
      by_cases c16:a4=true
      ·exact (.n q c16<|.n q c16<|.n q c16<|.n q c16<|.g q q (pkTV q c16 q)<|.o (pkTV q q q)<|.a q<|.nilL _ ⟨cB q (mIteF (nb c1) (mAndT (bt c13) (mIteT c14 (mIteT c15 (mOrT c16))))),trivial⟩)
      ·exact (.g q (nb c16) (faP fa53_4 q)<|.g q (nb c16) (ldP q sz51 ag51 q)<|.g q (nb c16) (lnR (l:=a0.Parts) sl51 q)<|.g q (nb c16) (eqI q q)<|.g q q (pkFV q (nb c16) q)<|.o (pkTV q q q)<|.a q<|.nilL _ ⟨cB q (mIteF (nb c1) (mAndT (bt c13) (mIteT c14 (mIteT c15 (mOrF (nb c16) q))))),trivial⟩)
     ·refine .g q (nb c15) (faP fa53_3 q)<|.g q (nb c15) (ldP q sz50 ag50 q)<|.g q (nb c15) (lnR (l:=a0.Cells) sl50 q)<|.g q (nb c15) (eqI q q)<|.g q q (pkFV q (nb c15) q)<|.o (pkTV q q q)<|.m q<|?_
      by_cases c17:(a0.Cells.length:Int)=0
      ·refine .g q (bt c17) (mvV q)<|.g q (bt c17) (mvV q)<|?_
       by_cases c18:a4=true
       ·exact (.n q c18<|.n q c18<|.n q c18<|.n q c18<|.g q (bt c17) (pkTV q c18 q)<|.o (pkTV q (bt c17) q)<|.a q<|.nilL _ ⟨cB q (mIteF (nb c1) (mAndT (bt c13) (mIteT c14 (mIteF (nb c15) (mAndT (bt c17) (mOrT c18)))))),trivial⟩)
       ·exact (.g q (nb c18) (faP fa53_4 q)<|.g q (nb c18) (ldP q sz51 ag51 q)<|.g q (nb c18) (lnR (l:=a0.Parts) sl51 q)<|.g q (nb c18) (eqI q q)<|.g q (bt c17) (pkFV q (nb c18) q)<|.o (pkTV q (bt c17) q)<|.a q<|.nilL _ ⟨cB q (mIteF (nb c1) (mAndT (bt c13) (mIteT c14 (mIteF (nb c15) (mAndT (bt c17) (mOrF (nb c18) q)))))),trivial⟩)
      ·exact (.n q (bn c17)<|.n q (bn c17)<|.u q<|.u q<|.u q<|.u q<|.n q (bn c17)<|.o (pkFV q (bn c17) q)<|.a q<|.nilL _ ⟨cB q (mIteF (nb c1) (mAndT (bt c13) (mIteT c14 (mIteF (nb c15) (mAndF (bn c17)))))),trivial⟩)
    ·refine .g q (nb c14) (faP fa53_2 q)<|.g q (nb c14) (faP fa49_0 q)<|.g q (nb c14) (ldP q sz46 ag46 q)<|.g q (nb c14) (eqI q q)<|.g q (nb c14) (mvV q)<|?_
     by_cases c19:a0.Facts.Gen=0
     ·refine .g q (bt c19) (faP fa53_2 q)<|.g q (bt c19) (faP fa49_1 q)<|.g q (bt c19) (ldP q sz47 ag47 q)<|.g q (bt c19) (lnR (l:=a0.Facts.Rows) sl47 q)<|.g q (bt c19) (eqI q q)<|.g q (nb c14) (pkTV q (bt c19) q)<|.g q (bt c13) (pkFV q (nb c14) q)<|.o (pkTV q (bt c13) q)<|.m q<|?_
      by_cases c20:(a0.Facts.Rows.length:Int)=0
      ·refine .g q (bt c20) (mvV q)<|.g q (bt c20) (mvV q)<|?_
       by_cases c21:a3=true
       ·refine .n q c21<|.n q c21<|.n q c21<|.n q c21<|.g q (bt c20) (pkTV q c21 q)<|.o (pkTV q (bt c20) q)<|.m q<|.g q q (mvV q)<|.g q q (mvV q)<|?_
        by_cases c22:a4=true
        ·exact (.n q c22<|.n q c22<|.n q c22<|.n q c22<|.g q q (pkTV q c22 q)<|.o (pkTV q q q)<|.a q<|.nilL _ ⟨cB q (mIteF (nb c1) (mAndT (bt c13) (mIteF (nb c14) (mAndT (bt c19) (mAndT (bt c20) (mIteT c21 (mOrT c22))))))),trivial⟩)
        ·exact (.g q (nb c22) (faP fa53_4 q)<|.g q (nb c22) (ldP q sz51 ag51 q)<|.g q (nb c22) (lnR (l:=a0.Parts) sl51 q)<|.g q (nb c22) (eqI q q)<|.g q q (pkFV q (nb c22) q)<|.o (pkTV q q q)<|.a q<|.nilL _ ⟨cB q (mIteF (nb c1) (mAndT (bt c13) (mIteF (nb c14) (mAndT (bt c19) (mAndT (bt c20) (mIteT c21 (mOrF (nb c22) q))))))),trivial⟩)
       ·refine .g q (nb c21) (faP fa53_3 q)<|.g q (nb c21) (ldP q sz50 ag50 q)<|.g q (nb c21) (lnR (l:=a0.Cells) sl50 q)<|.g q (nb c21) (eqI q q)<|.g q (bt c20) (pkFV q (nb c21) q)<|.o (pkTV q (bt c20) q)<|.m q<|?_
        by_cases c23:(a0.Cells.length:Int)=0
        ·refine .g q (bt c23) (mvV q)<|.g q (bt c23) (mvV q)<|?_
         by_cases c24:a4=true
         ·exact (.n q c24<|.n q c24<|.n q c24<|.n q c24<|.g q (bt c23) (pkTV q c24 q)<|.o (pkTV q (bt c23) q)<|.a q<|.nilL _ ⟨cB q (mIteF (nb c1) (mAndT (bt c13) (mIteF (nb c14) (mAndT (bt c19) (mAndT (bt c20) (mIteF (nb c21) (mAndT (bt c23) (mOrT c24)))))))),trivial⟩)
         ·exact (.g q (nb c24) (faP fa53_4 q)<|.g q (nb c24) (ldP q sz51 ag51 q)<|.g q (nb c24) (lnR (l:=a0.Parts) sl51 q)<|.g q (nb c24) (eqI q q)<|.g q (bt c23) (pkFV q (nb c24) q)<|.o (pkTV q (bt c23) q)<|.a q<|.nilL _ ⟨cB q (mIteF (nb c1) (mAndT (bt c13) (mIteF (nb c14) (mAndT (bt c19) (mAndT (bt c20) (mIteF (nb c21) (mAndT (bt c23) (mOrF (nb c24) q)))))))),trivial⟩)
        ·exact (.n q (bn c23)<|.n q (bn c23)<|.u q<|.u q<|.u q<|.u q<|.n q (bn c23)<|.o (pkFV q (bn c23) q)<|.a q<|.nilL _ ⟨cB q (mIteF (nb c1) (mAndT (bt c13) (mIteF (nb c14) (mAndT (bt c19) (mAndT (bt c20) (mIteF (nb c21) (mAndF (bn c23)))))))),trivial⟩)
      ·exact (.n q (bn c20)<|.n q (bn c20)<|.u q<|.u q<|.u q<|.u q<|.n q (bn c20)<|.o (pkFV q (bn c20) q)<|.m q<|.n q q<|.n q q<|.u q<|.u q<|.u q<|.u q<|.n q q<|.o (pkFV q q q)<|.a q<|.nilL _ ⟨cB q (mIteF (nb c1) (mAndT (bt c13) (mIteF (nb c14) (mAndT (bt c19) (mAndF (bn c20)))))),trivial⟩)
     ·exact (.n q (bn c19)<|.n q (bn c19)<|.n q (bn c19)<|.n q (bn c19)<|.n q (bn c19)<|.g q (nb c14) (pkFV q (bn c19) q)<|.g q (bt c13) (pkFV q (nb c14) q)<|.o (pkTV q (bt c13) q)<|.m q<|.n q q<|.n q q<|.u q<|.u q<|.u q<|.u q<|.n q q<|.o (pkFV q q q)<|.m q<|.n q q<|.n q q<|.u q<|.u q<|.u q<|.u q<|.n q q<|.o (pkFV q q q)<|.a q<|.nilL _ ⟨cB q (mIteF (nb c1) (mAndT (bt c13) (mIteF (nb c14) (mAndF (bn c19))))),trivial⟩)
   ·exact (.n q (bn c13)<|.n q (bn c13)<|.u q<|.u q<|.u q<|.u q<|.u q<|.u q<|.u q<|.u q<|.u q<|.u q<|.u q<|.n q (bn c13)<|.o (pkFV q (bn c13) q)<|.m q<|.n q q<|.n q q<|.u q<|.u q<|.u q<|.u q<|.n q q<|.o (pkFV q q q)<|.m q<|.n q q<|.n q q<|.u q<|.u q<|.u q<|.u q<|.n q q<|.o (pkFV q q q)<|.a q<|.nilL _ ⟨cB q (mIteF (nb c1) (mAndF (bn c13))),trivial⟩)
 replace h:=h.symm
 subst h
 refine .kf [(10,bo (bif a1 then (bif a2 then (bif a3 then (a4 || ((a0.Parts.length:Int) == 0)) else (((a0.Cells.length:Int) == 0) && (a4 || ((a0.Parts.length:Int) == 0)))) else ((a0.Facts.Gen == 0) && (((a0.Facts.Rows.length:Int) == 0) && (bif a3 then (a4 || ((a0.Parts.length:Int) == 0)) else (((a0.Cells.length:Int) == 0) && (a4 || ((a0.Parts.length:Int) == 0))))))) else ((a0.Cost == 0) && (bif a2 then (bif a3 then (a4 || ((a0.Parts.length:Int) == 0)) else (((a0.Cells.length:Int) == 0) && (a4 || ((a0.Parts.length:Int) == 0)))) else ((a0.Facts.Gen == 0) && (((a0.Facts.Rows.length:Int) == 0) && (bif a3 then (a4 || ((a0.Parts.length:Int) == 0)) else (((a0.Cells.length:Int) == 0) && (a4 || ((a0.Parts.length:Int) == 0))))))))))] q q ?_
 exact .ret q
end Go.RM.Tryz
