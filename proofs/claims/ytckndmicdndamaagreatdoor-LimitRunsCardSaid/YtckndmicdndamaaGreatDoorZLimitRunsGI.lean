/- GI, for the statement LimitRuns: what it needs, no more. -/
import Derived.Test.YtckndmicdndamaaGreatDoorZLimitRunsGH
set_option linter.unusedVariables false
set_option maxRecDepth 8000
set_option maxHeartbeats 4000000
namespace Go.RM.Tryz
open Go.RM Go.Proofs
def r03_dim.f (a0:Int) (r:Bool):Prop :=
 r=((decide (a0 ≥ 0)) && (decide (a0≤64)))
theorem r03_dim.D {a0 r} (h:r03_dim.f a0 r):D Tryz.prog X (.callH 117 [.val (.int .i64 a0)] [] (.val (.bool r)) []):=by
 unfold r03_dim.f at h
 refine .enter 9 0 fn117 q q q<|.seq<|.reg0 q (.o (asV q)<|.nil0)<|.seq ?_
 refine .reg0 (e1:=listEnv [(2,bo ((decide (a0 ≥ 0)) && (decide (a0≤64))))]) (H1:=[]) q ?_ ?_
 ·refine .m q<|.o (geI q q)<|.m q<|?_
  by_cases c1:a0 ≥ 0
  ·exact (.g q (dt c1) (mvV q)<|.g q (dt c1) (leI q q)<|.o (pkTV q (dt c1) q)<|.a q<|.nilL _ ⟨cB q (mAndT (dt c1) q),trivial⟩)
  ·exact (.n q (df c1)<|.n q (df c1)<|.o (pkFV q (df c1) q)<|.a q<|.nilL _ ⟨cB q (mAndF (df c1)),trivial⟩)
 replace h:=h.symm
 subst h
 refine .kf [(2,bo ((decide (a0 ≥ 0)) && (decide (a0≤64))))] q q ?_
 exact .ret q
def r01_Worth.b1:(Int × Int)→Rnd ((Int × Int)) Int Int→Prop:=fun (x1,x2) z1=>if x1 > 0 then (z1=.next ((IntKind.i64.wrap (x1 - 1)),(IntKind.u64.wrap (x2 * 2)))) else (z1=.exit x2)
def r01_Worth.f (a0:Int) (r:Int):Prop :=
 ∃ o1:Fin Int Int,Loop (r01_Worth.b1) (a0,1) o1∧o1.on (fun x3=>r=x3) (fun r_=>r=r_)
theorem r01_Worth.D {a0 r} (h:r01_Worth.f a0 r):D Tryz.prog X (.callH 74 [.val (.int .i64 a0)] [] (.val (.int .u64 r)) []):=by
 unfold r01_Worth.f at h
 refine .enter 11 0 fn74 q q q<|.seq<|.reg0 q (.o (asV q)<|.nil0)<|.seq<|.reg0 q (.o (asV q)<|.nil0)<|.seq<|.block<|.keepL [] [(0,i6 a0),(3,u6 1)] [] (by decide) (by decide) ⟨.free q q,.free q q,trivial⟩ trivial ?_
 obtain ⟨o1,hL1,h⟩:=h
 refine .loopB (r01_Worth.b1) (fun (x1,x2)=>listEnv [(0,i6 x1),(3,u6 x2)]) (fun (x1,x2)=>[]) (fun x3=>listEnv [(3,u6 x3)]) (fun x3=>[]) hL1 (fun r_=>r=r_) ?_ ?_ ?_
 ·rintro x3 rfl
  try dsimp only [Fin.on] at h
  refine .seq<|.reg0 q (.o (mvV q)<|.o (asV q)<|.nil0) ?_
  replace h:=h.symm
  subst h
  refine .kf [(2,u6 x3)] q q ?_
  exact .ret q
 ·rintro r_ rfl
  exact h
 ·rintro ⟨x1,x2⟩ z1 h hn1 hx1 hr1
  dsimp only [r01_Worth.b1] at h
  refine .seq<|.seq<|.reg0 q (.o (mvV q)<|.o (gtI q q)<|.nil0) ?_
  by_cases c3:x1 > 0
  ·rw [if_pos c3] at h
   refine .condT q (dt c3)<|.skip<|.seq<|.block<|.reg0 q (.o (mvV q)<|.o (mulI q q)<|.o (asV q)<|.nil0)<|.inBlock<|.reg0 q (.o (mvV q)<|.o (subI q q)<|.o (asV q)<|.nil0)<|.kf [(0,i6 (IntKind.i64.wrap (x1 - 1))),(3,u6 (IntKind.u64.wrap (x2 * 2)))] q q ?_
   exact hn1 _ h
  ·rw [if_neg c3] at h
   refine .condF q (df c3)<|.exit q<|.keepL [] [(3,u6 x2)] [] (by decide) (by decide) ⟨.free q q,trivial⟩ trivial ?_
   exact hx1 _ h
def r01_Full.b1 (a0:Int):(Int × Int)→Rnd ((Int × Int)) Int (Int × Int)→Prop:=fun (x1,x2) z1=>if x2 < a0 then (∃ t13_2:Int,(r01_Worth.f x2 t13_2)∧z1=.next ((IntKind.u64.wrap (x1 + t13_2)),(IntKind.i64.wrap (x2 + 1)))) else (z1=.exit x1)
def r01_Full.f (a0:Int) (r:Int × Int):Prop :=
 if ((decide (a0 < 0)) || (decide (a0 > 64)))=true then (r=(0,10)) else (∃ o1:Fin Int (Int × Int),Loop (r01_Full.b1 a0) (0,0) o1∧o1.on (fun x3=>r=(x3,0)) (fun r_=>r=r_))
theorem r01_Full.D {a0 r} (h:r01_Full.f a0 r):D Tryz.prog X (.callH 166 [.val (.int .i64 a0)] [] (.tuple [.val (.int .u64 r.1),.val (.int .i64 r.2)]) []):=by
 unfold r01_Full.f at h
 refine .enter 22 0 fn166 q q q<|.seq<|.reg0 q (.o (asV q)<|.o (asV q)<|.nil0)<|.seq<|.seq ?_
 refine .reg0 (e1:=listEnv [(0,i6 a0),(11,bo ((decide (a0 < 0)) || (decide (a0 > 64))))]) (H1:=[]) q ?_ ?_
 ·refine .m q<|.o (ltI q q)<|.m q<|?_
  by_cases c1:a0 < 0
  ·exact (.n q (dt c1)<|.n q (dt c1)<|.o (pkTV q (dt c1) q)<|.nilL _ ⟨.free q q,cB q (mOrT (dt c1)),trivial⟩)
  ·exact (.g q (df c1) (mvV q)<|.g q (df c1) (gtI q q)<|.o (pkFV q (df c1) q)<|.nilL _ ⟨.free q q,cB q (mOrF (df c1) q),trivial⟩)
 by_cases c2:((decide (a0 < 0)) || (decide (a0 > 64)))=true
 ·rw [if_pos c2] at h
  refine .condT q c2<|.seq<|.reg0 q (.o (asV q)<|.o (asV q)<|.nil0) ?_
  replace h:=h.symm
  subst h
  refine .kf [(2,u6 0),(3,i6 10)] q q ?_
  exact .ret q
 ·rw [if_neg c2] at h
  refine .condF q (nb c2)<|.skip<|.seq<|.reg0 q (.o (asV q)<|.nil0)<|.seq<|.seq<|.reg0 q (.o (asV q)<|.nil0)<|.block<|.keepL [] [(0,i6 a0),(4,u6 0),(5,i6 0)] [] (by decide) (by decide) ⟨.free q q,.free q q,.free q q,trivial⟩ trivial ?_
  obtain ⟨o1,hL1,h⟩:=h
  refine .loopB (r01_Full.b1 a0) (fun (x1,x2)=>listEnv [(0,i6 a0),(4,u6 x1),(5,i6 x2)]) (fun (x1,x2)=>[]) (fun x3=>listEnv [(4,u6 x3)]) (fun x3=>[]) hL1 (fun r_=>r=r_) ?_ ?_ ?_
  ·rintro x3 rfl
   try dsimp only [Fin.on] at h
   refine .seq<|.reg0 q (.o (mvV q)<|.o (asV q)<|.o (asV q)<|.nil0) ?_
   replace h:=h.symm
   subst h
   refine .kf [(2,u6 x3),(3,i6 0)] q q ?_
   exact .ret q
  ·rintro r_ rfl
   exact h
  ·rintro ⟨x1,x2⟩ z1 h hn1 hx1 hr1
   dsimp only [r01_Full.b1] at h
   refine .seq<|.seq<|.reg0 q (.o (mvV q)<|.o (mvV q)<|.o (ltI q q)<|.nil0) ?_
   by_cases c5:x2 < a0
   ·rw [if_pos c5] at h
    refine .condT q (dt c5)<|.skip<|.seq<|.block ?_
    obtain ⟨t13_2,g13_2,h⟩:=h
    refine .reg0 q (.m q<|.m q<|.c q go74 q q q (r01_Worth.D g13_2)<|.o (addI q q)<|.a q<|.nil0)<|.inBlock<|.reg0 q (.o (mvV q)<|.o (addI q q)<|.o (asV q)<|.nil0)<|.kf [(0,i6 a0),(4,u6 (IntKind.u64.wrap (x1 + t13_2))),(5,i6 (IntKind.i64.wrap (x2 + 1)))] q q ?_
    exact hn1 _ h
   ·rw [if_neg c5] at h
    refine .condF q (df c5)<|.exit q<|.keepL [] [(4,u6 x1)] [] (by decide) (by decide) ⟨.free q q,trivial⟩ trivial ?_
    exact hx1 _ h
def r03_Inside.f (a0:Int) (a1:Int) (r:Bool):Prop :=
 ∃ t2_1:Int × Int,(r01_Full.f a0 t2_1)∧r=((bitOp .andNot .u64 a1 t2_1.1) == 0)
theorem r03_Inside.D {a0 a1 r} (h:r03_Inside.f a0 a1 r):D Tryz.prog X (.callH 135 [.val (.int .i64 a0),.val (.int .u64 a1)] [] (.val (.bool r)) []):=by
 unfold r03_Inside.f at h
 refine .enter 16 0 fn135 q q q<|.seq<|.reg0 q (.o (asV q)<|.nil0)<|.seq ?_
 obtain ⟨t2_1,g2_1,h⟩:=h
 refine .reg0 q (.m q<|.c q go166 q q q (r01_Full.D g2_1)<|.o (mvT q)<|.o (exT q q)<|.o (exT q q)<|.a q<|.a q<|.nil0)<|.seq<|.reg0 q (.o (mvV q)<|.o (mvV q)<|.o (andNotI q q)<|.o (eqI q q)<|.o (asV q)<|.nil0) ?_
 replace h:=h.symm
 subst h
 refine .kf [(4,bo ((bitOp .andNot .u64 a1 t2_1.1) == 0))] q q ?_
 exact .ret q
def r03_shape.b1 (a0:Int) (a1:TFacts):Int→Rnd Int Unit Bool→Prop:=fun x1 z1=>if x1 < a0 then (((InR x1 a1.Rows.length))∧∃ t14_6:Bool,(r03_Inside.f a0 (rdl a1.Rows x1) t14_6)∧if t14_6=true then (z1=.next (IntKind.i64.wrap (x1 + 1))) else (z1=.ret false)) else (z1=.exit ())
def r03_shape.f (a0:Int) (a1:TFacts) (r:Bool):Prop :=
 ∃ t2_9:Bool,(((a1.Rows.length:Int)=a0)→r03_Inside.f a0 a1.Gen t2_9)∧if ((!((a1.Rows.length:Int) == a0)) || (!t2_9))=true then (r=false) else (∃ o1:Fin Unit Bool,Loop (r03_shape.b1 a0 a1) 0 o1∧o1.on (fun _=>r=true) (fun r_=>r=r_))
theorem r03_shape.D {a0 a1 r} (h:r03_shape.f a0 a1 r):D Tryz.prog X (.callH 134 [.val (.int .i64 a0),.agg (TFacts.lit a1)] [] (.val (.bool r)) []):=by
 unfold r03_shape.f at h
 refine .enter 31 0 fn134 q q q<|.seq<|.room 0<|.reg0 q (.o (bxP (s:=2) (cs:=(TFacts.lit a1)) q ⟨q,by decide,q⟩ q)<|.o (asV q)<|.nil0)<|.seq<|.seq ?_
 obtain ⟨t2_9,g2_9,h⟩:=h
 refine .reg0 (e1:=listEnv [(0,i6 a0),(3,.ptr 0 1 2 0 0),(17,bo ((!((a1.Rows.length:Int) == a0)) || (!t2_9)))]) (H1:=[⟨2,[(TFacts.lit a1)],0,none⟩]) q ?_ ?_
 ·refine .o (faP fa49_1 q)<|.o (ldP q sz47 ag47 q)<|.o (lnR (l:=a1.Rows) sl47 q)<|.m q<|.o (neI q q)<|.m q<|?_
  by_cases c1:(a1.Rows.length:Int)=a0
  ·exact (.g q (nf c1) (mvV q)<|.g q (nf c1) (faP fa49_0 q)<|.g q (nf c1) (ldP q sz46 ag46 q)<|.callI (gT q q q (nf c1)) (callee_of q go135 q) (.pure q q (r03_Inside.D (g2_9 c1)))<|.g q (nf c1) (notB q)<|.o (pkFV q (nf c1) q)<|.nilL _ ⟨.free q q,.ptr q,cB q (mOrF (bnotF (bt c1)) q),trivial⟩)
  ·exact (.n q (nt c1)<|.n q (nt c1)<|.n q (nt c1)<|.n q (nt c1)<|.n q (nt c1)<|.o (pkTV q (nt c1) q)<|.nilL _ ⟨.free q q,.ptr q,cB q (mOrT (bnotT (bn c1))),trivial⟩)
 by_cases c2:((!((a1.Rows.length:Int) == a0)) || (!t2_9))=true
 ·rw [if_pos c2] at h
  refine .condT q c2<|.seq<|.reg0 q (.o (asV q)<|.nil0) ?_
  replace h:=h.symm
  subst h
  refine .kf [(4,bo false)] q q ?_
  exact .ret q
 ·rw [if_neg c2] at h
  refine .condF q (nb c2)<|.skip<|.seq<|.seq<|.reg0 q (.o (asV q)<|.nil0)<|.block<|.keepL [0] [(0,i6 a0),(3,.ptr 0 1 2 0 0),(5,i6 0)] [⟨2,[(TFacts.lit a1)],0,none⟩] (by decide) (by decide) ⟨.free q q,.ptr q,.free q q,trivial⟩ ⟨⟨_,q,bcBox (all2_free q)⟩,trivial⟩ ?_
  obtain ⟨o1,hL1,h⟩:=h
  refine .loopB (r03_shape.b1 a0 a1) (fun x1=>listEnv [(0,i6 a0),(3,.ptr 0 1 2 0 0),(5,i6 x1)]) (fun x1=>[⟨2,[(TFacts.lit a1)],0,none⟩]) (fun _=>listEnv []) (fun _=>[]) hL1 (fun r_=>r=r_) ?_ ?_ ?_
  ·rintro ⟨⟩ rfl
   try dsimp only [Fin.on] at h
   refine .seq<|.reg0 q (.o (asV q)<|.nil0) ?_
   replace h:=h.symm
   subst h
   refine .kf [(4,bo true)] q q ?_
   exact .ret q
  ·rintro r_ rfl
   exact h
  ·rintro x1 z1 h hn1 hx1 hr1
   dsimp only [r03_shape.b1] at h
   refine .seq<|.seq<|.reg0 q (.o (mvV q)<|.o (mvV q)<|.o (ltI q q)<|.nil0) ?_
   by_cases c7:x1 < a0
   ·rw [if_pos c7] at h
    refine .condT q (dt c7)<|.skip<|.seq<|.block<|.seq ?_
    obtain ⟨g14_4,h⟩:=h
    obtain ⟨t14_6,g14_6,h⟩:=h
    refine .reg0 q (.m q<|.o (faP fa49_1 q)<|.o (ldP q sz47 ag47 q)<|.m q<|.o (ixR (l:=a1.Rows) (lit:=(cInt .u64)) sl47 q q (fun _=>q) g14_4.1 g14_4.2)<|.o (ldC q sz46 ag46 q)<|.c q go135 q q q (r03_Inside.D g14_6)<|.o (notB q)<|.nil0) ?_
    by_cases c8:t14_6=true
    ·rw [if_pos c8] at h
     refine .condF q (bnotF c8)<|.skip<|.inBlock<|.reg0 q (.o (mvV q)<|.o (addI q q)<|.o (asV q)<|.nil0)<|.keepL [0] [(0,i6 a0),(3,.ptr 0 1 2 0 0),(5,i6 (IntKind.i64.wrap (x1 + 1)))] [⟨2,[(TFacts.lit a1)],0,none⟩] (by decide) (by decide) ⟨.free q q,.ptr q,.free q q,trivial⟩ ⟨⟨_,q,bcBox (all2_free q)⟩,trivial⟩ ?_
     exact hn1 _ h
    ·rw [if_neg c8] at h
     refine .condT q (bnotT (nb c8))<|.seq<|.reg0 q (.o (asV q)<|.nil0) ?_
     have q3:=hr1 _ h
     replace q3:=q3.symm
     subst q3
     refine .kf [(4,bo false)] q q ?_
     exact .ret q
   ·rw [if_neg c7] at h
    refine .condF q (df c7)<|.exit q<|.keepL [] [] [] (by decide) (by decide) trivial trivial ?_
    exact hx1 _ h
def r03_canon.b1 (a0:TFacts):((List Int) × Int)→Rnd (((List Int) × Int)) ((List Int)) TFacts→Prop:=fun (x2,x3) z1=>if x3 < (a0.Rows.length:Int) then (((InR x3 a0.Rows.length))∧((Fits (x2.length + 1) 8))∧z1=.next ((x2 ++ [(bitOp .andNot .u64 (rdl a0.Rows x3) a0.Gen)]),(IntKind.i64.wrap (x3 + 1)))) else (z1=.exit x2)
def r03_canon.f (a0:TFacts) (r:TFacts):Prop :=
 ∃ o1:Fin ((List Int)) TFacts,Loop (r03_canon.b1 a0) ([],0) o1∧o1.on (fun x4=>r=(TFacts.mk a0.Gen x4)) (fun r_=>r=r_)
theorem r03_canon.D {a0 r} (h:r03_canon.f a0 r):D Tryz.prog X (.callH 96 [.agg (TFacts.lit a0)] [] (.agg (TFacts.lit r)) []):=by
 unfold r03_canon.f at h
 refine .enter 29 0 fn96 q q q<|.seq<|.room 0<|.room 0<|.reg0 q (.o (bxP (s:=2) (cs:=(TFacts.lit a0)) q ⟨q,by decide,q⟩ q)<|.op 1 q (alP (s:=2) ze49 ⟨q,by decide,q⟩ q)<|.nil0)<|.seq<|.room 0<|.reg0 q (.o (faP fa49_0 q)<|.o (ldP q sz46 ag46 q)<|.o (bldS (cs:=[u6 a0.Gen,nul]) ze49 pl49 q q)<|.op 2 q (alP (s:=2) ze49 ⟨q,by decide,q⟩ q)<|.o (stB (cs0:=[u6 0,nul]) (cs:=[u6 a0.Gen,nul]) (cs1:=[u6 a0.Gen,nul]) q q sz49 q ⟨Nat.le_of_ble_eq_true q,q⟩ q)<|.nil0) ?_
 refine .seq<|.seq<|.reg0 q (.o (asV q)<|.nil0)<|.block<|.room 1<|.keepL [0,1,2,3] [(1,.ptr 0 1 2 0 0),(2,.ptr 1 1 2 0 0),(3,.ptr 2 1 2 0 0),(4,i6 0)] [⟨2,[(TFacts.lit a0)],0,none⟩,⟨2,[[u6 0,nul]],0,none⟩,⟨2,[[u6 a0.Gen,.own 3 0]],0,none⟩,⟨1,[].map (cInt .u64),0,none⟩] (by decide) (by decide) ⟨.ptr q,.ptr q,.ptr q,.free q q,trivial⟩ ⟨⟨_,q,bcBox (all2_free q)⟩,⟨_,q,bcBox (all2_free q)⟩,⟨_,q,bcBox (.cons (.free q q)<|.cons (.nilOwn)<|.nil)⟩,⟨_,q,(bcRow (l:=[]) sl47 (Nat.le_refl _) q)⟩,trivial⟩ ?_
 obtain ⟨o1,hL1,h⟩:=h
 refine .loopB (r03_canon.b1 a0) (fun (x2,x3)=>listEnv [(1,.ptr 0 1 2 0 0),(2,.ptr 1 1 2 0 0),(3,.ptr 2 1 2 0 0),(4,i6 x3)]) (fun (x2,x3)=>[⟨2,[(TFacts.lit a0)],0,none⟩,⟨2,[[u6 0,nul]],0,none⟩,⟨2,[[u6 a0.Gen,.own 3 x2.length]],0,none⟩,⟨1,x2.map (cInt .u64),0,none⟩]) (fun x4=>listEnv [(2,.ptr 0 1 2 0 0),(3,.ptr 1 1 2 0 0)]) (fun x4=>[⟨2,[[u6 0,nul]],0,none⟩,⟨2,[[u6 a0.Gen,.own 2 x4.length]],0,none⟩,⟨1,x4.map (cInt .u64),0,none⟩]) hL1 (fun r_=>r=r_) ?_ ?_ ?_
 ·rintro x4 rfl
  try dsimp only [Fin.on] at h
  refine .seq<|.reg0 q (.o (ldG q sz49 ag49 q)<|.o (stB (cs0:=[u6 0,nul]) (cs:=[u6 a0.Gen,.own 2 x4.length]) (cs1:=[u6 a0.Gen,.own 2 x4.length]) q q sz49 q ⟨Nat.le_of_ble_eq_true q,q⟩ q)<|.nil0) ?_
  replace h:=h.symm
  subst h
  refine .k [(2,.cptr [u6 a0.Gen,.rows (x4.map (cInt .u64))] 0)] ⟨cFixP q q (.cons (.free q q)<|.cons (cFixO (l:=x4) sl47 q q q q)<|.nil),trivial⟩ ?_
  exact .ret q
 ·rintro r_ rfl
  exact h
 ·rintro ⟨x2,x3⟩ z1 h hn1 hx1 hr1
  dsimp only [r03_canon.b1] at h
  refine .seq<|.seq<|.reg0 q (.o (mvV q)<|.o (faP fa49_1 q)<|.o (ldP q sz47 ag47 q)<|.o (lnR (l:=a0.Rows) sl47 q)<|.o (ltI q q)<|.nil0) ?_
  by_cases c3:x3 < (a0.Rows.length:Int)
  ·rw [if_pos c3] at h
   refine .condT q (dt c3)<|.skip<|.seq<|.block ?_
   obtain ⟨g11_5,h⟩:=h
   obtain ⟨g11_11,h⟩:=h
   refine .room 0<|.room 0 ?_
   refine .reg1 (e1:=listEnv [(1,.ptr 0 1 2 0 0),(2,.ptr 1 1 2 0 0),(3,.ptr 2 1 2 0 0),(4,i6 x3)]) (H1:=[⟨2,[(TFacts.lit a0)],0,none⟩,⟨2,[[u6 0,nul]],0,none⟩,⟨2,[[u6 a0.Gen,.own 3 ((x2 ++ [(bitOp .andNot .u64 (rdl a0.Rows x3) a0.Gen)]).length)]],0,none⟩,⟨1,(x2 ++ [(bitOp .andNot .u64 (rdl a0.Rows x3) a0.Gen)]).map (cInt .u64),0,none⟩,⟨1,[(bitOp .andNot .u64 (rdl a0.Rows x3) a0.Gen)].map (cInt .u64),0,none⟩,Blk.hole]) q ?_ ?_
   ·exact .drawM [(12,27,.ptr 2 1 2 0 1),(11,26,.own 3 ((x2 ++ [(bitOp .andNot .u64 (rdl a0.Rows x3) a0.Gen)]).length)),(10,25,.own 4 ([(bitOp .andNot .u64 (rdl a0.Rows x3) a0.Gen)].length)),(9,24,u6 (bitOp .andNot .u64 (rdl a0.Rows x3) a0.Gen)),(8,23,u6 a0.Gen),(7,22,.ptr 0 1 2 0 0),(6,21,u6 (rdl a0.Rows x3)),(5,20,.cptr ((cInt .u64) (rdl a0.Rows x3)) 0),(4,19,i6 x3),(3,18,.rows (a0.Rows.map (cInt .u64))),(2,17,.ptr 0 1 2 0 1),(1,16,.own 3 x2.length),(0,15,.ptr 2 1 2 0 1)] [(13,2,⟨2,[[u6 a0.Gen,.own 3 ((x2 ++ [(bitOp .andNot .u64 (rdl a0.Rows x3) a0.Gen)]).length)]],0,none⟩),(11,3,⟨1,(x2 ++ [(bitOp .andNot .u64 (rdl a0.Rows x3) a0.Gen)]).map (cInt .u64),0,none⟩),(10,4,⟨1,[(bitOp .andNot .u64 (rdl a0.Rows x3) a0.Gen)].map (cInt .u64),0,none⟩)] [[],[0],[],[2],[],[3,2,4],[5,3,2,4],[],[7],[6,5,3,2,4,8,7],[9,6,5,3,2,4,8,7],[1,0,10,9,6,5,3,2,4,8,7],[0,1,2,3,4,5,6,7,8,9,10,11],[12,0,1,2,3,4,5,6,7,8,9,10,11]] (by rfl) (by rfl) (by rfl) (by exact ⟨oP (fun _=>faP fa49_1 q) q,oP (fun _=>ldP q sz47 ag47 q) q,oP (fun _=>faP fa49_1 q) q,oP (fun _=>ldP q sz47 ag47 q) q,oP (fun _=>mvV q) q,oP (fun _=>ixR (l:=a0.Rows) (lit:=(cInt .u64)) sl47 q q (fun _=>q) g11_5.1 g11_5.2) q,oP (fun _=>ldC q sz46 ag46 q) q,oP (fun _=>faP fa49_0 q) q,oP (fun _=>ldP q sz46 ag46 q) q,oP (fun _=>andNotI q q) q,oW 4 (fun _=>bldL (s:=1) (cs:=[u6 (bitOp .andNot .u64 (rdl a0.Rows x3) a0.Gen)]) un47 sz46 ze46 ⟨by decide,q,by decide⟩ q q q q) q fun _=>q,oW 0 (fun _=>ap1 (l:=x2) (bitOp .andNot .u64 (rdl a0.Rows x3) a0.Gen) sl47 q q q (Nat.zero_le _) (elems_own (l:=[(bitOp .andNot .u64 (rdl a0.Rows x3) a0.Gen)]) q q) g11_11) q fun _=>q,oP (fun _=>faP fa49_1 q) q,fun S hS hD hn=>.one0 0 q q (stB (cs0:=[u6 a0.Gen,.own 3 x2.length]) (cs:=[.own 3 ((x2 ++ [(bitOp .andNot .u64 (rdl a0.Rows x3) a0.Gen)]).length)]) (cs1:=[u6 a0.Gen,.own 3 ((x2 ++ [(bitOp .andNot .u64 (rdl a0.Rows x3) a0.Gen)]).length)]) q q sz47 q ⟨Nat.le_of_ble_eq_true q,q⟩ q) (drawE_other _ _ _ _ q) q,trivial⟩) _ (by exact ⟨.ptr q,.ptr q,.ptr q,.free q q,trivial⟩) (by rfl)
   refine .inBlock<|.reg0 q (.o (mvV q)<|.o (addI q q)<|.o (asV q)<|.nil0)<|.keepL [0,1,2,3] [(1,.ptr 0 1 2 0 0),(2,.ptr 1 1 2 0 0),(3,.ptr 2 1 2 0 0),(4,i6 (IntKind.i64.wrap (x3 + 1)))] [⟨2,[(TFacts.lit a0)],0,none⟩,⟨2,[[u6 0,nul]],0,none⟩,⟨2,[[u6 a0.Gen,.own 3 ((x2 ++ [(bitOp .andNot .u64 (rdl a0.Rows x3) a0.Gen)]).length)]],0,none⟩,⟨1,(x2 ++ [(bitOp .andNot .u64 (rdl a0.Rows x3) a0.Gen)]).map (cInt .u64),0,none⟩] (by decide) (by decide) ⟨.ptr q,.ptr q,.ptr q,.free q q,trivial⟩ ⟨⟨_,q,bcBox (all2_free q)⟩,⟨_,q,bcBox (all2_free q)⟩,⟨_,q,bcBox (.cons (.free q q)<|.cons (.own q)<|.nil)⟩,⟨_,q,bcRow (l:=(x2 ++ [(bitOp .andNot .u64 (rdl a0.Rows x3) a0.Gen)])) sl47 (Nat.le_refl _) q⟩,trivial⟩ ?_
   exact hn1 _ h
  ·rw [if_neg c3] at h
   refine .condF q (df c3)<|.exit q<|.keepL [1,2,3] [(2,.ptr 0 1 2 0 0),(3,.ptr 1 1 2 0 0)] [⟨2,[[u6 0,nul]],0,none⟩,⟨2,[[u6 a0.Gen,.own 2 x2.length]],0,none⟩,⟨1,x2.map (cInt .u64),0,none⟩] (by decide) (by decide) ⟨.ptr q,.ptr q,trivial⟩ ⟨⟨_,q,bcBox (all2_free q)⟩,⟨_,q,bcBox (.cons (.free q q)<|.cons (.own q)<|.nil)⟩,⟨_,q,bcRow (l:=x2) sl47 (Nat.le_refl _) q⟩,trivial⟩ ?_
   exact hx1 _ h
def r03_Same.b1 (a0:TFacts) (a1:TFacts):Int→Rnd Int Unit Bool→Prop:=fun x1 z1=>if x1 < (a0.Rows.length:Int) then (((InR x1 a0.Rows.length))∧((InR x1 a1.Rows.length))∧if (rdl a0.Rows x1)=(rdl a1.Rows x1) then (z1=.next (IntKind.i64.wrap (x1 + 1))) else (z1=.ret false)) else (z1=.exit ())
def r03_Same.f (a0:TFacts) (a1:TFacts) (r:Bool):Prop :=
 if ((!(a0.Gen == a1.Gen)) || ((a0.Rows.length:Int) != (a1.Rows.length:Int)))=true then (r=false) else (∃ o1:Fin Unit Bool,Loop (r03_Same.b1 a0 a1) 0 o1∧o1.on (fun _=>r=true) (fun r_=>r=r_))
theorem r03_Same.D {a0 a1 r} (h:r03_Same.f a0 a1 r):D Tryz.prog X (.callH 40 [.agg (TFacts.lit a0),.agg (TFacts.lit a1)] [] (.val (.bool r)) []):=by
 unfold r03_Same.f at h
 refine .enter 38 0 fn40 q q q<|.seq<|.room 0<|.room 0<|.reg0 q (.o (bxP (s:=2) (cs:=(TFacts.lit a0)) q ⟨q,by decide,q⟩ q)<|.op 1 q (bxP (s:=2) (cs:=(TFacts.lit a1)) q ⟨q,by decide,q⟩ q)<|.o (asV q)<|.nil0)<|.seq<|.seq ?_
 refine .reg0 (e1:=listEnv [(2,.ptr 0 1 2 0 0),(3,.ptr 1 1 2 0 0),(19,bo ((!(a0.Gen == a1.Gen)) || ((a0.Rows.length:Int) != (a1.Rows.length:Int))))]) (H1:=[⟨2,[(TFacts.lit a0)],0,none⟩,⟨2,[(TFacts.lit a1)],0,none⟩]) q ?_ ?_
 ·refine .o (faP fa49_0 q)<|.o (ldP q sz46 ag46 q)<|.o (faP fa49_0 q)<|.o (ldP q sz46 ag46 q)<|.o (neI q q)<|.m q<|?_
  by_cases c1:a0.Gen=a1.Gen
  ·exact (.g q (nf c1) (faP fa49_1 q)<|.g q (nf c1) (ldP q sz47 ag47 q)<|.g q (nf c1) (lnR (l:=a0.Rows) sl47 q)<|.g q (nf c1) (faP fa49_1 q)<|.g q (nf c1) (ldP q sz47 ag47 q)<|.g q (nf c1) (lnR (l:=a1.Rows) sl47 q)<|.g q (nf c1) (neI q q)<|.o (pkFV q (nf c1) q)<|.nilL _ ⟨.ptr q,.ptr q,cB q (mOrF (bnotF (bt c1)) q),trivial⟩)
  ·exact (.n q (nt c1)<|.n q (nt c1)<|.n q (nt c1)<|.n q (nt c1)<|.n q (nt c1)<|.n q (nt c1)<|.n q (nt c1)<|.o (pkTV q (nt c1) q)<|.nilL _ ⟨.ptr q,.ptr q,cB q (mOrT (bnotT (bn c1))),trivial⟩)
 by_cases c2:((!(a0.Gen == a1.Gen)) || ((a0.Rows.length:Int) != (a1.Rows.length:Int)))=true
 ·rw [if_pos c2] at h
  refine .condT q c2<|.seq<|.reg0 q (.o (asV q)<|.nil0) ?_
  replace h:=h.symm
  subst h
  refine .kf [(4,bo false)] q q ?_
  exact .ret q
 ·rw [if_neg c2] at h
  refine .condF q (nb c2)<|.skip<|.seq<|.seq<|.reg0 q (.o (asV q)<|.nil0)<|.block<|.keepL [0,1] [(2,.ptr 0 1 2 0 0),(3,.ptr 1 1 2 0 0),(5,i6 0)] [⟨2,[(TFacts.lit a0)],0,none⟩,⟨2,[(TFacts.lit a1)],0,none⟩] (by decide) (by decide) ⟨.ptr q,.ptr q,.free q q,trivial⟩ ⟨⟨_,q,bcBox (all2_free q)⟩,⟨_,q,bcBox (all2_free q)⟩,trivial⟩ ?_
  obtain ⟨o1,hL1,h⟩:=h
  refine .loopB (r03_Same.b1 a0 a1) (fun x1=>listEnv [(2,.ptr 0 1 2 0 0),(3,.ptr 1 1 2 0 0),(5,i6 x1)]) (fun x1=>[⟨2,[(TFacts.lit a0)],0,none⟩,⟨2,[(TFacts.lit a1)],0,none⟩]) (fun _=>listEnv []) (fun _=>[]) hL1 (fun r_=>r=r_) ?_ ?_ ?_
  ·rintro ⟨⟩ rfl
   try dsimp only [Fin.on] at h
   refine .seq<|.reg0 q (.o (asV q)<|.nil0) ?_
   replace h:=h.symm
   subst h
   refine .kf [(4,bo true)] q q ?_
   exact .ret q
  ·rintro r_ rfl
   exact h
  ·rintro x1 z1 h hn1 hx1 hr1
   dsimp only [r03_Same.b1] at h
   refine .seq<|.seq<|.reg0 q (.o (mvV q)<|.o (faP fa49_1 q)<|.o (ldP q sz47 ag47 q)<|.o (lnR (l:=a0.Rows) sl47 q)<|.o (ltI q q)<|.nil0) ?_
   by_cases c7:x1 < (a0.Rows.length:Int)
   ·rw [if_pos c7] at h
    refine .condT q (dt c7)<|.skip<|.seq<|.block<|.seq ?_
    obtain ⟨g14_3,h⟩:=h
    obtain ⟨g14_8,h⟩:=h
    refine .reg1 (e1:=listEnv [(2,.ptr 0 1 2 0 0),(3,.ptr 1 1 2 0 0),(5,i6 x1),(37,bo ((rdl a0.Rows x1) != (rdl a1.Rows x1)))]) (H1:=[⟨2,[(TFacts.lit a0)],0,none⟩,⟨2,[(TFacts.lit a1)],0,none⟩]) q ?_ ?_
    ·exact .drawM [(10,37,bo ((rdl a0.Rows x1) != (rdl a1.Rows x1))),(9,36,u6 (rdl a1.Rows x1)),(8,35,.cptr ((cInt .u64) (rdl a1.Rows x1)) 0),(7,34,i6 x1),(6,33,.rows (a1.Rows.map (cInt .u64))),(5,32,.ptr 1 1 2 0 1),(4,31,u6 (rdl a0.Rows x1)),(3,30,.cptr ((cInt .u64) (rdl a0.Rows x1)) 0),(2,29,i6 x1),(1,28,.rows (a0.Rows.map (cInt .u64))),(0,27,.ptr 0 1 2 0 1)] [] [[],[0],[],[1,0,2],[3,1,0,2],[],[5],[],[6,5,7],[8,6,5,7],[4,3,1,0,2,9,8,6,5,7]] (by rfl) (by rfl) (by rfl) (by exact ⟨oP (fun _=>faP fa49_1 q) q,oP (fun _=>ldP q sz47 ag47 q) q,oP (fun _=>mvV q) q,oP (fun _=>ixR (l:=a0.Rows) (lit:=(cInt .u64)) sl47 q q (fun _=>q) g14_3.1 g14_3.2) q,oP (fun _=>ldC q sz46 ag46 q) q,oP (fun _=>faP fa49_1 q) q,oP (fun _=>ldP q sz47 ag47 q) q,oP (fun _=>mvV q) q,oP (fun _=>ixR (l:=a1.Rows) (lit:=(cInt .u64)) sl47 q q (fun _=>q) g14_8.1 g14_8.2) q,oP (fun _=>ldC q sz46 ag46 q) q,oP (fun _=>neI q q) q,trivial⟩) _ (by exact ⟨.ptr q,.ptr q,.free q q,.free q q,trivial⟩) (by rfl)
    by_cases c8:(rdl a0.Rows x1)=(rdl a1.Rows x1)
    ·rw [if_pos c8] at h
     refine .condF q (nf c8)<|.skip<|.inBlock<|.reg0 q (.o (mvV q)<|.o (addI q q)<|.o (asV q)<|.nil0)<|.keepL [0,1] [(2,.ptr 0 1 2 0 0),(3,.ptr 1 1 2 0 0),(5,i6 (IntKind.i64.wrap (x1 + 1)))] [⟨2,[(TFacts.lit a0)],0,none⟩,⟨2,[(TFacts.lit a1)],0,none⟩] (by decide) (by decide) ⟨.ptr q,.ptr q,.free q q,trivial⟩ ⟨⟨_,q,bcBox (all2_free q)⟩,⟨_,q,bcBox (all2_free q)⟩,trivial⟩ ?_
     exact hn1 _ h
    ·rw [if_neg c8] at h
     refine .condT q (nt c8)<|.seq<|.reg0 q (.o (asV q)<|.nil0) ?_
     have q3:=hr1 _ h
     replace q3:=q3.symm
     subst q3
     refine .kf [(4,bo false)] q q ?_
     exact .ret q
   ·rw [if_neg c7] at h
    refine .condF q (df c7)<|.exit q<|.keepL [] [] [] (by decide) (by decide) trivial trivial ?_
    exact hx1 _ h
def r03_Check.f (a0:Int) (a1:TFacts) (r:Int):Prop :=
 ∃ t2_1:Bool,(r03_dim.f a0 t2_1)∧if t2_1=true then (∃ t3_2:Bool,(r03_shape.f a0 a1 t3_2)∧∃ t3_6:TFacts,((t3_2=true)→r03_canon.f a1 t3_6)∧∃ t3_8:Bool,((t3_2=true)→r03_Same.f t3_6 a1 t3_8)∧if ((!t3_2) || (!t3_8))=true then (r=30) else (r=0)) else (r=31)
abbrev GI_A0:List (List Nat):=[[],[],[0,1],[2,0,1],[3,2,0,1],[4,3,2,0,1],[5,4,3,2,0,1],[4,3,2,0,1],[6,5,4,3,2,0,1,7],[8,6,5,4,3,2,0,1,7],[4,3,2,0,1,9,8,6,5,7]]
theorem r03_Check.D {a0 a1 r} (h:r03_Check.f a0 a1 r):D Tryz.prog X (.callH 92 [.val (.int .i64 a0),.agg (TFacts.lit a1)] [] (.val (.int .i64 r)) []):=by
 unfold r03_Check.f at h
 refine .enter 19 0 fn92 q q q<|.seq<|.room 0<|.reg0 q (.o (bxP (s:=2) (cs:=(TFacts.lit a1)) q ⟨q,by decide,q⟩ q)<|.o (asV q)<|.nil0)<|.seq<|.seq ?_
 obtain ⟨t2_1,g2_1,h⟩:=h
 refine .reg0 q (.m q<|.c q go117 q q q (r03_dim.D g2_1)<|.o (notB q)<|.nil0) ?_
 by_cases c1:t2_1=true
 ·rw [if_pos c1] at h
  refine .condF q (bnotF c1)<|.skip<|.seq<|.seq ?_
  obtain ⟨t3_2,g3_2,h⟩:=h
  obtain ⟨t3_6,g3_6,h⟩:=h
  obtain ⟨t3_8,g3_8,h⟩:=h
  refine .reg1 (e1:=listEnv [(18,bo ((!t3_2) || (!t3_8)))]) (H1:=[⟨2,[(TFacts.lit a1)],0,none⟩]) q ?_ ?_
  ·by_cases c2:t3_2=true
   ·exact .drawM [(10,18,bo (!t3_8)),(9,17,bo (!t3_8)),(8,16,bo t3_8),(7,15,.agg (TFacts.lit a1)),(6,14,.agg (TFacts.lit t3_6)),(5,13,.agg (TFacts.lit a1)),(4,12,bo (!t3_2)),(3,11,bo (!t3_2)),(2,10,bo t3_2),(1,9,.agg (TFacts.lit a1)),(0,8,i6 a0)] [] GI_A0 (by rfl) (by rfl) (by rfl) (by exact ⟨oP (fun _=>mvV q) q,oP (fun _=>ldG q sz49 ag49 q) q,fun S hS hD hn=>.oneI hS hD hn q q (callee_of q go134 q) (.pure q q (r03_shape.D g3_2)) q q q,oP (fun _=>notB q) q,oP (fun _=>mvV q) q,oG q (fun _=>q) (bnotF c2) (fun _=>ldG q sz49 ag49 q) q,fun S hS hD hn=>.oneI hS hD hn (gT q q q (bnotF c2)) q (callee_of q go96 q) (.pure q q (r03_canon.D (g3_6 c2))) q q q,oG q (fun _=>q) (bnotF c2) (fun _=>ldG q sz49 ag49 q) q,fun S hS hD hn=>.oneI hS hD hn (gT q q q (bnotF c2)) q (callee_of q go40 q) (.pure q q (r03_Same.D (g3_8 c2))) q q q,oG q (fun _=>q) (bnotF c2) (fun _=>notB q) q,oP (fun _=>pkFV q (bnotF c2) q) q,trivial⟩) _ (by exact ⟨cB q (mOrF (bnotF c2) q),trivial⟩) (by rfl)
   ·exact .drawM [(10,18,bo true),(9,17,und),(8,16,und),(7,15,und),(6,14,und),(5,13,und),(4,12,bo (!t3_2)),(3,11,bo (!t3_2)),(2,10,bo t3_2),(1,9,.agg (TFacts.lit a1)),(0,8,i6 a0)] [] GI_A0 (by rfl) (by rfl) (by rfl) (by exact ⟨oP (fun _=>mvV q) q,oP (fun _=>ldG q sz49 ag49 q) q,fun S hS hD hn=>.oneI hS hD hn q q (callee_of q go134 q) (.pure q q (r03_shape.D g3_2)) q q q,oP (fun _=>notB q) q,oP (fun _=>mvV q) q,oN q (fun _=>q) (bnotT (nb c2)) q,oN q (fun _=>q) (bnotT (nb c2)) q,oN q (fun _=>q) (bnotT (nb c2)) q,oN q (fun _=>q) (bnotT (nb c2)) q,oN q (fun _=>q) (bnotT (nb c2)) q,oP (fun _=>pkTV q (bnotT (nb c2)) q) q,trivial⟩) _ (by exact ⟨cB q (mOrT (bnotT (nb c2))),trivial⟩) (by rfl)
  by_cases c3:((!t3_2) || (!t3_8))=true
  ·rw [if_pos c3] at h
   refine .condT q c3<|.seq<|.reg0 q (.o (asV q)<|.nil0) ?_
   replace h:=h.symm
   subst h
   refine .kf [(4,i6 30)] q q ?_
   exact .ret q
  ·rw [if_neg c3] at h
   refine .condF q (nb c3)<|.skip<|.seq<|.reg0 q (.o (asV q)<|.nil0) ?_
   replace h:=h.symm
   subst h
   refine .kf [(4,i6 0)] q q ?_
   exact .ret q
 ·rw [if_neg c1] at h
  refine .condT q (bnotT (nb c1))<|.seq<|.reg0 q (.o (asV q)<|.nil0) ?_
  replace h:=h.symm
  subst h
  refine .kf [(4,i6 31)] q q ?_
  exact .ret q
def r05_cell.f (a0:Int) (a1:TCell) (r:Bool):Prop :=
 ∃ t2_3:Bool,(r03_Inside.f a0 a1.From t2_3)∧if t2_3=true then (if a1.Kind=0 then (r=(a1.K == 0)) else (if a1.Kind=1 then (r=true) else (if a1.Kind=2 then (r=((a1.K == 0) && (a1.From == 0))) else (r=false)))) else (r=false)
theorem r05_cell.D {a0 a1 r} (h:r05_cell.f a0 a1 r):D Tryz.prog X (.callH 93 [.val (.int .i64 a0),.agg (TCell.lit a1)] [] (.val (.bool r)) []):=by
 unfold r05_cell.f at h
 refine .enter 29 0 fn93 q q q<|.seq<|.room 0<|.reg0 q (.o (bxP (s:=3) (cs:=(TCell.lit a1)) q ⟨q,by decide,q⟩ q)<|.o (asV q)<|.nil0)<|.seq<|.seq ?_
 obtain ⟨t2_3,g2_3,h⟩:=h
 refine .reg0 q (.m q<|.o (faP fa97_0 q)<|.o (ldP q sz46 ag46 q)<|.c q go135 q q q (r03_Inside.D g2_3)<|.o (notB q)<|.nil0) ?_
 by_cases c1:t2_3=true
 ·rw [if_pos c1] at h
  refine .condF q (bnotF c1)<|.skip<|.seq<|.seq<|.reg0 q (.o (faP fa97_1 q)<|.o (ldP q sz95 ag95 q)<|.nil0)<|.block<|.seq<|.reg0 q (.o (eqI q q)<|.o (asV q)<|.nil0) ?_
  by_cases c2:a1.Kind=0
  ·rw [if_pos c2] at h
   refine .condT q (bt c2)<|.seq<|.reg0 q (.o (faP fa97_2 q)<|.o (ldP q sz2 ag2 q)<|.o (eqI q q)<|.o (asV q)<|.nil0) ?_
   replace h:=h.symm
   subst h
   refine .kf [(4,bo (a1.K == 0))] q q ?_
   exact .ret q
  ·rw [if_neg c2] at h
   refine .condF q (bn c2)<|.seq<|.reg0 q (.o (eqI q q)<|.o (asV q)<|.nil0) ?_
   by_cases c3:a1.Kind=1
   ·rw [if_pos c3] at h
    refine .condT q (bt c3)<|.seq<|.reg0 q (.o (asV q)<|.nil0) ?_
    replace h:=h.symm
    subst h
    refine .kf [(4,bo true)] q q ?_
    exact .ret q
   ·rw [if_neg c3] at h
    refine .condF q (bn c3)<|.seq<|.reg0 q (.o (eqI q q)<|.o (asV q)<|.nil0) ?_
    by_cases c4:a1.Kind=2
    ·rw [if_pos c4] at h
     refine .condT q (bt c4)<|.seq ?_
     refine .reg0 (e1:=listEnv [(4,bo ((a1.K == 0) && (a1.From == 0)))]) (H1:=[⟨3,[(TCell.lit a1)],0,none⟩]) q ?_ ?_
     ·refine .o (faP fa97_2 q)<|.o (ldP q sz2 ag2 q)<|.o (eqI q q)<|.m q<|?_
      by_cases c5:a1.K=0
      ·exact (.g q (bt c5) (faP fa97_0 q)<|.g q (bt c5) (ldP q sz46 ag46 q)<|.g q (bt c5) (eqI q q)<|.o (pkTV q (bt c5) q)<|.a q<|.nilL _ ⟨cB q (mAndT (bt c5) q),trivial⟩)
      ·exact (.n q (bn c5)<|.n q (bn c5)<|.n q (bn c5)<|.o (pkFV q (bn c5) q)<|.a q<|.nilL _ ⟨cB q (mAndF (bn c5)),trivial⟩)
     replace h:=h.symm
     subst h
     refine .kf [(4,bo ((a1.K == 0) && (a1.From == 0)))] q q ?_
     exact .ret q
    ·rw [if_neg c4] at h
     refine .condF q (bn c4)<|.skip<|.inBlock<|.seq<|.reg0 q (.o (asV q)<|.nil0) ?_
     replace h:=h.symm
     subst h
     refine .kf [(4,bo false)] q q ?_
     exact .ret q
 ·rw [if_neg c1] at h
  refine .condT q (bnotT (nb c1))<|.seq<|.reg0 q (.o (asV q)<|.nil0) ?_
  replace h:=h.symm
  subst h
  refine .kf [(4,bo false)] q q ?_
  exact .ret q
def r05_is.b1 (a0:TSpace) (a1:TWeight):Int→Rnd Int Unit Bool→Prop:=fun x1 z1=>if x1 < (a1.Cells.length:Int) then (((InR x1 a1.Cells.length))∧∃ t24_7:Bool,(r05_cell.f a0.Dim (rdl a1.Cells x1) t24_7)∧if t24_7=true then (z1=.next (IntKind.i64.wrap (x1 + 1))) else (z1=.ret false)) else (z1=.exit ())
def r05_is.step (self54:TSpace→TWeight→Bool→Prop) (a0:TSpace) (a1:TWeight) (r:Bool):Prop :=
 if a1.Zero=true then (∃ t3_5:Bool,(¬ (a0.Tag=5)→r05_plain.f a1 false false false false t3_5)∧r=((!(a0.Tag == 5)) && t3_5)) else (if a0.Tag=1 then (∃ t6_1:Bool,(r05_plain.f a1 false false false false t6_1)∧r=t6_1) else (if a0.Tag=2 then (∃ t8_1:Bool,(r05_plain.f a1 true false false false t8_1)∧r=(t8_1 && ((decide (a1.Cost ≥ 0)) && (decide (a1.Cost≤a0.Dim))))) else (if a0.Tag=3 then (∃ t10_1:Bool,(r05_plain.f a1 false true false false t10_1)∧∃ t10_7:Int,((t10_1=true)→r03_Check.f a0.Dim a1.Facts t10_7)∧r=(t10_1 && (t10_7 == 0))) else (if a0.Tag=4 then (∃ t12_1:Bool,(r05_plain.f a1 false false true false t12_1)∧if ((!t12_1) || ((a1.Cells.length:Int) != a0.Dim))=true then (r=false) else (∃ o1:Fin Unit Bool,Loop (r05_is.b1 a0 a1) 0 o1∧o1.on (fun _=>r=true) (fun r_=>r=r_))) else (∃ t28_1:Bool,(r05_plain.f a1 false false false true t28_1)∧((t28_1=true)→((a1.Parts.length:Int)=2)→(InR 0 a0.Parts.length))∧((t28_1=true)→((a1.Parts.length:Int)=2)→(InR 0 a1.Parts.length))∧∃ t28_17:Bool,((t28_1=true)→((a1.Parts.length:Int)=2)→self54 (rdl a0.Parts 0) (rdl a1.Parts 0) t28_17)∧((t28_1=true)→((a1.Parts.length:Int)=2)→(t28_17=true)→(InR 1 a0.Parts.length))∧((t28_1=true)→((a1.Parts.length:Int)=2)→(t28_17=true)→(InR 1 a1.Parts.length))∧∃ t28_28:Bool,((t28_1=true)→((a1.Parts.length:Int)=2)→(t28_17=true)→self54 (rdl a0.Parts 1) (rdl a1.Parts 1) t28_28)∧r=(t28_1 && (((a1.Parts.length:Int) == 2) && (t28_17 && t28_28))))))))
abbrev GI_A1:List (List Nat):=[[],[0],[1,0],[2,1,0],[3,2,1,0],[4,3,2,1,0],[5,4,3,2,1,0],[2,1,0,6,5,4,3],[7,2,1,0,6,5,4,3],[8,7,2,1,0,6,5,4,3],[9,8,7,2,1,0,6,5,4,3],[10,9,8,7,2,1,0,6,5,4,3],[11,10,9,8,7,2,1,0,6,5,4,3],[8,7,2,1,0,6,5,4,3],[13,8,7,2,1,0,6,5,4,3],[14,13,8,7,2,1,0,6,5,4,3],[15,14,13,8,7,2,1,0,6,5,4,3],[12,11,10,9,8,7,2,1,0,6,5,4,3,16,15,14,13],[8,7,2,1,0,6,5,4,3,17,12,11,10,9,16,15,14,13],[18,8,7,2,1,0,6,5,4,3,17,12,11,10,9,16,15,14,13],[19,18,8,7,2,1,0,6,5,4,3,17,12,11,10,9,16,15,14,13],[20,19,18,8,7,2,1,0,6,5,4,3,17,12,11,10,9,16,15,14,13],[21,20,19,18,8,7,2,1,0,6,5,4,3,17,12,11,10,9,16,15,14,13],[22,21,20,19,18,8,7,2,1,0,6,5,4,3,17,12,11,10,9,16,15,14,13],[19,18,8,7,2,1,0,6,5,4,3,17,12,11,10,9,16,15,14,13],[24,19,18,8,7,2,1,0,6,5,4,3,17,12,11,10,9,16,15,14,13],[25,24,19,18,8,7,2,1,0,6,5,4,3,17,12,11,10,9,16,15,14,13],[26,25,24,19,18,8,7,2,1,0,6,5,4,3,17,12,11,10,9,16,15,14,13],[23,22,21,20,19,18,8,7,2,1,0,6,5,4,3,17,12,11,10,9,16,15,14,13,27,26,25,24],[19,18,8,7,2,1,0,6,5,4,3,17,12,11,10,9,16,15,14,13,28,23,22,21,20,27,26,25,24],[29,19,18,8,7,2,1,0,6,5,4,3,17,12,11,10,9,16,15,14,13,28,23,22,21,20,27,26,25,24]]
theorem r05_is.stepD {self54:TSpace→TWeight→Bool→Prop} {a0:TSpace} {a1:TWeight} (hs54:∀ z0_ z1_ r_,self54 z0_ z1_ r_→D Tryz.prog X (.callH 54 [.agg (TSpace.lit z0_),.agg (TWeight.lit z1_)] [] (.val (.bool r_)) [])) {r:Bool} (h:r05_is.step self54 a0 a1 r):D Tryz.prog X (.callH 54 [.agg (TSpace.lit a0),.agg (TWeight.lit a1)] [] (.val (.bool r)) []):=by
 unfold r05_is.step at h
 refine .enter 108 0 fn54 q q q<|.seq<|.room 0<|.room 0<|.reg0 q (.o (bxP (s:=3) (cs:=(TSpace.lit a0)) q ⟨q,by decide,q⟩ q)<|.op 1 q (bxP (s:=6) (cs:=(TWeight.lit a1)) q ⟨q,by decide,q⟩ q)<|.o (asV q)<|.nil0)<|.seq<|.seq<|.reg0 q (.o (faP fa53_0 q)<|.o (ldP q sz4 ag4 q)<|.nil0) ?_
 by_cases c1:a1.Zero=true
 ·rw [if_pos c1] at h
  refine .condT q c1<|.seq ?_
  obtain ⟨t3_5,g3_5,h⟩:=h
  refine .reg0 (e1:=listEnv [(4,bo ((!(a0.Tag == 5)) && t3_5))]) (H1:=[⟨3,[(TSpace.lit a0)],0,none⟩,⟨6,[(TWeight.lit a1)],0,none⟩]) q ?_ ?_
  ·refine .o (faP fa25_0 q)<|.o (ldP q sz22 ag22 q)<|.o (neI q q)<|.m q<|?_
   by_cases c2:a0.Tag=5
   ·exact (.n q (nf c2)<|.n q (nf c2)<|.o (pkFV q (nf c2) q)<|.a q<|.nilL _ ⟨cB q (mAndF (bnotF (bt c2))),trivial⟩)
   ·exact (.g q (nt c2) (ldG q sz53 ag53 q)<|.callI (gT q q q (nt c2)) (callee_of q go91 q) (.pure q q (r05_plain.D (g3_5 c2)))<|.o (pkTV q (nt c2) q)<|.a q<|.nilL _ ⟨cB q (mAndT (bnotT (bn c2)) q),trivial⟩)
  replace h:=h.symm
  subst h
  refine .kf [(4,bo ((!(a0.Tag == 5)) && t3_5))] q q ?_
  exact .ret q
 ·rw [if_neg c1] at h
  refine .condF q (nb c1)<|.skip<|.seq<|.seq<|.reg0 q (.o (faP fa25_0 q)<|.o (ldP q sz22 ag22 q)<|.nil0)<|.block<|.seq<|.reg0 q (.o (eqI q q)<|.o (asV q)<|.nil0) ?_
  by_cases c3:a0.Tag=1
  ·rw [if_pos c3] at h
   refine .condT q (bt c3)<|.seq ?_
   obtain ⟨t6_1,g6_1,h⟩:=h
   refine .reg0 q (.o (ldG q sz53 ag53 q)<|.c q go91 q q q (r05_plain.D g6_1)<|.a q<|.nil0) ?_
   replace h:=h.symm
   subst h
   refine .kf [(4,bo t6_1)] q q ?_
   exact .ret q
  ·rw [if_neg c3] at h
   refine .condF q (bn c3)<|.seq<|.reg0 q (.o (eqI q q)<|.o (asV q)<|.nil0) ?_
   by_cases c4:a0.Tag=2
   ·rw [if_pos c4] at h
    refine .condT q (bt c4)<|.seq ?_
    obtain ⟨t8_1,g8_1,h⟩:=h
    refine .reg0 (e1:=listEnv [(4,bo (t8_1 && ((decide (a1.Cost ≥ 0)) && (decide (a1.Cost≤a0.Dim)))))]) (H1:=[⟨3,[(TSpace.lit a0)],0,none⟩,⟨6,[(TWeight.lit a1)],0,none⟩]) q ?_ ?_
    ·refine .o (ldG q sz53 ag53 q)<|.c q go91 q q q (r05_plain.D g8_1)<|.m q<|?_
     by_cases c5:t8_1=true
     ·refine .g q c5 (faP fa53_1 q)<|.g q c5 (ldP q sz3 ag3 q)<|.g q c5 (geI q q)<|.o (pkTV q c5 q)<|.m q<|?_
      by_cases c6:a1.Cost ≥ 0
      ·exact (.g q (dt c6) (faP fa53_1 q)<|.g q (dt c6) (ldP q sz3 ag3 q)<|.g q (dt c6) (faP fa25_1 q)<|.g q (dt c6) (ldP q sz3 ag3 q)<|.g q (dt c6) (leI q q)<|.o (pkTV q (dt c6) q)<|.a q<|.nilL _ ⟨cB q (mAndT c5 (mAndT (dt c6) q)),trivial⟩)
      ·exact (.n q (df c6)<|.n q (df c6)<|.n q (df c6)<|.n q (df c6)<|.n q (df c6)<|.o (pkFV q (df c6) q)<|.a q<|.nilL _ ⟨cB q (mAndT c5 (mAndF (df c6))),trivial⟩)
     ·exact (.n q (nb c5)<|.n q (nb c5)<|.n q (nb c5)<|.o (pkFV q (nb c5) q)<|.m q<|.n q q<|.n q q<|.n q q<|.n q q<|.n q q<|.o (pkFV q q q)<|.a q<|.nilL _ ⟨cB q (mAndF (nb c5)),trivial⟩)
    replace h:=h.symm
    subst h
    refine .kf [(4,bo (t8_1 && ((decide (a1.Cost ≥ 0)) && (decide (a1.Cost≤a0.Dim)))))] q q ?_
    exact .ret q
   ·rw [if_neg c4] at h
    refine .condF q (bn c4)<|.seq<|.reg0 q (.o (eqI q q)<|.o (asV q)<|.nil0) ?_
    by_cases c7:a0.Tag=3
    ·rw [if_pos c7] at h
     refine .condT q (bt c7)<|.seq ?_
     obtain ⟨t10_1,g10_1,h⟩:=h
     obtain ⟨t10_7,g10_7,h⟩:=h
     refine .reg0 (e1:=listEnv [(4,bo (t10_1 && (t10_7 == 0)))]) (H1:=[⟨3,[(TSpace.lit a0)],0,none⟩,⟨6,[(TWeight.lit a1)],0,none⟩]) q ?_ ?_
     ·refine .o (ldG q sz53 ag53 q)<|.c q go91 q q q (r05_plain.D g10_1)<|.m q<|?_
      by_cases c8:t10_1=true
      ·exact (.g q c8 (faP fa25_1 q)<|.g q c8 (ldP q sz3 ag3 q)<|.g q c8 (faP fa53_2 q)<|.g q c8 (ldG q sz49 ag49 q)<|.callI (gT q q q c8) (callee_of q go92 q) (.pure q q (r03_Check.D (g10_7 c8)))<|.g q c8 (eqI q q)<|.o (pkTV q c8 q)<|.a q<|.nilL _ ⟨cB q (mAndT c8 q),trivial⟩)
      ·exact (.n q (nb c8)<|.n q (nb c8)<|.n q (nb c8)<|.n q (nb c8)<|.n q (nb c8)<|.n q (nb c8)<|.o (pkFV q (nb c8) q)<|.a q<|.nilL _ ⟨cB q (mAndF (nb c8)),trivial⟩)
     replace h:=h.symm
     subst h
     refine .kf [(4,bo (t10_1 && (t10_7 == 0)))] q q ?_
     exact .ret q
    ·rw [if_neg c7] at h
     refine .condF q (bn c7)<|.seq<|.reg0 q (.o (eqI q q)<|.o (asV q)<|.nil0) ?_
     by_cases c9:a0.Tag=4
     ·rw [if_pos c9] at h
      refine .condT q (bt c9)<|.seq<|.seq ?_
      obtain ⟨t12_1,g12_1,h⟩:=h
      refine .reg0 (e1:=listEnv [(2,.ptr 0 1 3 0 0),(3,.ptr 1 1 6 0 0),(61,bo ((!t12_1) || ((a1.Cells.length:Int) != a0.Dim)))]) (H1:=[⟨3,[(TSpace.lit a0)],0,none⟩,⟨6,[(TWeight.lit a1)],0,none⟩]) q ?_ ?_
      ·refine .o (ldG q sz53 ag53 q)<|.c q go91 q q q (r05_plain.D g12_1)<|.o (notB q)<|.m q<|?_
       by_cases c10:t12_1=true
       ·exact (.g q (bnotF c10) (faP fa53_3 q)<|.g q (bnotF c10) (ldP q sz50 ag50 q)<|.g q (bnotF c10) (lnR (l:=a1.Cells) sl50 q)<|.g q (bnotF c10) (faP fa25_1 q)<|.g q (bnotF c10) (ldP q sz3 ag3 q)<|.g q (bnotF c10) (neI q q)<|.o (pkFV q (bnotF c10) q)<|.nilL _ ⟨.ptr q,.ptr q,cB q (mOrF (bnotF c10) q),trivial⟩)
       ·exact (.n q (bnotT (nb c10))<|.n q (bnotT (nb c10))<|.n q (bnotT (nb c10))<|.n q (bnotT (nb c10))<|.n q (bnotT (nb c10))<|.n q (bnotT (nb c10))<|.o (pkTV q (bnotT (nb c10)) q)<|.nilL _ ⟨.ptr q,.ptr q,cB q (mOrT (bnotT (nb c10))),trivial⟩)
      by_cases c11:((!t12_1) || ((a1.Cells.length:Int) != a0.Dim))=true
      ·rw [if_pos c11] at h
       refine .condT q c11<|.seq<|.reg0 q (.o (asV q)<|.nil0) ?_
       replace h:=h.symm
       subst h
       refine .kf [(4,bo false)] q q ?_
       exact .ret q
      ·rw [if_neg c11] at h
       refine .condF q (nb c11)<|.skip<|.seq<|.seq<|.reg0 q (.o (asV q)<|.nil0)<|.block<|.keepL [0,1] [(2,.ptr 0 1 3 0 0),(3,.ptr 1 1 6 0 0),(5,i6 0)] [⟨3,[(TSpace.lit a0)],0,none⟩,⟨6,[(TWeight.lit a1)],0,none⟩] (by decide) (by decide) ⟨.ptr q,.ptr q,.free q q,trivial⟩ ⟨⟨_,q,bcBox (all2_free q)⟩,⟨_,q,bcBox (all2_free q)⟩,trivial⟩ ?_
       obtain ⟨o1,hL1,h⟩:=h
       refine .loopB (r05_is.b1 a0 a1) (fun x1=>listEnv [(2,.ptr 0 1 3 0 0),(3,.ptr 1 1 6 0 0),(5,i6 x1)]) (fun x1=>[⟨3,[(TSpace.lit a0)],0,none⟩,⟨6,[(TWeight.lit a1)],0,none⟩]) (fun _=>listEnv []) (fun _=>[]) hL1 (fun r_=>r=r_) ?_ ?_ ?_
       ·rintro ⟨⟩ rfl
        try dsimp only [Fin.on] at h
        refine .seq<|.reg0 q (.o (asV q)<|.nil0) ?_
        replace h:=h.symm
        subst h
        refine .kf [(4,bo true)] q q ?_
        exact .ret q
       ·rintro r_ rfl
        exact h
       ·rintro x1 z1 h hn1 hx1 hr1
        dsimp only [r05_is.b1] at h
        refine .seq<|.seq<|.reg0 q (.o (mvV q)<|.o (faP fa53_3 q)<|.o (ldP q sz50 ag50 q)<|.o (lnR (l:=a1.Cells) sl50 q)<|.o (ltI q q)<|.nil0) ?_
        by_cases c16:x1 < (a1.Cells.length:Int)
        ·rw [if_pos c16] at h
         refine .condT q (dt c16)<|.skip<|.seq<|.block<|.seq ?_
         obtain ⟨g24_5,h⟩:=h
         obtain ⟨t24_7,g24_7,h⟩:=h
         refine .reg1 (e1:=listEnv [(2,.ptr 0 1 3 0 0),(3,.ptr 1 1 6 0 0),(5,i6 x1),(77,bo (!t24_7))]) (H1:=[⟨3,[(TSpace.lit a0)],0,none⟩,⟨6,[(TWeight.lit a1)],0,none⟩]) q ?_ ?_
         ·exact .drawM [(8,77,bo (!t24_7)),(7,76,bo t24_7),(6,75,.agg (TCell.lit (rdl a1.Cells x1))),(5,74,.cptr (TCell.lit (rdl a1.Cells x1)) 0),(4,73,i6 x1),(3,72,.rows (a1.Cells.map TCell.cells)),(2,71,.ptr 1 1 6 0 4),(1,70,i6 a0.Dim),(0,69,.ptr 0 1 3 0 1)] [] [[],[0],[],[2],[],[3,2,4],[5,3,2,4],[1,0,6,5,3,2,4],[7,1,0,6,5,3,2,4]] (by rfl) (by rfl) (by rfl) (by exact ⟨oP (fun _=>faP fa25_1 q) q,oP (fun _=>ldP q sz3 ag3 q) q,oP (fun _=>faP fa53_3 q) q,oP (fun _=>ldP q sz50 ag50 q) q,oP (fun _=>mvV q) q,oP (fun _=>ixR (l:=a1.Cells) (lit:=TCell.lit) sl50 q q (fun _=>q) g24_5.1 g24_5.2) q,oP (fun _=>ldCG q sz97 ag97 q) q,fun S hS hD hn=>.oneI hS hD hn q q (callee_of q go93 q) (.pure q q (r05_cell.D g24_7)) q q q,oP (fun _=>notB q) q,trivial⟩) _ (by exact ⟨.ptr q,.ptr q,.free q q,.free q q,trivial⟩) (by rfl)
         by_cases c17:t24_7=true
         ·rw [if_pos c17] at h
          refine .condF q (bnotF c17)<|.skip<|.inBlock<|.reg0 q (.o (mvV q)<|.o (addI q q)<|.o (asV q)<|.nil0)<|.keepL [0,1] [(2,.ptr 0 1 3 0 0),(3,.ptr 1 1 6 0 0),(5,i6 (IntKind.i64.wrap (x1 + 1)))] [⟨3,[(TSpace.lit a0)],0,none⟩,⟨6,[(TWeight.lit a1)],0,none⟩] (by decide) (by decide) ⟨.ptr q,.ptr q,.free q q,trivial⟩ ⟨⟨_,q,bcBox (all2_free q)⟩,⟨_,q,bcBox (all2_free q)⟩,trivial⟩ ?_
          exact hn1 _ h
         ·rw [if_neg c17] at h
          refine .condT q (bnotT (nb c17))<|.seq<|.reg0 q (.o (asV q)<|.nil0) ?_
          have q3:=hr1 _ h
          replace q3:=q3.symm
          subst q3
          refine .kf [(4,bo false)] q q ?_
          exact .ret q
        ·rw [if_neg c16] at h
         refine .condF q (df c16)<|.exit q<|.keepL [] [] [] (by decide) (by decide) trivial trivial ?_
         exact hx1 _ h
     ·rw [if_neg c9] at h
      refine .condF q (bn c9)<|.skip<|.inBlock<|.seq ?_
      obtain ⟨t28_1,g28_1,h⟩:=h
      obtain ⟨g28_11,h⟩:=h
      obtain ⟨g28_15,h⟩:=h
      obtain ⟨t28_17,g28_17,h⟩:=h
      obtain ⟨g28_22,h⟩:=h
      obtain ⟨g28_26,h⟩:=h
      obtain ⟨t28_28,g28_28,h⟩:=h
      refine .reg1 (e1:=listEnv [(4,bo (t28_1 && (((a1.Parts.length:Int) == 2) && (t28_17 && t28_28))))]) (H1:=[⟨3,[(TSpace.lit a0)],0,none⟩,⟨6,[(TWeight.lit a1)],0,none⟩]) q ?_ ?_
      ·by_cases c18:t28_1=true
       ·by_cases c19:(a1.Parts.length:Int)=2
        ·by_cases c20:t28_17=true
         ·exact .drawM [(30,4,bo t28_28),(29,107,bo t28_28),(28,106,bo t28_28),(27,105,.agg (TWeight.lit (rdl a1.Parts 1))),(26,104,.cptr (TWeight.lit (rdl a1.Parts 1)) 0),(25,103,.rows (a1.Parts.map TWeight.cells)),(24,102,.ptr 1 1 6 0 5),(23,101,.agg (TSpace.lit (rdl a0.Parts 1))),(22,100,.cptr (TSpace.lit (rdl a0.Parts 1)) 0),(21,99,.rows (a0.Parts.map TSpace.cells)),(20,98,.ptr 0 1 3 0 2),(19,97,bo t28_17),(18,96,bo t28_17),(17,95,bo t28_17),(16,94,.agg (TWeight.lit (rdl a1.Parts 0))),(15,93,.cptr (TWeight.lit (rdl a1.Parts 0)) 0),(14,92,.rows (a1.Parts.map TWeight.cells)),(13,91,.ptr 1 1 6 0 5),(12,90,.agg (TSpace.lit (rdl a0.Parts 0))),(11,89,.cptr (TSpace.lit (rdl a0.Parts 0)) 0),(10,88,.rows (a0.Parts.map TSpace.cells)),(9,87,.ptr 0 1 3 0 2),(8,86,bo ((a1.Parts.length:Int) == 2)),(7,85,bo ((a1.Parts.length:Int) == 2)),(6,84,bo ((a1.Parts.length:Int) == 2)),(5,83,i6 (a1.Parts.length:Int)),(4,82,.rows (a1.Parts.map TWeight.cells)),(3,81,.ptr 1 1 6 0 5),(2,80,bo t28_1),(1,79,bo t28_1),(0,78,.agg (TWeight.lit a1))] [] GI_A1 (by rfl) (by rfl) (by rfl) (by exact ⟨oP (fun _=>ldG q sz53 ag53 q) q,fun S hS hD hn=>.oneI hS hD hn q q (callee_of q go91 q) (.pure q q (r05_plain.D g28_1)) q q q,oP (fun _=>mvV q) q,oG q (fun _=>q) c18 (fun _=>faP fa53_4 q) q,oG q (fun _=>q) c18 (fun _=>ldP q sz51 ag51 q) q,oG q (fun _=>q) c18 (fun _=>lnR (l:=a1.Parts) sl51 q) q,oG q (fun _=>q) c18 (fun _=>eqI q q) q,oP (fun _=>pkTV q c18 q) q,oP (fun _=>mvV q) q,oG q (fun _=>q) (bt c19) (fun _=>faP fa25_2 q) q,oG q (fun _=>q) (bt c19) (fun _=>ldP q sz23 ag23 q) q,oG q (fun _=>q) (bt c19) (fun _=>ixR (l:=a0.Parts) (lit:=TSpace.lit) sl23 q q TSpace.cells_lit (g28_11 c18 c19).1 (g28_11 c18 c19).2) q,oG q (fun _=>q) (bt c19) (fun _=>ldCG q sz25 ag25 q) q,oG q (fun _=>q) (bt c19) (fun _=>faP fa53_4 q) q,oG q (fun _=>q) (bt c19) (fun _=>ldP q sz51 ag51 q) q,oG q (fun _=>q) (bt c19) (fun _=>ixR (l:=a1.Parts) (lit:=TWeight.lit) sl51 q q TWeight.cells_lit (g28_15 c18 c19).1 (g28_15 c18 c19).2) q,oG q (fun _=>q) (bt c19) (fun _=>ldCG q sz53 ag53 q) q,fun S hS hD hn=>.oneI hS hD hn (gT q q q (bt c19)) q (callee_of q go54 q) (.pure q q (hs54 _ _ _ (g28_17 c18 c19))) q q q,oP (fun _=>pkTV q (bt c19) q) q,oP (fun _=>mvV q) q,oG q (fun _=>q) c20 (fun _=>faP fa25_2 q) q,oG q (fun _=>q) c20 (fun _=>ldP q sz23 ag23 q) q,oG q (fun _=>q) c20 (fun _=>ixR (l:=a0.Parts) (lit:=TSpace.lit) sl23 q q TSpace.cells_lit (g28_22 c18 c19 c20).1 (g28_22 c18 c19 c20).2) q,oG q (fun _=>q) c20 (fun _=>ldCG q sz25 ag25 q) q,oG q (fun _=>q) c20 (fun _=>faP fa53_4 q) q,oG q (fun _=>q) c20 (fun _=>ldP q sz51 ag51 q) q,oG q (fun _=>q) c20 (fun _=>ixR (l:=a1.Parts) (lit:=TWeight.lit) sl51 q q TWeight.cells_lit (g28_26 c18 c19 c20).1 (g28_26 c18 c19 c20).2) q,oG q (fun _=>q) c20 (fun _=>ldCG q sz53 ag53 q) q,fun S hS hD hn=>.oneI hS hD hn (gT q q q c20) q (callee_of q go54 q) (.pure q q (hs54 _ _ _ (g28_28 c18 c19 c20))) q q q,oP (fun _=>pkTV q c20 q) q,oP (fun _=>asV q) q,trivial⟩) _ (by exact ⟨cB q (mAndT c18 (mAndT (bt c19) (mAndT c20 q))),trivial⟩) (by rfl)
         ·exact .drawM [(30,4,bo false),(29,107,bo false),(28,106,und),(27,105,und),(26,104,und),(25,103,und),(24,102,und),(23,101,und),(22,100,und),(21,99,und),(20,98,und),(19,97,bo t28_17),(18,96,bo t28_17),(17,95,bo t28_17),(16,94,.agg (TWeight.lit (rdl a1.Parts 0))),(15,93,.cptr (TWeight.lit (rdl a1.Parts 0)) 0),(14,92,.rows (a1.Parts.map TWeight.cells)),(13,91,.ptr 1 1 6 0 5),(12,90,.agg (TSpace.lit (rdl a0.Parts 0))),(11,89,.cptr (TSpace.lit (rdl a0.Parts 0)) 0),(10,88,.rows (a0.Parts.map TSpace.cells)),(9,87,.ptr 0 1 3 0 2),(8,86,bo ((a1.Parts.length:Int) == 2)),(7,85,bo ((a1.Parts.length:Int) == 2)),(6,84,bo ((a1.Parts.length:Int) == 2)),(5,83,i6 (a1.Parts.length:Int)),(4,82,.rows (a1.Parts.map TWeight.cells)),(3,81,.ptr 1 1 6 0 5),(2,80,bo t28_1),(1,79,bo t28_1),(0,78,.agg (TWeight.lit a1))] [] GI_A1 (by rfl) (by rfl) (by rfl) (by exact ⟨oP (fun _=>ldG q sz53 ag53 q) q,fun S hS hD hn=>.oneI hS hD hn q q (callee_of q go91 q) (.pure q q (r05_plain.D g28_1)) q q q,oP (fun _=>mvV q) q,oG q (fun _=>q) c18 (fun _=>faP fa53_4 q) q,oG q (fun _=>q) c18 (fun _=>ldP q sz51 ag51 q) q,oG q (fun _=>q) c18 (fun _=>lnR (l:=a1.Parts) sl51 q) q,oG q (fun _=>q) c18 (fun _=>eqI q q) q,oP (fun _=>pkTV q c18 q) q,oP (fun _=>mvV q) q,oG q (fun _=>q) (bt c19) (fun _=>faP fa25_2 q) q,oG q (fun _=>q) (bt c19) (fun _=>ldP q sz23 ag23 q) q,oG q (fun _=>q) (bt c19) (fun _=>ixR (l:=a0.Parts) (lit:=TSpace.lit) sl23 q q TSpace.cells_lit (g28_11 c18 c19).1 (g28_11 c18 c19).2) q,oG q (fun _=>q) (bt c19) (fun _=>ldCG q sz25 ag25 q) q,oG q (fun _=>q) (bt c19) (fun _=>faP fa53_4 q) q,oG q (fun _=>q) (bt c19) (fun _=>ldP q sz51 ag51 q) q,oG q (fun _=>q) (bt c19) (fun _=>ixR (l:=a1.Parts) (lit:=TWeight.lit) sl51 q q TWeight.cells_lit (g28_15 c18 c19).1 (g28_15 c18 c19).2) q,oG q (fun _=>q) (bt c19) (fun _=>ldCG q sz53 ag53 q) q,fun S hS hD hn=>.oneI hS hD hn (gT q q q (bt c19)) q (callee_of q go54 q) (.pure q q (hs54 _ _ _ (g28_17 c18 c19))) q q q,oP (fun _=>pkTV q (bt c19) q) q,oP (fun _=>mvV q) q,oN q (fun _=>q) (nb c20) q,oN q (fun _=>q) (nb c20) q,oN q (fun _=>q) (nb c20) q,oN q (fun _=>q) (nb c20) q,oN q (fun _=>q) (nb c20) q,oN q (fun _=>q) (nb c20) q,oN q (fun _=>q) (nb c20) q,oN q (fun _=>q) (nb c20) q,oN q (fun _=>q) (nb c20) q,oP (fun _=>pkFV q (nb c20) q) q,oP (fun _=>asV q) q,trivial⟩) _ (by exact ⟨cB q (mAndT c18 (mAndT (bt c19) (mAndF (nb c20)))),trivial⟩) (by rfl)
        ·exact .drawM [(30,4,bo false),(29,107,bo false),(28,106,und),(27,105,und),(26,104,und),(25,103,und),(24,102,und),(23,101,und),(22,100,und),(21,99,und),(20,98,und),(19,97,bo false),(18,96,bo false),(17,95,und),(16,94,und),(15,93,und),(14,92,und),(13,91,und),(12,90,und),(11,89,und),(10,88,und),(9,87,und),(8,86,bo ((a1.Parts.length:Int) == 2)),(7,85,bo ((a1.Parts.length:Int) == 2)),(6,84,bo ((a1.Parts.length:Int) == 2)),(5,83,i6 (a1.Parts.length:Int)),(4,82,.rows (a1.Parts.map TWeight.cells)),(3,81,.ptr 1 1 6 0 5),(2,80,bo t28_1),(1,79,bo t28_1),(0,78,.agg (TWeight.lit a1))] [] GI_A1 (by rfl) (by rfl) (by rfl) (by exact ⟨oP (fun _=>ldG q sz53 ag53 q) q,fun S hS hD hn=>.oneI hS hD hn q q (callee_of q go91 q) (.pure q q (r05_plain.D g28_1)) q q q,oP (fun _=>mvV q) q,oG q (fun _=>q) c18 (fun _=>faP fa53_4 q) q,oG q (fun _=>q) c18 (fun _=>ldP q sz51 ag51 q) q,oG q (fun _=>q) c18 (fun _=>lnR (l:=a1.Parts) sl51 q) q,oG q (fun _=>q) c18 (fun _=>eqI q q) q,oP (fun _=>pkTV q c18 q) q,oP (fun _=>mvV q) q,oN q (fun _=>q) (bn c19) q,oN q (fun _=>q) (bn c19) q,oN q (fun _=>q) (bn c19) q,oN q (fun _=>q) (bn c19) q,oN q (fun _=>q) (bn c19) q,oN q (fun _=>q) (bn c19) q,oN q (fun _=>q) (bn c19) q,oN q (fun _=>q) (bn c19) q,oN q (fun _=>q) (bn c19) q,oP (fun _=>pkFV q (bn c19) q) q,oP (fun _=>mvV q) q,oN q (fun _=>q) q q,oN q (fun _=>q) q q,oN q (fun _=>q) q q,oN q (fun _=>q) q q,oN q (fun _=>q) q q,oN q (fun _=>q) q q,oN q (fun _=>q) q q,oN q (fun _=>q) q q,oN q (fun _=>q) q q,oP (fun _=>pkFV q q q) q,oP (fun _=>asV q) q,trivial⟩) _ (by exact ⟨cB q (mAndT c18 (mAndF (bn c19))),trivial⟩) (by rfl)
       ·exact .drawM [(30,4,bo false),(29,107,bo false),(28,106,und),(27,105,und),(26,104,und),(25,103,und),(24,102,und),(23,101,und),(22,100,und),(21,99,und),(20,98,und),(19,97,bo false),(18,96,bo false),(17,95,und),(16,94,und),(15,93,und),(14,92,und),(13,91,und),(12,90,und),(11,89,und),(10,88,und),(9,87,und),(8,86,bo false),(7,85,bo false),(6,84,und),(5,83,und),(4,82,und),(3,81,und),(2,80,bo t28_1),(1,79,bo t28_1),(0,78,.agg (TWeight.lit a1))] [] GI_A1 (by rfl) (by rfl) (by rfl) (by exact ⟨oP (fun _=>ldG q sz53 ag53 q) q,fun S hS hD hn=>.oneI hS hD hn q q (callee_of q go91 q) (.pure q q (r05_plain.D g28_1)) q q q,oP (fun _=>mvV q) q,oN q (fun _=>q) (nb c18) q,oN q (fun _=>q) (nb c18) q,oN q (fun _=>q) (nb c18) q,oN q (fun _=>q) (nb c18) q,oP (fun _=>pkFV q (nb c18) q) q,oP (fun _=>mvV q) q,oN q (fun _=>q) q q,oN q (fun _=>q) q q,oN q (fun _=>q) q q,oN q (fun _=>q) q q,oN q (fun _=>q) q q,oN q (fun _=>q) q q,oN q (fun _=>q) q q,oN q (fun _=>q) q q,oN q (fun _=>q) q q,oP (fun _=>pkFV q q q) q,oP (fun _=>mvV q) q,oN q (fun _=>q) q q,oN q (fun _=>q) q q,oN q (fun _=>q) q q,oN q (fun _=>q) q q,oN q (fun _=>q) q q,oN q (fun _=>q) q q,oN q (fun _=>q) q q,oN q (fun _=>q) q q,oN q (fun _=>q) q q,oP (fun _=>pkFV q q q) q,oP (fun _=>asV q) q,trivial⟩) _ (by exact ⟨cB q (mAndF (nb c18)),trivial⟩) (by rfl)
      replace h:=h.symm
      subst h
      refine .kf [(4,bo (t28_1 && (((a1.Parts.length:Int) == 2) && (t28_17 && t28_28))))] q q ?_
      exact .ret q
def r05_is.fN:Nat→TSpace→TWeight→Bool→Prop
 | 0=>fun _ _ _=>False
 | n + 1=>r05_is.step (r05_is.fN n)
theorem r05_is.ND:∀ (n:Nat) {a0:TSpace} {a1:TWeight} {r:Bool} (h:r05_is.fN n a0 a1 r),D Tryz.prog X (.callH 54 [.agg (TSpace.lit a0),.agg (TWeight.lit a1)] [] (.val (.bool r)) [])
 | 0,_,_,_,h=>h.elim
 | n + 1,_,_,_,h=>r05_is.stepD (fun _ _ _ h=>r05_is.ND n h) h
def r05_is.f (a0:TSpace) (a1:TWeight) (r:Bool):Prop:=∃ n,r05_is.fN n a0 a1 r
theorem r05_is.D {a0 a1 r} (h:r05_is.f a0 a1 r):D Tryz.prog X (.callH 54 [.agg (TSpace.lit a0),.agg (TWeight.lit a1)] [] (.val (.bool r)) []):=by obtain ⟨n,h⟩:=h; exact r05_is.ND n h
def r05_Check.f (a0:TSpace) (a1:TWeight) (r:Int):Prop :=
 ∃ t2_1:Int,(r05_Space.f a0 t2_1)∧if t2_1=0 then (∃ t4_2:Bool,(r05_is.f a0 a1 t4_2)∧if t4_2=true then (r=0) else (r=51)) else (r=t2_1)
theorem r05_Check.D {a0 a1 r} (h:r05_Check.f a0 a1 r):D Tryz.prog X (.callH 25 [.agg (TSpace.lit a0),.agg (TWeight.lit a1)] [] (.val (.int .i64 r)) []):=by
 unfold r05_Check.f at h
 refine .enter 15 0 fn25 q q q<|.seq<|.room 0<|.room 0<|.reg0 q (.o (bxP (s:=3) (cs:=(TSpace.lit a0)) q ⟨q,by decide,q⟩ q)<|.op 1 q (bxP (s:=6) (cs:=(TWeight.lit a1)) q ⟨q,by decide,q⟩ q)<|.o (asV q)<|.nil0)<|.seq ?_
 obtain ⟨t2_1,g2_1,h⟩:=h
 refine .reg0 q (.o (ldG q sz25 ag25 q)<|.c q go41 q q q (r05_Space.D g2_1)<|.a q<|.nil0)<|.seq<|.seq<|.reg0 q (.o (mvV q)<|.o (neI q q)<|.nil0) ?_
 by_cases c1:t2_1=0
 ·rw [if_pos c1] at h
  refine .condF q (nf c1)<|.skip<|.seq<|.seq ?_
  obtain ⟨t4_2,g4_2,h⟩:=h
  refine .reg0 q (.o (ldG q sz25 ag25 q)<|.o (ldG q sz53 ag53 q)<|.c q go54 q q q (r05_is.D g4_2)<|.o (notB q)<|.nil0) ?_
  by_cases c2:t4_2=true
  ·rw [if_pos c2] at h
   refine .condF q (bnotF c2)<|.skip<|.seq<|.reg0 q (.o (asV q)<|.nil0) ?_
   replace h:=h.symm
   subst h
   refine .kf [(4,i6 0)] q q ?_
   exact .ret q
  ·rw [if_neg c2] at h
   refine .condT q (bnotT (nb c2))<|.seq<|.reg0 q (.o (asV q)<|.nil0) ?_
   replace h:=h.symm
   subst h
   refine .kf [(4,i6 51)] q q ?_
   exact .ret q
 ·rw [if_neg c1] at h
  refine .condT q (nt c1)<|.seq<|.reg0 q (.o (mvV q)<|.o (asV q)<|.nil0) ?_
  replace h:=h.symm
  subst h
  refine .kf [(4,i6 t2_1)] q q ?_
  exact .ret q
def r11_Check.b1 (a0:TPds):Int→Rnd Int Unit Int→Prop:=fun x1 z1=>if x1 < (a0.Rules.length:Int) then (((InR x1 a0.Rules.length))∧∃ t18_6:Bool,(r11_rule.f a0 (rdl a0.Rules x1) t18_6)∧if t18_6=true then (z1=.next (IntKind.i64.wrap (x1 + 1))) else (z1=.ret 110)) else (z1=.exit ())
def r11_Check.b2 (a0:TPds):Int→Rnd Int Unit Int→Prop:=fun x2 z2=>if x2 < (a0.Rules.length:Int) then (((InR x2 a0.Rules.length))∧∃ t33_8:Int,(r05_Check.f a0.Space ((rdl a0.Rules x2).F) t33_8)∧if t33_8=0 then (z2=.next (IntKind.i64.wrap (x2 + 1))) else (z2=.ret t33_8)) else (z2=.exit ())
def r11_Check.f (a0:TPds) (r:Int):Prop :=
 ∃ t2_2:Int,(r05_Space.f a0.Space t2_2)∧if t2_2=0 then (if (a0.Rules.length:Int) > 16384 then (r=3) else (if ((decide (a0.States < 0)) || ((decide (a0.States > 4096)) || ((decide (a0.Symbols < 0)) || (decide (a0.Symbols > 4096)))))=true then (r=110) else (∃ o1:Fin Unit Int,Loop (r11_Check.b1 a0) 0 o1∧o1.on (fun _=>∃ o2:Fin Unit Int,Loop (r11_Check.b2 a0) 0 o2∧o2.on (fun _=>r=0) (fun r_=>r=r_)) (fun r_=>r=r_)))) else (r=t2_2)
theorem r11_Check.D {a0 r} (h:r11_Check.f a0 r):D Tryz.prog X (.callH 43 [.agg (TPds.lit a0)] [] (.val (.int .i64 r)) []):=by
 unfold r11_Check.f at h
 refine .enter 69 0 fn43 q q q<|.seq<|.room 0<|.reg0 q (.o (bxP (s:=6) (cs:=(TPds.lit a0)) q ⟨q,by decide,q⟩ q)<|.o (asV q)<|.nil0)<|.seq ?_
 obtain ⟨t2_2,g2_2,h⟩:=h
 refine .reg0 q (.o (faP fa28_0 q)<|.o (ldG q sz25 ag25 q)<|.c q go41 q q q (r05_Space.D g2_2)<|.a q<|.nil0)<|.seq<|.seq<|.reg0 q (.o (mvV q)<|.o (neI q q)<|.nil0) ?_
 by_cases c1:t2_2=0
 ·rw [if_pos c1] at h
  refine .condF q (nf c1)<|.skip<|.seq<|.seq<|.reg0 q (.o (faP fa28_3 q)<|.o (ldP q sz26 ag26 q)<|.o (lnR (l:=a0.Rules) sl26 q)<|.o (gtI q q)<|.nil0) ?_
  by_cases c2:(a0.Rules.length:Int) > 16384
  ·rw [if_pos c2] at h
   refine .condT q (dt c2)<|.seq<|.reg0 q (.o (asV q)<|.nil0) ?_
   replace h:=h.symm
   subst h
   refine .kf [(2,i6 3)] q q ?_
   exact .ret q
  ·rw [if_neg c2] at h
   refine .condF q (df c2)<|.skip<|.seq<|.seq ?_
   refine .reg0 (e1:=listEnv [(1,.ptr 0 1 6 0 0),(34,bo ((decide (a0.States < 0)) || ((decide (a0.States > 4096)) || ((decide (a0.Symbols < 0)) || (decide (a0.Symbols > 4096))))))]) (H1:=[⟨6,[(TPds.lit a0)],0,none⟩]) q ?_ ?_
   ·refine .o (faP fa28_1 q)<|.o (ldP q sz3 ag3 q)<|.o (ltI q q)<|.m q<|?_
    by_cases c3:a0.States < 0
    ·exact (.n q (dt c3)<|.n q (dt c3)<|.n q (dt c3)<|.o (pkTV q (dt c3) q)<|.m q<|.n q q<|.n q q<|.n q q<|.o (pkTV q q q)<|.m q<|.n q q<|.n q q<|.n q q<|.o (pkTV q q q)<|.nilL _ ⟨.ptr q,cB q (mOrT (dt c3)),trivial⟩)
    ·refine .g q (df c3) (faP fa28_1 q)<|.g q (df c3) (ldP q sz3 ag3 q)<|.g q (df c3) (gtI q q)<|.o (pkFV q (df c3) q)<|.m q<|?_
     by_cases c4:a0.States > 4096
     ·exact (.n q (dt c4)<|.n q (dt c4)<|.n q (dt c4)<|.o (pkTV q (dt c4) q)<|.m q<|.n q q<|.n q q<|.n q q<|.o (pkTV q q q)<|.nilL _ ⟨.ptr q,cB q (mOrF (df c3) (mOrT (dt c4))),trivial⟩)
     ·refine .g q (df c4) (faP fa28_2 q)<|.g q (df c4) (ldP q sz3 ag3 q)<|.g q (df c4) (ltI q q)<|.o (pkFV q (df c4) q)<|.m q<|?_
      by_cases c5:a0.Symbols < 0
      ·exact (.n q (dt c5)<|.n q (dt c5)<|.n q (dt c5)<|.o (pkTV q (dt c5) q)<|.nilL _ ⟨.ptr q,cB q (mOrF (df c3) (mOrF (df c4) (mOrT (dt c5)))),trivial⟩)
      ·exact (.g q (df c5) (faP fa28_2 q)<|.g q (df c5) (ldP q sz3 ag3 q)<|.g q (df c5) (gtI q q)<|.o (pkFV q (df c5) q)<|.nilL _ ⟨.ptr q,cB q (mOrF (df c3) (mOrF (df c4) (mOrF (df c5) q))),trivial⟩)
   by_cases c6:((decide (a0.States < 0)) || ((decide (a0.States > 4096)) || ((decide (a0.Symbols < 0)) || (decide (a0.Symbols > 4096)))))=true
   ·rw [if_pos c6] at h
    refine .condT q c6<|.seq<|.reg0 q (.o (asV q)<|.nil0) ?_
    replace h:=h.symm
    subst h
    refine .kf [(2,i6 110)] q q ?_
    exact .ret q
   ·rw [if_neg c6] at h
    refine .condF q (nb c6)<|.skip<|.seq<|.seq<|.reg0 q (.o (asV q)<|.nil0)<|.block<|.keepL [0] [(1,.ptr 0 1 6 0 0),(4,i6 0)] [⟨6,[(TPds.lit a0)],0,none⟩] (by decide) (by decide) ⟨.ptr q,.free q q,trivial⟩ ⟨⟨_,q,bcBox (all2_free q)⟩,trivial⟩ ?_
    obtain ⟨o1,hL1,h⟩:=h
    refine .loopB (r11_Check.b1 a0) (fun x1=>listEnv [(1,.ptr 0 1 6 0 0),(4,i6 x1)]) (fun x1=>[⟨6,[(TPds.lit a0)],0,none⟩]) (fun _=>listEnv [(1,.ptr 0 1 6 0 0)]) (fun _=>[⟨6,[(TPds.lit a0)],0,none⟩]) hL1 (fun r_=>r=r_) ?_ ?_ ?_
    ·rintro ⟨⟩ rfl
     try dsimp only [Fin.on] at h
     refine .seq<|.seq<|.reg0 q (.o (asV q)<|.nil0)<|.block<|.keepL [0] [(1,.ptr 0 1 6 0 0),(5,i6 0)] [⟨6,[(TPds.lit a0)],0,none⟩] (by decide) (by decide) ⟨.ptr q,.free q q,trivial⟩ ⟨⟨_,q,bcBox (all2_free q)⟩,trivial⟩ ?_
     obtain ⟨o2,hL2,h⟩:=h
     refine .loopB (r11_Check.b2 a0) (fun x2=>listEnv [(1,.ptr 0 1 6 0 0),(5,i6 x2)]) (fun x2=>[⟨6,[(TPds.lit a0)],0,none⟩]) (fun _=>listEnv []) (fun _=>[]) hL2 (fun r_=>r=r_) ?_ ?_ ?_
     ·rintro ⟨⟩ rfl
      try dsimp only [Fin.on] at h
      refine .seq<|.reg0 q (.o (asV q)<|.nil0) ?_
      replace h:=h.symm
      subst h
      refine .kf [(2,i6 0)] q q ?_
      exact .ret q
     ·rintro r_ rfl
      exact h
     ·rintro x2 z2 h hn2 hx2 hr2
      dsimp only [r11_Check.b2] at h
      refine .seq<|.seq<|.reg0 q (.o (mvV q)<|.o (faP fa28_3 q)<|.o (ldP q sz26 ag26 q)<|.o (lnR (l:=a0.Rules) sl26 q)<|.o (ltI q q)<|.nil0) ?_
      by_cases c17:x2 < (a0.Rules.length:Int)
      ·rw [if_pos c17] at h
       refine .condT q (dt c17)<|.skip<|.seq<|.block<|.seq ?_
       obtain ⟨g33_5,h⟩:=h
       obtain ⟨t33_8,g33_8,h⟩:=h
       refine .reg1 (e1:=listEnv [(1,.ptr 0 1 6 0 0),(5,i6 x2),(6,i6 t33_8)]) (H1:=[⟨6,[(TPds.lit a0)],0,none⟩]) q ?_ ?_
       ·exact .drawM [(9,6,i6 t33_8),(8,65,i6 t33_8),(7,64,.agg (TWeight.lit ((rdl a0.Rules x2).F))),(6,63,.cptr (TRule.lit (rdl a0.Rules x2)) 4),(5,62,.cptr (TRule.lit (rdl a0.Rules x2)) 0),(4,61,i6 x2),(3,60,.rows (a0.Rules.map TRule.cells)),(2,59,.ptr 0 1 6 0 5),(1,58,.agg (TSpace.lit a0.Space)),(0,57,.ptr 0 1 6 0 0)] [] [[],[0],[],[2],[],[3,2,4],[5,3,2,4],[6,5,3,2,4],[1,0,7,6,5,3,2,4],[8,1,0,7,6,5,3,2,4]] (by rfl) (by rfl) (by rfl) (by exact ⟨oP (fun _=>faP fa28_0 q) q,oP (fun _=>ldG q sz25 ag25 q) q,oP (fun _=>faP fa28_3 q) q,oP (fun _=>ldP q sz26 ag26 q) q,oP (fun _=>mvV q) q,oP (fun _=>ixR (l:=a0.Rules) (lit:=TRule.lit) sl26 q q (fun _=>q) g33_5.1 g33_5.2) q,oP (fun _=>faC fa77_4 q) q,oP (fun _=>ldCG q sz53 ag53 q) q,fun S hS hD hn=>.oneI hS hD hn q q (callee_of q go25 q) (.pure q q (r05_Check.D g33_8)) q q q,oP (fun _=>asV q) q,trivial⟩) _ (by exact ⟨.ptr q,.free q q,.free q q,trivial⟩) (by rfl)
       refine .seq<|.reg0 q (.o (mvV q)<|.o (neI q q)<|.nil0) ?_
       by_cases c18:t33_8=0
       ·rw [if_pos c18] at h
        refine .condF q (nf c18)<|.skip<|.inBlock<|.reg0 q (.o (mvV q)<|.o (addI q q)<|.o (asV q)<|.nil0)<|.keepL [0] [(1,.ptr 0 1 6 0 0),(5,i6 (IntKind.i64.wrap (x2 + 1)))] [⟨6,[(TPds.lit a0)],0,none⟩] (by decide) (by decide) ⟨.ptr q,.free q q,trivial⟩ ⟨⟨_,q,bcBox (all2_free q)⟩,trivial⟩ ?_
        exact hn2 _ h
       ·rw [if_neg c18] at h
        refine .condT q (nt c18)<|.seq<|.reg0 q (.o (mvV q)<|.o (asV q)<|.nil0) ?_
        have q6:=hr2 _ h
        replace q6:=q6.symm
        subst q6
        refine .kf [(2,i6 t33_8)] q q ?_
        exact .ret q
      ·rw [if_neg c17] at h
       refine .condF q (df c17)<|.exit q<|.keepL [] [] [] (by decide) (by decide) trivial trivial ?_
       exact hx2 _ h
    ·rintro r_ rfl
     exact h
    ·rintro x1 z1 h hn1 hx1 hr1
     dsimp only [r11_Check.b1] at h
     refine .seq<|.seq<|.reg0 q (.o (mvV q)<|.o (faP fa28_3 q)<|.o (ldP q sz26 ag26 q)<|.o (lnR (l:=a0.Rules) sl26 q)<|.o (ltI q q)<|.nil0) ?_
     by_cases c11:x1 < (a0.Rules.length:Int)
     ·rw [if_pos c11] at h
      refine .condT q (dt c11)<|.skip<|.seq<|.block<|.seq ?_
      obtain ⟨g18_4,h⟩:=h
      obtain ⟨t18_6,g18_6,h⟩:=h
      refine .reg1 (e1:=listEnv [(1,.ptr 0 1 6 0 0),(4,i6 x1),(49,bo (!t18_6))]) (H1:=[⟨6,[(TPds.lit a0)],0,none⟩]) q ?_ ?_
      ·exact .drawM [(7,49,bo (!t18_6)),(6,48,bo t18_6),(5,47,.agg (TRule.lit (rdl a0.Rules x1))),(4,46,.cptr (TRule.lit (rdl a0.Rules x1)) 0),(3,45,i6 x1),(2,44,.rows (a0.Rules.map TRule.cells)),(1,43,.ptr 0 1 6 0 5),(0,42,.agg (TPds.lit a0))] [] [[],[],[1],[],[2,1,3],[4,2,1,3],[0,5,4,2,1,3],[6,0,5,4,2,1,3]] (by rfl) (by rfl) (by rfl) (by exact ⟨oP (fun _=>ldG q sz28 ag28 q) q,oP (fun _=>faP fa28_3 q) q,oP (fun _=>ldP q sz26 ag26 q) q,oP (fun _=>mvV q) q,oP (fun _=>ixR (l:=a0.Rules) (lit:=TRule.lit) sl26 q q (fun _=>q) g18_4.1 g18_4.2) q,oP (fun _=>ldCG q sz77 ag77 q) q,fun S hS hD hn=>.oneI hS hD hn q q (callee_of q go75 q) (.pure q q (r11_rule.D g18_6)) q q q,oP (fun _=>notB q) q,trivial⟩) _ (by exact ⟨.ptr q,.free q q,.free q q,trivial⟩) (by rfl)
      by_cases c12:t18_6=true
      ·rw [if_pos c12] at h
       refine .condF q (bnotF c12)<|.skip<|.inBlock<|.reg0 q (.o (mvV q)<|.o (addI q q)<|.o (asV q)<|.nil0)<|.keepL [0] [(1,.ptr 0 1 6 0 0),(4,i6 (IntKind.i64.wrap (x1 + 1)))] [⟨6,[(TPds.lit a0)],0,none⟩] (by decide) (by decide) ⟨.ptr q,.free q q,trivial⟩ ⟨⟨_,q,bcBox (all2_free q)⟩,trivial⟩ ?_
       exact hn1 _ h
      ·rw [if_neg c12] at h
       refine .condT q (bnotT (nb c12))<|.seq<|.reg0 q (.o (asV q)<|.nil0) ?_
       have q3:=hr1 _ h
       replace q3:=q3.symm
       subst q3
       refine .kf [(2,i6 110)] q q ?_
       exact .ret q
     ·rw [if_neg c11] at h
      refine .condF q (df c11)<|.exit q<|.keepL [0] [(1,.ptr 0 1 6 0 0)] [⟨6,[(TPds.lit a0)],0,none⟩] (by decide) (by decide) ⟨.ptr q,trivial⟩ ⟨⟨_,q,bcBox (all2_free q)⟩,trivial⟩ ?_
      exact hx1 _ h
 ·rw [if_neg c1] at h
  refine .condT q (nt c1)<|.seq<|.reg0 q (.o (mvV q)<|.o (asV q)<|.nil0) ?_
  replace h:=h.symm
  subst h
  refine .kf [(2,i6 t2_2)] q q ?_
  exact .ret q
def r12_Check.b1 (a0:TPds) (a1:TConf):Int→Rnd Int Unit Int→Prop:=fun x1 z1=>if x1 < (a1.W.length:Int) then (((InR x1 a1.W.length))∧(¬ ((rdl a1.W x1) < 0)→(InR x1 a1.W.length))∧if ((decide ((rdl a1.W x1) < 0)) || (decide ((rdl a1.W x1) ≥ a0.Symbols)))=true then (z1=.ret 120) else (z1=.next (IntKind.i64.wrap (x1 + 1)))) else (z1=.exit ())
def r12_Check.f (a0:TPds) (a1:TConf) (r:Int):Prop :=
 ∃ t2_1:Int,(r11_Check.f a0 t2_1)∧if t2_1=0 then (if ((decide (a1.P < 0)) || ((decide (a1.P ≥ a0.States)) || (decide ((a1.W.length:Int) > 4096))))=true then (r=120) else (∃ o1:Fin Unit Int,Loop (r12_Check.b1 a0 a1) 0 o1∧o1.on (fun _=>r=0) (fun r_=>r=r_))) else (r=t2_1)
abbrev GI_A2:List (List Nat):=[[],[0],[],[1,0,2],[3,1,0,2],[4,3,1,0,2],[5,4,3,1,0,2],[6,5,4,3,1,0,2],[7,6,5,4,3,1,0,2],[6,5,4,3,1,0,2],[8,7,6,5,4,3,1,0,2,9],[10,8,7,6,5,4,3,1,0,2,9],[6,5,4,3,1,0,2],[12,6,5,4,3,1,0,2],[11,10,8,7,6,5,4,3,1,0,2,9,13,12],[6,5,4,3,1,0,2,14,11,10,8,7,9,13,12]]
theorem r12_Check.D {a0 a1 r} (h:r12_Check.f a0 a1 r):D Tryz.prog X (.callH 17 [.agg (TPds.lit a0),.agg (TConf.lit a1)] [] (.val (.int .i64 r)) []):=by
 unfold r12_Check.f at h
 refine .enter 51 0 fn17 q q q<|.seq<|.room 0<|.room 0<|.reg0 q (.o (bxP (s:=6) (cs:=(TPds.lit a0)) q ⟨q,by decide,q⟩ q)<|.op 1 q (bxP (s:=2) (cs:=(TConf.lit a1)) q ⟨q,by decide,q⟩ q)<|.o (asV q)<|.nil0)<|.seq ?_
 obtain ⟨t2_1,g2_1,h⟩:=h
 refine .reg0 q (.o (ldG q sz28 ag28 q)<|.c q go43 q q q (r11_Check.D g2_1)<|.a q<|.nil0)<|.seq<|.seq<|.reg0 q (.o (mvV q)<|.o (neI q q)<|.nil0) ?_
 by_cases c1:t2_1=0
 ·rw [if_pos c1] at h
  refine .condF q (nf c1)<|.skip<|.seq<|.seq ?_
  refine .reg0 (e1:=listEnv [(2,.ptr 0 1 6 0 0),(3,.ptr 1 1 2 0 0),(27,bo ((decide (a1.P < 0)) || ((decide (a1.P ≥ a0.States)) || (decide ((a1.W.length:Int) > 4096)))))]) (H1:=[⟨6,[(TPds.lit a0)],0,none⟩,⟨2,[(TConf.lit a1)],0,none⟩]) q ?_ ?_
  ·refine .o (faP fa36_0 q)<|.o (ldP q sz3 ag3 q)<|.o (ltI q q)<|.m q<|?_
   by_cases c2:a1.P < 0
   ·exact (.n q (dt c2)<|.n q (dt c2)<|.n q (dt c2)<|.n q (dt c2)<|.n q (dt c2)<|.o (pkTV q (dt c2) q)<|.m q<|.n q q<|.n q q<|.n q q<|.n q q<|.o (pkTV q q q)<|.nilL _ ⟨.ptr q,.ptr q,cB q (mOrT (dt c2)),trivial⟩)
   ·refine .g q (df c2) (faP fa36_0 q)<|.g q (df c2) (ldP q sz3 ag3 q)<|.g q (df c2) (faP fa28_1 q)<|.g q (df c2) (ldP q sz3 ag3 q)<|.g q (df c2) (geI q q)<|.o (pkFV q (df c2) q)<|.m q<|?_
    by_cases c3:a1.P ≥ a0.States
    ·exact (.n q (dt c3)<|.n q (dt c3)<|.n q (dt c3)<|.n q (dt c3)<|.o (pkTV q (dt c3) q)<|.nilL _ ⟨.ptr q,.ptr q,cB q (mOrF (df c2) (mOrT (dt c3))),trivial⟩)
    ·exact (.g q (df c3) (faP fa36_1 q)<|.g q (df c3) (ldP q sz29 ag29 q)<|.g q (df c3) (lnR (l:=a1.W) sl29 q)<|.g q (df c3) (gtI q q)<|.o (pkFV q (df c3) q)<|.nilL _ ⟨.ptr q,.ptr q,cB q (mOrF (df c2) (mOrF (df c3) q)),trivial⟩)
  by_cases c4:((decide (a1.P < 0)) || ((decide (a1.P ≥ a0.States)) || (decide ((a1.W.length:Int) > 4096))))=true
  ·rw [if_pos c4] at h
   refine .condT q c4<|.seq<|.reg0 q (.o (asV q)<|.nil0) ?_
   replace h:=h.symm
   subst h
   refine .kf [(4,i6 120)] q q ?_
   exact .ret q
  ·rw [if_neg c4] at h
   refine .condF q (nb c4)<|.skip<|.seq<|.seq<|.reg0 q (.o (asV q)<|.nil0)<|.block<|.keepL [0,1] [(2,.ptr 0 1 6 0 0),(3,.ptr 1 1 2 0 0),(6,i6 0)] [⟨6,[(TPds.lit a0)],0,none⟩,⟨2,[(TConf.lit a1)],0,none⟩] (by decide) (by decide) ⟨.ptr q,.ptr q,.free q q,trivial⟩ ⟨⟨_,q,bcBox (all2_free q)⟩,⟨_,q,bcBox (all2_free q)⟩,trivial⟩ ?_
   obtain ⟨o1,hL1,h⟩:=h
   refine .loopB (r12_Check.b1 a0 a1) (fun x1=>listEnv [(2,.ptr 0 1 6 0 0),(3,.ptr 1 1 2 0 0),(6,i6 x1)]) (fun x1=>[⟨6,[(TPds.lit a0)],0,none⟩,⟨2,[(TConf.lit a1)],0,none⟩]) (fun _=>listEnv []) (fun _=>[]) hL1 (fun r_=>r=r_) ?_ ?_ ?_
   ·rintro ⟨⟩ rfl
    try dsimp only [Fin.on] at h
    refine .seq<|.reg0 q (.o (asV q)<|.nil0) ?_
    replace h:=h.symm
    subst h
    refine .kf [(4,i6 0)] q q ?_
    exact .ret q
   ·rintro r_ rfl
    exact h
   ·rintro x1 z1 h hn1 hx1 hr1
    dsimp only [r12_Check.b1] at h
    refine .seq<|.seq<|.reg0 q (.o (mvV q)<|.o (faP fa36_1 q)<|.o (ldP q sz29 ag29 q)<|.o (lnR (l:=a1.W) sl29 q)<|.o (ltI q q)<|.nil0) ?_
    by_cases c11:x1 < (a1.W.length:Int)
    ·rw [if_pos c11] at h
     refine .condT q (dt c11)<|.skip<|.seq<|.block<|.seq ?_
     obtain ⟨g16_3,h⟩:=h
     obtain ⟨g16_10,h⟩:=h
     refine .reg1 (e1:=listEnv [(2,.ptr 0 1 6 0 0),(3,.ptr 1 1 2 0 0),(6,i6 x1),(50,bo ((decide ((rdl a1.W x1) < 0)) || (decide ((rdl a1.W x1) ≥ a0.Symbols))))]) (H1:=[⟨6,[(TPds.lit a0)],0,none⟩,⟨2,[(TConf.lit a1)],0,none⟩]) q ?_ ?_
     ·by_cases c12:(rdl a1.W x1) < 0
      ·exact .drawM [(15,50,bo true),(14,49,und),(13,48,und),(12,47,und),(11,46,und),(10,45,und),(9,44,und),(8,43,und),(7,42,und),(6,41,bo (decide ((rdl a1.W x1) < 0))),(5,40,bo (decide ((rdl a1.W x1) < 0))),(4,39,i6 (rdl a1.W x1)),(3,38,.cptr ((cInt .i64) (rdl a1.W x1)) 0),(2,37,i6 x1),(1,36,.rows (a1.W.map (cInt .i64))),(0,35,.ptr 1 1 2 0 1)] [] GI_A2 (by rfl) (by rfl) (by rfl) (by exact ⟨oP (fun _=>faP fa36_1 q) q,oP (fun _=>ldP q sz29 ag29 q) q,oP (fun _=>mvV q) q,oP (fun _=>ixR (l:=a1.W) (lit:=(cInt .i64)) sl29 q q (fun _=>q) g16_3.1 g16_3.2) q,oP (fun _=>ldC q sz3 ag3 q) q,oP (fun _=>ltI q q) q,oP (fun _=>mvV q) q,oN q (fun _=>q) (dt c12) q,oN q (fun _=>q) (dt c12) q,oN q (fun _=>q) (dt c12) q,oN q (fun _=>q) (dt c12) q,oN q (fun _=>q) (dt c12) q,oN q (fun _=>q) (dt c12) q,oN q (fun _=>q) (dt c12) q,oN q (fun _=>q) (dt c12) q,oP (fun _=>pkTV q (dt c12) q) q,trivial⟩) _ (by exact ⟨.ptr q,.ptr q,.free q q,cB q (mOrT (dt c12)),trivial⟩) (by rfl)
      ·exact .drawM [(15,50,bo (decide ((rdl a1.W x1) ≥ a0.Symbols))),(14,49,bo (decide ((rdl a1.W x1) ≥ a0.Symbols))),(13,48,i6 a0.Symbols),(12,47,.ptr 0 1 6 0 4),(11,46,i6 (rdl a1.W x1)),(10,45,.cptr ((cInt .i64) (rdl a1.W x1)) 0),(9,44,i6 x1),(8,43,.rows (a1.W.map (cInt .i64))),(7,42,.ptr 1 1 2 0 1),(6,41,bo (decide ((rdl a1.W x1) < 0))),(5,40,bo (decide ((rdl a1.W x1) < 0))),(4,39,i6 (rdl a1.W x1)),(3,38,.cptr ((cInt .i64) (rdl a1.W x1)) 0),(2,37,i6 x1),(1,36,.rows (a1.W.map (cInt .i64))),(0,35,.ptr 1 1 2 0 1)] [] GI_A2 (by rfl) (by rfl) (by rfl) (by exact ⟨oP (fun _=>faP fa36_1 q) q,oP (fun _=>ldP q sz29 ag29 q) q,oP (fun _=>mvV q) q,oP (fun _=>ixR (l:=a1.W) (lit:=(cInt .i64)) sl29 q q (fun _=>q) g16_3.1 g16_3.2) q,oP (fun _=>ldC q sz3 ag3 q) q,oP (fun _=>ltI q q) q,oP (fun _=>mvV q) q,oG q (fun _=>q) (df c12) (fun _=>faP fa36_1 q) q,oG q (fun _=>q) (df c12) (fun _=>ldP q sz29 ag29 q) q,oG q (fun _=>q) (df c12) (fun _=>mvV q) q,oG q (fun _=>q) (df c12) (fun _=>ixR (l:=a1.W) (lit:=(cInt .i64)) sl29 q q (fun _=>q) (g16_10 c12).1 (g16_10 c12).2) q,oG q (fun _=>q) (df c12) (fun _=>ldC q sz3 ag3 q) q,oG q (fun _=>q) (df c12) (fun _=>faP fa28_2 q) q,oG q (fun _=>q) (df c12) (fun _=>ldP q sz3 ag3 q) q,oG q (fun _=>q) (df c12) (fun _=>geI q q) q,oP (fun _=>pkFV q (df c12) q) q,trivial⟩) _ (by exact ⟨.ptr q,.ptr q,.free q q,cB q (mOrF (df c12) q),trivial⟩) (by rfl)
     by_cases c13:((decide ((rdl a1.W x1) < 0)) || (decide ((rdl a1.W x1) ≥ a0.Symbols)))=true
     ·rw [if_pos c13] at h
      refine .condT q c13<|.seq<|.reg0 q (.o (asV q)<|.nil0) ?_
      have q3:=hr1 _ h
      replace q3:=q3.symm
      subst q3
      refine .kf [(4,i6 120)] q q ?_
      exact .ret q
     ·rw [if_neg c13] at h
      refine .condF q (nb c13)<|.skip<|.inBlock<|.reg0 q (.o (mvV q)<|.o (addI q q)<|.o (asV q)<|.nil0)<|.keepL [0,1] [(2,.ptr 0 1 6 0 0),(3,.ptr 1 1 2 0 0),(6,i6 (IntKind.i64.wrap (x1 + 1)))] [⟨6,[(TPds.lit a0)],0,none⟩,⟨2,[(TConf.lit a1)],0,none⟩] (by decide) (by decide) ⟨.ptr q,.ptr q,.free q q,trivial⟩ ⟨⟨_,q,bcBox (all2_free q)⟩,⟨_,q,bcBox (all2_free q)⟩,trivial⟩ ?_
      exact hn1 _ h
    ·rw [if_neg c11] at h
     refine .condF q (df c11)<|.exit q<|.keepL [] [] [] (by decide) (by decide) trivial trivial ?_
     exact hx1 _ h
 ·rw [if_neg c1] at h
  refine .condT q (nt c1)<|.seq<|.reg0 q (.o (mvV q)<|.o (asV q)<|.nil0) ?_
  replace h:=h.symm
  subst h
  refine .kf [(4,i6 t2_1)] q q ?_
  exact .ret q
end Go.RM.Tryz
