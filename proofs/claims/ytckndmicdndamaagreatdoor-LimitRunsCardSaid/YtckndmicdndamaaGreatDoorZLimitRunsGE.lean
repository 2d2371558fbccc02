/- GE, for the statement LimitRuns: what it needs, no more. -/
import Derived.Test.YtckndmicdndamaaGreatDoorZLimitRunsGD
set_option linter.unusedVariables false
set_option maxRecDepth 8000
set_option maxHeartbeats 4000000
namespace Go.RM.Tryz
open Go.RM Go.Proofs
def slices_Concat_int.b1 (a0:List (List Int)):(Int × Int)→Rnd ((Int × Int)) Int ((List Int))→Prop:=fun (x1,x2) z1=>if x2 < (a0.length:Int) then (((InR x2 a0.length))∧if (IntKind.i64.wrap (x1 + ((rdl a0 x2).length:Int))) < 0 then (False) else (z1=.next ((IntKind.i64.wrap (x1 + ((rdl a0 x2).length:Int))),(IntKind.i64.wrap (x2 + 1))))) else (z1=.exit x1)
def slices_Concat_int.b2 (a0:List (List Int)):((List Int) × Int)→Rnd (((List Int) × Int)) ((List Int)) ((List Int))→Prop:=fun (x4,x5) z2=>if x5 < (a0.length:Int) then (((InR x5 a0.length))∧((Fits (x4.length + (rdl a0 x5).length) 8))∧z2=.next ((x4 ++ (rdl a0 x5)),(IntKind.i64.wrap (x5 + 1)))) else (z2=.exit x4)
def slices_Concat_int.f (a0:List (List Int)) (r:(List Int)):Prop :=
 ∃ o1:Fin Int ((List Int)),Loop (slices_Concat_int.b1 a0) (0,0) o1∧o1.on (fun x3=>∃ t28_1:(List Int),(slices_Grow_int_o0.f x3 t28_1)∧∃ o2:Fin ((List Int)) ((List Int)),Loop (slices_Concat_int.b2 a0) (t28_1,0) o2∧o2.on (fun x6=>r=x6) (fun r_=>r=r_)) (fun r_=>r=r_)
abbrev GE_c0:List PV:=[bo false,i6 0,u6 0,nul,nul,nul]
abbrev GE_c1:List PV:=[bo true,i6 0,u6 0,nul,nul,nul]
abbrev GE_c2:List PV:=[bo false,i6 0,u6 0,.rows (([]:List Int).map (cInt .u64)),.rows (([]:List TCell).map TCell.cells),.rows (([]:List TWeight).map TWeight.cells)]
theorem slices_Concat_int.D {a0 r} (h:slices_Concat_int.f a0 r):D Tryz.prog X (.callH 103 [.rows (a0.map (cSl (cInt .i64)))] [] (.rows (r.map (cInt .i64))) []):=by
 unfold slices_Concat_int.f at h
 refine .enter 36 0 fn103 q q q<|.seq<|.reg0 q (.o (asV q)<|.nil0)<|.seq<|.reg0 q (.o (asV q)<|.nil0)<|.seq<|.seq<|.reg0 q (.o (mvR q)<|.o (lnR (l:=a0) sl40 q)<|.o (mvV q)<|.nil0)<|.block<|.keepL [] [(0,.rows (a0.map (cSl (cInt .i64)))),(3,i6 0),(9,.rows (a0.map (cSl (cInt .i64)))),(10,i6 (a0.length:Int)),(11,i6 0)] [] (by decide) (by decide) ⟨.free q q,.free q q,.free q q,.free q q,.free q q,trivial⟩ trivial ?_
 obtain ⟨o1,hL1,h⟩:=h
 refine .loopB (slices_Concat_int.b1 a0) (fun (x1,x2)=>listEnv [(0,.rows (a0.map (cSl (cInt .i64)))),(3,i6 x1),(9,.rows (a0.map (cSl (cInt .i64)))),(10,i6 (a0.length:Int)),(11,i6 x2)]) (fun (x1,x2)=>[]) (fun x3=>listEnv [(0,.rows (a0.map (cSl (cInt .i64)))),(3,i6 x3)]) (fun x3=>[]) hL1 (fun r_=>r=r_) ?_ ?_ ?_
 ·rintro x3 rfl
  try dsimp only [Fin.on] at h
  refine .seq ?_
  obtain ⟨t28_1,g28_1,h⟩:=h
  refine .room 0<|.reg0 q (.o (mvV q)<|.callI q (callee_of q go140 q) (.focus (args':=[nul,i6 x3]) (H0:=[]) (Hc:=[⟨1,t28_1.map (cInt .i64),0,none⟩]) (Hd:=[⟨1,t28_1.map (cInt .i64),0,none⟩]) [] [] [0] false (.cons (.free q q)<|.cons (.free q q)<|.nil) (HConvL.heap trivial) (by decide) q q (slices_Grow_int_o0.D g28_1) (.own q) (.cons (bcRow (l:=t28_1) sl29 (Nat.le_refl _) q)<|.nil) q (.inr (.inl q)) q)<|.o (asO q)<|.nil0) ?_
  refine .seq<|.seq<|.reg0 q (.o (mvR q)<|.o (lnR (l:=a0) sl40 q)<|.o (mvV q)<|.nil0)<|.block<|.keepL [0] [(6,.own 0 t28_1.length),(25,.rows (a0.map (cSl (cInt .i64)))),(26,i6 (a0.length:Int)),(27,i6 0)] [⟨1,t28_1.map (cInt .i64),0,none⟩] (by decide) (by decide) ⟨.own q,.free q q,.free q q,.free q q,trivial⟩ ⟨⟨_,q,bcRow (l:=t28_1) sl29 (Nat.le_refl _) q⟩,trivial⟩ ?_
  obtain ⟨o2,hL2,h⟩:=h
  refine .loopB (slices_Concat_int.b2 a0) (fun (x4,x5)=>listEnv [(6,.own 0 x4.length),(25,.rows (a0.map (cSl (cInt .i64)))),(26,i6 (a0.length:Int)),(27,i6 x5)]) (fun (x4,x5)=>[⟨1,x4.map (cInt .i64),0,none⟩]) (fun x6=>listEnv [(6,.own 0 x6.length)]) (fun x6=>[⟨1,x6.map (cInt .i64),0,none⟩]) hL2 (fun r_=>r=r_) ?_ ?_ ?_
  ·rintro x6 rfl
   try dsimp only [Fin.on] at h
   refine .seq<|.reg0 q (.o (mvO q)<|.o (asO q)<|.nil0) ?_
   replace h:=h.symm
   subst h
   refine .k [(2,.rows (x6.map (cInt .i64)))] ⟨cFixO (l:=x6) sl29 q q q q,trivial⟩ ?_
   exact .ret q
  ·rintro r_ rfl
   exact h
  ·rintro ⟨x4,x5⟩ z2 h hn2 hx2 hr2
   dsimp only [slices_Concat_int.b2] at h
   refine .seq<|.reg0 q (.o (ltI q q)<|.nil0)<|.seq ?_
   by_cases c18:x5 < (a0.length:Int)
   ·rw [if_pos c18] at h
    refine .condT q (dt c18)<|.skip<|.seq<|.block<|.seq ?_
    obtain ⟨g39_0,h⟩:=h
    refine .reg0 q (.o (ixR (l:=a0) (lit:=(cSl (cInt .i64))) sl40 q q (fun _=>q) g39_0.1 g39_0.2)<|.o (ldC q sz29 ag29 q)<|.o (asR q)<|.nil0) ?_
    obtain ⟨g40_2,h⟩:=h
    refine .room 0<|.reg0 q (.o (mvO q)<|.o (mvR q)<|.o (apL (l:=x4) (rdl a0 x5) sl29 q q q (Nat.zero_le _) q g40_2)<|.o (asO q)<|.nil0)<|.inBlock<|.reg0 q (.o (addI q q)<|.o (mvV q)<|.nil0)<|.keepL [0] [(6,.own 0 ((x4 ++ (rdl a0 x5)).length)),(25,.rows (a0.map (cSl (cInt .i64)))),(26,i6 (a0.length:Int)),(27,i6 (IntKind.i64.wrap (x5 + 1)))] [⟨1,(x4 ++ (rdl a0 x5)).map (cInt .i64),0,none⟩] (by decide) (by decide) ⟨.own q,.free q q,.free q q,.free q q,trivial⟩ ⟨⟨_,q,bcRow (l:=(x4 ++ (rdl a0 x5))) sl29 (Nat.le_refl _) q⟩,trivial⟩ ?_
    exact hn2 _ h
   ·rw [if_neg c18] at h
    refine .condF q (df c18)<|.exit q<|.keepL [0] [(6,.own 0 x4.length)] [⟨1,x4.map (cInt .i64),0,none⟩] (by decide) (by decide) ⟨.own q,trivial⟩ ⟨⟨_,q,bcRow (l:=x4) sl29 (Nat.le_refl _) q⟩,trivial⟩ ?_
    exact hx2 _ h
 ·rintro r_ rfl
  exact h
 ·rintro ⟨x1,x2⟩ z1 h hn1 hx1 hr1
  dsimp only [slices_Concat_int.b1] at h
  refine .seq<|.reg0 q (.o (ltI q q)<|.nil0)<|.seq ?_
  by_cases c11:x2 < (a0.length:Int)
  ·rw [if_pos c11] at h
   refine .condT q (dt c11)<|.skip<|.seq<|.block<|.seq ?_
   obtain ⟨g24_0,h⟩:=h
   refine .reg0 q (.o (ixR (l:=a0) (lit:=(cSl (cInt .i64))) sl40 q q (fun _=>q) g24_0.1 g24_0.2)<|.o (ldC q sz29 ag29 q)<|.o (asR q)<|.nil0)<|.seq<|.reg0 q (.o (mvV q)<|.o (mvR q)<|.o (lnR (l:=(rdl a0 x2)) sl29 q)<|.o (addI q q)<|.o (asV q)<|.nil0)<|.seq<|.reg0 q (.o (mvV q)<|.o (ltI q q)<|.nil0) ?_
   by_cases c15:(IntKind.i64.wrap (x1 + ((rdl a0 x2).length:Int))) < 0
   ·rw [if_pos c15] at h
    refine .condT q (dt c15) ?_
    exact h.elim
   ·rw [if_neg c15] at h
    refine .condF q (df c15)<|.skip<|.inBlock<|.reg0 q (.o (addI q q)<|.o (mvV q)<|.nil0)<|.kf [(0,.rows (a0.map (cSl (cInt .i64)))),(3,i6 (IntKind.i64.wrap (x1 + ((rdl a0 x2).length:Int)))),(9,.rows (a0.map (cSl (cInt .i64)))),(10,i6 (a0.length:Int)),(11,i6 (IntKind.i64.wrap (x2 + 1)))] q q ?_
    exact hn1 _ h
  ·rw [if_neg c11] at h
   refine .condF q (df c11)<|.exit q<|.keepL [] [(0,.rows (a0.map (cSl (cInt .i64)))),(3,i6 x1)] [] (by decide) (by decide) ⟨.free q q,.free q q,trivial⟩ trivial ?_
   exact hx1 _ h
def steps_next.f (a0:TRule) (a1:TConf) (r:TConf × Bool × Int):Prop :=
 ((a1.P=a0.P)→¬ ((a1.W.length:Int)=0)→(InR 0 a1.W.length))∧if ((!(a1.P == a0.P)) || (((a1.W.length:Int) == 0) || ((rdl a1.W 0) != a0.G)))=true then (r=(a1,false,0)) else (if (IntKind.i64.wrap ((IntKind.i64.wrap ((a1.W.length:Int) - 1)) + (a0.W.length:Int))) > 4096 then (r=(a1,true,2)) else (((Cut 1 (a1.W.length:Int) a1.W.length))∧∃ t6_8:(List Int),(slices_Concat_int.f [a0.W,(cutl a1.W 1 (a1.W.length:Int))] t6_8)∧r=((TConf.mk a0.Q t6_8),true,0)))
abbrev GE_A0:List (List Nat):=[[],[0],[],[2],[1,0,3,2],[4,1,0,3,2],[5,4,1,0,3,2],[6,5,4,1,0,3,2],[7,6,5,4,1,0,3,2],[8,7,6,5,4,1,0,3,2],[5,4,1,0,3,2,9,8,7,6],[10,5,4,1,0,3,2,9,8,7,6],[11,10,5,4,1,0,3,2,9,8,7,6],[12,11,10,5,4,1,0,3,2,9,8,7,6],[13,12,11,10,5,4,1,0,3,2,9,8,7,6],[14,13,12,11,10,5,4,1,0,3,2,9,8,7,6],[11,10,5,4,1,0,3,2,9,8,7,6],[16,11,10,5,4,1,0,3,2,9,8,7,6],[15,14,13,12,11,10,5,4,1,0,3,2,9,8,7,6,17,16],[11,10,5,4,1,0,3,2,9,8,7,6,18,15,14,13,12,17,16]]
theorem steps_next.D {a0 a1 r} (h:steps_next.f a0 a1 r):D Tryz.prog X (.callH 63 [.agg (TRule.lit a0),.agg (TConf.lit a1)] [] (.tuple [.agg (TConf.lit r.1),.val (.bool r.2.1),.val (.int .i64 r.2.2)]) []):=by
 unfold steps_next.f at h
 refine .enter 48 0 fn63 q q q<|.seq<|.room 0<|.room 0<|.room 0<|.reg0 q (.o (bxP (s:=10) (cs:=(TRule.lit a0)) q ⟨q,by decide,q⟩ q)<|.op 1 q (bxP (s:=2) (cs:=(TConf.lit a1)) q ⟨q,by decide,q⟩ q)<|.op 2 q (alP (s:=2) ze36 ⟨q,by decide,q⟩ q)<|.o (asV q)<|.o (asV q)<|.nil0)<|.seq<|.seq ?_
 obtain ⟨g2_14,h⟩:=h
 refine .reg1 (e1:=listEnv [(2,.ptr 0 1 10 0 0),(3,.ptr 1 1 2 0 0),(4,.ptr 2 1 2 0 0),(26,bo ((!(a1.P == a0.P)) || (((a1.W.length:Int) == 0) || ((rdl a1.W 0) != a0.G))))]) (H1:=[⟨10,[(TRule.lit a0)],0,none⟩,⟨2,[(TConf.lit a1)],0,none⟩,⟨2,[[i6 0,nul]],0,none⟩]) q ?_ ?_
 ·by_cases c1:a1.P=a0.P
  ·by_cases c2:(a1.W.length:Int)=0
   ·exact .drawM [(19,26,bo true),(18,25,und),(17,24,und),(16,23,und),(15,22,und),(14,21,und),(13,20,und),(12,19,und),(11,18,bo ((a1.W.length:Int) == 0)),(10,17,bo ((a1.W.length:Int) == 0)),(9,16,bo ((a1.W.length:Int) == 0)),(8,15,i6 (a1.W.length:Int)),(7,14,.rows (a1.W.map (cInt .i64))),(6,13,.ptr 1 1 2 0 1),(5,12,bo (a1.P != a0.P)),(4,11,bo (a1.P != a0.P)),(3,10,i6 a0.P),(2,9,.ptr 0 1 10 0 0),(1,8,i6 a1.P),(0,7,.ptr 1 1 2 0 0)] [] GE_A0 (by rfl) (by rfl) (by rfl) (by exact ⟨oP (fun _=>faP fa36_0 q) q,oP (fun _=>ldP q sz3 ag3 q) q,oP (fun _=>faP fa77_0 q) q,oP (fun _=>ldP q sz3 ag3 q) q,oP (fun _=>neI q q) q,oP (fun _=>mvV q) q,oG q (fun _=>q) (nf c1) (fun _=>faP fa36_1 q) q,oG q (fun _=>q) (nf c1) (fun _=>ldP q sz29 ag29 q) q,oG q (fun _=>q) (nf c1) (fun _=>lnR (l:=a1.W) sl29 q) q,oG q (fun _=>q) (nf c1) (fun _=>eqI q q) q,oP (fun _=>pkFV q (nf c1) q) q,oP (fun _=>mvV q) q,oN q (fun _=>q) (bt c2) q,oN q (fun _=>q) (bt c2) q,oN q (fun _=>q) (bt c2) q,oN q (fun _=>q) (bt c2) q,oN q (fun _=>q) (bt c2) q,oN q (fun _=>q) (bt c2) q,oN q (fun _=>q) (bt c2) q,oP (fun _=>pkTV q (bt c2) q) q,trivial⟩) _ (by exact ⟨.ptr q,.ptr q,.ptr q,cB q (mOrF (bnotF (bt c1)) (mOrT (bt c2))),trivial⟩) (by rfl)
   ·exact .drawM [(19,26,bo ((rdl a1.W 0) != a0.G)),(18,25,bo ((rdl a1.W 0) != a0.G)),(17,24,i6 a0.G),(16,23,.ptr 0 1 10 0 1),(15,22,i6 (rdl a1.W 0)),(14,21,.cptr ((cInt .i64) (rdl a1.W 0)) 0),(13,20,.rows (a1.W.map (cInt .i64))),(12,19,.ptr 1 1 2 0 1),(11,18,bo ((a1.W.length:Int) == 0)),(10,17,bo ((a1.W.length:Int) == 0)),(9,16,bo ((a1.W.length:Int) == 0)),(8,15,i6 (a1.W.length:Int)),(7,14,.rows (a1.W.map (cInt .i64))),(6,13,.ptr 1 1 2 0 1),(5,12,bo (a1.P != a0.P)),(4,11,bo (a1.P != a0.P)),(3,10,i6 a0.P),(2,9,.ptr 0 1 10 0 0),(1,8,i6 a1.P),(0,7,.ptr 1 1 2 0 0)] [] GE_A0 (by rfl) (by rfl) (by rfl) (by exact ⟨oP (fun _=>faP fa36_0 q) q,oP (fun _=>ldP q sz3 ag3 q) q,oP (fun _=>faP fa77_0 q) q,oP (fun _=>ldP q sz3 ag3 q) q,oP (fun _=>neI q q) q,oP (fun _=>mvV q) q,oG q (fun _=>q) (nf c1) (fun _=>faP fa36_1 q) q,oG q (fun _=>q) (nf c1) (fun _=>ldP q sz29 ag29 q) q,oG q (fun _=>q) (nf c1) (fun _=>lnR (l:=a1.W) sl29 q) q,oG q (fun _=>q) (nf c1) (fun _=>eqI q q) q,oP (fun _=>pkFV q (nf c1) q) q,oP (fun _=>mvV q) q,oG q (fun _=>q) (bn c2) (fun _=>faP fa36_1 q) q,oG q (fun _=>q) (bn c2) (fun _=>ldP q sz29 ag29 q) q,oG q (fun _=>q) (bn c2) (fun _=>ixR (l:=a1.W) (lit:=(cInt .i64)) sl29 q q (fun _=>q) (g2_14 c1 c2).1 (g2_14 c1 c2).2) q,oG q (fun _=>q) (bn c2) (fun _=>ldC q sz3 ag3 q) q,oG q (fun _=>q) (bn c2) (fun _=>faP fa77_1 q) q,oG q (fun _=>q) (bn c2) (fun _=>ldP q sz3 ag3 q) q,oG q (fun _=>q) (bn c2) (fun _=>neI q q) q,oP (fun _=>pkFV q (bn c2) q) q,trivial⟩) _ (by exact ⟨.ptr q,.ptr q,.ptr q,cB q (mOrF (bnotF (bt c1)) (mOrF (bn c2) q)),trivial⟩) (by rfl)
  ·exact .drawM [(19,26,bo true),(18,25,und),(17,24,und),(16,23,und),(15,22,und),(14,21,und),(13,20,und),(12,19,und),(11,18,bo true),(10,17,bo true),(9,16,und),(8,15,und),(7,14,und),(6,13,und),(5,12,bo (a1.P != a0.P)),(4,11,bo (a1.P != a0.P)),(3,10,i6 a0.P),(2,9,.ptr 0 1 10 0 0),(1,8,i6 a1.P),(0,7,.ptr 1 1 2 0 0)] [] GE_A0 (by rfl) (by rfl) (by rfl) (by exact ⟨oP (fun _=>faP fa36_0 q) q,oP (fun _=>ldP q sz3 ag3 q) q,oP (fun _=>faP fa77_0 q) q,oP (fun _=>ldP q sz3 ag3 q) q,oP (fun _=>neI q q) q,oP (fun _=>mvV q) q,oN q (fun _=>q) (nt c1) q,oN q (fun _=>q) (nt c1) q,oN q (fun _=>q) (nt c1) q,oN q (fun _=>q) (nt c1) q,oP (fun _=>pkTV q (nt c1) q) q,oP (fun _=>mvV q) q,oN q (fun _=>q) q q,oN q (fun _=>q) q q,oN q (fun _=>q) q q,oN q (fun _=>q) q q,oN q (fun _=>q) q q,oN q (fun _=>q) q q,oN q (fun _=>q) q q,oP (fun _=>pkTV q q q) q,trivial⟩) _ (by exact ⟨.ptr q,.ptr q,.ptr q,cB q (mOrT (bnotT (bn c1))),trivial⟩) (by rfl)
 by_cases c3:((!(a1.P == a0.P)) || (((a1.W.length:Int) == 0) || ((rdl a1.W 0) != a0.G)))=true
 ·rw [if_pos c3] at h
  refine .condT q c3<|.seq<|.reg0 q (.o (ldG q sz36 ag36 q)<|.o (stB (cs0:=[i6 0,nul]) (cs:=(TConf.lit a1)) (cs1:=(TConf.lit a1)) q q sz36 q ⟨Nat.le_of_ble_eq_true q,q⟩ q)<|.o (asV q)<|.o (asV q)<|.nil0) ?_
  replace h:=h.symm
  subst h
  refine .k [(4,.cptr (TConf.lit a1) 0),(5,bo false),(6,i6 0)] ⟨cFixP q q (.cons (.free q q)<|.cons (.free q q)<|.nil),.free q q,.free q q,trivial⟩ ?_
  exact .ret q
 ·rw [if_neg c3] at h
  refine .condF q (nb c3)<|.skip<|.seq<|.seq<|.reg0 q (.o (faP fa36_1 q)<|.o (ldP q sz29 ag29 q)<|.o (lnR (l:=a1.W) sl29 q)<|.o (subI q q)<|.o (faP fa77_3 q)<|.o (ldP q sz29 ag29 q)<|.o (lnR (l:=a0.W) sl29 q)<|.o (addI q q)<|.o (gtI q q)<|.nil0) ?_
  by_cases c4:(IntKind.i64.wrap ((IntKind.i64.wrap ((a1.W.length:Int) - 1)) + (a0.W.length:Int))) > 4096
  ·rw [if_pos c4] at h
   refine .condT q (dt c4)<|.seq<|.reg0 q (.o (ldG q sz36 ag36 q)<|.o (stB (cs0:=[i6 0,nul]) (cs:=(TConf.lit a1)) (cs1:=(TConf.lit a1)) q q sz36 q ⟨Nat.le_of_ble_eq_true q,q⟩ q)<|.o (asV q)<|.o (asV q)<|.nil0) ?_
   replace h:=h.symm
   subst h
   refine .k [(4,.cptr (TConf.lit a1) 0),(5,bo true),(6,i6 2)] ⟨cFixP q q (.cons (.free q q)<|.cons (.free q q)<|.nil),.free q q,.free q q,trivial⟩ ?_
   exact .ret q
  ·rw [if_neg c4] at h
   refine .condF q (df c4)<|.skip<|.seq ?_
   obtain ⟨g6_6,h⟩:=h
   obtain ⟨t6_8,g6_8,h⟩:=h
   refine .room 0 ?_
   refine .reg1 (e1:=listEnv [(4,.ptr 2 1 2 0 0),(5,bo true),(6,i6 0)]) (H1:=[⟨10,[(TRule.lit a0)],0,none⟩,⟨2,[(TConf.lit a1)],0,none⟩,⟨2,[[i6 a0.Q,.rows (t6_8.map (cInt .i64))]],0,none⟩,⟨1,[a0.W,(cutl a1.W 1 (a1.W.length:Int))].map (cSl (cInt .i64)),(max 0 ([a0.W,(cutl a1.W 1 (a1.W.length:Int))].map (cSl (cInt .i64)):List (List PV)).length),none⟩]) q ?_ ?_
   ·exact .drawM [(12,6,i6 0),(11,5,bo true),(9,47,.agg [i6 a0.Q,.rows (t6_8.map (cInt .i64))]),(8,46,.rows (t6_8.map (cInt .i64))),(7,45,.own 3 ([a0.W,(cutl a1.W 1 (a1.W.length:Int))].length)),(6,44,.rows ((cutl a1.W 1 (a1.W.length:Int)).map (cInt .i64))),(5,43,.rows (a1.W.map (cInt .i64))),(4,42,.ptr 1 1 2 0 1),(3,41,.rows (a0.W.map (cInt .i64))),(2,40,.ptr 0 1 10 0 3),(1,39,i6 a0.Q),(0,38,.ptr 0 1 10 0 2)] [(10,2,⟨2,[[i6 a0.Q,.rows (t6_8.map (cInt .i64))]],0,none⟩),(8,3,⟨1,[a0.W,(cutl a1.W 1 (a1.W.length:Int))].map (cSl (cInt .i64)),(max 0 ([a0.W,(cutl a1.W 1 (a1.W.length:Int))].map (cSl (cInt .i64)):List (List PV)).length),none⟩),(7,3,⟨1,[a0.W,(cutl a1.W 1 (a1.W.length:Int))].map (cSl (cInt .i64)),0,none⟩)] [[],[0],[],[2],[],[4],[5,4],[3,2,6,5,4],[7,3,2,6,5,4],[1,0,8,7,3,2,6,5,4],[9,1,0,8,7,3,2,6,5,4],[10,9,1,0,8,7,3,2,6,5,4],[11,10,9,1,0,8,7,3,2,6,5,4]] (by rfl) (by rfl) (by rfl) (by exact ⟨oP (fun _=>faP fa77_2 q) q,oP (fun _=>ldP q sz3 ag3 q) q,oP (fun _=>faP fa77_3 q) q,oP (fun _=>ldP q sz29 ag29 q) q,oP (fun _=>faP fa36_1 q) q,oP (fun _=>ldP q sz29 ag29 q) q,oP (fun _=>slR (l:=a1.W) (v:=Int.toNat 1) sl29 q (bound_some q g6_6.1) bound_nl (cut_le' g6_6) (Nat.le_refl _)) q,oW 3 (fun _=>bldL (s:=1) (cs:=[.rows (a0.W.map (cInt .i64)),.rows ((cutl a1.W 1 (a1.W.length:Int)).map (cInt .i64))]) un40 sz29 ze29 ⟨by decide,q,by decide⟩ q q q q) q fun _=>q,fun S hS hD hn=>.oneI hS hD hn q q (callee_of q go103 q) (.lendC (args':=[.rows ([a0.W,(cutl a1.W 1 (a1.W.length:Int))].map (cSl (cInt .i64)))])  [3] true (.cons (cFixO (l:=[a0.W,(cutl a1.W 1 (a1.W.length:Int))]) sl40 q q q q)<|.nil) (by decide) q q q q (slices_Concat_int.D g6_8)) q q q,oP (fun _=>bldS (cs:=[i6 a0.Q,.rows (t6_8.map (cInt .i64))]) ze36 pl36 q q) q,fun S hS hD hn=>.one0 0 q q (stB (cs0:=[i6 0,nul]) (cs:=[i6 a0.Q,.rows (t6_8.map (cInt .i64))]) (cs1:=[i6 a0.Q,.rows (t6_8.map (cInt .i64))]) q q sz36 q ⟨Nat.le_of_ble_eq_true q,q⟩ q) (drawE_other _ _ _ _ q) q,oP (fun _=>asV q) q,oP (fun _=>asV q) q,trivial⟩) _ (by exact ⟨.ptr q,.free q q,.free q q,trivial⟩) (by rfl)
   replace h:=h.symm
   subst h
   refine .k [(4,.cptr [i6 a0.Q,.rows (t6_8.map (cInt .i64))] 0),(5,bo true),(6,i6 0)] ⟨cFixP q q (.cons (.free q q)<|.cons (.free q q)<|.nil),.free q q,.free q q,trivial⟩ ?_
   exact .ret q
def steps_Next.f (a0:TPds) (a1:TConf) (r:(List Int) × (List TConf) × Int):Prop :=
 ∃ t2_2:(List Int) × (List TConf) × Int,(steps_all.f a0 a1 (fun x0_ x1_ y_=>steps_next.f x0_ x1_ y_) t2_2)∧r=(t2_2.1,t2_2.2.1,t2_2.2.2)
theorem steps_Next.D {a0 a1 r} (h:steps_Next.f a0 a1 r):D Tryz.prog X (.callH 33 [.agg (TPds.lit a0),.agg (TConf.lit a1)] [] (.tuple [.rows (r.1.map (cInt .i64)),.rows (r.2.1.map TConf.cells),.val (.int .i64 r.2.2)]) []):=by
 unfold steps_Next.f at h
 refine .enter 13 0 fn33 q q q<|.seq<|.room 0<|.room 0<|.reg0 q (.o (bxP (s:=6) (cs:=(TPds.lit a0)) q ⟨q,by decide,q⟩ q)<|.op 1 q (bxP (s:=2) (cs:=(TConf.lit a1)) q ⟨q,by decide,q⟩ q)<|.o (asV q)<|.o (asV q)<|.o (asV q)<|.nil0)<|.seq ?_
 obtain ⟨t2_2,g2_2,h⟩:=h
 refine .reg0 q (.o (ldG q sz28 ag28 q)<|.o (ldG q sz36 ag36 q)<|.c q go62 q q q (steps_all.D (k2_:=[]) go63 q q (fun x0_ x1_ y_ h_=>steps_next.D h_) g2_2)<|.o (exT q q)<|.o (exT q q)<|.o (exT q q)<|.o (asR q)<|.o (asR q)<|.a q<|.nil0) ?_
 replace h:=h.symm
 subst h
 refine .kf [(4,.rows (t2_2.1.map (cInt .i64))),(5,.rows (t2_2.2.1.map TConf.cells)),(6,i6 t2_2.2.2)] q q ?_
 exact .ret q
def slices_Clone_int.f (a0:List Int) (r:(List Int)):Prop :=
 if a0.length=0 then (∀ (z_:Option Addr) (k_:Nat),if z_.isNone=true then (r=[]) else (((Fits (0 + 0) 8))∧r=[])) else (((Fits (0 + a0.length) 8))∧r=a0)
theorem slices_Clone_int.D {a0 r} (h:slices_Clone_int.f a0 r):D Tryz.prog X (.callH 34 [.rows (a0.map (cInt .i64))] [] (.rows (r.map (cInt .i64))) []):=by
 unfold slices_Clone_int.f at h
 by_cases c0_:a0.length=0
 ·rw [if_pos c0_] at h
  have e0_:=List.eq_nil_of_length_eq_zero c0_
  subst e0_
  refine .nilQ [] [] fun z_ k_=>?_
  replace h:=h z_ k_
  refine .enter 8 0 fn34 q q q<|.seq<|.reg0 q (.o (asV q)<|.nil0)<|.seq<|.seq<|.reg0 q (.o (mvV q)<|.o (eqEN un29 q q)<|.nil0) ?_
  by_cases c1:z_.isNone=true
  ·rw [if_pos c1] at h
   refine .condT q c1<|.seq<|.reg0 q (.o (asV q)<|.nil0) ?_
   replace h:=h.symm
   subst h
   refine .k [(2,.rows (([]:List Int).map (cInt .i64)))] ⟨.nil,trivial⟩ ?_
   exact .ret q
  ·rw [if_neg c1] at h
   refine .condF q (nb c1)<|.skip<|.seq ?_
   obtain ⟨g4_2,h⟩:=h
   refine .room 0<|.room 0<|.reg0 q (.o (bldL (s:=1) (cs:=[]) un29 sz3 ze3 ⟨by decide,q,by decide⟩ q q q q)<|.o (mvV q)<|.o (apL (l:=[]) [] sl29 q q q (Nat.zero_le _) q g4_2)<|.o (asO q)<|.nil0) ?_
   replace h:=h.symm
   subst h
   refine .k [(2,.rows ([].map (cInt .i64)))] ⟨cFixO (l:=[]) sl29 q q q q,trivial⟩ ?_
   exact .ret q
 ·rw [if_neg c0_] at h
  refine .enter 8 0 fn34 q q q<|.seq<|.reg0 q (.o (asV q)<|.nil0)<|.seq<|.seq<|.reg0 q (.o (mvR q)<|.o (eqRN c0_ un29 q q)<|.nil0)<|.condF q q<|.skip<|.seq ?_
  obtain ⟨g7_2,h⟩:=h
  refine .room 0<|.room 0<|.reg0 q (.o (bldL (s:=1) (cs:=[]) un29 sz3 ze3 ⟨by decide,q,by decide⟩ q q q q)<|.o (mvR q)<|.o (apL (l:=[]) a0 sl29 q q q (Nat.zero_le _) q g7_2)<|.o (asO q)<|.nil0) ?_
  replace h:=h.symm
  subst h
  refine .k [(2,.rows (a0.map (cInt .i64)))] ⟨cFixO (l:=a0) sl29 q q q q,trivial⟩ ?_
  exact .ret q
def slices_Clone_int_o0.f (a0:List Int) (r:(List Int)):Prop :=
 if a0.length=0 then (∀ (z_:Option Addr) (k_:Nat),if z_.isNone=true then (r=[]) else (((Fits (0 + 0) 8))∧r=[])) else (((Fits (0 + a0.length) 8))∧r=a0)
theorem slices_Clone_int_o0.D {a0 r} (h:slices_Clone_int_o0.f a0 r):D Tryz.prog X (.callH 34 [.rows (a0.map (cInt .i64))] [] (.own 0 r.length) [⟨1,r.map (cInt .i64),0,none⟩]):=by
 unfold slices_Clone_int_o0.f at h
 by_cases c0_:a0.length=0
 ·rw [if_pos c0_] at h
  have e0_:=List.eq_nil_of_length_eq_zero c0_
  subst e0_
  refine .nilQ [] [] fun z_ k_=>?_
  replace h:=h z_ k_
  refine .enter 8 0 fn34 q q q<|.seq<|.reg0 q (.o (asV q)<|.nil0)<|.seq<|.seq<|.reg0 q (.o (mvV q)<|.o (eqEN un29 q q)<|.nil0) ?_
  by_cases c1:z_.isNone=true
  ·rw [if_pos c1] at h
   refine .condT q c1<|.seq<|.reg0 q (.o (asV q)<|.nil0) ?_
   replace h:=h.symm
   subst h
   refine .room 1<|.keepL [0] [(2,.own 0 0)] [⟨1,[].map (cInt .i64),0,none⟩] (by decide) (by decide) ⟨.nilOwn,trivial⟩ ⟨⟨_,q,bcRow (l:=[]) sl29 (Nat.le_refl _) q⟩,trivial⟩ ?_
   exact .ret q
  ·rw [if_neg c1] at h
   refine .condF q (nb c1)<|.skip<|.seq ?_
   obtain ⟨g4_2,h⟩:=h
   refine .room 0<|.room 0<|.reg0 q (.o (bldL (s:=1) (cs:=[]) un29 sz3 ze3 ⟨by decide,q,by decide⟩ q q q q)<|.o (mvV q)<|.o (apL (l:=[]) [] sl29 q q q (Nat.zero_le _) q g4_2)<|.o (asO q)<|.nil0) ?_
   replace h:=h.symm
   subst h
   refine .keepL [0] [(2,.own 0 0)] [⟨1,[].map (cInt .i64),0,none⟩] (by decide) (by decide) ⟨.own q,trivial⟩ ⟨⟨_,q,bcRow (l:=[]) sl29 (Nat.le_refl _) q⟩,trivial⟩ ?_
   exact .ret q
 ·rw [if_neg c0_] at h
  refine .enter 8 0 fn34 q q q<|.seq<|.reg0 q (.o (asV q)<|.nil0)<|.seq<|.seq<|.reg0 q (.o (mvR q)<|.o (eqRN c0_ un29 q q)<|.nil0)<|.condF q q<|.skip<|.seq ?_
  obtain ⟨g7_2,h⟩:=h
  refine .room 0<|.room 0<|.reg0 q (.o (bldL (s:=1) (cs:=[]) un29 sz3 ze3 ⟨by decide,q,by decide⟩ q q q q)<|.o (mvR q)<|.o (apL (l:=[]) a0 sl29 q q q (Nat.zero_le _) q g7_2)<|.o (asO q)<|.nil0) ?_
  replace h:=h.symm
  subst h
  refine .keepL [0] [(2,.own 0 a0.length)] [⟨1,a0.map (cInt .i64),0,none⟩] (by decide) (by decide) ⟨.own q,trivial⟩ ⟨⟨_,q,bcRow (l:=a0) sl29 (Nat.le_refl _) q⟩,trivial⟩ ?_
  exact .ret q
def limit_Runs.b1 (a0:TPds) (a1:TConf) (a2:TConf):Int→Rnd Int Unit ((List (List Int)) × Int)→Prop:=fun x1 z1=>if x1 < ([a1,a2].length:Int) then (((InR x1 ([a1,a2].length)))∧∃ t17_2:Int,(steps_Check.f a0 (rdl [a1,a2] x1) t17_2)∧if t17_2=0 then (z1=.next (IntKind.i64.wrap (x1 + 1))) else (z1=.ret ([],t17_2))) else (z1=.exit ())
def limit_Runs.j1 (x17:Int):((List (List Int)) × (List TRun))→(Rnd (((List (List Int)) × (List TRun) × Int)) ((List (List Int))) ((List (List Int)) × Int))→Prop:=fun (x35,x36) z2=>z2=.next (x35,x36,(IntKind.i64.wrap (x17 + 1)))
def limit_Runs.b3 (x16:List TRun) (x17:Int) (t143_3:(List Int) × (List TConf) × Int):((List TRun) × Int)→Rnd (((List TRun) × Int)) ((List TRun)) ((List (List Int)) × Int)→Prop:=fun (x38,x39) z3=>if x39 < (t143_3.1.length:Int) then (((InR x39 t143_3.1.length))∧if (x38.length:Int)=10000 then (z3=.ret ([],3)) else (∃ t162_3:(List Int),(slices_Clone_int_o0.f ((rdl x16 x17).l) t162_3)∧((Fits (t162_3.length + 1) 8))∧((InR x39 t143_3.2.1.length))∧((Fits (((x38.length:Nat):Int) + 1) 56))∧z3=.next (x38 ++ [(TRun.mk (t162_3 ++ [(rdl t143_3.1 x39)]) (rdl t143_3.2.1 x39))],(IntKind.i64.wrap (x39 + 1))))) else (z3=.exit x38)
def limit_Runs.j2 (a0:TPds) (a3:Int) (x16:List TRun) (x17:Int):(List (List Int))→(Rnd (((List (List Int)) × (List TRun) × Int)) ((List (List Int))) ((List (List Int)) × Int))→Prop:=fun x37 z2=>if ((rdl x16 x17).l.length:Int)=a3 then (limit_Runs.j1 x17 (x37,x16) z2) else (∃ t143_3:(List Int) × (List TConf) × Int,(steps_Next.f a0 ((rdl x16 x17).c) t143_3)∧if t143_3.2.2=0 then (∃ o3:Fin ((List TRun)) ((List (List Int)) × Int),Loop (limit_Runs.b3 x16 x17 t143_3) (x16,0) o3∧o3.on (fun x40=>limit_Runs.j1 x17 (x37,x40) z2) (fun r_=>z2=.ret r_)) else (z2=.ret ([],t143_3.2.2)))
def limit_Runs.b2 (a0:TPds) (a2:TConf) (a3:Int):((List (List Int)) × (List TRun) × Int)→Rnd (((List (List Int)) × (List TRun) × Int)) ((List (List Int))) ((List (List Int)) × Int)→Prop:=fun (x15,x16,x17) z2=>if x17 < (x16.length:Int) then (((InR x17 x16.length))∧∃ t140_12:Bool,(((rdl x16 x17).c.P=a2.P)→slices_Equal_int.f ((rdl x16 x17).c.W) a2.W t140_12)∧if (((rdl x16 x17).c.P == a2.P) && t140_12)=true then (((Fits (x15.length + 1) 24))∧limit_Runs.j2 a0 a3 x16 x17 (x15 ++ [(rdl x16 x17).l]) z2) else (limit_Runs.j2 a0 a3 x16 x17 x15 z2)) else (z2=.exit x15)
def limit_Runs.f (a0:TPds) (a1:TConf) (a2:TConf) (a3:Int) (r:(List (List Int)) × Int):Prop :=
 ∃ o1:Fin Unit ((List (List Int)) × Int),Loop (limit_Runs.b1 a0 a1 a2) 0 o1∧o1.on (fun _=>if ((decide (a3 < 0)) || (decide (a3 > 64)))=true then (r=([],5)) else (if a3 > 12 then (r=([],3)) else (∃ o2:Fin ((List (List Int))) ((List (List Int)) × Int),Loop (limit_Runs.b2 a0 a2 a3) ([],[(TRun.mk [] a1)],0) o2∧o2.on (fun x29=>r=(x29,0)) (fun r_=>r=r_)))) (fun r_=>r=r_)
theorem limit_Runs.D {a0 a1 a2 a3 r} (h:limit_Runs.f a0 a1 a2 a3 r):D Tryz.prog X (.callH 11 [.agg (TPds.lit a0),.agg (TConf.lit a1),.agg (TConf.lit a2),.val (.int .i64 a3)] [] (.tuple [.rows (r.1.map (cSl (cInt .i64))),.val (.int .i64 r.2)]) []):=by
 unfold limit_Runs.f at h
 refine .enter 119 0 fn11 q q q<|.seq<|.room 0<|.room 0<|.room 0<|.reg0 q (.o (bxP (s:=6) (cs:=(TPds.lit a0)) q ⟨q,by decide,q⟩ q)<|.op 1 q (bxP (s:=2) (cs:=(TConf.lit a1)) q ⟨q,by decide,q⟩ q)<|.op 2 q (bxP (s:=2) (cs:=(TConf.lit a2)) q ⟨q,by decide,q⟩ q)<|.o (asV q)<|.o (asV q)<|.nil0)<|.seq<|.seq<|.room 0<|.reg0 q (.o (ldG q sz36 ag36 q)<|.o (ldG q sz36 ag36 q)<|.op 3 q (bldL (s:=2) (cs:=[i6 a1.P,.rows (a1.W.map (cInt .i64)),i6 a2.P,.rows (a2.W.map (cInt .i64))]) un71 sz36 ze36 ⟨by decide,q,by decide⟩ q q q q)<|.o (lnO (l:=[a1,a2]) sl71 q q q)<|.o (mvV q)<|.nil0) ?_
 refine .block<|.keepL [0,1,2,3] [(3,i6 a3),(4,.ptr 0 1 6 0 0),(5,.ptr 1 1 2 0 0),(6,.ptr 2 1 2 0 0),(24,.own 3 ([a1,a2].length)),(25,i6 ([a1,a2].length:Int)),(26,i6 0)] [⟨6,[(TPds.lit a0)],0,none⟩,⟨2,[(TConf.lit a1)],0,none⟩,⟨2,[(TConf.lit a2)],0,none⟩,⟨2,[a1,a2].map TConf.cells,0,none⟩] (by decide) (by decide) ⟨.free q q,.ptr q,.ptr q,.ptr q,.own q,.free q q,.free q q,trivial⟩ ⟨⟨_,q,bcBox (all2_free q)⟩,⟨_,q,bcBox (all2_free q)⟩,⟨_,q,bcBox (all2_free q)⟩,⟨_,q,bcRow (l:=[a1,a2]) sl71 (Nat.le_refl _) q⟩,trivial⟩ ?_
 obtain ⟨o1,hL1,h⟩:=h
 refine .loopB (limit_Runs.b1 a0 a1 a2) (fun x1=>listEnv [(3,i6 a3),(4,.ptr 0 1 6 0 0),(5,.ptr 1 1 2 0 0),(6,.ptr 2 1 2 0 0),(24,.own 3 ([a1,a2].length)),(25,i6 ([a1,a2].length:Int)),(26,i6 x1)]) (fun x1=>[⟨6,[(TPds.lit a0)],0,none⟩,⟨2,[(TConf.lit a1)],0,none⟩,⟨2,[(TConf.lit a2)],0,none⟩,⟨2,[a1,a2].map TConf.cells,0,none⟩]) (fun _=>listEnv [(3,i6 a3),(4,.ptr 0 1 6 0 0),(5,.ptr 1 1 2 0 0),(6,.ptr 2 1 2 0 0)]) (fun _=>[⟨6,[(TPds.lit a0)],0,none⟩,⟨2,[(TConf.lit a1)],0,none⟩,⟨2,[(TConf.lit a2)],0,none⟩]) hL1 (fun r_=>r=r_) ?_ ?_ ?_
 ·rintro ⟨⟩ rfl
  try dsimp only [Fin.on] at h
  refine .seq<|.seq ?_
  refine .reg0 (e1:=listEnv [(3,i6 a3),(4,.ptr 0 1 6 0 0),(5,.ptr 1 1 2 0 0),(6,.ptr 2 1 2 0 0),(42,bo ((decide (a3 < 0)) || (decide (a3 > 64))))]) (H1:=[⟨6,[(TPds.lit a0)],0,none⟩,⟨2,[(TConf.lit a1)],0,none⟩,⟨2,[(TConf.lit a2)],0,none⟩]) q ?_ ?_
  ·refine .m q<|.o (ltI q q)<|.m q<|?_
   by_cases c7:a3 < 0
   ·exact (.n q (dt c7)<|.n q (dt c7)<|.o (pkTV q (dt c7) q)<|.nilL _ ⟨.free q q,.ptr q,.ptr q,.ptr q,cB q (mOrT (dt c7)),trivial⟩)
   ·exact (.g q (df c7) (mvV q)<|.g q (df c7) (gtI q q)<|.o (pkFV q (df c7) q)<|.nilL _ ⟨.free q q,.ptr q,.ptr q,.ptr q,cB q (mOrF (df c7) q),trivial⟩)
  by_cases c8:((decide (a3 < 0)) || (decide (a3 > 64)))=true
  ·rw [if_pos c8] at h
   refine .condT q c8<|.seq<|.reg0 q (.o (asV q)<|.o (asV q)<|.nil0) ?_
   replace h:=h.symm
   subst h
   refine .k [(8,.rows (([]:List (List Int)).map (cSl (cInt .i64)))),(9,i6 5)] ⟨.nil,.free q q,trivial⟩ ?_
   exact .ret q
  ·rw [if_neg c8] at h
   refine .condF q (nb c8)<|.skip<|.seq<|.seq<|.reg0 q (.o (mvV q)<|.o (gtI q q)<|.nil0) ?_
   by_cases c9:a3 > 12
   ·rw [if_pos c9] at h
    refine .condT q (dt c9)<|.seq<|.reg0 q (.o (asV q)<|.o (asV q)<|.nil0) ?_
    replace h:=h.symm
    subst h
    refine .k [(8,.rows (([]:List (List Int)).map (cSl (cInt .i64)))),(9,i6 3)] ⟨.nil,.free q q,trivial⟩ ?_
    exact .ret q
   ·rw [if_neg c9] at h
    refine .condF q (df c9)<|.skip<|.seq<|.reg0 q (.o (asV q)<|.nil0)<|.seq<|.room 0<|.reg0 q (.o (ldG q sz36 ag36 q)<|.o (bldS (cs:=[nul,i6 a1.P,.rows (a1.W.map (cInt .i64))]) ze81 pl81 q q)<|.op 3 q (bldL (s:=3) (cs:=[nul,i6 a1.P,.rows (a1.W.map (cInt .i64))]) un82 sz81 ze81 ⟨by decide,q,by decide⟩ q q q q)<|.o (asO q)<|.nil0) ?_
    refine .seq<|.seq<|.reg0 q (.o (asV q)<|.nil0)<|.block<|.room 1<|.keepL [0,2,4,3] [(3,i6 a3),(4,.ptr 0 1 6 0 0),(6,.ptr 1 1 2 0 0),(13,.own 2 0),(14,.own 3 ([(TRun.mk [] a1)].length)),(15,i6 0)] [⟨6,[(TPds.lit a0)],0,none⟩,⟨2,[(TConf.lit a2)],0,none⟩,⟨1,[].map (cSl (cInt .i64)),0,none⟩,⟨3,[(TRun.mk [] a1)].map TRun.cells,0,none⟩] (by decide) (by decide) ⟨.free q q,.ptr q,.ptr q,.nilOwn,cOwnE q (by simp),.free q q,trivial⟩ ⟨⟨_,q,bcBox (all2_free q)⟩,⟨_,q,bcBox (all2_free q)⟩,⟨_,q,(bcRow (l:=[]) sl40 (Nat.le_refl _) q)⟩,⟨_,q,bcApp (l:=[]) (m:=[(TRun.mk [] a1)]) sl82 (Nat.le_refl _) (.cons ((.cons (.nil)<|.cons (.free q q)<|.cons (.free q q)<|.nil))<|.nil)⟩,trivial⟩ ?_
    obtain ⟨o2,hL2,h⟩:=h
    refine .loopB (limit_Runs.b2 a0 a2 a3) (fun (x15,x16,x17)=>listEnv [(3,i6 a3),(4,.ptr 0 1 6 0 0),(6,.ptr 1 1 2 0 0),(13,.own 2 x15.length),(14,.own 3 x16.length),(15,i6 x17)]) (fun (x15,x16,x17)=>[⟨6,[(TPds.lit a0)],0,none⟩,⟨2,[(TConf.lit a2)],0,none⟩,⟨1,x15.map (cSl (cInt .i64)),0,none⟩,⟨3,x16.map TRun.cells,0,none⟩]) (fun x29=>listEnv [(13,.own 0 x29.length)]) (fun x29=>[⟨1,x29.map (cSl (cInt .i64)),0,none⟩]) hL2 (fun r_=>r=r_) ?_ ?_ ?_
    ·rintro x29 rfl
     try dsimp only [Fin.on] at h
     refine .seq<|.reg0 q (.o (mvO q)<|.o (asO q)<|.o (asV q)<|.nil0) ?_
     replace h:=h.symm
     subst h
     refine .k [(8,.rows (x29.map (cSl (cInt .i64)))),(9,i6 0)] ⟨cFixO (l:=x29) sl40 q q q q,.free q q,trivial⟩ ?_
     exact .ret q
    ·rintro r_ rfl
     exact h
    ·rintro ⟨x15,x16,x17⟩ z2 h hn2 hx2 hr2
     dsimp only [limit_Runs.b2] at h
     refine .seq<|.seq<|.reg0 q (.o (mvV q)<|.o (mvO q)<|.o (lnO (l:=x16) sl82 q q q)<|.o (ltI q q)<|.nil0) ?_
     by_cases c48:x17 < (x16.length:Int)
     ·rw [if_pos c48] at h
      refine .condT q (dt c48)<|.skip<|.seq ?_
      refine .consJ (fun s_=>limit_Runs.j1 x17 s_ z2) (fun (x35,x36)=>listEnv [(3,i6 a3),(4,.ptr 0 1 6 0 0),(6,.ptr 1 1 2 0 0),(13,.own 2 x35.length),(14,.own 3 x36.length),(15,i6 x17)]) (fun (x35,x36)=>[⟨6,[(TPds.lit a0)],0,none⟩,⟨2,[(TConf.lit a2)],0,none⟩,⟨1,x35.map (cSl (cInt .i64)),0,none⟩,⟨3,x36.map TRun.cells,0,none⟩]) ?_ fun hJ1=>?_
      ·rintro ⟨x35,x36⟩ h
       unfold limit_Runs.j1 at h
       try dsimp only at h
       refine .reg0 q (.m q<|.o (addI q q)<|.a q<|.nil0)<|.keepL [0,1,2,3] [(3,i6 a3),(4,.ptr 0 1 6 0 0),(6,.ptr 1 1 2 0 0),(13,.own 2 x35.length),(14,.own 3 x36.length),(15,i6 (IntKind.i64.wrap (x17 + 1)))] [⟨6,[(TPds.lit a0)],0,none⟩,⟨2,[(TConf.lit a2)],0,none⟩,⟨1,x35.map (cSl (cInt .i64)),0,none⟩,⟨3,x36.map TRun.cells,0,none⟩] (by decide) (by decide) ⟨.free q q,.ptr q,.ptr q,.own q,.own q,.free q q,trivial⟩ ⟨⟨_,q,bcBox (all2_free q)⟩,⟨_,q,bcBox (all2_free q)⟩,⟨_,q,bcRow (l:=x35) sl40 (Nat.le_refl _) q⟩,⟨_,q,bcRow (l:=x36) sl82 (Nat.le_refl _) q⟩,trivial⟩ ?_
       exact hn2 _ h
      ·refine .block<|.seq ?_
       obtain ⟨g139_2,h⟩:=h
       refine .room 0<|.reg0 q (.o (mvO q)<|.o (mvV q)<|.o (ixO (l:=x16) sl82 q q q q g139_2.1 g139_2.2)<|.o (ldOG (l:=x16) (j:=x17) sl82 q sz81 ag81 q q (fun _=>q) g139_2.1 g139_2.2 (by decide) q)<|.op 4 q (alP (s:=3) ze81 ⟨q,by decide,q⟩ q)<|.o (stB (cs0:=[nul,i6 0,nul]) (cs:=(TRun.lit (rdl x16 x17))) (cs1:=(TRun.lit (rdl x16 x17))) q q sz81 q ⟨Nat.le_of_ble_eq_true q,q⟩ q)<|.nil0) ?_
       refine .seq<|.seq ?_
       obtain ⟨t140_12,g140_12,h⟩:=h
       refine .reg0 (e1:=listEnv [(3,i6 a3),(4,.ptr 0 1 6 0 0),(6,.ptr 1 1 2 0 0),(13,.own 2 x15.length),(14,.own 3 x16.length),(15,i6 x17),(16,.ptr 4 1 3 0 0),(71,bo (((rdl x16 x17).c.P == a2.P) && t140_12))]) (H1:=[⟨6,[(TPds.lit a0)],0,none⟩,⟨2,[(TConf.lit a2)],0,none⟩,⟨1,x15.map (cSl (cInt .i64)),0,none⟩,⟨3,x16.map TRun.cells,0,none⟩,⟨3,[(TRun.lit (rdl x16 x17))],0,none⟩]) q ?_ ?_
       ·refine .o (faP fa81_1 q)<|.o (faP fa36_0 q)<|.o (ldP q sz3 ag3 q)<|.o (faP fa36_0 q)<|.o (ldP q sz3 ag3 q)<|.o (eqI q q)<|.m q<|?_
        by_cases c58:(rdl x16 x17).c.P=a2.P
        ·exact (.g q (bt c58) (faP fa81_1 q)<|.g q (bt c58) (faP fa36_1 q)<|.g q (bt c58) (ldP q sz29 ag29 q)<|.g q (bt c58) (faP fa36_1 q)<|.g q (bt c58) (ldP q sz29 ag29 q)<|.callI (gT q q q (bt c58)) (callee_of q go32 q) (.pure q q (slices_Equal_int.D (g140_12 c58)))<|.o (pkTV q (bt c58) q)<|.nilL _ ⟨.free q q,.ptr q,.ptr q,.own q,.own q,.free q q,.ptr q,cB q (mAndT (bt c58) q),trivial⟩)
        ·exact (.n q (bn c58)<|.n q (bn c58)<|.n q (bn c58)<|.n q (bn c58)<|.n q (bn c58)<|.n q (bn c58)<|.o (pkFV q (bn c58) q)<|.nilL _ ⟨.free q q,.ptr q,.ptr q,.own q,.own q,.free q q,.ptr q,cB q (mAndF (bn c58)),trivial⟩)
       refine .consJ (fun s_=>limit_Runs.j2 a0 a3 x16 x17 s_ z2) (fun x37=>listEnv [(3,i6 a3),(4,.ptr 0 1 6 0 0),(6,.ptr 1 1 2 0 0),(13,.own 2 x37.length),(14,.own 3 x16.length),(15,i6 x17),(16,.ptr 4 1 3 0 0)]) (fun x37=>[⟨6,[(TPds.lit a0)],0,none⟩,⟨2,[(TConf.lit a2)],0,none⟩,⟨1,x37.map (cSl (cInt .i64)),0,none⟩,⟨3,x16.map TRun.cells,0,none⟩,⟨3,[(TRun.lit (rdl x16 x17))],0,none⟩]) ?_ fun hJ2=>?_
       ·rintro x37 h
        unfold limit_Runs.j2 at h
        try dsimp only at h
        refine .seq<|.seq<|.reg0 q (.o (faP fa81_0 q)<|.o (ldP q sz29 ag29 q)<|.o (lnR (l:=(rdl x16 x17).l) sl29 q)<|.o (mvV q)<|.o (eqI q q)<|.nil0) ?_
        by_cases c60:((rdl x16 x17).l.length:Int)=a3
        ·rw [if_pos c60] at h
         refine .condT q (bt c60)<|.exit q<|.keepL [0,1,2,3] [(3,i6 a3),(4,.ptr 0 1 6 0 0),(6,.ptr 1 1 2 0 0),(13,.own 2 x37.length),(14,.own 3 x16.length),(15,i6 x17)] [⟨6,[(TPds.lit a0)],0,none⟩,⟨2,[(TConf.lit a2)],0,none⟩,⟨1,x37.map (cSl (cInt .i64)),0,none⟩,⟨3,x16.map TRun.cells,0,none⟩] (by decide) (by decide) ⟨.free q q,.ptr q,.ptr q,.own q,.own q,.free q q,trivial⟩ ⟨⟨_,q,bcBox (all2_free q)⟩,⟨_,q,bcBox (all2_free q)⟩,⟨_,q,bcRow (l:=x37) sl40 (Nat.le_refl _) q⟩,⟨_,q,bcRow (l:=x16) sl82 (Nat.le_refl _) q⟩,trivial⟩ ?_
         exact hJ1 _ h
        ·rw [if_neg c60] at h
         refine .condF q (bn c60)<|.skip<|.seq ?_
         obtain ⟨t143_3,g143_3,h⟩:=h
         refine .reg0 q (.o (ldG q sz28 ag28 q)<|.o (faP fa81_1 q)<|.o (ldG q sz36 ag36 q)<|.c q go33 q q q (steps_Next.D g143_3)<|.o (mvT q)<|.o (exT q q)<|.o (exT q q)<|.o (exT q q)<|.o (asR q)<|.o (asR q)<|.a q<|.nil0)<|.seq<|.seq<|.reg0 q (.o (mvV q)<|.o (neI q q)<|.nil0) ?_
         by_cases c61:t143_3.2.2=0
         ·rw [if_pos c61] at h
          refine .condF q (nf c61)<|.skip<|.seq<|.reg0 q (.o (mvR q)<|.o (lnR (l:=t143_3.1) sl29 q)<|.o (mvV q)<|.nil0)<|.block<|.keepL [0,1,2,3,4] [(3,i6 a3),(4,.ptr 0 1 6 0 0),(6,.ptr 1 1 2 0 0),(13,.own 2 x37.length),(14,.own 3 x16.length),(15,i6 x17),(16,.ptr 4 1 3 0 0),(18,.rows (t143_3.2.1.map TConf.cells)),(93,.rows (t143_3.1.map (cInt .i64))),(94,i6 (t143_3.1.length:Int)),(95,i6 0)] [⟨6,[(TPds.lit a0)],0,none⟩,⟨2,[(TConf.lit a2)],0,none⟩,⟨1,x37.map (cSl (cInt .i64)),0,none⟩,⟨3,x16.map TRun.cells,0,none⟩,⟨3,[(TRun.lit (rdl x16 x17))],0,none⟩] (by decide) (by decide) ⟨.free q q,.ptr q,.ptr q,.own q,.own q,.free q q,.ptr q,.free q q,.free q q,.free q q,.free q q,trivial⟩ ⟨⟨_,q,bcBox (all2_free q)⟩,⟨_,q,bcBox (all2_free q)⟩,⟨_,q,bcRow (l:=x37) sl40 (Nat.le_refl _) q⟩,⟨_,q,bcRow (l:=x16) sl82 (Nat.le_refl _) q⟩,⟨_,q,bcBox (all2_free q)⟩,trivial⟩ ?_
          obtain ⟨o3,hL3,h⟩:=h
          refine .loopB (limit_Runs.b3 x16 x17 t143_3) (fun (x38,x39)=>listEnv [(3,i6 a3),(4,.ptr 0 1 6 0 0),(6,.ptr 1 1 2 0 0),(13,.own 2 x37.length),(14,.own 3 x38.length),(15,i6 x17),(16,.ptr 4 1 3 0 0),(18,.rows (t143_3.2.1.map TConf.cells)),(93,.rows (t143_3.1.map (cInt .i64))),(94,i6 (t143_3.1.length:Int)),(95,i6 x39)]) (fun (x38,x39)=>[⟨6,[(TPds.lit a0)],0,none⟩,⟨2,[(TConf.lit a2)],0,none⟩,⟨1,x37.map (cSl (cInt .i64)),0,none⟩,⟨3,x38.map TRun.cells,0,none⟩,⟨3,[(TRun.lit (rdl x16 x17))],0,none⟩]) (fun x40=>listEnv [(3,i6 a3),(4,.ptr 0 1 6 0 0),(6,.ptr 1 1 2 0 0),(13,.own 2 x37.length),(14,.own 3 x40.length),(15,i6 x17)]) (fun x40=>[⟨6,[(TPds.lit a0)],0,none⟩,⟨2,[(TConf.lit a2)],0,none⟩,⟨1,x37.map (cSl (cInt .i64)),0,none⟩,⟨3,x40.map TRun.cells,0,none⟩]) hL3 (fun r_=>z2=.ret r_) ?_ ?_ ?_
          ·rintro x40 rfl
           try dsimp only [Fin.on] at h
           refine .inBlock<|.keepL [0,1,2,3] [(3,i6 a3),(4,.ptr 0 1 6 0 0),(6,.ptr 1 1 2 0 0),(13,.own 2 x37.length),(14,.own 3 x40.length),(15,i6 x17)] [⟨6,[(TPds.lit a0)],0,none⟩,⟨2,[(TConf.lit a2)],0,none⟩,⟨1,x37.map (cSl (cInt .i64)),0,none⟩,⟨3,x40.map TRun.cells,0,none⟩] (by decide) (by decide) ⟨.free q q,.ptr q,.ptr q,.own q,.own q,.free q q,trivial⟩ ⟨⟨_,q,bcBox (all2_free q)⟩,⟨_,q,bcBox (all2_free q)⟩,⟨_,q,bcRow (l:=x37) sl40 (Nat.le_refl _) q⟩,⟨_,q,bcRow (l:=x40) sl82 (Nat.le_refl _) q⟩,trivial⟩ ?_
           exact hJ1 _ h
          ·rintro r_ rfl
           exact h
          ·rintro ⟨x38,x39⟩ z3 h hn3 hx3 hr3
           dsimp only [limit_Runs.b3] at h
           refine .seq<|.reg0 q (.o (ltI q q)<|.nil0)<|.seq ?_
           by_cases c66:x39 < (t143_3.1.length:Int)
           ·rw [if_pos c66] at h
            refine .condT q (dt c66)<|.skip<|.seq<|.block<|.seq ?_
            obtain ⟨g159_1,h⟩:=h
            refine .reg0 q (.m q<|.o (ixR (l:=t143_3.1) (lit:=(cInt .i64)) sl29 q q (fun _=>q) g159_1.1 g159_1.2)<|.o (ldC q sz3 ag3 q)<|.a q<|.a q<|.nil0)<|.seq<|.seq<|.reg0 q (.o (mvO q)<|.o (lnO (l:=x38) sl82 q q q)<|.o (eqI q q)<|.nil0) ?_
            by_cases c67:(x38.length:Int)=10000
            ·rw [if_pos c67] at h
             refine .condT q (bt c67)<|.seq<|.reg0 q (.o (asV q)<|.o (asV q)<|.nil0) ?_
             have q33:=hr3 _ h
             have q34:=hr2 _ q33
             replace q34:=q34.symm
             subst q34
             refine .k [(8,.rows (([]:List (List Int)).map (cSl (cInt .i64)))),(9,i6 3)] ⟨.nil,.free q q,trivial⟩ ?_
             exact .ret q
            ·rw [if_neg c67] at h
             refine .condF q (bn c67)<|.skip ?_
             obtain ⟨t162_3,g162_3,h⟩:=h
             obtain ⟨g162_6,h⟩:=h
             obtain ⟨g162_9,h⟩:=h
             obtain ⟨g162_13,h⟩:=h
             refine .room 0<|.room 0<|.room 0<|.room 0<|.room 0 ?_
             refine .reg1 (e1:=listEnv [(3,i6 a3),(4,.ptr 0 1 6 0 0),(6,.ptr 1 1 2 0 0),(13,.own 2 x37.length),(14,.own 3 (x38.length + 1)),(15,i6 x17),(16,.ptr 4 1 3 0 0),(18,.rows (t143_3.2.1.map TConf.cells)),(93,.rows (t143_3.1.map (cInt .i64))),(94,i6 (t143_3.1.length:Int)),(95,i6 x39)]) (H1:=[⟨6,[(TPds.lit a0)],0,none⟩,⟨2,[(TConf.lit a2)],0,none⟩,⟨1,x37.map (cSl (cInt .i64)),0,none⟩,⟨3,x38.map TRun.cells ++ [[.own 9 ((t162_3 ++ [(rdl t143_3.1 x39)]).length),i6 ((rdl t143_3.2.1 x39).P),.rows ((rdl t143_3.2.1 x39).W.map (cInt .i64))]],0,none⟩,⟨3,[(TRun.lit (rdl x16 x17))],0,none⟩,⟨1,[(rdl t143_3.1 x39)].map (cInt .i64),0,none⟩,Blk.hole,⟨3,[[.own 9 ((t162_3 ++ [(rdl t143_3.1 x39)]).length),i6 ((rdl t143_3.2.1 x39).P),.rows ((rdl t143_3.2.1 x39).W.map (cInt .i64))]],0,none⟩,Blk.hole,⟨1,(t162_3 ++ [(rdl t143_3.1 x39)]).map (cInt .i64),0,none⟩]) q ?_ ?_
             ·exact .drawM [(14,14,.own 3 (x38.length + 1)),(13,116,.own 3 (x38.length + 1)),(12,115,.own 7 1),(11,114,.agg [.own 9 ((t162_3 ++ [(rdl t143_3.1 x39)]).length),i6 ((rdl t143_3.2.1 x39).P),.rows ((rdl t143_3.2.1 x39).W.map (cInt .i64))]),(10,113,.agg (TConf.lit (rdl t143_3.2.1 x39))),(9,112,.cptr (TConf.lit (rdl t143_3.2.1 x39)) 0),(8,111,i6 x39),(7,110,.rows (t143_3.2.1.map TConf.cells)),(6,109,.own 9 ((t162_3 ++ [(rdl t143_3.1 x39)]).length)),(5,108,.own 5 ([(rdl t143_3.1 x39)].length)),(4,107,i6 (rdl t143_3.1 x39)),(3,106,.own 9 t162_3.length),(2,105,.rows ((rdl x16 x17).l.map (cInt .i64))),(1,104,.ptr 4 1 3 0 0),(0,103,.own 3 x38.length)] [(13,3,⟨3,x38.map TRun.cells ++ [[.own 9 ((t162_3 ++ [(rdl t143_3.1 x39)]).length),i6 ((rdl t143_3.2.1 x39).P),.rows ((rdl t143_3.2.1 x39).W.map (cInt .i64))]],0,none⟩),(12,7,⟨3,[[.own 9 ((t162_3 ++ [(rdl t143_3.1 x39)]).length),i6 ((rdl t143_3.2.1 x39).P),.rows ((rdl t143_3.2.1 x39).W.map (cInt .i64))]],0,none⟩),(6,9,⟨1,(t162_3 ++ [(rdl t143_3.1 x39)]).map (cInt .i64),0,none⟩),(5,5,⟨1,[(rdl t143_3.1 x39)].map (cInt .i64),0,none⟩),(3,9,⟨1,t162_3.map (cInt .i64),0,none⟩)] [[],[],[1],[2,1],[],[4],[3,2,1,5,4],[],[],[7,8],[9,7,8],[6,3,2,1,5,4,10,9,7,8],[11,6,3,2,1,5,4,10,9,7,8],[0,12,11,6,3,2,1,5,4,10,9,7,8],[13,0,12,11,6,3,2,1,5,4,10,9,7,8]] (by rfl) (by rfl) (by rfl) (by exact ⟨oP (fun _=>mvO q) q,oP (fun _=>faP fa81_0 q) q,oP (fun _=>ldP q sz29 ag29 q) q,fun S hS hD hn=>.oneI hS hD hn q q (callee_of q go34 q) (.focus (args':=[.rows ((rdl x16 x17).l.map (cInt .i64))]) (H0:=[]) (Hc:=[⟨1,t162_3.map (cInt .i64),0,none⟩]) (Hd:=[⟨1,t162_3.map (cInt .i64),0,none⟩]) [] [] [9] false (.cons (.free q q)<|.nil) (HConvL.heap trivial) (by decide) q q (slices_Clone_int_o0.D g162_3) (.own q) (.cons (bcRow (l:=t162_3) sl29 (Nat.le_refl _) q)<|.nil) q (.inr (.inl q)) q) q q q,oP (fun _=>mvV q) q,oW 5 (fun _=>bldL (s:=1) (cs:=[i6 (rdl t143_3.1 x39)]) un29 sz3 ze3 ⟨by decide,q,by decide⟩ q q q q) q fun _=>q,oW 0 (fun _=>ap1 (l:=t162_3) (rdl t143_3.1 x39) sl29 q q q (Nat.zero_le _) (elems_own (l:=[(rdl t143_3.1 x39)]) q q) g162_6) q fun _=>q,oP (fun _=>mvR q) q,oP (fun _=>mvV q) q,oP (fun _=>ixR (l:=t143_3.2.1) (lit:=TConf.lit) sl71 q q (fun _=>q) g162_9.1 g162_9.2) q,oP (fun _=>ldCG q sz36 ag36 q) q,oP (fun _=>bldS (cs:=[.own 9 ((t162_3 ++ [(rdl t143_3.1 x39)]).length),i6 ((rdl t143_3.2.1 x39).P),.rows ((rdl t143_3.2.1 x39).W.map (cInt .i64))]) ze81 pl81 q q) q,oW 7 (fun _=>bldL (s:=3) (cs:=[.own 9 ((t162_3 ++ [(rdl t143_3.1 x39)]).length),i6 ((rdl t143_3.2.1 x39).P),.rows ((rdl t143_3.2.1 x39).W.map (cInt .i64))]) un82 sz81 ze81 ⟨by decide,q,by decide⟩ q q q q) q fun _=>q,oW 0 (fun _=>apE (k:=1) sl82 q q (by simp) (Nat.zero_le _) q q q g162_13) q fun _=>q,oP (fun _=>asO q) q,trivial⟩) _ (by exact ⟨.free q q,.ptr q,.ptr q,.own q,.own q,.free q q,.ptr q,.free q q,.free q q,.free q q,.free q q,trivial⟩) (by rfl)
             refine .inBlock<|.reg0 q (.o (addI q q)<|.o (mvV q)<|.nil0)<|.keepL [0,1,2,3,4] [(3,i6 a3),(4,.ptr 0 1 6 0 0),(6,.ptr 1 1 2 0 0),(13,.own 2 x37.length),(14,.own 3 ((x38 ++ [(TRun.mk (t162_3 ++ [(rdl t143_3.1 x39)]) (rdl t143_3.2.1 x39))]).length)),(15,i6 x17),(16,.ptr 4 1 3 0 0),(18,.rows (t143_3.2.1.map TConf.cells)),(93,.rows (t143_3.1.map (cInt .i64))),(94,i6 (t143_3.1.length:Int)),(95,i6 (IntKind.i64.wrap (x39 + 1)))] [⟨6,[(TPds.lit a0)],0,none⟩,⟨2,[(TConf.lit a2)],0,none⟩,⟨1,x37.map (cSl (cInt .i64)),0,none⟩,⟨3,(x38 ++ [(TRun.mk (t162_3 ++ [(rdl t143_3.1 x39)]) (rdl t143_3.2.1 x39))]).map TRun.cells,0,none⟩,⟨3,[(TRun.lit (rdl x16 x17))],0,none⟩] (by decide) (by decide) ⟨.free q q,.ptr q,.ptr q,.own q,cOwnE q (by simp),.free q q,.ptr q,.free q q,.free q q,.free q q,.free q q,trivial⟩ ⟨⟨_,q,bcBox (all2_free q)⟩,⟨_,q,bcBox (all2_free q)⟩,⟨_,q,bcRow (l:=x37) sl40 (Nat.le_refl _) q⟩,⟨_,q,bcApp (l:=x38) (m:=[(TRun.mk (t162_3 ++ [(rdl t143_3.1 x39)]) (rdl t143_3.2.1 x39))]) sl82 (Nat.le_refl _) (.cons ((.cons (cFixO (l:=(t162_3 ++ [(rdl t143_3.1 x39)])) sl29 q q q q)<|.cons (.free q q)<|.cons (.free q q)<|.nil))<|.nil)⟩,⟨_,q,bcBox (all2_free q)⟩,trivial⟩ ?_
             exact hn3 _ h
           ·rw [if_neg c66] at h
            refine .condF q (df c66)<|.exit q<|.keepL [0,1,2,3] [(3,i6 a3),(4,.ptr 0 1 6 0 0),(6,.ptr 1 1 2 0 0),(13,.own 2 x37.length),(14,.own 3 x38.length),(15,i6 x17)] [⟨6,[(TPds.lit a0)],0,none⟩,⟨2,[(TConf.lit a2)],0,none⟩,⟨1,x37.map (cSl (cInt .i64)),0,none⟩,⟨3,x38.map TRun.cells,0,none⟩] (by decide) (by decide) ⟨.free q q,.ptr q,.ptr q,.own q,.own q,.free q q,trivial⟩ ⟨⟨_,q,bcBox (all2_free q)⟩,⟨_,q,bcBox (all2_free q)⟩,⟨_,q,bcRow (l:=x37) sl40 (Nat.le_refl _) q⟩,⟨_,q,bcRow (l:=x38) sl82 (Nat.le_refl _) q⟩,trivial⟩ ?_
            exact hx3 _ h
         ·rw [if_neg c61] at h
          refine .condT q (nt c61)<|.seq<|.reg0 q (.o (mvV q)<|.o (asV q)<|.o (asV q)<|.nil0) ?_
          have q35:=hr2 _ h
          replace q35:=q35.symm
          subst q35
          refine .k [(8,.rows (([]:List (List Int)).map (cSl (cInt .i64)))),(9,i6 t143_3.2.2)] ⟨.nil,.free q q,trivial⟩ ?_
          exact .ret q
       ·by_cases c68:(((rdl x16 x17).c.P == a2.P) && t140_12)=true
        ·rw [if_pos c68] at h
         refine .condT q c68 ?_
         obtain ⟨g165_4,h⟩:=h
         refine .room 0<|.room 0<|.reg0 q (.o (mvO q)<|.o (faP fa81_0 q)<|.o (ldP q sz29 ag29 q)<|.op 5 q (bldL (s:=1) (cs:=[.rows ((rdl x16 x17).l.map (cInt .i64))]) un40 sz29 ze29 ⟨by decide,q,by decide⟩ q q q q)<|.o (ap1 (l:=x15) ((rdl x16 x17).l) sl40 q q q (Nat.zero_le _) (elems_own (l:=[(rdl x16 x17).l]) q q) g165_4)<|.o (asO q)<|.nil0) ?_
         refine .keepL [0,1,2,3,4] [(3,i6 a3),(4,.ptr 0 1 6 0 0),(6,.ptr 1 1 2 0 0),(13,.own 2 ((x15 ++ [(rdl x16 x17).l]).length)),(14,.own 3 x16.length),(15,i6 x17),(16,.ptr 4 1 3 0 0)] [⟨6,[(TPds.lit a0)],0,none⟩,⟨2,[(TConf.lit a2)],0,none⟩,⟨1,(x15 ++ [(rdl x16 x17).l]).map (cSl (cInt .i64)),0,none⟩,⟨3,x16.map TRun.cells,0,none⟩,⟨3,[(TRun.lit (rdl x16 x17))],0,none⟩] (by decide) (by decide) ⟨.free q q,.ptr q,.ptr q,.own q,.own q,.free q q,.ptr q,trivial⟩ ⟨⟨_,q,bcBox (all2_free q)⟩,⟨_,q,bcBox (all2_free q)⟩,⟨_,q,bcRow (l:=(x15 ++ [(rdl x16 x17).l])) sl40 (Nat.le_refl _) q⟩,⟨_,q,bcRow (l:=x16) sl82 (Nat.le_refl _) q⟩,⟨_,q,bcBox (all2_free q)⟩,trivial⟩ ?_
         exact hJ2 _ h
        ·rw [if_neg c68] at h
         refine .condF q (nb c68)<|.skip<|.keepL [0,1,2,3,4] [(3,i6 a3),(4,.ptr 0 1 6 0 0),(6,.ptr 1 1 2 0 0),(13,.own 2 x15.length),(14,.own 3 x16.length),(15,i6 x17),(16,.ptr 4 1 3 0 0)] [⟨6,[(TPds.lit a0)],0,none⟩,⟨2,[(TConf.lit a2)],0,none⟩,⟨1,x15.map (cSl (cInt .i64)),0,none⟩,⟨3,x16.map TRun.cells,0,none⟩,⟨3,[(TRun.lit (rdl x16 x17))],0,none⟩] (by decide) (by decide) ⟨.free q q,.ptr q,.ptr q,.own q,.own q,.free q q,.ptr q,trivial⟩ ⟨⟨_,q,bcBox (all2_free q)⟩,⟨_,q,bcBox (all2_free q)⟩,⟨_,q,bcRow (l:=x15) sl40 (Nat.le_refl _) q⟩,⟨_,q,bcRow (l:=x16) sl82 (Nat.le_refl _) q⟩,⟨_,q,bcBox (all2_free q)⟩,trivial⟩ ?_
         exact hJ2 _ h
     ·rw [if_neg c48] at h
      refine .condF q (df c48)<|.exit q<|.keepL [2] [(13,.own 0 x15.length)] [⟨1,x15.map (cSl (cInt .i64)),0,none⟩] (by decide) (by decide) ⟨.own q,trivial⟩ ⟨⟨_,q,bcRow (l:=x15) sl40 (Nat.le_refl _) q⟩,trivial⟩ ?_
      exact hx2 _ h
 ·rintro r_ rfl
  exact h
 ·rintro x1 z1 h hn1 hx1 hr1
  dsimp only [limit_Runs.b1] at h
  refine .seq<|.reg0 q (.o (ltI q q)<|.nil0)<|.seq ?_
  by_cases c5:x1 < ([a1,a2].length:Int)
  ·rw [if_pos c5] at h
   refine .condT q (dt c5)<|.skip<|.seq<|.block<|.seq ?_
   obtain ⟨g16_0,h⟩:=h
   refine .room 0<|.reg0 q (.o (ixO (l:=[a1,a2]) sl71 q q q q g16_0.1 g16_0.2)<|.o (ldOG (l:=[a1,a2]) (j:=x1) sl71 q sz36 ag36 q q (fun _=>q) g16_0.1 g16_0.2 (by decide) q)<|.op 4 q (alP (s:=2) ze36 ⟨q,by decide,q⟩ q)<|.o (stB (cs0:=[i6 0,nul]) (cs:=(TConf.lit (rdl [a1,a2] x1))) (cs1:=(TConf.lit (rdl [a1,a2] x1))) q q sz36 q ⟨Nat.le_of_ble_eq_true q,q⟩ q)<|.nil0) ?_
   refine .seq ?_
   obtain ⟨t17_2,g17_2,h⟩:=h
   refine .reg0 q (.o (ldG q sz28 ag28 q)<|.o (ldG q sz36 ag36 q)<|.c q go31 q q q (steps_Check.D g17_2)<|.a q<|.nil0)<|.seq<|.reg0 q (.o (mvV q)<|.o (neI q q)<|.nil0) ?_
   by_cases c6:t17_2=0
   ·rw [if_pos c6] at h
    refine .condF q (nf c6)<|.skip<|.inBlock<|.reg0 q (.o (addI q q)<|.o (mvV q)<|.nil0)<|.keepL [0,1,2,3] [(3,i6 a3),(4,.ptr 0 1 6 0 0),(5,.ptr 1 1 2 0 0),(6,.ptr 2 1 2 0 0),(24,.own 3 ([a1,a2].length)),(25,i6 ([a1,a2].length:Int)),(26,i6 (IntKind.i64.wrap (x1 + 1)))] [⟨6,[(TPds.lit a0)],0,none⟩,⟨2,[(TConf.lit a1)],0,none⟩,⟨2,[(TConf.lit a2)],0,none⟩,⟨2,[a1,a2].map TConf.cells,0,none⟩] (by decide) (by decide) ⟨.free q q,.ptr q,.ptr q,.ptr q,.own q,.free q q,.free q q,trivial⟩ ⟨⟨_,q,bcBox (all2_free q)⟩,⟨_,q,bcBox (all2_free q)⟩,⟨_,q,bcBox (all2_free q)⟩,⟨_,q,bcRow (l:=[a1,a2]) sl71 (Nat.le_refl _) q⟩,trivial⟩ ?_
    exact hn1 _ h
   ·rw [if_neg c6] at h
    refine .condT q (nt c6)<|.seq<|.reg0 q (.o (mvV q)<|.o (asV q)<|.o (asV q)<|.nil0) ?_
    have q3:=hr1 _ h
    replace q3:=q3.symm
    subst q3
    refine .k [(8,.rows (([]:List (List Int)).map (cSl (cInt .i64)))),(9,i6 t17_2)] ⟨.nil,.free q q,trivial⟩ ?_
    exact .ret q
  ·rw [if_neg c5] at h
   refine .condF q (df c5)<|.exit q<|.keepL [0,1,2] [(3,i6 a3),(4,.ptr 0 1 6 0 0),(5,.ptr 1 1 2 0 0),(6,.ptr 2 1 2 0 0)] [⟨6,[(TPds.lit a0)],0,none⟩,⟨2,[(TConf.lit a1)],0,none⟩,⟨2,[(TConf.lit a2)],0,none⟩] (by decide) (by decide) ⟨.free q q,.ptr q,.ptr q,.ptr q,trivial⟩ ⟨⟨_,q,bcBox (all2_free q)⟩,⟨_,q,bcBox (all2_free q)⟩,⟨_,q,bcBox (all2_free q)⟩,trivial⟩ ?_
   exact hx1 _ h
def weight_zero.step (self66:TSpace→TWeight→Prop) (a0:TSpace) (r:TWeight):Prop :=
 if a0.Tag=5 then (((InR 0 a0.Parts.length))∧∃ t3_4:TWeight,(self66 (rdl a0.Parts 0) t3_4)∧((InR 1 a0.Parts.length))∧∃ t3_9:TWeight,(self66 (rdl a0.Parts 1) t3_9)∧r=(TWeight.mk false 0 (TFacts.mk 0 []) [] [t3_4,t3_9])) else (r=(TWeight.mk true 0 (TFacts.mk 0 []) [] []))
theorem weight_zero.stepD {self66:TSpace→TWeight→Prop} {a0:TSpace} (hs66:∀ z0_ r_,self66 z0_ r_→D Tryz.prog X (.callH 66 [.agg (TSpace.lit z0_)] [] (.agg (TWeight.lit r_)) [])) {r:TWeight} (h:weight_zero.step self66 a0 r):D Tryz.prog X (.callH 66 [.agg (TSpace.lit a0)] [] (.agg (TWeight.lit r)) []):=by
 unfold weight_zero.step at h
 refine .enter 19 0 fn66 q q q<|.seq<|.room 0<|.room 0<|.reg0 q (.o (bxP (s:=3) (cs:=(TSpace.lit a0)) q ⟨q,by decide,q⟩ q)<|.op 1 q (alP (s:=6) ze53 ⟨q,by decide,q⟩ q)<|.nil0)<|.seq<|.seq<|.reg0 q (.o (faP fa25_0 q)<|.o (ldP q sz22 ag22 q)<|.o (neI q q)<|.nil0) ?_
 by_cases c1:a0.Tag=5
 ·rw [if_pos c1] at h
  refine .condF q (nf c1)<|.skip<|.seq ?_
  obtain ⟨g3_2,h⟩:=h
  obtain ⟨t3_4,g3_4,h⟩:=h
  obtain ⟨g3_7,h⟩:=h
  obtain ⟨t3_9,g3_9,h⟩:=h
  refine .room 0 ?_
  refine .reg1 (e1:=listEnv [(2,.ptr 1 1 6 0 0)]) (H1:=[⟨3,[(TSpace.lit a0)],0,none⟩,⟨6,[[bo false,i6 0,u6 0,nul,nul,.own 2 ([t3_4,t3_9].length)]],0,none⟩,⟨6,[t3_4,t3_9].map TWeight.cells,0,none⟩]) q ?_ ?_
  ·exact .drawM [(11,18,.agg [bo false,i6 0,u6 0,nul,nul,.own 2 ([t3_4,t3_9].length)]),(10,17,.own 2 ([t3_4,t3_9].length)),(9,16,.agg (TWeight.lit t3_9)),(8,15,.agg (TSpace.lit (rdl a0.Parts 1))),(7,14,.cptr (TSpace.lit (rdl a0.Parts 1)) 0),(6,13,.rows (a0.Parts.map TSpace.cells)),(5,12,.ptr 0 1 3 0 2),(4,11,.agg (TWeight.lit t3_4)),(3,10,.agg (TSpace.lit (rdl a0.Parts 0))),(2,9,.cptr (TSpace.lit (rdl a0.Parts 0)) 0),(1,8,.rows (a0.Parts.map TSpace.cells)),(0,7,.ptr 0 1 3 0 2)] [(12,1,⟨6,[[bo false,i6 0,u6 0,nul,nul,.own 2 ([t3_4,t3_9].length)]],0,none⟩),(10,2,⟨6,[t3_4,t3_9].map TWeight.cells,0,none⟩)] [[],[0],[1,0],[2,1,0],[3,2,1,0],[],[5],[6,5],[7,6,5],[8,7,6,5,4,3,2,1,0],[4,3,2,1,0,9,8,7,6,5],[10,4,3,2,1,0,9,8,7,6,5],[11,10,4,3,2,1,0,9,8,7,6,5]] (by rfl) (by rfl) (by rfl) (by exact ⟨oP (fun _=>faP fa25_2 q) q,oP (fun _=>ldP q sz23 ag23 q) q,oP (fun _=>ixR (l:=a0.Parts) (lit:=TSpace.lit) sl23 q q TSpace.cells_lit g3_2.1 g3_2.2) q,oP (fun _=>ldCG q sz25 ag25 q) q,fun S hS hD hn=>.oneI hS hD hn q q (callee_of q go66 q) (.pure q q (hs66 _ _ g3_4)) q q q,oP (fun _=>faP fa25_2 q) q,oP (fun _=>ldP q sz23 ag23 q) q,oP (fun _=>ixR (l:=a0.Parts) (lit:=TSpace.lit) sl23 q q TSpace.cells_lit g3_7.1 g3_7.2) q,oP (fun _=>ldCG q sz25 ag25 q) q,fun S hS hD hn=>.oneI hS hD hn q q (callee_of q go66 q) (.pure q q (hs66 _ _ g3_9)) q q q,oW 2 (fun _=>bldT (s:=6) (cs:=[bo t3_4.Zero,i6 t3_4.Cost,u6 t3_4.Facts.Gen,.rows (t3_4.Facts.Rows.map (cInt .u64)),.rows (t3_4.Cells.map TCell.cells),.rows (t3_4.Parts.map TWeight.cells),bo t3_9.Zero,i6 t3_9.Cost,u6 t3_9.Facts.Gen,.rows (t3_9.Facts.Rows.map (cInt .u64)),.rows (t3_9.Cells.map TCell.cells),.rows (t3_9.Parts.map TWeight.cells)]) (cf:=TWeight.cells) [t3_4,t3_9] un51 sz53 ze53 ⟨by decide,q,by decide⟩ q q q (by simp only [List.map,TWeight.cells_lit]; rfl) q) q fun _=>q,oP (fun _=>bldS (cs:=[bo false,i6 0,u6 0,nul,nul,.own 2 ([t3_4,t3_9].length)]) ze53 pl53 q q) q,fun S hS hD hn=>.one0 0 q q (stB (cs0:=GE_c0) (cs:=[bo false,i6 0,u6 0,nul,nul,.own 2 ([t3_4,t3_9].length)]) (cs1:=[bo false,i6 0,u6 0,nul,nul,.own 2 ([t3_4,t3_9].length)]) q q sz53 q ⟨Nat.le_of_ble_eq_true q,q⟩ q) (drawE_other _ _ _ _ q) q,trivial⟩) _ (by exact ⟨.ptr q,trivial⟩) (by rfl)
  replace h:=h.symm
  subst h
  refine .k [(2,.cptr [bo false,i6 0,u6 0,.rows (([]:List Int).map (cInt .u64)),.rows (([]:List TCell).map TCell.cells),.rows ([t3_4,t3_9].map TWeight.cells)] 0)] ⟨cFixP q q (.cons (.free q q)<|.cons (.free q q)<|.cons (.free q q)<|.cons (.nil)<|.cons (.nil)<|.cons (cFixO (l:=[t3_4,t3_9]) sl51 q q q q)<|.nil),trivial⟩ ?_
  exact .ret q
 ·rw [if_neg c1] at h
  refine .condT q (nt c1)<|.seq<|.reg0 q (.o (bldS (cs:=GE_c1) ze53 pl53 q q)<|.o (stB (cs0:=GE_c0) (cs:=GE_c1) (cs1:=GE_c1) q q sz53 q ⟨Nat.le_of_ble_eq_true q,q⟩ q)<|.nil0) ?_
  replace h:=h.symm
  subst h
  refine .k [(2,.cptr [bo true,i6 0,u6 0,.rows (([]:List Int).map (cInt .u64)),.rows (([]:List TCell).map TCell.cells),.rows (([]:List TWeight).map TWeight.cells)] 0)] ⟨cFixP q q (.cons (.free q q)<|.cons (.free q q)<|.cons (.free q q)<|.cons (.nil)<|.cons (.nil)<|.cons (.nil)<|.nil),trivial⟩ ?_
  exact .ret q
def weight_zero.fN:Nat→TSpace→TWeight→Prop
 | 0=>fun _ _=>False
 | n + 1=>weight_zero.step (weight_zero.fN n)
theorem weight_zero.ND:∀ (n:Nat) {a0:TSpace} {r:TWeight} (h:weight_zero.fN n a0 r),D Tryz.prog X (.callH 66 [.agg (TSpace.lit a0)] [] (.agg (TWeight.lit r)) [])
 | 0,_,_,h=>h.elim
 | n + 1,_,_,h=>weight_zero.stepD (fun _ _ h=>weight_zero.ND n h) h
def weight_zero.f (a0:TSpace) (r:TWeight):Prop:=∃ n,weight_zero.fN n a0 r
theorem weight_zero.D {a0 r} (h:weight_zero.f a0 r):D Tryz.prog X (.callH 66 [.agg (TSpace.lit a0)] [] (.agg (TWeight.lit r)) []):=by obtain ⟨n,h⟩:=h; exact weight_zero.ND n h
def weight_Zero.f (a0:TSpace) (r:TWeight × Int):Prop :=
 ∃ t2_1:Int,(weight_Space.f a0 t2_1)∧if t2_1=0 then (∃ t4_1:TWeight,(weight_zero.f a0 t4_1)∧r=(t4_1,0)) else (r=((TWeight.mk false 0 (TFacts.mk 0 []) [] []),t2_1))
theorem weight_Zero.D {a0 r} (h:weight_Zero.f a0 r):D Tryz.prog X (.callH 36 [.agg (TSpace.lit a0)] [] (.tuple [.agg (TWeight.lit r.1),.val (.int .i64 r.2)]) []):=by
 unfold weight_Zero.f at h
 refine .enter 13 0 fn36 q q q<|.seq<|.room 0<|.room 0<|.reg0 q (.o (bxP (s:=3) (cs:=(TSpace.lit a0)) q ⟨q,by decide,q⟩ q)<|.op 1 q (alP (s:=6) ze53 ⟨q,by decide,q⟩ q)<|.o (asV q)<|.nil0)<|.seq<|.seq ?_
 obtain ⟨t2_1,g2_1,h⟩:=h
 refine .reg0 q (.o (ldG q sz25 ag25 q)<|.c q go65 q q q (weight_Space.D g2_1)<|.a q<|.nil0)<|.seq<|.reg0 q (.o (mvV q)<|.o (neI q q)<|.nil0) ?_
 by_cases c1:t2_1=0
 ·rw [if_pos c1] at h
  refine .condF q (nf c1)<|.skip<|.seq ?_
  obtain ⟨t4_1,g4_1,h⟩:=h
  refine .reg0 q (.o (ldG q sz25 ag25 q)<|.c q go66 q q q (weight_zero.D g4_1)<|.o (stB (cs0:=GE_c0) (cs:=(TWeight.lit t4_1)) (cs1:=(TWeight.lit t4_1)) q q sz53 q ⟨Nat.le_of_ble_eq_true q,q⟩ q)<|.a q<|.nil0) ?_
  replace h:=h.symm
  subst h
  refine .k [(2,.cptr (TWeight.lit t4_1) 0),(3,i6 0)] ⟨cFixP q q (.cons (.free q q)<|.cons (.free q q)<|.cons (.free q q)<|.cons (.free q q)<|.cons (.free q q)<|.cons (.free q q)<|.nil),.free q q,trivial⟩ ?_
  exact .ret q
 ·rw [if_neg c1] at h
  refine .condT q (nt c1)<|.seq<|.reg0 q (.o (bldS (cs:=GE_c0) ze53 pl53 q q)<|.o (mvV q)<|.o (stB (cs0:=GE_c0) (cs:=GE_c0) (cs1:=GE_c0) q q sz53 q ⟨Nat.le_of_ble_eq_true q,q⟩ q)<|.o (asV q)<|.nil0) ?_
  replace h:=h.symm
  subst h
  refine .k [(2,.cptr GE_c2 0),(3,i6 t2_1)] ⟨cFixP q q (.cons (.free q q)<|.cons (.free q q)<|.cons (.free q q)<|.cons (.nil)<|.cons (.nil)<|.cons (.nil)<|.nil),.free q q,trivial⟩ ?_
  exact .ret q
def facts_One.b1 (a0:Int):((List Int) × Int)→Rnd (((List Int) × Int)) ((List Int)) (TFacts × Int)→Prop:=fun (x1,x2) z1=>if x2 < ((List.replicate (Int.toNat a0) (0:Int)).length:Int) then ((((0:Int)≤(IntKind.u64.wrap x2)))∧((InR x2 x1.length))∧z1=.next ((setl x1 x2 (shlI .u64 1 (IntKind.u64.wrap x2))),(IntKind.i64.wrap (x2 + 1)))) else (z1=.exit x1)
def facts_One.f (a0:Int) (r:TFacts × Int):Prop :=
 ∃ t2_1:Int × Int,(bits_Full.f a0 t2_1)∧if t2_1.2=0 then ((((0:Int)≤a0∧Fits a0 8))∧∃ o1:Fin ((List Int)) (TFacts × Int),Loop (facts_One.b1 a0) ((List.replicate (Int.toNat a0) (0:Int)),0) o1∧o1.on (fun x3=>r=((TFacts.mk 0 x3),0)) (fun r_=>r=r_)) else (r=((TFacts.mk 0 []),31))
theorem facts_One.D {a0 r} (h:facts_One.f a0 r):D Tryz.prog X (.callH 142 [.val (.int .i64 a0)] [] (.tuple [.agg (TFacts.lit r.1),.val (.int .i64 r.2)]) []):=by
 unfold facts_One.f at h
 refine .enter 34 0 fn142 q q q<|.seq<|.room 0<|.reg0 q (.o (alP (s:=2) ze49 ⟨q,by decide,q⟩ q)<|.o (asV q)<|.nil0)<|.seq<|.seq ?_
 obtain ⟨t2_1,g2_1,h⟩:=h
 refine .reg0 q (.m q<|.c q go168 q q q (bits_Full.D g2_1)<|.o (mvT q)<|.o (exT q q)<|.o (exT q q)<|.a q<|.a q<|.nil0)<|.seq<|.reg0 q (.o (mvV q)<|.o (neI q q)<|.nil0) ?_
 by_cases c1:t2_1.2=0
 ·rw [if_pos c1] at h
  refine .condF q (nf c1)<|.skip<|.seq ?_
  obtain ⟨g4_1,h⟩:=h
  refine .room 0<|.room 0<|.reg0 q (.o (mvV q)<|.op 1 q (mkS (z0:=(0:Int)) sl47 un47 ze46 q q g4_1.1 g4_1.2 q)<|.o (bldS (cs:=[u6 0,.own 1 ((List.replicate (Int.toNat a0) (0:Int)).length)]) ze49 pl49 q q)<|.op 2 q (alP (s:=2) ze49 ⟨q,by decide,q⟩ q)<|.o (stB (cs0:=[u6 0,nul]) (cs:=[u6 0,.own 1 ((List.replicate (Int.toNat a0) (0:Int)).length)]) (cs1:=[u6 0,.own 1 ((List.replicate (Int.toNat a0) (0:Int)).length)]) q q sz49 q ⟨Nat.le_of_ble_eq_true q,q⟩ q)<|.nil0) ?_
  refine .seq<|.seq<|.reg0 q (.o (faP fa49_1 q)<|.o (ldP q sz47 ag47 q)<|.o (lnO (l:=(List.replicate (Int.toNat a0) (0:Int))) sl47 q q q)<|.o (mvV q)<|.nil0)<|.block<|.keepL [0,2,1] [(2,.ptr 0 1 2 0 0),(6,.ptr 1 1 2 0 0),(21,i6 ((List.replicate (Int.toNat a0) (0:Int)).length:Int)),(22,i6 0)] [⟨2,[[u6 0,nul]],0,none⟩,⟨2,[[u6 0,.own 2 ((List.replicate (Int.toNat a0) (0:Int)).length)]],0,none⟩,⟨1,(List.replicate (Int.toNat a0) (0:Int)).map (cInt .u64),0,none⟩] (by decide) (by decide) ⟨.ptr q,.ptr q,.free q q,.free q q,trivial⟩ ⟨⟨_,q,bcBox (all2_free q)⟩,⟨_,q,bcBox (.cons (.free q q)<|.cons (.own q)<|.nil)⟩,⟨_,q,bcRow (l:=(List.replicate (Int.toNat a0) (0:Int))) sl47 (Nat.le_refl _) q⟩,trivial⟩ ?_
  obtain ⟨o1,hL1,h⟩:=h
  refine .loopB (facts_One.b1 a0) (fun (x1,x2)=>listEnv [(2,.ptr 0 1 2 0 0),(6,.ptr 1 1 2 0 0),(21,i6 ((List.replicate (Int.toNat a0) (0:Int)).length:Int)),(22,i6 x2)]) (fun (x1,x2)=>[⟨2,[[u6 0,nul]],0,none⟩,⟨2,[[u6 0,.own 2 x1.length]],0,none⟩,⟨1,x1.map (cInt .u64),0,none⟩]) (fun x3=>listEnv [(2,.ptr 0 1 2 0 0),(6,.ptr 1 1 2 0 0)]) (fun x3=>[⟨2,[[u6 0,nul]],0,none⟩,⟨2,[[u6 0,.own 2 x3.length]],0,none⟩,⟨1,x3.map (cInt .u64),0,none⟩]) hL1 (fun r_=>r=r_) ?_ ?_ ?_
  ·rintro x3 rfl
   try dsimp only [Fin.on] at h
   refine .seq<|.reg0 q (.o (ldG q sz49 ag49 q)<|.o (stB (cs0:=[u6 0,nul]) (cs:=[u6 0,.own 2 x3.length]) (cs1:=[u6 0,.own 2 x3.length]) q q sz49 q ⟨Nat.le_of_ble_eq_true q,q⟩ q)<|.o (asV q)<|.nil0) ?_
   replace h:=h.symm
   subst h
   refine .k [(2,.cptr [u6 0,.rows (x3.map (cInt .u64))] 0),(3,i6 0)] ⟨cFixP q q (.cons (.free q q)<|.cons (cFixO (l:=x3) sl47 q q q q)<|.nil),.free q q,trivial⟩ ?_
   exact .ret q
  ·rintro r_ rfl
   exact h
  ·rintro ⟨x1,x2⟩ z1 h hn1 hx1 hr1
   dsimp only [facts_One.b1] at h
   refine .seq<|.reg0 q (.o (ltI q q)<|.nil0)<|.seq ?_
   by_cases c4:x2 < ((List.replicate (Int.toNat a0) (0:Int)).length:Int)
   ·rw [if_pos c4] at h
    refine .condT q (dt c4)<|.skip<|.seq<|.block<|.seq<|.reg0 q (.o (mvV q)<|.o (asV q)<|.nil0) ?_
    obtain ⟨g16_5,h⟩:=h
    obtain ⟨g16_6,h⟩:=h
    refine .reg0 q (.o (faP fa49_1 q)<|.o (ldP q sz47 ag47 q)<|.m q<|.m q<|.o (convI un3 un220 q)<|.o (shl_ q q g16_5)<|.o (ixO (l:=x1) sl47 q q q q g16_6.1 g16_6.2)<|.o (stO (l:=x1) (j:=x2) (cs:=[u6 (shlI .u64 1 (IntKind.u64.wrap x2))]) (shlI .u64 1 (IntKind.u64.wrap x2)) sl47 q q sz46 q q g16_6.1 g16_6.2 (Nat.zero_le _) ⟨Nat.le_of_ble_eq_true q,q⟩ q)<|.nil0) ?_
    refine .inBlock<|.reg0 q (.o (addI q q)<|.o (mvV q)<|.nil0)<|.keepL [0,1,2] [(2,.ptr 0 1 2 0 0),(6,.ptr 1 1 2 0 0),(21,i6 ((List.replicate (Int.toNat a0) (0:Int)).length:Int)),(22,i6 (IntKind.i64.wrap (x2 + 1)))] [⟨2,[[u6 0,nul]],0,none⟩,⟨2,[[u6 0,.own 2 ((setl x1 x2 (shlI .u64 1 (IntKind.u64.wrap x2))).length)]],0,none⟩,⟨1,(setl x1 x2 (shlI .u64 1 (IntKind.u64.wrap x2))).map (cInt .u64),0,none⟩] (by decide) (by decide) ⟨.ptr q,.ptr q,.free q q,.free q q,trivial⟩ ⟨⟨_,q,bcBox (all2_free q)⟩,⟨_,q,bcBox (.cons (.free q q)<|.cons (cOwnE q (by simp only [setl,List.length_set]))<|.nil)⟩,⟨_,q,bcRow (l:=(setl x1 x2 (shlI .u64 1 (IntKind.u64.wrap x2)))) sl47 (Nat.le_refl _) q⟩,trivial⟩ ?_
    exact hn1 _ h
   ·rw [if_neg c4] at h
    refine .condF q (df c4)<|.exit q<|.keepL [0,1,2] [(2,.ptr 0 1 2 0 0),(6,.ptr 1 1 2 0 0)] [⟨2,[[u6 0,nul]],0,none⟩,⟨2,[[u6 0,.own 2 x1.length]],0,none⟩,⟨1,x1.map (cInt .u64),0,none⟩] (by decide) (by decide) ⟨.ptr q,.ptr q,trivial⟩ ⟨⟨_,q,bcBox (all2_free q)⟩,⟨_,q,bcBox (.cons (.free q q)<|.cons (.own q)<|.nil)⟩,⟨_,q,bcRow (l:=x1) sl47 (Nat.le_refl _) q⟩,trivial⟩ ?_
    exact hx1 _ h
 ·rw [if_neg c1] at h
  refine .condT q (nt c1)<|.seq<|.reg0 q (.o (bldS (cs:=[u6 0,nul]) ze49 pl49 q q)<|.o (stB (cs0:=[u6 0,nul]) (cs:=[u6 0,nul]) (cs1:=[u6 0,nul]) q q sz49 q ⟨Nat.le_of_ble_eq_true q,q⟩ q)<|.o (asV q)<|.nil0) ?_
  replace h:=h.symm
  subst h
  refine .k [(2,.cptr [u6 0,.rows (([]:List Int).map (cInt .u64))] 0),(3,i6 31)] ⟨cFixP q q (.cons (.free q q)<|.cons (.nil)<|.nil),.free q q,trivial⟩ ?_
  exact .ret q
def cells_one.b1 (a0:Int):((List TCell) × Int)→Rnd (((List TCell) × Int)) ((List TCell)) ((List TCell))→Prop:=fun (x1,x2) z1=>if x2 < a0 then ((((0:Int)≤x2))∧((InR x2 x1.length))∧z1=.next ((setl x1 x2 (TCell.mk (shlI .u64 1 x2) ((rdl x1 x2).Kind) ((rdl x1 x2).K))),(IntKind.i64.wrap (x2 + 1)))) else (z1=.exit x1)
def cells_one.f (a0:Int) (r:(List TCell)):Prop :=
 (((0:Int)≤a0∧Fits a0 24))∧∃ o1:Fin ((List TCell)) ((List TCell)),Loop (cells_one.b1 a0) ((List.replicate (Int.toNat a0) (TCell.mk 0 0 0)),0) o1∧o1.on (fun x3=>r=x3) (fun r_=>r=r_)
theorem cells_one.D {a0 r} (h:cells_one.f a0 r):D Tryz.prog X (.callH 170 [.val (.int .i64 a0)] [] (.rows (r.map TCell.cells)) []):=by
 unfold cells_one.f at h
 refine .enter 19 0 fn170 q q q<|.seq<|.reg0 q (.o (asV q)<|.nil0)<|.seq ?_
 obtain ⟨g2_1,h⟩:=h
 refine .room 0<|.reg0 q (.o (mvV q)<|.o (mkS (z0:=(TCell.mk 0 0 0)) sl50 un50 ze97 q q g2_1.1 g2_1.2 q)<|.o (asO q)<|.nil0)<|.seq<|.seq<|.reg0 q (.o (mvV q)<|.o (mvV q)<|.nil0)<|.block<|.keepL [0] [(3,.own 0 ((List.replicate (Int.toNat a0) (TCell.mk 0 0 0)).length)),(7,i6 a0),(8,i6 0)] [⟨3,(List.replicate (Int.toNat a0) (TCell.mk 0 0 0)).map TCell.cells,0,none⟩] (by decide) (by decide) ⟨.own q,.free q q,.free q q,trivial⟩ ⟨⟨_,q,bcRow (l:=(List.replicate (Int.toNat a0) (TCell.mk 0 0 0))) sl50 (Nat.le_refl _) q⟩,trivial⟩ ?_
 obtain ⟨o1,hL1,h⟩:=h
 refine .loopB (cells_one.b1 a0) (fun (x1,x2)=>listEnv [(3,.own 0 x1.length),(7,i6 a0),(8,i6 x2)]) (fun (x1,x2)=>[⟨3,x1.map TCell.cells,0,none⟩]) (fun x3=>listEnv [(3,.own 0 x3.length)]) (fun x3=>[⟨3,x3.map TCell.cells,0,none⟩]) hL1 (fun r_=>r=r_) ?_ ?_ ?_
 ·rintro x3 rfl
  try dsimp only [Fin.on] at h
  refine .seq<|.reg0 q (.o (mvO q)<|.o (asO q)<|.nil0) ?_
  replace h:=h.symm
  subst h
  refine .k [(2,.rows (x3.map TCell.cells))] ⟨cFixO (l:=x3) sl50 q q q q,trivial⟩ ?_
  exact .ret q
 ·rintro r_ rfl
  exact h
 ·rintro ⟨x1,x2⟩ z1 h hn1 hx1 hr1
  dsimp only [cells_one.b1] at h
  refine .seq<|.reg0 q (.o (ltI q q)<|.nil0)<|.seq ?_
  by_cases c3:x2 < a0
  ·rw [if_pos c3] at h
   refine .condT q (dt c3)<|.skip<|.seq<|.block<|.seq<|.reg0 q (.o (mvV q)<|.o (asV q)<|.nil0) ?_
   obtain ⟨g14_3,h⟩:=h
   obtain ⟨g14_4,h⟩:=h
   refine .reg0 q (.o (mvO q)<|.m q<|.m q<|.o (shl_ q q g14_3)<|.o (ixO (l:=x1) sl50 q q q q g14_4.1 g14_4.2)<|.o (faP fa97_0 q)<|.o (stO (l:=x1) (j:=x2) (cs:=[u6 (shlI .u64 1 x2)]) (TCell.mk (shlI .u64 1 x2) ((rdl x1 x2).Kind) ((rdl x1 x2).K)) sl50 q q sz46 q q g14_4.1 g14_4.2 (Nat.zero_le _) ⟨Nat.le_of_ble_eq_true q,q⟩ q)<|.nil0)<|.inBlock<|.reg0 q (.o (addI q q)<|.o (mvV q)<|.nil0) ?_
   refine .keepL [0] [(3,.own 0 ((setl x1 x2 (TCell.mk (shlI .u64 1 x2) ((rdl x1 x2).Kind) ((rdl x1 x2).K))).length)),(7,i6 a0),(8,i6 (IntKind.i64.wrap (x2 + 1)))] [⟨3,(setl x1 x2 (TCell.mk (shlI .u64 1 x2) ((rdl x1 x2).Kind) ((rdl x1 x2).K))).map TCell.cells,0,none⟩] (by decide) (by decide) ⟨cOwnE q (by simp only [setl,List.length_set]),.free q q,.free q q,trivial⟩ ⟨⟨_,q,bcRow (l:=(setl x1 x2 (TCell.mk (shlI .u64 1 x2) ((rdl x1 x2).Kind) ((rdl x1 x2).K)))) sl50 (Nat.le_refl _) q⟩,trivial⟩ ?_
   exact hn1 _ h
  ·rw [if_neg c3] at h
   refine .condF q (df c3)<|.exit q<|.keepL [0] [(3,.own 0 x1.length)] [⟨3,x1.map TCell.cells,0,none⟩] (by decide) (by decide) ⟨.own q,trivial⟩ ⟨⟨_,q,bcRow (l:=x1) sl50 (Nat.le_refl _) q⟩,trivial⟩ ?_
   exact hx1 _ h
def cells_One.f (a0:Int) (r:(List TCell) × Int):Prop :=
 ∃ t2_1:Int,(cells_dims.f a0 t2_1)∧if t2_1=0 then (∃ t4_1:(List TCell),(cells_one.f a0 t4_1)∧r=(t4_1,0)) else (r=([],t2_1))
theorem cells_One.D {a0 r} (h:cells_One.f a0 r):D Tryz.prog X (.callH 143 [.val (.int .i64 a0)] [] (.tuple [.rows (r.1.map TCell.cells),.val (.int .i64 r.2)]) []):=by
 unfold cells_One.f at h
 refine .enter 12 0 fn143 q q q<|.seq<|.reg0 q (.o (asV q)<|.o (asV q)<|.nil0)<|.seq<|.seq ?_
 obtain ⟨t2_1,g2_1,h⟩:=h
 refine .reg0 q (.m q<|.c q go169 q q q (cells_dims.D g2_1)<|.a q<|.nil0)<|.seq<|.reg0 q (.o (mvV q)<|.o (neI q q)<|.nil0) ?_
 by_cases c1:t2_1=0
 ·rw [if_pos c1] at h
  refine .condF q (nf c1)<|.skip<|.seq ?_
  obtain ⟨t4_1,g4_1,h⟩:=h
  refine .reg0 q (.m q<|.c q go170 q q q (cells_one.D g4_1)<|.o (asR q)<|.a q<|.nil0) ?_
  replace h:=h.symm
  subst h
  refine .kf [(2,.rows (t4_1.map TCell.cells)),(3,i6 0)] q q ?_
  exact .ret q
 ·rw [if_neg c1] at h
  refine .condT q (nt c1)<|.seq<|.reg0 q (.o (mvV q)<|.o (asV q)<|.o (asV q)<|.nil0) ?_
  replace h:=h.symm
  subst h
  refine .k [(2,.rows (([]:List TCell).map TCell.cells)),(3,i6 t2_1)] ⟨.nil,.free q q,trivial⟩ ?_
  exact .ret q
def weight_one.step (self106:TSpace→TWeight→Prop) (a0:TSpace) (r:TWeight):Prop :=
 if a0.Tag=3 then (∃ t5_2:TFacts × Int,(facts_One.f a0.Dim t5_2)∧r=(TWeight.mk false 0 t5_2.1 [] [])) else (if a0.Tag=4 then (∃ t8_2:(List TCell) × Int,(cells_One.f a0.Dim t8_2)∧r=(TWeight.mk false 0 (TFacts.mk 0 []) t8_2.1 [])) else (if a0.Tag=5 then (((InR 0 a0.Parts.length))∧∃ t11_4:TWeight,(self106 (rdl a0.Parts 0) t11_4)∧((InR 1 a0.Parts.length))∧∃ t11_9:TWeight,(self106 (rdl a0.Parts 1) t11_9)∧r=(TWeight.mk false 0 (TFacts.mk 0 []) [] [t11_4,t11_9])) else (r=(TWeight.mk false 0 (TFacts.mk 0 []) [] []))))
theorem weight_one.stepD {self106:TSpace→TWeight→Prop} {a0:TSpace} (hs106:∀ z0_ r_,self106 z0_ r_→D Tryz.prog X (.callH 106 [.agg (TSpace.lit z0_)] [] (.agg (TWeight.lit r_)) [])) {r:TWeight} (h:weight_one.step self106 a0 r):D Tryz.prog X (.callH 106 [.agg (TSpace.lit a0)] [] (.agg (TWeight.lit r)) []):=by
 unfold weight_one.step at h
 refine .enter 39 0 fn106 q q q<|.seq<|.room 0<|.room 0<|.reg0 q (.o (bxP (s:=3) (cs:=(TSpace.lit a0)) q ⟨q,by decide,q⟩ q)<|.op 1 q (alP (s:=6) ze53 ⟨q,by decide,q⟩ q)<|.nil0)<|.seq<|.room 0<|.reg0 q (.op 2 q (alP (s:=6) ze53 ⟨q,by decide,q⟩ q)<|.nil0)<|.seq<|.seq<|.reg0 q (.o (faP fa25_0 q)<|.o (ldP q sz22 ag22 q)<|.nil0) ?_
 refine .block<|.seq<|.reg0 q (.o (eqI q q)<|.o (asV q)<|.nil0) ?_
 by_cases c1:a0.Tag=3
 ·rw [if_pos c1] at h
  refine .condT q (bt c1) ?_
  obtain ⟨t5_2,g5_2,h⟩:=h
  refine .reg0 q (.o (faP fa25_1 q)<|.o (ldP q sz3 ag3 q)<|.c q go142 q q q (facts_One.D g5_2)<|.o (mvT q)<|.o (exT q q)<|.o (exT q q)<|.o (faP fa53_2 q)<|.o (stB (cs0:=GE_c0) (cs:=(TFacts.lit t5_2.1)) (cs1:=[bo false,i6 0,u6 t5_2.1.Gen,.rows (t5_2.1.Rows.map (cInt .u64)),nul,nul]) q q sz49 q ⟨Nat.le_of_ble_eq_true q,q⟩ q)<|.nil0) ?_
  refine .inBlock<|.seq<|.reg0 q (.o (ldG q sz53 ag53 q)<|.o (stB (cs0:=GE_c0) (cs:=[bo false,i6 0,u6 t5_2.1.Gen,.rows (t5_2.1.Rows.map (cInt .u64)),nul,nul]) (cs1:=[bo false,i6 0,u6 t5_2.1.Gen,.rows (t5_2.1.Rows.map (cInt .u64)),nul,nul]) q q sz53 q ⟨Nat.le_of_ble_eq_true q,q⟩ q)<|.nil0) ?_
  replace h:=h.symm
  subst h
  refine .k [(2,.cptr [bo false,i6 0,u6 t5_2.1.Gen,.rows (t5_2.1.Rows.map (cInt .u64)),.rows (([]:List TCell).map TCell.cells),.rows (([]:List TWeight).map TWeight.cells)] 0)] ⟨cFixP q q (.cons (.free q q)<|.cons (.free q q)<|.cons (.free q q)<|.cons (.free q q)<|.cons (.nil)<|.cons (.nil)<|.nil),trivial⟩ ?_
  exact .ret q
 ·rw [if_neg c1] at h
  refine .condF q (bn c1)<|.seq<|.reg0 q (.o (eqI q q)<|.o (asV q)<|.nil0) ?_
  by_cases c2:a0.Tag=4
  ·rw [if_pos c2] at h
   refine .condT q (bt c2) ?_
   obtain ⟨t8_2,g8_2,h⟩:=h
   refine .reg0 q (.o (faP fa25_1 q)<|.o (ldP q sz3 ag3 q)<|.c q go143 q q q (cells_One.D g8_2)<|.o (mvT q)<|.o (exT q q)<|.o (exT q q)<|.o (faP fa53_3 q)<|.o (stB (cs0:=GE_c0) (cs:=[.rows (t8_2.1.map TCell.cells)]) (cs1:=[bo false,i6 0,u6 0,nul,.rows (t8_2.1.map TCell.cells),nul]) q q sz50 q ⟨Nat.le_of_ble_eq_true q,q⟩ q)<|.nil0) ?_
   refine .inBlock<|.seq<|.reg0 q (.o (ldG q sz53 ag53 q)<|.o (stB (cs0:=GE_c0) (cs:=[bo false,i6 0,u6 0,nul,.rows (t8_2.1.map TCell.cells),nul]) (cs1:=[bo false,i6 0,u6 0,nul,.rows (t8_2.1.map TCell.cells),nul]) q q sz53 q ⟨Nat.le_of_ble_eq_true q,q⟩ q)<|.nil0) ?_
   replace h:=h.symm
   subst h
   refine .k [(2,.cptr [bo false,i6 0,u6 0,.rows (([]:List Int).map (cInt .u64)),.rows (t8_2.1.map TCell.cells),.rows (([]:List TWeight).map TWeight.cells)] 0)] ⟨cFixP q q (.cons (.free q q)<|.cons (.free q q)<|.cons (.free q q)<|.cons (.nil)<|.cons (.free q q)<|.cons (.nil)<|.nil),trivial⟩ ?_
   exact .ret q
  ·rw [if_neg c2] at h
   refine .condF q (bn c2)<|.seq<|.reg0 q (.o (eqI q q)<|.o (asV q)<|.nil0) ?_
   by_cases c3:a0.Tag=5
   ·rw [if_pos c3] at h
    refine .condT q (bt c3) ?_
    obtain ⟨g11_2,h⟩:=h
    obtain ⟨t11_4,g11_4,h⟩:=h
    obtain ⟨g11_7,h⟩:=h
    obtain ⟨t11_9,g11_9,h⟩:=h
    refine .room 0 ?_
    refine .reg1 (e1:=listEnv [(2,.ptr 1 1 6 0 0),(3,.ptr 2 1 6 0 0)]) (H1:=[⟨3,[(TSpace.lit a0)],0,none⟩,⟨6,[GE_c0],0,none⟩,⟨6,[[bo false,i6 0,u6 0,nul,nul,.own 3 ([t11_4,t11_9].length)]],0,none⟩,⟨6,[t11_4,t11_9].map TWeight.cells,0,none⟩]) q ?_ ?_
    ·exact .drawM [(11,37,.ptr 2 1 6 0 5),(10,36,.own 3 ([t11_4,t11_9].length)),(9,35,.agg (TWeight.lit t11_9)),(8,34,.agg (TSpace.lit (rdl a0.Parts 1))),(7,33,.cptr (TSpace.lit (rdl a0.Parts 1)) 0),(6,32,.rows (a0.Parts.map TSpace.cells)),(5,31,.ptr 0 1 3 0 2),(4,30,.agg (TWeight.lit t11_4)),(3,29,.agg (TSpace.lit (rdl a0.Parts 0))),(2,28,.cptr (TSpace.lit (rdl a0.Parts 0)) 0),(1,27,.rows (a0.Parts.map TSpace.cells)),(0,26,.ptr 0 1 3 0 2)] [(12,2,⟨6,[[bo false,i6 0,u6 0,nul,nul,.own 3 ([t11_4,t11_9].length)]],0,none⟩),(10,3,⟨6,[t11_4,t11_9].map TWeight.cells,0,none⟩)] [[],[0],[1,0],[2,1,0],[3,2,1,0],[],[5],[6,5],[7,6,5],[8,7,6,5,4,3,2,1,0],[4,3,2,1,0,9,8,7,6,5],[0,1,2,3,4,5,6,7,8,9,10],[11,0,1,2,3,4,5,6,7,8,9,10]] (by rfl) (by rfl) (by rfl) (by exact ⟨oP (fun _=>faP fa25_2 q) q,oP (fun _=>ldP q sz23 ag23 q) q,oP (fun _=>ixR (l:=a0.Parts) (lit:=TSpace.lit) sl23 q q TSpace.cells_lit g11_2.1 g11_2.2) q,oP (fun _=>ldCG q sz25 ag25 q) q,fun S hS hD hn=>.oneI hS hD hn q q (callee_of q go106 q) (.pure q q (hs106 _ _ g11_4)) q q q,oP (fun _=>faP fa25_2 q) q,oP (fun _=>ldP q sz23 ag23 q) q,oP (fun _=>ixR (l:=a0.Parts) (lit:=TSpace.lit) sl23 q q TSpace.cells_lit g11_7.1 g11_7.2) q,oP (fun _=>ldCG q sz25 ag25 q) q,fun S hS hD hn=>.oneI hS hD hn q q (callee_of q go106 q) (.pure q q (hs106 _ _ g11_9)) q q q,oW 3 (fun _=>bldT (s:=6) (cs:=[bo t11_4.Zero,i6 t11_4.Cost,u6 t11_4.Facts.Gen,.rows (t11_4.Facts.Rows.map (cInt .u64)),.rows (t11_4.Cells.map TCell.cells),.rows (t11_4.Parts.map TWeight.cells),bo t11_9.Zero,i6 t11_9.Cost,u6 t11_9.Facts.Gen,.rows (t11_9.Facts.Rows.map (cInt .u64)),.rows (t11_9.Cells.map TCell.cells),.rows (t11_9.Parts.map TWeight.cells)]) (cf:=TWeight.cells) [t11_4,t11_9] un51 sz53 ze53 ⟨by decide,q,by decide⟩ q q q (by simp only [List.map,TWeight.cells_lit]; rfl) q) q fun _=>q,oP (fun _=>faP fa53_4 q) q,fun S hS hD hn=>.one0 0 q q (stB (cs0:=GE_c0) (cs:=[.own 3 ([t11_4,t11_9].length)]) (cs1:=[bo false,i6 0,u6 0,nul,nul,.own 3 ([t11_4,t11_9].length)]) q q sz51 q ⟨Nat.le_of_ble_eq_true q,q⟩ q) (drawE_other _ _ _ _ q) q,trivial⟩) _ (by exact ⟨.ptr q,.ptr q,trivial⟩) (by rfl)
    refine .inBlock<|.seq<|.reg0 q (.o (ldG q sz53 ag53 q)<|.o (stB (cs0:=GE_c0) (cs:=[bo false,i6 0,u6 0,nul,nul,.own 3 ([t11_4,t11_9].length)]) (cs1:=[bo false,i6 0,u6 0,nul,nul,.own 3 ([t11_4,t11_9].length)]) q q sz53 q ⟨Nat.le_of_ble_eq_true q,q⟩ q)<|.nil0) ?_
    replace h:=h.symm
    subst h
    refine .k [(2,.cptr [bo false,i6 0,u6 0,.rows (([]:List Int).map (cInt .u64)),.rows (([]:List TCell).map TCell.cells),.rows ([t11_4,t11_9].map TWeight.cells)] 0)] ⟨cFixP q q (.cons (.free q q)<|.cons (.free q q)<|.cons (.free q q)<|.cons (.nil)<|.cons (.nil)<|.cons (cFixO (l:=[t11_4,t11_9]) sl51 q q q q)<|.nil),trivial⟩ ?_
    exact .ret q
   ·rw [if_neg c3] at h
    refine .condF q (bn c3)<|.skip<|.inBlock<|.seq<|.reg0 q (.o (ldG q sz53 ag53 q)<|.o (stB (cs0:=GE_c0) (cs:=GE_c0) (cs1:=GE_c0) q q sz53 q ⟨Nat.le_of_ble_eq_true q,q⟩ q)<|.nil0) ?_
    replace h:=h.symm
    subst h
    refine .k [(2,.cptr GE_c2 0)] ⟨cFixP q q (.cons (.free q q)<|.cons (.free q q)<|.cons (.free q q)<|.cons (.nil)<|.cons (.nil)<|.cons (.nil)<|.nil),trivial⟩ ?_
    exact .ret q
def weight_one.fN:Nat→TSpace→TWeight→Prop
 | 0=>fun _ _=>False
 | n + 1=>weight_one.step (weight_one.fN n)
theorem weight_one.ND:∀ (n:Nat) {a0:TSpace} {r:TWeight} (h:weight_one.fN n a0 r),D Tryz.prog X (.callH 106 [.agg (TSpace.lit a0)] [] (.agg (TWeight.lit r)) [])
 | 0,_,_,h=>h.elim
 | n + 1,_,_,h=>weight_one.stepD (fun _ _ h=>weight_one.ND n h) h
def weight_one.f (a0:TSpace) (r:TWeight):Prop:=∃ n,weight_one.fN n a0 r
theorem weight_one.D {a0 r} (h:weight_one.f a0 r):D Tryz.prog X (.callH 106 [.agg (TSpace.lit a0)] [] (.agg (TWeight.lit r)) []):=by obtain ⟨n,h⟩:=h; exact weight_one.ND n h
def weight_One.f (a0:TSpace) (r:TWeight × Int):Prop :=
 ∃ t2_1:Int,(weight_Space.f a0 t2_1)∧if t2_1=0 then (∃ t4_1:TWeight,(weight_one.f a0 t4_1)∧r=(t4_1,0)) else (r=((TWeight.mk false 0 (TFacts.mk 0 []) [] []),t2_1))
theorem weight_One.D {a0 r} (h:weight_One.f a0 r):D Tryz.prog X (.callH 67 [.agg (TSpace.lit a0)] [] (.tuple [.agg (TWeight.lit r.1),.val (.int .i64 r.2)]) []):=by
 unfold weight_One.f at h
 refine .enter 13 0 fn67 q q q<|.seq<|.room 0<|.room 0<|.reg0 q (.o (bxP (s:=3) (cs:=(TSpace.lit a0)) q ⟨q,by decide,q⟩ q)<|.op 1 q (alP (s:=6) ze53 ⟨q,by decide,q⟩ q)<|.o (asV q)<|.nil0)<|.seq<|.seq ?_
 obtain ⟨t2_1,g2_1,h⟩:=h
 refine .reg0 q (.o (ldG q sz25 ag25 q)<|.c q go65 q q q (weight_Space.D g2_1)<|.a q<|.nil0)<|.seq<|.reg0 q (.o (mvV q)<|.o (neI q q)<|.nil0) ?_
 by_cases c1:t2_1=0
 ·rw [if_pos c1] at h
  refine .condF q (nf c1)<|.skip<|.seq ?_
  obtain ⟨t4_1,g4_1,h⟩:=h
  refine .reg0 q (.o (ldG q sz25 ag25 q)<|.c q go106 q q q (weight_one.D g4_1)<|.o (stB (cs0:=GE_c0) (cs:=(TWeight.lit t4_1)) (cs1:=(TWeight.lit t4_1)) q q sz53 q ⟨Nat.le_of_ble_eq_true q,q⟩ q)<|.a q<|.nil0) ?_
  replace h:=h.symm
  subst h
  refine .k [(2,.cptr (TWeight.lit t4_1) 0),(3,i6 0)] ⟨cFixP q q (.cons (.free q q)<|.cons (.free q q)<|.cons (.free q q)<|.cons (.free q q)<|.cons (.free q q)<|.cons (.free q q)<|.nil),.free q q,trivial⟩ ?_
  exact .ret q
 ·rw [if_neg c1] at h
  refine .condT q (nt c1)<|.seq<|.reg0 q (.o (bldS (cs:=GE_c0) ze53 pl53 q q)<|.o (mvV q)<|.o (stB (cs0:=GE_c0) (cs:=GE_c0) (cs1:=GE_c0) q q sz53 q ⟨Nat.le_of_ble_eq_true q,q⟩ q)<|.o (asV q)<|.nil0) ?_
  replace h:=h.symm
  subst h
  refine .k [(2,.cptr GE_c2 0),(3,i6 t2_1)] ⟨cFixP q q (.cons (.free q q)<|.cons (.free q q)<|.cons (.free q q)<|.cons (.nil)<|.cons (.nil)<|.cons (.nil)<|.nil),.free q q,trivial⟩ ?_
  exact .ret q
def cost_Sum.b1 (a0:Int) (a1:List Int):(Int × Int)→Rnd ((Int × Int)) Int (Int × Int)→Prop:=fun (x1,x2) z1=>if x2 < (a1.length:Int) then (((InR x2 a1.length))∧if (rdl a1 x2)=(-1) then (z1=.ret ((-1),0)) else (z1=.next ((if a0 < (IntKind.i64.wrap (x1 + (rdl a1 x2))) then a0 else (IntKind.i64.wrap (x1 + (rdl a1 x2)))),(IntKind.i64.wrap (x2 + 1))))) else (z1=.exit x1)
def cost_Sum.f (a0:Int) (a1:List Int) (r:Int × Int):Prop :=
 ∃ t2_2:Int,(cost_checks.f a0 a1 t2_2)∧if t2_2=0 then (∃ o1:Fin Int (Int × Int),Loop (cost_Sum.b1 a0 a1) (0,0) o1∧o1.on (fun x3=>r=(x3,0)) (fun r_=>r=r_)) else (r=(0,t2_2))
theorem cost_Sum.D {a0 a1 r} (h:cost_Sum.f a0 a1 r):D Tryz.prog X (.callH 144 [.val (.int .i64 a0),.rows (a1.map (cInt .i64))] [] (.tuple [.val (.int .i64 r.1),.val (.int .i64 r.2)]) []):=by
 unfold cost_Sum.f at h
 refine .enter 31 0 fn144 q q q<|.seq<|.reg0 q (.o (asV q)<|.o (asV q)<|.nil0)<|.seq<|.seq ?_
 obtain ⟨t2_2,g2_2,h⟩:=h
 refine .reg0 q (.m q<|.o (mvR q)<|.c q go152 q q q (cost_checks.D g2_2)<|.a q<|.nil0)<|.seq<|.reg0 q (.o (mvV q)<|.o (neI q q)<|.nil0) ?_
 by_cases c1:t2_2=0
 ·rw [if_pos c1] at h
  refine .condF q (nf c1)<|.skip<|.seq<|.reg0 q (.o (asV q)<|.nil0)<|.seq<|.seq<|.reg0 q (.o (mvR q)<|.o (lnR (l:=a1) sl29 q)<|.o (mvV q)<|.nil0)<|.block<|.keepL [] [(0,i6 a0),(7,i6 0),(16,.rows (a1.map (cInt .i64))),(17,i6 (a1.length:Int)),(18,i6 0)] [] (by decide) (by decide) ⟨.free q q,.free q q,.free q q,.free q q,.free q q,trivial⟩ trivial ?_
  obtain ⟨o1,hL1,h⟩:=h
  refine .loopB (cost_Sum.b1 a0 a1) (fun (x1,x2)=>listEnv [(0,i6 a0),(7,i6 x1),(16,.rows (a1.map (cInt .i64))),(17,i6 (a1.length:Int)),(18,i6 x2)]) (fun (x1,x2)=>[]) (fun x3=>listEnv [(7,i6 x3)]) (fun x3=>[]) hL1 (fun r_=>r=r_) ?_ ?_ ?_
  ·rintro x3 rfl
   try dsimp only [Fin.on] at h
   refine .seq<|.reg0 q (.o (mvV q)<|.o (asV q)<|.o (asV q)<|.nil0) ?_
   replace h:=h.symm
   subst h
   refine .kf [(4,i6 x3),(5,i6 0)] q q ?_
   exact .ret q
  ·rintro r_ rfl
   exact h
  ·rintro ⟨x1,x2⟩ z1 h hn1 hx1 hr1
   dsimp only [cost_Sum.b1] at h
   refine .seq<|.reg0 q (.o (ltI q q)<|.nil0)<|.seq ?_
   by_cases c6:x2 < (a1.length:Int)
   ·rw [if_pos c6] at h
    refine .condT q (dt c6)<|.skip<|.seq<|.block<|.seq ?_
    obtain ⟨g19_0,h⟩:=h
    refine .reg0 q (.o (ixR (l:=a1) (lit:=(cInt .i64)) sl29 q q (fun _=>q) g19_0.1 g19_0.2)<|.o (ldC q sz3 ag3 q)<|.a q<|.nil0)<|.seq<|.seq<|.reg0 q (.o (mvV q)<|.o (eqI q q)<|.nil0) ?_
    by_cases c7:(rdl a1 x2)=(-1)
    ·rw [if_pos c7] at h
     refine .condT q (bt c7)<|.seq<|.reg0 q (.o (asV q)<|.o (asV q)<|.nil0) ?_
     have q3:=hr1 _ h
     replace q3:=q3.symm
     subst q3
     refine .kf [(4,i6 (-1)),(5,i6 0)] q q ?_
     exact .ret q
    ·rw [if_neg c7] at h
     refine .condF q (bn c7)<|.skip<|.reg0 q (.o (mvV q)<|.o (mvV q)<|.o (addI q q)<|.o (mvV q)<|.o (minI q q)<|.o (asV q)<|.nil0)<|.inBlock<|.reg0 q (.o (addI q q)<|.o (mvV q)<|.nil0)<|.kf [(0,i6 a0),(7,i6 (if a0 < (IntKind.i64.wrap (x1 + (rdl a1 x2))) then a0 else (IntKind.i64.wrap (x1 + (rdl a1 x2))))),(16,.rows (a1.map (cInt .i64))),(17,i6 (a1.length:Int)),(18,i6 (IntKind.i64.wrap (x2 + 1)))] q q ?_
     exact hn1 _ h
   ·rw [if_neg c6] at h
    refine .condF q (df c6)<|.exit q<|.keepL [] [(7,i6 x1)] [] (by decide) (by decide) ⟨.free q q,trivial⟩ trivial ?_
    exact hx1 _ h
 ·rw [if_neg c1] at h
  refine .condT q (nt c1)<|.seq<|.reg0 q (.o (mvV q)<|.o (asV q)<|.o (asV q)<|.nil0) ?_
  replace h:=h.symm
  subst h
  refine .kf [(4,i6 0),(5,i6 t2_2)] q q ?_
  exact .ret q
def facts_checked.b1 (a0:Int) (a1:List TFacts):Int→Rnd Int Unit Int→Prop:=fun x1 z1=>if x1 < (a1.length:Int) then (((InR x1 a1.length))∧∃ t17_2:Int,(facts_Check.f a0 (rdl a1 x1) t17_2)∧if t17_2=0 then (z1=.next (IntKind.i64.wrap (x1 + 1))) else (z1=.ret t17_2)) else (z1=.exit ())
def facts_checked.f (a0:Int) (a1:List TFacts) (r:Int):Prop :=
 ∃ o1:Fin Unit Int,Loop (facts_checked.b1 a0 a1) 0 o1∧o1.on (fun _=>r=0) (fun r_=>r=r_)
theorem facts_checked.D {a0 a1 r} (h:facts_checked.f a0 a1 r):D Tryz.prog X (.callH 153 [.val (.int .i64 a0),.rows (a1.map TFacts.cells)] [] (.val (.int .i64 r)) []):=by
 unfold facts_checked.f at h
 refine .enter 21 0 fn153 q q q<|.seq<|.reg0 q (.o (asV q)<|.nil0)<|.seq<|.seq<|.reg0 q (.o (mvR q)<|.o (lnR (l:=a1) sl223 q)<|.o (mvV q)<|.nil0)<|.block<|.keepL [] [(0,i6 a0),(8,.rows (a1.map TFacts.cells)),(9,i6 (a1.length:Int)),(10,i6 0)] [] (by decide) (by decide) ⟨.free q q,.free q q,.free q q,.free q q,trivial⟩ trivial ?_
 obtain ⟨o1,hL1,h⟩:=h
 refine .loopB (facts_checked.b1 a0 a1) (fun x1=>listEnv [(0,i6 a0),(8,.rows (a1.map TFacts.cells)),(9,i6 (a1.length:Int)),(10,i6 x1)]) (fun x1=>[]) (fun _=>listEnv []) (fun _=>[]) hL1 (fun r_=>r=r_) ?_ ?_ ?_
 ·rintro ⟨⟩ rfl
  try dsimp only [Fin.on] at h
  refine .seq<|.reg0 q (.o (asV q)<|.nil0) ?_
  replace h:=h.symm
  subst h
  refine .kf [(4,i6 0)] q q ?_
  exact .ret q
 ·rintro r_ rfl
  exact h
 ·rintro x1 z1 h hn1 hx1 hr1
  dsimp only [facts_checked.b1] at h
  refine .seq<|.reg0 q (.o (ltI q q)<|.nil0)<|.seq ?_
  by_cases c5:x1 < (a1.length:Int)
  ·rw [if_pos c5] at h
   refine .condT q (dt c5)<|.skip<|.seq<|.block<|.seq ?_
   obtain ⟨g16_0,h⟩:=h
   refine .room 0<|.reg0 q (.o (ixR (l:=a1) (lit:=TFacts.lit) sl223 q q (fun _=>q) g16_0.1 g16_0.2)<|.o (ldCG q sz49 ag49 q)<|.o (alP (s:=2) ze49 ⟨q,by decide,q⟩ q)<|.o (stB (cs0:=[u6 0,nul]) (cs:=(TFacts.lit (rdl a1 x1))) (cs1:=(TFacts.lit (rdl a1 x1))) q q sz49 q ⟨Nat.le_of_ble_eq_true q,q⟩ q)<|.nil0)<|.seq ?_
   obtain ⟨t17_2,g17_2,h⟩:=h
   refine .reg0 q (.m q<|.o (ldG q sz49 ag49 q)<|.c q go150 q q q (facts_Check.D g17_2)<|.a q<|.nil0)<|.seq<|.reg0 q (.o (mvV q)<|.o (neI q q)<|.nil0) ?_
   by_cases c6:t17_2=0
   ·rw [if_pos c6] at h
    refine .condF q (nf c6)<|.skip<|.inBlock<|.reg0 q (.o (addI q q)<|.o (mvV q)<|.nil0)<|.kf [(0,i6 a0),(8,.rows (a1.map TFacts.cells)),(9,i6 (a1.length:Int)),(10,i6 (IntKind.i64.wrap (x1 + 1)))] q q ?_
    exact hn1 _ h
   ·rw [if_neg c6] at h
    refine .condT q (nt c6)<|.seq<|.reg0 q (.o (mvV q)<|.o (asV q)<|.nil0) ?_
    have q3:=hr1 _ h
    replace q3:=q3.symm
    subst q3
    refine .kf [(4,i6 t17_2)] q q ?_
    exact .ret q
  ·rw [if_neg c5] at h
   refine .condF q (df c5)<|.exit q<|.keepL [] [] [] (by decide) (by decide) trivial trivial ?_
   exact hx1 _ h
def facts_makes.f (a0:TFacts) (a1:Int) (r:Int):Prop:=MakesOk a0.Gen a0.Rows a1∧r=makesI a0.Gen a0.Rows a1
theorem facts_makes.D {a0 a1 r} (h:facts_makes.f a0 a1 r):D Tryz.prog X (.callH 171 [.agg (TFacts.lit a0),.val (.int .u64 a1)] [] (.val (.int .u64 r)) []):=.ext (x_makes h)
end Go.RM.Tryz
