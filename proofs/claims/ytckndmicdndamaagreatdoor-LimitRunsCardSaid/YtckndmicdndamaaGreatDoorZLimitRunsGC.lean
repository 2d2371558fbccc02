/- GC, for the statement LimitRuns: what it needs, no more. -/
import Derived.Test.YtckndmicdndamaaGreatDoorZLimitRunsGB
set_option linter.unusedVariables false
set_option maxRecDepth 8000
set_option maxHeartbeats 4000000
namespace Go.RM.Tryz
open Go.RM Go.Proofs
def l13_smallSpace.b1 (a0:TSpace):Int→Rnd Int Unit Bool→Prop:=fun x1 z1=>if x1 < (a0.Parts.length:Int) then (((InR x1 a0.Parts.length))∧(¬ (((rdl a0.Parts x1).Parts.length:Int) > 0)→(InR x1 a0.Parts.length))∧(¬ (((rdl a0.Parts x1).Parts.length:Int) > 0)→¬ ((rdl a0.Parts x1).Tag=2)→(InR x1 a0.Parts.length))∧if ((decide (((rdl a0.Parts x1).Parts.length:Int) > 0)) || ((!((rdl a0.Parts x1).Tag == 2)) && (decide ((rdl a0.Parts x1).Dim > 8))))=true then (z1=.ret false) else (z1=.next (IntKind.i64.wrap (x1 + 1)))) else (z1=.exit ())
def l13_smallSpace.f (a0:TSpace) (r:Bool):Prop :=
 if ((decide ((a0.Parts.length:Int) > 3)) || ((!(a0.Tag == 2)) && (decide (a0.Dim > 8))))=true then (r=false) else (∃ o1:Fin Unit Bool,Loop (l13_smallSpace.b1 a0) 0 o1∧o1.on (fun _=>r=true) (fun r_=>r=r_))
theorem l13_smallSpace.D {a0 r} (h:l13_smallSpace.f a0 r):D Tryz.prog X (.callH 29 [.agg (TSpace.lit a0)] [] (.val (.bool r)) []):=by
 unfold l13_smallSpace.f at h
 refine .enter 51 0 fn29 q q q<|.seq<|.room 0<|.reg0 q (.o (bxP (s:=3) (cs:=(TSpace.lit a0)) q ⟨q,by decide,q⟩ q)<|.o (asV q)<|.nil0)<|.seq<|.seq ?_
 refine .reg0 (e1:=listEnv [(1,.ptr 0 1 3 0 0),(17,bo ((decide ((a0.Parts.length:Int) > 3)) || ((!(a0.Tag == 2)) && (decide (a0.Dim > 8)))))]) (H1:=[⟨3,[(TSpace.lit a0)],0,none⟩]) q ?_ ?_
 ·refine .o (faP fa25_2 q)<|.o (ldP q sz23 ag23 q)<|.o (lnR (l:=a0.Parts) sl23 q)<|.o (gtI q q)<|.m q<|?_
  by_cases c1:(a0.Parts.length:Int) > 3
  ·exact (.n q (dt c1)<|.n q (dt c1)<|.n q (dt c1)<|.n q (dt c1)<|.u q<|.u q<|.u q<|.n q (dt c1)<|.o (pkTV q (dt c1) q)<|.nilL _ ⟨.ptr q,cB q (mOrT (dt c1)),trivial⟩)
  ·refine .g q (df c1) (faP fa25_0 q)<|.g q (df c1) (ldP q sz22 ag22 q)<|.g q (df c1) (neI q q)<|.g q (df c1) (mvV q)<|?_
   by_cases c2:a0.Tag=2
   ·exact (.n q (nf c2)<|.n q (nf c2)<|.n q (nf c2)<|.g q (df c1) (pkFV q (nf c2) q)<|.o (pkFV q (df c1) q)<|.nilL _ ⟨.ptr q,cB q (mOrF (df c1) (mAndF (bnotF (bt c2)))),trivial⟩)
   ·exact (.g q (nt c2) (faP fa25_1 q)<|.g q (nt c2) (ldP q sz3 ag3 q)<|.g q (nt c2) (gtI q q)<|.g q (df c1) (pkTV q (nt c2) q)<|.o (pkFV q (df c1) q)<|.nilL _ ⟨.ptr q,cB q (mOrF (df c1) (mAndT (bnotT (bn c2)) q)),trivial⟩)
 by_cases c3:((decide ((a0.Parts.length:Int) > 3)) || ((!(a0.Tag == 2)) && (decide (a0.Dim > 8))))=true
 ·rw [if_pos c3] at h
  refine .condT q c3<|.seq<|.reg0 q (.o (asV q)<|.nil0) ?_
  replace h:=h.symm
  subst h
  refine .kf [(2,bo false)] q q ?_
  exact .ret q
 ·rw [if_neg c3] at h
  refine .condF q (nb c3)<|.skip<|.seq<|.seq<|.reg0 q (.o (asV q)<|.nil0)<|.block<|.keepL [0] [(1,.ptr 0 1 3 0 0),(3,i6 0)] [⟨3,[(TSpace.lit a0)],0,none⟩] (by decide) (by decide) ⟨.ptr q,.free q q,trivial⟩ ⟨⟨_,q,bcBox (all2_free q)⟩,trivial⟩ ?_
  obtain ⟨o1,hL1,h⟩:=h
  refine .loopB (l13_smallSpace.b1 a0) (fun x1=>listEnv [(1,.ptr 0 1 3 0 0),(3,i6 x1)]) (fun x1=>[⟨3,[(TSpace.lit a0)],0,none⟩]) (fun _=>listEnv []) (fun _=>[]) hL1 (fun r_=>r=r_) ?_ ?_ ?_
  ·rintro ⟨⟩ rfl
   try dsimp only [Fin.on] at h
   refine .seq<|.reg0 q (.o (asV q)<|.nil0) ?_
   replace h:=h.symm
   subst h
   refine .kf [(2,bo true)] q q ?_
   exact .ret q
  ·rintro r_ rfl
   exact h
  ·rintro x1 z1 h hn1 hx1 hr1
   dsimp only [l13_smallSpace.b1] at h
   refine .seq<|.seq<|.reg0 q (.o (mvV q)<|.o (faP fa25_2 q)<|.o (ldP q sz23 ag23 q)<|.o (lnR (l:=a0.Parts) sl23 q)<|.o (ltI q q)<|.nil0) ?_
   by_cases c12:x1 < (a0.Parts.length:Int)
   ·rw [if_pos c12] at h
    refine .condT q (dt c12)<|.skip<|.seq<|.block<|.seq ?_
    obtain ⟨g14_3,h⟩:=h
    obtain ⟨g14_12,h⟩:=h
    obtain ⟨g14_20,h⟩:=h
    refine .reg0 (e1:=listEnv [(1,.ptr 0 1 3 0 0),(3,i6 x1),(50,bo ((decide (((rdl a0.Parts x1).Parts.length:Int) > 0)) || ((!((rdl a0.Parts x1).Tag == 2)) && (decide ((rdl a0.Parts x1).Dim > 8)))))]) (H1:=[⟨3,[(TSpace.lit a0)],0,none⟩]) q ?_ ?_
    ·refine .o (faP fa25_2 q)<|.o (ldP q sz23 ag23 q)<|.m q<|.o (ixR (l:=a0.Parts) (lit:=TSpace.lit) sl23 q q TSpace.cells_lit g14_3.1 g14_3.2)<|.o (faC fa25_2 q)<|.o (ldC q sz23 ag23 q)<|.o (lnR (l:=(rdl a0.Parts x1).Parts) sl23 q)<|.o (gtI q q)<|.m q<|?_
     by_cases c13:((rdl a0.Parts x1).Parts.length:Int) > 0
     ·exact (.n q (dt c13)<|.n q (dt c13)<|.n q (dt c13)<|.n q (dt c13)<|.n q (dt c13)<|.n q (dt c13)<|.n q (dt c13)<|.n q (dt c13)<|.u q<|.u q<|.u q<|.u q<|.u q<|.u q<|.u q<|.n q (dt c13)<|.o (pkTV q (dt c13) q)<|.nilL _ ⟨.ptr q,.free q q,cB q (mOrT (dt c13)),trivial⟩)
     ·refine .g q (df c13) (faP fa25_2 q)<|.g q (df c13) (ldP q sz23 ag23 q)<|.g q (df c13) (mvV q)<|.g q (df c13) (ixR (l:=a0.Parts) (lit:=TSpace.lit) sl23 q q TSpace.cells_lit (g14_12 c13).1 (g14_12 c13).2)<|.g q (df c13) (faC fa25_0 q)<|.g q (df c13) (ldC q sz22 ag22 q)<|.g q (df c13) (neI q q)<|.g q (df c13) (mvV q)<|?_
      by_cases c14:(rdl a0.Parts x1).Tag=2
      ·exact (.n q (nf c14)<|.n q (nf c14)<|.n q (nf c14)<|.n q (nf c14)<|.n q (nf c14)<|.n q (nf c14)<|.n q (nf c14)<|.g q (df c13) (pkFV q (nf c14) q)<|.o (pkFV q (df c13) q)<|.nilL _ ⟨.ptr q,.free q q,cB q (mOrF (df c13) (mAndF (bnotF (bt c14)))),trivial⟩)
      ·exact (.g q (nt c14) (faP fa25_2 q)<|.g q (nt c14) (ldP q sz23 ag23 q)<|.g q (nt c14) (mvV q)<|.g q (nt c14) (ixR (l:=a0.Parts) (lit:=TSpace.lit) sl23 q q TSpace.cells_lit (g14_20 c13 c14).1 (g14_20 c13 c14).2)<|.g q (nt c14) (faC fa25_1 q)<|.g q (nt c14) (ldC q sz3 ag3 q)<|.g q (nt c14) (gtI q q)<|.g q (df c13) (pkTV q (nt c14) q)<|.o (pkFV q (df c13) q)<|.nilL _ ⟨.ptr q,.free q q,cB q (mOrF (df c13) (mAndT (bnotT (bn c14)) q)),trivial⟩)
    by_cases c15:((decide (((rdl a0.Parts x1).Parts.length:Int) > 0)) || ((!((rdl a0.Parts x1).Tag == 2)) && (decide ((rdl a0.Parts x1).Dim > 8))))=true
    ·rw [if_pos c15] at h
     refine .condT q c15<|.seq<|.reg0 q (.o (asV q)<|.nil0) ?_
     have q3:=hr1 _ h
     replace q3:=q3.symm
     subst q3
     refine .kf [(2,bo false)] q q ?_
     exact .ret q
    ·rw [if_neg c15] at h
     refine .condF q (nb c15)<|.skip<|.inBlock<|.reg0 q (.o (mvV q)<|.o (addI q q)<|.o (asV q)<|.nil0)<|.keepL [0] [(1,.ptr 0 1 3 0 0),(3,i6 (IntKind.i64.wrap (x1 + 1)))] [⟨3,[(TSpace.lit a0)],0,none⟩] (by decide) (by decide) ⟨.ptr q,.free q q,trivial⟩ ⟨⟨_,q,bcBox (all2_free q)⟩,trivial⟩ ?_
     exact hn1 _ h
   ·rw [if_neg c12] at h
    refine .condF q (df c12)<|.exit q<|.keepL [] [] [] (by decide) (by decide) trivial trivial ?_
    exact hx1 _ h
def l13_smallWeight.b1 (self30:TWeight→Int→Bool→Prop) (a0:TWeight) (a1:Int):Int→Rnd Int Unit Bool→Prop:=fun x1 z1=>if x1 < (a0.Parts.length:Int) then (((InR x1 a0.Parts.length))∧∃ t14_7:Bool,(self30 (rdl a0.Parts x1) (IntKind.i64.wrap (a1 + 1)) t14_7)∧if t14_7=true then (z1=.next (IntKind.i64.wrap (x1 + 1))) else (z1=.ret false)) else (z1=.exit ())
def l13_smallWeight.step (self30:TWeight→Int→Bool→Prop) (a0:TWeight) (a1:Int) (r:Bool):Prop :=
 if ((decide ((a0.Facts.Rows.length:Int) > 8)) || ((decide ((a0.Cells.length:Int) > 8)) || ((decide ((a0.Parts.length:Int) > 3)) || (decide (a1 > 3)))))=true then (r=false) else (∃ o1:Fin Unit Bool,Loop (l13_smallWeight.b1 self30 a0 a1) 0 o1∧o1.on (fun _=>r=true) (fun r_=>r=r_))
theorem l13_smallWeight.stepD {self30:TWeight→Int→Bool→Prop} {a0:TWeight} {a1:Int} (hs30:∀ z0_ z1_ r_,self30 z0_ z1_ r_→D Tryz.prog X (.callH 30 [.agg (TWeight.lit z0_),.val (.int .i64 z1_)] [] (.val (.bool r_)) [])) {r:Bool} (h:l13_smallWeight.step self30 a0 a1 r):D Tryz.prog X (.callH 30 [.agg (TWeight.lit a0),.val (.int .i64 a1)] [] (.val (.bool r)) []):=by
 unfold l13_smallWeight.step at h
 refine .enter 43 0 fn30 q q q<|.seq<|.room 0<|.reg0 q (.o (bxP (s:=6) (cs:=(TWeight.lit a0)) q ⟨q,by decide,q⟩ q)<|.o (asV q)<|.nil0)<|.seq<|.seq ?_
 refine .reg0 (e1:=listEnv [(1,i6 a1),(2,.ptr 0 1 6 0 0),(26,bo ((decide ((a0.Facts.Rows.length:Int) > 8)) || ((decide ((a0.Cells.length:Int) > 8)) || ((decide ((a0.Parts.length:Int) > 3)) || (decide (a1 > 3))))))]) (H1:=[⟨6,[(TWeight.lit a0)],0,none⟩]) q ?_ ?_
 ·refine .o (faP fa53_2 q)<|.o (faP fa49_1 q)<|.o (ldP q sz47 ag47 q)<|.o (lnR (l:=a0.Facts.Rows) sl47 q)<|.o (gtI q q)<|.m q<|?_
  by_cases c1:(a0.Facts.Rows.length:Int) > 8
  ·exact (.n q (dt c1)<|.n q (dt c1)<|.n q (dt c1)<|.n q (dt c1)<|.o (pkTV q (dt c1) q)<|.m q<|.n q q<|.n q q<|.n q q<|.n q q<|.o (pkTV q q q)<|.m q<|.n q q<|.n q q<|.o (pkTV q q q)<|.nilL _ ⟨.free q q,.ptr q,cB q (mOrT (dt c1)),trivial⟩)
  ·refine .g q (df c1) (faP fa53_3 q)<|.g q (df c1) (ldP q sz50 ag50 q)<|.g q (df c1) (lnR (l:=a0.Cells) sl50 q)<|.g q (df c1) (gtI q q)<|.o (pkFV q (df c1) q)<|.m q<|?_
   by_cases c2:(a0.Cells.length:Int) > 8
   ·exact (.n q (dt c2)<|.n q (dt c2)<|.n q (dt c2)<|.n q (dt c2)<|.o (pkTV q (dt c2) q)<|.m q<|.n q q<|.n q q<|.o (pkTV q q q)<|.nilL _ ⟨.free q q,.ptr q,cB q (mOrF (df c1) (mOrT (dt c2))),trivial⟩)
   ·refine .g q (df c2) (faP fa53_4 q)<|.g q (df c2) (ldP q sz51 ag51 q)<|.g q (df c2) (lnR (l:=a0.Parts) sl51 q)<|.g q (df c2) (gtI q q)<|.o (pkFV q (df c2) q)<|.m q<|?_
    by_cases c3:(a0.Parts.length:Int) > 3
    ·exact (.n q (dt c3)<|.n q (dt c3)<|.o (pkTV q (dt c3) q)<|.nilL _ ⟨.free q q,.ptr q,cB q (mOrF (df c1) (mOrF (df c2) (mOrT (dt c3)))),trivial⟩)
    ·exact (.g q (df c3) (mvV q)<|.g q (df c3) (gtI q q)<|.o (pkFV q (df c3) q)<|.nilL _ ⟨.free q q,.ptr q,cB q (mOrF (df c1) (mOrF (df c2) (mOrF (df c3) q))),trivial⟩)
 by_cases c4:((decide ((a0.Facts.Rows.length:Int) > 8)) || ((decide ((a0.Cells.length:Int) > 8)) || ((decide ((a0.Parts.length:Int) > 3)) || (decide (a1 > 3)))))=true
 ·rw [if_pos c4] at h
  refine .condT q c4<|.seq<|.reg0 q (.o (asV q)<|.nil0) ?_
  replace h:=h.symm
  subst h
  refine .kf [(4,bo false)] q q ?_
  exact .ret q
 ·rw [if_neg c4] at h
  refine .condF q (nb c4)<|.skip<|.seq<|.seq<|.reg0 q (.o (asV q)<|.nil0)<|.block<|.keepL [0] [(1,i6 a1),(2,.ptr 0 1 6 0 0),(5,i6 0)] [⟨6,[(TWeight.lit a0)],0,none⟩] (by decide) (by decide) ⟨.free q q,.ptr q,.free q q,trivial⟩ ⟨⟨_,q,bcBox (all2_free q)⟩,trivial⟩ ?_
  obtain ⟨o1,hL1,h⟩:=h
  refine .loopB (l13_smallWeight.b1 self30 a0 a1) (fun x1=>listEnv [(1,i6 a1),(2,.ptr 0 1 6 0 0),(5,i6 x1)]) (fun x1=>[⟨6,[(TWeight.lit a0)],0,none⟩]) (fun _=>listEnv []) (fun _=>[]) hL1 (fun r_=>r=r_) ?_ ?_ ?_
  ·rintro ⟨⟩ rfl
   try dsimp only [Fin.on] at h
   refine .seq<|.reg0 q (.o (asV q)<|.nil0) ?_
   replace h:=h.symm
   subst h
   refine .kf [(4,bo true)] q q ?_
   exact .ret q
  ·rintro r_ rfl
   exact h
  ·rintro x1 z1 h hn1 hx1 hr1
   dsimp only [l13_smallWeight.b1] at h
   refine .seq<|.seq<|.reg0 q (.o (mvV q)<|.o (faP fa53_4 q)<|.o (ldP q sz51 ag51 q)<|.o (lnR (l:=a0.Parts) sl51 q)<|.o (ltI q q)<|.nil0) ?_
   by_cases c9:x1 < (a0.Parts.length:Int)
   ·rw [if_pos c9] at h
    refine .condT q (dt c9)<|.skip<|.seq<|.block<|.seq ?_
    obtain ⟨g14_3,h⟩:=h
    obtain ⟨t14_7,g14_7,h⟩:=h
    refine .reg0 q (.o (faP fa53_4 q)<|.o (ldP q sz51 ag51 q)<|.m q<|.o (ixR (l:=a0.Parts) (lit:=TWeight.lit) sl51 q q TWeight.cells_lit g14_3.1 g14_3.2)<|.o (ldCG q sz53 ag53 q)<|.m q<|.o (addI q q)<|.c q go30 q q q (hs30 _ _ _ g14_7)<|.o (notB q)<|.nil0) ?_
    by_cases c10:t14_7=true
    ·rw [if_pos c10] at h
     refine .condF q (bnotF c10)<|.skip<|.inBlock<|.reg0 q (.o (mvV q)<|.o (addI q q)<|.o (asV q)<|.nil0)<|.keepL [0] [(1,i6 a1),(2,.ptr 0 1 6 0 0),(5,i6 (IntKind.i64.wrap (x1 + 1)))] [⟨6,[(TWeight.lit a0)],0,none⟩] (by decide) (by decide) ⟨.free q q,.ptr q,.free q q,trivial⟩ ⟨⟨_,q,bcBox (all2_free q)⟩,trivial⟩ ?_
     exact hn1 _ h
    ·rw [if_neg c10] at h
     refine .condT q (bnotT (nb c10))<|.seq<|.reg0 q (.o (asV q)<|.nil0) ?_
     have q3:=hr1 _ h
     replace q3:=q3.symm
     subst q3
     refine .kf [(4,bo false)] q q ?_
     exact .ret q
   ·rw [if_neg c9] at h
    refine .condF q (df c9)<|.exit q<|.keepL [] [] [] (by decide) (by decide) trivial trivial ?_
    exact hx1 _ h
def l13_smallWeight.fN:Nat→TWeight→Int→Bool→Prop
 | 0=>fun _ _ _=>False
 | n + 1=>l13_smallWeight.step (l13_smallWeight.fN n)
theorem l13_smallWeight.ND:∀ (n:Nat) {a0:TWeight} {a1:Int} {r:Bool} (h:l13_smallWeight.fN n a0 a1 r),D Tryz.prog X (.callH 30 [.agg (TWeight.lit a0),.val (.int .i64 a1)] [] (.val (.bool r)) [])
 | 0,_,_,_,h=>h.elim
 | n + 1,_,_,_,h=>l13_smallWeight.stepD (fun _ _ _ h=>l13_smallWeight.ND n h) h
def l13_smallWeight.f (a0:TWeight) (a1:Int) (r:Bool):Prop:=∃ n,l13_smallWeight.fN n a0 a1 r
theorem l13_smallWeight.D {a0 a1 r} (h:l13_smallWeight.f a0 a1 r):D Tryz.prog X (.callH 30 [.agg (TWeight.lit a0),.val (.int .i64 a1)] [] (.val (.bool r)) []):=by obtain ⟨n,h⟩:=h; exact l13_smallWeight.ND n h
def l13_Small.b1 (a0:TQuery):Int→Rnd Int Unit Bool→Prop:=fun x1 z1=>if x1 < (a0.P.Rules.length:Int) then (((InR x1 a0.P.Rules.length))∧(¬ (((rdl a0.P.Rules x1).W.length:Int) > 6)→(InR x1 a0.P.Rules.length))∧∃ t14_17:Bool,(¬ (((rdl a0.P.Rules x1).W.length:Int) > 6)→l13_smallWeight.f ((rdl a0.P.Rules x1).F) 0 t14_17)∧if ((decide (((rdl a0.P.Rules x1).W.length:Int) > 6)) || (!t14_17))=true then (z1=.ret false) else (z1=.next (IntKind.i64.wrap (x1 + 1)))) else (z1=.exit ())
def l13_Small.b2 (a0:TQuery):Int→Rnd Int Unit Bool→Prop:=fun x2 z2=>if x2 < (a0.A.Trans.length:Int) then (((InR x2 a0.A.Trans.length))∧∃ t27_7:Bool,(l13_smallWeight.f ((rdl a0.A.Trans x2).W) 0 t27_7)∧if t27_7=true then (z2=.next (IntKind.i64.wrap (x2 + 1))) else (z2=.ret false)) else (z2=.exit ())
def l13_Small.f (a0:TQuery) (r:Bool):Prop :=
 ∃ t2_29:Bool,(¬ ((a0.P.Rules.length:Int) > 6)→¬ ((a0.A.Trans.length:Int) > 30)→¬ ((a0.A.Final.length:Int) > 30)→¬ (a0.A.States > 30)→l13_smallSpace.f a0.P.Space t2_29)∧∃ t2_36:Bool,(¬ ((a0.P.Rules.length:Int) > 6)→¬ ((a0.A.Trans.length:Int) > 30)→¬ ((a0.A.Final.length:Int) > 30)→¬ (a0.A.States > 30)→(t2_29=true)→l13_smallSpace.f a0.A.Space t2_36)∧if ((decide ((a0.P.Rules.length:Int) > 6)) || ((decide ((a0.A.Trans.length:Int) > 30)) || ((decide ((a0.A.Final.length:Int) > 30)) || ((decide (a0.A.States > 30)) || ((!t2_29) || (!t2_36))))))=true then (r=false) else (∃ o1:Fin Unit Bool,Loop (l13_Small.b1 a0) 0 o1∧o1.on (fun _=>∃ o2:Fin Unit Bool,Loop (l13_Small.b2 a0) 0 o2∧o2.on (fun _=>r=true) (fun r_=>r=r_)) (fun r_=>r=r_))
theorem l13_Small.D {a0 r} (h:l13_Small.f a0 r):D Tryz.prog X (.callH 8 [.agg (TQuery.lit a0)] [] (.val (.bool r)) []):=by
 unfold l13_Small.f at h
 refine .enter 89 0 fn8 q q q<|.seq<|.room 0<|.reg0 q (.o (bxP (s:=13) (cs:=(TQuery.lit a0)) q ⟨q,by decide,q⟩ q)<|.o (asV q)<|.nil0)<|.seq<|.seq ?_
 obtain ⟨t2_29,g2_29,h⟩:=h
 obtain ⟨t2_36,g2_36,h⟩:=h
 refine .reg0 (e1:=listEnv [(1,.ptr 0 1 13 0 0),(43,bo ((decide ((a0.P.Rules.length:Int) > 6)) || ((decide ((a0.A.Trans.length:Int) > 30)) || ((decide ((a0.A.Final.length:Int) > 30)) || ((decide (a0.A.States > 30)) || ((!t2_29) || (!t2_36)))))))]) (H1:=[⟨13,[(TQuery.lit a0)],0,none⟩]) q ?_ ?_
 ·refine .o (faP fa34_0 q)<|.o (faP fa28_3 q)<|.o (ldP q sz26 ag26 q)<|.o (lnR (l:=a0.P.Rules) sl26 q)<|.o (gtI q q)<|.m q<|?_
  by_cases c1:(a0.P.Rules.length:Int) > 6
  ·exact (.n q (dt c1)<|.n q (dt c1)<|.n q (dt c1)<|.n q (dt c1)<|.n q (dt c1)<|.o (pkTV q (dt c1) q)<|.m q<|.n q q<|.n q q<|.n q q<|.n q q<|.n q q<|.o (pkTV q q q)<|.m q<|.n q q<|.n q q<|.n q q<|.n q q<|.o (pkTV q q q)<|.m q<|.n q q<|.n q q<|.n q q<|.n q q<|.n q q<|.o (pkTV q q q)<|.m q<|.n q q<|.n q q<|.n q q<|.n q q<|.n q q<|.o (pkTV q q q)<|.nilL _ ⟨.ptr q,cB q (mOrT (dt c1)),trivial⟩)
  ·refine .g q (df c1) (faP fa34_1 q)<|.g q (df c1) (faP fa32_4 q)<|.g q (df c1) (ldP q sz30 ag30 q)<|.g q (df c1) (lnR (l:=a0.A.Trans) sl30 q)<|.g q (df c1) (gtI q q)<|.o (pkFV q (df c1) q)<|.m q<|?_
   by_cases c2:(a0.A.Trans.length:Int) > 30
   ·exact (.n q (dt c2)<|.n q (dt c2)<|.n q (dt c2)<|.n q (dt c2)<|.n q (dt c2)<|.o (pkTV q (dt c2) q)<|.m q<|.n q q<|.n q q<|.n q q<|.n q q<|.o (pkTV q q q)<|.m q<|.n q q<|.n q q<|.n q q<|.n q q<|.n q q<|.o (pkTV q q q)<|.m q<|.n q q<|.n q q<|.n q q<|.n q q<|.n q q<|.o (pkTV q q q)<|.nilL _ ⟨.ptr q,cB q (mOrF (df c1) (mOrT (dt c2))),trivial⟩)
   ·refine .g q (df c2) (faP fa34_1 q)<|.g q (df c2) (faP fa32_3 q)<|.g q (df c2) (ldP q sz29 ag29 q)<|.g q (df c2) (lnR (l:=a0.A.Final) sl29 q)<|.g q (df c2) (gtI q q)<|.o (pkFV q (df c2) q)<|.m q<|?_
    by_cases c3:(a0.A.Final.length:Int) > 30
    ·exact (.n q (dt c3)<|.n q (dt c3)<|.n q (dt c3)<|.n q (dt c3)<|.o (pkTV q (dt c3) q)<|.m q<|.n q q<|.n q q<|.n q q<|.n q q<|.n q q<|.o (pkTV q q q)<|.m q<|.n q q<|.n q q<|.n q q<|.n q q<|.n q q<|.o (pkTV q q q)<|.nilL _ ⟨.ptr q,cB q (mOrF (df c1) (mOrF (df c2) (mOrT (dt c3)))),trivial⟩)
    ·refine .g q (df c3) (faP fa34_1 q)<|.g q (df c3) (faP fa32_1 q)<|.g q (df c3) (ldP q sz3 ag3 q)<|.g q (df c3) (gtI q q)<|.o (pkFV q (df c3) q)<|.m q<|?_
     by_cases c4:a0.A.States > 30
     ·exact (.n q (dt c4)<|.n q (dt c4)<|.n q (dt c4)<|.n q (dt c4)<|.n q (dt c4)<|.o (pkTV q (dt c4) q)<|.m q<|.n q q<|.n q q<|.n q q<|.n q q<|.n q q<|.o (pkTV q q q)<|.nilL _ ⟨.ptr q,cB q (mOrF (df c1) (mOrF (df c2) (mOrF (df c3) (mOrT (dt c4))))),trivial⟩)
     ·refine .g q (df c4) (faP fa34_0 q)<|.g q (df c4) (faP fa28_0 q)<|.g q (df c4) (ldG q sz25 ag25 q)<|.callI (gT q q q (df c4)) (callee_of q go29 q) (.pure q q (l13_smallSpace.D (g2_29 c1 c2 c3 c4)))<|.g q (df c4) (notB q)<|.o (pkFV q (df c4) q)<|.m q<|?_
      by_cases c5:t2_29=true
      ·exact (.g q (bnotF c5) (faP fa34_1 q)<|.g q (bnotF c5) (faP fa32_0 q)<|.g q (bnotF c5) (ldG q sz25 ag25 q)<|.callI (gT q q q (bnotF c5)) (callee_of q go29 q) (.pure q q (l13_smallSpace.D (g2_36 c1 c2 c3 c4 c5)))<|.g q (bnotF c5) (notB q)<|.o (pkFV q (bnotF c5) q)<|.nilL _ ⟨.ptr q,cB q (mOrF (df c1) (mOrF (df c2) (mOrF (df c3) (mOrF (df c4) (mOrF (bnotF c5) q))))),trivial⟩)
      ·exact (.n q (bnotT (nb c5))<|.n q (bnotT (nb c5))<|.n q (bnotT (nb c5))<|.n q (bnotT (nb c5))<|.n q (bnotT (nb c5))<|.o (pkTV q (bnotT (nb c5)) q)<|.nilL _ ⟨.ptr q,cB q (mOrF (df c1) (mOrF (df c2) (mOrF (df c3) (mOrF (df c4) (mOrT (bnotT (nb c5))))))),trivial⟩)
 by_cases c6:((decide ((a0.P.Rules.length:Int) > 6)) || ((decide ((a0.A.Trans.length:Int) > 30)) || ((decide ((a0.A.Final.length:Int) > 30)) || ((decide (a0.A.States > 30)) || ((!t2_29) || (!t2_36))))))=true
 ·rw [if_pos c6] at h
  refine .condT q c6<|.seq<|.reg0 q (.o (asV q)<|.nil0) ?_
  replace h:=h.symm
  subst h
  refine .kf [(2,bo false)] q q ?_
  exact .ret q
 ·rw [if_neg c6] at h
  refine .condF q (nb c6)<|.skip<|.seq<|.seq<|.reg0 q (.o (asV q)<|.nil0)<|.block<|.keepL [0] [(1,.ptr 0 1 13 0 0),(3,i6 0)] [⟨13,[(TQuery.lit a0)],0,none⟩] (by decide) (by decide) ⟨.ptr q,.free q q,trivial⟩ ⟨⟨_,q,bcBox (all2_free q)⟩,trivial⟩ ?_
  obtain ⟨o1,hL1,h⟩:=h
  refine .loopB (l13_Small.b1 a0) (fun x1=>listEnv [(1,.ptr 0 1 13 0 0),(3,i6 x1)]) (fun x1=>[⟨13,[(TQuery.lit a0)],0,none⟩]) (fun _=>listEnv [(1,.ptr 0 1 13 0 0)]) (fun _=>[⟨13,[(TQuery.lit a0)],0,none⟩]) hL1 (fun r_=>r=r_) ?_ ?_ ?_
  ·rintro ⟨⟩ rfl
   try dsimp only [Fin.on] at h
   refine .seq<|.seq<|.reg0 q (.o (asV q)<|.nil0)<|.block<|.keepL [0] [(1,.ptr 0 1 13 0 0),(4,i6 0)] [⟨13,[(TQuery.lit a0)],0,none⟩] (by decide) (by decide) ⟨.ptr q,.free q q,trivial⟩ ⟨⟨_,q,bcBox (all2_free q)⟩,trivial⟩ ?_
   obtain ⟨o2,hL2,h⟩:=h
   refine .loopB (l13_Small.b2 a0) (fun x2=>listEnv [(1,.ptr 0 1 13 0 0),(4,i6 x2)]) (fun x2=>[⟨13,[(TQuery.lit a0)],0,none⟩]) (fun _=>listEnv []) (fun _=>[]) hL2 (fun r_=>r=r_) ?_ ?_ ?_
   ·rintro ⟨⟩ rfl
    try dsimp only [Fin.on] at h
    refine .seq<|.reg0 q (.o (asV q)<|.nil0) ?_
    replace h:=h.symm
    subst h
    refine .kf [(2,bo true)] q q ?_
    exact .ret q
   ·rintro r_ rfl
    exact h
   ·rintro x2 z2 h hn2 hx2 hr2
    dsimp only [l13_Small.b2] at h
    refine .seq<|.seq<|.reg0 q (.o (mvV q)<|.o (faP fa34_1 q)<|.o (faP fa32_4 q)<|.o (ldP q sz30 ag30 q)<|.o (lnR (l:=a0.A.Trans) sl30 q)<|.o (ltI q q)<|.nil0) ?_
    by_cases c20:x2 < (a0.A.Trans.length:Int)
    ·rw [if_pos c20] at h
     refine .condT q (dt c20)<|.skip<|.seq<|.block<|.seq ?_
     obtain ⟨g27_4,h⟩:=h
     obtain ⟨t27_7,g27_7,h⟩:=h
     refine .reg0 q (.o (faP fa34_1 q)<|.o (faP fa32_4 q)<|.o (ldP q sz30 ag30 q)<|.m q<|.o (ixR (l:=a0.A.Trans) (lit:=TTrans.lit) sl30 q q (fun _=>q) g27_4.1 g27_4.2)<|.o (faC fa63_3 q)<|.o (ldCG q sz53 ag53 q)<|.c q go30 q q q (l13_smallWeight.D g27_7)<|.o (notB q)<|.nil0) ?_
     by_cases c21:t27_7=true
     ·rw [if_pos c21] at h
      refine .condF q (bnotF c21)<|.skip<|.inBlock<|.reg0 q (.o (mvV q)<|.o (addI q q)<|.o (asV q)<|.nil0)<|.keepL [0] [(1,.ptr 0 1 13 0 0),(4,i6 (IntKind.i64.wrap (x2 + 1)))] [⟨13,[(TQuery.lit a0)],0,none⟩] (by decide) (by decide) ⟨.ptr q,.free q q,trivial⟩ ⟨⟨_,q,bcBox (all2_free q)⟩,trivial⟩ ?_
      exact hn2 _ h
     ·rw [if_neg c21] at h
      refine .condT q (bnotT (nb c21))<|.seq<|.reg0 q (.o (asV q)<|.nil0) ?_
      have q6:=hr2 _ h
      replace q6:=q6.symm
      subst q6
      refine .kf [(2,bo false)] q q ?_
      exact .ret q
    ·rw [if_neg c20] at h
     refine .condF q (df c20)<|.exit q<|.keepL [] [] [] (by decide) (by decide) trivial trivial ?_
     exact hx2 _ h
  ·rintro r_ rfl
   exact h
  ·rintro x1 z1 h hn1 hx1 hr1
   dsimp only [l13_Small.b1] at h
   refine .seq<|.seq<|.reg0 q (.o (mvV q)<|.o (faP fa34_0 q)<|.o (faP fa28_3 q)<|.o (ldP q sz26 ag26 q)<|.o (lnR (l:=a0.P.Rules) sl26 q)<|.o (ltI q q)<|.nil0) ?_
   by_cases c13:x1 < (a0.P.Rules.length:Int)
   ·rw [if_pos c13] at h
    refine .condT q (dt c13)<|.skip<|.seq<|.block<|.seq ?_
    obtain ⟨g14_4,h⟩:=h
    obtain ⟨g14_14,h⟩:=h
    obtain ⟨t14_17,g14_17,h⟩:=h
    refine .reg0 (e1:=listEnv [(1,.ptr 0 1 13 0 0),(3,i6 x1),(71,bo ((decide (((rdl a0.P.Rules x1).W.length:Int) > 6)) || (!t14_17)))]) (H1:=[⟨13,[(TQuery.lit a0)],0,none⟩]) q ?_ ?_
    ·refine .o (faP fa34_0 q)<|.o (faP fa28_3 q)<|.o (ldP q sz26 ag26 q)<|.m q<|.o (ixR (l:=a0.P.Rules) (lit:=TRule.lit) sl26 q q (fun _=>q) g14_4.1 g14_4.2)<|.o (faC fa77_3 q)<|.o (ldC q sz29 ag29 q)<|.o (lnR (l:=(rdl a0.P.Rules x1).W) sl29 q)<|.o (gtI q q)<|.m q<|?_
     by_cases c14:((rdl a0.P.Rules x1).W.length:Int) > 6
     ·exact (.n q (dt c14)<|.n q (dt c14)<|.n q (dt c14)<|.n q (dt c14)<|.n q (dt c14)<|.n q (dt c14)<|.n q (dt c14)<|.n q (dt c14)<|.n q (dt c14)<|.o (pkTV q (dt c14) q)<|.nilL _ ⟨.ptr q,.free q q,cB q (mOrT (dt c14)),trivial⟩)
     ·exact (.g q (df c14) (faP fa34_0 q)<|.g q (df c14) (faP fa28_3 q)<|.g q (df c14) (ldP q sz26 ag26 q)<|.g q (df c14) (mvV q)<|.g q (df c14) (ixR (l:=a0.P.Rules) (lit:=TRule.lit) sl26 q q (fun _=>q) (g14_14 c14).1 (g14_14 c14).2)<|.g q (df c14) (faC fa77_4 q)<|.g q (df c14) (ldCG q sz53 ag53 q)<|.callI (gT q q q (df c14)) (callee_of q go30 q) (.pure q q (l13_smallWeight.D (g14_17 c14)))<|.g q (df c14) (notB q)<|.o (pkFV q (df c14) q)<|.nilL _ ⟨.ptr q,.free q q,cB q (mOrF (df c14) q),trivial⟩)
    by_cases c15:((decide (((rdl a0.P.Rules x1).W.length:Int) > 6)) || (!t14_17))=true
    ·rw [if_pos c15] at h
     refine .condT q c15<|.seq<|.reg0 q (.o (asV q)<|.nil0) ?_
     have q3:=hr1 _ h
     replace q3:=q3.symm
     subst q3
     refine .kf [(2,bo false)] q q ?_
     exact .ret q
    ·rw [if_neg c15] at h
     refine .condF q (nb c15)<|.skip<|.inBlock<|.reg0 q (.o (mvV q)<|.o (addI q q)<|.o (asV q)<|.nil0)<|.keepL [0] [(1,.ptr 0 1 13 0 0),(3,i6 (IntKind.i64.wrap (x1 + 1)))] [⟨13,[(TQuery.lit a0)],0,none⟩] (by decide) (by decide) ⟨.ptr q,.free q q,trivial⟩ ⟨⟨_,q,bcBox (all2_free q)⟩,trivial⟩ ?_
     exact hn1 _ h
   ·rw [if_neg c13] at h
    refine .condF q (df c13)<|.exit q<|.keepL [0] [(1,.ptr 0 1 13 0 0)] [⟨13,[(TQuery.lit a0)],0,none⟩] (by decide) (by decide) ⟨.ptr q,trivial⟩ ⟨⟨_,q,bcBox (all2_free q)⟩,trivial⟩ ?_
    exact hx1 _ h
def slices_IndexFunc_Space.b1 (a0:List TSpace) (a1:TSpace→Bool→Prop):Int→Rnd Int Unit Int→Prop:=fun x1 z1=>if x1 < (a0.length:Int) then (((InR x1 a0.length))∧∃ t15_5:Bool,(a1 (rdl a0 x1) t15_5)∧if t15_5=true then (z1=.ret x1) else (z1=.next (IntKind.i64.wrap (x1 + 1)))) else (z1=.exit ())
def slices_IndexFunc_Space.f (a0:List TSpace) (a1:TSpace→Bool→Prop) (r:Int):Prop :=
 ∃ o1:Fin Unit Int,Loop (slices_IndexFunc_Space.b1 a0 a1) 0 o1∧o1.on (fun _=>r=(-1)) (fun r_=>r=r_)
theorem slices_IndexFunc_Space.D {a0:List TSpace} {a1:TSpace→Bool→Prop} {r:Int} {c1_:FuncId} {k1_:List PV} (hg1_:isGo Tryz.prog c1_=true) (hk1_:PV.free deep (.clo c1_ k1_)=true) (hka1_:k1_.all (PV.free deep)=true) (hq1_:∀ x0_ y_,a1 x0_ y_→D Tryz.prog X (.callH c1_ ([.agg (TSpace.lit x0_)] ++ k1_) [] (.val (.bool y_)) [])) (h:slices_IndexFunc_Space.f a0 a1 r):D Tryz.prog X (.callH 141 [.rows (a0.map TSpace.cells),.clo c1_ k1_] [] (.val (.int .i64 r)) []):=by
 unfold slices_IndexFunc_Space.f at h
 refine .enter 19 0 fn141 q q q<|.seq<|.reg0 q (.o (asV q)<|.nil0)<|.seq<|.seq<|.reg0 q (.o (mvR q)<|.o (lnR (l:=a0) sl23 q)<|.o (mvV q)<|.nil0)<|.block<|.keepL [] [(0,.rows (a0.map TSpace.cells)),(1,.clo c1_ k1_),(7,i6 (a0.length:Int)),(8,i6 0)] [] (by decide) (by decide) ⟨.free q q,.free q hk1_,.free q q,.free q q,trivial⟩ trivial ?_
 obtain ⟨o1,hL1,h⟩:=h
 refine .loopB (slices_IndexFunc_Space.b1 a0 a1) (fun x1=>listEnv [(0,.rows (a0.map TSpace.cells)),(1,.clo c1_ k1_),(7,i6 (a0.length:Int)),(8,i6 x1)]) (fun x1=>[]) (fun _=>listEnv []) (fun _=>[]) hL1 (fun r_=>r=r_) ?_ ?_ ?_
 ·rintro ⟨⟩ rfl
  try dsimp only [Fin.on] at h
  refine .seq<|.reg0 q (.o (asV q)<|.nil0) ?_
  replace h:=h.symm
  subst h
  refine .kf [(4,i6 (-1))] q q ?_
  exact .ret q
 ·rintro r_ rfl
  exact h
 ·rintro x1 z1 h hn1 hx1 hr1
  dsimp only [slices_IndexFunc_Space.b1] at h
  refine .seq<|.reg0 q (.o (ltI q q)<|.nil0)<|.seq ?_
  by_cases c5:x1 < (a0.length:Int)
  ·rw [if_pos c5] at h
   refine .condT q (dt c5)<|.skip<|.seq<|.block<|.seq<|.reg0 q (.o (mvV q)<|.o (asV q)<|.nil0)<|.seq ?_
   obtain ⟨g15_3,h⟩:=h
   obtain ⟨t15_5,g15_5,h⟩:=h
   refine .reg0 q (.o (mvF q)<|.o (mvR q)<|.m q<|.o (ixR (l:=a0) (lit:=TSpace.lit) sl23 q q TSpace.cells_lit g15_3.1 g15_3.2)<|.o (ldCG q sz25 ag25 q)<|.callI q (callee_of q hg1_ q) (.pure (allCons q hka1_) q (hq1_ _ _ g15_5))<|.nil0) ?_
   by_cases c6:t15_5=true
   ·rw [if_pos c6] at h
    refine .condT q c6<|.seq<|.reg0 q (.o (mvV q)<|.o (asV q)<|.nil0) ?_
    have q3:=hr1 _ h
    replace q3:=q3.symm
    subst q3
    refine .kf [(4,i6 x1)] q q ?_
    exact .ret q
   ·rw [if_neg c6] at h
    refine .condF q (nb c6)<|.skip<|.inBlock<|.reg0 q (.o (addI q q)<|.o (mvV q)<|.nil0)<|.k [(0,.rows (a0.map TSpace.cells)),(1,.clo c1_ k1_),(7,i6 (a0.length:Int)),(8,i6 (IntKind.i64.wrap (x1 + 1)))] ⟨.free q q,.free q hk1_,.free q q,.free q q,trivial⟩ ?_
    exact hn1 _ h
  ·rw [if_neg c5] at h
   refine .condF q (df c5)<|.exit q<|.keepL [] [] [] (by decide) (by decide) trivial trivial ?_
   exact hx1 _ h
def slices_ContainsFunc_Space.f (a0:List TSpace) (a1:TSpace→Bool→Prop) (r:Bool):Prop :=
 ∃ t2_2:Int,(slices_IndexFunc_Space.f a0 a1 t2_2)∧r=(decide (t2_2 ≥ 0))
theorem slices_ContainsFunc_Space.D {a0:List TSpace} {a1:TSpace→Bool→Prop} {r:Bool} {c1_:FuncId} {k1_:List PV} (hg1_:isGo Tryz.prog c1_=true) (hk1_:PV.free deep (.clo c1_ k1_)=true) (hka1_:k1_.all (PV.free deep)=true) (hq1_:∀ x0_ y_,a1 x0_ y_→D Tryz.prog X (.callH c1_ ([.agg (TSpace.lit x0_)] ++ k1_) [] (.val (.bool y_)) [])) (h:slices_ContainsFunc_Space.f a0 a1 r):D Tryz.prog X (.callH 104 [.rows (a0.map TSpace.cells),.clo c1_ k1_] [] (.val (.bool r)) []):=by
 unfold slices_ContainsFunc_Space.f at h
 refine .enter 9 0 fn104 q q q<|.seq<|.reg0 q (.o (asV q)<|.nil0)<|.seq ?_
 obtain ⟨t2_2,g2_2,h⟩:=h
 refine .reg0 q (.o (mvR q)<|.o (mvF q)<|.callI q (callee_of q go141 q) (.pure (allCons q (allCons hk1_ q)) q (slices_IndexFunc_Space.D hg1_ hk1_ hka1_ hq1_ g2_2))<|.o (geI q q)<|.a q<|.nil0) ?_
 replace h:=h.symm
 subst h
 refine .kf [(4,bo (decide (t2_2 ≥ 0)))] q q ?_
 exact .ret q
def weight_Space_1.f (self65:TSpace→Int→Prop) (a0:TSpace) (r:Bool):Prop :=
 ∃ t2_5:Int,(¬ (a0.Tag=5)→self65 a0 t2_5)∧r=((a0.Tag == 5) || (t2_5 != 0))
theorem weight_Space_1.D {self65:TSpace→Int→Prop} {a0:TSpace} (hs65:∀ z0_ r_,self65 z0_ r_→D Tryz.prog X (.callH 65 [.agg (TSpace.lit z0_)] [] (.val (.int .i64 r_)) [])) {r:Bool} (h:weight_Space_1.f self65 a0 r):D Tryz.prog X (.callH 105 [.agg (TSpace.lit a0)] [] (.val (.bool r)) []):=by
 unfold weight_Space_1.f at h
 refine .enter 11 0 fn105 q q q<|.seq<|.room 0<|.reg0 q (.o (bxP (s:=3) (cs:=(TSpace.lit a0)) q ⟨q,by decide,q⟩ q)<|.o (asV q)<|.nil0)<|.seq ?_
 obtain ⟨t2_5,g2_5,h⟩:=h
 refine .reg0 (e1:=listEnv [(2,bo ((a0.Tag == 5) || (t2_5 != 0)))]) (H1:=[⟨3,[(TSpace.lit a0)],0,none⟩]) q ?_ ?_
 ·refine .o (faP fa25_0 q)<|.o (ldP q sz22 ag22 q)<|.o (eqI q q)<|.m q<|?_
  by_cases c1:a0.Tag=5
  ·exact (.n q (bt c1)<|.n q (bt c1)<|.n q (bt c1)<|.o (pkTV q (bt c1) q)<|.a q<|.nilL _ ⟨cB q (mOrT (bt c1)),trivial⟩)
  ·exact (.g q (bn c1) (ldG q sz25 ag25 q)<|.callI (gT q q q (bn c1)) (callee_of q go65 q) (.pure q q (hs65 _ _ (g2_5 c1)))<|.g q (bn c1) (neI q q)<|.o (pkFV q (bn c1) q)<|.a q<|.nilL _ ⟨cB q (mOrF (bn c1) q),trivial⟩)
 replace h:=h.symm
 subst h
 refine .kf [(2,bo ((a0.Tag == 5) || (t2_5 != 0)))] q q ?_
 exact .ret q
def weight_Space.j1 (a0:TSpace):Unit→Int→Prop:=fun _ r=>if ((decide (a0.Dim ≥ 0)) && ((decide (a0.Dim≤64)) && ((a0.Parts.length:Int) == 0)))=true then (r=0) else (r=50)
def weight_Space.step (self65:TSpace→Int→Prop) (a0:TSpace) (r:Int):Prop :=
 if a0.Tag=1 then (if ((a0.Dim == 0) && ((a0.Parts.length:Int) == 0))=true then (r=0) else (r=50)) else (if a0.Tag=2 then (if ((decide (a0.Dim ≥ 0)) && ((decide (a0.Dim≤1048576)) && ((a0.Parts.length:Int) == 0)))=true then (r=0) else (r=50)) else (if a0.Tag=3 then (weight_Space.j1 a0 () r) else (if a0.Tag=4 then (weight_Space.j1 a0 () r) else (if a0.Tag=5 then (∃ t40_12:Bool,((a0.Dim=0)→((a0.Parts.length:Int)=2)→slices_ContainsFunc_Space.f a0.Parts (fun x0_ y_=>weight_Space_1.f self65 x0_ y_) t40_12)∧if ((a0.Dim == 0) && (((a0.Parts.length:Int) == 2) && (!t40_12)))=true then (r=0) else (r=50)) else (r=50)))))
theorem weight_Space.stepD {self65:TSpace→Int→Prop} {a0:TSpace} (hs65:∀ z0_ r_,self65 z0_ r_→D Tryz.prog X (.callH 65 [.agg (TSpace.lit z0_)] [] (.val (.int .i64 r_)) [])) {r:Int} (h:weight_Space.step self65 a0 r):D Tryz.prog X (.callH 65 [.agg (TSpace.lit a0)] [] (.val (.int .i64 r)) []):=by
 unfold weight_Space.step at h
 refine .enter 70 0 fn65 q q q<|.seq<|.room 0<|.reg0 q (.o (bxP (s:=3) (cs:=(TSpace.lit a0)) q ⟨q,by decide,q⟩ q)<|.o (asV q)<|.nil0)<|.seq<|.reg0 q (.o (asV q)<|.nil0)<|.seq<|.seq<|.reg0 q (.o (faP fa25_0 q)<|.o (ldP q sz22 ag22 q)<|.nil0)<|.block<|.seq<|.block<|.seq ?_
 refine .consJ (fun s_=>weight_Space.j1 a0 s_ r) (fun _=>listEnv [(1,.ptr 0 1 3 0 0)]) (fun _=>[⟨3,[(TSpace.lit a0)],0,none⟩]) ?_ fun hJ1=>?_
 ·rintro ⟨⟩ h
  unfold weight_Space.j1 at h
  try dsimp only at h
  refine .seq ?_
  refine .reg0 (e1:=listEnv [(3,bo ((decide (a0.Dim ≥ 0)) && ((decide (a0.Dim≤64)) && ((a0.Parts.length:Int) == 0))))]) (H1:=[⟨3,[(TSpace.lit a0)],0,none⟩]) q ?_ ?_
  ·refine .o (faP fa25_1 q)<|.o (ldP q sz3 ag3 q)<|.o (geI q q)<|.m q<|?_
   by_cases c14:a0.Dim ≥ 0
   ·refine .g q (dt c14) (faP fa25_1 q)<|.g q (dt c14) (ldP q sz3 ag3 q)<|.g q (dt c14) (leI q q)<|.o (pkTV q (dt c14) q)<|.m q<|?_
    by_cases c15:a0.Dim≤64
    ·exact (.g q (dt c15) (faP fa25_2 q)<|.g q (dt c15) (ldP q sz23 ag23 q)<|.g q (dt c15) (lnR (l:=a0.Parts) sl23 q)<|.g q (dt c15) (eqI q q)<|.o (pkTV q (dt c15) q)<|.a q<|.nilL _ ⟨cB q (mAndT (dt c14) (mAndT (dt c15) q)),trivial⟩)
    ·exact (.n q (df c15)<|.n q (df c15)<|.n q (df c15)<|.n q (df c15)<|.o (pkFV q (df c15) q)<|.a q<|.nilL _ ⟨cB q (mAndT (dt c14) (mAndF (df c15))),trivial⟩)
   ·exact (.n q (df c14)<|.n q (df c14)<|.n q (df c14)<|.o (pkFV q (df c14) q)<|.m q<|.n q q<|.n q q<|.n q q<|.n q q<|.o (pkFV q q q)<|.a q<|.nilL _ ⟨cB q (mAndF (df c14)),trivial⟩)
  refine .exit q<|.seq<|.seq<|.reg0 q (.o (mvV q)<|.o (notB q)<|.nil0) ?_
  by_cases c16:((decide (a0.Dim ≥ 0)) && ((decide (a0.Dim≤64)) && ((a0.Parts.length:Int) == 0)))=true
  ·rw [if_pos c16] at h
   refine .condF q (bnotF c16)<|.skip<|.seq<|.reg0 q (.o (asV q)<|.nil0) ?_
   replace h:=h.symm
   subst h
   refine .kf [(2,i6 0)] q q ?_
   exact .ret q
  ·rw [if_neg c16] at h
   refine .condT q (bnotT (nb c16))<|.seq<|.reg0 q (.o (asV q)<|.nil0) ?_
   replace h:=h.symm
   subst h
   refine .kf [(2,i6 50)] q q ?_
   exact .ret q
 ·refine .block<|.block<|.seq<|.block<|.seq<|.block<|.seq<|.seq<|.seq<|.reg0 q (.o (eqI q q)<|.o (asV q)<|.nil0) ?_
  by_cases c17:a0.Tag=1
  ·rw [if_pos c17] at h
   refine .condT q (bt c17)<|.exit q<|.seq ?_
   refine .reg0 (e1:=listEnv [(3,bo ((a0.Dim == 0) && ((a0.Parts.length:Int) == 0)))]) (H1:=[⟨3,[(TSpace.lit a0)],0,none⟩]) q ?_ ?_
   ·refine .o (faP fa25_1 q)<|.o (ldP q sz3 ag3 q)<|.o (eqI q q)<|.m q<|?_
    by_cases c18:a0.Dim=0
    ·exact (.g q (bt c18) (faP fa25_2 q)<|.g q (bt c18) (ldP q sz23 ag23 q)<|.g q (bt c18) (lnR (l:=a0.Parts) sl23 q)<|.g q (bt c18) (eqI q q)<|.o (pkTV q (bt c18) q)<|.a q<|.nilL _ ⟨cB q (mAndT (bt c18) q),trivial⟩)
    ·exact (.n q (bn c18)<|.n q (bn c18)<|.n q (bn c18)<|.n q (bn c18)<|.o (pkFV q (bn c18) q)<|.a q<|.nilL _ ⟨cB q (mAndF (bn c18)),trivial⟩)
   refine .exit q<|.seq<|.seq<|.reg0 q (.o (mvV q)<|.o (notB q)<|.nil0) ?_
   by_cases c19:((a0.Dim == 0) && ((a0.Parts.length:Int) == 0))=true
   ·rw [if_pos c19] at h
    refine .condF q (bnotF c19)<|.skip<|.seq<|.reg0 q (.o (asV q)<|.nil0) ?_
    replace h:=h.symm
    subst h
    refine .kf [(2,i6 0)] q q ?_
    exact .ret q
   ·rw [if_neg c19] at h
    refine .condT q (bnotT (nb c19))<|.seq<|.reg0 q (.o (asV q)<|.nil0) ?_
    replace h:=h.symm
    subst h
    refine .kf [(2,i6 50)] q q ?_
    exact .ret q
  ·rw [if_neg c17] at h
   refine .condF q (bn c17)<|.skip<|.seq<|.seq<|.reg0 q (.o (eqI q q)<|.o (asV q)<|.nil0) ?_
   by_cases c20:a0.Tag=2
   ·rw [if_pos c20] at h
    refine .condT q (bt c20)<|.exit q<|.seq ?_
    refine .reg0 (e1:=listEnv [(3,bo ((decide (a0.Dim ≥ 0)) && ((decide (a0.Dim≤1048576)) && ((a0.Parts.length:Int) == 0))))]) (H1:=[⟨3,[(TSpace.lit a0)],0,none⟩]) q ?_ ?_
    ·refine .o (faP fa25_1 q)<|.o (ldP q sz3 ag3 q)<|.o (geI q q)<|.m q<|?_
     by_cases c21:a0.Dim ≥ 0
     ·refine .g q (dt c21) (faP fa25_1 q)<|.g q (dt c21) (ldP q sz3 ag3 q)<|.g q (dt c21) (leI q q)<|.o (pkTV q (dt c21) q)<|.m q<|?_
      by_cases c22:a0.Dim≤1048576
      ·exact (.g q (dt c22) (faP fa25_2 q)<|.g q (dt c22) (ldP q sz23 ag23 q)<|.g q (dt c22) (lnR (l:=a0.Parts) sl23 q)<|.g q (dt c22) (eqI q q)<|.o (pkTV q (dt c22) q)<|.a q<|.nilL _ ⟨cB q (mAndT (dt c21) (mAndT (dt c22) q)),trivial⟩)
      ·exact (.n q (df c22)<|.n q (df c22)<|.n q (df c22)<|.n q (df c22)<|.o (pkFV q (df c22) q)<|.a q<|.nilL _ ⟨cB q (mAndT (dt c21) (mAndF (df c22))),trivial⟩)
     ·exact (.n q (df c21)<|.n q (df c21)<|.n q (df c21)<|.o (pkFV q (df c21) q)<|.m q<|.n q q<|.n q q<|.n q q<|.n q q<|.o (pkFV q q q)<|.a q<|.nilL _ ⟨cB q (mAndF (df c21)),trivial⟩)
    refine .exit q<|.seq<|.seq<|.reg0 q (.o (mvV q)<|.o (notB q)<|.nil0) ?_
    by_cases c23:((decide (a0.Dim ≥ 0)) && ((decide (a0.Dim≤1048576)) && ((a0.Parts.length:Int) == 0)))=true
    ·rw [if_pos c23] at h
     refine .condF q (bnotF c23)<|.skip<|.seq<|.reg0 q (.o (asV q)<|.nil0) ?_
     replace h:=h.symm
     subst h
     refine .kf [(2,i6 0)] q q ?_
     exact .ret q
    ·rw [if_neg c23] at h
     refine .condT q (bnotT (nb c23))<|.seq<|.reg0 q (.o (asV q)<|.nil0) ?_
     replace h:=h.symm
     subst h
     refine .kf [(2,i6 50)] q q ?_
     exact .ret q
   ·rw [if_neg c20] at h
    refine .condF q (bn c20)<|.skip<|.seq<|.seq<|.reg0 q (.o (eqI q q)<|.o (asV q)<|.nil0) ?_
    by_cases c24:a0.Tag=3
    ·rw [if_pos c24] at h
     refine .condT q (bt c24)<|.exit q<|.inBlock<|.keepL [0] [(1,.ptr 0 1 3 0 0)] [⟨3,[(TSpace.lit a0)],0,none⟩] (by decide) (by decide) ⟨.ptr q,trivial⟩ ⟨⟨_,q,bcBox (all2_free q)⟩,trivial⟩ ?_
     exact hJ1 _ h
    ·rw [if_neg c24] at h
     refine .condF q (bn c24)<|.skip<|.seq<|.seq<|.reg0 q (.o (eqI q q)<|.o (asV q)<|.nil0) ?_
     by_cases c25:a0.Tag=4
     ·rw [if_pos c25] at h
      refine .condT q (bt c25)<|.exit q<|.keepL [0] [(1,.ptr 0 1 3 0 0)] [⟨3,[(TSpace.lit a0)],0,none⟩] (by decide) (by decide) ⟨.ptr q,trivial⟩ ⟨⟨_,q,bcBox (all2_free q)⟩,trivial⟩ ?_
      exact hJ1 _ h
     ·rw [if_neg c25] at h
      refine .condF q (bn c25)<|.skip<|.seq<|.reg0 q (.o (eqI q q)<|.o (asV q)<|.nil0) ?_
      by_cases c26:a0.Tag=5
      ·rw [if_pos c26] at h
       refine .condT q (bt c26)<|.exit q<|.seq ?_
       obtain ⟨t40_12,g40_12,h⟩:=h
       refine .reg0 (e1:=listEnv [(3,bo ((a0.Dim == 0) && (((a0.Parts.length:Int) == 2) && (!t40_12))))]) (H1:=[⟨3,[(TSpace.lit a0)],0,none⟩]) q ?_ ?_
       ·refine .o (faP fa25_1 q)<|.o (ldP q sz3 ag3 q)<|.o (eqI q q)<|.m q<|?_
        by_cases c27:a0.Dim=0
        ·refine .g q (bt c27) (faP fa25_2 q)<|.g q (bt c27) (ldP q sz23 ag23 q)<|.g q (bt c27) (lnR (l:=a0.Parts) sl23 q)<|.g q (bt c27) (eqI q q)<|.o (pkTV q (bt c27) q)<|.m q<|?_
         by_cases c28:(a0.Parts.length:Int)=2
         ·exact (.g q (bt c28) (faP fa25_2 q)<|.g q (bt c28) (ldP q sz23 ag23 q)<|.callI (gT q q q (bt c28)) (callee_of q go104 q) (.pure q q (slices_ContainsFunc_Space.D (k1_:=[]) go105 q q (fun x0_ y_ h_=>weight_Space_1.D hs65 h_) (g40_12 c27 c28)))<|.g q (bt c28) (notB q)<|.o (pkTV q (bt c28) q)<|.a q<|.nilL _ ⟨cB q (mAndT (bt c27) (mAndT (bt c28) q)),trivial⟩)
         ·exact (.n q (bn c28)<|.n q (bn c28)<|.n q (bn c28)<|.n q (bn c28)<|.o (pkFV q (bn c28) q)<|.a q<|.nilL _ ⟨cB q (mAndT (bt c27) (mAndF (bn c28))),trivial⟩)
        ·exact (.n q (bn c27)<|.n q (bn c27)<|.n q (bn c27)<|.n q (bn c27)<|.o (pkFV q (bn c27) q)<|.m q<|.n q q<|.n q q<|.n q q<|.n q q<|.o (pkFV q q q)<|.a q<|.nilL _ ⟨cB q (mAndF (bn c27)),trivial⟩)
       refine .exit q<|.seq<|.seq<|.reg0 q (.o (mvV q)<|.o (notB q)<|.nil0) ?_
       by_cases c29:((a0.Dim == 0) && (((a0.Parts.length:Int) == 2) && (!t40_12)))=true
       ·rw [if_pos c29] at h
        refine .condF q (bnotF c29)<|.skip<|.seq<|.reg0 q (.o (asV q)<|.nil0) ?_
        replace h:=h.symm
        subst h
        refine .kf [(2,i6 0)] q q ?_
        exact .ret q
       ·rw [if_neg c29] at h
        refine .condT q (bnotT (nb c29))<|.seq<|.reg0 q (.o (asV q)<|.nil0) ?_
        replace h:=h.symm
        subst h
        refine .kf [(2,i6 50)] q q ?_
        exact .ret q
      ·rw [if_neg c26] at h
       refine .condF q (bn c26)<|.skip<|.exit q<|.seq<|.seq<|.reg0 q (.o (mvV q)<|.o (notB q)<|.nil0)<|.condT q (bnotT q)<|.seq<|.reg0 q (.o (asV q)<|.nil0) ?_
       replace h:=h.symm
       subst h
       refine .kf [(2,i6 50)] q q ?_
       exact .ret q
def weight_Space.fN:Nat→TSpace→Int→Prop
 | 0=>fun _ _=>False
 | n + 1=>weight_Space.step (weight_Space.fN n)
theorem weight_Space.ND:∀ (n:Nat) {a0:TSpace} {r:Int} (h:weight_Space.fN n a0 r),D Tryz.prog X (.callH 65 [.agg (TSpace.lit a0)] [] (.val (.int .i64 r)) [])
 | 0,_,_,h=>h.elim
 | n + 1,_,_,h=>weight_Space.stepD (fun _ _ h=>weight_Space.ND n h) h
def weight_Space.f (a0:TSpace) (r:Int):Prop:=∃ n,weight_Space.fN n a0 r
theorem weight_Space.D {a0 r} (h:weight_Space.f a0 r):D Tryz.prog X (.callH 65 [.agg (TSpace.lit a0)] [] (.val (.int .i64 r)) []):=by obtain ⟨n,h⟩:=h; exact weight_Space.ND n h
def slices_IndexFunc_Rule.b1 (a0:List TRule) (a1:TRule→Bool→Prop):Int→Rnd Int Unit Int→Prop:=fun x1 z1=>if x1 < (a0.length:Int) then (((InR x1 a0.length))∧∃ t15_5:Bool,(a1 (rdl a0 x1) t15_5)∧if t15_5=true then (z1=.ret x1) else (z1=.next (IntKind.i64.wrap (x1 + 1)))) else (z1=.exit ())
def slices_IndexFunc_Rule.f (a0:List TRule) (a1:TRule→Bool→Prop) (r:Int):Prop :=
 ∃ o1:Fin Unit Int,Loop (slices_IndexFunc_Rule.b1 a0 a1) 0 o1∧o1.on (fun _=>r=(-1)) (fun r_=>r=r_)
theorem slices_IndexFunc_Rule.D {a0:List TRule} {a1:TRule→Bool→Prop} {r:Int} {c1_:FuncId} {k1_:List PV} (hg1_:isGo Tryz.prog c1_=true) (hk1_:PV.free deep (.clo c1_ k1_)=true) (hka1_:k1_.all (PV.free deep)=true) (hq1_:∀ x0_ y_,a1 x0_ y_→D Tryz.prog X (.callH c1_ ([.agg (TRule.lit x0_)] ++ k1_) [] (.val (.bool y_)) [])) (h:slices_IndexFunc_Rule.f a0 a1 r):D Tryz.prog X (.callH 136 [.rows (a0.map TRule.cells),.clo c1_ k1_] [] (.val (.int .i64 r)) []):=by
 unfold slices_IndexFunc_Rule.f at h
 refine .enter 19 0 fn136 q q q<|.seq<|.reg0 q (.o (asV q)<|.nil0)<|.seq<|.seq<|.reg0 q (.o (mvR q)<|.o (lnR (l:=a0) sl26 q)<|.o (mvV q)<|.nil0)<|.block<|.keepL [] [(0,.rows (a0.map TRule.cells)),(1,.clo c1_ k1_),(7,i6 (a0.length:Int)),(8,i6 0)] [] (by decide) (by decide) ⟨.free q q,.free q hk1_,.free q q,.free q q,trivial⟩ trivial ?_
 obtain ⟨o1,hL1,h⟩:=h
 refine .loopB (slices_IndexFunc_Rule.b1 a0 a1) (fun x1=>listEnv [(0,.rows (a0.map TRule.cells)),(1,.clo c1_ k1_),(7,i6 (a0.length:Int)),(8,i6 x1)]) (fun x1=>[]) (fun _=>listEnv []) (fun _=>[]) hL1 (fun r_=>r=r_) ?_ ?_ ?_
 ·rintro ⟨⟩ rfl
  try dsimp only [Fin.on] at h
  refine .seq<|.reg0 q (.o (asV q)<|.nil0) ?_
  replace h:=h.symm
  subst h
  refine .kf [(4,i6 (-1))] q q ?_
  exact .ret q
 ·rintro r_ rfl
  exact h
 ·rintro x1 z1 h hn1 hx1 hr1
  dsimp only [slices_IndexFunc_Rule.b1] at h
  refine .seq<|.reg0 q (.o (ltI q q)<|.nil0)<|.seq ?_
  by_cases c5:x1 < (a0.length:Int)
  ·rw [if_pos c5] at h
   refine .condT q (dt c5)<|.skip<|.seq<|.block<|.seq<|.reg0 q (.o (mvV q)<|.o (asV q)<|.nil0)<|.seq ?_
   obtain ⟨g15_3,h⟩:=h
   obtain ⟨t15_5,g15_5,h⟩:=h
   refine .reg0 q (.o (mvF q)<|.o (mvR q)<|.m q<|.o (ixR (l:=a0) (lit:=TRule.lit) sl26 q q (fun _=>q) g15_3.1 g15_3.2)<|.o (ldCG q sz77 ag77 q)<|.callI q (callee_of q hg1_ q) (.pure (allCons q hka1_) q (hq1_ _ _ g15_5))<|.nil0) ?_
   by_cases c6:t15_5=true
   ·rw [if_pos c6] at h
    refine .condT q c6<|.seq<|.reg0 q (.o (mvV q)<|.o (asV q)<|.nil0) ?_
    have q3:=hr1 _ h
    replace q3:=q3.symm
    subst q3
    refine .kf [(4,i6 x1)] q q ?_
    exact .ret q
   ·rw [if_neg c6] at h
    refine .condF q (nb c6)<|.skip<|.inBlock<|.reg0 q (.o (addI q q)<|.o (mvV q)<|.nil0)<|.k [(0,.rows (a0.map TRule.cells)),(1,.clo c1_ k1_),(7,i6 (a0.length:Int)),(8,i6 (IntKind.i64.wrap (x1 + 1)))] ⟨.free q q,.free q hk1_,.free q q,.free q q,trivial⟩ ?_
    exact hn1 _ h
  ·rw [if_neg c5] at h
   refine .condF q (df c5)<|.exit q<|.keepL [] [] [] (by decide) (by decide) trivial trivial ?_
   exact hx1 _ h
def slices_ContainsFunc_Rule.f (a0:List TRule) (a1:TRule→Bool→Prop) (r:Bool):Prop :=
 ∃ t2_2:Int,(slices_IndexFunc_Rule.f a0 a1 t2_2)∧r=(decide (t2_2 ≥ 0))
theorem slices_ContainsFunc_Rule.D {a0:List TRule} {a1:TRule→Bool→Prop} {r:Bool} {c1_:FuncId} {k1_:List PV} (hg1_:isGo Tryz.prog c1_=true) (hk1_:PV.free deep (.clo c1_ k1_)=true) (hka1_:k1_.all (PV.free deep)=true) (hq1_:∀ x0_ y_,a1 x0_ y_→D Tryz.prog X (.callH c1_ ([.agg (TRule.lit x0_)] ++ k1_) [] (.val (.bool y_)) [])) (h:slices_ContainsFunc_Rule.f a0 a1 r):D Tryz.prog X (.callH 99 [.rows (a0.map TRule.cells),.clo c1_ k1_] [] (.val (.bool r)) []):=by
 unfold slices_ContainsFunc_Rule.f at h
 refine .enter 9 0 fn99 q q q<|.seq<|.reg0 q (.o (asV q)<|.nil0)<|.seq ?_
 obtain ⟨t2_2,g2_2,h⟩:=h
 refine .reg0 q (.o (mvR q)<|.o (mvF q)<|.callI q (callee_of q go136 q) (.pure (allCons q (allCons hk1_ q)) q (slices_IndexFunc_Rule.D hg1_ hk1_ hka1_ hq1_ g2_2))<|.o (geI q q)<|.a q<|.nil0) ?_
 replace h:=h.symm
 subst h
 refine .kf [(4,bo (decide (t2_2 ≥ 0)))] q q ?_
 exact .ret q
def pds_in.f (a0:Int) (a1:Int) (r:Bool):Prop :=
 r=((decide (a0 ≥ 0)) && (decide (a0 < a1)))
theorem pds_in.D {a0 a1 r} (h:pds_in.f a0 a1 r):D Tryz.prog X (.callH 137 [.val (.int .i64 a0),.val (.int .i64 a1)] [] (.val (.bool r)) []):=by
 unfold pds_in.f at h
 refine .enter 12 0 fn137 q q q<|.seq<|.reg0 q (.o (asV q)<|.nil0)<|.seq ?_
 refine .reg0 (e1:=listEnv [(4,bo ((decide (a0 ≥ 0)) && (decide (a0 < a1))))]) (H1:=[]) q ?_ ?_
 ·refine .m q<|.o (geI q q)<|.m q<|?_
  by_cases c1:a0 ≥ 0
  ·exact (.g q (dt c1) (mvV q)<|.g q (dt c1) (mvV q)<|.g q (dt c1) (ltI q q)<|.o (pkTV q (dt c1) q)<|.a q<|.nilL _ ⟨cB q (mAndT (dt c1) q),trivial⟩)
  ·exact (.n q (df c1)<|.n q (df c1)<|.n q (df c1)<|.o (pkFV q (df c1) q)<|.a q<|.nilL _ ⟨cB q (mAndF (df c1)),trivial⟩)
 replace h:=h.symm
 subst h
 refine .kf [(4,bo ((decide (a0 ≥ 0)) && (decide (a0 < a1))))] q q ?_
 exact .ret q
def slices_IndexFunc_int.b1 (a0:List Int) (a1:Int→Bool→Prop):Int→Rnd Int Unit Int→Prop:=fun x1 z1=>if x1 < (a0.length:Int) then (((InR x1 a0.length))∧∃ t15_5:Bool,(a1 (rdl a0 x1) t15_5)∧if t15_5=true then (z1=.ret x1) else (z1=.next (IntKind.i64.wrap (x1 + 1)))) else (z1=.exit ())
def slices_IndexFunc_int.f (a0:List Int) (a1:Int→Bool→Prop) (r:Int):Prop :=
 ∃ o1:Fin Unit Int,Loop (slices_IndexFunc_int.b1 a0 a1) 0 o1∧o1.on (fun _=>r=(-1)) (fun r_=>r=r_)
theorem slices_IndexFunc_int.D {a0:List Int} {a1:Int→Bool→Prop} {r:Int} {c1_:FuncId} {k1_:List PV} (hg1_:isGo Tryz.prog c1_=true) (hk1_:PV.free deep (.clo c1_ k1_)=true) (hka1_:k1_.all (PV.free deep)=true) (hq1_:∀ x0_ y_,a1 x0_ y_→D Tryz.prog X (.callH c1_ ([.val (.int .i64 x0_)] ++ k1_) [] (.val (.bool y_)) [])) (h:slices_IndexFunc_int.f a0 a1 r):D Tryz.prog X (.callH 167 [.rows (a0.map (cInt .i64)),.clo c1_ k1_] [] (.val (.int .i64 r)) []):=by
 unfold slices_IndexFunc_int.f at h
 refine .enter 19 0 fn167 q q q<|.seq<|.reg0 q (.o (asV q)<|.nil0)<|.seq<|.seq<|.reg0 q (.o (mvR q)<|.o (lnR (l:=a0) sl29 q)<|.o (mvV q)<|.nil0)<|.block<|.keepL [] [(0,.rows (a0.map (cInt .i64))),(1,.clo c1_ k1_),(7,i6 (a0.length:Int)),(8,i6 0)] [] (by decide) (by decide) ⟨.free q q,.free q hk1_,.free q q,.free q q,trivial⟩ trivial ?_
 obtain ⟨o1,hL1,h⟩:=h
 refine .loopB (slices_IndexFunc_int.b1 a0 a1) (fun x1=>listEnv [(0,.rows (a0.map (cInt .i64))),(1,.clo c1_ k1_),(7,i6 (a0.length:Int)),(8,i6 x1)]) (fun x1=>[]) (fun _=>listEnv []) (fun _=>[]) hL1 (fun r_=>r=r_) ?_ ?_ ?_
 ·rintro ⟨⟩ rfl
  try dsimp only [Fin.on] at h
  refine .seq<|.reg0 q (.o (asV q)<|.nil0) ?_
  replace h:=h.symm
  subst h
  refine .kf [(4,i6 (-1))] q q ?_
  exact .ret q
 ·rintro r_ rfl
  exact h
 ·rintro x1 z1 h hn1 hx1 hr1
  dsimp only [slices_IndexFunc_int.b1] at h
  refine .seq<|.reg0 q (.o (ltI q q)<|.nil0)<|.seq ?_
  by_cases c5:x1 < (a0.length:Int)
  ·rw [if_pos c5] at h
   refine .condT q (dt c5)<|.skip<|.seq<|.block<|.seq<|.reg0 q (.o (mvV q)<|.o (asV q)<|.nil0)<|.seq ?_
   obtain ⟨g15_3,h⟩:=h
   obtain ⟨t15_5,g15_5,h⟩:=h
   refine .reg0 q (.o (mvF q)<|.o (mvR q)<|.m q<|.o (ixR (l:=a0) (lit:=(cInt .i64)) sl29 q q (fun _=>q) g15_3.1 g15_3.2)<|.o (ldC q sz3 ag3 q)<|.callI q (callee_of q hg1_ q) (.pure (allCons q hka1_) q (hq1_ _ _ g15_5))<|.nil0) ?_
   by_cases c6:t15_5=true
   ·rw [if_pos c6] at h
    refine .condT q c6<|.seq<|.reg0 q (.o (mvV q)<|.o (asV q)<|.nil0) ?_
    have q3:=hr1 _ h
    replace q3:=q3.symm
    subst q3
    refine .kf [(4,i6 x1)] q q ?_
    exact .ret q
   ·rw [if_neg c6] at h
    refine .condF q (nb c6)<|.skip<|.inBlock<|.reg0 q (.o (addI q q)<|.o (mvV q)<|.nil0)<|.k [(0,.rows (a0.map (cInt .i64))),(1,.clo c1_ k1_),(7,i6 (a0.length:Int)),(8,i6 (IntKind.i64.wrap (x1 + 1)))] ⟨.free q q,.free q hk1_,.free q q,.free q q,trivial⟩ ?_
    exact hn1 _ h
  ·rw [if_neg c5] at h
   refine .condF q (df c5)<|.exit q<|.keepL [] [] [] (by decide) (by decide) trivial trivial ?_
   exact hx1 _ h
def slices_ContainsFunc_int.f (a0:List Int) (a1:Int→Bool→Prop) (r:Bool):Prop :=
 ∃ t2_2:Int,(slices_IndexFunc_int.f a0 a1 t2_2)∧r=(decide (t2_2 ≥ 0))
theorem slices_ContainsFunc_int.D {a0:List Int} {a1:Int→Bool→Prop} {r:Bool} {c1_:FuncId} {k1_:List PV} (hg1_:isGo Tryz.prog c1_=true) (hk1_:PV.free deep (.clo c1_ k1_)=true) (hka1_:k1_.all (PV.free deep)=true) (hq1_:∀ x0_ y_,a1 x0_ y_→D Tryz.prog X (.callH c1_ ([.val (.int .i64 x0_)] ++ k1_) [] (.val (.bool y_)) [])) (h:slices_ContainsFunc_int.f a0 a1 r):D Tryz.prog X (.callH 138 [.rows (a0.map (cInt .i64)),.clo c1_ k1_] [] (.val (.bool r)) []):=by
 unfold slices_ContainsFunc_int.f at h
 refine .enter 9 0 fn138 q q q<|.seq<|.reg0 q (.o (asV q)<|.nil0)<|.seq ?_
 obtain ⟨t2_2,g2_2,h⟩:=h
 refine .reg0 q (.o (mvR q)<|.o (mvF q)<|.callI q (callee_of q go167 q) (.pure (allCons q (allCons hk1_ q)) q (slices_IndexFunc_int.D hg1_ hk1_ hka1_ hq1_ g2_2))<|.o (geI q q)<|.a q<|.nil0) ?_
 replace h:=h.symm
 subst h
 refine .kf [(4,bo (decide (t2_2 ≥ 0)))] q q ?_
 exact .ret q
def pds_rule_1.f (a0:Int) (f0:TPds) (r:Bool):Prop :=
 ∃ t2_3:Bool,(pds_in.f a0 f0.Symbols t2_3)∧r=(!t2_3)
theorem pds_rule_1.D {a0 f0 r} (h:pds_rule_1.f a0 f0 r):D Tryz.prog X (.callH 139 [.val (.int .i64 a0),.cptr (TPds.lit f0) 0] [] (.val (.bool r)) []):=by
 unfold pds_rule_1.f at h
 refine .enter 9 0 fn139 q q q<|.seq<|.reg0 q (.o (asV q)<|.nil0)<|.seq ?_
 obtain ⟨t2_3,g2_3,h⟩:=h
 refine .reg0 q (.m q<|.o (faC fa28_2 q)<|.o (ldC q sz3 ag3 q)<|.c q go137 q q q (pds_in.D g2_3)<|.o (notB q)<|.a q<|.nil0) ?_
 replace h:=h.symm
 subst h
 refine .kf [(3,bo (!t2_3))] q q ?_
 exact .ret q
def pds_rule.f (a0:TPds) (a1:TRule) (r:Bool):Prop :=
 ∃ t2_4:Bool,(pds_in.f a1.P a0.States t2_4)∧∃ t2_10:Bool,((t2_4=true)→pds_in.f a1.Q a0.States t2_10)∧∃ t2_17:Bool,((t2_4=true)→(t2_10=true)→pds_in.f a1.G a0.Symbols t2_17)∧∃ t2_29:Bool,((t2_4=true)→(t2_10=true)→(t2_17=true)→((a1.W.length:Int)≤4096)→slices_ContainsFunc_int.f a1.W (fun x0_ y_=>pds_rule_1.f x0_ a0 y_) t2_29)∧r=(t2_4 && (t2_10 && (t2_17 && ((decide ((a1.W.length:Int)≤4096)) && (!t2_29)))))
theorem pds_rule.D {a0 a1 r} (h:pds_rule.f a0 a1 r):D Tryz.prog X (.callH 101 [.agg (TPds.lit a0),.agg (TRule.lit a1)] [] (.val (.bool r)) []):=by
 unfold pds_rule.f at h
 refine .enter 37 0 fn101 q q q<|.seq<|.room 0<|.room 0<|.reg0 q (.o (bxP (s:=6) (cs:=(TPds.lit a0)) q ⟨q,by decide,q⟩ q)<|.op 1 q (bxP (s:=10) (cs:=(TRule.lit a1)) q ⟨q,by decide,q⟩ q)<|.o (asV q)<|.nil0)<|.seq ?_
 obtain ⟨t2_4,g2_4,h⟩:=h
 obtain ⟨t2_10,g2_10,h⟩:=h
 obtain ⟨t2_17,g2_17,h⟩:=h
 obtain ⟨t2_29,g2_29,h⟩:=h
 refine .reg0 (e1:=listEnv [(4,bo (t2_4 && (t2_10 && (t2_17 && ((decide ((a1.W.length:Int)≤4096)) && (!t2_29))))))]) (H1:=[⟨6,[(TPds.lit a0)],0,none⟩,⟨10,[(TRule.lit a1)],0,none⟩]) q ?_ ?_
 ·refine .o (faP fa77_0 q)<|.o (ldP q sz3 ag3 q)<|.o (faP fa28_1 q)<|.o (ldP q sz3 ag3 q)<|.c q go137 q q q (pds_in.D g2_4)<|.m q<|?_
  by_cases c1:t2_4=true
  ·refine .g q c1 (faP fa77_2 q)<|.g q c1 (ldP q sz3 ag3 q)<|.g q c1 (faP fa28_1 q)<|.g q c1 (ldP q sz3 ag3 q)<|.callI (gT q q q c1) (callee_of q go137 q) (.pure q q (pds_in.D (g2_10 c1)))<|.o (pkTV q c1 q)<|.m q<|?_
   by_cases c2:t2_10=true
   ·refine .g q c2 (faP fa77_1 q)<|.g q c2 (ldP q sz3 ag3 q)<|.g q c2 (faP fa28_2 q)<|.g q c2 (ldP q sz3 ag3 q)<|.callI (gT q q q c2) (callee_of q go137 q) (.pure q q (pds_in.D (g2_17 c1 c2)))<|.o (pkTV q c2 q)<|.m q<|?_
    by_cases c3:t2_17=true
    ·refine .g q c3 (faP fa77_3 q)<|.g q c3 (ldP q sz29 ag29 q)<|.g q c3 (lnR (l:=a1.W) sl29 q)<|.g q c3 (leI q q)<|.o (pkTV q c3 q)<|.m q<|?_
     by_cases c4:(a1.W.length:Int)≤4096
     ·exact (.g q (dt c4) (faP fa77_3 q)<|.g q (dt c4) (ldP q sz29 ag29 q)<|.g q (dt c4) (mkF q)<|.callI (gT q q q (dt c4)) (callee_of q go138 q) (.lendC (args':=[.rows (a1.W.map (cInt .i64)),.clo 139 [.cptr (TPds.lit a0) 0]])  [0] false (.cons (.free q q)<|.cons (cClo (.cons (cFixP q q (.cons (.free q q)<|.cons (.free q q)<|.cons (.free q q)<|.cons (.free q q)<|.cons (.free q q)<|.cons (.free q q)<|.nil))<|.nil))<|.nil) (by decide) q q q q (slices_ContainsFunc_int.D (k1_:=[.cptr (TPds.lit a0) 0]) go139 q q (fun x0_ y_ h_=>pds_rule_1.D h_) (g2_29 c1 c2 c3 c4)))<|.g q (dt c4) (notB q)<|.o (pkTV q (dt c4) q)<|.a q<|.nilL _ ⟨cB q (mAndT c1 (mAndT c2 (mAndT c3 (mAndT (dt c4) q)))),trivial⟩)
     ·exact (.n q (df c4)<|.n q (df c4)<|.n q (df c4)<|.n q (df c4)<|.n q (df c4)<|.o (pkFV q (df c4) q)<|.a q<|.nilL _ ⟨cB q (mAndT c1 (mAndT c2 (mAndT c3 (mAndF (df c4))))),trivial⟩)
    ·exact (.n q (nb c3)<|.n q (nb c3)<|.n q (nb c3)<|.n q (nb c3)<|.o (pkFV q (nb c3) q)<|.m q<|.n q q<|.n q q<|.n q q<|.n q q<|.n q q<|.o (pkFV q q q)<|.a q<|.nilL _ ⟨cB q (mAndT c1 (mAndT c2 (mAndF (nb c3)))),trivial⟩)
   ·exact (.n q (nb c2)<|.n q (nb c2)<|.n q (nb c2)<|.n q (nb c2)<|.n q (nb c2)<|.o (pkFV q (nb c2) q)<|.m q<|.n q q<|.n q q<|.n q q<|.n q q<|.o (pkFV q q q)<|.m q<|.n q q<|.n q q<|.n q q<|.n q q<|.n q q<|.o (pkFV q q q)<|.a q<|.nilL _ ⟨cB q (mAndT c1 (mAndF (nb c2))),trivial⟩)
  ·exact (.n q (nb c1)<|.n q (nb c1)<|.n q (nb c1)<|.n q (nb c1)<|.n q (nb c1)<|.o (pkFV q (nb c1) q)<|.m q<|.n q q<|.n q q<|.n q q<|.n q q<|.n q q<|.o (pkFV q q q)<|.m q<|.n q q<|.n q q<|.n q q<|.n q q<|.o (pkFV q q q)<|.m q<|.n q q<|.n q q<|.n q q<|.n q q<|.n q q<|.o (pkFV q q q)<|.a q<|.nilL _ ⟨cB q (mAndF (nb c1)),trivial⟩)
 replace h:=h.symm
 subst h
 refine .kf [(4,bo (t2_4 && (t2_10 && (t2_17 && ((decide ((a1.W.length:Int)≤4096)) && (!t2_29))))))] q q ?_
 exact .ret q
def pds_Check_1.f (a0:TRule) (f0:TPds) (r:Bool):Prop :=
 ∃ t2_2:Bool,(pds_rule.f f0 a0 t2_2)∧r=(!t2_2)
theorem pds_Check_1.D {a0 f0 r} (h:pds_Check_1.f a0 f0 r):D Tryz.prog X (.callH 100 [.agg (TRule.lit a0),.cptr (TPds.lit f0) 0] [] (.val (.bool r)) []):=by
 unfold pds_Check_1.f at h
 refine .enter 8 0 fn100 q q q<|.seq<|.room 0<|.reg0 q (.o (bxP (s:=10) (cs:=(TRule.lit a0)) q ⟨q,by decide,q⟩ q)<|.o (asV q)<|.nil0)<|.seq ?_
 obtain ⟨t2_2,g2_2,h⟩:=h
 refine .reg0 q (.o (ldCG q sz28 ag28 q)<|.o (ldG q sz77 ag77 q)<|.c q go101 q q q (pds_rule.D g2_2)<|.o (notB q)<|.a q<|.nil0) ?_
 replace h:=h.symm
 subst h
 refine .kf [(3,bo (!t2_2))] q q ?_
 exact .ret q
def slices_IndexFunc_Weight.b1 (a0:List TWeight) (a1:TWeight→Bool→Prop):Int→Rnd Int Unit Int→Prop:=fun x1 z1=>if x1 < (a0.length:Int) then (((InR x1 a0.length))∧∃ t15_5:Bool,(a1 (rdl a0 x1) t15_5)∧if t15_5=true then (z1=.ret x1) else (z1=.next (IntKind.i64.wrap (x1 + 1)))) else (z1=.exit ())
def slices_IndexFunc_Weight.f (a0:List TWeight) (a1:TWeight→Bool→Prop) (r:Int):Prop :=
 ∃ o1:Fin Unit Int,Loop (slices_IndexFunc_Weight.b1 a0 a1) 0 o1∧o1.on (fun _=>r=(-1)) (fun r_=>r=r_)
theorem slices_IndexFunc_Weight.D {a0:List TWeight} {a1:TWeight→Bool→Prop} {r:Int} {c1_:FuncId} {k1_:List PV} (hg1_:isGo Tryz.prog c1_=true) (hk1_:PV.free deep (.clo c1_ k1_)=true) (hka1_:k1_.all (PV.free deep)=true) (hq1_:∀ x0_ y_,a1 x0_ y_→D Tryz.prog X (.callH c1_ ([.agg (TWeight.lit x0_)] ++ k1_) [] (.val (.bool y_)) [])) (h:slices_IndexFunc_Weight.f a0 a1 r):D Tryz.prog X (.callH 147 [.rows (a0.map TWeight.cells),.clo c1_ k1_] [] (.val (.int .i64 r)) []):=by
 unfold slices_IndexFunc_Weight.f at h
 refine .enter 19 0 fn147 q q q<|.seq<|.reg0 q (.o (asV q)<|.nil0)<|.seq<|.seq<|.reg0 q (.o (mvR q)<|.o (lnR (l:=a0) sl51 q)<|.o (mvV q)<|.nil0)<|.block<|.keepL [] [(0,.rows (a0.map TWeight.cells)),(1,.clo c1_ k1_),(7,i6 (a0.length:Int)),(8,i6 0)] [] (by decide) (by decide) ⟨.free q q,.free q hk1_,.free q q,.free q q,trivial⟩ trivial ?_
 obtain ⟨o1,hL1,h⟩:=h
 refine .loopB (slices_IndexFunc_Weight.b1 a0 a1) (fun x1=>listEnv [(0,.rows (a0.map TWeight.cells)),(1,.clo c1_ k1_),(7,i6 (a0.length:Int)),(8,i6 x1)]) (fun x1=>[]) (fun _=>listEnv []) (fun _=>[]) hL1 (fun r_=>r=r_) ?_ ?_ ?_
 ·rintro ⟨⟩ rfl
  try dsimp only [Fin.on] at h
  refine .seq<|.reg0 q (.o (asV q)<|.nil0) ?_
  replace h:=h.symm
  subst h
  refine .kf [(4,i6 (-1))] q q ?_
  exact .ret q
 ·rintro r_ rfl
  exact h
 ·rintro x1 z1 h hn1 hx1 hr1
  dsimp only [slices_IndexFunc_Weight.b1] at h
  refine .seq<|.reg0 q (.o (ltI q q)<|.nil0)<|.seq ?_
  by_cases c5:x1 < (a0.length:Int)
  ·rw [if_pos c5] at h
   refine .condT q (dt c5)<|.skip<|.seq<|.block<|.seq<|.reg0 q (.o (mvV q)<|.o (asV q)<|.nil0)<|.seq ?_
   obtain ⟨g15_3,h⟩:=h
   obtain ⟨t15_5,g15_5,h⟩:=h
   refine .reg0 q (.o (mvF q)<|.o (mvR q)<|.m q<|.o (ixR (l:=a0) (lit:=TWeight.lit) sl51 q q TWeight.cells_lit g15_3.1 g15_3.2)<|.o (ldCG q sz53 ag53 q)<|.callI q (callee_of q hg1_ q) (.pure (allCons q hka1_) q (hq1_ _ _ g15_5))<|.nil0) ?_
   by_cases c6:t15_5=true
   ·rw [if_pos c6] at h
    refine .condT q c6<|.seq<|.reg0 q (.o (mvV q)<|.o (asV q)<|.nil0) ?_
    have q3:=hr1 _ h
    replace q3:=q3.symm
    subst q3
    refine .kf [(4,i6 x1)] q q ?_
    exact .ret q
   ·rw [if_neg c6] at h
    refine .condF q (nb c6)<|.skip<|.inBlock<|.reg0 q (.o (addI q q)<|.o (mvV q)<|.nil0)<|.k [(0,.rows (a0.map TWeight.cells)),(1,.clo c1_ k1_),(7,i6 (a0.length:Int)),(8,i6 (IntKind.i64.wrap (x1 + 1)))] ⟨.free q q,.free q hk1_,.free q q,.free q q,trivial⟩ ?_
    exact hn1 _ h
  ·rw [if_neg c5] at h
   refine .condF q (df c5)<|.exit q<|.keepL [] [] [] (by decide) (by decide) trivial trivial ?_
   exact hx1 _ h
def slices_ContainsFunc_Weight.f (a0:List TWeight) (a1:TWeight→Bool→Prop) (r:Bool):Prop :=
 ∃ t2_2:Int,(slices_IndexFunc_Weight.f a0 a1 t2_2)∧r=(decide (t2_2 ≥ 0))
theorem slices_ContainsFunc_Weight.D {a0:List TWeight} {a1:TWeight→Bool→Prop} {r:Bool} {c1_:FuncId} {k1_:List PV} (hg1_:isGo Tryz.prog c1_=true) (hk1_:PV.free deep (.clo c1_ k1_)=true) (hka1_:k1_.all (PV.free deep)=true) (hq1_:∀ x0_ y_,a1 x0_ y_→D Tryz.prog X (.callH c1_ ([.agg (TWeight.lit x0_)] ++ k1_) [] (.val (.bool y_)) [])) (h:slices_ContainsFunc_Weight.f a0 a1 r):D Tryz.prog X (.callH 108 [.rows (a0.map TWeight.cells),.clo c1_ k1_] [] (.val (.bool r)) []):=by
 unfold slices_ContainsFunc_Weight.f at h
 refine .enter 9 0 fn108 q q q<|.seq<|.reg0 q (.o (asV q)<|.nil0)<|.seq ?_
 obtain ⟨t2_2,g2_2,h⟩:=h
 refine .reg0 q (.o (mvR q)<|.o (mvF q)<|.callI q (callee_of q go147 q) (.pure (allCons q (allCons hk1_ q)) q (slices_IndexFunc_Weight.D hg1_ hk1_ hka1_ hq1_ g2_2))<|.o (geI q q)<|.a q<|.nil0) ?_
 replace h:=h.symm
 subst h
 refine .kf [(4,bo (decide (t2_2 ≥ 0)))] q q ?_
 exact .ret q
def weight_bare.j1:(Int × Int × (List Int) × (List TCell) × (List TWeight))→Bool→Prop:=fun (x20,x21,x22,x23,x24) r=>r=((x20 == 0) && ((x21 == 0) && ((IntKind.i64.wrap ((IntKind.i64.wrap ((x22.length:Int) + (x23.length:Int))) + (x24.length:Int))) == 0)))
def weight_bare.f (a0:TWeight) (a1:Int) (r:Bool):Prop :=
 if a1=2 then (weight_bare.j1 (0,a0.Facts.Gen,a0.Facts.Rows,a0.Cells,a0.Parts) r) else (if a1=3 then (weight_bare.j1 (a0.Cost,0,[],a0.Cells,a0.Parts) r) else (if a1=4 then (weight_bare.j1 (a0.Cost,a0.Facts.Gen,a0.Facts.Rows,[],a0.Parts) r) else (if a1=5 then (weight_bare.j1 (a0.Cost,a0.Facts.Gen,a0.Facts.Rows,a0.Cells,[]) r) else (weight_bare.j1 (a0.Cost,a0.Facts.Gen,a0.Facts.Rows,a0.Cells,a0.Parts) r))))
theorem weight_bare.D {a0 a1 r} (h:weight_bare.f a0 a1 r):D Tryz.prog X (.callH 148 [.agg (TWeight.lit a0),.val (.int .i64 a1)] [] (.val (.bool r)) []):=by
 unfold weight_bare.f at h
 refine .enter 43 0 fn148 q q q<|.seq<|.room 0<|.reg0 q (.o (bxP (s:=6) (cs:=(TWeight.lit a0)) q ⟨q,by decide,q⟩ q)<|.o (asV q)<|.nil0)<|.seq<|.seq<|.reg0 q (.o (mvV q)<|.nil0)<|.block<|.seq<|.reg0 q (.o (eqI q q)<|.o (asV q)<|.nil0) ?_
 refine .consJ (fun s_=>weight_bare.j1 s_ r) (fun (x20,x21,x22,x23,x24)=>listEnv [(2,.ptr 0 1 6 0 0)]) (fun (x20,x21,x22,x23,x24)=>[⟨6,[[bo a0.Zero,i6 x20,u6 x21,.rows (x22.map (cInt .u64)),.rows (x23.map TCell.cells),.rows (x24.map TWeight.cells)]],0,none⟩]) ?_ fun hJ1=>?_
 ·rintro ⟨x20,x21,x22,x23,x24⟩ h
  unfold weight_bare.j1 at h
  try dsimp only at h
  refine .inBlock<|.seq ?_
  refine .reg0 (e1:=listEnv [(4,bo ((x20 == 0) && ((x21 == 0) && ((IntKind.i64.wrap ((IntKind.i64.wrap ((x22.length:Int) + (x23.length:Int))) + (x24.length:Int))) == 0))))]) (H1:=[⟨6,[[bo a0.Zero,i6 x20,u6 x21,.rows (x22.map (cInt .u64)),.rows (x23.map TCell.cells),.rows (x24.map TWeight.cells)]],0,none⟩]) q ?_ ?_
  ·refine .o (faP fa53_1 q)<|.o (ldP q sz3 ag3 q)<|.o (eqI q q)<|.m q<|?_
   by_cases c13:x20=0
   ·refine .g q (bt c13) (faP fa53_2 q)<|.g q (bt c13) (faP fa49_0 q)<|.g q (bt c13) (ldP q sz46 ag46 q)<|.g q (bt c13) (eqI q q)<|.o (pkTV q (bt c13) q)<|.m q<|?_
    by_cases c14:x21=0
    ·exact (.g q (bt c14) (faP fa53_2 q)<|.g q (bt c14) (faP fa49_1 q)<|.g q (bt c14) (ldP q sz47 ag47 q)<|.g q (bt c14) (lnR (l:=x22) sl47 q)<|.g q (bt c14) (faP fa53_3 q)<|.g q (bt c14) (ldP q sz50 ag50 q)<|.g q (bt c14) (lnR (l:=x23) sl50 q)<|.g q (bt c14) (addI q q)<|.g q (bt c14) (faP fa53_4 q)<|.g q (bt c14) (ldP q sz51 ag51 q)<|.g q (bt c14) (lnR (l:=x24) sl51 q)<|.g q (bt c14) (addI q q)<|.g q (bt c14) (eqI q q)<|.o (pkTV q (bt c14) q)<|.a q<|.nilL _ ⟨cB q (mAndT (bt c13) (mAndT (bt c14) q)),trivial⟩)
    ·exact (.n q (bn c14)<|.n q (bn c14)<|.n q (bn c14)<|.n q (bn c14)<|.n q (bn c14)<|.n q (bn c14)<|.n q (bn c14)<|.n q (bn c14)<|.n q (bn c14)<|.n q (bn c14)<|.n q (bn c14)<|.n q (bn c14)<|.n q (bn c14)<|.o (pkFV q (bn c14) q)<|.a q<|.nilL _ ⟨cB q (mAndT (bt c13) (mAndF (bn c14))),trivial⟩)
   ·exact (.n q (bn c13)<|.n q (bn c13)<|.n q (bn c13)<|.n q (bn c13)<|.o (pkFV q (bn c13) q)<|.m q<|.n q q<|.n q q<|.n q q<|.n q q<|.n q q<|.n q q<|.n q q<|.n q q<|.n q q<|.n q q<|.n q q<|.n q q<|.n q q<|.o (pkFV q q q)<|.a q<|.nilL _ ⟨cB q (mAndF (bn c13)),trivial⟩)
  replace h:=h.symm
  subst h
  refine .kf [(4,bo ((x20 == 0) && ((x21 == 0) && ((IntKind.i64.wrap ((IntKind.i64.wrap ((x22.length:Int) + (x23.length:Int))) + (x24.length:Int))) == 0))))] q q ?_
  exact .ret q
 ·by_cases c15:a1=2
  ·rw [if_pos c15] at h
   refine .condT q (bt c15)<|.reg0 q (.o (faP fa53_1 q)<|.o (stB (cs0:=(TWeight.lit a0)) (cs:=[i6 0]) (cs1:=[bo a0.Zero,i6 0,u6 a0.Facts.Gen,.rows (a0.Facts.Rows.map (cInt .u64)),.rows (a0.Cells.map TCell.cells),.rows (a0.Parts.map TWeight.cells)]) q q sz3 q ⟨Nat.le_of_ble_eq_true q,q⟩ q)<|.nil0)<|.keepL [0] [(2,.ptr 0 1 6 0 0)] [⟨6,[[bo a0.Zero,i6 0,u6 a0.Facts.Gen,.rows (a0.Facts.Rows.map (cInt .u64)),.rows (a0.Cells.map TCell.cells),.rows (a0.Parts.map TWeight.cells)]],0,none⟩] (by decide) (by decide) ⟨.ptr q,trivial⟩ ⟨⟨_,q,bcBox (all2_free q)⟩,trivial⟩ ?_
   exact hJ1 _ h
  ·rw [if_neg c15] at h
   refine .condF q (bn c15)<|.seq<|.reg0 q (.o (eqI q q)<|.o (asV q)<|.nil0) ?_
   by_cases c16:a1=3
   ·rw [if_pos c16] at h
    refine .condT q (bt c16)<|.reg0 q (.o (bldS (cs:=[u6 0,nul]) ze49 pl49 q q)<|.o (faP fa53_2 q)<|.o (stB (cs0:=(TWeight.lit a0)) (cs:=[u6 0,nul]) (cs1:=[bo a0.Zero,i6 a0.Cost,u6 0,nul,.rows (a0.Cells.map TCell.cells),.rows (a0.Parts.map TWeight.cells)]) q q sz49 q ⟨Nat.le_of_ble_eq_true q,q⟩ q)<|.nil0)<|.keepL [0] [(2,.ptr 0 1 6 0 0)] [⟨6,[[bo a0.Zero,i6 a0.Cost,u6 0,.rows ([].map (cInt .u64)),.rows (a0.Cells.map TCell.cells),.rows (a0.Parts.map TWeight.cells)]],0,none⟩] (by decide) (by decide) ⟨.ptr q,trivial⟩ ⟨⟨_,q,bcBox (.cons (.free q q)<|.cons (.free q q)<|.cons (.free q q)<|.cons (.nil)<|.cons (.free q q)<|.cons (.free q q)<|.nil)⟩,trivial⟩ ?_
    exact hJ1 _ h
   ·rw [if_neg c16] at h
    refine .condF q (bn c16)<|.seq<|.reg0 q (.o (eqI q q)<|.o (asV q)<|.nil0) ?_
    by_cases c17:a1=4
    ·rw [if_pos c17] at h
     refine .condT q (bt c17)<|.reg0 q (.o (faP fa53_3 q)<|.o (stB (cs0:=(TWeight.lit a0)) (cs:=[nul]) (cs1:=[bo a0.Zero,i6 a0.Cost,u6 a0.Facts.Gen,.rows (a0.Facts.Rows.map (cInt .u64)),nul,.rows (a0.Parts.map TWeight.cells)]) q q sz50 q ⟨Nat.le_of_ble_eq_true q,q⟩ q)<|.nil0)<|.keepL [0] [(2,.ptr 0 1 6 0 0)] [⟨6,[[bo a0.Zero,i6 a0.Cost,u6 a0.Facts.Gen,.rows (a0.Facts.Rows.map (cInt .u64)),.rows ([].map TCell.cells),.rows (a0.Parts.map TWeight.cells)]],0,none⟩] (by decide) (by decide) ⟨.ptr q,trivial⟩ ⟨⟨_,q,bcBox (.cons (.free q q)<|.cons (.free q q)<|.cons (.free q q)<|.cons (.free q q)<|.cons (.nil)<|.cons (.free q q)<|.nil)⟩,trivial⟩ ?_
     exact hJ1 _ h
    ·rw [if_neg c17] at h
     refine .condF q (bn c17)<|.seq<|.reg0 q (.o (eqI q q)<|.o (asV q)<|.nil0) ?_
     by_cases c18:a1=5
     ·rw [if_pos c18] at h
      refine .condT q (bt c18)<|.reg0 q (.o (faP fa53_4 q)<|.o (stB (cs0:=(TWeight.lit a0)) (cs:=[nul]) (cs1:=[bo a0.Zero,i6 a0.Cost,u6 a0.Facts.Gen,.rows (a0.Facts.Rows.map (cInt .u64)),.rows (a0.Cells.map TCell.cells),nul]) q q sz51 q ⟨Nat.le_of_ble_eq_true q,q⟩ q)<|.nil0)<|.keepL [0] [(2,.ptr 0 1 6 0 0)] [⟨6,[[bo a0.Zero,i6 a0.Cost,u6 a0.Facts.Gen,.rows (a0.Facts.Rows.map (cInt .u64)),.rows (a0.Cells.map TCell.cells),.rows ([].map TWeight.cells)]],0,none⟩] (by decide) (by decide) ⟨.ptr q,trivial⟩ ⟨⟨_,q,bcBox (.cons (.free q q)<|.cons (.free q q)<|.cons (.free q q)<|.cons (.free q q)<|.cons (.free q q)<|.cons (.nil)<|.nil)⟩,trivial⟩ ?_
      exact hJ1 _ h
     ·rw [if_neg c18] at h
      refine .condF q (bn c18)<|.skip<|.keepL [0] [(2,.ptr 0 1 6 0 0)] [⟨6,[(TWeight.lit a0)],0,none⟩] (by decide) (by decide) ⟨.ptr q,trivial⟩ ⟨⟨_,q,bcBox (all2_free q)⟩,trivial⟩ ?_
      exact hJ1 _ h
def cost_checks.b1 (a0:Int) (a1:List Int):Int→Rnd Int Unit Int→Prop:=fun x1 z1=>if x1 < (a1.length:Int) then (((InR x1 a1.length))∧if ((decide ((rdl a1 x1) < (-1))) || (decide ((rdl a1 x1) > a0)))=true then (z1=.ret 21) else (z1=.next (IntKind.i64.wrap (x1 + 1)))) else (z1=.exit ())
def cost_checks.f (a0:Int) (a1:List Int) (r:Int):Prop :=
 if ((decide (a0 < 0)) || (decide (a0 > 1048576)))=true then (r=20) else (∃ o1:Fin Unit Int,Loop (cost_checks.b1 a0 a1) 0 o1∧o1.on (fun _=>r=0) (fun r_=>r=r_))
theorem cost_checks.D {a0 a1 r} (h:cost_checks.f a0 a1 r):D Tryz.prog X (.callH 152 [.val (.int .i64 a0),.rows (a1.map (cInt .i64))] [] (.val (.int .i64 r)) []):=by
 unfold cost_checks.f at h
 refine .enter 27 0 fn152 q q q<|.seq<|.reg0 q (.o (asV q)<|.nil0)<|.seq<|.seq ?_
 refine .reg0 (e1:=listEnv [(0,i6 a0),(1,.rows (a1.map (cInt .i64))),(12,bo ((decide (a0 < 0)) || (decide (a0 > 1048576))))]) (H1:=[]) q ?_ ?_
 ·refine .m q<|.o (ltI q q)<|.m q<|?_
  by_cases c1:a0 < 0
  ·exact (.n q (dt c1)<|.n q (dt c1)<|.o (pkTV q (dt c1) q)<|.nilL _ ⟨.free q q,.free q q,cB q (mOrT (dt c1)),trivial⟩)
  ·exact (.g q (df c1) (mvV q)<|.g q (df c1) (gtI q q)<|.o (pkFV q (df c1) q)<|.nilL _ ⟨.free q q,.free q q,cB q (mOrF (df c1) q),trivial⟩)
 by_cases c2:((decide (a0 < 0)) || (decide (a0 > 1048576)))=true
 ·rw [if_pos c2] at h
  refine .condT q c2<|.seq<|.reg0 q (.o (asV q)<|.nil0) ?_
  replace h:=h.symm
  subst h
  refine .kf [(4,i6 20)] q q ?_
  exact .ret q
 ·rw [if_neg c2] at h
  refine .condF q (nb c2)<|.skip<|.seq<|.seq<|.reg0 q (.o (mvR q)<|.o (lnR (l:=a1) sl29 q)<|.o (mvV q)<|.nil0)<|.block<|.keepL [] [(0,i6 a0),(13,.rows (a1.map (cInt .i64))),(14,i6 (a1.length:Int)),(15,i6 0)] [] (by decide) (by decide) ⟨.free q q,.free q q,.free q q,.free q q,trivial⟩ trivial ?_
  obtain ⟨o1,hL1,h⟩:=h
  refine .loopB (cost_checks.b1 a0 a1) (fun x1=>listEnv [(0,i6 a0),(13,.rows (a1.map (cInt .i64))),(14,i6 (a1.length:Int)),(15,i6 x1)]) (fun x1=>[]) (fun _=>listEnv []) (fun _=>[]) hL1 (fun r_=>r=r_) ?_ ?_ ?_
  ·rintro ⟨⟩ rfl
   try dsimp only [Fin.on] at h
   refine .seq<|.reg0 q (.o (asV q)<|.nil0) ?_
   replace h:=h.symm
   subst h
   refine .kf [(4,i6 0)] q q ?_
   exact .ret q
  ·rintro r_ rfl
   exact h
  ·rintro x1 z1 h hn1 hx1 hr1
   dsimp only [cost_checks.b1] at h
   refine .seq<|.reg0 q (.o (ltI q q)<|.nil0)<|.seq ?_
   by_cases c9:x1 < (a1.length:Int)
   ·rw [if_pos c9] at h
    refine .condT q (dt c9)<|.skip<|.seq<|.block<|.seq ?_
    obtain ⟨g16_0,h⟩:=h
    refine .reg0 q (.o (ixR (l:=a1) (lit:=(cInt .i64)) sl29 q q (fun _=>q) g16_0.1 g16_0.2)<|.o (ldC q sz3 ag3 q)<|.a q<|.nil0)<|.seq ?_
    refine .reg0 (e1:=listEnv [(0,i6 a0),(13,.rows (a1.map (cInt .i64))),(14,i6 (a1.length:Int)),(15,i6 x1),(25,bo ((decide ((rdl a1 x1) < (-1))) || (decide ((rdl a1 x1) > a0))))]) (H1:=[]) q ?_ ?_
    ·refine .m q<|.o (ltI q q)<|.m q<|?_
     by_cases c10:(rdl a1 x1) < (-1)
     ·exact (.n q (dt c10)<|.n q (dt c10)<|.n q (dt c10)<|.o (pkTV q (dt c10) q)<|.nilL _ ⟨.free q q,.free q q,.free q q,.free q q,cB q (mOrT (dt c10)),trivial⟩)
     ·exact (.g q (df c10) (mvV q)<|.g q (df c10) (mvV q)<|.g q (df c10) (gtI q q)<|.o (pkFV q (df c10) q)<|.nilL _ ⟨.free q q,.free q q,.free q q,.free q q,cB q (mOrF (df c10) q),trivial⟩)
    by_cases c11:((decide ((rdl a1 x1) < (-1))) || (decide ((rdl a1 x1) > a0)))=true
    ·rw [if_pos c11] at h
     refine .condT q c11<|.seq<|.reg0 q (.o (asV q)<|.nil0) ?_
     have q3:=hr1 _ h
     replace q3:=q3.symm
     subst q3
     refine .kf [(4,i6 21)] q q ?_
     exact .ret q
    ·rw [if_neg c11] at h
     refine .condF q (nb c11)<|.skip<|.inBlock<|.reg0 q (.o (addI q q)<|.o (mvV q)<|.nil0)<|.kf [(0,i6 a0),(13,.rows (a1.map (cInt .i64))),(14,i6 (a1.length:Int)),(15,i6 (IntKind.i64.wrap (x1 + 1)))] q q ?_
     exact hn1 _ h
   ·rw [if_neg c9] at h
    refine .condF q (df c9)<|.exit q<|.keepL [] [] [] (by decide) (by decide) trivial trivial ?_
    exact hx1 _ h
def cost_Check.f (a0:Int) (a1:Int) (r:Int):Prop :=
 ∃ t2_3:Int,(cost_checks.f a0 [a1] t2_3)∧r=t2_3
theorem cost_Check.D {a0 a1 r} (h:cost_Check.f a0 a1 r):D Tryz.prog X (.callH 149 [.val (.int .i64 a0),.val (.int .i64 a1)] [] (.val (.int .i64 r)) []):=by
 unfold cost_Check.f at h
 refine .enter 9 0 fn149 q q q<|.seq<|.reg0 q (.o (asV q)<|.nil0)<|.seq ?_
 obtain ⟨t2_3,g2_3,h⟩:=h
 refine .room 0<|.reg0 q (.o (mvV q)<|.o (mvV q)<|.o (bldL (s:=1) (cs:=[i6 a1]) un29 sz3 ze3 ⟨by decide,q,by decide⟩ q q q q)<|.callI q (callee_of q go152 q) (.lendC (args':=[i6 a0,.rows ([a1].map (cInt .i64))])  [0] false (.cons (.free q q)<|.cons (cFixO (l:=[a1]) sl29 q q q q)<|.nil) (by decide) q q q q (cost_checks.D g2_3))<|.o (asV q)<|.nil0) ?_
 replace h:=h.symm
 subst h
 refine .kf [(4,i6 t2_3)] q q ?_
 exact .ret q
def bits_Full.f (a0:Int) (r:Int × Int):Prop :=
 if ((decide (a0 < 0)) || (decide (a0 > 64)))=true then (r=(0,10)) else ((((0:Int)≤(IntKind.u64.wrap (IntKind.i64.wrap (64 - a0)))))∧r=((shrI .u64 18446744073709551615 (IntKind.u64.wrap (IntKind.i64.wrap (64 - a0)))),0))
theorem bits_Full.D {a0 r} (h:bits_Full.f a0 r):D Tryz.prog X (.callH 168 [.val (.int .i64 a0)] [] (.tuple [.val (.int .u64 r.1),.val (.int .i64 r.2)]) []):=by
 unfold bits_Full.f at h
 refine .enter 14 0 fn168 q q q<|.seq<|.reg0 q (.o (asV q)<|.o (asV q)<|.nil0)<|.seq<|.seq ?_
 refine .reg0 (e1:=listEnv [(0,i6 a0),(9,bo ((decide (a0 < 0)) || (decide (a0 > 64))))]) (H1:=[]) q ?_ ?_
 ·refine .m q<|.o (ltI q q)<|.m q<|?_
  by_cases c1:a0 < 0
  ·exact (.n q (dt c1)<|.n q (dt c1)<|.o (pkTV q (dt c1) q)<|.nilL _ ⟨.free q q,cB q (mOrT (dt c1)),trivial⟩)
  ·exact (.g q (df c1) (mvV q)<|.g q (df c1) (gtI q q)<|.o (pkFV q (df c1) q)<|.nilL _ ⟨.free q q,cB q (mOrF (df c1) q),trivial⟩)
 by_cases c2:((decide (a0 < 0)) || (decide (a0 > 64)))=true
 ·rw [if_pos c2] at h
  refine .condT q c2<|.seq<|.reg0 q (.o (asV q)<|.o (asV q)<|.nil0) ?_
  replace h:=h.symm
  subst h
  refine .kf [(2,u6 0),(3,i6 10)] q q ?_
  exact .ret q
 ·rw [if_neg c2] at h
  refine .condF q (nb c2)<|.skip<|.seq ?_
  obtain ⟨g4_3,h⟩:=h
  refine .reg0 q (.m q<|.o (subI q q)<|.o (convI un3 un220 q)<|.o (shr_ q q g4_3)<|.a q<|.a q<|.nil0) ?_
  replace h:=h.symm
  subst h
  refine .kf [(2,u6 (shrI .u64 18446744073709551615 (IntKind.u64.wrap (IntKind.i64.wrap (64 - a0))))),(3,i6 0)] q q ?_
  exact .ret q
end Go.RM.Tryz
