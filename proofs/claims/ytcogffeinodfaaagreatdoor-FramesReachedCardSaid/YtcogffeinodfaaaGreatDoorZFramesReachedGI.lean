/- GI, for the statement FramesReached: what it needs, no more. -/
import Derived.Test.YtcogffeinodfaaaGreatDoorZFramesReachedGE
set_option linter.unusedVariables false
set_option maxRecDepth 8000
set_option maxHeartbeats 4000000
namespace Go.RM.Tryz
open Go.RM Go.Proofs
def r22_Same.b1 (a0 : TState) (a1 : TState) : Int → Rnd Int Unit Bool → Prop := fun x1 z1 => if x1 < (a0.Env.length : Int) then (((InR x1 a0.Env.length)) ∧ ((InR x1 a1.Env.length)) ∧ if (rdl a0.Env x1) = (rdl a1.Env x1) then (z1 = .next (IntKind.i64.wrap (x1 + 1))) else (z1 = .ret false)) else (z1 = .exit ())
def r22_Same.b2 (a0 : TState) (a1 : TState) : Int → Rnd Int Unit Bool → Prop := fun x2 z2 => if x2 < (a0.Stack.length : Int) then (((InR x2 a0.Stack.length)) ∧ ((InR x2 a1.Stack.length)) ∧ if (rdl a0.Stack x2) = (rdl a1.Stack x2) then (z2 = .next (IntKind.i64.wrap (x2 + 1))) else (z2 = .ret false)) else (z2 = .exit ())
def r22_Same.f (a0 : TState) (a1 : TState) (r : Bool) : Prop :=
  if ((!(a0.Node == a1.Node)) || ((!(a0.Marks == a1.Marks)) || ((!((a0.Env.length : Int) == (a1.Env.length : Int))) || ((a0.Stack.length : Int) != (a1.Stack.length : Int))))) = true then (r = false) else (∃ o1 : Fin Unit Bool, Loop (r22_Same.b1 a0 a1) 0 o1 ∧ o1.on (fun _ => ∃ o2 : Fin Unit Bool, Loop (r22_Same.b2 a0 a1) 0 o2 ∧ o2.on (fun _ => r = true) (fun r_ => r = r_)) (fun r_ => r = r_))
theorem r22_Same.D {a0 a1 r} (h : r22_Same.f a0 a1 r) : D Tryz.prog X (.callH 14 [.agg (TState.lit a0), .agg (TState.lit a1)] [] (.val (.bool r)) []) := by
  unfold r22_Same.f at h
  refine .enter 73 0 fn14 q q q<|.seq<|.room 0<|.room 0<|.reg0 q (.o (bxP (s := 4) (cs := (TState.lit a0)) q ⟨q, by decide, q⟩ q)<|.op 1 q (bxP (s := 4) (cs := (TState.lit a1)) q ⟨q, by decide, q⟩ q)<|.o (asV q)<|.nil0)<|.seq<|.seq ?_
  refine .reg0 (e1 := listEnv [(2, .ptr 0 1 4 0 0), (3, .ptr 1 1 4 0 0), (36, bo ((!(a0.Node == a1.Node)) || ((!(a0.Marks == a1.Marks)) || ((!((a0.Env.length : Int) == (a1.Env.length : Int))) || ((a0.Stack.length : Int) != (a1.Stack.length : Int))))))]) (H1 := [⟨4, [(TState.lit a0)], 0, none⟩, ⟨4, [(TState.lit a1)], 0, none⟩]) q ?_ ?_
  · refine .o (faP fa33_0 q)<|.o (ldP q sz3 ag3 q)<|.o (faP fa33_0 q)<|.o (ldP q sz3 ag3 q)<|.o (neI q q)<|.m q<|?_
    by_cases c1 : a0.Node = a1.Node
    · refine .g q (nf c1) (faP fa33_2 q)<|.g q (nf c1) (ldP q sz31 ag31 q)<|.g q (nf c1) (faP fa33_2 q)<|.g q (nf c1) (ldP q sz31 ag31 q)<|.g q (nf c1) (neI q q)<|.o (pkFV q (nf c1) q)<|.m q<|?_
      by_cases c2 : a0.Marks = a1.Marks
      · refine .g q (nf c2) (faP fa33_1 q)<|.g q (nf c2) (ldP q sz30 ag30 q)<|.g q (nf c2) (lnR (l := a0.Env) sl30 q)<|.g q (nf c2) (faP fa33_1 q)<|.g q (nf c2) (ldP q sz30 ag30 q)<|.g q (nf c2) (lnR (l := a1.Env) sl30 q)<|.g q (nf c2) (neI q q)<|.o (pkFV q (nf c2) q)<|.m q<|?_
        by_cases c3 : (a0.Env.length : Int) = (a1.Env.length : Int)
        · exact (.g q (nf c3) (faP fa33_3 q)<|.g q (nf c3) (ldP q sz23 ag23 q)<|.g q (nf c3) (lnR (l := a0.Stack) sl23 q)<|.g q (nf c3) (faP fa33_3 q)<|.g q (nf c3) (ldP q sz23 ag23 q)<|.g q (nf c3) (lnR (l := a1.Stack) sl23 q)<|.g q (nf c3) (neI q q)<|.o (pkFV q (nf c3) q)<|.nilL _ ⟨.ptr q, .ptr q, cB q (mOrF (bnotF (bt c1)) (mOrF (bnotF (bt c2)) (mOrF (bnotF (bt c3)) q))), trivial⟩)
        · exact (.n q (nt c3)<|.n q (nt c3)<|.n q (nt c3)<|.n q (nt c3)<|.n q (nt c3)<|.n q (nt c3)<|.n q (nt c3)<|.o (pkTV q (nt c3) q)<|.nilL _ ⟨.ptr q, .ptr q, cB q (mOrF (bnotF (bt c1)) (mOrF (bnotF (bt c2)) (mOrT (bnotT (bn c3))))), trivial⟩)
      · exact (.n q (nt c2)<|.n q (nt c2)<|.n q (nt c2)<|.n q (nt c2)<|.n q (nt c2)<|.n q (nt c2)<|.n q (nt c2)<|.o (pkTV q (nt c2) q)<|.m q<|.n q q<|.n q q<|.n q q<|.n q q<|.n q q<|.n q q<|.n q q<|.o (pkTV q q q)<|.nilL _ ⟨.ptr q, .ptr q, cB q (mOrF (bnotF (bt c1)) (mOrT (bnotT (bn c2)))), trivial⟩)
    · exact (.n q (nt c1)<|.n q (nt c1)<|.n q (nt c1)<|.n q (nt c1)<|.n q (nt c1)<|.o (pkTV q (nt c1) q)<|.m q<|.n q q<|.n q q<|.n q q<|.n q q<|.n q q<|.n q q<|.n q q<|.o (pkTV q q q)<|.m q<|.n q q<|.n q q<|.n q q<|.n q q<|.n q q<|.n q q<|.n q q<|.o (pkTV q q q)<|.nilL _ ⟨.ptr q, .ptr q, cB q (mOrT (bnotT (bn c1))), trivial⟩)
  by_cases c4 : ((!(a0.Node == a1.Node)) || ((!(a0.Marks == a1.Marks)) || ((!((a0.Env.length : Int) == (a1.Env.length : Int))) || ((a0.Stack.length : Int) != (a1.Stack.length : Int))))) = true
  · rw [if_pos c4] at h
    refine .condT q c4<|.seq<|.reg0 q (.o (asV q)<|.nil0) ?_
    replace h := h.symm
    subst h
    refine .kf [(4, bo false)] q q ?_
    exact .ret q
  · rw [if_neg c4] at h
    refine .condF q (nb c4)<|.skip<|.seq<|.seq<|.reg0 q (.o (asV q)<|.nil0)<|.block<|.keepL [0, 1] [(2, .ptr 0 1 4 0 0), (3, .ptr 1 1 4 0 0), (5, i6 0)] [⟨4, [(TState.lit a0)], 0, none⟩, ⟨4, [(TState.lit a1)], 0, none⟩] (by decide) (by decide) ⟨.ptr q, .ptr q, .free q q, trivial⟩ ⟨⟨_, q, bcBox (all2_free q)⟩, ⟨_, q, bcBox (all2_free q)⟩, trivial⟩ ?_
    obtain ⟨o1, hL1, h⟩ := h
    refine .loopB (r22_Same.b1 a0 a1) (fun x1 => listEnv [(2, .ptr 0 1 4 0 0), (3, .ptr 1 1 4 0 0), (5, i6 x1)]) (fun x1 => [⟨4, [(TState.lit a0)], 0, none⟩, ⟨4, [(TState.lit a1)], 0, none⟩]) (fun _ => listEnv [(2, .ptr 0 1 4 0 0), (3, .ptr 1 1 4 0 0)]) (fun _ => [⟨4, [(TState.lit a0)], 0, none⟩, ⟨4, [(TState.lit a1)], 0, none⟩]) hL1 (fun r_ => r = r_) ?_ ?_ ?_
    · rintro ⟨⟩ rfl
      try dsimp only [Fin.on] at h
      refine .seq<|.seq<|.reg0 q (.o (asV q)<|.nil0)<|.block<|.keepL [0, 1] [(2, .ptr 0 1 4 0 0), (3, .ptr 1 1 4 0 0), (6, i6 0)] [⟨4, [(TState.lit a0)], 0, none⟩, ⟨4, [(TState.lit a1)], 0, none⟩] (by decide) (by decide) ⟨.ptr q, .ptr q, .free q q, trivial⟩ ⟨⟨_, q, bcBox (all2_free q)⟩, ⟨_, q, bcBox (all2_free q)⟩, trivial⟩ ?_
      obtain ⟨o2, hL2, h⟩ := h
      refine .loopB (r22_Same.b2 a0 a1) (fun x2 => listEnv [(2, .ptr 0 1 4 0 0), (3, .ptr 1 1 4 0 0), (6, i6 x2)]) (fun x2 => [⟨4, [(TState.lit a0)], 0, none⟩, ⟨4, [(TState.lit a1)], 0, none⟩]) (fun _ => listEnv []) (fun _ => []) hL2 (fun r_ => r = r_) ?_ ?_ ?_
      · rintro ⟨⟩ rfl
        try dsimp only [Fin.on] at h
        refine .seq<|.reg0 q (.o (asV q)<|.nil0) ?_
        replace h := h.symm
        subst h
        refine .kf [(4, bo true)] q q ?_
        exact .ret q
      · rintro r_ rfl
        exact h
      · rintro x2 z2 h hn2 hx2 hr2
        dsimp only [r22_Same.b2] at h
        refine .seq<|.seq<|.reg0 q (.o (mvV q)<|.o (faP fa33_3 q)<|.o (ldP q sz23 ag23 q)<|.o (lnR (l := a0.Stack) sl23 q)<|.o (ltI q q)<|.nil0) ?_
        by_cases c15 : x2 < (a0.Stack.length : Int)
        · rw [if_pos c15] at h
          refine .condT q (dt c15)<|.skip<|.seq<|.block<|.seq ?_
          obtain ⟨g27_3, h⟩ := h
          obtain ⟨g27_8, h⟩ := h
          refine .reg1 (e1 := listEnv [(2, .ptr 0 1 4 0 0), (3, .ptr 1 1 4 0 0), (6, i6 x2), (72, bo ((rdl a0.Stack x2) != (rdl a1.Stack x2)))]) (H1 := [⟨4, [(TState.lit a0)], 0, none⟩, ⟨4, [(TState.lit a1)], 0, none⟩]) q ?_ ?_
          · exact .drawM [(10, 72, bo ((rdl a0.Stack x2) != (rdl a1.Stack x2))), (9, 71, i6 (rdl a1.Stack x2)), (8, 70, .cptr ((cInt .i64) (rdl a1.Stack x2)) 0), (7, 69, i6 x2), (6, 68, .rows (a1.Stack.map (cInt .i64))), (5, 67, .ptr 1 1 4 0 3), (4, 66, i6 (rdl a0.Stack x2)), (3, 65, .cptr ((cInt .i64) (rdl a0.Stack x2)) 0), (2, 64, i6 x2), (1, 63, .rows (a0.Stack.map (cInt .i64))), (0, 62, .ptr 0 1 4 0 3)] [] [[], [0], [], [1, 0, 2], [3, 1, 0, 2], [], [5], [], [6, 5, 7], [8, 6, 5, 7], [4, 3, 1, 0, 2, 9, 8, 6, 5, 7]] (by rfl) (by rfl) (by rfl) (by exact ⟨oP (fun _ => faP fa33_3 q) q, oP (fun _ => ldP q sz23 ag23 q) q, oP (fun _ => mvV q) q, oP (fun _ => ixR (l := a0.Stack) (lit := (cInt .i64)) sl23 q q (fun _ => q) g27_3.1 g27_3.2) q, oP (fun _ => ldC q sz3 ag3 q) q, oP (fun _ => faP fa33_3 q) q, oP (fun _ => ldP q sz23 ag23 q) q, oP (fun _ => mvV q) q, oP (fun _ => ixR (l := a1.Stack) (lit := (cInt .i64)) sl23 q q (fun _ => q) g27_8.1 g27_8.2) q, oP (fun _ => ldC q sz3 ag3 q) q, oP (fun _ => neI q q) q, trivial⟩) _ (by exact ⟨.ptr q, .ptr q, .free q q, .free q q, trivial⟩) (by rfl)
          by_cases c16 : (rdl a0.Stack x2) = (rdl a1.Stack x2)
          · rw [if_pos c16] at h
            refine .condF q (nf c16)<|.skip<|.inBlock<|.reg0 q (.o (mvV q)<|.o (addI q q)<|.o (asV q)<|.nil0)<|.keepL [0, 1] [(2, .ptr 0 1 4 0 0), (3, .ptr 1 1 4 0 0), (6, i6 (IntKind.i64.wrap (x2 + 1)))] [⟨4, [(TState.lit a0)], 0, none⟩, ⟨4, [(TState.lit a1)], 0, none⟩] (by decide) (by decide) ⟨.ptr q, .ptr q, .free q q, trivial⟩ ⟨⟨_, q, bcBox (all2_free q)⟩, ⟨_, q, bcBox (all2_free q)⟩, trivial⟩ ?_
            exact hn2 _ h
          · rw [if_neg c16] at h
            refine .condT q (nt c16)<|.seq<|.reg0 q (.o (asV q)<|.nil0) ?_
            have q6 := hr2 _ h
            replace q6 := q6.symm
            subst q6
            refine .kf [(4, bo false)] q q ?_
            exact .ret q
        · rw [if_neg c15] at h
          refine .condF q (df c15)<|.exit q<|.keepL [] [] [] (by decide) (by decide) trivial trivial ?_
          exact hx2 _ h
    · rintro r_ rfl
      exact h
    · rintro x1 z1 h hn1 hx1 hr1
      dsimp only [r22_Same.b1] at h
      refine .seq<|.seq<|.reg0 q (.o (mvV q)<|.o (faP fa33_1 q)<|.o (ldP q sz30 ag30 q)<|.o (lnR (l := a0.Env) sl30 q)<|.o (ltI q q)<|.nil0) ?_
      by_cases c9 : x1 < (a0.Env.length : Int)
      · rw [if_pos c9] at h
        refine .condT q (dt c9)<|.skip<|.seq<|.block<|.seq ?_
        obtain ⟨g14_3, h⟩ := h
        obtain ⟨g14_8, h⟩ := h
        refine .reg1 (e1 := listEnv [(2, .ptr 0 1 4 0 0), (3, .ptr 1 1 4 0 0), (5, i6 x1), (54, bo ((rdl a0.Env x1) != (rdl a1.Env x1)))]) (H1 := [⟨4, [(TState.lit a0)], 0, none⟩, ⟨4, [(TState.lit a1)], 0, none⟩]) q ?_ ?_
        · exact .drawM [(10, 54, bo ((rdl a0.Env x1) != (rdl a1.Env x1))), (9, 53, i6 (rdl a1.Env x1)), (8, 52, .cptr ((cInt .i64) (rdl a1.Env x1)) 0), (7, 51, i6 x1), (6, 50, .rows (a1.Env.map (cInt .i64))), (5, 49, .ptr 1 1 4 0 1), (4, 48, i6 (rdl a0.Env x1)), (3, 47, .cptr ((cInt .i64) (rdl a0.Env x1)) 0), (2, 46, i6 x1), (1, 45, .rows (a0.Env.map (cInt .i64))), (0, 44, .ptr 0 1 4 0 1)] [] [[], [0], [], [1, 0, 2], [3, 1, 0, 2], [], [5], [], [6, 5, 7], [8, 6, 5, 7], [4, 3, 1, 0, 2, 9, 8, 6, 5, 7]] (by rfl) (by rfl) (by rfl) (by exact ⟨oP (fun _ => faP fa33_1 q) q, oP (fun _ => ldP q sz30 ag30 q) q, oP (fun _ => mvV q) q, oP (fun _ => ixR (l := a0.Env) (lit := (cInt .i64)) sl30 q q (fun _ => q) g14_3.1 g14_3.2) q, oP (fun _ => ldC q sz2 ag2 q) q, oP (fun _ => faP fa33_1 q) q, oP (fun _ => ldP q sz30 ag30 q) q, oP (fun _ => mvV q) q, oP (fun _ => ixR (l := a1.Env) (lit := (cInt .i64)) sl30 q q (fun _ => q) g14_8.1 g14_8.2) q, oP (fun _ => ldC q sz2 ag2 q) q, oP (fun _ => neI q q) q, trivial⟩) _ (by exact ⟨.ptr q, .ptr q, .free q q, .free q q, trivial⟩) (by rfl)
        by_cases c10 : (rdl a0.Env x1) = (rdl a1.Env x1)
        · rw [if_pos c10] at h
          refine .condF q (nf c10)<|.skip<|.inBlock<|.reg0 q (.o (mvV q)<|.o (addI q q)<|.o (asV q)<|.nil0)<|.keepL [0, 1] [(2, .ptr 0 1 4 0 0), (3, .ptr 1 1 4 0 0), (5, i6 (IntKind.i64.wrap (x1 + 1)))] [⟨4, [(TState.lit a0)], 0, none⟩, ⟨4, [(TState.lit a1)], 0, none⟩] (by decide) (by decide) ⟨.ptr q, .ptr q, .free q q, trivial⟩ ⟨⟨_, q, bcBox (all2_free q)⟩, ⟨_, q, bcBox (all2_free q)⟩, trivial⟩ ?_
          exact hn1 _ h
        · rw [if_neg c10] at h
          refine .condT q (nt c10)<|.seq<|.reg0 q (.o (asV q)<|.nil0) ?_
          have q3 := hr1 _ h
          replace q3 := q3.symm
          subst q3
          refine .kf [(4, bo false)] q q ?_
          exact .ret q
      · rw [if_neg c9] at h
        refine .condF q (df c9)<|.exit q<|.keepL [0, 1] [(2, .ptr 0 1 4 0 0), (3, .ptr 1 1 4 0 0)] [⟨4, [(TState.lit a0)], 0, none⟩, ⟨4, [(TState.lit a1)], 0, none⟩] (by decide) (by decide) ⟨.ptr q, .ptr q, trivial⟩ ⟨⟨_, q, bcBox (all2_free q)⟩, ⟨_, q, bcBox (all2_free q)⟩, trivial⟩ ?_
        exact hx1 _ h
def r22_In.b1 (a0 : List TState) (a1 : TState) : Int → Rnd Int Unit Bool → Prop := fun x1 z1 => if x1 < (a0.length : Int) then (((InR x1 a0.length)) ∧ ∃ t12_5 : Bool, (r22_Same.f (rdl a0 x1) a1 t12_5) ∧ if t12_5 = true then (z1 = .ret true) else (z1 = .next (IntKind.i64.wrap (x1 + 1)))) else (z1 = .exit ())
def r22_In.f (a0 : List TState) (a1 : TState) (r : Bool) : Prop :=
  ∃ o1 : Fin Unit Bool, Loop (r22_In.b1 a0 a1) 0 o1 ∧ o1.on (fun _ => r = false) (fun r_ => r = r_)
theorem r22_In.D {a0 a1 r} (h : r22_In.f a0 a1 r) : D Tryz.prog X (.callH 23 [.rows (a0.map TState.cells), .agg (TState.lit a1)] [] (.val (.bool r)) []) := by
  unfold r22_In.f at h
  refine .enter 18 0 fn23 q q q<|.seq<|.room 0<|.reg0 q (.o (bxP (s := 4) (cs := (TState.lit a1)) q ⟨q, by decide, q⟩ q)<|.o (asV q)<|.nil0)<|.seq<|.seq<|.reg0 q (.o (asV q)<|.nil0)<|.block<|.keepL [0] [(0, .rows (a0.map TState.cells)), (3, .ptr 0 1 4 0 0), (5, i6 0)] [⟨4, [(TState.lit a1)], 0, none⟩] (by decide) (by decide) ⟨.free q q, .ptr q, .free q q, trivial⟩ ⟨⟨_, q, bcBox (all2_free q)⟩, trivial⟩ ?_
  obtain ⟨o1, hL1, h⟩ := h
  refine .loopB (r22_In.b1 a0 a1) (fun x1 => listEnv [(0, .rows (a0.map TState.cells)), (3, .ptr 0 1 4 0 0), (5, i6 x1)]) (fun x1 => [⟨4, [(TState.lit a1)], 0, none⟩]) (fun _ => listEnv []) (fun _ => []) hL1 (fun r_ => r = r_) ?_ ?_ ?_
  · rintro ⟨⟩ rfl
    try dsimp only [Fin.on] at h
    refine .seq<|.reg0 q (.o (asV q)<|.nil0) ?_
    replace h := h.symm
    subst h
    refine .kf [(4, bo false)] q q ?_
    exact .ret q
  · rintro r_ rfl
    exact h
  · rintro x1 z1 h hn1 hx1 hr1
    dsimp only [r22_In.b1] at h
    refine .seq<|.seq<|.reg0 q (.o (mvV q)<|.o (mvR q)<|.o (lnR (l := a0) sl47 q)<|.o (ltI q q)<|.nil0) ?_
    by_cases c5 : x1 < (a0.length : Int)
    · rw [if_pos c5] at h
      refine .condT q (dt c5)<|.skip<|.seq<|.block<|.seq ?_
      obtain ⟨g12_2, h⟩ := h
      obtain ⟨t12_5, g12_5, h⟩ := h
      refine .reg1 (e1 := listEnv [(0, .rows (a0.map TState.cells)), (3, .ptr 0 1 4 0 0), (5, i6 x1), (17, bo t12_5)]) (H1 := [⟨4, [(TState.lit a1)], 0, none⟩]) q ?_ ?_
      · exact .drawM [(5, 17, bo t12_5), (4, 16, .agg (TState.lit a1)), (3, 15, .agg (TState.lit (rdl a0 x1))), (2, 14, .cptr (TState.lit (rdl a0 x1)) 0), (1, 13, i6 x1), (0, 12, .rows (a0.map TState.cells))] [] [[], [], [0, 1], [2, 0, 1], [], [3, 2, 0, 1, 4]] (by rfl) (by rfl) (by rfl) (by exact ⟨oP (fun _ => mvR q) q, oP (fun _ => mvV q) q, oP (fun _ => ixR (l := a0) (lit := TState.lit) sl47 q q (fun _ => q) g12_2.1 g12_2.2) q, oP (fun _ => ldCG q sz33 ag33 q) q, oP (fun _ => ldG q sz33 ag33 q) q, fun S hS hD hn => .oneI hS hD hn q q (callee_of q go14 q) (.pure q q (r22_Same.D g12_5)) q q q, trivial⟩) _ (by exact ⟨.free q q, .ptr q, .free q q, .free q q, trivial⟩) (by rfl)
      by_cases c6 : t12_5 = true
      · rw [if_pos c6] at h
        refine .condT q c6<|.seq<|.reg0 q (.o (asV q)<|.nil0) ?_
        have q3 := hr1 _ h
        replace q3 := q3.symm
        subst q3
        refine .kf [(4, bo true)] q q ?_
        exact .ret q
      · rw [if_neg c6] at h
        refine .condF q (nb c6)<|.skip<|.inBlock<|.reg0 q (.o (mvV q)<|.o (addI q q)<|.o (asV q)<|.nil0)<|.keepL [0] [(0, .rows (a0.map TState.cells)), (3, .ptr 0 1 4 0 0), (5, i6 (IntKind.i64.wrap (x1 + 1)))] [⟨4, [(TState.lit a1)], 0, none⟩] (by decide) (by decide) ⟨.free q q, .ptr q, .free q q, trivial⟩ ⟨⟨_, q, bcBox (all2_free q)⟩, trivial⟩ ?_
        exact hn1 _ h
    · rw [if_neg c5] at h
      refine .condF q (df c5)<|.exit q<|.keepL [] [] [] (by decide) (by decide) trivial trivial ?_
      exact hx1 _ h
end Go.RM.Tryz
