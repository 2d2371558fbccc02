/- GF, for the statement FramesValues: what it needs, no more. -/
import Derived.Test.YtcogffeinodfaaaDoorZFramesValuesGE
set_option linter.unusedVariables false
set_option maxRecDepth 8000
set_option maxHeartbeats 4000000
namespace Go.RM.Tryd
open Go.RM Go.Proofs
variable {X : FuncId → List PV → Heap → PV → Heap → Prop}
def l22_FramesValues.j1 (t5_1 : (List TMove)) (x4 : List TMove) (x5 : Int) : Int → (Rnd (((List TMove) × Int)) ((List TMove)) Bool) → Prop := fun x10 z1 => ((Fits (x4.length + 1) 16)) ∧ z1 = .next ((x4 ++ [(TMove.mk ((rdl t5_1 x5).Step) x10)]), (IntKind.i64.wrap (x5 + 1)))
def l22_FramesValues.b1 (a0 : TGraph) (a4 : Int) (t5_1 : (List TMove)) : ((List TMove) × Int) → Rnd (((List TMove) × Int)) ((List TMove)) Bool → Prop := fun (x4, x5) z1 => if x5 < (t5_1.length : Int) then (((InR x5 t5_1.length)) ∧ (((rdl t5_1 x5).Step ≥ 0) → ((rdl t5_1 x5).Step < (a0.Steps.length : Int)) → (InR ((rdl t5_1 x5).Step) a0.Steps.length)) ∧ if ((decide ((rdl t5_1 x5).Step ≥ 0)) && ((decide ((rdl t5_1 x5).Step < (a0.Steps.length : Int))) && ((rdl a0.Steps ((rdl t5_1 x5).Step)).Kind == 4))) = true then (l22_FramesValues.j1 t5_1 x4 x5 a4 z1) else (l22_FramesValues.j1 t5_1 x4 x5 ((rdl t5_1 x5).Draw) z1)) else (z1 = .exit x4)
def l22_FramesValues.f (a0 : TGraph) (a1 : TState) (a2 : List TMove) (a3 : List Int) (a4 : Int) (r : Bool) : Prop :=
  ∃ t2_0 : Bool, (l22_awake.f t2_0) ∧ if t2_0 = true then (∃ t3_2 : Bool, (l22_small.f a0 a1 t3_2) ∧ if ((!t3_2) || ((a3.length : Int) != (a1.Env.length : Int))) = true then (r = true) else (∃ t5_1 : (List TMove), (l22_few.f a2 t5_1) ∧ ∃ o1 : Fin ((List TMove)) Bool, Loop (l22_FramesValues.b1 a0 a4 t5_1) ([], 0) o1 ∧ o1.on (fun x8 => ∃ t46_3 : TState × Int × Int, (frames_Run.f a0 a1 t5_1 t46_3) ∧ ∃ t47_3 : TState × Int × Int, (frames_Run.f a0 (TState.mk a1.Node a3 a1.Marks a1.Stack) x8 t47_3) ∧ ∃ t48_27 : Bool, ((t46_3.2.2 = t47_3.2.2) → (t46_3.2.1 = t47_3.2.1) → (t46_3.1.Node = t47_3.1.Node) → (t46_3.1.Marks = t47_3.1.Marks) → l22_numbers.f t46_3.1.Stack t47_3.1.Stack t48_27) ∧ r = ((t46_3.2.2 == t47_3.2.2) && ((t46_3.2.1 == t47_3.2.1) && ((t46_3.1.Node == t47_3.1.Node) && ((t46_3.1.Marks == t47_3.1.Marks) && t48_27))))) (fun r_ => r = r_))) else (r = false)
theorem l22_FramesValues.D {a0 a1 a2 a3 a4 r} (h : l22_FramesValues.f a0 a1 a2 a3 a4 r) : D Tryd.prog X (.callH 4 [.agg (TGraph.lit a0), .agg (TState.lit a1), .rows (a2.map TMove.cells), .rows (a3.map (cInt .i64)), .val (.int .i64 a4)] [] (.val (.bool r)) []) := by
  unfold l22_FramesValues.f at h
  refine .enter 122 0 fn4 rfl rfl rfl <| .seq <| .room 0 <| .room 0 <| .reg0 rfl (.op 0 rfl (bxP (s := 10) (cs := (TGraph.lit a0)) rfl ⟨rfl, by decide, rfl⟩ rfl) <| .op 1 rfl (bxP (s := 4) (cs := (TState.lit a1)) rfl ⟨rfl, by decide, rfl⟩ rfl) <| .op 0 rfl (asV rfl) <| .nil0) <| .seq <| .seq ?_
  obtain ⟨t2_0, g2_0, h⟩ := h
  refine .reg0 rfl (.c rfl go7 rfl rfl rfl (l22_awake.D g2_0) <| .o (notB rfl) <| .nil0) ?_
  by_cases c1 : t2_0 = true
  · rw [if_pos c1] at h
    refine .condF rfl (bnotF c1) <| .skip <| .seq <| .seq ?_
    obtain ⟨t3_2, g3_2, h⟩ := h
    refine .reg0 (e1 := listEnv [(2, .rows (a2.map TMove.cells)), (3, .rows (a3.map (cInt .i64))), (4, i6 a4), (5, .ptr 0 1 10 0 0), (6, .ptr 1 1 4 0 0), (34, bo ((!t3_2) || ((a3.length : Int) != (a1.Env.length : Int))))]) (H1 := [⟨10, [(TGraph.lit a0)], 0, none⟩, ⟨4, [(TState.lit a1)], 0, none⟩]) rfl ?_ ?_
    · refine .o (ldG rfl sz29 ag29 rfl) <| .o (ldG rfl sz33 ag33 rfl) <| .c rfl go8 rfl rfl rfl (l22_small.D g3_2) <| .o (notB rfl) <| .m rfl <| ?_
      by_cases c2 : t3_2 = true
      · exact (.g rfl (bnotF c2) (mvR rfl) <| .g rfl (bnotF c2) (lnR (l := a3) sl30 rfl) <| .g rfl (bnotF c2) (faP fa33_1 rfl) <| .g rfl (bnotF c2) (ldP rfl sz30 ag30 rfl) <| .g rfl (bnotF c2) (lnR (l := a1.Env) sl30 rfl) <| .g rfl (bnotF c2) (neI rfl rfl) <| .o (pkFV rfl (bnotF c2) rfl) <| .nilL _ ⟨.free rfl rfl, .free rfl rfl, .free rfl rfl, .ptr rfl, .ptr rfl, cB rfl (mOrF (bnotF c2) rfl), trivial⟩)
      · exact (.n rfl (bnotT (nb c2)) <| .n rfl (bnotT (nb c2)) <| .n rfl (bnotT (nb c2)) <| .n rfl (bnotT (nb c2)) <| .n rfl (bnotT (nb c2)) <| .n rfl (bnotT (nb c2)) <| .o (pkTV rfl (bnotT (nb c2)) rfl) <| .nilL _ ⟨.free rfl rfl, .free rfl rfl, .free rfl rfl, .ptr rfl, .ptr rfl, cB rfl (mOrT (bnotT (nb c2))), trivial⟩)
    by_cases c3 : ((!t3_2) || ((a3.length : Int) != (a1.Env.length : Int))) = true
    · rw [if_pos c3] at h
      refine .condT rfl c3 <| .seq <| .reg0 rfl (.op 0 rfl (asV rfl) <| .nil0) ?_
      replace h := h.symm
      subst h
      refine .kf [(10, bo true)] rfl rfl ?_
      exact .ret rfl
    · rw [if_neg c3] at h
      refine .condF rfl (nb c3) <| .skip <| .seq ?_
      obtain ⟨t5_1, g5_1, h⟩ := h
      refine .reg0 rfl (.o (mvR rfl) <| .c rfl go9 rfl rfl rfl (l22_few.D g5_1) <| .o (asR rfl) <| .nil0) <| .seq <| .room 0 <| .reg0 rfl (.op 0 rfl (ldG rfl sz33 ag33 rfl) <| .op 2 rfl (alP (s := 4) ze33 ⟨rfl, by decide, rfl⟩ rfl) <| .op 0 rfl (stB (cs0 := [i6 0, nul, u6 0, nul]) (cs := (TState.lit a1)) (cs1 := (TState.lit a1)) rfl rfl sz33 rfl ⟨Nat.le_of_ble_eq_true rfl, rfl⟩ rfl) <| .nil0) <| .seq <| .reg0 rfl (.op 0 rfl (mvR rfl) <| .op 0 rfl (faP fa33_1 rfl) <| .op 0 rfl (stB (cs0 := (TState.lit a1)) (cs := [.rows (a3.map (cInt .i64))]) (cs1 := [i6 a1.Node, .rows (a3.map (cInt .i64)), u6 a1.Marks, .rows (a1.Stack.map (cInt .i64))]) rfl rfl sz30 rfl ⟨Nat.le_of_ble_eq_true rfl, rfl⟩ rfl) <| .nil0) ?_
      refine .seq <| .reg0 rfl (.op 0 rfl (asV rfl) <| .nil0) <| .seq <| .seq <| .reg0 rfl (.op 0 rfl (asV rfl) <| .nil0) <| .block <| .room 2 <| .keepL [0, 1, 2, 3] [(2, .rows (t5_1.map TMove.cells)), (4, i6 a4), (5, .ptr 0 1 10 0 0), (6, .ptr 1 1 4 0 0), (11, .ptr 2 1 4 0 0), (12, .own 3 0), (13, i6 0)] [⟨10, [(TGraph.lit a0)], 0, none⟩, ⟨4, [(TState.lit a1)], 0, none⟩, ⟨4, [[i6 a1.Node, .rows (a3.map (cInt .i64)), u6 a1.Marks, .rows (a1.Stack.map (cInt .i64))]], 0, none⟩, ⟨2, [].map TMove.cells, 0, none⟩] (by decide) (by decide) ⟨.free rfl rfl, .free rfl rfl, .ptr rfl, .ptr rfl, .ptr rfl, .nilOwn, .free rfl rfl, trivial⟩ ⟨⟨_, rfl, bcBox (all2_free rfl)⟩, ⟨_, rfl, bcBox (all2_free rfl)⟩, ⟨_, rfl, bcBox (all2_free rfl)⟩, ⟨_, rfl, (bcRow (l := []) sl34 (Nat.le_refl _) rfl)⟩, trivial⟩ ?_
      obtain ⟨o1, hL1, h⟩ := h
      refine .loopB (l22_FramesValues.b1 a0 a4 t5_1) (fun (x4, x5) => listEnv [(2, .rows (t5_1.map TMove.cells)), (4, i6 a4), (5, .ptr 0 1 10 0 0), (6, .ptr 1 1 4 0 0), (11, .ptr 2 1 4 0 0), (12, .own 3 x4.length), (13, i6 x5)]) (fun (x4, x5) => [⟨10, [(TGraph.lit a0)], 0, none⟩, ⟨4, [(TState.lit a1)], 0, none⟩, ⟨4, [[i6 a1.Node, .rows (a3.map (cInt .i64)), u6 a1.Marks, .rows (a1.Stack.map (cInt .i64))]], 0, none⟩, ⟨2, x4.map TMove.cells, 0, none⟩]) (fun x8 => listEnv [(2, .rows (t5_1.map TMove.cells)), (5, .ptr 0 1 10 0 0), (6, .ptr 1 1 4 0 0), (11, .ptr 2 1 4 0 0), (12, .own 3 x8.length)]) (fun x8 => [⟨10, [(TGraph.lit a0)], 0, none⟩, ⟨4, [(TState.lit a1)], 0, none⟩, ⟨4, [[i6 a1.Node, .rows (a3.map (cInt .i64)), u6 a1.Marks, .rows (a1.Stack.map (cInt .i64))]], 0, none⟩, ⟨2, x8.map TMove.cells, 0, none⟩]) hL1 (fun r_ => r = r_) ?_ ?_ ?_
      · rintro x8 rfl
        try dsimp only [Fin.on] at h
        refine .seq ?_
        obtain ⟨t46_3, g46_3, h⟩ := h
        refine .room 0 <| .reg0 rfl (.op 0 rfl (ldG rfl sz29 ag29 rfl) <| .op 0 rfl (ldG rfl sz33 ag33 rfl) <| .op 0 rfl (mvR rfl) <| .callI rfl (callee_of rfl go10 rfl) (.pure rfl rfl (frames_Run.D g46_3)) <| .op 0 rfl (mvT rfl) <| .op 0 rfl (exT rfl rfl) <| .op 0 rfl (exT rfl rfl) <| .op 0 rfl (exT rfl rfl) <| .op 4 rfl (alP (s := 4) ze33 ⟨rfl, by decide, rfl⟩ rfl) <| .op 0 rfl (stB (cs0 := [i6 0, nul, u6 0, nul]) (cs := (TState.lit t46_3.1)) (cs1 := (TState.lit t46_3.1)) rfl rfl sz33 rfl ⟨Nat.le_of_ble_eq_true rfl, rfl⟩ rfl) <| .op 0 rfl (asV rfl) <| .op 0 rfl (asV rfl) <| .nil0) ?_
        refine .seq ?_
        obtain ⟨t47_3, g47_3, h⟩ := h
        refine .room 0 <| .reg0 rfl (.op 0 rfl (ldG rfl sz29 ag29 rfl) <| .op 0 rfl (ldG rfl sz33 ag33 rfl) <| .op 0 rfl (mvO rfl) <| .callI rfl (callee_of rfl go10 rfl) (.lendC (args' := [.agg (TGraph.lit a0), .agg [i6 a1.Node, .rows (a3.map (cInt .i64)), u6 a1.Marks, .rows (a1.Stack.map (cInt .i64))], .rows (x8.map TMove.cells)])  [3] true (.cons (.free rfl rfl) <| .cons (.free rfl rfl) <| .cons (cFixO (l := x8) sl34 rfl rfl rfl rfl) <| .nil) (by decide) rfl rfl rfl rfl (frames_Run.D g47_3)) <| .op 0 rfl (mvT rfl) <| .op 0 rfl (exT rfl rfl) <| .op 0 rfl (exT rfl rfl) <| .op 0 rfl (exT rfl rfl) <| .op 5 rfl (alP (s := 4) ze33 ⟨rfl, by decide, rfl⟩ rfl) <| .op 0 rfl (stB (cs0 := [i6 0, nul, u6 0, nul]) (cs := (TState.lit t47_3.1)) (cs1 := (TState.lit t47_3.1)) rfl rfl sz33 rfl ⟨Nat.le_of_ble_eq_true rfl, rfl⟩ rfl) <| .op 0 rfl (asV rfl) <| .op 0 rfl (asV rfl) <| .nil0) ?_
        refine .seq ?_
        obtain ⟨t48_27, g48_27, h⟩ := h
        refine .reg0 (e1 := listEnv [(10, bo ((t46_3.2.2 == t47_3.2.2) && ((t46_3.2.1 == t47_3.2.1) && ((t46_3.1.Node == t47_3.1.Node) && ((t46_3.1.Marks == t47_3.1.Marks) && t48_27)))))]) (H1 := [⟨10, [(TGraph.lit a0)], 0, none⟩, ⟨4, [(TState.lit a1)], 0, none⟩, ⟨4, [[i6 a1.Node, .rows (a3.map (cInt .i64)), u6 a1.Marks, .rows (a1.Stack.map (cInt .i64))]], 0, none⟩, ⟨2, x8.map TMove.cells, (max 0 (x8.map TMove.cells : List (List PV)).length), none⟩, ⟨4, [(TState.lit t46_3.1)], 0, none⟩, ⟨4, [(TState.lit t47_3.1)], 0, none⟩]) rfl ?_ ?_
        · refine .m rfl <| .m rfl <| .o (eqI rfl rfl) <| .m rfl <| ?_
          by_cases c31 : t46_3.2.2 = t47_3.2.2
          · refine .g rfl (bt c31) (mvV rfl) <| .g rfl (bt c31) (mvV rfl) <| .g rfl (bt c31) (eqI rfl rfl) <| .o (pkTV rfl (bt c31) rfl) <| .m rfl <| ?_
            by_cases c32 : t46_3.2.1 = t47_3.2.1
            · refine .g rfl (bt c32) (faP fa33_0 rfl) <| .g rfl (bt c32) (ldP rfl sz3 ag3 rfl) <| .g rfl (bt c32) (faP fa33_0 rfl) <| .g rfl (bt c32) (ldP rfl sz3 ag3 rfl) <| .g rfl (bt c32) (eqI rfl rfl) <| .o (pkTV rfl (bt c32) rfl) <| .m rfl <| ?_
              by_cases c33 : t46_3.1.Node = t47_3.1.Node
              · refine .g rfl (bt c33) (faP fa33_2 rfl) <| .g rfl (bt c33) (ldP rfl sz31 ag31 rfl) <| .g rfl (bt c33) (faP fa33_2 rfl) <| .g rfl (bt c33) (ldP rfl sz31 ag31 rfl) <| .g rfl (bt c33) (eqI rfl rfl) <| .o (pkTV rfl (bt c33) rfl) <| .m rfl <| ?_
                by_cases c34 : t46_3.1.Marks = t47_3.1.Marks
                · exact (.g rfl (bt c34) (faP fa33_3 rfl) <| .g rfl (bt c34) (ldP rfl sz23 ag23 rfl) <| .g rfl (bt c34) (faP fa33_3 rfl) <| .g rfl (bt c34) (ldP rfl sz23 ag23 rfl) <| .callI (gT rfl rfl rfl (bt c34)) (callee_of rfl go12 rfl) (.pure rfl rfl (l22_numbers.D (g48_27 c31 c32 c33 c34))) <| .o (pkTV rfl (bt c34) rfl) <| .a rfl <| .nilL _ ⟨cB rfl (mAndT (bt c31) (mAndT (bt c32) (mAndT (bt c33) (mAndT (bt c34) rfl)))), trivial⟩)
                · exact (.n rfl (bn c34) <| .n rfl (bn c34) <| .n rfl (bn c34) <| .n rfl (bn c34) <| .n rfl (bn c34) <| .o (pkFV rfl (bn c34) rfl) <| .a rfl <| .nilL _ ⟨cB rfl (mAndT (bt c31) (mAndT (bt c32) (mAndT (bt c33) (mAndF (bn c34))))), trivial⟩)
              · exact (.n rfl (bn c33) <| .n rfl (bn c33) <| .n rfl (bn c33) <| .n rfl (bn c33) <| .n rfl (bn c33) <| .o (pkFV rfl (bn c33) rfl) <| .m rfl <| .n rfl rfl <| .n rfl rfl <| .n rfl rfl <| .n rfl rfl <| .n rfl rfl <| .o (pkFV rfl rfl rfl) <| .a rfl <| .nilL _ ⟨cB rfl (mAndT (bt c31) (mAndT (bt c32) (mAndF (bn c33)))), trivial⟩)
            · exact (.n rfl (bn c32) <| .n rfl (bn c32) <| .n rfl (bn c32) <| .n rfl (bn c32) <| .n rfl (bn c32) <| .o (pkFV rfl (bn c32) rfl) <| .m rfl <| .n rfl rfl <| .n rfl rfl <| .n rfl rfl <| .n rfl rfl <| .n rfl rfl <| .o (pkFV rfl rfl rfl) <| .m rfl <| .n rfl rfl <| .n rfl rfl <| .n rfl rfl <| .n rfl rfl <| .n rfl rfl <| .o (pkFV rfl rfl rfl) <| .a rfl <| .nilL _ ⟨cB rfl (mAndT (bt c31) (mAndF (bn c32))), trivial⟩)
          · exact (.n rfl (bn c31) <| .n rfl (bn c31) <| .n rfl (bn c31) <| .o (pkFV rfl (bn c31) rfl) <| .m rfl <| .n rfl rfl <| .n rfl rfl <| .n rfl rfl <| .n rfl rfl <| .n rfl rfl <| .o (pkFV rfl rfl rfl) <| .m rfl <| .n rfl rfl <| .n rfl rfl <| .n rfl rfl <| .n rfl rfl <| .n rfl rfl <| .o (pkFV rfl rfl rfl) <| .m rfl <| .n rfl rfl <| .n rfl rfl <| .n rfl rfl <| .n rfl rfl <| .n rfl rfl <| .o (pkFV rfl rfl rfl) <| .a rfl <| .nilL _ ⟨cB rfl (mAndF (bn c31)), trivial⟩)
        replace h := h.symm
        subst h
        refine .kf [(10, bo ((t46_3.2.2 == t47_3.2.2) && ((t46_3.2.1 == t47_3.2.1) && ((t46_3.1.Node == t47_3.1.Node) && ((t46_3.1.Marks == t47_3.1.Marks) && t48_27)))))] rfl rfl ?_
        exact .ret rfl
      · rintro r_ rfl
        exact h
      · rintro ⟨x4, x5⟩ z1 h hn1 hx1 hr1
        dsimp only [l22_FramesValues.b1] at h
        refine .seq <| .seq <| .reg0 rfl (.op 0 rfl (mvV rfl) <| .op 0 rfl (mvR rfl) <| .op 0 rfl (lnR (l := t5_1) sl34 rfl) <| .op 0 rfl (ltI rfl rfl) <| .nil0) ?_
        by_cases c22 : x5 < (t5_1.length : Int)
        · rw [if_pos c22] at h
          refine .condT rfl (dt c22) <| .skip <| .seq <| .block <| .seq ?_
          obtain ⟨g40_2, h⟩ := h
          refine .room 0 <| .reg0 rfl (.op 0 rfl (mvR rfl) <| .op 0 rfl (mvV rfl) <| .op 0 rfl (ixR (l := t5_1) (lit := TMove.lit) sl34 rfl rfl (fun _ => rfl) g40_2.1 g40_2.2) <| .op 0 rfl (ldCG rfl sz44 ag44 rfl) <| .op 4 rfl (alP (s := 2) ze44 ⟨rfl, by decide, rfl⟩ rfl) <| .op 0 rfl (stB (cs0 := [i6 0, i6 0]) (cs := (TMove.lit (rdl t5_1 x5))) (cs1 := (TMove.lit (rdl t5_1 x5))) rfl rfl sz44 rfl ⟨Nat.le_of_ble_eq_true rfl, rfl⟩ rfl) <| .nil0) ?_
          refine .seq <| .seq ?_
          obtain ⟨g41_16, h⟩ := h
          refine .reg0 (e1 := listEnv [(2, .rows (t5_1.map TMove.cells)), (4, i6 a4), (5, .ptr 0 1 10 0 0), (6, .ptr 1 1 4 0 0), (11, .ptr 2 1 4 0 0), (12, .own 3 x4.length), (13, i6 x5), (14, .ptr 4 1 2 0 0), (70, bo ((decide ((rdl t5_1 x5).Step ≥ 0)) && ((decide ((rdl t5_1 x5).Step < (a0.Steps.length : Int))) && ((rdl a0.Steps ((rdl t5_1 x5).Step)).Kind == 4))))]) (H1 := [⟨10, [(TGraph.lit a0)], 0, none⟩, ⟨4, [(TState.lit a1)], 0, none⟩, ⟨4, [[i6 a1.Node, .rows (a3.map (cInt .i64)), u6 a1.Marks, .rows (a1.Stack.map (cInt .i64))]], 0, none⟩, ⟨2, x4.map TMove.cells, 0, none⟩, ⟨2, [(TMove.lit (rdl t5_1 x5))], 0, none⟩]) rfl ?_ ?_
          · refine .o (faP fa44_0 rfl) <| .o (ldP rfl sz3 ag3 rfl) <| .o (geI rfl rfl) <| .m rfl <| ?_
            by_cases c27 : (rdl t5_1 x5).Step ≥ 0
            · refine .g rfl (dt c27) (faP fa44_0 rfl) <| .g rfl (dt c27) (ldP rfl sz3 ag3 rfl) <| .g rfl (dt c27) (faP fa29_6 rfl) <| .g rfl (dt c27) (ldP rfl sz24 ag24 rfl) <| .g rfl (dt c27) (lnR (l := a0.Steps) sl24 rfl) <| .g rfl (dt c27) (ltI rfl rfl) <| .o (pkTV rfl (dt c27) rfl) <| .m rfl <| ?_
              by_cases c28 : (rdl t5_1 x5).Step < (a0.Steps.length : Int)
              · exact (.g rfl (dt c28) (faP fa29_6 rfl) <| .g rfl (dt c28) (ldP rfl sz24 ag24 rfl) <| .g rfl (dt c28) (faP fa44_0 rfl) <| .g rfl (dt c28) (ldP rfl sz3 ag3 rfl) <| .g rfl (dt c28) (ixR (l := a0.Steps) (lit := TStep.lit) sl24 rfl rfl (fun _ => rfl) (g41_16 c27 c28).1 (g41_16 c27 c28).2) <| .g rfl (dt c28) (faC fa47_2 rfl) <| .g rfl (dt c28) (ldC rfl sz45 ag45 rfl) <| .g rfl (dt c28) (eqI rfl rfl) <| .o (pkTV rfl (dt c28) rfl) <| .nilL _ ⟨.free rfl rfl, .free rfl rfl, .ptr rfl, .ptr rfl, .ptr rfl, .own rfl, .free rfl rfl, .ptr rfl, cB rfl (mAndT (dt c27) (mAndT (dt c28) rfl)), trivial⟩)
              · exact (.n rfl (df c28) <| .n rfl (df c28) <| .n rfl (df c28) <| .n rfl (df c28) <| .n rfl (df c28) <| .n rfl (df c28) <| .n rfl (df c28) <| .n rfl (df c28) <| .o (pkFV rfl (df c28) rfl) <| .nilL _ ⟨.free rfl rfl, .free rfl rfl, .ptr rfl, .ptr rfl, .ptr rfl, .own rfl, .free rfl rfl, .ptr rfl, cB rfl (mAndT (dt c27) (mAndF (df c28))), trivial⟩)
            · exact (.n rfl (df c27) <| .n rfl (df c27) <| .n rfl (df c27) <| .n rfl (df c27) <| .n rfl (df c27) <| .n rfl (df c27) <| .o (pkFV rfl (df c27) rfl) <| .m rfl <| .n rfl rfl <| .n rfl rfl <| .n rfl rfl <| .n rfl rfl <| .n rfl rfl <| .n rfl rfl <| .n rfl rfl <| .n rfl rfl <| .o (pkFV rfl rfl rfl) <| .nilL _ ⟨.free rfl rfl, .free rfl rfl, .ptr rfl, .ptr rfl, .ptr rfl, .own rfl, .free rfl rfl, .ptr rfl, cB rfl (mAndF (df c27)), trivial⟩)
          refine .consJ (fun s_ => l22_FramesValues.j1 t5_1 x4 x5 s_ z1) (fun x10 => listEnv [(2, .rows (t5_1.map TMove.cells)), (4, i6 a4), (5, .ptr 0 1 10 0 0), (6, .ptr 1 1 4 0 0), (11, .ptr 2 1 4 0 0), (12, .own 3 x4.length), (13, i6 x5), (14, .ptr 4 1 2 0 0)]) (fun x10 => [⟨10, [(TGraph.lit a0)], 0, none⟩, ⟨4, [(TState.lit a1)], 0, none⟩, ⟨4, [[i6 a1.Node, .rows (a3.map (cInt .i64)), u6 a1.Marks, .rows (a1.Stack.map (cInt .i64))]], 0, none⟩, ⟨2, x4.map TMove.cells, 0, none⟩, ⟨2, [[i6 ((rdl t5_1 x5).Step), i6 x10]], 0, none⟩]) ?_ fun hJ1 => ?_
          · rintro x10 h
            unfold l22_FramesValues.j1 at h
            try dsimp only at h
            obtain ⟨g43_3, h⟩ := h
            refine .room 0 <| .room 0 <| .reg0 rfl (.op 0 rfl (mvO rfl) <| .op 0 rfl (ldG rfl sz44 ag44 rfl) <| .op 5 rfl (bldL (s := 2) (cs := [i6 ((rdl t5_1 x5).Step), i6 x10]) un34 sz44 ze44 ⟨by decide, rfl, by decide⟩ rfl rfl rfl rfl) <| .op 0 rfl (ap1 (l := x4) (TMove.mk ((rdl t5_1 x5).Step) x10) sl34 rfl rfl rfl (Nat.zero_le _) (elems_own (l := [(TMove.mk ((rdl t5_1 x5).Step) x10)]) rfl rfl) g43_3) <| .op 0 rfl (asO rfl) <| .nil0) ?_
            refine .inBlock <| .reg0 rfl (.op 0 rfl (mvV rfl) <| .op 0 rfl (addI rfl rfl) <| .op 0 rfl (asV rfl) <| .nil0) <| .keepL [0, 1, 2, 3] [(2, .rows (t5_1.map TMove.cells)), (4, i6 a4), (5, .ptr 0 1 10 0 0), (6, .ptr 1 1 4 0 0), (11, .ptr 2 1 4 0 0), (12, .own 3 ((x4 ++ [(TMove.mk ((rdl t5_1 x5).Step) x10)]).length)), (13, i6 (IntKind.i64.wrap (x5 + 1)))] [⟨10, [(TGraph.lit a0)], 0, none⟩, ⟨4, [(TState.lit a1)], 0, none⟩, ⟨4, [[i6 a1.Node, .rows (a3.map (cInt .i64)), u6 a1.Marks, .rows (a1.Stack.map (cInt .i64))]], 0, none⟩, ⟨2, (x4 ++ [(TMove.mk ((rdl t5_1 x5).Step) x10)]).map TMove.cells, 0, none⟩] (by decide) (by decide) ⟨.free rfl rfl, .free rfl rfl, .ptr rfl, .ptr rfl, .ptr rfl, .own rfl, .free rfl rfl, trivial⟩ ⟨⟨_, rfl, bcBox (all2_free rfl)⟩, ⟨_, rfl, bcBox (all2_free rfl)⟩, ⟨_, rfl, bcBox (all2_free rfl)⟩, ⟨_, rfl, bcRow (l := (x4 ++ [(TMove.mk ((rdl t5_1 x5).Step) x10)])) sl34 (Nat.le_refl _) rfl⟩, trivial⟩ ?_
            exact hn1 _ h
          · by_cases c30 : ((decide ((rdl t5_1 x5).Step ≥ 0)) && ((decide ((rdl t5_1 x5).Step < (a0.Steps.length : Int))) && ((rdl a0.Steps ((rdl t5_1 x5).Step)).Kind == 4))) = true
            · rw [if_pos c30] at h
              refine .condT rfl c30 <| .reg0 rfl (.m rfl <| .o (faP fa44_1 rfl) <| .o (stB (cs0 := (TMove.lit (rdl t5_1 x5))) (cs := [i6 a4]) (cs1 := [i6 ((rdl t5_1 x5).Step), i6 a4]) rfl rfl sz2 rfl ⟨Nat.le_of_ble_eq_true rfl, rfl⟩ rfl) <| .nil0) <| .keepL [0, 1, 2, 3, 4] [(2, .rows (t5_1.map TMove.cells)), (4, i6 a4), (5, .ptr 0 1 10 0 0), (6, .ptr 1 1 4 0 0), (11, .ptr 2 1 4 0 0), (12, .own 3 x4.length), (13, i6 x5), (14, .ptr 4 1 2 0 0)] [⟨10, [(TGraph.lit a0)], 0, none⟩, ⟨4, [(TState.lit a1)], 0, none⟩, ⟨4, [[i6 a1.Node, .rows (a3.map (cInt .i64)), u6 a1.Marks, .rows (a1.Stack.map (cInt .i64))]], 0, none⟩, ⟨2, x4.map TMove.cells, 0, none⟩, ⟨2, [[i6 ((rdl t5_1 x5).Step), i6 a4]], 0, none⟩] (by decide) (by decide) ⟨.free rfl rfl, .free rfl rfl, .ptr rfl, .ptr rfl, .ptr rfl, .own rfl, .free rfl rfl, .ptr rfl, trivial⟩ ⟨⟨_, rfl, bcBox (all2_free rfl)⟩, ⟨_, rfl, bcBox (all2_free rfl)⟩, ⟨_, rfl, bcBox (all2_free rfl)⟩, ⟨_, rfl, bcRow (l := x4) sl34 (Nat.le_refl _) rfl⟩, ⟨_, rfl, bcBox (all2_free rfl)⟩, trivial⟩ ?_
              exact hJ1 _ h
            · rw [if_neg c30] at h
              refine .condF rfl (nb c30) <| .skip <| .keepL [0, 1, 2, 3, 4] [(2, .rows (t5_1.map TMove.cells)), (4, i6 a4), (5, .ptr 0 1 10 0 0), (6, .ptr 1 1 4 0 0), (11, .ptr 2 1 4 0 0), (12, .own 3 x4.length), (13, i6 x5), (14, .ptr 4 1 2 0 0)] [⟨10, [(TGraph.lit a0)], 0, none⟩, ⟨4, [(TState.lit a1)], 0, none⟩, ⟨4, [[i6 a1.Node, .rows (a3.map (cInt .i64)), u6 a1.Marks, .rows (a1.Stack.map (cInt .i64))]], 0, none⟩, ⟨2, x4.map TMove.cells, 0, none⟩, ⟨2, [(TMove.lit (rdl t5_1 x5))], 0, none⟩] (by decide) (by decide) ⟨.free rfl rfl, .free rfl rfl, .ptr rfl, .ptr rfl, .ptr rfl, .own rfl, .free rfl rfl, .ptr rfl, trivial⟩ ⟨⟨_, rfl, bcBox (all2_free rfl)⟩, ⟨_, rfl, bcBox (all2_free rfl)⟩, ⟨_, rfl, bcBox (all2_free rfl)⟩, ⟨_, rfl, bcRow (l := x4) sl34 (Nat.le_refl _) rfl⟩, ⟨_, rfl, bcBox (all2_free rfl)⟩, trivial⟩ ?_
              exact hJ1 _ h
        · rw [if_neg c22] at h
          refine .condF rfl (df c22) <| .exit rfl <| .keepL [0, 1, 2, 3] [(2, .rows (t5_1.map TMove.cells)), (5, .ptr 0 1 10 0 0), (6, .ptr 1 1 4 0 0), (11, .ptr 2 1 4 0 0), (12, .own 3 x4.length)] [⟨10, [(TGraph.lit a0)], 0, none⟩, ⟨4, [(TState.lit a1)], 0, none⟩, ⟨4, [[i6 a1.Node, .rows (a3.map (cInt .i64)), u6 a1.Marks, .rows (a1.Stack.map (cInt .i64))]], 0, none⟩, ⟨2, x4.map TMove.cells, 0, none⟩] (by decide) (by decide) ⟨.free rfl rfl, .ptr rfl, .ptr rfl, .ptr rfl, .own rfl, trivial⟩ ⟨⟨_, rfl, bcBox (all2_free rfl)⟩, ⟨_, rfl, bcBox (all2_free rfl)⟩, ⟨_, rfl, bcBox (all2_free rfl)⟩, ⟨_, rfl, bcRow (l := x4) sl34 (Nat.le_refl _) rfl⟩, trivial⟩ ?_
          exact hx1 _ h
  · rw [if_neg c1] at h
    refine .condT rfl (bnotT (nb c1)) <| .seq <| .reg0 rfl (.op 0 rfl (asV rfl) <| .nil0) ?_
    replace h := h.symm
    subst h
    refine .kf [(10, bo false)] rfl rfl ?_
    exact .ret rfl
end Go.RM.Tryd
