/- GE, for the statement FramesValues: what it needs, no more. -/
import Derived.Test.YtcogffeinodfaaaDoorZFramesValuesGD
set_option linter.unusedVariables false
set_option maxRecDepth 8000
set_option maxHeartbeats 4000000
namespace Go.RM.Tryd
open Go.RM Go.Proofs
variable {X : FuncId → List PV → Heap → PV → Heap → Prop}
def frames_do.j1 (a0 : TGraph) (a1 : TState) (a2 : TMove) (t2_4 : (List Int)) (t2_9 : (List Int)) : Unit → (TState × Int) → Prop := fun _ r => ∃ t33_7 : Int, (frames_set.f a1.Marks ((rdl a0.Steps a2.Step).X) ((rdl a0.Steps a2.Step).Kind == 5) t33_7) ∧ r = ((TState.mk ((rdl a0.Steps a2.Step).To) t2_4 t33_7 t2_9), 0)
def frames_do.f (a0 : TGraph) (a1 : TState) (a2 : TMove) (r : TState × Int) : Prop :=
  ∃ t2_4 : (List Int), (slices_Clone_int64_o0.f a1.Env t2_4) ∧ ∃ t2_9 : (List Int), (slices_Clone_int.f a1.Stack t2_9) ∧ if a2.Step = (-1) then (∃ t4_6 : Bool, ((a2.Draw = 0) → frames_over.f a0 a1 t4_6) ∧ if ((!(a2.Draw == 0)) || (!t4_6)) = true then (r = ((TState.mk 0 [] 0 []), 221)) else (((InR 0 a1.Stack.length)) ∧ ((InR (rdl a1.Stack 0) a0.Sites.length)) ∧ ((Cut 1 (t2_9.length : Int) t2_9.length)) ∧ r = ((TState.mk ((rdl a0.Sites (rdl a1.Stack 0)).Back) t2_4 a1.Marks (cutl t2_9 1 (t2_9.length : Int))), 0))) else (if ((decide (a2.Step < 0)) || (decide (a2.Step ≥ (a0.Steps.length : Int)))) = true then (r = ((TState.mk 0 [] 0 []), 221)) else (((InR a2.Step a0.Steps.length)) ∧ if ((!((rdl a0.Steps a2.Step).From == a1.Node)) || ((!(a2.Draw == 0)) && ((rdl a0.Steps a2.Step).Kind != 4))) = true then (r = ((TState.mk 0 [] 0 []), 221)) else (if (rdl a0.Steps a2.Step).Kind = 2 then (∃ t36_10 : Int, (frames_set.f a1.Marks ((rdl a0.Steps a2.Step).X) false t36_10) ∧ ((InR ((rdl a0.Steps a2.Step).X) t2_4.length)) ∧ r = ((TState.mk ((rdl a0.Steps a2.Step).To) (setl t2_4 ((rdl a0.Steps a2.Step).X) ((rdl a0.Steps a2.Step).K)) t36_10 t2_9), 0)) else (if (rdl a0.Steps a2.Step).Kind = 4 then (∃ t39_10 : Int, (frames_set.f a1.Marks ((rdl a0.Steps a2.Step).X) false t39_10) ∧ ((InR ((rdl a0.Steps a2.Step).X) t2_4.length)) ∧ r = ((TState.mk ((rdl a0.Steps a2.Step).To) (setl t2_4 ((rdl a0.Steps a2.Step).X) a2.Draw) t39_10 t2_9), 0)) else (if (rdl a0.Steps a2.Step).Kind = 3 then (((InR ((rdl a0.Steps a2.Step).Y) a1.Env.length)) ∧ (((0 : Int) ≤ (rdl a0.Steps a2.Step).Y)) ∧ ∃ t42_21 : Int, (frames_set.f a1.Marks ((rdl a0.Steps a2.Step).X) ((bitOp .and .u64 (shrI .u64 a1.Marks ((rdl a0.Steps a2.Step).Y)) 1) == 1) t42_21) ∧ ((InR ((rdl a0.Steps a2.Step).X) t2_4.length)) ∧ r = ((TState.mk ((rdl a0.Steps a2.Step).To) (setl t2_4 ((rdl a0.Steps a2.Step).X) (rdl a1.Env ((rdl a0.Steps a2.Step).Y))) t42_21 t2_9), 0)) else (if (rdl a0.Steps a2.Step).Kind = 5 then (frames_do.j1 a0 a1 a2 t2_4 t2_9 () r) else (if (rdl a0.Steps a2.Step).Kind = 6 then (frames_do.j1 a0 a1 a2 t2_4 t2_9 () r) else (if (rdl a0.Steps a2.Step).Kind = 8 then (if (a1.Stack.length : Int) ≥ 4096 then (r = ((TState.mk 0 [] 0 []), 2)) else (((InR ((rdl a0.Steps a2.Step).Site) a0.Sites.length)) ∧ ((InR ((rdl a0.Sites ((rdl a0.Steps a2.Step).Site)).Proc) a0.Entry.length)) ∧ ((Fits ([(rdl a0.Steps a2.Step).Site].length + t2_9.length) 8)) ∧ r = ((TState.mk (rdl a0.Entry ((rdl a0.Sites ((rdl a0.Steps a2.Step).Site)).Proc)) t2_4 a1.Marks ([(rdl a0.Steps a2.Step).Site] ++ t2_9)), 0))) else (r = ((TState.mk ((rdl a0.Steps a2.Step).To) t2_4 a1.Marks t2_9), 0))))))))))
abbrev GE_A0 : List (List Nat) := [[], [0], [], [2], [], [4], [], [6], [], [8], [7, 6, 9, 8], [1, 0, 3, 2, 4, 5, 10, 7, 6, 9, 8], [11, 1, 0, 3, 2, 4, 5, 10, 7, 6, 9, 8], [0, 1, 2, 3, 4, 5, 6, 7, 8, 9, 10, 11, 12], [13, 0, 1, 2, 3, 4, 5, 6, 7, 8, 9, 10, 11, 12]]
abbrev GE_c0 : List PV := [i6 0, nul, u6 0, nul]
abbrev GE_c1 : List PV := [i6 0, .rows (([] : List Int).map (cInt .i64)), u6 0, .rows (([] : List Int).map (cInt .i64))]
theorem frames_do.D {a0 a1 a2 r} (h : frames_do.f a0 a1 a2 r) : D Tryd.prog X (.callH 23 [.agg (TGraph.lit a0), .agg (TState.lit a1), .agg (TMove.lit a2)] [] (.tuple [.agg (TState.lit r.1), .val (.int .i64 r.2)]) []) := by
  unfold frames_do.f at h
  refine .enter 184 0 fn23 rfl rfl rfl <| .seq <| .room 0 <| .room 0 <| .room 0 <| .room 0 <| .reg0 rfl (.op 0 rfl (bxP (s := 10) (cs := (TGraph.lit a0)) rfl ⟨rfl, by decide, rfl⟩ rfl) <| .op 1 rfl (bxP (s := 4) (cs := (TState.lit a1)) rfl ⟨rfl, by decide, rfl⟩ rfl) <| .op 2 rfl (bxP (s := 2) (cs := (TMove.lit a2)) rfl ⟨rfl, by decide, rfl⟩ rfl) <| .op 3 rfl (alP (s := 4) ze33 ⟨rfl, by decide, rfl⟩ rfl) <| .op 0 rfl (asV rfl) <| .nil0) ?_
  refine .seq ?_
  obtain ⟨t2_4, g2_4, h⟩ := h
  obtain ⟨t2_9, g2_9, h⟩ := h
  refine .room 0 <| .room 0 ?_
  refine .reg1 (e1 := listEnv [(3, .ptr 0 1 10 0 0), (4, .ptr 1 1 4 0 0), (5, .ptr 2 1 2 0 0), (6, .ptr 3 1 4 0 0), (8, .ptr 4 1 4 0 0)]) (H1 := [⟨10, [(TGraph.lit a0)], 0, none⟩, ⟨4, [(TState.lit a1)], 0, none⟩, ⟨2, [(TMove.lit a2)], 0, none⟩, ⟨4, [GE_c0], 0, none⟩, ⟨4, [[i6 a1.Node, .own 5 t2_4.length, u6 a1.Marks, .rows (t2_9.map (cInt .i64))]], 0, none⟩, ⟨1, t2_4.map (cInt .i64), 0, none⟩]) rfl ?_ ?_
  · exact .drawM [(11, 8, .ptr 4 1 4 0 0), (10, 20, .agg [i6 a1.Node, .own 5 t2_4.length, u6 a1.Marks, .rows (t2_9.map (cInt .i64))]), (9, 19, .rows (t2_9.map (cInt .i64))), (8, 18, .rows (a1.Stack.map (cInt .i64))), (7, 17, .ptr 1 1 4 0 3), (6, 16, u6 a1.Marks), (5, 15, .ptr 1 1 4 0 2), (4, 14, .own 5 t2_4.length), (3, 13, .rows (a1.Env.map (cInt .i64))), (2, 12, .ptr 1 1 4 0 1), (1, 11, i6 a1.Node), (0, 10, .ptr 1 1 4 0 0)] [(12, 4, ⟨4, [[i6 a1.Node, .own 5 t2_4.length, u6 a1.Marks, .rows (t2_9.map (cInt .i64))]], 0, none⟩), (11, 4, ⟨4, [GE_c0], 0, none⟩), (4, 5, ⟨1, t2_4.map (cInt .i64), 0, none⟩)] [[], [0], [], [2], [3, 2], [], [5], [], [7], [8, 7, 4, 3, 2], [1, 0, 4, 3, 2, 6, 5, 9, 8, 7], [], [11, 10, 1, 0, 4, 3, 2, 6, 5, 9, 8, 7]] (by rfl) (by rfl) (by rfl) (by exact ⟨oP (fun _ => faP fa33_0 rfl) rfl, oP (fun _ => ldP rfl sz3 ag3 rfl) rfl, oP (fun _ => faP fa33_1 rfl) rfl, oP (fun _ => ldP rfl sz30 ag30 rfl) rfl, fun S hS hD hn => .oneI hS hD hn rfl rfl (callee_of rfl go21 rfl) (.focus (args' := [.rows (a1.Env.map (cInt .i64))]) (H0 := []) (Hc := [⟨1, t2_4.map (cInt .i64), 0, none⟩]) (Hd := [⟨1, t2_4.map (cInt .i64), 0, none⟩]) [] [] [5] false (.cons (.free rfl rfl) <| .nil) (HConvL.heap trivial) (by decide) rfl rfl (slices_Clone_int64_o0.D g2_4) (.own rfl) (.cons (bcRow (l := t2_4) sl30 (Nat.le_refl _) rfl) <| .nil) rfl (.inr (.inl rfl)) rfl) rfl rfl rfl, oP (fun _ => faP fa33_2 rfl) rfl, oP (fun _ => ldP rfl sz31 ag31 rfl) rfl, oP (fun _ => faP fa33_3 rfl) rfl, oP (fun _ => ldP rfl sz23 ag23 rfl) rfl, fun S hS hD hn => .oneI hS hD hn rfl rfl (callee_of rfl go22 rfl) (.pure rfl rfl (slices_Clone_int.D g2_9)) rfl rfl rfl, oP (fun _ => bldS (cs := [i6 a1.Node, .own 5 t2_4.length, u6 a1.Marks, .rows (t2_9.map (cInt .i64))]) ze33 pl33 rfl rfl) rfl, oW 4 (fun _ => alP (s := 4) ze33 ⟨rfl, by decide, rfl⟩ rfl) rfl fun _ => rfl, fun S hS hD hn => .one0 0 rfl rfl (stB (cs0 := GE_c0) (cs := [i6 a1.Node, .own 5 t2_4.length, u6 a1.Marks, .rows (t2_9.map (cInt .i64))]) (cs1 := [i6 a1.Node, .own 5 t2_4.length, u6 a1.Marks, .rows (t2_9.map (cInt .i64))]) rfl rfl sz33 rfl ⟨Nat.le_of_ble_eq_true rfl, rfl⟩ rfl) (drawE_other _ _ _ _ rfl) rfl, trivial⟩) _ (by exact ⟨.ptr rfl, .ptr rfl, .ptr rfl, .ptr rfl, .ptr rfl, trivial⟩) (by rfl)
  refine .seq <| .seq <| .reg0 rfl (.op 0 rfl (faP fa44_0 rfl) <| .op 0 rfl (ldP rfl sz3 ag3 rfl) <| .op 0 rfl (eqI rfl rfl) <| .nil0) ?_
  by_cases c1 : a2.Step = (-1)
  · rw [if_pos c1] at h
    refine .condT rfl (bt c1) <| .seq <| .seq ?_
    obtain ⟨t4_6, g4_6, h⟩ := h
    refine .reg0 (e1 := listEnv [(3, .ptr 0 1 10 0 0), (4, .ptr 1 1 4 0 0), (6, .ptr 3 1 4 0 0), (8, .ptr 4 1 4 0 0), (32, bo ((!(a2.Draw == 0)) || (!t4_6)))]) (H1 := [⟨10, [(TGraph.lit a0)], 0, none⟩, ⟨4, [(TState.lit a1)], 0, none⟩, ⟨2, [(TMove.lit a2)], 0, none⟩, ⟨4, [GE_c0], 0, none⟩, ⟨4, [[i6 a1.Node, .own 5 t2_4.length, u6 a1.Marks, .rows (t2_9.map (cInt .i64))]], 0, none⟩, ⟨1, t2_4.map (cInt .i64), 0, none⟩]) rfl ?_ ?_
    · refine .o (faP fa44_1 rfl) <| .o (ldP rfl sz2 ag2 rfl) <| .o (neI rfl rfl) <| .m rfl <| ?_
      by_cases c2 : a2.Draw = 0
      · exact (.g rfl (nf c2) (ldG rfl sz29 ag29 rfl) <| .g rfl (nf c2) (ldG rfl sz33 ag33 rfl) <| .callI (gT rfl rfl rfl (nf c2)) (callee_of rfl go30 rfl) (.pure rfl rfl (frames_over.D (g4_6 c2))) <| .g rfl (nf c2) (notB rfl) <| .o (pkFV rfl (nf c2) rfl) <| .nilL _ ⟨.ptr rfl, .ptr rfl, .ptr rfl, .ptr rfl, cB rfl (mOrF (bnotF (bt c2)) rfl), trivial⟩)
      · exact (.n rfl (nt c2) <| .n rfl (nt c2) <| .n rfl (nt c2) <| .n rfl (nt c2) <| .o (pkTV rfl (nt c2) rfl) <| .nilL _ ⟨.ptr rfl, .ptr rfl, .ptr rfl, .ptr rfl, cB rfl (mOrT (bnotT (bn c2))), trivial⟩)
    by_cases c3 : ((!(a2.Draw == 0)) || (!t4_6)) = true
    · rw [if_pos c3] at h
      refine .condT rfl c3 <| .seq <| .reg0 rfl (.op 0 rfl (bldS (cs := GE_c0) ze33 pl33 rfl rfl) <| .op 0 rfl (stB (cs0 := GE_c0) (cs := GE_c0) (cs1 := GE_c0) rfl rfl sz33 rfl ⟨Nat.le_of_ble_eq_true rfl, rfl⟩ rfl) <| .op 0 rfl (asV rfl) <| .nil0) ?_
      replace h := h.symm
      subst h
      refine .k [(6, .cptr GE_c1 0), (7, i6 221)] ⟨cFixP rfl rfl (.cons (.free rfl rfl) <| .cons (.nil) <| .cons (.free rfl rfl) <| .cons (.nil) <| .nil), .free rfl rfl, trivial⟩ ?_
      exact .ret rfl
    · rw [if_neg c3] at h
      refine .condF rfl (nb c3) <| .skip <| .seq ?_
      obtain ⟨g6_4, h⟩ := h
      obtain ⟨g6_6, h⟩ := h
      obtain ⟨g6_11, h⟩ := h
      refine .reg1 (e1 := listEnv [(6, .ptr 3 1 4 0 0), (8, .ptr 4 1 4 0 0)]) (H1 := [⟨10, [(TGraph.lit a0)], 0, none⟩, ⟨4, [(TState.lit a1)], 0, none⟩, ⟨2, [(TMove.lit a2)], 0, none⟩, ⟨4, [GE_c0], 0, none⟩, ⟨4, [[i6 ((rdl a0.Sites (rdl a1.Stack 0)).Back), .own 5 t2_4.length, u6 a1.Marks, .rows ((cutl t2_9 1 (t2_9.length : Int)).map (cInt .i64))]], 0, none⟩, ⟨1, t2_4.map (cInt .i64), 0, none⟩]) rfl ?_ ?_
      · exact .drawM [(14, 47, .ptr 4 1 4 0 3), (12, 46, .ptr 4 1 4 0 0), (11, 45, .rows ((cutl t2_9 1 (t2_9.length : Int)).map (cInt .i64))), (10, 44, .rows (t2_9.map (cInt .i64))), (9, 43, .ptr 4 1 4 0 3), (8, 42, i6 ((rdl a0.Sites (rdl a1.Stack 0)).Back)), (7, 41, .cptr (TSite.lit (rdl a0.Sites (rdl a1.Stack 0))) 3), (6, 40, .cptr (TSite.lit (rdl a0.Sites (rdl a1.Stack 0))) 0), (5, 39, i6 (rdl a1.Stack 0)), (4, 38, .cptr ((cInt .i64) (rdl a1.Stack 0)) 0), (3, 37, .rows (a1.Stack.map (cInt .i64))), (2, 36, .ptr 1 1 4 0 3), (1, 35, .rows (a0.Sites.map TSite.cells)), (0, 34, .ptr 0 1 10 0 7)] [(15, 4, ⟨4, [[i6 ((rdl a0.Sites (rdl a1.Stack 0)).Back), .own 5 t2_4.length, u6 a1.Marks, .rows ((cutl t2_9 1 (t2_9.length : Int)).map (cInt .i64))]], 0, none⟩), (13, 4, ⟨4, [[i6 ((rdl a0.Sites (rdl a1.Stack 0)).Back), .own 5 t2_4.length, u6 a1.Marks, .rows (t2_9.map (cInt .i64))]], 0, none⟩)] [[], [0], [], [2], [3, 2], [4, 3, 2], [1, 0, 5, 4, 3, 2], [6, 1, 0, 5, 4, 3, 2], [7, 6, 1, 0, 5, 4, 3, 2], [], [9], [10, 9], [0, 1, 2, 3, 4, 5, 6, 7, 8, 9, 10], [12, 0, 1, 2, 3, 4, 5, 6, 7, 8, 9, 10], [0, 1, 2, 3, 4, 5, 6, 7, 8, 9, 10, 11, 12, 13], [14, 0, 1, 2, 3, 4, 5, 6, 7, 8, 9, 10, 11, 12, 13]] (by rfl) (by rfl) (by rfl) (by exact ⟨oP (fun _ => faP fa29_7 rfl) rfl, oP (fun _ => ldP rfl sz25 ag25 rfl) rfl, oP (fun _ => faP fa33_3 rfl) rfl, oP (fun _ => ldP rfl sz23 ag23 rfl) rfl, oP (fun _ => ixR (l := a1.Stack) (lit := (cInt .i64)) sl23 rfl rfl (fun _ => rfl) g6_4.1 g6_4.2) rfl, oP (fun _ => ldC rfl sz3 ag3 rfl) rfl, oP (fun _ => ixR (l := a0.Sites) (lit := TSite.lit) sl25 rfl rfl (fun _ => rfl) g6_6.1 g6_6.2) rfl, oP (fun _ => faC fa76_3 rfl) rfl, oP (fun _ => ldC rfl sz3 ag3 rfl) rfl, oP (fun _ => faP fa33_3 rfl) rfl, oP (fun _ => ldP rfl sz23 ag23 rfl) rfl, oP (fun _ => slR (l := t2_9) (v := Int.toNat 1) sl23 rfl (bound_some rfl g6_11.1) bound_nl (cut_le' g6_11) (Nat.le_refl _)) rfl, oP (fun _ => faP fa33_0 rfl) rfl, fun S hS hD hn => .one0 0 rfl rfl (stB (cs0 := [i6 a1.Node, .own 5 t2_4.length, u6 a1.Marks, .rows (t2_9.map (cInt .i64))]) (cs := [i6 ((rdl a0.Sites (rdl a1.Stack 0)).Back)]) (cs1 := [i6 ((rdl a0.Sites (rdl a1.Stack 0)).Back), .own 5 t2_4.length, u6 a1.Marks, .rows (t2_9.map (cInt .i64))]) rfl rfl sz3 rfl ⟨Nat.le_of_ble_eq_true rfl, rfl⟩ rfl) (drawE_other _ _ _ _ rfl) rfl, oP (fun _ => faP fa33_3 rfl) rfl, fun S hS hD hn => .one0 0 rfl rfl (stB (cs0 := [i6 ((rdl a0.Sites (rdl a1.Stack 0)).Back), .own 5 t2_4.length, u6 a1.Marks, .rows (t2_9.map (cInt .i64))]) (cs := [.rows ((cutl t2_9 1 (t2_9.length : Int)).map (cInt .i64))]) (cs1 := [i6 ((rdl a0.Sites (rdl a1.Stack 0)).Back), .own 5 t2_4.length, u6 a1.Marks, .rows ((cutl t2_9 1 (t2_9.length : Int)).map (cInt .i64))]) rfl rfl sz23 rfl ⟨Nat.le_of_ble_eq_true rfl, rfl⟩ rfl) (drawE_other _ _ _ _ rfl) rfl, trivial⟩) _ (by exact ⟨.ptr rfl, .ptr rfl, trivial⟩) (by rfl)
      refine .seq <| .reg0 rfl (.op 0 rfl (ldG rfl sz33 ag33 rfl) <| .op 0 rfl (stB (cs0 := GE_c0) (cs := [i6 ((rdl a0.Sites (rdl a1.Stack 0)).Back), .own 5 t2_4.length, u6 a1.Marks, .rows ((cutl t2_9 1 (t2_9.length : Int)).map (cInt .i64))]) (cs1 := [i6 ((rdl a0.Sites (rdl a1.Stack 0)).Back), .own 5 t2_4.length, u6 a1.Marks, .rows ((cutl t2_9 1 (t2_9.length : Int)).map (cInt .i64))]) rfl rfl sz33 rfl ⟨Nat.le_of_ble_eq_true rfl, rfl⟩ rfl) <| .op 0 rfl (asV rfl) <| .nil0) ?_
      replace h := h.symm
      subst h
      refine .k [(6, .cptr [i6 ((rdl a0.Sites (rdl a1.Stack 0)).Back), .rows (t2_4.map (cInt .i64)), u6 a1.Marks, .rows ((cutl t2_9 1 (t2_9.length : Int)).map (cInt .i64))] 0), (7, i6 0)] ⟨cFixP rfl rfl (.cons (.free rfl rfl) <| .cons (cFixO (l := t2_4) sl30 rfl rfl rfl rfl) <| .cons (.free rfl rfl) <| .cons (.free rfl rfl) <| .nil), .free rfl rfl, trivial⟩ ?_
      exact .ret rfl
  · rw [if_neg c1] at h
    refine .condF rfl (bn c1) <| .skip <| .seq <| .seq ?_
    refine .reg0 (e1 := listEnv [(3, .ptr 0 1 10 0 0), (4, .ptr 1 1 4 0 0), (5, .ptr 2 1 2 0 0), (6, .ptr 3 1 4 0 0), (8, .ptr 4 1 4 0 0), (59, bo ((decide (a2.Step < 0)) || (decide (a2.Step ≥ (a0.Steps.length : Int)))))]) (H1 := [⟨10, [(TGraph.lit a0)], 0, none⟩, ⟨4, [(TState.lit a1)], 0, none⟩, ⟨2, [(TMove.lit a2)], 0, none⟩, ⟨4, [GE_c0], 0, none⟩, ⟨4, [[i6 a1.Node, .own 5 t2_4.length, u6 a1.Marks, .rows (t2_9.map (cInt .i64))]], 0, none⟩, ⟨1, t2_4.map (cInt .i64), 0, none⟩]) rfl ?_ ?_
    · refine .o (faP fa44_0 rfl) <| .o (ldP rfl sz3 ag3 rfl) <| .o (ltI rfl rfl) <| .m rfl <| ?_
      by_cases c4 : a2.Step < 0
      · exact (.n rfl (dt c4) <| .n rfl (dt c4) <| .n rfl (dt c4) <| .n rfl (dt c4) <| .n rfl (dt c4) <| .n rfl (dt c4) <| .o (pkTV rfl (dt c4) rfl) <| .nilL _ ⟨.ptr rfl, .ptr rfl, .ptr rfl, .ptr rfl, .ptr rfl, cB rfl (mOrT (dt c4)), trivial⟩)
      · exact (.g rfl (df c4) (faP fa44_0 rfl) <| .g rfl (df c4) (ldP rfl sz3 ag3 rfl) <| .g rfl (df c4) (faP fa29_6 rfl) <| .g rfl (df c4) (ldP rfl sz24 ag24 rfl) <| .g rfl (df c4) (lnR (l := a0.Steps) sl24 rfl) <| .g rfl (df c4) (geI rfl rfl) <| .o (pkFV rfl (df c4) rfl) <| .nilL _ ⟨.ptr rfl, .ptr rfl, .ptr rfl, .ptr rfl, .ptr rfl, cB rfl (mOrF (df c4) rfl), trivial⟩)
    by_cases c5 : ((decide (a2.Step < 0)) || (decide (a2.Step ≥ (a0.Steps.length : Int)))) = true
    · rw [if_pos c5] at h
      refine .condT rfl c5 <| .seq <| .reg0 rfl (.op 0 rfl (bldS (cs := GE_c0) ze33 pl33 rfl rfl) <| .op 0 rfl (stB (cs0 := GE_c0) (cs := GE_c0) (cs1 := GE_c0) rfl rfl sz33 rfl ⟨Nat.le_of_ble_eq_true rfl, rfl⟩ rfl) <| .op 0 rfl (asV rfl) <| .nil0) ?_
      replace h := h.symm
      subst h
      refine .k [(6, .cptr GE_c1 0), (7, i6 221)] ⟨cFixP rfl rfl (.cons (.free rfl rfl) <| .cons (.nil) <| .cons (.free rfl rfl) <| .cons (.nil) <| .nil), .free rfl rfl, trivial⟩ ?_
      exact .ret rfl
    · rw [if_neg c5] at h
      refine .condF rfl (nb c5) <| .skip <| .seq ?_
      obtain ⟨g10_4, h⟩ := h
      refine .room 0 <| .reg0 rfl (.op 0 rfl (faP fa29_6 rfl) <| .op 0 rfl (ldP rfl sz24 ag24 rfl) <| .op 0 rfl (faP fa44_0 rfl) <| .op 0 rfl (ldP rfl sz3 ag3 rfl) <| .op 0 rfl (ixR (l := a0.Steps) (lit := TStep.lit) sl24 rfl rfl (fun _ => rfl) g10_4.1 g10_4.2) <| .op 0 rfl (ldCG rfl sz47 ag47 rfl) <| .op 6 rfl (alP (s := 7) ze47 ⟨rfl, by decide, rfl⟩ rfl) <| .op 0 rfl (stB (cs0 := [i6 0, i6 0, i6 0, i6 0, i6 0, i6 0, i6 0]) (cs := (TStep.lit (rdl a0.Steps a2.Step))) (cs1 := (TStep.lit (rdl a0.Steps a2.Step))) rfl rfl sz47 rfl ⟨Nat.le_of_ble_eq_true rfl, rfl⟩ rfl) <| .nil0) ?_
      refine .seq <| .seq ?_
      refine .reg0 (e1 := listEnv [(3, .ptr 0 1 10 0 0), (4, .ptr 1 1 4 0 0), (5, .ptr 2 1 2 0 0), (6, .ptr 3 1 4 0 0), (8, .ptr 4 1 4 0 0), (9, .ptr 6 1 7 0 0), (81, bo ((!((rdl a0.Steps a2.Step).From == a1.Node)) || ((!(a2.Draw == 0)) && ((rdl a0.Steps a2.Step).Kind != 4))))]) (H1 := [⟨10, [(TGraph.lit a0)], 0, none⟩, ⟨4, [(TState.lit a1)], 0, none⟩, ⟨2, [(TMove.lit a2)], 0, none⟩, ⟨4, [GE_c0], 0, none⟩, ⟨4, [[i6 a1.Node, .own 5 t2_4.length, u6 a1.Marks, .rows (t2_9.map (cInt .i64))]], 0, none⟩, ⟨1, t2_4.map (cInt .i64), 0, none⟩, ⟨7, [(TStep.lit (rdl a0.Steps a2.Step))], 0, none⟩]) rfl ?_ ?_
      · refine .o (faP fa47_0 rfl) <| .o (ldP rfl sz3 ag3 rfl) <| .o (faP fa33_0 rfl) <| .o (ldP rfl sz3 ag3 rfl) <| .o (neI rfl rfl) <| .m rfl <| ?_
        by_cases c6 : (rdl a0.Steps a2.Step).From = a1.Node
        · refine .g rfl (nf c6) (faP fa44_1 rfl) <| .g rfl (nf c6) (ldP rfl sz2 ag2 rfl) <| .g rfl (nf c6) (neI rfl rfl) <| .g rfl (nf c6) (mvV rfl) <| ?_
          by_cases c7 : a2.Draw = 0
          · exact (.n rfl (nf c7) <| .n rfl (nf c7) <| .n rfl (nf c7) <| .g rfl (nf c6) (pkFV rfl (nf c7) rfl) <| .o (pkFV rfl (nf c6) rfl) <| .nilL _ ⟨.ptr rfl, .ptr rfl, .ptr rfl, .ptr rfl, .ptr rfl, .ptr rfl, cB rfl (mOrF (bnotF (bt c6)) (mAndF (bnotF (bt c7)))), trivial⟩)
          · exact (.g rfl (nt c7) (faP fa47_2 rfl) <| .g rfl (nt c7) (ldP rfl sz45 ag45 rfl) <| .g rfl (nt c7) (neI rfl rfl) <| .g rfl (nf c6) (pkTV rfl (nt c7) rfl) <| .o (pkFV rfl (nf c6) rfl) <| .nilL _ ⟨.ptr rfl, .ptr rfl, .ptr rfl, .ptr rfl, .ptr rfl, .ptr rfl, cB rfl (mOrF (bnotF (bt c6)) (mAndT (bnotT (bn c7)) rfl)), trivial⟩)
        · exact (.n rfl (nt c6) <| .n rfl (nt c6) <| .n rfl (nt c6) <| .n rfl (nt c6) <| .u rfl <| .u rfl <| .u rfl <| .n rfl (nt c6) <| .o (pkTV rfl (nt c6) rfl) <| .nilL _ ⟨.ptr rfl, .ptr rfl, .ptr rfl, .ptr rfl, .ptr rfl, .ptr rfl, cB rfl (mOrT (bnotT (bn c6))), trivial⟩)
      by_cases c8 : ((!((rdl a0.Steps a2.Step).From == a1.Node)) || ((!(a2.Draw == 0)) && ((rdl a0.Steps a2.Step).Kind != 4))) = true
      · rw [if_pos c8] at h
        refine .condT rfl c8 <| .seq <| .reg0 rfl (.op 0 rfl (bldS (cs := GE_c0) ze33 pl33 rfl rfl) <| .op 0 rfl (stB (cs0 := GE_c0) (cs := GE_c0) (cs1 := GE_c0) rfl rfl sz33 rfl ⟨Nat.le_of_ble_eq_true rfl, rfl⟩ rfl) <| .op 0 rfl (asV rfl) <| .nil0) ?_
        replace h := h.symm
        subst h
        refine .k [(6, .cptr GE_c1 0), (7, i6 221)] ⟨cFixP rfl rfl (.cons (.free rfl rfl) <| .cons (.nil) <| .cons (.free rfl rfl) <| .cons (.nil) <| .nil), .free rfl rfl, trivial⟩ ?_
        exact .ret rfl
      · rw [if_neg c8] at h
        refine .condF rfl (nb c8) <| .skip <| .seq <| .reg0 rfl (.op 0 rfl (faP fa47_1 rfl) <| .op 0 rfl (ldP rfl sz3 ag3 rfl) <| .op 0 rfl (faP fa33_0 rfl) <| .op 0 rfl (stB (cs0 := [i6 a1.Node, .own 5 t2_4.length, u6 a1.Marks, .rows (t2_9.map (cInt .i64))]) (cs := [i6 ((rdl a0.Steps a2.Step).To)]) (cs1 := [i6 ((rdl a0.Steps a2.Step).To), .own 5 t2_4.length, u6 a1.Marks, .rows (t2_9.map (cInt .i64))]) rfl rfl sz3 rfl ⟨Nat.le_of_ble_eq_true rfl, rfl⟩ rfl) <| .nil0) ?_
        refine .seq <| .seq <| .reg0 rfl (.op 0 rfl (faP fa47_2 rfl) <| .op 0 rfl (ldP rfl sz45 ag45 rfl) <| .nil0) <| .block <| .seq <| .block <| .seq ?_
        refine .consJ (fun s_ => frames_do.j1 a0 a1 a2 t2_4 t2_9 s_ r) (fun _ => listEnv [(6, .ptr 0 1 4 0 0), (8, .ptr 1 1 4 0 0), (9, .ptr 3 1 7 0 0)]) (fun _ => [⟨4, [GE_c0], 0, none⟩, ⟨4, [[i6 ((rdl a0.Steps a2.Step).To), .own 2 t2_4.length, u6 a1.Marks, .rows (t2_9.map (cInt .i64))]], 0, none⟩, ⟨1, t2_4.map (cInt .i64), 0, none⟩, ⟨7, [(TStep.lit (rdl a0.Steps a2.Step))], 0, none⟩]) ?_ fun hJ1 => ?_
        · rintro ⟨⟩ h
          unfold frames_do.j1 at h
          try dsimp only at h
          refine .seq ?_
          obtain ⟨t33_7, g33_7, h⟩ := h
          refine .reg0 rfl (.o (faP fa33_2 rfl) <| .o (ldP rfl sz31 ag31 rfl) <| .o (faP fa47_3 rfl) <| .o (ldP rfl sz3 ag3 rfl) <| .o (faP fa47_2 rfl) <| .o (ldP rfl sz45 ag45 rfl) <| .o (eqI rfl rfl) <| .c rfl go31 rfl rfl rfl (frames_set.D g33_7) <| .o (faP fa33_2 rfl) <| .o (stB (cs0 := [i6 ((rdl a0.Steps a2.Step).To), .own 2 t2_4.length, u6 a1.Marks, .rows (t2_9.map (cInt .i64))]) (cs := [u6 t33_7]) (cs1 := [i6 ((rdl a0.Steps a2.Step).To), .own 2 t2_4.length, u6 t33_7, .rows (t2_9.map (cInt .i64))]) rfl rfl sz31 rfl ⟨Nat.le_of_ble_eq_true rfl, rfl⟩ rfl) <| .nil0) ?_
          refine .exit rfl <| .seq <| .reg0 rfl (.op 0 rfl (ldG rfl sz33 ag33 rfl) <| .op 0 rfl (stB (cs0 := GE_c0) (cs := [i6 ((rdl a0.Steps a2.Step).To), .own 2 t2_4.length, u6 t33_7, .rows (t2_9.map (cInt .i64))]) (cs1 := [i6 ((rdl a0.Steps a2.Step).To), .own 2 t2_4.length, u6 t33_7, .rows (t2_9.map (cInt .i64))]) rfl rfl sz33 rfl ⟨Nat.le_of_ble_eq_true rfl, rfl⟩ rfl) <| .op 0 rfl (asV rfl) <| .nil0) ?_
          replace h := h.symm
          subst h
          refine .k [(6, .cptr [i6 ((rdl a0.Steps a2.Step).To), .rows (t2_4.map (cInt .i64)), u6 t33_7, .rows (t2_9.map (cInt .i64))] 0), (7, i6 0)] ⟨cFixP rfl rfl (.cons (.free rfl rfl) <| .cons (cFixO (l := t2_4) sl30 rfl rfl rfl rfl) <| .cons (.free rfl rfl) <| .cons (.free rfl rfl) <| .nil), .free rfl rfl, trivial⟩ ?_
          exact .ret rfl
        · refine .block <| .block <| .seq <| .block <| .seq <| .block <| .seq <| .block <| .seq <| .seq <| .seq <| .reg0 rfl (.op 0 rfl (eqI rfl rfl) <| .op 0 rfl (asV rfl) <| .nil0) ?_
          by_cases c16 : (rdl a0.Steps a2.Step).Kind = 2
          · rw [if_pos c16] at h
            refine .condT rfl (bt c16) <| .exit rfl <| .seq ?_
            obtain ⟨t36_10, g36_10, h⟩ := h
            obtain ⟨g36_11, h⟩ := h
            refine .reg1 (e1 := listEnv [(6, .ptr 3 1 4 0 0), (8, .ptr 4 1 4 0 0)]) (H1 := [⟨10, [(TGraph.lit a0)], 0, none⟩, ⟨4, [(TState.lit a1)], 0, none⟩, ⟨2, [(TMove.lit a2)], 0, none⟩, ⟨4, [GE_c0], 0, none⟩, ⟨4, [[i6 ((rdl a0.Steps a2.Step).To), .own 5 t2_4.length, u6 t36_10, .rows (t2_9.map (cInt .i64))]], 0, none⟩, ⟨1, (setl t2_4 ((rdl a0.Steps a2.Step).X) ((rdl a0.Steps a2.Step).K)).map (cInt .i64), 0, none⟩, ⟨7, [(TStep.lit (rdl a0.Steps a2.Step))], 0, none⟩]) rfl ?_ ?_
            · exact .drawM [(13, 112, .ptr 4 1 4 0 2), (11, 111, .ptr 5 t2_4.length 1 (Int.toNat ((rdl a0.Steps a2.Step).X)) 0), (10, 110, u6 t36_10), (9, 109, i6 ((rdl a0.Steps a2.Step).X)), (8, 108, .ptr 6 1 7 0 3), (7, 107, u6 a1.Marks), (6, 106, .ptr 4 1 4 0 2), (5, 105, i6 ((rdl a0.Steps a2.Step).K)), (4, 104, .ptr 6 1 7 0 5), (3, 103, i6 ((rdl a0.Steps a2.Step).X)), (2, 102, .ptr 6 1 7 0 3), (1, 101, .own 5 t2_4.length), (0, 100, .ptr 4 1 4 0 1)] [(14, 4, ⟨4, [[i6 ((rdl a0.Steps a2.Step).To), .own 5 t2_4.length, u6 t36_10, .rows (t2_9.map (cInt .i64))]], 0, none⟩), (12, 5, ⟨1, (setl t2_4 ((rdl a0.Steps a2.Step).X) ((rdl a0.Steps a2.Step).K)).map (cInt .i64), 0, none⟩)] GE_A0 (by rfl) (by rfl) (by rfl) (by exact ⟨oP (fun _ => faP fa33_1 rfl) rfl, oP (fun _ => ldP rfl sz30 ag30 rfl) rfl, oP (fun _ => faP fa47_3 rfl) rfl, oP (fun _ => ldP rfl sz3 ag3 rfl) rfl, oP (fun _ => faP fa47_5 rfl) rfl, oP (fun _ => ldP rfl sz2 ag2 rfl) rfl, oP (fun _ => faP fa33_2 rfl) rfl, oP (fun _ => ldP rfl sz31 ag31 rfl) rfl, oP (fun _ => faP fa47_3 rfl) rfl, oP (fun _ => ldP rfl sz3 ag3 rfl) rfl, fun S hS hD hn => .oneI hS hD hn rfl rfl (callee_of rfl go31 rfl) (.pure rfl rfl (frames_set.D g36_10)) rfl rfl rfl, oP (fun _ => ixO (l := t2_4) sl30 rfl rfl rfl rfl g36_11.1 g36_11.2) rfl, fun S hS hD hn => .one0 0 rfl rfl (stO (l := t2_4) (j := ((rdl a0.Steps a2.Step).X)) (cs := [i6 ((rdl a0.Steps a2.Step).K)]) ((rdl a0.Steps a2.Step).K) sl30 rfl rfl sz2 rfl rfl g36_11.1 g36_11.2 (Nat.zero_le _) ⟨Nat.le_of_ble_eq_true rfl, rfl⟩ rfl) (drawE_other _ _ _ _ rfl) rfl, oP (fun _ => faP fa33_2 rfl) rfl, fun S hS hD hn => .one0 0 rfl rfl (stB (cs0 := [i6 ((rdl a0.Steps a2.Step).To), .own 5 t2_4.length, u6 a1.Marks, .rows (t2_9.map (cInt .i64))]) (cs := [u6 t36_10]) (cs1 := [i6 ((rdl a0.Steps a2.Step).To), .own 5 t2_4.length, u6 t36_10, .rows (t2_9.map (cInt .i64))]) rfl rfl sz31 rfl ⟨Nat.le_of_ble_eq_true rfl, rfl⟩ rfl) (drawE_other _ _ _ _ rfl) rfl, trivial⟩) _ (by exact ⟨.ptr rfl, .ptr rfl, trivial⟩) (by rfl)
            refine .exit rfl <| .seq <| .reg0 rfl (.op 0 rfl (ldG rfl sz33 ag33 rfl) <| .op 0 rfl (stB (cs0 := GE_c0) (cs := [i6 ((rdl a0.Steps a2.Step).To), .own 5 t2_4.length, u6 t36_10, .rows (t2_9.map (cInt .i64))]) (cs1 := [i6 ((rdl a0.Steps a2.Step).To), .own 5 t2_4.length, u6 t36_10, .rows (t2_9.map (cInt .i64))]) rfl rfl sz33 rfl ⟨Nat.le_of_ble_eq_true rfl, rfl⟩ rfl) <| .op 0 rfl (asV rfl) <| .nil0) ?_
            replace h := h.symm
            subst h
            refine .k [(6, .cptr [i6 ((rdl a0.Steps a2.Step).To), .rows ((setl t2_4 ((rdl a0.Steps a2.Step).X) ((rdl a0.Steps a2.Step).K)).map (cInt .i64)), u6 t36_10, .rows (t2_9.map (cInt .i64))] 0), (7, i6 0)] ⟨cFixP rfl rfl (.cons (.free rfl rfl) <| .cons (cFixO (l := (setl t2_4 ((rdl a0.Steps a2.Step).X) ((rdl a0.Steps a2.Step).K))) sl30 rfl rfl (by simp only [setl, List.length_set]) rfl) <| .cons (.free rfl rfl) <| .cons (.free rfl rfl) <| .nil), .free rfl rfl, trivial⟩ ?_
            exact .ret rfl
          · rw [if_neg c16] at h
            refine .condF rfl (bn c16) <| .skip <| .seq <| .seq <| .reg0 rfl (.op 0 rfl (eqI rfl rfl) <| .op 0 rfl (asV rfl) <| .nil0) ?_
            by_cases c17 : (rdl a0.Steps a2.Step).Kind = 4
            · rw [if_pos c17] at h
              refine .condT rfl (bt c17) <| .exit rfl <| .seq ?_
              obtain ⟨t39_10, g39_10, h⟩ := h
              obtain ⟨g39_11, h⟩ := h
              refine .reg1 (e1 := listEnv [(6, .ptr 3 1 4 0 0), (8, .ptr 4 1 4 0 0)]) (H1 := [⟨10, [(TGraph.lit a0)], 0, none⟩, ⟨4, [(TState.lit a1)], 0, none⟩, ⟨2, [(TMove.lit a2)], 0, none⟩, ⟨4, [GE_c0], 0, none⟩, ⟨4, [[i6 ((rdl a0.Steps a2.Step).To), .own 5 t2_4.length, u6 t39_10, .rows (t2_9.map (cInt .i64))]], 0, none⟩, ⟨1, (setl t2_4 ((rdl a0.Steps a2.Step).X) a2.Draw).map (cInt .i64), 0, none⟩, ⟨7, [(TStep.lit (rdl a0.Steps a2.Step))], 0, none⟩]) rfl ?_ ?_
              · exact .drawM [(13, 125, .ptr 4 1 4 0 2), (11, 124, .ptr 5 t2_4.length 1 (Int.toNat ((rdl a0.Steps a2.Step).X)) 0), (10, 123, u6 t39_10), (9, 122, i6 ((rdl a0.Steps a2.Step).X)), (8, 121, .ptr 6 1 7 0 3), (7, 120, u6 a1.Marks), (6, 119, .ptr 4 1 4 0 2), (5, 118, i6 a2.Draw), (4, 117, .ptr 2 1 2 0 1), (3, 116, i6 ((rdl a0.Steps a2.Step).X)), (2, 115, .ptr 6 1 7 0 3), (1, 114, .own 5 t2_4.length), (0, 113, .ptr 4 1 4 0 1)] [(14, 4, ⟨4, [[i6 ((rdl a0.Steps a2.Step).To), .own 5 t2_4.length, u6 t39_10, .rows (t2_9.map (cInt .i64))]], 0, none⟩), (12, 5, ⟨1, (setl t2_4 ((rdl a0.Steps a2.Step).X) a2.Draw).map (cInt .i64), 0, none⟩)] GE_A0 (by rfl) (by rfl) (by rfl) (by exact ⟨oP (fun _ => faP fa33_1 rfl) rfl, oP (fun _ => ldP rfl sz30 ag30 rfl) rfl, oP (fun _ => faP fa47_3 rfl) rfl, oP (fun _ => ldP rfl sz3 ag3 rfl) rfl, oP (fun _ => faP fa44_1 rfl) rfl, oP (fun _ => ldP rfl sz2 ag2 rfl) rfl, oP (fun _ => faP fa33_2 rfl) rfl, oP (fun _ => ldP rfl sz31 ag31 rfl) rfl, oP (fun _ => faP fa47_3 rfl) rfl, oP (fun _ => ldP rfl sz3 ag3 rfl) rfl, fun S hS hD hn => .oneI hS hD hn rfl rfl (callee_of rfl go31 rfl) (.pure rfl rfl (frames_set.D g39_10)) rfl rfl rfl, oP (fun _ => ixO (l := t2_4) sl30 rfl rfl rfl rfl g39_11.1 g39_11.2) rfl, fun S hS hD hn => .one0 0 rfl rfl (stO (l := t2_4) (j := ((rdl a0.Steps a2.Step).X)) (cs := [i6 a2.Draw]) a2.Draw sl30 rfl rfl sz2 rfl rfl g39_11.1 g39_11.2 (Nat.zero_le _) ⟨Nat.le_of_ble_eq_true rfl, rfl⟩ rfl) (drawE_other _ _ _ _ rfl) rfl, oP (fun _ => faP fa33_2 rfl) rfl, fun S hS hD hn => .one0 0 rfl rfl (stB (cs0 := [i6 ((rdl a0.Steps a2.Step).To), .own 5 t2_4.length, u6 a1.Marks, .rows (t2_9.map (cInt .i64))]) (cs := [u6 t39_10]) (cs1 := [i6 ((rdl a0.Steps a2.Step).To), .own 5 t2_4.length, u6 t39_10, .rows (t2_9.map (cInt .i64))]) rfl rfl sz31 rfl ⟨Nat.le_of_ble_eq_true rfl, rfl⟩ rfl) (drawE_other _ _ _ _ rfl) rfl, trivial⟩) _ (by exact ⟨.ptr rfl, .ptr rfl, trivial⟩) (by rfl)
              refine .exit rfl <| .seq <| .reg0 rfl (.op 0 rfl (ldG rfl sz33 ag33 rfl) <| .op 0 rfl (stB (cs0 := GE_c0) (cs := [i6 ((rdl a0.Steps a2.Step).To), .own 5 t2_4.length, u6 t39_10, .rows (t2_9.map (cInt .i64))]) (cs1 := [i6 ((rdl a0.Steps a2.Step).To), .own 5 t2_4.length, u6 t39_10, .rows (t2_9.map (cInt .i64))]) rfl rfl sz33 rfl ⟨Nat.le_of_ble_eq_true rfl, rfl⟩ rfl) <| .op 0 rfl (asV rfl) <| .nil0) ?_
              replace h := h.symm
              subst h
              refine .k [(6, .cptr [i6 ((rdl a0.Steps a2.Step).To), .rows ((setl t2_4 ((rdl a0.Steps a2.Step).X) a2.Draw).map (cInt .i64)), u6 t39_10, .rows (t2_9.map (cInt .i64))] 0), (7, i6 0)] ⟨cFixP rfl rfl (.cons (.free rfl rfl) <| .cons (cFixO (l := (setl t2_4 ((rdl a0.Steps a2.Step).X) a2.Draw)) sl30 rfl rfl (by simp only [setl, List.length_set]) rfl) <| .cons (.free rfl rfl) <| .cons (.free rfl rfl) <| .nil), .free rfl rfl, trivial⟩ ?_
              exact .ret rfl
            · rw [if_neg c17] at h
              refine .condF rfl (bn c17) <| .skip <| .seq <| .seq <| .reg0 rfl (.op 0 rfl (eqI rfl rfl) <| .op 0 rfl (asV rfl) <| .nil0) ?_
              by_cases c18 : (rdl a0.Steps a2.Step).Kind = 3
              · rw [if_pos c18] at h
                refine .condT rfl (bt c18) <| .exit rfl <| .seq ?_
                obtain ⟨g42_8, h⟩ := h
                obtain ⟨g42_18, h⟩ := h
                obtain ⟨t42_21, g42_21, h⟩ := h
                obtain ⟨g42_22, h⟩ := h
                refine .reg1 (e1 := listEnv [(6, .ptr 3 1 4 0 0), (8, .ptr 4 1 4 0 0)]) (H1 := [⟨10, [(TGraph.lit a0)], 0, none⟩, ⟨4, [(TState.lit a1)], 0, none⟩, ⟨2, [(TMove.lit a2)], 0, none⟩, ⟨4, [GE_c0], 0, none⟩, ⟨4, [[i6 ((rdl a0.Steps a2.Step).To), .own 5 t2_4.length, u6 t42_21, .rows (t2_9.map (cInt .i64))]], 0, none⟩, ⟨1, (setl t2_4 ((rdl a0.Steps a2.Step).X) (rdl a1.Env ((rdl a0.Steps a2.Step).Y))).map (cInt .i64), 0, none⟩, ⟨7, [(TStep.lit (rdl a0.Steps a2.Step))], 0, none⟩]) rfl ?_ ?_
                · exact .drawM [(24, 149, .ptr 4 1 4 0 2), (22, 148, .ptr 5 t2_4.length 1 (Int.toNat ((rdl a0.Steps a2.Step).X)) 0), (21, 147, u6 t42_21), (20, 146, bo ((bitOp .and .u64 (shrI .u64 a1.Marks ((rdl a0.Steps a2.Step).Y)) 1) == 1)), (19, 145, u6 (bitOp .and .u64 (shrI .u64 a1.Marks ((rdl a0.Steps a2.Step).Y)) 1)), (18, 144, u6 (shrI .u64 a1.Marks ((rdl a0.Steps a2.Step).Y))), (17, 143, i6 ((rdl a0.Steps a2.Step).Y)), (16, 142, .ptr 6 1 7 0 4), (15, 141, u6 a1.Marks), (14, 140, .ptr 1 1 4 0 2), (13, 139, i6 ((rdl a0.Steps a2.Step).X)), (12, 138, .ptr 6 1 7 0 3), (11, 137, u6 a1.Marks), (10, 136, .ptr 4 1 4 0 2), (9, 135, i6 (rdl a1.Env ((rdl a0.Steps a2.Step).Y))), (8, 134, .cptr ((cInt .i64) (rdl a1.Env ((rdl a0.Steps a2.Step).Y))) 0), (7, 133, i6 ((rdl a0.Steps a2.Step).Y)), (6, 132, .ptr 6 1 7 0 4), (5, 131, .rows (a1.Env.map (cInt .i64))), (4, 130, .ptr 1 1 4 0 1), (3, 129, i6 ((rdl a0.Steps a2.Step).X)), (2, 128, .ptr 6 1 7 0 3), (1, 127, .own 5 t2_4.length), (0, 126, .ptr 4 1 4 0 1)] [(25, 4, ⟨4, [[i6 ((rdl a0.Steps a2.Step).To), .own 5 t2_4.length, u6 t42_21, .rows (t2_9.map (cInt .i64))]], 0, none⟩), (23, 5, ⟨1, (setl t2_4 ((rdl a0.Steps a2.Step).X) (rdl a1.Env ((rdl a0.Steps a2.Step).Y))).map (cInt .i64), 0, none⟩)] [[], [0], [], [2], [], [4], [], [6], [5, 4, 7, 6], [8, 5, 4, 7, 6], [], [10], [], [12], [], [14], [], [16], [15, 14, 17, 16], [18, 15, 14, 17, 16], [19, 18, 15, 14, 17, 16], [11, 10, 13, 12, 20, 19, 18, 15, 14, 17, 16], [1, 0, 3, 2, 4, 5, 6, 7, 8, 9, 21, 11, 10, 13, 12, 20, 19, 18, 15, 14, 17, 16], [22, 1, 0, 3, 2, 4, 5, 6, 7, 8, 9, 21, 11, 10, 13, 12, 20, 19, 18, 15, 14, 17, 16], [0, 1, 2, 3, 4, 5, 6, 7, 8, 9, 10, 11, 12, 13, 14, 15, 16, 17, 18, 19, 20, 21, 22, 23], [24, 0, 1, 2, 3, 4, 5, 6, 7, 8, 9, 10, 11, 12, 13, 14, 15, 16, 17, 18, 19, 20, 21, 22, 23]] (by rfl) (by rfl) (by rfl) (by exact ⟨oP (fun _ => faP fa33_1 rfl) rfl, oP (fun _ => ldP rfl sz30 ag30 rfl) rfl, oP (fun _ => faP fa47_3 rfl) rfl, oP (fun _ => ldP rfl sz3 ag3 rfl) rfl, oP (fun _ => faP fa33_1 rfl) rfl, oP (fun _ => ldP rfl sz30 ag30 rfl) rfl, oP (fun _ => faP fa47_4 rfl) rfl, oP (fun _ => ldP rfl sz3 ag3 rfl) rfl, oP (fun _ => ixR (l := a1.Env) (lit := (cInt .i64)) sl30 rfl rfl (fun _ => rfl) g42_8.1 g42_8.2) rfl, oP (fun _ => ldC rfl sz2 ag2 rfl) rfl, oP (fun _ => faP fa33_2 rfl) rfl, oP (fun _ => ldP rfl sz31 ag31 rfl) rfl, oP (fun _ => faP fa47_3 rfl) rfl, oP (fun _ => ldP rfl sz3 ag3 rfl) rfl, oP (fun _ => faP fa33_2 rfl) rfl, oP (fun _ => ldP rfl sz31 ag31 rfl) rfl, oP (fun _ => faP fa47_4 rfl) rfl, oP (fun _ => ldP rfl sz3 ag3 rfl) rfl, oP (fun _ => shr_ rfl rfl g42_18) rfl, oP (fun _ => andI rfl rfl) rfl, oP (fun _ => eqI rfl rfl) rfl, fun S hS hD hn => .oneI hS hD hn rfl rfl (callee_of rfl go31 rfl) (.pure rfl rfl (frames_set.D g42_21)) rfl rfl rfl, oP (fun _ => ixO (l := t2_4) sl30 rfl rfl rfl rfl g42_22.1 g42_22.2) rfl, fun S hS hD hn => .one0 0 rfl rfl (stO (l := t2_4) (j := ((rdl a0.Steps a2.Step).X)) (cs := [i6 (rdl a1.Env ((rdl a0.Steps a2.Step).Y))]) (rdl a1.Env ((rdl a0.Steps a2.Step).Y)) sl30 rfl rfl sz2 rfl rfl g42_22.1 g42_22.2 (Nat.zero_le _) ⟨Nat.le_of_ble_eq_true rfl, rfl⟩ rfl) (drawE_other _ _ _ _ rfl) rfl, oP (fun _ => faP fa33_2 rfl) rfl, fun S hS hD hn => .one0 0 rfl rfl (stB (cs0 := [i6 ((rdl a0.Steps a2.Step).To), .own 5 t2_4.length, u6 a1.Marks, .rows (t2_9.map (cInt .i64))]) (cs := [u6 t42_21]) (cs1 := [i6 ((rdl a0.Steps a2.Step).To), .own 5 t2_4.length, u6 t42_21, .rows (t2_9.map (cInt .i64))]) rfl rfl sz31 rfl ⟨Nat.le_of_ble_eq_true rfl, rfl⟩ rfl) (drawE_other _ _ _ _ rfl) rfl, trivial⟩) _ (by exact ⟨.ptr rfl, .ptr rfl, trivial⟩) (by rfl)
                refine .exit rfl <| .seq <| .reg0 rfl (.op 0 rfl (ldG rfl sz33 ag33 rfl) <| .op 0 rfl (stB (cs0 := GE_c0) (cs := [i6 ((rdl a0.Steps a2.Step).To), .own 5 t2_4.length, u6 t42_21, .rows (t2_9.map (cInt .i64))]) (cs1 := [i6 ((rdl a0.Steps a2.Step).To), .own 5 t2_4.length, u6 t42_21, .rows (t2_9.map (cInt .i64))]) rfl rfl sz33 rfl ⟨Nat.le_of_ble_eq_true rfl, rfl⟩ rfl) <| .op 0 rfl (asV rfl) <| .nil0) ?_
                replace h := h.symm
                subst h
                refine .k [(6, .cptr [i6 ((rdl a0.Steps a2.Step).To), .rows ((setl t2_4 ((rdl a0.Steps a2.Step).X) (rdl a1.Env ((rdl a0.Steps a2.Step).Y))).map (cInt .i64)), u6 t42_21, .rows (t2_9.map (cInt .i64))] 0), (7, i6 0)] ⟨cFixP rfl rfl (.cons (.free rfl rfl) <| .cons (cFixO (l := (setl t2_4 ((rdl a0.Steps a2.Step).X) (rdl a1.Env ((rdl a0.Steps a2.Step).Y)))) sl30 rfl rfl (by simp only [setl, List.length_set]) rfl) <| .cons (.free rfl rfl) <| .cons (.free rfl rfl) <| .nil), .free rfl rfl, trivial⟩ ?_
                exact .ret rfl
              · rw [if_neg c18] at h
                refine .condF rfl (bn c18) <| .skip <| .seq <| .seq <| .reg0 rfl (.op 0 rfl (eqI rfl rfl) <| .op 0 rfl (asV rfl) <| .nil0) ?_
                by_cases c19 : (rdl a0.Steps a2.Step).Kind = 5
                · rw [if_pos c19] at h
                  refine .condT rfl (bt c19) <| .exit rfl <| .inBlock <| .keepL [3, 4, 5, 6] [(6, .ptr 0 1 4 0 0), (8, .ptr 1 1 4 0 0), (9, .ptr 3 1 7 0 0)] [⟨4, [GE_c0], 0, none⟩, ⟨4, [[i6 ((rdl a0.Steps a2.Step).To), .own 2 t2_4.length, u6 a1.Marks, .rows (t2_9.map (cInt .i64))]], 0, none⟩, ⟨1, t2_4.map (cInt .i64), 0, none⟩, ⟨7, [(TStep.lit (rdl a0.Steps a2.Step))], 0, none⟩] (by decide) (by decide) ⟨.ptr rfl, .ptr rfl, .ptr rfl, trivial⟩ ⟨⟨_, rfl, bcBox (all2_free rfl)⟩, ⟨_, rfl, bcBox (.cons (.free rfl rfl) <| .cons (.own rfl) <| .cons (.free rfl rfl) <| .cons (.free rfl rfl) <| .nil)⟩, ⟨_, rfl, bcRow (l := t2_4) sl30 (Nat.le_refl _) rfl⟩, ⟨_, rfl, bcBox (all2_free rfl)⟩, trivial⟩ ?_
                  exact hJ1 _ h
                · rw [if_neg c19] at h
                  refine .condF rfl (bn c19) <| .skip <| .seq <| .seq <| .reg0 rfl (.op 0 rfl (eqI rfl rfl) <| .op 0 rfl (asV rfl) <| .nil0) ?_
                  by_cases c20 : (rdl a0.Steps a2.Step).Kind = 6
                  · rw [if_pos c20] at h
                    refine .condT rfl (bt c20) <| .exit rfl <| .keepL [3, 4, 5, 6] [(6, .ptr 0 1 4 0 0), (8, .ptr 1 1 4 0 0), (9, .ptr 3 1 7 0 0)] [⟨4, [GE_c0], 0, none⟩, ⟨4, [[i6 ((rdl a0.Steps a2.Step).To), .own 2 t2_4.length, u6 a1.Marks, .rows (t2_9.map (cInt .i64))]], 0, none⟩, ⟨1, t2_4.map (cInt .i64), 0, none⟩, ⟨7, [(TStep.lit (rdl a0.Steps a2.Step))], 0, none⟩] (by decide) (by decide) ⟨.ptr rfl, .ptr rfl, .ptr rfl, trivial⟩ ⟨⟨_, rfl, bcBox (all2_free rfl)⟩, ⟨_, rfl, bcBox (.cons (.free rfl rfl) <| .cons (.own rfl) <| .cons (.free rfl rfl) <| .cons (.free rfl rfl) <| .nil)⟩, ⟨_, rfl, bcRow (l := t2_4) sl30 (Nat.le_refl _) rfl⟩, ⟨_, rfl, bcBox (all2_free rfl)⟩, trivial⟩ ?_
                    exact hJ1 _ h
                  · rw [if_neg c20] at h
                    refine .condF rfl (bn c20) <| .skip <| .seq <| .reg0 rfl (.op 0 rfl (eqI rfl rfl) <| .op 0 rfl (asV rfl) <| .nil0) ?_
                    by_cases c21 : (rdl a0.Steps a2.Step).Kind = 8
                    · rw [if_pos c21] at h
                      refine .condT rfl (bt c21) <| .exit rfl <| .seq <| .seq <| .seq <| .reg0 rfl (.op 0 rfl (faP fa33_3 rfl) <| .op 0 rfl (ldP rfl sz23 ag23 rfl) <| .op 0 rfl (lnR (l := a1.Stack) sl23 rfl) <| .op 0 rfl (geI rfl rfl) <| .nil0) ?_
                      by_cases c22 : (a1.Stack.length : Int) ≥ 4096
                      · rw [if_pos c22] at h
                        refine .condT rfl (dt c22) <| .seq <| .reg0 rfl (.op 0 rfl (bldS (cs := GE_c0) ze33 pl33 rfl rfl) <| .op 0 rfl (stB (cs0 := GE_c0) (cs := GE_c0) (cs1 := GE_c0) rfl rfl sz33 rfl ⟨Nat.le_of_ble_eq_true rfl, rfl⟩ rfl) <| .op 0 rfl (asV rfl) <| .nil0) ?_
                        replace h := h.symm
                        subst h
                        refine .k [(6, .cptr GE_c1 0), (7, i6 2)] ⟨cFixP rfl rfl (.cons (.free rfl rfl) <| .cons (.nil) <| .cons (.free rfl rfl) <| .cons (.nil) <| .nil), .free rfl rfl, trivial⟩ ?_
                        exact .ret rfl
                      · rw [if_neg c22] at h
                        refine .condF rfl (df c22) <| .skip <| .seq ?_
                        obtain ⟨g49_6, h⟩ := h
                        obtain ⟨g49_9, h⟩ := h
                        refine .reg1 (e1 := listEnv [(6, .ptr 3 1 4 0 0), (8, .ptr 4 1 4 0 0), (9, .ptr 6 1 7 0 0)]) (H1 := [⟨10, [(TGraph.lit a0)], 0, none⟩, ⟨4, [(TState.lit a1)], 0, none⟩, ⟨2, [(TMove.lit a2)], 0, none⟩, ⟨4, [GE_c0], 0, none⟩, ⟨4, [[i6 (rdl a0.Entry ((rdl a0.Sites ((rdl a0.Steps a2.Step).Site)).Proc)), .own 5 t2_4.length, u6 a1.Marks, .rows (t2_9.map (cInt .i64))]], 0, none⟩, ⟨1, t2_4.map (cInt .i64), 0, none⟩, ⟨7, [(TStep.lit (rdl a0.Steps a2.Step))], 0, none⟩]) rfl ?_ ?_
                        · exact .drawM [(11, 175, .ptr 4 1 4 0 0), (10, 174, i6 (rdl a0.Entry ((rdl a0.Sites ((rdl a0.Steps a2.Step).Site)).Proc))), (9, 173, .cptr ((cInt .i64) (rdl a0.Entry ((rdl a0.Sites ((rdl a0.Steps a2.Step).Site)).Proc))) 0), (8, 172, i6 ((rdl a0.Sites ((rdl a0.Steps a2.Step).Site)).Proc)), (7, 171, .cptr (TSite.lit (rdl a0.Sites ((rdl a0.Steps a2.Step).Site))) 1), (6, 170, .cptr (TSite.lit (rdl a0.Sites ((rdl a0.Steps a2.Step).Site))) 0), (5, 169, i6 ((rdl a0.Steps a2.Step).Site)), (4, 168, .ptr 6 1 7 0 6), (3, 167, .rows (a0.Sites.map TSite.cells)), (2, 166, .ptr 0 1 10 0 7), (1, 165, .rows (a0.Entry.map (cInt .i64))), (0, 164, .ptr 0 1 10 0 2)] [(12, 4, ⟨4, [[i6 (rdl a0.Entry ((rdl a0.Sites ((rdl a0.Steps a2.Step).Site)).Proc)), .own 5 t2_4.length, u6 a1.Marks, .rows (t2_9.map (cInt .i64))]], 0, none⟩)] [[], [0], [], [2], [], [4], [3, 2, 5, 4], [6, 3, 2, 5, 4], [7, 6, 3, 2, 5, 4], [1, 0, 8, 7, 6, 3, 2, 5, 4], [9, 1, 0, 8, 7, 6, 3, 2, 5, 4], [0, 1, 2, 3, 4, 5, 6, 7, 8, 9, 10], [11, 0, 1, 2, 3, 4, 5, 6, 7, 8, 9, 10]] (by rfl) (by rfl) (by rfl) (by exact ⟨oP (fun _ => faP fa29_2 rfl) rfl, oP (fun _ => ldP rfl sz23 ag23 rfl) rfl, oP (fun _ => faP fa29_7 rfl) rfl, oP (fun _ => ldP rfl sz25 ag25 rfl) rfl, oP (fun _ => faP fa47_6 rfl) rfl, oP (fun _ => ldP rfl sz3 ag3 rfl) rfl, oP (fun _ => ixR (l := a0.Sites) (lit := TSite.lit) sl25 rfl rfl (fun _ => rfl) g49_6.1 g49_6.2) rfl, oP (fun _ => faC fa76_1 rfl) rfl, oP (fun _ => ldC rfl sz3 ag3 rfl) rfl, oP (fun _ => ixR (l := a0.Entry) (lit := (cInt .i64)) sl23 rfl rfl (fun _ => rfl) g49_9.1 g49_9.2) rfl, oP (fun _ => ldC rfl sz3 ag3 rfl) rfl, oP (fun _ => faP fa33_0 rfl) rfl, fun S hS hD hn => .one0 0 rfl rfl (stB (cs0 := [i6 ((rdl a0.Steps a2.Step).To), .own 5 t2_4.length, u6 a1.Marks, .rows (t2_9.map (cInt .i64))]) (cs := [i6 (rdl a0.Entry ((rdl a0.Sites ((rdl a0.Steps a2.Step).Site)).Proc))]) (cs1 := [i6 (rdl a0.Entry ((rdl a0.Sites ((rdl a0.Steps a2.Step).Site)).Proc)), .own 5 t2_4.length, u6 a1.Marks, .rows (t2_9.map (cInt .i64))]) rfl rfl sz3 rfl ⟨Nat.le_of_ble_eq_true rfl, rfl⟩ rfl) (drawE_other _ _ _ _ rfl) rfl, trivial⟩) _ (by exact ⟨.ptr rfl, .ptr rfl, .ptr rfl, trivial⟩) (by rfl)
                        obtain ⟨g50_5, h⟩ := h
                        refine .room 0 <| .room 0 <| .reg0 rfl (.op 0 rfl (faP fa47_6 rfl) <| .op 0 rfl (ldP rfl sz3 ag3 rfl) <| .op 7 rfl (bldL (s := 1) (cs := [i6 ((rdl a0.Steps a2.Step).Site)]) un23 sz3 ze3 ⟨by decide, rfl, by decide⟩ rfl rfl rfl rfl) <| .op 0 rfl (faP fa33_3 rfl) <| .op 0 rfl (ldP rfl sz23 ag23 rfl) <| .op 0 rfl (apL (l := [(rdl a0.Steps a2.Step).Site]) t2_9 sl23 rfl rfl rfl (Nat.zero_le _) rfl g50_5) <| .op 0 rfl (faP fa33_3 rfl) <| .op 0 rfl (stB (cs0 := [i6 (rdl a0.Entry ((rdl a0.Sites ((rdl a0.Steps a2.Step).Site)).Proc)), .own 5 t2_4.length, u6 a1.Marks, .rows (t2_9.map (cInt .i64))]) (cs := [.own 7 (([(rdl a0.Steps a2.Step).Site] ++ t2_9).length)]) (cs1 := [i6 (rdl a0.Entry ((rdl a0.Sites ((rdl a0.Steps a2.Step).Site)).Proc)), .own 5 t2_4.length, u6 a1.Marks, .own 7 (([(rdl a0.Steps a2.Step).Site] ++ t2_9).length)]) rfl rfl sz23 rfl ⟨Nat.le_of_ble_eq_true rfl, rfl⟩ rfl) <| .nil0) ?_
                        refine .exit rfl <| .seq <| .reg0 rfl (.op 0 rfl (ldG rfl sz33 ag33 rfl) <| .op 0 rfl (stB (cs0 := GE_c0) (cs := [i6 (rdl a0.Entry ((rdl a0.Sites ((rdl a0.Steps a2.Step).Site)).Proc)), .own 5 t2_4.length, u6 a1.Marks, .own 7 (([(rdl a0.Steps a2.Step).Site] ++ t2_9).length)]) (cs1 := [i6 (rdl a0.Entry ((rdl a0.Sites ((rdl a0.Steps a2.Step).Site)).Proc)), .own 5 t2_4.length, u6 a1.Marks, .own 7 (([(rdl a0.Steps a2.Step).Site] ++ t2_9).length)]) rfl rfl sz33 rfl ⟨Nat.le_of_ble_eq_true rfl, rfl⟩ rfl) <| .op 0 rfl (asV rfl) <| .nil0) ?_
                        replace h := h.symm
                        subst h
                        refine .k [(6, .cptr [i6 (rdl a0.Entry ((rdl a0.Sites ((rdl a0.Steps a2.Step).Site)).Proc)), .rows (t2_4.map (cInt .i64)), u6 a1.Marks, .rows (([(rdl a0.Steps a2.Step).Site] ++ t2_9).map (cInt .i64))] 0), (7, i6 0)] ⟨cFixP rfl rfl (.cons (.free rfl rfl) <| .cons (cFixO (l := t2_4) sl30 rfl rfl rfl rfl) <| .cons (.free rfl rfl) <| .cons (cFixO (l := ([(rdl a0.Steps a2.Step).Site] ++ t2_9)) sl23 rfl rfl rfl rfl) <| .nil), .free rfl rfl, trivial⟩ ?_
                        exact .ret rfl
                    · rw [if_neg c21] at h
                      refine .condF rfl (bn c21) <| .skip <| .exit rfl <| .seq <| .reg0 rfl (.op 0 rfl (ldG rfl sz33 ag33 rfl) <| .op 0 rfl (stB (cs0 := GE_c0) (cs := [i6 ((rdl a0.Steps a2.Step).To), .own 5 t2_4.length, u6 a1.Marks, .rows (t2_9.map (cInt .i64))]) (cs1 := [i6 ((rdl a0.Steps a2.Step).To), .own 5 t2_4.length, u6 a1.Marks, .rows (t2_9.map (cInt .i64))]) rfl rfl sz33 rfl ⟨Nat.le_of_ble_eq_true rfl, rfl⟩ rfl) <| .op 0 rfl (asV rfl) <| .nil0) ?_
                      replace h := h.symm
                      subst h
                      refine .k [(6, .cptr [i6 ((rdl a0.Steps a2.Step).To), .rows (t2_4.map (cInt .i64)), u6 a1.Marks, .rows (t2_9.map (cInt .i64))] 0), (7, i6 0)] ⟨cFixP rfl rfl (.cons (.free rfl rfl) <| .cons (cFixO (l := t2_4) sl30 rfl rfl rfl rfl) <| .cons (.free rfl rfl) <| .cons (.free rfl rfl) <| .nil), .free rfl rfl, trivial⟩ ?_
                      exact .ret rfl
def frames_Run.b1 (a0 : TGraph) (a2 : List TMove) : (Int × (List Int) × Int × (List Int) × Int) → Rnd ((Int × (List Int) × Int × (List Int) × Int)) ((Int × (List Int) × Int × (List Int))) (TState × Int × Int) → Prop := fun (x1, x2, x3, x4, x5) z1 => if x5 < (a2.length : Int) then (((InR x5 a2.length)) ∧ ∃ t22_3 : TState × Int, (frames_do.f a0 (TState.mk x1 x2 x3 x4) (rdl a2 x5) t22_3) ∧ if t22_3.2 = 0 then (z1 = .next (t22_3.1.Node, t22_3.1.Env, t22_3.1.Marks, t22_3.1.Stack, (IntKind.i64.wrap (x5 + 1)))) else (z1 = .ret ((TState.mk 0 [] 0 []), x5, t22_3.2))) else (z1 = .exit (x1, x2, x3, x4))
def frames_Run.f (a0 : TGraph) (a1 : TState) (a2 : List TMove) (r : TState × Int × Int) : Prop :=
  ∃ t2_2 : Int, (frames_Check.f a0 a1 t2_2) ∧ if t2_2 = 0 then (∃ t4_4 : (List Int), (slices_Clone_int64.f a1.Env t4_4) ∧ ∃ t4_9 : (List Int), (slices_Clone_int.f a1.Stack t4_9) ∧ ∃ o1 : Fin ((Int × (List Int) × Int × (List Int))) (TState × Int × Int), Loop (frames_Run.b1 a0 a2) (a1.Node, t4_4, a1.Marks, t4_9, 0) o1 ∧ o1.on (fun (x6, x7, x8, x9) => r = ((TState.mk x6 x7 x8 x9), 0, 0)) (fun r_ => r = r_)) else (r = ((TState.mk 0 [] 0 []), 0, t2_2))
theorem frames_Run.D {a0 a1 a2 r} (h : frames_Run.f a0 a1 a2 r) : D Tryd.prog X (.callH 10 [.agg (TGraph.lit a0), .agg (TState.lit a1), .rows (a2.map TMove.cells)] [] (.tuple [.agg (TState.lit r.1), .val (.int .i64 r.2.1), .val (.int .i64 r.2.2)]) []) := by
  unfold frames_Run.f at h
  refine .enter 54 0 fn10 rfl rfl rfl <| .seq <| .room 0 <| .room 0 <| .room 0 <| .reg0 rfl (.op 0 rfl (bxP (s := 10) (cs := (TGraph.lit a0)) rfl ⟨rfl, by decide, rfl⟩ rfl) <| .op 1 rfl (bxP (s := 4) (cs := (TState.lit a1)) rfl ⟨rfl, by decide, rfl⟩ rfl) <| .op 2 rfl (alP (s := 4) ze33 ⟨rfl, by decide, rfl⟩ rfl) <| .op 0 rfl (asV rfl) <| .op 0 rfl (asV rfl) <| .nil0) <| .seq <| .seq ?_
  obtain ⟨t2_2, g2_2, h⟩ := h
  refine .reg0 rfl (.o (ldG rfl sz29 ag29 rfl) <| .o (ldG rfl sz33 ag33 rfl) <| .c rfl go20 rfl rfl rfl (frames_Check.D g2_2) <| .a rfl <| .nil0) <| .seq <| .reg0 rfl (.op 0 rfl (mvV rfl) <| .op 0 rfl (neI rfl rfl) <| .nil0) ?_
  by_cases c1 : t2_2 = 0
  · rw [if_pos c1] at h
    refine .condF rfl (nf c1) <| .skip <| .seq ?_
    obtain ⟨t4_4, g4_4, h⟩ := h
    obtain ⟨t4_9, g4_9, h⟩ := h
    refine .reg1 (e1 := listEnv [(2, .rows (a2.map TMove.cells)), (3, .ptr 0 1 10 0 0), (4, .ptr 1 1 4 0 0), (6, .ptr 2 1 4 0 0)]) (H1 := [⟨10, [(TGraph.lit a0)], 0, none⟩, ⟨4, [[i6 a1.Node, .rows (t4_4.map (cInt .i64)), u6 a1.Marks, .rows (t4_9.map (cInt .i64))]], 0, none⟩, ⟨4, [GE_c0], 0, none⟩]) rfl ?_ ?_
    · exact .drawM [(10, 31, .agg [i6 a1.Node, .rows (t4_4.map (cInt .i64)), u6 a1.Marks, .rows (t4_9.map (cInt .i64))]), (9, 30, .rows (t4_9.map (cInt .i64))), (8, 29, .rows (a1.Stack.map (cInt .i64))), (7, 28, .ptr 1 1 4 0 3), (6, 27, u6 a1.Marks), (5, 26, .ptr 1 1 4 0 2), (4, 25, .rows (t4_4.map (cInt .i64))), (3, 24, .rows (a1.Env.map (cInt .i64))), (2, 23, .ptr 1 1 4 0 1), (1, 22, i6 a1.Node), (0, 21, .ptr 1 1 4 0 0)] [(11, 1, ⟨4, [[i6 a1.Node, .rows (t4_4.map (cInt .i64)), u6 a1.Marks, .rows (t4_9.map (cInt .i64))]], 0, none⟩)] [[], [0], [], [2], [3, 2], [], [5], [], [7], [8, 7, 4, 3, 2], [1, 0, 4, 3, 2, 6, 5, 9, 8, 7], [10, 1, 0, 4, 3, 2, 6, 5, 9, 8, 7]] (by rfl) (by rfl) (by rfl) (by exact ⟨oP (fun _ => faP fa33_0 rfl) rfl, oP (fun _ => ldP rfl sz3 ag3 rfl) rfl, oP (fun _ => faP fa33_1 rfl) rfl, oP (fun _ => ldP rfl sz30 ag30 rfl) rfl, fun S hS hD hn => .oneI hS hD hn rfl rfl (callee_of rfl go21 rfl) (.pure rfl rfl (slices_Clone_int64.D g4_4)) rfl rfl rfl, oP (fun _ => faP fa33_2 rfl) rfl, oP (fun _ => ldP rfl sz31 ag31 rfl) rfl, oP (fun _ => faP fa33_3 rfl) rfl, oP (fun _ => ldP rfl sz23 ag23 rfl) rfl, fun S hS hD hn => .oneI hS hD hn rfl rfl (callee_of rfl go22 rfl) (.pure rfl rfl (slices_Clone_int.D g4_9)) rfl rfl rfl, oP (fun _ => bldS (cs := [i6 a1.Node, .rows (t4_4.map (cInt .i64)), u6 a1.Marks, .rows (t4_9.map (cInt .i64))]) ze33 pl33 rfl rfl) rfl, fun S hS hD hn => .one0 0 rfl rfl (stB (cs0 := (TState.lit a1)) (cs := [i6 a1.Node, .rows (t4_4.map (cInt .i64)), u6 a1.Marks, .rows (t4_9.map (cInt .i64))]) (cs1 := [i6 a1.Node, .rows (t4_4.map (cInt .i64)), u6 a1.Marks, .rows (t4_9.map (cInt .i64))]) rfl rfl sz33 rfl ⟨Nat.le_of_ble_eq_true rfl, rfl⟩ rfl) (drawE_other _ _ _ _ rfl) rfl, trivial⟩) _ (by exact ⟨.free rfl rfl, .ptr rfl, .ptr rfl, .ptr rfl, trivial⟩) (by rfl)
    refine .seq <| .seq <| .reg0 rfl (.op 0 rfl (mvR rfl) <| .op 0 rfl (lnR (l := a2) sl34 rfl) <| .op 0 rfl (mvV rfl) <| .nil0) <| .block <| .keepL [0, 1, 2] [(3, .ptr 0 1 10 0 0), (4, .ptr 1 1 4 0 0), (6, .ptr 2 1 4 0 0), (32, .rows (a2.map TMove.cells)), (33, i6 (a2.length : Int)), (34, i6 0)] [⟨10, [(TGraph.lit a0)], 0, none⟩, ⟨4, [[i6 a1.Node, .rows (t4_4.map (cInt .i64)), u6 a1.Marks, .rows (t4_9.map (cInt .i64))]], 0, none⟩, ⟨4, [GE_c0], 0, none⟩] (by decide) (by decide) ⟨.ptr rfl, .ptr rfl, .ptr rfl, .free rfl rfl, .free rfl rfl, .free rfl rfl, trivial⟩ ⟨⟨_, rfl, bcBox (all2_free rfl)⟩, ⟨_, rfl, bcBox (all2_free rfl)⟩, ⟨_, rfl, bcBox (all2_free rfl)⟩, trivial⟩ ?_
    obtain ⟨o1, hL1, h⟩ := h
    refine .loopB (frames_Run.b1 a0 a2) (fun (x1, x2, x3, x4, x5) => listEnv [(3, .ptr 0 1 10 0 0), (4, .ptr 1 1 4 0 0), (6, .ptr 2 1 4 0 0), (32, .rows (a2.map TMove.cells)), (33, i6 (a2.length : Int)), (34, i6 x5)]) (fun (x1, x2, x3, x4, x5) => [⟨10, [(TGraph.lit a0)], 0, none⟩, ⟨4, [[i6 x1, .rows (x2.map (cInt .i64)), u6 x3, .rows (x4.map (cInt .i64))]], 0, none⟩, ⟨4, [GE_c0], 0, none⟩]) (fun (x6, x7, x8, x9) => listEnv [(4, .ptr 0 1 4 0 0), (6, .ptr 1 1 4 0 0)]) (fun (x6, x7, x8, x9) => [⟨4, [[i6 x6, .rows (x7.map (cInt .i64)), u6 x8, .rows (x9.map (cInt .i64))]], 0, none⟩, ⟨4, [GE_c0], 0, none⟩]) hL1 (fun r_ => r = r_) ?_ ?_ ?_
    · rintro ⟨x6, x7, x8, x9⟩ rfl
      try dsimp only [Fin.on] at h
      refine .seq <| .reg0 rfl (.op 0 rfl (ldG rfl sz33 ag33 rfl) <| .op 0 rfl (stB (cs0 := GE_c0) (cs := [i6 x6, .rows (x7.map (cInt .i64)), u6 x8, .rows (x9.map (cInt .i64))]) (cs1 := [i6 x6, .rows (x7.map (cInt .i64)), u6 x8, .rows (x9.map (cInt .i64))]) rfl rfl sz33 rfl ⟨Nat.le_of_ble_eq_true rfl, rfl⟩ rfl) <| .op 0 rfl (asV rfl) <| .op 0 rfl (asV rfl) <| .nil0) ?_
      replace h := h.symm
      subst h
      refine .k [(6, .cptr [i6 x6, .rows (x7.map (cInt .i64)), u6 x8, .rows (x9.map (cInt .i64))] 0), (7, i6 0), (8, i6 0)] ⟨cFixP rfl rfl (.cons (.free rfl rfl) <| .cons (.free rfl rfl) <| .cons (.free rfl rfl) <| .cons (.free rfl rfl) <| .nil), .free rfl rfl, .free rfl rfl, trivial⟩ ?_
      exact .ret rfl
    · rintro r_ rfl
      exact h
    · rintro ⟨x1, x2, x3, x4, x5⟩ z1 h hn1 hx1 hr1
      dsimp only [frames_Run.b1] at h
      refine .seq <| .reg0 rfl (.op 0 rfl (ltI rfl rfl) <| .nil0) <| .seq ?_
      by_cases c6 : x5 < (a2.length : Int)
      · rw [if_pos c6] at h
        refine .condT rfl (dt c6) <| .skip <| .seq <| .block <| .seq ?_
        obtain ⟨g21_1, h⟩ := h
        refine .room 0 <| .reg0 rfl (.op 0 rfl (mvV rfl) <| .op 0 rfl (ixR (l := a2) (lit := TMove.lit) sl34 rfl rfl (fun _ => rfl) g21_1.1 g21_1.2) <| .op 0 rfl (ldCG rfl sz44 ag44 rfl) <| .op 3 rfl (alP (s := 2) ze44 ⟨rfl, by decide, rfl⟩ rfl) <| .op 0 rfl (asV rfl) <| .op 0 rfl (stB (cs0 := [i6 0, i6 0]) (cs := (TMove.lit (rdl a2 x5))) (cs1 := (TMove.lit (rdl a2 x5))) rfl rfl sz44 rfl ⟨Nat.le_of_ble_eq_true rfl, rfl⟩ rfl) <| .nil0) ?_
        refine .seq ?_
        obtain ⟨t22_3, g22_3, h⟩ := h
        refine .room 0 <| .reg0 rfl (.op 0 rfl (ldG rfl sz29 ag29 rfl) <| .op 0 rfl (ldG rfl sz33 ag33 rfl) <| .op 0 rfl (ldG rfl sz44 ag44 rfl) <| .callI rfl (callee_of rfl go23 rfl) (.pure rfl rfl (frames_do.D g22_3)) <| .op 0 rfl (mvT rfl) <| .op 0 rfl (exT rfl rfl) <| .op 0 rfl (exT rfl rfl) <| .op 4 rfl (alP (s := 4) ze33 ⟨rfl, by decide, rfl⟩ rfl) <| .op 0 rfl (stB (cs0 := GE_c0) (cs := (TState.lit t22_3.1)) (cs1 := (TState.lit t22_3.1)) rfl rfl sz33 rfl ⟨Nat.le_of_ble_eq_true rfl, rfl⟩ rfl) <| .op 0 rfl (asV rfl) <| .nil0) ?_
        refine .seq <| .seq <| .reg0 rfl (.op 0 rfl (mvV rfl) <| .op 0 rfl (neI rfl rfl) <| .nil0) ?_
        by_cases c7 : t22_3.2 = 0
        · rw [if_pos c7] at h
          refine .condF rfl (nf c7) <| .skip <| .reg0 rfl (.op 0 rfl (ldG rfl sz33 ag33 rfl) <| .op 0 rfl (stB (cs0 := [i6 x1, .rows (x2.map (cInt .i64)), u6 x3, .rows (x4.map (cInt .i64))]) (cs := (TState.lit t22_3.1)) (cs1 := (TState.lit t22_3.1)) rfl rfl sz33 rfl ⟨Nat.le_of_ble_eq_true rfl, rfl⟩ rfl) <| .nil0) <| .inBlock <| .reg0 rfl (.op 0 rfl (addI rfl rfl) <| .op 0 rfl (mvV rfl) <| .nil0) ?_
          refine .keepL [0, 1, 2] [(3, .ptr 0 1 10 0 0), (4, .ptr 1 1 4 0 0), (6, .ptr 2 1 4 0 0), (32, .rows (a2.map TMove.cells)), (33, i6 (a2.length : Int)), (34, i6 (IntKind.i64.wrap (x5 + 1)))] [⟨10, [(TGraph.lit a0)], 0, none⟩, ⟨4, [(TState.lit t22_3.1)], 0, none⟩, ⟨4, [GE_c0], 0, none⟩] (by decide) (by decide) ⟨.ptr rfl, .ptr rfl, .ptr rfl, .free rfl rfl, .free rfl rfl, .free rfl rfl, trivial⟩ ⟨⟨_, rfl, bcBox (all2_free rfl)⟩, ⟨_, rfl, bcBox (all2_free rfl)⟩, ⟨_, rfl, bcBox (all2_free rfl)⟩, trivial⟩ ?_
          exact hn1 _ h
        · rw [if_neg c7] at h
          refine .condT rfl (nt c7) <| .seq <| .reg0 rfl (.op 0 rfl (bldS (cs := GE_c0) ze33 pl33 rfl rfl) <| .op 0 rfl (mvV rfl) <| .op 0 rfl (mvV rfl) <| .op 0 rfl (stB (cs0 := GE_c0) (cs := GE_c0) (cs1 := GE_c0) rfl rfl sz33 rfl ⟨Nat.le_of_ble_eq_true rfl, rfl⟩ rfl) <| .op 0 rfl (asV rfl) <| .op 0 rfl (asV rfl) <| .nil0) ?_
          have q3 := hr1 _ h
          replace q3 := q3.symm
          subst q3
          refine .k [(6, .cptr GE_c1 0), (7, i6 x5), (8, i6 t22_3.2)] ⟨cFixP rfl rfl (.cons (.free rfl rfl) <| .cons (.nil) <| .cons (.free rfl rfl) <| .cons (.nil) <| .nil), .free rfl rfl, .free rfl rfl, trivial⟩ ?_
          exact .ret rfl
      · rw [if_neg c6] at h
        refine .condF rfl (df c6) <| .exit rfl <| .keepL [1, 2] [(4, .ptr 0 1 4 0 0), (6, .ptr 1 1 4 0 0)] [⟨4, [[i6 x1, .rows (x2.map (cInt .i64)), u6 x3, .rows (x4.map (cInt .i64))]], 0, none⟩, ⟨4, [GE_c0], 0, none⟩] (by decide) (by decide) ⟨.ptr rfl, .ptr rfl, trivial⟩ ⟨⟨_, rfl, bcBox (all2_free rfl)⟩, ⟨_, rfl, bcBox (all2_free rfl)⟩, trivial⟩ ?_
        exact hx1 _ h
  · rw [if_neg c1] at h
    refine .condT rfl (nt c1) <| .seq <| .reg0 rfl (.op 0 rfl (bldS (cs := GE_c0) ze33 pl33 rfl rfl) <| .op 0 rfl (mvV rfl) <| .op 0 rfl (stB (cs0 := GE_c0) (cs := GE_c0) (cs1 := GE_c0) rfl rfl sz33 rfl ⟨Nat.le_of_ble_eq_true rfl, rfl⟩ rfl) <| .op 0 rfl (asV rfl) <| .op 0 rfl (asV rfl) <| .nil0) ?_
    replace h := h.symm
    subst h
    refine .k [(6, .cptr GE_c1 0), (7, i6 0), (8, i6 t2_2)] ⟨cFixP rfl rfl (.cons (.free rfl rfl) <| .cons (.nil) <| .cons (.free rfl rfl) <| .cons (.nil) <| .nil), .free rfl rfl, .free rfl rfl, trivial⟩ ?_
    exact .ret rfl
def r22_Same.b1 (a0 : TState) (a1 : TState) : Int → Rnd Int Unit Bool → Prop := fun x1 z1 => if x1 < (a0.Env.length : Int) then (((InR x1 a0.Env.length)) ∧ ((InR x1 a1.Env.length)) ∧ if (rdl a0.Env x1) = (rdl a1.Env x1) then (z1 = .next (IntKind.i64.wrap (x1 + 1))) else (z1 = .ret false)) else (z1 = .exit ())
def r22_Same.b2 (a0 : TState) (a1 : TState) : Int → Rnd Int Unit Bool → Prop := fun x2 z2 => if x2 < (a0.Stack.length : Int) then (((InR x2 a0.Stack.length)) ∧ ((InR x2 a1.Stack.length)) ∧ if (rdl a0.Stack x2) = (rdl a1.Stack x2) then (z2 = .next (IntKind.i64.wrap (x2 + 1))) else (z2 = .ret false)) else (z2 = .exit ())
def r22_Same.f (a0 : TState) (a1 : TState) (r : Bool) : Prop :=
  if ((!(a0.Node == a1.Node)) || ((!(a0.Marks == a1.Marks)) || ((!((a0.Env.length : Int) == (a1.Env.length : Int))) || ((a0.Stack.length : Int) != (a1.Stack.length : Int))))) = true then (r = false) else (∃ o1 : Fin Unit Bool, Loop (r22_Same.b1 a0 a1) 0 o1 ∧ o1.on (fun _ => ∃ o2 : Fin Unit Bool, Loop (r22_Same.b2 a0 a1) 0 o2 ∧ o2.on (fun _ => r = true) (fun r_ => r = r_)) (fun r_ => r = r_))
def l22_numbers.b1 (a0 : List Int) (a1 : List Int) : Int → Rnd Int Unit Bool → Prop := fun x1 z1 => if x1 < (a0.length : Int) then (((InR x1 a0.length)) ∧ ((InR x1 a1.length)) ∧ if (rdl a0 x1) = (rdl a1 x1) then (z1 = .next (IntKind.i64.wrap (x1 + 1))) else (z1 = .ret false)) else (z1 = .exit ())
def l22_numbers.f (a0 : List Int) (a1 : List Int) (r : Bool) : Prop :=
  if (a0.length : Int) = (a1.length : Int) then (∃ o1 : Fin Unit Bool, Loop (l22_numbers.b1 a0 a1) 0 o1 ∧ o1.on (fun _ => r = true) (fun r_ => r = r_)) else (r = false)
theorem l22_numbers.D {a0 a1 r} (h : l22_numbers.f a0 a1 r) : D Tryd.prog X (.callH 12 [.rows (a0.map (cInt .i64)), .rows (a1.map (cInt .i64))] [] (.val (.bool r)) []) := by
  unfold l22_numbers.f at h
  refine .enter 26 0 fn12 rfl rfl rfl <| .seq <| .reg0 rfl (.op 0 rfl (asV rfl) <| .nil0) <| .seq <| .seq <| .reg0 rfl (.op 0 rfl (mvR rfl) <| .op 0 rfl (lnR (l := a0) sl23 rfl) <| .op 0 rfl (mvR rfl) <| .op 0 rfl (lnR (l := a1) sl23 rfl) <| .op 0 rfl (neI rfl rfl) <| .nil0) ?_
  by_cases c1 : (a0.length : Int) = (a1.length : Int)
  · rw [if_pos c1] at h
    refine .condF rfl (nf c1) <| .skip <| .seq <| .seq <| .reg0 rfl (.op 0 rfl (asV rfl) <| .nil0) <| .block <| .keepL [] [(0, .rows (a0.map (cInt .i64))), (1, .rows (a1.map (cInt .i64))), (5, i6 0)] [] (by decide) (by decide) ⟨.free rfl rfl, .free rfl rfl, .free rfl rfl, trivial⟩ trivial ?_
    obtain ⟨o1, hL1, h⟩ := h
    refine .loopB (l22_numbers.b1 a0 a1) (fun x1 => listEnv [(0, .rows (a0.map (cInt .i64))), (1, .rows (a1.map (cInt .i64))), (5, i6 x1)]) (fun x1 => []) (fun _ => listEnv []) (fun _ => []) hL1 (fun r_ => r = r_) ?_ ?_ ?_
    · rintro ⟨⟩ rfl
      try dsimp only [Fin.on] at h
      refine .seq <| .reg0 rfl (.op 0 rfl (asV rfl) <| .nil0) ?_
      replace h := h.symm
      subst h
      refine .kf [(4, bo true)] rfl rfl ?_
      exact .ret rfl
    · rintro r_ rfl
      exact h
    · rintro x1 z1 h hn1 hx1 hr1
      dsimp only [l22_numbers.b1] at h
      refine .seq <| .seq <| .reg0 rfl (.op 0 rfl (mvV rfl) <| .op 0 rfl (mvR rfl) <| .op 0 rfl (lnR (l := a0) sl23 rfl) <| .op 0 rfl (ltI rfl rfl) <| .nil0) ?_
      by_cases c6 : x1 < (a0.length : Int)
      · rw [if_pos c6] at h
        refine .condT rfl (dt c6) <| .skip <| .seq <| .block <| .seq ?_
        obtain ⟨g13_2, h⟩ := h
        obtain ⟨g13_6, h⟩ := h
        refine .reg1 (e1 := listEnv [(0, .rows (a0.map (cInt .i64))), (1, .rows (a1.map (cInt .i64))), (5, i6 x1), (25, bo ((rdl a0 x1) != (rdl a1 x1)))]) (H1 := []) rfl ?_ ?_
        · exact .drawM [(8, 25, bo ((rdl a0 x1) != (rdl a1 x1))), (7, 24, i6 (rdl a1 x1)), (6, 23, .cptr ((cInt .i64) (rdl a1 x1)) 0), (5, 22, i6 x1), (4, 21, .rows (a1.map (cInt .i64))), (3, 20, i6 (rdl a0 x1)), (2, 19, .cptr ((cInt .i64) (rdl a0 x1)) 0), (1, 18, i6 x1), (0, 17, .rows (a0.map (cInt .i64)))] [] [[], [], [0, 1], [2, 0, 1], [], [], [4, 5], [6, 4, 5], [3, 2, 0, 1, 7, 6, 4, 5]] (by rfl) (by rfl) (by rfl) (by exact ⟨oP (fun _ => mvR rfl) rfl, oP (fun _ => mvV rfl) rfl, oP (fun _ => ixR (l := a0) (lit := (cInt .i64)) sl23 rfl rfl (fun _ => rfl) g13_2.1 g13_2.2) rfl, oP (fun _ => ldC rfl sz3 ag3 rfl) rfl, oP (fun _ => mvR rfl) rfl, oP (fun _ => mvV rfl) rfl, oP (fun _ => ixR (l := a1) (lit := (cInt .i64)) sl23 rfl rfl (fun _ => rfl) g13_6.1 g13_6.2) rfl, oP (fun _ => ldC rfl sz3 ag3 rfl) rfl, oP (fun _ => neI rfl rfl) rfl, trivial⟩) _ (by exact ⟨.free rfl rfl, .free rfl rfl, .free rfl rfl, .free rfl rfl, trivial⟩) (by rfl)
        by_cases c7 : (rdl a0 x1) = (rdl a1 x1)
        · rw [if_pos c7] at h
          refine .condF rfl (nf c7) <| .skip <| .inBlock <| .reg0 rfl (.op 0 rfl (mvV rfl) <| .op 0 rfl (addI rfl rfl) <| .op 0 rfl (asV rfl) <| .nil0) <| .kf [(0, .rows (a0.map (cInt .i64))), (1, .rows (a1.map (cInt .i64))), (5, i6 (IntKind.i64.wrap (x1 + 1)))] rfl rfl ?_
          exact hn1 _ h
        · rw [if_neg c7] at h
          refine .condT rfl (nt c7) <| .seq <| .reg0 rfl (.op 0 rfl (asV rfl) <| .nil0) ?_
          have q3 := hr1 _ h
          replace q3 := q3.symm
          subst q3
          refine .kf [(4, bo false)] rfl rfl ?_
          exact .ret rfl
      · rw [if_neg c6] at h
        refine .condF rfl (df c6) <| .exit rfl <| .keepL [] [] [] (by decide) (by decide) trivial trivial ?_
        exact hx1 _ h
  · rw [if_neg c1] at h
    refine .condT rfl (nt c1) <| .seq <| .reg0 rfl (.op 0 rfl (asV rfl) <| .nil0) ?_
    replace h := h.symm
    subst h
    refine .kf [(4, bo false)] rfl rfl ?_
    exact .ret rfl
end Go.RM.Tryd
