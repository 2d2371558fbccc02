/- GI, for the statement StepsReaches: what it needs, no more. -/
import Derived.Test.YtkcmehgfndfbhaaGreatDoorZStepsReachesGH
set_option linter.unusedVariables false
set_option maxRecDepth 8000
set_option maxHeartbeats 4000000
namespace Go.RM.Tryz
open Go.RM Go.Proofs
def r12_Next.j1 (x8 : Int) : ((List Int) × (List TConf)) → (Rnd (((List Int) × (List TConf) × Int)) (((List Int) × (List TConf))) ((List Int) × (List TConf) × Int)) → Prop := fun (x15, x16) z1 => z1 = .next (x15, x16, (IntKind.i64.wrap (x8 + 1)))
def r12_Next.b1 (a0 : TPds) (a1 : TConf) : ((List Int) × (List TConf) × Int) → Rnd (((List Int) × (List TConf) × Int)) (((List Int) × (List TConf))) ((List Int) × (List TConf) × Int) → Prop := fun (x6, x7, x8) z1 => if x8 < (a0.Rules.length : Int) then (((InR x8 a0.Rules.length)) ∧ ∃ t38_6 : Bool, (r12_Applies.f (rdl a0.Rules x8) a1 t38_6) ∧ if t38_6 = true then (((InR x8 a0.Rules.length)) ∧ ∃ t39_6 : TConf, (r12_By.f (rdl a0.Rules x8) a1 t39_6) ∧ ∃ t40_1 : Bool, (r12_long.f t39_6 t40_1) ∧ if t40_1 = true then (z1 = .ret ([], [], 2)) else (((Fits (x6.length + 1) 8)) ∧ ((Fits (x7.length + 1) 32)) ∧ r12_Next.j1 x8 ((x6 ++ [x8]), (x7 ++ [t39_6])) z1)) else (r12_Next.j1 x8 (x6, x7) z1)) else (z1 = .exit (x6, x7))
def r12_Next.f (a0 : TPds) (a1 : TConf) (r : (List Int) × (List TConf) × Int) : Prop :=
  ∃ t2_2 : Int, (r12_Check.f a0 a1 t2_2) ∧ if t2_2 = 0 then (∃ o1 : Fin (((List Int) × (List TConf))) ((List Int) × (List TConf) × Int), Loop (r12_Next.b1 a0 a1) ([], [], 0) o1 ∧ o1.on (fun (x12, x13) => r = (x12, x13, 0)) (fun r_ => r = r_)) else (r = ([], [], t2_2))
theorem r12_Next.D {a0 a1 r} (h : r12_Next.f a0 a1 r) : D Tryz.prog X (.callH 15 [.agg (TPds.lit a0), .agg (TConf.lit a1)] [] (.tuple [.rows (r.1.map (cInt .i64)), .rows (r.2.1.map TConf.cells), .val (.int .i64 r.2.2)]) []) := by
  unfold r12_Next.f at h
  refine .enter 52 0 fn15 rfl rfl rfl <| .seq <| .room 0 <| .room 0 <| .reg0 rfl (.op 0 rfl (bxP (s := 6) (cs := (TPds.lit a0)) rfl ⟨rfl, by decide, rfl⟩ rfl) <| .op 1 rfl (bxP (s := 2) (cs := (TConf.lit a1)) rfl ⟨rfl, by decide, rfl⟩ rfl) <| .op 0 rfl (asV rfl) <| .op 0 rfl (asV rfl) <| .op 0 rfl (asV rfl) <| .nil0) <| .seq ?_
  obtain ⟨t2_2, g2_2, h⟩ := h
  refine .reg0 rfl (.o (ldG rfl sz28 ag28 rfl) <| .o (ldG rfl sz31 ag31 rfl) <| .c rfl go21 rfl rfl rfl (r12_Check.D g2_2) <| .a rfl <| .nil0) <| .seq <| .seq <| .reg0 rfl (.op 0 rfl (mvV rfl) <| .op 0 rfl (neI rfl rfl) <| .nil0) ?_
  by_cases c1 : t2_2 = 0
  · rw [if_pos c1] at h
    refine .condF rfl (nf c1) <| .skip <| .seq <| .reg0 rfl (.op 0 rfl (asV rfl) <| .nil0) <| .seq <| .reg0 rfl (.op 0 rfl (asV rfl) <| .nil0) <| .seq <| .seq <| .reg0 rfl (.op 0 rfl (asV rfl) <| .nil0) <| .block <| .room 1 <| .room 2 <| .keepL [0, 1, 2, 3] [(2, .ptr 0 1 6 0 0), (3, .ptr 1 1 2 0 0), (8, .own 2 0), (9, .own 3 0), (10, i6 0)] [⟨6, [(TPds.lit a0)], 0, none⟩, ⟨2, [(TConf.lit a1)], 0, none⟩, ⟨1, [].map (cInt .i64), 0, none⟩, ⟨2, [].map TConf.cells, 0, none⟩] (by decide) (by decide) ⟨.ptr rfl, .ptr rfl, .nilOwn, .nilOwn, .free rfl rfl, trivial⟩ ⟨⟨_, rfl, bcBox (all2_free rfl)⟩, ⟨_, rfl, bcBox (all2_free rfl)⟩, ⟨_, rfl, (bcRow (l := []) sl29 (Nat.le_refl _) rfl)⟩, ⟨_, rfl, (bcRow (l := []) sl51 (Nat.le_refl _) rfl)⟩, trivial⟩ ?_
    obtain ⟨o1, hL1, h⟩ := h
    refine .loopB (r12_Next.b1 a0 a1) (fun (x6, x7, x8) => listEnv [(2, .ptr 0 1 6 0 0), (3, .ptr 1 1 2 0 0), (8, .own 2 x6.length), (9, .own 3 x7.length), (10, i6 x8)]) (fun (x6, x7, x8) => [⟨6, [(TPds.lit a0)], 0, none⟩, ⟨2, [(TConf.lit a1)], 0, none⟩, ⟨1, x6.map (cInt .i64), 0, none⟩, ⟨2, x7.map TConf.cells, 0, none⟩]) (fun (x12, x13) => listEnv [(8, .own 0 x12.length), (9, .own 1 x13.length)]) (fun (x12, x13) => [⟨1, x12.map (cInt .i64), 0, none⟩, ⟨2, x13.map TConf.cells, 0, none⟩]) hL1 (fun r_ => r = r_) ?_ ?_ ?_
    · rintro ⟨x12, x13⟩ rfl
      try dsimp only [Fin.on] at h
      refine .seq <| .reg0 rfl (.op 0 rfl (mvO rfl) <| .op 0 rfl (mvO rfl) <| .op 0 rfl (asO rfl) <| .op 0 rfl (asO rfl) <| .op 0 rfl (asV rfl) <| .nil0) ?_
      replace h := h.symm
      subst h
      refine .k [(4, .rows (x12.map (cInt .i64))), (5, .rows (x13.map TConf.cells)), (6, i6 0)] ⟨cFixO (l := x12) sl29 rfl rfl rfl rfl, cFixO (l := x13) sl51 rfl rfl rfl rfl, .free rfl rfl, trivial⟩ ?_
      exact .ret rfl
    · rintro r_ rfl
      exact h
    · rintro ⟨x6, x7, x8⟩ z1 h hn1 hx1 hr1
      dsimp only [r12_Next.b1] at h
      refine .seq <| .seq <| .reg0 rfl (.op 0 rfl (mvV rfl) <| .op 0 rfl (faP fa28_3 rfl) <| .op 0 rfl (ldP rfl sz26 ag26 rfl) <| .op 0 rfl (lnR (l := a0.Rules) sl26 rfl) <| .op 0 rfl (ltI rfl rfl) <| .nil0) ?_
      by_cases c12 : x8 < (a0.Rules.length : Int)
      · rw [if_pos c12] at h
        refine .condT rfl (dt c12) <| .skip <| .seq ?_
        refine .consJ (fun s_ => r12_Next.j1 x8 s_ z1) (fun (x15, x16) => listEnv [(2, .ptr 0 1 6 0 0), (3, .ptr 1 1 2 0 0), (8, .own 2 x15.length), (9, .own 3 x16.length), (10, i6 x8)]) (fun (x15, x16) => [⟨6, [(TPds.lit a0)], 0, none⟩, ⟨2, [(TConf.lit a1)], 0, none⟩, ⟨1, x15.map (cInt .i64), 0, none⟩, ⟨2, x16.map TConf.cells, 0, none⟩]) ?_ fun hJ1 => ?_
        · rintro ⟨x15, x16⟩ h
          unfold r12_Next.j1 at h
          try dsimp only at h
          refine .reg0 rfl (.m rfl <| .o (addI rfl rfl) <| .a rfl <| .nil0) <| .keepL [0, 1, 2, 3] [(2, .ptr 0 1 6 0 0), (3, .ptr 1 1 2 0 0), (8, .own 2 x15.length), (9, .own 3 x16.length), (10, i6 (IntKind.i64.wrap (x8 + 1)))] [⟨6, [(TPds.lit a0)], 0, none⟩, ⟨2, [(TConf.lit a1)], 0, none⟩, ⟨1, x15.map (cInt .i64), 0, none⟩, ⟨2, x16.map TConf.cells, 0, none⟩] (by decide) (by decide) ⟨.ptr rfl, .ptr rfl, .own rfl, .own rfl, .free rfl rfl, trivial⟩ ⟨⟨_, rfl, bcBox (all2_free rfl)⟩, ⟨_, rfl, bcBox (all2_free rfl)⟩, ⟨_, rfl, bcRow (l := x15) sl29 (Nat.le_refl _) rfl⟩, ⟨_, rfl, bcRow (l := x16) sl51 (Nat.le_refl _) rfl⟩, trivial⟩ ?_
          exact hn1 _ h
        · refine .block <| .seq <| .seq ?_
          obtain ⟨g38_3, h⟩ := h
          obtain ⟨t38_6, g38_6, h⟩ := h
          refine .reg1 (e1 := listEnv [(2, .ptr 0 1 6 0 0), (3, .ptr 1 1 2 0 0), (8, .own 2 x6.length), (9, .own 3 x7.length), (10, i6 x8), (32, bo (!t38_6))]) (H1 := [⟨6, [(TPds.lit a0)], 0, none⟩, ⟨2, [(TConf.lit a1)], 0, none⟩, ⟨1, x6.map (cInt .i64), 0, none⟩, ⟨2, x7.map TConf.cells, 0, none⟩]) rfl ?_ ?_
          · exact .drawM [(7, 32, bo (!t38_6)), (6, 31, bo t38_6), (5, 30, .agg (TConf.lit a1)), (4, 29, .agg (TRule.lit (rdl a0.Rules x8))), (3, 28, .cptr (TRule.lit (rdl a0.Rules x8)) 0), (2, 27, i6 x8), (1, 26, .rows (a0.Rules.map TRule.cells)), (0, 25, .ptr 0 1 6 0 5)] [] [[], [0], [], [1, 0, 2], [3, 1, 0, 2], [], [4, 3, 1, 0, 2, 5], [6, 4, 3, 1, 0, 2, 5]] (by rfl) (by rfl) (by rfl) (by exact ⟨oP (fun _ => faP fa28_3 rfl) rfl, oP (fun _ => ldP rfl sz26 ag26 rfl) rfl, oP (fun _ => mvV rfl) rfl, oP (fun _ => ixR (l := a0.Rules) (lit := TRule.lit) sl26 rfl rfl (fun _ => rfl) g38_3.1 g38_3.2) rfl, oP (fun _ => ldCG rfl sz70 ag70 rfl) rfl, oP (fun _ => ldG rfl sz31 ag31 rfl) rfl, fun S hS hD hn => .oneI hS hD hn rfl rfl (callee_of rfl go32 rfl) (.pure rfl rfl (r12_Applies.D g38_6)) rfl rfl rfl, oP (fun _ => notB rfl) rfl, trivial⟩) _ (by exact ⟨.ptr rfl, .ptr rfl, .own rfl, .own rfl, .free rfl rfl, .free rfl rfl, trivial⟩) (by rfl)
          by_cases c15 : t38_6 = true
          · rw [if_pos c15] at h
            refine .condF rfl (bnotF c15) <| .skip <| .seq ?_
            obtain ⟨g39_3, h⟩ := h
            obtain ⟨t39_6, g39_6, h⟩ := h
            refine .room 0 ?_
            refine .reg1 (e1 := listEnv [(2, .ptr 0 1 6 0 0), (3, .ptr 1 1 2 0 0), (8, .own 2 x6.length), (9, .own 3 x7.length), (10, i6 x8), (11, .ptr 4 1 2 0 0)]) (H1 := [⟨6, [(TPds.lit a0)], 0, none⟩, ⟨2, [(TConf.lit a1)], 0, none⟩, ⟨1, x6.map (cInt .i64), 0, none⟩, ⟨2, x7.map TConf.cells, 0, none⟩, ⟨2, [(TConf.lit t39_6)], 0, none⟩]) rfl ?_ ?_
            · exact .drawM [(7, 11, .ptr 4 1 2 0 0), (6, 39, .agg (TConf.lit t39_6)), (5, 38, .agg (TConf.lit a1)), (4, 37, .agg (TRule.lit (rdl a0.Rules x8))), (3, 36, .cptr (TRule.lit (rdl a0.Rules x8)) 0), (2, 35, i6 x8), (1, 34, .rows (a0.Rules.map TRule.cells)), (0, 33, .ptr 0 1 6 0 5)] [(8, 4, ⟨2, [(TConf.lit t39_6)], 0, none⟩), (7, 4, ⟨2, [[i6 0, nul]], 0, none⟩)] [[], [0], [], [1, 0, 2], [3, 1, 0, 2], [], [4, 3, 1, 0, 2, 5], [], [7, 6, 4, 3, 1, 0, 2, 5]] (by rfl) (by rfl) (by rfl) (by exact ⟨oP (fun _ => faP fa28_3 rfl) rfl, oP (fun _ => ldP rfl sz26 ag26 rfl) rfl, oP (fun _ => mvV rfl) rfl, oP (fun _ => ixR (l := a0.Rules) (lit := TRule.lit) sl26 rfl rfl (fun _ => rfl) g39_3.1 g39_3.2) rfl, oP (fun _ => ldCG rfl sz70 ag70 rfl) rfl, oP (fun _ => ldG rfl sz31 ag31 rfl) rfl, fun S hS hD hn => .oneI hS hD hn rfl rfl (callee_of rfl go33 rfl) (.pure rfl rfl (r12_By.D g39_6)) rfl rfl rfl, oW 4 (fun _ => alP (s := 2) ze31 ⟨rfl, by decide, rfl⟩ rfl) rfl fun _ => rfl, fun S hS hD hn => .one0 0 rfl rfl (stB (cs0 := [i6 0, nul]) (cs := (TConf.lit t39_6)) (cs1 := (TConf.lit t39_6)) rfl rfl sz31 rfl ⟨Nat.le_of_ble_eq_true rfl, rfl⟩ rfl) (drawE_other _ _ _ _ rfl) rfl, trivial⟩) _ (by exact ⟨.ptr rfl, .ptr rfl, .own rfl, .own rfl, .free rfl rfl, .ptr rfl, trivial⟩) (by rfl)
            refine .seq <| .seq ?_
            obtain ⟨t40_1, g40_1, h⟩ := h
            refine .reg0 rfl (.o (ldG rfl sz31 ag31 rfl) <| .c rfl go34 rfl rfl rfl (r12_long.D g40_1) <| .nil0) ?_
            by_cases c16 : t40_1 = true
            · rw [if_pos c16] at h
              refine .condT rfl c16 <| .seq <| .reg0 rfl (.op 0 rfl (asV rfl) <| .op 0 rfl (asV rfl) <| .op 0 rfl (asV rfl) <| .nil0) ?_
              have q6 := hr1 _ h
              replace q6 := q6.symm
              subst q6
              refine .k [(4, .rows (([] : List Int).map (cInt .i64))), (5, .rows (([] : List TConf).map TConf.cells)), (6, i6 2)] ⟨.nil, .nil, .free rfl rfl, trivial⟩ ?_
              exact .ret rfl
            · rw [if_neg c16] at h
              refine .condF rfl (nb c16) <| .skip ?_
              obtain ⟨g42_3, h⟩ := h
              obtain ⟨g42_7, h⟩ := h
              refine .room 0 <| .room 0 <| .room 0 <| .room 0 ?_
              refine .reg1 (e1 := listEnv [(2, .ptr 0 1 6 0 0), (3, .ptr 1 1 2 0 0), (8, .own 2 ((x6 ++ [x8]).length)), (9, .own 3 ((x7 ++ [t39_6]).length)), (10, i6 x8)]) (H1 := [⟨6, [(TPds.lit a0)], 0, none⟩, ⟨2, [(TConf.lit a1)], 0, none⟩, ⟨1, (x6 ++ [x8]).map (cInt .i64), 0, none⟩, ⟨2, (x7 ++ [t39_6]).map TConf.cells, 0, none⟩, ⟨2, [(TConf.lit t39_6)], 0, none⟩, ⟨1, [x8].map (cInt .i64), 0, none⟩, Blk.hole, ⟨2, [t39_6].map TConf.cells, 0, none⟩, Blk.hole]) rfl ?_ ?_
              · exact .drawM [(9, 9, .own 3 ((x7 ++ [t39_6]).length)), (8, 8, .own 2 ((x6 ++ [x8]).length)), (7, 49, .own 3 ((x7 ++ [t39_6]).length)), (6, 48, .own 7 ([t39_6].length)), (5, 47, .agg (TConf.lit t39_6)), (4, 46, .own 3 x7.length), (3, 45, .own 2 ((x6 ++ [x8]).length)), (2, 44, .own 5 ([x8].length)), (1, 43, i6 x8), (0, 42, .own 2 x6.length)] [(7, 3, ⟨2, (x7 ++ [t39_6]).map TConf.cells, 0, none⟩), (6, 7, ⟨2, [t39_6].map TConf.cells, 0, none⟩), (3, 2, ⟨1, (x6 ++ [x8]).map (cInt .i64), 0, none⟩), (2, 5, ⟨1, [x8].map (cInt .i64), 0, none⟩)] [[], [], [1], [0, 2, 1], [], [], [5], [4, 6, 5, 3, 0, 2, 1], [3, 0, 2, 1, 7, 4, 6, 5], [7, 4, 6, 5, 3, 0, 2, 1, 8]] (by rfl) (by rfl) (by rfl) (by exact ⟨oP (fun _ => mvO rfl) rfl, oP (fun _ => mvV rfl) rfl, oW 5 (fun _ => bldL (s := 1) (cs := [i6 x8]) un29 sz3 ze3 ⟨by decide, rfl, by decide⟩ rfl rfl rfl rfl) rfl fun _ => rfl, oW 0 (fun _ => ap1 (l := x6) x8 sl29 rfl rfl rfl (Nat.zero_le _) (elems_own (l := [x8]) rfl rfl) g42_3) rfl fun _ => rfl, oP (fun _ => mvO rfl) rfl, oP (fun _ => ldG rfl sz31 ag31 rfl) rfl, oW 7 (fun _ => bldL (s := 2) (cs := [i6 t39_6.P, .rows (t39_6.W.map (cInt .i64))]) un51 sz31 ze31 ⟨by decide, rfl, by decide⟩ rfl rfl rfl rfl) rfl fun _ => rfl, oW 0 (fun _ => ap1 (l := x7) t39_6 sl51 rfl rfl rfl (Nat.zero_le _) (elems_own (l := [t39_6]) rfl rfl) g42_7) rfl fun _ => rfl, oP (fun _ => asO rfl) rfl, oP (fun _ => asO rfl) rfl, trivial⟩) _ (by exact ⟨.ptr rfl, .ptr rfl, .own rfl, .own rfl, .free rfl rfl, trivial⟩) (by rfl)
              refine .inBlock <| .keepL [0, 1, 2, 3] [(2, .ptr 0 1 6 0 0), (3, .ptr 1 1 2 0 0), (8, .own 2 ((x6 ++ [x8]).length)), (9, .own 3 ((x7 ++ [t39_6]).length)), (10, i6 x8)] [⟨6, [(TPds.lit a0)], 0, none⟩, ⟨2, [(TConf.lit a1)], 0, none⟩, ⟨1, (x6 ++ [x8]).map (cInt .i64), 0, none⟩, ⟨2, (x7 ++ [t39_6]).map TConf.cells, 0, none⟩] (by decide) (by decide) ⟨.ptr rfl, .ptr rfl, .own rfl, .own rfl, .free rfl rfl, trivial⟩ ⟨⟨_, rfl, bcBox (all2_free rfl)⟩, ⟨_, rfl, bcBox (all2_free rfl)⟩, ⟨_, rfl, bcRow (l := (x6 ++ [x8])) sl29 (Nat.le_refl _) rfl⟩, ⟨_, rfl, bcRow (l := (x7 ++ [t39_6])) sl51 (Nat.le_refl _) rfl⟩, trivial⟩ ?_
              exact hJ1 _ h
          · rw [if_neg c15] at h
            refine .condT rfl (bnotT (nb c15)) <| .exit rfl <| .keepL [0, 1, 2, 3] [(2, .ptr 0 1 6 0 0), (3, .ptr 1 1 2 0 0), (8, .own 2 x6.length), (9, .own 3 x7.length), (10, i6 x8)] [⟨6, [(TPds.lit a0)], 0, none⟩, ⟨2, [(TConf.lit a1)], 0, none⟩, ⟨1, x6.map (cInt .i64), 0, none⟩, ⟨2, x7.map TConf.cells, 0, none⟩] (by decide) (by decide) ⟨.ptr rfl, .ptr rfl, .own rfl, .own rfl, .free rfl rfl, trivial⟩ ⟨⟨_, rfl, bcBox (all2_free rfl)⟩, ⟨_, rfl, bcBox (all2_free rfl)⟩, ⟨_, rfl, bcRow (l := x6) sl29 (Nat.le_refl _) rfl⟩, ⟨_, rfl, bcRow (l := x7) sl51 (Nat.le_refl _) rfl⟩, trivial⟩ ?_
            exact hJ1 _ h
      · rw [if_neg c12] at h
        refine .condF rfl (df c12) <| .exit rfl <| .keepL [2, 3] [(8, .own 0 x6.length), (9, .own 1 x7.length)] [⟨1, x6.map (cInt .i64), 0, none⟩, ⟨2, x7.map TConf.cells, 0, none⟩] (by decide) (by decide) ⟨.own rfl, .own rfl, trivial⟩ ⟨⟨_, rfl, bcRow (l := x6) sl29 (Nat.le_refl _) rfl⟩, ⟨_, rfl, bcRow (l := x7) sl51 (Nat.le_refl _) rfl⟩, trivial⟩ ?_
        exact hx1 _ h
  · rw [if_neg c1] at h
    refine .condT rfl (nt c1) <| .seq <| .reg0 rfl (.op 0 rfl (mvV rfl) <| .op 0 rfl (asV rfl) <| .op 0 rfl (asV rfl) <| .op 0 rfl (asV rfl) <| .nil0) ?_
    replace h := h.symm
    subst h
    refine .k [(4, .rows (([] : List Int).map (cInt .i64))), (5, .rows (([] : List TConf).map TConf.cells)), (6, i6 t2_2)] ⟨.nil, .nil, .free rfl rfl, trivial⟩ ?_
    exact .ret rfl
def r12_Same.b1 (a0 : TConf) (a1 : TConf) : Int → Rnd Int Unit Bool → Prop := fun x1 z1 => if x1 < (a0.W.length : Int) then (((InR x1 a0.W.length)) ∧ ((InR x1 a1.W.length)) ∧ if (rdl a0.W x1) = (rdl a1.W x1) then (z1 = .next (IntKind.i64.wrap (x1 + 1))) else (z1 = .ret false)) else (z1 = .exit ())
def r12_Same.f (a0 : TConf) (a1 : TConf) (r : Bool) : Prop :=
  if ((!(a0.P == a1.P)) || ((a0.W.length : Int) != (a1.W.length : Int))) = true then (r = false) else (∃ o1 : Fin Unit Bool, Loop (r12_Same.b1 a0 a1) 0 o1 ∧ o1.on (fun _ => r = true) (fun r_ => r = r_))
theorem r12_Same.D {a0 a1 r} (h : r12_Same.f a0 a1 r) : D Tryz.prog X (.callH 10 [.agg (TConf.lit a0), .agg (TConf.lit a1)] [] (.val (.bool r)) []) := by
  unfold r12_Same.f at h
  refine .enter 38 0 fn10 rfl rfl rfl <| .seq <| .room 0 <| .room 0 <| .reg0 rfl (.op 0 rfl (bxP (s := 2) (cs := (TConf.lit a0)) rfl ⟨rfl, by decide, rfl⟩ rfl) <| .op 1 rfl (bxP (s := 2) (cs := (TConf.lit a1)) rfl ⟨rfl, by decide, rfl⟩ rfl) <| .op 0 rfl (asV rfl) <| .nil0) <| .seq <| .seq ?_
  refine .reg0 (e1 := listEnv [(2, .ptr 0 1 2 0 0), (3, .ptr 1 1 2 0 0), (19, bo ((!(a0.P == a1.P)) || ((a0.W.length : Int) != (a1.W.length : Int))))]) (H1 := [⟨2, [(TConf.lit a0)], 0, none⟩, ⟨2, [(TConf.lit a1)], 0, none⟩]) rfl ?_ ?_
  · refine .o (faP fa31_0 rfl) <| .o (ldP rfl sz3 ag3 rfl) <| .o (faP fa31_0 rfl) <| .o (ldP rfl sz3 ag3 rfl) <| .o (neI rfl rfl) <| .m rfl <| ?_
    by_cases c1 : a0.P = a1.P
    · exact (.g rfl (nf c1) (faP fa31_1 rfl) <| .g rfl (nf c1) (ldP rfl sz29 ag29 rfl) <| .g rfl (nf c1) (lnR (l := a0.W) sl29 rfl) <| .g rfl (nf c1) (faP fa31_1 rfl) <| .g rfl (nf c1) (ldP rfl sz29 ag29 rfl) <| .g rfl (nf c1) (lnR (l := a1.W) sl29 rfl) <| .g rfl (nf c1) (neI rfl rfl) <| .o (pkFV rfl (nf c1) rfl) <| .nilL _ ⟨.ptr rfl, .ptr rfl, cB rfl (mOrF (bnotF (bt c1)) rfl), trivial⟩)
    · exact (.n rfl (nt c1) <| .n rfl (nt c1) <| .n rfl (nt c1) <| .n rfl (nt c1) <| .n rfl (nt c1) <| .n rfl (nt c1) <| .n rfl (nt c1) <| .o (pkTV rfl (nt c1) rfl) <| .nilL _ ⟨.ptr rfl, .ptr rfl, cB rfl (mOrT (bnotT (bn c1))), trivial⟩)
  by_cases c2 : ((!(a0.P == a1.P)) || ((a0.W.length : Int) != (a1.W.length : Int))) = true
  · rw [if_pos c2] at h
    refine .condT rfl c2 <| .seq <| .reg0 rfl (.op 0 rfl (asV rfl) <| .nil0) ?_
    replace h := h.symm
    subst h
    refine .kf [(4, bo false)] rfl rfl ?_
    exact .ret rfl
  · rw [if_neg c2] at h
    refine .condF rfl (nb c2) <| .skip <| .seq <| .seq <| .reg0 rfl (.op 0 rfl (asV rfl) <| .nil0) <| .block <| .keepL [0, 1] [(2, .ptr 0 1 2 0 0), (3, .ptr 1 1 2 0 0), (5, i6 0)] [⟨2, [(TConf.lit a0)], 0, none⟩, ⟨2, [(TConf.lit a1)], 0, none⟩] (by decide) (by decide) ⟨.ptr rfl, .ptr rfl, .free rfl rfl, trivial⟩ ⟨⟨_, rfl, bcBox (all2_free rfl)⟩, ⟨_, rfl, bcBox (all2_free rfl)⟩, trivial⟩ ?_
    obtain ⟨o1, hL1, h⟩ := h
    refine .loopB (r12_Same.b1 a0 a1) (fun x1 => listEnv [(2, .ptr 0 1 2 0 0), (3, .ptr 1 1 2 0 0), (5, i6 x1)]) (fun x1 => [⟨2, [(TConf.lit a0)], 0, none⟩, ⟨2, [(TConf.lit a1)], 0, none⟩]) (fun _ => listEnv []) (fun _ => []) hL1 (fun r_ => r = r_) ?_ ?_ ?_
    · rintro ⟨⟩ rfl
      try dsimp only [Fin.on] at h
      refine .seq <| .reg0 rfl (.op 0 rfl (asV rfl) <| .nil0) ?_
      replace h := h.symm
      subst h
      refine .kf [(4, bo true)] rfl rfl ?_
      exact .ret rfl
    · rintro r_ rfl
      exact h
    · rintro x1 z1 h hn1 hx1 hr1
      dsimp only [r12_Same.b1] at h
      refine .seq <| .seq <| .reg0 rfl (.op 0 rfl (mvV rfl) <| .op 0 rfl (faP fa31_1 rfl) <| .op 0 rfl (ldP rfl sz29 ag29 rfl) <| .op 0 rfl (lnR (l := a0.W) sl29 rfl) <| .op 0 rfl (ltI rfl rfl) <| .nil0) ?_
      by_cases c7 : x1 < (a0.W.length : Int)
      · rw [if_pos c7] at h
        refine .condT rfl (dt c7) <| .skip <| .seq <| .block <| .seq ?_
        obtain ⟨g14_3, h⟩ := h
        obtain ⟨g14_8, h⟩ := h
        refine .reg1 (e1 := listEnv [(2, .ptr 0 1 2 0 0), (3, .ptr 1 1 2 0 0), (5, i6 x1), (37, bo ((rdl a0.W x1) != (rdl a1.W x1)))]) (H1 := [⟨2, [(TConf.lit a0)], 0, none⟩, ⟨2, [(TConf.lit a1)], 0, none⟩]) rfl ?_ ?_
        · exact .drawM [(10, 37, bo ((rdl a0.W x1) != (rdl a1.W x1))), (9, 36, i6 (rdl a1.W x1)), (8, 35, .cptr ((cInt .i64) (rdl a1.W x1)) 0), (7, 34, i6 x1), (6, 33, .rows (a1.W.map (cInt .i64))), (5, 32, .ptr 1 1 2 0 1), (4, 31, i6 (rdl a0.W x1)), (3, 30, .cptr ((cInt .i64) (rdl a0.W x1)) 0), (2, 29, i6 x1), (1, 28, .rows (a0.W.map (cInt .i64))), (0, 27, .ptr 0 1 2 0 1)] [] [[], [0], [], [1, 0, 2], [3, 1, 0, 2], [], [5], [], [6, 5, 7], [8, 6, 5, 7], [4, 3, 1, 0, 2, 9, 8, 6, 5, 7]] (by rfl) (by rfl) (by rfl) (by exact ⟨oP (fun _ => faP fa31_1 rfl) rfl, oP (fun _ => ldP rfl sz29 ag29 rfl) rfl, oP (fun _ => mvV rfl) rfl, oP (fun _ => ixR (l := a0.W) (lit := (cInt .i64)) sl29 rfl rfl (fun _ => rfl) g14_3.1 g14_3.2) rfl, oP (fun _ => ldC rfl sz3 ag3 rfl) rfl, oP (fun _ => faP fa31_1 rfl) rfl, oP (fun _ => ldP rfl sz29 ag29 rfl) rfl, oP (fun _ => mvV rfl) rfl, oP (fun _ => ixR (l := a1.W) (lit := (cInt .i64)) sl29 rfl rfl (fun _ => rfl) g14_8.1 g14_8.2) rfl, oP (fun _ => ldC rfl sz3 ag3 rfl) rfl, oP (fun _ => neI rfl rfl) rfl, trivial⟩) _ (by exact ⟨.ptr rfl, .ptr rfl, .free rfl rfl, .free rfl rfl, trivial⟩) (by rfl)
        by_cases c8 : (rdl a0.W x1) = (rdl a1.W x1)
        · rw [if_pos c8] at h
          refine .condF rfl (nf c8) <| .skip <| .inBlock <| .reg0 rfl (.op 0 rfl (mvV rfl) <| .op 0 rfl (addI rfl rfl) <| .op 0 rfl (asV rfl) <| .nil0) <| .keepL [0, 1] [(2, .ptr 0 1 2 0 0), (3, .ptr 1 1 2 0 0), (5, i6 (IntKind.i64.wrap (x1 + 1)))] [⟨2, [(TConf.lit a0)], 0, none⟩, ⟨2, [(TConf.lit a1)], 0, none⟩] (by decide) (by decide) ⟨.ptr rfl, .ptr rfl, .free rfl rfl, trivial⟩ ⟨⟨_, rfl, bcBox (all2_free rfl)⟩, ⟨_, rfl, bcBox (all2_free rfl)⟩, trivial⟩ ?_
          exact hn1 _ h
        · rw [if_neg c8] at h
          refine .condT rfl (nt c8) <| .seq <| .reg0 rfl (.op 0 rfl (asV rfl) <| .nil0) ?_
          have q3 := hr1 _ h
          replace q3 := q3.symm
          subst q3
          refine .kf [(4, bo false)] rfl rfl ?_
          exact .ret rfl
      · rw [if_neg c7] at h
        refine .condF rfl (df c7) <| .exit rfl <| .keepL [] [] [] (by decide) (by decide) trivial trivial ?_
        exact hx1 _ h
def r12_In.b1 (a0 : List TConf) (a1 : TConf) : Int → Rnd Int Unit Bool → Prop := fun x1 z1 => if x1 < (a0.length : Int) then (((InR x1 a0.length)) ∧ ∃ t12_5 : Bool, (r12_Same.f (rdl a0 x1) a1 t12_5) ∧ if t12_5 = true then (z1 = .ret true) else (z1 = .next (IntKind.i64.wrap (x1 + 1)))) else (z1 = .exit ())
def r12_In.f (a0 : List TConf) (a1 : TConf) (r : Bool) : Prop :=
  ∃ o1 : Fin Unit Bool, Loop (r12_In.b1 a0 a1) 0 o1 ∧ o1.on (fun _ => r = false) (fun r_ => r = r_)
theorem r12_In.D {a0 a1 r} (h : r12_In.f a0 a1 r) : D Tryz.prog X (.callH 48 [.rows (a0.map TConf.cells), .agg (TConf.lit a1)] [] (.val (.bool r)) []) := by
  unfold r12_In.f at h
  refine .enter 18 0 fn48 rfl rfl rfl <| .seq <| .room 0 <| .reg0 rfl (.op 0 rfl (bxP (s := 2) (cs := (TConf.lit a1)) rfl ⟨rfl, by decide, rfl⟩ rfl) <| .op 0 rfl (asV rfl) <| .nil0) <| .seq <| .seq <| .reg0 rfl (.op 0 rfl (asV rfl) <| .nil0) <| .block <| .keepL [0] [(0, .rows (a0.map TConf.cells)), (3, .ptr 0 1 2 0 0), (5, i6 0)] [⟨2, [(TConf.lit a1)], 0, none⟩] (by decide) (by decide) ⟨.free rfl rfl, .ptr rfl, .free rfl rfl, trivial⟩ ⟨⟨_, rfl, bcBox (all2_free rfl)⟩, trivial⟩ ?_
  obtain ⟨o1, hL1, h⟩ := h
  refine .loopB (r12_In.b1 a0 a1) (fun x1 => listEnv [(0, .rows (a0.map TConf.cells)), (3, .ptr 0 1 2 0 0), (5, i6 x1)]) (fun x1 => [⟨2, [(TConf.lit a1)], 0, none⟩]) (fun _ => listEnv []) (fun _ => []) hL1 (fun r_ => r = r_) ?_ ?_ ?_
  · rintro ⟨⟩ rfl
    try dsimp only [Fin.on] at h
    refine .seq <| .reg0 rfl (.op 0 rfl (asV rfl) <| .nil0) ?_
    replace h := h.symm
    subst h
    refine .kf [(4, bo false)] rfl rfl ?_
    exact .ret rfl
  · rintro r_ rfl
    exact h
  · rintro x1 z1 h hn1 hx1 hr1
    dsimp only [r12_In.b1] at h
    refine .seq <| .seq <| .reg0 rfl (.op 0 rfl (mvV rfl) <| .op 0 rfl (mvR rfl) <| .op 0 rfl (lnR (l := a0) sl51 rfl) <| .op 0 rfl (ltI rfl rfl) <| .nil0) ?_
    by_cases c5 : x1 < (a0.length : Int)
    · rw [if_pos c5] at h
      refine .condT rfl (dt c5) <| .skip <| .seq <| .block <| .seq ?_
      obtain ⟨g12_2, h⟩ := h
      obtain ⟨t12_5, g12_5, h⟩ := h
      refine .reg1 (e1 := listEnv [(0, .rows (a0.map TConf.cells)), (3, .ptr 0 1 2 0 0), (5, i6 x1), (17, bo t12_5)]) (H1 := [⟨2, [(TConf.lit a1)], 0, none⟩]) rfl ?_ ?_
      · exact .drawM [(5, 17, bo t12_5), (4, 16, .agg (TConf.lit a1)), (3, 15, .agg (TConf.lit (rdl a0 x1))), (2, 14, .cptr (TConf.lit (rdl a0 x1)) 0), (1, 13, i6 x1), (0, 12, .rows (a0.map TConf.cells))] [] [[], [], [0, 1], [2, 0, 1], [], [3, 2, 0, 1, 4]] (by rfl) (by rfl) (by rfl) (by exact ⟨oP (fun _ => mvR rfl) rfl, oP (fun _ => mvV rfl) rfl, oP (fun _ => ixR (l := a0) (lit := TConf.lit) sl51 rfl rfl (fun _ => rfl) g12_2.1 g12_2.2) rfl, oP (fun _ => ldCG rfl sz31 ag31 rfl) rfl, oP (fun _ => ldG rfl sz31 ag31 rfl) rfl, fun S hS hD hn => .oneI hS hD hn rfl rfl (callee_of rfl go10 rfl) (.pure rfl rfl (r12_Same.D g12_5)) rfl rfl rfl, trivial⟩) _ (by exact ⟨.free rfl rfl, .ptr rfl, .free rfl rfl, .free rfl rfl, trivial⟩) (by rfl)
      by_cases c6 : t12_5 = true
      · rw [if_pos c6] at h
        refine .condT rfl c6 <| .seq <| .reg0 rfl (.op 0 rfl (asV rfl) <| .nil0) ?_
        have q3 := hr1 _ h
        replace q3 := q3.symm
        subst q3
        refine .kf [(4, bo true)] rfl rfl ?_
        exact .ret rfl
      · rw [if_neg c6] at h
        refine .condF rfl (nb c6) <| .skip <| .inBlock <| .reg0 rfl (.op 0 rfl (mvV rfl) <| .op 0 rfl (addI rfl rfl) <| .op 0 rfl (asV rfl) <| .nil0) <| .keepL [0] [(0, .rows (a0.map TConf.cells)), (3, .ptr 0 1 2 0 0), (5, i6 (IntKind.i64.wrap (x1 + 1)))] [⟨2, [(TConf.lit a1)], 0, none⟩] (by decide) (by decide) ⟨.free rfl rfl, .ptr rfl, .free rfl rfl, trivial⟩ ⟨⟨_, rfl, bcBox (all2_free rfl)⟩, trivial⟩ ?_
        exact hn1 _ h
    · rw [if_neg c5] at h
      refine .condF rfl (df c5) <| .exit rfl <| .keepL [] [] [] (by decide) (by decide) trivial trivial ?_
      exact hx1 _ h
def r12_Reach.j1 (x46 : Int) : (List TConf) → (Rnd (((List TConf) × Int)) ((List TConf)) ((List TConf) × Int)) → Prop := fun x49 z3 => z3 = .next (x49, (IntKind.i64.wrap (x46 + 1)))
def r12_Reach.b3 (a3 : Int) (t179_5 : (List Int) × (List TConf) × Int) : ((List TConf) × Int) → Rnd (((List TConf) × Int)) ((List TConf)) ((List TConf) × Int) → Prop := fun (x45, x46) z3 => if x46 < (t179_5.2.1.length : Int) then (((InR x46 t179_5.2.1.length)) ∧ ∃ t208_5 : Bool, (r12_In.f x45 (rdl t179_5.2.1 x46) t208_5) ∧ if t208_5 = true then (r12_Reach.j1 x46 x45 z3) else (if (x45.length : Int) ≥ a3 then (z3 = .ret ([], 3)) else (((InR x46 t179_5.2.1.length)) ∧ ((Fits (x45.length + 1) 32)) ∧ r12_Reach.j1 x46 (x45 ++ [(rdl t179_5.2.1 x46)]) z3))) else (z3 = .exit x45)
def r12_Reach.b2 (a0 : TPds) (a3 : Int) (x14 : List TConf) : ((List TConf) × Int) → Rnd (((List TConf) × Int)) ((List TConf)) ((List TConf) × Int) → Prop := fun (x36, x37) z2 => if x37 < (x14.length : Int) then (((InR x37 x36.length)) ∧ ∃ t179_5 : (List Int) × (List TConf) × Int, (r12_Next.f a0 (rdl x36 x37) t179_5) ∧ if t179_5.2.2 = 0 then (∃ o3 : Fin ((List TConf)) ((List TConf) × Int), Loop (r12_Reach.b3 a3 t179_5) (x36, 0) o3 ∧ o3.on (fun x48 => z2 = .next (x48, (IntKind.i64.wrap (x37 + 1)))) (fun r_ => z2 = .ret r_)) else (z2 = .ret ([], t179_5.2.2))) else (z2 = .exit x36)
def r12_Reach.b1 (a0 : TPds) (a2 : Int) (a3 : Int) : ((List TConf) × Int × Int) → Rnd (((List TConf) × Int × Int)) ((List TConf)) ((List TConf) × Int) → Prop := fun (x14, x15, x16) z1 => if x16 < a2 then (∃ o2 : Fin ((List TConf)) ((List TConf) × Int), Loop (r12_Reach.b2 a0 a3 x14) (x14, x15) o2 ∧ o2.on (fun x43 => z1 = .next (x43, (x14.length : Int), (IntKind.i64.wrap (x16 + 1)))) (fun r_ => z1 = .ret r_)) else (z1 = .exit x14)
def r12_Reach.f (a0 : TPds) (a1 : TConf) (a2 : Int) (a3 : Int) (r : (List TConf) × Int) : Prop :=
  ∃ t2_2 : Int, (r12_Check.f a0 a1 t2_2) ∧ if t2_2 = 0 then (if ((decide (a2 < 0)) || ((decide (a2 > 1000)) || ((decide (a3 < 1)) || (decide (a3 > 100000))))) = true then (r = ([], 1)) else (∃ t6_4 : TConf, (r12_behind.f a1.P a1.W [] t6_4) ∧ ∃ o1 : Fin ((List TConf)) ((List TConf) × Int), Loop (r12_Reach.b1 a0 a2 a3) ([t6_4], 0, 0) o1 ∧ o1.on (fun x30 => r = (x30, 0)) (fun r_ => r = r_))) else (r = ([], t2_2))
theorem r12_Reach.D {a0 a1 a2 a3 r} (h : r12_Reach.f a0 a1 a2 a3 r) : D Tryz.prog X (.callH 25 [.agg (TPds.lit a0), .agg (TConf.lit a1), .val (.int .i64 a2), .val (.int .i64 a3)] [] (.tuple [.rows (r.1.map TConf.cells), .val (.int .i64 r.2)]) []) := by
  unfold r12_Reach.f at h
  refine .enter 97 0 fn25 rfl rfl rfl <| .seq <| .room 0 <| .room 0 <| .reg0 rfl (.op 0 rfl (bxP (s := 6) (cs := (TPds.lit a0)) rfl ⟨rfl, by decide, rfl⟩ rfl) <| .op 1 rfl (bxP (s := 2) (cs := (TConf.lit a1)) rfl ⟨rfl, by decide, rfl⟩ rfl) <| .op 0 rfl (asV rfl) <| .op 0 rfl (asV rfl) <| .nil0) <| .seq ?_
  obtain ⟨t2_2, g2_2, h⟩ := h
  refine .reg0 rfl (.o (ldG rfl sz28 ag28 rfl) <| .o (ldG rfl sz31 ag31 rfl) <| .c rfl go21 rfl rfl rfl (r12_Check.D g2_2) <| .a rfl <| .nil0) <| .seq <| .seq <| .reg0 rfl (.op 0 rfl (mvV rfl) <| .op 0 rfl (neI rfl rfl) <| .nil0) ?_
  by_cases c1 : t2_2 = 0
  · rw [if_pos c1] at h
    refine .condF rfl (nf c1) <| .skip <| .seq <| .seq ?_
    refine .reg0 (e1 := listEnv [(2, i6 a2), (3, i6 a3), (4, .ptr 0 1 6 0 0), (5, .ptr 1 1 2 0 0), (39, bo ((decide (a2 < 0)) || ((decide (a2 > 1000)) || ((decide (a3 < 1)) || (decide (a3 > 100000))))))]) (H1 := [⟨6, [(TPds.lit a0)], 0, none⟩, ⟨2, [(TConf.lit a1)], 0, none⟩]) rfl ?_ ?_
    · refine .m rfl <| .o (ltI rfl rfl) <| .m rfl <| ?_
      by_cases c2 : a2 < 0
      · exact (.n rfl (dt c2) <| .n rfl (dt c2) <| .o (pkTV rfl (dt c2) rfl) <| .m rfl <| .n rfl rfl <| .n rfl rfl <| .o (pkTV rfl rfl rfl) <| .m rfl <| .n rfl rfl <| .n rfl rfl <| .o (pkTV rfl rfl rfl) <| .nilL _ ⟨.free rfl rfl, .free rfl rfl, .ptr rfl, .ptr rfl, cB rfl (mOrT (dt c2)), trivial⟩)
      · refine .g rfl (df c2) (mvV rfl) <| .g rfl (df c2) (gtI rfl rfl) <| .o (pkFV rfl (df c2) rfl) <| .m rfl <| ?_
        by_cases c3 : a2 > 1000
        · exact (.n rfl (dt c3) <| .n rfl (dt c3) <| .o (pkTV rfl (dt c3) rfl) <| .m rfl <| .n rfl rfl <| .n rfl rfl <| .o (pkTV rfl rfl rfl) <| .nilL _ ⟨.free rfl rfl, .free rfl rfl, .ptr rfl, .ptr rfl, cB rfl (mOrF (df c2) (mOrT (dt c3))), trivial⟩)
        · refine .g rfl (df c3) (mvV rfl) <| .g rfl (df c3) (ltI rfl rfl) <| .o (pkFV rfl (df c3) rfl) <| .m rfl <| ?_
          by_cases c4 : a3 < 1
          · exact (.n rfl (dt c4) <| .n rfl (dt c4) <| .o (pkTV rfl (dt c4) rfl) <| .nilL _ ⟨.free rfl rfl, .free rfl rfl, .ptr rfl, .ptr rfl, cB rfl (mOrF (df c2) (mOrF (df c3) (mOrT (dt c4)))), trivial⟩)
          · exact (.g rfl (df c4) (mvV rfl) <| .g rfl (df c4) (gtI rfl rfl) <| .o (pkFV rfl (df c4) rfl) <| .nilL _ ⟨.free rfl rfl, .free rfl rfl, .ptr rfl, .ptr rfl, cB rfl (mOrF (df c2) (mOrF (df c3) (mOrF (df c4) rfl))), trivial⟩)
    by_cases c5 : ((decide (a2 < 0)) || ((decide (a2 > 1000)) || ((decide (a3 < 1)) || (decide (a3 > 100000))))) = true
    · rw [if_pos c5] at h
      refine .condT rfl c5 <| .seq <| .reg0 rfl (.op 0 rfl (asV rfl) <| .op 0 rfl (asV rfl) <| .nil0) ?_
      replace h := h.symm
      subst h
      refine .k [(8, .rows (([] : List TConf).map TConf.cells)), (9, i6 1)] ⟨.nil, .free rfl rfl, trivial⟩ ?_
      exact .ret rfl
    · rw [if_neg c5] at h
      refine .condF rfl (nb c5) <| .skip <| .seq ?_
      obtain ⟨t6_4, g6_4, h⟩ := h
      refine .room 0 <| .reg0 rfl (.op 0 rfl (faP fa31_0 rfl) <| .op 0 rfl (ldP rfl sz3 ag3 rfl) <| .op 0 rfl (faP fa31_1 rfl) <| .op 0 rfl (ldP rfl sz29 ag29 rfl) <| .callI rfl (callee_of rfl go31 rfl) (.lendC (args' := [i6 a1.P, .rows (a1.W.map (cInt .i64)), .rows (([] : List Int).map (cInt .i64))])  [] true (.cons (.free rfl rfl) <| .cons (.free rfl rfl) <| .cons (.nil) <| .nil) (by decide) rfl rfl rfl rfl (r12_behind.D g6_4)) <| .op 2 rfl (bldL (s := 2) (cs := [i6 t6_4.P, .rows (t6_4.W.map (cInt .i64))]) un51 sz31 ze31 ⟨by decide, rfl, by decide⟩ rfl rfl rfl rfl) <| .op 0 rfl (asO rfl) <| .nil0) ?_
      refine .seq <| .reg0 rfl (.op 0 rfl (asV rfl) <| .nil0) <| .seq <| .seq <| .reg0 rfl (.op 0 rfl (asV rfl) <| .nil0) <| .block <| .keepL [0, 2] [(2, i6 a2), (3, i6 a3), (4, .ptr 0 1 6 0 0), (11, .own 1 ([t6_4].length)), (12, i6 0), (13, i6 0)] [⟨6, [(TPds.lit a0)], 0, none⟩, ⟨2, [t6_4].map TConf.cells, 0, none⟩] (by decide) (by decide) ⟨.free rfl rfl, .free rfl rfl, .ptr rfl, .own rfl, .free rfl rfl, .free rfl rfl, trivial⟩ ⟨⟨_, rfl, bcBox (all2_free rfl)⟩, ⟨_, rfl, bcRow (l := [t6_4]) sl51 (Nat.le_refl _) rfl⟩, trivial⟩ ?_
      obtain ⟨o1, hL1, h⟩ := h
      refine .loopB (r12_Reach.b1 a0 a2 a3) (fun (x14, x15, x16) => listEnv [(2, i6 a2), (3, i6 a3), (4, .ptr 0 1 6 0 0), (11, .own 1 x14.length), (12, i6 x15), (13, i6 x16)]) (fun (x14, x15, x16) => [⟨6, [(TPds.lit a0)], 0, none⟩, ⟨2, x14.map TConf.cells, 0, none⟩]) (fun x30 => listEnv [(11, .own 0 x30.length)]) (fun x30 => [⟨2, x30.map TConf.cells, 0, none⟩]) hL1 (fun r_ => r = r_) ?_ ?_ ?_
      · rintro x30 rfl
        try dsimp only [Fin.on] at h
        refine .seq <| .reg0 rfl (.op 0 rfl (mvO rfl) <| .op 0 rfl (asO rfl) <| .op 0 rfl (asV rfl) <| .nil0) ?_
        replace h := h.symm
        subst h
        refine .k [(8, .rows (x30.map TConf.cells)), (9, i6 0)] ⟨cFixO (l := x30) sl51 rfl rfl rfl rfl, .free rfl rfl, trivial⟩ ?_
        exact .ret rfl
      · rintro r_ rfl
        exact h
      · rintro ⟨x14, x15, x16⟩ z1 h hn1 hx1 hr1
        dsimp only [r12_Reach.b1] at h
        refine .seq <| .seq <| .reg0 rfl (.op 0 rfl (mvV rfl) <| .op 0 rfl (mvV rfl) <| .op 0 rfl (ltI rfl rfl) <| .nil0) ?_
        by_cases c56 : x16 < a2
        · rw [if_pos c56] at h
          refine .condT rfl (dt c56) <| .skip <| .seq <| .block <| .seq <| .reg0 rfl (.op 0 rfl (mvO rfl) <| .op 0 rfl (lnO (l := x14) sl51 rfl rfl rfl) <| .op 0 rfl (asV rfl) <| .nil0) <| .seq <| .seq <| .reg0 rfl (.op 0 rfl (mvV rfl) <| .op 0 rfl (asV rfl) <| .nil0) <| .block <| .keepL [0, 1] [(2, i6 a2), (3, i6 a3), (4, .ptr 0 1 6 0 0), (11, .own 1 x14.length), (13, i6 x16), (14, i6 (x14.length : Int)), (15, i6 x15)] [⟨6, [(TPds.lit a0)], 0, none⟩, ⟨2, x14.map TConf.cells, 0, none⟩] (by decide) (by decide) ⟨.free rfl rfl, .free rfl rfl, .ptr rfl, .own rfl, .free rfl rfl, .free rfl rfl, .free rfl rfl, trivial⟩ ⟨⟨_, rfl, bcBox (all2_free rfl)⟩, ⟨_, rfl, bcRow (l := x14) sl51 (Nat.le_refl _) rfl⟩, trivial⟩ ?_
          obtain ⟨o2, hL2, h⟩ := h
          refine .loopB (r12_Reach.b2 a0 a3 x14) (fun (x36, x37) => listEnv [(2, i6 a2), (3, i6 a3), (4, .ptr 0 1 6 0 0), (11, .own 1 x36.length), (13, i6 x16), (14, i6 (x14.length : Int)), (15, i6 x37)]) (fun (x36, x37) => [⟨6, [(TPds.lit a0)], 0, none⟩, ⟨2, x36.map TConf.cells, 0, none⟩]) (fun x43 => listEnv [(2, i6 a2), (3, i6 a3), (4, .ptr 0 1 6 0 0), (11, .own 1 x43.length), (13, i6 x16), (14, i6 (x14.length : Int))]) (fun x43 => [⟨6, [(TPds.lit a0)], 0, none⟩, ⟨2, x43.map TConf.cells, 0, none⟩]) hL2 (fun r_ => z1 = .ret r_) ?_ ?_ ?_
          · rintro x43 rfl
            try dsimp only [Fin.on] at h
            refine .reg0 rfl (.m rfl <| .a rfl <| .nil0) <| .inBlock <| .reg0 rfl (.op 0 rfl (mvV rfl) <| .op 0 rfl (addI rfl rfl) <| .op 0 rfl (asV rfl) <| .nil0) <| .keepL [0, 1] [(2, i6 a2), (3, i6 a3), (4, .ptr 0 1 6 0 0), (11, .own 1 x43.length), (12, i6 (x14.length : Int)), (13, i6 (IntKind.i64.wrap (x16 + 1)))] [⟨6, [(TPds.lit a0)], 0, none⟩, ⟨2, x43.map TConf.cells, 0, none⟩] (by decide) (by decide) ⟨.free rfl rfl, .free rfl rfl, .ptr rfl, .own rfl, .free rfl rfl, .free rfl rfl, trivial⟩ ⟨⟨_, rfl, bcBox (all2_free rfl)⟩, ⟨_, rfl, bcRow (l := x43) sl51 (Nat.le_refl _) rfl⟩, trivial⟩ ?_
            exact hn1 _ h
          · rintro r_ rfl
            exact h
          · rintro ⟨x36, x37⟩ z2 h hn2 hx2 hr2
            dsimp only [r12_Reach.b2] at h
            refine .seq <| .seq <| .reg0 rfl (.op 0 rfl (mvV rfl) <| .op 0 rfl (mvV rfl) <| .op 0 rfl (ltI rfl rfl) <| .nil0) ?_
            by_cases c81 : x37 < (x14.length : Int)
            · rw [if_pos c81] at h
              refine .condT rfl (dt c81) <| .skip <| .seq <| .block <| .seq ?_
              obtain ⟨g179_3, h⟩ := h
              obtain ⟨t179_5, g179_5, h⟩ := h
              refine .reg1 (e1 := listEnv [(2, i6 a2), (3, i6 a3), (4, .ptr 0 1 6 0 0), (11, .own 1 x36.length), (13, i6 x16), (14, i6 (x14.length : Int)), (15, i6 x37), (17, .rows (t179_5.2.1.map TConf.cells)), (18, i6 t179_5.2.2)]) (H1 := [⟨6, [(TPds.lit a0)], 0, none⟩, ⟨2, x36.map TConf.cells, 0, none⟩]) rfl ?_ ?_
              · exact .drawM [(12, 18, i6 t179_5.2.2), (11, 17, .rows (t179_5.2.1.map TConf.cells)), (10, 16, .rows (t179_5.1.map (cInt .i64))), (9, 68, i6 t179_5.2.2), (8, 67, .rows (t179_5.2.1.map TConf.cells)), (7, 66, .rows (t179_5.1.map (cInt .i64))), (6, 59, .tuple [.rows (t179_5.1.map (cInt .i64)), .rows (t179_5.2.1.map TConf.cells), i6 t179_5.2.2]), (5, 65, .tuple [.rows (t179_5.1.map (cInt .i64)), .rows (t179_5.2.1.map TConf.cells), i6 t179_5.2.2]), (4, 64, .agg (TConf.lit (rdl x36 x37))), (3, 63, .ptr 1 x36.length 2 (Int.toNat x37) 0), (2, 62, i6 x37), (1, 61, .own 1 x36.length), (0, 60, .agg (TPds.lit a0))] [] [[], [], [], [1, 2], [3, 1, 2], [0, 4, 3, 1, 2], [5, 0, 4, 3, 1, 2], [6, 5, 0, 4, 3, 1, 2], [6, 5, 0, 4, 3, 1, 2], [6, 5, 0, 4, 3, 1, 2], [7, 6, 5, 0, 4, 3, 1, 2], [8, 6, 5, 0, 4, 3, 1, 2, 10, 7], [9, 6, 5, 0, 4, 3, 1, 2, 11, 8, 10, 7]] (by rfl) (by rfl) (by rfl) (by exact ⟨oP (fun _ => ldG rfl sz28 ag28 rfl) rfl, oP (fun _ => mvO rfl) rfl, oP (fun _ => mvV rfl) rfl, oP (fun _ => ixO (l := x36) sl51 rfl rfl rfl rfl g179_3.1 g179_3.2) rfl, oP (fun _ => ldOG (l := x36) (j := x37) sl51 rfl sz31 ag31 rfl rfl (fun _ => rfl) g179_3.1 g179_3.2 (by decide) rfl) rfl, fun S hS hD hn => .oneI hS hD hn rfl rfl (callee_of rfl go15 rfl) (.pure rfl rfl (r12_Next.D g179_5)) rfl rfl rfl, oP (fun _ => mvT rfl) rfl, oP (fun _ => exT rfl rfl) rfl, oP (fun _ => exT rfl rfl) rfl, oP (fun _ => exT rfl rfl) rfl, oP (fun _ => asR rfl) rfl, oP (fun _ => asR rfl) rfl, oP (fun _ => asV rfl) rfl, trivial⟩) _ (by exact ⟨.free rfl rfl, .free rfl rfl, .ptr rfl, .own rfl, .free rfl rfl, .free rfl rfl, .free rfl rfl, .free rfl rfl, .free rfl rfl, trivial⟩) (by rfl)
              refine .seq <| .seq <| .reg0 rfl (.op 0 rfl (mvV rfl) <| .op 0 rfl (neI rfl rfl) <| .nil0) ?_
              by_cases c82 : t179_5.2.2 = 0
              · rw [if_pos c82] at h
                refine .condF rfl (nf c82) <| .skip <| .seq <| .reg0 rfl (.op 0 rfl (asV rfl) <| .nil0) <| .block <| .keepL [0, 1] [(2, i6 a2), (3, i6 a3), (4, .ptr 0 1 6 0 0), (11, .own 1 x36.length), (13, i6 x16), (14, i6 (x14.length : Int)), (15, i6 x37), (17, .rows (t179_5.2.1.map TConf.cells)), (19, i6 0)] [⟨6, [(TPds.lit a0)], 0, none⟩, ⟨2, x36.map TConf.cells, 0, none⟩] (by decide) (by decide) ⟨.free rfl rfl, .free rfl rfl, .ptr rfl, .own rfl, .free rfl rfl, .free rfl rfl, .free rfl rfl, .free rfl rfl, .free rfl rfl, trivial⟩ ⟨⟨_, rfl, bcBox (all2_free rfl)⟩, ⟨_, rfl, bcRow (l := x36) sl51 (Nat.le_refl _) rfl⟩, trivial⟩ ?_
                obtain ⟨o3, hL3, h⟩ := h
                refine .loopB (r12_Reach.b3 a3 t179_5) (fun (x45, x46) => listEnv [(2, i6 a2), (3, i6 a3), (4, .ptr 0 1 6 0 0), (11, .own 1 x45.length), (13, i6 x16), (14, i6 (x14.length : Int)), (15, i6 x37), (17, .rows (t179_5.2.1.map TConf.cells)), (19, i6 x46)]) (fun (x45, x46) => [⟨6, [(TPds.lit a0)], 0, none⟩, ⟨2, x45.map TConf.cells, 0, none⟩]) (fun x48 => listEnv [(2, i6 a2), (3, i6 a3), (4, .ptr 0 1 6 0 0), (11, .own 1 x48.length), (13, i6 x16), (14, i6 (x14.length : Int)), (15, i6 x37)]) (fun x48 => [⟨6, [(TPds.lit a0)], 0, none⟩, ⟨2, x48.map TConf.cells, 0, none⟩]) hL3 (fun r_ => z2 = .ret r_) ?_ ?_ ?_
                · rintro x48 rfl
                  try dsimp only [Fin.on] at h
                  refine .inBlock <| .reg0 rfl (.op 0 rfl (mvV rfl) <| .op 0 rfl (addI rfl rfl) <| .op 0 rfl (asV rfl) <| .nil0) <| .keepL [0, 1] [(2, i6 a2), (3, i6 a3), (4, .ptr 0 1 6 0 0), (11, .own 1 x48.length), (13, i6 x16), (14, i6 (x14.length : Int)), (15, i6 (IntKind.i64.wrap (x37 + 1)))] [⟨6, [(TPds.lit a0)], 0, none⟩, ⟨2, x48.map TConf.cells, 0, none⟩] (by decide) (by decide) ⟨.free rfl rfl, .free rfl rfl, .ptr rfl, .own rfl, .free rfl rfl, .free rfl rfl, .free rfl rfl, trivial⟩ ⟨⟨_, rfl, bcBox (all2_free rfl)⟩, ⟨_, rfl, bcRow (l := x48) sl51 (Nat.le_refl _) rfl⟩, trivial⟩ ?_
                  exact hn2 _ h
                · rintro r_ rfl
                  exact h
                · rintro ⟨x45, x46⟩ z3 h hn3 hx3 hr3
                  dsimp only [r12_Reach.b3] at h
                  refine .seq <| .seq <| .reg0 rfl (.op 0 rfl (mvV rfl) <| .op 0 rfl (mvR rfl) <| .op 0 rfl (lnR (l := t179_5.2.1) sl51 rfl) <| .op 0 rfl (ltI rfl rfl) <| .nil0) ?_
                  by_cases c93 : x46 < (t179_5.2.1.length : Int)
                  · rw [if_pos c93] at h
                    refine .condT rfl (dt c93) <| .skip <| .seq ?_
                    refine .consJ (fun s_ => r12_Reach.j1 x46 s_ z3) (fun x49 => listEnv [(2, i6 a2), (3, i6 a3), (4, .ptr 0 1 6 0 0), (11, .own 1 x49.length), (13, i6 x16), (14, i6 (x14.length : Int)), (15, i6 x37), (17, .rows (t179_5.2.1.map TConf.cells)), (19, i6 x46)]) (fun x49 => [⟨6, [(TPds.lit a0)], 0, none⟩, ⟨2, x49.map TConf.cells, 0, none⟩]) ?_ fun hJ1 => ?_
                    · rintro x49 h
                      unfold r12_Reach.j1 at h
                      try dsimp only at h
                      refine .reg0 rfl (.m rfl <| .o (addI rfl rfl) <| .a rfl <| .nil0) <| .keepL [0, 1] [(2, i6 a2), (3, i6 a3), (4, .ptr 0 1 6 0 0), (11, .own 1 x49.length), (13, i6 x16), (14, i6 (x14.length : Int)), (15, i6 x37), (17, .rows (t179_5.2.1.map TConf.cells)), (19, i6 (IntKind.i64.wrap (x46 + 1)))] [⟨6, [(TPds.lit a0)], 0, none⟩, ⟨2, x49.map TConf.cells, 0, none⟩] (by decide) (by decide) ⟨.free rfl rfl, .free rfl rfl, .ptr rfl, .own rfl, .free rfl rfl, .free rfl rfl, .free rfl rfl, .free rfl rfl, .free rfl rfl, trivial⟩ ⟨⟨_, rfl, bcBox (all2_free rfl)⟩, ⟨_, rfl, bcRow (l := x49) sl51 (Nat.le_refl _) rfl⟩, trivial⟩ ?_
                      exact hn3 _ h
                    · refine .block <| .seq <| .seq ?_
                      obtain ⟨g208_3, h⟩ := h
                      obtain ⟨t208_5, g208_5, h⟩ := h
                      refine .reg0 rfl (.o (mvO rfl) <| .o (mvR rfl) <| .m rfl <| .o (ixR (l := t179_5.2.1) (lit := TConf.lit) sl51 rfl rfl (fun _ => rfl) g208_3.1 g208_3.2) <| .o (ldCG rfl sz31 ag31 rfl) <| .callI rfl (callee_of rfl go48 rfl) (.lendC (args' := [.rows (x45.map TConf.cells), .agg (TConf.lit (rdl t179_5.2.1 x46))])  [1] false (.cons (cFixO (l := x45) sl51 rfl rfl rfl rfl) <| .cons (.free rfl rfl) <| .nil) (by decide) rfl rfl rfl rfl (r12_In.D g208_5)) <| .nil0) ?_
                      by_cases c96 : t208_5 = true
                      · rw [if_pos c96] at h
                        refine .condT rfl c96 <| .exit rfl <| .keepL [0, 1] [(2, i6 a2), (3, i6 a3), (4, .ptr 0 1 6 0 0), (11, .own 1 x45.length), (13, i6 x16), (14, i6 (x14.length : Int)), (15, i6 x37), (17, .rows (t179_5.2.1.map TConf.cells)), (19, i6 x46)] [⟨6, [(TPds.lit a0)], 0, none⟩, ⟨2, x45.map TConf.cells, 0, none⟩] (by decide) (by decide) ⟨.free rfl rfl, .free rfl rfl, .ptr rfl, .own rfl, .free rfl rfl, .free rfl rfl, .free rfl rfl, .free rfl rfl, .free rfl rfl, trivial⟩ ⟨⟨_, rfl, bcBox (all2_free rfl)⟩, ⟨_, rfl, bcRow (l := x45) sl51 (Nat.le_refl _) rfl⟩, trivial⟩ ?_
                        exact hJ1 _ h
                      · rw [if_neg c96] at h
                        refine .condF rfl (nb c96) <| .skip <| .seq <| .seq <| .reg0 rfl (.op 0 rfl (mvO rfl) <| .op 0 rfl (lnO (l := x45) sl51 rfl rfl rfl) <| .op 0 rfl (mvV rfl) <| .op 0 rfl (geI rfl rfl) <| .nil0) ?_
                        by_cases c97 : (x45.length : Int) ≥ a3
                        · rw [if_pos c97] at h
                          refine .condT rfl (dt c97) <| .seq <| .reg0 rfl (.op 0 rfl (asV rfl) <| .op 0 rfl (asV rfl) <| .nil0) ?_
                          have q100 := hr3 _ h
                          have q101 := hr2 _ q100
                          have q102 := hr1 _ q101
                          replace q102 := q102.symm
                          subst q102
                          refine .k [(8, .rows (([] : List TConf).map TConf.cells)), (9, i6 3)] ⟨.nil, .free rfl rfl, trivial⟩ ?_
                          exact .ret rfl
                        · rw [if_neg c97] at h
                          refine .condF rfl (df c97) <| .skip ?_
                          obtain ⟨g211_3, h⟩ := h
                          obtain ⟨g211_6, h⟩ := h
                          refine .room 0 <| .room 0 <| .reg0 rfl (.op 0 rfl (mvO rfl) <| .op 0 rfl (mvR rfl) <| .op 0 rfl (mvV rfl) <| .op 0 rfl (ixR (l := t179_5.2.1) (lit := TConf.lit) sl51 rfl rfl (fun _ => rfl) g211_3.1 g211_3.2) <| .op 0 rfl (ldCG rfl sz31 ag31 rfl) <| .op 2 rfl (bldL (s := 2) (cs := [i6 ((rdl t179_5.2.1 x46).P), .rows ((rdl t179_5.2.1 x46).W.map (cInt .i64))]) un51 sz31 ze31 ⟨by decide, rfl, by decide⟩ rfl rfl rfl rfl) <| .op 0 rfl (ap1 (l := x45) (rdl t179_5.2.1 x46) sl51 rfl rfl rfl (Nat.zero_le _) (elems_own (l := [(rdl t179_5.2.1 x46)]) rfl rfl) g211_6) <| .op 0 rfl (asO rfl) <| .nil0) ?_
                          refine .inBlock <| .keepL [0, 1] [(2, i6 a2), (3, i6 a3), (4, .ptr 0 1 6 0 0), (11, .own 1 ((x45 ++ [(rdl t179_5.2.1 x46)]).length)), (13, i6 x16), (14, i6 (x14.length : Int)), (15, i6 x37), (17, .rows (t179_5.2.1.map TConf.cells)), (19, i6 x46)] [⟨6, [(TPds.lit a0)], 0, none⟩, ⟨2, (x45 ++ [(rdl t179_5.2.1 x46)]).map TConf.cells, 0, none⟩] (by decide) (by decide) ⟨.free rfl rfl, .free rfl rfl, .ptr rfl, .own rfl, .free rfl rfl, .free rfl rfl, .free rfl rfl, .free rfl rfl, .free rfl rfl, trivial⟩ ⟨⟨_, rfl, bcBox (all2_free rfl)⟩, ⟨_, rfl, bcRow (l := (x45 ++ [(rdl t179_5.2.1 x46)])) sl51 (Nat.le_refl _) rfl⟩, trivial⟩ ?_
                          exact hJ1 _ h
                  · rw [if_neg c93] at h
                    refine .condF rfl (df c93) <| .exit rfl <| .keepL [0, 1] [(2, i6 a2), (3, i6 a3), (4, .ptr 0 1 6 0 0), (11, .own 1 x45.length), (13, i6 x16), (14, i6 (x14.length : Int)), (15, i6 x37)] [⟨6, [(TPds.lit a0)], 0, none⟩, ⟨2, x45.map TConf.cells, 0, none⟩] (by decide) (by decide) ⟨.free rfl rfl, .free rfl rfl, .ptr rfl, .own rfl, .free rfl rfl, .free rfl rfl, .free rfl rfl, trivial⟩ ⟨⟨_, rfl, bcBox (all2_free rfl)⟩, ⟨_, rfl, bcRow (l := x45) sl51 (Nat.le_refl _) rfl⟩, trivial⟩ ?_
                    exact hx3 _ h
              · rw [if_neg c82] at h
                refine .condT rfl (nt c82) <| .seq <| .reg0 rfl (.op 0 rfl (mvV rfl) <| .op 0 rfl (asV rfl) <| .op 0 rfl (asV rfl) <| .nil0) ?_
                have q103 := hr2 _ h
                have q104 := hr1 _ q103
                replace q104 := q104.symm
                subst q104
                refine .k [(8, .rows (([] : List TConf).map TConf.cells)), (9, i6 t179_5.2.2)] ⟨.nil, .free rfl rfl, trivial⟩ ?_
                exact .ret rfl
            · rw [if_neg c81] at h
              refine .condF rfl (df c81) <| .exit rfl <| .keepL [0, 1] [(2, i6 a2), (3, i6 a3), (4, .ptr 0 1 6 0 0), (11, .own 1 x36.length), (13, i6 x16), (14, i6 (x14.length : Int))] [⟨6, [(TPds.lit a0)], 0, none⟩, ⟨2, x36.map TConf.cells, 0, none⟩] (by decide) (by decide) ⟨.free rfl rfl, .free rfl rfl, .ptr rfl, .own rfl, .free rfl rfl, .free rfl rfl, trivial⟩ ⟨⟨_, rfl, bcBox (all2_free rfl)⟩, ⟨_, rfl, bcRow (l := x36) sl51 (Nat.le_refl _) rfl⟩, trivial⟩ ?_
              exact hx2 _ h
        · rw [if_neg c56] at h
          refine .condF rfl (df c56) <| .exit rfl <| .keepL [1] [(11, .own 0 x14.length)] [⟨2, x14.map TConf.cells, 0, none⟩] (by decide) (by decide) ⟨.own rfl, trivial⟩ ⟨⟨_, rfl, bcRow (l := x14) sl51 (Nat.le_refl _) rfl⟩, trivial⟩ ?_
          exact hx1 _ h
  · rw [if_neg c1] at h
    refine .condT rfl (nt c1) <| .seq <| .reg0 rfl (.op 0 rfl (mvV rfl) <| .op 0 rfl (asV rfl) <| .op 0 rfl (asV rfl) <| .nil0) ?_
    replace h := h.symm
    subst h
    refine .k [(8, .rows (([] : List TConf).map TConf.cells)), (9, i6 t2_2)] ⟨.nil, .free rfl rfl, trivial⟩ ?_
    exact .ret rfl
def r12_Sames.b1 (a0 : List TConf) (a1 : List TConf) : Int → Rnd Int Unit Bool → Prop := fun x1 z1 => if x1 < (a0.length : Int) then (((InR x1 a0.length)) ∧ ((InR x1 a1.length)) ∧ ∃ t13_8 : Bool, (r12_Same.f (rdl a0 x1) (rdl a1 x1) t13_8) ∧ if t13_8 = true then (z1 = .next (IntKind.i64.wrap (x1 + 1))) else (z1 = .ret false)) else (z1 = .exit ())
def r12_Sames.f (a0 : List TConf) (a1 : List TConf) (r : Bool) : Prop :=
  if (a0.length : Int) = (a1.length : Int) then (∃ o1 : Fin Unit Bool, Loop (r12_Sames.b1 a0 a1) 0 o1 ∧ o1.on (fun _ => r = true) (fun r_ => r = r_)) else (r = false)
theorem r12_Sames.D {a0 a1 r} (h : r12_Sames.f a0 a1 r) : D Tryz.prog X (.callH 19 [.rows (a0.map TConf.cells), .rows (a1.map TConf.cells)] [] (.val (.bool r)) []) := by
  unfold r12_Sames.f at h
  refine .enter 27 0 fn19 rfl rfl rfl <| .seq <| .reg0 rfl (.op 0 rfl (asV rfl) <| .nil0) <| .seq <| .seq <| .reg0 rfl (.op 0 rfl (mvR rfl) <| .op 0 rfl (lnR (l := a0) sl51 rfl) <| .op 0 rfl (mvR rfl) <| .op 0 rfl (lnR (l := a1) sl51 rfl) <| .op 0 rfl (neI rfl rfl) <| .nil0) ?_
  by_cases c1 : (a0.length : Int) = (a1.length : Int)
  · rw [if_pos c1] at h
    refine .condF rfl (nf c1) <| .skip <| .seq <| .seq <| .reg0 rfl (.op 0 rfl (asV rfl) <| .nil0) <| .block <| .keepL [] [(0, .rows (a0.map TConf.cells)), (1, .rows (a1.map TConf.cells)), (5, i6 0)] [] (by decide) (by decide) ⟨.free rfl rfl, .free rfl rfl, .free rfl rfl, trivial⟩ trivial ?_
    obtain ⟨o1, hL1, h⟩ := h
    refine .loopB (r12_Sames.b1 a0 a1) (fun x1 => listEnv [(0, .rows (a0.map TConf.cells)), (1, .rows (a1.map TConf.cells)), (5, i6 x1)]) (fun x1 => []) (fun _ => listEnv []) (fun _ => []) hL1 (fun r_ => r = r_) ?_ ?_ ?_
    · rintro ⟨⟩ rfl
      try dsimp only [Fin.on] at h
      refine .seq <| .reg0 rfl (.op 0 rfl (asV rfl) <| .nil0) ?_
      replace h := h.symm
      subst h
      refine .kf [(4, bo true)] rfl rfl ?_
      exact .ret rfl
    · rintro r_ rfl
      exact h
    · rintro x1 z1 h hn1 hx1 hr1
      dsimp only [r12_Sames.b1] at h
      refine .seq <| .seq <| .reg0 rfl (.op 0 rfl (mvV rfl) <| .op 0 rfl (mvR rfl) <| .op 0 rfl (lnR (l := a0) sl51 rfl) <| .op 0 rfl (ltI rfl rfl) <| .nil0) ?_
      by_cases c6 : x1 < (a0.length : Int)
      · rw [if_pos c6] at h
        refine .condT rfl (dt c6) <| .skip <| .seq <| .block <| .seq ?_
        obtain ⟨g13_2, h⟩ := h
        obtain ⟨g13_6, h⟩ := h
        obtain ⟨t13_8, g13_8, h⟩ := h
        refine .reg1 (e1 := listEnv [(0, .rows (a0.map TConf.cells)), (1, .rows (a1.map TConf.cells)), (5, i6 x1), (26, bo (!t13_8))]) (H1 := []) rfl ?_ ?_
        · exact .drawM [(9, 26, bo (!t13_8)), (8, 25, bo t13_8), (7, 24, .agg (TConf.lit (rdl a1 x1))), (6, 23, .cptr (TConf.lit (rdl a1 x1)) 0), (5, 22, i6 x1), (4, 21, .rows (a1.map TConf.cells)), (3, 20, .agg (TConf.lit (rdl a0 x1))), (2, 19, .cptr (TConf.lit (rdl a0 x1)) 0), (1, 18, i6 x1), (0, 17, .rows (a0.map TConf.cells))] [] [[], [], [0, 1], [2, 0, 1], [], [], [4, 5], [6, 4, 5], [3, 2, 0, 1, 7, 6, 4, 5], [8, 3, 2, 0, 1, 7, 6, 4, 5]] (by rfl) (by rfl) (by rfl) (by exact ⟨oP (fun _ => mvR rfl) rfl, oP (fun _ => mvV rfl) rfl, oP (fun _ => ixR (l := a0) (lit := TConf.lit) sl51 rfl rfl (fun _ => rfl) g13_2.1 g13_2.2) rfl, oP (fun _ => ldCG rfl sz31 ag31 rfl) rfl, oP (fun _ => mvR rfl) rfl, oP (fun _ => mvV rfl) rfl, oP (fun _ => ixR (l := a1) (lit := TConf.lit) sl51 rfl rfl (fun _ => rfl) g13_6.1 g13_6.2) rfl, oP (fun _ => ldCG rfl sz31 ag31 rfl) rfl, fun S hS hD hn => .oneI hS hD hn rfl rfl (callee_of rfl go10 rfl) (.pure rfl rfl (r12_Same.D g13_8)) rfl rfl rfl, oP (fun _ => notB rfl) rfl, trivial⟩) _ (by exact ⟨.free rfl rfl, .free rfl rfl, .free rfl rfl, .free rfl rfl, trivial⟩) (by rfl)
        by_cases c7 : t13_8 = true
        · rw [if_pos c7] at h
          refine .condF rfl (bnotF c7) <| .skip <| .inBlock <| .reg0 rfl (.op 0 rfl (mvV rfl) <| .op 0 rfl (addI rfl rfl) <| .op 0 rfl (asV rfl) <| .nil0) <| .kf [(0, .rows (a0.map TConf.cells)), (1, .rows (a1.map TConf.cells)), (5, i6 (IntKind.i64.wrap (x1 + 1)))] rfl rfl ?_
          exact hn1 _ h
        · rw [if_neg c7] at h
          refine .condT rfl (bnotT (nb c7)) <| .seq <| .reg0 rfl (.op 0 rfl (asV rfl) <| .nil0) ?_
          have q3 := hr1 _ h
          replace q3 := q3.symm
          subst q3
          refine .kf [(4, bo false)] rfl rfl ?_
          exact .ret rfl
      · rw [if_neg c6] at h
        refine .condF rfl (df c6) <| .exit rfl <| .keepL [] [] [] (by decide) (by decide) trivial trivial ?_
        exact hx1 _ h
  · rw [if_neg c1] at h
    refine .condT rfl (nt c1) <| .seq <| .reg0 rfl (.op 0 rfl (asV rfl) <| .nil0) ?_
    replace h := h.symm
    subst h
    refine .kf [(4, bo false)] rfl rfl ?_
    exact .ret rfl
def l12_StepsReaches.j2 (a0 : TPds) (a1 : TConf) (x1 : Int) : Int → Bool → Prop := fun x2 r => if ((decide ((a0.Rules.length : Int) > 60)) || (decide ((a1.W.length : Int) > 100))) = true then (r = true) else (∃ t9_4 : (List TConf) × Int, (steps_Reach.f a0 a1 x1 x2 t9_4) ∧ ∃ t10_4 : (List TConf) × Int, (r12_Reach.f a0 a1 x1 x2 t10_4) ∧ ∃ t11_2 : Bool, (r12_Sames.f t9_4.1 t10_4.1 t11_2) ∧ r = (t11_2 && (t9_4.2 == t10_4.2)))
def l12_StepsReaches.j1 (a0 : TPds) (a1 : TConf) (a3 : Int) : Int → Bool → Prop := fun x1 r => if ((decide (a3 > 300)) && (decide (a3 ≤ 100000))) = true then (l12_StepsReaches.j2 a0 a1 x1 300 r) else (l12_StepsReaches.j2 a0 a1 x1 a3 r)
def l12_StepsReaches.f (a0 : TPds) (a1 : TConf) (a2 : Int) (a3 : Int) (r : Bool) : Prop :=
  ∃ t2_0 : Bool, (l12_awake.f t2_0) ∧ if t2_0 = true then (if ((decide (a2 > 30)) && (decide (a2 ≤ 1000))) = true then (l12_StepsReaches.j1 a0 a1 a3 30 r) else (l12_StepsReaches.j1 a0 a1 a3 a2 r)) else (r = false)
theorem l12_StepsReaches.D {a0 a1 a2 a3 r} (h : l12_StepsReaches.f a0 a1 a2 a3 r) : D Tryz.prog X (.callH 7 [.agg (TPds.lit a0), .agg (TConf.lit a1), .val (.int .i64 a2), .val (.int .i64 a3)] [] (.val (.bool r)) []) := by
  unfold l12_StepsReaches.f at h
  refine .enter 61 0 fn7 rfl rfl rfl <| .seq <| .room 0 <| .room 0 <| .reg0 rfl (.op 0 rfl (bxP (s := 6) (cs := (TPds.lit a0)) rfl ⟨rfl, by decide, rfl⟩ rfl) <| .op 1 rfl (bxP (s := 2) (cs := (TConf.lit a1)) rfl ⟨rfl, by decide, rfl⟩ rfl) <| .op 0 rfl (asV rfl) <| .nil0) <| .seq <| .seq ?_
  obtain ⟨t2_0, g2_0, h⟩ := h
  refine .reg0 rfl (.c rfl go12 rfl rfl rfl (l12_awake.D g2_0) <| .o (notB rfl) <| .nil0) ?_
  by_cases c1 : t2_0 = true
  · rw [if_pos c1] at h
    refine .condF rfl (bnotF c1) <| .skip <| .seq <| .seq ?_
    refine .reg0 (e1 := listEnv [(2, i6 a2), (3, i6 a3), (4, .ptr 0 1 6 0 0), (5, .ptr 1 1 2 0 0), (20, bo ((decide (a2 > 30)) && (decide (a2 ≤ 1000))))]) (H1 := [⟨6, [(TPds.lit a0)], 0, none⟩, ⟨2, [(TConf.lit a1)], 0, none⟩]) rfl ?_ ?_
    · refine .m rfl <| .o (gtI rfl rfl) <| .m rfl <| ?_
      by_cases c2 : a2 > 30
      · exact (.g rfl (dt c2) (mvV rfl) <| .g rfl (dt c2) (leI rfl rfl) <| .o (pkTV rfl (dt c2) rfl) <| .nilL _ ⟨.free rfl rfl, .free rfl rfl, .ptr rfl, .ptr rfl, cB rfl (mAndT (dt c2) rfl), trivial⟩)
      · exact (.n rfl (df c2) <| .n rfl (df c2) <| .o (pkFV rfl (df c2) rfl) <| .nilL _ ⟨.free rfl rfl, .free rfl rfl, .ptr rfl, .ptr rfl, cB rfl (mAndF (df c2)), trivial⟩)
    refine .consJ (fun s_ => l12_StepsReaches.j1 a0 a1 a3 s_ r) (fun x1 => listEnv [(2, i6 x1), (3, i6 a3), (4, .ptr 0 1 6 0 0), (5, .ptr 1 1 2 0 0)]) (fun x1 => [⟨6, [(TPds.lit a0)], 0, none⟩, ⟨2, [(TConf.lit a1)], 0, none⟩]) ?_ fun hJ1 => ?_
    · rintro x1 h
      unfold l12_StepsReaches.j1 at h
      try dsimp only at h
      refine .seq <| .seq ?_
      refine .reg0 (e1 := listEnv [(2, i6 x1), (3, i6 a3), (4, .ptr 0 1 6 0 0), (5, .ptr 1 1 2 0 0), (26, bo ((decide (a3 > 300)) && (decide (a3 ≤ 100000))))]) (H1 := [⟨6, [(TPds.lit a0)], 0, none⟩, ⟨2, [(TConf.lit a1)], 0, none⟩]) rfl ?_ ?_
      · refine .m rfl <| .o (gtI rfl rfl) <| .m rfl <| ?_
        by_cases c4 : a3 > 300
        · exact (.g rfl (dt c4) (mvV rfl) <| .g rfl (dt c4) (leI rfl rfl) <| .o (pkTV rfl (dt c4) rfl) <| .nilL _ ⟨.free rfl rfl, .free rfl rfl, .ptr rfl, .ptr rfl, cB rfl (mAndT (dt c4) rfl), trivial⟩)
        · exact (.n rfl (df c4) <| .n rfl (df c4) <| .o (pkFV rfl (df c4) rfl) <| .nilL _ ⟨.free rfl rfl, .free rfl rfl, .ptr rfl, .ptr rfl, cB rfl (mAndF (df c4)), trivial⟩)
      refine .consJ (fun s_ => l12_StepsReaches.j2 a0 a1 x1 s_ r) (fun x2 => listEnv [(2, i6 x1), (3, i6 x2), (4, .ptr 0 1 6 0 0), (5, .ptr 1 1 2 0 0)]) (fun x2 => [⟨6, [(TPds.lit a0)], 0, none⟩, ⟨2, [(TConf.lit a1)], 0, none⟩]) ?_ fun hJ2 => ?_
      · rintro x2 h
        unfold l12_StepsReaches.j2 at h
        try dsimp only at h
        refine .seq <| .seq ?_
        refine .reg0 (e1 := listEnv [(2, i6 x1), (3, i6 x2), (4, .ptr 0 1 6 0 0), (5, .ptr 1 1 2 0 0), (36, bo ((decide ((a0.Rules.length : Int) > 60)) || (decide ((a1.W.length : Int) > 100))))]) (H1 := [⟨6, [(TPds.lit a0)], 0, none⟩, ⟨2, [(TConf.lit a1)], 0, none⟩]) rfl ?_ ?_
        · refine .o (faP fa28_3 rfl) <| .o (ldP rfl sz26 ag26 rfl) <| .o (lnR (l := a0.Rules) sl26 rfl) <| .o (gtI rfl rfl) <| .m rfl <| ?_
          by_cases c6 : (a0.Rules.length : Int) > 60
          · exact (.n rfl (dt c6) <| .n rfl (dt c6) <| .n rfl (dt c6) <| .n rfl (dt c6) <| .o (pkTV rfl (dt c6) rfl) <| .nilL _ ⟨.free rfl rfl, .free rfl rfl, .ptr rfl, .ptr rfl, cB rfl (mOrT (dt c6)), trivial⟩)
          · exact (.g rfl (df c6) (faP fa31_1 rfl) <| .g rfl (df c6) (ldP rfl sz29 ag29 rfl) <| .g rfl (df c6) (lnR (l := a1.W) sl29 rfl) <| .g rfl (df c6) (gtI rfl rfl) <| .o (pkFV rfl (df c6) rfl) <| .nilL _ ⟨.free rfl rfl, .free rfl rfl, .ptr rfl, .ptr rfl, cB rfl (mOrF (df c6) rfl), trivial⟩)
        by_cases c7 : ((decide ((a0.Rules.length : Int) > 60)) || (decide ((a1.W.length : Int) > 100))) = true
        · rw [if_pos c7] at h
          refine .condT rfl c7 <| .seq <| .reg0 rfl (.op 0 rfl (asV rfl) <| .nil0) ?_
          replace h := h.symm
          subst h
          refine .kf [(8, bo true)] rfl rfl ?_
          exact .ret rfl
        · rw [if_neg c7] at h
          refine .condF rfl (nb c7) <| .skip <| .seq ?_
          obtain ⟨t9_4, g9_4, h⟩ := h
          refine .reg0 rfl (.o (ldG rfl sz28 ag28 rfl) <| .o (ldG rfl sz31 ag31 rfl) <| .m rfl <| .m rfl <| .c rfl go24 rfl rfl rfl (steps_Reach.D g9_4) <| .o (mvT rfl) <| .o (exT rfl rfl) <| .o (exT rfl rfl) <| .o (asR rfl) <| .a rfl <| .nil0) <| .seq ?_
          obtain ⟨t10_4, g10_4, h⟩ := h
          refine .reg0 rfl (.o (ldG rfl sz28 ag28 rfl) <| .o (ldG rfl sz31 ag31 rfl) <| .m rfl <| .m rfl <| .c rfl go25 rfl rfl rfl (r12_Reach.D g10_4) <| .o (mvT rfl) <| .o (exT rfl rfl) <| .o (exT rfl rfl) <| .o (asR rfl) <| .a rfl <| .nil0) <| .seq ?_
          obtain ⟨t11_2, g11_2, h⟩ := h
          refine .reg0 (e1 := listEnv [(8, bo (t11_2 && (t9_4.2 == t10_4.2)))]) (H1 := [⟨6, [(TPds.lit a0)], 0, none⟩, ⟨2, [(TConf.lit a1)], 0, none⟩]) rfl ?_ ?_
          · refine .o (mvR rfl) <| .o (mvR rfl) <| .c rfl go19 rfl rfl rfl (r12_Sames.D g11_2) <| .m rfl <| ?_
            by_cases c8 : t11_2 = true
            · exact (.g rfl c8 (mvV rfl) <| .g rfl c8 (mvV rfl) <| .g rfl c8 (eqI rfl rfl) <| .o (pkTV rfl c8 rfl) <| .a rfl <| .nilL _ ⟨cB rfl (mAndT c8 rfl), trivial⟩)
            · exact (.n rfl (nb c8) <| .n rfl (nb c8) <| .n rfl (nb c8) <| .o (pkFV rfl (nb c8) rfl) <| .a rfl <| .nilL _ ⟨cB rfl (mAndF (nb c8)), trivial⟩)
          replace h := h.symm
          subst h
          refine .kf [(8, bo (t11_2 && (t9_4.2 == t10_4.2)))] rfl rfl ?_
          exact .ret rfl
      · by_cases c9 : ((decide (a3 > 300)) && (decide (a3 ≤ 100000))) = true
        · rw [if_pos c9] at h
          refine .condT rfl c9 <| .reg0 rfl (.a rfl <| .nil0) <| .keepL [0, 1] [(2, i6 x1), (3, i6 300), (4, .ptr 0 1 6 0 0), (5, .ptr 1 1 2 0 0)] [⟨6, [(TPds.lit a0)], 0, none⟩, ⟨2, [(TConf.lit a1)], 0, none⟩] (by decide) (by decide) ⟨.free rfl rfl, .free rfl rfl, .ptr rfl, .ptr rfl, trivial⟩ ⟨⟨_, rfl, bcBox (all2_free rfl)⟩, ⟨_, rfl, bcBox (all2_free rfl)⟩, trivial⟩ ?_
          exact hJ2 _ h
        · rw [if_neg c9] at h
          refine .condF rfl (nb c9) <| .skip <| .keepL [0, 1] [(2, i6 x1), (3, i6 a3), (4, .ptr 0 1 6 0 0), (5, .ptr 1 1 2 0 0)] [⟨6, [(TPds.lit a0)], 0, none⟩, ⟨2, [(TConf.lit a1)], 0, none⟩] (by decide) (by decide) ⟨.free rfl rfl, .free rfl rfl, .ptr rfl, .ptr rfl, trivial⟩ ⟨⟨_, rfl, bcBox (all2_free rfl)⟩, ⟨_, rfl, bcBox (all2_free rfl)⟩, trivial⟩ ?_
          exact hJ2 _ h
    · by_cases c10 : ((decide (a2 > 30)) && (decide (a2 ≤ 1000))) = true
      · rw [if_pos c10] at h
        refine .condT rfl c10 <| .reg0 rfl (.a rfl <| .nil0) <| .keepL [0, 1] [(2, i6 30), (3, i6 a3), (4, .ptr 0 1 6 0 0), (5, .ptr 1 1 2 0 0)] [⟨6, [(TPds.lit a0)], 0, none⟩, ⟨2, [(TConf.lit a1)], 0, none⟩] (by decide) (by decide) ⟨.free rfl rfl, .free rfl rfl, .ptr rfl, .ptr rfl, trivial⟩ ⟨⟨_, rfl, bcBox (all2_free rfl)⟩, ⟨_, rfl, bcBox (all2_free rfl)⟩, trivial⟩ ?_
        exact hJ1 _ h
      · rw [if_neg c10] at h
        refine .condF rfl (nb c10) <| .skip <| .keepL [0, 1] [(2, i6 a2), (3, i6 a3), (4, .ptr 0 1 6 0 0), (5, .ptr 1 1 2 0 0)] [⟨6, [(TPds.lit a0)], 0, none⟩, ⟨2, [(TConf.lit a1)], 0, none⟩] (by decide) (by decide) ⟨.free rfl rfl, .free rfl rfl, .ptr rfl, .ptr rfl, trivial⟩ ⟨⟨_, rfl, bcBox (all2_free rfl)⟩, ⟨_, rfl, bcBox (all2_free rfl)⟩, trivial⟩ ?_
        exact hJ1 _ h
  · rw [if_neg c1] at h
    refine .condT rfl (bnotT (nb c1)) <| .seq <| .reg0 rfl (.op 0 rfl (asV rfl) <| .nil0) ?_
    replace h := h.symm
    subst h
    refine .kf [(8, bo false)] rfl rfl ?_
    exact .ret rfl
end Go.RM.Tryz
