/- GG, for the statement StepsParts: what it needs, no more. -/
import Derived.Test.YtkcmehgfndfbhaaGreatDoorZStepsPartsGF
set_option linter.unusedVariables false
set_option maxRecDepth 8000
set_option maxHeartbeats 4000000
namespace Go.RM.Tryz
open Go.RM Go.Proofs
abbrev GG_c0 : List PV := [bo false, i6 1, u6 0, nul, nul, nul]
abbrev GG_c1 : List PV := [i6 2, i6 9, nul, i6 2, i6 3, .own 3 2]
def r12_Same.b1 (a0 : TConf) (a1 : TConf) : Int → Rnd Int Unit Bool → Prop := fun x1 z1 => if x1 < (a0.W.length : Int) then (((InR x1 a0.W.length)) ∧ ((InR x1 a1.W.length)) ∧ if (rdl a0.W x1) = (rdl a1.W x1) then (z1 = .next (IntKind.i64.wrap (x1 + 1))) else (z1 = .ret false)) else (z1 = .exit ())
def r12_Same.f (a0 : TConf) (a1 : TConf) (r : Bool) : Prop :=
  if ((!(a0.P == a1.P)) || ((a0.W.length : Int) != (a1.W.length : Int))) = true then (r = false) else (∃ o1 : Fin Unit Bool, Loop (r12_Same.b1 a0 a1) 0 o1 ∧ o1.on (fun _ => r = true) (fun r_ => r = r_))
theorem r12_Same.D {a0 a1 r} (h : r12_Same.f a0 a1 r) : D Tryz.prog X (.callH 10 [.agg (TConf.lit a0), .agg (TConf.lit a1)] [] (.val (.bool r)) []) := by
  unfold r12_Same.f at h
  refine .enter 38 0 fn10 rfl rfl rfl <| .seq <| .room 0 <| .room 0 <| .reg0 rfl (.op 0 rfl (bxP (s := 2) (cs := (TConf.lit a0)) rfl ⟨rfl, by decide, rfl⟩ rfl) <| .op 1 rfl (bxP (s := 2) (cs := (TConf.lit a1)) rfl ⟨rfl, by decide, rfl⟩ rfl) <| .op 0 rfl (asV rfl) <| .nil0) <| .seq <| .seq ?_
  refine .reg0 (e1 := listEnv [(2, .ptr 0 1 2 0 0), (3, .ptr 1 1 2 0 0), (19, bo ((!(a0.P == a1.P)) || ((a0.W.length : Int) != (a1.W.length : Int))))]) (H1 := [⟨2, [(TConf.lit a0)], 0, none⟩, ⟨2, [(TConf.lit a1)], 0, none⟩]) rfl ?_ ?_
  · refine .o (faP fa31_0 rfl) <| .o (ldP rfl sz3 ag3 rfl) <| .o (faP fa31_0 rfl) <| .o (ldP rfl sz3 ag3 rfl) <| .o (neI rfl rfl) <| .m rfl <| ?_
    by_cases c1 : a0.P = a1.P
    · exact (.g rfl (nf c1) (faP fa31_1 rfl) <| .g rfl (nf c1) (ldP rfl sz29 ag29 rfl) <| .g rfl (nf c1) (lnR (l := a0.W) sl29 rfl) <| .g rfl (nf c1) (faP fa31_1 rfl) <| .g rfl (nf c1) (ldP rfl sz29 ag29 rfl) <| .g rfl (nf c1) (lnR (l := a1.W) sl29 rfl) <| .g rfl (nf c1) (neI rfl rfl) <| .o (pkFV rfl (nf c1) rfl) <| .nilL _ ⟨.ptr rfl, .ptr rfl, cB rfl (mOrF (bnotF (bt c1)) rfl), trivial⟩)
    · exact (.n rfl (nt c1) <| .n rfl (nt c1) <| .n rfl (nt c1) <| .n rfl (nt c1) <| .n rfl (nt c1) <| .n rfl (nt c1) <| .n rfl (nt c1) <| .o (pkTV rfl (nt c1) rfl) <| .nilL _ ⟨.ptr rfl, .ptr rfl, cB rfl (mOrT (bnotT (bn c1))), trivial⟩)
  by_cases c2 : ((!(a0.P == a1.P)) || ((a0.W.length : Int) != (a1.W.length : Int))) = true
  · rw [if_pos c2] at h
    refine .condT rfl c2 <| .seq <| .reg0 rfl (.op 0 rfl (asV rfl) <| .nil0) ?_
    replace h := h.symm
    subst h
    refine .kf [(4, bo false)] rfl rfl ?_
    exact .ret rfl
  · rw [if_neg c2] at h
    refine .condF rfl (nb c2) <| .skip <| .seq <| .seq <| .reg0 rfl (.op 0 rfl (asV rfl) <| .nil0) <| .block <| .keepL [0, 1] [(2, .ptr 0 1 2 0 0), (3, .ptr 1 1 2 0 0), (5, i6 0)] [⟨2, [(TConf.lit a0)], 0, none⟩, ⟨2, [(TConf.lit a1)], 0, none⟩] (by decide) (by decide) ⟨.ptr rfl, .ptr rfl, .free rfl rfl, trivial⟩ ⟨⟨_, rfl, bcBox (all2_free rfl)⟩, ⟨_, rfl, bcBox (all2_free rfl)⟩, trivial⟩ ?_
    obtain ⟨o1, hL1, h⟩ := h
    refine .loopB (r12_Same.b1 a0 a1) (fun x1 => listEnv [(2, .ptr 0 1 2 0 0), (3, .ptr 1 1 2 0 0), (5, i6 x1)]) (fun x1 => [⟨2, [(TConf.lit a0)], 0, none⟩, ⟨2, [(TConf.lit a1)], 0, none⟩]) (fun _ => listEnv []) (fun _ => []) hL1 (fun r_ => r = r_) ?_ ?_ ?_
    · rintro ⟨⟩ rfl
      try dsimp only [Fin.on] at h
      refine .seq <| .reg0 rfl (.op 0 rfl (asV rfl) <| .nil0) ?_
      replace h := h.symm
      subst h
      refine .kf [(4, bo true)] rfl rfl ?_
      exact .ret rfl
    · rintro r_ rfl
      exact h
    · rintro x1 z1 h hn1 hx1 hr1
      dsimp only [r12_Same.b1] at h
      refine .seq <| .seq <| .reg0 rfl (.op 0 rfl (mvV rfl) <| .op 0 rfl (faP fa31_1 rfl) <| .op 0 rfl (ldP rfl sz29 ag29 rfl) <| .op 0 rfl (lnR (l := a0.W) sl29 rfl) <| .op 0 rfl (ltI rfl rfl) <| .nil0) ?_
      by_cases c7 : x1 < (a0.W.length : Int)
      · rw [if_pos c7] at h
        refine .condT rfl (dt c7) <| .skip <| .seq <| .block <| .seq ?_
        obtain ⟨g14_3, h⟩ := h
        obtain ⟨g14_8, h⟩ := h
        refine .reg1 (e1 := listEnv [(2, .ptr 0 1 2 0 0), (3, .ptr 1 1 2 0 0), (5, i6 x1), (37, bo ((rdl a0.W x1) != (rdl a1.W x1)))]) (H1 := [⟨2, [(TConf.lit a0)], 0, none⟩, ⟨2, [(TConf.lit a1)], 0, none⟩]) rfl ?_ ?_
        · exact .drawM [(10, 37, bo ((rdl a0.W x1) != (rdl a1.W x1))), (9, 36, i6 (rdl a1.W x1)), (8, 35, .cptr ((cInt .i64) (rdl a1.W x1)) 0), (7, 34, i6 x1), (6, 33, .rows (a1.W.map (cInt .i64))), (5, 32, .ptr 1 1 2 0 1), (4, 31, i6 (rdl a0.W x1)), (3, 30, .cptr ((cInt .i64) (rdl a0.W x1)) 0), (2, 29, i6 x1), (1, 28, .rows (a0.W.map (cInt .i64))), (0, 27, .ptr 0 1 2 0 1)] [] [[], [0], [], [1, 0, 2], [3, 1, 0, 2], [], [5], [], [6, 5, 7], [8, 6, 5, 7], [4, 3, 1, 0, 2, 9, 8, 6, 5, 7]] (by rfl) (by rfl) (by rfl) (by exact ⟨oP (fun _ => faP fa31_1 rfl) rfl, oP (fun _ => ldP rfl sz29 ag29 rfl) rfl, oP (fun _ => mvV rfl) rfl, oP (fun _ => ixR (l := a0.W) (lit := (cInt .i64)) sl29 rfl rfl (fun _ => rfl) g14_3.1 g14_3.2) rfl, oP (fun _ => ldC rfl sz3 ag3 rfl) rfl, oP (fun _ => faP fa31_1 rfl) rfl, oP (fun _ => ldP rfl sz29 ag29 rfl) rfl, oP (fun _ => mvV rfl) rfl, oP (fun _ => ixR (l := a1.W) (lit := (cInt .i64)) sl29 rfl rfl (fun _ => rfl) g14_8.1 g14_8.2) rfl, oP (fun _ => ldC rfl sz3 ag3 rfl) rfl, oP (fun _ => neI rfl rfl) rfl, trivial⟩) _ (by exact ⟨.ptr rfl, .ptr rfl, .free rfl rfl, .free rfl rfl, trivial⟩) (by rfl)
        by_cases c8 : (rdl a0.W x1) = (rdl a1.W x1)
        · rw [if_pos c8] at h
          refine .condF rfl (nf c8) <| .skip <| .inBlock <| .reg0 rfl (.op 0 rfl (mvV rfl) <| .op 0 rfl (addI rfl rfl) <| .op 0 rfl (asV rfl) <| .nil0) <| .keepL [0, 1] [(2, .ptr 0 1 2 0 0), (3, .ptr 1 1 2 0 0), (5, i6 (IntKind.i64.wrap (x1 + 1)))] [⟨2, [(TConf.lit a0)], 0, none⟩, ⟨2, [(TConf.lit a1)], 0, none⟩] (by decide) (by decide) ⟨.ptr rfl, .ptr rfl, .free rfl rfl, trivial⟩ ⟨⟨_, rfl, bcBox (all2_free rfl)⟩, ⟨_, rfl, bcBox (all2_free rfl)⟩, trivial⟩ ?_
          exact hn1 _ h
        · rw [if_neg c8] at h
          refine .condT rfl (nt c8) <| .seq <| .reg0 rfl (.op 0 rfl (asV rfl) <| .nil0) ?_
          have q3 := hr1 _ h
          replace q3 := q3.symm
          subst q3
          refine .kf [(4, bo false)] rfl rfl ?_
          exact .ret rfl
      · rw [if_neg c7] at h
        refine .condF rfl (df c7) <| .exit rfl <| .keepL [] [] [] (by decide) (by decide) trivial trivial ?_
        exact hx1 _ h
def l12_Example.f (r : TPds) : Prop :=
  r = (TPds.mk (TSpace.mk 2 9 []) 2 3 [(TRule.mk 0 1 0 [2, 1] (TWeight.mk false 1 (TFacts.mk 0 []) [] [])), (TRule.mk 0 2 1 [] (TWeight.mk false 1 (TFacts.mk 0 []) [] []))])
theorem l12_Example.D {r} (h : l12_Example.f r) : D Tryz.prog X (.callH 37 [] [] (.agg (TPds.lit r)) []) := by
  unfold l12_Example.f at h
  refine .enter 11 0 fn37 rfl rfl rfl <| .seq <| .room 0 <| .reg0 rfl (.op 0 rfl (alP (s := 6) ze28 ⟨rfl, by decide, rfl⟩ rfl) <| .nil0) <| .seq <| .room 0 <| .reg0 rfl (.op 0 rfl (bldS (cs := GG_c0) ze39 pl39 rfl rfl) <| .op 1 rfl (alP (s := 6) ze39 ⟨rfl, by decide, rfl⟩ rfl) <| .op 0 rfl (stB (cs0 := [bo false, i6 0, u6 0, nul, nul, nul]) (cs := GG_c0) (cs1 := GG_c0) rfl rfl sz39 rfl ⟨Nat.le_of_ble_eq_true rfl, rfl⟩ rfl) <| .nil0) ?_
  refine .seq <| .room 0 <| .room 0 <| .reg0 rfl (.op 0 rfl (bldS (cs := [i6 2, i6 9, nul]) ze25 pl25 rfl rfl) <| .op 2 rfl (bldL (s := 1) (cs := [i6 2, i6 1]) un29 sz3 ze3 ⟨by decide, rfl, by decide⟩ rfl rfl rfl rfl) <| .op 0 rfl (ldG rfl sz39 ag39 rfl) <| .op 0 rfl (bldS (cs := [i6 0, i6 1, i6 0, .own 2 ([2, 1].length), bo false, i6 1, u6 0, nul, nul, nul]) ze70 pl70 rfl rfl) <| .op 0 rfl (ldG rfl sz39 ag39 rfl) <| .op 0 rfl (bldS (cs := [i6 0, i6 2, i6 1, nul, bo false, i6 1, u6 0, nul, nul, nul]) ze70 pl70 rfl rfl) <| .op 3 rfl (bldL (s := 10) (cs := [i6 0, i6 1, i6 0, .own 2 ([2, 1].length), bo false, i6 1, u6 0, nul, nul, nul, i6 0, i6 2, i6 1, nul, bo false, i6 1, u6 0, nul, nul, nul]) un26 sz70 ze70 ⟨by decide, rfl, by decide⟩ rfl rfl rfl rfl) <| .op 0 rfl (bldS (cs := GG_c1) ze28 pl28 rfl rfl) <| .op 0 rfl (stB (cs0 := [i6 0, i6 0, nul, i6 0, i6 0, nul]) (cs := GG_c1) (cs1 := GG_c1) rfl rfl sz28 rfl ⟨Nat.le_of_ble_eq_true rfl, rfl⟩ rfl) <| .nil0) ?_
  replace h := h.symm
  subst h
  refine .k [(0, .cptr [i6 2, i6 9, .rows (([] : List TSpace).map TSpace.cells), i6 2, i6 3, .rows ([(TRule.mk 0 1 0 [2, 1] (TWeight.mk false 1 (TFacts.mk 0 []) [] [])), (TRule.mk 0 2 1 [] (TWeight.mk false 1 (TFacts.mk 0 []) [] []))].map TRule.cells)] 0)] ⟨cFixP rfl rfl (.cons (.free rfl rfl) <| .cons (.free rfl rfl) <| .cons (.nil) <| .cons (.free rfl rfl) <| .cons (.free rfl rfl) <| .cons (cFixE (es1 := [(TRule.mk 0 1 0 [2, 1] (TWeight.mk false 1 (TFacts.mk 0 []) [] [])), (TRule.mk 0 2 1 [] (TWeight.mk false 1 (TFacts.mk 0 []) [] []))].map TRule.cells) rfl rfl rfl (.cons ((.cons (.free rfl rfl) <| .cons (.free rfl rfl) <| .cons (.free rfl rfl) <| .cons (cFixO (l := [2, 1]) sl29 rfl rfl rfl rfl) <| .cons (.free rfl rfl) <| .cons (.free rfl rfl) <| .cons (.free rfl rfl) <| .cons (.nil) <| .cons (.nil) <| .cons (.nil) <| .nil)) <| .cons ((.cons (.free rfl rfl) <| .cons (.free rfl rfl) <| .cons (.free rfl rfl) <| .cons (.nil) <| .cons (.free rfl rfl) <| .cons (.free rfl rfl) <| .cons (.free rfl rfl) <| .cons (.nil) <| .cons (.nil) <| .cons (.nil) <| .nil)) <| .nil)) <| .nil), trivial⟩ ?_
  exact .ret rfl
def facts_One.b1 (a0 : Int) : ((List Int) × Int) → Rnd (((List Int) × Int)) ((List Int)) (TFacts × Int) → Prop := fun (x1, x2) z1 => if x2 < ((List.replicate (Int.toNat a0) (0 : Int)).length : Int) then ((((0 : Int) ≤ (IntKind.u64.wrap x2))) ∧ ((InR x2 x1.length)) ∧ z1 = .next ((setl x1 x2 (shlI .u64 1 (IntKind.u64.wrap x2))), (IntKind.i64.wrap (x2 + 1)))) else (z1 = .exit x1)
def facts_One.f (a0 : Int) (r : TFacts × Int) : Prop :=
  ∃ t2_1 : Int × Int, (bits_Full.f a0 t2_1) ∧ if t2_1.2 = 0 then ((((0 : Int) ≤ a0 ∧ Fits a0 8)) ∧ ∃ o1 : Fin ((List Int)) (TFacts × Int), Loop (facts_One.b1 a0) ((List.replicate (Int.toNat a0) (0 : Int)), 0) o1 ∧ o1.on (fun x3 => r = ((TFacts.mk 0 x3), 0)) (fun r_ => r = r_)) else (r = ((TFacts.mk 0 []), 31))
theorem facts_One.D {a0 r} (h : facts_One.f a0 r) : D Tryz.prog X (.callH 71 [.val (.int .i64 a0)] [] (.tuple [.agg (TFacts.lit r.1), .val (.int .i64 r.2)]) []) := by
  unfold facts_One.f at h
  refine .enter 34 0 fn71 rfl rfl rfl <| .seq <| .room 0 <| .reg0 rfl (.op 0 rfl (alP (s := 2) ze35 ⟨rfl, by decide, rfl⟩ rfl) <| .op 0 rfl (asV rfl) <| .nil0) <| .seq <| .seq ?_
  obtain ⟨t2_1, g2_1, h⟩ := h
  refine .reg0 rfl (.m rfl <| .c rfl go99 rfl rfl rfl (bits_Full.D g2_1) <| .o (mvT rfl) <| .o (exT rfl rfl) <| .o (exT rfl rfl) <| .a rfl <| .a rfl <| .nil0) <| .seq <| .reg0 rfl (.op 0 rfl (mvV rfl) <| .op 0 rfl (neI rfl rfl) <| .nil0) ?_
  by_cases c1 : t2_1.2 = 0
  · rw [if_pos c1] at h
    refine .condF rfl (nf c1) <| .skip <| .seq ?_
    obtain ⟨g4_1, h⟩ := h
    refine .room 0 <| .room 0 <| .reg0 rfl (.op 0 rfl (mvV rfl) <| .op 1 rfl (mkS (z0 := (0 : Int)) sl33 un33 ze32 rfl rfl g4_1.1 g4_1.2 rfl) <| .op 0 rfl (bldS (cs := [u6 0, .own 1 ((List.replicate (Int.toNat a0) (0 : Int)).length)]) ze35 pl35 rfl rfl) <| .op 2 rfl (alP (s := 2) ze35 ⟨rfl, by decide, rfl⟩ rfl) <| .op 0 rfl (stB (cs0 := [u6 0, nul]) (cs := [u6 0, .own 1 ((List.replicate (Int.toNat a0) (0 : Int)).length)]) (cs1 := [u6 0, .own 1 ((List.replicate (Int.toNat a0) (0 : Int)).length)]) rfl rfl sz35 rfl ⟨Nat.le_of_ble_eq_true rfl, rfl⟩ rfl) <| .nil0) ?_
    refine .seq <| .seq <| .reg0 rfl (.op 0 rfl (faP fa35_1 rfl) <| .op 0 rfl (ldP rfl sz33 ag33 rfl) <| .op 0 rfl (lnO (l := (List.replicate (Int.toNat a0) (0 : Int))) sl33 rfl rfl rfl) <| .op 0 rfl (mvV rfl) <| .nil0) <| .block <| .keepL [0, 2, 1] [(2, .ptr 0 1 2 0 0), (6, .ptr 1 1 2 0 0), (21, i6 ((List.replicate (Int.toNat a0) (0 : Int)).length : Int)), (22, i6 0)] [⟨2, [[u6 0, nul]], 0, none⟩, ⟨2, [[u6 0, .own 2 ((List.replicate (Int.toNat a0) (0 : Int)).length)]], 0, none⟩, ⟨1, (List.replicate (Int.toNat a0) (0 : Int)).map (cInt .u64), 0, none⟩] (by decide) (by decide) ⟨.ptr rfl, .ptr rfl, .free rfl rfl, .free rfl rfl, trivial⟩ ⟨⟨_, rfl, bcBox (all2_free rfl)⟩, ⟨_, rfl, bcBox (.cons (.free rfl rfl) <| .cons (.own rfl) <| .nil)⟩, ⟨_, rfl, bcRow (l := (List.replicate (Int.toNat a0) (0 : Int))) sl33 (Nat.le_refl _) rfl⟩, trivial⟩ ?_
    obtain ⟨o1, hL1, h⟩ := h
    refine .loopB (facts_One.b1 a0) (fun (x1, x2) => listEnv [(2, .ptr 0 1 2 0 0), (6, .ptr 1 1 2 0 0), (21, i6 ((List.replicate (Int.toNat a0) (0 : Int)).length : Int)), (22, i6 x2)]) (fun (x1, x2) => [⟨2, [[u6 0, nul]], 0, none⟩, ⟨2, [[u6 0, .own 2 x1.length]], 0, none⟩, ⟨1, x1.map (cInt .u64), 0, none⟩]) (fun x3 => listEnv [(2, .ptr 0 1 2 0 0), (6, .ptr 1 1 2 0 0)]) (fun x3 => [⟨2, [[u6 0, nul]], 0, none⟩, ⟨2, [[u6 0, .own 2 x3.length]], 0, none⟩, ⟨1, x3.map (cInt .u64), 0, none⟩]) hL1 (fun r_ => r = r_) ?_ ?_ ?_
    · rintro x3 rfl
      try dsimp only [Fin.on] at h
      refine .seq <| .reg0 rfl (.op 0 rfl (ldG rfl sz35 ag35 rfl) <| .op 0 rfl (stB (cs0 := [u6 0, nul]) (cs := [u6 0, .own 2 x3.length]) (cs1 := [u6 0, .own 2 x3.length]) rfl rfl sz35 rfl ⟨Nat.le_of_ble_eq_true rfl, rfl⟩ rfl) <| .op 0 rfl (asV rfl) <| .nil0) ?_
      replace h := h.symm
      subst h
      refine .k [(2, .cptr [u6 0, .rows (x3.map (cInt .u64))] 0), (3, i6 0)] ⟨cFixP rfl rfl (.cons (.free rfl rfl) <| .cons (cFixO (l := x3) sl33 rfl rfl rfl rfl) <| .nil), .free rfl rfl, trivial⟩ ?_
      exact .ret rfl
    · rintro r_ rfl
      exact h
    · rintro ⟨x1, x2⟩ z1 h hn1 hx1 hr1
      dsimp only [facts_One.b1] at h
      refine .seq <| .reg0 rfl (.op 0 rfl (ltI rfl rfl) <| .nil0) <| .seq ?_
      by_cases c4 : x2 < ((List.replicate (Int.toNat a0) (0 : Int)).length : Int)
      · rw [if_pos c4] at h
        refine .condT rfl (dt c4) <| .skip <| .seq <| .block <| .seq <| .reg0 rfl (.op 0 rfl (mvV rfl) <| .op 0 rfl (asV rfl) <| .nil0) ?_
        obtain ⟨g16_5, h⟩ := h
        obtain ⟨g16_6, h⟩ := h
        refine .reg0 rfl (.o (faP fa35_1 rfl) <| .o (ldP rfl sz33 ag33 rfl) <| .m rfl <| .m rfl <| .o (convI un3 un151 rfl) <| .o (shl_ rfl rfl g16_5) <| .o (ixO (l := x1) sl33 rfl rfl rfl rfl g16_6.1 g16_6.2) <| .o (stO (l := x1) (j := x2) (cs := [u6 (shlI .u64 1 (IntKind.u64.wrap x2))]) (shlI .u64 1 (IntKind.u64.wrap x2)) sl33 rfl rfl sz32 rfl rfl g16_6.1 g16_6.2 (Nat.zero_le _) ⟨Nat.le_of_ble_eq_true rfl, rfl⟩ rfl) <| .nil0) ?_
        refine .inBlock <| .reg0 rfl (.op 0 rfl (addI rfl rfl) <| .op 0 rfl (mvV rfl) <| .nil0) <| .keepL [0, 1, 2] [(2, .ptr 0 1 2 0 0), (6, .ptr 1 1 2 0 0), (21, i6 ((List.replicate (Int.toNat a0) (0 : Int)).length : Int)), (22, i6 (IntKind.i64.wrap (x2 + 1)))] [⟨2, [[u6 0, nul]], 0, none⟩, ⟨2, [[u6 0, .own 2 ((setl x1 x2 (shlI .u64 1 (IntKind.u64.wrap x2))).length)]], 0, none⟩, ⟨1, (setl x1 x2 (shlI .u64 1 (IntKind.u64.wrap x2))).map (cInt .u64), 0, none⟩] (by decide) (by decide) ⟨.ptr rfl, .ptr rfl, .free rfl rfl, .free rfl rfl, trivial⟩ ⟨⟨_, rfl, bcBox (all2_free rfl)⟩, ⟨_, rfl, bcBox (.cons (.free rfl rfl) <| .cons (cOwnE rfl (by simp only [setl, List.length_set])) <| .nil)⟩, ⟨_, rfl, bcRow (l := (setl x1 x2 (shlI .u64 1 (IntKind.u64.wrap x2)))) sl33 (Nat.le_refl _) rfl⟩, trivial⟩ ?_
        exact hn1 _ h
      · rw [if_neg c4] at h
        refine .condF rfl (df c4) <| .exit rfl <| .keepL [0, 1, 2] [(2, .ptr 0 1 2 0 0), (6, .ptr 1 1 2 0 0)] [⟨2, [[u6 0, nul]], 0, none⟩, ⟨2, [[u6 0, .own 2 x1.length]], 0, none⟩, ⟨1, x1.map (cInt .u64), 0, none⟩] (by decide) (by decide) ⟨.ptr rfl, .ptr rfl, trivial⟩ ⟨⟨_, rfl, bcBox (all2_free rfl)⟩, ⟨_, rfl, bcBox (.cons (.free rfl rfl) <| .cons (.own rfl) <| .nil)⟩, ⟨_, rfl, bcRow (l := x1) sl33 (Nat.le_refl _) rfl⟩, trivial⟩ ?_
        exact hx1 _ h
  · rw [if_neg c1] at h
    refine .condT rfl (nt c1) <| .seq <| .reg0 rfl (.op 0 rfl (bldS (cs := [u6 0, nul]) ze35 pl35 rfl rfl) <| .op 0 rfl (stB (cs0 := [u6 0, nul]) (cs := [u6 0, nul]) (cs1 := [u6 0, nul]) rfl rfl sz35 rfl ⟨Nat.le_of_ble_eq_true rfl, rfl⟩ rfl) <| .op 0 rfl (asV rfl) <| .nil0) ?_
    replace h := h.symm
    subst h
    refine .k [(2, .cptr [u6 0, .rows (([] : List Int).map (cInt .u64))] 0), (3, i6 31)] ⟨cFixP rfl rfl (.cons (.free rfl rfl) <| .cons (.nil) <| .nil), .free rfl rfl, trivial⟩ ?_
    exact .ret rfl
def cells_one.b1 (a0 : Int) : ((List TCell) × Int) → Rnd (((List TCell) × Int)) ((List TCell)) ((List TCell)) → Prop := fun (x1, x2) z1 => if x2 < a0 then ((((0 : Int) ≤ x2)) ∧ ((InR x2 x1.length)) ∧ z1 = .next ((setl x1 x2 (TCell.mk (shlI .u64 1 x2) ((rdl x1 x2).Kind) ((rdl x1 x2).K))), (IntKind.i64.wrap (x2 + 1)))) else (z1 = .exit x1)
def cells_one.f (a0 : Int) (r : (List TCell)) : Prop :=
  (((0 : Int) ≤ a0 ∧ Fits a0 24)) ∧ ∃ o1 : Fin ((List TCell)) ((List TCell)), Loop (cells_one.b1 a0) ((List.replicate (Int.toNat a0) (TCell.mk 0 0 0)), 0) o1 ∧ o1.on (fun x3 => r = x3) (fun r_ => r = r_)
theorem cells_one.D {a0 r} (h : cells_one.f a0 r) : D Tryz.prog X (.callH 101 [.val (.int .i64 a0)] [] (.rows (r.map TCell.cells)) []) := by
  unfold cells_one.f at h
  refine .enter 19 0 fn101 rfl rfl rfl <| .seq <| .reg0 rfl (.op 0 rfl (asV rfl) <| .nil0) <| .seq ?_
  obtain ⟨g2_1, h⟩ := h
  refine .room 0 <| .reg0 rfl (.op 0 rfl (mvV rfl) <| .op 0 rfl (mkS (z0 := (TCell.mk 0 0 0)) sl36 un36 ze81 rfl rfl g2_1.1 g2_1.2 rfl) <| .op 0 rfl (asO rfl) <| .nil0) <| .seq <| .seq <| .reg0 rfl (.op 0 rfl (mvV rfl) <| .op 0 rfl (mvV rfl) <| .nil0) <| .block <| .keepL [0] [(3, .own 0 ((List.replicate (Int.toNat a0) (TCell.mk 0 0 0)).length)), (7, i6 a0), (8, i6 0)] [⟨3, (List.replicate (Int.toNat a0) (TCell.mk 0 0 0)).map TCell.cells, 0, none⟩] (by decide) (by decide) ⟨.own rfl, .free rfl rfl, .free rfl rfl, trivial⟩ ⟨⟨_, rfl, bcRow (l := (List.replicate (Int.toNat a0) (TCell.mk 0 0 0))) sl36 (Nat.le_refl _) rfl⟩, trivial⟩ ?_
  obtain ⟨o1, hL1, h⟩ := h
  refine .loopB (cells_one.b1 a0) (fun (x1, x2) => listEnv [(3, .own 0 x1.length), (7, i6 a0), (8, i6 x2)]) (fun (x1, x2) => [⟨3, x1.map TCell.cells, 0, none⟩]) (fun x3 => listEnv [(3, .own 0 x3.length)]) (fun x3 => [⟨3, x3.map TCell.cells, 0, none⟩]) hL1 (fun r_ => r = r_) ?_ ?_ ?_
  · rintro x3 rfl
    try dsimp only [Fin.on] at h
    refine .seq <| .reg0 rfl (.op 0 rfl (mvO rfl) <| .op 0 rfl (asO rfl) <| .nil0) ?_
    replace h := h.symm
    subst h
    refine .k [(2, .rows (x3.map TCell.cells))] ⟨cFixO (l := x3) sl36 rfl rfl rfl rfl, trivial⟩ ?_
    exact .ret rfl
  · rintro r_ rfl
    exact h
  · rintro ⟨x1, x2⟩ z1 h hn1 hx1 hr1
    dsimp only [cells_one.b1] at h
    refine .seq <| .reg0 rfl (.op 0 rfl (ltI rfl rfl) <| .nil0) <| .seq ?_
    by_cases c3 : x2 < a0
    · rw [if_pos c3] at h
      refine .condT rfl (dt c3) <| .skip <| .seq <| .block <| .seq <| .reg0 rfl (.op 0 rfl (mvV rfl) <| .op 0 rfl (asV rfl) <| .nil0) ?_
      obtain ⟨g14_3, h⟩ := h
      obtain ⟨g14_4, h⟩ := h
      refine .reg0 rfl (.o (mvO rfl) <| .m rfl <| .m rfl <| .o (shl_ rfl rfl g14_3) <| .o (ixO (l := x1) sl36 rfl rfl rfl rfl g14_4.1 g14_4.2) <| .o (faP fa81_0 rfl) <| .o (stO (l := x1) (j := x2) (cs := [u6 (shlI .u64 1 x2)]) (TCell.mk (shlI .u64 1 x2) ((rdl x1 x2).Kind) ((rdl x1 x2).K)) sl36 rfl rfl sz32 rfl rfl g14_4.1 g14_4.2 (Nat.zero_le _) ⟨Nat.le_of_ble_eq_true rfl, rfl⟩ rfl) <| .nil0) <| .inBlock <| .reg0 rfl (.op 0 rfl (addI rfl rfl) <| .op 0 rfl (mvV rfl) <| .nil0) ?_
      refine .keepL [0] [(3, .own 0 ((setl x1 x2 (TCell.mk (shlI .u64 1 x2) ((rdl x1 x2).Kind) ((rdl x1 x2).K))).length)), (7, i6 a0), (8, i6 (IntKind.i64.wrap (x2 + 1)))] [⟨3, (setl x1 x2 (TCell.mk (shlI .u64 1 x2) ((rdl x1 x2).Kind) ((rdl x1 x2).K))).map TCell.cells, 0, none⟩] (by decide) (by decide) ⟨cOwnE rfl (by simp only [setl, List.length_set]), .free rfl rfl, .free rfl rfl, trivial⟩ ⟨⟨_, rfl, bcRow (l := (setl x1 x2 (TCell.mk (shlI .u64 1 x2) ((rdl x1 x2).Kind) ((rdl x1 x2).K)))) sl36 (Nat.le_refl _) rfl⟩, trivial⟩ ?_
      exact hn1 _ h
    · rw [if_neg c3] at h
      refine .condF rfl (df c3) <| .exit rfl <| .keepL [0] [(3, .own 0 x1.length)] [⟨3, x1.map TCell.cells, 0, none⟩] (by decide) (by decide) ⟨.own rfl, trivial⟩ ⟨⟨_, rfl, bcRow (l := x1) sl36 (Nat.le_refl _) rfl⟩, trivial⟩ ?_
      exact hx1 _ h
def cells_One.f (a0 : Int) (r : (List TCell) × Int) : Prop :=
  ∃ t2_1 : Int, (cells_dims.f a0 t2_1) ∧ if t2_1 = 0 then (∃ t4_1 : (List TCell), (cells_one.f a0 t4_1) ∧ r = (t4_1, 0)) else (r = ([], t2_1))
theorem cells_One.D {a0 r} (h : cells_One.f a0 r) : D Tryz.prog X (.callH 72 [.val (.int .i64 a0)] [] (.tuple [.rows (r.1.map TCell.cells), .val (.int .i64 r.2)]) []) := by
  unfold cells_One.f at h
  refine .enter 12 0 fn72 rfl rfl rfl <| .seq <| .reg0 rfl (.op 0 rfl (asV rfl) <| .op 0 rfl (asV rfl) <| .nil0) <| .seq <| .seq ?_
  obtain ⟨t2_1, g2_1, h⟩ := h
  refine .reg0 rfl (.m rfl <| .c rfl go100 rfl rfl rfl (cells_dims.D g2_1) <| .a rfl <| .nil0) <| .seq <| .reg0 rfl (.op 0 rfl (mvV rfl) <| .op 0 rfl (neI rfl rfl) <| .nil0) ?_
  by_cases c1 : t2_1 = 0
  · rw [if_pos c1] at h
    refine .condF rfl (nf c1) <| .skip <| .seq ?_
    obtain ⟨t4_1, g4_1, h⟩ := h
    refine .reg0 rfl (.m rfl <| .c rfl go101 rfl rfl rfl (cells_one.D g4_1) <| .o (asR rfl) <| .a rfl <| .nil0) ?_
    replace h := h.symm
    subst h
    refine .kf [(2, .rows (t4_1.map TCell.cells)), (3, i6 0)] rfl rfl ?_
    exact .ret rfl
  · rw [if_neg c1] at h
    refine .condT rfl (nt c1) <| .seq <| .reg0 rfl (.op 0 rfl (mvV rfl) <| .op 0 rfl (asV rfl) <| .op 0 rfl (asV rfl) <| .nil0) ?_
    replace h := h.symm
    subst h
    refine .k [(2, .rows (([] : List TCell).map TCell.cells)), (3, i6 t2_1)] ⟨.nil, .free rfl rfl, trivial⟩ ?_
    exact .ret rfl
end Go.RM.Tryz
