/- GD, for the statement PdsSteps: what it needs, no more. -/
import Derived.Test.YtiiagjedhhmnbaaZPdsStepsGC
set_option linter.unusedVariables false
set_option maxRecDepth 8000
set_option maxHeartbeats 4000000
namespace Go.RM.Try
open Go.RM Go.Proofs
variable {X : FuncId → List PV → Heap → PV → Heap → Prop}
def slices_IndexFunc_uint64.b1 (a0 : List Int) (a1 : Int → Bool → Prop) : Int → Rnd Int Unit Int → Prop := fun x1 z1 => if x1 < (a0.length : Int) then (((InR x1 a0.length)) ∧ ∃ t15_5 : Bool, (a1 (rdl a0 x1) t15_5) ∧ if t15_5 = true then (z1 = .ret x1) else (z1 = .next (IntKind.i64.wrap (x1 + 1)))) else (z1 = .exit ())
def slices_IndexFunc_uint64.f (a0 : List Int) (a1 : Int → Bool → Prop) (r : Int) : Prop :=
  ∃ o1 : Fin Unit Int, Loop (slices_IndexFunc_uint64.b1 a0 a1) 0 o1 ∧ o1.on (fun _ => r = (-1)) (fun r_ => r = r_)
theorem slices_IndexFunc_uint64.D {a0 : List Int} {a1 : Int → Bool → Prop} {r : Int} {c1_ : FuncId} {k1_ : List PV} (hg1_ : isGo Try.prog c1_ = true) (hk1_ : PV.free deep (.clo c1_ k1_) = true) (hka1_ : k1_.all (PV.free deep) = true) (hq1_ : ∀ x0_ y_, a1 x0_ y_ → D Try.prog X (.callH c1_ ([.val (.int .u64 x0_)] ++ k1_) [] (.val (.bool y_)) [])) (h : slices_IndexFunc_uint64.f a0 a1 r) : D Try.prog X (.callH 90 [.rows (a0.map (cInt .u64)), .clo c1_ k1_] [] (.val (.int .i64 r)) []) := by
  unfold slices_IndexFunc_uint64.f at h
  refine .enter 19 0 fn90 rfl rfl rfl ?_
  refine .seq ?_
  refine .reg0 rfl (.op 0 rfl (asV rfl) <| .nil0) ?_
  refine .seq ?_
  refine .seq ?_
  refine .reg0 rfl (.op 0 rfl (mvR rfl) <| .op 0 rfl (lnR (l := a0) sl43 rfl) <| .op 0 rfl (mvV rfl) <| .nil0) ?_
  refine .block ?_
  refine .keepL [] [(0, .rows (a0.map (cInt .u64))), (1, .clo c1_ k1_), (7, .val (.int .i64 (a0.length : Int))), (8, .val (.int .i64 0))] [] (by decide) (by decide) ⟨.free rfl rfl, .free rfl hk1_, .free rfl rfl, .free rfl rfl, trivial⟩ trivial ?_
  obtain ⟨o1, hL1, h⟩ := h
  refine .loopB (slices_IndexFunc_uint64.b1 a0 a1) (fun x1 => listEnv [(0, .rows (a0.map (cInt .u64))), (1, .clo c1_ k1_), (7, .val (.int .i64 (a0.length : Int))), (8, .val (.int .i64 x1))]) (fun x1 => []) (fun _ => listEnv []) (fun _ => []) hL1 (fun r_ => r = r_) ?_ ?_ ?_
  · rintro ⟨⟩ rfl
    try dsimp only [Fin.on] at h
    refine .seq ?_
    refine .reg0 rfl (.op 0 rfl (asV rfl) <| .nil0) ?_
    replace h := h.symm
    subst h
    refine .keepL [] [(4, .val (.int .i64 (-1)))] [] (by decide) (by decide) ⟨.free rfl rfl, trivial⟩ trivial ?_
    exact .ret rfl
  · rintro r_ rfl
    exact h
  · rintro x1 z1 h hn1 hx1 hr1
    dsimp only [slices_IndexFunc_uint64.b1] at h
    refine .seq ?_
    refine .reg0 rfl (.op 0 rfl (ltI rfl rfl) <| .nil0) ?_
    refine .seq ?_
    by_cases c5 : x1 < (a0.length : Int)
    · rw [if_pos c5] at h
      refine .condT rfl (decide_eq_true c5) ?_
      refine .skip ?_
      refine .seq ?_
      refine .block ?_
      refine .seq ?_
      refine .reg0 rfl (.op 0 rfl (mvV rfl) <| .op 0 rfl (asV rfl) <| .nil0) ?_
      refine .seq ?_
      obtain ⟨g15_3, h⟩ := h
      obtain ⟨t15_5, g15_5, h⟩ := h
      refine .reg0 rfl (.op 0 rfl (mvF rfl) <| .op 0 rfl (mvR rfl) <| .op 0 rfl (mvV rfl) <| .op 0 rfl (ixR (l := a0) (lit := (cInt .u64)) sl43 rfl rfl (fun _ => rfl) g15_3.1 g15_3.2) <| .op 0 rfl (ldC rfl sz42 ag42 rfl) <| .callI rfl (callee_of rfl hg1_ rfl) (.pure (allCons rfl hka1_) rfl (hq1_ _ _ g15_5)) <| .nil0) ?_
      by_cases c6 : t15_5 = true
      · rw [if_pos c6] at h
        refine .condT rfl c6 ?_
        refine .seq ?_
        refine .reg0 rfl (.op 0 rfl (mvV rfl) <| .op 0 rfl (asV rfl) <| .nil0) ?_
        have q3 := hr1 _ h
        replace q3 := q3.symm
        subst q3
        refine .keepL [] [(4, .val (.int .i64 x1))] [] (by decide) (by decide) ⟨.free rfl rfl, trivial⟩ trivial ?_
        exact .ret rfl
      · rw [if_neg c6] at h
        refine .condF rfl (Bool.eq_false_iff.mpr c6) ?_
        refine .skip ?_
        refine .inBlock ?_
        refine .reg0 rfl (.op 0 rfl (addI rfl rfl) <| .op 0 rfl (mvV rfl) <| .nil0) ?_
        refine .keepL [] [(0, .rows (a0.map (cInt .u64))), (1, .clo c1_ k1_), (7, .val (.int .i64 (a0.length : Int))), (8, .val (.int .i64 (IntKind.i64.wrap (x1 + 1))))] [] (by decide) (by decide) ⟨.free rfl rfl, .free rfl hk1_, .free rfl rfl, .free rfl rfl, trivial⟩ trivial ?_
        exact hn1 _ h
    · rw [if_neg c5] at h
      refine .condF rfl (decide_eq_false c5) ?_
      refine .exit rfl ?_
      refine .keepL [] [] [] (by decide) (by decide) trivial trivial ?_
      exact hx1 _ h
def slices_ContainsFunc_uint64.f (a0 : List Int) (a1 : Int → Bool → Prop) (r : Bool) : Prop :=
  ∃ t2_2 : Int, (slices_IndexFunc_uint64.f a0 a1 t2_2) ∧ r = (decide (t2_2 ≥ 0))
theorem slices_ContainsFunc_uint64.D {a0 : List Int} {a1 : Int → Bool → Prop} {r : Bool} {c1_ : FuncId} {k1_ : List PV} (hg1_ : isGo Try.prog c1_ = true) (hk1_ : PV.free deep (.clo c1_ k1_) = true) (hka1_ : k1_.all (PV.free deep) = true) (hq1_ : ∀ x0_ y_, a1 x0_ y_ → D Try.prog X (.callH c1_ ([.val (.int .u64 x0_)] ++ k1_) [] (.val (.bool y_)) [])) (h : slices_ContainsFunc_uint64.f a0 a1 r) : D Try.prog X (.callH 86 [.rows (a0.map (cInt .u64)), .clo c1_ k1_] [] (.val (.bool r)) []) := by
  unfold slices_ContainsFunc_uint64.f at h
  refine .enter 9 0 fn86 rfl rfl rfl ?_
  refine .seq ?_
  refine .reg0 rfl (.op 0 rfl (asV rfl) <| .nil0) ?_
  refine .seq ?_
  obtain ⟨t2_2, g2_2, h⟩ := h
  refine .reg0 rfl (.op 0 rfl (mvR rfl) <| .op 0 rfl (mvF rfl) <| .callI rfl (callee_of rfl go90 rfl) (.pure (allCons rfl (allCons hk1_ rfl)) rfl (slices_IndexFunc_uint64.D hg1_ hk1_ hka1_ hq1_ g2_2)) <| .op 0 rfl (geI rfl rfl) <| .op 0 rfl (asV rfl) <| .nil0) ?_
  replace h := h.symm
  subst h
  refine .keepL [] [(4, .val (.bool (decide (t2_2 ≥ 0))))] [] (by decide) (by decide) ⟨.free rfl rfl, trivial⟩ trivial ?_
  exact .ret rfl
def facts_shaped_1.f (a0 : Int) (f0 : Int) (r : Bool) : Prop :=
  r = ((bitOp .andNot .u64 a0 f0) != 0)
theorem facts_shaped_1.D {a0 : Int} {f0 : Int} {r : Bool} (h : facts_shaped_1.f a0 f0 r) : D Try.prog X (.callH 87 [.val (.int .u64 a0), .cptr ((cInt .u64) f0) 0] [] (.val (.bool r)) []) := by
  unfold facts_shaped_1.f at h
  refine .enter 8 0 fn87 rfl rfl rfl ?_
  refine .seq ?_
  refine .reg0 rfl (.op 0 rfl (asV rfl) <| .nil0) ?_
  refine .seq ?_
  refine .reg0 rfl (.op 0 rfl (mvV rfl) <| .op 0 rfl (ldC rfl sz42 ag42 rfl) <| .op 0 rfl (andNotI rfl rfl) <| .op 0 rfl (neI rfl rfl) <| .op 0 rfl (asV rfl) <| .nil0) ?_
  replace h := h.symm
  subst h
  refine .keepL [] [(3, .val (.bool ((bitOp .andNot .u64 a0 f0) != 0)))] [] (by decide) (by decide) ⟨.free rfl rfl, trivial⟩ trivial ?_
  exact .ret rfl
def facts_shaped.f (a0 : Int) (a1 : TFacts) (r : Int) : Prop :=
  ∃ t2_1 : Int × Int, (bits_Full.f a0 t2_1) ∧ if t2_1.2 = 0 then (∃ t4_16 : Bool, (((a1.Rows.length : Int) = a0) → ((bitOp .andNot .u64 a1.Gen t2_1.1) = 0) → slices_ContainsFunc_uint64.f a1.Rows (fun x0_ y_ => facts_shaped_1.f x0_ t2_1.1 y_) t4_16) ∧ if ((!((a1.Rows.length : Int) == a0)) || ((!((bitOp .andNot .u64 a1.Gen t2_1.1) == 0)) || t4_16)) = true then (r = 30) else (r = 0)) else (r = 31)
theorem facts_shaped.D {a0 : Int} {a1 : TFacts} {r : Int} (h : facts_shaped.f a0 a1 r) : D Try.prog X (.callH 82 [.val (.int .i64 a0), .agg (TFacts.lit a1)] [] (.val (.int .i64 r)) []) := by
  unfold facts_shaped.f at h
  refine .enter 32 0 fn82 rfl rfl rfl ?_
  refine .seq ?_
  refine .room 0 ?_
  refine .reg0 rfl (.op 0 rfl (bxP (s := 2) (cs := (TFacts.lit a1)) rfl ⟨rfl, by decide, rfl⟩ rfl) <| .op 0 rfl (asV rfl) <| .nil0) ?_
  refine .seq ?_
  obtain ⟨t2_1, g2_1, h⟩ := h
  refine .room 0 ?_
  refine .reg0 rfl (.op 0 rfl (mvV rfl) <| .callI rfl (callee_of rfl go69 rfl) (.pure rfl rfl (bits_Full.D g2_1)) <| .op 0 rfl (mvT rfl) <| .op 0 rfl (exT rfl rfl) <| .op 0 rfl (exT rfl rfl) <| .op 1 rfl (alP (s := 1) ze42 ⟨rfl, by decide, rfl⟩ rfl) <| .op 0 rfl (stB (cs0 := [.val (.int .u64 0)]) (cs := [.val (.int .u64 t2_1.1)]) (cs1 := [.val (.int .u64 t2_1.1)]) rfl rfl sz42 rfl ⟨Nat.le_of_ble_eq_true rfl, rfl⟩ rfl) <| .op 0 rfl (asV rfl) <| .nil0) ?_
  refine .seq ?_
  refine .seq ?_
  refine .reg0 rfl (.op 0 rfl (mvV rfl) <| .op 0 rfl (neI rfl rfl) <| .nil0) ?_
  by_cases c1 : t2_1.2 = 0
  · rw [if_pos c1] at h
    refine .condF rfl (bne_eq_false_iff_eq.mpr c1) ?_
    refine .skip ?_
    refine .seq ?_
    refine .seq ?_
    obtain ⟨t4_16, g4_16, h⟩ := h
    refine .reg0 (e1 := listEnv [(31, .val (.bool ((!((a1.Rows.length : Int) == a0)) || ((!((bitOp .andNot .u64 a1.Gen t2_1.1) == 0)) || t4_16))))]) (H1 := [⟨2, [(TFacts.lit a1)], 0, none⟩, ⟨1, [[.val (.int .u64 t2_1.1)]], 0, none⟩]) rfl ?_ ?_
    · by_cases c2 : (a1.Rows.length : Int) = a0
      · by_cases c3 : (bitOp .andNot .u64 a1.Gen t2_1.1) = 0
        · exact (.op 0 rfl (faP fa45_1 rfl) <| .op 0 rfl (ldP rfl sz43 ag43 rfl) <| .op 0 rfl (lnR (l := a1.Rows) sl43 rfl) <| .op 0 rfl (mvV rfl) <| .op 0 rfl (neI rfl rfl) <| .op 0 rfl (mvV rfl) <| .op 0 (gT rfl rfl rfl (bne_eq_false_iff_eq.mpr c2)) (faP fa45_0 rfl) <| .op 0 (gT rfl rfl rfl (bne_eq_false_iff_eq.mpr c2)) (ldP rfl sz42 ag42 rfl) <| .op 0 (gT rfl rfl rfl (bne_eq_false_iff_eq.mpr c2)) (ldP rfl sz42 ag42 rfl) <| .op 0 (gT rfl rfl rfl (bne_eq_false_iff_eq.mpr c2)) (andNotI rfl rfl) <| .op 0 (gT rfl rfl rfl (bne_eq_false_iff_eq.mpr c2)) (neI rfl rfl) <| .op 0 rfl (pkFV rfl (bne_eq_false_iff_eq.mpr c2) rfl) <| .op 0 rfl (mvV rfl) <| .op 0 (gT rfl rfl rfl (bne_eq_false_iff_eq.mpr c3)) (faP fa45_1 rfl) <| .op 0 (gT rfl rfl rfl (bne_eq_false_iff_eq.mpr c3)) (ldP rfl sz43 ag43 rfl) <| .op 0 (gT rfl rfl rfl (bne_eq_false_iff_eq.mpr c3)) (mkF rfl) <| .callI (gT rfl rfl rfl (bne_eq_false_iff_eq.mpr c3)) (callee_of rfl go86 rfl) (.lendC (args' := [.rows (a1.Rows.map (cInt .u64)), .clo 87 [.cptr [.val (.int .u64 t2_1.1)] 0]])  [1] false (.cons (.free rfl rfl) <| .cons (cClo (.cons (cFixP rfl rfl (.cons (.free rfl rfl) <| .nil)) <| .nil)) <| .nil) (by decide) rfl rfl rfl rfl (slices_ContainsFunc_uint64.D (k1_ := [.cptr [.val (.int .u64 t2_1.1)] 0]) go87 rfl rfl (fun x0_ y_ h_ => facts_shaped_1.D h_) (g4_16 c2 c3))) <| .op 0 rfl (pkFV rfl (bne_eq_false_iff_eq.mpr c3) rfl) <| .nilL _ ⟨cB rfl (mOrF (bnotF (beq_iff_eq.mpr c2)) (mOrF (bnotF (beq_iff_eq.mpr c3)) rfl)), trivial⟩)
        · exact (.op 0 rfl (faP fa45_1 rfl) <| .op 0 rfl (ldP rfl sz43 ag43 rfl) <| .op 0 rfl (lnR (l := a1.Rows) sl43 rfl) <| .op 0 rfl (mvV rfl) <| .op 0 rfl (neI rfl rfl) <| .op 0 rfl (mvV rfl) <| .op 0 (gT rfl rfl rfl (bne_eq_false_iff_eq.mpr c2)) (faP fa45_0 rfl) <| .op 0 (gT rfl rfl rfl (bne_eq_false_iff_eq.mpr c2)) (ldP rfl sz42 ag42 rfl) <| .op 0 (gT rfl rfl rfl (bne_eq_false_iff_eq.mpr c2)) (ldP rfl sz42 ag42 rfl) <| .op 0 (gT rfl rfl rfl (bne_eq_false_iff_eq.mpr c2)) (andNotI rfl rfl) <| .op 0 (gT rfl rfl rfl (bne_eq_false_iff_eq.mpr c2)) (neI rfl rfl) <| .op 0 rfl (pkFV rfl (bne_eq_false_iff_eq.mpr c2) rfl) <| .op 0 rfl (mvV rfl) <| .no (gF rfl rfl rfl (bne_iff_ne.mpr c3)) <| .no (gF rfl rfl rfl (bne_iff_ne.mpr c3)) <| .no (gF rfl rfl rfl (bne_iff_ne.mpr c3)) <| .no (gF rfl rfl rfl (bne_iff_ne.mpr c3)) <| .op 0 rfl (pkTV rfl (bne_iff_ne.mpr c3) rfl) <| .nilL _ ⟨cB rfl (mOrF (bnotF (beq_iff_eq.mpr c2)) (mOrT (bnotT (beq_eq_false_iff_ne.mpr c3)))), trivial⟩)
      · exact (.op 0 rfl (faP fa45_1 rfl) <| .op 0 rfl (ldP rfl sz43 ag43 rfl) <| .op 0 rfl (lnR (l := a1.Rows) sl43 rfl) <| .op 0 rfl (mvV rfl) <| .op 0 rfl (neI rfl rfl) <| .op 0 rfl (mvV rfl) <| .no (gF rfl rfl rfl (bne_iff_ne.mpr c2)) <| .no (gF rfl rfl rfl (bne_iff_ne.mpr c2)) <| .no (gF rfl rfl rfl (bne_iff_ne.mpr c2)) <| .no (gF rfl rfl rfl (bne_iff_ne.mpr c2)) <| .no (gF rfl rfl rfl (bne_iff_ne.mpr c2)) <| .op 0 rfl (pkTV rfl (bne_iff_ne.mpr c2) rfl) <| .op 0 rfl (mvV rfl) <| .no (gF rfl rfl rfl rfl) <| .no (gF rfl rfl rfl rfl) <| .no (gF rfl rfl rfl rfl) <| .no (gF rfl rfl rfl rfl) <| .op 0 rfl (pkTV rfl rfl rfl) <| .nilL _ ⟨cB rfl (mOrT (bnotT (beq_eq_false_iff_ne.mpr c2))), trivial⟩)
    by_cases c4 : ((!((a1.Rows.length : Int) == a0)) || ((!((bitOp .andNot .u64 a1.Gen t2_1.1) == 0)) || t4_16)) = true
    · rw [if_pos c4] at h
      refine .condT rfl c4 ?_
      refine .seq ?_
      refine .reg0 rfl (.op 0 rfl (asV rfl) <| .nil0) ?_
      replace h := h.symm
      subst h
      refine .keepL [] [(4, .val (.int .i64 30))] [] (by decide) (by decide) ⟨.free rfl rfl, trivial⟩ trivial ?_
      exact .ret rfl
    · rw [if_neg c4] at h
      refine .condF rfl (Bool.eq_false_iff.mpr c4) ?_
      refine .skip ?_
      refine .seq ?_
      refine .reg0 rfl (.op 0 rfl (asV rfl) <| .nil0) ?_
      replace h := h.symm
      subst h
      refine .keepL [] [(4, .val (.int .i64 0))] [] (by decide) (by decide) ⟨.free rfl rfl, trivial⟩ trivial ?_
      exact .ret rfl
  · rw [if_neg c1] at h
    refine .condT rfl (bne_iff_ne.mpr c1) ?_
    refine .seq ?_
    refine .reg0 rfl (.op 0 rfl (asV rfl) <| .nil0) ?_
    replace h := h.symm
    subst h
    refine .keepL [] [(4, .val (.int .i64 31))] [] (by decide) (by decide) ⟨.free rfl rfl, trivial⟩ trivial ?_
    exact .ret rfl
def facts_canon.b1 (a0 : TFacts) : ((List Int) × Int) → Rnd (((List Int) × Int)) ((List Int)) TFacts → Prop := fun (x1, x2) z1 => if x2 < (a0.Rows.length : Int) then (((InR x2 a0.Rows.length)) ∧ ((InR x2 x1.length)) ∧ z1 = .next ((setl x1 x2 (bitOp .andNot .u64 (rdl a0.Rows x2) a0.Gen)), (IntKind.i64.wrap (x2 + 1)))) else (z1 = .exit x1)
def facts_canon.f (a0 : TFacts) (r : TFacts) : Prop :=
  (((0 : Int) ≤ (a0.Rows.length : Int) ∧ Fits (a0.Rows.length : Int) 8)) ∧ ∃ o1 : Fin ((List Int)) TFacts, Loop (facts_canon.b1 a0) ((List.replicate (Int.toNat (a0.Rows.length : Int)) (0 : Int)), 0) o1 ∧ o1.on (fun x3 => r = (TFacts.mk a0.Gen x3)) (fun r_ => r = r_)
theorem facts_canon.D {a0 : TFacts} {r : TFacts} (h : facts_canon.f a0 r) : D Try.prog X (.callH 84 [.agg (TFacts.lit a0)] [] (.agg (TFacts.lit r)) []) := by
  unfold facts_canon.f at h
  refine .enter 31 0 fn84 rfl rfl rfl ?_
  refine .seq ?_
  refine .room 0 ?_
  refine .room 0 ?_
  refine .reg0 rfl (.op 0 rfl (bxP (s := 2) (cs := (TFacts.lit a0)) rfl ⟨rfl, by decide, rfl⟩ rfl) <| .op 1 rfl (alP (s := 2) ze45 ⟨rfl, by decide, rfl⟩ rfl) <| .nil0) ?_
  refine .seq ?_
  obtain ⟨g2_5, h⟩ := h
  refine .room 0 ?_
  refine .room 0 ?_
  refine .reg1 (e1 := listEnv [(1, .ptr 0 1 2 0 0), (2, .ptr 1 1 2 0 0), (3, .ptr 3 1 2 0 0)]) (H1 := [⟨2, [(TFacts.lit a0)], 0, none⟩, ⟨2, [[.val (.int .u64 0), .val (.slice none 0 0)]], 0, none⟩, ⟨1, (List.replicate (Int.toNat (a0.Rows.length : Int)) (0 : Int)).map (cInt .u64), 0, none⟩, ⟨2, [[.val (.int .u64 a0.Gen), .own 2 ((List.replicate (Int.toNat (a0.Rows.length : Int)) (0 : Int)).length)]], 0, none⟩]) rfl ?_ ?_
  · exact .drawM [(7, 3, .ptr 3 1 2 0 0), (6, 12, .agg [.val (.int .u64 a0.Gen), .own 2 ((List.replicate (Int.toNat (a0.Rows.length : Int)) (0 : Int)).length)]), (5, 11, .own 2 ((List.replicate (Int.toNat (a0.Rows.length : Int)) (0 : Int)).length)), (4, 10, .val (.int .i64 (a0.Rows.length : Int))), (3, 9, .rows (a0.Rows.map (cInt .u64))), (2, 8, .ptr 0 1 2 0 1), (1, 7, .val (.int .u64 a0.Gen)), (0, 6, .ptr 0 1 2 0 0)] [(8, 3, ⟨2, [[.val (.int .u64 a0.Gen), .own 2 ((List.replicate (Int.toNat (a0.Rows.length : Int)) (0 : Int)).length)]], 0, none⟩), (7, 3, ⟨2, [[.val (.int .u64 0), .val (.slice none 0 0)]], 0, none⟩), (5, 2, ⟨1, (List.replicate (Int.toNat (a0.Rows.length : Int)) (0 : Int)).map (cInt .u64), 0, none⟩)] [[], [0], [], [2], [3, 2], [4, 3, 2], [1, 0, 5, 4, 3, 2], [], [7, 6, 1, 0, 5, 4, 3, 2]] (by rfl) (by rfl) (by rfl) (by exact ⟨fun S hS hD hn => .one 0 hS hD hn rfl rfl (faP fa45_0 rfl) rfl rfl rfl, fun S hS hD hn => .one 0 hS hD hn rfl rfl (ldP rfl sz42 ag42 rfl) rfl rfl rfl, fun S hS hD hn => .one 0 hS hD hn rfl rfl (faP fa45_1 rfl) rfl rfl rfl, fun S hS hD hn => .one 0 hS hD hn rfl rfl (ldP rfl sz43 ag43 rfl) rfl rfl rfl, fun S hS hD hn => .one 0 hS hD hn rfl rfl (lnR (l := a0.Rows) sl43 rfl) rfl rfl rfl, fun S hS hD hn => .one 2 hS hD hn rfl rfl (mkS (z0 := (0 : Int)) sl43 un43 ze42 rfl rfl g2_5.1 g2_5.2 rfl) rfl rfl rfl, fun S hS hD hn => .one 0 hS hD hn rfl rfl (bldS (cs := [.val (.int .u64 a0.Gen), .own 2 ((List.replicate (Int.toNat (a0.Rows.length : Int)) (0 : Int)).length)]) ze45 pl45 rfl rfl) rfl rfl rfl, fun S hS hD hn => .one 3 hS hD hn rfl rfl (alP (s := 2) ze45 ⟨rfl, by decide, rfl⟩ rfl) rfl rfl rfl, fun S hS hD hn => .one0 0 rfl rfl (stB (cs0 := [.val (.int .u64 0), .val (.slice none 0 0)]) (cs := [.val (.int .u64 a0.Gen), .own 2 ((List.replicate (Int.toNat (a0.Rows.length : Int)) (0 : Int)).length)]) (cs1 := [.val (.int .u64 a0.Gen), .own 2 ((List.replicate (Int.toNat (a0.Rows.length : Int)) (0 : Int)).length)]) rfl rfl sz45 rfl ⟨Nat.le_of_ble_eq_true rfl, rfl⟩ rfl) (drawE_other _ _ _ _ rfl) rfl, trivial⟩) _ (by exact ⟨.ptr rfl, .ptr rfl, .ptr rfl, trivial⟩) (by rfl)
  refine .seq ?_
  refine .seq ?_
  refine .reg0 rfl (.op 0 rfl (faP fa45_1 rfl) <| .op 0 rfl (ldP rfl sz43 ag43 rfl) <| .op 0 rfl (lnR (l := a0.Rows) sl43 rfl) <| .op 0 rfl (mvV rfl) <| .nil0) ?_
  refine .block ?_
  refine .keepL [0, 1, 3, 2] [(1, .ptr 0 1 2 0 0), (2, .ptr 1 1 2 0 0), (3, .ptr 2 1 2 0 0), (14, .rows (a0.Rows.map (cInt .u64))), (15, .val (.int .i64 (a0.Rows.length : Int))), (16, .val (.int .i64 0))] [⟨2, [(TFacts.lit a0)], 0, none⟩, ⟨2, [[.val (.int .u64 0), .val (.slice none 0 0)]], 0, none⟩, ⟨2, [[.val (.int .u64 a0.Gen), .own 3 ((List.replicate (Int.toNat (a0.Rows.length : Int)) (0 : Int)).length)]], 0, none⟩, ⟨1, (List.replicate (Int.toNat (a0.Rows.length : Int)) (0 : Int)).map (cInt .u64), 0, none⟩] (by decide) (by decide) ⟨.ptr rfl, .ptr rfl, .ptr rfl, .free rfl rfl, .free rfl rfl, .free rfl rfl, trivial⟩ ⟨⟨_, rfl, bcBox (all2_free rfl)⟩, ⟨_, rfl, bcBox (all2_free rfl)⟩, ⟨_, rfl, bcBox (.cons (.free rfl rfl) <| .cons (.own rfl) <| .nil)⟩, ⟨_, rfl, bcRow (l := (List.replicate (Int.toNat (a0.Rows.length : Int)) (0 : Int))) sl43 (Nat.le_refl _) rfl⟩, trivial⟩ ?_
  obtain ⟨o1, hL1, h⟩ := h
  refine .loopB (facts_canon.b1 a0) (fun (x1, x2) => listEnv [(1, .ptr 0 1 2 0 0), (2, .ptr 1 1 2 0 0), (3, .ptr 2 1 2 0 0), (14, .rows (a0.Rows.map (cInt .u64))), (15, .val (.int .i64 (a0.Rows.length : Int))), (16, .val (.int .i64 x2))]) (fun (x1, x2) => [⟨2, [(TFacts.lit a0)], 0, none⟩, ⟨2, [[.val (.int .u64 0), .val (.slice none 0 0)]], 0, none⟩, ⟨2, [[.val (.int .u64 a0.Gen), .own 3 x1.length]], 0, none⟩, ⟨1, x1.map (cInt .u64), 0, none⟩]) (fun x3 => listEnv [(2, .ptr 0 1 2 0 0), (3, .ptr 1 1 2 0 0)]) (fun x3 => [⟨2, [[.val (.int .u64 0), .val (.slice none 0 0)]], 0, none⟩, ⟨2, [[.val (.int .u64 a0.Gen), .own 2 x3.length]], 0, none⟩, ⟨1, x3.map (cInt .u64), 0, none⟩]) hL1 (fun r_ => r = r_) ?_ ?_ ?_
  · rintro x3 rfl
    try dsimp only [Fin.on] at h
    refine .seq ?_
    refine .reg0 rfl (.op 0 rfl (ldG rfl sz45 ag45 rfl) <| .op 0 rfl (stB (cs0 := [.val (.int .u64 0), .val (.slice none 0 0)]) (cs := [.val (.int .u64 a0.Gen), .own 2 x3.length]) (cs1 := [.val (.int .u64 a0.Gen), .own 2 x3.length]) rfl rfl sz45 rfl ⟨Nat.le_of_ble_eq_true rfl, rfl⟩ rfl) <| .nil0) ?_
    replace h := h.symm
    subst h
    refine .keepL [] [(2, .cptr [.val (.int .u64 a0.Gen), .rows (x3.map (cInt .u64))] 0)] [] (by decide) (by decide) ⟨cFixP rfl rfl (.cons (.free rfl rfl) <| .cons (cFixO (l := x3) sl43 rfl rfl rfl rfl) <| .nil), trivial⟩ trivial ?_
    exact .ret rfl
  · rintro r_ rfl
    exact h
  · rintro ⟨x1, x2⟩ z1 h hn1 hx1 hr1
    dsimp only [facts_canon.b1] at h
    refine .seq ?_
    refine .reg0 rfl (.op 0 rfl (ltI rfl rfl) <| .nil0) ?_
    refine .seq ?_
    by_cases c3 : x2 < (a0.Rows.length : Int)
    · rw [if_pos c3] at h
      refine .condT rfl (decide_eq_true c3) ?_
      refine .skip ?_
      refine .seq ?_
      refine .block ?_
      refine .seq ?_
      obtain ⟨g13_1, h⟩ := h
      refine .reg0 rfl (.op 0 rfl (mvV rfl) <| .op 0 rfl (ixR (l := a0.Rows) (lit := (cInt .u64)) sl43 rfl rfl (fun _ => rfl) g13_1.1 g13_1.2) <| .op 0 rfl (ldC rfl sz42 ag42 rfl) <| .op 0 rfl (asV rfl) <| .op 0 rfl (asV rfl) <| .nil0) ?_
      obtain ⟨g14_7, h⟩ := h
      refine .reg0 rfl (.op 0 rfl (faP fa45_1 rfl) <| .op 0 rfl (ldP rfl sz43 ag43 rfl) <| .op 0 rfl (mvV rfl) <| .op 0 rfl (mvV rfl) <| .op 0 rfl (faP fa45_0 rfl) <| .op 0 rfl (ldP rfl sz42 ag42 rfl) <| .op 0 rfl (andNotI rfl rfl) <| .op 0 rfl (ixO (l := x1) sl43 rfl rfl rfl rfl g14_7.1 g14_7.2) <| .op 0 rfl (stO (l := x1) (j := x2) (cs := [.val (.int .u64 (bitOp .andNot .u64 (rdl a0.Rows x2) a0.Gen))]) (bitOp .andNot .u64 (rdl a0.Rows x2) a0.Gen) sl43 rfl rfl sz42 rfl rfl g14_7.1 g14_7.2 (Nat.zero_le _) ⟨Nat.le_of_ble_eq_true rfl, rfl⟩ rfl) <| .nil0) ?_
      refine .inBlock ?_
      refine .reg0 rfl (.op 0 rfl (addI rfl rfl) <| .op 0 rfl (mvV rfl) <| .nil0) ?_
      refine .keepL [0, 1, 2, 3] [(1, .ptr 0 1 2 0 0), (2, .ptr 1 1 2 0 0), (3, .ptr 2 1 2 0 0), (14, .rows (a0.Rows.map (cInt .u64))), (15, .val (.int .i64 (a0.Rows.length : Int))), (16, .val (.int .i64 (IntKind.i64.wrap (x2 + 1))))] [⟨2, [(TFacts.lit a0)], 0, none⟩, ⟨2, [[.val (.int .u64 0), .val (.slice none 0 0)]], 0, none⟩, ⟨2, [[.val (.int .u64 a0.Gen), .own 3 ((setl x1 x2 (bitOp .andNot .u64 (rdl a0.Rows x2) a0.Gen)).length)]], 0, none⟩, ⟨1, (setl x1 x2 (bitOp .andNot .u64 (rdl a0.Rows x2) a0.Gen)).map (cInt .u64), 0, none⟩] (by decide) (by decide) ⟨.ptr rfl, .ptr rfl, .ptr rfl, .free rfl rfl, .free rfl rfl, .free rfl rfl, trivial⟩ ⟨⟨_, rfl, bcBox (all2_free rfl)⟩, ⟨_, rfl, bcBox (all2_free rfl)⟩, ⟨_, rfl, bcBox (.cons (.free rfl rfl) <| .cons (cOwnE rfl (by simp only [setl, List.length_set])) <| .nil)⟩, ⟨_, rfl, bcRow (l := (setl x1 x2 (bitOp .andNot .u64 (rdl a0.Rows x2) a0.Gen))) sl43 (Nat.le_refl _) rfl⟩, trivial⟩ ?_
      exact hn1 _ h
    · rw [if_neg c3] at h
      refine .condF rfl (decide_eq_false c3) ?_
      refine .exit rfl ?_
      refine .keepL [1, 2, 3] [(2, .ptr 0 1 2 0 0), (3, .ptr 1 1 2 0 0)] [⟨2, [[.val (.int .u64 0), .val (.slice none 0 0)]], 0, none⟩, ⟨2, [[.val (.int .u64 a0.Gen), .own 2 x1.length]], 0, none⟩, ⟨1, x1.map (cInt .u64), 0, none⟩] (by decide) (by decide) ⟨.ptr rfl, .ptr rfl, trivial⟩ ⟨⟨_, rfl, bcBox (all2_free rfl)⟩, ⟨_, rfl, bcBox (.cons (.free rfl rfl) <| .cons (.own rfl) <| .nil)⟩, ⟨_, rfl, bcRow (l := x1) sl43 (Nat.le_refl _) rfl⟩, trivial⟩ ?_
      exact hx1 _ h
def slices_Equal_uint64.b1 (a0 : List Int) (a1 : List Int) : Int → Rnd Int Unit Bool → Prop := fun x1 z1 => if x1 < (a0.length : Int) then (((InR x1 a0.length)) ∧ ((InR x1 a1.length)) ∧ if (rdl a0 x1) = (rdl a1 x1) then (z1 = .next (IntKind.i64.wrap (x1 + 1))) else (z1 = .ret false)) else (z1 = .exit ())
def slices_Equal_uint64.f (a0 : List Int) (a1 : List Int) (r : Bool) : Prop :=
  if (a0.length : Int) = (a1.length : Int) then (∃ o1 : Fin Unit Bool, Loop (slices_Equal_uint64.b1 a0 a1) 0 o1 ∧ o1.on (fun _ => r = true) (fun r_ => r = r_)) else (r = false)
theorem slices_Equal_uint64.D {a0 : List Int} {a1 : List Int} {r : Bool} (h : slices_Equal_uint64.f a0 a1 r) : D Try.prog X (.callH 88 [.rows (a0.map (cInt .u64)), .rows (a1.map (cInt .u64))] [] (.val (.bool r)) []) := by
  unfold slices_Equal_uint64.f at h
  refine .enter 26 0 fn88 rfl rfl rfl ?_
  refine .seq ?_
  refine .reg0 rfl (.op 0 rfl (asV rfl) <| .nil0) ?_
  refine .seq ?_
  refine .seq ?_
  refine .reg0 rfl (.op 0 rfl (mvR rfl) <| .op 0 rfl (lnR (l := a0) sl43 rfl) <| .op 0 rfl (mvR rfl) <| .op 0 rfl (lnR (l := a1) sl43 rfl) <| .op 0 rfl (neI rfl rfl) <| .nil0) ?_
  by_cases c1 : (a0.length : Int) = (a1.length : Int)
  · rw [if_pos c1] at h
    refine .condF rfl (bne_eq_false_iff_eq.mpr c1) ?_
    refine .skip ?_
    refine .seq ?_
    refine .seq ?_
    refine .reg0 rfl (.op 0 rfl (mvR rfl) <| .op 0 rfl (lnR (l := a0) sl43 rfl) <| .op 0 rfl (mvV rfl) <| .nil0) ?_
    refine .block ?_
    refine .keepL [] [(0, .rows (a0.map (cInt .u64))), (1, .rows (a1.map (cInt .u64))), (12, .val (.int .i64 (a0.length : Int))), (13, .val (.int .i64 0))] [] (by decide) (by decide) ⟨.free rfl rfl, .free rfl rfl, .free rfl rfl, .free rfl rfl, trivial⟩ trivial ?_
    obtain ⟨o1, hL1, h⟩ := h
    refine .loopB (slices_Equal_uint64.b1 a0 a1) (fun x1 => listEnv [(0, .rows (a0.map (cInt .u64))), (1, .rows (a1.map (cInt .u64))), (12, .val (.int .i64 (a0.length : Int))), (13, .val (.int .i64 x1))]) (fun x1 => []) (fun _ => listEnv []) (fun _ => []) hL1 (fun r_ => r = r_) ?_ ?_ ?_
    · rintro ⟨⟩ rfl
      try dsimp only [Fin.on] at h
      refine .seq ?_
      refine .reg0 rfl (.op 0 rfl (asV rfl) <| .nil0) ?_
      replace h := h.symm
      subst h
      refine .keepL [] [(4, .val (.bool true))] [] (by decide) (by decide) ⟨.free rfl rfl, trivial⟩ trivial ?_
      exact .ret rfl
    · rintro r_ rfl
      exact h
    · rintro x1 z1 h hn1 hx1 hr1
      dsimp only [slices_Equal_uint64.b1] at h
      refine .seq ?_
      refine .reg0 rfl (.op 0 rfl (ltI rfl rfl) <| .nil0) ?_
      refine .seq ?_
      by_cases c6 : x1 < (a0.length : Int)
      · rw [if_pos c6] at h
        refine .condT rfl (decide_eq_true c6) ?_
        refine .skip ?_
        refine .seq ?_
        refine .block ?_
        refine .seq ?_
        refine .reg0 rfl (.op 0 rfl (mvV rfl) <| .op 0 rfl (asV rfl) <| .nil0) ?_
        refine .seq ?_
        obtain ⟨g16_2, h⟩ := h
        obtain ⟨g16_6, h⟩ := h
        refine .reg1 (e1 := listEnv [(0, .rows (a0.map (cInt .u64))), (1, .rows (a1.map (cInt .u64))), (12, .val (.int .i64 (a0.length : Int))), (13, .val (.int .i64 x1)), (24, .val (.bool ((rdl a0 x1) != (rdl a1 x1))))]) (H1 := []) rfl ?_ ?_
        · exact .drawM [(8, 24, .val (.bool ((rdl a0 x1) != (rdl a1 x1)))), (7, 23, .val (.int .u64 (rdl a1 x1))), (6, 22, .cptr ((cInt .u64) (rdl a1 x1)) 0), (5, 21, .val (.int .i64 x1)), (4, 20, .rows (a1.map (cInt .u64))), (3, 19, .val (.int .u64 (rdl a0 x1))), (2, 18, .cptr ((cInt .u64) (rdl a0 x1)) 0), (1, 17, .val (.int .i64 x1)), (0, 16, .rows (a0.map (cInt .u64)))] [] [[], [], [0, 1], [2, 0, 1], [], [], [4, 5], [6, 4, 5], [3, 2, 0, 1, 7, 6, 4, 5]] (by rfl) (by rfl) (by rfl) (by exact ⟨fun S hS hD hn => .one 0 hS hD hn rfl rfl (mvR rfl) rfl rfl rfl, fun S hS hD hn => .one 0 hS hD hn rfl rfl (mvV rfl) rfl rfl rfl, fun S hS hD hn => .one 0 hS hD hn rfl rfl (ixR (l := a0) (lit := (cInt .u64)) sl43 rfl rfl (fun _ => rfl) g16_2.1 g16_2.2) rfl rfl rfl, fun S hS hD hn => .one 0 hS hD hn rfl rfl (ldC rfl sz42 ag42 rfl) rfl rfl rfl, fun S hS hD hn => .one 0 hS hD hn rfl rfl (mvR rfl) rfl rfl rfl, fun S hS hD hn => .one 0 hS hD hn rfl rfl (mvV rfl) rfl rfl rfl, fun S hS hD hn => .one 0 hS hD hn rfl rfl (ixR (l := a1) (lit := (cInt .u64)) sl43 rfl rfl (fun _ => rfl) g16_6.1 g16_6.2) rfl rfl rfl, fun S hS hD hn => .one 0 hS hD hn rfl rfl (ldC rfl sz42 ag42 rfl) rfl rfl rfl, fun S hS hD hn => .one 0 hS hD hn rfl rfl (neI rfl rfl) rfl rfl rfl, trivial⟩) _ (by exact ⟨.free rfl rfl, .free rfl rfl, .free rfl rfl, .free rfl rfl, .free rfl rfl, trivial⟩) (by rfl)
        by_cases c7 : (rdl a0 x1) = (rdl a1 x1)
        · rw [if_pos c7] at h
          refine .condF rfl (bne_eq_false_iff_eq.mpr c7) ?_
          refine .skip ?_
          refine .inBlock ?_
          refine .reg0 rfl (.op 0 rfl (addI rfl rfl) <| .op 0 rfl (mvV rfl) <| .nil0) ?_
          refine .keepL [] [(0, .rows (a0.map (cInt .u64))), (1, .rows (a1.map (cInt .u64))), (12, .val (.int .i64 (a0.length : Int))), (13, .val (.int .i64 (IntKind.i64.wrap (x1 + 1))))] [] (by decide) (by decide) ⟨.free rfl rfl, .free rfl rfl, .free rfl rfl, .free rfl rfl, trivial⟩ trivial ?_
          exact hn1 _ h
        · rw [if_neg c7] at h
          refine .condT rfl (bne_iff_ne.mpr c7) ?_
          refine .seq ?_
          refine .reg0 rfl (.op 0 rfl (asV rfl) <| .nil0) ?_
          have q3 := hr1 _ h
          replace q3 := q3.symm
          subst q3
          refine .keepL [] [(4, .val (.bool false))] [] (by decide) (by decide) ⟨.free rfl rfl, trivial⟩ trivial ?_
          exact .ret rfl
      · rw [if_neg c6] at h
        refine .condF rfl (decide_eq_false c6) ?_
        refine .exit rfl ?_
        refine .keepL [] [] [] (by decide) (by decide) trivial trivial ?_
        exact hx1 _ h
  · rw [if_neg c1] at h
    refine .condT rfl (bne_iff_ne.mpr c1) ?_
    refine .seq ?_
    refine .reg0 rfl (.op 0 rfl (asV rfl) <| .nil0) ?_
    replace h := h.symm
    subst h
    refine .keepL [] [(4, .val (.bool false))] [] (by decide) (by decide) ⟨.free rfl rfl, trivial⟩ trivial ?_
    exact .ret rfl
def facts_Same.f (a0 : TFacts) (a1 : TFacts) (r : Bool) : Prop :=
  ∃ t2_10 : Bool, ((a0.Gen = a1.Gen) → slices_Equal_uint64.f a0.Rows a1.Rows t2_10) ∧ r = ((a0.Gen == a1.Gen) && t2_10)
theorem facts_Same.D {a0 : TFacts} {a1 : TFacts} {r : Bool} (h : facts_Same.f a0 a1 r) : D Try.prog X (.callH 83 [.agg (TFacts.lit a0), .agg (TFacts.lit a1)] [] (.val (.bool r)) []) := by
  unfold facts_Same.f at h
  refine .enter 17 0 fn83 rfl rfl rfl ?_
  refine .seq ?_
  refine .room 0 ?_
  refine .room 0 ?_
  refine .reg0 rfl (.op 0 rfl (bxP (s := 2) (cs := (TFacts.lit a0)) rfl ⟨rfl, by decide, rfl⟩ rfl) <| .op 1 rfl (bxP (s := 2) (cs := (TFacts.lit a1)) rfl ⟨rfl, by decide, rfl⟩ rfl) <| .op 0 rfl (asV rfl) <| .nil0) ?_
  refine .seq ?_
  obtain ⟨t2_10, g2_10, h⟩ := h
  refine .reg0 (e1 := listEnv [(4, .val (.bool ((a0.Gen == a1.Gen) && t2_10)))]) (H1 := [⟨2, [(TFacts.lit a0)], 0, none⟩, ⟨2, [(TFacts.lit a1)], 0, none⟩]) rfl ?_ ?_
  · by_cases c1 : a0.Gen = a1.Gen
    · exact (.op 0 rfl (faP fa45_0 rfl) <| .op 0 rfl (ldP rfl sz42 ag42 rfl) <| .op 0 rfl (faP fa45_0 rfl) <| .op 0 rfl (ldP rfl sz42 ag42 rfl) <| .op 0 rfl (eqI rfl rfl) <| .op 0 rfl (mvV rfl) <| .op 0 (gT rfl rfl rfl (beq_iff_eq.mpr c1)) (faP fa45_1 rfl) <| .op 0 (gT rfl rfl rfl (beq_iff_eq.mpr c1)) (ldP rfl sz43 ag43 rfl) <| .op 0 (gT rfl rfl rfl (beq_iff_eq.mpr c1)) (faP fa45_1 rfl) <| .op 0 (gT rfl rfl rfl (beq_iff_eq.mpr c1)) (ldP rfl sz43 ag43 rfl) <| .callI (gT rfl rfl rfl (beq_iff_eq.mpr c1)) (callee_of rfl go88 rfl) (.pure rfl rfl (slices_Equal_uint64.D (g2_10 c1))) <| .op 0 rfl (pkTV rfl (beq_iff_eq.mpr c1) rfl) <| .op 0 rfl (asV rfl) <| .nilL _ ⟨cB rfl (mAndT (beq_iff_eq.mpr c1) rfl), trivial⟩)
    · exact (.op 0 rfl (faP fa45_0 rfl) <| .op 0 rfl (ldP rfl sz42 ag42 rfl) <| .op 0 rfl (faP fa45_0 rfl) <| .op 0 rfl (ldP rfl sz42 ag42 rfl) <| .op 0 rfl (eqI rfl rfl) <| .op 0 rfl (mvV rfl) <| .no (gF rfl rfl rfl (beq_eq_false_iff_ne.mpr c1)) <| .no (gF rfl rfl rfl (beq_eq_false_iff_ne.mpr c1)) <| .no (gF rfl rfl rfl (beq_eq_false_iff_ne.mpr c1)) <| .no (gF rfl rfl rfl (beq_eq_false_iff_ne.mpr c1)) <| .no (gF rfl rfl rfl (beq_eq_false_iff_ne.mpr c1)) <| .op 0 rfl (pkFV rfl (beq_eq_false_iff_ne.mpr c1) rfl) <| .op 0 rfl (asV rfl) <| .nilL _ ⟨cB rfl (mAndF (beq_eq_false_iff_ne.mpr c1)), trivial⟩)
  replace h := h.symm
  subst h
  refine .keepL [] [(4, .val (.bool ((a0.Gen == a1.Gen) && t2_10)))] [] (by decide) (by decide) ⟨.free rfl rfl, trivial⟩ trivial ?_
  exact .ret rfl
def facts_Check.f (a0 : Int) (a1 : TFacts) (r : Int) : Prop :=
  ∃ t2_2 : Int, (facts_shaped.f a0 a1 t2_2) ∧ if t2_2 = 0 then (∃ t4_1 : TFacts, (facts_canon.f a1 t4_1) ∧ ∃ t4_3 : Bool, (facts_Same.f t4_1 a1 t4_3) ∧ if t4_3 = true then (r = 0) else (r = 30)) else (r = t2_2)
theorem facts_Check.D {a0 : Int} {a1 : TFacts} {r : Int} (h : facts_Check.f a0 a1 r) : D Try.prog X (.callH 78 [.val (.int .i64 a0), .agg (TFacts.lit a1)] [] (.val (.int .i64 r)) []) := by
  unfold facts_Check.f at h
  refine .enter 17 0 fn78 rfl rfl rfl ?_
  refine .seq ?_
  refine .room 0 ?_
  refine .reg0 rfl (.op 0 rfl (bxP (s := 2) (cs := (TFacts.lit a1)) rfl ⟨rfl, by decide, rfl⟩ rfl) <| .op 0 rfl (asV rfl) <| .nil0) ?_
  refine .seq ?_
  refine .seq ?_
  obtain ⟨t2_2, g2_2, h⟩ := h
  refine .reg0 rfl (.op 0 rfl (mvV rfl) <| .op 0 rfl (ldG rfl sz45 ag45 rfl) <| .callI rfl (callee_of rfl go82 rfl) (.pure rfl rfl (facts_shaped.D g2_2)) <| .op 0 rfl (asV rfl) <| .nil0) ?_
  refine .seq ?_
  refine .reg0 rfl (.op 0 rfl (mvV rfl) <| .op 0 rfl (neI rfl rfl) <| .nil0) ?_
  by_cases c1 : t2_2 = 0
  · rw [if_pos c1] at h
    refine .condF rfl (bne_eq_false_iff_eq.mpr c1) ?_
    refine .skip ?_
    refine .seq ?_
    refine .seq ?_
    obtain ⟨t4_1, g4_1, h⟩ := h
    obtain ⟨t4_3, g4_3, h⟩ := h
    refine .reg1 (e1 := listEnv [(16, .val (.bool (!t4_3)))]) (H1 := [⟨2, [(TFacts.lit a1)], 0, none⟩]) rfl ?_ ?_
    · exact .drawM [(4, 16, .val (.bool (!t4_3))), (3, 15, .val (.bool t4_3)), (2, 14, .agg (TFacts.lit a1)), (1, 13, .agg (TFacts.lit t4_1)), (0, 12, .agg (TFacts.lit a1))] [] [[], [0], [], [1, 0, 2], [3, 1, 0, 2]] (by rfl) (by rfl) (by rfl) (by exact ⟨fun S hS hD hn => .one 0 hS hD hn rfl rfl (ldG rfl sz45 ag45 rfl) rfl rfl rfl, fun S hS hD hn => .oneI hS hD hn rfl rfl (callee_of rfl go84 rfl) (.pure rfl rfl (facts_canon.D g4_1)) rfl rfl rfl, fun S hS hD hn => .one 0 hS hD hn rfl rfl (ldG rfl sz45 ag45 rfl) rfl rfl rfl, fun S hS hD hn => .oneI hS hD hn rfl rfl (callee_of rfl go83 rfl) (.pure rfl rfl (facts_Same.D g4_3)) rfl rfl rfl, fun S hS hD hn => .one 0 hS hD hn rfl rfl (notB rfl) rfl rfl rfl, trivial⟩) _ (by exact ⟨.free rfl rfl, trivial⟩) (by rfl)
    by_cases c2 : t4_3 = true
    · rw [if_pos c2] at h
      refine .condF rfl (bnotF c2) ?_
      refine .skip ?_
      refine .seq ?_
      refine .reg0 rfl (.op 0 rfl (asV rfl) <| .nil0) ?_
      replace h := h.symm
      subst h
      refine .keepL [] [(4, .val (.int .i64 0))] [] (by decide) (by decide) ⟨.free rfl rfl, trivial⟩ trivial ?_
      exact .ret rfl
    · rw [if_neg c2] at h
      refine .condT rfl (bnotT (Bool.eq_false_iff.mpr c2)) ?_
      refine .seq ?_
      refine .reg0 rfl (.op 0 rfl (asV rfl) <| .nil0) ?_
      replace h := h.symm
      subst h
      refine .keepL [] [(4, .val (.int .i64 30))] [] (by decide) (by decide) ⟨.free rfl rfl, trivial⟩ trivial ?_
      exact .ret rfl
  · rw [if_neg c1] at h
    refine .condT rfl (bne_iff_ne.mpr c1) ?_
    refine .seq ?_
    refine .reg0 rfl (.op 0 rfl (mvV rfl) <| .op 0 rfl (asV rfl) <| .nil0) ?_
    replace h := h.symm
    subst h
    refine .keepL [] [(4, .val (.int .i64 t2_2))] [] (by decide) (by decide) ⟨.free rfl rfl, trivial⟩ trivial ?_
    exact .ret rfl
def cells_dims.f (a0 : Int) (r : Int) : Prop :=
  if ((decide (a0 < 0)) || (decide (a0 > 64))) = true then (r = 41) else (r = 0)
theorem cells_dims.D {a0 : Int} {r : Int} (h : cells_dims.f a0 r) : D Try.prog X (.callH 70 [.val (.int .i64 a0)] [] (.val (.int .i64 r)) []) := by
  unfold cells_dims.f at h
  refine .enter 9 0 fn70 rfl rfl rfl ?_
  refine .seq ?_
  refine .reg0 rfl (.op 0 rfl (asV rfl) <| .nil0) ?_
  refine .seq ?_
  refine .seq ?_
  refine .reg0 (e1 := listEnv [(8, .val (.bool ((decide (a0 < 0)) || (decide (a0 > 64)))))]) (H1 := []) rfl ?_ ?_
  · by_cases c1 : a0 < 0
    · exact (.op 0 rfl (mvV rfl) <| .op 0 rfl (ltI rfl rfl) <| .op 0 rfl (mvV rfl) <| .no (gF rfl rfl rfl (decide_eq_true c1)) <| .no (gF rfl rfl rfl (decide_eq_true c1)) <| .op 0 rfl (pkTV rfl (decide_eq_true c1) rfl) <| .nilL _ ⟨cB rfl (mOrT (decide_eq_true c1)), trivial⟩)
    · exact (.op 0 rfl (mvV rfl) <| .op 0 rfl (ltI rfl rfl) <| .op 0 rfl (mvV rfl) <| .op 0 (gT rfl rfl rfl (decide_eq_false c1)) (mvV rfl) <| .op 0 (gT rfl rfl rfl (decide_eq_false c1)) (gtI rfl rfl) <| .op 0 rfl (pkFV rfl (decide_eq_false c1) rfl) <| .nilL _ ⟨cB rfl (mOrF (decide_eq_false c1) rfl), trivial⟩)
  by_cases c2 : ((decide (a0 < 0)) || (decide (a0 > 64))) = true
  · rw [if_pos c2] at h
    refine .condT rfl c2 ?_
    refine .seq ?_
    refine .reg0 rfl (.op 0 rfl (asV rfl) <| .nil0) ?_
    replace h := h.symm
    subst h
    refine .keepL [] [(2, .val (.int .i64 41))] [] (by decide) (by decide) ⟨.free rfl rfl, trivial⟩ trivial ?_
    exact .ret rfl
  · rw [if_neg c2] at h
    refine .condF rfl (Bool.eq_false_iff.mpr c2) ?_
    refine .skip ?_
    refine .seq ?_
    refine .reg0 rfl (.op 0 rfl (asV rfl) <| .nil0) ?_
    replace h := h.symm
    subst h
    refine .keepL [] [(2, .val (.int .i64 0))] [] (by decide) (by decide) ⟨.free rfl rfl, trivial⟩ trivial ?_
    exact .ret rfl
def cells_mask.f (a0 : Int) (r : Int) : Prop :=
  if a0 ≥ 64 then (r = 18446744073709551615) else ((((0 : Int) ≤ a0)) ∧ r = (IntKind.u64.wrap ((shlI .u64 1 a0) - 1)))
theorem cells_mask.D {a0 : Int} {r : Int} (h : cells_mask.f a0 r) : D Try.prog X (.callH 89 [.val (.int .i64 a0)] [] (.val (.int .u64 r)) []) := by
  unfold cells_mask.f at h
  refine .enter 8 0 fn89 rfl rfl rfl ?_
  refine .seq ?_
  refine .reg0 rfl (.op 0 rfl (asV rfl) <| .nil0) ?_
  refine .seq ?_
  refine .seq ?_
  refine .reg0 rfl (.op 0 rfl (mvV rfl) <| .op 0 rfl (geI rfl rfl) <| .nil0) ?_
  by_cases c1 : a0 ≥ 64
  · rw [if_pos c1] at h
    refine .condT rfl (decide_eq_true c1) ?_
    refine .seq ?_
    refine .reg0 rfl (.op 0 rfl (asV rfl) <| .nil0) ?_
    replace h := h.symm
    subst h
    refine .keepL [] [(2, .val (.int .u64 18446744073709551615))] [] (by decide) (by decide) ⟨.free rfl rfl, trivial⟩ trivial ?_
    exact .ret rfl
  · rw [if_neg c1] at h
    refine .condF rfl (decide_eq_false c1) ?_
    refine .skip ?_
    refine .seq ?_
    obtain ⟨g4_1, h⟩ := h
    refine .reg0 rfl (.op 0 rfl (mvV rfl) <| .op 0 rfl (shl_ rfl rfl g4_1) <| .op 0 rfl (subI rfl rfl) <| .op 0 rfl (asV rfl) <| .nil0) ?_
    replace h := h.symm
    subst h
    refine .keepL [] [(2, .val (.int .u64 (IntKind.u64.wrap ((shlI .u64 1 a0) - 1))))] [] (by decide) (by decide) ⟨.free rfl rfl, trivial⟩ trivial ?_
    exact .ret rfl
def cells_right.f (a0 : Int) (a1 : TCell) (r : Bool) : Prop :=
  ∃ t2_3 : Int, (cells_mask.f a0 t2_3) ∧ if (bitOp .andNot .u64 a1.From t2_3) = 0 then (if a1.Kind = 1 then (r = true) else (if a1.Kind = 0 then (r = (a1.K == 0)) else (if a1.Kind = 2 then (r = ((a1.From == 0) && ((a1.Kind == 2) && ((a1.K == 0) && true)))) else (r = false)))) else (r = false)
theorem cells_right.D {a0 : Int} {a1 : TCell} {r : Bool} (h : cells_right.f a0 a1 r) : D Try.prog X (.callH 85 [.val (.int .i64 a0), .agg (TCell.lit a1)] [] (.val (.bool r)) []) := by
  unfold cells_right.f at h
  refine .enter 25 0 fn85 rfl rfl rfl ?_
  refine .seq ?_
  refine .room 0 ?_
  refine .reg0 rfl (.op 0 rfl (bxP (s := 3) (cs := (TCell.lit a1)) rfl ⟨rfl, by decide, rfl⟩ rfl) <| .op 0 rfl (asV rfl) <| .nil0) ?_
  refine .seq ?_
  refine .seq ?_
  obtain ⟨t2_3, g2_3, h⟩ := h
  refine .reg1 (e1 := listEnv [(3, .ptr 0 1 3 0 0), (10, .val (.bool ((bitOp .andNot .u64 a1.From t2_3) != 0)))]) (H1 := [⟨3, [(TCell.lit a1)], 0, none⟩]) rfl ?_ ?_
  · exact .drawM [(5, 10, .val (.bool ((bitOp .andNot .u64 a1.From t2_3) != 0))), (4, 9, .val (.int .u64 (bitOp .andNot .u64 a1.From t2_3))), (3, 8, .val (.int .u64 t2_3)), (2, 7, .val (.int .i64 a0)), (1, 6, .val (.int .u64 a1.From)), (0, 5, .ptr 0 1 3 0 0)] [] [[], [0], [], [2], [1, 0, 3, 2], [4, 1, 0, 3, 2]] (by rfl) (by rfl) (by rfl) (by exact ⟨fun S hS hD hn => .one 0 hS hD hn rfl rfl (faP fa83_0 rfl) rfl rfl rfl, fun S hS hD hn => .one 0 hS hD hn rfl rfl (ldP rfl sz42 ag42 rfl) rfl rfl rfl, fun S hS hD hn => .one 0 hS hD hn rfl rfl (mvV rfl) rfl rfl rfl, fun S hS hD hn => .oneI hS hD hn rfl rfl (callee_of rfl go89 rfl) (.pure rfl rfl (cells_mask.D g2_3)) rfl rfl rfl, fun S hS hD hn => .one 0 hS hD hn rfl rfl (andNotI rfl rfl) rfl rfl rfl, fun S hS hD hn => .one 0 hS hD hn rfl rfl (neI rfl rfl) rfl rfl rfl, trivial⟩) _ (by exact ⟨.ptr rfl, .free rfl rfl, trivial⟩) (by rfl)
  by_cases c1 : (bitOp .andNot .u64 a1.From t2_3) = 0
  · rw [if_pos c1] at h
    refine .condF rfl (bne_eq_false_iff_eq.mpr c1) ?_
    refine .skip ?_
    refine .seq ?_
    refine .seq ?_
    refine .reg0 rfl (.op 0 rfl (faP fa83_1 rfl) <| .op 0 rfl (ldP rfl sz81 ag81 rfl) <| .nil0) ?_
    refine .block ?_
    refine .seq ?_
    refine .reg0 rfl (.op 0 rfl (eqI rfl rfl) <| .op 0 rfl (asV rfl) <| .nil0) ?_
    by_cases c2 : a1.Kind = 1
    · rw [if_pos c2] at h
      refine .condT rfl (beq_iff_eq.mpr c2) ?_
      refine .seq ?_
      refine .reg0 rfl (.op 0 rfl (asV rfl) <| .nil0) ?_
      replace h := h.symm
      subst h
      refine .keepL [] [(4, .val (.bool true))] [] (by decide) (by decide) ⟨.free rfl rfl, trivial⟩ trivial ?_
      exact .ret rfl
    · rw [if_neg c2] at h
      refine .condF rfl (beq_eq_false_iff_ne.mpr c2) ?_
      refine .seq ?_
      refine .reg0 rfl (.op 0 rfl (eqI rfl rfl) <| .op 0 rfl (asV rfl) <| .nil0) ?_
      by_cases c3 : a1.Kind = 0
      · rw [if_pos c3] at h
        refine .condT rfl (beq_iff_eq.mpr c3) ?_
        refine .seq ?_
        refine .reg0 rfl (.op 0 rfl (faP fa83_2 rfl) <| .op 0 rfl (ldP rfl sz2 ag2 rfl) <| .op 0 rfl (eqI rfl rfl) <| .op 0 rfl (asV rfl) <| .nil0) ?_
        replace h := h.symm
        subst h
        refine .keepL [] [(4, .val (.bool (a1.K == 0)))] [] (by decide) (by decide) ⟨.free rfl rfl, trivial⟩ trivial ?_
        exact .ret rfl
      · rw [if_neg c3] at h
        refine .condF rfl (beq_eq_false_iff_ne.mpr c3) ?_
        refine .seq ?_
        refine .reg0 rfl (.op 0 rfl (eqI rfl rfl) <| .op 0 rfl (asV rfl) <| .nil0) ?_
        by_cases c4 : a1.Kind = 2
        · rw [if_pos c4] at h
          refine .condT rfl (beq_iff_eq.mpr c4) ?_
          refine .seq ?_
          refine .reg0 rfl (.op 0 rfl (ldG rfl sz83 ag83 rfl) <| .op 0 rfl (bldS (cs := [.val (.int .u64 0), .val (.int .i64 2), .val (.int .i64 0)]) ze83 pl83 rfl rfl) <| .op 0 rfl (eqS (xs := [.int .u64 a1.From, .int .i64 a1.Kind, .int .i64 a1.K]) (ys := [.int .u64 0, .int .i64 2, .int .i64 0]) ek83 rfl rfl rfl rfl rfl) <| .op 0 rfl (asV rfl) <| .nil0) ?_
          replace h := h.symm
          subst h
          refine .keepL [] [(4, .val (.bool ((a1.From == 0) && ((a1.Kind == 2) && ((a1.K == 0) && true)))))] [] (by decide) (by decide) ⟨.free rfl rfl, trivial⟩ trivial ?_
          exact .ret rfl
        · rw [if_neg c4] at h
          refine .condF rfl (beq_eq_false_iff_ne.mpr c4) ?_
          refine .skip ?_
          refine .inBlock ?_
          refine .seq ?_
          refine .reg0 rfl (.op 0 rfl (asV rfl) <| .nil0) ?_
          replace h := h.symm
          subst h
          refine .keepL [] [(4, .val (.bool false))] [] (by decide) (by decide) ⟨.free rfl rfl, trivial⟩ trivial ?_
          exact .ret rfl
  · rw [if_neg c1] at h
    refine .condT rfl (bne_iff_ne.mpr c1) ?_
    refine .seq ?_
    refine .reg0 rfl (.op 0 rfl (asV rfl) <| .nil0) ?_
    replace h := h.symm
    subst h
    refine .keepL [] [(4, .val (.bool false))] [] (by decide) (by decide) ⟨.free rfl rfl, trivial⟩ trivial ?_
    exact .ret rfl
def cells_Check.b1 (a0 : Int) (a1 : List TCell) : Int → Rnd Int Unit Int → Prop := fun x1 z1 => if x1 < (a1.length : Int) then (((InR x1 a1.length)) ∧ ∃ t18_2 : Bool, (cells_right.f a0 (rdl a1 x1) t18_2) ∧ if t18_2 = true then (z1 = .next (IntKind.i64.wrap (x1 + 1))) else (z1 = .ret 40)) else (z1 = .exit ())
def cells_Check.f (a0 : Int) (a1 : List TCell) (r : Int) : Prop :=
  ∃ t2_1 : Int, (cells_dims.f a0 t2_1) ∧ if t2_1 = 0 then (if (a1.length : Int) = a0 then (∃ o1 : Fin Unit Int, Loop (cells_Check.b1 a0 a1) 0 o1 ∧ o1.on (fun _ => r = 0) (fun r_ => r = r_)) else (r = 40)) else (r = t2_1)
theorem cells_Check.D {a0 : Int} {a1 : List TCell} {r : Int} (h : cells_Check.f a0 a1 r) : D Try.prog X (.callH 79 [.val (.int .i64 a0), .rows (a1.map TCell.cells)] [] (.val (.int .i64 r)) []) := by
  unfold cells_Check.f at h
  refine .enter 28 0 fn79 rfl rfl rfl ?_
  refine .seq ?_
  refine .reg0 rfl (.op 0 rfl (asV rfl) <| .nil0) ?_
  refine .seq ?_
  refine .seq ?_
  obtain ⟨t2_1, g2_1, h⟩ := h
  refine .reg0 rfl (.op 0 rfl (mvV rfl) <| .callI rfl (callee_of rfl go70 rfl) (.pure rfl rfl (cells_dims.D g2_1)) <| .op 0 rfl (asV rfl) <| .nil0) ?_
  refine .seq ?_
  refine .reg0 rfl (.op 0 rfl (mvV rfl) <| .op 0 rfl (neI rfl rfl) <| .nil0) ?_
  by_cases c1 : t2_1 = 0
  · rw [if_pos c1] at h
    refine .condF rfl (bne_eq_false_iff_eq.mpr c1) ?_
    refine .skip ?_
    refine .seq ?_
    refine .seq ?_
    refine .reg0 rfl (.op 0 rfl (mvR rfl) <| .op 0 rfl (lnR (l := a1) sl46 rfl) <| .op 0 rfl (mvV rfl) <| .op 0 rfl (neI rfl rfl) <| .nil0) ?_
    by_cases c2 : (a1.length : Int) = a0
    · rw [if_pos c2] at h
      refine .condF rfl (bne_eq_false_iff_eq.mpr c2) ?_
      refine .skip ?_
      refine .seq ?_
      refine .seq ?_
      refine .reg0 rfl (.op 0 rfl (mvR rfl) <| .op 0 rfl (lnR (l := a1) sl46 rfl) <| .op 0 rfl (mvV rfl) <| .nil0) ?_
      refine .block ?_
      refine .keepL [] [(0, .val (.int .i64 a0)), (17, .rows (a1.map TCell.cells)), (18, .val (.int .i64 (a1.length : Int))), (19, .val (.int .i64 0))] [] (by decide) (by decide) ⟨.free rfl rfl, .free rfl rfl, .free rfl rfl, .free rfl rfl, trivial⟩ trivial ?_
      obtain ⟨o1, hL1, h⟩ := h
      refine .loopB (cells_Check.b1 a0 a1) (fun x1 => listEnv [(0, .val (.int .i64 a0)), (17, .rows (a1.map TCell.cells)), (18, .val (.int .i64 (a1.length : Int))), (19, .val (.int .i64 x1))]) (fun x1 => []) (fun _ => listEnv []) (fun _ => []) hL1 (fun r_ => r = r_) ?_ ?_ ?_
      · rintro ⟨⟩ rfl
        try dsimp only [Fin.on] at h
        refine .seq ?_
        refine .reg0 rfl (.op 0 rfl (asV rfl) <| .nil0) ?_
        replace h := h.symm
        subst h
        refine .keepL [] [(4, .val (.int .i64 0))] [] (by decide) (by decide) ⟨.free rfl rfl, trivial⟩ trivial ?_
        exact .ret rfl
      · rintro r_ rfl
        exact h
      · rintro x1 z1 h hn1 hx1 hr1
        dsimp only [cells_Check.b1] at h
        refine .seq ?_
        refine .reg0 rfl (.op 0 rfl (ltI rfl rfl) <| .nil0) ?_
        refine .seq ?_
        by_cases c7 : x1 < (a1.length : Int)
        · rw [if_pos c7] at h
          refine .condT rfl (decide_eq_true c7) ?_
          refine .skip ?_
          refine .seq ?_
          refine .block ?_
          refine .seq ?_
          obtain ⟨g17_0, h⟩ := h
          refine .room 0 ?_
          refine .reg0 rfl (.op 0 rfl (ixR (l := a1) (lit := TCell.lit) sl46 rfl rfl (fun _ => rfl) g17_0.1 g17_0.2) <| .op 0 rfl (ldCG rfl sz83 ag83 rfl) <| .op 0 rfl (alP (s := 3) ze83 ⟨rfl, by decide, rfl⟩ rfl) <| .op 0 rfl (stB (cs0 := [.val (.int .u64 0), .val (.int .i64 0), .val (.int .i64 0)]) (cs := (TCell.lit (rdl a1 x1))) (cs1 := (TCell.lit (rdl a1 x1))) rfl rfl sz83 rfl ⟨Nat.le_of_ble_eq_true rfl, rfl⟩ rfl) <| .nil0) ?_
          refine .seq ?_
          obtain ⟨t18_2, g18_2, h⟩ := h
          refine .reg0 rfl (.op 0 rfl (mvV rfl) <| .op 0 rfl (ldG rfl sz83 ag83 rfl) <| .callI rfl (callee_of rfl go85 rfl) (.pure rfl rfl (cells_right.D g18_2)) <| .op 0 rfl (notB rfl) <| .nil0) ?_
          by_cases c8 : t18_2 = true
          · rw [if_pos c8] at h
            refine .condF rfl (bnotF c8) ?_
            refine .skip ?_
            refine .inBlock ?_
            refine .reg0 rfl (.op 0 rfl (addI rfl rfl) <| .op 0 rfl (mvV rfl) <| .nil0) ?_
            refine .keepL [] [(0, .val (.int .i64 a0)), (17, .rows (a1.map TCell.cells)), (18, .val (.int .i64 (a1.length : Int))), (19, .val (.int .i64 (IntKind.i64.wrap (x1 + 1))))] [] (by decide) (by decide) ⟨.free rfl rfl, .free rfl rfl, .free rfl rfl, .free rfl rfl, trivial⟩ trivial ?_
            exact hn1 _ h
          · rw [if_neg c8] at h
            refine .condT rfl (bnotT (Bool.eq_false_iff.mpr c8)) ?_
            refine .seq ?_
            refine .reg0 rfl (.op 0 rfl (asV rfl) <| .nil0) ?_
            have q3 := hr1 _ h
            replace q3 := q3.symm
            subst q3
            refine .keepL [] [(4, .val (.int .i64 40))] [] (by decide) (by decide) ⟨.free rfl rfl, trivial⟩ trivial ?_
            exact .ret rfl
        · rw [if_neg c7] at h
          refine .condF rfl (decide_eq_false c7) ?_
          refine .exit rfl ?_
          refine .keepL [] [] [] (by decide) (by decide) trivial trivial ?_
          exact hx1 _ h
    · rw [if_neg c2] at h
      refine .condT rfl (bne_iff_ne.mpr c2) ?_
      refine .seq ?_
      refine .reg0 rfl (.op 0 rfl (asV rfl) <| .nil0) ?_
      replace h := h.symm
      subst h
      refine .keepL [] [(4, .val (.int .i64 40))] [] (by decide) (by decide) ⟨.free rfl rfl, trivial⟩ trivial ?_
      exact .ret rfl
  · rw [if_neg c1] at h
    refine .condT rfl (bne_iff_ne.mpr c1) ?_
    refine .seq ?_
    refine .reg0 rfl (.op 0 rfl (mvV rfl) <| .op 0 rfl (asV rfl) <| .nil0) ?_
    replace h := h.symm
    subst h
    refine .keepL [] [(4, .val (.int .i64 t2_1))] [] (by decide) (by decide) ⟨.free rfl rfl, trivial⟩ trivial ?_
    exact .ret rfl
def weight_is.step (self68 : TSpace → TWeight → Bool → Prop) (a0 : TSpace) (a1 : TWeight) (r : Bool) : Prop :=
  if a1.Zero = true then (∃ t3_5 : Bool, (¬ (a0.Tag = 5) → weight_bare.f a1 0 t3_5) ∧ r = ((!(a0.Tag == 5)) && t3_5)) else (∃ t4_3 : Bool, (weight_bare.f a1 a0.Tag t4_3) ∧ if t4_3 = true then (if a0.Tag = 2 then (∃ t7_8 : Int, (¬ (a1.Cost = (-1)) → cost_Check.f a0.Dim a1.Cost t7_8) ∧ r = ((!(a1.Cost == (-1))) && (t7_8 == 0))) else (if a0.Tag = 3 then (∃ t9_4 : Int, (facts_Check.f a0.Dim a1.Facts t9_4) ∧ r = (t9_4 == 0)) else (if a0.Tag = 4 then (∃ t11_4 : Int, (cells_Check.f a0.Dim a1.Cells t11_4) ∧ r = (t11_4 == 0)) else (if a0.Tag = 5 then ((((a1.Parts.length : Int) = 2) → (InR 0 a0.Parts.length)) ∧ (((a1.Parts.length : Int) = 2) → (InR 0 a1.Parts.length)) ∧ ∃ t13_13 : Bool, (((a1.Parts.length : Int) = 2) → self68 (rdl a0.Parts 0) (rdl a1.Parts 0) t13_13) ∧ (((a1.Parts.length : Int) = 2) → (t13_13 = true) → (InR 1 a0.Parts.length)) ∧ (((a1.Parts.length : Int) = 2) → (t13_13 = true) → (InR 1 a1.Parts.length)) ∧ ∃ t13_24 : Bool, (((a1.Parts.length : Int) = 2) → (t13_13 = true) → self68 (rdl a0.Parts 1) (rdl a1.Parts 1) t13_24) ∧ r = (((a1.Parts.length : Int) == 2) && (t13_13 && t13_24))) else (r = true))))) else (r = false))
theorem weight_is.stepD {self68 : TSpace → TWeight → Bool → Prop} {a0 : TSpace} {a1 : TWeight} (hs68 : ∀ z0_ z1_ r_, self68 z0_ z1_ r_ → D Try.prog X (.callH 68 [.agg (TSpace.lit z0_), .agg (TWeight.lit z1_)] [] (.val (.bool r_)) [])) {r : Bool} (h : weight_is.step self68 a0 a1 r) : D Try.prog X (.callH 68 [.agg (TSpace.lit a0), .agg (TWeight.lit a1)] [] (.val (.bool r)) []) := by
  unfold weight_is.step at h
  refine .enter 78 0 fn68 rfl rfl rfl ?_
  refine .seq ?_
  refine .room 0 ?_
  refine .room 0 ?_
  refine .reg0 rfl (.op 0 rfl (bxP (s := 3) (cs := (TSpace.lit a0)) rfl ⟨rfl, by decide, rfl⟩ rfl) <| .op 1 rfl (bxP (s := 6) (cs := (TWeight.lit a1)) rfl ⟨rfl, by decide, rfl⟩ rfl) <| .op 0 rfl (asV rfl) <| .nil0) ?_
  refine .seq ?_
  refine .seq ?_
  refine .reg0 rfl (.op 0 rfl (faP fa49_0 rfl) <| .op 0 rfl (ldP rfl sz4 ag4 rfl) <| .nil0) ?_
  by_cases c1 : a1.Zero = true
  · rw [if_pos c1] at h
    refine .condT rfl c1 ?_
    refine .seq ?_
    obtain ⟨t3_5, g3_5, h⟩ := h
    refine .reg0 (e1 := listEnv [(4, .val (.bool ((!(a0.Tag == 5)) && t3_5)))]) (H1 := [⟨3, [(TSpace.lit a0)], 0, none⟩, ⟨6, [(TWeight.lit a1)], 0, none⟩]) rfl ?_ ?_
    · by_cases c2 : a0.Tag = 5
      · exact (.op 0 rfl (faP fa25_0 rfl) <| .op 0 rfl (ldP rfl sz22 ag22 rfl) <| .op 0 rfl (neI rfl rfl) <| .op 0 rfl (mvV rfl) <| .no (gF rfl rfl rfl (bne_eq_false_iff_eq.mpr c2)) <| .no (gF rfl rfl rfl (bne_eq_false_iff_eq.mpr c2)) <| .op 0 rfl (pkFV rfl (bne_eq_false_iff_eq.mpr c2) rfl) <| .op 0 rfl (asV rfl) <| .nilL _ ⟨cB rfl (mAndF (bnotF (beq_iff_eq.mpr c2))), trivial⟩)
      · exact (.op 0 rfl (faP fa25_0 rfl) <| .op 0 rfl (ldP rfl sz22 ag22 rfl) <| .op 0 rfl (neI rfl rfl) <| .op 0 rfl (mvV rfl) <| .op 0 (gT rfl rfl rfl (bne_iff_ne.mpr c2)) (ldG rfl sz49 ag49 rfl) <| .callI (gT rfl rfl rfl (bne_iff_ne.mpr c2)) (callee_of rfl go76 rfl) (.pure rfl rfl (weight_bare.D (g3_5 c2))) <| .op 0 rfl (pkTV rfl (bne_iff_ne.mpr c2) rfl) <| .op 0 rfl (asV rfl) <| .nilL _ ⟨cB rfl (mAndT (bnotT (beq_eq_false_iff_ne.mpr c2)) rfl), trivial⟩)
    replace h := h.symm
    subst h
    refine .keepL [] [(4, .val (.bool ((!(a0.Tag == 5)) && t3_5)))] [] (by decide) (by decide) ⟨.free rfl rfl, trivial⟩ trivial ?_
    exact .ret rfl
  · rw [if_neg c1] at h
    refine .condF rfl (Bool.eq_false_iff.mpr c1) ?_
    refine .skip ?_
    refine .seq ?_
    refine .seq ?_
    obtain ⟨t4_3, g4_3, h⟩ := h
    refine .reg0 rfl (.op 0 rfl (ldG rfl sz49 ag49 rfl) <| .op 0 rfl (faP fa25_0 rfl) <| .op 0 rfl (ldP rfl sz22 ag22 rfl) <| .callI rfl (callee_of rfl go76 rfl) (.pure rfl rfl (weight_bare.D g4_3)) <| .op 0 rfl (notB rfl) <| .nil0) ?_
    by_cases c3 : t4_3 = true
    · rw [if_pos c3] at h
      refine .condF rfl (bnotF c3) ?_
      refine .skip ?_
      refine .seq ?_
      refine .seq ?_
      refine .reg0 rfl (.op 0 rfl (faP fa25_0 rfl) <| .op 0 rfl (ldP rfl sz22 ag22 rfl) <| .nil0) ?_
      refine .block ?_
      refine .seq ?_
      refine .reg0 rfl (.op 0 rfl (eqI rfl rfl) <| .op 0 rfl (asV rfl) <| .nil0) ?_
      by_cases c4 : a0.Tag = 2
      · rw [if_pos c4] at h
        refine .condT rfl (beq_iff_eq.mpr c4) ?_
        refine .seq ?_
        obtain ⟨t7_8, g7_8, h⟩ := h
        refine .reg0 (e1 := listEnv [(4, .val (.bool ((!(a1.Cost == (-1))) && (t7_8 == 0))))]) (H1 := [⟨3, [(TSpace.lit a0)], 0, none⟩, ⟨6, [(TWeight.lit a1)], 0, none⟩]) rfl ?_ ?_
        · by_cases c5 : a1.Cost = (-1)
          · exact (.op 0 rfl (faP fa49_1 rfl) <| .op 0 rfl (ldP rfl sz3 ag3 rfl) <| .op 0 rfl (neI rfl rfl) <| .op 0 rfl (mvV rfl) <| .no (gF rfl rfl rfl (bne_eq_false_iff_eq.mpr c5)) <| .no (gF rfl rfl rfl (bne_eq_false_iff_eq.mpr c5)) <| .no (gF rfl rfl rfl (bne_eq_false_iff_eq.mpr c5)) <| .no (gF rfl rfl rfl (bne_eq_false_iff_eq.mpr c5)) <| .no (gF rfl rfl rfl (bne_eq_false_iff_eq.mpr c5)) <| .no (gF rfl rfl rfl (bne_eq_false_iff_eq.mpr c5)) <| .op 0 rfl (pkFV rfl (bne_eq_false_iff_eq.mpr c5) rfl) <| .op 0 rfl (asV rfl) <| .nilL _ ⟨cB rfl (mAndF (bnotF (beq_iff_eq.mpr c5))), trivial⟩)
          · exact (.op 0 rfl (faP fa49_1 rfl) <| .op 0 rfl (ldP rfl sz3 ag3 rfl) <| .op 0 rfl (neI rfl rfl) <| .op 0 rfl (mvV rfl) <| .op 0 (gT rfl rfl rfl (bne_iff_ne.mpr c5)) (faP fa25_1 rfl) <| .op 0 (gT rfl rfl rfl (bne_iff_ne.mpr c5)) (ldP rfl sz3 ag3 rfl) <| .op 0 (gT rfl rfl rfl (bne_iff_ne.mpr c5)) (faP fa49_1 rfl) <| .op 0 (gT rfl rfl rfl (bne_iff_ne.mpr c5)) (ldP rfl sz3 ag3 rfl) <| .callI (gT rfl rfl rfl (bne_iff_ne.mpr c5)) (callee_of rfl go77 rfl) (.pure rfl rfl (cost_Check.D (g7_8 c5))) <| .op 0 (gT rfl rfl rfl (bne_iff_ne.mpr c5)) (eqI rfl rfl) <| .op 0 rfl (pkTV rfl (bne_iff_ne.mpr c5) rfl) <| .op 0 rfl (asV rfl) <| .nilL _ ⟨cB rfl (mAndT (bnotT (beq_eq_false_iff_ne.mpr c5)) rfl), trivial⟩)
        replace h := h.symm
        subst h
        refine .keepL [] [(4, .val (.bool ((!(a1.Cost == (-1))) && (t7_8 == 0))))] [] (by decide) (by decide) ⟨.free rfl rfl, trivial⟩ trivial ?_
        exact .ret rfl
      · rw [if_neg c4] at h
        refine .condF rfl (beq_eq_false_iff_ne.mpr c4) ?_
        refine .seq ?_
        refine .reg0 rfl (.op 0 rfl (eqI rfl rfl) <| .op 0 rfl (asV rfl) <| .nil0) ?_
        by_cases c6 : a0.Tag = 3
        · rw [if_pos c6] at h
          refine .condT rfl (beq_iff_eq.mpr c6) ?_
          refine .seq ?_
          obtain ⟨t9_4, g9_4, h⟩ := h
          refine .reg0 rfl (.op 0 rfl (faP fa25_1 rfl) <| .op 0 rfl (ldP rfl sz3 ag3 rfl) <| .op 0 rfl (faP fa49_2 rfl) <| .op 0 rfl (ldG rfl sz45 ag45 rfl) <| .callI rfl (callee_of rfl go78 rfl) (.pure rfl rfl (facts_Check.D g9_4)) <| .op 0 rfl (eqI rfl rfl) <| .op 0 rfl (asV rfl) <| .nil0) ?_
          replace h := h.symm
          subst h
          refine .keepL [] [(4, .val (.bool (t9_4 == 0)))] [] (by decide) (by decide) ⟨.free rfl rfl, trivial⟩ trivial ?_
          exact .ret rfl
        · rw [if_neg c6] at h
          refine .condF rfl (beq_eq_false_iff_ne.mpr c6) ?_
          refine .seq ?_
          refine .reg0 rfl (.op 0 rfl (eqI rfl rfl) <| .op 0 rfl (asV rfl) <| .nil0) ?_
          by_cases c7 : a0.Tag = 4
          · rw [if_pos c7] at h
            refine .condT rfl (beq_iff_eq.mpr c7) ?_
            refine .seq ?_
            obtain ⟨t11_4, g11_4, h⟩ := h
            refine .reg0 rfl (.op 0 rfl (faP fa25_1 rfl) <| .op 0 rfl (ldP rfl sz3 ag3 rfl) <| .op 0 rfl (faP fa49_3 rfl) <| .op 0 rfl (ldP rfl sz46 ag46 rfl) <| .callI rfl (callee_of rfl go79 rfl) (.pure rfl rfl (cells_Check.D g11_4)) <| .op 0 rfl (eqI rfl rfl) <| .op 0 rfl (asV rfl) <| .nil0) ?_
            replace h := h.symm
            subst h
            refine .keepL [] [(4, .val (.bool (t11_4 == 0)))] [] (by decide) (by decide) ⟨.free rfl rfl, trivial⟩ trivial ?_
            exact .ret rfl
          · rw [if_neg c7] at h
            refine .condF rfl (beq_eq_false_iff_ne.mpr c7) ?_
            refine .seq ?_
            refine .reg0 rfl (.op 0 rfl (eqI rfl rfl) <| .op 0 rfl (asV rfl) <| .nil0) ?_
            by_cases c8 : a0.Tag = 5
            · rw [if_pos c8] at h
              refine .condT rfl (beq_iff_eq.mpr c8) ?_
              refine .seq ?_
              obtain ⟨g13_7, h⟩ := h
              obtain ⟨g13_11, h⟩ := h
              obtain ⟨t13_13, g13_13, h⟩ := h
              obtain ⟨g13_18, h⟩ := h
              obtain ⟨g13_22, h⟩ := h
              obtain ⟨t13_24, g13_24, h⟩ := h
              refine .reg1 (e1 := listEnv [(4, .val (.bool (((a1.Parts.length : Int) == 2) && (t13_13 && t13_24))))]) (H1 := [⟨3, [(TSpace.lit a0)], 0, none⟩, ⟨6, [(TWeight.lit a1)], 0, none⟩]) rfl ?_ ?_
              · by_cases c9 : (a1.Parts.length : Int) = 2
                · by_cases c10 : t13_13 = true
                  · exact .drawM [(26, 4, .val (.bool t13_24)), (25, 77, .val (.bool t13_24)), (24, 76, .val (.bool t13_24)), (23, 75, .agg (TWeight.lit (rdl a1.Parts 1))), (22, 74, .cptr (TWeight.lit (rdl a1.Parts 1)) 0), (21, 73, .rows (a1.Parts.map TWeight.cells)), (20, 72, .ptr 1 1 6 0 5), (19, 71, .agg (TSpace.lit (rdl a0.Parts 1))), (18, 70, .cptr (TSpace.lit (rdl a0.Parts 1)) 0), (17, 69, .rows (a0.Parts.map TSpace.cells)), (16, 68, .ptr 0 1 3 0 2), (15, 67, .val (.bool t13_13)), (14, 66, .val (.bool t13_13)), (13, 65, .val (.bool t13_13)), (12, 64, .agg (TWeight.lit (rdl a1.Parts 0))), (11, 63, .cptr (TWeight.lit (rdl a1.Parts 0)) 0), (10, 62, .rows (a1.Parts.map TWeight.cells)), (9, 61, .ptr 1 1 6 0 5), (8, 60, .agg (TSpace.lit (rdl a0.Parts 0))), (7, 59, .cptr (TSpace.lit (rdl a0.Parts 0)) 0), (6, 58, .rows (a0.Parts.map TSpace.cells)), (5, 57, .ptr 0 1 3 0 2), (4, 56, .val (.bool ((a1.Parts.length : Int) == 2))), (3, 55, .val (.bool ((a1.Parts.length : Int) == 2))), (2, 54, .val (.int .i64 (a1.Parts.length : Int))), (1, 53, .rows (a1.Parts.map TWeight.cells)), (0, 52, .ptr 1 1 6 0 5)] [] [[], [0], [1, 0], [2, 1, 0], [3, 2, 1, 0], [4, 3, 2, 1, 0], [5, 4, 3, 2, 1, 0], [6, 5, 4, 3, 2, 1, 0], [7, 6, 5, 4, 3, 2, 1, 0], [4, 3, 2, 1, 0], [9, 4, 3, 2, 1, 0], [10, 9, 4, 3, 2, 1, 0], [11, 10, 9, 4, 3, 2, 1, 0], [8, 7, 6, 5, 4, 3, 2, 1, 0, 12, 11, 10, 9], [4, 3, 2, 1, 0, 13, 8, 7, 6, 5, 12, 11, 10, 9], [14, 4, 3, 2, 1, 0, 13, 8, 7, 6, 5, 12, 11, 10, 9], [15, 14, 4, 3, 2, 1, 0, 13, 8, 7, 6, 5, 12, 11, 10, 9], [16, 15, 14, 4, 3, 2, 1, 0, 13, 8, 7, 6, 5, 12, 11, 10, 9], [17, 16, 15, 14, 4, 3, 2, 1, 0, 13, 8, 7, 6, 5, 12, 11, 10, 9], [18, 17, 16, 15, 14, 4, 3, 2, 1, 0, 13, 8, 7, 6, 5, 12, 11, 10, 9], [15, 14, 4, 3, 2, 1, 0, 13, 8, 7, 6, 5, 12, 11, 10, 9], [20, 15, 14, 4, 3, 2, 1, 0, 13, 8, 7, 6, 5, 12, 11, 10, 9], [21, 20, 15, 14, 4, 3, 2, 1, 0, 13, 8, 7, 6, 5, 12, 11, 10, 9], [22, 21, 20, 15, 14, 4, 3, 2, 1, 0, 13, 8, 7, 6, 5, 12, 11, 10, 9], [19, 18, 17, 16, 15, 14, 4, 3, 2, 1, 0, 13, 8, 7, 6, 5, 12, 11, 10, 9, 23, 22, 21, 20], [15, 14, 4, 3, 2, 1, 0, 13, 8, 7, 6, 5, 12, 11, 10, 9, 24, 19, 18, 17, 16, 23, 22, 21, 20], [25, 15, 14, 4, 3, 2, 1, 0, 13, 8, 7, 6, 5, 12, 11, 10, 9, 24, 19, 18, 17, 16, 23, 22, 21, 20]] (by rfl) (by rfl) (by rfl) (by exact ⟨fun S hS hD hn => .one 0 hS hD hn rfl rfl (faP fa49_4 rfl) rfl rfl rfl, fun S hS hD hn => .one 0 hS hD hn rfl rfl (ldP rfl sz47 ag47 rfl) rfl rfl rfl, fun S hS hD hn => .one 0 hS hD hn rfl rfl (lnR (l := a1.Parts) sl47 rfl) rfl rfl rfl, fun S hS hD hn => .one 0 hS hD hn rfl rfl (eqI rfl rfl) rfl rfl rfl, fun S hS hD hn => .one 0 hS hD hn rfl rfl (mvV rfl) rfl rfl rfl, fun S hS hD hn => .one 0 hS hD hn (gT rfl rfl rfl (beq_iff_eq.mpr c9)) rfl (faP fa25_2 rfl) rfl rfl rfl, fun S hS hD hn => .one 0 hS hD hn (gT rfl rfl rfl (beq_iff_eq.mpr c9)) rfl (ldP rfl sz23 ag23 rfl) rfl rfl rfl, fun S hS hD hn => .one 0 hS hD hn (gT rfl rfl rfl (beq_iff_eq.mpr c9)) rfl (ixR (l := a0.Parts) (lit := TSpace.lit) sl23 rfl rfl TSpace.cells_lit (g13_7 c9).1 (g13_7 c9).2) rfl rfl rfl, fun S hS hD hn => .one 0 hS hD hn (gT rfl rfl rfl (beq_iff_eq.mpr c9)) rfl (ldCG rfl sz25 ag25 rfl) rfl rfl rfl, fun S hS hD hn => .one 0 hS hD hn (gT rfl rfl rfl (beq_iff_eq.mpr c9)) rfl (faP fa49_4 rfl) rfl rfl rfl, fun S hS hD hn => .one 0 hS hD hn (gT rfl rfl rfl (beq_iff_eq.mpr c9)) rfl (ldP rfl sz47 ag47 rfl) rfl rfl rfl, fun S hS hD hn => .one 0 hS hD hn (gT rfl rfl rfl (beq_iff_eq.mpr c9)) rfl (ixR (l := a1.Parts) (lit := TWeight.lit) sl47 rfl rfl TWeight.cells_lit (g13_11 c9).1 (g13_11 c9).2) rfl rfl rfl, fun S hS hD hn => .one 0 hS hD hn (gT rfl rfl rfl (beq_iff_eq.mpr c9)) rfl (ldCG rfl sz49 ag49 rfl) rfl rfl rfl, fun S hS hD hn => .oneI hS hD hn (gT rfl rfl rfl (beq_iff_eq.mpr c9)) rfl (callee_of rfl go68 rfl) (.pure rfl rfl (hs68 _ _ _ (g13_13 c9))) rfl rfl rfl, fun S hS hD hn => .one 0 hS hD hn rfl rfl (pkTV rfl (beq_iff_eq.mpr c9) rfl) rfl rfl rfl, fun S hS hD hn => .one 0 hS hD hn rfl rfl (mvV rfl) rfl rfl rfl, fun S hS hD hn => .one 0 hS hD hn (gT rfl rfl rfl c10) rfl (faP fa25_2 rfl) rfl rfl rfl, fun S hS hD hn => .one 0 hS hD hn (gT rfl rfl rfl c10) rfl (ldP rfl sz23 ag23 rfl) rfl rfl rfl, fun S hS hD hn => .one 0 hS hD hn (gT rfl rfl rfl c10) rfl (ixR (l := a0.Parts) (lit := TSpace.lit) sl23 rfl rfl TSpace.cells_lit (g13_18 c9 c10).1 (g13_18 c9 c10).2) rfl rfl rfl, fun S hS hD hn => .one 0 hS hD hn (gT rfl rfl rfl c10) rfl (ldCG rfl sz25 ag25 rfl) rfl rfl rfl, fun S hS hD hn => .one 0 hS hD hn (gT rfl rfl rfl c10) rfl (faP fa49_4 rfl) rfl rfl rfl, fun S hS hD hn => .one 0 hS hD hn (gT rfl rfl rfl c10) rfl (ldP rfl sz47 ag47 rfl) rfl rfl rfl, fun S hS hD hn => .one 0 hS hD hn (gT rfl rfl rfl c10) rfl (ixR (l := a1.Parts) (lit := TWeight.lit) sl47 rfl rfl TWeight.cells_lit (g13_22 c9 c10).1 (g13_22 c9 c10).2) rfl rfl rfl, fun S hS hD hn => .one 0 hS hD hn (gT rfl rfl rfl c10) rfl (ldCG rfl sz49 ag49 rfl) rfl rfl rfl, fun S hS hD hn => .oneI hS hD hn (gT rfl rfl rfl c10) rfl (callee_of rfl go68 rfl) (.pure rfl rfl (hs68 _ _ _ (g13_24 c9 c10))) rfl rfl rfl, fun S hS hD hn => .one 0 hS hD hn rfl rfl (pkTV rfl c10 rfl) rfl rfl rfl, fun S hS hD hn => .one 0 hS hD hn rfl rfl (asV rfl) rfl rfl rfl, trivial⟩) _ (by exact ⟨cB rfl (mAndT (beq_iff_eq.mpr c9) (mAndT c10 rfl)), trivial⟩) (by rfl)
                  · exact .drawM [(26, 4, .val (.bool false)), (25, 77, .val (.bool false)), (24, 76, .val undef), (23, 75, .val undef), (22, 74, .val undef), (21, 73, .val undef), (20, 72, .val undef), (19, 71, .val undef), (18, 70, .val undef), (17, 69, .val undef), (16, 68, .val undef), (15, 67, .val (.bool t13_13)), (14, 66, .val (.bool t13_13)), (13, 65, .val (.bool t13_13)), (12, 64, .agg (TWeight.lit (rdl a1.Parts 0))), (11, 63, .cptr (TWeight.lit (rdl a1.Parts 0)) 0), (10, 62, .rows (a1.Parts.map TWeight.cells)), (9, 61, .ptr 1 1 6 0 5), (8, 60, .agg (TSpace.lit (rdl a0.Parts 0))), (7, 59, .cptr (TSpace.lit (rdl a0.Parts 0)) 0), (6, 58, .rows (a0.Parts.map TSpace.cells)), (5, 57, .ptr 0 1 3 0 2), (4, 56, .val (.bool ((a1.Parts.length : Int) == 2))), (3, 55, .val (.bool ((a1.Parts.length : Int) == 2))), (2, 54, .val (.int .i64 (a1.Parts.length : Int))), (1, 53, .rows (a1.Parts.map TWeight.cells)), (0, 52, .ptr 1 1 6 0 5)] [] [[], [0], [1, 0], [2, 1, 0], [3, 2, 1, 0], [4, 3, 2, 1, 0], [5, 4, 3, 2, 1, 0], [6, 5, 4, 3, 2, 1, 0], [7, 6, 5, 4, 3, 2, 1, 0], [4, 3, 2, 1, 0], [9, 4, 3, 2, 1, 0], [10, 9, 4, 3, 2, 1, 0], [11, 10, 9, 4, 3, 2, 1, 0], [8, 7, 6, 5, 4, 3, 2, 1, 0, 12, 11, 10, 9], [4, 3, 2, 1, 0, 13, 8, 7, 6, 5, 12, 11, 10, 9], [14, 4, 3, 2, 1, 0, 13, 8, 7, 6, 5, 12, 11, 10, 9], [15, 14, 4, 3, 2, 1, 0, 13, 8, 7, 6, 5, 12, 11, 10, 9], [16, 15, 14, 4, 3, 2, 1, 0, 13, 8, 7, 6, 5, 12, 11, 10, 9], [17, 16, 15, 14, 4, 3, 2, 1, 0, 13, 8, 7, 6, 5, 12, 11, 10, 9], [18, 17, 16, 15, 14, 4, 3, 2, 1, 0, 13, 8, 7, 6, 5, 12, 11, 10, 9], [15, 14, 4, 3, 2, 1, 0, 13, 8, 7, 6, 5, 12, 11, 10, 9], [20, 15, 14, 4, 3, 2, 1, 0, 13, 8, 7, 6, 5, 12, 11, 10, 9], [21, 20, 15, 14, 4, 3, 2, 1, 0, 13, 8, 7, 6, 5, 12, 11, 10, 9], [22, 21, 20, 15, 14, 4, 3, 2, 1, 0, 13, 8, 7, 6, 5, 12, 11, 10, 9], [19, 18, 17, 16, 15, 14, 4, 3, 2, 1, 0, 13, 8, 7, 6, 5, 12, 11, 10, 9, 23, 22, 21, 20], [15, 14, 4, 3, 2, 1, 0, 13, 8, 7, 6, 5, 12, 11, 10, 9, 24, 19, 18, 17, 16, 23, 22, 21, 20], [25, 15, 14, 4, 3, 2, 1, 0, 13, 8, 7, 6, 5, 12, 11, 10, 9, 24, 19, 18, 17, 16, 23, 22, 21, 20]] (by rfl) (by rfl) (by rfl) (by exact ⟨fun S hS hD hn => .one 0 hS hD hn rfl rfl (faP fa49_4 rfl) rfl rfl rfl, fun S hS hD hn => .one 0 hS hD hn rfl rfl (ldP rfl sz47 ag47 rfl) rfl rfl rfl, fun S hS hD hn => .one 0 hS hD hn rfl rfl (lnR (l := a1.Parts) sl47 rfl) rfl rfl rfl, fun S hS hD hn => .one 0 hS hD hn rfl rfl (eqI rfl rfl) rfl rfl rfl, fun S hS hD hn => .one 0 hS hD hn rfl rfl (mvV rfl) rfl rfl rfl, fun S hS hD hn => .one 0 hS hD hn (gT rfl rfl rfl (beq_iff_eq.mpr c9)) rfl (faP fa25_2 rfl) rfl rfl rfl, fun S hS hD hn => .one 0 hS hD hn (gT rfl rfl rfl (beq_iff_eq.mpr c9)) rfl (ldP rfl sz23 ag23 rfl) rfl rfl rfl, fun S hS hD hn => .one 0 hS hD hn (gT rfl rfl rfl (beq_iff_eq.mpr c9)) rfl (ixR (l := a0.Parts) (lit := TSpace.lit) sl23 rfl rfl TSpace.cells_lit (g13_7 c9).1 (g13_7 c9).2) rfl rfl rfl, fun S hS hD hn => .one 0 hS hD hn (gT rfl rfl rfl (beq_iff_eq.mpr c9)) rfl (ldCG rfl sz25 ag25 rfl) rfl rfl rfl, fun S hS hD hn => .one 0 hS hD hn (gT rfl rfl rfl (beq_iff_eq.mpr c9)) rfl (faP fa49_4 rfl) rfl rfl rfl, fun S hS hD hn => .one 0 hS hD hn (gT rfl rfl rfl (beq_iff_eq.mpr c9)) rfl (ldP rfl sz47 ag47 rfl) rfl rfl rfl, fun S hS hD hn => .one 0 hS hD hn (gT rfl rfl rfl (beq_iff_eq.mpr c9)) rfl (ixR (l := a1.Parts) (lit := TWeight.lit) sl47 rfl rfl TWeight.cells_lit (g13_11 c9).1 (g13_11 c9).2) rfl rfl rfl, fun S hS hD hn => .one 0 hS hD hn (gT rfl rfl rfl (beq_iff_eq.mpr c9)) rfl (ldCG rfl sz49 ag49 rfl) rfl rfl rfl, fun S hS hD hn => .oneI hS hD hn (gT rfl rfl rfl (beq_iff_eq.mpr c9)) rfl (callee_of rfl go68 rfl) (.pure rfl rfl (hs68 _ _ _ (g13_13 c9))) rfl rfl rfl, fun S hS hD hn => .one 0 hS hD hn rfl rfl (pkTV rfl (beq_iff_eq.mpr c9) rfl) rfl rfl rfl, fun S hS hD hn => .one 0 hS hD hn rfl rfl (mvV rfl) rfl rfl rfl, fun S hS hD hn => .oneNo hS hD (gF rfl rfl rfl (Bool.eq_false_iff.mpr c10)) rfl hn rfl rfl rfl, fun S hS hD hn => .oneNo hS hD (gF rfl rfl rfl (Bool.eq_false_iff.mpr c10)) rfl hn rfl rfl rfl, fun S hS hD hn => .oneNo hS hD (gF rfl rfl rfl (Bool.eq_false_iff.mpr c10)) rfl hn rfl rfl rfl, fun S hS hD hn => .oneNo hS hD (gF rfl rfl rfl (Bool.eq_false_iff.mpr c10)) rfl hn rfl rfl rfl, fun S hS hD hn => .oneNo hS hD (gF rfl rfl rfl (Bool.eq_false_iff.mpr c10)) rfl hn rfl rfl rfl, fun S hS hD hn => .oneNo hS hD (gF rfl rfl rfl (Bool.eq_false_iff.mpr c10)) rfl hn rfl rfl rfl, fun S hS hD hn => .oneNo hS hD (gF rfl rfl rfl (Bool.eq_false_iff.mpr c10)) rfl hn rfl rfl rfl, fun S hS hD hn => .oneNo hS hD (gF rfl rfl rfl (Bool.eq_false_iff.mpr c10)) rfl hn rfl rfl rfl, fun S hS hD hn => .oneNo hS hD (gF rfl rfl rfl (Bool.eq_false_iff.mpr c10)) rfl hn rfl rfl rfl, fun S hS hD hn => .one 0 hS hD hn rfl rfl (pkFV rfl (Bool.eq_false_iff.mpr c10) rfl) rfl rfl rfl, fun S hS hD hn => .one 0 hS hD hn rfl rfl (asV rfl) rfl rfl rfl, trivial⟩) _ (by exact ⟨cB rfl (mAndT (beq_iff_eq.mpr c9) (mAndF (Bool.eq_false_iff.mpr c10))), trivial⟩) (by rfl)
                · exact .drawM [(26, 4, .val (.bool false)), (25, 77, .val (.bool false)), (24, 76, .val undef), (23, 75, .val undef), (22, 74, .val undef), (21, 73, .val undef), (20, 72, .val undef), (19, 71, .val undef), (18, 70, .val undef), (17, 69, .val undef), (16, 68, .val undef), (15, 67, .val (.bool false)), (14, 66, .val (.bool false)), (13, 65, .val undef), (12, 64, .val undef), (11, 63, .val undef), (10, 62, .val undef), (9, 61, .val undef), (8, 60, .val undef), (7, 59, .val undef), (6, 58, .val undef), (5, 57, .val undef), (4, 56, .val (.bool ((a1.Parts.length : Int) == 2))), (3, 55, .val (.bool ((a1.Parts.length : Int) == 2))), (2, 54, .val (.int .i64 (a1.Parts.length : Int))), (1, 53, .rows (a1.Parts.map TWeight.cells)), (0, 52, .ptr 1 1 6 0 5)] [] [[], [0], [1, 0], [2, 1, 0], [3, 2, 1, 0], [4, 3, 2, 1, 0], [5, 4, 3, 2, 1, 0], [6, 5, 4, 3, 2, 1, 0], [7, 6, 5, 4, 3, 2, 1, 0], [4, 3, 2, 1, 0], [9, 4, 3, 2, 1, 0], [10, 9, 4, 3, 2, 1, 0], [11, 10, 9, 4, 3, 2, 1, 0], [8, 7, 6, 5, 4, 3, 2, 1, 0, 12, 11, 10, 9], [4, 3, 2, 1, 0, 13, 8, 7, 6, 5, 12, 11, 10, 9], [14, 4, 3, 2, 1, 0, 13, 8, 7, 6, 5, 12, 11, 10, 9], [15, 14, 4, 3, 2, 1, 0, 13, 8, 7, 6, 5, 12, 11, 10, 9], [16, 15, 14, 4, 3, 2, 1, 0, 13, 8, 7, 6, 5, 12, 11, 10, 9], [17, 16, 15, 14, 4, 3, 2, 1, 0, 13, 8, 7, 6, 5, 12, 11, 10, 9], [18, 17, 16, 15, 14, 4, 3, 2, 1, 0, 13, 8, 7, 6, 5, 12, 11, 10, 9], [15, 14, 4, 3, 2, 1, 0, 13, 8, 7, 6, 5, 12, 11, 10, 9], [20, 15, 14, 4, 3, 2, 1, 0, 13, 8, 7, 6, 5, 12, 11, 10, 9], [21, 20, 15, 14, 4, 3, 2, 1, 0, 13, 8, 7, 6, 5, 12, 11, 10, 9], [22, 21, 20, 15, 14, 4, 3, 2, 1, 0, 13, 8, 7, 6, 5, 12, 11, 10, 9], [19, 18, 17, 16, 15, 14, 4, 3, 2, 1, 0, 13, 8, 7, 6, 5, 12, 11, 10, 9, 23, 22, 21, 20], [15, 14, 4, 3, 2, 1, 0, 13, 8, 7, 6, 5, 12, 11, 10, 9, 24, 19, 18, 17, 16, 23, 22, 21, 20], [25, 15, 14, 4, 3, 2, 1, 0, 13, 8, 7, 6, 5, 12, 11, 10, 9, 24, 19, 18, 17, 16, 23, 22, 21, 20]] (by rfl) (by rfl) (by rfl) (by exact ⟨fun S hS hD hn => .one 0 hS hD hn rfl rfl (faP fa49_4 rfl) rfl rfl rfl, fun S hS hD hn => .one 0 hS hD hn rfl rfl (ldP rfl sz47 ag47 rfl) rfl rfl rfl, fun S hS hD hn => .one 0 hS hD hn rfl rfl (lnR (l := a1.Parts) sl47 rfl) rfl rfl rfl, fun S hS hD hn => .one 0 hS hD hn rfl rfl (eqI rfl rfl) rfl rfl rfl, fun S hS hD hn => .one 0 hS hD hn rfl rfl (mvV rfl) rfl rfl rfl, fun S hS hD hn => .oneNo hS hD (gF rfl rfl rfl (beq_eq_false_iff_ne.mpr c9)) rfl hn rfl rfl rfl, fun S hS hD hn => .oneNo hS hD (gF rfl rfl rfl (beq_eq_false_iff_ne.mpr c9)) rfl hn rfl rfl rfl, fun S hS hD hn => .oneNo hS hD (gF rfl rfl rfl (beq_eq_false_iff_ne.mpr c9)) rfl hn rfl rfl rfl, fun S hS hD hn => .oneNo hS hD (gF rfl rfl rfl (beq_eq_false_iff_ne.mpr c9)) rfl hn rfl rfl rfl, fun S hS hD hn => .oneNo hS hD (gF rfl rfl rfl (beq_eq_false_iff_ne.mpr c9)) rfl hn rfl rfl rfl, fun S hS hD hn => .oneNo hS hD (gF rfl rfl rfl (beq_eq_false_iff_ne.mpr c9)) rfl hn rfl rfl rfl, fun S hS hD hn => .oneNo hS hD (gF rfl rfl rfl (beq_eq_false_iff_ne.mpr c9)) rfl hn rfl rfl rfl, fun S hS hD hn => .oneNo hS hD (gF rfl rfl rfl (beq_eq_false_iff_ne.mpr c9)) rfl hn rfl rfl rfl, fun S hS hD hn => .oneNo hS hD (gF rfl rfl rfl (beq_eq_false_iff_ne.mpr c9)) rfl hn rfl rfl rfl, fun S hS hD hn => .one 0 hS hD hn rfl rfl (pkFV rfl (beq_eq_false_iff_ne.mpr c9) rfl) rfl rfl rfl, fun S hS hD hn => .one 0 hS hD hn rfl rfl (mvV rfl) rfl rfl rfl, fun S hS hD hn => .oneNo hS hD (gF rfl rfl rfl rfl) rfl hn rfl rfl rfl, fun S hS hD hn => .oneNo hS hD (gF rfl rfl rfl rfl) rfl hn rfl rfl rfl, fun S hS hD hn => .oneNo hS hD (gF rfl rfl rfl rfl) rfl hn rfl rfl rfl, fun S hS hD hn => .oneNo hS hD (gF rfl rfl rfl rfl) rfl hn rfl rfl rfl, fun S hS hD hn => .oneNo hS hD (gF rfl rfl rfl rfl) rfl hn rfl rfl rfl, fun S hS hD hn => .oneNo hS hD (gF rfl rfl rfl rfl) rfl hn rfl rfl rfl, fun S hS hD hn => .oneNo hS hD (gF rfl rfl rfl rfl) rfl hn rfl rfl rfl, fun S hS hD hn => .oneNo hS hD (gF rfl rfl rfl rfl) rfl hn rfl rfl rfl, fun S hS hD hn => .oneNo hS hD (gF rfl rfl rfl rfl) rfl hn rfl rfl rfl, fun S hS hD hn => .one 0 hS hD hn rfl rfl (pkFV rfl rfl rfl) rfl rfl rfl, fun S hS hD hn => .one 0 hS hD hn rfl rfl (asV rfl) rfl rfl rfl, trivial⟩) _ (by exact ⟨cB rfl (mAndF (beq_eq_false_iff_ne.mpr c9)), trivial⟩) (by rfl)
              replace h := h.symm
              subst h
              refine .keepL [] [(4, .val (.bool (((a1.Parts.length : Int) == 2) && (t13_13 && t13_24))))] [] (by decide) (by decide) ⟨.free rfl rfl, trivial⟩ trivial ?_
              exact .ret rfl
            · rw [if_neg c8] at h
              refine .condF rfl (beq_eq_false_iff_ne.mpr c8) ?_
              refine .skip ?_
              refine .inBlock ?_
              refine .seq ?_
              refine .reg0 rfl (.op 0 rfl (asV rfl) <| .nil0) ?_
              replace h := h.symm
              subst h
              refine .keepL [] [(4, .val (.bool true))] [] (by decide) (by decide) ⟨.free rfl rfl, trivial⟩ trivial ?_
              exact .ret rfl
    · rw [if_neg c3] at h
      refine .condT rfl (bnotT (Bool.eq_false_iff.mpr c3)) ?_
      refine .seq ?_
      refine .reg0 rfl (.op 0 rfl (asV rfl) <| .nil0) ?_
      replace h := h.symm
      subst h
      refine .keepL [] [(4, .val (.bool false))] [] (by decide) (by decide) ⟨.free rfl rfl, trivial⟩ trivial ?_
      exact .ret rfl
def weight_is.fN : Nat → TSpace → TWeight → Bool → Prop
  | 0 => fun _ _ _ => False
  | n + 1 => weight_is.step (weight_is.fN n)
theorem weight_is.ND : ∀ (n : Nat) {a0 : TSpace} {a1 : TWeight} {r : Bool} (h : weight_is.fN n a0 a1 r), D Try.prog X (.callH 68 [.agg (TSpace.lit a0), .agg (TWeight.lit a1)] [] (.val (.bool r)) [])
  | 0, _, _, _, h => h.elim
  | n + 1, _, _, _, h => weight_is.stepD (fun _ _ _ h => weight_is.ND n h) h
def weight_is.f (a0 : TSpace) (a1 : TWeight) (r : Bool) : Prop := ∃ n, weight_is.fN n a0 a1 r
theorem weight_is.D {a0 : TSpace} {a1 : TWeight} {r : Bool} (h : weight_is.f a0 a1 r) : D Try.prog X (.callH 68 [.agg (TSpace.lit a0), .agg (TWeight.lit a1)] [] (.val (.bool r)) []) := by obtain ⟨n, h⟩ := h; exact weight_is.ND n h
def weight_checked_1.f (a0 : TWeight) (f0 : TSpace) (r : Bool) : Prop :=
  ∃ t2_2 : Bool, (weight_is.f f0 a0 t2_2) ∧ r = (!t2_2)
theorem weight_checked_1.D {a0 : TWeight} {f0 : TSpace} {r : Bool} (h : weight_checked_1.f a0 f0 r) : D Try.prog X (.callH 67 [.agg (TWeight.lit a0), .cptr (TSpace.lit f0) 0] [] (.val (.bool r)) []) := by
  unfold weight_checked_1.f at h
  refine .enter 8 0 fn67 rfl rfl rfl ?_
  refine .seq ?_
  refine .room 0 ?_
  refine .reg0 rfl (.op 0 rfl (bxP (s := 6) (cs := (TWeight.lit a0)) rfl ⟨rfl, by decide, rfl⟩ rfl) <| .op 0 rfl (asV rfl) <| .nil0) ?_
  refine .seq ?_
  obtain ⟨t2_2, g2_2, h⟩ := h
  refine .reg0 rfl (.op 0 rfl (ldCG rfl sz25 ag25 rfl) <| .op 0 rfl (ldG rfl sz49 ag49 rfl) <| .callI rfl (callee_of rfl go68 rfl) (.pure rfl rfl (weight_is.D g2_2)) <| .op 0 rfl (notB rfl) <| .op 0 rfl (asV rfl) <| .nil0) ?_
  replace h := h.symm
  subst h
  refine .keepL [] [(3, .val (.bool (!t2_2)))] [] (by decide) (by decide) ⟨.free rfl rfl, trivial⟩ trivial ?_
  exact .ret rfl
def weight_checked.f (a0 : TSpace) (a1 : List TWeight) (r : Int) : Prop :=
  ∃ t2_1 : Int, (weight_Space.f a0 t2_1) ∧ if t2_1 = 0 then (∃ t4_2 : Bool, (slices_ContainsFunc_Weight.f a1 (fun x0_ y_ => weight_checked_1.f x0_ a0 y_) t4_2) ∧ if t4_2 = true then (r = 51) else (r = 0)) else (r = t2_1)
theorem weight_checked.D {a0 : TSpace} {a1 : List TWeight} {r : Int} (h : weight_checked.f a0 a1 r) : D Try.prog X (.callH 52 [.agg (TSpace.lit a0), .rows (a1.map TWeight.cells)] [] (.val (.int .i64 r)) []) := by
  unfold weight_checked.f at h
  refine .enter 14 0 fn52 rfl rfl rfl ?_
  refine .seq ?_
  refine .room 0 ?_
  refine .reg0 rfl (.op 0 rfl (bxP (s := 3) (cs := (TSpace.lit a0)) rfl ⟨rfl, by decide, rfl⟩ rfl) <| .op 0 rfl (asV rfl) <| .nil0) ?_
  refine .seq ?_
  refine .seq ?_
  obtain ⟨t2_1, g2_1, h⟩ := h
  refine .reg0 rfl (.op 0 rfl (ldG rfl sz25 ag25 rfl) <| .callI rfl (callee_of rfl go33 rfl) (.pure rfl rfl (weight_Space.D g2_1)) <| .op 0 rfl (asV rfl) <| .nil0) ?_
  refine .seq ?_
  refine .reg0 rfl (.op 0 rfl (mvV rfl) <| .op 0 rfl (neI rfl rfl) <| .nil0) ?_
  by_cases c1 : t2_1 = 0
  · rw [if_pos c1] at h
    refine .condF rfl (bne_eq_false_iff_eq.mpr c1) ?_
    refine .skip ?_
    refine .seq ?_
    refine .seq ?_
    obtain ⟨t4_2, g4_2, h⟩ := h
    refine .reg0 rfl (.op 0 rfl (mvR rfl) <| .op 0 rfl (mkF rfl) <| .callI rfl (callee_of rfl go66 rfl) (.lendC (args' := [.rows (a1.map TWeight.cells), .clo 67 [.cptr (TSpace.lit a0) 0]])  [0] false (.cons (.free rfl rfl) <| .cons (cClo (.cons (cFixP rfl rfl (.cons (.free rfl rfl) <| .cons (.free rfl rfl) <| .cons (.free rfl rfl) <| .nil)) <| .nil)) <| .nil) (by decide) rfl rfl rfl rfl (slices_ContainsFunc_Weight.D (k1_ := [.cptr (TSpace.lit a0) 0]) go67 rfl rfl (fun x0_ y_ h_ => weight_checked_1.D h_) g4_2)) <| .nil0) ?_
    by_cases c2 : t4_2 = true
    · rw [if_pos c2] at h
      refine .condT rfl c2 ?_
      refine .seq ?_
      refine .reg0 rfl (.op 0 rfl (asV rfl) <| .nil0) ?_
      replace h := h.symm
      subst h
      refine .keepL [] [(4, .val (.int .i64 51))] [] (by decide) (by decide) ⟨.free rfl rfl, trivial⟩ trivial ?_
      exact .ret rfl
    · rw [if_neg c2] at h
      refine .condF rfl (Bool.eq_false_iff.mpr c2) ?_
      refine .skip ?_
      refine .seq ?_
      refine .reg0 rfl (.op 0 rfl (asV rfl) <| .nil0) ?_
      replace h := h.symm
      subst h
      refine .keepL [] [(4, .val (.int .i64 0))] [] (by decide) (by decide) ⟨.free rfl rfl, trivial⟩ trivial ?_
      exact .ret rfl
  · rw [if_neg c1] at h
    refine .condT rfl (bne_iff_ne.mpr c1) ?_
    refine .seq ?_
    refine .reg0 rfl (.op 0 rfl (mvV rfl) <| .op 0 rfl (asV rfl) <| .nil0) ?_
    replace h := h.symm
    subst h
    refine .keepL [] [(4, .val (.int .i64 t2_1))] [] (by decide) (by decide) ⟨.free rfl rfl, trivial⟩ trivial ?_
    exact .ret rfl
def weight_Check.f (a0 : TSpace) (a1 : TWeight) (r : Int) : Prop :=
  ∃ t2_3 : Int, (weight_checked.f a0 [a1] t2_3) ∧ r = t2_3
theorem weight_Check.D {a0 : TSpace} {a1 : TWeight} {r : Int} (h : weight_Check.f a0 a1 r) : D Try.prog X (.callH 37 [.agg (TSpace.lit a0), .agg (TWeight.lit a1)] [] (.val (.int .i64 r)) []) := by
  unfold weight_Check.f at h
  refine .enter 9 0 fn37 rfl rfl rfl ?_
  refine .seq ?_
  refine .room 0 ?_
  refine .room 0 ?_
  refine .reg0 rfl (.op 0 rfl (bxP (s := 3) (cs := (TSpace.lit a0)) rfl ⟨rfl, by decide, rfl⟩ rfl) <| .op 1 rfl (bxP (s := 6) (cs := (TWeight.lit a1)) rfl ⟨rfl, by decide, rfl⟩ rfl) <| .op 0 rfl (asV rfl) <| .nil0) ?_
  refine .seq ?_
  obtain ⟨t2_3, g2_3, h⟩ := h
  refine .room 0 ?_
  refine .reg0 rfl (.op 0 rfl (ldG rfl sz25 ag25 rfl) <| .op 0 rfl (ldG rfl sz49 ag49 rfl) <| .op 2 rfl (bldT (s := 6) (cs := [.val (.bool a1.Zero), .val (.int .i64 a1.Cost), .val (.int .u64 a1.Facts.Gen), .rows (a1.Facts.Rows.map (cInt .u64)), .rows (a1.Cells.map TCell.cells), .rows (a1.Parts.map TWeight.cells)]) (cf := TWeight.cells) [a1] un47 sz49 ze49 ⟨by decide, rfl, by decide⟩ rfl rfl rfl (by simp only [List.map, TWeight.cells_lit]; rfl) rfl) <| .callI rfl (callee_of rfl go52 rfl) (.lendC (args' := [.agg (TSpace.lit a0), .rows ([a1].map TWeight.cells)])  [2] false (.cons (.free rfl rfl) <| .cons (cFixO (l := [a1]) sl47 rfl rfl rfl rfl) <| .nil) (by decide) rfl rfl rfl rfl (weight_checked.D g2_3)) <| .op 0 rfl (asV rfl) <| .nil0) ?_
  replace h := h.symm
  subst h
  refine .keepL [] [(4, .val (.int .i64 t2_3))] [] (by decide) (by decide) ⟨.free rfl rfl, trivial⟩ trivial ?_
  exact .ret rfl
def pds_Check.b1 (a0 : TPds) : Int → Rnd Int Unit Int → Prop := fun x1 z1 => if x1 < (a0.Rules.length : Int) then (((InR x1 a0.Rules.length)) ∧ ∃ t25_4 : Int, (weight_Check.f a0.Space ((rdl a0.Rules x1).F) t25_4) ∧ if t25_4 = 0 then (z1 = .next (IntKind.i64.wrap (x1 + 1))) else (z1 = .ret t25_4)) else (z1 = .exit ())
def pds_Check.f (a0 : TPds) (r : Int) : Prop :=
  ∃ t2_2 : Int, (weight_Space.f a0.Space t2_2) ∧ if t2_2 = 0 then (if (a0.Rules.length : Int) > 16384 then (r = 3) else (if ((decide (a0.States < 0)) || ((decide (a0.States > 4096)) || ((decide (a0.Symbols < 0)) || (decide (a0.Symbols > 4096))))) = true then (r = 110) else (∃ t8_3 : Bool, (slices_ContainsFunc_Rule.f a0.Rules (fun x0_ y_ => pds_Check_1.f x0_ a0 y_) t8_3) ∧ if t8_3 = true then (r = 110) else (∃ o1 : Fin Unit Int, Loop (pds_Check.b1 a0) 0 o1 ∧ o1.on (fun _ => r = 0) (fun r_ => r = r_))))) else (r = t2_2)
theorem pds_Check.D {a0 : TPds} {r : Int} (h : pds_Check.f a0 r) : D Try.prog X (.callH 19 [.agg (TPds.lit a0)] [] (.val (.int .i64 r)) []) := by
  unfold pds_Check.f at h
  refine .enter 55 0 fn19 rfl rfl rfl ?_
  refine .seq ?_
  refine .room 0 ?_
  refine .reg0 rfl (.op 0 rfl (bxP (s := 6) (cs := (TPds.lit a0)) rfl ⟨rfl, by decide, rfl⟩ rfl) <| .op 0 rfl (asV rfl) <| .nil0) ?_
  refine .seq ?_
  refine .seq ?_
  obtain ⟨t2_2, g2_2, h⟩ := h
  refine .reg0 rfl (.op 0 rfl (faP fa28_0 rfl) <| .op 0 rfl (ldG rfl sz25 ag25 rfl) <| .callI rfl (callee_of rfl go33 rfl) (.pure rfl rfl (weight_Space.D g2_2)) <| .op 0 rfl (asV rfl) <| .nil0) ?_
  refine .seq ?_
  refine .reg0 rfl (.op 0 rfl (mvV rfl) <| .op 0 rfl (neI rfl rfl) <| .nil0) ?_
  by_cases c1 : t2_2 = 0
  · rw [if_pos c1] at h
    refine .condF rfl (bne_eq_false_iff_eq.mpr c1) ?_
    refine .skip ?_
    refine .seq ?_
    refine .seq ?_
    refine .reg0 rfl (.op 0 rfl (faP fa28_3 rfl) <| .op 0 rfl (ldP rfl sz26 ag26 rfl) <| .op 0 rfl (lnR (l := a0.Rules) sl26 rfl) <| .op 0 rfl (gtI rfl rfl) <| .nil0) ?_
    by_cases c2 : (a0.Rules.length : Int) > 16384
    · rw [if_pos c2] at h
      refine .condT rfl (decide_eq_true c2) ?_
      refine .seq ?_
      refine .reg0 rfl (.op 0 rfl (asV rfl) <| .nil0) ?_
      replace h := h.symm
      subst h
      refine .keepL [] [(2, .val (.int .i64 3))] [] (by decide) (by decide) ⟨.free rfl rfl, trivial⟩ trivial ?_
      exact .ret rfl
    · rw [if_neg c2] at h
      refine .condF rfl (decide_eq_false c2) ?_
      refine .skip ?_
      refine .seq ?_
      refine .seq ?_
      refine .reg0 (e1 := listEnv [(1, .ptr 0 1 6 0 0), (34, .val (.bool ((decide (a0.States < 0)) || ((decide (a0.States > 4096)) || ((decide (a0.Symbols < 0)) || (decide (a0.Symbols > 4096)))))))]) (H1 := [⟨6, [(TPds.lit a0)], 0, none⟩]) rfl ?_ ?_
      · by_cases c3 : a0.States < 0
        · exact (.op 0 rfl (faP fa28_1 rfl) <| .op 0 rfl (ldP rfl sz3 ag3 rfl) <| .op 0 rfl (ltI rfl rfl) <| .op 0 rfl (mvV rfl) <| .no (gF rfl rfl rfl (decide_eq_true c3)) <| .no (gF rfl rfl rfl (decide_eq_true c3)) <| .no (gF rfl rfl rfl (decide_eq_true c3)) <| .op 0 rfl (pkTV rfl (decide_eq_true c3) rfl) <| .op 0 rfl (mvV rfl) <| .no (gF rfl rfl rfl rfl) <| .no (gF rfl rfl rfl rfl) <| .no (gF rfl rfl rfl rfl) <| .op 0 rfl (pkTV rfl rfl rfl) <| .op 0 rfl (mvV rfl) <| .no (gF rfl rfl rfl rfl) <| .no (gF rfl rfl rfl rfl) <| .no (gF rfl rfl rfl rfl) <| .op 0 rfl (pkTV rfl rfl rfl) <| .nilL _ ⟨.ptr rfl, cB rfl (mOrT (decide_eq_true c3)), trivial⟩)
        · by_cases c4 : a0.States > 4096
          · exact (.op 0 rfl (faP fa28_1 rfl) <| .op 0 rfl (ldP rfl sz3 ag3 rfl) <| .op 0 rfl (ltI rfl rfl) <| .op 0 rfl (mvV rfl) <| .op 0 (gT rfl rfl rfl (decide_eq_false c3)) (faP fa28_1 rfl) <| .op 0 (gT rfl rfl rfl (decide_eq_false c3)) (ldP rfl sz3 ag3 rfl) <| .op 0 (gT rfl rfl rfl (decide_eq_false c3)) (gtI rfl rfl) <| .op 0 rfl (pkFV rfl (decide_eq_false c3) rfl) <| .op 0 rfl (mvV rfl) <| .no (gF rfl rfl rfl (decide_eq_true c4)) <| .no (gF rfl rfl rfl (decide_eq_true c4)) <| .no (gF rfl rfl rfl (decide_eq_true c4)) <| .op 0 rfl (pkTV rfl (decide_eq_true c4) rfl) <| .op 0 rfl (mvV rfl) <| .no (gF rfl rfl rfl rfl) <| .no (gF rfl rfl rfl rfl) <| .no (gF rfl rfl rfl rfl) <| .op 0 rfl (pkTV rfl rfl rfl) <| .nilL _ ⟨.ptr rfl, cB rfl (mOrF (decide_eq_false c3) (mOrT (decide_eq_true c4))), trivial⟩)
          · by_cases c5 : a0.Symbols < 0
            · exact (.op 0 rfl (faP fa28_1 rfl) <| .op 0 rfl (ldP rfl sz3 ag3 rfl) <| .op 0 rfl (ltI rfl rfl) <| .op 0 rfl (mvV rfl) <| .op 0 (gT rfl rfl rfl (decide_eq_false c3)) (faP fa28_1 rfl) <| .op 0 (gT rfl rfl rfl (decide_eq_false c3)) (ldP rfl sz3 ag3 rfl) <| .op 0 (gT rfl rfl rfl (decide_eq_false c3)) (gtI rfl rfl) <| .op 0 rfl (pkFV rfl (decide_eq_false c3) rfl) <| .op 0 rfl (mvV rfl) <| .op 0 (gT rfl rfl rfl (decide_eq_false c4)) (faP fa28_2 rfl) <| .op 0 (gT rfl rfl rfl (decide_eq_false c4)) (ldP rfl sz3 ag3 rfl) <| .op 0 (gT rfl rfl rfl (decide_eq_false c4)) (ltI rfl rfl) <| .op 0 rfl (pkFV rfl (decide_eq_false c4) rfl) <| .op 0 rfl (mvV rfl) <| .no (gF rfl rfl rfl (decide_eq_true c5)) <| .no (gF rfl rfl rfl (decide_eq_true c5)) <| .no (gF rfl rfl rfl (decide_eq_true c5)) <| .op 0 rfl (pkTV rfl (decide_eq_true c5) rfl) <| .nilL _ ⟨.ptr rfl, cB rfl (mOrF (decide_eq_false c3) (mOrF (decide_eq_false c4) (mOrT (decide_eq_true c5)))), trivial⟩)
            · exact (.op 0 rfl (faP fa28_1 rfl) <| .op 0 rfl (ldP rfl sz3 ag3 rfl) <| .op 0 rfl (ltI rfl rfl) <| .op 0 rfl (mvV rfl) <| .op 0 (gT rfl rfl rfl (decide_eq_false c3)) (faP fa28_1 rfl) <| .op 0 (gT rfl rfl rfl (decide_eq_false c3)) (ldP rfl sz3 ag3 rfl) <| .op 0 (gT rfl rfl rfl (decide_eq_false c3)) (gtI rfl rfl) <| .op 0 rfl (pkFV rfl (decide_eq_false c3) rfl) <| .op 0 rfl (mvV rfl) <| .op 0 (gT rfl rfl rfl (decide_eq_false c4)) (faP fa28_2 rfl) <| .op 0 (gT rfl rfl rfl (decide_eq_false c4)) (ldP rfl sz3 ag3 rfl) <| .op 0 (gT rfl rfl rfl (decide_eq_false c4)) (ltI rfl rfl) <| .op 0 rfl (pkFV rfl (decide_eq_false c4) rfl) <| .op 0 rfl (mvV rfl) <| .op 0 (gT rfl rfl rfl (decide_eq_false c5)) (faP fa28_2 rfl) <| .op 0 (gT rfl rfl rfl (decide_eq_false c5)) (ldP rfl sz3 ag3 rfl) <| .op 0 (gT rfl rfl rfl (decide_eq_false c5)) (gtI rfl rfl) <| .op 0 rfl (pkFV rfl (decide_eq_false c5) rfl) <| .nilL _ ⟨.ptr rfl, cB rfl (mOrF (decide_eq_false c3) (mOrF (decide_eq_false c4) (mOrF (decide_eq_false c5) rfl))), trivial⟩)
      by_cases c6 : ((decide (a0.States < 0)) || ((decide (a0.States > 4096)) || ((decide (a0.Symbols < 0)) || (decide (a0.Symbols > 4096))))) = true
      · rw [if_pos c6] at h
        refine .condT rfl c6 ?_
        refine .seq ?_
        refine .reg0 rfl (.op 0 rfl (asV rfl) <| .nil0) ?_
        replace h := h.symm
        subst h
        refine .keepL [] [(2, .val (.int .i64 110))] [] (by decide) (by decide) ⟨.free rfl rfl, trivial⟩ trivial ?_
        exact .ret rfl
      · rw [if_neg c6] at h
        refine .condF rfl (Bool.eq_false_iff.mpr c6) ?_
        refine .skip ?_
        refine .seq ?_
        refine .seq ?_
        obtain ⟨t8_3, g8_3, h⟩ := h
        refine .reg0 rfl (.op 0 rfl (faP fa28_3 rfl) <| .op 0 rfl (ldP rfl sz26 ag26 rfl) <| .op 0 rfl (mkF rfl) <| .callI rfl (callee_of rfl go34 rfl) (.lendC (args' := [.rows (a0.Rules.map TRule.cells), .clo 35 [.cptr (TPds.lit a0) 0]])  [0] false (.cons (.free rfl rfl) <| .cons (cClo (.cons (cFixP rfl rfl (.cons (.free rfl rfl) <| .cons (.free rfl rfl) <| .cons (.free rfl rfl) <| .cons (.free rfl rfl) <| .cons (.free rfl rfl) <| .cons (.free rfl rfl) <| .nil)) <| .nil)) <| .nil) (by decide) rfl rfl rfl rfl (slices_ContainsFunc_Rule.D (k1_ := [.cptr (TPds.lit a0) 0]) go35 rfl rfl (fun x0_ y_ h_ => pds_Check_1.D h_) g8_3)) <| .nil0) ?_
        by_cases c7 : t8_3 = true
        · rw [if_pos c7] at h
          refine .condT rfl c7 ?_
          refine .seq ?_
          refine .reg0 rfl (.op 0 rfl (asV rfl) <| .nil0) ?_
          replace h := h.symm
          subst h
          refine .keepL [] [(2, .val (.int .i64 110))] [] (by decide) (by decide) ⟨.free rfl rfl, trivial⟩ trivial ?_
          exact .ret rfl
        · rw [if_neg c7] at h
          refine .condF rfl (Bool.eq_false_iff.mpr c7) ?_
          refine .skip ?_
          refine .seq ?_
          refine .seq ?_
          refine .reg0 rfl (.op 0 rfl (faP fa28_3 rfl) <| .op 0 rfl (ldP rfl sz26 ag26 rfl) <| .op 0 rfl (lnR (l := a0.Rules) sl26 rfl) <| .op 0 rfl (mvV rfl) <| .nil0) ?_
          refine .block ?_
          refine .keepL [0] [(1, .ptr 0 1 6 0 0), (40, .rows (a0.Rules.map TRule.cells)), (41, .val (.int .i64 (a0.Rules.length : Int))), (42, .val (.int .i64 0))] [⟨6, [(TPds.lit a0)], 0, none⟩] (by decide) (by decide) ⟨.ptr rfl, .free rfl rfl, .free rfl rfl, .free rfl rfl, trivial⟩ ⟨⟨_, rfl, bcBox (all2_free rfl)⟩, trivial⟩ ?_
          obtain ⟨o1, hL1, h⟩ := h
          refine .loopB (pds_Check.b1 a0) (fun x1 => listEnv [(1, .ptr 0 1 6 0 0), (40, .rows (a0.Rules.map TRule.cells)), (41, .val (.int .i64 (a0.Rules.length : Int))), (42, .val (.int .i64 x1))]) (fun x1 => [⟨6, [(TPds.lit a0)], 0, none⟩]) (fun _ => listEnv []) (fun _ => []) hL1 (fun r_ => r = r_) ?_ ?_ ?_
          · rintro ⟨⟩ rfl
            try dsimp only [Fin.on] at h
            refine .seq ?_
            refine .reg0 rfl (.op 0 rfl (asV rfl) <| .nil0) ?_
            replace h := h.symm
            subst h
            refine .keepL [] [(2, .val (.int .i64 0))] [] (by decide) (by decide) ⟨.free rfl rfl, trivial⟩ trivial ?_
            exact .ret rfl
          · rintro r_ rfl
            exact h
          · rintro x1 z1 h hn1 hx1 hr1
            dsimp only [pds_Check.b1] at h
            refine .seq ?_
            refine .reg0 rfl (.op 0 rfl (ltI rfl rfl) <| .nil0) ?_
            refine .seq ?_
            by_cases c12 : x1 < (a0.Rules.length : Int)
            · rw [if_pos c12] at h
              refine .condT rfl (decide_eq_true c12) ?_
              refine .skip ?_
              refine .seq ?_
              refine .block ?_
              refine .seq ?_
              obtain ⟨g24_0, h⟩ := h
              refine .room 0 ?_
              refine .reg0 rfl (.op 0 rfl (ixR (l := a0.Rules) (lit := TRule.lit) sl26 rfl rfl (fun _ => rfl) g24_0.1 g24_0.2) <| .op 0 rfl (ldCG rfl sz51 ag51 rfl) <| .op 1 rfl (alP (s := 10) ze51 ⟨rfl, by decide, rfl⟩ rfl) <| .op 0 rfl (stB (cs0 := [.val (.int .i64 0), .val (.int .i64 0), .val (.int .i64 0), .val (.slice none 0 0), .val (.bool false), .val (.int .i64 0), .val (.int .u64 0), .val (.slice none 0 0), .val (.slice none 0 0), .val (.slice none 0 0)]) (cs := (TRule.lit (rdl a0.Rules x1))) (cs1 := (TRule.lit (rdl a0.Rules x1))) rfl rfl sz51 rfl ⟨Nat.le_of_ble_eq_true rfl, rfl⟩ rfl) <| .nil0) ?_
              refine .seq ?_
              obtain ⟨t25_4, g25_4, h⟩ := h
              refine .reg0 rfl (.op 0 rfl (faP fa28_0 rfl) <| .op 0 rfl (ldG rfl sz25 ag25 rfl) <| .op 0 rfl (faP fa51_4 rfl) <| .op 0 rfl (ldG rfl sz49 ag49 rfl) <| .callI rfl (callee_of rfl go37 rfl) (.pure rfl rfl (weight_Check.D g25_4)) <| .op 0 rfl (asV rfl) <| .nil0) ?_
              refine .seq ?_
              refine .reg0 rfl (.op 0 rfl (mvV rfl) <| .op 0 rfl (neI rfl rfl) <| .nil0) ?_
              by_cases c13 : t25_4 = 0
              · rw [if_pos c13] at h
                refine .condF rfl (bne_eq_false_iff_eq.mpr c13) ?_
                refine .skip ?_
                refine .inBlock ?_
                refine .reg0 rfl (.op 0 rfl (addI rfl rfl) <| .op 0 rfl (mvV rfl) <| .nil0) ?_
                refine .keepL [0] [(1, .ptr 0 1 6 0 0), (40, .rows (a0.Rules.map TRule.cells)), (41, .val (.int .i64 (a0.Rules.length : Int))), (42, .val (.int .i64 (IntKind.i64.wrap (x1 + 1))))] [⟨6, [(TPds.lit a0)], 0, none⟩] (by decide) (by decide) ⟨.ptr rfl, .free rfl rfl, .free rfl rfl, .free rfl rfl, trivial⟩ ⟨⟨_, rfl, bcBox (all2_free rfl)⟩, trivial⟩ ?_
                exact hn1 _ h
              · rw [if_neg c13] at h
                refine .condT rfl (bne_iff_ne.mpr c13) ?_
                refine .seq ?_
                refine .reg0 rfl (.op 0 rfl (mvV rfl) <| .op 0 rfl (asV rfl) <| .nil0) ?_
                have q3 := hr1 _ h
                replace q3 := q3.symm
                subst q3
                refine .keepL [] [(2, .val (.int .i64 t25_4))] [] (by decide) (by decide) ⟨.free rfl rfl, trivial⟩ trivial ?_
                exact .ret rfl
            · rw [if_neg c12] at h
              refine .condF rfl (decide_eq_false c12) ?_
              refine .exit rfl ?_
              refine .keepL [] [] [] (by decide) (by decide) trivial trivial ?_
              exact hx1 _ h
  · rw [if_neg c1] at h
    refine .condT rfl (bne_iff_ne.mpr c1) ?_
    refine .seq ?_
    refine .reg0 rfl (.op 0 rfl (mvV rfl) <| .op 0 rfl (asV rfl) <| .nil0) ?_
    replace h := h.symm
    subst h
    refine .keepL [] [(2, .val (.int .i64 t2_2))] [] (by decide) (by decide) ⟨.free rfl rfl, trivial⟩ trivial ?_
    exact .ret rfl
def facts_One.b1 (a0 : Int) : ((List Int) × Int) → Rnd (((List Int) × Int)) ((List Int)) (TFacts × Int) → Prop := fun (x1, x2) z1 => if x2 < ((List.replicate (Int.toNat a0) (0 : Int)).length : Int) then ((((0 : Int) ≤ (IntKind.u64.wrap x2))) ∧ ((InR x2 x1.length)) ∧ z1 = .next ((setl x1 x2 (shlI .u64 1 (IntKind.u64.wrap x2))), (IntKind.i64.wrap (x2 + 1)))) else (z1 = .exit x1)
def facts_One.f (a0 : Int) (r : TFacts × Int) : Prop :=
  ∃ t2_1 : Int × Int, (bits_Full.f a0 t2_1) ∧ if t2_1.2 = 0 then ((((0 : Int) ≤ a0 ∧ Fits a0 8)) ∧ ∃ o1 : Fin ((List Int)) (TFacts × Int), Loop (facts_One.b1 a0) ((List.replicate (Int.toNat a0) (0 : Int)), 0) o1 ∧ o1.on (fun x3 => r = ((TFacts.mk 0 x3), 0)) (fun r_ => r = r_)) else (r = ((TFacts.mk 0 []), 31))
theorem facts_One.D {a0 : Int} {r : TFacts × Int} (h : facts_One.f a0 r) : D Try.prog X (.callH 53 [.val (.int .i64 a0)] [] (.tuple [.agg (TFacts.lit r.1), .val (.int .i64 r.2)]) []) := by
  unfold facts_One.f at h
  refine .enter 34 0 fn53 rfl rfl rfl ?_
  refine .seq ?_
  refine .room 0 ?_
  refine .reg0 rfl (.op 0 rfl (alP (s := 2) ze45 ⟨rfl, by decide, rfl⟩ rfl) <| .op 0 rfl (asV rfl) <| .nil0) ?_
  refine .seq ?_
  refine .seq ?_
  obtain ⟨t2_1, g2_1, h⟩ := h
  refine .reg0 rfl (.op 0 rfl (mvV rfl) <| .callI rfl (callee_of rfl go69 rfl) (.pure rfl rfl (bits_Full.D g2_1)) <| .op 0 rfl (mvT rfl) <| .op 0 rfl (exT rfl rfl) <| .op 0 rfl (exT rfl rfl) <| .op 0 rfl (asV rfl) <| .op 0 rfl (asV rfl) <| .nil0) ?_
  refine .seq ?_
  refine .reg0 rfl (.op 0 rfl (mvV rfl) <| .op 0 rfl (neI rfl rfl) <| .nil0) ?_
  by_cases c1 : t2_1.2 = 0
  · rw [if_pos c1] at h
    refine .condF rfl (bne_eq_false_iff_eq.mpr c1) ?_
    refine .skip ?_
    refine .seq ?_
    obtain ⟨g4_1, h⟩ := h
    refine .room 0 ?_
    refine .room 0 ?_
    refine .reg0 rfl (.op 0 rfl (mvV rfl) <| .op 1 rfl (mkS (z0 := (0 : Int)) sl43 un43 ze42 rfl rfl g4_1.1 g4_1.2 rfl) <| .op 0 rfl (bldS (cs := [.val (.int .u64 0), .own 1 ((List.replicate (Int.toNat a0) (0 : Int)).length)]) ze45 pl45 rfl rfl) <| .op 2 rfl (alP (s := 2) ze45 ⟨rfl, by decide, rfl⟩ rfl) <| .op 0 rfl (stB (cs0 := [.val (.int .u64 0), .val (.slice none 0 0)]) (cs := [.val (.int .u64 0), .own 1 ((List.replicate (Int.toNat a0) (0 : Int)).length)]) (cs1 := [.val (.int .u64 0), .own 1 ((List.replicate (Int.toNat a0) (0 : Int)).length)]) rfl rfl sz45 rfl ⟨Nat.le_of_ble_eq_true rfl, rfl⟩ rfl) <| .nil0) ?_
    refine .seq ?_
    refine .seq ?_
    refine .reg0 rfl (.op 0 rfl (faP fa45_1 rfl) <| .op 0 rfl (ldP rfl sz43 ag43 rfl) <| .op 0 rfl (lnO (l := (List.replicate (Int.toNat a0) (0 : Int))) sl43 rfl rfl rfl) <| .op 0 rfl (mvV rfl) <| .nil0) ?_
    refine .block ?_
    refine .keepL [0, 2, 1] [(2, .ptr 0 1 2 0 0), (6, .ptr 1 1 2 0 0), (21, .val (.int .i64 ((List.replicate (Int.toNat a0) (0 : Int)).length : Int))), (22, .val (.int .i64 0))] [⟨2, [[.val (.int .u64 0), .val (.slice none 0 0)]], 0, none⟩, ⟨2, [[.val (.int .u64 0), .own 2 ((List.replicate (Int.toNat a0) (0 : Int)).length)]], 0, none⟩, ⟨1, (List.replicate (Int.toNat a0) (0 : Int)).map (cInt .u64), 0, none⟩] (by decide) (by decide) ⟨.ptr rfl, .ptr rfl, .free rfl rfl, .free rfl rfl, trivial⟩ ⟨⟨_, rfl, bcBox (all2_free rfl)⟩, ⟨_, rfl, bcBox (.cons (.free rfl rfl) <| .cons (.own rfl) <| .nil)⟩, ⟨_, rfl, bcRow (l := (List.replicate (Int.toNat a0) (0 : Int))) sl43 (Nat.le_refl _) rfl⟩, trivial⟩ ?_
    obtain ⟨o1, hL1, h⟩ := h
    refine .loopB (facts_One.b1 a0) (fun (x1, x2) => listEnv [(2, .ptr 0 1 2 0 0), (6, .ptr 1 1 2 0 0), (21, .val (.int .i64 ((List.replicate (Int.toNat a0) (0 : Int)).length : Int))), (22, .val (.int .i64 x2))]) (fun (x1, x2) => [⟨2, [[.val (.int .u64 0), .val (.slice none 0 0)]], 0, none⟩, ⟨2, [[.val (.int .u64 0), .own 2 x1.length]], 0, none⟩, ⟨1, x1.map (cInt .u64), 0, none⟩]) (fun x3 => listEnv [(2, .ptr 0 1 2 0 0), (6, .ptr 1 1 2 0 0)]) (fun x3 => [⟨2, [[.val (.int .u64 0), .val (.slice none 0 0)]], 0, none⟩, ⟨2, [[.val (.int .u64 0), .own 2 x3.length]], 0, none⟩, ⟨1, x3.map (cInt .u64), 0, none⟩]) hL1 (fun r_ => r = r_) ?_ ?_ ?_
    · rintro x3 rfl
      try dsimp only [Fin.on] at h
      refine .seq ?_
      refine .reg0 rfl (.op 0 rfl (ldG rfl sz45 ag45 rfl) <| .op 0 rfl (stB (cs0 := [.val (.int .u64 0), .val (.slice none 0 0)]) (cs := [.val (.int .u64 0), .own 2 x3.length]) (cs1 := [.val (.int .u64 0), .own 2 x3.length]) rfl rfl sz45 rfl ⟨Nat.le_of_ble_eq_true rfl, rfl⟩ rfl) <| .op 0 rfl (asV rfl) <| .nil0) ?_
      replace h := h.symm
      subst h
      refine .keepL [] [(2, .cptr [.val (.int .u64 0), .rows (x3.map (cInt .u64))] 0), (3, .val (.int .i64 0))] [] (by decide) (by decide) ⟨cFixP rfl rfl (.cons (.free rfl rfl) <| .cons (cFixO (l := x3) sl43 rfl rfl rfl rfl) <| .nil), .free rfl rfl, trivial⟩ trivial ?_
      exact .ret rfl
    · rintro r_ rfl
      exact h
    · rintro ⟨x1, x2⟩ z1 h hn1 hx1 hr1
      dsimp only [facts_One.b1] at h
      refine .seq ?_
      refine .reg0 rfl (.op 0 rfl (ltI rfl rfl) <| .nil0) ?_
      refine .seq ?_
      by_cases c4 : x2 < ((List.replicate (Int.toNat a0) (0 : Int)).length : Int)
      · rw [if_pos c4] at h
        refine .condT rfl (decide_eq_true c4) ?_
        refine .skip ?_
        refine .seq ?_
        refine .block ?_
        refine .seq ?_
        refine .reg0 rfl (.op 0 rfl (mvV rfl) <| .op 0 rfl (asV rfl) <| .nil0) ?_
        obtain ⟨g16_5, h⟩ := h
        obtain ⟨g16_6, h⟩ := h
        refine .reg0 rfl (.op 0 rfl (faP fa45_1 rfl) <| .op 0 rfl (ldP rfl sz43 ag43 rfl) <| .op 0 rfl (mvV rfl) <| .op 0 rfl (mvV rfl) <| .op 0 rfl (convI un3 un123 rfl) <| .op 0 rfl (shl_ rfl rfl g16_5) <| .op 0 rfl (ixO (l := x1) sl43 rfl rfl rfl rfl g16_6.1 g16_6.2) <| .op 0 rfl (stO (l := x1) (j := x2) (cs := [.val (.int .u64 (shlI .u64 1 (IntKind.u64.wrap x2)))]) (shlI .u64 1 (IntKind.u64.wrap x2)) sl43 rfl rfl sz42 rfl rfl g16_6.1 g16_6.2 (Nat.zero_le _) ⟨Nat.le_of_ble_eq_true rfl, rfl⟩ rfl) <| .nil0) ?_
        refine .inBlock ?_
        refine .reg0 rfl (.op 0 rfl (addI rfl rfl) <| .op 0 rfl (mvV rfl) <| .nil0) ?_
        refine .keepL [0, 1, 2] [(2, .ptr 0 1 2 0 0), (6, .ptr 1 1 2 0 0), (21, .val (.int .i64 ((List.replicate (Int.toNat a0) (0 : Int)).length : Int))), (22, .val (.int .i64 (IntKind.i64.wrap (x2 + 1))))] [⟨2, [[.val (.int .u64 0), .val (.slice none 0 0)]], 0, none⟩, ⟨2, [[.val (.int .u64 0), .own 2 ((setl x1 x2 (shlI .u64 1 (IntKind.u64.wrap x2))).length)]], 0, none⟩, ⟨1, (setl x1 x2 (shlI .u64 1 (IntKind.u64.wrap x2))).map (cInt .u64), 0, none⟩] (by decide) (by decide) ⟨.ptr rfl, .ptr rfl, .free rfl rfl, .free rfl rfl, trivial⟩ ⟨⟨_, rfl, bcBox (all2_free rfl)⟩, ⟨_, rfl, bcBox (.cons (.free rfl rfl) <| .cons (cOwnE rfl (by simp only [setl, List.length_set])) <| .nil)⟩, ⟨_, rfl, bcRow (l := (setl x1 x2 (shlI .u64 1 (IntKind.u64.wrap x2)))) sl43 (Nat.le_refl _) rfl⟩, trivial⟩ ?_
        exact hn1 _ h
      · rw [if_neg c4] at h
        refine .condF rfl (decide_eq_false c4) ?_
        refine .exit rfl ?_
        refine .keepL [0, 1, 2] [(2, .ptr 0 1 2 0 0), (6, .ptr 1 1 2 0 0)] [⟨2, [[.val (.int .u64 0), .val (.slice none 0 0)]], 0, none⟩, ⟨2, [[.val (.int .u64 0), .own 2 x1.length]], 0, none⟩, ⟨1, x1.map (cInt .u64), 0, none⟩] (by decide) (by decide) ⟨.ptr rfl, .ptr rfl, trivial⟩ ⟨⟨_, rfl, bcBox (all2_free rfl)⟩, ⟨_, rfl, bcBox (.cons (.free rfl rfl) <| .cons (.own rfl) <| .nil)⟩, ⟨_, rfl, bcRow (l := x1) sl43 (Nat.le_refl _) rfl⟩, trivial⟩ ?_
        exact hx1 _ h
  · rw [if_neg c1] at h
    refine .condT rfl (bne_iff_ne.mpr c1) ?_
    refine .seq ?_
    refine .reg0 rfl (.op 0 rfl (bldS (cs := [.val (.int .u64 0), .val (.slice none 0 0)]) ze45 pl45 rfl rfl) <| .op 0 rfl (stB (cs0 := [.val (.int .u64 0), .val (.slice none 0 0)]) (cs := [.val (.int .u64 0), .val (.slice none 0 0)]) (cs1 := [.val (.int .u64 0), .val (.slice none 0 0)]) rfl rfl sz45 rfl ⟨Nat.le_of_ble_eq_true rfl, rfl⟩ rfl) <| .op 0 rfl (asV rfl) <| .nil0) ?_
    replace h := h.symm
    subst h
    refine .keepL [] [(2, .cptr [.val (.int .u64 0), .rows (([] : List Int).map (cInt .u64))] 0), (3, .val (.int .i64 31))] [] (by decide) (by decide) ⟨cFixP rfl rfl (.cons (.free rfl rfl) <| .cons (.nil) <| .nil), .free rfl rfl, trivial⟩ trivial ?_
    exact .ret rfl
def cells_one.b1 (a0 : Int) : ((List TCell) × Int) → Rnd (((List TCell) × Int)) ((List TCell)) ((List TCell)) → Prop := fun (x1, x2) z1 => if x2 < a0 then ((((0 : Int) ≤ x2)) ∧ ((InR x2 x1.length)) ∧ z1 = .next ((setl x1 x2 (TCell.mk (shlI .u64 1 x2) ((rdl x1 x2).Kind) ((rdl x1 x2).K))), (IntKind.i64.wrap (x2 + 1)))) else (z1 = .exit x1)
def cells_one.f (a0 : Int) (r : (List TCell)) : Prop :=
  (((0 : Int) ≤ a0 ∧ Fits a0 24)) ∧ ∃ o1 : Fin ((List TCell)) ((List TCell)), Loop (cells_one.b1 a0) ((List.replicate (Int.toNat a0) (TCell.mk 0 0 0)), 0) o1 ∧ o1.on (fun x3 => r = x3) (fun r_ => r = r_)
theorem cells_one.D {a0 : Int} {r : (List TCell)} (h : cells_one.f a0 r) : D Try.prog X (.callH 71 [.val (.int .i64 a0)] [] (.rows (r.map TCell.cells)) []) := by
  unfold cells_one.f at h
  refine .enter 19 0 fn71 rfl rfl rfl ?_
  refine .seq ?_
  refine .reg0 rfl (.op 0 rfl (asV rfl) <| .nil0) ?_
  refine .seq ?_
  obtain ⟨g2_1, h⟩ := h
  refine .room 0 ?_
  refine .reg0 rfl (.op 0 rfl (mvV rfl) <| .op 0 rfl (mkS (z0 := (TCell.mk 0 0 0)) sl46 un46 ze83 rfl rfl g2_1.1 g2_1.2 rfl) <| .op 0 rfl (asO rfl) <| .nil0) ?_
  refine .seq ?_
  refine .seq ?_
  refine .reg0 rfl (.op 0 rfl (mvV rfl) <| .op 0 rfl (mvV rfl) <| .nil0) ?_
  refine .block ?_
  refine .keepL [0] [(3, .own 0 ((List.replicate (Int.toNat a0) (TCell.mk 0 0 0)).length)), (7, .val (.int .i64 a0)), (8, .val (.int .i64 0))] [⟨3, (List.replicate (Int.toNat a0) (TCell.mk 0 0 0)).map TCell.cells, 0, none⟩] (by decide) (by decide) ⟨.own rfl, .free rfl rfl, .free rfl rfl, trivial⟩ ⟨⟨_, rfl, bcRow (l := (List.replicate (Int.toNat a0) (TCell.mk 0 0 0))) sl46 (Nat.le_refl _) rfl⟩, trivial⟩ ?_
  obtain ⟨o1, hL1, h⟩ := h
  refine .loopB (cells_one.b1 a0) (fun (x1, x2) => listEnv [(3, .own 0 x1.length), (7, .val (.int .i64 a0)), (8, .val (.int .i64 x2))]) (fun (x1, x2) => [⟨3, x1.map TCell.cells, 0, none⟩]) (fun x3 => listEnv [(3, .own 0 x3.length)]) (fun x3 => [⟨3, x3.map TCell.cells, 0, none⟩]) hL1 (fun r_ => r = r_) ?_ ?_ ?_
  · rintro x3 rfl
    try dsimp only [Fin.on] at h
    refine .seq ?_
    refine .reg0 rfl (.op 0 rfl (mvO rfl) <| .op 0 rfl (asO rfl) <| .nil0) ?_
    replace h := h.symm
    subst h
    refine .keepL [] [(2, .rows (x3.map TCell.cells))] [] (by decide) (by decide) ⟨cFixO (l := x3) sl46 rfl rfl rfl rfl, trivial⟩ trivial ?_
    exact .ret rfl
  · rintro r_ rfl
    exact h
  · rintro ⟨x1, x2⟩ z1 h hn1 hx1 hr1
    dsimp only [cells_one.b1] at h
    refine .seq ?_
    refine .reg0 rfl (.op 0 rfl (ltI rfl rfl) <| .nil0) ?_
    refine .seq ?_
    by_cases c3 : x2 < a0
    · rw [if_pos c3] at h
      refine .condT rfl (decide_eq_true c3) ?_
      refine .skip ?_
      refine .seq ?_
      refine .block ?_
      refine .seq ?_
      refine .reg0 rfl (.op 0 rfl (mvV rfl) <| .op 0 rfl (asV rfl) <| .nil0) ?_
      obtain ⟨g14_3, h⟩ := h
      obtain ⟨g14_4, h⟩ := h
      refine .reg0 rfl (.op 0 rfl (mvO rfl) <| .op 0 rfl (mvV rfl) <| .op 0 rfl (mvV rfl) <| .op 0 rfl (shl_ rfl rfl g14_3) <| .op 0 rfl (ixO (l := x1) sl46 rfl rfl rfl rfl g14_4.1 g14_4.2) <| .op 0 rfl (faP fa83_0 rfl) <| .op 0 rfl (stO (l := x1) (j := x2) (cs := [.val (.int .u64 (shlI .u64 1 x2))]) (TCell.mk (shlI .u64 1 x2) ((rdl x1 x2).Kind) ((rdl x1 x2).K)) sl46 rfl rfl sz42 rfl rfl g14_4.1 g14_4.2 (Nat.zero_le _) ⟨Nat.le_of_ble_eq_true rfl, rfl⟩ rfl) <| .nil0) ?_
      refine .inBlock ?_
      refine .reg0 rfl (.op 0 rfl (addI rfl rfl) <| .op 0 rfl (mvV rfl) <| .nil0) ?_
      refine .keepL [0] [(3, .own 0 ((setl x1 x2 (TCell.mk (shlI .u64 1 x2) ((rdl x1 x2).Kind) ((rdl x1 x2).K))).length)), (7, .val (.int .i64 a0)), (8, .val (.int .i64 (IntKind.i64.wrap (x2 + 1))))] [⟨3, (setl x1 x2 (TCell.mk (shlI .u64 1 x2) ((rdl x1 x2).Kind) ((rdl x1 x2).K))).map TCell.cells, 0, none⟩] (by decide) (by decide) ⟨cOwnE rfl (by simp only [setl, List.length_set]), .free rfl rfl, .free rfl rfl, trivial⟩ ⟨⟨_, rfl, bcRow (l := (setl x1 x2 (TCell.mk (shlI .u64 1 x2) ((rdl x1 x2).Kind) ((rdl x1 x2).K)))) sl46 (Nat.le_refl _) rfl⟩, trivial⟩ ?_
      exact hn1 _ h
    · rw [if_neg c3] at h
      refine .condF rfl (decide_eq_false c3) ?_
      refine .exit rfl ?_
      refine .keepL [0] [(3, .own 0 x1.length)] [⟨3, x1.map TCell.cells, 0, none⟩] (by decide) (by decide) ⟨.own rfl, trivial⟩ ⟨⟨_, rfl, bcRow (l := x1) sl46 (Nat.le_refl _) rfl⟩, trivial⟩ ?_
      exact hx1 _ h
def cells_One.f (a0 : Int) (r : (List TCell) × Int) : Prop :=
  ∃ t2_1 : Int, (cells_dims.f a0 t2_1) ∧ if t2_1 = 0 then (∃ t4_1 : (List TCell), (cells_one.f a0 t4_1) ∧ r = (t4_1, 0)) else (r = ([], t2_1))
theorem cells_One.D {a0 : Int} {r : (List TCell) × Int} (h : cells_One.f a0 r) : D Try.prog X (.callH 54 [.val (.int .i64 a0)] [] (.tuple [.rows (r.1.map TCell.cells), .val (.int .i64 r.2)]) []) := by
  unfold cells_One.f at h
  refine .enter 12 0 fn54 rfl rfl rfl ?_
  refine .seq ?_
  refine .reg0 rfl (.op 0 rfl (asV rfl) <| .op 0 rfl (asV rfl) <| .nil0) ?_
  refine .seq ?_
  refine .seq ?_
  obtain ⟨t2_1, g2_1, h⟩ := h
  refine .reg0 rfl (.op 0 rfl (mvV rfl) <| .callI rfl (callee_of rfl go70 rfl) (.pure rfl rfl (cells_dims.D g2_1)) <| .op 0 rfl (asV rfl) <| .nil0) ?_
  refine .seq ?_
  refine .reg0 rfl (.op 0 rfl (mvV rfl) <| .op 0 rfl (neI rfl rfl) <| .nil0) ?_
  by_cases c1 : t2_1 = 0
  · rw [if_pos c1] at h
    refine .condF rfl (bne_eq_false_iff_eq.mpr c1) ?_
    refine .skip ?_
    refine .seq ?_
    obtain ⟨t4_1, g4_1, h⟩ := h
    refine .reg0 rfl (.op 0 rfl (mvV rfl) <| .callI rfl (callee_of rfl go71 rfl) (.pure rfl rfl (cells_one.D g4_1)) <| .op 0 rfl (asR rfl) <| .op 0 rfl (asV rfl) <| .nil0) ?_
    replace h := h.symm
    subst h
    refine .keepL [] [(2, .rows (t4_1.map TCell.cells)), (3, .val (.int .i64 0))] [] (by decide) (by decide) ⟨.free rfl rfl, .free rfl rfl, trivial⟩ trivial ?_
    exact .ret rfl
  · rw [if_neg c1] at h
    refine .condT rfl (bne_iff_ne.mpr c1) ?_
    refine .seq ?_
    refine .reg0 rfl (.op 0 rfl (mvV rfl) <| .op 0 rfl (asV rfl) <| .op 0 rfl (asV rfl) <| .nil0) ?_
    replace h := h.symm
    subst h
    refine .keepL [] [(2, .rows (([] : List TCell).map TCell.cells)), (3, .val (.int .i64 t2_1))] [] (by decide) (by decide) ⟨.nil, .free rfl rfl, trivial⟩ trivial ?_
    exact .ret rfl
def weight_one.step (self38 : TSpace → TWeight → Prop) (a0 : TSpace) (r : TWeight) : Prop :=
  if a0.Tag = 3 then (∃ t5_2 : TFacts × Int, (facts_One.f a0.Dim t5_2) ∧ r = (TWeight.mk false 0 t5_2.1 [] [])) else (if a0.Tag = 4 then (∃ t8_2 : (List TCell) × Int, (cells_One.f a0.Dim t8_2) ∧ r = (TWeight.mk false 0 (TFacts.mk 0 []) t8_2.1 [])) else (if a0.Tag = 5 then (((InR 0 a0.Parts.length)) ∧ ∃ t11_4 : TWeight, (self38 (rdl a0.Parts 0) t11_4) ∧ ((InR 1 a0.Parts.length)) ∧ ∃ t11_9 : TWeight, (self38 (rdl a0.Parts 1) t11_9) ∧ r = (TWeight.mk false 0 (TFacts.mk 0 []) [] [t11_4, t11_9])) else (r = (TWeight.mk false 0 (TFacts.mk 0 []) [] []))))
theorem weight_one.stepD {self38 : TSpace → TWeight → Prop} {a0 : TSpace} (hs38 : ∀ z0_ r_, self38 z0_ r_ → D Try.prog X (.callH 38 [.agg (TSpace.lit z0_)] [] (.agg (TWeight.lit r_)) [])) {r : TWeight} (h : weight_one.step self38 a0 r) : D Try.prog X (.callH 38 [.agg (TSpace.lit a0)] [] (.agg (TWeight.lit r)) []) := by
  unfold weight_one.step at h
  refine .enter 39 0 fn38 rfl rfl rfl ?_
  refine .seq ?_
  refine .room 0 ?_
  refine .room 0 ?_
  refine .reg0 rfl (.op 0 rfl (bxP (s := 3) (cs := (TSpace.lit a0)) rfl ⟨rfl, by decide, rfl⟩ rfl) <| .op 1 rfl (alP (s := 6) ze49 ⟨rfl, by decide, rfl⟩ rfl) <| .nil0) ?_
  refine .seq ?_
  refine .room 0 ?_
  refine .reg0 rfl (.op 2 rfl (alP (s := 6) ze49 ⟨rfl, by decide, rfl⟩ rfl) <| .nil0) ?_
  refine .seq ?_
  refine .seq ?_
  refine .reg0 rfl (.op 0 rfl (faP fa25_0 rfl) <| .op 0 rfl (ldP rfl sz22 ag22 rfl) <| .nil0) ?_
  refine .block ?_
  refine .seq ?_
  refine .reg0 rfl (.op 0 rfl (eqI rfl rfl) <| .op 0 rfl (asV rfl) <| .nil0) ?_
  by_cases c1 : a0.Tag = 3
  · rw [if_pos c1] at h
    refine .condT rfl (beq_iff_eq.mpr c1) ?_
    obtain ⟨t5_2, g5_2, h⟩ := h
    refine .reg0 rfl (.op 0 rfl (faP fa25_1 rfl) <| .op 0 rfl (ldP rfl sz3 ag3 rfl) <| .callI rfl (callee_of rfl go53 rfl) (.pure rfl rfl (facts_One.D g5_2)) <| .op 0 rfl (mvT rfl) <| .op 0 rfl (exT rfl rfl) <| .op 0 rfl (exT rfl rfl) <| .op 0 rfl (faP fa49_2 rfl) <| .op 0 rfl (stB (cs0 := [.val (.bool false), .val (.int .i64 0), .val (.int .u64 0), .val (.slice none 0 0), .val (.slice none 0 0), .val (.slice none 0 0)]) (cs := (TFacts.lit t5_2.1)) (cs1 := [.val (.bool false), .val (.int .i64 0), .val (.int .u64 t5_2.1.Gen), .rows (t5_2.1.Rows.map (cInt .u64)), .val (.slice none 0 0), .val (.slice none 0 0)]) rfl rfl sz45 rfl ⟨Nat.le_of_ble_eq_true rfl, rfl⟩ rfl) <| .nil0) ?_
    refine .inBlock ?_
    refine .seq ?_
    refine .reg0 rfl (.op 0 rfl (ldG rfl sz49 ag49 rfl) <| .op 0 rfl (stB (cs0 := [.val (.bool false), .val (.int .i64 0), .val (.int .u64 0), .val (.slice none 0 0), .val (.slice none 0 0), .val (.slice none 0 0)]) (cs := [.val (.bool false), .val (.int .i64 0), .val (.int .u64 t5_2.1.Gen), .rows (t5_2.1.Rows.map (cInt .u64)), .val (.slice none 0 0), .val (.slice none 0 0)]) (cs1 := [.val (.bool false), .val (.int .i64 0), .val (.int .u64 t5_2.1.Gen), .rows (t5_2.1.Rows.map (cInt .u64)), .val (.slice none 0 0), .val (.slice none 0 0)]) rfl rfl sz49 rfl ⟨Nat.le_of_ble_eq_true rfl, rfl⟩ rfl) <| .nil0) ?_
    replace h := h.symm
    subst h
    refine .keepL [] [(2, .cptr [.val (.bool false), .val (.int .i64 0), .val (.int .u64 t5_2.1.Gen), .rows (t5_2.1.Rows.map (cInt .u64)), .rows (([] : List TCell).map TCell.cells), .rows (([] : List TWeight).map TWeight.cells)] 0)] [] (by decide) (by decide) ⟨cFixP rfl rfl (.cons (.free rfl rfl) <| .cons (.free rfl rfl) <| .cons (.free rfl rfl) <| .cons (.free rfl rfl) <| .cons (.nil) <| .cons (.nil) <| .nil), trivial⟩ trivial ?_
    exact .ret rfl
  · rw [if_neg c1] at h
    refine .condF rfl (beq_eq_false_iff_ne.mpr c1) ?_
    refine .seq ?_
    refine .reg0 rfl (.op 0 rfl (eqI rfl rfl) <| .op 0 rfl (asV rfl) <| .nil0) ?_
    by_cases c2 : a0.Tag = 4
    · rw [if_pos c2] at h
      refine .condT rfl (beq_iff_eq.mpr c2) ?_
      obtain ⟨t8_2, g8_2, h⟩ := h
      refine .reg0 rfl (.op 0 rfl (faP fa25_1 rfl) <| .op 0 rfl (ldP rfl sz3 ag3 rfl) <| .callI rfl (callee_of rfl go54 rfl) (.pure rfl rfl (cells_One.D g8_2)) <| .op 0 rfl (mvT rfl) <| .op 0 rfl (exT rfl rfl) <| .op 0 rfl (exT rfl rfl) <| .op 0 rfl (faP fa49_3 rfl) <| .op 0 rfl (stB (cs0 := [.val (.bool false), .val (.int .i64 0), .val (.int .u64 0), .val (.slice none 0 0), .val (.slice none 0 0), .val (.slice none 0 0)]) (cs := [.rows (t8_2.1.map TCell.cells)]) (cs1 := [.val (.bool false), .val (.int .i64 0), .val (.int .u64 0), .val (.slice none 0 0), .rows (t8_2.1.map TCell.cells), .val (.slice none 0 0)]) rfl rfl sz46 rfl ⟨Nat.le_of_ble_eq_true rfl, rfl⟩ rfl) <| .nil0) ?_
      refine .inBlock ?_
      refine .seq ?_
      refine .reg0 rfl (.op 0 rfl (ldG rfl sz49 ag49 rfl) <| .op 0 rfl (stB (cs0 := [.val (.bool false), .val (.int .i64 0), .val (.int .u64 0), .val (.slice none 0 0), .val (.slice none 0 0), .val (.slice none 0 0)]) (cs := [.val (.bool false), .val (.int .i64 0), .val (.int .u64 0), .val (.slice none 0 0), .rows (t8_2.1.map TCell.cells), .val (.slice none 0 0)]) (cs1 := [.val (.bool false), .val (.int .i64 0), .val (.int .u64 0), .val (.slice none 0 0), .rows (t8_2.1.map TCell.cells), .val (.slice none 0 0)]) rfl rfl sz49 rfl ⟨Nat.le_of_ble_eq_true rfl, rfl⟩ rfl) <| .nil0) ?_
      replace h := h.symm
      subst h
      refine .keepL [] [(2, .cptr [.val (.bool false), .val (.int .i64 0), .val (.int .u64 0), .rows (([] : List Int).map (cInt .u64)), .rows (t8_2.1.map TCell.cells), .rows (([] : List TWeight).map TWeight.cells)] 0)] [] (by decide) (by decide) ⟨cFixP rfl rfl (.cons (.free rfl rfl) <| .cons (.free rfl rfl) <| .cons (.free rfl rfl) <| .cons (.nil) <| .cons (.free rfl rfl) <| .cons (.nil) <| .nil), trivial⟩ trivial ?_
      exact .ret rfl
    · rw [if_neg c2] at h
      refine .condF rfl (beq_eq_false_iff_ne.mpr c2) ?_
      refine .seq ?_
      refine .reg0 rfl (.op 0 rfl (eqI rfl rfl) <| .op 0 rfl (asV rfl) <| .nil0) ?_
      by_cases c3 : a0.Tag = 5
      · rw [if_pos c3] at h
        refine .condT rfl (beq_iff_eq.mpr c3) ?_
        obtain ⟨g11_2, h⟩ := h
        obtain ⟨t11_4, g11_4, h⟩ := h
        obtain ⟨g11_7, h⟩ := h
        obtain ⟨t11_9, g11_9, h⟩ := h
        refine .room 0 ?_
        refine .reg1 (e1 := listEnv [(2, .ptr 1 1 6 0 0), (3, .ptr 2 1 6 0 0)]) (H1 := [⟨3, [(TSpace.lit a0)], 0, none⟩, ⟨6, [[.val (.bool false), .val (.int .i64 0), .val (.int .u64 0), .val (.slice none 0 0), .val (.slice none 0 0), .val (.slice none 0 0)]], 0, none⟩, ⟨6, [[.val (.bool false), .val (.int .i64 0), .val (.int .u64 0), .val (.slice none 0 0), .val (.slice none 0 0), .own 3 ([t11_4, t11_9].length)]], 0, none⟩, ⟨6, [t11_4, t11_9].map TWeight.cells, 0, none⟩]) rfl ?_ ?_
        · exact .drawM [(11, 37, .ptr 2 1 6 0 5), (10, 36, .own 3 ([t11_4, t11_9].length)), (9, 35, .agg (TWeight.lit t11_9)), (8, 34, .agg (TSpace.lit (rdl a0.Parts 1))), (7, 33, .cptr (TSpace.lit (rdl a0.Parts 1)) 0), (6, 32, .rows (a0.Parts.map TSpace.cells)), (5, 31, .ptr 0 1 3 0 2), (4, 30, .agg (TWeight.lit t11_4)), (3, 29, .agg (TSpace.lit (rdl a0.Parts 0))), (2, 28, .cptr (TSpace.lit (rdl a0.Parts 0)) 0), (1, 27, .rows (a0.Parts.map TSpace.cells)), (0, 26, .ptr 0 1 3 0 2)] [(12, 2, ⟨6, [[.val (.bool false), .val (.int .i64 0), .val (.int .u64 0), .val (.slice none 0 0), .val (.slice none 0 0), .own 3 ([t11_4, t11_9].length)]], 0, none⟩), (10, 3, ⟨6, [t11_4, t11_9].map TWeight.cells, 0, none⟩)] [[], [0], [1, 0], [2, 1, 0], [3, 2, 1, 0], [], [5], [6, 5], [7, 6, 5], [8, 7, 6, 5, 4, 3, 2, 1, 0], [4, 3, 2, 1, 0, 9, 8, 7, 6, 5], [0, 1, 2, 3, 4, 5, 6, 7, 8, 9, 10], [11, 0, 1, 2, 3, 4, 5, 6, 7, 8, 9, 10]] (by rfl) (by rfl) (by rfl) (by exact ⟨fun S hS hD hn => .one 0 hS hD hn rfl rfl (faP fa25_2 rfl) rfl rfl rfl, fun S hS hD hn => .one 0 hS hD hn rfl rfl (ldP rfl sz23 ag23 rfl) rfl rfl rfl, fun S hS hD hn => .one 0 hS hD hn rfl rfl (ixR (l := a0.Parts) (lit := TSpace.lit) sl23 rfl rfl TSpace.cells_lit g11_2.1 g11_2.2) rfl rfl rfl, fun S hS hD hn => .one 0 hS hD hn rfl rfl (ldCG rfl sz25 ag25 rfl) rfl rfl rfl, fun S hS hD hn => .oneI hS hD hn rfl rfl (callee_of rfl go38 rfl) (.pure rfl rfl (hs38 _ _ g11_4)) rfl rfl rfl, fun S hS hD hn => .one 0 hS hD hn rfl rfl (faP fa25_2 rfl) rfl rfl rfl, fun S hS hD hn => .one 0 hS hD hn rfl rfl (ldP rfl sz23 ag23 rfl) rfl rfl rfl, fun S hS hD hn => .one 0 hS hD hn rfl rfl (ixR (l := a0.Parts) (lit := TSpace.lit) sl23 rfl rfl TSpace.cells_lit g11_7.1 g11_7.2) rfl rfl rfl, fun S hS hD hn => .one 0 hS hD hn rfl rfl (ldCG rfl sz25 ag25 rfl) rfl rfl rfl, fun S hS hD hn => .oneI hS hD hn rfl rfl (callee_of rfl go38 rfl) (.pure rfl rfl (hs38 _ _ g11_9)) rfl rfl rfl, fun S hS hD hn => .one 3 hS hD hn rfl rfl (bldT (s := 6) (cs := [.val (.bool t11_4.Zero), .val (.int .i64 t11_4.Cost), .val (.int .u64 t11_4.Facts.Gen), .rows (t11_4.Facts.Rows.map (cInt .u64)), .rows (t11_4.Cells.map TCell.cells), .rows (t11_4.Parts.map TWeight.cells), .val (.bool t11_9.Zero), .val (.int .i64 t11_9.Cost), .val (.int .u64 t11_9.Facts.Gen), .rows (t11_9.Facts.Rows.map (cInt .u64)), .rows (t11_9.Cells.map TCell.cells), .rows (t11_9.Parts.map TWeight.cells)]) (cf := TWeight.cells) [t11_4, t11_9] un47 sz49 ze49 ⟨by decide, rfl, by decide⟩ rfl rfl rfl (by simp only [List.map, TWeight.cells_lit]; rfl) rfl) rfl rfl rfl, fun S hS hD hn => .one 0 hS hD hn rfl rfl (faP fa49_4 rfl) rfl rfl rfl, fun S hS hD hn => .one0 0 rfl rfl (stB (cs0 := [.val (.bool false), .val (.int .i64 0), .val (.int .u64 0), .val (.slice none 0 0), .val (.slice none 0 0), .val (.slice none 0 0)]) (cs := [.own 3 ([t11_4, t11_9].length)]) (cs1 := [.val (.bool false), .val (.int .i64 0), .val (.int .u64 0), .val (.slice none 0 0), .val (.slice none 0 0), .own 3 ([t11_4, t11_9].length)]) rfl rfl sz47 rfl ⟨Nat.le_of_ble_eq_true rfl, rfl⟩ rfl) (drawE_other _ _ _ _ rfl) rfl, trivial⟩) _ (by exact ⟨.ptr rfl, .ptr rfl, trivial⟩) (by rfl)
        refine .inBlock ?_
        refine .seq ?_
        refine .reg0 rfl (.op 0 rfl (ldG rfl sz49 ag49 rfl) <| .op 0 rfl (stB (cs0 := [.val (.bool false), .val (.int .i64 0), .val (.int .u64 0), .val (.slice none 0 0), .val (.slice none 0 0), .val (.slice none 0 0)]) (cs := [.val (.bool false), .val (.int .i64 0), .val (.int .u64 0), .val (.slice none 0 0), .val (.slice none 0 0), .own 3 ([t11_4, t11_9].length)]) (cs1 := [.val (.bool false), .val (.int .i64 0), .val (.int .u64 0), .val (.slice none 0 0), .val (.slice none 0 0), .own 3 ([t11_4, t11_9].length)]) rfl rfl sz49 rfl ⟨Nat.le_of_ble_eq_true rfl, rfl⟩ rfl) <| .nil0) ?_
        replace h := h.symm
        subst h
        refine .keepL [] [(2, .cptr [.val (.bool false), .val (.int .i64 0), .val (.int .u64 0), .rows (([] : List Int).map (cInt .u64)), .rows (([] : List TCell).map TCell.cells), .rows ([t11_4, t11_9].map TWeight.cells)] 0)] [] (by decide) (by decide) ⟨cFixP rfl rfl (.cons (.free rfl rfl) <| .cons (.free rfl rfl) <| .cons (.free rfl rfl) <| .cons (.nil) <| .cons (.nil) <| .cons (cFixO (l := [t11_4, t11_9]) sl47 rfl rfl rfl rfl) <| .nil), trivial⟩ trivial ?_
        exact .ret rfl
      · rw [if_neg c3] at h
        refine .condF rfl (beq_eq_false_iff_ne.mpr c3) ?_
        refine .skip ?_
        refine .inBlock ?_
        refine .seq ?_
        refine .reg0 rfl (.op 0 rfl (ldG rfl sz49 ag49 rfl) <| .op 0 rfl (stB (cs0 := [.val (.bool false), .val (.int .i64 0), .val (.int .u64 0), .val (.slice none 0 0), .val (.slice none 0 0), .val (.slice none 0 0)]) (cs := [.val (.bool false), .val (.int .i64 0), .val (.int .u64 0), .val (.slice none 0 0), .val (.slice none 0 0), .val (.slice none 0 0)]) (cs1 := [.val (.bool false), .val (.int .i64 0), .val (.int .u64 0), .val (.slice none 0 0), .val (.slice none 0 0), .val (.slice none 0 0)]) rfl rfl sz49 rfl ⟨Nat.le_of_ble_eq_true rfl, rfl⟩ rfl) <| .nil0) ?_
        replace h := h.symm
        subst h
        refine .keepL [] [(2, .cptr [.val (.bool false), .val (.int .i64 0), .val (.int .u64 0), .rows (([] : List Int).map (cInt .u64)), .rows (([] : List TCell).map TCell.cells), .rows (([] : List TWeight).map TWeight.cells)] 0)] [] (by decide) (by decide) ⟨cFixP rfl rfl (.cons (.free rfl rfl) <| .cons (.free rfl rfl) <| .cons (.free rfl rfl) <| .cons (.nil) <| .cons (.nil) <| .cons (.nil) <| .nil), trivial⟩ trivial ?_
        exact .ret rfl
def weight_one.fN : Nat → TSpace → TWeight → Prop
  | 0 => fun _ _ => False
  | n + 1 => weight_one.step (weight_one.fN n)
theorem weight_one.ND : ∀ (n : Nat) {a0 : TSpace} {r : TWeight} (h : weight_one.fN n a0 r), D Try.prog X (.callH 38 [.agg (TSpace.lit a0)] [] (.agg (TWeight.lit r)) [])
  | 0, _, _, h => h.elim
  | n + 1, _, _, h => weight_one.stepD (fun _ _ h => weight_one.ND n h) h
def weight_one.f (a0 : TSpace) (r : TWeight) : Prop := ∃ n, weight_one.fN n a0 r
theorem weight_one.D {a0 : TSpace} {r : TWeight} (h : weight_one.f a0 r) : D Try.prog X (.callH 38 [.agg (TSpace.lit a0)] [] (.agg (TWeight.lit r)) []) := by obtain ⟨n, h⟩ := h; exact weight_one.ND n h
end Go.RM.Try
