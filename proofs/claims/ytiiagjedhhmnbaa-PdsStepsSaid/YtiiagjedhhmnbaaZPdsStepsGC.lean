/- GC, for the statement PdsSteps: what it needs, no more. -/
import Derived.Test.YtiiagjedhhmnbaaZPdsStepsGB
set_option linter.unusedVariables false
set_option maxRecDepth 8000
set_option maxHeartbeats 4000000
namespace Go.RM.Try
open Go.RM Go.Proofs
variable {X : FuncId → List PV → Heap → PV → Heap → Prop}
def l11_small.b1 (self18 : TWeight → Int → Bool → Prop) (a0 : TWeight) (a1 : Int) : Int → Rnd Int Unit Bool → Prop := fun x1 z1 => if x1 < (a0.Parts.length : Int) then (((InR x1 a0.Parts.length)) ∧ ∃ t14_7 : Bool, (self18 (rdl a0.Parts x1) (IntKind.i64.wrap (a1 + 1)) t14_7) ∧ if t14_7 = true then (z1 = .next (IntKind.i64.wrap (x1 + 1))) else (z1 = .ret false)) else (z1 = .exit ())
def l11_small.step (self18 : TWeight → Int → Bool → Prop) (a0 : TWeight) (a1 : Int) (r : Bool) : Prop :=
  if ((decide ((a0.Facts.Rows.length : Int) > 70)) || ((decide ((a0.Cells.length : Int) > 70)) || ((decide ((a0.Parts.length : Int) > 3)) || (decide (a1 > 3))))) = true then (r = false) else (∃ o1 : Fin Unit Bool, Loop (l11_small.b1 self18 a0 a1) 0 o1 ∧ o1.on (fun _ => r = true) (fun r_ => r = r_))
theorem l11_small.stepD {self18 : TWeight → Int → Bool → Prop} {a0 : TWeight} {a1 : Int} (hs18 : ∀ z0_ z1_ r_, self18 z0_ z1_ r_ → D Try.prog X (.callH 18 [.agg (TWeight.lit z0_), .val (.int .i64 z1_)] [] (.val (.bool r_)) [])) {r : Bool} (h : l11_small.step self18 a0 a1 r) : D Try.prog X (.callH 18 [.agg (TWeight.lit a0), .val (.int .i64 a1)] [] (.val (.bool r)) []) := by
  unfold l11_small.step at h
  refine .enter 43 0 fn18 rfl rfl rfl ?_
  refine .seq ?_
  refine .room 0 ?_
  refine .reg0 rfl (.op 0 rfl (bxP (s := 6) (cs := (TWeight.lit a0)) rfl ⟨rfl, by decide, rfl⟩ rfl) <| .op 0 rfl (asV rfl) <| .nil0) ?_
  refine .seq ?_
  refine .seq ?_
  refine .reg0 (e1 := listEnv [(1, .val (.int .i64 a1)), (2, .ptr 0 1 6 0 0), (26, .val (.bool ((decide ((a0.Facts.Rows.length : Int) > 70)) || ((decide ((a0.Cells.length : Int) > 70)) || ((decide ((a0.Parts.length : Int) > 3)) || (decide (a1 > 3)))))))]) (H1 := [⟨6, [(TWeight.lit a0)], 0, none⟩]) rfl ?_ ?_
  · by_cases c1 : (a0.Facts.Rows.length : Int) > 70
    · exact (.op 0 rfl (faP fa49_2 rfl) <| .op 0 rfl (faP fa45_1 rfl) <| .op 0 rfl (ldP rfl sz43 ag43 rfl) <| .op 0 rfl (lnR (l := a0.Facts.Rows) sl43 rfl) <| .op 0 rfl (gtI rfl rfl) <| .op 0 rfl (mvV rfl) <| .no (gF rfl rfl rfl (decide_eq_true c1)) <| .no (gF rfl rfl rfl (decide_eq_true c1)) <| .no (gF rfl rfl rfl (decide_eq_true c1)) <| .no (gF rfl rfl rfl (decide_eq_true c1)) <| .op 0 rfl (pkTV rfl (decide_eq_true c1) rfl) <| .op 0 rfl (mvV rfl) <| .no (gF rfl rfl rfl rfl) <| .no (gF rfl rfl rfl rfl) <| .no (gF rfl rfl rfl rfl) <| .no (gF rfl rfl rfl rfl) <| .op 0 rfl (pkTV rfl rfl rfl) <| .op 0 rfl (mvV rfl) <| .no (gF rfl rfl rfl rfl) <| .no (gF rfl rfl rfl rfl) <| .op 0 rfl (pkTV rfl rfl rfl) <| .nilL _ ⟨.free rfl rfl, .ptr rfl, cB rfl (mOrT (decide_eq_true c1)), trivial⟩)
    · by_cases c2 : (a0.Cells.length : Int) > 70
      · exact (.op 0 rfl (faP fa49_2 rfl) <| .op 0 rfl (faP fa45_1 rfl) <| .op 0 rfl (ldP rfl sz43 ag43 rfl) <| .op 0 rfl (lnR (l := a0.Facts.Rows) sl43 rfl) <| .op 0 rfl (gtI rfl rfl) <| .op 0 rfl (mvV rfl) <| .op 0 (gT rfl rfl rfl (decide_eq_false c1)) (faP fa49_3 rfl) <| .op 0 (gT rfl rfl rfl (decide_eq_false c1)) (ldP rfl sz46 ag46 rfl) <| .op 0 (gT rfl rfl rfl (decide_eq_false c1)) (lnR (l := a0.Cells) sl46 rfl) <| .op 0 (gT rfl rfl rfl (decide_eq_false c1)) (gtI rfl rfl) <| .op 0 rfl (pkFV rfl (decide_eq_false c1) rfl) <| .op 0 rfl (mvV rfl) <| .no (gF rfl rfl rfl (decide_eq_true c2)) <| .no (gF rfl rfl rfl (decide_eq_true c2)) <| .no (gF rfl rfl rfl (decide_eq_true c2)) <| .no (gF rfl rfl rfl (decide_eq_true c2)) <| .op 0 rfl (pkTV rfl (decide_eq_true c2) rfl) <| .op 0 rfl (mvV rfl) <| .no (gF rfl rfl rfl rfl) <| .no (gF rfl rfl rfl rfl) <| .op 0 rfl (pkTV rfl rfl rfl) <| .nilL _ ⟨.free rfl rfl, .ptr rfl, cB rfl (mOrF (decide_eq_false c1) (mOrT (decide_eq_true c2))), trivial⟩)
      · by_cases c3 : (a0.Parts.length : Int) > 3
        · exact (.op 0 rfl (faP fa49_2 rfl) <| .op 0 rfl (faP fa45_1 rfl) <| .op 0 rfl (ldP rfl sz43 ag43 rfl) <| .op 0 rfl (lnR (l := a0.Facts.Rows) sl43 rfl) <| .op 0 rfl (gtI rfl rfl) <| .op 0 rfl (mvV rfl) <| .op 0 (gT rfl rfl rfl (decide_eq_false c1)) (faP fa49_3 rfl) <| .op 0 (gT rfl rfl rfl (decide_eq_false c1)) (ldP rfl sz46 ag46 rfl) <| .op 0 (gT rfl rfl rfl (decide_eq_false c1)) (lnR (l := a0.Cells) sl46 rfl) <| .op 0 (gT rfl rfl rfl (decide_eq_false c1)) (gtI rfl rfl) <| .op 0 rfl (pkFV rfl (decide_eq_false c1) rfl) <| .op 0 rfl (mvV rfl) <| .op 0 (gT rfl rfl rfl (decide_eq_false c2)) (faP fa49_4 rfl) <| .op 0 (gT rfl rfl rfl (decide_eq_false c2)) (ldP rfl sz47 ag47 rfl) <| .op 0 (gT rfl rfl rfl (decide_eq_false c2)) (lnR (l := a0.Parts) sl47 rfl) <| .op 0 (gT rfl rfl rfl (decide_eq_false c2)) (gtI rfl rfl) <| .op 0 rfl (pkFV rfl (decide_eq_false c2) rfl) <| .op 0 rfl (mvV rfl) <| .no (gF rfl rfl rfl (decide_eq_true c3)) <| .no (gF rfl rfl rfl (decide_eq_true c3)) <| .op 0 rfl (pkTV rfl (decide_eq_true c3) rfl) <| .nilL _ ⟨.free rfl rfl, .ptr rfl, cB rfl (mOrF (decide_eq_false c1) (mOrF (decide_eq_false c2) (mOrT (decide_eq_true c3)))), trivial⟩)
        · exact (.op 0 rfl (faP fa49_2 rfl) <| .op 0 rfl (faP fa45_1 rfl) <| .op 0 rfl (ldP rfl sz43 ag43 rfl) <| .op 0 rfl (lnR (l := a0.Facts.Rows) sl43 rfl) <| .op 0 rfl (gtI rfl rfl) <| .op 0 rfl (mvV rfl) <| .op 0 (gT rfl rfl rfl (decide_eq_false c1)) (faP fa49_3 rfl) <| .op 0 (gT rfl rfl rfl (decide_eq_false c1)) (ldP rfl sz46 ag46 rfl) <| .op 0 (gT rfl rfl rfl (decide_eq_false c1)) (lnR (l := a0.Cells) sl46 rfl) <| .op 0 (gT rfl rfl rfl (decide_eq_false c1)) (gtI rfl rfl) <| .op 0 rfl (pkFV rfl (decide_eq_false c1) rfl) <| .op 0 rfl (mvV rfl) <| .op 0 (gT rfl rfl rfl (decide_eq_false c2)) (faP fa49_4 rfl) <| .op 0 (gT rfl rfl rfl (decide_eq_false c2)) (ldP rfl sz47 ag47 rfl) <| .op 0 (gT rfl rfl rfl (decide_eq_false c2)) (lnR (l := a0.Parts) sl47 rfl) <| .op 0 (gT rfl rfl rfl (decide_eq_false c2)) (gtI rfl rfl) <| .op 0 rfl (pkFV rfl (decide_eq_false c2) rfl) <| .op 0 rfl (mvV rfl) <| .op 0 (gT rfl rfl rfl (decide_eq_false c3)) (mvV rfl) <| .op 0 (gT rfl rfl rfl (decide_eq_false c3)) (gtI rfl rfl) <| .op 0 rfl (pkFV rfl (decide_eq_false c3) rfl) <| .nilL _ ⟨.free rfl rfl, .ptr rfl, cB rfl (mOrF (decide_eq_false c1) (mOrF (decide_eq_false c2) (mOrF (decide_eq_false c3) rfl))), trivial⟩)
  by_cases c4 : ((decide ((a0.Facts.Rows.length : Int) > 70)) || ((decide ((a0.Cells.length : Int) > 70)) || ((decide ((a0.Parts.length : Int) > 3)) || (decide (a1 > 3))))) = true
  · rw [if_pos c4] at h
    refine .condT rfl c4 ?_
    refine .seq ?_
    refine .reg0 rfl (.op 0 rfl (asV rfl) <| .nil0) ?_
    replace h := h.symm
    subst h
    refine .keepL [] [(4, .val (.bool false))] [] (by decide) (by decide) ⟨.free rfl rfl, trivial⟩ trivial ?_
    exact .ret rfl
  · rw [if_neg c4] at h
    refine .condF rfl (Bool.eq_false_iff.mpr c4) ?_
    refine .skip ?_
    refine .seq ?_
    refine .seq ?_
    refine .reg0 rfl (.op 0 rfl (asV rfl) <| .nil0) ?_
    refine .block ?_
    refine .keepL [0] [(1, .val (.int .i64 a1)), (2, .ptr 0 1 6 0 0), (5, .val (.int .i64 0))] [⟨6, [(TWeight.lit a0)], 0, none⟩] (by decide) (by decide) ⟨.free rfl rfl, .ptr rfl, .free rfl rfl, trivial⟩ ⟨⟨_, rfl, bcBox (all2_free rfl)⟩, trivial⟩ ?_
    obtain ⟨o1, hL1, h⟩ := h
    refine .loopB (l11_small.b1 self18 a0 a1) (fun x1 => listEnv [(1, .val (.int .i64 a1)), (2, .ptr 0 1 6 0 0), (5, .val (.int .i64 x1))]) (fun x1 => [⟨6, [(TWeight.lit a0)], 0, none⟩]) (fun _ => listEnv []) (fun _ => []) hL1 (fun r_ => r = r_) ?_ ?_ ?_
    · rintro ⟨⟩ rfl
      try dsimp only [Fin.on] at h
      refine .seq ?_
      refine .reg0 rfl (.op 0 rfl (asV rfl) <| .nil0) ?_
      replace h := h.symm
      subst h
      refine .keepL [] [(4, .val (.bool true))] [] (by decide) (by decide) ⟨.free rfl rfl, trivial⟩ trivial ?_
      exact .ret rfl
    · rintro r_ rfl
      exact h
    · rintro x1 z1 h hn1 hx1 hr1
      dsimp only [l11_small.b1] at h
      refine .seq ?_
      refine .seq ?_
      refine .reg0 rfl (.op 0 rfl (mvV rfl) <| .op 0 rfl (faP fa49_4 rfl) <| .op 0 rfl (ldP rfl sz47 ag47 rfl) <| .op 0 rfl (lnR (l := a0.Parts) sl47 rfl) <| .op 0 rfl (ltI rfl rfl) <| .nil0) ?_
      by_cases c9 : x1 < (a0.Parts.length : Int)
      · rw [if_pos c9] at h
        refine .condT rfl (decide_eq_true c9) ?_
        refine .skip ?_
        refine .seq ?_
        refine .block ?_
        refine .seq ?_
        obtain ⟨g14_3, h⟩ := h
        obtain ⟨t14_7, g14_7, h⟩ := h
        refine .reg0 rfl (.op 0 rfl (faP fa49_4 rfl) <| .op 0 rfl (ldP rfl sz47 ag47 rfl) <| .op 0 rfl (mvV rfl) <| .op 0 rfl (ixR (l := a0.Parts) (lit := TWeight.lit) sl47 rfl rfl TWeight.cells_lit g14_3.1 g14_3.2) <| .op 0 rfl (ldCG rfl sz49 ag49 rfl) <| .op 0 rfl (mvV rfl) <| .op 0 rfl (addI rfl rfl) <| .callI rfl (callee_of rfl go18 rfl) (.pure rfl rfl (hs18 _ _ _ g14_7)) <| .op 0 rfl (notB rfl) <| .nil0) ?_
        by_cases c10 : t14_7 = true
        · rw [if_pos c10] at h
          refine .condF rfl (bnotF c10) ?_
          refine .skip ?_
          refine .inBlock ?_
          refine .reg0 rfl (.op 0 rfl (mvV rfl) <| .op 0 rfl (addI rfl rfl) <| .op 0 rfl (asV rfl) <| .nil0) ?_
          refine .keepL [0] [(1, .val (.int .i64 a1)), (2, .ptr 0 1 6 0 0), (5, .val (.int .i64 (IntKind.i64.wrap (x1 + 1))))] [⟨6, [(TWeight.lit a0)], 0, none⟩] (by decide) (by decide) ⟨.free rfl rfl, .ptr rfl, .free rfl rfl, trivial⟩ ⟨⟨_, rfl, bcBox (all2_free rfl)⟩, trivial⟩ ?_
          exact hn1 _ h
        · rw [if_neg c10] at h
          refine .condT rfl (bnotT (Bool.eq_false_iff.mpr c10)) ?_
          refine .seq ?_
          refine .reg0 rfl (.op 0 rfl (asV rfl) <| .nil0) ?_
          have q3 := hr1 _ h
          replace q3 := q3.symm
          subst q3
          refine .keepL [] [(4, .val (.bool false))] [] (by decide) (by decide) ⟨.free rfl rfl, trivial⟩ trivial ?_
          exact .ret rfl
      · rw [if_neg c9] at h
        refine .condF rfl (decide_eq_false c9) ?_
        refine .exit rfl ?_
        refine .keepL [] [] [] (by decide) (by decide) trivial trivial ?_
        exact hx1 _ h
def l11_small.fN : Nat → TWeight → Int → Bool → Prop
  | 0 => fun _ _ _ => False
  | n + 1 => l11_small.step (l11_small.fN n)
theorem l11_small.ND : ∀ (n : Nat) {a0 : TWeight} {a1 : Int} {r : Bool} (h : l11_small.fN n a0 a1 r), D Try.prog X (.callH 18 [.agg (TWeight.lit a0), .val (.int .i64 a1)] [] (.val (.bool r)) [])
  | 0, _, _, _, h => h.elim
  | n + 1, _, _, _, h => l11_small.stepD (fun _ _ _ h => l11_small.ND n h) h
def l11_small.f (a0 : TWeight) (a1 : Int) (r : Bool) : Prop := ∃ n, l11_small.fN n a0 a1 r
theorem l11_small.D {a0 : TWeight} {a1 : Int} {r : Bool} (h : l11_small.f a0 a1 r) : D Try.prog X (.callH 18 [.agg (TWeight.lit a0), .val (.int .i64 a1)] [] (.val (.bool r)) []) := by obtain ⟨n, h⟩ := h; exact l11_small.ND n h
def l11_cut.j2 (x7 : Int) : (List TRule) → (Rnd (((List TRule) × Int)) ((List TRule)) TPds) → Prop := fun x16 z1 => z1 = .next (x16, (IntKind.i64.wrap (x7 + 1)))
def l11_cut.j1 (a0 : TPds) (x6 : List TRule) (x7 : Int) : (List Int) → (Rnd (((List TRule) × Int)) ((List TRule)) TPds) → Prop := fun x15 z1 => ∃ t47_2 : Bool, (l11_small.f ((rdl a0.Rules x7).F) 0 t47_2) ∧ if t47_2 = true then (((Fits (x6.length + 1) 144)) ∧ l11_cut.j2 x7 (x6 ++ [(TRule.mk ((rdl a0.Rules x7).P) ((rdl a0.Rules x7).G) ((rdl a0.Rules x7).Q) x15 ((rdl a0.Rules x7).F))]) z1) else (l11_cut.j2 x7 x6 z1)
def l11_cut.b1 (a0 : TPds) : ((List TRule) × Int) → Rnd (((List TRule) × Int)) ((List TRule)) TPds → Prop := fun (x6, x7) z1 => if ((decide (x7 < (a0.Rules.length : Int))) && (decide ((x6.length : Int) < 40))) = true then (((InR x7 a0.Rules.length)) ∧ if ((rdl a0.Rules x7).W.length : Int) > 40 then (((Cut 0 40 ((rdl a0.Rules x7).W.length))) ∧ l11_cut.j1 a0 x6 x7 (cutl (rdl a0.Rules x7).W 0 40) z1) else (l11_cut.j1 a0 x6 x7 ((rdl a0.Rules x7).W) z1)) else (z1 = .exit x6)
def l11_cut.j4 (x21 : Int) : (List TSpace) → (Rnd (((List TSpace) × Int)) ((List TSpace)) TPds) → Prop := fun x26 z2 => z2 = .next (x26, (IntKind.i64.wrap (x21 + 1)))
def l11_cut.b2 : ((List TSpace) × Int) → Rnd (((List TSpace) × Int)) ((List TSpace)) TPds → Prop := fun (x20, x21) z2 => if x21 < (x20.length : Int) then (((InR x21 x20.length)) ∧ if ((rdl x20 x21).Parts.length : Int) > 0 then (l11_cut.j4 x21 [] z2) else (l11_cut.j4 x21 x20 z2)) else (z2 = .exit x20)
def l11_cut.j3 (a0 : TPds) (x12 : List TRule) : (List TSpace) → TPds → Prop := fun x17 r => ∃ o2 : Fin ((List TSpace)) TPds, Loop (l11_cut.b2) (x17, 0) o2 ∧ o2.on (fun x24 => r = (TPds.mk (TSpace.mk a0.Space.Tag a0.Space.Dim x24) a0.States a0.Symbols x12)) (fun r_ => r = r_)
def l11_cut.f (a0 : TPds) (r : TPds) : Prop :=
  ∃ o1 : Fin ((List TRule)) TPds, Loop (l11_cut.b1 a0) ([], 0) o1 ∧ o1.on (fun x12 => if (a0.Space.Parts.length : Int) > 3 then (((Cut 0 3 a0.Space.Parts.length)) ∧ l11_cut.j3 a0 x12 (cutl a0.Space.Parts 0 3) r) else (l11_cut.j3 a0 x12 a0.Space.Parts r)) (fun r_ => r = r_)
theorem l11_cut.D {a0 : TPds} {r : TPds} (h : l11_cut.f a0 r) : D Try.prog X (.callH 6 [.agg (TPds.lit a0)] [] (.agg (TPds.lit r)) []) := by
  unfold l11_cut.f at h
  refine .enter 72 0 fn6 rfl rfl rfl ?_
  refine .seq ?_
  refine .room 0 ?_
  refine .room 0 ?_
  refine .reg0 rfl (.op 0 rfl (bxP (s := 6) (cs := (TPds.lit a0)) rfl ⟨rfl, by decide, rfl⟩ rfl) <| .op 1 rfl (alP (s := 6) ze28 ⟨rfl, by decide, rfl⟩ rfl) <| .nil0) ?_
  refine .seq ?_
  refine .reg0 rfl (.op 0 rfl (asV rfl) <| .nil0) ?_
  refine .seq ?_
  refine .seq ?_
  refine .reg0 rfl (.op 0 rfl (asV rfl) <| .nil0) ?_
  refine .block ?_
  refine .room 10 ?_
  refine .keepL [0, 1, 2] [(1, .ptr 0 1 6 0 0), (2, .ptr 1 1 6 0 0), (3, .own 2 0), (4, .val (.int .i64 0))] [⟨6, [(TPds.lit a0)], 0, none⟩, ⟨6, [[.val (.int .i64 0), .val (.int .i64 0), .val (.slice none 0 0), .val (.int .i64 0), .val (.int .i64 0), .val (.slice none 0 0)]], 0, none⟩, ⟨10, [].map TRule.cells, 0, none⟩] (by decide) (by decide) ⟨.ptr rfl, .ptr rfl, .nilOwn, .free rfl rfl, trivial⟩ ⟨⟨_, rfl, bcBox (all2_free rfl)⟩, ⟨_, rfl, bcBox (all2_free rfl)⟩, ⟨_, rfl, (bcRow (l := []) sl26 (Nat.le_refl _) rfl)⟩, trivial⟩ ?_
  obtain ⟨o1, hL1, h⟩ := h
  refine .loopB (l11_cut.b1 a0) (fun (x6, x7) => listEnv [(1, .ptr 0 1 6 0 0), (2, .ptr 1 1 6 0 0), (3, .own 2 x6.length), (4, .val (.int .i64 x7))]) (fun (x6, x7) => [⟨6, [(TPds.lit a0)], 0, none⟩, ⟨6, [[.val (.int .i64 0), .val (.int .i64 0), .val (.slice none 0 0), .val (.int .i64 0), .val (.int .i64 0), .val (.slice none 0 0)]], 0, none⟩, ⟨10, x6.map TRule.cells, 0, none⟩]) (fun x12 => listEnv [(1, .ptr 0 1 6 0 0), (2, .ptr 1 1 6 0 0), (3, .own 2 x12.length)]) (fun x12 => [⟨6, [(TPds.lit a0)], 0, none⟩, ⟨6, [[.val (.int .i64 0), .val (.int .i64 0), .val (.slice none 0 0), .val (.int .i64 0), .val (.int .i64 0), .val (.slice none 0 0)]], 0, none⟩, ⟨10, x12.map TRule.cells, 0, none⟩]) hL1 (fun r_ => r = r_) ?_ ?_ ?_
  · rintro x12 rfl
    try dsimp only [Fin.on] at h
    refine .seq ?_
    refine .reg0 rfl (.op 0 rfl (mvO rfl) <| .op 0 rfl (faP fa28_3 rfl) <| .op 0 rfl (stB (cs0 := (TPds.lit a0)) (cs := [.own 2 x12.length]) (cs1 := [.val (.int .i64 a0.Space.Tag), .val (.int .i64 a0.Space.Dim), .rows (a0.Space.Parts.map TSpace.cells), .val (.int .i64 a0.States), .val (.int .i64 a0.Symbols), .own 2 x12.length]) rfl rfl sz26 rfl ⟨Nat.le_of_ble_eq_true rfl, rfl⟩ rfl) <| .nil0) ?_
    refine .seq ?_
    refine .seq ?_
    refine .reg0 rfl (.op 0 rfl (faP fa28_0 rfl) <| .op 0 rfl (faP fa25_2 rfl) <| .op 0 rfl (ldP rfl sz23 ag23 rfl) <| .op 0 rfl (lnR (l := a0.Space.Parts) sl23 rfl) <| .op 0 rfl (gtI rfl rfl) <| .nil0) ?_
    refine .consJ (fun s_ => l11_cut.j3 a0 x12 s_ r) (fun x17 => listEnv [(1, .ptr 0 1 6 0 0), (2, .ptr 2 1 6 0 0)]) (fun x17 => [⟨6, [[.val (.int .i64 a0.Space.Tag), .val (.int .i64 a0.Space.Dim), .rows (x17.map TSpace.cells), .val (.int .i64 a0.States), .val (.int .i64 a0.Symbols), .own 1 x12.length]], 0, none⟩, ⟨10, x12.map TRule.cells, 0, none⟩, ⟨6, [[.val (.int .i64 0), .val (.int .i64 0), .val (.slice none 0 0), .val (.int .i64 0), .val (.int .i64 0), .val (.slice none 0 0)]], 0, none⟩]) ?_ fun hJ3 => ?_
    · rintro x17 h
      unfold l11_cut.j3 at h
      try dsimp only at h
      refine .seq ?_
      refine .seq ?_
      refine .reg0 rfl (.op 0 rfl (asV rfl) <| .nil0) ?_
      refine .block ?_
      refine .keepL [0, 1, 2] [(1, .ptr 0 1 6 0 0), (2, .ptr 2 1 6 0 0), (6, .val (.int .i64 0))] [⟨6, [[.val (.int .i64 a0.Space.Tag), .val (.int .i64 a0.Space.Dim), .rows (x17.map TSpace.cells), .val (.int .i64 a0.States), .val (.int .i64 a0.Symbols), .own 1 x12.length]], 0, none⟩, ⟨10, x12.map TRule.cells, 0, none⟩, ⟨6, [[.val (.int .i64 0), .val (.int .i64 0), .val (.slice none 0 0), .val (.int .i64 0), .val (.int .i64 0), .val (.slice none 0 0)]], 0, none⟩] (by decide) (by decide) ⟨.ptr rfl, .ptr rfl, .free rfl rfl, trivial⟩ ⟨⟨_, rfl, bcBox (.cons (.free rfl rfl) <| .cons (.free rfl rfl) <| .cons (.free rfl rfl) <| .cons (.free rfl rfl) <| .cons (.free rfl rfl) <| .cons (.own rfl) <| .nil)⟩, ⟨_, rfl, bcRow (l := x12) sl26 (Nat.le_refl _) rfl⟩, ⟨_, rfl, bcBox (all2_free rfl)⟩, trivial⟩ ?_
      obtain ⟨o2, hL2, h⟩ := h
      refine .loopB (l11_cut.b2) (fun (x20, x21) => listEnv [(1, .ptr 0 1 6 0 0), (2, .ptr 2 1 6 0 0), (6, .val (.int .i64 x21))]) (fun (x20, x21) => [⟨6, [[.val (.int .i64 a0.Space.Tag), .val (.int .i64 a0.Space.Dim), .rows (x20.map TSpace.cells), .val (.int .i64 a0.States), .val (.int .i64 a0.Symbols), .own 1 x12.length]], 0, none⟩, ⟨10, x12.map TRule.cells, 0, none⟩, ⟨6, [[.val (.int .i64 0), .val (.int .i64 0), .val (.slice none 0 0), .val (.int .i64 0), .val (.int .i64 0), .val (.slice none 0 0)]], 0, none⟩]) (fun x24 => listEnv [(1, .ptr 0 1 6 0 0), (2, .ptr 2 1 6 0 0)]) (fun x24 => [⟨6, [[.val (.int .i64 a0.Space.Tag), .val (.int .i64 a0.Space.Dim), .rows (x24.map TSpace.cells), .val (.int .i64 a0.States), .val (.int .i64 a0.Symbols), .own 1 x12.length]], 0, none⟩, ⟨10, x12.map TRule.cells, 0, none⟩, ⟨6, [[.val (.int .i64 0), .val (.int .i64 0), .val (.slice none 0 0), .val (.int .i64 0), .val (.int .i64 0), .val (.slice none 0 0)]], 0, none⟩]) hL2 (fun r_ => r = r_) ?_ ?_ ?_
      · rintro x24 rfl
        try dsimp only [Fin.on] at h
        refine .seq ?_
        refine .reg0 rfl (.op 0 rfl (ldG rfl sz28 ag28 rfl) <| .op 0 rfl (stB (cs0 := [.val (.int .i64 0), .val (.int .i64 0), .val (.slice none 0 0), .val (.int .i64 0), .val (.int .i64 0), .val (.slice none 0 0)]) (cs := [.val (.int .i64 a0.Space.Tag), .val (.int .i64 a0.Space.Dim), .rows (x24.map TSpace.cells), .val (.int .i64 a0.States), .val (.int .i64 a0.Symbols), .own 1 x12.length]) (cs1 := [.val (.int .i64 a0.Space.Tag), .val (.int .i64 a0.Space.Dim), .rows (x24.map TSpace.cells), .val (.int .i64 a0.States), .val (.int .i64 a0.Symbols), .own 1 x12.length]) rfl rfl sz28 rfl ⟨Nat.le_of_ble_eq_true rfl, rfl⟩ rfl) <| .nil0) ?_
        replace h := h.symm
        subst h
        refine .keepL [] [(2, .cptr [.val (.int .i64 a0.Space.Tag), .val (.int .i64 a0.Space.Dim), .rows (x24.map TSpace.cells), .val (.int .i64 a0.States), .val (.int .i64 a0.Symbols), .rows (x12.map TRule.cells)] 0)] [] (by decide) (by decide) ⟨cFixP rfl rfl (.cons (.free rfl rfl) <| .cons (.free rfl rfl) <| .cons (.free rfl rfl) <| .cons (.free rfl rfl) <| .cons (.free rfl rfl) <| .cons (cFixO (l := x12) sl26 rfl rfl rfl rfl) <| .nil), trivial⟩ trivial ?_
        exact .ret rfl
      · rintro r_ rfl
        exact h
      · rintro ⟨x20, x21⟩ z2 h hn2 hx2 hr2
        dsimp only [l11_cut.b2] at h
        refine .seq ?_
        refine .seq ?_
        refine .reg0 rfl (.op 0 rfl (mvV rfl) <| .op 0 rfl (faP fa28_0 rfl) <| .op 0 rfl (faP fa25_2 rfl) <| .op 0 rfl (ldP rfl sz23 ag23 rfl) <| .op 0 rfl (lnR (l := x20) sl23 rfl) <| .op 0 rfl (ltI rfl rfl) <| .nil0) ?_
        by_cases c42 : x21 < (x20.length : Int)
        · rw [if_pos c42] at h
          refine .condT rfl (decide_eq_true c42) ?_
          refine .skip ?_
          refine .seq ?_
          refine .block ?_
          refine .seq ?_
          obtain ⟨g76_4, h⟩ := h
          refine .reg0 rfl (.op 0 rfl (faP fa28_0 rfl) <| .op 0 rfl (faP fa25_2 rfl) <| .op 0 rfl (ldP rfl sz23 ag23 rfl) <| .op 0 rfl (mvV rfl) <| .op 0 rfl (ixR (l := x20) (lit := TSpace.lit) sl23 rfl rfl TSpace.cells_lit g76_4.1 g76_4.2) <| .op 0 rfl (faC fa25_2 rfl) <| .op 0 rfl (ldC rfl sz23 ag23 rfl) <| .op 0 rfl (lnR (l := (rdl x20 x21).Parts) sl23 rfl) <| .op 0 rfl (gtI rfl rfl) <| .nil0) ?_
          refine .consJ (fun s_ => l11_cut.j4 x21 s_ z2) (fun x26 => listEnv [(1, .ptr 0 1 6 0 0), (2, .ptr 2 1 6 0 0), (6, .val (.int .i64 x21))]) (fun x26 => [⟨6, [[.val (.int .i64 a0.Space.Tag), .val (.int .i64 a0.Space.Dim), .rows (x26.map TSpace.cells), .val (.int .i64 a0.States), .val (.int .i64 a0.Symbols), .own 1 x12.length]], 0, none⟩, ⟨10, x12.map TRule.cells, 0, none⟩, ⟨6, [[.val (.int .i64 0), .val (.int .i64 0), .val (.slice none 0 0), .val (.int .i64 0), .val (.int .i64 0), .val (.slice none 0 0)]], 0, none⟩]) ?_ fun hJ4 => ?_
          · rintro x26 h
            unfold l11_cut.j4 at h
            try dsimp only at h
            refine .inBlock ?_
            refine .reg0 rfl (.op 0 rfl (mvV rfl) <| .op 0 rfl (addI rfl rfl) <| .op 0 rfl (asV rfl) <| .nil0) ?_
            refine .keepL [0, 1, 2] [(1, .ptr 0 1 6 0 0), (2, .ptr 2 1 6 0 0), (6, .val (.int .i64 (IntKind.i64.wrap (x21 + 1))))] [⟨6, [[.val (.int .i64 a0.Space.Tag), .val (.int .i64 a0.Space.Dim), .rows (x26.map TSpace.cells), .val (.int .i64 a0.States), .val (.int .i64 a0.Symbols), .own 1 x12.length]], 0, none⟩, ⟨10, x12.map TRule.cells, 0, none⟩, ⟨6, [[.val (.int .i64 0), .val (.int .i64 0), .val (.slice none 0 0), .val (.int .i64 0), .val (.int .i64 0), .val (.slice none 0 0)]], 0, none⟩] (by decide) (by decide) ⟨.ptr rfl, .ptr rfl, .free rfl rfl, trivial⟩ ⟨⟨_, rfl, bcBox (.cons (.free rfl rfl) <| .cons (.free rfl rfl) <| .cons (.free rfl rfl) <| .cons (.free rfl rfl) <| .cons (.free rfl rfl) <| .cons (.own rfl) <| .nil)⟩, ⟨_, rfl, bcRow (l := x12) sl26 (Nat.le_refl _) rfl⟩, ⟨_, rfl, bcBox (all2_free rfl)⟩, trivial⟩ ?_
            exact hn2 _ h
          · by_cases c46 : ((rdl x20 x21).Parts.length : Int) > 0
            · rw [if_pos c46] at h
              refine .condT rfl (decide_eq_true c46) ?_
              refine .reg0 rfl (.op 0 rfl (faP fa28_0 rfl) <| .op 0 rfl (faP fa25_2 rfl) <| .op 0 rfl (stB (cs0 := [.val (.int .i64 a0.Space.Tag), .val (.int .i64 a0.Space.Dim), .rows (x20.map TSpace.cells), .val (.int .i64 a0.States), .val (.int .i64 a0.Symbols), .own 1 x12.length]) (cs := [.val (.slice none 0 0)]) (cs1 := [.val (.int .i64 a0.Space.Tag), .val (.int .i64 a0.Space.Dim), .val (.slice none 0 0), .val (.int .i64 a0.States), .val (.int .i64 a0.Symbols), .own 1 x12.length]) rfl rfl sz23 rfl ⟨Nat.le_of_ble_eq_true rfl, rfl⟩ rfl) <| .nil0) ?_
              refine .keepL [0, 1, 2] [(1, .ptr 0 1 6 0 0), (2, .ptr 2 1 6 0 0), (6, .val (.int .i64 x21))] [⟨6, [[.val (.int .i64 a0.Space.Tag), .val (.int .i64 a0.Space.Dim), .rows ([].map TSpace.cells), .val (.int .i64 a0.States), .val (.int .i64 a0.Symbols), .own 1 x12.length]], 0, none⟩, ⟨10, x12.map TRule.cells, 0, none⟩, ⟨6, [[.val (.int .i64 0), .val (.int .i64 0), .val (.slice none 0 0), .val (.int .i64 0), .val (.int .i64 0), .val (.slice none 0 0)]], 0, none⟩] (by decide) (by decide) ⟨.ptr rfl, .ptr rfl, .free rfl rfl, trivial⟩ ⟨⟨_, rfl, bcBox (.cons (.free rfl rfl) <| .cons (.free rfl rfl) <| .cons (.nil) <| .cons (.free rfl rfl) <| .cons (.free rfl rfl) <| .cons (.own rfl) <| .nil)⟩, ⟨_, rfl, bcRow (l := x12) sl26 (Nat.le_refl _) rfl⟩, ⟨_, rfl, bcBox (all2_free rfl)⟩, trivial⟩ ?_
              exact hJ4 _ h
            · rw [if_neg c46] at h
              refine .condF rfl (decide_eq_false c46) ?_
              refine .skip ?_
              refine .keepL [0, 1, 2] [(1, .ptr 0 1 6 0 0), (2, .ptr 2 1 6 0 0), (6, .val (.int .i64 x21))] [⟨6, [[.val (.int .i64 a0.Space.Tag), .val (.int .i64 a0.Space.Dim), .rows (x20.map TSpace.cells), .val (.int .i64 a0.States), .val (.int .i64 a0.Symbols), .own 1 x12.length]], 0, none⟩, ⟨10, x12.map TRule.cells, 0, none⟩, ⟨6, [[.val (.int .i64 0), .val (.int .i64 0), .val (.slice none 0 0), .val (.int .i64 0), .val (.int .i64 0), .val (.slice none 0 0)]], 0, none⟩] (by decide) (by decide) ⟨.ptr rfl, .ptr rfl, .free rfl rfl, trivial⟩ ⟨⟨_, rfl, bcBox (.cons (.free rfl rfl) <| .cons (.free rfl rfl) <| .cons (.free rfl rfl) <| .cons (.free rfl rfl) <| .cons (.free rfl rfl) <| .cons (.own rfl) <| .nil)⟩, ⟨_, rfl, bcRow (l := x12) sl26 (Nat.le_refl _) rfl⟩, ⟨_, rfl, bcBox (all2_free rfl)⟩, trivial⟩ ?_
              exact hJ4 _ h
        · rw [if_neg c42] at h
          refine .condF rfl (decide_eq_false c42) ?_
          refine .exit rfl ?_
          refine .keepL [0, 1, 2] [(1, .ptr 0 1 6 0 0), (2, .ptr 2 1 6 0 0)] [⟨6, [[.val (.int .i64 a0.Space.Tag), .val (.int .i64 a0.Space.Dim), .rows (x20.map TSpace.cells), .val (.int .i64 a0.States), .val (.int .i64 a0.Symbols), .own 1 x12.length]], 0, none⟩, ⟨10, x12.map TRule.cells, 0, none⟩, ⟨6, [[.val (.int .i64 0), .val (.int .i64 0), .val (.slice none 0 0), .val (.int .i64 0), .val (.int .i64 0), .val (.slice none 0 0)]], 0, none⟩] (by decide) (by decide) ⟨.ptr rfl, .ptr rfl, trivial⟩ ⟨⟨_, rfl, bcBox (.cons (.free rfl rfl) <| .cons (.free rfl rfl) <| .cons (.free rfl rfl) <| .cons (.free rfl rfl) <| .cons (.free rfl rfl) <| .cons (.own rfl) <| .nil)⟩, ⟨_, rfl, bcRow (l := x12) sl26 (Nat.le_refl _) rfl⟩, ⟨_, rfl, bcBox (all2_free rfl)⟩, trivial⟩ ?_
          exact hx2 _ h
    · by_cases c47 : (a0.Space.Parts.length : Int) > 3
      · rw [if_pos c47] at h
        refine .condT rfl (decide_eq_true c47) ?_
        obtain ⟨g81_3, h⟩ := h
        refine .reg0 rfl (.op 0 rfl (faP fa28_0 rfl) <| .op 0 rfl (faP fa25_2 rfl) <| .op 0 rfl (ldP rfl sz23 ag23 rfl) <| .op 0 rfl (slR (l := a0.Space.Parts) (h := Int.toNat 3) (v := 0) sl23 rfl rfl (bound_some rfl g81_3.j0) (Nat.zero_le _) (cut_le2 g81_3)) <| .op 0 rfl (faP fa28_0 rfl) <| .op 0 rfl (faP fa25_2 rfl) <| .op 0 rfl (stB (cs0 := [.val (.int .i64 a0.Space.Tag), .val (.int .i64 a0.Space.Dim), .rows (a0.Space.Parts.map TSpace.cells), .val (.int .i64 a0.States), .val (.int .i64 a0.Symbols), .own 2 x12.length]) (cs := [.rows ((cutl a0.Space.Parts 0 3).map TSpace.cells)]) (cs1 := [.val (.int .i64 a0.Space.Tag), .val (.int .i64 a0.Space.Dim), .rows ((cutl a0.Space.Parts 0 3).map TSpace.cells), .val (.int .i64 a0.States), .val (.int .i64 a0.Symbols), .own 2 x12.length]) rfl rfl sz23 rfl ⟨Nat.le_of_ble_eq_true rfl, rfl⟩ rfl) <| .nil0) ?_
        refine .keepL [0, 2, 1] [(1, .ptr 0 1 6 0 0), (2, .ptr 2 1 6 0 0)] [⟨6, [[.val (.int .i64 a0.Space.Tag), .val (.int .i64 a0.Space.Dim), .rows ((cutl a0.Space.Parts 0 3).map TSpace.cells), .val (.int .i64 a0.States), .val (.int .i64 a0.Symbols), .own 1 x12.length]], 0, none⟩, ⟨10, x12.map TRule.cells, 0, none⟩, ⟨6, [[.val (.int .i64 0), .val (.int .i64 0), .val (.slice none 0 0), .val (.int .i64 0), .val (.int .i64 0), .val (.slice none 0 0)]], 0, none⟩] (by decide) (by decide) ⟨.ptr rfl, .ptr rfl, trivial⟩ ⟨⟨_, rfl, bcBox (.cons (.free rfl rfl) <| .cons (.free rfl rfl) <| .cons (.free rfl rfl) <| .cons (.free rfl rfl) <| .cons (.free rfl rfl) <| .cons (.own rfl) <| .nil)⟩, ⟨_, rfl, bcRow (l := x12) sl26 (Nat.le_refl _) rfl⟩, ⟨_, rfl, bcBox (all2_free rfl)⟩, trivial⟩ ?_
        exact hJ3 _ h
      · rw [if_neg c47] at h
        refine .condF rfl (decide_eq_false c47) ?_
        refine .skip ?_
        refine .keepL [0, 2, 1] [(1, .ptr 0 1 6 0 0), (2, .ptr 2 1 6 0 0)] [⟨6, [[.val (.int .i64 a0.Space.Tag), .val (.int .i64 a0.Space.Dim), .rows (a0.Space.Parts.map TSpace.cells), .val (.int .i64 a0.States), .val (.int .i64 a0.Symbols), .own 1 x12.length]], 0, none⟩, ⟨10, x12.map TRule.cells, 0, none⟩, ⟨6, [[.val (.int .i64 0), .val (.int .i64 0), .val (.slice none 0 0), .val (.int .i64 0), .val (.int .i64 0), .val (.slice none 0 0)]], 0, none⟩] (by decide) (by decide) ⟨.ptr rfl, .ptr rfl, trivial⟩ ⟨⟨_, rfl, bcBox (.cons (.free rfl rfl) <| .cons (.free rfl rfl) <| .cons (.free rfl rfl) <| .cons (.free rfl rfl) <| .cons (.free rfl rfl) <| .cons (.own rfl) <| .nil)⟩, ⟨_, rfl, bcRow (l := x12) sl26 (Nat.le_refl _) rfl⟩, ⟨_, rfl, bcBox (all2_free rfl)⟩, trivial⟩ ?_
        exact hJ3 _ h
  · rintro r_ rfl
    exact h
  · rintro ⟨x6, x7⟩ z1 h hn1 hx1 hr1
    dsimp only [l11_cut.b1] at h
    refine .seq ?_
    refine .seq ?_
    refine .reg0 (e1 := listEnv [(1, .ptr 0 1 6 0 0), (2, .ptr 1 1 6 0 0), (3, .own 2 x6.length), (4, .val (.int .i64 x7)), (16, .val (.bool ((decide (x7 < (a0.Rules.length : Int))) && (decide ((x6.length : Int) < 40)))))]) (H1 := [⟨6, [(TPds.lit a0)], 0, none⟩, ⟨6, [[.val (.int .i64 0), .val (.int .i64 0), .val (.slice none 0 0), .val (.int .i64 0), .val (.int .i64 0), .val (.slice none 0 0)]], 0, none⟩, ⟨10, x6.map TRule.cells, 0, none⟩]) rfl ?_ ?_
    · by_cases c21 : x7 < (a0.Rules.length : Int)
      · exact (.op 0 rfl (mvV rfl) <| .op 0 rfl (faP fa28_3 rfl) <| .op 0 rfl (ldP rfl sz26 ag26 rfl) <| .op 0 rfl (lnR (l := a0.Rules) sl26 rfl) <| .op 0 rfl (ltI rfl rfl) <| .op 0 rfl (mvV rfl) <| .op 0 (gT rfl rfl rfl (decide_eq_true c21)) (mvO rfl) <| .op 0 (gT rfl rfl rfl (decide_eq_true c21)) (lnO (l := x6) sl26 rfl rfl rfl) <| .op 0 (gT rfl rfl rfl (decide_eq_true c21)) (ltI rfl rfl) <| .op 0 rfl (pkTV rfl (decide_eq_true c21) rfl) <| .nilL _ ⟨.ptr rfl, .ptr rfl, .own rfl, .free rfl rfl, cB rfl (mAndT (decide_eq_true c21) rfl), trivial⟩)
      · exact (.op 0 rfl (mvV rfl) <| .op 0 rfl (faP fa28_3 rfl) <| .op 0 rfl (ldP rfl sz26 ag26 rfl) <| .op 0 rfl (lnR (l := a0.Rules) sl26 rfl) <| .op 0 rfl (ltI rfl rfl) <| .op 0 rfl (mvV rfl) <| .no (gF rfl rfl rfl (decide_eq_false c21)) <| .no (gF rfl rfl rfl (decide_eq_false c21)) <| .no (gF rfl rfl rfl (decide_eq_false c21)) <| .op 0 rfl (pkFV rfl (decide_eq_false c21) rfl) <| .nilL _ ⟨.ptr rfl, .ptr rfl, .own rfl, .free rfl rfl, cB rfl (mAndF (decide_eq_false c21)), trivial⟩)
    by_cases c22 : ((decide (x7 < (a0.Rules.length : Int))) && (decide ((x6.length : Int) < 40))) = true
    · rw [if_pos c22] at h
      refine .condT rfl c22 ?_
      refine .skip ?_
      refine .seq ?_
      refine .block ?_
      refine .seq ?_
      obtain ⟨g44_3, h⟩ := h
      refine .room 0 ?_
      refine .reg0 rfl (.op 0 rfl (faP fa28_3 rfl) <| .op 0 rfl (ldP rfl sz26 ag26 rfl) <| .op 0 rfl (mvV rfl) <| .op 0 rfl (ixR (l := a0.Rules) (lit := TRule.lit) sl26 rfl rfl (fun _ => rfl) g44_3.1 g44_3.2) <| .op 0 rfl (ldCG rfl sz51 ag51 rfl) <| .op 3 rfl (alP (s := 10) ze51 ⟨rfl, by decide, rfl⟩ rfl) <| .op 0 rfl (stB (cs0 := [.val (.int .i64 0), .val (.int .i64 0), .val (.int .i64 0), .val (.slice none 0 0), .val (.bool false), .val (.int .i64 0), .val (.int .u64 0), .val (.slice none 0 0), .val (.slice none 0 0), .val (.slice none 0 0)]) (cs := (TRule.lit (rdl a0.Rules x7))) (cs1 := (TRule.lit (rdl a0.Rules x7))) rfl rfl sz51 rfl ⟨Nat.le_of_ble_eq_true rfl, rfl⟩ rfl) <| .nil0) ?_
      refine .seq ?_
      refine .seq ?_
      refine .reg0 rfl (.op 0 rfl (faP fa51_3 rfl) <| .op 0 rfl (ldP rfl sz30 ag30 rfl) <| .op 0 rfl (lnR (l := (rdl a0.Rules x7).W) sl30 rfl) <| .op 0 rfl (gtI rfl rfl) <| .nil0) ?_
      refine .consJ (fun s_ => l11_cut.j1 a0 x6 x7 s_ z1) (fun x15 => listEnv [(1, .ptr 0 1 6 0 0), (2, .ptr 1 1 6 0 0), (3, .own 2 x6.length), (4, .val (.int .i64 x7)), (5, .ptr 3 1 10 0 0)]) (fun x15 => [⟨6, [(TPds.lit a0)], 0, none⟩, ⟨6, [[.val (.int .i64 0), .val (.int .i64 0), .val (.slice none 0 0), .val (.int .i64 0), .val (.int .i64 0), .val (.slice none 0 0)]], 0, none⟩, ⟨10, x6.map TRule.cells, 0, none⟩, ⟨10, [[.val (.int .i64 ((rdl a0.Rules x7).P)), .val (.int .i64 ((rdl a0.Rules x7).G)), .val (.int .i64 ((rdl a0.Rules x7).Q)), .rows (x15.map (cInt .i64)), .val (.bool ((rdl a0.Rules x7).F.Zero)), .val (.int .i64 ((rdl a0.Rules x7).F.Cost)), .val (.int .u64 ((rdl a0.Rules x7).F.Facts.Gen)), .rows ((rdl a0.Rules x7).F.Facts.Rows.map (cInt .u64)), .rows ((rdl a0.Rules x7).F.Cells.map TCell.cells), .rows ((rdl a0.Rules x7).F.Parts.map TWeight.cells)]], 0, none⟩]) ?_ fun hJ1 => ?_
      · rintro x15 h
        unfold l11_cut.j1 at h
        try dsimp only at h
        refine .seq ?_
        obtain ⟨t47_2, g47_2, h⟩ := h
        refine .reg0 rfl (.op 0 rfl (faP fa51_4 rfl) <| .op 0 rfl (ldG rfl sz49 ag49 rfl) <| .callI rfl (callee_of rfl go18 rfl) (.pure rfl rfl (l11_small.D g47_2)) <| .nil0) ?_
        refine .consJ (fun s_ => l11_cut.j2 x7 s_ z1) (fun x16 => listEnv [(1, .ptr 0 1 6 0 0), (2, .ptr 1 1 6 0 0), (3, .own 2 x16.length), (4, .val (.int .i64 x7))]) (fun x16 => [⟨6, [(TPds.lit a0)], 0, none⟩, ⟨6, [[.val (.int .i64 0), .val (.int .i64 0), .val (.slice none 0 0), .val (.int .i64 0), .val (.int .i64 0), .val (.slice none 0 0)]], 0, none⟩, ⟨10, x16.map TRule.cells, 0, none⟩]) ?_ fun hJ2 => ?_
        · rintro x16 h
          unfold l11_cut.j2 at h
          try dsimp only at h
          refine .inBlock ?_
          refine .reg0 rfl (.op 0 rfl (mvV rfl) <| .op 0 rfl (addI rfl rfl) <| .op 0 rfl (asV rfl) <| .nil0) ?_
          refine .keepL [0, 1, 2] [(1, .ptr 0 1 6 0 0), (2, .ptr 1 1 6 0 0), (3, .own 2 x16.length), (4, .val (.int .i64 (IntKind.i64.wrap (x7 + 1))))] [⟨6, [(TPds.lit a0)], 0, none⟩, ⟨6, [[.val (.int .i64 0), .val (.int .i64 0), .val (.slice none 0 0), .val (.int .i64 0), .val (.int .i64 0), .val (.slice none 0 0)]], 0, none⟩, ⟨10, x16.map TRule.cells, 0, none⟩] (by decide) (by decide) ⟨.ptr rfl, .ptr rfl, .own rfl, .free rfl rfl, trivial⟩ ⟨⟨_, rfl, bcBox (all2_free rfl)⟩, ⟨_, rfl, bcBox (all2_free rfl)⟩, ⟨_, rfl, bcRow (l := x16) sl26 (Nat.le_refl _) rfl⟩, trivial⟩ ?_
          exact hn1 _ h
        · by_cases c29 : t47_2 = true
          · rw [if_pos c29] at h
            refine .condT rfl c29 ?_
            obtain ⟨g50_3, h⟩ := h
            refine .room 0 ?_
            refine .room 0 ?_
            refine .reg0 rfl (.op 0 rfl (mvO rfl) <| .op 0 rfl (ldG rfl sz51 ag51 rfl) <| .op 4 rfl (bldL (s := 10) (cs := [.val (.int .i64 ((rdl a0.Rules x7).P)), .val (.int .i64 ((rdl a0.Rules x7).G)), .val (.int .i64 ((rdl a0.Rules x7).Q)), .rows (x15.map (cInt .i64)), .val (.bool ((rdl a0.Rules x7).F.Zero)), .val (.int .i64 ((rdl a0.Rules x7).F.Cost)), .val (.int .u64 ((rdl a0.Rules x7).F.Facts.Gen)), .rows ((rdl a0.Rules x7).F.Facts.Rows.map (cInt .u64)), .rows ((rdl a0.Rules x7).F.Cells.map TCell.cells), .rows ((rdl a0.Rules x7).F.Parts.map TWeight.cells)]) un26 sz51 ze51 ⟨by decide, rfl, by decide⟩ rfl rfl rfl rfl) <| .op 0 rfl (ap1 (l := x6) (TRule.mk ((rdl a0.Rules x7).P) ((rdl a0.Rules x7).G) ((rdl a0.Rules x7).Q) x15 ((rdl a0.Rules x7).F)) sl26 rfl rfl rfl (Nat.zero_le _) (elems_own (l := [(TRule.mk ((rdl a0.Rules x7).P) ((rdl a0.Rules x7).G) ((rdl a0.Rules x7).Q) x15 ((rdl a0.Rules x7).F))]) rfl rfl) g50_3) <| .op 0 rfl (asO rfl) <| .nil0) ?_
            refine .keepL [0, 1, 2] [(1, .ptr 0 1 6 0 0), (2, .ptr 1 1 6 0 0), (3, .own 2 ((x6 ++ [(TRule.mk ((rdl a0.Rules x7).P) ((rdl a0.Rules x7).G) ((rdl a0.Rules x7).Q) x15 ((rdl a0.Rules x7).F))]).length)), (4, .val (.int .i64 x7))] [⟨6, [(TPds.lit a0)], 0, none⟩, ⟨6, [[.val (.int .i64 0), .val (.int .i64 0), .val (.slice none 0 0), .val (.int .i64 0), .val (.int .i64 0), .val (.slice none 0 0)]], 0, none⟩, ⟨10, (x6 ++ [(TRule.mk ((rdl a0.Rules x7).P) ((rdl a0.Rules x7).G) ((rdl a0.Rules x7).Q) x15 ((rdl a0.Rules x7).F))]).map TRule.cells, 0, none⟩] (by decide) (by decide) ⟨.ptr rfl, .ptr rfl, .own rfl, .free rfl rfl, trivial⟩ ⟨⟨_, rfl, bcBox (all2_free rfl)⟩, ⟨_, rfl, bcBox (all2_free rfl)⟩, ⟨_, rfl, bcRow (l := (x6 ++ [(TRule.mk ((rdl a0.Rules x7).P) ((rdl a0.Rules x7).G) ((rdl a0.Rules x7).Q) x15 ((rdl a0.Rules x7).F))])) sl26 (Nat.le_refl _) rfl⟩, trivial⟩ ?_
            exact hJ2 _ h
          · rw [if_neg c29] at h
            refine .condF rfl (Bool.eq_false_iff.mpr c29) ?_
            refine .skip ?_
            refine .keepL [0, 1, 2] [(1, .ptr 0 1 6 0 0), (2, .ptr 1 1 6 0 0), (3, .own 2 x6.length), (4, .val (.int .i64 x7))] [⟨6, [(TPds.lit a0)], 0, none⟩, ⟨6, [[.val (.int .i64 0), .val (.int .i64 0), .val (.slice none 0 0), .val (.int .i64 0), .val (.int .i64 0), .val (.slice none 0 0)]], 0, none⟩, ⟨10, x6.map TRule.cells, 0, none⟩] (by decide) (by decide) ⟨.ptr rfl, .ptr rfl, .own rfl, .free rfl rfl, trivial⟩ ⟨⟨_, rfl, bcBox (all2_free rfl)⟩, ⟨_, rfl, bcBox (all2_free rfl)⟩, ⟨_, rfl, bcRow (l := x6) sl26 (Nat.le_refl _) rfl⟩, trivial⟩ ?_
            exact hJ2 _ h
      · by_cases c30 : ((rdl a0.Rules x7).W.length : Int) > 40
        · rw [if_pos c30] at h
          refine .condT rfl (decide_eq_true c30) ?_
          obtain ⟨g51_2, h⟩ := h
          refine .reg0 rfl (.op 0 rfl (faP fa51_3 rfl) <| .op 0 rfl (ldP rfl sz30 ag30 rfl) <| .op 0 rfl (slR (l := (rdl a0.Rules x7).W) (h := Int.toNat 40) (v := 0) sl30 rfl rfl (bound_some rfl g51_2.j0) (Nat.zero_le _) (cut_le2 g51_2)) <| .op 0 rfl (faP fa51_3 rfl) <| .op 0 rfl (stB (cs0 := (TRule.lit (rdl a0.Rules x7))) (cs := [.rows ((cutl (rdl a0.Rules x7).W 0 40).map (cInt .i64))]) (cs1 := [.val (.int .i64 ((rdl a0.Rules x7).P)), .val (.int .i64 ((rdl a0.Rules x7).G)), .val (.int .i64 ((rdl a0.Rules x7).Q)), .rows ((cutl (rdl a0.Rules x7).W 0 40).map (cInt .i64)), .val (.bool ((rdl a0.Rules x7).F.Zero)), .val (.int .i64 ((rdl a0.Rules x7).F.Cost)), .val (.int .u64 ((rdl a0.Rules x7).F.Facts.Gen)), .rows ((rdl a0.Rules x7).F.Facts.Rows.map (cInt .u64)), .rows ((rdl a0.Rules x7).F.Cells.map TCell.cells), .rows ((rdl a0.Rules x7).F.Parts.map TWeight.cells)]) rfl rfl sz30 rfl ⟨Nat.le_of_ble_eq_true rfl, rfl⟩ rfl) <| .nil0) ?_
          refine .keepL [0, 1, 2, 3] [(1, .ptr 0 1 6 0 0), (2, .ptr 1 1 6 0 0), (3, .own 2 x6.length), (4, .val (.int .i64 x7)), (5, .ptr 3 1 10 0 0)] [⟨6, [(TPds.lit a0)], 0, none⟩, ⟨6, [[.val (.int .i64 0), .val (.int .i64 0), .val (.slice none 0 0), .val (.int .i64 0), .val (.int .i64 0), .val (.slice none 0 0)]], 0, none⟩, ⟨10, x6.map TRule.cells, 0, none⟩, ⟨10, [[.val (.int .i64 ((rdl a0.Rules x7).P)), .val (.int .i64 ((rdl a0.Rules x7).G)), .val (.int .i64 ((rdl a0.Rules x7).Q)), .rows ((cutl (rdl a0.Rules x7).W 0 40).map (cInt .i64)), .val (.bool ((rdl a0.Rules x7).F.Zero)), .val (.int .i64 ((rdl a0.Rules x7).F.Cost)), .val (.int .u64 ((rdl a0.Rules x7).F.Facts.Gen)), .rows ((rdl a0.Rules x7).F.Facts.Rows.map (cInt .u64)), .rows ((rdl a0.Rules x7).F.Cells.map TCell.cells), .rows ((rdl a0.Rules x7).F.Parts.map TWeight.cells)]], 0, none⟩] (by decide) (by decide) ⟨.ptr rfl, .ptr rfl, .own rfl, .free rfl rfl, .ptr rfl, trivial⟩ ⟨⟨_, rfl, bcBox (all2_free rfl)⟩, ⟨_, rfl, bcBox (all2_free rfl)⟩, ⟨_, rfl, bcRow (l := x6) sl26 (Nat.le_refl _) rfl⟩, ⟨_, rfl, bcBox (all2_free rfl)⟩, trivial⟩ ?_
          exact hJ1 _ h
        · rw [if_neg c30] at h
          refine .condF rfl (decide_eq_false c30) ?_
          refine .skip ?_
          refine .keepL [0, 1, 2, 3] [(1, .ptr 0 1 6 0 0), (2, .ptr 1 1 6 0 0), (3, .own 2 x6.length), (4, .val (.int .i64 x7)), (5, .ptr 3 1 10 0 0)] [⟨6, [(TPds.lit a0)], 0, none⟩, ⟨6, [[.val (.int .i64 0), .val (.int .i64 0), .val (.slice none 0 0), .val (.int .i64 0), .val (.int .i64 0), .val (.slice none 0 0)]], 0, none⟩, ⟨10, x6.map TRule.cells, 0, none⟩, ⟨10, [(TRule.lit (rdl a0.Rules x7))], 0, none⟩] (by decide) (by decide) ⟨.ptr rfl, .ptr rfl, .own rfl, .free rfl rfl, .ptr rfl, trivial⟩ ⟨⟨_, rfl, bcBox (all2_free rfl)⟩, ⟨_, rfl, bcBox (all2_free rfl)⟩, ⟨_, rfl, bcRow (l := x6) sl26 (Nat.le_refl _) rfl⟩, ⟨_, rfl, bcBox (all2_free rfl)⟩, trivial⟩ ?_
          exact hJ1 _ h
    · rw [if_neg c22] at h
      refine .condF rfl (Bool.eq_false_iff.mpr c22) ?_
      refine .exit rfl ?_
      refine .keepL [0, 1, 2] [(1, .ptr 0 1 6 0 0), (2, .ptr 1 1 6 0 0), (3, .own 2 x6.length)] [⟨6, [(TPds.lit a0)], 0, none⟩, ⟨6, [[.val (.int .i64 0), .val (.int .i64 0), .val (.slice none 0 0), .val (.int .i64 0), .val (.int .i64 0), .val (.slice none 0 0)]], 0, none⟩, ⟨10, x6.map TRule.cells, 0, none⟩] (by decide) (by decide) ⟨.ptr rfl, .ptr rfl, .own rfl, trivial⟩ ⟨⟨_, rfl, bcBox (all2_free rfl)⟩, ⟨_, rfl, bcBox (all2_free rfl)⟩, ⟨_, rfl, bcRow (l := x6) sl26 (Nat.le_refl _) rfl⟩, trivial⟩ ?_
      exact hx1 _ h
def slices_IndexFunc_Space.b1 (a0 : List TSpace) (a1 : TSpace → Bool → Prop) : Int → Rnd Int Unit Int → Prop := fun x1 z1 => if x1 < (a0.length : Int) then (((InR x1 a0.length)) ∧ ∃ t15_5 : Bool, (a1 (rdl a0 x1) t15_5) ∧ if t15_5 = true then (z1 = .ret x1) else (z1 = .next (IntKind.i64.wrap (x1 + 1)))) else (z1 = .exit ())
def slices_IndexFunc_Space.f (a0 : List TSpace) (a1 : TSpace → Bool → Prop) (r : Int) : Prop :=
  ∃ o1 : Fin Unit Int, Loop (slices_IndexFunc_Space.b1 a0 a1) 0 o1 ∧ o1.on (fun _ => r = (-1)) (fun r_ => r = r_)
theorem slices_IndexFunc_Space.D {a0 : List TSpace} {a1 : TSpace → Bool → Prop} {r : Int} {c1_ : FuncId} {k1_ : List PV} (hg1_ : isGo Try.prog c1_ = true) (hk1_ : PV.free deep (.clo c1_ k1_) = true) (hka1_ : k1_.all (PV.free deep) = true) (hq1_ : ∀ x0_ y_, a1 x0_ y_ → D Try.prog X (.callH c1_ ([.agg (TSpace.lit x0_)] ++ k1_) [] (.val (.bool y_)) [])) (h : slices_IndexFunc_Space.f a0 a1 r) : D Try.prog X (.callH 64 [.rows (a0.map TSpace.cells), .clo c1_ k1_] [] (.val (.int .i64 r)) []) := by
  unfold slices_IndexFunc_Space.f at h
  refine .enter 19 0 fn64 rfl rfl rfl ?_
  refine .seq ?_
  refine .reg0 rfl (.op 0 rfl (asV rfl) <| .nil0) ?_
  refine .seq ?_
  refine .seq ?_
  refine .reg0 rfl (.op 0 rfl (mvR rfl) <| .op 0 rfl (lnR (l := a0) sl23 rfl) <| .op 0 rfl (mvV rfl) <| .nil0) ?_
  refine .block ?_
  refine .keepL [] [(0, .rows (a0.map TSpace.cells)), (1, .clo c1_ k1_), (7, .val (.int .i64 (a0.length : Int))), (8, .val (.int .i64 0))] [] (by decide) (by decide) ⟨.free rfl rfl, .free rfl hk1_, .free rfl rfl, .free rfl rfl, trivial⟩ trivial ?_
  obtain ⟨o1, hL1, h⟩ := h
  refine .loopB (slices_IndexFunc_Space.b1 a0 a1) (fun x1 => listEnv [(0, .rows (a0.map TSpace.cells)), (1, .clo c1_ k1_), (7, .val (.int .i64 (a0.length : Int))), (8, .val (.int .i64 x1))]) (fun x1 => []) (fun _ => listEnv []) (fun _ => []) hL1 (fun r_ => r = r_) ?_ ?_ ?_
  · rintro ⟨⟩ rfl
    try dsimp only [Fin.on] at h
    refine .seq ?_
    refine .reg0 rfl (.op 0 rfl (asV rfl) <| .nil0) ?_
    replace h := h.symm
    subst h
    refine .keepL [] [(4, .val (.int .i64 (-1)))] [] (by decide) (by decide) ⟨.free rfl rfl, trivial⟩ trivial ?_
    exact .ret rfl
  · rintro r_ rfl
    exact h
  · rintro x1 z1 h hn1 hx1 hr1
    dsimp only [slices_IndexFunc_Space.b1] at h
    refine .seq ?_
    refine .reg0 rfl (.op 0 rfl (ltI rfl rfl) <| .nil0) ?_
    refine .seq ?_
    by_cases c5 : x1 < (a0.length : Int)
    · rw [if_pos c5] at h
      refine .condT rfl (decide_eq_true c5) ?_
      refine .skip ?_
      refine .seq ?_
      refine .block ?_
      refine .seq ?_
      refine .reg0 rfl (.op 0 rfl (mvV rfl) <| .op 0 rfl (asV rfl) <| .nil0) ?_
      refine .seq ?_
      obtain ⟨g15_3, h⟩ := h
      obtain ⟨t15_5, g15_5, h⟩ := h
      refine .reg0 rfl (.op 0 rfl (mvF rfl) <| .op 0 rfl (mvR rfl) <| .op 0 rfl (mvV rfl) <| .op 0 rfl (ixR (l := a0) (lit := TSpace.lit) sl23 rfl rfl TSpace.cells_lit g15_3.1 g15_3.2) <| .op 0 rfl (ldCG rfl sz25 ag25 rfl) <| .callI rfl (callee_of rfl hg1_ rfl) (.pure (allCons rfl hka1_) rfl (hq1_ _ _ g15_5)) <| .nil0) ?_
      by_cases c6 : t15_5 = true
      · rw [if_pos c6] at h
        refine .condT rfl c6 ?_
        refine .seq ?_
        refine .reg0 rfl (.op 0 rfl (mvV rfl) <| .op 0 rfl (asV rfl) <| .nil0) ?_
        have q3 := hr1 _ h
        replace q3 := q3.symm
        subst q3
        refine .keepL [] [(4, .val (.int .i64 x1))] [] (by decide) (by decide) ⟨.free rfl rfl, trivial⟩ trivial ?_
        exact .ret rfl
      · rw [if_neg c6] at h
        refine .condF rfl (Bool.eq_false_iff.mpr c6) ?_
        refine .skip ?_
        refine .inBlock ?_
        refine .reg0 rfl (.op 0 rfl (addI rfl rfl) <| .op 0 rfl (mvV rfl) <| .nil0) ?_
        refine .keepL [] [(0, .rows (a0.map TSpace.cells)), (1, .clo c1_ k1_), (7, .val (.int .i64 (a0.length : Int))), (8, .val (.int .i64 (IntKind.i64.wrap (x1 + 1))))] [] (by decide) (by decide) ⟨.free rfl rfl, .free rfl hk1_, .free rfl rfl, .free rfl rfl, trivial⟩ trivial ?_
        exact hn1 _ h
    · rw [if_neg c5] at h
      refine .condF rfl (decide_eq_false c5) ?_
      refine .exit rfl ?_
      refine .keepL [] [] [] (by decide) (by decide) trivial trivial ?_
      exact hx1 _ h
def slices_ContainsFunc_Space.f (a0 : List TSpace) (a1 : TSpace → Bool → Prop) (r : Bool) : Prop :=
  ∃ t2_2 : Int, (slices_IndexFunc_Space.f a0 a1 t2_2) ∧ r = (decide (t2_2 ≥ 0))
theorem slices_ContainsFunc_Space.D {a0 : List TSpace} {a1 : TSpace → Bool → Prop} {r : Bool} {c1_ : FuncId} {k1_ : List PV} (hg1_ : isGo Try.prog c1_ = true) (hk1_ : PV.free deep (.clo c1_ k1_) = true) (hka1_ : k1_.all (PV.free deep) = true) (hq1_ : ∀ x0_ y_, a1 x0_ y_ → D Try.prog X (.callH c1_ ([.agg (TSpace.lit x0_)] ++ k1_) [] (.val (.bool y_)) [])) (h : slices_ContainsFunc_Space.f a0 a1 r) : D Try.prog X (.callH 47 [.rows (a0.map TSpace.cells), .clo c1_ k1_] [] (.val (.bool r)) []) := by
  unfold slices_ContainsFunc_Space.f at h
  refine .enter 9 0 fn47 rfl rfl rfl ?_
  refine .seq ?_
  refine .reg0 rfl (.op 0 rfl (asV rfl) <| .nil0) ?_
  refine .seq ?_
  obtain ⟨t2_2, g2_2, h⟩ := h
  refine .reg0 rfl (.op 0 rfl (mvR rfl) <| .op 0 rfl (mvF rfl) <| .callI rfl (callee_of rfl go64 rfl) (.pure (allCons rfl (allCons hk1_ rfl)) rfl (slices_IndexFunc_Space.D hg1_ hk1_ hka1_ hq1_ g2_2)) <| .op 0 rfl (geI rfl rfl) <| .op 0 rfl (asV rfl) <| .nil0) ?_
  replace h := h.symm
  subst h
  refine .keepL [] [(4, .val (.bool (decide (t2_2 ≥ 0))))] [] (by decide) (by decide) ⟨.free rfl rfl, trivial⟩ trivial ?_
  exact .ret rfl
def weight_Space_1.f (self33 : TSpace → Int → Prop) (a0 : TSpace) (r : Bool) : Prop :=
  ∃ t2_5 : Int, (¬ (a0.Tag = 5) → self33 a0 t2_5) ∧ r = ((a0.Tag == 5) || (t2_5 != 0))
theorem weight_Space_1.D {self33 : TSpace → Int → Prop} {a0 : TSpace} (hs33 : ∀ z0_ r_, self33 z0_ r_ → D Try.prog X (.callH 33 [.agg (TSpace.lit z0_)] [] (.val (.int .i64 r_)) [])) {r : Bool} (h : weight_Space_1.f self33 a0 r) : D Try.prog X (.callH 48 [.agg (TSpace.lit a0)] [] (.val (.bool r)) []) := by
  unfold weight_Space_1.f at h
  refine .enter 11 0 fn48 rfl rfl rfl ?_
  refine .seq ?_
  refine .room 0 ?_
  refine .reg0 rfl (.op 0 rfl (bxP (s := 3) (cs := (TSpace.lit a0)) rfl ⟨rfl, by decide, rfl⟩ rfl) <| .op 0 rfl (asV rfl) <| .nil0) ?_
  refine .seq ?_
  obtain ⟨t2_5, g2_5, h⟩ := h
  refine .reg0 (e1 := listEnv [(2, .val (.bool ((a0.Tag == 5) || (t2_5 != 0))))]) (H1 := [⟨3, [(TSpace.lit a0)], 0, none⟩]) rfl ?_ ?_
  · by_cases c1 : a0.Tag = 5
    · exact (.op 0 rfl (faP fa25_0 rfl) <| .op 0 rfl (ldP rfl sz22 ag22 rfl) <| .op 0 rfl (eqI rfl rfl) <| .op 0 rfl (mvV rfl) <| .no (gF rfl rfl rfl (beq_iff_eq.mpr c1)) <| .no (gF rfl rfl rfl (beq_iff_eq.mpr c1)) <| .no (gF rfl rfl rfl (beq_iff_eq.mpr c1)) <| .op 0 rfl (pkTV rfl (beq_iff_eq.mpr c1) rfl) <| .op 0 rfl (asV rfl) <| .nilL _ ⟨cB rfl (mOrT (beq_iff_eq.mpr c1)), trivial⟩)
    · exact (.op 0 rfl (faP fa25_0 rfl) <| .op 0 rfl (ldP rfl sz22 ag22 rfl) <| .op 0 rfl (eqI rfl rfl) <| .op 0 rfl (mvV rfl) <| .op 0 (gT rfl rfl rfl (beq_eq_false_iff_ne.mpr c1)) (ldG rfl sz25 ag25 rfl) <| .callI (gT rfl rfl rfl (beq_eq_false_iff_ne.mpr c1)) (callee_of rfl go33 rfl) (.pure rfl rfl (hs33 _ _ (g2_5 c1))) <| .op 0 (gT rfl rfl rfl (beq_eq_false_iff_ne.mpr c1)) (neI rfl rfl) <| .op 0 rfl (pkFV rfl (beq_eq_false_iff_ne.mpr c1) rfl) <| .op 0 rfl (asV rfl) <| .nilL _ ⟨cB rfl (mOrF (beq_eq_false_iff_ne.mpr c1) rfl), trivial⟩)
  replace h := h.symm
  subst h
  refine .keepL [] [(2, .val (.bool ((a0.Tag == 5) || (t2_5 != 0))))] [] (by decide) (by decide) ⟨.free rfl rfl, trivial⟩ trivial ?_
  exact .ret rfl
def weight_Space.j1 (a0 : TSpace) : Unit → Int → Prop := fun _ r => if ((decide (a0.Dim ≥ 0)) && ((decide (a0.Dim ≤ 64)) && ((a0.Parts.length : Int) == 0))) = true then (r = 0) else (r = 50)
def weight_Space.step (self33 : TSpace → Int → Prop) (a0 : TSpace) (r : Int) : Prop :=
  if a0.Tag = 1 then (if ((a0.Dim == 0) && ((a0.Parts.length : Int) == 0)) = true then (r = 0) else (r = 50)) else (if a0.Tag = 2 then (if ((decide (a0.Dim ≥ 0)) && ((decide (a0.Dim ≤ 1048576)) && ((a0.Parts.length : Int) == 0))) = true then (r = 0) else (r = 50)) else (if a0.Tag = 3 then (weight_Space.j1 a0 () r) else (if a0.Tag = 4 then (weight_Space.j1 a0 () r) else (if a0.Tag = 5 then (∃ t40_12 : Bool, ((a0.Dim = 0) → ((a0.Parts.length : Int) = 2) → slices_ContainsFunc_Space.f a0.Parts (fun x0_ y_ => weight_Space_1.f self33 x0_ y_) t40_12) ∧ if ((a0.Dim == 0) && (((a0.Parts.length : Int) == 2) && (!t40_12))) = true then (r = 0) else (r = 50)) else (r = 50)))))
theorem weight_Space.stepD {self33 : TSpace → Int → Prop} {a0 : TSpace} (hs33 : ∀ z0_ r_, self33 z0_ r_ → D Try.prog X (.callH 33 [.agg (TSpace.lit z0_)] [] (.val (.int .i64 r_)) [])) {r : Int} (h : weight_Space.step self33 a0 r) : D Try.prog X (.callH 33 [.agg (TSpace.lit a0)] [] (.val (.int .i64 r)) []) := by
  unfold weight_Space.step at h
  refine .enter 70 0 fn33 rfl rfl rfl ?_
  refine .seq ?_
  refine .room 0 ?_
  refine .reg0 rfl (.op 0 rfl (bxP (s := 3) (cs := (TSpace.lit a0)) rfl ⟨rfl, by decide, rfl⟩ rfl) <| .op 0 rfl (asV rfl) <| .nil0) ?_
  refine .seq ?_
  refine .reg0 rfl (.op 0 rfl (asV rfl) <| .nil0) ?_
  refine .seq ?_
  refine .seq ?_
  refine .reg0 rfl (.op 0 rfl (faP fa25_0 rfl) <| .op 0 rfl (ldP rfl sz22 ag22 rfl) <| .nil0) ?_
  refine .block ?_
  refine .seq ?_
  refine .block ?_
  refine .seq ?_
  refine .consJ (fun s_ => weight_Space.j1 a0 s_ r) (fun _ => listEnv [(1, .ptr 0 1 3 0 0)]) (fun _ => [⟨3, [(TSpace.lit a0)], 0, none⟩]) ?_ fun hJ1 => ?_
  · rintro ⟨⟩ h
    unfold weight_Space.j1 at h
    try dsimp only at h
    refine .seq ?_
    refine .reg0 (e1 := listEnv [(3, .val (.bool ((decide (a0.Dim ≥ 0)) && ((decide (a0.Dim ≤ 64)) && ((a0.Parts.length : Int) == 0)))))]) (H1 := [⟨3, [(TSpace.lit a0)], 0, none⟩]) rfl ?_ ?_
    · by_cases c14 : a0.Dim ≥ 0
      · by_cases c15 : a0.Dim ≤ 64
        · exact (.op 0 rfl (faP fa25_1 rfl) <| .op 0 rfl (ldP rfl sz3 ag3 rfl) <| .op 0 rfl (geI rfl rfl) <| .op 0 rfl (mvV rfl) <| .op 0 (gT rfl rfl rfl (decide_eq_true c14)) (faP fa25_1 rfl) <| .op 0 (gT rfl rfl rfl (decide_eq_true c14)) (ldP rfl sz3 ag3 rfl) <| .op 0 (gT rfl rfl rfl (decide_eq_true c14)) (leI rfl rfl) <| .op 0 rfl (pkTV rfl (decide_eq_true c14) rfl) <| .op 0 rfl (mvV rfl) <| .op 0 (gT rfl rfl rfl (decide_eq_true c15)) (faP fa25_2 rfl) <| .op 0 (gT rfl rfl rfl (decide_eq_true c15)) (ldP rfl sz23 ag23 rfl) <| .op 0 (gT rfl rfl rfl (decide_eq_true c15)) (lnR (l := a0.Parts) sl23 rfl) <| .op 0 (gT rfl rfl rfl (decide_eq_true c15)) (eqI rfl rfl) <| .op 0 rfl (pkTV rfl (decide_eq_true c15) rfl) <| .op 0 rfl (asV rfl) <| .nilL _ ⟨cB rfl (mAndT (decide_eq_true c14) (mAndT (decide_eq_true c15) rfl)), trivial⟩)
        · exact (.op 0 rfl (faP fa25_1 rfl) <| .op 0 rfl (ldP rfl sz3 ag3 rfl) <| .op 0 rfl (geI rfl rfl) <| .op 0 rfl (mvV rfl) <| .op 0 (gT rfl rfl rfl (decide_eq_true c14)) (faP fa25_1 rfl) <| .op 0 (gT rfl rfl rfl (decide_eq_true c14)) (ldP rfl sz3 ag3 rfl) <| .op 0 (gT rfl rfl rfl (decide_eq_true c14)) (leI rfl rfl) <| .op 0 rfl (pkTV rfl (decide_eq_true c14) rfl) <| .op 0 rfl (mvV rfl) <| .no (gF rfl rfl rfl (decide_eq_false c15)) <| .no (gF rfl rfl rfl (decide_eq_false c15)) <| .no (gF rfl rfl rfl (decide_eq_false c15)) <| .no (gF rfl rfl rfl (decide_eq_false c15)) <| .op 0 rfl (pkFV rfl (decide_eq_false c15) rfl) <| .op 0 rfl (asV rfl) <| .nilL _ ⟨cB rfl (mAndT (decide_eq_true c14) (mAndF (decide_eq_false c15))), trivial⟩)
      · exact (.op 0 rfl (faP fa25_1 rfl) <| .op 0 rfl (ldP rfl sz3 ag3 rfl) <| .op 0 rfl (geI rfl rfl) <| .op 0 rfl (mvV rfl) <| .no (gF rfl rfl rfl (decide_eq_false c14)) <| .no (gF rfl rfl rfl (decide_eq_false c14)) <| .no (gF rfl rfl rfl (decide_eq_false c14)) <| .op 0 rfl (pkFV rfl (decide_eq_false c14) rfl) <| .op 0 rfl (mvV rfl) <| .no (gF rfl rfl rfl rfl) <| .no (gF rfl rfl rfl rfl) <| .no (gF rfl rfl rfl rfl) <| .no (gF rfl rfl rfl rfl) <| .op 0 rfl (pkFV rfl rfl rfl) <| .op 0 rfl (asV rfl) <| .nilL _ ⟨cB rfl (mAndF (decide_eq_false c14)), trivial⟩)
    refine .exit rfl ?_
    refine .seq ?_
    refine .seq ?_
    refine .reg0 rfl (.op 0 rfl (mvV rfl) <| .op 0 rfl (notB rfl) <| .nil0) ?_
    by_cases c16 : ((decide (a0.Dim ≥ 0)) && ((decide (a0.Dim ≤ 64)) && ((a0.Parts.length : Int) == 0))) = true
    · rw [if_pos c16] at h
      refine .condF rfl (bnotF c16) ?_
      refine .skip ?_
      refine .seq ?_
      refine .reg0 rfl (.op 0 rfl (asV rfl) <| .nil0) ?_
      replace h := h.symm
      subst h
      refine .keepL [] [(2, .val (.int .i64 0))] [] (by decide) (by decide) ⟨.free rfl rfl, trivial⟩ trivial ?_
      exact .ret rfl
    · rw [if_neg c16] at h
      refine .condT rfl (bnotT (Bool.eq_false_iff.mpr c16)) ?_
      refine .seq ?_
      refine .reg0 rfl (.op 0 rfl (asV rfl) <| .nil0) ?_
      replace h := h.symm
      subst h
      refine .keepL [] [(2, .val (.int .i64 50))] [] (by decide) (by decide) ⟨.free rfl rfl, trivial⟩ trivial ?_
      exact .ret rfl
  · refine .block ?_
    refine .block ?_
    refine .seq ?_
    refine .block ?_
    refine .seq ?_
    refine .block ?_
    refine .seq ?_
    refine .seq ?_
    refine .seq ?_
    refine .reg0 rfl (.op 0 rfl (eqI rfl rfl) <| .op 0 rfl (asV rfl) <| .nil0) ?_
    by_cases c17 : a0.Tag = 1
    · rw [if_pos c17] at h
      refine .condT rfl (beq_iff_eq.mpr c17) ?_
      refine .exit rfl ?_
      refine .seq ?_
      refine .reg0 (e1 := listEnv [(3, .val (.bool ((a0.Dim == 0) && ((a0.Parts.length : Int) == 0))))]) (H1 := [⟨3, [(TSpace.lit a0)], 0, none⟩]) rfl ?_ ?_
      · by_cases c18 : a0.Dim = 0
        · exact (.op 0 rfl (faP fa25_1 rfl) <| .op 0 rfl (ldP rfl sz3 ag3 rfl) <| .op 0 rfl (eqI rfl rfl) <| .op 0 rfl (mvV rfl) <| .op 0 (gT rfl rfl rfl (beq_iff_eq.mpr c18)) (faP fa25_2 rfl) <| .op 0 (gT rfl rfl rfl (beq_iff_eq.mpr c18)) (ldP rfl sz23 ag23 rfl) <| .op 0 (gT rfl rfl rfl (beq_iff_eq.mpr c18)) (lnR (l := a0.Parts) sl23 rfl) <| .op 0 (gT rfl rfl rfl (beq_iff_eq.mpr c18)) (eqI rfl rfl) <| .op 0 rfl (pkTV rfl (beq_iff_eq.mpr c18) rfl) <| .op 0 rfl (asV rfl) <| .nilL _ ⟨cB rfl (mAndT (beq_iff_eq.mpr c18) rfl), trivial⟩)
        · exact (.op 0 rfl (faP fa25_1 rfl) <| .op 0 rfl (ldP rfl sz3 ag3 rfl) <| .op 0 rfl (eqI rfl rfl) <| .op 0 rfl (mvV rfl) <| .no (gF rfl rfl rfl (beq_eq_false_iff_ne.mpr c18)) <| .no (gF rfl rfl rfl (beq_eq_false_iff_ne.mpr c18)) <| .no (gF rfl rfl rfl (beq_eq_false_iff_ne.mpr c18)) <| .no (gF rfl rfl rfl (beq_eq_false_iff_ne.mpr c18)) <| .op 0 rfl (pkFV rfl (beq_eq_false_iff_ne.mpr c18) rfl) <| .op 0 rfl (asV rfl) <| .nilL _ ⟨cB rfl (mAndF (beq_eq_false_iff_ne.mpr c18)), trivial⟩)
      refine .exit rfl ?_
      refine .seq ?_
      refine .seq ?_
      refine .reg0 rfl (.op 0 rfl (mvV rfl) <| .op 0 rfl (notB rfl) <| .nil0) ?_
      by_cases c19 : ((a0.Dim == 0) && ((a0.Parts.length : Int) == 0)) = true
      · rw [if_pos c19] at h
        refine .condF rfl (bnotF c19) ?_
        refine .skip ?_
        refine .seq ?_
        refine .reg0 rfl (.op 0 rfl (asV rfl) <| .nil0) ?_
        replace h := h.symm
        subst h
        refine .keepL [] [(2, .val (.int .i64 0))] [] (by decide) (by decide) ⟨.free rfl rfl, trivial⟩ trivial ?_
        exact .ret rfl
      · rw [if_neg c19] at h
        refine .condT rfl (bnotT (Bool.eq_false_iff.mpr c19)) ?_
        refine .seq ?_
        refine .reg0 rfl (.op 0 rfl (asV rfl) <| .nil0) ?_
        replace h := h.symm
        subst h
        refine .keepL [] [(2, .val (.int .i64 50))] [] (by decide) (by decide) ⟨.free rfl rfl, trivial⟩ trivial ?_
        exact .ret rfl
    · rw [if_neg c17] at h
      refine .condF rfl (beq_eq_false_iff_ne.mpr c17) ?_
      refine .skip ?_
      refine .seq ?_
      refine .seq ?_
      refine .reg0 rfl (.op 0 rfl (eqI rfl rfl) <| .op 0 rfl (asV rfl) <| .nil0) ?_
      by_cases c20 : a0.Tag = 2
      · rw [if_pos c20] at h
        refine .condT rfl (beq_iff_eq.mpr c20) ?_
        refine .exit rfl ?_
        refine .seq ?_
        refine .reg0 (e1 := listEnv [(3, .val (.bool ((decide (a0.Dim ≥ 0)) && ((decide (a0.Dim ≤ 1048576)) && ((a0.Parts.length : Int) == 0)))))]) (H1 := [⟨3, [(TSpace.lit a0)], 0, none⟩]) rfl ?_ ?_
        · by_cases c21 : a0.Dim ≥ 0
          · by_cases c22 : a0.Dim ≤ 1048576
            · exact (.op 0 rfl (faP fa25_1 rfl) <| .op 0 rfl (ldP rfl sz3 ag3 rfl) <| .op 0 rfl (geI rfl rfl) <| .op 0 rfl (mvV rfl) <| .op 0 (gT rfl rfl rfl (decide_eq_true c21)) (faP fa25_1 rfl) <| .op 0 (gT rfl rfl rfl (decide_eq_true c21)) (ldP rfl sz3 ag3 rfl) <| .op 0 (gT rfl rfl rfl (decide_eq_true c21)) (leI rfl rfl) <| .op 0 rfl (pkTV rfl (decide_eq_true c21) rfl) <| .op 0 rfl (mvV rfl) <| .op 0 (gT rfl rfl rfl (decide_eq_true c22)) (faP fa25_2 rfl) <| .op 0 (gT rfl rfl rfl (decide_eq_true c22)) (ldP rfl sz23 ag23 rfl) <| .op 0 (gT rfl rfl rfl (decide_eq_true c22)) (lnR (l := a0.Parts) sl23 rfl) <| .op 0 (gT rfl rfl rfl (decide_eq_true c22)) (eqI rfl rfl) <| .op 0 rfl (pkTV rfl (decide_eq_true c22) rfl) <| .op 0 rfl (asV rfl) <| .nilL _ ⟨cB rfl (mAndT (decide_eq_true c21) (mAndT (decide_eq_true c22) rfl)), trivial⟩)
            · exact (.op 0 rfl (faP fa25_1 rfl) <| .op 0 rfl (ldP rfl sz3 ag3 rfl) <| .op 0 rfl (geI rfl rfl) <| .op 0 rfl (mvV rfl) <| .op 0 (gT rfl rfl rfl (decide_eq_true c21)) (faP fa25_1 rfl) <| .op 0 (gT rfl rfl rfl (decide_eq_true c21)) (ldP rfl sz3 ag3 rfl) <| .op 0 (gT rfl rfl rfl (decide_eq_true c21)) (leI rfl rfl) <| .op 0 rfl (pkTV rfl (decide_eq_true c21) rfl) <| .op 0 rfl (mvV rfl) <| .no (gF rfl rfl rfl (decide_eq_false c22)) <| .no (gF rfl rfl rfl (decide_eq_false c22)) <| .no (gF rfl rfl rfl (decide_eq_false c22)) <| .no (gF rfl rfl rfl (decide_eq_false c22)) <| .op 0 rfl (pkFV rfl (decide_eq_false c22) rfl) <| .op 0 rfl (asV rfl) <| .nilL _ ⟨cB rfl (mAndT (decide_eq_true c21) (mAndF (decide_eq_false c22))), trivial⟩)
          · exact (.op 0 rfl (faP fa25_1 rfl) <| .op 0 rfl (ldP rfl sz3 ag3 rfl) <| .op 0 rfl (geI rfl rfl) <| .op 0 rfl (mvV rfl) <| .no (gF rfl rfl rfl (decide_eq_false c21)) <| .no (gF rfl rfl rfl (decide_eq_false c21)) <| .no (gF rfl rfl rfl (decide_eq_false c21)) <| .op 0 rfl (pkFV rfl (decide_eq_false c21) rfl) <| .op 0 rfl (mvV rfl) <| .no (gF rfl rfl rfl rfl) <| .no (gF rfl rfl rfl rfl) <| .no (gF rfl rfl rfl rfl) <| .no (gF rfl rfl rfl rfl) <| .op 0 rfl (pkFV rfl rfl rfl) <| .op 0 rfl (asV rfl) <| .nilL _ ⟨cB rfl (mAndF (decide_eq_false c21)), trivial⟩)
        refine .exit rfl ?_
        refine .seq ?_
        refine .seq ?_
        refine .reg0 rfl (.op 0 rfl (mvV rfl) <| .op 0 rfl (notB rfl) <| .nil0) ?_
        by_cases c23 : ((decide (a0.Dim ≥ 0)) && ((decide (a0.Dim ≤ 1048576)) && ((a0.Parts.length : Int) == 0))) = true
        · rw [if_pos c23] at h
          refine .condF rfl (bnotF c23) ?_
          refine .skip ?_
          refine .seq ?_
          refine .reg0 rfl (.op 0 rfl (asV rfl) <| .nil0) ?_
          replace h := h.symm
          subst h
          refine .keepL [] [(2, .val (.int .i64 0))] [] (by decide) (by decide) ⟨.free rfl rfl, trivial⟩ trivial ?_
          exact .ret rfl
        · rw [if_neg c23] at h
          refine .condT rfl (bnotT (Bool.eq_false_iff.mpr c23)) ?_
          refine .seq ?_
          refine .reg0 rfl (.op 0 rfl (asV rfl) <| .nil0) ?_
          replace h := h.symm
          subst h
          refine .keepL [] [(2, .val (.int .i64 50))] [] (by decide) (by decide) ⟨.free rfl rfl, trivial⟩ trivial ?_
          exact .ret rfl
      · rw [if_neg c20] at h
        refine .condF rfl (beq_eq_false_iff_ne.mpr c20) ?_
        refine .skip ?_
        refine .seq ?_
        refine .seq ?_
        refine .reg0 rfl (.op 0 rfl (eqI rfl rfl) <| .op 0 rfl (asV rfl) <| .nil0) ?_
        by_cases c24 : a0.Tag = 3
        · rw [if_pos c24] at h
          refine .condT rfl (beq_iff_eq.mpr c24) ?_
          refine .exit rfl ?_
          refine .inBlock ?_
          refine .keepL [0] [(1, .ptr 0 1 3 0 0)] [⟨3, [(TSpace.lit a0)], 0, none⟩] (by decide) (by decide) ⟨.ptr rfl, trivial⟩ ⟨⟨_, rfl, bcBox (all2_free rfl)⟩, trivial⟩ ?_
          exact hJ1 _ h
        · rw [if_neg c24] at h
          refine .condF rfl (beq_eq_false_iff_ne.mpr c24) ?_
          refine .skip ?_
          refine .seq ?_
          refine .seq ?_
          refine .reg0 rfl (.op 0 rfl (eqI rfl rfl) <| .op 0 rfl (asV rfl) <| .nil0) ?_
          by_cases c25 : a0.Tag = 4
          · rw [if_pos c25] at h
            refine .condT rfl (beq_iff_eq.mpr c25) ?_
            refine .exit rfl ?_
            refine .keepL [0] [(1, .ptr 0 1 3 0 0)] [⟨3, [(TSpace.lit a0)], 0, none⟩] (by decide) (by decide) ⟨.ptr rfl, trivial⟩ ⟨⟨_, rfl, bcBox (all2_free rfl)⟩, trivial⟩ ?_
            exact hJ1 _ h
          · rw [if_neg c25] at h
            refine .condF rfl (beq_eq_false_iff_ne.mpr c25) ?_
            refine .skip ?_
            refine .seq ?_
            refine .reg0 rfl (.op 0 rfl (eqI rfl rfl) <| .op 0 rfl (asV rfl) <| .nil0) ?_
            by_cases c26 : a0.Tag = 5
            · rw [if_pos c26] at h
              refine .condT rfl (beq_iff_eq.mpr c26) ?_
              refine .exit rfl ?_
              refine .seq ?_
              obtain ⟨t40_12, g40_12, h⟩ := h
              refine .reg0 (e1 := listEnv [(3, .val (.bool ((a0.Dim == 0) && (((a0.Parts.length : Int) == 2) && (!t40_12)))))]) (H1 := [⟨3, [(TSpace.lit a0)], 0, none⟩]) rfl ?_ ?_
              · by_cases c27 : a0.Dim = 0
                · by_cases c28 : (a0.Parts.length : Int) = 2
                  · exact (.op 0 rfl (faP fa25_1 rfl) <| .op 0 rfl (ldP rfl sz3 ag3 rfl) <| .op 0 rfl (eqI rfl rfl) <| .op 0 rfl (mvV rfl) <| .op 0 (gT rfl rfl rfl (beq_iff_eq.mpr c27)) (faP fa25_2 rfl) <| .op 0 (gT rfl rfl rfl (beq_iff_eq.mpr c27)) (ldP rfl sz23 ag23 rfl) <| .op 0 (gT rfl rfl rfl (beq_iff_eq.mpr c27)) (lnR (l := a0.Parts) sl23 rfl) <| .op 0 (gT rfl rfl rfl (beq_iff_eq.mpr c27)) (eqI rfl rfl) <| .op 0 rfl (pkTV rfl (beq_iff_eq.mpr c27) rfl) <| .op 0 rfl (mvV rfl) <| .op 0 (gT rfl rfl rfl (beq_iff_eq.mpr c28)) (faP fa25_2 rfl) <| .op 0 (gT rfl rfl rfl (beq_iff_eq.mpr c28)) (ldP rfl sz23 ag23 rfl) <| .callI (gT rfl rfl rfl (beq_iff_eq.mpr c28)) (callee_of rfl go47 rfl) (.pure rfl rfl (slices_ContainsFunc_Space.D (k1_ := []) go48 rfl rfl (fun x0_ y_ h_ => weight_Space_1.D hs33 h_) (g40_12 c27 c28))) <| .op 0 (gT rfl rfl rfl (beq_iff_eq.mpr c28)) (notB rfl) <| .op 0 rfl (pkTV rfl (beq_iff_eq.mpr c28) rfl) <| .op 0 rfl (asV rfl) <| .nilL _ ⟨cB rfl (mAndT (beq_iff_eq.mpr c27) (mAndT (beq_iff_eq.mpr c28) rfl)), trivial⟩)
                  · exact (.op 0 rfl (faP fa25_1 rfl) <| .op 0 rfl (ldP rfl sz3 ag3 rfl) <| .op 0 rfl (eqI rfl rfl) <| .op 0 rfl (mvV rfl) <| .op 0 (gT rfl rfl rfl (beq_iff_eq.mpr c27)) (faP fa25_2 rfl) <| .op 0 (gT rfl rfl rfl (beq_iff_eq.mpr c27)) (ldP rfl sz23 ag23 rfl) <| .op 0 (gT rfl rfl rfl (beq_iff_eq.mpr c27)) (lnR (l := a0.Parts) sl23 rfl) <| .op 0 (gT rfl rfl rfl (beq_iff_eq.mpr c27)) (eqI rfl rfl) <| .op 0 rfl (pkTV rfl (beq_iff_eq.mpr c27) rfl) <| .op 0 rfl (mvV rfl) <| .no (gF rfl rfl rfl (beq_eq_false_iff_ne.mpr c28)) <| .no (gF rfl rfl rfl (beq_eq_false_iff_ne.mpr c28)) <| .no (gF rfl rfl rfl (beq_eq_false_iff_ne.mpr c28)) <| .no (gF rfl rfl rfl (beq_eq_false_iff_ne.mpr c28)) <| .op 0 rfl (pkFV rfl (beq_eq_false_iff_ne.mpr c28) rfl) <| .op 0 rfl (asV rfl) <| .nilL _ ⟨cB rfl (mAndT (beq_iff_eq.mpr c27) (mAndF (beq_eq_false_iff_ne.mpr c28))), trivial⟩)
                · exact (.op 0 rfl (faP fa25_1 rfl) <| .op 0 rfl (ldP rfl sz3 ag3 rfl) <| .op 0 rfl (eqI rfl rfl) <| .op 0 rfl (mvV rfl) <| .no (gF rfl rfl rfl (beq_eq_false_iff_ne.mpr c27)) <| .no (gF rfl rfl rfl (beq_eq_false_iff_ne.mpr c27)) <| .no (gF rfl rfl rfl (beq_eq_false_iff_ne.mpr c27)) <| .no (gF rfl rfl rfl (beq_eq_false_iff_ne.mpr c27)) <| .op 0 rfl (pkFV rfl (beq_eq_false_iff_ne.mpr c27) rfl) <| .op 0 rfl (mvV rfl) <| .no (gF rfl rfl rfl rfl) <| .no (gF rfl rfl rfl rfl) <| .no (gF rfl rfl rfl rfl) <| .no (gF rfl rfl rfl rfl) <| .op 0 rfl (pkFV rfl rfl rfl) <| .op 0 rfl (asV rfl) <| .nilL _ ⟨cB rfl (mAndF (beq_eq_false_iff_ne.mpr c27)), trivial⟩)
              refine .exit rfl ?_
              refine .seq ?_
              refine .seq ?_
              refine .reg0 rfl (.op 0 rfl (mvV rfl) <| .op 0 rfl (notB rfl) <| .nil0) ?_
              by_cases c29 : ((a0.Dim == 0) && (((a0.Parts.length : Int) == 2) && (!t40_12))) = true
              · rw [if_pos c29] at h
                refine .condF rfl (bnotF c29) ?_
                refine .skip ?_
                refine .seq ?_
                refine .reg0 rfl (.op 0 rfl (asV rfl) <| .nil0) ?_
                replace h := h.symm
                subst h
                refine .keepL [] [(2, .val (.int .i64 0))] [] (by decide) (by decide) ⟨.free rfl rfl, trivial⟩ trivial ?_
                exact .ret rfl
              · rw [if_neg c29] at h
                refine .condT rfl (bnotT (Bool.eq_false_iff.mpr c29)) ?_
                refine .seq ?_
                refine .reg0 rfl (.op 0 rfl (asV rfl) <| .nil0) ?_
                replace h := h.symm
                subst h
                refine .keepL [] [(2, .val (.int .i64 50))] [] (by decide) (by decide) ⟨.free rfl rfl, trivial⟩ trivial ?_
                exact .ret rfl
            · rw [if_neg c26] at h
              refine .condF rfl (beq_eq_false_iff_ne.mpr c26) ?_
              refine .skip ?_
              refine .exit rfl ?_
              refine .seq ?_
              refine .seq ?_
              refine .reg0 rfl (.op 0 rfl (mvV rfl) <| .op 0 rfl (notB rfl) <| .nil0) ?_
              refine .condT rfl (bnotT rfl) ?_
              refine .seq ?_
              refine .reg0 rfl (.op 0 rfl (asV rfl) <| .nil0) ?_
              replace h := h.symm
              subst h
              refine .keepL [] [(2, .val (.int .i64 50))] [] (by decide) (by decide) ⟨.free rfl rfl, trivial⟩ trivial ?_
              exact .ret rfl
def weight_Space.fN : Nat → TSpace → Int → Prop
  | 0 => fun _ _ => False
  | n + 1 => weight_Space.step (weight_Space.fN n)
theorem weight_Space.ND : ∀ (n : Nat) {a0 : TSpace} {r : Int} (h : weight_Space.fN n a0 r), D Try.prog X (.callH 33 [.agg (TSpace.lit a0)] [] (.val (.int .i64 r)) [])
  | 0, _, _, h => h.elim
  | n + 1, _, _, h => weight_Space.stepD (fun _ _ h => weight_Space.ND n h) h
def weight_Space.f (a0 : TSpace) (r : Int) : Prop := ∃ n, weight_Space.fN n a0 r
theorem weight_Space.D {a0 : TSpace} {r : Int} (h : weight_Space.f a0 r) : D Try.prog X (.callH 33 [.agg (TSpace.lit a0)] [] (.val (.int .i64 r)) []) := by obtain ⟨n, h⟩ := h; exact weight_Space.ND n h
def slices_IndexFunc_Rule.b1 (a0 : List TRule) (a1 : TRule → Bool → Prop) : Int → Rnd Int Unit Int → Prop := fun x1 z1 => if x1 < (a0.length : Int) then (((InR x1 a0.length)) ∧ ∃ t15_5 : Bool, (a1 (rdl a0 x1) t15_5) ∧ if t15_5 = true then (z1 = .ret x1) else (z1 = .next (IntKind.i64.wrap (x1 + 1)))) else (z1 = .exit ())
def slices_IndexFunc_Rule.f (a0 : List TRule) (a1 : TRule → Bool → Prop) (r : Int) : Prop :=
  ∃ o1 : Fin Unit Int, Loop (slices_IndexFunc_Rule.b1 a0 a1) 0 o1 ∧ o1.on (fun _ => r = (-1)) (fun r_ => r = r_)
theorem slices_IndexFunc_Rule.D {a0 : List TRule} {a1 : TRule → Bool → Prop} {r : Int} {c1_ : FuncId} {k1_ : List PV} (hg1_ : isGo Try.prog c1_ = true) (hk1_ : PV.free deep (.clo c1_ k1_) = true) (hka1_ : k1_.all (PV.free deep) = true) (hq1_ : ∀ x0_ y_, a1 x0_ y_ → D Try.prog X (.callH c1_ ([.agg (TRule.lit x0_)] ++ k1_) [] (.val (.bool y_)) [])) (h : slices_IndexFunc_Rule.f a0 a1 r) : D Try.prog X (.callH 49 [.rows (a0.map TRule.cells), .clo c1_ k1_] [] (.val (.int .i64 r)) []) := by
  unfold slices_IndexFunc_Rule.f at h
  refine .enter 19 0 fn49 rfl rfl rfl ?_
  refine .seq ?_
  refine .reg0 rfl (.op 0 rfl (asV rfl) <| .nil0) ?_
  refine .seq ?_
  refine .seq ?_
  refine .reg0 rfl (.op 0 rfl (mvR rfl) <| .op 0 rfl (lnR (l := a0) sl26 rfl) <| .op 0 rfl (mvV rfl) <| .nil0) ?_
  refine .block ?_
  refine .keepL [] [(0, .rows (a0.map TRule.cells)), (1, .clo c1_ k1_), (7, .val (.int .i64 (a0.length : Int))), (8, .val (.int .i64 0))] [] (by decide) (by decide) ⟨.free rfl rfl, .free rfl hk1_, .free rfl rfl, .free rfl rfl, trivial⟩ trivial ?_
  obtain ⟨o1, hL1, h⟩ := h
  refine .loopB (slices_IndexFunc_Rule.b1 a0 a1) (fun x1 => listEnv [(0, .rows (a0.map TRule.cells)), (1, .clo c1_ k1_), (7, .val (.int .i64 (a0.length : Int))), (8, .val (.int .i64 x1))]) (fun x1 => []) (fun _ => listEnv []) (fun _ => []) hL1 (fun r_ => r = r_) ?_ ?_ ?_
  · rintro ⟨⟩ rfl
    try dsimp only [Fin.on] at h
    refine .seq ?_
    refine .reg0 rfl (.op 0 rfl (asV rfl) <| .nil0) ?_
    replace h := h.symm
    subst h
    refine .keepL [] [(4, .val (.int .i64 (-1)))] [] (by decide) (by decide) ⟨.free rfl rfl, trivial⟩ trivial ?_
    exact .ret rfl
  · rintro r_ rfl
    exact h
  · rintro x1 z1 h hn1 hx1 hr1
    dsimp only [slices_IndexFunc_Rule.b1] at h
    refine .seq ?_
    refine .reg0 rfl (.op 0 rfl (ltI rfl rfl) <| .nil0) ?_
    refine .seq ?_
    by_cases c5 : x1 < (a0.length : Int)
    · rw [if_pos c5] at h
      refine .condT rfl (decide_eq_true c5) ?_
      refine .skip ?_
      refine .seq ?_
      refine .block ?_
      refine .seq ?_
      refine .reg0 rfl (.op 0 rfl (mvV rfl) <| .op 0 rfl (asV rfl) <| .nil0) ?_
      refine .seq ?_
      obtain ⟨g15_3, h⟩ := h
      obtain ⟨t15_5, g15_5, h⟩ := h
      refine .reg0 rfl (.op 0 rfl (mvF rfl) <| .op 0 rfl (mvR rfl) <| .op 0 rfl (mvV rfl) <| .op 0 rfl (ixR (l := a0) (lit := TRule.lit) sl26 rfl rfl (fun _ => rfl) g15_3.1 g15_3.2) <| .op 0 rfl (ldCG rfl sz51 ag51 rfl) <| .callI rfl (callee_of rfl hg1_ rfl) (.pure (allCons rfl hka1_) rfl (hq1_ _ _ g15_5)) <| .nil0) ?_
      by_cases c6 : t15_5 = true
      · rw [if_pos c6] at h
        refine .condT rfl c6 ?_
        refine .seq ?_
        refine .reg0 rfl (.op 0 rfl (mvV rfl) <| .op 0 rfl (asV rfl) <| .nil0) ?_
        have q3 := hr1 _ h
        replace q3 := q3.symm
        subst q3
        refine .keepL [] [(4, .val (.int .i64 x1))] [] (by decide) (by decide) ⟨.free rfl rfl, trivial⟩ trivial ?_
        exact .ret rfl
      · rw [if_neg c6] at h
        refine .condF rfl (Bool.eq_false_iff.mpr c6) ?_
        refine .skip ?_
        refine .inBlock ?_
        refine .reg0 rfl (.op 0 rfl (addI rfl rfl) <| .op 0 rfl (mvV rfl) <| .nil0) ?_
        refine .keepL [] [(0, .rows (a0.map TRule.cells)), (1, .clo c1_ k1_), (7, .val (.int .i64 (a0.length : Int))), (8, .val (.int .i64 (IntKind.i64.wrap (x1 + 1))))] [] (by decide) (by decide) ⟨.free rfl rfl, .free rfl hk1_, .free rfl rfl, .free rfl rfl, trivial⟩ trivial ?_
        exact hn1 _ h
    · rw [if_neg c5] at h
      refine .condF rfl (decide_eq_false c5) ?_
      refine .exit rfl ?_
      refine .keepL [] [] [] (by decide) (by decide) trivial trivial ?_
      exact hx1 _ h
def slices_ContainsFunc_Rule.f (a0 : List TRule) (a1 : TRule → Bool → Prop) (r : Bool) : Prop :=
  ∃ t2_2 : Int, (slices_IndexFunc_Rule.f a0 a1 t2_2) ∧ r = (decide (t2_2 ≥ 0))
theorem slices_ContainsFunc_Rule.D {a0 : List TRule} {a1 : TRule → Bool → Prop} {r : Bool} {c1_ : FuncId} {k1_ : List PV} (hg1_ : isGo Try.prog c1_ = true) (hk1_ : PV.free deep (.clo c1_ k1_) = true) (hka1_ : k1_.all (PV.free deep) = true) (hq1_ : ∀ x0_ y_, a1 x0_ y_ → D Try.prog X (.callH c1_ ([.agg (TRule.lit x0_)] ++ k1_) [] (.val (.bool y_)) [])) (h : slices_ContainsFunc_Rule.f a0 a1 r) : D Try.prog X (.callH 34 [.rows (a0.map TRule.cells), .clo c1_ k1_] [] (.val (.bool r)) []) := by
  unfold slices_ContainsFunc_Rule.f at h
  refine .enter 9 0 fn34 rfl rfl rfl ?_
  refine .seq ?_
  refine .reg0 rfl (.op 0 rfl (asV rfl) <| .nil0) ?_
  refine .seq ?_
  obtain ⟨t2_2, g2_2, h⟩ := h
  refine .reg0 rfl (.op 0 rfl (mvR rfl) <| .op 0 rfl (mvF rfl) <| .callI rfl (callee_of rfl go49 rfl) (.pure (allCons rfl (allCons hk1_ rfl)) rfl (slices_IndexFunc_Rule.D hg1_ hk1_ hka1_ hq1_ g2_2)) <| .op 0 rfl (geI rfl rfl) <| .op 0 rfl (asV rfl) <| .nil0) ?_
  replace h := h.symm
  subst h
  refine .keepL [] [(4, .val (.bool (decide (t2_2 ≥ 0))))] [] (by decide) (by decide) ⟨.free rfl rfl, trivial⟩ trivial ?_
  exact .ret rfl
def pds_in.f (a0 : Int) (a1 : Int) (r : Bool) : Prop :=
  r = ((decide (a0 ≥ 0)) && (decide (a0 < a1)))
theorem pds_in.D {a0 : Int} {a1 : Int} {r : Bool} (h : pds_in.f a0 a1 r) : D Try.prog X (.callH 31 [.val (.int .i64 a0), .val (.int .i64 a1)] [] (.val (.bool r)) []) := by
  unfold pds_in.f at h
  refine .enter 12 0 fn31 rfl rfl rfl ?_
  refine .seq ?_
  refine .reg0 rfl (.op 0 rfl (asV rfl) <| .nil0) ?_
  refine .seq ?_
  refine .reg0 (e1 := listEnv [(4, .val (.bool ((decide (a0 ≥ 0)) && (decide (a0 < a1)))))]) (H1 := []) rfl ?_ ?_
  · by_cases c1 : a0 ≥ 0
    · exact (.op 0 rfl (mvV rfl) <| .op 0 rfl (geI rfl rfl) <| .op 0 rfl (mvV rfl) <| .op 0 (gT rfl rfl rfl (decide_eq_true c1)) (mvV rfl) <| .op 0 (gT rfl rfl rfl (decide_eq_true c1)) (mvV rfl) <| .op 0 (gT rfl rfl rfl (decide_eq_true c1)) (ltI rfl rfl) <| .op 0 rfl (pkTV rfl (decide_eq_true c1) rfl) <| .op 0 rfl (asV rfl) <| .nilL _ ⟨cB rfl (mAndT (decide_eq_true c1) rfl), trivial⟩)
    · exact (.op 0 rfl (mvV rfl) <| .op 0 rfl (geI rfl rfl) <| .op 0 rfl (mvV rfl) <| .no (gF rfl rfl rfl (decide_eq_false c1)) <| .no (gF rfl rfl rfl (decide_eq_false c1)) <| .no (gF rfl rfl rfl (decide_eq_false c1)) <| .op 0 rfl (pkFV rfl (decide_eq_false c1) rfl) <| .op 0 rfl (asV rfl) <| .nilL _ ⟨cB rfl (mAndF (decide_eq_false c1)), trivial⟩)
  replace h := h.symm
  subst h
  refine .keepL [] [(4, .val (.bool ((decide (a0 ≥ 0)) && (decide (a0 < a1)))))] [] (by decide) (by decide) ⟨.free rfl rfl, trivial⟩ trivial ?_
  exact .ret rfl
def slices_IndexFunc_int.b1 (a0 : List Int) (a1 : Int → Bool → Prop) : Int → Rnd Int Unit Int → Prop := fun x1 z1 => if x1 < (a0.length : Int) then (((InR x1 a0.length)) ∧ ∃ t15_5 : Bool, (a1 (rdl a0 x1) t15_5) ∧ if t15_5 = true then (z1 = .ret x1) else (z1 = .next (IntKind.i64.wrap (x1 + 1)))) else (z1 = .exit ())
def slices_IndexFunc_int.f (a0 : List Int) (a1 : Int → Bool → Prop) (r : Int) : Prop :=
  ∃ o1 : Fin Unit Int, Loop (slices_IndexFunc_int.b1 a0 a1) 0 o1 ∧ o1.on (fun _ => r = (-1)) (fun r_ => r = r_)
theorem slices_IndexFunc_int.D {a0 : List Int} {a1 : Int → Bool → Prop} {r : Int} {c1_ : FuncId} {k1_ : List PV} (hg1_ : isGo Try.prog c1_ = true) (hk1_ : PV.free deep (.clo c1_ k1_) = true) (hka1_ : k1_.all (PV.free deep) = true) (hq1_ : ∀ x0_ y_, a1 x0_ y_ → D Try.prog X (.callH c1_ ([.val (.int .i64 x0_)] ++ k1_) [] (.val (.bool y_)) [])) (h : slices_IndexFunc_int.f a0 a1 r) : D Try.prog X (.callH 65 [.rows (a0.map (cInt .i64)), .clo c1_ k1_] [] (.val (.int .i64 r)) []) := by
  unfold slices_IndexFunc_int.f at h
  refine .enter 19 0 fn65 rfl rfl rfl ?_
  refine .seq ?_
  refine .reg0 rfl (.op 0 rfl (asV rfl) <| .nil0) ?_
  refine .seq ?_
  refine .seq ?_
  refine .reg0 rfl (.op 0 rfl (mvR rfl) <| .op 0 rfl (lnR (l := a0) sl30 rfl) <| .op 0 rfl (mvV rfl) <| .nil0) ?_
  refine .block ?_
  refine .keepL [] [(0, .rows (a0.map (cInt .i64))), (1, .clo c1_ k1_), (7, .val (.int .i64 (a0.length : Int))), (8, .val (.int .i64 0))] [] (by decide) (by decide) ⟨.free rfl rfl, .free rfl hk1_, .free rfl rfl, .free rfl rfl, trivial⟩ trivial ?_
  obtain ⟨o1, hL1, h⟩ := h
  refine .loopB (slices_IndexFunc_int.b1 a0 a1) (fun x1 => listEnv [(0, .rows (a0.map (cInt .i64))), (1, .clo c1_ k1_), (7, .val (.int .i64 (a0.length : Int))), (8, .val (.int .i64 x1))]) (fun x1 => []) (fun _ => listEnv []) (fun _ => []) hL1 (fun r_ => r = r_) ?_ ?_ ?_
  · rintro ⟨⟩ rfl
    try dsimp only [Fin.on] at h
    refine .seq ?_
    refine .reg0 rfl (.op 0 rfl (asV rfl) <| .nil0) ?_
    replace h := h.symm
    subst h
    refine .keepL [] [(4, .val (.int .i64 (-1)))] [] (by decide) (by decide) ⟨.free rfl rfl, trivial⟩ trivial ?_
    exact .ret rfl
  · rintro r_ rfl
    exact h
  · rintro x1 z1 h hn1 hx1 hr1
    dsimp only [slices_IndexFunc_int.b1] at h
    refine .seq ?_
    refine .reg0 rfl (.op 0 rfl (ltI rfl rfl) <| .nil0) ?_
    refine .seq ?_
    by_cases c5 : x1 < (a0.length : Int)
    · rw [if_pos c5] at h
      refine .condT rfl (decide_eq_true c5) ?_
      refine .skip ?_
      refine .seq ?_
      refine .block ?_
      refine .seq ?_
      refine .reg0 rfl (.op 0 rfl (mvV rfl) <| .op 0 rfl (asV rfl) <| .nil0) ?_
      refine .seq ?_
      obtain ⟨g15_3, h⟩ := h
      obtain ⟨t15_5, g15_5, h⟩ := h
      refine .reg0 rfl (.op 0 rfl (mvF rfl) <| .op 0 rfl (mvR rfl) <| .op 0 rfl (mvV rfl) <| .op 0 rfl (ixR (l := a0) (lit := (cInt .i64)) sl30 rfl rfl (fun _ => rfl) g15_3.1 g15_3.2) <| .op 0 rfl (ldC rfl sz3 ag3 rfl) <| .callI rfl (callee_of rfl hg1_ rfl) (.pure (allCons rfl hka1_) rfl (hq1_ _ _ g15_5)) <| .nil0) ?_
      by_cases c6 : t15_5 = true
      · rw [if_pos c6] at h
        refine .condT rfl c6 ?_
        refine .seq ?_
        refine .reg0 rfl (.op 0 rfl (mvV rfl) <| .op 0 rfl (asV rfl) <| .nil0) ?_
        have q3 := hr1 _ h
        replace q3 := q3.symm
        subst q3
        refine .keepL [] [(4, .val (.int .i64 x1))] [] (by decide) (by decide) ⟨.free rfl rfl, trivial⟩ trivial ?_
        exact .ret rfl
      · rw [if_neg c6] at h
        refine .condF rfl (Bool.eq_false_iff.mpr c6) ?_
        refine .skip ?_
        refine .inBlock ?_
        refine .reg0 rfl (.op 0 rfl (addI rfl rfl) <| .op 0 rfl (mvV rfl) <| .nil0) ?_
        refine .keepL [] [(0, .rows (a0.map (cInt .i64))), (1, .clo c1_ k1_), (7, .val (.int .i64 (a0.length : Int))), (8, .val (.int .i64 (IntKind.i64.wrap (x1 + 1))))] [] (by decide) (by decide) ⟨.free rfl rfl, .free rfl hk1_, .free rfl rfl, .free rfl rfl, trivial⟩ trivial ?_
        exact hn1 _ h
    · rw [if_neg c5] at h
      refine .condF rfl (decide_eq_false c5) ?_
      refine .exit rfl ?_
      refine .keepL [] [] [] (by decide) (by decide) trivial trivial ?_
      exact hx1 _ h
def slices_ContainsFunc_int.f (a0 : List Int) (a1 : Int → Bool → Prop) (r : Bool) : Prop :=
  ∃ t2_2 : Int, (slices_IndexFunc_int.f a0 a1 t2_2) ∧ r = (decide (t2_2 ≥ 0))
theorem slices_ContainsFunc_int.D {a0 : List Int} {a1 : Int → Bool → Prop} {r : Bool} {c1_ : FuncId} {k1_ : List PV} (hg1_ : isGo Try.prog c1_ = true) (hk1_ : PV.free deep (.clo c1_ k1_) = true) (hka1_ : k1_.all (PV.free deep) = true) (hq1_ : ∀ x0_ y_, a1 x0_ y_ → D Try.prog X (.callH c1_ ([.val (.int .i64 x0_)] ++ k1_) [] (.val (.bool y_)) [])) (h : slices_ContainsFunc_int.f a0 a1 r) : D Try.prog X (.callH 50 [.rows (a0.map (cInt .i64)), .clo c1_ k1_] [] (.val (.bool r)) []) := by
  unfold slices_ContainsFunc_int.f at h
  refine .enter 9 0 fn50 rfl rfl rfl ?_
  refine .seq ?_
  refine .reg0 rfl (.op 0 rfl (asV rfl) <| .nil0) ?_
  refine .seq ?_
  obtain ⟨t2_2, g2_2, h⟩ := h
  refine .reg0 rfl (.op 0 rfl (mvR rfl) <| .op 0 rfl (mvF rfl) <| .callI rfl (callee_of rfl go65 rfl) (.pure (allCons rfl (allCons hk1_ rfl)) rfl (slices_IndexFunc_int.D hg1_ hk1_ hka1_ hq1_ g2_2)) <| .op 0 rfl (geI rfl rfl) <| .op 0 rfl (asV rfl) <| .nil0) ?_
  replace h := h.symm
  subst h
  refine .keepL [] [(4, .val (.bool (decide (t2_2 ≥ 0))))] [] (by decide) (by decide) ⟨.free rfl rfl, trivial⟩ trivial ?_
  exact .ret rfl
def pds_rule_1.f (a0 : Int) (f0 : TPds) (r : Bool) : Prop :=
  ∃ t2_3 : Bool, (pds_in.f a0 f0.Symbols t2_3) ∧ r = (!t2_3)
theorem pds_rule_1.D {a0 : Int} {f0 : TPds} {r : Bool} (h : pds_rule_1.f a0 f0 r) : D Try.prog X (.callH 51 [.val (.int .i64 a0), .cptr (TPds.lit f0) 0] [] (.val (.bool r)) []) := by
  unfold pds_rule_1.f at h
  refine .enter 9 0 fn51 rfl rfl rfl ?_
  refine .seq ?_
  refine .reg0 rfl (.op 0 rfl (asV rfl) <| .nil0) ?_
  refine .seq ?_
  obtain ⟨t2_3, g2_3, h⟩ := h
  refine .reg0 rfl (.op 0 rfl (mvV rfl) <| .op 0 rfl (faC fa28_2 rfl) <| .op 0 rfl (ldC rfl sz3 ag3 rfl) <| .callI rfl (callee_of rfl go31 rfl) (.pure rfl rfl (pds_in.D g2_3)) <| .op 0 rfl (notB rfl) <| .op 0 rfl (asV rfl) <| .nil0) ?_
  replace h := h.symm
  subst h
  refine .keepL [] [(3, .val (.bool (!t2_3)))] [] (by decide) (by decide) ⟨.free rfl rfl, trivial⟩ trivial ?_
  exact .ret rfl
def pds_rule.f (a0 : TPds) (a1 : TRule) (r : Bool) : Prop :=
  ∃ t2_4 : Bool, (pds_in.f a1.P a0.States t2_4) ∧ ∃ t2_10 : Bool, ((t2_4 = true) → pds_in.f a1.Q a0.States t2_10) ∧ ∃ t2_17 : Bool, ((t2_4 = true) → (t2_10 = true) → pds_in.f a1.G a0.Symbols t2_17) ∧ ∃ t2_29 : Bool, ((t2_4 = true) → (t2_10 = true) → (t2_17 = true) → ((a1.W.length : Int) ≤ 4096) → slices_ContainsFunc_int.f a1.W (fun x0_ y_ => pds_rule_1.f x0_ a0 y_) t2_29) ∧ r = (t2_4 && (t2_10 && (t2_17 && ((decide ((a1.W.length : Int) ≤ 4096)) && (!t2_29)))))
theorem pds_rule.D {a0 : TPds} {a1 : TRule} {r : Bool} (h : pds_rule.f a0 a1 r) : D Try.prog X (.callH 36 [.agg (TPds.lit a0), .agg (TRule.lit a1)] [] (.val (.bool r)) []) := by
  unfold pds_rule.f at h
  refine .enter 37 0 fn36 rfl rfl rfl ?_
  refine .seq ?_
  refine .room 0 ?_
  refine .room 0 ?_
  refine .reg0 rfl (.op 0 rfl (bxP (s := 6) (cs := (TPds.lit a0)) rfl ⟨rfl, by decide, rfl⟩ rfl) <| .op 1 rfl (bxP (s := 10) (cs := (TRule.lit a1)) rfl ⟨rfl, by decide, rfl⟩ rfl) <| .op 0 rfl (asV rfl) <| .nil0) ?_
  refine .seq ?_
  obtain ⟨t2_4, g2_4, h⟩ := h
  obtain ⟨t2_10, g2_10, h⟩ := h
  obtain ⟨t2_17, g2_17, h⟩ := h
  obtain ⟨t2_29, g2_29, h⟩ := h
  refine .reg0 (e1 := listEnv [(4, .val (.bool (t2_4 && (t2_10 && (t2_17 && ((decide ((a1.W.length : Int) ≤ 4096)) && (!t2_29)))))))]) (H1 := [⟨6, [(TPds.lit a0)], 0, none⟩, ⟨10, [(TRule.lit a1)], 0, none⟩]) rfl ?_ ?_
  · by_cases c1 : t2_4 = true
    · by_cases c2 : t2_10 = true
      · by_cases c3 : t2_17 = true
        · by_cases c4 : (a1.W.length : Int) ≤ 4096
          · exact (.op 0 rfl (faP fa51_0 rfl) <| .op 0 rfl (ldP rfl sz3 ag3 rfl) <| .op 0 rfl (faP fa28_1 rfl) <| .op 0 rfl (ldP rfl sz3 ag3 rfl) <| .callI rfl (callee_of rfl go31 rfl) (.pure rfl rfl (pds_in.D g2_4)) <| .op 0 rfl (mvV rfl) <| .op 0 (gT rfl rfl rfl c1) (faP fa51_2 rfl) <| .op 0 (gT rfl rfl rfl c1) (ldP rfl sz3 ag3 rfl) <| .op 0 (gT rfl rfl rfl c1) (faP fa28_1 rfl) <| .op 0 (gT rfl rfl rfl c1) (ldP rfl sz3 ag3 rfl) <| .callI (gT rfl rfl rfl c1) (callee_of rfl go31 rfl) (.pure rfl rfl (pds_in.D (g2_10 c1))) <| .op 0 rfl (pkTV rfl c1 rfl) <| .op 0 rfl (mvV rfl) <| .op 0 (gT rfl rfl rfl c2) (faP fa51_1 rfl) <| .op 0 (gT rfl rfl rfl c2) (ldP rfl sz3 ag3 rfl) <| .op 0 (gT rfl rfl rfl c2) (faP fa28_2 rfl) <| .op 0 (gT rfl rfl rfl c2) (ldP rfl sz3 ag3 rfl) <| .callI (gT rfl rfl rfl c2) (callee_of rfl go31 rfl) (.pure rfl rfl (pds_in.D (g2_17 c1 c2))) <| .op 0 rfl (pkTV rfl c2 rfl) <| .op 0 rfl (mvV rfl) <| .op 0 (gT rfl rfl rfl c3) (faP fa51_3 rfl) <| .op 0 (gT rfl rfl rfl c3) (ldP rfl sz30 ag30 rfl) <| .op 0 (gT rfl rfl rfl c3) (lnR (l := a1.W) sl30 rfl) <| .op 0 (gT rfl rfl rfl c3) (leI rfl rfl) <| .op 0 rfl (pkTV rfl c3 rfl) <| .op 0 rfl (mvV rfl) <| .op 0 (gT rfl rfl rfl (decide_eq_true c4)) (faP fa51_3 rfl) <| .op 0 (gT rfl rfl rfl (decide_eq_true c4)) (ldP rfl sz30 ag30 rfl) <| .op 0 (gT rfl rfl rfl (decide_eq_true c4)) (mkF rfl) <| .callI (gT rfl rfl rfl (decide_eq_true c4)) (callee_of rfl go50 rfl) (.lendC (args' := [.rows (a1.W.map (cInt .i64)), .clo 51 [.cptr (TPds.lit a0) 0]])  [0] false (.cons (.free rfl rfl) <| .cons (cClo (.cons (cFixP rfl rfl (.cons (.free rfl rfl) <| .cons (.free rfl rfl) <| .cons (.free rfl rfl) <| .cons (.free rfl rfl) <| .cons (.free rfl rfl) <| .cons (.free rfl rfl) <| .nil)) <| .nil)) <| .nil) (by decide) rfl rfl rfl rfl (slices_ContainsFunc_int.D (k1_ := [.cptr (TPds.lit a0) 0]) go51 rfl rfl (fun x0_ y_ h_ => pds_rule_1.D h_) (g2_29 c1 c2 c3 c4))) <| .op 0 (gT rfl rfl rfl (decide_eq_true c4)) (notB rfl) <| .op 0 rfl (pkTV rfl (decide_eq_true c4) rfl) <| .op 0 rfl (asV rfl) <| .nilL _ ⟨cB rfl (mAndT c1 (mAndT c2 (mAndT c3 (mAndT (decide_eq_true c4) rfl)))), trivial⟩)
          · exact (.op 0 rfl (faP fa51_0 rfl) <| .op 0 rfl (ldP rfl sz3 ag3 rfl) <| .op 0 rfl (faP fa28_1 rfl) <| .op 0 rfl (ldP rfl sz3 ag3 rfl) <| .callI rfl (callee_of rfl go31 rfl) (.pure rfl rfl (pds_in.D g2_4)) <| .op 0 rfl (mvV rfl) <| .op 0 (gT rfl rfl rfl c1) (faP fa51_2 rfl) <| .op 0 (gT rfl rfl rfl c1) (ldP rfl sz3 ag3 rfl) <| .op 0 (gT rfl rfl rfl c1) (faP fa28_1 rfl) <| .op 0 (gT rfl rfl rfl c1) (ldP rfl sz3 ag3 rfl) <| .callI (gT rfl rfl rfl c1) (callee_of rfl go31 rfl) (.pure rfl rfl (pds_in.D (g2_10 c1))) <| .op 0 rfl (pkTV rfl c1 rfl) <| .op 0 rfl (mvV rfl) <| .op 0 (gT rfl rfl rfl c2) (faP fa51_1 rfl) <| .op 0 (gT rfl rfl rfl c2) (ldP rfl sz3 ag3 rfl) <| .op 0 (gT rfl rfl rfl c2) (faP fa28_2 rfl) <| .op 0 (gT rfl rfl rfl c2) (ldP rfl sz3 ag3 rfl) <| .callI (gT rfl rfl rfl c2) (callee_of rfl go31 rfl) (.pure rfl rfl (pds_in.D (g2_17 c1 c2))) <| .op 0 rfl (pkTV rfl c2 rfl) <| .op 0 rfl (mvV rfl) <| .op 0 (gT rfl rfl rfl c3) (faP fa51_3 rfl) <| .op 0 (gT rfl rfl rfl c3) (ldP rfl sz30 ag30 rfl) <| .op 0 (gT rfl rfl rfl c3) (lnR (l := a1.W) sl30 rfl) <| .op 0 (gT rfl rfl rfl c3) (leI rfl rfl) <| .op 0 rfl (pkTV rfl c3 rfl) <| .op 0 rfl (mvV rfl) <| .no (gF rfl rfl rfl (decide_eq_false c4)) <| .no (gF rfl rfl rfl (decide_eq_false c4)) <| .no (gF rfl rfl rfl (decide_eq_false c4)) <| .no (gF rfl rfl rfl (decide_eq_false c4)) <| .no (gF rfl rfl rfl (decide_eq_false c4)) <| .op 0 rfl (pkFV rfl (decide_eq_false c4) rfl) <| .op 0 rfl (asV rfl) <| .nilL _ ⟨cB rfl (mAndT c1 (mAndT c2 (mAndT c3 (mAndF (decide_eq_false c4))))), trivial⟩)
        · exact (.op 0 rfl (faP fa51_0 rfl) <| .op 0 rfl (ldP rfl sz3 ag3 rfl) <| .op 0 rfl (faP fa28_1 rfl) <| .op 0 rfl (ldP rfl sz3 ag3 rfl) <| .callI rfl (callee_of rfl go31 rfl) (.pure rfl rfl (pds_in.D g2_4)) <| .op 0 rfl (mvV rfl) <| .op 0 (gT rfl rfl rfl c1) (faP fa51_2 rfl) <| .op 0 (gT rfl rfl rfl c1) (ldP rfl sz3 ag3 rfl) <| .op 0 (gT rfl rfl rfl c1) (faP fa28_1 rfl) <| .op 0 (gT rfl rfl rfl c1) (ldP rfl sz3 ag3 rfl) <| .callI (gT rfl rfl rfl c1) (callee_of rfl go31 rfl) (.pure rfl rfl (pds_in.D (g2_10 c1))) <| .op 0 rfl (pkTV rfl c1 rfl) <| .op 0 rfl (mvV rfl) <| .op 0 (gT rfl rfl rfl c2) (faP fa51_1 rfl) <| .op 0 (gT rfl rfl rfl c2) (ldP rfl sz3 ag3 rfl) <| .op 0 (gT rfl rfl rfl c2) (faP fa28_2 rfl) <| .op 0 (gT rfl rfl rfl c2) (ldP rfl sz3 ag3 rfl) <| .callI (gT rfl rfl rfl c2) (callee_of rfl go31 rfl) (.pure rfl rfl (pds_in.D (g2_17 c1 c2))) <| .op 0 rfl (pkTV rfl c2 rfl) <| .op 0 rfl (mvV rfl) <| .no (gF rfl rfl rfl (Bool.eq_false_iff.mpr c3)) <| .no (gF rfl rfl rfl (Bool.eq_false_iff.mpr c3)) <| .no (gF rfl rfl rfl (Bool.eq_false_iff.mpr c3)) <| .no (gF rfl rfl rfl (Bool.eq_false_iff.mpr c3)) <| .op 0 rfl (pkFV rfl (Bool.eq_false_iff.mpr c3) rfl) <| .op 0 rfl (mvV rfl) <| .no (gF rfl rfl rfl rfl) <| .no (gF rfl rfl rfl rfl) <| .no (gF rfl rfl rfl rfl) <| .no (gF rfl rfl rfl rfl) <| .no (gF rfl rfl rfl rfl) <| .op 0 rfl (pkFV rfl rfl rfl) <| .op 0 rfl (asV rfl) <| .nilL _ ⟨cB rfl (mAndT c1 (mAndT c2 (mAndF (Bool.eq_false_iff.mpr c3)))), trivial⟩)
      · exact (.op 0 rfl (faP fa51_0 rfl) <| .op 0 rfl (ldP rfl sz3 ag3 rfl) <| .op 0 rfl (faP fa28_1 rfl) <| .op 0 rfl (ldP rfl sz3 ag3 rfl) <| .callI rfl (callee_of rfl go31 rfl) (.pure rfl rfl (pds_in.D g2_4)) <| .op 0 rfl (mvV rfl) <| .op 0 (gT rfl rfl rfl c1) (faP fa51_2 rfl) <| .op 0 (gT rfl rfl rfl c1) (ldP rfl sz3 ag3 rfl) <| .op 0 (gT rfl rfl rfl c1) (faP fa28_1 rfl) <| .op 0 (gT rfl rfl rfl c1) (ldP rfl sz3 ag3 rfl) <| .callI (gT rfl rfl rfl c1) (callee_of rfl go31 rfl) (.pure rfl rfl (pds_in.D (g2_10 c1))) <| .op 0 rfl (pkTV rfl c1 rfl) <| .op 0 rfl (mvV rfl) <| .no (gF rfl rfl rfl (Bool.eq_false_iff.mpr c2)) <| .no (gF rfl rfl rfl (Bool.eq_false_iff.mpr c2)) <| .no (gF rfl rfl rfl (Bool.eq_false_iff.mpr c2)) <| .no (gF rfl rfl rfl (Bool.eq_false_iff.mpr c2)) <| .no (gF rfl rfl rfl (Bool.eq_false_iff.mpr c2)) <| .op 0 rfl (pkFV rfl (Bool.eq_false_iff.mpr c2) rfl) <| .op 0 rfl (mvV rfl) <| .no (gF rfl rfl rfl rfl) <| .no (gF rfl rfl rfl rfl) <| .no (gF rfl rfl rfl rfl) <| .no (gF rfl rfl rfl rfl) <| .op 0 rfl (pkFV rfl rfl rfl) <| .op 0 rfl (mvV rfl) <| .no (gF rfl rfl rfl rfl) <| .no (gF rfl rfl rfl rfl) <| .no (gF rfl rfl rfl rfl) <| .no (gF rfl rfl rfl rfl) <| .no (gF rfl rfl rfl rfl) <| .op 0 rfl (pkFV rfl rfl rfl) <| .op 0 rfl (asV rfl) <| .nilL _ ⟨cB rfl (mAndT c1 (mAndF (Bool.eq_false_iff.mpr c2))), trivial⟩)
    · exact (.op 0 rfl (faP fa51_0 rfl) <| .op 0 rfl (ldP rfl sz3 ag3 rfl) <| .op 0 rfl (faP fa28_1 rfl) <| .op 0 rfl (ldP rfl sz3 ag3 rfl) <| .callI rfl (callee_of rfl go31 rfl) (.pure rfl rfl (pds_in.D g2_4)) <| .op 0 rfl (mvV rfl) <| .no (gF rfl rfl rfl (Bool.eq_false_iff.mpr c1)) <| .no (gF rfl rfl rfl (Bool.eq_false_iff.mpr c1)) <| .no (gF rfl rfl rfl (Bool.eq_false_iff.mpr c1)) <| .no (gF rfl rfl rfl (Bool.eq_false_iff.mpr c1)) <| .no (gF rfl rfl rfl (Bool.eq_false_iff.mpr c1)) <| .op 0 rfl (pkFV rfl (Bool.eq_false_iff.mpr c1) rfl) <| .op 0 rfl (mvV rfl) <| .no (gF rfl rfl rfl rfl) <| .no (gF rfl rfl rfl rfl) <| .no (gF rfl rfl rfl rfl) <| .no (gF rfl rfl rfl rfl) <| .no (gF rfl rfl rfl rfl) <| .op 0 rfl (pkFV rfl rfl rfl) <| .op 0 rfl (mvV rfl) <| .no (gF rfl rfl rfl rfl) <| .no (gF rfl rfl rfl rfl) <| .no (gF rfl rfl rfl rfl) <| .no (gF rfl rfl rfl rfl) <| .op 0 rfl (pkFV rfl rfl rfl) <| .op 0 rfl (mvV rfl) <| .no (gF rfl rfl rfl rfl) <| .no (gF rfl rfl rfl rfl) <| .no (gF rfl rfl rfl rfl) <| .no (gF rfl rfl rfl rfl) <| .no (gF rfl rfl rfl rfl) <| .op 0 rfl (pkFV rfl rfl rfl) <| .op 0 rfl (asV rfl) <| .nilL _ ⟨cB rfl (mAndF (Bool.eq_false_iff.mpr c1)), trivial⟩)
  replace h := h.symm
  subst h
  refine .keepL [] [(4, .val (.bool (t2_4 && (t2_10 && (t2_17 && ((decide ((a1.W.length : Int) ≤ 4096)) && (!t2_29)))))))] [] (by decide) (by decide) ⟨.free rfl rfl, trivial⟩ trivial ?_
  exact .ret rfl
def pds_Check_1.f (a0 : TRule) (f0 : TPds) (r : Bool) : Prop :=
  ∃ t2_2 : Bool, (pds_rule.f f0 a0 t2_2) ∧ r = (!t2_2)
theorem pds_Check_1.D {a0 : TRule} {f0 : TPds} {r : Bool} (h : pds_Check_1.f a0 f0 r) : D Try.prog X (.callH 35 [.agg (TRule.lit a0), .cptr (TPds.lit f0) 0] [] (.val (.bool r)) []) := by
  unfold pds_Check_1.f at h
  refine .enter 8 0 fn35 rfl rfl rfl ?_
  refine .seq ?_
  refine .room 0 ?_
  refine .reg0 rfl (.op 0 rfl (bxP (s := 10) (cs := (TRule.lit a0)) rfl ⟨rfl, by decide, rfl⟩ rfl) <| .op 0 rfl (asV rfl) <| .nil0) ?_
  refine .seq ?_
  obtain ⟨t2_2, g2_2, h⟩ := h
  refine .reg0 rfl (.op 0 rfl (ldCG rfl sz28 ag28 rfl) <| .op 0 rfl (ldG rfl sz51 ag51 rfl) <| .callI rfl (callee_of rfl go36 rfl) (.pure rfl rfl (pds_rule.D g2_2)) <| .op 0 rfl (notB rfl) <| .op 0 rfl (asV rfl) <| .nil0) ?_
  replace h := h.symm
  subst h
  refine .keepL [] [(3, .val (.bool (!t2_2)))] [] (by decide) (by decide) ⟨.free rfl rfl, trivial⟩ trivial ?_
  exact .ret rfl
def slices_IndexFunc_Weight.b1 (a0 : List TWeight) (a1 : TWeight → Bool → Prop) : Int → Rnd Int Unit Int → Prop := fun x1 z1 => if x1 < (a0.length : Int) then (((InR x1 a0.length)) ∧ ∃ t15_5 : Bool, (a1 (rdl a0 x1) t15_5) ∧ if t15_5 = true then (z1 = .ret x1) else (z1 = .next (IntKind.i64.wrap (x1 + 1)))) else (z1 = .exit ())
def slices_IndexFunc_Weight.f (a0 : List TWeight) (a1 : TWeight → Bool → Prop) (r : Int) : Prop :=
  ∃ o1 : Fin Unit Int, Loop (slices_IndexFunc_Weight.b1 a0 a1) 0 o1 ∧ o1.on (fun _ => r = (-1)) (fun r_ => r = r_)
theorem slices_IndexFunc_Weight.D {a0 : List TWeight} {a1 : TWeight → Bool → Prop} {r : Int} {c1_ : FuncId} {k1_ : List PV} (hg1_ : isGo Try.prog c1_ = true) (hk1_ : PV.free deep (.clo c1_ k1_) = true) (hka1_ : k1_.all (PV.free deep) = true) (hq1_ : ∀ x0_ y_, a1 x0_ y_ → D Try.prog X (.callH c1_ ([.agg (TWeight.lit x0_)] ++ k1_) [] (.val (.bool y_)) [])) (h : slices_IndexFunc_Weight.f a0 a1 r) : D Try.prog X (.callH 75 [.rows (a0.map TWeight.cells), .clo c1_ k1_] [] (.val (.int .i64 r)) []) := by
  unfold slices_IndexFunc_Weight.f at h
  refine .enter 19 0 fn75 rfl rfl rfl ?_
  refine .seq ?_
  refine .reg0 rfl (.op 0 rfl (asV rfl) <| .nil0) ?_
  refine .seq ?_
  refine .seq ?_
  refine .reg0 rfl (.op 0 rfl (mvR rfl) <| .op 0 rfl (lnR (l := a0) sl47 rfl) <| .op 0 rfl (mvV rfl) <| .nil0) ?_
  refine .block ?_
  refine .keepL [] [(0, .rows (a0.map TWeight.cells)), (1, .clo c1_ k1_), (7, .val (.int .i64 (a0.length : Int))), (8, .val (.int .i64 0))] [] (by decide) (by decide) ⟨.free rfl rfl, .free rfl hk1_, .free rfl rfl, .free rfl rfl, trivial⟩ trivial ?_
  obtain ⟨o1, hL1, h⟩ := h
  refine .loopB (slices_IndexFunc_Weight.b1 a0 a1) (fun x1 => listEnv [(0, .rows (a0.map TWeight.cells)), (1, .clo c1_ k1_), (7, .val (.int .i64 (a0.length : Int))), (8, .val (.int .i64 x1))]) (fun x1 => []) (fun _ => listEnv []) (fun _ => []) hL1 (fun r_ => r = r_) ?_ ?_ ?_
  · rintro ⟨⟩ rfl
    try dsimp only [Fin.on] at h
    refine .seq ?_
    refine .reg0 rfl (.op 0 rfl (asV rfl) <| .nil0) ?_
    replace h := h.symm
    subst h
    refine .keepL [] [(4, .val (.int .i64 (-1)))] [] (by decide) (by decide) ⟨.free rfl rfl, trivial⟩ trivial ?_
    exact .ret rfl
  · rintro r_ rfl
    exact h
  · rintro x1 z1 h hn1 hx1 hr1
    dsimp only [slices_IndexFunc_Weight.b1] at h
    refine .seq ?_
    refine .reg0 rfl (.op 0 rfl (ltI rfl rfl) <| .nil0) ?_
    refine .seq ?_
    by_cases c5 : x1 < (a0.length : Int)
    · rw [if_pos c5] at h
      refine .condT rfl (decide_eq_true c5) ?_
      refine .skip ?_
      refine .seq ?_
      refine .block ?_
      refine .seq ?_
      refine .reg0 rfl (.op 0 rfl (mvV rfl) <| .op 0 rfl (asV rfl) <| .nil0) ?_
      refine .seq ?_
      obtain ⟨g15_3, h⟩ := h
      obtain ⟨t15_5, g15_5, h⟩ := h
      refine .reg0 rfl (.op 0 rfl (mvF rfl) <| .op 0 rfl (mvR rfl) <| .op 0 rfl (mvV rfl) <| .op 0 rfl (ixR (l := a0) (lit := TWeight.lit) sl47 rfl rfl TWeight.cells_lit g15_3.1 g15_3.2) <| .op 0 rfl (ldCG rfl sz49 ag49 rfl) <| .callI rfl (callee_of rfl hg1_ rfl) (.pure (allCons rfl hka1_) rfl (hq1_ _ _ g15_5)) <| .nil0) ?_
      by_cases c6 : t15_5 = true
      · rw [if_pos c6] at h
        refine .condT rfl c6 ?_
        refine .seq ?_
        refine .reg0 rfl (.op 0 rfl (mvV rfl) <| .op 0 rfl (asV rfl) <| .nil0) ?_
        have q3 := hr1 _ h
        replace q3 := q3.symm
        subst q3
        refine .keepL [] [(4, .val (.int .i64 x1))] [] (by decide) (by decide) ⟨.free rfl rfl, trivial⟩ trivial ?_
        exact .ret rfl
      · rw [if_neg c6] at h
        refine .condF rfl (Bool.eq_false_iff.mpr c6) ?_
        refine .skip ?_
        refine .inBlock ?_
        refine .reg0 rfl (.op 0 rfl (addI rfl rfl) <| .op 0 rfl (mvV rfl) <| .nil0) ?_
        refine .keepL [] [(0, .rows (a0.map TWeight.cells)), (1, .clo c1_ k1_), (7, .val (.int .i64 (a0.length : Int))), (8, .val (.int .i64 (IntKind.i64.wrap (x1 + 1))))] [] (by decide) (by decide) ⟨.free rfl rfl, .free rfl hk1_, .free rfl rfl, .free rfl rfl, trivial⟩ trivial ?_
        exact hn1 _ h
    · rw [if_neg c5] at h
      refine .condF rfl (decide_eq_false c5) ?_
      refine .exit rfl ?_
      refine .keepL [] [] [] (by decide) (by decide) trivial trivial ?_
      exact hx1 _ h
def slices_ContainsFunc_Weight.f (a0 : List TWeight) (a1 : TWeight → Bool → Prop) (r : Bool) : Prop :=
  ∃ t2_2 : Int, (slices_IndexFunc_Weight.f a0 a1 t2_2) ∧ r = (decide (t2_2 ≥ 0))
theorem slices_ContainsFunc_Weight.D {a0 : List TWeight} {a1 : TWeight → Bool → Prop} {r : Bool} {c1_ : FuncId} {k1_ : List PV} (hg1_ : isGo Try.prog c1_ = true) (hk1_ : PV.free deep (.clo c1_ k1_) = true) (hka1_ : k1_.all (PV.free deep) = true) (hq1_ : ∀ x0_ y_, a1 x0_ y_ → D Try.prog X (.callH c1_ ([.agg (TWeight.lit x0_)] ++ k1_) [] (.val (.bool y_)) [])) (h : slices_ContainsFunc_Weight.f a0 a1 r) : D Try.prog X (.callH 66 [.rows (a0.map TWeight.cells), .clo c1_ k1_] [] (.val (.bool r)) []) := by
  unfold slices_ContainsFunc_Weight.f at h
  refine .enter 9 0 fn66 rfl rfl rfl ?_
  refine .seq ?_
  refine .reg0 rfl (.op 0 rfl (asV rfl) <| .nil0) ?_
  refine .seq ?_
  obtain ⟨t2_2, g2_2, h⟩ := h
  refine .reg0 rfl (.op 0 rfl (mvR rfl) <| .op 0 rfl (mvF rfl) <| .callI rfl (callee_of rfl go75 rfl) (.pure (allCons rfl (allCons hk1_ rfl)) rfl (slices_IndexFunc_Weight.D hg1_ hk1_ hka1_ hq1_ g2_2)) <| .op 0 rfl (geI rfl rfl) <| .op 0 rfl (asV rfl) <| .nil0) ?_
  replace h := h.symm
  subst h
  refine .keepL [] [(4, .val (.bool (decide (t2_2 ≥ 0))))] [] (by decide) (by decide) ⟨.free rfl rfl, trivial⟩ trivial ?_
  exact .ret rfl
def weight_bare.j1 : (Int × Int × (List Int) × (List TCell) × (List TWeight)) → Bool → Prop := fun (x20, x21, x22, x23, x24) r => r = ((x20 == 0) && ((x21 == 0) && ((IntKind.i64.wrap ((IntKind.i64.wrap ((x22.length : Int) + (x23.length : Int))) + (x24.length : Int))) == 0)))
def weight_bare.f (a0 : TWeight) (a1 : Int) (r : Bool) : Prop :=
  if a1 = 2 then (weight_bare.j1 (0, a0.Facts.Gen, a0.Facts.Rows, a0.Cells, a0.Parts) r) else (if a1 = 3 then (weight_bare.j1 (a0.Cost, 0, [], a0.Cells, a0.Parts) r) else (if a1 = 4 then (weight_bare.j1 (a0.Cost, a0.Facts.Gen, a0.Facts.Rows, [], a0.Parts) r) else (if a1 = 5 then (weight_bare.j1 (a0.Cost, a0.Facts.Gen, a0.Facts.Rows, a0.Cells, []) r) else (weight_bare.j1 (a0.Cost, a0.Facts.Gen, a0.Facts.Rows, a0.Cells, a0.Parts) r))))
theorem weight_bare.D {a0 : TWeight} {a1 : Int} {r : Bool} (h : weight_bare.f a0 a1 r) : D Try.prog X (.callH 76 [.agg (TWeight.lit a0), .val (.int .i64 a1)] [] (.val (.bool r)) []) := by
  unfold weight_bare.f at h
  refine .enter 43 0 fn76 rfl rfl rfl ?_
  refine .seq ?_
  refine .room 0 ?_
  refine .reg0 rfl (.op 0 rfl (bxP (s := 6) (cs := (TWeight.lit a0)) rfl ⟨rfl, by decide, rfl⟩ rfl) <| .op 0 rfl (asV rfl) <| .nil0) ?_
  refine .seq ?_
  refine .seq ?_
  refine .reg0 rfl (.op 0 rfl (mvV rfl) <| .nil0) ?_
  refine .block ?_
  refine .seq ?_
  refine .reg0 rfl (.op 0 rfl (eqI rfl rfl) <| .op 0 rfl (asV rfl) <| .nil0) ?_
  refine .consJ (fun s_ => weight_bare.j1 s_ r) (fun (x20, x21, x22, x23, x24) => listEnv [(2, .ptr 0 1 6 0 0)]) (fun (x20, x21, x22, x23, x24) => [⟨6, [[.val (.bool a0.Zero), .val (.int .i64 x20), .val (.int .u64 x21), .rows (x22.map (cInt .u64)), .rows (x23.map TCell.cells), .rows (x24.map TWeight.cells)]], 0, none⟩]) ?_ fun hJ1 => ?_
  · rintro ⟨x20, x21, x22, x23, x24⟩ h
    unfold weight_bare.j1 at h
    try dsimp only at h
    refine .inBlock ?_
    refine .seq ?_
    refine .reg0 (e1 := listEnv [(4, .val (.bool ((x20 == 0) && ((x21 == 0) && ((IntKind.i64.wrap ((IntKind.i64.wrap ((x22.length : Int) + (x23.length : Int))) + (x24.length : Int))) == 0)))))]) (H1 := [⟨6, [[.val (.bool a0.Zero), .val (.int .i64 x20), .val (.int .u64 x21), .rows (x22.map (cInt .u64)), .rows (x23.map TCell.cells), .rows (x24.map TWeight.cells)]], 0, none⟩]) rfl ?_ ?_
    · by_cases c13 : x20 = 0
      · by_cases c14 : x21 = 0
        · exact (.op 0 rfl (faP fa49_1 rfl) <| .op 0 rfl (ldP rfl sz3 ag3 rfl) <| .op 0 rfl (eqI rfl rfl) <| .op 0 rfl (mvV rfl) <| .op 0 (gT rfl rfl rfl (beq_iff_eq.mpr c13)) (faP fa49_2 rfl) <| .op 0 (gT rfl rfl rfl (beq_iff_eq.mpr c13)) (faP fa45_0 rfl) <| .op 0 (gT rfl rfl rfl (beq_iff_eq.mpr c13)) (ldP rfl sz42 ag42 rfl) <| .op 0 (gT rfl rfl rfl (beq_iff_eq.mpr c13)) (eqI rfl rfl) <| .op 0 rfl (pkTV rfl (beq_iff_eq.mpr c13) rfl) <| .op 0 rfl (mvV rfl) <| .op 0 (gT rfl rfl rfl (beq_iff_eq.mpr c14)) (faP fa49_2 rfl) <| .op 0 (gT rfl rfl rfl (beq_iff_eq.mpr c14)) (faP fa45_1 rfl) <| .op 0 (gT rfl rfl rfl (beq_iff_eq.mpr c14)) (ldP rfl sz43 ag43 rfl) <| .op 0 (gT rfl rfl rfl (beq_iff_eq.mpr c14)) (lnR (l := x22) sl43 rfl) <| .op 0 (gT rfl rfl rfl (beq_iff_eq.mpr c14)) (faP fa49_3 rfl) <| .op 0 (gT rfl rfl rfl (beq_iff_eq.mpr c14)) (ldP rfl sz46 ag46 rfl) <| .op 0 (gT rfl rfl rfl (beq_iff_eq.mpr c14)) (lnR (l := x23) sl46 rfl) <| .op 0 (gT rfl rfl rfl (beq_iff_eq.mpr c14)) (addI rfl rfl) <| .op 0 (gT rfl rfl rfl (beq_iff_eq.mpr c14)) (faP fa49_4 rfl) <| .op 0 (gT rfl rfl rfl (beq_iff_eq.mpr c14)) (ldP rfl sz47 ag47 rfl) <| .op 0 (gT rfl rfl rfl (beq_iff_eq.mpr c14)) (lnR (l := x24) sl47 rfl) <| .op 0 (gT rfl rfl rfl (beq_iff_eq.mpr c14)) (addI rfl rfl) <| .op 0 (gT rfl rfl rfl (beq_iff_eq.mpr c14)) (eqI rfl rfl) <| .op 0 rfl (pkTV rfl (beq_iff_eq.mpr c14) rfl) <| .op 0 rfl (asV rfl) <| .nilL _ ⟨cB rfl (mAndT (beq_iff_eq.mpr c13) (mAndT (beq_iff_eq.mpr c14) rfl)), trivial⟩)
        · exact (.op 0 rfl (faP fa49_1 rfl) <| .op 0 rfl (ldP rfl sz3 ag3 rfl) <| .op 0 rfl (eqI rfl rfl) <| .op 0 rfl (mvV rfl) <| .op 0 (gT rfl rfl rfl (beq_iff_eq.mpr c13)) (faP fa49_2 rfl) <| .op 0 (gT rfl rfl rfl (beq_iff_eq.mpr c13)) (faP fa45_0 rfl) <| .op 0 (gT rfl rfl rfl (beq_iff_eq.mpr c13)) (ldP rfl sz42 ag42 rfl) <| .op 0 (gT rfl rfl rfl (beq_iff_eq.mpr c13)) (eqI rfl rfl) <| .op 0 rfl (pkTV rfl (beq_iff_eq.mpr c13) rfl) <| .op 0 rfl (mvV rfl) <| .no (gF rfl rfl rfl (beq_eq_false_iff_ne.mpr c14)) <| .no (gF rfl rfl rfl (beq_eq_false_iff_ne.mpr c14)) <| .no (gF rfl rfl rfl (beq_eq_false_iff_ne.mpr c14)) <| .no (gF rfl rfl rfl (beq_eq_false_iff_ne.mpr c14)) <| .no (gF rfl rfl rfl (beq_eq_false_iff_ne.mpr c14)) <| .no (gF rfl rfl rfl (beq_eq_false_iff_ne.mpr c14)) <| .no (gF rfl rfl rfl (beq_eq_false_iff_ne.mpr c14)) <| .no (gF rfl rfl rfl (beq_eq_false_iff_ne.mpr c14)) <| .no (gF rfl rfl rfl (beq_eq_false_iff_ne.mpr c14)) <| .no (gF rfl rfl rfl (beq_eq_false_iff_ne.mpr c14)) <| .no (gF rfl rfl rfl (beq_eq_false_iff_ne.mpr c14)) <| .no (gF rfl rfl rfl (beq_eq_false_iff_ne.mpr c14)) <| .no (gF rfl rfl rfl (beq_eq_false_iff_ne.mpr c14)) <| .op 0 rfl (pkFV rfl (beq_eq_false_iff_ne.mpr c14) rfl) <| .op 0 rfl (asV rfl) <| .nilL _ ⟨cB rfl (mAndT (beq_iff_eq.mpr c13) (mAndF (beq_eq_false_iff_ne.mpr c14))), trivial⟩)
      · exact (.op 0 rfl (faP fa49_1 rfl) <| .op 0 rfl (ldP rfl sz3 ag3 rfl) <| .op 0 rfl (eqI rfl rfl) <| .op 0 rfl (mvV rfl) <| .no (gF rfl rfl rfl (beq_eq_false_iff_ne.mpr c13)) <| .no (gF rfl rfl rfl (beq_eq_false_iff_ne.mpr c13)) <| .no (gF rfl rfl rfl (beq_eq_false_iff_ne.mpr c13)) <| .no (gF rfl rfl rfl (beq_eq_false_iff_ne.mpr c13)) <| .op 0 rfl (pkFV rfl (beq_eq_false_iff_ne.mpr c13) rfl) <| .op 0 rfl (mvV rfl) <| .no (gF rfl rfl rfl rfl) <| .no (gF rfl rfl rfl rfl) <| .no (gF rfl rfl rfl rfl) <| .no (gF rfl rfl rfl rfl) <| .no (gF rfl rfl rfl rfl) <| .no (gF rfl rfl rfl rfl) <| .no (gF rfl rfl rfl rfl) <| .no (gF rfl rfl rfl rfl) <| .no (gF rfl rfl rfl rfl) <| .no (gF rfl rfl rfl rfl) <| .no (gF rfl rfl rfl rfl) <| .no (gF rfl rfl rfl rfl) <| .no (gF rfl rfl rfl rfl) <| .op 0 rfl (pkFV rfl rfl rfl) <| .op 0 rfl (asV rfl) <| .nilL _ ⟨cB rfl (mAndF (beq_eq_false_iff_ne.mpr c13)), trivial⟩)
    replace h := h.symm
    subst h
    refine .keepL [] [(4, .val (.bool ((x20 == 0) && ((x21 == 0) && ((IntKind.i64.wrap ((IntKind.i64.wrap ((x22.length : Int) + (x23.length : Int))) + (x24.length : Int))) == 0)))))] [] (by decide) (by decide) ⟨.free rfl rfl, trivial⟩ trivial ?_
    exact .ret rfl
  · by_cases c15 : a1 = 2
    · rw [if_pos c15] at h
      refine .condT rfl (beq_iff_eq.mpr c15) ?_
      refine .reg0 rfl (.op 0 rfl (faP fa49_1 rfl) <| .op 0 rfl (stB (cs0 := (TWeight.lit a0)) (cs := [.val (.int .i64 0)]) (cs1 := [.val (.bool a0.Zero), .val (.int .i64 0), .val (.int .u64 a0.Facts.Gen), .rows (a0.Facts.Rows.map (cInt .u64)), .rows (a0.Cells.map TCell.cells), .rows (a0.Parts.map TWeight.cells)]) rfl rfl sz3 rfl ⟨Nat.le_of_ble_eq_true rfl, rfl⟩ rfl) <| .nil0) ?_
      refine .keepL [0] [(2, .ptr 0 1 6 0 0)] [⟨6, [[.val (.bool a0.Zero), .val (.int .i64 0), .val (.int .u64 a0.Facts.Gen), .rows (a0.Facts.Rows.map (cInt .u64)), .rows (a0.Cells.map TCell.cells), .rows (a0.Parts.map TWeight.cells)]], 0, none⟩] (by decide) (by decide) ⟨.ptr rfl, trivial⟩ ⟨⟨_, rfl, bcBox (all2_free rfl)⟩, trivial⟩ ?_
      exact hJ1 _ h
    · rw [if_neg c15] at h
      refine .condF rfl (beq_eq_false_iff_ne.mpr c15) ?_
      refine .seq ?_
      refine .reg0 rfl (.op 0 rfl (eqI rfl rfl) <| .op 0 rfl (asV rfl) <| .nil0) ?_
      by_cases c16 : a1 = 3
      · rw [if_pos c16] at h
        refine .condT rfl (beq_iff_eq.mpr c16) ?_
        refine .reg0 rfl (.op 0 rfl (bldS (cs := [.val (.int .u64 0), .val (.slice none 0 0)]) ze45 pl45 rfl rfl) <| .op 0 rfl (faP fa49_2 rfl) <| .op 0 rfl (stB (cs0 := (TWeight.lit a0)) (cs := [.val (.int .u64 0), .val (.slice none 0 0)]) (cs1 := [.val (.bool a0.Zero), .val (.int .i64 a0.Cost), .val (.int .u64 0), .val (.slice none 0 0), .rows (a0.Cells.map TCell.cells), .rows (a0.Parts.map TWeight.cells)]) rfl rfl sz45 rfl ⟨Nat.le_of_ble_eq_true rfl, rfl⟩ rfl) <| .nil0) ?_
        refine .keepL [0] [(2, .ptr 0 1 6 0 0)] [⟨6, [[.val (.bool a0.Zero), .val (.int .i64 a0.Cost), .val (.int .u64 0), .rows ([].map (cInt .u64)), .rows (a0.Cells.map TCell.cells), .rows (a0.Parts.map TWeight.cells)]], 0, none⟩] (by decide) (by decide) ⟨.ptr rfl, trivial⟩ ⟨⟨_, rfl, bcBox (.cons (.free rfl rfl) <| .cons (.free rfl rfl) <| .cons (.free rfl rfl) <| .cons (.nil) <| .cons (.free rfl rfl) <| .cons (.free rfl rfl) <| .nil)⟩, trivial⟩ ?_
        exact hJ1 _ h
      · rw [if_neg c16] at h
        refine .condF rfl (beq_eq_false_iff_ne.mpr c16) ?_
        refine .seq ?_
        refine .reg0 rfl (.op 0 rfl (eqI rfl rfl) <| .op 0 rfl (asV rfl) <| .nil0) ?_
        by_cases c17 : a1 = 4
        · rw [if_pos c17] at h
          refine .condT rfl (beq_iff_eq.mpr c17) ?_
          refine .reg0 rfl (.op 0 rfl (faP fa49_3 rfl) <| .op 0 rfl (stB (cs0 := (TWeight.lit a0)) (cs := [.val (.slice none 0 0)]) (cs1 := [.val (.bool a0.Zero), .val (.int .i64 a0.Cost), .val (.int .u64 a0.Facts.Gen), .rows (a0.Facts.Rows.map (cInt .u64)), .val (.slice none 0 0), .rows (a0.Parts.map TWeight.cells)]) rfl rfl sz46 rfl ⟨Nat.le_of_ble_eq_true rfl, rfl⟩ rfl) <| .nil0) ?_
          refine .keepL [0] [(2, .ptr 0 1 6 0 0)] [⟨6, [[.val (.bool a0.Zero), .val (.int .i64 a0.Cost), .val (.int .u64 a0.Facts.Gen), .rows (a0.Facts.Rows.map (cInt .u64)), .rows ([].map TCell.cells), .rows (a0.Parts.map TWeight.cells)]], 0, none⟩] (by decide) (by decide) ⟨.ptr rfl, trivial⟩ ⟨⟨_, rfl, bcBox (.cons (.free rfl rfl) <| .cons (.free rfl rfl) <| .cons (.free rfl rfl) <| .cons (.free rfl rfl) <| .cons (.nil) <| .cons (.free rfl rfl) <| .nil)⟩, trivial⟩ ?_
          exact hJ1 _ h
        · rw [if_neg c17] at h
          refine .condF rfl (beq_eq_false_iff_ne.mpr c17) ?_
          refine .seq ?_
          refine .reg0 rfl (.op 0 rfl (eqI rfl rfl) <| .op 0 rfl (asV rfl) <| .nil0) ?_
          by_cases c18 : a1 = 5
          · rw [if_pos c18] at h
            refine .condT rfl (beq_iff_eq.mpr c18) ?_
            refine .reg0 rfl (.op 0 rfl (faP fa49_4 rfl) <| .op 0 rfl (stB (cs0 := (TWeight.lit a0)) (cs := [.val (.slice none 0 0)]) (cs1 := [.val (.bool a0.Zero), .val (.int .i64 a0.Cost), .val (.int .u64 a0.Facts.Gen), .rows (a0.Facts.Rows.map (cInt .u64)), .rows (a0.Cells.map TCell.cells), .val (.slice none 0 0)]) rfl rfl sz47 rfl ⟨Nat.le_of_ble_eq_true rfl, rfl⟩ rfl) <| .nil0) ?_
            refine .keepL [0] [(2, .ptr 0 1 6 0 0)] [⟨6, [[.val (.bool a0.Zero), .val (.int .i64 a0.Cost), .val (.int .u64 a0.Facts.Gen), .rows (a0.Facts.Rows.map (cInt .u64)), .rows (a0.Cells.map TCell.cells), .rows ([].map TWeight.cells)]], 0, none⟩] (by decide) (by decide) ⟨.ptr rfl, trivial⟩ ⟨⟨_, rfl, bcBox (.cons (.free rfl rfl) <| .cons (.free rfl rfl) <| .cons (.free rfl rfl) <| .cons (.free rfl rfl) <| .cons (.free rfl rfl) <| .cons (.nil) <| .nil)⟩, trivial⟩ ?_
            exact hJ1 _ h
          · rw [if_neg c18] at h
            refine .condF rfl (beq_eq_false_iff_ne.mpr c18) ?_
            refine .skip ?_
            refine .keepL [0] [(2, .ptr 0 1 6 0 0)] [⟨6, [(TWeight.lit a0)], 0, none⟩] (by decide) (by decide) ⟨.ptr rfl, trivial⟩ ⟨⟨_, rfl, bcBox (all2_free rfl)⟩, trivial⟩ ?_
            exact hJ1 _ h
def cost_checks.b1 (a0 : Int) (a1 : List Int) : Int → Rnd Int Unit Int → Prop := fun x1 z1 => if x1 < (a1.length : Int) then (((InR x1 a1.length)) ∧ if ((decide ((rdl a1 x1) < (-1))) || (decide ((rdl a1 x1) > a0))) = true then (z1 = .ret 21) else (z1 = .next (IntKind.i64.wrap (x1 + 1)))) else (z1 = .exit ())
def cost_checks.f (a0 : Int) (a1 : List Int) (r : Int) : Prop :=
  if ((decide (a0 < 0)) || (decide (a0 > 1048576))) = true then (r = 20) else (∃ o1 : Fin Unit Int, Loop (cost_checks.b1 a0 a1) 0 o1 ∧ o1.on (fun _ => r = 0) (fun r_ => r = r_))
theorem cost_checks.D {a0 : Int} {a1 : List Int} {r : Int} (h : cost_checks.f a0 a1 r) : D Try.prog X (.callH 81 [.val (.int .i64 a0), .rows (a1.map (cInt .i64))] [] (.val (.int .i64 r)) []) := by
  unfold cost_checks.f at h
  refine .enter 27 0 fn81 rfl rfl rfl ?_
  refine .seq ?_
  refine .reg0 rfl (.op 0 rfl (asV rfl) <| .nil0) ?_
  refine .seq ?_
  refine .seq ?_
  refine .reg0 (e1 := listEnv [(0, .val (.int .i64 a0)), (1, .rows (a1.map (cInt .i64))), (12, .val (.bool ((decide (a0 < 0)) || (decide (a0 > 1048576)))))]) (H1 := []) rfl ?_ ?_
  · by_cases c1 : a0 < 0
    · exact (.op 0 rfl (mvV rfl) <| .op 0 rfl (ltI rfl rfl) <| .op 0 rfl (mvV rfl) <| .no (gF rfl rfl rfl (decide_eq_true c1)) <| .no (gF rfl rfl rfl (decide_eq_true c1)) <| .op 0 rfl (pkTV rfl (decide_eq_true c1) rfl) <| .nilL _ ⟨.free rfl rfl, .free rfl rfl, cB rfl (mOrT (decide_eq_true c1)), trivial⟩)
    · exact (.op 0 rfl (mvV rfl) <| .op 0 rfl (ltI rfl rfl) <| .op 0 rfl (mvV rfl) <| .op 0 (gT rfl rfl rfl (decide_eq_false c1)) (mvV rfl) <| .op 0 (gT rfl rfl rfl (decide_eq_false c1)) (gtI rfl rfl) <| .op 0 rfl (pkFV rfl (decide_eq_false c1) rfl) <| .nilL _ ⟨.free rfl rfl, .free rfl rfl, cB rfl (mOrF (decide_eq_false c1) rfl), trivial⟩)
  by_cases c2 : ((decide (a0 < 0)) || (decide (a0 > 1048576))) = true
  · rw [if_pos c2] at h
    refine .condT rfl c2 ?_
    refine .seq ?_
    refine .reg0 rfl (.op 0 rfl (asV rfl) <| .nil0) ?_
    replace h := h.symm
    subst h
    refine .keepL [] [(4, .val (.int .i64 20))] [] (by decide) (by decide) ⟨.free rfl rfl, trivial⟩ trivial ?_
    exact .ret rfl
  · rw [if_neg c2] at h
    refine .condF rfl (Bool.eq_false_iff.mpr c2) ?_
    refine .skip ?_
    refine .seq ?_
    refine .seq ?_
    refine .reg0 rfl (.op 0 rfl (mvR rfl) <| .op 0 rfl (lnR (l := a1) sl30 rfl) <| .op 0 rfl (mvV rfl) <| .nil0) ?_
    refine .block ?_
    refine .keepL [] [(0, .val (.int .i64 a0)), (13, .rows (a1.map (cInt .i64))), (14, .val (.int .i64 (a1.length : Int))), (15, .val (.int .i64 0))] [] (by decide) (by decide) ⟨.free rfl rfl, .free rfl rfl, .free rfl rfl, .free rfl rfl, trivial⟩ trivial ?_
    obtain ⟨o1, hL1, h⟩ := h
    refine .loopB (cost_checks.b1 a0 a1) (fun x1 => listEnv [(0, .val (.int .i64 a0)), (13, .rows (a1.map (cInt .i64))), (14, .val (.int .i64 (a1.length : Int))), (15, .val (.int .i64 x1))]) (fun x1 => []) (fun _ => listEnv []) (fun _ => []) hL1 (fun r_ => r = r_) ?_ ?_ ?_
    · rintro ⟨⟩ rfl
      try dsimp only [Fin.on] at h
      refine .seq ?_
      refine .reg0 rfl (.op 0 rfl (asV rfl) <| .nil0) ?_
      replace h := h.symm
      subst h
      refine .keepL [] [(4, .val (.int .i64 0))] [] (by decide) (by decide) ⟨.free rfl rfl, trivial⟩ trivial ?_
      exact .ret rfl
    · rintro r_ rfl
      exact h
    · rintro x1 z1 h hn1 hx1 hr1
      dsimp only [cost_checks.b1] at h
      refine .seq ?_
      refine .reg0 rfl (.op 0 rfl (ltI rfl rfl) <| .nil0) ?_
      refine .seq ?_
      by_cases c9 : x1 < (a1.length : Int)
      · rw [if_pos c9] at h
        refine .condT rfl (decide_eq_true c9) ?_
        refine .skip ?_
        refine .seq ?_
        refine .block ?_
        refine .seq ?_
        obtain ⟨g16_0, h⟩ := h
        refine .reg0 rfl (.op 0 rfl (ixR (l := a1) (lit := (cInt .i64)) sl30 rfl rfl (fun _ => rfl) g16_0.1 g16_0.2) <| .op 0 rfl (ldC rfl sz3 ag3 rfl) <| .op 0 rfl (asV rfl) <| .nil0) ?_
        refine .seq ?_
        refine .reg0 (e1 := listEnv [(0, .val (.int .i64 a0)), (13, .rows (a1.map (cInt .i64))), (14, .val (.int .i64 (a1.length : Int))), (15, .val (.int .i64 x1)), (25, .val (.bool ((decide ((rdl a1 x1) < (-1))) || (decide ((rdl a1 x1) > a0)))))]) (H1 := []) rfl ?_ ?_
        · by_cases c10 : (rdl a1 x1) < (-1)
          · exact (.op 0 rfl (mvV rfl) <| .op 0 rfl (ltI rfl rfl) <| .op 0 rfl (mvV rfl) <| .no (gF rfl rfl rfl (decide_eq_true c10)) <| .no (gF rfl rfl rfl (decide_eq_true c10)) <| .no (gF rfl rfl rfl (decide_eq_true c10)) <| .op 0 rfl (pkTV rfl (decide_eq_true c10) rfl) <| .nilL _ ⟨.free rfl rfl, .free rfl rfl, .free rfl rfl, .free rfl rfl, cB rfl (mOrT (decide_eq_true c10)), trivial⟩)
          · exact (.op 0 rfl (mvV rfl) <| .op 0 rfl (ltI rfl rfl) <| .op 0 rfl (mvV rfl) <| .op 0 (gT rfl rfl rfl (decide_eq_false c10)) (mvV rfl) <| .op 0 (gT rfl rfl rfl (decide_eq_false c10)) (mvV rfl) <| .op 0 (gT rfl rfl rfl (decide_eq_false c10)) (gtI rfl rfl) <| .op 0 rfl (pkFV rfl (decide_eq_false c10) rfl) <| .nilL _ ⟨.free rfl rfl, .free rfl rfl, .free rfl rfl, .free rfl rfl, cB rfl (mOrF (decide_eq_false c10) rfl), trivial⟩)
        by_cases c11 : ((decide ((rdl a1 x1) < (-1))) || (decide ((rdl a1 x1) > a0))) = true
        · rw [if_pos c11] at h
          refine .condT rfl c11 ?_
          refine .seq ?_
          refine .reg0 rfl (.op 0 rfl (asV rfl) <| .nil0) ?_
          have q3 := hr1 _ h
          replace q3 := q3.symm
          subst q3
          refine .keepL [] [(4, .val (.int .i64 21))] [] (by decide) (by decide) ⟨.free rfl rfl, trivial⟩ trivial ?_
          exact .ret rfl
        · rw [if_neg c11] at h
          refine .condF rfl (Bool.eq_false_iff.mpr c11) ?_
          refine .skip ?_
          refine .inBlock ?_
          refine .reg0 rfl (.op 0 rfl (addI rfl rfl) <| .op 0 rfl (mvV rfl) <| .nil0) ?_
          refine .keepL [] [(0, .val (.int .i64 a0)), (13, .rows (a1.map (cInt .i64))), (14, .val (.int .i64 (a1.length : Int))), (15, .val (.int .i64 (IntKind.i64.wrap (x1 + 1))))] [] (by decide) (by decide) ⟨.free rfl rfl, .free rfl rfl, .free rfl rfl, .free rfl rfl, trivial⟩ trivial ?_
          exact hn1 _ h
      · rw [if_neg c9] at h
        refine .condF rfl (decide_eq_false c9) ?_
        refine .exit rfl ?_
        refine .keepL [] [] [] (by decide) (by decide) trivial trivial ?_
        exact hx1 _ h
def cost_Check.f (a0 : Int) (a1 : Int) (r : Int) : Prop :=
  ∃ t2_3 : Int, (cost_checks.f a0 [a1] t2_3) ∧ r = t2_3
theorem cost_Check.D {a0 : Int} {a1 : Int} {r : Int} (h : cost_Check.f a0 a1 r) : D Try.prog X (.callH 77 [.val (.int .i64 a0), .val (.int .i64 a1)] [] (.val (.int .i64 r)) []) := by
  unfold cost_Check.f at h
  refine .enter 9 0 fn77 rfl rfl rfl ?_
  refine .seq ?_
  refine .reg0 rfl (.op 0 rfl (asV rfl) <| .nil0) ?_
  refine .seq ?_
  obtain ⟨t2_3, g2_3, h⟩ := h
  refine .room 0 ?_
  refine .reg0 rfl (.op 0 rfl (mvV rfl) <| .op 0 rfl (mvV rfl) <| .op 0 rfl (bldL (s := 1) (cs := [.val (.int .i64 a1)]) un30 sz3 ze3 ⟨by decide, rfl, by decide⟩ rfl rfl rfl rfl) <| .callI rfl (callee_of rfl go81 rfl) (.lendC (args' := [.val (.int .i64 a0), .rows ([a1].map (cInt .i64))])  [0] false (.cons (.free rfl rfl) <| .cons (cFixO (l := [a1]) sl30 rfl rfl rfl rfl) <| .nil) (by decide) rfl rfl rfl rfl (cost_checks.D g2_3)) <| .op 0 rfl (asV rfl) <| .nil0) ?_
  replace h := h.symm
  subst h
  refine .keepL [] [(4, .val (.int .i64 t2_3))] [] (by decide) (by decide) ⟨.free rfl rfl, trivial⟩ trivial ?_
  exact .ret rfl
def bits_Full.f (a0 : Int) (r : Int × Int) : Prop :=
  if ((decide (a0 < 0)) || (decide (a0 > 64))) = true then (r = (0, 10)) else ((((0 : Int) ≤ (IntKind.u64.wrap (IntKind.i64.wrap (64 - a0))))) ∧ r = ((shrI .u64 18446744073709551615 (IntKind.u64.wrap (IntKind.i64.wrap (64 - a0)))), 0))
theorem bits_Full.D {a0 : Int} {r : Int × Int} (h : bits_Full.f a0 r) : D Try.prog X (.callH 69 [.val (.int .i64 a0)] [] (.tuple [.val (.int .u64 r.1), .val (.int .i64 r.2)]) []) := by
  unfold bits_Full.f at h
  refine .enter 14 0 fn69 rfl rfl rfl ?_
  refine .seq ?_
  refine .reg0 rfl (.op 0 rfl (asV rfl) <| .op 0 rfl (asV rfl) <| .nil0) ?_
  refine .seq ?_
  refine .seq ?_
  refine .reg0 (e1 := listEnv [(0, .val (.int .i64 a0)), (9, .val (.bool ((decide (a0 < 0)) || (decide (a0 > 64)))))]) (H1 := []) rfl ?_ ?_
  · by_cases c1 : a0 < 0
    · exact (.op 0 rfl (mvV rfl) <| .op 0 rfl (ltI rfl rfl) <| .op 0 rfl (mvV rfl) <| .no (gF rfl rfl rfl (decide_eq_true c1)) <| .no (gF rfl rfl rfl (decide_eq_true c1)) <| .op 0 rfl (pkTV rfl (decide_eq_true c1) rfl) <| .nilL _ ⟨.free rfl rfl, cB rfl (mOrT (decide_eq_true c1)), trivial⟩)
    · exact (.op 0 rfl (mvV rfl) <| .op 0 rfl (ltI rfl rfl) <| .op 0 rfl (mvV rfl) <| .op 0 (gT rfl rfl rfl (decide_eq_false c1)) (mvV rfl) <| .op 0 (gT rfl rfl rfl (decide_eq_false c1)) (gtI rfl rfl) <| .op 0 rfl (pkFV rfl (decide_eq_false c1) rfl) <| .nilL _ ⟨.free rfl rfl, cB rfl (mOrF (decide_eq_false c1) rfl), trivial⟩)
  by_cases c2 : ((decide (a0 < 0)) || (decide (a0 > 64))) = true
  · rw [if_pos c2] at h
    refine .condT rfl c2 ?_
    refine .seq ?_
    refine .reg0 rfl (.op 0 rfl (asV rfl) <| .op 0 rfl (asV rfl) <| .nil0) ?_
    replace h := h.symm
    subst h
    refine .keepL [] [(2, .val (.int .u64 0)), (3, .val (.int .i64 10))] [] (by decide) (by decide) ⟨.free rfl rfl, .free rfl rfl, trivial⟩ trivial ?_
    exact .ret rfl
  · rw [if_neg c2] at h
    refine .condF rfl (Bool.eq_false_iff.mpr c2) ?_
    refine .skip ?_
    refine .seq ?_
    obtain ⟨g4_3, h⟩ := h
    refine .reg0 rfl (.op 0 rfl (mvV rfl) <| .op 0 rfl (subI rfl rfl) <| .op 0 rfl (convI un3 un123 rfl) <| .op 0 rfl (shr_ rfl rfl g4_3) <| .op 0 rfl (asV rfl) <| .op 0 rfl (asV rfl) <| .nil0) ?_
    replace h := h.symm
    subst h
    refine .keepL [] [(2, .val (.int .u64 (shrI .u64 18446744073709551615 (IntKind.u64.wrap (IntKind.i64.wrap (64 - a0)))))), (3, .val (.int .i64 0))] [] (by decide) (by decide) ⟨.free rfl rfl, .free rfl rfl, trivial⟩ trivial ?_
    exact .ret rfl
end Go.RM.Try
