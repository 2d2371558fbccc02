/- GH, for the statement QueryChecks: what it needs, no more. -/
import Derived.Test.YtphfgnecmgpnaaaZQueryChecksGG
set_option linter.unusedVariables false
set_option maxRecDepth 8000
set_option maxHeartbeats 4000000
namespace Go.RM.Try
open Go.RM Go.Proofs
variable {X : FuncId → List PV → Heap → PV → Heap → Prop}
def r05_SameSpace.b1 (self21 : TSpace → TSpace → Bool → Prop) (a0 : TSpace) (a1 : TSpace) : Int → Rnd Int Unit Bool → Prop := fun x1 z1 => if x1 < (a0.Parts.length : Int) then (((InR x1 a0.Parts.length)) ∧ ((InR x1 a1.Parts.length)) ∧ ∃ t14_10 : Bool, (self21 (rdl a0.Parts x1) (rdl a1.Parts x1) t14_10) ∧ if t14_10 = true then (z1 = .next (IntKind.i64.wrap (x1 + 1))) else (z1 = .ret false)) else (z1 = .exit ())
def r05_SameSpace.step (self21 : TSpace → TSpace → Bool → Prop) (a0 : TSpace) (a1 : TSpace) (r : Bool) : Prop :=
  if ((!(a0.Tag == a1.Tag)) || ((!(a0.Dim == a1.Dim)) || ((a0.Parts.length : Int) != (a1.Parts.length : Int)))) = true then (r = false) else (∃ o1 : Fin Unit Bool, Loop (r05_SameSpace.b1 self21 a0 a1) 0 o1 ∧ o1.on (fun _ => r = true) (fun r_ => r = r_))
theorem r05_SameSpace.stepD {self21 : TSpace → TSpace → Bool → Prop} {a0 : TSpace} {a1 : TSpace} (hs21 : ∀ z0_ z1_ r_, self21 z0_ z1_ r_ → D Try.prog X (.callH 21 [.agg (TSpace.lit z0_), .agg (TSpace.lit z1_)] [] (.val (.bool r_)) [])) {r : Bool} (h : r05_SameSpace.step self21 a0 a1 r) : D Try.prog X (.callH 21 [.agg (TSpace.lit a0), .agg (TSpace.lit a1)] [] (.val (.bool r)) []) := by
  unfold r05_SameSpace.step at h
  refine .enter 46 0 fn21 rfl rfl rfl ?_
  refine .seq ?_
  refine .room 0 ?_
  refine .room 0 ?_
  refine .reg0 rfl (.op 0 rfl (bxP (s := 3) (cs := (TSpace.lit a0)) rfl ⟨rfl, by decide, rfl⟩ rfl) <| .op 1 rfl (bxP (s := 3) (cs := (TSpace.lit a1)) rfl ⟨rfl, by decide, rfl⟩ rfl) <| .op 0 rfl (asV rfl) <| .nil0) ?_
  refine .seq ?_
  refine .seq ?_
  refine .reg0 (e1 := listEnv [(2, .ptr 0 1 3 0 0), (3, .ptr 1 1 3 0 0), (26, .val (.bool ((!(a0.Tag == a1.Tag)) || ((!(a0.Dim == a1.Dim)) || ((a0.Parts.length : Int) != (a1.Parts.length : Int))))))]) (H1 := [⟨3, [(TSpace.lit a0)], 0, none⟩, ⟨3, [(TSpace.lit a1)], 0, none⟩]) rfl ?_ ?_
  · by_cases c1 : a0.Tag = a1.Tag
    · by_cases c2 : a0.Dim = a1.Dim
      · exact (.op 0 rfl (faP fa25_0 rfl) <| .op 0 rfl (ldP rfl sz22 ag22 rfl) <| .op 0 rfl (faP fa25_0 rfl) <| .op 0 rfl (ldP rfl sz22 ag22 rfl) <| .op 0 rfl (neI rfl rfl) <| .op 0 rfl (mvV rfl) <| .op 0 (gT rfl rfl rfl (bne_eq_false_iff_eq.mpr c1)) (faP fa25_1 rfl) <| .op 0 (gT rfl rfl rfl (bne_eq_false_iff_eq.mpr c1)) (ldP rfl sz3 ag3 rfl) <| .op 0 (gT rfl rfl rfl (bne_eq_false_iff_eq.mpr c1)) (faP fa25_1 rfl) <| .op 0 (gT rfl rfl rfl (bne_eq_false_iff_eq.mpr c1)) (ldP rfl sz3 ag3 rfl) <| .op 0 (gT rfl rfl rfl (bne_eq_false_iff_eq.mpr c1)) (neI rfl rfl) <| .op 0 rfl (pkFV rfl (bne_eq_false_iff_eq.mpr c1) rfl) <| .op 0 rfl (mvV rfl) <| .op 0 (gT rfl rfl rfl (bne_eq_false_iff_eq.mpr c2)) (faP fa25_2 rfl) <| .op 0 (gT rfl rfl rfl (bne_eq_false_iff_eq.mpr c2)) (ldP rfl sz23 ag23 rfl) <| .op 0 (gT rfl rfl rfl (bne_eq_false_iff_eq.mpr c2)) (lnR (l := a0.Parts) sl23 rfl) <| .op 0 (gT rfl rfl rfl (bne_eq_false_iff_eq.mpr c2)) (faP fa25_2 rfl) <| .op 0 (gT rfl rfl rfl (bne_eq_false_iff_eq.mpr c2)) (ldP rfl sz23 ag23 rfl) <| .op 0 (gT rfl rfl rfl (bne_eq_false_iff_eq.mpr c2)) (lnR (l := a1.Parts) sl23 rfl) <| .op 0 (gT rfl rfl rfl (bne_eq_false_iff_eq.mpr c2)) (neI rfl rfl) <| .op 0 rfl (pkFV rfl (bne_eq_false_iff_eq.mpr c2) rfl) <| .nilL _ ⟨.ptr rfl, .ptr rfl, cB rfl (mOrF (bnotF (beq_iff_eq.mpr c1)) (mOrF (bnotF (beq_iff_eq.mpr c2)) rfl)), trivial⟩)
      · exact (.op 0 rfl (faP fa25_0 rfl) <| .op 0 rfl (ldP rfl sz22 ag22 rfl) <| .op 0 rfl (faP fa25_0 rfl) <| .op 0 rfl (ldP rfl sz22 ag22 rfl) <| .op 0 rfl (neI rfl rfl) <| .op 0 rfl (mvV rfl) <| .op 0 (gT rfl rfl rfl (bne_eq_false_iff_eq.mpr c1)) (faP fa25_1 rfl) <| .op 0 (gT rfl rfl rfl (bne_eq_false_iff_eq.mpr c1)) (ldP rfl sz3 ag3 rfl) <| .op 0 (gT rfl rfl rfl (bne_eq_false_iff_eq.mpr c1)) (faP fa25_1 rfl) <| .op 0 (gT rfl rfl rfl (bne_eq_false_iff_eq.mpr c1)) (ldP rfl sz3 ag3 rfl) <| .op 0 (gT rfl rfl rfl (bne_eq_false_iff_eq.mpr c1)) (neI rfl rfl) <| .op 0 rfl (pkFV rfl (bne_eq_false_iff_eq.mpr c1) rfl) <| .op 0 rfl (mvV rfl) <| .no (gF rfl rfl rfl (bne_iff_ne.mpr c2)) <| .no (gF rfl rfl rfl (bne_iff_ne.mpr c2)) <| .no (gF rfl rfl rfl (bne_iff_ne.mpr c2)) <| .no (gF rfl rfl rfl (bne_iff_ne.mpr c2)) <| .no (gF rfl rfl rfl (bne_iff_ne.mpr c2)) <| .no (gF rfl rfl rfl (bne_iff_ne.mpr c2)) <| .no (gF rfl rfl rfl (bne_iff_ne.mpr c2)) <| .op 0 rfl (pkTV rfl (bne_iff_ne.mpr c2) rfl) <| .nilL _ ⟨.ptr rfl, .ptr rfl, cB rfl (mOrF (bnotF (beq_iff_eq.mpr c1)) (mOrT (bnotT (beq_eq_false_iff_ne.mpr c2)))), trivial⟩)
    · exact (.op 0 rfl (faP fa25_0 rfl) <| .op 0 rfl (ldP rfl sz22 ag22 rfl) <| .op 0 rfl (faP fa25_0 rfl) <| .op 0 rfl (ldP rfl sz22 ag22 rfl) <| .op 0 rfl (neI rfl rfl) <| .op 0 rfl (mvV rfl) <| .no (gF rfl rfl rfl (bne_iff_ne.mpr c1)) <| .no (gF rfl rfl rfl (bne_iff_ne.mpr c1)) <| .no (gF rfl rfl rfl (bne_iff_ne.mpr c1)) <| .no (gF rfl rfl rfl (bne_iff_ne.mpr c1)) <| .no (gF rfl rfl rfl (bne_iff_ne.mpr c1)) <| .op 0 rfl (pkTV rfl (bne_iff_ne.mpr c1) rfl) <| .op 0 rfl (mvV rfl) <| .no (gF rfl rfl rfl rfl) <| .no (gF rfl rfl rfl rfl) <| .no (gF rfl rfl rfl rfl) <| .no (gF rfl rfl rfl rfl) <| .no (gF rfl rfl rfl rfl) <| .no (gF rfl rfl rfl rfl) <| .no (gF rfl rfl rfl rfl) <| .op 0 rfl (pkTV rfl rfl rfl) <| .nilL _ ⟨.ptr rfl, .ptr rfl, cB rfl (mOrT (bnotT (beq_eq_false_iff_ne.mpr c1))), trivial⟩)
  by_cases c3 : ((!(a0.Tag == a1.Tag)) || ((!(a0.Dim == a1.Dim)) || ((a0.Parts.length : Int) != (a1.Parts.length : Int)))) = true
  · rw [if_pos c3] at h
    refine .condT rfl c3 ?_
    refine .seq ?_
    refine .reg0 rfl (.op 0 rfl (asV rfl) <| .nil0) ?_
    replace h := h.symm
    subst h
    refine .keepL [] [(4, .val (.bool false))] [] (by decide) (by decide) ⟨.free rfl rfl, trivial⟩ trivial ?_
    exact .ret rfl
  · rw [if_neg c3] at h
    refine .condF rfl (Bool.eq_false_iff.mpr c3) ?_
    refine .skip ?_
    refine .seq ?_
    refine .seq ?_
    refine .reg0 rfl (.op 0 rfl (asV rfl) <| .nil0) ?_
    refine .block ?_
    refine .keepL [0, 1] [(2, .ptr 0 1 3 0 0), (3, .ptr 1 1 3 0 0), (5, .val (.int .i64 0))] [⟨3, [(TSpace.lit a0)], 0, none⟩, ⟨3, [(TSpace.lit a1)], 0, none⟩] (by decide) (by decide) ⟨.ptr rfl, .ptr rfl, .free rfl rfl, trivial⟩ ⟨⟨_, rfl, bcBox (all2_free rfl)⟩, ⟨_, rfl, bcBox (all2_free rfl)⟩, trivial⟩ ?_
    obtain ⟨o1, hL1, h⟩ := h
    refine .loopB (r05_SameSpace.b1 self21 a0 a1) (fun x1 => listEnv [(2, .ptr 0 1 3 0 0), (3, .ptr 1 1 3 0 0), (5, .val (.int .i64 x1))]) (fun x1 => [⟨3, [(TSpace.lit a0)], 0, none⟩, ⟨3, [(TSpace.lit a1)], 0, none⟩]) (fun _ => listEnv []) (fun _ => []) hL1 (fun r_ => r = r_) ?_ ?_ ?_
    · rintro ⟨⟩ rfl
      try dsimp only [Fin.on] at h
      refine .seq ?_
      refine .reg0 rfl (.op 0 rfl (asV rfl) <| .nil0) ?_
      replace h := h.symm
      subst h
      refine .keepL [] [(4, .val (.bool true))] [] (by decide) (by decide) ⟨.free rfl rfl, trivial⟩ trivial ?_
      exact .ret rfl
    · rintro r_ rfl
      exact h
    · rintro x1 z1 h hn1 hx1 hr1
      dsimp only [r05_SameSpace.b1] at h
      refine .seq ?_
      refine .seq ?_
      refine .reg0 rfl (.op 0 rfl (mvV rfl) <| .op 0 rfl (faP fa25_2 rfl) <| .op 0 rfl (ldP rfl sz23 ag23 rfl) <| .op 0 rfl (lnR (l := a0.Parts) sl23 rfl) <| .op 0 rfl (ltI rfl rfl) <| .nil0) ?_
      by_cases c8 : x1 < (a0.Parts.length : Int)
      · rw [if_pos c8] at h
        refine .condT rfl (decide_eq_true c8) ?_
        refine .skip ?_
        refine .seq ?_
        refine .block ?_
        refine .seq ?_
        obtain ⟨g14_3, h⟩ := h
        obtain ⟨g14_8, h⟩ := h
        obtain ⟨t14_10, g14_10, h⟩ := h
        refine .reg1 (e1 := listEnv [(2, .ptr 0 1 3 0 0), (3, .ptr 1 1 3 0 0), (5, .val (.int .i64 x1)), (45, .val (.bool (!t14_10)))]) (H1 := [⟨3, [(TSpace.lit a0)], 0, none⟩, ⟨3, [(TSpace.lit a1)], 0, none⟩]) rfl ?_ ?_
        · exact .drawM [(11, 45, .val (.bool (!t14_10))), (10, 44, .val (.bool t14_10)), (9, 43, .agg (TSpace.lit (rdl a1.Parts x1))), (8, 42, .cptr (TSpace.lit (rdl a1.Parts x1)) 0), (7, 41, .val (.int .i64 x1)), (6, 40, .rows (a1.Parts.map TSpace.cells)), (5, 39, .ptr 1 1 3 0 2), (4, 38, .agg (TSpace.lit (rdl a0.Parts x1))), (3, 37, .cptr (TSpace.lit (rdl a0.Parts x1)) 0), (2, 36, .val (.int .i64 x1)), (1, 35, .rows (a0.Parts.map TSpace.cells)), (0, 34, .ptr 0 1 3 0 2)] [] [[], [0], [], [1, 0, 2], [3, 1, 0, 2], [], [5], [], [6, 5, 7], [8, 6, 5, 7], [4, 3, 1, 0, 2, 9, 8, 6, 5, 7], [10, 4, 3, 1, 0, 2, 9, 8, 6, 5, 7]] (by rfl) (by rfl) (by rfl) (by exact ⟨fun S hS hD hn => .one 0 hS hD hn rfl rfl (faP fa25_2 rfl) rfl rfl rfl, fun S hS hD hn => .one 0 hS hD hn rfl rfl (ldP rfl sz23 ag23 rfl) rfl rfl rfl, fun S hS hD hn => .one 0 hS hD hn rfl rfl (mvV rfl) rfl rfl rfl, fun S hS hD hn => .one 0 hS hD hn rfl rfl (ixR (l := a0.Parts) (lit := TSpace.lit) sl23 rfl rfl TSpace.cells_lit g14_3.1 g14_3.2) rfl rfl rfl, fun S hS hD hn => .one 0 hS hD hn rfl rfl (ldCG rfl sz25 ag25 rfl) rfl rfl rfl, fun S hS hD hn => .one 0 hS hD hn rfl rfl (faP fa25_2 rfl) rfl rfl rfl, fun S hS hD hn => .one 0 hS hD hn rfl rfl (ldP rfl sz23 ag23 rfl) rfl rfl rfl, fun S hS hD hn => .one 0 hS hD hn rfl rfl (mvV rfl) rfl rfl rfl, fun S hS hD hn => .one 0 hS hD hn rfl rfl (ixR (l := a1.Parts) (lit := TSpace.lit) sl23 rfl rfl TSpace.cells_lit g14_8.1 g14_8.2) rfl rfl rfl, fun S hS hD hn => .one 0 hS hD hn rfl rfl (ldCG rfl sz25 ag25 rfl) rfl rfl rfl, fun S hS hD hn => .oneI hS hD hn rfl rfl (callee_of rfl go21 rfl) (.pure rfl rfl (hs21 _ _ _ g14_10)) rfl rfl rfl, fun S hS hD hn => .one 0 hS hD hn rfl rfl (notB rfl) rfl rfl rfl, trivial⟩) _ (by exact ⟨.ptr rfl, .ptr rfl, .free rfl rfl, .free rfl rfl, trivial⟩) (by rfl)
        by_cases c9 : t14_10 = true
        · rw [if_pos c9] at h
          refine .condF rfl (bnotF c9) ?_
          refine .skip ?_
          refine .inBlock ?_
          refine .reg0 rfl (.op 0 rfl (mvV rfl) <| .op 0 rfl (addI rfl rfl) <| .op 0 rfl (asV rfl) <| .nil0) ?_
          refine .keepL [0, 1] [(2, .ptr 0 1 3 0 0), (3, .ptr 1 1 3 0 0), (5, .val (.int .i64 (IntKind.i64.wrap (x1 + 1))))] [⟨3, [(TSpace.lit a0)], 0, none⟩, ⟨3, [(TSpace.lit a1)], 0, none⟩] (by decide) (by decide) ⟨.ptr rfl, .ptr rfl, .free rfl rfl, trivial⟩ ⟨⟨_, rfl, bcBox (all2_free rfl)⟩, ⟨_, rfl, bcBox (all2_free rfl)⟩, trivial⟩ ?_
          exact hn1 _ h
        · rw [if_neg c9] at h
          refine .condT rfl (bnotT (Bool.eq_false_iff.mpr c9)) ?_
          refine .seq ?_
          refine .reg0 rfl (.op 0 rfl (asV rfl) <| .nil0) ?_
          have q3 := hr1 _ h
          replace q3 := q3.symm
          subst q3
          refine .keepL [] [(4, .val (.bool false))] [] (by decide) (by decide) ⟨.free rfl rfl, trivial⟩ trivial ?_
          exact .ret rfl
      · rw [if_neg c8] at h
        refine .condF rfl (decide_eq_false c8) ?_
        refine .exit rfl ?_
        refine .keepL [] [] [] (by decide) (by decide) trivial trivial ?_
        exact hx1 _ h
def r05_SameSpace.fN : Nat → TSpace → TSpace → Bool → Prop
  | 0 => fun _ _ _ => False
  | n + 1 => r05_SameSpace.step (r05_SameSpace.fN n)
theorem r05_SameSpace.ND : ∀ (n : Nat) {a0 : TSpace} {a1 : TSpace} {r : Bool} (h : r05_SameSpace.fN n a0 a1 r), D Try.prog X (.callH 21 [.agg (TSpace.lit a0), .agg (TSpace.lit a1)] [] (.val (.bool r)) [])
  | 0, _, _, _, h => h.elim
  | n + 1, _, _, _, h => r05_SameSpace.stepD (fun _ _ _ h => r05_SameSpace.ND n h) h
def r05_SameSpace.f (a0 : TSpace) (a1 : TSpace) (r : Bool) : Prop := ∃ n, r05_SameSpace.fN n a0 a1 r
theorem r05_SameSpace.D {a0 : TSpace} {a1 : TSpace} {r : Bool} (h : r05_SameSpace.f a0 a1 r) : D Try.prog X (.callH 21 [.agg (TSpace.lit a0), .agg (TSpace.lit a1)] [] (.val (.bool r)) []) := by obtain ⟨n, h⟩ := h; exact r05_SameSpace.ND n h
def r10_State.f (a0 : TAuto) (a1 : Int) (r : Bool) : Prop :=
  r = ((decide (a1 ≥ 0)) && (decide (a1 < a0.States)))
theorem r10_State.D {a0 : TAuto} {a1 : Int} {r : Bool} (h : r10_State.f a0 a1 r) : D Try.prog X (.callH 39 [.agg (TAuto.lit a0), .val (.int .i64 a1)] [] (.val (.bool r)) []) := by
  unfold r10_State.f at h
  refine .enter 13 0 fn39 rfl rfl rfl ?_
  refine .seq ?_
  refine .room 0 ?_
  refine .reg0 rfl (.op 0 rfl (bxP (s := 7) (cs := (TAuto.lit a0)) rfl ⟨rfl, by decide, rfl⟩ rfl) <| .op 0 rfl (asV rfl) <| .nil0) ?_
  refine .seq ?_
  refine .reg0 (e1 := listEnv [(4, .val (.bool ((decide (a1 ≥ 0)) && (decide (a1 < a0.States)))))]) (H1 := [⟨7, [(TAuto.lit a0)], 0, none⟩]) rfl ?_ ?_
  · by_cases c1 : a1 ≥ 0
    · exact (.op 0 rfl (mvV rfl) <| .op 0 rfl (geI rfl rfl) <| .op 0 rfl (mvV rfl) <| .op 0 (gT rfl rfl rfl (decide_eq_true c1)) (mvV rfl) <| .op 0 (gT rfl rfl rfl (decide_eq_true c1)) (faP fa35_1 rfl) <| .op 0 (gT rfl rfl rfl (decide_eq_true c1)) (ldP rfl sz3 ag3 rfl) <| .op 0 (gT rfl rfl rfl (decide_eq_true c1)) (ltI rfl rfl) <| .op 0 rfl (pkTV rfl (decide_eq_true c1) rfl) <| .op 0 rfl (asV rfl) <| .nilL _ ⟨cB rfl (mAndT (decide_eq_true c1) rfl), trivial⟩)
    · exact (.op 0 rfl (mvV rfl) <| .op 0 rfl (geI rfl rfl) <| .op 0 rfl (mvV rfl) <| .no (gF rfl rfl rfl (decide_eq_false c1)) <| .no (gF rfl rfl rfl (decide_eq_false c1)) <| .no (gF rfl rfl rfl (decide_eq_false c1)) <| .no (gF rfl rfl rfl (decide_eq_false c1)) <| .op 0 rfl (pkFV rfl (decide_eq_false c1) rfl) <| .op 0 rfl (asV rfl) <| .nilL _ ⟨cB rfl (mAndF (decide_eq_false c1)), trivial⟩)
  replace h := h.symm
  subst h
  refine .keepL [] [(4, .val (.bool ((decide (a1 ≥ 0)) && (decide (a1 < a0.States)))))] [] (by decide) (by decide) ⟨.free rfl rfl, trivial⟩ trivial ?_
  exact .ret rfl
end Go.RM.Try
