/- GI, for the statement QueryOnes: what it needs, no more. -/
import Derived.Test.YtphfgnecmgpnaaaZQueryOnesGH
set_option linter.unusedVariables false
set_option maxRecDepth 8000
set_option maxHeartbeats 4000000
namespace Go.RM.Try
open Go.RM Go.Proofs
variable {X : FuncId → List PV → Heap → PV → Heap → Prop}
def r10_Check.b1 (a0 : TAuto) : Int → Rnd Int Unit Int → Prop := fun x1 z1 => if x1 < (a0.Final.length : Int) then (((InR x1 a0.Final.length)) ∧ ∃ t18_6 : Bool, (r10_State.f a0 (rdl a0.Final x1) t18_6) ∧ ((t18_6 = true) → (x1 > 0) → (InR x1 a0.Final.length)) ∧ ((t18_6 = true) → (x1 > 0) → (InR (IntKind.i64.wrap (x1 - 1)) a0.Final.length)) ∧ if ((!t18_6) || ((decide (x1 > 0)) && (decide ((rdl a0.Final x1) ≤ (rdl a0.Final (IntKind.i64.wrap (x1 - 1))))))) = true then (z1 = .ret 100) else (z1 = .next (IntKind.i64.wrap (x1 + 1)))) else (z1 = .exit ())
def r10_Check.b2 (a0 : TAuto) : Int → Rnd Int Unit Int → Prop := fun x2 z2 => if x2 < (a0.Trans.length : Int) then (((InR x2 a0.Trans.length)) ∧ ∃ t34_3 : Bool, (r10_State.f a0 ((rdl a0.Trans x2).From) t34_3) ∧ ∃ t34_9 : Bool, ((t34_3 = true) → r10_State.f a0 ((rdl a0.Trans x2).To) t34_9) ∧ if ((!t34_3) || ((!t34_9) || ((decide ((rdl a0.Trans x2).Sym < (-1))) || (decide ((rdl a0.Trans x2).Sym ≥ a0.Symbols))))) = true then (z2 = .ret 100) else (z2 = .next (IntKind.i64.wrap (x2 + 1)))) else (z2 = .exit ())
def r10_Check.b3 (a0 : TAuto) : Int → Rnd Int Unit Int → Prop := fun x3 z3 => if x3 < (a0.Trans.length : Int) then (((InR x3 a0.Trans.length)) ∧ ∃ t47_8 : Int, (r05_Check.f a0.Space ((rdl a0.Trans x3).W) t47_8) ∧ if t47_8 = 0 then (z3 = .next (IntKind.i64.wrap (x3 + 1))) else (z3 = .ret 51)) else (z3 = .exit ())
def r10_Check.f (a0 : TAuto) (r : Int) : Prop :=
  ∃ t2_2 : Int, (r05_Space.f a0.Space t2_2) ∧ if t2_2 = 0 then (if (a0.Trans.length : Int) > 65536 then (r = 3) else (if ((decide (a0.States < 0)) || ((decide (a0.States > 4096)) || ((decide (a0.Symbols < 0)) || (decide (a0.Symbols > 4096))))) = true then (r = 100) else (∃ o1 : Fin Unit Int, Loop (r10_Check.b1 a0) 0 o1 ∧ o1.on (fun _ => ∃ o2 : Fin Unit Int, Loop (r10_Check.b2 a0) 0 o2 ∧ o2.on (fun _ => ∃ o3 : Fin Unit Int, Loop (r10_Check.b3 a0) 0 o3 ∧ o3.on (fun _ => r = 0) (fun r_ => r = r_)) (fun r_ => r = r_)) (fun r_ => r = r_)))) else (r = t2_2)
theorem r10_Check.D {a0 : TAuto} {r : Int} (h : r10_Check.f a0 r) : D Try.prog X (.callH 27 [.agg (TAuto.lit a0)] [] (.val (.int .i64 r)) []) := by
  unfold r10_Check.f at h
  refine .enter 122 0 fn27 rfl rfl rfl ?_
  refine .seq ?_
  refine .room 0 ?_
  refine .reg0 rfl (.op 0 rfl (bxP (s := 7) (cs := (TAuto.lit a0)) rfl ⟨rfl, by decide, rfl⟩ rfl) <| .op 0 rfl (asV rfl) <| .nil0) ?_
  refine .seq ?_
  obtain ⟨t2_2, g2_2, h⟩ := h
  refine .reg0 rfl (.op 0 rfl (faP fa35_0 rfl) <| .op 0 rfl (ldG rfl sz25 ag25 rfl) <| .callI rfl (callee_of rfl go36 rfl) (.pure rfl rfl (r05_Space.D g2_2)) <| .op 0 rfl (asV rfl) <| .nil0) ?_
  refine .seq ?_
  refine .seq ?_
  refine .reg0 rfl (.op 0 rfl (mvV rfl) <| .op 0 rfl (neI rfl rfl) <| .nil0) ?_
  by_cases c1 : t2_2 = 0
  · rw [if_pos c1] at h
    refine .condF rfl (bne_eq_false_iff_eq.mpr c1) ?_
    refine .skip ?_
    refine .seq ?_
    refine .seq ?_
    refine .reg0 rfl (.op 0 rfl (faP fa35_4 rfl) <| .op 0 rfl (ldP rfl sz33 ag33 rfl) <| .op 0 rfl (lnR (l := a0.Trans) sl33 rfl) <| .op 0 rfl (gtI rfl rfl) <| .nil0) ?_
    by_cases c2 : (a0.Trans.length : Int) > 65536
    · rw [if_pos c2] at h
      refine .condT rfl (decide_eq_true c2) ?_
      refine .seq ?_
      refine .reg0 rfl (.op 0 rfl (asV rfl) <| .nil0) ?_
      replace h := h.symm
      subst h
      refine .keepL [] [(2, .val (.int .i64 3))] [] (by decide) (by decide) ⟨.free rfl rfl, trivial⟩ trivial ?_
      exact .ret rfl
    · rw [if_neg c2] at h
      refine .condF rfl (decide_eq_false c2) ?_
      refine .skip ?_
      refine .seq ?_
      refine .seq ?_
      refine .reg0 (e1 := listEnv [(1, .ptr 0 1 7 0 0), (35, .val (.bool ((decide (a0.States < 0)) || ((decide (a0.States > 4096)) || ((decide (a0.Symbols < 0)) || (decide (a0.Symbols > 4096)))))))]) (H1 := [⟨7, [(TAuto.lit a0)], 0, none⟩]) rfl ?_ ?_
      · by_cases c3 : a0.States < 0
        · exact (.op 0 rfl (faP fa35_1 rfl) <| .op 0 rfl (ldP rfl sz3 ag3 rfl) <| .op 0 rfl (ltI rfl rfl) <| .op 0 rfl (mvV rfl) <| .no (gF rfl rfl rfl (decide_eq_true c3)) <| .no (gF rfl rfl rfl (decide_eq_true c3)) <| .no (gF rfl rfl rfl (decide_eq_true c3)) <| .op 0 rfl (pkTV rfl (decide_eq_true c3) rfl) <| .op 0 rfl (mvV rfl) <| .no (gF rfl rfl rfl rfl) <| .no (gF rfl rfl rfl rfl) <| .no (gF rfl rfl rfl rfl) <| .op 0 rfl (pkTV rfl rfl rfl) <| .op 0 rfl (mvV rfl) <| .no (gF rfl rfl rfl rfl) <| .no (gF rfl rfl rfl rfl) <| .no (gF rfl rfl rfl rfl) <| .op 0 rfl (pkTV rfl rfl rfl) <| .nilL _ ⟨.ptr rfl, cB rfl (mOrT (decide_eq_true c3)), trivial⟩)
        · by_cases c4 : a0.States > 4096
          · exact (.op 0 rfl (faP fa35_1 rfl) <| .op 0 rfl (ldP rfl sz3 ag3 rfl) <| .op 0 rfl (ltI rfl rfl) <| .op 0 rfl (mvV rfl) <| .op 0 (gT rfl rfl rfl (decide_eq_false c3)) (faP fa35_1 rfl) <| .op 0 (gT rfl rfl rfl (decide_eq_false c3)) (ldP rfl sz3 ag3 rfl) <| .op 0 (gT rfl rfl rfl (decide_eq_false c3)) (gtI rfl rfl) <| .op 0 rfl (pkFV rfl (decide_eq_false c3) rfl) <| .op 0 rfl (mvV rfl) <| .no (gF rfl rfl rfl (decide_eq_true c4)) <| .no (gF rfl rfl rfl (decide_eq_true c4)) <| .no (gF rfl rfl rfl (decide_eq_true c4)) <| .op 0 rfl (pkTV rfl (decide_eq_true c4) rfl) <| .op 0 rfl (mvV rfl) <| .no (gF rfl rfl rfl rfl) <| .no (gF rfl rfl rfl rfl) <| .no (gF rfl rfl rfl rfl) <| .op 0 rfl (pkTV rfl rfl rfl) <| .nilL _ ⟨.ptr rfl, cB rfl (mOrF (decide_eq_false c3) (mOrT (decide_eq_true c4))), trivial⟩)
          · by_cases c5 : a0.Symbols < 0
            · exact (.op 0 rfl (faP fa35_1 rfl) <| .op 0 rfl (ldP rfl sz3 ag3 rfl) <| .op 0 rfl (ltI rfl rfl) <| .op 0 rfl (mvV rfl) <| .op 0 (gT rfl rfl rfl (decide_eq_false c3)) (faP fa35_1 rfl) <| .op 0 (gT rfl rfl rfl (decide_eq_false c3)) (ldP rfl sz3 ag3 rfl) <| .op 0 (gT rfl rfl rfl (decide_eq_false c3)) (gtI rfl rfl) <| .op 0 rfl (pkFV rfl (decide_eq_false c3) rfl) <| .op 0 rfl (mvV rfl) <| .op 0 (gT rfl rfl rfl (decide_eq_false c4)) (faP fa35_2 rfl) <| .op 0 (gT rfl rfl rfl (decide_eq_false c4)) (ldP rfl sz3 ag3 rfl) <| .op 0 (gT rfl rfl rfl (decide_eq_false c4)) (ltI rfl rfl) <| .op 0 rfl (pkFV rfl (decide_eq_false c4) rfl) <| .op 0 rfl (mvV rfl) <| .no (gF rfl rfl rfl (decide_eq_true c5)) <| .no (gF rfl rfl rfl (decide_eq_true c5)) <| .no (gF rfl rfl rfl (decide_eq_true c5)) <| .op 0 rfl (pkTV rfl (decide_eq_true c5) rfl) <| .nilL _ ⟨.ptr rfl, cB rfl (mOrF (decide_eq_false c3) (mOrF (decide_eq_false c4) (mOrT (decide_eq_true c5)))), trivial⟩)
            · exact (.op 0 rfl (faP fa35_1 rfl) <| .op 0 rfl (ldP rfl sz3 ag3 rfl) <| .op 0 rfl (ltI rfl rfl) <| .op 0 rfl (mvV rfl) <| .op 0 (gT rfl rfl rfl (decide_eq_false c3)) (faP fa35_1 rfl) <| .op 0 (gT rfl rfl rfl (decide_eq_false c3)) (ldP rfl sz3 ag3 rfl) <| .op 0 (gT rfl rfl rfl (decide_eq_false c3)) (gtI rfl rfl) <| .op 0 rfl (pkFV rfl (decide_eq_false c3) rfl) <| .op 0 rfl (mvV rfl) <| .op 0 (gT rfl rfl rfl (decide_eq_false c4)) (faP fa35_2 rfl) <| .op 0 (gT rfl rfl rfl (decide_eq_false c4)) (ldP rfl sz3 ag3 rfl) <| .op 0 (gT rfl rfl rfl (decide_eq_false c4)) (ltI rfl rfl) <| .op 0 rfl (pkFV rfl (decide_eq_false c4) rfl) <| .op 0 rfl (mvV rfl) <| .op 0 (gT rfl rfl rfl (decide_eq_false c5)) (faP fa35_2 rfl) <| .op 0 (gT rfl rfl rfl (decide_eq_false c5)) (ldP rfl sz3 ag3 rfl) <| .op 0 (gT rfl rfl rfl (decide_eq_false c5)) (gtI rfl rfl) <| .op 0 rfl (pkFV rfl (decide_eq_false c5) rfl) <| .nilL _ ⟨.ptr rfl, cB rfl (mOrF (decide_eq_false c3) (mOrF (decide_eq_false c4) (mOrF (decide_eq_false c5) rfl))), trivial⟩)
      by_cases c6 : ((decide (a0.States < 0)) || ((decide (a0.States > 4096)) || ((decide (a0.Symbols < 0)) || (decide (a0.Symbols > 4096))))) = true
      · rw [if_pos c6] at h
        refine .condT rfl c6 ?_
        refine .seq ?_
        refine .reg0 rfl (.op 0 rfl (asV rfl) <| .nil0) ?_
        replace h := h.symm
        subst h
        refine .keepL [] [(2, .val (.int .i64 100))] [] (by decide) (by decide) ⟨.free rfl rfl, trivial⟩ trivial ?_
        exact .ret rfl
      · rw [if_neg c6] at h
        refine .condF rfl (Bool.eq_false_iff.mpr c6) ?_
        refine .skip ?_
        refine .seq ?_
        refine .seq ?_
        refine .reg0 rfl (.op 0 rfl (asV rfl) <| .nil0) ?_
        refine .block ?_
        refine .keepL [0] [(1, .ptr 0 1 7 0 0), (4, .val (.int .i64 0))] [⟨7, [(TAuto.lit a0)], 0, none⟩] (by decide) (by decide) ⟨.ptr rfl, .free rfl rfl, trivial⟩ ⟨⟨_, rfl, bcBox (all2_free rfl)⟩, trivial⟩ ?_
        obtain ⟨o1, hL1, h⟩ := h
        refine .loopB (r10_Check.b1 a0) (fun x1 => listEnv [(1, .ptr 0 1 7 0 0), (4, .val (.int .i64 x1))]) (fun x1 => [⟨7, [(TAuto.lit a0)], 0, none⟩]) (fun _ => listEnv [(1, .ptr 0 1 7 0 0)]) (fun _ => [⟨7, [(TAuto.lit a0)], 0, none⟩]) hL1 (fun r_ => r = r_) ?_ ?_ ?_
        · rintro ⟨⟩ rfl
          try dsimp only [Fin.on] at h
          refine .seq ?_
          refine .seq ?_
          refine .reg0 rfl (.op 0 rfl (asV rfl) <| .nil0) ?_
          refine .block ?_
          refine .keepL [0] [(1, .ptr 0 1 7 0 0), (5, .val (.int .i64 0))] [⟨7, [(TAuto.lit a0)], 0, none⟩] (by decide) (by decide) ⟨.ptr rfl, .free rfl rfl, trivial⟩ ⟨⟨_, rfl, bcBox (all2_free rfl)⟩, trivial⟩ ?_
          obtain ⟨o2, hL2, h⟩ := h
          refine .loopB (r10_Check.b2 a0) (fun x2 => listEnv [(1, .ptr 0 1 7 0 0), (5, .val (.int .i64 x2))]) (fun x2 => [⟨7, [(TAuto.lit a0)], 0, none⟩]) (fun _ => listEnv [(1, .ptr 0 1 7 0 0)]) (fun _ => [⟨7, [(TAuto.lit a0)], 0, none⟩]) hL2 (fun r_ => r = r_) ?_ ?_ ?_
          · rintro ⟨⟩ rfl
            try dsimp only [Fin.on] at h
            refine .seq ?_
            refine .seq ?_
            refine .reg0 rfl (.op 0 rfl (asV rfl) <| .nil0) ?_
            refine .block ?_
            refine .keepL [0] [(1, .ptr 0 1 7 0 0), (7, .val (.int .i64 0))] [⟨7, [(TAuto.lit a0)], 0, none⟩] (by decide) (by decide) ⟨.ptr rfl, .free rfl rfl, trivial⟩ ⟨⟨_, rfl, bcBox (all2_free rfl)⟩, trivial⟩ ?_
            obtain ⟨o3, hL3, h⟩ := h
            refine .loopB (r10_Check.b3 a0) (fun x3 => listEnv [(1, .ptr 0 1 7 0 0), (7, .val (.int .i64 x3))]) (fun x3 => [⟨7, [(TAuto.lit a0)], 0, none⟩]) (fun _ => listEnv []) (fun _ => []) hL3 (fun r_ => r = r_) ?_ ?_ ?_
            · rintro ⟨⟩ rfl
              try dsimp only [Fin.on] at h
              refine .seq ?_
              refine .reg0 rfl (.op 0 rfl (asV rfl) <| .nil0) ?_
              replace h := h.symm
              subst h
              refine .keepL [] [(2, .val (.int .i64 0))] [] (by decide) (by decide) ⟨.free rfl rfl, trivial⟩ trivial ?_
              exact .ret rfl
            · rintro r_ rfl
              exact h
            · rintro x3 z3 h hn3 hx3 hr3
              dsimp only [r10_Check.b3] at h
              refine .seq ?_
              refine .seq ?_
              refine .reg0 rfl (.op 0 rfl (mvV rfl) <| .op 0 rfl (faP fa35_4 rfl) <| .op 0 rfl (ldP rfl sz33 ag33 rfl) <| .op 0 rfl (lnR (l := a0.Trans) sl33 rfl) <| .op 0 rfl (ltI rfl rfl) <| .nil0) ?_
              by_cases c38 : x3 < (a0.Trans.length : Int)
              · rw [if_pos c38] at h
                refine .condT rfl (decide_eq_true c38) ?_
                refine .skip ?_
                refine .seq ?_
                refine .block ?_
                refine .seq ?_
                obtain ⟨g47_5, h⟩ := h
                obtain ⟨t47_8, g47_8, h⟩ := h
                refine .reg1 (e1 := listEnv [(1, .ptr 0 1 7 0 0), (7, .val (.int .i64 x3)), (121, .val (.bool (t47_8 != 0)))]) (H1 := [⟨7, [(TAuto.lit a0)], 0, none⟩]) rfl ?_ ?_
                · exact .drawM [(9, 121, .val (.bool (t47_8 != 0))), (8, 120, .val (.int .i64 t47_8)), (7, 119, .agg (TWeight.lit ((rdl a0.Trans x3).W))), (6, 118, .cptr (TTrans.lit (rdl a0.Trans x3)) 3), (5, 117, .cptr (TTrans.lit (rdl a0.Trans x3)) 0), (4, 116, .val (.int .i64 x3)), (3, 115, .rows (a0.Trans.map TTrans.cells)), (2, 114, .ptr 0 1 7 0 6), (1, 113, .agg (TSpace.lit a0.Space)), (0, 112, .ptr 0 1 7 0 0)] [] [[], [0], [], [2], [], [3, 2, 4], [5, 3, 2, 4], [6, 5, 3, 2, 4], [1, 0, 7, 6, 5, 3, 2, 4], [8, 1, 0, 7, 6, 5, 3, 2, 4]] (by rfl) (by rfl) (by rfl) (by exact ⟨fun S hS hD hn => .one 0 hS hD hn rfl rfl (faP fa35_0 rfl) rfl rfl rfl, fun S hS hD hn => .one 0 hS hD hn rfl rfl (ldG rfl sz25 ag25 rfl) rfl rfl rfl, fun S hS hD hn => .one 0 hS hD hn rfl rfl (faP fa35_4 rfl) rfl rfl rfl, fun S hS hD hn => .one 0 hS hD hn rfl rfl (ldP rfl sz33 ag33 rfl) rfl rfl rfl, fun S hS hD hn => .one 0 hS hD hn rfl rfl (mvV rfl) rfl rfl rfl, fun S hS hD hn => .one 0 hS hD hn rfl rfl (ixR (l := a0.Trans) (lit := TTrans.lit) sl33 rfl rfl (fun _ => rfl) g47_5.1 g47_5.2) rfl rfl rfl, fun S hS hD hn => .one 0 hS hD hn rfl rfl (faC fa59_3 rfl) rfl rfl rfl, fun S hS hD hn => .one 0 hS hD hn rfl rfl (ldCG rfl sz48 ag48 rfl) rfl rfl rfl, fun S hS hD hn => .oneI hS hD hn rfl rfl (callee_of rfl go38 rfl) (.pure rfl rfl (r05_Check.D g47_8)) rfl rfl rfl, fun S hS hD hn => .one 0 hS hD hn rfl rfl (neI rfl rfl) rfl rfl rfl, trivial⟩) _ (by exact ⟨.ptr rfl, .free rfl rfl, .free rfl rfl, trivial⟩) (by rfl)
                by_cases c39 : t47_8 = 0
                · rw [if_pos c39] at h
                  refine .condF rfl (bne_eq_false_iff_eq.mpr c39) ?_
                  refine .skip ?_
                  refine .inBlock ?_
                  refine .reg0 rfl (.op 0 rfl (mvV rfl) <| .op 0 rfl (addI rfl rfl) <| .op 0 rfl (asV rfl) <| .nil0) ?_
                  refine .keepL [0] [(1, .ptr 0 1 7 0 0), (7, .val (.int .i64 (IntKind.i64.wrap (x3 + 1))))] [⟨7, [(TAuto.lit a0)], 0, none⟩] (by decide) (by decide) ⟨.ptr rfl, .free rfl rfl, trivial⟩ ⟨⟨_, rfl, bcBox (all2_free rfl)⟩, trivial⟩ ?_
                  exact hn3 _ h
                · rw [if_neg c39] at h
                  refine .condT rfl (bne_iff_ne.mpr c39) ?_
                  refine .seq ?_
                  refine .reg0 rfl (.op 0 rfl (asV rfl) <| .nil0) ?_
                  have q9 := hr3 _ h
                  replace q9 := q9.symm
                  subst q9
                  refine .keepL [] [(2, .val (.int .i64 51))] [] (by decide) (by decide) ⟨.free rfl rfl, trivial⟩ trivial ?_
                  exact .ret rfl
              · rw [if_neg c38] at h
                refine .condF rfl (decide_eq_false c38) ?_
                refine .exit rfl ?_
                refine .keepL [] [] [] (by decide) (by decide) trivial trivial ?_
                exact hx3 _ h
          · rintro r_ rfl
            exact h
          · rintro x2 z2 h hn2 hx2 hr2
            dsimp only [r10_Check.b2] at h
            refine .seq ?_
            refine .seq ?_
            refine .reg0 rfl (.op 0 rfl (mvV rfl) <| .op 0 rfl (faP fa35_4 rfl) <| .op 0 rfl (ldP rfl sz33 ag33 rfl) <| .op 0 rfl (lnR (l := a0.Trans) sl33 rfl) <| .op 0 rfl (ltI rfl rfl) <| .nil0) ?_
            by_cases c29 : x2 < (a0.Trans.length : Int)
            · rw [if_pos c29] at h
              refine .condT rfl (decide_eq_true c29) ?_
              refine .skip ?_
              refine .seq ?_
              refine .block ?_
              refine .seq ?_
              obtain ⟨g33_3, h⟩ := h
              refine .room 0 ?_
              refine .reg0 rfl (.op 0 rfl (faP fa35_4 rfl) <| .op 0 rfl (ldP rfl sz33 ag33 rfl) <| .op 0 rfl (mvV rfl) <| .op 0 rfl (ixR (l := a0.Trans) (lit := TTrans.lit) sl33 rfl rfl (fun _ => rfl) g33_3.1 g33_3.2) <| .op 0 rfl (ldCG rfl sz59 ag59 rfl) <| .op 1 rfl (alP (s := 9) ze59 ⟨rfl, by decide, rfl⟩ rfl) <| .op 0 rfl (stB (cs0 := [.val (.int .i64 0), .val (.int .i64 0), .val (.int .i64 0), .val (.bool false), .val (.int .i64 0), .val (.int .u64 0), .val (.slice none 0 0), .val (.slice none 0 0), .val (.slice none 0 0)]) (cs := (TTrans.lit (rdl a0.Trans x2))) (cs1 := (TTrans.lit (rdl a0.Trans x2))) rfl rfl sz59 rfl ⟨Nat.le_of_ble_eq_true rfl, rfl⟩ rfl) <| .nil0) ?_
              refine .seq ?_
              obtain ⟨t34_3, g34_3, h⟩ := h
              obtain ⟨t34_9, g34_9, h⟩ := h
              refine .reg0 (e1 := listEnv [(1, .ptr 0 1 7 0 0), (5, .val (.int .i64 x2)), (104, .val (.bool ((!t34_3) || ((!t34_9) || ((decide ((rdl a0.Trans x2).Sym < (-1))) || (decide ((rdl a0.Trans x2).Sym ≥ a0.Symbols)))))))]) (H1 := [⟨7, [(TAuto.lit a0)], 0, none⟩, ⟨9, [(TTrans.lit (rdl a0.Trans x2))], 0, none⟩]) rfl ?_ ?_
              · by_cases c30 : t34_3 = true
                · by_cases c31 : t34_9 = true
                  · by_cases c32 : (rdl a0.Trans x2).Sym < (-1)
                    · exact (.op 0 rfl (ldG rfl sz35 ag35 rfl) <| .op 0 rfl (faP fa59_0 rfl) <| .op 0 rfl (ldP rfl sz3 ag3 rfl) <| .callI rfl (callee_of rfl go39 rfl) (.pure rfl rfl (r10_State.D g34_3)) <| .op 0 rfl (notB rfl) <| .op 0 rfl (mvV rfl) <| .op 0 (gT rfl rfl rfl (bnotF c30)) (ldG rfl sz35 ag35 rfl) <| .op 0 (gT rfl rfl rfl (bnotF c30)) (faP fa59_2 rfl) <| .op 0 (gT rfl rfl rfl (bnotF c30)) (ldP rfl sz3 ag3 rfl) <| .callI (gT rfl rfl rfl (bnotF c30)) (callee_of rfl go39 rfl) (.pure rfl rfl (r10_State.D (g34_9 c30))) <| .op 0 (gT rfl rfl rfl (bnotF c30)) (notB rfl) <| .op 0 rfl (pkFV rfl (bnotF c30) rfl) <| .op 0 rfl (mvV rfl) <| .op 0 (gT rfl rfl rfl (bnotF c31)) (faP fa59_1 rfl) <| .op 0 (gT rfl rfl rfl (bnotF c31)) (ldP rfl sz3 ag3 rfl) <| .op 0 (gT rfl rfl rfl (bnotF c31)) (ltI rfl rfl) <| .op 0 rfl (pkFV rfl (bnotF c31) rfl) <| .op 0 rfl (mvV rfl) <| .no (gF rfl rfl rfl (decide_eq_true c32)) <| .no (gF rfl rfl rfl (decide_eq_true c32)) <| .no (gF rfl rfl rfl (decide_eq_true c32)) <| .no (gF rfl rfl rfl (decide_eq_true c32)) <| .no (gF rfl rfl rfl (decide_eq_true c32)) <| .op 0 rfl (pkTV rfl (decide_eq_true c32) rfl) <| .nilL _ ⟨.ptr rfl, .free rfl rfl, cB rfl (mOrF (bnotF c30) (mOrF (bnotF c31) (mOrT (decide_eq_true c32)))), trivial⟩)
                    · exact (.op 0 rfl (ldG rfl sz35 ag35 rfl) <| .op 0 rfl (faP fa59_0 rfl) <| .op 0 rfl (ldP rfl sz3 ag3 rfl) <| .callI rfl (callee_of rfl go39 rfl) (.pure rfl rfl (r10_State.D g34_3)) <| .op 0 rfl (notB rfl) <| .op 0 rfl (mvV rfl) <| .op 0 (gT rfl rfl rfl (bnotF c30)) (ldG rfl sz35 ag35 rfl) <| .op 0 (gT rfl rfl rfl (bnotF c30)) (faP fa59_2 rfl) <| .op 0 (gT rfl rfl rfl (bnotF c30)) (ldP rfl sz3 ag3 rfl) <| .callI (gT rfl rfl rfl (bnotF c30)) (callee_of rfl go39 rfl) (.pure rfl rfl (r10_State.D (g34_9 c30))) <| .op 0 (gT rfl rfl rfl (bnotF c30)) (notB rfl) <| .op 0 rfl (pkFV rfl (bnotF c30) rfl) <| .op 0 rfl (mvV rfl) <| .op 0 (gT rfl rfl rfl (bnotF c31)) (faP fa59_1 rfl) <| .op 0 (gT rfl rfl rfl (bnotF c31)) (ldP rfl sz3 ag3 rfl) <| .op 0 (gT rfl rfl rfl (bnotF c31)) (ltI rfl rfl) <| .op 0 rfl (pkFV rfl (bnotF c31) rfl) <| .op 0 rfl (mvV rfl) <| .op 0 (gT rfl rfl rfl (decide_eq_false c32)) (faP fa59_1 rfl) <| .op 0 (gT rfl rfl rfl (decide_eq_false c32)) (ldP rfl sz3 ag3 rfl) <| .op 0 (gT rfl rfl rfl (decide_eq_false c32)) (faP fa35_2 rfl) <| .op 0 (gT rfl rfl rfl (decide_eq_false c32)) (ldP rfl sz3 ag3 rfl) <| .op 0 (gT rfl rfl rfl (decide_eq_false c32)) (geI rfl rfl) <| .op 0 rfl (pkFV rfl (decide_eq_false c32) rfl) <| .nilL _ ⟨.ptr rfl, .free rfl rfl, cB rfl (mOrF (bnotF c30) (mOrF (bnotF c31) (mOrF (decide_eq_false c32) rfl))), trivial⟩)
                  · exact (.op 0 rfl (ldG rfl sz35 ag35 rfl) <| .op 0 rfl (faP fa59_0 rfl) <| .op 0 rfl (ldP rfl sz3 ag3 rfl) <| .callI rfl (callee_of rfl go39 rfl) (.pure rfl rfl (r10_State.D g34_3)) <| .op 0 rfl (notB rfl) <| .op 0 rfl (mvV rfl) <| .op 0 (gT rfl rfl rfl (bnotF c30)) (ldG rfl sz35 ag35 rfl) <| .op 0 (gT rfl rfl rfl (bnotF c30)) (faP fa59_2 rfl) <| .op 0 (gT rfl rfl rfl (bnotF c30)) (ldP rfl sz3 ag3 rfl) <| .callI (gT rfl rfl rfl (bnotF c30)) (callee_of rfl go39 rfl) (.pure rfl rfl (r10_State.D (g34_9 c30))) <| .op 0 (gT rfl rfl rfl (bnotF c30)) (notB rfl) <| .op 0 rfl (pkFV rfl (bnotF c30) rfl) <| .op 0 rfl (mvV rfl) <| .no (gF rfl rfl rfl (bnotT (Bool.eq_false_iff.mpr c31))) <| .no (gF rfl rfl rfl (bnotT (Bool.eq_false_iff.mpr c31))) <| .no (gF rfl rfl rfl (bnotT (Bool.eq_false_iff.mpr c31))) <| .op 0 rfl (pkTV rfl (bnotT (Bool.eq_false_iff.mpr c31)) rfl) <| .op 0 rfl (mvV rfl) <| .no (gF rfl rfl rfl rfl) <| .no (gF rfl rfl rfl rfl) <| .no (gF rfl rfl rfl rfl) <| .no (gF rfl rfl rfl rfl) <| .no (gF rfl rfl rfl rfl) <| .op 0 rfl (pkTV rfl rfl rfl) <| .nilL _ ⟨.ptr rfl, .free rfl rfl, cB rfl (mOrF (bnotF c30) (mOrT (bnotT (Bool.eq_false_iff.mpr c31)))), trivial⟩)
                · exact (.op 0 rfl (ldG rfl sz35 ag35 rfl) <| .op 0 rfl (faP fa59_0 rfl) <| .op 0 rfl (ldP rfl sz3 ag3 rfl) <| .callI rfl (callee_of rfl go39 rfl) (.pure rfl rfl (r10_State.D g34_3)) <| .op 0 rfl (notB rfl) <| .op 0 rfl (mvV rfl) <| .no (gF rfl rfl rfl (bnotT (Bool.eq_false_iff.mpr c30))) <| .no (gF rfl rfl rfl (bnotT (Bool.eq_false_iff.mpr c30))) <| .no (gF rfl rfl rfl (bnotT (Bool.eq_false_iff.mpr c30))) <| .no (gF rfl rfl rfl (bnotT (Bool.eq_false_iff.mpr c30))) <| .no (gF rfl rfl rfl (bnotT (Bool.eq_false_iff.mpr c30))) <| .op 0 rfl (pkTV rfl (bnotT (Bool.eq_false_iff.mpr c30)) rfl) <| .op 0 rfl (mvV rfl) <| .no (gF rfl rfl rfl rfl) <| .no (gF rfl rfl rfl rfl) <| .no (gF rfl rfl rfl rfl) <| .op 0 rfl (pkTV rfl rfl rfl) <| .op 0 rfl (mvV rfl) <| .no (gF rfl rfl rfl rfl) <| .no (gF rfl rfl rfl rfl) <| .no (gF rfl rfl rfl rfl) <| .no (gF rfl rfl rfl rfl) <| .no (gF rfl rfl rfl rfl) <| .op 0 rfl (pkTV rfl rfl rfl) <| .nilL _ ⟨.ptr rfl, .free rfl rfl, cB rfl (mOrT (bnotT (Bool.eq_false_iff.mpr c30))), trivial⟩)
              by_cases c33 : ((!t34_3) || ((!t34_9) || ((decide ((rdl a0.Trans x2).Sym < (-1))) || (decide ((rdl a0.Trans x2).Sym ≥ a0.Symbols))))) = true
              · rw [if_pos c33] at h
                refine .condT rfl c33 ?_
                refine .seq ?_
                refine .reg0 rfl (.op 0 rfl (asV rfl) <| .nil0) ?_
                have q6 := hr2 _ h
                replace q6 := q6.symm
                subst q6
                refine .keepL [] [(2, .val (.int .i64 100))] [] (by decide) (by decide) ⟨.free rfl rfl, trivial⟩ trivial ?_
                exact .ret rfl
              · rw [if_neg c33] at h
                refine .condF rfl (Bool.eq_false_iff.mpr c33) ?_
                refine .skip ?_
                refine .inBlock ?_
                refine .reg0 rfl (.op 0 rfl (mvV rfl) <| .op 0 rfl (addI rfl rfl) <| .op 0 rfl (asV rfl) <| .nil0) ?_
                refine .keepL [0] [(1, .ptr 0 1 7 0 0), (5, .val (.int .i64 (IntKind.i64.wrap (x2 + 1))))] [⟨7, [(TAuto.lit a0)], 0, none⟩] (by decide) (by decide) ⟨.ptr rfl, .free rfl rfl, trivial⟩ ⟨⟨_, rfl, bcBox (all2_free rfl)⟩, trivial⟩ ?_
                exact hn2 _ h
            · rw [if_neg c29] at h
              refine .condF rfl (decide_eq_false c29) ?_
              refine .exit rfl ?_
              refine .keepL [0] [(1, .ptr 0 1 7 0 0)] [⟨7, [(TAuto.lit a0)], 0, none⟩] (by decide) (by decide) ⟨.ptr rfl, trivial⟩ ⟨⟨_, rfl, bcBox (all2_free rfl)⟩, trivial⟩ ?_
              exact hx2 _ h
        · rintro r_ rfl
          exact h
        · rintro x1 z1 h hn1 hx1 hr1
          dsimp only [r10_Check.b1] at h
          refine .seq ?_
          refine .seq ?_
          refine .reg0 rfl (.op 0 rfl (mvV rfl) <| .op 0 rfl (faP fa35_3 rfl) <| .op 0 rfl (ldP rfl sz29 ag29 rfl) <| .op 0 rfl (lnR (l := a0.Final) sl29 rfl) <| .op 0 rfl (ltI rfl rfl) <| .nil0) ?_
          by_cases c15 : x1 < (a0.Final.length : Int)
          · rw [if_pos c15] at h
            refine .condT rfl (decide_eq_true c15) ?_
            refine .skip ?_
            refine .seq ?_
            refine .block ?_
            refine .seq ?_
            obtain ⟨g18_4, h⟩ := h
            obtain ⟨t18_6, g18_6, h⟩ := h
            obtain ⟨g18_15, h⟩ := h
            obtain ⟨g18_21, h⟩ := h
            refine .reg1 (e1 := listEnv [(1, .ptr 0 1 7 0 0), (4, .val (.int .i64 x1)), (68, .val (.bool ((!t18_6) || ((decide (x1 > 0)) && (decide ((rdl a0.Final x1) ≤ (rdl a0.Final (IntKind.i64.wrap (x1 - 1)))))))))]) (H1 := [⟨7, [(TAuto.lit a0)], 0, none⟩]) rfl ?_ ?_
            · by_cases c16 : t18_6 = true
              · by_cases c17 : x1 > 0
                · exact .drawM [(25, 68, .val (.bool (decide ((rdl a0.Final x1) ≤ (rdl a0.Final (IntKind.i64.wrap (x1 - 1))))))), (24, 67, .val (.bool (decide ((rdl a0.Final x1) ≤ (rdl a0.Final (IntKind.i64.wrap (x1 - 1))))))), (23, 66, .val (.bool (decide ((rdl a0.Final x1) ≤ (rdl a0.Final (IntKind.i64.wrap (x1 - 1))))))), (22, 65, .val (.int .i64 (rdl a0.Final (IntKind.i64.wrap (x1 - 1))))), (21, 64, .cptr ((cInt .i64) (rdl a0.Final (IntKind.i64.wrap (x1 - 1)))) 0), (20, 63, .val (.int .i64 (IntKind.i64.wrap (x1 - 1)))), (19, 62, .val (.int .i64 x1)), (18, 61, .rows (a0.Final.map (cInt .i64))), (17, 60, .ptr 0 1 7 0 5), (16, 59, .val (.int .i64 (rdl a0.Final x1))), (15, 58, .cptr ((cInt .i64) (rdl a0.Final x1)) 0), (14, 57, .val (.int .i64 x1)), (13, 56, .rows (a0.Final.map (cInt .i64))), (12, 55, .ptr 0 1 7 0 5), (11, 54, .val (.bool (decide (x1 > 0)))), (10, 53, .val (.bool (decide (x1 > 0)))), (9, 52, .val (.int .i64 x1)), (8, 51, .val (.bool (!t18_6))), (7, 50, .val (.bool (!t18_6))), (6, 49, .val (.bool t18_6)), (5, 48, .val (.int .i64 (rdl a0.Final x1))), (4, 47, .cptr ((cInt .i64) (rdl a0.Final x1)) 0), (3, 46, .val (.int .i64 x1)), (2, 45, .rows (a0.Final.map (cInt .i64))), (1, 44, .ptr 0 1 7 0 5), (0, 43, .agg (TAuto.lit a0))] [] [[], [], [1], [], [2, 1, 3], [4, 2, 1, 3], [0, 5, 4, 2, 1, 3], [6, 0, 5, 4, 2, 1, 3], [7, 6, 0, 5, 4, 2, 1, 3], [8, 7, 6, 0, 5, 4, 2, 1, 3], [9, 8, 7, 6, 0, 5, 4, 2, 1, 3], [10, 9, 8, 7, 6, 0, 5, 4, 2, 1, 3], [11, 10, 9, 8, 7, 6, 0, 5, 4, 2, 1, 3], [12, 11, 10, 9, 8, 7, 6, 0, 5, 4, 2, 1, 3], [11, 10, 9, 8, 7, 6, 0, 5, 4, 2, 1, 3], [13, 12, 11, 10, 9, 8, 7, 6, 0, 5, 4, 2, 1, 3, 14], [15, 13, 12, 11, 10, 9, 8, 7, 6, 0, 5, 4, 2, 1, 3, 14], [11, 10, 9, 8, 7, 6, 0, 5, 4, 2, 1, 3], [17, 11, 10, 9, 8, 7, 6, 0, 5, 4, 2, 1, 3], [11, 10, 9, 8, 7, 6, 0, 5, 4, 2, 1, 3], [19, 11, 10, 9, 8, 7, 6, 0, 5, 4, 2, 1, 3], [18, 17, 11, 10, 9, 8, 7, 6, 0, 5, 4, 2, 1, 3, 20, 19], [21, 18, 17, 11, 10, 9, 8, 7, 6, 0, 5, 4, 2, 1, 3, 20, 19], [16, 15, 13, 12, 11, 10, 9, 8, 7, 6, 0, 5, 4, 2, 1, 3, 14, 22, 21, 18, 17, 20, 19], [11, 10, 9, 8, 7, 6, 0, 5, 4, 2, 1, 3, 23, 16, 15, 13, 12, 14, 22, 21, 18, 17, 20, 19], [8, 7, 6, 0, 5, 4, 2, 1, 3, 24, 11, 10, 9, 23, 16, 15, 13, 12, 14, 22, 21, 18, 17, 20, 19]] (by rfl) (by rfl) (by rfl) (by exact ⟨fun S hS hD hn => .one 0 hS hD hn rfl rfl (ldG rfl sz35 ag35 rfl) rfl rfl rfl, fun S hS hD hn => .one 0 hS hD hn rfl rfl (faP fa35_3 rfl) rfl rfl rfl, fun S hS hD hn => .one 0 hS hD hn rfl rfl (ldP rfl sz29 ag29 rfl) rfl rfl rfl, fun S hS hD hn => .one 0 hS hD hn rfl rfl (mvV rfl) rfl rfl rfl, fun S hS hD hn => .one 0 hS hD hn rfl rfl (ixR (l := a0.Final) (lit := (cInt .i64)) sl29 rfl rfl (fun _ => rfl) g18_4.1 g18_4.2) rfl rfl rfl, fun S hS hD hn => .one 0 hS hD hn rfl rfl (ldC rfl sz3 ag3 rfl) rfl rfl rfl, fun S hS hD hn => .oneI hS hD hn rfl rfl (callee_of rfl go39 rfl) (.pure rfl rfl (r10_State.D g18_6)) rfl rfl rfl, fun S hS hD hn => .one 0 hS hD hn rfl rfl (notB rfl) rfl rfl rfl, fun S hS hD hn => .one 0 hS hD hn rfl rfl (mvV rfl) rfl rfl rfl, fun S hS hD hn => .one 0 hS hD hn (gT rfl rfl rfl (bnotF c16)) rfl (mvV rfl) rfl rfl rfl, fun S hS hD hn => .one 0 hS hD hn (gT rfl rfl rfl (bnotF c16)) rfl (gtI rfl rfl) rfl rfl rfl, fun S hS hD hn => .one 0 hS hD hn (gT rfl rfl rfl (bnotF c16)) rfl (mvV rfl) rfl rfl rfl, fun S hS hD hn => .one 0 hS hD hn (gT rfl rfl rfl (decide_eq_true c17)) rfl (faP fa35_3 rfl) rfl rfl rfl, fun S hS hD hn => .one 0 hS hD hn (gT rfl rfl rfl (decide_eq_true c17)) rfl (ldP rfl sz29 ag29 rfl) rfl rfl rfl, fun S hS hD hn => .one 0 hS hD hn (gT rfl rfl rfl (decide_eq_true c17)) rfl (mvV rfl) rfl rfl rfl, fun S hS hD hn => .one 0 hS hD hn (gT rfl rfl rfl (decide_eq_true c17)) rfl (ixR (l := a0.Final) (lit := (cInt .i64)) sl29 rfl rfl (fun _ => rfl) (g18_15 c16 c17).1 (g18_15 c16 c17).2) rfl rfl rfl, fun S hS hD hn => .one 0 hS hD hn (gT rfl rfl rfl (decide_eq_true c17)) rfl (ldC rfl sz3 ag3 rfl) rfl rfl rfl, fun S hS hD hn => .one 0 hS hD hn (gT rfl rfl rfl (decide_eq_true c17)) rfl (faP fa35_3 rfl) rfl rfl rfl, fun S hS hD hn => .one 0 hS hD hn (gT rfl rfl rfl (decide_eq_true c17)) rfl (ldP rfl sz29 ag29 rfl) rfl rfl rfl, fun S hS hD hn => .one 0 hS hD hn (gT rfl rfl rfl (decide_eq_true c17)) rfl (mvV rfl) rfl rfl rfl, fun S hS hD hn => .one 0 hS hD hn (gT rfl rfl rfl (decide_eq_true c17)) rfl (subI rfl rfl) rfl rfl rfl, fun S hS hD hn => .one 0 hS hD hn (gT rfl rfl rfl (decide_eq_true c17)) rfl (ixR (l := a0.Final) (lit := (cInt .i64)) sl29 rfl rfl (fun _ => rfl) (g18_21 c16 c17).1 (g18_21 c16 c17).2) rfl rfl rfl, fun S hS hD hn => .one 0 hS hD hn (gT rfl rfl rfl (decide_eq_true c17)) rfl (ldC rfl sz3 ag3 rfl) rfl rfl rfl, fun S hS hD hn => .one 0 hS hD hn (gT rfl rfl rfl (decide_eq_true c17)) rfl (leI rfl rfl) rfl rfl rfl, fun S hS hD hn => .one 0 hS hD hn (gT rfl rfl rfl (bnotF c16)) rfl (pkTV rfl (decide_eq_true c17) rfl) rfl rfl rfl, fun S hS hD hn => .one 0 hS hD hn rfl rfl (pkFV rfl (bnotF c16) rfl) rfl rfl rfl, trivial⟩) _ (by exact ⟨.ptr rfl, .free rfl rfl, cB rfl (mOrF (bnotF c16) (mAndT (decide_eq_true c17) rfl)), trivial⟩) (by rfl)
                · exact .drawM [(25, 68, .val (.bool false)), (24, 67, .val (.bool false)), (23, 66, .val undef), (22, 65, .val undef), (21, 64, .val undef), (20, 63, .val undef), (19, 62, .val undef), (18, 61, .val undef), (17, 60, .val undef), (16, 59, .val undef), (15, 58, .val undef), (14, 57, .val undef), (13, 56, .val undef), (12, 55, .val undef), (11, 54, .val (.bool (decide (x1 > 0)))), (10, 53, .val (.bool (decide (x1 > 0)))), (9, 52, .val (.int .i64 x1)), (8, 51, .val (.bool (!t18_6))), (7, 50, .val (.bool (!t18_6))), (6, 49, .val (.bool t18_6)), (5, 48, .val (.int .i64 (rdl a0.Final x1))), (4, 47, .cptr ((cInt .i64) (rdl a0.Final x1)) 0), (3, 46, .val (.int .i64 x1)), (2, 45, .rows (a0.Final.map (cInt .i64))), (1, 44, .ptr 0 1 7 0 5), (0, 43, .agg (TAuto.lit a0))] [] [[], [], [1], [], [2, 1, 3], [4, 2, 1, 3], [0, 5, 4, 2, 1, 3], [6, 0, 5, 4, 2, 1, 3], [7, 6, 0, 5, 4, 2, 1, 3], [8, 7, 6, 0, 5, 4, 2, 1, 3], [9, 8, 7, 6, 0, 5, 4, 2, 1, 3], [10, 9, 8, 7, 6, 0, 5, 4, 2, 1, 3], [11, 10, 9, 8, 7, 6, 0, 5, 4, 2, 1, 3], [12, 11, 10, 9, 8, 7, 6, 0, 5, 4, 2, 1, 3], [11, 10, 9, 8, 7, 6, 0, 5, 4, 2, 1, 3], [13, 12, 11, 10, 9, 8, 7, 6, 0, 5, 4, 2, 1, 3, 14], [15, 13, 12, 11, 10, 9, 8, 7, 6, 0, 5, 4, 2, 1, 3, 14], [11, 10, 9, 8, 7, 6, 0, 5, 4, 2, 1, 3], [17, 11, 10, 9, 8, 7, 6, 0, 5, 4, 2, 1, 3], [11, 10, 9, 8, 7, 6, 0, 5, 4, 2, 1, 3], [19, 11, 10, 9, 8, 7, 6, 0, 5, 4, 2, 1, 3], [18, 17, 11, 10, 9, 8, 7, 6, 0, 5, 4, 2, 1, 3, 20, 19], [21, 18, 17, 11, 10, 9, 8, 7, 6, 0, 5, 4, 2, 1, 3, 20, 19], [16, 15, 13, 12, 11, 10, 9, 8, 7, 6, 0, 5, 4, 2, 1, 3, 14, 22, 21, 18, 17, 20, 19], [11, 10, 9, 8, 7, 6, 0, 5, 4, 2, 1, 3, 23, 16, 15, 13, 12, 14, 22, 21, 18, 17, 20, 19], [8, 7, 6, 0, 5, 4, 2, 1, 3, 24, 11, 10, 9, 23, 16, 15, 13, 12, 14, 22, 21, 18, 17, 20, 19]] (by rfl) (by rfl) (by rfl) (by exact ⟨fun S hS hD hn => .one 0 hS hD hn rfl rfl (ldG rfl sz35 ag35 rfl) rfl rfl rfl, fun S hS hD hn => .one 0 hS hD hn rfl rfl (faP fa35_3 rfl) rfl rfl rfl, fun S hS hD hn => .one 0 hS hD hn rfl rfl (ldP rfl sz29 ag29 rfl) rfl rfl rfl, fun S hS hD hn => .one 0 hS hD hn rfl rfl (mvV rfl) rfl rfl rfl, fun S hS hD hn => .one 0 hS hD hn rfl rfl (ixR (l := a0.Final) (lit := (cInt .i64)) sl29 rfl rfl (fun _ => rfl) g18_4.1 g18_4.2) rfl rfl rfl, fun S hS hD hn => .one 0 hS hD hn rfl rfl (ldC rfl sz3 ag3 rfl) rfl rfl rfl, fun S hS hD hn => .oneI hS hD hn rfl rfl (callee_of rfl go39 rfl) (.pure rfl rfl (r10_State.D g18_6)) rfl rfl rfl, fun S hS hD hn => .one 0 hS hD hn rfl rfl (notB rfl) rfl rfl rfl, fun S hS hD hn => .one 0 hS hD hn rfl rfl (mvV rfl) rfl rfl rfl, fun S hS hD hn => .one 0 hS hD hn (gT rfl rfl rfl (bnotF c16)) rfl (mvV rfl) rfl rfl rfl, fun S hS hD hn => .one 0 hS hD hn (gT rfl rfl rfl (bnotF c16)) rfl (gtI rfl rfl) rfl rfl rfl, fun S hS hD hn => .one 0 hS hD hn (gT rfl rfl rfl (bnotF c16)) rfl (mvV rfl) rfl rfl rfl, fun S hS hD hn => .oneNo hS hD (gF rfl rfl rfl (decide_eq_false c17)) rfl hn rfl rfl rfl, fun S hS hD hn => .oneNo hS hD (gF rfl rfl rfl (decide_eq_false c17)) rfl hn rfl rfl rfl, fun S hS hD hn => .oneNo hS hD (gF rfl rfl rfl (decide_eq_false c17)) rfl hn rfl rfl rfl, fun S hS hD hn => .oneNo hS hD (gF rfl rfl rfl (decide_eq_false c17)) rfl hn rfl rfl rfl, fun S hS hD hn => .oneNo hS hD (gF rfl rfl rfl (decide_eq_false c17)) rfl hn rfl rfl rfl, fun S hS hD hn => .oneNo hS hD (gF rfl rfl rfl (decide_eq_false c17)) rfl hn rfl rfl rfl, fun S hS hD hn => .oneNo hS hD (gF rfl rfl rfl (decide_eq_false c17)) rfl hn rfl rfl rfl, fun S hS hD hn => .oneNo hS hD (gF rfl rfl rfl (decide_eq_false c17)) rfl hn rfl rfl rfl, fun S hS hD hn => .oneNo hS hD (gF rfl rfl rfl (decide_eq_false c17)) rfl hn rfl rfl rfl, fun S hS hD hn => .oneNo hS hD (gF rfl rfl rfl (decide_eq_false c17)) rfl hn rfl rfl rfl, fun S hS hD hn => .oneNo hS hD (gF rfl rfl rfl (decide_eq_false c17)) rfl hn rfl rfl rfl, fun S hS hD hn => .oneNo hS hD (gF rfl rfl rfl (decide_eq_false c17)) rfl hn rfl rfl rfl, fun S hS hD hn => .one 0 hS hD hn (gT rfl rfl rfl (bnotF c16)) rfl (pkFV rfl (decide_eq_false c17) rfl) rfl rfl rfl, fun S hS hD hn => .one 0 hS hD hn rfl rfl (pkFV rfl (bnotF c16) rfl) rfl rfl rfl, trivial⟩) _ (by exact ⟨.ptr rfl, .free rfl rfl, cB rfl (mOrF (bnotF c16) (mAndF (decide_eq_false c17))), trivial⟩) (by rfl)
              · exact .drawM [(25, 68, .val (.bool true)), (24, 67, .val undef), (23, 66, .val undef), (22, 65, .val undef), (21, 64, .val undef), (20, 63, .val undef), (19, 62, .val undef), (18, 61, .val undef), (17, 60, .val undef), (16, 59, .val undef), (15, 58, .val undef), (14, 57, .val undef), (13, 56, .val undef), (12, 55, .val undef), (11, 54, .val undef), (10, 53, .val undef), (9, 52, .val undef), (8, 51, .val (.bool (!t18_6))), (7, 50, .val (.bool (!t18_6))), (6, 49, .val (.bool t18_6)), (5, 48, .val (.int .i64 (rdl a0.Final x1))), (4, 47, .cptr ((cInt .i64) (rdl a0.Final x1)) 0), (3, 46, .val (.int .i64 x1)), (2, 45, .rows (a0.Final.map (cInt .i64))), (1, 44, .ptr 0 1 7 0 5), (0, 43, .agg (TAuto.lit a0))] [] [[], [], [1], [], [2, 1, 3], [4, 2, 1, 3], [0, 5, 4, 2, 1, 3], [6, 0, 5, 4, 2, 1, 3], [7, 6, 0, 5, 4, 2, 1, 3], [8, 7, 6, 0, 5, 4, 2, 1, 3], [9, 8, 7, 6, 0, 5, 4, 2, 1, 3], [10, 9, 8, 7, 6, 0, 5, 4, 2, 1, 3], [11, 10, 9, 8, 7, 6, 0, 5, 4, 2, 1, 3], [12, 11, 10, 9, 8, 7, 6, 0, 5, 4, 2, 1, 3], [11, 10, 9, 8, 7, 6, 0, 5, 4, 2, 1, 3], [13, 12, 11, 10, 9, 8, 7, 6, 0, 5, 4, 2, 1, 3, 14], [15, 13, 12, 11, 10, 9, 8, 7, 6, 0, 5, 4, 2, 1, 3, 14], [11, 10, 9, 8, 7, 6, 0, 5, 4, 2, 1, 3], [17, 11, 10, 9, 8, 7, 6, 0, 5, 4, 2, 1, 3], [11, 10, 9, 8, 7, 6, 0, 5, 4, 2, 1, 3], [19, 11, 10, 9, 8, 7, 6, 0, 5, 4, 2, 1, 3], [18, 17, 11, 10, 9, 8, 7, 6, 0, 5, 4, 2, 1, 3, 20, 19], [21, 18, 17, 11, 10, 9, 8, 7, 6, 0, 5, 4, 2, 1, 3, 20, 19], [16, 15, 13, 12, 11, 10, 9, 8, 7, 6, 0, 5, 4, 2, 1, 3, 14, 22, 21, 18, 17, 20, 19], [11, 10, 9, 8, 7, 6, 0, 5, 4, 2, 1, 3, 23, 16, 15, 13, 12, 14, 22, 21, 18, 17, 20, 19], [8, 7, 6, 0, 5, 4, 2, 1, 3, 24, 11, 10, 9, 23, 16, 15, 13, 12, 14, 22, 21, 18, 17, 20, 19]] (by rfl) (by rfl) (by rfl) (by exact ⟨fun S hS hD hn => .one 0 hS hD hn rfl rfl (ldG rfl sz35 ag35 rfl) rfl rfl rfl, fun S hS hD hn => .one 0 hS hD hn rfl rfl (faP fa35_3 rfl) rfl rfl rfl, fun S hS hD hn => .one 0 hS hD hn rfl rfl (ldP rfl sz29 ag29 rfl) rfl rfl rfl, fun S hS hD hn => .one 0 hS hD hn rfl rfl (mvV rfl) rfl rfl rfl, fun S hS hD hn => .one 0 hS hD hn rfl rfl (ixR (l := a0.Final) (lit := (cInt .i64)) sl29 rfl rfl (fun _ => rfl) g18_4.1 g18_4.2) rfl rfl rfl, fun S hS hD hn => .one 0 hS hD hn rfl rfl (ldC rfl sz3 ag3 rfl) rfl rfl rfl, fun S hS hD hn => .oneI hS hD hn rfl rfl (callee_of rfl go39 rfl) (.pure rfl rfl (r10_State.D g18_6)) rfl rfl rfl, fun S hS hD hn => .one 0 hS hD hn rfl rfl (notB rfl) rfl rfl rfl, fun S hS hD hn => .one 0 hS hD hn rfl rfl (mvV rfl) rfl rfl rfl, fun S hS hD hn => .oneNo hS hD (gF rfl rfl rfl (bnotT (Bool.eq_false_iff.mpr c16))) rfl hn rfl rfl rfl, fun S hS hD hn => .oneNo hS hD (gF rfl rfl rfl (bnotT (Bool.eq_false_iff.mpr c16))) rfl hn rfl rfl rfl, fun S hS hD hn => .oneNo hS hD (gF rfl rfl rfl (bnotT (Bool.eq_false_iff.mpr c16))) rfl hn rfl rfl rfl, fun S hS hD hn => .oneNo hS hD (gN rfl rfl rfl) rfl hn rfl rfl rfl, fun S hS hD hn => .oneNo hS hD (gN rfl rfl rfl) rfl hn rfl rfl rfl, fun S hS hD hn => .oneNo hS hD (gN rfl rfl rfl) rfl hn rfl rfl rfl, fun S hS hD hn => .oneNo hS hD (gN rfl rfl rfl) rfl hn rfl rfl rfl, fun S hS hD hn => .oneNo hS hD (gN rfl rfl rfl) rfl hn rfl rfl rfl, fun S hS hD hn => .oneNo hS hD (gN rfl rfl rfl) rfl hn rfl rfl rfl, fun S hS hD hn => .oneNo hS hD (gN rfl rfl rfl) rfl hn rfl rfl rfl, fun S hS hD hn => .oneNo hS hD (gN rfl rfl rfl) rfl hn rfl rfl rfl, fun S hS hD hn => .oneNo hS hD (gN rfl rfl rfl) rfl hn rfl rfl rfl, fun S hS hD hn => .oneNo hS hD (gN rfl rfl rfl) rfl hn rfl rfl rfl, fun S hS hD hn => .oneNo hS hD (gN rfl rfl rfl) rfl hn rfl rfl rfl, fun S hS hD hn => .oneNo hS hD (gN rfl rfl rfl) rfl hn rfl rfl rfl, fun S hS hD hn => .oneNo hS hD (gF rfl rfl rfl (bnotT (Bool.eq_false_iff.mpr c16))) rfl hn rfl rfl rfl, fun S hS hD hn => .one 0 hS hD hn rfl rfl (pkTV rfl (bnotT (Bool.eq_false_iff.mpr c16)) rfl) rfl rfl rfl, trivial⟩) _ (by exact ⟨.ptr rfl, .free rfl rfl, cB rfl (mOrT (bnotT (Bool.eq_false_iff.mpr c16))), trivial⟩) (by rfl)
            by_cases c18 : ((!t18_6) || ((decide (x1 > 0)) && (decide ((rdl a0.Final x1) ≤ (rdl a0.Final (IntKind.i64.wrap (x1 - 1))))))) = true
            · rw [if_pos c18] at h
              refine .condT rfl c18 ?_
              refine .seq ?_
              refine .reg0 rfl (.op 0 rfl (asV rfl) <| .nil0) ?_
              have q3 := hr1 _ h
              replace q3 := q3.symm
              subst q3
              refine .keepL [] [(2, .val (.int .i64 100))] [] (by decide) (by decide) ⟨.free rfl rfl, trivial⟩ trivial ?_
              exact .ret rfl
            · rw [if_neg c18] at h
              refine .condF rfl (Bool.eq_false_iff.mpr c18) ?_
              refine .skip ?_
              refine .inBlock ?_
              refine .reg0 rfl (.op 0 rfl (mvV rfl) <| .op 0 rfl (addI rfl rfl) <| .op 0 rfl (asV rfl) <| .nil0) ?_
              refine .keepL [0] [(1, .ptr 0 1 7 0 0), (4, .val (.int .i64 (IntKind.i64.wrap (x1 + 1))))] [⟨7, [(TAuto.lit a0)], 0, none⟩] (by decide) (by decide) ⟨.ptr rfl, .free rfl rfl, trivial⟩ ⟨⟨_, rfl, bcBox (all2_free rfl)⟩, trivial⟩ ?_
              exact hn1 _ h
          · rw [if_neg c15] at h
            refine .condF rfl (decide_eq_false c15) ?_
            refine .exit rfl ?_
            refine .keepL [0] [(1, .ptr 0 1 7 0 0)] [⟨7, [(TAuto.lit a0)], 0, none⟩] (by decide) (by decide) ⟨.ptr rfl, trivial⟩ ⟨⟨_, rfl, bcBox (all2_free rfl)⟩, trivial⟩ ?_
            exact hx1 _ h
  · rw [if_neg c1] at h
    refine .condT rfl (bne_iff_ne.mpr c1) ?_
    refine .seq ?_
    refine .reg0 rfl (.op 0 rfl (mvV rfl) <| .op 0 rfl (asV rfl) <| .nil0) ?_
    replace h := h.symm
    subst h
    refine .keepL [] [(2, .val (.int .i64 t2_2))] [] (by decide) (by decide) ⟨.free rfl rfl, trivial⟩ trivial ?_
    exact .ret rfl
def r10_asked.b1 (a0 : TAuto) (a1 : List Int) : Int → Rnd Int Unit Int → Prop := fun x1 z1 => if x1 < (a1.length : Int) then (((InR x1 a1.length)) ∧ ∃ t14_5 : Bool, (r10_State.f a0 (rdl a1 x1) t14_5) ∧ if t14_5 = true then (z1 = .next (IntKind.i64.wrap (x1 + 1))) else (z1 = .ret 101)) else (z1 = .exit ())
def r10_asked.b2 (a0 : TAuto) (a2 : List Int) : Int → Rnd Int Unit Int → Prop := fun x2 z2 => if x2 < (a2.length : Int) then (((InR x2 a2.length)) ∧ (¬ ((rdl a2 x2) < 0) → (InR x2 a2.length)) ∧ if ((decide ((rdl a2 x2) < 0)) || (decide ((rdl a2 x2) ≥ a0.Symbols))) = true then (z2 = .ret 102) else (z2 = .next (IntKind.i64.wrap (x2 + 1)))) else (z2 = .exit ())
def r10_asked.f (a0 : TAuto) (a1 : List Int) (a2 : List Int) (r : Int) : Prop :=
  ∃ t2_1 : Int, (r10_Check.f a0 t2_1) ∧ if t2_1 = 0 then (∃ o1 : Fin Unit Int, Loop (r10_asked.b1 a0 a1) 0 o1 ∧ o1.on (fun _ => ∃ o2 : Fin Unit Int, Loop (r10_asked.b2 a0 a2) 0 o2 ∧ o2.on (fun _ => r = 0) (fun r_ => r = r_)) (fun r_ => r = r_)) else (r = t2_1)
theorem r10_asked.D {a0 : TAuto} {a1 : List Int} {a2 : List Int} {r : Int} (h : r10_asked.f a0 a1 a2 r) : D Try.prog X (.callH 23 [.agg (TAuto.lit a0), .rows (a1.map (cInt .i64)), .rows (a2.map (cInt .i64))] [] (.val (.int .i64 r)) []) := by
  unfold r10_asked.f at h
  refine .enter 48 0 fn23 rfl rfl rfl ?_
  refine .seq ?_
  refine .room 0 ?_
  refine .reg0 rfl (.op 0 rfl (bxP (s := 7) (cs := (TAuto.lit a0)) rfl ⟨rfl, by decide, rfl⟩ rfl) <| .op 0 rfl (asV rfl) <| .nil0) ?_
  refine .seq ?_
  obtain ⟨t2_1, g2_1, h⟩ := h
  refine .reg0 rfl (.op 0 rfl (ldG rfl sz35 ag35 rfl) <| .callI rfl (callee_of rfl go27 rfl) (.pure rfl rfl (r10_Check.D g2_1)) <| .op 0 rfl (asV rfl) <| .nil0) ?_
  refine .seq ?_
  refine .seq ?_
  refine .reg0 rfl (.op 0 rfl (mvV rfl) <| .op 0 rfl (neI rfl rfl) <| .nil0) ?_
  by_cases c1 : t2_1 = 0
  · rw [if_pos c1] at h
    refine .condF rfl (bne_eq_false_iff_eq.mpr c1) ?_
    refine .skip ?_
    refine .seq ?_
    refine .seq ?_
    refine .reg0 rfl (.op 0 rfl (asV rfl) <| .nil0) ?_
    refine .block ?_
    refine .keepL [0] [(1, .rows (a1.map (cInt .i64))), (2, .rows (a2.map (cInt .i64))), (3, .ptr 0 1 7 0 0), (8, .val (.int .i64 0))] [⟨7, [(TAuto.lit a0)], 0, none⟩] (by decide) (by decide) ⟨.free rfl rfl, .free rfl rfl, .ptr rfl, .free rfl rfl, trivial⟩ ⟨⟨_, rfl, bcBox (all2_free rfl)⟩, trivial⟩ ?_
    obtain ⟨o1, hL1, h⟩ := h
    refine .loopB (r10_asked.b1 a0 a1) (fun x1 => listEnv [(1, .rows (a1.map (cInt .i64))), (2, .rows (a2.map (cInt .i64))), (3, .ptr 0 1 7 0 0), (8, .val (.int .i64 x1))]) (fun x1 => [⟨7, [(TAuto.lit a0)], 0, none⟩]) (fun _ => listEnv [(2, .rows (a2.map (cInt .i64))), (3, .ptr 0 1 7 0 0)]) (fun _ => [⟨7, [(TAuto.lit a0)], 0, none⟩]) hL1 (fun r_ => r = r_) ?_ ?_ ?_
    · rintro ⟨⟩ rfl
      try dsimp only [Fin.on] at h
      refine .seq ?_
      refine .seq ?_
      refine .reg0 rfl (.op 0 rfl (asV rfl) <| .nil0) ?_
      refine .block ?_
      refine .keepL [0] [(2, .rows (a2.map (cInt .i64))), (3, .ptr 0 1 7 0 0), (9, .val (.int .i64 0))] [⟨7, [(TAuto.lit a0)], 0, none⟩] (by decide) (by decide) ⟨.free rfl rfl, .ptr rfl, .free rfl rfl, trivial⟩ ⟨⟨_, rfl, bcBox (all2_free rfl)⟩, trivial⟩ ?_
      obtain ⟨o2, hL2, h⟩ := h
      refine .loopB (r10_asked.b2 a0 a2) (fun x2 => listEnv [(2, .rows (a2.map (cInt .i64))), (3, .ptr 0 1 7 0 0), (9, .val (.int .i64 x2))]) (fun x2 => [⟨7, [(TAuto.lit a0)], 0, none⟩]) (fun _ => listEnv []) (fun _ => []) hL2 (fun r_ => r = r_) ?_ ?_ ?_
      · rintro ⟨⟩ rfl
        try dsimp only [Fin.on] at h
        refine .seq ?_
        refine .reg0 rfl (.op 0 rfl (asV rfl) <| .nil0) ?_
        replace h := h.symm
        subst h
        refine .keepL [] [(6, .val (.int .i64 0))] [] (by decide) (by decide) ⟨.free rfl rfl, trivial⟩ trivial ?_
        exact .ret rfl
      · rintro r_ rfl
        exact h
      · rintro x2 z2 h hn2 hx2 hr2
        dsimp only [r10_asked.b2] at h
        refine .seq ?_
        refine .seq ?_
        refine .reg0 rfl (.op 0 rfl (mvV rfl) <| .op 0 rfl (mvR rfl) <| .op 0 rfl (lnR (l := a2) sl29 rfl) <| .op 0 rfl (ltI rfl rfl) <| .nil0) ?_
        by_cases c14 : x2 < (a2.length : Int)
        · rw [if_pos c14] at h
          refine .condT rfl (decide_eq_true c14) ?_
          refine .skip ?_
          refine .seq ?_
          refine .block ?_
          refine .seq ?_
          obtain ⟨g27_2, h⟩ := h
          obtain ⟨g27_8, h⟩ := h
          refine .reg1 (e1 := listEnv [(2, .rows (a2.map (cInt .i64))), (3, .ptr 0 1 7 0 0), (9, .val (.int .i64 x2)), (47, .val (.bool ((decide ((rdl a2 x2) < 0)) || (decide ((rdl a2 x2) ≥ a0.Symbols)))))]) (H1 := [⟨7, [(TAuto.lit a0)], 0, none⟩]) rfl ?_ ?_
          · by_cases c15 : (rdl a2 x2) < 0
            · exact .drawM [(13, 47, .val (.bool true)), (12, 46, .val undef), (11, 45, .val undef), (10, 44, .val undef), (9, 43, .val undef), (8, 42, .val undef), (7, 41, .val undef), (6, 40, .val undef), (5, 39, .val (.bool (decide ((rdl a2 x2) < 0)))), (4, 38, .val (.bool (decide ((rdl a2 x2) < 0)))), (3, 37, .val (.int .i64 (rdl a2 x2))), (2, 36, .cptr ((cInt .i64) (rdl a2 x2)) 0), (1, 35, .val (.int .i64 x2)), (0, 34, .rows (a2.map (cInt .i64)))] [] [[], [], [0, 1], [2, 0, 1], [3, 2, 0, 1], [4, 3, 2, 0, 1], [5, 4, 3, 2, 0, 1], [5, 4, 3, 2, 0, 1], [6, 5, 4, 3, 2, 0, 1, 7], [8, 6, 5, 4, 3, 2, 0, 1, 7], [5, 4, 3, 2, 0, 1], [10, 5, 4, 3, 2, 0, 1], [9, 8, 6, 5, 4, 3, 2, 0, 1, 7, 11, 10], [5, 4, 3, 2, 0, 1, 12, 9, 8, 6, 7, 11, 10]] (by rfl) (by rfl) (by rfl) (by exact ⟨fun S hS hD hn => .one 0 hS hD hn rfl rfl (mvR rfl) rfl rfl rfl, fun S hS hD hn => .one 0 hS hD hn rfl rfl (mvV rfl) rfl rfl rfl, fun S hS hD hn => .one 0 hS hD hn rfl rfl (ixR (l := a2) (lit := (cInt .i64)) sl29 rfl rfl (fun _ => rfl) g27_2.1 g27_2.2) rfl rfl rfl, fun S hS hD hn => .one 0 hS hD hn rfl rfl (ldC rfl sz3 ag3 rfl) rfl rfl rfl, fun S hS hD hn => .one 0 hS hD hn rfl rfl (ltI rfl rfl) rfl rfl rfl, fun S hS hD hn => .one 0 hS hD hn rfl rfl (mvV rfl) rfl rfl rfl, fun S hS hD hn => .oneNo hS hD (gF rfl rfl rfl (decide_eq_true c15)) rfl hn rfl rfl rfl, fun S hS hD hn => .oneNo hS hD (gF rfl rfl rfl (decide_eq_true c15)) rfl hn rfl rfl rfl, fun S hS hD hn => .oneNo hS hD (gF rfl rfl rfl (decide_eq_true c15)) rfl hn rfl rfl rfl, fun S hS hD hn => .oneNo hS hD (gF rfl rfl rfl (decide_eq_true c15)) rfl hn rfl rfl rfl, fun S hS hD hn => .oneNo hS hD (gF rfl rfl rfl (decide_eq_true c15)) rfl hn rfl rfl rfl, fun S hS hD hn => .oneNo hS hD (gF rfl rfl rfl (decide_eq_true c15)) rfl hn rfl rfl rfl, fun S hS hD hn => .oneNo hS hD (gF rfl rfl rfl (decide_eq_true c15)) rfl hn rfl rfl rfl, fun S hS hD hn => .one 0 hS hD hn rfl rfl (pkTV rfl (decide_eq_true c15) rfl) rfl rfl rfl, trivial⟩) _ (by exact ⟨.free rfl rfl, .ptr rfl, .free rfl rfl, cB rfl (mOrT (decide_eq_true c15)), trivial⟩) (by rfl)
            · exact .drawM [(13, 47, .val (.bool (decide ((rdl a2 x2) ≥ a0.Symbols)))), (12, 46, .val (.bool (decide ((rdl a2 x2) ≥ a0.Symbols)))), (11, 45, .val (.int .i64 a0.Symbols)), (10, 44, .ptr 0 1 7 0 4), (9, 43, .val (.int .i64 (rdl a2 x2))), (8, 42, .cptr ((cInt .i64) (rdl a2 x2)) 0), (7, 41, .val (.int .i64 x2)), (6, 40, .rows (a2.map (cInt .i64))), (5, 39, .val (.bool (decide ((rdl a2 x2) < 0)))), (4, 38, .val (.bool (decide ((rdl a2 x2) < 0)))), (3, 37, .val (.int .i64 (rdl a2 x2))), (2, 36, .cptr ((cInt .i64) (rdl a2 x2)) 0), (1, 35, .val (.int .i64 x2)), (0, 34, .rows (a2.map (cInt .i64)))] [] [[], [], [0, 1], [2, 0, 1], [3, 2, 0, 1], [4, 3, 2, 0, 1], [5, 4, 3, 2, 0, 1], [5, 4, 3, 2, 0, 1], [6, 5, 4, 3, 2, 0, 1, 7], [8, 6, 5, 4, 3, 2, 0, 1, 7], [5, 4, 3, 2, 0, 1], [10, 5, 4, 3, 2, 0, 1], [9, 8, 6, 5, 4, 3, 2, 0, 1, 7, 11, 10], [5, 4, 3, 2, 0, 1, 12, 9, 8, 6, 7, 11, 10]] (by rfl) (by rfl) (by rfl) (by exact ⟨fun S hS hD hn => .one 0 hS hD hn rfl rfl (mvR rfl) rfl rfl rfl, fun S hS hD hn => .one 0 hS hD hn rfl rfl (mvV rfl) rfl rfl rfl, fun S hS hD hn => .one 0 hS hD hn rfl rfl (ixR (l := a2) (lit := (cInt .i64)) sl29 rfl rfl (fun _ => rfl) g27_2.1 g27_2.2) rfl rfl rfl, fun S hS hD hn => .one 0 hS hD hn rfl rfl (ldC rfl sz3 ag3 rfl) rfl rfl rfl, fun S hS hD hn => .one 0 hS hD hn rfl rfl (ltI rfl rfl) rfl rfl rfl, fun S hS hD hn => .one 0 hS hD hn rfl rfl (mvV rfl) rfl rfl rfl, fun S hS hD hn => .one 0 hS hD hn (gT rfl rfl rfl (decide_eq_false c15)) rfl (mvR rfl) rfl rfl rfl, fun S hS hD hn => .one 0 hS hD hn (gT rfl rfl rfl (decide_eq_false c15)) rfl (mvV rfl) rfl rfl rfl, fun S hS hD hn => .one 0 hS hD hn (gT rfl rfl rfl (decide_eq_false c15)) rfl (ixR (l := a2) (lit := (cInt .i64)) sl29 rfl rfl (fun _ => rfl) (g27_8 c15).1 (g27_8 c15).2) rfl rfl rfl, fun S hS hD hn => .one 0 hS hD hn (gT rfl rfl rfl (decide_eq_false c15)) rfl (ldC rfl sz3 ag3 rfl) rfl rfl rfl, fun S hS hD hn => .one 0 hS hD hn (gT rfl rfl rfl (decide_eq_false c15)) rfl (faP fa35_2 rfl) rfl rfl rfl, fun S hS hD hn => .one 0 hS hD hn (gT rfl rfl rfl (decide_eq_false c15)) rfl (ldP rfl sz3 ag3 rfl) rfl rfl rfl, fun S hS hD hn => .one 0 hS hD hn (gT rfl rfl rfl (decide_eq_false c15)) rfl (geI rfl rfl) rfl rfl rfl, fun S hS hD hn => .one 0 hS hD hn rfl rfl (pkFV rfl (decide_eq_false c15) rfl) rfl rfl rfl, trivial⟩) _ (by exact ⟨.free rfl rfl, .ptr rfl, .free rfl rfl, cB rfl (mOrF (decide_eq_false c15) rfl), trivial⟩) (by rfl)
          by_cases c16 : ((decide ((rdl a2 x2) < 0)) || (decide ((rdl a2 x2) ≥ a0.Symbols))) = true
          · rw [if_pos c16] at h
            refine .condT rfl c16 ?_
            refine .seq ?_
            refine .reg0 rfl (.op 0 rfl (asV rfl) <| .nil0) ?_
            have q6 := hr2 _ h
            replace q6 := q6.symm
            subst q6
            refine .keepL [] [(6, .val (.int .i64 102))] [] (by decide) (by decide) ⟨.free rfl rfl, trivial⟩ trivial ?_
            exact .ret rfl
          · rw [if_neg c16] at h
            refine .condF rfl (Bool.eq_false_iff.mpr c16) ?_
            refine .skip ?_
            refine .inBlock ?_
            refine .reg0 rfl (.op 0 rfl (mvV rfl) <| .op 0 rfl (addI rfl rfl) <| .op 0 rfl (asV rfl) <| .nil0) ?_
            refine .keepL [0] [(2, .rows (a2.map (cInt .i64))), (3, .ptr 0 1 7 0 0), (9, .val (.int .i64 (IntKind.i64.wrap (x2 + 1))))] [⟨7, [(TAuto.lit a0)], 0, none⟩] (by decide) (by decide) ⟨.free rfl rfl, .ptr rfl, .free rfl rfl, trivial⟩ ⟨⟨_, rfl, bcBox (all2_free rfl)⟩, trivial⟩ ?_
            exact hn2 _ h
        · rw [if_neg c14] at h
          refine .condF rfl (decide_eq_false c14) ?_
          refine .exit rfl ?_
          refine .keepL [] [] [] (by decide) (by decide) trivial trivial ?_
          exact hx2 _ h
    · rintro r_ rfl
      exact h
    · rintro x1 z1 h hn1 hx1 hr1
      dsimp only [r10_asked.b1] at h
      refine .seq ?_
      refine .seq ?_
      refine .reg0 rfl (.op 0 rfl (mvV rfl) <| .op 0 rfl (mvR rfl) <| .op 0 rfl (lnR (l := a1) sl29 rfl) <| .op 0 rfl (ltI rfl rfl) <| .nil0) ?_
      by_cases c6 : x1 < (a1.length : Int)
      · rw [if_pos c6] at h
        refine .condT rfl (decide_eq_true c6) ?_
        refine .skip ?_
        refine .seq ?_
        refine .block ?_
        refine .seq ?_
        obtain ⟨g14_3, h⟩ := h
        obtain ⟨t14_5, g14_5, h⟩ := h
        refine .reg1 (e1 := listEnv [(1, .rows (a1.map (cInt .i64))), (2, .rows (a2.map (cInt .i64))), (3, .ptr 0 1 7 0 0), (8, .val (.int .i64 x1)), (27, .val (.bool (!t14_5)))]) (H1 := [⟨7, [(TAuto.lit a0)], 0, none⟩]) rfl ?_ ?_
        · exact .drawM [(6, 27, .val (.bool (!t14_5))), (5, 26, .val (.bool t14_5)), (4, 25, .val (.int .i64 (rdl a1 x1))), (3, 24, .cptr ((cInt .i64) (rdl a1 x1)) 0), (2, 23, .val (.int .i64 x1)), (1, 22, .rows (a1.map (cInt .i64))), (0, 21, .agg (TAuto.lit a0))] [] [[], [], [], [1, 2], [3, 1, 2], [0, 4, 3, 1, 2], [5, 0, 4, 3, 1, 2]] (by rfl) (by rfl) (by rfl) (by exact ⟨fun S hS hD hn => .one 0 hS hD hn rfl rfl (ldG rfl sz35 ag35 rfl) rfl rfl rfl, fun S hS hD hn => .one 0 hS hD hn rfl rfl (mvR rfl) rfl rfl rfl, fun S hS hD hn => .one 0 hS hD hn rfl rfl (mvV rfl) rfl rfl rfl, fun S hS hD hn => .one 0 hS hD hn rfl rfl (ixR (l := a1) (lit := (cInt .i64)) sl29 rfl rfl (fun _ => rfl) g14_3.1 g14_3.2) rfl rfl rfl, fun S hS hD hn => .one 0 hS hD hn rfl rfl (ldC rfl sz3 ag3 rfl) rfl rfl rfl, fun S hS hD hn => .oneI hS hD hn rfl rfl (callee_of rfl go39 rfl) (.pure rfl rfl (r10_State.D g14_5)) rfl rfl rfl, fun S hS hD hn => .one 0 hS hD hn rfl rfl (notB rfl) rfl rfl rfl, trivial⟩) _ (by exact ⟨.free rfl rfl, .free rfl rfl, .ptr rfl, .free rfl rfl, .free rfl rfl, trivial⟩) (by rfl)
        by_cases c7 : t14_5 = true
        · rw [if_pos c7] at h
          refine .condF rfl (bnotF c7) ?_
          refine .skip ?_
          refine .inBlock ?_
          refine .reg0 rfl (.op 0 rfl (mvV rfl) <| .op 0 rfl (addI rfl rfl) <| .op 0 rfl (asV rfl) <| .nil0) ?_
          refine .keepL [0] [(1, .rows (a1.map (cInt .i64))), (2, .rows (a2.map (cInt .i64))), (3, .ptr 0 1 7 0 0), (8, .val (.int .i64 (IntKind.i64.wrap (x1 + 1))))] [⟨7, [(TAuto.lit a0)], 0, none⟩] (by decide) (by decide) ⟨.free rfl rfl, .free rfl rfl, .ptr rfl, .free rfl rfl, trivial⟩ ⟨⟨_, rfl, bcBox (all2_free rfl)⟩, trivial⟩ ?_
          exact hn1 _ h
        · rw [if_neg c7] at h
          refine .condT rfl (bnotT (Bool.eq_false_iff.mpr c7)) ?_
          refine .seq ?_
          refine .reg0 rfl (.op 0 rfl (asV rfl) <| .nil0) ?_
          have q3 := hr1 _ h
          replace q3 := q3.symm
          subst q3
          refine .keepL [] [(6, .val (.int .i64 101))] [] (by decide) (by decide) ⟨.free rfl rfl, trivial⟩ trivial ?_
          exact .ret rfl
      · rw [if_neg c6] at h
        refine .condF rfl (decide_eq_false c6) ?_
        refine .exit rfl ?_
        refine .keepL [0] [(2, .rows (a2.map (cInt .i64))), (3, .ptr 0 1 7 0 0)] [⟨7, [(TAuto.lit a0)], 0, none⟩] (by decide) (by decide) ⟨.free rfl rfl, .ptr rfl, trivial⟩ ⟨⟨_, rfl, bcBox (all2_free rfl)⟩, trivial⟩ ?_
        exact hx1 _ h
  · rw [if_neg c1] at h
    refine .condT rfl (bne_iff_ne.mpr c1) ?_
    refine .seq ?_
    refine .reg0 rfl (.op 0 rfl (mvV rfl) <| .op 0 rfl (asV rfl) <| .nil0) ?_
    replace h := h.symm
    subst h
    refine .keepL [] [(6, .val (.int .i64 t2_1))] [] (by decide) (by decide) ⟨.free rfl rfl, trivial⟩ trivial ?_
    exact .ret rfl
def r10_final.b1 (a0 : TAuto) (a1 : Int) : Int → Rnd Int Unit Bool → Prop := fun x1 z1 => if x1 < (a0.Final.length : Int) then (((InR x1 a0.Final.length)) ∧ if (rdl a0.Final x1) = a1 then (z1 = .ret true) else (z1 = .next (IntKind.i64.wrap (x1 + 1)))) else (z1 = .exit ())
def r10_final.f (a0 : TAuto) (a1 : Int) (r : Bool) : Prop :=
  ∃ o1 : Fin Unit Bool, Loop (r10_final.b1 a0 a1) 0 o1 ∧ o1.on (fun _ => r = false) (fun r_ => r = r_)
theorem r10_final.D {a0 : TAuto} {a1 : Int} {r : Bool} (h : r10_final.f a0 a1 r) : D Try.prog X (.callH 42 [.agg (TAuto.lit a0), .val (.int .i64 a1)] [] (.val (.bool r)) []) := by
  unfold r10_final.f at h
  refine .enter 20 0 fn42 rfl rfl rfl ?_
  refine .seq ?_
  refine .room 0 ?_
  refine .reg0 rfl (.op 0 rfl (bxP (s := 7) (cs := (TAuto.lit a0)) rfl ⟨rfl, by decide, rfl⟩ rfl) <| .op 0 rfl (asV rfl) <| .nil0) ?_
  refine .seq ?_
  refine .seq ?_
  refine .reg0 rfl (.op 0 rfl (asV rfl) <| .nil0) ?_
  refine .block ?_
  refine .keepL [0] [(1, .val (.int .i64 a1)), (2, .ptr 0 1 7 0 0), (5, .val (.int .i64 0))] [⟨7, [(TAuto.lit a0)], 0, none⟩] (by decide) (by decide) ⟨.free rfl rfl, .ptr rfl, .free rfl rfl, trivial⟩ ⟨⟨_, rfl, bcBox (all2_free rfl)⟩, trivial⟩ ?_
  obtain ⟨o1, hL1, h⟩ := h
  refine .loopB (r10_final.b1 a0 a1) (fun x1 => listEnv [(1, .val (.int .i64 a1)), (2, .ptr 0 1 7 0 0), (5, .val (.int .i64 x1))]) (fun x1 => [⟨7, [(TAuto.lit a0)], 0, none⟩]) (fun _ => listEnv []) (fun _ => []) hL1 (fun r_ => r = r_) ?_ ?_ ?_
  · rintro ⟨⟩ rfl
    try dsimp only [Fin.on] at h
    refine .seq ?_
    refine .reg0 rfl (.op 0 rfl (asV rfl) <| .nil0) ?_
    replace h := h.symm
    subst h
    refine .keepL [] [(4, .val (.bool false))] [] (by decide) (by decide) ⟨.free rfl rfl, trivial⟩ trivial ?_
    exact .ret rfl
  · rintro r_ rfl
    exact h
  · rintro x1 z1 h hn1 hx1 hr1
    dsimp only [r10_final.b1] at h
    refine .seq ?_
    refine .seq ?_
    refine .reg0 rfl (.op 0 rfl (mvV rfl) <| .op 0 rfl (faP fa35_3 rfl) <| .op 0 rfl (ldP rfl sz29 ag29 rfl) <| .op 0 rfl (lnR (l := a0.Final) sl29 rfl) <| .op 0 rfl (ltI rfl rfl) <| .nil0) ?_
    by_cases c5 : x1 < (a0.Final.length : Int)
    · rw [if_pos c5] at h
      refine .condT rfl (decide_eq_true c5) ?_
      refine .skip ?_
      refine .seq ?_
      refine .block ?_
      refine .seq ?_
      obtain ⟨g12_3, h⟩ := h
      refine .reg0 rfl (.op 0 rfl (faP fa35_3 rfl) <| .op 0 rfl (ldP rfl sz29 ag29 rfl) <| .op 0 rfl (mvV rfl) <| .op 0 rfl (ixR (l := a0.Final) (lit := (cInt .i64)) sl29 rfl rfl (fun _ => rfl) g12_3.1 g12_3.2) <| .op 0 rfl (ldC rfl sz3 ag3 rfl) <| .op 0 rfl (mvV rfl) <| .op 0 rfl (eqI rfl rfl) <| .nil0) ?_
      by_cases c6 : (rdl a0.Final x1) = a1
      · rw [if_pos c6] at h
        refine .condT rfl (beq_iff_eq.mpr c6) ?_
        refine .seq ?_
        refine .reg0 rfl (.op 0 rfl (asV rfl) <| .nil0) ?_
        have q3 := hr1 _ h
        replace q3 := q3.symm
        subst q3
        refine .keepL [] [(4, .val (.bool true))] [] (by decide) (by decide) ⟨.free rfl rfl, trivial⟩ trivial ?_
        exact .ret rfl
      · rw [if_neg c6] at h
        refine .condF rfl (beq_eq_false_iff_ne.mpr c6) ?_
        refine .skip ?_
        refine .inBlock ?_
        refine .reg0 rfl (.op 0 rfl (mvV rfl) <| .op 0 rfl (addI rfl rfl) <| .op 0 rfl (asV rfl) <| .nil0) ?_
        refine .keepL [0] [(1, .val (.int .i64 a1)), (2, .ptr 0 1 7 0 0), (5, .val (.int .i64 (IntKind.i64.wrap (x1 + 1))))] [⟨7, [(TAuto.lit a0)], 0, none⟩] (by decide) (by decide) ⟨.free rfl rfl, .ptr rfl, .free rfl rfl, trivial⟩ ⟨⟨_, rfl, bcBox (all2_free rfl)⟩, trivial⟩ ?_
        exact hn1 _ h
    · rw [if_neg c5] at h
      refine .condF rfl (decide_eq_false c5) ?_
      refine .exit rfl ?_
      refine .keepL [] [] [] (by decide) (by decide) trivial trivial ?_
      exact hx1 _ h
def r05_zero.step (self44 : TSpace → TWeight → Prop) (a0 : TSpace) (r : TWeight) : Prop :=
  if a0.Tag = 5 then (((InR 0 a0.Parts.length)) ∧ ∃ t3_4 : TWeight, (self44 (rdl a0.Parts 0) t3_4) ∧ ((InR 1 a0.Parts.length)) ∧ ∃ t3_9 : TWeight, (self44 (rdl a0.Parts 1) t3_9) ∧ r = (TWeight.mk false 0 (TFacts.mk 0 []) [] [t3_4, t3_9])) else (r = (TWeight.mk true 0 (TFacts.mk 0 []) [] []))
theorem r05_zero.stepD {self44 : TSpace → TWeight → Prop} {a0 : TSpace} (hs44 : ∀ z0_ r_, self44 z0_ r_ → D Try.prog X (.callH 44 [.agg (TSpace.lit z0_)] [] (.agg (TWeight.lit r_)) [])) {r : TWeight} (h : r05_zero.step self44 a0 r) : D Try.prog X (.callH 44 [.agg (TSpace.lit a0)] [] (.agg (TWeight.lit r)) []) := by
  unfold r05_zero.step at h
  refine .enter 19 0 fn44 rfl rfl rfl ?_
  refine .seq ?_
  refine .room 0 ?_
  refine .room 0 ?_
  refine .reg0 rfl (.op 0 rfl (bxP (s := 3) (cs := (TSpace.lit a0)) rfl ⟨rfl, by decide, rfl⟩ rfl) <| .op 1 rfl (alP (s := 6) ze48 ⟨rfl, by decide, rfl⟩ rfl) <| .nil0) ?_
  refine .seq ?_
  refine .seq ?_
  refine .reg0 rfl (.op 0 rfl (faP fa25_0 rfl) <| .op 0 rfl (ldP rfl sz22 ag22 rfl) <| .op 0 rfl (eqI rfl rfl) <| .nil0) ?_
  by_cases c1 : a0.Tag = 5
  · rw [if_pos c1] at h
    refine .condT rfl (beq_iff_eq.mpr c1) ?_
    refine .seq ?_
    obtain ⟨g3_2, h⟩ := h
    obtain ⟨t3_4, g3_4, h⟩ := h
    obtain ⟨g3_7, h⟩ := h
    obtain ⟨t3_9, g3_9, h⟩ := h
    refine .room 0 ?_
    refine .reg1 (e1 := listEnv [(2, .ptr 1 1 6 0 0)]) (H1 := [⟨3, [(TSpace.lit a0)], 0, none⟩, ⟨6, [[.val (.bool false), .val (.int .i64 0), .val (.int .u64 0), .val (.slice none 0 0), .val (.slice none 0 0), .own 2 ([t3_4, t3_9].length)]], 0, none⟩, ⟨6, [t3_4, t3_9].map TWeight.cells, 0, none⟩]) rfl ?_ ?_
    · exact .drawM [(11, 17, .agg [.val (.bool false), .val (.int .i64 0), .val (.int .u64 0), .val (.slice none 0 0), .val (.slice none 0 0), .own 2 ([t3_4, t3_9].length)]), (10, 16, .own 2 ([t3_4, t3_9].length)), (9, 15, .agg (TWeight.lit t3_9)), (8, 14, .agg (TSpace.lit (rdl a0.Parts 1))), (7, 13, .cptr (TSpace.lit (rdl a0.Parts 1)) 0), (6, 12, .rows (a0.Parts.map TSpace.cells)), (5, 11, .ptr 0 1 3 0 2), (4, 10, .agg (TWeight.lit t3_4)), (3, 9, .agg (TSpace.lit (rdl a0.Parts 0))), (2, 8, .cptr (TSpace.lit (rdl a0.Parts 0)) 0), (1, 7, .rows (a0.Parts.map TSpace.cells)), (0, 6, .ptr 0 1 3 0 2)] [(12, 1, ⟨6, [[.val (.bool false), .val (.int .i64 0), .val (.int .u64 0), .val (.slice none 0 0), .val (.slice none 0 0), .own 2 ([t3_4, t3_9].length)]], 0, none⟩), (10, 2, ⟨6, [t3_4, t3_9].map TWeight.cells, 0, none⟩)] [[], [0], [1, 0], [2, 1, 0], [3, 2, 1, 0], [], [5], [6, 5], [7, 6, 5], [8, 7, 6, 5, 4, 3, 2, 1, 0], [4, 3, 2, 1, 0, 9, 8, 7, 6, 5], [10, 4, 3, 2, 1, 0, 9, 8, 7, 6, 5], [11, 10, 4, 3, 2, 1, 0, 9, 8, 7, 6, 5]] (by rfl) (by rfl) (by rfl) (by exact ⟨fun S hS hD hn => .one 0 hS hD hn rfl rfl (faP fa25_2 rfl) rfl rfl rfl, fun S hS hD hn => .one 0 hS hD hn rfl rfl (ldP rfl sz23 ag23 rfl) rfl rfl rfl, fun S hS hD hn => .one 0 hS hD hn rfl rfl (ixR (l := a0.Parts) (lit := TSpace.lit) sl23 rfl rfl TSpace.cells_lit g3_2.1 g3_2.2) rfl rfl rfl, fun S hS hD hn => .one 0 hS hD hn rfl rfl (ldCG rfl sz25 ag25 rfl) rfl rfl rfl, fun S hS hD hn => .oneI hS hD hn rfl rfl (callee_of rfl go44 rfl) (.pure rfl rfl (hs44 _ _ g3_4)) rfl rfl rfl, fun S hS hD hn => .one 0 hS hD hn rfl rfl (faP fa25_2 rfl) rfl rfl rfl, fun S hS hD hn => .one 0 hS hD hn rfl rfl (ldP rfl sz23 ag23 rfl) rfl rfl rfl, fun S hS hD hn => .one 0 hS hD hn rfl rfl (ixR (l := a0.Parts) (lit := TSpace.lit) sl23 rfl rfl TSpace.cells_lit g3_7.1 g3_7.2) rfl rfl rfl, fun S hS hD hn => .one 0 hS hD hn rfl rfl (ldCG rfl sz25 ag25 rfl) rfl rfl rfl, fun S hS hD hn => .oneI hS hD hn rfl rfl (callee_of rfl go44 rfl) (.pure rfl rfl (hs44 _ _ g3_9)) rfl rfl rfl, fun S hS hD hn => .one 2 hS hD hn rfl rfl (bldT (s := 6) (cs := [.val (.bool t3_4.Zero), .val (.int .i64 t3_4.Cost), .val (.int .u64 t3_4.Facts.Gen), .rows (t3_4.Facts.Rows.map (cInt .u64)), .rows (t3_4.Cells.map TCell.cells), .rows (t3_4.Parts.map TWeight.cells), .val (.bool t3_9.Zero), .val (.int .i64 t3_9.Cost), .val (.int .u64 t3_9.Facts.Gen), .rows (t3_9.Facts.Rows.map (cInt .u64)), .rows (t3_9.Cells.map TCell.cells), .rows (t3_9.Parts.map TWeight.cells)]) (cf := TWeight.cells) [t3_4, t3_9] un46 sz48 ze48 ⟨by decide, rfl, by decide⟩ rfl rfl rfl (by simp only [List.map, TWeight.cells_lit]; rfl) rfl) rfl rfl rfl, fun S hS hD hn => .one 0 hS hD hn rfl rfl (bldS (cs := [.val (.bool false), .val (.int .i64 0), .val (.int .u64 0), .val (.slice none 0 0), .val (.slice none 0 0), .own 2 ([t3_4, t3_9].length)]) ze48 pl48 rfl rfl) rfl rfl rfl, fun S hS hD hn => .one0 0 rfl rfl (stB (cs0 := [.val (.bool false), .val (.int .i64 0), .val (.int .u64 0), .val (.slice none 0 0), .val (.slice none 0 0), .val (.slice none 0 0)]) (cs := [.val (.bool false), .val (.int .i64 0), .val (.int .u64 0), .val (.slice none 0 0), .val (.slice none 0 0), .own 2 ([t3_4, t3_9].length)]) (cs1 := [.val (.bool false), .val (.int .i64 0), .val (.int .u64 0), .val (.slice none 0 0), .val (.slice none 0 0), .own 2 ([t3_4, t3_9].length)]) rfl rfl sz48 rfl ⟨Nat.le_of_ble_eq_true rfl, rfl⟩ rfl) (drawE_other _ _ _ _ rfl) rfl, trivial⟩) _ (by exact ⟨.ptr rfl, trivial⟩) (by rfl)
    replace h := h.symm
    subst h
    refine .keepL [] [(2, .cptr [.val (.bool false), .val (.int .i64 0), .val (.int .u64 0), .rows (([] : List Int).map (cInt .u64)), .rows (([] : List TCell).map TCell.cells), .rows ([t3_4, t3_9].map TWeight.cells)] 0)] [] (by decide) (by decide) ⟨cFixP rfl rfl (.cons (.free rfl rfl) <| .cons (.free rfl rfl) <| .cons (.free rfl rfl) <| .cons (.nil) <| .cons (.nil) <| .cons (cFixO (l := [t3_4, t3_9]) sl46 rfl rfl rfl rfl) <| .nil), trivial⟩ trivial ?_
    exact .ret rfl
  · rw [if_neg c1] at h
    refine .condF rfl (beq_eq_false_iff_ne.mpr c1) ?_
    refine .skip ?_
    refine .seq ?_
    refine .reg0 rfl (.op 0 rfl (bldS (cs := [.val (.bool true), .val (.int .i64 0), .val (.int .u64 0), .val (.slice none 0 0), .val (.slice none 0 0), .val (.slice none 0 0)]) ze48 pl48 rfl rfl) <| .op 0 rfl (stB (cs0 := [.val (.bool false), .val (.int .i64 0), .val (.int .u64 0), .val (.slice none 0 0), .val (.slice none 0 0), .val (.slice none 0 0)]) (cs := [.val (.bool true), .val (.int .i64 0), .val (.int .u64 0), .val (.slice none 0 0), .val (.slice none 0 0), .val (.slice none 0 0)]) (cs1 := [.val (.bool true), .val (.int .i64 0), .val (.int .u64 0), .val (.slice none 0 0), .val (.slice none 0 0), .val (.slice none 0 0)]) rfl rfl sz48 rfl ⟨Nat.le_of_ble_eq_true rfl, rfl⟩ rfl) <| .nil0) ?_
    replace h := h.symm
    subst h
    refine .keepL [] [(2, .cptr [.val (.bool true), .val (.int .i64 0), .val (.int .u64 0), .rows (([] : List Int).map (cInt .u64)), .rows (([] : List TCell).map TCell.cells), .rows (([] : List TWeight).map TWeight.cells)] 0)] [] (by decide) (by decide) ⟨cFixP rfl rfl (.cons (.free rfl rfl) <| .cons (.free rfl rfl) <| .cons (.free rfl rfl) <| .cons (.nil) <| .cons (.nil) <| .cons (.nil) <| .nil), trivial⟩ trivial ?_
    exact .ret rfl
def r05_zero.fN : Nat → TSpace → TWeight → Prop
  | 0 => fun _ _ => False
  | n + 1 => r05_zero.step (r05_zero.fN n)
theorem r05_zero.ND : ∀ (n : Nat) {a0 : TSpace} {r : TWeight} (h : r05_zero.fN n a0 r), D Try.prog X (.callH 44 [.agg (TSpace.lit a0)] [] (.agg (TWeight.lit r)) [])
  | 0, _, _, h => h.elim
  | n + 1, _, _, h => r05_zero.stepD (fun _ _ h => r05_zero.ND n h) h
def r05_zero.f (a0 : TSpace) (r : TWeight) : Prop := ∃ n, r05_zero.fN n a0 r
theorem r05_zero.D {a0 : TSpace} {r : TWeight} (h : r05_zero.f a0 r) : D Try.prog X (.callH 44 [.agg (TSpace.lit a0)] [] (.agg (TWeight.lit r)) []) := by obtain ⟨n, h⟩ := h; exact r05_zero.ND n h
def r05_Zero.f (a0 : TSpace) (r : TWeight × Int) : Prop :=
  ∃ t2_1 : Int, (r05_Space.f a0 t2_1) ∧ if t2_1 = 0 then (∃ t3_1 : TWeight, (r05_zero.f a0 t3_1) ∧ r = (t3_1, 0)) else (r = ((TWeight.mk false 0 (TFacts.mk 0 []) [] []), 50))
theorem r05_Zero.D {a0 : TSpace} {r : TWeight × Int} (h : r05_Zero.f a0 r) : D Try.prog X (.callH 30 [.agg (TSpace.lit a0)] [] (.tuple [.agg (TWeight.lit r.1), .val (.int .i64 r.2)]) []) := by
  unfold r05_Zero.f at h
  refine .enter 10 0 fn30 rfl rfl rfl ?_
  refine .seq ?_
  refine .room 0 ?_
  refine .room 0 ?_
  refine .reg0 rfl (.op 0 rfl (bxP (s := 3) (cs := (TSpace.lit a0)) rfl ⟨rfl, by decide, rfl⟩ rfl) <| .op 1 rfl (alP (s := 6) ze48 ⟨rfl, by decide, rfl⟩ rfl) <| .op 0 rfl (asV rfl) <| .nil0) ?_
  refine .seq ?_
  refine .seq ?_
  obtain ⟨t2_1, g2_1, h⟩ := h
  refine .reg0 rfl (.op 0 rfl (ldG rfl sz25 ag25 rfl) <| .callI rfl (callee_of rfl go36 rfl) (.pure rfl rfl (r05_Space.D g2_1)) <| .op 0 rfl (neI rfl rfl) <| .nil0) ?_
  by_cases c1 : t2_1 = 0
  · rw [if_pos c1] at h
    refine .condF rfl (bne_eq_false_iff_eq.mpr c1) ?_
    refine .skip ?_
    refine .seq ?_
    obtain ⟨t3_1, g3_1, h⟩ := h
    refine .reg0 rfl (.op 0 rfl (ldG rfl sz25 ag25 rfl) <| .callI rfl (callee_of rfl go44 rfl) (.pure rfl rfl (r05_zero.D g3_1)) <| .op 0 rfl (stB (cs0 := [.val (.bool false), .val (.int .i64 0), .val (.int .u64 0), .val (.slice none 0 0), .val (.slice none 0 0), .val (.slice none 0 0)]) (cs := (TWeight.lit t3_1)) (cs1 := (TWeight.lit t3_1)) rfl rfl sz48 rfl ⟨Nat.le_of_ble_eq_true rfl, rfl⟩ rfl) <| .op 0 rfl (asV rfl) <| .nil0) ?_
    replace h := h.symm
    subst h
    refine .keepL [] [(2, .cptr (TWeight.lit t3_1) 0), (3, .val (.int .i64 0))] [] (by decide) (by decide) ⟨cFixP rfl rfl (.cons (.free rfl rfl) <| .cons (.free rfl rfl) <| .cons (.free rfl rfl) <| .cons (.free rfl rfl) <| .cons (.free rfl rfl) <| .cons (.free rfl rfl) <| .nil), .free rfl rfl, trivial⟩ trivial ?_
    exact .ret rfl
  · rw [if_neg c1] at h
    refine .condT rfl (bne_iff_ne.mpr c1) ?_
    refine .seq ?_
    refine .reg0 rfl (.op 0 rfl (bldS (cs := [.val (.bool false), .val (.int .i64 0), .val (.int .u64 0), .val (.slice none 0 0), .val (.slice none 0 0), .val (.slice none 0 0)]) ze48 pl48 rfl rfl) <| .op 0 rfl (stB (cs0 := [.val (.bool false), .val (.int .i64 0), .val (.int .u64 0), .val (.slice none 0 0), .val (.slice none 0 0), .val (.slice none 0 0)]) (cs := [.val (.bool false), .val (.int .i64 0), .val (.int .u64 0), .val (.slice none 0 0), .val (.slice none 0 0), .val (.slice none 0 0)]) (cs1 := [.val (.bool false), .val (.int .i64 0), .val (.int .u64 0), .val (.slice none 0 0), .val (.slice none 0 0), .val (.slice none 0 0)]) rfl rfl sz48 rfl ⟨Nat.le_of_ble_eq_true rfl, rfl⟩ rfl) <| .op 0 rfl (asV rfl) <| .nil0) ?_
    replace h := h.symm
    subst h
    refine .keepL [] [(2, .cptr [.val (.bool false), .val (.int .i64 0), .val (.int .u64 0), .rows (([] : List Int).map (cInt .u64)), .rows (([] : List TCell).map TCell.cells), .rows (([] : List TWeight).map TWeight.cells)] 0), (3, .val (.int .i64 50))] [] (by decide) (by decide) ⟨cFixP rfl rfl (.cons (.free rfl rfl) <| .cons (.free rfl rfl) <| .cons (.free rfl rfl) <| .cons (.nil) <| .cons (.nil) <| .cons (.nil) <| .nil), .free rfl rfl, trivial⟩ trivial ?_
    exact .ret rfl
def r10_Zero.f (a0 : TSpace) (r : TWeight) : Prop :=
  ∃ t2_1 : TWeight × Int, (r05_Zero.f a0 t2_1) ∧ r = t2_1.1
theorem r10_Zero.D {a0 : TSpace} {r : TWeight} (h : r10_Zero.f a0 r) : D Try.prog X (.callH 15 [.agg (TSpace.lit a0)] [] (.agg (TWeight.lit r)) []) := by
  unfold r10_Zero.f at h
  refine .enter 11 0 fn15 rfl rfl rfl ?_
  refine .seq ?_
  refine .room 0 ?_
  refine .room 0 ?_
  refine .reg0 rfl (.op 0 rfl (bxP (s := 3) (cs := (TSpace.lit a0)) rfl ⟨rfl, by decide, rfl⟩ rfl) <| .op 1 rfl (alP (s := 6) ze48 ⟨rfl, by decide, rfl⟩ rfl) <| .nil0) ?_
  refine .seq ?_
  obtain ⟨t2_1, g2_1, h⟩ := h
  refine .room 0 ?_
  refine .reg0 rfl (.op 0 rfl (ldG rfl sz25 ag25 rfl) <| .callI rfl (callee_of rfl go30 rfl) (.pure rfl rfl (r05_Zero.D g2_1)) <| .op 0 rfl (mvT rfl) <| .op 0 rfl (exT rfl rfl) <| .op 0 rfl (exT rfl rfl) <| .op 2 rfl (alP (s := 6) ze48 ⟨rfl, by decide, rfl⟩ rfl) <| .op 0 rfl (stB (cs0 := [.val (.bool false), .val (.int .i64 0), .val (.int .u64 0), .val (.slice none 0 0), .val (.slice none 0 0), .val (.slice none 0 0)]) (cs := (TWeight.lit t2_1.1)) (cs1 := (TWeight.lit t2_1.1)) rfl rfl sz48 rfl ⟨Nat.le_of_ble_eq_true rfl, rfl⟩ rfl) <| .op 0 rfl (asV rfl) <| .nil0) ?_
  refine .seq ?_
  refine .reg0 rfl (.op 0 rfl (ldG rfl sz48 ag48 rfl) <| .op 0 rfl (stB (cs0 := [.val (.bool false), .val (.int .i64 0), .val (.int .u64 0), .val (.slice none 0 0), .val (.slice none 0 0), .val (.slice none 0 0)]) (cs := (TWeight.lit t2_1.1)) (cs1 := (TWeight.lit t2_1.1)) rfl rfl sz48 rfl ⟨Nat.le_of_ble_eq_true rfl, rfl⟩ rfl) <| .nil0) ?_
  replace h := h.symm
  subst h
  refine .keepL [] [(2, .cptr (TWeight.lit t2_1.1) 0)] [] (by decide) (by decide) ⟨cFixP rfl rfl (.cons (.free rfl rfl) <| .cons (.free rfl rfl) <| .cons (.free rfl rfl) <| .cons (.free rfl rfl) <| .cons (.free rfl rfl) <| .cons (.free rfl rfl) <| .nil), trivial⟩ trivial ?_
  exact .ret rfl
def r03_two.f (a0 : Int) (a1 : TFacts) (a2 : TFacts) (r : Int) : Prop :=
  ∃ t2_2 : Int, (r03_Check.f a0 a1 t2_2) ∧ if t2_2 = 0 then (∃ t4_2 : Int, (r03_Check.f a0 a2 t4_2) ∧ r = t4_2) else (r = t2_2)
theorem r03_two.D {a0 : Int} {a1 : TFacts} {a2 : TFacts} {r : Int} (h : r03_two.f a0 a1 a2 r) : D Try.prog X (.callH 72 [.val (.int .i64 a0), .agg (TFacts.lit a1), .agg (TFacts.lit a2)] [] (.val (.int .i64 r)) []) := by
  unfold r03_two.f at h
  refine .enter 17 0 fn72 rfl rfl rfl ?_
  refine .seq ?_
  refine .room 0 ?_
  refine .room 0 ?_
  refine .reg0 rfl (.op 0 rfl (bxP (s := 2) (cs := (TFacts.lit a1)) rfl ⟨rfl, by decide, rfl⟩ rfl) <| .op 1 rfl (bxP (s := 2) (cs := (TFacts.lit a2)) rfl ⟨rfl, by decide, rfl⟩ rfl) <| .op 0 rfl (asV rfl) <| .nil0) ?_
  refine .seq ?_
  obtain ⟨t2_2, g2_2, h⟩ := h
  refine .reg0 rfl (.op 0 rfl (mvV rfl) <| .op 0 rfl (ldG rfl sz44 ag44 rfl) <| .callI rfl (callee_of rfl go70 rfl) (.pure rfl rfl (r03_Check.D g2_2)) <| .op 0 rfl (asV rfl) <| .nil0) ?_
  refine .seq ?_
  refine .seq ?_
  refine .reg0 rfl (.op 0 rfl (mvV rfl) <| .op 0 rfl (neI rfl rfl) <| .nil0) ?_
  by_cases c1 : t2_2 = 0
  · rw [if_pos c1] at h
    refine .condF rfl (bne_eq_false_iff_eq.mpr c1) ?_
    refine .skip ?_
    refine .seq ?_
    obtain ⟨t4_2, g4_2, h⟩ := h
    refine .reg0 rfl (.op 0 rfl (mvV rfl) <| .op 0 rfl (ldG rfl sz44 ag44 rfl) <| .callI rfl (callee_of rfl go70 rfl) (.pure rfl rfl (r03_Check.D g4_2)) <| .op 0 rfl (asV rfl) <| .nil0) ?_
    replace h := h.symm
    subst h
    refine .keepL [] [(6, .val (.int .i64 t4_2))] [] (by decide) (by decide) ⟨.free rfl rfl, trivial⟩ trivial ?_
    exact .ret rfl
  · rw [if_neg c1] at h
    refine .condT rfl (bne_iff_ne.mpr c1) ?_
    refine .seq ?_
    refine .reg0 rfl (.op 0 rfl (mvV rfl) <| .op 0 rfl (asV rfl) <| .nil0) ?_
    replace h := h.symm
    subst h
    refine .keepL [] [(6, .val (.int .i64 t2_2))] [] (by decide) (by decide) ⟨.free rfl rfl, trivial⟩ trivial ?_
    exact .ret rfl
def r01_Has.f (a0 : Int) (a1 : Int) (r : Bool) : Prop :=
  ∃ t2_9 : Int, ((a1 ≥ 0) → (a1 < 64) → r01_Worth.f a1 t2_9) ∧ ((a1 ≥ 0) → (a1 < 64) → ((t2_9 : Int) ≠ 0)) ∧ r = ((decide (a1 ≥ 0)) && ((decide (a1 < 64)) && ((Int.tmod (IntKind.u64.wrap (Int.tdiv a0 t2_9)) 2) == 1)))
theorem r01_Has.D {a0 : Int} {a1 : Int} {r : Bool} (h : r01_Has.f a0 a1 r) : D Try.prog X (.callH 89 [.val (.int .u64 a0), .val (.int .i64 a1)] [] (.val (.bool r)) []) := by
  unfold r01_Has.f at h
  refine .enter 19 0 fn89 rfl rfl rfl ?_
  refine .seq ?_
  refine .reg0 rfl (.op 0 rfl (asV rfl) <| .nil0) ?_
  refine .seq ?_
  obtain ⟨t2_9, g2_9, h⟩ := h
  obtain ⟨g2_10, h⟩ := h
  refine .reg0 (e1 := listEnv [(4, .val (.bool ((decide (a1 ≥ 0)) && ((decide (a1 < 64)) && ((Int.tmod (IntKind.u64.wrap (Int.tdiv a0 t2_9)) 2) == 1)))))]) (H1 := []) rfl ?_ ?_
  · by_cases c1 : a1 ≥ 0
    · by_cases c2 : a1 < 64
      · exact (.op 0 rfl (mvV rfl) <| .op 0 rfl (geI rfl rfl) <| .op 0 rfl (mvV rfl) <| .op 0 (gT rfl rfl rfl (decide_eq_true c1)) (mvV rfl) <| .op 0 (gT rfl rfl rfl (decide_eq_true c1)) (ltI rfl rfl) <| .op 0 rfl (pkTV rfl (decide_eq_true c1) rfl) <| .op 0 rfl (mvV rfl) <| .op 0 (gT rfl rfl rfl (decide_eq_true c2)) (mvV rfl) <| .op 0 (gT rfl rfl rfl (decide_eq_true c2)) (mvV rfl) <| .callI (gT rfl rfl rfl (decide_eq_true c2)) (callee_of rfl go59 rfl) (.pure rfl rfl (r01_Worth.D (g2_9 c1 c2))) <| .op 0 (gT rfl rfl rfl (decide_eq_true c2)) (quoI rfl rfl (g2_10 c1 c2)) <| .op 0 (gT rfl rfl rfl (decide_eq_true c2)) (remI rfl rfl (by decide)) <| .op 0 (gT rfl rfl rfl (decide_eq_true c2)) (eqI rfl rfl) <| .op 0 rfl (pkTV rfl (decide_eq_true c2) rfl) <| .op 0 rfl (asV rfl) <| .nilL _ ⟨cB rfl (mAndT (decide_eq_true c1) (mAndT (decide_eq_true c2) rfl)), trivial⟩)
      · exact (.op 0 rfl (mvV rfl) <| .op 0 rfl (geI rfl rfl) <| .op 0 rfl (mvV rfl) <| .op 0 (gT rfl rfl rfl (decide_eq_true c1)) (mvV rfl) <| .op 0 (gT rfl rfl rfl (decide_eq_true c1)) (ltI rfl rfl) <| .op 0 rfl (pkTV rfl (decide_eq_true c1) rfl) <| .op 0 rfl (mvV rfl) <| .no (gF rfl rfl rfl (decide_eq_false c2)) <| .no (gF rfl rfl rfl (decide_eq_false c2)) <| .no (gF rfl rfl rfl (decide_eq_false c2)) <| .no (gF rfl rfl rfl (decide_eq_false c2)) <| .no (gF rfl rfl rfl (decide_eq_false c2)) <| .no (gF rfl rfl rfl (decide_eq_false c2)) <| .op 0 rfl (pkFV rfl (decide_eq_false c2) rfl) <| .op 0 rfl (asV rfl) <| .nilL _ ⟨cB rfl (mAndT (decide_eq_true c1) (mAndF (decide_eq_false c2))), trivial⟩)
    · exact (.op 0 rfl (mvV rfl) <| .op 0 rfl (geI rfl rfl) <| .op 0 rfl (mvV rfl) <| .no (gF rfl rfl rfl (decide_eq_false c1)) <| .no (gF rfl rfl rfl (decide_eq_false c1)) <| .op 0 rfl (pkFV rfl (decide_eq_false c1) rfl) <| .op 0 rfl (mvV rfl) <| .no (gF rfl rfl rfl rfl) <| .no (gF rfl rfl rfl rfl) <| .no (gF rfl rfl rfl rfl) <| .no (gF rfl rfl rfl rfl) <| .no (gF rfl rfl rfl rfl) <| .no (gF rfl rfl rfl rfl) <| .op 0 rfl (pkFV rfl rfl rfl) <| .op 0 rfl (asV rfl) <| .nilL _ ⟨cB rfl (mAndF (decide_eq_false c1)), trivial⟩)
  replace h := h.symm
  subst h
  refine .keepL [] [(4, .val (.bool ((decide (a1 ≥ 0)) && ((decide (a1 < 64)) && ((Int.tmod (IntKind.u64.wrap (Int.tdiv a0 t2_9)) 2) == 1)))))] [] (by decide) (by decide) ⟨.free rfl rfl, trivial⟩ trivial ?_
  exact .ret rfl
def r03_or.f (a0 : Int) (a1 : Int) (r : Int) : Prop :=
  r = (bitOp .or .u64 a0 a1)
theorem r03_or.D {a0 : Int} {a1 : Int} {r : Int} (h : r03_or.f a0 a1 r) : D Try.prog X (.callH 73 [.val (.int .u64 a0), .val (.int .u64 a1)] [] (.val (.int .u64 r)) []) := by
  unfold r03_or.f at h
  refine .enter 8 0 fn73 rfl rfl rfl ?_
  refine .seq ?_
  refine .reg0 rfl (.op 0 rfl (asV rfl) <| .nil0) ?_
  refine .seq ?_
  refine .reg0 rfl (.op 0 rfl (mvV rfl) <| .op 0 rfl (mvV rfl) <| .op 0 rfl (orI rfl rfl) <| .op 0 rfl (asV rfl) <| .nil0) ?_
  replace h := h.symm
  subst h
  refine .keepL [] [(4, .val (.int .u64 (bitOp .or .u64 a0 a1)))] [] (by decide) (by decide) ⟨.free rfl rfl, trivial⟩ trivial ?_
  exact .ret rfl
def r03_made.j1 (x4 : Int) : Int → (Rnd ((Int × Int)) Int Int) → Prop := fun x9 z1 => z1 = .next (x9, (IntKind.i64.wrap (x4 + 1)))
def r03_made.b1 (a0 : TFacts) (a1 : Int) : (Int × Int) → Rnd ((Int × Int)) Int Int → Prop := fun (x3, x4) z1 => if x4 < (a0.Rows.length : Int) then (∃ t24_2 : Bool, (r01_Has.f a1 x4 t24_2) ∧ if t24_2 = true then (((InR x4 a0.Rows.length)) ∧ ∃ t27_6 : Int, (r03_or.f x3 (rdl a0.Rows x4) t27_6) ∧ r03_made.j1 x4 t27_6 z1) else (r03_made.j1 x4 x3 z1)) else (z1 = .exit x3)
def r03_made.f (a0 : TFacts) (a1 : Int) (r : Int) : Prop :=
  ∃ o1 : Fin Int Int, Loop (r03_made.b1 a0 a1) (a0.Gen, 0) o1 ∧ o1.on (fun x7 => r = x7) (fun r_ => r = r_)
theorem r03_made.D {a0 : TFacts} {a1 : Int} {r : Int} (h : r03_made.f a0 a1 r) : D Try.prog X (.callH 88 [.agg (TFacts.lit a0), .val (.int .u64 a1)] [] (.val (.int .u64 r)) []) := by
  unfold r03_made.f at h
  refine .enter 27 0 fn88 rfl rfl rfl ?_
  refine .seq ?_
  refine .room 0 ?_
  refine .reg0 rfl (.op 0 rfl (bxP (s := 2) (cs := (TFacts.lit a0)) rfl ⟨rfl, by decide, rfl⟩ rfl) <| .op 0 rfl (asV rfl) <| .nil0) ?_
  refine .seq ?_
  refine .reg0 rfl (.op 0 rfl (faP fa44_0 rfl) <| .op 0 rfl (ldP rfl sz41 ag41 rfl) <| .op 0 rfl (asV rfl) <| .nil0) ?_
  refine .seq ?_
  refine .seq ?_
  refine .reg0 rfl (.op 0 rfl (asV rfl) <| .nil0) ?_
  refine .block ?_
  refine .keepL [0] [(1, .val (.int .u64 a1)), (2, .ptr 0 1 2 0 0), (5, .val (.int .u64 a0.Gen)), (6, .val (.int .i64 0))] [⟨2, [(TFacts.lit a0)], 0, none⟩] (by decide) (by decide) ⟨.free rfl rfl, .ptr rfl, .free rfl rfl, .free rfl rfl, trivial⟩ ⟨⟨_, rfl, bcBox (all2_free rfl)⟩, trivial⟩ ?_
  obtain ⟨o1, hL1, h⟩ := h
  refine .loopB (r03_made.b1 a0 a1) (fun (x3, x4) => listEnv [(1, .val (.int .u64 a1)), (2, .ptr 0 1 2 0 0), (5, .val (.int .u64 x3)), (6, .val (.int .i64 x4))]) (fun (x3, x4) => [⟨2, [(TFacts.lit a0)], 0, none⟩]) (fun x7 => listEnv [(5, .val (.int .u64 x7))]) (fun x7 => []) hL1 (fun r_ => r = r_) ?_ ?_ ?_
  · rintro x7 rfl
    try dsimp only [Fin.on] at h
    refine .seq ?_
    refine .reg0 rfl (.op 0 rfl (mvV rfl) <| .op 0 rfl (asV rfl) <| .nil0) ?_
    replace h := h.symm
    subst h
    refine .keepL [] [(4, .val (.int .u64 x7))] [] (by decide) (by decide) ⟨.free rfl rfl, trivial⟩ trivial ?_
    exact .ret rfl
  · rintro r_ rfl
    exact h
  · rintro ⟨x3, x4⟩ z1 h hn1 hx1 hr1
    dsimp only [r03_made.b1] at h
    refine .seq ?_
    refine .seq ?_
    refine .reg0 rfl (.op 0 rfl (mvV rfl) <| .op 0 rfl (faP fa44_1 rfl) <| .op 0 rfl (ldP rfl sz42 ag42 rfl) <| .op 0 rfl (lnR (l := a0.Rows) sl42 rfl) <| .op 0 rfl (ltI rfl rfl) <| .nil0) ?_
    by_cases c11 : x4 < (a0.Rows.length : Int)
    · rw [if_pos c11] at h
      refine .condT rfl (decide_eq_true c11) ?_
      refine .skip ?_
      refine .seq ?_
      refine .block ?_
      refine .seq ?_
      obtain ⟨t24_2, g24_2, h⟩ := h
      refine .reg0 rfl (.op 0 rfl (mvV rfl) <| .op 0 rfl (mvV rfl) <| .callI rfl (callee_of rfl go89 rfl) (.pure rfl rfl (r01_Has.D g24_2)) <| .nil0) ?_
      refine .consJ (fun s_ => r03_made.j1 x4 s_ z1) (fun x9 => listEnv [(1, .val (.int .u64 a1)), (2, .ptr 0 1 2 0 0), (5, .val (.int .u64 x9)), (6, .val (.int .i64 x4))]) (fun x9 => [⟨2, [(TFacts.lit a0)], 0, none⟩]) ?_ fun hJ1 => ?_
      · rintro x9 h
        unfold r03_made.j1 at h
        try dsimp only at h
        refine .inBlock ?_
        refine .reg0 rfl (.op 0 rfl (mvV rfl) <| .op 0 rfl (addI rfl rfl) <| .op 0 rfl (asV rfl) <| .nil0) ?_
        refine .keepL [0] [(1, .val (.int .u64 a1)), (2, .ptr 0 1 2 0 0), (5, .val (.int .u64 x9)), (6, .val (.int .i64 (IntKind.i64.wrap (x4 + 1))))] [⟨2, [(TFacts.lit a0)], 0, none⟩] (by decide) (by decide) ⟨.free rfl rfl, .ptr rfl, .free rfl rfl, .free rfl rfl, trivial⟩ ⟨⟨_, rfl, bcBox (all2_free rfl)⟩, trivial⟩ ?_
        exact hn1 _ h
      · by_cases c15 : t24_2 = true
        · rw [if_pos c15] at h
          refine .condT rfl c15 ?_
          obtain ⟨g27_4, h⟩ := h
          obtain ⟨t27_6, g27_6, h⟩ := h
          refine .reg0 rfl (.op 0 rfl (mvV rfl) <| .op 0 rfl (faP fa44_1 rfl) <| .op 0 rfl (ldP rfl sz42 ag42 rfl) <| .op 0 rfl (mvV rfl) <| .op 0 rfl (ixR (l := a0.Rows) (lit := (cInt .u64)) sl42 rfl rfl (fun _ => rfl) g27_4.1 g27_4.2) <| .op 0 rfl (ldC rfl sz41 ag41 rfl) <| .callI rfl (callee_of rfl go73 rfl) (.pure rfl rfl (r03_or.D g27_6)) <| .op 0 rfl (asV rfl) <| .nil0) ?_
          refine .keepL [0] [(1, .val (.int .u64 a1)), (2, .ptr 0 1 2 0 0), (5, .val (.int .u64 t27_6)), (6, .val (.int .i64 x4))] [⟨2, [(TFacts.lit a0)], 0, none⟩] (by decide) (by decide) ⟨.free rfl rfl, .ptr rfl, .free rfl rfl, .free rfl rfl, trivial⟩ ⟨⟨_, rfl, bcBox (all2_free rfl)⟩, trivial⟩ ?_
          exact hJ1 _ h
        · rw [if_neg c15] at h
          refine .condF rfl (Bool.eq_false_iff.mpr c15) ?_
          refine .skip ?_
          refine .keepL [0] [(1, .val (.int .u64 a1)), (2, .ptr 0 1 2 0 0), (5, .val (.int .u64 x3)), (6, .val (.int .i64 x4))] [⟨2, [(TFacts.lit a0)], 0, none⟩] (by decide) (by decide) ⟨.free rfl rfl, .ptr rfl, .free rfl rfl, .free rfl rfl, trivial⟩ ⟨⟨_, rfl, bcBox (all2_free rfl)⟩, trivial⟩ ?_
          exact hJ1 _ h
    · rw [if_neg c11] at h
      refine .condF rfl (decide_eq_false c11) ?_
      refine .exit rfl ?_
      refine .keepL [] [(5, .val (.int .u64 x3))] [] (by decide) (by decide) ⟨.free rfl rfl, trivial⟩ trivial ?_
      exact hx1 _ h
def r03_Extend.b1 (a0 : Int) (a1 : TFacts) (a2 : TFacts) : ((List Int) × Int) → Rnd (((List Int) × Int)) ((List Int)) (TFacts × Int) → Prop := fun (x2, x3) z1 => if x3 < a0 then (((InR x3 a1.Rows.length)) ∧ ∃ t13_8 : Int, (r03_made.f a2 (rdl a1.Rows x3) t13_8) ∧ ((Fits (x2.length + 1) 8)) ∧ z1 = .next ((x2 ++ [t13_8]), (IntKind.i64.wrap (x3 + 1)))) else (z1 = .exit x2)
def r03_Extend.f (a0 : Int) (a1 : TFacts) (a2 : TFacts) (r : TFacts × Int) : Prop :=
  ∃ t2_3 : Int, (r03_two.f a0 a1 a2 t2_3) ∧ if t2_3 = 0 then (∃ t4_3 : Int, (r03_made.f a2 a1.Gen t4_3) ∧ ∃ o1 : Fin ((List Int)) (TFacts × Int), Loop (r03_Extend.b1 a0 a1 a2) ([], 0) o1 ∧ o1.on (fun x4 => ∃ t15_1 : TFacts, (r03_canon.f (TFacts.mk t4_3 x4) t15_1) ∧ r = (t15_1, 0)) (fun r_ => r = r_)) else (r = ((TFacts.mk 0 []), t2_3))
theorem r03_Extend.D {a0 : Int} {a1 : TFacts} {a2 : TFacts} {r : TFacts × Int} (h : r03_Extend.f a0 a1 a2 r) : D Try.prog X (.callH 75 [.val (.int .i64 a0), .agg (TFacts.lit a1), .agg (TFacts.lit a2)] [] (.tuple [.agg (TFacts.lit r.1), .val (.int .i64 r.2)]) []) := by
  unfold r03_Extend.f at h
  refine .enter 43 0 fn75 rfl rfl rfl ?_
  refine .seq ?_
  refine .room 0 ?_
  refine .room 0 ?_
  refine .room 0 ?_
  refine .reg0 rfl (.op 0 rfl (bxP (s := 2) (cs := (TFacts.lit a1)) rfl ⟨rfl, by decide, rfl⟩ rfl) <| .op 1 rfl (bxP (s := 2) (cs := (TFacts.lit a2)) rfl ⟨rfl, by decide, rfl⟩ rfl) <| .op 2 rfl (alP (s := 2) ze44 ⟨rfl, by decide, rfl⟩ rfl) <| .op 0 rfl (asV rfl) <| .nil0) ?_
  refine .seq ?_
  obtain ⟨t2_3, g2_3, h⟩ := h
  refine .reg0 rfl (.op 0 rfl (mvV rfl) <| .op 0 rfl (ldG rfl sz44 ag44 rfl) <| .op 0 rfl (ldG rfl sz44 ag44 rfl) <| .callI rfl (callee_of rfl go72 rfl) (.pure rfl rfl (r03_two.D g2_3)) <| .op 0 rfl (asV rfl) <| .nil0) ?_
  refine .seq ?_
  refine .seq ?_
  refine .reg0 rfl (.op 0 rfl (mvV rfl) <| .op 0 rfl (neI rfl rfl) <| .nil0) ?_
  by_cases c1 : t2_3 = 0
  · rw [if_pos c1] at h
    refine .condF rfl (bne_eq_false_iff_eq.mpr c1) ?_
    refine .skip ?_
    refine .seq ?_
    obtain ⟨t4_3, g4_3, h⟩ := h
    refine .room 0 ?_
    refine .reg0 rfl (.op 0 rfl (ldG rfl sz44 ag44 rfl) <| .op 0 rfl (faP fa44_0 rfl) <| .op 0 rfl (ldP rfl sz41 ag41 rfl) <| .callI rfl (callee_of rfl go88 rfl) (.pure rfl rfl (r03_made.D g4_3)) <| .op 0 rfl (bldS (cs := [.val (.int .u64 t4_3), .val (.slice none 0 0)]) ze44 pl44 rfl rfl) <| .op 3 rfl (alP (s := 2) ze44 ⟨rfl, by decide, rfl⟩ rfl) <| .op 0 rfl (stB (cs0 := [.val (.int .u64 0), .val (.slice none 0 0)]) (cs := [.val (.int .u64 t4_3), .val (.slice none 0 0)]) (cs1 := [.val (.int .u64 t4_3), .val (.slice none 0 0)]) rfl rfl sz44 rfl ⟨Nat.le_of_ble_eq_true rfl, rfl⟩ rfl) <| .nil0) ?_
    refine .seq ?_
    refine .seq ?_
    refine .reg0 rfl (.op 0 rfl (asV rfl) <| .nil0) ?_
    refine .block ?_
    refine .room 1 ?_
    refine .keepL [0, 1, 2, 3, 4] [(0, .val (.int .i64 a0)), (4, .ptr 0 1 2 0 0), (5, .ptr 1 1 2 0 0), (6, .ptr 2 1 2 0 0), (9, .ptr 3 1 2 0 0), (10, .val (.int .i64 0))] [⟨2, [(TFacts.lit a1)], 0, none⟩, ⟨2, [(TFacts.lit a2)], 0, none⟩, ⟨2, [[.val (.int .u64 0), .val (.slice none 0 0)]], 0, none⟩, ⟨2, [[.val (.int .u64 t4_3), .own 4 0]], 0, none⟩, ⟨1, [].map (cInt .u64), 0, none⟩] (by decide) (by decide) ⟨.free rfl rfl, .ptr rfl, .ptr rfl, .ptr rfl, .ptr rfl, .free rfl rfl, trivial⟩ ⟨⟨_, rfl, bcBox (all2_free rfl)⟩, ⟨_, rfl, bcBox (all2_free rfl)⟩, ⟨_, rfl, bcBox (all2_free rfl)⟩, ⟨_, rfl, bcBox (.cons (.free rfl rfl) <| .cons (.nilOwn) <| .nil)⟩, ⟨_, rfl, (bcRow (l := []) sl42 (Nat.le_refl _) rfl)⟩, trivial⟩ ?_
    obtain ⟨o1, hL1, h⟩ := h
    refine .loopB (r03_Extend.b1 a0 a1 a2) (fun (x2, x3) => listEnv [(0, .val (.int .i64 a0)), (4, .ptr 0 1 2 0 0), (5, .ptr 1 1 2 0 0), (6, .ptr 2 1 2 0 0), (9, .ptr 3 1 2 0 0), (10, .val (.int .i64 x3))]) (fun (x2, x3) => [⟨2, [(TFacts.lit a1)], 0, none⟩, ⟨2, [(TFacts.lit a2)], 0, none⟩, ⟨2, [[.val (.int .u64 0), .val (.slice none 0 0)]], 0, none⟩, ⟨2, [[.val (.int .u64 t4_3), .own 4 x2.length]], 0, none⟩, ⟨1, x2.map (cInt .u64), 0, none⟩]) (fun x4 => listEnv [(6, .ptr 0 1 2 0 0), (9, .ptr 1 1 2 0 0)]) (fun x4 => [⟨2, [[.val (.int .u64 0), .val (.slice none 0 0)]], 0, none⟩, ⟨2, [[.val (.int .u64 t4_3), .own 2 x4.length]], 0, none⟩, ⟨1, x4.map (cInt .u64), 0, none⟩]) hL1 (fun r_ => r = r_) ?_ ?_ ?_
    · rintro x4 rfl
      try dsimp only [Fin.on] at h
      refine .seq ?_
      obtain ⟨t15_1, g15_1, h⟩ := h
      refine .reg0 rfl (.op 0 rfl (ldG rfl sz44 ag44 rfl) <| .callI rfl (callee_of rfl go74 rfl) (.lendC (args' := [.agg [.val (.int .u64 t4_3), .rows (x4.map (cInt .u64))]])  [2] true (.cons (cAgg (.cons (.free rfl rfl) <| .cons (cFixO (l := x4) sl42 rfl rfl rfl rfl) <| .nil)) <| .nil) (by decide) rfl rfl rfl rfl (r03_canon.D g15_1)) <| .op 0 rfl (stB (cs0 := [.val (.int .u64 0), .val (.slice none 0 0)]) (cs := (TFacts.lit t15_1)) (cs1 := (TFacts.lit t15_1)) rfl rfl sz44 rfl ⟨Nat.le_of_ble_eq_true rfl, rfl⟩ rfl) <| .op 0 rfl (asV rfl) <| .nil0) ?_
      replace h := h.symm
      subst h
      refine .keepL [] [(6, .cptr (TFacts.lit t15_1) 0), (7, .val (.int .i64 0))] [] (by decide) (by decide) ⟨cFixP rfl rfl (.cons (.free rfl rfl) <| .cons (.free rfl rfl) <| .nil), .free rfl rfl, trivial⟩ trivial ?_
      exact .ret rfl
    · rintro r_ rfl
      exact h
    · rintro ⟨x2, x3⟩ z1 h hn1 hx1 hr1
      dsimp only [r03_Extend.b1] at h
      refine .seq ?_
      refine .seq ?_
      refine .reg0 rfl (.op 0 rfl (mvV rfl) <| .op 0 rfl (mvV rfl) <| .op 0 rfl (ltI rfl rfl) <| .nil0) ?_
      by_cases c4 : x3 < a0
      · rw [if_pos c4] at h
        refine .condT rfl (decide_eq_true c4) ?_
        refine .skip ?_
        refine .seq ?_
        refine .block ?_
        obtain ⟨g13_6, h⟩ := h
        obtain ⟨t13_8, g13_8, h⟩ := h
        obtain ⟨g13_10, h⟩ := h
        refine .room 0 ?_
        refine .room 0 ?_
        refine .reg1 (e1 := listEnv [(0, .val (.int .i64 a0)), (4, .ptr 0 1 2 0 0), (5, .ptr 1 1 2 0 0), (6, .ptr 2 1 2 0 0), (9, .ptr 3 1 2 0 0), (10, .val (.int .i64 x3))]) (H1 := [⟨2, [(TFacts.lit a1)], 0, none⟩, ⟨2, [(TFacts.lit a2)], 0, none⟩, ⟨2, [[.val (.int .u64 0), .val (.slice none 0 0)]], 0, none⟩, ⟨2, [[.val (.int .u64 t4_3), .own 4 ((x2 ++ [t13_8]).length)]], 0, none⟩, ⟨1, (x2 ++ [t13_8]).map (cInt .u64), 0, none⟩, ⟨1, [t13_8].map (cInt .u64), 0, none⟩, Blk.hole]) rfl ?_ ?_
        · exact .drawM [(11, 40, .ptr 3 1 2 0 1), (10, 39, .own 4 ((x2 ++ [t13_8]).length)), (9, 38, .own 5 ([t13_8].length)), (8, 37, .val (.int .u64 t13_8)), (7, 36, .val (.int .u64 (rdl a1.Rows x3))), (6, 35, .cptr ((cInt .u64) (rdl a1.Rows x3)) 0), (5, 34, .val (.int .i64 x3)), (4, 33, .rows (a1.Rows.map (cInt .u64))), (3, 32, .ptr 0 1 2 0 1), (2, 31, .agg (TFacts.lit a2)), (1, 30, .own 4 x2.length), (0, 29, .ptr 3 1 2 0 1)] [(12, 3, ⟨2, [[.val (.int .u64 t4_3), .own 4 ((x2 ++ [t13_8]).length)]], 0, none⟩), (10, 4, ⟨1, (x2 ++ [t13_8]).map (cInt .u64), 0, none⟩), (9, 5, ⟨1, [t13_8].map (cInt .u64), 0, none⟩)] [[], [0], [], [], [3], [], [4, 3, 5], [6, 4, 3, 5], [2, 7, 6, 4, 3, 5], [8, 2, 7, 6, 4, 3, 5], [1, 0, 9, 8, 2, 7, 6, 4, 3, 5], [0, 1, 2, 3, 4, 5, 6, 7, 8, 9, 10], [11, 0, 1, 2, 3, 4, 5, 6, 7, 8, 9, 10]] (by rfl) (by rfl) (by rfl) (by exact ⟨fun S hS hD hn => .one 0 hS hD hn rfl rfl (faP fa44_1 rfl) rfl rfl rfl, fun S hS hD hn => .one 0 hS hD hn rfl rfl (ldP rfl sz42 ag42 rfl) rfl rfl rfl, fun S hS hD hn => .one 0 hS hD hn rfl rfl (ldG rfl sz44 ag44 rfl) rfl rfl rfl, fun S hS hD hn => .one 0 hS hD hn rfl rfl (faP fa44_1 rfl) rfl rfl rfl, fun S hS hD hn => .one 0 hS hD hn rfl rfl (ldP rfl sz42 ag42 rfl) rfl rfl rfl, fun S hS hD hn => .one 0 hS hD hn rfl rfl (mvV rfl) rfl rfl rfl, fun S hS hD hn => .one 0 hS hD hn rfl rfl (ixR (l := a1.Rows) (lit := (cInt .u64)) sl42 rfl rfl (fun _ => rfl) g13_6.1 g13_6.2) rfl rfl rfl, fun S hS hD hn => .one 0 hS hD hn rfl rfl (ldC rfl sz41 ag41 rfl) rfl rfl rfl, fun S hS hD hn => .oneI hS hD hn rfl rfl (callee_of rfl go88 rfl) (.pure rfl rfl (r03_made.D g13_8)) rfl rfl rfl, fun S hS hD hn => .one 5 hS hD hn rfl rfl (bldL (s := 1) (cs := [.val (.int .u64 t13_8)]) un42 sz41 ze41 ⟨by decide, rfl, by decide⟩ rfl rfl rfl rfl) rfl rfl rfl, fun S hS hD hn => .one 0 hS hD hn rfl rfl (ap1 (l := x2) t13_8 sl42 rfl rfl rfl (Nat.zero_le _) (elems_own (l := [t13_8]) rfl rfl) g13_10) rfl rfl rfl, fun S hS hD hn => .one 0 hS hD hn rfl rfl (faP fa44_1 rfl) rfl rfl rfl, fun S hS hD hn => .one0 0 rfl rfl (stB (cs0 := [.val (.int .u64 t4_3), .own 4 x2.length]) (cs := [.own 4 ((x2 ++ [t13_8]).length)]) (cs1 := [.val (.int .u64 t4_3), .own 4 ((x2 ++ [t13_8]).length)]) rfl rfl sz42 rfl ⟨Nat.le_of_ble_eq_true rfl, rfl⟩ rfl) (drawE_other _ _ _ _ rfl) rfl, trivial⟩) _ (by exact ⟨.free rfl rfl, .ptr rfl, .ptr rfl, .ptr rfl, .ptr rfl, .free rfl rfl, trivial⟩) (by rfl)
        refine .inBlock ?_
        refine .reg0 rfl (.op 0 rfl (mvV rfl) <| .op 0 rfl (addI rfl rfl) <| .op 0 rfl (asV rfl) <| .nil0) ?_
        refine .keepL [0, 1, 2, 3, 4] [(0, .val (.int .i64 a0)), (4, .ptr 0 1 2 0 0), (5, .ptr 1 1 2 0 0), (6, .ptr 2 1 2 0 0), (9, .ptr 3 1 2 0 0), (10, .val (.int .i64 (IntKind.i64.wrap (x3 + 1))))] [⟨2, [(TFacts.lit a1)], 0, none⟩, ⟨2, [(TFacts.lit a2)], 0, none⟩, ⟨2, [[.val (.int .u64 0), .val (.slice none 0 0)]], 0, none⟩, ⟨2, [[.val (.int .u64 t4_3), .own 4 ((x2 ++ [t13_8]).length)]], 0, none⟩, ⟨1, (x2 ++ [t13_8]).map (cInt .u64), 0, none⟩] (by decide) (by decide) ⟨.free rfl rfl, .ptr rfl, .ptr rfl, .ptr rfl, .ptr rfl, .free rfl rfl, trivial⟩ ⟨⟨_, rfl, bcBox (all2_free rfl)⟩, ⟨_, rfl, bcBox (all2_free rfl)⟩, ⟨_, rfl, bcBox (all2_free rfl)⟩, ⟨_, rfl, bcBox (.cons (.free rfl rfl) <| .cons (.own rfl) <| .nil)⟩, ⟨_, rfl, bcRow (l := (x2 ++ [t13_8])) sl42 (Nat.le_refl _) rfl⟩, trivial⟩ ?_
        exact hn1 _ h
      · rw [if_neg c4] at h
        refine .condF rfl (decide_eq_false c4) ?_
        refine .exit rfl ?_
        refine .keepL [2, 3, 4] [(6, .ptr 0 1 2 0 0), (9, .ptr 1 1 2 0 0)] [⟨2, [[.val (.int .u64 0), .val (.slice none 0 0)]], 0, none⟩, ⟨2, [[.val (.int .u64 t4_3), .own 2 x2.length]], 0, none⟩, ⟨1, x2.map (cInt .u64), 0, none⟩] (by decide) (by decide) ⟨.ptr rfl, .ptr rfl, trivial⟩ ⟨⟨_, rfl, bcBox (all2_free rfl)⟩, ⟨_, rfl, bcBox (.cons (.free rfl rfl) <| .cons (.own rfl) <| .nil)⟩, ⟨_, rfl, bcRow (l := x2) sl42 (Nat.le_refl _) rfl⟩, trivial⟩ ?_
        exact hx1 _ h
  · rw [if_neg c1] at h
    refine .condT rfl (bne_iff_ne.mpr c1) ?_
    refine .seq ?_
    refine .reg0 rfl (.op 0 rfl (bldS (cs := [.val (.int .u64 0), .val (.slice none 0 0)]) ze44 pl44 rfl rfl) <| .op 0 rfl (mvV rfl) <| .op 0 rfl (stB (cs0 := [.val (.int .u64 0), .val (.slice none 0 0)]) (cs := [.val (.int .u64 0), .val (.slice none 0 0)]) (cs1 := [.val (.int .u64 0), .val (.slice none 0 0)]) rfl rfl sz44 rfl ⟨Nat.le_of_ble_eq_true rfl, rfl⟩ rfl) <| .op 0 rfl (asV rfl) <| .nil0) ?_
    replace h := h.symm
    subst h
    refine .keepL [] [(6, .cptr [.val (.int .u64 0), .rows (([] : List Int).map (cInt .u64))] 0), (7, .val (.int .i64 t2_3))] [] (by decide) (by decide) ⟨cFixP rfl rfl (.cons (.free rfl rfl) <| .cons (.nil) <| .nil), .free rfl rfl, trivial⟩ trivial ?_
    exact .ret rfl
def r05_Joined.f (a0 : TCell) (a1 : TCell) (r : TCell) : Prop :=
  if ((a0.Kind == 2) || (a1.Kind == 2)) = true then (r = (TCell.mk 0 2 0)) else (if a0.Kind = 0 then (r = (TCell.mk (bitOp .or .u64 a0.From a1.From) a1.Kind a1.K)) else (if ((a1.Kind == 1) && (a0.K != a1.K)) = true then (r = (TCell.mk 0 2 0)) else (r = (TCell.mk (bitOp .or .u64 a0.From a1.From) a0.Kind a0.K))))
theorem r05_Joined.D {a0 : TCell} {a1 : TCell} {r : TCell} (h : r05_Joined.f a0 a1 r) : D Try.prog X (.callH 56 [.agg (TCell.lit a0), .agg (TCell.lit a1)] [] (.agg (TCell.lit r)) []) := by
  unfold r05_Joined.f at h
  refine .enter 48 0 fn56 rfl rfl rfl ?_
  refine .seq ?_
  refine .room 0 ?_
  refine .room 0 ?_
  refine .room 0 ?_
  refine .reg0 rfl (.op 0 rfl (bxP (s := 3) (cs := (TCell.lit a0)) rfl ⟨rfl, by decide, rfl⟩ rfl) <| .op 1 rfl (bxP (s := 3) (cs := (TCell.lit a1)) rfl ⟨rfl, by decide, rfl⟩ rfl) <| .op 2 rfl (alP (s := 3) ze72 ⟨rfl, by decide, rfl⟩ rfl) <| .nil0) ?_
  refine .seq ?_
  refine .seq ?_
  refine .reg0 (e1 := listEnv [(2, .ptr 0 1 3 0 0), (3, .ptr 1 1 3 0 0), (4, .ptr 2 1 3 0 0), (13, .val (.bool ((a0.Kind == 2) || (a1.Kind == 2))))]) (H1 := [⟨3, [(TCell.lit a0)], 0, none⟩, ⟨3, [(TCell.lit a1)], 0, none⟩, ⟨3, [[.val (.int .u64 0), .val (.int .i64 0), .val (.int .i64 0)]], 0, none⟩]) rfl ?_ ?_
  · by_cases c1 : a0.Kind = 2
    · exact (.op 0 rfl (faP fa72_1 rfl) <| .op 0 rfl (ldP rfl sz70 ag70 rfl) <| .op 0 rfl (eqI rfl rfl) <| .op 0 rfl (mvV rfl) <| .no (gF rfl rfl rfl (beq_iff_eq.mpr c1)) <| .no (gF rfl rfl rfl (beq_iff_eq.mpr c1)) <| .no (gF rfl rfl rfl (beq_iff_eq.mpr c1)) <| .op 0 rfl (pkTV rfl (beq_iff_eq.mpr c1) rfl) <| .nilL _ ⟨.ptr rfl, .ptr rfl, .ptr rfl, cB rfl (mOrT (beq_iff_eq.mpr c1)), trivial⟩)
    · exact (.op 0 rfl (faP fa72_1 rfl) <| .op 0 rfl (ldP rfl sz70 ag70 rfl) <| .op 0 rfl (eqI rfl rfl) <| .op 0 rfl (mvV rfl) <| .op 0 (gT rfl rfl rfl (beq_eq_false_iff_ne.mpr c1)) (faP fa72_1 rfl) <| .op 0 (gT rfl rfl rfl (beq_eq_false_iff_ne.mpr c1)) (ldP rfl sz70 ag70 rfl) <| .op 0 (gT rfl rfl rfl (beq_eq_false_iff_ne.mpr c1)) (eqI rfl rfl) <| .op 0 rfl (pkFV rfl (beq_eq_false_iff_ne.mpr c1) rfl) <| .nilL _ ⟨.ptr rfl, .ptr rfl, .ptr rfl, cB rfl (mOrF (beq_eq_false_iff_ne.mpr c1) rfl), trivial⟩)
  by_cases c2 : ((a0.Kind == 2) || (a1.Kind == 2)) = true
  · rw [if_pos c2] at h
    refine .condT rfl c2 ?_
    refine .seq ?_
    refine .reg0 rfl (.op 0 rfl (bldS (cs := [.val (.int .u64 0), .val (.int .i64 2), .val (.int .i64 0)]) ze72 pl72 rfl rfl) <| .op 0 rfl (stB (cs0 := [.val (.int .u64 0), .val (.int .i64 0), .val (.int .i64 0)]) (cs := [.val (.int .u64 0), .val (.int .i64 2), .val (.int .i64 0)]) (cs1 := [.val (.int .u64 0), .val (.int .i64 2), .val (.int .i64 0)]) rfl rfl sz72 rfl ⟨Nat.le_of_ble_eq_true rfl, rfl⟩ rfl) <| .nil0) ?_
    replace h := h.symm
    subst h
    refine .keepL [] [(4, .cptr [.val (.int .u64 0), .val (.int .i64 2), .val (.int .i64 0)] 0)] [] (by decide) (by decide) ⟨cFixP rfl rfl (.cons (.free rfl rfl) <| .cons (.free rfl rfl) <| .cons (.free rfl rfl) <| .nil), trivial⟩ trivial ?_
    exact .ret rfl
  · rw [if_neg c2] at h
    refine .condF rfl (Bool.eq_false_iff.mpr c2) ?_
    refine .skip ?_
    refine .seq ?_
    refine .room 0 ?_
    refine .reg0 rfl (.op 0 rfl (faP fa72_0 rfl) <| .op 0 rfl (ldP rfl sz41 ag41 rfl) <| .op 0 rfl (faP fa72_0 rfl) <| .op 0 rfl (ldP rfl sz41 ag41 rfl) <| .op 0 rfl (orI rfl rfl) <| .op 0 rfl (faP fa72_1 rfl) <| .op 0 rfl (ldP rfl sz70 ag70 rfl) <| .op 0 rfl (faP fa72_2 rfl) <| .op 0 rfl (ldP rfl sz2 ag2 rfl) <| .op 0 rfl (bldS (cs := [.val (.int .u64 (bitOp .or .u64 a0.From a1.From)), .val (.int .i64 a0.Kind), .val (.int .i64 a0.K)]) ze72 pl72 rfl rfl) <| .op 3 rfl (alP (s := 3) ze72 ⟨rfl, by decide, rfl⟩ rfl) <| .op 0 rfl (stB (cs0 := [.val (.int .u64 0), .val (.int .i64 0), .val (.int .i64 0)]) (cs := [.val (.int .u64 (bitOp .or .u64 a0.From a1.From)), .val (.int .i64 a0.Kind), .val (.int .i64 a0.K)]) (cs1 := [.val (.int .u64 (bitOp .or .u64 a0.From a1.From)), .val (.int .i64 a0.Kind), .val (.int .i64 a0.K)]) rfl rfl sz72 rfl ⟨Nat.le_of_ble_eq_true rfl, rfl⟩ rfl) <| .nil0) ?_
    refine .seq ?_
    refine .block ?_
    refine .seq ?_
    refine .reg0 rfl (.op 0 rfl (faP fa72_1 rfl) <| .op 0 rfl (ldP rfl sz70 ag70 rfl) <| .op 0 rfl (eqI rfl rfl) <| .op 0 rfl (asV rfl) <| .nil0) ?_
    by_cases c3 : a0.Kind = 0
    · rw [if_pos c3] at h
      refine .condT rfl (beq_iff_eq.mpr c3) ?_
      refine .reg1 (e1 := listEnv [(4, .ptr 2 1 3 0 0), (5, .ptr 3 1 3 0 0)]) (H1 := [⟨3, [(TCell.lit a0)], 0, none⟩, ⟨3, [(TCell.lit a1)], 0, none⟩, ⟨3, [[.val (.int .u64 0), .val (.int .i64 0), .val (.int .i64 0)]], 0, none⟩, ⟨3, [[.val (.int .u64 (bitOp .or .u64 a0.From a1.From)), .val (.int .i64 a1.Kind), .val (.int .i64 a1.K)]], 0, none⟩]) rfl ?_ ?_
      · exact .drawM [(6, 34, .ptr 3 1 3 0 2), (4, 33, .ptr 3 1 3 0 1), (3, 32, .val (.int .i64 a1.K)), (2, 31, .ptr 1 1 3 0 2), (1, 30, .val (.int .i64 a1.Kind)), (0, 29, .ptr 1 1 3 0 1)] [(7, 3, ⟨3, [[.val (.int .u64 (bitOp .or .u64 a0.From a1.From)), .val (.int .i64 a1.Kind), .val (.int .i64 a1.K)]], 0, none⟩), (5, 3, ⟨3, [[.val (.int .u64 (bitOp .or .u64 a0.From a1.From)), .val (.int .i64 a1.Kind), .val (.int .i64 a0.K)]], 0, none⟩)] [[], [0], [], [2], [0, 1], [4, 0, 1], [0, 1, 2, 3, 4, 5], [6, 0, 1, 2, 3, 4, 5]] (by rfl) (by rfl) (by rfl) (by exact ⟨fun S hS hD hn => .one 0 hS hD hn rfl rfl (faP fa72_1 rfl) rfl rfl rfl, fun S hS hD hn => .one 0 hS hD hn rfl rfl (ldP rfl sz70 ag70 rfl) rfl rfl rfl, fun S hS hD hn => .one 0 hS hD hn rfl rfl (faP fa72_2 rfl) rfl rfl rfl, fun S hS hD hn => .one 0 hS hD hn rfl rfl (ldP rfl sz2 ag2 rfl) rfl rfl rfl, fun S hS hD hn => .one 0 hS hD hn rfl rfl (faP fa72_1 rfl) rfl rfl rfl, fun S hS hD hn => .one0 0 rfl rfl (stB (cs0 := [.val (.int .u64 (bitOp .or .u64 a0.From a1.From)), .val (.int .i64 a0.Kind), .val (.int .i64 a0.K)]) (cs := [.val (.int .i64 a1.Kind)]) (cs1 := [.val (.int .u64 (bitOp .or .u64 a0.From a1.From)), .val (.int .i64 a1.Kind), .val (.int .i64 a0.K)]) rfl rfl sz70 rfl ⟨Nat.le_of_ble_eq_true rfl, rfl⟩ rfl) (drawE_other _ _ _ _ rfl) rfl, fun S hS hD hn => .one 0 hS hD hn rfl rfl (faP fa72_2 rfl) rfl rfl rfl, fun S hS hD hn => .one0 0 rfl rfl (stB (cs0 := [.val (.int .u64 (bitOp .or .u64 a0.From a1.From)), .val (.int .i64 a1.Kind), .val (.int .i64 a0.K)]) (cs := [.val (.int .i64 a1.K)]) (cs1 := [.val (.int .u64 (bitOp .or .u64 a0.From a1.From)), .val (.int .i64 a1.Kind), .val (.int .i64 a1.K)]) rfl rfl sz2 rfl ⟨Nat.le_of_ble_eq_true rfl, rfl⟩ rfl) (drawE_other _ _ _ _ rfl) rfl, trivial⟩) _ (by exact ⟨.ptr rfl, .ptr rfl, trivial⟩) (by rfl)
      refine .inBlock ?_
      refine .seq ?_
      refine .reg0 rfl (.op 0 rfl (ldG rfl sz72 ag72 rfl) <| .op 0 rfl (stB (cs0 := [.val (.int .u64 0), .val (.int .i64 0), .val (.int .i64 0)]) (cs := [.val (.int .u64 (bitOp .or .u64 a0.From a1.From)), .val (.int .i64 a1.Kind), .val (.int .i64 a1.K)]) (cs1 := [.val (.int .u64 (bitOp .or .u64 a0.From a1.From)), .val (.int .i64 a1.Kind), .val (.int .i64 a1.K)]) rfl rfl sz72 rfl ⟨Nat.le_of_ble_eq_true rfl, rfl⟩ rfl) <| .nil0) ?_
      replace h := h.symm
      subst h
      refine .keepL [] [(4, .cptr [.val (.int .u64 (bitOp .or .u64 a0.From a1.From)), .val (.int .i64 a1.Kind), .val (.int .i64 a1.K)] 0)] [] (by decide) (by decide) ⟨cFixP rfl rfl (.cons (.free rfl rfl) <| .cons (.free rfl rfl) <| .cons (.free rfl rfl) <| .nil), trivial⟩ trivial ?_
      exact .ret rfl
    · rw [if_neg c3] at h
      refine .condF rfl (beq_eq_false_iff_ne.mpr c3) ?_
      refine .seq ?_
      refine .reg0 (e1 := listEnv [(4, .ptr 2 1 3 0 0), (5, .ptr 3 1 3 0 0), (35, .val (.bool ((a1.Kind == 1) && (a0.K != a1.K))))]) (H1 := [⟨3, [(TCell.lit a0)], 0, none⟩, ⟨3, [(TCell.lit a1)], 0, none⟩, ⟨3, [[.val (.int .u64 0), .val (.int .i64 0), .val (.int .i64 0)]], 0, none⟩, ⟨3, [[.val (.int .u64 (bitOp .or .u64 a0.From a1.From)), .val (.int .i64 a0.Kind), .val (.int .i64 a0.K)]], 0, none⟩]) rfl ?_ ?_
      · by_cases c4 : a1.Kind = 1
        · exact (.op 0 rfl (faP fa72_1 rfl) <| .op 0 rfl (ldP rfl sz70 ag70 rfl) <| .op 0 rfl (eqI rfl rfl) <| .op 0 rfl (mvV rfl) <| .op 0 (gT rfl rfl rfl (beq_iff_eq.mpr c4)) (faP fa72_2 rfl) <| .op 0 (gT rfl rfl rfl (beq_iff_eq.mpr c4)) (ldP rfl sz2 ag2 rfl) <| .op 0 (gT rfl rfl rfl (beq_iff_eq.mpr c4)) (faP fa72_2 rfl) <| .op 0 (gT rfl rfl rfl (beq_iff_eq.mpr c4)) (ldP rfl sz2 ag2 rfl) <| .op 0 (gT rfl rfl rfl (beq_iff_eq.mpr c4)) (neI rfl rfl) <| .op 0 rfl (pkTV rfl (beq_iff_eq.mpr c4) rfl) <| .op 0 rfl (asV rfl) <| .nilL _ ⟨.ptr rfl, .ptr rfl, cB rfl (mAndT (beq_iff_eq.mpr c4) rfl), trivial⟩)
        · exact (.op 0 rfl (faP fa72_1 rfl) <| .op 0 rfl (ldP rfl sz70 ag70 rfl) <| .op 0 rfl (eqI rfl rfl) <| .op 0 rfl (mvV rfl) <| .no (gF rfl rfl rfl (beq_eq_false_iff_ne.mpr c4)) <| .no (gF rfl rfl rfl (beq_eq_false_iff_ne.mpr c4)) <| .no (gF rfl rfl rfl (beq_eq_false_iff_ne.mpr c4)) <| .no (gF rfl rfl rfl (beq_eq_false_iff_ne.mpr c4)) <| .no (gF rfl rfl rfl (beq_eq_false_iff_ne.mpr c4)) <| .op 0 rfl (pkFV rfl (beq_eq_false_iff_ne.mpr c4) rfl) <| .op 0 rfl (asV rfl) <| .nilL _ ⟨.ptr rfl, .ptr rfl, cB rfl (mAndF (beq_eq_false_iff_ne.mpr c4)), trivial⟩)
      by_cases c5 : ((a1.Kind == 1) && (a0.K != a1.K)) = true
      · rw [if_pos c5] at h
        refine .condT rfl c5 ?_
        refine .seq ?_
        refine .reg0 rfl (.op 0 rfl (bldS (cs := [.val (.int .u64 0), .val (.int .i64 2), .val (.int .i64 0)]) ze72 pl72 rfl rfl) <| .op 0 rfl (stB (cs0 := [.val (.int .u64 0), .val (.int .i64 0), .val (.int .i64 0)]) (cs := [.val (.int .u64 0), .val (.int .i64 2), .val (.int .i64 0)]) (cs1 := [.val (.int .u64 0), .val (.int .i64 2), .val (.int .i64 0)]) rfl rfl sz72 rfl ⟨Nat.le_of_ble_eq_true rfl, rfl⟩ rfl) <| .nil0) ?_
        replace h := h.symm
        subst h
        refine .keepL [] [(4, .cptr [.val (.int .u64 0), .val (.int .i64 2), .val (.int .i64 0)] 0)] [] (by decide) (by decide) ⟨cFixP rfl rfl (.cons (.free rfl rfl) <| .cons (.free rfl rfl) <| .cons (.free rfl rfl) <| .nil), trivial⟩ trivial ?_
        exact .ret rfl
      · rw [if_neg c5] at h
        refine .condF rfl (Bool.eq_false_iff.mpr c5) ?_
        refine .skip ?_
        refine .inBlock ?_
        refine .seq ?_
        refine .reg0 rfl (.op 0 rfl (ldG rfl sz72 ag72 rfl) <| .op 0 rfl (stB (cs0 := [.val (.int .u64 0), .val (.int .i64 0), .val (.int .i64 0)]) (cs := [.val (.int .u64 (bitOp .or .u64 a0.From a1.From)), .val (.int .i64 a0.Kind), .val (.int .i64 a0.K)]) (cs1 := [.val (.int .u64 (bitOp .or .u64 a0.From a1.From)), .val (.int .i64 a0.Kind), .val (.int .i64 a0.K)]) rfl rfl sz72 rfl ⟨Nat.le_of_ble_eq_true rfl, rfl⟩ rfl) <| .nil0) ?_
        replace h := h.symm
        subst h
        refine .keepL [] [(4, .cptr [.val (.int .u64 (bitOp .or .u64 a0.From a1.From)), .val (.int .i64 a0.Kind), .val (.int .i64 a0.K)] 0)] [] (by decide) (by decide) ⟨cFixP rfl rfl (.cons (.free rfl rfl) <| .cons (.free rfl rfl) <| .cons (.free rfl rfl) <| .nil), trivial⟩ trivial ?_
        exact .ret rfl
def r05_behind.j1 (x10 : Int) : (Int × Int × Int) → (Rnd ((Int × Int × Int × Int)) ((Int × Int × Int)) TCell) → Prop := fun (x23, x24, x25) z1 => z1 = .next (x23, x24, x25, (IntKind.i64.wrap (x10 + 1)))
def r05_behind.b1 (a0 : List TCell) (a1 : TCell) : (Int × Int × Int × Int) → Rnd ((Int × Int × Int × Int)) ((Int × Int × Int)) TCell → Prop := fun (x7, x8, x9, x10) z1 => if x10 < (a0.length : Int) then (∃ t24_3 : Bool, (r01_Has.f a1.From x10 t24_3) ∧ if t24_3 = true then (((InR x10 a0.length)) ∧ ∃ t27_5 : TCell, (r05_Joined.f (TCell.mk x7 x8 x9) (rdl a0 x10) t27_5) ∧ r05_behind.j1 x10 (t27_5.From, t27_5.Kind, t27_5.K) z1) else (r05_behind.j1 x10 (x7, x8, x9) z1)) else (z1 = .exit (x7, x8, x9))
def r05_behind.f (a0 : List TCell) (a1 : TCell) (r : TCell) : Prop :=
  ∃ o1 : Fin ((Int × Int × Int)) TCell, Loop (r05_behind.b1 a0 a1) (0, a1.Kind, a1.K, 0) o1 ∧ o1.on (fun (x17, x18, x19) => r = (TCell.mk x17 x18 x19)) (fun r_ => r = r_)
theorem r05_behind.D {a0 : List TCell} {a1 : TCell} {r : TCell} (h : r05_behind.f a0 a1 r) : D Try.prog X (.callH 76 [.rows (a0.map TCell.cells), .agg (TCell.lit a1)] [] (.agg (TCell.lit r)) []) := by
  unfold r05_behind.f at h
  refine .enter 29 0 fn76 rfl rfl rfl ?_
  refine .seq ?_
  refine .room 0 ?_
  refine .room 0 ?_
  refine .reg0 rfl (.op 0 rfl (bxP (s := 3) (cs := (TCell.lit a1)) rfl ⟨rfl, by decide, rfl⟩ rfl) <| .op 1 rfl (alP (s := 3) ze72 ⟨rfl, by decide, rfl⟩ rfl) <| .nil0) ?_
  refine .seq ?_
  refine .room 0 ?_
  refine .reg0 rfl (.op 0 rfl (faP fa72_1 rfl) <| .op 0 rfl (ldP rfl sz70 ag70 rfl) <| .op 0 rfl (faP fa72_2 rfl) <| .op 0 rfl (ldP rfl sz2 ag2 rfl) <| .op 0 rfl (bldS (cs := [.val (.int .u64 0), .val (.int .i64 a1.Kind), .val (.int .i64 a1.K)]) ze72 pl72 rfl rfl) <| .op 2 rfl (alP (s := 3) ze72 ⟨rfl, by decide, rfl⟩ rfl) <| .op 0 rfl (stB (cs0 := [.val (.int .u64 0), .val (.int .i64 0), .val (.int .i64 0)]) (cs := [.val (.int .u64 0), .val (.int .i64 a1.Kind), .val (.int .i64 a1.K)]) (cs1 := [.val (.int .u64 0), .val (.int .i64 a1.Kind), .val (.int .i64 a1.K)]) rfl rfl sz72 rfl ⟨Nat.le_of_ble_eq_true rfl, rfl⟩ rfl) <| .nil0) ?_
  refine .seq ?_
  refine .seq ?_
  refine .reg0 rfl (.op 0 rfl (asV rfl) <| .nil0) ?_
  refine .block ?_
  refine .keepL [0, 1, 2] [(0, .rows (a0.map TCell.cells)), (3, .ptr 0 1 3 0 0), (4, .ptr 1 1 3 0 0), (5, .ptr 2 1 3 0 0), (6, .val (.int .i64 0))] [⟨3, [(TCell.lit a1)], 0, none⟩, ⟨3, [[.val (.int .u64 0), .val (.int .i64 0), .val (.int .i64 0)]], 0, none⟩, ⟨3, [[.val (.int .u64 0), .val (.int .i64 a1.Kind), .val (.int .i64 a1.K)]], 0, none⟩] (by decide) (by decide) ⟨.free rfl rfl, .ptr rfl, .ptr rfl, .ptr rfl, .free rfl rfl, trivial⟩ ⟨⟨_, rfl, bcBox (all2_free rfl)⟩, ⟨_, rfl, bcBox (all2_free rfl)⟩, ⟨_, rfl, bcBox (all2_free rfl)⟩, trivial⟩ ?_
  obtain ⟨o1, hL1, h⟩ := h
  refine .loopB (r05_behind.b1 a0 a1) (fun (x7, x8, x9, x10) => listEnv [(0, .rows (a0.map TCell.cells)), (3, .ptr 0 1 3 0 0), (4, .ptr 1 1 3 0 0), (5, .ptr 2 1 3 0 0), (6, .val (.int .i64 x10))]) (fun (x7, x8, x9, x10) => [⟨3, [(TCell.lit a1)], 0, none⟩, ⟨3, [[.val (.int .u64 0), .val (.int .i64 0), .val (.int .i64 0)]], 0, none⟩, ⟨3, [[.val (.int .u64 x7), .val (.int .i64 x8), .val (.int .i64 x9)]], 0, none⟩]) (fun (x17, x18, x19) => listEnv [(4, .ptr 0 1 3 0 0), (5, .ptr 1 1 3 0 0)]) (fun (x17, x18, x19) => [⟨3, [[.val (.int .u64 0), .val (.int .i64 0), .val (.int .i64 0)]], 0, none⟩, ⟨3, [[.val (.int .u64 x17), .val (.int .i64 x18), .val (.int .i64 x19)]], 0, none⟩]) hL1 (fun r_ => r = r_) ?_ ?_ ?_
  · rintro ⟨x17, x18, x19⟩ rfl
    try dsimp only [Fin.on] at h
    refine .seq ?_
    refine .reg0 rfl (.op 0 rfl (ldG rfl sz72 ag72 rfl) <| .op 0 rfl (stB (cs0 := [.val (.int .u64 0), .val (.int .i64 0), .val (.int .i64 0)]) (cs := [.val (.int .u64 x17), .val (.int .i64 x18), .val (.int .i64 x19)]) (cs1 := [.val (.int .u64 x17), .val (.int .i64 x18), .val (.int .i64 x19)]) rfl rfl sz72 rfl ⟨Nat.le_of_ble_eq_true rfl, rfl⟩ rfl) <| .nil0) ?_
    replace h := h.symm
    subst h
    refine .keepL [] [(4, .cptr [.val (.int .u64 x17), .val (.int .i64 x18), .val (.int .i64 x19)] 0)] [] (by decide) (by decide) ⟨cFixP rfl rfl (.cons (.free rfl rfl) <| .cons (.free rfl rfl) <| .cons (.free rfl rfl) <| .nil), trivial⟩ trivial ?_
    exact .ret rfl
  · rintro r_ rfl
    exact h
  · rintro ⟨x7, x8, x9, x10⟩ z1 h hn1 hx1 hr1
    dsimp only [r05_behind.b1] at h
    refine .seq ?_
    refine .seq ?_
    refine .reg0 rfl (.op 0 rfl (mvV rfl) <| .op 0 rfl (mvR rfl) <| .op 0 rfl (lnR (l := a0) sl45 rfl) <| .op 0 rfl (ltI rfl rfl) <| .nil0) ?_
    by_cases c11 : x10 < (a0.length : Int)
    · rw [if_pos c11] at h
      refine .condT rfl (decide_eq_true c11) ?_
      refine .skip ?_
      refine .seq ?_
      refine .block ?_
      refine .seq ?_
      obtain ⟨t24_3, g24_3, h⟩ := h
      refine .reg0 rfl (.op 0 rfl (faP fa72_0 rfl) <| .op 0 rfl (ldP rfl sz41 ag41 rfl) <| .op 0 rfl (mvV rfl) <| .callI rfl (callee_of rfl go89 rfl) (.pure rfl rfl (r01_Has.D g24_3)) <| .nil0) ?_
      refine .consJ (fun s_ => r05_behind.j1 x10 s_ z1) (fun (x23, x24, x25) => listEnv [(0, .rows (a0.map TCell.cells)), (3, .ptr 0 1 3 0 0), (4, .ptr 1 1 3 0 0), (5, .ptr 2 1 3 0 0), (6, .val (.int .i64 x10))]) (fun (x23, x24, x25) => [⟨3, [(TCell.lit a1)], 0, none⟩, ⟨3, [[.val (.int .u64 0), .val (.int .i64 0), .val (.int .i64 0)]], 0, none⟩, ⟨3, [[.val (.int .u64 x23), .val (.int .i64 x24), .val (.int .i64 x25)]], 0, none⟩]) ?_ fun hJ1 => ?_
      · rintro ⟨x23, x24, x25⟩ h
        unfold r05_behind.j1 at h
        try dsimp only at h
        refine .inBlock ?_
        refine .reg0 rfl (.op 0 rfl (mvV rfl) <| .op 0 rfl (addI rfl rfl) <| .op 0 rfl (asV rfl) <| .nil0) ?_
        refine .keepL [0, 1, 2] [(0, .rows (a0.map TCell.cells)), (3, .ptr 0 1 3 0 0), (4, .ptr 1 1 3 0 0), (5, .ptr 2 1 3 0 0), (6, .val (.int .i64 (IntKind.i64.wrap (x10 + 1))))] [⟨3, [(TCell.lit a1)], 0, none⟩, ⟨3, [[.val (.int .u64 0), .val (.int .i64 0), .val (.int .i64 0)]], 0, none⟩, ⟨3, [[.val (.int .u64 x23), .val (.int .i64 x24), .val (.int .i64 x25)]], 0, none⟩] (by decide) (by decide) ⟨.free rfl rfl, .ptr rfl, .ptr rfl, .ptr rfl, .free rfl rfl, trivial⟩ ⟨⟨_, rfl, bcBox (all2_free rfl)⟩, ⟨_, rfl, bcBox (all2_free rfl)⟩, ⟨_, rfl, bcBox (all2_free rfl)⟩, trivial⟩ ?_
        exact hn1 _ h
      · by_cases c15 : t24_3 = true
        · rw [if_pos c15] at h
          refine .condT rfl c15 ?_
          obtain ⟨g27_3, h⟩ := h
          obtain ⟨t27_5, g27_5, h⟩ := h
          refine .reg1 (e1 := listEnv [(0, .rows (a0.map TCell.cells)), (3, .ptr 0 1 3 0 0), (4, .ptr 1 1 3 0 0), (5, .ptr 2 1 3 0 0), (6, .val (.int .i64 x10))]) (H1 := [⟨3, [(TCell.lit a1)], 0, none⟩, ⟨3, [[.val (.int .u64 0), .val (.int .i64 0), .val (.int .i64 0)]], 0, none⟩, ⟨3, [(TCell.lit t27_5)], 0, none⟩]) rfl ?_ ?_
          · exact .drawM [(5, 27, .agg (TCell.lit t27_5)), (4, 26, .agg (TCell.lit (rdl a0 x10))), (3, 25, .cptr (TCell.lit (rdl a0 x10)) 0), (2, 24, .val (.int .i64 x10)), (1, 23, .rows (a0.map TCell.cells)), (0, 22, .agg [.val (.int .u64 x7), .val (.int .i64 x8), .val (.int .i64 x9)])] [(6, 2, ⟨3, [(TCell.lit t27_5)], 0, none⟩)] [[], [], [], [1, 2], [3, 1, 2], [0, 4, 3, 1, 2], [5, 0, 4, 3, 1, 2]] (by rfl) (by rfl) (by rfl) (by exact ⟨fun S hS hD hn => .one 0 hS hD hn rfl rfl (ldG rfl sz72 ag72 rfl) rfl rfl rfl, fun S hS hD hn => .one 0 hS hD hn rfl rfl (mvR rfl) rfl rfl rfl, fun S hS hD hn => .one 0 hS hD hn rfl rfl (mvV rfl) rfl rfl rfl, fun S hS hD hn => .one 0 hS hD hn rfl rfl (ixR (l := a0) (lit := TCell.lit) sl45 rfl rfl (fun _ => rfl) g27_3.1 g27_3.2) rfl rfl rfl, fun S hS hD hn => .one 0 hS hD hn rfl rfl (ldCG rfl sz72 ag72 rfl) rfl rfl rfl, fun S hS hD hn => .oneI hS hD hn rfl rfl (callee_of rfl go56 rfl) (.pure rfl rfl (r05_Joined.D g27_5)) rfl rfl rfl, fun S hS hD hn => .one0 0 rfl rfl (stB (cs0 := [.val (.int .u64 x7), .val (.int .i64 x8), .val (.int .i64 x9)]) (cs := (TCell.lit t27_5)) (cs1 := (TCell.lit t27_5)) rfl rfl sz72 rfl ⟨Nat.le_of_ble_eq_true rfl, rfl⟩ rfl) (drawE_other _ _ _ _ rfl) rfl, trivial⟩) _ (by exact ⟨.free rfl rfl, .ptr rfl, .ptr rfl, .ptr rfl, .free rfl rfl, trivial⟩) (by rfl)
          refine .keepL [0, 1, 2] [(0, .rows (a0.map TCell.cells)), (3, .ptr 0 1 3 0 0), (4, .ptr 1 1 3 0 0), (5, .ptr 2 1 3 0 0), (6, .val (.int .i64 x10))] [⟨3, [(TCell.lit a1)], 0, none⟩, ⟨3, [[.val (.int .u64 0), .val (.int .i64 0), .val (.int .i64 0)]], 0, none⟩, ⟨3, [(TCell.lit t27_5)], 0, none⟩] (by decide) (by decide) ⟨.free rfl rfl, .ptr rfl, .ptr rfl, .ptr rfl, .free rfl rfl, trivial⟩ ⟨⟨_, rfl, bcBox (all2_free rfl)⟩, ⟨_, rfl, bcBox (all2_free rfl)⟩, ⟨_, rfl, bcBox (all2_free rfl)⟩, trivial⟩ ?_
          exact hJ1 _ h
        · rw [if_neg c15] at h
          refine .condF rfl (Bool.eq_false_iff.mpr c15) ?_
          refine .skip ?_
          refine .keepL [0, 1, 2] [(0, .rows (a0.map TCell.cells)), (3, .ptr 0 1 3 0 0), (4, .ptr 1 1 3 0 0), (5, .ptr 2 1 3 0 0), (6, .val (.int .i64 x10))] [⟨3, [(TCell.lit a1)], 0, none⟩, ⟨3, [[.val (.int .u64 0), .val (.int .i64 0), .val (.int .i64 0)]], 0, none⟩, ⟨3, [[.val (.int .u64 x7), .val (.int .i64 x8), .val (.int .i64 x9)]], 0, none⟩] (by decide) (by decide) ⟨.free rfl rfl, .ptr rfl, .ptr rfl, .ptr rfl, .free rfl rfl, trivial⟩ ⟨⟨_, rfl, bcBox (all2_free rfl)⟩, ⟨_, rfl, bcBox (all2_free rfl)⟩, ⟨_, rfl, bcBox (all2_free rfl)⟩, trivial⟩ ?_
          exact hJ1 _ h
    · rw [if_neg c11] at h
      refine .condF rfl (decide_eq_false c11) ?_
      refine .exit rfl ?_
      refine .keepL [1, 2] [(4, .ptr 0 1 3 0 0), (5, .ptr 1 1 3 0 0)] [⟨3, [[.val (.int .u64 0), .val (.int .i64 0), .val (.int .i64 0)]], 0, none⟩, ⟨3, [[.val (.int .u64 x7), .val (.int .i64 x8), .val (.int .i64 x9)]], 0, none⟩] (by decide) (by decide) ⟨.ptr rfl, .ptr rfl, trivial⟩ ⟨⟨_, rfl, bcBox (all2_free rfl)⟩, ⟨_, rfl, bcBox (all2_free rfl)⟩, trivial⟩ ?_
      exact hx1 _ h
end Go.RM.Try
