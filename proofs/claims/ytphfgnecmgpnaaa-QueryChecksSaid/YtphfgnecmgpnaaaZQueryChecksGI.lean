/- GI, for the statement QueryChecks: what it needs, no more. -/
import Derived.Test.YtphfgnecmgpnaaaZQueryChecksGH
set_option linter.unusedVariables false
set_option maxRecDepth 8000
set_option maxHeartbeats 4000000
namespace Go.RM.Try
open Go.RM Go.Proofs
variable {X : FuncId → List PV → Heap → PV → Heap → Prop}
def r10_Check.b1 (a0 : TAuto) : Int → Rnd Int Unit Int → Prop := fun x1 z1 => if x1 < (a0.Final.length : Int) then (((InR x1 a0.Final.length)) ∧ ∃ t18_6 : Bool, (r10_State.f a0 (rdl a0.Final x1) t18_6) ∧ ((t18_6 = true) → (x1 > 0) → (InR x1 a0.Final.length)) ∧ ((t18_6 = true) → (x1 > 0) → (InR (IntKind.i64.wrap (x1 - 1)) a0.Final.length)) ∧ if ((!t18_6) || ((decide (x1 > 0)) && (decide ((rdl a0.Final x1) ≤ (rdl a0.Final (IntKind.i64.wrap (x1 - 1))))))) = true then (z1 = .ret 100) else (z1 = .next (IntKind.i64.wrap (x1 + 1)))) else (z1 = .exit ())
def r10_Check.b2 (a0 : TAuto) : Int → Rnd Int Unit Int → Prop := fun x2 z2 => if x2 < (a0.Trans.length : Int) then (((InR x2 a0.Trans.length)) ∧ ∃ t34_3 : Bool, (r10_State.f a0 ((rdl a0.Trans x2).From) t34_3) ∧ ∃ t34_9 : Bool, ((t34_3 = true) → r10_State.f a0 ((rdl a0.Trans x2).To) t34_9) ∧ if ((!t34_3) || ((!t34_9) || ((decide ((rdl a0.Trans x2).Sym < (-1))) || (decide ((rdl a0.Trans x2).Sym ≥ a0.Symbols))))) = true then (z2 = .ret 100) else (z2 = .next (IntKind.i64.wrap (x2 + 1)))) else (z2 = .exit ())
def r10_Check.b3 (a0 : TAuto) : Int → Rnd Int Unit Int → Prop := fun x3 z3 => if x3 < (a0.Trans.length : Int) then (((InR x3 a0.Trans.length)) ∧ ∃ t47_8 : Int, (r05_Check.f a0.Space ((rdl a0.Trans x3).W) t47_8) ∧ if t47_8 = 0 then (z3 = .next (IntKind.i64.wrap (x3 + 1))) else (z3 = .ret 51)) else (z3 = .exit ())
def r10_Check.f (a0 : TAuto) (r : Int) : Prop :=
  ∃ t2_2 : Int, (r05_Space.f a0.Space t2_2) ∧ if t2_2 = 0 then (if (a0.Trans.length : Int) > 65536 then (r = 3) else (if ((decide (a0.States < 0)) || ((decide (a0.States > 4096)) || ((decide (a0.Symbols < 0)) || (decide (a0.Symbols > 4096))))) = true then (r = 100) else (∃ o1 : Fin Unit Int, Loop (r10_Check.b1 a0) 0 o1 ∧ o1.on (fun _ => ∃ o2 : Fin Unit Int, Loop (r10_Check.b2 a0) 0 o2 ∧ o2.on (fun _ => ∃ o3 : Fin Unit Int, Loop (r10_Check.b3 a0) 0 o3 ∧ o3.on (fun _ => r = 0) (fun r_ => r = r_)) (fun r_ => r = r_)) (fun r_ => r = r_)))) else (r = t2_2)
theorem r10_Check.D {a0 : TAuto} {r : Int} (h : r10_Check.f a0 r) : D Try.prog X (.callH 27 [.agg (TAuto.lit a0)] [] (.val (.int .i64 r)) []) := by
  unfold r10_Check.f at h
  refine .enter 122 0 fn27 rfl rfl rfl ?_
  refine .seq ?_
  refine .room 0 ?_
  refine .reg0 rfl (.op 0 rfl (bxP (s := 7) (cs := (TAuto.lit a0)) rfl ⟨rfl, by decide, rfl⟩ rfl) <| .op 0 rfl (asV rfl) <| .nil0) ?_
  refine .seq ?_
  obtain ⟨t2_2, g2_2, h⟩ := h
  refine .reg0 rfl (.op 0 rfl (faP fa35_0 rfl) <| .op 0 rfl (ldG rfl sz25 ag25 rfl) <| .callI rfl (callee_of rfl go36 rfl) (.pure rfl rfl (r05_Space.D g2_2)) <| .op 0 rfl (asV rfl) <| .nil0) ?_
  refine .seq ?_
  refine .seq ?_
  refine .reg0 rfl (.op 0 rfl (mvV rfl) <| .op 0 rfl (neI rfl rfl) <| .nil0) ?_
  by_cases c1 : t2_2 = 0
  · rw [if_pos c1] at h
    refine .condF rfl (bne_eq_false_iff_eq.mpr c1) ?_
    refine .skip ?_
    refine .seq ?_
    refine .seq ?_
    refine .reg0 rfl (.op 0 rfl (faP fa35_4 rfl) <| .op 0 rfl (ldP rfl sz33 ag33 rfl) <| .op 0 rfl (lnR (l := a0.Trans) sl33 rfl) <| .op 0 rfl (gtI rfl rfl) <| .nil0) ?_
    by_cases c2 : (a0.Trans.length : Int) > 65536
    · rw [if_pos c2] at h
      refine .condT rfl (decide_eq_true c2) ?_
      refine .seq ?_
      refine .reg0 rfl (.op 0 rfl (asV rfl) <| .nil0) ?_
      replace h := h.symm
      subst h
      refine .keepL [] [(2, .val (.int .i64 3))] [] (by decide) (by decide) ⟨.free rfl rfl, trivial⟩ trivial ?_
      exact .ret rfl
    · rw [if_neg c2] at h
      refine .condF rfl (decide_eq_false c2) ?_
      refine .skip ?_
      refine .seq ?_
      refine .seq ?_
      refine .reg0 (e1 := listEnv [(1, .ptr 0 1 7 0 0), (35, .val (.bool ((decide (a0.States < 0)) || ((decide (a0.States > 4096)) || ((decide (a0.Symbols < 0)) || (decide (a0.Symbols > 4096)))))))]) (H1 := [⟨7, [(TAuto.lit a0)], 0, none⟩]) rfl ?_ ?_
      · by_cases c3 : a0.States < 0
        · exact (.op 0 rfl (faP fa35_1 rfl) <| .op 0 rfl (ldP rfl sz3 ag3 rfl) <| .op 0 rfl (ltI rfl rfl) <| .op 0 rfl (mvV rfl) <| .no (gF rfl rfl rfl (decide_eq_true c3)) <| .no (gF rfl rfl rfl (decide_eq_true c3)) <| .no (gF rfl rfl rfl (decide_eq_true c3)) <| .op 0 rfl (pkTV rfl (decide_eq_true c3) rfl) <| .op 0 rfl (mvV rfl) <| .no (gF rfl rfl rfl rfl) <| .no (gF rfl rfl rfl rfl) <| .no (gF rfl rfl rfl rfl) <| .op 0 rfl (pkTV rfl rfl rfl) <| .op 0 rfl (mvV rfl) <| .no (gF rfl rfl rfl rfl) <| .no (gF rfl rfl rfl rfl) <| .no (gF rfl rfl rfl rfl) <| .op 0 rfl (pkTV rfl rfl rfl) <| .nilL _ ⟨.ptr rfl, cB rfl (mOrT (decide_eq_true c3)), trivial⟩)
        · by_cases c4 : a0.States > 4096
          · exact (.op 0 rfl (faP fa35_1 rfl) <| .op 0 rfl (ldP rfl sz3 ag3 rfl) <| .op 0 rfl (ltI rfl rfl) <| .op 0 rfl (mvV rfl) <| .op 0 (gT rfl rfl rfl (decide_eq_false c3)) (faP fa35_1 rfl) <| .op 0 (gT rfl rfl rfl (decide_eq_false c3)) (ldP rfl sz3 ag3 rfl) <| .op 0 (gT rfl rfl rfl (decide_eq_false c3)) (gtI rfl rfl) <| .op 0 rfl (pkFV rfl (decide_eq_false c3) rfl) <| .op 0 rfl (mvV rfl) <| .no (gF rfl rfl rfl (decide_eq_true c4)) <| .no (gF rfl rfl rfl (decide_eq_true c4)) <| .no (gF rfl rfl rfl (decide_eq_true c4)) <| .op 0 rfl (pkTV rfl (decide_eq_true c4) rfl) <| .op 0 rfl (mvV rfl) <| .no (gF rfl rfl rfl rfl) <| .no (gF rfl rfl rfl rfl) <| .no (gF rfl rfl rfl rfl) <| .op 0 rfl (pkTV rfl rfl rfl) <| .nilL _ ⟨.ptr rfl, cB rfl (mOrF (decide_eq_false c3) (mOrT (decide_eq_true c4))), trivial⟩)
          · by_cases c5 : a0.Symbols < 0
            · exact (.op 0 rfl (faP fa35_1 rfl) <| .op 0 rfl (ldP rfl sz3 ag3 rfl) <| .op 0 rfl (ltI rfl rfl) <| .op 0 rfl (mvV rfl) <| .op 0 (gT rfl rfl rfl (decide_eq_false c3)) (faP fa35_1 rfl) <| .op 0 (gT rfl rfl rfl (decide_eq_false c3)) (ldP rfl sz3 ag3 rfl) <| .op 0 (gT rfl rfl rfl (decide_eq_false c3)) (gtI rfl rfl) <| .op 0 rfl (pkFV rfl (decide_eq_false c3) rfl) <| .op 0 rfl (mvV rfl) <| .op 0 (gT rfl rfl rfl (decide_eq_false c4)) (faP fa35_2 rfl) <| .op 0 (gT rfl rfl rfl (decide_eq_false c4)) (ldP rfl sz3 ag3 rfl) <| .op 0 (gT rfl rfl rfl (decide_eq_false c4)) (ltI rfl rfl) <| .op 0 rfl (pkFV rfl (decide_eq_false c4) rfl) <| .op 0 rfl (mvV rfl) <| .no (gF rfl rfl rfl (decide_eq_true c5)) <| .no (gF rfl rfl rfl (decide_eq_true c5)) <| .no (gF rfl rfl rfl (decide_eq_true c5)) <| .op 0 rfl (pkTV rfl (decide_eq_true c5) rfl) <| .nilL _ ⟨.ptr rfl, cB rfl (mOrF (decide_eq_false c3) (mOrF (decide_eq_false c4) (mOrT (decide_eq_true c5)))), trivial⟩)
            · exact (.op 0 rfl (faP fa35_1 rfl) <| .op 0 rfl (ldP rfl sz3 ag3 rfl) <| .op 0 rfl (ltI rfl rfl) <| .op 0 rfl (mvV rfl) <| .op 0 (gT rfl rfl rfl (decide_eq_false c3)) (faP fa35_1 rfl) <| .op 0 (gT rfl rfl rfl (decide_eq_false c3)) (ldP rfl sz3 ag3 rfl) <| .op 0 (gT rfl rfl rfl (decide_eq_false c3)) (gtI rfl rfl) <| .op 0 rfl (pkFV rfl (decide_eq_false c3) rfl) <| .op 0 rfl (mvV rfl) <| .op 0 (gT rfl rfl rfl (decide_eq_false c4)) (faP fa35_2 rfl) <| .op 0 (gT rfl rfl rfl (decide_eq_false c4)) (ldP rfl sz3 ag3 rfl) <| .op 0 (gT rfl rfl rfl (decide_eq_false c4)) (ltI rfl rfl) <| .op 0 rfl (pkFV rfl (decide_eq_false c4) rfl) <| .op 0 rfl (mvV rfl) <| .op 0 (gT rfl rfl rfl (decide_eq_false c5)) (faP fa35_2 rfl) <| .op 0 (gT rfl rfl rfl (decide_eq_false c5)) (ldP rfl sz3 ag3 rfl) <| .op 0 (gT rfl rfl rfl (decide_eq_false c5)) (gtI rfl rfl) <| .op 0 rfl (pkFV rfl (decide_eq_false c5) rfl) <| .nilL _ ⟨.ptr rfl, cB rfl (mOrF (decide_eq_false c3) (mOrF (decide_eq_false c4) (mOrF (decide_eq_false c5) rfl))), trivial⟩)
      by_cases c6 : ((decide (a0.States < 0)) || ((decide (a0.States > 4096)) || ((decide (a0.Symbols < 0)) || (decide (a0.Symbols > 4096))))) = true
      · rw [if_pos c6] at h
        refine .condT rfl c6 ?_
        refine .seq ?_
        refine .reg0 rfl (.op 0 rfl (asV rfl) <| .nil0) ?_
        replace h := h.symm
        subst h
        refine .keepL [] [(2, .val (.int .i64 100))] [] (by decide) (by decide) ⟨.free rfl rfl, trivial⟩ trivial ?_
        exact .ret rfl
      · rw [if_neg c6] at h
        refine .condF rfl (Bool.eq_false_iff.mpr c6) ?_
        refine .skip ?_
        refine .seq ?_
        refine .seq ?_
        refine .reg0 rfl (.op 0 rfl (asV rfl) <| .nil0) ?_
        refine .block ?_
        refine .keepL [0] [(1, .ptr 0 1 7 0 0), (4, .val (.int .i64 0))] [⟨7, [(TAuto.lit a0)], 0, none⟩] (by decide) (by decide) ⟨.ptr rfl, .free rfl rfl, trivial⟩ ⟨⟨_, rfl, bcBox (all2_free rfl)⟩, trivial⟩ ?_
        obtain ⟨o1, hL1, h⟩ := h
        refine .loopB (r10_Check.b1 a0) (fun x1 => listEnv [(1, .ptr 0 1 7 0 0), (4, .val (.int .i64 x1))]) (fun x1 => [⟨7, [(TAuto.lit a0)], 0, none⟩]) (fun _ => listEnv [(1, .ptr 0 1 7 0 0)]) (fun _ => [⟨7, [(TAuto.lit a0)], 0, none⟩]) hL1 (fun r_ => r = r_) ?_ ?_ ?_
        · rintro ⟨⟩ rfl
          try dsimp only [Fin.on] at h
          refine .seq ?_
          refine .seq ?_
          refine .reg0 rfl (.op 0 rfl (asV rfl) <| .nil0) ?_
          refine .block ?_
          refine .keepL [0] [(1, .ptr 0 1 7 0 0), (5, .val (.int .i64 0))] [⟨7, [(TAuto.lit a0)], 0, none⟩] (by decide) (by decide) ⟨.ptr rfl, .free rfl rfl, trivial⟩ ⟨⟨_, rfl, bcBox (all2_free rfl)⟩, trivial⟩ ?_
          obtain ⟨o2, hL2, h⟩ := h
          refine .loopB (r10_Check.b2 a0) (fun x2 => listEnv [(1, .ptr 0 1 7 0 0), (5, .val (.int .i64 x2))]) (fun x2 => [⟨7, [(TAuto.lit a0)], 0, none⟩]) (fun _ => listEnv [(1, .ptr 0 1 7 0 0)]) (fun _ => [⟨7, [(TAuto.lit a0)], 0, none⟩]) hL2 (fun r_ => r = r_) ?_ ?_ ?_
          · rintro ⟨⟩ rfl
            try dsimp only [Fin.on] at h
            refine .seq ?_
            refine .seq ?_
            refine .reg0 rfl (.op 0 rfl (asV rfl) <| .nil0) ?_
            refine .block ?_
            refine .keepL [0] [(1, .ptr 0 1 7 0 0), (7, .val (.int .i64 0))] [⟨7, [(TAuto.lit a0)], 0, none⟩] (by decide) (by decide) ⟨.ptr rfl, .free rfl rfl, trivial⟩ ⟨⟨_, rfl, bcBox (all2_free rfl)⟩, trivial⟩ ?_
            obtain ⟨o3, hL3, h⟩ := h
            refine .loopB (r10_Check.b3 a0) (fun x3 => listEnv [(1, .ptr 0 1 7 0 0), (7, .val (.int .i64 x3))]) (fun x3 => [⟨7, [(TAuto.lit a0)], 0, none⟩]) (fun _ => listEnv []) (fun _ => []) hL3 (fun r_ => r = r_) ?_ ?_ ?_
            · rintro ⟨⟩ rfl
              try dsimp only [Fin.on] at h
              refine .seq ?_
              refine .reg0 rfl (.op 0 rfl (asV rfl) <| .nil0) ?_
              replace h := h.symm
              subst h
              refine .keepL [] [(2, .val (.int .i64 0))] [] (by decide) (by decide) ⟨.free rfl rfl, trivial⟩ trivial ?_
              exact .ret rfl
            · rintro r_ rfl
              exact h
            · rintro x3 z3 h hn3 hx3 hr3
              dsimp only [r10_Check.b3] at h
              refine .seq ?_
              refine .seq ?_
              refine .reg0 rfl (.op 0 rfl (mvV rfl) <| .op 0 rfl (faP fa35_4 rfl) <| .op 0 rfl (ldP rfl sz33 ag33 rfl) <| .op 0 rfl (lnR (l := a0.Trans) sl33 rfl) <| .op 0 rfl (ltI rfl rfl) <| .nil0) ?_
              by_cases c38 : x3 < (a0.Trans.length : Int)
              · rw [if_pos c38] at h
                refine .condT rfl (decide_eq_true c38) ?_
                refine .skip ?_
                refine .seq ?_
                refine .block ?_
                refine .seq ?_
                obtain ⟨g47_5, h⟩ := h
                obtain ⟨t47_8, g47_8, h⟩ := h
                refine .reg1 (e1 := listEnv [(1, .ptr 0 1 7 0 0), (7, .val (.int .i64 x3)), (121, .val (.bool (t47_8 != 0)))]) (H1 := [⟨7, [(TAuto.lit a0)], 0, none⟩]) rfl ?_ ?_
                · exact .drawM [(9, 121, .val (.bool (t47_8 != 0))), (8, 120, .val (.int .i64 t47_8)), (7, 119, .agg (TWeight.lit ((rdl a0.Trans x3).W))), (6, 118, .cptr (TTrans.lit (rdl a0.Trans x3)) 3), (5, 117, .cptr (TTrans.lit (rdl a0.Trans x3)) 0), (4, 116, .val (.int .i64 x3)), (3, 115, .rows (a0.Trans.map TTrans.cells)), (2, 114, .ptr 0 1 7 0 6), (1, 113, .agg (TSpace.lit a0.Space)), (0, 112, .ptr 0 1 7 0 0)] [] [[], [0], [], [2], [], [3, 2, 4], [5, 3, 2, 4], [6, 5, 3, 2, 4], [1, 0, 7, 6, 5, 3, 2, 4], [8, 1, 0, 7, 6, 5, 3, 2, 4]] (by rfl) (by rfl) (by rfl) (by exact ⟨fun S hS hD hn => .one 0 hS hD hn rfl rfl (faP fa35_0 rfl) rfl rfl rfl, fun S hS hD hn => .one 0 hS hD hn rfl rfl (ldG rfl sz25 ag25 rfl) rfl rfl rfl, fun S hS hD hn => .one 0 hS hD hn rfl rfl (faP fa35_4 rfl) rfl rfl rfl, fun S hS hD hn => .one 0 hS hD hn rfl rfl (ldP rfl sz33 ag33 rfl) rfl rfl rfl, fun S hS hD hn => .one 0 hS hD hn rfl rfl (mvV rfl) rfl rfl rfl, fun S hS hD hn => .one 0 hS hD hn rfl rfl (ixR (l := a0.Trans) (lit := TTrans.lit) sl33 rfl rfl (fun _ => rfl) g47_5.1 g47_5.2) rfl rfl rfl, fun S hS hD hn => .one 0 hS hD hn rfl rfl (faC fa59_3 rfl) rfl rfl rfl, fun S hS hD hn => .one 0 hS hD hn rfl rfl (ldCG rfl sz48 ag48 rfl) rfl rfl rfl, fun S hS hD hn => .oneI hS hD hn rfl rfl (callee_of rfl go38 rfl) (.pure rfl rfl (r05_Check.D g47_8)) rfl rfl rfl, fun S hS hD hn => .one 0 hS hD hn rfl rfl (neI rfl rfl) rfl rfl rfl, trivial⟩) _ (by exact ⟨.ptr rfl, .free rfl rfl, .free rfl rfl, trivial⟩) (by rfl)
                by_cases c39 : t47_8 = 0
                · rw [if_pos c39] at h
                  refine .condF rfl (bne_eq_false_iff_eq.mpr c39) ?_
                  refine .skip ?_
                  refine .inBlock ?_
                  refine .reg0 rfl (.op 0 rfl (mvV rfl) <| .op 0 rfl (addI rfl rfl) <| .op 0 rfl (asV rfl) <| .nil0) ?_
                  refine .keepL [0] [(1, .ptr 0 1 7 0 0), (7, .val (.int .i64 (IntKind.i64.wrap (x3 + 1))))] [⟨7, [(TAuto.lit a0)], 0, none⟩] (by decide) (by decide) ⟨.ptr rfl, .free rfl rfl, trivial⟩ ⟨⟨_, rfl, bcBox (all2_free rfl)⟩, trivial⟩ ?_
                  exact hn3 _ h
                · rw [if_neg c39] at h
                  refine .condT rfl (bne_iff_ne.mpr c39) ?_
                  refine .seq ?_
                  refine .reg0 rfl (.op 0 rfl (asV rfl) <| .nil0) ?_
                  have q9 := hr3 _ h
                  replace q9 := q9.symm
                  subst q9
                  refine .keepL [] [(2, .val (.int .i64 51))] [] (by decide) (by decide) ⟨.free rfl rfl, trivial⟩ trivial ?_
                  exact .ret rfl
              · rw [if_neg c38] at h
                refine .condF rfl (decide_eq_false c38) ?_
                refine .exit rfl ?_
                refine .keepL [] [] [] (by decide) (by decide) trivial trivial ?_
                exact hx3 _ h
          · rintro r_ rfl
            exact h
          · rintro x2 z2 h hn2 hx2 hr2
            dsimp only [r10_Check.b2] at h
            refine .seq ?_
            refine .seq ?_
            refine .reg0 rfl (.op 0 rfl (mvV rfl) <| .op 0 rfl (faP fa35_4 rfl) <| .op 0 rfl (ldP rfl sz33 ag33 rfl) <| .op 0 rfl (lnR (l := a0.Trans) sl33 rfl) <| .op 0 rfl (ltI rfl rfl) <| .nil0) ?_
            by_cases c29 : x2 < (a0.Trans.length : Int)
            · rw [if_pos c29] at h
              refine .condT rfl (decide_eq_true c29) ?_
              refine .skip ?_
              refine .seq ?_
              refine .block ?_
              refine .seq ?_
              obtain ⟨g33_3, h⟩ := h
              refine .room 0 ?_
              refine .reg0 rfl (.op 0 rfl (faP fa35_4 rfl) <| .op 0 rfl (ldP rfl sz33 ag33 rfl) <| .op 0 rfl (mvV rfl) <| .op 0 rfl (ixR (l := a0.Trans) (lit := TTrans.lit) sl33 rfl rfl (fun _ => rfl) g33_3.1 g33_3.2) <| .op 0 rfl (ldCG rfl sz59 ag59 rfl) <| .op 1 rfl (alP (s := 9) ze59 ⟨rfl, by decide, rfl⟩ rfl) <| .op 0 rfl (stB (cs0 := [.val (.int .i64 0), .val (.int .i64 0), .val (.int .i64 0), .val (.bool false), .val (.int .i64 0), .val (.int .u64 0), .val (.slice none 0 0), .val (.slice none 0 0), .val (.slice none 0 0)]) (cs := (TTrans.lit (rdl a0.Trans x2))) (cs1 := (TTrans.lit (rdl a0.Trans x2))) rfl rfl sz59 rfl ⟨Nat.le_of_ble_eq_true rfl, rfl⟩ rfl) <| .nil0) ?_
              refine .seq ?_
              obtain ⟨t34_3, g34_3, h⟩ := h
              obtain ⟨t34_9, g34_9, h⟩ := h
              refine .reg0 (e1 := listEnv [(1, .ptr 0 1 7 0 0), (5, .val (.int .i64 x2)), (104, .val (.bool ((!t34_3) || ((!t34_9) || ((decide ((rdl a0.Trans x2).Sym < (-1))) || (decide ((rdl a0.Trans x2).Sym ≥ a0.Symbols)))))))]) (H1 := [⟨7, [(TAuto.lit a0)], 0, none⟩, ⟨9, [(TTrans.lit (rdl a0.Trans x2))], 0, none⟩]) rfl ?_ ?_
              · by_cases c30 : t34_3 = true
                · by_cases c31 : t34_9 = true
                  · by_cases c32 : (rdl a0.Trans x2).Sym < (-1)
                    · exact (.op 0 rfl (ldG rfl sz35 ag35 rfl) <| .op 0 rfl (faP fa59_0 rfl) <| .op 0 rfl (ldP rfl sz3 ag3 rfl) <| .callI rfl (callee_of rfl go39 rfl) (.pure rfl rfl (r10_State.D g34_3)) <| .op 0 rfl (notB rfl) <| .op 0 rfl (mvV rfl) <| .op 0 (gT rfl rfl rfl (bnotF c30)) (ldG rfl sz35 ag35 rfl) <| .op 0 (gT rfl rfl rfl (bnotF c30)) (faP fa59_2 rfl) <| .op 0 (gT rfl rfl rfl (bnotF c30)) (ldP rfl sz3 ag3 rfl) <| .callI (gT rfl rfl rfl (bnotF c30)) (callee_of rfl go39 rfl) (.pure rfl rfl (r10_State.D (g34_9 c30))) <| .op 0 (gT rfl rfl rfl (bnotF c30)) (notB rfl) <| .op 0 rfl (pkFV rfl (bnotF c30) rfl) <| .op 0 rfl (mvV rfl) <| .op 0 (gT rfl rfl rfl (bnotF c31)) (faP fa59_1 rfl) <| .op 0 (gT rfl rfl rfl (bnotF c31)) (ldP rfl sz3 ag3 rfl) <| .op 0 (gT rfl rfl rfl (bnotF c31)) (ltI rfl rfl) <| .op 0 rfl (pkFV rfl (bnotF c31) rfl) <| .op 0 rfl (mvV rfl) <| .no (gF rfl rfl rfl (decide_eq_true c32)) <| .no (gF rfl rfl rfl (decide_eq_true c32)) <| .no (gF rfl rfl rfl (decide_eq_true c32)) <| .no (gF rfl rfl rfl (decide_eq_true c32)) <| .no (gF rfl rfl rfl (decide_eq_true c32)) <| .op 0 rfl (pkTV rfl (decide_eq_true c32) rfl) <| .nilL _ ⟨.ptr rfl, .free rfl rfl, cB rfl (mOrF (bnotF c30) (mOrF (bnotF c31) (mOrT (decide_eq_true c32)))), trivial⟩)
                    · exact (.op 0 rfl (ldG rfl sz35 ag35 rfl) <| .op 0 rfl (faP fa59_0 rfl) <| .op 0 rfl (ldP rfl sz3 ag3 rfl) <| .callI rfl (callee_of rfl go39 rfl) (.pure rfl rfl (r10_State.D g34_3)) <| .op 0 rfl (notB rfl) <| .op 0 rfl (mvV rfl) <| .op 0 (gT rfl rfl rfl (bnotF c30)) (ldG rfl sz35 ag35 rfl) <| .op 0 (gT rfl rfl rfl (bnotF c30)) (faP fa59_2 rfl) <| .op 0 (gT rfl rfl rfl (bnotF c30)) (ldP rfl sz3 ag3 rfl) <| .callI (gT rfl rfl rfl (bnotF c30)) (callee_of rfl go39 rfl) (.pure rfl rfl (r10_State.D (g34_9 c30))) <| .op 0 (gT rfl rfl rfl (bnotF c30)) (notB rfl) <| .op 0 rfl (pkFV rfl (bnotF c30) rfl) <| .op 0 rfl (mvV rfl) <| .op 0 (gT rfl rfl rfl (bnotF c31)) (faP fa59_1 rfl) <| .op 0 (gT rfl rfl rfl (bnotF c31)) (ldP rfl sz3 ag3 rfl) <| .op 0 (gT rfl rfl rfl (bnotF c31)) (ltI rfl rfl) <| .op 0 rfl (pkFV rfl (bnotF c31) rfl) <| .op 0 rfl (mvV rfl) <| .op 0 (gT rfl rfl rfl (decide_eq_false c32)) (faP fa59_1 rfl) <| .op 0 (gT rfl rfl rfl (decide_eq_false c32)) (ldP rfl sz3 ag3 rfl) <| .op 0 (gT rfl rfl rfl (decide_eq_false c32)) (faP fa35_2 rfl) <| .op 0 (gT rfl rfl rfl (decide_eq_false c32)) (ldP rfl sz3 ag3 rfl) <| .op 0 (gT rfl rfl rfl (decide_eq_false c32)) (geI rfl rfl) <| .op 0 rfl (pkFV rfl (decide_eq_false c32) rfl) <| .nilL _ ⟨.ptr rfl, .free rfl rfl, cB rfl (mOrF (bnotF c30) (mOrF (bnotF c31) (mOrF (decide_eq_false c32) rfl))), trivial⟩)
                  · exact (.op 0 rfl (ldG rfl sz35 ag35 rfl) <| .op 0 rfl (faP fa59_0 rfl) <| .op 0 rfl (ldP rfl sz3 ag3 rfl) <| .callI rfl (callee_of rfl go39 rfl) (.pure rfl rfl (r10_State.D g34_3)) <| .op 0 rfl (notB rfl) <| .op 0 rfl (mvV rfl) <| .op 0 (gT rfl rfl rfl (bnotF c30)) (ldG rfl sz35 ag35 rfl) <| .op 0 (gT rfl rfl rfl (bnotF c30)) (faP fa59_2 rfl) <| .op 0 (gT rfl rfl rfl (bnotF c30)) (ldP rfl sz3 ag3 rfl) <| .callI (gT rfl rfl rfl (bnotF c30)) (callee_of rfl go39 rfl) (.pure rfl rfl (r10_State.D (g34_9 c30))) <| .op 0 (gT rfl rfl rfl (bnotF c30)) (notB rfl) <| .op 0 rfl (pkFV rfl (bnotF c30) rfl) <| .op 0 rfl (mvV rfl) <| .no (gF rfl rfl rfl (bnotT (Bool.eq_false_iff.mpr c31))) <| .no (gF rfl rfl rfl (bnotT (Bool.eq_false_iff.mpr c31))) <| .no (gF rfl rfl rfl (bnotT (Bool.eq_false_iff.mpr c31))) <| .op 0 rfl (pkTV rfl (bnotT (Bool.eq_false_iff.mpr c31)) rfl) <| .op 0 rfl (mvV rfl) <| .no (gF rfl rfl rfl rfl) <| .no (gF rfl rfl rfl rfl) <| .no (gF rfl rfl rfl rfl) <| .no (gF rfl rfl rfl rfl) <| .no (gF rfl rfl rfl rfl) <| .op 0 rfl (pkTV rfl rfl rfl) <| .nilL _ ⟨.ptr rfl, .free rfl rfl, cB rfl (mOrF (bnotF c30) (mOrT (bnotT (Bool.eq_false_iff.mpr c31)))), trivial⟩)
                · exact (.op 0 rfl (ldG rfl sz35 ag35 rfl) <| .op 0 rfl (faP fa59_0 rfl) <| .op 0 rfl (ldP rfl sz3 ag3 rfl) <| .callI rfl (callee_of rfl go39 rfl) (.pure rfl rfl (r10_State.D g34_3)) <| .op 0 rfl (notB rfl) <| .op 0 rfl (mvV rfl) <| .no (gF rfl rfl rfl (bnotT (Bool.eq_false_iff.mpr c30))) <| .no (gF rfl rfl rfl (bnotT (Bool.eq_false_iff.mpr c30))) <| .no (gF rfl rfl rfl (bnotT (Bool.eq_false_iff.mpr c30))) <| .no (gF rfl rfl rfl (bnotT (Bool.eq_false_iff.mpr c30))) <| .no (gF rfl rfl rfl (bnotT (Bool.eq_false_iff.mpr c30))) <| .op 0 rfl (pkTV rfl (bnotT (Bool.eq_false_iff.mpr c30)) rfl) <| .op 0 rfl (mvV rfl) <| .no (gF rfl rfl rfl rfl) <| .no (gF rfl rfl rfl rfl) <| .no (gF rfl rfl rfl rfl) <| .op 0 rfl (pkTV rfl rfl rfl) <| .op 0 rfl (mvV rfl) <| .no (gF rfl rfl rfl rfl) <| .no (gF rfl rfl rfl rfl) <| .no (gF rfl rfl rfl rfl) <| .no (gF rfl rfl rfl rfl) <| .no (gF rfl rfl rfl rfl) <| .op 0 rfl (pkTV rfl rfl rfl) <| .nilL _ ⟨.ptr rfl, .free rfl rfl, cB rfl (mOrT (bnotT (Bool.eq_false_iff.mpr c30))), trivial⟩)
              by_cases c33 : ((!t34_3) || ((!t34_9) || ((decide ((rdl a0.Trans x2).Sym < (-1))) || (decide ((rdl a0.Trans x2).Sym ≥ a0.Symbols))))) = true
              · rw [if_pos c33] at h
                refine .condT rfl c33 ?_
                refine .seq ?_
                refine .reg0 rfl (.op 0 rfl (asV rfl) <| .nil0) ?_
                have q6 := hr2 _ h
                replace q6 := q6.symm
                subst q6
                refine .keepL [] [(2, .val (.int .i64 100))] [] (by decide) (by decide) ⟨.free rfl rfl, trivial⟩ trivial ?_
                exact .ret rfl
              · rw [if_neg c33] at h
                refine .condF rfl (Bool.eq_false_iff.mpr c33) ?_
                refine .skip ?_
                refine .inBlock ?_
                refine .reg0 rfl (.op 0 rfl (mvV rfl) <| .op 0 rfl (addI rfl rfl) <| .op 0 rfl (asV rfl) <| .nil0) ?_
                refine .keepL [0] [(1, .ptr 0 1 7 0 0), (5, .val (.int .i64 (IntKind.i64.wrap (x2 + 1))))] [⟨7, [(TAuto.lit a0)], 0, none⟩] (by decide) (by decide) ⟨.ptr rfl, .free rfl rfl, trivial⟩ ⟨⟨_, rfl, bcBox (all2_free rfl)⟩, trivial⟩ ?_
                exact hn2 _ h
            · rw [if_neg c29] at h
              refine .condF rfl (decide_eq_false c29) ?_
              refine .exit rfl ?_
              refine .keepL [0] [(1, .ptr 0 1 7 0 0)] [⟨7, [(TAuto.lit a0)], 0, none⟩] (by decide) (by decide) ⟨.ptr rfl, trivial⟩ ⟨⟨_, rfl, bcBox (all2_free rfl)⟩, trivial⟩ ?_
              exact hx2 _ h
        · rintro r_ rfl
          exact h
        · rintro x1 z1 h hn1 hx1 hr1
          dsimp only [r10_Check.b1] at h
          refine .seq ?_
          refine .seq ?_
          refine .reg0 rfl (.op 0 rfl (mvV rfl) <| .op 0 rfl (faP fa35_3 rfl) <| .op 0 rfl (ldP rfl sz29 ag29 rfl) <| .op 0 rfl (lnR (l := a0.Final) sl29 rfl) <| .op 0 rfl (ltI rfl rfl) <| .nil0) ?_
          by_cases c15 : x1 < (a0.Final.length : Int)
          · rw [if_pos c15] at h
            refine .condT rfl (decide_eq_true c15) ?_
            refine .skip ?_
            refine .seq ?_
            refine .block ?_
            refine .seq ?_
            obtain ⟨g18_4, h⟩ := h
            obtain ⟨t18_6, g18_6, h⟩ := h
            obtain ⟨g18_15, h⟩ := h
            obtain ⟨g18_21, h⟩ := h
            refine .reg1 (e1 := listEnv [(1, .ptr 0 1 7 0 0), (4, .val (.int .i64 x1)), (68, .val (.bool ((!t18_6) || ((decide (x1 > 0)) && (decide ((rdl a0.Final x1) ≤ (rdl a0.Final (IntKind.i64.wrap (x1 - 1)))))))))]) (H1 := [⟨7, [(TAuto.lit a0)], 0, none⟩]) rfl ?_ ?_
            · by_cases c16 : t18_6 = true
              · by_cases c17 : x1 > 0
                · exact .drawM [(25, 68, .val (.bool (decide ((rdl a0.Final x1) ≤ (rdl a0.Final (IntKind.i64.wrap (x1 - 1))))))), (24, 67, .val (.bool (decide ((rdl a0.Final x1) ≤ (rdl a0.Final (IntKind.i64.wrap (x1 - 1))))))), (23, 66, .val (.bool (decide ((rdl a0.Final x1) ≤ (rdl a0.Final (IntKind.i64.wrap (x1 - 1))))))), (22, 65, .val (.int .i64 (rdl a0.Final (IntKind.i64.wrap (x1 - 1))))), (21, 64, .cptr ((cInt .i64) (rdl a0.Final (IntKind.i64.wrap (x1 - 1)))) 0), (20, 63, .val (.int .i64 (IntKind.i64.wrap (x1 - 1)))), (19, 62, .val (.int .i64 x1)), (18, 61, .rows (a0.Final.map (cInt .i64))), (17, 60, .ptr 0 1 7 0 5), (16, 59, .val (.int .i64 (rdl a0.Final x1))), (15, 58, .cptr ((cInt .i64) (rdl a0.Final x1)) 0), (14, 57, .val (.int .i64 x1)), (13, 56, .rows (a0.Final.map (cInt .i64))), (12, 55, .ptr 0 1 7 0 5), (11, 54, .val (.bool (decide (x1 > 0)))), (10, 53, .val (.bool (decide (x1 > 0)))), (9, 52, .val (.int .i64 x1)), (8, 51, .val (.bool (!t18_6))), (7, 50, .val (.bool (!t18_6))), (6, 49, .val (.bool t18_6)), (5, 48, .val (.int .i64 (rdl a0.Final x1))), (4, 47, .cptr ((cInt .i64) (rdl a0.Final x1)) 0), (3, 46, .val (.int .i64 x1)), (2, 45, .rows (a0.Final.map (cInt .i64))), (1, 44, .ptr 0 1 7 0 5), (0, 43, .agg (TAuto.lit a0))] [] [[], [], [1], [], [2, 1, 3], [4, 2, 1, 3], [0, 5, 4, 2, 1, 3], [6, 0, 5, 4, 2, 1, 3], [7, 6, 0, 5, 4, 2, 1, 3], [8, 7, 6, 0, 5, 4, 2, 1, 3], [9, 8, 7, 6, 0, 5, 4, 2, 1, 3], [10, 9, 8, 7, 6, 0, 5, 4, 2, 1, 3], [11, 10, 9, 8, 7, 6, 0, 5, 4, 2, 1, 3], [12, 11, 10, 9, 8, 7, 6, 0, 5, 4, 2, 1, 3], [11, 10, 9, 8, 7, 6, 0, 5, 4, 2, 1, 3], [13, 12, 11, 10, 9, 8, 7, 6, 0, 5, 4, 2, 1, 3, 14], [15, 13, 12, 11, 10, 9, 8, 7, 6, 0, 5, 4, 2, 1, 3, 14], [11, 10, 9, 8, 7, 6, 0, 5, 4, 2, 1, 3], [17, 11, 10, 9, 8, 7, 6, 0, 5, 4, 2, 1, 3], [11, 10, 9, 8, 7, 6, 0, 5, 4, 2, 1, 3], [19, 11, 10, 9, 8, 7, 6, 0, 5, 4, 2, 1, 3], [18, 17, 11, 10, 9, 8, 7, 6, 0, 5, 4, 2, 1, 3, 20, 19], [21, 18, 17, 11, 10, 9, 8, 7, 6, 0, 5, 4, 2, 1, 3, 20, 19], [16, 15, 13, 12, 11, 10, 9, 8, 7, 6, 0, 5, 4, 2, 1, 3, 14, 22, 21, 18, 17, 20, 19], [11, 10, 9, 8, 7, 6, 0, 5, 4, 2, 1, 3, 23, 16, 15, 13, 12, 14, 22, 21, 18, 17, 20, 19], [8, 7, 6, 0, 5, 4, 2, 1, 3, 24, 11, 10, 9, 23, 16, 15, 13, 12, 14, 22, 21, 18, 17, 20, 19]] (by rfl) (by rfl) (by rfl) (by exact ⟨fun S hS hD hn => .one 0 hS hD hn rfl rfl (ldG rfl sz35 ag35 rfl) rfl rfl rfl, fun S hS hD hn => .one 0 hS hD hn rfl rfl (faP fa35_3 rfl) rfl rfl rfl, fun S hS hD hn => .one 0 hS hD hn rfl rfl (ldP rfl sz29 ag29 rfl) rfl rfl rfl, fun S hS hD hn => .one 0 hS hD hn rfl rfl (mvV rfl) rfl rfl rfl, fun S hS hD hn => .one 0 hS hD hn rfl rfl (ixR (l := a0.Final) (lit := (cInt .i64)) sl29 rfl rfl (fun _ => rfl) g18_4.1 g18_4.2) rfl rfl rfl, fun S hS hD hn => .one 0 hS hD hn rfl rfl (ldC rfl sz3 ag3 rfl) rfl rfl rfl, fun S hS hD hn => .oneI hS hD hn rfl rfl (callee_of rfl go39 rfl) (.pure rfl rfl (r10_State.D g18_6)) rfl rfl rfl, fun S hS hD hn => .one 0 hS hD hn rfl rfl (notB rfl) rfl rfl rfl, fun S hS hD hn => .one 0 hS hD hn rfl rfl (mvV rfl) rfl rfl rfl, fun S hS hD hn => .one 0 hS hD hn (gT rfl rfl rfl (bnotF c16)) rfl (mvV rfl) rfl rfl rfl, fun S hS hD hn => .one 0 hS hD hn (gT rfl rfl rfl (bnotF c16)) rfl (gtI rfl rfl) rfl rfl rfl, fun S hS hD hn => .one 0 hS hD hn (gT rfl rfl rfl (bnotF c16)) rfl (mvV rfl) rfl rfl rfl, fun S hS hD hn => .one 0 hS hD hn (gT rfl rfl rfl (decide_eq_true c17)) rfl (faP fa35_3 rfl) rfl rfl rfl, fun S hS hD hn => .one 0 hS hD hn (gT rfl rfl rfl (decide_eq_true c17)) rfl (ldP rfl sz29 ag29 rfl) rfl rfl rfl, fun S hS hD hn => .one 0 hS hD hn (gT rfl rfl rfl (decide_eq_true c17)) rfl (mvV rfl) rfl rfl rfl, fun S hS hD hn => .one 0 hS hD hn (gT rfl rfl rfl (decide_eq_true c17)) rfl (ixR (l := a0.Final) (lit := (cInt .i64)) sl29 rfl rfl (fun _ => rfl) (g18_15 c16 c17).1 (g18_15 c16 c17).2) rfl rfl rfl, fun S hS hD hn => .one 0 hS hD hn (gT rfl rfl rfl (decide_eq_true c17)) rfl (ldC rfl sz3 ag3 rfl) rfl rfl rfl, fun S hS hD hn => .one 0 hS hD hn (gT rfl rfl rfl (decide_eq_true c17)) rfl (faP fa35_3 rfl) rfl rfl rfl, fun S hS hD hn => .one 0 hS hD hn (gT rfl rfl rfl (decide_eq_true c17)) rfl (ldP rfl sz29 ag29 rfl) rfl rfl rfl, fun S hS hD hn => .one 0 hS hD hn (gT rfl rfl rfl (decide_eq_true c17)) rfl (mvV rfl) rfl rfl rfl, fun S hS hD hn => .one 0 hS hD hn (gT rfl rfl rfl (decide_eq_true c17)) rfl (subI rfl rfl) rfl rfl rfl, fun S hS hD hn => .one 0 hS hD hn (gT rfl rfl rfl (decide_eq_true c17)) rfl (ixR (l := a0.Final) (lit := (cInt .i64)) sl29 rfl rfl (fun _ => rfl) (g18_21 c16 c17).1 (g18_21 c16 c17).2) rfl rfl rfl, fun S hS hD hn => .one 0 hS hD hn (gT rfl rfl rfl (decide_eq_true c17)) rfl (ldC rfl sz3 ag3 rfl) rfl rfl rfl, fun S hS hD hn => .one 0 hS hD hn (gT rfl rfl rfl (decide_eq_true c17)) rfl (leI rfl rfl) rfl rfl rfl, fun S hS hD hn => .one 0 hS hD hn (gT rfl rfl rfl (bnotF c16)) rfl (pkTV rfl (decide_eq_true c17) rfl) rfl rfl rfl, fun S hS hD hn => .one 0 hS hD hn rfl rfl (pkFV rfl (bnotF c16) rfl) rfl rfl rfl, trivial⟩) _ (by exact ⟨.ptr rfl, .free rfl rfl, cB rfl (mOrF (bnotF c16) (mAndT (decide_eq_true c17) rfl)), trivial⟩) (by rfl)
                · exact .drawM [(25, 68, .val (.bool false)), (24, 67, .val (.bool false)), (23, 66, .val undef), (22, 65, .val undef), (21, 64, .val undef), (20, 63, .val undef), (19, 62, .val undef), (18, 61, .val undef), (17, 60, .val undef), (16, 59, .val undef), (15, 58, .val undef), (14, 57, .val undef), (13, 56, .val undef), (12, 55, .val undef), (11, 54, .val (.bool (decide (x1 > 0)))), (10, 53, .val (.bool (decide (x1 > 0)))), (9, 52, .val (.int .i64 x1)), (8, 51, .val (.bool (!t18_6))), (7, 50, .val (.bool (!t18_6))), (6, 49, .val (.bool t18_6)), (5, 48, .val (.int .i64 (rdl a0.Final x1))), (4, 47, .cptr ((cInt .i64) (rdl a0.Final x1)) 0), (3, 46, .val (.int .i64 x1)), (2, 45, .rows (a0.Final.map (cInt .i64))), (1, 44, .ptr 0 1 7 0 5), (0, 43, .agg (TAuto.lit a0))] [] [[], [], [1], [], [2, 1, 3], [4, 2, 1, 3], [0, 5, 4, 2, 1, 3], [6, 0, 5, 4, 2, 1, 3], [7, 6, 0, 5, 4, 2, 1, 3], [8, 7, 6, 0, 5, 4, 2, 1, 3], [9, 8, 7, 6, 0, 5, 4, 2, 1, 3], [10, 9, 8, 7, 6, 0, 5, 4, 2, 1, 3], [11, 10, 9, 8, 7, 6, 0, 5, 4, 2, 1, 3], [12, 11, 10, 9, 8, 7, 6, 0, 5, 4, 2, 1, 3], [11, 10, 9, 8, 7, 6, 0, 5, 4, 2, 1, 3], [13, 12, 11, 10, 9, 8, 7, 6, 0, 5, 4, 2, 1, 3, 14], [15, 13, 12, 11, 10, 9, 8, 7, 6, 0, 5, 4, 2, 1, 3, 14], [11, 10, 9, 8, 7, 6, 0, 5, 4, 2, 1, 3], [17, 11, 10, 9, 8, 7, 6, 0, 5, 4, 2, 1, 3], [11, 10, 9, 8, 7, 6, 0, 5, 4, 2, 1, 3], [19, 11, 10, 9, 8, 7, 6, 0, 5, 4, 2, 1, 3], [18, 17, 11, 10, 9, 8, 7, 6, 0, 5, 4, 2, 1, 3, 20, 19], [21, 18, 17, 11, 10, 9, 8, 7, 6, 0, 5, 4, 2, 1, 3, 20, 19], [16, 15, 13, 12, 11, 10, 9, 8, 7, 6, 0, 5, 4, 2, 1, 3, 14, 22, 21, 18, 17, 20, 19], [11, 10, 9, 8, 7, 6, 0, 5, 4, 2, 1, 3, 23, 16, 15, 13, 12, 14, 22, 21, 18, 17, 20, 19], [8, 7, 6, 0, 5, 4, 2, 1, 3, 24, 11, 10, 9, 23, 16, 15, 13, 12, 14, 22, 21, 18, 17, 20, 19]] (by rfl) (by rfl) (by rfl) (by exact ⟨fun S hS hD hn => .one 0 hS hD hn rfl rfl (ldG rfl sz35 ag35 rfl) rfl rfl rfl, fun S hS hD hn => .one 0 hS hD hn rfl rfl (faP fa35_3 rfl) rfl rfl rfl, fun S hS hD hn => .one 0 hS hD hn rfl rfl (ldP rfl sz29 ag29 rfl) rfl rfl rfl, fun S hS hD hn => .one 0 hS hD hn rfl rfl (mvV rfl) rfl rfl rfl, fun S hS hD hn => .one 0 hS hD hn rfl rfl (ixR (l := a0.Final) (lit := (cInt .i64)) sl29 rfl rfl (fun _ => rfl) g18_4.1 g18_4.2) rfl rfl rfl, fun S hS hD hn => .one 0 hS hD hn rfl rfl (ldC rfl sz3 ag3 rfl) rfl rfl rfl, fun S hS hD hn => .oneI hS hD hn rfl rfl (callee_of rfl go39 rfl) (.pure rfl rfl (r10_State.D g18_6)) rfl rfl rfl, fun S hS hD hn => .one 0 hS hD hn rfl rfl (notB rfl) rfl rfl rfl, fun S hS hD hn => .one 0 hS hD hn rfl rfl (mvV rfl) rfl rfl rfl, fun S hS hD hn => .one 0 hS hD hn (gT rfl rfl rfl (bnotF c16)) rfl (mvV rfl) rfl rfl rfl, fun S hS hD hn => .one 0 hS hD hn (gT rfl rfl rfl (bnotF c16)) rfl (gtI rfl rfl) rfl rfl rfl, fun S hS hD hn => .one 0 hS hD hn (gT rfl rfl rfl (bnotF c16)) rfl (mvV rfl) rfl rfl rfl, fun S hS hD hn => .oneNo hS hD (gF rfl rfl rfl (decide_eq_false c17)) rfl hn rfl rfl rfl, fun S hS hD hn => .oneNo hS hD (gF rfl rfl rfl (decide_eq_false c17)) rfl hn rfl rfl rfl, fun S hS hD hn => .oneNo hS hD (gF rfl rfl rfl (decide_eq_false c17)) rfl hn rfl rfl rfl, fun S hS hD hn => .oneNo hS hD (gF rfl rfl rfl (decide_eq_false c17)) rfl hn rfl rfl rfl, fun S hS hD hn => .oneNo hS hD (gF rfl rfl rfl (decide_eq_false c17)) rfl hn rfl rfl rfl, fun S hS hD hn => .oneNo hS hD (gF rfl rfl rfl (decide_eq_false c17)) rfl hn rfl rfl rfl, fun S hS hD hn => .oneNo hS hD (gF rfl rfl rfl (decide_eq_false c17)) rfl hn rfl rfl rfl, fun S hS hD hn => .oneNo hS hD (gF rfl rfl rfl (decide_eq_false c17)) rfl hn rfl rfl rfl, fun S hS hD hn => .oneNo hS hD (gF rfl rfl rfl (decide_eq_false c17)) rfl hn rfl rfl rfl, fun S hS hD hn => .oneNo hS hD (gF rfl rfl rfl (decide_eq_false c17)) rfl hn rfl rfl rfl, fun S hS hD hn => .oneNo hS hD (gF rfl rfl rfl (decide_eq_false c17)) rfl hn rfl rfl rfl, fun S hS hD hn => .oneNo hS hD (gF rfl rfl rfl (decide_eq_false c17)) rfl hn rfl rfl rfl, fun S hS hD hn => .one 0 hS hD hn (gT rfl rfl rfl (bnotF c16)) rfl (pkFV rfl (decide_eq_false c17) rfl) rfl rfl rfl, fun S hS hD hn => .one 0 hS hD hn rfl rfl (pkFV rfl (bnotF c16) rfl) rfl rfl rfl, trivial⟩) _ (by exact ⟨.ptr rfl, .free rfl rfl, cB rfl (mOrF (bnotF c16) (mAndF (decide_eq_false c17))), trivial⟩) (by rfl)
              · exact .drawM [(25, 68, .val (.bool true)), (24, 67, .val undef), (23, 66, .val undef), (22, 65, .val undef), (21, 64, .val undef), (20, 63, .val undef), (19, 62, .val undef), (18, 61, .val undef), (17, 60, .val undef), (16, 59, .val undef), (15, 58, .val undef), (14, 57, .val undef), (13, 56, .val undef), (12, 55, .val undef), (11, 54, .val undef), (10, 53, .val undef), (9, 52, .val undef), (8, 51, .val (.bool (!t18_6))), (7, 50, .val (.bool (!t18_6))), (6, 49, .val (.bool t18_6)), (5, 48, .val (.int .i64 (rdl a0.Final x1))), (4, 47, .cptr ((cInt .i64) (rdl a0.Final x1)) 0), (3, 46, .val (.int .i64 x1)), (2, 45, .rows (a0.Final.map (cInt .i64))), (1, 44, .ptr 0 1 7 0 5), (0, 43, .agg (TAuto.lit a0))] [] [[], [], [1], [], [2, 1, 3], [4, 2, 1, 3], [0, 5, 4, 2, 1, 3], [6, 0, 5, 4, 2, 1, 3], [7, 6, 0, 5, 4, 2, 1, 3], [8, 7, 6, 0, 5, 4, 2, 1, 3], [9, 8, 7, 6, 0, 5, 4, 2, 1, 3], [10, 9, 8, 7, 6, 0, 5, 4, 2, 1, 3], [11, 10, 9, 8, 7, 6, 0, 5, 4, 2, 1, 3], [12, 11, 10, 9, 8, 7, 6, 0, 5, 4, 2, 1, 3], [11, 10, 9, 8, 7, 6, 0, 5, 4, 2, 1, 3], [13, 12, 11, 10, 9, 8, 7, 6, 0, 5, 4, 2, 1, 3, 14], [15, 13, 12, 11, 10, 9, 8, 7, 6, 0, 5, 4, 2, 1, 3, 14], [11, 10, 9, 8, 7, 6, 0, 5, 4, 2, 1, 3], [17, 11, 10, 9, 8, 7, 6, 0, 5, 4, 2, 1, 3], [11, 10, 9, 8, 7, 6, 0, 5, 4, 2, 1, 3], [19, 11, 10, 9, 8, 7, 6, 0, 5, 4, 2, 1, 3], [18, 17, 11, 10, 9, 8, 7, 6, 0, 5, 4, 2, 1, 3, 20, 19], [21, 18, 17, 11, 10, 9, 8, 7, 6, 0, 5, 4, 2, 1, 3, 20, 19], [16, 15, 13, 12, 11, 10, 9, 8, 7, 6, 0, 5, 4, 2, 1, 3, 14, 22, 21, 18, 17, 20, 19], [11, 10, 9, 8, 7, 6, 0, 5, 4, 2, 1, 3, 23, 16, 15, 13, 12, 14, 22, 21, 18, 17, 20, 19], [8, 7, 6, 0, 5, 4, 2, 1, 3, 24, 11, 10, 9, 23, 16, 15, 13, 12, 14, 22, 21, 18, 17, 20, 19]] (by rfl) (by rfl) (by rfl) (by exact ⟨fun S hS hD hn => .one 0 hS hD hn rfl rfl (ldG rfl sz35 ag35 rfl) rfl rfl rfl, fun S hS hD hn => .one 0 hS hD hn rfl rfl (faP fa35_3 rfl) rfl rfl rfl, fun S hS hD hn => .one 0 hS hD hn rfl rfl (ldP rfl sz29 ag29 rfl) rfl rfl rfl, fun S hS hD hn => .one 0 hS hD hn rfl rfl (mvV rfl) rfl rfl rfl, fun S hS hD hn => .one 0 hS hD hn rfl rfl (ixR (l := a0.Final) (lit := (cInt .i64)) sl29 rfl rfl (fun _ => rfl) g18_4.1 g18_4.2) rfl rfl rfl, fun S hS hD hn => .one 0 hS hD hn rfl rfl (ldC rfl sz3 ag3 rfl) rfl rfl rfl, fun S hS hD hn => .oneI hS hD hn rfl rfl (callee_of rfl go39 rfl) (.pure rfl rfl (r10_State.D g18_6)) rfl rfl rfl, fun S hS hD hn => .one 0 hS hD hn rfl rfl (notB rfl) rfl rfl rfl, fun S hS hD hn => .one 0 hS hD hn rfl rfl (mvV rfl) rfl rfl rfl, fun S hS hD hn => .oneNo hS hD (gF rfl rfl rfl (bnotT (Bool.eq_false_iff.mpr c16))) rfl hn rfl rfl rfl, fun S hS hD hn => .oneNo hS hD (gF rfl rfl rfl (bnotT (Bool.eq_false_iff.mpr c16))) rfl hn rfl rfl rfl, fun S hS hD hn => .oneNo hS hD (gF rfl rfl rfl (bnotT (Bool.eq_false_iff.mpr c16))) rfl hn rfl rfl rfl, fun S hS hD hn => .oneNo hS hD (gN rfl rfl rfl) rfl hn rfl rfl rfl, fun S hS hD hn => .oneNo hS hD (gN rfl rfl rfl) rfl hn rfl rfl rfl, fun S hS hD hn => .oneNo hS hD (gN rfl rfl rfl) rfl hn rfl rfl rfl, fun S hS hD hn => .oneNo hS hD (gN rfl rfl rfl) rfl hn rfl rfl rfl, fun S hS hD hn => .oneNo hS hD (gN rfl rfl rfl) rfl hn rfl rfl rfl, fun S hS hD hn => .oneNo hS hD (gN rfl rfl rfl) rfl hn rfl rfl rfl, fun S hS hD hn => .oneNo hS hD (gN rfl rfl rfl) rfl hn rfl rfl rfl, fun S hS hD hn => .oneNo hS hD (gN rfl rfl rfl) rfl hn rfl rfl rfl, fun S hS hD hn => .oneNo hS hD (gN rfl rfl rfl) rfl hn rfl rfl rfl, fun S hS hD hn => .oneNo hS hD (gN rfl rfl rfl) rfl hn rfl rfl rfl, fun S hS hD hn => .oneNo hS hD (gN rfl rfl rfl) rfl hn rfl rfl rfl, fun S hS hD hn => .oneNo hS hD (gN rfl rfl rfl) rfl hn rfl rfl rfl, fun S hS hD hn => .oneNo hS hD (gF rfl rfl rfl (bnotT (Bool.eq_false_iff.mpr c16))) rfl hn rfl rfl rfl, fun S hS hD hn => .one 0 hS hD hn rfl rfl (pkTV rfl (bnotT (Bool.eq_false_iff.mpr c16)) rfl) rfl rfl rfl, trivial⟩) _ (by exact ⟨.ptr rfl, .free rfl rfl, cB rfl (mOrT (bnotT (Bool.eq_false_iff.mpr c16))), trivial⟩) (by rfl)
            by_cases c18 : ((!t18_6) || ((decide (x1 > 0)) && (decide ((rdl a0.Final x1) ≤ (rdl a0.Final (IntKind.i64.wrap (x1 - 1))))))) = true
            · rw [if_pos c18] at h
              refine .condT rfl c18 ?_
              refine .seq ?_
              refine .reg0 rfl (.op 0 rfl (asV rfl) <| .nil0) ?_
              have q3 := hr1 _ h
              replace q3 := q3.symm
              subst q3
              refine .keepL [] [(2, .val (.int .i64 100))] [] (by decide) (by decide) ⟨.free rfl rfl, trivial⟩ trivial ?_
              exact .ret rfl
            · rw [if_neg c18] at h
              refine .condF rfl (Bool.eq_false_iff.mpr c18) ?_
              refine .skip ?_
              refine .inBlock ?_
              refine .reg0 rfl (.op 0 rfl (mvV rfl) <| .op 0 rfl (addI rfl rfl) <| .op 0 rfl (asV rfl) <| .nil0) ?_
              refine .keepL [0] [(1, .ptr 0 1 7 0 0), (4, .val (.int .i64 (IntKind.i64.wrap (x1 + 1))))] [⟨7, [(TAuto.lit a0)], 0, none⟩] (by decide) (by decide) ⟨.ptr rfl, .free rfl rfl, trivial⟩ ⟨⟨_, rfl, bcBox (all2_free rfl)⟩, trivial⟩ ?_
              exact hn1 _ h
          · rw [if_neg c15] at h
            refine .condF rfl (decide_eq_false c15) ?_
            refine .exit rfl ?_
            refine .keepL [0] [(1, .ptr 0 1 7 0 0)] [⟨7, [(TAuto.lit a0)], 0, none⟩] (by decide) (by decide) ⟨.ptr rfl, trivial⟩ ⟨⟨_, rfl, bcBox (all2_free rfl)⟩, trivial⟩ ?_
            exact hx1 _ h
  · rw [if_neg c1] at h
    refine .condT rfl (bne_iff_ne.mpr c1) ?_
    refine .seq ?_
    refine .reg0 rfl (.op 0 rfl (mvV rfl) <| .op 0 rfl (asV rfl) <| .nil0) ?_
    replace h := h.symm
    subst h
    refine .keepL [] [(2, .val (.int .i64 t2_2))] [] (by decide) (by decide) ⟨.free rfl rfl, trivial⟩ trivial ?_
    exact .ret rfl
end Go.RM.Try
