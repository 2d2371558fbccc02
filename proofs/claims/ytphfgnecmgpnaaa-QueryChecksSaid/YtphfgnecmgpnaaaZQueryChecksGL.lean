/- GL, for the statement QueryChecks: what it needs, no more. -/
import Derived.Test.YtphfgnecmgpnaaaZQueryChecksGK
set_option linter.unusedVariables false
set_option maxRecDepth 8000
set_option maxHeartbeats 4000000
namespace Go.RM.Try
open Go.RM Go.Proofs
variable {X : FuncId → List PV → Heap → PV → Heap → Prop}
def wfa_Check.b1 (a0 : TAuto) : (Int × Int) → Rnd ((Int × Int)) Unit Int → Prop := fun (x1, x2) z1 => if x2 < (a0.Final.length : Int) then (((InR x2 a0.Final.length)) ∧ ∃ t25_2 : Bool, (wfa_Check_1.f (rdl a0.Final x2) a0 t25_2) ∧ if ((!t25_2) || (decide ((rdl a0.Final x2) ≤ x1))) = true then (z1 = .ret 100) else (z1 = .next ((rdl a0.Final x2), (IntKind.i64.wrap (x2 + 1))))) else (z1 = .exit ())
def wfa_Check.b2 (a0 : TAuto) : Int → Rnd Int Unit Int → Prop := fun x3 z2 => if x3 < (a0.Trans.length : Int) then (((InR x3 a0.Trans.length)) ∧ ∃ t42_3 : Bool, (wfa_Check_1.f ((rdl a0.Trans x3).From) a0 t42_3) ∧ ∃ t42_9 : Bool, ((t42_3 = true) → wfa_Check_1.f ((rdl a0.Trans x3).To) a0 t42_9) ∧ if ((!t42_3) || ((!t42_9) || ((decide ((rdl a0.Trans x3).Sym < (-1))) || (decide ((rdl a0.Trans x3).Sym ≥ a0.Symbols))))) = true then (z2 = .ret 100) else (z2 = .next (IntKind.i64.wrap (x3 + 1)))) else (z2 = .exit ())
def wfa_Check.b3 (a0 : TAuto) : Int → Rnd Int Unit Int → Prop := fun x4 z3 => if x4 < (a0.Trans.length : Int) then (((InR x4 a0.Trans.length)) ∧ ∃ t58_4 : Int, (weight_Check.f a0.Space ((rdl a0.Trans x4).W) t58_4) ∧ if t58_4 = 0 then (z3 = .next (IntKind.i64.wrap (x4 + 1))) else (z3 = .ret 51)) else (z3 = .exit ())
def wfa_Check.f (a0 : TAuto) (r : Int) : Prop :=
  ∃ t2_2 : Int, (weight_Space.f a0.Space t2_2) ∧ if t2_2 = 0 then (if (a0.Trans.length : Int) > 65536 then (r = 3) else (if ((decide (a0.States < 0)) || ((decide (a0.States > 4096)) || ((decide (a0.Symbols < 0)) || (decide (a0.Symbols > 4096))))) = true then (r = 100) else (∃ o1 : Fin Unit Int, Loop (wfa_Check.b1 a0) ((-1), 0) o1 ∧ o1.on (fun _ => ∃ o2 : Fin Unit Int, Loop (wfa_Check.b2 a0) 0 o2 ∧ o2.on (fun _ => ∃ o3 : Fin Unit Int, Loop (wfa_Check.b3 a0) 0 o3 ∧ o3.on (fun _ => r = 0) (fun r_ => r = r_)) (fun r_ => r = r_)) (fun r_ => r = r_)))) else (r = t2_2)
theorem wfa_Check.D {a0 : TAuto} {r : Int} (h : wfa_Check.f a0 r) : D Try.prog X (.callH 32 [.agg (TAuto.lit a0)] [] (.val (.int .i64 r)) []) := by
  unfold wfa_Check.f at h
  refine .enter 105 0 fn32 rfl rfl rfl ?_
  refine .seq ?_
  refine .room 0 ?_
  refine .reg0 rfl (.op 0 rfl (bxP (s := 7) (cs := (TAuto.lit a0)) rfl ⟨rfl, by decide, rfl⟩ rfl) <| .op 0 rfl (asV rfl) <| .nil0) ?_
  refine .seq ?_
  refine .seq ?_
  obtain ⟨t2_2, g2_2, h⟩ := h
  refine .reg0 rfl (.op 0 rfl (faP fa35_0 rfl) <| .op 0 rfl (ldG rfl sz25 ag25 rfl) <| .callI rfl (callee_of rfl go45 rfl) (.pure rfl rfl (weight_Space.D g2_2)) <| .op 0 rfl (asV rfl) <| .nil0) ?_
  refine .seq ?_
  refine .reg0 rfl (.op 0 rfl (mvV rfl) <| .op 0 rfl (neI rfl rfl) <| .nil0) ?_
  by_cases c1 : t2_2 = 0
  · rw [if_pos c1] at h
    refine .condF rfl (bne_eq_false_iff_eq.mpr c1) ?_
    refine .skip ?_
    refine .seq ?_
    refine .seq ?_
    refine .reg0 rfl (.op 0 rfl (faP fa35_4 rfl) <| .op 0 rfl (ldP rfl sz33 ag33 rfl) <| .op 0 rfl (lnR (l := a0.Trans) sl33 rfl) <| .op 0 rfl (gtI rfl rfl) <| .nil0) ?_
    by_cases c2 : (a0.Trans.length : Int) > 65536
    · rw [if_pos c2] at h
      refine .condT rfl (decide_eq_true c2) ?_
      refine .seq ?_
      refine .reg0 rfl (.op 0 rfl (asV rfl) <| .nil0) ?_
      replace h := h.symm
      subst h
      refine .keepL [] [(2, .val (.int .i64 3))] [] (by decide) (by decide) ⟨.free rfl rfl, trivial⟩ trivial ?_
      exact .ret rfl
    · rw [if_neg c2] at h
      refine .condF rfl (decide_eq_false c2) ?_
      refine .skip ?_
      refine .seq ?_
      refine .seq ?_
      refine .reg0 (e1 := listEnv [(1, .ptr 0 1 7 0 0), (39, .val (.bool ((decide (a0.States < 0)) || ((decide (a0.States > 4096)) || ((decide (a0.Symbols < 0)) || (decide (a0.Symbols > 4096)))))))]) (H1 := [⟨7, [(TAuto.lit a0)], 0, none⟩]) rfl ?_ ?_
      · by_cases c3 : a0.States < 0
        · exact (.op 0 rfl (faP fa35_1 rfl) <| .op 0 rfl (ldP rfl sz3 ag3 rfl) <| .op 0 rfl (ltI rfl rfl) <| .op 0 rfl (mvV rfl) <| .no (gF rfl rfl rfl (decide_eq_true c3)) <| .no (gF rfl rfl rfl (decide_eq_true c3)) <| .no (gF rfl rfl rfl (decide_eq_true c3)) <| .op 0 rfl (pkTV rfl (decide_eq_true c3) rfl) <| .op 0 rfl (mvV rfl) <| .no (gF rfl rfl rfl rfl) <| .no (gF rfl rfl rfl rfl) <| .no (gF rfl rfl rfl rfl) <| .op 0 rfl (pkTV rfl rfl rfl) <| .op 0 rfl (mvV rfl) <| .no (gF rfl rfl rfl rfl) <| .no (gF rfl rfl rfl rfl) <| .no (gF rfl rfl rfl rfl) <| .op 0 rfl (pkTV rfl rfl rfl) <| .nilL _ ⟨.ptr rfl, cB rfl (mOrT (decide_eq_true c3)), trivial⟩)
        · by_cases c4 : a0.States > 4096
          · exact (.op 0 rfl (faP fa35_1 rfl) <| .op 0 rfl (ldP rfl sz3 ag3 rfl) <| .op 0 rfl (ltI rfl rfl) <| .op 0 rfl (mvV rfl) <| .op 0 (gT rfl rfl rfl (decide_eq_false c3)) (faP fa35_1 rfl) <| .op 0 (gT rfl rfl rfl (decide_eq_false c3)) (ldP rfl sz3 ag3 rfl) <| .op 0 (gT rfl rfl rfl (decide_eq_false c3)) (gtI rfl rfl) <| .op 0 rfl (pkFV rfl (decide_eq_false c3) rfl) <| .op 0 rfl (mvV rfl) <| .no (gF rfl rfl rfl (decide_eq_true c4)) <| .no (gF rfl rfl rfl (decide_eq_true c4)) <| .no (gF rfl rfl rfl (decide_eq_true c4)) <| .op 0 rfl (pkTV rfl (decide_eq_true c4) rfl) <| .op 0 rfl (mvV rfl) <| .no (gF rfl rfl rfl rfl) <| .no (gF rfl rfl rfl rfl) <| .no (gF rfl rfl rfl rfl) <| .op 0 rfl (pkTV rfl rfl rfl) <| .nilL _ ⟨.ptr rfl, cB rfl (mOrF (decide_eq_false c3) (mOrT (decide_eq_true c4))), trivial⟩)
          · by_cases c5 : a0.Symbols < 0
            · exact (.op 0 rfl (faP fa35_1 rfl) <| .op 0 rfl (ldP rfl sz3 ag3 rfl) <| .op 0 rfl (ltI rfl rfl) <| .op 0 rfl (mvV rfl) <| .op 0 (gT rfl rfl rfl (decide_eq_false c3)) (faP fa35_1 rfl) <| .op 0 (gT rfl rfl rfl (decide_eq_false c3)) (ldP rfl sz3 ag3 rfl) <| .op 0 (gT rfl rfl rfl (decide_eq_false c3)) (gtI rfl rfl) <| .op 0 rfl (pkFV rfl (decide_eq_false c3) rfl) <| .op 0 rfl (mvV rfl) <| .op 0 (gT rfl rfl rfl (decide_eq_false c4)) (faP fa35_2 rfl) <| .op 0 (gT rfl rfl rfl (decide_eq_false c4)) (ldP rfl sz3 ag3 rfl) <| .op 0 (gT rfl rfl rfl (decide_eq_false c4)) (ltI rfl rfl) <| .op 0 rfl (pkFV rfl (decide_eq_false c4) rfl) <| .op 0 rfl (mvV rfl) <| .no (gF rfl rfl rfl (decide_eq_true c5)) <| .no (gF rfl rfl rfl (decide_eq_true c5)) <| .no (gF rfl rfl rfl (decide_eq_true c5)) <| .op 0 rfl (pkTV rfl (decide_eq_true c5) rfl) <| .nilL _ ⟨.ptr rfl, cB rfl (mOrF (decide_eq_false c3) (mOrF (decide_eq_false c4) (mOrT (decide_eq_true c5)))), trivial⟩)
            · exact (.op 0 rfl (faP fa35_1 rfl) <| .op 0 rfl (ldP rfl sz3 ag3 rfl) <| .op 0 rfl (ltI rfl rfl) <| .op 0 rfl (mvV rfl) <| .op 0 (gT rfl rfl rfl (decide_eq_false c3)) (faP fa35_1 rfl) <| .op 0 (gT rfl rfl rfl (decide_eq_false c3)) (ldP rfl sz3 ag3 rfl) <| .op 0 (gT rfl rfl rfl (decide_eq_false c3)) (gtI rfl rfl) <| .op 0 rfl (pkFV rfl (decide_eq_false c3) rfl) <| .op 0 rfl (mvV rfl) <| .op 0 (gT rfl rfl rfl (decide_eq_false c4)) (faP fa35_2 rfl) <| .op 0 (gT rfl rfl rfl (decide_eq_false c4)) (ldP rfl sz3 ag3 rfl) <| .op 0 (gT rfl rfl rfl (decide_eq_false c4)) (ltI rfl rfl) <| .op 0 rfl (pkFV rfl (decide_eq_false c4) rfl) <| .op 0 rfl (mvV rfl) <| .op 0 (gT rfl rfl rfl (decide_eq_false c5)) (faP fa35_2 rfl) <| .op 0 (gT rfl rfl rfl (decide_eq_false c5)) (ldP rfl sz3 ag3 rfl) <| .op 0 (gT rfl rfl rfl (decide_eq_false c5)) (gtI rfl rfl) <| .op 0 rfl (pkFV rfl (decide_eq_false c5) rfl) <| .nilL _ ⟨.ptr rfl, cB rfl (mOrF (decide_eq_false c3) (mOrF (decide_eq_false c4) (mOrF (decide_eq_false c5) rfl))), trivial⟩)
      by_cases c6 : ((decide (a0.States < 0)) || ((decide (a0.States > 4096)) || ((decide (a0.Symbols < 0)) || (decide (a0.Symbols > 4096))))) = true
      · rw [if_pos c6] at h
        refine .condT rfl c6 ?_
        refine .seq ?_
        refine .reg0 rfl (.op 0 rfl (asV rfl) <| .nil0) ?_
        replace h := h.symm
        subst h
        refine .keepL [] [(2, .val (.int .i64 100))] [] (by decide) (by decide) ⟨.free rfl rfl, trivial⟩ trivial ?_
        exact .ret rfl
      · rw [if_neg c6] at h
        refine .condF rfl (Bool.eq_false_iff.mpr c6) ?_
        refine .skip ?_
        refine .seq ?_
        refine .reg0 rfl (.op 0 rfl (mkF rfl) <| .op 0 rfl (asF rfl) <| .nil0) ?_
        refine .seq ?_
        refine .reg0 rfl (.op 0 rfl (asV rfl) <| .nil0) ?_
        refine .seq ?_
        refine .seq ?_
        refine .reg0 rfl (.op 0 rfl (faP fa35_3 rfl) <| .op 0 rfl (ldP rfl sz29 ag29 rfl) <| .op 0 rfl (lnR (l := a0.Final) sl29 rfl) <| .op 0 rfl (mvV rfl) <| .nil0) ?_
        refine .block ?_
        refine .keepL [0] [(1, .ptr 0 1 7 0 0), (4, .clo 50 [.ptr 0 1 7 0 0]), (5, .val (.int .i64 (-1))), (42, .rows (a0.Final.map (cInt .i64))), (43, .val (.int .i64 (a0.Final.length : Int))), (44, .val (.int .i64 0))] [⟨7, [(TAuto.lit a0)], 0, none⟩] (by decide) (by decide) ⟨.ptr rfl, cClo (.cons (.ptr rfl) <| .nil), .free rfl rfl, .free rfl rfl, .free rfl rfl, .free rfl rfl, trivial⟩ ⟨⟨_, rfl, bcBox (all2_free rfl)⟩, trivial⟩ ?_
        obtain ⟨o1, hL1, h⟩ := h
        refine .loopB (wfa_Check.b1 a0) (fun (x1, x2) => listEnv [(1, .ptr 0 1 7 0 0), (4, .clo 50 [.ptr 0 1 7 0 0]), (5, .val (.int .i64 x1)), (42, .rows (a0.Final.map (cInt .i64))), (43, .val (.int .i64 (a0.Final.length : Int))), (44, .val (.int .i64 x2))]) (fun (x1, x2) => [⟨7, [(TAuto.lit a0)], 0, none⟩]) (fun _ => listEnv [(1, .ptr 0 1 7 0 0), (4, .clo 50 [.ptr 0 1 7 0 0])]) (fun _ => [⟨7, [(TAuto.lit a0)], 0, none⟩]) hL1 (fun r_ => r = r_) ?_ ?_ ?_
        · rintro ⟨⟩ rfl
          try dsimp only [Fin.on] at h
          refine .seq ?_
          refine .seq ?_
          refine .reg0 rfl (.op 0 rfl (faP fa35_4 rfl) <| .op 0 rfl (ldP rfl sz33 ag33 rfl) <| .op 0 rfl (lnR (l := a0.Trans) sl33 rfl) <| .op 0 rfl (mvV rfl) <| .nil0) ?_
          refine .block ?_
          refine .keepL [0] [(1, .ptr 0 1 7 0 0), (4, .clo 50 [.ptr 0 1 7 0 0]), (60, .rows (a0.Trans.map TTrans.cells)), (61, .val (.int .i64 (a0.Trans.length : Int))), (62, .val (.int .i64 0))] [⟨7, [(TAuto.lit a0)], 0, none⟩] (by decide) (by decide) ⟨.ptr rfl, cClo (.cons (.ptr rfl) <| .nil), .free rfl rfl, .free rfl rfl, .free rfl rfl, trivial⟩ ⟨⟨_, rfl, bcBox (all2_free rfl)⟩, trivial⟩ ?_
          obtain ⟨o2, hL2, h⟩ := h
          refine .loopB (wfa_Check.b2 a0) (fun x3 => listEnv [(1, .ptr 0 1 7 0 0), (4, .clo 50 [.ptr 0 1 7 0 0]), (60, .rows (a0.Trans.map TTrans.cells)), (61, .val (.int .i64 (a0.Trans.length : Int))), (62, .val (.int .i64 x3))]) (fun x3 => [⟨7, [(TAuto.lit a0)], 0, none⟩]) (fun _ => listEnv [(1, .ptr 0 1 7 0 0)]) (fun _ => [⟨7, [(TAuto.lit a0)], 0, none⟩]) hL2 (fun r_ => r = r_) ?_ ?_ ?_
          · rintro ⟨⟩ rfl
            try dsimp only [Fin.on] at h
            refine .seq ?_
            refine .seq ?_
            refine .reg0 rfl (.op 0 rfl (faP fa35_4 rfl) <| .op 0 rfl (ldP rfl sz33 ag33 rfl) <| .op 0 rfl (lnR (l := a0.Trans) sl33 rfl) <| .op 0 rfl (mvV rfl) <| .nil0) ?_
            refine .block ?_
            refine .keepL [0] [(1, .ptr 0 1 7 0 0), (92, .rows (a0.Trans.map TTrans.cells)), (93, .val (.int .i64 (a0.Trans.length : Int))), (94, .val (.int .i64 0))] [⟨7, [(TAuto.lit a0)], 0, none⟩] (by decide) (by decide) ⟨.ptr rfl, .free rfl rfl, .free rfl rfl, .free rfl rfl, trivial⟩ ⟨⟨_, rfl, bcBox (all2_free rfl)⟩, trivial⟩ ?_
            obtain ⟨o3, hL3, h⟩ := h
            refine .loopB (wfa_Check.b3 a0) (fun x4 => listEnv [(1, .ptr 0 1 7 0 0), (92, .rows (a0.Trans.map TTrans.cells)), (93, .val (.int .i64 (a0.Trans.length : Int))), (94, .val (.int .i64 x4))]) (fun x4 => [⟨7, [(TAuto.lit a0)], 0, none⟩]) (fun _ => listEnv []) (fun _ => []) hL3 (fun r_ => r = r_) ?_ ?_ ?_
            · rintro ⟨⟩ rfl
              try dsimp only [Fin.on] at h
              refine .seq ?_
              refine .reg0 rfl (.op 0 rfl (asV rfl) <| .nil0) ?_
              replace h := h.symm
              subst h
              refine .keepL [] [(2, .val (.int .i64 0))] [] (by decide) (by decide) ⟨.free rfl rfl, trivial⟩ trivial ?_
              exact .ret rfl
            · rintro r_ rfl
              exact h
            · rintro x4 z3 h hn3 hx3 hr3
              dsimp only [wfa_Check.b3] at h
              refine .seq ?_
              refine .reg0 rfl (.op 0 rfl (ltI rfl rfl) <| .nil0) ?_
              refine .seq ?_
              by_cases c35 : x4 < (a0.Trans.length : Int)
              · rw [if_pos c35] at h
                refine .condT rfl (decide_eq_true c35) ?_
                refine .skip ?_
                refine .seq ?_
                refine .block ?_
                refine .seq ?_
                obtain ⟨g57_0, h⟩ := h
                refine .room 0 ?_
                refine .reg0 rfl (.op 0 rfl (ixR (l := a0.Trans) (lit := TTrans.lit) sl33 rfl rfl (fun _ => rfl) g57_0.1 g57_0.2) <| .op 0 rfl (ldCG rfl sz59 ag59 rfl) <| .op 1 rfl (alP (s := 9) ze59 ⟨rfl, by decide, rfl⟩ rfl) <| .op 0 rfl (stB (cs0 := [.val (.int .i64 0), .val (.int .i64 0), .val (.int .i64 0), .val (.bool false), .val (.int .i64 0), .val (.int .u64 0), .val (.slice none 0 0), .val (.slice none 0 0), .val (.slice none 0 0)]) (cs := (TTrans.lit (rdl a0.Trans x4))) (cs1 := (TTrans.lit (rdl a0.Trans x4))) rfl rfl sz59 rfl ⟨Nat.le_of_ble_eq_true rfl, rfl⟩ rfl) <| .nil0) ?_
                refine .seq ?_
                obtain ⟨t58_4, g58_4, h⟩ := h
                refine .reg0 rfl (.op 0 rfl (faP fa35_0 rfl) <| .op 0 rfl (ldG rfl sz25 ag25 rfl) <| .op 0 rfl (faP fa59_3 rfl) <| .op 0 rfl (ldG rfl sz48 ag48 rfl) <| .callI rfl (callee_of rfl go49 rfl) (.pure rfl rfl (weight_Check.D g58_4)) <| .op 0 rfl (neI rfl rfl) <| .nil0) ?_
                by_cases c36 : t58_4 = 0
                · rw [if_pos c36] at h
                  refine .condF rfl (bne_eq_false_iff_eq.mpr c36) ?_
                  refine .skip ?_
                  refine .inBlock ?_
                  refine .reg0 rfl (.op 0 rfl (addI rfl rfl) <| .op 0 rfl (mvV rfl) <| .nil0) ?_
                  refine .keepL [0] [(1, .ptr 0 1 7 0 0), (92, .rows (a0.Trans.map TTrans.cells)), (93, .val (.int .i64 (a0.Trans.length : Int))), (94, .val (.int .i64 (IntKind.i64.wrap (x4 + 1))))] [⟨7, [(TAuto.lit a0)], 0, none⟩] (by decide) (by decide) ⟨.ptr rfl, .free rfl rfl, .free rfl rfl, .free rfl rfl, trivial⟩ ⟨⟨_, rfl, bcBox (all2_free rfl)⟩, trivial⟩ ?_
                  exact hn3 _ h
                · rw [if_neg c36] at h
                  refine .condT rfl (bne_iff_ne.mpr c36) ?_
                  refine .seq ?_
                  refine .reg0 rfl (.op 0 rfl (asV rfl) <| .nil0) ?_
                  have q9 := hr3 _ h
                  replace q9 := q9.symm
                  subst q9
                  refine .keepL [] [(2, .val (.int .i64 51))] [] (by decide) (by decide) ⟨.free rfl rfl, trivial⟩ trivial ?_
                  exact .ret rfl
              · rw [if_neg c35] at h
                refine .condF rfl (decide_eq_false c35) ?_
                refine .exit rfl ?_
                refine .keepL [] [] [] (by decide) (by decide) trivial trivial ?_
                exact hx3 _ h
          · rintro r_ rfl
            exact h
          · rintro x3 z2 h hn2 hx2 hr2
            dsimp only [wfa_Check.b2] at h
            refine .seq ?_
            refine .reg0 rfl (.op 0 rfl (ltI rfl rfl) <| .nil0) ?_
            refine .seq ?_
            by_cases c26 : x3 < (a0.Trans.length : Int)
            · rw [if_pos c26] at h
              refine .condT rfl (decide_eq_true c26) ?_
              refine .skip ?_
              refine .seq ?_
              refine .block ?_
              refine .seq ?_
              obtain ⟨g41_0, h⟩ := h
              refine .room 0 ?_
              refine .reg0 rfl (.op 0 rfl (ixR (l := a0.Trans) (lit := TTrans.lit) sl33 rfl rfl (fun _ => rfl) g41_0.1 g41_0.2) <| .op 0 rfl (ldCG rfl sz59 ag59 rfl) <| .op 1 rfl (alP (s := 9) ze59 ⟨rfl, by decide, rfl⟩ rfl) <| .op 0 rfl (stB (cs0 := [.val (.int .i64 0), .val (.int .i64 0), .val (.int .i64 0), .val (.bool false), .val (.int .i64 0), .val (.int .u64 0), .val (.slice none 0 0), .val (.slice none 0 0), .val (.slice none 0 0)]) (cs := (TTrans.lit (rdl a0.Trans x3))) (cs1 := (TTrans.lit (rdl a0.Trans x3))) rfl rfl sz59 rfl ⟨Nat.le_of_ble_eq_true rfl, rfl⟩ rfl) <| .nil0) ?_
              refine .seq ?_
              obtain ⟨t42_3, g42_3, h⟩ := h
              obtain ⟨t42_9, g42_9, h⟩ := h
              refine .reg0 (e1 := listEnv [(1, .ptr 0 1 7 0 0), (4, .clo 50 [.ptr 0 1 7 0 0]), (60, .rows (a0.Trans.map TTrans.cells)), (61, .val (.int .i64 (a0.Trans.length : Int))), (62, .val (.int .i64 x3)), (89, .val (.bool ((!t42_3) || ((!t42_9) || ((decide ((rdl a0.Trans x3).Sym < (-1))) || (decide ((rdl a0.Trans x3).Sym ≥ a0.Symbols)))))))]) (H1 := [⟨7, [(TAuto.lit a0)], 0, none⟩, ⟨9, [(TTrans.lit (rdl a0.Trans x3))], 0, none⟩]) rfl ?_ ?_
              · by_cases c27 : t42_3 = true
                · by_cases c28 : t42_9 = true
                  · by_cases c29 : (rdl a0.Trans x3).Sym < (-1)
                    · exact (.op 0 rfl (mvF rfl) <| .op 0 rfl (faP fa59_0 rfl) <| .op 0 rfl (ldP rfl sz3 ag3 rfl) <| .callI rfl (callee_of rfl go50 rfl) (.lendC (args' := [.val (.int .i64 ((rdl a0.Trans x3).From)), .cptr (TAuto.lit a0) 0])  [0] false (.cons (.free rfl rfl) <| .cons (cFixP rfl rfl (.cons (.free rfl rfl) <| .cons (.free rfl rfl) <| .cons (.free rfl rfl) <| .cons (.free rfl rfl) <| .cons (.free rfl rfl) <| .cons (.free rfl rfl) <| .cons (.free rfl rfl) <| .nil)) <| .nil) (by decide) rfl rfl rfl rfl (wfa_Check_1.D g42_3)) <| .op 0 rfl (notB rfl) <| .op 0 rfl (mvV rfl) <| .op 0 (gT rfl rfl rfl (bnotF c27)) (mvF rfl) <| .op 0 (gT rfl rfl rfl (bnotF c27)) (faP fa59_2 rfl) <| .op 0 (gT rfl rfl rfl (bnotF c27)) (ldP rfl sz3 ag3 rfl) <| .callI (gT rfl rfl rfl (bnotF c27)) (callee_of rfl go50 rfl) (.lendC (args' := [.val (.int .i64 ((rdl a0.Trans x3).To)), .cptr (TAuto.lit a0) 0])  [0] false (.cons (.free rfl rfl) <| .cons (cFixP rfl rfl (.cons (.free rfl rfl) <| .cons (.free rfl rfl) <| .cons (.free rfl rfl) <| .cons (.free rfl rfl) <| .cons (.free rfl rfl) <| .cons (.free rfl rfl) <| .cons (.free rfl rfl) <| .nil)) <| .nil) (by decide) rfl rfl rfl rfl (wfa_Check_1.D (g42_9 c27))) <| .op 0 (gT rfl rfl rfl (bnotF c27)) (notB rfl) <| .op 0 rfl (pkFV rfl (bnotF c27) rfl) <| .op 0 rfl (mvV rfl) <| .op 0 (gT rfl rfl rfl (bnotF c28)) (faP fa59_1 rfl) <| .op 0 (gT rfl rfl rfl (bnotF c28)) (ldP rfl sz3 ag3 rfl) <| .op 0 (gT rfl rfl rfl (bnotF c28)) (ltI rfl rfl) <| .op 0 rfl (pkFV rfl (bnotF c28) rfl) <| .op 0 rfl (mvV rfl) <| .no (gF rfl rfl rfl (decide_eq_true c29)) <| .no (gF rfl rfl rfl (decide_eq_true c29)) <| .no (gF rfl rfl rfl (decide_eq_true c29)) <| .no (gF rfl rfl rfl (decide_eq_true c29)) <| .no (gF rfl rfl rfl (decide_eq_true c29)) <| .op 0 rfl (pkTV rfl (decide_eq_true c29) rfl) <| .nilL _ ⟨.ptr rfl, cClo (.cons (.ptr rfl) <| .nil), .free rfl rfl, .free rfl rfl, .free rfl rfl, cB rfl (mOrF (bnotF c27) (mOrF (bnotF c28) (mOrT (decide_eq_true c29)))), trivial⟩)
                    · exact (.op 0 rfl (mvF rfl) <| .op 0 rfl (faP fa59_0 rfl) <| .op 0 rfl (ldP rfl sz3 ag3 rfl) <| .callI rfl (callee_of rfl go50 rfl) (.lendC (args' := [.val (.int .i64 ((rdl a0.Trans x3).From)), .cptr (TAuto.lit a0) 0])  [0] false (.cons (.free rfl rfl) <| .cons (cFixP rfl rfl (.cons (.free rfl rfl) <| .cons (.free rfl rfl) <| .cons (.free rfl rfl) <| .cons (.free rfl rfl) <| .cons (.free rfl rfl) <| .cons (.free rfl rfl) <| .cons (.free rfl rfl) <| .nil)) <| .nil) (by decide) rfl rfl rfl rfl (wfa_Check_1.D g42_3)) <| .op 0 rfl (notB rfl) <| .op 0 rfl (mvV rfl) <| .op 0 (gT rfl rfl rfl (bnotF c27)) (mvF rfl) <| .op 0 (gT rfl rfl rfl (bnotF c27)) (faP fa59_2 rfl) <| .op 0 (gT rfl rfl rfl (bnotF c27)) (ldP rfl sz3 ag3 rfl) <| .callI (gT rfl rfl rfl (bnotF c27)) (callee_of rfl go50 rfl) (.lendC (args' := [.val (.int .i64 ((rdl a0.Trans x3).To)), .cptr (TAuto.lit a0) 0])  [0] false (.cons (.free rfl rfl) <| .cons (cFixP rfl rfl (.cons (.free rfl rfl) <| .cons (.free rfl rfl) <| .cons (.free rfl rfl) <| .cons (.free rfl rfl) <| .cons (.free rfl rfl) <| .cons (.free rfl rfl) <| .cons (.free rfl rfl) <| .nil)) <| .nil) (by decide) rfl rfl rfl rfl (wfa_Check_1.D (g42_9 c27))) <| .op 0 (gT rfl rfl rfl (bnotF c27)) (notB rfl) <| .op 0 rfl (pkFV rfl (bnotF c27) rfl) <| .op 0 rfl (mvV rfl) <| .op 0 (gT rfl rfl rfl (bnotF c28)) (faP fa59_1 rfl) <| .op 0 (gT rfl rfl rfl (bnotF c28)) (ldP rfl sz3 ag3 rfl) <| .op 0 (gT rfl rfl rfl (bnotF c28)) (ltI rfl rfl) <| .op 0 rfl (pkFV rfl (bnotF c28) rfl) <| .op 0 rfl (mvV rfl) <| .op 0 (gT rfl rfl rfl (decide_eq_false c29)) (faP fa59_1 rfl) <| .op 0 (gT rfl rfl rfl (decide_eq_false c29)) (ldP rfl sz3 ag3 rfl) <| .op 0 (gT rfl rfl rfl (decide_eq_false c29)) (faP fa35_2 rfl) <| .op 0 (gT rfl rfl rfl (decide_eq_false c29)) (ldP rfl sz3 ag3 rfl) <| .op 0 (gT rfl rfl rfl (decide_eq_false c29)) (geI rfl rfl) <| .op 0 rfl (pkFV rfl (decide_eq_false c29) rfl) <| .nilL _ ⟨.ptr rfl, cClo (.cons (.ptr rfl) <| .nil), .free rfl rfl, .free rfl rfl, .free rfl rfl, cB rfl (mOrF (bnotF c27) (mOrF (bnotF c28) (mOrF (decide_eq_false c29) rfl))), trivial⟩)
                  · exact (.op 0 rfl (mvF rfl) <| .op 0 rfl (faP fa59_0 rfl) <| .op 0 rfl (ldP rfl sz3 ag3 rfl) <| .callI rfl (callee_of rfl go50 rfl) (.lendC (args' := [.val (.int .i64 ((rdl a0.Trans x3).From)), .cptr (TAuto.lit a0) 0])  [0] false (.cons (.free rfl rfl) <| .cons (cFixP rfl rfl (.cons (.free rfl rfl) <| .cons (.free rfl rfl) <| .cons (.free rfl rfl) <| .cons (.free rfl rfl) <| .cons (.free rfl rfl) <| .cons (.free rfl rfl) <| .cons (.free rfl rfl) <| .nil)) <| .nil) (by decide) rfl rfl rfl rfl (wfa_Check_1.D g42_3)) <| .op 0 rfl (notB rfl) <| .op 0 rfl (mvV rfl) <| .op 0 (gT rfl rfl rfl (bnotF c27)) (mvF rfl) <| .op 0 (gT rfl rfl rfl (bnotF c27)) (faP fa59_2 rfl) <| .op 0 (gT rfl rfl rfl (bnotF c27)) (ldP rfl sz3 ag3 rfl) <| .callI (gT rfl rfl rfl (bnotF c27)) (callee_of rfl go50 rfl) (.lendC (args' := [.val (.int .i64 ((rdl a0.Trans x3).To)), .cptr (TAuto.lit a0) 0])  [0] false (.cons (.free rfl rfl) <| .cons (cFixP rfl rfl (.cons (.free rfl rfl) <| .cons (.free rfl rfl) <| .cons (.free rfl rfl) <| .cons (.free rfl rfl) <| .cons (.free rfl rfl) <| .cons (.free rfl rfl) <| .cons (.free rfl rfl) <| .nil)) <| .nil) (by decide) rfl rfl rfl rfl (wfa_Check_1.D (g42_9 c27))) <| .op 0 (gT rfl rfl rfl (bnotF c27)) (notB rfl) <| .op 0 rfl (pkFV rfl (bnotF c27) rfl) <| .op 0 rfl (mvV rfl) <| .no (gF rfl rfl rfl (bnotT (Bool.eq_false_iff.mpr c28))) <| .no (gF rfl rfl rfl (bnotT (Bool.eq_false_iff.mpr c28))) <| .no (gF rfl rfl rfl (bnotT (Bool.eq_false_iff.mpr c28))) <| .op 0 rfl (pkTV rfl (bnotT (Bool.eq_false_iff.mpr c28)) rfl) <| .op 0 rfl (mvV rfl) <| .no (gF rfl rfl rfl rfl) <| .no (gF rfl rfl rfl rfl) <| .no (gF rfl rfl rfl rfl) <| .no (gF rfl rfl rfl rfl) <| .no (gF rfl rfl rfl rfl) <| .op 0 rfl (pkTV rfl rfl rfl) <| .nilL _ ⟨.ptr rfl, cClo (.cons (.ptr rfl) <| .nil), .free rfl rfl, .free rfl rfl, .free rfl rfl, cB rfl (mOrF (bnotF c27) (mOrT (bnotT (Bool.eq_false_iff.mpr c28)))), trivial⟩)
                · exact (.op 0 rfl (mvF rfl) <| .op 0 rfl (faP fa59_0 rfl) <| .op 0 rfl (ldP rfl sz3 ag3 rfl) <| .callI rfl (callee_of rfl go50 rfl) (.lendC (args' := [.val (.int .i64 ((rdl a0.Trans x3).From)), .cptr (TAuto.lit a0) 0])  [0] false (.cons (.free rfl rfl) <| .cons (cFixP rfl rfl (.cons (.free rfl rfl) <| .cons (.free rfl rfl) <| .cons (.free rfl rfl) <| .cons (.free rfl rfl) <| .cons (.free rfl rfl) <| .cons (.free rfl rfl) <| .cons (.free rfl rfl) <| .nil)) <| .nil) (by decide) rfl rfl rfl rfl (wfa_Check_1.D g42_3)) <| .op 0 rfl (notB rfl) <| .op 0 rfl (mvV rfl) <| .no (gF rfl rfl rfl (bnotT (Bool.eq_false_iff.mpr c27))) <| .no (gF rfl rfl rfl (bnotT (Bool.eq_false_iff.mpr c27))) <| .no (gF rfl rfl rfl (bnotT (Bool.eq_false_iff.mpr c27))) <| .no (gF rfl rfl rfl (bnotT (Bool.eq_false_iff.mpr c27))) <| .no (gF rfl rfl rfl (bnotT (Bool.eq_false_iff.mpr c27))) <| .op 0 rfl (pkTV rfl (bnotT (Bool.eq_false_iff.mpr c27)) rfl) <| .op 0 rfl (mvV rfl) <| .no (gF rfl rfl rfl rfl) <| .no (gF rfl rfl rfl rfl) <| .no (gF rfl rfl rfl rfl) <| .op 0 rfl (pkTV rfl rfl rfl) <| .op 0 rfl (mvV rfl) <| .no (gF rfl rfl rfl rfl) <| .no (gF rfl rfl rfl rfl) <| .no (gF rfl rfl rfl rfl) <| .no (gF rfl rfl rfl rfl) <| .no (gF rfl rfl rfl rfl) <| .op 0 rfl (pkTV rfl rfl rfl) <| .nilL _ ⟨.ptr rfl, cClo (.cons (.ptr rfl) <| .nil), .free rfl rfl, .free rfl rfl, .free rfl rfl, cB rfl (mOrT (bnotT (Bool.eq_false_iff.mpr c27))), trivial⟩)
              by_cases c30 : ((!t42_3) || ((!t42_9) || ((decide ((rdl a0.Trans x3).Sym < (-1))) || (decide ((rdl a0.Trans x3).Sym ≥ a0.Symbols))))) = true
              · rw [if_pos c30] at h
                refine .condT rfl c30 ?_
                refine .seq ?_
                refine .reg0 rfl (.op 0 rfl (asV rfl) <| .nil0) ?_
                have q6 := hr2 _ h
                replace q6 := q6.symm
                subst q6
                refine .keepL [] [(2, .val (.int .i64 100))] [] (by decide) (by decide) ⟨.free rfl rfl, trivial⟩ trivial ?_
                exact .ret rfl
              · rw [if_neg c30] at h
                refine .condF rfl (Bool.eq_false_iff.mpr c30) ?_
                refine .skip ?_
                refine .inBlock ?_
                refine .reg0 rfl (.op 0 rfl (addI rfl rfl) <| .op 0 rfl (mvV rfl) <| .nil0) ?_
                refine .keepL [0] [(1, .ptr 0 1 7 0 0), (4, .clo 50 [.ptr 0 1 7 0 0]), (60, .rows (a0.Trans.map TTrans.cells)), (61, .val (.int .i64 (a0.Trans.length : Int))), (62, .val (.int .i64 (IntKind.i64.wrap (x3 + 1))))] [⟨7, [(TAuto.lit a0)], 0, none⟩] (by decide) (by decide) ⟨.ptr rfl, cClo (.cons (.ptr rfl) <| .nil), .free rfl rfl, .free rfl rfl, .free rfl rfl, trivial⟩ ⟨⟨_, rfl, bcBox (all2_free rfl)⟩, trivial⟩ ?_
                exact hn2 _ h
            · rw [if_neg c26] at h
              refine .condF rfl (decide_eq_false c26) ?_
              refine .exit rfl ?_
              refine .keepL [0] [(1, .ptr 0 1 7 0 0)] [⟨7, [(TAuto.lit a0)], 0, none⟩] (by decide) (by decide) ⟨.ptr rfl, trivial⟩ ⟨⟨_, rfl, bcBox (all2_free rfl)⟩, trivial⟩ ?_
              exact hx2 _ h
        · rintro r_ rfl
          exact h
        · rintro ⟨x1, x2⟩ z1 h hn1 hx1 hr1
          dsimp only [wfa_Check.b1] at h
          refine .seq ?_
          refine .reg0 rfl (.op 0 rfl (ltI rfl rfl) <| .nil0) ?_
          refine .seq ?_
          by_cases c13 : x2 < (a0.Final.length : Int)
          · rw [if_pos c13] at h
            refine .condT rfl (decide_eq_true c13) ?_
            refine .skip ?_
            refine .seq ?_
            refine .block ?_
            refine .seq ?_
            obtain ⟨g24_0, h⟩ := h
            refine .reg0 rfl (.op 0 rfl (ixR (l := a0.Final) (lit := (cInt .i64)) sl29 rfl rfl (fun _ => rfl) g24_0.1 g24_0.2) <| .op 0 rfl (ldC rfl sz3 ag3 rfl) <| .op 0 rfl (asV rfl) <| .nil0) ?_
            refine .seq ?_
            refine .seq ?_
            obtain ⟨t25_2, g25_2, h⟩ := h
            refine .reg0 (e1 := listEnv [(1, .ptr 0 1 7 0 0), (4, .clo 50 [.ptr 0 1 7 0 0]), (7, .val (.int .i64 (rdl a0.Final x2))), (42, .rows (a0.Final.map (cInt .i64))), (43, .val (.int .i64 (a0.Final.length : Int))), (44, .val (.int .i64 x2)), (56, .val (.bool ((!t25_2) || (decide ((rdl a0.Final x2) ≤ x1)))))]) (H1 := [⟨7, [(TAuto.lit a0)], 0, none⟩]) rfl ?_ ?_
            · by_cases c14 : t25_2 = true
              · exact (.op 0 rfl (mvF rfl) <| .op 0 rfl (mvV rfl) <| .callI rfl (callee_of rfl go50 rfl) (.lendC (args' := [.val (.int .i64 (rdl a0.Final x2)), .cptr (TAuto.lit a0) 0])  [0] false (.cons (.free rfl rfl) <| .cons (cFixP rfl rfl (.cons (.free rfl rfl) <| .cons (.free rfl rfl) <| .cons (.free rfl rfl) <| .cons (.free rfl rfl) <| .cons (.free rfl rfl) <| .cons (.free rfl rfl) <| .cons (.free rfl rfl) <| .nil)) <| .nil) (by decide) rfl rfl rfl rfl (wfa_Check_1.D g25_2)) <| .op 0 rfl (notB rfl) <| .op 0 rfl (mvV rfl) <| .op 0 (gT rfl rfl rfl (bnotF c14)) (mvV rfl) <| .op 0 (gT rfl rfl rfl (bnotF c14)) (mvV rfl) <| .op 0 (gT rfl rfl rfl (bnotF c14)) (leI rfl rfl) <| .op 0 rfl (pkFV rfl (bnotF c14) rfl) <| .nilL _ ⟨.ptr rfl, cClo (.cons (.ptr rfl) <| .nil), .free rfl rfl, .free rfl rfl, .free rfl rfl, .free rfl rfl, cB rfl (mOrF (bnotF c14) rfl), trivial⟩)
              · exact (.op 0 rfl (mvF rfl) <| .op 0 rfl (mvV rfl) <| .callI rfl (callee_of rfl go50 rfl) (.lendC (args' := [.val (.int .i64 (rdl a0.Final x2)), .cptr (TAuto.lit a0) 0])  [0] false (.cons (.free rfl rfl) <| .cons (cFixP rfl rfl (.cons (.free rfl rfl) <| .cons (.free rfl rfl) <| .cons (.free rfl rfl) <| .cons (.free rfl rfl) <| .cons (.free rfl rfl) <| .cons (.free rfl rfl) <| .cons (.free rfl rfl) <| .nil)) <| .nil) (by decide) rfl rfl rfl rfl (wfa_Check_1.D g25_2)) <| .op 0 rfl (notB rfl) <| .op 0 rfl (mvV rfl) <| .no (gF rfl rfl rfl (bnotT (Bool.eq_false_iff.mpr c14))) <| .no (gF rfl rfl rfl (bnotT (Bool.eq_false_iff.mpr c14))) <| .no (gF rfl rfl rfl (bnotT (Bool.eq_false_iff.mpr c14))) <| .op 0 rfl (pkTV rfl (bnotT (Bool.eq_false_iff.mpr c14)) rfl) <| .nilL _ ⟨.ptr rfl, cClo (.cons (.ptr rfl) <| .nil), .free rfl rfl, .free rfl rfl, .free rfl rfl, .free rfl rfl, cB rfl (mOrT (bnotT (Bool.eq_false_iff.mpr c14))), trivial⟩)
            by_cases c15 : ((!t25_2) || (decide ((rdl a0.Final x2) ≤ x1))) = true
            · rw [if_pos c15] at h
              refine .condT rfl c15 ?_
              refine .seq ?_
              refine .reg0 rfl (.op 0 rfl (asV rfl) <| .nil0) ?_
              have q3 := hr1 _ h
              replace q3 := q3.symm
              subst q3
              refine .keepL [] [(2, .val (.int .i64 100))] [] (by decide) (by decide) ⟨.free rfl rfl, trivial⟩ trivial ?_
              exact .ret rfl
            · rw [if_neg c15] at h
              refine .condF rfl (Bool.eq_false_iff.mpr c15) ?_
              refine .skip ?_
              refine .reg0 rfl (.op 0 rfl (mvV rfl) <| .op 0 rfl (asV rfl) <| .nil0) ?_
              refine .inBlock ?_
              refine .reg0 rfl (.op 0 rfl (addI rfl rfl) <| .op 0 rfl (mvV rfl) <| .nil0) ?_
              refine .keepL [0] [(1, .ptr 0 1 7 0 0), (4, .clo 50 [.ptr 0 1 7 0 0]), (5, .val (.int .i64 (rdl a0.Final x2))), (42, .rows (a0.Final.map (cInt .i64))), (43, .val (.int .i64 (a0.Final.length : Int))), (44, .val (.int .i64 (IntKind.i64.wrap (x2 + 1))))] [⟨7, [(TAuto.lit a0)], 0, none⟩] (by decide) (by decide) ⟨.ptr rfl, cClo (.cons (.ptr rfl) <| .nil), .free rfl rfl, .free rfl rfl, .free rfl rfl, .free rfl rfl, trivial⟩ ⟨⟨_, rfl, bcBox (all2_free rfl)⟩, trivial⟩ ?_
              exact hn1 _ h
          · rw [if_neg c13] at h
            refine .condF rfl (decide_eq_false c13) ?_
            refine .exit rfl ?_
            refine .keepL [0] [(1, .ptr 0 1 7 0 0), (4, .clo 50 [.ptr 0 1 7 0 0])] [⟨7, [(TAuto.lit a0)], 0, none⟩] (by decide) (by decide) ⟨.ptr rfl, cClo (.cons (.ptr rfl) <| .nil), trivial⟩ ⟨⟨_, rfl, bcBox (all2_free rfl)⟩, trivial⟩ ?_
            exact hx1 _ h
  · rw [if_neg c1] at h
    refine .condT rfl (bne_iff_ne.mpr c1) ?_
    refine .seq ?_
    refine .reg0 rfl (.op 0 rfl (mvV rfl) <| .op 0 rfl (asV rfl) <| .nil0) ?_
    replace h := h.symm
    subst h
    refine .keepL [] [(2, .val (.int .i64 t2_2))] [] (by decide) (by decide) ⟨.free rfl rfl, trivial⟩ trivial ?_
    exact .ret rfl
def slices_EqualFunc_Space_Space_Space.b1 (a0 : List TSpace) (a1 : List TSpace) (a2 : TSpace → TSpace → Bool → Prop) : Int → Rnd Int Unit Bool → Prop := fun x1 z1 => if x1 < (a0.length : Int) then (((InR x1 a0.length)) ∧ ((InR x1 a1.length)) ∧ ∃ t19_3 : Bool, (a2 (rdl a0 x1) (rdl a1 x1) t19_3) ∧ if t19_3 = true then (z1 = .next (IntKind.i64.wrap (x1 + 1))) else (z1 = .ret false)) else (z1 = .exit ())
def slices_EqualFunc_Space_Space_Space.f (a0 : List TSpace) (a1 : List TSpace) (a2 : TSpace → TSpace → Bool → Prop) (r : Bool) : Prop :=
  if (a0.length : Int) = (a1.length : Int) then (∃ o1 : Fin Unit Bool, Loop (slices_EqualFunc_Space_Space_Space.b1 a0 a1 a2) 0 o1 ∧ o1.on (fun _ => r = true) (fun r_ => r = r_)) else (r = false)
theorem slices_EqualFunc_Space_Space_Space.D {a0 : List TSpace} {a1 : List TSpace} {a2 : TSpace → TSpace → Bool → Prop} {r : Bool} {c2_ : FuncId} {k2_ : List PV} (hg2_ : isGo Try.prog c2_ = true) (hk2_ : PV.free deep (.clo c2_ k2_) = true) (hka2_ : k2_.all (PV.free deep) = true) (hq2_ : ∀ x0_ x1_ y_, a2 x0_ x1_ y_ → D Try.prog X (.callH c2_ ([.agg (TSpace.lit x0_), .agg (TSpace.lit x1_)] ++ k2_) [] (.val (.bool y_)) [])) (h : slices_EqualFunc_Space_Space_Space.f a0 a1 a2 r) : D Try.prog X (.callH 51 [.rows (a0.map TSpace.cells), .rows (a1.map TSpace.cells), .clo c2_ k2_] [] (.val (.bool r)) []) := by
  unfold slices_EqualFunc_Space_Space_Space.f at h
  refine .enter 32 0 fn51 rfl rfl rfl ?_
  refine .seq ?_
  refine .reg0 rfl (.op 0 rfl (asV rfl) <| .nil0) ?_
  refine .seq ?_
  refine .seq ?_
  refine .reg0 rfl (.op 0 rfl (mvR rfl) <| .op 0 rfl (lnR (l := a0) sl23 rfl) <| .op 0 rfl (mvR rfl) <| .op 0 rfl (lnR (l := a1) sl23 rfl) <| .op 0 rfl (neI rfl rfl) <| .nil0) ?_
  by_cases c1 : (a0.length : Int) = (a1.length : Int)
  · rw [if_pos c1] at h
    refine .condF rfl (bne_eq_false_iff_eq.mpr c1) ?_
    refine .skip ?_
    refine .seq ?_
    refine .seq ?_
    refine .reg0 rfl (.op 0 rfl (mvR rfl) <| .op 0 rfl (lnR (l := a0) sl23 rfl) <| .op 0 rfl (mvV rfl) <| .nil0) ?_
    refine .block ?_
    refine .keepL [] [(1, .rows (a1.map TSpace.cells)), (2, .clo c2_ k2_), (15, .rows (a0.map TSpace.cells)), (16, .val (.int .i64 (a0.length : Int))), (17, .val (.int .i64 0))] [] (by decide) (by decide) ⟨.free rfl rfl, .free rfl hk2_, .free rfl rfl, .free rfl rfl, .free rfl rfl, trivial⟩ trivial ?_
    obtain ⟨o1, hL1, h⟩ := h
    refine .loopB (slices_EqualFunc_Space_Space_Space.b1 a0 a1 a2) (fun x1 => listEnv [(1, .rows (a1.map TSpace.cells)), (2, .clo c2_ k2_), (15, .rows (a0.map TSpace.cells)), (16, .val (.int .i64 (a0.length : Int))), (17, .val (.int .i64 x1))]) (fun x1 => []) (fun _ => listEnv []) (fun _ => []) hL1 (fun r_ => r = r_) ?_ ?_ ?_
    · rintro ⟨⟩ rfl
      try dsimp only [Fin.on] at h
      refine .seq ?_
      refine .reg0 rfl (.op 0 rfl (asV rfl) <| .nil0) ?_
      replace h := h.symm
      subst h
      refine .keepL [] [(6, .val (.bool true))] [] (by decide) (by decide) ⟨.free rfl rfl, trivial⟩ trivial ?_
      exact .ret rfl
    · rintro r_ rfl
      exact h
    · rintro x1 z1 h hn1 hx1 hr1
      dsimp only [slices_EqualFunc_Space_Space_Space.b1] at h
      refine .seq ?_
      refine .reg0 rfl (.op 0 rfl (ltI rfl rfl) <| .nil0) ?_
      refine .seq ?_
      by_cases c6 : x1 < (a0.length : Int)
      · rw [if_pos c6] at h
        refine .condT rfl (decide_eq_true c6) ?_
        refine .skip ?_
        refine .seq ?_
        refine .block ?_
        refine .seq ?_
        obtain ⟨g17_1, h⟩ := h
        refine .room 0 ?_
        refine .reg0 rfl (.op 0 rfl (mvV rfl) <| .op 0 rfl (ixR (l := a0) (lit := TSpace.lit) sl23 rfl rfl TSpace.cells_lit g17_1.1 g17_1.2) <| .op 0 rfl (ldCG rfl sz25 ag25 rfl) <| .op 0 rfl (alP (s := 3) ze25 ⟨rfl, by decide, rfl⟩ rfl) <| .op 0 rfl (asV rfl) <| .op 0 rfl (stB (cs0 := [.val (.int .i64 0), .val (.int .i64 0), .val (.slice none 0 0)]) (cs := (TSpace.lit (rdl a0 x1))) (cs1 := (TSpace.lit (rdl a0 x1))) rfl rfl sz25 rfl ⟨Nat.le_of_ble_eq_true rfl, rfl⟩ rfl) <| .nil0) ?_
        refine .seq ?_
        obtain ⟨g18_2, h⟩ := h
        refine .room 0 ?_
        refine .reg0 rfl (.op 0 rfl (mvR rfl) <| .op 0 rfl (mvV rfl) <| .op 0 rfl (ixR (l := a1) (lit := TSpace.lit) sl23 rfl rfl TSpace.cells_lit g18_2.1 g18_2.2) <| .op 0 rfl (ldCG rfl sz25 ag25 rfl) <| .op 1 rfl (alP (s := 3) ze25 ⟨rfl, by decide, rfl⟩ rfl) <| .op 0 rfl (stB (cs0 := [.val (.int .i64 0), .val (.int .i64 0), .val (.slice none 0 0)]) (cs := (TSpace.lit (rdl a1 x1))) (cs1 := (TSpace.lit (rdl a1 x1))) rfl rfl sz25 rfl ⟨Nat.le_of_ble_eq_true rfl, rfl⟩ rfl) <| .nil0) ?_
        refine .seq ?_
        obtain ⟨t19_3, g19_3, h⟩ := h
        refine .reg0 rfl (.op 0 rfl (mvF rfl) <| .op 0 rfl (ldG rfl sz25 ag25 rfl) <| .op 0 rfl (ldG rfl sz25 ag25 rfl) <| .callI rfl (callee_of rfl hg2_ rfl) (.pure (allCons rfl (allCons rfl hka2_)) rfl (hq2_ _ _ _ g19_3)) <| .op 0 rfl (notB rfl) <| .nil0) ?_
        by_cases c7 : t19_3 = true
        · rw [if_pos c7] at h
          refine .condF rfl (bnotF c7) ?_
          refine .skip ?_
          refine .inBlock ?_
          refine .reg0 rfl (.op 0 rfl (addI rfl rfl) <| .op 0 rfl (mvV rfl) <| .nil0) ?_
          refine .keepL [] [(1, .rows (a1.map TSpace.cells)), (2, .clo c2_ k2_), (15, .rows (a0.map TSpace.cells)), (16, .val (.int .i64 (a0.length : Int))), (17, .val (.int .i64 (IntKind.i64.wrap (x1 + 1))))] [] (by decide) (by decide) ⟨.free rfl rfl, .free rfl hk2_, .free rfl rfl, .free rfl rfl, .free rfl rfl, trivial⟩ trivial ?_
          exact hn1 _ h
        · rw [if_neg c7] at h
          refine .condT rfl (bnotT (Bool.eq_false_iff.mpr c7)) ?_
          refine .seq ?_
          refine .reg0 rfl (.op 0 rfl (asV rfl) <| .nil0) ?_
          have q3 := hr1 _ h
          replace q3 := q3.symm
          subst q3
          refine .keepL [] [(6, .val (.bool false))] [] (by decide) (by decide) ⟨.free rfl rfl, trivial⟩ trivial ?_
          exact .ret rfl
      · rw [if_neg c6] at h
        refine .condF rfl (decide_eq_false c6) ?_
        refine .exit rfl ?_
        refine .keepL [] [] [] (by decide) (by decide) trivial trivial ?_
        exact hx1 _ h
  · rw [if_neg c1] at h
    refine .condT rfl (bne_iff_ne.mpr c1) ?_
    refine .seq ?_
    refine .reg0 rfl (.op 0 rfl (asV rfl) <| .nil0) ?_
    replace h := h.symm
    subst h
    refine .keepL [] [(6, .val (.bool false))] [] (by decide) (by decide) ⟨.free rfl rfl, trivial⟩ trivial ?_
    exact .ret rfl
def weight_SameSpace.step (self33 : TSpace → TSpace → Bool → Prop) (a0 : TSpace) (a1 : TSpace) (r : Bool) : Prop :=
  ∃ t2_17 : Bool, ((a0.Tag = a1.Tag) → (a0.Dim = a1.Dim) → slices_EqualFunc_Space_Space_Space.f a0.Parts a1.Parts (fun x0_ x1_ y_ => self33 x0_ x1_ y_) t2_17) ∧ r = ((a0.Tag == a1.Tag) && ((a0.Dim == a1.Dim) && t2_17))
theorem weight_SameSpace.stepD {self33 : TSpace → TSpace → Bool → Prop} {a0 : TSpace} {a1 : TSpace} (hs33 : ∀ z0_ z1_ r_, self33 z0_ z1_ r_ → D Try.prog X (.callH 33 [.agg (TSpace.lit z0_), .agg (TSpace.lit z1_)] [] (.val (.bool r_)) [])) {r : Bool} (h : weight_SameSpace.step self33 a0 a1 r) : D Try.prog X (.callH 33 [.agg (TSpace.lit a0), .agg (TSpace.lit a1)] [] (.val (.bool r)) []) := by
  unfold weight_SameSpace.step at h
  refine .enter 24 0 fn33 rfl rfl rfl ?_
  refine .seq ?_
  refine .room 0 ?_
  refine .room 0 ?_
  refine .reg0 rfl (.op 0 rfl (bxP (s := 3) (cs := (TSpace.lit a0)) rfl ⟨rfl, by decide, rfl⟩ rfl) <| .op 1 rfl (bxP (s := 3) (cs := (TSpace.lit a1)) rfl ⟨rfl, by decide, rfl⟩ rfl) <| .op 0 rfl (asV rfl) <| .nil0) ?_
  refine .seq ?_
  obtain ⟨t2_17, g2_17, h⟩ := h
  refine .reg0 (e1 := listEnv [(4, .val (.bool ((a0.Tag == a1.Tag) && ((a0.Dim == a1.Dim) && t2_17))))]) (H1 := [⟨3, [(TSpace.lit a0)], 0, none⟩, ⟨3, [(TSpace.lit a1)], 0, none⟩]) rfl ?_ ?_
  · by_cases c1 : a0.Tag = a1.Tag
    · by_cases c2 : a0.Dim = a1.Dim
      · exact (.op 0 rfl (faP fa25_0 rfl) <| .op 0 rfl (ldP rfl sz22 ag22 rfl) <| .op 0 rfl (faP fa25_0 rfl) <| .op 0 rfl (ldP rfl sz22 ag22 rfl) <| .op 0 rfl (eqI rfl rfl) <| .op 0 rfl (mvV rfl) <| .op 0 (gT rfl rfl rfl (beq_iff_eq.mpr c1)) (faP fa25_1 rfl) <| .op 0 (gT rfl rfl rfl (beq_iff_eq.mpr c1)) (ldP rfl sz3 ag3 rfl) <| .op 0 (gT rfl rfl rfl (beq_iff_eq.mpr c1)) (faP fa25_1 rfl) <| .op 0 (gT rfl rfl rfl (beq_iff_eq.mpr c1)) (ldP rfl sz3 ag3 rfl) <| .op 0 (gT rfl rfl rfl (beq_iff_eq.mpr c1)) (eqI rfl rfl) <| .op 0 rfl (pkTV rfl (beq_iff_eq.mpr c1) rfl) <| .op 0 rfl (mvV rfl) <| .op 0 (gT rfl rfl rfl (beq_iff_eq.mpr c2)) (faP fa25_2 rfl) <| .op 0 (gT rfl rfl rfl (beq_iff_eq.mpr c2)) (ldP rfl sz23 ag23 rfl) <| .op 0 (gT rfl rfl rfl (beq_iff_eq.mpr c2)) (faP fa25_2 rfl) <| .op 0 (gT rfl rfl rfl (beq_iff_eq.mpr c2)) (ldP rfl sz23 ag23 rfl) <| .callI (gT rfl rfl rfl (beq_iff_eq.mpr c2)) (callee_of rfl go51 rfl) (.pure rfl rfl (slices_EqualFunc_Space_Space_Space.D (k2_ := []) go33 rfl rfl (fun x0_ x1_ y_ h_ => hs33 _ _ y_ h_) (g2_17 c1 c2))) <| .op 0 rfl (pkTV rfl (beq_iff_eq.mpr c2) rfl) <| .op 0 rfl (asV rfl) <| .nilL _ ⟨cB rfl (mAndT (beq_iff_eq.mpr c1) (mAndT (beq_iff_eq.mpr c2) rfl)), trivial⟩)
      · exact (.op 0 rfl (faP fa25_0 rfl) <| .op 0 rfl (ldP rfl sz22 ag22 rfl) <| .op 0 rfl (faP fa25_0 rfl) <| .op 0 rfl (ldP rfl sz22 ag22 rfl) <| .op 0 rfl (eqI rfl rfl) <| .op 0 rfl (mvV rfl) <| .op 0 (gT rfl rfl rfl (beq_iff_eq.mpr c1)) (faP fa25_1 rfl) <| .op 0 (gT rfl rfl rfl (beq_iff_eq.mpr c1)) (ldP rfl sz3 ag3 rfl) <| .op 0 (gT rfl rfl rfl (beq_iff_eq.mpr c1)) (faP fa25_1 rfl) <| .op 0 (gT rfl rfl rfl (beq_iff_eq.mpr c1)) (ldP rfl sz3 ag3 rfl) <| .op 0 (gT rfl rfl rfl (beq_iff_eq.mpr c1)) (eqI rfl rfl) <| .op 0 rfl (pkTV rfl (beq_iff_eq.mpr c1) rfl) <| .op 0 rfl (mvV rfl) <| .no (gF rfl rfl rfl (beq_eq_false_iff_ne.mpr c2)) <| .no (gF rfl rfl rfl (beq_eq_false_iff_ne.mpr c2)) <| .no (gF rfl rfl rfl (beq_eq_false_iff_ne.mpr c2)) <| .no (gF rfl rfl rfl (beq_eq_false_iff_ne.mpr c2)) <| .no (gF rfl rfl rfl (beq_eq_false_iff_ne.mpr c2)) <| .op 0 rfl (pkFV rfl (beq_eq_false_iff_ne.mpr c2) rfl) <| .op 0 rfl (asV rfl) <| .nilL _ ⟨cB rfl (mAndT (beq_iff_eq.mpr c1) (mAndF (beq_eq_false_iff_ne.mpr c2))), trivial⟩)
    · exact (.op 0 rfl (faP fa25_0 rfl) <| .op 0 rfl (ldP rfl sz22 ag22 rfl) <| .op 0 rfl (faP fa25_0 rfl) <| .op 0 rfl (ldP rfl sz22 ag22 rfl) <| .op 0 rfl (eqI rfl rfl) <| .op 0 rfl (mvV rfl) <| .no (gF rfl rfl rfl (beq_eq_false_iff_ne.mpr c1)) <| .no (gF rfl rfl rfl (beq_eq_false_iff_ne.mpr c1)) <| .no (gF rfl rfl rfl (beq_eq_false_iff_ne.mpr c1)) <| .no (gF rfl rfl rfl (beq_eq_false_iff_ne.mpr c1)) <| .no (gF rfl rfl rfl (beq_eq_false_iff_ne.mpr c1)) <| .op 0 rfl (pkFV rfl (beq_eq_false_iff_ne.mpr c1) rfl) <| .op 0 rfl (mvV rfl) <| .no (gF rfl rfl rfl rfl) <| .no (gF rfl rfl rfl rfl) <| .no (gF rfl rfl rfl rfl) <| .no (gF rfl rfl rfl rfl) <| .no (gF rfl rfl rfl rfl) <| .op 0 rfl (pkFV rfl rfl rfl) <| .op 0 rfl (asV rfl) <| .nilL _ ⟨cB rfl (mAndF (beq_eq_false_iff_ne.mpr c1)), trivial⟩)
  replace h := h.symm
  subst h
  refine .keepL [] [(4, .val (.bool ((a0.Tag == a1.Tag) && ((a0.Dim == a1.Dim) && t2_17))))] [] (by decide) (by decide) ⟨.free rfl rfl, trivial⟩ trivial ?_
  exact .ret rfl
def weight_SameSpace.fN : Nat → TSpace → TSpace → Bool → Prop
  | 0 => fun _ _ _ => False
  | n + 1 => weight_SameSpace.step (weight_SameSpace.fN n)
theorem weight_SameSpace.ND : ∀ (n : Nat) {a0 : TSpace} {a1 : TSpace} {r : Bool} (h : weight_SameSpace.fN n a0 a1 r), D Try.prog X (.callH 33 [.agg (TSpace.lit a0), .agg (TSpace.lit a1)] [] (.val (.bool r)) [])
  | 0, _, _, _, h => h.elim
  | n + 1, _, _, _, h => weight_SameSpace.stepD (fun _ _ _ h => weight_SameSpace.ND n h) h
def weight_SameSpace.f (a0 : TSpace) (a1 : TSpace) (r : Bool) : Prop := ∃ n, weight_SameSpace.fN n a0 a1 r
theorem weight_SameSpace.D {a0 : TSpace} {a1 : TSpace} {r : Bool} (h : weight_SameSpace.f a0 a1 r) : D Try.prog X (.callH 33 [.agg (TSpace.lit a0), .agg (TSpace.lit a1)] [] (.val (.bool r)) []) := by obtain ⟨n, h⟩ := h; exact weight_SameSpace.ND n h
def query_Check.b1 (a0 : TPds) (a1 : TAuto) : Int → Rnd Int Unit Int → Prop := fun x1 z1 => if x1 < (a1.Trans.length : Int) then (((InR x1 a1.Trans.length)) ∧ if ((decide ((rdl a1.Trans x1).Sym < 0)) || (decide ((rdl a1.Trans x1).To < a0.States))) = true then (z1 = .ret 140) else (z1 = .next (IntKind.i64.wrap (x1 + 1)))) else (z1 = .exit ())
def query_Check.f (a0 : TPds) (a1 : TAuto) (r : Int) : Prop :=
  ∃ t2_1 : Int, (pds_Check.f a0 t2_1) ∧ if t2_1 = 0 then (∃ t4_1 : Int, (wfa_Check.f a1 t4_1) ∧ if t4_1 = 0 then (∃ t6_4 : Bool, (weight_SameSpace.f a1.Space a0.Space t6_4) ∧ if ((!t6_4) || ((!(a1.Symbols == a0.Symbols)) || (decide (a1.States < a0.States)))) = true then (r = 140) else (∃ o1 : Fin Unit Int, Loop (query_Check.b1 a0 a1) 0 o1 ∧ o1.on (fun _ => r = 0) (fun r_ => r = r_))) else (r = t4_1)) else (r = t2_1)
theorem query_Check.D {a0 : TPds} {a1 : TAuto} {r : Int} (h : query_Check.f a0 a1 r) : D Try.prog X (.callH 16 [.agg (TPds.lit a0), .agg (TAuto.lit a1)] [] (.val (.int .i64 r)) []) := by
  unfold query_Check.f at h
  refine .enter 57 0 fn16 rfl rfl rfl ?_
  refine .seq ?_
  refine .room 0 ?_
  refine .room 0 ?_
  refine .reg0 rfl (.op 0 rfl (bxP (s := 6) (cs := (TPds.lit a0)) rfl ⟨rfl, by decide, rfl⟩ rfl) <| .op 1 rfl (bxP (s := 7) (cs := (TAuto.lit a1)) rfl ⟨rfl, by decide, rfl⟩ rfl) <| .op 0 rfl (asV rfl) <| .nil0) ?_
  refine .seq ?_
  refine .seq ?_
  obtain ⟨t2_1, g2_1, h⟩ := h
  refine .reg0 rfl (.op 0 rfl (ldG rfl sz28 ag28 rfl) <| .callI rfl (callee_of rfl go31 rfl) (.pure rfl rfl (pds_Check.D g2_1)) <| .op 0 rfl (asV rfl) <| .nil0) ?_
  refine .seq ?_
  refine .reg0 rfl (.op 0 rfl (mvV rfl) <| .op 0 rfl (neI rfl rfl) <| .nil0) ?_
  by_cases c1 : t2_1 = 0
  · rw [if_pos c1] at h
    refine .condF rfl (bne_eq_false_iff_eq.mpr c1) ?_
    refine .skip ?_
    refine .seq ?_
    refine .seq ?_
    obtain ⟨t4_1, g4_1, h⟩ := h
    refine .reg0 rfl (.op 0 rfl (ldG rfl sz35 ag35 rfl) <| .callI rfl (callee_of rfl go32 rfl) (.pure rfl rfl (wfa_Check.D g4_1)) <| .op 0 rfl (asV rfl) <| .nil0) ?_
    refine .seq ?_
    refine .reg0 rfl (.op 0 rfl (mvV rfl) <| .op 0 rfl (neI rfl rfl) <| .nil0) ?_
    by_cases c2 : t4_1 = 0
    · rw [if_pos c2] at h
      refine .condF rfl (bne_eq_false_iff_eq.mpr c2) ?_
      refine .skip ?_
      refine .seq ?_
      refine .seq ?_
      obtain ⟨t6_4, g6_4, h⟩ := h
      refine .reg0 (e1 := listEnv [(2, .ptr 0 1 6 0 0), (3, .ptr 1 1 7 0 0), (38, .val (.bool ((!t6_4) || ((!(a1.Symbols == a0.Symbols)) || (decide (a1.States < a0.States))))))]) (H1 := [⟨6, [(TPds.lit a0)], 0, none⟩, ⟨7, [(TAuto.lit a1)], 0, none⟩]) rfl ?_ ?_
      · by_cases c3 : t6_4 = true
        · by_cases c4 : a1.Symbols = a0.Symbols
          · exact (.op 0 rfl (faP fa35_0 rfl) <| .op 0 rfl (ldG rfl sz25 ag25 rfl) <| .op 0 rfl (faP fa28_0 rfl) <| .op 0 rfl (ldG rfl sz25 ag25 rfl) <| .callI rfl (callee_of rfl go33 rfl) (.pure rfl rfl (weight_SameSpace.D g6_4)) <| .op 0 rfl (notB rfl) <| .op 0 rfl (mvV rfl) <| .op 0 (gT rfl rfl rfl (bnotF c3)) (faP fa35_2 rfl) <| .op 0 (gT rfl rfl rfl (bnotF c3)) (ldP rfl sz3 ag3 rfl) <| .op 0 (gT rfl rfl rfl (bnotF c3)) (faP fa28_2 rfl) <| .op 0 (gT rfl rfl rfl (bnotF c3)) (ldP rfl sz3 ag3 rfl) <| .op 0 (gT rfl rfl rfl (bnotF c3)) (neI rfl rfl) <| .op 0 rfl (pkFV rfl (bnotF c3) rfl) <| .op 0 rfl (mvV rfl) <| .op 0 (gT rfl rfl rfl (bne_eq_false_iff_eq.mpr c4)) (faP fa35_1 rfl) <| .op 0 (gT rfl rfl rfl (bne_eq_false_iff_eq.mpr c4)) (ldP rfl sz3 ag3 rfl) <| .op 0 (gT rfl rfl rfl (bne_eq_false_iff_eq.mpr c4)) (faP fa28_1 rfl) <| .op 0 (gT rfl rfl rfl (bne_eq_false_iff_eq.mpr c4)) (ldP rfl sz3 ag3 rfl) <| .op 0 (gT rfl rfl rfl (bne_eq_false_iff_eq.mpr c4)) (ltI rfl rfl) <| .op 0 rfl (pkFV rfl (bne_eq_false_iff_eq.mpr c4) rfl) <| .nilL _ ⟨.ptr rfl, .ptr rfl, cB rfl (mOrF (bnotF c3) (mOrF (bnotF (beq_iff_eq.mpr c4)) rfl)), trivial⟩)
          · exact (.op 0 rfl (faP fa35_0 rfl) <| .op 0 rfl (ldG rfl sz25 ag25 rfl) <| .op 0 rfl (faP fa28_0 rfl) <| .op 0 rfl (ldG rfl sz25 ag25 rfl) <| .callI rfl (callee_of rfl go33 rfl) (.pure rfl rfl (weight_SameSpace.D g6_4)) <| .op 0 rfl (notB rfl) <| .op 0 rfl (mvV rfl) <| .op 0 (gT rfl rfl rfl (bnotF c3)) (faP fa35_2 rfl) <| .op 0 (gT rfl rfl rfl (bnotF c3)) (ldP rfl sz3 ag3 rfl) <| .op 0 (gT rfl rfl rfl (bnotF c3)) (faP fa28_2 rfl) <| .op 0 (gT rfl rfl rfl (bnotF c3)) (ldP rfl sz3 ag3 rfl) <| .op 0 (gT rfl rfl rfl (bnotF c3)) (neI rfl rfl) <| .op 0 rfl (pkFV rfl (bnotF c3) rfl) <| .op 0 rfl (mvV rfl) <| .no (gF rfl rfl rfl (bne_iff_ne.mpr c4)) <| .no (gF rfl rfl rfl (bne_iff_ne.mpr c4)) <| .no (gF rfl rfl rfl (bne_iff_ne.mpr c4)) <| .no (gF rfl rfl rfl (bne_iff_ne.mpr c4)) <| .no (gF rfl rfl rfl (bne_iff_ne.mpr c4)) <| .op 0 rfl (pkTV rfl (bne_iff_ne.mpr c4) rfl) <| .nilL _ ⟨.ptr rfl, .ptr rfl, cB rfl (mOrF (bnotF c3) (mOrT (bnotT (beq_eq_false_iff_ne.mpr c4)))), trivial⟩)
        · exact (.op 0 rfl (faP fa35_0 rfl) <| .op 0 rfl (ldG rfl sz25 ag25 rfl) <| .op 0 rfl (faP fa28_0 rfl) <| .op 0 rfl (ldG rfl sz25 ag25 rfl) <| .callI rfl (callee_of rfl go33 rfl) (.pure rfl rfl (weight_SameSpace.D g6_4)) <| .op 0 rfl (notB rfl) <| .op 0 rfl (mvV rfl) <| .no (gF rfl rfl rfl (bnotT (Bool.eq_false_iff.mpr c3))) <| .no (gF rfl rfl rfl (bnotT (Bool.eq_false_iff.mpr c3))) <| .no (gF rfl rfl rfl (bnotT (Bool.eq_false_iff.mpr c3))) <| .no (gF rfl rfl rfl (bnotT (Bool.eq_false_iff.mpr c3))) <| .no (gF rfl rfl rfl (bnotT (Bool.eq_false_iff.mpr c3))) <| .op 0 rfl (pkTV rfl (bnotT (Bool.eq_false_iff.mpr c3)) rfl) <| .op 0 rfl (mvV rfl) <| .no (gF rfl rfl rfl rfl) <| .no (gF rfl rfl rfl rfl) <| .no (gF rfl rfl rfl rfl) <| .no (gF rfl rfl rfl rfl) <| .no (gF rfl rfl rfl rfl) <| .op 0 rfl (pkTV rfl rfl rfl) <| .nilL _ ⟨.ptr rfl, .ptr rfl, cB rfl (mOrT (bnotT (Bool.eq_false_iff.mpr c3))), trivial⟩)
      by_cases c5 : ((!t6_4) || ((!(a1.Symbols == a0.Symbols)) || (decide (a1.States < a0.States)))) = true
      · rw [if_pos c5] at h
        refine .condT rfl c5 ?_
        refine .seq ?_
        refine .reg0 rfl (.op 0 rfl (asV rfl) <| .nil0) ?_
        replace h := h.symm
        subst h
        refine .keepL [] [(4, .val (.int .i64 140))] [] (by decide) (by decide) ⟨.free rfl rfl, trivial⟩ trivial ?_
        exact .ret rfl
      · rw [if_neg c5] at h
        refine .condF rfl (Bool.eq_false_iff.mpr c5) ?_
        refine .skip ?_
        refine .seq ?_
        refine .seq ?_
        refine .reg0 rfl (.op 0 rfl (faP fa35_4 rfl) <| .op 0 rfl (ldP rfl sz33 ag33 rfl) <| .op 0 rfl (lnR (l := a1.Trans) sl33 rfl) <| .op 0 rfl (mvV rfl) <| .nil0) ?_
        refine .block ?_
        refine .keepL [0] [(2, .ptr 0 1 6 0 0), (40, .rows (a1.Trans.map TTrans.cells)), (41, .val (.int .i64 (a1.Trans.length : Int))), (42, .val (.int .i64 0))] [⟨6, [(TPds.lit a0)], 0, none⟩] (by decide) (by decide) ⟨.ptr rfl, .free rfl rfl, .free rfl rfl, .free rfl rfl, trivial⟩ ⟨⟨_, rfl, bcBox (all2_free rfl)⟩, trivial⟩ ?_
        obtain ⟨o1, hL1, h⟩ := h
        refine .loopB (query_Check.b1 a0 a1) (fun x1 => listEnv [(2, .ptr 0 1 6 0 0), (40, .rows (a1.Trans.map TTrans.cells)), (41, .val (.int .i64 (a1.Trans.length : Int))), (42, .val (.int .i64 x1))]) (fun x1 => [⟨6, [(TPds.lit a0)], 0, none⟩]) (fun _ => listEnv []) (fun _ => []) hL1 (fun r_ => r = r_) ?_ ?_ ?_
        · rintro ⟨⟩ rfl
          try dsimp only [Fin.on] at h
          refine .seq ?_
          refine .reg0 rfl (.op 0 rfl (asV rfl) <| .nil0) ?_
          replace h := h.symm
          subst h
          refine .keepL [] [(4, .val (.int .i64 0))] [] (by decide) (by decide) ⟨.free rfl rfl, trivial⟩ trivial ?_
          exact .ret rfl
        · rintro r_ rfl
          exact h
        · rintro x1 z1 h hn1 hx1 hr1
          dsimp only [query_Check.b1] at h
          refine .seq ?_
          refine .reg0 rfl (.op 0 rfl (ltI rfl rfl) <| .nil0) ?_
          refine .seq ?_
          by_cases c12 : x1 < (a1.Trans.length : Int)
          · rw [if_pos c12] at h
            refine .condT rfl (decide_eq_true c12) ?_
            refine .skip ?_
            refine .seq ?_
            refine .block ?_
            refine .seq ?_
            obtain ⟨g20_0, h⟩ := h
            refine .room 0 ?_
            refine .reg0 rfl (.op 0 rfl (ixR (l := a1.Trans) (lit := TTrans.lit) sl33 rfl rfl (fun _ => rfl) g20_0.1 g20_0.2) <| .op 0 rfl (ldCG rfl sz59 ag59 rfl) <| .op 1 rfl (alP (s := 9) ze59 ⟨rfl, by decide, rfl⟩ rfl) <| .op 0 rfl (stB (cs0 := [.val (.int .i64 0), .val (.int .i64 0), .val (.int .i64 0), .val (.bool false), .val (.int .i64 0), .val (.int .u64 0), .val (.slice none 0 0), .val (.slice none 0 0), .val (.slice none 0 0)]) (cs := (TTrans.lit (rdl a1.Trans x1))) (cs1 := (TTrans.lit (rdl a1.Trans x1))) rfl rfl sz59 rfl ⟨Nat.le_of_ble_eq_true rfl, rfl⟩ rfl) <| .nil0) ?_
            refine .seq ?_
            refine .reg0 (e1 := listEnv [(2, .ptr 0 1 6 0 0), (40, .rows (a1.Trans.map TTrans.cells)), (41, .val (.int .i64 (a1.Trans.length : Int))), (42, .val (.int .i64 x1)), (55, .val (.bool ((decide ((rdl a1.Trans x1).Sym < 0)) || (decide ((rdl a1.Trans x1).To < a0.States)))))]) (H1 := [⟨6, [(TPds.lit a0)], 0, none⟩, ⟨9, [(TTrans.lit (rdl a1.Trans x1))], 0, none⟩]) rfl ?_ ?_
            · by_cases c13 : (rdl a1.Trans x1).Sym < 0
              · exact (.op 0 rfl (faP fa59_1 rfl) <| .op 0 rfl (ldP rfl sz3 ag3 rfl) <| .op 0 rfl (ltI rfl rfl) <| .op 0 rfl (mvV rfl) <| .no (gF rfl rfl rfl (decide_eq_true c13)) <| .no (gF rfl rfl rfl (decide_eq_true c13)) <| .no (gF rfl rfl rfl (decide_eq_true c13)) <| .no (gF rfl rfl rfl (decide_eq_true c13)) <| .no (gF rfl rfl rfl (decide_eq_true c13)) <| .op 0 rfl (pkTV rfl (decide_eq_true c13) rfl) <| .nilL _ ⟨.ptr rfl, .free rfl rfl, .free rfl rfl, .free rfl rfl, cB rfl (mOrT (decide_eq_true c13)), trivial⟩)
              · exact (.op 0 rfl (faP fa59_1 rfl) <| .op 0 rfl (ldP rfl sz3 ag3 rfl) <| .op 0 rfl (ltI rfl rfl) <| .op 0 rfl (mvV rfl) <| .op 0 (gT rfl rfl rfl (decide_eq_false c13)) (faP fa59_2 rfl) <| .op 0 (gT rfl rfl rfl (decide_eq_false c13)) (ldP rfl sz3 ag3 rfl) <| .op 0 (gT rfl rfl rfl (decide_eq_false c13)) (faP fa28_1 rfl) <| .op 0 (gT rfl rfl rfl (decide_eq_false c13)) (ldP rfl sz3 ag3 rfl) <| .op 0 (gT rfl rfl rfl (decide_eq_false c13)) (ltI rfl rfl) <| .op 0 rfl (pkFV rfl (decide_eq_false c13) rfl) <| .nilL _ ⟨.ptr rfl, .free rfl rfl, .free rfl rfl, .free rfl rfl, cB rfl (mOrF (decide_eq_false c13) rfl), trivial⟩)
            by_cases c14 : ((decide ((rdl a1.Trans x1).Sym < 0)) || (decide ((rdl a1.Trans x1).To < a0.States))) = true
            · rw [if_pos c14] at h
              refine .condT rfl c14 ?_
              refine .seq ?_
              refine .reg0 rfl (.op 0 rfl (asV rfl) <| .nil0) ?_
              have q3 := hr1 _ h
              replace q3 := q3.symm
              subst q3
              refine .keepL [] [(4, .val (.int .i64 140))] [] (by decide) (by decide) ⟨.free rfl rfl, trivial⟩ trivial ?_
              exact .ret rfl
            · rw [if_neg c14] at h
              refine .condF rfl (Bool.eq_false_iff.mpr c14) ?_
              refine .skip ?_
              refine .inBlock ?_
              refine .reg0 rfl (.op 0 rfl (addI rfl rfl) <| .op 0 rfl (mvV rfl) <| .nil0) ?_
              refine .keepL [0] [(2, .ptr 0 1 6 0 0), (40, .rows (a1.Trans.map TTrans.cells)), (41, .val (.int .i64 (a1.Trans.length : Int))), (42, .val (.int .i64 (IntKind.i64.wrap (x1 + 1))))] [⟨6, [(TPds.lit a0)], 0, none⟩] (by decide) (by decide) ⟨.ptr rfl, .free rfl rfl, .free rfl rfl, .free rfl rfl, trivial⟩ ⟨⟨_, rfl, bcBox (all2_free rfl)⟩, trivial⟩ ?_
              exact hn1 _ h
          · rw [if_neg c12] at h
            refine .condF rfl (decide_eq_false c12) ?_
            refine .exit rfl ?_
            refine .keepL [] [] [] (by decide) (by decide) trivial trivial ?_
            exact hx1 _ h
    · rw [if_neg c2] at h
      refine .condT rfl (bne_iff_ne.mpr c2) ?_
      refine .seq ?_
      refine .reg0 rfl (.op 0 rfl (mvV rfl) <| .op 0 rfl (asV rfl) <| .nil0) ?_
      replace h := h.symm
      subst h
      refine .keepL [] [(4, .val (.int .i64 t4_1))] [] (by decide) (by decide) ⟨.free rfl rfl, trivial⟩ trivial ?_
      exact .ret rfl
  · rw [if_neg c1] at h
    refine .condT rfl (bne_iff_ne.mpr c1) ?_
    refine .seq ?_
    refine .reg0 rfl (.op 0 rfl (mvV rfl) <| .op 0 rfl (asV rfl) <| .nil0) ?_
    replace h := h.symm
    subst h
    refine .keepL [] [(4, .val (.int .i64 t2_1))] [] (by decide) (by decide) ⟨.free rfl rfl, trivial⟩ trivial ?_
    exact .ret rfl
def l14_QueryChecks.f (a0 : TPds) (a1 : TAuto) (r : Bool) : Prop :=
  ∃ t2_2 : Int, (query_Check.f a0 a1 t2_2) ∧ ∃ t2_5 : Int, (r14_Check.f a0 a1 t2_5) ∧ ∃ t2_8 : Bool, ((t2_2 = t2_5) → l14_awake.f t2_8) ∧ r = ((t2_2 == t2_5) && t2_8)
theorem l14_QueryChecks.D {a0 : TPds} {a1 : TAuto} {r : Bool} (h : l14_QueryChecks.f a0 a1 r) : D Try.prog X (.callH 4 [.agg (TPds.lit a0), .agg (TAuto.lit a1)] [] (.val (.bool r)) []) := by
  unfold l14_QueryChecks.f at h
  refine .enter 15 0 fn4 rfl rfl rfl ?_
  refine .seq ?_
  refine .room 0 ?_
  refine .room 0 ?_
  refine .reg0 rfl (.op 0 rfl (bxP (s := 6) (cs := (TPds.lit a0)) rfl ⟨rfl, by decide, rfl⟩ rfl) <| .op 1 rfl (bxP (s := 7) (cs := (TAuto.lit a1)) rfl ⟨rfl, by decide, rfl⟩ rfl) <| .op 0 rfl (asV rfl) <| .nil0) ?_
  refine .seq ?_
  obtain ⟨t2_2, g2_2, h⟩ := h
  obtain ⟨t2_5, g2_5, h⟩ := h
  obtain ⟨t2_8, g2_8, h⟩ := h
  refine .reg1 (e1 := listEnv [(4, .val (.bool ((t2_2 == t2_5) && t2_8)))]) (H1 := [⟨6, [(TPds.lit a0)], 0, none⟩, ⟨7, [(TAuto.lit a1)], 0, none⟩]) rfl ?_ ?_
  · by_cases c1 : t2_2 = t2_5
    · exact .drawM [(10, 4, .val (.bool t2_8)), (9, 14, .val (.bool t2_8)), (8, 13, .val (.bool t2_8)), (7, 12, .val (.bool (t2_2 == t2_5))), (6, 11, .val (.bool (t2_2 == t2_5))), (5, 10, .val (.int .i64 t2_5)), (4, 9, .agg (TAuto.lit a1)), (3, 8, .agg (TPds.lit a0)), (2, 7, .val (.int .i64 t2_2)), (1, 6, .agg (TAuto.lit a1)), (0, 5, .agg (TPds.lit a0))] [] [[], [], [0, 1], [], [], [3, 4, 2, 0, 1], [2, 0, 1, 5, 3, 4], [6, 2, 0, 1, 5, 3, 4], [7, 6, 2, 0, 1, 5, 3, 4], [7, 6, 2, 0, 1, 5, 3, 4, 8], [9, 7, 6, 2, 0, 1, 5, 3, 4, 8]] (by rfl) (by rfl) (by rfl) (by exact ⟨fun S hS hD hn => .one 0 hS hD hn rfl rfl (ldG rfl sz28 ag28 rfl) rfl rfl rfl, fun S hS hD hn => .one 0 hS hD hn rfl rfl (ldG rfl sz35 ag35 rfl) rfl rfl rfl, fun S hS hD hn => .oneI hS hD hn rfl rfl (callee_of rfl go16 rfl) (.pure rfl rfl (query_Check.D g2_2)) rfl rfl rfl, fun S hS hD hn => .one 0 hS hD hn rfl rfl (ldG rfl sz28 ag28 rfl) rfl rfl rfl, fun S hS hD hn => .one 0 hS hD hn rfl rfl (ldG rfl sz35 ag35 rfl) rfl rfl rfl, fun S hS hD hn => .oneI hS hD hn rfl rfl (callee_of rfl go11 rfl) (.pure rfl rfl (r14_Check.D g2_5)) rfl rfl rfl, fun S hS hD hn => .one 0 hS hD hn rfl rfl (eqI rfl rfl) rfl rfl rfl, fun S hS hD hn => .one 0 hS hD hn rfl rfl (mvV rfl) rfl rfl rfl, fun S hS hD hn => .oneI hS hD hn (gT rfl rfl rfl (beq_iff_eq.mpr c1)) rfl (callee_of rfl go5 rfl) (.pure rfl rfl (l14_awake.D (g2_8 c1))) rfl rfl rfl, fun S hS hD hn => .one 0 hS hD hn rfl rfl (pkTV rfl (beq_iff_eq.mpr c1) rfl) rfl rfl rfl, fun S hS hD hn => .one 0 hS hD hn rfl rfl (asV rfl) rfl rfl rfl, trivial⟩) _ (by exact ⟨cB rfl (mAndT (beq_iff_eq.mpr c1) rfl), trivial⟩) (by rfl)
    · exact .drawM [(10, 4, .val (.bool false)), (9, 14, .val (.bool false)), (8, 13, .val undef), (7, 12, .val (.bool (t2_2 == t2_5))), (6, 11, .val (.bool (t2_2 == t2_5))), (5, 10, .val (.int .i64 t2_5)), (4, 9, .agg (TAuto.lit a1)), (3, 8, .agg (TPds.lit a0)), (2, 7, .val (.int .i64 t2_2)), (1, 6, .agg (TAuto.lit a1)), (0, 5, .agg (TPds.lit a0))] [] [[], [], [0, 1], [], [], [3, 4, 2, 0, 1], [2, 0, 1, 5, 3, 4], [6, 2, 0, 1, 5, 3, 4], [7, 6, 2, 0, 1, 5, 3, 4], [7, 6, 2, 0, 1, 5, 3, 4, 8], [9, 7, 6, 2, 0, 1, 5, 3, 4, 8]] (by rfl) (by rfl) (by rfl) (by exact ⟨fun S hS hD hn => .one 0 hS hD hn rfl rfl (ldG rfl sz28 ag28 rfl) rfl rfl rfl, fun S hS hD hn => .one 0 hS hD hn rfl rfl (ldG rfl sz35 ag35 rfl) rfl rfl rfl, fun S hS hD hn => .oneI hS hD hn rfl rfl (callee_of rfl go16 rfl) (.pure rfl rfl (query_Check.D g2_2)) rfl rfl rfl, fun S hS hD hn => .one 0 hS hD hn rfl rfl (ldG rfl sz28 ag28 rfl) rfl rfl rfl, fun S hS hD hn => .one 0 hS hD hn rfl rfl (ldG rfl sz35 ag35 rfl) rfl rfl rfl, fun S hS hD hn => .oneI hS hD hn rfl rfl (callee_of rfl go11 rfl) (.pure rfl rfl (r14_Check.D g2_5)) rfl rfl rfl, fun S hS hD hn => .one 0 hS hD hn rfl rfl (eqI rfl rfl) rfl rfl rfl, fun S hS hD hn => .one 0 hS hD hn rfl rfl (mvV rfl) rfl rfl rfl, fun S hS hD hn => .oneNo hS hD (gF rfl rfl rfl (beq_eq_false_iff_ne.mpr c1)) rfl hn rfl rfl rfl, fun S hS hD hn => .one 0 hS hD hn rfl rfl (pkFV rfl (beq_eq_false_iff_ne.mpr c1) rfl) rfl rfl rfl, fun S hS hD hn => .one 0 hS hD hn rfl rfl (asV rfl) rfl rfl rfl, trivial⟩) _ (by exact ⟨cB rfl (mAndF (beq_eq_false_iff_ne.mpr c1)), trivial⟩) (by rfl)
  replace h := h.symm
  subst h
  refine .keepL [] [(4, .val (.bool ((t2_2 == t2_5) && t2_8)))] [] (by decide) (by decide) ⟨.free rfl rfl, trivial⟩ trivial ?_
  exact .ret rfl
end Go.RM.Try
