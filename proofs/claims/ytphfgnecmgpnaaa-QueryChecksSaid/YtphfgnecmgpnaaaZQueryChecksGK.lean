/- GK, for the statement QueryChecks: what it needs, no more. -/
import Derived.Test.YtphfgnecmgpnaaaZQueryChecksGI
set_option linter.unusedVariables false
set_option maxRecDepth 8000
set_option maxHeartbeats 4000000
namespace Go.RM.Try
open Go.RM Go.Proofs
variable {X : FuncId → List PV → Heap → PV → Heap → Prop}
def r14_Check.b1 (a0 : TPds) (a1 : TAuto) : Int → Rnd Int Unit Int → Prop := fun x1 z1 => if x1 < (a1.Trans.length : Int) then (((InR x1 a1.Trans.length)) ∧ (¬ ((rdl a1.Trans x1).Sym < 0) → (InR x1 a1.Trans.length)) ∧ if ((decide ((rdl a1.Trans x1).Sym < 0)) || (decide ((rdl a1.Trans x1).To < a0.States))) = true then (z1 = .ret 140) else (z1 = .next (IntKind.i64.wrap (x1 + 1)))) else (z1 = .exit ())
def r14_Check.f (a0 : TPds) (a1 : TAuto) (r : Int) : Prop :=
  ∃ t2_1 : Int, (r11_Check.f a0 t2_1) ∧ if t2_1 = 0 then (∃ t4_1 : Int, (r10_Check.f a1 t4_1) ∧ if t4_1 = 0 then (∃ t6_4 : Bool, (r05_SameSpace.f a0.Space a1.Space t6_4) ∧ if ((!t6_4) || ((!(a1.Symbols == a0.Symbols)) || (decide (a1.States < a0.States)))) = true then (r = 140) else (∃ o1 : Fin Unit Int, Loop (r14_Check.b1 a0 a1) 0 o1 ∧ o1.on (fun _ => r = 0) (fun r_ => r = r_))) else (r = t4_1)) else (r = t2_1)
theorem r14_Check.D {a0 : TPds} {a1 : TAuto} {r : Int} (h : r14_Check.f a0 a1 r) : D Try.prog X (.callH 11 [.agg (TPds.lit a0), .agg (TAuto.lit a1)] [] (.val (.int .i64 r)) []) := by
  unfold r14_Check.f at h
  refine .enter 63 0 fn11 rfl rfl rfl ?_
  refine .seq ?_
  refine .room 0 ?_
  refine .room 0 ?_
  refine .reg0 rfl (.op 0 rfl (bxP (s := 6) (cs := (TPds.lit a0)) rfl ⟨rfl, by decide, rfl⟩ rfl) <| .op 1 rfl (bxP (s := 7) (cs := (TAuto.lit a1)) rfl ⟨rfl, by decide, rfl⟩ rfl) <| .op 0 rfl (asV rfl) <| .nil0) ?_
  refine .seq ?_
  obtain ⟨t2_1, g2_1, h⟩ := h
  refine .reg0 rfl (.op 0 rfl (ldG rfl sz28 ag28 rfl) <| .callI rfl (callee_of rfl go22 rfl) (.pure rfl rfl (r11_Check.D g2_1)) <| .op 0 rfl (asV rfl) <| .nil0) ?_
  refine .seq ?_
  refine .seq ?_
  refine .reg0 rfl (.op 0 rfl (mvV rfl) <| .op 0 rfl (neI rfl rfl) <| .nil0) ?_
  by_cases c1 : t2_1 = 0
  · rw [if_pos c1] at h
    refine .condF rfl (bne_eq_false_iff_eq.mpr c1) ?_
    refine .skip ?_
    refine .seq ?_
    obtain ⟨t4_1, g4_1, h⟩ := h
    refine .reg0 rfl (.op 0 rfl (ldG rfl sz35 ag35 rfl) <| .callI rfl (callee_of rfl go27 rfl) (.pure rfl rfl (r10_Check.D g4_1)) <| .op 0 rfl (asV rfl) <| .nil0) ?_
    refine .seq ?_
    refine .seq ?_
    refine .reg0 rfl (.op 0 rfl (mvV rfl) <| .op 0 rfl (neI rfl rfl) <| .nil0) ?_
    by_cases c2 : t4_1 = 0
    · rw [if_pos c2] at h
      refine .condF rfl (bne_eq_false_iff_eq.mpr c2) ?_
      refine .skip ?_
      refine .seq ?_
      refine .seq ?_
      obtain ⟨t6_4, g6_4, h⟩ := h
      refine .reg0 (e1 := listEnv [(2, .ptr 0 1 6 0 0), (3, .ptr 1 1 7 0 0), (37, .val (.bool ((!t6_4) || ((!(a1.Symbols == a0.Symbols)) || (decide (a1.States < a0.States))))))]) (H1 := [⟨6, [(TPds.lit a0)], 0, none⟩, ⟨7, [(TAuto.lit a1)], 0, none⟩]) rfl ?_ ?_
      · by_cases c3 : t6_4 = true
        · by_cases c4 : a1.Symbols = a0.Symbols
          · exact (.op 0 rfl (faP fa28_0 rfl) <| .op 0 rfl (ldG rfl sz25 ag25 rfl) <| .op 0 rfl (faP fa35_0 rfl) <| .op 0 rfl (ldG rfl sz25 ag25 rfl) <| .callI rfl (callee_of rfl go21 rfl) (.pure rfl rfl (r05_SameSpace.D g6_4)) <| .op 0 rfl (notB rfl) <| .op 0 rfl (mvV rfl) <| .op 0 (gT rfl rfl rfl (bnotF c3)) (faP fa35_2 rfl) <| .op 0 (gT rfl rfl rfl (bnotF c3)) (ldP rfl sz3 ag3 rfl) <| .op 0 (gT rfl rfl rfl (bnotF c3)) (faP fa28_2 rfl) <| .op 0 (gT rfl rfl rfl (bnotF c3)) (ldP rfl sz3 ag3 rfl) <| .op 0 (gT rfl rfl rfl (bnotF c3)) (neI rfl rfl) <| .op 0 rfl (pkFV rfl (bnotF c3) rfl) <| .op 0 rfl (mvV rfl) <| .op 0 (gT rfl rfl rfl (bne_eq_false_iff_eq.mpr c4)) (faP fa35_1 rfl) <| .op 0 (gT rfl rfl rfl (bne_eq_false_iff_eq.mpr c4)) (ldP rfl sz3 ag3 rfl) <| .op 0 (gT rfl rfl rfl (bne_eq_false_iff_eq.mpr c4)) (faP fa28_1 rfl) <| .op 0 (gT rfl rfl rfl (bne_eq_false_iff_eq.mpr c4)) (ldP rfl sz3 ag3 rfl) <| .op 0 (gT rfl rfl rfl (bne_eq_false_iff_eq.mpr c4)) (ltI rfl rfl) <| .op 0 rfl (pkFV rfl (bne_eq_false_iff_eq.mpr c4) rfl) <| .nilL _ ⟨.ptr rfl, .ptr rfl, cB rfl (mOrF (bnotF c3) (mOrF (bnotF (beq_iff_eq.mpr c4)) rfl)), trivial⟩)
          · exact (.op 0 rfl (faP fa28_0 rfl) <| .op 0 rfl (ldG rfl sz25 ag25 rfl) <| .op 0 rfl (faP fa35_0 rfl) <| .op 0 rfl (ldG rfl sz25 ag25 rfl) <| .callI rfl (callee_of rfl go21 rfl) (.pure rfl rfl (r05_SameSpace.D g6_4)) <| .op 0 rfl (notB rfl) <| .op 0 rfl (mvV rfl) <| .op 0 (gT rfl rfl rfl (bnotF c3)) (faP fa35_2 rfl) <| .op 0 (gT rfl rfl rfl (bnotF c3)) (ldP rfl sz3 ag3 rfl) <| .op 0 (gT rfl rfl rfl (bnotF c3)) (faP fa28_2 rfl) <| .op 0 (gT rfl rfl rfl (bnotF c3)) (ldP rfl sz3 ag3 rfl) <| .op 0 (gT rfl rfl rfl (bnotF c3)) (neI rfl rfl) <| .op 0 rfl (pkFV rfl (bnotF c3) rfl) <| .op 0 rfl (mvV rfl) <| .no (gF rfl rfl rfl (bne_iff_ne.mpr c4)) <| .no (gF rfl rfl rfl (bne_iff_ne.mpr c4)) <| .no (gF rfl rfl rfl (bne_iff_ne.mpr c4)) <| .no (gF rfl rfl rfl (bne_iff_ne.mpr c4)) <| .no (gF rfl rfl rfl (bne_iff_ne.mpr c4)) <| .op 0 rfl (pkTV rfl (bne_iff_ne.mpr c4) rfl) <| .nilL _ ⟨.ptr rfl, .ptr rfl, cB rfl (mOrF (bnotF c3) (mOrT (bnotT (beq_eq_false_iff_ne.mpr c4)))), trivial⟩)
        · exact (.op 0 rfl (faP fa28_0 rfl) <| .op 0 rfl (ldG rfl sz25 ag25 rfl) <| .op 0 rfl (faP fa35_0 rfl) <| .op 0 rfl (ldG rfl sz25 ag25 rfl) <| .callI rfl (callee_of rfl go21 rfl) (.pure rfl rfl (r05_SameSpace.D g6_4)) <| .op 0 rfl (notB rfl) <| .op 0 rfl (mvV rfl) <| .no (gF rfl rfl rfl (bnotT (Bool.eq_false_iff.mpr c3))) <| .no (gF rfl rfl rfl (bnotT (Bool.eq_false_iff.mpr c3))) <| .no (gF rfl rfl rfl (bnotT (Bool.eq_false_iff.mpr c3))) <| .no (gF rfl rfl rfl (bnotT (Bool.eq_false_iff.mpr c3))) <| .no (gF rfl rfl rfl (bnotT (Bool.eq_false_iff.mpr c3))) <| .op 0 rfl (pkTV rfl (bnotT (Bool.eq_false_iff.mpr c3)) rfl) <| .op 0 rfl (mvV rfl) <| .no (gF rfl rfl rfl rfl) <| .no (gF rfl rfl rfl rfl) <| .no (gF rfl rfl rfl rfl) <| .no (gF rfl rfl rfl rfl) <| .no (gF rfl rfl rfl rfl) <| .op 0 rfl (pkTV rfl rfl rfl) <| .nilL _ ⟨.ptr rfl, .ptr rfl, cB rfl (mOrT (bnotT (Bool.eq_false_iff.mpr c3))), trivial⟩)
      by_cases c5 : ((!t6_4) || ((!(a1.Symbols == a0.Symbols)) || (decide (a1.States < a0.States)))) = true
      · rw [if_pos c5] at h
        refine .condT rfl c5 ?_
        refine .seq ?_
        refine .reg0 rfl (.op 0 rfl (asV rfl) <| .nil0) ?_
        replace h := h.symm
        subst h
        refine .keepL [] [(4, .val (.int .i64 140))] [] (by decide) (by decide) ⟨.free rfl rfl, trivial⟩ trivial ?_
        exact .ret rfl
      · rw [if_neg c5] at h
        refine .condF rfl (Bool.eq_false_iff.mpr c5) ?_
        refine .skip ?_
        refine .seq ?_
        refine .seq ?_
        refine .reg0 rfl (.op 0 rfl (asV rfl) <| .nil0) ?_
        refine .block ?_
        refine .keepL [0, 1] [(2, .ptr 0 1 6 0 0), (3, .ptr 1 1 7 0 0), (7, .val (.int .i64 0))] [⟨6, [(TPds.lit a0)], 0, none⟩, ⟨7, [(TAuto.lit a1)], 0, none⟩] (by decide) (by decide) ⟨.ptr rfl, .ptr rfl, .free rfl rfl, trivial⟩ ⟨⟨_, rfl, bcBox (all2_free rfl)⟩, ⟨_, rfl, bcBox (all2_free rfl)⟩, trivial⟩ ?_
        obtain ⟨o1, hL1, h⟩ := h
        refine .loopB (r14_Check.b1 a0 a1) (fun x1 => listEnv [(2, .ptr 0 1 6 0 0), (3, .ptr 1 1 7 0 0), (7, .val (.int .i64 x1))]) (fun x1 => [⟨6, [(TPds.lit a0)], 0, none⟩, ⟨7, [(TAuto.lit a1)], 0, none⟩]) (fun _ => listEnv []) (fun _ => []) hL1 (fun r_ => r = r_) ?_ ?_ ?_
        · rintro ⟨⟩ rfl
          try dsimp only [Fin.on] at h
          refine .seq ?_
          refine .reg0 rfl (.op 0 rfl (asV rfl) <| .nil0) ?_
          replace h := h.symm
          subst h
          refine .keepL [] [(4, .val (.int .i64 0))] [] (by decide) (by decide) ⟨.free rfl rfl, trivial⟩ trivial ?_
          exact .ret rfl
        · rintro r_ rfl
          exact h
        · rintro x1 z1 h hn1 hx1 hr1
          dsimp only [r14_Check.b1] at h
          refine .seq ?_
          refine .seq ?_
          refine .reg0 rfl (.op 0 rfl (mvV rfl) <| .op 0 rfl (faP fa35_4 rfl) <| .op 0 rfl (ldP rfl sz33 ag33 rfl) <| .op 0 rfl (lnR (l := a1.Trans) sl33 rfl) <| .op 0 rfl (ltI rfl rfl) <| .nil0) ?_
          by_cases c12 : x1 < (a1.Trans.length : Int)
          · rw [if_pos c12] at h
            refine .condT rfl (decide_eq_true c12) ?_
            refine .skip ?_
            refine .seq ?_
            refine .block ?_
            refine .seq ?_
            obtain ⟨g18_3, h⟩ := h
            obtain ⟨g18_11, h⟩ := h
            refine .reg1 (e1 := listEnv [(2, .ptr 0 1 6 0 0), (3, .ptr 1 1 7 0 0), (7, .val (.int .i64 x1)), (62, .val (.bool ((decide ((rdl a1.Trans x1).Sym < 0)) || (decide ((rdl a1.Trans x1).To < a0.States)))))]) (H1 := [⟨6, [(TPds.lit a0)], 0, none⟩, ⟨7, [(TAuto.lit a1)], 0, none⟩]) rfl ?_ ?_
            · by_cases c13 : (rdl a1.Trans x1).Sym < 0
              · exact .drawM [(17, 62, .val (.bool true)), (16, 61, .val undef), (15, 60, .val undef), (14, 59, .val undef), (13, 58, .val undef), (12, 57, .val undef), (11, 56, .val undef), (10, 55, .val undef), (9, 54, .val undef), (8, 53, .val undef), (7, 52, .val (.bool (decide ((rdl a1.Trans x1).Sym < 0)))), (6, 51, .val (.bool (decide ((rdl a1.Trans x1).Sym < 0)))), (5, 50, .val (.int .i64 ((rdl a1.Trans x1).Sym))), (4, 49, .cptr (TTrans.lit (rdl a1.Trans x1)) 1), (3, 48, .cptr (TTrans.lit (rdl a1.Trans x1)) 0), (2, 47, .val (.int .i64 x1)), (1, 46, .rows (a1.Trans.map TTrans.cells)), (0, 45, .ptr 1 1 7 0 6)] [] [[], [0], [], [1, 0, 2], [3, 1, 0, 2], [4, 3, 1, 0, 2], [5, 4, 3, 1, 0, 2], [6, 5, 4, 3, 1, 0, 2], [7, 6, 5, 4, 3, 1, 0, 2], [8, 7, 6, 5, 4, 3, 1, 0, 2], [7, 6, 5, 4, 3, 1, 0, 2], [9, 8, 7, 6, 5, 4, 3, 1, 0, 2, 10], [11, 9, 8, 7, 6, 5, 4, 3, 1, 0, 2, 10], [12, 11, 9, 8, 7, 6, 5, 4, 3, 1, 0, 2, 10], [7, 6, 5, 4, 3, 1, 0, 2], [14, 7, 6, 5, 4, 3, 1, 0, 2], [13, 12, 11, 9, 8, 7, 6, 5, 4, 3, 1, 0, 2, 10, 15, 14], [7, 6, 5, 4, 3, 1, 0, 2, 16, 13, 12, 11, 9, 8, 10, 15, 14]] (by rfl) (by rfl) (by rfl) (by exact ⟨fun S hS hD hn => .one 0 hS hD hn rfl rfl (faP fa35_4 rfl) rfl rfl rfl, fun S hS hD hn => .one 0 hS hD hn rfl rfl (ldP rfl sz33 ag33 rfl) rfl rfl rfl, fun S hS hD hn => .one 0 hS hD hn rfl rfl (mvV rfl) rfl rfl rfl, fun S hS hD hn => .one 0 hS hD hn rfl rfl (ixR (l := a1.Trans) (lit := TTrans.lit) sl33 rfl rfl (fun _ => rfl) g18_3.1 g18_3.2) rfl rfl rfl, fun S hS hD hn => .one 0 hS hD hn rfl rfl (faC fa59_1 rfl) rfl rfl rfl, fun S hS hD hn => .one 0 hS hD hn rfl rfl (ldC rfl sz3 ag3 rfl) rfl rfl rfl, fun S hS hD hn => .one 0 hS hD hn rfl rfl (ltI rfl rfl) rfl rfl rfl, fun S hS hD hn => .one 0 hS hD hn rfl rfl (mvV rfl) rfl rfl rfl, fun S hS hD hn => .oneNo hS hD (gF rfl rfl rfl (decide_eq_true c13)) rfl hn rfl rfl rfl, fun S hS hD hn => .oneNo hS hD (gF rfl rfl rfl (decide_eq_true c13)) rfl hn rfl rfl rfl, fun S hS hD hn => .oneNo hS hD (gF rfl rfl rfl (decide_eq_true c13)) rfl hn rfl rfl rfl, fun S hS hD hn => .oneNo hS hD (gF rfl rfl rfl (decide_eq_true c13)) rfl hn rfl rfl rfl, fun S hS hD hn => .oneNo hS hD (gF rfl rfl rfl (decide_eq_true c13)) rfl hn rfl rfl rfl, fun S hS hD hn => .oneNo hS hD (gF rfl rfl rfl (decide_eq_true c13)) rfl hn rfl rfl rfl, fun S hS hD hn => .oneNo hS hD (gF rfl rfl rfl (decide_eq_true c13)) rfl hn rfl rfl rfl, fun S hS hD hn => .oneNo hS hD (gF rfl rfl rfl (decide_eq_true c13)) rfl hn rfl rfl rfl, fun S hS hD hn => .oneNo hS hD (gF rfl rfl rfl (decide_eq_true c13)) rfl hn rfl rfl rfl, fun S hS hD hn => .one 0 hS hD hn rfl rfl (pkTV rfl (decide_eq_true c13) rfl) rfl rfl rfl, trivial⟩) _ (by exact ⟨.ptr rfl, .ptr rfl, .free rfl rfl, cB rfl (mOrT (decide_eq_true c13)), trivial⟩) (by rfl)
              · exact .drawM [(17, 62, .val (.bool (decide ((rdl a1.Trans x1).To < a0.States)))), (16, 61, .val (.bool (decide ((rdl a1.Trans x1).To < a0.States)))), (15, 60, .val (.int .i64 a0.States)), (14, 59, .ptr 0 1 6 0 3), (13, 58, .val (.int .i64 ((rdl a1.Trans x1).To))), (12, 57, .cptr (TTrans.lit (rdl a1.Trans x1)) 2), (11, 56, .cptr (TTrans.lit (rdl a1.Trans x1)) 0), (10, 55, .val (.int .i64 x1)), (9, 54, .rows (a1.Trans.map TTrans.cells)), (8, 53, .ptr 1 1 7 0 6), (7, 52, .val (.bool (decide ((rdl a1.Trans x1).Sym < 0)))), (6, 51, .val (.bool (decide ((rdl a1.Trans x1).Sym < 0)))), (5, 50, .val (.int .i64 ((rdl a1.Trans x1).Sym))), (4, 49, .cptr (TTrans.lit (rdl a1.Trans x1)) 1), (3, 48, .cptr (TTrans.lit (rdl a1.Trans x1)) 0), (2, 47, .val (.int .i64 x1)), (1, 46, .rows (a1.Trans.map TTrans.cells)), (0, 45, .ptr 1 1 7 0 6)] [] [[], [0], [], [1, 0, 2], [3, 1, 0, 2], [4, 3, 1, 0, 2], [5, 4, 3, 1, 0, 2], [6, 5, 4, 3, 1, 0, 2], [7, 6, 5, 4, 3, 1, 0, 2], [8, 7, 6, 5, 4, 3, 1, 0, 2], [7, 6, 5, 4, 3, 1, 0, 2], [9, 8, 7, 6, 5, 4, 3, 1, 0, 2, 10], [11, 9, 8, 7, 6, 5, 4, 3, 1, 0, 2, 10], [12, 11, 9, 8, 7, 6, 5, 4, 3, 1, 0, 2, 10], [7, 6, 5, 4, 3, 1, 0, 2], [14, 7, 6, 5, 4, 3, 1, 0, 2], [13, 12, 11, 9, 8, 7, 6, 5, 4, 3, 1, 0, 2, 10, 15, 14], [7, 6, 5, 4, 3, 1, 0, 2, 16, 13, 12, 11, 9, 8, 10, 15, 14]] (by rfl) (by rfl) (by rfl) (by exact ⟨fun S hS hD hn => .one 0 hS hD hn rfl rfl (faP fa35_4 rfl) rfl rfl rfl, fun S hS hD hn => .one 0 hS hD hn rfl rfl (ldP rfl sz33 ag33 rfl) rfl rfl rfl, fun S hS hD hn => .one 0 hS hD hn rfl rfl (mvV rfl) rfl rfl rfl, fun S hS hD hn => .one 0 hS hD hn rfl rfl (ixR (l := a1.Trans) (lit := TTrans.lit) sl33 rfl rfl (fun _ => rfl) g18_3.1 g18_3.2) rfl rfl rfl, fun S hS hD hn => .one 0 hS hD hn rfl rfl (faC fa59_1 rfl) rfl rfl rfl, fun S hS hD hn => .one 0 hS hD hn rfl rfl (ldC rfl sz3 ag3 rfl) rfl rfl rfl, fun S hS hD hn => .one 0 hS hD hn rfl rfl (ltI rfl rfl) rfl rfl rfl, fun S hS hD hn => .one 0 hS hD hn rfl rfl (mvV rfl) rfl rfl rfl, fun S hS hD hn => .one 0 hS hD hn (gT rfl rfl rfl (decide_eq_false c13)) rfl (faP fa35_4 rfl) rfl rfl rfl, fun S hS hD hn => .one 0 hS hD hn (gT rfl rfl rfl (decide_eq_false c13)) rfl (ldP rfl sz33 ag33 rfl) rfl rfl rfl, fun S hS hD hn => .one 0 hS hD hn (gT rfl rfl rfl (decide_eq_false c13)) rfl (mvV rfl) rfl rfl rfl, fun S hS hD hn => .one 0 hS hD hn (gT rfl rfl rfl (decide_eq_false c13)) rfl (ixR (l := a1.Trans) (lit := TTrans.lit) sl33 rfl rfl (fun _ => rfl) (g18_11 c13).1 (g18_11 c13).2) rfl rfl rfl, fun S hS hD hn => .one 0 hS hD hn (gT rfl rfl rfl (decide_eq_false c13)) rfl (faC fa59_2 rfl) rfl rfl rfl, fun S hS hD hn => .one 0 hS hD hn (gT rfl rfl rfl (decide_eq_false c13)) rfl (ldC rfl sz3 ag3 rfl) rfl rfl rfl, fun S hS hD hn => .one 0 hS hD hn (gT rfl rfl rfl (decide_eq_false c13)) rfl (faP fa28_1 rfl) rfl rfl rfl, fun S hS hD hn => .one 0 hS hD hn (gT rfl rfl rfl (decide_eq_false c13)) rfl (ldP rfl sz3 ag3 rfl) rfl rfl rfl, fun S hS hD hn => .one 0 hS hD hn (gT rfl rfl rfl (decide_eq_false c13)) rfl (ltI rfl rfl) rfl rfl rfl, fun S hS hD hn => .one 0 hS hD hn rfl rfl (pkFV rfl (decide_eq_false c13) rfl) rfl rfl rfl, trivial⟩) _ (by exact ⟨.ptr rfl, .ptr rfl, .free rfl rfl, cB rfl (mOrF (decide_eq_false c13) rfl), trivial⟩) (by rfl)
            by_cases c14 : ((decide ((rdl a1.Trans x1).Sym < 0)) || (decide ((rdl a1.Trans x1).To < a0.States))) = true
            · rw [if_pos c14] at h
              refine .condT rfl c14 ?_
              refine .seq ?_
              refine .reg0 rfl (.op 0 rfl (asV rfl) <| .nil0) ?_
              have q3 := hr1 _ h
              replace q3 := q3.symm
              subst q3
              refine .keepL [] [(4, .val (.int .i64 140))] [] (by decide) (by decide) ⟨.free rfl rfl, trivial⟩ trivial ?_
              exact .ret rfl
            · rw [if_neg c14] at h
              refine .condF rfl (Bool.eq_false_iff.mpr c14) ?_
              refine .skip ?_
              refine .inBlock ?_
              refine .reg0 rfl (.op 0 rfl (mvV rfl) <| .op 0 rfl (addI rfl rfl) <| .op 0 rfl (asV rfl) <| .nil0) ?_
              refine .keepL [0, 1] [(2, .ptr 0 1 6 0 0), (3, .ptr 1 1 7 0 0), (7, .val (.int .i64 (IntKind.i64.wrap (x1 + 1))))] [⟨6, [(TPds.lit a0)], 0, none⟩, ⟨7, [(TAuto.lit a1)], 0, none⟩] (by decide) (by decide) ⟨.ptr rfl, .ptr rfl, .free rfl rfl, trivial⟩ ⟨⟨_, rfl, bcBox (all2_free rfl)⟩, ⟨_, rfl, bcBox (all2_free rfl)⟩, trivial⟩ ?_
              exact hn1 _ h
          · rw [if_neg c12] at h
            refine .condF rfl (decide_eq_false c12) ?_
            refine .exit rfl ?_
            refine .keepL [] [] [] (by decide) (by decide) trivial trivial ?_
            exact hx1 _ h
    · rw [if_neg c2] at h
      refine .condT rfl (bne_iff_ne.mpr c2) ?_
      refine .seq ?_
      refine .reg0 rfl (.op 0 rfl (mvV rfl) <| .op 0 rfl (asV rfl) <| .nil0) ?_
      replace h := h.symm
      subst h
      refine .keepL [] [(4, .val (.int .i64 t4_1))] [] (by decide) (by decide) ⟨.free rfl rfl, trivial⟩ trivial ?_
      exact .ret rfl
  · rw [if_neg c1] at h
    refine .condT rfl (bne_iff_ne.mpr c1) ?_
    refine .seq ?_
    refine .reg0 rfl (.op 0 rfl (mvV rfl) <| .op 0 rfl (asV rfl) <| .nil0) ?_
    replace h := h.symm
    subst h
    refine .keepL [] [(4, .val (.int .i64 t2_1))] [] (by decide) (by decide) ⟨.free rfl rfl, trivial⟩ trivial ?_
    exact .ret rfl
def wfa_Check_1.f (a0 : Int) (f0 : TAuto) (r : Bool) : Prop :=
  r = ((decide (a0 ≥ 0)) && (decide (a0 < f0.States)))
theorem wfa_Check_1.D {a0 : Int} {f0 : TAuto} {r : Bool} (h : wfa_Check_1.f a0 f0 r) : D Try.prog X (.callH 50 [.val (.int .i64 a0), .cptr (TAuto.lit f0) 0] [] (.val (.bool r)) []) := by
  unfold wfa_Check_1.f at h
  refine .enter 12 0 fn50 rfl rfl rfl ?_
  refine .seq ?_
  refine .reg0 rfl (.op 0 rfl (asV rfl) <| .nil0) ?_
  refine .seq ?_
  refine .reg0 (e1 := listEnv [(3, .val (.bool ((decide (a0 ≥ 0)) && (decide (a0 < f0.States)))))]) (H1 := []) rfl ?_ ?_
  · by_cases c1 : a0 ≥ 0
    · exact (.op 0 rfl (mvV rfl) <| .op 0 rfl (geI rfl rfl) <| .op 0 rfl (mvV rfl) <| .op 0 (gT rfl rfl rfl (decide_eq_true c1)) (mvV rfl) <| .op 0 (gT rfl rfl rfl (decide_eq_true c1)) (faC fa35_1 rfl) <| .op 0 (gT rfl rfl rfl (decide_eq_true c1)) (ldC rfl sz3 ag3 rfl) <| .op 0 (gT rfl rfl rfl (decide_eq_true c1)) (ltI rfl rfl) <| .op 0 rfl (pkTV rfl (decide_eq_true c1) rfl) <| .op 0 rfl (asV rfl) <| .nilL _ ⟨cB rfl (mAndT (decide_eq_true c1) rfl), trivial⟩)
    · exact (.op 0 rfl (mvV rfl) <| .op 0 rfl (geI rfl rfl) <| .op 0 rfl (mvV rfl) <| .no (gF rfl rfl rfl (decide_eq_false c1)) <| .no (gF rfl rfl rfl (decide_eq_false c1)) <| .no (gF rfl rfl rfl (decide_eq_false c1)) <| .no (gF rfl rfl rfl (decide_eq_false c1)) <| .op 0 rfl (pkFV rfl (decide_eq_false c1) rfl) <| .op 0 rfl (asV rfl) <| .nilL _ ⟨cB rfl (mAndF (decide_eq_false c1)), trivial⟩)
  replace h := h.symm
  subst h
  refine .keepL [] [(3, .val (.bool ((decide (a0 ≥ 0)) && (decide (a0 < f0.States)))))] [] (by decide) (by decide) ⟨.free rfl rfl, trivial⟩ trivial ?_
  exact .ret rfl
end Go.RM.Try
