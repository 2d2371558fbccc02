/- GK, for the statement QueryOnes: what it needs, no more. -/
import Derived.Test.YtphfgnecmgpnaaaZQueryOnesGJ
set_option linter.unusedVariables false
set_option maxRecDepth 8000
set_option maxHeartbeats 4000000
namespace Go.RM.Try
open Go.RM Go.Proofs
variable {X : FuncId → List PV → Heap → PV → Heap → Prop}
def r10_rest_o0.b1 (a0 : TAuto) : ((List TWeight) × Int) → Rnd (((List TWeight) × Int)) ((List TWeight)) ((List TWeight)) → Prop := fun (x2, x3) z1 => if x3 < a0.States then (∃ t11_3 : TWeight, (r10_Zero.f a0.Space t11_3) ∧ ((Fits (x2.length + 1) 96)) ∧ z1 = .next ((x2 ++ [t11_3]), (IntKind.i64.wrap (x3 + 1)))) else (z1 = .exit x2)
def r10_rest_o0.j1 (x8 : Int) : (List TWeight) → (Rnd (((List TWeight) × Int)) ((List TWeight)) ((List TWeight))) → Prop := fun x13 z2 => z2 = .next (x13, (IntKind.i64.wrap (x8 + 1)))
def r10_rest_o0.b2 (a0 : TAuto) (a1 : Bool) (a2 : Int) (a3 : List TWeight) : ((List TWeight) × Int) → Rnd (((List TWeight) × Int)) ((List TWeight)) ((List TWeight)) → Prop := fun (x7, x8) z2 => if x8 < (a0.Trans.length : Int) then (((InR x8 a0.Trans.length)) ∧ if (rdl a0.Trans x8).Sym = a2 then (((InR ((rdl a0.Trans x8).From) x7.length)) ∧ ((InR ((rdl a0.Trans x8).To) a3.length)) ∧ ∃ t43_20 : TWeight, (r10_Ext.f a0.Space a1 ((rdl a0.Trans x8).W) (rdl a3 ((rdl a0.Trans x8).To)) t43_20) ∧ ∃ t43_21 : TWeight, (r05_Either.f a0.Space (rdl x7 ((rdl a0.Trans x8).From)) t43_20 t43_21) ∧ ((InR ((rdl a0.Trans x8).From) x7.length)) ∧ r10_rest_o0.j1 x8 (setl x7 ((rdl a0.Trans x8).From) t43_21) z2) else (r10_rest_o0.j1 x8 x7 z2)) else (z2 = .exit x7)
def r10_rest_o0.f (a0 : TAuto) (a1 : Bool) (a2 : Int) (a3 : List TWeight) (r : (List TWeight)) : Prop :=
  ∃ o1 : Fin ((List TWeight)) ((List TWeight)), Loop (r10_rest_o0.b1 a0) ([], 0) o1 ∧ o1.on (fun x4 => ∃ o2 : Fin ((List TWeight)) ((List TWeight)), Loop (r10_rest_o0.b2 a0 a1 a2 a3) (x4, 0) o2 ∧ o2.on (fun x11 => r = x11) (fun r_ => r = r_)) (fun r_ => r = r_)
theorem r10_rest_o0.D {a0 : TAuto} {a1 : Bool} {a2 : Int} {a3 : List TWeight} {r : (List TWeight)} (h : r10_rest_o0.f a0 a1 a2 a3 r) : D Try.prog X (.callH 26 [.agg (TAuto.lit a0), .val (.bool a1), .val (.int .i64 a2), .rows (a3.map TWeight.cells)] [] (.own 0 r.length) [⟨6, r.map TWeight.cells, 0, none⟩]) := by
  unfold r10_rest_o0.f at h
  refine .enter 65 0 fn26 rfl rfl rfl ?_
  refine .seq ?_
  refine .room 0 ?_
  refine .reg0 rfl (.op 0 rfl (bxP (s := 7) (cs := (TAuto.lit a0)) rfl ⟨rfl, by decide, rfl⟩ rfl) <| .op 0 rfl (asV rfl) <| .nil0) ?_
  refine .seq ?_
  refine .reg0 rfl (.op 0 rfl (asV rfl) <| .nil0) ?_
  refine .seq ?_
  refine .seq ?_
  refine .reg0 rfl (.op 0 rfl (asV rfl) <| .nil0) ?_
  refine .block ?_
  refine .room 6 ?_
  refine .keepL [0, 1] [(1, .val (.bool a1)), (2, .val (.int .i64 a2)), (3, .rows (a3.map TWeight.cells)), (4, .ptr 0 1 7 0 0), (9, .own 1 0), (10, .val (.int .i64 0))] [⟨7, [(TAuto.lit a0)], 0, none⟩, ⟨6, [].map TWeight.cells, 0, none⟩] (by decide) (by decide) ⟨.free rfl rfl, .free rfl rfl, .free rfl rfl, .ptr rfl, .nilOwn, .free rfl rfl, trivial⟩ ⟨⟨_, rfl, bcBox (all2_free rfl)⟩, ⟨_, rfl, (bcRow (l := []) sl46 (Nat.le_refl _) rfl)⟩, trivial⟩ ?_
  obtain ⟨o1, hL1, h⟩ := h
  refine .loopB (r10_rest_o0.b1 a0) (fun (x2, x3) => listEnv [(1, .val (.bool a1)), (2, .val (.int .i64 a2)), (3, .rows (a3.map TWeight.cells)), (4, .ptr 0 1 7 0 0), (9, .own 1 x2.length), (10, .val (.int .i64 x3))]) (fun (x2, x3) => [⟨7, [(TAuto.lit a0)], 0, none⟩, ⟨6, x2.map TWeight.cells, 0, none⟩]) (fun x4 => listEnv [(1, .val (.bool a1)), (2, .val (.int .i64 a2)), (3, .rows (a3.map TWeight.cells)), (4, .ptr 0 1 7 0 0), (9, .own 1 x4.length)]) (fun x4 => [⟨7, [(TAuto.lit a0)], 0, none⟩, ⟨6, x4.map TWeight.cells, 0, none⟩]) hL1 (fun r_ => r = r_) ?_ ?_ ?_
  · rintro x4 rfl
    try dsimp only [Fin.on] at h
    refine .seq ?_
    refine .seq ?_
    refine .reg0 rfl (.op 0 rfl (asV rfl) <| .nil0) ?_
    refine .block ?_
    refine .keepL [0, 1] [(1, .val (.bool a1)), (2, .val (.int .i64 a2)), (3, .rows (a3.map TWeight.cells)), (4, .ptr 0 1 7 0 0), (9, .own 1 x4.length), (11, .val (.int .i64 0))] [⟨7, [(TAuto.lit a0)], 0, none⟩, ⟨6, x4.map TWeight.cells, 0, none⟩] (by decide) (by decide) ⟨.free rfl rfl, .free rfl rfl, .free rfl rfl, .ptr rfl, .own rfl, .free rfl rfl, trivial⟩ ⟨⟨_, rfl, bcBox (all2_free rfl)⟩, ⟨_, rfl, bcRow (l := x4) sl46 (Nat.le_refl _) rfl⟩, trivial⟩ ?_
    obtain ⟨o2, hL2, h⟩ := h
    refine .loopB (r10_rest_o0.b2 a0 a1 a2 a3) (fun (x7, x8) => listEnv [(1, .val (.bool a1)), (2, .val (.int .i64 a2)), (3, .rows (a3.map TWeight.cells)), (4, .ptr 0 1 7 0 0), (9, .own 1 x7.length), (11, .val (.int .i64 x8))]) (fun (x7, x8) => [⟨7, [(TAuto.lit a0)], 0, none⟩, ⟨6, x7.map TWeight.cells, 0, none⟩]) (fun x11 => listEnv [(9, .own 0 x11.length)]) (fun x11 => [⟨6, x11.map TWeight.cells, 0, none⟩]) hL2 (fun r_ => r = r_) ?_ ?_ ?_
    · rintro x11 rfl
      try dsimp only [Fin.on] at h
      refine .seq ?_
      refine .reg0 rfl (.op 0 rfl (mvO rfl) <| .op 0 rfl (asO rfl) <| .nil0) ?_
      replace h := h.symm
      subst h
      refine .keepL [0] [(8, .own 0 x11.length)] [⟨6, x11.map TWeight.cells, 0, none⟩] (by decide) (by decide) ⟨.own rfl, trivial⟩ ⟨⟨_, rfl, bcRow (l := x11) sl46 (Nat.le_refl _) rfl⟩, trivial⟩ ?_
      exact .ret rfl
    · rintro r_ rfl
      exact h
    · rintro ⟨x7, x8⟩ z2 h hn2 hx2 hr2
      dsimp only [r10_rest_o0.b2] at h
      refine .seq ?_
      refine .seq ?_
      refine .reg0 rfl (.op 0 rfl (mvV rfl) <| .op 0 rfl (faP fa35_4 rfl) <| .op 0 rfl (ldP rfl sz33 ag33 rfl) <| .op 0 rfl (lnR (l := a0.Trans) sl33 rfl) <| .op 0 rfl (ltI rfl rfl) <| .nil0) ?_
      by_cases c14 : x8 < (a0.Trans.length : Int)
      · rw [if_pos c14] at h
        refine .condT rfl (decide_eq_true c14) ?_
        refine .skip ?_
        refine .seq ?_
        refine .block ?_
        refine .seq ?_
        obtain ⟨g39_3, h⟩ := h
        refine .room 0 ?_
        refine .reg0 rfl (.op 0 rfl (faP fa35_4 rfl) <| .op 0 rfl (ldP rfl sz33 ag33 rfl) <| .op 0 rfl (mvV rfl) <| .op 0 rfl (ixR (l := a0.Trans) (lit := TTrans.lit) sl33 rfl rfl (fun _ => rfl) g39_3.1 g39_3.2) <| .op 0 rfl (ldCG rfl sz59 ag59 rfl) <| .op 2 rfl (alP (s := 9) ze59 ⟨rfl, by decide, rfl⟩ rfl) <| .op 0 rfl (stB (cs0 := [.val (.int .i64 0), .val (.int .i64 0), .val (.int .i64 0), .val (.bool false), .val (.int .i64 0), .val (.int .u64 0), .val (.slice none 0 0), .val (.slice none 0 0), .val (.slice none 0 0)]) (cs := (TTrans.lit (rdl a0.Trans x8))) (cs1 := (TTrans.lit (rdl a0.Trans x8))) rfl rfl sz59 rfl ⟨Nat.le_of_ble_eq_true rfl, rfl⟩ rfl) <| .nil0) ?_
        refine .seq ?_
        refine .reg0 rfl (.op 0 rfl (faP fa59_1 rfl) <| .op 0 rfl (ldP rfl sz3 ag3 rfl) <| .op 0 rfl (mvV rfl) <| .op 0 rfl (eqI rfl rfl) <| .nil0) ?_
        refine .consJ (fun s_ => r10_rest_o0.j1 x8 s_ z2) (fun x13 => listEnv [(1, .val (.bool a1)), (2, .val (.int .i64 a2)), (3, .rows (a3.map TWeight.cells)), (4, .ptr 0 1 7 0 0), (9, .own 1 x13.length), (11, .val (.int .i64 x8))]) (fun x13 => [⟨7, [(TAuto.lit a0)], 0, none⟩, ⟨6, x13.map TWeight.cells, 0, none⟩]) ?_ fun hJ1 => ?_
        · rintro x13 h
          unfold r10_rest_o0.j1 at h
          try dsimp only at h
          refine .inBlock ?_
          refine .reg0 rfl (.op 0 rfl (mvV rfl) <| .op 0 rfl (addI rfl rfl) <| .op 0 rfl (asV rfl) <| .nil0) ?_
          refine .keepL [0, 1] [(1, .val (.bool a1)), (2, .val (.int .i64 a2)), (3, .rows (a3.map TWeight.cells)), (4, .ptr 0 1 7 0 0), (9, .own 1 x13.length), (11, .val (.int .i64 (IntKind.i64.wrap (x8 + 1))))] [⟨7, [(TAuto.lit a0)], 0, none⟩, ⟨6, x13.map TWeight.cells, 0, none⟩] (by decide) (by decide) ⟨.free rfl rfl, .free rfl rfl, .free rfl rfl, .ptr rfl, .own rfl, .free rfl rfl, trivial⟩ ⟨⟨_, rfl, bcBox (all2_free rfl)⟩, ⟨_, rfl, bcRow (l := x13) sl46 (Nat.le_refl _) rfl⟩, trivial⟩ ?_
          exact hn2 _ h
        · by_cases c18 : (rdl a0.Trans x8).Sym = a2
          · rw [if_pos c18] at h
            refine .condT rfl (beq_iff_eq.mpr c18) ?_
            obtain ⟨g43_8, h⟩ := h
            obtain ⟨g43_18, h⟩ := h
            obtain ⟨t43_20, g43_20, h⟩ := h
            obtain ⟨t43_21, g43_21, h⟩ := h
            obtain ⟨g43_22, h⟩ := h
            refine .reg1 (e1 := listEnv [(1, .val (.bool a1)), (2, .val (.int .i64 a2)), (3, .rows (a3.map TWeight.cells)), (4, .ptr 0 1 7 0 0), (9, .own 1 x7.length), (11, .val (.int .i64 x8))]) (H1 := [⟨7, [(TAuto.lit a0)], 0, none⟩, ⟨6, (setl x7 ((rdl a0.Trans x8).From) t43_21).map TWeight.cells, 0, none⟩, ⟨9, [(TTrans.lit (rdl a0.Trans x8))], 0, none⟩]) rfl ?_ ?_
            · exact .drawM [(22, 63, .ptr 1 x7.length 6 (Int.toNat ((rdl a0.Trans x8).From)) 0), (21, 62, .agg (TWeight.lit t43_21)), (20, 61, .agg (TWeight.lit t43_20)), (19, 60, .agg (TWeight.lit (rdl a3 ((rdl a0.Trans x8).To)))), (18, 59, .cptr (TWeight.lit (rdl a3 ((rdl a0.Trans x8).To))) 0), (17, 58, .val (.int .i64 ((rdl a0.Trans x8).To))), (16, 57, .ptr 2 1 9 0 2), (15, 56, .rows (a3.map TWeight.cells)), (14, 55, .agg (TWeight.lit ((rdl a0.Trans x8).W))), (13, 54, .ptr 2 1 9 0 3), (12, 53, .val (.bool a1)), (11, 52, .agg (TSpace.lit a0.Space)), (10, 51, .ptr 0 1 7 0 0), (9, 50, .agg (TWeight.lit (rdl x7 ((rdl a0.Trans x8).From)))), (8, 49, .ptr 1 x7.length 6 (Int.toNat ((rdl a0.Trans x8).From)) 0), (7, 48, .val (.int .i64 ((rdl a0.Trans x8).From))), (6, 47, .ptr 2 1 9 0 0), (5, 46, .own 1 x7.length), (4, 45, .agg (TSpace.lit a0.Space)), (3, 44, .ptr 0 1 7 0 0), (2, 43, .val (.int .i64 ((rdl a0.Trans x8).From))), (1, 42, .ptr 2 1 9 0 0), (0, 41, .own 1 x7.length)] [(23, 1, ⟨6, (setl x7 ((rdl a0.Trans x8).From) t43_21).map TWeight.cells, 0, none⟩)] [[], [], [1], [], [3], [], [], [6], [5, 7, 6], [8, 5, 7, 6], [], [10], [], [], [13], [], [], [16], [15, 17, 16], [18, 15, 17, 16], [11, 10, 12, 14, 13, 19, 18, 15, 17, 16], [4, 3, 9, 8, 5, 7, 6, 20, 11, 10, 12, 14, 13, 19, 18, 15, 17, 16], [0, 2, 1, 3, 4, 5, 6, 7, 8, 9, 10, 11, 12, 13, 14, 15, 16, 17, 18, 19, 20, 21], [22, 0, 2, 1, 3, 4, 5, 6, 7, 8, 9, 10, 11, 12, 13, 14, 15, 16, 17, 18, 19, 20, 21]] (by rfl) (by rfl) (by rfl) (by exact ⟨fun S hS hD hn => .one 0 hS hD hn rfl rfl (mvO rfl) rfl rfl rfl, fun S hS hD hn => .one 0 hS hD hn rfl rfl (faP fa59_0 rfl) rfl rfl rfl, fun S hS hD hn => .one 0 hS hD hn rfl rfl (ldP rfl sz3 ag3 rfl) rfl rfl rfl, fun S hS hD hn => .one 0 hS hD hn rfl rfl (faP fa35_0 rfl) rfl rfl rfl, fun S hS hD hn => .one 0 hS hD hn rfl rfl (ldG rfl sz25 ag25 rfl) rfl rfl rfl, fun S hS hD hn => .one 0 hS hD hn rfl rfl (mvO rfl) rfl rfl rfl, fun S hS hD hn => .one 0 hS hD hn rfl rfl (faP fa59_0 rfl) rfl rfl rfl, fun S hS hD hn => .one 0 hS hD hn rfl rfl (ldP rfl sz3 ag3 rfl) rfl rfl rfl, fun S hS hD hn => .one 0 hS hD hn rfl rfl (ixO (l := x7) sl46 rfl rfl rfl rfl g43_8.1 g43_8.2) rfl rfl rfl, fun S hS hD hn => .one 0 hS hD hn rfl rfl (ldOG (l := x7) (j := ((rdl a0.Trans x8).From)) sl46 rfl sz48 ag48 rfl rfl TWeight.cells_lit g43_8.1 g43_8.2 (by decide) rfl) rfl rfl rfl, fun S hS hD hn => .one 0 hS hD hn rfl rfl (faP fa35_0 rfl) rfl rfl rfl, fun S hS hD hn => .one 0 hS hD hn rfl rfl (ldG rfl sz25 ag25 rfl) rfl rfl rfl, fun S hS hD hn => .one 0 hS hD hn rfl rfl (mvV rfl) rfl rfl rfl, fun S hS hD hn => .one 0 hS hD hn rfl rfl (faP fa59_3 rfl) rfl rfl rfl, fun S hS hD hn => .one 0 hS hD hn rfl rfl (ldG rfl sz48 ag48 rfl) rfl rfl rfl, fun S hS hD hn => .one 0 hS hD hn rfl rfl (mvR rfl) rfl rfl rfl, fun S hS hD hn => .one 0 hS hD hn rfl rfl (faP fa59_2 rfl) rfl rfl rfl, fun S hS hD hn => .one 0 hS hD hn rfl rfl (ldP rfl sz3 ag3 rfl) rfl rfl rfl, fun S hS hD hn => .one 0 hS hD hn rfl rfl (ixR (l := a3) (lit := TWeight.lit) sl46 rfl rfl TWeight.cells_lit g43_18.1 g43_18.2) rfl rfl rfl, fun S hS hD hn => .one 0 hS hD hn rfl rfl (ldCG rfl sz48 ag48 rfl) rfl rfl rfl, fun S hS hD hn => .oneI hS hD hn rfl rfl (callee_of rfl go41 rfl) (.pure rfl rfl (r10_Ext.D g43_20)) rfl rfl rfl, fun S hS hD hn => .oneI hS hD hn rfl rfl (callee_of rfl go40 rfl) (.pure rfl rfl (r05_Either.D g43_21)) rfl rfl rfl, fun S hS hD hn => .one 0 hS hD hn rfl rfl (ixO (l := x7) sl46 rfl rfl rfl rfl g43_22.1 g43_22.2) rfl rfl rfl, fun S hS hD hn => .one0 0 rfl rfl (stO (l := x7) (j := ((rdl a0.Trans x8).From)) (cs := (TWeight.lit t43_21)) t43_21 sl46 rfl rfl sz48 rfl rfl g43_22.1 g43_22.2 (Nat.zero_le _) ⟨Nat.le_of_ble_eq_true rfl, rfl⟩ (by simp only [TWeight.cells_lit]; rfl)) (drawE_other _ _ _ _ rfl) rfl, trivial⟩) _ (by exact ⟨.free rfl rfl, .free rfl rfl, .free rfl rfl, .ptr rfl, .own rfl, .free rfl rfl, trivial⟩) (by rfl)
            refine .keepL [0, 1] [(1, .val (.bool a1)), (2, .val (.int .i64 a2)), (3, .rows (a3.map TWeight.cells)), (4, .ptr 0 1 7 0 0), (9, .own 1 ((setl x7 ((rdl a0.Trans x8).From) t43_21).length)), (11, .val (.int .i64 x8))] [⟨7, [(TAuto.lit a0)], 0, none⟩, ⟨6, (setl x7 ((rdl a0.Trans x8).From) t43_21).map TWeight.cells, 0, none⟩] (by decide) (by decide) ⟨.free rfl rfl, .free rfl rfl, .free rfl rfl, .ptr rfl, cOwnE rfl (by simp only [setl, List.length_set]), .free rfl rfl, trivial⟩ ⟨⟨_, rfl, bcBox (all2_free rfl)⟩, ⟨_, rfl, bcRow (l := (setl x7 ((rdl a0.Trans x8).From) t43_21)) sl46 (Nat.le_refl _) rfl⟩, trivial⟩ ?_
            exact hJ1 _ h
          · rw [if_neg c18] at h
            refine .condF rfl (beq_eq_false_iff_ne.mpr c18) ?_
            refine .skip ?_
            refine .keepL [0, 1] [(1, .val (.bool a1)), (2, .val (.int .i64 a2)), (3, .rows (a3.map TWeight.cells)), (4, .ptr 0 1 7 0 0), (9, .own 1 x7.length), (11, .val (.int .i64 x8))] [⟨7, [(TAuto.lit a0)], 0, none⟩, ⟨6, x7.map TWeight.cells, 0, none⟩] (by decide) (by decide) ⟨.free rfl rfl, .free rfl rfl, .free rfl rfl, .ptr rfl, .own rfl, .free rfl rfl, trivial⟩ ⟨⟨_, rfl, bcBox (all2_free rfl)⟩, ⟨_, rfl, bcRow (l := x7) sl46 (Nat.le_refl _) rfl⟩, trivial⟩ ?_
            exact hJ1 _ h
      · rw [if_neg c14] at h
        refine .condF rfl (decide_eq_false c14) ?_
        refine .exit rfl ?_
        refine .keepL [1] [(9, .own 0 x7.length)] [⟨6, x7.map TWeight.cells, 0, none⟩] (by decide) (by decide) ⟨.own rfl, trivial⟩ ⟨⟨_, rfl, bcRow (l := x7) sl46 (Nat.le_refl _) rfl⟩, trivial⟩ ?_
        exact hx2 _ h
  · rintro r_ rfl
    exact h
  · rintro ⟨x2, x3⟩ z1 h hn1 hx1 hr1
    dsimp only [r10_rest_o0.b1] at h
    refine .seq ?_
    refine .seq ?_
    refine .reg0 rfl (.op 0 rfl (mvV rfl) <| .op 0 rfl (faP fa35_1 rfl) <| .op 0 rfl (ldP rfl sz3 ag3 rfl) <| .op 0 rfl (ltI rfl rfl) <| .nil0) ?_
    by_cases c3 : x3 < a0.States
    · rw [if_pos c3] at h
      refine .condT rfl (decide_eq_true c3) ?_
      refine .skip ?_
      refine .seq ?_
      refine .block ?_
      obtain ⟨t11_3, g11_3, h⟩ := h
      obtain ⟨g11_5, h⟩ := h
      refine .room 0 ?_
      refine .room 0 ?_
      refine .reg0 rfl (.op 0 rfl (mvO rfl) <| .op 0 rfl (faP fa35_0 rfl) <| .op 0 rfl (ldG rfl sz25 ag25 rfl) <| .callI rfl (callee_of rfl go15 rfl) (.pure rfl rfl (r10_Zero.D g11_3)) <| .op 2 rfl (bldT (s := 6) (cs := [.val (.bool t11_3.Zero), .val (.int .i64 t11_3.Cost), .val (.int .u64 t11_3.Facts.Gen), .rows (t11_3.Facts.Rows.map (cInt .u64)), .rows (t11_3.Cells.map TCell.cells), .rows (t11_3.Parts.map TWeight.cells)]) (cf := TWeight.cells) [t11_3] un46 sz48 ze48 ⟨by decide, rfl, by decide⟩ rfl rfl rfl (by simp only [List.map, TWeight.cells_lit]; rfl) rfl) <| .op 0 rfl (ap1 (l := x2) t11_3 sl46 rfl rfl rfl (Nat.zero_le _) (elems_own (l := [t11_3]) rfl rfl) g11_5) <| .op 0 rfl (asO rfl) <| .nil0) ?_
      refine .inBlock ?_
      refine .reg0 rfl (.op 0 rfl (mvV rfl) <| .op 0 rfl (addI rfl rfl) <| .op 0 rfl (asV rfl) <| .nil0) ?_
      refine .keepL [0, 1] [(1, .val (.bool a1)), (2, .val (.int .i64 a2)), (3, .rows (a3.map TWeight.cells)), (4, .ptr 0 1 7 0 0), (9, .own 1 ((x2 ++ [t11_3]).length)), (10, .val (.int .i64 (IntKind.i64.wrap (x3 + 1))))] [⟨7, [(TAuto.lit a0)], 0, none⟩, ⟨6, (x2 ++ [t11_3]).map TWeight.cells, 0, none⟩] (by decide) (by decide) ⟨.free rfl rfl, .free rfl rfl, .free rfl rfl, .ptr rfl, .own rfl, .free rfl rfl, trivial⟩ ⟨⟨_, rfl, bcBox (all2_free rfl)⟩, ⟨_, rfl, bcRow (l := (x2 ++ [t11_3])) sl46 (Nat.le_refl _) rfl⟩, trivial⟩ ?_
      exact hn1 _ h
    · rw [if_neg c3] at h
      refine .condF rfl (decide_eq_false c3) ?_
      refine .exit rfl ?_
      refine .keepL [0, 1] [(1, .val (.bool a1)), (2, .val (.int .i64 a2)), (3, .rows (a3.map TWeight.cells)), (4, .ptr 0 1 7 0 0), (9, .own 1 x2.length)] [⟨7, [(TAuto.lit a0)], 0, none⟩, ⟨6, x2.map TWeight.cells, 0, none⟩] (by decide) (by decide) ⟨.free rfl rfl, .free rfl rfl, .free rfl rfl, .ptr rfl, .own rfl, trivial⟩ ⟨⟨_, rfl, bcBox (all2_free rfl)⟩, ⟨_, rfl, bcRow (l := x2) sl46 (Nat.le_refl _) rfl⟩, trivial⟩ ?_
      exact hx1 _ h
def r10_Value.b1 (a0 : TAuto) (a1 : Bool) (a3 : List Int) : ((List TWeight) × Int) → Rnd (((List TWeight) × Int)) ((List TWeight)) (TWeight × Int) → Prop := fun (x1, x2) z1 => if x2 ≥ 0 then (((InR x2 a3.length)) ∧ ∃ t13_9 : (List TWeight), (r10_rest_o0.f a0 a1 (rdl a3 x2) x1 t13_9) ∧ ∃ t13_10 : (List TWeight), (r10_still.f a0 a1 false t13_9 t13_10) ∧ z1 = .next (t13_10, (IntKind.i64.wrap (x2 - 1)))) else (z1 = .exit x1)
def r10_Value.f (a0 : TAuto) (a1 : Bool) (a2 : Int) (a3 : List Int) (r : TWeight × Int) : Prop :=
  ∃ t2_4 : Int, (r10_asked.f a0 [a2] a3 t2_4) ∧ if t2_4 = 0 then (∃ t4_3 : (List TWeight), (r10_ends_o0.f a0 t4_3) ∧ ∃ t4_4 : (List TWeight), (r10_still.f a0 a1 false t4_3 t4_4) ∧ ∃ o1 : Fin ((List TWeight)) (TWeight × Int), Loop (r10_Value.b1 a0 a1 a3) (t4_4, (IntKind.i64.wrap ((a3.length : Int) - 1))) o1 ∧ o1.on (fun x3 => ((InR a2 x3.length)) ∧ r = ((rdl x3 a2), 0)) (fun r_ => r = r_)) else (r = ((TWeight.mk false 0 (TFacts.mk 0 []) [] []), t2_4))
theorem r10_Value.D {a0 : TAuto} {a1 : Bool} {a2 : Int} {a3 : List Int} {r : TWeight × Int} (h : r10_Value.f a0 a1 a2 a3 r) : D Try.prog X (.callH 10 [.agg (TAuto.lit a0), .val (.bool a1), .val (.int .i64 a2), .rows (a3.map (cInt .i64))] [] (.tuple [.agg (TWeight.lit r.1), .val (.int .i64 r.2)]) []) := by
  unfold r10_Value.f at h
  refine .enter 49 0 fn10 rfl rfl rfl ?_
  refine .seq ?_
  refine .room 0 ?_
  refine .room 0 ?_
  refine .reg0 rfl (.op 0 rfl (bxP (s := 7) (cs := (TAuto.lit a0)) rfl ⟨rfl, by decide, rfl⟩ rfl) <| .op 1 rfl (alP (s := 6) ze48 ⟨rfl, by decide, rfl⟩ rfl) <| .op 0 rfl (asV rfl) <| .nil0) ?_
  refine .seq ?_
  obtain ⟨t2_4, g2_4, h⟩ := h
  refine .room 0 ?_
  refine .reg0 rfl (.op 0 rfl (ldG rfl sz35 ag35 rfl) <| .op 0 rfl (mvV rfl) <| .op 2 rfl (bldL (s := 1) (cs := [.val (.int .i64 a2)]) un29 sz3 ze3 ⟨by decide, rfl, by decide⟩ rfl rfl rfl rfl) <| .op 0 rfl (mvR rfl) <| .callI rfl (callee_of rfl go23 rfl) (.lendC (args' := [.agg (TAuto.lit a0), .rows ([a2].map (cInt .i64)), .rows (a3.map (cInt .i64))])  [2] false (.cons (.free rfl rfl) <| .cons (cFixO (l := [a2]) sl29 rfl rfl rfl rfl) <| .cons (.free rfl rfl) <| .nil) (by decide) rfl rfl rfl rfl (r10_asked.D g2_4)) <| .op 0 rfl (asV rfl) <| .nil0) ?_
  refine .seq ?_
  refine .seq ?_
  refine .reg0 rfl (.op 0 rfl (mvV rfl) <| .op 0 rfl (neI rfl rfl) <| .nil0) ?_
  by_cases c1 : t2_4 = 0
  · rw [if_pos c1] at h
    refine .condF rfl (bne_eq_false_iff_eq.mpr c1) ?_
    refine .skip ?_
    refine .seq ?_
    obtain ⟨t4_3, g4_3, h⟩ := h
    obtain ⟨t4_4, g4_4, h⟩ := h
    refine .room 0 ?_
    refine .reg1 (e1 := listEnv [(1, .val (.bool a1)), (2, .val (.int .i64 a2)), (3, .rows (a3.map (cInt .i64))), (4, .ptr 0 1 7 0 0), (8, .ptr 1 1 6 0 0), (11, .own 3 t4_4.length)]) (H1 := [⟨7, [(TAuto.lit a0)], 0, none⟩, ⟨6, [[.val (.bool false), .val (.int .i64 0), .val (.int .u64 0), .val (.slice none 0 0), .val (.slice none 0 0), .val (.slice none 0 0)]], 0, none⟩, ⟨1, [a2].map (cInt .i64), 0, none⟩, ⟨6, t4_4.map TWeight.cells, 0, none⟩]) rfl ?_ ?_
    · exact .drawM [(5, 11, .own 3 t4_4.length), (4, 26, .own 3 t4_4.length), (3, 25, .own 3 t4_3.length), (2, 24, .agg (TAuto.lit a0)), (1, 23, .val (.bool a1)), (0, 22, .agg (TAuto.lit a0))] [(4, 3, ⟨6, t4_4.map TWeight.cells, 0, none⟩), (3, 3, ⟨6, t4_3.map TWeight.cells, 0, none⟩)] [[], [], [], [2], [0, 1, 3, 2], [4, 0, 1, 3, 2]] (by rfl) (by rfl) (by rfl) (by exact ⟨fun S hS hD hn => .one 0 hS hD hn rfl rfl (ldG rfl sz35 ag35 rfl) rfl rfl rfl, fun S hS hD hn => .one 0 hS hD hn rfl rfl (mvV rfl) rfl rfl rfl, fun S hS hD hn => .one 0 hS hD hn rfl rfl (ldG rfl sz35 ag35 rfl) rfl rfl rfl, fun S hS hD hn => .oneI hS hD hn rfl rfl (callee_of rfl go25 rfl) (.focus (args' := [.agg (TAuto.lit a0)]) (H0 := []) (Hc := [⟨6, t4_3.map TWeight.cells, 0, none⟩]) (Hd := [⟨6, t4_3.map TWeight.cells, 0, none⟩]) [] [] [3] false (.cons (.free rfl rfl) <| .nil) (HConvL.heap trivial) (by decide) rfl rfl (r10_ends_o0.D g4_3) (.own rfl) (.cons (bcRow (l := t4_3) sl46 (Nat.le_refl _) rfl) <| .nil) rfl (.inr (.inl rfl)) rfl) rfl rfl rfl, fun S hS hD hn => .oneI hS hD hn rfl rfl (callee_of rfl go24 rfl) (.focus (args' := [.agg (TAuto.lit a0), .val (.bool a1), .val (.bool false), .own 0 t4_3.length]) (H0 := [⟨6, t4_3.map TWeight.cells, 0, none⟩]) (Hc := [⟨6, t4_4.map TWeight.cells, 0, none⟩]) (Hd := [⟨6, t4_4.map TWeight.cells, 0, none⟩]) [3] [] [] false (.cons (.free rfl rfl) <| .cons (.free rfl rfl) <| .cons (.free rfl rfl) <| .cons (.own rfl) <| .nil) (HConvL.heap ⟨⟨_, rfl, bcRow (l := t4_3) sl46 (Nat.le_refl _) rfl⟩, trivial⟩) (by decide) rfl rfl (r10_still.D g4_4) (.own rfl) (.cons (bcRow (l := t4_4) sl46 (Nat.le_refl _) rfl) <| .nil) rfl (.inr (.inl rfl)) rfl) rfl rfl rfl, fun S hS hD hn => .one 0 hS hD hn rfl rfl (asO rfl) rfl rfl rfl, trivial⟩) _ (by exact ⟨.free rfl rfl, .free rfl rfl, .free rfl rfl, .ptr rfl, .ptr rfl, .own rfl, trivial⟩) (by rfl)
    refine .seq ?_
    refine .seq ?_
    refine .reg0 rfl (.op 0 rfl (mvR rfl) <| .op 0 rfl (lnR (l := a3) sl29 rfl) <| .op 0 rfl (subI rfl rfl) <| .op 0 rfl (asV rfl) <| .nil0) ?_
    refine .block ?_
    refine .keepL [0, 1, 3] [(1, .val (.bool a1)), (2, .val (.int .i64 a2)), (3, .rows (a3.map (cInt .i64))), (4, .ptr 0 1 7 0 0), (8, .ptr 1 1 6 0 0), (11, .own 2 t4_4.length), (12, .val (.int .i64 (IntKind.i64.wrap ((a3.length : Int) - 1))))] [⟨7, [(TAuto.lit a0)], 0, none⟩, ⟨6, [[.val (.bool false), .val (.int .i64 0), .val (.int .u64 0), .val (.slice none 0 0), .val (.slice none 0 0), .val (.slice none 0 0)]], 0, none⟩, ⟨6, t4_4.map TWeight.cells, 0, none⟩] (by decide) (by decide) ⟨.free rfl rfl, .free rfl rfl, .free rfl rfl, .ptr rfl, .ptr rfl, .own rfl, .free rfl rfl, trivial⟩ ⟨⟨_, rfl, bcBox (all2_free rfl)⟩, ⟨_, rfl, bcBox (all2_free rfl)⟩, ⟨_, rfl, bcRow (l := t4_4) sl46 (Nat.le_refl _) rfl⟩, trivial⟩ ?_
    obtain ⟨o1, hL1, h⟩ := h
    refine .loopB (r10_Value.b1 a0 a1 a3) (fun (x1, x2) => listEnv [(1, .val (.bool a1)), (2, .val (.int .i64 a2)), (3, .rows (a3.map (cInt .i64))), (4, .ptr 0 1 7 0 0), (8, .ptr 1 1 6 0 0), (11, .own 2 x1.length), (12, .val (.int .i64 x2))]) (fun (x1, x2) => [⟨7, [(TAuto.lit a0)], 0, none⟩, ⟨6, [[.val (.bool false), .val (.int .i64 0), .val (.int .u64 0), .val (.slice none 0 0), .val (.slice none 0 0), .val (.slice none 0 0)]], 0, none⟩, ⟨6, x1.map TWeight.cells, 0, none⟩]) (fun x3 => listEnv [(2, .val (.int .i64 a2)), (8, .ptr 0 1 6 0 0), (11, .own 1 x3.length)]) (fun x3 => [⟨6, [[.val (.bool false), .val (.int .i64 0), .val (.int .u64 0), .val (.slice none 0 0), .val (.slice none 0 0), .val (.slice none 0 0)]], 0, none⟩, ⟨6, x3.map TWeight.cells, 0, none⟩]) hL1 (fun r_ => r = r_) ?_ ?_ ?_
    · rintro x3 rfl
      try dsimp only [Fin.on] at h
      refine .seq ?_
      obtain ⟨g15_2, h⟩ := h
      refine .reg0 rfl (.op 0 rfl (mvO rfl) <| .op 0 rfl (mvV rfl) <| .op 0 rfl (ixO (l := x3) sl46 rfl rfl rfl rfl g15_2.1 g15_2.2) <| .op 0 rfl (ldOG (l := x3) (j := a2) sl46 rfl sz48 ag48 rfl rfl TWeight.cells_lit g15_2.1 g15_2.2 (by decide) rfl) <| .op 0 rfl (stB (cs0 := [.val (.bool false), .val (.int .i64 0), .val (.int .u64 0), .val (.slice none 0 0), .val (.slice none 0 0), .val (.slice none 0 0)]) (cs := (TWeight.lit (rdl x3 a2))) (cs1 := (TWeight.lit (rdl x3 a2))) rfl rfl sz48 rfl ⟨Nat.le_of_ble_eq_true rfl, rfl⟩ rfl) <| .op 0 rfl (asV rfl) <| .nil0) ?_
      replace h := h.symm
      subst h
      refine .keepL [] [(8, .cptr (TWeight.lit (rdl x3 a2)) 0), (9, .val (.int .i64 0))] [] (by decide) (by decide) ⟨cFixP rfl rfl (.cons (.free rfl rfl) <| .cons (.free rfl rfl) <| .cons (.free rfl rfl) <| .cons (.free rfl rfl) <| .cons (.free rfl rfl) <| .cons (.free rfl rfl) <| .nil), .free rfl rfl, trivial⟩ trivial ?_
      exact .ret rfl
    · rintro r_ rfl
      exact h
    · rintro ⟨x1, x2⟩ z1 h hn1 hx1 hr1
      dsimp only [r10_Value.b1] at h
      refine .seq ?_
      refine .seq ?_
      refine .reg0 rfl (.op 0 rfl (mvV rfl) <| .op 0 rfl (geI rfl rfl) <| .nil0) ?_
      by_cases c4 : x2 ≥ 0
      · rw [if_pos c4] at h
        refine .condT rfl (decide_eq_true c4) ?_
        refine .skip ?_
        refine .seq ?_
        refine .block ?_
        obtain ⟨g13_6, h⟩ := h
        obtain ⟨t13_9, g13_9, h⟩ := h
        obtain ⟨t13_10, g13_10, h⟩ := h
        refine .room 0 ?_
        refine .reg1 (e1 := listEnv [(1, .val (.bool a1)), (2, .val (.int .i64 a2)), (3, .rows (a3.map (cInt .i64))), (4, .ptr 0 1 7 0 0), (8, .ptr 1 1 6 0 0), (11, .own 3 t13_10.length), (12, .val (.int .i64 x2))]) (H1 := [⟨7, [(TAuto.lit a0)], 0, none⟩, ⟨6, [[.val (.bool false), .val (.int .i64 0), .val (.int .u64 0), .val (.slice none 0 0), .val (.slice none 0 0), .val (.slice none 0 0)]], 0, none⟩, ⟨6, x1.map TWeight.cells, (max 0 (x1.map TWeight.cells : List (List PV)).length), none⟩, ⟨6, t13_10.map TWeight.cells, 0, none⟩]) rfl ?_ ?_
        · exact .drawM [(11, 11, .own 3 t13_10.length), (10, 44, .own 3 t13_10.length), (9, 43, .own 3 t13_9.length), (8, 42, .own 2 x1.length), (7, 41, .val (.int .i64 (rdl a3 x2))), (6, 40, .cptr ((cInt .i64) (rdl a3 x2)) 0), (5, 39, .val (.int .i64 x2)), (4, 38, .rows (a3.map (cInt .i64))), (3, 37, .val (.bool a1)), (2, 36, .agg (TAuto.lit a0)), (1, 35, .val (.bool a1)), (0, 34, .agg (TAuto.lit a0))] [(10, 3, ⟨6, t13_10.map TWeight.cells, 0, none⟩), (9, 2, ⟨6, x1.map TWeight.cells, (max 0 (x1.map TWeight.cells : List (List PV)).length), none⟩), (9, 3, ⟨6, t13_9.map TWeight.cells, 0, none⟩)] [[], [], [], [], [], [], [4, 5], [6, 4, 5], [], [2, 3, 7, 6, 4, 5, 8], [0, 1, 9, 2, 3, 7, 6, 4, 5, 8], [10, 0, 1, 9, 2, 3, 7, 6, 4, 5, 8]] (by rfl) (by rfl) (by rfl) (by exact ⟨fun S hS hD hn => .one 0 hS hD hn rfl rfl (ldG rfl sz35 ag35 rfl) rfl rfl rfl, fun S hS hD hn => .one 0 hS hD hn rfl rfl (mvV rfl) rfl rfl rfl, fun S hS hD hn => .one 0 hS hD hn rfl rfl (ldG rfl sz35 ag35 rfl) rfl rfl rfl, fun S hS hD hn => .one 0 hS hD hn rfl rfl (mvV rfl) rfl rfl rfl, fun S hS hD hn => .one 0 hS hD hn rfl rfl (mvR rfl) rfl rfl rfl, fun S hS hD hn => .one 0 hS hD hn rfl rfl (mvV rfl) rfl rfl rfl, fun S hS hD hn => .one 0 hS hD hn rfl rfl (ixR (l := a3) (lit := (cInt .i64)) sl29 rfl rfl (fun _ => rfl) g13_6.1 g13_6.2) rfl rfl rfl, fun S hS hD hn => .one 0 hS hD hn rfl rfl (ldC rfl sz3 ag3 rfl) rfl rfl rfl, fun S hS hD hn => .one 0 hS hD hn rfl rfl (mvO rfl) rfl rfl rfl, fun S hS hD hn => .oneI hS hD hn rfl rfl (callee_of rfl go26 rfl) (.focus (args' := [.agg (TAuto.lit a0), .val (.bool a1), .val (.int .i64 (rdl a3 x2)), .rows (x1.map TWeight.cells)]) (H0 := []) (Hc := [⟨6, t13_9.map TWeight.cells, 0, none⟩]) (Hd := [⟨6, t13_9.map TWeight.cells, 0, none⟩]) [] [2] [3] true (.cons (.free rfl rfl) <| .cons (.free rfl rfl) <| .cons (.free rfl rfl) <| .cons (cFixO (l := x1) sl46 rfl rfl rfl rfl) <| .nil) (HConvL.heap trivial) (by decide) rfl rfl (r10_rest_o0.D g13_9) (.own rfl) (.cons (bcRow (l := t13_9) sl46 (Nat.le_refl _) rfl) <| .nil) rfl (.inl rfl) rfl) rfl rfl rfl, fun S hS hD hn => .oneI hS hD hn rfl rfl (callee_of rfl go24 rfl) (.focus (args' := [.agg (TAuto.lit a0), .val (.bool a1), .val (.bool false), .own 0 t13_9.length]) (H0 := [⟨6, t13_9.map TWeight.cells, 0, none⟩]) (Hc := [⟨6, t13_10.map TWeight.cells, 0, none⟩]) (Hd := [⟨6, t13_10.map TWeight.cells, 0, none⟩]) [3] [] [] false (.cons (.free rfl rfl) <| .cons (.free rfl rfl) <| .cons (.free rfl rfl) <| .cons (.own rfl) <| .nil) (HConvL.heap ⟨⟨_, rfl, bcRow (l := t13_9) sl46 (Nat.le_refl _) rfl⟩, trivial⟩) (by decide) rfl rfl (r10_still.D g13_10) (.own rfl) (.cons (bcRow (l := t13_10) sl46 (Nat.le_refl _) rfl) <| .nil) rfl (.inr (.inl rfl)) rfl) rfl rfl rfl, fun S hS hD hn => .one 0 hS hD hn rfl rfl (asO rfl) rfl rfl rfl, trivial⟩) _ (by exact ⟨.free rfl rfl, .free rfl rfl, .free rfl rfl, .ptr rfl, .ptr rfl, .own rfl, .free rfl rfl, trivial⟩) (by rfl)
        refine .inBlock ?_
        refine .reg0 rfl (.op 0 rfl (mvV rfl) <| .op 0 rfl (subI rfl rfl) <| .op 0 rfl (asV rfl) <| .nil0) ?_
        refine .keepL [0, 1, 3] [(1, .val (.bool a1)), (2, .val (.int .i64 a2)), (3, .rows (a3.map (cInt .i64))), (4, .ptr 0 1 7 0 0), (8, .ptr 1 1 6 0 0), (11, .own 2 t13_10.length), (12, .val (.int .i64 (IntKind.i64.wrap (x2 - 1))))] [⟨7, [(TAuto.lit a0)], 0, none⟩, ⟨6, [[.val (.bool false), .val (.int .i64 0), .val (.int .u64 0), .val (.slice none 0 0), .val (.slice none 0 0), .val (.slice none 0 0)]], 0, none⟩, ⟨6, t13_10.map TWeight.cells, 0, none⟩] (by decide) (by decide) ⟨.free rfl rfl, .free rfl rfl, .free rfl rfl, .ptr rfl, .ptr rfl, .own rfl, .free rfl rfl, trivial⟩ ⟨⟨_, rfl, bcBox (all2_free rfl)⟩, ⟨_, rfl, bcBox (all2_free rfl)⟩, ⟨_, rfl, bcRow (l := t13_10) sl46 (Nat.le_refl _) rfl⟩, trivial⟩ ?_
        exact hn1 _ h
      · rw [if_neg c4] at h
        refine .condF rfl (decide_eq_false c4) ?_
        refine .exit rfl ?_
        refine .keepL [1, 2] [(2, .val (.int .i64 a2)), (8, .ptr 0 1 6 0 0), (11, .own 1 x1.length)] [⟨6, [[.val (.bool false), .val (.int .i64 0), .val (.int .u64 0), .val (.slice none 0 0), .val (.slice none 0 0), .val (.slice none 0 0)]], 0, none⟩, ⟨6, x1.map TWeight.cells, 0, none⟩] (by decide) (by decide) ⟨.free rfl rfl, .ptr rfl, .own rfl, trivial⟩ ⟨⟨_, rfl, bcBox (all2_free rfl)⟩, ⟨_, rfl, bcRow (l := x1) sl46 (Nat.le_refl _) rfl⟩, trivial⟩ ?_
        exact hx1 _ h
  · rw [if_neg c1] at h
    refine .condT rfl (bne_iff_ne.mpr c1) ?_
    refine .seq ?_
    refine .reg0 rfl (.op 0 rfl (bldS (cs := [.val (.bool false), .val (.int .i64 0), .val (.int .u64 0), .val (.slice none 0 0), .val (.slice none 0 0), .val (.slice none 0 0)]) ze48 pl48 rfl rfl) <| .op 0 rfl (mvV rfl) <| .op 0 rfl (stB (cs0 := [.val (.bool false), .val (.int .i64 0), .val (.int .u64 0), .val (.slice none 0 0), .val (.slice none 0 0), .val (.slice none 0 0)]) (cs := [.val (.bool false), .val (.int .i64 0), .val (.int .u64 0), .val (.slice none 0 0), .val (.slice none 0 0), .val (.slice none 0 0)]) (cs1 := [.val (.bool false), .val (.int .i64 0), .val (.int .u64 0), .val (.slice none 0 0), .val (.slice none 0 0), .val (.slice none 0 0)]) rfl rfl sz48 rfl ⟨Nat.le_of_ble_eq_true rfl, rfl⟩ rfl) <| .op 0 rfl (asV rfl) <| .nil0) ?_
    replace h := h.symm
    subst h
    refine .keepL [] [(8, .cptr [.val (.bool false), .val (.int .i64 0), .val (.int .u64 0), .rows (([] : List Int).map (cInt .u64)), .rows (([] : List TCell).map TCell.cells), .rows (([] : List TWeight).map TWeight.cells)] 0), (9, .val (.int .i64 t2_4))] [] (by decide) (by decide) ⟨cFixP rfl rfl (.cons (.free rfl rfl) <| .cons (.free rfl rfl) <| .cons (.free rfl rfl) <| .cons (.nil) <| .cons (.nil) <| .cons (.nil) <| .nil), .free rfl rfl, trivial⟩ trivial ?_
    exact .ret rfl
def r14_Check.b1 (a0 : TPds) (a1 : TAuto) : Int → Rnd Int Unit Int → Prop := fun x1 z1 => if x1 < (a1.Trans.length : Int) then (((InR x1 a1.Trans.length)) ∧ (¬ ((rdl a1.Trans x1).Sym < 0) → (InR x1 a1.Trans.length)) ∧ if ((decide ((rdl a1.Trans x1).Sym < 0)) || (decide ((rdl a1.Trans x1).To < a0.States))) = true then (z1 = .ret 140) else (z1 = .next (IntKind.i64.wrap (x1 + 1)))) else (z1 = .exit ())
def r14_Check.f (a0 : TPds) (a1 : TAuto) (r : Int) : Prop :=
  ∃ t2_1 : Int, (r11_Check.f a0 t2_1) ∧ if t2_1 = 0 then (∃ t4_1 : Int, (r10_Check.f a1 t4_1) ∧ if t4_1 = 0 then (∃ t6_4 : Bool, (r05_SameSpace.f a0.Space a1.Space t6_4) ∧ if ((!t6_4) || ((!(a1.Symbols == a0.Symbols)) || (decide (a1.States < a0.States)))) = true then (r = 140) else (∃ o1 : Fin Unit Int, Loop (r14_Check.b1 a0 a1) 0 o1 ∧ o1.on (fun _ => r = 0) (fun r_ => r = r_))) else (r = t4_1)) else (r = t2_1)
theorem r14_Check.D {a0 : TPds} {a1 : TAuto} {r : Int} (h : r14_Check.f a0 a1 r) : D Try.prog X (.callH 11 [.agg (TPds.lit a0), .agg (TAuto.lit a1)] [] (.val (.int .i64 r)) []) := by
  unfold r14_Check.f at h
  refine .enter 63 0 fn11 rfl rfl rfl ?_
  refine .seq ?_
  refine .room 0 ?_
  refine .room 0 ?_
  refine .reg0 rfl (.op 0 rfl (bxP (s := 6) (cs := (TPds.lit a0)) rfl ⟨rfl, by decide, rfl⟩ rfl) <| .op 1 rfl (bxP (s := 7) (cs := (TAuto.lit a1)) rfl ⟨rfl, by decide, rfl⟩ rfl) <| .op 0 rfl (asV rfl) <| .nil0) ?_
  refine .seq ?_
  obtain ⟨t2_1, g2_1, h⟩ := h
  refine .reg0 rfl (.op 0 rfl (ldG rfl sz28 ag28 rfl) <| .callI rfl (callee_of rfl go22 rfl) (.pure rfl rfl (r11_Check.D g2_1)) <| .op 0 rfl (asV rfl) <| .nil0) ?_
  refine .seq ?_
  refine .seq ?_
  refine .reg0 rfl (.op 0 rfl (mvV rfl) <| .op 0 rfl (neI rfl rfl) <| .nil0) ?_
  by_cases c1 : t2_1 = 0
  · rw [if_pos c1] at h
    refine .condF rfl (bne_eq_false_iff_eq.mpr c1) ?_
    refine .skip ?_
    refine .seq ?_
    obtain ⟨t4_1, g4_1, h⟩ := h
    refine .reg0 rfl (.op 0 rfl (ldG rfl sz35 ag35 rfl) <| .callI rfl (callee_of rfl go27 rfl) (.pure rfl rfl (r10_Check.D g4_1)) <| .op 0 rfl (asV rfl) <| .nil0) ?_
    refine .seq ?_
    refine .seq ?_
    refine .reg0 rfl (.op 0 rfl (mvV rfl) <| .op 0 rfl (neI rfl rfl) <| .nil0) ?_
    by_cases c2 : t4_1 = 0
    · rw [if_pos c2] at h
      refine .condF rfl (bne_eq_false_iff_eq.mpr c2) ?_
      refine .skip ?_
      refine .seq ?_
      refine .seq ?_
      obtain ⟨t6_4, g6_4, h⟩ := h
      refine .reg0 (e1 := listEnv [(2, .ptr 0 1 6 0 0), (3, .ptr 1 1 7 0 0), (37, .val (.bool ((!t6_4) || ((!(a1.Symbols == a0.Symbols)) || (decide (a1.States < a0.States))))))]) (H1 := [⟨6, [(TPds.lit a0)], 0, none⟩, ⟨7, [(TAuto.lit a1)], 0, none⟩]) rfl ?_ ?_
      · by_cases c3 : t6_4 = true
        · by_cases c4 : a1.Symbols = a0.Symbols
          · exact (.op 0 rfl (faP fa28_0 rfl) <| .op 0 rfl (ldG rfl sz25 ag25 rfl) <| .op 0 rfl (faP fa35_0 rfl) <| .op 0 rfl (ldG rfl sz25 ag25 rfl) <| .callI rfl (callee_of rfl go21 rfl) (.pure rfl rfl (r05_SameSpace.D g6_4)) <| .op 0 rfl (notB rfl) <| .op 0 rfl (mvV rfl) <| .op 0 (gT rfl rfl rfl (bnotF c3)) (faP fa35_2 rfl) <| .op 0 (gT rfl rfl rfl (bnotF c3)) (ldP rfl sz3 ag3 rfl) <| .op 0 (gT rfl rfl rfl (bnotF c3)) (faP fa28_2 rfl) <| .op 0 (gT rfl rfl rfl (bnotF c3)) (ldP rfl sz3 ag3 rfl) <| .op 0 (gT rfl rfl rfl (bnotF c3)) (neI rfl rfl) <| .op 0 rfl (pkFV rfl (bnotF c3) rfl) <| .op 0 rfl (mvV rfl) <| .op 0 (gT rfl rfl rfl (bne_eq_false_iff_eq.mpr c4)) (faP fa35_1 rfl) <| .op 0 (gT rfl rfl rfl (bne_eq_false_iff_eq.mpr c4)) (ldP rfl sz3 ag3 rfl) <| .op 0 (gT rfl rfl rfl (bne_eq_false_iff_eq.mpr c4)) (faP fa28_1 rfl) <| .op 0 (gT rfl rfl rfl (bne_eq_false_iff_eq.mpr c4)) (ldP rfl sz3 ag3 rfl) <| .op 0 (gT rfl rfl rfl (bne_eq_false_iff_eq.mpr c4)) (ltI rfl rfl) <| .op 0 rfl (pkFV rfl (bne_eq_false_iff_eq.mpr c4) rfl) <| .nilL _ ⟨.ptr rfl, .ptr rfl, cB rfl (mOrF (bnotF c3) (mOrF (bnotF (beq_iff_eq.mpr c4)) rfl)), trivial⟩)
          · exact (.op 0 rfl (faP fa28_0 rfl) <| .op 0 rfl (ldG rfl sz25 ag25 rfl) <| .op 0 rfl (faP fa35_0 rfl) <| .op 0 rfl (ldG rfl sz25 ag25 rfl) <| .callI rfl (callee_of rfl go21 rfl) (.pure rfl rfl (r05_SameSpace.D g6_4)) <| .op 0 rfl (notB rfl) <| .op 0 rfl (mvV rfl) <| .op 0 (gT rfl rfl rfl (bnotF c3)) (faP fa35_2 rfl) <| .op 0 (gT rfl rfl rfl (bnotF c3)) (ldP rfl sz3 ag3 rfl) <| .op 0 (gT rfl rfl rfl (bnotF c3)) (faP fa28_2 rfl) <| .op 0 (gT rfl rfl rfl (bnotF c3)) (ldP rfl sz3 ag3 rfl) <| .op 0 (gT rfl rfl rfl (bnotF c3)) (neI rfl rfl) <| .op 0 rfl (pkFV rfl (bnotF c3) rfl) <| .op 0 rfl (mvV rfl) <| .no (gF rfl rfl rfl (bne_iff_ne.mpr c4)) <| .no (gF rfl rfl rfl (bne_iff_ne.mpr c4)) <| .no (gF rfl rfl rfl (bne_iff_ne.mpr c4)) <| .no (gF rfl rfl rfl (bne_iff_ne.mpr c4)) <| .no (gF rfl rfl rfl (bne_iff_ne.mpr c4)) <| .op 0 rfl (pkTV rfl (bne_iff_ne.mpr c4) rfl) <| .nilL _ ⟨.ptr rfl, .ptr rfl, cB rfl (mOrF (bnotF c3) (mOrT (bnotT (beq_eq_false_iff_ne.mpr c4)))), trivial⟩)
        · exact (.op 0 rfl (faP fa28_0 rfl) <| .op 0 rfl (ldG rfl sz25 ag25 rfl) <| .op 0 rfl (faP fa35_0 rfl) <| .op 0 rfl (ldG rfl sz25 ag25 rfl) <| .callI rfl (callee_of rfl go21 rfl) (.pure rfl rfl (r05_SameSpace.D g6_4)) <| .op 0 rfl (notB rfl) <| .op 0 rfl (mvV rfl) <| .no (gF rfl rfl rfl (bnotT (Bool.eq_false_iff.mpr c3))) <| .no (gF rfl rfl rfl (bnotT (Bool.eq_false_iff.mpr c3))) <| .no (gF rfl rfl rfl (bnotT (Bool.eq_false_iff.mpr c3))) <| .no (gF rfl rfl rfl (bnotT (Bool.eq_false_iff.mpr c3))) <| .no (gF rfl rfl rfl (bnotT (Bool.eq_false_iff.mpr c3))) <| .op 0 rfl (pkTV rfl (bnotT (Bool.eq_false_iff.mpr c3)) rfl) <| .op 0 rfl (mvV rfl) <| .no (gF rfl rfl rfl rfl) <| .no (gF rfl rfl rfl rfl) <| .no (gF rfl rfl rfl rfl) <| .no (gF rfl rfl rfl rfl) <| .no (gF rfl rfl rfl rfl) <| .op 0 rfl (pkTV rfl rfl rfl) <| .nilL _ ⟨.ptr rfl, .ptr rfl, cB rfl (mOrT (bnotT (Bool.eq_false_iff.mpr c3))), trivial⟩)
      by_cases c5 : ((!t6_4) || ((!(a1.Symbols == a0.Symbols)) || (decide (a1.States < a0.States)))) = true
      · rw [if_pos c5] at h
        refine .condT rfl c5 ?_
        refine .seq ?_
        refine .reg0 rfl (.op 0 rfl (asV rfl) <| .nil0) ?_
        replace h := h.symm
        subst h
        refine .keepL [] [(4, .val (.int .i64 140))] [] (by decide) (by decide) ⟨.free rfl rfl, trivial⟩ trivial ?_
        exact .ret rfl
      · rw [if_neg c5] at h
        refine .condF rfl (Bool.eq_false_iff.mpr c5) ?_
        refine .skip ?_
        refine .seq ?_
        refine .seq ?_
        refine .reg0 rfl (.op 0 rfl (asV rfl) <| .nil0) ?_
        refine .block ?_
        refine .keepL [0, 1] [(2, .ptr 0 1 6 0 0), (3, .ptr 1 1 7 0 0), (7, .val (.int .i64 0))] [⟨6, [(TPds.lit a0)], 0, none⟩, ⟨7, [(TAuto.lit a1)], 0, none⟩] (by decide) (by decide) ⟨.ptr rfl, .ptr rfl, .free rfl rfl, trivial⟩ ⟨⟨_, rfl, bcBox (all2_free rfl)⟩, ⟨_, rfl, bcBox (all2_free rfl)⟩, trivial⟩ ?_
        obtain ⟨o1, hL1, h⟩ := h
        refine .loopB (r14_Check.b1 a0 a1) (fun x1 => listEnv [(2, .ptr 0 1 6 0 0), (3, .ptr 1 1 7 0 0), (7, .val (.int .i64 x1))]) (fun x1 => [⟨6, [(TPds.lit a0)], 0, none⟩, ⟨7, [(TAuto.lit a1)], 0, none⟩]) (fun _ => listEnv []) (fun _ => []) hL1 (fun r_ => r = r_) ?_ ?_ ?_
        · rintro ⟨⟩ rfl
          try dsimp only [Fin.on] at h
          refine .seq ?_
          refine .reg0 rfl (.op 0 rfl (asV rfl) <| .nil0) ?_
          replace h := h.symm
          subst h
          refine .keepL [] [(4, .val (.int .i64 0))] [] (by decide) (by decide) ⟨.free rfl rfl, trivial⟩ trivial ?_
          exact .ret rfl
        · rintro r_ rfl
          exact h
        · rintro x1 z1 h hn1 hx1 hr1
          dsimp only [r14_Check.b1] at h
          refine .seq ?_
          refine .seq ?_
          refine .reg0 rfl (.op 0 rfl (mvV rfl) <| .op 0 rfl (faP fa35_4 rfl) <| .op 0 rfl (ldP rfl sz33 ag33 rfl) <| .op 0 rfl (lnR (l := a1.Trans) sl33 rfl) <| .op 0 rfl (ltI rfl rfl) <| .nil0) ?_
          by_cases c12 : x1 < (a1.Trans.length : Int)
          · rw [if_pos c12] at h
            refine .condT rfl (decide_eq_true c12) ?_
            refine .skip ?_
            refine .seq ?_
            refine .block ?_
            refine .seq ?_
            obtain ⟨g18_3, h⟩ := h
            obtain ⟨g18_11, h⟩ := h
            refine .reg1 (e1 := listEnv [(2, .ptr 0 1 6 0 0), (3, .ptr 1 1 7 0 0), (7, .val (.int .i64 x1)), (62, .val (.bool ((decide ((rdl a1.Trans x1).Sym < 0)) || (decide ((rdl a1.Trans x1).To < a0.States)))))]) (H1 := [⟨6, [(TPds.lit a0)], 0, none⟩, ⟨7, [(TAuto.lit a1)], 0, none⟩]) rfl ?_ ?_
            · by_cases c13 : (rdl a1.Trans x1).Sym < 0
              · exact .drawM [(17, 62, .val (.bool true)), (16, 61, .val undef), (15, 60, .val undef), (14, 59, .val undef), (13, 58, .val undef), (12, 57, .val undef), (11, 56, .val undef), (10, 55, .val undef), (9, 54, .val undef), (8, 53, .val undef), (7, 52, .val (.bool (decide ((rdl a1.Trans x1).Sym < 0)))), (6, 51, .val (.bool (decide ((rdl a1.Trans x1).Sym < 0)))), (5, 50, .val (.int .i64 ((rdl a1.Trans x1).Sym))), (4, 49, .cptr (TTrans.lit (rdl a1.Trans x1)) 1), (3, 48, .cptr (TTrans.lit (rdl a1.Trans x1)) 0), (2, 47, .val (.int .i64 x1)), (1, 46, .rows (a1.Trans.map TTrans.cells)), (0, 45, .ptr 1 1 7 0 6)] [] [[], [0], [], [1, 0, 2], [3, 1, 0, 2], [4, 3, 1, 0, 2], [5, 4, 3, 1, 0, 2], [6, 5, 4, 3, 1, 0, 2], [7, 6, 5, 4, 3, 1, 0, 2], [8, 7, 6, 5, 4, 3, 1, 0, 2], [7, 6, 5, 4, 3, 1, 0, 2], [9, 8, 7, 6, 5, 4, 3, 1, 0, 2, 10], [11, 9, 8, 7, 6, 5, 4, 3, 1, 0, 2, 10], [12, 11, 9, 8, 7, 6, 5, 4, 3, 1, 0, 2, 10], [7, 6, 5, 4, 3, 1, 0, 2], [14, 7, 6, 5, 4, 3, 1, 0, 2], [13, 12, 11, 9, 8, 7, 6, 5, 4, 3, 1, 0, 2, 10, 15, 14], [7, 6, 5, 4, 3, 1, 0, 2, 16, 13, 12, 11, 9, 8, 10, 15, 14]] (by rfl) (by rfl) (by rfl) (by exact ⟨fun S hS hD hn => .one 0 hS hD hn rfl rfl (faP fa35_4 rfl) rfl rfl rfl, fun S hS hD hn => .one 0 hS hD hn rfl rfl (ldP rfl sz33 ag33 rfl) rfl rfl rfl, fun S hS hD hn => .one 0 hS hD hn rfl rfl (mvV rfl) rfl rfl rfl, fun S hS hD hn => .one 0 hS hD hn rfl rfl (ixR (l := a1.Trans) (lit := TTrans.lit) sl33 rfl rfl (fun _ => rfl) g18_3.1 g18_3.2) rfl rfl rfl, fun S hS hD hn => .one 0 hS hD hn rfl rfl (faC fa59_1 rfl) rfl rfl rfl, fun S hS hD hn => .one 0 hS hD hn rfl rfl (ldC rfl sz3 ag3 rfl) rfl rfl rfl, fun S hS hD hn => .one 0 hS hD hn rfl rfl (ltI rfl rfl) rfl rfl rfl, fun S hS hD hn => .one 0 hS hD hn rfl rfl (mvV rfl) rfl rfl rfl, fun S hS hD hn => .oneNo hS hD (gF rfl rfl rfl (decide_eq_true c13)) rfl hn rfl rfl rfl, fun S hS hD hn => .oneNo hS hD (gF rfl rfl rfl (decide_eq_true c13)) rfl hn rfl rfl rfl, fun S hS hD hn => .oneNo hS hD (gF rfl rfl rfl (decide_eq_true c13)) rfl hn rfl rfl rfl, fun S hS hD hn => .oneNo hS hD (gF rfl rfl rfl (decide_eq_true c13)) rfl hn rfl rfl rfl, fun S hS hD hn => .oneNo hS hD (gF rfl rfl rfl (decide_eq_true c13)) rfl hn rfl rfl rfl, fun S hS hD hn => .oneNo hS hD (gF rfl rfl rfl (decide_eq_true c13)) rfl hn rfl rfl rfl, fun S hS hD hn => .oneNo hS hD (gF rfl rfl rfl (decide_eq_true c13)) rfl hn rfl rfl rfl, fun S hS hD hn => .oneNo hS hD (gF rfl rfl rfl (decide_eq_true c13)) rfl hn rfl rfl rfl, fun S hS hD hn => .oneNo hS hD (gF rfl rfl rfl (decide_eq_true c13)) rfl hn rfl rfl rfl, fun S hS hD hn => .one 0 hS hD hn rfl rfl (pkTV rfl (decide_eq_true c13) rfl) rfl rfl rfl, trivial⟩) _ (by exact ⟨.ptr rfl, .ptr rfl, .free rfl rfl, cB rfl (mOrT (decide_eq_true c13)), trivial⟩) (by rfl)
              · exact .drawM [(17, 62, .val (.bool (decide ((rdl a1.Trans x1).To < a0.States)))), (16, 61, .val (.bool (decide ((rdl a1.Trans x1).To < a0.States)))), (15, 60, .val (.int .i64 a0.States)), (14, 59, .ptr 0 1 6 0 3), (13, 58, .val (.int .i64 ((rdl a1.Trans x1).To))), (12, 57, .cptr (TTrans.lit (rdl a1.Trans x1)) 2), (11, 56, .cptr (TTrans.lit (rdl a1.Trans x1)) 0), (10, 55, .val (.int .i64 x1)), (9, 54, .rows (a1.Trans.map TTrans.cells)), (8, 53, .ptr 1 1 7 0 6), (7, 52, .val (.bool (decide ((rdl a1.Trans x1).Sym < 0)))), (6, 51, .val (.bool (decide ((rdl a1.Trans x1).Sym < 0)))), (5, 50, .val (.int .i64 ((rdl a1.Trans x1).Sym))), (4, 49, .cptr (TTrans.lit (rdl a1.Trans x1)) 1), (3, 48, .cptr (TTrans.lit (rdl a1.Trans x1)) 0), (2, 47, .val (.int .i64 x1)), (1, 46, .rows (a1.Trans.map TTrans.cells)), (0, 45, .ptr 1 1 7 0 6)] [] [[], [0], [], [1, 0, 2], [3, 1, 0, 2], [4, 3, 1, 0, 2], [5, 4, 3, 1, 0, 2], [6, 5, 4, 3, 1, 0, 2], [7, 6, 5, 4, 3, 1, 0, 2], [8, 7, 6, 5, 4, 3, 1, 0, 2], [7, 6, 5, 4, 3, 1, 0, 2], [9, 8, 7, 6, 5, 4, 3, 1, 0, 2, 10], [11, 9, 8, 7, 6, 5, 4, 3, 1, 0, 2, 10], [12, 11, 9, 8, 7, 6, 5, 4, 3, 1, 0, 2, 10], [7, 6, 5, 4, 3, 1, 0, 2], [14, 7, 6, 5, 4, 3, 1, 0, 2], [13, 12, 11, 9, 8, 7, 6, 5, 4, 3, 1, 0, 2, 10, 15, 14], [7, 6, 5, 4, 3, 1, 0, 2, 16, 13, 12, 11, 9, 8, 10, 15, 14]] (by rfl) (by rfl) (by rfl) (by exact ⟨fun S hS hD hn => .one 0 hS hD hn rfl rfl (faP fa35_4 rfl) rfl rfl rfl, fun S hS hD hn => .one 0 hS hD hn rfl rfl (ldP rfl sz33 ag33 rfl) rfl rfl rfl, fun S hS hD hn => .one 0 hS hD hn rfl rfl (mvV rfl) rfl rfl rfl, fun S hS hD hn => .one 0 hS hD hn rfl rfl (ixR (l := a1.Trans) (lit := TTrans.lit) sl33 rfl rfl (fun _ => rfl) g18_3.1 g18_3.2) rfl rfl rfl, fun S hS hD hn => .one 0 hS hD hn rfl rfl (faC fa59_1 rfl) rfl rfl rfl, fun S hS hD hn => .one 0 hS hD hn rfl rfl (ldC rfl sz3 ag3 rfl) rfl rfl rfl, fun S hS hD hn => .one 0 hS hD hn rfl rfl (ltI rfl rfl) rfl rfl rfl, fun S hS hD hn => .one 0 hS hD hn rfl rfl (mvV rfl) rfl rfl rfl, fun S hS hD hn => .one 0 hS hD hn (gT rfl rfl rfl (decide_eq_false c13)) rfl (faP fa35_4 rfl) rfl rfl rfl, fun S hS hD hn => .one 0 hS hD hn (gT rfl rfl rfl (decide_eq_false c13)) rfl (ldP rfl sz33 ag33 rfl) rfl rfl rfl, fun S hS hD hn => .one 0 hS hD hn (gT rfl rfl rfl (decide_eq_false c13)) rfl (mvV rfl) rfl rfl rfl, fun S hS hD hn => .one 0 hS hD hn (gT rfl rfl rfl (decide_eq_false c13)) rfl (ixR (l := a1.Trans) (lit := TTrans.lit) sl33 rfl rfl (fun _ => rfl) (g18_11 c13).1 (g18_11 c13).2) rfl rfl rfl, fun S hS hD hn => .one 0 hS hD hn (gT rfl rfl rfl (decide_eq_false c13)) rfl (faC fa59_2 rfl) rfl rfl rfl, fun S hS hD hn => .one 0 hS hD hn (gT rfl rfl rfl (decide_eq_false c13)) rfl (ldC rfl sz3 ag3 rfl) rfl rfl rfl, fun S hS hD hn => .one 0 hS hD hn (gT rfl rfl rfl (decide_eq_false c13)) rfl (faP fa28_1 rfl) rfl rfl rfl, fun S hS hD hn => .one 0 hS hD hn (gT rfl rfl rfl (decide_eq_false c13)) rfl (ldP rfl sz3 ag3 rfl) rfl rfl rfl, fun S hS hD hn => .one 0 hS hD hn (gT rfl rfl rfl (decide_eq_false c13)) rfl (ltI rfl rfl) rfl rfl rfl, fun S hS hD hn => .one 0 hS hD hn rfl rfl (pkFV rfl (decide_eq_false c13) rfl) rfl rfl rfl, trivial⟩) _ (by exact ⟨.ptr rfl, .ptr rfl, .free rfl rfl, cB rfl (mOrF (decide_eq_false c13) rfl), trivial⟩) (by rfl)
            by_cases c14 : ((decide ((rdl a1.Trans x1).Sym < 0)) || (decide ((rdl a1.Trans x1).To < a0.States))) = true
            · rw [if_pos c14] at h
              refine .condT rfl c14 ?_
              refine .seq ?_
              refine .reg0 rfl (.op 0 rfl (asV rfl) <| .nil0) ?_
              have q3 := hr1 _ h
              replace q3 := q3.symm
              subst q3
              refine .keepL [] [(4, .val (.int .i64 140))] [] (by decide) (by decide) ⟨.free rfl rfl, trivial⟩ trivial ?_
              exact .ret rfl
            · rw [if_neg c14] at h
              refine .condF rfl (Bool.eq_false_iff.mpr c14) ?_
              refine .skip ?_
              refine .inBlock ?_
              refine .reg0 rfl (.op 0 rfl (mvV rfl) <| .op 0 rfl (addI rfl rfl) <| .op 0 rfl (asV rfl) <| .nil0) ?_
              refine .keepL [0, 1] [(2, .ptr 0 1 6 0 0), (3, .ptr 1 1 7 0 0), (7, .val (.int .i64 (IntKind.i64.wrap (x1 + 1))))] [⟨6, [(TPds.lit a0)], 0, none⟩, ⟨7, [(TAuto.lit a1)], 0, none⟩] (by decide) (by decide) ⟨.ptr rfl, .ptr rfl, .free rfl rfl, trivial⟩ ⟨⟨_, rfl, bcBox (all2_free rfl)⟩, ⟨_, rfl, bcBox (all2_free rfl)⟩, trivial⟩ ?_
              exact hn1 _ h
          · rw [if_neg c12] at h
            refine .condF rfl (decide_eq_false c12) ?_
            refine .exit rfl ?_
            refine .keepL [] [] [] (by decide) (by decide) trivial trivial ?_
            exact hx1 _ h
    · rw [if_neg c2] at h
      refine .condT rfl (bne_iff_ne.mpr c2) ?_
      refine .seq ?_
      refine .reg0 rfl (.op 0 rfl (mvV rfl) <| .op 0 rfl (asV rfl) <| .nil0) ?_
      replace h := h.symm
      subst h
      refine .keepL [] [(4, .val (.int .i64 t4_1))] [] (by decide) (by decide) ⟨.free rfl rfl, trivial⟩ trivial ?_
      exact .ret rfl
  · rw [if_neg c1] at h
    refine .condT rfl (bne_iff_ne.mpr c1) ?_
    refine .seq ?_
    refine .reg0 rfl (.op 0 rfl (mvV rfl) <| .op 0 rfl (asV rfl) <| .nil0) ?_
    replace h := h.symm
    subst h
    refine .keepL [] [(4, .val (.int .i64 t2_1))] [] (by decide) (by decide) ⟨.free rfl rfl, trivial⟩ trivial ?_
    exact .ret rfl
def r12_Same.b1 (a0 : TConf) (a1 : TConf) : Int → Rnd Int Unit Bool → Prop := fun x1 z1 => if x1 < (a0.W.length : Int) then (((InR x1 a0.W.length)) ∧ ((InR x1 a1.W.length)) ∧ if (rdl a0.W x1) = (rdl a1.W x1) then (z1 = .next (IntKind.i64.wrap (x1 + 1))) else (z1 = .ret false)) else (z1 = .exit ())
def r12_Same.f (a0 : TConf) (a1 : TConf) (r : Bool) : Prop :=
  if ((!(a0.P == a1.P)) || ((a0.W.length : Int) != (a1.W.length : Int))) = true then (r = false) else (∃ o1 : Fin Unit Bool, Loop (r12_Same.b1 a0 a1) 0 o1 ∧ o1.on (fun _ => r = true) (fun r_ => r = r_))
theorem r12_Same.D {a0 : TConf} {a1 : TConf} {r : Bool} (h : r12_Same.f a0 a1 r) : D Try.prog X (.callH 14 [.agg (TConf.lit a0), .agg (TConf.lit a1)] [] (.val (.bool r)) []) := by
  unfold r12_Same.f at h
  refine .enter 38 0 fn14 rfl rfl rfl ?_
  refine .seq ?_
  refine .room 0 ?_
  refine .room 0 ?_
  refine .reg0 rfl (.op 0 rfl (bxP (s := 2) (cs := (TConf.lit a0)) rfl ⟨rfl, by decide, rfl⟩ rfl) <| .op 1 rfl (bxP (s := 2) (cs := (TConf.lit a1)) rfl ⟨rfl, by decide, rfl⟩ rfl) <| .op 0 rfl (asV rfl) <| .nil0) ?_
  refine .seq ?_
  refine .seq ?_
  refine .reg0 (e1 := listEnv [(2, .ptr 0 1 2 0 0), (3, .ptr 1 1 2 0 0), (19, .val (.bool ((!(a0.P == a1.P)) || ((a0.W.length : Int) != (a1.W.length : Int)))))]) (H1 := [⟨2, [(TConf.lit a0)], 0, none⟩, ⟨2, [(TConf.lit a1)], 0, none⟩]) rfl ?_ ?_
  · by_cases c1 : a0.P = a1.P
    · exact (.op 0 rfl (faP fa31_0 rfl) <| .op 0 rfl (ldP rfl sz3 ag3 rfl) <| .op 0 rfl (faP fa31_0 rfl) <| .op 0 rfl (ldP rfl sz3 ag3 rfl) <| .op 0 rfl (neI rfl rfl) <| .op 0 rfl (mvV rfl) <| .op 0 (gT rfl rfl rfl (bne_eq_false_iff_eq.mpr c1)) (faP fa31_1 rfl) <| .op 0 (gT rfl rfl rfl (bne_eq_false_iff_eq.mpr c1)) (ldP rfl sz29 ag29 rfl) <| .op 0 (gT rfl rfl rfl (bne_eq_false_iff_eq.mpr c1)) (lnR (l := a0.W) sl29 rfl) <| .op 0 (gT rfl rfl rfl (bne_eq_false_iff_eq.mpr c1)) (faP fa31_1 rfl) <| .op 0 (gT rfl rfl rfl (bne_eq_false_iff_eq.mpr c1)) (ldP rfl sz29 ag29 rfl) <| .op 0 (gT rfl rfl rfl (bne_eq_false_iff_eq.mpr c1)) (lnR (l := a1.W) sl29 rfl) <| .op 0 (gT rfl rfl rfl (bne_eq_false_iff_eq.mpr c1)) (neI rfl rfl) <| .op 0 rfl (pkFV rfl (bne_eq_false_iff_eq.mpr c1) rfl) <| .nilL _ ⟨.ptr rfl, .ptr rfl, cB rfl (mOrF (bnotF (beq_iff_eq.mpr c1)) rfl), trivial⟩)
    · exact (.op 0 rfl (faP fa31_0 rfl) <| .op 0 rfl (ldP rfl sz3 ag3 rfl) <| .op 0 rfl (faP fa31_0 rfl) <| .op 0 rfl (ldP rfl sz3 ag3 rfl) <| .op 0 rfl (neI rfl rfl) <| .op 0 rfl (mvV rfl) <| .no (gF rfl rfl rfl (bne_iff_ne.mpr c1)) <| .no (gF rfl rfl rfl (bne_iff_ne.mpr c1)) <| .no (gF rfl rfl rfl (bne_iff_ne.mpr c1)) <| .no (gF rfl rfl rfl (bne_iff_ne.mpr c1)) <| .no (gF rfl rfl rfl (bne_iff_ne.mpr c1)) <| .no (gF rfl rfl rfl (bne_iff_ne.mpr c1)) <| .no (gF rfl rfl rfl (bne_iff_ne.mpr c1)) <| .op 0 rfl (pkTV rfl (bne_iff_ne.mpr c1) rfl) <| .nilL _ ⟨.ptr rfl, .ptr rfl, cB rfl (mOrT (bnotT (beq_eq_false_iff_ne.mpr c1))), trivial⟩)
  by_cases c2 : ((!(a0.P == a1.P)) || ((a0.W.length : Int) != (a1.W.length : Int))) = true
  · rw [if_pos c2] at h
    refine .condT rfl c2 ?_
    refine .seq ?_
    refine .reg0 rfl (.op 0 rfl (asV rfl) <| .nil0) ?_
    replace h := h.symm
    subst h
    refine .keepL [] [(4, .val (.bool false))] [] (by decide) (by decide) ⟨.free rfl rfl, trivial⟩ trivial ?_
    exact .ret rfl
  · rw [if_neg c2] at h
    refine .condF rfl (Bool.eq_false_iff.mpr c2) ?_
    refine .skip ?_
    refine .seq ?_
    refine .seq ?_
    refine .reg0 rfl (.op 0 rfl (asV rfl) <| .nil0) ?_
    refine .block ?_
    refine .keepL [0, 1] [(2, .ptr 0 1 2 0 0), (3, .ptr 1 1 2 0 0), (5, .val (.int .i64 0))] [⟨2, [(TConf.lit a0)], 0, none⟩, ⟨2, [(TConf.lit a1)], 0, none⟩] (by decide) (by decide) ⟨.ptr rfl, .ptr rfl, .free rfl rfl, trivial⟩ ⟨⟨_, rfl, bcBox (all2_free rfl)⟩, ⟨_, rfl, bcBox (all2_free rfl)⟩, trivial⟩ ?_
    obtain ⟨o1, hL1, h⟩ := h
    refine .loopB (r12_Same.b1 a0 a1) (fun x1 => listEnv [(2, .ptr 0 1 2 0 0), (3, .ptr 1 1 2 0 0), (5, .val (.int .i64 x1))]) (fun x1 => [⟨2, [(TConf.lit a0)], 0, none⟩, ⟨2, [(TConf.lit a1)], 0, none⟩]) (fun _ => listEnv []) (fun _ => []) hL1 (fun r_ => r = r_) ?_ ?_ ?_
    · rintro ⟨⟩ rfl
      try dsimp only [Fin.on] at h
      refine .seq ?_
      refine .reg0 rfl (.op 0 rfl (asV rfl) <| .nil0) ?_
      replace h := h.symm
      subst h
      refine .keepL [] [(4, .val (.bool true))] [] (by decide) (by decide) ⟨.free rfl rfl, trivial⟩ trivial ?_
      exact .ret rfl
    · rintro r_ rfl
      exact h
    · rintro x1 z1 h hn1 hx1 hr1
      dsimp only [r12_Same.b1] at h
      refine .seq ?_
      refine .seq ?_
      refine .reg0 rfl (.op 0 rfl (mvV rfl) <| .op 0 rfl (faP fa31_1 rfl) <| .op 0 rfl (ldP rfl sz29 ag29 rfl) <| .op 0 rfl (lnR (l := a0.W) sl29 rfl) <| .op 0 rfl (ltI rfl rfl) <| .nil0) ?_
      by_cases c7 : x1 < (a0.W.length : Int)
      · rw [if_pos c7] at h
        refine .condT rfl (decide_eq_true c7) ?_
        refine .skip ?_
        refine .seq ?_
        refine .block ?_
        refine .seq ?_
        obtain ⟨g14_3, h⟩ := h
        obtain ⟨g14_8, h⟩ := h
        refine .reg1 (e1 := listEnv [(2, .ptr 0 1 2 0 0), (3, .ptr 1 1 2 0 0), (5, .val (.int .i64 x1)), (37, .val (.bool ((rdl a0.W x1) != (rdl a1.W x1))))]) (H1 := [⟨2, [(TConf.lit a0)], 0, none⟩, ⟨2, [(TConf.lit a1)], 0, none⟩]) rfl ?_ ?_
        · exact .drawM [(10, 37, .val (.bool ((rdl a0.W x1) != (rdl a1.W x1)))), (9, 36, .val (.int .i64 (rdl a1.W x1))), (8, 35, .cptr ((cInt .i64) (rdl a1.W x1)) 0), (7, 34, .val (.int .i64 x1)), (6, 33, .rows (a1.W.map (cInt .i64))), (5, 32, .ptr 1 1 2 0 1), (4, 31, .val (.int .i64 (rdl a0.W x1))), (3, 30, .cptr ((cInt .i64) (rdl a0.W x1)) 0), (2, 29, .val (.int .i64 x1)), (1, 28, .rows (a0.W.map (cInt .i64))), (0, 27, .ptr 0 1 2 0 1)] [] [[], [0], [], [1, 0, 2], [3, 1, 0, 2], [], [5], [], [6, 5, 7], [8, 6, 5, 7], [4, 3, 1, 0, 2, 9, 8, 6, 5, 7]] (by rfl) (by rfl) (by rfl) (by exact ⟨fun S hS hD hn => .one 0 hS hD hn rfl rfl (faP fa31_1 rfl) rfl rfl rfl, fun S hS hD hn => .one 0 hS hD hn rfl rfl (ldP rfl sz29 ag29 rfl) rfl rfl rfl, fun S hS hD hn => .one 0 hS hD hn rfl rfl (mvV rfl) rfl rfl rfl, fun S hS hD hn => .one 0 hS hD hn rfl rfl (ixR (l := a0.W) (lit := (cInt .i64)) sl29 rfl rfl (fun _ => rfl) g14_3.1 g14_3.2) rfl rfl rfl, fun S hS hD hn => .one 0 hS hD hn rfl rfl (ldC rfl sz3 ag3 rfl) rfl rfl rfl, fun S hS hD hn => .one 0 hS hD hn rfl rfl (faP fa31_1 rfl) rfl rfl rfl, fun S hS hD hn => .one 0 hS hD hn rfl rfl (ldP rfl sz29 ag29 rfl) rfl rfl rfl, fun S hS hD hn => .one 0 hS hD hn rfl rfl (mvV rfl) rfl rfl rfl, fun S hS hD hn => .one 0 hS hD hn rfl rfl (ixR (l := a1.W) (lit := (cInt .i64)) sl29 rfl rfl (fun _ => rfl) g14_8.1 g14_8.2) rfl rfl rfl, fun S hS hD hn => .one 0 hS hD hn rfl rfl (ldC rfl sz3 ag3 rfl) rfl rfl rfl, fun S hS hD hn => .one 0 hS hD hn rfl rfl (neI rfl rfl) rfl rfl rfl, trivial⟩) _ (by exact ⟨.ptr rfl, .ptr rfl, .free rfl rfl, .free rfl rfl, trivial⟩) (by rfl)
        by_cases c8 : (rdl a0.W x1) = (rdl a1.W x1)
        · rw [if_pos c8] at h
          refine .condF rfl (bne_eq_false_iff_eq.mpr c8) ?_
          refine .skip ?_
          refine .inBlock ?_
          refine .reg0 rfl (.op 0 rfl (mvV rfl) <| .op 0 rfl (addI rfl rfl) <| .op 0 rfl (asV rfl) <| .nil0) ?_
          refine .keepL [0, 1] [(2, .ptr 0 1 2 0 0), (3, .ptr 1 1 2 0 0), (5, .val (.int .i64 (IntKind.i64.wrap (x1 + 1))))] [⟨2, [(TConf.lit a0)], 0, none⟩, ⟨2, [(TConf.lit a1)], 0, none⟩] (by decide) (by decide) ⟨.ptr rfl, .ptr rfl, .free rfl rfl, trivial⟩ ⟨⟨_, rfl, bcBox (all2_free rfl)⟩, ⟨_, rfl, bcBox (all2_free rfl)⟩, trivial⟩ ?_
          exact hn1 _ h
        · rw [if_neg c8] at h
          refine .condT rfl (bne_iff_ne.mpr c8) ?_
          refine .seq ?_
          refine .reg0 rfl (.op 0 rfl (asV rfl) <| .nil0) ?_
          have q3 := hr1 _ h
          replace q3 := q3.symm
          subst q3
          refine .keepL [] [(4, .val (.bool false))] [] (by decide) (by decide) ⟨.free rfl rfl, trivial⟩ trivial ?_
          exact .ret rfl
      · rw [if_neg c7] at h
        refine .condF rfl (decide_eq_false c7) ?_
        refine .exit rfl ?_
        refine .keepL [] [] [] (by decide) (by decide) trivial trivial ?_
        exact hx1 _ h
def l14_QueryOnes.f (a0 : TPds) (a1 : TConf) (a2 : TConf) (r : Bool) : Prop :=
  ∃ t2_0 : Bool, (l14_awake.f t2_0) ∧ if t2_0 = true then (∃ t3_2 : TAuto × Int, (query_One.f a0 a1 t3_2) ∧ ∃ t4_2 : TAuto × Int, (r14_One.f a0 a1 t4_2) ∧ ∃ t5_2 : Bool, (r10_Same.f t3_2.1 t4_2.1 t5_2) ∧ if ((!t5_2) || (t3_2.2 != t4_2.2)) = true then (r = false) else (∃ t7_5 : Int, ((t3_2.2 = 0) → r12_Check.f a0 a2 t7_5) ∧ if ((!(t3_2.2 == 0)) || ((!(t7_5 == 0)) || ((decide ((a1.W.length : Int) > 60)) || (decide ((a2.W.length : Int) > 60))))) = true then (r = true) else (∃ t9_5 : TWeight × Int, (r10_Value.f t3_2.1 false a1.P a1.W t9_5) ∧ ∃ t10_5 : TWeight × Int, (r10_Value.f t3_2.1 false a2.P a2.W t10_5) ∧ ∃ t11_9 : Int, ((t9_5.2 = 0) → (t10_5.2 = 0) → r14_Check.f a0 t3_2.1 t11_9) ∧ ∃ t11_16 : TWeight, ((t9_5.2 = 0) → (t10_5.2 = 0) → (t11_9 = 0) → r10_One.f a0.Space t11_16) ∧ ∃ t11_17 : Bool, ((t9_5.2 = 0) → (t10_5.2 = 0) → (t11_9 = 0) → r05_Same.f t9_5.1 t11_16 t11_17) ∧ if ((!(t9_5.2 == 0)) || ((!(t10_5.2 == 0)) || ((!(t11_9 == 0)) || (!t11_17)))) = true then (r = false) else (∃ t13_2 : Bool, (r12_Same.f a1 a2 t13_2) ∧ ∃ t13_7 : TWeight, (¬ (t13_2 = true) → r10_Zero.f a0.Space t13_7) ∧ ∃ t13_8 : Bool, (¬ (t13_2 = true) → r05_Same.f t10_5.1 t13_7 t13_8) ∧ r = (t13_2 || t13_8))))) else (r = false)
theorem l14_QueryOnes.D {a0 : TPds} {a1 : TConf} {a2 : TConf} {r : Bool} (h : l14_QueryOnes.f a0 a1 a2 r) : D Try.prog X (.callH 3 [.agg (TPds.lit a0), .agg (TConf.lit a1), .agg (TConf.lit a2)] [] (.val (.bool r)) []) := by
  unfold l14_QueryOnes.f at h
  refine .enter 106 0 fn3 rfl rfl rfl ?_
  refine .seq ?_
  refine .room 0 ?_
  refine .room 0 ?_
  refine .room 0 ?_
  refine .reg0 rfl (.op 0 rfl (bxP (s := 6) (cs := (TPds.lit a0)) rfl ⟨rfl, by decide, rfl⟩ rfl) <| .op 1 rfl (bxP (s := 2) (cs := (TConf.lit a1)) rfl ⟨rfl, by decide, rfl⟩ rfl) <| .op 2 rfl (bxP (s := 2) (cs := (TConf.lit a2)) rfl ⟨rfl, by decide, rfl⟩ rfl) <| .op 0 rfl (asV rfl) <| .nil0) ?_
  refine .seq ?_
  refine .seq ?_
  obtain ⟨t2_0, g2_0, h⟩ := h
  refine .reg0 rfl (.callI rfl (callee_of rfl go5 rfl) (.pure rfl rfl (l14_awake.D g2_0)) <| .op 0 rfl (notB rfl) <| .nil0) ?_
  by_cases c1 : t2_0 = true
  · rw [if_pos c1] at h
    refine .condF rfl (bnotF c1) ?_
    refine .skip ?_
    refine .seq ?_
    obtain ⟨t3_2, g3_2, h⟩ := h
    refine .room 0 ?_
    refine .reg0 rfl (.op 0 rfl (ldG rfl sz28 ag28 rfl) <| .op 0 rfl (ldG rfl sz31 ag31 rfl) <| .callI rfl (callee_of rfl go6 rfl) (.pure rfl rfl (query_One.D g3_2)) <| .op 0 rfl (mvT rfl) <| .op 0 rfl (exT rfl rfl) <| .op 0 rfl (exT rfl rfl) <| .op 3 rfl (alP (s := 7) ze35 ⟨rfl, by decide, rfl⟩ rfl) <| .op 0 rfl (stB (cs0 := [.val (.int .i64 0), .val (.int .i64 0), .val (.slice none 0 0), .val (.int .i64 0), .val (.int .i64 0), .val (.slice none 0 0), .val (.slice none 0 0)]) (cs := (TAuto.lit t3_2.1)) (cs1 := (TAuto.lit t3_2.1)) rfl rfl sz35 rfl ⟨Nat.le_of_ble_eq_true rfl, rfl⟩ rfl) <| .op 0 rfl (asV rfl) <| .nil0) ?_
    refine .seq ?_
    obtain ⟨t4_2, g4_2, h⟩ := h
    refine .room 0 ?_
    refine .reg0 rfl (.op 0 rfl (ldG rfl sz28 ag28 rfl) <| .op 0 rfl (ldG rfl sz31 ag31 rfl) <| .callI rfl (callee_of rfl go7 rfl) (.pure rfl rfl (r14_One.D g4_2)) <| .op 0 rfl (mvT rfl) <| .op 0 rfl (exT rfl rfl) <| .op 0 rfl (exT rfl rfl) <| .op 4 rfl (alP (s := 7) ze35 ⟨rfl, by decide, rfl⟩ rfl) <| .op 0 rfl (stB (cs0 := [.val (.int .i64 0), .val (.int .i64 0), .val (.slice none 0 0), .val (.int .i64 0), .val (.int .i64 0), .val (.slice none 0 0), .val (.slice none 0 0)]) (cs := (TAuto.lit t4_2.1)) (cs1 := (TAuto.lit t4_2.1)) rfl rfl sz35 rfl ⟨Nat.le_of_ble_eq_true rfl, rfl⟩ rfl) <| .op 0 rfl (asV rfl) <| .nil0) ?_
    refine .seq ?_
    refine .seq ?_
    obtain ⟨t5_2, g5_2, h⟩ := h
    refine .reg0 (e1 := listEnv [(3, .ptr 0 1 6 0 0), (4, .ptr 1 1 2 0 0), (5, .ptr 2 1 2 0 0), (7, .ptr 3 1 7 0 0), (8, .val (.int .i64 t3_2.2)), (37, .val (.bool ((!t5_2) || (t3_2.2 != t4_2.2))))]) (H1 := [⟨6, [(TPds.lit a0)], 0, none⟩, ⟨2, [(TConf.lit a1)], 0, none⟩, ⟨2, [(TConf.lit a2)], 0, none⟩, ⟨7, [(TAuto.lit t3_2.1)], 0, none⟩, ⟨7, [(TAuto.lit t4_2.1)], 0, none⟩]) rfl ?_ ?_
    · by_cases c2 : t5_2 = true
      · exact (.op 0 rfl (ldG rfl sz35 ag35 rfl) <| .op 0 rfl (ldG rfl sz35 ag35 rfl) <| .callI rfl (callee_of rfl go8 rfl) (.pure rfl rfl (r10_Same.D g5_2)) <| .op 0 rfl (notB rfl) <| .op 0 rfl (mvV rfl) <| .op 0 (gT rfl rfl rfl (bnotF c2)) (mvV rfl) <| .op 0 (gT rfl rfl rfl (bnotF c2)) (mvV rfl) <| .op 0 (gT rfl rfl rfl (bnotF c2)) (neI rfl rfl) <| .op 0 rfl (pkFV rfl (bnotF c2) rfl) <| .nilL _ ⟨.ptr rfl, .ptr rfl, .ptr rfl, .ptr rfl, .free rfl rfl, cB rfl (mOrF (bnotF c2) rfl), trivial⟩)
      · exact (.op 0 rfl (ldG rfl sz35 ag35 rfl) <| .op 0 rfl (ldG rfl sz35 ag35 rfl) <| .callI rfl (callee_of rfl go8 rfl) (.pure rfl rfl (r10_Same.D g5_2)) <| .op 0 rfl (notB rfl) <| .op 0 rfl (mvV rfl) <| .no (gF rfl rfl rfl (bnotT (Bool.eq_false_iff.mpr c2))) <| .no (gF rfl rfl rfl (bnotT (Bool.eq_false_iff.mpr c2))) <| .no (gF rfl rfl rfl (bnotT (Bool.eq_false_iff.mpr c2))) <| .op 0 rfl (pkTV rfl (bnotT (Bool.eq_false_iff.mpr c2)) rfl) <| .nilL _ ⟨.ptr rfl, .ptr rfl, .ptr rfl, .ptr rfl, .free rfl rfl, cB rfl (mOrT (bnotT (Bool.eq_false_iff.mpr c2))), trivial⟩)
    by_cases c3 : ((!t5_2) || (t3_2.2 != t4_2.2)) = true
    · rw [if_pos c3] at h
      refine .condT rfl c3 ?_
      refine .seq ?_
      refine .reg0 rfl (.op 0 rfl (asV rfl) <| .nil0) ?_
      replace h := h.symm
      subst h
      refine .keepL [] [(6, .val (.bool false))] [] (by decide) (by decide) ⟨.free rfl rfl, trivial⟩ trivial ?_
      exact .ret rfl
    · rw [if_neg c3] at h
      refine .condF rfl (Bool.eq_false_iff.mpr c3) ?_
      refine .skip ?_
      refine .seq ?_
      refine .seq ?_
      obtain ⟨t7_5, g7_5, h⟩ := h
      refine .reg0 (e1 := listEnv [(3, .ptr 0 1 6 0 0), (4, .ptr 1 1 2 0 0), (5, .ptr 2 1 2 0 0), (7, .ptr 3 1 7 0 0), (57, .val (.bool ((!(t3_2.2 == 0)) || ((!(t7_5 == 0)) || ((decide ((a1.W.length : Int) > 60)) || (decide ((a2.W.length : Int) > 60)))))))]) (H1 := [⟨6, [(TPds.lit a0)], 0, none⟩, ⟨2, [(TConf.lit a1)], 0, none⟩, ⟨2, [(TConf.lit a2)], 0, none⟩, ⟨7, [(TAuto.lit t3_2.1)], 0, none⟩, ⟨7, [(TAuto.lit t4_2.1)], 0, none⟩]) rfl ?_ ?_
      · by_cases c4 : t3_2.2 = 0
        · by_cases c5 : t7_5 = 0
          · by_cases c6 : (a1.W.length : Int) > 60
            · exact (.op 0 rfl (mvV rfl) <| .op 0 rfl (neI rfl rfl) <| .op 0 rfl (mvV rfl) <| .op 0 (gT rfl rfl rfl (bne_eq_false_iff_eq.mpr c4)) (ldG rfl sz28 ag28 rfl) <| .op 0 (gT rfl rfl rfl (bne_eq_false_iff_eq.mpr c4)) (ldG rfl sz31 ag31 rfl) <| .callI (gT rfl rfl rfl (bne_eq_false_iff_eq.mpr c4)) (callee_of rfl go9 rfl) (.pure rfl rfl (r12_Check.D (g7_5 c4))) <| .op 0 (gT rfl rfl rfl (bne_eq_false_iff_eq.mpr c4)) (neI rfl rfl) <| .op 0 rfl (pkFV rfl (bne_eq_false_iff_eq.mpr c4) rfl) <| .op 0 rfl (mvV rfl) <| .op 0 (gT rfl rfl rfl (bne_eq_false_iff_eq.mpr c5)) (faP fa31_1 rfl) <| .op 0 (gT rfl rfl rfl (bne_eq_false_iff_eq.mpr c5)) (ldP rfl sz29 ag29 rfl) <| .op 0 (gT rfl rfl rfl (bne_eq_false_iff_eq.mpr c5)) (lnR (l := a1.W) sl29 rfl) <| .op 0 (gT rfl rfl rfl (bne_eq_false_iff_eq.mpr c5)) (gtI rfl rfl) <| .op 0 rfl (pkFV rfl (bne_eq_false_iff_eq.mpr c5) rfl) <| .op 0 rfl (mvV rfl) <| .no (gF rfl rfl rfl (decide_eq_true c6)) <| .no (gF rfl rfl rfl (decide_eq_true c6)) <| .no (gF rfl rfl rfl (decide_eq_true c6)) <| .no (gF rfl rfl rfl (decide_eq_true c6)) <| .op 0 rfl (pkTV rfl (decide_eq_true c6) rfl) <| .nilL _ ⟨.ptr rfl, .ptr rfl, .ptr rfl, .ptr rfl, cB rfl (mOrF (bnotF (beq_iff_eq.mpr c4)) (mOrF (bnotF (beq_iff_eq.mpr c5)) (mOrT (decide_eq_true c6)))), trivial⟩)
            · exact (.op 0 rfl (mvV rfl) <| .op 0 rfl (neI rfl rfl) <| .op 0 rfl (mvV rfl) <| .op 0 (gT rfl rfl rfl (bne_eq_false_iff_eq.mpr c4)) (ldG rfl sz28 ag28 rfl) <| .op 0 (gT rfl rfl rfl (bne_eq_false_iff_eq.mpr c4)) (ldG rfl sz31 ag31 rfl) <| .callI (gT rfl rfl rfl (bne_eq_false_iff_eq.mpr c4)) (callee_of rfl go9 rfl) (.pure rfl rfl (r12_Check.D (g7_5 c4))) <| .op 0 (gT rfl rfl rfl (bne_eq_false_iff_eq.mpr c4)) (neI rfl rfl) <| .op 0 rfl (pkFV rfl (bne_eq_false_iff_eq.mpr c4) rfl) <| .op 0 rfl (mvV rfl) <| .op 0 (gT rfl rfl rfl (bne_eq_false_iff_eq.mpr c5)) (faP fa31_1 rfl) <| .op 0 (gT rfl rfl rfl (bne_eq_false_iff_eq.mpr c5)) (ldP rfl sz29 ag29 rfl) <| .op 0 (gT rfl rfl rfl (bne_eq_false_iff_eq.mpr c5)) (lnR (l := a1.W) sl29 rfl) <| .op 0 (gT rfl rfl rfl (bne_eq_false_iff_eq.mpr c5)) (gtI rfl rfl) <| .op 0 rfl (pkFV rfl (bne_eq_false_iff_eq.mpr c5) rfl) <| .op 0 rfl (mvV rfl) <| .op 0 (gT rfl rfl rfl (decide_eq_false c6)) (faP fa31_1 rfl) <| .op 0 (gT rfl rfl rfl (decide_eq_false c6)) (ldP rfl sz29 ag29 rfl) <| .op 0 (gT rfl rfl rfl (decide_eq_false c6)) (lnR (l := a2.W) sl29 rfl) <| .op 0 (gT rfl rfl rfl (decide_eq_false c6)) (gtI rfl rfl) <| .op 0 rfl (pkFV rfl (decide_eq_false c6) rfl) <| .nilL _ ⟨.ptr rfl, .ptr rfl, .ptr rfl, .ptr rfl, cB rfl (mOrF (bnotF (beq_iff_eq.mpr c4)) (mOrF (bnotF (beq_iff_eq.mpr c5)) (mOrF (decide_eq_false c6) rfl))), trivial⟩)
          · exact (.op 0 rfl (mvV rfl) <| .op 0 rfl (neI rfl rfl) <| .op 0 rfl (mvV rfl) <| .op 0 (gT rfl rfl rfl (bne_eq_false_iff_eq.mpr c4)) (ldG rfl sz28 ag28 rfl) <| .op 0 (gT rfl rfl rfl (bne_eq_false_iff_eq.mpr c4)) (ldG rfl sz31 ag31 rfl) <| .callI (gT rfl rfl rfl (bne_eq_false_iff_eq.mpr c4)) (callee_of rfl go9 rfl) (.pure rfl rfl (r12_Check.D (g7_5 c4))) <| .op 0 (gT rfl rfl rfl (bne_eq_false_iff_eq.mpr c4)) (neI rfl rfl) <| .op 0 rfl (pkFV rfl (bne_eq_false_iff_eq.mpr c4) rfl) <| .op 0 rfl (mvV rfl) <| .no (gF rfl rfl rfl (bne_iff_ne.mpr c5)) <| .no (gF rfl rfl rfl (bne_iff_ne.mpr c5)) <| .no (gF rfl rfl rfl (bne_iff_ne.mpr c5)) <| .no (gF rfl rfl rfl (bne_iff_ne.mpr c5)) <| .op 0 rfl (pkTV rfl (bne_iff_ne.mpr c5) rfl) <| .op 0 rfl (mvV rfl) <| .no (gF rfl rfl rfl rfl) <| .no (gF rfl rfl rfl rfl) <| .no (gF rfl rfl rfl rfl) <| .no (gF rfl rfl rfl rfl) <| .op 0 rfl (pkTV rfl rfl rfl) <| .nilL _ ⟨.ptr rfl, .ptr rfl, .ptr rfl, .ptr rfl, cB rfl (mOrF (bnotF (beq_iff_eq.mpr c4)) (mOrT (bnotT (beq_eq_false_iff_ne.mpr c5)))), trivial⟩)
        · exact (.op 0 rfl (mvV rfl) <| .op 0 rfl (neI rfl rfl) <| .op 0 rfl (mvV rfl) <| .no (gF rfl rfl rfl (bne_iff_ne.mpr c4)) <| .no (gF rfl rfl rfl (bne_iff_ne.mpr c4)) <| .no (gF rfl rfl rfl (bne_iff_ne.mpr c4)) <| .no (gF rfl rfl rfl (bne_iff_ne.mpr c4)) <| .op 0 rfl (pkTV rfl (bne_iff_ne.mpr c4) rfl) <| .op 0 rfl (mvV rfl) <| .no (gF rfl rfl rfl rfl) <| .no (gF rfl rfl rfl rfl) <| .no (gF rfl rfl rfl rfl) <| .no (gF rfl rfl rfl rfl) <| .op 0 rfl (pkTV rfl rfl rfl) <| .op 0 rfl (mvV rfl) <| .no (gF rfl rfl rfl rfl) <| .no (gF rfl rfl rfl rfl) <| .no (gF rfl rfl rfl rfl) <| .no (gF rfl rfl rfl rfl) <| .op 0 rfl (pkTV rfl rfl rfl) <| .nilL _ ⟨.ptr rfl, .ptr rfl, .ptr rfl, .ptr rfl, cB rfl (mOrT (bnotT (beq_eq_false_iff_ne.mpr c4))), trivial⟩)
      by_cases c7 : ((!(t3_2.2 == 0)) || ((!(t7_5 == 0)) || ((decide ((a1.W.length : Int) > 60)) || (decide ((a2.W.length : Int) > 60))))) = true
      · rw [if_pos c7] at h
        refine .condT rfl c7 ?_
        refine .seq ?_
        refine .reg0 rfl (.op 0 rfl (asV rfl) <| .nil0) ?_
        replace h := h.symm
        subst h
        refine .keepL [] [(6, .val (.bool true))] [] (by decide) (by decide) ⟨.free rfl rfl, trivial⟩ trivial ?_
        exact .ret rfl
      · rw [if_neg c7] at h
        refine .condF rfl (Bool.eq_false_iff.mpr c7) ?_
        refine .skip ?_
        refine .seq ?_
        obtain ⟨t9_5, g9_5, h⟩ := h
        refine .room 0 ?_
        refine .reg0 rfl (.op 0 rfl (ldG rfl sz35 ag35 rfl) <| .op 0 rfl (faP fa31_0 rfl) <| .op 0 rfl (ldP rfl sz3 ag3 rfl) <| .op 0 rfl (faP fa31_1 rfl) <| .op 0 rfl (ldP rfl sz29 ag29 rfl) <| .callI rfl (callee_of rfl go10 rfl) (.pure rfl rfl (r10_Value.D g9_5)) <| .op 0 rfl (mvT rfl) <| .op 0 rfl (exT rfl rfl) <| .op 0 rfl (exT rfl rfl) <| .op 5 rfl (alP (s := 6) ze48 ⟨rfl, by decide, rfl⟩ rfl) <| .op 0 rfl (stB (cs0 := [.val (.bool false), .val (.int .i64 0), .val (.int .u64 0), .val (.slice none 0 0), .val (.slice none 0 0), .val (.slice none 0 0)]) (cs := (TWeight.lit t9_5.1)) (cs1 := (TWeight.lit t9_5.1)) rfl rfl sz48 rfl ⟨Nat.le_of_ble_eq_true rfl, rfl⟩ rfl) <| .op 0 rfl (asV rfl) <| .nil0) ?_
        refine .seq ?_
        obtain ⟨t10_5, g10_5, h⟩ := h
        refine .room 0 ?_
        refine .reg0 rfl (.op 0 rfl (ldG rfl sz35 ag35 rfl) <| .op 0 rfl (faP fa31_0 rfl) <| .op 0 rfl (ldP rfl sz3 ag3 rfl) <| .op 0 rfl (faP fa31_1 rfl) <| .op 0 rfl (ldP rfl sz29 ag29 rfl) <| .callI rfl (callee_of rfl go10 rfl) (.pure rfl rfl (r10_Value.D g10_5)) <| .op 0 rfl (mvT rfl) <| .op 0 rfl (exT rfl rfl) <| .op 0 rfl (exT rfl rfl) <| .op 6 rfl (alP (s := 6) ze48 ⟨rfl, by decide, rfl⟩ rfl) <| .op 0 rfl (stB (cs0 := [.val (.bool false), .val (.int .i64 0), .val (.int .u64 0), .val (.slice none 0 0), .val (.slice none 0 0), .val (.slice none 0 0)]) (cs := (TWeight.lit t10_5.1)) (cs1 := (TWeight.lit t10_5.1)) rfl rfl sz48 rfl ⟨Nat.le_of_ble_eq_true rfl, rfl⟩ rfl) <| .op 0 rfl (asV rfl) <| .nil0) ?_
        refine .seq ?_
        refine .seq ?_
        obtain ⟨t11_9, g11_9, h⟩ := h
        obtain ⟨t11_16, g11_16, h⟩ := h
        obtain ⟨t11_17, g11_17, h⟩ := h
        refine .reg1 (e1 := listEnv [(3, .ptr 0 1 6 0 0), (4, .ptr 1 1 2 0 0), (5, .ptr 2 1 2 0 0), (13, .ptr 6 1 6 0 0), (95, .val (.bool ((!(t9_5.2 == 0)) || ((!(t10_5.2 == 0)) || ((!(t11_9 == 0)) || (!t11_17))))))]) (H1 := [⟨6, [(TPds.lit a0)], 0, none⟩, ⟨2, [(TConf.lit a1)], 0, none⟩, ⟨2, [(TConf.lit a2)], 0, none⟩, ⟨7, [(TAuto.lit t3_2.1)], 0, none⟩, ⟨7, [(TAuto.lit t4_2.1)], 0, none⟩, ⟨6, [(TWeight.lit t9_5.1)], 0, none⟩, ⟨6, [(TWeight.lit t10_5.1)], 0, none⟩]) rfl ?_ ?_
        · by_cases c8 : t9_5.2 = 0
          · by_cases c9 : t10_5.2 = 0
            · by_cases c10 : t11_9 = 0
              · exact .drawM [(19, 95, .val (.bool (!t11_17))), (18, 94, .val (.bool (!t11_17))), (17, 93, .val (.bool t11_17)), (16, 92, .agg (TWeight.lit t11_16)), (15, 91, .agg (TSpace.lit a0.Space)), (14, 90, .ptr 0 1 6 0 0), (13, 89, .agg (TWeight.lit t9_5.1)), (12, 88, .val (.bool (t11_9 != 0))), (11, 87, .val (.bool (t11_9 != 0))), (10, 86, .val (.bool (t11_9 != 0))), (9, 85, .val (.int .i64 t11_9)), (8, 84, .agg (TAuto.lit t3_2.1)), (7, 83, .agg (TPds.lit a0)), (6, 82, .val (.bool (t10_5.2 != 0))), (5, 81, .val (.bool (t10_5.2 != 0))), (4, 80, .val (.bool (t10_5.2 != 0))), (3, 79, .val (.int .i64 t10_5.2)), (2, 78, .val (.bool (t9_5.2 != 0))), (1, 77, .val (.bool (t9_5.2 != 0))), (0, 76, .val (.int .i64 t9_5.2))] [] [[], [0], [1, 0], [2, 1, 0], [3, 2, 1, 0], [2, 1, 0, 4, 3], [5, 2, 1, 0, 4, 3], [6, 5, 2, 1, 0, 4, 3], [6, 5, 2, 1, 0, 4, 3], [7, 6, 5, 2, 1, 0, 4, 3, 8], [9, 7, 6, 5, 2, 1, 0, 4, 3, 8], [6, 5, 2, 1, 0, 4, 3, 10, 9, 7, 8], [11, 6, 5, 2, 1, 0, 4, 3, 10, 9, 7, 8], [12, 11, 6, 5, 2, 1, 0, 4, 3, 10, 9, 7, 8], [12, 11, 6, 5, 2, 1, 0, 4, 3, 10, 9, 7, 8], [14, 12, 11, 6, 5, 2, 1, 0, 4, 3, 10, 9, 7, 8], [15, 14, 12, 11, 6, 5, 2, 1, 0, 4, 3, 10, 9, 7, 8], [13, 12, 11, 6, 5, 2, 1, 0, 4, 3, 10, 9, 7, 8, 16, 15, 14], [17, 13, 12, 11, 6, 5, 2, 1, 0, 4, 3, 10, 9, 7, 8, 16, 15, 14], [12, 11, 6, 5, 2, 1, 0, 4, 3, 10, 9, 7, 8, 18, 17, 13, 16, 15, 14]] (by rfl) (by rfl) (by rfl) (by exact ⟨fun S hS hD hn => .one 0 hS hD hn rfl rfl (mvV rfl) rfl rfl rfl, fun S hS hD hn => .one 0 hS hD hn rfl rfl (neI rfl rfl) rfl rfl rfl, fun S hS hD hn => .one 0 hS hD hn rfl rfl (mvV rfl) rfl rfl rfl, fun S hS hD hn => .one 0 hS hD hn (gT rfl rfl rfl (bne_eq_false_iff_eq.mpr c8)) rfl (mvV rfl) rfl rfl rfl, fun S hS hD hn => .one 0 hS hD hn (gT rfl rfl rfl (bne_eq_false_iff_eq.mpr c8)) rfl (neI rfl rfl) rfl rfl rfl, fun S hS hD hn => .one 0 hS hD hn rfl rfl (pkFV rfl (bne_eq_false_iff_eq.mpr c8) rfl) rfl rfl rfl, fun S hS hD hn => .one 0 hS hD hn rfl rfl (mvV rfl) rfl rfl rfl, fun S hS hD hn => .one 0 hS hD hn (gT rfl rfl rfl (bne_eq_false_iff_eq.mpr c9)) rfl (ldG rfl sz28 ag28 rfl) rfl rfl rfl, fun S hS hD hn => .one 0 hS hD hn (gT rfl rfl rfl (bne_eq_false_iff_eq.mpr c9)) rfl (ldG rfl sz35 ag35 rfl) rfl rfl rfl, fun S hS hD hn => .oneI hS hD hn (gT rfl rfl rfl (bne_eq_false_iff_eq.mpr c9)) rfl (callee_of rfl go11 rfl) (.pure rfl rfl (r14_Check.D (g11_9 c8 c9))) rfl rfl rfl, fun S hS hD hn => .one 0 hS hD hn (gT rfl rfl rfl (bne_eq_false_iff_eq.mpr c9)) rfl (neI rfl rfl) rfl rfl rfl, fun S hS hD hn => .one 0 hS hD hn rfl rfl (pkFV rfl (bne_eq_false_iff_eq.mpr c9) rfl) rfl rfl rfl, fun S hS hD hn => .one 0 hS hD hn rfl rfl (mvV rfl) rfl rfl rfl, fun S hS hD hn => .one 0 hS hD hn (gT rfl rfl rfl (bne_eq_false_iff_eq.mpr c10)) rfl (ldG rfl sz48 ag48 rfl) rfl rfl rfl, fun S hS hD hn => .one 0 hS hD hn (gT rfl rfl rfl (bne_eq_false_iff_eq.mpr c10)) rfl (faP fa28_0 rfl) rfl rfl rfl, fun S hS hD hn => .one 0 hS hD hn (gT rfl rfl rfl (bne_eq_false_iff_eq.mpr c10)) rfl (ldG rfl sz25 ag25 rfl) rfl rfl rfl, fun S hS hD hn => .oneI hS hD hn (gT rfl rfl rfl (bne_eq_false_iff_eq.mpr c10)) rfl (callee_of rfl go13 rfl) (.pure rfl rfl (r10_One.D (g11_16 c8 c9 c10))) rfl rfl rfl, fun S hS hD hn => .oneI hS hD hn (gT rfl rfl rfl (bne_eq_false_iff_eq.mpr c10)) rfl (callee_of rfl go12 rfl) (.pure rfl rfl (r05_Same.D (g11_17 c8 c9 c10))) rfl rfl rfl, fun S hS hD hn => .one 0 hS hD hn (gT rfl rfl rfl (bne_eq_false_iff_eq.mpr c10)) rfl (notB rfl) rfl rfl rfl, fun S hS hD hn => .one 0 hS hD hn rfl rfl (pkFV rfl (bne_eq_false_iff_eq.mpr c10) rfl) rfl rfl rfl, trivial⟩) _ (by exact ⟨.ptr rfl, .ptr rfl, .ptr rfl, .ptr rfl, cB rfl (mOrF (bnotF (beq_iff_eq.mpr c8)) (mOrF (bnotF (beq_iff_eq.mpr c9)) (mOrF (bnotF (beq_iff_eq.mpr c10)) rfl))), trivial⟩) (by rfl)
              · exact .drawM [(19, 95, .val (.bool true)), (18, 94, .val undef), (17, 93, .val undef), (16, 92, .val undef), (15, 91, .val undef), (14, 90, .val undef), (13, 89, .val undef), (12, 88, .val (.bool (t11_9 != 0))), (11, 87, .val (.bool (t11_9 != 0))), (10, 86, .val (.bool (t11_9 != 0))), (9, 85, .val (.int .i64 t11_9)), (8, 84, .agg (TAuto.lit t3_2.1)), (7, 83, .agg (TPds.lit a0)), (6, 82, .val (.bool (t10_5.2 != 0))), (5, 81, .val (.bool (t10_5.2 != 0))), (4, 80, .val (.bool (t10_5.2 != 0))), (3, 79, .val (.int .i64 t10_5.2)), (2, 78, .val (.bool (t9_5.2 != 0))), (1, 77, .val (.bool (t9_5.2 != 0))), (0, 76, .val (.int .i64 t9_5.2))] [] [[], [0], [1, 0], [2, 1, 0], [3, 2, 1, 0], [2, 1, 0, 4, 3], [5, 2, 1, 0, 4, 3], [6, 5, 2, 1, 0, 4, 3], [6, 5, 2, 1, 0, 4, 3], [7, 6, 5, 2, 1, 0, 4, 3, 8], [9, 7, 6, 5, 2, 1, 0, 4, 3, 8], [6, 5, 2, 1, 0, 4, 3, 10, 9, 7, 8], [11, 6, 5, 2, 1, 0, 4, 3, 10, 9, 7, 8], [12, 11, 6, 5, 2, 1, 0, 4, 3, 10, 9, 7, 8], [12, 11, 6, 5, 2, 1, 0, 4, 3, 10, 9, 7, 8], [14, 12, 11, 6, 5, 2, 1, 0, 4, 3, 10, 9, 7, 8], [15, 14, 12, 11, 6, 5, 2, 1, 0, 4, 3, 10, 9, 7, 8], [13, 12, 11, 6, 5, 2, 1, 0, 4, 3, 10, 9, 7, 8, 16, 15, 14], [17, 13, 12, 11, 6, 5, 2, 1, 0, 4, 3, 10, 9, 7, 8, 16, 15, 14], [12, 11, 6, 5, 2, 1, 0, 4, 3, 10, 9, 7, 8, 18, 17, 13, 16, 15, 14]] (by rfl) (by rfl) (by rfl) (by exact ⟨fun S hS hD hn => .one 0 hS hD hn rfl rfl (mvV rfl) rfl rfl rfl, fun S hS hD hn => .one 0 hS hD hn rfl rfl (neI rfl rfl) rfl rfl rfl, fun S hS hD hn => .one 0 hS hD hn rfl rfl (mvV rfl) rfl rfl rfl, fun S hS hD hn => .one 0 hS hD hn (gT rfl rfl rfl (bne_eq_false_iff_eq.mpr c8)) rfl (mvV rfl) rfl rfl rfl, fun S hS hD hn => .one 0 hS hD hn (gT rfl rfl rfl (bne_eq_false_iff_eq.mpr c8)) rfl (neI rfl rfl) rfl rfl rfl, fun S hS hD hn => .one 0 hS hD hn rfl rfl (pkFV rfl (bne_eq_false_iff_eq.mpr c8) rfl) rfl rfl rfl, fun S hS hD hn => .one 0 hS hD hn rfl rfl (mvV rfl) rfl rfl rfl, fun S hS hD hn => .one 0 hS hD hn (gT rfl rfl rfl (bne_eq_false_iff_eq.mpr c9)) rfl (ldG rfl sz28 ag28 rfl) rfl rfl rfl, fun S hS hD hn => .one 0 hS hD hn (gT rfl rfl rfl (bne_eq_false_iff_eq.mpr c9)) rfl (ldG rfl sz35 ag35 rfl) rfl rfl rfl, fun S hS hD hn => .oneI hS hD hn (gT rfl rfl rfl (bne_eq_false_iff_eq.mpr c9)) rfl (callee_of rfl go11 rfl) (.pure rfl rfl (r14_Check.D (g11_9 c8 c9))) rfl rfl rfl, fun S hS hD hn => .one 0 hS hD hn (gT rfl rfl rfl (bne_eq_false_iff_eq.mpr c9)) rfl (neI rfl rfl) rfl rfl rfl, fun S hS hD hn => .one 0 hS hD hn rfl rfl (pkFV rfl (bne_eq_false_iff_eq.mpr c9) rfl) rfl rfl rfl, fun S hS hD hn => .one 0 hS hD hn rfl rfl (mvV rfl) rfl rfl rfl, fun S hS hD hn => .oneNo hS hD (gF rfl rfl rfl (bne_iff_ne.mpr c10)) rfl hn rfl rfl rfl, fun S hS hD hn => .oneNo hS hD (gF rfl rfl rfl (bne_iff_ne.mpr c10)) rfl hn rfl rfl rfl, fun S hS hD hn => .oneNo hS hD (gF rfl rfl rfl (bne_iff_ne.mpr c10)) rfl hn rfl rfl rfl, fun S hS hD hn => .oneNo hS hD (gF rfl rfl rfl (bne_iff_ne.mpr c10)) rfl hn rfl rfl rfl, fun S hS hD hn => .oneNo hS hD (gF rfl rfl rfl (bne_iff_ne.mpr c10)) rfl hn rfl rfl rfl, fun S hS hD hn => .oneNo hS hD (gF rfl rfl rfl (bne_iff_ne.mpr c10)) rfl hn rfl rfl rfl, fun S hS hD hn => .one 0 hS hD hn rfl rfl (pkTV rfl (bne_iff_ne.mpr c10) rfl) rfl rfl rfl, trivial⟩) _ (by exact ⟨.ptr rfl, .ptr rfl, .ptr rfl, .ptr rfl, cB rfl (mOrF (bnotF (beq_iff_eq.mpr c8)) (mOrF (bnotF (beq_iff_eq.mpr c9)) (mOrT (bnotT (beq_eq_false_iff_ne.mpr c10))))), trivial⟩) (by rfl)
            · exact .drawM [(19, 95, .val (.bool true)), (18, 94, .val undef), (17, 93, .val undef), (16, 92, .val undef), (15, 91, .val undef), (14, 90, .val undef), (13, 89, .val undef), (12, 88, .val (.bool true)), (11, 87, .val (.bool true)), (10, 86, .val undef), (9, 85, .val undef), (8, 84, .val undef), (7, 83, .val undef), (6, 82, .val (.bool (t10_5.2 != 0))), (5, 81, .val (.bool (t10_5.2 != 0))), (4, 80, .val (.bool (t10_5.2 != 0))), (3, 79, .val (.int .i64 t10_5.2)), (2, 78, .val (.bool (t9_5.2 != 0))), (1, 77, .val (.bool (t9_5.2 != 0))), (0, 76, .val (.int .i64 t9_5.2))] [] [[], [0], [1, 0], [2, 1, 0], [3, 2, 1, 0], [2, 1, 0, 4, 3], [5, 2, 1, 0, 4, 3], [6, 5, 2, 1, 0, 4, 3], [6, 5, 2, 1, 0, 4, 3], [7, 6, 5, 2, 1, 0, 4, 3, 8], [9, 7, 6, 5, 2, 1, 0, 4, 3, 8], [6, 5, 2, 1, 0, 4, 3, 10, 9, 7, 8], [11, 6, 5, 2, 1, 0, 4, 3, 10, 9, 7, 8], [12, 11, 6, 5, 2, 1, 0, 4, 3, 10, 9, 7, 8], [12, 11, 6, 5, 2, 1, 0, 4, 3, 10, 9, 7, 8], [14, 12, 11, 6, 5, 2, 1, 0, 4, 3, 10, 9, 7, 8], [15, 14, 12, 11, 6, 5, 2, 1, 0, 4, 3, 10, 9, 7, 8], [13, 12, 11, 6, 5, 2, 1, 0, 4, 3, 10, 9, 7, 8, 16, 15, 14], [17, 13, 12, 11, 6, 5, 2, 1, 0, 4, 3, 10, 9, 7, 8, 16, 15, 14], [12, 11, 6, 5, 2, 1, 0, 4, 3, 10, 9, 7, 8, 18, 17, 13, 16, 15, 14]] (by rfl) (by rfl) (by rfl) (by exact ⟨fun S hS hD hn => .one 0 hS hD hn rfl rfl (mvV rfl) rfl rfl rfl, fun S hS hD hn => .one 0 hS hD hn rfl rfl (neI rfl rfl) rfl rfl rfl, fun S hS hD hn => .one 0 hS hD hn rfl rfl (mvV rfl) rfl rfl rfl, fun S hS hD hn => .one 0 hS hD hn (gT rfl rfl rfl (bne_eq_false_iff_eq.mpr c8)) rfl (mvV rfl) rfl rfl rfl, fun S hS hD hn => .one 0 hS hD hn (gT rfl rfl rfl (bne_eq_false_iff_eq.mpr c8)) rfl (neI rfl rfl) rfl rfl rfl, fun S hS hD hn => .one 0 hS hD hn rfl rfl (pkFV rfl (bne_eq_false_iff_eq.mpr c8) rfl) rfl rfl rfl, fun S hS hD hn => .one 0 hS hD hn rfl rfl (mvV rfl) rfl rfl rfl, fun S hS hD hn => .oneNo hS hD (gF rfl rfl rfl (bne_iff_ne.mpr c9)) rfl hn rfl rfl rfl, fun S hS hD hn => .oneNo hS hD (gF rfl rfl rfl (bne_iff_ne.mpr c9)) rfl hn rfl rfl rfl, fun S hS hD hn => .oneNo hS hD (gF rfl rfl rfl (bne_iff_ne.mpr c9)) rfl hn rfl rfl rfl, fun S hS hD hn => .oneNo hS hD (gF rfl rfl rfl (bne_iff_ne.mpr c9)) rfl hn rfl rfl rfl, fun S hS hD hn => .one 0 hS hD hn rfl rfl (pkTV rfl (bne_iff_ne.mpr c9) rfl) rfl rfl rfl, fun S hS hD hn => .one 0 hS hD hn rfl rfl (mvV rfl) rfl rfl rfl, fun S hS hD hn => .oneNo hS hD (gF rfl rfl rfl rfl) rfl hn rfl rfl rfl, fun S hS hD hn => .oneNo hS hD (gF rfl rfl rfl rfl) rfl hn rfl rfl rfl, fun S hS hD hn => .oneNo hS hD (gF rfl rfl rfl rfl) rfl hn rfl rfl rfl, fun S hS hD hn => .oneNo hS hD (gF rfl rfl rfl rfl) rfl hn rfl rfl rfl, fun S hS hD hn => .oneNo hS hD (gF rfl rfl rfl rfl) rfl hn rfl rfl rfl, fun S hS hD hn => .oneNo hS hD (gF rfl rfl rfl rfl) rfl hn rfl rfl rfl, fun S hS hD hn => .one 0 hS hD hn rfl rfl (pkTV rfl rfl rfl) rfl rfl rfl, trivial⟩) _ (by exact ⟨.ptr rfl, .ptr rfl, .ptr rfl, .ptr rfl, cB rfl (mOrF (bnotF (beq_iff_eq.mpr c8)) (mOrT (bnotT (beq_eq_false_iff_ne.mpr c9)))), trivial⟩) (by rfl)
          · exact .drawM [(19, 95, .val (.bool true)), (18, 94, .val undef), (17, 93, .val undef), (16, 92, .val undef), (15, 91, .val undef), (14, 90, .val undef), (13, 89, .val undef), (12, 88, .val (.bool true)), (11, 87, .val (.bool true)), (10, 86, .val undef), (9, 85, .val undef), (8, 84, .val undef), (7, 83, .val undef), (6, 82, .val (.bool true)), (5, 81, .val (.bool true)), (4, 80, .val undef), (3, 79, .val undef), (2, 78, .val (.bool (t9_5.2 != 0))), (1, 77, .val (.bool (t9_5.2 != 0))), (0, 76, .val (.int .i64 t9_5.2))] [] [[], [0], [1, 0], [2, 1, 0], [3, 2, 1, 0], [2, 1, 0, 4, 3], [5, 2, 1, 0, 4, 3], [6, 5, 2, 1, 0, 4, 3], [6, 5, 2, 1, 0, 4, 3], [7, 6, 5, 2, 1, 0, 4, 3, 8], [9, 7, 6, 5, 2, 1, 0, 4, 3, 8], [6, 5, 2, 1, 0, 4, 3, 10, 9, 7, 8], [11, 6, 5, 2, 1, 0, 4, 3, 10, 9, 7, 8], [12, 11, 6, 5, 2, 1, 0, 4, 3, 10, 9, 7, 8], [12, 11, 6, 5, 2, 1, 0, 4, 3, 10, 9, 7, 8], [14, 12, 11, 6, 5, 2, 1, 0, 4, 3, 10, 9, 7, 8], [15, 14, 12, 11, 6, 5, 2, 1, 0, 4, 3, 10, 9, 7, 8], [13, 12, 11, 6, 5, 2, 1, 0, 4, 3, 10, 9, 7, 8, 16, 15, 14], [17, 13, 12, 11, 6, 5, 2, 1, 0, 4, 3, 10, 9, 7, 8, 16, 15, 14], [12, 11, 6, 5, 2, 1, 0, 4, 3, 10, 9, 7, 8, 18, 17, 13, 16, 15, 14]] (by rfl) (by rfl) (by rfl) (by exact ⟨fun S hS hD hn => .one 0 hS hD hn rfl rfl (mvV rfl) rfl rfl rfl, fun S hS hD hn => .one 0 hS hD hn rfl rfl (neI rfl rfl) rfl rfl rfl, fun S hS hD hn => .one 0 hS hD hn rfl rfl (mvV rfl) rfl rfl rfl, fun S hS hD hn => .oneNo hS hD (gF rfl rfl rfl (bne_iff_ne.mpr c8)) rfl hn rfl rfl rfl, fun S hS hD hn => .oneNo hS hD (gF rfl rfl rfl (bne_iff_ne.mpr c8)) rfl hn rfl rfl rfl, fun S hS hD hn => .one 0 hS hD hn rfl rfl (pkTV rfl (bne_iff_ne.mpr c8) rfl) rfl rfl rfl, fun S hS hD hn => .one 0 hS hD hn rfl rfl (mvV rfl) rfl rfl rfl, fun S hS hD hn => .oneNo hS hD (gF rfl rfl rfl rfl) rfl hn rfl rfl rfl, fun S hS hD hn => .oneNo hS hD (gF rfl rfl rfl rfl) rfl hn rfl rfl rfl, fun S hS hD hn => .oneNo hS hD (gF rfl rfl rfl rfl) rfl hn rfl rfl rfl, fun S hS hD hn => .oneNo hS hD (gF rfl rfl rfl rfl) rfl hn rfl rfl rfl, fun S hS hD hn => .one 0 hS hD hn rfl rfl (pkTV rfl rfl rfl) rfl rfl rfl, fun S hS hD hn => .one 0 hS hD hn rfl rfl (mvV rfl) rfl rfl rfl, fun S hS hD hn => .oneNo hS hD (gF rfl rfl rfl rfl) rfl hn rfl rfl rfl, fun S hS hD hn => .oneNo hS hD (gF rfl rfl rfl rfl) rfl hn rfl rfl rfl, fun S hS hD hn => .oneNo hS hD (gF rfl rfl rfl rfl) rfl hn rfl rfl rfl, fun S hS hD hn => .oneNo hS hD (gF rfl rfl rfl rfl) rfl hn rfl rfl rfl, fun S hS hD hn => .oneNo hS hD (gF rfl rfl rfl rfl) rfl hn rfl rfl rfl, fun S hS hD hn => .oneNo hS hD (gF rfl rfl rfl rfl) rfl hn rfl rfl rfl, fun S hS hD hn => .one 0 hS hD hn rfl rfl (pkTV rfl rfl rfl) rfl rfl rfl, trivial⟩) _ (by exact ⟨.ptr rfl, .ptr rfl, .ptr rfl, .ptr rfl, cB rfl (mOrT (bnotT (beq_eq_false_iff_ne.mpr c8))), trivial⟩) (by rfl)
        by_cases c11 : ((!(t9_5.2 == 0)) || ((!(t10_5.2 == 0)) || ((!(t11_9 == 0)) || (!t11_17)))) = true
        · rw [if_pos c11] at h
          refine .condT rfl c11 ?_
          refine .seq ?_
          refine .reg0 rfl (.op 0 rfl (asV rfl) <| .nil0) ?_
          replace h := h.symm
          subst h
          refine .keepL [] [(6, .val (.bool false))] [] (by decide) (by decide) ⟨.free rfl rfl, trivial⟩ trivial ?_
          exact .ret rfl
        · rw [if_neg c11] at h
          refine .condF rfl (Bool.eq_false_iff.mpr c11) ?_
          refine .skip ?_
          refine .seq ?_
          obtain ⟨t13_2, g13_2, h⟩ := h
          obtain ⟨t13_7, g13_7, h⟩ := h
          obtain ⟨t13_8, g13_8, h⟩ := h
          refine .reg1 (e1 := listEnv [(6, .val (.bool (t13_2 || t13_8)))]) (H1 := [⟨6, [(TPds.lit a0)], 0, none⟩, ⟨2, [(TConf.lit a1)], 0, none⟩, ⟨2, [(TConf.lit a2)], 0, none⟩, ⟨7, [(TAuto.lit t3_2.1)], 0, none⟩, ⟨7, [(TAuto.lit t4_2.1)], 0, none⟩, ⟨6, [(TWeight.lit t9_5.1)], 0, none⟩, ⟨6, [(TWeight.lit t10_5.1)], 0, none⟩]) rfl ?_ ?_
          · by_cases c12 : t13_2 = true
            · exact .drawM [(10, 6, .val (.bool true)), (9, 105, .val (.bool true)), (8, 104, .val undef), (7, 103, .val undef), (6, 102, .val undef), (5, 101, .val undef), (4, 100, .val undef), (3, 99, .val (.bool t13_2)), (2, 98, .val (.bool t13_2)), (1, 97, .agg (TConf.lit a2)), (0, 96, .agg (TConf.lit a1))] [] [[], [], [0, 1], [2, 0, 1], [3, 2, 0, 1], [3, 2, 0, 1], [5, 3, 2, 0, 1], [6, 5, 3, 2, 0, 1], [4, 3, 2, 0, 1, 7, 6, 5], [3, 2, 0, 1, 8, 4, 7, 6, 5], [9, 3, 2, 0, 1, 8, 4, 7, 6, 5]] (by rfl) (by rfl) (by rfl) (by exact ⟨fun S hS hD hn => .one 0 hS hD hn rfl rfl (ldG rfl sz31 ag31 rfl) rfl rfl rfl, fun S hS hD hn => .one 0 hS hD hn rfl rfl (ldG rfl sz31 ag31 rfl) rfl rfl rfl, fun S hS hD hn => .oneI hS hD hn rfl rfl (callee_of rfl go14 rfl) (.pure rfl rfl (r12_Same.D g13_2)) rfl rfl rfl, fun S hS hD hn => .one 0 hS hD hn rfl rfl (mvV rfl) rfl rfl rfl, fun S hS hD hn => .oneNo hS hD (gF rfl rfl rfl c12) rfl hn rfl rfl rfl, fun S hS hD hn => .oneNo hS hD (gF rfl rfl rfl c12) rfl hn rfl rfl rfl, fun S hS hD hn => .oneNo hS hD (gF rfl rfl rfl c12) rfl hn rfl rfl rfl, fun S hS hD hn => .oneNo hS hD (gF rfl rfl rfl c12) rfl hn rfl rfl rfl, fun S hS hD hn => .oneNo hS hD (gF rfl rfl rfl c12) rfl hn rfl rfl rfl, fun S hS hD hn => .one 0 hS hD hn rfl rfl (pkTV rfl c12 rfl) rfl rfl rfl, fun S hS hD hn => .one 0 hS hD hn rfl rfl (asV rfl) rfl rfl rfl, trivial⟩) _ (by exact ⟨cB rfl (mOrT c12), trivial⟩) (by rfl)
            · exact .drawM [(10, 6, .val (.bool t13_8)), (9, 105, .val (.bool t13_8)), (8, 104, .val (.bool t13_8)), (7, 103, .agg (TWeight.lit t13_7)), (6, 102, .agg (TSpace.lit a0.Space)), (5, 101, .ptr 0 1 6 0 0), (4, 100, .agg (TWeight.lit t10_5.1)), (3, 99, .val (.bool t13_2)), (2, 98, .val (.bool t13_2)), (1, 97, .agg (TConf.lit a2)), (0, 96, .agg (TConf.lit a1))] [] [[], [], [0, 1], [2, 0, 1], [3, 2, 0, 1], [3, 2, 0, 1], [5, 3, 2, 0, 1], [6, 5, 3, 2, 0, 1], [4, 3, 2, 0, 1, 7, 6, 5], [3, 2, 0, 1, 8, 4, 7, 6, 5], [9, 3, 2, 0, 1, 8, 4, 7, 6, 5]] (by rfl) (by rfl) (by rfl) (by exact ⟨fun S hS hD hn => .one 0 hS hD hn rfl rfl (ldG rfl sz31 ag31 rfl) rfl rfl rfl, fun S hS hD hn => .one 0 hS hD hn rfl rfl (ldG rfl sz31 ag31 rfl) rfl rfl rfl, fun S hS hD hn => .oneI hS hD hn rfl rfl (callee_of rfl go14 rfl) (.pure rfl rfl (r12_Same.D g13_2)) rfl rfl rfl, fun S hS hD hn => .one 0 hS hD hn rfl rfl (mvV rfl) rfl rfl rfl, fun S hS hD hn => .one 0 hS hD hn (gT rfl rfl rfl (Bool.eq_false_iff.mpr c12)) rfl (ldG rfl sz48 ag48 rfl) rfl rfl rfl, fun S hS hD hn => .one 0 hS hD hn (gT rfl rfl rfl (Bool.eq_false_iff.mpr c12)) rfl (faP fa28_0 rfl) rfl rfl rfl, fun S hS hD hn => .one 0 hS hD hn (gT rfl rfl rfl (Bool.eq_false_iff.mpr c12)) rfl (ldG rfl sz25 ag25 rfl) rfl rfl rfl, fun S hS hD hn => .oneI hS hD hn (gT rfl rfl rfl (Bool.eq_false_iff.mpr c12)) rfl (callee_of rfl go15 rfl) (.pure rfl rfl (r10_Zero.D (g13_7 c12))) rfl rfl rfl, fun S hS hD hn => .oneI hS hD hn (gT rfl rfl rfl (Bool.eq_false_iff.mpr c12)) rfl (callee_of rfl go12 rfl) (.pure rfl rfl (r05_Same.D (g13_8 c12))) rfl rfl rfl, fun S hS hD hn => .one 0 hS hD hn rfl rfl (pkFV rfl (Bool.eq_false_iff.mpr c12) rfl) rfl rfl rfl, fun S hS hD hn => .one 0 hS hD hn rfl rfl (asV rfl) rfl rfl rfl, trivial⟩) _ (by exact ⟨cB rfl (mOrF (Bool.eq_false_iff.mpr c12) rfl), trivial⟩) (by rfl)
          replace h := h.symm
          subst h
          refine .keepL [] [(6, .val (.bool (t13_2 || t13_8)))] [] (by decide) (by decide) ⟨.free rfl rfl, trivial⟩ trivial ?_
          exact .ret rfl
  · rw [if_neg c1] at h
    refine .condT rfl (bnotT (Bool.eq_false_iff.mpr c1)) ?_
    refine .seq ?_
    refine .reg0 rfl (.op 0 rfl (asV rfl) <| .nil0) ?_
    replace h := h.symm
    subst h
    refine .keepL [] [(6, .val (.bool false))] [] (by decide) (by decide) ⟨.free rfl rfl, trivial⟩ trivial ?_
    exact .ret rfl
end Go.RM.Try
