/- GJ, for the statement PdsSteps: what it needs, no more. -/
import Derived.Test.YtiiagjedhhmnbaaZPdsStepsGI
set_option linter.unusedVariables false
set_option maxRecDepth 8000
set_option maxHeartbeats 4000000
namespace Go.RM.Try
open Go.RM Go.Proofs
variable {X : FuncId → List PV → Heap → PV → Heap → Prop}
def r03_made.j1 (x4 : Int) : Int → (Rnd ((Int × Int)) Int Int) → Prop := fun x9 z1 => z1 = .next (x9, (IntKind.i64.wrap (x4 + 1)))
def r03_made.b1 (a0 : TFacts) (a1 : Int) : (Int × Int) → Rnd ((Int × Int)) Int Int → Prop := fun (x3, x4) z1 => if x4 < (a0.Rows.length : Int) then (∃ t24_2 : Bool, (r01_Has.f a1 x4 t24_2) ∧ if t24_2 = true then (((InR x4 a0.Rows.length)) ∧ ∃ t27_6 : Int, (r03_or.f x3 (rdl a0.Rows x4) t27_6) ∧ r03_made.j1 x4 t27_6 z1) else (r03_made.j1 x4 x3 z1)) else (z1 = .exit x3)
def r03_made.f (a0 : TFacts) (a1 : Int) (r : Int) : Prop :=
  ∃ o1 : Fin Int Int, Loop (r03_made.b1 a0 a1) (a0.Gen, 0) o1 ∧ o1.on (fun x7 => r = x7) (fun r_ => r = r_)
theorem r03_made.D {a0 : TFacts} {a1 : Int} {r : Int} (h : r03_made.f a0 a1 r) : D Try.prog X (.callH 60 [.agg (TFacts.lit a0), .val (.int .u64 a1)] [] (.val (.int .u64 r)) []) := by
  unfold r03_made.f at h
  refine .enter 27 0 fn60 rfl rfl rfl ?_
  refine .seq ?_
  refine .room 0 ?_
  refine .reg0 rfl (.op 0 rfl (bxP (s := 2) (cs := (TFacts.lit a0)) rfl ⟨rfl, by decide, rfl⟩ rfl) <| .op 0 rfl (asV rfl) <| .nil0) ?_
  refine .seq ?_
  refine .reg0 rfl (.op 0 rfl (faP fa45_0 rfl) <| .op 0 rfl (ldP rfl sz42 ag42 rfl) <| .op 0 rfl (asV rfl) <| .nil0) ?_
  refine .seq ?_
  refine .seq ?_
  refine .reg0 rfl (.op 0 rfl (asV rfl) <| .nil0) ?_
  refine .block ?_
  refine .keepL [0] [(1, .val (.int .u64 a1)), (2, .ptr 0 1 2 0 0), (5, .val (.int .u64 a0.Gen)), (6, .val (.int .i64 0))] [⟨2, [(TFacts.lit a0)], 0, none⟩] (by decide) (by decide) ⟨.free rfl rfl, .ptr rfl, .free rfl rfl, .free rfl rfl, trivial⟩ ⟨⟨_, rfl, bcBox (all2_free rfl)⟩, trivial⟩ ?_
  obtain ⟨o1, hL1, h⟩ := h
  refine .loopB (r03_made.b1 a0 a1) (fun (x3, x4) => listEnv [(1, .val (.int .u64 a1)), (2, .ptr 0 1 2 0 0), (5, .val (.int .u64 x3)), (6, .val (.int .i64 x4))]) (fun (x3, x4) => [⟨2, [(TFacts.lit a0)], 0, none⟩]) (fun x7 => listEnv [(5, .val (.int .u64 x7))]) (fun x7 => []) hL1 (fun r_ => r = r_) ?_ ?_ ?_
  · rintro x7 rfl
    try dsimp only [Fin.on] at h
    refine .seq ?_
    refine .reg0 rfl (.op 0 rfl (mvV rfl) <| .op 0 rfl (asV rfl) <| .nil0) ?_
    replace h := h.symm
    subst h
    refine .keepL [] [(4, .val (.int .u64 x7))] [] (by decide) (by decide) ⟨.free rfl rfl, trivial⟩ trivial ?_
    exact .ret rfl
  · rintro r_ rfl
    exact h
  · rintro ⟨x3, x4⟩ z1 h hn1 hx1 hr1
    dsimp only [r03_made.b1] at h
    refine .seq ?_
    refine .seq ?_
    refine .reg0 rfl (.op 0 rfl (mvV rfl) <| .op 0 rfl (faP fa45_1 rfl) <| .op 0 rfl (ldP rfl sz43 ag43 rfl) <| .op 0 rfl (lnR (l := a0.Rows) sl43 rfl) <| .op 0 rfl (ltI rfl rfl) <| .nil0) ?_
    by_cases c11 : x4 < (a0.Rows.length : Int)
    · rw [if_pos c11] at h
      refine .condT rfl (decide_eq_true c11) ?_
      refine .skip ?_
      refine .seq ?_
      refine .block ?_
      refine .seq ?_
      obtain ⟨t24_2, g24_2, h⟩ := h
      refine .reg0 rfl (.op 0 rfl (mvV rfl) <| .op 0 rfl (mvV rfl) <| .callI rfl (callee_of rfl go62 rfl) (.pure rfl rfl (r01_Has.D g24_2)) <| .nil0) ?_
      refine .consJ (fun s_ => r03_made.j1 x4 s_ z1) (fun x9 => listEnv [(1, .val (.int .u64 a1)), (2, .ptr 0 1 2 0 0), (5, .val (.int .u64 x9)), (6, .val (.int .i64 x4))]) (fun x9 => [⟨2, [(TFacts.lit a0)], 0, none⟩]) ?_ fun hJ1 => ?_
      · rintro x9 h
        unfold r03_made.j1 at h
        try dsimp only at h
        refine .inBlock ?_
        refine .reg0 rfl (.op 0 rfl (mvV rfl) <| .op 0 rfl (addI rfl rfl) <| .op 0 rfl (asV rfl) <| .nil0) ?_
        refine .keepL [0] [(1, .val (.int .u64 a1)), (2, .ptr 0 1 2 0 0), (5, .val (.int .u64 x9)), (6, .val (.int .i64 (IntKind.i64.wrap (x4 + 1))))] [⟨2, [(TFacts.lit a0)], 0, none⟩] (by decide) (by decide) ⟨.free rfl rfl, .ptr rfl, .free rfl rfl, .free rfl rfl, trivial⟩ ⟨⟨_, rfl, bcBox (all2_free rfl)⟩, trivial⟩ ?_
        exact hn1 _ h
      · by_cases c15 : t24_2 = true
        · rw [if_pos c15] at h
          refine .condT rfl c15 ?_
          obtain ⟨g27_4, h⟩ := h
          obtain ⟨t27_6, g27_6, h⟩ := h
          refine .reg0 rfl (.op 0 rfl (mvV rfl) <| .op 0 rfl (faP fa45_1 rfl) <| .op 0 rfl (ldP rfl sz43 ag43 rfl) <| .op 0 rfl (mvV rfl) <| .op 0 rfl (ixR (l := a0.Rows) (lit := (cInt .u64)) sl43 rfl rfl (fun _ => rfl) g27_4.1 g27_4.2) <| .op 0 rfl (ldC rfl sz42 ag42 rfl) <| .callI rfl (callee_of rfl go74 rfl) (.pure rfl rfl (r03_or.D g27_6)) <| .op 0 rfl (asV rfl) <| .nil0) ?_
          refine .keepL [0] [(1, .val (.int .u64 a1)), (2, .ptr 0 1 2 0 0), (5, .val (.int .u64 t27_6)), (6, .val (.int .i64 x4))] [⟨2, [(TFacts.lit a0)], 0, none⟩] (by decide) (by decide) ⟨.free rfl rfl, .ptr rfl, .free rfl rfl, .free rfl rfl, trivial⟩ ⟨⟨_, rfl, bcBox (all2_free rfl)⟩, trivial⟩ ?_
          exact hJ1 _ h
        · rw [if_neg c15] at h
          refine .condF rfl (Bool.eq_false_iff.mpr c15) ?_
          refine .skip ?_
          refine .keepL [0] [(1, .val (.int .u64 a1)), (2, .ptr 0 1 2 0 0), (5, .val (.int .u64 x3)), (6, .val (.int .i64 x4))] [⟨2, [(TFacts.lit a0)], 0, none⟩] (by decide) (by decide) ⟨.free rfl rfl, .ptr rfl, .free rfl rfl, .free rfl rfl, trivial⟩ ⟨⟨_, rfl, bcBox (all2_free rfl)⟩, trivial⟩ ?_
          exact hJ1 _ h
    · rw [if_neg c11] at h
      refine .condF rfl (decide_eq_false c11) ?_
      refine .exit rfl ?_
      refine .keepL [] [(5, .val (.int .u64 x3))] [] (by decide) (by decide) ⟨.free rfl rfl, trivial⟩ trivial ?_
      exact hx1 _ h
def r03_Extend.b1 (a0 : Int) (a1 : TFacts) (a2 : TFacts) : ((List Int) × Int) → Rnd (((List Int) × Int)) ((List Int)) (TFacts × Int) → Prop := fun (x2, x3) z1 => if x3 < a0 then (((InR x3 a1.Rows.length)) ∧ ∃ t13_8 : Int, (r03_made.f a2 (rdl a1.Rows x3) t13_8) ∧ ((Fits (x2.length + 1) 8)) ∧ z1 = .next ((x2 ++ [t13_8]), (IntKind.i64.wrap (x3 + 1)))) else (z1 = .exit x2)
def r03_Extend.f (a0 : Int) (a1 : TFacts) (a2 : TFacts) (r : TFacts × Int) : Prop :=
  ∃ t2_3 : Int, (r03_two.f a0 a1 a2 t2_3) ∧ if t2_3 = 0 then (∃ t4_3 : Int, (r03_made.f a2 a1.Gen t4_3) ∧ ∃ o1 : Fin ((List Int)) (TFacts × Int), Loop (r03_Extend.b1 a0 a1 a2) ([], 0) o1 ∧ o1.on (fun x4 => ∃ t15_1 : TFacts, (r03_canon.f (TFacts.mk t4_3 x4) t15_1) ∧ r = (t15_1, 0)) (fun r_ => r = r_)) else (r = ((TFacts.mk 0 []), t2_3))
theorem r03_Extend.D {a0 : Int} {a1 : TFacts} {a2 : TFacts} {r : TFacts × Int} (h : r03_Extend.f a0 a1 a2 r) : D Try.prog X (.callH 45 [.val (.int .i64 a0), .agg (TFacts.lit a1), .agg (TFacts.lit a2)] [] (.tuple [.agg (TFacts.lit r.1), .val (.int .i64 r.2)]) []) := by
  unfold r03_Extend.f at h
  refine .enter 43 0 fn45 rfl rfl rfl ?_
  refine .seq ?_
  refine .room 0 ?_
  refine .room 0 ?_
  refine .room 0 ?_
  refine .reg0 rfl (.op 0 rfl (bxP (s := 2) (cs := (TFacts.lit a1)) rfl ⟨rfl, by decide, rfl⟩ rfl) <| .op 1 rfl (bxP (s := 2) (cs := (TFacts.lit a2)) rfl ⟨rfl, by decide, rfl⟩ rfl) <| .op 2 rfl (alP (s := 2) ze45 ⟨rfl, by decide, rfl⟩ rfl) <| .op 0 rfl (asV rfl) <| .nil0) ?_
  refine .seq ?_
  obtain ⟨t2_3, g2_3, h⟩ := h
  refine .reg0 rfl (.op 0 rfl (mvV rfl) <| .op 0 rfl (ldG rfl sz45 ag45 rfl) <| .op 0 rfl (ldG rfl sz45 ag45 rfl) <| .callI rfl (callee_of rfl go59 rfl) (.pure rfl rfl (r03_two.D g2_3)) <| .op 0 rfl (asV rfl) <| .nil0) ?_
  refine .seq ?_
  refine .seq ?_
  refine .reg0 rfl (.op 0 rfl (mvV rfl) <| .op 0 rfl (neI rfl rfl) <| .nil0) ?_
  by_cases c1 : t2_3 = 0
  · rw [if_pos c1] at h
    refine .condF rfl (bne_eq_false_iff_eq.mpr c1) ?_
    refine .skip ?_
    refine .seq ?_
    obtain ⟨t4_3, g4_3, h⟩ := h
    refine .room 0 ?_
    refine .reg0 rfl (.op 0 rfl (ldG rfl sz45 ag45 rfl) <| .op 0 rfl (faP fa45_0 rfl) <| .op 0 rfl (ldP rfl sz42 ag42 rfl) <| .callI rfl (callee_of rfl go60 rfl) (.pure rfl rfl (r03_made.D g4_3)) <| .op 0 rfl (bldS (cs := [.val (.int .u64 t4_3), .val (.slice none 0 0)]) ze45 pl45 rfl rfl) <| .op 3 rfl (alP (s := 2) ze45 ⟨rfl, by decide, rfl⟩ rfl) <| .op 0 rfl (stB (cs0 := [.val (.int .u64 0), .val (.slice none 0 0)]) (cs := [.val (.int .u64 t4_3), .val (.slice none 0 0)]) (cs1 := [.val (.int .u64 t4_3), .val (.slice none 0 0)]) rfl rfl sz45 rfl ⟨Nat.le_of_ble_eq_true rfl, rfl⟩ rfl) <| .nil0) ?_
    refine .seq ?_
    refine .seq ?_
    refine .reg0 rfl (.op 0 rfl (asV rfl) <| .nil0) ?_
    refine .block ?_
    refine .room 1 ?_
    refine .keepL [0, 1, 2, 3, 4] [(0, .val (.int .i64 a0)), (4, .ptr 0 1 2 0 0), (5, .ptr 1 1 2 0 0), (6, .ptr 2 1 2 0 0), (9, .ptr 3 1 2 0 0), (10, .val (.int .i64 0))] [⟨2, [(TFacts.lit a1)], 0, none⟩, ⟨2, [(TFacts.lit a2)], 0, none⟩, ⟨2, [[.val (.int .u64 0), .val (.slice none 0 0)]], 0, none⟩, ⟨2, [[.val (.int .u64 t4_3), .own 4 0]], 0, none⟩, ⟨1, [].map (cInt .u64), 0, none⟩] (by decide) (by decide) ⟨.free rfl rfl, .ptr rfl, .ptr rfl, .ptr rfl, .ptr rfl, .free rfl rfl, trivial⟩ ⟨⟨_, rfl, bcBox (all2_free rfl)⟩, ⟨_, rfl, bcBox (all2_free rfl)⟩, ⟨_, rfl, bcBox (all2_free rfl)⟩, ⟨_, rfl, bcBox (.cons (.free rfl rfl) <| .cons (.nilOwn) <| .nil)⟩, ⟨_, rfl, (bcRow (l := []) sl43 (Nat.le_refl _) rfl)⟩, trivial⟩ ?_
    obtain ⟨o1, hL1, h⟩ := h
    refine .loopB (r03_Extend.b1 a0 a1 a2) (fun (x2, x3) => listEnv [(0, .val (.int .i64 a0)), (4, .ptr 0 1 2 0 0), (5, .ptr 1 1 2 0 0), (6, .ptr 2 1 2 0 0), (9, .ptr 3 1 2 0 0), (10, .val (.int .i64 x3))]) (fun (x2, x3) => [⟨2, [(TFacts.lit a1)], 0, none⟩, ⟨2, [(TFacts.lit a2)], 0, none⟩, ⟨2, [[.val (.int .u64 0), .val (.slice none 0 0)]], 0, none⟩, ⟨2, [[.val (.int .u64 t4_3), .own 4 x2.length]], 0, none⟩, ⟨1, x2.map (cInt .u64), 0, none⟩]) (fun x4 => listEnv [(6, .ptr 0 1 2 0 0), (9, .ptr 1 1 2 0 0)]) (fun x4 => [⟨2, [[.val (.int .u64 0), .val (.slice none 0 0)]], 0, none⟩, ⟨2, [[.val (.int .u64 t4_3), .own 2 x4.length]], 0, none⟩, ⟨1, x4.map (cInt .u64), 0, none⟩]) hL1 (fun r_ => r = r_) ?_ ?_ ?_
    · rintro x4 rfl
      try dsimp only [Fin.on] at h
      refine .seq ?_
      obtain ⟨t15_1, g15_1, h⟩ := h
      refine .reg0 rfl (.op 0 rfl (ldG rfl sz45 ag45 rfl) <| .callI rfl (callee_of rfl go61 rfl) (.lendC (args' := [.agg [.val (.int .u64 t4_3), .rows (x4.map (cInt .u64))]])  [2] true (.cons (cAgg (.cons (.free rfl rfl) <| .cons (cFixO (l := x4) sl43 rfl rfl rfl rfl) <| .nil)) <| .nil) (by decide) rfl rfl rfl rfl (r03_canon.D g15_1)) <| .op 0 rfl (stB (cs0 := [.val (.int .u64 0), .val (.slice none 0 0)]) (cs := (TFacts.lit t15_1)) (cs1 := (TFacts.lit t15_1)) rfl rfl sz45 rfl ⟨Nat.le_of_ble_eq_true rfl, rfl⟩ rfl) <| .op 0 rfl (asV rfl) <| .nil0) ?_
      replace h := h.symm
      subst h
      refine .keepL [] [(6, .cptr (TFacts.lit t15_1) 0), (7, .val (.int .i64 0))] [] (by decide) (by decide) ⟨cFixP rfl rfl (.cons (.free rfl rfl) <| .cons (.free rfl rfl) <| .nil), .free rfl rfl, trivial⟩ trivial ?_
      exact .ret rfl
    · rintro r_ rfl
      exact h
    · rintro ⟨x2, x3⟩ z1 h hn1 hx1 hr1
      dsimp only [r03_Extend.b1] at h
      refine .seq ?_
      refine .seq ?_
      refine .reg0 rfl (.op 0 rfl (mvV rfl) <| .op 0 rfl (mvV rfl) <| .op 0 rfl (ltI rfl rfl) <| .nil0) ?_
      by_cases c4 : x3 < a0
      · rw [if_pos c4] at h
        refine .condT rfl (decide_eq_true c4) ?_
        refine .skip ?_
        refine .seq ?_
        refine .block ?_
        obtain ⟨g13_6, h⟩ := h
        obtain ⟨t13_8, g13_8, h⟩ := h
        obtain ⟨g13_10, h⟩ := h
        refine .room 0 ?_
        refine .room 0 ?_
        refine .reg1 (e1 := listEnv [(0, .val (.int .i64 a0)), (4, .ptr 0 1 2 0 0), (5, .ptr 1 1 2 0 0), (6, .ptr 2 1 2 0 0), (9, .ptr 3 1 2 0 0), (10, .val (.int .i64 x3))]) (H1 := [⟨2, [(TFacts.lit a1)], 0, none⟩, ⟨2, [(TFacts.lit a2)], 0, none⟩, ⟨2, [[.val (.int .u64 0), .val (.slice none 0 0)]], 0, none⟩, ⟨2, [[.val (.int .u64 t4_3), .own 4 ((x2 ++ [t13_8]).length)]], 0, none⟩, ⟨1, (x2 ++ [t13_8]).map (cInt .u64), 0, none⟩, ⟨1, [t13_8].map (cInt .u64), 0, none⟩, Blk.hole]) rfl ?_ ?_
        · exact .drawM [(11, 40, .ptr 3 1 2 0 1), (10, 39, .own 4 ((x2 ++ [t13_8]).length)), (9, 38, .own 5 ([t13_8].length)), (8, 37, .val (.int .u64 t13_8)), (7, 36, .val (.int .u64 (rdl a1.Rows x3))), (6, 35, .cptr ((cInt .u64) (rdl a1.Rows x3)) 0), (5, 34, .val (.int .i64 x3)), (4, 33, .rows (a1.Rows.map (cInt .u64))), (3, 32, .ptr 0 1 2 0 1), (2, 31, .agg (TFacts.lit a2)), (1, 30, .own 4 x2.length), (0, 29, .ptr 3 1 2 0 1)] [(12, 3, ⟨2, [[.val (.int .u64 t4_3), .own 4 ((x2 ++ [t13_8]).length)]], 0, none⟩), (10, 4, ⟨1, (x2 ++ [t13_8]).map (cInt .u64), 0, none⟩), (9, 5, ⟨1, [t13_8].map (cInt .u64), 0, none⟩)] [[], [0], [], [], [3], [], [4, 3, 5], [6, 4, 3, 5], [2, 7, 6, 4, 3, 5], [8, 2, 7, 6, 4, 3, 5], [1, 0, 9, 8, 2, 7, 6, 4, 3, 5], [0, 1, 2, 3, 4, 5, 6, 7, 8, 9, 10], [11, 0, 1, 2, 3, 4, 5, 6, 7, 8, 9, 10]] (by rfl) (by rfl) (by rfl) (by exact ⟨fun S hS hD hn => .one 0 hS hD hn rfl rfl (faP fa45_1 rfl) rfl rfl rfl, fun S hS hD hn => .one 0 hS hD hn rfl rfl (ldP rfl sz43 ag43 rfl) rfl rfl rfl, fun S hS hD hn => .one 0 hS hD hn rfl rfl (ldG rfl sz45 ag45 rfl) rfl rfl rfl, fun S hS hD hn => .one 0 hS hD hn rfl rfl (faP fa45_1 rfl) rfl rfl rfl, fun S hS hD hn => .one 0 hS hD hn rfl rfl (ldP rfl sz43 ag43 rfl) rfl rfl rfl, fun S hS hD hn => .one 0 hS hD hn rfl rfl (mvV rfl) rfl rfl rfl, fun S hS hD hn => .one 0 hS hD hn rfl rfl (ixR (l := a1.Rows) (lit := (cInt .u64)) sl43 rfl rfl (fun _ => rfl) g13_6.1 g13_6.2) rfl rfl rfl, fun S hS hD hn => .one 0 hS hD hn rfl rfl (ldC rfl sz42 ag42 rfl) rfl rfl rfl, fun S hS hD hn => .oneI hS hD hn rfl rfl (callee_of rfl go60 rfl) (.pure rfl rfl (r03_made.D g13_8)) rfl rfl rfl, fun S hS hD hn => .one 5 hS hD hn rfl rfl (bldL (s := 1) (cs := [.val (.int .u64 t13_8)]) un43 sz42 ze42 ⟨by decide, rfl, by decide⟩ rfl rfl rfl rfl) rfl rfl rfl, fun S hS hD hn => .one 0 hS hD hn rfl rfl (ap1 (l := x2) t13_8 sl43 rfl rfl rfl (Nat.zero_le _) (elems_own (l := [t13_8]) rfl rfl) g13_10) rfl rfl rfl, fun S hS hD hn => .one 0 hS hD hn rfl rfl (faP fa45_1 rfl) rfl rfl rfl, fun S hS hD hn => .one0 0 rfl rfl (stB (cs0 := [.val (.int .u64 t4_3), .own 4 x2.length]) (cs := [.own 4 ((x2 ++ [t13_8]).length)]) (cs1 := [.val (.int .u64 t4_3), .own 4 ((x2 ++ [t13_8]).length)]) rfl rfl sz43 rfl ⟨Nat.le_of_ble_eq_true rfl, rfl⟩ rfl) (drawE_other _ _ _ _ rfl) rfl, trivial⟩) _ (by exact ⟨.free rfl rfl, .ptr rfl, .ptr rfl, .ptr rfl, .ptr rfl, .free rfl rfl, trivial⟩) (by rfl)
        refine .inBlock ?_
        refine .reg0 rfl (.op 0 rfl (mvV rfl) <| .op 0 rfl (addI rfl rfl) <| .op 0 rfl (asV rfl) <| .nil0) ?_
        refine .keepL [0, 1, 2, 3, 4] [(0, .val (.int .i64 a0)), (4, .ptr 0 1 2 0 0), (5, .ptr 1 1 2 0 0), (6, .ptr 2 1 2 0 0), (9, .ptr 3 1 2 0 0), (10, .val (.int .i64 (IntKind.i64.wrap (x3 + 1))))] [⟨2, [(TFacts.lit a1)], 0, none⟩, ⟨2, [(TFacts.lit a2)], 0, none⟩, ⟨2, [[.val (.int .u64 0), .val (.slice none 0 0)]], 0, none⟩, ⟨2, [[.val (.int .u64 t4_3), .own 4 ((x2 ++ [t13_8]).length)]], 0, none⟩, ⟨1, (x2 ++ [t13_8]).map (cInt .u64), 0, none⟩] (by decide) (by decide) ⟨.free rfl rfl, .ptr rfl, .ptr rfl, .ptr rfl, .ptr rfl, .free rfl rfl, trivial⟩ ⟨⟨_, rfl, bcBox (all2_free rfl)⟩, ⟨_, rfl, bcBox (all2_free rfl)⟩, ⟨_, rfl, bcBox (all2_free rfl)⟩, ⟨_, rfl, bcBox (.cons (.free rfl rfl) <| .cons (.own rfl) <| .nil)⟩, ⟨_, rfl, bcRow (l := (x2 ++ [t13_8])) sl43 (Nat.le_refl _) rfl⟩, trivial⟩ ?_
        exact hn1 _ h
      · rw [if_neg c4] at h
        refine .condF rfl (decide_eq_false c4) ?_
        refine .exit rfl ?_
        refine .keepL [2, 3, 4] [(6, .ptr 0 1 2 0 0), (9, .ptr 1 1 2 0 0)] [⟨2, [[.val (.int .u64 0), .val (.slice none 0 0)]], 0, none⟩, ⟨2, [[.val (.int .u64 t4_3), .own 2 x2.length]], 0, none⟩, ⟨1, x2.map (cInt .u64), 0, none⟩] (by decide) (by decide) ⟨.ptr rfl, .ptr rfl, trivial⟩ ⟨⟨_, rfl, bcBox (all2_free rfl)⟩, ⟨_, rfl, bcBox (.cons (.free rfl rfl) <| .cons (.own rfl) <| .nil)⟩, ⟨_, rfl, bcRow (l := x2) sl43 (Nat.le_refl _) rfl⟩, trivial⟩ ?_
        exact hx1 _ h
  · rw [if_neg c1] at h
    refine .condT rfl (bne_iff_ne.mpr c1) ?_
    refine .seq ?_
    refine .reg0 rfl (.op 0 rfl (bldS (cs := [.val (.int .u64 0), .val (.slice none 0 0)]) ze45 pl45 rfl rfl) <| .op 0 rfl (mvV rfl) <| .op 0 rfl (stB (cs0 := [.val (.int .u64 0), .val (.slice none 0 0)]) (cs := [.val (.int .u64 0), .val (.slice none 0 0)]) (cs1 := [.val (.int .u64 0), .val (.slice none 0 0)]) rfl rfl sz45 rfl ⟨Nat.le_of_ble_eq_true rfl, rfl⟩ rfl) <| .op 0 rfl (asV rfl) <| .nil0) ?_
    replace h := h.symm
    subst h
    refine .keepL [] [(6, .cptr [.val (.int .u64 0), .rows (([] : List Int).map (cInt .u64))] 0), (7, .val (.int .i64 t2_3))] [] (by decide) (by decide) ⟨cFixP rfl rfl (.cons (.free rfl rfl) <| .cons (.nil) <| .nil), .free rfl rfl, trivial⟩ trivial ?_
    exact .ret rfl
def r05_Joined.f (a0 : TCell) (a1 : TCell) (r : TCell) : Prop :=
  if ((a0.Kind == 2) || (a1.Kind == 2)) = true then (r = (TCell.mk 0 2 0)) else (if a0.Kind = 0 then (r = (TCell.mk (bitOp .or .u64 a0.From a1.From) a1.Kind a1.K)) else (if ((a1.Kind == 1) && (a0.K != a1.K)) = true then (r = (TCell.mk 0 2 0)) else (r = (TCell.mk (bitOp .or .u64 a0.From a1.From) a0.Kind a0.K))))
theorem r05_Joined.D {a0 : TCell} {a1 : TCell} {r : TCell} (h : r05_Joined.f a0 a1 r) : D Try.prog X (.callH 63 [.agg (TCell.lit a0), .agg (TCell.lit a1)] [] (.agg (TCell.lit r)) []) := by
  unfold r05_Joined.f at h
  refine .enter 48 0 fn63 rfl rfl rfl ?_
  refine .seq ?_
  refine .room 0 ?_
  refine .room 0 ?_
  refine .room 0 ?_
  refine .reg0 rfl (.op 0 rfl (bxP (s := 3) (cs := (TCell.lit a0)) rfl ⟨rfl, by decide, rfl⟩ rfl) <| .op 1 rfl (bxP (s := 3) (cs := (TCell.lit a1)) rfl ⟨rfl, by decide, rfl⟩ rfl) <| .op 2 rfl (alP (s := 3) ze83 ⟨rfl, by decide, rfl⟩ rfl) <| .nil0) ?_
  refine .seq ?_
  refine .seq ?_
  refine .reg0 (e1 := listEnv [(2, .ptr 0 1 3 0 0), (3, .ptr 1 1 3 0 0), (4, .ptr 2 1 3 0 0), (13, .val (.bool ((a0.Kind == 2) || (a1.Kind == 2))))]) (H1 := [⟨3, [(TCell.lit a0)], 0, none⟩, ⟨3, [(TCell.lit a1)], 0, none⟩, ⟨3, [[.val (.int .u64 0), .val (.int .i64 0), .val (.int .i64 0)]], 0, none⟩]) rfl ?_ ?_
  · by_cases c1 : a0.Kind = 2
    · exact (.op 0 rfl (faP fa83_1 rfl) <| .op 0 rfl (ldP rfl sz81 ag81 rfl) <| .op 0 rfl (eqI rfl rfl) <| .op 0 rfl (mvV rfl) <| .no (gF rfl rfl rfl (beq_iff_eq.mpr c1)) <| .no (gF rfl rfl rfl (beq_iff_eq.mpr c1)) <| .no (gF rfl rfl rfl (beq_iff_eq.mpr c1)) <| .op 0 rfl (pkTV rfl (beq_iff_eq.mpr c1) rfl) <| .nilL _ ⟨.ptr rfl, .ptr rfl, .ptr rfl, cB rfl (mOrT (beq_iff_eq.mpr c1)), trivial⟩)
    · exact (.op 0 rfl (faP fa83_1 rfl) <| .op 0 rfl (ldP rfl sz81 ag81 rfl) <| .op 0 rfl (eqI rfl rfl) <| .op 0 rfl (mvV rfl) <| .op 0 (gT rfl rfl rfl (beq_eq_false_iff_ne.mpr c1)) (faP fa83_1 rfl) <| .op 0 (gT rfl rfl rfl (beq_eq_false_iff_ne.mpr c1)) (ldP rfl sz81 ag81 rfl) <| .op 0 (gT rfl rfl rfl (beq_eq_false_iff_ne.mpr c1)) (eqI rfl rfl) <| .op 0 rfl (pkFV rfl (beq_eq_false_iff_ne.mpr c1) rfl) <| .nilL _ ⟨.ptr rfl, .ptr rfl, .ptr rfl, cB rfl (mOrF (beq_eq_false_iff_ne.mpr c1) rfl), trivial⟩)
  by_cases c2 : ((a0.Kind == 2) || (a1.Kind == 2)) = true
  · rw [if_pos c2] at h
    refine .condT rfl c2 ?_
    refine .seq ?_
    refine .reg0 rfl (.op 0 rfl (bldS (cs := [.val (.int .u64 0), .val (.int .i64 2), .val (.int .i64 0)]) ze83 pl83 rfl rfl) <| .op 0 rfl (stB (cs0 := [.val (.int .u64 0), .val (.int .i64 0), .val (.int .i64 0)]) (cs := [.val (.int .u64 0), .val (.int .i64 2), .val (.int .i64 0)]) (cs1 := [.val (.int .u64 0), .val (.int .i64 2), .val (.int .i64 0)]) rfl rfl sz83 rfl ⟨Nat.le_of_ble_eq_true rfl, rfl⟩ rfl) <| .nil0) ?_
    replace h := h.symm
    subst h
    refine .keepL [] [(4, .cptr [.val (.int .u64 0), .val (.int .i64 2), .val (.int .i64 0)] 0)] [] (by decide) (by decide) ⟨cFixP rfl rfl (.cons (.free rfl rfl) <| .cons (.free rfl rfl) <| .cons (.free rfl rfl) <| .nil), trivial⟩ trivial ?_
    exact .ret rfl
  · rw [if_neg c2] at h
    refine .condF rfl (Bool.eq_false_iff.mpr c2) ?_
    refine .skip ?_
    refine .seq ?_
    refine .room 0 ?_
    refine .reg0 rfl (.op 0 rfl (faP fa83_0 rfl) <| .op 0 rfl (ldP rfl sz42 ag42 rfl) <| .op 0 rfl (faP fa83_0 rfl) <| .op 0 rfl (ldP rfl sz42 ag42 rfl) <| .op 0 rfl (orI rfl rfl) <| .op 0 rfl (faP fa83_1 rfl) <| .op 0 rfl (ldP rfl sz81 ag81 rfl) <| .op 0 rfl (faP fa83_2 rfl) <| .op 0 rfl (ldP rfl sz2 ag2 rfl) <| .op 0 rfl (bldS (cs := [.val (.int .u64 (bitOp .or .u64 a0.From a1.From)), .val (.int .i64 a0.Kind), .val (.int .i64 a0.K)]) ze83 pl83 rfl rfl) <| .op 3 rfl (alP (s := 3) ze83 ⟨rfl, by decide, rfl⟩ rfl) <| .op 0 rfl (stB (cs0 := [.val (.int .u64 0), .val (.int .i64 0), .val (.int .i64 0)]) (cs := [.val (.int .u64 (bitOp .or .u64 a0.From a1.From)), .val (.int .i64 a0.Kind), .val (.int .i64 a0.K)]) (cs1 := [.val (.int .u64 (bitOp .or .u64 a0.From a1.From)), .val (.int .i64 a0.Kind), .val (.int .i64 a0.K)]) rfl rfl sz83 rfl ⟨Nat.le_of_ble_eq_true rfl, rfl⟩ rfl) <| .nil0) ?_
    refine .seq ?_
    refine .block ?_
    refine .seq ?_
    refine .reg0 rfl (.op 0 rfl (faP fa83_1 rfl) <| .op 0 rfl (ldP rfl sz81 ag81 rfl) <| .op 0 rfl (eqI rfl rfl) <| .op 0 rfl (asV rfl) <| .nil0) ?_
    by_cases c3 : a0.Kind = 0
    · rw [if_pos c3] at h
      refine .condT rfl (beq_iff_eq.mpr c3) ?_
      refine .reg1 (e1 := listEnv [(4, .ptr 2 1 3 0 0), (5, .ptr 3 1 3 0 0)]) (H1 := [⟨3, [(TCell.lit a0)], 0, none⟩, ⟨3, [(TCell.lit a1)], 0, none⟩, ⟨3, [[.val (.int .u64 0), .val (.int .i64 0), .val (.int .i64 0)]], 0, none⟩, ⟨3, [[.val (.int .u64 (bitOp .or .u64 a0.From a1.From)), .val (.int .i64 a1.Kind), .val (.int .i64 a1.K)]], 0, none⟩]) rfl ?_ ?_
      · exact .drawM [(6, 34, .ptr 3 1 3 0 2), (4, 33, .ptr 3 1 3 0 1), (3, 32, .val (.int .i64 a1.K)), (2, 31, .ptr 1 1 3 0 2), (1, 30, .val (.int .i64 a1.Kind)), (0, 29, .ptr 1 1 3 0 1)] [(7, 3, ⟨3, [[.val (.int .u64 (bitOp .or .u64 a0.From a1.From)), .val (.int .i64 a1.Kind), .val (.int .i64 a1.K)]], 0, none⟩), (5, 3, ⟨3, [[.val (.int .u64 (bitOp .or .u64 a0.From a1.From)), .val (.int .i64 a1.Kind), .val (.int .i64 a0.K)]], 0, none⟩)] [[], [0], [], [2], [0, 1], [4, 0, 1], [0, 1, 2, 3, 4, 5], [6, 0, 1, 2, 3, 4, 5]] (by rfl) (by rfl) (by rfl) (by exact ⟨fun S hS hD hn => .one 0 hS hD hn rfl rfl (faP fa83_1 rfl) rfl rfl rfl, fun S hS hD hn => .one 0 hS hD hn rfl rfl (ldP rfl sz81 ag81 rfl) rfl rfl rfl, fun S hS hD hn => .one 0 hS hD hn rfl rfl (faP fa83_2 rfl) rfl rfl rfl, fun S hS hD hn => .one 0 hS hD hn rfl rfl (ldP rfl sz2 ag2 rfl) rfl rfl rfl, fun S hS hD hn => .one 0 hS hD hn rfl rfl (faP fa83_1 rfl) rfl rfl rfl, fun S hS hD hn => .one0 0 rfl rfl (stB (cs0 := [.val (.int .u64 (bitOp .or .u64 a0.From a1.From)), .val (.int .i64 a0.Kind), .val (.int .i64 a0.K)]) (cs := [.val (.int .i64 a1.Kind)]) (cs1 := [.val (.int .u64 (bitOp .or .u64 a0.From a1.From)), .val (.int .i64 a1.Kind), .val (.int .i64 a0.K)]) rfl rfl sz81 rfl ⟨Nat.le_of_ble_eq_true rfl, rfl⟩ rfl) (drawE_other _ _ _ _ rfl) rfl, fun S hS hD hn => .one 0 hS hD hn rfl rfl (faP fa83_2 rfl) rfl rfl rfl, fun S hS hD hn => .one0 0 rfl rfl (stB (cs0 := [.val (.int .u64 (bitOp .or .u64 a0.From a1.From)), .val (.int .i64 a1.Kind), .val (.int .i64 a0.K)]) (cs := [.val (.int .i64 a1.K)]) (cs1 := [.val (.int .u64 (bitOp .or .u64 a0.From a1.From)), .val (.int .i64 a1.Kind), .val (.int .i64 a1.K)]) rfl rfl sz2 rfl ⟨Nat.le_of_ble_eq_true rfl, rfl⟩ rfl) (drawE_other _ _ _ _ rfl) rfl, trivial⟩) _ (by exact ⟨.ptr rfl, .ptr rfl, trivial⟩) (by rfl)
      refine .inBlock ?_
      refine .seq ?_
      refine .reg0 rfl (.op 0 rfl (ldG rfl sz83 ag83 rfl) <| .op 0 rfl (stB (cs0 := [.val (.int .u64 0), .val (.int .i64 0), .val (.int .i64 0)]) (cs := [.val (.int .u64 (bitOp .or .u64 a0.From a1.From)), .val (.int .i64 a1.Kind), .val (.int .i64 a1.K)]) (cs1 := [.val (.int .u64 (bitOp .or .u64 a0.From a1.From)), .val (.int .i64 a1.Kind), .val (.int .i64 a1.K)]) rfl rfl sz83 rfl ⟨Nat.le_of_ble_eq_true rfl, rfl⟩ rfl) <| .nil0) ?_
      replace h := h.symm
      subst h
      refine .keepL [] [(4, .cptr [.val (.int .u64 (bitOp .or .u64 a0.From a1.From)), .val (.int .i64 a1.Kind), .val (.int .i64 a1.K)] 0)] [] (by decide) (by decide) ⟨cFixP rfl rfl (.cons (.free rfl rfl) <| .cons (.free rfl rfl) <| .cons (.free rfl rfl) <| .nil), trivial⟩ trivial ?_
      exact .ret rfl
    · rw [if_neg c3] at h
      refine .condF rfl (beq_eq_false_iff_ne.mpr c3) ?_
      refine .seq ?_
      refine .reg0 (e1 := listEnv [(4, .ptr 2 1 3 0 0), (5, .ptr 3 1 3 0 0), (35, .val (.bool ((a1.Kind == 1) && (a0.K != a1.K))))]) (H1 := [⟨3, [(TCell.lit a0)], 0, none⟩, ⟨3, [(TCell.lit a1)], 0, none⟩, ⟨3, [[.val (.int .u64 0), .val (.int .i64 0), .val (.int .i64 0)]], 0, none⟩, ⟨3, [[.val (.int .u64 (bitOp .or .u64 a0.From a1.From)), .val (.int .i64 a0.Kind), .val (.int .i64 a0.K)]], 0, none⟩]) rfl ?_ ?_
      · by_cases c4 : a1.Kind = 1
        · exact (.op 0 rfl (faP fa83_1 rfl) <| .op 0 rfl (ldP rfl sz81 ag81 rfl) <| .op 0 rfl (eqI rfl rfl) <| .op 0 rfl (mvV rfl) <| .op 0 (gT rfl rfl rfl (beq_iff_eq.mpr c4)) (faP fa83_2 rfl) <| .op 0 (gT rfl rfl rfl (beq_iff_eq.mpr c4)) (ldP rfl sz2 ag2 rfl) <| .op 0 (gT rfl rfl rfl (beq_iff_eq.mpr c4)) (faP fa83_2 rfl) <| .op 0 (gT rfl rfl rfl (beq_iff_eq.mpr c4)) (ldP rfl sz2 ag2 rfl) <| .op 0 (gT rfl rfl rfl (beq_iff_eq.mpr c4)) (neI rfl rfl) <| .op 0 rfl (pkTV rfl (beq_iff_eq.mpr c4) rfl) <| .op 0 rfl (asV rfl) <| .nilL _ ⟨.ptr rfl, .ptr rfl, cB rfl (mAndT (beq_iff_eq.mpr c4) rfl), trivial⟩)
        · exact (.op 0 rfl (faP fa83_1 rfl) <| .op 0 rfl (ldP rfl sz81 ag81 rfl) <| .op 0 rfl (eqI rfl rfl) <| .op 0 rfl (mvV rfl) <| .no (gF rfl rfl rfl (beq_eq_false_iff_ne.mpr c4)) <| .no (gF rfl rfl rfl (beq_eq_false_iff_ne.mpr c4)) <| .no (gF rfl rfl rfl (beq_eq_false_iff_ne.mpr c4)) <| .no (gF rfl rfl rfl (beq_eq_false_iff_ne.mpr c4)) <| .no (gF rfl rfl rfl (beq_eq_false_iff_ne.mpr c4)) <| .op 0 rfl (pkFV rfl (beq_eq_false_iff_ne.mpr c4) rfl) <| .op 0 rfl (asV rfl) <| .nilL _ ⟨.ptr rfl, .ptr rfl, cB rfl (mAndF (beq_eq_false_iff_ne.mpr c4)), trivial⟩)
      by_cases c5 : ((a1.Kind == 1) && (a0.K != a1.K)) = true
      · rw [if_pos c5] at h
        refine .condT rfl c5 ?_
        refine .seq ?_
        refine .reg0 rfl (.op 0 rfl (bldS (cs := [.val (.int .u64 0), .val (.int .i64 2), .val (.int .i64 0)]) ze83 pl83 rfl rfl) <| .op 0 rfl (stB (cs0 := [.val (.int .u64 0), .val (.int .i64 0), .val (.int .i64 0)]) (cs := [.val (.int .u64 0), .val (.int .i64 2), .val (.int .i64 0)]) (cs1 := [.val (.int .u64 0), .val (.int .i64 2), .val (.int .i64 0)]) rfl rfl sz83 rfl ⟨Nat.le_of_ble_eq_true rfl, rfl⟩ rfl) <| .nil0) ?_
        replace h := h.symm
        subst h
        refine .keepL [] [(4, .cptr [.val (.int .u64 0), .val (.int .i64 2), .val (.int .i64 0)] 0)] [] (by decide) (by decide) ⟨cFixP rfl rfl (.cons (.free rfl rfl) <| .cons (.free rfl rfl) <| .cons (.free rfl rfl) <| .nil), trivial⟩ trivial ?_
        exact .ret rfl
      · rw [if_neg c5] at h
        refine .condF rfl (Bool.eq_false_iff.mpr c5) ?_
        refine .skip ?_
        refine .inBlock ?_
        refine .seq ?_
        refine .reg0 rfl (.op 0 rfl (ldG rfl sz83 ag83 rfl) <| .op 0 rfl (stB (cs0 := [.val (.int .u64 0), .val (.int .i64 0), .val (.int .i64 0)]) (cs := [.val (.int .u64 (bitOp .or .u64 a0.From a1.From)), .val (.int .i64 a0.Kind), .val (.int .i64 a0.K)]) (cs1 := [.val (.int .u64 (bitOp .or .u64 a0.From a1.From)), .val (.int .i64 a0.Kind), .val (.int .i64 a0.K)]) rfl rfl sz83 rfl ⟨Nat.le_of_ble_eq_true rfl, rfl⟩ rfl) <| .nil0) ?_
        replace h := h.symm
        subst h
        refine .keepL [] [(4, .cptr [.val (.int .u64 (bitOp .or .u64 a0.From a1.From)), .val (.int .i64 a0.Kind), .val (.int .i64 a0.K)] 0)] [] (by decide) (by decide) ⟨cFixP rfl rfl (.cons (.free rfl rfl) <| .cons (.free rfl rfl) <| .cons (.free rfl rfl) <| .nil), trivial⟩ trivial ?_
        exact .ret rfl
def r05_behind.j1 (x10 : Int) : (Int × Int × Int) → (Rnd ((Int × Int × Int × Int)) ((Int × Int × Int)) TCell) → Prop := fun (x23, x24, x25) z1 => z1 = .next (x23, x24, x25, (IntKind.i64.wrap (x10 + 1)))
def r05_behind.b1 (a0 : List TCell) (a1 : TCell) : (Int × Int × Int × Int) → Rnd ((Int × Int × Int × Int)) ((Int × Int × Int)) TCell → Prop := fun (x7, x8, x9, x10) z1 => if x10 < (a0.length : Int) then (∃ t24_3 : Bool, (r01_Has.f a1.From x10 t24_3) ∧ if t24_3 = true then (((InR x10 a0.length)) ∧ ∃ t27_5 : TCell, (r05_Joined.f (TCell.mk x7 x8 x9) (rdl a0 x10) t27_5) ∧ r05_behind.j1 x10 (t27_5.From, t27_5.Kind, t27_5.K) z1) else (r05_behind.j1 x10 (x7, x8, x9) z1)) else (z1 = .exit (x7, x8, x9))
def r05_behind.f (a0 : List TCell) (a1 : TCell) (r : TCell) : Prop :=
  ∃ o1 : Fin ((Int × Int × Int)) TCell, Loop (r05_behind.b1 a0 a1) (0, a1.Kind, a1.K, 0) o1 ∧ o1.on (fun (x17, x18, x19) => r = (TCell.mk x17 x18 x19)) (fun r_ => r = r_)
theorem r05_behind.D {a0 : List TCell} {a1 : TCell} {r : TCell} (h : r05_behind.f a0 a1 r) : D Try.prog X (.callH 46 [.rows (a0.map TCell.cells), .agg (TCell.lit a1)] [] (.agg (TCell.lit r)) []) := by
  unfold r05_behind.f at h
  refine .enter 29 0 fn46 rfl rfl rfl ?_
  refine .seq ?_
  refine .room 0 ?_
  refine .room 0 ?_
  refine .reg0 rfl (.op 0 rfl (bxP (s := 3) (cs := (TCell.lit a1)) rfl ⟨rfl, by decide, rfl⟩ rfl) <| .op 1 rfl (alP (s := 3) ze83 ⟨rfl, by decide, rfl⟩ rfl) <| .nil0) ?_
  refine .seq ?_
  refine .room 0 ?_
  refine .reg0 rfl (.op 0 rfl (faP fa83_1 rfl) <| .op 0 rfl (ldP rfl sz81 ag81 rfl) <| .op 0 rfl (faP fa83_2 rfl) <| .op 0 rfl (ldP rfl sz2 ag2 rfl) <| .op 0 rfl (bldS (cs := [.val (.int .u64 0), .val (.int .i64 a1.Kind), .val (.int .i64 a1.K)]) ze83 pl83 rfl rfl) <| .op 2 rfl (alP (s := 3) ze83 ⟨rfl, by decide, rfl⟩ rfl) <| .op 0 rfl (stB (cs0 := [.val (.int .u64 0), .val (.int .i64 0), .val (.int .i64 0)]) (cs := [.val (.int .u64 0), .val (.int .i64 a1.Kind), .val (.int .i64 a1.K)]) (cs1 := [.val (.int .u64 0), .val (.int .i64 a1.Kind), .val (.int .i64 a1.K)]) rfl rfl sz83 rfl ⟨Nat.le_of_ble_eq_true rfl, rfl⟩ rfl) <| .nil0) ?_
  refine .seq ?_
  refine .seq ?_
  refine .reg0 rfl (.op 0 rfl (asV rfl) <| .nil0) ?_
  refine .block ?_
  refine .keepL [0, 1, 2] [(0, .rows (a0.map TCell.cells)), (3, .ptr 0 1 3 0 0), (4, .ptr 1 1 3 0 0), (5, .ptr 2 1 3 0 0), (6, .val (.int .i64 0))] [⟨3, [(TCell.lit a1)], 0, none⟩, ⟨3, [[.val (.int .u64 0), .val (.int .i64 0), .val (.int .i64 0)]], 0, none⟩, ⟨3, [[.val (.int .u64 0), .val (.int .i64 a1.Kind), .val (.int .i64 a1.K)]], 0, none⟩] (by decide) (by decide) ⟨.free rfl rfl, .ptr rfl, .ptr rfl, .ptr rfl, .free rfl rfl, trivial⟩ ⟨⟨_, rfl, bcBox (all2_free rfl)⟩, ⟨_, rfl, bcBox (all2_free rfl)⟩, ⟨_, rfl, bcBox (all2_free rfl)⟩, trivial⟩ ?_
  obtain ⟨o1, hL1, h⟩ := h
  refine .loopB (r05_behind.b1 a0 a1) (fun (x7, x8, x9, x10) => listEnv [(0, .rows (a0.map TCell.cells)), (3, .ptr 0 1 3 0 0), (4, .ptr 1 1 3 0 0), (5, .ptr 2 1 3 0 0), (6, .val (.int .i64 x10))]) (fun (x7, x8, x9, x10) => [⟨3, [(TCell.lit a1)], 0, none⟩, ⟨3, [[.val (.int .u64 0), .val (.int .i64 0), .val (.int .i64 0)]], 0, none⟩, ⟨3, [[.val (.int .u64 x7), .val (.int .i64 x8), .val (.int .i64 x9)]], 0, none⟩]) (fun (x17, x18, x19) => listEnv [(4, .ptr 0 1 3 0 0), (5, .ptr 1 1 3 0 0)]) (fun (x17, x18, x19) => [⟨3, [[.val (.int .u64 0), .val (.int .i64 0), .val (.int .i64 0)]], 0, none⟩, ⟨3, [[.val (.int .u64 x17), .val (.int .i64 x18), .val (.int .i64 x19)]], 0, none⟩]) hL1 (fun r_ => r = r_) ?_ ?_ ?_
  · rintro ⟨x17, x18, x19⟩ rfl
    try dsimp only [Fin.on] at h
    refine .seq ?_
    refine .reg0 rfl (.op 0 rfl (ldG rfl sz83 ag83 rfl) <| .op 0 rfl (stB (cs0 := [.val (.int .u64 0), .val (.int .i64 0), .val (.int .i64 0)]) (cs := [.val (.int .u64 x17), .val (.int .i64 x18), .val (.int .i64 x19)]) (cs1 := [.val (.int .u64 x17), .val (.int .i64 x18), .val (.int .i64 x19)]) rfl rfl sz83 rfl ⟨Nat.le_of_ble_eq_true rfl, rfl⟩ rfl) <| .nil0) ?_
    replace h := h.symm
    subst h
    refine .keepL [] [(4, .cptr [.val (.int .u64 x17), .val (.int .i64 x18), .val (.int .i64 x19)] 0)] [] (by decide) (by decide) ⟨cFixP rfl rfl (.cons (.free rfl rfl) <| .cons (.free rfl rfl) <| .cons (.free rfl rfl) <| .nil), trivial⟩ trivial ?_
    exact .ret rfl
  · rintro r_ rfl
    exact h
  · rintro ⟨x7, x8, x9, x10⟩ z1 h hn1 hx1 hr1
    dsimp only [r05_behind.b1] at h
    refine .seq ?_
    refine .seq ?_
    refine .reg0 rfl (.op 0 rfl (mvV rfl) <| .op 0 rfl (mvR rfl) <| .op 0 rfl (lnR (l := a0) sl46 rfl) <| .op 0 rfl (ltI rfl rfl) <| .nil0) ?_
    by_cases c11 : x10 < (a0.length : Int)
    · rw [if_pos c11] at h
      refine .condT rfl (decide_eq_true c11) ?_
      refine .skip ?_
      refine .seq ?_
      refine .block ?_
      refine .seq ?_
      obtain ⟨t24_3, g24_3, h⟩ := h
      refine .reg0 rfl (.op 0 rfl (faP fa83_0 rfl) <| .op 0 rfl (ldP rfl sz42 ag42 rfl) <| .op 0 rfl (mvV rfl) <| .callI rfl (callee_of rfl go62 rfl) (.pure rfl rfl (r01_Has.D g24_3)) <| .nil0) ?_
      refine .consJ (fun s_ => r05_behind.j1 x10 s_ z1) (fun (x23, x24, x25) => listEnv [(0, .rows (a0.map TCell.cells)), (3, .ptr 0 1 3 0 0), (4, .ptr 1 1 3 0 0), (5, .ptr 2 1 3 0 0), (6, .val (.int .i64 x10))]) (fun (x23, x24, x25) => [⟨3, [(TCell.lit a1)], 0, none⟩, ⟨3, [[.val (.int .u64 0), .val (.int .i64 0), .val (.int .i64 0)]], 0, none⟩, ⟨3, [[.val (.int .u64 x23), .val (.int .i64 x24), .val (.int .i64 x25)]], 0, none⟩]) ?_ fun hJ1 => ?_
      · rintro ⟨x23, x24, x25⟩ h
        unfold r05_behind.j1 at h
        try dsimp only at h
        refine .inBlock ?_
        refine .reg0 rfl (.op 0 rfl (mvV rfl) <| .op 0 rfl (addI rfl rfl) <| .op 0 rfl (asV rfl) <| .nil0) ?_
        refine .keepL [0, 1, 2] [(0, .rows (a0.map TCell.cells)), (3, .ptr 0 1 3 0 0), (4, .ptr 1 1 3 0 0), (5, .ptr 2 1 3 0 0), (6, .val (.int .i64 (IntKind.i64.wrap (x10 + 1))))] [⟨3, [(TCell.lit a1)], 0, none⟩, ⟨3, [[.val (.int .u64 0), .val (.int .i64 0), .val (.int .i64 0)]], 0, none⟩, ⟨3, [[.val (.int .u64 x23), .val (.int .i64 x24), .val (.int .i64 x25)]], 0, none⟩] (by decide) (by decide) ⟨.free rfl rfl, .ptr rfl, .ptr rfl, .ptr rfl, .free rfl rfl, trivial⟩ ⟨⟨_, rfl, bcBox (all2_free rfl)⟩, ⟨_, rfl, bcBox (all2_free rfl)⟩, ⟨_, rfl, bcBox (all2_free rfl)⟩, trivial⟩ ?_
        exact hn1 _ h
      · by_cases c15 : t24_3 = true
        · rw [if_pos c15] at h
          refine .condT rfl c15 ?_
          obtain ⟨g27_3, h⟩ := h
          obtain ⟨t27_5, g27_5, h⟩ := h
          refine .reg1 (e1 := listEnv [(0, .rows (a0.map TCell.cells)), (3, .ptr 0 1 3 0 0), (4, .ptr 1 1 3 0 0), (5, .ptr 2 1 3 0 0), (6, .val (.int .i64 x10))]) (H1 := [⟨3, [(TCell.lit a1)], 0, none⟩, ⟨3, [[.val (.int .u64 0), .val (.int .i64 0), .val (.int .i64 0)]], 0, none⟩, ⟨3, [(TCell.lit t27_5)], 0, none⟩]) rfl ?_ ?_
          · exact .drawM [(5, 27, .agg (TCell.lit t27_5)), (4, 26, .agg (TCell.lit (rdl a0 x10))), (3, 25, .cptr (TCell.lit (rdl a0 x10)) 0), (2, 24, .val (.int .i64 x10)), (1, 23, .rows (a0.map TCell.cells)), (0, 22, .agg [.val (.int .u64 x7), .val (.int .i64 x8), .val (.int .i64 x9)])] [(6, 2, ⟨3, [(TCell.lit t27_5)], 0, none⟩)] [[], [], [], [1, 2], [3, 1, 2], [0, 4, 3, 1, 2], [5, 0, 4, 3, 1, 2]] (by rfl) (by rfl) (by rfl) (by exact ⟨fun S hS hD hn => .one 0 hS hD hn rfl rfl (ldG rfl sz83 ag83 rfl) rfl rfl rfl, fun S hS hD hn => .one 0 hS hD hn rfl rfl (mvR rfl) rfl rfl rfl, fun S hS hD hn => .one 0 hS hD hn rfl rfl (mvV rfl) rfl rfl rfl, fun S hS hD hn => .one 0 hS hD hn rfl rfl (ixR (l := a0) (lit := TCell.lit) sl46 rfl rfl (fun _ => rfl) g27_3.1 g27_3.2) rfl rfl rfl, fun S hS hD hn => .one 0 hS hD hn rfl rfl (ldCG rfl sz83 ag83 rfl) rfl rfl rfl, fun S hS hD hn => .oneI hS hD hn rfl rfl (callee_of rfl go63 rfl) (.pure rfl rfl (r05_Joined.D g27_5)) rfl rfl rfl, fun S hS hD hn => .one0 0 rfl rfl (stB (cs0 := [.val (.int .u64 x7), .val (.int .i64 x8), .val (.int .i64 x9)]) (cs := (TCell.lit t27_5)) (cs1 := (TCell.lit t27_5)) rfl rfl sz83 rfl ⟨Nat.le_of_ble_eq_true rfl, rfl⟩ rfl) (drawE_other _ _ _ _ rfl) rfl, trivial⟩) _ (by exact ⟨.free rfl rfl, .ptr rfl, .ptr rfl, .ptr rfl, .free rfl rfl, trivial⟩) (by rfl)
          refine .keepL [0, 1, 2] [(0, .rows (a0.map TCell.cells)), (3, .ptr 0 1 3 0 0), (4, .ptr 1 1 3 0 0), (5, .ptr 2 1 3 0 0), (6, .val (.int .i64 x10))] [⟨3, [(TCell.lit a1)], 0, none⟩, ⟨3, [[.val (.int .u64 0), .val (.int .i64 0), .val (.int .i64 0)]], 0, none⟩, ⟨3, [(TCell.lit t27_5)], 0, none⟩] (by decide) (by decide) ⟨.free rfl rfl, .ptr rfl, .ptr rfl, .ptr rfl, .free rfl rfl, trivial⟩ ⟨⟨_, rfl, bcBox (all2_free rfl)⟩, ⟨_, rfl, bcBox (all2_free rfl)⟩, ⟨_, rfl, bcBox (all2_free rfl)⟩, trivial⟩ ?_
          exact hJ1 _ h
        · rw [if_neg c15] at h
          refine .condF rfl (Bool.eq_false_iff.mpr c15) ?_
          refine .skip ?_
          refine .keepL [0, 1, 2] [(0, .rows (a0.map TCell.cells)), (3, .ptr 0 1 3 0 0), (4, .ptr 1 1 3 0 0), (5, .ptr 2 1 3 0 0), (6, .val (.int .i64 x10))] [⟨3, [(TCell.lit a1)], 0, none⟩, ⟨3, [[.val (.int .u64 0), .val (.int .i64 0), .val (.int .i64 0)]], 0, none⟩, ⟨3, [[.val (.int .u64 x7), .val (.int .i64 x8), .val (.int .i64 x9)]], 0, none⟩] (by decide) (by decide) ⟨.free rfl rfl, .ptr rfl, .ptr rfl, .ptr rfl, .free rfl rfl, trivial⟩ ⟨⟨_, rfl, bcBox (all2_free rfl)⟩, ⟨_, rfl, bcBox (all2_free rfl)⟩, ⟨_, rfl, bcBox (all2_free rfl)⟩, trivial⟩ ?_
          exact hJ1 _ h
    · rw [if_neg c11] at h
      refine .condF rfl (decide_eq_false c11) ?_
      refine .exit rfl ?_
      refine .keepL [1, 2] [(4, .ptr 0 1 3 0 0), (5, .ptr 1 1 3 0 0)] [⟨3, [[.val (.int .u64 0), .val (.int .i64 0), .val (.int .i64 0)]], 0, none⟩, ⟨3, [[.val (.int .u64 x7), .val (.int .i64 x8), .val (.int .i64 x9)]], 0, none⟩] (by decide) (by decide) ⟨.ptr rfl, .ptr rfl, trivial⟩ ⟨⟨_, rfl, bcBox (all2_free rfl)⟩, ⟨_, rfl, bcBox (all2_free rfl)⟩, trivial⟩ ?_
      exact hx1 _ h
def r05_Then.b1 (a0 : TSpace) (a1 : TWeight) (a2 : TWeight) : ((List TCell) × Int) → Rnd (((List TCell) × Int)) ((List TCell)) TWeight → Prop := fun (x2, x3) z1 => if x3 < a0.Dim then (((InR x3 a2.Cells.length)) ∧ ∃ t21_9 : TCell, (r05_behind.f a1.Cells (rdl a2.Cells x3) t21_9) ∧ ((Fits (x2.length + 1) 24)) ∧ z1 = .next ((x2 ++ [t21_9]), (IntKind.i64.wrap (x3 + 1)))) else (z1 = .exit x2)
def r05_Then.step (self29 : TSpace → TWeight → TWeight → TWeight → Prop) (a0 : TSpace) (a1 : TWeight) (a2 : TWeight) (r : TWeight) : Prop :=
  if (a1.Zero || a2.Zero) = true then (r = (TWeight.mk true 0 (TFacts.mk 0 []) [] [])) else (if a0.Tag = 2 then (r = (TWeight.mk false (if a0.Dim < (IntKind.i64.wrap (a1.Cost + a2.Cost)) then a0.Dim else (IntKind.i64.wrap (a1.Cost + a2.Cost))) (TFacts.mk 0 []) [] [])) else (if a0.Tag = 3 then (∃ t10_6 : TFacts × Int, (r03_Extend.f a0.Dim a1.Facts a2.Facts t10_6) ∧ r = (TWeight.mk false 0 t10_6.1 [] [])) else (if a0.Tag = 4 then (∃ o1 : Fin ((List TCell)) TWeight, Loop (r05_Then.b1 a0 a1 a2) ([], 0) o1 ∧ o1.on (fun x4 => r = (TWeight.mk false 0 (TFacts.mk 0 []) x4 [])) (fun r_ => r = r_)) else (if a0.Tag = 5 then (((InR 0 a0.Parts.length)) ∧ ((InR 0 a1.Parts.length)) ∧ ((InR 0 a2.Parts.length)) ∧ ∃ t25_12 : TWeight, (self29 (rdl a0.Parts 0) (rdl a1.Parts 0) (rdl a2.Parts 0) t25_12) ∧ ((InR 1 a0.Parts.length)) ∧ ((InR 1 a1.Parts.length)) ∧ ((InR 1 a2.Parts.length)) ∧ ∃ t25_25 : TWeight, (self29 (rdl a0.Parts 1) (rdl a1.Parts 1) (rdl a2.Parts 1) t25_25) ∧ r = (TWeight.mk false 0 (TFacts.mk 0 []) [] [t25_12, t25_25])) else (r = (TWeight.mk false 0 (TFacts.mk 0 []) [] []))))))
theorem r05_Then.stepD {self29 : TSpace → TWeight → TWeight → TWeight → Prop} {a0 : TSpace} {a1 : TWeight} {a2 : TWeight} (hs29 : ∀ z0_ z1_ z2_ r_, self29 z0_ z1_ z2_ r_ → D Try.prog X (.callH 29 [.agg (TSpace.lit z0_), .agg (TWeight.lit z1_), .agg (TWeight.lit z2_)] [] (.agg (TWeight.lit r_)) [])) {r : TWeight} (h : r05_Then.step self29 a0 a1 a2 r) : D Try.prog X (.callH 29 [.agg (TSpace.lit a0), .agg (TWeight.lit a1), .agg (TWeight.lit a2)] [] (.agg (TWeight.lit r)) []) := by
  unfold r05_Then.step at h
  refine .enter 95 0 fn29 rfl rfl rfl ?_
  refine .seq ?_
  refine .room 0 ?_
  refine .room 0 ?_
  refine .room 0 ?_
  refine .room 0 ?_
  refine .reg0 rfl (.op 0 rfl (bxP (s := 3) (cs := (TSpace.lit a0)) rfl ⟨rfl, by decide, rfl⟩ rfl) <| .op 1 rfl (bxP (s := 6) (cs := (TWeight.lit a1)) rfl ⟨rfl, by decide, rfl⟩ rfl) <| .op 2 rfl (bxP (s := 6) (cs := (TWeight.lit a2)) rfl ⟨rfl, by decide, rfl⟩ rfl) <| .op 3 rfl (alP (s := 6) ze49 ⟨rfl, by decide, rfl⟩ rfl) <| .nil0) ?_
  refine .seq ?_
  refine .seq ?_
  refine .reg0 (e1 := listEnv [(3, .ptr 0 1 3 0 0), (4, .ptr 1 1 6 0 0), (5, .ptr 2 1 6 0 0), (6, .ptr 3 1 6 0 0), (14, .val (.bool (a1.Zero || a2.Zero)))]) (H1 := [⟨3, [(TSpace.lit a0)], 0, none⟩, ⟨6, [(TWeight.lit a1)], 0, none⟩, ⟨6, [(TWeight.lit a2)], 0, none⟩, ⟨6, [[.val (.bool false), .val (.int .i64 0), .val (.int .u64 0), .val (.slice none 0 0), .val (.slice none 0 0), .val (.slice none 0 0)]], 0, none⟩]) rfl ?_ ?_
  · by_cases c1 : a1.Zero = true
    · exact (.op 0 rfl (faP fa49_0 rfl) <| .op 0 rfl (ldP rfl sz4 ag4 rfl) <| .op 0 rfl (mvV rfl) <| .no (gF rfl rfl rfl c1) <| .no (gF rfl rfl rfl c1) <| .op 0 rfl (pkTV rfl c1 rfl) <| .nilL _ ⟨.ptr rfl, .ptr rfl, .ptr rfl, .ptr rfl, cB rfl (mOrT c1), trivial⟩)
    · exact (.op 0 rfl (faP fa49_0 rfl) <| .op 0 rfl (ldP rfl sz4 ag4 rfl) <| .op 0 rfl (mvV rfl) <| .op 0 (gT rfl rfl rfl (Bool.eq_false_iff.mpr c1)) (faP fa49_0 rfl) <| .op 0 (gT rfl rfl rfl (Bool.eq_false_iff.mpr c1)) (ldP rfl sz4 ag4 rfl) <| .op 0 rfl (pkFV rfl (Bool.eq_false_iff.mpr c1) rfl) <| .nilL _ ⟨.ptr rfl, .ptr rfl, .ptr rfl, .ptr rfl, cB rfl (mOrF (Bool.eq_false_iff.mpr c1) rfl), trivial⟩)
  by_cases c2 : (a1.Zero || a2.Zero) = true
  · rw [if_pos c2] at h
    refine .condT rfl c2 ?_
    refine .seq ?_
    refine .reg0 rfl (.op 0 rfl (bldS (cs := [.val (.bool true), .val (.int .i64 0), .val (.int .u64 0), .val (.slice none 0 0), .val (.slice none 0 0), .val (.slice none 0 0)]) ze49 pl49 rfl rfl) <| .op 0 rfl (stB (cs0 := [.val (.bool false), .val (.int .i64 0), .val (.int .u64 0), .val (.slice none 0 0), .val (.slice none 0 0), .val (.slice none 0 0)]) (cs := [.val (.bool true), .val (.int .i64 0), .val (.int .u64 0), .val (.slice none 0 0), .val (.slice none 0 0), .val (.slice none 0 0)]) (cs1 := [.val (.bool true), .val (.int .i64 0), .val (.int .u64 0), .val (.slice none 0 0), .val (.slice none 0 0), .val (.slice none 0 0)]) rfl rfl sz49 rfl ⟨Nat.le_of_ble_eq_true rfl, rfl⟩ rfl) <| .nil0) ?_
    replace h := h.symm
    subst h
    refine .keepL [] [(6, .cptr [.val (.bool true), .val (.int .i64 0), .val (.int .u64 0), .rows (([] : List Int).map (cInt .u64)), .rows (([] : List TCell).map TCell.cells), .rows (([] : List TWeight).map TWeight.cells)] 0)] [] (by decide) (by decide) ⟨cFixP rfl rfl (.cons (.free rfl rfl) <| .cons (.free rfl rfl) <| .cons (.free rfl rfl) <| .cons (.nil) <| .cons (.nil) <| .cons (.nil) <| .nil), trivial⟩ trivial ?_
    exact .ret rfl
  · rw [if_neg c2] at h
    refine .condF rfl (Bool.eq_false_iff.mpr c2) ?_
    refine .skip ?_
    refine .seq ?_
    refine .room 0 ?_
    refine .reg0 rfl (.op 0 rfl (bldS (cs := [.val (.bool false), .val (.int .i64 0), .val (.int .u64 0), .val (.slice none 0 0), .val (.slice none 0 0), .val (.slice none 0 0)]) ze49 pl49 rfl rfl) <| .op 4 rfl (alP (s := 6) ze49 ⟨rfl, by decide, rfl⟩ rfl) <| .op 0 rfl (stB (cs0 := [.val (.bool false), .val (.int .i64 0), .val (.int .u64 0), .val (.slice none 0 0), .val (.slice none 0 0), .val (.slice none 0 0)]) (cs := [.val (.bool false), .val (.int .i64 0), .val (.int .u64 0), .val (.slice none 0 0), .val (.slice none 0 0), .val (.slice none 0 0)]) (cs1 := [.val (.bool false), .val (.int .i64 0), .val (.int .u64 0), .val (.slice none 0 0), .val (.slice none 0 0), .val (.slice none 0 0)]) rfl rfl sz49 rfl ⟨Nat.le_of_ble_eq_true rfl, rfl⟩ rfl) <| .nil0) ?_
    refine .seq ?_
    refine .seq ?_
    refine .reg0 rfl (.op 0 rfl (faP fa25_0 rfl) <| .op 0 rfl (ldP rfl sz22 ag22 rfl) <| .nil0) ?_
    refine .block ?_
    refine .seq ?_
    refine .reg0 rfl (.op 0 rfl (eqI rfl rfl) <| .op 0 rfl (asV rfl) <| .nil0) ?_
    by_cases c3 : a0.Tag = 2
    · rw [if_pos c3] at h
      refine .condT rfl (beq_iff_eq.mpr c3) ?_
      refine .reg0 rfl (.op 0 rfl (faP fa49_1 rfl) <| .op 0 rfl (ldP rfl sz3 ag3 rfl) <| .op 0 rfl (faP fa49_1 rfl) <| .op 0 rfl (ldP rfl sz3 ag3 rfl) <| .op 0 rfl (addI rfl rfl) <| .op 0 rfl (faP fa25_1 rfl) <| .op 0 rfl (ldP rfl sz3 ag3 rfl) <| .op 0 rfl (minI rfl rfl) <| .op 0 rfl (faP fa49_1 rfl) <| .op 0 rfl (stB (cs0 := [.val (.bool false), .val (.int .i64 0), .val (.int .u64 0), .val (.slice none 0 0), .val (.slice none 0 0), .val (.slice none 0 0)]) (cs := [.val (.int .i64 (if a0.Dim < (IntKind.i64.wrap (a1.Cost + a2.Cost)) then a0.Dim else (IntKind.i64.wrap (a1.Cost + a2.Cost))))]) (cs1 := [.val (.bool false), .val (.int .i64 (if a0.Dim < (IntKind.i64.wrap (a1.Cost + a2.Cost)) then a0.Dim else (IntKind.i64.wrap (a1.Cost + a2.Cost)))), .val (.int .u64 0), .val (.slice none 0 0), .val (.slice none 0 0), .val (.slice none 0 0)]) rfl rfl sz3 rfl ⟨Nat.le_of_ble_eq_true rfl, rfl⟩ rfl) <| .nil0) ?_
      refine .inBlock ?_
      refine .seq ?_
      refine .reg0 rfl (.op 0 rfl (ldG rfl sz49 ag49 rfl) <| .op 0 rfl (stB (cs0 := [.val (.bool false), .val (.int .i64 0), .val (.int .u64 0), .val (.slice none 0 0), .val (.slice none 0 0), .val (.slice none 0 0)]) (cs := [.val (.bool false), .val (.int .i64 (if a0.Dim < (IntKind.i64.wrap (a1.Cost + a2.Cost)) then a0.Dim else (IntKind.i64.wrap (a1.Cost + a2.Cost)))), .val (.int .u64 0), .val (.slice none 0 0), .val (.slice none 0 0), .val (.slice none 0 0)]) (cs1 := [.val (.bool false), .val (.int .i64 (if a0.Dim < (IntKind.i64.wrap (a1.Cost + a2.Cost)) then a0.Dim else (IntKind.i64.wrap (a1.Cost + a2.Cost)))), .val (.int .u64 0), .val (.slice none 0 0), .val (.slice none 0 0), .val (.slice none 0 0)]) rfl rfl sz49 rfl ⟨Nat.le_of_ble_eq_true rfl, rfl⟩ rfl) <| .nil0) ?_
      replace h := h.symm
      subst h
      refine .keepL [] [(6, .cptr [.val (.bool false), .val (.int .i64 (if a0.Dim < (IntKind.i64.wrap (a1.Cost + a2.Cost)) then a0.Dim else (IntKind.i64.wrap (a1.Cost + a2.Cost)))), .val (.int .u64 0), .rows (([] : List Int).map (cInt .u64)), .rows (([] : List TCell).map TCell.cells), .rows (([] : List TWeight).map TWeight.cells)] 0)] [] (by decide) (by decide) ⟨cFixP rfl rfl (.cons (.free rfl rfl) <| .cons (.free rfl rfl) <| .cons (.free rfl rfl) <| .cons (.nil) <| .cons (.nil) <| .cons (.nil) <| .nil), trivial⟩ trivial ?_
      exact .ret rfl
    · rw [if_neg c3] at h
      refine .condF rfl (beq_eq_false_iff_ne.mpr c3) ?_
      refine .seq ?_
      refine .reg0 rfl (.op 0 rfl (eqI rfl rfl) <| .op 0 rfl (asV rfl) <| .nil0) ?_
      by_cases c4 : a0.Tag = 3
      · rw [if_pos c4] at h
        refine .condT rfl (beq_iff_eq.mpr c4) ?_
        obtain ⟨t10_6, g10_6, h⟩ := h
        refine .reg0 rfl (.op 0 rfl (faP fa25_1 rfl) <| .op 0 rfl (ldP rfl sz3 ag3 rfl) <| .op 0 rfl (faP fa49_2 rfl) <| .op 0 rfl (ldG rfl sz45 ag45 rfl) <| .op 0 rfl (faP fa49_2 rfl) <| .op 0 rfl (ldG rfl sz45 ag45 rfl) <| .callI rfl (callee_of rfl go45 rfl) (.pure rfl rfl (r03_Extend.D g10_6)) <| .op 0 rfl (mvT rfl) <| .op 0 rfl (exT rfl rfl) <| .op 0 rfl (exT rfl rfl) <| .op 0 rfl (faP fa49_2 rfl) <| .op 0 rfl (stB (cs0 := [.val (.bool false), .val (.int .i64 0), .val (.int .u64 0), .val (.slice none 0 0), .val (.slice none 0 0), .val (.slice none 0 0)]) (cs := (TFacts.lit t10_6.1)) (cs1 := [.val (.bool false), .val (.int .i64 0), .val (.int .u64 t10_6.1.Gen), .rows (t10_6.1.Rows.map (cInt .u64)), .val (.slice none 0 0), .val (.slice none 0 0)]) rfl rfl sz45 rfl ⟨Nat.le_of_ble_eq_true rfl, rfl⟩ rfl) <| .nil0) ?_
        refine .inBlock ?_
        refine .seq ?_
        refine .reg0 rfl (.op 0 rfl (ldG rfl sz49 ag49 rfl) <| .op 0 rfl (stB (cs0 := [.val (.bool false), .val (.int .i64 0), .val (.int .u64 0), .val (.slice none 0 0), .val (.slice none 0 0), .val (.slice none 0 0)]) (cs := [.val (.bool false), .val (.int .i64 0), .val (.int .u64 t10_6.1.Gen), .rows (t10_6.1.Rows.map (cInt .u64)), .val (.slice none 0 0), .val (.slice none 0 0)]) (cs1 := [.val (.bool false), .val (.int .i64 0), .val (.int .u64 t10_6.1.Gen), .rows (t10_6.1.Rows.map (cInt .u64)), .val (.slice none 0 0), .val (.slice none 0 0)]) rfl rfl sz49 rfl ⟨Nat.le_of_ble_eq_true rfl, rfl⟩ rfl) <| .nil0) ?_
        replace h := h.symm
        subst h
        refine .keepL [] [(6, .cptr [.val (.bool false), .val (.int .i64 0), .val (.int .u64 t10_6.1.Gen), .rows (t10_6.1.Rows.map (cInt .u64)), .rows (([] : List TCell).map TCell.cells), .rows (([] : List TWeight).map TWeight.cells)] 0)] [] (by decide) (by decide) ⟨cFixP rfl rfl (.cons (.free rfl rfl) <| .cons (.free rfl rfl) <| .cons (.free rfl rfl) <| .cons (.free rfl rfl) <| .cons (.nil) <| .cons (.nil) <| .nil), trivial⟩ trivial ?_
        exact .ret rfl
      · rw [if_neg c4] at h
        refine .condF rfl (beq_eq_false_iff_ne.mpr c4) ?_
        refine .seq ?_
        refine .reg0 rfl (.op 0 rfl (eqI rfl rfl) <| .op 0 rfl (asV rfl) <| .nil0) ?_
        by_cases c5 : a0.Tag = 4
        · rw [if_pos c5] at h
          refine .condT rfl (beq_iff_eq.mpr c5) ?_
          refine .seq ?_
          refine .reg0 rfl (.op 0 rfl (asV rfl) <| .nil0) ?_
          refine .block ?_
          refine .room 3 ?_
          refine .keepL [0, 1, 2, 3, 4, 5] [(3, .ptr 0 1 3 0 0), (4, .ptr 1 1 6 0 0), (5, .ptr 2 1 6 0 0), (6, .ptr 3 1 6 0 0), (7, .ptr 4 1 6 0 0), (8, .val (.int .i64 0))] [⟨3, [(TSpace.lit a0)], 0, none⟩, ⟨6, [(TWeight.lit a1)], 0, none⟩, ⟨6, [(TWeight.lit a2)], 0, none⟩, ⟨6, [[.val (.bool false), .val (.int .i64 0), .val (.int .u64 0), .val (.slice none 0 0), .val (.slice none 0 0), .val (.slice none 0 0)]], 0, none⟩, ⟨6, [[.val (.bool false), .val (.int .i64 0), .val (.int .u64 0), .val (.slice none 0 0), .own 5 0, .val (.slice none 0 0)]], 0, none⟩, ⟨3, [].map TCell.cells, 0, none⟩] (by decide) (by decide) ⟨.ptr rfl, .ptr rfl, .ptr rfl, .ptr rfl, .ptr rfl, .free rfl rfl, trivial⟩ ⟨⟨_, rfl, bcBox (all2_free rfl)⟩, ⟨_, rfl, bcBox (all2_free rfl)⟩, ⟨_, rfl, bcBox (all2_free rfl)⟩, ⟨_, rfl, bcBox (all2_free rfl)⟩, ⟨_, rfl, bcBox (.cons (.free rfl rfl) <| .cons (.free rfl rfl) <| .cons (.free rfl rfl) <| .cons (.free rfl rfl) <| .cons (.nilOwn) <| .cons (.free rfl rfl) <| .nil)⟩, ⟨_, rfl, (bcRow (l := []) sl46 (Nat.le_refl _) rfl)⟩, trivial⟩ ?_
          obtain ⟨o1, hL1, h⟩ := h
          refine .loopB (r05_Then.b1 a0 a1 a2) (fun (x2, x3) => listEnv [(3, .ptr 0 1 3 0 0), (4, .ptr 1 1 6 0 0), (5, .ptr 2 1 6 0 0), (6, .ptr 3 1 6 0 0), (7, .ptr 4 1 6 0 0), (8, .val (.int .i64 x3))]) (fun (x2, x3) => [⟨3, [(TSpace.lit a0)], 0, none⟩, ⟨6, [(TWeight.lit a1)], 0, none⟩, ⟨6, [(TWeight.lit a2)], 0, none⟩, ⟨6, [[.val (.bool false), .val (.int .i64 0), .val (.int .u64 0), .val (.slice none 0 0), .val (.slice none 0 0), .val (.slice none 0 0)]], 0, none⟩, ⟨6, [[.val (.bool false), .val (.int .i64 0), .val (.int .u64 0), .val (.slice none 0 0), .own 5 x2.length, .val (.slice none 0 0)]], 0, none⟩, ⟨3, x2.map TCell.cells, 0, none⟩]) (fun x4 => listEnv [(6, .ptr 0 1 6 0 0), (7, .ptr 1 1 6 0 0)]) (fun x4 => [⟨6, [[.val (.bool false), .val (.int .i64 0), .val (.int .u64 0), .val (.slice none 0 0), .val (.slice none 0 0), .val (.slice none 0 0)]], 0, none⟩, ⟨6, [[.val (.bool false), .val (.int .i64 0), .val (.int .u64 0), .val (.slice none 0 0), .own 2 x4.length, .val (.slice none 0 0)]], 0, none⟩, ⟨3, x4.map TCell.cells, 0, none⟩]) hL1 (fun r_ => r = r_) ?_ ?_ ?_
          · rintro x4 rfl
            try dsimp only [Fin.on] at h
            refine .inBlock ?_
            refine .seq ?_
            refine .reg0 rfl (.op 0 rfl (ldG rfl sz49 ag49 rfl) <| .op 0 rfl (stB (cs0 := [.val (.bool false), .val (.int .i64 0), .val (.int .u64 0), .val (.slice none 0 0), .val (.slice none 0 0), .val (.slice none 0 0)]) (cs := [.val (.bool false), .val (.int .i64 0), .val (.int .u64 0), .val (.slice none 0 0), .own 2 x4.length, .val (.slice none 0 0)]) (cs1 := [.val (.bool false), .val (.int .i64 0), .val (.int .u64 0), .val (.slice none 0 0), .own 2 x4.length, .val (.slice none 0 0)]) rfl rfl sz49 rfl ⟨Nat.le_of_ble_eq_true rfl, rfl⟩ rfl) <| .nil0) ?_
            replace h := h.symm
            subst h
            refine .keepL [] [(6, .cptr [.val (.bool false), .val (.int .i64 0), .val (.int .u64 0), .rows (([] : List Int).map (cInt .u64)), .rows (x4.map TCell.cells), .rows (([] : List TWeight).map TWeight.cells)] 0)] [] (by decide) (by decide) ⟨cFixP rfl rfl (.cons (.free rfl rfl) <| .cons (.free rfl rfl) <| .cons (.free rfl rfl) <| .cons (.nil) <| .cons (cFixO (l := x4) sl46 rfl rfl rfl rfl) <| .cons (.nil) <| .nil), trivial⟩ trivial ?_
            exact .ret rfl
          · rintro r_ rfl
            exact h
          · rintro ⟨x2, x3⟩ z1 h hn1 hx1 hr1
            dsimp only [r05_Then.b1] at h
            refine .seq ?_
            refine .seq ?_
            refine .reg0 rfl (.op 0 rfl (mvV rfl) <| .op 0 rfl (faP fa25_1 rfl) <| .op 0 rfl (ldP rfl sz3 ag3 rfl) <| .op 0 rfl (ltI rfl rfl) <| .nil0) ?_
            by_cases c8 : x3 < a0.Dim
            · rw [if_pos c8] at h
              refine .condT rfl (decide_eq_true c8) ?_
              refine .skip ?_
              refine .seq ?_
              refine .block ?_
              obtain ⟨g21_7, h⟩ := h
              obtain ⟨t21_9, g21_9, h⟩ := h
              obtain ⟨g21_11, h⟩ := h
              refine .room 0 ?_
              refine .room 0 ?_
              refine .reg1 (e1 := listEnv [(3, .ptr 0 1 3 0 0), (4, .ptr 1 1 6 0 0), (5, .ptr 2 1 6 0 0), (6, .ptr 3 1 6 0 0), (7, .ptr 4 1 6 0 0), (8, .val (.int .i64 x3))]) (H1 := [⟨3, [(TSpace.lit a0)], 0, none⟩, ⟨6, [(TWeight.lit a1)], 0, none⟩, ⟨6, [(TWeight.lit a2)], 0, none⟩, ⟨6, [[.val (.bool false), .val (.int .i64 0), .val (.int .u64 0), .val (.slice none 0 0), .val (.slice none 0 0), .val (.slice none 0 0)]], 0, none⟩, ⟨6, [[.val (.bool false), .val (.int .i64 0), .val (.int .u64 0), .val (.slice none 0 0), .own 5 ((x2 ++ [t21_9]).length), .val (.slice none 0 0)]], 0, none⟩, ⟨3, (x2 ++ [t21_9]).map TCell.cells, 0, none⟩, ⟨3, [t21_9].map TCell.cells, 0, none⟩, Blk.hole]) rfl ?_ ?_
              · exact .drawM [(12, 63, .ptr 4 1 6 0 4), (11, 62, .own 5 ((x2 ++ [t21_9]).length)), (10, 61, .own 6 ([t21_9].length)), (9, 60, .agg (TCell.lit t21_9)), (8, 59, .agg (TCell.lit (rdl a2.Cells x3))), (7, 58, .cptr (TCell.lit (rdl a2.Cells x3)) 0), (6, 57, .val (.int .i64 x3)), (5, 56, .rows (a2.Cells.map TCell.cells)), (4, 55, .ptr 2 1 6 0 4), (3, 54, .rows (a1.Cells.map TCell.cells)), (2, 53, .ptr 1 1 6 0 4), (1, 52, .own 5 x2.length), (0, 51, .ptr 4 1 6 0 4)] [(13, 4, ⟨6, [[.val (.bool false), .val (.int .i64 0), .val (.int .u64 0), .val (.slice none 0 0), .own 5 ((x2 ++ [t21_9]).length), .val (.slice none 0 0)]], 0, none⟩), (11, 5, ⟨3, (x2 ++ [t21_9]).map TCell.cells, 0, none⟩), (10, 6, ⟨3, [t21_9].map TCell.cells, 0, none⟩)] [[], [0], [], [2], [], [4], [], [5, 4, 6], [7, 5, 4, 6], [3, 2, 8, 7, 5, 4, 6], [9, 3, 2, 8, 7, 5, 4, 6], [1, 0, 10, 9, 3, 2, 8, 7, 5, 4, 6], [0, 1, 2, 3, 4, 5, 6, 7, 8, 9, 10, 11], [12, 0, 1, 2, 3, 4, 5, 6, 7, 8, 9, 10, 11]] (by rfl) (by rfl) (by rfl) (by exact ⟨fun S hS hD hn => .one 0 hS hD hn rfl rfl (faP fa49_3 rfl) rfl rfl rfl, fun S hS hD hn => .one 0 hS hD hn rfl rfl (ldP rfl sz46 ag46 rfl) rfl rfl rfl, fun S hS hD hn => .one 0 hS hD hn rfl rfl (faP fa49_3 rfl) rfl rfl rfl, fun S hS hD hn => .one 0 hS hD hn rfl rfl (ldP rfl sz46 ag46 rfl) rfl rfl rfl, fun S hS hD hn => .one 0 hS hD hn rfl rfl (faP fa49_3 rfl) rfl rfl rfl, fun S hS hD hn => .one 0 hS hD hn rfl rfl (ldP rfl sz46 ag46 rfl) rfl rfl rfl, fun S hS hD hn => .one 0 hS hD hn rfl rfl (mvV rfl) rfl rfl rfl, fun S hS hD hn => .one 0 hS hD hn rfl rfl (ixR (l := a2.Cells) (lit := TCell.lit) sl46 rfl rfl (fun _ => rfl) g21_7.1 g21_7.2) rfl rfl rfl, fun S hS hD hn => .one 0 hS hD hn rfl rfl (ldCG rfl sz83 ag83 rfl) rfl rfl rfl, fun S hS hD hn => .oneI hS hD hn rfl rfl (callee_of rfl go46 rfl) (.pure rfl rfl (r05_behind.D g21_9)) rfl rfl rfl, fun S hS hD hn => .one 6 hS hD hn rfl rfl (bldL (s := 3) (cs := [.val (.int .u64 t21_9.From), .val (.int .i64 t21_9.Kind), .val (.int .i64 t21_9.K)]) un46 sz83 ze83 ⟨by decide, rfl, by decide⟩ rfl rfl rfl rfl) rfl rfl rfl, fun S hS hD hn => .one 0 hS hD hn rfl rfl (ap1 (l := x2) t21_9 sl46 rfl rfl rfl (Nat.zero_le _) (elems_own (l := [t21_9]) rfl rfl) g21_11) rfl rfl rfl, fun S hS hD hn => .one 0 hS hD hn rfl rfl (faP fa49_3 rfl) rfl rfl rfl, fun S hS hD hn => .one0 0 rfl rfl (stB (cs0 := [.val (.bool false), .val (.int .i64 0), .val (.int .u64 0), .val (.slice none 0 0), .own 5 x2.length, .val (.slice none 0 0)]) (cs := [.own 5 ((x2 ++ [t21_9]).length)]) (cs1 := [.val (.bool false), .val (.int .i64 0), .val (.int .u64 0), .val (.slice none 0 0), .own 5 ((x2 ++ [t21_9]).length), .val (.slice none 0 0)]) rfl rfl sz46 rfl ⟨Nat.le_of_ble_eq_true rfl, rfl⟩ rfl) (drawE_other _ _ _ _ rfl) rfl, trivial⟩) _ (by exact ⟨.ptr rfl, .ptr rfl, .ptr rfl, .ptr rfl, .ptr rfl, .free rfl rfl, trivial⟩) (by rfl)
              refine .inBlock ?_
              refine .reg0 rfl (.op 0 rfl (mvV rfl) <| .op 0 rfl (addI rfl rfl) <| .op 0 rfl (asV rfl) <| .nil0) ?_
              refine .keepL [0, 1, 2, 3, 4, 5] [(3, .ptr 0 1 3 0 0), (4, .ptr 1 1 6 0 0), (5, .ptr 2 1 6 0 0), (6, .ptr 3 1 6 0 0), (7, .ptr 4 1 6 0 0), (8, .val (.int .i64 (IntKind.i64.wrap (x3 + 1))))] [⟨3, [(TSpace.lit a0)], 0, none⟩, ⟨6, [(TWeight.lit a1)], 0, none⟩, ⟨6, [(TWeight.lit a2)], 0, none⟩, ⟨6, [[.val (.bool false), .val (.int .i64 0), .val (.int .u64 0), .val (.slice none 0 0), .val (.slice none 0 0), .val (.slice none 0 0)]], 0, none⟩, ⟨6, [[.val (.bool false), .val (.int .i64 0), .val (.int .u64 0), .val (.slice none 0 0), .own 5 ((x2 ++ [t21_9]).length), .val (.slice none 0 0)]], 0, none⟩, ⟨3, (x2 ++ [t21_9]).map TCell.cells, 0, none⟩] (by decide) (by decide) ⟨.ptr rfl, .ptr rfl, .ptr rfl, .ptr rfl, .ptr rfl, .free rfl rfl, trivial⟩ ⟨⟨_, rfl, bcBox (all2_free rfl)⟩, ⟨_, rfl, bcBox (all2_free rfl)⟩, ⟨_, rfl, bcBox (all2_free rfl)⟩, ⟨_, rfl, bcBox (all2_free rfl)⟩, ⟨_, rfl, bcBox (.cons (.free rfl rfl) <| .cons (.free rfl rfl) <| .cons (.free rfl rfl) <| .cons (.free rfl rfl) <| .cons (.own rfl) <| .cons (.free rfl rfl) <| .nil)⟩, ⟨_, rfl, bcRow (l := (x2 ++ [t21_9])) sl46 (Nat.le_refl _) rfl⟩, trivial⟩ ?_
              exact hn1 _ h
            · rw [if_neg c8] at h
              refine .condF rfl (decide_eq_false c8) ?_
              refine .exit rfl ?_
              refine .keepL [3, 4, 5] [(6, .ptr 0 1 6 0 0), (7, .ptr 1 1 6 0 0)] [⟨6, [[.val (.bool false), .val (.int .i64 0), .val (.int .u64 0), .val (.slice none 0 0), .val (.slice none 0 0), .val (.slice none 0 0)]], 0, none⟩, ⟨6, [[.val (.bool false), .val (.int .i64 0), .val (.int .u64 0), .val (.slice none 0 0), .own 2 x2.length, .val (.slice none 0 0)]], 0, none⟩, ⟨3, x2.map TCell.cells, 0, none⟩] (by decide) (by decide) ⟨.ptr rfl, .ptr rfl, trivial⟩ ⟨⟨_, rfl, bcBox (all2_free rfl)⟩, ⟨_, rfl, bcBox (.cons (.free rfl rfl) <| .cons (.free rfl rfl) <| .cons (.free rfl rfl) <| .cons (.free rfl rfl) <| .cons (.own rfl) <| .cons (.free rfl rfl) <| .nil)⟩, ⟨_, rfl, bcRow (l := x2) sl46 (Nat.le_refl _) rfl⟩, trivial⟩ ?_
              exact hx1 _ h
        · rw [if_neg c5] at h
          refine .condF rfl (beq_eq_false_iff_ne.mpr c5) ?_
          refine .seq ?_
          refine .reg0 rfl (.op 0 rfl (eqI rfl rfl) <| .op 0 rfl (asV rfl) <| .nil0) ?_
          by_cases c9 : a0.Tag = 5
          · rw [if_pos c9] at h
            refine .condT rfl (beq_iff_eq.mpr c9) ?_
            obtain ⟨g25_2, h⟩ := h
            obtain ⟨g25_6, h⟩ := h
            obtain ⟨g25_10, h⟩ := h
            obtain ⟨t25_12, g25_12, h⟩ := h
            obtain ⟨g25_15, h⟩ := h
            obtain ⟨g25_19, h⟩ := h
            obtain ⟨g25_23, h⟩ := h
            obtain ⟨t25_25, g25_25, h⟩ := h
            refine .room 0 ?_
            refine .reg1 (e1 := listEnv [(6, .ptr 3 1 6 0 0), (7, .ptr 4 1 6 0 0)]) (H1 := [⟨3, [(TSpace.lit a0)], 0, none⟩, ⟨6, [(TWeight.lit a1)], 0, none⟩, ⟨6, [(TWeight.lit a2)], 0, none⟩, ⟨6, [[.val (.bool false), .val (.int .i64 0), .val (.int .u64 0), .val (.slice none 0 0), .val (.slice none 0 0), .val (.slice none 0 0)]], 0, none⟩, ⟨6, [[.val (.bool false), .val (.int .i64 0), .val (.int .u64 0), .val (.slice none 0 0), .val (.slice none 0 0), .own 5 ([t25_12, t25_25].length)]], 0, none⟩, ⟨6, [t25_12, t25_25].map TWeight.cells, 0, none⟩]) rfl ?_ ?_
            · exact .drawM [(27, 93, .ptr 4 1 6 0 5), (26, 92, .own 5 ([t25_12, t25_25].length)), (25, 91, .agg (TWeight.lit t25_25)), (24, 90, .agg (TWeight.lit (rdl a2.Parts 1))), (23, 89, .cptr (TWeight.lit (rdl a2.Parts 1)) 0), (22, 88, .rows (a2.Parts.map TWeight.cells)), (21, 87, .ptr 2 1 6 0 5), (20, 86, .agg (TWeight.lit (rdl a1.Parts 1))), (19, 85, .cptr (TWeight.lit (rdl a1.Parts 1)) 0), (18, 84, .rows (a1.Parts.map TWeight.cells)), (17, 83, .ptr 1 1 6 0 5), (16, 82, .agg (TSpace.lit (rdl a0.Parts 1))), (15, 81, .cptr (TSpace.lit (rdl a0.Parts 1)) 0), (14, 80, .rows (a0.Parts.map TSpace.cells)), (13, 79, .ptr 0 1 3 0 2), (12, 78, .agg (TWeight.lit t25_12)), (11, 77, .agg (TWeight.lit (rdl a2.Parts 0))), (10, 76, .cptr (TWeight.lit (rdl a2.Parts 0)) 0), (9, 75, .rows (a2.Parts.map TWeight.cells)), (8, 74, .ptr 2 1 6 0 5), (7, 73, .agg (TWeight.lit (rdl a1.Parts 0))), (6, 72, .cptr (TWeight.lit (rdl a1.Parts 0)) 0), (5, 71, .rows (a1.Parts.map TWeight.cells)), (4, 70, .ptr 1 1 6 0 5), (3, 69, .agg (TSpace.lit (rdl a0.Parts 0))), (2, 68, .cptr (TSpace.lit (rdl a0.Parts 0)) 0), (1, 67, .rows (a0.Parts.map TSpace.cells)), (0, 66, .ptr 0 1 3 0 2)] [(28, 4, ⟨6, [[.val (.bool false), .val (.int .i64 0), .val (.int .u64 0), .val (.slice none 0 0), .val (.slice none 0 0), .own 5 ([t25_12, t25_25].length)]], 0, none⟩), (26, 5, ⟨6, [t25_12, t25_25].map TWeight.cells, 0, none⟩)] [[], [0], [1, 0], [2, 1, 0], [], [4], [5, 4], [6, 5, 4], [], [8], [9, 8], [10, 9, 8], [3, 2, 1, 0, 7, 6, 5, 4, 11, 10, 9, 8], [], [13], [14, 13], [15, 14, 13], [], [17], [18, 17], [19, 18, 17], [], [21], [22, 21], [23, 22, 21], [16, 15, 14, 13, 20, 19, 18, 17, 24, 23, 22, 21, 12, 3, 2, 1, 0, 7, 6, 5, 4, 11, 10, 9, 8], [12, 3, 2, 1, 0, 7, 6, 5, 4, 11, 10, 9, 8, 25, 16, 15, 14, 13, 20, 19, 18, 17, 24, 23, 22, 21], [0, 1, 2, 3, 4, 5, 6, 7, 8, 9, 10, 11, 12, 13, 14, 15, 16, 17, 18, 19, 20, 21, 22, 23, 24, 25, 26], [27, 0, 1, 2, 3, 4, 5, 6, 7, 8, 9, 10, 11, 12, 13, 14, 15, 16, 17, 18, 19, 20, 21, 22, 23, 24, 25, 26]] (by rfl) (by rfl) (by rfl) (by exact ⟨fun S hS hD hn => .one 0 hS hD hn rfl rfl (faP fa25_2 rfl) rfl rfl rfl, fun S hS hD hn => .one 0 hS hD hn rfl rfl (ldP rfl sz23 ag23 rfl) rfl rfl rfl, fun S hS hD hn => .one 0 hS hD hn rfl rfl (ixR (l := a0.Parts) (lit := TSpace.lit) sl23 rfl rfl TSpace.cells_lit g25_2.1 g25_2.2) rfl rfl rfl, fun S hS hD hn => .one 0 hS hD hn rfl rfl (ldCG rfl sz25 ag25 rfl) rfl rfl rfl, fun S hS hD hn => .one 0 hS hD hn rfl rfl (faP fa49_4 rfl) rfl rfl rfl, fun S hS hD hn => .one 0 hS hD hn rfl rfl (ldP rfl sz47 ag47 rfl) rfl rfl rfl, fun S hS hD hn => .one 0 hS hD hn rfl rfl (ixR (l := a1.Parts) (lit := TWeight.lit) sl47 rfl rfl TWeight.cells_lit g25_6.1 g25_6.2) rfl rfl rfl, fun S hS hD hn => .one 0 hS hD hn rfl rfl (ldCG rfl sz49 ag49 rfl) rfl rfl rfl, fun S hS hD hn => .one 0 hS hD hn rfl rfl (faP fa49_4 rfl) rfl rfl rfl, fun S hS hD hn => .one 0 hS hD hn rfl rfl (ldP rfl sz47 ag47 rfl) rfl rfl rfl, fun S hS hD hn => .one 0 hS hD hn rfl rfl (ixR (l := a2.Parts) (lit := TWeight.lit) sl47 rfl rfl TWeight.cells_lit g25_10.1 g25_10.2) rfl rfl rfl, fun S hS hD hn => .one 0 hS hD hn rfl rfl (ldCG rfl sz49 ag49 rfl) rfl rfl rfl, fun S hS hD hn => .oneI hS hD hn rfl rfl (callee_of rfl go29 rfl) (.pure rfl rfl (hs29 _ _ _ _ g25_12)) rfl rfl rfl, fun S hS hD hn => .one 0 hS hD hn rfl rfl (faP fa25_2 rfl) rfl rfl rfl, fun S hS hD hn => .one 0 hS hD hn rfl rfl (ldP rfl sz23 ag23 rfl) rfl rfl rfl, fun S hS hD hn => .one 0 hS hD hn rfl rfl (ixR (l := a0.Parts) (lit := TSpace.lit) sl23 rfl rfl TSpace.cells_lit g25_15.1 g25_15.2) rfl rfl rfl, fun S hS hD hn => .one 0 hS hD hn rfl rfl (ldCG rfl sz25 ag25 rfl) rfl rfl rfl, fun S hS hD hn => .one 0 hS hD hn rfl rfl (faP fa49_4 rfl) rfl rfl rfl, fun S hS hD hn => .one 0 hS hD hn rfl rfl (ldP rfl sz47 ag47 rfl) rfl rfl rfl, fun S hS hD hn => .one 0 hS hD hn rfl rfl (ixR (l := a1.Parts) (lit := TWeight.lit) sl47 rfl rfl TWeight.cells_lit g25_19.1 g25_19.2) rfl rfl rfl, fun S hS hD hn => .one 0 hS hD hn rfl rfl (ldCG rfl sz49 ag49 rfl) rfl rfl rfl, fun S hS hD hn => .one 0 hS hD hn rfl rfl (faP fa49_4 rfl) rfl rfl rfl, fun S hS hD hn => .one 0 hS hD hn rfl rfl (ldP rfl sz47 ag47 rfl) rfl rfl rfl, fun S hS hD hn => .one 0 hS hD hn rfl rfl (ixR (l := a2.Parts) (lit := TWeight.lit) sl47 rfl rfl TWeight.cells_lit g25_23.1 g25_23.2) rfl rfl rfl, fun S hS hD hn => .one 0 hS hD hn rfl rfl (ldCG rfl sz49 ag49 rfl) rfl rfl rfl, fun S hS hD hn => .oneI hS hD hn rfl rfl (callee_of rfl go29 rfl) (.pure rfl rfl (hs29 _ _ _ _ g25_25)) rfl rfl rfl, fun S hS hD hn => .one 5 hS hD hn rfl rfl (bldT (s := 6) (cs := [.val (.bool t25_12.Zero), .val (.int .i64 t25_12.Cost), .val (.int .u64 t25_12.Facts.Gen), .rows (t25_12.Facts.Rows.map (cInt .u64)), .rows (t25_12.Cells.map TCell.cells), .rows (t25_12.Parts.map TWeight.cells), .val (.bool t25_25.Zero), .val (.int .i64 t25_25.Cost), .val (.int .u64 t25_25.Facts.Gen), .rows (t25_25.Facts.Rows.map (cInt .u64)), .rows (t25_25.Cells.map TCell.cells), .rows (t25_25.Parts.map TWeight.cells)]) (cf := TWeight.cells) [t25_12, t25_25] un47 sz49 ze49 ⟨by decide, rfl, by decide⟩ rfl rfl rfl (by simp only [List.map, TWeight.cells_lit]; rfl) rfl) rfl rfl rfl, fun S hS hD hn => .one 0 hS hD hn rfl rfl (faP fa49_4 rfl) rfl rfl rfl, fun S hS hD hn => .one0 0 rfl rfl (stB (cs0 := [.val (.bool false), .val (.int .i64 0), .val (.int .u64 0), .val (.slice none 0 0), .val (.slice none 0 0), .val (.slice none 0 0)]) (cs := [.own 5 ([t25_12, t25_25].length)]) (cs1 := [.val (.bool false), .val (.int .i64 0), .val (.int .u64 0), .val (.slice none 0 0), .val (.slice none 0 0), .own 5 ([t25_12, t25_25].length)]) rfl rfl sz47 rfl ⟨Nat.le_of_ble_eq_true rfl, rfl⟩ rfl) (drawE_other _ _ _ _ rfl) rfl, trivial⟩) _ (by exact ⟨.ptr rfl, .ptr rfl, trivial⟩) (by rfl)
            refine .inBlock ?_
            refine .seq ?_
            refine .reg0 rfl (.op 0 rfl (ldG rfl sz49 ag49 rfl) <| .op 0 rfl (stB (cs0 := [.val (.bool false), .val (.int .i64 0), .val (.int .u64 0), .val (.slice none 0 0), .val (.slice none 0 0), .val (.slice none 0 0)]) (cs := [.val (.bool false), .val (.int .i64 0), .val (.int .u64 0), .val (.slice none 0 0), .val (.slice none 0 0), .own 5 ([t25_12, t25_25].length)]) (cs1 := [.val (.bool false), .val (.int .i64 0), .val (.int .u64 0), .val (.slice none 0 0), .val (.slice none 0 0), .own 5 ([t25_12, t25_25].length)]) rfl rfl sz49 rfl ⟨Nat.le_of_ble_eq_true rfl, rfl⟩ rfl) <| .nil0) ?_
            replace h := h.symm
            subst h
            refine .keepL [] [(6, .cptr [.val (.bool false), .val (.int .i64 0), .val (.int .u64 0), .rows (([] : List Int).map (cInt .u64)), .rows (([] : List TCell).map TCell.cells), .rows ([t25_12, t25_25].map TWeight.cells)] 0)] [] (by decide) (by decide) ⟨cFixP rfl rfl (.cons (.free rfl rfl) <| .cons (.free rfl rfl) <| .cons (.free rfl rfl) <| .cons (.nil) <| .cons (.nil) <| .cons (cFixO (l := [t25_12, t25_25]) sl47 rfl rfl rfl rfl) <| .nil), trivial⟩ trivial ?_
            exact .ret rfl
          · rw [if_neg c9] at h
            refine .condF rfl (beq_eq_false_iff_ne.mpr c9) ?_
            refine .skip ?_
            refine .inBlock ?_
            refine .seq ?_
            refine .reg0 rfl (.op 0 rfl (ldG rfl sz49 ag49 rfl) <| .op 0 rfl (stB (cs0 := [.val (.bool false), .val (.int .i64 0), .val (.int .u64 0), .val (.slice none 0 0), .val (.slice none 0 0), .val (.slice none 0 0)]) (cs := [.val (.bool false), .val (.int .i64 0), .val (.int .u64 0), .val (.slice none 0 0), .val (.slice none 0 0), .val (.slice none 0 0)]) (cs1 := [.val (.bool false), .val (.int .i64 0), .val (.int .u64 0), .val (.slice none 0 0), .val (.slice none 0 0), .val (.slice none 0 0)]) rfl rfl sz49 rfl ⟨Nat.le_of_ble_eq_true rfl, rfl⟩ rfl) <| .nil0) ?_
            replace h := h.symm
            subst h
            refine .keepL [] [(6, .cptr [.val (.bool false), .val (.int .i64 0), .val (.int .u64 0), .rows (([] : List Int).map (cInt .u64)), .rows (([] : List TCell).map TCell.cells), .rows (([] : List TWeight).map TWeight.cells)] 0)] [] (by decide) (by decide) ⟨cFixP rfl rfl (.cons (.free rfl rfl) <| .cons (.free rfl rfl) <| .cons (.free rfl rfl) <| .cons (.nil) <| .cons (.nil) <| .cons (.nil) <| .nil), trivial⟩ trivial ?_
            exact .ret rfl
def r05_Then.fN : Nat → TSpace → TWeight → TWeight → TWeight → Prop
  | 0 => fun _ _ _ _ => False
  | n + 1 => r05_Then.step (r05_Then.fN n)
theorem r05_Then.ND : ∀ (n : Nat) {a0 : TSpace} {a1 : TWeight} {a2 : TWeight} {r : TWeight} (h : r05_Then.fN n a0 a1 a2 r), D Try.prog X (.callH 29 [.agg (TSpace.lit a0), .agg (TWeight.lit a1), .agg (TWeight.lit a2)] [] (.agg (TWeight.lit r)) [])
  | 0, _, _, _, _, h => h.elim
  | n + 1, _, _, _, _, h => r05_Then.stepD (fun _ _ _ _ h => r05_Then.ND n h) h
def r05_Then.f (a0 : TSpace) (a1 : TWeight) (a2 : TWeight) (r : TWeight) : Prop := ∃ n, r05_Then.fN n a0 a1 a2 r
theorem r05_Then.D {a0 : TSpace} {a1 : TWeight} {a2 : TWeight} {r : TWeight} (h : r05_Then.f a0 a1 a2 r) : D Try.prog X (.callH 29 [.agg (TSpace.lit a0), .agg (TWeight.lit a1), .agg (TWeight.lit a2)] [] (.agg (TWeight.lit r)) []) := by obtain ⟨n, h⟩ := h; exact r05_Then.ND n h
def r05_Extend.b1 (a0 : TSpace) (a1 : List TWeight) : (Bool × Int × Int × (List Int) × (List TCell) × (List TWeight) × Int) → Rnd ((Bool × Int × Int × (List Int) × (List TCell) × (List TWeight) × Int)) ((Bool × Int × Int × (List Int) × (List TCell) × (List TWeight))) (TWeight × Int) → Prop := fun (x1, x2, x3, x4, x5, x6, x7) z1 => if x7 < (a1.length : Int) then (((InR x7 a1.length)) ∧ ∃ t13_6 : TWeight, (r05_Then.f a0 (TWeight.mk x1 x2 (TFacts.mk x3 x4) x5 x6) (rdl a1 x7) t13_6) ∧ z1 = .next (t13_6.Zero, t13_6.Cost, t13_6.Facts.Gen, t13_6.Facts.Rows, t13_6.Cells, t13_6.Parts, (IntKind.i64.wrap (x7 + 1)))) else (z1 = .exit (x1, x2, x3, x4, x5, x6))
def r05_Extend.f (a0 : TSpace) (a1 : List TWeight) (r : TWeight × Int) : Prop :=
  ∃ t2_2 : Int, (r05_all.f a0 a1 t2_2) ∧ if t2_2 = 0 then (∃ t4_1 : TWeight, (r05_one.f a0 t4_1) ∧ ∃ o1 : Fin ((Bool × Int × Int × (List Int) × (List TCell) × (List TWeight))) (TWeight × Int), Loop (r05_Extend.b1 a0 a1) (t4_1.Zero, t4_1.Cost, t4_1.Facts.Gen, t4_1.Facts.Rows, t4_1.Cells, t4_1.Parts, 0) o1 ∧ o1.on (fun (x8, x9, x10, x11, x12, x13) => r = ((TWeight.mk x8 x9 (TFacts.mk x10 x11) x12 x13), 0)) (fun r_ => r = r_)) else (r = ((TWeight.mk false 0 (TFacts.mk 0 []) [] []), t2_2))
theorem r05_Extend.D {a0 : TSpace} {a1 : List TWeight} {r : TWeight × Int} (h : r05_Extend.f a0 a1 r) : D Try.prog X (.callH 13 [.agg (TSpace.lit a0), .rows (a1.map TWeight.cells)] [] (.tuple [.agg (TWeight.lit r.1), .val (.int .i64 r.2)]) []) := by
  unfold r05_Extend.f at h
  refine .enter 32 0 fn13 rfl rfl rfl ?_
  refine .seq ?_
  refine .room 0 ?_
  refine .room 0 ?_
  refine .reg0 rfl (.op 0 rfl (bxP (s := 3) (cs := (TSpace.lit a0)) rfl ⟨rfl, by decide, rfl⟩ rfl) <| .op 1 rfl (alP (s := 6) ze49 ⟨rfl, by decide, rfl⟩ rfl) <| .op 0 rfl (asV rfl) <| .nil0) ?_
  refine .seq ?_
  obtain ⟨t2_2, g2_2, h⟩ := h
  refine .reg0 rfl (.op 0 rfl (ldG rfl sz25 ag25 rfl) <| .op 0 rfl (mvR rfl) <| .callI rfl (callee_of rfl go28 rfl) (.pure rfl rfl (r05_all.D g2_2)) <| .op 0 rfl (asV rfl) <| .nil0) ?_
  refine .seq ?_
  refine .seq ?_
  refine .reg0 rfl (.op 0 rfl (mvV rfl) <| .op 0 rfl (neI rfl rfl) <| .nil0) ?_
  by_cases c1 : t2_2 = 0
  · rw [if_pos c1] at h
    refine .condF rfl (bne_eq_false_iff_eq.mpr c1) ?_
    refine .skip ?_
    refine .seq ?_
    obtain ⟨t4_1, g4_1, h⟩ := h
    refine .room 0 ?_
    refine .reg0 rfl (.op 0 rfl (ldG rfl sz25 ag25 rfl) <| .callI rfl (callee_of rfl go27 rfl) (.pure rfl rfl (r05_one.D g4_1)) <| .op 2 rfl (alP (s := 6) ze49 ⟨rfl, by decide, rfl⟩ rfl) <| .op 0 rfl (stB (cs0 := [.val (.bool false), .val (.int .i64 0), .val (.int .u64 0), .val (.slice none 0 0), .val (.slice none 0 0), .val (.slice none 0 0)]) (cs := (TWeight.lit t4_1)) (cs1 := (TWeight.lit t4_1)) rfl rfl sz49 rfl ⟨Nat.le_of_ble_eq_true rfl, rfl⟩ rfl) <| .nil0) ?_
    refine .seq ?_
    refine .seq ?_
    refine .reg0 rfl (.op 0 rfl (asV rfl) <| .nil0) ?_
    refine .block ?_
    refine .keepL [0, 1, 2] [(1, .rows (a1.map TWeight.cells)), (2, .ptr 0 1 3 0 0), (4, .ptr 1 1 6 0 0), (7, .ptr 2 1 6 0 0), (8, .val (.int .i64 0))] [⟨3, [(TSpace.lit a0)], 0, none⟩, ⟨6, [[.val (.bool false), .val (.int .i64 0), .val (.int .u64 0), .val (.slice none 0 0), .val (.slice none 0 0), .val (.slice none 0 0)]], 0, none⟩, ⟨6, [(TWeight.lit t4_1)], 0, none⟩] (by decide) (by decide) ⟨.free rfl rfl, .ptr rfl, .ptr rfl, .ptr rfl, .free rfl rfl, trivial⟩ ⟨⟨_, rfl, bcBox (all2_free rfl)⟩, ⟨_, rfl, bcBox (all2_free rfl)⟩, ⟨_, rfl, bcBox (all2_free rfl)⟩, trivial⟩ ?_
    obtain ⟨o1, hL1, h⟩ := h
    refine .loopB (r05_Extend.b1 a0 a1) (fun (x1, x2, x3, x4, x5, x6, x7) => listEnv [(1, .rows (a1.map TWeight.cells)), (2, .ptr 0 1 3 0 0), (4, .ptr 1 1 6 0 0), (7, .ptr 2 1 6 0 0), (8, .val (.int .i64 x7))]) (fun (x1, x2, x3, x4, x5, x6, x7) => [⟨3, [(TSpace.lit a0)], 0, none⟩, ⟨6, [[.val (.bool false), .val (.int .i64 0), .val (.int .u64 0), .val (.slice none 0 0), .val (.slice none 0 0), .val (.slice none 0 0)]], 0, none⟩, ⟨6, [[.val (.bool x1), .val (.int .i64 x2), .val (.int .u64 x3), .rows (x4.map (cInt .u64)), .rows (x5.map TCell.cells), .rows (x6.map TWeight.cells)]], 0, none⟩]) (fun (x8, x9, x10, x11, x12, x13) => listEnv [(4, .ptr 0 1 6 0 0), (7, .ptr 1 1 6 0 0)]) (fun (x8, x9, x10, x11, x12, x13) => [⟨6, [[.val (.bool false), .val (.int .i64 0), .val (.int .u64 0), .val (.slice none 0 0), .val (.slice none 0 0), .val (.slice none 0 0)]], 0, none⟩, ⟨6, [[.val (.bool x8), .val (.int .i64 x9), .val (.int .u64 x10), .rows (x11.map (cInt .u64)), .rows (x12.map TCell.cells), .rows (x13.map TWeight.cells)]], 0, none⟩]) hL1 (fun r_ => r = r_) ?_ ?_ ?_
    · rintro ⟨x8, x9, x10, x11, x12, x13⟩ rfl
      try dsimp only [Fin.on] at h
      refine .seq ?_
      refine .reg0 rfl (.op 0 rfl (ldG rfl sz49 ag49 rfl) <| .op 0 rfl (stB (cs0 := [.val (.bool false), .val (.int .i64 0), .val (.int .u64 0), .val (.slice none 0 0), .val (.slice none 0 0), .val (.slice none 0 0)]) (cs := [.val (.bool x8), .val (.int .i64 x9), .val (.int .u64 x10), .rows (x11.map (cInt .u64)), .rows (x12.map TCell.cells), .rows (x13.map TWeight.cells)]) (cs1 := [.val (.bool x8), .val (.int .i64 x9), .val (.int .u64 x10), .rows (x11.map (cInt .u64)), .rows (x12.map TCell.cells), .rows (x13.map TWeight.cells)]) rfl rfl sz49 rfl ⟨Nat.le_of_ble_eq_true rfl, rfl⟩ rfl) <| .op 0 rfl (asV rfl) <| .nil0) ?_
      replace h := h.symm
      subst h
      refine .keepL [] [(4, .cptr [.val (.bool x8), .val (.int .i64 x9), .val (.int .u64 x10), .rows (x11.map (cInt .u64)), .rows (x12.map TCell.cells), .rows (x13.map TWeight.cells)] 0), (5, .val (.int .i64 0))] [] (by decide) (by decide) ⟨cFixP rfl rfl (.cons (.free rfl rfl) <| .cons (.free rfl rfl) <| .cons (.free rfl rfl) <| .cons (.free rfl rfl) <| .cons (.free rfl rfl) <| .cons (.free rfl rfl) <| .nil), .free rfl rfl, trivial⟩ trivial ?_
      exact .ret rfl
    · rintro r_ rfl
      exact h
    · rintro ⟨x1, x2, x3, x4, x5, x6, x7⟩ z1 h hn1 hx1 hr1
      dsimp only [r05_Extend.b1] at h
      refine .seq ?_
      refine .seq ?_
      refine .reg0 rfl (.op 0 rfl (mvV rfl) <| .op 0 rfl (mvR rfl) <| .op 0 rfl (lnR (l := a1) sl47 rfl) <| .op 0 rfl (ltI rfl rfl) <| .nil0) ?_
      by_cases c4 : x7 < (a1.length : Int)
      · rw [if_pos c4] at h
        refine .condT rfl (decide_eq_true c4) ?_
        refine .skip ?_
        refine .seq ?_
        refine .block ?_
        obtain ⟨g13_4, h⟩ := h
        obtain ⟨t13_6, g13_6, h⟩ := h
        refine .reg1 (e1 := listEnv [(1, .rows (a1.map TWeight.cells)), (2, .ptr 0 1 3 0 0), (4, .ptr 1 1 6 0 0), (7, .ptr 2 1 6 0 0), (8, .val (.int .i64 x7))]) (H1 := [⟨3, [(TSpace.lit a0)], 0, none⟩, ⟨6, [[.val (.bool false), .val (.int .i64 0), .val (.int .u64 0), .val (.slice none 0 0), .val (.slice none 0 0), .val (.slice none 0 0)]], 0, none⟩, ⟨6, [(TWeight.lit t13_6)], 0, none⟩]) rfl ?_ ?_
        · exact .drawM [(6, 30, .agg (TWeight.lit t13_6)), (5, 29, .agg (TWeight.lit (rdl a1 x7))), (4, 28, .cptr (TWeight.lit (rdl a1 x7)) 0), (3, 27, .val (.int .i64 x7)), (2, 26, .rows (a1.map TWeight.cells)), (1, 25, .agg [.val (.bool x1), .val (.int .i64 x2), .val (.int .u64 x3), .rows (x4.map (cInt .u64)), .rows (x5.map TCell.cells), .rows (x6.map TWeight.cells)]), (0, 24, .agg (TSpace.lit a0))] [(7, 2, ⟨6, [(TWeight.lit t13_6)], 0, none⟩)] [[], [], [], [], [2, 3], [4, 2, 3], [0, 1, 5, 4, 2, 3], [6, 0, 1, 5, 4, 2, 3]] (by rfl) (by rfl) (by rfl) (by exact ⟨fun S hS hD hn => .one 0 hS hD hn rfl rfl (ldG rfl sz25 ag25 rfl) rfl rfl rfl, fun S hS hD hn => .one 0 hS hD hn rfl rfl (ldG rfl sz49 ag49 rfl) rfl rfl rfl, fun S hS hD hn => .one 0 hS hD hn rfl rfl (mvR rfl) rfl rfl rfl, fun S hS hD hn => .one 0 hS hD hn rfl rfl (mvV rfl) rfl rfl rfl, fun S hS hD hn => .one 0 hS hD hn rfl rfl (ixR (l := a1) (lit := TWeight.lit) sl47 rfl rfl TWeight.cells_lit g13_4.1 g13_4.2) rfl rfl rfl, fun S hS hD hn => .one 0 hS hD hn rfl rfl (ldCG rfl sz49 ag49 rfl) rfl rfl rfl, fun S hS hD hn => .oneI hS hD hn rfl rfl (callee_of rfl go29 rfl) (.pure rfl rfl (r05_Then.D g13_6)) rfl rfl rfl, fun S hS hD hn => .one0 0 rfl rfl (stB (cs0 := [.val (.bool x1), .val (.int .i64 x2), .val (.int .u64 x3), .rows (x4.map (cInt .u64)), .rows (x5.map TCell.cells), .rows (x6.map TWeight.cells)]) (cs := (TWeight.lit t13_6)) (cs1 := (TWeight.lit t13_6)) rfl rfl sz49 rfl ⟨Nat.le_of_ble_eq_true rfl, rfl⟩ rfl) (drawE_other _ _ _ _ rfl) rfl, trivial⟩) _ (by exact ⟨.free rfl rfl, .ptr rfl, .ptr rfl, .ptr rfl, .free rfl rfl, trivial⟩) (by rfl)
        refine .inBlock ?_
        refine .reg0 rfl (.op 0 rfl (mvV rfl) <| .op 0 rfl (addI rfl rfl) <| .op 0 rfl (asV rfl) <| .nil0) ?_
        refine .keepL [0, 1, 2] [(1, .rows (a1.map TWeight.cells)), (2, .ptr 0 1 3 0 0), (4, .ptr 1 1 6 0 0), (7, .ptr 2 1 6 0 0), (8, .val (.int .i64 (IntKind.i64.wrap (x7 + 1))))] [⟨3, [(TSpace.lit a0)], 0, none⟩, ⟨6, [[.val (.bool false), .val (.int .i64 0), .val (.int .u64 0), .val (.slice none 0 0), .val (.slice none 0 0), .val (.slice none 0 0)]], 0, none⟩, ⟨6, [(TWeight.lit t13_6)], 0, none⟩] (by decide) (by decide) ⟨.free rfl rfl, .ptr rfl, .ptr rfl, .ptr rfl, .free rfl rfl, trivial⟩ ⟨⟨_, rfl, bcBox (all2_free rfl)⟩, ⟨_, rfl, bcBox (all2_free rfl)⟩, ⟨_, rfl, bcBox (all2_free rfl)⟩, trivial⟩ ?_
        exact hn1 _ h
      · rw [if_neg c4] at h
        refine .condF rfl (decide_eq_false c4) ?_
        refine .exit rfl ?_
        refine .keepL [1, 2] [(4, .ptr 0 1 6 0 0), (7, .ptr 1 1 6 0 0)] [⟨6, [[.val (.bool false), .val (.int .i64 0), .val (.int .u64 0), .val (.slice none 0 0), .val (.slice none 0 0), .val (.slice none 0 0)]], 0, none⟩, ⟨6, [[.val (.bool x1), .val (.int .i64 x2), .val (.int .u64 x3), .rows (x4.map (cInt .u64)), .rows (x5.map TCell.cells), .rows (x6.map TWeight.cells)]], 0, none⟩] (by decide) (by decide) ⟨.ptr rfl, .ptr rfl, trivial⟩ ⟨⟨_, rfl, bcBox (all2_free rfl)⟩, ⟨_, rfl, bcBox (all2_free rfl)⟩, trivial⟩ ?_
        exact hx1 _ h
  · rw [if_neg c1] at h
    refine .condT rfl (bne_iff_ne.mpr c1) ?_
    refine .seq ?_
    refine .reg0 rfl (.op 0 rfl (bldS (cs := [.val (.bool false), .val (.int .i64 0), .val (.int .u64 0), .val (.slice none 0 0), .val (.slice none 0 0), .val (.slice none 0 0)]) ze49 pl49 rfl rfl) <| .op 0 rfl (mvV rfl) <| .op 0 rfl (stB (cs0 := [.val (.bool false), .val (.int .i64 0), .val (.int .u64 0), .val (.slice none 0 0), .val (.slice none 0 0), .val (.slice none 0 0)]) (cs := [.val (.bool false), .val (.int .i64 0), .val (.int .u64 0), .val (.slice none 0 0), .val (.slice none 0 0), .val (.slice none 0 0)]) (cs1 := [.val (.bool false), .val (.int .i64 0), .val (.int .u64 0), .val (.slice none 0 0), .val (.slice none 0 0), .val (.slice none 0 0)]) rfl rfl sz49 rfl ⟨Nat.le_of_ble_eq_true rfl, rfl⟩ rfl) <| .op 0 rfl (asV rfl) <| .nil0) ?_
    replace h := h.symm
    subst h
    refine .keepL [] [(4, .cptr [.val (.bool false), .val (.int .i64 0), .val (.int .u64 0), .rows (([] : List Int).map (cInt .u64)), .rows (([] : List TCell).map TCell.cells), .rows (([] : List TWeight).map TWeight.cells)] 0), (5, .val (.int .i64 t2_2))] [] (by decide) (by decide) ⟨cFixP rfl rfl (.cons (.free rfl rfl) <| .cons (.free rfl rfl) <| .cons (.free rfl rfl) <| .cons (.nil) <| .cons (.nil) <| .cons (.nil) <| .nil), .free rfl rfl, trivial⟩ trivial ?_
    exact .ret rfl
def l11_same.b1 (a0 : TConf) (a1 : TConf) : Int → Rnd Int Unit Bool → Prop := fun x1 z1 => if x1 < (a0.W.length : Int) then (((InR x1 a0.W.length)) ∧ ((InR x1 a1.W.length)) ∧ if (rdl a0.W x1) = (rdl a1.W x1) then (z1 = .next (IntKind.i64.wrap (x1 + 1))) else (z1 = .ret false)) else (z1 = .exit ())
def l11_same.f (a0 : TConf) (a1 : TConf) (r : Bool) : Prop :=
  if ((!(a0.P == a1.P)) || ((a0.W.length : Int) != (a1.W.length : Int))) = true then (r = false) else (∃ o1 : Fin Unit Bool, Loop (l11_same.b1 a0 a1) 0 o1 ∧ o1.on (fun _ => r = true) (fun r_ => r = r_))
theorem l11_same.D {a0 : TConf} {a1 : TConf} {r : Bool} (h : l11_same.f a0 a1 r) : D Try.prog X (.callH 14 [.agg (TConf.lit a0), .agg (TConf.lit a1)] [] (.val (.bool r)) []) := by
  unfold l11_same.f at h
  refine .enter 38 0 fn14 rfl rfl rfl ?_
  refine .seq ?_
  refine .room 0 ?_
  refine .room 0 ?_
  refine .reg0 rfl (.op 0 rfl (bxP (s := 2) (cs := (TConf.lit a0)) rfl ⟨rfl, by decide, rfl⟩ rfl) <| .op 1 rfl (bxP (s := 2) (cs := (TConf.lit a1)) rfl ⟨rfl, by decide, rfl⟩ rfl) <| .op 0 rfl (asV rfl) <| .nil0) ?_
  refine .seq ?_
  refine .seq ?_
  refine .reg0 (e1 := listEnv [(2, .ptr 0 1 2 0 0), (3, .ptr 1 1 2 0 0), (19, .val (.bool ((!(a0.P == a1.P)) || ((a0.W.length : Int) != (a1.W.length : Int)))))]) (H1 := [⟨2, [(TConf.lit a0)], 0, none⟩, ⟨2, [(TConf.lit a1)], 0, none⟩]) rfl ?_ ?_
  · by_cases c1 : a0.P = a1.P
    · exact (.op 0 rfl (faP fa53_0 rfl) <| .op 0 rfl (ldP rfl sz3 ag3 rfl) <| .op 0 rfl (faP fa53_0 rfl) <| .op 0 rfl (ldP rfl sz3 ag3 rfl) <| .op 0 rfl (neI rfl rfl) <| .op 0 rfl (mvV rfl) <| .op 0 (gT rfl rfl rfl (bne_eq_false_iff_eq.mpr c1)) (faP fa53_1 rfl) <| .op 0 (gT rfl rfl rfl (bne_eq_false_iff_eq.mpr c1)) (ldP rfl sz30 ag30 rfl) <| .op 0 (gT rfl rfl rfl (bne_eq_false_iff_eq.mpr c1)) (lnR (l := a0.W) sl30 rfl) <| .op 0 (gT rfl rfl rfl (bne_eq_false_iff_eq.mpr c1)) (faP fa53_1 rfl) <| .op 0 (gT rfl rfl rfl (bne_eq_false_iff_eq.mpr c1)) (ldP rfl sz30 ag30 rfl) <| .op 0 (gT rfl rfl rfl (bne_eq_false_iff_eq.mpr c1)) (lnR (l := a1.W) sl30 rfl) <| .op 0 (gT rfl rfl rfl (bne_eq_false_iff_eq.mpr c1)) (neI rfl rfl) <| .op 0 rfl (pkFV rfl (bne_eq_false_iff_eq.mpr c1) rfl) <| .nilL _ ⟨.ptr rfl, .ptr rfl, cB rfl (mOrF (bnotF (beq_iff_eq.mpr c1)) rfl), trivial⟩)
    · exact (.op 0 rfl (faP fa53_0 rfl) <| .op 0 rfl (ldP rfl sz3 ag3 rfl) <| .op 0 rfl (faP fa53_0 rfl) <| .op 0 rfl (ldP rfl sz3 ag3 rfl) <| .op 0 rfl (neI rfl rfl) <| .op 0 rfl (mvV rfl) <| .no (gF rfl rfl rfl (bne_iff_ne.mpr c1)) <| .no (gF rfl rfl rfl (bne_iff_ne.mpr c1)) <| .no (gF rfl rfl rfl (bne_iff_ne.mpr c1)) <| .no (gF rfl rfl rfl (bne_iff_ne.mpr c1)) <| .no (gF rfl rfl rfl (bne_iff_ne.mpr c1)) <| .no (gF rfl rfl rfl (bne_iff_ne.mpr c1)) <| .no (gF rfl rfl rfl (bne_iff_ne.mpr c1)) <| .op 0 rfl (pkTV rfl (bne_iff_ne.mpr c1) rfl) <| .nilL _ ⟨.ptr rfl, .ptr rfl, cB rfl (mOrT (bnotT (beq_eq_false_iff_ne.mpr c1))), trivial⟩)
  by_cases c2 : ((!(a0.P == a1.P)) || ((a0.W.length : Int) != (a1.W.length : Int))) = true
  · rw [if_pos c2] at h
    refine .condT rfl c2 ?_
    refine .seq ?_
    refine .reg0 rfl (.op 0 rfl (asV rfl) <| .nil0) ?_
    replace h := h.symm
    subst h
    refine .keepL [] [(4, .val (.bool false))] [] (by decide) (by decide) ⟨.free rfl rfl, trivial⟩ trivial ?_
    exact .ret rfl
  · rw [if_neg c2] at h
    refine .condF rfl (Bool.eq_false_iff.mpr c2) ?_
    refine .skip ?_
    refine .seq ?_
    refine .seq ?_
    refine .reg0 rfl (.op 0 rfl (asV rfl) <| .nil0) ?_
    refine .block ?_
    refine .keepL [0, 1] [(2, .ptr 0 1 2 0 0), (3, .ptr 1 1 2 0 0), (5, .val (.int .i64 0))] [⟨2, [(TConf.lit a0)], 0, none⟩, ⟨2, [(TConf.lit a1)], 0, none⟩] (by decide) (by decide) ⟨.ptr rfl, .ptr rfl, .free rfl rfl, trivial⟩ ⟨⟨_, rfl, bcBox (all2_free rfl)⟩, ⟨_, rfl, bcBox (all2_free rfl)⟩, trivial⟩ ?_
    obtain ⟨o1, hL1, h⟩ := h
    refine .loopB (l11_same.b1 a0 a1) (fun x1 => listEnv [(2, .ptr 0 1 2 0 0), (3, .ptr 1 1 2 0 0), (5, .val (.int .i64 x1))]) (fun x1 => [⟨2, [(TConf.lit a0)], 0, none⟩, ⟨2, [(TConf.lit a1)], 0, none⟩]) (fun _ => listEnv []) (fun _ => []) hL1 (fun r_ => r = r_) ?_ ?_ ?_
    · rintro ⟨⟩ rfl
      try dsimp only [Fin.on] at h
      refine .seq ?_
      refine .reg0 rfl (.op 0 rfl (asV rfl) <| .nil0) ?_
      replace h := h.symm
      subst h
      refine .keepL [] [(4, .val (.bool true))] [] (by decide) (by decide) ⟨.free rfl rfl, trivial⟩ trivial ?_
      exact .ret rfl
    · rintro r_ rfl
      exact h
    · rintro x1 z1 h hn1 hx1 hr1
      dsimp only [l11_same.b1] at h
      refine .seq ?_
      refine .seq ?_
      refine .reg0 rfl (.op 0 rfl (mvV rfl) <| .op 0 rfl (faP fa53_1 rfl) <| .op 0 rfl (ldP rfl sz30 ag30 rfl) <| .op 0 rfl (lnR (l := a0.W) sl30 rfl) <| .op 0 rfl (ltI rfl rfl) <| .nil0) ?_
      by_cases c7 : x1 < (a0.W.length : Int)
      · rw [if_pos c7] at h
        refine .condT rfl (decide_eq_true c7) ?_
        refine .skip ?_
        refine .seq ?_
        refine .block ?_
        refine .seq ?_
        obtain ⟨g14_3, h⟩ := h
        obtain ⟨g14_8, h⟩ := h
        refine .reg1 (e1 := listEnv [(2, .ptr 0 1 2 0 0), (3, .ptr 1 1 2 0 0), (5, .val (.int .i64 x1)), (37, .val (.bool ((rdl a0.W x1) != (rdl a1.W x1))))]) (H1 := [⟨2, [(TConf.lit a0)], 0, none⟩, ⟨2, [(TConf.lit a1)], 0, none⟩]) rfl ?_ ?_
        · exact .drawM [(10, 37, .val (.bool ((rdl a0.W x1) != (rdl a1.W x1)))), (9, 36, .val (.int .i64 (rdl a1.W x1))), (8, 35, .cptr ((cInt .i64) (rdl a1.W x1)) 0), (7, 34, .val (.int .i64 x1)), (6, 33, .rows (a1.W.map (cInt .i64))), (5, 32, .ptr 1 1 2 0 1), (4, 31, .val (.int .i64 (rdl a0.W x1))), (3, 30, .cptr ((cInt .i64) (rdl a0.W x1)) 0), (2, 29, .val (.int .i64 x1)), (1, 28, .rows (a0.W.map (cInt .i64))), (0, 27, .ptr 0 1 2 0 1)] [] [[], [0], [], [1, 0, 2], [3, 1, 0, 2], [], [5], [], [6, 5, 7], [8, 6, 5, 7], [4, 3, 1, 0, 2, 9, 8, 6, 5, 7]] (by rfl) (by rfl) (by rfl) (by exact ⟨fun S hS hD hn => .one 0 hS hD hn rfl rfl (faP fa53_1 rfl) rfl rfl rfl, fun S hS hD hn => .one 0 hS hD hn rfl rfl (ldP rfl sz30 ag30 rfl) rfl rfl rfl, fun S hS hD hn => .one 0 hS hD hn rfl rfl (mvV rfl) rfl rfl rfl, fun S hS hD hn => .one 0 hS hD hn rfl rfl (ixR (l := a0.W) (lit := (cInt .i64)) sl30 rfl rfl (fun _ => rfl) g14_3.1 g14_3.2) rfl rfl rfl, fun S hS hD hn => .one 0 hS hD hn rfl rfl (ldC rfl sz3 ag3 rfl) rfl rfl rfl, fun S hS hD hn => .one 0 hS hD hn rfl rfl (faP fa53_1 rfl) rfl rfl rfl, fun S hS hD hn => .one 0 hS hD hn rfl rfl (ldP rfl sz30 ag30 rfl) rfl rfl rfl, fun S hS hD hn => .one 0 hS hD hn rfl rfl (mvV rfl) rfl rfl rfl, fun S hS hD hn => .one 0 hS hD hn rfl rfl (ixR (l := a1.W) (lit := (cInt .i64)) sl30 rfl rfl (fun _ => rfl) g14_8.1 g14_8.2) rfl rfl rfl, fun S hS hD hn => .one 0 hS hD hn rfl rfl (ldC rfl sz3 ag3 rfl) rfl rfl rfl, fun S hS hD hn => .one 0 hS hD hn rfl rfl (neI rfl rfl) rfl rfl rfl, trivial⟩) _ (by exact ⟨.ptr rfl, .ptr rfl, .free rfl rfl, .free rfl rfl, trivial⟩) (by rfl)
        by_cases c8 : (rdl a0.W x1) = (rdl a1.W x1)
        · rw [if_pos c8] at h
          refine .condF rfl (bne_eq_false_iff_eq.mpr c8) ?_
          refine .skip ?_
          refine .inBlock ?_
          refine .reg0 rfl (.op 0 rfl (mvV rfl) <| .op 0 rfl (addI rfl rfl) <| .op 0 rfl (asV rfl) <| .nil0) ?_
          refine .keepL [0, 1] [(2, .ptr 0 1 2 0 0), (3, .ptr 1 1 2 0 0), (5, .val (.int .i64 (IntKind.i64.wrap (x1 + 1))))] [⟨2, [(TConf.lit a0)], 0, none⟩, ⟨2, [(TConf.lit a1)], 0, none⟩] (by decide) (by decide) ⟨.ptr rfl, .ptr rfl, .free rfl rfl, trivial⟩ ⟨⟨_, rfl, bcBox (all2_free rfl)⟩, ⟨_, rfl, bcBox (all2_free rfl)⟩, trivial⟩ ?_
          exact hn1 _ h
        · rw [if_neg c8] at h
          refine .condT rfl (bne_iff_ne.mpr c8) ?_
          refine .seq ?_
          refine .reg0 rfl (.op 0 rfl (asV rfl) <| .nil0) ?_
          have q3 := hr1 _ h
          replace q3 := q3.symm
          subst q3
          refine .keepL [] [(4, .val (.bool false))] [] (by decide) (by decide) ⟨.free rfl rfl, trivial⟩ trivial ?_
          exact .ret rfl
      · rw [if_neg c7] at h
        refine .condF rfl (decide_eq_false c7) ?_
        refine .exit rfl ?_
        refine .keepL [] [] [] (by decide) (by decide) trivial trivial ?_
        exact hx1 _ h
end Go.RM.Try
