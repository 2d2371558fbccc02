/- CellC, for the statement CellsRow: what it needs, no more. -/
import Derived.Test.YtkfpgniicfanoaaDoorZCellsRowCellB
namespace Go.Proofs.YtkfpgniicfanoaaDoor.Pure
open Go.RowKit Go.Proofs.YtkfpgniicfanoaaDoor.P Go.Proofs.YtkfpgniicfanoaaDoor.Plain Go.Proofs.YtkfpgniicfanoaaDoor.CellA Go.Proofs.YtkfpgniicfanoaaDoor.CellB Go.Proofs.YtkfpgniicfanoaaDoorW.PrintWords Go.Proofs.YtkfpgniicfanoaaDoorW.PrintLast Go.Proofs.YtkfpgniicfanoaaDoorW.PrintMore
set_option linter.unusedVariables false
set_option linter.unusedSimpArgs false
theorem awake_ev : Ev (fun k => stackyardlaw04_awake.f k) true := by
  refine Ev.of stackyardlaw04_awake.mono (k := 200) ?_
  unfold stackyardlaw04_awake.f
  simp only [toList_eq]
  kernel_rfl
/-- What every list in memory is. -/
def Fits (l : List S34) : Prop := (∀ x ∈ l, fit x) ∧ l.length < 9223372036854775807
theorem Below_good {d : Nat} {F G : List Cl} (hF : GoodC d F) (hG : GoodC d G) : Ev (fun k => cells_Below.f k (d : Int) (F.map dec) (G.map dec)) (decide (List.zipWith J F G = G), 0) := by
  refine Ev.bind (Both_good hF hG) ?_
  simp only [if_true]
  refine Ev.bind (Same_ev _ _ (good_len (good_zip hF hG))) ?_
  have : decide ((List.zipWith J F G).map dec = G.map dec) = decide (List.zipWith J F G = G) := decide_eq_decide.2 ⟨decs_inj, fun h => by rw [h]⟩
  rw [this]
  exact Ev.now _
theorem Below_bad {a : Int} {l m : List S34} (hl : Fits l) (hm : Fits m) (h : chk2 a l m ≠ 0) : Ev (fun k => cells_Below.f k a l m) (false, chk2 a l m) := by
  refine Ev.bind (Both_bad hl.1 hl.2 hm.1 hm.2 h) ?_
  simp only [if_neg h]
  exact Ev.now _
theorem rdL_some (l : List (List S34)) (i : Nat) (h : i < l.length) : rd_L4 l (i : Int) = l[i] := by
  simp [rd_L4, List.getD_eq_getElem?_getD, List.getElem?_eq_getElem h]
theorem row_end (H d : Nat) (l : List (List S34)) (s i : Nat) (hs : s ≤ H) (h : ¬ (i < l.length ∧ i < 100)) : Ev (fun k => stackyardlaw04_CellsRow.l0 k (d : Int) l (H : Int) (s : Int) (i : Int)) true := by
  have hend : decide ((s : Int) ≤ (H : Int)) = true := decide_eq_true (by omega)
  refine Ev.step (fun k => stackyardlaw04_CellsRow.l0.eq_2 ..) ?_
  by_cases hil : i < l.length
  · have e : (i : Int) < (l.length : Int) := by omega
    have h100 : ¬ (i : Int) < 100 := by omega
    simp only [if_pos e]
    refine Ev.step (fun k => stackyardlaw04_CellsRow.j1.eq_2 ..) ?_
    simp only [h100, decide_false, Bool.false_eq_true, if_false]
    rw [hend]; exact Ev.now _
  · have e : ¬ (i : Int) < (l.length : Int) := by omega
    simp only [if_neg e]
    refine Ev.step (fun k => stackyardlaw04_CellsRow.j1.eq_2 ..) ?_
    simp only [Bool.false_eq_true, if_false]
    rw [hend]; exact Ev.now _
theorem row_in (H d : Nat) (l : List (List S34)) (s i : Nat) (hi1 : 1 ≤ i) (hs : s ≤ H) (hil : i < l.length) (h100 : i < 100) (hH : H < 9223372036854775807) (P : List S34) (Q : List S34) (hP : l[i - 1]'(by omega) = P) (hQ : l[i] = Q) (hfP : Fits P) (hfQ : Fits Q)
    (next : ∀ F G : List Cl, GoodC d F → GoodC d G → P = F.map dec → Q = G.map dec → List.zipWith J F G = G → F ≠ G → Ev (fun k => stackyardlaw04_CellsRow.l0 k (d : Int) l (H : Int) ((s + 1 : Nat) : Int) ((i + 1 : Nat) : Int)) true) :
    Ev (fun k => stackyardlaw04_CellsRow.l0 k (d : Int) l (H : Int) (s : Int) (i : Int)) true := by
  have hend : decide ((s : Int) ≤ (H : Int)) = true := decide_eq_true (by omega)
  refine Ev.step (fun k => stackyardlaw04_CellsRow.l0.eq_2 ..) ?_
  have e : (i : Int) < (l.length : Int) := by omega
  simp only [if_pos e]
  refine Ev.step (fun k => stackyardlaw04_CellsRow.j1.eq_2 ..) ?_
  have w1 : wrap64 ((i : Int) - 1) = ((i - 1 : Nat) : Int) := by unfold wrap64; omega
  have e0 : (0 : Int) ≤ ((i - 1 : Nat) : Int) := by omega
  have e1 : ((i - 1 : Nat) : Int) < (l.length : Int) := by omega
  have e2 : (0 : Int) ≤ (i : Int) := by omega
  have e3 : (i : Int) < 100 := by omega
  simp only [e3, decide_true, if_true, w1, if_pos e0, if_pos e1, if_pos e2, if_pos e, rdL_some l (i - 1) (by omega), rdL_some l i hil, hP, hQ]
  rcases cases2 (d : Int) P Q hfP.1 hfQ.1 with hc | ⟨_, d', F, G, ed, hF, hG, eF, eG⟩
  · refine Ev.bind (Below_bad hfP hfQ hc) ?_
    simp only [if_neg hc]
    rw [hend]; exact Ev.now _
  · obtain rfl : d = d' := by omega
    have hbel := Below_good hF hG
    rw [← eF, ← eG] at hbel
    refine Ev.bind hbel ?_
    simp only [if_true, decide_eq_true_eq]
    by_cases hj : List.zipWith J F G = G
    · simp only [if_pos hj]
      refine Ev.bind (same_ev Q P hfQ.2) ?_
      simp only [decide_eq_true_eq]
      by_cases hsame : Q = P
      · simp only [if_pos hsame]; rw [hend]; exact Ev.now _
      · simp only [if_neg hsame]
        have hne : F ≠ G := fun e => hsame (by rw [eF, eG, e])
        have ws : wrap64 ((s : Int) + 1) = ((s + 1 : Nat) : Int) := wrap_succ s (by omega)
        rw [ws, wrap_succ i (by omega)]
        exact next F G hF hG eF eG hj hne
    · simp only [if_neg hj]; rw [hend]; exact Ev.now _
theorem CellsRow_l0 (d H : Nat) (hH : H = d * (d + 2)) (hd : d ≤ 64) (l : List (List S34)) (hf : ∀ x ∈ l, Fits x) : ∀ (r i s : Nat), i + r = 101 → 1 ≤ i →
    (s = 0 ∨ ∃ (h : i - 1 < l.length) (F : List Cl), GoodC d F ∧ l[i - 1] = F.map dec ∧ s ≤ ranks d F) →
    Ev (fun k => stackyardlaw04_CellsRow.l0 k (d : Int) l (H : Int) (s : Int) (i : Int)) true := by
  have hq : d * (d + 2) ≤ 64 * 66 := Nat.mul_le_mul hd (by omega)
  intro r
  induction r with
  | zero =>
    intro i s h hi hs
    refine row_end H d l s i ?_ (by omega)
    rcases hs with rfl | ⟨_, F, hF, _, h2⟩
    · exact Nat.zero_le _
    · have := ranks_le d F; rw [hF.2.1] at this; rw [hH]; exact Nat.le_trans h2 this
  | succ r ih =>
    intro i s h hi hs
    have hb : s ≤ H := by
      rcases hs with rfl | ⟨_, F, hF, _, h2⟩
      · exact Nat.zero_le _
      · have := ranks_le d F; rw [hF.2.1] at this; rw [hH]; exact Nat.le_trans h2 this
    by_cases hc : i < l.length ∧ i < 100
    · refine row_in H d l s i hi hb hc.1 hc.2 (by rw [hH]; omega) _ _ rfl rfl (hf _ (List.getElem_mem _)) (hf _ (List.getElem_mem _)) fun F G hF hG eF eG hj hne => ?_
      have hr := (ranks_mono (by rw [hF.2.1, hG.2.1]) hF.2.2 hG.2.2 hj).2 hne
      have hs' : s ≤ ranks d F := by
        rcases hs with rfl | ⟨_, F', hF', eF', h2⟩
        · exact Nat.zero_le _
        · rw [eF'] at eF; rw [← decs_inj eF]; exact h2
      exact ih (i + 1) (s + 1) (by omega) (by omega) (.inr ⟨hc.1, G, hG, eG, Nat.lt_of_le_of_lt hs' hr⟩)
    · exact row_end H d l s i hb hc
theorem height_eq (a : Int) : cells_Height.f a = some (if a < 0 then (0, 41) else if a > 64 then (0, 41) else (a * (a + 2), 0)) := by
  unfold cells_Height.f cells_dims.f
  by_cases h1 : a < 0
  · simp [h1]
  · by_cases h2 : a > 64
    · simp [h1, h2]
    · simp only [if_neg h1, if_neg h2, Option.bind_some, if_true]
      have hd : ∃ d : Nat, a = d ∧ d ≤ 64 := ⟨a.toNat, by omega, by omega⟩
      obtain ⟨d, rfl, hd⟩ := hd
      have hq : d * (d + 2) ≤ 64 * 66 := Nat.mul_le_mul hd (by omega)
      have e : wrap64 ((d : Int) + 2) = ((d + 2 : Nat) : Int) := by unfold wrap64; omega
      rw [e]
      have e2 : (d : Int) * ((d + 2 : Nat) : Int) = ((d * (d + 2) : Nat) : Int) := by push_cast; rfl
      have e3 : (d : Int) * ((d : Int) + 2) = ((d * (d + 2) : Nat) : Int) := by push_cast; rfl
      rw [e2, e3]
      congr 2
      unfold wrap64; omega
theorem CellsRow (a : Int) (l : List (List S34)) (hf : ∀ x ∈ l, Fits x) (hl : l.length < 9223372036854775807) : Ev (fun k => stackyardlaw04_CellsRow.f k a l) true := by
  refine Ev.bind awake_ev ?_
  simp only [if_true, height_eq, Option.bind_some]
  by_cases h1 : a < 0
  · simp only [if_pos h1, show ¬ ((41 : Int) = 0) by decide, if_false]; exact Ev.now _
  · by_cases h2 : a > 64
    · simp only [if_neg h1, if_pos h2, show ¬ ((41 : Int) = 0) by decide, if_false]; exact Ev.now _
    · simp only [if_neg h1, if_neg h2, if_true]
      have hd : ∃ d : Nat, a = d ∧ d ≤ 64 := ⟨a.toNat, by omega, by omega⟩
      obtain ⟨d, rfl, hd⟩ := hd
      have e3 : (d : Int) * ((d : Int) + 2) = ((d * (d + 2) : Nat) : Int) := by push_cast; rfl
      rw [e3]
      exact CellsRow_l0 d _ rfl hd l hf 100 1 0 (by omega) (by omega) (.inl rfl)
end Go.Proofs.YtkfpgniicfanoaaDoor.Pure
