/- CellG, for the statement CellsOwn: what it needs, no more. -/
import Derived.Test.YtkfpgniicfanoaaDoorZCellsOwnCellC
namespace Go.Proofs.YtkfpgniicfanoaaDoor.CellA
end Go.Proofs.YtkfpgniicfanoaaDoor.CellA
namespace Go.Proofs.YtkfpgniicfanoaaDoor.CellB
end Go.Proofs.YtkfpgniicfanoaaDoor.CellB
namespace Go.Proofs.YtkfpgniicfanoaaDoor.P
end Go.Proofs.YtkfpgniicfanoaaDoor.P
namespace Go.Proofs.YtkfpgniicfanoaaDoor.Plain
end Go.Proofs.YtkfpgniicfanoaaDoor.Plain
namespace Go.Proofs.YtkfpgniicfanoaaDoor.Pure
open Go.RowKit Go.Proofs.YtkfpgniicfanoaaDoor.P Go.Proofs.YtkfpgniicfanoaaDoor.Plain Go.Proofs.YtkfpgniicfanoaaDoor.CellA Go.Proofs.YtkfpgniicfanoaaDoor.CellB Go.Proofs.YtkfpgniicfanoaaDoorW.PrintWords Go.Proofs.YtkfpgniicfanoaaDoorW.PrintLast Go.Proofs.YtkfpgniicfanoaaDoorW.PrintMore
set_option linter.unusedVariables false
set_option linter.unusedSimpArgs false
theorem own_l1 (a : Int) (l m p q : List S34) (e f : Int) (v : Bool)
    (hv : Ev (fun k => (stackyardref04_Both.f k a l m).bind fun bt315 => ((stackyardref04_Then.f k a l m).bind fun bt319 => ((stackyardref04_Same.f k p bt315.1).bind fun t323 => (if t323 = true then ((stackyardref04_Same.f k q bt319.1).bind fun t324 => (if t324 = true then (if e = bt315.2 then (if f = bt319.2 then ((stackyardlaw04_awake.f k).bind fun t325 => (some t325)) else (some false)) else (some false)) else (some false))) else (some false))))) v) :
    ∀ (r i : Nat) (x : List S34), i + r = x.length → x.length < 9223372036854775807 → Ev (fun k => stackyardlaw04_CellsOwn.l1 k a l m x p e q f (x.length : Int) (i : Int)) v
  | 0, i, x, h, hx => by
    refine Ev.step (fun k => stackyardlaw04_CellsOwn.l1.eq_2 ..) ?_
    have e1 : ¬ (i : Int) < (x.length : Int) := by omega
    simp only [if_neg e1]
    exact hv
  | r + 1, i, x, h, hx => by
    refine Ev.step (fun k => stackyardlaw04_CellsOwn.l1.eq_2 ..) ?_
    have e1 : (i : Int) < (x.length : Int) := by omega
    have e0 : (0 : Int) ≤ (i : Int) := by omega
    simp only [if_pos e1, if_pos e0, wrap_succ i (by omega)]
    have := own_l1 a l m p q e f v hv r (i + 1) (x.set (i : Int).toNat ⟨0, 9, 0⟩) (by rw [List.length_set]; omega) (by rw [List.length_set]; omega)
    rw [List.length_set] at this
    exact this
theorem own_l0 (a : Int) (l m p q y : List S34) (e f : Int) (v : Bool) (hy : y.length < 9223372036854775807)
    (hv : Ev (fun k => stackyardlaw04_CellsOwn.l1 k a l m y p e q f (y.length : Int) 0) v) :
    ∀ (r i : Nat) (x : List S34), i + r = x.length → x.length < 9223372036854775807 → Ev (fun k => stackyardlaw04_CellsOwn.l0 k a l m x y p e q f (x.length : Int) (i : Int)) v
  | 0, i, x, h, hx => by
    refine Ev.step (fun k => stackyardlaw04_CellsOwn.l0.eq_2 ..) ?_
    have e1 : ¬ (i : Int) < (x.length : Int) := by omega
    simp only [if_neg e1]
    exact hv
  | r + 1, i, x, h, hx => by
    refine Ev.step (fun k => stackyardlaw04_CellsOwn.l0.eq_2 ..) ?_
    have e1 : (i : Int) < (x.length : Int) := by omega
    have e0 : (0 : Int) ≤ (i : Int) := by omega
    simp only [if_pos e1, if_pos e0, wrap_succ i (by omega)]
    have := own_l0 a l m p q y e f v hy hv r (i + 1) (x.set (i : Int).toNat ⟨0, 9, 0⟩) (by rw [List.length_set]; omega) (by rw [List.length_set]; omega)
    rw [List.length_set] at this
    exact this
theorem CellsOwn (a : Int) (l m : List S34) (hl : Fits l) (hm : Fits m) (bl : l.length * 24 ≤ 140737488351232) (bm : m.length * 24 ≤ 140737488351232) : Ev (fun k => stackyardlaw04_CellsOwn.f k a l m) true := by
  have b1 : ([] : List S34).length + l.length < 5864062014805 := by simp; omega
  have b2 : ([] : List S34).length + m.length < 5864062014805 := by simp; omega
  unfold stackyardlaw04_CellsOwn.f
  simp only [Option.bind_some, if_pos b1, if_pos b2, List.nil_append]
  have tail : ∀ (p q : List S34) (e f : Int), Ev (fun k => stackyardref04_Both.f k a l m) (p, e) → Ev (fun k => stackyardref04_Then.f k a l m) (q, f) → p.length < 9223372036854775807 → q.length < 9223372036854775807 →
      Ev (fun k => stackyardlaw04_CellsOwn.j0 k a l m l m p e q f false) true := by
    intro p q e f hb ht hp hq
    refine Ev.step (fun k => stackyardlaw04_CellsOwn.j0.eq_2 ..) ?_
    simp only [Bool.false_eq_true, if_false]
    refine own_l0 a l m p q m e f true hm.2 (own_l1 a l m p q e f true ?_ m.length 0 m (by omega) hm.2) l.length 0 l (by omega) hl.2
    refine Ev.bind hb (Ev.bind ht (Ev.bind (same_ev p p hp) ?_))
    simp only [decide_true, if_true]
    refine Ev.bind (same_ev q q hq) ?_
    simp only [decide_true, if_true]
    exact Ev.bind awake_ev (Ev.now _)
  rcases cases2 a l m hl.1 hm.1 with h | ⟨_, d, F, G, rfl, hF, hG, rfl, rfl⟩
  · refine Ev.bind (Both_bad hl.1 hl.2 hm.1 hm.2 h) (Ev.bind (Then_bad hl.1 hl.2 hm.1 hm.2 h) (Ev.bind (same_ev _ _ hl.2) ?_))
    simp only [decide_true, if_true]
    refine Ev.bind (same_ev _ _ hm.2) ?_
    simp only [decide_true, Bool.not_true]
    exact tail _ _ _ _ (refBoth_bad hl.1 hm.1 h) (refThen_bad hl.1 hm.1 h) (by simp) (by simp)
  · refine Ev.bind (Both_good hF hG) (Ev.bind (Then_good hF hG) (Ev.bind (same_ev _ _ hl.2) ?_))
    simp only [decide_true, if_true]
    refine Ev.bind (same_ev _ _ hm.2) ?_
    simp only [decide_true, Bool.not_true]
    exact tail _ _ _ _ (refBoth_good hF hG) (refThen_good hF hG) (good_len (good_zip hF hG)) (good_len (good_map hF hG))
end Go.Proofs.YtkfpgniicfanoaaDoor.Pure
