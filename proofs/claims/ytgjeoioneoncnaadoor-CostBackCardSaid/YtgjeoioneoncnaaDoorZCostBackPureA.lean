/- PureA, for the statement CostBack: what it needs, no more. -/
import Derived.Test.YtgjeoioneoncnaaDoorZCostBackPx0
import Derived.Test.YtgjeoioneoncnaaDoorZCostBackPx1
import Derived.Test.YtgjeoioneoncnaaDoorZCostBackPx2
import Derived.Test.YtgjeoioneoncnaaDoorZCostBackPx6
import Derived.Test.YtgjeoioneoncnaaDoorZCostBackPx8
import Derived.Test.YtgjeoioneoncnaaDoorZCostBackPlain
namespace Go.Proofs.YtgjeoioneoncnaaDoor.P
end Go.Proofs.YtgjeoioneoncnaaDoor.P
namespace Go.Proofs.YtgjeoioneoncnaaDoor.Plain
end Go.Proofs.YtgjeoioneoncnaaDoor.Plain
namespace Go.Proofs.YtgjeoioneoncnaaDoor.Pure
open Go.RowKit Go.Proofs.YtgjeoioneoncnaaDoor.P Go.Proofs.YtgjeoioneoncnaaDoor.Plain Go.Proofs.YtgjeoioneoncnaaDoorW.PrintWords Go.Proofs.YtgjeoioneoncnaaDoorW.PrintLast Go.Proofs.YtgjeoioneoncnaaDoorW.PrintMore
set_option linter.unusedVariables false
set_option linter.unusedSimpArgs false
def badc (a x : Int) : Bool := decide (x < -1) || decide (x > a)
def chk (a : Int) (l : List Int) : Int := if a < 0 ∨ a > 1048576 then 20 else if l.any (badc a) then 21 else 0

theorem checks_l0 (a : Int) (l : List Int) (hl : l.length < 9223372036854775807) : ∀ (d i k : Nat), i + d = l.length → d < k →
    cost_checks.l0 k a l (l.length : Int) (i : Int) = some (if (l.drop i).any (badc a) then 21 else 0)
  | 0, i, k, h, hk => by
    obtain ⟨k, rfl⟩ : ∃ m, k = m + 1 := ⟨k - 1, by omega⟩
    simp only [cost_checks.l0]
    rw [if_neg (by omega), List.drop_eq_nil_of_le (by omega)]; rfl
  | d + 1, i, k, h, hk => by
    obtain ⟨k, rfl⟩ : ∃ m, k = m + 1 := ⟨k - 1, by omega⟩
    have hi : i < l.length := by omega
    simp only [cost_checks.l0]
    rw [if_pos (by omega), if_pos (by omega), if_pos (by omega), rd_cons l i hi, wrap_succ i (by omega), checks_l0 a l hl d (i + 1) k (by omega) (by omega)]
    simp only [List.any_cons, badc]
    by_cases h1 : rd l i < -1
    · simp [h1]
    · by_cases h2 : rd l i > a
      · simp [h1, h2]
      · simp [h1, h2]
theorem checks_ev (a : Int) (l : List Int) (hl : l.length < 9223372036854775807) : Ev (fun k => cost_checks.f k a l) (chk a l) := by
  refine Ev.of (cost_checks.mono a l) (k := l.length + 2) ?_
  simp only [cost_checks.f, chk]
  by_cases h1 : a < 0
  · rw [if_pos h1, if_pos (.inl h1)]; simp only [cost_checks.j0, if_true]
  · rw [if_neg h1]
    by_cases h2 : a > 1048576
    · rw [if_pos (.inr h2)]; simp only [cost_checks.j0, h2, decide_true, if_true]
    · rw [if_neg (by omega)]
      simp only [cost_checks.j0, h2, decide_false, Bool.false_eq_true, if_false]
      have := checks_l0 a l hl l.length 0 (l.length + 1) (by omega) (by omega)
      simpa using this

def lst (acc x : Int) : Int := if acc = -1 then x else if x = -1 then acc else if x < acc then x else acc
theorem least_l0 (l : List Int) (hl : l.length < 9223372036854775807) : ∀ (d i k : Nat) (c : Int), i + d = l.length → d < k →
    cost_Least.l0 k c l (l.length : Int) (i : Int) = some ((l.drop i).foldl lst c, 0)
  | 0, i, k, c, h, hk => by
    obtain ⟨k, rfl⟩ : ∃ m, k = m + 1 := ⟨k - 1, by omega⟩
    simp only [cost_Least.l0]
    rw [if_neg (by omega), List.drop_eq_nil_of_le (by omega)]; rfl
  | d + 1, i, k, c, h, hk => by
    obtain ⟨k, rfl⟩ : ∃ m, k = m + 1 := ⟨k - 1, by omega⟩
    have hi : i < l.length := by omega
    simp only [cost_Least.l0]
    rw [if_pos (by omega), if_pos (by omega), if_pos (by omega), rd_cons l i hi, wrap_succ i (by omega)]
    simp only [least_l0 l hl d (i + 1) k _ (by omega) (by omega), List.foldl_cons]
    have e : lst c (rd l i) = if c = -1 then rd l i else if rd l i = -1 then c else if rd l i < c then rd l i else c := rfl
    rw [e]
    repeat' split
    all_goals rfl
def leastV (a : Int) (l : List Int) : Int × Int := if chk a l = 0 then (l.foldl lst (-1), 0) else (0, chk a l)
theorem least_ev (a : Int) (l : List Int) (hl : l.length < 9223372036854775807) : Ev (fun k => cost_Least.f k a l) (leastV a l) := by
  refine Ev.bind (checks_ev a l hl) ?_
  unfold leastV
  by_cases h : chk a l = 0
  · simp only [h, if_true]
    refine ⟨l.length + 1, fun k hk => ?_⟩
    have := least_l0 l hl l.length 0 k (-1) (by omega) (by omega)
    simpa using this
  · simp only [if_neg h]
    exact Ev.now _

def sm (a acc : Int) : List Int → Int
  | [] => acc
  | x :: r => if x = -1 then -1 else sm a (if a < acc + x then a else acc + x) r
theorem chk_zero {a : Int} {l : List Int} : chk a l = 0 ↔ (0 ≤ a ∧ a ≤ 1048576) ∧ ∀ x ∈ l, -1 ≤ x ∧ x ≤ a := by
  unfold chk
  by_cases h : a < 0 ∨ a > 1048576
  · rw [if_pos h]; constructor
    · intro h; cases h
    · intro ⟨h1, _⟩; omega
  · rw [if_neg h]
    by_cases h2 : l.any (badc a) = true
    · rw [if_pos h2]
      obtain ⟨x, hx, hb⟩ := List.any_eq_true.1 h2
      constructor
      · intro h; cases h
      · intro ⟨_, h3⟩
        have := h3 x hx
        simp [badc] at hb
        omega
    · rw [if_neg h2]
      refine ⟨fun _ => ⟨by omega, fun x hx => ?_⟩, fun _ => rfl⟩
      have hb : badc a x = false := by
        cases hb : badc a x
        · rfl
        · exact absurd (List.any_eq_true.2 ⟨x, hx, hb⟩) h2
      simp [badc] at hb
      omega
theorem sum_l0 (a : Int) (l : List Int) (ha : 0 ≤ a ∧ a ≤ 1048576) (hb : ∀ x ∈ l, -1 ≤ x ∧ x ≤ a) (hl : l.length < 9223372036854775807) : ∀ (d i k : Nat) (c : Int), 0 ≤ c → c ≤ a → i + d = l.length → d < k →
    cost_Sum.l0 k a c l (l.length : Int) (i : Int) = some (sm a c (l.drop i), 0)
  | 0, i, k, c, _, _, h, hk => by
    obtain ⟨k, rfl⟩ : ∃ m, k = m + 1 := ⟨k - 1, by omega⟩
    simp only [cost_Sum.l0]
    rw [if_neg (by omega), List.drop_eq_nil_of_le (by omega)]; rfl
  | d + 1, i, k, c, h0, h1, h, hk => by
    obtain ⟨k, rfl⟩ : ∃ m, k = m + 1 := ⟨k - 1, by omega⟩
    have hi : i < l.length := by omega
    have hm : rd l (i : Int) ∈ l := by
      have : rd l (i : Int) ∈ l.drop i := by rw [rd_cons l i hi]; exact List.mem_cons_self
      exact List.mem_of_mem_drop this
    have hx := hb _ hm
    simp only [cost_Sum.l0]
    rw [if_pos (by omega), if_pos (by omega), if_pos (by omega), rd_cons l i hi, wrap_succ i (by omega)]
    simp only [sm]
    by_cases e : rd l i = -1
    · rw [if_pos e, if_pos e]
    · rw [if_neg e, if_neg e]
      have hw : wrap64 (c + rd l i) = c + rd l i := by unfold wrap64; omega
      simp only [mn, hw]
      refine sum_l0 a l ha hb hl d (i + 1) k _ ?_ ?_ (by omega) (by omega)
      · split <;> omega
      · split <;> omega
def sumV (a : Int) (l : List Int) : Int × Int := if chk a l = 0 then (sm a 0 l, 0) else (0, chk a l)
theorem sum_ev (a : Int) (l : List Int) (hl : l.length < 9223372036854775807) : Ev (fun k => cost_Sum.f k a l) (sumV a l) := by
  refine Ev.bind (checks_ev a l hl) ?_
  unfold sumV
  by_cases h : chk a l = 0
  · simp only [h, if_true]
    refine ⟨l.length + 1, fun k hk => ?_⟩
    have hc := chk_zero.1 h
    have := sum_l0 a l hc.1 hc.2 hl l.length 0 k 0 (by omega) (by omega) (by omega) (by omega)
    simpa using this
  · simp only [if_neg h]
    exact Ev.now _

theorem text_ev : Ev (fun k => cost_Text.f k 10 (-1)) ((⟨#[110, 111, 110, 101]⟩ : ByteArray), 0) := by
  refine Ev.bind (checks_ev 10 [-1] (by simp)) ?_
  have h : chk 10 [-1] = 0 := by decide
  rw [h]
  exact Ev.now _
theorem awake_ev : Ev (fun k => stackyardlaw02_awake.f k) true := by
  refine Ev.bind (least_ev 10 [3, -1] (by simp)) ?_
  refine Ev.bind (sum_ev 10 [7, 8] (by simp)) ?_
  refine Ev.bind (sum_ev 10 [7, -1] (by simp)) ?_
  refine Ev.bind text_ev ?_
  exact ⟨0, fun k _ => by simp only [toList_eq]; rfl⟩
end Go.Proofs.YtgjeoioneoncnaaDoor.Pure
