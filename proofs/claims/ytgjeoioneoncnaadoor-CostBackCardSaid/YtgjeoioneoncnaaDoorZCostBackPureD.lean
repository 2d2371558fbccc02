/- PureD, for the statement CostBack: what it needs, no more. -/
import Derived.Test.YtgjeoioneoncnaaDoorZCostBackPureA
import Derived.Lib.ItoaLen
namespace Go.Proofs.YtgjeoioneoncnaaDoor.P
end Go.Proofs.YtgjeoioneoncnaaDoor.P
namespace Go.Proofs.YtgjeoioneoncnaaDoor.Plain
end Go.Proofs.YtgjeoioneoncnaaDoor.Plain
namespace Go.Proofs.YtgjeoioneoncnaaDoor.Pure
open Go.RowKit Go.Proofs.YtgjeoioneoncnaaDoor.P Go.Proofs.YtgjeoioneoncnaaDoor.Plain Go.Proofs.YtgjeoioneoncnaaDoorW.PrintWords Go.Proofs.YtgjeoioneoncnaaDoorW.PrintLast Go.Proofs.YtgjeoioneoncnaaDoorW.PrintMore
set_option linter.unusedVariables false
set_option linter.unusedSimpArgs false
abbrev Ls := List UInt8
theorem bt_cons (s : ByteArray) (i : Nat) (h : i < s.size) : ∃ c : UInt8, s.data.toList.drop i = c :: s.data.toList.drop (i + 1) ∧ bt s (i : Int) = (c.toNat : Int) ∧ (s[i]'h) = c := by
  have hs : i < s.data.toList.length := by rw [Array.length_toList]; exact h
  refine ⟨s[i]'h, ?_, ?_, rfl⟩
  · rw [List.drop_eq_getElem_cons hs]
    congr 1
  · unfold bt
    rw [dif_pos (by rw [Int.toNat_natCast]; exact h)]
    simp
def dig : Ls → Int → Option Int
  | [], n => some n
  | c :: r, n => if (c.toNat : Int) < 48 then none else if (c.toNat : Int) > 57 then none else dig r (n * 10 + ((c.toNat : Int) - 48))
theorem dig_snoc (c : UInt8) : ∀ (T : Ls) (n : Int), dig (T ++ [c]) n = (dig T n).bind fun m => if (c.toNat : Int) < 48 then none else if (c.toNat : Int) > 57 then none else some (m * 10 + ((c.toNat : Int) - 48))
  | [], n => by simp [dig]
  | x :: T, n => by
    simp only [List.cons_append, dig]
    by_cases h1 : (x.toNat : Int) < 48
    · rw [if_pos h1, if_pos h1]; rfl
    · by_cases h2 : (x.toNat : Int) > 57
      · rw [if_neg h1, if_pos h2, if_neg h1, if_pos h2]; rfl
      · rw [if_neg h1, if_neg h2, if_neg h1, if_neg h2]
        exact dig_snoc c T _
def numV (a : Int) (L : Ls) : Int := if L = [] then -1 else if L.length > 7 then -1 else if L.head? = some 48 ∧ L.length > 1 then -1 else match dig L 0 with
  | none => -1
  | some n => if n > a then -1 else n
def W : Nat → Int
  | 0 => 1
  | i + 1 => 10 * W i
theorem W_le : ∀ i, i ≤ 7 → W i ≤ 10000000 := by
  have h : ∀ i : Fin 8, W i.val ≤ 10000000 := by decide
  exact fun i hi => h ⟨i, by omega⟩
theorem W_pos : ∀ i, 1 ≤ W i
  | 0 => by decide
  | i + 1 => by have := W_pos i; simp only [W]; omega
theorem W_big : ∀ i, 7 ≤ i → 10000000 ≤ W i
  | 0, h => by omega
  | i + 1, h => by
    by_cases e : i + 1 = 7
    · rw [e]; decide
    · have := W_big i (by omega)
      simp only [W]; omega
def none4 : Ls := [110, 111, 110, 101]
def begV (a : Int) (L : Ls) : Bool := (decide (L.length ≤ 4) && decide (L = none4.take L.length)) || decide (numV a L ≥ 0)
def Rel (a : Int) (L : Ls) (pos : Nat) (st n : Int) : Prop :=
  (pos = 0 ∧ st = 0 ∧ n = 0) ∨ (st = 1 ∧ 1 ≤ pos ∧ pos ≤ 4 ∧ n = 0 ∧ L.take pos = none4.take pos) ∨
  (st = 2 ∧ 1 ≤ pos ∧ dig (L.take pos) 0 = some n ∧ 0 ≤ n ∧ n ≤ a ∧ (L.head? = some 48 → pos = 1 ∧ n = 0) ∧ (¬ L.head? = some 48 → W (pos - 1) ≤ n) ∧ ∃ x, L.head? = some x ∧ 48 ≤ x.toNat ∧ x.toNat ≤ 57)
theorem none_head : ∀ p, 1 ≤ p → (none4.take p).head? = some 110
  | p + 1, _ => rfl
theorem none_not (a : Int) (L : Ls) (h : L.head? = some 110) : numV a L = -1 := by
  match L, h with
  | x :: r, h =>
    obtain rfl : x = 110 := Option.some.inj h
    unfold numV
    simp [dig]
theorem take_head (L : Ls) (p : Nat) (h : 1 ≤ p) : (L.take p).head? = L.head? := by
  match L, p, h with
  | [], p + 1, _ => rfl
  | x :: r, p + 1, _ => rfl
end Go.Proofs.YtgjeoioneoncnaaDoor.Pure
