/- PureD, for the statement CostTexts: what it needs, no more. -/
import Derived.Test.YtgjeoioneoncnaaDoorZCostTextsPureA
import Derived.Lib.ItoaLen
namespace Go.Proofs.YtgjeoioneoncnaaDoor.P
end Go.Proofs.YtgjeoioneoncnaaDoor.P
namespace Go.Proofs.YtgjeoioneoncnaaDoor.Plain
end Go.Proofs.YtgjeoioneoncnaaDoor.Plain
namespace Go.Proofs.YtgjeoioneoncnaaDoor.Pure
open Go.RowKit Go.Proofs.YtgjeoioneoncnaaDoor.P Go.Proofs.YtgjeoioneoncnaaDoor.Plain Go.Proofs.YtgjeoioneoncnaaDoorW.PrintWords Go.Proofs.YtgjeoioneoncnaaDoorW.PrintLast Go.Proofs.YtgjeoioneoncnaaDoorW.PrintMore
set_option linter.unusedVariables false
set_option linter.unusedSimpArgs false
abbrev Ls := List UInt8
theorem bt_cons (s : ByteArray) (i : Nat) (h : i < s.size) : ∃ c : UInt8, s.data.toList.drop i = c :: s.data.toList.drop (i + 1) ∧ bt s (i : Int) = (c.toNat : Int) ∧ (s[i]'h) = c := by
  have hs : i < s.data.toList.length := by rw [Array.length_toList]; exact h
  refine ⟨s[i]'h, ?_, ?_, rfl⟩
  · rw [List.drop_eq_getElem_cons hs]
    congr 1
  · unfold bt
    rw [dif_pos (by rw [Int.toNat_natCast]; exact h)]
    simp
def dig : Ls → Int → Option Int
  | [], n => some n
  | c :: r, n => if (c.toNat : Int) < 48 then none else if (c.toNat : Int) > 57 then none else dig r (n * 10 + ((c.toNat : Int) - 48))
theorem dig_snoc (c : UInt8) : ∀ (T : Ls) (n : Int), dig (T ++ [c]) n = (dig T n).bind fun m => if (c.toNat : Int) < 48 then none else if (c.toNat : Int) > 57 then none else some (m * 10 + ((c.toNat : Int) - 48))
  | [], n => by simp [dig]
  | x :: T, n => by
    simp only [List.cons_append, dig]
    by_cases h1 : (x.toNat : Int) < 48
    · rw [if_pos h1, if_pos h1]; rfl
    · by_cases h2 : (x.toNat : Int) > 57
      · rw [if_neg h1, if_pos h2, if_neg h1, if_pos h2]; rfl
      · rw [if_neg h1, if_neg h2, if_neg h1, if_neg h2]
        exact dig_snoc c T _
def numV (a : Int) (L : Ls) : Int := if L = [] then -1 else if L.length > 7 then -1 else if L.head? = some 48 ∧ L.length > 1 then -1 else match dig L 0 with
  | none => -1
  | some n => if n > a then -1 else n
def W : Nat → Int
  | 0 => 1
  | i + 1 => 10 * W i
theorem W_le : ∀ i, i ≤ 7 → W i ≤ 10000000 := by
  have h : ∀ i : Fin 8, W i.val ≤ 10000000 := by decide
  exact fun i hi => h ⟨i, by omega⟩
theorem W_pos : ∀ i, 1 ≤ W i
  | 0 => by decide
  | i + 1 => by have := W_pos i; simp only [W]; omega
theorem W_big : ∀ i, 7 ≤ i → 10000000 ≤ W i
  | 0, h => by omega
  | i + 1, h => by
    by_cases e : i + 1 = 7
    · rw [e]; decide
    · have := W_big i (by omega)
      simp only [W]; omega
theorem number_l0 (a : Int) (s : ByteArray) (h7 : s.size ≤ 7) : ∀ (r i : Nat) (n : Int), i + r = s.size → 0 ≤ n → n < W i →
    Ev (fun k => stackyardref02_number.l0 k a s n (i : Int)) (match dig (s.data.toList.drop i) n with | none => -1 | some m => if m > a then -1 else m)
  | 0, i, n, h, h0, hn => by
    refine Ev.step (fun k => stackyardref02_number.l0.eq_2 ..) ?_
    have hs : s.data.toList.length = s.size := Array.length_toList
    rw [List.drop_eq_nil_of_le (by omega)]
    have e : ¬ (i : Int) < (s.size : Int) := by omega
    simp only [if_neg e, dig]
    by_cases q : n > a
    · simp only [if_pos q]; exact Ev.now _
    · simp only [if_neg q]; exact Ev.now _
  | r + 1, i, n, h, h0, hn => by
    refine Ev.step (fun k => stackyardref02_number.l0.eq_2 ..) ?_
    obtain ⟨c, hc, hb, _⟩ := bt_cons s i (by omega)
    have e : (i : Int) < (s.size : Int) := by omega
    have e0 : (0 : Int) ≤ (i : Int) := by omega
    rw [hc]
    simp only [if_pos e, if_pos e0, hb, dig, wrap_succ i (by omega)]
    by_cases q1 : (c.toNat : Int) < 48
    · simp only [if_pos q1]; exact Ev.now _
    · by_cases q2 : (c.toNat : Int) > 57
      · simp only [if_neg q1, if_pos q2]; exact Ev.now _
      · simp only [if_neg q1, if_neg q2]
        have hW := W_le i (by omega)
        have e1 : wrap64 ((wrap64 (n * 10)) + (((c.toNat : Int) - 48) % 256)) = n * 10 + ((c.toNat : Int) - 48) := by unfold wrap64; omega
        rw [e1]
        exact number_l0 a s h7 r (i + 1) _ (by omega) (by omega) (by simp only [W]; omega)
theorem number_ev (a : Int) (s : ByteArray) : Ev (fun k => stackyardref02_number.f k a s) (numV a s.data.toList) := by
  have hs : s.data.toList.length = s.size := Array.length_toList
  unfold stackyardref02_number.f numV
  by_cases h0 : s.data.toList = []
  · have : s.toList = ([] : List UInt8) := by rw [toList_eq]; exact h0
    simp only [if_pos this, if_pos h0]
    refine Ev.step (fun k => stackyardref02_number.j0.eq_2 ..) ?_
    simp only [if_true]; exact Ev.now _
  · have h1 : ¬ s.toList = ([] : List UInt8) := by rw [toList_eq]; exact h0
    have hp := List.length_pos_iff.mpr h0
    simp only [if_neg h1, if_neg h0, hs]
    by_cases h7 : s.size > 7
    · have e : (s.size : Int) > 7 := by omega
      simp only [if_pos e, if_pos h7]
      refine Ev.step (fun k => stackyardref02_number.j0.eq_2 ..) ?_
      simp only [if_true]; exact Ev.now _
    · have e : ¬ (s.size : Int) > 7 := by omega
      have e2 : 0 < (s.size : Int) := by omega
      obtain ⟨c, hc, hb, _⟩ := bt_cons s 0 (by omega)
      rw [List.drop_zero] at hc
      have hb' : bt s 0 = (c.toNat : Int) := hb
      simp only [if_neg e, if_neg h7, if_pos e2, hb']
      have main : Ev (fun k => stackyardref02_number.j0 k a s false) (match dig s.data.toList 0 with | none => -1 | some m => if m > a then -1 else m) := by
        refine Ev.step (fun k => stackyardref02_number.j0.eq_2 ..) ?_
        simp only [Bool.false_eq_true, if_false]
        have := number_l0 a s (by omega) s.size 0 0 (by omega) (by omega) (by decide)
        rw [List.drop_zero] at this
        exact this
      have hh : s.data.toList.head? = some c := by rw [hc]; rfl
      by_cases q : (c.toNat : Int) = 48
      · have qc : c = 48 := UInt8.toNat_inj.1 (by show c.toNat = 48; omega)
        simp only [if_pos q]
        by_cases q2 : s.size > 1
        · have q3 : decide ((s.size : Int) > 1) = true := decide_eq_true (by omega)
          rw [q3, if_pos ⟨by rw [hh, qc], q2⟩]
          refine Ev.step (fun k => stackyardref02_number.j0.eq_2 ..) ?_
          simp only [if_true]; exact Ev.now _
        · have q3 : decide ((s.size : Int) > 1) = false := decide_eq_false (by omega)
          rw [q3, if_neg (fun hh => q2 hh.2)]
          exact main
      · have qc : ¬ s.data.toList.head? = some 48 := by
          rw [hh]; intro e3; exact q (by rw [Option.some.inj e3]; rfl)
        simp only [if_neg q]
        rw [if_neg (fun hh => qc hh.1)]
        exact main
def none4 : Ls := [110, 111, 110, 101]
def begV (a : Int) (L : Ls) : Bool := (decide (L.length ≤ 4) && decide (L = none4.take L.length)) || decide (numV a L ≥ 0)
theorem begins_ev (a : Int) (s : ByteArray) : Ev (fun k => stackyardref02_begins.f k a s) (begV a s.data.toList) := by
  have hs : s.data.toList.length = s.size := Array.length_toList
  unfold stackyardref02_begins.f begV
  rw [hs]
  have hx : ((⟨#[110, 111, 110, 101]⟩ : ByteArray).extract 0 s.size).toList = none4.take s.size := by
    rw [toList_eq]; simp [ByteArray.data_extract, none4]
  have tail : Ev (fun k => (stackyardref02_number.f k a s).bind fun t => some (decide (t ≥ 0))) (decide (numV a s.data.toList ≥ 0)) := Ev.bind (number_ev a s) (Ev.now _)
  by_cases h4 : s.size ≤ 4
  · have e : (s.size : Int) ≤ 4 := by omega
    have e0 : 0 ≤ (s.size : Int) := by omega
    simp only [if_pos e, if_pos e0, hx, toList_eq]
    by_cases q : s.data.toList = none4.take s.size
    · simp only [if_pos q]
      rw [decide_eq_true h4, decide_eq_true q]
      exact Ev.now _
    · simp only [if_neg q]
      rw [decide_eq_false q, Bool.and_false, Bool.false_or]
      exact tail
  · have e : ¬ (s.size : Int) ≤ 4 := by omega
    simp only [if_neg e]
    rw [decide_eq_false h4, Bool.false_and, Bool.false_or]
    exact tail
def Rel (a : Int) (L : Ls) (pos : Nat) (st n : Int) : Prop :=
  (pos = 0 ∧ st = 0 ∧ n = 0) ∨ (st = 1 ∧ 1 ≤ pos ∧ pos ≤ 4 ∧ n = 0 ∧ L.take pos = none4.take pos) ∨
  (st = 2 ∧ 1 ≤ pos ∧ dig (L.take pos) 0 = some n ∧ 0 ≤ n ∧ n ≤ a ∧ (L.head? = some 48 → pos = 1 ∧ n = 0) ∧ (¬ L.head? = some 48 → W (pos - 1) ≤ n) ∧ ∃ x, L.head? = some x ∧ 48 ≤ x.toNat ∧ x.toNat ≤ 57)
theorem none_head : ∀ p, 1 ≤ p → (none4.take p).head? = some 110
  | p + 1, _ => rfl
theorem none_not (a : Int) (L : Ls) (h : L.head? = some 110) : numV a L = -1 := by
  match L, h with
  | x :: r, h =>
    obtain rfl : x = 110 := Option.some.inj h
    unfold numV
    simp [dig]
theorem take_head (L : Ls) (p : Nat) (h : 1 ≤ p) : (L.take p).head? = L.head? := by
  match L, p, h with
  | [], p + 1, _ => rfl
  | x :: r, p + 1, _ => rfl
end Go.Proofs.YtgjeoioneoncnaaDoor.Pure
