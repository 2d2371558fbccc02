/- PureE, for the statement CostBack: what it needs, no more. -/
import Derived.Test.YtgjeoioneoncnaaDoorZCostBackPureD
namespace Go.Proofs.YtgjeoioneoncnaaDoor.P
end Go.Proofs.YtgjeoioneoncnaaDoor.P
namespace Go.Proofs.YtgjeoioneoncnaaDoor.Plain
end Go.Proofs.YtgjeoioneoncnaaDoor.Plain
namespace Go.Proofs.YtgjeoioneoncnaaDoor.Pure
open Go.RowKit Go.Proofs.YtgjeoioneoncnaaDoor.P Go.Proofs.YtgjeoioneoncnaaDoor.Plain Go.Proofs.YtgjeoioneoncnaaDoorW.PrintWords Go.Proofs.YtgjeoioneoncnaaDoorW.PrintLast Go.Proofs.YtgjeoioneoncnaaDoorW.PrintMore
set_option linter.unusedVariables false
set_option linter.unusedSimpArgs false
theorem begV_dig (a : Int) (L : Ls) (x : UInt8) (h : L.head? = some x) (hx : x.toNat ≤ 57) : begV a L = decide (numV a L ≥ 0) := by
  have hne : ¬ L = none4.take L.length := by
    intro e
    have hp : 1 ≤ L.length := by
      match L, h with
      | y :: r, _ => simp
    have := none_head L.length hp
    rw [← e, h] at this
    obtain rfl : x = 110 := Option.some.inj this
    exact absurd hx (by decide)
  unfold begV
  rw [decide_eq_false hne, Bool.and_false, Bool.false_or]
theorem begV_n (a : Int) (L : Ls) (h : L.head? = some 110) : begV a L = (decide (L.length ≤ 4) && decide (L = none4.take L.length)) := by
  unfold begV
  rw [none_not a L h, show decide ((-1 : Int) ≥ 0) = false by decide, Bool.or_false]
theorem numV_one (a : Int) (c : UInt8) : numV a [c] = if (c.toNat : Int) < 48 then -1 else if (c.toNat : Int) > 57 then -1 else if (c.toNat : Int) - 48 > a then -1 else (c.toNat : Int) - 48 := by
  unfold numV
  rw [if_neg (by simp), if_neg (by simp), if_neg (by simp)]
  simp only [dig]
  by_cases h1 : (c.toNat : Int) < 48
  · simp only [if_pos h1]
  · by_cases h2 : (c.toNat : Int) > 57
    · simp only [if_neg h1, if_pos h2]
    · simp only [if_neg h1, if_neg h2, Int.zero_mul, Int.zero_add]
theorem numV_more (a : Int) (T : Ls) (c : UInt8) (n : Int) (hT : T ≠ []) (hd : dig T 0 = some n) : numV a (T ++ [c]) = if T.length + 1 > 7 then -1 else if T.head? = some 48 then -1 else if (c.toNat : Int) < 48 then -1 else if (c.toNat : Int) > 57 then -1 else if n * 10 + ((c.toNat : Int) - 48) > a then -1 else n * 10 + ((c.toNat : Int) - 48) := by
  have hp := List.length_pos_iff.mpr hT
  have hh : (T ++ [c]).head? = T.head? := by
    match T, hT with
    | x :: r, _ => rfl
  unfold numV
  rw [if_neg (by simp), hh, List.length_append, List.length_singleton, dig_snoc, hd]
  by_cases h7 : T.length + 1 > 7
  · rw [if_pos h7, if_pos h7]
  · rw [if_neg h7, if_neg h7]
    by_cases h8 : T.head? = some 48
    · rw [if_pos ⟨h8, by omega⟩, if_pos h8]
    · rw [if_neg (fun hh => h8 hh.1), if_neg h8]
      simp only [Option.bind_some]
      by_cases h1 : (c.toNat : Int) < 48
      · simp only [if_pos h1]
      · by_cases h2 : (c.toNat : Int) > 57
        · simp only [if_neg h1, if_pos h2]
        · simp only [if_neg h1, if_neg h2]
theorem nn_eq (pos : Nat) (h : pos < 4) (c : UInt8) : (c.toNat : Int) = cost_Read.nn pos ↔ none4.take (pos + 1) = none4.take pos ++ [c] := by
  have key : ∀ v : UInt8, ((c.toNat : Int) = (v.toNat : Int) ↔ v = c) := fun v => ⟨fun e => UInt8.toNat_inj.1 (by omega), fun e => by rw [e]⟩
  obtain rfl | rfl | rfl | rfl : pos = 0 ∨ pos = 1 ∨ pos = 2 ∨ pos = 3 := by omega
  · have := key 110; simpa [none4, cost_Read.nn] using this
  · have := key 111; simpa [none4, cost_Read.nn] using this
  · have := key 110; simpa [none4, cost_Read.nn] using this
  · have := key 101; simpa [none4, cost_Read.nn] using this
/-- How the letter machine goes on. -/
def go1 (a : Int) (pos : Nat) (st n : Int) (c : UInt8) : Option (Int × Int) :=
  if st = 0 ∧ (c.toNat : Int) = 110 then some (1, n) else if st = 1 ∧ pos < 4 ∧ (c.toNat : Int) = cost_Read.nn pos then some (1, n)
  else if 48 ≤ (c.toNat : Int) ∧ (c.toNat : Int) ≤ 57 ∧ (st = 0 ∨ st = 2 ∧ 0 < n) ∧ 10 * n + ((c.toNat : Int) - 48) ≤ a then some (2, 10 * n + ((c.toNat : Int) - 48)) else none
theorem take_snoc (L : Ls) (pos : Nat) (c : UInt8) (h : L.drop pos = c :: L.drop (pos + 1)) : L.take (pos + 1) = L.take pos ++ [c] ∧ pos < L.length := by
  have hp : pos < L.length := by
    rcases Nat.lt_or_ge pos L.length with h1 | h1
    · exact h1
    · rw [List.drop_eq_nil_of_le h1] at h; cases h
  refine ⟨?_, hp⟩
  rw [List.take_succ_eq_append_getElem hp]
  rw [List.drop_eq_getElem_cons hp] at h
  rw [(List.cons.inj h).1]
theorem step_rel (a : Int) (ha : 0 ≤ a ∧ a ≤ 1048576) (L : Ls) (pos : Nat) (st n : Int) (c : UInt8) (h : Rel a L pos st n) (hc : L.drop pos = c :: L.drop (pos + 1)) :
    match go1 a pos st n c with
    | some (st', n') => Rel a L (pos + 1) st' n' ∧ begV a (L.take (pos + 1)) = true
    | none => begV a (L.take (pos + 1)) = false := by
  obtain ⟨ht, hp⟩ := take_snoc L pos c hc
  rcases h with ⟨rfl, rfl, rfl⟩ | ⟨rfl, h1, h4, rfl, hn⟩ | ⟨rfl, h1, hd, h0, hna, hz, hnz, x, hx, hx1, hx2⟩
  · have hL : L.head? = some c := by rw [List.drop_zero] at hc; rw [hc]; rfl
    rw [List.take_zero, List.nil_append] at ht
    unfold go1
    by_cases q1 : (c.toNat : Int) = 110
    · have qc : c = 110 := UInt8.toNat_inj.1 (by show c.toNat = 110; omega)
      rw [if_pos ⟨rfl, q1⟩]
      refine ⟨.inr (.inl ⟨rfl, by omega, by omega, rfl, by rw [ht, qc]; rfl⟩), ?_⟩
      rw [ht, qc, begV_n a _ rfl]
      decide
    · rw [if_neg (fun hh => q1 hh.2), if_neg (fun hh => by cases hh.1)]
      by_cases q3 : 48 ≤ (c.toNat : Int) ∧ (c.toNat : Int) ≤ 57 ∧ ((0 : Int) = 0 ∨ (0 : Int) = 2 ∧ (0 : Int) < 0) ∧ 10 * 0 + ((c.toNat : Int) - 48) ≤ a
      · rw [if_pos q3]
        obtain ⟨p1, p2, _, p3⟩ := q3
        refine ⟨.inr (.inr ⟨rfl, by omega, ?_, by omega, p3, fun e => ⟨rfl, ?_⟩, fun e => ?_, c, hL, by omega, by omega⟩), ?_⟩
        · rw [ht]
          simp only [dig, if_neg (show ¬ (c.toNat : Int) < 48 by omega), if_neg (show ¬ (c.toNat : Int) > 57 by omega)]
          congr 1
        · rw [hL] at e
          obtain rfl : c = 48 := Option.some.inj e
          decide
        · rw [hL] at e
          have : (c.toNat : Int) ≠ 48 := fun e2 => e (by rw [UInt8.toNat_inj.1 (show c.toNat = (48 : UInt8).toNat by show c.toNat = 48; omega)])
          show W 0 ≤ _
          simp only [W]; omega
        · rw [ht, begV_dig a [c] c rfl (by omega), numV_one, if_neg (by omega), if_neg (by omega), if_neg (by omega)]
          exact decide_eq_true (by omega)
      · rw [if_neg q3]
        show begV a (L.take 1) = false
        rw [ht]
        by_cases p1 : (c.toNat : Int) ≤ 57
        · rw [begV_dig a [c] c rfl (by omega), numV_one]
          refine decide_eq_false ?_
          by_cases p2 : (c.toNat : Int) < 48
          · rw [if_pos p2]; decide
          · rw [if_neg p2, if_neg (by omega), if_pos]
            · decide
            · have : ¬ (10 * 0 + ((c.toNat : Int) - 48) ≤ a) := fun p3 => q3 ⟨by omega, p1, .inl rfl, p3⟩
              omega
        · unfold begV
          rw [numV_one]
          have : ¬ [c] = none4.take [c].length := by
            intro e
            have : c = 110 := by simpa [none4] using e
            exact q1 (by rw [this]; rfl)
          rw [decide_eq_false this, Bool.and_false, Bool.false_or, if_neg (by omega), if_pos (by omega)]
          decide
  · have hL : L.head? = some 110 := by
      rw [← take_head L pos h1, hn]; exact none_head pos h1
    have hL2 : (L.take (pos + 1)).head? = some 110 := by rw [take_head L (pos + 1) (by omega)]; exact hL
    have hlen : (L.take (pos + 1)).length = pos + 1 := by rw [List.length_take]; omega
    unfold go1
    rw [if_neg (fun hh => by cases hh.1)]
    by_cases q : (1 : Int) = 1 ∧ pos < 4 ∧ (c.toNat : Int) = cost_Read.nn pos
    · rw [if_pos q]
      have e := (nn_eq pos q.2.1 c).1 q.2.2
      have e2 : L.take (pos + 1) = none4.take (pos + 1) := by rw [ht, hn, e]
      refine ⟨.inr (.inl ⟨rfl, by omega, by omega, rfl, e2⟩), ?_⟩
      rw [begV_n a _ hL2, hlen, decide_eq_true (by omega), decide_eq_true e2]
      rfl
    · rw [if_neg q, if_neg (fun hh => by rcases hh.2.2.1 with h5 | ⟨h5, _⟩ <;> cases h5)]
      show begV a (L.take (pos + 1)) = false
      rw [begV_n a _ hL2, hlen]
      by_cases p : pos < 4
      · rw [decide_eq_false (p := L.take (pos + 1) = _), Bool.and_false]
        intro e
        rw [ht, hn] at e
        exact q ⟨rfl, p, (nn_eq pos p c).2 e.symm⟩
      · rw [decide_eq_false (by omega), Bool.false_and]
  · have hT : L.take pos ≠ [] := by
      intro e
      have := congrArg List.length e
      rw [List.length_take, List.length_nil] at this
      omega
    have hlen : (L.take pos).length = pos := by rw [List.length_take]; omega
    have hL2 : (L.take (pos + 1)).head? = some x := by rw [take_head L (pos + 1) (by omega)]; exact hx
    have hh : (L.take pos).head? = L.head? := take_head L pos h1
    have hb := begV_dig a (L.take (pos + 1)) x hL2 hx2
    rw [ht, numV_more a (L.take pos) c n hT hd, hlen, hh] at hb
    unfold go1
    rw [if_neg (fun hh => by cases hh.1), if_neg (fun hh => by cases hh.1)]
    by_cases q : 48 ≤ (c.toNat : Int) ∧ (c.toNat : Int) ≤ 57 ∧ ((2 : Int) = 0 ∨ (2 : Int) = 2 ∧ 0 < n) ∧ 10 * n + ((c.toNat : Int) - 48) ≤ a
    · rw [if_pos q]
      obtain ⟨p1, p2, p3, p4⟩ := q
      have p3 : 0 < n := by rcases p3 with e | ⟨_, e⟩; cases e; exact e
      have nz : ¬ L.head? = some 48 := fun e => by have := (hz e).2; omega
      have hw := hnz nz
      have hpos : pos + 1 ≤ 7 := by
        rcases Nat.lt_or_ge pos 7 with h7 | h7
        · omega
        · exfalso
          have e6 : W 6 ≤ W (pos - 1) := by
            by_cases e : pos = 7
            · subst e; exact Int.le_refl _
            · have := W_big (pos - 1) (by omega)
              have := W_le 6 (by omega)
              have e7 : W 6 = 1000000 := by decide
              omega
          have e7 : W 6 = 1000000 := by decide
          omega
      refine ⟨.inr (.inr ⟨rfl, by omega, ?_, by omega, p4, fun e => absurd e nz, fun _ => ?_, x, hx, hx1, hx2⟩), ?_⟩
      · rw [ht, dig_snoc, hd]
        simp only [Option.bind_some, if_neg (show ¬ (c.toNat : Int) < 48 by omega), if_neg (show ¬ (c.toNat : Int) > 57 by omega)]
        congr 1; omega
      · obtain ⟨m, rfl⟩ : ∃ m, pos = m + 1 := ⟨pos - 1, by omega⟩
        show W (m + 1) ≤ _
        have : W m ≤ n := hw
        simp only [W]; omega
      · rw [ht, hb]
        rw [if_neg (by omega), if_neg nz, if_neg (by omega), if_neg (by omega), if_neg (by omega)]
        exact decide_eq_true (by omega)
    · rw [if_neg q]
      show begV a (L.take (pos + 1)) = false
      rw [ht, hb]
      refine decide_eq_false ?_
      by_cases g7 : pos + 1 > 7
      · rw [if_pos g7]; decide
      rw [if_neg g7]
      by_cases g8 : L.head? = some 48
      · rw [if_pos g8]; decide
      rw [if_neg g8]
      by_cases p1 : (c.toNat : Int) < 48
      · rw [if_pos p1]; decide
      rw [if_neg p1]
      by_cases p2 : (c.toNat : Int) > 57
      · rw [if_pos p2]; decide
      rw [if_neg p2, if_pos]
      · decide
      · have hw := hnz g8
        have := W_pos (pos - 1)
        have : ¬ (10 * n + ((c.toNat : Int) - 48) ≤ a) := fun p3 => q ⟨by omega, by omega, .inr ⟨rfl, by omega⟩, p3⟩
        omega
theorem go_step (a : Int) (s : ByteArray) (b pos : Nat) (st n : Int) (h : pos < s.size) (c : UInt8) (hc : (s[pos]'h) = c) : cost_Read.go a s (b + 1) pos st n = match go1 a pos st n c with
    | some (st', n') => cost_Read.go a s b (pos + 1) st' n'
    | none => (0, (pos : Int), 22) := by
  subst hc
  simp only [cost_Read.go, dif_pos h, go1]
  by_cases q1 : st = 0 ∧ ((s[pos]'h).toNat : Int) = 110
  · simp only [if_pos q1]
  · simp only [if_neg q1]
    by_cases q2 : st = 1 ∧ pos < 4 ∧ ((s[pos]'h).toNat : Int) = cost_Read.nn pos
    · simp only [if_pos q2]
    · simp only [if_neg q2]
      by_cases q3 : 48 ≤ ((s[pos]'h).toNat : Int) ∧ ((s[pos]'h).toNat : Int) ≤ 57 ∧ (st = 0 ∨ st = 2 ∧ 0 < n) ∧ 10 * n + (((s[pos]'h).toNat : Int) - 48) ≤ a
      · simp only [if_pos q3]
      · simp only [if_neg q3]
end Go.Proofs.YtgjeoioneoncnaaDoor.Pure
