/- XP, for the statement FramesReached: what it needs, no more. -/
set_option linter.unusedVariables false
namespace Go.D36
def dg (d : Nat) : UInt8 := if d < 10 then UInt8.ofNat (48 + d) else UInt8.ofNat (87 + d)
def ug (b : UInt8) : Nat := if b.toNat < 58 then b.toNat - 48 else b.toNat - 87
theorem dg_all : ∀ d : Fin 36, ug (dg d.1) = d.1 ∧ (dg d.1 != 32) = true ∧ dg d.1 ≠ 45 := by decide
theorem ug_dg {d : Nat} (h : d < 36) : ug (dg d) = d := (dg_all ⟨d, h⟩).1
theorem dg_no {d : Nat} (h : d < 36) : (dg d != 32) = true := (dg_all ⟨d, h⟩).2.1
theorem dg_pos {d : Nat} (h : d < 36) : dg d ≠ 45 := (dg_all ⟨d, h⟩).2.2
def d36 (u : Nat) : List UInt8 := if h : u < 36 then [dg u] else d36 (u / 36) ++ [dg (u % 36)]
termination_by u
decreasing_by omega
theorem d36_lt {u : Nat} (h : u < 36) : d36 u = [dg u] := by unfold d36; rw [dif_pos h]
theorem d36_ge {u : Nat} (h : 36 ≤ u) : d36 u = d36 (u / 36) ++ [dg (u % 36)] := by rw [d36, dif_neg (by omega)]
theorem d36_len : ∀ (n u : Nat), u < 36 ^ (n + 1) → (d36 u).length ≤ n + 1
  | 0, u, h => by rw [d36_lt (by omega)]; simp
  | n + 1, u, h => by
    by_cases h1 : u < 36
    · rw [d36_lt h1]; simp
    · rw [d36_ge (by omega), List.length_append]
      have := d36_len n (u / 36) (by rw [Nat.pow_succ] at h; omega)
      simp; omega
theorem d36_pos (u : Nat) : 0 < (d36 u).length := by
  by_cases h1 : u < 36
  · rw [d36_lt h1]; simp
  · rw [d36_ge (by omega), List.length_append]; simp
def v36 (l : List UInt8) : Nat := l.foldl (fun n b => n * 36 + ug b) 0
theorem v36_d36 (u : Nat) : v36 (d36 u) = u := by
  induction u using Nat.strongRecOn with
  | _ u ih =>
    by_cases h : u < 36
    · rw [d36_lt h]; simp [v36, ug_dg h]
    · rw [d36_ge (by omega)]
      have := ih (u / 36) (by omega)
      unfold v36 at this ⊢
      rw [List.foldl_append, this]
      simp only [List.foldl_cons, List.foldl_nil]
      rw [ug_dg (by omega)]
      omega
theorem d36_all {p : UInt8 → Prop} (hp : ∀ d, d < 36 → p (dg d)) (u : Nat) : ∀ b ∈ d36 u, p b := by
  induction u using Nat.strongRecOn with
  | _ u ih =>
    intro b hb
    by_cases h : u < 36
    · rw [d36_lt h] at hb
      simp only [List.mem_singleton] at hb; subst hb; exact hp u h
    · rw [d36_ge (by omega)] at hb
      simp only [List.mem_append, List.mem_singleton] at hb
      rcases hb with hb | rfl
      · exact ih (u / 36) (by omega) b hb
      · exact hp _ (by omega)
def t36 (i : Int) : List UInt8 := if i < 0 then 45 :: d36 (-i).toNat else d36 i.toNat
theorem t36_no (i : Int) : ∀ b ∈ t36 i, (b != 32) = true := by
  intro b hb
  unfold t36 at hb
  split at hb
  · rcases List.mem_cons.1 hb with rfl | hb
    · decide
    · exact d36_all (p := fun b => (b != 32) = true) (fun d h => dg_no h) _ b hb
  · exact d36_all (p := fun b => (b != 32) = true) (fun d h => dg_no h) _ b hb
theorem d36_head (u : Nat) (l : List UInt8) : d36 u ≠ 45 :: l := by
  intro h
  exact d36_all (p := fun b => b ≠ 45) (fun d hd => dg_pos hd) u 45 (by rw [h]; exact .head _) rfl
theorem d36_inj {u v : Nat} (h : d36 u = d36 v) : u = v := by rw [← v36_d36 u, h, v36_d36 v]
theorem t36_inj {i j : Int} (h : t36 i = t36 j) : i = j := by
  unfold t36 at h
  split at h <;> split at h
  · injection h with _ h
    have := d36_inj h
    omega
  · exact absurd h.symm (d36_head _ _)
  · exact absurd h (d36_head _ _)
  · have := d36_inj h
    omega
theorem t36_len {i : Int} (h0 : -9223372036854775808 ≤ i) (h1 : i ≤ 9223372036854775807) : (t36 i).length ≤ 14 := by
  unfold t36
  split
  · have := d36_len 12 (-i).toNat (by simp; omega)
    simp; omega
  · have := d36_len 12 i.toNat (by simp; omega)
    omega
end Go.D36
