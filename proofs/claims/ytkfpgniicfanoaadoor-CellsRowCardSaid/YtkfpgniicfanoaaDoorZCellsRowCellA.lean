/- CellA, for the statement CellsRow: what it needs, no more. -/
import Derived.Test.YtkfpgniicfanoaaDoorZCellsRowPlain
namespace Go.Proofs.YtkfpgniicfanoaaDoor.CellA
set_option linter.unusedVariables false
set_option linter.unusedSimpArgs false
inductive Cl where
  | top
  | low (m : Nat) (u : Option Int)
  deriving DecidableEq
/-- What two values make. -/
def mix (m : Nat) : Option Int → Option Int → Cl
  | none, v => .low m v
  | some a, none => .low m (some a)
  | some a, some b => if a = b then .low m (some a) else .top
def J : Cl → Cl → Cl
  | .top, _ => .top
  | .low _ _, .top => .top
  | .low m u, .low n v => mix (m ||| n) u v
/-- Within a dimension. -/
def lt (d : Nat) : Cl → Prop
  | .top => True
  | .low m _ => m < 2 ^ d
theorem lt_J {d : Nat} {x y : Cl} (hx : lt d x) (hy : lt d y) : lt d (J x y) := by
  rcases x with _ | ⟨m, _ | a⟩ <;> rcases y with _ | ⟨n, _ | b⟩ <;> simp only [J, mix] <;> try trivial
  · exact Nat.or_lt_two_pow hx hy
  · exact Nat.or_lt_two_pow hx hy
  · exact Nat.or_lt_two_pow hx hy
  · split
    · exact Nat.or_lt_two_pow hx hy
    · trivial
theorem lt_zip {d : Nat} : ∀ {F G : List Cl}, (∀ x ∈ F, lt d x) → (∀ x ∈ G, lt d x) → ∀ x ∈ List.zipWith J F G, lt d x
  | [], _, _, _ => by simp
  | _ :: _, [], _, _ => by simp
  | x :: F, y :: G, hF, hG => by
    intro z hz
    simp only [List.zipWith_cons_cons, List.mem_cons] at hz
    rcases hz with rfl | hz
    · exact lt_J (hF _ List.mem_cons_self) (hG _ List.mem_cons_self)
    · exact lt_zip (fun a ha => hF a (List.mem_cons_of_mem _ ha)) (fun a ha => hG a (List.mem_cons_of_mem _ ha)) z hz
def pc : Nat → Nat → Nat
  | 0, _ => 0
  | d + 1, m => pc d m + if m.testBit d then 1 else 0
theorem pc_le : ∀ d m, pc d m ≤ d
  | 0, _ => Nat.le_refl _
  | d + 1, m => by have := pc_le d m; unfold pc; split <;> omega
theorem sub_bit {m n i : Nat} (h : m ||| n = n) (hm : m.testBit i = true) : n.testBit i = true := by
  rw [← h, Nat.testBit_or, hm]; rfl
theorem pc_mono {m n : Nat} (h : m ||| n = n) : ∀ d, pc d m ≤ pc d n
  | 0 => Nat.le_refl _
  | d + 1 => by
    have := pc_mono h d
    unfold pc
    by_cases e : m.testBit d = true
    · rw [if_pos e, if_pos (sub_bit h e)]; omega
    · rw [if_neg e]; omega
theorem pc_eq {m n : Nat} (h : m ||| n = n) : ∀ d, pc d m = pc d n → ∀ i, i < d → m.testBit i = n.testBit i
  | 0, _, i, hi => absurd hi (Nat.not_lt_zero i)
  | d + 1, he, i, hi => by
    have h1 := pc_mono h d
    unfold pc at he
    have hd : m.testBit d = n.testBit d := by
      cases e1 : m.testBit d <;> cases e2 : n.testBit d <;> simp [e1, e2] at he ⊢
      · omega
      · have := sub_bit h e1; rw [e2] at this; cases this
    rw [hd] at he
    by_cases e : i = d
    · subst e; exact hd
    · exact pc_eq h d (by omega) i (by omega)
theorem pc_lt {d m n : Nat} (h : m ||| n = n) (hm : m < 2 ^ d) (hn : n < 2 ^ d) (hne : m ≠ n) : pc d m < pc d n := by
  rcases Nat.lt_or_ge (pc d m) (pc d n) with h1 | h1
  · exact h1
  · refine absurd (Nat.eq_of_testBit_eq fun i => ?_) hne
    by_cases hi : i < d
    · exact pc_eq h d (Nat.le_antisymm (pc_mono h d) h1) i hi
    · rw [Nat.testBit_lt_two_pow (Nat.lt_of_lt_of_le hm (Nat.pow_le_pow_right (by decide) (by omega))), Nat.testBit_lt_two_pow (Nat.lt_of_lt_of_le hn (Nat.pow_le_pow_right (by decide) (by omega)))]
def rank (d : Nat) : Cl → Nat
  | .top => d + 2
  | .low m none => pc d m
  | .low m (some _) => pc d m + 1
theorem rank_le (d : Nat) (x : Cl) : rank d x ≤ d + 2 := by
  rcases x with _ | ⟨m, _ | a⟩ <;> simp only [rank] <;> have := pc_le d <;> first | exact Nat.le_refl _ | (have := this m; omega)
theorem low_inj {m n : Nat} {u v : Option Int} (h : Cl.low m u = Cl.low n v) : m = n ∧ u = v := by injection h with h1 h2; exact ⟨h1, h2⟩
theorem rank_lt {d : Nat} {x y : Cl} (hx : lt d x) (hy : lt d y) (h : J x y = y) (hne : x ≠ y) : rank d x < rank d y := by
  rcases x with _ | ⟨m, u⟩
  · exact absurd h hne
  rcases y with _ | ⟨n, v⟩
  · have := pc_le d m
    rcases u with _ | a <;> simp only [rank] <;> omega
  simp only [lt] at hx hy
  rcases u with _ | a <;> rcases v with _ | b <;> simp only [J, mix] at h
  · have h1 := (low_inj h).1
    simp only [rank]
    exact pc_lt h1 hx hy (fun e => hne (by rw [e]))
  · have h1 := (low_inj h).1
    have := pc_mono h1 d
    simp only [rank]; omega
  · have h1 := (low_inj h).2; cases h1
  · by_cases e : a = b
    · rw [if_pos e] at h
      have h1 := (low_inj h).1
      subst e
      have := pc_lt h1 hx hy (fun e => hne (by rw [e]))
      simp only [rank]; omega
    · rw [if_neg e] at h; cases h
theorem rank_le' {d : Nat} {x y : Cl} (hx : lt d x) (hy : lt d y) (h : J x y = y) : rank d x ≤ rank d y := by
  by_cases e : x = y
  · subst e; exact Nat.le_refl _
  · exact Nat.le_of_lt (rank_lt hx hy h e)
def ranks (d : Nat) : List Cl → Nat
  | [] => 0
  | x :: l => rank d x + ranks d l
theorem ranks_le (d : Nat) : ∀ l, ranks d l ≤ l.length * (d + 2)
  | [] => Nat.zero_le _
  | x :: l => by
    have h1 := ranks_le d l
    have h2 := rank_le d x
    simp only [ranks, List.length_cons, Nat.add_mul, Nat.one_mul]
    omega
theorem ranks_mono {d : Nat} : ∀ {F G : List Cl}, F.length = G.length → (∀ x ∈ F, lt d x) → (∀ x ∈ G, lt d x) → List.zipWith J F G = G → ranks d F ≤ ranks d G ∧ (F ≠ G → ranks d F < ranks d G)
  | [], [], _, _, _, _ => ⟨Nat.le_refl _, fun h => absurd rfl h⟩
  | x :: F, y :: G, hl, hF, hG, h => by
    simp only [List.zipWith_cons_cons, List.cons.injEq] at h
    obtain ⟨h1, h2⟩ := ranks_mono (by simpa using hl) (fun a ha => hF a (List.mem_cons_of_mem _ ha)) (fun a ha => hG a (List.mem_cons_of_mem _ ha)) h.2
    have h3 := rank_le' (hF x List.mem_cons_self) (hG y List.mem_cons_self) h.1
    simp only [ranks]
    refine ⟨by omega, fun hne => ?_⟩
    by_cases e : x = y
    · have : F ≠ G := fun e2 => hne (by rw [e, e2])
      have := h2 this
      omega
    · have := rank_lt (hF x List.mem_cons_self) (hG y List.mem_cons_self) h.1 e
      omega
end Go.Proofs.YtkfpgniicfanoaaDoor.CellA
