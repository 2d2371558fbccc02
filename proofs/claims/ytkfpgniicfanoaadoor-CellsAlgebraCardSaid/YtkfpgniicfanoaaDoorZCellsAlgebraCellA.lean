/- CellA, for the statement CellsAlgebra: what it needs, no more. -/
import Derived.Test.YtkfpgniicfanoaaDoorZCellsAlgebraPlain
namespace Go.Proofs.YtkfpgniicfanoaaDoor.CellA
set_option linter.unusedVariables false
set_option linter.unusedSimpArgs false
inductive Cl where
  | top
  | low (m : Nat) (u : Option Int)
  deriving DecidableEq
/-- What two values make. -/
def mix (m : Nat) : Option Int → Option Int → Cl
  | none, v => .low m v
  | some a, none => .low m (some a)
  | some a, some b => if a = b then .low m (some a) else .top
def J : Cl → Cl → Cl
  | .top, _ => .top
  | .low _ _, .top => .top
  | .low m u, .low n v => mix (m ||| n) u v
theorem J_top (x : Cl) : J x .top = .top := by cases x <;> rfl
theorem J_comm (x y : Cl) : J x y = J y x := by
  rcases x with _ | ⟨m, _ | a⟩ <;> rcases y with _ | ⟨n, _ | b⟩
  all_goals first
    | rfl
    | (simp only [J, mix, Nat.or_comm m n]; done)
    | (simp only [J, mix, Nat.or_comm m n]
       by_cases h : a = b
       · subst h; rfl
       · rw [if_neg h, if_neg (fun e => h e.symm)])
theorem J_self (x : Cl) : J x x = x := by
  rcases x with _ | ⟨m, _ | a⟩ <;> simp [J, mix]
theorem J_assoc (x y z : Cl) : J (J x y) z = J x (J y z) := by
  rcases x with _ | ⟨m, _ | a⟩ <;> rcases y with _ | ⟨n, _ | b⟩ <;> rcases z with _ | ⟨o, _ | c⟩
  all_goals first
    | rfl
    | (simp only [J, mix, Nat.or_assoc]; done)
    | (by_cases h1 : a = b <;> by_cases h2 : b = c <;> simp [J, mix, Nat.or_assoc, h1, h2] <;> done)
    | (by_cases h1 : a = b <;> by_cases h2 : b = c <;> by_cases h3 : a = c <;> simp_all [J, mix, Nat.or_assoc] <;> done)
    | (by_cases h1 : a = b <;> simp [J, mix, Nat.or_assoc, h1] <;> done)
    | (by_cases h1 : b = c <;> simp [J, mix, Nat.or_assoc, h1] <;> done)
    | (by_cases h1 : a = c <;> simp [J, mix, Nat.or_assoc, h1] <;> done)
theorem J_left (x y z : Cl) : J x (J y z) = J y (J x z) := by rw [← J_assoc, J_comm x y, J_assoc]
theorem J_four (a b x y : Cl) : J (J a b) (J x y) = J (J a x) (J b y) := by rw [J_assoc, J_assoc, J_left b x y]
/-- What a cell reads, of a list. -/
def fol : List Cl → Nat → Nat → Cl → Cl
  | [], _, _, acc => acc
  | x :: F, i, m, acc => fol F (i + 1) m (if m.testBit i then J acc x else acc)
theorem fol_top : ∀ (F : List Cl) (i m : Nat), fol F i m .top = .top
  | [], _, _ => rfl
  | x :: F, i, m => by
    unfold fol
    have : (if m.testBit i then J Cl.top x else Cl.top) = .top := by split <;> rfl
    rw [this]; exact fol_top F (i + 1) m
theorem fol_or : ∀ (F : List Cl) (i m n : Nat) (a b : Cl), fol F i (m ||| n) (J a b) = J (fol F i m a) (fol F i n b)
  | [], _, _, _, _, _ => rfl
  | x :: F, i, m, n, a, b => by
    simp only [fol]
    rw [← fol_or F (i + 1) m n]
    congr 1
    rw [Nat.testBit_or]
    cases h1 : m.testBit i <;> cases h2 : n.testBit i <;> simp
    · rw [J_assoc]
    · rw [J_assoc, J_assoc, J_comm b x]
    · rw [← J_four, J_self]
/-- A cell, read over a list. -/
def ofC (F : List Cl) : Cl → Cl
  | .top => .top
  | .low m u => fol F 0 m (.low 0 u)
theorem ofC_J (F : List Cl) (x y : Cl) : ofC F (J x y) = J (ofC F x) (ofC F y) := by
  rcases x with _ | ⟨m, u⟩
  · rfl
  rcases y with _ | ⟨n, v⟩
  · rw [J_top]; simp only [ofC]; rw [J_top]
  simp only [ofC]
  rw [← fol_or]
  have h : J (.low 0 u) (.low 0 v) = mix 0 u v := rfl
  rw [h]
  simp only [J]
  rcases u with _ | a <;> rcases v with _ | b <;> simp only [mix, ofC]
  by_cases e : a = b
  · simp only [if_pos e, ofC]
  · simp only [if_neg e, ofC, fol_top]
theorem fol_map (F : List Cl) : ∀ (G : List Cl) (i m : Nat) (a : Cl), ofC F (fol G i m a) = fol (G.map (ofC F)) i m (ofC F a)
  | [], _, _, _ => rfl
  | x :: G, i, m, a => by
    simp only [List.map_cons, fol]
    rw [fol_map F G (i + 1) m]
    congr 1
    cases m.testBit i <;> simp
    rw [ofC_J]
theorem fol_zero : ∀ (F : List Cl) (i : Nat) (a : Cl), fol F i 0 a = a
  | [], _, _ => rfl
  | x :: F, i, a => by simp only [fol]; rw [show Nat.testBit 0 i = false from Nat.zero_testBit i]; exact fol_zero F (i + 1) a
theorem then_assoc (F G : List Cl) (x : Cl) : ofC (G.map (ofC F)) x = ofC F (ofC G x) := by
  rcases x with _ | ⟨m, u⟩
  · rfl
  · show fol _ 0 m _ = ofC F (fol G 0 m (.low 0 u))
    rw [fol_map]
    show _ = fol _ 0 m (fol F 0 0 (.low 0 u))
    rw [fol_zero]
/-- Within a dimension. -/
def lt (d : Nat) : Cl → Prop
  | .top => True
  | .low m _ => m < 2 ^ d
theorem lt_J {d : Nat} {x y : Cl} (hx : lt d x) (hy : lt d y) : lt d (J x y) := by
  rcases x with _ | ⟨m, _ | a⟩ <;> rcases y with _ | ⟨n, _ | b⟩ <;> simp only [J, mix] <;> try trivial
  · exact Nat.or_lt_two_pow hx hy
  · exact Nat.or_lt_two_pow hx hy
  · exact Nat.or_lt_two_pow hx hy
  · split
    · exact Nat.or_lt_two_pow hx hy
    · trivial
theorem lt_fol {d : Nat} : ∀ (F : List Cl) (i m : Nat) (a : Cl), (∀ x ∈ F, lt d x) → lt d a → lt d (fol F i m a)
  | [], _, _, _, _, h => h
  | x :: F, i, m, a, hF, h => by
    simp only [fol]
    refine lt_fol F (i + 1) m _ (fun y hy => hF y (List.mem_cons_of_mem _ hy)) ?_
    split
    · exact lt_J h (hF x List.mem_cons_self)
    · exact h
theorem lt_ofC {d : Nat} {F : List Cl} (hF : ∀ x ∈ F, lt d x) (c : Cl) : lt d (ofC F c) := by
  rcases c with _ | ⟨m, u⟩
  · trivial
  · exact lt_fol F 0 m _ hF (Nat.two_pow_pos d)
theorem lt_zip {d : Nat} : ∀ {F G : List Cl}, (∀ x ∈ F, lt d x) → (∀ x ∈ G, lt d x) → ∀ x ∈ List.zipWith J F G, lt d x
  | [], _, _, _ => by simp
  | _ :: _, [], _, _ => by simp
  | x :: F, y :: G, hF, hG => by
    intro z hz
    simp only [List.zipWith_cons_cons, List.mem_cons] at hz
    rcases hz with rfl | hz
    · exact lt_J (hF _ List.mem_cons_self) (hG _ List.mem_cons_self)
    · exact lt_zip (fun a ha => hF a (List.mem_cons_of_mem _ ha)) (fun a ha => hG a (List.mem_cons_of_mem _ ha)) z hz
end Go.Proofs.YtkfpgniicfanoaaDoor.CellA
