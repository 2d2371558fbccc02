/- CellA, for the statement CellsValues: what it needs, no more. -/
import Derived.Test.YtkfpgniicfanoaaDoorZCellsValuesPlain
namespace Go.Proofs.YtkfpgniicfanoaaDoor.CellA
set_option linter.unusedVariables false
set_option linter.unusedSimpArgs false
inductive Cl where
  | top
  | low (m : Nat) (u : Option Int)
  deriving DecidableEq
/-- What two values make. -/
def mix (m : Nat) : Option Int → Option Int → Cl
  | none, v => .low m v
  | some a, none => .low m (some a)
  | some a, some b => if a = b then .low m (some a) else .top
def J : Cl → Cl → Cl
  | .top, _ => .top
  | .low _ _, .top => .top
  | .low m u, .low n v => mix (m ||| n) u v
theorem J_comm (x y : Cl) : J x y = J y x := by
  rcases x with _ | ⟨m, _ | a⟩ <;> rcases y with _ | ⟨n, _ | b⟩
  all_goals first
    | rfl
    | (simp only [J, mix, Nat.or_comm m n]; done)
    | (simp only [J, mix, Nat.or_comm m n]
       by_cases h : a = b
       · subst h; rfl
       · rw [if_neg h, if_neg (fun e => h e.symm)])
theorem J_self (x : Cl) : J x x = x := by
  rcases x with _ | ⟨m, _ | a⟩ <;> simp [J, mix]
theorem J_assoc (x y z : Cl) : J (J x y) z = J x (J y z) := by
  rcases x with _ | ⟨m, _ | a⟩ <;> rcases y with _ | ⟨n, _ | b⟩ <;> rcases z with _ | ⟨o, _ | c⟩
  all_goals first
    | rfl
    | (simp only [J, mix, Nat.or_assoc]; done)
    | (by_cases h1 : a = b <;> by_cases h2 : b = c <;> simp [J, mix, Nat.or_assoc, h1, h2] <;> done)
    | (by_cases h1 : a = b <;> by_cases h2 : b = c <;> by_cases h3 : a = c <;> simp_all [J, mix, Nat.or_assoc] <;> done)
    | (by_cases h1 : a = b <;> simp [J, mix, Nat.or_assoc, h1] <;> done)
    | (by_cases h1 : b = c <;> simp [J, mix, Nat.or_assoc, h1] <;> done)
    | (by_cases h1 : a = c <;> simp [J, mix, Nat.or_assoc, h1] <;> done)
theorem J_left (x y z : Cl) : J x (J y z) = J y (J x z) := by rw [← J_assoc, J_comm x y, J_assoc]
theorem J_four (a b x y : Cl) : J (J a b) (J x y) = J (J a x) (J b y) := by rw [J_assoc, J_assoc, J_left b x y]
/-- What a cell reads, of a list. -/
def fol : List Cl → Nat → Nat → Cl → Cl
  | [], _, _, acc => acc
  | x :: F, i, m, acc => fol F (i + 1) m (if m.testBit i then J acc x else acc)
theorem fol_top : ∀ (F : List Cl) (i m : Nat), fol F i m .top = .top
  | [], _, _ => rfl
  | x :: F, i, m => by
    unfold fol
    have : (if m.testBit i then J Cl.top x else Cl.top) = .top := by split <;> rfl
    rw [this]; exact fol_top F (i + 1) m
theorem fol_zip : ∀ (F G : List Cl) (i m : Nat) (a b : Cl), F.length = G.length → fol (List.zipWith J F G) i m (J a b) = J (fol F i m a) (fol G i m b)
  | [], [], _, _, _, _, _ => rfl
  | x :: F, y :: G, i, m, a, b, h => by
    simp only [List.zipWith_cons_cons, fol]
    rw [← fol_zip F G (i + 1) m _ _ (by simpa using h)]
    congr 1
    cases m.testBit i <;> simp
    rw [J_four]
/-- A cell, read over a list. -/
def ofC (F : List Cl) : Cl → Cl
  | .top => .top
  | .low m u => fol F 0 m (.low 0 u)
theorem ofC_zip (F G : List Cl) (x : Cl) (h : F.length = G.length) : ofC (List.zipWith J F G) x = J (ofC F x) (ofC G x) := by
  rcases x with _ | ⟨m, u⟩
  · rfl
  · simp only [ofC]
    rw [← fol_zip F G _ _ _ _ h, J_self]
theorem over2 (F G : List Cl) (h : F.length = G.length) : ∀ H : List Cl, H.map (ofC (List.zipWith J F G)) = List.zipWith J (H.map (ofC F)) (H.map (ofC G))
  | [] => rfl
  | x :: H => by simp only [List.map_cons, List.zipWith_cons_cons, ofC_zip F G x h, over2 F G h H]
/-- Within a dimension. -/
def lt (d : Nat) : Cl → Prop
  | .top => True
  | .low m _ => m < 2 ^ d
theorem lt_J {d : Nat} {x y : Cl} (hx : lt d x) (hy : lt d y) : lt d (J x y) := by
  rcases x with _ | ⟨m, _ | a⟩ <;> rcases y with _ | ⟨n, _ | b⟩ <;> simp only [J, mix] <;> try trivial
  · exact Nat.or_lt_two_pow hx hy
  · exact Nat.or_lt_two_pow hx hy
  · exact Nat.or_lt_two_pow hx hy
  · split
    · exact Nat.or_lt_two_pow hx hy
    · trivial
theorem lt_fol {d : Nat} : ∀ (F : List Cl) (i m : Nat) (a : Cl), (∀ x ∈ F, lt d x) → lt d a → lt d (fol F i m a)
  | [], _, _, _, _, h => h
  | x :: F, i, m, a, hF, h => by
    simp only [fol]
    refine lt_fol F (i + 1) m _ (fun y hy => hF y (List.mem_cons_of_mem _ hy)) ?_
    split
    · exact lt_J h (hF x List.mem_cons_self)
    · exact h
theorem lt_ofC {d : Nat} {F : List Cl} (hF : ∀ x ∈ F, lt d x) (c : Cl) : lt d (ofC F c) := by
  rcases c with _ | ⟨m, u⟩
  · trivial
  · exact lt_fol F 0 m _ hF (Nat.two_pow_pos d)
theorem lt_zip {d : Nat} : ∀ {F G : List Cl}, (∀ x ∈ F, lt d x) → (∀ x ∈ G, lt d x) → ∀ x ∈ List.zipWith J F G, lt d x
  | [], _, _, _ => by simp
  | _ :: _, [], _, _ => by simp
  | x :: F, y :: G, hF, hG => by
    intro z hz
    simp only [List.zipWith_cons_cons, List.mem_cons] at hz
    rcases hz with rfl | hz
    · exact lt_J (hF _ List.mem_cons_self) (hG _ List.mem_cons_self)
    · exact lt_zip (fun a ha => hF a (List.mem_cons_of_mem _ ha)) (fun a ha => hG a (List.mem_cons_of_mem _ ha)) z hz
/-- Reads nothing. -/
def val : Cl → Prop
  | .top => True
  | .low m _ => m = 0
instance : DecidablePred val := fun x => match x with
  | .top => .isTrue trivial
  | .low m _ => inferInstanceAs (Decidable (m = 0))
theorem val_J {x y : Cl} (hx : val x) (hy : val y) : val (J x y) := by
  rcases x with _ | ⟨m, _ | a⟩ <;> rcases y with _ | ⟨n, _ | b⟩ <;> simp only [J, mix] <;> try trivial
  all_goals simp only [val] at hx hy; subst hx; subst hy
  · rfl
  · rfl
  · rfl
  · split <;> trivial
theorem val_fol : ∀ (F : List Cl) (i m : Nat) (a : Cl), (∀ x ∈ F, val x) → val a → val (fol F i m a)
  | [], _, _, _, _, h => h
  | x :: F, i, m, a, hF, h => by
    simp only [fol]
    refine val_fol F (i + 1) m _ (fun y hy => hF y (List.mem_cons_of_mem _ hy)) ?_
    split
    · exact val_J h (hF x List.mem_cons_self)
    · exact h
theorem val_ofC {F : List Cl} (hF : ∀ x ∈ F, val x) (c : Cl) : val (ofC F c) := by
  rcases c with _ | ⟨m, u⟩
  · trivial
  · exact val_fol F 0 m _ hF rfl
end Go.Proofs.YtkfpgniicfanoaaDoor.CellA
