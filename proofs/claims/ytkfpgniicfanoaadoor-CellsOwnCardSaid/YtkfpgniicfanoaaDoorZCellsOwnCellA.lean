/- CellA, for the statement CellsOwn: what it needs, no more. -/
import Derived.Test.YtkfpgniicfanoaaDoorZCellsOwnPlain
namespace Go.Proofs.YtkfpgniicfanoaaDoor.CellA
set_option linter.unusedVariables false
set_option linter.unusedSimpArgs false
inductive Cl where
  | top
  | low (m : Nat) (u : Option Int)
  deriving DecidableEq
/-- What two values make. -/
def mix (m : Nat) : Option Int → Option Int → Cl
  | none, v => .low m v
  | some a, none => .low m (some a)
  | some a, some b => if a = b then .low m (some a) else .top
def J : Cl → Cl → Cl
  | .top, _ => .top
  | .low _ _, .top => .top
  | .low m u, .low n v => mix (m ||| n) u v
/-- What a cell reads, of a list. -/
def fol : List Cl → Nat → Nat → Cl → Cl
  | [], _, _, acc => acc
  | x :: F, i, m, acc => fol F (i + 1) m (if m.testBit i then J acc x else acc)
theorem fol_top : ∀ (F : List Cl) (i m : Nat), fol F i m .top = .top
  | [], _, _ => rfl
  | x :: F, i, m => by
    unfold fol
    have : (if m.testBit i then J Cl.top x else Cl.top) = .top := by split <;> rfl
    rw [this]; exact fol_top F (i + 1) m
/-- A cell, read over a list. -/
def ofC (F : List Cl) : Cl → Cl
  | .top => .top
  | .low m u => fol F 0 m (.low 0 u)
/-- Within a dimension. -/
def lt (d : Nat) : Cl → Prop
  | .top => True
  | .low m _ => m < 2 ^ d
theorem lt_J {d : Nat} {x y : Cl} (hx : lt d x) (hy : lt d y) : lt d (J x y) := by
  rcases x with _ | ⟨m, _ | a⟩ <;> rcases y with _ | ⟨n, _ | b⟩ <;> simp only [J, mix] <;> try trivial
  · exact Nat.or_lt_two_pow hx hy
  · exact Nat.or_lt_two_pow hx hy
  · exact Nat.or_lt_two_pow hx hy
  · split
    · exact Nat.or_lt_two_pow hx hy
    · trivial
theorem lt_fol {d : Nat} : ∀ (F : List Cl) (i m : Nat) (a : Cl), (∀ x ∈ F, lt d x) → lt d a → lt d (fol F i m a)
  | [], _, _, _, _, h => h
  | x :: F, i, m, a, hF, h => by
    simp only [fol]
    refine lt_fol F (i + 1) m _ (fun y hy => hF y (List.mem_cons_of_mem _ hy)) ?_
    split
    · exact lt_J h (hF x List.mem_cons_self)
    · exact h
theorem lt_ofC {d : Nat} {F : List Cl} (hF : ∀ x ∈ F, lt d x) (c : Cl) : lt d (ofC F c) := by
  rcases c with _ | ⟨m, u⟩
  · trivial
  · exact lt_fol F 0 m _ hF (Nat.two_pow_pos d)
theorem lt_zip {d : Nat} : ∀ {F G : List Cl}, (∀ x ∈ F, lt d x) → (∀ x ∈ G, lt d x) → ∀ x ∈ List.zipWith J F G, lt d x
  | [], _, _, _ => by simp
  | _ :: _, [], _, _ => by simp
  | x :: F, y :: G, hF, hG => by
    intro z hz
    simp only [List.zipWith_cons_cons, List.mem_cons] at hz
    rcases hz with rfl | hz
    · exact lt_J (hF _ List.mem_cons_self) (hG _ List.mem_cons_self)
    · exact lt_zip (fun a ha => hF a (List.mem_cons_of_mem _ ha)) (fun a ha => hG a (List.mem_cons_of_mem _ ha)) z hz
end Go.Proofs.YtkfpgniicfanoaaDoor.CellA
