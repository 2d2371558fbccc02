/- CellA, for the statement CellsBoth: what it needs, no more. -/
import Derived.Test.YtkfpgniicfanoaaDoorZCellsBothPlain
namespace Go.Proofs.YtkfpgniicfanoaaDoor.CellA
set_option linter.unusedVariables false
set_option linter.unusedSimpArgs false
inductive Cl where
  | top
  | low (m : Nat) (u : Option Int)
  deriving DecidableEq
/-- What two values make. -/
def mix (m : Nat) : Option Int → Option Int → Cl
  | none, v => .low m v
  | some a, none => .low m (some a)
  | some a, some b => if a = b then .low m (some a) else .top
def J : Cl → Cl → Cl
  | .top, _ => .top
  | .low _ _, .top => .top
  | .low m u, .low n v => mix (m ||| n) u v
/-- Within a dimension. -/
def lt (d : Nat) : Cl → Prop
  | .top => True
  | .low m _ => m < 2 ^ d
theorem lt_J {d : Nat} {x y : Cl} (hx : lt d x) (hy : lt d y) : lt d (J x y) := by
  rcases x with _ | ⟨m, _ | a⟩ <;> rcases y with _ | ⟨n, _ | b⟩ <;> simp only [J, mix] <;> try trivial
  · exact Nat.or_lt_two_pow hx hy
  · exact Nat.or_lt_two_pow hx hy
  · exact Nat.or_lt_two_pow hx hy
  · split
    · exact Nat.or_lt_two_pow hx hy
    · trivial
theorem lt_zip {d : Nat} : ∀ {F G : List Cl}, (∀ x ∈ F, lt d x) → (∀ x ∈ G, lt d x) → ∀ x ∈ List.zipWith J F G, lt d x
  | [], _, _, _ => by simp
  | _ :: _, [], _, _ => by simp
  | x :: F, y :: G, hF, hG => by
    intro z hz
    simp only [List.zipWith_cons_cons, List.mem_cons] at hz
    rcases hz with rfl | hz
    · exact lt_J (hF _ List.mem_cons_self) (hG _ List.mem_cons_self)
    · exact lt_zip (fun a ha => hF a (List.mem_cons_of_mem _ ha)) (fun a ha => hG a (List.mem_cons_of_mem _ ha)) z hz
end Go.Proofs.YtkfpgniicfanoaaDoor.CellA
