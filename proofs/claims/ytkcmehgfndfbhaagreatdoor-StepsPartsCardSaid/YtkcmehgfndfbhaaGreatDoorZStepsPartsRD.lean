/- RD, for the statement StepsParts: what it needs, no more. -/
import Derived.Test.YtkcmehgfndfbhaaGreatDoorZStepsPartsRC
namespace Go.RM
open Go.RowKit
set_option linter.unusedVariables false
variable {P : Program}
theorem sound_new {K : Kn} {f : FuncId} {args : List PV} {sz : Nat} (hpos : 0 < sz)
    (h : ∀ (φ : Place) (F : Mem) (w : World) (vs : Array Value), K.k F → HR φ F [] w → ArgsRep φ F args vs → Calls P f vs w fun e w' => Below w.heap.size w w' ∧
      (e = .returned (.slice none 0 0) ∨ ∃ (cap : Nat) (arr : Array Value) (el : TypeId), e = .returned (.slice (some ⟨w.heap.size, 0, none⟩) 0 cap) ∧ w'.heap[w.heap.size]? = some (.cells arr el (0, 0)) ∧ arr.size = cap * sz ∧ cap ≤ maxLen)) :
    SoundCall P K f args [] (.own 0 0) [⟨sz, [], 0, none⟩] := by
  intro φ F w vs hk hr ha
  refine (h φ F w vs hk hr ha).mono ?_
  have none_ : ∀ b n, φ b n = none := fun b n => by
    cases hx : φ b n with
    | none => rfl
    | some x => obtain ⟨k, hk, -⟩ := hr.dom _ _ _ hx; simp at hk
  rintro e w' ⟨hb, rfl | ⟨cap, arr, el, rfl, hheap, hsz, hcap⟩⟩
  · refine ⟨_, φ, F, rfl, .own0 0, ?_⟩
    have h1 := Post.below hr hb
    exact h1.trans (PostM.toPost h1.hr (room_post h1.hr _ sz))
  · refine ⟨_, φ.add 0 0 (w.heap.size, cap), F, rfl, .own 0 0 w.heap.size cap (by simp [Place.add]), ?_⟩
    have h1 : Post φ F [] w φ F [⟨sz, [], 0, none⟩] w := PostM.toPost hr (room_post hr _ sz)
    refine h1.trans ?_
    have hle : φ.le (φ.add 0 0 (w.heap.size, cap)) := fun b n x hx => by rw [none_] at hx; cases hx
    exact Post.upd (k1 := ⟨sz, [], 0, none⟩) h1.hr (b := 0) rfl hle (fun b' n hne => by unfold Place.add; rw [if_neg (fun hc => hne hc.1)]) (fun n x hx => by
        unfold Place.add at hx
        split at hx
        · rename_i hc; simp [hc.2]
        · rw [none_] at hx; cases hx) (.refl F) (fun c j v hF => by
        obtain ⟨arr, el, fr, hh, hv⟩ := hr.mem c j v hF
        exact ⟨arr, el, fr, (hb.block c (Array.getElem?_eq_some_iff.1 hh).1).trans hh, hv⟩) (fun c hc _ => ⟨hb.block c hc, rfl⟩) hb.size hb.os hb.tape hb.output
      ⟨by simp, .inr (.inl ⟨hpos, rfl, w.heap.size, cap, by simp [Place.add], arr, el, hheap, by simp, hcap, hsz, fun j _ => hr.new j, fun i j x p hx _ => by simp at hx⟩)⟩
      (fun c cap' hx => by simp [Place.add] at hx; exact .inl (by omega))
end Go.RM
