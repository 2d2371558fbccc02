/- Open, for the statement BitsSets: what it needs, no more. -/
import Derived.Test.YtpaikjnmopkekaaDoorWMore
import Derived.ChangeArms
import Derived.DataReads
import Derived.SizedLaws
import Derived.OpenShut
import Derived.WideShapes
import Derived.Lib.LaidTab
import Derived.Stop.LaidErr
namespace Go.Proofs.YtpaikjnmopkekaaDoor.Open
open Go.RowKit Go.WideShapes Go.ChangeShapes Go.Proofs.YtpaikjnmopkekaaDoorW.PrintWords Go.Proofs.YtpaikjnmopkekaaDoorW.PrintLast Go.Proofs.YtpaikjnmopkekaaDoorW.PrintMore
set_option linter.unusedVariables false
set_option linter.unusedSimpArgs false
variable {H : Type} {enc : TypeId × Value → H} {P : Program} {W : World} {t e : TypeId} {α β : Type}
/-- A reading of type t tells a value of kind d, that fits. -/
def Opens (enc : TypeId × Value → H) (P : Program) (W : World) (t : TypeId) (d : Kd α) (fit : α → Prop) (n : Nat) : Prop :=
  ∀ fuel, fuel ≤ n → ∀ cs x, DataW.trod enc P W 0 (fun _ => true) true fuel t cs = some x → (x.1.weights P t).all (· ≤ reachBytes) = true → ∃ a, d.K W a cs ∧ fit a
theorem opens_int {k : IntKind} (ht : P.underlying t = some (.int k)) (n : Nat) : Opens enc P W t (Kd.int k) (fun a => (Lit.int k a).wf = true) n := by
  intro fuel _ cs x h _
  obtain ⟨z, rfl, rfl, hw⟩ := DataW.trod_int ht h
  exact ⟨z, rfl, hw⟩
theorem exists_list {p : Nat → α → Prop} : ∀ (n : Nat), (∀ i, i < n → ∃ a, p i a) → ∃ l : List α, l.length = n ∧ ∀ i a, l[i]? = some a → p i a
  | 0, _ => ⟨[], rfl, fun i a h => by simp at h⟩
  | n + 1, h => by
    obtain ⟨l, hl, hp⟩ := exists_list n (fun i hi => h i (by omega))
    obtain ⟨a, ha⟩ := h n (by omega)
    refine ⟨l ++ [a], by simp [hl], fun i b hb => ?_⟩
    by_cases hi : i < l.length
    · rw [List.getElem?_append_left hi] at hb
      exact hp i b hb
    · have hlen : i < (l ++ [a]).length := (List.getElem?_eq_some_iff.1 hb).1
      have : i = n := by simp at hlen; omega
      subst this
      rw [List.getElem?_append_right (by omega)] at hb
      simp [hl] at hb
      subst hb
      exact ha
theorem weightsAll_mem {l : List (DataW H)} {d : DataW H} (hd : d ∈ l) {n : Nat} (hn : n ∈ d.weights P e) : n ∈ DataW.weightsAll P e l := by
  induction l with
  | nil => cases hd
  | cons x r ih =>
    simp only [DataW.weightsAll, List.mem_append]
    rcases List.mem_cons.1 hd with rfl | hd
    · exact .inl hn
    · exact .inr (ih hd)
theorem add_add (a : Addr) (m n : Nat) : (a.add m).add n = a.add (m + n) := by
  unfold Addr.add
  by_cases hm : m = 0
  · subst hm; simp
  · by_cases hn : n = 0
    · subst hn; simp [hm]
    · have : m + n ≠ 0 := by omega
      simp [hm, hn, Nat.add_assoc]
theorem opens_slice {d : Kd α} {fit : α → Prop} {n : Nat} (B : Nat) (ht : P.underlying t = some (.slice e)) (hc : P.cellsOf e = d.sz) (hB : P.bytesOf e = B) (hd : Opens enc P W e d fit n) :
    Opens enc P W t (Kd.slice e d) (fun l => l.length * B ≤ 140737488351232 ∧ l.length ≤ maxLen ∧ ∀ x ∈ l, fit x) n := by
  intro fuel hf cs x h hw
  rcases DataW.trod_slice ht h with ⟨rfl, rfl⟩ | ⟨a, len, cap, elems, rest, m, rfl, rfl, rfl, _, hl, hcap, hel, he, _, _⟩
  · exact ⟨[], ⟨none, 0, rfl, Nat.le_refl _, Kd.C_nil _ _⟩, by simp, by simp, by simp⟩
  · simp only [DataW.weights, ht, hB, List.all_cons, Bool.and_eq_true, decide_eq_true_eq, List.length_map, List.all_append] at hw
    obtain ⟨hw1, hw2, _⟩ := hw
    have hw3 : ∀ d' ∈ elems.map (·.1), (d'.weights P e).all (· ≤ reachBytes) = true := fun d' hd' =>
      List.all_eq_true.2 fun q hq => List.all_eq_true.1 hw2 q (weightsAll_mem hd' hq)
    have each : ∀ i, i < len → ∃ b, (∃ c, c.length = d.sz ∧ d.K W b c ∧ ∀ j u, c[j]? = some u → W.cell? (a.add (i * d.sz + j)) = some u) ∧ fit b := by
      intro i hi
      have h1 := he i hi
      have hie : i < elems.length := by omega
      rw [List.getElem?_eq_getElem hie, Option.bind_eq_some_iff] at h1
      obtain ⟨c, hcs, htr⟩ := h1
      obtain ⟨_, hcl, hcc⟩ := World.cells?_some hcs
      obtain ⟨b, hK, hfit⟩ := hd m (by omega) c _ htr (hw3 _ (List.mem_map.2 ⟨_, List.getElem_mem hie, rfl⟩))
      refine ⟨b, ⟨c, by rw [hcl, hc], hK, fun j u hj => ?_⟩, hfit⟩
      have hjl : j < P.cellsOf e := by rw [← hcl]; exact (List.getElem?_eq_some_iff.1 hj).1
      have := hcc j hjl
      rw [add_add, hc, hj] at this
      exact this
    obtain ⟨l, hll, hp⟩ := exists_list len each
    have hmax : maxLen ≤ 9223372036854775807 := by decide
    subst hll
    refine ⟨l, ⟨some a, cap, rfl, by omega, ⟨rfl, by omega, fun _ => ⟨a, rfl, fun j p hj => (hp j p hj).1⟩⟩⟩, ?_, by omega, fun x hx => ?_⟩
    · have h4 : elems.length * B ≤ (elems.length + rest.length) * B := Nat.mul_le_mul_right _ (Nat.le_add_right _ _)
      have h5 : reachBytes = 140737488351232 := by decide
      rw [h5] at hw1
      rw [← hel]
      omega
    · obtain ⟨j, hj, rfl⟩ := List.mem_iff_getElem.1 hx
      exact (hp j _ (List.getElem?_eq_getElem hj)).2

/-- One argument's weights, out of all. -/
theorem weights_at {ts : List TypeId} {ds : List (DataW H)} (h : (DataW.weightsEach P ts ds).all (· ≤ reachBytes) = true) {j : Nat} {t : TypeId} {d : DataW H} (ht : ts[j]? = some t) (hd : ds[j]? = some d) : (d.weights P t).all (· ≤ reachBytes) = true :=
  List.all_eq_true.2 fun n hn => List.all_eq_true.1 h n (DataW.weights_mem_each ht hd n hn)
/-- An argument that is a slice. -/
theorem arg_slice {d : Kd α} {fit : List α → Prop} {base : Nat} {v : Value} {x : DataW H} {ps : List MemPlace} (hu : P.underlying t = some (.slice e)) (ho : ∀ n, Opens enc P W t (Kd.slice e d) fit n) (hv : Value.okWide P W .any base t v) (h : DataW.Trod enc P W 0 (fun _ => true) true t v x ps)
    (hw : (x.weights P t).all (· ≤ reachBytes) = true) : ∃ A c l, v = .slice A l.length c ∧ l.length ≤ c ∧ d.C W A l.length l ∧ fit l := by
  obtain ⟨a, len, cap, rfl⟩ := okWide_slice hu hv
  obtain ⟨fuel, hf⟩ := h
  obtain ⟨l, ⟨A, c, hcs, hl, hC⟩, hfit⟩ := ho fuel fuel (Nat.le_refl _) _ _ hf hw
  refine ⟨A, c, l, ?_, hl, hC, hfit⟩
  simpa [Value.cells] using hcs
end Go.Proofs.YtpaikjnmopkekaaDoor.Open
