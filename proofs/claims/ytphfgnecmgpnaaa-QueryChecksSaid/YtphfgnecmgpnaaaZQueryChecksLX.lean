/- LA LB LC LD LE LF LG LH LJ LK LL LM LT LW LX, for the statement QueryChecks: what it needs, no more. -/
import Derived.Test.YtphfgnecmgpnaaaZQueryChecksGR
import Derived.Test.YtphfgnecmgpnaaaZQueryChecksGL
namespace Go.RM
set_option linter.unusedVariables false
set_option linter.unusedSimpArgs false
/-- A loop that comes to what spec tells. -/
theorem Loop.of {σ τ ρ : Type} {b : σ → Rnd σ τ ρ → Prop} (spec : σ → Fin τ ρ) (m : σ → Nat) (Inv : σ → Prop)
    (step : ∀ s, Inv s → (∃ s', b s (.next s') ∧ m s' < m s ∧ Inv s' ∧ spec s' = spec s) ∨ (∃ t, b s (.exit t) ∧ spec s = .go t) ∨ (∃ r, b s (.ret r) ∧ spec s = .ret r)) :
    ∀ s, Inv s → Loop b s (spec s) := by
  intro s
  generalize hn : m s = n
  induction n using Nat.strongRecOn generalizing s with
  | _ n ih =>
    intro hi
    rcases step s hi with ⟨s', hb, hm, hi', he⟩ | ⟨t, hb, he⟩ | ⟨r, hb, he⟩
    · rw [← he]
      exact .next hb (ih (m s') (by omega) s' rfl hi')
    · rw [he]; exact .exit hb
    · rw [he]; exact .ret hb
theorem wrap64 {i : Int} (h0 : -9223372036854775808 ≤ i) (h1 : i ≤ 9223372036854775807) : IntKind.i64.wrap i = i := by
  have e : IntKind.i64.wrap i = if (i % 18446744073709551616 : Int) ≥ 9223372036854775808 then i % 18446744073709551616 - 18446744073709551616 else i % 18446744073709551616 := by
    simp [IntKind.wrap, IntKind.bits, IntKind.signed]
  rw [e]
  split <;> omega
theorem wrapu64 {i : Int} (h0 : 0 ≤ i) (h1 : i < 18446744073709551616) : IntKind.u64.wrap i = i := by
  have e : IntKind.u64.wrap i = i % 18446744073709551616 := by
    simp [IntKind.wrap, IntKind.bits, IntKind.signed]
  rw [e]; omega
/-- One round further in a list. -/
theorem wrap_len {α : Type} {l : List α} {i : Int} (hl : l.length ≤ maxLen) (h0 : 0 ≤ i) (h1 : i < l.length) : IntKind.i64.wrap (i + 1) = i + 1 := by
  have : maxLen ≤ 9223372036854775807 := by decide
  exact wrap64 (by omega) (by omega)
theorem rdl_mem {α : Type} [Inhabited α] {l : List α} {i : Int} (h0 : 0 ≤ i) (h1 : i < l.length) : rdl l i ∈ l :=
  List.mem_of_getElem? (rdl_get h0 h1)
theorem drop_rdl {α : Type} [Inhabited α] {l : List α} {i : Int} (h0 : 0 ≤ i) (h1 : i < l.length) : l.drop i.toNat = rdl l i :: l.drop (i + 1).toNat := by
  have h := rdl_get h0 h1
  have hlt : i.toNat < l.length := by omega
  rw [List.drop_eq_getElem_cons hlt, show (i + 1).toNat = i.toNat + 1 by omega]
  rw [List.getElem?_eq_getElem hlt, Option.some.injEq] at h
  rw [h]
theorem drop_end {α : Type} {l : List α} {i : Int} (h0 : 0 ≤ i) (h1 : ¬ i < l.length) : l.drop i.toNat = [] := List.drop_eq_nil_of_le (by omega)
end Go.RM
namespace Go.RM
set_option linter.unusedVariables false
set_option linter.unusedSimpArgs false
/-- The first place from i on whose element passes. -/
def idxI {α : Type} (test : α → Bool) : List α → Int → Int
  | [], _ => -1
  | x :: l, i => if test x then i else idxI test l (i + 1)
theorem idxI_any {α : Type} (test : α → Bool) : ∀ (l : List α) (i : Int), 0 ≤ i → decide (idxI test l i ≥ 0) = l.any test
  | [], i, h => by simp [idxI]
  | x :: l, i, h => by
    unfold idxI
    by_cases hx : test x = true
    · simp [hx, h]
    · rw [if_neg hx, idxI_any test l (i + 1) (by omega)]; simp [hx]
theorem indexFunc {α : Type} [Inhabited α] {l : List α} {q : α → Bool → Prop} {b : Int → Rnd Int Unit Int → Prop} (test : α → Bool) (hl : l.length ≤ maxLen) (hq : ∀ x ∈ l, q x (test x))
    (hb : b = fun x1 z1 => if x1 < (l.length : Int) then (InR x1 l.length ∧ ∃ t : Bool, q (rdl l x1) t ∧ if t = true then z1 = .ret x1 else z1 = .next (IntKind.i64.wrap (x1 + 1))) else z1 = .exit ()) :
    ∃ o : Fin Unit Int, Loop b 0 o ∧ o.on (fun _ => idxI test l 0 = -1) (fun r_ => idxI test l 0 = r_) := by
  let spec : Int → Fin Unit Int := fun i => if (l.drop i.toNat).any test then .ret (idxI test (l.drop i.toNat) i) else .go ()
  have key := Loop.of (b := b) spec (fun i => ((l.length : Int) - i).toNat) (fun i => 0 ≤ i) (fun i hi => by
    subst hb
    by_cases h : i < (l.length : Int)
    · have hd := drop_rdl hi h
      by_cases ht : test (rdl l i) = true
      · refine .inr (.inr ⟨i, ?_, ?_⟩)
        · simp only [h, if_true]
          exact ⟨⟨hi, h⟩, true, ht ▸ hq _ (rdl_mem hi h), by simp⟩
        · show (if _ then _ else _) = _
          rw [hd]; simp [ht, idxI]
      · have ht' : test (rdl l i) = false := by simpa using ht
        refine .inl ⟨i + 1, ?_, by omega, by omega, ?_⟩
        · simp only [h, if_true]
          exact ⟨⟨hi, h⟩, false, ht' ▸ hq _ (rdl_mem hi h), by simp [wrap_len hl hi h]⟩
        · show (if _ then _ else _) = (if _ then _ else _)
          rw [hd]; simp [ht', idxI]
    · refine .inr (.inl ⟨(), by simp only [h, if_false], ?_⟩)
      show (if _ then _ else _) = _
      rw [drop_end hi h]; rfl) 0 (Int.le_refl 0)
  refine ⟨_, key, ?_⟩
  show Fin.on (if _ then _ else _) _ _
  simp only [Int.toNat_zero, List.drop_zero]
  split
  · rfl
  · rename_i h
    show idxI test l 0 = -1
    have : decide (idxI test l 0 ≥ 0) = false := by rw [idxI_any test l 0 (Int.le_refl 0)]; simpa using h
    have hge : ∀ (l : List α) (i : Int), 0 ≤ i → idxI test l i = -1 ∨ 0 ≤ idxI test l i := by
      intro l
      induction l with
      | nil => intro i _; exact .inl rfl
      | cons x l ih =>
        intro i hi
        unfold idxI
        split
        · exact .inr hi
        · exact ih (i + 1) (by omega)
    rcases hge l 0 (Int.le_refl 0) with h1 | h1
    · exact h1
    · simp at this; omega
/-- A loop that goes over a list as long as elements pass. -/
theorem eachLoop {α ρ : Type} [Inhabited α] {l : List α} {b : Int → Rnd Int Unit ρ → Prop} (test : α → Bool) (rv : ρ)
    (hb : ∀ i, 0 ≤ i → i < (l.length : Int) → (test (rdl l i) = true → b i (.next (i + 1))) ∧ (test (rdl l i) = false → b i (.ret rv))) (hend : ∀ i, 0 ≤ i → ¬ i < (l.length : Int) → b i (.exit ())) :
    Loop b 0 (if l.all test then .go () else .ret rv) := by
  let spec : Int → Fin Unit ρ := fun i => if (l.drop i.toNat).all test then .go () else .ret rv
  have key := Loop.of (b := b) spec (fun i => ((l.length : Int) - i).toNat) (fun i => 0 ≤ i) (fun i hi => by
    by_cases h : i < (l.length : Int)
    · have hd := drop_rdl hi h
      obtain ⟨h1, h2⟩ := hb i hi h
      cases ht : test (rdl l i) with
      | true =>
        refine .inl ⟨i + 1, h1 ht, by omega, by omega, ?_⟩
        show (if _ then _ else _) = (if _ then _ else _)
        rw [hd]; simp [ht]
      | false =>
        refine .inr (.inr ⟨rv, h2 ht, ?_⟩)
        show (if _ then _ else _) = _
        rw [hd]; simp [ht]
    · refine .inr (.inl ⟨(), hend i hi h, ?_⟩)
      show (if _ then _ else _) = _
      rw [drop_end hi h]; rfl) 0 (Int.le_refl 0)
  simpa [spec] using key
/-- slices.ContainsFunc. -/
theorem containsFunc {α : Type} [Inhabited α] {l : List α} {q : α → Bool → Prop} {b : Int → Rnd Int Unit Int → Prop} (test : α → Bool) (hl : l.length ≤ maxLen) (hq : ∀ x ∈ l, q x (test x))
    (hb : b = fun x1 z1 => if x1 < (l.length : Int) then (InR x1 l.length ∧ ∃ t : Bool, q (rdl l x1) t ∧ if t = true then z1 = .ret x1 else z1 = .next (IntKind.i64.wrap (x1 + 1))) else z1 = .exit ()) :
    ∃ t : Int, (∃ o : Fin Unit Int, Loop b 0 o ∧ o.on (fun _ => t = -1) (fun r_ => t = r_)) ∧ l.any test = decide (t ≥ 0) :=
  ⟨_, indexFunc test hl hq hb, (idxI_any test l 0 (Int.le_refl 0)).symm⟩
/-- What rounds over a list come to. -/
def foldF {α σ ρ : Type} (step : Int → α → σ → Fin σ ρ) : List α → Int → σ → Fin σ ρ
  | [], _, s => .go s
  | x :: l, i, s => match step i x s with
    | .go s' => foldF step l (i + 1) s'
    | .ret r => .ret r
def Fin.map {σ τ ρ : Type} (f : σ → τ) : Fin σ ρ → Fin τ ρ
  | .go s => .go (f s)
  | .ret r => .ret r
/-- A round does what its step says. -/
def Rok {σ S τ ρ : Type} (b : S → Rnd S τ ρ → Prop) (mk : Int → σ → S) (Inv : Int → σ → Prop) (i : Int) (s : σ) : Fin σ ρ → Prop
  | .go s' => b (mk i s) (.next (mk (i + 1) s')) ∧ Inv (i + 1) s'
  | .ret r => b (mk i s) (.ret r)
theorem foldLoop {α σ S τ ρ : Type} [Inhabited α] {l : List α} {b : S → Rnd S τ ρ → Prop} (mk : Int → σ → S) (ex : σ → τ) (step : Int → α → σ → Fin σ ρ) (Inv : Int → σ → Prop)
    (hb : ∀ i s, 0 ≤ i → i < (l.length : Int) → Inv i s → Rok b mk Inv i s (step i (rdl l i) s))
    (hend : ∀ s, Inv l.length s → b (mk l.length s) (.exit (ex s))) (s0 : σ) (h0 : Inv 0 s0) :
    Loop b (mk 0 s0) ((foldF step l 0 s0).map ex) ∧ ∀ s, foldF step l 0 s0 = .go s → Inv l.length s := by
  have main : ∀ (k : Nat) (i : Int) (s : σ), ((l.length : Int) - i).toNat = k → 0 ≤ i → i ≤ l.length → Inv i s → Loop b (mk i s) ((foldF step (l.drop i.toNat) i s).map ex) ∧ ∀ s', foldF step (l.drop i.toNat) i s = .go s' → Inv l.length s' := by
    intro k
    induction k with
    | zero =>
      intro i s hk h0 h1 hi
      have : i = l.length := by omega
      subst this
      rw [drop_end h0 (by omega)]
      exact ⟨.exit (hend s hi), fun s' h => by injection h with h; exact h ▸ hi⟩
    | succ k ih =>
      intro i s hk h0 h1 hi
      have hlt : i < (l.length : Int) := by omega
      rw [drop_rdl h0 hlt]
      have hr := hb i s h0 hlt hi
      unfold foldF
      revert hr
      cases step i (rdl l i) s with
      | go s1 =>
        intro hr
        have := ih (i + 1) s1 (by omega) (by omega) (by omega) hr.2
        exact ⟨.next hr.1 this.1, this.2⟩
      | ret r =>
        intro hr
        exact ⟨.ret hr, fun s' h => by cases h⟩
  have := main _ 0 s0 rfl (Int.le_refl 0) (by omega) h0
  simpa using this
theorem foldF_map {α β ρ : Type} (f : α → β) : ∀ (l : List α) (i : Int) (acc : List β), foldF (fun _ x acc => (.go (acc ++ [f x]) : Fin (List β) ρ)) l i acc = .go (acc ++ l.map f)
  | [], i, acc => by simp [foldF]
  | x :: l, i, acc => by
    show foldF _ l (i + 1) (acc ++ [f x]) = _
    rw [foldF_map f l]
    simp
/-- The numbers below n as integers. -/
def upto (n : Nat) : List Int := (List.range n).map Int.ofNat
/-- A row that is filled from the front. -/
theorem fillLoop {α ρ : Type} [Inhabited α] {n : Int} {b : (List α × Int) → Rnd (List α × Int) (List α) ρ → Prop} (d : α) (f : Int → α → α) (hn : 0 ≤ n)
    (hb : ∀ i l, 0 ≤ i → i < n → (l.length : Int) = n → b (l, i) (.next (setl l i (f i (rdl l i)), i + 1))) (hend : ∀ l, (l.length : Int) = n → b (l, n) (.exit l)) :
    Loop b (List.replicate n.toNat d, 0) (.go ((upto n.toNat).map (fun i => f i d))) := by
  let m := (upto n.toNat).map (fun i => f i d)
  have hm : m.length = n.toNat := by simp [m, upto]
  have key := Loop.of (b := b) (fun _ => .go m) (fun s => (n - s.2).toNat) (fun s => 0 ≤ s.2 ∧ s.2 ≤ n ∧ s.1 = m.take s.2.toNat ++ List.replicate (n.toNat - s.2.toNat) d) (fun s hi => by
    obtain ⟨l, i⟩ := s
    obtain ⟨h0, h1, h2⟩ := hi
    simp only at h0 h1 h2
    have hlen : (l.length : Int) = n := by rw [h2]; simp [hm]; omega
    by_cases h : i < n
    · have hd : rdl l i = d := by
        have hg := rdl_get (l := l) h0 (by omega)
        rw [h2] at hg
        rw [List.getElem?_append_right (by simp; omega)] at hg
        have : (List.take i.toNat m).length = i.toNat := by simp [hm]; omega
        rw [this, Nat.sub_self, List.getElem?_replicate] at hg
        rw [if_pos (by omega)] at hg
        injection hg with hg
        rw [h2]; exact hg.symm
      refine .inl ⟨_, hb i l h0 h hlen, by simp; omega, ⟨by simp; omega, by simp; omega, ?_⟩, rfl⟩
      simp only
      rw [hd]
      apply List.ext_getElem?
      intro k
      unfold setl
      rw [List.getElem?_set, h2]
      by_cases hk : i.toNat = k
      · subst hk
        have hl2 : i.toNat < (List.take i.toNat m ++ List.replicate (n.toNat - i.toNat) d).length := by simp [hm]; omega
        rw [if_pos rfl, if_pos hl2]
        rw [List.getElem?_append_left (by simp [hm]; omega)]
        rw [List.getElem?_take, if_pos (by omega)]
        simp only [m, upto, List.map_map, List.getElem?_map]
        rw [List.getElem?_range (by omega)]
        simp [Function.comp]
        congr 1; omega
      · rw [if_neg hk]
        by_cases hk2 : k < i.toNat
        · rw [List.getElem?_append_left (by simp [hm]; omega), List.getElem?_append_left (by simp [hm]; omega)]
          rw [List.getElem?_take, List.getElem?_take, if_pos hk2, if_pos (by omega)]
        · rw [List.getElem?_append_right (by simp [hm]; omega), List.getElem?_append_right (by simp [hm]; omega)]
          rw [List.getElem?_replicate, List.getElem?_replicate]
          simp only [List.length_take, hm]
          congr 1
          apply propext
          constructor <;> intro <;> omega
    · have : i = n := by omega
      subst this
      refine .inr (.inl ⟨l, hend l hlen, ?_⟩)
      rw [h2]; simp [← hm]) (List.replicate n.toNat d, 0) ⟨Int.le_refl 0, hn, by simp⟩
  exact key
theorem iteR {α : Type} (c : Bool) {a b : α} : if c = true then (if c = true then a else b) = a else (if c = true then a else b) = b := by cases c <;> rfl
def all2B {α β : Type} (test : α → β → Bool) : List α → List β → Bool
  | x :: l, y :: m => test x y && all2B test l m
  | _, _ => true
theorem each2Loop {α β ρ : Type} [Inhabited α] [Inhabited β] {l : List α} {m : List β} {b : Int → Rnd Int Unit ρ → Prop} (test : α → β → Bool) (rv : ρ) (hlen : l.length = m.length)
    (hb : ∀ i, 0 ≤ i → i < (l.length : Int) → (test (rdl l i) (rdl m i) = true → b i (.next (i + 1))) ∧ (test (rdl l i) (rdl m i) = false → b i (.ret rv))) (hend : ∀ i, 0 ≤ i → ¬ i < (l.length : Int) → b i (.exit ())) :
    Loop b 0 (if all2B test l m = true then .go () else .ret rv) := by
  let spec : Int → Fin Unit ρ := fun i => if all2B test (l.drop i.toNat) (m.drop i.toNat) = true then .go () else .ret rv
  have key := Loop.of (b := b) spec (fun i => ((l.length : Int) - i).toNat) (fun i => 0 ≤ i) (fun i hi => by
    by_cases h : i < (l.length : Int)
    · have hd := drop_rdl hi h
      have hd2 := drop_rdl (l := m) hi (by omega)
      obtain ⟨h1, h2⟩ := hb i hi h
      cases ht : test (rdl l i) (rdl m i) with
      | true =>
        refine .inl ⟨i + 1, h1 ht, by omega, by omega, ?_⟩
        show (if _ then _ else _) = (if _ then _ else _)
        rw [hd, hd2]; simp [all2B, ht]
      | false =>
        refine .inr (.inr ⟨rv, h2 ht, ?_⟩)
        show (if _ then _ else _) = _
        rw [hd, hd2]; simp [all2B, ht]
    · refine .inr (.inl ⟨(), hend i hi h, ?_⟩)
      show (if _ then _ else _) = _
      rw [drop_end hi h]; simp [all2B]) 0 (Int.le_refl 0)
  simpa [spec] using key
theorem all2B_eq {α : Type} [DecidableEq α] : ∀ (l m : List α), l.length = m.length → all2B (fun x y => decide (x = y)) l m = decide (l = m)
  | [], [], _ => by simp [all2B]
  | x :: l, y :: m, h => by
    have := all2B_eq l m (by simpa using h)
    simp [all2B, this]
theorem eqLoop {α ρ : Type} [Inhabited α] [DecidableEq α] {l m : List α} {b : Int → Rnd Int Unit ρ → Prop} (rv : ρ) (hlen : l.length = m.length)
    (hb : ∀ i, 0 ≤ i → i < (l.length : Int) → (rdl l i = rdl m i → b i (.next (i + 1))) ∧ (rdl l i ≠ rdl m i → b i (.ret rv))) (hend : ∀ i, 0 ≤ i → ¬ i < (l.length : Int) → b i (.exit ())) :
    Loop b 0 (if l = m then .go () else .ret rv) := by
  have := each2Loop (b := b) (fun x y => decide (x = y)) rv hlen (fun i h0 h1 => ⟨fun h => (hb i h0 h1).1 (by simpa using h), fun h => (hb i h0 h1).2 (by simpa using h)⟩) hend
  rw [all2B_eq l m hlen] at this
  simpa using this
/-- The same loop over two lists of numbers or truths, as it is written for slices.Equal and its like. -/
theorem eqRound {α : Type} [Inhabited α] [DecidableEq α] {l m : List α} {b : Int → Rnd Int Unit Bool → Prop} (hl : l.length ≤ maxLen) (hlen : l.length = m.length)
    (hb : b = fun x1 z1 => if x1 < (l.length : Int) then (InR x1 l.length ∧ InR x1 m.length ∧ if rdl l x1 = rdl m x1 then z1 = .next (IntKind.i64.wrap (x1 + 1)) else z1 = .ret false) else z1 = .exit ()) :
    Loop b 0 (if l = m then .go () else .ret false) := by
  subst hb
  refine eqLoop false hlen (fun i h0 h1 => ⟨fun h => ?_, fun h => ?_⟩) (fun i h0 h1 => by simp only [h1, if_false])
  · simp only [h1, if_true]
    exact ⟨⟨h0, h1⟩, ⟨h0, by omega⟩, by rw [if_pos h, wrap_len hl h0 h1]⟩
  · simp only [h1, if_true]
    exact ⟨⟨h0, h1⟩, ⟨h0, by omega⟩, by rw [if_neg h]; trivial⟩
theorem eqOn {α : Type} [DecidableEq α] {l m : List α} : (if l = m then (.go () : Fin Unit Bool) else .ret false).on (fun _ => decide (l = m) = true) (fun r_ => decide (l = m) = r_) := by
  by_cases h : l = m <;> simp [Fin.on, h]
/-- Rounds over a list that never return. -/
def foldG {α σ : Type} (g : Int → α → σ → σ) : List α → Int → σ → σ
  | [], _, s => s
  | x :: l, i, s => foldG g l (i + 1) (g i x s)
theorem foldF_G {α σ ρ : Type} (g : Int → α → σ → σ) : ∀ (l : List α) (i : Int) (s : σ), foldF (fun i x s => (.go (g i x s) : Fin σ ρ)) l i s = .go (foldG g l i s)
  | [], i, s => rfl
  | x :: l, i, s => foldF_G g l (i + 1) _
theorem foldGLoop {α σ S τ ρ : Type} [Inhabited α] {l : List α} {b : S → Rnd S τ ρ → Prop} (mk : Int → σ → S) (ex : σ → τ) (g : Int → α → σ → σ) (Inv : Int → σ → Prop)
    (hb : ∀ i s, 0 ≤ i → i < (l.length : Int) → Inv i s → b (mk i s) (.next (mk (i + 1) (g i (rdl l i) s))) ∧ Inv (i + 1) (g i (rdl l i) s))
    (hend : ∀ s, Inv l.length s → b (mk l.length s) (.exit (ex s))) (s0 : σ) (h0 : Inv 0 s0) :
    Loop b (mk 0 s0) (.go (ex (foldG g l 0 s0))) ∧ Inv l.length (foldG g l 0 s0) := by
  have := foldLoop (l := l) (b := b) mk ex (fun i x s => .go (g i x s)) Inv (fun i s h0 h1 hi => hb i s h0 h1 hi) hend s0 h0
  rw [foldF_G] at this
  exact ⟨this.1, this.2 _ rfl⟩
end Go.RM
namespace Go.RM.Try
open Go.RM
set_option linter.unusedVariables false
set_option linter.unusedSimpArgs false
def inB (i n : Int) : Bool := decide (i ≥ 0) && decide (i < n)
theorem pds_in.ok (i n : Int) : pds_in.f i n (inB i n) := rfl
theorem r11_in.ok (i n : Int) : r11_in.f i n (inB i n) := rfl
/-- Costs. -/
def costE (cap v : Int) : Int := if cap < 0 ∨ cap > 1048576 then 20 else if v < -1 ∨ v > cap then 21 else 0
theorem cost_Check.ok (cap v : Int) : cost_Check.f cap v (costE cap v) := by
  refine ⟨costE cap v, ?_, rfl⟩
  unfold cost_checks.f costE
  by_cases h : cap < 0 ∨ cap > 1048576
  · simp [h]
  · rw [if_neg (by simpa using h), if_neg h]
    have key := eachLoop (l := [v]) (b := cost_checks.b1 cap [v]) (fun x => !(decide (x < -1) || decide (x > cap))) (21 : Int) (fun i h0 h1 => by
      unfold cost_checks.b1
      simp only [h1, if_true]
      refine ⟨fun ht => ⟨⟨h0, h1⟩, ?_⟩, fun ht => ⟨⟨h0, h1⟩, ?_⟩⟩
      · have hn : ¬ ((decide (rdl [v] i < -1) || decide (rdl [v] i > cap)) = true) := by simpa using ht
        rw [if_neg hn, wrap_len (l := [v]) (by simp [maxLen]) h0 h1]
      · have hn : (decide (rdl [v] i < -1) || decide (rdl [v] i > cap)) = true := by simpa only [Bool.not_eq_false'] using ht
        rw [if_pos hn]; trivial) (fun i h0 h1 => by unfold cost_checks.b1; simp only [h1, if_false])
    refine ⟨_, key, ?_⟩
    by_cases hv : v < -1 ∨ v > cap
    · have : ([v].all fun x => !(decide (x < -1) || decide (x > cap))) = false := by simp; omega
      rw [this, if_pos hv]; rfl
    · have : ([v].all fun x => !(decide (x < -1) || decide (x > cap))) = true := by simp; omega
      rw [this, if_neg hv]; rfl
/-- The first n of 64. -/
def fullM (n : Int) : Int := 2 ^ n.toNat - 1
theorem pow_split {n : Nat} (h : n ≤ 64) : (18446744073709551615 : Int).fdiv (2 ^ (64 - n)) = 2 ^ n - 1 := by
  have hp : (2 : Int) ^ n * 2 ^ (64 - n) = 18446744073709551616 := by rw [← Int.pow_add, show n + (64 - n) = 64 by omega]; decide
  have hpos : (0 : Int) < 2 ^ (64 - n) := Int.pow_pos (by decide)
  rw [Int.fdiv_eq_ediv_of_nonneg _ (Int.le_of_lt hpos)]
  rw [show (18446744073709551615 : Int) = (2 ^ (64 - n) - 1) + (2 ^ n - 1) * 2 ^ (64 - n) by rw [Int.sub_mul, hp]; omega]
  rw [Int.add_mul_ediv_right _ _ (Int.ne_of_gt hpos), Int.ediv_eq_zero_of_lt (by omega) (by omega)]
  omega
theorem bits_Full.ok (n : Int) : bits_Full.f n (if n < 0 ∨ n > 64 then (0, 10) else (fullM n, 0)) := by
  unfold bits_Full.f
  by_cases h : n < 0 ∨ n > 64
  · rw [if_pos (by simpa using h), if_pos h]
  · rw [if_neg (by simpa using h), if_neg h]
    have e1 : IntKind.i64.wrap (64 - n) = 64 - n := wrap64 (by omega) (by omega)
    have e2 : IntKind.u64.wrap (64 - n) = 64 - n := wrapu64 (by omega) (by omega)
    rw [e1, e2]
    refine ⟨by omega, ?_⟩
    have hn : n.toNat ≤ 64 := by omega
    have := pow_split hn
    unfold shrI fullM
    rw [show (min (64 - n).toNat IntKind.u64.bits) = 64 - n.toNat by simp [IntKind.bits]; omega, this]
theorem two_pow_lt {n : Nat} (h : n < 64) : (2 : Int) ^ n < 18446744073709551616 := by
  have h1 : (2 : Nat) ^ n < 2 ^ 64 := Nat.pow_lt_pow_right (by decide) h
  have h2 : ((2 ^ n : Nat) : Int) = (2 : Int) ^ n := by simp
  have h3 : (2 : Nat) ^ 64 = 18446744073709551616 := by decide
  omega
theorem r01_Worth.ok {n : Int} (h0 : 0 ≤ n) (h1 : n < 64) : r01_Worth.f n (2 ^ n.toNat) := by
  have key := Loop.of (b := r01_Worth.b1) (fun _ => (.go (2 ^ n.toNat) : Fin Int Int)) (fun s => s.1.toNat) (fun s => 0 ≤ s.1 ∧ s.1 < 64 ∧ 0 ≤ s.2 ∧ s.2 * 2 ^ s.1.toNat = 2 ^ n.toNat) (fun s hi => by
    obtain ⟨x1, x2⟩ := s
    obtain ⟨i0, i1, i2, i3⟩ := hi
    simp only at i0 i1 i2 i3
    by_cases hx : x1 > 0
    · have hp : (2 : Int) ^ x1.toNat = 2 * 2 ^ (x1 - 1).toNat := by
        rw [show x1.toNat = (x1 - 1).toNat + 1 by omega, Int.pow_succ, Int.mul_comm]
      have hpos : (0 : Int) < 2 ^ (x1 - 1).toNat := Int.pow_pos (by decide)
      have hle : x2 * 2 ≤ x2 * 2 * 2 ^ (x1 - 1).toNat := by have h9 := Int.mul_le_mul_of_nonneg_left (show (1 : Int) ≤ 2 ^ (x1 - 1).toNat by omega) (show 0 ≤ x2 * 2 by omega); rw [Int.mul_one] at h9; exact h9
      have he : x2 * 2 * 2 ^ (x1 - 1).toNat = 2 ^ n.toNat := by rw [← i3, hp, Int.mul_assoc]
      have hlt := two_pow_lt (n := n.toNat) (by omega)
      refine .inl ⟨(x1 - 1, x2 * 2), ?_, by simp; omega, ⟨by simp; omega, by simp; omega, by simp; omega, he⟩, rfl⟩
      unfold r01_Worth.b1
      simp only [hx, if_true]
      rw [wrap64 (by omega) (by omega), wrapu64 (by omega) (by omega)]
    · have hz : x1 = 0 := by omega
      subst hz
      refine .inr (.inl ⟨x2, by unfold r01_Worth.b1; simp, ?_⟩)
      have : x2 = 2 ^ n.toNat := by simpa using i3
      rw [this]) (n, 1) ⟨h0, h1, Int.zero_le_ofNat 1, by simp⟩
  exact ⟨_, key, rfl⟩
theorem r01_Full.ok (n : Int) : r01_Full.f n (if n < 0 ∨ n > 64 then (0, 10) else (fullM n, 0)) := by
  unfold r01_Full.f
  by_cases h : n < 0 ∨ n > 64
  · rw [if_pos (by simpa using h), if_pos h]
  · rw [if_neg (by simpa using h), if_neg h]
    have key := Loop.of (b := r01_Full.b1 n) (fun _ => (.go (fullM n) : Fin Int (Int × Int))) (fun s => (n - s.2).toNat) (fun s => 0 ≤ s.2 ∧ s.2 ≤ n ∧ s.1 = fullM s.2) (fun s hi => by
      obtain ⟨x1, x2⟩ := s
      obtain ⟨i0, i1, i2⟩ := hi
      simp only at i0 i1 i2
      by_cases hx : x2 < n
      · have hlt := two_pow_lt (n := x2.toNat) (by omega)
        have hpos : (0 : Int) < 2 ^ x2.toNat := Int.pow_pos (by decide)
        have hp : (2 : Int) ^ (x2 + 1).toNat = 2 ^ x2.toNat * 2 := by rw [show (x2 + 1).toNat = x2.toNat + 1 by omega, Int.pow_succ]
        have hs : x1 + 2 ^ x2.toNat = fullM (x2 + 1) := by rw [i2]; unfold fullM; rw [hp]; omega
        have hle : (2 : Int) ^ x2.toNat ≤ 9223372036854775808 := by
          have h1 : (2 : Nat) ^ x2.toNat ≤ 2 ^ 63 := Nat.pow_le_pow_right (by decide) (by omega)
          have h2 : ((2 ^ x2.toNat : Nat) : Int) = (2 : Int) ^ x2.toNat := by simp
          have h3 : (2 : Nat) ^ 63 = 9223372036854775808 := by decide
          omega
        refine .inl ⟨(fullM (x2 + 1), x2 + 1), ?_, by simp; omega, ⟨by simp; omega, by simp; omega, rfl⟩, rfl⟩
        unfold r01_Full.b1
        simp only [hx, if_true]
        refine ⟨_, r01_Worth.ok i0 (by omega), ?_⟩
        rw [hs, wrap64 (by omega) (by omega), wrapu64 (by unfold fullM; rw [hp]; omega) (by unfold fullM; rw [hp]; omega)]
      · have hz : x2 = n := by omega
        subst hz
        exact .inr (.inl ⟨x1, by unfold r01_Full.b1; simp, by rw [i2]⟩)) (0, 0) ⟨by decide, by simp; omega, by simp [fullM]⟩
    exact ⟨_, key, rfl⟩
end Go.RM.Try
namespace Go.RM.Try
open Go.RM
set_option linter.unusedVariables false
set_option linter.unusedSimpArgs false
/-- A space without parts. -/
def spaceOk1 (s : TSpace) : Bool :=
  if s.Tag = 1 then (s.Dim == 0) && ((s.Parts.length : Int) == 0)
  else if s.Tag = 2 then decide (s.Dim ≥ 0) && (decide (s.Dim ≤ 1048576) && ((s.Parts.length : Int) == 0))
  else if s.Tag = 3 ∨ s.Tag = 4 then decide (s.Dim ≥ 0) && (decide (s.Dim ≤ 64) && ((s.Parts.length : Int) == 0))
  else false
def spaceOk (s : TSpace) : Bool :=
  if s.Tag = 5 then (s.Dim == 0) && (((s.Parts.length : Int) == 2) && s.Parts.all (fun p => !(p.Tag == 5) && spaceOk1 p)) else spaceOk1 s
theorem weight_Space.step1 {self : TSpace → Int → Prop} {s : TSpace} (h : s.Tag ≠ 5) : weight_Space.step self s (if spaceOk1 s = true then 0 else 50) := by
  unfold weight_Space.step weight_Space.j1 spaceOk1
  by_cases h1 : s.Tag = 1
  · simp only [h1, if_true]; exact iteR _
  · by_cases h2 : s.Tag = 2
    · simp only [h2, Int.reduceEq, if_true, if_false]; exact iteR _
    · by_cases h3 : s.Tag = 3
      · simp only [h3, Int.reduceEq, if_true, if_false, true_or]; exact iteR _
      · by_cases h4 : s.Tag = 4
        · simp only [h4, Int.reduceEq, if_true, if_false, or_true]; exact iteR _
        · simp [h1, h2, h3, h4, h]
theorem spaceOk_ne {s : TSpace} (h : s.Tag ≠ 5) : spaceOk s = spaceOk1 s := by unfold spaceOk; rw [if_neg h]
theorem weight_Space.ok {s : TSpace} (hl : s.Parts.length ≤ maxLen) : weight_Space.f s (if spaceOk s = true then 0 else 50) := by
  refine ⟨2, ?_⟩
  by_cases h : s.Tag = 5
  · show weight_Space.step _ s _
    unfold weight_Space.step spaceOk
    simp only [h, if_true, if_false, show ¬ (5 : Int) = 1 by decide, show ¬ (5 : Int) = 2 by decide, show ¬ (5 : Int) = 3 by decide, show ¬ (5 : Int) = 4 by decide]
    refine ⟨s.Parts.any (fun p => (p.Tag == 5) || !spaceOk1 p), fun _ _ => ?_, ?_⟩
    · refine containsFunc (fun p => (p.Tag == 5) || !spaceOk1 p) hl (fun p hp => ?_) rfl
      refine ⟨if spaceOk1 p = true then 0 else 50, fun hn => weight_Space.step1 hn, ?_⟩
      cases spaceOk1 p <;> simp
    · have e : (!s.Parts.any (fun p => (p.Tag == 5) || !spaceOk1 p)) = s.Parts.all (fun p => !(p.Tag == 5) && spaceOk1 p) := by
        rw [List.all_eq_not_any_not]; simp
      rw [e]
      exact iteR _
  · rw [spaceOk_ne h]; exact weight_Space.step1 h
theorem r05_Space.step1 {self : TSpace → Int → Prop} {s : TSpace} (h : s.Tag ≠ 5) : r05_Space.step self s (if spaceOk1 s = true then 0 else 50) := by
  unfold r05_Space.step r05_Space.j1 spaceOk1
  by_cases h1 : s.Tag = 1
  · simp only [h1, if_true]; exact iteR _
  · by_cases h2 : s.Tag = 2
    · simp only [h2, Int.reduceEq, if_true, if_false]; exact iteR _
    · by_cases h3 : s.Tag = 3
      · simp only [h3, Int.reduceEq, if_true, if_false, true_or, beq_self_eq_true]; exact iteR _
      · by_cases h4 : s.Tag = 4
        · simp only [h4, Int.reduceEq, if_true, if_false, or_true, beq_self_eq_true]; exact iteR _
        · simp [h1, h2, h3, h4, h]
theorem r05_Space.ok {s : TSpace} (hl : s.Parts.length ≤ maxLen) : r05_Space.f s (if spaceOk s = true then 0 else 50) := by
  refine ⟨2, ?_⟩
  by_cases h : s.Tag = 5
  · show r05_Space.step _ s _
    unfold r05_Space.step spaceOk r05_Space.j1
    simp only [h, if_true, if_false, show ¬ (5 : Int) = 1 by decide, show ¬ (5 : Int) = 2 by decide, show ¬ (5 : Int) = 3 by decide, show ((5 : Int) == 4) = false by decide, Bool.false_eq_true]
    by_cases hd : ((s.Dim == 0) && ((s.Parts.length : Int) == 2)) = true
    · obtain ⟨a, b, hp⟩ : ∃ a b, s.Parts = [a, b] := by
        have : s.Parts.length = 2 := by simp at hd; omega
        match hs : s.Parts, this with
        | [a, b], _ => exact ⟨a, b, rfl⟩
      have hq : ∀ p : TSpace, ¬ p.Tag = 5 → r05_Space.fN 1 p (if spaceOk1 p = true then 0 else 50) := fun p hn => r05_Space.step1 hn
      have hx : ∀ p : TSpace, ((!(p.Tag == 5)) && ((if spaceOk1 p = true then (0 : Int) else 50) == 0)) = (!(p.Tag == 5) && spaceOk1 p) := fun p => by cases spaceOk1 p <;> simp
      have r1 : r05_Space.b1 (r05_Space.fN 1) s (true, 0) (.next (!(a.Tag == 5) && spaceOk1 a, 1)) := by
        unfold r05_Space.b1
        simp only [hp]
        refine ⟨⟨by decide, by simp⟩, fun _ => ⟨by decide, by simp⟩, _, hq a, ?_⟩
        rw [show rdl [a, b] 0 = a from rfl, hx a]; rfl
      have r2 : (!(a.Tag == 5) && spaceOk1 a) = true → r05_Space.b1 (r05_Space.fN 1) s (true, 1) (.next (!(b.Tag == 5) && spaceOk1 b, 2)) := fun _ => by
        unfold r05_Space.b1
        simp only [hp]
        refine ⟨⟨by decide, by simp⟩, fun _ => ⟨by decide, by simp⟩, _, hq b, ?_⟩
        rw [show rdl [a, b] 1 = b from rfl, hx b]; rfl
      have r3 : ∀ c, r05_Space.b1 (r05_Space.fN 1) s (c, 2) (.exit c) := fun c => by unfold r05_Space.b1; simp [hp]
      have r4 : r05_Space.b1 (r05_Space.fN 1) s (false, 1) (.exit false) := by unfold r05_Space.b1; simp [hp]
      rw [hd]
      rw [Bool.and_eq_true] at hd
      rw [hd.1, hd.2, hp]
      cases ha : (!(a.Tag == 5) && spaceOk1 a) with
      | false =>
        rw [ha] at r1
        refine ⟨_, .next r1 (.exit r4), ?_⟩
        simp [Fin.on, ha]
      | true =>
        rw [ha] at r1
        refine ⟨_, .next r1 (.next (r2 ha) (.exit (r3 _))), ?_⟩
        simp only [Fin.on, List.all_cons, List.all_nil, ha, Bool.true_and, Bool.and_true]
        exact iteR _
    · have hd' : ((s.Dim == 0) && ((s.Parts.length : Int) == 2)) = false := by simpa only [Bool.not_eq_true] using hd
      rw [hd', ← Bool.and_assoc, hd']
      refine ⟨.go false, .exit ?_, ?_⟩
      · unfold r05_Space.b1; simp
      · simp [Fin.on]
  · rw [spaceOk_ne h]; exact r05_Space.step1 h
end Go.RM.Try
namespace Go.RM.Try
open Go.RM
set_option linter.unusedVariables false
set_option linter.unusedSimpArgs false
/-- A weight that has nothing but what is named. -/
def plainB (w : TWeight) (c f e p : Bool) : Bool :=
  (c || w.Cost == 0) && ((f || (w.Facts.Gen == 0 && (w.Facts.Rows.length : Int) == 0)) && ((e || (w.Cells.length : Int) == 0) && (p || (w.Parts.length : Int) == 0)))
theorem r05_plain.ok (w : TWeight) (c f e p : Bool) : r05_plain.f w c f e p (plainB w c f e p) := by
  unfold r05_plain.f plainB
  cases c <;> cases f <;> cases e <;> cases p <;> simp [Bool.and_assoc]
/-- Sizes that a reading keeps. -/
def TWeight.Sized (w : TWeight) : Prop := w.Facts.Rows.length ≤ 17592186044416 ∧ w.Cells.length ≤ 17592186044416 ∧ w.Parts.length ≤ 17592186044416
theorem TWeight.Fit.sized {w : TWeight} (h : w.Fit) : w.Sized := by
  cases h with
  | mk _ h0 h1 h2 h3 h4 h5 h6 h7 h8 =>
    have := h2.2.1
    exact ⟨by omega, by omega, by omega⟩
theorem weight_bare.ok {w : TWeight} (h : w.Sized) (t : Int) : weight_bare.f w t (plainB w (t == 2) (t == 3) (t == 4) (t == 5)) := by
  obtain ⟨ha, hb, hc⟩ := h
  have e : ∀ a b c : Nat, a ≤ 17592186044416 → b ≤ 17592186044416 → c ≤ 17592186044416 → (IntKind.i64.wrap (IntKind.i64.wrap ((a : Int) + b) + c) == 0) = (((a : Int) == 0) && (((b : Int) == 0) && ((c : Int) == 0))) := by
    intro a b c h1 h2 h3
    rw [wrap64 (i := (a : Int) + b) (by omega) (by omega), wrap64 (by omega) (by omega), Bool.eq_iff_iff]
    simp only [beq_iff_eq, Bool.and_eq_true]
    omega
  have z : ((([] : List Int).length : Nat) : Int) = 0 := rfl
  unfold weight_bare.f weight_bare.j1 plainB
  by_cases h2 : t = 2
  · subst h2; rw [if_pos rfl]; simp only []; rw [e _ _ _ ha hb hc]; simp [Bool.and_assoc]
  · by_cases h3 : t = 3
    · subst h3; simp only [Int.reduceEq, if_true, if_false]; rw [e _ _ _ (by simp) hb hc]; simp
    · by_cases h4 : t = 4
      · subst h4; simp only [Int.reduceEq, if_true, if_false]; rw [e _ _ _ ha (by simp) hc]; simp [Bool.and_assoc]
      · by_cases h5 : t = 5
        · subst h5; simp only [Int.reduceEq, if_true, if_false]; rw [e _ _ _ ha hb (by simp)]; simp [Bool.and_assoc]
        · simp only [h2, h3, h4, h5, if_false]; rw [e _ _ _ ha hb hc]
          rw [beq_false_of_ne h2, beq_false_of_ne h3, beq_false_of_ne h4, beq_false_of_ne h5]
          simp only [Bool.false_or, Bool.and_assoc]
/-- Cells. -/
def cellOk (n : Int) (c : TCell) : Bool :=
  (bitOp .andNot .u64 c.From (fullM n) == 0) && (if c.Kind = 0 then c.K == 0 else if c.Kind = 1 then true else if c.Kind = 2 then (c.K == 0) && (c.From == 0) else false)
theorem cells_mask.ok {n : Int} (h0 : 0 ≤ n) (h1 : n ≤ 64) : cells_mask.f n (fullM n) := by
  unfold cells_mask.f
  by_cases h : n ≥ 64
  · have : n = 64 := by omega
    subst this
    simp only [ge_iff_le, Int.le_refl, if_true]; decide
  · rw [if_neg h]
    refine ⟨h0, ?_⟩
    have hlt := two_pow_lt (n := n.toNat) (by omega)
    have hpos : (0 : Int) < 2 ^ n.toNat := Int.pow_pos (by decide)
    have e : shlI .u64 1 n = 2 ^ n.toNat := by
      unfold shlI
      rw [show (min n.toNat IntKind.u64.bits) = n.toNat by simp [IntKind.bits]; omega]
      rw [Int.one_mul, wrapu64 (by omega) hlt]
    rw [e, wrapu64 (by omega) (by omega)]
    rfl
theorem cells_right.ok {n : Int} (h0 : 0 ≤ n) (h1 : n ≤ 64) (c : TCell) : cells_right.f n c (cellOk n c) := by
  refine ⟨_, cells_mask.ok h0 h1, ?_⟩
  unfold cellOk
  by_cases hm : bitOp .andNot .u64 c.From (fullM n) = 0
  · simp only [hm, if_true, beq_self_eq_true, Bool.true_and]
    by_cases k1 : c.Kind = 1
    · simp [k1]
    · by_cases k0 : c.Kind = 0
      · simp [k0]
      · by_cases k2 : c.Kind = 2
        · simp [k2, Bool.and_comm]
        · simp [k0, k1, k2]
  · simp [hm]
theorem fullI {n : Int} (h0 : 0 ≤ n) (h1 : n ≤ 64) : (if n < 0 ∨ n > 64 then ((0, 10) : Int × Int) else (fullM n, 0)) = (fullM n, 0) := by rw [if_neg (by omega)]
theorem r03_Inside.ok {n : Int} (h0 : 0 ≤ n) (h1 : n ≤ 64) (x : Int) : r03_Inside.f n x (bitOp .andNot .u64 x (fullM n) == 0) := by
  have := r01_Full.ok n
  rw [fullI h0 h1] at this
  exact ⟨_, this, rfl⟩
theorem r05_cell.ok {n : Int} (h0 : 0 ≤ n) (h1 : n ≤ 64) (c : TCell) : r05_cell.f n c (cellOk n c) := by
  refine ⟨_, r03_Inside.ok h0 h1 _, ?_⟩
  unfold cellOk
  by_cases hm : bitOp .andNot .u64 c.From (fullM n) = 0
  · simp only [hm, if_true, beq_self_eq_true, Bool.true_and]
    by_cases k0 : c.Kind = 0
    · simp [k0]
    · by_cases k1 : c.Kind = 1
      · simp [k1]
      · by_cases k2 : c.Kind = 2
        · simp [k2]
        · simp [k0, k1, k2]
  · simp [hm]
def cellsOk (n : Int) (l : List TCell) : Bool := ((l.length : Int) == n) && l.all (cellOk n)
theorem cells_Check.ok {n : Int} (h0 : 0 ≤ n) (h1 : n ≤ 64) {l : List TCell} (hl : l.length ≤ maxLen) : cells_Check.f n l (if cellsOk n l = true then 0 else 40) := by
  refine ⟨0, ?_, ?_⟩
  · unfold cells_dims.f; rw [if_neg (by simp; omega)]
  · simp only [if_true]
    unfold cellsOk
    by_cases hn : (l.length : Int) = n
    · rw [if_pos hn]
      have key := eachLoop (l := l) (b := cells_Check.b1 n l) (cellOk n) (40 : Int) (fun i i0 i1 => by
        unfold cells_Check.b1
        simp only [i1, if_true]
        exact ⟨fun ht => ⟨⟨i0, i1⟩, _, cells_right.ok h0 h1 _, by rw [ht, if_pos rfl, wrap_len hl i0 i1]⟩, fun ht => ⟨⟨i0, i1⟩, _, cells_right.ok h0 h1 _, by rw [ht]; simp⟩⟩) (fun i i0 i1 => by unfold cells_Check.b1; rw [if_neg i1])
      refine ⟨_, key, ?_⟩
      cases l.all (cellOk n) <;> simp [Fin.on, hn]
    · rw [if_neg hn]
      simp [hn]
end Go.RM.Try
namespace Go.RM.Try
open Go.RM
set_option linter.unusedVariables false
set_option linter.unusedSimpArgs false
theorem slices_Equal_uint64.ok {a b : List Int} (hl : a.length ≤ maxLen) : slices_Equal_uint64.f a b (decide (a = b)) := by
  unfold slices_Equal_uint64.f
  by_cases h : (a.length : Int) = b.length
  · rw [if_pos h]
    exact ⟨_, eqRound hl (by omega) rfl, eqOn⟩
  · rw [if_neg h]
    have : a ≠ b := fun e => h (by rw [e])
    simp [this]
def factsEq (a b : TFacts) : Bool := (a.Gen == b.Gen) && decide (a.Rows = b.Rows)
theorem facts_Same.ok {a b : TFacts} (hl : a.Rows.length ≤ maxLen) : facts_Same.f a b (factsEq a b) :=
  ⟨_, fun _ => slices_Equal_uint64.ok hl, rfl⟩
theorem r03_Same.ok {a b : TFacts} (hl : a.Rows.length ≤ maxLen) : r03_Same.f a b (factsEq a b) := by
  unfold r03_Same.f factsEq
  by_cases hg : a.Gen = b.Gen
  · by_cases h : (a.Rows.length : Int) = b.Rows.length
    · rw [if_neg (by simp [hg, h])]
      refine ⟨_, eqRound hl (by omega) rfl, ?_⟩
      simp only [hg, beq_self_eq_true, Bool.true_and]
      exact eqOn
    · rw [if_pos (by simp [h])]
      have : a.Rows ≠ b.Rows := fun e => h (by rw [e])
      simp [this]
  · rw [if_pos (by simp [hg])]
    simp [hg]
def canonM (F : TFacts) : TFacts := ⟨F.Gen, F.Rows.map (fun r => bitOp .andNot .u64 r F.Gen)⟩
theorem upto_rdl {α : Type} [Inhabited α] (l : List α) : (upto l.length).map (rdl l) = l := by
  apply List.ext_getElem?
  intro k
  simp only [upto, List.map_map, List.getElem?_map]
  by_cases h : k < l.length
  · rw [List.getElem?_range h]
    have := rdl_get (l := l) (i := (k : Int)) (by omega) (by omega)
    simp only [Int.toNat_natCast] at this
    rw [this]; rfl
  · rw [List.getElem?_eq_none (by simp; omega), List.getElem?_eq_none (by omega)]; rfl
theorem facts_canon.ok {F : TFacts} (h : F.Rows.length ≤ 17592186044416) : facts_canon.f F (canonM F) := by
  refine ⟨⟨by omega, by unfold Fits; omega⟩, ?_⟩
  have hm : F.Rows.length ≤ maxLen := by unfold maxLen; omega
  have key := fillLoop (n := (F.Rows.length : Int)) (b := facts_canon.b1 F) (0 : Int) (fun i _ => bitOp .andNot .u64 (rdl F.Rows i) F.Gen) (by omega) (fun i l h0 h1 hl => by
    unfold facts_canon.b1
    simp only [h1, if_true]
    exact ⟨⟨h0, h1⟩, ⟨h0, by omega⟩, by rw [wrap_len hm h0 h1]⟩) (fun l hl => by
    unfold facts_canon.b1
    simp)
  refine ⟨_, key, ?_⟩
  show canonM F = _
  unfold canonM
  congr 1
  have : F.Rows.map (fun r => bitOp .andNot .u64 r F.Gen) = ((upto F.Rows.length).map (rdl F.Rows)).map (fun r => bitOp .andNot .u64 r F.Gen) := by rw [upto_rdl]
  rw [this, List.map_map]; simp [Function.comp_def]
theorem r03_canon.ok {F : TFacts} (h : F.Rows.length ≤ 17592186044416) : r03_canon.f F (canonM F) := by
  have hm : F.Rows.length ≤ maxLen := by unfold maxLen; omega
  have key := foldLoop (l := F.Rows) (b := r03_canon.b1 F) (fun i l => (l, i)) id (fun _ x acc => .go (acc ++ [bitOp .andNot .u64 x F.Gen])) (fun i l => (l.length : Int) = i) (fun i l h0 h1 hi => by
    refine ⟨?_, by simp; omega⟩
    unfold r03_canon.b1
    simp only [h1, if_true]
    exact ⟨⟨h0, h1⟩, by unfold Fits; omega, by rw [wrap_len hm h0 h1]⟩) (fun l hl => by unfold r03_canon.b1; simp) [] rfl
  refine ⟨_, key.1, ?_⟩
  rw [foldF_map]
  rfl
/-- Facts of n that are written as they are to be. -/
def factsOk (n : Int) (F : TFacts) : Bool :=
  ((F.Rows.length : Int) == n) && ((bitOp .andNot .u64 F.Gen (fullM n) == 0) && (F.Rows.all (fun x => bitOp .andNot .u64 x (fullM n) == 0) && factsEq (canonM F) F))
theorem canonM_len (F : TFacts) : (canonM F).Rows.length = F.Rows.length := by simp [canonM]
theorem facts_Check.ok {n : Int} (h0 : 0 ≤ n) (h1 : n ≤ 64) {F : TFacts} (hl : F.Rows.length ≤ 17592186044416) : facts_Check.f n F (if factsOk n F = true then 0 else 30) := by
  have hm : F.Rows.length ≤ maxLen := by unfold maxLen; omega
  let a := F.Rows.any (fun x => bitOp .andNot .u64 x (fullM n) != 0)
  have hs : facts_shaped.f n F (if ((!((F.Rows.length : Int) == n)) || ((!((bitOp .andNot .u64 F.Gen (fullM n)) == 0)) || a)) = true then 30 else 0) := by
    have hf := bits_Full.ok n
    rw [fullI h0 h1] at hf
    refine ⟨_, hf, ?_⟩
    simp only [if_true]
    refine ⟨a, fun _ _ => containsFunc (q := fun x0_ y_ => facts_shaped_1.f x0_ (fullM n) y_) (fun x => bitOp .andNot .u64 x (fullM n) != 0) hm (fun x hx => rfl) rfl, iteR _⟩
  refine ⟨_, hs, ?_⟩
  have e : F.Rows.all (fun x => bitOp .andNot .u64 x (fullM n) == 0) = !a := by simp [a, List.all_eq_not_any_not]; rfl
  unfold factsOk
  rw [e]
  by_cases hn : (F.Rows.length : Int) = n
  · by_cases hg : bitOp .andNot .u64 F.Gen (fullM n) = 0
    · cases ha : a with
      | false =>
        simp only [hn, hg, beq_self_eq_true, Bool.not_true, Bool.or_self, Bool.false_eq_true, if_false, if_true]
        refine ⟨_, facts_canon.ok hl, _, facts_Same.ok (by rw [canonM_len]; exact hm), ?_⟩
        cases factsEq (canonM F) F <;> simp
      | true => simp [hn, hg]
    · simp [hg]
  · simp [hn]
theorem r03_Check.ok {n : Int} (h0 : 0 ≤ n) (h1 : n ≤ 64) {F : TFacts} (hl : F.Rows.length ≤ 17592186044416) : r03_Check.f n F (if factsOk n F = true then 0 else 30) := by
  have hm : F.Rows.length ≤ maxLen := by unfold maxLen; omega
  let s : Bool := ((F.Rows.length : Int) == n) && ((bitOp .andNot .u64 F.Gen (fullM n) == 0) && F.Rows.all (fun x => bitOp .andNot .u64 x (fullM n) == 0))
  have hs : r03_shape.f n F s := by
    refine ⟨_, fun _ => r03_Inside.ok h0 h1 _, ?_⟩
    by_cases hn : (F.Rows.length : Int) = n
    · by_cases hg : bitOp .andNot .u64 F.Gen (fullM n) = 0
      · rw [if_neg (by simp [hn, hg])]
        have key := eachLoop (l := F.Rows) (b := r03_shape.b1 n F) (fun x => bitOp .andNot .u64 x (fullM n) == 0) false (fun i i0 i1 => by
          unfold r03_shape.b1
          have i2 : i < n := by omega
          simp only [i2, if_true]
          exact ⟨fun ht => ⟨⟨i0, i1⟩, _, r03_Inside.ok h0 h1 _, by rw [ht, if_pos rfl, wrap_len hm i0 i1]⟩, fun ht => ⟨⟨i0, i1⟩, _, r03_Inside.ok h0 h1 _, by rw [ht]; simp⟩⟩) (fun i i0 i1 => by unfold r03_shape.b1; rw [if_neg (by omega)])
        refine ⟨_, key, ?_⟩
        simp only [s, hn, hg, beq_self_eq_true, Bool.true_and]
        cases F.Rows.all (fun x => bitOp .andNot .u64 x (fullM n) == 0) <;> simp [Fin.on]
      · rw [if_pos (by simp [hg])]; simp [s, hg]
    · rw [if_pos (by simp [hn])]; simp [s, hn]
  refine ⟨true, ?_, ?_⟩
  · unfold r03_dim.f; simp; omega
  · rw [if_pos rfl]
    refine ⟨_, hs, _, fun _ => r03_canon.ok hl, _, fun _ => r03_Same.ok (by rw [canonM_len]; exact hm), ?_⟩
    have e : factsOk n F = (s && factsEq (canonM F) F) := by simp [factsOk, s, Bool.and_assoc]
    rw [e]
    cases s <;> cases factsEq (canonM F) F <;> simp
end Go.RM.Try
namespace Go.RM.Try
open Go.RM
set_option linter.unusedVariables false
set_option linter.unusedSimpArgs false
def isW1 (s : TSpace) (w : TWeight) : Bool :=
  if w.Zero = true then plainB w false false false false
  else plainB w (s.Tag == 2) (s.Tag == 3) (s.Tag == 4) false && (if s.Tag = 2 then decide (w.Cost ≥ 0) && decide (w.Cost ≤ s.Dim) else if s.Tag = 3 then factsOk s.Dim w.Facts else if s.Tag = 4 then cellsOk s.Dim w.Cells else true)
def isW (s : TSpace) (w : TWeight) : Bool :=
  if s.Tag = 5 then (!w.Zero) && (plainB w false false false true && (((w.Parts.length : Int) == 2) && (isW1 (rdl s.Parts 0) (rdl w.Parts 0) && isW1 (rdl s.Parts 1) (rdl w.Parts 1)))) else isW1 s w
def TWeight.Sized2 (w : TWeight) : Prop := w.Sized ∧ ∀ p ∈ w.Parts, p.Sized
theorem TWeight.Fit.sized2 {w : TWeight} (h : w.Fit) : w.Sized2 := ⟨h.sized, by
  cases h with
  | mk _ h0 h1 h2 h3 h4 h5 h6 h7 h8 => exact fun p hp => (h8 p hp).sized⟩
/-- The kinds of spaces without parts. -/
theorem space1_cases {s : TSpace} (h : spaceOk1 s = true) : (s.Tag = 1 ∧ s.Dim = 0) ∨ (s.Tag = 2 ∧ 0 ≤ s.Dim ∧ s.Dim ≤ 1048576) ∨ (s.Tag = 3 ∧ 0 ≤ s.Dim ∧ s.Dim ≤ 64) ∨ (s.Tag = 4 ∧ 0 ≤ s.Dim ∧ s.Dim ≤ 64) := by
  unfold spaceOk1 at h
  by_cases h1 : s.Tag = 1
  · simp [h1] at h; exact .inl ⟨h1, h.1⟩
  · by_cases h2 : s.Tag = 2
    · simp [h2] at h; exact .inr (.inl ⟨h2, h.1, h.2.1⟩)
    · by_cases h3 : s.Tag = 3
      · simp [h3] at h; exact .inr (.inr (.inl ⟨h3, h.1, h.2.1⟩))
      · by_cases h4 : s.Tag = 4
        · simp [h4] at h; exact .inr (.inr (.inr ⟨h4, h.1, h.2.1⟩))
        · simp [h1, h2, h3, h4] at h
theorem space_parts {s : TSpace} (h : spaceOk s = true) (h5 : s.Tag = 5) : ∃ a b, s.Parts = [a, b] ∧ spaceOk1 a = true ∧ spaceOk1 b = true ∧ a.Tag ≠ 5 ∧ b.Tag ≠ 5 ∧ s.Dim = 0 := by
  unfold spaceOk at h
  rw [if_pos h5] at h
  rw [Bool.and_eq_true, Bool.and_eq_true] at h
  obtain ⟨hd, hl, ha⟩ := h
  have : s.Parts.length = 2 := by simp at hl; omega
  match hs : s.Parts, this with
  | [a, b], _ =>
    rw [hs] at ha
    simp at ha hd
    exact ⟨a, b, rfl, ha.1.2, ha.2.2, ha.1.1, ha.2.1, hd⟩
theorem weight_is.step1 {self : TSpace → TWeight → Bool → Prop} {s : TSpace} {w : TWeight} (hs : spaceOk1 s = true) (hw : w.Sized) : weight_is.step self s w (isW1 s w) := by
  have hm : w.Cells.length ≤ maxLen := by have := hw.2.1; unfold maxLen; omega
  unfold weight_is.step isW1
  cases hz : w.Zero with
  | true =>
    rw [if_pos rfl, if_pos rfl]
    refine ⟨_, fun _ => weight_bare.ok hw 0, ?_⟩
    have h5 : s.Tag ≠ 5 := by rcases space1_cases hs with h | h | h | h <;> omega
    simp [h5]
  | false =>
    rw [if_neg Bool.false_ne_true, if_neg Bool.false_ne_true]
    have h5 : s.Tag ≠ 5 := by rcases space1_cases hs with h | h | h | h <;> omega
    refine ⟨_, weight_bare.ok hw s.Tag, ?_⟩
    rw [beq_false_of_ne h5]
    cases hp : plainB w (s.Tag == 2) (s.Tag == 3) (s.Tag == 4) false with
    | false => simp
    | true =>
      rw [if_pos rfl, Bool.true_and]
      rcases space1_cases hs with h | h | h | h
      · simp [h.1]
      · simp only [h.1, Int.reduceEq, if_true, if_false]
        refine ⟨_, fun _ => cost_Check.ok _ _, ?_⟩
        unfold costE
        rw [if_neg (by omega), Bool.eq_iff_iff]
        by_cases hv : w.Cost < -1 ∨ w.Cost > s.Dim
        · rw [if_pos hv]; simp; omega
        · rw [if_neg hv]; simp; omega
      · simp only [h.1, Int.reduceEq, if_true, if_false]
        refine ⟨_, facts_Check.ok h.2.1 h.2.2 hw.1, ?_⟩
        cases factsOk s.Dim w.Facts <;> simp
      · simp only [h.1, Int.reduceEq, if_true, if_false]
        refine ⟨_, cells_Check.ok h.2.1 h.2.2 hm, ?_⟩
        cases cellsOk s.Dim w.Cells <;> simp
theorem isW_ne {s : TSpace} {w : TWeight} (h : s.Tag ≠ 5) : isW s w = isW1 s w := by unfold isW; rw [if_neg h]
theorem part_sized {w : TWeight} (hw : w.Sized2) {i : Int} (h0 : 0 ≤ i) (h1 : i < w.Parts.length) : (rdl w.Parts i).Sized := hw.2 _ (rdl_mem h0 h1)
theorem weight_is.ok {s : TSpace} {w : TWeight} (hs : spaceOk s = true) (hw : w.Sized2) : weight_is.f s w (isW s w) := by
  refine ⟨2, ?_⟩
  by_cases h5 : s.Tag = 5
  · obtain ⟨a, b, hp, ha, hb, _, _, hd⟩ := space_parts hs h5
    show weight_is.step (weight_is.fN 1) s w _
    unfold weight_is.step isW
    rw [if_pos h5]
    cases hz : w.Zero with
    | true =>
      rw [if_pos rfl]
      exact ⟨false, fun h => (h h5).elim, by simp [h5]⟩
    | false =>
      rw [if_neg Bool.false_ne_true]
      refine ⟨_, weight_bare.ok hw.1 s.Tag, ?_⟩
      simp only [h5, Int.reduceBEq]
      cases hb : plainB w false false false true with
      | false => simp
      | true =>
        simp only [Int.reduceEq, if_true, if_false, hp]
        by_cases h2 : (w.Parts.length : Int) = 2
        · refine ⟨fun _ => ⟨by decide, by simp⟩, fun _ => ⟨by decide, by omega⟩, _, fun _ => weight_is.step1 (self := weight_is.fN 0) ha (part_sized hw (by decide) (by omega)), fun _ _ => ⟨by decide, by simp⟩, fun _ _ => ⟨by decide, by omega⟩, _, fun _ _ => weight_is.step1 (self := weight_is.fN 0) (by assumption) (part_sized hw (by decide) (by omega)), ?_⟩
          simp [h2]
        · refine ⟨fun h => (h2 h).elim, fun h => (h2 h).elim, false, fun h => (h2 h).elim, fun h => (h2 h).elim, fun h => (h2 h).elim, false, fun h => (h2 h).elim, ?_⟩
          simp [h2]
  · have h1 : spaceOk1 s = true := by rw [← spaceOk_ne h5]; exact hs
    rw [isW_ne h5]; exact weight_is.step1 h1 hw.1
theorem r05_is.step1 {self : TSpace → TWeight → Bool → Prop} {s : TSpace} {w : TWeight} (hs : spaceOk1 s = true) (hw : w.Sized) : r05_is.step self s w (isW1 s w) := by
  have hm : w.Cells.length ≤ maxLen := by have := hw.2.1; unfold maxLen; omega
  unfold r05_is.step isW1
  have h5 : s.Tag ≠ 5 := by rcases space1_cases hs with h | h | h | h <;> omega
  cases hz : w.Zero with
  | true =>
    rw [if_pos rfl, if_pos rfl]
    exact ⟨_, fun _ => r05_plain.ok w false false false false, by simp [h5]⟩
  | false =>
    rw [if_neg Bool.false_ne_true, if_neg Bool.false_ne_true]
    rcases space1_cases hs with h | h | h | h
    · simp only [h.1, Int.reduceEq, Int.reduceBEq, if_true, if_false, Bool.and_true]
      exact ⟨_, r05_plain.ok w false false false false, rfl⟩
    · simp only [h.1, Int.reduceEq, Int.reduceBEq, if_true, if_false]
      exact ⟨_, r05_plain.ok w true false false false, rfl⟩
    · simp only [h.1, Int.reduceEq, Int.reduceBEq, if_true, if_false]
      refine ⟨_, r05_plain.ok w false true false false, _, fun _ => r03_Check.ok h.2.1 h.2.2 hw.1, ?_⟩
      cases factsOk s.Dim w.Facts <;> simp
    · simp only [h.1, Int.reduceEq, Int.reduceBEq, if_true, if_false]
      refine ⟨_, r05_plain.ok w false false true false, ?_⟩
      unfold cellsOk
      cases hp : plainB w false false true false with
      | false => simp
      | true =>
        by_cases hn : (w.Cells.length : Int) = s.Dim
        · rw [if_neg (by simp [hn])]
          have key := eachLoop (l := w.Cells) (b := r05_is.b1 s w) (cellOk s.Dim) false (fun i i0 i1 => by
            unfold r05_is.b1
            simp only [i1, if_true]
            exact ⟨fun ht => ⟨⟨i0, i1⟩, _, r05_cell.ok h.2.1 h.2.2 _, by rw [ht, if_pos rfl, wrap_len hm i0 i1]⟩, fun ht => ⟨⟨i0, i1⟩, _, r05_cell.ok h.2.1 h.2.2 _, by rw [ht]; simp⟩⟩) (fun i i0 i1 => by unfold r05_is.b1; simp only [i1, if_false])
          refine ⟨_, key, ?_⟩
          cases w.Cells.all (cellOk s.Dim) <;> simp [Fin.on, hn]
        · rw [if_pos (by simp [hn])]; simp [hn]
theorem r05_is.ok {s : TSpace} {w : TWeight} (hs : spaceOk s = true) (hw : w.Sized2) : r05_is.f s w (isW s w) := by
  refine ⟨2, ?_⟩
  by_cases h5 : s.Tag = 5
  · obtain ⟨a, b, hp, ha, hb, _, _, hd⟩ := space_parts hs h5
    show r05_is.step (r05_is.fN 1) s w _
    unfold r05_is.step isW
    rw [if_pos h5]
    cases hz : w.Zero with
    | true =>
      rw [if_pos rfl]
      exact ⟨false, fun h => (h h5).elim, by simp [h5]⟩
    | false =>
      rw [if_neg Bool.false_ne_true]
      simp only [h5, Int.reduceEq, if_true, if_false, hp]
      refine ⟨_, r05_plain.ok w false false false true, ?_⟩
      cases hb : plainB w false false false true with
      | false => exact ⟨fun h => (by cases h), fun h => (by cases h), false, fun h => (by cases h), fun h => (by cases h), fun h => (by cases h), false, fun h => (by cases h), by simp⟩
      | true =>
        by_cases h2 : (w.Parts.length : Int) = 2
        · refine ⟨fun _ _ => ⟨by decide, by simp⟩, fun _ _ => ⟨by decide, by omega⟩, _, fun _ _ => r05_is.step1 (self := r05_is.fN 0) ha (part_sized hw (by decide) (by omega)), fun _ _ _ => ⟨by decide, by simp⟩, fun _ _ _ => ⟨by decide, by omega⟩, _, fun _ _ _ => r05_is.step1 (self := r05_is.fN 0) (by assumption) (part_sized hw (by decide) (by omega)), ?_⟩
          simp [h2]
        · refine ⟨fun _ h => (h2 h).elim, fun _ h => (h2 h).elim, false, fun _ h => (h2 h).elim, fun _ h => (h2 h).elim, fun _ h => (h2 h).elim, false, fun _ h => (h2 h).elim, ?_⟩
          simp [h2]
  · have h1 : spaceOk1 s = true := by rw [← spaceOk_ne h5]; exact hs
    rw [isW_ne h5]; exact r05_is.step1 h1 hw.1
/-- The code of weights that are to be of a space. -/
def allC (s : TSpace) (l : List TWeight) : Int := if spaceOk s = true then (if l.all (isW s) = true then 0 else 51) else 50
theorem weight_checked.ok {s : TSpace} {l : List TWeight} (hs : s.Parts.length ≤ maxLen) (hl : l.length ≤ maxLen) (hw : ∀ w ∈ l, w.Sized2) : weight_checked.f s l (allC s l) := by
  refine ⟨_, weight_Space.ok hs, ?_⟩
  unfold allC
  cases h : spaceOk s with
  | false => simp
  | true =>
    simp only [if_true]
    refine ⟨l.any (fun w => !isW s w), containsFunc (q := fun x y => weight_checked_1.f x s y) (fun w => !isW s w) hl (fun w hm => ⟨_, weight_is.ok h (hw w hm), rfl⟩) rfl, ?_⟩
    rw [List.all_eq_not_any_not]
    cases l.any (fun w => !isW s w) <;> simp
def wC (s : TSpace) (w : TWeight) : Int := if spaceOk s = true then (if isW s w = true then 0 else 51) else 50
theorem wC_all (s : TSpace) (w : TWeight) : allC s [w] = wC s w := by simp [allC, wC]
theorem weight_Check.ok {s : TSpace} {w : TWeight} (hs : s.Parts.length ≤ maxLen) (hw : w.Sized2) : weight_Check.f s w (wC s w) := by
  refine ⟨_, weight_checked.ok hs (by simp [maxLen]) (fun x hx => by simp at hx; subst hx; exact hw), (wC_all s w).symm⟩
theorem r05_Check.ok {s : TSpace} {w : TWeight} (hs : s.Parts.length ≤ maxLen) (hw : w.Sized2) : r05_Check.f s w (wC s w) := by
  refine ⟨_, r05_Space.ok hs, ?_⟩
  unfold wC
  cases h : spaceOk s with
  | false => simp
  | true =>
    simp only [if_true]
    exact ⟨_, r05_is.ok h hw, iteR _⟩
end Go.RM.Try
namespace Go.RM.Try
open Go.RM
set_option linter.unusedVariables false
set_option linter.unusedSimpArgs false
def ruleOk (p : TPds) (r : TRule) : Bool :=
  inB r.P p.States && (inB r.Q p.States && (inB r.G p.Symbols && (decide ((r.W.length : Int) ≤ 4096) && r.W.all (fun g => inB g p.Symbols))))
theorem pds_rule.ok {p : TPds} {r : TRule} (hl : r.W.length ≤ maxLen) : pds_rule.f p r (ruleOk p r) := by
  refine ⟨_, pds_in.ok _ _, _, fun _ => pds_in.ok _ _, _, fun _ _ => pds_in.ok _ _, r.W.any (fun g => !inB g p.Symbols), fun _ _ _ _ => ?_, ?_⟩
  · exact containsFunc (q := fun x y => pds_rule_1.f x p y) (fun g => !inB g p.Symbols) hl (fun g hg => ⟨_, pds_in.ok _ _, rfl⟩) rfl
  · unfold ruleOk; rw [List.all_eq_not_any_not]
theorem r11_rule.ok {p : TPds} {r : TRule} (hl : r.W.length ≤ maxLen) : r11_rule.f p r (ruleOk p r) := by
  refine ⟨_, r11_in.ok _ _, _, fun _ => r11_in.ok _ _, _, fun _ _ => r11_in.ok _ _, ?_⟩
  unfold ruleOk
  cases inB r.P p.States with
  | false => simp
  | true =>
    cases inB r.Q p.States with
    | false => simp
    | true =>
      cases inB r.G p.Symbols with
      | false => simp
      | true =>
        by_cases h : (r.W.length : Int) > 4096
        · have h' : ¬ (r.W.length : Int) ≤ 4096 := by omega
          simp [h, decide_eq_false h']
        · rw [if_neg (by simp; omega)]
          have key := eachLoop (l := r.W) (b := r11_rule.b1 p r) (fun g => inB g p.Symbols) false (fun i i0 i1 => by
            unfold r11_rule.b1
            simp only [i1, if_true]
            exact ⟨fun ht => ⟨⟨i0, i1⟩, _, r11_in.ok _ _, by rw [ht, if_pos rfl, wrap_len hl i0 i1]⟩, fun ht => ⟨⟨i0, i1⟩, _, r11_in.ok _ _, by rw [ht]; simp⟩⟩) (fun i i0 i1 => by unfold r11_rule.b1; simp only [i1, if_false])
          refine ⟨_, key, ?_⟩
          rw [decide_eq_true (show (r.W.length : Int) ≤ 4096 by omega)]
          cases r.W.all (fun g => inB g p.Symbols) <;> simp [Fin.on]
/-- The code of a system. -/
def pC (p : TPds) : Int :=
  if spaceOk p.Space = true then
    if (p.Rules.length : Int) > 16384 then 3
    else if (decide (p.States < 0) || (decide (p.States > 4096) || (decide (p.Symbols < 0) || decide (p.Symbols > 4096)))) = true then 110
    else if p.Rules.all (ruleOk p) = true then (if p.Rules.all (fun r => isW p.Space r.F) = true then 0 else 51) else 110
  else 50
structure TPds.Sized (p : TPds) : Prop where
  parts : p.Space.Parts.length ≤ maxLen
  rules : p.Rules.length ≤ 17592186044416
  words : ∀ r ∈ p.Rules, r.W.length ≤ maxLen
  weights : ∀ r ∈ p.Rules, r.F.Sized2
theorem TPds.Sized.rl {p : TPds} (h : p.Sized) : p.Rules.length ≤ maxLen := by have := h.rules; unfold maxLen; omega
theorem pds_Check.ok {p : TPds} (h : p.Sized) : pds_Check.f p (pC p) := by
  refine ⟨_, weight_Space.ok h.parts, ?_⟩
  unfold pC
  cases hs : spaceOk p.Space with
  | false => simp
  | true =>
    simp only [if_true]
    by_cases hr : (p.Rules.length : Int) > 16384
    · rw [if_pos hr, if_pos hr]
    · rw [if_neg hr, if_neg hr]
      by_cases hn : (decide (p.States < 0) || (decide (p.States > 4096) || (decide (p.Symbols < 0) || decide (p.Symbols > 4096)))) = true
      · rw [if_pos hn, if_pos hn]
      · rw [if_neg hn, if_neg hn]
        refine ⟨p.Rules.any (fun r => !ruleOk p r), containsFunc (q := fun x y => pds_Check_1.f x p y) (fun r => !ruleOk p r) h.rl (fun r hm => ⟨_, pds_rule.ok (h.words r hm), rfl⟩) rfl, ?_⟩
        rw [List.all_eq_not_any_not]
        cases p.Rules.any (fun r => !ruleOk p r) with
        | true => simp
        | false =>
          simp only [Bool.false_eq_true, if_false, Bool.not_false, if_true]
          have key := eachLoop (l := p.Rules) (b := pds_Check.b1 p) (fun r => isW p.Space r.F) (51 : Int) (fun i i0 i1 => by
            unfold pds_Check.b1
            simp only [i1, if_true]
            have hw := weight_Check.ok h.parts (h.weights _ (rdl_mem i0 i1))
            unfold wC at hw
            rw [if_pos hs] at hw
            exact ⟨fun ht => ⟨⟨i0, i1⟩, _, hw, by rw [ht, if_pos rfl, if_pos rfl, wrap_len h.rl i0 i1]⟩, fun ht => ⟨⟨i0, i1⟩, _, hw, by rw [ht]; simp⟩⟩) (fun i i0 i1 => by unfold pds_Check.b1; simp only [i1, if_false])
          refine ⟨_, key, ?_⟩
          cases p.Rules.all (fun r => isW p.Space r.F) <;> simp [Fin.on]
theorem r11_Check.ok {p : TPds} (h : p.Sized) : r11_Check.f p (pC p) := by
  refine ⟨_, r05_Space.ok h.parts, ?_⟩
  unfold pC
  cases hs : spaceOk p.Space with
  | false => simp
  | true =>
    simp only [if_true]
    by_cases hr : (p.Rules.length : Int) > 16384
    · rw [if_pos hr, if_pos hr]
    · rw [if_neg hr, if_neg hr]
      by_cases hn : (decide (p.States < 0) || (decide (p.States > 4096) || (decide (p.Symbols < 0) || decide (p.Symbols > 4096)))) = true
      · rw [if_pos hn, if_pos hn]
      · rw [if_neg hn, if_neg hn]
        have key1 := eachLoop (l := p.Rules) (b := r11_Check.b1 p) (ruleOk p) (110 : Int) (fun i i0 i1 => by
          unfold r11_Check.b1
          simp only [i1, if_true]
          have hw := r11_rule.ok (p := p) (h.words _ (rdl_mem i0 i1))
          exact ⟨fun ht => ⟨⟨i0, i1⟩, _, hw, by rw [ht, if_pos rfl, wrap_len h.rl i0 i1]⟩, fun ht => ⟨⟨i0, i1⟩, _, hw, by rw [ht]; simp⟩⟩) (fun i i0 i1 => by unfold r11_Check.b1; simp only [i1, if_false])
        refine ⟨_, key1, ?_⟩
        cases p.Rules.all (ruleOk p) with
        | false => simp [Fin.on]
        | true =>
          simp only [if_true, Fin.on]
          have key := eachLoop (l := p.Rules) (b := r11_Check.b2 p) (fun r => isW p.Space r.F) (51 : Int) (fun i i0 i1 => by
            unfold r11_Check.b2
            simp only [i1, if_true]
            have hw := r05_Check.ok h.parts (h.weights _ (rdl_mem i0 i1))
            unfold wC at hw
            rw [if_pos hs] at hw
            exact ⟨fun ht => ⟨⟨i0, i1⟩, _, hw, by rw [ht, if_pos rfl, if_pos rfl, wrap_len h.rl i0 i1]⟩, fun ht => ⟨⟨i0, i1⟩, _, hw, by rw [ht]; simp⟩⟩) (fun i i0 i1 => by unfold r11_Check.b2; simp only [i1, if_false])
          refine ⟨_, key, ?_⟩
          cases p.Rules.all (fun r => isW p.Space r.F) <;> simp [Fin.on]
end Go.RM.Try
namespace Go.RM.Try
open Go.RM
set_option linter.unusedVariables false
set_option linter.unusedSimpArgs false
theorem shl_one {i : Int} (h0 : 0 ≤ i) (h1 : i < 64) : shlI .u64 1 i = 2 ^ i.toNat := by
  have hlt := two_pow_lt (n := i.toNat) (by omega)
  have hpos : (0 : Int) < 2 ^ i.toNat := Int.pow_pos (by decide)
  unfold shlI
  rw [show (min i.toNat IntKind.u64.bits) = i.toNat by simp [IntKind.bits]; omega]
  rw [Int.one_mul, wrapu64 (by omega) hlt]
def noneW : TWeight := ⟨false, 0, ⟨0, []⟩, [], []⟩
def oneF (n : Int) : TFacts := ⟨0, (upto n.toNat).map (fun i => 2 ^ i.toNat)⟩
def oneC (n : Int) : List TCell := (upto n.toNat).map (fun i => ⟨2 ^ i.toNat, 0, 0⟩)
theorem upto_mem {n : Nat} {i : Int} (h : i ∈ upto n) : 0 ≤ i ∧ i < n := by
  simp only [upto, List.mem_map, List.mem_range] at h
  obtain ⟨k, hk, rfl⟩ := h
  simp; exact hk
theorem facts_One.ok {n : Int} (h0 : 0 ≤ n) (h1 : n ≤ 64) : facts_One.f n (oneF n, 0) := by
  have hf := bits_Full.ok n
  rw [fullI h0 h1] at hf
  refine ⟨_, hf, ?_⟩
  simp only [if_true]
  refine ⟨⟨h0, by unfold Fits; omega⟩, ?_⟩
  have hr : ((List.replicate (Int.toNat n) (0 : Int)).length : Int) = n := by simp; omega
  have key := fillLoop (n := n) (b := facts_One.b1 n) (0 : Int) (fun i _ => shlI .u64 1 (IntKind.u64.wrap i)) h0 (fun i l i0 i1 hl => by
    unfold facts_One.b1
    rw [hr]
    simp only [i1, if_true]
    rw [wrapu64 i0 (by omega), wrap64 (by omega) (by omega)]
    exact ⟨i0, ⟨i0, by omega⟩, rfl⟩) (fun l hl => by
    unfold facts_One.b1
    rw [hr]
    simp)
  refine ⟨_, key, ?_⟩
  show (oneF n, (0 : Int)) = (TFacts.mk 0 _, 0)
  unfold oneF
  congr 2
  refine List.map_congr_left fun i hi => ?_
  have := upto_mem hi
  rw [wrapu64 this.1 (by omega), shl_one this.1 (by omega)]
theorem cells_One.ok {n : Int} (h0 : 0 ≤ n) (h1 : n ≤ 64) : cells_One.f n (oneC n, 0) := by
  refine ⟨0, by unfold cells_dims.f; rw [if_neg (by simp; omega)], ?_⟩
  simp only [if_true]
  refine ⟨oneC n, ⟨⟨h0, by unfold Fits; omega⟩, ?_⟩, rfl⟩
  have key := fillLoop (n := n) (b := cells_one.b1 n) (TCell.mk 0 0 0) (fun i c => TCell.mk (shlI .u64 1 i) c.Kind c.K) h0 (fun i l i0 i1 hl => by
    unfold cells_one.b1
    simp only [i1, if_true]
    rw [wrap64 (by omega) (by omega)]
    exact ⟨i0, ⟨i0, by omega⟩, rfl⟩) (fun l hl => by
    unfold cells_one.b1
    simp)
  refine ⟨_, key, ?_⟩
  show oneC n = _
  unfold oneC
  refine List.map_congr_left fun i hi => ?_
  have := upto_mem hi
  rw [shl_one this.1 (by omega)]
def oneW1 (s : TSpace) : TWeight := if s.Tag = 3 then ⟨false, 0, oneF s.Dim, [], []⟩ else if s.Tag = 4 then ⟨false, 0, ⟨0, []⟩, oneC s.Dim, []⟩ else noneW
def oneW (s : TSpace) : TWeight := if s.Tag = 5 then ⟨false, 0, ⟨0, []⟩, [], [oneW1 (rdl s.Parts 0), oneW1 (rdl s.Parts 1)]⟩ else oneW1 s
theorem oneW_ne {s : TSpace} (h : s.Tag ≠ 5) : oneW s = oneW1 s := by unfold oneW; rw [if_neg h]
theorem weight_one.step1 {self : TSpace → TWeight → Prop} {s : TSpace} (hs : spaceOk1 s = true) : weight_one.step self s (oneW1 s) := by
  unfold weight_one.step oneW1
  rcases space1_cases hs with h | h | h | h
  · simp [h.1, noneW]
  · simp [h.1, noneW]
  · simp only [h.1, Int.reduceEq, if_true, if_false]
    exact ⟨_, facts_One.ok h.2.1 h.2.2, rfl⟩
  · simp only [h.1, Int.reduceEq, if_true, if_false]
    exact ⟨_, cells_One.ok h.2.1 h.2.2, rfl⟩
theorem weight_one.ok {s : TSpace} (hs : spaceOk s = true) : weight_one.f s (oneW s) := by
  refine ⟨2, ?_⟩
  by_cases h5 : s.Tag = 5
  · obtain ⟨a, b, hp, ha, hb, _, _, hd⟩ := space_parts hs h5
    show weight_one.step (weight_one.fN 1) s _
    unfold weight_one.step oneW
    simp only [h5, Int.reduceEq, if_true, if_false, hp]
    exact ⟨⟨by decide, by simp⟩, _, weight_one.step1 ha, ⟨by decide, by simp⟩, _, weight_one.step1 hb, rfl⟩
  · rw [oneW_ne h5]; exact weight_one.step1 (by rw [← spaceOk_ne h5]; exact hs)
def oneR (s : TSpace) : TWeight × Int := if spaceOk s = true then (oneW s, 0) else (noneW, 50)
theorem weight_One.ok {s : TSpace} (hl : s.Parts.length ≤ maxLen) : weight_One.f s (oneR s) := by
  refine ⟨_, weight_Space.ok hl, ?_⟩
  unfold oneR
  cases h : spaceOk s with
  | false => simp [noneW]
  | true => simp only [if_true]; exact ⟨_, weight_one.ok h, rfl⟩
end Go.RM.Try
namespace Go.RM.Try
open Go.RM
set_option linter.unusedVariables false
set_option linter.unusedSimpArgs false
theorem TSpace.eta (s : TSpace) : TSpace.mk s.Tag s.Dim s.Parts = s := by cases s; rfl
theorem TWeight.eta (w : TWeight) : TWeight.mk w.Zero w.Cost (TFacts.mk w.Facts.Gen w.Facts.Rows) w.Cells w.Parts = w := by cases w; rfl
end Go.RM.Try
namespace Go.RM.Try
open Go.RM
set_option linter.unusedVariables false
set_option linter.unusedSimpArgs false
/-- What a system that may be has. -/
theorem pC_ok {p : TPds} (h : pC p = 0) : spaceOk p.Space = true ∧ p.Rules.length ≤ 16384 ∧ 0 ≤ p.States ∧ p.States ≤ 4096 ∧ 0 ≤ p.Symbols ∧ p.Symbols ≤ 4096 ∧ (∀ r ∈ p.Rules, ruleOk p r = true) ∧ (∀ r ∈ p.Rules, isW p.Space r.F = true) := by
  unfold pC at h
  split at h
  · rename_i hs
    split at h
    · simp at h
    · split at h
      · simp at h
      · rename_i hl hn
        split at h
        · rename_i ha
          split at h
          · rename_i hw
            simp only [Bool.or_eq_true, decide_eq_true_eq, not_or] at hn
            rw [List.all_eq_true] at ha hw
            exact ⟨hs, by omega, by omega, by omega, by omega, by omega, ha, hw⟩
          · simp at h
        · simp at h
  · simp at h
end Go.RM.Try
namespace Go.RM.Try
open Go.RM
set_option linter.unusedVariables false
set_option linter.unusedSimpArgs false
theorem space1_parts {s : TSpace} (h : spaceOk1 s = true) : s.Parts = [] := by
  have : s.Parts.length = 0 := by
    unfold spaceOk1 at h
    by_cases h1 : s.Tag = 1
    · simp [h1] at h; simp [h.2]
    · by_cases h2 : s.Tag = 2
      · simp [h2] at h; simp [h.2.2]
      · by_cases h3 : s.Tag = 3
        · simp [h3] at h; simp [h.2.2]
        · by_cases h4 : s.Tag = 4
          · simp [h4] at h; simp [h.2.2]
          · simp [h1, h2, h3, h4] at h
  exact List.eq_nil_of_length_eq_zero this
/-- The system that is looked at in each law. -/
def p0 : TPds := ⟨⟨1, 0, []⟩, 2, 5, [⟨0, 0, 1, [2, 3, 4], ⟨false, 0, ⟨0, []⟩, [], []⟩⟩]⟩
end Go.RM.Try
namespace Go.RM.Try
open Go.RM
set_option linter.unusedVariables false
set_option linter.unusedSimpArgs false
/-- From one state of a loop to another one. -/
def Reach {σ τ ρ : Type} (b : σ → Rnd σ τ ρ → Prop) (s s' : σ) : Prop := ∀ o, Loop b s' o → Loop b s o
theorem Reach.refl {σ τ ρ : Type} {b : σ → Rnd σ τ ρ → Prop} (s : σ) : Reach b s s := fun o h => h
theorem Reach.next {σ τ ρ : Type} {b : σ → Rnd σ τ ρ → Prop} {s s' s'' : σ} (h : b s (.next s')) (h' : Reach b s' s'') : Reach b s s'' := fun o k => .next h (h' o k)
/-- The state of the law's loop. -/
def mkS (c : TConf) (w : TWeight) (parts i : Int) : Int × (List Int) × Bool × Int × Int × (List Int) × (List TCell) × (List TWeight) × Int × Int := (c.P, c.W, w.Zero, w.Cost, w.Facts.Gen, w.Facts.Rows, w.Cells, w.Parts, parts, i)
end Go.RM.Try
namespace Go.RM.Try
open Go.RM
set_option linter.unusedVariables false
set_option linter.unusedSimpArgs false
def confB (p : TPds) (c : TConf) : Bool := inB c.P p.States && (decide ((c.W.length : Int) ≤ 4096) && c.W.all (fun g => inB g p.Symbols))
def confC (p : TPds) (c : TConf) : Int := if pC p = 0 then (if confB p c = true then 0 else 120) else pC p
theorem conf_head {p : TPds} {c : TConf} : ((decide (c.P < 0)) || ((decide (c.P ≥ p.States)) || (decide ((c.W.length : Int) > 4096)))) = !(inB c.P p.States && decide ((c.W.length : Int) ≤ 4096)) := by
  rw [Bool.eq_iff_iff]; simp [inB]; omega
theorem confB_split {p : TPds} {c : TConf} (h : (inB c.P p.States && decide ((c.W.length : Int) ≤ 4096)) = true) : confB p c = c.W.all (fun g => inB g p.Symbols) := by
  rw [Bool.and_eq_true] at h
  unfold confB; rw [h.1, h.2]; simp
theorem confB_no {p : TPds} {c : TConf} (h : ¬ (inB c.P p.States && decide ((c.W.length : Int) ≤ 4096)) = true) : confB p c = false := by
  unfold confB
  rw [← Bool.and_assoc, Bool.eq_false_iff.2 h, Bool.false_and]
theorem steps_Check.ok {p : TPds} (h : p.Sized) {c : TConf} (hl : c.W.length ≤ maxLen) : steps_Check.f p c (confC p c) := by
  refine ⟨_, pds_Check.ok h, ?_⟩
  unfold confC
  by_cases hc : pC p = 0
  · rw [if_pos hc, if_pos hc, conf_head]
    by_cases hh : (inB c.P p.States && decide ((c.W.length : Int) ≤ 4096)) = true
    · rw [hh, confB_split hh, if_neg (by simp)]
      have key := eachLoop (l := c.W) (b := steps_Check.b1 p c) (fun g => inB g p.Symbols) (120 : Int) (fun i i0 i1 => by
        unfold steps_Check.b1
        simp only [i1, if_true]
        refine ⟨fun ht => ⟨⟨i0, i1⟩, ?_⟩, fun ht => ⟨⟨i0, i1⟩, ?_⟩⟩
        · rw [if_neg (by unfold inB at ht; simp at ht ⊢; omega), wrap_len hl i0 i1]
        · rw [if_pos (by unfold inB at ht; simp at ht ⊢; omega)]; trivial) (fun i i0 i1 => by unfold steps_Check.b1; simp only [i1, if_false])
      refine ⟨_, key, ?_⟩
      cases c.W.all (fun g => inB g p.Symbols) <;> simp [Fin.on]
    · rw [Bool.eq_false_iff.2 hh, confB_no hh]; simp
  · rw [if_neg hc, if_neg hc]
/-- Final states: rising. -/
def finB (st : Int) : List Int → Int → Bool
  | [], _ => true
  | s :: l, last => (inB s st && decide (s > last)) && finB st l s
def transB (a : TAuto) (t : TTrans) : Bool := inB t.From a.States && (inB t.To a.States && (decide (t.Sym ≥ -1) && decide (t.Sym < a.Symbols)))
def aC (a : TAuto) : Int :=
  if spaceOk a.Space = true then
    if (a.Trans.length : Int) > 65536 then 3
    else if (decide (a.States < 0) || (decide (a.States > 4096) || (decide (a.Symbols < 0) || decide (a.Symbols > 4096)))) = true then 100
    else if finB a.States a.Final (-1) = true then (if a.Trans.all (transB a) = true then (if a.Trans.all (fun t => isW a.Space t.W) = true then 0 else 51) else 100) else 100
  else 50
structure TAuto.Sized (a : TAuto) : Prop where
  parts : a.Space.Parts.length ≤ maxLen
  final : a.Final.length ≤ maxLen
  trans : a.Trans.length ≤ maxLen
  weights : ∀ t ∈ a.Trans, t.W.Sized2
theorem wfa_Check.fin {a : TAuto} (hl : a.Final.length ≤ maxLen) : Loop (wfa_Check.b1 a) (-1, 0) (if finB a.States a.Final (-1) = true then .go () else .ret 100) := by
  have key := Loop.of (b := wfa_Check.b1 a) (fun s => if finB a.States (a.Final.drop s.2.toNat) s.1 = true then .go () else .ret 100) (fun s => ((a.Final.length : Int) - s.2).toNat) (fun s => 0 ≤ s.2) (fun s hi => by
    obtain ⟨last, i⟩ := s
    simp only at hi
    by_cases h : i < (a.Final.length : Int)
    · have hd := drop_rdl hi h
      have hb : ∀ z, (if ((!inB (rdl a.Final i) a.States) || (decide ((rdl a.Final i) ≤ last))) = true then (z = .ret 100) else (z = .next ((rdl a.Final i), (IntKind.i64.wrap (i + 1))))) → wfa_Check.b1 a (last, i) z := fun z hz => by
        unfold wfa_Check.b1
        simp only [h, if_true]
        exact ⟨⟨hi, h⟩, _, rfl, hz⟩
      by_cases ht : (inB (rdl a.Final i) a.States && decide (rdl a.Final i > last)) = true
      · refine .inl ⟨(rdl a.Final i, i + 1), hb _ ?_, by simp; omega, by simp; omega, ?_⟩
        · rw [if_neg (by rw [Bool.and_eq_true] at ht; simp at ht; simp [ht]), wrap_len hl hi h]
        · simp only; rw [hd]; simp only [finB, ht, Bool.true_and]
      · refine .inr (.inr ⟨100, hb _ ?_, ?_⟩)
        · rw [if_pos (by rw [Bool.and_eq_true] at ht; simp at ht ⊢; by_cases hx : inB (rdl a.Final i) a.States = true; exact .inr (ht hx); exact .inl (by simpa using hx))]
        · simp only; rw [hd]; simp only [finB, Bool.eq_false_iff.2 ht, Bool.false_and]; simp
    · refine .inr (.inl ⟨(), ?_, ?_⟩)
      · unfold wfa_Check.b1; simp only [h, if_false]
      · simp only; rw [drop_end hi h]; simp [finB]) (-1, 0) (Int.le_refl 0)
  exact key
theorem r10_State.ok (a : TAuto) (s : Int) : r10_State.f a s (inB s a.States) := rfl
theorem r10_Check.fin {a : TAuto} (hl : a.Final.length ≤ maxLen) : Loop (r10_Check.b1 a) 0 (if finB a.States a.Final (-1) = true then .go () else .ret 100) := by
  have hm : maxLen ≤ 9223372036854775807 := by decide
  have key := Loop.of (b := r10_Check.b1 a) (fun i => if finB a.States (a.Final.drop i.toNat) (if i > 0 then rdl a.Final (i - 1) else -1) = true then .go () else .ret 100) (fun i => ((a.Final.length : Int) - i).toNat) (fun i => 0 ≤ i) (fun i hi => by
    by_cases h : i < (a.Final.length : Int)
    · have hd := drop_rdl hi h
      have w1 : i > 0 → IntKind.i64.wrap (i - 1) = i - 1 := fun h => wrap64 (by omega) (by omega)
      have hb : ∀ z, (if ((!inB (rdl a.Final i) a.States) || ((decide (i > 0)) && (decide ((rdl a.Final i) ≤ (rdl a.Final (IntKind.i64.wrap (i - 1))))))) = true then (z = .ret 100) else (z = .next (IntKind.i64.wrap (i + 1)))) → r10_Check.b1 a i z := fun z hz => by
        unfold r10_Check.b1
        simp only [h, if_true]
        exact ⟨⟨hi, h⟩, _, r10_State.ok _ _, fun _ _ => ⟨hi, h⟩, fun _ h0 => by rw [w1 h0]; exact ⟨by omega, by omega⟩, hz⟩
      by_cases ht : (inB (rdl a.Final i) a.States && decide (rdl a.Final i > (if i > 0 then rdl a.Final (i - 1) else -1))) = true
      · refine .inl ⟨i + 1, hb _ ?_, by omega, by omega, ?_⟩
        · rw [if_neg, wrap_len hl hi h]
          rw [Bool.and_eq_true] at ht
          obtain ⟨h1, h2⟩ := ht
          rw [h1]
          by_cases h0 : i > 0
          · rw [if_pos h0] at h2; rw [w1 h0]; simp at h2 ⊢; omega
          · simp [h0]
        · rw [hd]; simp only [finB, ht, Bool.true_and]
          rw [if_pos (show i + 1 > 0 by omega), show i + 1 - 1 = i by omega]
      · refine .inr (.inr ⟨100, hb _ ?_, ?_⟩)
        · rw [if_pos]
          by_cases hx : inB (rdl a.Final i) a.States = true
          · by_cases h0 : i > 0
            · rw [if_pos h0] at ht; rw [w1 h0]; rw [hx] at ht ⊢; simp at ht ⊢; exact ⟨h0, ht⟩
            · rw [if_neg h0, hx] at ht
              unfold inB at hx
              simp at ht hx
              omega
          · simp [Bool.eq_false_iff.2 hx]
        · rw [hd]; simp only [finB, Bool.eq_false_iff.2 ht, Bool.false_and]; simp
    · refine .inr (.inl ⟨(), ?_, ?_⟩)
      · unfold r10_Check.b1; simp only [h, if_false]
      · rw [drop_end hi h]; simp [finB]) 0 (Int.le_refl 0)
  exact key
theorem trans_test (a : TAuto) (t : TTrans) : ((!inB t.From a.States) || ((!inB t.To a.States) || ((decide (t.Sym < (-1))) || (decide (t.Sym ≥ a.Symbols))))) = !transB a t := by
  unfold transB
  cases inB t.From a.States <;> cases inB t.To a.States <;> rw [Bool.eq_iff_iff] <;> simp <;> omega
theorem wfa_Check.ok {a : TAuto} (h : a.Sized) : wfa_Check.f a (aC a) := by
  refine ⟨_, weight_Space.ok h.parts, ?_⟩
  unfold aC
  cases hs : spaceOk a.Space with
  | false => simp
  | true =>
    simp only [if_true]
    by_cases hr : (a.Trans.length : Int) > 65536
    · rw [if_pos hr, if_pos hr]
    · rw [if_neg hr, if_neg hr]
      by_cases hn : (decide (a.States < 0) || (decide (a.States > 4096) || (decide (a.Symbols < 0) || decide (a.Symbols > 4096)))) = true
      · rw [if_pos hn, if_pos hn]
      · rw [if_neg hn, if_neg hn]
        refine ⟨_, wfa_Check.fin h.final, ?_⟩
        cases finB a.States a.Final (-1) with
        | false => simp [Fin.on]
        | true =>
          simp only [if_true, Fin.on]
          have key1 := eachLoop (l := a.Trans) (b := wfa_Check.b2 a) (transB a) (100 : Int) (fun i i0 i1 => by
            have hw : ∀ z : Rnd Int Unit Int, (if (!transB a (rdl a.Trans i)) = true then (z = Rnd.ret 100) else (z = .next (IntKind.i64.wrap (i + 1)))) → wfa_Check.b2 a i z := fun z hz => by
              unfold wfa_Check.b2
              simp only [i1, if_true]
              refine ⟨⟨i0, i1⟩, _, rfl, _, fun _ => rfl, ?_⟩
              have := trans_test a (rdl a.Trans i)
              unfold inB at this
              rw [this]; exact hz
            exact ⟨fun ht => hw _ (by rw [ht, wrap_len h.trans i0 i1]; simp), fun ht => hw _ (by rw [ht]; simp)⟩) (fun i i0 i1 => by unfold wfa_Check.b2; simp only [i1, if_false])
          refine ⟨_, key1, ?_⟩
          cases a.Trans.all (transB a) with
          | false => simp [Fin.on]
          | true =>
            simp only [if_true, Fin.on]
            have key := eachLoop (l := a.Trans) (b := wfa_Check.b3 a) (fun t => isW a.Space t.W) (51 : Int) (fun i i0 i1 => by
              unfold wfa_Check.b3
              simp only [i1, if_true]
              have hw := weight_Check.ok h.parts (h.weights _ (rdl_mem i0 i1))
              unfold wC at hw
              rw [if_pos hs] at hw
              exact ⟨fun ht => ⟨⟨i0, i1⟩, _, hw, by rw [ht, if_pos rfl, if_pos rfl, wrap_len h.trans i0 i1]⟩, fun ht => ⟨⟨i0, i1⟩, _, hw, by rw [ht]; simp⟩⟩) (fun i i0 i1 => by unfold wfa_Check.b3; simp only [i1, if_false])
            refine ⟨_, key, ?_⟩
            cases a.Trans.all (fun t => isW a.Space t.W) <;> simp [Fin.on]
theorem r10_Check.ok {a : TAuto} (h : a.Sized) : r10_Check.f a (aC a) := by
  refine ⟨_, r05_Space.ok h.parts, ?_⟩
  unfold aC
  cases hs : spaceOk a.Space with
  | false => simp
  | true =>
    simp only [if_true]
    by_cases hr : (a.Trans.length : Int) > 65536
    · rw [if_pos hr, if_pos hr]
    · rw [if_neg hr, if_neg hr]
      by_cases hn : (decide (a.States < 0) || (decide (a.States > 4096) || (decide (a.Symbols < 0) || decide (a.Symbols > 4096)))) = true
      · rw [if_pos hn, if_pos hn]
      · rw [if_neg hn, if_neg hn]
        refine ⟨_, r10_Check.fin h.final, ?_⟩
        cases finB a.States a.Final (-1) with
        | false => simp [Fin.on]
        | true =>
          simp only [if_true, Fin.on]
          have key1 := eachLoop (l := a.Trans) (b := r10_Check.b2 a) (transB a) (100 : Int) (fun i i0 i1 => by
            have hw : ∀ z : Rnd Int Unit Int, (if (!transB a (rdl a.Trans i)) = true then (z = Rnd.ret 100) else (z = .next (IntKind.i64.wrap (i + 1)))) → r10_Check.b2 a i z := fun z hz => by
              unfold r10_Check.b2
              simp only [i1, if_true]
              exact ⟨⟨i0, i1⟩, _, r10_State.ok _ _, _, fun _ => r10_State.ok _ _, by rw [trans_test a (rdl a.Trans i)]; exact hz⟩
            exact ⟨fun ht => hw _ (by rw [ht, wrap_len h.trans i0 i1]; simp), fun ht => hw _ (by rw [ht]; simp)⟩) (fun i i0 i1 => by unfold r10_Check.b2; simp only [i1, if_false])
          refine ⟨_, key1, ?_⟩
          cases a.Trans.all (transB a) with
          | false => simp [Fin.on]
          | true =>
            simp only [if_true, Fin.on]
            have key := eachLoop (l := a.Trans) (b := r10_Check.b3 a) (fun t => isW a.Space t.W) (51 : Int) (fun i i0 i1 => by
              unfold r10_Check.b3
              simp only [i1, if_true]
              have hw := r05_Check.ok h.parts (h.weights _ (rdl_mem i0 i1))
              unfold wC at hw
              rw [if_pos hs] at hw
              exact ⟨fun ht => ⟨⟨i0, i1⟩, _, hw, by rw [ht, if_pos rfl, if_pos rfl, wrap_len h.trans i0 i1]⟩, fun ht => ⟨⟨i0, i1⟩, _, hw, by rw [ht]; simp⟩⟩) (fun i i0 i1 => by unfold r10_Check.b3; simp only [i1, if_false])
            refine ⟨_, key, ?_⟩
            cases a.Trans.all (fun t => isW a.Space t.W) <;> simp [Fin.on]
/-- Two spaces that may be: are they the same? -/
def eqSp1 (a b : TSpace) : Bool := (a.Tag == b.Tag) && (a.Dim == b.Dim)
def eqSp (a b : TSpace) : Bool := (a.Tag == b.Tag) && ((a.Dim == b.Dim) && all2B eqSp1 a.Parts b.Parts)
theorem eqSp1_comm (a b : TSpace) : eqSp1 a b = eqSp1 b a := by unfold eqSp1; rw [Bool.beq_comm, Bool.beq_comm (a := a.Dim)]
theorem all2B_comm {α : Type} {t : α → α → Bool} (h : ∀ a b, t a b = t b a) : ∀ (l m : List α), all2B t l m = all2B t m l
  | [], [] => rfl
  | [], _ :: _ => rfl
  | _ :: _, [] => rfl
  | x :: l, y :: m => by simp only [all2B]; rw [h x y, all2B_comm h l m]
theorem eqSp_comm (a b : TSpace) : eqSp a b = eqSp b a := by unfold eqSp; rw [Bool.beq_comm, Bool.beq_comm (a := a.Dim), all2B_comm eqSp1_comm]
theorem space_tag {a b : TSpace} (ha : spaceOk a = true) (hb : spaceOk b = true) (h : a.Tag = b.Tag) : a.Parts.length = b.Parts.length := by
  by_cases h5 : a.Tag = 5
  · obtain ⟨x, y, hp, _⟩ := space_parts ha h5
    obtain ⟨z, w, hq, _⟩ := space_parts hb (by omega)
    rw [hp, hq]; rfl
  · rw [spaceOk_ne h5] at ha
    rw [spaceOk_ne (by omega)] at hb
    rw [space1_parts ha, space1_parts hb]
theorem sp_len {a : TSpace} (ha : spaceOk a = true) : a.Parts.length ≤ 2 := by
  by_cases h5 : a.Tag = 5
  · obtain ⟨x, y, hp, _⟩ := space_parts ha h5; rw [hp]; simp
  · rw [spaceOk_ne h5] at ha; rw [space1_parts ha]; simp
theorem sp_part {a : TSpace} (ha : spaceOk a = true) {i : Int} (h0 : 0 ≤ i) (h1 : i < a.Parts.length) : spaceOk1 (rdl a.Parts i) = true := by
  by_cases h5 : a.Tag = 5
  · obtain ⟨x, y, hp, hx, hy, _⟩ := space_parts ha h5
    have hm := rdl_mem h0 h1
    generalize rdl a.Parts i = z at hm ⊢
    rw [hp] at hm
    simp at hm
    rcases hm with rfl | rfl <;> assumption
  · rw [spaceOk_ne h5] at ha; rw [space1_parts ha] at h1; simp at h1; omega
theorem r05_SameSpace.flat {self : TSpace → TSpace → Bool → Prop} {a b : TSpace} (ha : spaceOk1 a = true) (hb : spaceOk1 b = true) : r05_SameSpace.step self a b (eqSp1 a b) := by
  unfold r05_SameSpace.step eqSp1
  rw [space1_parts ha, space1_parts hb]
  by_cases h1 : a.Tag = b.Tag
  · by_cases h2 : a.Dim = b.Dim
    · rw [if_neg (by simp [h1, h2])]
      refine ⟨.go (), .exit ?_, ?_⟩
      · unfold r05_SameSpace.b1; rw [space1_parts ha]; simp
      · simp [Fin.on, h1, h2]
    · rw [if_pos (by simp [h2])]; simp [h2]
  · rw [if_pos (by simp [h1])]; simp [h1]
theorem r05_SameSpace.ok {a b : TSpace} (ha : spaceOk a = true) (hb : spaceOk b = true) : r05_SameSpace.f a b (eqSp a b) := by
  refine ⟨2, ?_⟩
  show r05_SameSpace.step (r05_SameSpace.fN 1) a b _
  unfold r05_SameSpace.step eqSp
  by_cases h1 : a.Tag = b.Tag
  · have hlen := space_tag ha hb h1
    have hm : a.Parts.length ≤ maxLen := by have := sp_len ha; unfold maxLen; omega
    by_cases h2 : a.Dim = b.Dim
    · rw [if_neg (by simp [h1, h2, hlen])]
      have key := each2Loop (l := a.Parts) (m := b.Parts) (b := r05_SameSpace.b1 (r05_SameSpace.fN 1) a b) eqSp1 false hlen (fun i i0 i1 => by
        have hq : r05_SameSpace.fN 1 (rdl a.Parts i) (rdl b.Parts i) (eqSp1 (rdl a.Parts i) (rdl b.Parts i)) := r05_SameSpace.flat (self := r05_SameSpace.fN 0) (sp_part ha i0 i1) (sp_part hb i0 (by omega))
        unfold r05_SameSpace.b1
        simp only [i1, if_true]
        exact ⟨fun ht => ⟨⟨i0, i1⟩, ⟨i0, by omega⟩, _, hq, by rw [ht, if_pos rfl, wrap_len hm i0 i1]⟩, fun ht => ⟨⟨i0, i1⟩, ⟨i0, by omega⟩, _, hq, by rw [ht]; simp⟩⟩) (fun i i0 i1 => by unfold r05_SameSpace.b1; simp only [i1, if_false])
      refine ⟨_, key, ?_⟩
      cases all2B eqSp1 a.Parts b.Parts <;> simp [Fin.on, h1, h2]
    · rw [if_pos (by simp [h2])]; simp [h2]
  · rw [if_pos (by simp [h1])]; simp [h1]
theorem weight_SameSpace.flat {self : TSpace → TSpace → Bool → Prop} {a b : TSpace} (ha : spaceOk1 a = true) (hb : spaceOk1 b = true) : weight_SameSpace.step self a b (eqSp1 a b) := by
  unfold weight_SameSpace.step eqSp1
  rw [space1_parts ha, space1_parts hb]
  refine ⟨true, fun _ _ => ?_, by simp⟩
  unfold slices_EqualFunc_Space_Space_Space.f
  rw [if_pos rfl]
  refine ⟨.go (), .exit ?_, rfl⟩
  unfold slices_EqualFunc_Space_Space_Space.b1; simp
theorem weight_SameSpace.ok {a b : TSpace} (ha : spaceOk a = true) (hb : spaceOk b = true) : weight_SameSpace.f a b (eqSp a b) := by
  refine ⟨2, ?_⟩
  show weight_SameSpace.step (weight_SameSpace.fN 1) a b _
  unfold weight_SameSpace.step eqSp
  refine ⟨all2B eqSp1 a.Parts b.Parts, fun h1 h2 => ?_, rfl⟩
  have hlen := space_tag ha hb h1
  have hm : a.Parts.length ≤ maxLen := by have := sp_len ha; unfold maxLen; omega
  unfold slices_EqualFunc_Space_Space_Space.f
  rw [if_pos (by omega)]
  have key := each2Loop (l := a.Parts) (m := b.Parts) (b := slices_EqualFunc_Space_Space_Space.b1 a.Parts b.Parts (fun x0_ x1_ y_ => weight_SameSpace.fN 1 x0_ x1_ y_)) eqSp1 false hlen (fun i i0 i1 => by
    have hq : weight_SameSpace.fN 1 (rdl a.Parts i) (rdl b.Parts i) (eqSp1 (rdl a.Parts i) (rdl b.Parts i)) := weight_SameSpace.flat (self := weight_SameSpace.fN 0) (sp_part ha i0 i1) (sp_part hb i0 (by omega))
    unfold slices_EqualFunc_Space_Space_Space.b1
    simp only [i1, if_true]
    exact ⟨fun ht => ⟨⟨i0, i1⟩, ⟨i0, by omega⟩, _, hq, by rw [ht, if_pos rfl, wrap_len hm i0 i1]⟩, fun ht => ⟨⟨i0, i1⟩, ⟨i0, by omega⟩, _, hq, by rw [ht]; simp⟩⟩) (fun i i0 i1 => by unfold slices_EqualFunc_Space_Space_Space.b1; simp only [i1, if_false])
  refine ⟨_, key, ?_⟩
  cases all2B eqSp1 a.Parts b.Parts <;> simp [Fin.on]
theorem aC_space {a : TAuto} (h : aC a = 0) : spaceOk a.Space = true := by
  unfold aC at h
  split at h
  · assumption
  · simp at h
/-- The code of a query. -/
def qC (p : TPds) (a : TAuto) : Int :=
  if pC p = 0 then (if aC a = 0 then (if (eqSp p.Space a.Space && ((a.Symbols == p.Symbols) && decide (a.States ≥ p.States))) = true then (if a.Trans.all (fun t => decide (t.Sym ≥ 0) && decide (t.To ≥ p.States)) = true then 0 else 140) else 140) else aC a) else pC p
theorem qhead (c : Bool) {p : TPds} {a : TAuto} : ((!c) || ((!(a.Symbols == p.Symbols)) || (decide (a.States < p.States)))) = !(c && ((a.Symbols == p.Symbols) && decide (a.States ≥ p.States))) := by
  cases c
  · rfl
  · rw [Bool.eq_iff_iff]; simp
theorem query_Check.ok {p : TPds} {a : TAuto} (hp : p.Sized) (ha : a.Sized) : query_Check.f p a (qC p a) := by
  refine ⟨_, pds_Check.ok hp, ?_⟩
  unfold qC
  by_cases h : pC p = 0
  · rw [if_pos h, if_pos h]
    refine ⟨_, wfa_Check.ok ha, ?_⟩
    by_cases h2 : aC a = 0
    · rw [if_pos h2, if_pos h2]
      refine ⟨_, weight_SameSpace.ok (aC_space h2) (pC_ok h).1, ?_⟩
      rw [qhead, eqSp_comm]
      by_cases h3 : (eqSp p.Space a.Space && ((a.Symbols == p.Symbols) && decide (a.States ≥ p.States))) = true
      · rw [h3, if_neg (by simp), if_pos rfl]
        have key := eachLoop (l := a.Trans) (b := query_Check.b1 p a) (fun t => decide (t.Sym ≥ 0) && decide (t.To ≥ p.States)) (140 : Int) (fun i i0 i1 => by
          unfold query_Check.b1
          simp only [i1, if_true]
          refine ⟨fun ht => ⟨⟨i0, i1⟩, ?_⟩, fun ht => ⟨⟨i0, i1⟩, ?_⟩⟩
          · rw [if_neg (by simp at ht ⊢; omega), wrap_len ha.trans i0 i1]
          · rw [if_pos (by simp at ht ⊢; omega)]; trivial) (fun i i0 i1 => by unfold query_Check.b1; simp only [i1, if_false])
        refine ⟨_, key, ?_⟩
        cases a.Trans.all (fun t => decide (t.Sym ≥ 0) && decide (t.To ≥ p.States)) <;> simp [Fin.on]
      · rw [Bool.eq_false_iff.2 h3]; simp
    · rw [if_neg h2, if_neg h2]
  · rw [if_neg h, if_neg h]
theorem r14_Check.ok {p : TPds} {a : TAuto} (hp : p.Sized) (ha : a.Sized) : r14_Check.f p a (qC p a) := by
  refine ⟨_, r11_Check.ok hp, ?_⟩
  unfold qC
  by_cases h : pC p = 0
  · rw [if_pos h, if_pos h]
    refine ⟨_, r10_Check.ok ha, ?_⟩
    by_cases h2 : aC a = 0
    · rw [if_pos h2, if_pos h2]
      refine ⟨_, r05_SameSpace.ok (pC_ok h).1 (aC_space h2), ?_⟩
      rw [qhead]
      by_cases h3 : (eqSp p.Space a.Space && ((a.Symbols == p.Symbols) && decide (a.States ≥ p.States))) = true
      · rw [h3, if_neg (by simp), if_pos rfl]
        have key := eachLoop (l := a.Trans) (b := r14_Check.b1 p a) (fun t => decide (t.Sym ≥ 0) && decide (t.To ≥ p.States)) (140 : Int) (fun i i0 i1 => by
          unfold r14_Check.b1
          simp only [i1, if_true]
          refine ⟨fun ht => ⟨⟨i0, i1⟩, fun _ => ⟨i0, i1⟩, ?_⟩, fun ht => ⟨⟨i0, i1⟩, fun _ => ⟨i0, i1⟩, ?_⟩⟩
          · rw [if_neg (by simp at ht ⊢; omega), wrap_len ha.trans i0 i1]
          · rw [if_pos (by simp at ht ⊢; omega)]; trivial) (fun i i0 i1 => by unfold r14_Check.b1; simp only [i1, if_false])
        refine ⟨_, key, ?_⟩
        cases a.Trans.all (fun t => decide (t.Sym ≥ 0) && decide (t.To ≥ p.States)) <;> simp [Fin.on]
      · rw [Bool.eq_false_iff.2 h3]; simp
    · rw [if_neg h2, if_neg h2]
  · rw [if_neg h, if_neg h]
end Go.RM.Try
namespace Go.RM.Try
open Go.RM
set_option linter.unusedVariables false
set_option linter.unusedSimpArgs false
def mapI {α β : Type} (f : Int → α → β) : List α → Int → List β
  | [], _ => []
  | x :: l, i => f i x :: mapI f l (i + 1)
theorem foldG_mapI {α β : Type} (f : Int → α → β) : ∀ (l : List α) (i : Int) (acc : List β), foldG (fun i x acc => acc ++ [f i x]) l i acc = acc ++ mapI f l i
  | [], i, acc => by simp [foldG, mapI]
  | x :: l, i, acc => by
    show foldG _ l (i + 1) (acc ++ [f i x]) = _
    rw [foldG_mapI f l]; simp [mapI]
/-- The states that are gone through. -/
def atN (st P : Int) (j : Int) : Int := if j = 0 then P else st + (j - 1)
def oneTr (one : TWeight) (st P : Int) (i : Int) (x : Int) : TTrans := ⟨atN st P i, x, st + i, one⟩
def oneA (p : TPds) (c : TConf) : TAuto := ⟨p.Space, p.States + c.W.length, p.Symbols, [atN p.States c.P c.W.length], mapI (oneTr (oneW p.Space) p.States c.P) c.W 0⟩
def noneA : TAuto := ⟨⟨0, 0, []⟩, 0, 0, [], []⟩
def oneAR (p : TPds) (c : TConf) : TAuto × Int := if confC p c = 0 then (if p.States + (c.W.length : Int) > 4096 then (noneA, 3) else (oneA p c, 0)) else (noneA, confC p c)
theorem atN_succ {st P i : Int} (h : 0 ≤ i) : atN st P (i + 1) = st + i := by unfold atN; rw [if_neg (by omega)]; omega
theorem slices_Clone_Space.ok {l : List TSpace} (h : l.length ≤ 1000) : slices_Clone_Space.f l l := by
  unfold slices_Clone_Space.f
  by_cases h0 : l.length = 0
  · rw [if_pos h0]
    have : l = [] := List.eq_nil_of_length_eq_zero h0
    subst this
    intro z k
    cases z <;> simp [Fits]
  · rw [if_neg h0]
    exact ⟨by unfold Fits; omega, rfl⟩
theorem confC_ok {p : TPds} {c : TConf} (h : confC p c = 0) : pC p = 0 ∧ 0 ≤ c.P ∧ c.P < p.States ∧ c.W.length ≤ 4096 ∧ ∀ g ∈ c.W, 0 ≤ g ∧ g < p.Symbols := by
  unfold confC at h
  split at h
  · rename_i hp
    split at h
    · rename_i hb
      unfold confB inB at hb
      simp only [Bool.and_eq_true, decide_eq_true_eq, List.all_eq_true] at hb
      exact ⟨hp, by omega, by omega, by omega, fun g hg => by have := hb.2.2 g hg; omega⟩
    · simp at h
  · rename_i hp; exact (hp h).elim
theorem query_One.ok {p : TPds} (h : p.Sized) {c : TConf} (hl : c.W.length ≤ 17592186044416) (hst : p.States ≤ 9000000000000000000 ∧ -9000000000000000000 ≤ p.States) : query_One.f p c (oneAR p c) := by
  refine ⟨_, steps_Check.ok h (by unfold maxLen; omega), ?_⟩
  unfold oneAR
  by_cases hc : confC p c = 0
  · rw [if_pos hc, if_pos hc, wrap64 (by omega) (by omega)]
    obtain ⟨hp, p0, p1, hw, hg⟩ := confC_ok hc
    obtain ⟨hs, _, s0, s1, _, _, _, _⟩ := pC_ok hp
    by_cases hm : p.States + (c.W.length : Int) > 4096
    · rw [if_pos hm, if_pos hm]; rfl
    · rw [if_neg hm, if_neg hm]
      have hcl := slices_Clone_Space.ok (l := p.Space.Parts) (by have := sp_len hs; omega)
      refine ⟨⟨p.Space, p.States, p.Symbols, [], []⟩, ⟨_, hcl, by rw [TSpace.eta]⟩, ?_⟩
      have hone : query_one.f p (oneW p.Space) := by
        have h1 := weight_One.ok (s := p.Space) h.parts
        unfold oneR at h1
        rw [if_pos hs] at h1
        exact ⟨_, h1, rfl⟩
      have key := (foldGLoop (l := c.W) (b := query_One.b1 p c) (fun i (acc : List TTrans) => (p.States + i, acc, atN p.States c.P i, i)) (fun acc => (p.States + (c.W.length : Int), acc, atN p.States c.P c.W.length)) (fun i x acc => acc ++ [oneTr (oneW p.Space) p.States c.P i x]) (fun i acc => (acc.length : Int) = i) (fun i acc i0 i1 hi => by
        refine ⟨?_, by simp; omega⟩
        unfold query_One.b1
        simp only [i1, if_true]
        refine ⟨⟨i0, i1⟩, _, hone, by unfold Fits; omega, ?_⟩
        rw [wrap64 (by omega) (by omega), wrap64 (by omega) (by omega), atN_succ i0]
        simp only [oneTr, Int.add_assoc]) (fun acc hacc => by unfold query_One.b1; simp) [] rfl).1
      rw [foldG_mapI] at key
      have e0 : atN p.States c.P 0 = c.P := by simp [atN]
      rw [e0, Int.add_zero] at key
      refine ⟨_, key, ?_⟩
      simp [Fin.on, oneA]
  · rw [if_neg hc, if_neg hc]; rfl
theorem TPds.Fit.sized {p : TPds} (h : p.Fit) : p.Sized where
  parts := by have hs := h.1; cases hs with | mk _ h0 h1 h2 h3 h4 => exact h3
  rules := by have := h.2.2.2.1; omega
  words := fun r hr => (h.2.2.2.2.2 r hr).2.2.2.1.2.1
  weights := fun r hr => (h.2.2.2.2.2 r hr).2.2.2.2.sized2
theorem TAuto.Fit.sized {a : TAuto} (h : a.Fit) : a.Sized where
  parts := by have hs := h.1; cases hs with | mk _ h0 h1 h2 h3 h4 => exact h3
  final := h.2.2.2.1.2.1
  trans := h.2.2.2.2.2.1
  weights := fun t ht => (h.2.2.2.2.2.2 t ht).2.2.2.sized2
/-- The system of the example. -/
def pE : TPds := ⟨⟨2, 9, []⟩, 2, 3, [⟨0, 1, 0, [2, 1], ⟨false, 1, ⟨0, []⟩, [], []⟩⟩, ⟨0, 2, 1, [], ⟨false, 1, ⟨0, []⟩, [], []⟩⟩]⟩
theorem pE_sized : pE.Sized := by
  refine ⟨by simp [pE], by simp [pE], ?_, ?_⟩
  · intro r hr; simp [pE] at hr; rcases hr with rfl | rfl <;> simp [maxLen]
  · intro r hr; simp [pE] at hr; rcases hr with rfl | rfl <;> exact ⟨⟨by simp, by simp, by simp⟩, by simp⟩
theorem pE_one : oneAR pE ⟨1, [0, 2]⟩ = (⟨⟨2, 9, []⟩, 4, 3, [3], [⟨1, 0, 2, noneW⟩, ⟨2, 2, 3, noneW⟩]⟩, 0) := by rfl
theorem l14_awake.ok : l14_awake.f true := by
  have h := query_One.ok pE_sized (c := ⟨1, [0, 2]⟩) (by simp) ⟨by simp [pE], by simp [pE]⟩
  rw [pE_one] at h
  refine ⟨_, rfl, _, h, ?_⟩
  simp [rdl, InR]
theorem Law.QueryChecks (a0 : TPds) (a1 : TAuto) (y0 : TPds.Fit a0) (y1 : TAuto.Fit a1) : l14_QueryChecks.f a0 a1 true := by
  refine ⟨_, query_Check.ok y0.sized y1.sized, _, r14_Check.ok y0.sized y1.sized, _, fun _ => l14_awake.ok, ?_⟩
  simp
end Go.RM.Try
