/- LA LB LC LD LE LF LG LH LI LJ LK LL LM LN LO LP LQ LR LS LT LU, for the statement PdsSteps: what it needs, no more. -/
import Derived.Test.YtiiagjedhhmnbaaZPdsStepsGR
import Derived.Test.YtiiagjedhhmnbaaZPdsStepsGK
namespace Go.RM
set_option linter.unusedVariables false
set_option linter.unusedSimpArgs false
/-- A loop that comes to what spec tells. -/
theorem Loop.of {σ τ ρ : Type} {b : σ → Rnd σ τ ρ → Prop} (spec : σ → Fin τ ρ) (m : σ → Nat) (Inv : σ → Prop)
    (step : ∀ s, Inv s → (∃ s', b s (.next s') ∧ m s' < m s ∧ Inv s' ∧ spec s' = spec s) ∨ (∃ t, b s (.exit t) ∧ spec s = .go t) ∨ (∃ r, b s (.ret r) ∧ spec s = .ret r)) :
    ∀ s, Inv s → Loop b s (spec s) := by
  intro s
  generalize hn : m s = n
  induction n using Nat.strongRecOn generalizing s with
  | _ n ih =>
    intro hi
    rcases step s hi with ⟨s', hb, hm, hi', he⟩ | ⟨t, hb, he⟩ | ⟨r, hb, he⟩
    · rw [← he]
      exact .next hb (ih (m s') (by omega) s' rfl hi')
    · rw [he]; exact .exit hb
    · rw [he]; exact .ret hb
theorem wrap64 {i : Int} (h0 : -9223372036854775808 ≤ i) (h1 : i ≤ 9223372036854775807) : IntKind.i64.wrap i = i := by
  have e : IntKind.i64.wrap i = if (i % 18446744073709551616 : Int) ≥ 9223372036854775808 then i % 18446744073709551616 - 18446744073709551616 else i % 18446744073709551616 := by
    simp [IntKind.wrap, IntKind.bits, IntKind.signed]
  rw [e]
  split <;> omega
theorem wrapu64 {i : Int} (h0 : 0 ≤ i) (h1 : i < 18446744073709551616) : IntKind.u64.wrap i = i := by
  have e : IntKind.u64.wrap i = i % 18446744073709551616 := by
    simp [IntKind.wrap, IntKind.bits, IntKind.signed]
  rw [e]; omega
theorem wfu64 {i : Int} (h : (Lit.int .u64 i).wf = true) : 0 ≤ i ∧ i < 18446744073709551616 := by
  simp [Lit.wf, IntKind.min, IntKind.max, IntKind.bits, IntKind.signed] at h
  omega
/-- One round further in a list. -/
theorem wrap_len {α : Type} {l : List α} {i : Int} (hl : l.length ≤ maxLen) (h0 : 0 ≤ i) (h1 : i < l.length) : IntKind.i64.wrap (i + 1) = i + 1 := by
  have : maxLen ≤ 9223372036854775807 := by decide
  exact wrap64 (by omega) (by omega)
theorem rdl_mem {α : Type} [Inhabited α] {l : List α} {i : Int} (h0 : 0 ≤ i) (h1 : i < l.length) : rdl l i ∈ l :=
  List.mem_of_getElem? (rdl_get h0 h1)
theorem drop_rdl {α : Type} [Inhabited α] {l : List α} {i : Int} (h0 : 0 ≤ i) (h1 : i < l.length) : l.drop i.toNat = rdl l i :: l.drop (i + 1).toNat := by
  have h := rdl_get h0 h1
  have hlt : i.toNat < l.length := by omega
  rw [List.drop_eq_getElem_cons hlt, show (i + 1).toNat = i.toNat + 1 by omega]
  rw [List.getElem?_eq_getElem hlt, Option.some.injEq] at h
  rw [h]
theorem drop_end {α : Type} {l : List α} {i : Int} (h0 : 0 ≤ i) (h1 : ¬ i < l.length) : l.drop i.toNat = [] := List.drop_eq_nil_of_le (by omega)
theorem rdl0 {α : Type} [Inhabited α] {a : α} {l : List α} : rdl (a :: l) 0 = a := rfl
theorem rdl1 {α : Type} [Inhabited α] {a b : α} {l : List α} : rdl (a :: b :: l) 1 = b := rfl
end Go.RM
namespace Go.RM
set_option linter.unusedVariables false
set_option linter.unusedSimpArgs false
/-- The first place from i on whose element passes. -/
def idxI {α : Type} (test : α → Bool) : List α → Int → Int
  | [], _ => -1
  | x :: l, i => if test x then i else idxI test l (i + 1)
theorem idxI_any {α : Type} (test : α → Bool) : ∀ (l : List α) (i : Int), 0 ≤ i → decide (idxI test l i ≥ 0) = l.any test
  | [], i, h => by simp [idxI]
  | x :: l, i, h => by
    unfold idxI
    by_cases hx : test x = true
    · simp [hx, h]
    · rw [if_neg hx, idxI_any test l (i + 1) (by omega)]; simp [hx]
theorem indexFunc {α : Type} [Inhabited α] {l : List α} {q : α → Bool → Prop} {b : Int → Rnd Int Unit Int → Prop} (test : α → Bool) (hl : l.length ≤ maxLen) (hq : ∀ x ∈ l, q x (test x))
    (hb : b = fun x1 z1 => if x1 < (l.length : Int) then (InR x1 l.length ∧ ∃ t : Bool, q (rdl l x1) t ∧ if t = true then z1 = .ret x1 else z1 = .next (IntKind.i64.wrap (x1 + 1))) else z1 = .exit ()) :
    ∃ o : Fin Unit Int, Loop b 0 o ∧ o.on (fun _ => idxI test l 0 = -1) (fun r_ => idxI test l 0 = r_) := by
  let spec : Int → Fin Unit Int := fun i => if (l.drop i.toNat).any test then .ret (idxI test (l.drop i.toNat) i) else .go ()
  have key := Loop.of (b := b) spec (fun i => ((l.length : Int) - i).toNat) (fun i => 0 ≤ i) (fun i hi => by
    subst hb
    by_cases h : i < (l.length : Int)
    · have hd := drop_rdl hi h
      by_cases ht : test (rdl l i) = true
      · refine .inr (.inr ⟨i, ?_, ?_⟩)
        · simp only [h, if_true]
          exact ⟨⟨hi, h⟩, true, ht ▸ hq _ (rdl_mem hi h), by simp⟩
        · show (if _ then _ else _) = _
          rw [hd]; simp [ht, idxI]
      · have ht' : test (rdl l i) = false := by simpa using ht
        refine .inl ⟨i + 1, ?_, by omega, by omega, ?_⟩
        · simp only [h, if_true]
          exact ⟨⟨hi, h⟩, false, ht' ▸ hq _ (rdl_mem hi h), by simp [wrap_len hl hi h]⟩
        · show (if _ then _ else _) = (if _ then _ else _)
          rw [hd]; simp [ht', idxI]
    · refine .inr (.inl ⟨(), by simp only [h, if_false], ?_⟩)
      show (if _ then _ else _) = _
      rw [drop_end hi h]; rfl) 0 (Int.le_refl 0)
  refine ⟨_, key, ?_⟩
  show Fin.on (if _ then _ else _) _ _
  simp only [Int.toNat_zero, List.drop_zero]
  split
  · rfl
  · rename_i h
    show idxI test l 0 = -1
    have : decide (idxI test l 0 ≥ 0) = false := by rw [idxI_any test l 0 (Int.le_refl 0)]; simpa using h
    have hge : ∀ (l : List α) (i : Int), 0 ≤ i → idxI test l i = -1 ∨ 0 ≤ idxI test l i := by
      intro l
      induction l with
      | nil => intro i _; exact .inl rfl
      | cons x l ih =>
        intro i hi
        unfold idxI
        split
        · exact .inr hi
        · exact ih (i + 1) (by omega)
    rcases hge l 0 (Int.le_refl 0) with h1 | h1
    · exact h1
    · simp at this; omega
/-- A loop that goes over a list as long as elements pass. -/
theorem eachLoop {α ρ : Type} [Inhabited α] {l : List α} {b : Int → Rnd Int Unit ρ → Prop} (test : α → Bool) (rv : ρ)
    (hb : ∀ i, 0 ≤ i → i < (l.length : Int) → (test (rdl l i) = true → b i (.next (i + 1))) ∧ (test (rdl l i) = false → b i (.ret rv))) (hend : ∀ i, 0 ≤ i → ¬ i < (l.length : Int) → b i (.exit ())) :
    Loop b 0 (if l.all test then .go () else .ret rv) := by
  let spec : Int → Fin Unit ρ := fun i => if (l.drop i.toNat).all test then .go () else .ret rv
  have key := Loop.of (b := b) spec (fun i => ((l.length : Int) - i).toNat) (fun i => 0 ≤ i) (fun i hi => by
    by_cases h : i < (l.length : Int)
    · have hd := drop_rdl hi h
      obtain ⟨h1, h2⟩ := hb i hi h
      cases ht : test (rdl l i) with
      | true =>
        refine .inl ⟨i + 1, h1 ht, by omega, by omega, ?_⟩
        show (if _ then _ else _) = (if _ then _ else _)
        rw [hd]; simp [ht]
      | false =>
        refine .inr (.inr ⟨rv, h2 ht, ?_⟩)
        show (if _ then _ else _) = _
        rw [hd]; simp [ht]
    · refine .inr (.inl ⟨(), hend i hi h, ?_⟩)
      show (if _ then _ else _) = _
      rw [drop_end hi h]; rfl) 0 (Int.le_refl 0)
  simpa [spec] using key
/-- slices.ContainsFunc. -/
theorem containsFunc {α : Type} [Inhabited α] {l : List α} {q : α → Bool → Prop} {b : Int → Rnd Int Unit Int → Prop} (test : α → Bool) (hl : l.length ≤ maxLen) (hq : ∀ x ∈ l, q x (test x))
    (hb : b = fun x1 z1 => if x1 < (l.length : Int) then (InR x1 l.length ∧ ∃ t : Bool, q (rdl l x1) t ∧ if t = true then z1 = .ret x1 else z1 = .next (IntKind.i64.wrap (x1 + 1))) else z1 = .exit ()) :
    ∃ t : Int, (∃ o : Fin Unit Int, Loop b 0 o ∧ o.on (fun _ => t = -1) (fun r_ => t = r_)) ∧ l.any test = decide (t ≥ 0) :=
  ⟨_, indexFunc test hl hq hb, (idxI_any test l 0 (Int.le_refl 0)).symm⟩
/-- What rounds over a list come to. -/
def foldF {α σ ρ : Type} (step : Int → α → σ → Fin σ ρ) : List α → Int → σ → Fin σ ρ
  | [], _, s => .go s
  | x :: l, i, s => match step i x s with
    | .go s' => foldF step l (i + 1) s'
    | .ret r => .ret r
def Fin.map {σ τ ρ : Type} (f : σ → τ) : Fin σ ρ → Fin τ ρ
  | .go s => .go (f s)
  | .ret r => .ret r
/-- A round does what its step says. -/
def Rok {σ S τ ρ : Type} (b : S → Rnd S τ ρ → Prop) (mk : Int → σ → S) (Inv : Int → σ → Prop) (i : Int) (s : σ) : Fin σ ρ → Prop
  | .go s' => b (mk i s) (.next (mk (i + 1) s')) ∧ Inv (i + 1) s'
  | .ret r => b (mk i s) (.ret r)
theorem foldLoop {α σ S τ ρ : Type} [Inhabited α] {l : List α} {b : S → Rnd S τ ρ → Prop} (mk : Int → σ → S) (ex : σ → τ) (step : Int → α → σ → Fin σ ρ) (Inv : Int → σ → Prop)
    (hb : ∀ i s, 0 ≤ i → i < (l.length : Int) → Inv i s → Rok b mk Inv i s (step i (rdl l i) s))
    (hend : ∀ s, Inv l.length s → b (mk l.length s) (.exit (ex s))) (s0 : σ) (h0 : Inv 0 s0) :
    Loop b (mk 0 s0) ((foldF step l 0 s0).map ex) ∧ ∀ s, foldF step l 0 s0 = .go s → Inv l.length s := by
  have main : ∀ (k : Nat) (i : Int) (s : σ), ((l.length : Int) - i).toNat = k → 0 ≤ i → i ≤ l.length → Inv i s → Loop b (mk i s) ((foldF step (l.drop i.toNat) i s).map ex) ∧ ∀ s', foldF step (l.drop i.toNat) i s = .go s' → Inv l.length s' := by
    intro k
    induction k with
    | zero =>
      intro i s hk h0 h1 hi
      have : i = l.length := by omega
      subst this
      rw [drop_end h0 (by omega)]
      exact ⟨.exit (hend s hi), fun s' h => by injection h with h; exact h ▸ hi⟩
    | succ k ih =>
      intro i s hk h0 h1 hi
      have hlt : i < (l.length : Int) := by omega
      rw [drop_rdl h0 hlt]
      have hr := hb i s h0 hlt hi
      unfold foldF
      revert hr
      cases step i (rdl l i) s with
      | go s1 =>
        intro hr
        have := ih (i + 1) s1 (by omega) (by omega) (by omega) hr.2
        exact ⟨.next hr.1 this.1, this.2⟩
      | ret r =>
        intro hr
        exact ⟨.ret hr, fun s' h => by cases h⟩
  have := main _ 0 s0 rfl (Int.le_refl 0) (by omega) h0
  simpa using this
theorem foldF_map {α β ρ : Type} (f : α → β) : ∀ (l : List α) (i : Int) (acc : List β), foldF (fun _ x acc => (.go (acc ++ [f x]) : Fin (List β) ρ)) l i acc = .go (acc ++ l.map f)
  | [], i, acc => by simp [foldF]
  | x :: l, i, acc => by
    show foldF _ l (i + 1) (acc ++ [f x]) = _
    rw [foldF_map f l]
    simp
/-- What counted rounds come to. -/
def countF {σ ρ : Type} (step : Int → σ → Fin σ ρ) : Nat → Int → σ → Fin σ ρ
  | 0, _, s => .go s
  | k + 1, i, s => match step i s with
    | .go s' => countF step k (i + 1) s'
    | .ret r => .ret r
theorem countLoop {σ S τ ρ : Type} {n : Int} {b : S → Rnd S τ ρ → Prop} (mk : Int → σ → S) (ex : σ → τ) (step : Int → σ → Fin σ ρ) (Inv : Int → σ → Prop)
    (hb : ∀ i s, 0 ≤ i → i < n → Inv i s → Rok b mk Inv i s (step i s))
    (hend : ∀ s, Inv n s → b (mk n s) (.exit (ex s))) (s0 : σ) (hn : 0 ≤ n) (h0 : Inv 0 s0) :
    Loop b (mk 0 s0) ((countF step n.toNat 0 s0).map ex) ∧ ∀ s, countF step n.toNat 0 s0 = .go s → Inv n s := by
  have main : ∀ (k : Nat) (i : Int) (s : σ), (n - i).toNat = k → 0 ≤ i → i ≤ n → Inv i s → Loop b (mk i s) ((countF step k i s).map ex) ∧ ∀ s', countF step k i s = .go s' → Inv n s' := by
    intro k
    induction k with
    | zero =>
      intro i s hk h0 h1 hi
      have : i = n := by omega
      subst this
      exact ⟨.exit (hend s hi), fun s' h => by injection h with h; exact h ▸ hi⟩
    | succ k ih =>
      intro i s hk h0 h1 hi
      have hlt : i < n := by omega
      have hr := hb i s h0 hlt hi
      unfold countF
      revert hr
      cases step i s with
      | go s1 =>
        intro hr
        have := ih (i + 1) s1 (by omega) (by omega) (by omega) hr.2
        exact ⟨.next hr.1 this.1, this.2⟩
      | ret r =>
        intro hr
        exact ⟨.ret hr, fun s' h => by cases h⟩
  have := main _ 0 s0 rfl (Int.le_refl 0) hn h0
  simpa using this
/-- The numbers below n as integers. -/
def upto (n : Nat) : List Int := (List.range n).map Int.ofNat
theorem countF_app {β ρ : Type} (f : Int → β) : ∀ (k : Nat) (i : Int) (acc : List β), countF (fun i acc => (.go (acc ++ [f i]) : Fin (List β) ρ)) k i acc = .go (acc ++ (upto k).map (fun j => f (i + j)))
  | 0, i, acc => by simp [countF, upto]
  | k + 1, i, acc => by
    unfold countF
    simp only
    rw [countF_app f k]
    simp only [upto, List.range_succ_eq_map, List.map_cons, List.map_map, List.append_assoc, List.singleton_append]
    simp only [Fin.go.injEq, List.append_cancel_left_eq, List.cons.injEq]
    refine ⟨by simp, List.map_congr_left fun j _ => ?_⟩
    simp only [Function.comp]
    congr 1
    simp
    omega
/-- A row that is filled from the front. -/
theorem fillLoop {α ρ : Type} [Inhabited α] {n : Int} {b : (List α × Int) → Rnd (List α × Int) (List α) ρ → Prop} (d : α) (f : Int → α → α) (hn : 0 ≤ n)
    (hb : ∀ i l, 0 ≤ i → i < n → (l.length : Int) = n → b (l, i) (.next (setl l i (f i (rdl l i)), i + 1))) (hend : ∀ l, (l.length : Int) = n → b (l, n) (.exit l)) :
    Loop b (List.replicate n.toNat d, 0) (.go ((upto n.toNat).map (fun i => f i d))) := by
  let m := (upto n.toNat).map (fun i => f i d)
  have hm : m.length = n.toNat := by simp [m, upto]
  have key := Loop.of (b := b) (fun _ => .go m) (fun s => (n - s.2).toNat) (fun s => 0 ≤ s.2 ∧ s.2 ≤ n ∧ s.1 = m.take s.2.toNat ++ List.replicate (n.toNat - s.2.toNat) d) (fun s hi => by
    obtain ⟨l, i⟩ := s
    obtain ⟨h0, h1, h2⟩ := hi
    simp only at h0 h1 h2
    have hlen : (l.length : Int) = n := by rw [h2]; simp [hm]; omega
    by_cases h : i < n
    · have hd : rdl l i = d := by
        have hg := rdl_get (l := l) h0 (by omega)
        rw [h2] at hg
        rw [List.getElem?_append_right (by simp; omega)] at hg
        have : (List.take i.toNat m).length = i.toNat := by simp [hm]; omega
        rw [this, Nat.sub_self, List.getElem?_replicate] at hg
        rw [if_pos (by omega)] at hg
        injection hg with hg
        rw [h2]; exact hg.symm
      refine .inl ⟨_, hb i l h0 h hlen, by simp; omega, ⟨by simp; omega, by simp; omega, ?_⟩, rfl⟩
      simp only
      rw [hd]
      apply List.ext_getElem?
      intro k
      unfold setl
      rw [List.getElem?_set, h2]
      by_cases hk : i.toNat = k
      · subst hk
        have hl2 : i.toNat < (List.take i.toNat m ++ List.replicate (n.toNat - i.toNat) d).length := by simp [hm]; omega
        rw [if_pos rfl, if_pos hl2]
        rw [List.getElem?_append_left (by simp [hm]; omega)]
        rw [List.getElem?_take, if_pos (by omega)]
        simp only [m, upto, List.map_map, List.getElem?_map]
        rw [List.getElem?_range (by omega)]
        simp [Function.comp]
        congr 1; omega
      · rw [if_neg hk]
        by_cases hk2 : k < i.toNat
        · rw [List.getElem?_append_left (by simp [hm]; omega), List.getElem?_append_left (by simp [hm]; omega)]
          rw [List.getElem?_take, List.getElem?_take, if_pos hk2, if_pos (by omega)]
        · rw [List.getElem?_append_right (by simp [hm]; omega), List.getElem?_append_right (by simp [hm]; omega)]
          rw [List.getElem?_replicate, List.getElem?_replicate]
          simp only [List.length_take, hm]
          congr 1
          apply propext
          constructor <;> intro <;> omega
    · have : i = n := by omega
      subst this
      refine .inr (.inl ⟨l, hend l hlen, ?_⟩)
      rw [h2]; simp [← hm]) (List.replicate n.toNat d, 0) ⟨Int.le_refl 0, hn, by simp⟩
  exact key
theorem iteR {α : Type} (c : Bool) {a b : α} : if c = true then (if c = true then a else b) = a else (if c = true then a else b) = b := by cases c <;> rfl
def all2B {α β : Type} (test : α → β → Bool) : List α → List β → Bool
  | x :: l, y :: m => test x y && all2B test l m
  | _, _ => true
theorem each2Loop {α β ρ : Type} [Inhabited α] [Inhabited β] {l : List α} {m : List β} {b : Int → Rnd Int Unit ρ → Prop} (test : α → β → Bool) (rv : ρ) (hlen : l.length = m.length)
    (hb : ∀ i, 0 ≤ i → i < (l.length : Int) → (test (rdl l i) (rdl m i) = true → b i (.next (i + 1))) ∧ (test (rdl l i) (rdl m i) = false → b i (.ret rv))) (hend : ∀ i, 0 ≤ i → ¬ i < (l.length : Int) → b i (.exit ())) :
    Loop b 0 (if all2B test l m = true then .go () else .ret rv) := by
  let spec : Int → Fin Unit ρ := fun i => if all2B test (l.drop i.toNat) (m.drop i.toNat) = true then .go () else .ret rv
  have key := Loop.of (b := b) spec (fun i => ((l.length : Int) - i).toNat) (fun i => 0 ≤ i) (fun i hi => by
    by_cases h : i < (l.length : Int)
    · have hd := drop_rdl hi h
      have hd2 := drop_rdl (l := m) hi (by omega)
      obtain ⟨h1, h2⟩ := hb i hi h
      cases ht : test (rdl l i) (rdl m i) with
      | true =>
        refine .inl ⟨i + 1, h1 ht, by omega, by omega, ?_⟩
        show (if _ then _ else _) = (if _ then _ else _)
        rw [hd, hd2]; simp [all2B, ht]
      | false =>
        refine .inr (.inr ⟨rv, h2 ht, ?_⟩)
        show (if _ then _ else _) = _
        rw [hd, hd2]; simp [all2B, ht]
    · refine .inr (.inl ⟨(), hend i hi h, ?_⟩)
      show (if _ then _ else _) = _
      rw [drop_end hi h]; simp [all2B]) 0 (Int.le_refl 0)
  simpa [spec] using key
theorem all2B_eq {α : Type} [DecidableEq α] : ∀ (l m : List α), l.length = m.length → all2B (fun x y => decide (x = y)) l m = decide (l = m)
  | [], [], _ => by simp [all2B]
  | x :: l, y :: m, h => by
    have := all2B_eq l m (by simpa using h)
    simp [all2B, this]
theorem eqLoop {α ρ : Type} [Inhabited α] [DecidableEq α] {l m : List α} {b : Int → Rnd Int Unit ρ → Prop} (rv : ρ) (hlen : l.length = m.length)
    (hb : ∀ i, 0 ≤ i → i < (l.length : Int) → (rdl l i = rdl m i → b i (.next (i + 1))) ∧ (rdl l i ≠ rdl m i → b i (.ret rv))) (hend : ∀ i, 0 ≤ i → ¬ i < (l.length : Int) → b i (.exit ())) :
    Loop b 0 (if l = m then .go () else .ret rv) := by
  have := each2Loop (b := b) (fun x y => decide (x = y)) rv hlen (fun i h0 h1 => ⟨fun h => (hb i h0 h1).1 (by simpa using h), fun h => (hb i h0 h1).2 (by simpa using h)⟩) hend
  rw [all2B_eq l m hlen] at this
  simpa using this
/-- The same loop over two lists of numbers or truths, as it is written for slices.Equal and its like. -/
theorem eqRound {α : Type} [Inhabited α] [DecidableEq α] {l m : List α} {b : Int → Rnd Int Unit Bool → Prop} (hl : l.length ≤ maxLen) (hlen : l.length = m.length)
    (hb : b = fun x1 z1 => if x1 < (l.length : Int) then (InR x1 l.length ∧ InR x1 m.length ∧ if rdl l x1 = rdl m x1 then z1 = .next (IntKind.i64.wrap (x1 + 1)) else z1 = .ret false) else z1 = .exit ()) :
    Loop b 0 (if l = m then .go () else .ret false) := by
  subst hb
  refine eqLoop false hlen (fun i h0 h1 => ⟨fun h => ?_, fun h => ?_⟩) (fun i h0 h1 => by simp only [h1, if_false])
  · simp only [h1, if_true]
    exact ⟨⟨h0, h1⟩, ⟨h0, by omega⟩, by rw [if_pos h, wrap_len hl h0 h1]⟩
  · simp only [h1, if_true]
    exact ⟨⟨h0, h1⟩, ⟨h0, by omega⟩, by rw [if_neg h]; trivial⟩
theorem eqOn {α : Type} [DecidableEq α] {l m : List α} : (if l = m then (.go () : Fin Unit Bool) else .ret false).on (fun _ => decide (l = m) = true) (fun r_ => decide (l = m) = r_) := by
  by_cases h : l = m <;> simp [Fin.on, h]
/-- Rounds over a list that never return. -/
def foldG {α σ : Type} (g : Int → α → σ → σ) : List α → Int → σ → σ
  | [], _, s => s
  | x :: l, i, s => foldG g l (i + 1) (g i x s)
theorem foldF_G {α σ ρ : Type} (g : Int → α → σ → σ) : ∀ (l : List α) (i : Int) (s : σ), foldF (fun i x s => (.go (g i x s) : Fin σ ρ)) l i s = .go (foldG g l i s)
  | [], i, s => rfl
  | x :: l, i, s => foldF_G g l (i + 1) _
theorem foldGLoop {α σ S τ ρ : Type} [Inhabited α] {l : List α} {b : S → Rnd S τ ρ → Prop} (mk : Int → σ → S) (ex : σ → τ) (g : Int → α → σ → σ) (Inv : Int → σ → Prop)
    (hb : ∀ i s, 0 ≤ i → i < (l.length : Int) → Inv i s → b (mk i s) (.next (mk (i + 1) (g i (rdl l i) s))) ∧ Inv (i + 1) (g i (rdl l i) s))
    (hend : ∀ s, Inv l.length s → b (mk l.length s) (.exit (ex s))) (s0 : σ) (h0 : Inv 0 s0) :
    Loop b (mk 0 s0) (.go (ex (foldG g l 0 s0))) ∧ Inv l.length (foldG g l 0 s0) := by
  have := foldLoop (l := l) (b := b) mk ex (fun i x s => .go (g i x s)) Inv (fun i s h0 h1 hi => hb i s h0 h1 hi) hend s0 h0
  rw [foldF_G] at this
  exact ⟨this.1, this.2 _ rfl⟩
theorem foldG_inv {α σ : Type} {g : Int → α → σ → σ} (P : Int → σ → Prop) : ∀ (l : List α) (i : Int) (s : σ), (∀ i s x, x ∈ l → P i s → P (i + 1) (g i x s)) → P i s → P (i + l.length) (foldG g l i s)
  | [], i, s, h, hs => by simpa [foldG] using hs
  | x :: l, i, s, h, hs => by
    have := foldG_inv P l (i + 1) (g i x s) (fun i s y hy hp => h i s y (.tail _ hy) hp) (h i s x (.head _) hs)
    have e : i + ((x :: l).length : Int) = i + 1 + l.length := by simp; omega
    rw [e]; exact this
end Go.RM
namespace Go.RM.Try
open Go.RM
set_option linter.unusedVariables false
set_option linter.unusedSimpArgs false
def inB (i n : Int) : Bool := decide (i ≥ 0) && decide (i < n)
theorem pds_in.ok (i n : Int) : pds_in.f i n (inB i n) := rfl
/-- Costs. -/
def costE (cap v : Int) : Int := if cap < 0 ∨ cap > 1048576 then 20 else if v < -1 ∨ v > cap then 21 else 0
theorem cost_Check.ok (cap v : Int) : cost_Check.f cap v (costE cap v) := by
  refine ⟨costE cap v, ?_, rfl⟩
  unfold cost_checks.f costE
  by_cases h : cap < 0 ∨ cap > 1048576
  · simp [h]
  · rw [if_neg (by simpa using h), if_neg h]
    have key := eachLoop (l := [v]) (b := cost_checks.b1 cap [v]) (fun x => !(decide (x < -1) || decide (x > cap))) (21 : Int) (fun i h0 h1 => by
      unfold cost_checks.b1
      simp only [h1, if_true]
      refine ⟨fun ht => ⟨⟨h0, h1⟩, ?_⟩, fun ht => ⟨⟨h0, h1⟩, ?_⟩⟩
      · have hn : ¬ ((decide (rdl [v] i < -1) || decide (rdl [v] i > cap)) = true) := by simpa using ht
        rw [if_neg hn, wrap_len (l := [v]) (by simp [maxLen]) h0 h1]
      · have hn : (decide (rdl [v] i < -1) || decide (rdl [v] i > cap)) = true := by simpa only [Bool.not_eq_false'] using ht
        rw [if_pos hn]; trivial) (fun i h0 h1 => by unfold cost_checks.b1; simp only [h1, if_false])
    refine ⟨_, key, ?_⟩
    by_cases hv : v < -1 ∨ v > cap
    · have : ([v].all fun x => !(decide (x < -1) || decide (x > cap))) = false := by simp; omega
      rw [this, if_pos hv]; rfl
    · have : ([v].all fun x => !(decide (x < -1) || decide (x > cap))) = true := by simp; omega
      rw [this, if_neg hv]; rfl
/-- The first n of 64. -/
def fullM (n : Int) : Int := 2 ^ n.toNat - 1
theorem pow_split {n : Nat} (h : n ≤ 64) : (18446744073709551615 : Int).fdiv (2 ^ (64 - n)) = 2 ^ n - 1 := by
  have hp : (2 : Int) ^ n * 2 ^ (64 - n) = 18446744073709551616 := by rw [← Int.pow_add, show n + (64 - n) = 64 by omega]; decide
  have hpos : (0 : Int) < 2 ^ (64 - n) := Int.pow_pos (by decide)
  rw [Int.fdiv_eq_ediv_of_nonneg _ (Int.le_of_lt hpos)]
  rw [show (18446744073709551615 : Int) = (2 ^ (64 - n) - 1) + (2 ^ n - 1) * 2 ^ (64 - n) by rw [Int.sub_mul, hp]; omega]
  rw [Int.add_mul_ediv_right _ _ (Int.ne_of_gt hpos), Int.ediv_eq_zero_of_lt (by omega) (by omega)]
  omega
theorem bits_Full.ok (n : Int) : bits_Full.f n (if n < 0 ∨ n > 64 then (0, 10) else (fullM n, 0)) := by
  unfold bits_Full.f
  by_cases h : n < 0 ∨ n > 64
  · rw [if_pos (by simpa using h), if_pos h]
  · rw [if_neg (by simpa using h), if_neg h]
    have e1 : IntKind.i64.wrap (64 - n) = 64 - n := wrap64 (by omega) (by omega)
    have e2 : IntKind.u64.wrap (64 - n) = 64 - n := wrapu64 (by omega) (by omega)
    rw [e1, e2]
    refine ⟨by omega, ?_⟩
    have hn : n.toNat ≤ 64 := by omega
    have := pow_split hn
    unfold shrI fullM
    rw [show (min (64 - n).toNat IntKind.u64.bits) = 64 - n.toNat by simp [IntKind.bits]; omega, this]
theorem two_pow_lt {n : Nat} (h : n < 64) : (2 : Int) ^ n < 18446744073709551616 := by
  have h1 : (2 : Nat) ^ n < 2 ^ 64 := Nat.pow_lt_pow_right (by decide) h
  have h2 : ((2 ^ n : Nat) : Int) = (2 : Int) ^ n := by simp
  have h3 : (2 : Nat) ^ 64 = 18446744073709551616 := by decide
  omega
theorem r01_Worth.ok {n : Int} (h0 : 0 ≤ n) (h1 : n < 64) : r01_Worth.f n (2 ^ n.toNat) := by
  have key := Loop.of (b := r01_Worth.b1) (fun _ => (.go (2 ^ n.toNat) : Fin Int Int)) (fun s => s.1.toNat) (fun s => 0 ≤ s.1 ∧ s.1 < 64 ∧ 0 ≤ s.2 ∧ s.2 * 2 ^ s.1.toNat = 2 ^ n.toNat) (fun s hi => by
    obtain ⟨x1, x2⟩ := s
    obtain ⟨i0, i1, i2, i3⟩ := hi
    simp only at i0 i1 i2 i3
    by_cases hx : x1 > 0
    · have hp : (2 : Int) ^ x1.toNat = 2 * 2 ^ (x1 - 1).toNat := by
        rw [show x1.toNat = (x1 - 1).toNat + 1 by omega, Int.pow_succ, Int.mul_comm]
      have hpos : (0 : Int) < 2 ^ (x1 - 1).toNat := Int.pow_pos (by decide)
      have hle : x2 * 2 ≤ x2 * 2 * 2 ^ (x1 - 1).toNat := by have h9 := Int.mul_le_mul_of_nonneg_left (show (1 : Int) ≤ 2 ^ (x1 - 1).toNat by omega) (show 0 ≤ x2 * 2 by omega); rw [Int.mul_one] at h9; exact h9
      have he : x2 * 2 * 2 ^ (x1 - 1).toNat = 2 ^ n.toNat := by rw [← i3, hp, Int.mul_assoc]
      have hlt := two_pow_lt (n := n.toNat) (by omega)
      refine .inl ⟨(x1 - 1, x2 * 2), ?_, by simp; omega, ⟨by simp; omega, by simp; omega, by simp; omega, he⟩, rfl⟩
      unfold r01_Worth.b1
      simp only [hx, if_true]
      rw [wrap64 (by omega) (by omega), wrapu64 (by omega) (by omega)]
    · have hz : x1 = 0 := by omega
      subst hz
      refine .inr (.inl ⟨x2, by unfold r01_Worth.b1; simp, ?_⟩)
      have : x2 = 2 ^ n.toNat := by simpa using i3
      rw [this]) (n, 1) ⟨h0, h1, Int.zero_le_ofNat 1, by simp⟩
  exact ⟨_, key, rfl⟩
theorem r01_Full.ok (n : Int) : r01_Full.f n (if n < 0 ∨ n > 64 then (0, 10) else (fullM n, 0)) := by
  unfold r01_Full.f
  by_cases h : n < 0 ∨ n > 64
  · rw [if_pos (by simpa using h), if_pos h]
  · rw [if_neg (by simpa using h), if_neg h]
    have key := Loop.of (b := r01_Full.b1 n) (fun _ => (.go (fullM n) : Fin Int (Int × Int))) (fun s => (n - s.2).toNat) (fun s => 0 ≤ s.2 ∧ s.2 ≤ n ∧ s.1 = fullM s.2) (fun s hi => by
      obtain ⟨x1, x2⟩ := s
      obtain ⟨i0, i1, i2⟩ := hi
      simp only at i0 i1 i2
      by_cases hx : x2 < n
      · have hlt := two_pow_lt (n := x2.toNat) (by omega)
        have hpos : (0 : Int) < 2 ^ x2.toNat := Int.pow_pos (by decide)
        have hp : (2 : Int) ^ (x2 + 1).toNat = 2 ^ x2.toNat * 2 := by rw [show (x2 + 1).toNat = x2.toNat + 1 by omega, Int.pow_succ]
        have hs : x1 + 2 ^ x2.toNat = fullM (x2 + 1) := by rw [i2]; unfold fullM; rw [hp]; omega
        have hle : (2 : Int) ^ x2.toNat ≤ 9223372036854775808 := by
          have h1 : (2 : Nat) ^ x2.toNat ≤ 2 ^ 63 := Nat.pow_le_pow_right (by decide) (by omega)
          have h2 : ((2 ^ x2.toNat : Nat) : Int) = (2 : Int) ^ x2.toNat := by simp
          have h3 : (2 : Nat) ^ 63 = 9223372036854775808 := by decide
          omega
        refine .inl ⟨(fullM (x2 + 1), x2 + 1), ?_, by simp; omega, ⟨by simp; omega, by simp; omega, rfl⟩, rfl⟩
        unfold r01_Full.b1
        simp only [hx, if_true]
        refine ⟨_, r01_Worth.ok i0 (by omega), ?_⟩
        rw [hs, wrap64 (by omega) (by omega), wrapu64 (by unfold fullM; rw [hp]; omega) (by unfold fullM; rw [hp]; omega)]
      · have hz : x2 = n := by omega
        subst hz
        exact .inr (.inl ⟨x1, by unfold r01_Full.b1; simp, by rw [i2]⟩)) (0, 0) ⟨by decide, by simp; omega, by simp [fullM]⟩
    exact ⟨_, key, rfl⟩
end Go.RM.Try
namespace Go.RM.Try
open Go.RM
set_option linter.unusedVariables false
set_option linter.unusedSimpArgs false
/-- A space without parts. -/
def spaceOk1 (s : TSpace) : Bool :=
  if s.Tag = 1 then (s.Dim == 0) && ((s.Parts.length : Int) == 0)
  else if s.Tag = 2 then decide (s.Dim ≥ 0) && (decide (s.Dim ≤ 1048576) && ((s.Parts.length : Int) == 0))
  else if s.Tag = 3 ∨ s.Tag = 4 then decide (s.Dim ≥ 0) && (decide (s.Dim ≤ 64) && ((s.Parts.length : Int) == 0))
  else false
def spaceOk (s : TSpace) : Bool :=
  if s.Tag = 5 then (s.Dim == 0) && (((s.Parts.length : Int) == 2) && s.Parts.all (fun p => !(p.Tag == 5) && spaceOk1 p)) else spaceOk1 s
theorem weight_Space.step1 {self : TSpace → Int → Prop} {s : TSpace} (h : s.Tag ≠ 5) : weight_Space.step self s (if spaceOk1 s = true then 0 else 50) := by
  unfold weight_Space.step weight_Space.j1 spaceOk1
  by_cases h1 : s.Tag = 1
  · simp only [h1, if_true]; exact iteR _
  · by_cases h2 : s.Tag = 2
    · simp only [h2, Int.reduceEq, if_true, if_false]; exact iteR _
    · by_cases h3 : s.Tag = 3
      · simp only [h3, Int.reduceEq, if_true, if_false, true_or]; exact iteR _
      · by_cases h4 : s.Tag = 4
        · simp only [h4, Int.reduceEq, if_true, if_false, or_true]; exact iteR _
        · simp [h1, h2, h3, h4, h]
theorem spaceOk_ne {s : TSpace} (h : s.Tag ≠ 5) : spaceOk s = spaceOk1 s := by unfold spaceOk; rw [if_neg h]
theorem weight_Space.ok {s : TSpace} (hl : s.Parts.length ≤ maxLen) : weight_Space.f s (if spaceOk s = true then 0 else 50) := by
  refine ⟨2, ?_⟩
  by_cases h : s.Tag = 5
  · show weight_Space.step _ s _
    unfold weight_Space.step spaceOk
    simp only [h, if_true, if_false, show ¬ (5 : Int) = 1 by decide, show ¬ (5 : Int) = 2 by decide, show ¬ (5 : Int) = 3 by decide, show ¬ (5 : Int) = 4 by decide]
    refine ⟨s.Parts.any (fun p => (p.Tag == 5) || !spaceOk1 p), fun _ _ => ?_, ?_⟩
    · refine containsFunc (fun p => (p.Tag == 5) || !spaceOk1 p) hl (fun p hp => ?_) rfl
      refine ⟨if spaceOk1 p = true then 0 else 50, fun hn => weight_Space.step1 hn, ?_⟩
      cases spaceOk1 p <;> simp
    · have e : (!s.Parts.any (fun p => (p.Tag == 5) || !spaceOk1 p)) = s.Parts.all (fun p => !(p.Tag == 5) && spaceOk1 p) := by
        rw [List.all_eq_not_any_not]; simp
      rw [e]
      exact iteR _
  · rw [spaceOk_ne h]; exact weight_Space.step1 h
theorem r05_Space.step1 {self : TSpace → Int → Prop} {s : TSpace} (h : s.Tag ≠ 5) : r05_Space.step self s (if spaceOk1 s = true then 0 else 50) := by
  unfold r05_Space.step r05_Space.j1 spaceOk1
  by_cases h1 : s.Tag = 1
  · simp only [h1, if_true]; exact iteR _
  · by_cases h2 : s.Tag = 2
    · simp only [h2, Int.reduceEq, if_true, if_false]; exact iteR _
    · by_cases h3 : s.Tag = 3
      · simp only [h3, Int.reduceEq, if_true, if_false, true_or, beq_self_eq_true]; exact iteR _
      · by_cases h4 : s.Tag = 4
        · simp only [h4, Int.reduceEq, if_true, if_false, or_true, beq_self_eq_true]; exact iteR _
        · simp [h1, h2, h3, h4, h]
theorem r05_Space.ok {s : TSpace} (hl : s.Parts.length ≤ maxLen) : r05_Space.f s (if spaceOk s = true then 0 else 50) := by
  refine ⟨2, ?_⟩
  by_cases h : s.Tag = 5
  · show r05_Space.step _ s _
    unfold r05_Space.step spaceOk r05_Space.j1
    simp only [h, if_true, if_false, show ¬ (5 : Int) = 1 by decide, show ¬ (5 : Int) = 2 by decide, show ¬ (5 : Int) = 3 by decide, show ((5 : Int) == 4) = false by decide, Bool.false_eq_true]
    by_cases hd : ((s.Dim == 0) && ((s.Parts.length : Int) == 2)) = true
    · obtain ⟨a, b, hp⟩ : ∃ a b, s.Parts = [a, b] := by
        have : s.Parts.length = 2 := by simp at hd; omega
        match hs : s.Parts, this with
        | [a, b], _ => exact ⟨a, b, rfl⟩
      have hq : ∀ p : TSpace, ¬ p.Tag = 5 → r05_Space.fN 1 p (if spaceOk1 p = true then 0 else 50) := fun p hn => r05_Space.step1 hn
      have hx : ∀ p : TSpace, ((!(p.Tag == 5)) && ((if spaceOk1 p = true then (0 : Int) else 50) == 0)) = (!(p.Tag == 5) && spaceOk1 p) := fun p => by cases spaceOk1 p <;> simp
      have r1 : r05_Space.b1 (r05_Space.fN 1) s (true, 0) (.next (!(a.Tag == 5) && spaceOk1 a, 1)) := by
        unfold r05_Space.b1
        simp only [hp]
        refine ⟨⟨by decide, by simp⟩, fun _ => ⟨by decide, by simp⟩, _, hq a, ?_⟩
        rw [show rdl [a, b] 0 = a from rfl, hx a]; rfl
      have r2 : (!(a.Tag == 5) && spaceOk1 a) = true → r05_Space.b1 (r05_Space.fN 1) s (true, 1) (.next (!(b.Tag == 5) && spaceOk1 b, 2)) := fun _ => by
        unfold r05_Space.b1
        simp only [hp]
        refine ⟨⟨by decide, by simp⟩, fun _ => ⟨by decide, by simp⟩, _, hq b, ?_⟩
        rw [show rdl [a, b] 1 = b from rfl, hx b]; rfl
      have r3 : ∀ c, r05_Space.b1 (r05_Space.fN 1) s (c, 2) (.exit c) := fun c => by unfold r05_Space.b1; simp [hp]
      have r4 : r05_Space.b1 (r05_Space.fN 1) s (false, 1) (.exit false) := by unfold r05_Space.b1; simp [hp]
      rw [hd]
      rw [Bool.and_eq_true] at hd
      rw [hd.1, hd.2, hp]
      cases ha : (!(a.Tag == 5) && spaceOk1 a) with
      | false =>
        rw [ha] at r1
        refine ⟨_, .next r1 (.exit r4), ?_⟩
        simp [Fin.on, ha]
      | true =>
        rw [ha] at r1
        refine ⟨_, .next r1 (.next (r2 ha) (.exit (r3 _))), ?_⟩
        simp only [Fin.on, List.all_cons, List.all_nil, ha, Bool.true_and, Bool.and_true]
        exact iteR _
    · have hd' : ((s.Dim == 0) && ((s.Parts.length : Int) == 2)) = false := by simpa only [Bool.not_eq_true] using hd
      rw [hd', ← Bool.and_assoc, hd']
      refine ⟨.go false, .exit ?_, ?_⟩
      · unfold r05_Space.b1; simp
      · simp [Fin.on]
  · rw [spaceOk_ne h]; exact r05_Space.step1 h
end Go.RM.Try
namespace Go.RM.Try
open Go.RM
set_option linter.unusedVariables false
set_option linter.unusedSimpArgs false
/-- A weight that has nothing but what is named. -/
def plainB (w : TWeight) (c f e p : Bool) : Bool :=
  (c || w.Cost == 0) && ((f || (w.Facts.Gen == 0 && (w.Facts.Rows.length : Int) == 0)) && ((e || (w.Cells.length : Int) == 0) && (p || (w.Parts.length : Int) == 0)))
theorem r05_plain.ok (w : TWeight) (c f e p : Bool) : r05_plain.f w c f e p (plainB w c f e p) := by
  unfold r05_plain.f plainB
  cases c <;> cases f <;> cases e <;> cases p <;> simp [Bool.and_assoc]
/-- Sizes that a reading keeps. -/
def TWeight.Sized (w : TWeight) : Prop := w.Facts.Rows.length ≤ 17592186044416 ∧ w.Cells.length ≤ 17592186044416 ∧ w.Parts.length ≤ 17592186044416
theorem TWeight.Fit.sized {w : TWeight} (h : w.Fit) : w.Sized := by
  cases h with
  | mk _ h0 h1 h2 h3 h4 h5 h6 h7 h8 =>
    have := h2.2.1
    exact ⟨by omega, by omega, by omega⟩
theorem weight_bare.ok {w : TWeight} (h : w.Sized) (t : Int) : weight_bare.f w t (plainB w (t == 2) (t == 3) (t == 4) (t == 5)) := by
  obtain ⟨ha, hb, hc⟩ := h
  have e : ∀ a b c : Nat, a ≤ 17592186044416 → b ≤ 17592186044416 → c ≤ 17592186044416 → (IntKind.i64.wrap (IntKind.i64.wrap ((a : Int) + b) + c) == 0) = (((a : Int) == 0) && (((b : Int) == 0) && ((c : Int) == 0))) := by
    intro a b c h1 h2 h3
    rw [wrap64 (i := (a : Int) + b) (by omega) (by omega), wrap64 (by omega) (by omega), Bool.eq_iff_iff]
    simp only [beq_iff_eq, Bool.and_eq_true]
    omega
  have z : ((([] : List Int).length : Nat) : Int) = 0 := rfl
  unfold weight_bare.f weight_bare.j1 plainB
  by_cases h2 : t = 2
  · subst h2; rw [if_pos rfl]; simp only []; rw [e _ _ _ ha hb hc]; simp [Bool.and_assoc]
  · by_cases h3 : t = 3
    · subst h3; simp only [Int.reduceEq, if_true, if_false]; rw [e _ _ _ (by simp) hb hc]; simp
    · by_cases h4 : t = 4
      · subst h4; simp only [Int.reduceEq, if_true, if_false]; rw [e _ _ _ ha (by simp) hc]; simp [Bool.and_assoc]
      · by_cases h5 : t = 5
        · subst h5; simp only [Int.reduceEq, if_true, if_false]; rw [e _ _ _ ha hb (by simp)]; simp [Bool.and_assoc]
        · simp only [h2, h3, h4, h5, if_false]; rw [e _ _ _ ha hb hc]
          rw [beq_false_of_ne h2, beq_false_of_ne h3, beq_false_of_ne h4, beq_false_of_ne h5]
          simp only [Bool.false_or, Bool.and_assoc]
/-- Cells. -/
def cellOk (n : Int) (c : TCell) : Bool :=
  (bitOp .andNot .u64 c.From (fullM n) == 0) && (if c.Kind = 0 then c.K == 0 else if c.Kind = 1 then true else if c.Kind = 2 then (c.K == 0) && (c.From == 0) else false)
theorem cells_mask.ok {n : Int} (h0 : 0 ≤ n) (h1 : n ≤ 64) : cells_mask.f n (fullM n) := by
  unfold cells_mask.f
  by_cases h : n ≥ 64
  · have : n = 64 := by omega
    subst this
    simp only [ge_iff_le, Int.le_refl, if_true]; decide
  · rw [if_neg h]
    refine ⟨h0, ?_⟩
    have hlt := two_pow_lt (n := n.toNat) (by omega)
    have hpos : (0 : Int) < 2 ^ n.toNat := Int.pow_pos (by decide)
    have e : shlI .u64 1 n = 2 ^ n.toNat := by
      unfold shlI
      rw [show (min n.toNat IntKind.u64.bits) = n.toNat by simp [IntKind.bits]; omega]
      rw [Int.one_mul, wrapu64 (by omega) hlt]
    rw [e, wrapu64 (by omega) (by omega)]
    rfl
theorem cells_right.ok {n : Int} (h0 : 0 ≤ n) (h1 : n ≤ 64) (c : TCell) : cells_right.f n c (cellOk n c) := by
  refine ⟨_, cells_mask.ok h0 h1, ?_⟩
  unfold cellOk
  by_cases hm : bitOp .andNot .u64 c.From (fullM n) = 0
  · simp only [hm, if_true, beq_self_eq_true, Bool.true_and]
    by_cases k1 : c.Kind = 1
    · simp [k1]
    · by_cases k0 : c.Kind = 0
      · simp [k0]
      · by_cases k2 : c.Kind = 2
        · simp [k2, Bool.and_comm]
        · simp [k0, k1, k2]
  · simp [hm]
theorem fullI {n : Int} (h0 : 0 ≤ n) (h1 : n ≤ 64) : (if n < 0 ∨ n > 64 then ((0, 10) : Int × Int) else (fullM n, 0)) = (fullM n, 0) := by rw [if_neg (by omega)]
theorem r03_Inside.ok {n : Int} (h0 : 0 ≤ n) (h1 : n ≤ 64) (x : Int) : r03_Inside.f n x (bitOp .andNot .u64 x (fullM n) == 0) := by
  have := r01_Full.ok n
  rw [fullI h0 h1] at this
  exact ⟨_, this, rfl⟩
theorem r05_cell.ok {n : Int} (h0 : 0 ≤ n) (h1 : n ≤ 64) (c : TCell) : r05_cell.f n c (cellOk n c) := by
  refine ⟨_, r03_Inside.ok h0 h1 _, ?_⟩
  unfold cellOk
  by_cases hm : bitOp .andNot .u64 c.From (fullM n) = 0
  · simp only [hm, if_true, beq_self_eq_true, Bool.true_and]
    by_cases k0 : c.Kind = 0
    · simp [k0]
    · by_cases k1 : c.Kind = 1
      · simp [k1]
      · by_cases k2 : c.Kind = 2
        · simp [k2]
        · simp [k0, k1, k2]
  · simp [hm]
def cellsOk (n : Int) (l : List TCell) : Bool := ((l.length : Int) == n) && l.all (cellOk n)
theorem cells_Check.ok {n : Int} (h0 : 0 ≤ n) (h1 : n ≤ 64) {l : List TCell} (hl : l.length ≤ maxLen) : cells_Check.f n l (if cellsOk n l = true then 0 else 40) := by
  refine ⟨0, ?_, ?_⟩
  · unfold cells_dims.f; rw [if_neg (by simp; omega)]
  · simp only [if_true]
    unfold cellsOk
    by_cases hn : (l.length : Int) = n
    · rw [if_pos hn]
      have key := eachLoop (l := l) (b := cells_Check.b1 n l) (cellOk n) (40 : Int) (fun i i0 i1 => by
        unfold cells_Check.b1
        simp only [i1, if_true]
        exact ⟨fun ht => ⟨⟨i0, i1⟩, _, cells_right.ok h0 h1 _, by rw [ht, if_pos rfl, wrap_len hl i0 i1]⟩, fun ht => ⟨⟨i0, i1⟩, _, cells_right.ok h0 h1 _, by rw [ht]; simp⟩⟩) (fun i i0 i1 => by unfold cells_Check.b1; rw [if_neg i1])
      refine ⟨_, key, ?_⟩
      cases l.all (cellOk n) <;> simp [Fin.on, hn]
    · rw [if_neg hn]
      simp [hn]
end Go.RM.Try
namespace Go.RM.Try
open Go.RM
set_option linter.unusedVariables false
set_option linter.unusedSimpArgs false
theorem slices_Equal_uint64.ok {a b : List Int} (hl : a.length ≤ maxLen) : slices_Equal_uint64.f a b (decide (a = b)) := by
  unfold slices_Equal_uint64.f
  by_cases h : (a.length : Int) = b.length
  · rw [if_pos h]
    exact ⟨_, eqRound hl (by omega) rfl, eqOn⟩
  · rw [if_neg h]
    have : a ≠ b := fun e => h (by rw [e])
    simp [this]
def factsEq (a b : TFacts) : Bool := (a.Gen == b.Gen) && decide (a.Rows = b.Rows)
theorem facts_Same.ok {a b : TFacts} (hl : a.Rows.length ≤ maxLen) : facts_Same.f a b (factsEq a b) :=
  ⟨_, fun _ => slices_Equal_uint64.ok hl, rfl⟩
theorem r03_Same.ok {a b : TFacts} (hl : a.Rows.length ≤ maxLen) : r03_Same.f a b (factsEq a b) := by
  unfold r03_Same.f factsEq
  by_cases hg : a.Gen = b.Gen
  · by_cases h : (a.Rows.length : Int) = b.Rows.length
    · rw [if_neg (by simp [hg, h])]
      refine ⟨_, eqRound hl (by omega) rfl, ?_⟩
      simp only [hg, beq_self_eq_true, Bool.true_and]
      exact eqOn
    · rw [if_pos (by simp [h])]
      have : a.Rows ≠ b.Rows := fun e => h (by rw [e])
      simp [this]
  · rw [if_pos (by simp [hg])]
    simp [hg]
def canonM (F : TFacts) : TFacts := ⟨F.Gen, F.Rows.map (fun r => bitOp .andNot .u64 r F.Gen)⟩
theorem upto_rdl {α : Type} [Inhabited α] (l : List α) : (upto l.length).map (rdl l) = l := by
  apply List.ext_getElem?
  intro k
  simp only [upto, List.map_map, List.getElem?_map]
  by_cases h : k < l.length
  · rw [List.getElem?_range h]
    have := rdl_get (l := l) (i := (k : Int)) (by omega) (by omega)
    simp only [Int.toNat_natCast] at this
    rw [this]; rfl
  · rw [List.getElem?_eq_none (by simp; omega), List.getElem?_eq_none (by omega)]; rfl
theorem facts_canon.ok {F : TFacts} (h : F.Rows.length ≤ 17592186044416) : facts_canon.f F (canonM F) := by
  refine ⟨⟨by omega, by unfold Fits; omega⟩, ?_⟩
  have hm : F.Rows.length ≤ maxLen := by unfold maxLen; omega
  have key := fillLoop (n := (F.Rows.length : Int)) (b := facts_canon.b1 F) (0 : Int) (fun i _ => bitOp .andNot .u64 (rdl F.Rows i) F.Gen) (by omega) (fun i l h0 h1 hl => by
    unfold facts_canon.b1
    simp only [h1, if_true]
    exact ⟨⟨h0, h1⟩, ⟨h0, by omega⟩, by rw [wrap_len hm h0 h1]⟩) (fun l hl => by
    unfold facts_canon.b1
    simp)
  refine ⟨_, key, ?_⟩
  show canonM F = _
  unfold canonM
  congr 1
  have : F.Rows.map (fun r => bitOp .andNot .u64 r F.Gen) = ((upto F.Rows.length).map (rdl F.Rows)).map (fun r => bitOp .andNot .u64 r F.Gen) := by rw [upto_rdl]
  rw [this, List.map_map]; simp [Function.comp_def]
theorem r03_canon.ok {F : TFacts} (h : F.Rows.length ≤ 17592186044416) : r03_canon.f F (canonM F) := by
  have hm : F.Rows.length ≤ maxLen := by unfold maxLen; omega
  have key := foldLoop (l := F.Rows) (b := r03_canon.b1 F) (fun i l => (l, i)) id (fun _ x acc => .go (acc ++ [bitOp .andNot .u64 x F.Gen])) (fun i l => (l.length : Int) = i) (fun i l h0 h1 hi => by
    refine ⟨?_, by simp; omega⟩
    unfold r03_canon.b1
    simp only [h1, if_true]
    exact ⟨⟨h0, h1⟩, by unfold Fits; omega, by rw [wrap_len hm h0 h1]⟩) (fun l hl => by unfold r03_canon.b1; simp) [] rfl
  refine ⟨_, key.1, ?_⟩
  rw [foldF_map]
  rfl
/-- Facts of n that are written as they are to be. -/
def factsOk (n : Int) (F : TFacts) : Bool :=
  ((F.Rows.length : Int) == n) && ((bitOp .andNot .u64 F.Gen (fullM n) == 0) && (F.Rows.all (fun x => bitOp .andNot .u64 x (fullM n) == 0) && factsEq (canonM F) F))
theorem canonM_len (F : TFacts) : (canonM F).Rows.length = F.Rows.length := by simp [canonM]
theorem facts_Check.ok {n : Int} (h0 : 0 ≤ n) (h1 : n ≤ 64) {F : TFacts} (hl : F.Rows.length ≤ 17592186044416) : facts_Check.f n F (if factsOk n F = true then 0 else 30) := by
  have hm : F.Rows.length ≤ maxLen := by unfold maxLen; omega
  let a := F.Rows.any (fun x => bitOp .andNot .u64 x (fullM n) != 0)
  have hs : facts_shaped.f n F (if ((!((F.Rows.length : Int) == n)) || ((!((bitOp .andNot .u64 F.Gen (fullM n)) == 0)) || a)) = true then 30 else 0) := by
    have hf := bits_Full.ok n
    rw [fullI h0 h1] at hf
    refine ⟨_, hf, ?_⟩
    simp only [if_true]
    refine ⟨a, fun _ _ => containsFunc (q := fun x0_ y_ => facts_shaped_1.f x0_ (fullM n) y_) (fun x => bitOp .andNot .u64 x (fullM n) != 0) hm (fun x hx => rfl) rfl, iteR _⟩
  refine ⟨_, hs, ?_⟩
  have e : F.Rows.all (fun x => bitOp .andNot .u64 x (fullM n) == 0) = !a := by simp [a, List.all_eq_not_any_not]; rfl
  unfold factsOk
  rw [e]
  by_cases hn : (F.Rows.length : Int) = n
  · by_cases hg : bitOp .andNot .u64 F.Gen (fullM n) = 0
    · cases ha : a with
      | false =>
        simp only [hn, hg, beq_self_eq_true, Bool.not_true, Bool.or_self, Bool.false_eq_true, if_false, if_true]
        refine ⟨_, facts_canon.ok hl, _, facts_Same.ok (by rw [canonM_len]; exact hm), ?_⟩
        cases factsEq (canonM F) F <;> simp
      | true => simp [hn, hg]
    · simp [hg]
  · simp [hn]
theorem r03_Check.ok {n : Int} (h0 : 0 ≤ n) (h1 : n ≤ 64) {F : TFacts} (hl : F.Rows.length ≤ 17592186044416) : r03_Check.f n F (if factsOk n F = true then 0 else 30) := by
  have hm : F.Rows.length ≤ maxLen := by unfold maxLen; omega
  let s : Bool := ((F.Rows.length : Int) == n) && ((bitOp .andNot .u64 F.Gen (fullM n) == 0) && F.Rows.all (fun x => bitOp .andNot .u64 x (fullM n) == 0))
  have hs : r03_shape.f n F s := by
    refine ⟨_, fun _ => r03_Inside.ok h0 h1 _, ?_⟩
    by_cases hn : (F.Rows.length : Int) = n
    · by_cases hg : bitOp .andNot .u64 F.Gen (fullM n) = 0
      · rw [if_neg (by simp [hn, hg])]
        have key := eachLoop (l := F.Rows) (b := r03_shape.b1 n F) (fun x => bitOp .andNot .u64 x (fullM n) == 0) false (fun i i0 i1 => by
          unfold r03_shape.b1
          have i2 : i < n := by omega
          simp only [i2, if_true]
          exact ⟨fun ht => ⟨⟨i0, i1⟩, _, r03_Inside.ok h0 h1 _, by rw [ht, if_pos rfl, wrap_len hm i0 i1]⟩, fun ht => ⟨⟨i0, i1⟩, _, r03_Inside.ok h0 h1 _, by rw [ht]; simp⟩⟩) (fun i i0 i1 => by unfold r03_shape.b1; rw [if_neg (by omega)])
        refine ⟨_, key, ?_⟩
        simp only [s, hn, hg, beq_self_eq_true, Bool.true_and]
        cases F.Rows.all (fun x => bitOp .andNot .u64 x (fullM n) == 0) <;> simp [Fin.on]
      · rw [if_pos (by simp [hg])]; simp [s, hg]
    · rw [if_pos (by simp [hn])]; simp [s, hn]
  refine ⟨true, ?_, ?_⟩
  · unfold r03_dim.f; simp; omega
  · rw [if_pos rfl]
    refine ⟨_, hs, _, fun _ => r03_canon.ok hl, _, fun _ => r03_Same.ok (by rw [canonM_len]; exact hm), ?_⟩
    have e : factsOk n F = (s && factsEq (canonM F) F) := by simp [factsOk, s, Bool.and_assoc]
    rw [e]
    cases s <;> cases factsEq (canonM F) F <;> simp
end Go.RM.Try
namespace Go.RM.Try
open Go.RM
set_option linter.unusedVariables false
set_option linter.unusedSimpArgs false
def isW1 (s : TSpace) (w : TWeight) : Bool :=
  if w.Zero = true then plainB w false false false false
  else plainB w (s.Tag == 2) (s.Tag == 3) (s.Tag == 4) false && (if s.Tag = 2 then decide (w.Cost ≥ 0) && decide (w.Cost ≤ s.Dim) else if s.Tag = 3 then factsOk s.Dim w.Facts else if s.Tag = 4 then cellsOk s.Dim w.Cells else true)
def isW (s : TSpace) (w : TWeight) : Bool :=
  if s.Tag = 5 then (!w.Zero) && (plainB w false false false true && (((w.Parts.length : Int) == 2) && (isW1 (rdl s.Parts 0) (rdl w.Parts 0) && isW1 (rdl s.Parts 1) (rdl w.Parts 1)))) else isW1 s w
def TWeight.Sized2 (w : TWeight) : Prop := w.Sized ∧ ∀ p ∈ w.Parts, p.Sized
theorem TWeight.Fit.sized2 {w : TWeight} (h : w.Fit) : w.Sized2 := ⟨h.sized, by
  cases h with
  | mk _ h0 h1 h2 h3 h4 h5 h6 h7 h8 => exact fun p hp => (h8 p hp).sized⟩
/-- The kinds of spaces without parts. -/
theorem space1_cases {s : TSpace} (h : spaceOk1 s = true) : (s.Tag = 1 ∧ s.Dim = 0) ∨ (s.Tag = 2 ∧ 0 ≤ s.Dim ∧ s.Dim ≤ 1048576) ∨ (s.Tag = 3 ∧ 0 ≤ s.Dim ∧ s.Dim ≤ 64) ∨ (s.Tag = 4 ∧ 0 ≤ s.Dim ∧ s.Dim ≤ 64) := by
  unfold spaceOk1 at h
  by_cases h1 : s.Tag = 1
  · simp [h1] at h; exact .inl ⟨h1, h.1⟩
  · by_cases h2 : s.Tag = 2
    · simp [h2] at h; exact .inr (.inl ⟨h2, h.1, h.2.1⟩)
    · by_cases h3 : s.Tag = 3
      · simp [h3] at h; exact .inr (.inr (.inl ⟨h3, h.1, h.2.1⟩))
      · by_cases h4 : s.Tag = 4
        · simp [h4] at h; exact .inr (.inr (.inr ⟨h4, h.1, h.2.1⟩))
        · simp [h1, h2, h3, h4] at h
theorem space_parts {s : TSpace} (h : spaceOk s = true) (h5 : s.Tag = 5) : ∃ a b, s.Parts = [a, b] ∧ spaceOk1 a = true ∧ spaceOk1 b = true ∧ a.Tag ≠ 5 ∧ b.Tag ≠ 5 ∧ s.Dim = 0 := by
  unfold spaceOk at h
  rw [if_pos h5] at h
  rw [Bool.and_eq_true, Bool.and_eq_true] at h
  obtain ⟨hd, hl, ha⟩ := h
  have : s.Parts.length = 2 := by simp at hl; omega
  match hs : s.Parts, this with
  | [a, b], _ =>
    rw [hs] at ha
    simp at ha hd
    exact ⟨a, b, rfl, ha.1.2, ha.2.2, ha.1.1, ha.2.1, hd⟩
theorem weight_is.step1 {self : TSpace → TWeight → Bool → Prop} {s : TSpace} {w : TWeight} (hs : spaceOk1 s = true) (hw : w.Sized) : weight_is.step self s w (isW1 s w) := by
  have hm : w.Cells.length ≤ maxLen := by have := hw.2.1; unfold maxLen; omega
  unfold weight_is.step isW1
  cases hz : w.Zero with
  | true =>
    rw [if_pos rfl, if_pos rfl]
    refine ⟨_, fun _ => weight_bare.ok hw 0, ?_⟩
    have h5 : s.Tag ≠ 5 := by rcases space1_cases hs with h | h | h | h <;> omega
    simp [h5]
  | false =>
    rw [if_neg Bool.false_ne_true, if_neg Bool.false_ne_true]
    have h5 : s.Tag ≠ 5 := by rcases space1_cases hs with h | h | h | h <;> omega
    refine ⟨_, weight_bare.ok hw s.Tag, ?_⟩
    rw [beq_false_of_ne h5]
    cases hp : plainB w (s.Tag == 2) (s.Tag == 3) (s.Tag == 4) false with
    | false => simp
    | true =>
      rw [if_pos rfl, Bool.true_and]
      rcases space1_cases hs with h | h | h | h
      · simp [h.1]
      · simp only [h.1, Int.reduceEq, if_true, if_false]
        refine ⟨_, fun _ => cost_Check.ok _ _, ?_⟩
        unfold costE
        rw [if_neg (by omega), Bool.eq_iff_iff]
        by_cases hv : w.Cost < -1 ∨ w.Cost > s.Dim
        · rw [if_pos hv]; simp; omega
        · rw [if_neg hv]; simp; omega
      · simp only [h.1, Int.reduceEq, if_true, if_false]
        refine ⟨_, facts_Check.ok h.2.1 h.2.2 hw.1, ?_⟩
        cases factsOk s.Dim w.Facts <;> simp
      · simp only [h.1, Int.reduceEq, if_true, if_false]
        refine ⟨_, cells_Check.ok h.2.1 h.2.2 hm, ?_⟩
        cases cellsOk s.Dim w.Cells <;> simp
theorem isW_ne {s : TSpace} {w : TWeight} (h : s.Tag ≠ 5) : isW s w = isW1 s w := by unfold isW; rw [if_neg h]
theorem part_sized {w : TWeight} (hw : w.Sized2) {i : Int} (h0 : 0 ≤ i) (h1 : i < w.Parts.length) : (rdl w.Parts i).Sized := hw.2 _ (rdl_mem h0 h1)
theorem weight_is.ok {s : TSpace} {w : TWeight} (hs : spaceOk s = true) (hw : w.Sized2) : weight_is.f s w (isW s w) := by
  refine ⟨2, ?_⟩
  by_cases h5 : s.Tag = 5
  · obtain ⟨a, b, hp, ha, hb, _, _, hd⟩ := space_parts hs h5
    show weight_is.step (weight_is.fN 1) s w _
    unfold weight_is.step isW
    rw [if_pos h5]
    cases hz : w.Zero with
    | true =>
      rw [if_pos rfl]
      exact ⟨false, fun h => (h h5).elim, by simp [h5]⟩
    | false =>
      rw [if_neg Bool.false_ne_true]
      refine ⟨_, weight_bare.ok hw.1 s.Tag, ?_⟩
      simp only [h5, Int.reduceBEq]
      cases hb : plainB w false false false true with
      | false => simp
      | true =>
        simp only [Int.reduceEq, if_true, if_false, hp]
        by_cases h2 : (w.Parts.length : Int) = 2
        · refine ⟨fun _ => ⟨by decide, by simp⟩, fun _ => ⟨by decide, by omega⟩, _, fun _ => weight_is.step1 (self := weight_is.fN 0) ha (part_sized hw (by decide) (by omega)), fun _ _ => ⟨by decide, by simp⟩, fun _ _ => ⟨by decide, by omega⟩, _, fun _ _ => weight_is.step1 (self := weight_is.fN 0) (by assumption) (part_sized hw (by decide) (by omega)), ?_⟩
          simp [h2]
        · refine ⟨fun h => (h2 h).elim, fun h => (h2 h).elim, false, fun h => (h2 h).elim, fun h => (h2 h).elim, fun h => (h2 h).elim, false, fun h => (h2 h).elim, ?_⟩
          simp [h2]
  · have h1 : spaceOk1 s = true := by rw [← spaceOk_ne h5]; exact hs
    rw [isW_ne h5]; exact weight_is.step1 h1 hw.1
theorem r05_is.step1 {self : TSpace → TWeight → Bool → Prop} {s : TSpace} {w : TWeight} (hs : spaceOk1 s = true) (hw : w.Sized) : r05_is.step self s w (isW1 s w) := by
  have hm : w.Cells.length ≤ maxLen := by have := hw.2.1; unfold maxLen; omega
  unfold r05_is.step isW1
  have h5 : s.Tag ≠ 5 := by rcases space1_cases hs with h | h | h | h <;> omega
  cases hz : w.Zero with
  | true =>
    rw [if_pos rfl, if_pos rfl]
    exact ⟨_, fun _ => r05_plain.ok w false false false false, by simp [h5]⟩
  | false =>
    rw [if_neg Bool.false_ne_true, if_neg Bool.false_ne_true]
    rcases space1_cases hs with h | h | h | h
    · simp only [h.1, Int.reduceEq, Int.reduceBEq, if_true, if_false, Bool.and_true]
      exact ⟨_, r05_plain.ok w false false false false, rfl⟩
    · simp only [h.1, Int.reduceEq, Int.reduceBEq, if_true, if_false]
      exact ⟨_, r05_plain.ok w true false false false, rfl⟩
    · simp only [h.1, Int.reduceEq, Int.reduceBEq, if_true, if_false]
      refine ⟨_, r05_plain.ok w false true false false, _, fun _ => r03_Check.ok h.2.1 h.2.2 hw.1, ?_⟩
      cases factsOk s.Dim w.Facts <;> simp
    · simp only [h.1, Int.reduceEq, Int.reduceBEq, if_true, if_false]
      refine ⟨_, r05_plain.ok w false false true false, ?_⟩
      unfold cellsOk
      cases hp : plainB w false false true false with
      | false => simp
      | true =>
        by_cases hn : (w.Cells.length : Int) = s.Dim
        · rw [if_neg (by simp [hn])]
          have key := eachLoop (l := w.Cells) (b := r05_is.b1 s w) (cellOk s.Dim) false (fun i i0 i1 => by
            unfold r05_is.b1
            simp only [i1, if_true]
            exact ⟨fun ht => ⟨⟨i0, i1⟩, _, r05_cell.ok h.2.1 h.2.2 _, by rw [ht, if_pos rfl, wrap_len hm i0 i1]⟩, fun ht => ⟨⟨i0, i1⟩, _, r05_cell.ok h.2.1 h.2.2 _, by rw [ht]; simp⟩⟩) (fun i i0 i1 => by unfold r05_is.b1; simp only [i1, if_false])
          refine ⟨_, key, ?_⟩
          cases w.Cells.all (cellOk s.Dim) <;> simp [Fin.on, hn]
        · rw [if_pos (by simp [hn])]; simp [hn]
theorem r05_is.ok {s : TSpace} {w : TWeight} (hs : spaceOk s = true) (hw : w.Sized2) : r05_is.f s w (isW s w) := by
  refine ⟨2, ?_⟩
  by_cases h5 : s.Tag = 5
  · obtain ⟨a, b, hp, ha, hb, _, _, hd⟩ := space_parts hs h5
    show r05_is.step (r05_is.fN 1) s w _
    unfold r05_is.step isW
    rw [if_pos h5]
    cases hz : w.Zero with
    | true =>
      rw [if_pos rfl]
      exact ⟨false, fun h => (h h5).elim, by simp [h5]⟩
    | false =>
      rw [if_neg Bool.false_ne_true]
      simp only [h5, Int.reduceEq, if_true, if_false, hp]
      refine ⟨_, r05_plain.ok w false false false true, ?_⟩
      cases hb : plainB w false false false true with
      | false => exact ⟨fun h => (by cases h), fun h => (by cases h), false, fun h => (by cases h), fun h => (by cases h), fun h => (by cases h), false, fun h => (by cases h), by simp⟩
      | true =>
        by_cases h2 : (w.Parts.length : Int) = 2
        · refine ⟨fun _ _ => ⟨by decide, by simp⟩, fun _ _ => ⟨by decide, by omega⟩, _, fun _ _ => r05_is.step1 (self := r05_is.fN 0) ha (part_sized hw (by decide) (by omega)), fun _ _ _ => ⟨by decide, by simp⟩, fun _ _ _ => ⟨by decide, by omega⟩, _, fun _ _ _ => r05_is.step1 (self := r05_is.fN 0) (by assumption) (part_sized hw (by decide) (by omega)), ?_⟩
          simp [h2]
        · refine ⟨fun _ h => (h2 h).elim, fun _ h => (h2 h).elim, false, fun _ h => (h2 h).elim, fun _ h => (h2 h).elim, fun _ h => (h2 h).elim, false, fun _ h => (h2 h).elim, ?_⟩
          simp [h2]
  · have h1 : spaceOk1 s = true := by rw [← spaceOk_ne h5]; exact hs
    rw [isW_ne h5]; exact r05_is.step1 h1 hw.1
/-- The code of weights that are to be of a space. -/
def allC (s : TSpace) (l : List TWeight) : Int := if spaceOk s = true then (if l.all (isW s) = true then 0 else 51) else 50
theorem weight_checked.ok {s : TSpace} {l : List TWeight} (hs : s.Parts.length ≤ maxLen) (hl : l.length ≤ maxLen) (hw : ∀ w ∈ l, w.Sized2) : weight_checked.f s l (allC s l) := by
  refine ⟨_, weight_Space.ok hs, ?_⟩
  unfold allC
  cases h : spaceOk s with
  | false => simp
  | true =>
    simp only [if_true]
    refine ⟨l.any (fun w => !isW s w), containsFunc (q := fun x y => weight_checked_1.f x s y) (fun w => !isW s w) hl (fun w hm => ⟨_, weight_is.ok h (hw w hm), rfl⟩) rfl, ?_⟩
    rw [List.all_eq_not_any_not]
    cases l.any (fun w => !isW s w) <;> simp
theorem r05_all.ok {s : TSpace} {l : List TWeight} (hs : s.Parts.length ≤ maxLen) (hl : l.length ≤ maxLen) (hw : ∀ w ∈ l, w.Sized2) : r05_all.f s l (allC s l) := by
  refine ⟨_, r05_Space.ok hs, ?_⟩
  unfold allC
  cases h : spaceOk s with
  | false => simp
  | true =>
    simp only [if_true]
    have key := eachLoop (l := l) (b := r05_all.b1 s l) (isW s) (51 : Int) (fun i i0 i1 => by
      unfold r05_all.b1
      simp only [i1, if_true]
      exact ⟨fun ht => ⟨⟨i0, i1⟩, _, r05_is.ok h (hw _ (rdl_mem i0 i1)), by rw [ht, if_pos rfl, wrap_len hl i0 i1]⟩, fun ht => ⟨⟨i0, i1⟩, _, r05_is.ok h (hw _ (rdl_mem i0 i1)), by rw [ht]; simp⟩⟩) (fun i i0 i1 => by unfold r05_all.b1; simp only [i1, if_false])
    refine ⟨_, key, ?_⟩
    cases l.all (isW s) <;> simp [Fin.on]
def wC (s : TSpace) (w : TWeight) : Int := if spaceOk s = true then (if isW s w = true then 0 else 51) else 50
theorem wC_all (s : TSpace) (w : TWeight) : allC s [w] = wC s w := by simp [allC, wC]
theorem weight_Check.ok {s : TSpace} {w : TWeight} (hs : s.Parts.length ≤ maxLen) (hw : w.Sized2) : weight_Check.f s w (wC s w) := by
  refine ⟨_, weight_checked.ok hs (by simp [maxLen]) (fun x hx => by simp at hx; subst hx; exact hw), (wC_all s w).symm⟩
end Go.RM.Try
namespace Go.RM.Try
open Go.RM
set_option linter.unusedVariables false
set_option linter.unusedSimpArgs false
def ruleOk (p : TPds) (r : TRule) : Bool :=
  inB r.P p.States && (inB r.Q p.States && (inB r.G p.Symbols && (decide ((r.W.length : Int) ≤ 4096) && r.W.all (fun g => inB g p.Symbols))))
theorem pds_rule.ok {p : TPds} {r : TRule} (hl : r.W.length ≤ maxLen) : pds_rule.f p r (ruleOk p r) := by
  refine ⟨_, pds_in.ok _ _, _, fun _ => pds_in.ok _ _, _, fun _ _ => pds_in.ok _ _, r.W.any (fun g => !inB g p.Symbols), fun _ _ _ _ => ?_, ?_⟩
  · exact containsFunc (q := fun x y => pds_rule_1.f x p y) (fun g => !inB g p.Symbols) hl (fun g hg => ⟨_, pds_in.ok _ _, rfl⟩) rfl
  · unfold ruleOk; rw [List.all_eq_not_any_not]
/-- The code of a system. -/
def pC (p : TPds) : Int :=
  if spaceOk p.Space = true then
    if (p.Rules.length : Int) > 16384 then 3
    else if (decide (p.States < 0) || (decide (p.States > 4096) || (decide (p.Symbols < 0) || decide (p.Symbols > 4096)))) = true then 110
    else if p.Rules.all (ruleOk p) = true then (if p.Rules.all (fun r => isW p.Space r.F) = true then 0 else 51) else 110
  else 50
structure TPds.Sized (p : TPds) : Prop where
  parts : p.Space.Parts.length ≤ maxLen
  rules : p.Rules.length ≤ 17592186044416
  words : ∀ r ∈ p.Rules, r.W.length ≤ maxLen
  weights : ∀ r ∈ p.Rules, r.F.Sized2
theorem TPds.Sized.rl {p : TPds} (h : p.Sized) : p.Rules.length ≤ maxLen := by have := h.rules; unfold maxLen; omega
theorem pds_Check.ok {p : TPds} (h : p.Sized) : pds_Check.f p (pC p) := by
  refine ⟨_, weight_Space.ok h.parts, ?_⟩
  unfold pC
  cases hs : spaceOk p.Space with
  | false => simp
  | true =>
    simp only [if_true]
    by_cases hr : (p.Rules.length : Int) > 16384
    · rw [if_pos hr, if_pos hr]
    · rw [if_neg hr, if_neg hr]
      by_cases hn : (decide (p.States < 0) || (decide (p.States > 4096) || (decide (p.Symbols < 0) || decide (p.Symbols > 4096)))) = true
      · rw [if_pos hn, if_pos hn]
      · rw [if_neg hn, if_neg hn]
        refine ⟨p.Rules.any (fun r => !ruleOk p r), containsFunc (q := fun x y => pds_Check_1.f x p y) (fun r => !ruleOk p r) h.rl (fun r hm => ⟨_, pds_rule.ok (h.words r hm), rfl⟩) rfl, ?_⟩
        rw [List.all_eq_not_any_not]
        cases p.Rules.any (fun r => !ruleOk p r) with
        | true => simp
        | false =>
          simp only [Bool.false_eq_true, if_false, Bool.not_false, if_true]
          have key := eachLoop (l := p.Rules) (b := pds_Check.b1 p) (fun r => isW p.Space r.F) (51 : Int) (fun i i0 i1 => by
            unfold pds_Check.b1
            simp only [i1, if_true]
            have hw := weight_Check.ok h.parts (h.weights _ (rdl_mem i0 i1))
            unfold wC at hw
            rw [if_pos hs] at hw
            exact ⟨fun ht => ⟨⟨i0, i1⟩, _, hw, by rw [ht, if_pos rfl, if_pos rfl, wrap_len h.rl i0 i1]⟩, fun ht => ⟨⟨i0, i1⟩, _, hw, by rw [ht]; simp⟩⟩) (fun i i0 i1 => by unfold pds_Check.b1; simp only [i1, if_false])
          refine ⟨_, key, ?_⟩
          cases p.Rules.all (fun r => isW p.Space r.F) <;> simp [Fin.on]
end Go.RM.Try
namespace Go.RM.Try
open Go.RM
set_option linter.unusedVariables false
set_option linter.unusedSimpArgs false
def bigB (w : TWeight) (d : Int) : Bool := (decide ((w.Facts.Rows.length : Int) > 70)) || ((decide ((w.Cells.length : Int) > 70)) || ((decide ((w.Parts.length : Int) > 3)) || (decide (d > 3))))
def smallM : Nat → TWeight → Int → Bool
  | 0, _, _ => false
  | n + 1, w, d => if bigB w d = true then false else w.Parts.all (fun p => smallM n p (d + 1))
theorem l11_small.fok : ∀ (n : Nat) (w : TWeight) (d : Int), 0 ≤ d → d ≤ 4 → d + n ≥ 5 → l11_small.fN n w d (smallM n w d)
  | 0, w, d, h0, h1, h2 => by omega
  | n + 1, w, d, h0, h1, h2 => by
    show l11_small.step (l11_small.fN n) w d (smallM (n + 1) w d)
    unfold l11_small.step smallM
    by_cases hb : bigB w d = true
    · unfold bigB at hb
      rw [if_pos hb, if_pos (by unfold bigB; exact hb)]
    · have hb2 := hb
      unfold bigB at hb
      rw [if_neg hb, if_neg hb2]
      simp only [Bool.or_eq_true, decide_eq_true_eq, not_or] at hb
      have hm : w.Parts.length ≤ maxLen := by unfold maxLen; omega
      have hw : IntKind.i64.wrap (d + 1) = d + 1 := wrap64 (by omega) (by omega)
      have key := eachLoop (l := w.Parts) (b := l11_small.b1 (l11_small.fN n) w d) (fun p => smallM n p (d + 1)) false (fun i i0 i1 => by
        unfold l11_small.b1
        simp only [i1, if_true]
        have hf := l11_small.fok n (rdl w.Parts i) (d + 1) (by omega) (by omega) (by omega)
        rw [hw]
        exact ⟨fun ht => ⟨⟨i0, i1⟩, _, hf, by rw [ht, if_pos rfl, wrap_len hm i0 i1]⟩, fun ht => ⟨⟨i0, i1⟩, _, hf, by rw [ht]; simp⟩⟩) (fun i i0 i1 => by unfold l11_small.b1; simp only [i1, if_false])
      refine ⟨_, key, ?_⟩
      cases w.Parts.all (fun p => smallM n p (d + 1)) <;> simp [Fin.on]
theorem l11_small.ok (w : TWeight) : l11_small.f w 0 (smallM 5 w 0) := ⟨5, l11_small.fok 5 w 0 (by decide) (by decide) (by decide)⟩
def cutW (r : TRule) : TRule := if (r.W.length : Int) > 40 then ⟨r.P, r.G, r.Q, cutl r.W 0 40, r.F⟩ else r
def cutR : List TRule → List TRule → List TRule
  | [], acc => acc
  | r :: l, acc => if acc.length < 40 then (if smallM 5 r.F 0 = true then cutR l (acc ++ [cutW r]) else cutR l acc) else acc
def cutP (l : List TSpace) : List TSpace := if l.any (fun s => decide ((s.Parts.length : Int) > 0)) = true then [] else l
def cutM (p : TPds) : TPds := ⟨⟨p.Space.Tag, p.Space.Dim, cutP (if (p.Space.Parts.length : Int) > 3 then cutl p.Space.Parts 0 3 else p.Space.Parts)⟩, p.States, p.Symbols, cutR p.Rules []⟩
theorem l11_cut.loop1 {p : TPds} (hl : p.Rules.length ≤ maxLen) : Loop (l11_cut.b1 p) ([], 0) (.go (cutR p.Rules [])) := by
  have key := Loop.of (b := l11_cut.b1 p) (fun s => .go (cutR (p.Rules.drop s.2.toNat) s.1)) (fun s => ((p.Rules.length : Int) - s.2).toNat) (fun s => 0 ≤ s.2 ∧ s.1.length ≤ 40) (fun s hi => by
    obtain ⟨acc, i⟩ := s
    obtain ⟨h0, h40⟩ := hi
    simp only at h0 h40
    by_cases h : i < (p.Rules.length : Int)
    · have hd := drop_rdl h0 h
      by_cases ha : acc.length < 40
      · have hc : ((decide (i < (p.Rules.length : Int))) && (decide ((acc.length : Int) < 40))) = true := by simp; omega
        have hj : ∀ z, l11_cut.j1 p acc i (cutW (rdl p.Rules i)).W z → l11_cut.b1 p (acc, i) z := fun z hz => by
          unfold l11_cut.b1
          simp only [hc, if_true]
          refine ⟨⟨h0, h⟩, ?_⟩
          unfold cutW at hz
          by_cases hw : ((rdl p.Rules i).W.length : Int) > 40
          · rw [if_pos hw] at hz ⊢
            exact ⟨⟨by decide, by decide, by omega⟩, hz⟩
          · rw [if_neg hw] at hz ⊢
            exact hz
        have hcut : TRule.mk ((rdl p.Rules i).P) ((rdl p.Rules i).G) ((rdl p.Rules i).Q) (cutW (rdl p.Rules i)).W ((rdl p.Rules i).F) = cutW (rdl p.Rules i) := by unfold cutW; split <;> rfl
        cases hs : smallM 5 (rdl p.Rules i).F 0 with
        | true =>
          refine .inl ⟨(acc ++ [cutW (rdl p.Rules i)], i + 1), hj _ ⟨_, l11_small.ok _, ?_⟩, by simp; omega, ⟨by simp; omega, by simp; omega⟩, ?_⟩
          · rw [hs, if_pos rfl]
            refine ⟨by unfold Fits; omega, ?_⟩
            unfold l11_cut.j2
            rw [wrap_len hl h0 h, hcut]
          · simp only; rw [hd]; simp only [cutR, ha, hs, if_true]
        | false =>
          refine .inl ⟨(acc, i + 1), hj _ ⟨_, l11_small.ok _, ?_⟩, by simp; omega, ⟨by simp; omega, by simp; omega⟩, ?_⟩
          · rw [hs, if_neg Bool.false_ne_true]
            unfold l11_cut.j2
            rw [wrap_len hl h0 h]
          · simp only; rw [hd]; simp only [cutR, ha, hs, if_true, Bool.false_eq_true, if_false]
      · refine .inr (.inl ⟨acc, ?_, ?_⟩)
        · unfold l11_cut.b1
          have hc : ¬ ((decide (i < (p.Rules.length : Int))) && (decide ((acc.length : Int) < 40))) = true := by simp; omega
          simp only [hc, Bool.false_eq_true, if_false]
        · simp only; rw [hd]; simp only [cutR, ha, if_false]
    · refine .inr (.inl ⟨acc, ?_, ?_⟩)
      · unfold l11_cut.b1
        have hc : ¬ ((decide (i < (p.Rules.length : Int))) && (decide ((acc.length : Int) < 40))) = true := by simp; omega
        simp only [hc, Bool.false_eq_true, if_false]
      · simp only; rw [drop_end h0 h]; rfl) ([], 0) ⟨Int.le_refl 0, by simp⟩
  exact key
theorem l11_cut.loop2 {l : List TSpace} (hl : l.length ≤ maxLen) : Loop (l11_cut.b2) (l, 0) (.go (cutP l)) := by
  have key := Loop.of (b := l11_cut.b2) (fun s => .go (if (s.1.drop s.2.toNat).any (fun s => decide ((s.Parts.length : Int) > 0)) = true then [] else s.1)) (fun s => ((s.1.length : Int) - s.2).toNat) (fun s => 0 ≤ s.2 ∧ s.1.length ≤ maxLen) (fun s hi => by
    obtain ⟨l, i⟩ := s
    obtain ⟨h0, hl⟩ := hi
    simp only at h0 hl
    by_cases h : i < (l.length : Int)
    · have hd := drop_rdl h0 h
      by_cases hp : ((rdl l i).Parts.length : Int) > 0
      · refine .inl ⟨([], i + 1), ?_, by simp; omega, ⟨by simp; omega, by simp⟩, ?_⟩
        · unfold l11_cut.b2 l11_cut.j4
          simp only [h, hp, if_true]
          exact ⟨⟨h0, h⟩, by rw [wrap_len hl h0 h]⟩
        · simp only; rw [hd]; simp only [List.any_cons, decide_eq_true hp, Bool.true_or, if_true]; simp
      · refine .inl ⟨(l, i + 1), ?_, by simp; omega, ⟨by simp; omega, by simp; omega⟩, ?_⟩
        · unfold l11_cut.b2 l11_cut.j4
          simp only [h, hp, if_true, if_false]
          exact ⟨⟨h0, h⟩, by rw [wrap_len hl h0 h]⟩
        · simp only; rw [hd]; simp only [List.any_cons, decide_eq_false hp, Bool.false_or]
    · refine .inr (.inl ⟨l, ?_, ?_⟩)
      · unfold l11_cut.b2; simp only [h, if_false]
      · simp only; rw [drop_end h0 h]; simp) (l, 0) ⟨Int.le_refl 0, hl⟩
  exact key
theorem l11_cut.ok {p : TPds} (hl : p.Rules.length ≤ maxLen) (hs : p.Space.Parts.length ≤ maxLen) : l11_cut.f p (cutM p) := by
  refine ⟨_, l11_cut.loop1 hl, ?_⟩
  show if _ then _ else _
  by_cases h : (p.Space.Parts.length : Int) > 3
  · rw [if_pos h]
    refine ⟨⟨by decide, by decide, by omega⟩, ?_⟩
    have hc : (cutl p.Space.Parts 0 3).length ≤ maxLen := by simp [cutl, maxLen]; omega
    refine ⟨_, l11_cut.loop2 hc, ?_⟩
    show cutM p = _
    unfold cutM
    rw [if_pos h]
  · rw [if_neg h]
    refine ⟨_, l11_cut.loop2 hs, ?_⟩
    show cutM p = _
    unfold cutM
    rw [if_neg h]
theorem cutR_len : ∀ (l acc : List TRule), acc.length ≤ 40 → (cutR l acc).length ≤ 40
  | [], acc, h => h
  | r :: l, acc, h => by
    unfold cutR
    split
    · split
      · exact cutR_len l _ (by simp; omega)
      · exact cutR_len l _ h
    · exact h
theorem cutR_all {Q : TRule → Prop} : ∀ (l acc : List TRule), (∀ r ∈ l, Q (cutW r)) → (∀ r ∈ acc, Q r) → ∀ r ∈ cutR l acc, Q r
  | [], acc, h, ha => ha
  | r :: l, acc, h, ha => by
    unfold cutR
    have hl : ∀ r ∈ l, Q (cutW r) := fun x hx => h x (.tail _ hx)
    split
    · split
      · exact cutR_all l _ hl (fun x hx => by
          rcases List.mem_append.mp hx with hx | hx
          · exact ha x hx
          · simp at hx; subst hx; exact h r (.head _))
      · exact cutR_all l _ hl ha
    · exact ha
theorem cutW_len (r : TRule) : (cutW r).W.length ≤ 40 := by
  unfold cutW
  split
  · simp [cutl]; omega
  · omega
theorem cutW_F (r : TRule) : (cutW r).F = r.F := by unfold cutW; split <;> rfl
theorem cutP_len (l : List TSpace) : (cutP l).length ≤ l.length := by
  unfold cutP
  split
  · simp
  · exact Nat.le_refl _
theorem cutM_sized {p : TPds} (h : p.Fit) : (cutM p).Sized where
  parts := by
    unfold cutM
    have hs := h.1
    cases hs with
    | mk _ h0 h1 h2 h3 h4 =>
      have h9 : ((if (p.Space.Parts.length : Int) > 3 then cutl p.Space.Parts 0 3 else p.Space.Parts)).length ≤ maxLen := by
        split
        · simp [cutl, maxLen]; omega
        · exact h3
      exact Nat.le_trans (cutP_len _) h9
  rules := by have := cutR_len p.Rules [] (by simp); show (cutR p.Rules []).length ≤ _; omega
  words := cutR_all (Q := fun r => r.W.length ≤ maxLen) _ _ (fun r _ => by have := cutW_len r; unfold maxLen; omega) (fun r hr => by cases hr)
  weights := cutR_all (Q := fun r => r.F.Sized2) _ _ (fun r hr => by rw [cutW_F]; exact (h.2.2.2.2.2 r hr).2.2.2.2.sized2) (fun r hr => by cases hr)
end Go.RM.Try
namespace Go.RM.Try
open Go.RM
set_option linter.unusedVariables false
set_option linter.unusedSimpArgs false
theorem shl_one {i : Int} (h0 : 0 ≤ i) (h1 : i < 64) : shlI .u64 1 i = 2 ^ i.toNat := by
  have hlt := two_pow_lt (n := i.toNat) (by omega)
  have hpos : (0 : Int) < 2 ^ i.toNat := Int.pow_pos (by decide)
  unfold shlI
  rw [show (min i.toNat IntKind.u64.bits) = i.toNat by simp [IntKind.bits]; omega]
  rw [Int.one_mul, wrapu64 (by omega) hlt]
def noneW : TWeight := ⟨false, 0, ⟨0, []⟩, [], []⟩
def oneF (n : Int) : TFacts := ⟨0, (upto n.toNat).map (fun i => 2 ^ i.toNat)⟩
def oneC (n : Int) : List TCell := (upto n.toNat).map (fun i => ⟨2 ^ i.toNat, 0, 0⟩)
theorem upto_mem {n : Nat} {i : Int} (h : i ∈ upto n) : 0 ≤ i ∧ i < n := by
  simp only [upto, List.mem_map, List.mem_range] at h
  obtain ⟨k, hk, rfl⟩ := h
  simp; exact hk
theorem facts_One.ok {n : Int} (h0 : 0 ≤ n) (h1 : n ≤ 64) : facts_One.f n (oneF n, 0) := by
  have hf := bits_Full.ok n
  rw [fullI h0 h1] at hf
  refine ⟨_, hf, ?_⟩
  simp only [if_true]
  refine ⟨⟨h0, by unfold Fits; omega⟩, ?_⟩
  have hr : ((List.replicate (Int.toNat n) (0 : Int)).length : Int) = n := by simp; omega
  have key := fillLoop (n := n) (b := facts_One.b1 n) (0 : Int) (fun i _ => shlI .u64 1 (IntKind.u64.wrap i)) h0 (fun i l i0 i1 hl => by
    unfold facts_One.b1
    rw [hr]
    simp only [i1, if_true]
    rw [wrapu64 i0 (by omega), wrap64 (by omega) (by omega)]
    exact ⟨i0, ⟨i0, by omega⟩, rfl⟩) (fun l hl => by
    unfold facts_One.b1
    rw [hr]
    simp)
  refine ⟨_, key, ?_⟩
  show (oneF n, (0 : Int)) = (TFacts.mk 0 _, 0)
  unfold oneF
  congr 2
  refine List.map_congr_left fun i hi => ?_
  have := upto_mem hi
  rw [wrapu64 this.1 (by omega), shl_one this.1 (by omega)]
theorem cells_One.ok {n : Int} (h0 : 0 ≤ n) (h1 : n ≤ 64) : cells_One.f n (oneC n, 0) := by
  refine ⟨0, by unfold cells_dims.f; rw [if_neg (by simp; omega)], ?_⟩
  simp only [if_true]
  refine ⟨oneC n, ⟨⟨h0, by unfold Fits; omega⟩, ?_⟩, rfl⟩
  have key := fillLoop (n := n) (b := cells_one.b1 n) (TCell.mk 0 0 0) (fun i c => TCell.mk (shlI .u64 1 i) c.Kind c.K) h0 (fun i l i0 i1 hl => by
    unfold cells_one.b1
    simp only [i1, if_true]
    rw [wrap64 (by omega) (by omega)]
    exact ⟨i0, ⟨i0, by omega⟩, rfl⟩) (fun l hl => by
    unfold cells_one.b1
    simp)
  refine ⟨_, key, ?_⟩
  show oneC n = _
  unfold oneC
  refine List.map_congr_left fun i hi => ?_
  have := upto_mem hi
  rw [shl_one this.1 (by omega)]
theorem r03_One.ok {n : Int} (h0 : 0 ≤ n) (h1 : n ≤ 64) : r03_One.f n (oneF n, 0) := by
  refine ⟨true, by unfold r03_dim.f; simp; omega, ?_⟩
  rw [if_pos rfl]
  have key := (countLoop (n := n) (b := r03_One.b1 n) (fun i l => (l, i)) id (fun i acc => .go (acc ++ [2 ^ i.toNat])) (fun i l => (l.length : Int) = i) (fun i l i0 i1 hi => by
    refine ⟨?_, by simp; omega⟩
    unfold r03_One.b1
    simp only [i1, if_true]
    exact ⟨_, r01_Worth.ok i0 (by omega), by unfold Fits; omega, by rw [wrap64 (by omega) (by omega)]⟩) (fun l hl => by unfold r03_One.b1; simp) [] h0 rfl).1
  refine ⟨_, key, ?_⟩
  rw [countF_app]
  show (oneF n, (0 : Int)) = (TFacts.mk 0 _, 0)
  simp [oneF]
def oneW1 (s : TSpace) : TWeight := if s.Tag = 3 then ⟨false, 0, oneF s.Dim, [], []⟩ else if s.Tag = 4 then ⟨false, 0, ⟨0, []⟩, oneC s.Dim, []⟩ else noneW
def oneW (s : TSpace) : TWeight := if s.Tag = 5 then ⟨false, 0, ⟨0, []⟩, [], [oneW1 (rdl s.Parts 0), oneW1 (rdl s.Parts 1)]⟩ else oneW1 s
theorem oneW_ne {s : TSpace} (h : s.Tag ≠ 5) : oneW s = oneW1 s := by unfold oneW; rw [if_neg h]
theorem weight_one.step1 {self : TSpace → TWeight → Prop} {s : TSpace} (hs : spaceOk1 s = true) : weight_one.step self s (oneW1 s) := by
  unfold weight_one.step oneW1
  rcases space1_cases hs with h | h | h | h
  · simp [h.1, noneW]
  · simp [h.1, noneW]
  · simp only [h.1, Int.reduceEq, if_true, if_false]
    exact ⟨_, facts_One.ok h.2.1 h.2.2, rfl⟩
  · simp only [h.1, Int.reduceEq, if_true, if_false]
    exact ⟨_, cells_One.ok h.2.1 h.2.2, rfl⟩
theorem r05_one.step1 {self : TSpace → TWeight → Prop} {s : TSpace} (hs : spaceOk1 s = true) : r05_one.step self s (oneW1 s) := by
  unfold r05_one.step oneW1
  rcases space1_cases hs with h | h | h | h
  · simp [h.1, noneW]
  · simp [h.1, noneW]
  · simp only [h.1, Int.reduceEq, if_true, if_false]
    exact ⟨_, r03_One.ok h.2.1 h.2.2, rfl⟩
  · simp only [h.1, Int.reduceEq, if_true, if_false]
    have key := (countLoop (n := s.Dim) (b := r05_one.b1 s) (fun i l => (l, i)) id (fun i acc => .go (acc ++ [TCell.mk (2 ^ i.toNat) 0 0])) (fun i l => (l.length : Int) = i) (fun i l i0 i1 hi => by
      refine ⟨?_, by simp; omega⟩
      unfold r05_one.b1
      simp only [i1, if_true]
      exact ⟨_, r01_Worth.ok i0 (by omega), by unfold Fits; omega, by rw [wrap64 (by omega) (by omega)]⟩) (fun l hl => by unfold r05_one.b1; simp) [] h.2.1 rfl).1
    refine ⟨_, key, ?_⟩
    rw [countF_app]
    show TWeight.mk false 0 ⟨0, []⟩ (oneC s.Dim) [] = TWeight.mk false 0 ⟨0, []⟩ _ []
    simp [oneC]
theorem weight_one.ok {s : TSpace} (hs : spaceOk s = true) : weight_one.f s (oneW s) := by
  refine ⟨2, ?_⟩
  by_cases h5 : s.Tag = 5
  · obtain ⟨a, b, hp, ha, hb, _, _, hd⟩ := space_parts hs h5
    show weight_one.step (weight_one.fN 1) s _
    unfold weight_one.step oneW
    simp only [h5, Int.reduceEq, if_true, if_false, hp]
    exact ⟨⟨by decide, by simp⟩, _, weight_one.step1 ha, ⟨by decide, by simp⟩, _, weight_one.step1 hb, rfl⟩
  · rw [oneW_ne h5]; exact weight_one.step1 (by rw [← spaceOk_ne h5]; exact hs)
theorem r05_one.ok {s : TSpace} (hs : spaceOk s = true) : r05_one.f s (oneW s) := by
  refine ⟨2, ?_⟩
  by_cases h5 : s.Tag = 5
  · obtain ⟨a, b, hp, ha, hb, _, _, hd⟩ := space_parts hs h5
    show r05_one.step (r05_one.fN 1) s _
    unfold r05_one.step oneW
    simp only [h5, Int.reduceEq, if_true, if_false, hp]
    exact ⟨⟨by decide, by simp⟩, _, r05_one.step1 ha, ⟨by decide, by simp⟩, _, r05_one.step1 hb, rfl⟩
  · rw [oneW_ne h5]; exact r05_one.step1 (by rw [← spaceOk_ne h5]; exact hs)
def oneR (s : TSpace) : TWeight × Int := if spaceOk s = true then (oneW s, 0) else (noneW, 50)
theorem weight_One.ok {s : TSpace} (hl : s.Parts.length ≤ maxLen) : weight_One.f s (oneR s) := by
  refine ⟨_, weight_Space.ok hl, ?_⟩
  unfold oneR
  cases h : spaceOk s with
  | false => simp [noneW]
  | true => simp only [if_true]; exact ⟨_, weight_one.ok h, rfl⟩
theorem r05_One.ok {s : TSpace} (hl : s.Parts.length ≤ maxLen) : r05_One.f s (oneR s) := by
  refine ⟨_, r05_Space.ok hl, ?_⟩
  unfold oneR
  cases h : spaceOk s with
  | false => simp [noneW]
  | true => simp only [if_true]; exact ⟨_, r05_one.ok h, rfl⟩
end Go.RM.Try
namespace Go.RM.Try
open Go.RM
set_option linter.unusedVariables false
set_option linter.unusedSimpArgs false
theorem rdl_take {α : Type} [Inhabited α] {l : List α} {n : Nat} {i : Int} (h0 : 0 ≤ i) (h1 : i < n) (h2 : n ≤ l.length) : rdl (l.take n) i = rdl l i := by
  have a := rdl_get (l := l) h0 (by omega)
  have b := rdl_get (l := l.take n) h0 (by simp; omega)
  rw [List.getElem?_take, if_pos (by omega), a] at b
  injection b with b
  exact b.symm
theorem TSpace.eta (s : TSpace) : TSpace.mk s.Tag s.Dim s.Parts = s := by cases s; rfl
theorem TWeight.eta (w : TWeight) : TWeight.mk w.Zero w.Cost (TFacts.mk w.Facts.Gen w.Facts.Rows) w.Cells w.Parts = w := by cases w; rfl
theorem slices_Clone_int.ok {l : List Int} (h : l.length ≤ 17592186044416) : slices_Clone_int.f l l := by
  unfold slices_Clone_int.f
  by_cases h0 : l.length = 0
  · rw [if_pos h0]
    have : l = [] := List.eq_nil_of_length_eq_zero h0
    subst this
    intro z k
    cases z <;> simp [Fits]
  · rw [if_neg h0]
    exact ⟨by unfold Fits; omega, rfl⟩
def putS (out : TShorted) (r : TRule) (n : Int) (first : Bool) : TShorted := ⟨⟨out.Pds.Space, out.Pds.States, out.Pds.Symbols, out.Pds.Rules ++ [r]⟩, out.Rule ++ [n], out.First ++ [first]⟩
def moreS (out : TShorted) : TShorted := ⟨⟨out.Pds.Space, out.Pds.States + 1, out.Pds.Symbols + 1, out.Pds.Rules⟩, out.Rule, out.First⟩
/-- One short rule for the last symbol, and what is left. -/
def stepS (one : TWeight) (n : Int) (s : TShorted × TRule × Bool) : TShorted × TRule × Bool :=
  (putS (moreS s.1) ⟨s.2.1.P, s.2.1.G, s.1.Pds.States, [s.1.Pds.Symbols, rdl s.2.1.W ((s.2.1.W.length : Int) - 1)], s.2.1.F⟩ n s.2.2,
   ⟨s.1.Pds.States, s.1.Pds.Symbols, s.2.1.Q, cutl s.2.1.W 0 ((s.2.1.W.length : Int) - 1), one⟩, false)
def shortP (one : TWeight) (n : Int) : Nat → TShorted × TRule × Bool → TShorted × TRule × Bool
  | 0, s => s
  | k + 1, s => shortP one n k (stepS one n s)
def shortK (one : TWeight) (n : Int) (r : TRule) (out : TShorted) : TShorted :=
  let s := shortP one n (r.W.length - 2) (out, r, true)
  putS s.1 s.2.1 n s.2.2
/-- So many may still come. -/
structure Room (out : TShorted) (m : Int) : Prop where
  a0 : 0 ≤ out.Pds.States
  a1 : out.Pds.States + m ≤ 900000000000
  b0 : 0 ≤ out.Pds.Symbols
  b1 : out.Pds.Symbols + m ≤ 900000000000
  c : (out.Pds.Rules.length : Int) + m ≤ 900000000000
  d : (out.Rule.length : Int) + m ≤ 900000000000
  e : (out.First.length : Int) + m ≤ 900000000000
theorem Room.step {s : TShorted × TRule × Bool} {m : Int} (h : Room s.1 m) (one : TWeight) (n : Int) : Room (stepS one n s).1 (m - 1) := by
  obtain ⟨a0, a1, b0, b1, c, d, e⟩ := h
  constructor <;> simp [stepS, putS, moreS] <;> omega
theorem Room.put {out : TShorted} {m : Int} (h : Room out m) (r : TRule) (n : Int) (f : Bool) : Room (putS out r n f) (m - 1) := by
  obtain ⟨a0, a1, b0, b1, c, d, e⟩ := h
  constructor <;> simp [putS] <;> omega
theorem Room.le {out : TShorted} {m m' : Int} (h : Room out m) (hm : m' ≤ m) : Room out m' := by
  obtain ⟨a0, a1, b0, b1, c, d, e⟩ := h
  constructor <;> omega
theorem Room.shortP (one : TWeight) (n : Int) : ∀ (k : Nat) (s : TShorted × TRule × Bool) (m : Int), Room s.1 m → Room (shortP one n k s).1 (m - k)
  | 0, s, m, h => h.le (by omega)
  | k + 1, s, m, h => (Room.shortP one n k _ _ (h.step one n)).le (by omega)
theorem shortP_first (one : TWeight) (n : Int) : ∀ (k : Nat) (s : TShorted × TRule × Bool), (shortP one n k s).2.2 = if k = 0 then s.2.2 else false
  | 0, s => rfl
  | k + 1, s => by
    show (shortP one n k (stepS one n s)).2.2 = _
    rw [shortP_first one n k]
    split <;> simp [stepS]
theorem shortP_Q (one : TWeight) (n : Int) : ∀ (k : Nat) (s : TShorted × TRule × Bool), (shortP one n k s).2.1.Q = s.2.1.Q
  | 0, s => rfl
  | k + 1, s => by
    show (shortP one n k (stepS one n s)).2.1.Q = _
    rw [shortP_Q one n k]; rfl
theorem shortP_W (one : TWeight) (n : Int) : ∀ (k : Nat) (s : TShorted × TRule × Bool), (shortP one n k s).2.1.W.length ≤ s.2.1.W.length
  | 0, s => Nat.le_refl _
  | k + 1, s => Nat.le_trans (shortP_W one n k (stepS one n s)) (by simp [stepS, cutl])
theorem pds_Short_1.ok {r : TRule} {n : Int} {f : Bool} {out : TShorted} (hw : r.W.length ≤ 17592186044416) (h : Room out 1) : pds_Short_1.f r n f out (putS out r n f) := by
  obtain ⟨a0, a1, b0, b1, c, d, e⟩ := h
  exact ⟨_, slices_Clone_int.ok hw, by unfold Fits; omega, by unfold Fits; omega, by unfold Fits; omega, rfl⟩
theorem cutl_take {α : Type} (l : List α) {j : Int} (h : 0 ≤ j) : cutl l 0 j = l.take j.toNat := by simp [cutl]
/-- The inner loop of pds.Short. -/
theorem pds_Short.inner {p : TPds} (one : TWeight × Int) {n : Int} (hw : (rdl p.Rules n).W.length ≤ 4096) : ∀ (k : Nat) (x : Int) (out : TShorted) (rest : TRule), 0 ≤ x → x ≤ (rdl p.Rules n).W.length → k = x.toNat - 2 →
    rest.W = (rdl p.Rules n).W.take x.toNat → rest.Q = (rdl p.Rules n).Q → Room out (k + 1) →
    Loop (pds_Short.b3 p one n) (out.Pds.Space.Tag, out.Pds.Space.Dim, out.Pds.Space.Parts, out.Pds.States, out.Pds.Symbols, out.Pds.Rules, out.Rule, out.First, rest.P, rest.G, rest.W, rest.F.Zero, rest.F.Cost, rest.F.Facts.Gen, rest.F.Facts.Rows, rest.F.Cells, rest.F.Parts, x)
      (.go (let s := shortP one.1 n k (out, rest, x == ((rdl p.Rules n).W.length : Int)); (s.1.Pds.Space.Tag, s.1.Pds.Space.Dim, s.1.Pds.Space.Parts, s.1.Pds.States, s.1.Pds.Symbols, s.1.Pds.Rules, s.1.Rule, s.1.First, s.2.1.P, s.2.1.G, s.2.1.W, s.2.1.F.Zero, s.2.1.F.Cost, s.2.1.F.Facts.Gen, s.2.1.F.Facts.Rows, s.2.1.F.Cells, s.2.1.F.Parts)))
  | 0, x, out, rest, x0, x1, hk, hW, hQ, hR => by
    refine .exit ?_
    unfold pds_Short.b3
    have : ¬ x > 2 := by omega
    simp only [this, if_false]
    rfl
  | k + 1, x, out, rest, x0, x1, hk, hW, hQ, hR => by
    have hx : x > 2 := by omega
    have hlen : (rest.W.length : Int) = x := by rw [hW]; simp; omega
    have hx1 : IntKind.i64.wrap (x - 1) = x - 1 := wrap64 (by omega) (by omega)
    have ih := pds_Short.inner one hw k (x - 1) (stepS one.1 n (out, rest, x == ((rdl p.Rules n).W.length : Int))).1 (stepS one.1 n (out, rest, x == ((rdl p.Rules n).W.length : Int))).2.1 (by omega) (by omega) (by omega)
      (by
        show cutl rest.W 0 ((rest.W.length : Int) - 1) = _
        rw [cutl_take _ (by omega), hlen, hW, List.take_take]
        congr 1; omega) hQ ((hR.step one.1 n).le (by omega))
    have hf : (x - 1 == ((rdl p.Rules n).W.length : Int)) = false := beq_false_of_ne (by omega)
    rw [hf] at ih
    refine .next ?_ ih
    unfold pds_Short.b3
    simp only [hx, if_true, hx1, TSpace.eta, TWeight.eta]
    have hR1 : Room (moreS out) 1 := by
      obtain ⟨a0, a1, b0, b1, c, d, e⟩ := hR
      constructor <;> simp [moreS] <;> omega
    have w1 : IntKind.i64.wrap (out.Pds.States + 1) = out.Pds.States + 1 := wrap64 (by have := hR.a0; omega) (by have := hR.a1; omega)
    have w2 : IntKind.i64.wrap (out.Pds.Symbols + 1) = out.Pds.Symbols + 1 := wrap64 (by have := hR.b0; omega) (by have := hR.b1; omega)
    rw [w1, w2]
    refine ⟨⟨by omega, by omega⟩, _, pds_Short_1.ok (by simp) hR1, ⟨by omega, by omega, by omega⟩, ?_⟩
    have e1 : rdl rest.W ((rest.W.length : Int) - 1) = rdl (rdl p.Rules n).W (x - 1) := by
      rw [hlen, hW, rdl_take (by omega) (by omega) (by omega)]
    have e2 : cutl rest.W 0 ((rest.W.length : Int) - 1) = cutl (rdl p.Rules n).W 0 (x - 1) := by
      rw [cutl_take _ (by omega), cutl_take _ (by omega), hlen, hW, List.take_take]
      congr 1; omega
    simp only [stepS, e1, e2]
    rfl
end Go.RM.Try
namespace Go.RM.Try
open Go.RM
set_option linter.unusedVariables false
set_option linter.unusedSimpArgs false
def moreG (r : TRule) (s : Int) : Int := if (r.W.length : Int) > 2 then s + (r.W.length : Int) - 2 else s
def moreM (p : TPds) : Int := foldG (fun _ r s => moreG r s) p.Rules 0 0
def noneS : TShorted := ⟨⟨⟨0, 0, []⟩, 0, 0, []⟩, [], []⟩
def shortM (one : TWeight) (p : TPds) : TShorted := foldG (fun i r out => shortK one i r out) p.Rules 0 ⟨⟨p.Space, p.States, p.Symbols, []⟩, [], []⟩
def shortR (p : TPds) : TShorted × Int :=
  if pC p = 0 then (if (decide (moreM p > 4096 - p.States) || (decide (moreM p > 4096 - p.Symbols) || decide (moreM p > 16384 - (p.Rules.length : Int)))) = true then (noneS, 3) else (shortM (oneW p.Space) p, 0)) else (noneS, pC p)
/-- What a system that may be has. -/
theorem pC_ok {p : TPds} (h : pC p = 0) : spaceOk p.Space = true ∧ p.Rules.length ≤ 16384 ∧ 0 ≤ p.States ∧ p.States ≤ 4096 ∧ 0 ≤ p.Symbols ∧ p.Symbols ≤ 4096 ∧ (∀ r ∈ p.Rules, ruleOk p r = true) ∧ (∀ r ∈ p.Rules, isW p.Space r.F = true) := by
  unfold pC at h
  split at h
  · rename_i hs
    split at h
    · simp at h
    · split at h
      · simp at h
      · rename_i hl hn
        split at h
        · rename_i ha
          split at h
          · rename_i hw
            simp only [Bool.or_eq_true, decide_eq_true_eq, not_or] at hn
            rw [List.all_eq_true] at ha hw
            exact ⟨hs, by omega, by omega, by omega, by omega, by omega, ha, hw⟩
          · simp at h
        · simp at h
  · simp at h
theorem ruleOk_len {p : TPds} {r : TRule} (h : ruleOk p r = true) : r.W.length ≤ 4096 := by
  unfold ruleOk at h
  simp only [Bool.and_eq_true, decide_eq_true_eq] at h
  omega
theorem moreInv {r : TRule} {s i : Int} (hw : r.W.length ≤ 4096) (h : 0 ≤ s ∧ s ≤ 4096 * i) : 0 ≤ moreG r s ∧ moreG r s ≤ 4096 * (i + 1) := by
  unfold moreG; split <;> omega
theorem pds_Short.loop1 {p : TPds} (hw : ∀ r ∈ p.Rules, r.W.length ≤ 4096) (hl : p.Rules.length ≤ 16384) : Loop (pds_Short.b1 p) (0, 0) (.go (moreM p)) ∧ 0 ≤ moreM p ∧ moreM p ≤ 4096 * (p.Rules.length : Int) := by
  refine foldGLoop (l := p.Rules) (b := pds_Short.b1 p) (fun i s => (s, i)) id (fun _ r s => moreG r s) (fun i s => 0 ≤ s ∧ s ≤ 4096 * i) (fun i s h0 h1 hi => ?_) (fun s hs => ?_) 0 (by decide)
  · have hr := hw _ (rdl_mem h0 h1)
    refine ⟨?_, moreInv hr hi⟩
    unfold pds_Short.b1
    simp only [h1, if_true]
    refine ⟨⟨h0, h1⟩, ?_⟩
    have w1 : IntKind.i64.wrap (((rdl p.Rules i).W.length : Int) - 2) = ((rdl p.Rules i).W.length : Int) - 2 := wrap64 (by omega) (by omega)
    have w2 : IntKind.i64.wrap (i + 1) = i + 1 := wrap64 (by omega) (by omega)
    rw [w1, w2]
    unfold moreG
    by_cases hg : ((rdl p.Rules i).W.length : Int) > 2
    · rw [if_pos hg, if_neg (by omega), wrap64 (by omega) (by omega)]
      congr 2; omega
    · rw [if_neg hg]
      split
      · rw [wrap64 (by omega) (by omega), Int.add_zero]
      · rw [wrap64 (by omega) (by omega)]
        congr 2; omega
  · unfold pds_Short.b1; simp
theorem Room.K {one : TWeight} {n : Int} {r : TRule} {out : TShorted} {m : Int} (h : Room out m) (hw : r.W.length ≤ 4096) : Room (shortK one n r out) (m - 4097) :=
  ((Room.shortP one n (r.W.length - 2) (out, r, true) m h).put _ _ _).le (by omega)
theorem room0 {p : TPds} (hs0 : 0 ≤ p.States) (hs1 : p.States ≤ 4096) (hy0 : 0 ≤ p.Symbols) (hy1 : p.Symbols ≤ 4096) (hl : p.Rules.length ≤ 16384) : Room ⟨⟨p.Space, p.States, p.Symbols, []⟩, [], []⟩ (((p.Rules.length : Int) - 0) * 4097 + 1) := by
  constructor <;> simp <;> omega
theorem pds_Short.loop2 {p : TPds} (one : TWeight × Int) (hw : ∀ r ∈ p.Rules, r.W.length ≤ 4096) (hl : p.Rules.length ≤ 16384) (hs0 : 0 ≤ p.States) (hs1 : p.States ≤ 4096) (hy0 : 0 ≤ p.Symbols) (hy1 : p.Symbols ≤ 4096) :
    Loop (pds_Short.b2 p one) (p.Space.Tag, p.Space.Dim, p.Space.Parts, p.States, p.Symbols, [], [], [], 0)
      (.go ((shortM one.1 p).Pds.Space.Tag, (shortM one.1 p).Pds.Space.Dim, (shortM one.1 p).Pds.Space.Parts, (shortM one.1 p).Pds.States, (shortM one.1 p).Pds.Symbols, (shortM one.1 p).Pds.Rules, (shortM one.1 p).Rule, (shortM one.1 p).First)) := by
  refine (foldGLoop (l := p.Rules) (b := pds_Short.b2 p one) (fun i out => (out.Pds.Space.Tag, out.Pds.Space.Dim, out.Pds.Space.Parts, out.Pds.States, out.Pds.Symbols, out.Pds.Rules, out.Rule, out.First, i)) (fun out => (out.Pds.Space.Tag, out.Pds.Space.Dim, out.Pds.Space.Parts, out.Pds.States, out.Pds.Symbols, out.Pds.Rules, out.Rule, out.First))
    (fun i r out => shortK one.1 i r out) (fun i out => Room out (((p.Rules.length : Int) - i) * 4097 + 1)) (fun i out h0 h1 hi => ?_) (fun s hs => ?_) ⟨⟨p.Space, p.States, p.Symbols, []⟩, [], []⟩ (room0 hs0 hs1 hy0 hy1 hl)).1
  · have hr := hw _ (rdl_mem h0 h1)
    refine ⟨?_, (hi.K hr).le (by omega)⟩
    have hin := pds_Short.inner (p := p) one (n := i) hr ((rdl p.Rules i).W.length - 2) ((rdl p.Rules i).W.length) out (rdl p.Rules i) (by omega) (by omega) (by simp) (by simp) rfl (hi.le (by omega))
    unfold pds_Short.b2
    simp only [h1, if_true]
    refine ⟨⟨h0, h1⟩, _, hin, ?_⟩
    simp only [Fin.on, TSpace.eta, TWeight.eta, beq_self_eq_true]
    have hQ := shortP_Q one.1 i ((rdl p.Rules i).W.length - 2) (out, rdl p.Rules i, true)
    have hF := shortP_first one.1 i ((rdl p.Rules i).W.length - 2) (out, rdl p.Rules i, true)
    have hW := shortP_W one.1 i ((rdl p.Rules i).W.length - 2) (out, rdl p.Rules i, true)
    have hR := Room.shortP one.1 i ((rdl p.Rules i).W.length - 2) (out, rdl p.Rules i, true) _ hi
    have hd : decide (((rdl p.Rules i).W.length : Int) ≤ 2) = (shortP one.1 i ((rdl p.Rules i).W.length - 2) (out, rdl p.Rules i, true)).2.2 := by
      rw [hF]
      by_cases hc : (rdl p.Rules i).W.length - 2 = 0
      · rw [if_pos hc]; simp; omega
      · rw [if_neg hc]; simp; omega
    rw [hd]
    rw [show (rdl p.Rules i).Q = (shortP one.1 i ((rdl p.Rules i).W.length - 2) (out, rdl p.Rules i, true)).2.1.Q from hQ.symm]
    refine ⟨_, pds_Short_1.ok (by simp only at hW ⊢; omega) (hR.le (by omega)), ?_⟩
    rw [wrap64 (by omega) (by omega)]
    rfl
  · unfold pds_Short.b2; simp
theorem pds_Short.ok {p : TPds} (h : p.Sized) : pds_Short.f p (shortR p) := by
  refine ⟨_, pds_Check.ok h, ?_⟩
  unfold shortR
  by_cases hc : pC p = 0
  · rw [if_pos hc, if_pos hc]
    obtain ⟨hs, hl, a0, a1, b0, b1, hr, hf⟩ := pC_ok hc
    have hw : ∀ r ∈ p.Rules, r.W.length ≤ 4096 := fun r hm => ruleOk_len (hr r hm)
    have hL := pds_Short.loop1 hw hl
    refine ⟨_, hL.1, ?_⟩
    simp only [Fin.on]
    rw [wrap64 (i := 4096 - p.States) (by omega) (by omega), wrap64 (i := 4096 - p.Symbols) (by omega) (by omega), wrap64 (i := 16384 - (p.Rules.length : Int)) (by omega) (by omega)]
    split
    · rfl
    · refine ⟨_, weight_One.ok h.parts, ?_⟩
      have h1 : oneR p.Space = (oneW p.Space, 0) := by unfold oneR; rw [if_pos hs]
      rw [h1]
      exact ⟨_, pds_Short.loop2 _ hw hl a0 a1 b0 b1, by simp only [Fin.on, TSpace.eta]⟩
  · rw [if_neg hc, if_neg hc]; rfl
end Go.RM.Try
namespace Go.RM.Try
open Go.RM
set_option linter.unusedVariables false
set_option linter.unusedSimpArgs false
theorem r05_Same.step1 {self : TWeight → TWeight → Bool → Prop} {w : TWeight} (hw : w.Sized) (h : ∀ p ∈ w.Parts, self p p true) : r05_Same.step self w w true := by
  obtain ⟨ha, hb, hc⟩ := hw
  have hm : ∀ n : Nat, n ≤ 17592186044416 → n ≤ maxLen := fun n hn => by unfold maxLen; omega
  refine ⟨_, fun _ _ => r03_Same.ok (hm _ ha), ?_⟩
  have hf : factsEq w.Facts w.Facts = true := by simp [factsEq]
  rw [hf, if_neg (by simp)]
  have key1 := eachLoop (l := w.Cells) (b := r05_Same.b1 w w) (fun _ => true) false (fun i i0 i1 => by
    unfold r05_Same.b1
    simp only [i1, if_true, beq_self_eq_true, Bool.and_self]
    exact ⟨fun _ => ⟨⟨i0, i1⟩, ⟨i0, i1⟩, by rw [wrap_len (hm _ hb) i0 i1]⟩, fun ht => (by cases ht)⟩) (fun i i0 i1 => by unfold r05_Same.b1; simp only [i1, if_false])
  refine ⟨_, key1, ?_⟩
  rw [if_pos (by simp)]
  have key2 := eachLoop (l := w.Parts) (b := r05_Same.b2 self w w) (fun _ => true) false (fun i i0 i1 => by
    unfold r05_Same.b2
    simp only [i1, if_true]
    exact ⟨fun _ => ⟨⟨i0, i1⟩, ⟨i0, i1⟩, _, h _ (rdl_mem i0 i1), by rw [if_pos rfl, wrap_len (hm _ hc) i0 i1]⟩, fun ht => (by cases ht)⟩) (fun i i0 i1 => by unfold r05_Same.b2; simp only [i1, if_false])
  exact ⟨_, key2, by simp [Fin.on]⟩
/-- No parts below parts. -/
def Flat (w : TWeight) : Prop := w.Sized2 ∧ ∀ p ∈ w.Parts, p.Parts = []
theorem r05_Same.refl {w : TWeight} (hw : Flat w) : r05_Same.f w w true :=
  ⟨2, r05_Same.step1 (self := r05_Same.fN 1) hw.1.1 (fun p hp => r05_Same.step1 (self := r05_Same.fN 0) (hw.1.2 p hp) (by rw [hw.2 p hp]; simp))⟩
theorem isW1_parts {s : TSpace} {w : TWeight} (h : isW1 s w = true) : w.Parts = [] := by
  have : w.Parts.length = 0 := by
    unfold isW1 at h
    split at h
    · unfold plainB at h; simp at h; simp [h]
    · rw [Bool.and_eq_true] at h
      have h := h.1
      unfold plainB at h; simp at h; simp [h]
  exact List.eq_nil_of_length_eq_zero this
theorem isW_parts {s : TSpace} {w : TWeight} (h : isW s w = true) : ∀ p ∈ w.Parts, p.Parts = [] := by
  unfold isW at h
  split at h
  · simp only [Bool.and_eq_true, beq_iff_eq] at h
    have h2 : w.Parts.length = 2 := by omega
    intro p hp
    match hs : w.Parts, h2 with
    | [a, b], _ =>
      rw [hs] at hp h
      simp at hp
      rcases hp with rfl | rfl
      · exact isW1_parts h.2.2.2.1
      · exact isW1_parts h.2.2.2.2
  · rw [isW1_parts h]; simp
theorem sized_small {w : TWeight} (a : w.Facts.Rows.length ≤ 64) (b : w.Cells.length ≤ 64) (c : w.Parts = []) : w.Sized := ⟨by omega, by omega, by rw [c]; simp⟩
theorem oneW1_sized {s : TSpace} (hs : spaceOk1 s = true) : (oneW1 s).Sized ∧ (oneW1 s).Parts = [] := by
  unfold oneW1
  rcases space1_cases hs with h | h | h | h
  · simp only [h.1, Int.reduceEq, if_false]; exact ⟨sized_small (by simp [noneW]) (by simp [noneW]) rfl, by simp [noneW]⟩
  · simp only [h.1, Int.reduceEq, if_false]; exact ⟨sized_small (by simp [noneW]) (by simp [noneW]) rfl, by simp [noneW]⟩
  · simp only [h.1, Int.reduceEq, if_true, if_false]; exact ⟨sized_small (by simp [oneF, upto]; omega) (by simp) rfl, by simp⟩
  · simp only [h.1, Int.reduceEq, if_true, if_false]; exact ⟨sized_small (by simp) (by simp [oneC, upto]; omega) rfl, by simp⟩
theorem oneW_flat {s : TSpace} (hs : spaceOk s = true) : Flat (oneW s) := by
  by_cases h5 : s.Tag = 5
  · obtain ⟨a, b, hp, ha, hb, _, _, _⟩ := space_parts hs h5
    have ea : rdl s.Parts 0 = a := by rw [hp]; rfl
    have eb : rdl s.Parts 1 = b := by rw [hp]; rfl
    unfold oneW
    rw [if_pos h5, ea, eb]
    refine ⟨⟨⟨by simp, by simp, by simp⟩, ?_⟩, ?_⟩
    · intro p hm; simp at hm; rcases hm with rfl | rfl
      · exact (oneW1_sized ha).1
      · exact (oneW1_sized hb).1
    · intro p hm; simp at hm; rcases hm with rfl | rfl
      · exact (oneW1_sized ha).2
      · exact (oneW1_sized hb).2
  · have := oneW1_sized (s := s) (by rw [← spaceOk_ne h5]; exact hs)
    rw [oneW_ne h5]
    exact ⟨⟨this.1, by rw [this.2]; simp⟩, by rw [this.2]; simp⟩
theorem shortM_room {p : TPds} (one : TWeight) (hw : ∀ r ∈ p.Rules, r.W.length ≤ 4096) (hl : p.Rules.length ≤ 16384) (hs0 : 0 ≤ p.States) (hs1 : p.States ≤ 4096) (hy0 : 0 ≤ p.Symbols) (hy1 : p.Symbols ≤ 4096) : Room (shortM one p) 1 := by
  have := foldG_inv (g := fun i r out => shortK one i r out) (fun i out => Room out (((p.Rules.length : Int) - i) * 4097 + 1)) p.Rules 0 ⟨⟨p.Space, p.States, p.Symbols, []⟩, [], []⟩ (fun i s x hx h => (h.K (hw x hx)).le (by omega)) (room0 hs0 hs1 hy0 hy1 hl)
  exact this.le (by omega)
theorem flat_none : Flat noneW := ⟨⟨⟨by simp [noneW], by simp [noneW], by simp [noneW]⟩, by simp [noneW]⟩, by simp [noneW]⟩
/-- The system that is looked at in each law. -/
def p0 : TPds := ⟨⟨1, 0, []⟩, 2, 5, [⟨0, 0, 1, [2, 3, 4], ⟨false, 0, ⟨0, []⟩, [], []⟩⟩]⟩
theorem p0_sized : p0.Sized := ⟨by simp [p0], by simp [p0], by intro r hr; simp [p0] at hr; subst hr; simp [maxLen], by intro r hr; simp [p0] at hr; subst hr; exact flat_none.1⟩
theorem p0_short : shortR p0 = (⟨⟨⟨1, 0, []⟩, 3, 6, [⟨0, 0, 2, [5, 4], noneW⟩, ⟨2, 5, 1, [2, 3], noneW⟩]⟩, [0, 0], [true, false]⟩, 0) := by rfl
theorem l11_alive.ok : l11_alive.f true := by
  have h := pds_Short.ok p0_sized
  rw [p0_short] at h
  refine ⟨_, h, ?_⟩
  simp [rdl, InR]
end Go.RM.Try
namespace Go.RM.Try
open Go.RM
set_option linter.unusedVariables false
set_option linter.unusedSimpArgs false
theorem fit_cut {p : TPds} (h : p.Fit) : l11_cut.f p (cutM p) := by
  have hs := h.1
  cases hs with
  | mk _ h0 h1 h2 h3 h4 => exact l11_cut.ok h.2.2.2.2.1 h3
end Go.RM.Try
namespace Go.RM.Try
open Go.RM
set_option linter.unusedVariables false
set_option linter.unusedSimpArgs false
def InU (x : Int) : Prop := 0 ≤ x ∧ x < 18446744073709551616
def hasI (x : Int) (i : Nat) : Bool := x.toNat.testBit i
theorem hasI_high {x : Int} (hx : InU x) {i : Nat} (h : 64 ≤ i) : hasI x i = false := by
  unfold hasI
  apply Nat.testBit_lt_two_pow
  have h1 : (2 : Nat) ^ 64 ≤ 2 ^ i := Nat.pow_le_pow_right (by decide) h
  have h2 : (2 : Nat) ^ 64 = 18446744073709551616 := by decide
  have := hx.2; have := hx.1; omega
theorem ext64 {x y : Int} (hx : InU x) (hy : InU y) (h : ∀ i < 64, hasI x i = hasI y i) : x = y := by
  have : x.toNat = y.toNat := by
    apply Nat.eq_of_testBit_eq
    intro i
    by_cases hi : i < 64
    · exact h i hi
    · exact (hasI_high hx (by omega)).trans (hasI_high hy (by omega)).symm
  have := hx.1; have := hy.1; omega
theorem ofInt_toNat {x : Int} (hx : InU x) : (BitVec.ofInt 64 x).toNat = x.toNat := by
  rw [BitVec.toNat_ofInt]
  have := hx.1; have := hx.2
  have : x % ((2 ^ 64 : Nat) : Int) = x := by
    rw [show ((2 ^ 64 : Nat) : Int) = 18446744073709551616 by decide]
    exact Int.emod_eq_of_lt hx.1 hx.2
  rw [this]
theorem toNat_InU (b : BitVec 64) : InU (b.toNat : Int) := by
  have := b.isLt
  have h2 : (2 : Nat) ^ 64 = 18446744073709551616 := by decide
  exact ⟨by omega, by omega⟩
theorem bitOp_or {x y : Int} : bitOp .or .u64 x y = ((BitVec.ofInt 64 x ||| BitVec.ofInt 64 y).toNat : Int) := by
  show IntKind.u64.wrap ((BitVec.ofInt 64 x ||| BitVec.ofInt 64 y).toNat : Int) = _
  have := toNat_InU (BitVec.ofInt 64 x ||| BitVec.ofInt 64 y)
  exact wrapu64 this.1 this.2
theorem bitOp_andNot {x y : Int} : bitOp .andNot .u64 x y = ((BitVec.ofInt 64 x &&& ~~~ BitVec.ofInt 64 y).toNat : Int) := by
  show IntKind.u64.wrap ((BitVec.ofInt 64 x &&& ~~~ BitVec.ofInt 64 y).toNat : Int) = _
  have := toNat_InU (BitVec.ofInt 64 x &&& ~~~ BitVec.ofInt 64 y)
  exact wrapu64 this.1 this.2
theorem or_InU (x y : Int) : InU (bitOp .or .u64 x y) := by rw [bitOp_or]; exact toNat_InU _
theorem andNot_InU (x y : Int) : InU (bitOp .andNot .u64 x y) := by rw [bitOp_andNot]; exact toNat_InU _
theorem bv_has (b : BitVec 64) (i : Nat) : hasI (b.toNat : Int) i = b.getLsbD i := rfl
theorem ofInt_bit {x : Int} (hx : InU x) (i : Nat) : (BitVec.ofInt 64 x).getLsbD i = hasI x i := by
  show (BitVec.ofInt 64 x).toNat.testBit i = _
  rw [ofInt_toNat hx]; rfl
theorem has_or {x y : Int} (hx : InU x) (hy : InU y) (i : Nat) : hasI (bitOp .or .u64 x y) i = (hasI x i || hasI y i) := by
  rw [bitOp_or, bv_has, BitVec.getLsbD_or, ofInt_bit hx, ofInt_bit hy]
theorem has_andNot {x y : Int} (hx : InU x) (hy : InU y) {i : Nat} (hi : i < 64) : hasI (bitOp .andNot .u64 x y) i = (hasI x i && !hasI y i) := by
  rw [bitOp_andNot, bv_has, BitVec.getLsbD_and, BitVec.getLsbD_not, ofInt_bit hx, ofInt_bit hy]
  simp [hi]
theorem has_zero (i : Nat) : hasI 0 i = false := by simp [hasI]
theorem pow_toNat (n : Nat) : ((2 : Int) ^ n).toNat = 2 ^ n := by
  have h2 : ((2 ^ n : Nat) : Int) = (2 : Int) ^ n := by simp
  rw [← h2]; exact Int.toNat_natCast _
theorem has_pow (k i : Nat) : hasI (2 ^ k) i = decide (k = i) := by
  unfold hasI
  rw [pow_toNat, Nat.testBit_two_pow]
theorem pow_InU {k : Nat} (h : k < 64) : InU (2 ^ k) := ⟨Int.le_of_lt (Int.pow_pos (by decide)), two_pow_lt h⟩
theorem has_full {n : Int} (h0 : 0 ≤ n) (i : Nat) : hasI (fullM n) i = decide ((i : Int) < n) := by
  unfold hasI fullM
  have : ((2 : Int) ^ n.toNat - 1).toNat = 2 ^ n.toNat - 1 := by
    have := pow_toNat n.toNat
    omega
  rw [this, Nat.testBit_two_pow_sub_one]
  rw [decide_eq_decide]
  omega
theorem full_InU {n : Int} (h0 : 0 ≤ n) (h1 : n ≤ 64) : InU (fullM n) := by
  unfold fullM
  have hp : (0 : Int) < 2 ^ n.toNat := Int.pow_pos (by decide)
  have h2 : (2 : Nat) ^ n.toNat ≤ 2 ^ 64 := Nat.pow_le_pow_right (by decide) (by omega)
  have h3 : ((2 ^ n.toNat : Nat) : Int) = (2 : Int) ^ n.toNat := by simp
  have h4 : (2 : Nat) ^ 64 = 18446744073709551616 := by decide
  exact ⟨by omega, by omega⟩
/-- Nothing outside. -/
theorem inside_iff {x n : Int} (hx : InU x) (h0 : 0 ≤ n) (h1 : n ≤ 64) : bitOp .andNot .u64 x (fullM n) = 0 ↔ ∀ i : Nat, hasI x i = true → (i : Int) < n := by
  constructor
  · intro h i hi
    have h64 : i < 64 := by
      apply Nat.lt_of_not_le; intro hge; rw [hasI_high hx hge] at hi; cases hi
    have := has_andNot hx (full_InU h0 h1) h64
    rw [h, has_zero, hi, has_full h0] at this
    simpa using this
  · intro h
    refine ext64 (andNot_InU _ _) ⟨by decide, by decide⟩ fun i hi => ?_
    rw [has_andNot hx (full_InU h0 h1) hi, has_zero, has_full h0]
    cases hb : hasI x i with
    | false => rfl
    | true => simp; exact h i hb
theorem zero_InU : InU 0 := ⟨by decide, by decide⟩
theorem tdivmod (s p : Nat) (hs : s < 18446744073709551616) : Int.tmod (IntKind.u64.wrap (Int.tdiv (s : Int) (p : Int))) 2 = ((s / p % 2 : Nat) : Int) := by
  have hle : s / p ≤ s := Nat.div_le_self _ _
  rw [Int.tdiv_eq_ediv_of_nonneg (Int.natCast_nonneg _), ← Int.natCast_ediv, wrapu64 (Int.natCast_nonneg _) (by omega), Int.tmod_eq_emod_of_nonneg (Int.natCast_nonneg _)]
  rfl
theorem r01_Has.ok {s : Int} (hs : InU s) (a : Int) : r01_Has.f s a (inB a 64 && hasI s a.toNat) := by
  unfold r01_Has.f inB
  by_cases h : a ≥ 0 ∧ a < 64
  · obtain ⟨h0, h1⟩ := h
    refine ⟨_, fun _ _ => r01_Worth.ok h0 h1, fun _ _ => Int.ne_of_gt (Int.pow_pos (by decide)), ?_⟩
    rw [decide_eq_true h0, decide_eq_true h1]
    simp only [Bool.true_and]
    have hn : (s.toNat : Int) = s := Int.toNat_of_nonneg hs.1
    have hp : ((2 ^ a.toNat : Nat) : Int) = (2 : Int) ^ a.toNat := by simp
    have hlt : s.toNat < 18446744073709551616 := by have := hs.2; omega
    have hm : Int.tmod (IntKind.u64.wrap (Int.tdiv s (2 ^ a.toNat))) 2 = ((s.toNat / 2 ^ a.toNat % 2 : Nat) : Int) := by
      have := tdivmod s.toNat (2 ^ a.toNat) hlt
      rw [hn, hp] at this
      exact this
    rw [hm]
    unfold hasI
    rw [Nat.testBit_eq_decide_div_mod_eq, Bool.eq_iff_iff]
    simp only [beq_iff_eq, decide_eq_true_eq]
    omega
  · refine ⟨0, fun h0 h1 => (h ⟨h0, h1⟩).elim, fun h0 h1 => (h ⟨h0, h1⟩).elim, ?_⟩
    by_cases h0 : a ≥ 0
    · have h1 : ¬ a < 64 := fun h1 => h ⟨h0, h1⟩
      simp [h1]
    · simp [h0]
end Go.RM.Try
namespace Go.RM.Try
open Go.RM
set_option linter.unusedVariables false
set_option linter.unusedSimpArgs false
/-- Facts in range. -/
def RngF (F : TFacts) : Prop := InU F.Gen ∧ ∀ r ∈ F.Rows, InU r
theorem TFacts.Fit.rng {F : TFacts} (h : F.Fit) : RngF F := ⟨wfu64 h.1, fun r hr => wfu64 (h.2.2.2 r hr)⟩
def madeM (F : TFacts) (x : Int) : Int := foldG (fun i row acc => if hasI x i.toNat = true then bitOp .or .u64 acc row else acc) F.Rows 0 F.Gen
/-- Is there a row at a place of x that has k? -/
def anyB (x : Int) (k : Nat) : List Int → Nat → Bool
  | [], _ => false
  | r :: l, i => (hasI x i && hasI r k) || anyB x k l (i + 1)
theorem madeM_fold {x : Int} {k : Nat} : ∀ (l : List Int) (i : Nat) (acc : Int), InU acc → (∀ r ∈ l, InU r) →
    InU (foldG (fun i row acc => if hasI x i.toNat = true then bitOp .or .u64 acc row else acc) l (i : Int) acc) ∧
    hasI (foldG (fun i row acc => if hasI x i.toNat = true then bitOp .or .u64 acc row else acc) l (i : Int) acc) k = (hasI acc k || anyB x k l i)
  | [], i, acc, ha, hr => ⟨ha, by simp [foldG, anyB]⟩
  | r :: l, i, acc, ha, hr => by
    have h1 : InU (if hasI x i = true then bitOp .or .u64 acc r else acc) := by split; exact or_InU _ _; exact ha
    have ih := madeM_fold (x := x) (k := k) l (i + 1) _ h1 (fun y hy => hr y (.tail _ hy))
    unfold foldG anyB
    rw [show ((i : Int) + 1) = ((i + 1 : Nat) : Int) by simp, show ((i : Nat) : Int).toNat = i by simp]
    refine ⟨ih.1, ?_⟩
    rw [ih.2]
    cases hx : hasI x i with
    | true => simp [has_or ha (hr r (.head _)), Bool.or_assoc]
    | false => simp
theorem madeM_InU {F : TFacts} (h : RngF F) (x : Int) : InU (madeM F x) := (madeM_fold (x := x) (k := 0) F.Rows 0 F.Gen h.1 h.2).1
theorem madeM_has {F : TFacts} (h : RngF F) (x : Int) (k : Nat) : hasI (madeM F x) k = (hasI F.Gen k || anyB x k F.Rows 0) := (madeM_fold (x := x) (k := k) F.Rows 0 F.Gen h.1 h.2).2
theorem anyB_iff {x : Int} {k : Nat} : ∀ (l : List Int) (i : Nat), anyB x k l i = true ↔ ∃ j : Nat, ∃ r, l[j]? = some r ∧ hasI x (i + j) = true ∧ hasI r k = true
  | [], i => by simp [anyB]
  | r :: l, i => by
    unfold anyB
    rw [Bool.or_eq_true, anyB_iff l (i + 1), Bool.and_eq_true]
    constructor
    · rintro (⟨h1, h2⟩ | ⟨j, r', h1, h2, h3⟩)
      · exact ⟨0, r, rfl, by simpa using h1, h2⟩
      · exact ⟨j + 1, r', by simpa using h1, by rw [show i + (j + 1) = i + 1 + j by omega]; exact h2, h3⟩
    · rintro ⟨j, r', h1, h2, h3⟩
      cases j with
      | zero =>
        simp at h1; subst h1
        exact .inl ⟨by simpa using h2, h3⟩
      | succ j =>
        exact .inr ⟨j, r', by simpa using h1, by rw [show i + 1 + j = i + (j + 1) by omega]; exact h2, h3⟩
theorem r03_or.ok (a b : Int) : r03_or.f a b (bitOp .or .u64 a b) := rfl
theorem r03_made.ok {F : TFacts} (h : RngF F) (hl : F.Rows.length ≤ maxLen) {x : Int} (hx : InU x) : r03_made.f F x (madeM F x) := by
  have key := foldGLoop (l := F.Rows) (b := r03_made.b1 F x) (fun i s => (s, i)) id (fun i row acc => if hasI x i.toNat = true then bitOp .or .u64 acc row else acc) (fun i s => True) (fun i s h0 h1 _ => by
    refine ⟨?_, trivial⟩
    unfold r03_made.b1 r03_made.j1
    simp only [h1, if_true]
    refine ⟨_, r01_Has.ok hx i, ?_⟩
    have hb : (inB i 64 && hasI x i.toNat) = hasI x i.toNat := by
      cases hh : hasI x i.toNat with
      | false => simp
      | true =>
        have : i < 64 := by
          apply Int.lt_of_not_ge; intro hge
          rw [hasI_high hx (by omega)] at hh; cases hh
        simp [inB, h0, this]
    rw [hb, wrap_len hl h0 h1]
    cases hasI x i.toNat with
    | true => exact ⟨⟨h0, h1⟩, _, r03_or.ok _ _, rfl⟩
    | false => rfl) (fun s _ => by unfold r03_made.b1; simp) F.Gen trivial
  exact ⟨_, key.1, rfl⟩
/-- One behind the other. -/
def thenF (a b : TFacts) : TFacts := canonM ⟨madeM b a.Gen, a.Rows.map (madeM b)⟩
theorem factsOk_iff {n : Int} {F : TFacts} (hr : RngF F) (h0 : 0 ≤ n) (h1 : n ≤ 64) : factsOk n F = true ↔ (F.Rows.length : Int) = n ∧ (∀ i : Nat, hasI F.Gen i = true → (i : Int) < n) ∧ (∀ r ∈ F.Rows, ∀ i : Nat, hasI r i = true → (i : Int) < n) ∧ ∀ r ∈ F.Rows, ∀ i : Nat, hasI r i = true → hasI F.Gen i = false := by
  have e0 : factsOk n F = true ↔ (F.Rows.length : Int) = n ∧ bitOp .andNot .u64 F.Gen (fullM n) = 0 ∧ (∀ r ∈ F.Rows, bitOp .andNot .u64 r (fullM n) = 0) ∧ (F.Rows.map (fun r => bitOp .andNot .u64 r F.Gen) = F.Rows) := by
    unfold factsOk factsEq
    rw [Bool.and_eq_true, Bool.and_eq_true, Bool.and_eq_true, Bool.and_eq_true, List.all_eq_true, beq_iff_eq, beq_iff_eq, beq_iff_eq, decide_eq_true_eq]
    simp only [beq_iff_eq]
    exact ⟨fun h => ⟨h.1, h.2.1, h.2.2.1, h.2.2.2.2⟩, fun h => ⟨h.1, h.2.1, h.2.2.1, rfl, h.2.2.2⟩⟩
  rw [e0, inside_iff hr.1 h0 h1]
  have e1 : (∀ r ∈ F.Rows, bitOp .andNot .u64 r (fullM n) = 0) ↔ (∀ r ∈ F.Rows, ∀ i : Nat, hasI r i = true → (i : Int) < n) := by
    constructor
    · intro h r hm; exact (inside_iff (hr.2 r hm) h0 h1).1 (h r hm)
    · intro h r hm; exact (inside_iff (hr.2 r hm) h0 h1).2 (h r hm)
  have e2 : (F.Rows.map (fun r => bitOp .andNot .u64 r F.Gen) = F.Rows) ↔ ∀ r ∈ F.Rows, ∀ i : Nat, hasI r i = true → hasI F.Gen i = false := by
    rw [show (F.Rows.map (fun r => bitOp .andNot .u64 r F.Gen) = F.Rows) ↔ (F.Rows.map (fun r => bitOp .andNot .u64 r F.Gen) = F.Rows.map id) by simp, List.map_inj_left]
    constructor
    · intro h r hm i hi
      have h64 : i < 64 := by apply Nat.lt_of_not_le; intro hge; rw [hasI_high (hr.2 r hm) hge] at hi; cases hi
      have := has_andNot (hr.2 r hm) hr.1 h64
      rw [h r hm, id, hi] at this
      simpa using this
    · intro h r hm
      refine ext64 (andNot_InU _ _) (hr.2 r hm) fun i hi => ?_
      rw [has_andNot (hr.2 r hm) hr.1 hi]
      cases hb : hasI r i with
      | false => simp [id, hb]
      | true => simp [id, hb, h r hm i hb]
  rw [e1, e2]
theorem rng_canon {F : TFacts} (h : InU F.Gen) : RngF (canonM F) := ⟨h, fun r hr => by simp [canonM] at hr; obtain ⟨_, _, rfl⟩ := hr; exact andNot_InU _ _⟩
theorem madeM_inside {n : Int} {F : TFacts} (hr : RngF F) (h0 : 0 ≤ n) (h1 : n ≤ 64) (hF : factsOk n F = true) (x : Int) {i : Nat} (h : hasI (madeM F x) i = true) : (i : Int) < n := by
  obtain ⟨_, hg, hrow, _⟩ := (factsOk_iff hr h0 h1).1 hF
  rw [madeM_has hr, Bool.or_eq_true, anyB_iff] at h
  rcases h with h | ⟨j, r, hj, _, hk⟩
  · exact hg i h
  · exact hrow r (List.mem_of_getElem? hj) i hk
theorem thenF_rng {a b : TFacts} (hb : RngF b) : RngF (thenF a b) := rng_canon (madeM_InU hb _)
theorem thenF_ok {n : Int} (h0 : 0 ≤ n) (h1 : n ≤ 64) {a b : TFacts} (hb : RngF b) (ha2 : factsOk n a = true) (hb2 : factsOk n b = true) (hra : RngF a) : factsOk n (thenF a b) = true := by
  rw [factsOk_iff (thenF_rng hb) h0 h1]
  obtain ⟨hl, _⟩ := (factsOk_iff hra h0 h1).1 ha2
  refine ⟨by simp [thenF, canonM, hl], fun i hi => madeM_inside hb h0 h1 hb2 a.Gen hi, ?_, ?_⟩
  · intro r hm i hi
    simp only [thenF, canonM, List.map_map, List.mem_map, Function.comp] at hm
    obtain ⟨x, hx, rfl⟩ := hm
    have h64 : i < 64 := by apply Nat.lt_of_not_le; intro hge; rw [hasI_high (andNot_InU _ _) hge] at hi; cases hi
    rw [has_andNot (madeM_InU hb _) (madeM_InU hb _) h64, Bool.and_eq_true] at hi
    exact madeM_inside hb h0 h1 hb2 x hi.1
  · intro r hm i hi
    simp only [thenF, canonM, List.map_map, List.mem_map, Function.comp] at hm
    obtain ⟨x, hx, rfl⟩ := hm
    have h64 : i < 64 := by apply Nat.lt_of_not_le; intro hge; rw [hasI_high (andNot_InU _ _) hge] at hi; cases hi
    rw [has_andNot (madeM_InU hb _) (madeM_InU hb _) h64, Bool.and_eq_true] at hi
    simpa [thenF, canonM] using hi.2
theorem r03_two.ok {n : Int} (h0 : 0 ≤ n) (h1 : n ≤ 64) {a b : TFacts} (ha : a.Rows.length ≤ 17592186044416) (hb : b.Rows.length ≤ 17592186044416) (ha2 : factsOk n a = true) (hb2 : factsOk n b = true) : r03_two.f n a b 0 := by
  have x := r03_Check.ok h0 h1 ha
  have y := r03_Check.ok h0 h1 hb
  rw [ha2, if_pos rfl] at x
  rw [hb2, if_pos rfl] at y
  exact ⟨_, x, by rw [if_pos rfl]; exact ⟨_, y, rfl⟩⟩
theorem map_upto {α β : Type} [Inhabited α] (l : List α) (f : α → β) : (upto l.length).map (fun i => f (rdl l i)) = l.map f := by
  have := congrArg (List.map f) (upto_rdl l)
  rw [List.map_map] at this
  exact this
theorem r03_Extend.ok {n : Int} (h0 : 0 ≤ n) (h1 : n ≤ 64) {a b : TFacts} (hra : RngF a) (hrb : RngF b) (ha2 : factsOk n a = true) (hb2 : factsOk n b = true) : r03_Extend.f n a b (thenF a b, 0) := by
  obtain ⟨la, _⟩ := (factsOk_iff hra h0 h1).1 ha2
  obtain ⟨lb, _⟩ := (factsOk_iff hrb h0 h1).1 hb2
  refine ⟨_, r03_two.ok h0 h1 (by omega) (by omega) ha2 hb2, ?_⟩
  rw [if_pos rfl]
  have hm : b.Rows.length ≤ maxLen := by unfold maxLen; omega
  refine ⟨_, r03_made.ok hrb hm hra.1, ?_⟩
  have key := (countLoop (n := n) (b := r03_Extend.b1 n a b) (fun i l => (l, i)) id (fun i acc => .go (acc ++ [madeM b (rdl a.Rows i)])) (fun i l => (l.length : Int) = i) (fun i l i0 i1 hi => by
    refine ⟨?_, by simp; omega⟩
    unfold r03_Extend.b1
    simp only [i1, if_true]
    exact ⟨⟨i0, by omega⟩, _, r03_made.ok hrb hm (hra.2 _ (rdl_mem i0 (by omega))), by unfold Fits; omega, by rw [wrap64 (by omega) (by omega)]⟩) (fun l hl => by unfold r03_Extend.b1; simp) [] h0 rfl).1
  rw [countF_app] at key
  refine ⟨_, key, ?_⟩
  have e : [] ++ (upto n.toNat).map (fun j => madeM b (rdl a.Rows (0 + j))) = a.Rows.map (madeM b) := by
    have := map_upto a.Rows (madeM b)
    rw [show a.Rows.length = n.toNat by omega] at this
    simpa using this
  show ∃ t, r03_canon.f (TFacts.mk (madeM b a.Gen) (id ([] ++ _))) t ∧ _
  rw [id, e]
  exact ⟨_, r03_canon.ok (by simp; omega), rfl⟩
theorem oneF_rng {n : Int} (h1 : n ≤ 64) : RngF (oneF n) := ⟨zero_InU, fun r hr => by
  simp only [oneF, List.mem_map] at hr
  obtain ⟨i, hi, rfl⟩ := hr
  have := upto_mem hi
  exact pow_InU (by omega)⟩
theorem upto_get {n j : Nat} : (upto n)[j]? = if j < n then some (j : Int) else none := by
  simp only [upto, List.getElem?_map]
  by_cases h : j < n
  · rw [List.getElem?_range h, if_pos h]; rfl
  · rw [List.getElem?_eq_none (by simp; omega), if_neg h]; rfl
theorem oneF_get {n : Int} {j : Nat} : (oneF n).Rows[j]? = if j < n.toNat then some (2 ^ j) else none := by
  simp only [oneF, List.getElem?_map, upto_get]
  split <;> simp
theorem oneF_ok {n : Int} (h0 : 0 ≤ n) (h1 : n ≤ 64) : factsOk n (oneF n) = true := by
  rw [factsOk_iff (oneF_rng h1) h0 h1]
  refine ⟨by simp [oneF, upto]; omega, fun i hi => (by rw [show (oneF n).Gen = 0 from rfl, has_zero] at hi; cases hi), fun r hr i hi => ?_, fun r hr i hi => has_zero i⟩
  simp only [oneF, List.mem_map] at hr
  obtain ⟨j, hj, rfl⟩ := hr
  have := upto_mem hj
  rw [has_pow] at hi
  simp at hi
  omega
/-- What is made by one is the same. -/
theorem made_one {n : Int} (h0 : 0 ≤ n) (h1 : n ≤ 64) {x : Int} (hx : InU x) (hn : ∀ i : Nat, hasI x i = true → (i : Int) < n) : madeM (oneF n) x = x := by
  refine ext64 (madeM_InU (oneF_rng h1) x) hx fun i hi => ?_
  rw [madeM_has (oneF_rng h1), Bool.eq_iff_iff, Bool.or_eq_true, anyB_iff]
  constructor
  · rintro (h | ⟨j, r, hj, hk, hr⟩)
    · rw [show (oneF n).Gen = 0 from rfl, has_zero] at h; cases h
    · rw [oneF_get] at hj
      split at hj
      · injection hj with hj
        subst hj
        rw [has_pow] at hr
        simp at hr
        subst hr
        simpa using hk
      · cases hj
  · intro h
    have := hn i h
    exact .inr ⟨i, 2 ^ i, by rw [oneF_get, if_pos (by omega)], by simpa using h, by rw [has_pow]; simp⟩
theorem then_oneF {n : Int} (h0 : 0 ≤ n) (h1 : n ≤ 64) {a : TFacts} (hra : RngF a) (ha : factsOk n a = true) : thenF a (oneF n) = a := by
  obtain ⟨_, hg, hrow, hc⟩ := (factsOk_iff hra h0 h1).1 ha
  have e : a.Rows.map (madeM (oneF n)) = a.Rows := by
    rw [show (a.Rows.map (madeM (oneF n)) = a.Rows) ↔ (a.Rows.map (madeM (oneF n)) = a.Rows.map id) by simp, List.map_inj_left]
    exact fun r hr => made_one h0 h1 (hra.2 r hr) (hrow r hr)
  unfold thenF
  rw [made_one h0 h1 hra.1 hg, e]
  have h9 := ha
  unfold factsOk factsEq at h9
  simp only [Bool.and_eq_true, beq_iff_eq, decide_eq_true_eq] at h9
  have h10 := h9.2.2.2.2
  show TFacts.mk a.Gen (canonM a).Rows = a
  rw [h10]
theorem one_thenF {n : Int} (h0 : 0 ≤ n) (h1 : n ≤ 64) {b : TFacts} (hrb : RngF b) (hb : factsOk n b = true) : thenF (oneF n) b = b := by
  obtain ⟨hl, hg, hrow, hc⟩ := (factsOk_iff hrb h0 h1).1 hb
  have e0 : madeM b 0 = b.Gen := by
    refine ext64 (madeM_InU hrb 0) hrb.1 fun i hi => ?_
    rw [madeM_has hrb]
    have : anyB 0 i b.Rows 0 = false := by
      rw [Bool.eq_false_iff]; intro h; rw [anyB_iff] at h
      obtain ⟨j, r, _, h2, _⟩ := h
      rw [has_zero] at h2; cases h2
    rw [this, Bool.or_false]
  have e1 : ∀ j : Nat, ∀ r, b.Rows[j]? = some r → bitOp .andNot .u64 (madeM b (2 ^ j)) b.Gen = r := by
    intro j r hj
    have hm := List.mem_of_getElem? hj
    refine ext64 (andNot_InU _ _) (hrb.2 r hm) fun i hi => ?_
    rw [has_andNot (madeM_InU hrb _) hrb.1 hi, madeM_has hrb]
    have : anyB (2 ^ j) i b.Rows 0 = hasI r i := by
      rw [Bool.eq_iff_iff, anyB_iff]
      constructor
      · rintro ⟨j', r', h1, h2, h3⟩
        rw [has_pow] at h2
        simp at h2
        subst h2
        rw [h1] at hj
        injection hj with hj
        rw [← hj]; exact h3
      · intro h
        exact ⟨j, r, hj, by rw [has_pow]; simp, h⟩
    rw [this]
    cases hgi : hasI b.Gen i with
    | true =>
      cases hri : hasI r i with
      | false => rfl
      | true => rw [hc r hm i hri] at hgi; cases hgi
    | false => simp
  unfold thenF
  rw [show (oneF n).Gen = 0 from rfl, e0]
  show TFacts.mk b.Gen _ = b
  have e2 : ((TFacts.mk b.Gen ((oneF n).Rows.map (madeM b))).Rows.map (fun r => bitOp .andNot .u64 r b.Gen)) = b.Rows := by
    apply List.ext_getElem?
    intro j
    simp only [List.map_map, List.getElem?_map, oneF_get]
    by_cases hj : j < n.toNat
    · rw [if_pos hj]
      have hlt : j < b.Rows.length := by omega
      have hg2 := List.getElem?_eq_getElem hlt
      rw [hg2]
      simp only [Option.map_some, Function.comp]
      rw [e1 j _ hg2]
    · rw [if_neg hj, List.getElem?_eq_none (by omega)]; rfl
  rw [e2]
end Go.RM.Try
namespace Go.RM.Try
open Go.RM
set_option linter.unusedVariables false
set_option linter.unusedSimpArgs false
def manyC : TCell := ⟨0, 2, 0⟩
/-- Two cells as one. -/
def joinC (a b : TCell) : TCell :=
  if a.Kind = 2 ∨ b.Kind = 2 then manyC
  else if a.Kind = 0 then ⟨bitOp .or .u64 a.From b.From, b.Kind, b.K⟩
  else if b.Kind = 1 ∧ a.K ≠ b.K then manyC
  else ⟨bitOp .or .u64 a.From b.From, a.Kind, a.K⟩
theorem r05_Joined.ok (a b : TCell) : r05_Joined.f a b (joinC a b) := by
  unfold r05_Joined.f joinC manyC
  by_cases h1 : a.Kind = 2 ∨ b.Kind = 2
  · rw [if_pos (by simpa using h1), if_pos h1]
  · rw [if_neg (by simpa using h1), if_neg h1]
    by_cases h2 : a.Kind = 0
    · rw [if_pos h2, if_pos h2]
    · rw [if_neg h2, if_neg h2]
      by_cases h3 : b.Kind = 1 ∧ a.K ≠ b.K
      · rw [if_pos (by simpa using h3), if_pos h3]
      · rw [if_neg (by simpa using h3), if_neg h3]
def behG (c : TCell) (i : Int) (x out : TCell) : TCell := if hasI c.From i.toNat = true then joinC out x else out
/-- A cell behind cells. -/
def behindM (a : List TCell) (c : TCell) : TCell := foldG (behG c) a 0 ⟨0, c.Kind, c.K⟩
theorem r05_behind.ok {a : List TCell} (hl : a.length ≤ maxLen) {c : TCell} (hc : InU c.From) : r05_behind.f a c (behindM a c) := by
  have key := foldGLoop (l := a) (b := r05_behind.b1 a c) (fun i (s : TCell) => (s.From, s.Kind, s.K, i)) (fun s => (s.From, s.Kind, s.K)) (behG c) (fun i s => True) (fun i s h0 h1 _ => by
    refine ⟨?_, trivial⟩
    unfold r05_behind.b1 r05_behind.j1
    simp only [h1, if_true]
    refine ⟨_, r01_Has.ok hc i, ?_⟩
    have hb : (inB i 64 && hasI c.From i.toNat) = hasI c.From i.toNat := by
      cases hh : hasI c.From i.toNat with
      | false => simp
      | true =>
        have : i < 64 := by
          apply Int.lt_of_not_ge; intro hge
          rw [hasI_high hc (by omega)] at hh; cases hh
        simp [inB, h0, this]
    rw [hb, wrap_len hl h0 h1]
    unfold behG
    cases hasI c.From i.toNat with
    | true => exact ⟨⟨h0, h1⟩, _, r05_Joined.ok _ _, rfl⟩
    | false => rfl) (fun s _ => by unfold r05_behind.b1; simp) ⟨0, c.Kind, c.K⟩ trivial
  exact ⟨_, key.1, rfl⟩
/-- Cells in range. -/
def RngC (c : TCell) : Prop := InU c.From ∧ (Lit.int .i64 c.K).wf = true
/-- A cell of n, as a proposition. -/
def CellP (n : Int) (c : TCell) : Prop := (∀ i : Nat, hasI c.From i = true → (i : Int) < n) ∧ ((c.Kind = 0 ∧ c.K = 0) ∨ c.Kind = 1 ∨ (c.Kind = 2 ∧ c.K = 0 ∧ c.From = 0))
theorem cellOk_iff {n : Int} (h0 : 0 ≤ n) (h1 : n ≤ 64) {c : TCell} (hc : InU c.From) : cellOk n c = true ↔ CellP n c := by
  unfold cellOk CellP
  rw [Bool.and_eq_true, beq_iff_eq, inside_iff hc h0 h1]
  refine and_congr_right fun _ => ?_
  by_cases k0 : c.Kind = 0
  · simp [k0]
  · by_cases k1 : c.Kind = 1
    · simp [k1]
    · by_cases k2 : c.Kind = 2
      · simp [k2]
      · simp [k0, k1, k2]
theorem many_ok (n : Int) : CellP n manyC := ⟨fun i hi => (by rw [show manyC.From = 0 from rfl, has_zero] at hi; cases hi), .inr (.inr ⟨rfl, rfl, rfl⟩)⟩
theorem joinC_InU (a b : TCell) : InU (joinC a b).From := by
  unfold joinC
  split
  · exact zero_InU
  · split
    · exact or_InU _ _
    · split
      · exact zero_InU
      · exact or_InU _ _
theorem joinC_ok {n : Int} {a b : TCell} (ua : InU a.From) (ub : InU b.From) (ha : CellP n a) (hb : CellP n b) : CellP n (joinC a b) := by
  have hor : ∀ i : Nat, hasI (bitOp .or .u64 a.From b.From) i = true → (i : Int) < n := fun i hi => by
    rw [has_or ua ub, Bool.or_eq_true] at hi
    rcases hi with hi | hi
    · exact ha.1 i hi
    · exact hb.1 i hi
  unfold joinC
  split
  · exact many_ok n
  · rename_i h2
    split
    · refine ⟨hor, ?_⟩
      rcases hb.2 with h | h | h
      · exact .inl h
      · exact .inr (.inl h)
      · exact (h2 (.inr h.1)).elim
    · split
      · exact many_ok n
      · refine ⟨hor, ?_⟩
        rcases ha.2 with h | h | h
        · exact .inl h
        · exact .inr (.inl h)
        · exact (h2 (.inl h.1)).elim
theorem joinC_K {a b : TCell} (ha : (Lit.int .i64 a.K).wf = true) (hb : (Lit.int .i64 b.K).wf = true) : (Lit.int .i64 (joinC a b).K).wf = true := by
  unfold joinC
  split
  · decide
  · split
    · exact hb
    · split
      · decide
      · exact ha
theorem start_ok {n : Int} {c : TCell} (hc : CellP n c) : CellP n ⟨0, c.Kind, c.K⟩ := by
  refine ⟨fun i hi => (by rw [show (TCell.mk 0 c.Kind c.K).From = 0 from rfl, has_zero] at hi; cases hi), ?_⟩
  rcases hc.2 with h | h | h
  · exact .inl h
  · exact .inr (.inl h)
  · exact .inr (.inr ⟨h.1, h.2.1, rfl⟩)
theorem behindM_ok {n : Int} {a : List TCell} {c : TCell} (ua : ∀ x ∈ a, RngC x) (ha : ∀ x ∈ a, CellP n x) (uc : RngC c) (hc : CellP n c) : CellP n (behindM a c) ∧ RngC (behindM a c) := by
  have := foldG_inv (g := behG c) (fun _ s => CellP n s ∧ RngC s) a 0 ⟨0, c.Kind, c.K⟩ (fun i s x hx h => by
    unfold behG
    split
    · exact ⟨joinC_ok h.2.1 (ua x hx).1 h.1 (ha x hx), joinC_InU _ _, joinC_K h.2.2 (ua x hx).2⟩
    · exact h) ⟨start_ok hc, zero_InU, uc.2⟩
  exact this
def thenC (a b : List TCell) : List TCell := b.map (behindM a)
/-- Weights in range, parts aside. -/
structure Rng1 (w : TWeight) : Prop where
  facts : RngF w.Facts
  cells : ∀ c ∈ w.Cells, RngC c
  cost : (Lit.int .i64 w.Cost).wf = true
def Rng (w : TWeight) : Prop := Rng1 w ∧ ∀ p ∈ w.Parts, Rng1 p
theorem TWeight.Fit.rng1 {w : TWeight} (h : w.Fit) : Rng1 w := by
  cases h with
  | mk _ h0 h1 h2 h3 h4 h5 h6 h7 h8 => exact ⟨h2.rng, fun c hc => ⟨wfu64 (h5 c hc).1, (h5 c hc).2.2⟩, h1⟩
theorem TWeight.Fit.rng {w : TWeight} (h : w.Fit) : Rng w := ⟨h.rng1, by
  cases h with
  | mk _ h0 h1 h2 h3 h4 h5 h6 h7 h8 => exact fun p hp => (h8 p hp).rng1⟩
def zeroW : TWeight := ⟨true, 0, ⟨0, []⟩, [], []⟩
def thenW1 (s : TSpace) (a b : TWeight) : TWeight :=
  if (a.Zero || b.Zero) = true then zeroW
  else if s.Tag = 2 then ⟨false, if s.Dim < a.Cost + b.Cost then s.Dim else a.Cost + b.Cost, ⟨0, []⟩, [], []⟩
  else if s.Tag = 3 then ⟨false, 0, thenF a.Facts b.Facts, [], []⟩
  else if s.Tag = 4 then ⟨false, 0, ⟨0, []⟩, thenC a.Cells b.Cells, []⟩
  else noneW
/-- What a weight of a space without parts is. -/
theorem isW1_cases {s : TSpace} {w : TWeight} (hs : spaceOk1 s = true) (h : isW1 s w = true) :
    w = zeroW ∨ (s.Tag = 1 ∧ w = noneW) ∨ (s.Tag = 2 ∧ w = ⟨false, w.Cost, ⟨0, []⟩, [], []⟩ ∧ 0 ≤ w.Cost ∧ w.Cost ≤ s.Dim) ∨ (s.Tag = 3 ∧ w = ⟨false, 0, w.Facts, [], []⟩ ∧ factsOk s.Dim w.Facts = true) ∨ (s.Tag = 4 ∧ w = ⟨false, 0, ⟨0, []⟩, w.Cells, []⟩ ∧ cellsOk s.Dim w.Cells = true) := by
  obtain ⟨Z, C, ⟨G, R⟩, L, P⟩ := w
  unfold isW1 plainB at h
  cases Z with
  | true => simp at h; left; simp [zeroW, h]
  | false =>
    rcases space1_cases hs with k | k | k | k
    · simp [k.1] at h
      right; left; exact ⟨k.1, by simp [noneW, h]⟩
    · simp [k.1] at h
      right; right; left; refine ⟨k.1, by simp [h], h.2⟩
    · simp [k.1] at h
      right; right; right; left; exact ⟨k.1, by simp [h], h.2⟩
    · simp [k.1] at h
      right; right; right; right; exact ⟨k.1, by simp [h], h.2⟩
theorem isW1_zero {s : TSpace} (hs : spaceOk1 s = true) : isW1 s zeroW = true := by simp [isW1, zeroW, plainB]
theorem isW1_none {s : TSpace} (h : s.Tag = 1) : isW1 s noneW = true := by simp [isW1, noneW, plainB, h]
theorem isW1_cost {s : TSpace} (h : s.Tag = 2) {c : Int} (h0 : 0 ≤ c) (h1 : c ≤ s.Dim) : isW1 s ⟨false, c, ⟨0, []⟩, [], []⟩ = true := by simp [isW1, plainB, h, h0, h1]
theorem isW1_facts {s : TSpace} (h : s.Tag = 3) {F : TFacts} (hF : factsOk s.Dim F = true) : isW1 s ⟨false, 0, F, [], []⟩ = true := by simp [isW1, plainB, h, hF]
theorem isW1_cells {s : TSpace} (h : s.Tag = 4) {l : List TCell} (hl : cellsOk s.Dim l = true) : isW1 s ⟨false, 0, ⟨0, []⟩, l, []⟩ = true := by simp [isW1, plainB, h, hl]
theorem zero_rng : Rng1 zeroW := ⟨⟨zero_InU, by simp [zeroW]⟩, by simp [zeroW], by decide⟩
theorem none_rng : Rng1 noneW := ⟨⟨zero_InU, by simp [noneW]⟩, by simp [noneW], by decide⟩
theorem cellsOk_iff {n : Int} {l : List TCell} (h0 : 0 ≤ n) (h1 : n ≤ 64) (hr : ∀ c ∈ l, RngC c) : cellsOk n l = true ↔ (l.length : Int) = n ∧ ∀ c ∈ l, CellP n c := by
  unfold cellsOk
  rw [Bool.and_eq_true, List.all_eq_true, beq_iff_eq]
  refine and_congr_right fun _ => ⟨fun h c hc => (cellOk_iff h0 h1 (hr c hc).1).1 (h c hc), fun h c hc => (cellOk_iff h0 h1 (hr c hc).1).2 (h c hc)⟩
theorem wf_small {x : Int} (h0 : 0 ≤ x) (h1 : x ≤ 1048576) : (Lit.int .i64 x).wf = true := by
  simp [Lit.wf, IntKind.min, IntKind.max, IntKind.bits, IntKind.signed]; omega
/-- What follows is a weight again. -/
theorem thenW1_ok {s : TSpace} {a b : TWeight} (hs : spaceOk1 s = true) (ha : isW1 s a = true) (hb : isW1 s b = true) (ra : Rng1 a) (rb : Rng1 b) : isW1 s (thenW1 s a b) = true ∧ Rng1 (thenW1 s a b) := by
  unfold thenW1
  rcases isW1_cases hs ha with h | h | h | h | h
  · subst h; simp only [zeroW, Bool.true_or, if_true]; exact ⟨isW1_zero hs, zero_rng⟩
  all_goals
    rcases isW1_cases hs hb with k | k | k | k | k
    · subst k; simp only [zeroW, Bool.or_true, if_true]; exact ⟨isW1_zero hs, zero_rng⟩
    all_goals first | (exfalso; omega) | skip
  · rw [h.2, k.2]
    simp only [noneW, Bool.or_self, Bool.false_eq_true, if_false, h.1, Int.reduceEq]
    exact ⟨isW1_none h.1, none_rng⟩
  · rw [h.2.1, k.2.1]
    simp only [Bool.or_self, Bool.false_eq_true, if_false, h.1, Int.reduceEq, if_true]
    rcases space1_cases hs with q | q | q | q
    · omega
    · have : 0 ≤ (if s.Dim < a.Cost + b.Cost then s.Dim else a.Cost + b.Cost) ∧ (if s.Dim < a.Cost + b.Cost then s.Dim else a.Cost + b.Cost) ≤ s.Dim := by split <;> omega
      exact ⟨isW1_cost h.1 this.1 this.2, ⟨zero_InU, by simp⟩, by simp, wf_small this.1 (Int.le_trans this.2 (by omega))⟩
    · omega
    · omega
  · rw [h.2.1, k.2.1]
    simp only [Bool.or_self, Bool.false_eq_true, if_false, h.1, Int.reduceEq, if_true]
    rcases space1_cases hs with q | q | q | q
    · omega
    · omega
    · exact ⟨isW1_facts h.1 (thenF_ok q.2.1 q.2.2 rb.facts h.2.2 k.2.2 ra.facts), thenF_rng rb.facts, by simp, wf_small (x := 0) (Int.le_refl 0) (by decide)⟩
    · omega
  · rw [h.2.1, k.2.1]
    simp only [Bool.or_self, Bool.false_eq_true, if_false, h.1, Int.reduceEq, if_true]
    rcases space1_cases hs with q | q | q | q
    · omega
    · omega
    · omega
    · have ca := (cellsOk_iff q.2.1 q.2.2 ra.cells).1 h.2.2
      have cb := (cellsOk_iff q.2.1 q.2.2 rb.cells).1 k.2.2
      have hall : ∀ c ∈ thenC a.Cells b.Cells, CellP s.Dim c ∧ RngC c := by
        intro c hc
        simp only [thenC, List.mem_map] at hc
        obtain ⟨x, hx, rfl⟩ := hc
        exact behindM_ok ra.cells ca.2 (rb.cells x hx) (cb.2 x hx)
      exact ⟨isW1_cells h.1 ((cellsOk_iff q.2.1 q.2.2 (fun c hc => (hall c hc).2)).2 ⟨by simp [thenC, cb.1], fun c hc => (hall c hc).1⟩), ⟨zero_InU, by simp⟩, fun c hc => (hall c hc).2, wf_small (x := 0) (Int.le_refl 0) (by decide)⟩
end Go.RM.Try
namespace Go.RM.Try
open Go.RM
set_option linter.unusedVariables false
set_option linter.unusedSimpArgs false
theorem r05_Then.step1 {self : TSpace → TWeight → TWeight → TWeight → Prop} {s : TSpace} {a b : TWeight} (hs : spaceOk1 s = true) (ha : isW1 s a = true) (hb : isW1 s b = true) (ra : Rng1 a) (rb : Rng1 b) : r05_Then.step self s a b (thenW1 s a b) := by
  unfold r05_Then.step thenW1
  by_cases hz : (a.Zero || b.Zero) = true
  · rw [if_pos hz, if_pos hz]; rfl
  · rw [if_neg hz, if_neg hz]
    rcases space1_cases hs with q | q | q | q
    · simp only [q.1, Int.reduceEq, if_false]; rfl
    · simp only [q.1, Int.reduceEq, if_true, if_false]
      rcases isW1_cases hs ha with h | h | h | h | h
      · subst h; simp [zeroW] at hz
      · omega
      · rcases isW1_cases hs hb with k | k | k | k | k
        · subst k; simp [zeroW] at hz
        · omega
        · rw [wrap64 (by omega) (by omega)]
        · omega
        · omega
      · omega
      · omega
    · simp only [q.1, Int.reduceEq, if_true, if_false]
      rcases isW1_cases hs ha with h | h | h | h | h
      · subst h; simp [zeroW] at hz
      · omega
      · omega
      · rcases isW1_cases hs hb with k | k | k | k | k
        · subst k; simp [zeroW] at hz
        · omega
        · omega
        · exact ⟨_, r03_Extend.ok q.2.1 q.2.2 ra.facts rb.facts h.2.2 k.2.2, rfl⟩
        · omega
      · omega
    · simp only [q.1, Int.reduceEq, if_true, if_false]
      rcases isW1_cases hs ha with h | h | h | h | h
      · subst h; simp [zeroW] at hz
      · omega
      · omega
      · omega
      · rcases isW1_cases hs hb with k | k | k | k | k
        · subst k; simp [zeroW] at hz
        · omega
        · omega
        · omega
        · have ca := (cellsOk_iff q.2.1 q.2.2 ra.cells).1 h.2.2
          have cb := (cellsOk_iff q.2.1 q.2.2 rb.cells).1 k.2.2
          have key := (countLoop (n := s.Dim) (b := r05_Then.b1 s a b) (fun i l => (l, i)) id (fun i acc => .go (acc ++ [behindM a.Cells (rdl b.Cells i)])) (fun i l => (l.length : Int) = i) (fun i l i0 i1 hi => by
            refine ⟨?_, by simp; omega⟩
            unfold r05_Then.b1
            simp only [i1, if_true]
            exact ⟨⟨i0, by omega⟩, _, r05_behind.ok (by unfold maxLen; omega) (rb.cells _ (rdl_mem i0 (by omega))).1, by unfold Fits; omega, by rw [wrap64 (by omega) (by omega)]⟩) (fun l hl => by unfold r05_Then.b1; simp) [] q.2.1 rfl).1
          rw [countF_app] at key
          refine ⟨_, key, ?_⟩
          have e : [] ++ (upto s.Dim.toNat).map (fun j => behindM a.Cells (rdl b.Cells (0 + j))) = thenC a.Cells b.Cells := by
            have := map_upto b.Cells (behindM a.Cells)
            rw [show b.Cells.length = s.Dim.toNat by omega] at this
            simpa [thenC] using this
          show TWeight.mk false 0 ⟨0, []⟩ _ [] = TWeight.mk false 0 ⟨0, []⟩ (id ([] ++ _)) []
          rw [id, e]
def thenW (s : TSpace) (a b : TWeight) : TWeight :=
  if s.Tag = 5 then ⟨false, 0, ⟨0, []⟩, [], [thenW1 (rdl s.Parts 0) (rdl a.Parts 0) (rdl b.Parts 0), thenW1 (rdl s.Parts 1) (rdl a.Parts 1) (rdl b.Parts 1)]⟩
  else thenW1 s a b
/-- What a weight of a pair is. -/
theorem isW_pair {s : TSpace} {w : TWeight} (h5 : s.Tag = 5) (h : isW s w = true) : ∃ x y, w = ⟨false, 0, ⟨0, []⟩, [], [x, y]⟩ ∧ isW1 (rdl s.Parts 0) x = true ∧ isW1 (rdl s.Parts 1) y = true := by
  obtain ⟨Z, C, ⟨G, R⟩, L, P⟩ := w
  unfold isW plainB at h
  rw [if_pos h5] at h
  simp only [Bool.and_eq_true, Bool.not_eq_true', Bool.false_or, beq_iff_eq, Bool.true_or] at h
  obtain ⟨hz, ⟨hc, ⟨hg, hr⟩, hl, _⟩, h2, ha, hb⟩ := h
  match P, h2 with
  | [x, y], _ => exact ⟨x, y, by simp only [hz, hc, hg]; simp at hr hl; simp [hr, hl], ha, hb⟩
theorem isW_mk {s : TSpace} {x y : TWeight} (h5 : s.Tag = 5) (hx : isW1 (rdl s.Parts 0) x = true) (hy : isW1 (rdl s.Parts 1) y = true) : isW s ⟨false, 0, ⟨0, []⟩, [], [x, y]⟩ = true := by
  unfold isW plainB
  rw [if_pos h5]
  simp [rdl0, rdl1, hx, hy]
theorem pair_rng {x y : TWeight} (hx : Rng1 x) (hy : Rng1 y) : Rng ⟨false, 0, ⟨0, []⟩, [], [x, y]⟩ := ⟨⟨⟨zero_InU, by simp⟩, by simp, wf_small (x := 0) (Int.le_refl 0) (by decide)⟩, by intro p hp; simp at hp; rcases hp with rfl | rfl <;> assumption⟩
theorem thenW_ne {s : TSpace} {a b : TWeight} (h : s.Tag ≠ 5) : thenW s a b = thenW1 s a b := by unfold thenW; rw [if_neg h]
theorem space_p0 {s : TSpace} (h : spaceOk s = true) (h5 : s.Tag = 5) : spaceOk1 (rdl s.Parts 0) = true ∧ spaceOk1 (rdl s.Parts 1) = true ∧ s.Parts.length = 2 := by
  obtain ⟨a, b, hp, ha, hb, _⟩ := space_parts h h5
  rw [hp]; exact ⟨ha, hb, rfl⟩
theorem isW1_noparts {s : TSpace} {w : TWeight} (hs : spaceOk1 s = true) (h : isW1 s w = true) (r : Rng1 w) : Rng w := ⟨r, by rw [isW1_parts h]; simp⟩
theorem thenW_ok {s : TSpace} {a b : TWeight} (hs : spaceOk s = true) (ha : isW s a = true) (hb : isW s b = true) (ra : Rng a) (rb : Rng b) : isW s (thenW s a b) = true ∧ Rng (thenW s a b) := by
  by_cases h5 : s.Tag = 5
  · obtain ⟨p0, p1, _⟩ := space_p0 hs h5
    obtain ⟨x, y, rfl, hx, hy⟩ := isW_pair h5 ha
    obtain ⟨z, w, rfl, hz, hw⟩ := isW_pair h5 hb
    unfold thenW
    rw [if_pos h5]
    have k0 := thenW1_ok p0 hx hz (ra.2 x (.head _)) (rb.2 z (.head _))
    have k1 := thenW1_ok p1 hy hw (ra.2 y (.tail _ (.head _))) (rb.2 w (.tail _ (.head _)))
    exact ⟨isW_mk h5 k0.1 k1.1, pair_rng k0.2 k1.2⟩
  · have h1 : spaceOk1 s = true := by rw [← spaceOk_ne h5]; exact hs
    rw [isW_ne h5] at ha hb
    rw [thenW_ne h5, isW_ne h5]
    have := thenW1_ok h1 ha hb ra.1 rb.1
    exact ⟨this.1, isW1_noparts h1 this.1 this.2⟩
theorem r05_Then.ok {s : TSpace} {a b : TWeight} (hs : spaceOk s = true) (ha : isW s a = true) (hb : isW s b = true) (ra : Rng a) (rb : Rng b) : r05_Then.f s a b (thenW s a b) := by
  refine ⟨2, ?_⟩
  by_cases h5 : s.Tag = 5
  · obtain ⟨p0, p1, p2⟩ := space_p0 hs h5
    obtain ⟨x, y, rfl, hx, hy⟩ := isW_pair h5 ha
    obtain ⟨z, w, rfl, hz, hw⟩ := isW_pair h5 hb
    show r05_Then.step (r05_Then.fN 1) s _ _ _
    unfold r05_Then.step thenW
    simp only [h5, Int.reduceEq, if_true, if_false, Bool.or_self, Bool.false_eq_true]
    refine ⟨⟨by decide, by omega⟩, ⟨by decide, by simp⟩, ⟨by decide, by simp⟩, _, r05_Then.step1 (self := r05_Then.fN 0) p0 hx hz (ra.2 x (.head _)) (rb.2 z (.head _)), ⟨by decide, by omega⟩, ⟨by decide, by simp⟩, ⟨by decide, by simp⟩, _, r05_Then.step1 (self := r05_Then.fN 0) p1 hy hw (ra.2 y (.tail _ (.head _))) (rb.2 w (.tail _ (.head _))), rfl⟩
  · have h1 : spaceOk1 s = true := by rw [← spaceOk_ne h5]; exact hs
    rw [isW_ne h5] at ha hb
    rw [thenW_ne h5]
    exact r05_Then.step1 h1 ha hb ra.1 rb.1
theorem oneW1_ok {s : TSpace} (hs : spaceOk1 s = true) : isW1 s (oneW1 s) = true ∧ Rng1 (oneW1 s) := by
  unfold oneW1
  rcases space1_cases hs with q | q | q | q
  · simp only [q.1, Int.reduceEq, if_false]; exact ⟨isW1_none q.1, none_rng⟩
  · simp only [q.1, Int.reduceEq, if_false]; exact ⟨isW1_cost q.1 (Int.le_refl 0) q.2.1, none_rng⟩
  · simp only [q.1, Int.reduceEq, if_true, if_false]
    exact ⟨isW1_facts q.1 (oneF_ok q.2.1 q.2.2), oneF_rng q.2.2, by simp, wf_small (x := 0) (Int.le_refl 0) (by decide)⟩
  · simp only [q.1, Int.reduceEq, if_true, if_false]
    have hr : ∀ c ∈ oneC s.Dim, RngC c := by
      intro c hc
      simp only [oneC, List.mem_map] at hc
      obtain ⟨i, hi, rfl⟩ := hc
      have := upto_mem hi
      exact ⟨pow_InU (by omega), wf_small (x := 0) (Int.le_refl 0) (by decide)⟩
    refine ⟨isW1_cells q.1 ((cellsOk_iff q.2.1 q.2.2 hr).2 ⟨by simp [oneC, upto]; omega, fun c hc => ?_⟩), ⟨zero_InU, by simp⟩, hr, wf_small (x := 0) (Int.le_refl 0) (by decide)⟩
    simp only [oneC, List.mem_map] at hc
    obtain ⟨i, hi, rfl⟩ := hc
    have := upto_mem hi
    refine ⟨fun j hj => ?_, .inl ⟨rfl, rfl⟩⟩
    rw [has_pow] at hj
    simp at hj
    omega
theorem oneW_ok {s : TSpace} (hs : spaceOk s = true) : isW s (oneW s) = true ∧ Rng (oneW s) := by
  by_cases h5 : s.Tag = 5
  · obtain ⟨p0, p1, _⟩ := space_p0 hs h5
    unfold oneW
    rw [if_pos h5]
    exact ⟨isW_mk h5 (oneW1_ok p0).1 (oneW1_ok p1).1, pair_rng (oneW1_ok p0).2 (oneW1_ok p1).2⟩
  · have h1 : spaceOk1 s = true := by rw [← spaceOk_ne h5]; exact hs
    rw [oneW_ne h5, isW_ne h5]
    exact ⟨(oneW1_ok h1).1, isW1_noparts h1 (oneW1_ok h1).1 (oneW1_ok h1).2⟩
def extW (s : TSpace) (l : List TWeight) : TWeight := foldG (fun _ x w => thenW s w x) l 0 (oneW s)
theorem r05_Extend.ok {s : TSpace} {l : List TWeight} (hs : spaceOk s = true) (hp : s.Parts.length ≤ maxLen) (hl : l.length ≤ maxLen) (hz : ∀ w ∈ l, w.Sized2) (hw : ∀ w ∈ l, isW s w = true) (hr : ∀ w ∈ l, Rng w) : r05_Extend.f s l (extW s l, 0) := by
  have ha := r05_all.ok hp hl hz
  unfold allC at ha
  rw [if_pos hs, if_pos (List.all_eq_true.2 hw)] at ha
  refine ⟨_, ha, ?_⟩
  rw [if_pos rfl]
  refine ⟨_, r05_one.ok hs, ?_⟩
  have key := (foldGLoop (l := l) (b := r05_Extend.b1 s l) (fun i (w : TWeight) => (w.Zero, w.Cost, w.Facts.Gen, w.Facts.Rows, w.Cells, w.Parts, i)) (fun w => (w.Zero, w.Cost, w.Facts.Gen, w.Facts.Rows, w.Cells, w.Parts)) (fun _ x w => thenW s w x) (fun _ w => isW s w = true ∧ Rng w) (fun i w h0 h1 hi => by
    have hm := rdl_mem h0 h1
    refine ⟨?_, thenW_ok hs hi.1 (hw _ hm) hi.2 (hr _ hm)⟩
    unfold r05_Extend.b1
    simp only [h1, if_true, TWeight.eta]
    exact ⟨⟨h0, h1⟩, _, r05_Then.ok hs hi.1 (hw _ hm) hi.2 (hr _ hm), by rw [wrap_len hl h0 h1]⟩) (fun w _ => by unfold r05_Extend.b1; simp) (oneW s) (oneW_ok hs)).1
  refine ⟨_, key, ?_⟩
  simp only [Fin.on, TWeight.eta]
  rfl
end Go.RM.Try
namespace Go.RM.Try
open Go.RM
set_option linter.unusedVariables false
set_option linter.unusedSimpArgs false
theorem foldG_invI {α σ : Type} {g : Int → α → σ → σ} (P : Int → σ → Prop) : ∀ (l : List α) (i : Int) (s : σ), (∀ (j : Nat) x s, l[j]? = some x → P (i + j) s → P (i + j + 1) (g (i + j) x s)) → P i s → P (i + l.length) (foldG g l i s)
  | [], i, s, h, hs => by simpa [foldG] using hs
  | x :: l, i, s, h, hs => by
    have h0 := h 0 x s rfl (by simpa using hs)
    simp only [Int.ofNat_zero, Int.add_zero, Int.natCast_zero] at h0
    have := foldG_invI P l (i + 1) (g i x s) (fun j y s hy hp => by
      have := h (j + 1) y s (by simpa using hy) (by rw [show i + ((j + 1 : Nat) : Int) = i + 1 + j by omega]; exact hp)
      rw [show i + ((j + 1 : Nat) : Int) = i + 1 + j by omega] at this
      exact this) h0
    have e : i + ((x :: l).length : Int) = i + 1 + l.length := by simp; omega
    rw [e]; exact this
theorem join_start {n : Int} {a : TCell} (ha : CellP n a) (ua : InU a.From) : joinC ⟨0, 0, 0⟩ a = a := by
  unfold joinC manyC
  obtain ⟨F, K, k⟩ := a
  by_cases h2 : K = 2
  · rcases ha.2 with h | h | h
    · simp at h; omega
    · simp at h; omega
    · simp at h; simp [h]
  · have e : bitOp .or .u64 0 F = F := ext64 (or_InU _ _) ua fun i _ => by rw [has_or zero_InU ua, has_zero]; rfl
    simp [h2, e]
theorem behind_single {l : List TCell} {j : Nat} {c : TCell} : ∀ (i : Nat) (s : TCell), c.From = 2 ^ j → foldG (behG c) l (i : Int) s = if h : i ≤ j ∧ j - i < l.length then joinC s (l[j - i]'h.2) else s := by
  induction l with
  | nil => intro i s _; simp [foldG]
  | cons x l ih =>
    intro i s hc
    unfold foldG
    rw [show ((i : Int) + 1) = ((i + 1 : Nat) : Int) by simp, ih (i + 1) _ hc]
    unfold behG
    rw [show ((i : Nat) : Int).toNat = i by simp, hc, has_pow]
    by_cases hij : j = i
    · subst hij
      rw [dif_neg (by omega), dif_pos ⟨Nat.le_refl _, by simp⟩]
      simp
    · rw [decide_eq_false hij]
      simp only [Bool.false_eq_true, if_false]
      by_cases h : i + 1 ≤ j ∧ j - (i + 1) < l.length
      · rw [dif_pos h, dif_pos ⟨by omega, by simp; omega⟩]
        congr 1
        obtain ⟨d, hd⟩ : ∃ d, j = i + 1 + d := ⟨j - (i + 1), by omega⟩
        subst hd
        simp only [show i + 1 + d - (i + 1) = d by omega, show i + 1 + d - i = d + 1 by omega]
        rfl
      · rw [dif_neg h, dif_neg (by simp; omega)]
theorem oneC_get {n : Int} {j : Nat} : (oneC n)[j]? = if j < n.toNat then some ⟨2 ^ j, 0, 0⟩ else none := by
  simp only [oneC, List.getElem?_map, upto_get]
  split <;> simp
theorem then_oneC {n : Int} {a : List TCell} (hl : (a.length : Int) = n) (hu : ∀ c ∈ a, RngC c) (ha : ∀ c ∈ a, CellP n c) : thenC a (oneC n) = a := by
  apply List.ext_getElem?
  intro j
  simp only [thenC, List.getElem?_map, oneC_get]
  by_cases hj : j < n.toNat
  · rw [if_pos hj]
    have hlt : j < a.length := by omega
    have hm := List.getElem_mem hlt
    rw [List.getElem?_eq_getElem hlt]
    simp only [Option.map_some]
    unfold behindM
    have := behind_single (l := a) (j := j) (c := ⟨2 ^ j, 0, 0⟩) 0 ⟨0, 0, 0⟩ rfl
    simp only [Int.natCast_zero] at this
    rw [this, dif_pos ⟨by omega, by simpa using hlt⟩]
    simp only [Nat.sub_zero]
    rw [join_start (ha _ hm) (hu _ hm).1]
  · rw [if_neg hj, List.getElem?_eq_none (by omega)]; rfl
theorem behind_one {n : Int} (h0 : 0 ≤ n) (h1 : n ≤ 64) {c : TCell} (uc : RngC c) (hc : CellP n c) : behindM (oneC n) c = c := by
  have key := foldG_invI (g := behG c) (fun i s => s.Kind = c.Kind ∧ s.K = c.K ∧ InU s.From ∧ ∀ k : Nat, hasI s.From k = (hasI c.From k && decide ((k : Int) < i))) (oneC n) 0 ⟨0, c.Kind, c.K⟩ (fun j x s hx h => by
    rw [oneC_get] at hx
    split at hx
    · rename_i hj
      injection hx with hx
      subst hx
      unfold behG
      obtain ⟨hk, hK, hu, hb⟩ := h
      rw [show ((0 : Int) + (j : Int)).toNat = j by simp]
      cases hh : hasI c.From j with
      | false =>
        simp only [Bool.false_eq_true, if_false]
        refine ⟨hk, hK, hu, fun k => ?_⟩
        rw [hb k]
        by_cases hkj : k = j
        · subst hkj; simp [hh]
        · congr 1; rw [decide_eq_decide]; omega
      | true =>
        simp only [if_true]
        have hn2 : c.Kind ≠ 2 := by
          intro h2
          rcases hc.2 with q | q | q
          · omega
          · omega
          · rw [q.2.2, has_zero] at hh; cases hh
        have hor : ∀ k : Nat, hasI (bitOp .or .u64 s.From (2 ^ j)) k = (hasI c.From k && decide ((k : Int) < 0 + j + 1)) := fun k => by
          rw [has_or hu (pow_InU (by omega)), has_pow, hb k]
          by_cases hkj : j = k
          · subst hkj; simp [hh]; omega
          · have : decide ((k : Int) < 0 + j) = decide ((k : Int) < 0 + j + 1) := by rw [decide_eq_decide]; omega
            rw [this, decide_eq_false hkj, Bool.or_false]
        unfold joinC
        rw [if_neg (by rw [hk]; simp; exact hn2)]
        by_cases hz : s.Kind = 0
        · rw [if_pos hz]
          rcases hc.2 with q | q | q
          · exact ⟨q.1.symm, q.2.symm, or_InU _ _, hor⟩
          · omega
          · omega
        · rw [if_neg hz, if_neg (by simp)]
          exact ⟨hk, hK, or_InU _ _, hor⟩
    · cases hx) ⟨rfl, rfl, zero_InU, fun k => by
      rw [has_zero]
      have : ¬ ((k : Int) < 0) := by omega
      rw [decide_eq_false this, Bool.and_false]⟩
  obtain ⟨hk, hK, hu, hb⟩ := key
  show foldG (behG c) (oneC n) 0 ⟨0, c.Kind, c.K⟩ = c
  have hF : (foldG (behG c) (oneC n) 0 ⟨0, c.Kind, c.K⟩).From = c.From := by
    refine ext64 hu uc.1 fun k hk64 => ?_
    rw [hb k]
    cases hh : hasI c.From k with
    | false => rfl
    | true =>
      have h9 := hc.1 k hh
      simp [oneC, upto]; omega
  generalize foldG (behG c) (oneC n) 0 ⟨0, c.Kind, c.K⟩ = r at hk hK hF
  obtain ⟨a, b, d⟩ := r
  obtain ⟨x, y, z⟩ := c
  simp only at hk hK hF
  rw [hk, hK, hF]
theorem one_thenC {n : Int} (h0 : 0 ≤ n) (h1 : n ≤ 64) {b : List TCell} (hu : ∀ c ∈ b, RngC c) (hb : ∀ c ∈ b, CellP n c) : thenC (oneC n) b = b := by
  unfold thenC
  rw [show (b.map (behindM (oneC n)) = b) ↔ (b.map (behindM (oneC n)) = b.map id) by simp, List.map_inj_left]
  exact fun c hc => behind_one h0 h1 (hu c hc) (hb c hc)
theorem then_one1 {s : TSpace} {w : TWeight} (hs : spaceOk1 s = true) (h : isW1 s w = true) (r : Rng1 w) : thenW1 s w (oneW1 s) = w ∧ thenW1 s (oneW1 s) w = w := by
  unfold thenW1 oneW1
  rcases isW1_cases hs h with k | k | k | k | k
  · subst k; exact ⟨by simp [zeroW], by simp [zeroW]⟩
  · rw [k.2]; simp [k.1, noneW]
  · rw [k.2.1]
    simp only [k.1, Int.reduceEq, if_true, if_false, noneW, Bool.or_self, Bool.false_eq_true]
    constructor
    · congr 1; split <;> omega
    · congr 1; split <;> omega
  · rcases space1_cases hs with q | q | q | q
    · omega
    · omega
    · have e1 := then_oneF q.2.1 q.2.2 r.facts k.2.2
      have e2 := one_thenF q.2.1 q.2.2 r.facts k.2.2
      generalize hF : w.Facts = F at *
      rw [k.2.1]
      simp [k.1, e1, e2]
    · omega
  · rcases space1_cases hs with q | q | q | q
    · omega
    · omega
    · omega
    · have hc := (cellsOk_iff q.2.1 q.2.2 r.cells).1 k.2.2
      have e1 := then_oneC hc.1 r.cells hc.2
      have e2 := one_thenC q.2.1 q.2.2 r.cells hc.2
      generalize hF : w.Cells = F at *
      rw [k.2.1]
      simp [k.1, e1, e2]
theorem then_one {s : TSpace} {w : TWeight} (hs : spaceOk s = true) (h : isW s w = true) (r : Rng w) : thenW s w (oneW s) = w ∧ thenW s (oneW s) w = w := by
  by_cases h5 : s.Tag = 5
  · obtain ⟨p0, p1, _⟩ := space_p0 hs h5
    obtain ⟨x, y, rfl, hx, hy⟩ := isW_pair h5 h
    have e0 := then_one1 p0 hx (r.2 x (.head _))
    have e1 := then_one1 p1 hy (r.2 y (.tail _ (.head _)))
    unfold thenW oneW
    rw [if_pos h5, if_pos h5, if_pos h5]
    simp [rdl0, rdl1, e0, e1]
  · have h1 : spaceOk1 s = true := by rw [← spaceOk_ne h5]; exact hs
    rw [isW_ne h5] at h
    rw [oneW_ne h5, thenW_ne h5, thenW_ne h5]
    exact then_one1 h1 h r.1
end Go.RM.Try
namespace Go.RM.Try
open Go.RM
set_option linter.unusedVariables false
set_option linter.unusedSimpArgs false
/-- A short system's rows, side by side. -/
def Trips (out : TShorted) (T : List (TRule × Int × Bool)) : Prop := out.Pds.Rules = T.map (fun t => t.1) ∧ out.Rule = T.map (fun t => t.2.1) ∧ out.First = T.map (fun t => t.2.2)
theorem Trips.put {out : TShorted} {T : List (TRule × Int × Bool)} (h : Trips out T) (r : TRule) (n : Int) (f : Bool) : Trips (putS out r n f) (T ++ [(r, n, f)]) := by
  obtain ⟨a, b, c⟩ := h
  exact ⟨by simp [putS, a], by simp [putS, b], by simp [putS, c]⟩
def headT (n : Int) (s : TShorted × TRule × Bool) : TRule × Int × Bool := (⟨s.2.1.P, s.2.1.G, s.1.Pds.States, [s.1.Pds.Symbols, rdl s.2.1.W ((s.2.1.W.length : Int) - 1)], s.2.1.F⟩, n, s.2.2)
def chainT (one : TWeight) (n : Int) : Nat → TShorted × TRule × Bool → List (TRule × Int × Bool)
  | 0, s => [(s.2.1, n, s.2.2)]
  | k + 1, s => headT n s :: chainT one n k (stepS one n s)
theorem chainT_n (one : TWeight) (n : Int) : ∀ (k : Nat) (s : TShorted × TRule × Bool), ∀ t ∈ chainT one n k s, t.2.1 = n
  | 0, s, t, h => by simp [chainT] at h; subst h; rfl
  | k + 1, s, t, h => by
    rcases List.mem_cons.mp h with rfl | h
    · rfl
    · exact chainT_n one n k _ t h
theorem Trips.chain (one : TWeight) (n : Int) : ∀ (k : Nat) (s : TShorted × TRule × Bool) (T : List (TRule × Int × Bool)), Trips s.1 T → Trips (putS (shortP one n k s).1 (shortP one n k s).2.1 n (shortP one n k s).2.2) (T ++ chainT one n k s)
  | 0, s, T, h => h.put _ _ _
  | k + 1, s, T, h => by
    have h1 : Trips (stepS one n s).1 (T ++ [headT n s]) := Trips.put (out := moreS s.1) h _ _ _
    have := Trips.chain one n k (stepS one n s) _ h1
    rw [List.append_assoc] at this
    exact this
theorem Trips.K {one : TWeight} {n : Int} {r : TRule} {out : TShorted} {T : List (TRule × Int × Bool)} (h : Trips out T) : Trips (shortK one n r out) (T ++ chainT one n (r.W.length - 2) (out, r, true)) :=
  Trips.chain one n (r.W.length - 2) (out, r, true) T h
theorem shortM_trips {one : TWeight} {p : TPds} {n : Int} (n0 : 0 ≤ n) (n1 : n < p.Rules.length) : ∃ A s B, Trips (shortM one p) (A ++ (chainT one n ((rdl p.Rules n).W.length - 2) (s, rdl p.Rules n, true) ++ B)) ∧ (∀ t ∈ A, t.2.1 ≠ n) ∧ (∀ t ∈ B, t.2.1 ≠ n) := by
  have := foldG_invI (g := fun i r out => shortK one i r out) (fun i out => ∃ T, Trips out T ∧ (i ≤ n → ∀ t ∈ T, t.2.1 ≠ n) ∧ (n < i → ∃ A s B, T = A ++ (chainT one n ((rdl p.Rules n).W.length - 2) (s, rdl p.Rules n, true) ++ B) ∧ (∀ t ∈ A, t.2.1 ≠ n) ∧ (∀ t ∈ B, t.2.1 ≠ n))) p.Rules 0 ⟨⟨p.Space, p.States, p.Symbols, []⟩, [], []⟩ (fun j x out hx h => by
    obtain ⟨T, hT, ha, hb⟩ := h
    refine ⟨_, hT.K (one := one) (n := 0 + j) (r := x), fun hi t ht => ?_, fun hi => ?_⟩
    · rcases List.mem_append.mp ht with ht | ht
      · exact ha (by omega) t ht
      · rw [chainT_n _ _ _ _ t ht]; omega
    · by_cases hj : (0 : Int) + j = n
      · have hx2 : rdl p.Rules n = x := by
          have := rdl_get (l := p.Rules) n0 n1
          rw [show n.toNat = j by omega, hx] at this
          injection this with this; exact this.symm
        refine ⟨T, out, [], ?_, ha (by omega), by simp⟩
        rw [hx2, hj]; simp
      · obtain ⟨A, s, B, hT2, h1, h2⟩ := hb (by omega)
        refine ⟨A, s, B ++ chainT one (0 + j) (x.W.length - 2) (out, x, true), by rw [hT2]; simp, h1, fun t ht => ?_⟩
        rcases List.mem_append.mp ht with ht | ht
        · exact h2 t ht
        · rw [chainT_n _ _ _ _ t ht]; exact hj) ⟨[], ⟨rfl, rfl, rfl⟩, by simp, fun h => by omega⟩
  obtain ⟨T, hT, _, h⟩ := this
  obtain ⟨A, s, B, rfl, h1, h2⟩ := h (by omega)
  exact ⟨A, s, B, hT, h1, h2⟩
theorem shortM_len (one : TWeight) (p : TPds) : p.Rules.length ≤ (shortM one p).Pds.Rules.length := by
  have hk : ∀ (n : Int) (k : Nat) (s : TShorted × TRule × Bool), s.1.Pds.Rules.length ≤ (shortP one n k s).1.Pds.Rules.length := by
    intro n k
    induction k with
    | zero => intro s; exact Nat.le_refl _
    | succ k ih => intro s; exact Nat.le_trans (by simp [stepS, putS, moreS]) (ih (stepS one n s))
  have := foldG_inv (g := fun i r out => shortK one i r out) (fun i (out : TShorted) => i ≤ out.Pds.Rules.length) p.Rules 0 ⟨⟨p.Space, p.States, p.Symbols, []⟩, [], []⟩ (fun i s x hx h => by
    have := hk i (x.W.length - 2) (s, x, true)
    simp only [shortK, putS, List.length_append, List.length_singleton] at this ⊢
    omega) (by simp)
  have e : foldG (fun i r out => shortK one i r out) p.Rules 0 ⟨⟨p.Space, p.States, p.Symbols, []⟩, [], []⟩ = shortM one p := rfl
  rw [e] at this
  omega
theorem l11_step.ok {c : TConf} {r : TRule} {st : List Int} (hP : c.P = r.P) (hW : c.W = r.G :: st) (hs : st.length ≤ 100000) (hr : r.W.length ≤ 100000) : l11_step.f c r (⟨r.Q, r.W ++ st⟩, true) := by
  unfold l11_step.f
  rw [hW]
  refine ⟨fun _ _ => ⟨by decide, by rw [List.length_cons]; omega⟩, ?_⟩
  have hc : ((!(c.P == r.P)) || ((((r.G :: st).length : Int) == 0) || ((rdl (r.G :: st) 0) != r.G))) = false := by
    rw [hP, rdl0]
    have : (((r.G :: st).length : Int) == 0) = false := beq_false_of_ne (by rw [List.length_cons]; omega)
    rw [this]; simp
  rw [hc, if_neg Bool.false_ne_true]
  have e : cutl (r.G :: st) 1 ((r.G :: st).length : Int) = st := by simp [cutl]
  rw [e]
  exact ⟨by unfold Fits; omega, ⟨by decide, by rw [List.length_cons]; omega, Int.le_refl _⟩, by unfold Fits; omega, rfl⟩
theorem l11_same.refl {c : TConf} (hl : c.W.length ≤ maxLen) : l11_same.f c c true := by
  unfold l11_same.f
  rw [if_neg (by simp)]
  exact ⟨_, eqRound hl rfl rfl, by simp [Fin.on]⟩
/-- From one state of a loop to another one. -/
def Reach {σ τ ρ : Type} (b : σ → Rnd σ τ ρ → Prop) (s s' : σ) : Prop := ∀ o, Loop b s' o → Loop b s o
theorem Reach.refl {σ τ ρ : Type} {b : σ → Rnd σ τ ρ → Prop} (s : σ) : Reach b s s := fun o h => h
theorem Reach.next {σ τ ρ : Type} {b : σ → Rnd σ τ ρ → Prop} {s s' s'' : σ} (h : b s (.next s')) (h' : Reach b s' s'') : Reach b s s'' := fun o k => .next h (h' o k)
theorem rdl_map {α β : Type} [Inhabited α] [Inhabited β] {l : List α} (f : α → β) {i : Int} (h0 : 0 ≤ i) (h1 : i < l.length) : rdl (l.map f) i = f (rdl l i) := by
  have a := rdl_get (l := l) h0 h1
  have b := rdl_get (l := l.map f) h0 (by simpa using h1)
  rw [List.getElem?_map, a] at b
  injection b with b
  exact b.symm
theorem drop_cons_at {α : Type} [Inhabited α] {T R : List α} {x : α} {i : Int} (h0 : 0 ≤ i) (h : T.drop i.toNat = x :: R) : i < (T.length : Int) ∧ rdl T i = x ∧ T.drop (i + 1).toNat = R := by
  have hlt : i < (T.length : Int) := by
    apply Int.lt_of_not_ge; intro hge
    rw [List.drop_eq_nil_of_le (by omega)] at h; cases h
  have := drop_rdl h0 hlt
  rw [h] at this
  injection this with h1 h2
  exact ⟨hlt, h1.symm, h2.symm⟩
/-- The state of the law's loop. -/
def mkS (c : TConf) (w : TWeight) (parts i : Int) : Int × (List Int) × Bool × Int × Int × (List Int) × (List TCell) × (List TWeight) × Int × Int := (c.P, c.W, w.Zero, w.Cost, w.Facts.Gen, w.Facts.Rows, w.Cells, w.Parts, parts, i)
theorem steps_skip {n : Int} {p : TPds} {S : TShorted × Int} {T : List (TRule × Int × Bool)} (hT : Trips S.1 T) (hl : T.length ≤ maxLen) (c : TConf) (w : TWeight) (parts : Int) : ∀ (A R : List (TRule × Int × Bool)) (i : Int), 0 ≤ i → T.drop i.toNat = A ++ R → (∀ t ∈ A, t.2.1 ≠ n) → Reach (l11_PdsSteps.b1 n p S) (mkS c w parts i) (mkS c w parts (i + A.length))
  | [], R, i, h0, hd, ha => by simpa using Reach.refl _
  | x :: A, R, i, h0, hd, ha => by
    obtain ⟨h1, h2, h3⟩ := drop_cons_at h0 hd
    have ih := steps_skip (p := p) hT hl c w parts A R (i + 1) (by omega) h3 (fun t ht => ha t (.tail _ ht))
    rw [show i + ((x :: A).length : Int) = i + 1 + A.length by simp; omega]
    refine Reach.next ?_ ih
    unfold l11_PdsSteps.b1 l11_PdsSteps.j2 mkS
    have e : (S.1.Rule.length : Int) = T.length := by rw [hT.2.1]; simp
    simp only [e, h1, if_true]
    refine ⟨⟨h0, by rw [hT.2.1]; simpa using h1⟩, ?_⟩
    rw [hT.2.1, rdl_map _ h0 h1, h2, if_neg (ha x (.head _)), wrap_len hl h0 h1]
theorem ext_two {s : TSpace} {a b : TWeight} (hs : spaceOk s = true) (ha : isW s a = true) (ra : Rng a) : extW s [a, b] = thenW s a b := by
  show thenW s (thenW s (oneW s) a) b = _
  rw [(then_one hs ha ra).2]
theorem steps_chain {n : Int} {p : TPds} {S : TShorted × Int} {T : List (TRule × Int × Bool)} (hT : Trips S.1 T) (hl : T.length ≤ maxLen) (hs : spaceOk p.Space = true) (hp : p.Space.Parts.length ≤ maxLen) {rF : TWeight} (hF : isW p.Space rF = true) (hFr : Rng rF) (hFz : rF.Sized2) (oz : (oneW p.Space).Sized2) :
    ∀ (k : Nat) (s : TShorted × TRule × Bool) (R : List (TRule × Int × Bool)) (i : Int) (c : TConf) (w : TWeight) (parts : Int) (st : List Int), 0 ≤ i → T.drop i.toNat = chainT (oneW p.Space) n k s ++ R → k = s.2.1.W.length - 2 → c.P = s.2.1.P → c.W = s.2.1.G :: st → s.2.1.W.length + st.length ≤ 10000 → s.2.2 = (parts == 0) → 0 ≤ parts → parts + k ≤ 10000 →
      (w = oneW p.Space ∧ s.2.1.F = rF ∨ w = rF ∧ s.2.1.F = oneW p.Space) → Reach (l11_PdsSteps.b1 n p S) (mkS c w parts i) (mkS ⟨s.2.1.Q, s.2.1.W ++ st⟩ rF (parts + k + 1) (i + k + 1))
  | k, s, R, i, c, w, parts, st, h0, hd, hk, hcP, hcW, hlen, hf, hp0, hp1, hw => by
    have hwi : isW p.Space w = true ∧ Rng w ∧ w.Sized2 ∧ isW p.Space s.2.1.F = true ∧ Rng s.2.1.F ∧ s.2.1.F.Sized2 ∧ thenW p.Space w s.2.1.F = rF := by
      have ho := oneW_ok hs
      rcases hw with ⟨rfl, e⟩ | ⟨rfl, e⟩
      · rw [e]; exact ⟨ho.1, ho.2, oz, hF, hFr, hFz, (then_one hs hF hFr).2⟩
      · rw [e]; exact ⟨hF, hFr, hFz, ho.1, ho.2, oz, (then_one hs hF hFr).1⟩
    obtain ⟨w1, w2, w3, w4, w5, w6, w7⟩ := hwi
    -- one round
    have round : ∀ (t : TRule × Int × Bool) (R' : List (TRule × Int × Bool)), T.drop i.toNat = t :: R' → t.2.1 = n → t.2.2 = s.2.2 → t.1.P = s.2.1.P → t.1.G = s.2.1.G → t.1.F = s.2.1.F → t.1.W.length ≤ 2 → l11_PdsSteps.b1 n p S (mkS c w parts i) (.next (mkS ⟨t.1.Q, t.1.W ++ st⟩ rF (parts + 1) (i + 1))) := by
      intro t R' hd ht1 ht2 ht3 ht4 ht5 ht6
      obtain ⟨h1, h2, h3⟩ := drop_cons_at h0 hd
      unfold l11_PdsSteps.b1 l11_PdsSteps.j2 mkS
      have e : (S.1.Rule.length : Int) = T.length := by rw [hT.2.1]; simp
      have er : (S.1.Pds.Rules.length : Int) = T.length := by rw [hT.1]; simp
      have ef : (S.1.First.length : Int) = T.length := by rw [hT.2.2]; simp
      have g1 : rdl S.1.Rule i = t.2.1 := by rw [hT.2.1, rdl_map _ h0 h1, h2]
      have g2 : rdl S.1.Pds.Rules i = t.1 := by rw [hT.1, rdl_map _ h0 h1, h2]
      have g3 : rdl S.1.First i = t.2.2 := by rw [hT.2.2, rdl_map _ h0 h1, h2]
      simp only [e, h1, if_true, g1, g2, g3, ht1]
      refine ⟨⟨h0, by omega⟩, ⟨h0, by omega⟩, _, l11_step.ok (by rw [hcP, ht3]) (by rw [hcW, ht4]) (by omega) (by omega), fun _ => ⟨h0, by omega⟩, fun _ _ => ⟨h0, by omega⟩, ?_⟩
      have hcond : ((!true) || ((!(t.2.2 == (parts == 0))) || (decide ((t.1.W.length : Int) > 2)))) = false := by
        rw [ht2, hf]
        have : ¬ ((t.1.W.length : Int) > 2) := by omega
        rw [decide_eq_false this]; simp
      simp only
      rw [hcond, if_neg Bool.false_ne_true]
      simp only [TWeight.eta, ht5]
      refine ⟨⟨h0, by omega⟩, _, r05_Extend.ok hs hp (by simp [maxLen]) (by intro x hx; simp at hx; rcases hx with rfl | rfl <;> assumption) (by intro x hx; simp at hx; rcases hx with rfl | rfl <;> assumption) (by intro x hx; simp at hx; rcases hx with rfl | rfl <;> assumption), ?_⟩
      rw [ext_two hs w1 w2, w7, wrap64 (by omega) (by omega), wrap_len hl h0 h1]
    match k, hk, hd, hp1 with
    | 0, hk, hd, hp1 =>
      have := round _ R hd rfl rfl rfl rfl rfl (by simp only; omega)
      simpa using Reach.next this (Reach.refl _)
    | k + 1, hk, hd, hp1 =>
      have h1 := round (headT n s) _ hd rfl rfl rfl rfl rfl (by simp [headT])
      obtain ⟨_, _, h3⟩ := drop_cons_at h0 hd
      have hlast : s.2.1.W = cutl s.2.1.W 0 ((s.2.1.W.length : Int) - 1) ++ [rdl s.2.1.W ((s.2.1.W.length : Int) - 1)] := by
        rw [cutl_take _ (by omega)]
        have hg := rdl_get (l := s.2.1.W) (i := (s.2.1.W.length : Int) - 1) (by omega) (by omega)
        have hn : ((s.2.1.W.length : Int) - 1).toNat = s.2.1.W.length - 1 := by omega
        rw [hn] at hg ⊢
        have hlt : s.2.1.W.length - 1 < s.2.1.W.length := by omega
        rw [List.getElem?_eq_getElem hlt] at hg
        injection hg with hg
        rw [← hg, List.take_append_getElem]
        rw [show s.2.1.W.length - 1 + 1 = s.2.1.W.length by omega, List.take_length]
      have hcl : (cutl s.2.1.W 0 ((s.2.1.W.length : Int) - 1)).length = s.2.1.W.length - 1 := by simp [cutl]
      have ih := steps_chain hT hl hs hp hF hFr hFz oz k (stepS (oneW p.Space) n s) R (i + 1) ⟨(headT n s).1.Q, (headT n s).1.W ++ st⟩ rF (parts + 1) (rdl s.2.1.W ((s.2.1.W.length : Int) - 1) :: st) (by omega) h3 (by simp only [stepS]; omega) rfl rfl (by simp only [stepS, List.length_cons]; omega) (by
          have : (parts + 1 == 0) = false := beq_false_of_ne (by omega)
          rw [this]; rfl) (by omega) (by omega) (.inr ⟨rfl, rfl⟩)
      refine Reach.next h1 ?_
      have e1 : (stepS (oneW p.Space) n s).2.1.W ++ (rdl s.2.1.W ((s.2.1.W.length : Int) - 1) :: st) = s.2.1.W ++ st := by
        show cutl s.2.1.W 0 ((s.2.1.W.length : Int) - 1) ++ _ = _
        conv => rhs; rw [hlast]
        simp
      rw [e1, show parts + 1 + (k : Int) + 1 = parts + ((k + 1 : Nat) : Int) + 1 by simp; omega, show i + 1 + (k : Int) + 1 = i + ((k + 1 : Nat) : Int) + 1 by simp; omega] at ih
      exact ih
end Go.RM.Try
namespace Go.RM.Try
open Go.RM
set_option linter.unusedVariables false
set_option linter.unusedSimpArgs false
theorem chainT_len (one : TWeight) (n : Int) : ∀ (k : Nat) (s : TShorted × TRule × Bool), (chainT one n k s).length = k + 1
  | 0, s => rfl
  | k + 1, s => by simp [chainT, chainT_len one n k]
theorem steps_loop {n : Int} {p : TPds} (hc : pC p = 0) (hz : p.Sized) (hr : ∀ r ∈ p.Rules, Rng r.F) (n0 : 0 ≤ n) (n1 : n < p.Rules.length) {st : List Int} (hst : st.length ≤ 50) (S : TShorted × Int) (hS : S.1 = shortM (oneW p.Space) p) :
    ∃ m : Int, 0 < m ∧ Loop (l11_PdsSteps.b1 n p S) (mkS ⟨(rdl p.Rules n).P, [(rdl p.Rules n).G] ++ st⟩ (oneW p.Space) 0 0) (.go ((rdl p.Rules n).Q, (rdl p.Rules n).W ++ st, (rdl p.Rules n).F.Zero, (rdl p.Rules n).F.Cost, (rdl p.Rules n).F.Facts.Gen, (rdl p.Rules n).F.Facts.Rows, (rdl p.Rules n).F.Cells, (rdl p.Rules n).F.Parts, m)) := by
  obtain ⟨hs, hl, a0, a1, b0, b1, hru, hf⟩ := pC_ok hc
  have hw : ∀ r ∈ p.Rules, r.W.length ≤ 4096 := fun r hm => ruleOk_len (hru r hm)
  obtain ⟨A, s, B, hT, hA, hB⟩ := shortM_trips (one := oneW p.Space) n0 n1
  have hroom := shortM_room (oneW p.Space) hw hl a0 a1 b0 b1
  have hT' : Trips S.1 (A ++ (chainT (oneW p.Space) n ((rdl p.Rules n).W.length - 2) (s, rdl p.Rules n, true) ++ B)) := by rw [hS]; exact hT
  have hlen : (A ++ (chainT (oneW p.Space) n ((rdl p.Rules n).W.length - 2) (s, rdl p.Rules n, true) ++ B)).length ≤ maxLen := by
    have h1 := hroom.c
    rw [hT.1, List.length_map] at h1
    unfold maxLen; omega
  have hm := rdl_mem n0 n1
  have hW := hw _ hm
  have r1 := steps_skip (n := n) (p := p) hT' hlen ⟨(rdl p.Rules n).P, [(rdl p.Rules n).G] ++ st⟩ (oneW p.Space) 0 A _ 0 (Int.le_refl 0) rfl hA
  have hd1 : (A ++ (chainT (oneW p.Space) n ((rdl p.Rules n).W.length - 2) (s, rdl p.Rules n, true) ++ B)).drop ((0 : Int) + A.length).toNat = chainT (oneW p.Space) n ((rdl p.Rules n).W.length - 2) (s, rdl p.Rules n, true) ++ B := by
    rw [show ((0 : Int) + A.length).toNat = A.length by omega]; simp
  have r2 := steps_chain (n := n) (p := p) hT' hlen hs hz.parts (hf _ hm) (hr _ hm) (hz.weights _ hm) (oneW_flat hs).1 ((rdl p.Rules n).W.length - 2) (s, rdl p.Rules n, true) B (0 + A.length) ⟨(rdl p.Rules n).P, [(rdl p.Rules n).G] ++ st⟩ (oneW p.Space) 0 st (by omega) hd1 rfl rfl rfl (by simp only; omega) rfl (Int.le_refl 0) (by omega) (.inl ⟨rfl, rfl⟩)
  have hcl := chainT_len (oneW p.Space) n ((rdl p.Rules n).W.length - 2) (s, rdl p.Rules n, true)
  generalize hk : (rdl p.Rules n).W.length - 2 = k at *
  have hd2 : (A ++ (chainT (oneW p.Space) n k (s, rdl p.Rules n, true) ++ B)).drop ((0 : Int) + A.length + k + 1).toNat = B := by
    rw [show ((0 : Int) + A.length + k + 1).toNat = A.length + (k + 1) by omega, ← List.drop_drop]
    simp [← hcl]
  have r3 := steps_skip (n := n) (p := p) hT' hlen ⟨(rdl p.Rules n).Q, (rdl p.Rules n).W ++ st⟩ (rdl p.Rules n).F (0 + k + 1) B [] (0 + A.length + k + 1) (by omega) (by rw [hd2]; simp) hB
  refine ⟨0 + k + 1, by omega, r1 _ (r2 _ (r3 _ (.exit ?_)))⟩
  unfold l11_PdsSteps.b1 mkS
  have e : (S.1.Rule.length : Int) = (A ++ (chainT (oneW p.Space) n k (s, rdl p.Rules n, true) ++ B)).length := by rw [hT'.2.1]; simp
  have hne : ¬ ((0 : Int) + A.length + k + 1 + B.length < (S.1.Rule.length : Int)) := by
    rw [e]; simp [hcl]; omega
  simp only [hne, if_false]
theorem cutM_rng {p : TPds} (h : p.Fit) : ∀ r ∈ (cutM p).Rules, Rng r.F :=
  cutR_all (Q := fun r => Rng r.F) _ _ (fun r hr => by rw [cutW_F]; exact (h.2.2.2.2.2 r hr).2.2.2.2.rng) (fun r hr => by cases hr)
theorem steps_main {p : TPds} (hz : p.Sized) (hr : ∀ r ∈ p.Rules, Rng r.F) (n : Int) {st : List Int} (hst : st.length ≤ 50) : l11_PdsSteps.j1 n p st true := by
  refine ⟨_, pds_Short.ok hz, ?_⟩
  by_cases hok : (shortR p).2 = 0
  · have hc : pC p = 0 := by
      unfold shortR at hok
      split at hok
      · assumption
      · exact hok
    have hSR : shortR p = (shortM (oneW p.Space) p, 0) := by
      unfold shortR at hok ⊢
      rw [if_pos hc] at hok ⊢
      split at hok
      · simp at hok
      · rename_i h; rw [if_neg h]
    by_cases hn : n < 0 ∨ n ≥ (p.Rules.length : Int)
    · rw [if_pos (by simp only [Bool.or_eq_true, decide_eq_true_eq]; exact .inr hn), if_pos hok]
      refine ⟨_, fun _ => l11_alive.ok, ?_⟩
      rw [hSR]
      have := shortM_len (oneW p.Space) p
      simp; omega
    · rw [if_neg (by simp only [Bool.or_eq_true, decide_eq_true_eq]; rw [hok]; simpa using hn)]
      have n0 : 0 ≤ n := by omega
      have n1 : n < p.Rules.length := by omega
      obtain ⟨hs, hl, _, _, _, _, hru, hf⟩ := pC_ok hc
      have hm := rdl_mem n0 n1
      have hW := ruleOk_len (hru _ hm)
      have hstep : l11_step.f ⟨(rdl p.Rules n).P, [(rdl p.Rules n).G] ++ st⟩ (rdl p.Rules n) (⟨(rdl p.Rules n).Q, (rdl p.Rules n).W ++ st⟩, true) := l11_step.ok (st := st) rfl rfl (by omega) (by omega)
      have hone := r05_One.ok (s := p.Space) hz.parts
      have h1 : oneR p.Space = (oneW p.Space, 0) := by unfold oneR; rw [if_pos hs]
      rw [h1] at hone
      refine ⟨⟨n0, n1⟩, by unfold Fits; simp only [List.length_singleton]; omega, _, hstep, _, hone, ?_⟩
      obtain ⟨A, s, B, hT, _, _⟩ := shortM_trips (one := oneW p.Space) n0 n1
      rw [if_neg (by rw [hSR]; simp only; rw [hT.1, hT.2.1, hT.2.2]; simp)]
      obtain ⟨m, hm0, hL⟩ := steps_loop hc hz hr n0 n1 hst (shortR p) (by rw [hSR])
      refine ⟨_, hL, ?_⟩
      simp only [Fin.on, TWeight.eta]
      refine ⟨_, fun _ => l11_same.refl (by simp; unfold maxLen; omega), _, fun _ _ => r05_Same.refl ⟨hz.weights _ hm, isW_parts (hf _ hm)⟩, _, fun _ _ _ => l11_alive.ok, ?_⟩
      rw [decide_eq_true hm0]; rfl
  · rw [if_pos (by simp only [Bool.or_eq_true]; left; simp [hok]), if_neg hok]
    exact ⟨_, l11_alive.ok, rfl⟩
theorem Law.PdsSteps (a0 : TPds) (a1 : Int) (a2 : List Int) (y0 : TPds.Fit a0) (w1 : (Lit.int .i64 a1).wf = true) (y2 : (a2.length * 8 ≤ 140737488351232) ∧ (a2.length ≤ maxLen) ∧ (∀ y ∈ a2, (Lit.int .i64 y).wf = true)) : l11_PdsSteps.f a0 a1 a2 true := by
  have hz := cutM_sized y0
  refine ⟨_, fit_cut y0, ?_⟩
  by_cases h : (a2.length : Int) > 50
  · rw [if_pos h]
    exact ⟨⟨by decide, by decide, by omega⟩, steps_main hz (cutM_rng y0) a1 (by simp [cutl]; omega)⟩
  · rw [if_neg h]
    exact steps_main hz (cutM_rng y0) a1 (by omega)
end Go.RM.Try
