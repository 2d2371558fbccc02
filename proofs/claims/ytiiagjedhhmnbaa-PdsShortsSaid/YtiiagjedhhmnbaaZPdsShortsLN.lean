/- LA LB LC LD LE LF LG LH LI LJ LK LL LM LN, for the statement PdsShorts: what it needs, no more. -/
import Derived.Test.YtiiagjedhhmnbaaZPdsShortsGR
import Derived.Test.YtiiagjedhhmnbaaZPdsShortsGI
namespace Go.RM
set_option linter.unusedVariables false
set_option linter.unusedSimpArgs false
/-- A loop that comes to what spec tells. -/
theorem Loop.of {σ τ ρ : Type} {b : σ → Rnd σ τ ρ → Prop} (spec : σ → Fin τ ρ) (m : σ → Nat) (Inv : σ → Prop)
    (step : ∀ s, Inv s → (∃ s', b s (.next s') ∧ m s' < m s ∧ Inv s' ∧ spec s' = spec s) ∨ (∃ t, b s (.exit t) ∧ spec s = .go t) ∨ (∃ r, b s (.ret r) ∧ spec s = .ret r)) :
    ∀ s, Inv s → Loop b s (spec s) := by
  intro s
  generalize hn : m s = n
  induction n using Nat.strongRecOn generalizing s with
  | _ n ih =>
    intro hi
    rcases step s hi with ⟨s', hb, hm, hi', he⟩ | ⟨t, hb, he⟩ | ⟨r, hb, he⟩
    · rw [← he]
      exact .next hb (ih (m s') (by omega) s' rfl hi')
    · rw [he]; exact .exit hb
    · rw [he]; exact .ret hb
theorem wrap64 {i : Int} (h0 : -9223372036854775808 ≤ i) (h1 : i ≤ 9223372036854775807) : IntKind.i64.wrap i = i := by
  have e : IntKind.i64.wrap i = if (i % 18446744073709551616 : Int) ≥ 9223372036854775808 then i % 18446744073709551616 - 18446744073709551616 else i % 18446744073709551616 := by
    simp [IntKind.wrap, IntKind.bits, IntKind.signed]
  rw [e]
  split <;> omega
theorem wrapu64 {i : Int} (h0 : 0 ≤ i) (h1 : i < 18446744073709551616) : IntKind.u64.wrap i = i := by
  have e : IntKind.u64.wrap i = i % 18446744073709551616 := by
    simp [IntKind.wrap, IntKind.bits, IntKind.signed]
  rw [e]; omega
/-- One round further in a list. -/
theorem wrap_len {α : Type} {l : List α} {i : Int} (hl : l.length ≤ maxLen) (h0 : 0 ≤ i) (h1 : i < l.length) : IntKind.i64.wrap (i + 1) = i + 1 := by
  have : maxLen ≤ 9223372036854775807 := by decide
  exact wrap64 (by omega) (by omega)
theorem rdl_mem {α : Type} [Inhabited α] {l : List α} {i : Int} (h0 : 0 ≤ i) (h1 : i < l.length) : rdl l i ∈ l :=
  List.mem_of_getElem? (rdl_get h0 h1)
theorem drop_rdl {α : Type} [Inhabited α] {l : List α} {i : Int} (h0 : 0 ≤ i) (h1 : i < l.length) : l.drop i.toNat = rdl l i :: l.drop (i + 1).toNat := by
  have h := rdl_get h0 h1
  have hlt : i.toNat < l.length := by omega
  rw [List.drop_eq_getElem_cons hlt, show (i + 1).toNat = i.toNat + 1 by omega]
  rw [List.getElem?_eq_getElem hlt, Option.some.injEq] at h
  rw [h]
theorem drop_end {α : Type} {l : List α} {i : Int} (h0 : 0 ≤ i) (h1 : ¬ i < l.length) : l.drop i.toNat = [] := List.drop_eq_nil_of_le (by omega)
end Go.RM
namespace Go.RM
set_option linter.unusedVariables false
set_option linter.unusedSimpArgs false
/-- The first place from i on whose element passes. -/
def idxI {α : Type} (test : α → Bool) : List α → Int → Int
  | [], _ => -1
  | x :: l, i => if test x then i else idxI test l (i + 1)
theorem idxI_any {α : Type} (test : α → Bool) : ∀ (l : List α) (i : Int), 0 ≤ i → decide (idxI test l i ≥ 0) = l.any test
  | [], i, h => by simp [idxI]
  | x :: l, i, h => by
    unfold idxI
    by_cases hx : test x = true
    · simp [hx, h]
    · rw [if_neg hx, idxI_any test l (i + 1) (by omega)]; simp [hx]
theorem indexFunc {α : Type} [Inhabited α] {l : List α} {q : α → Bool → Prop} {b : Int → Rnd Int Unit Int → Prop} (test : α → Bool) (hl : l.length ≤ maxLen) (hq : ∀ x ∈ l, q x (test x))
    (hb : b = fun x1 z1 => if x1 < (l.length : Int) then (InR x1 l.length ∧ ∃ t : Bool, q (rdl l x1) t ∧ if t = true then z1 = .ret x1 else z1 = .next (IntKind.i64.wrap (x1 + 1))) else z1 = .exit ()) :
    ∃ o : Fin Unit Int, Loop b 0 o ∧ o.on (fun _ => idxI test l 0 = -1) (fun r_ => idxI test l 0 = r_) := by
  let spec : Int → Fin Unit Int := fun i => if (l.drop i.toNat).any test then .ret (idxI test (l.drop i.toNat) i) else .go ()
  have key := Loop.of (b := b) spec (fun i => ((l.length : Int) - i).toNat) (fun i => 0 ≤ i) (fun i hi => by
    subst hb
    by_cases h : i < (l.length : Int)
    · have hd := drop_rdl hi h
      by_cases ht : test (rdl l i) = true
      · refine .inr (.inr ⟨i, ?_, ?_⟩)
        · simp only [h, if_true]
          exact ⟨⟨hi, h⟩, true, ht ▸ hq _ (rdl_mem hi h), by simp⟩
        · show (if _ then _ else _) = _
          rw [hd]; simp [ht, idxI]
      · have ht' : test (rdl l i) = false := by simpa using ht
        refine .inl ⟨i + 1, ?_, by omega, by omega, ?_⟩
        · simp only [h, if_true]
          exact ⟨⟨hi, h⟩, false, ht' ▸ hq _ (rdl_mem hi h), by simp [wrap_len hl hi h]⟩
        · show (if _ then _ else _) = (if _ then _ else _)
          rw [hd]; simp [ht', idxI]
    · refine .inr (.inl ⟨(), by simp only [h, if_false], ?_⟩)
      show (if _ then _ else _) = _
      rw [drop_end hi h]; rfl) 0 (Int.le_refl 0)
  refine ⟨_, key, ?_⟩
  show Fin.on (if _ then _ else _) _ _
  simp only [Int.toNat_zero, List.drop_zero]
  split
  · rfl
  · rename_i h
    show idxI test l 0 = -1
    have : decide (idxI test l 0 ≥ 0) = false := by rw [idxI_any test l 0 (Int.le_refl 0)]; simpa using h
    have hge : ∀ (l : List α) (i : Int), 0 ≤ i → idxI test l i = -1 ∨ 0 ≤ idxI test l i := by
      intro l
      induction l with
      | nil => intro i _; exact .inl rfl
      | cons x l ih =>
        intro i hi
        unfold idxI
        split
        · exact .inr hi
        · exact ih (i + 1) (by omega)
    rcases hge l 0 (Int.le_refl 0) with h1 | h1
    · exact h1
    · simp at this; omega
/-- A loop that goes over a list as long as elements pass. -/
theorem eachLoop {α ρ : Type} [Inhabited α] {l : List α} {b : Int → Rnd Int Unit ρ → Prop} (test : α → Bool) (rv : ρ)
    (hb : ∀ i, 0 ≤ i → i < (l.length : Int) → (test (rdl l i) = true → b i (.next (i + 1))) ∧ (test (rdl l i) = false → b i (.ret rv))) (hend : ∀ i, 0 ≤ i → ¬ i < (l.length : Int) → b i (.exit ())) :
    Loop b 0 (if l.all test then .go () else .ret rv) := by
  let spec : Int → Fin Unit ρ := fun i => if (l.drop i.toNat).all test then .go () else .ret rv
  have key := Loop.of (b := b) spec (fun i => ((l.length : Int) - i).toNat) (fun i => 0 ≤ i) (fun i hi => by
    by_cases h : i < (l.length : Int)
    · have hd := drop_rdl hi h
      obtain ⟨h1, h2⟩ := hb i hi h
      cases ht : test (rdl l i) with
      | true =>
        refine .inl ⟨i + 1, h1 ht, by omega, by omega, ?_⟩
        show (if _ then _ else _) = (if _ then _ else _)
        rw [hd]; simp [ht]
      | false =>
        refine .inr (.inr ⟨rv, h2 ht, ?_⟩)
        show (if _ then _ else _) = _
        rw [hd]; simp [ht]
    · refine .inr (.inl ⟨(), hend i hi h, ?_⟩)
      show (if _ then _ else _) = _
      rw [drop_end hi h]; rfl) 0 (Int.le_refl 0)
  simpa [spec] using key
/-- slices.ContainsFunc. -/
theorem containsFunc {α : Type} [Inhabited α] {l : List α} {q : α → Bool → Prop} {b : Int → Rnd Int Unit Int → Prop} (test : α → Bool) (hl : l.length ≤ maxLen) (hq : ∀ x ∈ l, q x (test x))
    (hb : b = fun x1 z1 => if x1 < (l.length : Int) then (InR x1 l.length ∧ ∃ t : Bool, q (rdl l x1) t ∧ if t = true then z1 = .ret x1 else z1 = .next (IntKind.i64.wrap (x1 + 1))) else z1 = .exit ()) :
    ∃ t : Int, (∃ o : Fin Unit Int, Loop b 0 o ∧ o.on (fun _ => t = -1) (fun r_ => t = r_)) ∧ l.any test = decide (t ≥ 0) :=
  ⟨_, indexFunc test hl hq hb, (idxI_any test l 0 (Int.le_refl 0)).symm⟩
/-- What rounds over a list come to. -/
def foldF {α σ ρ : Type} (step : Int → α → σ → Fin σ ρ) : List α → Int → σ → Fin σ ρ
  | [], _, s => .go s
  | x :: l, i, s => match step i x s with
    | .go s' => foldF step l (i + 1) s'
    | .ret r => .ret r
def Fin.map {σ τ ρ : Type} (f : σ → τ) : Fin σ ρ → Fin τ ρ
  | .go s => .go (f s)
  | .ret r => .ret r
/-- A round does what its step says. -/
def Rok {σ S τ ρ : Type} (b : S → Rnd S τ ρ → Prop) (mk : Int → σ → S) (Inv : Int → σ → Prop) (i : Int) (s : σ) : Fin σ ρ → Prop
  | .go s' => b (mk i s) (.next (mk (i + 1) s')) ∧ Inv (i + 1) s'
  | .ret r => b (mk i s) (.ret r)
theorem foldLoop {α σ S τ ρ : Type} [Inhabited α] {l : List α} {b : S → Rnd S τ ρ → Prop} (mk : Int → σ → S) (ex : σ → τ) (step : Int → α → σ → Fin σ ρ) (Inv : Int → σ → Prop)
    (hb : ∀ i s, 0 ≤ i → i < (l.length : Int) → Inv i s → Rok b mk Inv i s (step i (rdl l i) s))
    (hend : ∀ s, Inv l.length s → b (mk l.length s) (.exit (ex s))) (s0 : σ) (h0 : Inv 0 s0) :
    Loop b (mk 0 s0) ((foldF step l 0 s0).map ex) ∧ ∀ s, foldF step l 0 s0 = .go s → Inv l.length s := by
  have main : ∀ (k : Nat) (i : Int) (s : σ), ((l.length : Int) - i).toNat = k → 0 ≤ i → i ≤ l.length → Inv i s → Loop b (mk i s) ((foldF step (l.drop i.toNat) i s).map ex) ∧ ∀ s', foldF step (l.drop i.toNat) i s = .go s' → Inv l.length s' := by
    intro k
    induction k with
    | zero =>
      intro i s hk h0 h1 hi
      have : i = l.length := by omega
      subst this
      rw [drop_end h0 (by omega)]
      exact ⟨.exit (hend s hi), fun s' h => by injection h with h; exact h ▸ hi⟩
    | succ k ih =>
      intro i s hk h0 h1 hi
      have hlt : i < (l.length : Int) := by omega
      rw [drop_rdl h0 hlt]
      have hr := hb i s h0 hlt hi
      unfold foldF
      revert hr
      cases step i (rdl l i) s with
      | go s1 =>
        intro hr
        have := ih (i + 1) s1 (by omega) (by omega) (by omega) hr.2
        exact ⟨.next hr.1 this.1, this.2⟩
      | ret r =>
        intro hr
        exact ⟨.ret hr, fun s' h => by cases h⟩
  have := main _ 0 s0 rfl (Int.le_refl 0) (by omega) h0
  simpa using this
theorem foldF_map {α β ρ : Type} (f : α → β) : ∀ (l : List α) (i : Int) (acc : List β), foldF (fun _ x acc => (.go (acc ++ [f x]) : Fin (List β) ρ)) l i acc = .go (acc ++ l.map f)
  | [], i, acc => by simp [foldF]
  | x :: l, i, acc => by
    show foldF _ l (i + 1) (acc ++ [f x]) = _
    rw [foldF_map f l]
    simp
/-- What counted rounds come to. -/
def countF {σ ρ : Type} (step : Int → σ → Fin σ ρ) : Nat → Int → σ → Fin σ ρ
  | 0, _, s => .go s
  | k + 1, i, s => match step i s with
    | .go s' => countF step k (i + 1) s'
    | .ret r => .ret r
theorem countLoop {σ S τ ρ : Type} {n : Int} {b : S → Rnd S τ ρ → Prop} (mk : Int → σ → S) (ex : σ → τ) (step : Int → σ → Fin σ ρ) (Inv : Int → σ → Prop)
    (hb : ∀ i s, 0 ≤ i → i < n → Inv i s → Rok b mk Inv i s (step i s))
    (hend : ∀ s, Inv n s → b (mk n s) (.exit (ex s))) (s0 : σ) (hn : 0 ≤ n) (h0 : Inv 0 s0) :
    Loop b (mk 0 s0) ((countF step n.toNat 0 s0).map ex) ∧ ∀ s, countF step n.toNat 0 s0 = .go s → Inv n s := by
  have main : ∀ (k : Nat) (i : Int) (s : σ), (n - i).toNat = k → 0 ≤ i → i ≤ n → Inv i s → Loop b (mk i s) ((countF step k i s).map ex) ∧ ∀ s', countF step k i s = .go s' → Inv n s' := by
    intro k
    induction k with
    | zero =>
      intro i s hk h0 h1 hi
      have : i = n := by omega
      subst this
      exact ⟨.exit (hend s hi), fun s' h => by injection h with h; exact h ▸ hi⟩
    | succ k ih =>
      intro i s hk h0 h1 hi
      have hlt : i < n := by omega
      have hr := hb i s h0 hlt hi
      unfold countF
      revert hr
      cases step i s with
      | go s1 =>
        intro hr
        have := ih (i + 1) s1 (by omega) (by omega) (by omega) hr.2
        exact ⟨.next hr.1 this.1, this.2⟩
      | ret r =>
        intro hr
        exact ⟨.ret hr, fun s' h => by cases h⟩
  have := main _ 0 s0 rfl (Int.le_refl 0) hn h0
  simpa using this
/-- The numbers below n as integers. -/
def upto (n : Nat) : List Int := (List.range n).map Int.ofNat
theorem countF_app {β ρ : Type} (f : Int → β) : ∀ (k : Nat) (i : Int) (acc : List β), countF (fun i acc => (.go (acc ++ [f i]) : Fin (List β) ρ)) k i acc = .go (acc ++ (upto k).map (fun j => f (i + j)))
  | 0, i, acc => by simp [countF, upto]
  | k + 1, i, acc => by
    unfold countF
    simp only
    rw [countF_app f k]
    simp only [upto, List.range_succ_eq_map, List.map_cons, List.map_map, List.append_assoc, List.singleton_append]
    simp only [Fin.go.injEq, List.append_cancel_left_eq, List.cons.injEq]
    refine ⟨by simp, List.map_congr_left fun j _ => ?_⟩
    simp only [Function.comp]
    congr 1
    simp
    omega
/-- A row that is filled from the front. -/
theorem fillLoop {α ρ : Type} [Inhabited α] {n : Int} {b : (List α × Int) → Rnd (List α × Int) (List α) ρ → Prop} (d : α) (f : Int → α → α) (hn : 0 ≤ n)
    (hb : ∀ i l, 0 ≤ i → i < n → (l.length : Int) = n → b (l, i) (.next (setl l i (f i (rdl l i)), i + 1))) (hend : ∀ l, (l.length : Int) = n → b (l, n) (.exit l)) :
    Loop b (List.replicate n.toNat d, 0) (.go ((upto n.toNat).map (fun i => f i d))) := by
  let m := (upto n.toNat).map (fun i => f i d)
  have hm : m.length = n.toNat := by simp [m, upto]
  have key := Loop.of (b := b) (fun _ => .go m) (fun s => (n - s.2).toNat) (fun s => 0 ≤ s.2 ∧ s.2 ≤ n ∧ s.1 = m.take s.2.toNat ++ List.replicate (n.toNat - s.2.toNat) d) (fun s hi => by
    obtain ⟨l, i⟩ := s
    obtain ⟨h0, h1, h2⟩ := hi
    simp only at h0 h1 h2
    have hlen : (l.length : Int) = n := by rw [h2]; simp [hm]; omega
    by_cases h : i < n
    · have hd : rdl l i = d := by
        have hg := rdl_get (l := l) h0 (by omega)
        rw [h2] at hg
        rw [List.getElem?_append_right (by simp; omega)] at hg
        have : (List.take i.toNat m).length = i.toNat := by simp [hm]; omega
        rw [this, Nat.sub_self, List.getElem?_replicate] at hg
        rw [if_pos (by omega)] at hg
        injection hg with hg
        rw [h2]; exact hg.symm
      refine .inl ⟨_, hb i l h0 h hlen, by simp; omega, ⟨by simp; omega, by simp; omega, ?_⟩, rfl⟩
      simp only
      rw [hd]
      apply List.ext_getElem?
      intro k
      unfold setl
      rw [List.getElem?_set, h2]
      by_cases hk : i.toNat = k
      · subst hk
        have hl2 : i.toNat < (List.take i.toNat m ++ List.replicate (n.toNat - i.toNat) d).length := by simp [hm]; omega
        rw [if_pos rfl, if_pos hl2]
        rw [List.getElem?_append_left (by simp [hm]; omega)]
        rw [List.getElem?_take, if_pos (by omega)]
        simp only [m, upto, List.map_map, List.getElem?_map]
        rw [List.getElem?_range (by omega)]
        simp [Function.comp]
        congr 1; omega
      · rw [if_neg hk]
        by_cases hk2 : k < i.toNat
        · rw [List.getElem?_append_left (by simp [hm]; omega), List.getElem?_append_left (by simp [hm]; omega)]
          rw [List.getElem?_take, List.getElem?_take, if_pos hk2, if_pos (by omega)]
        · rw [List.getElem?_append_right (by simp [hm]; omega), List.getElem?_append_right (by simp [hm]; omega)]
          rw [List.getElem?_replicate, List.getElem?_replicate]
          simp only [List.length_take, hm]
          congr 1
          apply propext
          constructor <;> intro <;> omega
    · have : i = n := by omega
      subst this
      refine .inr (.inl ⟨l, hend l hlen, ?_⟩)
      rw [h2]; simp [← hm]) (List.replicate n.toNat d, 0) ⟨Int.le_refl 0, hn, by simp⟩
  exact key
theorem iteR {α : Type} (c : Bool) {a b : α} : if c = true then (if c = true then a else b) = a else (if c = true then a else b) = b := by cases c <;> rfl
def all2B {α β : Type} (test : α → β → Bool) : List α → List β → Bool
  | x :: l, y :: m => test x y && all2B test l m
  | _, _ => true
theorem each2Loop {α β ρ : Type} [Inhabited α] [Inhabited β] {l : List α} {m : List β} {b : Int → Rnd Int Unit ρ → Prop} (test : α → β → Bool) (rv : ρ) (hlen : l.length = m.length)
    (hb : ∀ i, 0 ≤ i → i < (l.length : Int) → (test (rdl l i) (rdl m i) = true → b i (.next (i + 1))) ∧ (test (rdl l i) (rdl m i) = false → b i (.ret rv))) (hend : ∀ i, 0 ≤ i → ¬ i < (l.length : Int) → b i (.exit ())) :
    Loop b 0 (if all2B test l m = true then .go () else .ret rv) := by
  let spec : Int → Fin Unit ρ := fun i => if all2B test (l.drop i.toNat) (m.drop i.toNat) = true then .go () else .ret rv
  have key := Loop.of (b := b) spec (fun i => ((l.length : Int) - i).toNat) (fun i => 0 ≤ i) (fun i hi => by
    by_cases h : i < (l.length : Int)
    · have hd := drop_rdl hi h
      have hd2 := drop_rdl (l := m) hi (by omega)
      obtain ⟨h1, h2⟩ := hb i hi h
      cases ht : test (rdl l i) (rdl m i) with
      | true =>
        refine .inl ⟨i + 1, h1 ht, by omega, by omega, ?_⟩
        show (if _ then _ else _) = (if _ then _ else _)
        rw [hd, hd2]; simp [all2B, ht]
      | false =>
        refine .inr (.inr ⟨rv, h2 ht, ?_⟩)
        show (if _ then _ else _) = _
        rw [hd, hd2]; simp [all2B, ht]
    · refine .inr (.inl ⟨(), hend i hi h, ?_⟩)
      show (if _ then _ else _) = _
      rw [drop_end hi h]; simp [all2B]) 0 (Int.le_refl 0)
  simpa [spec] using key
theorem all2B_eq {α : Type} [DecidableEq α] : ∀ (l m : List α), l.length = m.length → all2B (fun x y => decide (x = y)) l m = decide (l = m)
  | [], [], _ => by simp [all2B]
  | x :: l, y :: m, h => by
    have := all2B_eq l m (by simpa using h)
    simp [all2B, this]
theorem eqLoop {α ρ : Type} [Inhabited α] [DecidableEq α] {l m : List α} {b : Int → Rnd Int Unit ρ → Prop} (rv : ρ) (hlen : l.length = m.length)
    (hb : ∀ i, 0 ≤ i → i < (l.length : Int) → (rdl l i = rdl m i → b i (.next (i + 1))) ∧ (rdl l i ≠ rdl m i → b i (.ret rv))) (hend : ∀ i, 0 ≤ i → ¬ i < (l.length : Int) → b i (.exit ())) :
    Loop b 0 (if l = m then .go () else .ret rv) := by
  have := each2Loop (b := b) (fun x y => decide (x = y)) rv hlen (fun i h0 h1 => ⟨fun h => (hb i h0 h1).1 (by simpa using h), fun h => (hb i h0 h1).2 (by simpa using h)⟩) hend
  rw [all2B_eq l m hlen] at this
  simpa using this
/-- The same loop over two lists of numbers or truths, as it is written for slices.Equal and its like. -/
theorem eqRound {α : Type} [Inhabited α] [DecidableEq α] {l m : List α} {b : Int → Rnd Int Unit Bool → Prop} (hl : l.length ≤ maxLen) (hlen : l.length = m.length)
    (hb : b = fun x1 z1 => if x1 < (l.length : Int) then (InR x1 l.length ∧ InR x1 m.length ∧ if rdl l x1 = rdl m x1 then z1 = .next (IntKind.i64.wrap (x1 + 1)) else z1 = .ret false) else z1 = .exit ()) :
    Loop b 0 (if l = m then .go () else .ret false) := by
  subst hb
  refine eqLoop false hlen (fun i h0 h1 => ⟨fun h => ?_, fun h => ?_⟩) (fun i h0 h1 => by simp only [h1, if_false])
  · simp only [h1, if_true]
    exact ⟨⟨h0, h1⟩, ⟨h0, by omega⟩, by rw [if_pos h, wrap_len hl h0 h1]⟩
  · simp only [h1, if_true]
    exact ⟨⟨h0, h1⟩, ⟨h0, by omega⟩, by rw [if_neg h]; trivial⟩
theorem eqOn {α : Type} [DecidableEq α] {l m : List α} : (if l = m then (.go () : Fin Unit Bool) else .ret false).on (fun _ => decide (l = m) = true) (fun r_ => decide (l = m) = r_) := by
  by_cases h : l = m <;> simp [Fin.on, h]
/-- Rounds over a list that never return. -/
def foldG {α σ : Type} (g : Int → α → σ → σ) : List α → Int → σ → σ
  | [], _, s => s
  | x :: l, i, s => foldG g l (i + 1) (g i x s)
theorem foldF_G {α σ ρ : Type} (g : Int → α → σ → σ) : ∀ (l : List α) (i : Int) (s : σ), foldF (fun i x s => (.go (g i x s) : Fin σ ρ)) l i s = .go (foldG g l i s)
  | [], i, s => rfl
  | x :: l, i, s => foldF_G g l (i + 1) _
theorem foldGLoop {α σ S τ ρ : Type} [Inhabited α] {l : List α} {b : S → Rnd S τ ρ → Prop} (mk : Int → σ → S) (ex : σ → τ) (g : Int → α → σ → σ) (Inv : Int → σ → Prop)
    (hb : ∀ i s, 0 ≤ i → i < (l.length : Int) → Inv i s → b (mk i s) (.next (mk (i + 1) (g i (rdl l i) s))) ∧ Inv (i + 1) (g i (rdl l i) s))
    (hend : ∀ s, Inv l.length s → b (mk l.length s) (.exit (ex s))) (s0 : σ) (h0 : Inv 0 s0) :
    Loop b (mk 0 s0) (.go (ex (foldG g l 0 s0))) ∧ Inv l.length (foldG g l 0 s0) := by
  have := foldLoop (l := l) (b := b) mk ex (fun i x s => .go (g i x s)) Inv (fun i s h0 h1 hi => hb i s h0 h1 hi) hend s0 h0
  rw [foldF_G] at this
  exact ⟨this.1, this.2 _ rfl⟩
theorem foldG_inv {α σ : Type} {g : Int → α → σ → σ} (P : Int → σ → Prop) : ∀ (l : List α) (i : Int) (s : σ), (∀ i s x, x ∈ l → P i s → P (i + 1) (g i x s)) → P i s → P (i + l.length) (foldG g l i s)
  | [], i, s, h, hs => by simpa [foldG] using hs
  | x :: l, i, s, h, hs => by
    have := foldG_inv P l (i + 1) (g i x s) (fun i s y hy hp => h i s y (.tail _ hy) hp) (h i s x (.head _) hs)
    have e : i + ((x :: l).length : Int) = i + 1 + l.length := by simp; omega
    rw [e]; exact this
end Go.RM
namespace Go.RM.Try
open Go.RM
set_option linter.unusedVariables false
set_option linter.unusedSimpArgs false
def inB (i n : Int) : Bool := decide (i ≥ 0) && decide (i < n)
theorem pds_in.ok (i n : Int) : pds_in.f i n (inB i n) := rfl
theorem r11_in.ok (i n : Int) : r11_in.f i n (inB i n) := rfl
/-- Costs. -/
def costE (cap v : Int) : Int := if cap < 0 ∨ cap > 1048576 then 20 else if v < -1 ∨ v > cap then 21 else 0
theorem cost_Check.ok (cap v : Int) : cost_Check.f cap v (costE cap v) := by
  refine ⟨costE cap v, ?_, rfl⟩
  unfold cost_checks.f costE
  by_cases h : cap < 0 ∨ cap > 1048576
  · simp [h]
  · rw [if_neg (by simpa using h), if_neg h]
    have key := eachLoop (l := [v]) (b := cost_checks.b1 cap [v]) (fun x => !(decide (x < -1) || decide (x > cap))) (21 : Int) (fun i h0 h1 => by
      unfold cost_checks.b1
      simp only [h1, if_true]
      refine ⟨fun ht => ⟨⟨h0, h1⟩, ?_⟩, fun ht => ⟨⟨h0, h1⟩, ?_⟩⟩
      · have hn : ¬ ((decide (rdl [v] i < -1) || decide (rdl [v] i > cap)) = true) := by simpa using ht
        rw [if_neg hn, wrap_len (l := [v]) (by simp [maxLen]) h0 h1]
      · have hn : (decide (rdl [v] i < -1) || decide (rdl [v] i > cap)) = true := by simpa only [Bool.not_eq_false'] using ht
        rw [if_pos hn]; trivial) (fun i h0 h1 => by unfold cost_checks.b1; simp only [h1, if_false])
    refine ⟨_, key, ?_⟩
    by_cases hv : v < -1 ∨ v > cap
    · have : ([v].all fun x => !(decide (x < -1) || decide (x > cap))) = false := by simp; omega
      rw [this, if_pos hv]; rfl
    · have : ([v].all fun x => !(decide (x < -1) || decide (x > cap))) = true := by simp; omega
      rw [this, if_neg hv]; rfl
/-- The first n of 64. -/
def fullM (n : Int) : Int := 2 ^ n.toNat - 1
theorem pow_split {n : Nat} (h : n ≤ 64) : (18446744073709551615 : Int).fdiv (2 ^ (64 - n)) = 2 ^ n - 1 := by
  have hp : (2 : Int) ^ n * 2 ^ (64 - n) = 18446744073709551616 := by rw [← Int.pow_add, show n + (64 - n) = 64 by omega]; decide
  have hpos : (0 : Int) < 2 ^ (64 - n) := Int.pow_pos (by decide)
  rw [Int.fdiv_eq_ediv_of_nonneg _ (Int.le_of_lt hpos)]
  rw [show (18446744073709551615 : Int) = (2 ^ (64 - n) - 1) + (2 ^ n - 1) * 2 ^ (64 - n) by rw [Int.sub_mul, hp]; omega]
  rw [Int.add_mul_ediv_right _ _ (Int.ne_of_gt hpos), Int.ediv_eq_zero_of_lt (by omega) (by omega)]
  omega
theorem bits_Full.ok (n : Int) : bits_Full.f n (if n < 0 ∨ n > 64 then (0, 10) else (fullM n, 0)) := by
  unfold bits_Full.f
  by_cases h : n < 0 ∨ n > 64
  · rw [if_pos (by simpa using h), if_pos h]
  · rw [if_neg (by simpa using h), if_neg h]
    have e1 : IntKind.i64.wrap (64 - n) = 64 - n := wrap64 (by omega) (by omega)
    have e2 : IntKind.u64.wrap (64 - n) = 64 - n := wrapu64 (by omega) (by omega)
    rw [e1, e2]
    refine ⟨by omega, ?_⟩
    have hn : n.toNat ≤ 64 := by omega
    have := pow_split hn
    unfold shrI fullM
    rw [show (min (64 - n).toNat IntKind.u64.bits) = 64 - n.toNat by simp [IntKind.bits]; omega, this]
theorem two_pow_lt {n : Nat} (h : n < 64) : (2 : Int) ^ n < 18446744073709551616 := by
  have h1 : (2 : Nat) ^ n < 2 ^ 64 := Nat.pow_lt_pow_right (by decide) h
  have h2 : ((2 ^ n : Nat) : Int) = (2 : Int) ^ n := by simp
  have h3 : (2 : Nat) ^ 64 = 18446744073709551616 := by decide
  omega
theorem r01_Worth.ok {n : Int} (h0 : 0 ≤ n) (h1 : n < 64) : r01_Worth.f n (2 ^ n.toNat) := by
  have key := Loop.of (b := r01_Worth.b1) (fun _ => (.go (2 ^ n.toNat) : Fin Int Int)) (fun s => s.1.toNat) (fun s => 0 ≤ s.1 ∧ s.1 < 64 ∧ 0 ≤ s.2 ∧ s.2 * 2 ^ s.1.toNat = 2 ^ n.toNat) (fun s hi => by
    obtain ⟨x1, x2⟩ := s
    obtain ⟨i0, i1, i2, i3⟩ := hi
    simp only at i0 i1 i2 i3
    by_cases hx : x1 > 0
    · have hp : (2 : Int) ^ x1.toNat = 2 * 2 ^ (x1 - 1).toNat := by
        rw [show x1.toNat = (x1 - 1).toNat + 1 by omega, Int.pow_succ, Int.mul_comm]
      have hpos : (0 : Int) < 2 ^ (x1 - 1).toNat := Int.pow_pos (by decide)
      have hle : x2 * 2 ≤ x2 * 2 * 2 ^ (x1 - 1).toNat := by have h9 := Int.mul_le_mul_of_nonneg_left (show (1 : Int) ≤ 2 ^ (x1 - 1).toNat by omega) (show 0 ≤ x2 * 2 by omega); rw [Int.mul_one] at h9; exact h9
      have he : x2 * 2 * 2 ^ (x1 - 1).toNat = 2 ^ n.toNat := by rw [← i3, hp, Int.mul_assoc]
      have hlt := two_pow_lt (n := n.toNat) (by omega)
      refine .inl ⟨(x1 - 1, x2 * 2), ?_, by simp; omega, ⟨by simp; omega, by simp; omega, by simp; omega, he⟩, rfl⟩
      unfold r01_Worth.b1
      simp only [hx, if_true]
      rw [wrap64 (by omega) (by omega), wrapu64 (by omega) (by omega)]
    · have hz : x1 = 0 := by omega
      subst hz
      refine .inr (.inl ⟨x2, by unfold r01_Worth.b1; simp, ?_⟩)
      have : x2 = 2 ^ n.toNat := by simpa using i3
      rw [this]) (n, 1) ⟨h0, h1, Int.zero_le_ofNat 1, by simp⟩
  exact ⟨_, key, rfl⟩
theorem r01_Full.ok (n : Int) : r01_Full.f n (if n < 0 ∨ n > 64 then (0, 10) else (fullM n, 0)) := by
  unfold r01_Full.f
  by_cases h : n < 0 ∨ n > 64
  · rw [if_pos (by simpa using h), if_pos h]
  · rw [if_neg (by simpa using h), if_neg h]
    have key := Loop.of (b := r01_Full.b1 n) (fun _ => (.go (fullM n) : Fin Int (Int × Int))) (fun s => (n - s.2).toNat) (fun s => 0 ≤ s.2 ∧ s.2 ≤ n ∧ s.1 = fullM s.2) (fun s hi => by
      obtain ⟨x1, x2⟩ := s
      obtain ⟨i0, i1, i2⟩ := hi
      simp only at i0 i1 i2
      by_cases hx : x2 < n
      · have hlt := two_pow_lt (n := x2.toNat) (by omega)
        have hpos : (0 : Int) < 2 ^ x2.toNat := Int.pow_pos (by decide)
        have hp : (2 : Int) ^ (x2 + 1).toNat = 2 ^ x2.toNat * 2 := by rw [show (x2 + 1).toNat = x2.toNat + 1 by omega, Int.pow_succ]
        have hs : x1 + 2 ^ x2.toNat = fullM (x2 + 1) := by rw [i2]; unfold fullM; rw [hp]; omega
        have hle : (2 : Int) ^ x2.toNat ≤ 9223372036854775808 := by
          have h1 : (2 : Nat) ^ x2.toNat ≤ 2 ^ 63 := Nat.pow_le_pow_right (by decide) (by omega)
          have h2 : ((2 ^ x2.toNat : Nat) : Int) = (2 : Int) ^ x2.toNat := by simp
          have h3 : (2 : Nat) ^ 63 = 9223372036854775808 := by decide
          omega
        refine .inl ⟨(fullM (x2 + 1), x2 + 1), ?_, by simp; omega, ⟨by simp; omega, by simp; omega, rfl⟩, rfl⟩
        unfold r01_Full.b1
        simp only [hx, if_true]
        refine ⟨_, r01_Worth.ok i0 (by omega), ?_⟩
        rw [hs, wrap64 (by omega) (by omega), wrapu64 (by unfold fullM; rw [hp]; omega) (by unfold fullM; rw [hp]; omega)]
      · have hz : x2 = n := by omega
        subst hz
        exact .inr (.inl ⟨x1, by unfold r01_Full.b1; simp, by rw [i2]⟩)) (0, 0) ⟨by decide, by simp; omega, by simp [fullM]⟩
    exact ⟨_, key, rfl⟩
end Go.RM.Try
namespace Go.RM.Try
open Go.RM
set_option linter.unusedVariables false
set_option linter.unusedSimpArgs false
/-- A space without parts. -/
def spaceOk1 (s : TSpace) : Bool :=
  if s.Tag = 1 then (s.Dim == 0) && ((s.Parts.length : Int) == 0)
  else if s.Tag = 2 then decide (s.Dim ≥ 0) && (decide (s.Dim ≤ 1048576) && ((s.Parts.length : Int) == 0))
  else if s.Tag = 3 ∨ s.Tag = 4 then decide (s.Dim ≥ 0) && (decide (s.Dim ≤ 64) && ((s.Parts.length : Int) == 0))
  else false
def spaceOk (s : TSpace) : Bool :=
  if s.Tag = 5 then (s.Dim == 0) && (((s.Parts.length : Int) == 2) && s.Parts.all (fun p => !(p.Tag == 5) && spaceOk1 p)) else spaceOk1 s
theorem weight_Space.step1 {self : TSpace → Int → Prop} {s : TSpace} (h : s.Tag ≠ 5) : weight_Space.step self s (if spaceOk1 s = true then 0 else 50) := by
  unfold weight_Space.step weight_Space.j1 spaceOk1
  by_cases h1 : s.Tag = 1
  · simp only [h1, if_true]; exact iteR _
  · by_cases h2 : s.Tag = 2
    · simp only [h2, Int.reduceEq, if_true, if_false]; exact iteR _
    · by_cases h3 : s.Tag = 3
      · simp only [h3, Int.reduceEq, if_true, if_false, true_or]; exact iteR _
      · by_cases h4 : s.Tag = 4
        · simp only [h4, Int.reduceEq, if_true, if_false, or_true]; exact iteR _
        · simp [h1, h2, h3, h4, h]
theorem spaceOk_ne {s : TSpace} (h : s.Tag ≠ 5) : spaceOk s = spaceOk1 s := by unfold spaceOk; rw [if_neg h]
theorem weight_Space.ok {s : TSpace} (hl : s.Parts.length ≤ maxLen) : weight_Space.f s (if spaceOk s = true then 0 else 50) := by
  refine ⟨2, ?_⟩
  by_cases h : s.Tag = 5
  · show weight_Space.step _ s _
    unfold weight_Space.step spaceOk
    simp only [h, if_true, if_false, show ¬ (5 : Int) = 1 by decide, show ¬ (5 : Int) = 2 by decide, show ¬ (5 : Int) = 3 by decide, show ¬ (5 : Int) = 4 by decide]
    refine ⟨s.Parts.any (fun p => (p.Tag == 5) || !spaceOk1 p), fun _ _ => ?_, ?_⟩
    · refine containsFunc (fun p => (p.Tag == 5) || !spaceOk1 p) hl (fun p hp => ?_) rfl
      refine ⟨if spaceOk1 p = true then 0 else 50, fun hn => weight_Space.step1 hn, ?_⟩
      cases spaceOk1 p <;> simp
    · have e : (!s.Parts.any (fun p => (p.Tag == 5) || !spaceOk1 p)) = s.Parts.all (fun p => !(p.Tag == 5) && spaceOk1 p) := by
        rw [List.all_eq_not_any_not]; simp
      rw [e]
      exact iteR _
  · rw [spaceOk_ne h]; exact weight_Space.step1 h
theorem r05_Space.step1 {self : TSpace → Int → Prop} {s : TSpace} (h : s.Tag ≠ 5) : r05_Space.step self s (if spaceOk1 s = true then 0 else 50) := by
  unfold r05_Space.step r05_Space.j1 spaceOk1
  by_cases h1 : s.Tag = 1
  · simp only [h1, if_true]; exact iteR _
  · by_cases h2 : s.Tag = 2
    · simp only [h2, Int.reduceEq, if_true, if_false]; exact iteR _
    · by_cases h3 : s.Tag = 3
      · simp only [h3, Int.reduceEq, if_true, if_false, true_or, beq_self_eq_true]; exact iteR _
      · by_cases h4 : s.Tag = 4
        · simp only [h4, Int.reduceEq, if_true, if_false, or_true, beq_self_eq_true]; exact iteR _
        · simp [h1, h2, h3, h4, h]
theorem r05_Space.ok {s : TSpace} (hl : s.Parts.length ≤ maxLen) : r05_Space.f s (if spaceOk s = true then 0 else 50) := by
  refine ⟨2, ?_⟩
  by_cases h : s.Tag = 5
  · show r05_Space.step _ s _
    unfold r05_Space.step spaceOk r05_Space.j1
    simp only [h, if_true, if_false, show ¬ (5 : Int) = 1 by decide, show ¬ (5 : Int) = 2 by decide, show ¬ (5 : Int) = 3 by decide, show ((5 : Int) == 4) = false by decide, Bool.false_eq_true]
    by_cases hd : ((s.Dim == 0) && ((s.Parts.length : Int) == 2)) = true
    · obtain ⟨a, b, hp⟩ : ∃ a b, s.Parts = [a, b] := by
        have : s.Parts.length = 2 := by simp at hd; omega
        match hs : s.Parts, this with
        | [a, b], _ => exact ⟨a, b, rfl⟩
      have hq : ∀ p : TSpace, ¬ p.Tag = 5 → r05_Space.fN 1 p (if spaceOk1 p = true then 0 else 50) := fun p hn => r05_Space.step1 hn
      have hx : ∀ p : TSpace, ((!(p.Tag == 5)) && ((if spaceOk1 p = true then (0 : Int) else 50) == 0)) = (!(p.Tag == 5) && spaceOk1 p) := fun p => by cases spaceOk1 p <;> simp
      have r1 : r05_Space.b1 (r05_Space.fN 1) s (true, 0) (.next (!(a.Tag == 5) && spaceOk1 a, 1)) := by
        unfold r05_Space.b1
        simp only [hp]
        refine ⟨⟨by decide, by simp⟩, fun _ => ⟨by decide, by simp⟩, _, hq a, ?_⟩
        rw [show rdl [a, b] 0 = a from rfl, hx a]; rfl
      have r2 : (!(a.Tag == 5) && spaceOk1 a) = true → r05_Space.b1 (r05_Space.fN 1) s (true, 1) (.next (!(b.Tag == 5) && spaceOk1 b, 2)) := fun _ => by
        unfold r05_Space.b1
        simp only [hp]
        refine ⟨⟨by decide, by simp⟩, fun _ => ⟨by decide, by simp⟩, _, hq b, ?_⟩
        rw [show rdl [a, b] 1 = b from rfl, hx b]; rfl
      have r3 : ∀ c, r05_Space.b1 (r05_Space.fN 1) s (c, 2) (.exit c) := fun c => by unfold r05_Space.b1; simp [hp]
      have r4 : r05_Space.b1 (r05_Space.fN 1) s (false, 1) (.exit false) := by unfold r05_Space.b1; simp [hp]
      rw [hd]
      rw [Bool.and_eq_true] at hd
      rw [hd.1, hd.2, hp]
      cases ha : (!(a.Tag == 5) && spaceOk1 a) with
      | false =>
        rw [ha] at r1
        refine ⟨_, .next r1 (.exit r4), ?_⟩
        simp [Fin.on, ha]
      | true =>
        rw [ha] at r1
        refine ⟨_, .next r1 (.next (r2 ha) (.exit (r3 _))), ?_⟩
        simp only [Fin.on, List.all_cons, List.all_nil, ha, Bool.true_and, Bool.and_true]
        exact iteR _
    · have hd' : ((s.Dim == 0) && ((s.Parts.length : Int) == 2)) = false := by simpa only [Bool.not_eq_true] using hd
      rw [hd', ← Bool.and_assoc, hd']
      refine ⟨.go false, .exit ?_, ?_⟩
      · unfold r05_Space.b1; simp
      · simp [Fin.on]
  · rw [spaceOk_ne h]; exact r05_Space.step1 h
end Go.RM.Try
namespace Go.RM.Try
open Go.RM
set_option linter.unusedVariables false
set_option linter.unusedSimpArgs false
/-- A weight that has nothing but what is named. -/
def plainB (w : TWeight) (c f e p : Bool) : Bool :=
  (c || w.Cost == 0) && ((f || (w.Facts.Gen == 0 && (w.Facts.Rows.length : Int) == 0)) && ((e || (w.Cells.length : Int) == 0) && (p || (w.Parts.length : Int) == 0)))
theorem r05_plain.ok (w : TWeight) (c f e p : Bool) : r05_plain.f w c f e p (plainB w c f e p) := by
  unfold r05_plain.f plainB
  cases c <;> cases f <;> cases e <;> cases p <;> simp [Bool.and_assoc]
/-- Sizes that a reading keeps. -/
def TWeight.Sized (w : TWeight) : Prop := w.Facts.Rows.length ≤ 17592186044416 ∧ w.Cells.length ≤ 17592186044416 ∧ w.Parts.length ≤ 17592186044416
theorem TWeight.Fit.sized {w : TWeight} (h : w.Fit) : w.Sized := by
  cases h with
  | mk _ h0 h1 h2 h3 h4 h5 h6 h7 h8 =>
    have := h2.2.1
    exact ⟨by omega, by omega, by omega⟩
theorem weight_bare.ok {w : TWeight} (h : w.Sized) (t : Int) : weight_bare.f w t (plainB w (t == 2) (t == 3) (t == 4) (t == 5)) := by
  obtain ⟨ha, hb, hc⟩ := h
  have e : ∀ a b c : Nat, a ≤ 17592186044416 → b ≤ 17592186044416 → c ≤ 17592186044416 → (IntKind.i64.wrap (IntKind.i64.wrap ((a : Int) + b) + c) == 0) = (((a : Int) == 0) && (((b : Int) == 0) && ((c : Int) == 0))) := by
    intro a b c h1 h2 h3
    rw [wrap64 (i := (a : Int) + b) (by omega) (by omega), wrap64 (by omega) (by omega), Bool.eq_iff_iff]
    simp only [beq_iff_eq, Bool.and_eq_true]
    omega
  have z : ((([] : List Int).length : Nat) : Int) = 0 := rfl
  unfold weight_bare.f weight_bare.j1 plainB
  by_cases h2 : t = 2
  · subst h2; rw [if_pos rfl]; simp only []; rw [e _ _ _ ha hb hc]; simp [Bool.and_assoc]
  · by_cases h3 : t = 3
    · subst h3; simp only [Int.reduceEq, if_true, if_false]; rw [e _ _ _ (by simp) hb hc]; simp
    · by_cases h4 : t = 4
      · subst h4; simp only [Int.reduceEq, if_true, if_false]; rw [e _ _ _ ha (by simp) hc]; simp [Bool.and_assoc]
      · by_cases h5 : t = 5
        · subst h5; simp only [Int.reduceEq, if_true, if_false]; rw [e _ _ _ ha hb (by simp)]; simp [Bool.and_assoc]
        · simp only [h2, h3, h4, h5, if_false]; rw [e _ _ _ ha hb hc]
          rw [beq_false_of_ne h2, beq_false_of_ne h3, beq_false_of_ne h4, beq_false_of_ne h5]
          simp only [Bool.false_or, Bool.and_assoc]
/-- Cells. -/
def cellOk (n : Int) (c : TCell) : Bool :=
  (bitOp .andNot .u64 c.From (fullM n) == 0) && (if c.Kind = 0 then c.K == 0 else if c.Kind = 1 then true else if c.Kind = 2 then (c.K == 0) && (c.From == 0) else false)
theorem cells_mask.ok {n : Int} (h0 : 0 ≤ n) (h1 : n ≤ 64) : cells_mask.f n (fullM n) := by
  unfold cells_mask.f
  by_cases h : n ≥ 64
  · have : n = 64 := by omega
    subst this
    simp only [ge_iff_le, Int.le_refl, if_true]; decide
  · rw [if_neg h]
    refine ⟨h0, ?_⟩
    have hlt := two_pow_lt (n := n.toNat) (by omega)
    have hpos : (0 : Int) < 2 ^ n.toNat := Int.pow_pos (by decide)
    have e : shlI .u64 1 n = 2 ^ n.toNat := by
      unfold shlI
      rw [show (min n.toNat IntKind.u64.bits) = n.toNat by simp [IntKind.bits]; omega]
      rw [Int.one_mul, wrapu64 (by omega) hlt]
    rw [e, wrapu64 (by omega) (by omega)]
    rfl
theorem cells_right.ok {n : Int} (h0 : 0 ≤ n) (h1 : n ≤ 64) (c : TCell) : cells_right.f n c (cellOk n c) := by
  refine ⟨_, cells_mask.ok h0 h1, ?_⟩
  unfold cellOk
  by_cases hm : bitOp .andNot .u64 c.From (fullM n) = 0
  · simp only [hm, if_true, beq_self_eq_true, Bool.true_and]
    by_cases k1 : c.Kind = 1
    · simp [k1]
    · by_cases k0 : c.Kind = 0
      · simp [k0]
      · by_cases k2 : c.Kind = 2
        · simp [k2, Bool.and_comm]
        · simp [k0, k1, k2]
  · simp [hm]
theorem fullI {n : Int} (h0 : 0 ≤ n) (h1 : n ≤ 64) : (if n < 0 ∨ n > 64 then ((0, 10) : Int × Int) else (fullM n, 0)) = (fullM n, 0) := by rw [if_neg (by omega)]
theorem r03_Inside.ok {n : Int} (h0 : 0 ≤ n) (h1 : n ≤ 64) (x : Int) : r03_Inside.f n x (bitOp .andNot .u64 x (fullM n) == 0) := by
  have := r01_Full.ok n
  rw [fullI h0 h1] at this
  exact ⟨_, this, rfl⟩
theorem r05_cell.ok {n : Int} (h0 : 0 ≤ n) (h1 : n ≤ 64) (c : TCell) : r05_cell.f n c (cellOk n c) := by
  refine ⟨_, r03_Inside.ok h0 h1 _, ?_⟩
  unfold cellOk
  by_cases hm : bitOp .andNot .u64 c.From (fullM n) = 0
  · simp only [hm, if_true, beq_self_eq_true, Bool.true_and]
    by_cases k0 : c.Kind = 0
    · simp [k0]
    · by_cases k1 : c.Kind = 1
      · simp [k1]
      · by_cases k2 : c.Kind = 2
        · simp [k2]
        · simp [k0, k1, k2]
  · simp [hm]
def cellsOk (n : Int) (l : List TCell) : Bool := ((l.length : Int) == n) && l.all (cellOk n)
theorem cells_Check.ok {n : Int} (h0 : 0 ≤ n) (h1 : n ≤ 64) {l : List TCell} (hl : l.length ≤ maxLen) : cells_Check.f n l (if cellsOk n l = true then 0 else 40) := by
  refine ⟨0, ?_, ?_⟩
  · unfold cells_dims.f; rw [if_neg (by simp; omega)]
  · simp only [if_true]
    unfold cellsOk
    by_cases hn : (l.length : Int) = n
    · rw [if_pos hn]
      have key := eachLoop (l := l) (b := cells_Check.b1 n l) (cellOk n) (40 : Int) (fun i i0 i1 => by
        unfold cells_Check.b1
        simp only [i1, if_true]
        exact ⟨fun ht => ⟨⟨i0, i1⟩, _, cells_right.ok h0 h1 _, by rw [ht, if_pos rfl, wrap_len hl i0 i1]⟩, fun ht => ⟨⟨i0, i1⟩, _, cells_right.ok h0 h1 _, by rw [ht]; simp⟩⟩) (fun i i0 i1 => by unfold cells_Check.b1; rw [if_neg i1])
      refine ⟨_, key, ?_⟩
      cases l.all (cellOk n) <;> simp [Fin.on, hn]
    · rw [if_neg hn]
      simp [hn]
end Go.RM.Try
namespace Go.RM.Try
open Go.RM
set_option linter.unusedVariables false
set_option linter.unusedSimpArgs false
theorem slices_Equal_uint64.ok {a b : List Int} (hl : a.length ≤ maxLen) : slices_Equal_uint64.f a b (decide (a = b)) := by
  unfold slices_Equal_uint64.f
  by_cases h : (a.length : Int) = b.length
  · rw [if_pos h]
    exact ⟨_, eqRound hl (by omega) rfl, eqOn⟩
  · rw [if_neg h]
    have : a ≠ b := fun e => h (by rw [e])
    simp [this]
theorem r11_sameWord.ok {a b : List Int} (hl : a.length ≤ maxLen) : r11_sameWord.f a b (decide (a = b)) := by
  unfold r11_sameWord.f
  by_cases h : (a.length : Int) = b.length
  · rw [if_pos h]
    exact ⟨_, eqRound hl (by omega) rfl, eqOn⟩
  · rw [if_neg h]
    have : a ≠ b := fun e => h (by rw [e])
    simp [this]
def factsEq (a b : TFacts) : Bool := (a.Gen == b.Gen) && decide (a.Rows = b.Rows)
theorem facts_Same.ok {a b : TFacts} (hl : a.Rows.length ≤ maxLen) : facts_Same.f a b (factsEq a b) :=
  ⟨_, fun _ => slices_Equal_uint64.ok hl, rfl⟩
theorem r03_Same.ok {a b : TFacts} (hl : a.Rows.length ≤ maxLen) : r03_Same.f a b (factsEq a b) := by
  unfold r03_Same.f factsEq
  by_cases hg : a.Gen = b.Gen
  · by_cases h : (a.Rows.length : Int) = b.Rows.length
    · rw [if_neg (by simp [hg, h])]
      refine ⟨_, eqRound hl (by omega) rfl, ?_⟩
      simp only [hg, beq_self_eq_true, Bool.true_and]
      exact eqOn
    · rw [if_pos (by simp [h])]
      have : a.Rows ≠ b.Rows := fun e => h (by rw [e])
      simp [this]
  · rw [if_pos (by simp [hg])]
    simp [hg]
def canonM (F : TFacts) : TFacts := ⟨F.Gen, F.Rows.map (fun r => bitOp .andNot .u64 r F.Gen)⟩
theorem upto_rdl {α : Type} [Inhabited α] (l : List α) : (upto l.length).map (rdl l) = l := by
  apply List.ext_getElem?
  intro k
  simp only [upto, List.map_map, List.getElem?_map]
  by_cases h : k < l.length
  · rw [List.getElem?_range h]
    have := rdl_get (l := l) (i := (k : Int)) (by omega) (by omega)
    simp only [Int.toNat_natCast] at this
    rw [this]; rfl
  · rw [List.getElem?_eq_none (by simp; omega), List.getElem?_eq_none (by omega)]; rfl
theorem facts_canon.ok {F : TFacts} (h : F.Rows.length ≤ 17592186044416) : facts_canon.f F (canonM F) := by
  refine ⟨⟨by omega, by unfold Fits; omega⟩, ?_⟩
  have hm : F.Rows.length ≤ maxLen := by unfold maxLen; omega
  have key := fillLoop (n := (F.Rows.length : Int)) (b := facts_canon.b1 F) (0 : Int) (fun i _ => bitOp .andNot .u64 (rdl F.Rows i) F.Gen) (by omega) (fun i l h0 h1 hl => by
    unfold facts_canon.b1
    simp only [h1, if_true]
    exact ⟨⟨h0, h1⟩, ⟨h0, by omega⟩, by rw [wrap_len hm h0 h1]⟩) (fun l hl => by
    unfold facts_canon.b1
    simp)
  refine ⟨_, key, ?_⟩
  show canonM F = _
  unfold canonM
  congr 1
  have : F.Rows.map (fun r => bitOp .andNot .u64 r F.Gen) = ((upto F.Rows.length).map (rdl F.Rows)).map (fun r => bitOp .andNot .u64 r F.Gen) := by rw [upto_rdl]
  rw [this, List.map_map]; simp [Function.comp_def]
theorem r03_canon.ok {F : TFacts} (h : F.Rows.length ≤ 17592186044416) : r03_canon.f F (canonM F) := by
  have hm : F.Rows.length ≤ maxLen := by unfold maxLen; omega
  have key := foldLoop (l := F.Rows) (b := r03_canon.b1 F) (fun i l => (l, i)) id (fun _ x acc => .go (acc ++ [bitOp .andNot .u64 x F.Gen])) (fun i l => (l.length : Int) = i) (fun i l h0 h1 hi => by
    refine ⟨?_, by simp; omega⟩
    unfold r03_canon.b1
    simp only [h1, if_true]
    exact ⟨⟨h0, h1⟩, by unfold Fits; omega, by rw [wrap_len hm h0 h1]⟩) (fun l hl => by unfold r03_canon.b1; simp) [] rfl
  refine ⟨_, key.1, ?_⟩
  rw [foldF_map]
  rfl
/-- Facts of n that are written as they are to be. -/
def factsOk (n : Int) (F : TFacts) : Bool :=
  ((F.Rows.length : Int) == n) && ((bitOp .andNot .u64 F.Gen (fullM n) == 0) && (F.Rows.all (fun x => bitOp .andNot .u64 x (fullM n) == 0) && factsEq (canonM F) F))
theorem canonM_len (F : TFacts) : (canonM F).Rows.length = F.Rows.length := by simp [canonM]
theorem facts_Check.ok {n : Int} (h0 : 0 ≤ n) (h1 : n ≤ 64) {F : TFacts} (hl : F.Rows.length ≤ 17592186044416) : facts_Check.f n F (if factsOk n F = true then 0 else 30) := by
  have hm : F.Rows.length ≤ maxLen := by unfold maxLen; omega
  let a := F.Rows.any (fun x => bitOp .andNot .u64 x (fullM n) != 0)
  have hs : facts_shaped.f n F (if ((!((F.Rows.length : Int) == n)) || ((!((bitOp .andNot .u64 F.Gen (fullM n)) == 0)) || a)) = true then 30 else 0) := by
    have hf := bits_Full.ok n
    rw [fullI h0 h1] at hf
    refine ⟨_, hf, ?_⟩
    simp only [if_true]
    refine ⟨a, fun _ _ => containsFunc (q := fun x0_ y_ => facts_shaped_1.f x0_ (fullM n) y_) (fun x => bitOp .andNot .u64 x (fullM n) != 0) hm (fun x hx => rfl) rfl, iteR _⟩
  refine ⟨_, hs, ?_⟩
  have e : F.Rows.all (fun x => bitOp .andNot .u64 x (fullM n) == 0) = !a := by simp [a, List.all_eq_not_any_not]; rfl
  unfold factsOk
  rw [e]
  by_cases hn : (F.Rows.length : Int) = n
  · by_cases hg : bitOp .andNot .u64 F.Gen (fullM n) = 0
    · cases ha : a with
      | false =>
        simp only [hn, hg, beq_self_eq_true, Bool.not_true, Bool.or_self, Bool.false_eq_true, if_false, if_true]
        refine ⟨_, facts_canon.ok hl, _, facts_Same.ok (by rw [canonM_len]; exact hm), ?_⟩
        cases factsEq (canonM F) F <;> simp
      | true => simp [hn, hg]
    · simp [hg]
  · simp [hn]
theorem r03_Check.ok {n : Int} (h0 : 0 ≤ n) (h1 : n ≤ 64) {F : TFacts} (hl : F.Rows.length ≤ 17592186044416) : r03_Check.f n F (if factsOk n F = true then 0 else 30) := by
  have hm : F.Rows.length ≤ maxLen := by unfold maxLen; omega
  let s : Bool := ((F.Rows.length : Int) == n) && ((bitOp .andNot .u64 F.Gen (fullM n) == 0) && F.Rows.all (fun x => bitOp .andNot .u64 x (fullM n) == 0))
  have hs : r03_shape.f n F s := by
    refine ⟨_, fun _ => r03_Inside.ok h0 h1 _, ?_⟩
    by_cases hn : (F.Rows.length : Int) = n
    · by_cases hg : bitOp .andNot .u64 F.Gen (fullM n) = 0
      · rw [if_neg (by simp [hn, hg])]
        have key := eachLoop (l := F.Rows) (b := r03_shape.b1 n F) (fun x => bitOp .andNot .u64 x (fullM n) == 0) false (fun i i0 i1 => by
          unfold r03_shape.b1
          have i2 : i < n := by omega
          simp only [i2, if_true]
          exact ⟨fun ht => ⟨⟨i0, i1⟩, _, r03_Inside.ok h0 h1 _, by rw [ht, if_pos rfl, wrap_len hm i0 i1]⟩, fun ht => ⟨⟨i0, i1⟩, _, r03_Inside.ok h0 h1 _, by rw [ht]; simp⟩⟩) (fun i i0 i1 => by unfold r03_shape.b1; rw [if_neg (by omega)])
        refine ⟨_, key, ?_⟩
        simp only [s, hn, hg, beq_self_eq_true, Bool.true_and]
        cases F.Rows.all (fun x => bitOp .andNot .u64 x (fullM n) == 0) <;> simp [Fin.on]
      · rw [if_pos (by simp [hg])]; simp [s, hg]
    · rw [if_pos (by simp [hn])]; simp [s, hn]
  refine ⟨true, ?_, ?_⟩
  · unfold r03_dim.f; simp; omega
  · rw [if_pos rfl]
    refine ⟨_, hs, _, fun _ => r03_canon.ok hl, _, fun _ => r03_Same.ok (by rw [canonM_len]; exact hm), ?_⟩
    have e : factsOk n F = (s && factsEq (canonM F) F) := by simp [factsOk, s, Bool.and_assoc]
    rw [e]
    cases s <;> cases factsEq (canonM F) F <;> simp
end Go.RM.Try
namespace Go.RM.Try
open Go.RM
set_option linter.unusedVariables false
set_option linter.unusedSimpArgs false
def isW1 (s : TSpace) (w : TWeight) : Bool :=
  if w.Zero = true then plainB w false false false false
  else plainB w (s.Tag == 2) (s.Tag == 3) (s.Tag == 4) false && (if s.Tag = 2 then decide (w.Cost ≥ 0) && decide (w.Cost ≤ s.Dim) else if s.Tag = 3 then factsOk s.Dim w.Facts else if s.Tag = 4 then cellsOk s.Dim w.Cells else true)
def isW (s : TSpace) (w : TWeight) : Bool :=
  if s.Tag = 5 then (!w.Zero) && (plainB w false false false true && (((w.Parts.length : Int) == 2) && (isW1 (rdl s.Parts 0) (rdl w.Parts 0) && isW1 (rdl s.Parts 1) (rdl w.Parts 1)))) else isW1 s w
def TWeight.Sized2 (w : TWeight) : Prop := w.Sized ∧ ∀ p ∈ w.Parts, p.Sized
theorem TWeight.Fit.sized2 {w : TWeight} (h : w.Fit) : w.Sized2 := ⟨h.sized, by
  cases h with
  | mk _ h0 h1 h2 h3 h4 h5 h6 h7 h8 => exact fun p hp => (h8 p hp).sized⟩
/-- The kinds of spaces without parts. -/
theorem space1_cases {s : TSpace} (h : spaceOk1 s = true) : (s.Tag = 1 ∧ s.Dim = 0) ∨ (s.Tag = 2 ∧ 0 ≤ s.Dim ∧ s.Dim ≤ 1048576) ∨ (s.Tag = 3 ∧ 0 ≤ s.Dim ∧ s.Dim ≤ 64) ∨ (s.Tag = 4 ∧ 0 ≤ s.Dim ∧ s.Dim ≤ 64) := by
  unfold spaceOk1 at h
  by_cases h1 : s.Tag = 1
  · simp [h1] at h; exact .inl ⟨h1, h.1⟩
  · by_cases h2 : s.Tag = 2
    · simp [h2] at h; exact .inr (.inl ⟨h2, h.1, h.2.1⟩)
    · by_cases h3 : s.Tag = 3
      · simp [h3] at h; exact .inr (.inr (.inl ⟨h3, h.1, h.2.1⟩))
      · by_cases h4 : s.Tag = 4
        · simp [h4] at h; exact .inr (.inr (.inr ⟨h4, h.1, h.2.1⟩))
        · simp [h1, h2, h3, h4] at h
theorem space_parts {s : TSpace} (h : spaceOk s = true) (h5 : s.Tag = 5) : ∃ a b, s.Parts = [a, b] ∧ spaceOk1 a = true ∧ spaceOk1 b = true ∧ a.Tag ≠ 5 ∧ b.Tag ≠ 5 ∧ s.Dim = 0 := by
  unfold spaceOk at h
  rw [if_pos h5] at h
  rw [Bool.and_eq_true, Bool.and_eq_true] at h
  obtain ⟨hd, hl, ha⟩ := h
  have : s.Parts.length = 2 := by simp at hl; omega
  match hs : s.Parts, this with
  | [a, b], _ =>
    rw [hs] at ha
    simp at ha hd
    exact ⟨a, b, rfl, ha.1.2, ha.2.2, ha.1.1, ha.2.1, hd⟩
theorem weight_is.step1 {self : TSpace → TWeight → Bool → Prop} {s : TSpace} {w : TWeight} (hs : spaceOk1 s = true) (hw : w.Sized) : weight_is.step self s w (isW1 s w) := by
  have hm : w.Cells.length ≤ maxLen := by have := hw.2.1; unfold maxLen; omega
  unfold weight_is.step isW1
  cases hz : w.Zero with
  | true =>
    rw [if_pos rfl, if_pos rfl]
    refine ⟨_, fun _ => weight_bare.ok hw 0, ?_⟩
    have h5 : s.Tag ≠ 5 := by rcases space1_cases hs with h | h | h | h <;> omega
    simp [h5]
  | false =>
    rw [if_neg Bool.false_ne_true, if_neg Bool.false_ne_true]
    have h5 : s.Tag ≠ 5 := by rcases space1_cases hs with h | h | h | h <;> omega
    refine ⟨_, weight_bare.ok hw s.Tag, ?_⟩
    rw [beq_false_of_ne h5]
    cases hp : plainB w (s.Tag == 2) (s.Tag == 3) (s.Tag == 4) false with
    | false => simp
    | true =>
      rw [if_pos rfl, Bool.true_and]
      rcases space1_cases hs with h | h | h | h
      · simp [h.1]
      · simp only [h.1, Int.reduceEq, if_true, if_false]
        refine ⟨_, fun _ => cost_Check.ok _ _, ?_⟩
        unfold costE
        rw [if_neg (by omega), Bool.eq_iff_iff]
        by_cases hv : w.Cost < -1 ∨ w.Cost > s.Dim
        · rw [if_pos hv]; simp; omega
        · rw [if_neg hv]; simp; omega
      · simp only [h.1, Int.reduceEq, if_true, if_false]
        refine ⟨_, facts_Check.ok h.2.1 h.2.2 hw.1, ?_⟩
        cases factsOk s.Dim w.Facts <;> simp
      · simp only [h.1, Int.reduceEq, if_true, if_false]
        refine ⟨_, cells_Check.ok h.2.1 h.2.2 hm, ?_⟩
        cases cellsOk s.Dim w.Cells <;> simp
theorem isW_ne {s : TSpace} {w : TWeight} (h : s.Tag ≠ 5) : isW s w = isW1 s w := by unfold isW; rw [if_neg h]
theorem part_sized {w : TWeight} (hw : w.Sized2) {i : Int} (h0 : 0 ≤ i) (h1 : i < w.Parts.length) : (rdl w.Parts i).Sized := hw.2 _ (rdl_mem h0 h1)
theorem weight_is.ok {s : TSpace} {w : TWeight} (hs : spaceOk s = true) (hw : w.Sized2) : weight_is.f s w (isW s w) := by
  refine ⟨2, ?_⟩
  by_cases h5 : s.Tag = 5
  · obtain ⟨a, b, hp, ha, hb, _, _, hd⟩ := space_parts hs h5
    show weight_is.step (weight_is.fN 1) s w _
    unfold weight_is.step isW
    rw [if_pos h5]
    cases hz : w.Zero with
    | true =>
      rw [if_pos rfl]
      exact ⟨false, fun h => (h h5).elim, by simp [h5]⟩
    | false =>
      rw [if_neg Bool.false_ne_true]
      refine ⟨_, weight_bare.ok hw.1 s.Tag, ?_⟩
      simp only [h5, Int.reduceBEq]
      cases hb : plainB w false false false true with
      | false => simp
      | true =>
        simp only [Int.reduceEq, if_true, if_false, hp]
        by_cases h2 : (w.Parts.length : Int) = 2
        · refine ⟨fun _ => ⟨by decide, by simp⟩, fun _ => ⟨by decide, by omega⟩, _, fun _ => weight_is.step1 (self := weight_is.fN 0) ha (part_sized hw (by decide) (by omega)), fun _ _ => ⟨by decide, by simp⟩, fun _ _ => ⟨by decide, by omega⟩, _, fun _ _ => weight_is.step1 (self := weight_is.fN 0) (by assumption) (part_sized hw (by decide) (by omega)), ?_⟩
          simp [h2]
        · refine ⟨fun h => (h2 h).elim, fun h => (h2 h).elim, false, fun h => (h2 h).elim, fun h => (h2 h).elim, fun h => (h2 h).elim, false, fun h => (h2 h).elim, ?_⟩
          simp [h2]
  · have h1 : spaceOk1 s = true := by rw [← spaceOk_ne h5]; exact hs
    rw [isW_ne h5]; exact weight_is.step1 h1 hw.1
theorem r05_is.step1 {self : TSpace → TWeight → Bool → Prop} {s : TSpace} {w : TWeight} (hs : spaceOk1 s = true) (hw : w.Sized) : r05_is.step self s w (isW1 s w) := by
  have hm : w.Cells.length ≤ maxLen := by have := hw.2.1; unfold maxLen; omega
  unfold r05_is.step isW1
  have h5 : s.Tag ≠ 5 := by rcases space1_cases hs with h | h | h | h <;> omega
  cases hz : w.Zero with
  | true =>
    rw [if_pos rfl, if_pos rfl]
    exact ⟨_, fun _ => r05_plain.ok w false false false false, by simp [h5]⟩
  | false =>
    rw [if_neg Bool.false_ne_true, if_neg Bool.false_ne_true]
    rcases space1_cases hs with h | h | h | h
    · simp only [h.1, Int.reduceEq, Int.reduceBEq, if_true, if_false, Bool.and_true]
      exact ⟨_, r05_plain.ok w false false false false, rfl⟩
    · simp only [h.1, Int.reduceEq, Int.reduceBEq, if_true, if_false]
      exact ⟨_, r05_plain.ok w true false false false, rfl⟩
    · simp only [h.1, Int.reduceEq, Int.reduceBEq, if_true, if_false]
      refine ⟨_, r05_plain.ok w false true false false, _, fun _ => r03_Check.ok h.2.1 h.2.2 hw.1, ?_⟩
      cases factsOk s.Dim w.Facts <;> simp
    · simp only [h.1, Int.reduceEq, Int.reduceBEq, if_true, if_false]
      refine ⟨_, r05_plain.ok w false false true false, ?_⟩
      unfold cellsOk
      cases hp : plainB w false false true false with
      | false => simp
      | true =>
        by_cases hn : (w.Cells.length : Int) = s.Dim
        · rw [if_neg (by simp [hn])]
          have key := eachLoop (l := w.Cells) (b := r05_is.b1 s w) (cellOk s.Dim) false (fun i i0 i1 => by
            unfold r05_is.b1
            simp only [i1, if_true]
            exact ⟨fun ht => ⟨⟨i0, i1⟩, _, r05_cell.ok h.2.1 h.2.2 _, by rw [ht, if_pos rfl, wrap_len hm i0 i1]⟩, fun ht => ⟨⟨i0, i1⟩, _, r05_cell.ok h.2.1 h.2.2 _, by rw [ht]; simp⟩⟩) (fun i i0 i1 => by unfold r05_is.b1; simp only [i1, if_false])
          refine ⟨_, key, ?_⟩
          cases w.Cells.all (cellOk s.Dim) <;> simp [Fin.on, hn]
        · rw [if_pos (by simp [hn])]; simp [hn]
theorem r05_is.ok {s : TSpace} {w : TWeight} (hs : spaceOk s = true) (hw : w.Sized2) : r05_is.f s w (isW s w) := by
  refine ⟨2, ?_⟩
  by_cases h5 : s.Tag = 5
  · obtain ⟨a, b, hp, ha, hb, _, _, hd⟩ := space_parts hs h5
    show r05_is.step (r05_is.fN 1) s w _
    unfold r05_is.step isW
    rw [if_pos h5]
    cases hz : w.Zero with
    | true =>
      rw [if_pos rfl]
      exact ⟨false, fun h => (h h5).elim, by simp [h5]⟩
    | false =>
      rw [if_neg Bool.false_ne_true]
      simp only [h5, Int.reduceEq, if_true, if_false, hp]
      refine ⟨_, r05_plain.ok w false false false true, ?_⟩
      cases hb : plainB w false false false true with
      | false => exact ⟨fun h => (by cases h), fun h => (by cases h), false, fun h => (by cases h), fun h => (by cases h), fun h => (by cases h), false, fun h => (by cases h), by simp⟩
      | true =>
        by_cases h2 : (w.Parts.length : Int) = 2
        · refine ⟨fun _ _ => ⟨by decide, by simp⟩, fun _ _ => ⟨by decide, by omega⟩, _, fun _ _ => r05_is.step1 (self := r05_is.fN 0) ha (part_sized hw (by decide) (by omega)), fun _ _ _ => ⟨by decide, by simp⟩, fun _ _ _ => ⟨by decide, by omega⟩, _, fun _ _ _ => r05_is.step1 (self := r05_is.fN 0) (by assumption) (part_sized hw (by decide) (by omega)), ?_⟩
          simp [h2]
        · refine ⟨fun _ h => (h2 h).elim, fun _ h => (h2 h).elim, false, fun _ h => (h2 h).elim, fun _ h => (h2 h).elim, fun _ h => (h2 h).elim, false, fun _ h => (h2 h).elim, ?_⟩
          simp [h2]
  · have h1 : spaceOk1 s = true := by rw [← spaceOk_ne h5]; exact hs
    rw [isW_ne h5]; exact r05_is.step1 h1 hw.1
/-- The code of weights that are to be of a space. -/
def allC (s : TSpace) (l : List TWeight) : Int := if spaceOk s = true then (if l.all (isW s) = true then 0 else 51) else 50
theorem weight_checked.ok {s : TSpace} {l : List TWeight} (hs : s.Parts.length ≤ maxLen) (hl : l.length ≤ maxLen) (hw : ∀ w ∈ l, w.Sized2) : weight_checked.f s l (allC s l) := by
  refine ⟨_, weight_Space.ok hs, ?_⟩
  unfold allC
  cases h : spaceOk s with
  | false => simp
  | true =>
    simp only [if_true]
    refine ⟨l.any (fun w => !isW s w), containsFunc (q := fun x y => weight_checked_1.f x s y) (fun w => !isW s w) hl (fun w hm => ⟨_, weight_is.ok h (hw w hm), rfl⟩) rfl, ?_⟩
    rw [List.all_eq_not_any_not]
    cases l.any (fun w => !isW s w) <;> simp
def wC (s : TSpace) (w : TWeight) : Int := if spaceOk s = true then (if isW s w = true then 0 else 51) else 50
theorem wC_all (s : TSpace) (w : TWeight) : allC s [w] = wC s w := by simp [allC, wC]
theorem weight_Check.ok {s : TSpace} {w : TWeight} (hs : s.Parts.length ≤ maxLen) (hw : w.Sized2) : weight_Check.f s w (wC s w) := by
  refine ⟨_, weight_checked.ok hs (by simp [maxLen]) (fun x hx => by simp at hx; subst hx; exact hw), (wC_all s w).symm⟩
theorem r05_Check.ok {s : TSpace} {w : TWeight} (hs : s.Parts.length ≤ maxLen) (hw : w.Sized2) : r05_Check.f s w (wC s w) := by
  refine ⟨_, r05_Space.ok hs, ?_⟩
  unfold wC
  cases h : spaceOk s with
  | false => simp
  | true =>
    simp only [if_true]
    exact ⟨_, r05_is.ok h hw, iteR _⟩
end Go.RM.Try
namespace Go.RM.Try
open Go.RM
set_option linter.unusedVariables false
set_option linter.unusedSimpArgs false
def ruleOk (p : TPds) (r : TRule) : Bool :=
  inB r.P p.States && (inB r.Q p.States && (inB r.G p.Symbols && (decide ((r.W.length : Int) ≤ 4096) && r.W.all (fun g => inB g p.Symbols))))
theorem pds_rule.ok {p : TPds} {r : TRule} (hl : r.W.length ≤ maxLen) : pds_rule.f p r (ruleOk p r) := by
  refine ⟨_, pds_in.ok _ _, _, fun _ => pds_in.ok _ _, _, fun _ _ => pds_in.ok _ _, r.W.any (fun g => !inB g p.Symbols), fun _ _ _ _ => ?_, ?_⟩
  · exact containsFunc (q := fun x y => pds_rule_1.f x p y) (fun g => !inB g p.Symbols) hl (fun g hg => ⟨_, pds_in.ok _ _, rfl⟩) rfl
  · unfold ruleOk; rw [List.all_eq_not_any_not]
theorem r11_rule.ok {p : TPds} {r : TRule} (hl : r.W.length ≤ maxLen) : r11_rule.f p r (ruleOk p r) := by
  refine ⟨_, r11_in.ok _ _, _, fun _ => r11_in.ok _ _, _, fun _ _ => r11_in.ok _ _, ?_⟩
  unfold ruleOk
  cases inB r.P p.States with
  | false => simp
  | true =>
    cases inB r.Q p.States with
    | false => simp
    | true =>
      cases inB r.G p.Symbols with
      | false => simp
      | true =>
        by_cases h : (r.W.length : Int) > 4096
        · have h' : ¬ (r.W.length : Int) ≤ 4096 := by omega
          simp [h, decide_eq_false h']
        · rw [if_neg (by simp; omega)]
          have key := eachLoop (l := r.W) (b := r11_rule.b1 p r) (fun g => inB g p.Symbols) false (fun i i0 i1 => by
            unfold r11_rule.b1
            simp only [i1, if_true]
            exact ⟨fun ht => ⟨⟨i0, i1⟩, _, r11_in.ok _ _, by rw [ht, if_pos rfl, wrap_len hl i0 i1]⟩, fun ht => ⟨⟨i0, i1⟩, _, r11_in.ok _ _, by rw [ht]; simp⟩⟩) (fun i i0 i1 => by unfold r11_rule.b1; simp only [i1, if_false])
          refine ⟨_, key, ?_⟩
          rw [decide_eq_true (show (r.W.length : Int) ≤ 4096 by omega)]
          cases r.W.all (fun g => inB g p.Symbols) <;> simp [Fin.on]
/-- The code of a system. -/
def pC (p : TPds) : Int :=
  if spaceOk p.Space = true then
    if (p.Rules.length : Int) > 16384 then 3
    else if (decide (p.States < 0) || (decide (p.States > 4096) || (decide (p.Symbols < 0) || decide (p.Symbols > 4096)))) = true then 110
    else if p.Rules.all (ruleOk p) = true then (if p.Rules.all (fun r => isW p.Space r.F) = true then 0 else 51) else 110
  else 50
structure TPds.Sized (p : TPds) : Prop where
  parts : p.Space.Parts.length ≤ maxLen
  rules : p.Rules.length ≤ 17592186044416
  words : ∀ r ∈ p.Rules, r.W.length ≤ maxLen
  weights : ∀ r ∈ p.Rules, r.F.Sized2
theorem TPds.Sized.rl {p : TPds} (h : p.Sized) : p.Rules.length ≤ maxLen := by have := h.rules; unfold maxLen; omega
theorem pds_Check.ok {p : TPds} (h : p.Sized) : pds_Check.f p (pC p) := by
  refine ⟨_, weight_Space.ok h.parts, ?_⟩
  unfold pC
  cases hs : spaceOk p.Space with
  | false => simp
  | true =>
    simp only [if_true]
    by_cases hr : (p.Rules.length : Int) > 16384
    · rw [if_pos hr, if_pos hr]
    · rw [if_neg hr, if_neg hr]
      by_cases hn : (decide (p.States < 0) || (decide (p.States > 4096) || (decide (p.Symbols < 0) || decide (p.Symbols > 4096)))) = true
      · rw [if_pos hn, if_pos hn]
      · rw [if_neg hn, if_neg hn]
        refine ⟨p.Rules.any (fun r => !ruleOk p r), containsFunc (q := fun x y => pds_Check_1.f x p y) (fun r => !ruleOk p r) h.rl (fun r hm => ⟨_, pds_rule.ok (h.words r hm), rfl⟩) rfl, ?_⟩
        rw [List.all_eq_not_any_not]
        cases p.Rules.any (fun r => !ruleOk p r) with
        | true => simp
        | false =>
          simp only [Bool.false_eq_true, if_false, Bool.not_false, if_true]
          have key := eachLoop (l := p.Rules) (b := pds_Check.b1 p) (fun r => isW p.Space r.F) (51 : Int) (fun i i0 i1 => by
            unfold pds_Check.b1
            simp only [i1, if_true]
            have hw := weight_Check.ok h.parts (h.weights _ (rdl_mem i0 i1))
            unfold wC at hw
            rw [if_pos hs] at hw
            exact ⟨fun ht => ⟨⟨i0, i1⟩, _, hw, by rw [ht, if_pos rfl, if_pos rfl, wrap_len h.rl i0 i1]⟩, fun ht => ⟨⟨i0, i1⟩, _, hw, by rw [ht]; simp⟩⟩) (fun i i0 i1 => by unfold pds_Check.b1; simp only [i1, if_false])
          refine ⟨_, key, ?_⟩
          cases p.Rules.all (fun r => isW p.Space r.F) <;> simp [Fin.on]
theorem r11_Check.ok {p : TPds} (h : p.Sized) : r11_Check.f p (pC p) := by
  refine ⟨_, r05_Space.ok h.parts, ?_⟩
  unfold pC
  cases hs : spaceOk p.Space with
  | false => simp
  | true =>
    simp only [if_true]
    by_cases hr : (p.Rules.length : Int) > 16384
    · rw [if_pos hr, if_pos hr]
    · rw [if_neg hr, if_neg hr]
      by_cases hn : (decide (p.States < 0) || (decide (p.States > 4096) || (decide (p.Symbols < 0) || decide (p.Symbols > 4096)))) = true
      · rw [if_pos hn, if_pos hn]
      · rw [if_neg hn, if_neg hn]
        have key1 := eachLoop (l := p.Rules) (b := r11_Check.b1 p) (ruleOk p) (110 : Int) (fun i i0 i1 => by
          unfold r11_Check.b1
          simp only [i1, if_true]
          have hw := r11_rule.ok (p := p) (h.words _ (rdl_mem i0 i1))
          exact ⟨fun ht => ⟨⟨i0, i1⟩, _, hw, by rw [ht, if_pos rfl, wrap_len h.rl i0 i1]⟩, fun ht => ⟨⟨i0, i1⟩, _, hw, by rw [ht]; simp⟩⟩) (fun i i0 i1 => by unfold r11_Check.b1; simp only [i1, if_false])
        refine ⟨_, key1, ?_⟩
        cases p.Rules.all (ruleOk p) with
        | false => simp [Fin.on]
        | true =>
          simp only [if_true, Fin.on]
          have key := eachLoop (l := p.Rules) (b := r11_Check.b2 p) (fun r => isW p.Space r.F) (51 : Int) (fun i i0 i1 => by
            unfold r11_Check.b2
            simp only [i1, if_true]
            have hw := r05_Check.ok h.parts (h.weights _ (rdl_mem i0 i1))
            unfold wC at hw
            rw [if_pos hs] at hw
            exact ⟨fun ht => ⟨⟨i0, i1⟩, _, hw, by rw [ht, if_pos rfl, if_pos rfl, wrap_len h.rl i0 i1]⟩, fun ht => ⟨⟨i0, i1⟩, _, hw, by rw [ht]; simp⟩⟩) (fun i i0 i1 => by unfold r11_Check.b2; simp only [i1, if_false])
          refine ⟨_, key, ?_⟩
          cases p.Rules.all (fun r => isW p.Space r.F) <;> simp [Fin.on]
end Go.RM.Try
namespace Go.RM.Try
open Go.RM
set_option linter.unusedVariables false
set_option linter.unusedSimpArgs false
def bigB (w : TWeight) (d : Int) : Bool := (decide ((w.Facts.Rows.length : Int) > 70)) || ((decide ((w.Cells.length : Int) > 70)) || ((decide ((w.Parts.length : Int) > 3)) || (decide (d > 3))))
def smallM : Nat → TWeight → Int → Bool
  | 0, _, _ => false
  | n + 1, w, d => if bigB w d = true then false else w.Parts.all (fun p => smallM n p (d + 1))
theorem l11_small.fok : ∀ (n : Nat) (w : TWeight) (d : Int), 0 ≤ d → d ≤ 4 → d + n ≥ 5 → l11_small.fN n w d (smallM n w d)
  | 0, w, d, h0, h1, h2 => by omega
  | n + 1, w, d, h0, h1, h2 => by
    show l11_small.step (l11_small.fN n) w d (smallM (n + 1) w d)
    unfold l11_small.step smallM
    by_cases hb : bigB w d = true
    · unfold bigB at hb
      rw [if_pos hb, if_pos (by unfold bigB; exact hb)]
    · have hb2 := hb
      unfold bigB at hb
      rw [if_neg hb, if_neg hb2]
      simp only [Bool.or_eq_true, decide_eq_true_eq, not_or] at hb
      have hm : w.Parts.length ≤ maxLen := by unfold maxLen; omega
      have hw : IntKind.i64.wrap (d + 1) = d + 1 := wrap64 (by omega) (by omega)
      have key := eachLoop (l := w.Parts) (b := l11_small.b1 (l11_small.fN n) w d) (fun p => smallM n p (d + 1)) false (fun i i0 i1 => by
        unfold l11_small.b1
        simp only [i1, if_true]
        have hf := l11_small.fok n (rdl w.Parts i) (d + 1) (by omega) (by omega) (by omega)
        rw [hw]
        exact ⟨fun ht => ⟨⟨i0, i1⟩, _, hf, by rw [ht, if_pos rfl, wrap_len hm i0 i1]⟩, fun ht => ⟨⟨i0, i1⟩, _, hf, by rw [ht]; simp⟩⟩) (fun i i0 i1 => by unfold l11_small.b1; simp only [i1, if_false])
      refine ⟨_, key, ?_⟩
      cases w.Parts.all (fun p => smallM n p (d + 1)) <;> simp [Fin.on]
theorem l11_small.ok (w : TWeight) : l11_small.f w 0 (smallM 5 w 0) := ⟨5, l11_small.fok 5 w 0 (by decide) (by decide) (by decide)⟩
def cutW (r : TRule) : TRule := if (r.W.length : Int) > 40 then ⟨r.P, r.G, r.Q, cutl r.W 0 40, r.F⟩ else r
def cutR : List TRule → List TRule → List TRule
  | [], acc => acc
  | r :: l, acc => if acc.length < 40 then (if smallM 5 r.F 0 = true then cutR l (acc ++ [cutW r]) else cutR l acc) else acc
def cutP (l : List TSpace) : List TSpace := if l.any (fun s => decide ((s.Parts.length : Int) > 0)) = true then [] else l
def cutM (p : TPds) : TPds := ⟨⟨p.Space.Tag, p.Space.Dim, cutP (if (p.Space.Parts.length : Int) > 3 then cutl p.Space.Parts 0 3 else p.Space.Parts)⟩, p.States, p.Symbols, cutR p.Rules []⟩
theorem l11_cut.loop1 {p : TPds} (hl : p.Rules.length ≤ maxLen) : Loop (l11_cut.b1 p) ([], 0) (.go (cutR p.Rules [])) := by
  have key := Loop.of (b := l11_cut.b1 p) (fun s => .go (cutR (p.Rules.drop s.2.toNat) s.1)) (fun s => ((p.Rules.length : Int) - s.2).toNat) (fun s => 0 ≤ s.2 ∧ s.1.length ≤ 40) (fun s hi => by
    obtain ⟨acc, i⟩ := s
    obtain ⟨h0, h40⟩ := hi
    simp only at h0 h40
    by_cases h : i < (p.Rules.length : Int)
    · have hd := drop_rdl h0 h
      by_cases ha : acc.length < 40
      · have hc : ((decide (i < (p.Rules.length : Int))) && (decide ((acc.length : Int) < 40))) = true := by simp; omega
        have hj : ∀ z, l11_cut.j1 p acc i (cutW (rdl p.Rules i)).W z → l11_cut.b1 p (acc, i) z := fun z hz => by
          unfold l11_cut.b1
          simp only [hc, if_true]
          refine ⟨⟨h0, h⟩, ?_⟩
          unfold cutW at hz
          by_cases hw : ((rdl p.Rules i).W.length : Int) > 40
          · rw [if_pos hw] at hz ⊢
            exact ⟨⟨by decide, by decide, by omega⟩, hz⟩
          · rw [if_neg hw] at hz ⊢
            exact hz
        have hcut : TRule.mk ((rdl p.Rules i).P) ((rdl p.Rules i).G) ((rdl p.Rules i).Q) (cutW (rdl p.Rules i)).W ((rdl p.Rules i).F) = cutW (rdl p.Rules i) := by unfold cutW; split <;> rfl
        cases hs : smallM 5 (rdl p.Rules i).F 0 with
        | true =>
          refine .inl ⟨(acc ++ [cutW (rdl p.Rules i)], i + 1), hj _ ⟨_, l11_small.ok _, ?_⟩, by simp; omega, ⟨by simp; omega, by simp; omega⟩, ?_⟩
          · rw [hs, if_pos rfl]
            refine ⟨by unfold Fits; omega, ?_⟩
            unfold l11_cut.j2
            rw [wrap_len hl h0 h, hcut]
          · simp only; rw [hd]; simp only [cutR, ha, hs, if_true]
        | false =>
          refine .inl ⟨(acc, i + 1), hj _ ⟨_, l11_small.ok _, ?_⟩, by simp; omega, ⟨by simp; omega, by simp; omega⟩, ?_⟩
          · rw [hs, if_neg Bool.false_ne_true]
            unfold l11_cut.j2
            rw [wrap_len hl h0 h]
          · simp only; rw [hd]; simp only [cutR, ha, hs, if_true, Bool.false_eq_true, if_false]
      · refine .inr (.inl ⟨acc, ?_, ?_⟩)
        · unfold l11_cut.b1
          have hc : ¬ ((decide (i < (p.Rules.length : Int))) && (decide ((acc.length : Int) < 40))) = true := by simp; omega
          simp only [hc, Bool.false_eq_true, if_false]
        · simp only; rw [hd]; simp only [cutR, ha, if_false]
    · refine .inr (.inl ⟨acc, ?_, ?_⟩)
      · unfold l11_cut.b1
        have hc : ¬ ((decide (i < (p.Rules.length : Int))) && (decide ((acc.length : Int) < 40))) = true := by simp; omega
        simp only [hc, Bool.false_eq_true, if_false]
      · simp only; rw [drop_end h0 h]; rfl) ([], 0) ⟨Int.le_refl 0, by simp⟩
  exact key
theorem l11_cut.loop2 {l : List TSpace} (hl : l.length ≤ maxLen) : Loop (l11_cut.b2) (l, 0) (.go (cutP l)) := by
  have key := Loop.of (b := l11_cut.b2) (fun s => .go (if (s.1.drop s.2.toNat).any (fun s => decide ((s.Parts.length : Int) > 0)) = true then [] else s.1)) (fun s => ((s.1.length : Int) - s.2).toNat) (fun s => 0 ≤ s.2 ∧ s.1.length ≤ maxLen) (fun s hi => by
    obtain ⟨l, i⟩ := s
    obtain ⟨h0, hl⟩ := hi
    simp only at h0 hl
    by_cases h : i < (l.length : Int)
    · have hd := drop_rdl h0 h
      by_cases hp : ((rdl l i).Parts.length : Int) > 0
      · refine .inl ⟨([], i + 1), ?_, by simp; omega, ⟨by simp; omega, by simp⟩, ?_⟩
        · unfold l11_cut.b2 l11_cut.j4
          simp only [h, hp, if_true]
          exact ⟨⟨h0, h⟩, by rw [wrap_len hl h0 h]⟩
        · simp only; rw [hd]; simp only [List.any_cons, decide_eq_true hp, Bool.true_or, if_true]; simp
      · refine .inl ⟨(l, i + 1), ?_, by simp; omega, ⟨by simp; omega, by simp; omega⟩, ?_⟩
        · unfold l11_cut.b2 l11_cut.j4
          simp only [h, hp, if_true, if_false]
          exact ⟨⟨h0, h⟩, by rw [wrap_len hl h0 h]⟩
        · simp only; rw [hd]; simp only [List.any_cons, decide_eq_false hp, Bool.false_or]
    · refine .inr (.inl ⟨l, ?_, ?_⟩)
      · unfold l11_cut.b2; simp only [h, if_false]
      · simp only; rw [drop_end h0 h]; simp) (l, 0) ⟨Int.le_refl 0, hl⟩
  exact key
theorem l11_cut.ok {p : TPds} (hl : p.Rules.length ≤ maxLen) (hs : p.Space.Parts.length ≤ maxLen) : l11_cut.f p (cutM p) := by
  refine ⟨_, l11_cut.loop1 hl, ?_⟩
  show if _ then _ else _
  by_cases h : (p.Space.Parts.length : Int) > 3
  · rw [if_pos h]
    refine ⟨⟨by decide, by decide, by omega⟩, ?_⟩
    have hc : (cutl p.Space.Parts 0 3).length ≤ maxLen := by simp [cutl, maxLen]; omega
    refine ⟨_, l11_cut.loop2 hc, ?_⟩
    show cutM p = _
    unfold cutM
    rw [if_pos h]
  · rw [if_neg h]
    refine ⟨_, l11_cut.loop2 hs, ?_⟩
    show cutM p = _
    unfold cutM
    rw [if_neg h]
theorem cutR_len : ∀ (l acc : List TRule), acc.length ≤ 40 → (cutR l acc).length ≤ 40
  | [], acc, h => h
  | r :: l, acc, h => by
    unfold cutR
    split
    · split
      · exact cutR_len l _ (by simp; omega)
      · exact cutR_len l _ h
    · exact h
theorem cutR_all {Q : TRule → Prop} : ∀ (l acc : List TRule), (∀ r ∈ l, Q (cutW r)) → (∀ r ∈ acc, Q r) → ∀ r ∈ cutR l acc, Q r
  | [], acc, h, ha => ha
  | r :: l, acc, h, ha => by
    unfold cutR
    have hl : ∀ r ∈ l, Q (cutW r) := fun x hx => h x (.tail _ hx)
    split
    · split
      · exact cutR_all l _ hl (fun x hx => by
          rcases List.mem_append.mp hx with hx | hx
          · exact ha x hx
          · simp at hx; subst hx; exact h r (.head _))
      · exact cutR_all l _ hl ha
    · exact ha
theorem cutW_len (r : TRule) : (cutW r).W.length ≤ 40 := by
  unfold cutW
  split
  · simp [cutl]; omega
  · omega
theorem cutW_F (r : TRule) : (cutW r).F = r.F := by unfold cutW; split <;> rfl
theorem cutP_len (l : List TSpace) : (cutP l).length ≤ l.length := by
  unfold cutP
  split
  · simp
  · exact Nat.le_refl _
theorem cutM_sized {p : TPds} (h : p.Fit) : (cutM p).Sized where
  parts := by
    unfold cutM
    have hs := h.1
    cases hs with
    | mk _ h0 h1 h2 h3 h4 =>
      have h9 : ((if (p.Space.Parts.length : Int) > 3 then cutl p.Space.Parts 0 3 else p.Space.Parts)).length ≤ maxLen := by
        split
        · simp [cutl, maxLen]; omega
        · exact h3
      exact Nat.le_trans (cutP_len _) h9
  rules := by have := cutR_len p.Rules [] (by simp); show (cutR p.Rules []).length ≤ _; omega
  words := cutR_all (Q := fun r => r.W.length ≤ maxLen) _ _ (fun r _ => by have := cutW_len r; unfold maxLen; omega) (fun r hr => by cases hr)
  weights := cutR_all (Q := fun r => r.F.Sized2) _ _ (fun r hr => by rw [cutW_F]; exact (h.2.2.2.2.2 r hr).2.2.2.2.sized2) (fun r hr => by cases hr)
end Go.RM.Try
namespace Go.RM.Try
open Go.RM
set_option linter.unusedVariables false
set_option linter.unusedSimpArgs false
theorem shl_one {i : Int} (h0 : 0 ≤ i) (h1 : i < 64) : shlI .u64 1 i = 2 ^ i.toNat := by
  have hlt := two_pow_lt (n := i.toNat) (by omega)
  have hpos : (0 : Int) < 2 ^ i.toNat := Int.pow_pos (by decide)
  unfold shlI
  rw [show (min i.toNat IntKind.u64.bits) = i.toNat by simp [IntKind.bits]; omega]
  rw [Int.one_mul, wrapu64 (by omega) hlt]
def noneW : TWeight := ⟨false, 0, ⟨0, []⟩, [], []⟩
def oneF (n : Int) : TFacts := ⟨0, (upto n.toNat).map (fun i => 2 ^ i.toNat)⟩
def oneC (n : Int) : List TCell := (upto n.toNat).map (fun i => ⟨2 ^ i.toNat, 0, 0⟩)
theorem upto_mem {n : Nat} {i : Int} (h : i ∈ upto n) : 0 ≤ i ∧ i < n := by
  simp only [upto, List.mem_map, List.mem_range] at h
  obtain ⟨k, hk, rfl⟩ := h
  simp; exact hk
theorem facts_One.ok {n : Int} (h0 : 0 ≤ n) (h1 : n ≤ 64) : facts_One.f n (oneF n, 0) := by
  have hf := bits_Full.ok n
  rw [fullI h0 h1] at hf
  refine ⟨_, hf, ?_⟩
  simp only [if_true]
  refine ⟨⟨h0, by unfold Fits; omega⟩, ?_⟩
  have hr : ((List.replicate (Int.toNat n) (0 : Int)).length : Int) = n := by simp; omega
  have key := fillLoop (n := n) (b := facts_One.b1 n) (0 : Int) (fun i _ => shlI .u64 1 (IntKind.u64.wrap i)) h0 (fun i l i0 i1 hl => by
    unfold facts_One.b1
    rw [hr]
    simp only [i1, if_true]
    rw [wrapu64 i0 (by omega), wrap64 (by omega) (by omega)]
    exact ⟨i0, ⟨i0, by omega⟩, rfl⟩) (fun l hl => by
    unfold facts_One.b1
    rw [hr]
    simp)
  refine ⟨_, key, ?_⟩
  show (oneF n, (0 : Int)) = (TFacts.mk 0 _, 0)
  unfold oneF
  congr 2
  refine List.map_congr_left fun i hi => ?_
  have := upto_mem hi
  rw [wrapu64 this.1 (by omega), shl_one this.1 (by omega)]
theorem cells_One.ok {n : Int} (h0 : 0 ≤ n) (h1 : n ≤ 64) : cells_One.f n (oneC n, 0) := by
  refine ⟨0, by unfold cells_dims.f; rw [if_neg (by simp; omega)], ?_⟩
  simp only [if_true]
  refine ⟨oneC n, ⟨⟨h0, by unfold Fits; omega⟩, ?_⟩, rfl⟩
  have key := fillLoop (n := n) (b := cells_one.b1 n) (TCell.mk 0 0 0) (fun i c => TCell.mk (shlI .u64 1 i) c.Kind c.K) h0 (fun i l i0 i1 hl => by
    unfold cells_one.b1
    simp only [i1, if_true]
    rw [wrap64 (by omega) (by omega)]
    exact ⟨i0, ⟨i0, by omega⟩, rfl⟩) (fun l hl => by
    unfold cells_one.b1
    simp)
  refine ⟨_, key, ?_⟩
  show oneC n = _
  unfold oneC
  refine List.map_congr_left fun i hi => ?_
  have := upto_mem hi
  rw [shl_one this.1 (by omega)]
theorem r03_One.ok {n : Int} (h0 : 0 ≤ n) (h1 : n ≤ 64) : r03_One.f n (oneF n, 0) := by
  refine ⟨true, by unfold r03_dim.f; simp; omega, ?_⟩
  rw [if_pos rfl]
  have key := (countLoop (n := n) (b := r03_One.b1 n) (fun i l => (l, i)) id (fun i acc => .go (acc ++ [2 ^ i.toNat])) (fun i l => (l.length : Int) = i) (fun i l i0 i1 hi => by
    refine ⟨?_, by simp; omega⟩
    unfold r03_One.b1
    simp only [i1, if_true]
    exact ⟨_, r01_Worth.ok i0 (by omega), by unfold Fits; omega, by rw [wrap64 (by omega) (by omega)]⟩) (fun l hl => by unfold r03_One.b1; simp) [] h0 rfl).1
  refine ⟨_, key, ?_⟩
  rw [countF_app]
  show (oneF n, (0 : Int)) = (TFacts.mk 0 _, 0)
  simp [oneF]
def oneW1 (s : TSpace) : TWeight := if s.Tag = 3 then ⟨false, 0, oneF s.Dim, [], []⟩ else if s.Tag = 4 then ⟨false, 0, ⟨0, []⟩, oneC s.Dim, []⟩ else noneW
def oneW (s : TSpace) : TWeight := if s.Tag = 5 then ⟨false, 0, ⟨0, []⟩, [], [oneW1 (rdl s.Parts 0), oneW1 (rdl s.Parts 1)]⟩ else oneW1 s
theorem oneW_ne {s : TSpace} (h : s.Tag ≠ 5) : oneW s = oneW1 s := by unfold oneW; rw [if_neg h]
theorem weight_one.step1 {self : TSpace → TWeight → Prop} {s : TSpace} (hs : spaceOk1 s = true) : weight_one.step self s (oneW1 s) := by
  unfold weight_one.step oneW1
  rcases space1_cases hs with h | h | h | h
  · simp [h.1, noneW]
  · simp [h.1, noneW]
  · simp only [h.1, Int.reduceEq, if_true, if_false]
    exact ⟨_, facts_One.ok h.2.1 h.2.2, rfl⟩
  · simp only [h.1, Int.reduceEq, if_true, if_false]
    exact ⟨_, cells_One.ok h.2.1 h.2.2, rfl⟩
theorem r05_one.step1 {self : TSpace → TWeight → Prop} {s : TSpace} (hs : spaceOk1 s = true) : r05_one.step self s (oneW1 s) := by
  unfold r05_one.step oneW1
  rcases space1_cases hs with h | h | h | h
  · simp [h.1, noneW]
  · simp [h.1, noneW]
  · simp only [h.1, Int.reduceEq, if_true, if_false]
    exact ⟨_, r03_One.ok h.2.1 h.2.2, rfl⟩
  · simp only [h.1, Int.reduceEq, if_true, if_false]
    have key := (countLoop (n := s.Dim) (b := r05_one.b1 s) (fun i l => (l, i)) id (fun i acc => .go (acc ++ [TCell.mk (2 ^ i.toNat) 0 0])) (fun i l => (l.length : Int) = i) (fun i l i0 i1 hi => by
      refine ⟨?_, by simp; omega⟩
      unfold r05_one.b1
      simp only [i1, if_true]
      exact ⟨_, r01_Worth.ok i0 (by omega), by unfold Fits; omega, by rw [wrap64 (by omega) (by omega)]⟩) (fun l hl => by unfold r05_one.b1; simp) [] h.2.1 rfl).1
    refine ⟨_, key, ?_⟩
    rw [countF_app]
    show TWeight.mk false 0 ⟨0, []⟩ (oneC s.Dim) [] = TWeight.mk false 0 ⟨0, []⟩ _ []
    simp [oneC]
theorem weight_one.ok {s : TSpace} (hs : spaceOk s = true) : weight_one.f s (oneW s) := by
  refine ⟨2, ?_⟩
  by_cases h5 : s.Tag = 5
  · obtain ⟨a, b, hp, ha, hb, _, _, hd⟩ := space_parts hs h5
    show weight_one.step (weight_one.fN 1) s _
    unfold weight_one.step oneW
    simp only [h5, Int.reduceEq, if_true, if_false, hp]
    exact ⟨⟨by decide, by simp⟩, _, weight_one.step1 ha, ⟨by decide, by simp⟩, _, weight_one.step1 hb, rfl⟩
  · rw [oneW_ne h5]; exact weight_one.step1 (by rw [← spaceOk_ne h5]; exact hs)
theorem r05_one.ok {s : TSpace} (hs : spaceOk s = true) : r05_one.f s (oneW s) := by
  refine ⟨2, ?_⟩
  by_cases h5 : s.Tag = 5
  · obtain ⟨a, b, hp, ha, hb, _, _, hd⟩ := space_parts hs h5
    show r05_one.step (r05_one.fN 1) s _
    unfold r05_one.step oneW
    simp only [h5, Int.reduceEq, if_true, if_false, hp]
    exact ⟨⟨by decide, by simp⟩, _, r05_one.step1 ha, ⟨by decide, by simp⟩, _, r05_one.step1 hb, rfl⟩
  · rw [oneW_ne h5]; exact r05_one.step1 (by rw [← spaceOk_ne h5]; exact hs)
def oneR (s : TSpace) : TWeight × Int := if spaceOk s = true then (oneW s, 0) else (noneW, 50)
theorem weight_One.ok {s : TSpace} (hl : s.Parts.length ≤ maxLen) : weight_One.f s (oneR s) := by
  refine ⟨_, weight_Space.ok hl, ?_⟩
  unfold oneR
  cases h : spaceOk s with
  | false => simp [noneW]
  | true => simp only [if_true]; exact ⟨_, weight_one.ok h, rfl⟩
theorem r05_One.ok {s : TSpace} (hl : s.Parts.length ≤ maxLen) : r05_One.f s (oneR s) := by
  refine ⟨_, r05_Space.ok hl, ?_⟩
  unfold oneR
  cases h : spaceOk s with
  | false => simp [noneW]
  | true => simp only [if_true]; exact ⟨_, r05_one.ok h, rfl⟩
end Go.RM.Try
namespace Go.RM.Try
open Go.RM
set_option linter.unusedVariables false
set_option linter.unusedSimpArgs false
theorem rdl_take {α : Type} [Inhabited α] {l : List α} {n : Nat} {i : Int} (h0 : 0 ≤ i) (h1 : i < n) (h2 : n ≤ l.length) : rdl (l.take n) i = rdl l i := by
  have a := rdl_get (l := l) h0 (by omega)
  have b := rdl_get (l := l.take n) h0 (by simp; omega)
  rw [List.getElem?_take, if_pos (by omega), a] at b
  injection b with b
  exact b.symm
theorem TSpace.eta (s : TSpace) : TSpace.mk s.Tag s.Dim s.Parts = s := by cases s; rfl
theorem TWeight.eta (w : TWeight) : TWeight.mk w.Zero w.Cost (TFacts.mk w.Facts.Gen w.Facts.Rows) w.Cells w.Parts = w := by cases w; rfl
theorem slices_Clone_int.ok {l : List Int} (h : l.length ≤ 17592186044416) : slices_Clone_int.f l l := by
  unfold slices_Clone_int.f
  by_cases h0 : l.length = 0
  · rw [if_pos h0]
    have : l = [] := List.eq_nil_of_length_eq_zero h0
    subst this
    intro z k
    cases z <;> simp [Fits]
  · rw [if_neg h0]
    exact ⟨by unfold Fits; omega, rfl⟩
def putS (out : TShorted) (r : TRule) (n : Int) (first : Bool) : TShorted := ⟨⟨out.Pds.Space, out.Pds.States, out.Pds.Symbols, out.Pds.Rules ++ [r]⟩, out.Rule ++ [n], out.First ++ [first]⟩
def moreS (out : TShorted) : TShorted := ⟨⟨out.Pds.Space, out.Pds.States + 1, out.Pds.Symbols + 1, out.Pds.Rules⟩, out.Rule, out.First⟩
/-- One short rule for the last symbol, and what is left. -/
def stepS (one : TWeight) (n : Int) (s : TShorted × TRule × Bool) : TShorted × TRule × Bool :=
  (putS (moreS s.1) ⟨s.2.1.P, s.2.1.G, s.1.Pds.States, [s.1.Pds.Symbols, rdl s.2.1.W ((s.2.1.W.length : Int) - 1)], s.2.1.F⟩ n s.2.2,
   ⟨s.1.Pds.States, s.1.Pds.Symbols, s.2.1.Q, cutl s.2.1.W 0 ((s.2.1.W.length : Int) - 1), one⟩, false)
def shortP (one : TWeight) (n : Int) : Nat → TShorted × TRule × Bool → TShorted × TRule × Bool
  | 0, s => s
  | k + 1, s => shortP one n k (stepS one n s)
def shortK (one : TWeight) (n : Int) (r : TRule) (out : TShorted) : TShorted :=
  let s := shortP one n (r.W.length - 2) (out, r, true)
  putS s.1 s.2.1 n s.2.2
/-- So many may still come. -/
structure Room (out : TShorted) (m : Int) : Prop where
  a0 : 0 ≤ out.Pds.States
  a1 : out.Pds.States + m ≤ 900000000000
  b0 : 0 ≤ out.Pds.Symbols
  b1 : out.Pds.Symbols + m ≤ 900000000000
  c : (out.Pds.Rules.length : Int) + m ≤ 900000000000
  d : (out.Rule.length : Int) + m ≤ 900000000000
  e : (out.First.length : Int) + m ≤ 900000000000
theorem Room.step {s : TShorted × TRule × Bool} {m : Int} (h : Room s.1 m) (one : TWeight) (n : Int) : Room (stepS one n s).1 (m - 1) := by
  obtain ⟨a0, a1, b0, b1, c, d, e⟩ := h
  constructor <;> simp [stepS, putS, moreS] <;> omega
theorem Room.put {out : TShorted} {m : Int} (h : Room out m) (r : TRule) (n : Int) (f : Bool) : Room (putS out r n f) (m - 1) := by
  obtain ⟨a0, a1, b0, b1, c, d, e⟩ := h
  constructor <;> simp [putS] <;> omega
theorem Room.le {out : TShorted} {m m' : Int} (h : Room out m) (hm : m' ≤ m) : Room out m' := by
  obtain ⟨a0, a1, b0, b1, c, d, e⟩ := h
  constructor <;> omega
theorem Room.shortP (one : TWeight) (n : Int) : ∀ (k : Nat) (s : TShorted × TRule × Bool) (m : Int), Room s.1 m → Room (shortP one n k s).1 (m - k)
  | 0, s, m, h => h.le (by omega)
  | k + 1, s, m, h => (Room.shortP one n k _ _ (h.step one n)).le (by omega)
theorem shortP_first (one : TWeight) (n : Int) : ∀ (k : Nat) (s : TShorted × TRule × Bool), (shortP one n k s).2.2 = if k = 0 then s.2.2 else false
  | 0, s => rfl
  | k + 1, s => by
    show (shortP one n k (stepS one n s)).2.2 = _
    rw [shortP_first one n k]
    split <;> simp [stepS]
theorem shortP_Q (one : TWeight) (n : Int) : ∀ (k : Nat) (s : TShorted × TRule × Bool), (shortP one n k s).2.1.Q = s.2.1.Q
  | 0, s => rfl
  | k + 1, s => by
    show (shortP one n k (stepS one n s)).2.1.Q = _
    rw [shortP_Q one n k]; rfl
theorem shortP_Space (one : TWeight) (n : Int) : ∀ (k : Nat) (s : TShorted × TRule × Bool), (shortP one n k s).1.Pds.Space = s.1.Pds.Space
  | 0, s => rfl
  | k + 1, s => by
    show (shortP one n k (stepS one n s)).1.Pds.Space = _
    rw [shortP_Space one n k]; rfl
theorem shortP_W (one : TWeight) (n : Int) : ∀ (k : Nat) (s : TShorted × TRule × Bool), (shortP one n k s).2.1.W.length ≤ s.2.1.W.length
  | 0, s => Nat.le_refl _
  | k + 1, s => Nat.le_trans (shortP_W one n k (stepS one n s)) (by simp [stepS, cutl])
theorem pds_Short_1.ok {r : TRule} {n : Int} {f : Bool} {out : TShorted} (hw : r.W.length ≤ 17592186044416) (h : Room out 1) : pds_Short_1.f r n f out (putS out r n f) := by
  obtain ⟨a0, a1, b0, b1, c, d, e⟩ := h
  exact ⟨_, slices_Clone_int.ok hw, by unfold Fits; omega, by unfold Fits; omega, by unfold Fits; omega, rfl⟩
theorem cutl_take {α : Type} (l : List α) {j : Int} (h : 0 ≤ j) : cutl l 0 j = l.take j.toNat := by simp [cutl]
/-- The inner loop of pds.Short. -/
theorem pds_Short.inner {p : TPds} (one : TWeight × Int) {n : Int} (hw : (rdl p.Rules n).W.length ≤ 4096) : ∀ (k : Nat) (x : Int) (out : TShorted) (rest : TRule), 0 ≤ x → x ≤ (rdl p.Rules n).W.length → k = x.toNat - 2 →
    rest.W = (rdl p.Rules n).W.take x.toNat → rest.Q = (rdl p.Rules n).Q → Room out (k + 1) →
    Loop (pds_Short.b3 p one n) (out.Pds.Space.Tag, out.Pds.Space.Dim, out.Pds.Space.Parts, out.Pds.States, out.Pds.Symbols, out.Pds.Rules, out.Rule, out.First, rest.P, rest.G, rest.W, rest.F.Zero, rest.F.Cost, rest.F.Facts.Gen, rest.F.Facts.Rows, rest.F.Cells, rest.F.Parts, x)
      (.go (let s := shortP one.1 n k (out, rest, x == ((rdl p.Rules n).W.length : Int)); (s.1.Pds.Space.Tag, s.1.Pds.Space.Dim, s.1.Pds.Space.Parts, s.1.Pds.States, s.1.Pds.Symbols, s.1.Pds.Rules, s.1.Rule, s.1.First, s.2.1.P, s.2.1.G, s.2.1.W, s.2.1.F.Zero, s.2.1.F.Cost, s.2.1.F.Facts.Gen, s.2.1.F.Facts.Rows, s.2.1.F.Cells, s.2.1.F.Parts)))
  | 0, x, out, rest, x0, x1, hk, hW, hQ, hR => by
    refine .exit ?_
    unfold pds_Short.b3
    have : ¬ x > 2 := by omega
    simp only [this, if_false]
    rfl
  | k + 1, x, out, rest, x0, x1, hk, hW, hQ, hR => by
    have hx : x > 2 := by omega
    have hlen : (rest.W.length : Int) = x := by rw [hW]; simp; omega
    have hx1 : IntKind.i64.wrap (x - 1) = x - 1 := wrap64 (by omega) (by omega)
    have ih := pds_Short.inner one hw k (x - 1) (stepS one.1 n (out, rest, x == ((rdl p.Rules n).W.length : Int))).1 (stepS one.1 n (out, rest, x == ((rdl p.Rules n).W.length : Int))).2.1 (by omega) (by omega) (by omega)
      (by
        show cutl rest.W 0 ((rest.W.length : Int) - 1) = _
        rw [cutl_take _ (by omega), hlen, hW, List.take_take]
        congr 1; omega) hQ ((hR.step one.1 n).le (by omega))
    have hf : (x - 1 == ((rdl p.Rules n).W.length : Int)) = false := beq_false_of_ne (by omega)
    rw [hf] at ih
    refine .next ?_ ih
    unfold pds_Short.b3
    simp only [hx, if_true, hx1, TSpace.eta, TWeight.eta]
    have hR1 : Room (moreS out) 1 := by
      obtain ⟨a0, a1, b0, b1, c, d, e⟩ := hR
      constructor <;> simp [moreS] <;> omega
    have w1 : IntKind.i64.wrap (out.Pds.States + 1) = out.Pds.States + 1 := wrap64 (by have := hR.a0; omega) (by have := hR.a1; omega)
    have w2 : IntKind.i64.wrap (out.Pds.Symbols + 1) = out.Pds.Symbols + 1 := wrap64 (by have := hR.b0; omega) (by have := hR.b1; omega)
    rw [w1, w2]
    refine ⟨⟨by omega, by omega⟩, _, pds_Short_1.ok (by simp) hR1, ⟨by omega, by omega, by omega⟩, ?_⟩
    have e1 : rdl rest.W ((rest.W.length : Int) - 1) = rdl (rdl p.Rules n).W (x - 1) := by
      rw [hlen, hW, rdl_take (by omega) (by omega) (by omega)]
    have e2 : cutl rest.W 0 ((rest.W.length : Int) - 1) = cutl (rdl p.Rules n).W 0 (x - 1) := by
      rw [cutl_take _ (by omega), cutl_take _ (by omega), hlen, hW, List.take_take]
      congr 1; omega
    simp only [stepS, e1, e2]
    rfl
end Go.RM.Try
namespace Go.RM.Try
open Go.RM
set_option linter.unusedVariables false
set_option linter.unusedSimpArgs false
def moreG (r : TRule) (s : Int) : Int := if (r.W.length : Int) > 2 then s + (r.W.length : Int) - 2 else s
def moreM (p : TPds) : Int := foldG (fun _ r s => moreG r s) p.Rules 0 0
def noneS : TShorted := ⟨⟨⟨0, 0, []⟩, 0, 0, []⟩, [], []⟩
def shortM (one : TWeight) (p : TPds) : TShorted := foldG (fun i r out => shortK one i r out) p.Rules 0 ⟨⟨p.Space, p.States, p.Symbols, []⟩, [], []⟩
def shortR (p : TPds) : TShorted × Int :=
  if pC p = 0 then (if (decide (moreM p > 4096 - p.States) || (decide (moreM p > 4096 - p.Symbols) || decide (moreM p > 16384 - (p.Rules.length : Int)))) = true then (noneS, 3) else (shortM (oneW p.Space) p, 0)) else (noneS, pC p)
/-- What a system that may be has. -/
theorem pC_ok {p : TPds} (h : pC p = 0) : spaceOk p.Space = true ∧ p.Rules.length ≤ 16384 ∧ 0 ≤ p.States ∧ p.States ≤ 4096 ∧ 0 ≤ p.Symbols ∧ p.Symbols ≤ 4096 ∧ (∀ r ∈ p.Rules, ruleOk p r = true) ∧ (∀ r ∈ p.Rules, isW p.Space r.F = true) := by
  unfold pC at h
  split at h
  · rename_i hs
    split at h
    · simp at h
    · split at h
      · simp at h
      · rename_i hl hn
        split at h
        · rename_i ha
          split at h
          · rename_i hw
            simp only [Bool.or_eq_true, decide_eq_true_eq, not_or] at hn
            rw [List.all_eq_true] at ha hw
            exact ⟨hs, by omega, by omega, by omega, by omega, by omega, ha, hw⟩
          · simp at h
        · simp at h
  · simp at h
theorem ruleOk_len {p : TPds} {r : TRule} (h : ruleOk p r = true) : r.W.length ≤ 4096 := by
  unfold ruleOk at h
  simp only [Bool.and_eq_true, decide_eq_true_eq] at h
  omega
theorem moreInv {r : TRule} {s i : Int} (hw : r.W.length ≤ 4096) (h : 0 ≤ s ∧ s ≤ 4096 * i) : 0 ≤ moreG r s ∧ moreG r s ≤ 4096 * (i + 1) := by
  unfold moreG; split <;> omega
theorem pds_Short.loop1 {p : TPds} (hw : ∀ r ∈ p.Rules, r.W.length ≤ 4096) (hl : p.Rules.length ≤ 16384) : Loop (pds_Short.b1 p) (0, 0) (.go (moreM p)) ∧ 0 ≤ moreM p ∧ moreM p ≤ 4096 * (p.Rules.length : Int) := by
  refine foldGLoop (l := p.Rules) (b := pds_Short.b1 p) (fun i s => (s, i)) id (fun _ r s => moreG r s) (fun i s => 0 ≤ s ∧ s ≤ 4096 * i) (fun i s h0 h1 hi => ?_) (fun s hs => ?_) 0 (by decide)
  · have hr := hw _ (rdl_mem h0 h1)
    refine ⟨?_, moreInv hr hi⟩
    unfold pds_Short.b1
    simp only [h1, if_true]
    refine ⟨⟨h0, h1⟩, ?_⟩
    have w1 : IntKind.i64.wrap (((rdl p.Rules i).W.length : Int) - 2) = ((rdl p.Rules i).W.length : Int) - 2 := wrap64 (by omega) (by omega)
    have w2 : IntKind.i64.wrap (i + 1) = i + 1 := wrap64 (by omega) (by omega)
    rw [w1, w2]
    unfold moreG
    by_cases hg : ((rdl p.Rules i).W.length : Int) > 2
    · rw [if_pos hg, if_neg (by omega), wrap64 (by omega) (by omega)]
      congr 2; omega
    · rw [if_neg hg]
      split
      · rw [wrap64 (by omega) (by omega), Int.add_zero]
      · rw [wrap64 (by omega) (by omega)]
        congr 2; omega
  · unfold pds_Short.b1; simp
theorem r11_Short.loop1 {p : TPds} (hw : ∀ r ∈ p.Rules, r.W.length ≤ 4096) (hl : p.Rules.length ≤ 16384) : Loop (r11_Short.b1 p) (0, 0) (.go (moreM p)) := by
  refine (foldGLoop (l := p.Rules) (b := r11_Short.b1 p) (fun i s => (s, i)) id (fun _ r s => moreG r s) (fun i s => 0 ≤ s ∧ s ≤ 4096 * i) (fun i s h0 h1 hi => ?_) (fun s hs => ?_) 0 (by decide)).1
  · have hr := hw _ (rdl_mem h0 h1)
    refine ⟨?_, moreInv hr hi⟩
    unfold r11_Short.b1 r11_Short.j1
    simp only [h1, if_true]
    refine ⟨⟨h0, h1⟩, ?_⟩
    have w2 : IntKind.i64.wrap (i + 1) = i + 1 := wrap64 (by omega) (by omega)
    rw [w2]
    unfold moreG
    by_cases hg : ((rdl p.Rules i).W.length : Int) > 2
    · rw [if_pos hg, if_pos hg, wrap64 (i := s + _) (by omega) (by omega), wrap64 (by omega) (by omega)]
      exact ⟨⟨h0, h1⟩, rfl⟩
    · rw [if_neg hg, if_neg hg]
  · unfold r11_Short.b1; simp
theorem Room.K {one : TWeight} {n : Int} {r : TRule} {out : TShorted} {m : Int} (h : Room out m) (hw : r.W.length ≤ 4096) : Room (shortK one n r out) (m - 4097) :=
  ((Room.shortP one n (r.W.length - 2) (out, r, true) m h).put _ _ _).le (by omega)
theorem shortK_Space (one : TWeight) (n : Int) (r : TRule) (out : TShorted) : (shortK one n r out).Pds.Space = out.Pds.Space := shortP_Space one n _ _
theorem room0 {p : TPds} (hs0 : 0 ≤ p.States) (hs1 : p.States ≤ 4096) (hy0 : 0 ≤ p.Symbols) (hy1 : p.Symbols ≤ 4096) (hl : p.Rules.length ≤ 16384) : Room ⟨⟨p.Space, p.States, p.Symbols, []⟩, [], []⟩ (((p.Rules.length : Int) - 0) * 4097 + 1) := by
  constructor <;> simp <;> omega
theorem pds_Short.loop2 {p : TPds} (one : TWeight × Int) (hw : ∀ r ∈ p.Rules, r.W.length ≤ 4096) (hl : p.Rules.length ≤ 16384) (hs0 : 0 ≤ p.States) (hs1 : p.States ≤ 4096) (hy0 : 0 ≤ p.Symbols) (hy1 : p.Symbols ≤ 4096) :
    Loop (pds_Short.b2 p one) (p.Space.Tag, p.Space.Dim, p.Space.Parts, p.States, p.Symbols, [], [], [], 0)
      (.go ((shortM one.1 p).Pds.Space.Tag, (shortM one.1 p).Pds.Space.Dim, (shortM one.1 p).Pds.Space.Parts, (shortM one.1 p).Pds.States, (shortM one.1 p).Pds.Symbols, (shortM one.1 p).Pds.Rules, (shortM one.1 p).Rule, (shortM one.1 p).First)) := by
  refine (foldGLoop (l := p.Rules) (b := pds_Short.b2 p one) (fun i out => (out.Pds.Space.Tag, out.Pds.Space.Dim, out.Pds.Space.Parts, out.Pds.States, out.Pds.Symbols, out.Pds.Rules, out.Rule, out.First, i)) (fun out => (out.Pds.Space.Tag, out.Pds.Space.Dim, out.Pds.Space.Parts, out.Pds.States, out.Pds.Symbols, out.Pds.Rules, out.Rule, out.First))
    (fun i r out => shortK one.1 i r out) (fun i out => Room out (((p.Rules.length : Int) - i) * 4097 + 1)) (fun i out h0 h1 hi => ?_) (fun s hs => ?_) ⟨⟨p.Space, p.States, p.Symbols, []⟩, [], []⟩ (room0 hs0 hs1 hy0 hy1 hl)).1
  · have hr := hw _ (rdl_mem h0 h1)
    refine ⟨?_, (hi.K hr).le (by omega)⟩
    have hin := pds_Short.inner (p := p) one (n := i) hr ((rdl p.Rules i).W.length - 2) ((rdl p.Rules i).W.length) out (rdl p.Rules i) (by omega) (by omega) (by simp) (by simp) rfl (hi.le (by omega))
    unfold pds_Short.b2
    simp only [h1, if_true]
    refine ⟨⟨h0, h1⟩, _, hin, ?_⟩
    simp only [Fin.on, TSpace.eta, TWeight.eta, beq_self_eq_true]
    have hQ := shortP_Q one.1 i ((rdl p.Rules i).W.length - 2) (out, rdl p.Rules i, true)
    have hF := shortP_first one.1 i ((rdl p.Rules i).W.length - 2) (out, rdl p.Rules i, true)
    have hW := shortP_W one.1 i ((rdl p.Rules i).W.length - 2) (out, rdl p.Rules i, true)
    have hR := Room.shortP one.1 i ((rdl p.Rules i).W.length - 2) (out, rdl p.Rules i, true) _ hi
    have hd : decide (((rdl p.Rules i).W.length : Int) ≤ 2) = (shortP one.1 i ((rdl p.Rules i).W.length - 2) (out, rdl p.Rules i, true)).2.2 := by
      rw [hF]
      by_cases hc : (rdl p.Rules i).W.length - 2 = 0
      · rw [if_pos hc]; simp; omega
      · rw [if_neg hc]; simp; omega
    rw [hd]
    rw [show (rdl p.Rules i).Q = (shortP one.1 i ((rdl p.Rules i).W.length - 2) (out, rdl p.Rules i, true)).2.1.Q from hQ.symm]
    refine ⟨_, pds_Short_1.ok (by simp only at hW ⊢; omega) (hR.le (by omega)), ?_⟩
    rw [wrap64 (by omega) (by omega)]
    rfl
  · unfold pds_Short.b2; simp
theorem pds_Short.ok {p : TPds} (h : p.Sized) : pds_Short.f p (shortR p) := by
  refine ⟨_, pds_Check.ok h, ?_⟩
  unfold shortR
  by_cases hc : pC p = 0
  · rw [if_pos hc, if_pos hc]
    obtain ⟨hs, hl, a0, a1, b0, b1, hr, hf⟩ := pC_ok hc
    have hw : ∀ r ∈ p.Rules, r.W.length ≤ 4096 := fun r hm => ruleOk_len (hr r hm)
    have hL := pds_Short.loop1 hw hl
    refine ⟨_, hL.1, ?_⟩
    simp only [Fin.on]
    rw [wrap64 (i := 4096 - p.States) (by omega) (by omega), wrap64 (i := 4096 - p.Symbols) (by omega) (by omega), wrap64 (i := 16384 - (p.Rules.length : Int)) (by omega) (by omega)]
    split
    · rfl
    · refine ⟨_, weight_One.ok h.parts, ?_⟩
      have h1 : oneR p.Space = (oneW p.Space, 0) := by unfold oneR; rw [if_pos hs]
      rw [h1]
      exact ⟨_, pds_Short.loop2 _ hw hl a0 a1 b0 b1, by simp only [Fin.on, TSpace.eta]⟩
  · rw [if_neg hc, if_neg hc]; rfl
/-- The inner loop of the other one. -/
theorem r11_Short.inner (one : TWeight × Int) (n : Int) : ∀ (k : Nat) (s : TShorted × TRule × Bool), k = s.2.1.W.length - 2 → s.2.1.W.length ≤ 4096 → Room s.1 (k + 1) →
    Loop (r11_Short.b3 one n) (s.1.Pds.States, s.1.Pds.Symbols, s.1.Pds.Rules, s.1.Rule, s.1.First, s.2.1.P, s.2.1.G, s.2.1.W, s.2.1.F.Zero, s.2.1.F.Cost, s.2.1.F.Facts.Gen, s.2.1.F.Facts.Rows, s.2.1.F.Cells, s.2.1.F.Parts, s.2.2)
      (.go (let s := shortP one.1 n k s; (s.1.Pds.States, s.1.Pds.Symbols, s.1.Pds.Rules, s.1.Rule, s.1.First, s.2.1.P, s.2.1.G, s.2.1.W, s.2.1.F.Zero, s.2.1.F.Cost, s.2.1.F.Facts.Gen, s.2.1.F.Facts.Rows, s.2.1.F.Cells, s.2.1.F.Parts, s.2.2)))
  | 0, s, hk, hw, hR => by
    refine .exit ?_
    unfold r11_Short.b3
    have : ¬ (s.2.1.W.length : Int) > 2 := by omega
    simp only [this, if_false]
    rfl
  | k + 1, s, hk, hw, hR => by
    have hx : (s.2.1.W.length : Int) > 2 := by omega
    have hx1 : IntKind.i64.wrap ((s.2.1.W.length : Int) - 1) = (s.2.1.W.length : Int) - 1 := wrap64 (by omega) (by omega)
    have hlen : (stepS one.1 n s).2.1.W.length = s.2.1.W.length - 1 := by simp [stepS, cutl]
    have ih := r11_Short.inner one n k (stepS one.1 n s) (by omega) (by omega) ((hR.step one.1 n).le (by omega))
    refine .next ?_ ih
    unfold r11_Short.b3
    simp only [hx, if_true, hx1, TWeight.eta]
    have w1 : IntKind.i64.wrap (s.1.Pds.States + 1) = s.1.Pds.States + 1 := wrap64 (by have := hR.a0; omega) (by have := hR.a1; omega)
    have w2 : IntKind.i64.wrap (s.1.Pds.Symbols + 1) = s.1.Pds.Symbols + 1 := wrap64 (by have := hR.b0; omega) (by have := hR.b1; omega)
    rw [w1, w2]
    have hc := hR.c
    have hd := hR.d
    have he := hR.e
    exact ⟨⟨by omega, by omega⟩, by unfold Fits; omega, by unfold Fits; omega, by unfold Fits; omega, ⟨by omega, by omega, by omega⟩, rfl⟩
theorem shortM_Space (one : TWeight) (p : TPds) : (shortM one p).Pds.Space = p.Space := by
  unfold shortM
  have : ∀ (l : List TRule) (i : Int) (out : TShorted), (foldG (fun i r out => shortK one i r out) l i out).Pds.Space = out.Pds.Space := by
    intro l
    induction l with
    | nil => intro i out; rfl
    | cons x l ih => intro i out; unfold foldG; rw [ih, shortK_Space]
  exact this _ _ _
theorem r11_Short.loop2 {p : TPds} (one : TWeight × Int) (hw : ∀ r ∈ p.Rules, r.W.length ≤ 4096) (hl : p.Rules.length ≤ 16384) (hs0 : 0 ≤ p.States) (hs1 : p.States ≤ 4096) (hy0 : 0 ≤ p.Symbols) (hy1 : p.Symbols ≤ 4096) :
    Loop (r11_Short.b2 p one) (p.States, p.Symbols, [], [], [], 0)
      (.go ((shortM one.1 p).Pds.States, (shortM one.1 p).Pds.Symbols, (shortM one.1 p).Pds.Rules, (shortM one.1 p).Rule, (shortM one.1 p).First)) := by
  refine (foldGLoop (l := p.Rules) (b := r11_Short.b2 p one) (fun i out => (out.Pds.States, out.Pds.Symbols, out.Pds.Rules, out.Rule, out.First, i)) (fun out => (out.Pds.States, out.Pds.Symbols, out.Pds.Rules, out.Rule, out.First))
    (fun i r out => shortK one.1 i r out) (fun i out => Room out (((p.Rules.length : Int) - i) * 4097 + 1)) (fun i out h0 h1 hi => ?_) (fun s hs => ?_) ⟨⟨p.Space, p.States, p.Symbols, []⟩, [], []⟩ (room0 hs0 hs1 hy0 hy1 hl)).1
  · have hr := hw _ (rdl_mem h0 h1)
    refine ⟨?_, (hi.K hr).le (by omega)⟩
    have hin := r11_Short.inner one i ((rdl p.Rules i).W.length - 2) (out, rdl p.Rules i, true) rfl hr (hi.le (by omega))
    unfold r11_Short.b2
    simp only [h1, if_true]
    refine ⟨⟨h0, h1⟩, _, hin, ?_⟩
    simp only [Fin.on, TSpace.eta, TWeight.eta]
    have hQ := shortP_Q one.1 i ((rdl p.Rules i).W.length - 2) (out, rdl p.Rules i, true)
    have hR := Room.shortP one.1 i ((rdl p.Rules i).W.length - 2) (out, rdl p.Rules i, true) _ hi
    rw [show (rdl p.Rules i).Q = (shortP one.1 i ((rdl p.Rules i).W.length - 2) (out, rdl p.Rules i, true)).2.1.Q from hQ.symm]
    have hR1 := hR.le (show (1 : Int) ≤ _ by omega)
    have hc := hR1.c
    have hd := hR1.d
    have he := hR1.e
    rw [wrap64 (by omega) (by omega)]
    exact ⟨by unfold Fits; omega, by unfold Fits; omega, by unfold Fits; omega, rfl⟩
  · unfold r11_Short.b2; simp
theorem r11_Short.ok {p : TPds} (h : p.Sized) : r11_Short.f p (shortR p) := by
  refine ⟨_, r11_Check.ok h, ?_⟩
  unfold shortR
  by_cases hc : pC p = 0
  · rw [if_pos hc, if_pos hc]
    obtain ⟨hs, hl, a0, a1, b0, b1, hr, hf⟩ := pC_ok hc
    have hw : ∀ r ∈ p.Rules, r.W.length ≤ 4096 := fun r hm => ruleOk_len (hr r hm)
    have hL := pds_Short.loop1 hw hl
    refine ⟨_, r05_One.ok h.parts, _, r11_Short.loop1 hw hl, ?_⟩
    have h1 : oneR p.Space = (oneW p.Space, 0) := by unfold oneR; rw [if_pos hs]
    rw [h1]
    simp only [Fin.on]
    have m0 := hL.2.1
    have m1 := hL.2.2
    rw [wrap64 (i := p.States + _) (by omega) (by omega), wrap64 (i := p.Symbols + _) (by omega) (by omega), wrap64 (i := (p.Rules.length : Int) + _) (by omega) (by omega)]
    have e : ((decide (p.States + moreM p > 4096)) || ((decide (p.Symbols + moreM p > 4096)) || (decide ((p.Rules.length : Int) + moreM p > 16384)))) = (decide (moreM p > 4096 - p.States) || (decide (moreM p > 4096 - p.Symbols) || decide (moreM p > 16384 - (p.Rules.length : Int)))) := by
      rw [Bool.eq_iff_iff]; simp only [Bool.or_eq_true, decide_eq_true_eq]; omega
    rw [e]
    split
    · rfl
    · refine ⟨_, r11_Short.loop2 _ hw hl a0 a1 b0 b1, ?_⟩
      simp only [Fin.on]
      have e2 : ∀ (s : TShorted) (sp : TSpace), s.Pds.Space = sp → (s, (0 : Int)) = (⟨⟨sp, s.Pds.States, s.Pds.Symbols, s.Pds.Rules⟩, s.Rule, s.First⟩, 0) := fun s sp h => by subst h; rfl
      exact e2 _ _ (shortM_Space _ p)
  · rw [if_neg hc, if_neg hc]; rfl
end Go.RM.Try
namespace Go.RM.Try
open Go.RM
set_option linter.unusedVariables false
set_option linter.unusedSimpArgs false
theorem r05_SameSpace.step1 {self : TSpace → TSpace → Bool → Prop} {s : TSpace} (hl : s.Parts.length ≤ maxLen) (h : ∀ p ∈ s.Parts, self p p true) : r05_SameSpace.step self s s true := by
  unfold r05_SameSpace.step
  rw [if_neg (by simp)]
  have key := eachLoop (l := s.Parts) (b := r05_SameSpace.b1 self s s) (fun _ => true) false (fun i i0 i1 => by
    unfold r05_SameSpace.b1
    simp only [i1, if_true]
    exact ⟨fun _ => ⟨⟨i0, i1⟩, ⟨i0, i1⟩, _, h _ (rdl_mem i0 i1), by rw [if_pos rfl, wrap_len hl i0 i1]⟩, fun ht => (by cases ht)⟩) (fun i i0 i1 => by unfold r05_SameSpace.b1; simp only [i1, if_false])
  exact ⟨_, key, by simp [Fin.on]⟩
theorem space1_parts {s : TSpace} (h : spaceOk1 s = true) : s.Parts = [] := by
  have : s.Parts.length = 0 := by
    unfold spaceOk1 at h
    by_cases h1 : s.Tag = 1
    · simp [h1] at h; simp [h.2]
    · by_cases h2 : s.Tag = 2
      · simp [h2] at h; simp [h.2.2]
      · by_cases h3 : s.Tag = 3
        · simp [h3] at h; simp [h.2.2]
        · by_cases h4 : s.Tag = 4
          · simp [h4] at h; simp [h.2.2]
          · simp [h1, h2, h3, h4] at h
  exact List.eq_nil_of_length_eq_zero this
theorem r05_SameSpace.refl {s : TSpace} (hs : spaceOk s = true) : r05_SameSpace.f s s true := by
  refine ⟨2, ?_⟩
  have hx : ∀ {self : TSpace → TSpace → Bool → Prop} {t : TSpace}, spaceOk1 t = true → r05_SameSpace.step self t t true := fun {self t} ht => r05_SameSpace.step1 (by rw [space1_parts ht]; simp) (by rw [space1_parts ht]; simp)
  by_cases h5 : s.Tag = 5
  · obtain ⟨a, b, hp, ha, hb, _, _, _⟩ := space_parts hs h5
    refine r05_SameSpace.step1 (by rw [hp]; simp [maxLen]) (fun p hm => ?_)
    rw [hp] at hm
    simp at hm
    rcases hm with rfl | rfl
    · exact hx ha
    · exact hx hb
  · exact hx (by rw [← spaceOk_ne h5]; exact hs)
theorem r05_Same.step1 {self : TWeight → TWeight → Bool → Prop} {w : TWeight} (hw : w.Sized) (h : ∀ p ∈ w.Parts, self p p true) : r05_Same.step self w w true := by
  obtain ⟨ha, hb, hc⟩ := hw
  have hm : ∀ n : Nat, n ≤ 17592186044416 → n ≤ maxLen := fun n hn => by unfold maxLen; omega
  refine ⟨_, fun _ _ => r03_Same.ok (hm _ ha), ?_⟩
  have hf : factsEq w.Facts w.Facts = true := by simp [factsEq]
  rw [hf, if_neg (by simp)]
  have key1 := eachLoop (l := w.Cells) (b := r05_Same.b1 w w) (fun _ => true) false (fun i i0 i1 => by
    unfold r05_Same.b1
    simp only [i1, if_true, beq_self_eq_true, Bool.and_self]
    exact ⟨fun _ => ⟨⟨i0, i1⟩, ⟨i0, i1⟩, by rw [wrap_len (hm _ hb) i0 i1]⟩, fun ht => (by cases ht)⟩) (fun i i0 i1 => by unfold r05_Same.b1; simp only [i1, if_false])
  refine ⟨_, key1, ?_⟩
  rw [if_pos (by simp)]
  have key2 := eachLoop (l := w.Parts) (b := r05_Same.b2 self w w) (fun _ => true) false (fun i i0 i1 => by
    unfold r05_Same.b2
    simp only [i1, if_true]
    exact ⟨fun _ => ⟨⟨i0, i1⟩, ⟨i0, i1⟩, _, h _ (rdl_mem i0 i1), by rw [if_pos rfl, wrap_len (hm _ hc) i0 i1]⟩, fun ht => (by cases ht)⟩) (fun i i0 i1 => by unfold r05_Same.b2; simp only [i1, if_false])
  exact ⟨_, key2, by simp [Fin.on]⟩
/-- No parts below parts. -/
def Flat (w : TWeight) : Prop := w.Sized2 ∧ ∀ p ∈ w.Parts, p.Parts = []
theorem r05_Same.refl {w : TWeight} (hw : Flat w) : r05_Same.f w w true :=
  ⟨2, r05_Same.step1 (self := r05_Same.fN 1) hw.1.1 (fun p hp => r05_Same.step1 (self := r05_Same.fN 0) (hw.1.2 p hp) (by rw [hw.2 p hp]; simp))⟩
theorem isW1_parts {s : TSpace} {w : TWeight} (h : isW1 s w = true) : w.Parts = [] := by
  have : w.Parts.length = 0 := by
    unfold isW1 at h
    split at h
    · unfold plainB at h; simp at h; simp [h]
    · rw [Bool.and_eq_true] at h
      have h := h.1
      unfold plainB at h; simp at h; simp [h]
  exact List.eq_nil_of_length_eq_zero this
theorem isW_parts {s : TSpace} {w : TWeight} (h : isW s w = true) : ∀ p ∈ w.Parts, p.Parts = [] := by
  unfold isW at h
  split at h
  · simp only [Bool.and_eq_true, beq_iff_eq] at h
    have h2 : w.Parts.length = 2 := by omega
    intro p hp
    match hs : w.Parts, h2 with
    | [a, b], _ =>
      rw [hs] at hp h
      simp at hp
      rcases hp with rfl | rfl
      · exact isW1_parts h.2.2.2.1
      · exact isW1_parts h.2.2.2.2
  · rw [isW1_parts h]; simp
theorem sized_small {w : TWeight} (a : w.Facts.Rows.length ≤ 64) (b : w.Cells.length ≤ 64) (c : w.Parts = []) : w.Sized := ⟨by omega, by omega, by rw [c]; simp⟩
theorem oneW1_sized {s : TSpace} (hs : spaceOk1 s = true) : (oneW1 s).Sized ∧ (oneW1 s).Parts = [] := by
  unfold oneW1
  rcases space1_cases hs with h | h | h | h
  · simp only [h.1, Int.reduceEq, if_false]; exact ⟨sized_small (by simp [noneW]) (by simp [noneW]) rfl, by simp [noneW]⟩
  · simp only [h.1, Int.reduceEq, if_false]; exact ⟨sized_small (by simp [noneW]) (by simp [noneW]) rfl, by simp [noneW]⟩
  · simp only [h.1, Int.reduceEq, if_true, if_false]; exact ⟨sized_small (by simp [oneF, upto]; omega) (by simp) rfl, by simp⟩
  · simp only [h.1, Int.reduceEq, if_true, if_false]; exact ⟨sized_small (by simp) (by simp [oneC, upto]; omega) rfl, by simp⟩
theorem oneW_flat {s : TSpace} (hs : spaceOk s = true) : Flat (oneW s) := by
  by_cases h5 : s.Tag = 5
  · obtain ⟨a, b, hp, ha, hb, _, _, _⟩ := space_parts hs h5
    have ea : rdl s.Parts 0 = a := by rw [hp]; rfl
    have eb : rdl s.Parts 1 = b := by rw [hp]; rfl
    unfold oneW
    rw [if_pos h5, ea, eb]
    refine ⟨⟨⟨by simp, by simp, by simp⟩, ?_⟩, ?_⟩
    · intro p hm; simp at hm; rcases hm with rfl | rfl
      · exact (oneW1_sized ha).1
      · exact (oneW1_sized hb).1
    · intro p hm; simp at hm; rcases hm with rfl | rfl
      · exact (oneW1_sized ha).2
      · exact (oneW1_sized hb).2
  · have := oneW1_sized (s := s) (by rw [← spaceOk_ne h5]; exact hs)
    rw [oneW_ne h5]
    exact ⟨⟨this.1, by rw [this.2]; simp⟩, by rw [this.2]; simp⟩
theorem shortP_all {Q : TRule → Prop} {one : TWeight} {n : Int} (h2 : ∀ P G q w F, Q ⟨P, G, q, w, F⟩ → ∀ P' G' q' x y, Q ⟨P', G', q', [x, y], F⟩) (h3 : ∀ P G q w F, Q ⟨P, G, q, w, F⟩ → ∀ P' G' j, 0 ≤ j → Q ⟨P', G', q, cutl w 0 j, one⟩) :
    ∀ (k : Nat) (s : TShorted × TRule × Bool), (∀ r ∈ s.1.Pds.Rules, Q r) → Q s.2.1 → k = s.2.1.W.length - 2 → (∀ r ∈ (shortP one n k s).1.Pds.Rules, Q r) ∧ Q (shortP one n k s).2.1
  | 0, s, h, hr, _ => ⟨h, hr⟩
  | k + 1, s, h, hr, hk => shortP_all h2 h3 k (stepS one n s) (by
      intro r hm
      simp only [stepS, putS, moreS, List.mem_append, List.mem_singleton] at hm
      rcases hm with hm | rfl
      · exact h r hm
      · exact h2 _ _ _ _ _ hr _ _ _ _ _) (h3 _ _ _ _ _ hr _ _ _ (by omega)) (by simp [stepS, cutl]; omega)
theorem shortM_all {Q : TRule → Prop} {one : TWeight} {p : TPds} (h2 : ∀ P G q w F, Q ⟨P, G, q, w, F⟩ → ∀ P' G' q' x y, Q ⟨P', G', q', [x, y], F⟩) (h3 : ∀ P G q w F, Q ⟨P, G, q, w, F⟩ → ∀ P' G' j, 0 ≤ j → Q ⟨P', G', q, cutl w 0 j, one⟩) (hp : ∀ r ∈ p.Rules, Q r) : ∀ r ∈ (shortM one p).Pds.Rules, Q r := by
  refine foldG_inv (g := fun i r out => shortK one i r out) (fun _ (out : TShorted) => ∀ r ∈ out.Pds.Rules, Q r) p.Rules 0 ⟨⟨p.Space, p.States, p.Symbols, []⟩, [], []⟩ (fun i out x hx h r hm => ?_) (by simp)
  have := shortP_all (n := i) h2 h3 (x.W.length - 2) (out, x, true) h (hp x hx) rfl
  simp only [shortK, putS, List.mem_append, List.mem_singleton] at hm
  rcases hm with hm | rfl
  · exact this.1 r hm
  · exact this.2
theorem shortM_room {p : TPds} (one : TWeight) (hw : ∀ r ∈ p.Rules, r.W.length ≤ 4096) (hl : p.Rules.length ≤ 16384) (hs0 : 0 ≤ p.States) (hs1 : p.States ≤ 4096) (hy0 : 0 ≤ p.Symbols) (hy1 : p.Symbols ≤ 4096) : Room (shortM one p) 1 := by
  have := foldG_inv (g := fun i r out => shortK one i r out) (fun i out => Room out (((p.Rules.length : Int) - i) * 4097 + 1)) p.Rules 0 ⟨⟨p.Space, p.States, p.Symbols, []⟩, [], []⟩ (fun i s x hx h => (h.K (hw x hx)).le (by omega)) (room0 hs0 hs1 hy0 hy1 hl)
  exact this.le (by omega)
theorem r11_Same.refl {p : TPds} (hs : spaceOk p.Space = true) (hl : p.Rules.length ≤ maxLen) (hr : ∀ r ∈ p.Rules, r.W.length ≤ maxLen ∧ Flat r.F) : r11_Same.f p p true := by
  refine ⟨_, r05_SameSpace.refl hs, ?_⟩
  rw [if_neg (by simp)]
  have key := eachLoop (l := p.Rules) (b := r11_Same.b1 p p) (fun _ => true) false (fun i i0 i1 => by
    unfold r11_Same.b1
    simp only [i1, if_true]
    refine ⟨fun _ => ⟨⟨i0, i1⟩, ⟨i0, i1⟩, _, fun _ _ _ => r11_sameWord.ok (hr _ (rdl_mem i0 i1)).1, _, fun _ _ _ _ => r05_Same.refl (hr _ (rdl_mem i0 i1)).2, ?_⟩, fun ht => (by cases ht)⟩
    rw [if_neg (by simp), wrap_len hl i0 i1]) (fun i i0 i1 => by unfold r11_Same.b1; simp only [i1, if_false])
  exact ⟨_, key, by simp [Fin.on]⟩
theorem r11_SameShort.refl {s : TShorted} (hs : spaceOk s.Pds.Space = true) (hR : Room s 1) (hr : ∀ r ∈ s.Pds.Rules, r.W.length ≤ maxLen ∧ Flat r.F) : r11_SameShort.f s s true := by
  obtain ⟨_, _, _, _, c, d, e⟩ := hR
  have hm : ∀ n : Nat, (n : Int) + 1 ≤ 900000000000 → n ≤ maxLen := fun n hn => by unfold maxLen; omega
  refine ⟨_, r11_Same.refl hs (hm _ c) hr, _, fun _ => r11_sameWord.ok (hm _ d), ?_⟩
  rw [if_neg (by simp)]
  refine ⟨_, eqRound (hm _ e) rfl rfl, by simp [Fin.on]⟩
theorem flat_none : Flat noneW := ⟨⟨⟨by simp [noneW], by simp [noneW], by simp [noneW]⟩, by simp [noneW]⟩, by simp [noneW]⟩
/-- The system that is looked at in each law. -/
def p0 : TPds := ⟨⟨1, 0, []⟩, 2, 5, [⟨0, 0, 1, [2, 3, 4], ⟨false, 0, ⟨0, []⟩, [], []⟩⟩]⟩
theorem p0_sized : p0.Sized := ⟨by simp [p0], by simp [p0], by intro r hr; simp [p0] at hr; subst hr; simp [maxLen], by intro r hr; simp [p0] at hr; subst hr; exact flat_none.1⟩
theorem p0_short : shortR p0 = (⟨⟨⟨1, 0, []⟩, 3, 6, [⟨0, 0, 2, [5, 4], noneW⟩, ⟨2, 5, 1, [2, 3], noneW⟩]⟩, [0, 0], [true, false]⟩, 0) := by rfl
theorem l11_alive.ok : l11_alive.f true := by
  have h := pds_Short.ok p0_sized
  rw [p0_short] at h
  refine ⟨_, h, ?_⟩
  simp [rdl, InR]
end Go.RM.Try
namespace Go.RM.Try
open Go.RM
set_option linter.unusedVariables false
set_option linter.unusedSimpArgs false
theorem fit_cut {p : TPds} (h : p.Fit) : l11_cut.f p (cutM p) := by
  have hs := h.1
  cases hs with
  | mk _ h0 h1 h2 h3 h4 => exact l11_cut.ok h.2.2.2.2.1 h3
theorem cut_short {p : TPds} (hz : p.Sized) : r11_SameShort.f (shortR p).1 (shortR p).1 true := by
  have hn : r11_SameShort.f noneS noneS true := by
    have h1 : r05_SameSpace.f noneS.Pds.Space noneS.Pds.Space true := ⟨1, r05_SameSpace.step1 (by simp [noneS]) (by simp [noneS])⟩
    refine ⟨true, ⟨_, h1, ?_⟩, _, fun _ => r11_sameWord.ok (by simp [noneS]), ?_⟩
    · rw [if_neg (by simp)]
      refine ⟨.go (), .exit ?_, rfl⟩
      unfold r11_Same.b1; simp [noneS]
    · rw [if_neg (by simp)]
      refine ⟨.go (), .exit ?_, rfl⟩
      unfold r11_SameShort.b1; simp [noneS]
  unfold shortR
  split
  · rename_i hc
    split
    · exact hn
    · obtain ⟨hs, hl, a0, a1, b0, b1, hr, hf⟩ := pC_ok hc
      have hw : ∀ r ∈ p.Rules, r.W.length ≤ 4096 := fun r hm => ruleOk_len (hr r hm)
      refine r11_SameShort.refl (by rw [shortM_Space]; exact hs) (shortM_room _ hw hl a0 a1 b0 b1) ?_
      have := shortM_all (Q := fun r => r.W.length ≤ 4096 ∧ Flat r.F) (one := oneW p.Space) (p := p) (fun P G q w F h P' G' q' x y => ⟨by simp, h.2⟩) (fun P G q w F h P' G' j hj => ⟨by simp [cutl]; have := h.1; simp only at this; omega, oneW_flat hs⟩) (fun r hm => ⟨hw r hm, hz.weights r hm, isW_parts (hf r hm)⟩)
      intro r hm
      have := this r hm
      exact ⟨by have h9 := this.1; unfold maxLen; omega, this.2⟩
  · exact hn
theorem Law.PdsShorts (a0 : TPds) (y0 : TPds.Fit a0) : l11_PdsShorts.f a0 true := by
  have hz := cutM_sized y0
  refine ⟨_, fit_cut y0, _, pds_Short.ok hz, _, r11_Short.ok hz, _, cut_short hz, _, fun _ _ => l11_alive.ok, ?_⟩
  simp
end Go.RM.Try
