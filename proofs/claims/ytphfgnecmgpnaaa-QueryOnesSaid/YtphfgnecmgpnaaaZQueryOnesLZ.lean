/- LA LB LC LD LE LF LG LH LJ LK LL LM LO LP LQ LR LS LT LV LW LX LY LZ, for the statement QueryOnes: what it needs, no more. -/
import Derived.Test.YtphfgnecmgpnaaaZQueryOnesGR
import Derived.Test.YtphfgnecmgpnaaaZQueryOnesGK
namespace Go.RM
set_option linter.unusedVariables false
set_option linter.unusedSimpArgs false
/-- A loop that comes to what spec tells. -/
theorem Loop.of {σ τ ρ : Type} {b : σ → Rnd σ τ ρ → Prop} (spec : σ → Fin τ ρ) (m : σ → Nat) (Inv : σ → Prop)
    (step : ∀ s, Inv s → (∃ s', b s (.next s') ∧ m s' < m s ∧ Inv s' ∧ spec s' = spec s) ∨ (∃ t, b s (.exit t) ∧ spec s = .go t) ∨ (∃ r, b s (.ret r) ∧ spec s = .ret r)) :
    ∀ s, Inv s → Loop b s (spec s) := by
  intro s
  generalize hn : m s = n
  induction n using Nat.strongRecOn generalizing s with
  | _ n ih =>
    intro hi
    rcases step s hi with ⟨s', hb, hm, hi', he⟩ | ⟨t, hb, he⟩ | ⟨r, hb, he⟩
    · rw [← he]
      exact .next hb (ih (m s') (by omega) s' rfl hi')
    · rw [he]; exact .exit hb
    · rw [he]; exact .ret hb
theorem wrap64 {i : Int} (h0 : -9223372036854775808 ≤ i) (h1 : i ≤ 9223372036854775807) : IntKind.i64.wrap i = i := by
  have e : IntKind.i64.wrap i = if (i % 18446744073709551616 : Int) ≥ 9223372036854775808 then i % 18446744073709551616 - 18446744073709551616 else i % 18446744073709551616 := by
    simp [IntKind.wrap, IntKind.bits, IntKind.signed]
  rw [e]
  split <;> omega
theorem wrapu64 {i : Int} (h0 : 0 ≤ i) (h1 : i < 18446744073709551616) : IntKind.u64.wrap i = i := by
  have e : IntKind.u64.wrap i = i % 18446744073709551616 := by
    simp [IntKind.wrap, IntKind.bits, IntKind.signed]
  rw [e]; omega
theorem wf64 {i : Int} (h : (Lit.int .i64 i).wf = true) : -9223372036854775808 ≤ i ∧ i ≤ 9223372036854775807 := by
  simp [Lit.wf, IntKind.min, IntKind.max, IntKind.bits, IntKind.signed] at h
  omega
/-- One round further in a list. -/
theorem wrap_len {α : Type} {l : List α} {i : Int} (hl : l.length ≤ maxLen) (h0 : 0 ≤ i) (h1 : i < l.length) : IntKind.i64.wrap (i + 1) = i + 1 := by
  have : maxLen ≤ 9223372036854775807 := by decide
  exact wrap64 (by omega) (by omega)
theorem rdl_mem {α : Type} [Inhabited α] {l : List α} {i : Int} (h0 : 0 ≤ i) (h1 : i < l.length) : rdl l i ∈ l :=
  List.mem_of_getElem? (rdl_get h0 h1)
theorem drop_rdl {α : Type} [Inhabited α] {l : List α} {i : Int} (h0 : 0 ≤ i) (h1 : i < l.length) : l.drop i.toNat = rdl l i :: l.drop (i + 1).toNat := by
  have h := rdl_get h0 h1
  have hlt : i.toNat < l.length := by omega
  rw [List.drop_eq_getElem_cons hlt, show (i + 1).toNat = i.toNat + 1 by omega]
  rw [List.getElem?_eq_getElem hlt, Option.some.injEq] at h
  rw [h]
theorem drop_end {α : Type} {l : List α} {i : Int} (h0 : 0 ≤ i) (h1 : ¬ i < l.length) : l.drop i.toNat = [] := List.drop_eq_nil_of_le (by omega)
theorem rdl0 {α : Type} [Inhabited α] {a : α} {l : List α} : rdl (a :: l) 0 = a := rfl
theorem rdl1 {α : Type} [Inhabited α] {a b : α} {l : List α} : rdl (a :: b :: l) 1 = b := rfl
end Go.RM
namespace Go.RM
set_option linter.unusedVariables false
set_option linter.unusedSimpArgs false
/-- The first place from i on whose element passes. -/
def idxI {α : Type} (test : α → Bool) : List α → Int → Int
  | [], _ => -1
  | x :: l, i => if test x then i else idxI test l (i + 1)
theorem idxI_any {α : Type} (test : α → Bool) : ∀ (l : List α) (i : Int), 0 ≤ i → decide (idxI test l i ≥ 0) = l.any test
  | [], i, h => by simp [idxI]
  | x :: l, i, h => by
    unfold idxI
    by_cases hx : test x = true
    · simp [hx, h]
    · rw [if_neg hx, idxI_any test l (i + 1) (by omega)]; simp [hx]
theorem indexFunc {α : Type} [Inhabited α] {l : List α} {q : α → Bool → Prop} {b : Int → Rnd Int Unit Int → Prop} (test : α → Bool) (hl : l.length ≤ maxLen) (hq : ∀ x ∈ l, q x (test x))
    (hb : b = fun x1 z1 => if x1 < (l.length : Int) then (InR x1 l.length ∧ ∃ t : Bool, q (rdl l x1) t ∧ if t = true then z1 = .ret x1 else z1 = .next (IntKind.i64.wrap (x1 + 1))) else z1 = .exit ()) :
    ∃ o : Fin Unit Int, Loop b 0 o ∧ o.on (fun _ => idxI test l 0 = -1) (fun r_ => idxI test l 0 = r_) := by
  let spec : Int → Fin Unit Int := fun i => if (l.drop i.toNat).any test then .ret (idxI test (l.drop i.toNat) i) else .go ()
  have key := Loop.of (b := b) spec (fun i => ((l.length : Int) - i).toNat) (fun i => 0 ≤ i) (fun i hi => by
    subst hb
    by_cases h : i < (l.length : Int)
    · have hd := drop_rdl hi h
      by_cases ht : test (rdl l i) = true
      · refine .inr (.inr ⟨i, ?_, ?_⟩)
        · simp only [h, if_true]
          exact ⟨⟨hi, h⟩, true, ht ▸ hq _ (rdl_mem hi h), by simp⟩
        · show (if _ then _ else _) = _
          rw [hd]; simp [ht, idxI]
      · have ht' : test (rdl l i) = false := by simpa using ht
        refine .inl ⟨i + 1, ?_, by omega, by omega, ?_⟩
        · simp only [h, if_true]
          exact ⟨⟨hi, h⟩, false, ht' ▸ hq _ (rdl_mem hi h), by simp [wrap_len hl hi h]⟩
        · show (if _ then _ else _) = (if _ then _ else _)
          rw [hd]; simp [ht', idxI]
    · refine .inr (.inl ⟨(), by simp only [h, if_false], ?_⟩)
      show (if _ then _ else _) = _
      rw [drop_end hi h]; rfl) 0 (Int.le_refl 0)
  refine ⟨_, key, ?_⟩
  show Fin.on (if _ then _ else _) _ _
  simp only [Int.toNat_zero, List.drop_zero]
  split
  · rfl
  · rename_i h
    show idxI test l 0 = -1
    have : decide (idxI test l 0 ≥ 0) = false := by rw [idxI_any test l 0 (Int.le_refl 0)]; simpa using h
    have hge : ∀ (l : List α) (i : Int), 0 ≤ i → idxI test l i = -1 ∨ 0 ≤ idxI test l i := by
      intro l
      induction l with
      | nil => intro i _; exact .inl rfl
      | cons x l ih =>
        intro i hi
        unfold idxI
        split
        · exact .inr hi
        · exact ih (i + 1) (by omega)
    rcases hge l 0 (Int.le_refl 0) with h1 | h1
    · exact h1
    · simp at this; omega
/-- A loop that goes over a list as long as elements pass. -/
theorem eachLoop {α ρ : Type} [Inhabited α] {l : List α} {b : Int → Rnd Int Unit ρ → Prop} (test : α → Bool) (rv : ρ)
    (hb : ∀ i, 0 ≤ i → i < (l.length : Int) → (test (rdl l i) = true → b i (.next (i + 1))) ∧ (test (rdl l i) = false → b i (.ret rv))) (hend : ∀ i, 0 ≤ i → ¬ i < (l.length : Int) → b i (.exit ())) :
    Loop b 0 (if l.all test then .go () else .ret rv) := by
  let spec : Int → Fin Unit ρ := fun i => if (l.drop i.toNat).all test then .go () else .ret rv
  have key := Loop.of (b := b) spec (fun i => ((l.length : Int) - i).toNat) (fun i => 0 ≤ i) (fun i hi => by
    by_cases h : i < (l.length : Int)
    · have hd := drop_rdl hi h
      obtain ⟨h1, h2⟩ := hb i hi h
      cases ht : test (rdl l i) with
      | true =>
        refine .inl ⟨i + 1, h1 ht, by omega, by omega, ?_⟩
        show (if _ then _ else _) = (if _ then _ else _)
        rw [hd]; simp [ht]
      | false =>
        refine .inr (.inr ⟨rv, h2 ht, ?_⟩)
        show (if _ then _ else _) = _
        rw [hd]; simp [ht]
    · refine .inr (.inl ⟨(), hend i hi h, ?_⟩)
      show (if _ then _ else _) = _
      rw [drop_end hi h]; rfl) 0 (Int.le_refl 0)
  simpa [spec] using key
/-- slices.ContainsFunc. -/
theorem containsFunc {α : Type} [Inhabited α] {l : List α} {q : α → Bool → Prop} {b : Int → Rnd Int Unit Int → Prop} (test : α → Bool) (hl : l.length ≤ maxLen) (hq : ∀ x ∈ l, q x (test x))
    (hb : b = fun x1 z1 => if x1 < (l.length : Int) then (InR x1 l.length ∧ ∃ t : Bool, q (rdl l x1) t ∧ if t = true then z1 = .ret x1 else z1 = .next (IntKind.i64.wrap (x1 + 1))) else z1 = .exit ()) :
    ∃ t : Int, (∃ o : Fin Unit Int, Loop b 0 o ∧ o.on (fun _ => t = -1) (fun r_ => t = r_)) ∧ l.any test = decide (t ≥ 0) :=
  ⟨_, indexFunc test hl hq hb, (idxI_any test l 0 (Int.le_refl 0)).symm⟩
/-- What rounds over a list come to. -/
def foldF {α σ ρ : Type} (step : Int → α → σ → Fin σ ρ) : List α → Int → σ → Fin σ ρ
  | [], _, s => .go s
  | x :: l, i, s => match step i x s with
    | .go s' => foldF step l (i + 1) s'
    | .ret r => .ret r
def Fin.map {σ τ ρ : Type} (f : σ → τ) : Fin σ ρ → Fin τ ρ
  | .go s => .go (f s)
  | .ret r => .ret r
/-- A round does what its step says. -/
def Rok {σ S τ ρ : Type} (b : S → Rnd S τ ρ → Prop) (mk : Int → σ → S) (Inv : Int → σ → Prop) (i : Int) (s : σ) : Fin σ ρ → Prop
  | .go s' => b (mk i s) (.next (mk (i + 1) s')) ∧ Inv (i + 1) s'
  | .ret r => b (mk i s) (.ret r)
theorem foldLoop {α σ S τ ρ : Type} [Inhabited α] {l : List α} {b : S → Rnd S τ ρ → Prop} (mk : Int → σ → S) (ex : σ → τ) (step : Int → α → σ → Fin σ ρ) (Inv : Int → σ → Prop)
    (hb : ∀ i s, 0 ≤ i → i < (l.length : Int) → Inv i s → Rok b mk Inv i s (step i (rdl l i) s))
    (hend : ∀ s, Inv l.length s → b (mk l.length s) (.exit (ex s))) (s0 : σ) (h0 : Inv 0 s0) :
    Loop b (mk 0 s0) ((foldF step l 0 s0).map ex) ∧ ∀ s, foldF step l 0 s0 = .go s → Inv l.length s := by
  have main : ∀ (k : Nat) (i : Int) (s : σ), ((l.length : Int) - i).toNat = k → 0 ≤ i → i ≤ l.length → Inv i s → Loop b (mk i s) ((foldF step (l.drop i.toNat) i s).map ex) ∧ ∀ s', foldF step (l.drop i.toNat) i s = .go s' → Inv l.length s' := by
    intro k
    induction k with
    | zero =>
      intro i s hk h0 h1 hi
      have : i = l.length := by omega
      subst this
      rw [drop_end h0 (by omega)]
      exact ⟨.exit (hend s hi), fun s' h => by injection h with h; exact h ▸ hi⟩
    | succ k ih =>
      intro i s hk h0 h1 hi
      have hlt : i < (l.length : Int) := by omega
      rw [drop_rdl h0 hlt]
      have hr := hb i s h0 hlt hi
      unfold foldF
      revert hr
      cases step i (rdl l i) s with
      | go s1 =>
        intro hr
        have := ih (i + 1) s1 (by omega) (by omega) (by omega) hr.2
        exact ⟨.next hr.1 this.1, this.2⟩
      | ret r =>
        intro hr
        exact ⟨.ret hr, fun s' h => by cases h⟩
  have := main _ 0 s0 rfl (Int.le_refl 0) (by omega) h0
  simpa using this
theorem foldF_map {α β ρ : Type} (f : α → β) : ∀ (l : List α) (i : Int) (acc : List β), foldF (fun _ x acc => (.go (acc ++ [f x]) : Fin (List β) ρ)) l i acc = .go (acc ++ l.map f)
  | [], i, acc => by simp [foldF]
  | x :: l, i, acc => by
    show foldF _ l (i + 1) (acc ++ [f x]) = _
    rw [foldF_map f l]
    simp
/-- What counted rounds come to. -/
def countF {σ ρ : Type} (step : Int → σ → Fin σ ρ) : Nat → Int → σ → Fin σ ρ
  | 0, _, s => .go s
  | k + 1, i, s => match step i s with
    | .go s' => countF step k (i + 1) s'
    | .ret r => .ret r
theorem countLoop {σ S τ ρ : Type} {n : Int} {b : S → Rnd S τ ρ → Prop} (mk : Int → σ → S) (ex : σ → τ) (step : Int → σ → Fin σ ρ) (Inv : Int → σ → Prop)
    (hb : ∀ i s, 0 ≤ i → i < n → Inv i s → Rok b mk Inv i s (step i s))
    (hend : ∀ s, Inv n s → b (mk n s) (.exit (ex s))) (s0 : σ) (hn : 0 ≤ n) (h0 : Inv 0 s0) :
    Loop b (mk 0 s0) ((countF step n.toNat 0 s0).map ex) ∧ ∀ s, countF step n.toNat 0 s0 = .go s → Inv n s := by
  have main : ∀ (k : Nat) (i : Int) (s : σ), (n - i).toNat = k → 0 ≤ i → i ≤ n → Inv i s → Loop b (mk i s) ((countF step k i s).map ex) ∧ ∀ s', countF step k i s = .go s' → Inv n s' := by
    intro k
    induction k with
    | zero =>
      intro i s hk h0 h1 hi
      have : i = n := by omega
      subst this
      exact ⟨.exit (hend s hi), fun s' h => by injection h with h; exact h ▸ hi⟩
    | succ k ih =>
      intro i s hk h0 h1 hi
      have hlt : i < n := by omega
      have hr := hb i s h0 hlt hi
      unfold countF
      revert hr
      cases step i s with
      | go s1 =>
        intro hr
        have := ih (i + 1) s1 (by omega) (by omega) (by omega) hr.2
        exact ⟨.next hr.1 this.1, this.2⟩
      | ret r =>
        intro hr
        exact ⟨.ret hr, fun s' h => by cases h⟩
  have := main _ 0 s0 rfl (Int.le_refl 0) hn h0
  simpa using this
/-- The numbers below n as integers. -/
def upto (n : Nat) : List Int := (List.range n).map Int.ofNat
theorem countF_app {β ρ : Type} (f : Int → β) : ∀ (k : Nat) (i : Int) (acc : List β), countF (fun i acc => (.go (acc ++ [f i]) : Fin (List β) ρ)) k i acc = .go (acc ++ (upto k).map (fun j => f (i + j)))
  | 0, i, acc => by simp [countF, upto]
  | k + 1, i, acc => by
    unfold countF
    simp only
    rw [countF_app f k]
    simp only [upto, List.range_succ_eq_map, List.map_cons, List.map_map, List.append_assoc, List.singleton_append]
    simp only [Fin.go.injEq, List.append_cancel_left_eq, List.cons.injEq]
    refine ⟨by simp, List.map_congr_left fun j _ => ?_⟩
    simp only [Function.comp]
    congr 1
    simp
    omega
/-- A row that is filled from the front. -/
theorem fillLoop {α ρ : Type} [Inhabited α] {n : Int} {b : (List α × Int) → Rnd (List α × Int) (List α) ρ → Prop} (d : α) (f : Int → α → α) (hn : 0 ≤ n)
    (hb : ∀ i l, 0 ≤ i → i < n → (l.length : Int) = n → b (l, i) (.next (setl l i (f i (rdl l i)), i + 1))) (hend : ∀ l, (l.length : Int) = n → b (l, n) (.exit l)) :
    Loop b (List.replicate n.toNat d, 0) (.go ((upto n.toNat).map (fun i => f i d))) := by
  let m := (upto n.toNat).map (fun i => f i d)
  have hm : m.length = n.toNat := by simp [m, upto]
  have key := Loop.of (b := b) (fun _ => .go m) (fun s => (n - s.2).toNat) (fun s => 0 ≤ s.2 ∧ s.2 ≤ n ∧ s.1 = m.take s.2.toNat ++ List.replicate (n.toNat - s.2.toNat) d) (fun s hi => by
    obtain ⟨l, i⟩ := s
    obtain ⟨h0, h1, h2⟩ := hi
    simp only at h0 h1 h2
    have hlen : (l.length : Int) = n := by rw [h2]; simp [hm]; omega
    by_cases h : i < n
    · have hd : rdl l i = d := by
        have hg := rdl_get (l := l) h0 (by omega)
        rw [h2] at hg
        rw [List.getElem?_append_right (by simp; omega)] at hg
        have : (List.take i.toNat m).length = i.toNat := by simp [hm]; omega
        rw [this, Nat.sub_self, List.getElem?_replicate] at hg
        rw [if_pos (by omega)] at hg
        injection hg with hg
        rw [h2]; exact hg.symm
      refine .inl ⟨_, hb i l h0 h hlen, by simp; omega, ⟨by simp; omega, by simp; omega, ?_⟩, rfl⟩
      simp only
      rw [hd]
      apply List.ext_getElem?
      intro k
      unfold setl
      rw [List.getElem?_set, h2]
      by_cases hk : i.toNat = k
      · subst hk
        have hl2 : i.toNat < (List.take i.toNat m ++ List.replicate (n.toNat - i.toNat) d).length := by simp [hm]; omega
        rw [if_pos rfl, if_pos hl2]
        rw [List.getElem?_append_left (by simp [hm]; omega)]
        rw [List.getElem?_take, if_pos (by omega)]
        simp only [m, upto, List.map_map, List.getElem?_map]
        rw [List.getElem?_range (by omega)]
        simp [Function.comp]
        congr 1; omega
      · rw [if_neg hk]
        by_cases hk2 : k < i.toNat
        · rw [List.getElem?_append_left (by simp [hm]; omega), List.getElem?_append_left (by simp [hm]; omega)]
          rw [List.getElem?_take, List.getElem?_take, if_pos hk2, if_pos (by omega)]
        · rw [List.getElem?_append_right (by simp [hm]; omega), List.getElem?_append_right (by simp [hm]; omega)]
          rw [List.getElem?_replicate, List.getElem?_replicate]
          simp only [List.length_take, hm]
          congr 1
          apply propext
          constructor <;> intro <;> omega
    · have : i = n := by omega
      subst this
      refine .inr (.inl ⟨l, hend l hlen, ?_⟩)
      rw [h2]; simp [← hm]) (List.replicate n.toNat d, 0) ⟨Int.le_refl 0, hn, by simp⟩
  exact key
theorem iteR {α : Type} (c : Bool) {a b : α} : if c = true then (if c = true then a else b) = a else (if c = true then a else b) = b := by cases c <;> rfl
def all2B {α β : Type} (test : α → β → Bool) : List α → List β → Bool
  | x :: l, y :: m => test x y && all2B test l m
  | _, _ => true
theorem each2Loop {α β ρ : Type} [Inhabited α] [Inhabited β] {l : List α} {m : List β} {b : Int → Rnd Int Unit ρ → Prop} (test : α → β → Bool) (rv : ρ) (hlen : l.length = m.length)
    (hb : ∀ i, 0 ≤ i → i < (l.length : Int) → (test (rdl l i) (rdl m i) = true → b i (.next (i + 1))) ∧ (test (rdl l i) (rdl m i) = false → b i (.ret rv))) (hend : ∀ i, 0 ≤ i → ¬ i < (l.length : Int) → b i (.exit ())) :
    Loop b 0 (if all2B test l m = true then .go () else .ret rv) := by
  let spec : Int → Fin Unit ρ := fun i => if all2B test (l.drop i.toNat) (m.drop i.toNat) = true then .go () else .ret rv
  have key := Loop.of (b := b) spec (fun i => ((l.length : Int) - i).toNat) (fun i => 0 ≤ i) (fun i hi => by
    by_cases h : i < (l.length : Int)
    · have hd := drop_rdl hi h
      have hd2 := drop_rdl (l := m) hi (by omega)
      obtain ⟨h1, h2⟩ := hb i hi h
      cases ht : test (rdl l i) (rdl m i) with
      | true =>
        refine .inl ⟨i + 1, h1 ht, by omega, by omega, ?_⟩
        show (if _ then _ else _) = (if _ then _ else _)
        rw [hd, hd2]; simp [all2B, ht]
      | false =>
        refine .inr (.inr ⟨rv, h2 ht, ?_⟩)
        show (if _ then _ else _) = _
        rw [hd, hd2]; simp [all2B, ht]
    · refine .inr (.inl ⟨(), hend i hi h, ?_⟩)
      show (if _ then _ else _) = _
      rw [drop_end hi h]; simp [all2B]) 0 (Int.le_refl 0)
  simpa [spec] using key
theorem all2B_eq {α : Type} [DecidableEq α] : ∀ (l m : List α), l.length = m.length → all2B (fun x y => decide (x = y)) l m = decide (l = m)
  | [], [], _ => by simp [all2B]
  | x :: l, y :: m, h => by
    have := all2B_eq l m (by simpa using h)
    simp [all2B, this]
theorem eqLoop {α ρ : Type} [Inhabited α] [DecidableEq α] {l m : List α} {b : Int → Rnd Int Unit ρ → Prop} (rv : ρ) (hlen : l.length = m.length)
    (hb : ∀ i, 0 ≤ i → i < (l.length : Int) → (rdl l i = rdl m i → b i (.next (i + 1))) ∧ (rdl l i ≠ rdl m i → b i (.ret rv))) (hend : ∀ i, 0 ≤ i → ¬ i < (l.length : Int) → b i (.exit ())) :
    Loop b 0 (if l = m then .go () else .ret rv) := by
  have := each2Loop (b := b) (fun x y => decide (x = y)) rv hlen (fun i h0 h1 => ⟨fun h => (hb i h0 h1).1 (by simpa using h), fun h => (hb i h0 h1).2 (by simpa using h)⟩) hend
  rw [all2B_eq l m hlen] at this
  simpa using this
/-- The same loop over two lists of numbers or truths, as it is written for slices.Equal and its like. -/
theorem eqRound {α : Type} [Inhabited α] [DecidableEq α] {l m : List α} {b : Int → Rnd Int Unit Bool → Prop} (hl : l.length ≤ maxLen) (hlen : l.length = m.length)
    (hb : b = fun x1 z1 => if x1 < (l.length : Int) then (InR x1 l.length ∧ InR x1 m.length ∧ if rdl l x1 = rdl m x1 then z1 = .next (IntKind.i64.wrap (x1 + 1)) else z1 = .ret false) else z1 = .exit ()) :
    Loop b 0 (if l = m then .go () else .ret false) := by
  subst hb
  refine eqLoop false hlen (fun i h0 h1 => ⟨fun h => ?_, fun h => ?_⟩) (fun i h0 h1 => by simp only [h1, if_false])
  · simp only [h1, if_true]
    exact ⟨⟨h0, h1⟩, ⟨h0, by omega⟩, by rw [if_pos h, wrap_len hl h0 h1]⟩
  · simp only [h1, if_true]
    exact ⟨⟨h0, h1⟩, ⟨h0, by omega⟩, by rw [if_neg h]; trivial⟩
theorem eqOn {α : Type} [DecidableEq α] {l m : List α} : (if l = m then (.go () : Fin Unit Bool) else .ret false).on (fun _ => decide (l = m) = true) (fun r_ => decide (l = m) = r_) := by
  by_cases h : l = m <;> simp [Fin.on, h]
/-- Rounds over a list that never return. -/
def foldG {α σ : Type} (g : Int → α → σ → σ) : List α → Int → σ → σ
  | [], _, s => s
  | x :: l, i, s => foldG g l (i + 1) (g i x s)
theorem foldF_G {α σ ρ : Type} (g : Int → α → σ → σ) : ∀ (l : List α) (i : Int) (s : σ), foldF (fun i x s => (.go (g i x s) : Fin σ ρ)) l i s = .go (foldG g l i s)
  | [], i, s => rfl
  | x :: l, i, s => foldF_G g l (i + 1) _
theorem foldGLoop {α σ S τ ρ : Type} [Inhabited α] {l : List α} {b : S → Rnd S τ ρ → Prop} (mk : Int → σ → S) (ex : σ → τ) (g : Int → α → σ → σ) (Inv : Int → σ → Prop)
    (hb : ∀ i s, 0 ≤ i → i < (l.length : Int) → Inv i s → b (mk i s) (.next (mk (i + 1) (g i (rdl l i) s))) ∧ Inv (i + 1) (g i (rdl l i) s))
    (hend : ∀ s, Inv l.length s → b (mk l.length s) (.exit (ex s))) (s0 : σ) (h0 : Inv 0 s0) :
    Loop b (mk 0 s0) (.go (ex (foldG g l 0 s0))) ∧ Inv l.length (foldG g l 0 s0) := by
  have := foldLoop (l := l) (b := b) mk ex (fun i x s => .go (g i x s)) Inv (fun i s h0 h1 hi => hb i s h0 h1 hi) hend s0 h0
  rw [foldF_G] at this
  exact ⟨this.1, this.2 _ rfl⟩
end Go.RM
namespace Go.RM.Try
open Go.RM
set_option linter.unusedVariables false
set_option linter.unusedSimpArgs false
def inB (i n : Int) : Bool := decide (i ≥ 0) && decide (i < n)
theorem pds_in.ok (i n : Int) : pds_in.f i n (inB i n) := rfl
theorem r11_in.ok (i n : Int) : r11_in.f i n (inB i n) := rfl
/-- Costs. -/
def costE (cap v : Int) : Int := if cap < 0 ∨ cap > 1048576 then 20 else if v < -1 ∨ v > cap then 21 else 0
theorem cost_Check.ok (cap v : Int) : cost_Check.f cap v (costE cap v) := by
  refine ⟨costE cap v, ?_, rfl⟩
  unfold cost_checks.f costE
  by_cases h : cap < 0 ∨ cap > 1048576
  · simp [h]
  · rw [if_neg (by simpa using h), if_neg h]
    have key := eachLoop (l := [v]) (b := cost_checks.b1 cap [v]) (fun x => !(decide (x < -1) || decide (x > cap))) (21 : Int) (fun i h0 h1 => by
      unfold cost_checks.b1
      simp only [h1, if_true]
      refine ⟨fun ht => ⟨⟨h0, h1⟩, ?_⟩, fun ht => ⟨⟨h0, h1⟩, ?_⟩⟩
      · have hn : ¬ ((decide (rdl [v] i < -1) || decide (rdl [v] i > cap)) = true) := by simpa using ht
        rw [if_neg hn, wrap_len (l := [v]) (by simp [maxLen]) h0 h1]
      · have hn : (decide (rdl [v] i < -1) || decide (rdl [v] i > cap)) = true := by simpa only [Bool.not_eq_false'] using ht
        rw [if_pos hn]; trivial) (fun i h0 h1 => by unfold cost_checks.b1; simp only [h1, if_false])
    refine ⟨_, key, ?_⟩
    by_cases hv : v < -1 ∨ v > cap
    · have : ([v].all fun x => !(decide (x < -1) || decide (x > cap))) = false := by simp; omega
      rw [this, if_pos hv]; rfl
    · have : ([v].all fun x => !(decide (x < -1) || decide (x > cap))) = true := by simp; omega
      rw [this, if_neg hv]; rfl
/-- The first n of 64. -/
def fullM (n : Int) : Int := 2 ^ n.toNat - 1
theorem pow_split {n : Nat} (h : n ≤ 64) : (18446744073709551615 : Int).fdiv (2 ^ (64 - n)) = 2 ^ n - 1 := by
  have hp : (2 : Int) ^ n * 2 ^ (64 - n) = 18446744073709551616 := by rw [← Int.pow_add, show n + (64 - n) = 64 by omega]; decide
  have hpos : (0 : Int) < 2 ^ (64 - n) := Int.pow_pos (by decide)
  rw [Int.fdiv_eq_ediv_of_nonneg _ (Int.le_of_lt hpos)]
  rw [show (18446744073709551615 : Int) = (2 ^ (64 - n) - 1) + (2 ^ n - 1) * 2 ^ (64 - n) by rw [Int.sub_mul, hp]; omega]
  rw [Int.add_mul_ediv_right _ _ (Int.ne_of_gt hpos), Int.ediv_eq_zero_of_lt (by omega) (by omega)]
  omega
theorem bits_Full.ok (n : Int) : bits_Full.f n (if n < 0 ∨ n > 64 then (0, 10) else (fullM n, 0)) := by
  unfold bits_Full.f
  by_cases h : n < 0 ∨ n > 64
  · rw [if_pos (by simpa using h), if_pos h]
  · rw [if_neg (by simpa using h), if_neg h]
    have e1 : IntKind.i64.wrap (64 - n) = 64 - n := wrap64 (by omega) (by omega)
    have e2 : IntKind.u64.wrap (64 - n) = 64 - n := wrapu64 (by omega) (by omega)
    rw [e1, e2]
    refine ⟨by omega, ?_⟩
    have hn : n.toNat ≤ 64 := by omega
    have := pow_split hn
    unfold shrI fullM
    rw [show (min (64 - n).toNat IntKind.u64.bits) = 64 - n.toNat by simp [IntKind.bits]; omega, this]
theorem two_pow_lt {n : Nat} (h : n < 64) : (2 : Int) ^ n < 18446744073709551616 := by
  have h1 : (2 : Nat) ^ n < 2 ^ 64 := Nat.pow_lt_pow_right (by decide) h
  have h2 : ((2 ^ n : Nat) : Int) = (2 : Int) ^ n := by simp
  have h3 : (2 : Nat) ^ 64 = 18446744073709551616 := by decide
  omega
theorem r01_Worth.ok {n : Int} (h0 : 0 ≤ n) (h1 : n < 64) : r01_Worth.f n (2 ^ n.toNat) := by
  have key := Loop.of (b := r01_Worth.b1) (fun _ => (.go (2 ^ n.toNat) : Fin Int Int)) (fun s => s.1.toNat) (fun s => 0 ≤ s.1 ∧ s.1 < 64 ∧ 0 ≤ s.2 ∧ s.2 * 2 ^ s.1.toNat = 2 ^ n.toNat) (fun s hi => by
    obtain ⟨x1, x2⟩ := s
    obtain ⟨i0, i1, i2, i3⟩ := hi
    simp only at i0 i1 i2 i3
    by_cases hx : x1 > 0
    · have hp : (2 : Int) ^ x1.toNat = 2 * 2 ^ (x1 - 1).toNat := by
        rw [show x1.toNat = (x1 - 1).toNat + 1 by omega, Int.pow_succ, Int.mul_comm]
      have hpos : (0 : Int) < 2 ^ (x1 - 1).toNat := Int.pow_pos (by decide)
      have hle : x2 * 2 ≤ x2 * 2 * 2 ^ (x1 - 1).toNat := by have h9 := Int.mul_le_mul_of_nonneg_left (show (1 : Int) ≤ 2 ^ (x1 - 1).toNat by omega) (show 0 ≤ x2 * 2 by omega); rw [Int.mul_one] at h9; exact h9
      have he : x2 * 2 * 2 ^ (x1 - 1).toNat = 2 ^ n.toNat := by rw [← i3, hp, Int.mul_assoc]
      have hlt := two_pow_lt (n := n.toNat) (by omega)
      refine .inl ⟨(x1 - 1, x2 * 2), ?_, by simp; omega, ⟨by simp; omega, by simp; omega, by simp; omega, he⟩, rfl⟩
      unfold r01_Worth.b1
      simp only [hx, if_true]
      rw [wrap64 (by omega) (by omega), wrapu64 (by omega) (by omega)]
    · have hz : x1 = 0 := by omega
      subst hz
      refine .inr (.inl ⟨x2, by unfold r01_Worth.b1; simp, ?_⟩)
      have : x2 = 2 ^ n.toNat := by simpa using i3
      rw [this]) (n, 1) ⟨h0, h1, Int.zero_le_ofNat 1, by simp⟩
  exact ⟨_, key, rfl⟩
theorem r01_Full.ok (n : Int) : r01_Full.f n (if n < 0 ∨ n > 64 then (0, 10) else (fullM n, 0)) := by
  unfold r01_Full.f
  by_cases h : n < 0 ∨ n > 64
  · rw [if_pos (by simpa using h), if_pos h]
  · rw [if_neg (by simpa using h), if_neg h]
    have key := Loop.of (b := r01_Full.b1 n) (fun _ => (.go (fullM n) : Fin Int (Int × Int))) (fun s => (n - s.2).toNat) (fun s => 0 ≤ s.2 ∧ s.2 ≤ n ∧ s.1 = fullM s.2) (fun s hi => by
      obtain ⟨x1, x2⟩ := s
      obtain ⟨i0, i1, i2⟩ := hi
      simp only at i0 i1 i2
      by_cases hx : x2 < n
      · have hlt := two_pow_lt (n := x2.toNat) (by omega)
        have hpos : (0 : Int) < 2 ^ x2.toNat := Int.pow_pos (by decide)
        have hp : (2 : Int) ^ (x2 + 1).toNat = 2 ^ x2.toNat * 2 := by rw [show (x2 + 1).toNat = x2.toNat + 1 by omega, Int.pow_succ]
        have hs : x1 + 2 ^ x2.toNat = fullM (x2 + 1) := by rw [i2]; unfold fullM; rw [hp]; omega
        have hle : (2 : Int) ^ x2.toNat ≤ 9223372036854775808 := by
          have h1 : (2 : Nat) ^ x2.toNat ≤ 2 ^ 63 := Nat.pow_le_pow_right (by decide) (by omega)
          have h2 : ((2 ^ x2.toNat : Nat) : Int) = (2 : Int) ^ x2.toNat := by simp
          have h3 : (2 : Nat) ^ 63 = 9223372036854775808 := by decide
          omega
        refine .inl ⟨(fullM (x2 + 1), x2 + 1), ?_, by simp; omega, ⟨by simp; omega, by simp; omega, rfl⟩, rfl⟩
        unfold r01_Full.b1
        simp only [hx, if_true]
        refine ⟨_, r01_Worth.ok i0 (by omega), ?_⟩
        rw [hs, wrap64 (by omega) (by omega), wrapu64 (by unfold fullM; rw [hp]; omega) (by unfold fullM; rw [hp]; omega)]
      · have hz : x2 = n := by omega
        subst hz
        exact .inr (.inl ⟨x1, by unfold r01_Full.b1; simp, by rw [i2]⟩)) (0, 0) ⟨by decide, by simp; omega, by simp [fullM]⟩
    exact ⟨_, key, rfl⟩
end Go.RM.Try
namespace Go.RM.Try
open Go.RM
set_option linter.unusedVariables false
set_option linter.unusedSimpArgs false
/-- A space without parts. -/
def spaceOk1 (s : TSpace) : Bool :=
  if s.Tag = 1 then (s.Dim == 0) && ((s.Parts.length : Int) == 0)
  else if s.Tag = 2 then decide (s.Dim ≥ 0) && (decide (s.Dim ≤ 1048576) && ((s.Parts.length : Int) == 0))
  else if s.Tag = 3 ∨ s.Tag = 4 then decide (s.Dim ≥ 0) && (decide (s.Dim ≤ 64) && ((s.Parts.length : Int) == 0))
  else false
def spaceOk (s : TSpace) : Bool :=
  if s.Tag = 5 then (s.Dim == 0) && (((s.Parts.length : Int) == 2) && s.Parts.all (fun p => !(p.Tag == 5) && spaceOk1 p)) else spaceOk1 s
theorem weight_Space.step1 {self : TSpace → Int → Prop} {s : TSpace} (h : s.Tag ≠ 5) : weight_Space.step self s (if spaceOk1 s = true then 0 else 50) := by
  unfold weight_Space.step weight_Space.j1 spaceOk1
  by_cases h1 : s.Tag = 1
  · simp only [h1, if_true]; exact iteR _
  · by_cases h2 : s.Tag = 2
    · simp only [h2, Int.reduceEq, if_true, if_false]; exact iteR _
    · by_cases h3 : s.Tag = 3
      · simp only [h3, Int.reduceEq, if_true, if_false, true_or]; exact iteR _
      · by_cases h4 : s.Tag = 4
        · simp only [h4, Int.reduceEq, if_true, if_false, or_true]; exact iteR _
        · simp [h1, h2, h3, h4, h]
theorem spaceOk_ne {s : TSpace} (h : s.Tag ≠ 5) : spaceOk s = spaceOk1 s := by unfold spaceOk; rw [if_neg h]
theorem weight_Space.ok {s : TSpace} (hl : s.Parts.length ≤ maxLen) : weight_Space.f s (if spaceOk s = true then 0 else 50) := by
  refine ⟨2, ?_⟩
  by_cases h : s.Tag = 5
  · show weight_Space.step _ s _
    unfold weight_Space.step spaceOk
    simp only [h, if_true, if_false, show ¬ (5 : Int) = 1 by decide, show ¬ (5 : Int) = 2 by decide, show ¬ (5 : Int) = 3 by decide, show ¬ (5 : Int) = 4 by decide]
    refine ⟨s.Parts.any (fun p => (p.Tag == 5) || !spaceOk1 p), fun _ _ => ?_, ?_⟩
    · refine containsFunc (fun p => (p.Tag == 5) || !spaceOk1 p) hl (fun p hp => ?_) rfl
      refine ⟨if spaceOk1 p = true then 0 else 50, fun hn => weight_Space.step1 hn, ?_⟩
      cases spaceOk1 p <;> simp
    · have e : (!s.Parts.any (fun p => (p.Tag == 5) || !spaceOk1 p)) = s.Parts.all (fun p => !(p.Tag == 5) && spaceOk1 p) := by
        rw [List.all_eq_not_any_not]; simp
      rw [e]
      exact iteR _
  · rw [spaceOk_ne h]; exact weight_Space.step1 h
theorem r05_Space.step1 {self : TSpace → Int → Prop} {s : TSpace} (h : s.Tag ≠ 5) : r05_Space.step self s (if spaceOk1 s = true then 0 else 50) := by
  unfold r05_Space.step r05_Space.j1 spaceOk1
  by_cases h1 : s.Tag = 1
  · simp only [h1, if_true]; exact iteR _
  · by_cases h2 : s.Tag = 2
    · simp only [h2, Int.reduceEq, if_true, if_false]; exact iteR _
    · by_cases h3 : s.Tag = 3
      · simp only [h3, Int.reduceEq, if_true, if_false, true_or, beq_self_eq_true]; exact iteR _
      · by_cases h4 : s.Tag = 4
        · simp only [h4, Int.reduceEq, if_true, if_false, or_true, beq_self_eq_true]; exact iteR _
        · simp [h1, h2, h3, h4, h]
theorem r05_Space.ok {s : TSpace} (hl : s.Parts.length ≤ maxLen) : r05_Space.f s (if spaceOk s = true then 0 else 50) := by
  refine ⟨2, ?_⟩
  by_cases h : s.Tag = 5
  · show r05_Space.step _ s _
    unfold r05_Space.step spaceOk r05_Space.j1
    simp only [h, if_true, if_false, show ¬ (5 : Int) = 1 by decide, show ¬ (5 : Int) = 2 by decide, show ¬ (5 : Int) = 3 by decide, show ((5 : Int) == 4) = false by decide, Bool.false_eq_true]
    by_cases hd : ((s.Dim == 0) && ((s.Parts.length : Int) == 2)) = true
    · obtain ⟨a, b, hp⟩ : ∃ a b, s.Parts = [a, b] := by
        have : s.Parts.length = 2 := by simp at hd; omega
        match hs : s.Parts, this with
        | [a, b], _ => exact ⟨a, b, rfl⟩
      have hq : ∀ p : TSpace, ¬ p.Tag = 5 → r05_Space.fN 1 p (if spaceOk1 p = true then 0 else 50) := fun p hn => r05_Space.step1 hn
      have hx : ∀ p : TSpace, ((!(p.Tag == 5)) && ((if spaceOk1 p = true then (0 : Int) else 50) == 0)) = (!(p.Tag == 5) && spaceOk1 p) := fun p => by cases spaceOk1 p <;> simp
      have r1 : r05_Space.b1 (r05_Space.fN 1) s (true, 0) (.next (!(a.Tag == 5) && spaceOk1 a, 1)) := by
        unfold r05_Space.b1
        simp only [hp]
        refine ⟨⟨by decide, by simp⟩, fun _ => ⟨by decide, by simp⟩, _, hq a, ?_⟩
        rw [show rdl [a, b] 0 = a from rfl, hx a]; rfl
      have r2 : (!(a.Tag == 5) && spaceOk1 a) = true → r05_Space.b1 (r05_Space.fN 1) s (true, 1) (.next (!(b.Tag == 5) && spaceOk1 b, 2)) := fun _ => by
        unfold r05_Space.b1
        simp only [hp]
        refine ⟨⟨by decide, by simp⟩, fun _ => ⟨by decide, by simp⟩, _, hq b, ?_⟩
        rw [show rdl [a, b] 1 = b from rfl, hx b]; rfl
      have r3 : ∀ c, r05_Space.b1 (r05_Space.fN 1) s (c, 2) (.exit c) := fun c => by unfold r05_Space.b1; simp [hp]
      have r4 : r05_Space.b1 (r05_Space.fN 1) s (false, 1) (.exit false) := by unfold r05_Space.b1; simp [hp]
      rw [hd]
      rw [Bool.and_eq_true] at hd
      rw [hd.1, hd.2, hp]
      cases ha : (!(a.Tag == 5) && spaceOk1 a) with
      | false =>
        rw [ha] at r1
        refine ⟨_, .next r1 (.exit r4), ?_⟩
        simp [Fin.on, ha]
      | true =>
        rw [ha] at r1
        refine ⟨_, .next r1 (.next (r2 ha) (.exit (r3 _))), ?_⟩
        simp only [Fin.on, List.all_cons, List.all_nil, ha, Bool.true_and, Bool.and_true]
        exact iteR _
    · have hd' : ((s.Dim == 0) && ((s.Parts.length : Int) == 2)) = false := by simpa only [Bool.not_eq_true] using hd
      rw [hd', ← Bool.and_assoc, hd']
      refine ⟨.go false, .exit ?_, ?_⟩
      · unfold r05_Space.b1; simp
      · simp [Fin.on]
  · rw [spaceOk_ne h]; exact r05_Space.step1 h
end Go.RM.Try
namespace Go.RM.Try
open Go.RM
set_option linter.unusedVariables false
set_option linter.unusedSimpArgs false
/-- A weight that has nothing but what is named. -/
def plainB (w : TWeight) (c f e p : Bool) : Bool :=
  (c || w.Cost == 0) && ((f || (w.Facts.Gen == 0 && (w.Facts.Rows.length : Int) == 0)) && ((e || (w.Cells.length : Int) == 0) && (p || (w.Parts.length : Int) == 0)))
theorem r05_plain.ok (w : TWeight) (c f e p : Bool) : r05_plain.f w c f e p (plainB w c f e p) := by
  unfold r05_plain.f plainB
  cases c <;> cases f <;> cases e <;> cases p <;> simp [Bool.and_assoc]
/-- Sizes that a reading keeps. -/
def TWeight.Sized (w : TWeight) : Prop := w.Facts.Rows.length ≤ 17592186044416 ∧ w.Cells.length ≤ 17592186044416 ∧ w.Parts.length ≤ 17592186044416
theorem TWeight.Fit.sized {w : TWeight} (h : w.Fit) : w.Sized := by
  cases h with
  | mk _ h0 h1 h2 h3 h4 h5 h6 h7 h8 =>
    have := h2.2.1
    exact ⟨by omega, by omega, by omega⟩
theorem weight_bare.ok {w : TWeight} (h : w.Sized) (t : Int) : weight_bare.f w t (plainB w (t == 2) (t == 3) (t == 4) (t == 5)) := by
  obtain ⟨ha, hb, hc⟩ := h
  have e : ∀ a b c : Nat, a ≤ 17592186044416 → b ≤ 17592186044416 → c ≤ 17592186044416 → (IntKind.i64.wrap (IntKind.i64.wrap ((a : Int) + b) + c) == 0) = (((a : Int) == 0) && (((b : Int) == 0) && ((c : Int) == 0))) := by
    intro a b c h1 h2 h3
    rw [wrap64 (i := (a : Int) + b) (by omega) (by omega), wrap64 (by omega) (by omega), Bool.eq_iff_iff]
    simp only [beq_iff_eq, Bool.and_eq_true]
    omega
  have z : ((([] : List Int).length : Nat) : Int) = 0 := rfl
  unfold weight_bare.f weight_bare.j1 plainB
  by_cases h2 : t = 2
  · subst h2; rw [if_pos rfl]; simp only []; rw [e _ _ _ ha hb hc]; simp [Bool.and_assoc]
  · by_cases h3 : t = 3
    · subst h3; simp only [Int.reduceEq, if_true, if_false]; rw [e _ _ _ (by simp) hb hc]; simp
    · by_cases h4 : t = 4
      · subst h4; simp only [Int.reduceEq, if_true, if_false]; rw [e _ _ _ ha (by simp) hc]; simp [Bool.and_assoc]
      · by_cases h5 : t = 5
        · subst h5; simp only [Int.reduceEq, if_true, if_false]; rw [e _ _ _ ha hb (by simp)]; simp [Bool.and_assoc]
        · simp only [h2, h3, h4, h5, if_false]; rw [e _ _ _ ha hb hc]
          rw [beq_false_of_ne h2, beq_false_of_ne h3, beq_false_of_ne h4, beq_false_of_ne h5]
          simp only [Bool.false_or, Bool.and_assoc]
/-- Cells. -/
def cellOk (n : Int) (c : TCell) : Bool :=
  (bitOp .andNot .u64 c.From (fullM n) == 0) && (if c.Kind = 0 then c.K == 0 else if c.Kind = 1 then true else if c.Kind = 2 then (c.K == 0) && (c.From == 0) else false)
theorem cells_mask.ok {n : Int} (h0 : 0 ≤ n) (h1 : n ≤ 64) : cells_mask.f n (fullM n) := by
  unfold cells_mask.f
  by_cases h : n ≥ 64
  · have : n = 64 := by omega
    subst this
    simp only [ge_iff_le, Int.le_refl, if_true]; decide
  · rw [if_neg h]
    refine ⟨h0, ?_⟩
    have hlt := two_pow_lt (n := n.toNat) (by omega)
    have hpos : (0 : Int) < 2 ^ n.toNat := Int.pow_pos (by decide)
    have e : shlI .u64 1 n = 2 ^ n.toNat := by
      unfold shlI
      rw [show (min n.toNat IntKind.u64.bits) = n.toNat by simp [IntKind.bits]; omega]
      rw [Int.one_mul, wrapu64 (by omega) hlt]
    rw [e, wrapu64 (by omega) (by omega)]
    rfl
theorem cells_right.ok {n : Int} (h0 : 0 ≤ n) (h1 : n ≤ 64) (c : TCell) : cells_right.f n c (cellOk n c) := by
  refine ⟨_, cells_mask.ok h0 h1, ?_⟩
  unfold cellOk
  by_cases hm : bitOp .andNot .u64 c.From (fullM n) = 0
  · simp only [hm, if_true, beq_self_eq_true, Bool.true_and]
    by_cases k1 : c.Kind = 1
    · simp [k1]
    · by_cases k0 : c.Kind = 0
      · simp [k0]
      · by_cases k2 : c.Kind = 2
        · simp [k2, Bool.and_comm]
        · simp [k0, k1, k2]
  · simp [hm]
theorem fullI {n : Int} (h0 : 0 ≤ n) (h1 : n ≤ 64) : (if n < 0 ∨ n > 64 then ((0, 10) : Int × Int) else (fullM n, 0)) = (fullM n, 0) := by rw [if_neg (by omega)]
theorem r03_Inside.ok {n : Int} (h0 : 0 ≤ n) (h1 : n ≤ 64) (x : Int) : r03_Inside.f n x (bitOp .andNot .u64 x (fullM n) == 0) := by
  have := r01_Full.ok n
  rw [fullI h0 h1] at this
  exact ⟨_, this, rfl⟩
theorem r05_cell.ok {n : Int} (h0 : 0 ≤ n) (h1 : n ≤ 64) (c : TCell) : r05_cell.f n c (cellOk n c) := by
  refine ⟨_, r03_Inside.ok h0 h1 _, ?_⟩
  unfold cellOk
  by_cases hm : bitOp .andNot .u64 c.From (fullM n) = 0
  · simp only [hm, if_true, beq_self_eq_true, Bool.true_and]
    by_cases k0 : c.Kind = 0
    · simp [k0]
    · by_cases k1 : c.Kind = 1
      · simp [k1]
      · by_cases k2 : c.Kind = 2
        · simp [k2]
        · simp [k0, k1, k2]
  · simp [hm]
def cellsOk (n : Int) (l : List TCell) : Bool := ((l.length : Int) == n) && l.all (cellOk n)
theorem cells_Check.ok {n : Int} (h0 : 0 ≤ n) (h1 : n ≤ 64) {l : List TCell} (hl : l.length ≤ maxLen) : cells_Check.f n l (if cellsOk n l = true then 0 else 40) := by
  refine ⟨0, ?_, ?_⟩
  · unfold cells_dims.f; rw [if_neg (by simp; omega)]
  · simp only [if_true]
    unfold cellsOk
    by_cases hn : (l.length : Int) = n
    · rw [if_pos hn]
      have key := eachLoop (l := l) (b := cells_Check.b1 n l) (cellOk n) (40 : Int) (fun i i0 i1 => by
        unfold cells_Check.b1
        simp only [i1, if_true]
        exact ⟨fun ht => ⟨⟨i0, i1⟩, _, cells_right.ok h0 h1 _, by rw [ht, if_pos rfl, wrap_len hl i0 i1]⟩, fun ht => ⟨⟨i0, i1⟩, _, cells_right.ok h0 h1 _, by rw [ht]; simp⟩⟩) (fun i i0 i1 => by unfold cells_Check.b1; rw [if_neg i1])
      refine ⟨_, key, ?_⟩
      cases l.all (cellOk n) <;> simp [Fin.on, hn]
    · rw [if_neg hn]
      simp [hn]
end Go.RM.Try
namespace Go.RM.Try
open Go.RM
set_option linter.unusedVariables false
set_option linter.unusedSimpArgs false
theorem slices_Equal_uint64.ok {a b : List Int} (hl : a.length ≤ maxLen) : slices_Equal_uint64.f a b (decide (a = b)) := by
  unfold slices_Equal_uint64.f
  by_cases h : (a.length : Int) = b.length
  · rw [if_pos h]
    exact ⟨_, eqRound hl (by omega) rfl, eqOn⟩
  · rw [if_neg h]
    have : a ≠ b := fun e => h (by rw [e])
    simp [this]
def factsEq (a b : TFacts) : Bool := (a.Gen == b.Gen) && decide (a.Rows = b.Rows)
theorem facts_Same.ok {a b : TFacts} (hl : a.Rows.length ≤ maxLen) : facts_Same.f a b (factsEq a b) :=
  ⟨_, fun _ => slices_Equal_uint64.ok hl, rfl⟩
theorem r03_Same.ok {a b : TFacts} (hl : a.Rows.length ≤ maxLen) : r03_Same.f a b (factsEq a b) := by
  unfold r03_Same.f factsEq
  by_cases hg : a.Gen = b.Gen
  · by_cases h : (a.Rows.length : Int) = b.Rows.length
    · rw [if_neg (by simp [hg, h])]
      refine ⟨_, eqRound hl (by omega) rfl, ?_⟩
      simp only [hg, beq_self_eq_true, Bool.true_and]
      exact eqOn
    · rw [if_pos (by simp [h])]
      have : a.Rows ≠ b.Rows := fun e => h (by rw [e])
      simp [this]
  · rw [if_pos (by simp [hg])]
    simp [hg]
def canonM (F : TFacts) : TFacts := ⟨F.Gen, F.Rows.map (fun r => bitOp .andNot .u64 r F.Gen)⟩
theorem upto_len (n : Nat) : (upto n).length = n := by simp [upto]
theorem upto_rdl {α : Type} [Inhabited α] (l : List α) : (upto l.length).map (rdl l) = l := by
  apply List.ext_getElem?
  intro k
  simp only [upto, List.map_map, List.getElem?_map]
  by_cases h : k < l.length
  · rw [List.getElem?_range h]
    have := rdl_get (l := l) (i := (k : Int)) (by omega) (by omega)
    simp only [Int.toNat_natCast] at this
    rw [this]; rfl
  · rw [List.getElem?_eq_none (by simp; omega), List.getElem?_eq_none (by omega)]; rfl
theorem facts_canon.ok {F : TFacts} (h : F.Rows.length ≤ 17592186044416) : facts_canon.f F (canonM F) := by
  refine ⟨⟨by omega, by unfold Fits; omega⟩, ?_⟩
  have hm : F.Rows.length ≤ maxLen := by unfold maxLen; omega
  have key := fillLoop (n := (F.Rows.length : Int)) (b := facts_canon.b1 F) (0 : Int) (fun i _ => bitOp .andNot .u64 (rdl F.Rows i) F.Gen) (by omega) (fun i l h0 h1 hl => by
    unfold facts_canon.b1
    simp only [h1, if_true]
    exact ⟨⟨h0, h1⟩, ⟨h0, by omega⟩, by rw [wrap_len hm h0 h1]⟩) (fun l hl => by
    unfold facts_canon.b1
    simp)
  refine ⟨_, key, ?_⟩
  show canonM F = _
  unfold canonM
  congr 1
  have : F.Rows.map (fun r => bitOp .andNot .u64 r F.Gen) = ((upto F.Rows.length).map (rdl F.Rows)).map (fun r => bitOp .andNot .u64 r F.Gen) := by rw [upto_rdl]
  rw [this, List.map_map]; simp [Function.comp_def]
theorem r03_canon.ok {F : TFacts} (h : F.Rows.length ≤ 17592186044416) : r03_canon.f F (canonM F) := by
  have hm : F.Rows.length ≤ maxLen := by unfold maxLen; omega
  have key := foldLoop (l := F.Rows) (b := r03_canon.b1 F) (fun i l => (l, i)) id (fun _ x acc => .go (acc ++ [bitOp .andNot .u64 x F.Gen])) (fun i l => (l.length : Int) = i) (fun i l h0 h1 hi => by
    refine ⟨?_, by simp; omega⟩
    unfold r03_canon.b1
    simp only [h1, if_true]
    exact ⟨⟨h0, h1⟩, by unfold Fits; omega, by rw [wrap_len hm h0 h1]⟩) (fun l hl => by unfold r03_canon.b1; simp) [] rfl
  refine ⟨_, key.1, ?_⟩
  rw [foldF_map]
  rfl
/-- Facts of n that are written as they are to be. -/
def factsOk (n : Int) (F : TFacts) : Bool :=
  ((F.Rows.length : Int) == n) && ((bitOp .andNot .u64 F.Gen (fullM n) == 0) && (F.Rows.all (fun x => bitOp .andNot .u64 x (fullM n) == 0) && factsEq (canonM F) F))
theorem canonM_len (F : TFacts) : (canonM F).Rows.length = F.Rows.length := by simp [canonM]
theorem facts_Check.ok {n : Int} (h0 : 0 ≤ n) (h1 : n ≤ 64) {F : TFacts} (hl : F.Rows.length ≤ 17592186044416) : facts_Check.f n F (if factsOk n F = true then 0 else 30) := by
  have hm : F.Rows.length ≤ maxLen := by unfold maxLen; omega
  let a := F.Rows.any (fun x => bitOp .andNot .u64 x (fullM n) != 0)
  have hs : facts_shaped.f n F (if ((!((F.Rows.length : Int) == n)) || ((!((bitOp .andNot .u64 F.Gen (fullM n)) == 0)) || a)) = true then 30 else 0) := by
    have hf := bits_Full.ok n
    rw [fullI h0 h1] at hf
    refine ⟨_, hf, ?_⟩
    simp only [if_true]
    refine ⟨a, fun _ _ => containsFunc (q := fun x0_ y_ => facts_shaped_1.f x0_ (fullM n) y_) (fun x => bitOp .andNot .u64 x (fullM n) != 0) hm (fun x hx => rfl) rfl, iteR _⟩
  refine ⟨_, hs, ?_⟩
  have e : F.Rows.all (fun x => bitOp .andNot .u64 x (fullM n) == 0) = !a := by simp [a, List.all_eq_not_any_not]; rfl
  unfold factsOk
  rw [e]
  by_cases hn : (F.Rows.length : Int) = n
  · by_cases hg : bitOp .andNot .u64 F.Gen (fullM n) = 0
    · cases ha : a with
      | false =>
        simp only [hn, hg, beq_self_eq_true, Bool.not_true, Bool.or_self, Bool.false_eq_true, if_false, if_true]
        refine ⟨_, facts_canon.ok hl, _, facts_Same.ok (by rw [canonM_len]; exact hm), ?_⟩
        cases factsEq (canonM F) F <;> simp
      | true => simp [hn, hg]
    · simp [hg]
  · simp [hn]
theorem r03_Check.ok {n : Int} (h0 : 0 ≤ n) (h1 : n ≤ 64) {F : TFacts} (hl : F.Rows.length ≤ 17592186044416) : r03_Check.f n F (if factsOk n F = true then 0 else 30) := by
  have hm : F.Rows.length ≤ maxLen := by unfold maxLen; omega
  let s : Bool := ((F.Rows.length : Int) == n) && ((bitOp .andNot .u64 F.Gen (fullM n) == 0) && F.Rows.all (fun x => bitOp .andNot .u64 x (fullM n) == 0))
  have hs : r03_shape.f n F s := by
    refine ⟨_, fun _ => r03_Inside.ok h0 h1 _, ?_⟩
    by_cases hn : (F.Rows.length : Int) = n
    · by_cases hg : bitOp .andNot .u64 F.Gen (fullM n) = 0
      · rw [if_neg (by simp [hn, hg])]
        have key := eachLoop (l := F.Rows) (b := r03_shape.b1 n F) (fun x => bitOp .andNot .u64 x (fullM n) == 0) false (fun i i0 i1 => by
          unfold r03_shape.b1
          have i2 : i < n := by omega
          simp only [i2, if_true]
          exact ⟨fun ht => ⟨⟨i0, i1⟩, _, r03_Inside.ok h0 h1 _, by rw [ht, if_pos rfl, wrap_len hm i0 i1]⟩, fun ht => ⟨⟨i0, i1⟩, _, r03_Inside.ok h0 h1 _, by rw [ht]; simp⟩⟩) (fun i i0 i1 => by unfold r03_shape.b1; rw [if_neg (by omega)])
        refine ⟨_, key, ?_⟩
        simp only [s, hn, hg, beq_self_eq_true, Bool.true_and]
        cases F.Rows.all (fun x => bitOp .andNot .u64 x (fullM n) == 0) <;> simp [Fin.on]
      · rw [if_pos (by simp [hg])]; simp [s, hg]
    · rw [if_pos (by simp [hn])]; simp [s, hn]
  refine ⟨true, ?_, ?_⟩
  · unfold r03_dim.f; simp; omega
  · rw [if_pos rfl]
    refine ⟨_, hs, _, fun _ => r03_canon.ok hl, _, fun _ => r03_Same.ok (by rw [canonM_len]; exact hm), ?_⟩
    have e : factsOk n F = (s && factsEq (canonM F) F) := by simp [factsOk, s, Bool.and_assoc]
    rw [e]
    cases s <;> cases factsEq (canonM F) F <;> simp
end Go.RM.Try
namespace Go.RM.Try
open Go.RM
set_option linter.unusedVariables false
set_option linter.unusedSimpArgs false
def isW1 (s : TSpace) (w : TWeight) : Bool :=
  if w.Zero = true then plainB w false false false false
  else plainB w (s.Tag == 2) (s.Tag == 3) (s.Tag == 4) false && (if s.Tag = 2 then decide (w.Cost ≥ 0) && decide (w.Cost ≤ s.Dim) else if s.Tag = 3 then factsOk s.Dim w.Facts else if s.Tag = 4 then cellsOk s.Dim w.Cells else true)
def isW (s : TSpace) (w : TWeight) : Bool :=
  if s.Tag = 5 then (!w.Zero) && (plainB w false false false true && (((w.Parts.length : Int) == 2) && (isW1 (rdl s.Parts 0) (rdl w.Parts 0) && isW1 (rdl s.Parts 1) (rdl w.Parts 1)))) else isW1 s w
def TWeight.Sized2 (w : TWeight) : Prop := w.Sized ∧ ∀ p ∈ w.Parts, p.Sized
theorem TWeight.Fit.sized2 {w : TWeight} (h : w.Fit) : w.Sized2 := ⟨h.sized, by
  cases h with
  | mk _ h0 h1 h2 h3 h4 h5 h6 h7 h8 => exact fun p hp => (h8 p hp).sized⟩
/-- The kinds of spaces without parts. -/
theorem space1_cases {s : TSpace} (h : spaceOk1 s = true) : (s.Tag = 1 ∧ s.Dim = 0) ∨ (s.Tag = 2 ∧ 0 ≤ s.Dim ∧ s.Dim ≤ 1048576) ∨ (s.Tag = 3 ∧ 0 ≤ s.Dim ∧ s.Dim ≤ 64) ∨ (s.Tag = 4 ∧ 0 ≤ s.Dim ∧ s.Dim ≤ 64) := by
  unfold spaceOk1 at h
  by_cases h1 : s.Tag = 1
  · simp [h1] at h; exact .inl ⟨h1, h.1⟩
  · by_cases h2 : s.Tag = 2
    · simp [h2] at h; exact .inr (.inl ⟨h2, h.1, h.2.1⟩)
    · by_cases h3 : s.Tag = 3
      · simp [h3] at h; exact .inr (.inr (.inl ⟨h3, h.1, h.2.1⟩))
      · by_cases h4 : s.Tag = 4
        · simp [h4] at h; exact .inr (.inr (.inr ⟨h4, h.1, h.2.1⟩))
        · simp [h1, h2, h3, h4] at h
theorem space_parts {s : TSpace} (h : spaceOk s = true) (h5 : s.Tag = 5) : ∃ a b, s.Parts = [a, b] ∧ spaceOk1 a = true ∧ spaceOk1 b = true ∧ a.Tag ≠ 5 ∧ b.Tag ≠ 5 ∧ s.Dim = 0 := by
  unfold spaceOk at h
  rw [if_pos h5] at h
  rw [Bool.and_eq_true, Bool.and_eq_true] at h
  obtain ⟨hd, hl, ha⟩ := h
  have : s.Parts.length = 2 := by simp at hl; omega
  match hs : s.Parts, this with
  | [a, b], _ =>
    rw [hs] at ha
    simp at ha hd
    exact ⟨a, b, rfl, ha.1.2, ha.2.2, ha.1.1, ha.2.1, hd⟩
theorem weight_is.step1 {self : TSpace → TWeight → Bool → Prop} {s : TSpace} {w : TWeight} (hs : spaceOk1 s = true) (hw : w.Sized) : weight_is.step self s w (isW1 s w) := by
  have hm : w.Cells.length ≤ maxLen := by have := hw.2.1; unfold maxLen; omega
  unfold weight_is.step isW1
  cases hz : w.Zero with
  | true =>
    rw [if_pos rfl, if_pos rfl]
    refine ⟨_, fun _ => weight_bare.ok hw 0, ?_⟩
    have h5 : s.Tag ≠ 5 := by rcases space1_cases hs with h | h | h | h <;> omega
    simp [h5]
  | false =>
    rw [if_neg Bool.false_ne_true, if_neg Bool.false_ne_true]
    have h5 : s.Tag ≠ 5 := by rcases space1_cases hs with h | h | h | h <;> omega
    refine ⟨_, weight_bare.ok hw s.Tag, ?_⟩
    rw [beq_false_of_ne h5]
    cases hp : plainB w (s.Tag == 2) (s.Tag == 3) (s.Tag == 4) false with
    | false => simp
    | true =>
      rw [if_pos rfl, Bool.true_and]
      rcases space1_cases hs with h | h | h | h
      · simp [h.1]
      · simp only [h.1, Int.reduceEq, if_true, if_false]
        refine ⟨_, fun _ => cost_Check.ok _ _, ?_⟩
        unfold costE
        rw [if_neg (by omega), Bool.eq_iff_iff]
        by_cases hv : w.Cost < -1 ∨ w.Cost > s.Dim
        · rw [if_pos hv]; simp; omega
        · rw [if_neg hv]; simp; omega
      · simp only [h.1, Int.reduceEq, if_true, if_false]
        refine ⟨_, facts_Check.ok h.2.1 h.2.2 hw.1, ?_⟩
        cases factsOk s.Dim w.Facts <;> simp
      · simp only [h.1, Int.reduceEq, if_true, if_false]
        refine ⟨_, cells_Check.ok h.2.1 h.2.2 hm, ?_⟩
        cases cellsOk s.Dim w.Cells <;> simp
theorem isW_ne {s : TSpace} {w : TWeight} (h : s.Tag ≠ 5) : isW s w = isW1 s w := by unfold isW; rw [if_neg h]
theorem part_sized {w : TWeight} (hw : w.Sized2) {i : Int} (h0 : 0 ≤ i) (h1 : i < w.Parts.length) : (rdl w.Parts i).Sized := hw.2 _ (rdl_mem h0 h1)
theorem weight_is.ok {s : TSpace} {w : TWeight} (hs : spaceOk s = true) (hw : w.Sized2) : weight_is.f s w (isW s w) := by
  refine ⟨2, ?_⟩
  by_cases h5 : s.Tag = 5
  · obtain ⟨a, b, hp, ha, hb, _, _, hd⟩ := space_parts hs h5
    show weight_is.step (weight_is.fN 1) s w _
    unfold weight_is.step isW
    rw [if_pos h5]
    cases hz : w.Zero with
    | true =>
      rw [if_pos rfl]
      exact ⟨false, fun h => (h h5).elim, by simp [h5]⟩
    | false =>
      rw [if_neg Bool.false_ne_true]
      refine ⟨_, weight_bare.ok hw.1 s.Tag, ?_⟩
      simp only [h5, Int.reduceBEq]
      cases hb : plainB w false false false true with
      | false => simp
      | true =>
        simp only [Int.reduceEq, if_true, if_false, hp]
        by_cases h2 : (w.Parts.length : Int) = 2
        · refine ⟨fun _ => ⟨by decide, by simp⟩, fun _ => ⟨by decide, by omega⟩, _, fun _ => weight_is.step1 (self := weight_is.fN 0) ha (part_sized hw (by decide) (by omega)), fun _ _ => ⟨by decide, by simp⟩, fun _ _ => ⟨by decide, by omega⟩, _, fun _ _ => weight_is.step1 (self := weight_is.fN 0) (by assumption) (part_sized hw (by decide) (by omega)), ?_⟩
          simp [h2]
        · refine ⟨fun h => (h2 h).elim, fun h => (h2 h).elim, false, fun h => (h2 h).elim, fun h => (h2 h).elim, fun h => (h2 h).elim, false, fun h => (h2 h).elim, ?_⟩
          simp [h2]
  · have h1 : spaceOk1 s = true := by rw [← spaceOk_ne h5]; exact hs
    rw [isW_ne h5]; exact weight_is.step1 h1 hw.1
theorem r05_is.step1 {self : TSpace → TWeight → Bool → Prop} {s : TSpace} {w : TWeight} (hs : spaceOk1 s = true) (hw : w.Sized) : r05_is.step self s w (isW1 s w) := by
  have hm : w.Cells.length ≤ maxLen := by have := hw.2.1; unfold maxLen; omega
  unfold r05_is.step isW1
  have h5 : s.Tag ≠ 5 := by rcases space1_cases hs with h | h | h | h <;> omega
  cases hz : w.Zero with
  | true =>
    rw [if_pos rfl, if_pos rfl]
    exact ⟨_, fun _ => r05_plain.ok w false false false false, by simp [h5]⟩
  | false =>
    rw [if_neg Bool.false_ne_true, if_neg Bool.false_ne_true]
    rcases space1_cases hs with h | h | h | h
    · simp only [h.1, Int.reduceEq, Int.reduceBEq, if_true, if_false, Bool.and_true]
      exact ⟨_, r05_plain.ok w false false false false, rfl⟩
    · simp only [h.1, Int.reduceEq, Int.reduceBEq, if_true, if_false]
      exact ⟨_, r05_plain.ok w true false false false, rfl⟩
    · simp only [h.1, Int.reduceEq, Int.reduceBEq, if_true, if_false]
      refine ⟨_, r05_plain.ok w false true false false, _, fun _ => r03_Check.ok h.2.1 h.2.2 hw.1, ?_⟩
      cases factsOk s.Dim w.Facts <;> simp
    · simp only [h.1, Int.reduceEq, Int.reduceBEq, if_true, if_false]
      refine ⟨_, r05_plain.ok w false false true false, ?_⟩
      unfold cellsOk
      cases hp : plainB w false false true false with
      | false => simp
      | true =>
        by_cases hn : (w.Cells.length : Int) = s.Dim
        · rw [if_neg (by simp [hn])]
          have key := eachLoop (l := w.Cells) (b := r05_is.b1 s w) (cellOk s.Dim) false (fun i i0 i1 => by
            unfold r05_is.b1
            simp only [i1, if_true]
            exact ⟨fun ht => ⟨⟨i0, i1⟩, _, r05_cell.ok h.2.1 h.2.2 _, by rw [ht, if_pos rfl, wrap_len hm i0 i1]⟩, fun ht => ⟨⟨i0, i1⟩, _, r05_cell.ok h.2.1 h.2.2 _, by rw [ht]; simp⟩⟩) (fun i i0 i1 => by unfold r05_is.b1; simp only [i1, if_false])
          refine ⟨_, key, ?_⟩
          cases w.Cells.all (cellOk s.Dim) <;> simp [Fin.on, hn]
        · rw [if_pos (by simp [hn])]; simp [hn]
theorem r05_is.ok {s : TSpace} {w : TWeight} (hs : spaceOk s = true) (hw : w.Sized2) : r05_is.f s w (isW s w) := by
  refine ⟨2, ?_⟩
  by_cases h5 : s.Tag = 5
  · obtain ⟨a, b, hp, ha, hb, _, _, hd⟩ := space_parts hs h5
    show r05_is.step (r05_is.fN 1) s w _
    unfold r05_is.step isW
    rw [if_pos h5]
    cases hz : w.Zero with
    | true =>
      rw [if_pos rfl]
      exact ⟨false, fun h => (h h5).elim, by simp [h5]⟩
    | false =>
      rw [if_neg Bool.false_ne_true]
      simp only [h5, Int.reduceEq, if_true, if_false, hp]
      refine ⟨_, r05_plain.ok w false false false true, ?_⟩
      cases hb : plainB w false false false true with
      | false => exact ⟨fun h => (by cases h), fun h => (by cases h), false, fun h => (by cases h), fun h => (by cases h), fun h => (by cases h), false, fun h => (by cases h), by simp⟩
      | true =>
        by_cases h2 : (w.Parts.length : Int) = 2
        · refine ⟨fun _ _ => ⟨by decide, by simp⟩, fun _ _ => ⟨by decide, by omega⟩, _, fun _ _ => r05_is.step1 (self := r05_is.fN 0) ha (part_sized hw (by decide) (by omega)), fun _ _ _ => ⟨by decide, by simp⟩, fun _ _ _ => ⟨by decide, by omega⟩, _, fun _ _ _ => r05_is.step1 (self := r05_is.fN 0) (by assumption) (part_sized hw (by decide) (by omega)), ?_⟩
          simp [h2]
        · refine ⟨fun _ h => (h2 h).elim, fun _ h => (h2 h).elim, false, fun _ h => (h2 h).elim, fun _ h => (h2 h).elim, fun _ h => (h2 h).elim, false, fun _ h => (h2 h).elim, ?_⟩
          simp [h2]
  · have h1 : spaceOk1 s = true := by rw [← spaceOk_ne h5]; exact hs
    rw [isW_ne h5]; exact r05_is.step1 h1 hw.1
/-- The code of weights that are to be of a space. -/
def allC (s : TSpace) (l : List TWeight) : Int := if spaceOk s = true then (if l.all (isW s) = true then 0 else 51) else 50
theorem weight_checked.ok {s : TSpace} {l : List TWeight} (hs : s.Parts.length ≤ maxLen) (hl : l.length ≤ maxLen) (hw : ∀ w ∈ l, w.Sized2) : weight_checked.f s l (allC s l) := by
  refine ⟨_, weight_Space.ok hs, ?_⟩
  unfold allC
  cases h : spaceOk s with
  | false => simp
  | true =>
    simp only [if_true]
    refine ⟨l.any (fun w => !isW s w), containsFunc (q := fun x y => weight_checked_1.f x s y) (fun w => !isW s w) hl (fun w hm => ⟨_, weight_is.ok h (hw w hm), rfl⟩) rfl, ?_⟩
    rw [List.all_eq_not_any_not]
    cases l.any (fun w => !isW s w) <;> simp
def wC (s : TSpace) (w : TWeight) : Int := if spaceOk s = true then (if isW s w = true then 0 else 51) else 50
theorem wC_all (s : TSpace) (w : TWeight) : allC s [w] = wC s w := by simp [allC, wC]
theorem weight_Check.ok {s : TSpace} {w : TWeight} (hs : s.Parts.length ≤ maxLen) (hw : w.Sized2) : weight_Check.f s w (wC s w) := by
  refine ⟨_, weight_checked.ok hs (by simp [maxLen]) (fun x hx => by simp at hx; subst hx; exact hw), (wC_all s w).symm⟩
theorem r05_Check.ok {s : TSpace} {w : TWeight} (hs : s.Parts.length ≤ maxLen) (hw : w.Sized2) : r05_Check.f s w (wC s w) := by
  refine ⟨_, r05_Space.ok hs, ?_⟩
  unfold wC
  cases h : spaceOk s with
  | false => simp
  | true =>
    simp only [if_true]
    exact ⟨_, r05_is.ok h hw, iteR _⟩
end Go.RM.Try
namespace Go.RM.Try
open Go.RM
set_option linter.unusedVariables false
set_option linter.unusedSimpArgs false
def ruleOk (p : TPds) (r : TRule) : Bool :=
  inB r.P p.States && (inB r.Q p.States && (inB r.G p.Symbols && (decide ((r.W.length : Int) ≤ 4096) && r.W.all (fun g => inB g p.Symbols))))
theorem pds_rule.ok {p : TPds} {r : TRule} (hl : r.W.length ≤ maxLen) : pds_rule.f p r (ruleOk p r) := by
  refine ⟨_, pds_in.ok _ _, _, fun _ => pds_in.ok _ _, _, fun _ _ => pds_in.ok _ _, r.W.any (fun g => !inB g p.Symbols), fun _ _ _ _ => ?_, ?_⟩
  · exact containsFunc (q := fun x y => pds_rule_1.f x p y) (fun g => !inB g p.Symbols) hl (fun g hg => ⟨_, pds_in.ok _ _, rfl⟩) rfl
  · unfold ruleOk; rw [List.all_eq_not_any_not]
theorem r11_rule.ok {p : TPds} {r : TRule} (hl : r.W.length ≤ maxLen) : r11_rule.f p r (ruleOk p r) := by
  refine ⟨_, r11_in.ok _ _, _, fun _ => r11_in.ok _ _, _, fun _ _ => r11_in.ok _ _, ?_⟩
  unfold ruleOk
  cases inB r.P p.States with
  | false => simp
  | true =>
    cases inB r.Q p.States with
    | false => simp
    | true =>
      cases inB r.G p.Symbols with
      | false => simp
      | true =>
        by_cases h : (r.W.length : Int) > 4096
        · have h' : ¬ (r.W.length : Int) ≤ 4096 := by omega
          simp [h, decide_eq_false h']
        · rw [if_neg (by simp; omega)]
          have key := eachLoop (l := r.W) (b := r11_rule.b1 p r) (fun g => inB g p.Symbols) false (fun i i0 i1 => by
            unfold r11_rule.b1
            simp only [i1, if_true]
            exact ⟨fun ht => ⟨⟨i0, i1⟩, _, r11_in.ok _ _, by rw [ht, if_pos rfl, wrap_len hl i0 i1]⟩, fun ht => ⟨⟨i0, i1⟩, _, r11_in.ok _ _, by rw [ht]; simp⟩⟩) (fun i i0 i1 => by unfold r11_rule.b1; simp only [i1, if_false])
          refine ⟨_, key, ?_⟩
          rw [decide_eq_true (show (r.W.length : Int) ≤ 4096 by omega)]
          cases r.W.all (fun g => inB g p.Symbols) <;> simp [Fin.on]
/-- The code of a system. -/
def pC (p : TPds) : Int :=
  if spaceOk p.Space = true then
    if (p.Rules.length : Int) > 16384 then 3
    else if (decide (p.States < 0) || (decide (p.States > 4096) || (decide (p.Symbols < 0) || decide (p.Symbols > 4096)))) = true then 110
    else if p.Rules.all (ruleOk p) = true then (if p.Rules.all (fun r => isW p.Space r.F) = true then 0 else 51) else 110
  else 50
structure TPds.Sized (p : TPds) : Prop where
  parts : p.Space.Parts.length ≤ maxLen
  rules : p.Rules.length ≤ 17592186044416
  words : ∀ r ∈ p.Rules, r.W.length ≤ maxLen
  weights : ∀ r ∈ p.Rules, r.F.Sized2
theorem TPds.Sized.rl {p : TPds} (h : p.Sized) : p.Rules.length ≤ maxLen := by have := h.rules; unfold maxLen; omega
theorem pds_Check.ok {p : TPds} (h : p.Sized) : pds_Check.f p (pC p) := by
  refine ⟨_, weight_Space.ok h.parts, ?_⟩
  unfold pC
  cases hs : spaceOk p.Space with
  | false => simp
  | true =>
    simp only [if_true]
    by_cases hr : (p.Rules.length : Int) > 16384
    · rw [if_pos hr, if_pos hr]
    · rw [if_neg hr, if_neg hr]
      by_cases hn : (decide (p.States < 0) || (decide (p.States > 4096) || (decide (p.Symbols < 0) || decide (p.Symbols > 4096)))) = true
      · rw [if_pos hn, if_pos hn]
      · rw [if_neg hn, if_neg hn]
        refine ⟨p.Rules.any (fun r => !ruleOk p r), containsFunc (q := fun x y => pds_Check_1.f x p y) (fun r => !ruleOk p r) h.rl (fun r hm => ⟨_, pds_rule.ok (h.words r hm), rfl⟩) rfl, ?_⟩
        rw [List.all_eq_not_any_not]
        cases p.Rules.any (fun r => !ruleOk p r) with
        | true => simp
        | false =>
          simp only [Bool.false_eq_true, if_false, Bool.not_false, if_true]
          have key := eachLoop (l := p.Rules) (b := pds_Check.b1 p) (fun r => isW p.Space r.F) (51 : Int) (fun i i0 i1 => by
            unfold pds_Check.b1
            simp only [i1, if_true]
            have hw := weight_Check.ok h.parts (h.weights _ (rdl_mem i0 i1))
            unfold wC at hw
            rw [if_pos hs] at hw
            exact ⟨fun ht => ⟨⟨i0, i1⟩, _, hw, by rw [ht, if_pos rfl, if_pos rfl, wrap_len h.rl i0 i1]⟩, fun ht => ⟨⟨i0, i1⟩, _, hw, by rw [ht]; simp⟩⟩) (fun i i0 i1 => by unfold pds_Check.b1; simp only [i1, if_false])
          refine ⟨_, key, ?_⟩
          cases p.Rules.all (fun r => isW p.Space r.F) <;> simp [Fin.on]
theorem r11_Check.ok {p : TPds} (h : p.Sized) : r11_Check.f p (pC p) := by
  refine ⟨_, r05_Space.ok h.parts, ?_⟩
  unfold pC
  cases hs : spaceOk p.Space with
  | false => simp
  | true =>
    simp only [if_true]
    by_cases hr : (p.Rules.length : Int) > 16384
    · rw [if_pos hr, if_pos hr]
    · rw [if_neg hr, if_neg hr]
      by_cases hn : (decide (p.States < 0) || (decide (p.States > 4096) || (decide (p.Symbols < 0) || decide (p.Symbols > 4096)))) = true
      · rw [if_pos hn, if_pos hn]
      · rw [if_neg hn, if_neg hn]
        have key1 := eachLoop (l := p.Rules) (b := r11_Check.b1 p) (ruleOk p) (110 : Int) (fun i i0 i1 => by
          unfold r11_Check.b1
          simp only [i1, if_true]
          have hw := r11_rule.ok (p := p) (h.words _ (rdl_mem i0 i1))
          exact ⟨fun ht => ⟨⟨i0, i1⟩, _, hw, by rw [ht, if_pos rfl, wrap_len h.rl i0 i1]⟩, fun ht => ⟨⟨i0, i1⟩, _, hw, by rw [ht]; simp⟩⟩) (fun i i0 i1 => by unfold r11_Check.b1; simp only [i1, if_false])
        refine ⟨_, key1, ?_⟩
        cases p.Rules.all (ruleOk p) with
        | false => simp [Fin.on]
        | true =>
          simp only [if_true, Fin.on]
          have key := eachLoop (l := p.Rules) (b := r11_Check.b2 p) (fun r => isW p.Space r.F) (51 : Int) (fun i i0 i1 => by
            unfold r11_Check.b2
            simp only [i1, if_true]
            have hw := r05_Check.ok h.parts (h.weights _ (rdl_mem i0 i1))
            unfold wC at hw
            rw [if_pos hs] at hw
            exact ⟨fun ht => ⟨⟨i0, i1⟩, _, hw, by rw [ht, if_pos rfl, if_pos rfl, wrap_len h.rl i0 i1]⟩, fun ht => ⟨⟨i0, i1⟩, _, hw, by rw [ht]; simp⟩⟩) (fun i i0 i1 => by unfold r11_Check.b2; simp only [i1, if_false])
          refine ⟨_, key, ?_⟩
          cases p.Rules.all (fun r => isW p.Space r.F) <;> simp [Fin.on]
end Go.RM.Try
namespace Go.RM.Try
open Go.RM
set_option linter.unusedVariables false
set_option linter.unusedSimpArgs false
theorem shl_one {i : Int} (h0 : 0 ≤ i) (h1 : i < 64) : shlI .u64 1 i = 2 ^ i.toNat := by
  have hlt := two_pow_lt (n := i.toNat) (by omega)
  have hpos : (0 : Int) < 2 ^ i.toNat := Int.pow_pos (by decide)
  unfold shlI
  rw [show (min i.toNat IntKind.u64.bits) = i.toNat by simp [IntKind.bits]; omega]
  rw [Int.one_mul, wrapu64 (by omega) hlt]
def noneW : TWeight := ⟨false, 0, ⟨0, []⟩, [], []⟩
def oneF (n : Int) : TFacts := ⟨0, (upto n.toNat).map (fun i => 2 ^ i.toNat)⟩
def oneC (n : Int) : List TCell := (upto n.toNat).map (fun i => ⟨2 ^ i.toNat, 0, 0⟩)
theorem upto_mem {n : Nat} {i : Int} (h : i ∈ upto n) : 0 ≤ i ∧ i < n := by
  simp only [upto, List.mem_map, List.mem_range] at h
  obtain ⟨k, hk, rfl⟩ := h
  simp; exact hk
theorem facts_One.ok {n : Int} (h0 : 0 ≤ n) (h1 : n ≤ 64) : facts_One.f n (oneF n, 0) := by
  have hf := bits_Full.ok n
  rw [fullI h0 h1] at hf
  refine ⟨_, hf, ?_⟩
  simp only [if_true]
  refine ⟨⟨h0, by unfold Fits; omega⟩, ?_⟩
  have hr : ((List.replicate (Int.toNat n) (0 : Int)).length : Int) = n := by simp; omega
  have key := fillLoop (n := n) (b := facts_One.b1 n) (0 : Int) (fun i _ => shlI .u64 1 (IntKind.u64.wrap i)) h0 (fun i l i0 i1 hl => by
    unfold facts_One.b1
    rw [hr]
    simp only [i1, if_true]
    rw [wrapu64 i0 (by omega), wrap64 (by omega) (by omega)]
    exact ⟨i0, ⟨i0, by omega⟩, rfl⟩) (fun l hl => by
    unfold facts_One.b1
    rw [hr]
    simp)
  refine ⟨_, key, ?_⟩
  show (oneF n, (0 : Int)) = (TFacts.mk 0 _, 0)
  unfold oneF
  congr 2
  refine List.map_congr_left fun i hi => ?_
  have := upto_mem hi
  rw [wrapu64 this.1 (by omega), shl_one this.1 (by omega)]
theorem cells_One.ok {n : Int} (h0 : 0 ≤ n) (h1 : n ≤ 64) : cells_One.f n (oneC n, 0) := by
  refine ⟨0, by unfold cells_dims.f; rw [if_neg (by simp; omega)], ?_⟩
  simp only [if_true]
  refine ⟨oneC n, ⟨⟨h0, by unfold Fits; omega⟩, ?_⟩, rfl⟩
  have key := fillLoop (n := n) (b := cells_one.b1 n) (TCell.mk 0 0 0) (fun i c => TCell.mk (shlI .u64 1 i) c.Kind c.K) h0 (fun i l i0 i1 hl => by
    unfold cells_one.b1
    simp only [i1, if_true]
    rw [wrap64 (by omega) (by omega)]
    exact ⟨i0, ⟨i0, by omega⟩, rfl⟩) (fun l hl => by
    unfold cells_one.b1
    simp)
  refine ⟨_, key, ?_⟩
  show oneC n = _
  unfold oneC
  refine List.map_congr_left fun i hi => ?_
  have := upto_mem hi
  rw [shl_one this.1 (by omega)]
theorem r03_One.ok {n : Int} (h0 : 0 ≤ n) (h1 : n ≤ 64) : r03_One.f n (oneF n, 0) := by
  refine ⟨true, by unfold r03_dim.f; simp; omega, ?_⟩
  rw [if_pos rfl]
  have key := (countLoop (n := n) (b := r03_One.b1 n) (fun i l => (l, i)) id (fun i acc => .go (acc ++ [2 ^ i.toNat])) (fun i l => (l.length : Int) = i) (fun i l i0 i1 hi => by
    refine ⟨?_, by simp; omega⟩
    unfold r03_One.b1
    simp only [i1, if_true]
    exact ⟨_, r01_Worth.ok i0 (by omega), by unfold Fits; omega, by rw [wrap64 (by omega) (by omega)]⟩) (fun l hl => by unfold r03_One.b1; simp) [] h0 rfl).1
  refine ⟨_, key, ?_⟩
  rw [countF_app]
  show (oneF n, (0 : Int)) = (TFacts.mk 0 _, 0)
  simp [oneF]
def oneW1 (s : TSpace) : TWeight := if s.Tag = 3 then ⟨false, 0, oneF s.Dim, [], []⟩ else if s.Tag = 4 then ⟨false, 0, ⟨0, []⟩, oneC s.Dim, []⟩ else noneW
def oneW (s : TSpace) : TWeight := if s.Tag = 5 then ⟨false, 0, ⟨0, []⟩, [], [oneW1 (rdl s.Parts 0), oneW1 (rdl s.Parts 1)]⟩ else oneW1 s
theorem oneW_ne {s : TSpace} (h : s.Tag ≠ 5) : oneW s = oneW1 s := by unfold oneW; rw [if_neg h]
theorem weight_one.step1 {self : TSpace → TWeight → Prop} {s : TSpace} (hs : spaceOk1 s = true) : weight_one.step self s (oneW1 s) := by
  unfold weight_one.step oneW1
  rcases space1_cases hs with h | h | h | h
  · simp [h.1, noneW]
  · simp [h.1, noneW]
  · simp only [h.1, Int.reduceEq, if_true, if_false]
    exact ⟨_, facts_One.ok h.2.1 h.2.2, rfl⟩
  · simp only [h.1, Int.reduceEq, if_true, if_false]
    exact ⟨_, cells_One.ok h.2.1 h.2.2, rfl⟩
theorem r05_one.step1 {self : TSpace → TWeight → Prop} {s : TSpace} (hs : spaceOk1 s = true) : r05_one.step self s (oneW1 s) := by
  unfold r05_one.step oneW1
  rcases space1_cases hs with h | h | h | h
  · simp [h.1, noneW]
  · simp [h.1, noneW]
  · simp only [h.1, Int.reduceEq, if_true, if_false]
    exact ⟨_, r03_One.ok h.2.1 h.2.2, rfl⟩
  · simp only [h.1, Int.reduceEq, if_true, if_false]
    have key := (countLoop (n := s.Dim) (b := r05_one.b1 s) (fun i l => (l, i)) id (fun i acc => .go (acc ++ [TCell.mk (2 ^ i.toNat) 0 0])) (fun i l => (l.length : Int) = i) (fun i l i0 i1 hi => by
      refine ⟨?_, by simp; omega⟩
      unfold r05_one.b1
      simp only [i1, if_true]
      exact ⟨_, r01_Worth.ok i0 (by omega), by unfold Fits; omega, by rw [wrap64 (by omega) (by omega)]⟩) (fun l hl => by unfold r05_one.b1; simp) [] h.2.1 rfl).1
    refine ⟨_, key, ?_⟩
    rw [countF_app]
    show TWeight.mk false 0 ⟨0, []⟩ (oneC s.Dim) [] = TWeight.mk false 0 ⟨0, []⟩ _ []
    simp [oneC]
theorem weight_one.ok {s : TSpace} (hs : spaceOk s = true) : weight_one.f s (oneW s) := by
  refine ⟨2, ?_⟩
  by_cases h5 : s.Tag = 5
  · obtain ⟨a, b, hp, ha, hb, _, _, hd⟩ := space_parts hs h5
    show weight_one.step (weight_one.fN 1) s _
    unfold weight_one.step oneW
    simp only [h5, Int.reduceEq, if_true, if_false, hp]
    exact ⟨⟨by decide, by simp⟩, _, weight_one.step1 ha, ⟨by decide, by simp⟩, _, weight_one.step1 hb, rfl⟩
  · rw [oneW_ne h5]; exact weight_one.step1 (by rw [← spaceOk_ne h5]; exact hs)
theorem r05_one.ok {s : TSpace} (hs : spaceOk s = true) : r05_one.f s (oneW s) := by
  refine ⟨2, ?_⟩
  by_cases h5 : s.Tag = 5
  · obtain ⟨a, b, hp, ha, hb, _, _, hd⟩ := space_parts hs h5
    show r05_one.step (r05_one.fN 1) s _
    unfold r05_one.step oneW
    simp only [h5, Int.reduceEq, if_true, if_false, hp]
    exact ⟨⟨by decide, by simp⟩, _, r05_one.step1 ha, ⟨by decide, by simp⟩, _, r05_one.step1 hb, rfl⟩
  · rw [oneW_ne h5]; exact r05_one.step1 (by rw [← spaceOk_ne h5]; exact hs)
def oneR (s : TSpace) : TWeight × Int := if spaceOk s = true then (oneW s, 0) else (noneW, 50)
theorem weight_One.ok {s : TSpace} (hl : s.Parts.length ≤ maxLen) : weight_One.f s (oneR s) := by
  refine ⟨_, weight_Space.ok hl, ?_⟩
  unfold oneR
  cases h : spaceOk s with
  | false => simp [noneW]
  | true => simp only [if_true]; exact ⟨_, weight_one.ok h, rfl⟩
theorem r05_One.ok {s : TSpace} (hl : s.Parts.length ≤ maxLen) : r05_One.f s (oneR s) := by
  refine ⟨_, r05_Space.ok hl, ?_⟩
  unfold oneR
  cases h : spaceOk s with
  | false => simp [noneW]
  | true => simp only [if_true]; exact ⟨_, r05_one.ok h, rfl⟩
end Go.RM.Try
namespace Go.RM.Try
open Go.RM
set_option linter.unusedVariables false
set_option linter.unusedSimpArgs false
theorem TSpace.eta (s : TSpace) : TSpace.mk s.Tag s.Dim s.Parts = s := by cases s; rfl
theorem TWeight.eta (w : TWeight) : TWeight.mk w.Zero w.Cost (TFacts.mk w.Facts.Gen w.Facts.Rows) w.Cells w.Parts = w := by cases w; rfl
end Go.RM.Try
namespace Go.RM.Try
open Go.RM
set_option linter.unusedVariables false
set_option linter.unusedSimpArgs false
/-- What a system that may be has. -/
theorem pC_ok {p : TPds} (h : pC p = 0) : spaceOk p.Space = true ∧ p.Rules.length ≤ 16384 ∧ 0 ≤ p.States ∧ p.States ≤ 4096 ∧ 0 ≤ p.Symbols ∧ p.Symbols ≤ 4096 ∧ (∀ r ∈ p.Rules, ruleOk p r = true) ∧ (∀ r ∈ p.Rules, isW p.Space r.F = true) := by
  unfold pC at h
  split at h
  · rename_i hs
    split at h
    · simp at h
    · split at h
      · simp at h
      · rename_i hl hn
        split at h
        · rename_i ha
          split at h
          · rename_i hw
            simp only [Bool.or_eq_true, decide_eq_true_eq, not_or] at hn
            rw [List.all_eq_true] at ha hw
            exact ⟨hs, by omega, by omega, by omega, by omega, by omega, ha, hw⟩
          · simp at h
        · simp at h
  · simp at h
end Go.RM.Try
namespace Go.RM.Try
open Go.RM
set_option linter.unusedVariables false
set_option linter.unusedSimpArgs false
theorem all2B_refl {α : Type} {test : α → α → Bool} : ∀ (l : List α), (∀ x ∈ l, test x x = true) → all2B test l l = true
  | [], _ => rfl
  | x :: l, h => by simp [all2B, h x (.head _), all2B_refl l (fun y hy => h y (.tail _ hy))]
theorem r05_SameSpace.step1 {self : TSpace → TSpace → Bool → Prop} {s : TSpace} (hl : s.Parts.length ≤ maxLen) (h : ∀ p ∈ s.Parts, self p p true) : r05_SameSpace.step self s s true := by
  unfold r05_SameSpace.step
  rw [if_neg (by simp)]
  have key := eachLoop (l := s.Parts) (b := r05_SameSpace.b1 self s s) (fun _ => true) false (fun i i0 i1 => by
    unfold r05_SameSpace.b1
    simp only [i1, if_true]
    exact ⟨fun _ => ⟨⟨i0, i1⟩, ⟨i0, i1⟩, _, h _ (rdl_mem i0 i1), by rw [if_pos rfl, wrap_len hl i0 i1]⟩, fun ht => (by cases ht)⟩) (fun i i0 i1 => by unfold r05_SameSpace.b1; simp only [i1, if_false])
  exact ⟨_, key, by simp [Fin.on]⟩
theorem space1_parts {s : TSpace} (h : spaceOk1 s = true) : s.Parts = [] := by
  have : s.Parts.length = 0 := by
    unfold spaceOk1 at h
    by_cases h1 : s.Tag = 1
    · simp [h1] at h; simp [h.2]
    · by_cases h2 : s.Tag = 2
      · simp [h2] at h; simp [h.2.2]
      · by_cases h3 : s.Tag = 3
        · simp [h3] at h; simp [h.2.2]
        · by_cases h4 : s.Tag = 4
          · simp [h4] at h; simp [h.2.2]
          · simp [h1, h2, h3, h4] at h
  exact List.eq_nil_of_length_eq_zero this
theorem r05_SameSpace.refl {s : TSpace} (hs : spaceOk s = true) : r05_SameSpace.f s s true := by
  refine ⟨2, ?_⟩
  have hx : ∀ {self : TSpace → TSpace → Bool → Prop} {t : TSpace}, spaceOk1 t = true → r05_SameSpace.step self t t true := fun {self t} ht => r05_SameSpace.step1 (by rw [space1_parts ht]; simp) (by rw [space1_parts ht]; simp)
  by_cases h5 : s.Tag = 5
  · obtain ⟨a, b, hp, ha, hb, _, _, _⟩ := space_parts hs h5
    refine r05_SameSpace.step1 (by rw [hp]; simp [maxLen]) (fun p hm => ?_)
    rw [hp] at hm
    simp at hm
    rcases hm with rfl | rfl
    · exact hx ha
    · exact hx hb
  · exact hx (by rw [← spaceOk_ne h5]; exact hs)
theorem r05_Same.step1 {self : TWeight → TWeight → Bool → Prop} {w : TWeight} (hw : w.Sized) (h : ∀ p ∈ w.Parts, self p p true) : r05_Same.step self w w true := by
  obtain ⟨ha, hb, hc⟩ := hw
  have hm : ∀ n : Nat, n ≤ 17592186044416 → n ≤ maxLen := fun n hn => by unfold maxLen; omega
  refine ⟨_, fun _ _ => r03_Same.ok (hm _ ha), ?_⟩
  have hf : factsEq w.Facts w.Facts = true := by simp [factsEq]
  rw [hf, if_neg (by simp)]
  have key1 := eachLoop (l := w.Cells) (b := r05_Same.b1 w w) (fun _ => true) false (fun i i0 i1 => by
    unfold r05_Same.b1
    simp only [i1, if_true, beq_self_eq_true, Bool.and_self]
    exact ⟨fun _ => ⟨⟨i0, i1⟩, ⟨i0, i1⟩, by rw [wrap_len (hm _ hb) i0 i1]⟩, fun ht => (by cases ht)⟩) (fun i i0 i1 => by unfold r05_Same.b1; simp only [i1, if_false])
  refine ⟨_, key1, ?_⟩
  rw [if_pos (by simp)]
  have key2 := eachLoop (l := w.Parts) (b := r05_Same.b2 self w w) (fun _ => true) false (fun i i0 i1 => by
    unfold r05_Same.b2
    simp only [i1, if_true]
    exact ⟨fun _ => ⟨⟨i0, i1⟩, ⟨i0, i1⟩, _, h _ (rdl_mem i0 i1), by rw [if_pos rfl, wrap_len (hm _ hc) i0 i1]⟩, fun ht => (by cases ht)⟩) (fun i i0 i1 => by unfold r05_Same.b2; simp only [i1, if_false])
  exact ⟨_, key2, by simp [Fin.on]⟩
/-- No parts below parts. -/
def Flat (w : TWeight) : Prop := w.Sized2 ∧ ∀ p ∈ w.Parts, p.Parts = []
theorem r05_Same.refl {w : TWeight} (hw : Flat w) : r05_Same.f w w true :=
  ⟨2, r05_Same.step1 (self := r05_Same.fN 1) hw.1.1 (fun p hp => r05_Same.step1 (self := r05_Same.fN 0) (hw.1.2 p hp) (by rw [hw.2 p hp]; simp))⟩
theorem isW1_parts {s : TSpace} {w : TWeight} (h : isW1 s w = true) : w.Parts = [] := by
  have : w.Parts.length = 0 := by
    unfold isW1 at h
    split at h
    · unfold plainB at h; simp at h; simp [h]
    · rw [Bool.and_eq_true] at h
      have h := h.1
      unfold plainB at h; simp at h; simp [h]
  exact List.eq_nil_of_length_eq_zero this
theorem sized_small {w : TWeight} (a : w.Facts.Rows.length ≤ 64) (b : w.Cells.length ≤ 64) (c : w.Parts = []) : w.Sized := ⟨by omega, by omega, by rw [c]; simp⟩
theorem oneW1_sized {s : TSpace} (hs : spaceOk1 s = true) : (oneW1 s).Sized ∧ (oneW1 s).Parts = [] := by
  unfold oneW1
  rcases space1_cases hs with h | h | h | h
  · simp only [h.1, Int.reduceEq, if_false]; exact ⟨sized_small (by simp [noneW]) (by simp [noneW]) rfl, by simp [noneW]⟩
  · simp only [h.1, Int.reduceEq, if_false]; exact ⟨sized_small (by simp [noneW]) (by simp [noneW]) rfl, by simp [noneW]⟩
  · simp only [h.1, Int.reduceEq, if_true, if_false]; exact ⟨sized_small (by simp [oneF, upto]; omega) (by simp) rfl, by simp⟩
  · simp only [h.1, Int.reduceEq, if_true, if_false]; exact ⟨sized_small (by simp) (by simp [oneC, upto]; omega) rfl, by simp⟩
theorem oneW_flat {s : TSpace} (hs : spaceOk s = true) : Flat (oneW s) := by
  by_cases h5 : s.Tag = 5
  · obtain ⟨a, b, hp, ha, hb, _, _, _⟩ := space_parts hs h5
    have ea : rdl s.Parts 0 = a := by rw [hp]; rfl
    have eb : rdl s.Parts 1 = b := by rw [hp]; rfl
    unfold oneW
    rw [if_pos h5, ea, eb]
    refine ⟨⟨⟨by simp, by simp, by simp⟩, ?_⟩, ?_⟩
    · intro p hm; simp at hm; rcases hm with rfl | rfl
      · exact (oneW1_sized ha).1
      · exact (oneW1_sized hb).1
    · intro p hm; simp at hm; rcases hm with rfl | rfl
      · exact (oneW1_sized ha).2
      · exact (oneW1_sized hb).2
  · have := oneW1_sized (s := s) (by rw [← spaceOk_ne h5]; exact hs)
    rw [oneW_ne h5]
    exact ⟨⟨this.1, by rw [this.2]; simp⟩, by rw [this.2]; simp⟩
/-- The system that is looked at in each law. -/
def p0 : TPds := ⟨⟨1, 0, []⟩, 2, 5, [⟨0, 0, 1, [2, 3, 4], ⟨false, 0, ⟨0, []⟩, [], []⟩⟩]⟩
end Go.RM.Try
namespace Go.RM.Try
open Go.RM
set_option linter.unusedVariables false
set_option linter.unusedSimpArgs false
def InU (x : Int) : Prop := 0 ≤ x ∧ x < 18446744073709551616
def hasI (x : Int) (i : Nat) : Bool := x.toNat.testBit i
theorem hasI_high {x : Int} (hx : InU x) {i : Nat} (h : 64 ≤ i) : hasI x i = false := by
  unfold hasI
  apply Nat.testBit_lt_two_pow
  have h1 : (2 : Nat) ^ 64 ≤ 2 ^ i := Nat.pow_le_pow_right (by decide) h
  have h2 : (2 : Nat) ^ 64 = 18446744073709551616 := by decide
  have := hx.2; have := hx.1; omega
theorem ext64 {x y : Int} (hx : InU x) (hy : InU y) (h : ∀ i < 64, hasI x i = hasI y i) : x = y := by
  have : x.toNat = y.toNat := by
    apply Nat.eq_of_testBit_eq
    intro i
    by_cases hi : i < 64
    · exact h i hi
    · exact (hasI_high hx (by omega)).trans (hasI_high hy (by omega)).symm
  have := hx.1; have := hy.1; omega
theorem ofInt_toNat {x : Int} (hx : InU x) : (BitVec.ofInt 64 x).toNat = x.toNat := by
  rw [BitVec.toNat_ofInt]
  have := hx.1; have := hx.2
  have : x % ((2 ^ 64 : Nat) : Int) = x := by
    rw [show ((2 ^ 64 : Nat) : Int) = 18446744073709551616 by decide]
    exact Int.emod_eq_of_lt hx.1 hx.2
  rw [this]
theorem toNat_InU (b : BitVec 64) : InU (b.toNat : Int) := by
  have := b.isLt
  have h2 : (2 : Nat) ^ 64 = 18446744073709551616 := by decide
  exact ⟨by omega, by omega⟩
theorem bitOp_or {x y : Int} : bitOp .or .u64 x y = ((BitVec.ofInt 64 x ||| BitVec.ofInt 64 y).toNat : Int) := by
  show IntKind.u64.wrap ((BitVec.ofInt 64 x ||| BitVec.ofInt 64 y).toNat : Int) = _
  have := toNat_InU (BitVec.ofInt 64 x ||| BitVec.ofInt 64 y)
  exact wrapu64 this.1 this.2
theorem bitOp_andNot {x y : Int} : bitOp .andNot .u64 x y = ((BitVec.ofInt 64 x &&& ~~~ BitVec.ofInt 64 y).toNat : Int) := by
  show IntKind.u64.wrap ((BitVec.ofInt 64 x &&& ~~~ BitVec.ofInt 64 y).toNat : Int) = _
  have := toNat_InU (BitVec.ofInt 64 x &&& ~~~ BitVec.ofInt 64 y)
  exact wrapu64 this.1 this.2
theorem or_InU (x y : Int) : InU (bitOp .or .u64 x y) := by rw [bitOp_or]; exact toNat_InU _
theorem andNot_InU (x y : Int) : InU (bitOp .andNot .u64 x y) := by rw [bitOp_andNot]; exact toNat_InU _
theorem bv_has (b : BitVec 64) (i : Nat) : hasI (b.toNat : Int) i = b.getLsbD i := rfl
theorem ofInt_bit {x : Int} (hx : InU x) (i : Nat) : (BitVec.ofInt 64 x).getLsbD i = hasI x i := by
  show (BitVec.ofInt 64 x).toNat.testBit i = _
  rw [ofInt_toNat hx]; rfl
theorem has_or {x y : Int} (hx : InU x) (hy : InU y) (i : Nat) : hasI (bitOp .or .u64 x y) i = (hasI x i || hasI y i) := by
  rw [bitOp_or, bv_has, BitVec.getLsbD_or, ofInt_bit hx, ofInt_bit hy]
theorem has_andNot {x y : Int} (hx : InU x) (hy : InU y) {i : Nat} (hi : i < 64) : hasI (bitOp .andNot .u64 x y) i = (hasI x i && !hasI y i) := by
  rw [bitOp_andNot, bv_has, BitVec.getLsbD_and, BitVec.getLsbD_not, ofInt_bit hx, ofInt_bit hy]
  simp [hi]
theorem has_zero (i : Nat) : hasI 0 i = false := by simp [hasI]
theorem pow_toNat (n : Nat) : ((2 : Int) ^ n).toNat = 2 ^ n := by
  have h2 : ((2 ^ n : Nat) : Int) = (2 : Int) ^ n := by simp
  rw [← h2]; exact Int.toNat_natCast _
theorem has_pow (k i : Nat) : hasI (2 ^ k) i = decide (k = i) := by
  unfold hasI
  rw [pow_toNat, Nat.testBit_two_pow]
theorem pow_InU {k : Nat} (h : k < 64) : InU (2 ^ k) := ⟨Int.le_of_lt (Int.pow_pos (by decide)), two_pow_lt h⟩
theorem has_full {n : Int} (h0 : 0 ≤ n) (i : Nat) : hasI (fullM n) i = decide ((i : Int) < n) := by
  unfold hasI fullM
  have : ((2 : Int) ^ n.toNat - 1).toNat = 2 ^ n.toNat - 1 := by
    have := pow_toNat n.toNat
    omega
  rw [this, Nat.testBit_two_pow_sub_one]
  rw [decide_eq_decide]
  omega
theorem full_InU {n : Int} (h0 : 0 ≤ n) (h1 : n ≤ 64) : InU (fullM n) := by
  unfold fullM
  have hp : (0 : Int) < 2 ^ n.toNat := Int.pow_pos (by decide)
  have h2 : (2 : Nat) ^ n.toNat ≤ 2 ^ 64 := Nat.pow_le_pow_right (by decide) (by omega)
  have h3 : ((2 ^ n.toNat : Nat) : Int) = (2 : Int) ^ n.toNat := by simp
  have h4 : (2 : Nat) ^ 64 = 18446744073709551616 := by decide
  exact ⟨by omega, by omega⟩
/-- Nothing outside. -/
theorem inside_iff {x n : Int} (hx : InU x) (h0 : 0 ≤ n) (h1 : n ≤ 64) : bitOp .andNot .u64 x (fullM n) = 0 ↔ ∀ i : Nat, hasI x i = true → (i : Int) < n := by
  constructor
  · intro h i hi
    have h64 : i < 64 := by
      apply Nat.lt_of_not_le; intro hge; rw [hasI_high hx hge] at hi; cases hi
    have := has_andNot hx (full_InU h0 h1) h64
    rw [h, has_zero, hi, has_full h0] at this
    simpa using this
  · intro h
    refine ext64 (andNot_InU _ _) ⟨by decide, by decide⟩ fun i hi => ?_
    rw [has_andNot hx (full_InU h0 h1) hi, has_zero, has_full h0]
    cases hb : hasI x i with
    | false => rfl
    | true => simp; exact h i hb
theorem zero_InU : InU 0 := ⟨by decide, by decide⟩
theorem tdivmod (s p : Nat) (hs : s < 18446744073709551616) : Int.tmod (IntKind.u64.wrap (Int.tdiv (s : Int) (p : Int))) 2 = ((s / p % 2 : Nat) : Int) := by
  have hle : s / p ≤ s := Nat.div_le_self _ _
  rw [Int.tdiv_eq_ediv_of_nonneg (Int.natCast_nonneg _), ← Int.natCast_ediv, wrapu64 (Int.natCast_nonneg _) (by omega), Int.tmod_eq_emod_of_nonneg (Int.natCast_nonneg _)]
  rfl
theorem r01_Has.ok {s : Int} (hs : InU s) (a : Int) : r01_Has.f s a (inB a 64 && hasI s a.toNat) := by
  unfold r01_Has.f inB
  by_cases h : a ≥ 0 ∧ a < 64
  · obtain ⟨h0, h1⟩ := h
    refine ⟨_, fun _ _ => r01_Worth.ok h0 h1, fun _ _ => Int.ne_of_gt (Int.pow_pos (by decide)), ?_⟩
    rw [decide_eq_true h0, decide_eq_true h1]
    simp only [Bool.true_and]
    have hn : (s.toNat : Int) = s := Int.toNat_of_nonneg hs.1
    have hp : ((2 ^ a.toNat : Nat) : Int) = (2 : Int) ^ a.toNat := by simp
    have hlt : s.toNat < 18446744073709551616 := by have := hs.2; omega
    have hm : Int.tmod (IntKind.u64.wrap (Int.tdiv s (2 ^ a.toNat))) 2 = ((s.toNat / 2 ^ a.toNat % 2 : Nat) : Int) := by
      have := tdivmod s.toNat (2 ^ a.toNat) hlt
      rw [hn, hp] at this
      exact this
    rw [hm]
    unfold hasI
    rw [Nat.testBit_eq_decide_div_mod_eq, Bool.eq_iff_iff]
    simp only [beq_iff_eq, decide_eq_true_eq]
    omega
  · refine ⟨0, fun h0 h1 => (h ⟨h0, h1⟩).elim, fun h0 h1 => (h ⟨h0, h1⟩).elim, ?_⟩
    by_cases h0 : a ≥ 0
    · have h1 : ¬ a < 64 := fun h1 => h ⟨h0, h1⟩
      simp [h1]
    · simp [h0]
end Go.RM.Try
namespace Go.RM.Try
open Go.RM
set_option linter.unusedVariables false
set_option linter.unusedSimpArgs false
/-- Facts in range. -/
def RngF (F : TFacts) : Prop := InU F.Gen ∧ ∀ r ∈ F.Rows, InU r
def madeM (F : TFacts) (x : Int) : Int := foldG (fun i row acc => if hasI x i.toNat = true then bitOp .or .u64 acc row else acc) F.Rows 0 F.Gen
/-- Is there a row at a place of x that has k? -/
def anyB (x : Int) (k : Nat) : List Int → Nat → Bool
  | [], _ => false
  | r :: l, i => (hasI x i && hasI r k) || anyB x k l (i + 1)
theorem madeM_fold {x : Int} {k : Nat} : ∀ (l : List Int) (i : Nat) (acc : Int), InU acc → (∀ r ∈ l, InU r) →
    InU (foldG (fun i row acc => if hasI x i.toNat = true then bitOp .or .u64 acc row else acc) l (i : Int) acc) ∧
    hasI (foldG (fun i row acc => if hasI x i.toNat = true then bitOp .or .u64 acc row else acc) l (i : Int) acc) k = (hasI acc k || anyB x k l i)
  | [], i, acc, ha, hr => ⟨ha, by simp [foldG, anyB]⟩
  | r :: l, i, acc, ha, hr => by
    have h1 : InU (if hasI x i = true then bitOp .or .u64 acc r else acc) := by split; exact or_InU _ _; exact ha
    have ih := madeM_fold (x := x) (k := k) l (i + 1) _ h1 (fun y hy => hr y (.tail _ hy))
    unfold foldG anyB
    rw [show ((i : Int) + 1) = ((i + 1 : Nat) : Int) by simp, show ((i : Nat) : Int).toNat = i by simp]
    refine ⟨ih.1, ?_⟩
    rw [ih.2]
    cases hx : hasI x i with
    | true => simp [has_or ha (hr r (.head _)), Bool.or_assoc]
    | false => simp
theorem madeM_InU {F : TFacts} (h : RngF F) (x : Int) : InU (madeM F x) := (madeM_fold (x := x) (k := 0) F.Rows 0 F.Gen h.1 h.2).1
theorem madeM_has {F : TFacts} (h : RngF F) (x : Int) (k : Nat) : hasI (madeM F x) k = (hasI F.Gen k || anyB x k F.Rows 0) := (madeM_fold (x := x) (k := k) F.Rows 0 F.Gen h.1 h.2).2
theorem anyB_iff {x : Int} {k : Nat} : ∀ (l : List Int) (i : Nat), anyB x k l i = true ↔ ∃ j : Nat, ∃ r, l[j]? = some r ∧ hasI x (i + j) = true ∧ hasI r k = true
  | [], i => by simp [anyB]
  | r :: l, i => by
    unfold anyB
    rw [Bool.or_eq_true, anyB_iff l (i + 1), Bool.and_eq_true]
    constructor
    · rintro (⟨h1, h2⟩ | ⟨j, r', h1, h2, h3⟩)
      · exact ⟨0, r, rfl, by simpa using h1, h2⟩
      · exact ⟨j + 1, r', by simpa using h1, by rw [show i + (j + 1) = i + 1 + j by omega]; exact h2, h3⟩
    · rintro ⟨j, r', h1, h2, h3⟩
      cases j with
      | zero =>
        simp at h1; subst h1
        exact .inl ⟨by simpa using h2, h3⟩
      | succ j =>
        exact .inr ⟨j, r', by simpa using h1, by rw [show i + 1 + j = i + (j + 1) by omega]; exact h2, h3⟩
theorem r03_or.ok (a b : Int) : r03_or.f a b (bitOp .or .u64 a b) := rfl
theorem r03_made.ok {F : TFacts} (h : RngF F) (hl : F.Rows.length ≤ maxLen) {x : Int} (hx : InU x) : r03_made.f F x (madeM F x) := by
  have key := foldGLoop (l := F.Rows) (b := r03_made.b1 F x) (fun i s => (s, i)) id (fun i row acc => if hasI x i.toNat = true then bitOp .or .u64 acc row else acc) (fun i s => True) (fun i s h0 h1 _ => by
    refine ⟨?_, trivial⟩
    unfold r03_made.b1 r03_made.j1
    simp only [h1, if_true]
    refine ⟨_, r01_Has.ok hx i, ?_⟩
    have hb : (inB i 64 && hasI x i.toNat) = hasI x i.toNat := by
      cases hh : hasI x i.toNat with
      | false => simp
      | true =>
        have : i < 64 := by
          apply Int.lt_of_not_ge; intro hge
          rw [hasI_high hx (by omega)] at hh; cases hh
        simp [inB, h0, this]
    rw [hb, wrap_len hl h0 h1]
    cases hasI x i.toNat with
    | true => exact ⟨⟨h0, h1⟩, _, r03_or.ok _ _, rfl⟩
    | false => rfl) (fun s _ => by unfold r03_made.b1; simp) F.Gen trivial
  exact ⟨_, key.1, rfl⟩
/-- One behind the other. -/
def thenF (a b : TFacts) : TFacts := canonM ⟨madeM b a.Gen, a.Rows.map (madeM b)⟩
theorem factsOk_iff {n : Int} {F : TFacts} (hr : RngF F) (h0 : 0 ≤ n) (h1 : n ≤ 64) : factsOk n F = true ↔ (F.Rows.length : Int) = n ∧ (∀ i : Nat, hasI F.Gen i = true → (i : Int) < n) ∧ (∀ r ∈ F.Rows, ∀ i : Nat, hasI r i = true → (i : Int) < n) ∧ ∀ r ∈ F.Rows, ∀ i : Nat, hasI r i = true → hasI F.Gen i = false := by
  have e0 : factsOk n F = true ↔ (F.Rows.length : Int) = n ∧ bitOp .andNot .u64 F.Gen (fullM n) = 0 ∧ (∀ r ∈ F.Rows, bitOp .andNot .u64 r (fullM n) = 0) ∧ (F.Rows.map (fun r => bitOp .andNot .u64 r F.Gen) = F.Rows) := by
    unfold factsOk factsEq
    rw [Bool.and_eq_true, Bool.and_eq_true, Bool.and_eq_true, Bool.and_eq_true, List.all_eq_true, beq_iff_eq, beq_iff_eq, beq_iff_eq, decide_eq_true_eq]
    simp only [beq_iff_eq]
    exact ⟨fun h => ⟨h.1, h.2.1, h.2.2.1, h.2.2.2.2⟩, fun h => ⟨h.1, h.2.1, h.2.2.1, rfl, h.2.2.2⟩⟩
  rw [e0, inside_iff hr.1 h0 h1]
  have e1 : (∀ r ∈ F.Rows, bitOp .andNot .u64 r (fullM n) = 0) ↔ (∀ r ∈ F.Rows, ∀ i : Nat, hasI r i = true → (i : Int) < n) := by
    constructor
    · intro h r hm; exact (inside_iff (hr.2 r hm) h0 h1).1 (h r hm)
    · intro h r hm; exact (inside_iff (hr.2 r hm) h0 h1).2 (h r hm)
  have e2 : (F.Rows.map (fun r => bitOp .andNot .u64 r F.Gen) = F.Rows) ↔ ∀ r ∈ F.Rows, ∀ i : Nat, hasI r i = true → hasI F.Gen i = false := by
    rw [show (F.Rows.map (fun r => bitOp .andNot .u64 r F.Gen) = F.Rows) ↔ (F.Rows.map (fun r => bitOp .andNot .u64 r F.Gen) = F.Rows.map id) by simp, List.map_inj_left]
    constructor
    · intro h r hm i hi
      have h64 : i < 64 := by apply Nat.lt_of_not_le; intro hge; rw [hasI_high (hr.2 r hm) hge] at hi; cases hi
      have := has_andNot (hr.2 r hm) hr.1 h64
      rw [h r hm, id, hi] at this
      simpa using this
    · intro h r hm
      refine ext64 (andNot_InU _ _) (hr.2 r hm) fun i hi => ?_
      rw [has_andNot (hr.2 r hm) hr.1 hi]
      cases hb : hasI r i with
      | false => simp [id, hb]
      | true => simp [id, hb, h r hm i hb]
  rw [e1, e2]
theorem r03_two.ok {n : Int} (h0 : 0 ≤ n) (h1 : n ≤ 64) {a b : TFacts} (ha : a.Rows.length ≤ 17592186044416) (hb : b.Rows.length ≤ 17592186044416) (ha2 : factsOk n a = true) (hb2 : factsOk n b = true) : r03_two.f n a b 0 := by
  have x := r03_Check.ok h0 h1 ha
  have y := r03_Check.ok h0 h1 hb
  rw [ha2, if_pos rfl] at x
  rw [hb2, if_pos rfl] at y
  exact ⟨_, x, by rw [if_pos rfl]; exact ⟨_, y, rfl⟩⟩
theorem map_upto {α β : Type} [Inhabited α] (l : List α) (f : α → β) : (upto l.length).map (fun i => f (rdl l i)) = l.map f := by
  have := congrArg (List.map f) (upto_rdl l)
  rw [List.map_map] at this
  exact this
theorem r03_Extend.ok {n : Int} (h0 : 0 ≤ n) (h1 : n ≤ 64) {a b : TFacts} (hra : RngF a) (hrb : RngF b) (ha2 : factsOk n a = true) (hb2 : factsOk n b = true) : r03_Extend.f n a b (thenF a b, 0) := by
  obtain ⟨la, _⟩ := (factsOk_iff hra h0 h1).1 ha2
  obtain ⟨lb, _⟩ := (factsOk_iff hrb h0 h1).1 hb2
  refine ⟨_, r03_two.ok h0 h1 (by omega) (by omega) ha2 hb2, ?_⟩
  rw [if_pos rfl]
  have hm : b.Rows.length ≤ maxLen := by unfold maxLen; omega
  refine ⟨_, r03_made.ok hrb hm hra.1, ?_⟩
  have key := (countLoop (n := n) (b := r03_Extend.b1 n a b) (fun i l => (l, i)) id (fun i acc => .go (acc ++ [madeM b (rdl a.Rows i)])) (fun i l => (l.length : Int) = i) (fun i l i0 i1 hi => by
    refine ⟨?_, by simp; omega⟩
    unfold r03_Extend.b1
    simp only [i1, if_true]
    exact ⟨⟨i0, by omega⟩, _, r03_made.ok hrb hm (hra.2 _ (rdl_mem i0 (by omega))), by unfold Fits; omega, by rw [wrap64 (by omega) (by omega)]⟩) (fun l hl => by unfold r03_Extend.b1; simp) [] h0 rfl).1
  rw [countF_app] at key
  refine ⟨_, key, ?_⟩
  have e : [] ++ (upto n.toNat).map (fun j => madeM b (rdl a.Rows (0 + j))) = a.Rows.map (madeM b) := by
    have := map_upto a.Rows (madeM b)
    rw [show a.Rows.length = n.toNat by omega] at this
    simpa using this
  show ∃ t, r03_canon.f (TFacts.mk (madeM b a.Gen) (id ([] ++ _))) t ∧ _
  rw [id, e]
  exact ⟨_, r03_canon.ok (by simp; omega), rfl⟩
theorem oneF_rng {n : Int} (h1 : n ≤ 64) : RngF (oneF n) := ⟨zero_InU, fun r hr => by
  simp only [oneF, List.mem_map] at hr
  obtain ⟨i, hi, rfl⟩ := hr
  have := upto_mem hi
  exact pow_InU (by omega)⟩
theorem upto_get {n j : Nat} : (upto n)[j]? = if j < n then some (j : Int) else none := by
  simp only [upto, List.getElem?_map]
  by_cases h : j < n
  · rw [List.getElem?_range h, if_pos h]; rfl
  · rw [List.getElem?_eq_none (by simp; omega), if_neg h]; rfl
theorem oneF_get {n : Int} {j : Nat} : (oneF n).Rows[j]? = if j < n.toNat then some (2 ^ j) else none := by
  simp only [oneF, List.getElem?_map, upto_get]
  split <;> simp
theorem oneF_ok {n : Int} (h0 : 0 ≤ n) (h1 : n ≤ 64) : factsOk n (oneF n) = true := by
  rw [factsOk_iff (oneF_rng h1) h0 h1]
  refine ⟨by simp [oneF, upto]; omega, fun i hi => (by rw [show (oneF n).Gen = 0 from rfl, has_zero] at hi; cases hi), fun r hr i hi => ?_, fun r hr i hi => has_zero i⟩
  simp only [oneF, List.mem_map] at hr
  obtain ⟨j, hj, rfl⟩ := hr
  have := upto_mem hj
  rw [has_pow] at hi
  simp at hi
  omega
/-- What is made by one is the same. -/
theorem made_one {n : Int} (h0 : 0 ≤ n) (h1 : n ≤ 64) {x : Int} (hx : InU x) (hn : ∀ i : Nat, hasI x i = true → (i : Int) < n) : madeM (oneF n) x = x := by
  refine ext64 (madeM_InU (oneF_rng h1) x) hx fun i hi => ?_
  rw [madeM_has (oneF_rng h1), Bool.eq_iff_iff, Bool.or_eq_true, anyB_iff]
  constructor
  · rintro (h | ⟨j, r, hj, hk, hr⟩)
    · rw [show (oneF n).Gen = 0 from rfl, has_zero] at h; cases h
    · rw [oneF_get] at hj
      split at hj
      · injection hj with hj
        subst hj
        rw [has_pow] at hr
        simp at hr
        subst hr
        simpa using hk
      · cases hj
  · intro h
    have := hn i h
    exact .inr ⟨i, 2 ^ i, by rw [oneF_get, if_pos (by omega)], by simpa using h, by rw [has_pow]; simp⟩
theorem then_oneF {n : Int} (h0 : 0 ≤ n) (h1 : n ≤ 64) {a : TFacts} (hra : RngF a) (ha : factsOk n a = true) : thenF a (oneF n) = a := by
  obtain ⟨_, hg, hrow, hc⟩ := (factsOk_iff hra h0 h1).1 ha
  have e : a.Rows.map (madeM (oneF n)) = a.Rows := by
    rw [show (a.Rows.map (madeM (oneF n)) = a.Rows) ↔ (a.Rows.map (madeM (oneF n)) = a.Rows.map id) by simp, List.map_inj_left]
    exact fun r hr => made_one h0 h1 (hra.2 r hr) (hrow r hr)
  unfold thenF
  rw [made_one h0 h1 hra.1 hg, e]
  have h9 := ha
  unfold factsOk factsEq at h9
  simp only [Bool.and_eq_true, beq_iff_eq, decide_eq_true_eq] at h9
  have h10 := h9.2.2.2.2
  show TFacts.mk a.Gen (canonM a).Rows = a
  rw [h10]
theorem one_thenF {n : Int} (h0 : 0 ≤ n) (h1 : n ≤ 64) {b : TFacts} (hrb : RngF b) (hb : factsOk n b = true) : thenF (oneF n) b = b := by
  obtain ⟨hl, hg, hrow, hc⟩ := (factsOk_iff hrb h0 h1).1 hb
  have e0 : madeM b 0 = b.Gen := by
    refine ext64 (madeM_InU hrb 0) hrb.1 fun i hi => ?_
    rw [madeM_has hrb]
    have : anyB 0 i b.Rows 0 = false := by
      rw [Bool.eq_false_iff]; intro h; rw [anyB_iff] at h
      obtain ⟨j, r, _, h2, _⟩ := h
      rw [has_zero] at h2; cases h2
    rw [this, Bool.or_false]
  have e1 : ∀ j : Nat, ∀ r, b.Rows[j]? = some r → bitOp .andNot .u64 (madeM b (2 ^ j)) b.Gen = r := by
    intro j r hj
    have hm := List.mem_of_getElem? hj
    refine ext64 (andNot_InU _ _) (hrb.2 r hm) fun i hi => ?_
    rw [has_andNot (madeM_InU hrb _) hrb.1 hi, madeM_has hrb]
    have : anyB (2 ^ j) i b.Rows 0 = hasI r i := by
      rw [Bool.eq_iff_iff, anyB_iff]
      constructor
      · rintro ⟨j', r', h1, h2, h3⟩
        rw [has_pow] at h2
        simp at h2
        subst h2
        rw [h1] at hj
        injection hj with hj
        rw [← hj]; exact h3
      · intro h
        exact ⟨j, r, hj, by rw [has_pow]; simp, h⟩
    rw [this]
    cases hgi : hasI b.Gen i with
    | true =>
      cases hri : hasI r i with
      | false => rfl
      | true => rw [hc r hm i hri] at hgi; cases hgi
    | false => simp
  unfold thenF
  rw [show (oneF n).Gen = 0 from rfl, e0]
  show TFacts.mk b.Gen _ = b
  have e2 : ((TFacts.mk b.Gen ((oneF n).Rows.map (madeM b))).Rows.map (fun r => bitOp .andNot .u64 r b.Gen)) = b.Rows := by
    apply List.ext_getElem?
    intro j
    simp only [List.map_map, List.getElem?_map, oneF_get]
    by_cases hj : j < n.toNat
    · rw [if_pos hj]
      have hlt : j < b.Rows.length := by omega
      have hg2 := List.getElem?_eq_getElem hlt
      rw [hg2]
      simp only [Option.map_some, Function.comp]
      rw [e1 j _ hg2]
    · rw [if_neg hj, List.getElem?_eq_none (by omega)]; rfl
  rw [e2]
end Go.RM.Try
namespace Go.RM.Try
open Go.RM
set_option linter.unusedVariables false
set_option linter.unusedSimpArgs false
def manyC : TCell := ⟨0, 2, 0⟩
/-- Two cells as one. -/
def joinC (a b : TCell) : TCell :=
  if a.Kind = 2 ∨ b.Kind = 2 then manyC
  else if a.Kind = 0 then ⟨bitOp .or .u64 a.From b.From, b.Kind, b.K⟩
  else if b.Kind = 1 ∧ a.K ≠ b.K then manyC
  else ⟨bitOp .or .u64 a.From b.From, a.Kind, a.K⟩
theorem r05_Joined.ok (a b : TCell) : r05_Joined.f a b (joinC a b) := by
  unfold r05_Joined.f joinC manyC
  by_cases h1 : a.Kind = 2 ∨ b.Kind = 2
  · rw [if_pos (by simpa using h1), if_pos h1]
  · rw [if_neg (by simpa using h1), if_neg h1]
    by_cases h2 : a.Kind = 0
    · rw [if_pos h2, if_pos h2]
    · rw [if_neg h2, if_neg h2]
      by_cases h3 : b.Kind = 1 ∧ a.K ≠ b.K
      · rw [if_pos (by simpa using h3), if_pos h3]
      · rw [if_neg (by simpa using h3), if_neg h3]
def behG (c : TCell) (i : Int) (x out : TCell) : TCell := if hasI c.From i.toNat = true then joinC out x else out
/-- A cell behind cells. -/
def behindM (a : List TCell) (c : TCell) : TCell := foldG (behG c) a 0 ⟨0, c.Kind, c.K⟩
theorem r05_behind.ok {a : List TCell} (hl : a.length ≤ maxLen) {c : TCell} (hc : InU c.From) : r05_behind.f a c (behindM a c) := by
  have key := foldGLoop (l := a) (b := r05_behind.b1 a c) (fun i (s : TCell) => (s.From, s.Kind, s.K, i)) (fun s => (s.From, s.Kind, s.K)) (behG c) (fun i s => True) (fun i s h0 h1 _ => by
    refine ⟨?_, trivial⟩
    unfold r05_behind.b1 r05_behind.j1
    simp only [h1, if_true]
    refine ⟨_, r01_Has.ok hc i, ?_⟩
    have hb : (inB i 64 && hasI c.From i.toNat) = hasI c.From i.toNat := by
      cases hh : hasI c.From i.toNat with
      | false => simp
      | true =>
        have : i < 64 := by
          apply Int.lt_of_not_ge; intro hge
          rw [hasI_high hc (by omega)] at hh; cases hh
        simp [inB, h0, this]
    rw [hb, wrap_len hl h0 h1]
    unfold behG
    cases hasI c.From i.toNat with
    | true => exact ⟨⟨h0, h1⟩, _, r05_Joined.ok _ _, rfl⟩
    | false => rfl) (fun s _ => by unfold r05_behind.b1; simp) ⟨0, c.Kind, c.K⟩ trivial
  exact ⟨_, key.1, rfl⟩
/-- Cells in range. -/
def RngC (c : TCell) : Prop := InU c.From ∧ (Lit.int .i64 c.K).wf = true
/-- A cell of n, as a proposition. -/
def CellP (n : Int) (c : TCell) : Prop := (∀ i : Nat, hasI c.From i = true → (i : Int) < n) ∧ ((c.Kind = 0 ∧ c.K = 0) ∨ c.Kind = 1 ∨ (c.Kind = 2 ∧ c.K = 0 ∧ c.From = 0))
theorem cellOk_iff {n : Int} (h0 : 0 ≤ n) (h1 : n ≤ 64) {c : TCell} (hc : InU c.From) : cellOk n c = true ↔ CellP n c := by
  unfold cellOk CellP
  rw [Bool.and_eq_true, beq_iff_eq, inside_iff hc h0 h1]
  refine and_congr_right fun _ => ?_
  by_cases k0 : c.Kind = 0
  · simp [k0]
  · by_cases k1 : c.Kind = 1
    · simp [k1]
    · by_cases k2 : c.Kind = 2
      · simp [k2]
      · simp [k0, k1, k2]
def thenC (a b : List TCell) : List TCell := b.map (behindM a)
/-- Weights in range, parts aside. -/
structure Rng1 (w : TWeight) : Prop where
  facts : RngF w.Facts
  cells : ∀ c ∈ w.Cells, RngC c
  cost : (Lit.int .i64 w.Cost).wf = true
def Rng (w : TWeight) : Prop := Rng1 w ∧ ∀ p ∈ w.Parts, Rng1 p
def zeroW : TWeight := ⟨true, 0, ⟨0, []⟩, [], []⟩
def thenW1 (s : TSpace) (a b : TWeight) : TWeight :=
  if (a.Zero || b.Zero) = true then zeroW
  else if s.Tag = 2 then ⟨false, if s.Dim < a.Cost + b.Cost then s.Dim else a.Cost + b.Cost, ⟨0, []⟩, [], []⟩
  else if s.Tag = 3 then ⟨false, 0, thenF a.Facts b.Facts, [], []⟩
  else if s.Tag = 4 then ⟨false, 0, ⟨0, []⟩, thenC a.Cells b.Cells, []⟩
  else noneW
/-- What a weight of a space without parts is. -/
theorem isW1_cases {s : TSpace} {w : TWeight} (hs : spaceOk1 s = true) (h : isW1 s w = true) :
    w = zeroW ∨ (s.Tag = 1 ∧ w = noneW) ∨ (s.Tag = 2 ∧ w = ⟨false, w.Cost, ⟨0, []⟩, [], []⟩ ∧ 0 ≤ w.Cost ∧ w.Cost ≤ s.Dim) ∨ (s.Tag = 3 ∧ w = ⟨false, 0, w.Facts, [], []⟩ ∧ factsOk s.Dim w.Facts = true) ∨ (s.Tag = 4 ∧ w = ⟨false, 0, ⟨0, []⟩, w.Cells, []⟩ ∧ cellsOk s.Dim w.Cells = true) := by
  obtain ⟨Z, C, ⟨G, R⟩, L, P⟩ := w
  unfold isW1 plainB at h
  cases Z with
  | true => simp at h; left; simp [zeroW, h]
  | false =>
    rcases space1_cases hs with k | k | k | k
    · simp [k.1] at h
      right; left; exact ⟨k.1, by simp [noneW, h]⟩
    · simp [k.1] at h
      right; right; left; refine ⟨k.1, by simp [h], h.2⟩
    · simp [k.1] at h
      right; right; right; left; exact ⟨k.1, by simp [h], h.2⟩
    · simp [k.1] at h
      right; right; right; right; exact ⟨k.1, by simp [h], h.2⟩
theorem isW1_zero {s : TSpace} (hs : spaceOk1 s = true) : isW1 s zeroW = true := by simp [isW1, zeroW, plainB]
theorem isW1_none {s : TSpace} (h : s.Tag = 1) : isW1 s noneW = true := by simp [isW1, noneW, plainB, h]
theorem isW1_cost {s : TSpace} (h : s.Tag = 2) {c : Int} (h0 : 0 ≤ c) (h1 : c ≤ s.Dim) : isW1 s ⟨false, c, ⟨0, []⟩, [], []⟩ = true := by simp [isW1, plainB, h, h0, h1]
theorem isW1_facts {s : TSpace} (h : s.Tag = 3) {F : TFacts} (hF : factsOk s.Dim F = true) : isW1 s ⟨false, 0, F, [], []⟩ = true := by simp [isW1, plainB, h, hF]
theorem isW1_cells {s : TSpace} (h : s.Tag = 4) {l : List TCell} (hl : cellsOk s.Dim l = true) : isW1 s ⟨false, 0, ⟨0, []⟩, l, []⟩ = true := by simp [isW1, plainB, h, hl]
theorem zero_rng : Rng1 zeroW := ⟨⟨zero_InU, by simp [zeroW]⟩, by simp [zeroW], by decide⟩
theorem none_rng : Rng1 noneW := ⟨⟨zero_InU, by simp [noneW]⟩, by simp [noneW], by decide⟩
theorem cellsOk_iff {n : Int} {l : List TCell} (h0 : 0 ≤ n) (h1 : n ≤ 64) (hr : ∀ c ∈ l, RngC c) : cellsOk n l = true ↔ (l.length : Int) = n ∧ ∀ c ∈ l, CellP n c := by
  unfold cellsOk
  rw [Bool.and_eq_true, List.all_eq_true, beq_iff_eq]
  refine and_congr_right fun _ => ⟨fun h c hc => (cellOk_iff h0 h1 (hr c hc).1).1 (h c hc), fun h c hc => (cellOk_iff h0 h1 (hr c hc).1).2 (h c hc)⟩
theorem wf_small {x : Int} (h0 : 0 ≤ x) (h1 : x ≤ 1048576) : (Lit.int .i64 x).wf = true := by
  simp [Lit.wf, IntKind.min, IntKind.max, IntKind.bits, IntKind.signed]; omega
end Go.RM.Try
namespace Go.RM.Try
open Go.RM
set_option linter.unusedVariables false
set_option linter.unusedSimpArgs false
theorem r05_Then.step1 {self : TSpace → TWeight → TWeight → TWeight → Prop} {s : TSpace} {a b : TWeight} (hs : spaceOk1 s = true) (ha : isW1 s a = true) (hb : isW1 s b = true) (ra : Rng1 a) (rb : Rng1 b) : r05_Then.step self s a b (thenW1 s a b) := by
  unfold r05_Then.step thenW1
  by_cases hz : (a.Zero || b.Zero) = true
  · rw [if_pos hz, if_pos hz]; rfl
  · rw [if_neg hz, if_neg hz]
    rcases space1_cases hs with q | q | q | q
    · simp only [q.1, Int.reduceEq, if_false]; rfl
    · simp only [q.1, Int.reduceEq, if_true, if_false]
      rcases isW1_cases hs ha with h | h | h | h | h
      · subst h; simp [zeroW] at hz
      · omega
      · rcases isW1_cases hs hb with k | k | k | k | k
        · subst k; simp [zeroW] at hz
        · omega
        · rw [wrap64 (by omega) (by omega)]
        · omega
        · omega
      · omega
      · omega
    · simp only [q.1, Int.reduceEq, if_true, if_false]
      rcases isW1_cases hs ha with h | h | h | h | h
      · subst h; simp [zeroW] at hz
      · omega
      · omega
      · rcases isW1_cases hs hb with k | k | k | k | k
        · subst k; simp [zeroW] at hz
        · omega
        · omega
        · exact ⟨_, r03_Extend.ok q.2.1 q.2.2 ra.facts rb.facts h.2.2 k.2.2, rfl⟩
        · omega
      · omega
    · simp only [q.1, Int.reduceEq, if_true, if_false]
      rcases isW1_cases hs ha with h | h | h | h | h
      · subst h; simp [zeroW] at hz
      · omega
      · omega
      · omega
      · rcases isW1_cases hs hb with k | k | k | k | k
        · subst k; simp [zeroW] at hz
        · omega
        · omega
        · omega
        · have ca := (cellsOk_iff q.2.1 q.2.2 ra.cells).1 h.2.2
          have cb := (cellsOk_iff q.2.1 q.2.2 rb.cells).1 k.2.2
          have key := (countLoop (n := s.Dim) (b := r05_Then.b1 s a b) (fun i l => (l, i)) id (fun i acc => .go (acc ++ [behindM a.Cells (rdl b.Cells i)])) (fun i l => (l.length : Int) = i) (fun i l i0 i1 hi => by
            refine ⟨?_, by simp; omega⟩
            unfold r05_Then.b1
            simp only [i1, if_true]
            exact ⟨⟨i0, by omega⟩, _, r05_behind.ok (by unfold maxLen; omega) (rb.cells _ (rdl_mem i0 (by omega))).1, by unfold Fits; omega, by rw [wrap64 (by omega) (by omega)]⟩) (fun l hl => by unfold r05_Then.b1; simp) [] q.2.1 rfl).1
          rw [countF_app] at key
          refine ⟨_, key, ?_⟩
          have e : [] ++ (upto s.Dim.toNat).map (fun j => behindM a.Cells (rdl b.Cells (0 + j))) = thenC a.Cells b.Cells := by
            have := map_upto b.Cells (behindM a.Cells)
            rw [show b.Cells.length = s.Dim.toNat by omega] at this
            simpa [thenC] using this
          show TWeight.mk false 0 ⟨0, []⟩ _ [] = TWeight.mk false 0 ⟨0, []⟩ (id ([] ++ _)) []
          rw [id, e]
def thenW (s : TSpace) (a b : TWeight) : TWeight :=
  if s.Tag = 5 then ⟨false, 0, ⟨0, []⟩, [], [thenW1 (rdl s.Parts 0) (rdl a.Parts 0) (rdl b.Parts 0), thenW1 (rdl s.Parts 1) (rdl a.Parts 1) (rdl b.Parts 1)]⟩
  else thenW1 s a b
/-- What a weight of a pair is. -/
theorem isW_pair {s : TSpace} {w : TWeight} (h5 : s.Tag = 5) (h : isW s w = true) : ∃ x y, w = ⟨false, 0, ⟨0, []⟩, [], [x, y]⟩ ∧ isW1 (rdl s.Parts 0) x = true ∧ isW1 (rdl s.Parts 1) y = true := by
  obtain ⟨Z, C, ⟨G, R⟩, L, P⟩ := w
  unfold isW plainB at h
  rw [if_pos h5] at h
  simp only [Bool.and_eq_true, Bool.not_eq_true', Bool.false_or, beq_iff_eq, Bool.true_or] at h
  obtain ⟨hz, ⟨hc, ⟨hg, hr⟩, hl, _⟩, h2, ha, hb⟩ := h
  match P, h2 with
  | [x, y], _ => exact ⟨x, y, by simp only [hz, hc, hg]; simp at hr hl; simp [hr, hl], ha, hb⟩
theorem isW_mk {s : TSpace} {x y : TWeight} (h5 : s.Tag = 5) (hx : isW1 (rdl s.Parts 0) x = true) (hy : isW1 (rdl s.Parts 1) y = true) : isW s ⟨false, 0, ⟨0, []⟩, [], [x, y]⟩ = true := by
  unfold isW plainB
  rw [if_pos h5]
  simp [rdl0, rdl1, hx, hy]
theorem pair_rng {x y : TWeight} (hx : Rng1 x) (hy : Rng1 y) : Rng ⟨false, 0, ⟨0, []⟩, [], [x, y]⟩ := ⟨⟨⟨zero_InU, by simp⟩, by simp, wf_small (x := 0) (Int.le_refl 0) (by decide)⟩, by intro p hp; simp at hp; rcases hp with rfl | rfl <;> assumption⟩
theorem thenW_ne {s : TSpace} {a b : TWeight} (h : s.Tag ≠ 5) : thenW s a b = thenW1 s a b := by unfold thenW; rw [if_neg h]
theorem space_p0 {s : TSpace} (h : spaceOk s = true) (h5 : s.Tag = 5) : spaceOk1 (rdl s.Parts 0) = true ∧ spaceOk1 (rdl s.Parts 1) = true ∧ s.Parts.length = 2 := by
  obtain ⟨a, b, hp, ha, hb, _⟩ := space_parts h h5
  rw [hp]; exact ⟨ha, hb, rfl⟩
theorem isW1_noparts {s : TSpace} {w : TWeight} (hs : spaceOk1 s = true) (h : isW1 s w = true) (r : Rng1 w) : Rng w := ⟨r, by rw [isW1_parts h]; simp⟩
theorem r05_Then.ok {s : TSpace} {a b : TWeight} (hs : spaceOk s = true) (ha : isW s a = true) (hb : isW s b = true) (ra : Rng a) (rb : Rng b) : r05_Then.f s a b (thenW s a b) := by
  refine ⟨2, ?_⟩
  by_cases h5 : s.Tag = 5
  · obtain ⟨p0, p1, p2⟩ := space_p0 hs h5
    obtain ⟨x, y, rfl, hx, hy⟩ := isW_pair h5 ha
    obtain ⟨z, w, rfl, hz, hw⟩ := isW_pair h5 hb
    show r05_Then.step (r05_Then.fN 1) s _ _ _
    unfold r05_Then.step thenW
    simp only [h5, Int.reduceEq, if_true, if_false, Bool.or_self, Bool.false_eq_true]
    refine ⟨⟨by decide, by omega⟩, ⟨by decide, by simp⟩, ⟨by decide, by simp⟩, _, r05_Then.step1 (self := r05_Then.fN 0) p0 hx hz (ra.2 x (.head _)) (rb.2 z (.head _)), ⟨by decide, by omega⟩, ⟨by decide, by simp⟩, ⟨by decide, by simp⟩, _, r05_Then.step1 (self := r05_Then.fN 0) p1 hy hw (ra.2 y (.tail _ (.head _))) (rb.2 w (.tail _ (.head _))), rfl⟩
  · have h1 : spaceOk1 s = true := by rw [← spaceOk_ne h5]; exact hs
    rw [isW_ne h5] at ha hb
    rw [thenW_ne h5]
    exact r05_Then.step1 h1 ha hb ra.1 rb.1
theorem oneW1_ok {s : TSpace} (hs : spaceOk1 s = true) : isW1 s (oneW1 s) = true ∧ Rng1 (oneW1 s) := by
  unfold oneW1
  rcases space1_cases hs with q | q | q | q
  · simp only [q.1, Int.reduceEq, if_false]; exact ⟨isW1_none q.1, none_rng⟩
  · simp only [q.1, Int.reduceEq, if_false]; exact ⟨isW1_cost q.1 (Int.le_refl 0) q.2.1, none_rng⟩
  · simp only [q.1, Int.reduceEq, if_true, if_false]
    exact ⟨isW1_facts q.1 (oneF_ok q.2.1 q.2.2), oneF_rng q.2.2, by simp, wf_small (x := 0) (Int.le_refl 0) (by decide)⟩
  · simp only [q.1, Int.reduceEq, if_true, if_false]
    have hr : ∀ c ∈ oneC s.Dim, RngC c := by
      intro c hc
      simp only [oneC, List.mem_map] at hc
      obtain ⟨i, hi, rfl⟩ := hc
      have := upto_mem hi
      exact ⟨pow_InU (by omega), wf_small (x := 0) (Int.le_refl 0) (by decide)⟩
    refine ⟨isW1_cells q.1 ((cellsOk_iff q.2.1 q.2.2 hr).2 ⟨by simp [oneC, upto]; omega, fun c hc => ?_⟩), ⟨zero_InU, by simp⟩, hr, wf_small (x := 0) (Int.le_refl 0) (by decide)⟩
    simp only [oneC, List.mem_map] at hc
    obtain ⟨i, hi, rfl⟩ := hc
    have := upto_mem hi
    refine ⟨fun j hj => ?_, .inl ⟨rfl, rfl⟩⟩
    rw [has_pow] at hj
    simp at hj
    omega
theorem oneW_ok {s : TSpace} (hs : spaceOk s = true) : isW s (oneW s) = true ∧ Rng (oneW s) := by
  by_cases h5 : s.Tag = 5
  · obtain ⟨p0, p1, _⟩ := space_p0 hs h5
    unfold oneW
    rw [if_pos h5]
    exact ⟨isW_mk h5 (oneW1_ok p0).1 (oneW1_ok p1).1, pair_rng (oneW1_ok p0).2 (oneW1_ok p1).2⟩
  · have h1 : spaceOk1 s = true := by rw [← spaceOk_ne h5]; exact hs
    rw [oneW_ne h5, isW_ne h5]
    exact ⟨(oneW1_ok h1).1, isW1_noparts h1 (oneW1_ok h1).1 (oneW1_ok h1).2⟩
end Go.RM.Try
namespace Go.RM.Try
open Go.RM
set_option linter.unusedVariables false
set_option linter.unusedSimpArgs false
theorem foldG_invI {α σ : Type} {g : Int → α → σ → σ} (P : Int → σ → Prop) : ∀ (l : List α) (i : Int) (s : σ), (∀ (j : Nat) x s, l[j]? = some x → P (i + j) s → P (i + j + 1) (g (i + j) x s)) → P i s → P (i + l.length) (foldG g l i s)
  | [], i, s, h, hs => by simpa [foldG] using hs
  | x :: l, i, s, h, hs => by
    have h0 := h 0 x s rfl (by simpa using hs)
    simp only [Int.ofNat_zero, Int.add_zero, Int.natCast_zero] at h0
    have := foldG_invI P l (i + 1) (g i x s) (fun j y s hy hp => by
      have := h (j + 1) y s (by simpa using hy) (by rw [show i + ((j + 1 : Nat) : Int) = i + 1 + j by omega]; exact hp)
      rw [show i + ((j + 1 : Nat) : Int) = i + 1 + j by omega] at this
      exact this) h0
    have e : i + ((x :: l).length : Int) = i + 1 + l.length := by simp; omega
    rw [e]; exact this
theorem join_start {n : Int} {a : TCell} (ha : CellP n a) (ua : InU a.From) : joinC ⟨0, 0, 0⟩ a = a := by
  unfold joinC manyC
  obtain ⟨F, K, k⟩ := a
  by_cases h2 : K = 2
  · rcases ha.2 with h | h | h
    · simp at h; omega
    · simp at h; omega
    · simp at h; simp [h]
  · have e : bitOp .or .u64 0 F = F := ext64 (or_InU _ _) ua fun i _ => by rw [has_or zero_InU ua, has_zero]; rfl
    simp [h2, e]
theorem behind_single {l : List TCell} {j : Nat} {c : TCell} : ∀ (i : Nat) (s : TCell), c.From = 2 ^ j → foldG (behG c) l (i : Int) s = if h : i ≤ j ∧ j - i < l.length then joinC s (l[j - i]'h.2) else s := by
  induction l with
  | nil => intro i s _; simp [foldG]
  | cons x l ih =>
    intro i s hc
    unfold foldG
    rw [show ((i : Int) + 1) = ((i + 1 : Nat) : Int) by simp, ih (i + 1) _ hc]
    unfold behG
    rw [show ((i : Nat) : Int).toNat = i by simp, hc, has_pow]
    by_cases hij : j = i
    · subst hij
      rw [dif_neg (by omega), dif_pos ⟨Nat.le_refl _, by simp⟩]
      simp
    · rw [decide_eq_false hij]
      simp only [Bool.false_eq_true, if_false]
      by_cases h : i + 1 ≤ j ∧ j - (i + 1) < l.length
      · rw [dif_pos h, dif_pos ⟨by omega, by simp; omega⟩]
        congr 1
        obtain ⟨d, hd⟩ : ∃ d, j = i + 1 + d := ⟨j - (i + 1), by omega⟩
        subst hd
        simp only [show i + 1 + d - (i + 1) = d by omega, show i + 1 + d - i = d + 1 by omega]
        rfl
      · rw [dif_neg h, dif_neg (by simp; omega)]
theorem oneC_get {n : Int} {j : Nat} : (oneC n)[j]? = if j < n.toNat then some ⟨2 ^ j, 0, 0⟩ else none := by
  simp only [oneC, List.getElem?_map, upto_get]
  split <;> simp
theorem then_oneC {n : Int} {a : List TCell} (hl : (a.length : Int) = n) (hu : ∀ c ∈ a, RngC c) (ha : ∀ c ∈ a, CellP n c) : thenC a (oneC n) = a := by
  apply List.ext_getElem?
  intro j
  simp only [thenC, List.getElem?_map, oneC_get]
  by_cases hj : j < n.toNat
  · rw [if_pos hj]
    have hlt : j < a.length := by omega
    have hm := List.getElem_mem hlt
    rw [List.getElem?_eq_getElem hlt]
    simp only [Option.map_some]
    unfold behindM
    have := behind_single (l := a) (j := j) (c := ⟨2 ^ j, 0, 0⟩) 0 ⟨0, 0, 0⟩ rfl
    simp only [Int.natCast_zero] at this
    rw [this, dif_pos ⟨by omega, by simpa using hlt⟩]
    simp only [Nat.sub_zero]
    rw [join_start (ha _ hm) (hu _ hm).1]
  · rw [if_neg hj, List.getElem?_eq_none (by omega)]; rfl
theorem behind_one {n : Int} (h0 : 0 ≤ n) (h1 : n ≤ 64) {c : TCell} (uc : RngC c) (hc : CellP n c) : behindM (oneC n) c = c := by
  have key := foldG_invI (g := behG c) (fun i s => s.Kind = c.Kind ∧ s.K = c.K ∧ InU s.From ∧ ∀ k : Nat, hasI s.From k = (hasI c.From k && decide ((k : Int) < i))) (oneC n) 0 ⟨0, c.Kind, c.K⟩ (fun j x s hx h => by
    rw [oneC_get] at hx
    split at hx
    · rename_i hj
      injection hx with hx
      subst hx
      unfold behG
      obtain ⟨hk, hK, hu, hb⟩ := h
      rw [show ((0 : Int) + (j : Int)).toNat = j by simp]
      cases hh : hasI c.From j with
      | false =>
        simp only [Bool.false_eq_true, if_false]
        refine ⟨hk, hK, hu, fun k => ?_⟩
        rw [hb k]
        by_cases hkj : k = j
        · subst hkj; simp [hh]
        · congr 1; rw [decide_eq_decide]; omega
      | true =>
        simp only [if_true]
        have hn2 : c.Kind ≠ 2 := by
          intro h2
          rcases hc.2 with q | q | q
          · omega
          · omega
          · rw [q.2.2, has_zero] at hh; cases hh
        have hor : ∀ k : Nat, hasI (bitOp .or .u64 s.From (2 ^ j)) k = (hasI c.From k && decide ((k : Int) < 0 + j + 1)) := fun k => by
          rw [has_or hu (pow_InU (by omega)), has_pow, hb k]
          by_cases hkj : j = k
          · subst hkj; simp [hh]; omega
          · have : decide ((k : Int) < 0 + j) = decide ((k : Int) < 0 + j + 1) := by rw [decide_eq_decide]; omega
            rw [this, decide_eq_false hkj, Bool.or_false]
        unfold joinC
        rw [if_neg (by rw [hk]; simp; exact hn2)]
        by_cases hz : s.Kind = 0
        · rw [if_pos hz]
          rcases hc.2 with q | q | q
          · exact ⟨q.1.symm, q.2.symm, or_InU _ _, hor⟩
          · omega
          · omega
        · rw [if_neg hz, if_neg (by simp)]
          exact ⟨hk, hK, or_InU _ _, hor⟩
    · cases hx) ⟨rfl, rfl, zero_InU, fun k => by
      rw [has_zero]
      have : ¬ ((k : Int) < 0) := by omega
      rw [decide_eq_false this, Bool.and_false]⟩
  obtain ⟨hk, hK, hu, hb⟩ := key
  show foldG (behG c) (oneC n) 0 ⟨0, c.Kind, c.K⟩ = c
  have hF : (foldG (behG c) (oneC n) 0 ⟨0, c.Kind, c.K⟩).From = c.From := by
    refine ext64 hu uc.1 fun k hk64 => ?_
    rw [hb k]
    cases hh : hasI c.From k with
    | false => rfl
    | true =>
      have h9 := hc.1 k hh
      simp [oneC, upto]; omega
  generalize foldG (behG c) (oneC n) 0 ⟨0, c.Kind, c.K⟩ = r at hk hK hF
  obtain ⟨a, b, d⟩ := r
  obtain ⟨x, y, z⟩ := c
  simp only at hk hK hF
  rw [hk, hK, hF]
theorem one_thenC {n : Int} (h0 : 0 ≤ n) (h1 : n ≤ 64) {b : List TCell} (hu : ∀ c ∈ b, RngC c) (hb : ∀ c ∈ b, CellP n c) : thenC (oneC n) b = b := by
  unfold thenC
  rw [show (b.map (behindM (oneC n)) = b) ↔ (b.map (behindM (oneC n)) = b.map id) by simp, List.map_inj_left]
  exact fun c hc => behind_one h0 h1 (hu c hc) (hb c hc)
theorem then_one1 {s : TSpace} {w : TWeight} (hs : spaceOk1 s = true) (h : isW1 s w = true) (r : Rng1 w) : thenW1 s w (oneW1 s) = w ∧ thenW1 s (oneW1 s) w = w := by
  unfold thenW1 oneW1
  rcases isW1_cases hs h with k | k | k | k | k
  · subst k; exact ⟨by simp [zeroW], by simp [zeroW]⟩
  · rw [k.2]; simp [k.1, noneW]
  · rw [k.2.1]
    simp only [k.1, Int.reduceEq, if_true, if_false, noneW, Bool.or_self, Bool.false_eq_true]
    constructor
    · congr 1; split <;> omega
    · congr 1; split <;> omega
  · rcases space1_cases hs with q | q | q | q
    · omega
    · omega
    · have e1 := then_oneF q.2.1 q.2.2 r.facts k.2.2
      have e2 := one_thenF q.2.1 q.2.2 r.facts k.2.2
      generalize hF : w.Facts = F at *
      rw [k.2.1]
      simp [k.1, e1, e2]
    · omega
  · rcases space1_cases hs with q | q | q | q
    · omega
    · omega
    · omega
    · have hc := (cellsOk_iff q.2.1 q.2.2 r.cells).1 k.2.2
      have e1 := then_oneC hc.1 r.cells hc.2
      have e2 := one_thenC q.2.1 q.2.2 r.cells hc.2
      generalize hF : w.Cells = F at *
      rw [k.2.1]
      simp [k.1, e1, e2]
theorem then_one {s : TSpace} {w : TWeight} (hs : spaceOk s = true) (h : isW s w = true) (r : Rng w) : thenW s w (oneW s) = w ∧ thenW s (oneW s) w = w := by
  by_cases h5 : s.Tag = 5
  · obtain ⟨p0, p1, _⟩ := space_p0 hs h5
    obtain ⟨x, y, rfl, hx, hy⟩ := isW_pair h5 h
    have e0 := then_one1 p0 hx (r.2 x (.head _))
    have e1 := then_one1 p1 hy (r.2 y (.tail _ (.head _)))
    unfold thenW oneW
    rw [if_pos h5, if_pos h5, if_pos h5]
    simp [rdl0, rdl1, e0, e1]
  · have h1 : spaceOk1 s = true := by rw [← spaceOk_ne h5]; exact hs
    rw [isW_ne h5] at h
    rw [oneW_ne h5, thenW_ne h5, thenW_ne h5]
    exact then_one1 h1 h r.1
end Go.RM.Try
namespace Go.RM.Try
open Go.RM
set_option linter.unusedVariables false
set_option linter.unusedSimpArgs false
/-- From one state of a loop to another one. -/
def Reach {σ τ ρ : Type} (b : σ → Rnd σ τ ρ → Prop) (s s' : σ) : Prop := ∀ o, Loop b s' o → Loop b s o
theorem Reach.refl {σ τ ρ : Type} {b : σ → Rnd σ τ ρ → Prop} (s : σ) : Reach b s s := fun o h => h
theorem Reach.next {σ τ ρ : Type} {b : σ → Rnd σ τ ρ → Prop} {s s' s'' : σ} (h : b s (.next s')) (h' : Reach b s' s'') : Reach b s s'' := fun o k => .next h (h' o k)
/-- The state of the law's loop. -/
def mkS (c : TConf) (w : TWeight) (parts i : Int) : Int × (List Int) × Bool × Int × Int × (List Int) × (List TCell) × (List TWeight) × Int × Int := (c.P, c.W, w.Zero, w.Cost, w.Facts.Gen, w.Facts.Rows, w.Cells, w.Parts, parts, i)
end Go.RM.Try
namespace Go.RM.Try
open Go.RM
set_option linter.unusedVariables false
set_option linter.unusedSimpArgs false
def eitherF (a b : TFacts) : TFacts := canonM ⟨bitOp .or .u64 a.Gen b.Gen, List.zipWith (bitOp .or .u64) a.Rows b.Rows⟩
theorem upto_zip {α β γ : Type} [Inhabited α] [Inhabited β] (f : α → β → γ) {l : List α} {m : List β} (h : l.length = m.length) : (upto l.length).map (fun i => f (rdl l i) (rdl m i)) = List.zipWith f l m := by
  apply List.ext_getElem?
  intro k
  simp only [List.getElem?_map, upto_get, List.getElem?_zipWith]
  by_cases hk : k < l.length
  · rw [if_pos hk]
    have a := rdl_get (l := l) (i := (k : Int)) (by omega) (by omega)
    have b := rdl_get (l := m) (i := (k : Int)) (by omega) (by omega)
    simp only [Int.toNat_natCast] at a b
    rw [a, b]; rfl
  · rw [if_neg hk, List.getElem?_eq_none (by omega)]; rfl
theorem r03_Combine.ok {n : Int} (h0 : 0 ≤ n) (h1 : n ≤ 64) {a b : TFacts} (hra : RngF a) (hrb : RngF b) (ha2 : factsOk n a = true) (hb2 : factsOk n b = true) : r03_Combine.f n a b (eitherF a b, 0) := by
  obtain ⟨la, _⟩ := (factsOk_iff hra h0 h1).1 ha2
  obtain ⟨lb, _⟩ := (factsOk_iff hrb h0 h1).1 hb2
  refine ⟨_, r03_two.ok h0 h1 (by omega) (by omega) ha2 hb2, ?_⟩
  rw [if_pos rfl]
  refine ⟨_, r03_or.ok _ _, ?_⟩
  have key := (countLoop (n := n) (b := r03_Combine.b1 n a b) (fun i l => (l, i)) id (fun i acc => .go (acc ++ [bitOp .or .u64 (rdl a.Rows i) (rdl b.Rows i)])) (fun i l => (l.length : Int) = i) (fun i l i0 i1 hi => by
    refine ⟨?_, by simp; omega⟩
    unfold r03_Combine.b1
    simp only [i1, if_true]
    exact ⟨⟨i0, by omega⟩, ⟨i0, by omega⟩, _, r03_or.ok _ _, by unfold Fits; omega, by rw [wrap64 (by omega) (by omega)]⟩) (fun l hl => by unfold r03_Combine.b1; simp) [] h0 rfl).1
  rw [countF_app] at key
  refine ⟨_, key, ?_⟩
  have e : [] ++ (upto n.toNat).map (fun j => bitOp .or .u64 (rdl a.Rows (0 + j)) (rdl b.Rows (0 + j))) = List.zipWith (bitOp .or .u64) a.Rows b.Rows := by
    have := upto_zip (bitOp .or .u64) (l := a.Rows) (m := b.Rows) (by omega)
    rw [show a.Rows.length = n.toNat by omega] at this
    simpa using this
  show ∃ t, r03_canon.f (TFacts.mk (bitOp .or .u64 a.Gen b.Gen) (id ([] ++ _))) t ∧ _
  rw [id, e]
  exact ⟨_, r03_canon.ok (by simp; omega), rfl⟩
def eitherW1 (s : TSpace) (a b : TWeight) : TWeight :=
  if a.Zero = true then b
  else if b.Zero = true then a
  else if s.Tag = 2 then ⟨false, if b.Cost < a.Cost then b.Cost else a.Cost, ⟨0, []⟩, [], []⟩
  else if s.Tag = 3 then ⟨false, 0, eitherF a.Facts b.Facts, [], []⟩
  else if s.Tag = 4 then ⟨false, 0, ⟨0, []⟩, List.zipWith joinC a.Cells b.Cells, []⟩
  else noneW
theorem r05_Either.step1 {self : TSpace → TWeight → TWeight → TWeight → Prop} {s : TSpace} {a b : TWeight} (hs : spaceOk1 s = true) (ha : isW1 s a = true) (hb : isW1 s b = true) (ra : Rng1 a) (rb : Rng1 b) : r05_Either.step self s a b (eitherW1 s a b) := by
  unfold r05_Either.step eitherW1
  by_cases az : a.Zero = true
  · rw [if_pos az, if_pos az]
  · rw [if_neg az, if_neg az]
    by_cases bz : b.Zero = true
    · rw [if_pos bz, if_pos bz]
    · rw [if_neg bz, if_neg bz]
      rcases space1_cases hs with q | q | q | q
      · simp only [q.1, Int.reduceEq, if_false]; rfl
      · simp only [q.1, Int.reduceEq, if_true, if_false]
      · simp only [q.1, Int.reduceEq, if_true, if_false]
        rcases isW1_cases hs ha with h | h | h | h | h
        · subst h; simp [zeroW] at az
        · omega
        · omega
        · rcases isW1_cases hs hb with k | k | k | k | k
          · subst k; simp [zeroW] at bz
          · omega
          · omega
          · exact ⟨_, r03_Combine.ok q.2.1 q.2.2 ra.facts rb.facts h.2.2 k.2.2, rfl⟩
          · omega
        · omega
      · simp only [q.1, Int.reduceEq, if_true, if_false]
        rcases isW1_cases hs ha with h | h | h | h | h
        · subst h; simp [zeroW] at az
        · omega
        · omega
        · omega
        · rcases isW1_cases hs hb with k | k | k | k | k
          · subst k; simp [zeroW] at bz
          · omega
          · omega
          · omega
          · have ca := (cellsOk_iff q.2.1 q.2.2 ra.cells).1 h.2.2
            have cb := (cellsOk_iff q.2.1 q.2.2 rb.cells).1 k.2.2
            have key := (countLoop (n := s.Dim) (b := r05_Either.b1 s a b) (fun i l => (l, i)) id (fun i acc => .go (acc ++ [joinC (rdl a.Cells i) (rdl b.Cells i)])) (fun i l => (l.length : Int) = i) (fun i l i0 i1 hi => by
              refine ⟨?_, by simp; omega⟩
              unfold r05_Either.b1
              simp only [i1, if_true]
              exact ⟨⟨i0, by omega⟩, ⟨i0, by omega⟩, _, r05_Joined.ok _ _, by unfold Fits; omega, by rw [wrap64 (by omega) (by omega)]⟩) (fun l hl => by unfold r05_Either.b1; simp) [] q.2.1 rfl).1
            rw [countF_app] at key
            refine ⟨_, key, ?_⟩
            have e : [] ++ (upto s.Dim.toNat).map (fun j => joinC (rdl a.Cells (0 + j)) (rdl b.Cells (0 + j))) = List.zipWith joinC a.Cells b.Cells := by
              have := upto_zip joinC (l := a.Cells) (m := b.Cells) (by omega)
              rw [show a.Cells.length = s.Dim.toNat by omega] at this
              simpa using this
            show TWeight.mk false 0 ⟨0, []⟩ _ [] = TWeight.mk false 0 ⟨0, []⟩ (id ([] ++ _)) []
            rw [id, e]
def eitherW (s : TSpace) (a b : TWeight) : TWeight :=
  if s.Tag = 5 then ⟨false, 0, ⟨0, []⟩, [], [eitherW1 (rdl s.Parts 0) (rdl a.Parts 0) (rdl b.Parts 0), eitherW1 (rdl s.Parts 1) (rdl a.Parts 1) (rdl b.Parts 1)]⟩
  else eitherW1 s a b
theorem eitherW_ne {s : TSpace} {a b : TWeight} (h : s.Tag ≠ 5) : eitherW s a b = eitherW1 s a b := by unfold eitherW; rw [if_neg h]
theorem r05_Either.ok {s : TSpace} {a b : TWeight} (hs : spaceOk s = true) (ha : isW s a = true) (hb : isW s b = true) (ra : Rng a) (rb : Rng b) : r05_Either.f s a b (eitherW s a b) := by
  refine ⟨2, ?_⟩
  by_cases h5 : s.Tag = 5
  · obtain ⟨p0, p1, p2⟩ := space_p0 hs h5
    obtain ⟨x, y, rfl, hx, hy⟩ := isW_pair h5 ha
    obtain ⟨z, w, rfl, hz, hw⟩ := isW_pair h5 hb
    show r05_Either.step (r05_Either.fN 1) s _ _ _
    unfold r05_Either.step eitherW
    simp only [h5, Int.reduceEq, if_true, if_false, Bool.false_eq_true]
    refine ⟨⟨by decide, by omega⟩, ⟨by decide, by simp⟩, ⟨by decide, by simp⟩, _, r05_Either.step1 (self := r05_Either.fN 0) p0 hx hz (ra.2 x (.head _)) (rb.2 z (.head _)), ⟨by decide, by omega⟩, ⟨by decide, by simp⟩, ⟨by decide, by simp⟩, _, r05_Either.step1 (self := r05_Either.fN 0) p1 hy hw (ra.2 y (.tail _ (.head _))) (rb.2 w (.tail _ (.head _))), rfl⟩
  · have h1 : spaceOk1 s = true := by rw [← spaceOk_ne h5]; exact hs
    rw [isW_ne h5] at ha hb
    rw [eitherW_ne h5]
    exact r05_Either.step1 h1 ha hb ra.1 rb.1
/-- The zero of a space. -/
def zeroS (s : TSpace) : TWeight := if s.Tag = 5 then ⟨false, 0, ⟨0, []⟩, [], [zeroW, zeroW]⟩ else zeroW
theorem zeroS_ok {s : TSpace} (hs : spaceOk s = true) : isW s (zeroS s) = true ∧ Rng (zeroS s) := by
  unfold zeroS
  by_cases h5 : s.Tag = 5
  · obtain ⟨p0, p1, _⟩ := space_p0 hs h5
    rw [if_pos h5]
    exact ⟨isW_mk h5 (isW1_zero p0) (isW1_zero p1), pair_rng zero_rng zero_rng⟩
  · have h1 : spaceOk1 s = true := by rw [← spaceOk_ne h5]; exact hs
    rw [if_neg h5, isW_ne h5]
    exact ⟨isW1_zero h1, isW1_noparts h1 (isW1_zero h1) zero_rng⟩
theorem r05_zero.ok {s : TSpace} (hs : spaceOk s = true) : r05_zero.f s (zeroS s) := by
  refine ⟨2, ?_⟩
  show r05_zero.step (r05_zero.fN 1) s _
  unfold r05_zero.step zeroS
  by_cases h5 : s.Tag = 5
  · obtain ⟨a, b, hp, ha, hb, na, nb, hd⟩ := space_parts hs h5
    have hz : ∀ {t : TSpace}, t.Tag ≠ 5 → r05_zero.fN 1 t zeroW := fun {t} ht => by
      show r05_zero.step (r05_zero.fN 0) t _
      unfold r05_zero.step
      rw [if_neg ht]; rfl
    rw [if_pos h5, if_pos h5, hp]
    exact ⟨⟨by decide, by simp⟩, _, hz na, ⟨by decide, by simp⟩, _, hz nb, rfl⟩
  · rw [if_neg h5, if_neg h5]; rfl
def zeroR (s : TSpace) : TWeight × Int := if spaceOk s = true then (zeroS s, 0) else (noneW, 50)
theorem r05_Zero.ok {s : TSpace} (hl : s.Parts.length ≤ maxLen) : r05_Zero.f s (zeroR s) := by
  refine ⟨_, r05_Space.ok hl, ?_⟩
  unfold zeroR
  cases h : spaceOk s with
  | false => simp [noneW]
  | true => simp only [if_true]; exact ⟨_, r05_zero.ok h, rfl⟩
theorem r10_Zero.ok {s : TSpace} (hs : spaceOk s = true) (hl : s.Parts.length ≤ maxLen) : r10_Zero.f s (zeroS s) := by
  have h := r05_Zero.ok hl
  unfold zeroR at h
  rw [if_pos hs] at h
  exact ⟨_, h, rfl⟩
theorem r10_One.ok {s : TSpace} (hs : spaceOk s = true) (hl : s.Parts.length ≤ maxLen) : r10_One.f s (oneW s) := by
  have h := r05_One.ok hl
  unfold oneR at h
  rw [if_pos hs] at h
  exact ⟨_, h, rfl⟩
theorem either_zero1 (s : TSpace) (w : TWeight) : eitherW1 s zeroW w = w := by simp [eitherW1, zeroW]
theorem either_zero {s : TSpace} {w : TWeight} (hs : spaceOk s = true) (h : isW s w = true) : eitherW s (zeroS s) w = w := by
  unfold eitherW zeroS
  by_cases h5 : s.Tag = 5
  · obtain ⟨x, y, rfl, hx, hy⟩ := isW_pair h5 h
    rw [if_pos h5, if_pos h5]
    simp [rdl0, rdl1, either_zero1]
  · rw [if_neg h5, if_neg h5, either_zero1]
theorem r10_Ext.ok {s : TSpace} {a b : TWeight} (back : Bool) (hs : spaceOk s = true) (ha : isW s a = true) (hb : isW s b = true) (ra : Rng a) (rb : Rng b) : r10_Ext.f s back a b (if back = true then thenW s b a else thenW s a b) := by
  unfold r10_Ext.f
  cases back with
  | true => exact ⟨_, r05_Then.ok hs hb ha rb ra, rfl⟩
  | false => exact ⟨_, r05_Then.ok hs ha hb ra rb, rfl⟩
end Go.RM.Try
namespace Go.RM.Try
open Go.RM
set_option linter.unusedVariables false
set_option linter.unusedSimpArgs false
def confB (p : TPds) (c : TConf) : Bool := inB c.P p.States && (decide ((c.W.length : Int) ≤ 4096) && c.W.all (fun g => inB g p.Symbols))
def confC (p : TPds) (c : TConf) : Int := if pC p = 0 then (if confB p c = true then 0 else 120) else pC p
theorem conf_head {p : TPds} {c : TConf} : ((decide (c.P < 0)) || ((decide (c.P ≥ p.States)) || (decide ((c.W.length : Int) > 4096)))) = !(inB c.P p.States && decide ((c.W.length : Int) ≤ 4096)) := by
  rw [Bool.eq_iff_iff]; simp [inB]; omega
theorem confB_split {p : TPds} {c : TConf} (h : (inB c.P p.States && decide ((c.W.length : Int) ≤ 4096)) = true) : confB p c = c.W.all (fun g => inB g p.Symbols) := by
  rw [Bool.and_eq_true] at h
  unfold confB; rw [h.1, h.2]; simp
theorem confB_no {p : TPds} {c : TConf} (h : ¬ (inB c.P p.States && decide ((c.W.length : Int) ≤ 4096)) = true) : confB p c = false := by
  unfold confB
  rw [← Bool.and_assoc, Bool.eq_false_iff.2 h, Bool.false_and]
theorem steps_Check.ok {p : TPds} (h : p.Sized) {c : TConf} (hl : c.W.length ≤ maxLen) : steps_Check.f p c (confC p c) := by
  refine ⟨_, pds_Check.ok h, ?_⟩
  unfold confC
  by_cases hc : pC p = 0
  · rw [if_pos hc, if_pos hc, conf_head]
    by_cases hh : (inB c.P p.States && decide ((c.W.length : Int) ≤ 4096)) = true
    · rw [hh, confB_split hh, if_neg (by simp)]
      have key := eachLoop (l := c.W) (b := steps_Check.b1 p c) (fun g => inB g p.Symbols) (120 : Int) (fun i i0 i1 => by
        unfold steps_Check.b1
        simp only [i1, if_true]
        refine ⟨fun ht => ⟨⟨i0, i1⟩, ?_⟩, fun ht => ⟨⟨i0, i1⟩, ?_⟩⟩
        · rw [if_neg (by unfold inB at ht; simp at ht ⊢; omega), wrap_len hl i0 i1]
        · rw [if_pos (by unfold inB at ht; simp at ht ⊢; omega)]; trivial) (fun i i0 i1 => by unfold steps_Check.b1; simp only [i1, if_false])
      refine ⟨_, key, ?_⟩
      cases c.W.all (fun g => inB g p.Symbols) <;> simp [Fin.on]
    · rw [Bool.eq_false_iff.2 hh, confB_no hh]; simp
  · rw [if_neg hc, if_neg hc]
theorem r12_Check.ok {p : TPds} (h : p.Sized) {c : TConf} (hl : c.W.length ≤ maxLen) : r12_Check.f p c (confC p c) := by
  refine ⟨_, r11_Check.ok h, ?_⟩
  unfold confC
  by_cases hc : pC p = 0
  · rw [if_pos hc, if_pos hc, conf_head]
    by_cases hh : (inB c.P p.States && decide ((c.W.length : Int) ≤ 4096)) = true
    · rw [hh, confB_split hh, if_neg (by simp)]
      have key := eachLoop (l := c.W) (b := r12_Check.b1 p c) (fun g => inB g p.Symbols) (120 : Int) (fun i i0 i1 => by
        unfold r12_Check.b1
        simp only [i1, if_true]
        refine ⟨fun ht => ⟨⟨i0, i1⟩, fun _ => ⟨i0, i1⟩, ?_⟩, fun ht => ⟨⟨i0, i1⟩, fun _ => ⟨i0, i1⟩, ?_⟩⟩
        · rw [if_neg (by unfold inB at ht; simp at ht ⊢; omega), wrap_len hl i0 i1]
        · rw [if_pos (by unfold inB at ht; simp at ht ⊢; omega)]; trivial) (fun i i0 i1 => by unfold r12_Check.b1; simp only [i1, if_false])
      refine ⟨_, key, ?_⟩
      cases c.W.all (fun g => inB g p.Symbols) <;> simp [Fin.on]
    · rw [Bool.eq_false_iff.2 hh, confB_no hh]; simp
  · rw [if_neg hc, if_neg hc]
/-- Final states: rising. -/
def finB (st : Int) : List Int → Int → Bool
  | [], _ => true
  | s :: l, last => (inB s st && decide (s > last)) && finB st l s
def transB (a : TAuto) (t : TTrans) : Bool := inB t.From a.States && (inB t.To a.States && (decide (t.Sym ≥ -1) && decide (t.Sym < a.Symbols)))
def aC (a : TAuto) : Int :=
  if spaceOk a.Space = true then
    if (a.Trans.length : Int) > 65536 then 3
    else if (decide (a.States < 0) || (decide (a.States > 4096) || (decide (a.Symbols < 0) || decide (a.Symbols > 4096)))) = true then 100
    else if finB a.States a.Final (-1) = true then (if a.Trans.all (transB a) = true then (if a.Trans.all (fun t => isW a.Space t.W) = true then 0 else 51) else 100) else 100
  else 50
structure TAuto.Sized (a : TAuto) : Prop where
  parts : a.Space.Parts.length ≤ maxLen
  final : a.Final.length ≤ maxLen
  trans : a.Trans.length ≤ maxLen
  weights : ∀ t ∈ a.Trans, t.W.Sized2
theorem r10_State.ok (a : TAuto) (s : Int) : r10_State.f a s (inB s a.States) := rfl
theorem r10_Check.fin {a : TAuto} (hl : a.Final.length ≤ maxLen) : Loop (r10_Check.b1 a) 0 (if finB a.States a.Final (-1) = true then .go () else .ret 100) := by
  have hm : maxLen ≤ 9223372036854775807 := by decide
  have key := Loop.of (b := r10_Check.b1 a) (fun i => if finB a.States (a.Final.drop i.toNat) (if i > 0 then rdl a.Final (i - 1) else -1) = true then .go () else .ret 100) (fun i => ((a.Final.length : Int) - i).toNat) (fun i => 0 ≤ i) (fun i hi => by
    by_cases h : i < (a.Final.length : Int)
    · have hd := drop_rdl hi h
      have w1 : i > 0 → IntKind.i64.wrap (i - 1) = i - 1 := fun h => wrap64 (by omega) (by omega)
      have hb : ∀ z, (if ((!inB (rdl a.Final i) a.States) || ((decide (i > 0)) && (decide ((rdl a.Final i) ≤ (rdl a.Final (IntKind.i64.wrap (i - 1))))))) = true then (z = .ret 100) else (z = .next (IntKind.i64.wrap (i + 1)))) → r10_Check.b1 a i z := fun z hz => by
        unfold r10_Check.b1
        simp only [h, if_true]
        exact ⟨⟨hi, h⟩, _, r10_State.ok _ _, fun _ _ => ⟨hi, h⟩, fun _ h0 => by rw [w1 h0]; exact ⟨by omega, by omega⟩, hz⟩
      by_cases ht : (inB (rdl a.Final i) a.States && decide (rdl a.Final i > (if i > 0 then rdl a.Final (i - 1) else -1))) = true
      · refine .inl ⟨i + 1, hb _ ?_, by omega, by omega, ?_⟩
        · rw [if_neg, wrap_len hl hi h]
          rw [Bool.and_eq_true] at ht
          obtain ⟨h1, h2⟩ := ht
          rw [h1]
          by_cases h0 : i > 0
          · rw [if_pos h0] at h2; rw [w1 h0]; simp at h2 ⊢; omega
          · simp [h0]
        · rw [hd]; simp only [finB, ht, Bool.true_and]
          rw [if_pos (show i + 1 > 0 by omega), show i + 1 - 1 = i by omega]
      · refine .inr (.inr ⟨100, hb _ ?_, ?_⟩)
        · rw [if_pos]
          by_cases hx : inB (rdl a.Final i) a.States = true
          · by_cases h0 : i > 0
            · rw [if_pos h0] at ht; rw [w1 h0]; rw [hx] at ht ⊢; simp at ht ⊢; exact ⟨h0, ht⟩
            · rw [if_neg h0, hx] at ht
              unfold inB at hx
              simp at ht hx
              omega
          · simp [Bool.eq_false_iff.2 hx]
        · rw [hd]; simp only [finB, Bool.eq_false_iff.2 ht, Bool.false_and]; simp
    · refine .inr (.inl ⟨(), ?_, ?_⟩)
      · unfold r10_Check.b1; simp only [h, if_false]
      · rw [drop_end hi h]; simp [finB]) 0 (Int.le_refl 0)
  exact key
theorem trans_test (a : TAuto) (t : TTrans) : ((!inB t.From a.States) || ((!inB t.To a.States) || ((decide (t.Sym < (-1))) || (decide (t.Sym ≥ a.Symbols))))) = !transB a t := by
  unfold transB
  cases inB t.From a.States <;> cases inB t.To a.States <;> rw [Bool.eq_iff_iff] <;> simp <;> omega
theorem r10_Check.ok {a : TAuto} (h : a.Sized) : r10_Check.f a (aC a) := by
  refine ⟨_, r05_Space.ok h.parts, ?_⟩
  unfold aC
  cases hs : spaceOk a.Space with
  | false => simp
  | true =>
    simp only [if_true]
    by_cases hr : (a.Trans.length : Int) > 65536
    · rw [if_pos hr, if_pos hr]
    · rw [if_neg hr, if_neg hr]
      by_cases hn : (decide (a.States < 0) || (decide (a.States > 4096) || (decide (a.Symbols < 0) || decide (a.Symbols > 4096)))) = true
      · rw [if_pos hn, if_pos hn]
      · rw [if_neg hn, if_neg hn]
        refine ⟨_, r10_Check.fin h.final, ?_⟩
        cases finB a.States a.Final (-1) with
        | false => simp [Fin.on]
        | true =>
          simp only [if_true, Fin.on]
          have key1 := eachLoop (l := a.Trans) (b := r10_Check.b2 a) (transB a) (100 : Int) (fun i i0 i1 => by
            have hw : ∀ z : Rnd Int Unit Int, (if (!transB a (rdl a.Trans i)) = true then (z = Rnd.ret 100) else (z = .next (IntKind.i64.wrap (i + 1)))) → r10_Check.b2 a i z := fun z hz => by
              unfold r10_Check.b2
              simp only [i1, if_true]
              exact ⟨⟨i0, i1⟩, _, r10_State.ok _ _, _, fun _ => r10_State.ok _ _, by rw [trans_test a (rdl a.Trans i)]; exact hz⟩
            exact ⟨fun ht => hw _ (by rw [ht, wrap_len h.trans i0 i1]; simp), fun ht => hw _ (by rw [ht]; simp)⟩) (fun i i0 i1 => by unfold r10_Check.b2; simp only [i1, if_false])
          refine ⟨_, key1, ?_⟩
          cases a.Trans.all (transB a) with
          | false => simp [Fin.on]
          | true =>
            simp only [if_true, Fin.on]
            have key := eachLoop (l := a.Trans) (b := r10_Check.b3 a) (fun t => isW a.Space t.W) (51 : Int) (fun i i0 i1 => by
              unfold r10_Check.b3
              simp only [i1, if_true]
              have hw := r05_Check.ok h.parts (h.weights _ (rdl_mem i0 i1))
              unfold wC at hw
              rw [if_pos hs] at hw
              exact ⟨fun ht => ⟨⟨i0, i1⟩, _, hw, by rw [ht, if_pos rfl, if_pos rfl, wrap_len h.trans i0 i1]⟩, fun ht => ⟨⟨i0, i1⟩, _, hw, by rw [ht]; simp⟩⟩) (fun i i0 i1 => by unfold r10_Check.b3; simp only [i1, if_false])
            refine ⟨_, key, ?_⟩
            cases a.Trans.all (fun t => isW a.Space t.W) <;> simp [Fin.on]
/-- Two spaces that may be: are they the same? -/
def eqSp1 (a b : TSpace) : Bool := (a.Tag == b.Tag) && (a.Dim == b.Dim)
def eqSp (a b : TSpace) : Bool := (a.Tag == b.Tag) && ((a.Dim == b.Dim) && all2B eqSp1 a.Parts b.Parts)
theorem space_tag {a b : TSpace} (ha : spaceOk a = true) (hb : spaceOk b = true) (h : a.Tag = b.Tag) : a.Parts.length = b.Parts.length := by
  by_cases h5 : a.Tag = 5
  · obtain ⟨x, y, hp, _⟩ := space_parts ha h5
    obtain ⟨z, w, hq, _⟩ := space_parts hb (by omega)
    rw [hp, hq]; rfl
  · rw [spaceOk_ne h5] at ha
    rw [spaceOk_ne (by omega)] at hb
    rw [space1_parts ha, space1_parts hb]
theorem sp_len {a : TSpace} (ha : spaceOk a = true) : a.Parts.length ≤ 2 := by
  by_cases h5 : a.Tag = 5
  · obtain ⟨x, y, hp, _⟩ := space_parts ha h5; rw [hp]; simp
  · rw [spaceOk_ne h5] at ha; rw [space1_parts ha]; simp
theorem sp_part {a : TSpace} (ha : spaceOk a = true) {i : Int} (h0 : 0 ≤ i) (h1 : i < a.Parts.length) : spaceOk1 (rdl a.Parts i) = true := by
  by_cases h5 : a.Tag = 5
  · obtain ⟨x, y, hp, hx, hy, _⟩ := space_parts ha h5
    have hm := rdl_mem h0 h1
    generalize rdl a.Parts i = z at hm ⊢
    rw [hp] at hm
    simp at hm
    rcases hm with rfl | rfl <;> assumption
  · rw [spaceOk_ne h5] at ha; rw [space1_parts ha] at h1; simp at h1; omega
theorem r05_SameSpace.flat {self : TSpace → TSpace → Bool → Prop} {a b : TSpace} (ha : spaceOk1 a = true) (hb : spaceOk1 b = true) : r05_SameSpace.step self a b (eqSp1 a b) := by
  unfold r05_SameSpace.step eqSp1
  rw [space1_parts ha, space1_parts hb]
  by_cases h1 : a.Tag = b.Tag
  · by_cases h2 : a.Dim = b.Dim
    · rw [if_neg (by simp [h1, h2])]
      refine ⟨.go (), .exit ?_, ?_⟩
      · unfold r05_SameSpace.b1; rw [space1_parts ha]; simp
      · simp [Fin.on, h1, h2]
    · rw [if_pos (by simp [h2])]; simp [h2]
  · rw [if_pos (by simp [h1])]; simp [h1]
theorem r05_SameSpace.ok {a b : TSpace} (ha : spaceOk a = true) (hb : spaceOk b = true) : r05_SameSpace.f a b (eqSp a b) := by
  refine ⟨2, ?_⟩
  show r05_SameSpace.step (r05_SameSpace.fN 1) a b _
  unfold r05_SameSpace.step eqSp
  by_cases h1 : a.Tag = b.Tag
  · have hlen := space_tag ha hb h1
    have hm : a.Parts.length ≤ maxLen := by have := sp_len ha; unfold maxLen; omega
    by_cases h2 : a.Dim = b.Dim
    · rw [if_neg (by simp [h1, h2, hlen])]
      have key := each2Loop (l := a.Parts) (m := b.Parts) (b := r05_SameSpace.b1 (r05_SameSpace.fN 1) a b) eqSp1 false hlen (fun i i0 i1 => by
        have hq : r05_SameSpace.fN 1 (rdl a.Parts i) (rdl b.Parts i) (eqSp1 (rdl a.Parts i) (rdl b.Parts i)) := r05_SameSpace.flat (self := r05_SameSpace.fN 0) (sp_part ha i0 i1) (sp_part hb i0 (by omega))
        unfold r05_SameSpace.b1
        simp only [i1, if_true]
        exact ⟨fun ht => ⟨⟨i0, i1⟩, ⟨i0, by omega⟩, _, hq, by rw [ht, if_pos rfl, wrap_len hm i0 i1]⟩, fun ht => ⟨⟨i0, i1⟩, ⟨i0, by omega⟩, _, hq, by rw [ht]; simp⟩⟩) (fun i i0 i1 => by unfold r05_SameSpace.b1; simp only [i1, if_false])
      refine ⟨_, key, ?_⟩
      cases all2B eqSp1 a.Parts b.Parts <;> simp [Fin.on, h1, h2]
    · rw [if_pos (by simp [h2])]; simp [h2]
  · rw [if_pos (by simp [h1])]; simp [h1]
theorem aC_space {a : TAuto} (h : aC a = 0) : spaceOk a.Space = true := by
  unfold aC at h
  split at h
  · assumption
  · simp at h
/-- The code of a query. -/
def qC (p : TPds) (a : TAuto) : Int :=
  if pC p = 0 then (if aC a = 0 then (if (eqSp p.Space a.Space && ((a.Symbols == p.Symbols) && decide (a.States ≥ p.States))) = true then (if a.Trans.all (fun t => decide (t.Sym ≥ 0) && decide (t.To ≥ p.States)) = true then 0 else 140) else 140) else aC a) else pC p
theorem qhead (c : Bool) {p : TPds} {a : TAuto} : ((!c) || ((!(a.Symbols == p.Symbols)) || (decide (a.States < p.States)))) = !(c && ((a.Symbols == p.Symbols) && decide (a.States ≥ p.States))) := by
  cases c
  · rfl
  · rw [Bool.eq_iff_iff]; simp
theorem r14_Check.ok {p : TPds} {a : TAuto} (hp : p.Sized) (ha : a.Sized) : r14_Check.f p a (qC p a) := by
  refine ⟨_, r11_Check.ok hp, ?_⟩
  unfold qC
  by_cases h : pC p = 0
  · rw [if_pos h, if_pos h]
    refine ⟨_, r10_Check.ok ha, ?_⟩
    by_cases h2 : aC a = 0
    · rw [if_pos h2, if_pos h2]
      refine ⟨_, r05_SameSpace.ok (pC_ok h).1 (aC_space h2), ?_⟩
      rw [qhead]
      by_cases h3 : (eqSp p.Space a.Space && ((a.Symbols == p.Symbols) && decide (a.States ≥ p.States))) = true
      · rw [h3, if_neg (by simp), if_pos rfl]
        have key := eachLoop (l := a.Trans) (b := r14_Check.b1 p a) (fun t => decide (t.Sym ≥ 0) && decide (t.To ≥ p.States)) (140 : Int) (fun i i0 i1 => by
          unfold r14_Check.b1
          simp only [i1, if_true]
          refine ⟨fun ht => ⟨⟨i0, i1⟩, fun _ => ⟨i0, i1⟩, ?_⟩, fun ht => ⟨⟨i0, i1⟩, fun _ => ⟨i0, i1⟩, ?_⟩⟩
          · rw [if_neg (by simp at ht ⊢; omega), wrap_len ha.trans i0 i1]
          · rw [if_pos (by simp at ht ⊢; omega)]; trivial) (fun i i0 i1 => by unfold r14_Check.b1; simp only [i1, if_false])
        refine ⟨_, key, ?_⟩
        cases a.Trans.all (fun t => decide (t.Sym ≥ 0) && decide (t.To ≥ p.States)) <;> simp [Fin.on]
      · rw [Bool.eq_false_iff.2 h3]; simp
    · rw [if_neg h2, if_neg h2]
  · rw [if_neg h, if_neg h]
end Go.RM.Try
namespace Go.RM.Try
open Go.RM
set_option linter.unusedVariables false
set_option linter.unusedSimpArgs false
def mapI {α β : Type} (f : Int → α → β) : List α → Int → List β
  | [], _ => []
  | x :: l, i => f i x :: mapI f l (i + 1)
theorem mapI_get {α β : Type} (f : Int → α → β) : ∀ (l : List α) (i : Int) (k : Nat), (mapI f l i)[k]? = (l[k]?).map (f (i + k))
  | [], i, k => by simp [mapI]
  | x :: l, i, 0 => by simp [mapI]
  | x :: l, i, k + 1 => by
    simp only [mapI, List.getElem?_cons_succ]
    rw [mapI_get f l (i + 1) k, show i + 1 + (k : Int) = i + ((k + 1 : Nat) : Int) by simp; omega]
theorem mapI_len {α β : Type} (f : Int → α → β) : ∀ (l : List α) (i : Int), (mapI f l i).length = l.length
  | [], i => rfl
  | x :: l, i => by simp [mapI, mapI_len f l]
theorem foldG_mapI {α β : Type} (f : Int → α → β) : ∀ (l : List α) (i : Int) (acc : List β), foldG (fun i x acc => acc ++ [f i x]) l i acc = acc ++ mapI f l i
  | [], i, acc => by simp [foldG, mapI]
  | x :: l, i, acc => by
    show foldG _ l (i + 1) (acc ++ [f i x]) = _
    rw [foldG_mapI f l]; simp [mapI]
theorem mapI_rdl {α β : Type} [Inhabited α] [Inhabited β] (f : Int → α → β) {l : List α} {k : Int} (h0 : 0 ≤ k) (h1 : k < l.length) : rdl (mapI f l 0) k = f k (rdl l k) := by
  have a := rdl_get (l := l) h0 h1
  have b := rdl_get (l := mapI f l 0) h0 (by rw [mapI_len]; exact h1)
  rw [mapI_get, a] at b
  injection b with b
  rw [← b]; congr 1; omega
theorem mapI_mem {α β : Type} [Inhabited α] (f : Int → α → β) {l : List α} {z : β} (h : z ∈ mapI f l 0) : ∃ k : Int, 0 ≤ k ∧ k < l.length ∧ z = f k (rdl l k) := by
  obtain ⟨k, hk⟩ := List.getElem?_of_mem h
  rw [mapI_get] at hk
  cases hx : l[k]? with
  | none => rw [hx] at hk; cases hk
  | some x =>
    rw [hx] at hk
    injection hk with hk
    have hlt : k < l.length := by
      apply Nat.lt_of_not_le; intro hge; rw [List.getElem?_eq_none hge] at hx; cases hx
    have := rdl_get (l := l) (i := (k : Int)) (by omega) (by omega)
    rw [show ((k : Int)).toNat = k by simp, hx] at this
    injection this with this
    exact ⟨k, by omega, by omega, by rw [← hk, this]; simp⟩
/-- The states that are gone through. -/
def atN (st P : Int) (j : Int) : Int := if j = 0 then P else st + (j - 1)
def oneTr (one : TWeight) (st P : Int) (i : Int) (x : Int) : TTrans := ⟨atN st P i, x, st + i, one⟩
def oneA (p : TPds) (c : TConf) : TAuto := ⟨p.Space, p.States + c.W.length, p.Symbols, [atN p.States c.P c.W.length], mapI (oneTr (oneW p.Space) p.States c.P) c.W 0⟩
def noneA : TAuto := ⟨⟨0, 0, []⟩, 0, 0, [], []⟩
def oneAR (p : TPds) (c : TConf) : TAuto × Int := if confC p c = 0 then (if p.States + (c.W.length : Int) > 4096 then (noneA, 3) else (oneA p c, 0)) else (noneA, confC p c)
theorem atN_succ {st P i : Int} (h : 0 ≤ i) : atN st P (i + 1) = st + i := by unfold atN; rw [if_neg (by omega)]; omega
theorem slices_Clone_Space.ok {l : List TSpace} (h : l.length ≤ 1000) : slices_Clone_Space.f l l := by
  unfold slices_Clone_Space.f
  by_cases h0 : l.length = 0
  · rw [if_pos h0]
    have : l = [] := List.eq_nil_of_length_eq_zero h0
    subst this
    intro z k
    cases z <;> simp [Fits]
  · rw [if_neg h0]
    exact ⟨by unfold Fits; omega, rfl⟩
theorem confC_ok {p : TPds} {c : TConf} (h : confC p c = 0) : pC p = 0 ∧ 0 ≤ c.P ∧ c.P < p.States ∧ c.W.length ≤ 4096 ∧ ∀ g ∈ c.W, 0 ≤ g ∧ g < p.Symbols := by
  unfold confC at h
  split at h
  · rename_i hp
    split at h
    · rename_i hb
      unfold confB inB at hb
      simp only [Bool.and_eq_true, decide_eq_true_eq, List.all_eq_true] at hb
      exact ⟨hp, by omega, by omega, by omega, fun g hg => by have := hb.2.2 g hg; omega⟩
    · simp at h
  · rename_i hp; exact (hp h).elim
theorem query_One.ok {p : TPds} (h : p.Sized) {c : TConf} (hl : c.W.length ≤ 17592186044416) (hst : p.States ≤ 9000000000000000000 ∧ -9000000000000000000 ≤ p.States) : query_One.f p c (oneAR p c) := by
  refine ⟨_, steps_Check.ok h (by unfold maxLen; omega), ?_⟩
  unfold oneAR
  by_cases hc : confC p c = 0
  · rw [if_pos hc, if_pos hc, wrap64 (by omega) (by omega)]
    obtain ⟨hp, p0, p1, hw, hg⟩ := confC_ok hc
    obtain ⟨hs, _, s0, s1, _, _, _, _⟩ := pC_ok hp
    by_cases hm : p.States + (c.W.length : Int) > 4096
    · rw [if_pos hm, if_pos hm]; rfl
    · rw [if_neg hm, if_neg hm]
      have hcl := slices_Clone_Space.ok (l := p.Space.Parts) (by have := sp_len hs; omega)
      refine ⟨⟨p.Space, p.States, p.Symbols, [], []⟩, ⟨_, hcl, by rw [TSpace.eta]⟩, ?_⟩
      have hone : query_one.f p (oneW p.Space) := by
        have h1 := weight_One.ok (s := p.Space) h.parts
        unfold oneR at h1
        rw [if_pos hs] at h1
        exact ⟨_, h1, rfl⟩
      have key := (foldGLoop (l := c.W) (b := query_One.b1 p c) (fun i (acc : List TTrans) => (p.States + i, acc, atN p.States c.P i, i)) (fun acc => (p.States + (c.W.length : Int), acc, atN p.States c.P c.W.length)) (fun i x acc => acc ++ [oneTr (oneW p.Space) p.States c.P i x]) (fun i acc => (acc.length : Int) = i) (fun i acc i0 i1 hi => by
        refine ⟨?_, by simp; omega⟩
        unfold query_One.b1
        simp only [i1, if_true]
        refine ⟨⟨i0, i1⟩, _, hone, by unfold Fits; omega, ?_⟩
        rw [wrap64 (by omega) (by omega), wrap64 (by omega) (by omega), atN_succ i0]
        simp only [oneTr, Int.add_assoc]) (fun acc hacc => by unfold query_One.b1; simp) [] rfl).1
      rw [foldG_mapI] at key
      have e0 : atN p.States c.P 0 = c.P := by simp [atN]
      rw [e0, Int.add_zero] at key
      refine ⟨_, key, ?_⟩
      simp [Fin.on, oneA]
  · rw [if_neg hc, if_neg hc]; rfl
theorem r14_One.ok {p : TPds} (h : p.Sized) {c : TConf} (hl : c.W.length ≤ 17592186044416) (hst : p.States ≤ 9000000000000000000 ∧ -9000000000000000000 ≤ p.States) : r14_One.f p c (oneAR p c) := by
  refine ⟨_, r12_Check.ok h (by unfold maxLen; omega), ?_⟩
  unfold oneAR
  by_cases hc : confC p c = 0
  · rw [if_pos hc, if_pos hc, wrap64 (by omega) (by omega)]
    obtain ⟨hp, p0, p1, hw, hg⟩ := confC_ok hc
    obtain ⟨hs, _, s0, s1, _, _, _, _⟩ := pC_ok hp
    by_cases hm : p.States + (c.W.length : Int) > 4096
    · rw [if_pos hm, if_pos hm]; rfl
    · rw [if_neg hm, if_neg hm]
      have key := (foldGLoop (l := c.W) (b := r14_One.b1 p c) (fun i (acc : List TTrans) => (acc, atN p.States c.P i, i)) (fun acc => (acc, atN p.States c.P c.W.length)) (fun i x acc => acc ++ [oneTr (oneW p.Space) p.States c.P i x]) (fun i acc => (acc.length : Int) = i) (fun i acc i0 i1 hi => by
        refine ⟨?_, by simp; omega⟩
        unfold r14_One.b1
        simp only [i1, if_true]
        refine ⟨⟨i0, i1⟩, _, r10_One.ok hs h.parts, by unfold Fits; omega, ?_⟩
        rw [wrap64 (by omega) (by omega), wrap64 (by omega) (by omega), atN_succ i0]
        rfl) (fun acc hacc => by unfold r14_One.b1; simp) [] rfl).1
      rw [foldG_mapI] at key
      have e0 : atN p.States c.P 0 = c.P := by simp [atN]
      rw [e0] at key
      refine ⟨_, key, ?_⟩
      simp [Fin.on, oneA]
  · rw [if_neg hc, if_neg hc]; rfl
theorem TPds.Fit.sized {p : TPds} (h : p.Fit) : p.Sized where
  parts := by have hs := h.1; cases hs with | mk _ h0 h1 h2 h3 h4 => exact h3
  rules := by have := h.2.2.2.1; omega
  words := fun r hr => (h.2.2.2.2.2 r hr).2.2.2.1.2.1
  weights := fun r hr => (h.2.2.2.2.2 r hr).2.2.2.2.sized2
theorem TAuto.Fit.sized {a : TAuto} (h : a.Fit) : a.Sized where
  parts := by have hs := h.1; cases hs with | mk _ h0 h1 h2 h3 h4 => exact h3
  final := h.2.2.2.1.2.1
  trans := h.2.2.2.2.2.1
  weights := fun t ht => (h.2.2.2.2.2.2 t ht).2.2.2.sized2
/-- The system of the example. -/
def pE : TPds := ⟨⟨2, 9, []⟩, 2, 3, [⟨0, 1, 0, [2, 1], ⟨false, 1, ⟨0, []⟩, [], []⟩⟩, ⟨0, 2, 1, [], ⟨false, 1, ⟨0, []⟩, [], []⟩⟩]⟩
theorem pE_sized : pE.Sized := by
  refine ⟨by simp [pE], by simp [pE], ?_, ?_⟩
  · intro r hr; simp [pE] at hr; rcases hr with rfl | rfl <;> simp [maxLen]
  · intro r hr; simp [pE] at hr; rcases hr with rfl | rfl <;> exact ⟨⟨by simp, by simp, by simp⟩, by simp⟩
theorem pE_one : oneAR pE ⟨1, [0, 2]⟩ = (⟨⟨2, 9, []⟩, 4, 3, [3], [⟨1, 0, 2, noneW⟩, ⟨2, 2, 3, noneW⟩]⟩, 0) := by rfl
theorem l14_awake.ok : l14_awake.f true := by
  have h := query_One.ok pE_sized (c := ⟨1, [0, 2]⟩) (by simp) ⟨by simp [pE], by simp [pE]⟩
  rw [pE_one] at h
  refine ⟨_, rfl, _, h, ?_⟩
  simp [rdl, InR]
end Go.RM.Try
namespace Go.RM.Try
open Go.RM
set_option linter.unusedVariables false
set_option linter.unusedSimpArgs false
/-- One at one place, zero elsewhere. -/
def indR (o z : TWeight) (k : Int) (N : Nat) : List TWeight := (upto N).map (fun s => if s = k then o else z)
theorem indR_len (o z : TWeight) (k : Int) (N : Nat) : (indR o z k N).length = N := by simp [indR, upto]
theorem indR_rdl {o z : TWeight} {k s : Int} {N : Nat} (h0 : 0 ≤ s) (h1 : s < N) : rdl (indR o z k N) s = if s = k then o else z := by
  have a := rdl_get (l := indR o z k N) h0 (by rw [indR_len]; exact h1)
  unfold indR at a
  rw [List.getElem?_map, upto_get, if_pos (by omega)] at a
  injection a with a
  unfold indR
  rw [← a, Int.toNat_of_nonneg h0]
theorem setl_same {α : Type} [Inhabited α] {l : List α} {i : Int} (h0 : 0 ≤ i) (h1 : i < l.length) : setl l i (rdl l i) = l := by
  unfold setl
  have := rdl_get h0 h1
  have hlt : i.toNat < l.length := by omega
  rw [List.getElem?_eq_getElem hlt] at this
  injection this with this
  rw [← this, List.set_getElem_self]
theorem setl_ind {o z : TWeight} {k : Int} {N : Nat} (h0 : 0 ≤ k) : setl (indR o z (-1) N) k o = indR o z k N := by
  apply List.ext_getElem?
  intro j
  unfold setl indR
  rw [List.getElem?_set]
  simp only [List.getElem?_map, upto_get, List.length_map, upto_len]
  by_cases hj : k.toNat = j
  · rw [if_pos hj]
    by_cases hN : j < N
    · rw [if_pos (by omega), if_pos hN]
      simp; omega
    · rw [if_neg (by omega), if_neg hN]; rfl
  · rw [if_neg hj]
    by_cases hN : j < N
    · rw [if_pos hN]
      simp only [Option.map_some, Option.some.injEq]
      rw [if_neg (by omega), if_neg (by omega)]
    · rw [if_neg hN]; rfl
theorem either_zero_r {s : TSpace} {w : TWeight} (hs : spaceOk s = true) (h : isW s w = true) : eitherW s w (zeroS s) = w := by
  have h1 : ∀ {t : TSpace} {x : TWeight}, spaceOk1 t = true → isW1 t x = true → eitherW1 t x zeroW = x := fun {t x} ht hx => by
    unfold eitherW1
    by_cases hz : x.Zero = true
    · rw [if_pos hz]
      rcases isW1_cases ht hx with k | k | k | k | k
      · exact k.symm
      · rw [k.2] at hz; simp [noneW] at hz
      · rw [k.2.1] at hz; simp at hz
      · rw [k.2.1] at hz; simp at hz
      · rw [k.2.1] at hz; simp at hz
    · rw [if_neg hz, if_pos (show zeroW.Zero = true from rfl)]
  unfold eitherW zeroS
  by_cases h5 : s.Tag = 5
  · obtain ⟨p0, p1, _⟩ := space_p0 hs h5
    obtain ⟨x, y, rfl, hx, hy⟩ := isW_pair h5 h
    rw [if_pos h5, if_pos h5]
    simp [rdl0, rdl1, h1 p0 hx, h1 p1 hy]
  · rw [if_neg h5, if_neg h5]
    rw [isW_ne h5] at h
    exact h1 (by rw [← spaceOk_ne h5]; exact hs) h
/-- Without steps that read nothing, nothing is added. -/
theorem r10_still.ok {a : TAuto} {back : Bool} {l : List TWeight} (hl : a.Trans.length ≤ maxLen) (h : ∀ t ∈ a.Trans, t.Sym ≥ 0) : r10_still.f a back false l l := by
  have inner : Loop (r10_still.b2 a back false) (l, false, 0) (.go (l, false)) := by
    have key := Loop.of (b := r10_still.b2 a back false) (fun _ => .go (l, false)) (fun s => ((a.Trans.length : Int) - s.2.2).toNat) (fun s => 0 ≤ s.2.2 ∧ s.1 = l ∧ s.2.1 = false) (fun s hi => by
      obtain ⟨x, c, i⟩ := s
      obtain ⟨h0, rfl, rfl⟩ := hi
      simp only at h0
      by_cases hlt : i < (a.Trans.length : Int)
      · refine .inl ⟨(x, false, i + 1), ?_, by simp; omega, ⟨by simp; omega, rfl, rfl⟩, rfl⟩
        unfold r10_still.b2 r10_still.j1
        simp only [hlt, if_true]
        refine ⟨⟨h0, hlt⟩, ?_⟩
        rw [if_pos (by have := h _ (rdl_mem h0 hlt); simp; omega), wrap_len hl h0 hlt]
      · refine .inr (.inl ⟨(x, false), ?_, rfl⟩)
        unfold r10_still.b2; simp only [hlt, if_false]) (l, false, 0) ⟨Int.le_refl 0, rfl, rfl⟩
    exact key
  refine ⟨.go l, .next (s' := (l, false)) ?_ (.exit ?_), rfl⟩
  · unfold r10_still.b1
    simp only [if_true]
    exact ⟨_, inner, rfl⟩
  · unfold r10_still.b1; simp
theorem r10_final.ok {a : TAuto} (hl : a.Final.length ≤ maxLen) (s : Int) : r10_final.f a s (!a.Final.all (fun x => decide (x ≠ s))) := by
  have key := eachLoop (l := a.Final) (b := r10_final.b1 a s) (fun x => decide (x ≠ s)) true (fun i i0 i1 => by
    unfold r10_final.b1
    simp only [i1, if_true]
    refine ⟨fun ht => ⟨⟨i0, i1⟩, ?_⟩, fun ht => ⟨⟨i0, i1⟩, ?_⟩⟩
    · rw [if_neg (by simpa using ht), wrap_len hl i0 i1]
    · rw [if_pos (by simpa using ht)]; trivial) (fun i i0 i1 => by unfold r10_final.b1; simp only [i1, if_false])
  refine ⟨_, key, ?_⟩
  cases a.Final.all (fun x => decide (x ≠ s)) <;> simp [Fin.on]
theorem r10_ends_o0.ok {a : TAuto} {f : Int} (hs : spaceOk a.Space = true) (hp : a.Space.Parts.length ≤ maxLen) (hF : a.Final = [f]) (h0 : 0 ≤ a.States) (h1 : a.States ≤ 1000000) : r10_ends_o0.f a (indR (oneW a.Space) (zeroS a.Space) f a.States.toNat) := by
  have key := (countLoop (n := a.States) (b := r10_ends_o0.b1 a) (fun i l => (l, i)) id (fun i acc => .go (acc ++ [if i = f then oneW a.Space else zeroS a.Space])) (fun i l => (l.length : Int) = i) (fun i l i0 i1 hi => by
    refine ⟨?_, by simp; omega⟩
    unfold r10_ends_o0.b1 r10_ends_o0.j1
    simp only [i1, if_true]
    refine ⟨_, r10_final.ok (by rw [hF]; simp [maxLen]) i, ?_⟩
    rw [hF, wrap64 (by omega) (by omega)]
    by_cases hif : i = f
    · subst hif
      rw [if_pos (by simp), if_pos rfl]
      exact ⟨_, r10_One.ok hs hp, by unfold Fits; omega, rfl⟩
    · rw [if_neg (by simp; omega), if_neg hif]
      exact ⟨_, r10_Zero.ok hs hp, by unfold Fits; omega, rfl⟩) (fun l hl => by unfold r10_ends_o0.b1; simp) [] h0 rfl).1
  rw [countF_app] at key
  refine ⟨_, key, ?_⟩
  show indR _ _ _ _ = id _
  simp [indR]
/-- Where the symbol is read that leads to a state. -/
def tgt (p : TPds) (c : TConf) (k g : Int) : Int := if p.States ≤ k ∧ k < p.States + c.W.length ∧ rdl c.W (k - p.States) = g then atN p.States c.P (k - p.States) else -1
theorem oneA_trans {p : TPds} {c : TConf} {t : TTrans} (h : t ∈ (oneA p c).Trans) : ∃ k : Int, 0 ≤ k ∧ k < c.W.length ∧ t = oneTr (oneW p.Space) p.States c.P k (rdl c.W k) := mapI_mem _ h
theorem atN_bound {st P : Int} {n : Nat} (hP : 0 ≤ P) (hP2 : P < st) {j : Int} (h0 : 0 ≤ j) (h1 : j ≤ n) : 0 ≤ atN st P j ∧ atN st P j < st + n := by
  unfold atN; split <;> omega
theorem r10_rest_o0.ok {p : TPds} {c : TConf} (hc : confC p c = 0) (hp : p.Space.Parts.length ≤ maxLen) (g k : Int) :
    r10_rest_o0.f (oneA p c) false g (indR (oneW p.Space) (zeroS p.Space) k (oneA p c).States.toNat) (indR (oneW p.Space) (zeroS p.Space) (tgt p c k g) (oneA p c).States.toNat) := by
  obtain ⟨hpc, p0, p1, hw, hg⟩ := confC_ok hc
  obtain ⟨hs, _, s0, s1, _, _, _, _⟩ := pC_ok hpc
  have hS : (oneA p c).States = p.States + c.W.length := rfl
  have hN0 : 0 ≤ (oneA p c).States := by omega
  have hT : ((oneA p c).Trans.length : Int) = c.W.length := by simp [oneA, mapI_len]
  have hTl : (oneA p c).Trans.length ≤ maxLen := by unfold maxLen; omega
  have hz := zeroS_ok hs
  have ho := oneW_ok hs
  have wz : ∀ q : Prop, ∀ [Decidable q], isW p.Space (if q then oneW p.Space else zeroS p.Space) = true ∧ Rng (if q then oneW p.Space else zeroS p.Space) := fun q _ => by
    by_cases h : q
    · rw [if_pos h]; exact ho
    · rw [if_neg h]; exact hz
  have key1 := (countLoop (n := (oneA p c).States) (b := r10_rest_o0.b1 (oneA p c)) (fun i l => (l, i)) id (fun i acc => .go (acc ++ [zeroS p.Space])) (fun i l => (l.length : Int) = i) (fun i l i0 i1 hi => by
    refine ⟨?_, by simp; omega⟩
    unfold r10_rest_o0.b1
    simp only [i1, if_true]
    exact ⟨_, r10_Zero.ok hs hp, by unfold Fits; omega, by rw [wrap64 (by omega) (by omega)]; rfl⟩) (fun l hl => by unfold r10_rest_o0.b1; simp) [] hN0 rfl).1
  rw [countF_app] at key1
  have e1 : ([] ++ (upto (oneA p c).States.toNat).map (fun j => zeroS p.Space) : List TWeight) = indR (oneW p.Space) (zeroS p.Space) (-1) (oneA p c).States.toNat := by
    simp only [List.nil_append, indR]
    refine List.map_congr_left fun s hs => ?_
    have := upto_mem hs
    rw [if_neg (by omega)]
  rw [e1] at key1
  refine ⟨_, key1, ?_⟩
  have key2 := Loop.of (b := r10_rest_o0.b2 (oneA p c) false g (indR (oneW p.Space) (zeroS p.Space) k (oneA p c).States.toNat)) (fun _ => .go (indR (oneW p.Space) (zeroS p.Space) (tgt p c k g) (oneA p c).States.toNat)) (fun s => (((oneA p c).Trans.length : Int) - s.2).toNat)
    (fun s => 0 ≤ s.2 ∧ s.2 ≤ c.W.length ∧ s.1 = indR (oneW p.Space) (zeroS p.Space) (if k - p.States < s.2 then tgt p c k g else -1) (oneA p c).States.toNat) (fun s hi => by
    obtain ⟨l, i⟩ := s
    obtain ⟨h0, hle, hl0⟩ := hi
    simp only at h0 hle
    have hl1 : l = indR (oneW p.Space) (zeroS p.Space) (if k - p.States < i then tgt p c k g else -1) (oneA p c).States.toNat := hl0
    clear hl0
    subst hl1
    by_cases h : i < ((oneA p c).Trans.length : Int)
    · have hi2 : i < c.W.length := by omega
      have hr : rdl (oneA p c).Trans i = oneTr (oneW p.Space) p.States c.P i (rdl c.W i) := mapI_rdl _ h0 hi2
      have hb := atN_bound (n := c.W.length) p0 p1 h0 (show i ≤ c.W.length by omega)
      have hTo : 0 ≤ p.States + i ∧ p.States + i < (oneA p c).States.toNat := by omega
      have hFr : 0 ≤ atN p.States c.P i ∧ atN p.States c.P i < (oneA p c).States.toNat := by omega
      by_cases hsym : rdl c.W i = g
      · -- a step by this symbol
        have ev : ∀ k', r10_Ext.f (oneA p c).Space false (oneW p.Space) (rdl (indR (oneW p.Space) (zeroS p.Space) k (oneA p c).States.toNat) (p.States + i)) (if p.States + i = k then oneW p.Space else zeroS p.Space) ∧
            r05_Either.f (oneA p c).Space (rdl (indR (oneW p.Space) (zeroS p.Space) k' (oneA p c).States.toNat) (atN p.States c.P i)) (if p.States + i = k then oneW p.Space else zeroS p.Space) (eitherW p.Space (if atN p.States c.P i = k' then oneW p.Space else zeroS p.Space) (if p.States + i = k then oneW p.Space else zeroS p.Space)) := fun k' => by
          constructor
          · rw [indR_rdl hTo.1 hTo.2]
            have hx := r10_Ext.ok (s := p.Space) false hs ho.1 (wz (p.States + i = k)).1 ho.2 (wz (p.States + i = k)).2
            rw [if_neg Bool.false_ne_true, (then_one hs (wz (p.States + i = k)).1 (wz (p.States + i = k)).2).2] at hx
            exact hx
          · rw [indR_rdl hFr.1 hFr.2]
            exact r05_Either.ok hs (wz _).1 (wz _).1 (wz _).2 (wz _).2
        refine .inl ⟨(setl (indR (oneW p.Space) (zeroS p.Space) (if k - p.States < i then tgt p c k g else -1) (oneA p c).States.toNat) (atN p.States c.P i) (eitherW p.Space (if atN p.States c.P i = (if k - p.States < i then tgt p c k g else -1) then oneW p.Space else zeroS p.Space) (if p.States + i = k then oneW p.Space else zeroS p.Space)), i + 1), ?_, by simp; omega, ⟨by simp; omega, by simp; omega, ?_⟩, rfl⟩
        · have e2 := ev (if k - p.States < i then tgt p c k g else -1)
          unfold r10_rest_o0.b2 r10_rest_o0.j1
          simp only [h, if_true, hr, oneTr, hsym]
          exact ⟨⟨h0, h⟩, ⟨hFr.1, by rw [indR_len]; exact hFr.2⟩, ⟨hTo.1, by rw [indR_len]; exact hTo.2⟩, _, e2.1, _, e2.2, ⟨hFr.1, by rw [indR_len]; exact hFr.2⟩, by rw [wrap_len hTl h0 h]⟩
        · simp only
          by_cases hk : p.States + i = k
          · rw [if_pos hk, if_neg (show ¬ k - p.States < i by omega), if_pos (show k - p.States < i + 1 by omega), if_neg (by omega), either_zero hs ho.1, setl_ind hFr.1]
            unfold tgt
            rw [if_pos ⟨by omega, by omega, by rw [show k - p.States = i by omega]; exact hsym⟩, show k - p.States = i by omega]
          · rw [if_neg hk]
            have e3 : (if k - p.States < i then tgt p c k g else -1) = (if k - p.States < i + 1 then tgt p c k g else -1) := by
              by_cases h9 : k - p.States < i
              · rw [if_pos h9, if_pos (by omega)]
              · rw [if_neg h9, if_neg (by omega)]
            rw [e3, either_zero_r hs (wz (atN p.States c.P i = (if k - p.States < i + 1 then tgt p c k g else -1))).1, ← indR_rdl (o := oneW p.Space) (z := zeroS p.Space) hFr.1 hFr.2, setl_same hFr.1 (by rw [indR_len]; exact hFr.2)]
      · refine .inl ⟨(indR (oneW p.Space) (zeroS p.Space) (if k - p.States < i then tgt p c k g else -1) (oneA p c).States.toNat, i + 1), ?_, by simp; omega, ⟨by simp; omega, by simp; omega, ?_⟩, rfl⟩
        · unfold r10_rest_o0.b2 r10_rest_o0.j1
          simp only [h, if_true, hr, oneTr, hsym, if_false]
          exact ⟨⟨h0, h⟩, by rw [wrap_len hTl h0 h]⟩
        · simp only
          by_cases h9 : k - p.States < i
          · rw [if_pos h9, if_pos (by omega)]
          · rw [if_neg h9]
            by_cases h10 : k - p.States < i + 1
            · rw [if_pos h10]
              have : k - p.States = i := by omega
              unfold tgt
              rw [if_neg (by rw [this]; intro hh; exact hsym hh.2.2)]
            · rw [if_neg h10]
    · refine .inr (.inl ⟨indR (oneW p.Space) (zeroS p.Space) (if k - p.States < i then tgt p c k g else -1) (oneA p c).States.toNat, ?_, ?_⟩)
      · unfold r10_rest_o0.b2; simp only [h, if_false]
      · have hi9 : i = c.W.length := by omega
        subst hi9
        by_cases h9 : k - p.States < c.W.length
        · rw [if_pos h9]
        · rw [if_neg h9]
          congr 2
          unfold tgt
          rw [if_neg (by omega)]) (indR (oneW p.Space) (zeroS p.Space) (-1) (oneA p c).States.toNat, 0) ⟨Int.le_refl 0, by simp, by
      simp only
      by_cases h9 : k - p.States < 0
      · rw [if_pos h9]; unfold tgt; rw [if_neg (by omega)]
      · rw [if_neg h9]⟩
  exact ⟨_, key2, rfl⟩
end Go.RM.Try
namespace Go.RM.Try
open Go.RM
set_option linter.unusedVariables false
set_option linter.unusedSimpArgs false
/-- From which state a word is read to the end; below 0: from none. -/
def tgW (p : TPds) (c : TConf) : List Int → Int
  | [] => atN p.States c.P c.W.length
  | g :: l => tgt p c (tgW p c l) g
theorem tgW_at {p : TPds} {c : TConf} (hc : confC p c = 0) : ∀ w : List Int, tgW p c w = -1 ∨ ∃ j : Nat, j ≤ c.W.length ∧ tgW p c w = atN p.States c.P j ∧ w = c.W.drop j
  | [] => .inr ⟨c.W.length, Nat.le_refl _, rfl, by simp⟩
  | g :: l => by
    obtain ⟨hpc, p0, p1, hw, hg⟩ := confC_ok hc
    unfold tgW tgt
    by_cases h : p.States ≤ tgW p c l ∧ tgW p c l < p.States + c.W.length ∧ rdl c.W (tgW p c l - p.States) = g
    · rw [if_pos h]
      obtain ⟨h1, h2, h3⟩ := h
      rcases tgW_at hc l with e | ⟨j, hj, e, hl⟩
      · rw [e] at h1; omega
      · have hj0 : j ≠ 0 := by intro h0; subst h0; rw [e] at h1; simp [atN] at h1; omega
        have ej : tgW p c l - p.States = ((j - 1 : Nat) : Int) := by rw [e]; unfold atN; rw [if_neg (by omega)]; omega
        rw [ej] at h3 ⊢
        refine .inr ⟨j - 1, by omega, rfl, ?_⟩
        have hd := drop_rdl (l := c.W) (i := ((j - 1 : Nat) : Int)) (by omega) (by omega)
        rw [h3, show (((j - 1 : Nat) : Int) + 1).toNat = j by omega, show (((j - 1 : Nat) : Int)).toNat = j - 1 by omega] at hd
        rw [hd, ← hl]
    · rw [if_neg h]; exact .inl rfl
theorem tgW_own {p : TPds} {c : TConf} (hc : confC p c = 0) : ∀ (k j : Nat), j + k = c.W.length → tgW p c (c.W.drop j) = atN p.States c.P j
  | 0, j, h => by
    have : j = c.W.length := by omega
    subst this
    simp [tgW]
  | k + 1, j, h => by
    have hd := drop_rdl (l := c.W) (i := (j : Int)) (by omega) (by omega)
    simp only [Int.toNat_natCast] at hd
    rw [hd]
    have ih := tgW_own hc k (j + 1) (by omega)
    rw [show ((j : Int) + 1).toNat = j + 1 by omega]
    unfold tgW tgt
    rw [ih]
    have e : atN p.States c.P ((j + 1 : Nat) : Int) - p.States = j := by unfold atN; rw [if_neg (by omega)]; omega
    have e2 : atN p.States c.P ((j + 1 : Nat) : Int) = p.States + j := by omega
    rw [e, e2, if_pos ⟨by omega, by omega, rfl⟩]
theorem oneA_ok {p : TPds} {c : TConf} (hc : confC p c = 0) (hm : p.States + (c.W.length : Int) ≤ 4096) : aC (oneA p c) = 0 ∧ ∀ t ∈ (oneA p c).Trans, t.Sym ≥ 0 ∧ t.To ≥ p.States ∧ t.W = oneW p.Space := by
  obtain ⟨hpc, p0, p1, hw, hg⟩ := confC_ok hc
  obtain ⟨hs, _, s0, s1, y0, y1, _, _⟩ := pC_ok hpc
  have hN : (oneA p c).States = p.States + c.W.length := rfl
  have hall : ∀ t ∈ (oneA p c).Trans, t.Sym ≥ 0 ∧ t.To ≥ p.States ∧ t.W = oneW p.Space := fun t ht => by
    obtain ⟨k, k0, k1, rfl⟩ := oneA_trans ht
    exact ⟨(hg _ (rdl_mem k0 k1)).1, by simp [oneTr]; omega, rfl⟩
  refine ⟨?_, hall⟩
  have hF := atN_bound (n := c.W.length) p0 p1 (show (0 : Int) ≤ c.W.length by omega) (Int.le_refl _)
  unfold aC
  rw [show (oneA p c).Space = p.Space from rfl, if_pos hs, if_neg (by simp [oneA, mapI_len]; omega)]
  rw [if_neg (by rw [hN, show (oneA p c).Symbols = p.Symbols from rfl]; simp; omega)]
  rw [if_pos (by rw [hN]; simp [oneA, finB, inB]; omega)]
  rw [if_pos (by
    rw [List.all_eq_true]
    intro t ht
    obtain ⟨k, k0, k1, rfl⟩ := oneA_trans ht
    have hb := atN_bound (n := c.W.length) p0 p1 k0 (show k ≤ c.W.length by omega)
    have := hg _ (rdl_mem k0 k1)
    have hN2 : (oneA p c).Symbols = p.Symbols := rfl
    unfold transB inB
    rw [hN, hN2]
    simp only [oneTr]
    refine Bool.and_eq_true_iff.2 ⟨Bool.and_eq_true_iff.2 ⟨decide_eq_true (by omega), decide_eq_true (by omega)⟩, Bool.and_eq_true_iff.2 ⟨Bool.and_eq_true_iff.2 ⟨decide_eq_true (by omega), decide_eq_true (by omega)⟩, Bool.and_eq_true_iff.2 ⟨decide_eq_true (by omega), decide_eq_true (by omega)⟩⟩⟩)]
  rw [if_pos (by
    rw [List.all_eq_true]
    intro t ht
    rw [(hall t ht).2.2]
    exact (oneW_ok hs).1)]
theorem oneA_sized {p : TPds} {c : TConf} (h : p.Sized) (hc : confC p c = 0) : (oneA p c).Sized := by
  obtain ⟨hpc, p0, p1, hw, hg⟩ := confC_ok hc
  obtain ⟨hs, _⟩ := pC_ok hpc
  refine ⟨h.parts, by simp [oneA, maxLen], by simp [oneA, mapI_len, maxLen]; omega, fun t ht => ?_⟩
  obtain ⟨k, _, _, rfl⟩ := oneA_trans ht
  exact (oneW_flat hs).1
theorem r10_asked.ok {a : TAuto} (ha : a.Sized) (h0 : aC a = 0) {s : Int} (hs : inB s a.States = true) {w : List Int} (hl : w.length ≤ maxLen) (hw : ∀ g ∈ w, 0 ≤ g ∧ g < a.Symbols) : r10_asked.f a [s] w 0 := by
  have hc := r10_Check.ok ha
  rw [h0] at hc
  refine ⟨_, hc, ?_⟩
  rw [if_pos rfl]
  have key1 := eachLoop (l := [s]) (b := r10_asked.b1 a [s]) (fun _ => true) (101 : Int) (fun i i0 i1 => by
    unfold r10_asked.b1
    simp only [i1, if_true]
    have : rdl [s] i = s := by
      have : i = 0 := by simp at i1; omega
      subst this; rfl
    exact ⟨fun _ => ⟨⟨i0, i1⟩, _, r10_State.ok _ _, by rw [this, hs, if_pos rfl, wrap_len (l := [s]) (by simp [maxLen]) i0 i1]⟩, fun ht => (by cases ht)⟩) (fun i i0 i1 => by unfold r10_asked.b1; simp only [i1, if_false])
  refine ⟨_, key1, ?_⟩
  rw [if_pos (by simp)]
  have key2 := eachLoop (l := w) (b := r10_asked.b2 a w) (fun _ => true) (102 : Int) (fun i i0 i1 => by
    unfold r10_asked.b2
    simp only [i1, if_true]
    have := hw _ (rdl_mem i0 i1)
    exact ⟨fun _ => ⟨⟨i0, i1⟩, fun _ => ⟨i0, i1⟩, by rw [if_neg (by simp; omega), wrap_len hl i0 i1]⟩, fun ht => (by cases ht)⟩) (fun i i0 i1 => by unfold r10_asked.b2; simp only [i1, if_false])
  refine ⟨_, key2, ?_⟩
  rw [if_pos (by simp)]
  rfl
/-- What a configuration is worth. -/
theorem value_one {p : TPds} {c d : TConf} (h : p.Sized) (hc : confC p c = 0) (hd : confC p d = 0) (hm : p.States + (c.W.length : Int) ≤ 4096) : r10_Value.f (oneA p c) false d.P d.W (if d.P = tgW p c d.W then oneW p.Space else zeroS p.Space, 0) := by
  obtain ⟨hpc, p0, p1, hw, hg⟩ := confC_ok hc
  obtain ⟨_, q0, q1, hv, hu⟩ := confC_ok hd
  obtain ⟨hs, _, s0, s1, y0, y1, _, _⟩ := pC_ok hpc
  have hA := oneA_ok hc hm
  have hN : (oneA p c).States = p.States + c.W.length := rfl
  have hsz := oneA_sized h hc
  have hdl : d.W.length ≤ maxLen := by unfold maxLen; omega
  have hst : ∀ l, r10_still.f (oneA p c) false false l l := fun l => r10_still.ok hsz.trans (fun t ht => (hA.2 t ht).1)
  refine ⟨_, r10_asked.ok hsz hA.1 (by rw [hN]; simp [inB]; omega) hdl hu, ?_⟩
  rw [if_pos rfl]
  have hend := r10_ends_o0.ok (a := oneA p c) (f := atN p.States c.P c.W.length) hs h.parts rfl (by omega) (by omega)
  refine ⟨_, hend, _, hst _, ?_⟩
  have key := Loop.of (b := r10_Value.b1 (oneA p c) false d.W) (fun _ => .go (indR (oneW p.Space) (zeroS p.Space) (tgW p c d.W) (oneA p c).States.toNat)) (fun s => (s.2 + 1).toNat) (fun s => -1 ≤ s.2 ∧ s.2 < d.W.length ∧ s.1 = indR (oneW p.Space) (zeroS p.Space) (tgW p c (d.W.drop (s.2 + 1).toNat)) (oneA p c).States.toNat) (fun s hi => by
    obtain ⟨l, i⟩ := s
    obtain ⟨h0, h1, h2⟩ := hi
    simp only at h0 h1 h2
    by_cases hge : i ≥ 0
    · refine .inl ⟨(indR (oneW p.Space) (zeroS p.Space) (tgW p c (d.W.drop i.toNat)) (oneA p c).States.toNat, i - 1), ?_, by simp; omega, ⟨by simp; omega, by simp; omega, by simp⟩, rfl⟩
      unfold r10_Value.b1
      simp only [hge, if_true]
      have hr := r10_rest_o0.ok hc h.parts (rdl d.W i) (tgW p c (d.W.drop (i + 1).toNat))
      have e : tgt p c (tgW p c (d.W.drop (i + 1).toNat)) (rdl d.W i) = tgW p c (d.W.drop i.toNat) := by
        rw [drop_rdl hge h1]; rfl
      rw [e] at hr
      rw [h2]
      exact ⟨⟨hge, h1⟩, _, hr, _, hst _, by rw [wrap64 (by omega) (by omega)]⟩
    · refine .inr (.inl ⟨l, ?_, ?_⟩)
      · unfold r10_Value.b1; simp only [hge, if_false]
      · have : i = -1 := by omega
        subst this
        rw [h2]; simp) (indR (oneW p.Space) (zeroS p.Space) (atN p.States c.P c.W.length) (oneA p c).States.toNat, (d.W.length : Int) - 1) ⟨by simp; omega, by simp; omega, by
      simp only
      rw [show ((d.W.length : Int) - 1 + 1).toNat = d.W.length by omega, List.drop_length]; rfl⟩
  rw [wrap64 (by omega) (by omega)]
  refine ⟨_, key, ?_⟩
  simp only [Fin.on]
  refine ⟨⟨q0, by rw [indR_len]; omega⟩, ?_⟩
  rw [indR_rdl q0 (by omega)]
def eqConf (c d : TConf) : Bool := (c.P == d.P) && decide (c.W = d.W)
theorem r12_Same.ok {c d : TConf} (hl : c.W.length ≤ maxLen) : r12_Same.f c d (eqConf c d) := by
  unfold r12_Same.f eqConf
  by_cases hP : c.P = d.P
  · by_cases h : (c.W.length : Int) = d.W.length
    · rw [if_neg (by simp [hP, h])]
      refine ⟨_, eqRound hl (by omega) rfl, ?_⟩
      simp only [hP, beq_self_eq_true, Bool.true_and]
      exact eqOn
    · rw [if_pos (by simp [h])]
      have : c.W ≠ d.W := fun e => h (by rw [e])
      simp [this]
  · rw [if_pos (by simp [hP])]; simp [hP]
theorem zero_flat (s : TSpace) : Flat (zeroS s) := by
  have hz : zeroW.Sized := ⟨by simp [zeroW], by simp [zeroW], by simp [zeroW]⟩
  unfold zeroS
  split
  · refine ⟨⟨⟨by simp, by simp, by simp⟩, ?_⟩, ?_⟩
    · intro p hm; simp at hm; subst hm; exact hz
    · intro p hm; simp at hm; subst hm; rfl
  · exact ⟨⟨hz, by simp [zeroW]⟩, by simp [zeroW]⟩
theorem r10_Same.refl {a : TAuto} (hs : r05_SameSpace.f a.Space a.Space true) (hf : a.Final.length ≤ maxLen) (ht : a.Trans.length ≤ maxLen) (hw : ∀ t ∈ a.Trans, Flat t.W) : r10_Same.f a a true := by
  refine ⟨_, hs, ?_⟩
  rw [if_neg (by simp)]
  refine ⟨_, eqRound hf rfl rfl, ?_⟩
  rw [if_pos rfl]
  have key := eachLoop (l := a.Trans) (b := r10_Same.b2 a a) (fun _ => true) false (fun i i0 i1 => by
    unfold r10_Same.b2
    simp only [i1, if_true]
    refine ⟨fun _ => ⟨⟨i0, i1⟩, ⟨i0, i1⟩, _, fun _ _ _ => r05_Same.refl (hw _ (rdl_mem i0 i1)), ?_⟩, fun h => (by cases h)⟩
    rw [if_neg (by simp), wrap_len ht i0 i1]) (fun i i0 i1 => by unfold r10_Same.b2; simp only [i1, if_false])
  exact ⟨_, key, by simp [Fin.on]⟩
theorem Law.QueryOnes (a0 : TPds) (a1 a2 : TConf) (y0 : TPds.Fit a0) (y1 : TConf.Fit a1) (y2 : TConf.Fit a2) : l14_QueryOnes.f a0 a1 a2 true := by
  have hz := y0.sized
  have hst := wf64 y0.2.1
  have hl1 : a1.W.length ≤ 17592186044416 := by have := y1.2.1; omega
  have hl2 : a2.W.length ≤ maxLen := y2.2.2.1
  have hbig : a0.States ≤ 9000000000000000000 ∧ -9000000000000000000 ≤ a0.States ∨ confC a0 a1 ≠ 0 := by
    by_cases h : confC a0 a1 = 0
    · obtain ⟨_, _, s0, s1, _⟩ := pC_ok (confC_ok h).1; left; omega
    · exact .inr h
  have hq : query_One.f a0 a1 (oneAR a0 a1) ∧ r14_One.f a0 a1 (oneAR a0 a1) := by
    rcases hbig with hb | hb
    · exact ⟨query_One.ok hz hl1 hb, r14_One.ok hz hl1 hb⟩
    · constructor
      · refine ⟨_, steps_Check.ok hz y1.2.2.1, ?_⟩
        unfold oneAR; rw [if_neg hb, if_neg hb]; rfl
      · refine ⟨_, r12_Check.ok hz y1.2.2.1, ?_⟩
        unfold oneAR; rw [if_neg hb, if_neg hb]; rfl
  refine ⟨_, l14_awake.ok, ?_⟩
  rw [if_pos rfl]
  have hsame : r10_Same.f (oneAR a0 a1).1 (oneAR a0 a1).1 true := by
    have hn : r10_Same.f noneA noneA true := r10_Same.refl ⟨1, r05_SameSpace.step1 (by simp [noneA]) (by simp [noneA])⟩ (by simp [noneA]) (by simp [noneA]) (by simp [noneA])
    unfold oneAR
    split
    · rename_i hc
      split
      · exact hn
      · have hs := (pC_ok (confC_ok hc).1).1
        have hsz := oneA_sized hz hc
        refine r10_Same.refl (r05_SameSpace.refl hs) hsz.final hsz.trans (fun t ht => ?_)
        obtain ⟨k, _, _, rfl⟩ := oneA_trans ht
        exact oneW_flat hs
    · exact hn
  refine ⟨_, hq.1, _, hq.2, _, hsame, ?_⟩
  rw [if_neg (by simp)]
  by_cases h0 : (oneAR a0 a1).2 = 0
  · have hc : confC a0 a1 = 0 := by
      unfold oneAR at h0
      split at h0
      · assumption
      · exact h0
    have hm : a0.States + (a1.W.length : Int) ≤ 4096 := by
      unfold oneAR at h0
      rw [if_pos hc] at h0
      split at h0
      · simp at h0
      · omega
    have hR : oneAR a0 a1 = (oneA a0 a1, 0) := by unfold oneAR; rw [if_pos hc, if_neg (by omega)]
    refine ⟨_, fun _ => r12_Check.ok hz hl2, ?_⟩
    by_cases hg : ((!((oneAR a0 a1).2 == 0)) || ((!(confC a0 a2 == 0)) || ((decide ((a1.W.length : Int) > 60)) || (decide ((a2.W.length : Int) > 60))))) = true
    · rw [if_pos hg]
    · rw [if_neg hg]
      have hd : confC a0 a2 = 0 := by
        simp only [Bool.or_eq_true, not_or] at hg
        simpa using hg.2.1
      obtain ⟨hpc, p0, p1, hw, _⟩ := confC_ok hc
      obtain ⟨hs, _⟩ := pC_ok hpc
      have v1 := value_one hz hc hc hm
      have v2 := value_one hz hc hd hm
      have own : a1.P = tgW a0 a1 a1.W := by
        have := tgW_own hc a1.W.length 0 (by omega)
        simpa [atN] using this.symm
      rw [if_pos own] at v1
      have hA := oneA_ok hc hm
      have hqc : qC a0 (oneA a0 a1) = 0 := by
        unfold qC
        rw [if_pos hpc, if_pos hA.1]
        have e1 : eqSp a0.Space (oneA a0 a1).Space = true := by
          show eqSp a0.Space a0.Space = true
          unfold eqSp
          rw [all2B_refl _ (fun x _ => by simp [eqSp1])]; simp
        rw [e1, if_pos (by simp [oneA]; omega), if_pos (by
          rw [List.all_eq_true]; intro t ht
          have := hA.2 t ht
          simp; omega)]
      rw [hR]
      have hck := r14_Check.ok hz (oneA_sized hz hc)
      rw [hqc] at hck
      refine ⟨_, v1, _, v2, _, fun _ _ => hck, _, fun _ _ _ => r10_One.ok hs hz.parts, _, fun _ _ _ => r05_Same.refl (oneW_flat hs), ?_⟩
      rw [if_neg (by simp)]
      refine ⟨_, r12_Same.ok (by unfold maxLen; omega), _, fun _ => r10_Zero.ok hs hz.parts, ?_⟩
      by_cases he : eqConf a1 a2 = true
      · exact ⟨true, fun h => (h he).elim, by rw [he]; rfl⟩
      · refine ⟨true, fun _ => ?_, by simp⟩
        have hne : a2.P ≠ tgW a0 a1 a2.W := by
          intro heq
          apply he
          obtain ⟨_, q0, q1, _, _⟩ := confC_ok hd
          rcases tgW_at hc a2.W with e | ⟨j, hj, e, hwd⟩
          · omega
          · have hj0 : j = 0 := by
              apply Classical.byContradiction; intro hj0
              rw [e] at heq; unfold atN at heq; rw [if_neg (by omega)] at heq; omega
            subst hj0
            rw [e] at heq
            simp [atN] at heq
            unfold eqConf
            rw [hwd]; simp [heq]
        rw [if_neg hne]
        exact r05_Same.refl (zero_flat _)
  · refine ⟨0, fun h => (h0 h).elim, ?_⟩
    rw [if_pos (by simp [h0])]
end Go.RM.Try
