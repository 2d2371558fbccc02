/- LA LB LC LD LE LF LG LJ LM LO LP LQ LR LT LV VC VD VE VF VG VH VI, for the statement WeightSpaces: what it needs, no more. -/
import Derived.Test.YthjbpjpcddegfaaGreatDoorZWeightSpacesGR
import Derived.Test.YthjbpjpcddegfaaGreatDoorZWeightSpacesGK
namespace Go.RM
set_option linter.unusedVariables false
set_option linter.unusedSimpArgs false
theorem Loop.of {σ τ ρ : Type} {b : σ → Rnd σ τ ρ → Prop} (spec : σ → Fin τ ρ) (m : σ → Nat) (Inv : σ → Prop)
    (step : ∀ s, Inv s → (∃ s', b s (.next s') ∧ m s' < m s ∧ Inv s' ∧ spec s' = spec s) ∨ (∃ t, b s (.exit t) ∧ spec s = .go t) ∨ (∃ r, b s (.ret r) ∧ spec s = .ret r)) :
    ∀ s, Inv s → Loop b s (spec s) := by
  intro s
  generalize hn : m s = n
  induction n using Nat.strongRecOn generalizing s with
  | _ n ih =>
    intro hi
    rcases step s hi with ⟨s', hb, hm, hi', he⟩ | ⟨t, hb, he⟩ | ⟨r, hb, he⟩
    · rw [← he]
      exact .next hb (ih (m s') (by omega) s' rfl hi')
    · rw [he]; exact .exit hb
    · rw [he]; exact .ret hb
theorem wrap64 {i : Int} (h0 : -9223372036854775808 ≤ i) (h1 : i ≤ 9223372036854775807) : IntKind.i64.wrap i = i := by
  have e : IntKind.i64.wrap i = if (i % 18446744073709551616 : Int) ≥ 9223372036854775808 then i % 18446744073709551616 - 18446744073709551616 else i % 18446744073709551616 := by
    simp [IntKind.wrap, IntKind.bits, IntKind.signed]
  rw [e]
  split <;> omega
theorem wrapu64 {i : Int} (h0 : 0 ≤ i) (h1 : i < 18446744073709551616) : IntKind.u64.wrap i = i := by
  have e : IntKind.u64.wrap i = i % 18446744073709551616 := by
    simp [IntKind.wrap, IntKind.bits, IntKind.signed]
  rw [e]; omega
theorem wfu64 {i : Int} (h : (Lit.int .u64 i).wf = true) : 0 ≤ i ∧ i < 18446744073709551616 := by
  simp [Lit.wf, IntKind.min, IntKind.max, IntKind.bits, IntKind.signed] at h
  omega
theorem wrap_len {α : Type} {l : List α} {i : Int} (hl : l.length ≤ maxLen) (h0 : 0 ≤ i) (h1 : i < l.length) : IntKind.i64.wrap (i + 1) = i + 1 := by
  have : maxLen ≤ 9223372036854775807 := by decide
  exact wrap64 (by omega) (by omega)
theorem rdl_mem {α : Type} [Inhabited α] {l : List α} {i : Int} (h0 : 0 ≤ i) (h1 : i < l.length) : rdl l i ∈ l :=
  List.mem_of_getElem? (rdl_get h0 h1)
theorem drop_rdl {α : Type} [Inhabited α] {l : List α} {i : Int} (h0 : 0 ≤ i) (h1 : i < l.length) : l.drop i.toNat = rdl l i :: l.drop (i + 1).toNat := by
  have h := rdl_get h0 h1
  have hlt : i.toNat < l.length := by omega
  rw [List.drop_eq_getElem_cons hlt, show (i + 1).toNat = i.toNat + 1 by omega]
  rw [List.getElem?_eq_getElem hlt, Option.some.injEq] at h
  rw [h]
theorem drop_end {α : Type} {l : List α} {i : Int} (h0 : 0 ≤ i) (h1 : ¬ i < l.length) : l.drop i.toNat = [] := List.drop_eq_nil_of_le (by omega)
theorem rdl0 {α : Type} [Inhabited α] {a : α} {l : List α} : rdl (a :: l) 0 = a := rfl
theorem rdl1 {α : Type} [Inhabited α] {a b : α} {l : List α} : rdl (a :: b :: l) 1 = b := rfl
end Go.RM
namespace Go.RM
set_option linter.unusedVariables false
set_option linter.unusedSimpArgs false
def idxI {α : Type} (test : α → Bool) : List α → Int → Int
  | [], _ => -1
  | x :: l, i => if test x then i else idxI test l (i + 1)
theorem idxI_any {α : Type} (test : α → Bool) : ∀ (l : List α) (i : Int), 0 ≤ i → decide (idxI test l i ≥ 0) = l.any test
  | [], i, h => by simp [idxI]
  | x :: l, i, h => by
    unfold idxI
    by_cases hx : test x = true
    · simp [hx, h]
    · rw [if_neg hx, idxI_any test l (i + 1) (by omega)]; simp [hx]
theorem indexFunc {α : Type} [Inhabited α] {l : List α} {q : α → Bool → Prop} {b : Int → Rnd Int Unit Int → Prop} (test : α → Bool) (hl : l.length ≤ maxLen) (hq : ∀ x ∈ l, q x (test x))
    (hb : b = fun x1 z1 => if x1 < (l.length : Int) then (InR x1 l.length ∧ ∃ t : Bool, q (rdl l x1) t ∧ if t = true then z1 = .ret x1 else z1 = .next (IntKind.i64.wrap (x1 + 1))) else z1 = .exit ()) :
    ∃ o : Fin Unit Int, Loop b 0 o ∧ o.on (fun _ => idxI test l 0 = -1) (fun r_ => idxI test l 0 = r_) := by
  let spec : Int → Fin Unit Int := fun i => if (l.drop i.toNat).any test then .ret (idxI test (l.drop i.toNat) i) else .go ()
  have key := Loop.of (b := b) spec (fun i => ((l.length : Int) - i).toNat) (fun i => 0 ≤ i) (fun i hi => by
    subst hb
    by_cases h : i < (l.length : Int)
    · have hd := drop_rdl hi h
      by_cases ht : test (rdl l i) = true
      · refine .inr (.inr ⟨i, ?_, ?_⟩)
        · simp only [h, if_true]
          exact ⟨⟨hi, h⟩, true, ht ▸ hq _ (rdl_mem hi h), by simp⟩
        · show (if _ then _ else _) = _
          rw [hd]; simp [ht, idxI]
      · have ht' : test (rdl l i) = false := by simpa using ht
        refine .inl ⟨i + 1, ?_, by omega, by omega, ?_⟩
        · simp only [h, if_true]
          exact ⟨⟨hi, h⟩, false, ht' ▸ hq _ (rdl_mem hi h), by simp [wrap_len hl hi h]⟩
        · show (if _ then _ else _) = (if _ then _ else _)
          rw [hd]; simp [ht', idxI]
    · refine .inr (.inl ⟨(), by simp only [h, if_false], ?_⟩)
      show (if _ then _ else _) = _
      rw [drop_end hi h]; rfl) 0 (Int.le_refl 0)
  refine ⟨_, key, ?_⟩
  show Fin.on (if _ then _ else _) _ _
  simp only [Int.toNat_zero, List.drop_zero]
  split
  · rfl
  · rename_i h
    show idxI test l 0 = -1
    have : decide (idxI test l 0 ≥ 0) = false := by rw [idxI_any test l 0 (Int.le_refl 0)]; simpa using h
    have hge : ∀ (l : List α) (i : Int), 0 ≤ i → idxI test l i = -1 ∨ 0 ≤ idxI test l i := by
      intro l
      induction l with
      | nil => intro i _; exact .inl rfl
      | cons x l ih =>
        intro i hi
        unfold idxI
        split
        · exact .inr hi
        · exact ih (i + 1) (by omega)
    rcases hge l 0 (Int.le_refl 0) with h1 | h1
    · exact h1
    · simp at this; omega
theorem eachLoop {α ρ : Type} [Inhabited α] {l : List α} {b : Int → Rnd Int Unit ρ → Prop} (test : α → Bool) (rv : ρ)
    (hb : ∀ i, 0 ≤ i → i < (l.length : Int) → (test (rdl l i) = true → b i (.next (i + 1))) ∧ (test (rdl l i) = false → b i (.ret rv))) (hend : ∀ i, 0 ≤ i → ¬ i < (l.length : Int) → b i (.exit ())) :
    Loop b 0 (if l.all test then .go () else .ret rv) := by
  let spec : Int → Fin Unit ρ := fun i => if (l.drop i.toNat).all test then .go () else .ret rv
  have key := Loop.of (b := b) spec (fun i => ((l.length : Int) - i).toNat) (fun i => 0 ≤ i) (fun i hi => by
    by_cases h : i < (l.length : Int)
    · have hd := drop_rdl hi h
      obtain ⟨h1, h2⟩ := hb i hi h
      cases ht : test (rdl l i) with
      | true =>
        refine .inl ⟨i + 1, h1 ht, by omega, by omega, ?_⟩
        show (if _ then _ else _) = (if _ then _ else _)
        rw [hd]; simp [ht]
      | false =>
        refine .inr (.inr ⟨rv, h2 ht, ?_⟩)
        show (if _ then _ else _) = _
        rw [hd]; simp [ht]
    · refine .inr (.inl ⟨(), hend i hi h, ?_⟩)
      show (if _ then _ else _) = _
      rw [drop_end hi h]; rfl) 0 (Int.le_refl 0)
  simpa [spec] using key
theorem containsFunc {α : Type} [Inhabited α] {l : List α} {q : α → Bool → Prop} {b : Int → Rnd Int Unit Int → Prop} (test : α → Bool) (hl : l.length ≤ maxLen) (hq : ∀ x ∈ l, q x (test x))
    (hb : b = fun x1 z1 => if x1 < (l.length : Int) then (InR x1 l.length ∧ ∃ t : Bool, q (rdl l x1) t ∧ if t = true then z1 = .ret x1 else z1 = .next (IntKind.i64.wrap (x1 + 1))) else z1 = .exit ()) :
    ∃ t : Int, (∃ o : Fin Unit Int, Loop b 0 o ∧ o.on (fun _ => t = -1) (fun r_ => t = r_)) ∧ l.any test = decide (t ≥ 0) :=
  ⟨_, indexFunc test hl hq hb, (idxI_any test l 0 (Int.le_refl 0)).symm⟩
def foldF {α σ ρ : Type} (step : Int → α → σ → Fin σ ρ) : List α → Int → σ → Fin σ ρ
  | [], _, s => .go s
  | x :: l, i, s => match step i x s with
    | .go s' => foldF step l (i + 1) s'
    | .ret r => .ret r
def Fin.map {σ τ ρ : Type} (f : σ → τ) : Fin σ ρ → Fin τ ρ
  | .go s => .go (f s)
  | .ret r => .ret r
def Rok {σ S τ ρ : Type} (b : S → Rnd S τ ρ → Prop) (mk : Int → σ → S) (Inv : Int → σ → Prop) (i : Int) (s : σ) : Fin σ ρ → Prop
  | .go s' => b (mk i s) (.next (mk (i + 1) s')) ∧ Inv (i + 1) s'
  | .ret r => b (mk i s) (.ret r)
theorem foldLoop {α σ S τ ρ : Type} [Inhabited α] {l : List α} {b : S → Rnd S τ ρ → Prop} (mk : Int → σ → S) (ex : σ → τ) (step : Int → α → σ → Fin σ ρ) (Inv : Int → σ → Prop)
    (hb : ∀ i s, 0 ≤ i → i < (l.length : Int) → Inv i s → Rok b mk Inv i s (step i (rdl l i) s))
    (hend : ∀ s, Inv l.length s → b (mk l.length s) (.exit (ex s))) (s0 : σ) (h0 : Inv 0 s0) :
    Loop b (mk 0 s0) ((foldF step l 0 s0).map ex) ∧ ∀ s, foldF step l 0 s0 = .go s → Inv l.length s := by
  have main : ∀ (k : Nat) (i : Int) (s : σ), ((l.length : Int) - i).toNat = k → 0 ≤ i → i ≤ l.length → Inv i s → Loop b (mk i s) ((foldF step (l.drop i.toNat) i s).map ex) ∧ ∀ s', foldF step (l.drop i.toNat) i s = .go s' → Inv l.length s' := by
    intro k
    induction k with
    | zero =>
      intro i s hk h0 h1 hi
      have : i = l.length := by omega
      subst this
      rw [drop_end h0 (by omega)]
      exact ⟨.exit (hend s hi), fun s' h => by injection h with h; exact h ▸ hi⟩
    | succ k ih =>
      intro i s hk h0 h1 hi
      have hlt : i < (l.length : Int) := by omega
      rw [drop_rdl h0 hlt]
      have hr := hb i s h0 hlt hi
      unfold foldF
      revert hr
      cases step i (rdl l i) s with
      | go s1 =>
        intro hr
        have := ih (i + 1) s1 (by omega) (by omega) (by omega) hr.2
        exact ⟨.next hr.1 this.1, this.2⟩
      | ret r =>
        intro hr
        exact ⟨.ret hr, fun s' h => by cases h⟩
  have := main _ 0 s0 rfl (Int.le_refl 0) (by omega) h0
  simpa using this
theorem foldF_map {α β ρ : Type} (f : α → β) : ∀ (l : List α) (i : Int) (acc : List β), foldF (fun _ x acc => (.go (acc ++ [f x]) : Fin (List β) ρ)) l i acc = .go (acc ++ l.map f)
  | [], i, acc => by simp [foldF]
  | x :: l, i, acc => by
    show foldF _ l (i + 1) (acc ++ [f x]) = _
    rw [foldF_map f l]
    simp
def countF {σ ρ : Type} (step : Int → σ → Fin σ ρ) : Nat → Int → σ → Fin σ ρ
  | 0, _, s => .go s
  | k + 1, i, s => match step i s with
    | .go s' => countF step k (i + 1) s'
    | .ret r => .ret r
theorem countLoop {σ S τ ρ : Type} {n : Int} {b : S → Rnd S τ ρ → Prop} (mk : Int → σ → S) (ex : σ → τ) (step : Int → σ → Fin σ ρ) (Inv : Int → σ → Prop)
    (hb : ∀ i s, 0 ≤ i → i < n → Inv i s → Rok b mk Inv i s (step i s))
    (hend : ∀ s, Inv n s → b (mk n s) (.exit (ex s))) (s0 : σ) (hn : 0 ≤ n) (h0 : Inv 0 s0) :
    Loop b (mk 0 s0) ((countF step n.toNat 0 s0).map ex) ∧ ∀ s, countF step n.toNat 0 s0 = .go s → Inv n s := by
  have main : ∀ (k : Nat) (i : Int) (s : σ), (n - i).toNat = k → 0 ≤ i → i ≤ n → Inv i s → Loop b (mk i s) ((countF step k i s).map ex) ∧ ∀ s', countF step k i s = .go s' → Inv n s' := by
    intro k
    induction k with
    | zero =>
      intro i s hk h0 h1 hi
      have : i = n := by omega
      subst this
      exact ⟨.exit (hend s hi), fun s' h => by injection h with h; exact h ▸ hi⟩
    | succ k ih =>
      intro i s hk h0 h1 hi
      have hlt : i < n := by omega
      have hr := hb i s h0 hlt hi
      unfold countF
      revert hr
      cases step i s with
      | go s1 =>
        intro hr
        have := ih (i + 1) s1 (by omega) (by omega) (by omega) hr.2
        exact ⟨.next hr.1 this.1, this.2⟩
      | ret r =>
        intro hr
        exact ⟨.ret hr, fun s' h => by cases h⟩
  have := main _ 0 s0 rfl (Int.le_refl 0) hn h0
  simpa using this
def upto (n : Nat) : List Int := (List.range n).map Int.ofNat
theorem countF_app {β ρ : Type} (f : Int → β) : ∀ (k : Nat) (i : Int) (acc : List β), countF (fun i acc => (.go (acc ++ [f i]) : Fin (List β) ρ)) k i acc = .go (acc ++ (upto k).map (fun j => f (i + j)))
  | 0, i, acc => by simp [countF, upto]
  | k + 1, i, acc => by
    unfold countF
    simp only
    rw [countF_app f k]
    simp only [upto, List.range_succ_eq_map, List.map_cons, List.map_map, List.append_assoc, List.singleton_append]
    simp only [Fin.go.injEq, List.append_cancel_left_eq, List.cons.injEq]
    refine ⟨by simp, List.map_congr_left fun j _ => ?_⟩
    simp only [Function.comp]
    congr 1
    simp
    omega
theorem fillLoop {α ρ : Type} [Inhabited α] {n : Int} {b : (List α × Int) → Rnd (List α × Int) (List α) ρ → Prop} (d : α) (f : Int → α → α) (hn : 0 ≤ n)
    (hb : ∀ i l, 0 ≤ i → i < n → (l.length : Int) = n → b (l, i) (.next (setl l i (f i (rdl l i)), i + 1))) (hend : ∀ l, (l.length : Int) = n → b (l, n) (.exit l)) :
    Loop b (List.replicate n.toNat d, 0) (.go ((upto n.toNat).map (fun i => f i d))) := by
  let m := (upto n.toNat).map (fun i => f i d)
  have hm : m.length = n.toNat := by simp [m, upto]
  have key := Loop.of (b := b) (fun _ => .go m) (fun s => (n - s.2).toNat) (fun s => 0 ≤ s.2 ∧ s.2 ≤ n ∧ s.1 = m.take s.2.toNat ++ List.replicate (n.toNat - s.2.toNat) d) (fun s hi => by
    obtain ⟨l, i⟩ := s
    obtain ⟨h0, h1, h2⟩ := hi
    simp only at h0 h1 h2
    have hlen : (l.length : Int) = n := by rw [h2]; simp [hm]; omega
    by_cases h : i < n
    · have hd : rdl l i = d := by
        have hg := rdl_get (l := l) h0 (by omega)
        rw [h2] at hg
        rw [List.getElem?_append_right (by simp; omega)] at hg
        have : (List.take i.toNat m).length = i.toNat := by simp [hm]; omega
        rw [this, Nat.sub_self, List.getElem?_replicate] at hg
        rw [if_pos (by omega)] at hg
        injection hg with hg
        rw [h2]; exact hg.symm
      refine .inl ⟨_, hb i l h0 h hlen, by simp; omega, ⟨by simp; omega, by simp; omega, ?_⟩, rfl⟩
      simp only
      rw [hd]
      apply List.ext_getElem?
      intro k
      unfold setl
      rw [List.getElem?_set, h2]
      by_cases hk : i.toNat = k
      · subst hk
        have hl2 : i.toNat < (List.take i.toNat m ++ List.replicate (n.toNat - i.toNat) d).length := by simp [hm]; omega
        rw [if_pos rfl, if_pos hl2]
        rw [List.getElem?_append_left (by simp [hm]; omega)]
        rw [List.getElem?_take, if_pos (by omega)]
        simp only [m, upto, List.map_map, List.getElem?_map]
        rw [List.getElem?_range (by omega)]
        simp [Function.comp]
        congr 1; omega
      · rw [if_neg hk]
        by_cases hk2 : k < i.toNat
        · rw [List.getElem?_append_left (by simp [hm]; omega), List.getElem?_append_left (by simp [hm]; omega)]
          rw [List.getElem?_take, List.getElem?_take, if_pos hk2, if_pos (by omega)]
        · rw [List.getElem?_append_right (by simp [hm]; omega), List.getElem?_append_right (by simp [hm]; omega)]
          rw [List.getElem?_replicate, List.getElem?_replicate]
          simp only [List.length_take, hm]
          congr 1
          apply propext
          constructor <;> intro <;> omega
    · have : i = n := by omega
      subst this
      refine .inr (.inl ⟨l, hend l hlen, ?_⟩)
      rw [h2]; simp [← hm]) (List.replicate n.toNat d, 0) ⟨Int.le_refl 0, hn, by simp⟩
  exact key
theorem iteR {α : Type} (c : Bool) {a b : α} : if c = true then (if c = true then a else b) = a else (if c = true then a else b) = b := by cases c <;> rfl
def all2B {α β : Type} (test : α → β → Bool) : List α → List β → Bool
  | x :: l, y :: m => test x y && all2B test l m
  | _, _ => true
theorem each2Loop {α β ρ : Type} [Inhabited α] [Inhabited β] {l : List α} {m : List β} {b : Int → Rnd Int Unit ρ → Prop} (test : α → β → Bool) (rv : ρ) (hlen : l.length = m.length)
    (hb : ∀ i, 0 ≤ i → i < (l.length : Int) → (test (rdl l i) (rdl m i) = true → b i (.next (i + 1))) ∧ (test (rdl l i) (rdl m i) = false → b i (.ret rv))) (hend : ∀ i, 0 ≤ i → ¬ i < (l.length : Int) → b i (.exit ())) :
    Loop b 0 (if all2B test l m = true then .go () else .ret rv) := by
  let spec : Int → Fin Unit ρ := fun i => if all2B test (l.drop i.toNat) (m.drop i.toNat) = true then .go () else .ret rv
  have key := Loop.of (b := b) spec (fun i => ((l.length : Int) - i).toNat) (fun i => 0 ≤ i) (fun i hi => by
    by_cases h : i < (l.length : Int)
    · have hd := drop_rdl hi h
      have hd2 := drop_rdl (l := m) hi (by omega)
      obtain ⟨h1, h2⟩ := hb i hi h
      cases ht : test (rdl l i) (rdl m i) with
      | true =>
        refine .inl ⟨i + 1, h1 ht, by omega, by omega, ?_⟩
        show (if _ then _ else _) = (if _ then _ else _)
        rw [hd, hd2]; simp [all2B, ht]
      | false =>
        refine .inr (.inr ⟨rv, h2 ht, ?_⟩)
        show (if _ then _ else _) = _
        rw [hd, hd2]; simp [all2B, ht]
    · refine .inr (.inl ⟨(), hend i hi h, ?_⟩)
      show (if _ then _ else _) = _
      rw [drop_end hi h]; simp [all2B]) 0 (Int.le_refl 0)
  simpa [spec] using key
theorem all2B_eq {α : Type} [DecidableEq α] : ∀ (l m : List α), l.length = m.length → all2B (fun x y => decide (x = y)) l m = decide (l = m)
  | [], [], _ => by simp [all2B]
  | x :: l, y :: m, h => by
    have := all2B_eq l m (by simpa using h)
    simp [all2B, this]
theorem eqLoop {α ρ : Type} [Inhabited α] [DecidableEq α] {l m : List α} {b : Int → Rnd Int Unit ρ → Prop} (rv : ρ) (hlen : l.length = m.length)
    (hb : ∀ i, 0 ≤ i → i < (l.length : Int) → (rdl l i = rdl m i → b i (.next (i + 1))) ∧ (rdl l i ≠ rdl m i → b i (.ret rv))) (hend : ∀ i, 0 ≤ i → ¬ i < (l.length : Int) → b i (.exit ())) :
    Loop b 0 (if l = m then .go () else .ret rv) := by
  have := each2Loop (b := b) (fun x y => decide (x = y)) rv hlen (fun i h0 h1 => ⟨fun h => (hb i h0 h1).1 (by simpa using h), fun h => (hb i h0 h1).2 (by simpa using h)⟩) hend
  rw [all2B_eq l m hlen] at this
  simpa using this
theorem eqRound {α : Type} [Inhabited α] [DecidableEq α] {l m : List α} {b : Int → Rnd Int Unit Bool → Prop} (hl : l.length ≤ maxLen) (hlen : l.length = m.length)
    (hb : b = fun x1 z1 => if x1 < (l.length : Int) then (InR x1 l.length ∧ InR x1 m.length ∧ if rdl l x1 = rdl m x1 then z1 = .next (IntKind.i64.wrap (x1 + 1)) else z1 = .ret false) else z1 = .exit ()) :
    Loop b 0 (if l = m then .go () else .ret false) := by
  subst hb
  refine eqLoop false hlen (fun i h0 h1 => ⟨fun h => ?_, fun h => ?_⟩) (fun i h0 h1 => by simp only [h1, if_false])
  · simp only [h1, if_true]
    exact ⟨⟨h0, h1⟩, ⟨h0, by omega⟩, by rw [if_pos h, wrap_len hl h0 h1]⟩
  · simp only [h1, if_true]
    exact ⟨⟨h0, h1⟩, ⟨h0, by omega⟩, by rw [if_neg h]; trivial⟩
theorem eqOn {α : Type} [DecidableEq α] {l m : List α} : (if l = m then (.go () : Fin Unit Bool) else .ret false).on (fun _ => decide (l = m) = true) (fun r_ => decide (l = m) = r_) := by
  by_cases h : l = m <;> simp [Fin.on, h]
end Go.RM
namespace Go.RM.Tryz
open Go.RM
set_option linter.unusedVariables false
set_option linter.unusedSimpArgs false
def costE (cap v : Int) : Int := if cap < 0 ∨ cap > 1048576 then 20 else if v < -1 ∨ v > cap then 21 else 0
theorem cost_Check.ok (cap v : Int) : cost_Check.f cap v (costE cap v) := by
  refine ⟨costE cap v, ?_, rfl⟩
  unfold cost_checks.f costE
  by_cases h : cap < 0 ∨ cap > 1048576
  · simp [h]
  · rw [if_neg (by simpa using h), if_neg h]
    have key := eachLoop (l := [v]) (b := cost_checks.b1 cap [v]) (fun x => !(decide (x < -1) || decide (x > cap))) (21 : Int) (fun i h0 h1 => by
      unfold cost_checks.b1
      simp only [h1, if_true]
      refine ⟨fun ht => ⟨⟨h0, h1⟩, ?_⟩, fun ht => ⟨⟨h0, h1⟩, ?_⟩⟩
      · have hn : ¬ ((decide (rdl [v] i < -1) || decide (rdl [v] i > cap)) = true) := by simpa using ht
        rw [if_neg hn, wrap_len (l := [v]) (by simp [maxLen]) h0 h1]
      · have hn : (decide (rdl [v] i < -1) || decide (rdl [v] i > cap)) = true := by simpa only [Bool.not_eq_false'] using ht
        rw [if_pos hn]; trivial) (fun i h0 h1 => by unfold cost_checks.b1; simp only [h1, if_false])
    refine ⟨_, key, ?_⟩
    by_cases hv : v < -1 ∨ v > cap
    · have : ([v].all fun x => !(decide (x < -1) || decide (x > cap))) = false := by simp; omega
      rw [this, if_pos hv]; rfl
    · have : ([v].all fun x => !(decide (x < -1) || decide (x > cap))) = true := by simp; omega
      rw [this, if_neg hv]; rfl
def fullM (n : Int) : Int := 2 ^ n.toNat - 1
theorem pow_split {n : Nat} (h : n ≤ 64) : (18446744073709551615 : Int).fdiv (2 ^ (64 - n)) = 2 ^ n - 1 := by
  have hp : (2 : Int) ^ n * 2 ^ (64 - n) = 18446744073709551616 := by rw [← Int.pow_add, show n + (64 - n) = 64 by omega]; decide
  have hpos : (0 : Int) < 2 ^ (64 - n) := Int.pow_pos (by decide)
  rw [Int.fdiv_eq_ediv_of_nonneg _ (Int.le_of_lt hpos)]
  rw [show (18446744073709551615 : Int) = (2 ^ (64 - n) - 1) + (2 ^ n - 1) * 2 ^ (64 - n) by rw [Int.sub_mul, hp]; omega]
  rw [Int.add_mul_ediv_right _ _ (Int.ne_of_gt hpos), Int.ediv_eq_zero_of_lt (by omega) (by omega)]
  omega
theorem bits_Full.ok (n : Int) : bits_Full.f n (if n < 0 ∨ n > 64 then (0, 10) else (fullM n, 0)) := by
  unfold bits_Full.f
  by_cases h : n < 0 ∨ n > 64
  · rw [if_pos (by simpa using h), if_pos h]
  · rw [if_neg (by simpa using h), if_neg h]
    have e1 : IntKind.i64.wrap (64 - n) = 64 - n := wrap64 (by omega) (by omega)
    have e2 : IntKind.u64.wrap (64 - n) = 64 - n := wrapu64 (by omega) (by omega)
    rw [e1, e2]
    refine ⟨by omega, ?_⟩
    have hn : n.toNat ≤ 64 := by omega
    have := pow_split hn
    unfold shrI fullM
    rw [show (min (64 - n).toNat IntKind.u64.bits) = 64 - n.toNat by simp [IntKind.bits]; omega, this]
theorem two_pow_lt {n : Nat} (h : n < 64) : (2 : Int) ^ n < 18446744073709551616 := by
  have h1 : (2 : Nat) ^ n < 2 ^ 64 := Nat.pow_lt_pow_right (by decide) h
  have h2 : ((2 ^ n : Nat) : Int) = (2 : Int) ^ n := by simp
  have h3 : (2 : Nat) ^ 64 = 18446744073709551616 := by decide
  omega
theorem r01_Worth.ok {n : Int} (h0 : 0 ≤ n) (h1 : n < 64) : r01_Worth.f n (2 ^ n.toNat) := by
  have key := Loop.of (b := r01_Worth.b1) (fun _ => (.go (2 ^ n.toNat) : Fin Int Int)) (fun s => s.1.toNat) (fun s => 0 ≤ s.1 ∧ s.1 < 64 ∧ 0 ≤ s.2 ∧ s.2 * 2 ^ s.1.toNat = 2 ^ n.toNat) (fun s hi => by
    obtain ⟨x1, x2⟩ := s
    obtain ⟨i0, i1, i2, i3⟩ := hi
    simp only at i0 i1 i2 i3
    by_cases hx : x1 > 0
    · have hp : (2 : Int) ^ x1.toNat = 2 * 2 ^ (x1 - 1).toNat := by
        rw [show x1.toNat = (x1 - 1).toNat + 1 by omega, Int.pow_succ, Int.mul_comm]
      have hpos : (0 : Int) < 2 ^ (x1 - 1).toNat := Int.pow_pos (by decide)
      have hle : x2 * 2 ≤ x2 * 2 * 2 ^ (x1 - 1).toNat := by have h9 := Int.mul_le_mul_of_nonneg_left (show (1 : Int) ≤ 2 ^ (x1 - 1).toNat by omega) (show 0 ≤ x2 * 2 by omega); rw [Int.mul_one] at h9; exact h9
      have he : x2 * 2 * 2 ^ (x1 - 1).toNat = 2 ^ n.toNat := by rw [← i3, hp, Int.mul_assoc]
      have hlt := two_pow_lt (n := n.toNat) (by omega)
      refine .inl ⟨(x1 - 1, x2 * 2), ?_, by simp; omega, ⟨by simp; omega, by simp; omega, by simp; omega, he⟩, rfl⟩
      unfold r01_Worth.b1
      simp only [hx, if_true]
      rw [wrap64 (by omega) (by omega), wrapu64 (by omega) (by omega)]
    · have hz : x1 = 0 := by omega
      subst hz
      refine .inr (.inl ⟨x2, by unfold r01_Worth.b1; simp, ?_⟩)
      have : x2 = 2 ^ n.toNat := by simpa using i3
      rw [this]) (n, 1) ⟨h0, h1, Int.zero_le_ofNat 1, by simp⟩
  exact ⟨_, key, rfl⟩
theorem r01_Full.ok (n : Int) : r01_Full.f n (if n < 0 ∨ n > 64 then (0, 10) else (fullM n, 0)) := by
  unfold r01_Full.f
  by_cases h : n < 0 ∨ n > 64
  · rw [if_pos (by simpa using h), if_pos h]
  · rw [if_neg (by simpa using h), if_neg h]
    have key := Loop.of (b := r01_Full.b1 n) (fun _ => (.go (fullM n) : Fin Int (Int × Int))) (fun s => (n - s.2).toNat) (fun s => 0 ≤ s.2 ∧ s.2 ≤ n ∧ s.1 = fullM s.2) (fun s hi => by
      obtain ⟨x1, x2⟩ := s
      obtain ⟨i0, i1, i2⟩ := hi
      simp only at i0 i1 i2
      by_cases hx : x2 < n
      · have hlt := two_pow_lt (n := x2.toNat) (by omega)
        have hpos : (0 : Int) < 2 ^ x2.toNat := Int.pow_pos (by decide)
        have hp : (2 : Int) ^ (x2 + 1).toNat = 2 ^ x2.toNat * 2 := by rw [show (x2 + 1).toNat = x2.toNat + 1 by omega, Int.pow_succ]
        have hs : x1 + 2 ^ x2.toNat = fullM (x2 + 1) := by rw [i2]; unfold fullM; rw [hp]; omega
        have hle : (2 : Int) ^ x2.toNat ≤ 9223372036854775808 := by
          have h1 : (2 : Nat) ^ x2.toNat ≤ 2 ^ 63 := Nat.pow_le_pow_right (by decide) (by omega)
          have h2 : ((2 ^ x2.toNat : Nat) : Int) = (2 : Int) ^ x2.toNat := by simp
          have h3 : (2 : Nat) ^ 63 = 9223372036854775808 := by decide
          omega
        refine .inl ⟨(fullM (x2 + 1), x2 + 1), ?_, by simp; omega, ⟨by simp; omega, by simp; omega, rfl⟩, rfl⟩
        unfold r01_Full.b1
        simp only [hx, if_true]
        refine ⟨_, r01_Worth.ok i0 (by omega), ?_⟩
        rw [hs, wrap64 (by omega) (by omega), wrapu64 (by unfold fullM; rw [hp]; omega) (by unfold fullM; rw [hp]; omega)]
      · have hz : x2 = n := by omega
        subst hz
        exact .inr (.inl ⟨x1, by unfold r01_Full.b1; simp, by rw [i2]⟩)) (0, 0) ⟨by decide, by simp; omega, by simp [fullM]⟩
    exact ⟨_, key, rfl⟩
end Go.RM.Tryz
namespace Go.RM.Tryz
open Go.RM
set_option linter.unusedVariables false
set_option linter.unusedSimpArgs false
def spaceOk1 (s : TSpace) : Bool :=
  if s.Tag = 1 then (s.Dim == 0) && ((s.Parts.length : Int) == 0)
  else if s.Tag = 2 then decide (s.Dim ≥ 0) && (decide (s.Dim ≤ 1048576) && ((s.Parts.length : Int) == 0))
  else if s.Tag = 3 ∨ s.Tag = 4 then decide (s.Dim ≥ 0) && (decide (s.Dim ≤ 64) && ((s.Parts.length : Int) == 0))
  else false
def spaceOk (s : TSpace) : Bool :=
  if s.Tag = 5 then (s.Dim == 0) && (((s.Parts.length : Int) == 2) && s.Parts.all (fun p => !(p.Tag == 5) && spaceOk1 p)) else spaceOk1 s
theorem weight_Space.step1 {self : TSpace → Int → Prop} {s : TSpace} (h : s.Tag ≠ 5) : weight_Space.step self s (if spaceOk1 s = true then 0 else 50) := by
  unfold weight_Space.step weight_Space.j1 spaceOk1
  by_cases h1 : s.Tag = 1
  · simp only [h1, if_true]; exact iteR _
  · by_cases h2 : s.Tag = 2
    · simp only [h2, Int.reduceEq, if_true, if_false]; exact iteR _
    · by_cases h3 : s.Tag = 3
      · simp only [h3, Int.reduceEq, if_true, if_false, true_or]; exact iteR _
      · by_cases h4 : s.Tag = 4
        · simp only [h4, Int.reduceEq, if_true, if_false, or_true]; exact iteR _
        · simp [h1, h2, h3, h4, h]
theorem spaceOk_ne {s : TSpace} (h : s.Tag ≠ 5) : spaceOk s = spaceOk1 s := by unfold spaceOk; rw [if_neg h]
theorem weight_Space.ok {s : TSpace} (hl : s.Parts.length ≤ maxLen) : weight_Space.f s (if spaceOk s = true then 0 else 50) := by
  refine ⟨2, ?_⟩
  by_cases h : s.Tag = 5
  · show weight_Space.step _ s _
    unfold weight_Space.step spaceOk
    simp only [h, if_true, if_false, show ¬ (5 : Int) = 1 by decide, show ¬ (5 : Int) = 2 by decide, show ¬ (5 : Int) = 3 by decide, show ¬ (5 : Int) = 4 by decide]
    refine ⟨s.Parts.any (fun p => (p.Tag == 5) || !spaceOk1 p), fun _ _ => ?_, ?_⟩
    · refine containsFunc (fun p => (p.Tag == 5) || !spaceOk1 p) hl (fun p hp => ?_) rfl
      refine ⟨if spaceOk1 p = true then 0 else 50, fun hn => weight_Space.step1 hn, ?_⟩
      cases spaceOk1 p <;> simp
    · have e : (!s.Parts.any (fun p => (p.Tag == 5) || !spaceOk1 p)) = s.Parts.all (fun p => !(p.Tag == 5) && spaceOk1 p) := by
        rw [List.all_eq_not_any_not]; simp
      rw [e]
      exact iteR _
  · rw [spaceOk_ne h]; exact weight_Space.step1 h
theorem r05_Space.step1 {self : TSpace → Int → Prop} {s : TSpace} (h : s.Tag ≠ 5) : r05_Space.step self s (if spaceOk1 s = true then 0 else 50) := by
  unfold r05_Space.step r05_Space.j1 spaceOk1
  by_cases h1 : s.Tag = 1
  · simp only [h1, if_true]; exact iteR _
  · by_cases h2 : s.Tag = 2
    · simp only [h2, Int.reduceEq, if_true, if_false]; exact iteR _
    · by_cases h3 : s.Tag = 3
      · simp only [h3, Int.reduceEq, if_true, if_false, true_or, beq_self_eq_true]; exact iteR _
      · by_cases h4 : s.Tag = 4
        · simp only [h4, Int.reduceEq, if_true, if_false, or_true, beq_self_eq_true]; exact iteR _
        · simp [h1, h2, h3, h4, h]
theorem r05_Space.ok {s : TSpace} (hl : s.Parts.length ≤ maxLen) : r05_Space.f s (if spaceOk s = true then 0 else 50) := by
  refine ⟨2, ?_⟩
  by_cases h : s.Tag = 5
  · show r05_Space.step _ s _
    unfold r05_Space.step spaceOk r05_Space.j1
    simp only [h, if_true, if_false, show ¬ (5 : Int) = 1 by decide, show ¬ (5 : Int) = 2 by decide, show ¬ (5 : Int) = 3 by decide, show ((5 : Int) == 4) = false by decide, Bool.false_eq_true]
    by_cases hd : ((s.Dim == 0) && ((s.Parts.length : Int) == 2)) = true
    · obtain ⟨a, b, hp⟩ : ∃ a b, s.Parts = [a, b] := by
        have : s.Parts.length = 2 := by simp at hd; omega
        match hs : s.Parts, this with
        | [a, b], _ => exact ⟨a, b, rfl⟩
      have hq : ∀ p : TSpace, ¬ p.Tag = 5 → r05_Space.fN 1 p (if spaceOk1 p = true then 0 else 50) := fun p hn => r05_Space.step1 hn
      have hx : ∀ p : TSpace, ((!(p.Tag == 5)) && ((if spaceOk1 p = true then (0 : Int) else 50) == 0)) = (!(p.Tag == 5) && spaceOk1 p) := fun p => by cases spaceOk1 p <;> simp
      have r1 : r05_Space.b1 (r05_Space.fN 1) s (true, 0) (.next (!(a.Tag == 5) && spaceOk1 a, 1)) := by
        unfold r05_Space.b1
        simp only [hp]
        refine ⟨⟨by decide, by simp⟩, fun _ => ⟨by decide, by simp⟩, _, hq a, ?_⟩
        rw [show rdl [a, b] 0 = a from rfl, hx a]; rfl
      have r2 : (!(a.Tag == 5) && spaceOk1 a) = true → r05_Space.b1 (r05_Space.fN 1) s (true, 1) (.next (!(b.Tag == 5) && spaceOk1 b, 2)) := fun _ => by
        unfold r05_Space.b1
        simp only [hp]
        refine ⟨⟨by decide, by simp⟩, fun _ => ⟨by decide, by simp⟩, _, hq b, ?_⟩
        rw [show rdl [a, b] 1 = b from rfl, hx b]; rfl
      have r3 : ∀ c, r05_Space.b1 (r05_Space.fN 1) s (c, 2) (.exit c) := fun c => by unfold r05_Space.b1; simp [hp]
      have r4 : r05_Space.b1 (r05_Space.fN 1) s (false, 1) (.exit false) := by unfold r05_Space.b1; simp [hp]
      rw [hd]
      rw [Bool.and_eq_true] at hd
      rw [hd.1, hd.2, hp]
      cases ha : (!(a.Tag == 5) && spaceOk1 a) with
      | false =>
        rw [ha] at r1
        refine ⟨_, .next r1 (.exit r4), ?_⟩
        simp [Fin.on, ha]
      | true =>
        rw [ha] at r1
        refine ⟨_, .next r1 (.next (r2 ha) (.exit (r3 _))), ?_⟩
        simp only [Fin.on, List.all_cons, List.all_nil, ha, Bool.true_and, Bool.and_true]
        exact iteR _
    · have hd' : ((s.Dim == 0) && ((s.Parts.length : Int) == 2)) = false := by simpa only [Bool.not_eq_true] using hd
      rw [hd', ← Bool.and_assoc, hd']
      refine ⟨.go false, .exit ?_, ?_⟩
      · unfold r05_Space.b1; simp
      · simp [Fin.on]
  · rw [spaceOk_ne h]; exact r05_Space.step1 h
end Go.RM.Tryz
namespace Go.RM.Tryz
open Go.RM
set_option linter.unusedVariables false
set_option linter.unusedSimpArgs false
def plainB (w : TWeight) (c f e p : Bool) : Bool :=
  (c || w.Cost == 0) && ((f || (w.Facts.Gen == 0 && (w.Facts.Rows.length : Int) == 0)) && ((e || (w.Cells.length : Int) == 0) && (p || (w.Parts.length : Int) == 0)))
theorem r05_plain.ok (w : TWeight) (c f e p : Bool) : r05_plain.f w c f e p (plainB w c f e p) := by
  unfold r05_plain.f plainB
  cases c <;> cases f <;> cases e <;> cases p <;> simp [Bool.and_assoc]
def TWeight.Sized (w : TWeight) : Prop := w.Facts.Rows.length ≤ 17592186044416 ∧ w.Cells.length ≤ 17592186044416 ∧ w.Parts.length ≤ 17592186044416
theorem TWeight.Fit.sized {w : TWeight} (h : w.Fit) : w.Sized := by
  cases h with
  | mk _ h0 h1 h2 h3 h4 h5 h6 h7 h8 =>
    have := h2.2.1
    exact ⟨by omega, by omega, by omega⟩
theorem weight_bare.ok {w : TWeight} (h : w.Sized) (t : Int) : weight_bare.f w t (plainB w (t == 2) (t == 3) (t == 4) (t == 5)) := by
  obtain ⟨ha, hb, hc⟩ := h
  have e : ∀ a b c : Nat, a ≤ 17592186044416 → b ≤ 17592186044416 → c ≤ 17592186044416 → (IntKind.i64.wrap (IntKind.i64.wrap ((a : Int) + b) + c) == 0) = (((a : Int) == 0) && (((b : Int) == 0) && ((c : Int) == 0))) := by
    intro a b c h1 h2 h3
    rw [wrap64 (i := (a : Int) + b) (by omega) (by omega), wrap64 (by omega) (by omega), Bool.eq_iff_iff]
    simp only [beq_iff_eq, Bool.and_eq_true]
    omega
  have z : ((([] : List Int).length : Nat) : Int) = 0 := rfl
  unfold weight_bare.f weight_bare.j1 plainB
  by_cases h2 : t = 2
  · subst h2; rw [if_pos rfl]; simp only []; rw [e _ _ _ ha hb hc]; simp [Bool.and_assoc]
  · by_cases h3 : t = 3
    · subst h3; simp only [Int.reduceEq, if_true, if_false]; rw [e _ _ _ (by simp) hb hc]; simp
    · by_cases h4 : t = 4
      · subst h4; simp only [Int.reduceEq, if_true, if_false]; rw [e _ _ _ ha (by simp) hc]; simp [Bool.and_assoc]
      · by_cases h5 : t = 5
        · subst h5; simp only [Int.reduceEq, if_true, if_false]; rw [e _ _ _ ha hb (by simp)]; simp [Bool.and_assoc]
        · simp only [h2, h3, h4, h5, if_false]; rw [e _ _ _ ha hb hc]
          rw [beq_false_of_ne h2, beq_false_of_ne h3, beq_false_of_ne h4, beq_false_of_ne h5]
          simp only [Bool.false_or, Bool.and_assoc]
def cellOk (n : Int) (c : TCell) : Bool :=
  (bitOp .andNot .u64 c.From (fullM n) == 0) && (if c.Kind = 0 then c.K == 0 else if c.Kind = 1 then true else if c.Kind = 2 then (c.K == 0) && (c.From == 0) else false)
theorem cells_mask.ok {n : Int} (h0 : 0 ≤ n) (h1 : n ≤ 64) : cells_mask.f n (fullM n) := by
  unfold cells_mask.f
  by_cases h : n ≥ 64
  · have : n = 64 := by omega
    subst this
    simp only [ge_iff_le, Int.le_refl, if_true]; decide
  · rw [if_neg h]
    refine ⟨h0, ?_⟩
    have hlt := two_pow_lt (n := n.toNat) (by omega)
    have hpos : (0 : Int) < 2 ^ n.toNat := Int.pow_pos (by decide)
    have e : shlI .u64 1 n = 2 ^ n.toNat := by
      unfold shlI
      rw [show (min n.toNat IntKind.u64.bits) = n.toNat by simp [IntKind.bits]; omega]
      rw [Int.one_mul, wrapu64 (by omega) hlt]
    rw [e, wrapu64 (by omega) (by omega)]
    rfl
theorem cells_right.ok {n : Int} (h0 : 0 ≤ n) (h1 : n ≤ 64) (c : TCell) : cells_right.f n c (cellOk n c) := by
  refine ⟨_, cells_mask.ok h0 h1, ?_⟩
  unfold cellOk
  by_cases hm : bitOp .andNot .u64 c.From (fullM n) = 0
  · simp only [hm, if_true, beq_self_eq_true, Bool.true_and]
    by_cases k1 : c.Kind = 1
    · simp [k1]
    · by_cases k0 : c.Kind = 0
      · simp [k0]
      · by_cases k2 : c.Kind = 2
        · simp [k2, Bool.and_comm]
        · simp [k0, k1, k2]
  · simp [hm]
theorem fullI {n : Int} (h0 : 0 ≤ n) (h1 : n ≤ 64) : (if n < 0 ∨ n > 64 then ((0, 10) : Int × Int) else (fullM n, 0)) = (fullM n, 0) := by rw [if_neg (by omega)]
theorem r03_Inside.ok {n : Int} (h0 : 0 ≤ n) (h1 : n ≤ 64) (x : Int) : r03_Inside.f n x (bitOp .andNot .u64 x (fullM n) == 0) := by
  have := r01_Full.ok n
  rw [fullI h0 h1] at this
  exact ⟨_, this, rfl⟩
theorem r05_cell.ok {n : Int} (h0 : 0 ≤ n) (h1 : n ≤ 64) (c : TCell) : r05_cell.f n c (cellOk n c) := by
  refine ⟨_, r03_Inside.ok h0 h1 _, ?_⟩
  unfold cellOk
  by_cases hm : bitOp .andNot .u64 c.From (fullM n) = 0
  · simp only [hm, if_true, beq_self_eq_true, Bool.true_and]
    by_cases k0 : c.Kind = 0
    · simp [k0]
    · by_cases k1 : c.Kind = 1
      · simp [k1]
      · by_cases k2 : c.Kind = 2
        · simp [k2]
        · simp [k0, k1, k2]
  · simp [hm]
def cellsOk (n : Int) (l : List TCell) : Bool := ((l.length : Int) == n) && l.all (cellOk n)
theorem cells_Check.ok {n : Int} (h0 : 0 ≤ n) (h1 : n ≤ 64) {l : List TCell} (hl : l.length ≤ maxLen) : cells_Check.f n l (if cellsOk n l = true then 0 else 40) := by
  refine ⟨0, ?_, ?_⟩
  · unfold cells_dims.f; rw [if_neg (by simp; omega)]
  · simp only [if_true]
    unfold cellsOk
    by_cases hn : (l.length : Int) = n
    · rw [if_pos hn]
      have key := eachLoop (l := l) (b := cells_Check.b1 n l) (cellOk n) (40 : Int) (fun i i0 i1 => by
        unfold cells_Check.b1
        simp only [i1, if_true]
        exact ⟨fun ht => ⟨⟨i0, i1⟩, _, cells_right.ok h0 h1 _, by rw [ht, if_pos rfl, wrap_len hl i0 i1]⟩, fun ht => ⟨⟨i0, i1⟩, _, cells_right.ok h0 h1 _, by rw [ht]; simp⟩⟩) (fun i i0 i1 => by unfold cells_Check.b1; rw [if_neg i1])
      refine ⟨_, key, ?_⟩
      cases l.all (cellOk n) <;> simp [Fin.on, hn]
    · rw [if_neg hn]
      simp [hn]
end Go.RM.Tryz
namespace Go.RM.Tryz
open Go.RM
set_option linter.unusedVariables false
set_option linter.unusedSimpArgs false
theorem slices_Equal_uint64.ok {a b : List Int} (hl : a.length ≤ maxLen) : slices_Equal_uint64.f a b (decide (a = b)) := by
  unfold slices_Equal_uint64.f
  by_cases h : (a.length : Int) = b.length
  · rw [if_pos h]
    exact ⟨_, eqRound hl (by omega) rfl, eqOn⟩
  · rw [if_neg h]
    have : a ≠ b := fun e => h (by rw [e])
    simp [this]
def factsEq (a b : TFacts) : Bool := (a.Gen == b.Gen) && decide (a.Rows = b.Rows)
theorem facts_Same.ok {a b : TFacts} (hl : a.Rows.length ≤ maxLen) : facts_Same.f a b (factsEq a b) :=
  ⟨_, fun _ => slices_Equal_uint64.ok hl, rfl⟩
theorem r03_Same.ok {a b : TFacts} (hl : a.Rows.length ≤ maxLen) : r03_Same.f a b (factsEq a b) := by
  unfold r03_Same.f factsEq
  by_cases hg : a.Gen = b.Gen
  · by_cases h : (a.Rows.length : Int) = b.Rows.length
    · rw [if_neg (by simp [hg, h])]
      refine ⟨_, eqRound hl (by omega) rfl, ?_⟩
      simp only [hg, beq_self_eq_true, Bool.true_and]
      exact eqOn
    · rw [if_pos (by simp [h])]
      have : a.Rows ≠ b.Rows := fun e => h (by rw [e])
      simp [this]
  · rw [if_pos (by simp [hg])]
    simp [hg]
def canonM (F : TFacts) : TFacts := ⟨F.Gen, F.Rows.map (fun r => bitOp .andNot .u64 r F.Gen)⟩
theorem upto_rdl {α : Type} [Inhabited α] (l : List α) : (upto l.length).map (rdl l) = l := by
  apply List.ext_getElem?
  intro k
  simp only [upto, List.map_map, List.getElem?_map]
  by_cases h : k < l.length
  · rw [List.getElem?_range h]
    have := rdl_get (l := l) (i := (k : Int)) (by omega) (by omega)
    simp only [Int.toNat_natCast] at this
    rw [this]; rfl
  · rw [List.getElem?_eq_none (by simp; omega), List.getElem?_eq_none (by omega)]; rfl
theorem facts_canon.ok {F : TFacts} (h : F.Rows.length ≤ 17592186044416) : facts_canon.f F (canonM F) := by
  refine ⟨⟨by omega, by unfold Fits; omega⟩, ?_⟩
  have hm : F.Rows.length ≤ maxLen := by unfold maxLen; omega
  have key := fillLoop (n := (F.Rows.length : Int)) (b := facts_canon.b1 F) (0 : Int) (fun i _ => bitOp .andNot .u64 (rdl F.Rows i) F.Gen) (by omega) (fun i l h0 h1 hl => by
    unfold facts_canon.b1
    simp only [h1, if_true]
    exact ⟨⟨h0, h1⟩, ⟨h0, by omega⟩, by rw [wrap_len hm h0 h1]⟩) (fun l hl => by
    unfold facts_canon.b1
    simp)
  refine ⟨_, key, ?_⟩
  show canonM F = _
  unfold canonM
  congr 1
  have : F.Rows.map (fun r => bitOp .andNot .u64 r F.Gen) = ((upto F.Rows.length).map (rdl F.Rows)).map (fun r => bitOp .andNot .u64 r F.Gen) := by rw [upto_rdl]
  rw [this, List.map_map]; simp [Function.comp_def]
theorem r03_canon.ok {F : TFacts} (h : F.Rows.length ≤ 17592186044416) : r03_canon.f F (canonM F) := by
  have hm : F.Rows.length ≤ maxLen := by unfold maxLen; omega
  have key := foldLoop (l := F.Rows) (b := r03_canon.b1 F) (fun i l => (l, i)) id (fun _ x acc => .go (acc ++ [bitOp .andNot .u64 x F.Gen])) (fun i l => (l.length : Int) = i) (fun i l h0 h1 hi => by
    refine ⟨?_, by simp; omega⟩
    unfold r03_canon.b1
    simp only [h1, if_true]
    exact ⟨⟨h0, h1⟩, by unfold Fits; omega, by rw [wrap_len hm h0 h1]⟩) (fun l hl => by unfold r03_canon.b1; simp) [] rfl
  refine ⟨_, key.1, ?_⟩
  rw [foldF_map]
  rfl
def factsOk (n : Int) (F : TFacts) : Bool :=
  ((F.Rows.length : Int) == n) && ((bitOp .andNot .u64 F.Gen (fullM n) == 0) && (F.Rows.all (fun x => bitOp .andNot .u64 x (fullM n) == 0) && factsEq (canonM F) F))
theorem canonM_len (F : TFacts) : (canonM F).Rows.length = F.Rows.length := by simp [canonM]
theorem facts_Check.ok {n : Int} (h0 : 0 ≤ n) (h1 : n ≤ 64) {F : TFacts} (hl : F.Rows.length ≤ 17592186044416) : facts_Check.f n F (if factsOk n F = true then 0 else 30) := by
  have hm : F.Rows.length ≤ maxLen := by unfold maxLen; omega
  let a := F.Rows.any (fun x => bitOp .andNot .u64 x (fullM n) != 0)
  have hs : facts_shaped.f n F (if ((!((F.Rows.length : Int) == n)) || ((!((bitOp .andNot .u64 F.Gen (fullM n)) == 0)) || a)) = true then 30 else 0) := by
    have hf := bits_Full.ok n
    rw [fullI h0 h1] at hf
    refine ⟨_, hf, ?_⟩
    simp only [if_true]
    refine ⟨a, fun _ _ => containsFunc (q := fun x0_ y_ => facts_shaped_1.f x0_ (fullM n) y_) (fun x => bitOp .andNot .u64 x (fullM n) != 0) hm (fun x hx => rfl) rfl, iteR _⟩
  refine ⟨_, hs, ?_⟩
  have e : F.Rows.all (fun x => bitOp .andNot .u64 x (fullM n) == 0) = !a := by simp [a, List.all_eq_not_any_not]; rfl
  unfold factsOk
  rw [e]
  by_cases hn : (F.Rows.length : Int) = n
  · by_cases hg : bitOp .andNot .u64 F.Gen (fullM n) = 0
    · cases ha : a with
      | false =>
        simp only [hn, hg, beq_self_eq_true, Bool.not_true, Bool.or_self, Bool.false_eq_true, if_false, if_true]
        refine ⟨_, facts_canon.ok hl, _, facts_Same.ok (by rw [canonM_len]; exact hm), ?_⟩
        cases factsEq (canonM F) F <;> simp
      | true => simp [hn, hg]
    · simp [hg]
  · simp [hn]
theorem r03_Check.ok {n : Int} (h0 : 0 ≤ n) (h1 : n ≤ 64) {F : TFacts} (hl : F.Rows.length ≤ 17592186044416) : r03_Check.f n F (if factsOk n F = true then 0 else 30) := by
  have hm : F.Rows.length ≤ maxLen := by unfold maxLen; omega
  let s : Bool := ((F.Rows.length : Int) == n) && ((bitOp .andNot .u64 F.Gen (fullM n) == 0) && F.Rows.all (fun x => bitOp .andNot .u64 x (fullM n) == 0))
  have hs : r03_shape.f n F s := by
    refine ⟨_, fun _ => r03_Inside.ok h0 h1 _, ?_⟩
    by_cases hn : (F.Rows.length : Int) = n
    · by_cases hg : bitOp .andNot .u64 F.Gen (fullM n) = 0
      · rw [if_neg (by simp [hn, hg])]
        have key := eachLoop (l := F.Rows) (b := r03_shape.b1 n F) (fun x => bitOp .andNot .u64 x (fullM n) == 0) false (fun i i0 i1 => by
          unfold r03_shape.b1
          have i2 : i < n := by omega
          simp only [i2, if_true]
          exact ⟨fun ht => ⟨⟨i0, i1⟩, _, r03_Inside.ok h0 h1 _, by rw [ht, if_pos rfl, wrap_len hm i0 i1]⟩, fun ht => ⟨⟨i0, i1⟩, _, r03_Inside.ok h0 h1 _, by rw [ht]; simp⟩⟩) (fun i i0 i1 => by unfold r03_shape.b1; rw [if_neg (by omega)])
        refine ⟨_, key, ?_⟩
        simp only [s, hn, hg, beq_self_eq_true, Bool.true_and]
        cases F.Rows.all (fun x => bitOp .andNot .u64 x (fullM n) == 0) <;> simp [Fin.on]
      · rw [if_pos (by simp [hg])]; simp [s, hg]
    · rw [if_pos (by simp [hn])]; simp [s, hn]
  refine ⟨true, ?_, ?_⟩
  · unfold r03_dim.f; simp; omega
  · rw [if_pos rfl]
    refine ⟨_, hs, _, fun _ => r03_canon.ok hl, _, fun _ => r03_Same.ok (by rw [canonM_len]; exact hm), ?_⟩
    have e : factsOk n F = (s && factsEq (canonM F) F) := by simp [factsOk, s, Bool.and_assoc]
    rw [e]
    cases s <;> cases factsEq (canonM F) F <;> simp
end Go.RM.Tryz
namespace Go.RM.Tryz
open Go.RM
set_option linter.unusedVariables false
set_option linter.unusedSimpArgs false
def isW1 (s : TSpace) (w : TWeight) : Bool :=
  if w.Zero = true then plainB w false false false false
  else plainB w (s.Tag == 2) (s.Tag == 3) (s.Tag == 4) false && (if s.Tag = 2 then decide (w.Cost ≥ 0) && decide (w.Cost ≤ s.Dim) else if s.Tag = 3 then factsOk s.Dim w.Facts else if s.Tag = 4 then cellsOk s.Dim w.Cells else true)
def isW (s : TSpace) (w : TWeight) : Bool :=
  if s.Tag = 5 then (!w.Zero) && (plainB w false false false true && (((w.Parts.length : Int) == 2) && (isW1 (rdl s.Parts 0) (rdl w.Parts 0) && isW1 (rdl s.Parts 1) (rdl w.Parts 1)))) else isW1 s w
def TWeight.Sized2 (w : TWeight) : Prop := w.Sized ∧ ∀ p ∈ w.Parts, p.Sized
theorem TWeight.Fit.sized2 {w : TWeight} (h : w.Fit) : w.Sized2 := ⟨h.sized, by
  cases h with
  | mk _ h0 h1 h2 h3 h4 h5 h6 h7 h8 => exact fun p hp => (h8 p hp).sized⟩
theorem space1_cases {s : TSpace} (h : spaceOk1 s = true) : (s.Tag = 1 ∧ s.Dim = 0) ∨ (s.Tag = 2 ∧ 0 ≤ s.Dim ∧ s.Dim ≤ 1048576) ∨ (s.Tag = 3 ∧ 0 ≤ s.Dim ∧ s.Dim ≤ 64) ∨ (s.Tag = 4 ∧ 0 ≤ s.Dim ∧ s.Dim ≤ 64) := by
  unfold spaceOk1 at h
  by_cases h1 : s.Tag = 1
  · simp [h1] at h; exact .inl ⟨h1, h.1⟩
  · by_cases h2 : s.Tag = 2
    · simp [h2] at h; exact .inr (.inl ⟨h2, h.1, h.2.1⟩)
    · by_cases h3 : s.Tag = 3
      · simp [h3] at h; exact .inr (.inr (.inl ⟨h3, h.1, h.2.1⟩))
      · by_cases h4 : s.Tag = 4
        · simp [h4] at h; exact .inr (.inr (.inr ⟨h4, h.1, h.2.1⟩))
        · simp [h1, h2, h3, h4] at h
theorem space_parts {s : TSpace} (h : spaceOk s = true) (h5 : s.Tag = 5) : ∃ a b, s.Parts = [a, b] ∧ spaceOk1 a = true ∧ spaceOk1 b = true ∧ a.Tag ≠ 5 ∧ b.Tag ≠ 5 ∧ s.Dim = 0 := by
  unfold spaceOk at h
  rw [if_pos h5] at h
  rw [Bool.and_eq_true, Bool.and_eq_true] at h
  obtain ⟨hd, hl, ha⟩ := h
  have : s.Parts.length = 2 := by simp at hl; omega
  match hs : s.Parts, this with
  | [a, b], _ =>
    rw [hs] at ha
    simp at ha hd
    exact ⟨a, b, rfl, ha.1.2, ha.2.2, ha.1.1, ha.2.1, hd⟩
theorem weight_is.step1 {self : TSpace → TWeight → Bool → Prop} {s : TSpace} {w : TWeight} (hs : spaceOk1 s = true) (hw : w.Sized) : weight_is.step self s w (isW1 s w) := by
  have hm : w.Cells.length ≤ maxLen := by have := hw.2.1; unfold maxLen; omega
  unfold weight_is.step isW1
  cases hz : w.Zero with
  | true =>
    rw [if_pos rfl, if_pos rfl]
    refine ⟨_, fun _ => weight_bare.ok hw 0, ?_⟩
    have h5 : s.Tag ≠ 5 := by rcases space1_cases hs with h | h | h | h <;> omega
    simp [h5]
  | false =>
    rw [if_neg Bool.false_ne_true, if_neg Bool.false_ne_true]
    have h5 : s.Tag ≠ 5 := by rcases space1_cases hs with h | h | h | h <;> omega
    refine ⟨_, weight_bare.ok hw s.Tag, ?_⟩
    rw [beq_false_of_ne h5]
    cases hp : plainB w (s.Tag == 2) (s.Tag == 3) (s.Tag == 4) false with
    | false => simp
    | true =>
      rw [if_pos rfl, Bool.true_and]
      rcases space1_cases hs with h | h | h | h
      · simp [h.1]
      · simp only [h.1, Int.reduceEq, if_true, if_false]
        refine ⟨_, fun _ => cost_Check.ok _ _, ?_⟩
        unfold costE
        rw [if_neg (by omega), Bool.eq_iff_iff]
        by_cases hv : w.Cost < -1 ∨ w.Cost > s.Dim
        · rw [if_pos hv]; simp; omega
        · rw [if_neg hv]; simp; omega
      · simp only [h.1, Int.reduceEq, if_true, if_false]
        refine ⟨_, facts_Check.ok h.2.1 h.2.2 hw.1, ?_⟩
        cases factsOk s.Dim w.Facts <;> simp
      · simp only [h.1, Int.reduceEq, if_true, if_false]
        refine ⟨_, cells_Check.ok h.2.1 h.2.2 hm, ?_⟩
        cases cellsOk s.Dim w.Cells <;> simp
theorem isW_ne {s : TSpace} {w : TWeight} (h : s.Tag ≠ 5) : isW s w = isW1 s w := by unfold isW; rw [if_neg h]
theorem part_sized {w : TWeight} (hw : w.Sized2) {i : Int} (h0 : 0 ≤ i) (h1 : i < w.Parts.length) : (rdl w.Parts i).Sized := hw.2 _ (rdl_mem h0 h1)
theorem weight_is.ok {s : TSpace} {w : TWeight} (hs : spaceOk s = true) (hw : w.Sized2) : weight_is.f s w (isW s w) := by
  refine ⟨2, ?_⟩
  by_cases h5 : s.Tag = 5
  · obtain ⟨a, b, hp, ha, hb, _, _, hd⟩ := space_parts hs h5
    show weight_is.step (weight_is.fN 1) s w _
    unfold weight_is.step isW
    rw [if_pos h5]
    cases hz : w.Zero with
    | true =>
      rw [if_pos rfl]
      exact ⟨false, fun h => (h h5).elim, by simp [h5]⟩
    | false =>
      rw [if_neg Bool.false_ne_true]
      refine ⟨_, weight_bare.ok hw.1 s.Tag, ?_⟩
      simp only [h5, Int.reduceBEq]
      cases hb : plainB w false false false true with
      | false => simp
      | true =>
        simp only [Int.reduceEq, if_true, if_false, hp]
        by_cases h2 : (w.Parts.length : Int) = 2
        · refine ⟨fun _ => ⟨by decide, by simp⟩, fun _ => ⟨by decide, by omega⟩, _, fun _ => weight_is.step1 (self := weight_is.fN 0) ha (part_sized hw (by decide) (by omega)), fun _ _ => ⟨by decide, by simp⟩, fun _ _ => ⟨by decide, by omega⟩, _, fun _ _ => weight_is.step1 (self := weight_is.fN 0) (by assumption) (part_sized hw (by decide) (by omega)), ?_⟩
          simp [h2]
        · refine ⟨fun h => (h2 h).elim, fun h => (h2 h).elim, false, fun h => (h2 h).elim, fun h => (h2 h).elim, fun h => (h2 h).elim, false, fun h => (h2 h).elim, ?_⟩
          simp [h2]
  · have h1 : spaceOk1 s = true := by rw [← spaceOk_ne h5]; exact hs
    rw [isW_ne h5]; exact weight_is.step1 h1 hw.1
theorem r05_is.step1 {self : TSpace → TWeight → Bool → Prop} {s : TSpace} {w : TWeight} (hs : spaceOk1 s = true) (hw : w.Sized) : r05_is.step self s w (isW1 s w) := by
  have hm : w.Cells.length ≤ maxLen := by have := hw.2.1; unfold maxLen; omega
  unfold r05_is.step isW1
  have h5 : s.Tag ≠ 5 := by rcases space1_cases hs with h | h | h | h <;> omega
  cases hz : w.Zero with
  | true =>
    rw [if_pos rfl, if_pos rfl]
    exact ⟨_, fun _ => r05_plain.ok w false false false false, by simp [h5]⟩
  | false =>
    rw [if_neg Bool.false_ne_true, if_neg Bool.false_ne_true]
    rcases space1_cases hs with h | h | h | h
    · simp only [h.1, Int.reduceEq, Int.reduceBEq, if_true, if_false, Bool.and_true]
      exact ⟨_, r05_plain.ok w false false false false, rfl⟩
    · simp only [h.1, Int.reduceEq, Int.reduceBEq, if_true, if_false]
      exact ⟨_, r05_plain.ok w true false false false, rfl⟩
    · simp only [h.1, Int.reduceEq, Int.reduceBEq, if_true, if_false]
      refine ⟨_, r05_plain.ok w false true false false, _, fun _ => r03_Check.ok h.2.1 h.2.2 hw.1, ?_⟩
      cases factsOk s.Dim w.Facts <;> simp
    · simp only [h.1, Int.reduceEq, Int.reduceBEq, if_true, if_false]
      refine ⟨_, r05_plain.ok w false false true false, ?_⟩
      unfold cellsOk
      cases hp : plainB w false false true false with
      | false => simp
      | true =>
        by_cases hn : (w.Cells.length : Int) = s.Dim
        · rw [if_neg (by simp [hn])]
          have key := eachLoop (l := w.Cells) (b := r05_is.b1 s w) (cellOk s.Dim) false (fun i i0 i1 => by
            unfold r05_is.b1
            simp only [i1, if_true]
            exact ⟨fun ht => ⟨⟨i0, i1⟩, _, r05_cell.ok h.2.1 h.2.2 _, by rw [ht, if_pos rfl, wrap_len hm i0 i1]⟩, fun ht => ⟨⟨i0, i1⟩, _, r05_cell.ok h.2.1 h.2.2 _, by rw [ht]; simp⟩⟩) (fun i i0 i1 => by unfold r05_is.b1; simp only [i1, if_false])
          refine ⟨_, key, ?_⟩
          cases w.Cells.all (cellOk s.Dim) <;> simp [Fin.on, hn]
        · rw [if_pos (by simp [hn])]; simp [hn]
theorem r05_is.ok {s : TSpace} {w : TWeight} (hs : spaceOk s = true) (hw : w.Sized2) : r05_is.f s w (isW s w) := by
  refine ⟨2, ?_⟩
  by_cases h5 : s.Tag = 5
  · obtain ⟨a, b, hp, ha, hb, _, _, hd⟩ := space_parts hs h5
    show r05_is.step (r05_is.fN 1) s w _
    unfold r05_is.step isW
    rw [if_pos h5]
    cases hz : w.Zero with
    | true =>
      rw [if_pos rfl]
      exact ⟨false, fun h => (h h5).elim, by simp [h5]⟩
    | false =>
      rw [if_neg Bool.false_ne_true]
      simp only [h5, Int.reduceEq, if_true, if_false, hp]
      refine ⟨_, r05_plain.ok w false false false true, ?_⟩
      cases hb : plainB w false false false true with
      | false => exact ⟨fun h => (by cases h), fun h => (by cases h), false, fun h => (by cases h), fun h => (by cases h), fun h => (by cases h), false, fun h => (by cases h), by simp⟩
      | true =>
        by_cases h2 : (w.Parts.length : Int) = 2
        · refine ⟨fun _ _ => ⟨by decide, by simp⟩, fun _ _ => ⟨by decide, by omega⟩, _, fun _ _ => r05_is.step1 (self := r05_is.fN 0) ha (part_sized hw (by decide) (by omega)), fun _ _ _ => ⟨by decide, by simp⟩, fun _ _ _ => ⟨by decide, by omega⟩, _, fun _ _ _ => r05_is.step1 (self := r05_is.fN 0) (by assumption) (part_sized hw (by decide) (by omega)), ?_⟩
          simp [h2]
        · refine ⟨fun _ h => (h2 h).elim, fun _ h => (h2 h).elim, false, fun _ h => (h2 h).elim, fun _ h => (h2 h).elim, fun _ h => (h2 h).elim, false, fun _ h => (h2 h).elim, ?_⟩
          simp [h2]
  · have h1 : spaceOk1 s = true := by rw [← spaceOk_ne h5]; exact hs
    rw [isW_ne h5]; exact r05_is.step1 h1 hw.1
def allC (s : TSpace) (l : List TWeight) : Int := if spaceOk s = true then (if l.all (isW s) = true then 0 else 51) else 50
theorem weight_checked.ok {s : TSpace} {l : List TWeight} (hs : s.Parts.length ≤ maxLen) (hl : l.length ≤ maxLen) (hw : ∀ w ∈ l, w.Sized2) : weight_checked.f s l (allC s l) := by
  refine ⟨_, weight_Space.ok hs, ?_⟩
  unfold allC
  cases h : spaceOk s with
  | false => simp
  | true =>
    simp only [if_true]
    refine ⟨l.any (fun w => !isW s w), containsFunc (q := fun x y => weight_checked_1.f x s y) (fun w => !isW s w) hl (fun w hm => ⟨_, weight_is.ok h (hw w hm), rfl⟩) rfl, ?_⟩
    rw [List.all_eq_not_any_not]
    cases l.any (fun w => !isW s w) <;> simp
def wC (s : TSpace) (w : TWeight) : Int := if spaceOk s = true then (if isW s w = true then 0 else 51) else 50
theorem wC_all (s : TSpace) (w : TWeight) : allC s [w] = wC s w := by simp [allC, wC]
theorem weight_Check.ok {s : TSpace} {w : TWeight} (hs : s.Parts.length ≤ maxLen) (hw : w.Sized2) : weight_Check.f s w (wC s w) := by
  refine ⟨_, weight_checked.ok hs (by simp [maxLen]) (fun x hx => by simp at hx; subst hx; exact hw), (wC_all s w).symm⟩
theorem r05_Check.ok {s : TSpace} {w : TWeight} (hs : s.Parts.length ≤ maxLen) (hw : w.Sized2) : r05_Check.f s w (wC s w) := by
  refine ⟨_, r05_Space.ok hs, ?_⟩
  unfold wC
  cases h : spaceOk s with
  | false => simp
  | true =>
    simp only [if_true]
    exact ⟨_, r05_is.ok h hw, iteR _⟩
end Go.RM.Tryz
namespace Go.RM.Tryz
open Go.RM
set_option linter.unusedVariables false
set_option linter.unusedSimpArgs false
theorem shl_one {i : Int} (h0 : 0 ≤ i) (h1 : i < 64) : shlI .u64 1 i = 2 ^ i.toNat := by
  have hlt := two_pow_lt (n := i.toNat) (by omega)
  have hpos : (0 : Int) < 2 ^ i.toNat := Int.pow_pos (by decide)
  unfold shlI
  rw [show (min i.toNat IntKind.u64.bits) = i.toNat by simp [IntKind.bits]; omega]
  rw [Int.one_mul, wrapu64 (by omega) hlt]
def noneW : TWeight := ⟨false, 0, ⟨0, []⟩, [], []⟩
def oneF (n : Int) : TFacts := ⟨0, (upto n.toNat).map (fun i => 2 ^ i.toNat)⟩
def oneC (n : Int) : List TCell := (upto n.toNat).map (fun i => ⟨2 ^ i.toNat, 0, 0⟩)
theorem upto_mem {n : Nat} {i : Int} (h : i ∈ upto n) : 0 ≤ i ∧ i < n := by
  simp only [upto, List.mem_map, List.mem_range] at h
  obtain ⟨k, hk, rfl⟩ := h
  simp; exact hk
theorem facts_One.ok {n : Int} (h0 : 0 ≤ n) (h1 : n ≤ 64) : facts_One.f n (oneF n, 0) := by
  have hf := bits_Full.ok n
  rw [fullI h0 h1] at hf
  refine ⟨_, hf, ?_⟩
  simp only [if_true]
  refine ⟨⟨h0, by unfold Fits; omega⟩, ?_⟩
  have hr : ((List.replicate (Int.toNat n) (0 : Int)).length : Int) = n := by simp; omega
  have key := fillLoop (n := n) (b := facts_One.b1 n) (0 : Int) (fun i _ => shlI .u64 1 (IntKind.u64.wrap i)) h0 (fun i l i0 i1 hl => by
    unfold facts_One.b1
    rw [hr]
    simp only [i1, if_true]
    rw [wrapu64 i0 (by omega), wrap64 (by omega) (by omega)]
    exact ⟨i0, ⟨i0, by omega⟩, rfl⟩) (fun l hl => by
    unfold facts_One.b1
    rw [hr]
    simp)
  refine ⟨_, key, ?_⟩
  show (oneF n, (0 : Int)) = (TFacts.mk 0 _, 0)
  unfold oneF
  congr 2
  refine List.map_congr_left fun i hi => ?_
  have := upto_mem hi
  rw [wrapu64 this.1 (by omega), shl_one this.1 (by omega)]
theorem cells_One.ok {n : Int} (h0 : 0 ≤ n) (h1 : n ≤ 64) : cells_One.f n (oneC n, 0) := by
  refine ⟨0, by unfold cells_dims.f; rw [if_neg (by simp; omega)], ?_⟩
  simp only [if_true]
  refine ⟨oneC n, ⟨⟨h0, by unfold Fits; omega⟩, ?_⟩, rfl⟩
  have key := fillLoop (n := n) (b := cells_one.b1 n) (TCell.mk 0 0 0) (fun i c => TCell.mk (shlI .u64 1 i) c.Kind c.K) h0 (fun i l i0 i1 hl => by
    unfold cells_one.b1
    simp only [i1, if_true]
    rw [wrap64 (by omega) (by omega)]
    exact ⟨i0, ⟨i0, by omega⟩, rfl⟩) (fun l hl => by
    unfold cells_one.b1
    simp)
  refine ⟨_, key, ?_⟩
  show oneC n = _
  unfold oneC
  refine List.map_congr_left fun i hi => ?_
  have := upto_mem hi
  rw [shl_one this.1 (by omega)]
theorem r03_One.ok {n : Int} (h0 : 0 ≤ n) (h1 : n ≤ 64) : r03_One.f n (oneF n, 0) := by
  refine ⟨true, by unfold r03_dim.f; simp; omega, ?_⟩
  rw [if_pos rfl]
  have key := (countLoop (n := n) (b := r03_One.b1 n) (fun i l => (l, i)) id (fun i acc => .go (acc ++ [2 ^ i.toNat])) (fun i l => (l.length : Int) = i) (fun i l i0 i1 hi => by
    refine ⟨?_, by simp; omega⟩
    unfold r03_One.b1
    simp only [i1, if_true]
    exact ⟨_, r01_Worth.ok i0 (by omega), by unfold Fits; omega, by rw [wrap64 (by omega) (by omega)]⟩) (fun l hl => by unfold r03_One.b1; simp) [] h0 rfl).1
  refine ⟨_, key, ?_⟩
  rw [countF_app]
  show (oneF n, (0 : Int)) = (TFacts.mk 0 _, 0)
  simp [oneF]
def oneW1 (s : TSpace) : TWeight := if s.Tag = 3 then ⟨false, 0, oneF s.Dim, [], []⟩ else if s.Tag = 4 then ⟨false, 0, ⟨0, []⟩, oneC s.Dim, []⟩ else noneW
def oneW (s : TSpace) : TWeight := if s.Tag = 5 then ⟨false, 0, ⟨0, []⟩, [], [oneW1 (rdl s.Parts 0), oneW1 (rdl s.Parts 1)]⟩ else oneW1 s
theorem oneW_ne {s : TSpace} (h : s.Tag ≠ 5) : oneW s = oneW1 s := by unfold oneW; rw [if_neg h]
theorem weight_one.step1 {self : TSpace → TWeight → Prop} {s : TSpace} (hs : spaceOk1 s = true) : weight_one.step self s (oneW1 s) := by
  unfold weight_one.step oneW1
  rcases space1_cases hs with h | h | h | h
  · simp [h.1, noneW]
  · simp [h.1, noneW]
  · simp only [h.1, Int.reduceEq, if_true, if_false]
    exact ⟨_, facts_One.ok h.2.1 h.2.2, rfl⟩
  · simp only [h.1, Int.reduceEq, if_true, if_false]
    exact ⟨_, cells_One.ok h.2.1 h.2.2, rfl⟩
theorem r05_one.step1 {self : TSpace → TWeight → Prop} {s : TSpace} (hs : spaceOk1 s = true) : r05_one.step self s (oneW1 s) := by
  unfold r05_one.step oneW1
  rcases space1_cases hs with h | h | h | h
  · simp [h.1, noneW]
  · simp [h.1, noneW]
  · simp only [h.1, Int.reduceEq, if_true, if_false]
    exact ⟨_, r03_One.ok h.2.1 h.2.2, rfl⟩
  · simp only [h.1, Int.reduceEq, if_true, if_false]
    have key := (countLoop (n := s.Dim) (b := r05_one.b1 s) (fun i l => (l, i)) id (fun i acc => .go (acc ++ [TCell.mk (2 ^ i.toNat) 0 0])) (fun i l => (l.length : Int) = i) (fun i l i0 i1 hi => by
      refine ⟨?_, by simp; omega⟩
      unfold r05_one.b1
      simp only [i1, if_true]
      exact ⟨_, r01_Worth.ok i0 (by omega), by unfold Fits; omega, by rw [wrap64 (by omega) (by omega)]⟩) (fun l hl => by unfold r05_one.b1; simp) [] h.2.1 rfl).1
    refine ⟨_, key, ?_⟩
    rw [countF_app]
    show TWeight.mk false 0 ⟨0, []⟩ (oneC s.Dim) [] = TWeight.mk false 0 ⟨0, []⟩ _ []
    simp [oneC]
theorem weight_one.ok {s : TSpace} (hs : spaceOk s = true) : weight_one.f s (oneW s) := by
  refine ⟨2, ?_⟩
  by_cases h5 : s.Tag = 5
  · obtain ⟨a, b, hp, ha, hb, _, _, hd⟩ := space_parts hs h5
    show weight_one.step (weight_one.fN 1) s _
    unfold weight_one.step oneW
    simp only [h5, Int.reduceEq, if_true, if_false, hp]
    exact ⟨⟨by decide, by simp⟩, _, weight_one.step1 ha, ⟨by decide, by simp⟩, _, weight_one.step1 hb, rfl⟩
  · rw [oneW_ne h5]; exact weight_one.step1 (by rw [← spaceOk_ne h5]; exact hs)
theorem r05_one.ok {s : TSpace} (hs : spaceOk s = true) : r05_one.f s (oneW s) := by
  refine ⟨2, ?_⟩
  by_cases h5 : s.Tag = 5
  · obtain ⟨a, b, hp, ha, hb, _, _, hd⟩ := space_parts hs h5
    show r05_one.step (r05_one.fN 1) s _
    unfold r05_one.step oneW
    simp only [h5, Int.reduceEq, if_true, if_false, hp]
    exact ⟨⟨by decide, by simp⟩, _, r05_one.step1 ha, ⟨by decide, by simp⟩, _, r05_one.step1 hb, rfl⟩
  · rw [oneW_ne h5]; exact r05_one.step1 (by rw [← spaceOk_ne h5]; exact hs)
def oneR (s : TSpace) : TWeight × Int := if spaceOk s = true then (oneW s, 0) else (noneW, 50)
theorem weight_One.ok {s : TSpace} (hl : s.Parts.length ≤ maxLen) : weight_One.f s (oneR s) := by
  refine ⟨_, weight_Space.ok hl, ?_⟩
  unfold oneR
  cases h : spaceOk s with
  | false => simp [noneW]
  | true => simp only [if_true]; exact ⟨_, weight_one.ok h, rfl⟩
theorem r05_One.ok {s : TSpace} (hl : s.Parts.length ≤ maxLen) : r05_One.f s (oneR s) := by
  refine ⟨_, r05_Space.ok hl, ?_⟩
  unfold oneR
  cases h : spaceOk s with
  | false => simp [noneW]
  | true => simp only [if_true]; exact ⟨_, r05_one.ok h, rfl⟩
end Go.RM.Tryz
namespace Go.RM.Tryz
open Go.RM
set_option linter.unusedVariables false
set_option linter.unusedSimpArgs false
theorem all2B_refl {α : Type} {test : α → α → Bool} : ∀ (l : List α), (∀ x ∈ l, test x x = true) → all2B test l l = true
  | [], _ => rfl
  | x :: l, h => by simp [all2B, h x (.head _), all2B_refl l (fun y hy => h y (.tail _ hy))]
theorem space1_parts {s : TSpace} (h : spaceOk1 s = true) : s.Parts = [] := by
  have : s.Parts.length = 0 := by
    unfold spaceOk1 at h
    by_cases h1 : s.Tag = 1
    · simp [h1] at h; simp [h.2]
    · by_cases h2 : s.Tag = 2
      · simp [h2] at h; simp [h.2.2]
      · by_cases h3 : s.Tag = 3
        · simp [h3] at h; simp [h.2.2]
        · by_cases h4 : s.Tag = 4
          · simp [h4] at h; simp [h.2.2]
          · simp [h1, h2, h3, h4] at h
  exact List.eq_nil_of_length_eq_zero this
theorem r05_Same.step1 {self : TWeight → TWeight → Bool → Prop} {w : TWeight} (hw : w.Sized) (h : ∀ p ∈ w.Parts, self p p true) : r05_Same.step self w w true := by
  obtain ⟨ha, hb, hc⟩ := hw
  have hm : ∀ n : Nat, n ≤ 17592186044416 → n ≤ maxLen := fun n hn => by unfold maxLen; omega
  refine ⟨_, fun _ _ => r03_Same.ok (hm _ ha), ?_⟩
  have hf : factsEq w.Facts w.Facts = true := by simp [factsEq]
  rw [hf, if_neg (by simp)]
  have key1 := eachLoop (l := w.Cells) (b := r05_Same.b1 w w) (fun _ => true) false (fun i i0 i1 => by
    unfold r05_Same.b1
    simp only [i1, if_true, beq_self_eq_true, Bool.and_self]
    exact ⟨fun _ => ⟨⟨i0, i1⟩, ⟨i0, i1⟩, by rw [wrap_len (hm _ hb) i0 i1]⟩, fun ht => (by cases ht)⟩) (fun i i0 i1 => by unfold r05_Same.b1; simp only [i1, if_false])
  refine ⟨_, key1, ?_⟩
  rw [if_pos (by simp)]
  have key2 := eachLoop (l := w.Parts) (b := r05_Same.b2 self w w) (fun _ => true) false (fun i i0 i1 => by
    unfold r05_Same.b2
    simp only [i1, if_true]
    exact ⟨fun _ => ⟨⟨i0, i1⟩, ⟨i0, i1⟩, _, h _ (rdl_mem i0 i1), by rw [if_pos rfl, wrap_len (hm _ hc) i0 i1]⟩, fun ht => (by cases ht)⟩) (fun i i0 i1 => by unfold r05_Same.b2; simp only [i1, if_false])
  exact ⟨_, key2, by simp [Fin.on]⟩
def Flat (w : TWeight) : Prop := w.Sized2 ∧ ∀ p ∈ w.Parts, p.Parts = []
theorem r05_Same.refl {w : TWeight} (hw : Flat w) : r05_Same.f w w true :=
  ⟨2, r05_Same.step1 (self := r05_Same.fN 1) hw.1.1 (fun p hp => r05_Same.step1 (self := r05_Same.fN 0) (hw.1.2 p hp) (by rw [hw.2 p hp]; simp))⟩
theorem isW1_parts {s : TSpace} {w : TWeight} (h : isW1 s w = true) : w.Parts = [] := by
  have : w.Parts.length = 0 := by
    unfold isW1 at h
    split at h
    · unfold plainB at h; simp at h; simp [h]
    · rw [Bool.and_eq_true] at h
      have h := h.1
      unfold plainB at h; simp at h; simp [h]
  exact List.eq_nil_of_length_eq_zero this
theorem sized_small {w : TWeight} (a : w.Facts.Rows.length ≤ 64) (b : w.Cells.length ≤ 64) (c : w.Parts = []) : w.Sized := ⟨by omega, by omega, by rw [c]; simp⟩
theorem oneW1_sized {s : TSpace} (hs : spaceOk1 s = true) : (oneW1 s).Sized ∧ (oneW1 s).Parts = [] := by
  unfold oneW1
  rcases space1_cases hs with h | h | h | h
  · simp only [h.1, Int.reduceEq, if_false]; exact ⟨sized_small (by simp [noneW]) (by simp [noneW]) rfl, by simp [noneW]⟩
  · simp only [h.1, Int.reduceEq, if_false]; exact ⟨sized_small (by simp [noneW]) (by simp [noneW]) rfl, by simp [noneW]⟩
  · simp only [h.1, Int.reduceEq, if_true, if_false]; exact ⟨sized_small (by simp [oneF, upto]; omega) (by simp) rfl, by simp⟩
  · simp only [h.1, Int.reduceEq, if_true, if_false]; exact ⟨sized_small (by simp) (by simp [oneC, upto]; omega) rfl, by simp⟩
theorem oneW_flat {s : TSpace} (hs : spaceOk s = true) : Flat (oneW s) := by
  by_cases h5 : s.Tag = 5
  · obtain ⟨a, b, hp, ha, hb, _, _, _⟩ := space_parts hs h5
    have ea : rdl s.Parts 0 = a := by rw [hp]; rfl
    have eb : rdl s.Parts 1 = b := by rw [hp]; rfl
    unfold oneW
    rw [if_pos h5, ea, eb]
    refine ⟨⟨⟨by simp, by simp, by simp⟩, ?_⟩, ?_⟩
    · intro p hm; simp at hm; rcases hm with rfl | rfl
      · exact (oneW1_sized ha).1
      · exact (oneW1_sized hb).1
    · intro p hm; simp at hm; rcases hm with rfl | rfl
      · exact (oneW1_sized ha).2
      · exact (oneW1_sized hb).2
  · have := oneW1_sized (s := s) (by rw [← spaceOk_ne h5]; exact hs)
    rw [oneW_ne h5]
    exact ⟨⟨this.1, by rw [this.2]; simp⟩, by rw [this.2]; simp⟩
theorem flat_none : Flat noneW := ⟨⟨⟨by simp [noneW], by simp [noneW], by simp [noneW]⟩, by simp [noneW]⟩, by simp [noneW]⟩
end Go.RM.Tryz
namespace Go.RM.Tryz
open Go.RM
set_option linter.unusedVariables false
set_option linter.unusedSimpArgs false
def InU (x : Int) : Prop := 0 ≤ x ∧ x < 18446744073709551616
def hasI (x : Int) (i : Nat) : Bool := x.toNat.testBit i
theorem hasI_high {x : Int} (hx : InU x) {i : Nat} (h : 64 ≤ i) : hasI x i = false := by
  unfold hasI
  apply Nat.testBit_lt_two_pow
  have h1 : (2 : Nat) ^ 64 ≤ 2 ^ i := Nat.pow_le_pow_right (by decide) h
  have h2 : (2 : Nat) ^ 64 = 18446744073709551616 := by decide
  have := hx.2; have := hx.1; omega
theorem ext64 {x y : Int} (hx : InU x) (hy : InU y) (h : ∀ i < 64, hasI x i = hasI y i) : x = y := by
  have : x.toNat = y.toNat := by
    apply Nat.eq_of_testBit_eq
    intro i
    by_cases hi : i < 64
    · exact h i hi
    · exact (hasI_high hx (by omega)).trans (hasI_high hy (by omega)).symm
  have := hx.1; have := hy.1; omega
theorem ofInt_toNat {x : Int} (hx : InU x) : (BitVec.ofInt 64 x).toNat = x.toNat := by
  rw [BitVec.toNat_ofInt]
  have := hx.1; have := hx.2
  have : x % ((2 ^ 64 : Nat) : Int) = x := by
    rw [show ((2 ^ 64 : Nat) : Int) = 18446744073709551616 by decide]
    exact Int.emod_eq_of_lt hx.1 hx.2
  rw [this]
theorem toNat_InU (b : BitVec 64) : InU (b.toNat : Int) := by
  have := b.isLt
  have h2 : (2 : Nat) ^ 64 = 18446744073709551616 := by decide
  exact ⟨by omega, by omega⟩
theorem bitOp_andNot {x y : Int} : bitOp .andNot .u64 x y = ((BitVec.ofInt 64 x &&& ~~~ BitVec.ofInt 64 y).toNat : Int) := by
  show IntKind.u64.wrap ((BitVec.ofInt 64 x &&& ~~~ BitVec.ofInt 64 y).toNat : Int) = _
  have := toNat_InU (BitVec.ofInt 64 x &&& ~~~ BitVec.ofInt 64 y)
  exact wrapu64 this.1 this.2
theorem andNot_InU (x y : Int) : InU (bitOp .andNot .u64 x y) := by rw [bitOp_andNot]; exact toNat_InU _
theorem bv_has (b : BitVec 64) (i : Nat) : hasI (b.toNat : Int) i = b.getLsbD i := rfl
theorem ofInt_bit {x : Int} (hx : InU x) (i : Nat) : (BitVec.ofInt 64 x).getLsbD i = hasI x i := by
  show (BitVec.ofInt 64 x).toNat.testBit i = _
  rw [ofInt_toNat hx]; rfl
theorem has_andNot {x y : Int} (hx : InU x) (hy : InU y) {i : Nat} (hi : i < 64) : hasI (bitOp .andNot .u64 x y) i = (hasI x i && !hasI y i) := by
  rw [bitOp_andNot, bv_has, BitVec.getLsbD_and, BitVec.getLsbD_not, ofInt_bit hx, ofInt_bit hy]
  simp [hi]
theorem has_zero (i : Nat) : hasI 0 i = false := by simp [hasI]
theorem pow_toNat (n : Nat) : ((2 : Int) ^ n).toNat = 2 ^ n := by
  have h2 : ((2 ^ n : Nat) : Int) = (2 : Int) ^ n := by simp
  rw [← h2]; exact Int.toNat_natCast _
theorem has_pow (k i : Nat) : hasI (2 ^ k) i = decide (k = i) := by
  unfold hasI
  rw [pow_toNat, Nat.testBit_two_pow]
theorem pow_InU {k : Nat} (h : k < 64) : InU (2 ^ k) := ⟨Int.le_of_lt (Int.pow_pos (by decide)), two_pow_lt h⟩
theorem has_full {n : Int} (h0 : 0 ≤ n) (i : Nat) : hasI (fullM n) i = decide ((i : Int) < n) := by
  unfold hasI fullM
  have : ((2 : Int) ^ n.toNat - 1).toNat = 2 ^ n.toNat - 1 := by
    have := pow_toNat n.toNat
    omega
  rw [this, Nat.testBit_two_pow_sub_one]
  rw [decide_eq_decide]
  omega
theorem full_InU {n : Int} (h0 : 0 ≤ n) (h1 : n ≤ 64) : InU (fullM n) := by
  unfold fullM
  have hp : (0 : Int) < 2 ^ n.toNat := Int.pow_pos (by decide)
  have h2 : (2 : Nat) ^ n.toNat ≤ 2 ^ 64 := Nat.pow_le_pow_right (by decide) (by omega)
  have h3 : ((2 ^ n.toNat : Nat) : Int) = (2 : Int) ^ n.toNat := by simp
  have h4 : (2 : Nat) ^ 64 = 18446744073709551616 := by decide
  exact ⟨by omega, by omega⟩
theorem inside_iff {x n : Int} (hx : InU x) (h0 : 0 ≤ n) (h1 : n ≤ 64) : bitOp .andNot .u64 x (fullM n) = 0 ↔ ∀ i : Nat, hasI x i = true → (i : Int) < n := by
  constructor
  · intro h i hi
    have h64 : i < 64 := by
      apply Nat.lt_of_not_le; intro hge; rw [hasI_high hx hge] at hi; cases hi
    have := has_andNot hx (full_InU h0 h1) h64
    rw [h, has_zero, hi, has_full h0] at this
    simpa using this
  · intro h
    refine ext64 (andNot_InU _ _) ⟨by decide, by decide⟩ fun i hi => ?_
    rw [has_andNot hx (full_InU h0 h1) hi, has_zero, has_full h0]
    cases hb : hasI x i with
    | false => rfl
    | true => simp; exact h i hb
theorem zero_InU : InU 0 := ⟨by decide, by decide⟩
end Go.RM.Tryz
namespace Go.RM.Tryz
open Go.RM
set_option linter.unusedVariables false
set_option linter.unusedSimpArgs false
def RngF (F : TFacts) : Prop := InU F.Gen ∧ ∀ r ∈ F.Rows, InU r
theorem TFacts.Fit.rng {F : TFacts} (h : F.Fit) : RngF F := ⟨wfu64 h.1, fun r hr => wfu64 (h.2.2.2 r hr)⟩
theorem factsOk_iff {n : Int} {F : TFacts} (hr : RngF F) (h0 : 0 ≤ n) (h1 : n ≤ 64) : factsOk n F = true ↔ (F.Rows.length : Int) = n ∧ (∀ i : Nat, hasI F.Gen i = true → (i : Int) < n) ∧ (∀ r ∈ F.Rows, ∀ i : Nat, hasI r i = true → (i : Int) < n) ∧ ∀ r ∈ F.Rows, ∀ i : Nat, hasI r i = true → hasI F.Gen i = false := by
  have e0 : factsOk n F = true ↔ (F.Rows.length : Int) = n ∧ bitOp .andNot .u64 F.Gen (fullM n) = 0 ∧ (∀ r ∈ F.Rows, bitOp .andNot .u64 r (fullM n) = 0) ∧ (F.Rows.map (fun r => bitOp .andNot .u64 r F.Gen) = F.Rows) := by
    unfold factsOk factsEq
    rw [Bool.and_eq_true, Bool.and_eq_true, Bool.and_eq_true, Bool.and_eq_true, List.all_eq_true, beq_iff_eq, beq_iff_eq, beq_iff_eq, decide_eq_true_eq]
    simp only [beq_iff_eq]
    exact ⟨fun h => ⟨h.1, h.2.1, h.2.2.1, h.2.2.2.2⟩, fun h => ⟨h.1, h.2.1, h.2.2.1, rfl, h.2.2.2⟩⟩
  rw [e0, inside_iff hr.1 h0 h1]
  have e1 : (∀ r ∈ F.Rows, bitOp .andNot .u64 r (fullM n) = 0) ↔ (∀ r ∈ F.Rows, ∀ i : Nat, hasI r i = true → (i : Int) < n) := by
    constructor
    · intro h r hm; exact (inside_iff (hr.2 r hm) h0 h1).1 (h r hm)
    · intro h r hm; exact (inside_iff (hr.2 r hm) h0 h1).2 (h r hm)
  have e2 : (F.Rows.map (fun r => bitOp .andNot .u64 r F.Gen) = F.Rows) ↔ ∀ r ∈ F.Rows, ∀ i : Nat, hasI r i = true → hasI F.Gen i = false := by
    rw [show (F.Rows.map (fun r => bitOp .andNot .u64 r F.Gen) = F.Rows) ↔ (F.Rows.map (fun r => bitOp .andNot .u64 r F.Gen) = F.Rows.map id) by simp, List.map_inj_left]
    constructor
    · intro h r hm i hi
      have h64 : i < 64 := by apply Nat.lt_of_not_le; intro hge; rw [hasI_high (hr.2 r hm) hge] at hi; cases hi
      have := has_andNot (hr.2 r hm) hr.1 h64
      rw [h r hm, id, hi] at this
      simpa using this
    · intro h r hm
      refine ext64 (andNot_InU _ _) (hr.2 r hm) fun i hi => ?_
      rw [has_andNot (hr.2 r hm) hr.1 hi]
      cases hb : hasI r i with
      | false => simp [id, hb]
      | true => simp [id, hb, h r hm i hb]
  rw [e1, e2]
end Go.RM.Tryz
namespace Go.RM.Tryz
open Go.RM
set_option linter.unusedVariables false
set_option linter.unusedSimpArgs false
def RngC (c : TCell) : Prop := InU c.From ∧ (Lit.int .i64 c.K).wf = true
def CellP (n : Int) (c : TCell) : Prop := (∀ i : Nat, hasI c.From i = true → (i : Int) < n) ∧ ((c.Kind = 0 ∧ c.K = 0) ∨ c.Kind = 1 ∨ (c.Kind = 2 ∧ c.K = 0 ∧ c.From = 0))
theorem cellOk_iff {n : Int} (h0 : 0 ≤ n) (h1 : n ≤ 64) {c : TCell} (hc : InU c.From) : cellOk n c = true ↔ CellP n c := by
  unfold cellOk CellP
  rw [Bool.and_eq_true, beq_iff_eq, inside_iff hc h0 h1]
  refine and_congr_right fun _ => ?_
  by_cases k0 : c.Kind = 0
  · simp [k0]
  · by_cases k1 : c.Kind = 1
    · simp [k1]
    · by_cases k2 : c.Kind = 2
      · simp [k2]
      · simp [k0, k1, k2]
structure Rng1 (w : TWeight) : Prop where
  facts : RngF w.Facts
  cells : ∀ c ∈ w.Cells, RngC c
  cost : (Lit.int .i64 w.Cost).wf = true
def Rng (w : TWeight) : Prop := Rng1 w ∧ ∀ p ∈ w.Parts, Rng1 p
theorem TWeight.Fit.rng1 {w : TWeight} (h : w.Fit) : Rng1 w := by
  cases h with
  | mk _ h0 h1 h2 h3 h4 h5 h6 h7 h8 => exact ⟨h2.rng, fun c hc => ⟨wfu64 (h5 c hc).1, (h5 c hc).2.2⟩, h1⟩
theorem TWeight.Fit.rng {w : TWeight} (h : w.Fit) : Rng w := ⟨h.rng1, by
  cases h with
  | mk _ h0 h1 h2 h3 h4 h5 h6 h7 h8 => exact fun p hp => (h8 p hp).rng1⟩
def zeroW : TWeight := ⟨true, 0, ⟨0, []⟩, [], []⟩
theorem isW1_cases {s : TSpace} {w : TWeight} (hs : spaceOk1 s = true) (h : isW1 s w = true) :
    w = zeroW ∨ (s.Tag = 1 ∧ w = noneW) ∨ (s.Tag = 2 ∧ w = ⟨false, w.Cost, ⟨0, []⟩, [], []⟩ ∧ 0 ≤ w.Cost ∧ w.Cost ≤ s.Dim) ∨ (s.Tag = 3 ∧ w = ⟨false, 0, w.Facts, [], []⟩ ∧ factsOk s.Dim w.Facts = true) ∨ (s.Tag = 4 ∧ w = ⟨false, 0, ⟨0, []⟩, w.Cells, []⟩ ∧ cellsOk s.Dim w.Cells = true) := by
  obtain ⟨Z, C, ⟨G, R⟩, L, P⟩ := w
  unfold isW1 plainB at h
  cases Z with
  | true => simp at h; left; simp [zeroW, h]
  | false =>
    rcases space1_cases hs with k | k | k | k
    · simp [k.1] at h
      right; left; exact ⟨k.1, by simp [noneW, h]⟩
    · simp [k.1] at h
      right; right; left; refine ⟨k.1, by simp [h], h.2⟩
    · simp [k.1] at h
      right; right; right; left; exact ⟨k.1, by simp [h], h.2⟩
    · simp [k.1] at h
      right; right; right; right; exact ⟨k.1, by simp [h], h.2⟩
theorem isW1_zero {s : TSpace} (hs : spaceOk1 s = true) : isW1 s zeroW = true := by simp [isW1, zeroW, plainB]
theorem zero_rng : Rng1 zeroW := ⟨⟨zero_InU, by simp [zeroW]⟩, by simp [zeroW], by decide⟩
theorem cellsOk_iff {n : Int} {l : List TCell} (h0 : 0 ≤ n) (h1 : n ≤ 64) (hr : ∀ c ∈ l, RngC c) : cellsOk n l = true ↔ (l.length : Int) = n ∧ ∀ c ∈ l, CellP n c := by
  unfold cellsOk
  rw [Bool.and_eq_true, List.all_eq_true, beq_iff_eq]
  refine and_congr_right fun _ => ⟨fun h c hc => (cellOk_iff h0 h1 (hr c hc).1).1 (h c hc), fun h c hc => (cellOk_iff h0 h1 (hr c hc).1).2 (h c hc)⟩
theorem wf_small {x : Int} (h0 : 0 ≤ x) (h1 : x ≤ 1048576) : (Lit.int .i64 x).wf = true := by
  simp [Lit.wf, IntKind.min, IntKind.max, IntKind.bits, IntKind.signed]; omega
end Go.RM.Tryz
namespace Go.RM.Tryz
open Go.RM
set_option linter.unusedVariables false
set_option linter.unusedSimpArgs false
theorem isW_pair {s : TSpace} {w : TWeight} (h5 : s.Tag = 5) (h : isW s w = true) : ∃ x y, w = ⟨false, 0, ⟨0, []⟩, [], [x, y]⟩ ∧ isW1 (rdl s.Parts 0) x = true ∧ isW1 (rdl s.Parts 1) y = true := by
  obtain ⟨Z, C, ⟨G, R⟩, L, P⟩ := w
  unfold isW plainB at h
  rw [if_pos h5] at h
  simp only [Bool.and_eq_true, Bool.not_eq_true', Bool.false_or, beq_iff_eq, Bool.true_or] at h
  obtain ⟨hz, ⟨hc, ⟨hg, hr⟩, hl, _⟩, h2, ha, hb⟩ := h
  match P, h2 with
  | [x, y], _ => exact ⟨x, y, by simp only [hz, hc, hg]; simp at hr hl; simp [hr, hl], ha, hb⟩
theorem isW_mk {s : TSpace} {x y : TWeight} (h5 : s.Tag = 5) (hx : isW1 (rdl s.Parts 0) x = true) (hy : isW1 (rdl s.Parts 1) y = true) : isW s ⟨false, 0, ⟨0, []⟩, [], [x, y]⟩ = true := by
  unfold isW plainB
  rw [if_pos h5]
  simp [rdl0, rdl1, hx, hy]
theorem pair_rng {x y : TWeight} (hx : Rng1 x) (hy : Rng1 y) : Rng ⟨false, 0, ⟨0, []⟩, [], [x, y]⟩ := ⟨⟨⟨zero_InU, by simp⟩, by simp, wf_small (x := 0) (Int.le_refl 0) (by decide)⟩, by intro p hp; simp at hp; rcases hp with rfl | rfl <;> assumption⟩
theorem space_p0 {s : TSpace} (h : spaceOk s = true) (h5 : s.Tag = 5) : spaceOk1 (rdl s.Parts 0) = true ∧ spaceOk1 (rdl s.Parts 1) = true ∧ s.Parts.length = 2 := by
  obtain ⟨a, b, hp, ha, hb, _⟩ := space_parts h h5
  rw [hp]; exact ⟨ha, hb, rfl⟩
theorem isW1_noparts {s : TSpace} {w : TWeight} (hs : spaceOk1 s = true) (h : isW1 s w = true) (r : Rng1 w) : Rng w := ⟨r, by rw [isW1_parts h]; simp⟩
end Go.RM.Tryz
namespace Go.RM.Tryz
open Go.RM
set_option linter.unusedVariables false
set_option linter.unusedSimpArgs false
def Reach {σ τ ρ : Type} (b : σ → Rnd σ τ ρ → Prop) (s s' : σ) : Prop := ∀ o, Loop b s' o → Loop b s o
theorem Reach.refl {σ τ ρ : Type} {b : σ → Rnd σ τ ρ → Prop} (s : σ) : Reach b s s := fun o h => h
theorem Reach.next {σ τ ρ : Type} {b : σ → Rnd σ τ ρ → Prop} {s s' s'' : σ} (h : b s (.next s')) (h' : Reach b s' s'') : Reach b s s'' := fun o k => .next h (h' o k)
end Go.RM.Tryz
namespace Go.RM.Tryz
open Go.RM
set_option linter.unusedVariables false
set_option linter.unusedSimpArgs false
def zeroS (s : TSpace) : TWeight := if s.Tag = 5 then ⟨false, 0, ⟨0, []⟩, [], [zeroW, zeroW]⟩ else zeroW
theorem zeroS_ok {s : TSpace} (hs : spaceOk s = true) : isW s (zeroS s) = true ∧ Rng (zeroS s) := by
  unfold zeroS
  by_cases h5 : s.Tag = 5
  · obtain ⟨p0, p1, _⟩ := space_p0 hs h5
    rw [if_pos h5]
    exact ⟨isW_mk h5 (isW1_zero p0) (isW1_zero p1), pair_rng zero_rng zero_rng⟩
  · have h1 : spaceOk1 s = true := by rw [← spaceOk_ne h5]; exact hs
    rw [if_neg h5, isW_ne h5]
    exact ⟨isW1_zero h1, isW1_noparts h1 (isW1_zero h1) zero_rng⟩
theorem r05_zero.ok {s : TSpace} (hs : spaceOk s = true) : r05_zero.f s (zeroS s) := by
  refine ⟨2, ?_⟩
  show r05_zero.step (r05_zero.fN 1) s _
  unfold r05_zero.step zeroS
  by_cases h5 : s.Tag = 5
  · obtain ⟨a, b, hp, ha, hb, na, nb, hd⟩ := space_parts hs h5
    have hz : ∀ {t : TSpace}, t.Tag ≠ 5 → r05_zero.fN 1 t zeroW := fun {t} ht => by
      show r05_zero.step (r05_zero.fN 0) t _
      unfold r05_zero.step
      rw [if_neg ht]; rfl
    rw [if_pos h5, if_pos h5, hp]
    exact ⟨⟨by decide, by simp⟩, _, hz na, ⟨by decide, by simp⟩, _, hz nb, rfl⟩
  · rw [if_neg h5, if_neg h5]; rfl
def zeroR (s : TSpace) : TWeight × Int := if spaceOk s = true then (zeroS s, 0) else (noneW, 50)
theorem r05_Zero.ok {s : TSpace} (hl : s.Parts.length ≤ maxLen) : r05_Zero.f s (zeroR s) := by
  refine ⟨_, r05_Space.ok hl, ?_⟩
  unfold zeroR
  cases h : spaceOk s with
  | false => simp [noneW]
  | true => simp only [if_true]; exact ⟨_, r05_zero.ok h, rfl⟩
theorem weight_zero.ok {s : TSpace} (hs : spaceOk s = true) : weight_zero.f s (zeroS s) := by
  refine ⟨2, ?_⟩
  show weight_zero.step (weight_zero.fN 1) s _
  unfold weight_zero.step zeroS
  by_cases h5 : s.Tag = 5
  · obtain ⟨a, b, hp, ha, hb, na, nb, hd⟩ := space_parts hs h5
    have hz : ∀ {t : TSpace}, t.Tag ≠ 5 → weight_zero.fN 1 t zeroW := fun {t} ht => by
      show weight_zero.step (weight_zero.fN 0) t _
      unfold weight_zero.step
      first
        | (rw [if_pos ht]; rfl)
        | (rw [if_neg ht]; rfl)
    first
      | (rw [if_neg (by simp [h5]), if_pos h5, hp]
         exact ⟨⟨by decide, by simp⟩, _, hz na, ⟨by decide, by simp⟩, _, hz nb, rfl⟩)
      | (rw [if_pos h5, if_pos h5, hp]
         exact ⟨⟨by decide, by simp⟩, _, hz na, ⟨by decide, by simp⟩, _, hz nb, rfl⟩)
  · first
      | (rw [if_pos h5, if_neg h5]; rfl)
      | (rw [if_neg h5, if_neg h5]; rfl)
theorem weight_Zero.ok {s : TSpace} (hl : s.Parts.length ≤ maxLen) : weight_Zero.f s (zeroR s) := by
  refine ⟨_, weight_Space.ok hl, ?_⟩
  unfold zeroR
  cases h : spaceOk s with
  | false => simp [noneW]
  | true => simp only [if_true]; exact ⟨_, weight_zero.ok h, rfl⟩
end Go.RM.Tryz
namespace Go.RM.Tryz
open Go.RM
set_option linter.unusedVariables false
set_option linter.unusedSimpArgs false
def MadeP (F : TFacts) (x : Int) (k : Nat) : Prop := hasI F.Gen k = true ∨ ∃ j r, F.Rows[j]? = some r ∧ hasI x j = true ∧ hasI r k = true
theorem made_ext {x y : Int} (hx : InU x) (hy : InU y) (h : ∀ k, hasI x k = true ↔ hasI y k = true) : x = y := ext64 hx hy fun i _ => Bool.eq_iff_iff.2 (h i)
structure FOk (n : Int) (F : TFacts) : Prop where
  rng : RngF F
  ok : factsOk n F = true
theorem FOk.len {n : Int} (h0 : 0 ≤ n) (h1 : n ≤ 64) {F : TFacts} (h : FOk n F) : (F.Rows.length : Int) = n := ((factsOk_iff h.rng h0 h1).1 h.ok).1
theorem FOk.ext {n : Int} (h0 : 0 ≤ n) (h1 : n ≤ 64) {a b : TFacts} (ha : FOk n a) (hb : FOk n b) (h : ∀ x, InU x → ∀ k, MadeP a x k ↔ MadeP b x k) : a = b := by
  obtain ⟨la, _, _, ca⟩ := (factsOk_iff ha.rng h0 h1).1 ha.ok
  obtain ⟨lb, _, _, cb⟩ := (factsOk_iff hb.rng h0 h1).1 hb.ok
  have none0 : ∀ (F : TFacts) k, MadeP F 0 k ↔ hasI F.Gen k = true := by
    intro F k
    constructor
    · rintro (q | ⟨j, r, _, hx, _⟩)
      · exact q
      · rw [has_zero] at hx; cases hx
    · exact .inl
  have hg : a.Gen = b.Gen := made_ext ha.rng.1 hb.rng.1 fun k => by rw [← none0, ← none0]; exact h 0 zero_InU k
  have one1 : ∀ (F : TFacts) (j : Nat) (r : Int), F.Rows[j]? = some r → ∀ k, MadeP F (2 ^ j) k ↔ hasI F.Gen k = true ∨ hasI r k = true := by
    intro F j r hj k
    constructor
    · rintro (q | ⟨i, r', hi, hx, hr⟩)
      · exact .inl q
      · rw [has_pow, decide_eq_true_eq] at hx
        subst hx
        rw [hj] at hi
        cases hi
        exact .inr hr
    · rintro (q | q)
      · exact .inl q
      · exact .inr ⟨j, r, hj, by rw [has_pow]; simp, q⟩
  have hr : a.Rows = b.Rows := by
    apply List.ext_getElem (by omega)
    intro j h2 h3
    have ga := List.getElem?_eq_getElem h2
    have gb := List.getElem?_eq_getElem h3
    refine made_ext (ha.rng.2 _ (List.getElem_mem h2)) (hb.rng.2 _ (List.getElem_mem h3)) fun k => ?_
    have := h (2 ^ j) (pow_InU (by omega)) k
    rw [one1 a j _ ga, one1 b j _ gb, hg] at this
    constructor
    · intro q
      rcases this.1 (.inr q) with g | g
      · have := ca _ (List.getElem_mem h2) k q; rw [hg, g] at this; cases this
      · exact g
    · intro q
      rcases this.2 (.inr q) with g | g
      · have := cb _ (List.getElem_mem h3) k q; rw [g] at this; cases this
      · exact g
  obtain ⟨ag, ar⟩ := a
  obtain ⟨bg, br⟩ := b
  simp only at hg hr
  rw [hg, hr]
theorem FOk.lens {n : Int} (h0 : 0 ≤ n) (h1 : n ≤ 64) {a b : TFacts} (ha : FOk n a) (hb : FOk n b) : a.Rows.length = b.Rows.length := by
  have := ha.len h0 h1; have := hb.len h0 h1; omega
end Go.RM.Tryz
namespace Go.RM.Tryz
open Go.RM
set_option linter.unusedVariables false
set_option linter.unusedSimpArgs false
def height1 (s : TSpace) : Int := if s.Tag = 2 then s.Dim + 1 else if s.Tag = 3 then s.Dim * (s.Dim + 1) + 1 else if s.Tag = 4 then s.Dim * (s.Dim + 2) + 1 else 1
end Go.RM.Tryz
namespace Go.RM.Tryz
open Go.RM
set_option linter.unusedVariables false
set_option linter.unusedSimpArgs false
set_option linter.unusedSectionVars false
structure WOk (s : TSpace) (w : TWeight) : Prop where
  is : isW s w = true
  rng : Rng w
theorem WOk.one {s : TSpace} (h5 : s.Tag ≠ 5) {w : TWeight} (h : WOk s w) : isW1 s w = true ∧ Rng1 w := ⟨by rw [← isW_ne h5]; exact h.is, h.rng.1⟩
theorem WOk.pair {s : TSpace} (h5 : s.Tag = 5) {w : TWeight} (h : WOk s w) : ∃ x y, w = ⟨false, 0, ⟨0, []⟩, [], [x, y]⟩ ∧ (isW1 (rdl s.Parts 0) x = true ∧ Rng1 x) ∧ (isW1 (rdl s.Parts 1) y = true ∧ Rng1 y) := by
  obtain ⟨x, y, rfl, hx, hy⟩ := isW_pair h5 h.is
  exact ⟨x, y, rfl, ⟨hx, h.rng.2 x (.head _)⟩, ⟨hy, h.rng.2 y (.tail _ (.head _))⟩⟩
theorem one_of {s : TSpace} (hs : spaceOk s = true) (h5 : s.Tag ≠ 5) : spaceOk1 s = true := by rw [← spaceOk_ne h5]; exact hs
theorem WOk.zero {s : TSpace} (hs : spaceOk s = true) : WOk s (zeroS s) := by have := zeroS_ok hs; exact ⟨this.1, this.2⟩
def heightM (s : TSpace) : Int := if s.Tag = 5 then height1 (rdl s.Parts 0) + height1 (rdl s.Parts 1) else height1 s
end Go.RM.Tryz
namespace Go.RM.Tryz
open Go.RM
set_option linter.unusedVariables false
set_option linter.unusedSimpArgs false
theorem rdl0 {α : Type} [Inhabited α] (x : α) (l : List α) : rdl (x :: l) 0 = x := rfl
theorem rdl1 {α : Type} [Inhabited α] (x y : α) (l : List α) : rdl (x :: y :: l) 1 = y := rfl
structure CsOk (n : Int) (l : List TCell) : Prop where
  rng : ∀ c ∈ l, RngC c
  ok : cellsOk n l = true
theorem CsOk.len {n : Int} (h0 : 0 ≤ n) (h1 : n ≤ 64) {l : List TCell} (h : CsOk n l) : (l.length : Int) = n ∧ ∀ c ∈ l, CellP n c := (cellsOk_iff h0 h1 h.rng).1 h.ok
end Go.RM.Tryz
namespace Go.RM.Tryz
open Go.RM
set_option linter.unusedVariables false
set_option linter.unusedSimpArgs false
def Shal : Nat → TWeight → Prop
  | 0, w => w.Sized ∧ w.Parts = []
  | n + 1, w => w.Sized ∧ ∀ p ∈ w.Parts, Shal n p
theorem Shal.sized : ∀ {n : Nat} {w : TWeight}, Shal n w → w.Sized
  | 0, _, h => h.1
  | _ + 1, _, h => h.1
theorem maxle {n : Nat} (h : n ≤ 17592186044416) : n ≤ maxLen := by unfold maxLen; omega
theorem all2B_iff {α : Type} {test : α → α → Bool} : ∀ (l m : List α), l.length = m.length → (∀ x ∈ l, ∀ y, test x y = true ↔ x = y) → (all2B test l m = true ↔ l = m)
  | [], [], _, _ => by simp [all2B]
  | x :: l, y :: m, h, ht => by
    have := all2B_iff l m (by simpa using h) (fun z hz => ht z (List.mem_cons_of_mem _ hz))
    simp only [all2B, Bool.and_eq_true, this, ht x List.mem_cons_self, List.cons.injEq]
def cellEq (x y : TCell) : Bool := (x.From == y.From) && ((x.Kind == y.Kind) && ((x.K == y.K) && true))
theorem cellEq_iff (x y : TCell) : cellEq x y = true ↔ x = y := by
  obtain ⟨a, b, c⟩ := x
  obtain ⟨d, e, f⟩ := y
  simp [cellEq]
def cellsEq (l m : List TCell) : Bool := ((l.length : Int) == m.length) && all2B cellEq l m
theorem cellsEq_iff (l m : List TCell) : cellsEq l m = true ↔ l = m := by
  unfold cellsEq
  rw [Bool.and_eq_true, beq_iff_eq]
  constructor
  · rintro ⟨h1, h2⟩
    exact (all2B_iff l m (by omega) (fun x _ y => cellEq_iff x y)).1 h2
  · rintro rfl
    exact ⟨rfl, (all2B_iff l l rfl (fun x _ y => cellEq_iff x y)).2 rfl⟩
theorem slices_Equal_Cell.ok {l m : List TCell} (hl : l.length ≤ maxLen) : slices_Equal_Cell.f l m (cellsEq l m) := by
  unfold slices_Equal_Cell.f cellsEq
  by_cases h : (l.length : Int) = m.length
  · rw [if_pos h]
    have key := each2Loop (l := l) (m := m) (b := slices_Equal_Cell.b1 l m) cellEq false (by omega) (fun i i0 i1 => by
      unfold slices_Equal_Cell.b1
      simp only [i1, if_true]
      refine ⟨fun ht => ⟨⟨i0, i1⟩, ⟨i0, by omega⟩, ?_⟩, fun ht => ⟨⟨i0, i1⟩, ⟨i0, by omega⟩, ?_⟩⟩
      · have ht' := ht
        unfold cellEq at ht'
        rw [if_pos ht', wrap_len hl i0 i1]
      · have ht' := ht
        unfold cellEq at ht'
        (rw [if_neg (by rw [ht']; decide)]; trivial)) (fun i i0 i1 => by unfold slices_Equal_Cell.b1; simp only [i1, if_false])
    refine ⟨_, key, ?_⟩
    rw [show ((l.length : Int) == m.length) = true by simpa using h, Bool.true_and]
    cases all2B cellEq l m <;> simp [Fin.on]
  · rw [if_neg h, show ((l.length : Int) == m.length) = false by simpa using h, Bool.false_and]
theorem cells_Same.ok {l m : List TCell} (hl : l.length ≤ maxLen) : cells_Same.f l m (cellsEq l m) := ⟨_, slices_Equal_Cell.ok hl, rfl⟩
theorem factsEq_iff (a b : TFacts) : factsEq a b = true ↔ a = b := by
  obtain ⟨g, r⟩ := a
  obtain ⟨g', r'⟩ := b
  simp [factsEq]
def sameN : Nat → TWeight → TWeight → Bool
  | 0, _, _ => false
  | n + 1, a, b => (a.Zero == b.Zero) && ((a.Cost == b.Cost) && (factsEq a.Facts b.Facts && (cellsEq a.Cells b.Cells && (((a.Parts.length : Int) == b.Parts.length) && all2B (sameN n) a.Parts b.Parts))))
theorem sameN_iff : ∀ (n : Nat) (a b : TWeight), Shal n a → (sameN (n + 1) a b = true ↔ a = b) := by
  intro n
  induction n with
  | zero =>
    intro a b h
    obtain ⟨Z, C, F, L, P⟩ := a
    obtain ⟨Z', C', F', L', P'⟩ := b
    have hP : P = [] := h.2
    subst hP
    simp only [sameN, Bool.and_eq_true, beq_iff_eq, factsEq_iff, cellsEq_iff, TWeight.mk.injEq]
    constructor
    · rintro ⟨h1, h2, h3, h4, h5, _⟩
      exact ⟨h1, h2, h3, h4, (List.eq_nil_of_length_eq_zero (by simp at h5; omega)).symm⟩
    · rintro ⟨h1, h2, h3, h4, rfl⟩
      exact ⟨h1, h2, h3, h4, rfl, rfl⟩
  | succ n ih =>
    intro a b h
    obtain ⟨Z, C, F, L, P⟩ := a
    obtain ⟨Z', C', F', L', P'⟩ := b
    have hP : ∀ p ∈ P, Shal n p := h.2
    have key : ∀ (hl : P.length = P'.length), (all2B (sameN (n + 1)) P P' = true ↔ P = P') := fun hl => all2B_iff P P' hl (fun x hx y => ih x y (hP x hx))
    rw [sameN]
    simp only [Bool.and_eq_true, beq_iff_eq, factsEq_iff, cellsEq_iff, TWeight.mk.injEq]
    constructor
    · rintro ⟨h1, h2, h3, h4, h5, h6⟩
      exact ⟨h1, h2, h3, h4, (key (by omega)).1 h6⟩
    · rintro ⟨h1, h2, h3, h4, rfl⟩
      exact ⟨h1, h2, h3, h4, rfl, (key rfl).2 rfl⟩
theorem weight_Same.step_ok {self : TWeight → TWeight → Bool → Prop} {n : Nat} {a b : TWeight} (ha : a.Sized) (h : ∀ x ∈ a.Parts, ∀ y, self x y (sameN n x y)) : weight_Same.step self a b (sameN (n + 1) a b) := by
  obtain ⟨h1, h2, h3⟩ := ha
  refine ⟨_, fun _ _ => facts_Same.ok (maxle h1), _, fun _ _ _ => cells_Same.ok (maxle h2), ((a.Parts.length : Int) == b.Parts.length) && all2B (sameN n) a.Parts b.Parts, fun _ _ _ _ => ?_, rfl⟩
  unfold slices_EqualFunc_Weight_Weight_Weight.f
  by_cases hl : (a.Parts.length : Int) = b.Parts.length
  · rw [if_pos hl]
    have key := each2Loop (l := a.Parts) (m := b.Parts) (b := slices_EqualFunc_Weight_Weight_Weight.b1 a.Parts b.Parts (fun x0_ x1_ y_ => self x0_ x1_ y_)) (sameN n) false (by omega) (fun i i0 i1 => by
      unfold slices_EqualFunc_Weight_Weight_Weight.b1
      simp only [i1, if_true]
      have hs := h _ (rdl_mem i0 i1) (rdl b.Parts i)
      refine ⟨fun ht => ⟨⟨i0, i1⟩, ⟨i0, by omega⟩, _, hs, ?_⟩, fun ht => ⟨⟨i0, i1⟩, ⟨i0, by omega⟩, _, hs, ?_⟩⟩
      · rw [if_pos ht, wrap_len (maxle h3) i0 i1]
      · (rw [if_neg (by rw [ht]; decide)]; trivial)) (fun i i0 i1 => by unfold slices_EqualFunc_Weight_Weight_Weight.b1; simp only [i1, if_false])
    refine ⟨_, key, ?_⟩
    rw [show ((a.Parts.length : Int) == b.Parts.length) = true by simpa using hl, Bool.true_and]
    cases all2B (sameN n) a.Parts b.Parts <;> simp [Fin.on]
  · rw [if_neg hl, show ((a.Parts.length : Int) == b.Parts.length) = false by simpa using hl, Bool.false_and]
theorem weight_Same.okN : ∀ (n : Nat) (a b : TWeight), Shal n a → weight_Same.fN (n + 1) a b (sameN (n + 1) a b) := by
  intro n
  induction n with
  | zero =>
    intro a b h
    exact weight_Same.step_ok h.sized (fun x hx => by rw [h.2] at hx; cases hx)
  | succ n ih =>
    intro a b h
    exact weight_Same.step_ok h.sized (fun x hx y => ih x y (h.2 x hx))
theorem weight_Same.ok {n : Nat} {a : TWeight} (h : Shal n a) (b : TWeight) : weight_Same.f a b (sameN (n + 1) a b) := ⟨n + 1, weight_Same.okN n a b h⟩
theorem r05_Same.step_ok {self : TWeight → TWeight → Bool → Prop} {n : Nat} {a b : TWeight} (ha : a.Sized) (h : ∀ x ∈ a.Parts, ∀ y, self x y (sameN n x y)) : r05_Same.step self a b (sameN (n + 1) a b) := by
  obtain ⟨h1, h2, h3⟩ := ha
  refine ⟨_, fun _ _ => r03_Same.ok (maxle h1), ?_⟩
  rw [sameN]
  by_cases hz : a.Zero = b.Zero
  · by_cases hc : a.Cost = b.Cost
    · by_cases hf : factsEq a.Facts b.Facts = true
      · by_cases hlc : (a.Cells.length : Int) = b.Cells.length
        · by_cases hlp : (a.Parts.length : Int) = b.Parts.length
          · rw [if_neg (by simp [hz, hc, hf, hlc, hlp])]
            have key1 := each2Loop (l := a.Cells) (m := b.Cells) (b := r05_Same.b1 a b) cellEq false (by omega) (fun i i0 i1 => by
              unfold r05_Same.b1
              simp only [i1, if_true]
              refine ⟨fun ht => ⟨⟨i0, i1⟩, ⟨i0, by omega⟩, ?_⟩, fun ht => ⟨⟨i0, i1⟩, ⟨i0, by omega⟩, ?_⟩⟩
              · have ht' := ht
                unfold cellEq at ht'
                rw [if_pos ht', wrap_len (maxle h2) i0 i1]
              · have ht' := ht
                unfold cellEq at ht'
                (rw [if_neg (by rw [ht']; decide)]; trivial)) (fun i i0 i1 => by unfold r05_Same.b1; simp only [i1, if_false])
            have key2 := each2Loop (l := a.Parts) (m := b.Parts) (b := r05_Same.b2 self a b) (sameN n) false (by omega) (fun i i0 i1 => by
              unfold r05_Same.b2
              simp only [i1, if_true]
              have hs := h _ (rdl_mem i0 i1) (rdl b.Parts i)
              refine ⟨fun ht => ⟨⟨i0, i1⟩, ⟨i0, by omega⟩, _, hs, ?_⟩, fun ht => ⟨⟨i0, i1⟩, ⟨i0, by omega⟩, _, hs, ?_⟩⟩
              · rw [if_pos ht, wrap_len (maxle h3) i0 i1]
              · (rw [if_neg (by rw [ht]; decide)]; trivial)) (fun i i0 i1 => by unfold r05_Same.b2; simp only [i1, if_false])
            refine ⟨_, key1, ?_⟩
            have e1 : cellsEq a.Cells b.Cells = all2B cellEq a.Cells b.Cells := by unfold cellsEq; rw [show ((a.Cells.length : Int) == b.Cells.length) = true by simpa using hlc, Bool.true_and]
            rw [e1, show ((a.Parts.length : Int) == b.Parts.length) = true by simpa using hlp, hf, show (a.Zero == b.Zero) = true by simpa using hz, show (a.Cost == b.Cost) = true by simpa using hc]
            cases all2B cellEq a.Cells b.Cells with
            | false => simp [Fin.on]
            | true =>
              simp only [Fin.on, if_true, Bool.true_and]
              refine ⟨_, key2, ?_⟩
              cases all2B (sameN n) a.Parts b.Parts <;> simp [Fin.on]
          · rw [if_pos (by simp [hlp]), show ((a.Parts.length : Int) == b.Parts.length) = false by simpa using hlp]
            simp
        · rw [if_pos (by simp [hlc])]
          have e1 : cellsEq a.Cells b.Cells = false := by unfold cellsEq; rw [show ((a.Cells.length : Int) == b.Cells.length) = false by simpa using hlc, Bool.false_and]
          rw [e1]; simp
      · rw [Bool.not_eq_true] at hf
        rw [if_pos (by simp [hf]), hf]; simp
    · rw [if_pos (by simp [hc]), show (a.Cost == b.Cost) = false by simpa using hc]; simp
  · rw [if_pos (by simp [hz]), show (a.Zero == b.Zero) = false by simpa using hz]; simp
theorem r05_Same.okN : ∀ (n : Nat) (a b : TWeight), Shal n a → r05_Same.fN (n + 1) a b (sameN (n + 1) a b) := by
  intro n
  induction n with
  | zero =>
    intro a b h
    exact r05_Same.step_ok h.sized (fun x hx => by rw [h.2] at hx; cases hx)
  | succ n ih =>
    intro a b h
    exact r05_Same.step_ok h.sized (fun x hx y => ih x y (h.2 x hx))
theorem r05_Same.ok {n : Nat} {a : TWeight} (h : Shal n a) (b : TWeight) : r05_Same.f a b (sameN (n + 1) a b) := ⟨n + 1, r05_Same.okN n a b h⟩
def smallB : Nat → TWeight → Int → Bool
  | 0, _, _ => false
  | n + 1, w, d => !((decide ((w.Facts.Rows.length : Int) > 70)) || ((decide ((w.Cells.length : Int) > 70)) || ((decide ((w.Parts.length : Int) > 3)) || (decide (d > 3))))) && w.Parts.all (fun p => smallB n p (d + 1))
theorem l05_small.okN : ∀ (n : Nat) (w : TWeight) (d : Int), 0 ≤ d → d + n = 5 → 1 ≤ n → l05_small.fN n w d (smallB n w d) := by
  intro n
  induction n with
  | zero => intro w d h0 h1 h2; omega
  | succ n ih =>
    intro w d h0 h1 h2
    show l05_small.step (l05_small.fN n) w d _
    unfold l05_small.step
    rw [smallB]
    by_cases hc : ((decide ((w.Facts.Rows.length : Int) > 70)) || ((decide ((w.Cells.length : Int) > 70)) || ((decide ((w.Parts.length : Int) > 3)) || (decide (d > 3))))) = true
    · rw [if_pos hc, hc]; rfl
    · rw [if_neg hc, Bool.eq_false_iff.2 hc]
      have hd : d ≤ 3 ∧ w.Parts.length ≤ 3 := by simp at hc; omega
      have key := eachLoop (l := w.Parts) (b := l05_small.b1 (l05_small.fN n) w d) (fun p => smallB n p (d + 1)) false (fun i i0 i1 => by
        unfold l05_small.b1
        simp only [i1, if_true]
        have hw : IntKind.i64.wrap (d + 1) = d + 1 := wrap64 (by omega) (by omega)
        have hs := ih (rdl w.Parts i) (d + 1) (by omega) (by omega) (by omega)
        refine ⟨fun ht => ⟨⟨i0, i1⟩, _, by rw [hw]; exact hs, ?_⟩, fun ht => ⟨⟨i0, i1⟩, _, by rw [hw]; exact hs, ?_⟩⟩
        · rw [if_pos ht, wrap64 (by omega) (by omega)]
        · (rw [if_neg (by rw [ht]; decide)]; trivial)) (fun i i0 i1 => by unfold l05_small.b1; simp only [i1, if_false])
      refine ⟨_, key, ?_⟩
      cases w.Parts.all (fun p => smallB n p (d + 1)) <;> simp [Fin.on]
theorem l05_small.ok (w : TWeight) : l05_small.f w 0 (smallB 5 w 0) := ⟨5, l05_small.okN 5 w 0 (Int.le_refl 0) (by decide) (by decide)⟩
theorem small_shal : ∀ (n : Nat) (w : TWeight), n ≤ 3 → smallB (n + 2) w (3 - n) = true → Shal n w := by
  intro n
  induction n with
  | zero =>
    intro w _ h
    rw [smallB, Bool.and_eq_true, List.all_eq_true] at h
    obtain ⟨h1, h2⟩ := h
    simp at h1
    refine ⟨⟨by omega, by omega, by omega⟩, ?_⟩
    cases hp : w.Parts with
    | nil => rfl
    | cons p l =>
      have := h2 p (by rw [hp]; exact List.mem_cons_self)
      rw [smallB] at this
      simp at this
  | succ n ih =>
    intro w hn h
    rw [smallB, Bool.and_eq_true, List.all_eq_true] at h
    obtain ⟨h1, h2⟩ := h
    simp at h1
    refine ⟨⟨by omega, by omega, by omega⟩, fun p hp => ih p (by omega) ?_⟩
    have := h2 p hp
    rw [show (3 - ((n + 1 : Nat) : Int)) + 1 = 3 - (n : Int) by omega] at this
    exact this
theorem small_ok {w : TWeight} (h : smallB 5 w 0 = true) : Shal 3 w := small_shal 3 w (by decide) h
def smallSp : Nat → TSpace → Int → Bool
  | 0, _, _ => false
  | n + 1, s, d => !((decide ((s.Parts.length : Int) > 3)) || (decide (d > 3))) && s.Parts.all (fun p => smallSp n p (d + 1))
theorem l05_smallSpace.okN : ∀ (n : Nat) (w : TSpace) (d : Int), 0 ≤ d → d + n = 5 → 1 ≤ n → l05_smallSpace.fN n w d (smallSp n w d) := by
  intro n
  induction n with
  | zero => intro w d h0 h1 h2; omega
  | succ n ih =>
    intro w d h0 h1 h2
    show l05_smallSpace.step (l05_smallSpace.fN n) w d _
    unfold l05_smallSpace.step
    rw [smallSp]
    by_cases hc : ((decide ((w.Parts.length : Int) > 3)) || (decide (d > 3))) = true
    · rw [if_pos hc, hc]; rfl
    · rw [if_neg hc, Bool.eq_false_iff.2 hc]
      have hd : d ≤ 3 ∧ w.Parts.length ≤ 3 := by simp at hc; omega
      have key := eachLoop (l := w.Parts) (b := l05_smallSpace.b1 (l05_smallSpace.fN n) w d) (fun p => smallSp n p (d + 1)) false (fun i i0 i1 => by
        unfold l05_smallSpace.b1
        simp only [i1, if_true]
        have hw : IntKind.i64.wrap (d + 1) = d + 1 := wrap64 (by omega) (by omega)
        have hs := ih (rdl w.Parts i) (d + 1) (by omega) (by omega) (by omega)
        refine ⟨fun ht => ⟨⟨i0, i1⟩, _, by rw [hw]; exact hs, ?_⟩, fun ht => ⟨⟨i0, i1⟩, _, by rw [hw]; exact hs, ?_⟩⟩
        · rw [if_pos ht, wrap64 (by omega) (by omega)]
        · (rw [if_neg (by rw [ht]; decide)]; trivial)) (fun i i0 i1 => by unfold l05_smallSpace.b1; simp only [i1, if_false])
      refine ⟨_, key, ?_⟩
      cases w.Parts.all (fun p => smallSp n p (d + 1)) <;> simp [Fin.on]
theorem l05_smallSpace.ok (w : TSpace) : l05_smallSpace.f w 0 (smallSp 5 w 0) := ⟨5, l05_smallSpace.okN 5 w 0 (Int.le_refl 0) (by decide) (by decide)⟩
end Go.RM.Tryz
namespace Go.RM.Tryz
open Go.RM
set_option linter.unusedVariables false
set_option linter.unusedSimpArgs false
theorem isW1_sized {s : TSpace} {w : TWeight} (hs : spaceOk1 s = true) (h : isW1 s w = true) (r : Rng1 w) : w.Sized ∧ w.Parts = [] ∧ w.Facts.Rows.length ≤ 64 ∧ w.Cells.length ≤ 64 := by
  have hp := isW1_parts h
  have key : w.Facts.Rows.length ≤ 64 ∧ w.Cells.length ≤ 64 := by
    rcases isW1_cases hs h with k | k | k | k | k
    · rw [k]; simp [zeroW]
    · rw [k.2]; simp [noneW]
    · rw [k.2.1]; simp
    · rcases space1_cases hs with q | q | q | q
      · omega
      · omega
      · have := ((factsOk_iff r.facts q.2.1 q.2.2).1 k.2.2).1
        have hl : w.Cells = [] := by rw [k.2.1]
        rw [hl]; exact ⟨by omega, by simp⟩
      · omega
    · rcases space1_cases hs with q | q | q | q
      · omega
      · omega
      · omega
      · have := ((cellsOk_iff q.2.1 q.2.2 r.cells).1 k.2.2).1
        have hl : w.Facts = ⟨0, []⟩ := by rw [k.2.1]
        rw [hl]; exact ⟨by simp, by omega⟩
  exact ⟨⟨by omega, by omega, by rw [hp]; simp⟩, hp, key⟩
theorem WOk.flat {s : TSpace} (hs : spaceOk s = true) {w : TWeight} (h : WOk s w) : Flat w := by
  by_cases h5 : s.Tag = 5
  · obtain ⟨p0, p1, _⟩ := space_p0 hs h5
    obtain ⟨x, y, rfl, hx, hy⟩ := h.pair h5
    have ax := isW1_sized p0 hx.1 hx.2
    have ay := isW1_sized p1 hy.1 hy.2
    refine ⟨⟨⟨by simp, by simp, by simp⟩, fun p hp => ?_⟩, fun p hp => ?_⟩
    · simp at hp; rcases hp with rfl | rfl
      · exact ax.1
      · exact ay.1
    · simp at hp; rcases hp with rfl | rfl
      · exact ax.2.1
      · exact ay.2.1
  · have := isW1_sized (one_of hs h5) (h.one h5).1 (h.one h5).2
    exact ⟨⟨this.1, by rw [this.2.1]; simp⟩, by rw [this.2.1]; simp⟩
end Go.RM.Tryz
namespace Go.RM.Tryz
open Go.RM
set_option linter.unusedVariables false
set_option linter.unusedSimpArgs false
theorem TSpace.Fit.lens {s : TSpace} (h : s.Fit) : s.Parts.length ≤ maxLen := by cases h with | mk _ _ _ _ h3 _ => exact h3
theorem height1_rng {s : TSpace} (hs : spaceOk1 s = true) : 1 ≤ height1 s ∧ height1 s ≤ 1048577 := by
  unfold height1
  rcases space1_cases hs with k | k | k | k
  · simp [k.1]
  · simp only [k.1, if_true]; omega
  · simp only [k.1, Int.reduceEq, if_false, if_true]
    have h1 : 0 ≤ s.Dim * (s.Dim + 1) := Int.mul_nonneg k.2.1 (by omega)
    have h2 : s.Dim * (s.Dim + 1) ≤ 64 * 65 := Int.mul_le_mul k.2.2 (by omega) (by omega) (by decide)
    omega
  · simp only [k.1, Int.reduceEq, if_false, if_true]
    have h1 : 0 ≤ s.Dim * (s.Dim + 2) := Int.mul_nonneg k.2.1 (by omega)
    have h2 : s.Dim * (s.Dim + 2) ≤ 64 * 66 := Int.mul_le_mul k.2.2 (by omega) (by omega) (by decide)
    omega
theorem cost_Height.ok {d : Int} (h0 : 0 ≤ d) (h1 : d ≤ 1048576) : cost_Height.f d (d + 1, 0) := by
  refine ⟨0, ?_, ?_⟩
  · unfold cost_checks.f
    rw [if_neg (by simp; omega)]
    refine ⟨.go (), .exit ?_, rfl⟩
    unfold cost_checks.b1
    rw [if_neg (by simp)]
  · rw [if_pos rfl, wrap64 (by omega) (by omega)]
theorem cells_Height.ok {d : Int} (h0 : 0 ≤ d) (h1 : d ≤ 64) : cells_Height.f d (d * (d + 2), 0) := by
  refine ⟨0, by unfold cells_dims.f; rw [if_neg (by simp; omega)], ?_⟩
  have h2 : 0 ≤ d * (d + 2) := Int.mul_nonneg h0 (by omega)
  have h3 : d * (d + 2) ≤ 64 * 66 := Int.mul_le_mul h1 (by omega) (by omega) (by decide)
  rw [if_pos rfl, wrap64 (i := d + 2) (by omega) (by omega), wrap64 (by omega) (by omega)]
theorem weight_Height.step1 {self : TSpace → Int × Int → Prop} {s : TSpace} (hs : spaceOk1 s = true) (h5 : s.Tag ≠ 5) (hl : s.Parts.length ≤ maxLen) : weight_Height.step self s (height1 s, 0) := by
  have h1 := weight_Space.ok hl
  rw [spaceOk_ne h5, if_pos hs] at h1
  refine ⟨_, h1, ?_⟩
  rw [if_pos rfl]
  unfold height1
  rcases space1_cases hs with k | k | k | k
  · simp [k.1]
  · simp only [k.1, if_true]
    exact ⟨_, cost_Height.ok k.2.1 k.2.2, rfl⟩
  · simp only [k.1, Int.reduceEq, if_false, if_true]
    have h1 : 0 ≤ s.Dim * (s.Dim + 1) := Int.mul_nonneg k.2.1 (by omega)
    have h2 : s.Dim * (s.Dim + 1) ≤ 64 * 65 := Int.mul_le_mul k.2.2 (by omega) (by omega) (by decide)
    rw [wrap64 (i := s.Dim + 1) (by omega) (by omega), wrap64 (i := s.Dim * (s.Dim + 1)) (by omega) (by omega), wrap64 (by omega) (by omega)]
  · simp only [k.1, Int.reduceEq, if_false, if_true]
    have h1 : 0 ≤ s.Dim * (s.Dim + 2) := Int.mul_nonneg k.2.1 (by omega)
    have h2 : s.Dim * (s.Dim + 2) ≤ 64 * 66 := Int.mul_le_mul k.2.2 (by omega) (by omega) (by decide)
    refine ⟨_, cells_Height.ok k.2.1 k.2.2, ?_⟩
    rw [wrap64 (by omega) (by omega)]
theorem r05_Height.step1 {self : TSpace → Int × Int → Prop} {s : TSpace} (hs : spaceOk1 s = true) (h5 : s.Tag ≠ 5) (hl : s.Parts.length ≤ maxLen) : r05_Height.step self s (height1 s, 0) := by
  have h1 := r05_Space.ok hl
  rw [spaceOk_ne h5, if_pos hs] at h1
  refine ⟨_, h1, ?_⟩
  rw [if_pos rfl]
  unfold height1
  rcases space1_cases hs with k | k | k | k
  · simp [k.1]
  · simp only [k.1, Int.reduceEq, if_false, if_true]
    rw [wrap64 (by omega) (by omega)]
  · simp only [k.1, Int.reduceEq, if_false, if_true]
    have h1 : 0 ≤ s.Dim * (s.Dim + 1) := Int.mul_nonneg k.2.1 (by omega)
    have h2 : s.Dim * (s.Dim + 1) ≤ 64 * 65 := Int.mul_le_mul k.2.2 (by omega) (by omega) (by decide)
    rw [wrap64 (i := s.Dim + 1) (by omega) (by omega), wrap64 (i := s.Dim * (s.Dim + 1)) (by omega) (by omega), wrap64 (by omega) (by omega)]
  · simp only [k.1, Int.reduceEq, if_false, if_true]
    have h1 : 0 ≤ s.Dim * (s.Dim + 2) := Int.mul_nonneg k.2.1 (by omega)
    have h2 : s.Dim * (s.Dim + 2) ≤ 64 * 66 := Int.mul_le_mul k.2.2 (by omega) (by omega) (by decide)
    rw [wrap64 (i := s.Dim + 2) (by omega) (by omega), wrap64 (i := s.Dim * (s.Dim + 2)) (by omega) (by omega), wrap64 (by omega) (by omega)]
def heightR (s : TSpace) : Int × Int := if spaceOk s = true then (heightM s, 0) else (0, 50)
theorem weight_Height.ok {s : TSpace} (hl : s.Parts.length ≤ maxLen) : weight_Height.f s (heightR s) := by
  refine ⟨2, ?_⟩
  unfold heightR
  by_cases hs : spaceOk s = true
  · rw [if_pos hs]
    unfold heightM
    by_cases h5 : s.Tag = 5
    · obtain ⟨a, b, hp, ha, hb, na, nb, _⟩ := space_parts hs h5
      have h1 := weight_Space.ok hl
      rw [if_pos hs] at h1
      rw [if_pos h5]
      have ra := height1_rng ha
      have rb := height1_rng hb
      refine ⟨_, h1, ?_⟩
      simp only [h5, Int.reduceEq, if_true, if_false, hp, rdl0, rdl1]
      exact ⟨⟨by decide, by simp⟩, _, weight_Height.step1 (self := weight_Height.fN 0) ha na (by rw [space1_parts ha]; simp), ⟨by decide, by simp⟩, _, weight_Height.step1 (self := weight_Height.fN 0) hb nb (by rw [space1_parts hb]; simp), by rw [wrap64 (by omega) (by omega)]⟩
    · rw [if_neg h5]
      exact weight_Height.step1 (one_of hs h5) h5 hl
  · have h1 := weight_Space.ok hl
    rw [if_neg hs] at h1
    rw [if_neg hs]
    exact ⟨_, h1, by rw [if_neg (by decide)]⟩
theorem r05_Height.ok {s : TSpace} (hl : s.Parts.length ≤ maxLen) : r05_Height.f s (heightR s) := by
  refine ⟨2, ?_⟩
  unfold heightR
  by_cases hs : spaceOk s = true
  · rw [if_pos hs]
    unfold heightM
    by_cases h5 : s.Tag = 5
    · obtain ⟨a, b, hp, ha, hb, na, nb, _⟩ := space_parts hs h5
      have h1 := r05_Space.ok hl
      rw [if_pos hs] at h1
      rw [if_pos h5]
      have ra := height1_rng ha
      have rb := height1_rng hb
      refine ⟨_, h1, ?_⟩
      simp only [h5, Int.reduceEq, if_true, if_false, hp, rdl0, rdl1]
      exact ⟨⟨by decide, by simp⟩, _, r05_Height.step1 (self := r05_Height.fN 0) ha na (by rw [space1_parts ha]; simp), ⟨by decide, by simp⟩, _, r05_Height.step1 (self := r05_Height.fN 0) hb nb (by rw [space1_parts hb]; simp), by rw [wrap64 (by omega) (by omega)]⟩
    · rw [if_neg h5]
      exact r05_Height.step1 (one_of hs h5) h5 hl
  · have h1 := r05_Space.ok hl
    rw [if_neg hs] at h1
    rw [if_neg hs]
    exact ⟨_, h1, by rw [if_neg (by decide)]⟩
def ShalS : Nat → TSpace → Prop
  | 0, s => s.Parts = []
  | n + 1, s => s.Parts.length ≤ 3 ∧ ∀ p ∈ s.Parts, ShalS n p
theorem ShalS.len : ∀ {n : Nat} {s : TSpace}, ShalS n s → s.Parts.length ≤ 3
  | 0, _, h => by rw [show _ = [] from h]; simp
  | _ + 1, _, h => h.1
def sameS : Nat → TSpace → TSpace → Bool
  | 0, _, _ => false
  | n + 1, a, b => (a.Tag == b.Tag) && ((a.Dim == b.Dim) && (((a.Parts.length : Int) == b.Parts.length) && all2B (sameS n) a.Parts b.Parts))
theorem sameS_refl : ∀ (n : Nat) (a : TSpace), ShalS n a → sameS (n + 1) a a = true := by
  intro n
  induction n with
  | zero =>
    intro a h
    rw [sameS, show a.Parts = [] from h]; simp [all2B]
  | succ n ih =>
    intro a h
    rw [sameS]
    simp only [beq_self_eq_true, Bool.true_and]
    exact all2B_refl _ (fun x hx => ih x (h.2 x hx))
theorem weight_SameSpace.step_ok {self : TSpace → TSpace → Bool → Prop} {n : Nat} {a b : TSpace} (ha : a.Parts.length ≤ 3) (h : ∀ x ∈ a.Parts, ∀ y, self x y (sameS n x y)) : weight_SameSpace.step self a b (sameS (n + 1) a b) := by
  have hm : a.Parts.length ≤ maxLen := by unfold maxLen; omega
  refine ⟨((a.Parts.length : Int) == b.Parts.length) && all2B (sameS n) a.Parts b.Parts, fun _ _ => ?_, rfl⟩
  unfold slices_EqualFunc_Space_Space_Space.f
  by_cases hl : (a.Parts.length : Int) = b.Parts.length
  · rw [if_pos hl]
    have key := each2Loop (l := a.Parts) (m := b.Parts) (b := slices_EqualFunc_Space_Space_Space.b1 a.Parts b.Parts (fun x0_ x1_ y_ => self x0_ x1_ y_)) (sameS n) false (by omega) (fun i i0 i1 => by
      unfold slices_EqualFunc_Space_Space_Space.b1
      simp only [i1, if_true]
      have hs := h _ (rdl_mem i0 i1) (rdl b.Parts i)
      refine ⟨fun ht => ⟨⟨i0, i1⟩, ⟨i0, by omega⟩, _, hs, ?_⟩, fun ht => ⟨⟨i0, i1⟩, ⟨i0, by omega⟩, _, hs, ?_⟩⟩
      · rw [if_pos ht, wrap_len hm i0 i1]
      · (rw [if_neg (by rw [ht]; decide)]; trivial)) (fun i i0 i1 => by unfold slices_EqualFunc_Space_Space_Space.b1; simp only [i1, if_false])
    refine ⟨_, key, ?_⟩
    rw [show ((a.Parts.length : Int) == b.Parts.length) = true by simpa using hl, Bool.true_and]
    cases all2B (sameS n) a.Parts b.Parts <;> simp [Fin.on]
  · rw [if_neg hl, show ((a.Parts.length : Int) == b.Parts.length) = false by simpa using hl, Bool.false_and]
theorem r05_SameSpace.step_ok {self : TSpace → TSpace → Bool → Prop} {n : Nat} {a b : TSpace} (ha : a.Parts.length ≤ 3) (h : ∀ x ∈ a.Parts, ∀ y, self x y (sameS n x y)) : r05_SameSpace.step self a b (sameS (n + 1) a b) := by
  have hm : a.Parts.length ≤ maxLen := by unfold maxLen; omega
  unfold r05_SameSpace.step
  rw [sameS]
  by_cases ht : a.Tag = b.Tag
  · by_cases hd : a.Dim = b.Dim
    · by_cases hl : (a.Parts.length : Int) = b.Parts.length
      · rw [if_neg (by simp [ht, hd, hl])]
        have key := each2Loop (l := a.Parts) (m := b.Parts) (b := r05_SameSpace.b1 self a b) (sameS n) false (by omega) (fun i i0 i1 => by
          unfold r05_SameSpace.b1
          simp only [i1, if_true]
          have hs := h _ (rdl_mem i0 i1) (rdl b.Parts i)
          refine ⟨fun ht => ⟨⟨i0, i1⟩, ⟨i0, by omega⟩, _, hs, ?_⟩, fun ht => ⟨⟨i0, i1⟩, ⟨i0, by omega⟩, _, hs, ?_⟩⟩
          · rw [if_pos ht, wrap_len hm i0 i1]
          · (rw [if_neg (by rw [ht]; decide)]; trivial)) (fun i i0 i1 => by unfold r05_SameSpace.b1; simp only [i1, if_false])
        refine ⟨_, key, ?_⟩
        rw [show ((a.Parts.length : Int) == b.Parts.length) = true by simpa using hl, show (a.Tag == b.Tag) = true by simpa using ht, show (a.Dim == b.Dim) = true by simpa using hd]
        cases all2B (sameS n) a.Parts b.Parts <;> simp [Fin.on]
      · rw [if_pos (by simp [hl]), show ((a.Parts.length : Int) == b.Parts.length) = false by simpa using hl]; simp
    · rw [if_pos (by simp [hd]), show (a.Dim == b.Dim) = false by simpa using hd]; simp
  · rw [if_pos (by simp [ht]), show (a.Tag == b.Tag) = false by simpa using ht]; simp
theorem weight_SameSpace.okS {n : Nat} {a : TSpace} (h : ShalS n a) (b : TSpace) : weight_SameSpace.f a b (sameS (n + 1) a b) := by
  have key : ∀ (n : Nat) (a b : TSpace), ShalS n a → weight_SameSpace.fN (n + 1) a b (sameS (n + 1) a b) := by
    intro n
    induction n with
    | zero => intro a b h; exact weight_SameSpace.step_ok h.len (fun x hx => by rw [show a.Parts = [] from h] at hx; cases hx)
    | succ n ih => intro a b h; exact weight_SameSpace.step_ok h.len (fun x hx y => ih x y (h.2 x hx))
  exact ⟨n + 1, key n a b h⟩
theorem r05_SameSpace.okS {n : Nat} {a : TSpace} (h : ShalS n a) (b : TSpace) : r05_SameSpace.f a b (sameS (n + 1) a b) := by
  have key : ∀ (n : Nat) (a b : TSpace), ShalS n a → r05_SameSpace.fN (n + 1) a b (sameS (n + 1) a b) := by
    intro n
    induction n with
    | zero => intro a b h; exact r05_SameSpace.step_ok h.len (fun x hx => by rw [show a.Parts = [] from h] at hx; cases hx)
    | succ n ih => intro a b h; exact r05_SameSpace.step_ok h.len (fun x hx y => ih x y (h.2 x hx))
  exact ⟨n + 1, key n a b h⟩
theorem smallSp_shal : ∀ (n : Nat) (s : TSpace), n ≤ 3 → smallSp (n + 2) s (3 - n) = true → ShalS n s := by
  intro n
  induction n with
  | zero =>
    intro w _ h
    rw [smallSp, Bool.and_eq_true, List.all_eq_true] at h
    obtain ⟨h1, h2⟩ := h
    show w.Parts = []
    cases hp : w.Parts with
    | nil => rfl
    | cons p l =>
      have := h2 p (by rw [hp]; exact List.mem_cons_self)
      rw [smallSp] at this
      simp at this
  | succ n ih =>
    intro w hn h
    rw [smallSp, Bool.and_eq_true, List.all_eq_true] at h
    obtain ⟨h1, h2⟩ := h
    simp at h1
    refine ⟨by omega, fun p hp => ih p (by omega) ?_⟩
    have := h2 p hp
    rw [show (3 - ((n + 1 : Nat) : Int)) + 1 = 3 - (n : Int) by omega] at this
    exact this
theorem oneR_flat (s : TSpace) : Flat (oneR s).1 := by
  unfold oneR
  by_cases h : spaceOk s = true
  · rw [if_pos h]; exact oneW_flat h
  · rw [if_neg h]; exact flat_none
theorem zeroR_flat (s : TSpace) : Flat (zeroR s).1 := by
  unfold zeroR
  by_cases h : spaceOk s = true
  · rw [if_pos h]; exact (WOk.zero h).flat h
  · rw [if_neg h]; exact flat_none
theorem Law.WeightSpaces (a0 : TSpace) (a1 : TWeight) (a2 : TSpace) (a3 : TWeight) (y0 : TSpace.Fit a0) (y1 : TWeight.Fit a1) (y2 : TSpace.Fit a2) (y3 : TWeight.Fit a3) : l05_WeightSpaces.f a0 a1 a2 a3 true := by
  have hp := y0.lens
  refine ⟨_, l05_smallSpace.ok a0, _, fun _ => l05_smallSpace.ok a2, _, fun _ _ => l05_small.ok a1, _, fun _ _ _ => l05_small.ok a3, ?_⟩
  by_cases hc : ((!smallSp 5 a0 0) || ((!smallSp 5 a2 0) || ((!smallB 5 a1 0) || (!smallB 5 a3 0)))) = true
  · rw [if_pos hc]; exact ⟨true, rfl, rfl⟩
  · rw [if_neg hc]
    simp only [Bool.or_eq_true, Bool.not_eq_true', not_or, Bool.not_eq_false] at hc
    obtain ⟨h1, h2, h3, h4⟩ := hc
    have s0 : ShalS 3 a0 := smallSp_shal 3 a0 (by decide) h1
    have w1 : Shal 3 a1 := small_ok h3
    refine ⟨_, weight_One.ok hp, _, r05_One.ok hp, _, weight_Zero.ok hp, _, r05_Zero.ok hp, _, weight_Height.ok hp, _, r05_Height.ok hp, _, weight_Space.ok hp, _, r05_Space.ok hp, _, fun _ => weight_Check.ok hp y1.sized2, _, fun _ => r05_Check.ok hp y1.sized2, _, fun _ _ => r05_Same.refl (oneR_flat a0), _, fun _ _ _ _ => r05_Same.refl (zeroR_flat a0), ?_⟩
    rw [if_neg (by simp)]
    refine ⟨_, weight_Same.ok w1 a3, _, r05_Same.ok w1 a3, _, fun _ => weight_Same.ok w1 a1, _, fun _ _ => weight_SameSpace.okS s0 a2, _, fun _ _ => r05_SameSpace.okS s0 a2, _, fun _ _ _ => weight_SameSpace.okS s0 a0, true, fun _ _ _ _ => rfl, ?_⟩
    rw [(sameN_iff 3 a1 a1 w1).2 rfl, sameS_refl 3 a0 s0]
    simp
end Go.RM.Tryz
