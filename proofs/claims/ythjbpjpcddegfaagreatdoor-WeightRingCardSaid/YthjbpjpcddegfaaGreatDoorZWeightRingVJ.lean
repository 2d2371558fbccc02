/- LA LB LC LD LE LF LG LJ LK LM LO LP LQ LR LS LT LV VA VB VC VD VE VF VG VH VI VJ, for the statement WeightRing: what it needs, no more. -/
import Derived.Test.YthjbpjpcddegfaaGreatDoorZWeightRingGR
import Derived.Test.YthjbpjpcddegfaaGreatDoorZWeightRingGI
namespace Go.RM
set_option linter.unusedVariables false
set_option linter.unusedSimpArgs false
theorem Loop.of {σ τ ρ : Type} {b : σ → Rnd σ τ ρ → Prop} (spec : σ → Fin τ ρ) (m : σ → Nat) (Inv : σ → Prop)
    (step : ∀ s, Inv s → (∃ s', b s (.next s') ∧ m s' < m s ∧ Inv s' ∧ spec s' = spec s) ∨ (∃ t, b s (.exit t) ∧ spec s = .go t) ∨ (∃ r, b s (.ret r) ∧ spec s = .ret r)) :
    ∀ s, Inv s → Loop b s (spec s) := by
  intro s
  generalize hn : m s = n
  induction n using Nat.strongRecOn generalizing s with
  | _ n ih =>
    intro hi
    rcases step s hi with ⟨s', hb, hm, hi', he⟩ | ⟨t, hb, he⟩ | ⟨r, hb, he⟩
    · rw [← he]
      exact .next hb (ih (m s') (by omega) s' rfl hi')
    · rw [he]; exact .exit hb
    · rw [he]; exact .ret hb
theorem wrap64 {i : Int} (h0 : -9223372036854775808 ≤ i) (h1 : i ≤ 9223372036854775807) : IntKind.i64.wrap i = i := by
  have e : IntKind.i64.wrap i = if (i % 18446744073709551616 : Int) ≥ 9223372036854775808 then i % 18446744073709551616 - 18446744073709551616 else i % 18446744073709551616 := by
    simp [IntKind.wrap, IntKind.bits, IntKind.signed]
  rw [e]
  split <;> omega
theorem wrapu64 {i : Int} (h0 : 0 ≤ i) (h1 : i < 18446744073709551616) : IntKind.u64.wrap i = i := by
  have e : IntKind.u64.wrap i = i % 18446744073709551616 := by
    simp [IntKind.wrap, IntKind.bits, IntKind.signed]
  rw [e]; omega
theorem wfu64 {i : Int} (h : (Lit.int .u64 i).wf = true) : 0 ≤ i ∧ i < 18446744073709551616 := by
  simp [Lit.wf, IntKind.min, IntKind.max, IntKind.bits, IntKind.signed] at h
  omega
theorem wrap_len {α : Type} {l : List α} {i : Int} (hl : l.length ≤ maxLen) (h0 : 0 ≤ i) (h1 : i < l.length) : IntKind.i64.wrap (i + 1) = i + 1 := by
  have : maxLen ≤ 9223372036854775807 := by decide
  exact wrap64 (by omega) (by omega)
theorem rdl_mem {α : Type} [Inhabited α] {l : List α} {i : Int} (h0 : 0 ≤ i) (h1 : i < l.length) : rdl l i ∈ l :=
  List.mem_of_getElem? (rdl_get h0 h1)
theorem drop_rdl {α : Type} [Inhabited α] {l : List α} {i : Int} (h0 : 0 ≤ i) (h1 : i < l.length) : l.drop i.toNat = rdl l i :: l.drop (i + 1).toNat := by
  have h := rdl_get h0 h1
  have hlt : i.toNat < l.length := by omega
  rw [List.drop_eq_getElem_cons hlt, show (i + 1).toNat = i.toNat + 1 by omega]
  rw [List.getElem?_eq_getElem hlt, Option.some.injEq] at h
  rw [h]
theorem drop_end {α : Type} {l : List α} {i : Int} (h0 : 0 ≤ i) (h1 : ¬ i < l.length) : l.drop i.toNat = [] := List.drop_eq_nil_of_le (by omega)
theorem rdl0 {α : Type} [Inhabited α] {a : α} {l : List α} : rdl (a :: l) 0 = a := rfl
theorem rdl1 {α : Type} [Inhabited α] {a b : α} {l : List α} : rdl (a :: b :: l) 1 = b := rfl
end Go.RM
namespace Go.RM
set_option linter.unusedVariables false
set_option linter.unusedSimpArgs false
def idxI {α : Type} (test : α → Bool) : List α → Int → Int
  | [], _ => -1
  | x :: l, i => if test x then i else idxI test l (i + 1)
theorem idxI_any {α : Type} (test : α → Bool) : ∀ (l : List α) (i : Int), 0 ≤ i → decide (idxI test l i ≥ 0) = l.any test
  | [], i, h => by simp [idxI]
  | x :: l, i, h => by
    unfold idxI
    by_cases hx : test x = true
    · simp [hx, h]
    · rw [if_neg hx, idxI_any test l (i + 1) (by omega)]; simp [hx]
theorem indexFunc {α : Type} [Inhabited α] {l : List α} {q : α → Bool → Prop} {b : Int → Rnd Int Unit Int → Prop} (test : α → Bool) (hl : l.length ≤ maxLen) (hq : ∀ x ∈ l, q x (test x))
    (hb : b = fun x1 z1 => if x1 < (l.length : Int) then (InR x1 l.length ∧ ∃ t : Bool, q (rdl l x1) t ∧ if t = true then z1 = .ret x1 else z1 = .next (IntKind.i64.wrap (x1 + 1))) else z1 = .exit ()) :
    ∃ o : Fin Unit Int, Loop b 0 o ∧ o.on (fun _ => idxI test l 0 = -1) (fun r_ => idxI test l 0 = r_) := by
  let spec : Int → Fin Unit Int := fun i => if (l.drop i.toNat).any test then .ret (idxI test (l.drop i.toNat) i) else .go ()
  have key := Loop.of (b := b) spec (fun i => ((l.length : Int) - i).toNat) (fun i => 0 ≤ i) (fun i hi => by
    subst hb
    by_cases h : i < (l.length : Int)
    · have hd := drop_rdl hi h
      by_cases ht : test (rdl l i) = true
      · refine .inr (.inr ⟨i, ?_, ?_⟩)
        · simp only [h, if_true]
          exact ⟨⟨hi, h⟩, true, ht ▸ hq _ (rdl_mem hi h), by simp⟩
        · show (if _ then _ else _) = _
          rw [hd]; simp [ht, idxI]
      · have ht' : test (rdl l i) = false := by simpa using ht
        refine .inl ⟨i + 1, ?_, by omega, by omega, ?_⟩
        · simp only [h, if_true]
          exact ⟨⟨hi, h⟩, false, ht' ▸ hq _ (rdl_mem hi h), by simp [wrap_len hl hi h]⟩
        · show (if _ then _ else _) = (if _ then _ else _)
          rw [hd]; simp [ht', idxI]
    · refine .inr (.inl ⟨(), by simp only [h, if_false], ?_⟩)
      show (if _ then _ else _) = _
      rw [drop_end hi h]; rfl) 0 (Int.le_refl 0)
  refine ⟨_, key, ?_⟩
  show Fin.on (if _ then _ else _) _ _
  simp only [Int.toNat_zero, List.drop_zero]
  split
  · rfl
  · rename_i h
    show idxI test l 0 = -1
    have : decide (idxI test l 0 ≥ 0) = false := by rw [idxI_any test l 0 (Int.le_refl 0)]; simpa using h
    have hge : ∀ (l : List α) (i : Int), 0 ≤ i → idxI test l i = -1 ∨ 0 ≤ idxI test l i := by
      intro l
      induction l with
      | nil => intro i _; exact .inl rfl
      | cons x l ih =>
        intro i hi
        unfold idxI
        split
        · exact .inr hi
        · exact ih (i + 1) (by omega)
    rcases hge l 0 (Int.le_refl 0) with h1 | h1
    · exact h1
    · simp at this; omega
theorem eachLoop {α ρ : Type} [Inhabited α] {l : List α} {b : Int → Rnd Int Unit ρ → Prop} (test : α → Bool) (rv : ρ)
    (hb : ∀ i, 0 ≤ i → i < (l.length : Int) → (test (rdl l i) = true → b i (.next (i + 1))) ∧ (test (rdl l i) = false → b i (.ret rv))) (hend : ∀ i, 0 ≤ i → ¬ i < (l.length : Int) → b i (.exit ())) :
    Loop b 0 (if l.all test then .go () else .ret rv) := by
  let spec : Int → Fin Unit ρ := fun i => if (l.drop i.toNat).all test then .go () else .ret rv
  have key := Loop.of (b := b) spec (fun i => ((l.length : Int) - i).toNat) (fun i => 0 ≤ i) (fun i hi => by
    by_cases h : i < (l.length : Int)
    · have hd := drop_rdl hi h
      obtain ⟨h1, h2⟩ := hb i hi h
      cases ht : test (rdl l i) with
      | true =>
        refine .inl ⟨i + 1, h1 ht, by omega, by omega, ?_⟩
        show (if _ then _ else _) = (if _ then _ else _)
        rw [hd]; simp [ht]
      | false =>
        refine .inr (.inr ⟨rv, h2 ht, ?_⟩)
        show (if _ then _ else _) = _
        rw [hd]; simp [ht]
    · refine .inr (.inl ⟨(), hend i hi h, ?_⟩)
      show (if _ then _ else _) = _
      rw [drop_end hi h]; rfl) 0 (Int.le_refl 0)
  simpa [spec] using key
theorem containsFunc {α : Type} [Inhabited α] {l : List α} {q : α → Bool → Prop} {b : Int → Rnd Int Unit Int → Prop} (test : α → Bool) (hl : l.length ≤ maxLen) (hq : ∀ x ∈ l, q x (test x))
    (hb : b = fun x1 z1 => if x1 < (l.length : Int) then (InR x1 l.length ∧ ∃ t : Bool, q (rdl l x1) t ∧ if t = true then z1 = .ret x1 else z1 = .next (IntKind.i64.wrap (x1 + 1))) else z1 = .exit ()) :
    ∃ t : Int, (∃ o : Fin Unit Int, Loop b 0 o ∧ o.on (fun _ => t = -1) (fun r_ => t = r_)) ∧ l.any test = decide (t ≥ 0) :=
  ⟨_, indexFunc test hl hq hb, (idxI_any test l 0 (Int.le_refl 0)).symm⟩
def foldF {α σ ρ : Type} (step : Int → α → σ → Fin σ ρ) : List α → Int → σ → Fin σ ρ
  | [], _, s => .go s
  | x :: l, i, s => match step i x s with
    | .go s' => foldF step l (i + 1) s'
    | .ret r => .ret r
def Fin.map {σ τ ρ : Type} (f : σ → τ) : Fin σ ρ → Fin τ ρ
  | .go s => .go (f s)
  | .ret r => .ret r
def Rok {σ S τ ρ : Type} (b : S → Rnd S τ ρ → Prop) (mk : Int → σ → S) (Inv : Int → σ → Prop) (i : Int) (s : σ) : Fin σ ρ → Prop
  | .go s' => b (mk i s) (.next (mk (i + 1) s')) ∧ Inv (i + 1) s'
  | .ret r => b (mk i s) (.ret r)
theorem foldLoop {α σ S τ ρ : Type} [Inhabited α] {l : List α} {b : S → Rnd S τ ρ → Prop} (mk : Int → σ → S) (ex : σ → τ) (step : Int → α → σ → Fin σ ρ) (Inv : Int → σ → Prop)
    (hb : ∀ i s, 0 ≤ i → i < (l.length : Int) → Inv i s → Rok b mk Inv i s (step i (rdl l i) s))
    (hend : ∀ s, Inv l.length s → b (mk l.length s) (.exit (ex s))) (s0 : σ) (h0 : Inv 0 s0) :
    Loop b (mk 0 s0) ((foldF step l 0 s0).map ex) ∧ ∀ s, foldF step l 0 s0 = .go s → Inv l.length s := by
  have main : ∀ (k : Nat) (i : Int) (s : σ), ((l.length : Int) - i).toNat = k → 0 ≤ i → i ≤ l.length → Inv i s → Loop b (mk i s) ((foldF step (l.drop i.toNat) i s).map ex) ∧ ∀ s', foldF step (l.drop i.toNat) i s = .go s' → Inv l.length s' := by
    intro k
    induction k with
    | zero =>
      intro i s hk h0 h1 hi
      have : i = l.length := by omega
      subst this
      rw [drop_end h0 (by omega)]
      exact ⟨.exit (hend s hi), fun s' h => by injection h with h; exact h ▸ hi⟩
    | succ k ih =>
      intro i s hk h0 h1 hi
      have hlt : i < (l.length : Int) := by omega
      rw [drop_rdl h0 hlt]
      have hr := hb i s h0 hlt hi
      unfold foldF
      revert hr
      cases step i (rdl l i) s with
      | go s1 =>
        intro hr
        have := ih (i + 1) s1 (by omega) (by omega) (by omega) hr.2
        exact ⟨.next hr.1 this.1, this.2⟩
      | ret r =>
        intro hr
        exact ⟨.ret hr, fun s' h => by cases h⟩
  have := main _ 0 s0 rfl (Int.le_refl 0) (by omega) h0
  simpa using this
theorem foldF_map {α β ρ : Type} (f : α → β) : ∀ (l : List α) (i : Int) (acc : List β), foldF (fun _ x acc => (.go (acc ++ [f x]) : Fin (List β) ρ)) l i acc = .go (acc ++ l.map f)
  | [], i, acc => by simp [foldF]
  | x :: l, i, acc => by
    show foldF _ l (i + 1) (acc ++ [f x]) = _
    rw [foldF_map f l]
    simp
def countF {σ ρ : Type} (step : Int → σ → Fin σ ρ) : Nat → Int → σ → Fin σ ρ
  | 0, _, s => .go s
  | k + 1, i, s => match step i s with
    | .go s' => countF step k (i + 1) s'
    | .ret r => .ret r
theorem countLoop {σ S τ ρ : Type} {n : Int} {b : S → Rnd S τ ρ → Prop} (mk : Int → σ → S) (ex : σ → τ) (step : Int → σ → Fin σ ρ) (Inv : Int → σ → Prop)
    (hb : ∀ i s, 0 ≤ i → i < n → Inv i s → Rok b mk Inv i s (step i s))
    (hend : ∀ s, Inv n s → b (mk n s) (.exit (ex s))) (s0 : σ) (hn : 0 ≤ n) (h0 : Inv 0 s0) :
    Loop b (mk 0 s0) ((countF step n.toNat 0 s0).map ex) ∧ ∀ s, countF step n.toNat 0 s0 = .go s → Inv n s := by
  have main : ∀ (k : Nat) (i : Int) (s : σ), (n - i).toNat = k → 0 ≤ i → i ≤ n → Inv i s → Loop b (mk i s) ((countF step k i s).map ex) ∧ ∀ s', countF step k i s = .go s' → Inv n s' := by
    intro k
    induction k with
    | zero =>
      intro i s hk h0 h1 hi
      have : i = n := by omega
      subst this
      exact ⟨.exit (hend s hi), fun s' h => by injection h with h; exact h ▸ hi⟩
    | succ k ih =>
      intro i s hk h0 h1 hi
      have hlt : i < n := by omega
      have hr := hb i s h0 hlt hi
      unfold countF
      revert hr
      cases step i s with
      | go s1 =>
        intro hr
        have := ih (i + 1) s1 (by omega) (by omega) (by omega) hr.2
        exact ⟨.next hr.1 this.1, this.2⟩
      | ret r =>
        intro hr
        exact ⟨.ret hr, fun s' h => by cases h⟩
  have := main _ 0 s0 rfl (Int.le_refl 0) hn h0
  simpa using this
def upto (n : Nat) : List Int := (List.range n).map Int.ofNat
theorem countF_app {β ρ : Type} (f : Int → β) : ∀ (k : Nat) (i : Int) (acc : List β), countF (fun i acc => (.go (acc ++ [f i]) : Fin (List β) ρ)) k i acc = .go (acc ++ (upto k).map (fun j => f (i + j)))
  | 0, i, acc => by simp [countF, upto]
  | k + 1, i, acc => by
    unfold countF
    simp only
    rw [countF_app f k]
    simp only [upto, List.range_succ_eq_map, List.map_cons, List.map_map, List.append_assoc, List.singleton_append]
    simp only [Fin.go.injEq, List.append_cancel_left_eq, List.cons.injEq]
    refine ⟨by simp, List.map_congr_left fun j _ => ?_⟩
    simp only [Function.comp]
    congr 1
    simp
    omega
theorem fillLoop {α ρ : Type} [Inhabited α] {n : Int} {b : (List α × Int) → Rnd (List α × Int) (List α) ρ → Prop} (d : α) (f : Int → α → α) (hn : 0 ≤ n)
    (hb : ∀ i l, 0 ≤ i → i < n → (l.length : Int) = n → b (l, i) (.next (setl l i (f i (rdl l i)), i + 1))) (hend : ∀ l, (l.length : Int) = n → b (l, n) (.exit l)) :
    Loop b (List.replicate n.toNat d, 0) (.go ((upto n.toNat).map (fun i => f i d))) := by
  let m := (upto n.toNat).map (fun i => f i d)
  have hm : m.length = n.toNat := by simp [m, upto]
  have key := Loop.of (b := b) (fun _ => .go m) (fun s => (n - s.2).toNat) (fun s => 0 ≤ s.2 ∧ s.2 ≤ n ∧ s.1 = m.take s.2.toNat ++ List.replicate (n.toNat - s.2.toNat) d) (fun s hi => by
    obtain ⟨l, i⟩ := s
    obtain ⟨h0, h1, h2⟩ := hi
    simp only at h0 h1 h2
    have hlen : (l.length : Int) = n := by rw [h2]; simp [hm]; omega
    by_cases h : i < n
    · have hd : rdl l i = d := by
        have hg := rdl_get (l := l) h0 (by omega)
        rw [h2] at hg
        rw [List.getElem?_append_right (by simp; omega)] at hg
        have : (List.take i.toNat m).length = i.toNat := by simp [hm]; omega
        rw [this, Nat.sub_self, List.getElem?_replicate] at hg
        rw [if_pos (by omega)] at hg
        injection hg with hg
        rw [h2]; exact hg.symm
      refine .inl ⟨_, hb i l h0 h hlen, by simp; omega, ⟨by simp; omega, by simp; omega, ?_⟩, rfl⟩
      simp only
      rw [hd]
      apply List.ext_getElem?
      intro k
      unfold setl
      rw [List.getElem?_set, h2]
      by_cases hk : i.toNat = k
      · subst hk
        have hl2 : i.toNat < (List.take i.toNat m ++ List.replicate (n.toNat - i.toNat) d).length := by simp [hm]; omega
        rw [if_pos rfl, if_pos hl2]
        rw [List.getElem?_append_left (by simp [hm]; omega)]
        rw [List.getElem?_take, if_pos (by omega)]
        simp only [m, upto, List.map_map, List.getElem?_map]
        rw [List.getElem?_range (by omega)]
        simp [Function.comp]
        congr 1; omega
      · rw [if_neg hk]
        by_cases hk2 : k < i.toNat
        · rw [List.getElem?_append_left (by simp [hm]; omega), List.getElem?_append_left (by simp [hm]; omega)]
          rw [List.getElem?_take, List.getElem?_take, if_pos hk2, if_pos (by omega)]
        · rw [List.getElem?_append_right (by simp [hm]; omega), List.getElem?_append_right (by simp [hm]; omega)]
          rw [List.getElem?_replicate, List.getElem?_replicate]
          simp only [List.length_take, hm]
          congr 1
          apply propext
          constructor <;> intro <;> omega
    · have : i = n := by omega
      subst this
      refine .inr (.inl ⟨l, hend l hlen, ?_⟩)
      rw [h2]; simp [← hm]) (List.replicate n.toNat d, 0) ⟨Int.le_refl 0, hn, by simp⟩
  exact key
theorem iteR {α : Type} (c : Bool) {a b : α} : if c = true then (if c = true then a else b) = a else (if c = true then a else b) = b := by cases c <;> rfl
def all2B {α β : Type} (test : α → β → Bool) : List α → List β → Bool
  | x :: l, y :: m => test x y && all2B test l m
  | _, _ => true
theorem each2Loop {α β ρ : Type} [Inhabited α] [Inhabited β] {l : List α} {m : List β} {b : Int → Rnd Int Unit ρ → Prop} (test : α → β → Bool) (rv : ρ) (hlen : l.length = m.length)
    (hb : ∀ i, 0 ≤ i → i < (l.length : Int) → (test (rdl l i) (rdl m i) = true → b i (.next (i + 1))) ∧ (test (rdl l i) (rdl m i) = false → b i (.ret rv))) (hend : ∀ i, 0 ≤ i → ¬ i < (l.length : Int) → b i (.exit ())) :
    Loop b 0 (if all2B test l m = true then .go () else .ret rv) := by
  let spec : Int → Fin Unit ρ := fun i => if all2B test (l.drop i.toNat) (m.drop i.toNat) = true then .go () else .ret rv
  have key := Loop.of (b := b) spec (fun i => ((l.length : Int) - i).toNat) (fun i => 0 ≤ i) (fun i hi => by
    by_cases h : i < (l.length : Int)
    · have hd := drop_rdl hi h
      have hd2 := drop_rdl (l := m) hi (by omega)
      obtain ⟨h1, h2⟩ := hb i hi h
      cases ht : test (rdl l i) (rdl m i) with
      | true =>
        refine .inl ⟨i + 1, h1 ht, by omega, by omega, ?_⟩
        show (if _ then _ else _) = (if _ then _ else _)
        rw [hd, hd2]; simp [all2B, ht]
      | false =>
        refine .inr (.inr ⟨rv, h2 ht, ?_⟩)
        show (if _ then _ else _) = _
        rw [hd, hd2]; simp [all2B, ht]
    · refine .inr (.inl ⟨(), hend i hi h, ?_⟩)
      show (if _ then _ else _) = _
      rw [drop_end hi h]; simp [all2B]) 0 (Int.le_refl 0)
  simpa [spec] using key
theorem all2B_eq {α : Type} [DecidableEq α] : ∀ (l m : List α), l.length = m.length → all2B (fun x y => decide (x = y)) l m = decide (l = m)
  | [], [], _ => by simp [all2B]
  | x :: l, y :: m, h => by
    have := all2B_eq l m (by simpa using h)
    simp [all2B, this]
theorem eqLoop {α ρ : Type} [Inhabited α] [DecidableEq α] {l m : List α} {b : Int → Rnd Int Unit ρ → Prop} (rv : ρ) (hlen : l.length = m.length)
    (hb : ∀ i, 0 ≤ i → i < (l.length : Int) → (rdl l i = rdl m i → b i (.next (i + 1))) ∧ (rdl l i ≠ rdl m i → b i (.ret rv))) (hend : ∀ i, 0 ≤ i → ¬ i < (l.length : Int) → b i (.exit ())) :
    Loop b 0 (if l = m then .go () else .ret rv) := by
  have := each2Loop (b := b) (fun x y => decide (x = y)) rv hlen (fun i h0 h1 => ⟨fun h => (hb i h0 h1).1 (by simpa using h), fun h => (hb i h0 h1).2 (by simpa using h)⟩) hend
  rw [all2B_eq l m hlen] at this
  simpa using this
theorem eqRound {α : Type} [Inhabited α] [DecidableEq α] {l m : List α} {b : Int → Rnd Int Unit Bool → Prop} (hl : l.length ≤ maxLen) (hlen : l.length = m.length)
    (hb : b = fun x1 z1 => if x1 < (l.length : Int) then (InR x1 l.length ∧ InR x1 m.length ∧ if rdl l x1 = rdl m x1 then z1 = .next (IntKind.i64.wrap (x1 + 1)) else z1 = .ret false) else z1 = .exit ()) :
    Loop b 0 (if l = m then .go () else .ret false) := by
  subst hb
  refine eqLoop false hlen (fun i h0 h1 => ⟨fun h => ?_, fun h => ?_⟩) (fun i h0 h1 => by simp only [h1, if_false])
  · simp only [h1, if_true]
    exact ⟨⟨h0, h1⟩, ⟨h0, by omega⟩, by rw [if_pos h, wrap_len hl h0 h1]⟩
  · simp only [h1, if_true]
    exact ⟨⟨h0, h1⟩, ⟨h0, by omega⟩, by rw [if_neg h]; trivial⟩
theorem eqOn {α : Type} [DecidableEq α] {l m : List α} : (if l = m then (.go () : Fin Unit Bool) else .ret false).on (fun _ => decide (l = m) = true) (fun r_ => decide (l = m) = r_) := by
  by_cases h : l = m <;> simp [Fin.on, h]
def foldG {α σ : Type} (g : Int → α → σ → σ) : List α → Int → σ → σ
  | [], _, s => s
  | x :: l, i, s => foldG g l (i + 1) (g i x s)
theorem foldF_G {α σ ρ : Type} (g : Int → α → σ → σ) : ∀ (l : List α) (i : Int) (s : σ), foldF (fun i x s => (.go (g i x s) : Fin σ ρ)) l i s = .go (foldG g l i s)
  | [], i, s => rfl
  | x :: l, i, s => foldF_G g l (i + 1) _
theorem foldGLoop {α σ S τ ρ : Type} [Inhabited α] {l : List α} {b : S → Rnd S τ ρ → Prop} (mk : Int → σ → S) (ex : σ → τ) (g : Int → α → σ → σ) (Inv : Int → σ → Prop)
    (hb : ∀ i s, 0 ≤ i → i < (l.length : Int) → Inv i s → b (mk i s) (.next (mk (i + 1) (g i (rdl l i) s))) ∧ Inv (i + 1) (g i (rdl l i) s))
    (hend : ∀ s, Inv l.length s → b (mk l.length s) (.exit (ex s))) (s0 : σ) (h0 : Inv 0 s0) :
    Loop b (mk 0 s0) (.go (ex (foldG g l 0 s0))) ∧ Inv l.length (foldG g l 0 s0) := by
  have := foldLoop (l := l) (b := b) mk ex (fun i x s => .go (g i x s)) Inv (fun i s h0 h1 hi => hb i s h0 h1 hi) hend s0 h0
  rw [foldF_G] at this
  exact ⟨this.1, this.2 _ rfl⟩
theorem foldG_inv {α σ : Type} {g : Int → α → σ → σ} (P : Int → σ → Prop) : ∀ (l : List α) (i : Int) (s : σ), (∀ i s x, x ∈ l → P i s → P (i + 1) (g i x s)) → P i s → P (i + l.length) (foldG g l i s)
  | [], i, s, h, hs => by simpa [foldG] using hs
  | x :: l, i, s, h, hs => by
    have := foldG_inv P l (i + 1) (g i x s) (fun i s y hy hp => h i s y (.tail _ hy) hp) (h i s x (.head _) hs)
    have e : i + ((x :: l).length : Int) = i + 1 + l.length := by simp; omega
    rw [e]; exact this
end Go.RM
namespace Go.RM.Tryz
open Go.RM
set_option linter.unusedVariables false
set_option linter.unusedSimpArgs false
def costE (cap v : Int) : Int := if cap < 0 ∨ cap > 1048576 then 20 else if v < -1 ∨ v > cap then 21 else 0
theorem cost_Check.ok (cap v : Int) : cost_Check.f cap v (costE cap v) := by
  refine ⟨costE cap v, ?_, rfl⟩
  unfold cost_checks.f costE
  by_cases h : cap < 0 ∨ cap > 1048576
  · simp [h]
  · rw [if_neg (by simpa using h), if_neg h]
    have key := eachLoop (l := [v]) (b := cost_checks.b1 cap [v]) (fun x => !(decide (x < -1) || decide (x > cap))) (21 : Int) (fun i h0 h1 => by
      unfold cost_checks.b1
      simp only [h1, if_true]
      refine ⟨fun ht => ⟨⟨h0, h1⟩, ?_⟩, fun ht => ⟨⟨h0, h1⟩, ?_⟩⟩
      · have hn : ¬ ((decide (rdl [v] i < -1) || decide (rdl [v] i > cap)) = true) := by simpa using ht
        rw [if_neg hn, wrap_len (l := [v]) (by simp [maxLen]) h0 h1]
      · have hn : (decide (rdl [v] i < -1) || decide (rdl [v] i > cap)) = true := by simpa only [Bool.not_eq_false'] using ht
        rw [if_pos hn]; trivial) (fun i h0 h1 => by unfold cost_checks.b1; simp only [h1, if_false])
    refine ⟨_, key, ?_⟩
    by_cases hv : v < -1 ∨ v > cap
    · have : ([v].all fun x => !(decide (x < -1) || decide (x > cap))) = false := by simp; omega
      rw [this, if_pos hv]; rfl
    · have : ([v].all fun x => !(decide (x < -1) || decide (x > cap))) = true := by simp; omega
      rw [this, if_neg hv]; rfl
def fullM (n : Int) : Int := 2 ^ n.toNat - 1
theorem pow_split {n : Nat} (h : n ≤ 64) : (18446744073709551615 : Int).fdiv (2 ^ (64 - n)) = 2 ^ n - 1 := by
  have hp : (2 : Int) ^ n * 2 ^ (64 - n) = 18446744073709551616 := by rw [← Int.pow_add, show n + (64 - n) = 64 by omega]; decide
  have hpos : (0 : Int) < 2 ^ (64 - n) := Int.pow_pos (by decide)
  rw [Int.fdiv_eq_ediv_of_nonneg _ (Int.le_of_lt hpos)]
  rw [show (18446744073709551615 : Int) = (2 ^ (64 - n) - 1) + (2 ^ n - 1) * 2 ^ (64 - n) by rw [Int.sub_mul, hp]; omega]
  rw [Int.add_mul_ediv_right _ _ (Int.ne_of_gt hpos), Int.ediv_eq_zero_of_lt (by omega) (by omega)]
  omega
theorem bits_Full.ok (n : Int) : bits_Full.f n (if n < 0 ∨ n > 64 then (0, 10) else (fullM n, 0)) := by
  unfold bits_Full.f
  by_cases h : n < 0 ∨ n > 64
  · rw [if_pos (by simpa using h), if_pos h]
  · rw [if_neg (by simpa using h), if_neg h]
    have e1 : IntKind.i64.wrap (64 - n) = 64 - n := wrap64 (by omega) (by omega)
    have e2 : IntKind.u64.wrap (64 - n) = 64 - n := wrapu64 (by omega) (by omega)
    rw [e1, e2]
    refine ⟨by omega, ?_⟩
    have hn : n.toNat ≤ 64 := by omega
    have := pow_split hn
    unfold shrI fullM
    rw [show (min (64 - n).toNat IntKind.u64.bits) = 64 - n.toNat by simp [IntKind.bits]; omega, this]
theorem two_pow_lt {n : Nat} (h : n < 64) : (2 : Int) ^ n < 18446744073709551616 := by
  have h1 : (2 : Nat) ^ n < 2 ^ 64 := Nat.pow_lt_pow_right (by decide) h
  have h2 : ((2 ^ n : Nat) : Int) = (2 : Int) ^ n := by simp
  have h3 : (2 : Nat) ^ 64 = 18446744073709551616 := by decide
  omega
theorem r01_Worth.ok {n : Int} (h0 : 0 ≤ n) (h1 : n < 64) : r01_Worth.f n (2 ^ n.toNat) := by
  have key := Loop.of (b := r01_Worth.b1) (fun _ => (.go (2 ^ n.toNat) : Fin Int Int)) (fun s => s.1.toNat) (fun s => 0 ≤ s.1 ∧ s.1 < 64 ∧ 0 ≤ s.2 ∧ s.2 * 2 ^ s.1.toNat = 2 ^ n.toNat) (fun s hi => by
    obtain ⟨x1, x2⟩ := s
    obtain ⟨i0, i1, i2, i3⟩ := hi
    simp only at i0 i1 i2 i3
    by_cases hx : x1 > 0
    · have hp : (2 : Int) ^ x1.toNat = 2 * 2 ^ (x1 - 1).toNat := by
        rw [show x1.toNat = (x1 - 1).toNat + 1 by omega, Int.pow_succ, Int.mul_comm]
      have hpos : (0 : Int) < 2 ^ (x1 - 1).toNat := Int.pow_pos (by decide)
      have hle : x2 * 2 ≤ x2 * 2 * 2 ^ (x1 - 1).toNat := by have h9 := Int.mul_le_mul_of_nonneg_left (show (1 : Int) ≤ 2 ^ (x1 - 1).toNat by omega) (show 0 ≤ x2 * 2 by omega); rw [Int.mul_one] at h9; exact h9
      have he : x2 * 2 * 2 ^ (x1 - 1).toNat = 2 ^ n.toNat := by rw [← i3, hp, Int.mul_assoc]
      have hlt := two_pow_lt (n := n.toNat) (by omega)
      refine .inl ⟨(x1 - 1, x2 * 2), ?_, by simp; omega, ⟨by simp; omega, by simp; omega, by simp; omega, he⟩, rfl⟩
      unfold r01_Worth.b1
      simp only [hx, if_true]
      rw [wrap64 (by omega) (by omega), wrapu64 (by omega) (by omega)]
    · have hz : x1 = 0 := by omega
      subst hz
      refine .inr (.inl ⟨x2, by unfold r01_Worth.b1; simp, ?_⟩)
      have : x2 = 2 ^ n.toNat := by simpa using i3
      rw [this]) (n, 1) ⟨h0, h1, Int.zero_le_ofNat 1, by simp⟩
  exact ⟨_, key, rfl⟩
theorem r01_Full.ok (n : Int) : r01_Full.f n (if n < 0 ∨ n > 64 then (0, 10) else (fullM n, 0)) := by
  unfold r01_Full.f
  by_cases h : n < 0 ∨ n > 64
  · rw [if_pos (by simpa using h), if_pos h]
  · rw [if_neg (by simpa using h), if_neg h]
    have key := Loop.of (b := r01_Full.b1 n) (fun _ => (.go (fullM n) : Fin Int (Int × Int))) (fun s => (n - s.2).toNat) (fun s => 0 ≤ s.2 ∧ s.2 ≤ n ∧ s.1 = fullM s.2) (fun s hi => by
      obtain ⟨x1, x2⟩ := s
      obtain ⟨i0, i1, i2⟩ := hi
      simp only at i0 i1 i2
      by_cases hx : x2 < n
      · have hlt := two_pow_lt (n := x2.toNat) (by omega)
        have hpos : (0 : Int) < 2 ^ x2.toNat := Int.pow_pos (by decide)
        have hp : (2 : Int) ^ (x2 + 1).toNat = 2 ^ x2.toNat * 2 := by rw [show (x2 + 1).toNat = x2.toNat + 1 by omega, Int.pow_succ]
        have hs : x1 + 2 ^ x2.toNat = fullM (x2 + 1) := by rw [i2]; unfold fullM; rw [hp]; omega
        have hle : (2 : Int) ^ x2.toNat ≤ 9223372036854775808 := by
          have h1 : (2 : Nat) ^ x2.toNat ≤ 2 ^ 63 := Nat.pow_le_pow_right (by decide) (by omega)
          have h2 : ((2 ^ x2.toNat : Nat) : Int) = (2 : Int) ^ x2.toNat := by simp
          have h3 : (2 : Nat) ^ 63 = 9223372036854775808 := by decide
          omega
        refine .inl ⟨(fullM (x2 + 1), x2 + 1), ?_, by simp; omega, ⟨by simp; omega, by simp; omega, rfl⟩, rfl⟩
        unfold r01_Full.b1
        simp only [hx, if_true]
        refine ⟨_, r01_Worth.ok i0 (by omega), ?_⟩
        rw [hs, wrap64 (by omega) (by omega), wrapu64 (by unfold fullM; rw [hp]; omega) (by unfold fullM; rw [hp]; omega)]
      · have hz : x2 = n := by omega
        subst hz
        exact .inr (.inl ⟨x1, by unfold r01_Full.b1; simp, by rw [i2]⟩)) (0, 0) ⟨by decide, by simp; omega, by simp [fullM]⟩
    exact ⟨_, key, rfl⟩
end Go.RM.Tryz
namespace Go.RM.Tryz
open Go.RM
set_option linter.unusedVariables false
set_option linter.unusedSimpArgs false
def spaceOk1 (s : TSpace) : Bool :=
  if s.Tag = 1 then (s.Dim == 0) && ((s.Parts.length : Int) == 0)
  else if s.Tag = 2 then decide (s.Dim ≥ 0) && (decide (s.Dim ≤ 1048576) && ((s.Parts.length : Int) == 0))
  else if s.Tag = 3 ∨ s.Tag = 4 then decide (s.Dim ≥ 0) && (decide (s.Dim ≤ 64) && ((s.Parts.length : Int) == 0))
  else false
def spaceOk (s : TSpace) : Bool :=
  if s.Tag = 5 then (s.Dim == 0) && (((s.Parts.length : Int) == 2) && s.Parts.all (fun p => !(p.Tag == 5) && spaceOk1 p)) else spaceOk1 s
theorem weight_Space.step1 {self : TSpace → Int → Prop} {s : TSpace} (h : s.Tag ≠ 5) : weight_Space.step self s (if spaceOk1 s = true then 0 else 50) := by
  unfold weight_Space.step weight_Space.j1 spaceOk1
  by_cases h1 : s.Tag = 1
  · simp only [h1, if_true]; exact iteR _
  · by_cases h2 : s.Tag = 2
    · simp only [h2, Int.reduceEq, if_true, if_false]; exact iteR _
    · by_cases h3 : s.Tag = 3
      · simp only [h3, Int.reduceEq, if_true, if_false, true_or]; exact iteR _
      · by_cases h4 : s.Tag = 4
        · simp only [h4, Int.reduceEq, if_true, if_false, or_true]; exact iteR _
        · simp [h1, h2, h3, h4, h]
theorem spaceOk_ne {s : TSpace} (h : s.Tag ≠ 5) : spaceOk s = spaceOk1 s := by unfold spaceOk; rw [if_neg h]
theorem weight_Space.ok {s : TSpace} (hl : s.Parts.length ≤ maxLen) : weight_Space.f s (if spaceOk s = true then 0 else 50) := by
  refine ⟨2, ?_⟩
  by_cases h : s.Tag = 5
  · show weight_Space.step _ s _
    unfold weight_Space.step spaceOk
    simp only [h, if_true, if_false, show ¬ (5 : Int) = 1 by decide, show ¬ (5 : Int) = 2 by decide, show ¬ (5 : Int) = 3 by decide, show ¬ (5 : Int) = 4 by decide]
    refine ⟨s.Parts.any (fun p => (p.Tag == 5) || !spaceOk1 p), fun _ _ => ?_, ?_⟩
    · refine containsFunc (fun p => (p.Tag == 5) || !spaceOk1 p) hl (fun p hp => ?_) rfl
      refine ⟨if spaceOk1 p = true then 0 else 50, fun hn => weight_Space.step1 hn, ?_⟩
      cases spaceOk1 p <;> simp
    · have e : (!s.Parts.any (fun p => (p.Tag == 5) || !spaceOk1 p)) = s.Parts.all (fun p => !(p.Tag == 5) && spaceOk1 p) := by
        rw [List.all_eq_not_any_not]; simp
      rw [e]
      exact iteR _
  · rw [spaceOk_ne h]; exact weight_Space.step1 h
theorem r05_Space.step1 {self : TSpace → Int → Prop} {s : TSpace} (h : s.Tag ≠ 5) : r05_Space.step self s (if spaceOk1 s = true then 0 else 50) := by
  unfold r05_Space.step r05_Space.j1 spaceOk1
  by_cases h1 : s.Tag = 1
  · simp only [h1, if_true]; exact iteR _
  · by_cases h2 : s.Tag = 2
    · simp only [h2, Int.reduceEq, if_true, if_false]; exact iteR _
    · by_cases h3 : s.Tag = 3
      · simp only [h3, Int.reduceEq, if_true, if_false, true_or, beq_self_eq_true]; exact iteR _
      · by_cases h4 : s.Tag = 4
        · simp only [h4, Int.reduceEq, if_true, if_false, or_true, beq_self_eq_true]; exact iteR _
        · simp [h1, h2, h3, h4, h]
theorem r05_Space.ok {s : TSpace} (hl : s.Parts.length ≤ maxLen) : r05_Space.f s (if spaceOk s = true then 0 else 50) := by
  refine ⟨2, ?_⟩
  by_cases h : s.Tag = 5
  · show r05_Space.step _ s _
    unfold r05_Space.step spaceOk r05_Space.j1
    simp only [h, if_true, if_false, show ¬ (5 : Int) = 1 by decide, show ¬ (5 : Int) = 2 by decide, show ¬ (5 : Int) = 3 by decide, show ((5 : Int) == 4) = false by decide, Bool.false_eq_true]
    by_cases hd : ((s.Dim == 0) && ((s.Parts.length : Int) == 2)) = true
    · obtain ⟨a, b, hp⟩ : ∃ a b, s.Parts = [a, b] := by
        have : s.Parts.length = 2 := by simp at hd; omega
        match hs : s.Parts, this with
        | [a, b], _ => exact ⟨a, b, rfl⟩
      have hq : ∀ p : TSpace, ¬ p.Tag = 5 → r05_Space.fN 1 p (if spaceOk1 p = true then 0 else 50) := fun p hn => r05_Space.step1 hn
      have hx : ∀ p : TSpace, ((!(p.Tag == 5)) && ((if spaceOk1 p = true then (0 : Int) else 50) == 0)) = (!(p.Tag == 5) && spaceOk1 p) := fun p => by cases spaceOk1 p <;> simp
      have r1 : r05_Space.b1 (r05_Space.fN 1) s (true, 0) (.next (!(a.Tag == 5) && spaceOk1 a, 1)) := by
        unfold r05_Space.b1
        simp only [hp]
        refine ⟨⟨by decide, by simp⟩, fun _ => ⟨by decide, by simp⟩, _, hq a, ?_⟩
        rw [show rdl [a, b] 0 = a from rfl, hx a]; rfl
      have r2 : (!(a.Tag == 5) && spaceOk1 a) = true → r05_Space.b1 (r05_Space.fN 1) s (true, 1) (.next (!(b.Tag == 5) && spaceOk1 b, 2)) := fun _ => by
        unfold r05_Space.b1
        simp only [hp]
        refine ⟨⟨by decide, by simp⟩, fun _ => ⟨by decide, by simp⟩, _, hq b, ?_⟩
        rw [show rdl [a, b] 1 = b from rfl, hx b]; rfl
      have r3 : ∀ c, r05_Space.b1 (r05_Space.fN 1) s (c, 2) (.exit c) := fun c => by unfold r05_Space.b1; simp [hp]
      have r4 : r05_Space.b1 (r05_Space.fN 1) s (false, 1) (.exit false) := by unfold r05_Space.b1; simp [hp]
      rw [hd]
      rw [Bool.and_eq_true] at hd
      rw [hd.1, hd.2, hp]
      cases ha : (!(a.Tag == 5) && spaceOk1 a) with
      | false =>
        rw [ha] at r1
        refine ⟨_, .next r1 (.exit r4), ?_⟩
        simp [Fin.on, ha]
      | true =>
        rw [ha] at r1
        refine ⟨_, .next r1 (.next (r2 ha) (.exit (r3 _))), ?_⟩
        simp only [Fin.on, List.all_cons, List.all_nil, ha, Bool.true_and, Bool.and_true]
        exact iteR _
    · have hd' : ((s.Dim == 0) && ((s.Parts.length : Int) == 2)) = false := by simpa only [Bool.not_eq_true] using hd
      rw [hd', ← Bool.and_assoc, hd']
      refine ⟨.go false, .exit ?_, ?_⟩
      · unfold r05_Space.b1; simp
      · simp [Fin.on]
  · rw [spaceOk_ne h]; exact r05_Space.step1 h
end Go.RM.Tryz
namespace Go.RM.Tryz
open Go.RM
set_option linter.unusedVariables false
set_option linter.unusedSimpArgs false
def plainB (w : TWeight) (c f e p : Bool) : Bool :=
  (c || w.Cost == 0) && ((f || (w.Facts.Gen == 0 && (w.Facts.Rows.length : Int) == 0)) && ((e || (w.Cells.length : Int) == 0) && (p || (w.Parts.length : Int) == 0)))
theorem r05_plain.ok (w : TWeight) (c f e p : Bool) : r05_plain.f w c f e p (plainB w c f e p) := by
  unfold r05_plain.f plainB
  cases c <;> cases f <;> cases e <;> cases p <;> simp [Bool.and_assoc]
def TWeight.Sized (w : TWeight) : Prop := w.Facts.Rows.length ≤ 17592186044416 ∧ w.Cells.length ≤ 17592186044416 ∧ w.Parts.length ≤ 17592186044416
theorem TWeight.Fit.sized {w : TWeight} (h : w.Fit) : w.Sized := by
  cases h with
  | mk _ h0 h1 h2 h3 h4 h5 h6 h7 h8 =>
    have := h2.2.1
    exact ⟨by omega, by omega, by omega⟩
theorem weight_bare.ok {w : TWeight} (h : w.Sized) (t : Int) : weight_bare.f w t (plainB w (t == 2) (t == 3) (t == 4) (t == 5)) := by
  obtain ⟨ha, hb, hc⟩ := h
  have e : ∀ a b c : Nat, a ≤ 17592186044416 → b ≤ 17592186044416 → c ≤ 17592186044416 → (IntKind.i64.wrap (IntKind.i64.wrap ((a : Int) + b) + c) == 0) = (((a : Int) == 0) && (((b : Int) == 0) && ((c : Int) == 0))) := by
    intro a b c h1 h2 h3
    rw [wrap64 (i := (a : Int) + b) (by omega) (by omega), wrap64 (by omega) (by omega), Bool.eq_iff_iff]
    simp only [beq_iff_eq, Bool.and_eq_true]
    omega
  have z : ((([] : List Int).length : Nat) : Int) = 0 := rfl
  unfold weight_bare.f weight_bare.j1 plainB
  by_cases h2 : t = 2
  · subst h2; rw [if_pos rfl]; simp only []; rw [e _ _ _ ha hb hc]; simp [Bool.and_assoc]
  · by_cases h3 : t = 3
    · subst h3; simp only [Int.reduceEq, if_true, if_false]; rw [e _ _ _ (by simp) hb hc]; simp
    · by_cases h4 : t = 4
      · subst h4; simp only [Int.reduceEq, if_true, if_false]; rw [e _ _ _ ha (by simp) hc]; simp [Bool.and_assoc]
      · by_cases h5 : t = 5
        · subst h5; simp only [Int.reduceEq, if_true, if_false]; rw [e _ _ _ ha hb (by simp)]; simp [Bool.and_assoc]
        · simp only [h2, h3, h4, h5, if_false]; rw [e _ _ _ ha hb hc]
          rw [beq_false_of_ne h2, beq_false_of_ne h3, beq_false_of_ne h4, beq_false_of_ne h5]
          simp only [Bool.false_or, Bool.and_assoc]
def cellOk (n : Int) (c : TCell) : Bool :=
  (bitOp .andNot .u64 c.From (fullM n) == 0) && (if c.Kind = 0 then c.K == 0 else if c.Kind = 1 then true else if c.Kind = 2 then (c.K == 0) && (c.From == 0) else false)
theorem cells_mask.ok {n : Int} (h0 : 0 ≤ n) (h1 : n ≤ 64) : cells_mask.f n (fullM n) := by
  unfold cells_mask.f
  by_cases h : n ≥ 64
  · have : n = 64 := by omega
    subst this
    simp only [ge_iff_le, Int.le_refl, if_true]; decide
  · rw [if_neg h]
    refine ⟨h0, ?_⟩
    have hlt := two_pow_lt (n := n.toNat) (by omega)
    have hpos : (0 : Int) < 2 ^ n.toNat := Int.pow_pos (by decide)
    have e : shlI .u64 1 n = 2 ^ n.toNat := by
      unfold shlI
      rw [show (min n.toNat IntKind.u64.bits) = n.toNat by simp [IntKind.bits]; omega]
      rw [Int.one_mul, wrapu64 (by omega) hlt]
    rw [e, wrapu64 (by omega) (by omega)]
    rfl
theorem cells_right.ok {n : Int} (h0 : 0 ≤ n) (h1 : n ≤ 64) (c : TCell) : cells_right.f n c (cellOk n c) := by
  refine ⟨_, cells_mask.ok h0 h1, ?_⟩
  unfold cellOk
  by_cases hm : bitOp .andNot .u64 c.From (fullM n) = 0
  · simp only [hm, if_true, beq_self_eq_true, Bool.true_and]
    by_cases k1 : c.Kind = 1
    · simp [k1]
    · by_cases k0 : c.Kind = 0
      · simp [k0]
      · by_cases k2 : c.Kind = 2
        · simp [k2, Bool.and_comm]
        · simp [k0, k1, k2]
  · simp [hm]
theorem fullI {n : Int} (h0 : 0 ≤ n) (h1 : n ≤ 64) : (if n < 0 ∨ n > 64 then ((0, 10) : Int × Int) else (fullM n, 0)) = (fullM n, 0) := by rw [if_neg (by omega)]
theorem r03_Inside.ok {n : Int} (h0 : 0 ≤ n) (h1 : n ≤ 64) (x : Int) : r03_Inside.f n x (bitOp .andNot .u64 x (fullM n) == 0) := by
  have := r01_Full.ok n
  rw [fullI h0 h1] at this
  exact ⟨_, this, rfl⟩
theorem r05_cell.ok {n : Int} (h0 : 0 ≤ n) (h1 : n ≤ 64) (c : TCell) : r05_cell.f n c (cellOk n c) := by
  refine ⟨_, r03_Inside.ok h0 h1 _, ?_⟩
  unfold cellOk
  by_cases hm : bitOp .andNot .u64 c.From (fullM n) = 0
  · simp only [hm, if_true, beq_self_eq_true, Bool.true_and]
    by_cases k0 : c.Kind = 0
    · simp [k0]
    · by_cases k1 : c.Kind = 1
      · simp [k1]
      · by_cases k2 : c.Kind = 2
        · simp [k2]
        · simp [k0, k1, k2]
  · simp [hm]
def cellsOk (n : Int) (l : List TCell) : Bool := ((l.length : Int) == n) && l.all (cellOk n)
theorem cells_Check.ok {n : Int} (h0 : 0 ≤ n) (h1 : n ≤ 64) {l : List TCell} (hl : l.length ≤ maxLen) : cells_Check.f n l (if cellsOk n l = true then 0 else 40) := by
  refine ⟨0, ?_, ?_⟩
  · unfold cells_dims.f; rw [if_neg (by simp; omega)]
  · simp only [if_true]
    unfold cellsOk
    by_cases hn : (l.length : Int) = n
    · rw [if_pos hn]
      have key := eachLoop (l := l) (b := cells_Check.b1 n l) (cellOk n) (40 : Int) (fun i i0 i1 => by
        unfold cells_Check.b1
        simp only [i1, if_true]
        exact ⟨fun ht => ⟨⟨i0, i1⟩, _, cells_right.ok h0 h1 _, by rw [ht, if_pos rfl, wrap_len hl i0 i1]⟩, fun ht => ⟨⟨i0, i1⟩, _, cells_right.ok h0 h1 _, by rw [ht]; simp⟩⟩) (fun i i0 i1 => by unfold cells_Check.b1; rw [if_neg i1])
      refine ⟨_, key, ?_⟩
      cases l.all (cellOk n) <;> simp [Fin.on, hn]
    · rw [if_neg hn]
      simp [hn]
end Go.RM.Tryz
namespace Go.RM.Tryz
open Go.RM
set_option linter.unusedVariables false
set_option linter.unusedSimpArgs false
theorem slices_Equal_uint64.ok {a b : List Int} (hl : a.length ≤ maxLen) : slices_Equal_uint64.f a b (decide (a = b)) := by
  unfold slices_Equal_uint64.f
  by_cases h : (a.length : Int) = b.length
  · rw [if_pos h]
    exact ⟨_, eqRound hl (by omega) rfl, eqOn⟩
  · rw [if_neg h]
    have : a ≠ b := fun e => h (by rw [e])
    simp [this]
def factsEq (a b : TFacts) : Bool := (a.Gen == b.Gen) && decide (a.Rows = b.Rows)
theorem facts_Same.ok {a b : TFacts} (hl : a.Rows.length ≤ maxLen) : facts_Same.f a b (factsEq a b) :=
  ⟨_, fun _ => slices_Equal_uint64.ok hl, rfl⟩
theorem r03_Same.ok {a b : TFacts} (hl : a.Rows.length ≤ maxLen) : r03_Same.f a b (factsEq a b) := by
  unfold r03_Same.f factsEq
  by_cases hg : a.Gen = b.Gen
  · by_cases h : (a.Rows.length : Int) = b.Rows.length
    · rw [if_neg (by simp [hg, h])]
      refine ⟨_, eqRound hl (by omega) rfl, ?_⟩
      simp only [hg, beq_self_eq_true, Bool.true_and]
      exact eqOn
    · rw [if_pos (by simp [h])]
      have : a.Rows ≠ b.Rows := fun e => h (by rw [e])
      simp [this]
  · rw [if_pos (by simp [hg])]
    simp [hg]
def canonM (F : TFacts) : TFacts := ⟨F.Gen, F.Rows.map (fun r => bitOp .andNot .u64 r F.Gen)⟩
theorem upto_rdl {α : Type} [Inhabited α] (l : List α) : (upto l.length).map (rdl l) = l := by
  apply List.ext_getElem?
  intro k
  simp only [upto, List.map_map, List.getElem?_map]
  by_cases h : k < l.length
  · rw [List.getElem?_range h]
    have := rdl_get (l := l) (i := (k : Int)) (by omega) (by omega)
    simp only [Int.toNat_natCast] at this
    rw [this]; rfl
  · rw [List.getElem?_eq_none (by simp; omega), List.getElem?_eq_none (by omega)]; rfl
theorem facts_canon.ok {F : TFacts} (h : F.Rows.length ≤ 17592186044416) : facts_canon.f F (canonM F) := by
  refine ⟨⟨by omega, by unfold Fits; omega⟩, ?_⟩
  have hm : F.Rows.length ≤ maxLen := by unfold maxLen; omega
  have key := fillLoop (n := (F.Rows.length : Int)) (b := facts_canon.b1 F) (0 : Int) (fun i _ => bitOp .andNot .u64 (rdl F.Rows i) F.Gen) (by omega) (fun i l h0 h1 hl => by
    unfold facts_canon.b1
    simp only [h1, if_true]
    exact ⟨⟨h0, h1⟩, ⟨h0, by omega⟩, by rw [wrap_len hm h0 h1]⟩) (fun l hl => by
    unfold facts_canon.b1
    simp)
  refine ⟨_, key, ?_⟩
  show canonM F = _
  unfold canonM
  congr 1
  have : F.Rows.map (fun r => bitOp .andNot .u64 r F.Gen) = ((upto F.Rows.length).map (rdl F.Rows)).map (fun r => bitOp .andNot .u64 r F.Gen) := by rw [upto_rdl]
  rw [this, List.map_map]; simp [Function.comp_def]
theorem r03_canon.ok {F : TFacts} (h : F.Rows.length ≤ 17592186044416) : r03_canon.f F (canonM F) := by
  have hm : F.Rows.length ≤ maxLen := by unfold maxLen; omega
  have key := foldLoop (l := F.Rows) (b := r03_canon.b1 F) (fun i l => (l, i)) id (fun _ x acc => .go (acc ++ [bitOp .andNot .u64 x F.Gen])) (fun i l => (l.length : Int) = i) (fun i l h0 h1 hi => by
    refine ⟨?_, by simp; omega⟩
    unfold r03_canon.b1
    simp only [h1, if_true]
    exact ⟨⟨h0, h1⟩, by unfold Fits; omega, by rw [wrap_len hm h0 h1]⟩) (fun l hl => by unfold r03_canon.b1; simp) [] rfl
  refine ⟨_, key.1, ?_⟩
  rw [foldF_map]
  rfl
def factsOk (n : Int) (F : TFacts) : Bool :=
  ((F.Rows.length : Int) == n) && ((bitOp .andNot .u64 F.Gen (fullM n) == 0) && (F.Rows.all (fun x => bitOp .andNot .u64 x (fullM n) == 0) && factsEq (canonM F) F))
theorem canonM_len (F : TFacts) : (canonM F).Rows.length = F.Rows.length := by simp [canonM]
theorem facts_Check.ok {n : Int} (h0 : 0 ≤ n) (h1 : n ≤ 64) {F : TFacts} (hl : F.Rows.length ≤ 17592186044416) : facts_Check.f n F (if factsOk n F = true then 0 else 30) := by
  have hm : F.Rows.length ≤ maxLen := by unfold maxLen; omega
  let a := F.Rows.any (fun x => bitOp .andNot .u64 x (fullM n) != 0)
  have hs : facts_shaped.f n F (if ((!((F.Rows.length : Int) == n)) || ((!((bitOp .andNot .u64 F.Gen (fullM n)) == 0)) || a)) = true then 30 else 0) := by
    have hf := bits_Full.ok n
    rw [fullI h0 h1] at hf
    refine ⟨_, hf, ?_⟩
    simp only [if_true]
    refine ⟨a, fun _ _ => containsFunc (q := fun x0_ y_ => facts_shaped_1.f x0_ (fullM n) y_) (fun x => bitOp .andNot .u64 x (fullM n) != 0) hm (fun x hx => rfl) rfl, iteR _⟩
  refine ⟨_, hs, ?_⟩
  have e : F.Rows.all (fun x => bitOp .andNot .u64 x (fullM n) == 0) = !a := by simp [a, List.all_eq_not_any_not]; rfl
  unfold factsOk
  rw [e]
  by_cases hn : (F.Rows.length : Int) = n
  · by_cases hg : bitOp .andNot .u64 F.Gen (fullM n) = 0
    · cases ha : a with
      | false =>
        simp only [hn, hg, beq_self_eq_true, Bool.not_true, Bool.or_self, Bool.false_eq_true, if_false, if_true]
        refine ⟨_, facts_canon.ok hl, _, facts_Same.ok (by rw [canonM_len]; exact hm), ?_⟩
        cases factsEq (canonM F) F <;> simp
      | true => simp [hn, hg]
    · simp [hg]
  · simp [hn]
theorem r03_Check.ok {n : Int} (h0 : 0 ≤ n) (h1 : n ≤ 64) {F : TFacts} (hl : F.Rows.length ≤ 17592186044416) : r03_Check.f n F (if factsOk n F = true then 0 else 30) := by
  have hm : F.Rows.length ≤ maxLen := by unfold maxLen; omega
  let s : Bool := ((F.Rows.length : Int) == n) && ((bitOp .andNot .u64 F.Gen (fullM n) == 0) && F.Rows.all (fun x => bitOp .andNot .u64 x (fullM n) == 0))
  have hs : r03_shape.f n F s := by
    refine ⟨_, fun _ => r03_Inside.ok h0 h1 _, ?_⟩
    by_cases hn : (F.Rows.length : Int) = n
    · by_cases hg : bitOp .andNot .u64 F.Gen (fullM n) = 0
      · rw [if_neg (by simp [hn, hg])]
        have key := eachLoop (l := F.Rows) (b := r03_shape.b1 n F) (fun x => bitOp .andNot .u64 x (fullM n) == 0) false (fun i i0 i1 => by
          unfold r03_shape.b1
          have i2 : i < n := by omega
          simp only [i2, if_true]
          exact ⟨fun ht => ⟨⟨i0, i1⟩, _, r03_Inside.ok h0 h1 _, by rw [ht, if_pos rfl, wrap_len hm i0 i1]⟩, fun ht => ⟨⟨i0, i1⟩, _, r03_Inside.ok h0 h1 _, by rw [ht]; simp⟩⟩) (fun i i0 i1 => by unfold r03_shape.b1; rw [if_neg (by omega)])
        refine ⟨_, key, ?_⟩
        simp only [s, hn, hg, beq_self_eq_true, Bool.true_and]
        cases F.Rows.all (fun x => bitOp .andNot .u64 x (fullM n) == 0) <;> simp [Fin.on]
      · rw [if_pos (by simp [hg])]; simp [s, hg]
    · rw [if_pos (by simp [hn])]; simp [s, hn]
  refine ⟨true, ?_, ?_⟩
  · unfold r03_dim.f; simp; omega
  · rw [if_pos rfl]
    refine ⟨_, hs, _, fun _ => r03_canon.ok hl, _, fun _ => r03_Same.ok (by rw [canonM_len]; exact hm), ?_⟩
    have e : factsOk n F = (s && factsEq (canonM F) F) := by simp [factsOk, s, Bool.and_assoc]
    rw [e]
    cases s <;> cases factsEq (canonM F) F <;> simp
end Go.RM.Tryz
namespace Go.RM.Tryz
open Go.RM
set_option linter.unusedVariables false
set_option linter.unusedSimpArgs false
def isW1 (s : TSpace) (w : TWeight) : Bool :=
  if w.Zero = true then plainB w false false false false
  else plainB w (s.Tag == 2) (s.Tag == 3) (s.Tag == 4) false && (if s.Tag = 2 then decide (w.Cost ≥ 0) && decide (w.Cost ≤ s.Dim) else if s.Tag = 3 then factsOk s.Dim w.Facts else if s.Tag = 4 then cellsOk s.Dim w.Cells else true)
def isW (s : TSpace) (w : TWeight) : Bool :=
  if s.Tag = 5 then (!w.Zero) && (plainB w false false false true && (((w.Parts.length : Int) == 2) && (isW1 (rdl s.Parts 0) (rdl w.Parts 0) && isW1 (rdl s.Parts 1) (rdl w.Parts 1)))) else isW1 s w
def TWeight.Sized2 (w : TWeight) : Prop := w.Sized ∧ ∀ p ∈ w.Parts, p.Sized
theorem TWeight.Fit.sized2 {w : TWeight} (h : w.Fit) : w.Sized2 := ⟨h.sized, by
  cases h with
  | mk _ h0 h1 h2 h3 h4 h5 h6 h7 h8 => exact fun p hp => (h8 p hp).sized⟩
theorem space1_cases {s : TSpace} (h : spaceOk1 s = true) : (s.Tag = 1 ∧ s.Dim = 0) ∨ (s.Tag = 2 ∧ 0 ≤ s.Dim ∧ s.Dim ≤ 1048576) ∨ (s.Tag = 3 ∧ 0 ≤ s.Dim ∧ s.Dim ≤ 64) ∨ (s.Tag = 4 ∧ 0 ≤ s.Dim ∧ s.Dim ≤ 64) := by
  unfold spaceOk1 at h
  by_cases h1 : s.Tag = 1
  · simp [h1] at h; exact .inl ⟨h1, h.1⟩
  · by_cases h2 : s.Tag = 2
    · simp [h2] at h; exact .inr (.inl ⟨h2, h.1, h.2.1⟩)
    · by_cases h3 : s.Tag = 3
      · simp [h3] at h; exact .inr (.inr (.inl ⟨h3, h.1, h.2.1⟩))
      · by_cases h4 : s.Tag = 4
        · simp [h4] at h; exact .inr (.inr (.inr ⟨h4, h.1, h.2.1⟩))
        · simp [h1, h2, h3, h4] at h
theorem space_parts {s : TSpace} (h : spaceOk s = true) (h5 : s.Tag = 5) : ∃ a b, s.Parts = [a, b] ∧ spaceOk1 a = true ∧ spaceOk1 b = true ∧ a.Tag ≠ 5 ∧ b.Tag ≠ 5 ∧ s.Dim = 0 := by
  unfold spaceOk at h
  rw [if_pos h5] at h
  rw [Bool.and_eq_true, Bool.and_eq_true] at h
  obtain ⟨hd, hl, ha⟩ := h
  have : s.Parts.length = 2 := by simp at hl; omega
  match hs : s.Parts, this with
  | [a, b], _ =>
    rw [hs] at ha
    simp at ha hd
    exact ⟨a, b, rfl, ha.1.2, ha.2.2, ha.1.1, ha.2.1, hd⟩
theorem weight_is.step1 {self : TSpace → TWeight → Bool → Prop} {s : TSpace} {w : TWeight} (hs : spaceOk1 s = true) (hw : w.Sized) : weight_is.step self s w (isW1 s w) := by
  have hm : w.Cells.length ≤ maxLen := by have := hw.2.1; unfold maxLen; omega
  unfold weight_is.step isW1
  cases hz : w.Zero with
  | true =>
    rw [if_pos rfl, if_pos rfl]
    refine ⟨_, fun _ => weight_bare.ok hw 0, ?_⟩
    have h5 : s.Tag ≠ 5 := by rcases space1_cases hs with h | h | h | h <;> omega
    simp [h5]
  | false =>
    rw [if_neg Bool.false_ne_true, if_neg Bool.false_ne_true]
    have h5 : s.Tag ≠ 5 := by rcases space1_cases hs with h | h | h | h <;> omega
    refine ⟨_, weight_bare.ok hw s.Tag, ?_⟩
    rw [beq_false_of_ne h5]
    cases hp : plainB w (s.Tag == 2) (s.Tag == 3) (s.Tag == 4) false with
    | false => simp
    | true =>
      rw [if_pos rfl, Bool.true_and]
      rcases space1_cases hs with h | h | h | h
      · simp [h.1]
      · simp only [h.1, Int.reduceEq, if_true, if_false]
        refine ⟨_, fun _ => cost_Check.ok _ _, ?_⟩
        unfold costE
        rw [if_neg (by omega), Bool.eq_iff_iff]
        by_cases hv : w.Cost < -1 ∨ w.Cost > s.Dim
        · rw [if_pos hv]; simp; omega
        · rw [if_neg hv]; simp; omega
      · simp only [h.1, Int.reduceEq, if_true, if_false]
        refine ⟨_, facts_Check.ok h.2.1 h.2.2 hw.1, ?_⟩
        cases factsOk s.Dim w.Facts <;> simp
      · simp only [h.1, Int.reduceEq, if_true, if_false]
        refine ⟨_, cells_Check.ok h.2.1 h.2.2 hm, ?_⟩
        cases cellsOk s.Dim w.Cells <;> simp
theorem isW_ne {s : TSpace} {w : TWeight} (h : s.Tag ≠ 5) : isW s w = isW1 s w := by unfold isW; rw [if_neg h]
theorem part_sized {w : TWeight} (hw : w.Sized2) {i : Int} (h0 : 0 ≤ i) (h1 : i < w.Parts.length) : (rdl w.Parts i).Sized := hw.2 _ (rdl_mem h0 h1)
theorem weight_is.ok {s : TSpace} {w : TWeight} (hs : spaceOk s = true) (hw : w.Sized2) : weight_is.f s w (isW s w) := by
  refine ⟨2, ?_⟩
  by_cases h5 : s.Tag = 5
  · obtain ⟨a, b, hp, ha, hb, _, _, hd⟩ := space_parts hs h5
    show weight_is.step (weight_is.fN 1) s w _
    unfold weight_is.step isW
    rw [if_pos h5]
    cases hz : w.Zero with
    | true =>
      rw [if_pos rfl]
      exact ⟨false, fun h => (h h5).elim, by simp [h5]⟩
    | false =>
      rw [if_neg Bool.false_ne_true]
      refine ⟨_, weight_bare.ok hw.1 s.Tag, ?_⟩
      simp only [h5, Int.reduceBEq]
      cases hb : plainB w false false false true with
      | false => simp
      | true =>
        simp only [Int.reduceEq, if_true, if_false, hp]
        by_cases h2 : (w.Parts.length : Int) = 2
        · refine ⟨fun _ => ⟨by decide, by simp⟩, fun _ => ⟨by decide, by omega⟩, _, fun _ => weight_is.step1 (self := weight_is.fN 0) ha (part_sized hw (by decide) (by omega)), fun _ _ => ⟨by decide, by simp⟩, fun _ _ => ⟨by decide, by omega⟩, _, fun _ _ => weight_is.step1 (self := weight_is.fN 0) (by assumption) (part_sized hw (by decide) (by omega)), ?_⟩
          simp [h2]
        · refine ⟨fun h => (h2 h).elim, fun h => (h2 h).elim, false, fun h => (h2 h).elim, fun h => (h2 h).elim, fun h => (h2 h).elim, false, fun h => (h2 h).elim, ?_⟩
          simp [h2]
  · have h1 : spaceOk1 s = true := by rw [← spaceOk_ne h5]; exact hs
    rw [isW_ne h5]; exact weight_is.step1 h1 hw.1
theorem r05_is.step1 {self : TSpace → TWeight → Bool → Prop} {s : TSpace} {w : TWeight} (hs : spaceOk1 s = true) (hw : w.Sized) : r05_is.step self s w (isW1 s w) := by
  have hm : w.Cells.length ≤ maxLen := by have := hw.2.1; unfold maxLen; omega
  unfold r05_is.step isW1
  have h5 : s.Tag ≠ 5 := by rcases space1_cases hs with h | h | h | h <;> omega
  cases hz : w.Zero with
  | true =>
    rw [if_pos rfl, if_pos rfl]
    exact ⟨_, fun _ => r05_plain.ok w false false false false, by simp [h5]⟩
  | false =>
    rw [if_neg Bool.false_ne_true, if_neg Bool.false_ne_true]
    rcases space1_cases hs with h | h | h | h
    · simp only [h.1, Int.reduceEq, Int.reduceBEq, if_true, if_false, Bool.and_true]
      exact ⟨_, r05_plain.ok w false false false false, rfl⟩
    · simp only [h.1, Int.reduceEq, Int.reduceBEq, if_true, if_false]
      exact ⟨_, r05_plain.ok w true false false false, rfl⟩
    · simp only [h.1, Int.reduceEq, Int.reduceBEq, if_true, if_false]
      refine ⟨_, r05_plain.ok w false true false false, _, fun _ => r03_Check.ok h.2.1 h.2.2 hw.1, ?_⟩
      cases factsOk s.Dim w.Facts <;> simp
    · simp only [h.1, Int.reduceEq, Int.reduceBEq, if_true, if_false]
      refine ⟨_, r05_plain.ok w false false true false, ?_⟩
      unfold cellsOk
      cases hp : plainB w false false true false with
      | false => simp
      | true =>
        by_cases hn : (w.Cells.length : Int) = s.Dim
        · rw [if_neg (by simp [hn])]
          have key := eachLoop (l := w.Cells) (b := r05_is.b1 s w) (cellOk s.Dim) false (fun i i0 i1 => by
            unfold r05_is.b1
            simp only [i1, if_true]
            exact ⟨fun ht => ⟨⟨i0, i1⟩, _, r05_cell.ok h.2.1 h.2.2 _, by rw [ht, if_pos rfl, wrap_len hm i0 i1]⟩, fun ht => ⟨⟨i0, i1⟩, _, r05_cell.ok h.2.1 h.2.2 _, by rw [ht]; simp⟩⟩) (fun i i0 i1 => by unfold r05_is.b1; simp only [i1, if_false])
          refine ⟨_, key, ?_⟩
          cases w.Cells.all (cellOk s.Dim) <;> simp [Fin.on, hn]
        · rw [if_pos (by simp [hn])]; simp [hn]
theorem r05_is.ok {s : TSpace} {w : TWeight} (hs : spaceOk s = true) (hw : w.Sized2) : r05_is.f s w (isW s w) := by
  refine ⟨2, ?_⟩
  by_cases h5 : s.Tag = 5
  · obtain ⟨a, b, hp, ha, hb, _, _, hd⟩ := space_parts hs h5
    show r05_is.step (r05_is.fN 1) s w _
    unfold r05_is.step isW
    rw [if_pos h5]
    cases hz : w.Zero with
    | true =>
      rw [if_pos rfl]
      exact ⟨false, fun h => (h h5).elim, by simp [h5]⟩
    | false =>
      rw [if_neg Bool.false_ne_true]
      simp only [h5, Int.reduceEq, if_true, if_false, hp]
      refine ⟨_, r05_plain.ok w false false false true, ?_⟩
      cases hb : plainB w false false false true with
      | false => exact ⟨fun h => (by cases h), fun h => (by cases h), false, fun h => (by cases h), fun h => (by cases h), fun h => (by cases h), false, fun h => (by cases h), by simp⟩
      | true =>
        by_cases h2 : (w.Parts.length : Int) = 2
        · refine ⟨fun _ _ => ⟨by decide, by simp⟩, fun _ _ => ⟨by decide, by omega⟩, _, fun _ _ => r05_is.step1 (self := r05_is.fN 0) ha (part_sized hw (by decide) (by omega)), fun _ _ _ => ⟨by decide, by simp⟩, fun _ _ _ => ⟨by decide, by omega⟩, _, fun _ _ _ => r05_is.step1 (self := r05_is.fN 0) (by assumption) (part_sized hw (by decide) (by omega)), ?_⟩
          simp [h2]
        · refine ⟨fun _ h => (h2 h).elim, fun _ h => (h2 h).elim, false, fun _ h => (h2 h).elim, fun _ h => (h2 h).elim, fun _ h => (h2 h).elim, false, fun _ h => (h2 h).elim, ?_⟩
          simp [h2]
  · have h1 : spaceOk1 s = true := by rw [← spaceOk_ne h5]; exact hs
    rw [isW_ne h5]; exact r05_is.step1 h1 hw.1
def allC (s : TSpace) (l : List TWeight) : Int := if spaceOk s = true then (if l.all (isW s) = true then 0 else 51) else 50
theorem weight_checked.ok {s : TSpace} {l : List TWeight} (hs : s.Parts.length ≤ maxLen) (hl : l.length ≤ maxLen) (hw : ∀ w ∈ l, w.Sized2) : weight_checked.f s l (allC s l) := by
  refine ⟨_, weight_Space.ok hs, ?_⟩
  unfold allC
  cases h : spaceOk s with
  | false => simp
  | true =>
    simp only [if_true]
    refine ⟨l.any (fun w => !isW s w), containsFunc (q := fun x y => weight_checked_1.f x s y) (fun w => !isW s w) hl (fun w hm => ⟨_, weight_is.ok h (hw w hm), rfl⟩) rfl, ?_⟩
    rw [List.all_eq_not_any_not]
    cases l.any (fun w => !isW s w) <;> simp
def wC (s : TSpace) (w : TWeight) : Int := if spaceOk s = true then (if isW s w = true then 0 else 51) else 50
theorem r05_Check.ok {s : TSpace} {w : TWeight} (hs : s.Parts.length ≤ maxLen) (hw : w.Sized2) : r05_Check.f s w (wC s w) := by
  refine ⟨_, r05_Space.ok hs, ?_⟩
  unfold wC
  cases h : spaceOk s with
  | false => simp
  | true =>
    simp only [if_true]
    exact ⟨_, r05_is.ok h hw, iteR _⟩
end Go.RM.Tryz
namespace Go.RM.Tryz
open Go.RM
set_option linter.unusedVariables false
set_option linter.unusedSimpArgs false
theorem shl_one {i : Int} (h0 : 0 ≤ i) (h1 : i < 64) : shlI .u64 1 i = 2 ^ i.toNat := by
  have hlt := two_pow_lt (n := i.toNat) (by omega)
  have hpos : (0 : Int) < 2 ^ i.toNat := Int.pow_pos (by decide)
  unfold shlI
  rw [show (min i.toNat IntKind.u64.bits) = i.toNat by simp [IntKind.bits]; omega]
  rw [Int.one_mul, wrapu64 (by omega) hlt]
def noneW : TWeight := ⟨false, 0, ⟨0, []⟩, [], []⟩
def oneF (n : Int) : TFacts := ⟨0, (upto n.toNat).map (fun i => 2 ^ i.toNat)⟩
def oneC (n : Int) : List TCell := (upto n.toNat).map (fun i => ⟨2 ^ i.toNat, 0, 0⟩)
theorem upto_mem {n : Nat} {i : Int} (h : i ∈ upto n) : 0 ≤ i ∧ i < n := by
  simp only [upto, List.mem_map, List.mem_range] at h
  obtain ⟨k, hk, rfl⟩ := h
  simp; exact hk
theorem facts_One.ok {n : Int} (h0 : 0 ≤ n) (h1 : n ≤ 64) : facts_One.f n (oneF n, 0) := by
  have hf := bits_Full.ok n
  rw [fullI h0 h1] at hf
  refine ⟨_, hf, ?_⟩
  simp only [if_true]
  refine ⟨⟨h0, by unfold Fits; omega⟩, ?_⟩
  have hr : ((List.replicate (Int.toNat n) (0 : Int)).length : Int) = n := by simp; omega
  have key := fillLoop (n := n) (b := facts_One.b1 n) (0 : Int) (fun i _ => shlI .u64 1 (IntKind.u64.wrap i)) h0 (fun i l i0 i1 hl => by
    unfold facts_One.b1
    rw [hr]
    simp only [i1, if_true]
    rw [wrapu64 i0 (by omega), wrap64 (by omega) (by omega)]
    exact ⟨i0, ⟨i0, by omega⟩, rfl⟩) (fun l hl => by
    unfold facts_One.b1
    rw [hr]
    simp)
  refine ⟨_, key, ?_⟩
  show (oneF n, (0 : Int)) = (TFacts.mk 0 _, 0)
  unfold oneF
  congr 2
  refine List.map_congr_left fun i hi => ?_
  have := upto_mem hi
  rw [wrapu64 this.1 (by omega), shl_one this.1 (by omega)]
theorem cells_One.ok {n : Int} (h0 : 0 ≤ n) (h1 : n ≤ 64) : cells_One.f n (oneC n, 0) := by
  refine ⟨0, by unfold cells_dims.f; rw [if_neg (by simp; omega)], ?_⟩
  simp only [if_true]
  refine ⟨oneC n, ⟨⟨h0, by unfold Fits; omega⟩, ?_⟩, rfl⟩
  have key := fillLoop (n := n) (b := cells_one.b1 n) (TCell.mk 0 0 0) (fun i c => TCell.mk (shlI .u64 1 i) c.Kind c.K) h0 (fun i l i0 i1 hl => by
    unfold cells_one.b1
    simp only [i1, if_true]
    rw [wrap64 (by omega) (by omega)]
    exact ⟨i0, ⟨i0, by omega⟩, rfl⟩) (fun l hl => by
    unfold cells_one.b1
    simp)
  refine ⟨_, key, ?_⟩
  show oneC n = _
  unfold oneC
  refine List.map_congr_left fun i hi => ?_
  have := upto_mem hi
  rw [shl_one this.1 (by omega)]
def oneW1 (s : TSpace) : TWeight := if s.Tag = 3 then ⟨false, 0, oneF s.Dim, [], []⟩ else if s.Tag = 4 then ⟨false, 0, ⟨0, []⟩, oneC s.Dim, []⟩ else noneW
def oneW (s : TSpace) : TWeight := if s.Tag = 5 then ⟨false, 0, ⟨0, []⟩, [], [oneW1 (rdl s.Parts 0), oneW1 (rdl s.Parts 1)]⟩ else oneW1 s
theorem oneW_ne {s : TSpace} (h : s.Tag ≠ 5) : oneW s = oneW1 s := by unfold oneW; rw [if_neg h]
theorem weight_one.step1 {self : TSpace → TWeight → Prop} {s : TSpace} (hs : spaceOk1 s = true) : weight_one.step self s (oneW1 s) := by
  unfold weight_one.step oneW1
  rcases space1_cases hs with h | h | h | h
  · simp [h.1, noneW]
  · simp [h.1, noneW]
  · simp only [h.1, Int.reduceEq, if_true, if_false]
    exact ⟨_, facts_One.ok h.2.1 h.2.2, rfl⟩
  · simp only [h.1, Int.reduceEq, if_true, if_false]
    exact ⟨_, cells_One.ok h.2.1 h.2.2, rfl⟩
theorem weight_one.ok {s : TSpace} (hs : spaceOk s = true) : weight_one.f s (oneW s) := by
  refine ⟨2, ?_⟩
  by_cases h5 : s.Tag = 5
  · obtain ⟨a, b, hp, ha, hb, _, _, hd⟩ := space_parts hs h5
    show weight_one.step (weight_one.fN 1) s _
    unfold weight_one.step oneW
    simp only [h5, Int.reduceEq, if_true, if_false, hp]
    exact ⟨⟨by decide, by simp⟩, _, weight_one.step1 ha, ⟨by decide, by simp⟩, _, weight_one.step1 hb, rfl⟩
  · rw [oneW_ne h5]; exact weight_one.step1 (by rw [← spaceOk_ne h5]; exact hs)
def oneR (s : TSpace) : TWeight × Int := if spaceOk s = true then (oneW s, 0) else (noneW, 50)
theorem weight_One.ok {s : TSpace} (hl : s.Parts.length ≤ maxLen) : weight_One.f s (oneR s) := by
  refine ⟨_, weight_Space.ok hl, ?_⟩
  unfold oneR
  cases h : spaceOk s with
  | false => simp [noneW]
  | true => simp only [if_true]; exact ⟨_, weight_one.ok h, rfl⟩
end Go.RM.Tryz
namespace Go.RM.Tryz
open Go.RM
set_option linter.unusedVariables false
set_option linter.unusedSimpArgs false
theorem TSpace.eta (s : TSpace) : TSpace.mk s.Tag s.Dim s.Parts = s := by cases s; rfl
theorem TWeight.eta (w : TWeight) : TWeight.mk w.Zero w.Cost (TFacts.mk w.Facts.Gen w.Facts.Rows) w.Cells w.Parts = w := by cases w; rfl
end Go.RM.Tryz
namespace Go.RM.Tryz
open Go.RM
set_option linter.unusedVariables false
set_option linter.unusedSimpArgs false
theorem r05_Same.step1 {self : TWeight → TWeight → Bool → Prop} {w : TWeight} (hw : w.Sized) (h : ∀ p ∈ w.Parts, self p p true) : r05_Same.step self w w true := by
  obtain ⟨ha, hb, hc⟩ := hw
  have hm : ∀ n : Nat, n ≤ 17592186044416 → n ≤ maxLen := fun n hn => by unfold maxLen; omega
  refine ⟨_, fun _ _ => r03_Same.ok (hm _ ha), ?_⟩
  have hf : factsEq w.Facts w.Facts = true := by simp [factsEq]
  rw [hf, if_neg (by simp)]
  have key1 := eachLoop (l := w.Cells) (b := r05_Same.b1 w w) (fun _ => true) false (fun i i0 i1 => by
    unfold r05_Same.b1
    simp only [i1, if_true, beq_self_eq_true, Bool.and_self]
    exact ⟨fun _ => ⟨⟨i0, i1⟩, ⟨i0, i1⟩, by rw [wrap_len (hm _ hb) i0 i1]⟩, fun ht => (by cases ht)⟩) (fun i i0 i1 => by unfold r05_Same.b1; simp only [i1, if_false])
  refine ⟨_, key1, ?_⟩
  rw [if_pos (by simp)]
  have key2 := eachLoop (l := w.Parts) (b := r05_Same.b2 self w w) (fun _ => true) false (fun i i0 i1 => by
    unfold r05_Same.b2
    simp only [i1, if_true]
    exact ⟨fun _ => ⟨⟨i0, i1⟩, ⟨i0, i1⟩, _, h _ (rdl_mem i0 i1), by rw [if_pos rfl, wrap_len (hm _ hc) i0 i1]⟩, fun ht => (by cases ht)⟩) (fun i i0 i1 => by unfold r05_Same.b2; simp only [i1, if_false])
  exact ⟨_, key2, by simp [Fin.on]⟩
def Flat (w : TWeight) : Prop := w.Sized2 ∧ ∀ p ∈ w.Parts, p.Parts = []
theorem r05_Same.refl {w : TWeight} (hw : Flat w) : r05_Same.f w w true :=
  ⟨2, r05_Same.step1 (self := r05_Same.fN 1) hw.1.1 (fun p hp => r05_Same.step1 (self := r05_Same.fN 0) (hw.1.2 p hp) (by rw [hw.2 p hp]; simp))⟩
theorem isW1_parts {s : TSpace} {w : TWeight} (h : isW1 s w = true) : w.Parts = [] := by
  have : w.Parts.length = 0 := by
    unfold isW1 at h
    split at h
    · unfold plainB at h; simp at h; simp [h]
    · rw [Bool.and_eq_true] at h
      have h := h.1
      unfold plainB at h; simp at h; simp [h]
  exact List.eq_nil_of_length_eq_zero this
end Go.RM.Tryz
namespace Go.RM.Tryz
open Go.RM
set_option linter.unusedVariables false
set_option linter.unusedSimpArgs false
def InU (x : Int) : Prop := 0 ≤ x ∧ x < 18446744073709551616
def hasI (x : Int) (i : Nat) : Bool := x.toNat.testBit i
theorem hasI_high {x : Int} (hx : InU x) {i : Nat} (h : 64 ≤ i) : hasI x i = false := by
  unfold hasI
  apply Nat.testBit_lt_two_pow
  have h1 : (2 : Nat) ^ 64 ≤ 2 ^ i := Nat.pow_le_pow_right (by decide) h
  have h2 : (2 : Nat) ^ 64 = 18446744073709551616 := by decide
  have := hx.2; have := hx.1; omega
theorem ext64 {x y : Int} (hx : InU x) (hy : InU y) (h : ∀ i < 64, hasI x i = hasI y i) : x = y := by
  have : x.toNat = y.toNat := by
    apply Nat.eq_of_testBit_eq
    intro i
    by_cases hi : i < 64
    · exact h i hi
    · exact (hasI_high hx (by omega)).trans (hasI_high hy (by omega)).symm
  have := hx.1; have := hy.1; omega
theorem ofInt_toNat {x : Int} (hx : InU x) : (BitVec.ofInt 64 x).toNat = x.toNat := by
  rw [BitVec.toNat_ofInt]
  have := hx.1; have := hx.2
  have : x % ((2 ^ 64 : Nat) : Int) = x := by
    rw [show ((2 ^ 64 : Nat) : Int) = 18446744073709551616 by decide]
    exact Int.emod_eq_of_lt hx.1 hx.2
  rw [this]
theorem toNat_InU (b : BitVec 64) : InU (b.toNat : Int) := by
  have := b.isLt
  have h2 : (2 : Nat) ^ 64 = 18446744073709551616 := by decide
  exact ⟨by omega, by omega⟩
theorem bitOp_or {x y : Int} : bitOp .or .u64 x y = ((BitVec.ofInt 64 x ||| BitVec.ofInt 64 y).toNat : Int) := by
  show IntKind.u64.wrap ((BitVec.ofInt 64 x ||| BitVec.ofInt 64 y).toNat : Int) = _
  have := toNat_InU (BitVec.ofInt 64 x ||| BitVec.ofInt 64 y)
  exact wrapu64 this.1 this.2
theorem bitOp_and {x y : Int} : bitOp .and .u64 x y = ((BitVec.ofInt 64 x &&& BitVec.ofInt 64 y).toNat : Int) := by
  show IntKind.u64.wrap ((BitVec.ofInt 64 x &&& BitVec.ofInt 64 y).toNat : Int) = _
  have := toNat_InU (BitVec.ofInt 64 x &&& BitVec.ofInt 64 y)
  exact wrapu64 this.1 this.2
theorem bitOp_andNot {x y : Int} : bitOp .andNot .u64 x y = ((BitVec.ofInt 64 x &&& ~~~ BitVec.ofInt 64 y).toNat : Int) := by
  show IntKind.u64.wrap ((BitVec.ofInt 64 x &&& ~~~ BitVec.ofInt 64 y).toNat : Int) = _
  have := toNat_InU (BitVec.ofInt 64 x &&& ~~~ BitVec.ofInt 64 y)
  exact wrapu64 this.1 this.2
theorem or_InU (x y : Int) : InU (bitOp .or .u64 x y) := by rw [bitOp_or]; exact toNat_InU _
theorem andNot_InU (x y : Int) : InU (bitOp .andNot .u64 x y) := by rw [bitOp_andNot]; exact toNat_InU _
theorem bv_has (b : BitVec 64) (i : Nat) : hasI (b.toNat : Int) i = b.getLsbD i := rfl
theorem ofInt_bit {x : Int} (hx : InU x) (i : Nat) : (BitVec.ofInt 64 x).getLsbD i = hasI x i := by
  show (BitVec.ofInt 64 x).toNat.testBit i = _
  rw [ofInt_toNat hx]; rfl
theorem has_or {x y : Int} (hx : InU x) (hy : InU y) (i : Nat) : hasI (bitOp .or .u64 x y) i = (hasI x i || hasI y i) := by
  rw [bitOp_or, bv_has, BitVec.getLsbD_or, ofInt_bit hx, ofInt_bit hy]
theorem has_andNot {x y : Int} (hx : InU x) (hy : InU y) {i : Nat} (hi : i < 64) : hasI (bitOp .andNot .u64 x y) i = (hasI x i && !hasI y i) := by
  rw [bitOp_andNot, bv_has, BitVec.getLsbD_and, BitVec.getLsbD_not, ofInt_bit hx, ofInt_bit hy]
  simp [hi]
theorem has_zero (i : Nat) : hasI 0 i = false := by simp [hasI]
theorem pow_toNat (n : Nat) : ((2 : Int) ^ n).toNat = 2 ^ n := by
  have h2 : ((2 ^ n : Nat) : Int) = (2 : Int) ^ n := by simp
  rw [← h2]; exact Int.toNat_natCast _
theorem has_pow (k i : Nat) : hasI (2 ^ k) i = decide (k = i) := by
  unfold hasI
  rw [pow_toNat, Nat.testBit_two_pow]
theorem pow_InU {k : Nat} (h : k < 64) : InU (2 ^ k) := ⟨Int.le_of_lt (Int.pow_pos (by decide)), two_pow_lt h⟩
theorem has_full {n : Int} (h0 : 0 ≤ n) (i : Nat) : hasI (fullM n) i = decide ((i : Int) < n) := by
  unfold hasI fullM
  have : ((2 : Int) ^ n.toNat - 1).toNat = 2 ^ n.toNat - 1 := by
    have := pow_toNat n.toNat
    omega
  rw [this, Nat.testBit_two_pow_sub_one]
  rw [decide_eq_decide]
  omega
theorem full_InU {n : Int} (h0 : 0 ≤ n) (h1 : n ≤ 64) : InU (fullM n) := by
  unfold fullM
  have hp : (0 : Int) < 2 ^ n.toNat := Int.pow_pos (by decide)
  have h2 : (2 : Nat) ^ n.toNat ≤ 2 ^ 64 := Nat.pow_le_pow_right (by decide) (by omega)
  have h3 : ((2 ^ n.toNat : Nat) : Int) = (2 : Int) ^ n.toNat := by simp
  have h4 : (2 : Nat) ^ 64 = 18446744073709551616 := by decide
  exact ⟨by omega, by omega⟩
theorem inside_iff {x n : Int} (hx : InU x) (h0 : 0 ≤ n) (h1 : n ≤ 64) : bitOp .andNot .u64 x (fullM n) = 0 ↔ ∀ i : Nat, hasI x i = true → (i : Int) < n := by
  constructor
  · intro h i hi
    have h64 : i < 64 := by
      apply Nat.lt_of_not_le; intro hge; rw [hasI_high hx hge] at hi; cases hi
    have := has_andNot hx (full_InU h0 h1) h64
    rw [h, has_zero, hi, has_full h0] at this
    simpa using this
  · intro h
    refine ext64 (andNot_InU _ _) ⟨by decide, by decide⟩ fun i hi => ?_
    rw [has_andNot hx (full_InU h0 h1) hi, has_zero, has_full h0]
    cases hb : hasI x i with
    | false => rfl
    | true => simp; exact h i hb
theorem zero_InU : InU 0 := ⟨by decide, by decide⟩
end Go.RM.Tryz
namespace Go.RM.Tryz
open Go.RM
set_option linter.unusedVariables false
set_option linter.unusedSimpArgs false
def RngF (F : TFacts) : Prop := InU F.Gen ∧ ∀ r ∈ F.Rows, InU r
theorem TFacts.Fit.rng {F : TFacts} (h : F.Fit) : RngF F := ⟨wfu64 h.1, fun r hr => wfu64 (h.2.2.2 r hr)⟩
def madeM (F : TFacts) (x : Int) : Int := foldG (fun i row acc => if hasI x i.toNat = true then bitOp .or .u64 acc row else acc) F.Rows 0 F.Gen
def anyB (x : Int) (k : Nat) : List Int → Nat → Bool
  | [], _ => false
  | r :: l, i => (hasI x i && hasI r k) || anyB x k l (i + 1)
theorem madeM_fold {x : Int} {k : Nat} : ∀ (l : List Int) (i : Nat) (acc : Int), InU acc → (∀ r ∈ l, InU r) →
    InU (foldG (fun i row acc => if hasI x i.toNat = true then bitOp .or .u64 acc row else acc) l (i : Int) acc) ∧
    hasI (foldG (fun i row acc => if hasI x i.toNat = true then bitOp .or .u64 acc row else acc) l (i : Int) acc) k = (hasI acc k || anyB x k l i)
  | [], i, acc, ha, hr => ⟨ha, by simp [foldG, anyB]⟩
  | r :: l, i, acc, ha, hr => by
    have h1 : InU (if hasI x i = true then bitOp .or .u64 acc r else acc) := by split; exact or_InU _ _; exact ha
    have ih := madeM_fold (x := x) (k := k) l (i + 1) _ h1 (fun y hy => hr y (.tail _ hy))
    unfold foldG anyB
    rw [show ((i : Int) + 1) = ((i + 1 : Nat) : Int) by simp, show ((i : Nat) : Int).toNat = i by simp]
    refine ⟨ih.1, ?_⟩
    rw [ih.2]
    cases hx : hasI x i with
    | true => simp [has_or ha (hr r (.head _)), Bool.or_assoc]
    | false => simp
theorem madeM_InU {F : TFacts} (h : RngF F) (x : Int) : InU (madeM F x) := (madeM_fold (x := x) (k := 0) F.Rows 0 F.Gen h.1 h.2).1
theorem madeM_has {F : TFacts} (h : RngF F) (x : Int) (k : Nat) : hasI (madeM F x) k = (hasI F.Gen k || anyB x k F.Rows 0) := (madeM_fold (x := x) (k := k) F.Rows 0 F.Gen h.1 h.2).2
theorem anyB_iff {x : Int} {k : Nat} : ∀ (l : List Int) (i : Nat), anyB x k l i = true ↔ ∃ j : Nat, ∃ r, l[j]? = some r ∧ hasI x (i + j) = true ∧ hasI r k = true
  | [], i => by simp [anyB]
  | r :: l, i => by
    unfold anyB
    rw [Bool.or_eq_true, anyB_iff l (i + 1), Bool.and_eq_true]
    constructor
    · rintro (⟨h1, h2⟩ | ⟨j, r', h1, h2, h3⟩)
      · exact ⟨0, r, rfl, by simpa using h1, h2⟩
      · exact ⟨j + 1, r', by simpa using h1, by rw [show i + (j + 1) = i + 1 + j by omega]; exact h2, h3⟩
    · rintro ⟨j, r', h1, h2, h3⟩
      cases j with
      | zero =>
        simp at h1; subst h1
        exact .inl ⟨by simpa using h2, h3⟩
      | succ j =>
        exact .inr ⟨j, r', by simpa using h1, by rw [show i + 1 + j = i + (j + 1) by omega]; exact h2, h3⟩
def thenF (a b : TFacts) : TFacts := canonM ⟨madeM b a.Gen, a.Rows.map (madeM b)⟩
theorem factsOk_iff {n : Int} {F : TFacts} (hr : RngF F) (h0 : 0 ≤ n) (h1 : n ≤ 64) : factsOk n F = true ↔ (F.Rows.length : Int) = n ∧ (∀ i : Nat, hasI F.Gen i = true → (i : Int) < n) ∧ (∀ r ∈ F.Rows, ∀ i : Nat, hasI r i = true → (i : Int) < n) ∧ ∀ r ∈ F.Rows, ∀ i : Nat, hasI r i = true → hasI F.Gen i = false := by
  have e0 : factsOk n F = true ↔ (F.Rows.length : Int) = n ∧ bitOp .andNot .u64 F.Gen (fullM n) = 0 ∧ (∀ r ∈ F.Rows, bitOp .andNot .u64 r (fullM n) = 0) ∧ (F.Rows.map (fun r => bitOp .andNot .u64 r F.Gen) = F.Rows) := by
    unfold factsOk factsEq
    rw [Bool.and_eq_true, Bool.and_eq_true, Bool.and_eq_true, Bool.and_eq_true, List.all_eq_true, beq_iff_eq, beq_iff_eq, beq_iff_eq, decide_eq_true_eq]
    simp only [beq_iff_eq]
    exact ⟨fun h => ⟨h.1, h.2.1, h.2.2.1, h.2.2.2.2⟩, fun h => ⟨h.1, h.2.1, h.2.2.1, rfl, h.2.2.2⟩⟩
  rw [e0, inside_iff hr.1 h0 h1]
  have e1 : (∀ r ∈ F.Rows, bitOp .andNot .u64 r (fullM n) = 0) ↔ (∀ r ∈ F.Rows, ∀ i : Nat, hasI r i = true → (i : Int) < n) := by
    constructor
    · intro h r hm; exact (inside_iff (hr.2 r hm) h0 h1).1 (h r hm)
    · intro h r hm; exact (inside_iff (hr.2 r hm) h0 h1).2 (h r hm)
  have e2 : (F.Rows.map (fun r => bitOp .andNot .u64 r F.Gen) = F.Rows) ↔ ∀ r ∈ F.Rows, ∀ i : Nat, hasI r i = true → hasI F.Gen i = false := by
    rw [show (F.Rows.map (fun r => bitOp .andNot .u64 r F.Gen) = F.Rows) ↔ (F.Rows.map (fun r => bitOp .andNot .u64 r F.Gen) = F.Rows.map id) by simp, List.map_inj_left]
    constructor
    · intro h r hm i hi
      have h64 : i < 64 := by apply Nat.lt_of_not_le; intro hge; rw [hasI_high (hr.2 r hm) hge] at hi; cases hi
      have := has_andNot (hr.2 r hm) hr.1 h64
      rw [h r hm, id, hi] at this
      simpa using this
    · intro h r hm
      refine ext64 (andNot_InU _ _) (hr.2 r hm) fun i hi => ?_
      rw [has_andNot (hr.2 r hm) hr.1 hi]
      cases hb : hasI r i with
      | false => simp [id, hb]
      | true => simp [id, hb, h r hm i hb]
  rw [e1, e2]
theorem rng_canon {F : TFacts} (h : InU F.Gen) : RngF (canonM F) := ⟨h, fun r hr => by simp [canonM] at hr; obtain ⟨_, _, rfl⟩ := hr; exact andNot_InU _ _⟩
theorem madeM_inside {n : Int} {F : TFacts} (hr : RngF F) (h0 : 0 ≤ n) (h1 : n ≤ 64) (hF : factsOk n F = true) (x : Int) {i : Nat} (h : hasI (madeM F x) i = true) : (i : Int) < n := by
  obtain ⟨_, hg, hrow, _⟩ := (factsOk_iff hr h0 h1).1 hF
  rw [madeM_has hr, Bool.or_eq_true, anyB_iff] at h
  rcases h with h | ⟨j, r, hj, _, hk⟩
  · exact hg i h
  · exact hrow r (List.mem_of_getElem? hj) i hk
theorem thenF_rng {a b : TFacts} (hb : RngF b) : RngF (thenF a b) := rng_canon (madeM_InU hb _)
theorem thenF_ok {n : Int} (h0 : 0 ≤ n) (h1 : n ≤ 64) {a b : TFacts} (hb : RngF b) (ha2 : factsOk n a = true) (hb2 : factsOk n b = true) (hra : RngF a) : factsOk n (thenF a b) = true := by
  rw [factsOk_iff (thenF_rng hb) h0 h1]
  obtain ⟨hl, _⟩ := (factsOk_iff hra h0 h1).1 ha2
  refine ⟨by simp [thenF, canonM, hl], fun i hi => madeM_inside hb h0 h1 hb2 a.Gen hi, ?_, ?_⟩
  · intro r hm i hi
    simp only [thenF, canonM, List.map_map, List.mem_map, Function.comp] at hm
    obtain ⟨x, hx, rfl⟩ := hm
    have h64 : i < 64 := by apply Nat.lt_of_not_le; intro hge; rw [hasI_high (andNot_InU _ _) hge] at hi; cases hi
    rw [has_andNot (madeM_InU hb _) (madeM_InU hb _) h64, Bool.and_eq_true] at hi
    exact madeM_inside hb h0 h1 hb2 x hi.1
  · intro r hm i hi
    simp only [thenF, canonM, List.map_map, List.mem_map, Function.comp] at hm
    obtain ⟨x, hx, rfl⟩ := hm
    have h64 : i < 64 := by apply Nat.lt_of_not_le; intro hge; rw [hasI_high (andNot_InU _ _) hge] at hi; cases hi
    rw [has_andNot (madeM_InU hb _) (madeM_InU hb _) h64, Bool.and_eq_true] at hi
    simpa [thenF, canonM] using hi.2
theorem map_upto {α β : Type} [Inhabited α] (l : List α) (f : α → β) : (upto l.length).map (fun i => f (rdl l i)) = l.map f := by
  have := congrArg (List.map f) (upto_rdl l)
  rw [List.map_map] at this
  exact this
theorem oneF_rng {n : Int} (h1 : n ≤ 64) : RngF (oneF n) := ⟨zero_InU, fun r hr => by
  simp only [oneF, List.mem_map] at hr
  obtain ⟨i, hi, rfl⟩ := hr
  have := upto_mem hi
  exact pow_InU (by omega)⟩
theorem upto_get {n j : Nat} : (upto n)[j]? = if j < n then some (j : Int) else none := by
  simp only [upto, List.getElem?_map]
  by_cases h : j < n
  · rw [List.getElem?_range h, if_pos h]; rfl
  · rw [List.getElem?_eq_none (by simp; omega), if_neg h]; rfl
theorem oneF_get {n : Int} {j : Nat} : (oneF n).Rows[j]? = if j < n.toNat then some (2 ^ j) else none := by
  simp only [oneF, List.getElem?_map, upto_get]
  split <;> simp
theorem oneF_ok {n : Int} (h0 : 0 ≤ n) (h1 : n ≤ 64) : factsOk n (oneF n) = true := by
  rw [factsOk_iff (oneF_rng h1) h0 h1]
  refine ⟨by simp [oneF, upto]; omega, fun i hi => (by rw [show (oneF n).Gen = 0 from rfl, has_zero] at hi; cases hi), fun r hr i hi => ?_, fun r hr i hi => has_zero i⟩
  simp only [oneF, List.mem_map] at hr
  obtain ⟨j, hj, rfl⟩ := hr
  have := upto_mem hj
  rw [has_pow] at hi
  simp at hi
  omega
theorem made_one {n : Int} (h0 : 0 ≤ n) (h1 : n ≤ 64) {x : Int} (hx : InU x) (hn : ∀ i : Nat, hasI x i = true → (i : Int) < n) : madeM (oneF n) x = x := by
  refine ext64 (madeM_InU (oneF_rng h1) x) hx fun i hi => ?_
  rw [madeM_has (oneF_rng h1), Bool.eq_iff_iff, Bool.or_eq_true, anyB_iff]
  constructor
  · rintro (h | ⟨j, r, hj, hk, hr⟩)
    · rw [show (oneF n).Gen = 0 from rfl, has_zero] at h; cases h
    · rw [oneF_get] at hj
      split at hj
      · injection hj with hj
        subst hj
        rw [has_pow] at hr
        simp at hr
        subst hr
        simpa using hk
      · cases hj
  · intro h
    have := hn i h
    exact .inr ⟨i, 2 ^ i, by rw [oneF_get, if_pos (by omega)], by simpa using h, by rw [has_pow]; simp⟩
theorem then_oneF {n : Int} (h0 : 0 ≤ n) (h1 : n ≤ 64) {a : TFacts} (hra : RngF a) (ha : factsOk n a = true) : thenF a (oneF n) = a := by
  obtain ⟨_, hg, hrow, hc⟩ := (factsOk_iff hra h0 h1).1 ha
  have e : a.Rows.map (madeM (oneF n)) = a.Rows := by
    rw [show (a.Rows.map (madeM (oneF n)) = a.Rows) ↔ (a.Rows.map (madeM (oneF n)) = a.Rows.map id) by simp, List.map_inj_left]
    exact fun r hr => made_one h0 h1 (hra.2 r hr) (hrow r hr)
  unfold thenF
  rw [made_one h0 h1 hra.1 hg, e]
  have h9 := ha
  unfold factsOk factsEq at h9
  simp only [Bool.and_eq_true, beq_iff_eq, decide_eq_true_eq] at h9
  have h10 := h9.2.2.2.2
  show TFacts.mk a.Gen (canonM a).Rows = a
  rw [h10]
theorem one_thenF {n : Int} (h0 : 0 ≤ n) (h1 : n ≤ 64) {b : TFacts} (hrb : RngF b) (hb : factsOk n b = true) : thenF (oneF n) b = b := by
  obtain ⟨hl, hg, hrow, hc⟩ := (factsOk_iff hrb h0 h1).1 hb
  have e0 : madeM b 0 = b.Gen := by
    refine ext64 (madeM_InU hrb 0) hrb.1 fun i hi => ?_
    rw [madeM_has hrb]
    have : anyB 0 i b.Rows 0 = false := by
      rw [Bool.eq_false_iff]; intro h; rw [anyB_iff] at h
      obtain ⟨j, r, _, h2, _⟩ := h
      rw [has_zero] at h2; cases h2
    rw [this, Bool.or_false]
  have e1 : ∀ j : Nat, ∀ r, b.Rows[j]? = some r → bitOp .andNot .u64 (madeM b (2 ^ j)) b.Gen = r := by
    intro j r hj
    have hm := List.mem_of_getElem? hj
    refine ext64 (andNot_InU _ _) (hrb.2 r hm) fun i hi => ?_
    rw [has_andNot (madeM_InU hrb _) hrb.1 hi, madeM_has hrb]
    have : anyB (2 ^ j) i b.Rows 0 = hasI r i := by
      rw [Bool.eq_iff_iff, anyB_iff]
      constructor
      · rintro ⟨j', r', h1, h2, h3⟩
        rw [has_pow] at h2
        simp at h2
        subst h2
        rw [h1] at hj
        injection hj with hj
        rw [← hj]; exact h3
      · intro h
        exact ⟨j, r, hj, by rw [has_pow]; simp, h⟩
    rw [this]
    cases hgi : hasI b.Gen i with
    | true =>
      cases hri : hasI r i with
      | false => rfl
      | true => rw [hc r hm i hri] at hgi; cases hgi
    | false => simp
  unfold thenF
  rw [show (oneF n).Gen = 0 from rfl, e0]
  show TFacts.mk b.Gen _ = b
  have e2 : ((TFacts.mk b.Gen ((oneF n).Rows.map (madeM b))).Rows.map (fun r => bitOp .andNot .u64 r b.Gen)) = b.Rows := by
    apply List.ext_getElem?
    intro j
    simp only [List.map_map, List.getElem?_map, oneF_get]
    by_cases hj : j < n.toNat
    · rw [if_pos hj]
      have hlt : j < b.Rows.length := by omega
      have hg2 := List.getElem?_eq_getElem hlt
      rw [hg2]
      simp only [Option.map_some, Function.comp]
      rw [e1 j _ hg2]
    · rw [if_neg hj, List.getElem?_eq_none (by omega)]; rfl
  rw [e2]
end Go.RM.Tryz
namespace Go.RM.Tryz
open Go.RM
set_option linter.unusedVariables false
set_option linter.unusedSimpArgs false
def manyC : TCell := ⟨0, 2, 0⟩
def joinC (a b : TCell) : TCell :=
  if a.Kind = 2 ∨ b.Kind = 2 then manyC
  else if a.Kind = 0 then ⟨bitOp .or .u64 a.From b.From, b.Kind, b.K⟩
  else if b.Kind = 1 ∧ a.K ≠ b.K then manyC
  else ⟨bitOp .or .u64 a.From b.From, a.Kind, a.K⟩
def behG (c : TCell) (i : Int) (x out : TCell) : TCell := if hasI c.From i.toNat = true then joinC out x else out
def behindM (a : List TCell) (c : TCell) : TCell := foldG (behG c) a 0 ⟨0, c.Kind, c.K⟩
def RngC (c : TCell) : Prop := InU c.From ∧ (Lit.int .i64 c.K).wf = true
def CellP (n : Int) (c : TCell) : Prop := (∀ i : Nat, hasI c.From i = true → (i : Int) < n) ∧ ((c.Kind = 0 ∧ c.K = 0) ∨ c.Kind = 1 ∨ (c.Kind = 2 ∧ c.K = 0 ∧ c.From = 0))
theorem cellOk_iff {n : Int} (h0 : 0 ≤ n) (h1 : n ≤ 64) {c : TCell} (hc : InU c.From) : cellOk n c = true ↔ CellP n c := by
  unfold cellOk CellP
  rw [Bool.and_eq_true, beq_iff_eq, inside_iff hc h0 h1]
  refine and_congr_right fun _ => ?_
  by_cases k0 : c.Kind = 0
  · simp [k0]
  · by_cases k1 : c.Kind = 1
    · simp [k1]
    · by_cases k2 : c.Kind = 2
      · simp [k2]
      · simp [k0, k1, k2]
theorem many_ok (n : Int) : CellP n manyC := ⟨fun i hi => (by rw [show manyC.From = 0 from rfl, has_zero] at hi; cases hi), .inr (.inr ⟨rfl, rfl, rfl⟩)⟩
theorem joinC_InU (a b : TCell) : InU (joinC a b).From := by
  unfold joinC
  split
  · exact zero_InU
  · split
    · exact or_InU _ _
    · split
      · exact zero_InU
      · exact or_InU _ _
theorem joinC_ok {n : Int} {a b : TCell} (ua : InU a.From) (ub : InU b.From) (ha : CellP n a) (hb : CellP n b) : CellP n (joinC a b) := by
  have hor : ∀ i : Nat, hasI (bitOp .or .u64 a.From b.From) i = true → (i : Int) < n := fun i hi => by
    rw [has_or ua ub, Bool.or_eq_true] at hi
    rcases hi with hi | hi
    · exact ha.1 i hi
    · exact hb.1 i hi
  unfold joinC
  split
  · exact many_ok n
  · rename_i h2
    split
    · refine ⟨hor, ?_⟩
      rcases hb.2 with h | h | h
      · exact .inl h
      · exact .inr (.inl h)
      · exact (h2 (.inr h.1)).elim
    · split
      · exact many_ok n
      · refine ⟨hor, ?_⟩
        rcases ha.2 with h | h | h
        · exact .inl h
        · exact .inr (.inl h)
        · exact (h2 (.inl h.1)).elim
theorem joinC_K {a b : TCell} (ha : (Lit.int .i64 a.K).wf = true) (hb : (Lit.int .i64 b.K).wf = true) : (Lit.int .i64 (joinC a b).K).wf = true := by
  unfold joinC
  split
  · decide
  · split
    · exact hb
    · split
      · decide
      · exact ha
theorem start_ok {n : Int} {c : TCell} (hc : CellP n c) : CellP n ⟨0, c.Kind, c.K⟩ := by
  refine ⟨fun i hi => (by rw [show (TCell.mk 0 c.Kind c.K).From = 0 from rfl, has_zero] at hi; cases hi), ?_⟩
  rcases hc.2 with h | h | h
  · exact .inl h
  · exact .inr (.inl h)
  · exact .inr (.inr ⟨h.1, h.2.1, rfl⟩)
theorem behindM_ok {n : Int} {a : List TCell} {c : TCell} (ua : ∀ x ∈ a, RngC x) (ha : ∀ x ∈ a, CellP n x) (uc : RngC c) (hc : CellP n c) : CellP n (behindM a c) ∧ RngC (behindM a c) := by
  have := foldG_inv (g := behG c) (fun _ s => CellP n s ∧ RngC s) a 0 ⟨0, c.Kind, c.K⟩ (fun i s x hx h => by
    unfold behG
    split
    · exact ⟨joinC_ok h.2.1 (ua x hx).1 h.1 (ha x hx), joinC_InU _ _, joinC_K h.2.2 (ua x hx).2⟩
    · exact h) ⟨start_ok hc, zero_InU, uc.2⟩
  exact this
def thenC (a b : List TCell) : List TCell := b.map (behindM a)
structure Rng1 (w : TWeight) : Prop where
  facts : RngF w.Facts
  cells : ∀ c ∈ w.Cells, RngC c
  cost : (Lit.int .i64 w.Cost).wf = true
def Rng (w : TWeight) : Prop := Rng1 w ∧ ∀ p ∈ w.Parts, Rng1 p
theorem TWeight.Fit.rng1 {w : TWeight} (h : w.Fit) : Rng1 w := by
  cases h with
  | mk _ h0 h1 h2 h3 h4 h5 h6 h7 h8 => exact ⟨h2.rng, fun c hc => ⟨wfu64 (h5 c hc).1, (h5 c hc).2.2⟩, h1⟩
theorem TWeight.Fit.rng {w : TWeight} (h : w.Fit) : Rng w := ⟨h.rng1, by
  cases h with
  | mk _ h0 h1 h2 h3 h4 h5 h6 h7 h8 => exact fun p hp => (h8 p hp).rng1⟩
def zeroW : TWeight := ⟨true, 0, ⟨0, []⟩, [], []⟩
def thenW1 (s : TSpace) (a b : TWeight) : TWeight :=
  if (a.Zero || b.Zero) = true then zeroW
  else if s.Tag = 2 then ⟨false, if s.Dim < a.Cost + b.Cost then s.Dim else a.Cost + b.Cost, ⟨0, []⟩, [], []⟩
  else if s.Tag = 3 then ⟨false, 0, thenF a.Facts b.Facts, [], []⟩
  else if s.Tag = 4 then ⟨false, 0, ⟨0, []⟩, thenC a.Cells b.Cells, []⟩
  else noneW
theorem isW1_cases {s : TSpace} {w : TWeight} (hs : spaceOk1 s = true) (h : isW1 s w = true) :
    w = zeroW ∨ (s.Tag = 1 ∧ w = noneW) ∨ (s.Tag = 2 ∧ w = ⟨false, w.Cost, ⟨0, []⟩, [], []⟩ ∧ 0 ≤ w.Cost ∧ w.Cost ≤ s.Dim) ∨ (s.Tag = 3 ∧ w = ⟨false, 0, w.Facts, [], []⟩ ∧ factsOk s.Dim w.Facts = true) ∨ (s.Tag = 4 ∧ w = ⟨false, 0, ⟨0, []⟩, w.Cells, []⟩ ∧ cellsOk s.Dim w.Cells = true) := by
  obtain ⟨Z, C, ⟨G, R⟩, L, P⟩ := w
  unfold isW1 plainB at h
  cases Z with
  | true => simp at h; left; simp [zeroW, h]
  | false =>
    rcases space1_cases hs with k | k | k | k
    · simp [k.1] at h
      right; left; exact ⟨k.1, by simp [noneW, h]⟩
    · simp [k.1] at h
      right; right; left; refine ⟨k.1, by simp [h], h.2⟩
    · simp [k.1] at h
      right; right; right; left; exact ⟨k.1, by simp [h], h.2⟩
    · simp [k.1] at h
      right; right; right; right; exact ⟨k.1, by simp [h], h.2⟩
theorem isW1_zero {s : TSpace} (hs : spaceOk1 s = true) : isW1 s zeroW = true := by simp [isW1, zeroW, plainB]
theorem isW1_none {s : TSpace} (h : s.Tag = 1) : isW1 s noneW = true := by simp [isW1, noneW, plainB, h]
theorem isW1_cost {s : TSpace} (h : s.Tag = 2) {c : Int} (h0 : 0 ≤ c) (h1 : c ≤ s.Dim) : isW1 s ⟨false, c, ⟨0, []⟩, [], []⟩ = true := by simp [isW1, plainB, h, h0, h1]
theorem isW1_facts {s : TSpace} (h : s.Tag = 3) {F : TFacts} (hF : factsOk s.Dim F = true) : isW1 s ⟨false, 0, F, [], []⟩ = true := by simp [isW1, plainB, h, hF]
theorem isW1_cells {s : TSpace} (h : s.Tag = 4) {l : List TCell} (hl : cellsOk s.Dim l = true) : isW1 s ⟨false, 0, ⟨0, []⟩, l, []⟩ = true := by simp [isW1, plainB, h, hl]
theorem zero_rng : Rng1 zeroW := ⟨⟨zero_InU, by simp [zeroW]⟩, by simp [zeroW], by decide⟩
theorem none_rng : Rng1 noneW := ⟨⟨zero_InU, by simp [noneW]⟩, by simp [noneW], by decide⟩
theorem cellsOk_iff {n : Int} {l : List TCell} (h0 : 0 ≤ n) (h1 : n ≤ 64) (hr : ∀ c ∈ l, RngC c) : cellsOk n l = true ↔ (l.length : Int) = n ∧ ∀ c ∈ l, CellP n c := by
  unfold cellsOk
  rw [Bool.and_eq_true, List.all_eq_true, beq_iff_eq]
  refine and_congr_right fun _ => ⟨fun h c hc => (cellOk_iff h0 h1 (hr c hc).1).1 (h c hc), fun h c hc => (cellOk_iff h0 h1 (hr c hc).1).2 (h c hc)⟩
theorem wf_small {x : Int} (h0 : 0 ≤ x) (h1 : x ≤ 1048576) : (Lit.int .i64 x).wf = true := by
  simp [Lit.wf, IntKind.min, IntKind.max, IntKind.bits, IntKind.signed]; omega
theorem thenW1_ok {s : TSpace} {a b : TWeight} (hs : spaceOk1 s = true) (ha : isW1 s a = true) (hb : isW1 s b = true) (ra : Rng1 a) (rb : Rng1 b) : isW1 s (thenW1 s a b) = true ∧ Rng1 (thenW1 s a b) := by
  unfold thenW1
  rcases isW1_cases hs ha with h | h | h | h | h
  · subst h; simp only [zeroW, Bool.true_or, if_true]; exact ⟨isW1_zero hs, zero_rng⟩
  all_goals
    rcases isW1_cases hs hb with k | k | k | k | k
    · subst k; simp only [zeroW, Bool.or_true, if_true]; exact ⟨isW1_zero hs, zero_rng⟩
    all_goals first | (exfalso; omega) | skip
  · rw [h.2, k.2]
    simp only [noneW, Bool.or_self, Bool.false_eq_true, if_false, h.1, Int.reduceEq]
    exact ⟨isW1_none h.1, none_rng⟩
  · rw [h.2.1, k.2.1]
    simp only [Bool.or_self, Bool.false_eq_true, if_false, h.1, Int.reduceEq, if_true]
    rcases space1_cases hs with q | q | q | q
    · omega
    · have : 0 ≤ (if s.Dim < a.Cost + b.Cost then s.Dim else a.Cost + b.Cost) ∧ (if s.Dim < a.Cost + b.Cost then s.Dim else a.Cost + b.Cost) ≤ s.Dim := by split <;> omega
      exact ⟨isW1_cost h.1 this.1 this.2, ⟨zero_InU, by simp⟩, by simp, wf_small this.1 (Int.le_trans this.2 (by omega))⟩
    · omega
    · omega
  · rw [h.2.1, k.2.1]
    simp only [Bool.or_self, Bool.false_eq_true, if_false, h.1, Int.reduceEq, if_true]
    rcases space1_cases hs with q | q | q | q
    · omega
    · omega
    · exact ⟨isW1_facts h.1 (thenF_ok q.2.1 q.2.2 rb.facts h.2.2 k.2.2 ra.facts), thenF_rng rb.facts, by simp, wf_small (x := 0) (Int.le_refl 0) (by decide)⟩
    · omega
  · rw [h.2.1, k.2.1]
    simp only [Bool.or_self, Bool.false_eq_true, if_false, h.1, Int.reduceEq, if_true]
    rcases space1_cases hs with q | q | q | q
    · omega
    · omega
    · omega
    · have ca := (cellsOk_iff q.2.1 q.2.2 ra.cells).1 h.2.2
      have cb := (cellsOk_iff q.2.1 q.2.2 rb.cells).1 k.2.2
      have hall : ∀ c ∈ thenC a.Cells b.Cells, CellP s.Dim c ∧ RngC c := by
        intro c hc
        simp only [thenC, List.mem_map] at hc
        obtain ⟨x, hx, rfl⟩ := hc
        exact behindM_ok ra.cells ca.2 (rb.cells x hx) (cb.2 x hx)
      exact ⟨isW1_cells h.1 ((cellsOk_iff q.2.1 q.2.2 (fun c hc => (hall c hc).2)).2 ⟨by simp [thenC, cb.1], fun c hc => (hall c hc).1⟩), ⟨zero_InU, by simp⟩, fun c hc => (hall c hc).2, wf_small (x := 0) (Int.le_refl 0) (by decide)⟩
end Go.RM.Tryz
namespace Go.RM.Tryz
open Go.RM
set_option linter.unusedVariables false
set_option linter.unusedSimpArgs false
def thenW (s : TSpace) (a b : TWeight) : TWeight :=
  if s.Tag = 5 then ⟨false, 0, ⟨0, []⟩, [], [thenW1 (rdl s.Parts 0) (rdl a.Parts 0) (rdl b.Parts 0), thenW1 (rdl s.Parts 1) (rdl a.Parts 1) (rdl b.Parts 1)]⟩
  else thenW1 s a b
theorem isW_pair {s : TSpace} {w : TWeight} (h5 : s.Tag = 5) (h : isW s w = true) : ∃ x y, w = ⟨false, 0, ⟨0, []⟩, [], [x, y]⟩ ∧ isW1 (rdl s.Parts 0) x = true ∧ isW1 (rdl s.Parts 1) y = true := by
  obtain ⟨Z, C, ⟨G, R⟩, L, P⟩ := w
  unfold isW plainB at h
  rw [if_pos h5] at h
  simp only [Bool.and_eq_true, Bool.not_eq_true', Bool.false_or, beq_iff_eq, Bool.true_or] at h
  obtain ⟨hz, ⟨hc, ⟨hg, hr⟩, hl, _⟩, h2, ha, hb⟩ := h
  match P, h2 with
  | [x, y], _ => exact ⟨x, y, by simp only [hz, hc, hg]; simp at hr hl; simp [hr, hl], ha, hb⟩
theorem isW_mk {s : TSpace} {x y : TWeight} (h5 : s.Tag = 5) (hx : isW1 (rdl s.Parts 0) x = true) (hy : isW1 (rdl s.Parts 1) y = true) : isW s ⟨false, 0, ⟨0, []⟩, [], [x, y]⟩ = true := by
  unfold isW plainB
  rw [if_pos h5]
  simp [rdl0, rdl1, hx, hy]
theorem pair_rng {x y : TWeight} (hx : Rng1 x) (hy : Rng1 y) : Rng ⟨false, 0, ⟨0, []⟩, [], [x, y]⟩ := ⟨⟨⟨zero_InU, by simp⟩, by simp, wf_small (x := 0) (Int.le_refl 0) (by decide)⟩, by intro p hp; simp at hp; rcases hp with rfl | rfl <;> assumption⟩
theorem thenW_ne {s : TSpace} {a b : TWeight} (h : s.Tag ≠ 5) : thenW s a b = thenW1 s a b := by unfold thenW; rw [if_neg h]
theorem space_p0 {s : TSpace} (h : spaceOk s = true) (h5 : s.Tag = 5) : spaceOk1 (rdl s.Parts 0) = true ∧ spaceOk1 (rdl s.Parts 1) = true ∧ s.Parts.length = 2 := by
  obtain ⟨a, b, hp, ha, hb, _⟩ := space_parts h h5
  rw [hp]; exact ⟨ha, hb, rfl⟩
theorem isW1_noparts {s : TSpace} {w : TWeight} (hs : spaceOk1 s = true) (h : isW1 s w = true) (r : Rng1 w) : Rng w := ⟨r, by rw [isW1_parts h]; simp⟩
theorem thenW_ok {s : TSpace} {a b : TWeight} (hs : spaceOk s = true) (ha : isW s a = true) (hb : isW s b = true) (ra : Rng a) (rb : Rng b) : isW s (thenW s a b) = true ∧ Rng (thenW s a b) := by
  by_cases h5 : s.Tag = 5
  · obtain ⟨p0, p1, _⟩ := space_p0 hs h5
    obtain ⟨x, y, rfl, hx, hy⟩ := isW_pair h5 ha
    obtain ⟨z, w, rfl, hz, hw⟩ := isW_pair h5 hb
    unfold thenW
    rw [if_pos h5]
    have k0 := thenW1_ok p0 hx hz (ra.2 x (.head _)) (rb.2 z (.head _))
    have k1 := thenW1_ok p1 hy hw (ra.2 y (.tail _ (.head _))) (rb.2 w (.tail _ (.head _)))
    exact ⟨isW_mk h5 k0.1 k1.1, pair_rng k0.2 k1.2⟩
  · have h1 : spaceOk1 s = true := by rw [← spaceOk_ne h5]; exact hs
    rw [isW_ne h5] at ha hb
    rw [thenW_ne h5, isW_ne h5]
    have := thenW1_ok h1 ha hb ra.1 rb.1
    exact ⟨this.1, isW1_noparts h1 this.1 this.2⟩
theorem oneW1_ok {s : TSpace} (hs : spaceOk1 s = true) : isW1 s (oneW1 s) = true ∧ Rng1 (oneW1 s) := by
  unfold oneW1
  rcases space1_cases hs with q | q | q | q
  · simp only [q.1, Int.reduceEq, if_false]; exact ⟨isW1_none q.1, none_rng⟩
  · simp only [q.1, Int.reduceEq, if_false]; exact ⟨isW1_cost q.1 (Int.le_refl 0) q.2.1, none_rng⟩
  · simp only [q.1, Int.reduceEq, if_true, if_false]
    exact ⟨isW1_facts q.1 (oneF_ok q.2.1 q.2.2), oneF_rng q.2.2, by simp, wf_small (x := 0) (Int.le_refl 0) (by decide)⟩
  · simp only [q.1, Int.reduceEq, if_true, if_false]
    have hr : ∀ c ∈ oneC s.Dim, RngC c := by
      intro c hc
      simp only [oneC, List.mem_map] at hc
      obtain ⟨i, hi, rfl⟩ := hc
      have := upto_mem hi
      exact ⟨pow_InU (by omega), wf_small (x := 0) (Int.le_refl 0) (by decide)⟩
    refine ⟨isW1_cells q.1 ((cellsOk_iff q.2.1 q.2.2 hr).2 ⟨by simp [oneC, upto]; omega, fun c hc => ?_⟩), ⟨zero_InU, by simp⟩, hr, wf_small (x := 0) (Int.le_refl 0) (by decide)⟩
    simp only [oneC, List.mem_map] at hc
    obtain ⟨i, hi, rfl⟩ := hc
    have := upto_mem hi
    refine ⟨fun j hj => ?_, .inl ⟨rfl, rfl⟩⟩
    rw [has_pow] at hj
    simp at hj
    omega
theorem oneW_ok {s : TSpace} (hs : spaceOk s = true) : isW s (oneW s) = true ∧ Rng (oneW s) := by
  by_cases h5 : s.Tag = 5
  · obtain ⟨p0, p1, _⟩ := space_p0 hs h5
    unfold oneW
    rw [if_pos h5]
    exact ⟨isW_mk h5 (oneW1_ok p0).1 (oneW1_ok p1).1, pair_rng (oneW1_ok p0).2 (oneW1_ok p1).2⟩
  · have h1 : spaceOk1 s = true := by rw [← spaceOk_ne h5]; exact hs
    rw [oneW_ne h5, isW_ne h5]
    exact ⟨(oneW1_ok h1).1, isW1_noparts h1 (oneW1_ok h1).1 (oneW1_ok h1).2⟩
def extW (s : TSpace) (l : List TWeight) : TWeight := foldG (fun _ x w => thenW s w x) l 0 (oneW s)
end Go.RM.Tryz
namespace Go.RM.Tryz
open Go.RM
set_option linter.unusedVariables false
set_option linter.unusedSimpArgs false
theorem foldG_invI {α σ : Type} {g : Int → α → σ → σ} (P : Int → σ → Prop) : ∀ (l : List α) (i : Int) (s : σ), (∀ (j : Nat) x s, l[j]? = some x → P (i + j) s → P (i + j + 1) (g (i + j) x s)) → P i s → P (i + l.length) (foldG g l i s)
  | [], i, s, h, hs => by simpa [foldG] using hs
  | x :: l, i, s, h, hs => by
    have h0 := h 0 x s rfl (by simpa using hs)
    simp only [Int.ofNat_zero, Int.add_zero, Int.natCast_zero] at h0
    have := foldG_invI P l (i + 1) (g i x s) (fun j y s hy hp => by
      have := h (j + 1) y s (by simpa using hy) (by rw [show i + ((j + 1 : Nat) : Int) = i + 1 + j by omega]; exact hp)
      rw [show i + ((j + 1 : Nat) : Int) = i + 1 + j by omega] at this
      exact this) h0
    have e : i + ((x :: l).length : Int) = i + 1 + l.length := by simp; omega
    rw [e]; exact this
theorem join_start {n : Int} {a : TCell} (ha : CellP n a) (ua : InU a.From) : joinC ⟨0, 0, 0⟩ a = a := by
  unfold joinC manyC
  obtain ⟨F, K, k⟩ := a
  by_cases h2 : K = 2
  · rcases ha.2 with h | h | h
    · simp at h; omega
    · simp at h; omega
    · simp at h; simp [h]
  · have e : bitOp .or .u64 0 F = F := ext64 (or_InU _ _) ua fun i _ => by rw [has_or zero_InU ua, has_zero]; rfl
    simp [h2, e]
theorem behind_single {l : List TCell} {j : Nat} {c : TCell} : ∀ (i : Nat) (s : TCell), c.From = 2 ^ j → foldG (behG c) l (i : Int) s = if h : i ≤ j ∧ j - i < l.length then joinC s (l[j - i]'h.2) else s := by
  induction l with
  | nil => intro i s _; simp [foldG]
  | cons x l ih =>
    intro i s hc
    unfold foldG
    rw [show ((i : Int) + 1) = ((i + 1 : Nat) : Int) by simp, ih (i + 1) _ hc]
    unfold behG
    rw [show ((i : Nat) : Int).toNat = i by simp, hc, has_pow]
    by_cases hij : j = i
    · subst hij
      rw [dif_neg (by omega), dif_pos ⟨Nat.le_refl _, by simp⟩]
      simp
    · rw [decide_eq_false hij]
      simp only [Bool.false_eq_true, if_false]
      by_cases h : i + 1 ≤ j ∧ j - (i + 1) < l.length
      · rw [dif_pos h, dif_pos ⟨by omega, by simp; omega⟩]
        congr 1
        obtain ⟨d, hd⟩ : ∃ d, j = i + 1 + d := ⟨j - (i + 1), by omega⟩
        subst hd
        simp only [show i + 1 + d - (i + 1) = d by omega, show i + 1 + d - i = d + 1 by omega]
        rfl
      · rw [dif_neg h, dif_neg (by simp; omega)]
theorem oneC_get {n : Int} {j : Nat} : (oneC n)[j]? = if j < n.toNat then some ⟨2 ^ j, 0, 0⟩ else none := by
  simp only [oneC, List.getElem?_map, upto_get]
  split <;> simp
theorem then_oneC {n : Int} {a : List TCell} (hl : (a.length : Int) = n) (hu : ∀ c ∈ a, RngC c) (ha : ∀ c ∈ a, CellP n c) : thenC a (oneC n) = a := by
  apply List.ext_getElem?
  intro j
  simp only [thenC, List.getElem?_map, oneC_get]
  by_cases hj : j < n.toNat
  · rw [if_pos hj]
    have hlt : j < a.length := by omega
    have hm := List.getElem_mem hlt
    rw [List.getElem?_eq_getElem hlt]
    simp only [Option.map_some]
    unfold behindM
    have := behind_single (l := a) (j := j) (c := ⟨2 ^ j, 0, 0⟩) 0 ⟨0, 0, 0⟩ rfl
    simp only [Int.natCast_zero] at this
    rw [this, dif_pos ⟨by omega, by simpa using hlt⟩]
    simp only [Nat.sub_zero]
    rw [join_start (ha _ hm) (hu _ hm).1]
  · rw [if_neg hj, List.getElem?_eq_none (by omega)]; rfl
theorem behind_one {n : Int} (h0 : 0 ≤ n) (h1 : n ≤ 64) {c : TCell} (uc : RngC c) (hc : CellP n c) : behindM (oneC n) c = c := by
  have key := foldG_invI (g := behG c) (fun i s => s.Kind = c.Kind ∧ s.K = c.K ∧ InU s.From ∧ ∀ k : Nat, hasI s.From k = (hasI c.From k && decide ((k : Int) < i))) (oneC n) 0 ⟨0, c.Kind, c.K⟩ (fun j x s hx h => by
    rw [oneC_get] at hx
    split at hx
    · rename_i hj
      injection hx with hx
      subst hx
      unfold behG
      obtain ⟨hk, hK, hu, hb⟩ := h
      rw [show ((0 : Int) + (j : Int)).toNat = j by simp]
      cases hh : hasI c.From j with
      | false =>
        simp only [Bool.false_eq_true, if_false]
        refine ⟨hk, hK, hu, fun k => ?_⟩
        rw [hb k]
        by_cases hkj : k = j
        · subst hkj; simp [hh]
        · congr 1; rw [decide_eq_decide]; omega
      | true =>
        simp only [if_true]
        have hn2 : c.Kind ≠ 2 := by
          intro h2
          rcases hc.2 with q | q | q
          · omega
          · omega
          · rw [q.2.2, has_zero] at hh; cases hh
        have hor : ∀ k : Nat, hasI (bitOp .or .u64 s.From (2 ^ j)) k = (hasI c.From k && decide ((k : Int) < 0 + j + 1)) := fun k => by
          rw [has_or hu (pow_InU (by omega)), has_pow, hb k]
          by_cases hkj : j = k
          · subst hkj; simp [hh]; omega
          · have : decide ((k : Int) < 0 + j) = decide ((k : Int) < 0 + j + 1) := by rw [decide_eq_decide]; omega
            rw [this, decide_eq_false hkj, Bool.or_false]
        unfold joinC
        rw [if_neg (by rw [hk]; simp; exact hn2)]
        by_cases hz : s.Kind = 0
        · rw [if_pos hz]
          rcases hc.2 with q | q | q
          · exact ⟨q.1.symm, q.2.symm, or_InU _ _, hor⟩
          · omega
          · omega
        · rw [if_neg hz, if_neg (by simp)]
          exact ⟨hk, hK, or_InU _ _, hor⟩
    · cases hx) ⟨rfl, rfl, zero_InU, fun k => by
      rw [has_zero]
      have : ¬ ((k : Int) < 0) := by omega
      rw [decide_eq_false this, Bool.and_false]⟩
  obtain ⟨hk, hK, hu, hb⟩ := key
  show foldG (behG c) (oneC n) 0 ⟨0, c.Kind, c.K⟩ = c
  have hF : (foldG (behG c) (oneC n) 0 ⟨0, c.Kind, c.K⟩).From = c.From := by
    refine ext64 hu uc.1 fun k hk64 => ?_
    rw [hb k]
    cases hh : hasI c.From k with
    | false => rfl
    | true =>
      have h9 := hc.1 k hh
      simp [oneC, upto]; omega
  generalize foldG (behG c) (oneC n) 0 ⟨0, c.Kind, c.K⟩ = r at hk hK hF
  obtain ⟨a, b, d⟩ := r
  obtain ⟨x, y, z⟩ := c
  simp only at hk hK hF
  rw [hk, hK, hF]
theorem one_thenC {n : Int} (h0 : 0 ≤ n) (h1 : n ≤ 64) {b : List TCell} (hu : ∀ c ∈ b, RngC c) (hb : ∀ c ∈ b, CellP n c) : thenC (oneC n) b = b := by
  unfold thenC
  rw [show (b.map (behindM (oneC n)) = b) ↔ (b.map (behindM (oneC n)) = b.map id) by simp, List.map_inj_left]
  exact fun c hc => behind_one h0 h1 (hu c hc) (hb c hc)
theorem then_one1 {s : TSpace} {w : TWeight} (hs : spaceOk1 s = true) (h : isW1 s w = true) (r : Rng1 w) : thenW1 s w (oneW1 s) = w ∧ thenW1 s (oneW1 s) w = w := by
  unfold thenW1 oneW1
  rcases isW1_cases hs h with k | k | k | k | k
  · subst k; exact ⟨by simp [zeroW], by simp [zeroW]⟩
  · rw [k.2]; simp [k.1, noneW]
  · rw [k.2.1]
    simp only [k.1, Int.reduceEq, if_true, if_false, noneW, Bool.or_self, Bool.false_eq_true]
    constructor
    · congr 1; split <;> omega
    · congr 1; split <;> omega
  · rcases space1_cases hs with q | q | q | q
    · omega
    · omega
    · have e1 := then_oneF q.2.1 q.2.2 r.facts k.2.2
      have e2 := one_thenF q.2.1 q.2.2 r.facts k.2.2
      generalize hF : w.Facts = F at *
      rw [k.2.1]
      simp [k.1, e1, e2]
    · omega
  · rcases space1_cases hs with q | q | q | q
    · omega
    · omega
    · omega
    · have hc := (cellsOk_iff q.2.1 q.2.2 r.cells).1 k.2.2
      have e1 := then_oneC hc.1 r.cells hc.2
      have e2 := one_thenC q.2.1 q.2.2 r.cells hc.2
      generalize hF : w.Cells = F at *
      rw [k.2.1]
      simp [k.1, e1, e2]
theorem then_one {s : TSpace} {w : TWeight} (hs : spaceOk s = true) (h : isW s w = true) (r : Rng w) : thenW s w (oneW s) = w ∧ thenW s (oneW s) w = w := by
  by_cases h5 : s.Tag = 5
  · obtain ⟨p0, p1, _⟩ := space_p0 hs h5
    obtain ⟨x, y, rfl, hx, hy⟩ := isW_pair h5 h
    have e0 := then_one1 p0 hx (r.2 x (.head _))
    have e1 := then_one1 p1 hy (r.2 y (.tail _ (.head _)))
    unfold thenW oneW
    rw [if_pos h5, if_pos h5, if_pos h5]
    simp [rdl0, rdl1, e0, e1]
  · have h1 : spaceOk1 s = true := by rw [← spaceOk_ne h5]; exact hs
    rw [isW_ne h5] at h
    rw [oneW_ne h5, thenW_ne h5, thenW_ne h5]
    exact then_one1 h1 h r.1
end Go.RM.Tryz
namespace Go.RM.Tryz
open Go.RM
set_option linter.unusedVariables false
set_option linter.unusedSimpArgs false
def Reach {σ τ ρ : Type} (b : σ → Rnd σ τ ρ → Prop) (s s' : σ) : Prop := ∀ o, Loop b s' o → Loop b s o
theorem Reach.refl {σ τ ρ : Type} {b : σ → Rnd σ τ ρ → Prop} (s : σ) : Reach b s s := fun o h => h
theorem Reach.next {σ τ ρ : Type} {b : σ → Rnd σ τ ρ → Prop} {s s' s'' : σ} (h : b s (.next s')) (h' : Reach b s' s'') : Reach b s s'' := fun o k => .next h (h' o k)
end Go.RM.Tryz
namespace Go.RM.Tryz
open Go.RM
set_option linter.unusedVariables false
set_option linter.unusedSimpArgs false
def eitherF (a b : TFacts) : TFacts := canonM ⟨bitOp .or .u64 a.Gen b.Gen, List.zipWith (bitOp .or .u64) a.Rows b.Rows⟩
theorem zip_get {α β γ : Type} {f : α → β → γ} {l : List α} {m : List β} {z : γ} (h : z ∈ List.zipWith f l m) : ∃ x ∈ l, ∃ y ∈ m, z = f x y := by
  obtain ⟨k, hk⟩ := List.getElem?_of_mem h
  rw [List.getElem?_zipWith] at hk
  cases hx : l[k]? with
  | none => rw [hx] at hk; cases hk
  | some x =>
    cases hy : m[k]? with
    | none => rw [hx, hy] at hk; cases hk
    | some y =>
      rw [hx, hy] at hk
      injection hk with hk
      exact ⟨x, List.mem_of_getElem? hx, y, List.mem_of_getElem? hy, hk.symm⟩
theorem eitherF_rng (a b : TFacts) : RngF (eitherF a b) := rng_canon (or_InU _ _)
theorem eitherF_ok {n : Int} (h0 : 0 ≤ n) (h1 : n ≤ 64) {a b : TFacts} (ra : RngF a) (rb : RngF b) (ha : factsOk n a = true) (hb : factsOk n b = true) : factsOk n (eitherF a b) = true := by
  rw [factsOk_iff (eitherF_rng a b) h0 h1]
  obtain ⟨la, ga, oa, _⟩ := (factsOk_iff ra h0 h1).1 ha
  obtain ⟨lb, gb, ob, _⟩ := (factsOk_iff rb h0 h1).1 hb
  refine ⟨by simp [eitherF, canonM]; omega, fun i hi => ?_, ?_, ?_⟩
  · simp only [eitherF, canonM] at hi
    rw [has_or ra.1 rb.1, Bool.or_eq_true] at hi
    rcases hi with hi | hi
    · exact ga i hi
    · exact gb i hi
  · intro r hm i hi
    simp only [eitherF, canonM, List.mem_map] at hm
    obtain ⟨z, hz, rfl⟩ := hm
    obtain ⟨x, hx, y, hy, rfl⟩ := zip_get hz
    have h64 : i < 64 := by apply Nat.lt_of_not_le; intro hge; rw [hasI_high (andNot_InU _ _) hge] at hi; cases hi
    rw [has_andNot (or_InU _ _) (or_InU _ _) h64, Bool.and_eq_true, has_or (ra.2 x hx) (rb.2 y hy), Bool.or_eq_true] at hi
    rcases hi.1 with hi | hi
    · exact oa x hx i hi
    · exact ob y hy i hi
  · intro r hm i hi
    simp only [eitherF, canonM, List.mem_map] at hm
    obtain ⟨z, hz, rfl⟩ := hm
    have h64 : i < 64 := by apply Nat.lt_of_not_le; intro hge; rw [hasI_high (andNot_InU _ _) hge] at hi; cases hi
    rw [has_andNot (by obtain ⟨x, hx, y, hy, rfl⟩ := zip_get hz; exact or_InU _ _) (or_InU _ _) h64, Bool.and_eq_true] at hi
    simpa [eitherF, canonM] using hi.2
theorem upto_zip {α β γ : Type} [Inhabited α] [Inhabited β] (f : α → β → γ) {l : List α} {m : List β} (h : l.length = m.length) : (upto l.length).map (fun i => f (rdl l i) (rdl m i)) = List.zipWith f l m := by
  apply List.ext_getElem?
  intro k
  simp only [List.getElem?_map, upto_get, List.getElem?_zipWith]
  by_cases hk : k < l.length
  · rw [if_pos hk]
    have a := rdl_get (l := l) (i := (k : Int)) (by omega) (by omega)
    have b := rdl_get (l := m) (i := (k : Int)) (by omega) (by omega)
    simp only [Int.toNat_natCast] at a b
    rw [a, b]; rfl
  · rw [if_neg hk, List.getElem?_eq_none (by omega)]; rfl
def eitherW1 (s : TSpace) (a b : TWeight) : TWeight :=
  if a.Zero = true then b
  else if b.Zero = true then a
  else if s.Tag = 2 then ⟨false, if b.Cost < a.Cost then b.Cost else a.Cost, ⟨0, []⟩, [], []⟩
  else if s.Tag = 3 then ⟨false, 0, eitherF a.Facts b.Facts, [], []⟩
  else if s.Tag = 4 then ⟨false, 0, ⟨0, []⟩, List.zipWith joinC a.Cells b.Cells, []⟩
  else noneW
theorem eitherW1_ok {s : TSpace} {a b : TWeight} (hs : spaceOk1 s = true) (ha : isW1 s a = true) (hb : isW1 s b = true) (ra : Rng1 a) (rb : Rng1 b) : isW1 s (eitherW1 s a b) = true ∧ Rng1 (eitherW1 s a b) := by
  unfold eitherW1
  rcases isW1_cases hs ha with h | h | h | h | h
  · subst h; simp only [zeroW, if_true]; exact ⟨hb, rb⟩
  all_goals
    have az : a.Zero = false := by first | (rw [h.2]; rfl) | (rw [h.2.1])
    rw [az, if_neg Bool.false_ne_true]
    rcases isW1_cases hs hb with k | k | k | k | k
    · subst k; simp only [zeroW, if_true]; exact ⟨ha, ra⟩
    all_goals first | (exfalso; omega) | skip
    have bz : b.Zero = false := by first | (rw [k.2]; rfl) | (rw [k.2.1])
    rw [bz, if_neg Bool.false_ne_true]
  · simp only [h.1, Int.reduceEq, if_false]
    exact ⟨isW1_none h.1, none_rng⟩
  · simp only [h.1, Int.reduceEq, if_true, if_false]
    have : 0 ≤ (if b.Cost < a.Cost then b.Cost else a.Cost) ∧ (if b.Cost < a.Cost then b.Cost else a.Cost) ≤ s.Dim := by split <;> omega
    rcases space1_cases hs with q | q | q | q
    · omega
    · exact ⟨isW1_cost h.1 this.1 this.2, ⟨zero_InU, by simp⟩, by simp, wf_small this.1 (Int.le_trans this.2 (by omega))⟩
    · omega
    · omega
  · simp only [h.1, Int.reduceEq, if_true, if_false]
    rcases space1_cases hs with q | q | q | q
    · omega
    · omega
    · exact ⟨isW1_facts h.1 (eitherF_ok q.2.1 q.2.2 ra.facts rb.facts h.2.2 k.2.2), eitherF_rng _ _, by simp, wf_small (x := 0) (Int.le_refl 0) (by decide)⟩
    · omega
  · simp only [h.1, Int.reduceEq, if_true, if_false]
    rcases space1_cases hs with q | q | q | q
    · omega
    · omega
    · omega
    · have ca := (cellsOk_iff q.2.1 q.2.2 ra.cells).1 h.2.2
      have cb := (cellsOk_iff q.2.1 q.2.2 rb.cells).1 k.2.2
      have hall : ∀ c ∈ List.zipWith joinC a.Cells b.Cells, CellP s.Dim c ∧ RngC c := by
        intro c hc
        obtain ⟨x, hx, y, hy, rfl⟩ := zip_get hc
        exact ⟨joinC_ok (ra.cells x hx).1 (rb.cells y hy).1 (ca.2 x hx) (cb.2 y hy), joinC_InU _ _, joinC_K (ra.cells x hx).2 (rb.cells y hy).2⟩
      exact ⟨isW1_cells h.1 ((cellsOk_iff q.2.1 q.2.2 (fun c hc => (hall c hc).2)).2 ⟨by simp; omega, fun c hc => (hall c hc).1⟩), ⟨zero_InU, by simp⟩, fun c hc => (hall c hc).2, wf_small (x := 0) (Int.le_refl 0) (by decide)⟩
def eitherW (s : TSpace) (a b : TWeight) : TWeight :=
  if s.Tag = 5 then ⟨false, 0, ⟨0, []⟩, [], [eitherW1 (rdl s.Parts 0) (rdl a.Parts 0) (rdl b.Parts 0), eitherW1 (rdl s.Parts 1) (rdl a.Parts 1) (rdl b.Parts 1)]⟩
  else eitherW1 s a b
theorem eitherW_ne {s : TSpace} {a b : TWeight} (h : s.Tag ≠ 5) : eitherW s a b = eitherW1 s a b := by unfold eitherW; rw [if_neg h]
theorem eitherW_ok {s : TSpace} {a b : TWeight} (hs : spaceOk s = true) (ha : isW s a = true) (hb : isW s b = true) (ra : Rng a) (rb : Rng b) : isW s (eitherW s a b) = true ∧ Rng (eitherW s a b) := by
  by_cases h5 : s.Tag = 5
  · obtain ⟨p0, p1, _⟩ := space_p0 hs h5
    obtain ⟨x, y, rfl, hx, hy⟩ := isW_pair h5 ha
    obtain ⟨z, w, rfl, hz, hw⟩ := isW_pair h5 hb
    unfold eitherW
    rw [if_pos h5]
    have k0 := eitherW1_ok p0 hx hz (ra.2 x (.head _)) (rb.2 z (.head _))
    have k1 := eitherW1_ok p1 hy hw (ra.2 y (.tail _ (.head _))) (rb.2 w (.tail _ (.head _)))
    exact ⟨isW_mk h5 k0.1 k1.1, pair_rng k0.2 k1.2⟩
  · have h1 : spaceOk1 s = true := by rw [← spaceOk_ne h5]; exact hs
    rw [isW_ne h5] at ha hb
    rw [eitherW_ne h5, isW_ne h5]
    have := eitherW1_ok h1 ha hb ra.1 rb.1
    exact ⟨this.1, isW1_noparts h1 this.1 this.2⟩
def zeroS (s : TSpace) : TWeight := if s.Tag = 5 then ⟨false, 0, ⟨0, []⟩, [], [zeroW, zeroW]⟩ else zeroW
theorem zeroS_ok {s : TSpace} (hs : spaceOk s = true) : isW s (zeroS s) = true ∧ Rng (zeroS s) := by
  unfold zeroS
  by_cases h5 : s.Tag = 5
  · obtain ⟨p0, p1, _⟩ := space_p0 hs h5
    rw [if_pos h5]
    exact ⟨isW_mk h5 (isW1_zero p0) (isW1_zero p1), pair_rng zero_rng zero_rng⟩
  · have h1 : spaceOk1 s = true := by rw [← spaceOk_ne h5]; exact hs
    rw [if_neg h5, isW_ne h5]
    exact ⟨isW1_zero h1, isW1_noparts h1 (isW1_zero h1) zero_rng⟩
def zeroR (s : TSpace) : TWeight × Int := if spaceOk s = true then (zeroS s, 0) else (noneW, 50)
theorem weight_zero.ok {s : TSpace} (hs : spaceOk s = true) : weight_zero.f s (zeroS s) := by
  refine ⟨2, ?_⟩
  show weight_zero.step (weight_zero.fN 1) s _
  unfold weight_zero.step zeroS
  by_cases h5 : s.Tag = 5
  · obtain ⟨a, b, hp, ha, hb, na, nb, hd⟩ := space_parts hs h5
    have hz : ∀ {t : TSpace}, t.Tag ≠ 5 → weight_zero.fN 1 t zeroW := fun {t} ht => by
      show weight_zero.step (weight_zero.fN 0) t _
      unfold weight_zero.step
      first
        | (rw [if_pos ht]; rfl)
        | (rw [if_neg ht]; rfl)
    first
      | (rw [if_neg (by simp [h5]), if_pos h5, hp]
         exact ⟨⟨by decide, by simp⟩, _, hz na, ⟨by decide, by simp⟩, _, hz nb, rfl⟩)
      | (rw [if_pos h5, if_pos h5, hp]
         exact ⟨⟨by decide, by simp⟩, _, hz na, ⟨by decide, by simp⟩, _, hz nb, rfl⟩)
  · first
      | (rw [if_pos h5, if_neg h5]; rfl)
      | (rw [if_neg h5, if_neg h5]; rfl)
theorem weight_Zero.ok {s : TSpace} (hl : s.Parts.length ≤ maxLen) : weight_Zero.f s (zeroR s) := by
  refine ⟨_, weight_Space.ok hl, ?_⟩
  unfold zeroR
  cases h : spaceOk s with
  | false => simp [noneW]
  | true => simp only [if_true]; exact ⟨_, weight_zero.ok h, rfl⟩
theorem either_zero1 (s : TSpace) (w : TWeight) : eitherW1 s zeroW w = w := by simp [eitherW1, zeroW]
theorem either_zero {s : TSpace} {w : TWeight} (hs : spaceOk s = true) (h : isW s w = true) : eitherW s (zeroS s) w = w := by
  unfold eitherW zeroS
  by_cases h5 : s.Tag = 5
  · obtain ⟨x, y, rfl, hx, hy⟩ := isW_pair h5 h
    rw [if_pos h5, if_pos h5]
    simp [rdl0, rdl1, either_zero1]
  · rw [if_neg h5, if_neg h5, either_zero1]
theorem then_zero1 (s : TSpace) (w : TWeight) : thenW1 s w zeroW = zeroW := by simp [thenW1, zeroW]
theorem then_zero {s : TSpace} {w : TWeight} (h : isW s w = true) : thenW s w (zeroS s) = zeroS s := by
  unfold thenW zeroS
  by_cases h5 : s.Tag = 5
  · obtain ⟨x, y, rfl, hx, hy⟩ := isW_pair h5 h
    rw [if_pos h5, if_pos h5]
    simp [rdl0, rdl1, then_zero1]
  · rw [if_neg h5, if_neg h5, then_zero1]
end Go.RM.Tryz
namespace Go.RM.Tryz
open Go.RM
set_option linter.unusedVariables false
set_option linter.unusedSimpArgs false
inductive Cl where
  | top
  | low (m : Nat) (u : Option Int)
  deriving DecidableEq
def cMix (m : Nat) : Option Int → Option Int → Cl
  | none, v => .low m v
  | some a, none => .low m (some a)
  | some a, some b => if a = b then .low m (some a) else .top
def cJ : Cl → Cl → Cl
  | .top, _ => .top
  | .low _ _, .top => .top
  | .low m u, .low n v => cMix (m ||| n) u v
theorem cJ_top (x : Cl) : cJ x .top = .top := by cases x <;> rfl
theorem cJ_comm (x y : Cl) : cJ x y = cJ y x := by
  rcases x with _ | ⟨m, _ | a⟩ <;> rcases y with _ | ⟨n, _ | b⟩
  all_goals first
    | rfl
    | (simp only [cJ, cMix, Nat.or_comm m n]; done)
    | (simp only [cJ, cMix, Nat.or_comm m n]
       by_cases h : a = b
       · subst h; rfl
       · rw [if_neg h, if_neg (fun e => h e.symm)])
theorem cJ_self (x : Cl) : cJ x x = x := by
  rcases x with _ | ⟨m, _ | a⟩ <;> simp [cJ, cMix]
theorem cJ_assoc (x y z : Cl) : cJ (cJ x y) z = cJ x (cJ y z) := by
  rcases x with _ | ⟨m, _ | a⟩ <;> rcases y with _ | ⟨n, _ | b⟩ <;> rcases z with _ | ⟨o, _ | c⟩
  all_goals first
    | rfl
    | (simp only [cJ, cMix, Nat.or_assoc]; done)
    | (by_cases h1 : a = b <;> by_cases h2 : b = c <;> simp [cJ, cMix, Nat.or_assoc, h1, h2] <;> done)
    | (by_cases h1 : a = b <;> by_cases h2 : b = c <;> by_cases h3 : a = c <;> simp_all [cJ, cMix, Nat.or_assoc] <;> done)
    | (by_cases h1 : a = b <;> simp [cJ, cMix, Nat.or_assoc, h1] <;> done)
    | (by_cases h1 : b = c <;> simp [cJ, cMix, Nat.or_assoc, h1] <;> done)
    | (by_cases h1 : a = c <;> simp [cJ, cMix, Nat.or_assoc, h1] <;> done)
theorem cJ_left (x y z : Cl) : cJ x (cJ y z) = cJ y (cJ x z) := by rw [← cJ_assoc, cJ_comm x y, cJ_assoc]
theorem cJ_four (a b x y : Cl) : cJ (cJ a b) (cJ x y) = cJ (cJ a x) (cJ b y) := by rw [cJ_assoc, cJ_assoc, cJ_left b x y]
def cFol : List Cl → Nat → Nat → Cl → Cl
  | [], _, _, acc => acc
  | x :: F, i, m, acc => cFol F (i + 1) m (if m.testBit i then cJ acc x else acc)
theorem cFol_top : ∀ (F : List Cl) (i m : Nat), cFol F i m .top = .top
  | [], _, _ => rfl
  | x :: F, i, m => by
    unfold cFol
    have : (if m.testBit i then cJ Cl.top x else Cl.top) = .top := by split <;> rfl
    rw [this]; exact cFol_top F (i + 1) m
theorem cFol_or : ∀ (F : List Cl) (i m n : Nat) (a b : Cl), cFol F i (m ||| n) (cJ a b) = cJ (cFol F i m a) (cFol F i n b)
  | [], _, _, _, _, _ => rfl
  | x :: F, i, m, n, a, b => by
    simp only [cFol]
    rw [← cFol_or F (i + 1) m n]
    congr 1
    rw [Nat.testBit_or]
    cases h1 : m.testBit i <;> cases h2 : n.testBit i <;> simp
    · rw [cJ_assoc]
    · rw [cJ_assoc, cJ_assoc, cJ_comm b x]
    · rw [← cJ_four, cJ_self]
theorem cFol_zip : ∀ (F G : List Cl) (i m : Nat) (a b : Cl), F.length = G.length → cFol (List.zipWith cJ F G) i m (cJ a b) = cJ (cFol F i m a) (cFol G i m b)
  | [], [], _, _, _, _, _ => rfl
  | x :: F, y :: G, i, m, a, b, h => by
    simp only [List.zipWith_cons_cons, cFol]
    rw [← cFol_zip F G (i + 1) m _ _ (by simpa using h)]
    congr 1
    cases m.testBit i <;> simp
    rw [cJ_four]
def ofC (F : List Cl) : Cl → Cl
  | .top => .top
  | .low m u => cFol F 0 m (.low 0 u)
theorem ofC_J (F : List Cl) (x y : Cl) : ofC F (cJ x y) = cJ (ofC F x) (ofC F y) := by
  rcases x with _ | ⟨m, u⟩
  · rfl
  rcases y with _ | ⟨n, v⟩
  · rw [cJ_top]; simp only [ofC]; rw [cJ_top]
  simp only [ofC]
  rw [← cFol_or]
  have h : cJ (.low 0 u) (.low 0 v) = cMix 0 u v := rfl
  rw [h]
  simp only [cJ]
  rcases u with _ | a <;> rcases v with _ | b <;> simp only [cMix, ofC]
  by_cases e : a = b
  · simp only [if_pos e, ofC]
  · simp only [if_neg e, ofC, cFol_top]
theorem ofC_zip (F G : List Cl) (x : Cl) (h : F.length = G.length) : ofC (List.zipWith cJ F G) x = cJ (ofC F x) (ofC G x) := by
  rcases x with _ | ⟨m, u⟩
  · rfl
  · simp only [ofC]
    rw [← cFol_zip F G _ _ _ _ h, cJ_self]
theorem over1 (F : List Cl) : ∀ G H : List Cl, (List.zipWith cJ G H).map (ofC F) = List.zipWith cJ (G.map (ofC F)) (H.map (ofC F))
  | [], _ => by simp
  | _ :: _, [] => by simp
  | x :: G, y :: H => by simp only [List.zipWith_cons_cons, List.map_cons, ofC_J, over1 F G H]
theorem over2 (F G : List Cl) (h : F.length = G.length) : ∀ H : List Cl, H.map (ofC (List.zipWith cJ F G)) = List.zipWith cJ (H.map (ofC F)) (H.map (ofC G))
  | [] => rfl
  | x :: H => by simp only [List.map_cons, List.zipWith_cons_cons, ofC_zip F G x h, over2 F G h H]
theorem cFol_map (F : List Cl) : ∀ (G : List Cl) (i m : Nat) (a : Cl), ofC F (cFol G i m a) = cFol (G.map (ofC F)) i m (ofC F a)
  | [], _, _, _ => rfl
  | x :: G, i, m, a => by
    simp only [List.map_cons, cFol]
    rw [cFol_map F G (i + 1) m]
    congr 1
    cases m.testBit i <;> simp
    rw [ofC_J]
theorem cFol_zero : ∀ (F : List Cl) (i : Nat) (a : Cl), cFol F i 0 a = a
  | [], _, _ => rfl
  | x :: F, i, a => by simp only [cFol]; rw [show Nat.testBit 0 i = false from Nat.zero_testBit i]; exact cFol_zero F (i + 1) a
theorem then_assoc (F G : List Cl) (x : Cl) : ofC (G.map (ofC F)) x = ofC F (ofC G x) := by
  rcases x with _ | ⟨m, u⟩
  · rfl
  · show cFol _ 0 m _ = ofC F (cFol G 0 m (.low 0 u))
    rw [cFol_map]
    show _ = cFol _ 0 m (cFol F 0 0 (.low 0 u))
    rw [cFol_zero]
def cLt (d : Nat) : Cl → Prop
  | .top => True
  | .low m _ => m < 2 ^ d
theorem cLt_J {d : Nat} {x y : Cl} (hx : cLt d x) (hy : cLt d y) : cLt d (cJ x y) := by
  rcases x with _ | ⟨m, _ | a⟩ <;> rcases y with _ | ⟨n, _ | b⟩ <;> simp only [cJ, cMix] <;> try trivial
  · exact Nat.or_lt_two_pow hx hy
  · exact Nat.or_lt_two_pow hx hy
  · exact Nat.or_lt_two_pow hx hy
  · split
    · exact Nat.or_lt_two_pow hx hy
    · trivial
theorem cLt_fol {d : Nat} : ∀ (F : List Cl) (i m : Nat) (a : Cl), (∀ x ∈ F, cLt d x) → cLt d a → cLt d (cFol F i m a)
  | [], _, _, _, _, h => h
  | x :: F, i, m, a, hF, h => by
    simp only [cFol]
    refine cLt_fol F (i + 1) m _ (fun y hy => hF y (List.mem_cons_of_mem _ hy)) ?_
    split
    · exact cLt_J h (hF x List.mem_cons_self)
    · exact h
theorem cLt_ofC {d : Nat} {F : List Cl} (hF : ∀ x ∈ F, cLt d x) (c : Cl) : cLt d (ofC F c) := by
  rcases c with _ | ⟨m, u⟩
  · trivial
  · exact cLt_fol F 0 m _ hF (Nat.two_pow_pos d)
theorem cLt_zip {d : Nat} : ∀ {F G : List Cl}, (∀ x ∈ F, cLt d x) → (∀ x ∈ G, cLt d x) → ∀ x ∈ List.zipWith cJ F G, cLt d x
  | [], _, _, _ => by simp
  | _ :: _, [], _, _ => by simp
  | x :: F, y :: G, hF, hG => by
    intro z hz
    simp only [List.zipWith_cons_cons, List.mem_cons] at hz
    rcases hz with rfl | hz
    · exact cLt_J (hF _ List.mem_cons_self) (hG _ List.mem_cons_self)
    · exact cLt_zip (fun a ha => hF a (List.mem_cons_of_mem _ ha)) (fun a ha => hG a (List.mem_cons_of_mem _ ha)) z hz
def cPc : Nat → Nat → Nat
  | 0, _ => 0
  | d + 1, m => cPc d m + if m.testBit d then 1 else 0
theorem cPc_le : ∀ d m, cPc d m ≤ d
  | 0, _ => Nat.le_refl _
  | d + 1, m => by have := cPc_le d m; unfold cPc; split <;> omega
theorem sub_bit {m n i : Nat} (h : m ||| n = n) (hm : m.testBit i = true) : n.testBit i = true := by
  rw [← h, Nat.testBit_or, hm]; rfl
theorem cPc_mono {m n : Nat} (h : m ||| n = n) : ∀ d, cPc d m ≤ cPc d n
  | 0 => Nat.le_refl _
  | d + 1 => by
    have := cPc_mono h d
    unfold cPc
    by_cases e : m.testBit d = true
    · rw [if_pos e, if_pos (sub_bit h e)]; omega
    · rw [if_neg e]; omega
theorem cPc_eq {m n : Nat} (h : m ||| n = n) : ∀ d, cPc d m = cPc d n → ∀ i, i < d → m.testBit i = n.testBit i
  | 0, _, i, hi => absurd hi (Nat.not_lt_zero i)
  | d + 1, he, i, hi => by
    have h1 := cPc_mono h d
    unfold cPc at he
    have hd : m.testBit d = n.testBit d := by
      cases e1 : m.testBit d <;> cases e2 : n.testBit d <;> simp [e1, e2] at he ⊢
      · omega
      · have := sub_bit h e1; rw [e2] at this; cases this
    rw [hd] at he
    by_cases e : i = d
    · subst e; exact hd
    · exact cPc_eq h d (by omega) i (by omega)
theorem cPc_lt {d m n : Nat} (h : m ||| n = n) (hm : m < 2 ^ d) (hn : n < 2 ^ d) (hne : m ≠ n) : cPc d m < cPc d n := by
  rcases Nat.lt_or_ge (cPc d m) (cPc d n) with h1 | h1
  · exact h1
  · refine absurd (Nat.eq_of_testBit_eq fun i => ?_) hne
    by_cases hi : i < d
    · exact cPc_eq h d (Nat.le_antisymm (cPc_mono h d) h1) i hi
    · rw [Nat.testBit_lt_two_pow (Nat.lt_of_lt_of_le hm (Nat.pow_le_pow_right (by decide) (by omega))), Nat.testBit_lt_two_pow (Nat.lt_of_lt_of_le hn (Nat.pow_le_pow_right (by decide) (by omega)))]
def cRank (d : Nat) : Cl → Nat
  | .top => d + 2
  | .low m none => cPc d m
  | .low m (some _) => cPc d m + 1
theorem cRank_le (d : Nat) (x : Cl) : cRank d x ≤ d + 2 := by
  rcases x with _ | ⟨m, _ | a⟩ <;> simp only [cRank] <;> have := cPc_le d <;> first | exact Nat.le_refl _ | (have := this m; omega)
theorem low_inj {m n : Nat} {u v : Option Int} (h : Cl.low m u = Cl.low n v) : m = n ∧ u = v := by injection h with h1 h2; exact ⟨h1, h2⟩
theorem cRank_lt {d : Nat} {x y : Cl} (hx : cLt d x) (hy : cLt d y) (h : cJ x y = y) (hne : x ≠ y) : cRank d x < cRank d y := by
  rcases x with _ | ⟨m, u⟩
  · exact absurd h hne
  rcases y with _ | ⟨n, v⟩
  · have := cPc_le d m
    rcases u with _ | a <;> simp only [cRank] <;> omega
  simp only [cLt] at hx hy
  rcases u with _ | a <;> rcases v with _ | b <;> simp only [cJ, cMix] at h
  · have h1 := (low_inj h).1
    simp only [cRank]
    exact cPc_lt h1 hx hy (fun e => hne (by rw [e]))
  · have h1 := (low_inj h).1
    have := cPc_mono h1 d
    simp only [cRank]; omega
  · have h1 := (low_inj h).2; cases h1
  · by_cases e : a = b
    · rw [if_pos e] at h
      have h1 := (low_inj h).1
      subst e
      have := cPc_lt h1 hx hy (fun e => hne (by rw [e]))
      simp only [cRank]; omega
    · rw [if_neg e] at h; cases h
theorem cRank_le' {d : Nat} {x y : Cl} (hx : cLt d x) (hy : cLt d y) (h : cJ x y = y) : cRank d x ≤ cRank d y := by
  by_cases e : x = y
  · subst e; exact Nat.le_refl _
  · exact Nat.le_of_lt (cRank_lt hx hy h e)
def cRanks (d : Nat) : List Cl → Nat
  | [] => 0
  | x :: l => cRank d x + cRanks d l
theorem cRanks_le (d : Nat) : ∀ l, cRanks d l ≤ l.length * (d + 2)
  | [] => Nat.zero_le _
  | x :: l => by
    have h1 := cRanks_le d l
    have h2 := cRank_le d x
    simp only [cRanks, List.length_cons, Nat.add_mul, Nat.one_mul]
    omega
theorem cRanks_mono {d : Nat} : ∀ {F G : List Cl}, F.length = G.length → (∀ x ∈ F, cLt d x) → (∀ x ∈ G, cLt d x) → List.zipWith cJ F G = G → cRanks d F ≤ cRanks d G ∧ (F ≠ G → cRanks d F < cRanks d G)
  | [], [], _, _, _, _ => ⟨Nat.le_refl _, fun h => absurd rfl h⟩
  | x :: F, y :: G, hl, hF, hG, h => by
    simp only [List.zipWith_cons_cons, List.cons.injEq] at h
    obtain ⟨h1, h2⟩ := cRanks_mono (by simpa using hl) (fun a ha => hF a (List.mem_cons_of_mem _ ha)) (fun a ha => hG a (List.mem_cons_of_mem _ ha)) h.2
    have h3 := cRank_le' (hF x List.mem_cons_self) (hG y List.mem_cons_self) h.1
    simp only [cRanks]
    refine ⟨by omega, fun hne => ?_⟩
    by_cases e : x = y
    · have : F ≠ G := fun e2 => hne (by rw [e, e2])
      have := h2 this
      omega
    · have := cRank_lt (hF x List.mem_cons_self) (hG y List.mem_cons_self) h.1 e
      omega
theorem zip_self : ∀ F : List Cl, List.zipWith cJ F F = F
  | [] => rfl
  | x :: F => by simp only [List.zipWith_cons_cons, cJ_self, zip_self F]
theorem zip_comm : ∀ F G : List Cl, List.zipWith cJ F G = List.zipWith cJ G F
  | [], G => by simp
  | _ :: _, [] => by simp
  | x :: F, y :: G => by simp only [List.zipWith_cons_cons, cJ_comm x y, zip_comm F G]
theorem zip_assoc : ∀ F G H : List Cl, List.zipWith cJ (List.zipWith cJ F G) H = List.zipWith cJ F (List.zipWith cJ G H)
  | [], _, _ => by simp
  | _ :: _, [], _ => by simp
  | _ :: _, _ :: _, [] => by simp
  | x :: F, y :: G, z :: H => by simp only [List.zipWith_cons_cons, cJ_assoc, zip_assoc F G H]
theorem maps_assoc (F G : List Cl) (H : List Cl) : H.map (ofC (G.map (ofC F))) = (H.map (ofC G)).map (ofC F) := by
  rw [List.map_map]
  exact List.map_congr_left fun c _ => then_assoc F G c
end Go.RM.Tryz
namespace Go.RM.Tryz
open Go.RM
set_option linter.unusedVariables false
set_option linter.unusedSimpArgs false
def decC : Cl → TCell
  | .top => manyC
  | .low m none => ⟨m, 0, 0⟩
  | .low m (some a) => ⟨m, 1, a⟩
theorem or_nat {m n : Nat} (hm : m < 2 ^ 64) (hn : n < 2 ^ 64) : bitOp .or .u64 (m : Int) (n : Int) = ((m ||| n : Nat) : Int) := by
  have e : (2 : Nat) ^ 64 = 18446744073709551616 := by decide
  rw [e] at hm hn
  rw [bitOp_or, BitVec.toNat_or, ofInt_toNat ⟨by omega, by omega⟩, ofInt_toNat ⟨by omega, by omega⟩]
  simp
theorem joinC_dec {x y : Cl} (hx : cLt 64 x) (hy : cLt 64 y) : joinC (decC x) (decC y) = decC (cJ x y) := by
  rcases x with _ | ⟨m, _ | a⟩ <;> rcases y with _ | ⟨n, _ | b⟩
  all_goals first
    | rfl
    | (simp only [decC, joinC, manyC, cJ, cMix]; simp; done)
    | (have h := or_nat (m := m) (n := n) hx hy
       simp only [decC, joinC, cJ, cMix, h]
       simp; done)
    | (have h := or_nat (m := m) (n := n) hx hy
       by_cases e : a = b
       · simp only [decC, joinC, cJ, cMix, h, e]; simp [decC]
       · simp only [decC, joinC, cJ, cMix, h, e]; simp [decC, manyC, e])
theorem decC_inj {x y : Cl} (h : decC x = decC y) : x = y := by
  rcases x with _ | ⟨m, _ | a⟩ <;> rcases y with _ | ⟨n, _ | b⟩ <;> simp [decC, manyC] at h
  · rfl
  · have : m = n := by omega
    subst this; rfl
  · obtain ⟨h1, rfl⟩ := h
    have : m = n := by omega
    subst this; rfl
theorem decs_inj : ∀ {F G : List Cl}, F.map decC = G.map decC → F = G
  | [], [], _ => rfl
  | [], _ :: _, h => by simp at h
  | _ :: _, [], h => by simp at h
  | x :: F, y :: G, h => by
    simp only [List.map_cons, List.cons.injEq] at h
    rw [decC_inj h.1, decs_inj h.2]
theorem cLt_le {d : Nat} (hd : d ≤ 64) {c : Cl} (h : cLt d c) : cLt 64 c := by
  rcases c with _ | ⟨m, u⟩
  · trivial
  · exact Nat.lt_of_lt_of_le h (Nat.pow_le_pow_right (by decide) hd)
theorem fold_dec {m : Nat} {c : TCell} (hc : c.From = (m : Int)) : ∀ (F : List Cl) (i : Nat) (acc : Cl), (∀ x ∈ F, cLt 64 x) → cLt 64 acc → foldG (behG c) (F.map decC) (i : Int) (decC acc) = decC (cFol F i m acc)
  | [], _, _, _, _ => rfl
  | x :: F, i, acc, hF, ha => by
    simp only [List.map_cons, foldG, cFol]
    have hx := hF x List.mem_cons_self
    have e : behG c (i : Int) (decC x) (decC acc) = decC (if m.testBit i then cJ acc x else acc) := by
      unfold behG hasI
      rw [hc]
      simp only [Int.toNat_natCast]
      by_cases hb : m.testBit i = true
      · rw [if_pos hb, if_pos hb]; exact joinC_dec ha hx
      · rw [if_neg hb, if_neg hb]
    rw [e, show ((i : Int) + 1) = ((i + 1 : Nat) : Int) by omega]
    refine fold_dec hc F (i + 1) _ (fun y hy => hF y (List.mem_cons_of_mem _ hy)) ?_
    split
    · exact cLt_J ha hx
    · exact ha
theorem behindM_dec {F : List Cl} {x : Cl} (hF : ∀ y ∈ F, cLt 64 y) (hx : cLt 64 x) : behindM (F.map decC) (decC x) = decC (ofC F x) := by
  unfold behindM
  rcases x with _ | ⟨m, u⟩
  · have h := fold_dec (m := 0) (c := decC .top) rfl F 0 .top hF trivial
    rw [cFol_top] at h
    exact h
  · have hf : (decC (.low m u)).From = (m : Int) := by cases u <;> rfl
    have hs : (⟨0, (decC (.low m u)).Kind, (decC (.low m u)).K⟩ : TCell) = decC (.low 0 u) := by cases u <;> rfl
    rw [hs]
    exact fold_dec hf F 0 (.low 0 u) hF (by show (0 : Nat) < 2 ^ 64; decide)
theorem cell_dec {n : Int} {d : Nat} (hd : n = d) {c : TCell} (uc : InU c.From) (h : CellP n c) : ∃ x, cLt d x ∧ c = decC x := by
  obtain ⟨f, k, v⟩ := c
  obtain ⟨h1, h2⟩ := h
  simp only at h1 h2 uc
  have hlt : f.toNat < 2 ^ d := by
    apply Nat.lt_pow_two_of_testBit
    intro i hi
    cases hb : f.toNat.testBit i with
    | false => rfl
    | true => have := h1 i hb; omega
  have hf : ((f.toNat : Nat) : Int) = f := Int.toNat_of_nonneg uc.1
  rcases h2 with ⟨rfl, rfl⟩ | rfl | ⟨rfl, rfl, rfl⟩
  · exact ⟨.low f.toNat none, hlt, by simp [decC, hf]⟩
  · exact ⟨.low f.toNat (some v), hlt, by simp [decC, hf]⟩
  · exact ⟨.top, trivial, rfl⟩
theorem cells_dec {n : Int} {d : Nat} (hd : n = d) : ∀ {l : List TCell}, (∀ c ∈ l, InU c.From) → (∀ c ∈ l, CellP n c) → ∃ L : List Cl, l = L.map decC ∧ ∀ x ∈ L, cLt d x
  | [], _, _ => ⟨[], rfl, by simp⟩
  | c :: l, hu, hp => by
    obtain ⟨x, hx, rfl⟩ := cell_dec hd (hu c List.mem_cons_self) (hp c List.mem_cons_self)
    obtain ⟨L, rfl, hL⟩ := cells_dec hd (fun c hc => hu c (List.mem_cons_of_mem _ hc)) (fun c hc => hp c (List.mem_cons_of_mem _ hc))
    exact ⟨x :: L, rfl, fun y hy => (List.mem_cons.1 hy).elim (fun e => e ▸ hx) (hL y)⟩
theorem zip_dec : ∀ {F G : List Cl}, (∀ x ∈ F, cLt 64 x) → (∀ x ∈ G, cLt 64 x) → List.zipWith joinC (F.map decC) (G.map decC) = (List.zipWith cJ F G).map decC
  | [], _, _, _ => by simp
  | _ :: _, [], _, _ => by simp
  | x :: F, y :: G, hF, hG => by
    simp only [List.map_cons, List.zipWith_cons_cons]
    rw [joinC_dec (hF _ List.mem_cons_self) (hG _ List.mem_cons_self), zip_dec (fun z hz => hF z (List.mem_cons_of_mem _ hz)) (fun z hz => hG z (List.mem_cons_of_mem _ hz))]
theorem thenC_dec {F G : List Cl} (hF : ∀ x ∈ F, cLt 64 x) (hG : ∀ x ∈ G, cLt 64 x) : thenC (F.map decC) (G.map decC) = (G.map (ofC F)).map decC := by
  unfold thenC
  rw [List.map_map, List.map_map]
  exact List.map_congr_left fun x hx => behindM_dec hF (hG x hx)
end Go.RM.Tryz
namespace Go.RM.Tryz
open Go.RM
set_option linter.unusedVariables false
set_option linter.unusedSimpArgs false
def MadeP (F : TFacts) (x : Int) (k : Nat) : Prop := hasI F.Gen k = true ∨ ∃ j r, F.Rows[j]? = some r ∧ hasI x j = true ∧ hasI r k = true
theorem made_iff {F : TFacts} (h : RngF F) (x : Int) (k : Nat) : hasI (madeM F x) k = true ↔ MadeP F x k := by
  rw [madeM_has h, Bool.or_eq_true, anyB_iff]
  simp only [Nat.zero_add, MadeP]
theorem made_ext {x y : Int} (hx : InU x) (hy : InU y) (h : ∀ k, hasI x k = true ↔ hasI y k = true) : x = y := ext64 hx hy fun i _ => Bool.eq_iff_iff.2 (h i)
theorem hi64 {x : Int} (hx : InU x) {k : Nat} (h : hasI x k = true) : k < 64 := by
  apply Nat.lt_of_not_le; intro hge; rw [hasI_high hx hge] at h; cases h
theorem made_canon {F : TFacts} (h : RngF F) (x : Int) (k : Nat) : MadeP (canonM F) x k ↔ MadeP F x k := by
  unfold MadeP canonM
  constructor
  · rintro (h1 | ⟨j, r, hj, hx, hr⟩)
    · exact .inl h1
    · rw [List.getElem?_map, Option.map_eq_some_iff] at hj
      obtain ⟨q, hq, rfl⟩ := hj
      rw [has_andNot (h.2 q (List.mem_of_getElem? hq)) h.1 (hi64 (andNot_InU _ _) hr), Bool.and_eq_true] at hr
      exact .inr ⟨j, q, hq, hx, hr.1⟩
  · rintro (h1 | ⟨j, r, hj, hx, hr⟩)
    · exact .inl h1
    · by_cases hg : hasI F.Gen k = true
      · exact .inl hg
      · refine .inr ⟨j, bitOp .andNot .u64 r F.Gen, by rw [List.getElem?_map, hj]; rfl, hx, ?_⟩
        have ur := h.2 r (List.mem_of_getElem? hj)
        rw [has_andNot ur h.1 (hi64 ur hr), hr, Bool.eq_false_iff.2 hg]; rfl
theorem rng_then0 {a b : TFacts} (hb : RngF b) : RngF ⟨madeM b a.Gen, a.Rows.map (madeM b)⟩ := ⟨madeM_InU hb _, fun r hr => by
  obtain ⟨q, _, rfl⟩ := List.mem_map.1 hr; exact madeM_InU hb _⟩
theorem made_then {a b : TFacts} (ha : RngF a) (hb : RngF b) (x : Int) (k : Nat) : MadeP (thenF a b) x k ↔ MadeP b (madeM a x) k := by
  unfold thenF
  rw [made_canon (rng_then0 hb)]
  unfold MadeP
  simp only [made_iff ha, made_iff hb, List.getElem?_map, Option.map_eq_some_iff]
  unfold MadeP
  constructor
  · rintro ((h | ⟨j, r, hj, hx, hr⟩) | ⟨j, r, ⟨q, hq, rfl⟩, hx, hr⟩)
    · exact .inl h
    · exact .inr ⟨j, r, hj, .inl hx, hr⟩
    · rw [made_iff hb] at hr
      rcases hr with h | ⟨i, s, hi, hqi, hs⟩
      · exact .inl h
      · exact .inr ⟨i, s, hi, .inr ⟨j, q, hq, hx, hqi⟩, hs⟩
  · rintro (h | ⟨i, s, hi, hg | ⟨j, q, hq, hx, hqi⟩, hs⟩)
    · exact .inl (.inl h)
    · exact .inl (.inr ⟨i, s, hi, hg, hs⟩)
    · exact .inr ⟨j, madeM b q, ⟨q, hq, rfl⟩, hx, (made_iff hb q k).2 (.inr ⟨i, s, hi, hqi, hs⟩)⟩
theorem rng_either0 {a b : TFacts} : RngF ⟨bitOp .or .u64 a.Gen b.Gen, List.zipWith (bitOp .or .u64) a.Rows b.Rows⟩ := ⟨or_InU _ _, fun r hr => by
  obtain ⟨x, _, y, _, rfl⟩ := zip_get hr; exact or_InU _ _⟩
theorem made_either {a b : TFacts} (ha : RngF a) (hb : RngF b) (hl : a.Rows.length = b.Rows.length) (x : Int) (k : Nat) : MadeP (eitherF a b) x k ↔ MadeP a x k ∨ MadeP b x k := by
  unfold eitherF
  rw [made_canon rng_either0]
  unfold MadeP
  simp only [has_or ha.1 hb.1, Bool.or_eq_true, List.getElem?_zipWith]
  constructor
  · rintro ((h | h) | ⟨j, r, hj, hx, hr⟩)
    · exact .inl (.inl h)
    · exact .inr (.inl h)
    · cases h1 : a.Rows[j]? with
      | none => rw [h1] at hj; cases hj
      | some p =>
        cases h2 : b.Rows[j]? with
        | none => rw [h1, h2] at hj; cases hj
        | some q =>
          rw [h1, h2] at hj
          injection hj with hj
          subst hj
          rw [has_or (ha.2 p (List.mem_of_getElem? h1)) (hb.2 q (List.mem_of_getElem? h2)), Bool.or_eq_true] at hr
          rcases hr with hr | hr
          · exact .inl (.inr ⟨j, p, h1, hx, hr⟩)
          · exact .inr (.inr ⟨j, q, h2, hx, hr⟩)
  · rintro ((h | ⟨j, p, h1, hx, hr⟩) | (h | ⟨j, q, h2, hx, hr⟩))
    · exact .inl (.inl h)
    · have hlt : j < b.Rows.length := by rw [← hl]; exact (List.getElem?_eq_some_iff.1 h1).1
      refine .inr ⟨j, bitOp .or .u64 p b.Rows[j], by rw [h1, List.getElem?_eq_getElem hlt], hx, ?_⟩
      rw [has_or (ha.2 p (List.mem_of_getElem? h1)) (hb.2 _ (List.getElem_mem hlt)), hr]; rfl
    · exact .inl (.inr h)
    · have hlt : j < a.Rows.length := by rw [hl]; exact (List.getElem?_eq_some_iff.1 h2).1
      refine .inr ⟨j, bitOp .or .u64 a.Rows[j] q, by rw [h2, List.getElem?_eq_getElem hlt], hx, ?_⟩
      rw [has_or (ha.2 _ (List.getElem_mem hlt)) (hb.2 q (List.mem_of_getElem? h2)), hr, Bool.or_true]
theorem made_or {F : TFacts} {x y : Int} (hx : InU x) (hy : InU y) (k : Nat) : MadeP F (bitOp .or .u64 x y) k ↔ MadeP F x k ∨ MadeP F y k := by
  unfold MadeP
  simp only [has_or hx hy, Bool.or_eq_true]
  constructor
  · rintro (h | ⟨j, r, hj, hx | hx, hr⟩)
    · exact .inl (.inl h)
    · exact .inl (.inr ⟨j, r, hj, hx, hr⟩)
    · exact .inr (.inr ⟨j, r, hj, hx, hr⟩)
  · rintro ((h | ⟨j, r, hj, hx, hr⟩) | (h | ⟨j, r, hj, hx, hr⟩))
    · exact .inl h
    · exact .inr ⟨j, r, hj, .inl hx, hr⟩
    · exact .inl h
    · exact .inr ⟨j, r, hj, .inr hx, hr⟩
structure FOk (n : Int) (F : TFacts) : Prop where
  rng : RngF F
  ok : factsOk n F = true
theorem FOk.len {n : Int} (h0 : 0 ≤ n) (h1 : n ≤ 64) {F : TFacts} (h : FOk n F) : (F.Rows.length : Int) = n := ((factsOk_iff h.rng h0 h1).1 h.ok).1
theorem FOk.ext {n : Int} (h0 : 0 ≤ n) (h1 : n ≤ 64) {a b : TFacts} (ha : FOk n a) (hb : FOk n b) (h : ∀ x, InU x → ∀ k, MadeP a x k ↔ MadeP b x k) : a = b := by
  obtain ⟨la, _, _, ca⟩ := (factsOk_iff ha.rng h0 h1).1 ha.ok
  obtain ⟨lb, _, _, cb⟩ := (factsOk_iff hb.rng h0 h1).1 hb.ok
  have none0 : ∀ (F : TFacts) k, MadeP F 0 k ↔ hasI F.Gen k = true := by
    intro F k
    constructor
    · rintro (q | ⟨j, r, _, hx, _⟩)
      · exact q
      · rw [has_zero] at hx; cases hx
    · exact .inl
  have hg : a.Gen = b.Gen := made_ext ha.rng.1 hb.rng.1 fun k => by rw [← none0, ← none0]; exact h 0 zero_InU k
  have one1 : ∀ (F : TFacts) (j : Nat) (r : Int), F.Rows[j]? = some r → ∀ k, MadeP F (2 ^ j) k ↔ hasI F.Gen k = true ∨ hasI r k = true := by
    intro F j r hj k
    constructor
    · rintro (q | ⟨i, r', hi, hx, hr⟩)
      · exact .inl q
      · rw [has_pow, decide_eq_true_eq] at hx
        subst hx
        rw [hj] at hi
        cases hi
        exact .inr hr
    · rintro (q | q)
      · exact .inl q
      · exact .inr ⟨j, r, hj, by rw [has_pow]; simp, q⟩
  have hr : a.Rows = b.Rows := by
    apply List.ext_getElem (by omega)
    intro j h2 h3
    have ga := List.getElem?_eq_getElem h2
    have gb := List.getElem?_eq_getElem h3
    refine made_ext (ha.rng.2 _ (List.getElem_mem h2)) (hb.rng.2 _ (List.getElem_mem h3)) fun k => ?_
    have := h (2 ^ j) (pow_InU (by omega)) k
    rw [one1 a j _ ga, one1 b j _ gb, hg] at this
    constructor
    · intro q
      rcases this.1 (.inr q) with g | g
      · have := ca _ (List.getElem_mem h2) k q; rw [hg, g] at this; cases this
      · exact g
    · intro q
      rcases this.2 (.inr q) with g | g
      · have := cb _ (List.getElem_mem h3) k q; rw [g] at this; cases this
      · exact g
  obtain ⟨ag, ar⟩ := a
  obtain ⟨bg, br⟩ := b
  simp only at hg hr
  rw [hg, hr]
theorem FOk.either {n : Int} (h0 : 0 ≤ n) (h1 : n ≤ 64) {a b : TFacts} (ha : FOk n a) (hb : FOk n b) : FOk n (eitherF a b) := ⟨eitherF_rng a b, eitherF_ok h0 h1 ha.rng hb.rng ha.ok hb.ok⟩
theorem FOk.thn {n : Int} (h0 : 0 ≤ n) (h1 : n ≤ 64) {a b : TFacts} (ha : FOk n a) (hb : FOk n b) : FOk n (thenF a b) := ⟨thenF_rng hb.rng, thenF_ok h0 h1 hb.rng ha.ok hb.ok ha.rng⟩
theorem FOk.lens {n : Int} (h0 : 0 ≤ n) (h1 : n ≤ 64) {a b : TFacts} (ha : FOk n a) (hb : FOk n b) : a.Rows.length = b.Rows.length := by
  have := ha.len h0 h1; have := hb.len h0 h1; omega
theorem made_val {F : TFacts} (h : RngF F) {x y : Int} (hxy : ∀ k, hasI x k = true ↔ hasI y k = true) (k : Nat) : MadeP F x k ↔ MadeP F y k := by
  unfold MadeP; simp only [hxy]
section
variable {n : Int} (h0 : 0 ≤ n) (h1 : n ≤ 64) {a b c : TFacts} (ha : FOk n a) (hb : FOk n b) (hc : FOk n c)
include h0 h1 ha hb hc
theorem eF_assoc : eitherF (eitherF a b) c = eitherF a (eitherF b c) := by
  refine FOk.ext h0 h1 ((ha.either h0 h1 hb).either h0 h1 hc) (ha.either h0 h1 (hb.either h0 h1 hc)) fun x hx k => ?_
  rw [made_either (ha.either h0 h1 hb).rng hc.rng ((ha.either h0 h1 hb).lens h0 h1 hc), made_either ha.rng hb.rng (ha.lens h0 h1 hb), made_either ha.rng (hb.either h0 h1 hc).rng (ha.lens h0 h1 (hb.either h0 h1 hc)), made_either hb.rng hc.rng (hb.lens h0 h1 hc), or_assoc]
theorem tF_assoc : thenF (thenF a b) c = thenF a (thenF b c) := by
  refine FOk.ext h0 h1 ((ha.thn h0 h1 hb).thn h0 h1 hc) (ha.thn h0 h1 (hb.thn h0 h1 hc)) fun x hx k => ?_
  rw [made_then (ha.thn h0 h1 hb).rng hc.rng, made_then ha.rng (hb.thn h0 h1 hc).rng, made_then hb.rng hc.rng]
  refine made_val hc.rng (fun i => ?_) k
  rw [made_iff (ha.thn h0 h1 hb).rng, made_iff hb.rng, made_then ha.rng hb.rng]
theorem dF_left : thenF a (eitherF b c) = eitherF (thenF a b) (thenF a c) := by
  refine FOk.ext h0 h1 (ha.thn h0 h1 (hb.either h0 h1 hc)) ((ha.thn h0 h1 hb).either h0 h1 (ha.thn h0 h1 hc)) fun x hx k => ?_
  rw [made_then ha.rng (hb.either h0 h1 hc).rng, made_either hb.rng hc.rng (hb.lens h0 h1 hc), made_either (ha.thn h0 h1 hb).rng (ha.thn h0 h1 hc).rng ((ha.thn h0 h1 hb).lens h0 h1 (ha.thn h0 h1 hc)), made_then ha.rng hb.rng, made_then ha.rng hc.rng]
theorem dF_right : thenF (eitherF a b) c = eitherF (thenF a c) (thenF b c) := by
  refine FOk.ext h0 h1 ((ha.either h0 h1 hb).thn h0 h1 hc) ((ha.thn h0 h1 hc).either h0 h1 (hb.thn h0 h1 hc)) fun x hx k => ?_
  rw [made_then (ha.either h0 h1 hb).rng hc.rng, made_either (ha.thn h0 h1 hc).rng (hb.thn h0 h1 hc).rng ((ha.thn h0 h1 hc).lens h0 h1 (hb.thn h0 h1 hc)), made_then ha.rng hc.rng, made_then hb.rng hc.rng, ← made_or (madeM_InU ha.rng x) (madeM_InU hb.rng x)]
  refine made_val hc.rng (fun i => ?_) k
  rw [made_iff (ha.either h0 h1 hb).rng, made_either ha.rng hb.rng (ha.lens h0 h1 hb), has_or (madeM_InU ha.rng x) (madeM_InU hb.rng x), Bool.or_eq_true, made_iff ha.rng, made_iff hb.rng]
end
theorem eF_comm {n : Int} (h0 : 0 ≤ n) (h1 : n ≤ 64) {a b : TFacts} (ha : FOk n a) (hb : FOk n b) : eitherF a b = eitherF b a := by
  refine FOk.ext h0 h1 (ha.either h0 h1 hb) (hb.either h0 h1 ha) fun x hx k => ?_
  rw [made_either ha.rng hb.rng (ha.lens h0 h1 hb), made_either hb.rng ha.rng (hb.lens h0 h1 ha), or_comm]
theorem eF_self {n : Int} (h0 : 0 ≤ n) (h1 : n ≤ 64) {a : TFacts} (ha : FOk n a) : eitherF a a = a := by
  refine FOk.ext h0 h1 (ha.either h0 h1 ha) ha fun x hx k => ?_
  rw [made_either ha.rng ha.rng rfl, or_self]
end Go.RM.Tryz
namespace Go.RM.Tryz
open Go.RM
set_option linter.unusedVariables false
set_option linter.unusedSimpArgs false
structure Semi (s : TSpace) where
  α : Type
  mw : α → TWeight
  ok : α → Prop
  E : α → α → α
  T : α → α → α
  nz : ∀ x, (mw x).Zero = false
  inj : ∀ x y, mw x = mw y → x = y
  view : ∀ w, isW1 s w = true → Rng1 w → w = zeroW ∨ ∃ x, ok x ∧ w = mw x
  either : ∀ x y, ok x → ok y → eitherW1 s (mw x) (mw y) = mw (E x y)
  thn : ∀ x y, ok x → ok y → thenW1 s (mw x) (mw y) = mw (T x y)
  okE : ∀ x y, ok x → ok y → ok (E x y)
  okT : ∀ x y, ok x → ok y → ok (T x y)
  comm : ∀ x y, ok x → ok y → E x y = E y x
  self : ∀ x, ok x → E x x = x
  assE : ∀ x y z, ok x → ok y → ok z → E (E x y) z = E x (E y z)
  assT : ∀ x y z, ok x → ok y → ok z → T (T x y) z = T x (T y z)
  dl : ∀ x y z, ok x → ok y → ok z → T x (E y z) = E (T x y) (T x z)
  dr : ∀ x y z, ok x → ok y → ok z → T (E x y) z = E (T x z) (T y z)
  rk : α → Nat
  hi : Nat
  rk_le : ∀ x, ok x → rk x ≤ hi
  rk_lt : ∀ x y, ok x → ok y → E x y ≠ x → rk x < rk (E x y)
def height1 (s : TSpace) : Int := if s.Tag = 2 then s.Dim + 1 else if s.Tag = 3 then s.Dim * (s.Dim + 1) + 1 else if s.Tag = 4 then s.Dim * (s.Dim + 2) + 1 else 1
theorem semi1 {s : TSpace} (hs : spaceOk1 s = true) (h : s.Tag = 1) : ∃ M : Semi s, (M.hi : Int) + 1 = height1 s := by
  refine ⟨{ α := Unit, mw := fun _ => noneW, ok := fun _ => True, E := fun _ _ => (), T := fun _ _ => (), nz := fun _ => rfl, inj := fun x y e => ?inj, view := fun w hw hr => ?_, either := fun _ _ _ _ => ?_, thn := fun _ _ _ _ => ?_, okE := fun _ _ _ _ => trivial, okT := fun _ _ _ _ => trivial, comm := fun _ _ _ _ => rfl, self := fun _ _ => rfl, assE := fun _ _ _ _ _ _ => rfl, assT := fun _ _ _ _ _ _ => rfl, dl := fun _ _ _ _ _ _ => rfl, dr := fun _ _ _ _ _ _ => rfl, rk := fun _ => 0, hi := 0, rk_le := fun _ _ => Nat.le_refl _, rk_lt := fun _ _ _ _ hne => absurd rfl hne }, ?_⟩
  case inj => rfl
  · rcases isW1_cases hs hw with k | k | k | k | k
    · exact .inl k
    · exact .inr ⟨(), trivial, k.2⟩
    · omega
    · omega
    · omega
  · simp [eitherW1, noneW, h]
  · simp [thenW1, noneW, h]
  · simp [height1, h]
theorem semi2 {s : TSpace} (hs : spaceOk1 s = true) (h : s.Tag = 2) : ∃ M : Semi s, (M.hi : Int) + 1 = height1 s := by
  have hd : 0 ≤ s.Dim := by rcases space1_cases hs with k | k | k | k <;> omega
  refine ⟨{ α := Int, mw := fun c => ⟨false, c, ⟨0, []⟩, [], []⟩, ok := fun c => 0 ≤ c ∧ c ≤ s.Dim, E := fun x y => if y < x then y else x, T := fun x y => if s.Dim < x + y then s.Dim else x + y, nz := fun _ => rfl, inj := fun x y e => ?inj, view := fun w hw hr => ?_, either := fun _ _ _ _ => ?_, thn := fun _ _ _ _ => ?_, okE := fun x y hx hy => ?_, okT := fun x y hx hy => ?_, comm := fun x y hx hy => ?_, self := fun x hx => ?_, assE := fun x y z hx hy hz => ?_, assT := fun x y z hx hy hz => ?_, dl := fun x y z hx hy hz => ?_, dr := fun x y z hx hy hz => ?_, rk := fun x => (s.Dim - x).toNat, hi := s.Dim.toNat, rk_le := fun x hx => ?_, rk_lt := fun x y hx hy hne => ?_ }, ?_⟩
  case inj => injection e
  · rcases isW1_cases hs hw with k | k | k | k | k
    · exact .inl k
    · omega
    · exact .inr ⟨w.Cost, k.2.2, k.2.1⟩
    · omega
    · omega
  · simp [eitherW1, h]
  · simp [thenW1, h]
  · try dsimp only at *
    split <;> omega
  · try dsimp only at *
    split <;> omega
  · try dsimp only at *
    (repeat' split) <;> omega
  · try dsimp only at *
    split <;> omega
  · try dsimp only at *
    (repeat' split) <;> omega
  · try dsimp only at *
    (repeat' split) <;> omega
  · try dsimp only at *
    (repeat' split) <;> omega
  · try dsimp only at *
    (repeat' split) <;> omega
  · try dsimp only at *
    omega
  · try dsimp only at *
    split at hne
    · rename_i hlt
      rw [if_pos hlt]; omega
    · exact absurd rfl hne
  · simp only [height1, h, if_true]; omega
theorem countP_lt {α : Type} {p q : α → Bool} : ∀ {l : List α}, (∀ x ∈ l, p x = true → q x = true) → (∃ y ∈ l, q y = true ∧ p y = false) → l.countP p < l.countP q
  | [], _, ⟨y, hy, _⟩ => by simp at hy
  | x :: l, h, ⟨y, hy, hq, hp⟩ => by
    have hle : l.countP p ≤ l.countP q := List.countP_mono_left fun z hz hpz => h z (List.mem_cons_of_mem _ hz) hpz
    simp only [List.countP_cons]
    rcases List.mem_cons.1 hy with rfl | hy
    · simp [hq, hp]; omega
    · have ih := countP_lt (l := l) (fun z hz => h z (List.mem_cons_of_mem _ hz)) ⟨y, hy, hq, hp⟩
      have hx := h x List.mem_cons_self
      cases hpx : p x with
      | false => simp; split <;> omega
      | true => simp [hx hpx]; omega
def fPt (d j : Nat) : Int := if j < d then 2 ^ j else 0
def fPairs (d : Nat) : List (Nat × Nat) := (List.range (d + 1)).flatMap fun j => (List.range d).map fun k => (j, k)
theorem fPairs_len (d : Nat) : (fPairs d).length = (d + 1) * d := by
  unfold fPairs
  rw [List.length_flatMap]
  simp only [List.length_map, List.length_range]
  rw [show (List.range (d + 1)).map (fun _ => d) = List.replicate (d + 1) d by simp [List.map_const']]
  rw [List.sum_replicate_nat]
def fRank (d : Nat) (F : TFacts) : Nat := (fPairs d).countP fun p => hasI (madeM F (fPt d p.1)) p.2
theorem fRank_lt {n : Int} {d : Nat} (hn : n = d) (h0 : 0 ≤ n) (h1 : n ≤ 64) {a b : TFacts} (ha : FOk n a) (hb : FOk n b) (hne : eitherF a b ≠ a) : fRank d a < fRank d (eitherF a b) := by
  have he := ha.either h0 h1 hb
  have hup : ∀ x k, MadeP a x k → MadeP (eitherF a b) x k := fun x k hk => (made_either ha.rng hb.rng (ha.lens h0 h1 hb) x k).2 (.inl hk)
  refine countP_lt (fun p hp hk => (made_iff he.rng _ _).2 (hup _ _ ((made_iff ha.rng _ _).1 hk))) ?_
  apply Classical.byContradiction
  intro hno
  have hno' : ∀ j k, j ≤ d → k < d → MadeP (eitherF a b) (fPt d j) k → MadeP a (fPt d j) k := fun j k hj hk hm => by
    apply Classical.byContradiction
    intro hc
    refine hno ⟨(j, k), ?_, (made_iff he.rng _ _).2 hm, ?_⟩
    · unfold fPairs
      simp only [List.mem_flatMap, List.mem_range, List.mem_map]
      exact ⟨j, by omega, k, hk, rfl⟩
    · cases hx : hasI (madeM a (fPt d j)) k with
      | false => rfl
      | true => exact absurd ((made_iff ha.rng _ _).1 hx) hc
  refine hne (FOk.ext h0 h1 he ha fun x hx k => ⟨fun hm => ?_, hup x k⟩)
  have hk : k < d := by
    have := madeM_inside he.rng h0 h1 he.ok x ((made_iff he.rng x k).2 hm)
    omega
  have len : (eitherF a b).Rows.length = d := by have := he.len h0 h1; omega
  rcases hm with hg | ⟨j, r, hj, hxj, hr⟩
  · have := hno' d k (Nat.le_refl _) hk (.inl hg)
    rcases this with q | ⟨j, r, hj, hxj, hr⟩
    · exact .inl q
    · simp only [fPt, Nat.lt_irrefl, if_false] at hxj
      rw [has_zero] at hxj; cases hxj
  · have hjd : j < d := by rw [← len]; exact (List.getElem?_eq_some_iff.1 hj).1
    have := hno' j k (by omega) hk (.inr ⟨j, r, hj, by simp only [fPt, hjd, if_true]; rw [has_pow]; simp, hr⟩)
    rcases this with q | ⟨i, r', hi, hxi, hr'⟩
    · exact .inl q
    · simp only [fPt, hjd, if_true] at hxi
      rw [has_pow, decide_eq_true_eq] at hxi
      subst hxi
      exact .inr ⟨j, r', hi, hxj, hr'⟩
theorem semi3 {s : TSpace} (hs : spaceOk1 s = true) (h : s.Tag = 3) : ∃ M : Semi s, (M.hi : Int) + 1 = height1 s := by
  obtain ⟨h0, h1⟩ : 0 ≤ s.Dim ∧ s.Dim ≤ 64 := by rcases space1_cases hs with k | k | k | k <;> omega
  refine ⟨{ α := TFacts, mw := fun F => ⟨false, 0, F, [], []⟩, ok := fun F => FOk s.Dim F, E := eitherF, T := thenF, nz := fun _ => rfl, inj := fun x y e => ?inj, view := fun w hw hr => ?_, either := fun _ _ _ _ => ?_, thn := fun _ _ _ _ => ?_, okE := fun x y hx hy => hx.either h0 h1 hy, okT := fun x y hx hy => hx.thn h0 h1 hy, comm := fun x y hx hy => eF_comm h0 h1 hx hy, self := fun x hx => eF_self h0 h1 hx, assE := fun x y z hx hy hz => eF_assoc h0 h1 hx hy hz, assT := fun x y z hx hy hz => tF_assoc h0 h1 hx hy hz, dl := fun x y z hx hy hz => dF_left h0 h1 hx hy hz, dr := fun x y z hx hy hz => dF_right h0 h1 hx hy hz, rk := fRank s.Dim.toNat, hi := (s.Dim.toNat + 1) * s.Dim.toNat, rk_le := fun x hx => ?_, rk_lt := fun x y hx hy hne => fRank_lt (by omega) h0 h1 hx hy hne }, ?_⟩
  case inj => injection e
  · rcases isW1_cases hs hw with k | k | k | k | k
    · exact .inl k
    · omega
    · omega
    · exact .inr ⟨w.Facts, ⟨hr.facts, k.2.2⟩, k.2.1⟩
    · omega
  · simp [eitherW1, h]
  · simp [thenW1, h]
  · rw [← fPairs_len]; exact List.countP_le_length
  · simp only [height1, h, Int.reduceEq, if_false, if_true]
    obtain ⟨d, hd⟩ : ∃ d : Nat, s.Dim = d := ⟨s.Dim.toNat, by omega⟩
    rw [hd, Int.toNat_natCast, Nat.mul_comm]; simp
theorem semi4 {s : TSpace} (hs : spaceOk1 s = true) (h : s.Tag = 4) : ∃ M : Semi s, (M.hi : Int) + 1 = height1 s := by
  obtain ⟨h0, h1⟩ : 0 ≤ s.Dim ∧ s.Dim ≤ 64 := by rcases space1_cases hs with k | k | k | k <;> omega
  obtain ⟨d, hd⟩ : ∃ d : Nat, s.Dim = d := ⟨s.Dim.toNat, by omega⟩
  have hd64 : d ≤ 64 := by omega
  have up : ∀ {L : List Cl}, (∀ x ∈ L, cLt d x) → ∀ x ∈ L, cLt 64 x := fun hL x hx => cLt_le hd64 (hL x hx)
  have zl : ∀ (F G : List Cl), F.length = d → G.length = d → (List.zipWith cJ F G).length = d := fun F G hF hG => by rw [List.length_zipWith, hF, hG, Nat.min_self]
  refine ⟨{ α := List Cl, mw := fun L => ⟨false, 0, ⟨0, []⟩, L.map decC, []⟩, ok := fun L => L.length = d ∧ ∀ x ∈ L, cLt d x, E := List.zipWith cJ, T := fun F G => G.map (ofC F), nz := fun _ => rfl, inj := fun x y e => ?inj, view := fun w hw hr => ?_, either := fun x y hx hy => ?_, thn := fun x y hx hy => ?_, okE := fun x y hx hy => ⟨zl x y hx.1 hy.1, cLt_zip hx.2 hy.2⟩, okT := fun x y hx hy => ⟨by rw [List.length_map]; exact hy.1, fun z hz => ?_⟩, comm := fun x y hx hy => zip_comm x y, self := fun x hx => zip_self x, assE := fun x y z hx hy hz => zip_assoc x y z, assT := fun x y z hx hy hz => (maps_assoc x y z).symm ▸ rfl, dl := fun x y z hx hy hz => over1 x y z, dr := fun x y z hx hy hz => over2 x y (by rw [hx.1, hy.1]) z, rk := cRanks d, hi := d * (d + 2), rk_le := fun x hx => ?_, rk_lt := fun x y hx hy hne => ?_ }, ?_⟩
  case inj => injection e with _ _ _ e _; exact decs_inj e
  · rcases isW1_cases hs hw with k | k | k | k | k
    · exact .inl k
    · omega
    · omega
    · omega
    · obtain ⟨hl, hp⟩ := (cellsOk_iff h0 h1 hr.cells).1 k.2.2
      obtain ⟨L, hL, hlt⟩ := cells_dec hd (fun c hc => (hr.cells c hc).1) hp
      refine .inr ⟨L, ⟨?_, hlt⟩, ?_⟩
      · have : w.Cells.length = L.length := by rw [hL, List.length_map]
        omega
      · rw [← hL]; exact k.2.1
  · simp only [eitherW1, Bool.false_eq_true, if_false, h, Int.reduceEq, if_true]
    rw [zip_dec (up hx.2) (up hy.2)]
  · simp only [thenW1, Bool.or_self, Bool.false_eq_true, if_false, h, Int.reduceEq, if_true]
    rw [thenC_dec (up hx.2) (up hy.2)]
  · obtain ⟨c, hc, rfl⟩ := List.mem_map.1 hz
    exact cLt_ofC hx.2 c
  · have := cRanks_le d x; rw [hx.1] at this; exact this
  · have hz := zl x y hx.1 hy.1
    have := cRanks_mono (F := x) (G := List.zipWith cJ x y) (by rw [hx.1, hz]) hx.2 (cLt_zip hx.2 hy.2) (by rw [← zip_assoc, zip_self])
    exact this.2 (fun e => hne e.symm)
  · simp only [height1, h, Int.reduceEq, if_false, if_true]
    rw [hd]; simp
theorem semi_of {s : TSpace} (hs : spaceOk1 s = true) : ∃ M : Semi s, (M.hi : Int) + 1 = height1 s := by
  rcases space1_cases hs with k | k | k | k
  · exact semi1 hs k.1
  · exact semi2 hs k.1
  · exact semi3 hs k.1
  · exact semi4 hs k.1
theorem thn_zero1 (s : TSpace) (w : TWeight) : thenW1 s zeroW w = zeroW := by simp [thenW1, zeroW]
section
variable {s : TSpace} (M : Semi s)
theorem Semi.mkz (x : M.α) : eitherW1 s (M.mw x) zeroW = M.mw x := by simp [eitherW1, zeroW, M.nz]
variable {a b c : TWeight} (ha : isW1 s a = true) (ra : Rng1 a) (hb : isW1 s b = true) (rb : Rng1 b) (hc : isW1 s c = true) (rc : Rng1 c)
include M ha ra
theorem e1_self : eitherW1 s a a = a := by
  rcases M.view a ha ra with rfl | ⟨x, hx, rfl⟩
  · exact either_zero1 s _
  · rw [M.either x x hx hx, M.self x hx]
theorem e1_zero : eitherW1 s a zeroW = a := by
  rcases M.view a ha ra with rfl | ⟨x, hx, rfl⟩
  · exact either_zero1 s _
  · exact M.mkz x
include hb rb
theorem e1_comm : eitherW1 s a b = eitherW1 s b a := by
  rcases M.view a ha ra with rfl | ⟨x, hx, rfl⟩
  · rw [either_zero1, e1_zero M hb rb]
  · rcases M.view b hb rb with rfl | ⟨y, hy, rfl⟩
    · rw [M.mkz, either_zero1]
    · rw [M.either x y hx hy, M.either y x hy hx, M.comm x y hx hy]
include hc rc
theorem t1_assoc : thenW1 s (thenW1 s a b) c = thenW1 s a (thenW1 s b c) := by
  rcases M.view a ha ra with rfl | ⟨x, hx, rfl⟩
  · rw [thn_zero1, thn_zero1, thn_zero1]
  · rcases M.view b hb rb with rfl | ⟨y, hy, rfl⟩
    · rw [then_zero1, thn_zero1, then_zero1]
    · rcases M.view c hc rc with rfl | ⟨z, hz, rfl⟩
      · rw [then_zero1, then_zero1, then_zero1]
      · rw [M.thn x y hx hy, M.thn y z hy hz, M.thn _ z (M.okT x y hx hy) hz, M.thn x _ hx (M.okT y z hy hz), M.assT x y z hx hy hz]
theorem d1_left : thenW1 s a (eitherW1 s b c) = eitherW1 s (thenW1 s a b) (thenW1 s a c) := by
  rcases M.view a ha ra with rfl | ⟨x, hx, rfl⟩
  · rw [thn_zero1, thn_zero1, thn_zero1, either_zero1]
  · rcases M.view b hb rb with rfl | ⟨y, hy, rfl⟩
    · rw [either_zero1, then_zero1, either_zero1]
    · rcases M.view c hc rc with rfl | ⟨z, hz, rfl⟩
      · rw [M.mkz, then_zero1, M.thn x y hx hy, M.mkz]
      · rw [M.either y z hy hz, M.thn x _ hx (M.okE y z hy hz), M.thn x y hx hy, M.thn x z hx hz, M.either _ _ (M.okT x y hx hy) (M.okT x z hx hz), M.dl x y z hx hy hz]
theorem d1_right : thenW1 s (eitherW1 s a b) c = eitherW1 s (thenW1 s a c) (thenW1 s b c) := by
  rcases M.view c hc rc with rfl | ⟨z, hz, rfl⟩
  · rw [then_zero1, then_zero1, then_zero1, either_zero1]
  · rcases M.view a ha ra with rfl | ⟨x, hx, rfl⟩
    · rw [either_zero1, thn_zero1, either_zero1]
    · rcases M.view b hb rb with rfl | ⟨y, hy, rfl⟩
      · rw [M.mkz, thn_zero1, M.thn x z hx hz, M.mkz]
      · rw [M.either x y hx hy, M.thn _ z (M.okE x y hx hy) hz, M.thn x z hx hz, M.thn y z hy hz, M.either _ _ (M.okT x z hx hz) (M.okT y z hy hz), M.dr x y z hx hy hz]
end
end Go.RM.Tryz
namespace Go.RM.Tryz
open Go.RM
set_option linter.unusedVariables false
set_option linter.unusedSimpArgs false
set_option linter.unusedSectionVars false
theorem mk_pair {a b c d : TWeight} (h1 : a = c) (h2 : b = d) : (⟨false, 0, ⟨0, []⟩, [], [a, b]⟩ : TWeight) = ⟨false, 0, ⟨0, []⟩, [], [c, d]⟩ := by rw [h1, h2]
structure WOk (s : TSpace) (w : TWeight) : Prop where
  is : isW s w = true
  rng : Rng w
theorem WOk.one {s : TSpace} (h5 : s.Tag ≠ 5) {w : TWeight} (h : WOk s w) : isW1 s w = true ∧ Rng1 w := ⟨by rw [← isW_ne h5]; exact h.is, h.rng.1⟩
theorem WOk.pair {s : TSpace} (h5 : s.Tag = 5) {w : TWeight} (h : WOk s w) : ∃ x y, w = ⟨false, 0, ⟨0, []⟩, [], [x, y]⟩ ∧ (isW1 (rdl s.Parts 0) x = true ∧ Rng1 x) ∧ (isW1 (rdl s.Parts 1) y = true ∧ Rng1 y) := by
  obtain ⟨x, y, rfl, hx, hy⟩ := isW_pair h5 h.is
  exact ⟨x, y, rfl, ⟨hx, h.rng.2 x (.head _)⟩, ⟨hy, h.rng.2 y (.tail _ (.head _))⟩⟩
theorem one_of {s : TSpace} (hs : spaceOk s = true) (h5 : s.Tag ≠ 5) : spaceOk1 s = true := by rw [← spaceOk_ne h5]; exact hs
theorem WOk.either {s : TSpace} (hs : spaceOk s = true) {a b : TWeight} (ha : WOk s a) (hb : WOk s b) : WOk s (eitherW s a b) := by
  have := eitherW_ok hs ha.is hb.is ha.rng hb.rng; exact ⟨this.1, this.2⟩
theorem WOk.thn {s : TSpace} (hs : spaceOk s = true) {a b : TWeight} (ha : WOk s a) (hb : WOk s b) : WOk s (thenW s a b) := by
  have := thenW_ok hs ha.is hb.is ha.rng hb.rng; exact ⟨this.1, this.2⟩
theorem WOk.zero {s : TSpace} (hs : spaceOk s = true) : WOk s (zeroS s) := by have := zeroS_ok hs; exact ⟨this.1, this.2⟩
theorem WOk.one_ {s : TSpace} (hs : spaceOk s = true) : WOk s (oneW s) := by have := oneW_ok hs; exact ⟨this.1, this.2⟩
section
variable {s : TSpace} (hs : spaceOk s = true) {a b c : TWeight}
include hs
theorem eW_self (ha : WOk s a) : eitherW s a a = a := by
  by_cases h5 : s.Tag = 5
  · obtain ⟨p0, p1, _⟩ := space_p0 hs h5
    obtain ⟨M0, -⟩ := semi_of p0
    obtain ⟨M1, -⟩ := semi_of p1
    obtain ⟨x, y, rfl, hx, hy⟩ := ha.pair h5
    simp only [eitherW, if_pos h5]
    exact mk_pair (e1_self M0 hx.1 hx.2) (e1_self M1 hy.1 hy.2)
  · obtain ⟨M, -⟩ := semi_of (one_of hs h5)
    rw [eitherW_ne h5]
    exact e1_self M (ha.one h5).1 (ha.one h5).2
theorem zero_tW (ha : WOk s a) : thenW s (zeroS s) a = zeroS s := by
  by_cases h5 : s.Tag = 5
  · obtain ⟨x, y, rfl, hx, hy⟩ := ha.pair h5
    simp only [thenW, zeroS, if_pos h5]
    exact mk_pair (thn_zero1 _ _) (thn_zero1 _ _)
  · rw [thenW_ne h5, zeroS, if_neg h5]
    exact thn_zero1 _ _
theorem eW_comm (ha : WOk s a) (hb : WOk s b) : eitherW s a b = eitherW s b a := by
  by_cases h5 : s.Tag = 5
  · obtain ⟨p0, p1, _⟩ := space_p0 hs h5
    obtain ⟨M0, -⟩ := semi_of p0
    obtain ⟨M1, -⟩ := semi_of p1
    obtain ⟨x, y, rfl, hx, hy⟩ := ha.pair h5
    obtain ⟨z, w, rfl, hz, hw⟩ := hb.pair h5
    simp only [eitherW, if_pos h5]
    exact mk_pair (e1_comm M0 hx.1 hx.2 hz.1 hz.2) (e1_comm M1 hy.1 hy.2 hw.1 hw.2)
  · obtain ⟨M, -⟩ := semi_of (one_of hs h5)
    rw [eitherW_ne h5, eitherW_ne h5]
    exact e1_comm M (ha.one h5).1 (ha.one h5).2 (hb.one h5).1 (hb.one h5).2
theorem tW_assoc (ha : WOk s a) (hb : WOk s b) (hc : WOk s c) : thenW s (thenW s a b) c = thenW s a (thenW s b c) := by
  by_cases h5 : s.Tag = 5
  · obtain ⟨p0, p1, _⟩ := space_p0 hs h5
    obtain ⟨M0, -⟩ := semi_of p0
    obtain ⟨M1, -⟩ := semi_of p1
    obtain ⟨x, y, rfl, hx, hy⟩ := ha.pair h5
    obtain ⟨z, w, rfl, hz, hw⟩ := hb.pair h5
    obtain ⟨u, v, rfl, hu, hv⟩ := hc.pair h5
    simp only [thenW, if_pos h5]
    exact mk_pair (t1_assoc M0 hx.1 hx.2 hz.1 hz.2 hu.1 hu.2) (t1_assoc M1 hy.1 hy.2 hw.1 hw.2 hv.1 hv.2)
  · obtain ⟨M, -⟩ := semi_of (one_of hs h5)
    simp only [thenW_ne h5]
    exact t1_assoc M (ha.one h5).1 (ha.one h5).2 (hb.one h5).1 (hb.one h5).2 (hc.one h5).1 (hc.one h5).2
theorem dW_left (ha : WOk s a) (hb : WOk s b) (hc : WOk s c) : thenW s a (eitherW s b c) = eitherW s (thenW s a b) (thenW s a c) := by
  by_cases h5 : s.Tag = 5
  · obtain ⟨p0, p1, _⟩ := space_p0 hs h5
    obtain ⟨M0, -⟩ := semi_of p0
    obtain ⟨M1, -⟩ := semi_of p1
    obtain ⟨x, y, rfl, hx, hy⟩ := ha.pair h5
    obtain ⟨z, w, rfl, hz, hw⟩ := hb.pair h5
    obtain ⟨u, v, rfl, hu, hv⟩ := hc.pair h5
    simp only [thenW, eitherW, if_pos h5]
    exact mk_pair (d1_left M0 hx.1 hx.2 hz.1 hz.2 hu.1 hu.2) (d1_left M1 hy.1 hy.2 hw.1 hw.2 hv.1 hv.2)
  · obtain ⟨M, -⟩ := semi_of (one_of hs h5)
    simp only [thenW_ne h5, eitherW_ne h5]
    exact d1_left M (ha.one h5).1 (ha.one h5).2 (hb.one h5).1 (hb.one h5).2 (hc.one h5).1 (hc.one h5).2
theorem dW_right (ha : WOk s a) (hb : WOk s b) (hc : WOk s c) : thenW s (eitherW s a b) c = eitherW s (thenW s a c) (thenW s b c) := by
  by_cases h5 : s.Tag = 5
  · obtain ⟨p0, p1, _⟩ := space_p0 hs h5
    obtain ⟨M0, -⟩ := semi_of p0
    obtain ⟨M1, -⟩ := semi_of p1
    obtain ⟨x, y, rfl, hx, hy⟩ := ha.pair h5
    obtain ⟨z, w, rfl, hz, hw⟩ := hb.pair h5
    obtain ⟨u, v, rfl, hu, hv⟩ := hc.pair h5
    simp only [thenW, eitherW, if_pos h5]
    exact mk_pair (d1_right M0 hx.1 hx.2 hz.1 hz.2 hu.1 hu.2) (d1_right M1 hy.1 hy.2 hw.1 hw.2 hv.1 hv.2)
  · obtain ⟨M, -⟩ := semi_of (one_of hs h5)
    simp only [thenW_ne h5, eitherW_ne h5]
    exact d1_right M (ha.one h5).1 (ha.one h5).2 (hb.one h5).1 (hb.one h5).2 (hc.one h5).1 (hc.one h5).2
end
def combW (s : TSpace) (l : List TWeight) : TWeight := foldG (fun _ x w => eitherW s w x) l 0 (zeroS s)
end Go.RM.Tryz
namespace Go.RM.Tryz
open Go.RM
set_option linter.unusedVariables false
set_option linter.unusedSimpArgs false
theorem rdl0 {α : Type} [Inhabited α] (x : α) (l : List α) : rdl (x :: l) 0 = x := rfl
theorem rdl1 {α : Type} [Inhabited α] (x y : α) (l : List α) : rdl (x :: y :: l) 1 = y := rfl
theorem cost_checks.two {d a b : Int} (hd : 0 ≤ d) (h1 : d ≤ 1048576) (ha : 0 ≤ a ∧ a ≤ d) (hb : 0 ≤ b ∧ b ≤ d) : cost_checks.f d [a, b] 0 := by
  unfold cost_checks.f
  rw [if_neg (by simp; omega)]
  have e0 : cost_checks.b1 d [a, b] 0 (.next 1) := by
    unfold cost_checks.b1
    rw [if_pos (by simp)]
    refine ⟨⟨by decide, by simp⟩, ?_⟩
    rw [rdl0, if_neg (by simp; omega)]
    rfl
  have e1 : cost_checks.b1 d [a, b] 1 (.next 2) := by
    unfold cost_checks.b1
    rw [if_pos (by simp)]
    refine ⟨⟨by decide, by simp⟩, ?_⟩
    rw [rdl1, if_neg (by simp; omega)]
    rfl
  have e2 : cost_checks.b1 d [a, b] 2 (.exit ()) := by
    unfold cost_checks.b1
    rw [if_neg (by simp)]
  exact ⟨_, .next e0 (.next e1 (.exit e2)), rfl⟩
theorem cost_Least.two {d a b : Int} (hd : 0 ≤ d) (h1 : d ≤ 1048576) (ha : 0 ≤ a ∧ a ≤ d) (hb : 0 ≤ b ∧ b ≤ d) : cost_Least.f d [a, b] (if b < a then b else a, 0) := by
  refine ⟨_, cost_checks.two hd h1 ha hb, ?_⟩
  rw [if_pos rfl]
  have e0 : cost_Least.b1 [a, b] (-1, 0) (.next (a, 1)) := by
    unfold cost_Least.b1
    simp only
    rw [if_pos (by simp)]
    refine ⟨⟨by decide, by simp⟩, ?_⟩
    rw [if_pos (by simp), rdl0]
    rfl
  have e1 : cost_Least.b1 [a, b] (a, 1) (.next (if b < a then b else a, 2)) := by
    unfold cost_Least.b1
    simp only
    rw [if_pos (by simp)]
    refine ⟨⟨by decide, by simp⟩, ?_⟩
    rw [rdl1]
    by_cases h : b < a
    · rw [if_pos (by simp; omega), if_pos h]; rfl
    · rw [if_neg (by simp; omega), if_neg h]; rfl
  have e2 : ∀ c, cost_Least.b1 [a, b] (c, 2) (.exit c) := by
    intro c
    unfold cost_Least.b1
    simp
  exact ⟨_, .next e0 (.next e1 (.exit (e2 _))), rfl⟩
theorem cost_Sum.two {d a b : Int} (hd : 0 ≤ d) (h1 : d ≤ 1048576) (ha : 0 ≤ a ∧ a ≤ d) (hb : 0 ≤ b ∧ b ≤ d) : cost_Sum.f d [a, b] (if d < a + b then d else a + b, 0) := by
  refine ⟨_, cost_checks.two hd h1 ha hb, ?_⟩
  rw [if_pos rfl]
  have e0 : cost_Sum.b1 d [a, b] (0, 0) (.next (a, 1)) := by
    unfold cost_Sum.b1
    simp only
    rw [if_pos (by simp)]
    refine ⟨⟨by decide, by simp⟩, ?_⟩
    rw [rdl0, if_neg (by omega), wrap64 (by omega) (by omega), Int.zero_add, if_neg (by omega)]
    rfl
  have e1 : cost_Sum.b1 d [a, b] (a, 1) (.next (if d < a + b then d else a + b, 2)) := by
    unfold cost_Sum.b1
    simp only
    rw [if_pos (by simp)]
    refine ⟨⟨by decide, by simp⟩, ?_⟩
    rw [rdl1, if_neg (by omega), wrap64 (i := a + b) (by omega) (by omega)]
    rfl
  have e2 : ∀ c, cost_Sum.b1 d [a, b] (c, 2) (.exit c) := by
    intro c
    unfold cost_Sum.b1
    simp
  exact ⟨_, .next e0 (.next e1 (.exit (e2 _))), rfl⟩
theorem facts_checked.two {n : Int} (h0 : 0 ≤ n) (h1 : n ≤ 64) {a b : TFacts} (ha : FOk n a) (hb : FOk n b) : facts_checked.f n [a, b] 0 := by
  have la := ha.len h0 h1
  have lb := hb.len h0 h1
  have ca := facts_Check.ok h0 h1 (F := a) (by omega)
  have cb := facts_Check.ok h0 h1 (F := b) (by omega)
  rw [if_pos ha.ok] at ca
  rw [if_pos hb.ok] at cb
  have e0 : facts_checked.b1 n [a, b] 0 (.next 1) := by
    unfold facts_checked.b1
    rw [if_pos (by simp)]
    refine ⟨⟨by decide, by simp⟩, 0, by rw [rdl0]; exact ca, ?_⟩
    rw [if_pos rfl]
    rfl
  have e1 : facts_checked.b1 n [a, b] 1 (.next 2) := by
    unfold facts_checked.b1
    rw [if_pos (by simp)]
    refine ⟨⟨by decide, by simp⟩, 0, by rw [rdl1]; exact cb, ?_⟩
    rw [if_pos rfl]
    rfl
  have e2 : facts_checked.b1 n [a, b] 2 (.exit ()) := by
    unfold facts_checked.b1
    rw [if_neg (by simp)]
  exact ⟨_, .next e0 (.next e1 (.exit e2)), rfl⟩
theorem facts_Combine.ok {n : Int} (h0 : 0 ≤ n) (h1 : n ≤ 64) {a b : TFacts} (ha : FOk n a) (hb : FOk n b) : facts_Combine.f n a b (eitherF a b, 0) := by
  have la := ha.len h0 h1
  have lb := hb.len h0 h1
  refine ⟨_, facts_checked.two h0 h1 ha hb, ?_⟩
  rw [if_pos rfl]
  refine ⟨⟨h0, by unfold Fits; omega⟩, ?_⟩
  have hr : ((List.replicate (Int.toNat n) (0 : Int)).length : Int) = n := by simp; omega
  have key := fillLoop (n := n) (b := facts_Combine.b1 n a b) (0 : Int) (fun i _ => bitOp .or .u64 (rdl a.Rows i) (rdl b.Rows i)) h0 (fun i l i0 i1 hl => by
    unfold facts_Combine.b1
    rw [hr]
    simp only [i1, if_true]
    rw [wrap64 (by omega) (by omega)]
    exact ⟨⟨i0, by omega⟩, ⟨i0, by omega⟩, ⟨i0, by omega⟩, rfl⟩) (fun l hl => by
    unfold facts_Combine.b1
    rw [hr]
    simp)
  refine ⟨_, key, ?_⟩
  have e : (upto n.toNat).map (fun j => bitOp .or .u64 (rdl a.Rows j) (rdl b.Rows j)) = List.zipWith (bitOp .or .u64) a.Rows b.Rows := by
    have := upto_zip (bitOp .or .u64) (l := a.Rows) (m := b.Rows) (by omega)
    rw [show a.Rows.length = n.toNat by omega] at this
    exact this
  show ∃ t, facts_canon.f (TFacts.mk (bitOp .or .u64 a.Gen b.Gen) _) t ∧ _
  rw [e]
  exact ⟨_, facts_canon.ok (by simp; omega), rfl⟩
theorem makes_fold {x : Int} (rows : List Int) (hr : ∀ r ∈ rows, InU r) (k : Nat) : ∀ (l : List Nat) (o : Int), InU o → (∀ i ∈ l, i < rows.length) →
    InU (l.foldl (fun o i => bitOp .or .u64 o (rows.getD i 0)) o) ∧ (hasI (l.foldl (fun o i => bitOp .or .u64 o (rows.getD i 0)) o) k = true ↔ hasI o k = true ∨ ∃ i ∈ l, ∃ r, rows[i]? = some r ∧ hasI r k = true)
  | [], o, ho, _ => ⟨ho, by simp⟩
  | i :: l, o, ho, hl => by
    have hi := hl i List.mem_cons_self
    have hg : rows.getD i 0 = rows[i] := by rw [List.getD_eq_getElem?_getD, List.getElem?_eq_getElem hi]; rfl
    have hu : InU (rows.getD i 0) := by rw [hg]; exact hr _ (List.getElem_mem hi)
    obtain ⟨h1, h2⟩ := makes_fold (x := x) rows hr k l (bitOp .or .u64 o (rows.getD i 0)) (or_InU _ _) (fun j hj => hl j (List.mem_cons_of_mem _ hj))
    refine ⟨h1, ?_⟩
    rw [List.foldl_cons, h2, has_or ho hu, Bool.or_eq_true]
    constructor
    · rintro ((h | h) | ⟨j, hj, r, hjr, hk⟩)
      · exact .inl h
      · exact .inr ⟨i, List.mem_cons_self, rows[i], List.getElem?_eq_getElem hi, by rw [← hg]; exact h⟩
      · exact .inr ⟨j, List.mem_cons_of_mem _ hj, r, hjr, hk⟩
    · rintro (h | ⟨j, hj, r, hjr, hk⟩)
      · exact .inl (.inl h)
      · rcases List.mem_cons.1 hj with rfl | hj
        · rw [List.getElem?_eq_getElem hi] at hjr
          cases hjr
          exact .inl (.inr (by rw [hg]; exact hk))
        · exact .inr ⟨j, hj, r, hjr, hk⟩
theorem makes_made {F : TFacts} (h : RngF F) {x : Int} (hx : InU x) (hin : ∀ i : Nat, hasI x i = true → i < F.Rows.length) : makesI F.Gen F.Rows x = madeM F x := by
  have hl : ∀ i ∈ (List.range 64).filter (fun i => x.toNat.testBit i), i < F.Rows.length := fun i hi => hin i (List.mem_filter.1 hi).2
  have mk := fun k => makes_fold (x := x) F.Rows h.2 k _ F.Gen h.1 hl
  refine made_ext (mk 0).1 (madeM_InU h x) fun k => ?_
  rw [made_iff h]
  refine (mk k).2.trans ?_
  unfold MadeP
  constructor
  · rintro (q | ⟨i, hi, r, hir, hk⟩)
    · exact .inl q
    · exact .inr ⟨i, r, hir, (List.mem_filter.1 hi).2, hk⟩
  · rintro (q | ⟨i, r, hir, hxi, hk⟩)
    · exact .inl q
    · exact .inr ⟨i, List.mem_filter.2 ⟨List.mem_range.2 (hi64 hx hxi), hxi⟩, r, hir, hk⟩
theorem facts_makes.ok {F : TFacts} (h : RngF F) {x : Int} (hx : InU x) (hin : ∀ i : Nat, hasI x i = true → i < F.Rows.length) : facts_makes.f F x (madeM F x) :=
  ⟨⟨h.1, hx, h.2, fun i _ hb => hin i hb⟩, (makes_made h hx hin).symm⟩
theorem facts_Extend.ok {n : Int} (h0 : 0 ≤ n) (h1 : n ≤ 64) {a b : TFacts} (ha : FOk n a) (hb : FOk n b) : facts_Extend.f n a b (thenF a b, 0) := by
  have la := ha.len h0 h1
  have lb := hb.len h0 h1
  obtain ⟨_, ga, oa, _⟩ := (factsOk_iff ha.rng h0 h1).1 ha.ok
  refine ⟨_, facts_checked.two h0 h1 ha hb, ?_⟩
  rw [if_pos rfl]
  refine ⟨_, facts_makes.ok hb.rng ha.rng.1 (fun i hi => by have := ga i hi; omega), ⟨h0, by unfold Fits; omega⟩, ?_⟩
  have hr : ((List.replicate (Int.toNat n) (0 : Int)).length : Int) = n := by simp; omega
  have key := fillLoop (n := n) (b := facts_Extend.b1 n a b) (0 : Int) (fun i _ => madeM b (rdl a.Rows i)) h0 (fun i l i0 i1 hl => by
    unfold facts_Extend.b1
    rw [hr]
    simp only [i1, if_true]
    rw [wrap64 (by omega) (by omega)]
    have hm := rdl_mem (l := a.Rows) i0 (by omega)
    exact ⟨⟨i0, by omega⟩, _, facts_makes.ok hb.rng (ha.rng.2 _ hm) (fun j hj => by have := oa _ hm j hj; omega), ⟨i0, by omega⟩, rfl⟩) (fun l hl => by
    unfold facts_Extend.b1
    rw [hr]
    simp)
  refine ⟨_, key, ?_⟩
  have e : (upto n.toNat).map (fun j => madeM b (rdl a.Rows j)) = a.Rows.map (madeM b) := by
    have := map_upto a.Rows (madeM b)
    rw [show a.Rows.length = n.toNat by omega] at this
    exact this
  show ∃ t, facts_canon.f (TFacts.mk (madeM b a.Gen) _) t ∧ _
  rw [e]
  exact ⟨_, facts_canon.ok (by simp; omega), rfl⟩
structure CsOk (n : Int) (l : List TCell) : Prop where
  rng : ∀ c ∈ l, RngC c
  ok : cellsOk n l = true
theorem CsOk.len {n : Int} (h0 : 0 ≤ n) (h1 : n ≤ 64) {l : List TCell} (h : CsOk n l) : (l.length : Int) = n ∧ ∀ c ∈ l, CellP n c := (cellsOk_iff h0 h1 h.rng).1 h.ok
theorem cells_two.ok {n : Int} (h0 : 0 ≤ n) (h1 : n ≤ 64) {a b : List TCell} (ha : CsOk n a) (hb : CsOk n b) : cells_two.f n a b 0 := by
  have la := (ha.len h0 h1).1
  have lb := (hb.len h0 h1).1
  have ca := cells_Check.ok h0 h1 (l := a) (by unfold maxLen; omega)
  have cb := cells_Check.ok h0 h1 (l := b) (by unfold maxLen; omega)
  rw [if_pos ha.ok] at ca
  rw [if_pos hb.ok] at cb
  exact ⟨_, ca, by rw [if_pos rfl]; exact ⟨_, cb, rfl⟩⟩
theorem cells_both.ok {n : Int} {a b : TCell} (ha : CellP n a) (hb : CellP n b) : cells_both.f a b (joinC a b) := by
  unfold cells_both.f joinC manyC
  rcases ha.2 with ⟨ka, va⟩ | ka | ⟨ka, va, fa⟩ <;> rcases hb.2 with ⟨kb, vb⟩ | kb | ⟨kb, vb, fb⟩ <;> simp [ka, kb]
theorem cells_Both.ok {n : Int} (h0 : 0 ≤ n) (h1 : n ≤ 64) {a b : List TCell} (ha : CsOk n a) (hb : CsOk n b) : cells_Both.f n a b (List.zipWith joinC a b, 0) := by
  obtain ⟨la, pa⟩ := ha.len h0 h1
  obtain ⟨lb, pb⟩ := hb.len h0 h1
  refine ⟨_, cells_two.ok h0 h1 ha hb, ?_⟩
  rw [if_pos rfl]
  have key := (countLoop (n := n) (b := cells_Both.b1 n a b) (fun i l => (l, i)) id (fun i acc => .go (acc ++ [joinC (rdl a i) (rdl b i)])) (fun i l => (l.length : Int) = i) (fun i l i0 i1 hi => by
    refine ⟨?_, by simp; omega⟩
    unfold cells_Both.b1
    simp only [i1, if_true]
    exact ⟨⟨i0, by omega⟩, ⟨i0, by omega⟩, _, cells_both.ok (pa _ (rdl_mem i0 (by omega))) (pb _ (rdl_mem i0 (by omega))), by unfold Fits; omega, by rw [wrap64 (by omega) (by omega)]⟩) (fun l hl => by unfold cells_Both.b1; simp) [] h0 rfl).1
  rw [countF_app] at key
  refine ⟨_, key, ?_⟩
  have e : [] ++ (upto n.toNat).map (fun j => joinC (rdl a (0 + j)) (rdl b (0 + j))) = List.zipWith joinC a b := by
    have := upto_zip joinC (l := a) (m := b) (by omega)
    rw [show a.length = n.toNat by omega] at this
    simpa using this
  show (List.zipWith joinC a b, (0 : Int)) = (id ([] ++ _), 0)
  rw [id, e]
theorem shr_natU {m x : Int} (hm : InU m) (h0 : 0 ≤ x) (h1 : x ≤ 64) : shrI .u64 m x = ((m.toNat / 2 ^ x.toNat : Nat) : Int) := by
  unfold shrI
  have hb : IntKind.bits .u64 = 64 := rfl
  rw [hb, Nat.min_eq_left (by omega)]
  have hp : (0 : Int) ≤ 2 ^ x.toNat := Int.le_of_lt (Int.pow_pos (by decide))
  rw [Int.fdiv_eq_ediv_of_nonneg _ hp]
  have h3 : ((2 ^ x.toNat : Nat) : Int) = (2 : Int) ^ x.toNat := by simp
  have h4 : (m.toNat : Int) = m := Int.toNat_of_nonneg hm.1
  rw [← h3]
  conv => lhs; rw [← h4]
  rw [Int.natCast_ediv]
theorem bit_shr {m x : Int} (hm : InU m) (h0 : 0 ≤ x) (h1 : x < 64) : (bitOp .and .u64 (shrI .u64 m x) 1 = 1) ↔ hasI m x.toNat = true := by
  rw [shr_natU hm h0 (by omega), bitOp_and]
  have hle : m.toNat / 2 ^ x.toNat ≤ m.toNat := Nat.div_le_self _ _
  have hI : InU ((m.toNat / 2 ^ x.toNat : Nat) : Int) := ⟨Int.natCast_nonneg _, by have := hm.1; have := hm.2; omega⟩
  rw [BitVec.toNat_and, ofInt_toNat hI]
  have h1' : (BitVec.ofInt 64 1).toNat = 1 := by decide
  rw [h1', Int.toNat_natCast, Nat.and_one_is_mod]
  unfold hasI
  rw [Nat.testBit_eq_decide_div_mod_eq]
  simp only [decide_eq_true_eq]
  omega
theorem cells_Then.inner {n : Int} (h0 : 0 ≤ n) (h1 : n ≤ 64) {a b : List TCell} (ha : CsOk n a) (hb : CsOk n b) {i : Int} (i0 : 0 ≤ i) (i1 : i < b.length) :
    Loop (cells_Then.b2 n a b i) (0, (rdl b i).Kind, (rdl b i).K, 0) (.go ((behindM a (rdl b i)).From, (behindM a (rdl b i)).Kind, (behindM a (rdl b i)).K)) := by
  obtain ⟨la, pa⟩ := ha.len h0 h1
  obtain ⟨lb, pb⟩ := hb.len h0 h1
  have hm := rdl_mem i0 i1
  have hc := pb _ hm
  have uc := hb.rng _ hm
  have hla : a.length ≤ maxLen := by unfold maxLen; omega
  have key := foldGLoop (l := a) (b := cells_Then.b2 n a b i) (fun j (s : TCell) => (s.From, s.Kind, s.K, j)) (fun s => (s.From, s.Kind, s.K)) (behG (rdl b i)) (fun j s => CellP n s ∧ RngC s) (fun j s j0 j1 hs => by
    have hj : j < n := by omega
    have ma := rdl_mem j0 j1
    have hstep : CellP n (behG (rdl b i) j (rdl a j) s) ∧ RngC (behG (rdl b i) j (rdl a j) s) := by
      unfold behG
      split
      · exact ⟨joinC_ok hs.2.1 (ha.rng _ ma).1 hs.1 (pa _ ma), joinC_InU _ _, joinC_K hs.2.2 (ha.rng _ ma).2⟩
      · exact hs
    refine ⟨?_, hstep⟩
    unfold cells_Then.b2 cells_Then.j1
    simp only [hj, if_true]
    refine ⟨j0, ?_⟩
    by_cases hb' : hasI (rdl b i).From j.toNat = true
    · rw [if_pos ((bit_shr uc.1 j0 (by omega)).2 hb')]
      refine ⟨⟨j0, j1⟩, _, cells_both.ok hs.1 (pa _ ma), ?_⟩
      rw [wrap_len hla j0 j1]
      unfold behG
      rw [if_pos hb']
    · rw [if_neg (fun q => hb' ((bit_shr uc.1 j0 (by omega)).1 q)), wrap_len hla j0 j1]
      unfold behG
      rw [if_neg hb']) (fun s _ => by unfold cells_Then.b2; simp [la]) ⟨0, (rdl b i).Kind, (rdl b i).K⟩ ⟨start_ok hc, zero_InU, uc.2⟩
  exact key.1
theorem cells_Then.ok {n : Int} (h0 : 0 ≤ n) (h1 : n ≤ 64) {a b : List TCell} (ha : CsOk n a) (hb : CsOk n b) : cells_Then.f n a b (thenC a b, 0) := by
  obtain ⟨la, pa⟩ := ha.len h0 h1
  obtain ⟨lb, pb⟩ := hb.len h0 h1
  refine ⟨_, cells_two.ok h0 h1 ha hb, ?_⟩
  rw [if_pos rfl]
  have hlb : b.length ≤ maxLen := by unfold maxLen; omega
  have key := (foldLoop (l := b) (b := cells_Then.b1 n a b) (fun i (l : List TCell) => (l, i)) id (fun _ x acc => .go (acc ++ [behindM a x])) (fun i l => (l.length : Int) = i) (fun i l i0 i1 hi => by
    refine ⟨?_, by simp; omega⟩
    unfold cells_Then.b1
    simp only [i1, if_true]
    refine ⟨⟨i0, i1⟩, _, cells_Then.inner h0 h1 ha hb i0 i1, ?_⟩
    exact ⟨by unfold Fits; omega, by rw [wrap_len hlb i0 i1]⟩) (fun l hl => by unfold cells_Then.b1; simp) [] rfl).1
  rw [foldF_map] at key
  exact ⟨_, key, rfl⟩
end Go.RM.Tryz
namespace Go.RM.Tryz
open Go.RM
set_option linter.unusedVariables false
set_option linter.unusedSimpArgs false
def Shal : Nat → TWeight → Prop
  | 0, w => w.Sized ∧ w.Parts = []
  | n + 1, w => w.Sized ∧ ∀ p ∈ w.Parts, Shal n p
theorem Shal.sized : ∀ {n : Nat} {w : TWeight}, Shal n w → w.Sized
  | 0, _, h => h.1
  | _ + 1, _, h => h.1
def smallB : Nat → TWeight → Int → Bool
  | 0, _, _ => false
  | n + 1, w, d => !((decide ((w.Facts.Rows.length : Int) > 70)) || ((decide ((w.Cells.length : Int) > 70)) || ((decide ((w.Parts.length : Int) > 3)) || (decide (d > 3))))) && w.Parts.all (fun p => smallB n p (d + 1))
theorem l05_small.okN : ∀ (n : Nat) (w : TWeight) (d : Int), 0 ≤ d → d + n = 5 → 1 ≤ n → l05_small.fN n w d (smallB n w d) := by
  intro n
  induction n with
  | zero => intro w d h0 h1 h2; omega
  | succ n ih =>
    intro w d h0 h1 h2
    show l05_small.step (l05_small.fN n) w d _
    unfold l05_small.step
    rw [smallB]
    by_cases hc : ((decide ((w.Facts.Rows.length : Int) > 70)) || ((decide ((w.Cells.length : Int) > 70)) || ((decide ((w.Parts.length : Int) > 3)) || (decide (d > 3))))) = true
    · rw [if_pos hc, hc]; rfl
    · rw [if_neg hc, Bool.eq_false_iff.2 hc]
      have hd : d ≤ 3 ∧ w.Parts.length ≤ 3 := by simp at hc; omega
      have key := eachLoop (l := w.Parts) (b := l05_small.b1 (l05_small.fN n) w d) (fun p => smallB n p (d + 1)) false (fun i i0 i1 => by
        unfold l05_small.b1
        simp only [i1, if_true]
        have hw : IntKind.i64.wrap (d + 1) = d + 1 := wrap64 (by omega) (by omega)
        have hs := ih (rdl w.Parts i) (d + 1) (by omega) (by omega) (by omega)
        refine ⟨fun ht => ⟨⟨i0, i1⟩, _, by rw [hw]; exact hs, ?_⟩, fun ht => ⟨⟨i0, i1⟩, _, by rw [hw]; exact hs, ?_⟩⟩
        · rw [if_pos ht, wrap64 (by omega) (by omega)]
        · (rw [if_neg (by rw [ht]; decide)]; trivial)) (fun i i0 i1 => by unfold l05_small.b1; simp only [i1, if_false])
      refine ⟨_, key, ?_⟩
      cases w.Parts.all (fun p => smallB n p (d + 1)) <;> simp [Fin.on]
theorem l05_small.ok (w : TWeight) : l05_small.f w 0 (smallB 5 w 0) := ⟨5, l05_small.okN 5 w 0 (Int.le_refl 0) (by decide) (by decide)⟩
def smallSp : Nat → TSpace → Int → Bool
  | 0, _, _ => false
  | n + 1, s, d => !((decide ((s.Parts.length : Int) > 3)) || (decide (d > 3))) && s.Parts.all (fun p => smallSp n p (d + 1))
theorem l05_smallSpace.okN : ∀ (n : Nat) (w : TSpace) (d : Int), 0 ≤ d → d + n = 5 → 1 ≤ n → l05_smallSpace.fN n w d (smallSp n w d) := by
  intro n
  induction n with
  | zero => intro w d h0 h1 h2; omega
  | succ n ih =>
    intro w d h0 h1 h2
    show l05_smallSpace.step (l05_smallSpace.fN n) w d _
    unfold l05_smallSpace.step
    rw [smallSp]
    by_cases hc : ((decide ((w.Parts.length : Int) > 3)) || (decide (d > 3))) = true
    · rw [if_pos hc, hc]; rfl
    · rw [if_neg hc, Bool.eq_false_iff.2 hc]
      have hd : d ≤ 3 ∧ w.Parts.length ≤ 3 := by simp at hc; omega
      have key := eachLoop (l := w.Parts) (b := l05_smallSpace.b1 (l05_smallSpace.fN n) w d) (fun p => smallSp n p (d + 1)) false (fun i i0 i1 => by
        unfold l05_smallSpace.b1
        simp only [i1, if_true]
        have hw : IntKind.i64.wrap (d + 1) = d + 1 := wrap64 (by omega) (by omega)
        have hs := ih (rdl w.Parts i) (d + 1) (by omega) (by omega) (by omega)
        refine ⟨fun ht => ⟨⟨i0, i1⟩, _, by rw [hw]; exact hs, ?_⟩, fun ht => ⟨⟨i0, i1⟩, _, by rw [hw]; exact hs, ?_⟩⟩
        · rw [if_pos ht, wrap64 (by omega) (by omega)]
        · (rw [if_neg (by rw [ht]; decide)]; trivial)) (fun i i0 i1 => by unfold l05_smallSpace.b1; simp only [i1, if_false])
      refine ⟨_, key, ?_⟩
      cases w.Parts.all (fun p => smallSp n p (d + 1)) <;> simp [Fin.on]
theorem l05_smallSpace.ok (w : TSpace) : l05_smallSpace.f w 0 (smallSp 5 w 0) := ⟨5, l05_smallSpace.okN 5 w 0 (Int.le_refl 0) (by decide) (by decide)⟩
end Go.RM.Tryz
namespace Go.RM.Tryz
open Go.RM
set_option linter.unusedVariables false
set_option linter.unusedSimpArgs false
theorem isW1_at {s : TSpace} {w : TWeight} (hs : spaceOk1 s = true) (h : isW1 s w = true) (hz : ¬ w.Zero = true) :
    (s.Tag = 1 ∧ w = noneW) ∨ (s.Tag = 2 ∧ w = ⟨false, w.Cost, ⟨0, []⟩, [], []⟩ ∧ 0 ≤ w.Cost ∧ w.Cost ≤ s.Dim) ∨ (s.Tag = 3 ∧ w = ⟨false, 0, w.Facts, [], []⟩ ∧ factsOk s.Dim w.Facts = true) ∨ (s.Tag = 4 ∧ w = ⟨false, 0, ⟨0, []⟩, w.Cells, []⟩ ∧ cellsOk s.Dim w.Cells = true) := by
  rcases isW1_cases hs h with k | k
  · rw [k] at hz; exact absurd rfl hz
  · exact k
theorem weight_either.step1 {self : TSpace → TWeight → TWeight → TWeight → Prop} {s : TSpace} {a b : TWeight} (hs : spaceOk1 s = true) (ha : isW1 s a = true) (hb : isW1 s b = true) (ra : Rng1 a) (rb : Rng1 b) : weight_either.step self s a b (eitherW1 s a b) := by
  unfold weight_either.step eitherW1
  by_cases az : a.Zero = true
  · rw [if_pos az, if_pos az]
  · rw [if_neg az, if_neg az]
    by_cases bz : b.Zero = true
    · rw [if_pos bz, if_pos bz]
    · rw [if_neg bz, if_neg bz]
      have va := isW1_at hs ha az
      have vb := isW1_at hs hb bz
      rcases space1_cases hs with q | q | q | q
      · simp only [q.1, Int.reduceEq, if_false]; rfl
      · simp only [q.1, Int.reduceEq, if_true, if_false]
        rcases va with h | h | h | h
        · omega
        · rcases vb with k | k | k | k
          · omega
          · exact ⟨_, cost_Least.two q.2.1 q.2.2 h.2.2 k.2.2, rfl⟩
          · omega
          · omega
        · omega
        · omega
      · simp only [q.1, Int.reduceEq, if_true, if_false]
        rcases va with h | h | h | h
        · omega
        · omega
        · rcases vb with k | k | k | k
          · omega
          · omega
          · exact ⟨_, facts_Combine.ok q.2.1 q.2.2 ⟨ra.facts, h.2.2⟩ ⟨rb.facts, k.2.2⟩, rfl⟩
          · omega
        · omega
      · simp only [q.1, Int.reduceEq, if_true, if_false]
        rcases va with h | h | h | h
        · omega
        · omega
        · omega
        · rcases vb with k | k | k | k
          · omega
          · omega
          · omega
          · exact ⟨_, cells_Both.ok q.2.1 q.2.2 ⟨ra.cells, h.2.2⟩ ⟨rb.cells, k.2.2⟩, rfl⟩
theorem weight_either.ok {s : TSpace} {a b : TWeight} (hs : spaceOk s = true) (ha : isW s a = true) (hb : isW s b = true) (ra : Rng a) (rb : Rng b) : weight_either.f s a b (eitherW s a b) := by
  refine ⟨2, ?_⟩
  by_cases h5 : s.Tag = 5
  · obtain ⟨p0, p1, p2⟩ := space_p0 hs h5
    obtain ⟨x, y, rfl, hx, hy⟩ := isW_pair h5 ha
    obtain ⟨z, w, rfl, hz, hw⟩ := isW_pair h5 hb
    show weight_either.step (weight_either.fN 1) s _ _ _
    unfold weight_either.step eitherW
    simp only [h5, Int.reduceEq, if_true, if_false, Bool.false_eq_true]
    refine ⟨⟨by decide, by omega⟩, ⟨by decide, by simp⟩, ⟨by decide, by simp⟩, _, weight_either.step1 (self := weight_either.fN 0) p0 hx hz (ra.2 x (.head _)) (rb.2 z (.head _)), ⟨by decide, by omega⟩, ⟨by decide, by simp⟩, ⟨by decide, by simp⟩, _, weight_either.step1 (self := weight_either.fN 0) p1 hy hw (ra.2 y (.tail _ (.head _))) (rb.2 w (.tail _ (.head _))), rfl⟩
  · have h1 : spaceOk1 s = true := by rw [← spaceOk_ne h5]; exact hs
    rw [isW_ne h5] at ha hb
    rw [eitherW_ne h5]
    exact weight_either.step1 h1 ha hb ra.1 rb.1
theorem weight_then.step1 {self : TSpace → TWeight → TWeight → TWeight → Prop} {s : TSpace} {a b : TWeight} (hs : spaceOk1 s = true) (ha : isW1 s a = true) (hb : isW1 s b = true) (ra : Rng1 a) (rb : Rng1 b) : weight_then.step self s a b (thenW1 s a b) := by
  unfold weight_then.step thenW1
  by_cases z : (a.Zero || b.Zero) = true
  · rw [if_pos z, if_pos z]; rfl
  · rw [if_neg z, if_neg z]
    rw [Bool.or_eq_true, not_or] at z
    have va := isW1_at hs ha z.1
    have vb := isW1_at hs hb z.2
    rcases space1_cases hs with q | q | q | q
    · simp only [q.1, Int.reduceEq, if_false]; rfl
    · simp only [q.1, Int.reduceEq, if_true, if_false]
      rcases va with h | h | h | h
      · omega
      · rcases vb with k | k | k | k
        · omega
        · exact ⟨_, cost_Sum.two q.2.1 q.2.2 h.2.2 k.2.2, rfl⟩
        · omega
        · omega
      · omega
      · omega
    · simp only [q.1, Int.reduceEq, if_true, if_false]
      rcases va with h | h | h | h
      · omega
      · omega
      · rcases vb with k | k | k | k
        · omega
        · omega
        · exact ⟨_, facts_Extend.ok q.2.1 q.2.2 ⟨ra.facts, h.2.2⟩ ⟨rb.facts, k.2.2⟩, rfl⟩
        · omega
      · omega
    · simp only [q.1, Int.reduceEq, if_true, if_false]
      rcases va with h | h | h | h
      · omega
      · omega
      · omega
      · rcases vb with k | k | k | k
        · omega
        · omega
        · omega
        · exact ⟨_, cells_Then.ok q.2.1 q.2.2 ⟨ra.cells, h.2.2⟩ ⟨rb.cells, k.2.2⟩, rfl⟩
theorem weight_then.ok {s : TSpace} {a b : TWeight} (hs : spaceOk s = true) (ha : isW s a = true) (hb : isW s b = true) (ra : Rng a) (rb : Rng b) : weight_then.f s a b (thenW s a b) := by
  refine ⟨2, ?_⟩
  by_cases h5 : s.Tag = 5
  · obtain ⟨p0, p1, p2⟩ := space_p0 hs h5
    obtain ⟨x, y, rfl, hx, hy⟩ := isW_pair h5 ha
    obtain ⟨z, w, rfl, hz, hw⟩ := isW_pair h5 hb
    show weight_then.step (weight_then.fN 1) s _ _ _
    unfold weight_then.step thenW
    simp only [h5, Int.reduceEq, if_true, if_false, Bool.false_eq_true, Bool.or_self]
    refine ⟨⟨by decide, by omega⟩, ⟨by decide, by simp⟩, ⟨by decide, by simp⟩, _, weight_then.step1 (self := weight_then.fN 0) p0 hx hz (ra.2 x (.head _)) (rb.2 z (.head _)), ⟨by decide, by omega⟩, ⟨by decide, by simp⟩, ⟨by decide, by simp⟩, _, weight_then.step1 (self := weight_then.fN 0) p1 hy hw (ra.2 y (.tail _ (.head _))) (rb.2 w (.tail _ (.head _))), rfl⟩
  · have h1 : spaceOk1 s = true := by rw [← spaceOk_ne h5]; exact hs
    rw [isW_ne h5] at ha hb
    rw [thenW_ne h5]
    exact weight_then.step1 h1 ha hb ra.1 rb.1
theorem isW1_sized {s : TSpace} {w : TWeight} (hs : spaceOk1 s = true) (h : isW1 s w = true) (r : Rng1 w) : w.Sized ∧ w.Parts = [] ∧ w.Facts.Rows.length ≤ 64 ∧ w.Cells.length ≤ 64 := by
  have hp := isW1_parts h
  have key : w.Facts.Rows.length ≤ 64 ∧ w.Cells.length ≤ 64 := by
    rcases isW1_cases hs h with k | k | k | k | k
    · rw [k]; simp [zeroW]
    · rw [k.2]; simp [noneW]
    · rw [k.2.1]; simp
    · rcases space1_cases hs with q | q | q | q
      · omega
      · omega
      · have := ((factsOk_iff r.facts q.2.1 q.2.2).1 k.2.2).1
        have hl : w.Cells = [] := by rw [k.2.1]
        rw [hl]; exact ⟨by omega, by simp⟩
      · omega
    · rcases space1_cases hs with q | q | q | q
      · omega
      · omega
      · omega
      · have := ((cellsOk_iff q.2.1 q.2.2 r.cells).1 k.2.2).1
        have hl : w.Facts = ⟨0, []⟩ := by rw [k.2.1]
        rw [hl]; exact ⟨by simp, by omega⟩
  exact ⟨⟨by omega, by omega, by rw [hp]; simp⟩, hp, key⟩
theorem WOk.flat {s : TSpace} (hs : spaceOk s = true) {w : TWeight} (h : WOk s w) : Flat w := by
  by_cases h5 : s.Tag = 5
  · obtain ⟨p0, p1, _⟩ := space_p0 hs h5
    obtain ⟨x, y, rfl, hx, hy⟩ := h.pair h5
    have ax := isW1_sized p0 hx.1 hx.2
    have ay := isW1_sized p1 hy.1 hy.2
    refine ⟨⟨⟨by simp, by simp, by simp⟩, fun p hp => ?_⟩, fun p hp => ?_⟩
    · simp at hp; rcases hp with rfl | rfl
      · exact ax.1
      · exact ay.1
    · simp at hp; rcases hp with rfl | rfl
      · exact ax.2.1
      · exact ay.2.1
  · have := isW1_sized (one_of hs h5) (h.one h5).1 (h.one h5).2
    exact ⟨⟨this.1, by rw [this.2.1]; simp⟩, by rw [this.2.1]; simp⟩
theorem slices_Clone_uint64.ok {a : List Int} (h : a.length ≤ 17592186044416) : slices_Clone_uint64.f a a := by
  unfold slices_Clone_uint64.f
  by_cases h0 : a.length = 0
  · rw [if_pos h0]
    have := List.eq_nil_of_length_eq_zero h0
    subst this
    intro z k
    split
    · rfl
    · exact ⟨by unfold Fits; omega, rfl⟩
  · rw [if_neg h0]; exact ⟨by unfold Fits; omega, rfl⟩
theorem slices_Clone_Cell.ok {a : List TCell} (h : a.length ≤ 1048576) : slices_Clone_Cell.f a a := by
  unfold slices_Clone_Cell.f
  by_cases h0 : a.length = 0
  · rw [if_pos h0]
    have := List.eq_nil_of_length_eq_zero h0
    subst this
    intro z k
    split
    · rfl
    · exact ⟨by unfold Fits; omega, rfl⟩
  · rw [if_neg h0]; exact ⟨by unfold Fits; omega, rfl⟩
theorem slices_Clone_Weight_o0.ok {a : List TWeight} (h : a.length ≤ 1048576) : slices_Clone_Weight_o0.f a a := by
  unfold slices_Clone_Weight_o0.f
  by_cases h0 : a.length = 0
  · rw [if_pos h0]
    have := List.eq_nil_of_length_eq_zero h0
    subst this
    intro z k
    split
    · rfl
    · exact ⟨by unfold Fits; omega, rfl⟩
  · rw [if_neg h0]; exact ⟨by unfold Fits; omega, rfl⟩
theorem setl_self {α : Type} [Inhabited α] {l : List α} {i : Int} (h0 : 0 ≤ i) (h1 : i < l.length) : setl l i (rdl l i) = l := by
  unfold setl
  have := rdl_get h0 h1
  apply List.ext_getElem?
  intro k
  rw [List.getElem?_set]
  by_cases hk : i.toNat = k
  · subst hk
    rw [if_pos rfl, if_pos (by omega), this]
  · rw [if_neg hk]
theorem weight_copied.step1 {self : TWeight → TWeight → Prop} {w : TWeight} (h1 : w.Facts.Rows.length ≤ 64) (h2 : w.Cells.length ≤ 64) (h3 : w.Parts.length ≤ 2) (h : ∀ p ∈ w.Parts, self p p) : weight_copied.step self w w := by
  refine ⟨_, slices_Clone_uint64.ok (by omega), _, slices_Clone_Cell.ok (by omega), _, slices_Clone_Weight_o0.ok (by omega), ?_⟩
  have hm : w.Parts.length ≤ maxLen := by unfold maxLen; omega
  have key := (foldGLoop (l := w.Parts) (b := weight_copied.b1 self w.Parts) (fun i (l : List TWeight) => (l, i)) id (fun _ _ l => l) (fun _ l => l = w.Parts) (fun i l i0 i1 hl => by
    subst hl
    refine ⟨?_, rfl⟩
    unfold weight_copied.b1
    simp only [i1, if_true]
    exact ⟨⟨i0, i1⟩, _, h _ (rdl_mem i0 i1), ⟨i0, i1⟩, by rw [setl_self i0 i1, wrap_len hm i0 i1]⟩) (fun l hl => by unfold weight_copied.b1; simp) w.Parts rfl)
  have hinv := foldG_inv (g := fun (_ : Int) (_ : TWeight) (l : List TWeight) => l) (fun _ l => l = w.Parts) w.Parts 0 w.Parts (fun _ _ _ _ h => h) rfl
  refine ⟨_, key.1, ?_⟩
  show w = TWeight.mk w.Zero w.Cost ⟨w.Facts.Gen, w.Facts.Rows⟩ w.Cells (id _)
  rw [id, hinv]
  cases w; rfl
theorem weight_copied.ok {s : TSpace} (hs : spaceOk s = true) {w : TWeight} (h : WOk s w) : weight_copied.f w w := by
  refine ⟨2, ?_⟩
  by_cases h5 : s.Tag = 5
  · obtain ⟨p0, p1, _⟩ := space_p0 hs h5
    obtain ⟨x, y, rfl, hx, hy⟩ := h.pair h5
    have ax := isW1_sized p0 hx.1 hx.2
    have ay := isW1_sized p1 hy.1 hy.2
    refine weight_copied.step1 (self := weight_copied.fN 1) (by simp) (by simp) (by simp) (fun p hp => ?_)
    simp at hp
    rcases hp with rfl | rfl
    · exact weight_copied.step1 (self := weight_copied.fN 0) ax.2.2.1 ax.2.2.2 (by rw [ax.2.1]; simp) (by rw [ax.2.1]; simp)
    · exact weight_copied.step1 (self := weight_copied.fN 0) ay.2.2.1 ay.2.2.2 (by rw [ay.2.1]; simp) (by rw [ay.2.1]; simp)
  · have := isW1_sized (one_of hs h5) (h.one h5).1 (h.one h5).2
    exact weight_copied.step1 (self := weight_copied.fN 1) this.2.2.1 this.2.2.2 (by rw [this.2.1]; simp) (by rw [this.2.1]; simp)
structure LOk (l : List TWeight) : Prop where
  len : l.length ≤ maxLen
  sized : ∀ w ∈ l, w.Sized2
  rng : ∀ w ∈ l, Rng w
theorem combW_ok {s : TSpace} (hs : spaceOk s = true) {l : List TWeight} (hl : LOk l) (ha : l.all (isW s) = true) : WOk s (combW s l) := by
  have := foldG_inv (g := fun (_ : Int) x w => eitherW s w x) (fun _ w => WOk s w) l 0 (zeroS s) (fun _ w x hx hw => hw.either hs ⟨List.all_eq_true.1 ha x hx, hl.rng x hx⟩) (WOk.zero hs)
  exact this
theorem extW_ok {s : TSpace} (hs : spaceOk s = true) {l : List TWeight} (hl : LOk l) (ha : l.all (isW s) = true) : WOk s (extW s l) := by
  have := foldG_inv (g := fun (_ : Int) x w => thenW s w x) (fun _ w => WOk s w) l 0 (oneW s) (fun _ w x hx hw => hw.thn hs ⟨List.all_eq_true.1 ha x hx, hl.rng x hx⟩) (WOk.one_ hs)
  exact this
def combR (s : TSpace) (l : List TWeight) : TWeight × Int := if allC s l = 0 then (combW s l, 0) else (noneW, allC s l)
def extR (s : TSpace) (l : List TWeight) : TWeight × Int := if allC s l = 0 then (extW s l, 0) else (noneW, allC s l)
theorem allC_zero {s : TSpace} {l : List TWeight} (h : allC s l = 0) : spaceOk s = true ∧ l.all (isW s) = true := by
  unfold allC at h
  split at h
  · rename_i h1
    split at h
    · rename_i h2; exact ⟨h1, h2⟩
    · cases h
  · cases h
theorem weight_Combine.ok {s : TSpace} {l : List TWeight} (hp : s.Parts.length ≤ maxLen) (hl : LOk l) : weight_Combine.f s l (combR s l) := by
  refine ⟨_, weight_checked.ok hp hl.len hl.sized, ?_⟩
  unfold combR
  by_cases h : allC s l = 0
  · rw [if_pos h, if_pos h]
    obtain ⟨hs, ha⟩ := allC_zero h
    refine ⟨_, weight_zero.ok hs, ?_⟩
    have key := (foldGLoop (l := l) (b := weight_Combine.b1 s l) (fun i (w : TWeight) => (w.Zero, w.Cost, w.Facts.Gen, w.Facts.Rows, w.Cells, w.Parts, i)) (fun w => (w.Zero, w.Cost, w.Facts.Gen, w.Facts.Rows, w.Cells, w.Parts)) (fun _ x w => eitherW s w x) (fun _ w => WOk s w) (fun i w h0 h1 hi => by
      have hm := rdl_mem h0 h1
      have hx : WOk s (rdl l i) := ⟨List.all_eq_true.1 ha _ hm, hl.rng _ hm⟩
      refine ⟨?_, hi.either hs hx⟩
      unfold weight_Combine.b1
      simp only [h1, if_true, TWeight.eta]
      exact ⟨⟨h0, h1⟩, _, weight_either.ok hs hi.is hx.is hi.rng hx.rng, by rw [wrap_len hl.len h0 h1]⟩) (fun w _ => by unfold weight_Combine.b1; simp) (zeroS s) (WOk.zero hs)).1
    refine ⟨_, key, ?_⟩
    simp only [Fin.on, TWeight.eta]
    exact ⟨_, weight_copied.ok hs (combW_ok hs hl ha), rfl⟩
  · rw [if_neg h, if_neg h]; rfl
theorem weight_Extend.ok {s : TSpace} {l : List TWeight} (hp : s.Parts.length ≤ maxLen) (hl : LOk l) : weight_Extend.f s l (extR s l) := by
  refine ⟨_, weight_checked.ok hp hl.len hl.sized, ?_⟩
  unfold extR
  by_cases h : allC s l = 0
  · rw [if_pos h, if_pos h]
    obtain ⟨hs, ha⟩ := allC_zero h
    refine ⟨_, weight_one.ok hs, ?_⟩
    have key := (foldGLoop (l := l) (b := weight_Extend.b1 s l) (fun i (w : TWeight) => (w.Zero, w.Cost, w.Facts.Gen, w.Facts.Rows, w.Cells, w.Parts, i)) (fun w => (w.Zero, w.Cost, w.Facts.Gen, w.Facts.Rows, w.Cells, w.Parts)) (fun _ x w => thenW s w x) (fun _ w => WOk s w) (fun i w h0 h1 hi => by
      have hm := rdl_mem h0 h1
      have hx : WOk s (rdl l i) := ⟨List.all_eq_true.1 ha _ hm, hl.rng _ hm⟩
      refine ⟨?_, hi.thn hs hx⟩
      unfold weight_Extend.b1
      simp only [h1, if_true, TWeight.eta]
      exact ⟨⟨h0, h1⟩, _, weight_then.ok hs hi.is hx.is hi.rng hx.rng, by rw [wrap_len hl.len h0 h1]⟩) (fun w _ => by unfold weight_Extend.b1; simp) (oneW s) (WOk.one_ hs)).1
    refine ⟨_, key, ?_⟩
    simp only [Fin.on, TWeight.eta]
    exact ⟨_, weight_copied.ok hs (extW_ok hs hl ha), rfl⟩
  · rw [if_neg h, if_neg h]; rfl
theorem LOk.two {l : List TWeight} (hl : LOk l) {a b : TWeight} (ha : a ∈ l) (hb : b ∈ l) : LOk [a, b] := ⟨by simp [maxLen], fun w hw => by
  simp at hw; rcases hw with rfl | rfl
  · exact hl.sized _ ha
  · exact hl.sized _ hb, fun w hw => by
  simp at hw; rcases hw with rfl | rfl
  · exact hl.rng _ ha
  · exact hl.rng _ hb⟩
theorem combW_two {s : TSpace} (hs : spaceOk s = true) {a b : TWeight} (ha : WOk s a) : combW s [a, b] = eitherW s a b := by
  show eitherW s (eitherW s (zeroS s) a) b = _
  rw [either_zero hs ha.is]
end Go.RM.Tryz
namespace Go.RM.Tryz
open Go.RM
set_option linter.unusedVariables false
set_option linter.unusedSimpArgs false
theorem TSpace.Fit.lens {s : TSpace} (h : s.Fit) : s.Parts.length ≤ maxLen := by cases h with | mk _ _ _ _ h3 _ => exact h3
def ShalS : Nat → TSpace → Prop
  | 0, s => s.Parts = []
  | n + 1, s => s.Parts.length ≤ 3 ∧ ∀ p ∈ s.Parts, ShalS n p
theorem ShalS.len : ∀ {n : Nat} {s : TSpace}, ShalS n s → s.Parts.length ≤ 3
  | 0, _, h => by rw [show _ = [] from h]; simp
  | _ + 1, _, h => h.1
theorem allC_one {s : TSpace} {a b : TWeight} (hs : spaceOk s = true) (ha : WOk s a) (hb : WOk s b) : allC s [a, b] = 0 := by
  unfold allC
  rw [if_pos hs, if_pos (by simp [ha.is, hb.is])]
theorem WOk.two {s : TSpace} (hs : spaceOk s = true) {a b : TWeight} (ha : WOk s a) (hb : WOk s b) : LOk [a, b] := ⟨by simp [maxLen], fun w hw => by
  simp at hw; rcases hw with rfl | rfl
  · exact (ha.flat hs).1
  · exact (hb.flat hs).1, fun w hw => by
  simp at hw; rcases hw with rfl | rfl
  · exact ha.rng
  · exact hb.rng⟩
theorem l05_combine.two {s : TSpace} (hp : s.Parts.length ≤ maxLen) (hs : spaceOk s = true) {a b : TWeight} (ha : WOk s a) (hb : WOk s b) : l05_combine.f s [a, b] (eitherW s a b) := by
  refine ⟨_, weight_Combine.ok hp (ha.two hs hb), ?_⟩
  unfold combR
  rw [if_pos (allC_one hs ha hb), combW_two hs ha]
end Go.RM.Tryz
namespace Go.RM.Tryz
open Go.RM
set_option linter.unusedVariables false
set_option linter.unusedSimpArgs false
theorem WOk.three {s : TSpace} (hs : spaceOk s = true) {a b c : TWeight} (ha : WOk s a) (hb : WOk s b) (hc : WOk s c) : LOk [a, b, c] := ⟨by simp [maxLen], fun w hw => by
  simp at hw; rcases hw with rfl | rfl | rfl
  · exact (ha.flat hs).1
  · exact (hb.flat hs).1
  · exact (hc.flat hs).1, fun w hw => by
  simp at hw; rcases hw with rfl | rfl | rfl
  · exact ha.rng
  · exact hb.rng
  · exact hc.rng⟩
theorem l05_combine.three {s : TSpace} (hp : s.Parts.length ≤ maxLen) (hs : spaceOk s = true) {a b c : TWeight} (ha : WOk s a) (hb : WOk s b) (hc : WOk s c) : l05_combine.f s [a, b, c] (eitherW s (eitherW s a b) c) := by
  refine ⟨_, weight_Combine.ok hp (WOk.three hs ha hb hc), ?_⟩
  unfold combR
  have h0 : allC s [a, b, c] = 0 := by
    unfold allC
    rw [if_pos hs, if_pos (by simp [ha.is, hb.is, hc.is])]
  rw [if_pos h0]
  show eitherW s (eitherW s a b) c = eitherW s (eitherW s (eitherW s (zeroS s) a) b) c
  rw [either_zero hs ha.is]
theorem l05_extend.two {s : TSpace} (hp : s.Parts.length ≤ maxLen) (hs : spaceOk s = true) {a b : TWeight} (ha : WOk s a) (hb : WOk s b) : l05_extend.f s [a, b] (thenW s a b) := by
  refine ⟨_, weight_Extend.ok hp (ha.two hs hb), ?_⟩
  unfold extR
  rw [if_pos (allC_one hs ha hb)]
  show thenW s a b = thenW s (thenW s (oneW s) a) b
  rw [(then_one hs ha.is ha.rng).2]
theorem wC_zero {s : TSpace} {w : TWeight} (h : wC s w = 0) : spaceOk s = true ∧ isW s w = true := by
  unfold wC at h
  split at h
  · rename_i h1
    split at h
    · rename_i h2; exact ⟨h1, h2⟩
    · cases h
  · cases h
theorem Law.WeightRing (a0 : TSpace) (a1 a2 a3 : TWeight) (y0 : TSpace.Fit a0) (y1 : TWeight.Fit a1) (y2 : TWeight.Fit a2) (y3 : TWeight.Fit a3) : l05_WeightRing.f a0 a1 a2 a3 true := by
  have hp := y0.lens
  refine ⟨_, l05_smallSpace.ok a0, _, fun _ => l05_small.ok a1, _, fun _ _ => l05_small.ok a2, _, fun _ _ _ => l05_small.ok a3, _, fun _ _ _ _ => r05_Check.ok hp y1.sized2, _, fun _ _ _ _ _ => r05_Check.ok hp y2.sized2, _, fun _ _ _ _ _ _ => r05_Check.ok hp y3.sized2, ?_⟩
  by_cases hc : ((!smallSp 5 a0 0) || ((!smallB 5 a1 0) || ((!smallB 5 a2 0) || ((!smallB 5 a3 0) || ((!(wC a0 a1 == 0)) || ((!(wC a0 a2 == 0)) || (wC a0 a3 != 0))))))) = true
  · rw [if_pos hc]; exact ⟨true, rfl, rfl⟩
  · rw [if_neg hc]
    simp only [Bool.or_eq_true, Bool.not_eq_true', not_or, Bool.not_eq_false, beq_iff_eq, bne_iff_ne, ne_eq, Decidable.not_not] at hc
    obtain ⟨_, _, _, _, c1, c2, c3⟩ := hc
    obtain ⟨hs, i1⟩ := wC_zero c1
    have ha : WOk a0 a1 := ⟨i1, y1.rng⟩
    have hb : WOk a0 a2 := ⟨(wC_zero c2).2, y2.rng⟩
    have hd : WOk a0 a3 := ⟨(wC_zero c3).2, y3.rng⟩
    have ho := WOk.one_ hs
    have hz := WOk.zero hs
    have same : ∀ {w : TWeight}, WOk a0 w → r05_Same.f w w true := fun h => r05_Same.refl (h.flat hs)
    refine ⟨_, weight_One.ok hp, _, weight_Zero.ok hp, ?_⟩
    unfold oneR zeroR
    rw [if_pos hs, if_pos hs]
    refine ⟨rfl, rfl, _, l05_combine.two hp hs ha hb, _, l05_combine.two hp hs hb ha, true, by rw [eW_comm hs hb ha]; exact same (ha.either hs hb), rfl, _, l05_combine.two hp hs ha ha, true, by rw [eW_self hs ha]; exact same ha, rfl, _, l05_combine.two hp hs hz ha, true, by rw [either_zero hs ha.is]; exact same ha, rfl, _, l05_combine.two hp hs ha hb, _, l05_combine.two hp hs (ha.either hs hb) hd, _, l05_combine.three hp hs ha hb hd, true, same ((ha.either hs hb).either hs hd), rfl, _, l05_extend.two hp hs ha hb, _, l05_extend.two hp hs (ha.thn hs hb) hd, _, l05_extend.two hp hs hb hd, _, l05_extend.two hp hs ha (hb.thn hs hd), true, by rw [tW_assoc hs ha hb hd]; exact same (ha.thn hs (hb.thn hs hd)), rfl, _, l05_extend.two hp hs ho ha, true, by rw [(then_one hs ha.is ha.rng).2]; exact same ha, rfl, _, l05_extend.two hp hs ha ho, true, by rw [(then_one hs ha.is ha.rng).1]; exact same ha, rfl, _, l05_extend.two hp hs hz ha, true, by rw [zero_tW hs ha]; exact same hz, rfl, _, l05_extend.two hp hs ha hz, true, by rw [then_zero ha.is]; exact same hz, rfl, _, l05_combine.two hp hs hb hd, _, l05_extend.two hp hs ha (hb.either hs hd), _, l05_extend.two hp hs ha hb, _, l05_extend.two hp hs ha hd, _, l05_combine.two hp hs (ha.thn hs hb) (ha.thn hs hd), true, by rw [dW_left hs ha hb hd]; exact same ((ha.thn hs hb).either hs (ha.thn hs hd)), rfl, _, l05_combine.two hp hs ha hb, _, l05_extend.two hp hs (ha.either hs hb) hd, _, l05_extend.two hp hs ha hd, _, l05_extend.two hp hs hb hd, _, l05_combine.two hp hs (ha.thn hs hd) (hb.thn hs hd), true, by rw [dW_right hs ha hb hd]; exact same ((ha.thn hs hd).either hs (hb.thn hs hd)), rfl, true, rfl, rfl⟩
end Go.RM.Tryz
