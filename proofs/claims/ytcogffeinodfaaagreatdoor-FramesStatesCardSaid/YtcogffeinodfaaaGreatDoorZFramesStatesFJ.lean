/- LA LB FA FB FC FD FE FF FH FJ, for the statement FramesStates: what it needs, no more. -/
import Derived.Test.YtcogffeinodfaaaGreatDoorZFramesStatesGR
import Derived.Test.YtcogffeinodfaaaGreatDoorZFramesStatesGG
namespace Go.RM
set_option linter.unusedVariables false
set_option linter.unusedSimpArgs false
theorem Loop.of {σ τ ρ : Type} {b : σ → Rnd σ τ ρ → Prop} (spec : σ → Fin τ ρ) (m : σ → Nat) (Inv : σ → Prop)
    (step : ∀ s, Inv s → (∃ s', b s (.next s') ∧ m s' < m s ∧ Inv s' ∧ spec s' = spec s) ∨ (∃ t, b s (.exit t) ∧ spec s = .go t) ∨ (∃ r, b s (.ret r) ∧ spec s = .ret r)) :
    ∀ s, Inv s → Loop b s (spec s) := by
  intro s
  generalize hn : m s = n
  induction n using Nat.strongRecOn generalizing s with
  | _ n ih =>
    intro hi
    rcases step s hi with ⟨s', hb, hm, hi', he⟩ | ⟨t, hb, he⟩ | ⟨r, hb, he⟩
    · rw [← he]
      exact .next hb (ih (m s') (by omega) s' rfl hi')
    · rw [he]; exact .exit hb
    · rw [he]; exact .ret hb
theorem wrap64 {i : Int} (h0 : -9223372036854775808 ≤ i) (h1 : i ≤ 9223372036854775807) : IntKind.i64.wrap i = i := by
  have e : IntKind.i64.wrap i = if (i % 18446744073709551616 : Int) ≥ 9223372036854775808 then i % 18446744073709551616 - 18446744073709551616 else i % 18446744073709551616 := by
    simp [IntKind.wrap, IntKind.bits, IntKind.signed]
  rw [e]
  split <;> omega
theorem wrapu64 {i : Int} (h0 : 0 ≤ i) (h1 : i < 18446744073709551616) : IntKind.u64.wrap i = i := by
  have e : IntKind.u64.wrap i = i % 18446744073709551616 := by
    simp [IntKind.wrap, IntKind.bits, IntKind.signed]
  rw [e]; omega
theorem wfu64 {i : Int} (h : (Lit.int .u64 i).wf = true) : 0 ≤ i ∧ i < 18446744073709551616 := by
  simp [Lit.wf, IntKind.min, IntKind.max, IntKind.bits, IntKind.signed] at h
  omega
theorem wrap_len {α : Type} {l : List α} {i : Int} (hl : l.length ≤ maxLen) (h0 : 0 ≤ i) (h1 : i < l.length) : IntKind.i64.wrap (i + 1) = i + 1 := by
  have : maxLen ≤ 9223372036854775807 := by decide
  exact wrap64 (by omega) (by omega)
theorem rdl_mem {α : Type} [Inhabited α] {l : List α} {i : Int} (h0 : 0 ≤ i) (h1 : i < l.length) : rdl l i ∈ l :=
  List.mem_of_getElem? (rdl_get h0 h1)
theorem drop_rdl {α : Type} [Inhabited α] {l : List α} {i : Int} (h0 : 0 ≤ i) (h1 : i < l.length) : l.drop i.toNat = rdl l i :: l.drop (i + 1).toNat := by
  have h := rdl_get h0 h1
  have hlt : i.toNat < l.length := by omega
  rw [List.drop_eq_getElem_cons hlt, show (i + 1).toNat = i.toNat + 1 by omega]
  rw [List.getElem?_eq_getElem hlt, Option.some.injEq] at h
  rw [h]
theorem drop_end {α : Type} {l : List α} {i : Int} (h0 : 0 ≤ i) (h1 : ¬ i < l.length) : l.drop i.toNat = [] := List.drop_eq_nil_of_le (by omega)
end Go.RM
namespace Go.RM
set_option linter.unusedVariables false
set_option linter.unusedSimpArgs false
def idxI {α : Type} (test : α → Bool) : List α → Int → Int
  | [], _ => -1
  | x :: l, i => if test x then i else idxI test l (i + 1)
theorem idxI_any {α : Type} (test : α → Bool) : ∀ (l : List α) (i : Int), 0 ≤ i → decide (idxI test l i ≥ 0) = l.any test
  | [], i, h => by simp [idxI]
  | x :: l, i, h => by
    unfold idxI
    by_cases hx : test x = true
    · simp [hx, h]
    · rw [if_neg hx, idxI_any test l (i + 1) (by omega)]; simp [hx]
theorem indexFunc {α : Type} [Inhabited α] {l : List α} {q : α → Bool → Prop} {b : Int → Rnd Int Unit Int → Prop} (test : α → Bool) (hl : l.length ≤ maxLen) (hq : ∀ x ∈ l, q x (test x))
    (hb : b = fun x1 z1 => if x1 < (l.length : Int) then (InR x1 l.length ∧ ∃ t : Bool, q (rdl l x1) t ∧ if t = true then z1 = .ret x1 else z1 = .next (IntKind.i64.wrap (x1 + 1))) else z1 = .exit ()) :
    ∃ o : Fin Unit Int, Loop b 0 o ∧ o.on (fun _ => idxI test l 0 = -1) (fun r_ => idxI test l 0 = r_) := by
  let spec : Int → Fin Unit Int := fun i => if (l.drop i.toNat).any test then .ret (idxI test (l.drop i.toNat) i) else .go ()
  have key := Loop.of (b := b) spec (fun i => ((l.length : Int) - i).toNat) (fun i => 0 ≤ i) (fun i hi => by
    subst hb
    by_cases h : i < (l.length : Int)
    · have hd := drop_rdl hi h
      by_cases ht : test (rdl l i) = true
      · refine .inr (.inr ⟨i, ?_, ?_⟩)
        · simp only [h, if_true]
          exact ⟨⟨hi, h⟩, true, ht ▸ hq _ (rdl_mem hi h), by simp⟩
        · show (if _ then _ else _) = _
          rw [hd]; simp [ht, idxI]
      · have ht' : test (rdl l i) = false := by simpa using ht
        refine .inl ⟨i + 1, ?_, by omega, by omega, ?_⟩
        · simp only [h, if_true]
          exact ⟨⟨hi, h⟩, false, ht' ▸ hq _ (rdl_mem hi h), by simp [wrap_len hl hi h]⟩
        · show (if _ then _ else _) = (if _ then _ else _)
          rw [hd]; simp [ht', idxI]
    · refine .inr (.inl ⟨(), by simp only [h, if_false], ?_⟩)
      show (if _ then _ else _) = _
      rw [drop_end hi h]; rfl) 0 (Int.le_refl 0)
  refine ⟨_, key, ?_⟩
  show Fin.on (if _ then _ else _) _ _
  simp only [Int.toNat_zero, List.drop_zero]
  split
  · rfl
  · rename_i h
    show idxI test l 0 = -1
    have : decide (idxI test l 0 ≥ 0) = false := by rw [idxI_any test l 0 (Int.le_refl 0)]; simpa using h
    have hge : ∀ (l : List α) (i : Int), 0 ≤ i → idxI test l i = -1 ∨ 0 ≤ idxI test l i := by
      intro l
      induction l with
      | nil => intro i _; exact .inl rfl
      | cons x l ih =>
        intro i hi
        unfold idxI
        split
        · exact .inr hi
        · exact ih (i + 1) (by omega)
    rcases hge l 0 (Int.le_refl 0) with h1 | h1
    · exact h1
    · simp at this; omega
theorem eachLoop {α ρ : Type} [Inhabited α] {l : List α} {b : Int → Rnd Int Unit ρ → Prop} (test : α → Bool) (rv : ρ)
    (hb : ∀ i, 0 ≤ i → i < (l.length : Int) → (test (rdl l i) = true → b i (.next (i + 1))) ∧ (test (rdl l i) = false → b i (.ret rv))) (hend : ∀ i, 0 ≤ i → ¬ i < (l.length : Int) → b i (.exit ())) :
    Loop b 0 (if l.all test then .go () else .ret rv) := by
  let spec : Int → Fin Unit ρ := fun i => if (l.drop i.toNat).all test then .go () else .ret rv
  have key := Loop.of (b := b) spec (fun i => ((l.length : Int) - i).toNat) (fun i => 0 ≤ i) (fun i hi => by
    by_cases h : i < (l.length : Int)
    · have hd := drop_rdl hi h
      obtain ⟨h1, h2⟩ := hb i hi h
      cases ht : test (rdl l i) with
      | true =>
        refine .inl ⟨i + 1, h1 ht, by omega, by omega, ?_⟩
        show (if _ then _ else _) = (if _ then _ else _)
        rw [hd]; simp [ht]
      | false =>
        refine .inr (.inr ⟨rv, h2 ht, ?_⟩)
        show (if _ then _ else _) = _
        rw [hd]; simp [ht]
    · refine .inr (.inl ⟨(), hend i hi h, ?_⟩)
      show (if _ then _ else _) = _
      rw [drop_end hi h]; rfl) 0 (Int.le_refl 0)
  simpa [spec] using key
theorem containsFunc {α : Type} [Inhabited α] {l : List α} {q : α → Bool → Prop} {b : Int → Rnd Int Unit Int → Prop} (test : α → Bool) (hl : l.length ≤ maxLen) (hq : ∀ x ∈ l, q x (test x))
    (hb : b = fun x1 z1 => if x1 < (l.length : Int) then (InR x1 l.length ∧ ∃ t : Bool, q (rdl l x1) t ∧ if t = true then z1 = .ret x1 else z1 = .next (IntKind.i64.wrap (x1 + 1))) else z1 = .exit ()) :
    ∃ t : Int, (∃ o : Fin Unit Int, Loop b 0 o ∧ o.on (fun _ => t = -1) (fun r_ => t = r_)) ∧ l.any test = decide (t ≥ 0) :=
  ⟨_, indexFunc test hl hq hb, (idxI_any test l 0 (Int.le_refl 0)).symm⟩
def foldF {α σ ρ : Type} (step : Int → α → σ → Fin σ ρ) : List α → Int → σ → Fin σ ρ
  | [], _, s => .go s
  | x :: l, i, s => match step i x s with
    | .go s' => foldF step l (i + 1) s'
    | .ret r => .ret r
def Fin.map {σ τ ρ : Type} (f : σ → τ) : Fin σ ρ → Fin τ ρ
  | .go s => .go (f s)
  | .ret r => .ret r
def Rok {σ S τ ρ : Type} (b : S → Rnd S τ ρ → Prop) (mk : Int → σ → S) (Inv : Int → σ → Prop) (i : Int) (s : σ) : Fin σ ρ → Prop
  | .go s' => b (mk i s) (.next (mk (i + 1) s')) ∧ Inv (i + 1) s'
  | .ret r => b (mk i s) (.ret r)
theorem foldLoop {α σ S τ ρ : Type} [Inhabited α] {l : List α} {b : S → Rnd S τ ρ → Prop} (mk : Int → σ → S) (ex : σ → τ) (step : Int → α → σ → Fin σ ρ) (Inv : Int → σ → Prop)
    (hb : ∀ i s, 0 ≤ i → i < (l.length : Int) → Inv i s → Rok b mk Inv i s (step i (rdl l i) s))
    (hend : ∀ s, Inv l.length s → b (mk l.length s) (.exit (ex s))) (s0 : σ) (h0 : Inv 0 s0) :
    Loop b (mk 0 s0) ((foldF step l 0 s0).map ex) ∧ ∀ s, foldF step l 0 s0 = .go s → Inv l.length s := by
  have main : ∀ (k : Nat) (i : Int) (s : σ), ((l.length : Int) - i).toNat = k → 0 ≤ i → i ≤ l.length → Inv i s → Loop b (mk i s) ((foldF step (l.drop i.toNat) i s).map ex) ∧ ∀ s', foldF step (l.drop i.toNat) i s = .go s' → Inv l.length s' := by
    intro k
    induction k with
    | zero =>
      intro i s hk h0 h1 hi
      have : i = l.length := by omega
      subst this
      rw [drop_end h0 (by omega)]
      exact ⟨.exit (hend s hi), fun s' h => by injection h with h; exact h ▸ hi⟩
    | succ k ih =>
      intro i s hk h0 h1 hi
      have hlt : i < (l.length : Int) := by omega
      rw [drop_rdl h0 hlt]
      have hr := hb i s h0 hlt hi
      unfold foldF
      revert hr
      cases step i (rdl l i) s with
      | go s1 =>
        intro hr
        have := ih (i + 1) s1 (by omega) (by omega) (by omega) hr.2
        exact ⟨.next hr.1 this.1, this.2⟩
      | ret r =>
        intro hr
        exact ⟨.ret hr, fun s' h => by cases h⟩
  have := main _ 0 s0 rfl (Int.le_refl 0) (by omega) h0
  simpa using this
def upto (n : Nat) : List Int := (List.range n).map Int.ofNat
def all2B {α β : Type} (test : α → β → Bool) : List α → List β → Bool
  | x :: l, y :: m => test x y && all2B test l m
  | _, _ => true
theorem each2Loop {α β ρ : Type} [Inhabited α] [Inhabited β] {l : List α} {m : List β} {b : Int → Rnd Int Unit ρ → Prop} (test : α → β → Bool) (rv : ρ) (hlen : l.length = m.length)
    (hb : ∀ i, 0 ≤ i → i < (l.length : Int) → (test (rdl l i) (rdl m i) = true → b i (.next (i + 1))) ∧ (test (rdl l i) (rdl m i) = false → b i (.ret rv))) (hend : ∀ i, 0 ≤ i → ¬ i < (l.length : Int) → b i (.exit ())) :
    Loop b 0 (if all2B test l m = true then .go () else .ret rv) := by
  let spec : Int → Fin Unit ρ := fun i => if all2B test (l.drop i.toNat) (m.drop i.toNat) = true then .go () else .ret rv
  have key := Loop.of (b := b) spec (fun i => ((l.length : Int) - i).toNat) (fun i => 0 ≤ i) (fun i hi => by
    by_cases h : i < (l.length : Int)
    · have hd := drop_rdl hi h
      have hd2 := drop_rdl (l := m) hi (by omega)
      obtain ⟨h1, h2⟩ := hb i hi h
      cases ht : test (rdl l i) (rdl m i) with
      | true =>
        refine .inl ⟨i + 1, h1 ht, by omega, by omega, ?_⟩
        show (if _ then _ else _) = (if _ then _ else _)
        rw [hd, hd2]; simp [all2B, ht]
      | false =>
        refine .inr (.inr ⟨rv, h2 ht, ?_⟩)
        show (if _ then _ else _) = _
        rw [hd, hd2]; simp [all2B, ht]
    · refine .inr (.inl ⟨(), hend i hi h, ?_⟩)
      show (if _ then _ else _) = _
      rw [drop_end hi h]; simp [all2B]) 0 (Int.le_refl 0)
  simpa [spec] using key
theorem all2B_eq {α : Type} [DecidableEq α] : ∀ (l m : List α), l.length = m.length → all2B (fun x y => decide (x = y)) l m = decide (l = m)
  | [], [], _ => by simp [all2B]
  | x :: l, y :: m, h => by
    have := all2B_eq l m (by simpa using h)
    simp [all2B, this]
theorem eqLoop {α ρ : Type} [Inhabited α] [DecidableEq α] {l m : List α} {b : Int → Rnd Int Unit ρ → Prop} (rv : ρ) (hlen : l.length = m.length)
    (hb : ∀ i, 0 ≤ i → i < (l.length : Int) → (rdl l i = rdl m i → b i (.next (i + 1))) ∧ (rdl l i ≠ rdl m i → b i (.ret rv))) (hend : ∀ i, 0 ≤ i → ¬ i < (l.length : Int) → b i (.exit ())) :
    Loop b 0 (if l = m then .go () else .ret rv) := by
  have := each2Loop (b := b) (fun x y => decide (x = y)) rv hlen (fun i h0 h1 => ⟨fun h => (hb i h0 h1).1 (by simpa using h), fun h => (hb i h0 h1).2 (by simpa using h)⟩) hend
  rw [all2B_eq l m hlen] at this
  simpa using this
theorem eqRound {α : Type} [Inhabited α] [DecidableEq α] {l m : List α} {b : Int → Rnd Int Unit Bool → Prop} (hl : l.length ≤ maxLen) (hlen : l.length = m.length)
    (hb : b = fun x1 z1 => if x1 < (l.length : Int) then (InR x1 l.length ∧ InR x1 m.length ∧ if rdl l x1 = rdl m x1 then z1 = .next (IntKind.i64.wrap (x1 + 1)) else z1 = .ret false) else z1 = .exit ()) :
    Loop b 0 (if l = m then .go () else .ret false) := by
  subst hb
  refine eqLoop false hlen (fun i h0 h1 => ⟨fun h => ?_, fun h => ?_⟩) (fun i h0 h1 => by simp only [h1, if_false])
  · simp only [h1, if_true]
    exact ⟨⟨h0, h1⟩, ⟨h0, by omega⟩, by rw [if_pos h, wrap_len hl h0 h1]⟩
  · simp only [h1, if_true]
    exact ⟨⟨h0, h1⟩, ⟨h0, by omega⟩, by rw [if_neg h]; trivial⟩
theorem eqOn {α : Type} [DecidableEq α] {l m : List α} : (if l = m then (.go () : Fin Unit Bool) else .ret false).on (fun _ => decide (l = m) = true) (fun r_ => decide (l = m) = r_) := by
  by_cases h : l = m <;> simp [Fin.on, h]
def foldG {α σ : Type} (g : Int → α → σ → σ) : List α → Int → σ → σ
  | [], _, s => s
  | x :: l, i, s => foldG g l (i + 1) (g i x s)
theorem foldF_G {α σ ρ : Type} (g : Int → α → σ → σ) : ∀ (l : List α) (i : Int) (s : σ), foldF (fun i x s => (.go (g i x s) : Fin σ ρ)) l i s = .go (foldG g l i s)
  | [], i, s => rfl
  | x :: l, i, s => foldF_G g l (i + 1) _
theorem foldGLoop {α σ S τ ρ : Type} [Inhabited α] {l : List α} {b : S → Rnd S τ ρ → Prop} (mk : Int → σ → S) (ex : σ → τ) (g : Int → α → σ → σ) (Inv : Int → σ → Prop)
    (hb : ∀ i s, 0 ≤ i → i < (l.length : Int) → Inv i s → b (mk i s) (.next (mk (i + 1) (g i (rdl l i) s))) ∧ Inv (i + 1) (g i (rdl l i) s))
    (hend : ∀ s, Inv l.length s → b (mk l.length s) (.exit (ex s))) (s0 : σ) (h0 : Inv 0 s0) :
    Loop b (mk 0 s0) (.go (ex (foldG g l 0 s0))) ∧ Inv l.length (foldG g l 0 s0) := by
  have := foldLoop (l := l) (b := b) mk ex (fun i x s => .go (g i x s)) Inv (fun i s h0 h1 hi => hb i s h0 h1 hi) hend s0 h0
  rw [foldF_G] at this
  exact ⟨this.1, this.2 _ rfl⟩
theorem foldG_inv {α σ : Type} {g : Int → α → σ → σ} (P : Int → σ → Prop) : ∀ (l : List α) (i : Int) (s : σ), (∀ i s x, x ∈ l → P i s → P (i + 1) (g i x s)) → P i s → P (i + l.length) (foldG g l i s)
  | [], i, s, h, hs => by simpa [foldG] using hs
  | x :: l, i, s, h, hs => by
    have := foldG_inv P l (i + 1) (g i x s) (fun i s y hy hp => h i s y (.tail _ hy) hp) (h i s x (.head _) hs)
    have e : i + ((x :: l).length : Int) = i + 1 + l.length := by simp; omega
    rw [e]; exact this
end Go.RM
namespace Go.RM
set_option linter.unusedVariables false
set_option linter.unusedSimpArgs false
def InM (x : Int) : Prop := 0 ≤ x ∧ x < 18446744073709551616
def bitM (x : Int) (i : Nat) : Bool := x.toNat.testBit i
theorem pow64 : (2 : Nat) ^ 64 = 18446744073709551616 := by decide
theorem bitM_high {x : Int} (hx : InM x) {i : Nat} (h : 64 ≤ i) : bitM x i = false := by
  unfold bitM
  apply Nat.testBit_lt_two_pow
  have h1 : (2 : Nat) ^ 64 ≤ 2 ^ i := Nat.pow_le_pow_right (by decide) h
  have := pow64
  have := hx.2; have := hx.1; omega
theorem ofInt_toM {x : Int} (hx : InM x) : (BitVec.ofInt 64 x).toNat = x.toNat := by
  rw [BitVec.toNat_ofInt]
  have := hx.1; have := hx.2
  have : x % ((2 ^ 64 : Nat) : Int) = x := by
    rw [show ((2 ^ 64 : Nat) : Int) = 18446744073709551616 by decide]
    exact Int.emod_eq_of_lt hx.1 hx.2
  rw [this]
theorem toNat_InM (b : BitVec 64) : InM (b.toNat : Int) := by
  have := b.isLt
  have := pow64
  exact ⟨by omega, by omega⟩
theorem andM {x y : Int} : bitOp .and .u64 x y = ((BitVec.ofInt 64 x &&& BitVec.ofInt 64 y).toNat : Int) := by
  show IntKind.u64.wrap ((BitVec.ofInt 64 x &&& BitVec.ofInt 64 y).toNat : Int) = _
  have := toNat_InM (BitVec.ofInt 64 x &&& BitVec.ofInt 64 y)
  exact wrapu64 this.1 this.2
theorem shr_nat {m x : Int} (hm : InM m) (h0 : 0 ≤ x) (h1 : x ≤ 64) : shrI .u64 m x = ((m.toNat / 2 ^ x.toNat : Nat) : Int) := by
  unfold shrI
  have hb : IntKind.bits .u64 = 64 := rfl
  rw [hb, Nat.min_eq_left (by omega)]
  have hp : (0 : Int) ≤ 2 ^ x.toNat := Int.le_of_lt (Int.pow_pos (by decide))
  rw [Int.fdiv_eq_ediv_of_nonneg _ hp]
  have h3 : ((2 ^ x.toNat : Nat) : Int) = (2 : Int) ^ x.toNat := by simp
  have h4 : (m.toNat : Int) = m := Int.toNat_of_nonneg hm.1
  rw [← h3]
  conv => lhs; rw [← h4]
  rw [Int.natCast_ediv]
theorem bit_at {m x : Int} (hm : InM m) (h0 : 0 ≤ x) (h1 : x < 64) : (bitOp .and .u64 (shrI .u64 m x) 1 = 1) ↔ bitM m x.toNat = true := by
  rw [shr_nat hm h0 (by omega), andM]
  have hle : m.toNat / 2 ^ x.toNat ≤ m.toNat := Nat.div_le_self _ _
  have hI : InM ((m.toNat / 2 ^ x.toNat : Nat) : Int) := ⟨Int.natCast_nonneg _, by have := hm.1; have := hm.2; omega⟩
  rw [BitVec.toNat_and, ofInt_toM hI]
  have h1' : (BitVec.ofInt 64 1).toNat = 1 := by decide
  rw [h1', Int.toNat_natCast, Nat.and_one_is_mod]
  unfold bitM
  rw [Nat.testBit_eq_decide_div_mod_eq]
  simp only [decide_eq_true_eq]
  omega
theorem shr_zero {m : Int} {n : Nat} (hm : InM m) (h : n ≤ 64) : (shrI .u64 m (n : Int) = 0) ↔ ∀ i, n ≤ i → bitM m i = false := by
  rw [shr_nat hm (Int.natCast_nonneg _) (by omega), Int.toNat_natCast]
  constructor
  · intro h i hi
    have : m.toNat / 2 ^ n = 0 := by omega
    have hlt : m.toNat < 2 ^ n := by
      have := (Nat.div_eq_zero_iff).1 this
      rcases this with h | h
      · exact absurd h (Nat.ne_of_gt (Nat.two_pow_pos n))
      · exact h
    unfold bitM
    exact Nat.testBit_lt_two_pow (Nat.lt_of_lt_of_le hlt (Nat.pow_le_pow_right (by decide) hi))
  · intro h
    have : m.toNat / 2 ^ n = 0 := by
      apply Nat.eq_of_testBit_eq
      intro i
      rw [Nat.testBit_div_two_pow, Nat.zero_testBit]
      exact h _ (by omega)
    omega
end Go.RM
namespace Go.RM.Tryz
open Go.RM
set_option linter.unusedVariables false
set_option linter.unusedSimpArgs false
def isI (a b : Int) : Bool := decide (a ≥ 0) && decide (a < b)
theorem isI_iff {a b : Int} : isI a b = true ↔ 0 ≤ a ∧ a < b := by unfold isI; simp
theorem isI_R {α : Type} {l : List α} {a : Int} (h : isI a l.length = true) : InR a l.length := isI_iff.1 h
theorem graph_in.ok (a b : Int) : graph_in.f a b (isI a b) := rfl
theorem r21_in.ok (a b : Int) : r21_in.f a b (isI a b) := rfl
theorem upto_len (n : Nat) : (upto n).length = n := by simp [upto]
theorem rdl_upto {n : Nat} {i : Int} (h0 : 0 ≤ i) (h1 : i < n) : rdl (upto n) i = i := by
  have := rdl_get (l := upto n) h0 (by rw [upto_len]; exact h1)
  unfold upto at this ⊢
  rw [List.getElem?_map, List.getElem?_range (by omega)] at this
  injection this with this
  rw [← this]; simp; omega
def fstBad (g : TGraph) : Bool := decide ((g.Vars.length : Int) > 64) || ((decide ((g.Procs.length : Int) < 1)) || ((decide ((g.Procs.length : Int) > 1024)) || ((!((g.Entry.length : Int) == (g.Procs.length : Int))) || ((!((g.Exit.length : Int) == (g.Procs.length : Int))) || ((decide ((g.Of.length : Int) > 4096)) || (!isI g.Main g.Procs.length))))))
def endOk (g : TGraph) (i e : Int) : Bool := isI e g.Of.length && rdl g.Of e == i
def pairOk (g : TGraph) (i : Int) : Bool := endOk g i (rdl g.Entry i) && endOk g i (rdl g.Exit i)
def headsOk (g : TGraph) : Bool := !fstBad g && (decide ((g.Sites.length : Int) ≤ 1024) && (g.Of.all (fun k => isI k g.Procs.length) && ((upto g.Procs.length).all (pairOk g) && g.Sites.all (fun s => isI s.Proc g.Procs.length))))
structure GLen (g : TGraph) : Prop where
  vars : g.Vars.length ≤ maxLen
  procs : g.Procs.length ≤ maxLen
  entry : g.Entry.length ≤ maxLen
  exit : g.Exit.length ≤ maxLen
  of_ : g.Of.length ≤ maxLen
  steps : g.Steps.length ≤ maxLen
  sites : g.Sites.length ≤ maxLen
  points : g.Points.length ≤ maxLen
  sinks : g.Sinks.length ≤ maxLen
theorem TGraph.Fit.len {g : TGraph} (h : g.Fit) : GLen g := by
  obtain ⟨h1, h2, h3, h4, _, h5, h6, h7, h8, h9⟩ := h
  exact ⟨h1.2.1, h2.2.1, h3.2.1, h4.2.1, h5.2.1, h6.2.1, h7.2.1, h8.2.1, h9.2.1⟩
theorem notAny {α : Type} (p : α → Bool) (l : List α) : (!(l.any fun x => !p x)) = l.all p := by
  induction l with
  | nil => rfl
  | cons x l ih => simp only [List.any_cons, List.all_cons, Bool.not_or, Bool.not_not, ih]
theorem endLoop {g : TGraph} {i : Int} (l : List Int) (hl : l.length ≤ maxLen) : Loop (fun x4 z2 => if x4 < (l.length : Int) then (((InR x4 l.length)) ∧ ∃ t51_4 : Bool, (graph_in.f (rdl l x4) (g.Of.length : Int) t51_4) ∧ ((t51_4 = true) → (InR (rdl l x4) g.Of.length)) ∧ if ((!t51_4) || ((rdl g.Of (rdl l x4)) != i)) = true then (z2 = .ret false) else (z2 = .next (IntKind.i64.wrap (x4 + 1)))) else (z2 = .exit ()) : Int → Rnd Int Unit Bool → Prop) 0 (if l.all (endOk g i) then .go () else .ret false) := by
  refine eachLoop (endOk g i) false (fun k h0 h1 => ?_) (fun k h0 h1 => by simp only [h1, if_false])
  simp only [h1, if_true]
  refine ⟨fun ht => ⟨⟨h0, h1⟩, _, graph_in.ok _ _, fun h => isI_R h, ?_⟩, fun ht => ⟨⟨h0, h1⟩, _, graph_in.ok _ _, fun h => isI_R h, ?_⟩⟩
  · unfold endOk at ht
    rw [Bool.and_eq_true] at ht
    rw [if_neg (by simp [ht.1, bne, ht.2]), wrap_len hl h0 h1]
  · unfold endOk at ht
    rw [if_pos]
    · trivial
    · cases h2 : isI (rdl l k) g.Of.length with
      | false => rfl
      | true => rw [h2, Bool.true_and] at ht; simp [bne, ht]
theorem pairLoop {g : TGraph} (hl : g.Procs.length ≤ maxLen) (h1 : g.Entry.length = g.Procs.length) (h2 : g.Exit.length = g.Procs.length) : Loop (graph_procsRight.b1 g) 0 (if (upto g.Procs.length).all (pairOk g) then .go () else .ret false) := by
  refine eachLoop (pairOk g) false (fun k h0 hk => ?_) (fun k h0 hk => by rw [upto_len] at hk; simp only [graph_procsRight.b1, hk, if_false])
  rw [upto_len] at hk
  rw [rdl_upto h0 hk]
  unfold graph_procsRight.b1
  simp only [hk, if_true]
  have hL := endLoop (g := g) (i := k) [rdl g.Entry k, rdl g.Exit k] (by show 2 ≤ maxLen; decide)
  have he : ([rdl g.Entry k, rdl g.Exit k].all (endOk g k)) = pairOk g k := by simp [pairOk]
  rw [he] at hL
  refine ⟨fun ht => ⟨⟨h0, by omega⟩, ⟨h0, by omega⟩, _, hL, ?_⟩, fun ht => ⟨⟨h0, by omega⟩, ⟨h0, by omega⟩, _, hL, ?_⟩⟩
  · rw [ht]; show _ = _; rw [wrap_len (l := g.Procs) hl h0 hk]
  · rw [ht]; rfl
theorem fstBad_not {g : TGraph} (h : fstBad g = false) : g.Vars.length ≤ 64 ∧ 1 ≤ g.Procs.length ∧ g.Procs.length ≤ 1024 ∧ g.Entry.length = g.Procs.length ∧ g.Exit.length = g.Procs.length ∧ g.Of.length ≤ 4096 ∧ isI g.Main g.Procs.length = true := by
  simp only [fstBad, Bool.or_eq_false_iff, decide_eq_false_iff_not, Bool.not_eq_false', beq_iff_eq] at h
  obtain ⟨h1, h2, h3, h4, h5, h6, h7⟩ := h
  exact ⟨by omega, by omega, by omega, by omega, by omega, by omega, h7⟩
theorem graph_procsRight.ok {g : TGraph} (hg : GLen g) : graph_procsRight.f g (headsOk g) := by
  refine ⟨isI g.Main g.Procs.length, fun _ _ _ _ _ _ => graph_in.ok _ _, ?_⟩
  show if fstBad g = true then _ else _
  by_cases hb : fstBad g = true
  · rw [if_pos hb]; simp [headsOk, hb]
  · rw [if_neg hb]
    have hb' : fstBad g = false := by simpa using hb
    obtain ⟨h1, h2, h3, h4, h5, h6, h7⟩ := fstBad_not hb'
    obtain ⟨t, ht, he⟩ := containsFunc (q := fun x0_ y_ => graph_procsRight_1.f x0_ (g.Procs.length : Int) y_) (b := slices_IndexFunc_int.b1 g.Of (fun x0_ y_ => graph_procsRight_1.f x0_ (g.Procs.length : Int) y_)) (fun k => !isI k g.Procs.length) hg.of_ (fun x _ => ⟨_, graph_in.ok _ _, rfl⟩) rfl
    refine ⟨_, ⟨t, ht, he⟩, ?_⟩
    by_cases ha : (g.Of.any fun k => !isI k g.Procs.length) = true
    · rw [if_pos ha]
      have := notAny (fun k => isI k g.Procs.length) g.Of
      rw [ha] at this
      simp [headsOk, ← this]
    · rw [if_neg ha]
      have ha2 : g.Of.all (fun k => isI k g.Procs.length) = true := by rw [← notAny]; simpa using ha
      refine ⟨_, pairLoop hg.procs h4 h5, ?_⟩
      by_cases hp : (upto g.Procs.length).all (pairOk g) = true
      · rw [hp]
        obtain ⟨t, ht, he⟩ := containsFunc (q := fun x0_ y_ => graph_procsRight_2.f x0_ (g.Procs.length : Int) y_) (b := slices_IndexFunc_Site.b1 g.Sites (fun x0_ y_ => graph_procsRight_2.f x0_ (g.Procs.length : Int) y_)) (fun s => !isI s.Proc g.Procs.length) hg.sites (fun x _ => ⟨_, graph_in.ok _ _, rfl⟩) rfl
        refine ⟨_, fun _ => ⟨t, ht, he⟩, ?_⟩
        rw [notAny (fun s : TSite => isI s.Proc g.Procs.length)]
        simp [headsOk, hb', ha2, hp]
      · have hp2 : (upto g.Procs.length).all (pairOk g) = false := by simpa using hp
        rw [hp2]
        show headsOk g = false
        simp only [headsOk, hp2, Bool.false_and, Bool.and_false]
theorem pairLoop2 {g : TGraph} (hl : g.Procs.length ≤ maxLen) (h1 : g.Entry.length = g.Procs.length) (h2 : g.Exit.length = g.Procs.length) : Loop (r21_heads.b2 g) 0 (if (upto g.Procs.length).all (pairOk g) then .go () else .ret false) := by
  refine eachLoop (pairOk g) false (fun k h0 hk => ?_) (fun k h0 hk => by rw [upto_len] at hk; simp only [r21_heads.b2, hk, if_false])
  rw [upto_len] at hk
  rw [rdl_upto h0 hk]
  have pre : ∀ z : Rnd Int Unit Bool, (if ((!isI (rdl g.Entry k) g.Of.length) || ((!isI (rdl g.Exit k) g.Of.length) || ((!((rdl g.Of (rdl g.Entry k)) == k)) || ((rdl g.Of (rdl g.Exit k)) != k)))) = true then (z = .ret false) else (z = .next (IntKind.i64.wrap (k + 1)))) →
    InR k g.Entry.length ∧ ∃ t28_6 : Bool, (r21_in.f (rdl g.Entry k) (g.Of.length : Int) t28_6) ∧ ((t28_6 = true) → (InR k g.Exit.length)) ∧ ∃ t28_15 : Bool, ((t28_6 = true) → r21_in.f (rdl g.Exit k) (g.Of.length : Int) t28_15) ∧ ((t28_6 = true) → (t28_15 = true) → (InR k g.Entry.length)) ∧ ((t28_6 = true) → (t28_15 = true) → (InR (rdl g.Entry k) g.Of.length)) ∧ ((t28_6 = true) → (t28_15 = true) → ((rdl g.Of (rdl g.Entry k)) = k) → (InR k g.Exit.length)) ∧ ((t28_6 = true) → (t28_15 = true) → ((rdl g.Of (rdl g.Entry k)) = k) → (InR (rdl g.Exit k) g.Of.length)) ∧ if ((!t28_6) || ((!t28_15) || ((!((rdl g.Of (rdl g.Entry k)) == k)) || ((rdl g.Of (rdl g.Exit k)) != k)))) = true then (z = .ret false) else (z = .next (IntKind.i64.wrap (k + 1))) :=
    fun z hz => ⟨⟨h0, by omega⟩, _, r21_in.ok _ _, fun _ => ⟨h0, by omega⟩, _, fun _ => r21_in.ok _ _, fun _ _ => ⟨h0, by omega⟩, fun a _ => isI_R a, fun _ _ _ => ⟨h0, by omega⟩, fun _ b _ => isI_R b, hz⟩
  have pre2 : ∀ z : Rnd Int Unit Bool, (if ((!isI (rdl g.Entry k) g.Of.length) || ((!isI (rdl g.Exit k) g.Of.length) || ((!((rdl g.Of (rdl g.Entry k)) == k)) || ((rdl g.Of (rdl g.Exit k)) != k)))) = true then (z = .ret false) else (z = .next (IntKind.i64.wrap (k + 1)))) → r21_heads.b2 g k z := fun z hz => by
    show if k < (g.Procs.length : Int) then _ else _
    rw [if_pos hk]; exact pre z hz
  refine ⟨fun ht => pre2 _ ?_, fun ht => pre2 _ ?_⟩
  · simp only [pairOk, endOk, Bool.and_eq_true, beq_iff_eq] at ht
    rw [if_neg (by simp [ht.1.1, ht.1.2, ht.2.1, ht.2.2]), wrap_len (l := g.Procs) hl h0 hk]
  · rw [if_pos]
    rw [← Bool.not_eq_false]
    intro hc
    simp only [Bool.or_eq_false_iff, Bool.not_eq_false', bne_eq_false_iff_eq] at hc
    simp [pairOk, endOk, hc.1, hc.2.1, hc.2.2.1, hc.2.2.2] at ht
theorem r21_heads.ok {g : TGraph} (hg : GLen g) : r21_heads.f g (headsOk g) := by
  refine ⟨isI g.Main g.Procs.length, fun _ _ _ _ _ _ => r21_in.ok _ _, ?_⟩
  by_cases hb : fstBad g = true
  · rw [if_pos]
    · simp [headsOk, hb]
    · simp only [fstBad, Bool.or_eq_true] at hb ⊢
      rcases hb with h | h | h | h | h | h | h
      · exact .inl h
      · exact .inr (.inl h)
      · exact .inr (.inr (.inl h))
      · exact .inr (.inr (.inr (.inl h)))
      · exact .inr (.inr (.inr (.inr (.inl h))))
      · exact .inr (.inr (.inr (.inr (.inr (.inl h)))))
      · exact .inr (.inr (.inr (.inr (.inr (.inr (.inl h))))))
  · have hb' : fstBad g = false := by simpa using hb
    obtain ⟨h1, h2, h3, h4, h5, h6, h7⟩ := fstBad_not hb'
    by_cases hs : (g.Sites.length : Int) > 1024
    · rw [if_pos (by simp [hs])]
      simp [headsOk]
      intro _ h
      omega
    · rw [if_neg]
      · refine ⟨_, eachLoop (l := g.Of) (fun k => isI k g.Procs.length) false (fun k h0 hk => ?_) (fun k h0 hk => by simp only [r21_heads.b1, hk, if_false]), ?_⟩
        · unfold r21_heads.b1
          simp only [hk, if_true]
          exact ⟨fun ht => ⟨⟨h0, hk⟩, _, r21_in.ok _ _, by rw [if_pos ht, wrap_len hg.of_ h0 hk]⟩, fun ht => ⟨⟨h0, hk⟩, _, r21_in.ok _ _, by rw [if_neg (by simp [ht])]; trivial⟩⟩
        · by_cases ha : g.Of.all (fun k => isI k g.Procs.length) = true
          · rw [if_pos ha]
            refine ⟨_, pairLoop2 hg.procs h4 h5, ?_⟩
            by_cases hp : (upto g.Procs.length).all (pairOk g) = true
            · rw [if_pos hp]
              refine ⟨_, eachLoop (l := g.Sites) (fun s => isI s.Proc g.Procs.length) false (fun k h0 hk => ?_) (fun k h0 hk => by simp only [r21_heads.b3, hk, if_false]), ?_⟩
              · unfold r21_heads.b3
                simp only [hk, if_true]
                exact ⟨fun ht => ⟨⟨h0, hk⟩, _, r21_in.ok _ _, by rw [if_pos ht, wrap_len hg.sites h0 hk]⟩, fun ht => ⟨⟨h0, hk⟩, _, r21_in.ok _ _, by rw [if_neg (by simp [ht])]; trivial⟩⟩
              · have hs2 : decide ((g.Sites.length : Int) ≤ 1024) = true := by simp; omega
                by_cases hq : g.Sites.all (fun s => isI s.Proc g.Procs.length) = true
                · rw [if_pos hq]
                  show headsOk g = true
                  simp only [headsOk, hb', ha, hp, hq, hs2, Bool.not_false, Bool.and_self]
                · rw [if_neg hq]
                  show headsOk g = false
                  have hq2 : g.Sites.all (fun s => isI s.Proc g.Procs.length) = false := by simpa using hq
                  simp only [headsOk, hq2, Bool.and_false]
            · rw [if_neg hp]
              have hp2 : (upto g.Procs.length).all (pairOk g) = false := by simpa using hp
              show headsOk g = false
              simp only [headsOk, hp2, Bool.false_and, Bool.and_false]
          · rw [if_neg ha]
            have ha2 : g.Of.all (fun k => isI k g.Procs.length) = false := by simpa using ha
            show headsOk g = false
            simp only [headsOk, ha2, Bool.false_and, Bool.and_false]
      · simp only [fstBad, Bool.or_eq_false_iff] at hb'
        obtain ⟨a1, a2, a3, a4, a5, a6, a7⟩ := hb'
        have : decide ((g.Sites.length : Int) > 1024) = false := by simp; omega
        simp only [a1, a2, a3, a4, a5, a6, a7, this, Bool.or_self]
        exact Bool.noConfusion
end Go.RM.Tryz
namespace Go.RM.Tryz
open Go.RM
set_option linter.unusedVariables false
set_option linter.unusedSimpArgs false
def kindOk (g : TGraph) (s : TStep) : Bool :=
  if s.Kind = 1 then s.X == 0 && (s.Y == 0 && (s.K == 0 && s.Site == 0))
  else if s.Kind = 2 then isI s.X g.Vars.length && (s.Y == 0 && s.Site == 0)
  else if s.Kind = 3 then isI s.X g.Vars.length && (isI s.Y g.Vars.length && (s.K == 0 && s.Site == 0))
  else if s.Kind = 4 then isI s.X g.Vars.length && (s.Y == 0 && (s.K == 0 && s.Site == 0))
  else if s.Kind = 5 then isI s.X g.Vars.length && (s.Y == 0 && (s.K == 0 && s.Site == 0))
  else if s.Kind = 6 then isI s.X g.Vars.length && (s.Y == 0 && (s.K == 0 && s.Site == 0))
  else if s.Kind = 8 then isI s.Site g.Sites.length && ((rdl g.Sites s.Site).From == s.From && ((rdl g.Sites s.Site).Back == s.To && (s.X == 0 && (s.Y == 0 && s.K == 0))))
  else false
def edgeOk (g : TGraph) (s : TStep) : Bool := isI s.From g.Of.length && (isI s.To g.Of.length && rdl g.Of s.From == rdl g.Of s.To)
def stepOk (g : TGraph) (s : TStep) : Bool := edgeOk g s && kindOk g s
theorem edge_not {g : TGraph} {s : TStep} : ((!isI s.From g.Of.length) || ((!isI s.To g.Of.length) || (rdl g.Of s.From != rdl g.Of s.To))) = !edgeOk g s := by
  simp [edgeOk, bne, Bool.not_and]
theorem graph_stepRight.ok {g : TGraph} {s : TStep} : graph_stepRight.f g s (stepOk g s) := by
  refine ⟨_, graph_in.ok _ _, _, fun _ => graph_in.ok _ _, fun a _ => isI_R a, fun _ b => isI_R b, ?_⟩
  rw [edge_not]
  by_cases hc : edgeOk g s = true
  · rw [if_neg (by simp [hc])]
    have e : stepOk g s = kindOk g s := by simp [stepOk, hc]
    rw [e]
    refine ⟨_, graph_in.ok _ _, _, graph_in.ok _ _, ?_⟩
    unfold kindOk
    by_cases h1 : s.Kind = 1
    · rw [if_pos h1, if_pos h1]; simp
    rw [if_neg h1, if_neg h1]
    by_cases h2 : s.Kind = 2
    · rw [if_pos h2, if_pos h2]; show _ = _; simp
    rw [if_neg h2, if_neg h2]
    by_cases h4 : s.Kind = 4
    · rw [if_pos h4]
      have : (s.Kind == 4) = true := by simp [h4]
      rw [this, if_neg (by omega), if_pos h4]
      show _ = _; simp
    rw [if_neg h4]
    by_cases h5 : s.Kind = 5
    · rw [if_pos h5]
      have : (s.Kind == 5) = true := by simp [h5]
      rw [this, if_neg (by omega), if_neg h4, if_pos h5]
      show _ = _; simp
    rw [if_neg h5]
    by_cases h6 : s.Kind = 6
    · have : (s.Kind == 6) = true := by simp [h6]
      rw [this, if_neg (by omega), if_neg h4, if_neg h5, if_pos h6]
      show _ = _; simp
    have : (s.Kind == 6) = false := by simp [h6]
    rw [this]
    show if s.Kind = 3 then _ else _
    by_cases h3 : s.Kind = 3
    · rw [if_pos h3, if_pos h3]; show _ = _; simp
    rw [if_neg h3, if_neg h3, if_neg h4, if_neg h5, if_neg h6]
    by_cases h8 : s.Kind = 8
    · rw [if_pos h8, if_pos h8]
      refine ⟨_, graph_in.ok _ _, fun a => isI_R a, fun a _ => isI_R a, ?_⟩
      by_cases hs : ((!isI s.Site g.Sites.length) || ((!((rdl g.Sites s.Site).From == s.From)) || ((rdl g.Sites s.Site).Back != s.To))) = true
      · rw [if_pos hs]
        rw [← Bool.not_eq_true]
        intro hk
        simp only [Bool.and_eq_true, beq_iff_eq] at hk
        simp [hk.1, hk.2.1, hk.2.2.1] at hs
      · rw [if_neg hs]
        simp only [Bool.or_eq_true, Bool.not_eq_true', bne_iff_ne, ne_eq, not_or, Bool.not_eq_false, Decidable.not_not, beq_iff_eq] at hs
        simp [hs.1, hs.2.1, hs.2.2]
    · rw [if_neg h8, if_neg h8]
  · rw [if_pos (by simpa using hc)]
    have : edgeOk g s = false := by simpa using hc
    simp [stepOk, this]
theorem r21_step.ok {g : TGraph} {s : TStep} : r21_step.f g s (stepOk g s) := by
  refine ⟨_, r21_in.ok _ _, _, fun _ => r21_in.ok _ _, fun a _ => isI_R a, fun _ b => isI_R b, ?_⟩
  by_cases hc : edgeOk g s = true
  · have e : stepOk g s = kindOk g s := by simp [stepOk, hc]
    rw [e]
    simp only [edgeOk, Bool.and_eq_true, beq_iff_eq] at hc
    obtain ⟨c1, c2, c3⟩ := hc
    simp only [c1, c2, c3, BEq.rfl, Bool.not_true, Bool.false_or]
    by_cases hq : (bif (s.K == 0) then ((!(s.Site == 0)) && (s.Kind != 8)) else ((!(s.Kind == 2)) || ((!(s.Site == 0)) && (s.Kind != 8)))) = true
    · rw [if_pos hq]
      unfold kindOk
      by_cases hK : s.K = 0
      · simp only [hK, BEq.rfl, cond_true, Bool.and_eq_true, Bool.not_eq_true', beq_eq_false_iff_ne, ne_eq, bne_iff_ne] at hq
        have h9 : (s.Site == 0) = false := by simpa using hq.1
        simp only [h9, Bool.and_false, hq.2, if_false]
        simp
      · have hK2 : (s.K == 0) = false := by simpa using hK
        simp only [hK2, cond_false, Bool.or_eq_true, Bool.and_eq_true, Bool.not_eq_true', beq_eq_false_iff_ne, ne_eq, bne_iff_ne] at hq
        simp only [hK2, Bool.and_false, Bool.false_and]
        by_cases h2 : s.Kind = 2
        · rw [if_neg (by omega), if_pos h2]
          have h9 : (s.Site == 0) = false := by
            rcases hq with h | h
            · exact (h h2).elim
            · simpa using h.1
          simp [h9]
        · simp [h2]
    · rw [if_neg hq]
      have hq2 : (s.K = 0 ∨ s.Kind = 2) ∧ (s.Site = 0 ∨ s.Kind = 8) := by
        by_cases hK : s.K = 0
        · simp only [hK, BEq.rfl, cond_true, Bool.and_eq_true, Bool.not_eq_true', beq_eq_false_iff_ne, ne_eq, bne_iff_ne, not_and, Decidable.not_not] at hq
          exact ⟨.inl hK, by by_cases h : s.Site = 0; exact .inl h; exact .inr (hq h)⟩
        · have hK2 : (s.K == 0) = false := by simpa using hK
          simp only [hK2, cond_false, Bool.or_eq_true, Bool.and_eq_true, Bool.not_eq_true', beq_eq_false_iff_ne, ne_eq, bne_iff_ne, not_or, not_and, Decidable.not_not] at hq
          exact ⟨.inr hq.1, by by_cases h : s.Site = 0; exact .inl h; exact .inr (hq.2 h)⟩
      obtain ⟨q1, q2⟩ := hq2
      unfold kindOk
      by_cases h1 : s.Kind = 1
      · have : s.K = 0 := by omega
        have : s.Site = 0 := by omega
        rw [if_pos h1, if_pos h1]; simp [*]
      rw [if_neg h1, if_neg h1]
      by_cases h2 : s.Kind = 2
      · have : s.Site = 0 := by omega
        have e2 : (s.Kind == 2) = true := by simp [h2]
        rw [if_pos h2, if_pos h2, e2]
        exact ⟨_, r21_in.ok _ _, by simp [*]⟩
      rw [if_neg h2, if_neg h2]
      have hK : s.K = 0 := by omega
      by_cases h4 : s.Kind = 4
      · have : s.Site = 0 := by omega
        have e2 : (s.Kind == 4) = true := by simp [h4]
        rw [if_pos h4, if_neg (by omega), if_pos h4, e2]
        exact ⟨_, r21_in.ok _ _, by simp [*]⟩
      rw [if_neg h4]
      by_cases h5 : s.Kind = 5
      · have : s.Site = 0 := by omega
        have e2 : (s.Kind == 5) = true := by simp [h5]
        rw [if_pos h5, if_neg (by omega), if_neg h4, if_pos h5, e2]
        exact ⟨_, r21_in.ok _ _, by simp [*]⟩
      rw [if_neg h5]
      by_cases h6 : s.Kind = 6
      · have : s.Site = 0 := by omega
        have e2 : (s.Kind == 6) = true := by simp [h6]
        rw [if_neg (by omega), if_neg h4, if_neg h5, if_pos h6, e2]
        exact ⟨_, r21_in.ok _ _, by simp [*]⟩
      have e6 : (s.Kind == 6) = false := by simp [h6]
      rw [e6]
      show if s.Kind = 3 then _ else _
      by_cases h3 : s.Kind = 3
      · have : s.Site = 0 := by omega
        rw [if_pos h3, if_pos h3]
        exact ⟨_, r21_in.ok _ _, _, fun _ => r21_in.ok _ _, by simp [*]⟩
      rw [if_neg h3, if_neg h3, if_neg h4, if_neg h5, if_neg h6]
      by_cases h8 : s.Kind = 8
      · rw [if_pos h8, if_pos h8]
        refine ⟨_, fun _ _ => r21_in.ok _ _, fun _ _ a => isI_R a, fun _ _ a _ => isI_R a, ?_⟩
        rw [Bool.eq_iff_iff]
        simp only [Bool.and_eq_true, beq_iff_eq, hK, and_true]
        exact ⟨fun ⟨a, b, c, d, e⟩ => ⟨d, e, a, b, c⟩, fun ⟨d, e, a, b, c⟩ => ⟨a, b, c, d, e⟩⟩
      · rw [if_neg h8, if_neg h8]
  · have hc2 : edgeOk g s = false := by simpa using hc
    rw [if_pos]
    · simp [stepOk, hc2]
    · simp only [edgeOk, Bool.and_eq_false_iff] at hc2
      rcases hc2 with h | h | h
      · simp [h]
      · simp [h]
      · simp only [h, Bool.not_false, Bool.true_or, Bool.or_true]
end Go.RM.Tryz
namespace Go.RM.Tryz
open Go.RM
set_option linter.unusedVariables false
set_option linter.unusedSimpArgs false
def nextOk (g : TGraph) (s : TStep) (c : Int) : Bool := stepOk g s && (!(s.Kind == 8) || s.Site == c)
def nextC (s : TStep) (c : Int) : Int := if s.Kind = 8 then c + 1 else c
def stepsO (g : TGraph) : List TStep → Int → Option Int
  | [], c => some c
  | s :: l, c => if nextOk g s c = true then stepsO g l (nextC s c) else none
def pointsOk (g : TGraph) : Bool := g.Points.all fun p => isI p.Node g.Of.length
def sinkOk (g : TGraph) (s : TSink) : Bool := isI s.Node g.Of.length && isI s.X g.Vars.length
def gOk (g : TGraph) : Bool := headsOk g && (decide (stepsO g g.Steps 0 = some (g.Sites.length : Int)) && (pointsOk g && g.Sinks.all (sinkOk g)))
def chkG (g : TGraph) : Int := if gOk g = true then 0 else 213
def progF (g : TGraph) : List TStep → Bool → Int → Bool × Int
  | [], ok, c => (ok, c)
  | s :: l, ok, c => if ok = true then progF g l (nextOk g s c) (nextC s c) else (ok, c)
theorem progF_no (g : TGraph) (l : List TStep) (c : Int) : progF g l false c = (false, c) := by
  cases l with
  | nil => rfl
  | cons s l => simp [progF]
theorem progF_steps (g : TGraph) (n : Int) : ∀ (l : List TStep) (ok : Bool) (c : Int), ((progF g l ok c).1 && ((progF g l ok c).2 == n)) = (ok && decide (stepsO g l c = some n))
  | l, false, c => by rw [progF_no]; rfl
  | [], true, c => by simp only [progF, stepsO, Option.some.injEq]; rfl
  | s :: l, true, c => by
    simp only [progF, stepsO, if_true]
    rw [progF_steps g n l]
    by_cases h : nextOk g s c = true
    · simp [h]
    · have h2 : nextOk g s c = false := by simpa using h
      simp [h2]
theorem nextC_rng {s : TStep} {c i : Int} (h0 : 0 ≤ c) (h1 : c ≤ i) : 0 ≤ nextC s c ∧ nextC s c ≤ i + 1 := by
  unfold nextC; split <;> omega
theorem stepsLoop {g : TGraph} (hg : GLen g) (ok : Bool) : Loop (graph_Check.b1 g) (ok, 0, 0) (.go (progF g g.Steps ok 0)) := by
  have hm : maxLen ≤ 9223372036854775807 := by decide
  have key := Loop.of (b := graph_Check.b1 g) (fun s => (.go (progF g (g.Steps.drop s.2.2.toNat) s.1 s.2.1) : Fin (Bool × Int) Int)) (fun s => ((g.Steps.length : Int) - s.2.2).toNat) (fun s => 0 ≤ s.2.2 ∧ 0 ≤ s.2.1 ∧ s.2.1 ≤ s.2.2) (fun s hi => by
    obtain ⟨ok, c, i⟩ := s
    obtain ⟨h0, h1, h2⟩ := hi
    simp only at h0 h1 h2 ⊢
    by_cases hc : (ok && (decide (i < (g.Steps.length : Int)))) = true
    · rw [Bool.and_eq_true, decide_eq_true_eq] at hc
      obtain ⟨rfl, hlt⟩ := hc
      have hl := hg.steps
      have hd := drop_rdl h0 hlt
      refine .inl ⟨(nextOk g (rdl g.Steps i) c, nextC (rdl g.Steps i) c, i + 1), ?_, by simp; omega, ⟨by simp; omega, (nextC_rng h1 h2).1, (nextC_rng h1 h2).2⟩, ?_⟩
      · show if (true && (decide (i < (g.Steps.length : Int)))) = true then _ else _
        rw [if_pos (by simpa using hlt)]
        refine ⟨⟨h0, hlt⟩, _, graph_stepRight.ok, ?_⟩
        have e1 := wrap_len (l := g.Steps) hg.steps h0 hlt
        by_cases h8 : (rdl g.Steps i).Kind = 8
        · rw [if_pos h8]
          show _ = _
          have e2 : IntKind.i64.wrap (c + 1) = c + 1 := wrap64 (by omega) (by omega)
          rw [e1, e2]
          simp [nextOk, nextC, h8]
        · rw [if_neg h8]
          show _ = _
          rw [e1]
          simp [nextOk, nextC, h8]
      · simp only [hd, progF, if_true]
    · refine .inr (.inl ⟨(ok, c), ?_, ?_⟩)
      · show if (ok && (decide (i < (g.Steps.length : Int)))) = true then _ else _
        rw [if_neg hc]
      · cases ok with
        | false => rw [progF_no]
        | true =>
          have : ¬ i < (g.Steps.length : Int) := by simpa using hc
          rw [drop_end h0 this]; rfl) (ok, 0, 0) ⟨by simp, by simp, by simp⟩
  simpa using key
theorem graph_Check.ok {g : TGraph} (hg : GLen g) : graph_Check.f g (chkG g) := by
  refine ⟨_, graph_procsRight.ok hg, _, stepsLoop hg _, ?_⟩
  have hs := progF_steps g (g.Sites.length : Int) g.Steps (headsOk g) 0
  generalize progF g g.Steps (headsOk g) 0 = x at hs
  obtain ⟨ok, c⟩ := x
  simp only at hs
  show ∃ t54_5 : Bool, _
  obtain ⟨t, ht, he⟩ := containsFunc (q := fun x0_ y_ => graph_Check_1.f x0_ g y_) (b := slices_IndexFunc_Point.b1 g.Points (fun x0_ y_ => graph_Check_1.f x0_ g y_)) (fun p => !isI p.Node g.Of.length) hg.points (fun x _ => ⟨_, graph_in.ok _ _, rfl⟩) rfl
  obtain ⟨t2, ht2, he2⟩ := containsFunc (q := fun x0_ y_ => graph_Check_2.f x0_ g y_) (b := slices_IndexFunc_Sink.b1 g.Sinks (fun x0_ y_ => graph_Check_2.f x0_ g y_)) (fun s => !sinkOk g s) hg.sinks (fun x _ => ⟨_, graph_in.ok _ _, _, fun _ => graph_in.ok _ _, by simp [sinkOk, Bool.not_and]⟩) rfl
  refine ⟨_, fun _ => ⟨t, ht, he⟩, _, fun _ => ⟨t2, ht2, he2⟩, ?_⟩
  have e1 := notAny (fun p : TPoint => isI p.Node g.Of.length) g.Points
  have e2 := notAny (sinkOk g) g.Sinks
  rw [hs, e1, e2]
  have eq : (headsOk g && decide (stepsO g g.Steps 0 = some (g.Sites.length : Int)) && (g.Points.all fun p => isI p.Node g.Of.length) && g.Sinks.all (sinkOk g)) = gOk g := by
    simp only [gOk, pointsOk, Bool.and_assoc]
  rw [eq]
  unfold chkG
  split <;> rfl
def stepR (g : TGraph) (i : Int) (s : TStep) (c : Int) : Fin Int Int := if nextOk g s c = true then .go (nextC s c) else .ret 213
theorem foldF_steps (g : TGraph) : ∀ (l : List TStep) (i c : Int), foldF (stepR g) l i c = match stepsO g l c with
    | some n => .go n
    | none => .ret 213
  | [], i, c => rfl
  | s :: l, i, c => by
    unfold foldF stepR stepsO
    by_cases h : nextOk g s c = true
    · rw [if_pos h, if_pos h]; exact foldF_steps g l (i + 1) _
    · rw [if_neg h, if_neg h]
theorem r21_Check.ok {g : TGraph} (hg : GLen g) : r21_Check.f g (chkG g) := by
  have hm : maxLen ≤ 9223372036854775807 := by decide
  refine ⟨_, r21_heads.ok hg, ?_⟩
  by_cases hh : headsOk g = true
  · rw [if_pos hh]
    have hL := foldLoop (l := g.Steps) (b := r21_Check.b1 g) (fun i c => (c, i)) id (stepR g) (fun i c => 0 ≤ c ∧ c ≤ i) (fun i c h0 hlt hi => by
      have e1 := wrap_len (l := g.Steps) hg.steps h0 hlt
      have hl := hg.steps
      unfold stepR
      have pre : ∀ z, (if stepOk g (rdl g.Steps i) = true then (((InR i g.Steps.length)) ∧ if (rdl g.Steps i).Kind = 8 then (((InR i g.Steps.length)) ∧ if (rdl g.Steps i).Site = c then (r21_Check.j1 i (IntKind.i64.wrap (c + 1)) z) else (z = .ret 213)) else (r21_Check.j1 i c z)) else (z = .ret 213)) → r21_Check.b1 g (c, i) z := fun z hz => by
        show if i < (g.Steps.length : Int) then _ else _
        rw [if_pos hlt]
        exact ⟨⟨h0, hlt⟩, _, r21_step.ok, hz⟩
      by_cases hn : nextOk g (rdl g.Steps i) c = true
      · rw [if_pos hn]
        refine ⟨pre _ ?_, nextC_rng hi.1 hi.2⟩
        simp only [nextOk, Bool.and_eq_true, Bool.or_eq_true, Bool.not_eq_true', beq_eq_false_iff_ne, ne_eq, beq_iff_eq] at hn
        rw [if_pos hn.1]
        refine ⟨⟨h0, hlt⟩, ?_⟩
        by_cases h8 : (rdl g.Steps i).Kind = 8
        · rw [if_pos h8]
          refine ⟨⟨h0, hlt⟩, ?_⟩
          have : (rdl g.Steps i).Site = c := by
            rcases hn.2 with h | h
            · exact (h h8).elim
            · exact h
          rw [if_pos this]
          show _ = _
          have e2 : IntKind.i64.wrap (c + 1) = c + 1 := wrap64 (by omega) (by omega)
          rw [e1, e2]; simp [nextC, h8]
        · rw [if_neg h8]
          show _ = _
          rw [e1]; simp [nextC, h8]
      · rw [if_neg hn]
        refine pre _ ?_
        by_cases hs : stepOk g (rdl g.Steps i) = true
        · rw [if_pos hs]
          refine ⟨⟨h0, hlt⟩, ?_⟩
          simp only [nextOk, hs, Bool.true_and, Bool.or_eq_true, Bool.not_eq_true', beq_eq_false_iff_ne, ne_eq, beq_iff_eq, not_or, Decidable.not_not] at hn
          rw [if_pos hn.1]
          refine ⟨⟨h0, hlt⟩, ?_⟩
          rw [if_neg hn.2]
        · rw [if_neg hs]) (fun s _ => by
      show if (g.Steps.length : Int) < (g.Steps.length : Int) then _ else _
      rw [if_neg (by omega)]; rfl) 0 ⟨by omega, by omega⟩
    rw [foldF_steps] at hL
    refine ⟨_, hL.1, ?_⟩
    have hfin : ∀ n, stepsO g g.Steps 0 = n → chkG g = if (n = some (g.Sites.length : Int)) then (if pointsOk g = true then (if g.Sinks.all (sinkOk g) = true then 0 else 213) else 213) else 213 := fun n hn => by
      unfold chkG gOk
      rw [hh, hn]
      by_cases h1 : n = some (g.Sites.length : Int)
      · rw [if_pos h1, decide_eq_true h1]
        by_cases h2 : pointsOk g = true
        · rw [if_pos h2, h2]; rfl
        · rw [if_neg h2]
          have : pointsOk g = false := by simpa using h2
          rw [this]; rfl
      · rw [if_neg h1, decide_eq_false h1]; rfl
    rw [hfin _ rfl]
    cases hst : stepsO g g.Steps 0 with
    | none => rfl
    | some n =>
      show if n = (g.Sites.length : Int) then _ else _
      by_cases h1 : n = (g.Sites.length : Int)
      · rw [if_pos h1, if_pos (by rw [h1])]
        refine ⟨_, eachLoop (l := g.Points) (fun p => isI p.Node g.Of.length) 213 (fun k h0 hk => ?_) (fun k h0 hk => by simp only [r21_Check.b2, hk, if_false]), ?_⟩
        · unfold r21_Check.b2
          simp only [hk, if_true]
          exact ⟨fun ht => ⟨⟨h0, hk⟩, _, r21_in.ok _ _, by rw [if_pos ht, wrap_len hg.points h0 hk]⟩, fun ht => ⟨⟨h0, hk⟩, _, r21_in.ok _ _, by rw [if_neg (by simp [ht])]; trivial⟩⟩
        · by_cases h2 : pointsOk g = true
          · have h2' : (g.Points.all fun p => isI p.Node g.Of.length) = true := h2
            rw [if_pos h2', if_pos h2]
            refine ⟨_, eachLoop (l := g.Sinks) (sinkOk g) 213 (fun k h0 hk => ?_) (fun k h0 hk => by simp only [r21_Check.b3, hk, if_false]), ?_⟩
            · unfold r21_Check.b3
              simp only [hk, if_true]
              refine ⟨fun ht => ⟨⟨h0, hk⟩, _, r21_in.ok _ _, fun _ => ⟨h0, hk⟩, _, fun _ => r21_in.ok _ _, ?_⟩, fun ht => ⟨⟨h0, hk⟩, _, r21_in.ok _ _, fun _ => ⟨h0, hk⟩, _, fun _ => r21_in.ok _ _, ?_⟩⟩
              · simp only [sinkOk, Bool.and_eq_true] at ht
                rw [if_neg (by simp [ht.1, ht.2]), wrap_len hg.sinks h0 hk]
              · rw [if_pos]
                · trivial
                · rw [← Bool.not_and]; unfold sinkOk at ht; rw [ht]; rfl
            · by_cases h3 : g.Sinks.all (sinkOk g) = true
              · rw [if_pos h3, if_pos h3]; rfl
              · rw [if_neg h3, if_neg h3]; rfl
          · have h2' : ¬ (g.Points.all fun p => isI p.Node g.Of.length) = true := h2
            rw [if_neg h2', if_neg h2]; rfl
      · rw [if_neg h1, if_neg (fun h => h1 (by injection h))]
  · rw [if_neg hh]
    have : headsOk g = false := by simpa using hh
    simp [chkG, gOk, this]
end Go.RM.Tryz
namespace Go.RM.Tryz
open Go.RM
set_option linter.unusedVariables false
set_option linter.unusedSimpArgs false
theorem stepsO_all {g : TGraph} : ∀ {l : List TStep} {c n : Int}, stepsO g l c = some n → ∀ s ∈ l, stepOk g s = true
  | [], c, n, h, s, hs => by cases hs
  | x :: l, c, n, h, s, hs => by
    unfold stepsO at h
    split at h
    · rename_i hn
      simp only [nextOk, Bool.and_eq_true] at hn
      cases hs with
      | head => exact hn.1
      | tail _ hs => exact stepsO_all h s hs
    · cases h
theorem stepsO_site {g : TGraph} : ∀ {l : List TStep} {c n : Int}, stepsO g l c = some n → ∀ k, c ≤ k → k < n → ∃ s ∈ l, s.Kind = 8 ∧ s.Site = k ∧ stepOk g s = true
  | [], c, n, h, k, h0, h1 => by
    injection h with h; omega
  | x :: l, c, n, h, k, h0, h1 => by
    unfold stepsO at h
    split at h
    · rename_i hn
      simp only [nextOk, Bool.and_eq_true, Bool.or_eq_true, Bool.not_eq_true', beq_eq_false_iff_ne, ne_eq, beq_iff_eq] at hn
      by_cases h8 : x.Kind = 8
      · have hs : x.Site = c := by
          rcases hn.2 with h | h
          · exact (h h8).elim
          · exact h
        by_cases hk : k = c
        · exact ⟨x, .head _, h8, by omega, hn.1⟩
        · have e : nextC x c = c + 1 := by simp [nextC, h8]
          rw [e] at h
          obtain ⟨s, hs, hr⟩ := stepsO_site h k (by omega) h1
          exact ⟨s, .tail _ hs, hr⟩
      · have e : nextC x c = c := by simp [nextC, h8]
        rw [e] at h
        obtain ⟨s, hs, hr⟩ := stepsO_site h k h0 h1
        exact ⟨s, .tail _ hs, hr⟩
    · cases h
structure GOk (g : TGraph) : Prop where
  vars : g.Vars.length ≤ 64
  entry : g.Entry.length = g.Procs.length
  exit : g.Exit.length = g.Procs.length
  main : isI g.Main g.Procs.length = true
  of_ : ∀ i, isI i g.Of.length = true → isI (rdl g.Of i) g.Procs.length = true
  ent : ∀ q, isI q g.Procs.length = true → isI (rdl g.Entry q) g.Of.length = true ∧ rdl g.Of (rdl g.Entry q) = q
  step : ∀ i, isI i g.Steps.length = true → stepOk g (rdl g.Steps i) = true
  proc : ∀ k, isI k g.Sites.length = true → isI (rdl g.Sites k).Proc g.Procs.length = true
  edge : ∀ k, isI k g.Sites.length = true → isI (rdl g.Sites k).From g.Of.length = true ∧ isI (rdl g.Sites k).Back g.Of.length = true ∧ rdl g.Of (rdl g.Sites k).From = rdl g.Of (rdl g.Sites k).Back
  sink : ∀ k, isI k g.Sinks.length = true → sinkOk g (rdl g.Sinks k) = true
theorem gOk.of {g : TGraph} (h : gOk g = true) : GOk g := by
  simp only [gOk, headsOk, Bool.and_eq_true, Bool.not_eq_true', decide_eq_true_eq] at h
  obtain ⟨⟨hb, hs, ho, hp, hst⟩, hsteps, hpo, hsi⟩ := h
  obtain ⟨h1, h2, h3, h4, h5, h6, h7⟩ := fstBad_not hb
  rw [List.all_eq_true] at ho hp hst hsi
  refine ⟨h1, h4, h5, h7, fun i hi => ?_, fun q hq => ?_, fun i hi => ?_, fun k hk => ?_, fun k hk => ?_, fun k hk => ?_⟩
  · have := isI_iff.1 hi
    exact ho _ (rdl_mem this.1 this.2)
  · have hq2 := isI_iff.1 hq
    have hm := hp (rdl (upto g.Procs.length) q) (rdl_mem hq2.1 (by rw [upto_len]; exact hq2.2))
    rw [rdl_upto hq2.1 hq2.2] at hm
    simp only [pairOk, endOk, Bool.and_eq_true, beq_iff_eq] at hm
    exact hm.1
  · have := isI_iff.1 hi
    exact stepsO_all hsteps _ (rdl_mem this.1 this.2)
  · have := isI_iff.1 hk
    exact hst _ (rdl_mem this.1 this.2)
  · have := isI_iff.1 hk
    obtain ⟨s, hs, h8, hk2, hok⟩ := stepsO_site hsteps k this.1 this.2
    simp only [stepOk, edgeOk, kindOk, h8, Bool.and_eq_true, beq_iff_eq] at hok
    obtain ⟨⟨e1, e2, e3⟩, hk3⟩ := hok
    simp at hk3
    obtain ⟨_, hf, hb, _⟩ := hk3
    rw [← hk2, hf, hb]
    exact ⟨e1, e2, e3⟩
  · have := isI_iff.1 hk
    exact hsi _ (rdl_mem this.1 this.2)
def siteOk (g : TGraph) (k at_ : Int) : Bool := isI k g.Sites.length && (rdl g.Sites k).Proc == at_
def behindK (g : TGraph) (k : Int) : Int := rdl g.Of (rdl g.Sites k).From
def stackF (g : TGraph) : List Int → Int → Bool
  | [], _ => true
  | k :: l, at_ => siteOk g k at_ && stackF g l (behindK g k)
def markOk (g : TGraph) (s : TState) : Bool := if g.Vars.length < 64 then decide (shrI .u64 s.Marks g.Vars.length = 0) else true
def stateOk (g : TGraph) (s : TState) : Bool := isI s.Node g.Of.length && (decide (s.Env.length = g.Vars.length) && (markOk g s && (decide (s.Stack.length ≤ 4096) && stackF g s.Stack (rdl g.Of s.Node))))
def chkS (g : TGraph) (s : TState) : Int := if gOk g = true then (if stateOk g s = true then 0 else 220) else 213
structure SLen (s : TState) : Prop where
  marks : InM s.Marks
  env : s.Env.length ≤ 17592186043904
  stack : s.Stack.length ≤ 17592186043904
theorem TState.Fit.len {s : TState} (h : s.Fit) : SLen s := by
  obtain ⟨_, h1, h2, h3⟩ := h
  exact ⟨wfu64 h2, by omega, by omega⟩
theorem SLen.stackM {s : TState} (h : SLen s) : s.Stack.length ≤ maxLen := by
  have := h.stack
  have hm : (17592186043904 : Nat) ≤ maxLen := by decide
  omega
def stepS {ρ : Type} (g : TGraph) (rv : ρ) (i : Int) (k at_ : Int) : Fin Int ρ := if siteOk g k at_ = true then .go (behindK g k) else .ret rv
theorem foldF_stack {ρ : Type} (g : TGraph) (rv : ρ) : ∀ (l : List Int) (i at_ : Int), ((foldF (stepS g rv) l i at_).map (fun _ => ()) : Fin Unit ρ) = if stackF g l at_ = true then .go () else .ret rv
  | [], i, at_ => rfl
  | k :: l, i, at_ => by
    unfold foldF stepS stackF
    by_cases h : siteOk g k at_ = true
    · rw [if_pos h, h, Bool.true_and]; exact foldF_stack g rv l (i + 1) _
    · rw [if_neg h]
      have : siteOk g k at_ = false := by simpa using h
      rw [this]; rfl
theorem site_not {g : TGraph} {k at_ : Int} : ((decide (k < 0)) || ((decide (k ≥ (g.Sites.length : Int))) || ((rdl g.Sites k).Proc != at_))) = !siteOk g k at_ := by
  have e : isI k g.Sites.length = (!decide (k < 0) && !decide (k ≥ (g.Sites.length : Int))) := by
    rw [Bool.eq_iff_iff]
    simp [isI]
  simp [siteOk, e, bne, Bool.not_and, Bool.or_assoc]
theorem stackLoop {ρ : Type} {g : TGraph} {s : TState} (hG : GOk g) (hl : s.Stack.length ≤ maxLen) (rv : ρ) (b : (Int × Int) → Rnd (Int × Int) Unit ρ → Prop)
    (hb : b = fun (x1, x2) z1 => if x2 < (s.Stack.length : Int) then (((InR x2 s.Stack.length)) ∧ (¬ ((rdl s.Stack x2) < 0) → ¬ ((rdl s.Stack x2) ≥ (g.Sites.length : Int)) → (InR (rdl s.Stack x2) g.Sites.length)) ∧ if ((decide ((rdl s.Stack x2) < 0)) || ((decide ((rdl s.Stack x2) ≥ (g.Sites.length : Int))) || ((rdl g.Sites (rdl s.Stack x2)).Proc != x1))) = true then (z1 = .ret rv) else (((InR (rdl s.Stack x2) g.Sites.length)) ∧ ((InR ((rdl g.Sites (rdl s.Stack x2)).From) g.Of.length)) ∧ z1 = .next ((rdl g.Of ((rdl g.Sites (rdl s.Stack x2)).From)), (IntKind.i64.wrap (x2 + 1))))) else (z1 = .exit ())) (at_ : Int) :
    Loop b (at_, 0) (if stackF g s.Stack at_ = true then .go () else .ret rv) := by
  have hL := foldLoop (l := s.Stack) (b := b) (fun i at_ => (at_, i)) (fun _ => ()) (stepS g rv) (fun _ _ => True) (fun i a h0 hlt _ => by
    unfold stepS
    have pre : ∀ z, (if ((decide ((rdl s.Stack i) < 0)) || ((decide ((rdl s.Stack i) ≥ (g.Sites.length : Int))) || ((rdl g.Sites (rdl s.Stack i)).Proc != a))) = true then (z = .ret rv) else (((InR (rdl s.Stack i) g.Sites.length)) ∧ ((InR ((rdl g.Sites (rdl s.Stack i)).From) g.Of.length)) ∧ z = .next ((rdl g.Of ((rdl g.Sites (rdl s.Stack i)).From)), (IntKind.i64.wrap (i + 1))))) → b (a, i) z := fun z hz => by
      rw [hb]
      show if i < (s.Stack.length : Int) then _ else _
      rw [if_pos hlt]
      exact ⟨⟨h0, hlt⟩, fun a b => ⟨by omega, by omega⟩, hz⟩
    by_cases h : siteOk g (rdl s.Stack i) a = true
    · rw [if_pos h]
      refine ⟨pre _ ?_, trivial⟩
      rw [site_not, h, if_neg (by simp)]
      simp only [siteOk, Bool.and_eq_true] at h
      exact ⟨isI_R h.1, isI_R (hG.edge _ h.1).1, by rw [wrap_len hl h0 hlt]; rfl⟩
    · rw [if_neg h]
      refine pre _ ?_
      have : siteOk g (rdl s.Stack i) a = false := by simpa using h
      rw [site_not, this, if_pos (show (!false) = true from rfl)]) (fun a _ => by
    rw [hb]
    show if (s.Stack.length : Int) < (s.Stack.length : Int) then _ else _
    rw [if_neg (by omega)]) at_ trivial
  rw [foldF_stack] at hL
  exact hL.1
def topOk (g : TGraph) (s : TState) : Bool := isI s.Node g.Of.length && (decide (s.Env.length = g.Vars.length) && (markOk g s && decide (s.Stack.length ≤ 4096)))
theorem stateOk_top (g : TGraph) (s : TState) : stateOk g s = (topOk g s && stackF g s.Stack (rdl g.Of s.Node)) := by
  simp only [stateOk, topOk, Bool.and_assoc]
theorem top_not {g : TGraph} {s : TState} : ((decide (s.Node < 0)) || ((decide (s.Node ≥ (g.Of.length : Int))) || ((!((s.Env.length : Int) == (g.Vars.length : Int))) || (bif (decide ((g.Vars.length : Int) < 64)) then ((!((shrI .u64 s.Marks (g.Vars.length : Int)) == 0)) || (decide ((s.Stack.length : Int) > 4096))) else (decide ((s.Stack.length : Int) > 4096)))))) = !topOk g s := by
  have e : isI s.Node g.Of.length = (!decide (s.Node < 0) && !decide (s.Node ≥ (g.Of.length : Int))) := by
    rw [Bool.eq_iff_iff]
    simp [isI]
  have e2 : ((s.Env.length : Int) == (g.Vars.length : Int)) = decide (s.Env.length = g.Vars.length) := by
    rw [Bool.eq_iff_iff]; simp; omega
  have e3 : decide ((s.Stack.length : Int) > 4096) = !decide (s.Stack.length ≤ 4096) := by
    rw [Bool.eq_iff_iff]; simp; omega
  unfold topOk markOk
  rw [e, e2, e3]
  by_cases hv : g.Vars.length < 64
  · have : decide ((g.Vars.length : Int) < 64) = true := by simp; omega
    rw [this, if_pos hv]
    simp only [cond_true, Bool.not_and, Bool.not_not, Bool.or_assoc]
    congr 4
  · have : decide ((g.Vars.length : Int) < 64) = false := by simp; omega
    rw [this, if_neg hv]
    simp only [cond_false, Bool.not_and, Bool.not_not, Bool.or_assoc, Bool.not_true, Bool.false_or]
theorem frames_Check.ok {g : TGraph} {s : TState} (hg : GLen g) (hs : SLen s) : frames_Check.f g s (chkS g s) := by
  refine ⟨_, graph_Check.ok hg, ?_⟩
  unfold chkG chkS
  by_cases hk : gOk g = true
  · rw [if_pos hk, if_pos rfl]
    have hG := gOk.of hk
    refine ⟨fun _ _ _ _ => Int.natCast_nonneg _, ?_⟩
    rw [top_not, if_pos hk, stateOk_top]
    by_cases ht : topOk g s = true
    · rw [ht, if_neg (by simp), Bool.true_and]
      refine ⟨isI_R (by simp only [topOk, Bool.and_eq_true] at ht; exact ht.1), _, stackLoop hG hs.stackM 220 _ rfl _, ?_⟩
      by_cases hq : stackF g s.Stack (rdl g.Of s.Node) = true
      · rw [if_pos hq, if_pos hq]; rfl
      · rw [if_neg hq, if_neg hq]; rfl
    · have : topOk g s = false := by simpa using ht
      rw [this, if_pos (show (!false) = true from rfl)]; rfl
  · rw [if_neg hk, if_neg (by decide), if_neg hk]
def hiOk (m : Int) (i : Nat) : Bool := (List.range 64).all fun j => decide (j < i) || !bitM m j
theorem hiOk_iff {m : Int} {i : Nat} : hiOk m i = true ↔ ∀ j, i ≤ j → j < 64 → bitM m j = false := by
  unfold hiOk
  rw [List.all_eq_true]
  constructor
  · intro h j h0 h1
    have := h j (List.mem_range.2 h1)
    simp only [Bool.or_eq_true, decide_eq_true_eq, Bool.not_eq_true'] at this
    rcases this with h | h
    · omega
    · exact h
  · intro h j hj
    simp only [Bool.or_eq_true, decide_eq_true_eq, Bool.not_eq_true']
    by_cases hji : j < i
    · exact .inl hji
    · exact .inr (h j (by omega) (List.mem_range.1 hj))
theorem hiOk_step {m : Int} {i : Nat} (h : i < 64) : hiOk m i = (!bitM m i && hiOk m (i + 1)) := by
  rw [Bool.eq_iff_iff, Bool.and_eq_true, hiOk_iff, hiOk_iff, Bool.not_eq_true']
  constructor
  · exact fun hh => ⟨hh i (Nat.le_refl _) h, fun j h0 h1 => hh j (by omega) h1⟩
  · intro ⟨h0, h1⟩ j hj hj2
    by_cases he : j = i
    · rw [he]; exact h0
    · exact h1 j (by omega) hj2
theorem markOk_hi {g : TGraph} {s : TState} (hv : g.Vars.length ≤ 64) (hm : InM s.Marks) : markOk g s = hiOk s.Marks g.Vars.length := by
  unfold markOk
  rw [Bool.eq_iff_iff, hiOk_iff]
  by_cases h : g.Vars.length < 64
  · rw [if_pos h, decide_eq_true_eq, shr_zero hm hv]
    constructor
    · exact fun hh j h0 _ => hh j h0
    · intro hh j h0
      by_cases hj : j < 64
      · exact hh j h0 hj
      · exact bitM_high hm (by omega)
  · rw [if_neg h]
    simp
    intro j h0 h1; omega
theorem marksLoop {s : TState} (hm : InM s.Marks) (n : Nat) (hn : n ≤ 64) : Loop (r22_state.b1 s) (n : Int) (if hiOk s.Marks n = true then .go () else .ret false) := by
  have key := Loop.of (b := r22_state.b1 s) (fun x => (if hiOk s.Marks x.toNat = true then .go () else .ret false : Fin Unit Bool)) (fun x => (64 - x).toNat) (fun x => 0 ≤ x ∧ x ≤ 64) (fun x hi => by
    obtain ⟨h0, h1⟩ := hi
    by_cases hc : x < 64
    · have hw : IntKind.u64.wrap x = x := wrapu64 h0 (by omega)
      have hb := bit_at hm h0 hc
      have hst := hiOk_step (m := s.Marks) (i := x.toNat) (by omega)
      by_cases hq : bitM s.Marks x.toNat = true
      · refine .inr (.inr ⟨false, ?_, ?_⟩)
        · show if x < 64 then _ else _
          rw [if_pos hc, hw]
          exact ⟨h0, by rw [if_pos (hb.2 hq)]⟩
        · rw [hst, hq]; rfl
      · refine .inl ⟨x + 1, ?_, by omega, by omega, ?_⟩
        · show if x < 64 then _ else _
          rw [if_pos hc, hw]
          exact ⟨h0, by rw [if_neg (fun h => hq (hb.1 h)), wrap64 (by omega) (by omega)]⟩
        · have hq2 : bitM s.Marks x.toNat = false := by simpa using hq
          rw [hst, hq2, show (x + 1).toNat = x.toNat + 1 by omega]; rfl
    · refine .inr (.inl ⟨(), ?_, ?_⟩)
      · show if x < 64 then _ else _
        rw [if_neg hc]
      · rw [if_pos]
        rw [hiOk_iff]
        intro j h2 h3; omega) (n : Int) ⟨by omega, by omega⟩
  simpa using key
theorem r22_Check.ok {g : TGraph} {s : TState} (hg : GLen g) (hs : SLen s) : r22_Check.f g s (chkS g s) := by
  refine ⟨_, r21_Check.ok hg, ?_⟩
  unfold chkG chkS
  by_cases hk : gOk g = true
  · rw [if_pos hk, if_pos rfl, if_pos hk]
    have hG := gOk.of hk
    refine ⟨stateOk g s, ?_, by split <;> rfl⟩
    have hmk := markOk_hi hG.vars hs.marks
    have hC : ((decide (s.Node < 0)) || ((decide (s.Node ≥ (g.Of.length : Int))) || ((!((s.Env.length : Int) == (g.Vars.length : Int))) || (decide ((s.Stack.length : Int) > 4096))))) = !(isI s.Node g.Of.length && (decide (s.Env.length = g.Vars.length) && decide (s.Stack.length ≤ 4096))) := by
      have e : isI s.Node g.Of.length = (!decide (s.Node < 0) && !decide (s.Node ≥ (g.Of.length : Int))) := by
        rw [Bool.eq_iff_iff]
        simp [isI]
      have e2 : ((s.Env.length : Int) == (g.Vars.length : Int)) = decide (s.Env.length = g.Vars.length) := by
        rw [Bool.eq_iff_iff]; simp; omega
      have e3 : decide ((s.Stack.length : Int) > 4096) = !decide (s.Stack.length ≤ 4096) := by
        rw [Bool.eq_iff_iff]; simp; omega
      rw [e, e2, e3]
      simp only [Bool.not_and, Bool.not_not, Bool.or_assoc]
    show if _ then _ else _
    rw [hC]
    by_cases ht : (isI s.Node g.Of.length && (decide (s.Env.length = g.Vars.length) && decide (s.Stack.length ≤ 4096))) = true
    · rw [ht, if_neg (by simp)]
      simp only [Bool.and_eq_true] at ht
      obtain ⟨t1, t2, t3⟩ := ht
      have est : stateOk g s = (hiOk s.Marks g.Vars.length && stackF g s.Stack (rdl g.Of s.Node)) := by
        simp only [stateOk, t1, t2, t3, Bool.true_and, hmk]
      refine ⟨_, marksLoop hs.marks _ hG.vars, ?_⟩
      by_cases hq : hiOk s.Marks g.Vars.length = true
      · rw [if_pos hq]
        refine ⟨isI_R t1, _, stackLoop hG hs.stackM false _ rfl _, ?_⟩
        rw [est, hq, Bool.true_and]
        by_cases hf : stackF g s.Stack (rdl g.Of s.Node) = true
        · rw [if_pos hf, hf]; rfl
        · have : stackF g s.Stack (rdl g.Of s.Node) = false := by simpa using hf
          rw [if_neg hf, this]; rfl
      · have : hiOk s.Marks g.Vars.length = false := by simpa using hq
        rw [if_neg hq, est, this]; rfl
    · have : (isI s.Node g.Of.length && (decide (s.Env.length = g.Vars.length) && decide (s.Stack.length ≤ 4096))) = false := by simpa using ht
      rw [this, if_pos (show (!false) = true from rfl)]
      have h2 : stateOk g s = ((isI s.Node g.Of.length && (decide (s.Env.length = g.Vars.length) && decide (s.Stack.length ≤ 4096))) && (markOk g s && stackF g s.Stack (rdl g.Of s.Node))) := by
        simp only [stateOk]
        generalize isI s.Node g.Of.length = a
        generalize decide (s.Env.length = g.Vars.length) = b
        generalize decide (s.Stack.length ≤ 4096) = c
        generalize markOk g s = d
        generalize stackF g s.Stack (rdl g.Of s.Node) = e
        cases a <;> cases b <;> cases c <;> cases d <;> cases e <;> rfl
      rw [h2, this]; rfl
  · rw [if_neg hk, if_neg (by decide), if_neg hk]
end Go.RM.Tryz
namespace Go.RM.Tryz
open Go.RM
set_option linter.unusedVariables false
set_option linter.unusedSimpArgs false
def noneS : TState := ⟨0, [], 0, []⟩
def overM (g : TGraph) (s : TState) : Bool := (s.Node == (rdl g.Exit (rdl g.Of s.Node))) && (decide ((s.Stack.length : Int) > 0))
structure SOk (g : TGraph) (s : TState) : Prop where
  node : isI s.Node g.Of.length = true
  env : s.Env.length = g.Vars.length
  mark : markOk g s = true
  short : s.Stack.length ≤ 4096
  stack : stackF g s.Stack (rdl g.Of s.Node) = true
  marks : InM s.Marks
theorem SOk.of {g : TGraph} {s : TState} (h : stateOk g s = true) (hm : InM s.Marks) : SOk g s := by
  simp only [stateOk, Bool.and_eq_true, decide_eq_true_eq] at h
  exact ⟨h.1, h.2.1, h.2.2.1, h.2.2.2.1, h.2.2.2.2, hm⟩
theorem SOk.len {g : TGraph} {s : TState} (hG : GOk g) (h : SOk g s) : SLen s := ⟨h.marks, by have := hG.vars; have := h.env; omega, by have := h.short; omega⟩
theorem frames_over.ok {g : TGraph} {s : TState} (hG : GOk g) (h : SOk g s) : frames_over.f g s (overM g s) :=
  ⟨isI_R h.node, by have := hG.of_ _ h.node; rw [← hG.exit] at this; exact isI_R this, rfl⟩
theorem r22_over.ok {g : TGraph} {s : TState} (hG : GOk g) (h : SOk g s) : r22_over.f g s (overM g s) :=
  ⟨fun _ => isI_R h.node, fun _ => by have := hG.of_ _ h.node; rw [← hG.exit] at this; exact isI_R this, by unfold overM; rw [Bool.and_comm]⟩
end Go.RM.Tryz
namespace Go.RM.Tryz
open Go.RM
set_option linter.unusedVariables false
set_option linter.unusedSimpArgs false
theorem r22_Same.refl {s : TState} (h1 : s.Env.length ≤ maxLen) (h2 : s.Stack.length ≤ maxLen) : r22_Same.f s s true := by
  unfold r22_Same.f
  rw [if_neg (by simp)]
  have e1 := eqRound (b := r22_Same.b1 s s) h1 rfl rfl
  have e2 := eqRound (b := r22_Same.b2 s s) h2 rfl rfl
  rw [if_pos rfl] at e1 e2
  exact ⟨_, e1, _, e2, rfl⟩
theorem l22_numbers.refl {l : List Int} (h1 : l.length ≤ maxLen) : l22_numbers.f l l true := by
  unfold l22_numbers.f
  rw [if_pos rfl]
  have e1 := eqRound (b := l22_numbers.b1 l l) h1 rfl rfl
  rw [if_pos rfl] at e1
  exact ⟨_, e1, rfl⟩
theorem SOk.same {g : TGraph} {s : TState} (hG : GOk g) (h : SOk g s) : r22_Same.f s s true := by
  have hm : (4096 : Nat) ≤ maxLen := by decide
  exact r22_Same.refl (by have := h.env; have := hG.vars; omega) (by have := h.short; omega)
theorem none_same : r22_Same.f noneS noneS true := r22_Same.refl (by simp [noneS]) (by simp [noneS])
end Go.RM.Tryz
namespace Go.RM.Tryz
open Go.RM
set_option linter.unusedVariables false
set_option linter.unusedSimpArgs false
def pickG {α : Type} (p : α → Bool) (i : Int) (x : α) (acc : List Int) : List Int := if p x = true then acc ++ [i] else acc
def pickM {α : Type} (p : α → Bool) (l : List α) : List Int := foldG (pickG p) l 0 []
theorem pickLoop {α ρ : Type} [Inhabited α] {l : List α} (p : α → Bool) {b : (List Int × Int) → Rnd (List Int × Int) (List Int) ρ → Prop}
    (hb : ∀ (i : Int) (acc : List Int), 0 ≤ i → i < (l.length : Int) → (acc.length : Int) ≤ i → b (acc, i) (.next (pickG p i (rdl l i) acc, i + 1))) (hend : ∀ acc, b (acc, (l.length : Int)) (.exit acc)) :
    Loop b ([], 0) (.go (pickM p l)) ∧ (pickM p l).length ≤ l.length := by
  have key := foldGLoop (l := l) (b := b) (fun i (acc : List Int) => (acc, i)) id (pickG p) (fun i acc => (acc.length : Int) ≤ i) (fun i acc h0 h1 hi => ⟨hb i acc h0 h1 hi, by
    unfold pickG; split
    · simp; omega
    · omega⟩) (fun acc _ => hend acc) [] (by simp)
  have hl := foldG_inv (g := pickG p) (fun i acc => (acc.length : Int) ≤ i) l 0 [] (fun i acc x _ h => by
    unfold pickG; split
    · simp; omega
    · omega) (by simp)
  exact ⟨key.1, by unfold pickM; omega⟩
def startM (g : TGraph) : TState × Int := if chkG g = 0 then (⟨rdl g.Entry g.Main, List.replicate (Int.toNat (g.Vars.length : Int)) (0 : Int), 0, []⟩, 0) else (noneS, chkG g)
theorem chkG_ok {g : TGraph} (h : chkG g = 0) : GOk g := by
  unfold chkG at h
  split at h
  · rename_i h1; exact gOk.of h1
  · cases h
theorem frames_Start.ok {g : TGraph} (hg : GLen g) : frames_Start.f g (startM g) := by
  refine ⟨_, graph_Check.ok hg, ?_⟩
  unfold startM
  by_cases h : chkG g = 0
  · rw [if_pos h, if_pos h]
    have hG := chkG_ok h
    have hm := hG.main
    rw [← hG.entry] at hm
    exact ⟨isI_R hm, ⟨by omega, by have := hG.vars; unfold Fits; omega⟩, rfl⟩
  · rw [if_neg h, if_neg h]; rfl
theorem r22_Start.ok {g : TGraph} (hg : GLen g) : r22_Start.f g (startM g) := by
  refine ⟨_, r21_Check.ok hg, ?_⟩
  unfold startM
  by_cases h : chkG g = 0
  · rw [if_pos h, if_pos h]
    have hG := chkG_ok h
    have hm := hG.main
    rw [← hG.entry] at hm
    exact ⟨isI_R hm, ⟨by omega, by have := hG.vars; unfold Fits; omega⟩, rfl⟩
  · rw [if_neg h, if_neg h]; rfl
theorem startM_same {g : TGraph} : r22_Same.f (startM g).1 (startM g).1 true := by
  unfold startM
  by_cases h : chkG g = 0
  · rw [if_pos h]
    have hv := (chkG_ok h).vars
    have hm : (64 : Nat) ≤ maxLen := by decide
    exact r22_Same.refl (by simp; omega) (by simp)
  · rw [if_neg h]; exact none_same
def fromM (g : TGraph) (n : Int) : List Int := pickM (fun x : TStep => x.From == n) g.Steps
theorem graph_From.ok {g : TGraph} (hg : GLen g) (h : chkG g = 0) {n : Int} (hn : isI n g.Of.length = true) (hs : g.Steps.length ≤ 300) : graph_From.f g n (fromM g n, 0) := by
  refine ⟨_, graph_Check.ok hg, ?_⟩
  rw [if_pos h]
  refine ⟨_, graph_in.ok _ _, ?_⟩
  rw [if_pos hn]
  have key := (pickLoop (l := g.Steps) (fun x : TStep => x.From == n) (b := graph_From.b1 g n) (fun i acc h0 h1 ha => by
    unfold graph_From.b1
    simp only [h1, if_true]
    refine ⟨⟨h0, h1⟩, ?_⟩
    unfold pickG
    by_cases e : (rdl g.Steps i).From = n
    · rw [if_pos e, if_pos (by simpa using e)]
      refine ⟨by unfold Fits; omega, ?_⟩
      unfold graph_From.j1
      rw [wrap_len hg.steps h0 h1]
    · rw [if_neg e, if_neg (by simpa using e)]
      unfold graph_From.j1
      rw [wrap_len hg.steps h0 h1]) (fun acc => by unfold graph_From.b1; simp)).1
  exact ⟨_, key, rfl⟩
def movesM (g : TGraph) (s : TState) : List Int × Bool × Int := if chkS g s = 0 then (fromM g s.Node, overM g s, 0) else ([], false, chkS g s)
theorem chkS_both {g : TGraph} {s : TState} (hs : SLen s) (h : chkS g s = 0) : chkG g = 0 ∧ GOk g ∧ SOk g s := by
  unfold chkS at h
  split at h
  · rename_i h1
    split at h
    · rename_i h2
      exact ⟨by unfold chkG; rw [if_pos h1], gOk.of h1, SOk.of h2 hs.marks⟩
    · cases h
  · cases h
theorem frames_Moves.ok {g : TGraph} {s : TState} (hg : GLen g) (hs : SLen s) (h3 : g.Steps.length ≤ 300) : frames_Moves.f g s (movesM g s) := by
  refine ⟨_, frames_Check.ok hg hs, ?_⟩
  unfold movesM
  by_cases h : chkS g s = 0
  · rw [if_pos h, if_pos h]
    obtain ⟨hc, hG, hS⟩ := chkS_both hs h
    exact ⟨_, graph_From.ok hg hc hS.node h3, _, frames_over.ok hG hS, rfl⟩
  · rw [if_neg h, if_neg h]
theorem r22_Moves.ok {g : TGraph} {s : TState} (hg : GLen g) (hs : SLen s) (h3 : g.Steps.length ≤ 300) : r22_Moves.f g s (movesM g s) := by
  refine ⟨_, r22_Check.ok hg hs, ?_⟩
  unfold movesM
  by_cases h : chkS g s = 0
  · rw [if_pos h, if_pos h]
    obtain ⟨hc, hG, hS⟩ := chkS_both hs h
    have key := (pickLoop (l := g.Steps) (fun x : TStep => x.From == s.Node) (b := r22_Moves.b1 g s) (fun i acc h0 h1 ha => by
      unfold r22_Moves.b1
      simp only [h1, if_true]
      refine ⟨⟨h0, h1⟩, ?_⟩
      unfold pickG
      by_cases e : (rdl g.Steps i).From = s.Node
      · rw [if_pos e, if_pos (by simpa using e)]
        refine ⟨by unfold Fits; omega, ?_⟩
        unfold r22_Moves.j1
        rw [wrap_len hg.steps h0 h1]
      · rw [if_neg e, if_neg (by simpa using e)]
        unfold r22_Moves.j1
        rw [wrap_len hg.steps h0 h1]) (fun acc => by unfold r22_Moves.b1; simp)).1
    exact ⟨_, key, _, r22_over.ok hG hS, rfl⟩
  · rw [if_neg h, if_neg h]
theorem fromM_len (g : TGraph) (n : Int) : (fromM g n).length ≤ g.Steps.length := by
  have hl := foldG_inv (g := pickG (fun x : TStep => x.From == n)) (fun i acc => (acc.length : Int) ≤ i) g.Steps 0 [] (fun i acc x _ h => by
    unfold pickG; split
    · simp; omega
    · omega) (by simp)
  unfold fromM pickM; omega
def leakB (s : TState) (x : TSink) : Bool := (x.Node == s.Node) && ((bitOp .and .u64 (shrI .u64 s.Marks x.X) 1) == 1)
def leaksM (g : TGraph) (s : TState) : List Int × Int := if chkS g s = 0 then (pickM (leakB s) g.Sinks, 0) else ([], chkS g s)
theorem sinkX {g : TGraph} (hG : GOk g) {i : Int} (h0 : 0 ≤ i) (h1 : i < g.Sinks.length) : 0 ≤ (rdl g.Sinks i).X ∧ (rdl g.Sinks i).X < 64 := by
  have := hG.sink i (isI_iff.2 ⟨h0, h1⟩)
  unfold sinkOk at this
  rw [Bool.and_eq_true] at this
  have h2 := isI_iff.1 this.2
  have := hG.vars
  omega
theorem frames_Leaks.ok {g : TGraph} {s : TState} (hg : GLen g) (hs : SLen s) (hk : g.Sinks.length ≤ 8796093022208) : frames_Leaks.f g s (leaksM g s) := by
  refine ⟨_, frames_Check.ok hg hs, ?_⟩
  unfold leaksM
  by_cases h : chkS g s = 0
  · rw [if_pos h, if_pos h]
    obtain ⟨hc, hG, hS⟩ := chkS_both hs h
    have key := (pickLoop (l := g.Sinks) (leakB s) (b := frames_Leaks.b1 g s) (fun i acc h0 h1 ha => by
      unfold frames_Leaks.b1
      simp only [h1, if_true]
      refine ⟨⟨h0, h1⟩, fun _ => (sinkX hG h0 h1).1, ?_⟩
      unfold pickG leakB
      by_cases e : (((rdl g.Sinks i).Node == s.Node) && ((bitOp .and .u64 (shrI .u64 s.Marks ((rdl g.Sinks i).X)) 1) == 1)) = true
      · rw [if_pos e, if_pos e]
        refine ⟨by unfold Fits; omega, ?_⟩
        unfold frames_Leaks.j1
        rw [wrap_len hg.sinks h0 h1]
      · rw [if_neg e, if_neg e]
        unfold frames_Leaks.j1
        rw [wrap_len hg.sinks h0 h1]) (fun acc => by unfold frames_Leaks.b1; simp)).1
    exact ⟨_, key, rfl⟩
  · rw [if_neg h, if_neg h]
theorem wrapu_small {i : Int} (h0 : 0 ≤ i) (h1 : i < 64) : IntKind.u64.wrap i = i := wrapu64 h0 (by omega)
theorem r22_Leaks.ok {g : TGraph} {s : TState} (hg : GLen g) (hs : SLen s) (hk : g.Sinks.length ≤ 8796093022208) : r22_Leaks.f g s (leaksM g s) := by
  refine ⟨_, r22_Check.ok hg hs, ?_⟩
  unfold leaksM
  by_cases h : chkS g s = 0
  · rw [if_pos h, if_pos h]
    obtain ⟨hc, hG, hS⟩ := chkS_both hs h
    have key := (pickLoop (l := g.Sinks) (leakB s) (b := r22_Leaks.b1 g s) (fun i acc h0 h1 ha => by
      have hx := sinkX hG h0 h1
      unfold r22_Leaks.b1
      simp only [h1, if_true]
      rw [wrapu_small hx.1 hx.2]
      refine ⟨⟨h0, h1⟩, fun _ => ⟨h0, h1⟩, fun _ => hx.1, ?_⟩
      unfold pickG leakB
      by_cases e : (((rdl g.Sinks i).Node == s.Node) && ((bitOp .and .u64 (shrI .u64 s.Marks ((rdl g.Sinks i).X)) 1) == 1)) = true
      · rw [if_pos e, if_pos e]
        refine ⟨by unfold Fits; omega, ?_⟩
        unfold r22_Leaks.j1
        rw [wrap_len hg.sinks h0 h1]
      · rw [if_neg e, if_neg e]
        unfold r22_Leaks.j1
        rw [wrap_len hg.sinks h0 h1]) (fun acc => by unfold r22_Leaks.b1; simp)).1
    exact ⟨_, key, rfl⟩
  · rw [if_neg h, if_neg h]
theorem leaksM_len (g : TGraph) (s : TState) : (leaksM g s).1.length ≤ g.Sinks.length := by
  unfold leaksM
  split
  · have hl := foldG_inv (g := pickG (leakB s)) (fun i acc => (acc.length : Int) ≤ i) g.Sinks 0 [] (fun i acc x _ h => by
      unfold pickG; split
      · simp; omega
      · omega) (by simp)
    unfold pickM; simp only; omega
  · simp
def sameSt (a b : TState) : Bool := (a.Node == b.Node) && ((a.Marks == b.Marks) && (decide (a.Env = b.Env) && decide (a.Stack = b.Stack)))
theorem slices_Equal_int64.ok {a b : List Int} (hl : a.length ≤ maxLen) : slices_Equal_int64.f a b (decide (a = b)) := by
  unfold slices_Equal_int64.f
  by_cases h : (a.length : Int) = b.length
  · rw [if_pos h]
    exact ⟨_, eqRound hl (by omega) rfl, eqOn⟩
  · rw [if_neg h]
    have : a ≠ b := fun e => h (by rw [e])
    simp [this]
theorem slices_Equal_int.ok {a b : List Int} (hl : a.length ≤ maxLen) : slices_Equal_int.f a b (decide (a = b)) := by
  unfold slices_Equal_int.f
  by_cases h : (a.length : Int) = b.length
  · rw [if_pos h]
    exact ⟨_, eqRound hl (by omega) rfl, eqOn⟩
  · rw [if_neg h]
    have : a ≠ b := fun e => h (by rw [e])
    simp [this]
theorem SLen.envM {s : TState} (h : SLen s) : s.Env.length ≤ maxLen := by
  have := h.env
  have hm : (17592186043904 : Nat) ≤ maxLen := by decide
  omega
theorem frames_Same.ok {a b : TState} (ha : SLen a) : frames_Same.f a b (sameSt a b) := ⟨_, fun _ _ => slices_Equal_int64.ok ha.envM, _, fun _ _ _ => slices_Equal_int.ok ha.stackM, rfl⟩
theorem r22_Same.ok {a b : TState} (ha : SLen a) : r22_Same.f a b (sameSt a b) := by
  unfold r22_Same.f sameSt
  by_cases hn : a.Node = b.Node
  · by_cases hm : a.Marks = b.Marks
    · by_cases he : (a.Env.length : Int) = b.Env.length
      · by_cases hs : (a.Stack.length : Int) = b.Stack.length
        · rw [if_neg (by simp [hn, hm, he, hs])]
          have e1 := eqRound (b := r22_Same.b1 a b) ha.envM (by omega) rfl
          have e2 := eqRound (b := r22_Same.b2 a b) ha.stackM (by omega) rfl
          refine ⟨_, e1, ?_⟩
          rw [show (a.Node == b.Node) = true by simpa using hn, show (a.Marks == b.Marks) = true by simpa using hm]
          by_cases h1 : a.Env = b.Env
          · rw [if_pos h1]
            simp only [Fin.on, Bool.true_and, h1, decide_true]
            refine ⟨_, e2, ?_⟩
            exact eqOn
          · rw [if_neg h1]
            simp [Fin.on, h1]
        · rw [if_pos (by simp [hs])]
          have : a.Stack ≠ b.Stack := fun e => hs (by rw [e])
          simp [this]
      · rw [if_pos (by simp [he])]
        have : a.Env ≠ b.Env := fun e => he (by rw [e])
        simp [this]
    · rw [if_pos (by simp [hm])]; simp [hm]
  · rw [if_pos (by simp [hn])]; simp [hn]
theorem Law.FramesStates (a0 : TGraph) (a1 a2 : TState) (y0 : TGraph.Fit a0) (y1 : TState.Fit a1) (y2 : TState.Fit a2) : l22_FramesStates.f a0 a1 a2 true := by
  have hg := y0.len
  have hs := y1.len
  have hk : a0.Sinks.length ≤ 8796093022208 := by
    obtain ⟨h1, h2, h3, h4, _, h5, h6, h7, h8, h9⟩ := y0
    have := h9.1
    omega
  refine ⟨true, rfl, ?_⟩
  rw [if_pos rfl]
  refine ⟨_, rfl, ?_⟩
  split
  · rename_i hsm
    simp only [Bool.and_eq_true, decide_eq_true_eq] at hsm
    have h3 : a0.Steps.length ≤ 300 := by omega
    have hmv : (movesM a0 a1).1.length ≤ maxLen := by
      unfold movesM
      split
      · have := fromM_len a0 a1.Node
        have hm : (300 : Nat) ≤ maxLen := by decide
        simp only; omega
      · simp
    refine ⟨_, frames_Start.ok hg, _, r22_Start.ok hg, _, frames_Moves.ok hg hs h3, _, r22_Moves.ok hg hs h3, _, frames_Leaks.ok hg hs hk, _, r22_Leaks.ok hg hs hk, _, startM_same, _, fun _ _ => l22_numbers.refl hmv, _, fun _ _ _ _ _ => l22_numbers.refl (Nat.le_trans (leaksM_len a0 a1) hg.sinks), ?_⟩
    rw [if_neg (by simp)]
    refine ⟨_, frames_Check.ok hg hs, _, r22_Check.ok hg hs, _, fun _ => frames_Same.ok hs, _, fun _ => r22_Same.ok hs, _, fun _ _ => frames_Same.ok hs, ?_⟩
    simp [sameSt]
  · rfl
end Go.RM.Tryz
