/- LA LB FA FB FC FD FE FF FG FH FJ FK FL FM FN, for the statement FramesReached: what it needs, no more. -/
import Derived.Test.YtcogffeinodfaaaGreatDoorZFramesReachedGR
import Derived.Test.YtcogffeinodfaaaGreatDoorZFramesReachedGJ
namespace Go.RM
set_option linter.unusedVariables false
set_option linter.unusedSimpArgs false
theorem Loop.of {σ τ ρ : Type} {b : σ → Rnd σ τ ρ → Prop} (spec : σ → Fin τ ρ) (m : σ → Nat) (Inv : σ → Prop)
    (step : ∀ s, Inv s → (∃ s', b s (.next s') ∧ m s' < m s ∧ Inv s' ∧ spec s' = spec s) ∨ (∃ t, b s (.exit t) ∧ spec s = .go t) ∨ (∃ r, b s (.ret r) ∧ spec s = .ret r)) :
    ∀ s, Inv s → Loop b s (spec s) := by
  intro s
  generalize hn : m s = n
  induction n using Nat.strongRecOn generalizing s with
  | _ n ih =>
    intro hi
    rcases step s hi with ⟨s', hb, hm, hi', he⟩ | ⟨t, hb, he⟩ | ⟨r, hb, he⟩
    · rw [← he]
      exact .next hb (ih (m s') (by omega) s' rfl hi')
    · rw [he]; exact .exit hb
    · rw [he]; exact .ret hb
theorem wrap64 {i : Int} (h0 : -9223372036854775808 ≤ i) (h1 : i ≤ 9223372036854775807) : IntKind.i64.wrap i = i := by
  have e : IntKind.i64.wrap i = if (i % 18446744073709551616 : Int) ≥ 9223372036854775808 then i % 18446744073709551616 - 18446744073709551616 else i % 18446744073709551616 := by
    simp [IntKind.wrap, IntKind.bits, IntKind.signed]
  rw [e]
  split <;> omega
theorem wrapu64 {i : Int} (h0 : 0 ≤ i) (h1 : i < 18446744073709551616) : IntKind.u64.wrap i = i := by
  have e : IntKind.u64.wrap i = i % 18446744073709551616 := by
    simp [IntKind.wrap, IntKind.bits, IntKind.signed]
  rw [e]; omega
theorem wf64 {i : Int} (h : (Lit.int .i64 i).wf = true) : -9223372036854775808 ≤ i ∧ i ≤ 9223372036854775807 := by
  simp [Lit.wf, IntKind.min, IntKind.max, IntKind.bits, IntKind.signed] at h
  omega
theorem wfu64 {i : Int} (h : (Lit.int .u64 i).wf = true) : 0 ≤ i ∧ i < 18446744073709551616 := by
  simp [Lit.wf, IntKind.min, IntKind.max, IntKind.bits, IntKind.signed] at h
  omega
theorem wrap_len {α : Type} {l : List α} {i : Int} (hl : l.length ≤ maxLen) (h0 : 0 ≤ i) (h1 : i < l.length) : IntKind.i64.wrap (i + 1) = i + 1 := by
  have : maxLen ≤ 9223372036854775807 := by decide
  exact wrap64 (by omega) (by omega)
theorem rdl_mem {α : Type} [Inhabited α] {l : List α} {i : Int} (h0 : 0 ≤ i) (h1 : i < l.length) : rdl l i ∈ l :=
  List.mem_of_getElem? (rdl_get h0 h1)
theorem drop_rdl {α : Type} [Inhabited α] {l : List α} {i : Int} (h0 : 0 ≤ i) (h1 : i < l.length) : l.drop i.toNat = rdl l i :: l.drop (i + 1).toNat := by
  have h := rdl_get h0 h1
  have hlt : i.toNat < l.length := by omega
  rw [List.drop_eq_getElem_cons hlt, show (i + 1).toNat = i.toNat + 1 by omega]
  rw [List.getElem?_eq_getElem hlt, Option.some.injEq] at h
  rw [h]
theorem drop_end {α : Type} {l : List α} {i : Int} (h0 : 0 ≤ i) (h1 : ¬ i < l.length) : l.drop i.toNat = [] := List.drop_eq_nil_of_le (by omega)
theorem rdl0 {α : Type} [Inhabited α] {a : α} {l : List α} : rdl (a :: l) 0 = a := rfl
end Go.RM
namespace Go.RM
set_option linter.unusedVariables false
set_option linter.unusedSimpArgs false
def idxI {α : Type} (test : α → Bool) : List α → Int → Int
  | [], _ => -1
  | x :: l, i => if test x then i else idxI test l (i + 1)
theorem idxI_any {α : Type} (test : α → Bool) : ∀ (l : List α) (i : Int), 0 ≤ i → decide (idxI test l i ≥ 0) = l.any test
  | [], i, h => by simp [idxI]
  | x :: l, i, h => by
    unfold idxI
    by_cases hx : test x = true
    · simp [hx, h]
    · rw [if_neg hx, idxI_any test l (i + 1) (by omega)]; simp [hx]
theorem indexFunc {α : Type} [Inhabited α] {l : List α} {q : α → Bool → Prop} {b : Int → Rnd Int Unit Int → Prop} (test : α → Bool) (hl : l.length ≤ maxLen) (hq : ∀ x ∈ l, q x (test x))
    (hb : b = fun x1 z1 => if x1 < (l.length : Int) then (InR x1 l.length ∧ ∃ t : Bool, q (rdl l x1) t ∧ if t = true then z1 = .ret x1 else z1 = .next (IntKind.i64.wrap (x1 + 1))) else z1 = .exit ()) :
    ∃ o : Fin Unit Int, Loop b 0 o ∧ o.on (fun _ => idxI test l 0 = -1) (fun r_ => idxI test l 0 = r_) := by
  let spec : Int → Fin Unit Int := fun i => if (l.drop i.toNat).any test then .ret (idxI test (l.drop i.toNat) i) else .go ()
  have key := Loop.of (b := b) spec (fun i => ((l.length : Int) - i).toNat) (fun i => 0 ≤ i) (fun i hi => by
    subst hb
    by_cases h : i < (l.length : Int)
    · have hd := drop_rdl hi h
      by_cases ht : test (rdl l i) = true
      · refine .inr (.inr ⟨i, ?_, ?_⟩)
        · simp only [h, if_true]
          exact ⟨⟨hi, h⟩, true, ht ▸ hq _ (rdl_mem hi h), by simp⟩
        · show (if _ then _ else _) = _
          rw [hd]; simp [ht, idxI]
      · have ht' : test (rdl l i) = false := by simpa using ht
        refine .inl ⟨i + 1, ?_, by omega, by omega, ?_⟩
        · simp only [h, if_true]
          exact ⟨⟨hi, h⟩, false, ht' ▸ hq _ (rdl_mem hi h), by simp [wrap_len hl hi h]⟩
        · show (if _ then _ else _) = (if _ then _ else _)
          rw [hd]; simp [ht', idxI]
    · refine .inr (.inl ⟨(), by simp only [h, if_false], ?_⟩)
      show (if _ then _ else _) = _
      rw [drop_end hi h]; rfl) 0 (Int.le_refl 0)
  refine ⟨_, key, ?_⟩
  show Fin.on (if _ then _ else _) _ _
  simp only [Int.toNat_zero, List.drop_zero]
  split
  · rfl
  · rename_i h
    show idxI test l 0 = -1
    have : decide (idxI test l 0 ≥ 0) = false := by rw [idxI_any test l 0 (Int.le_refl 0)]; simpa using h
    have hge : ∀ (l : List α) (i : Int), 0 ≤ i → idxI test l i = -1 ∨ 0 ≤ idxI test l i := by
      intro l
      induction l with
      | nil => intro i _; exact .inl rfl
      | cons x l ih =>
        intro i hi
        unfold idxI
        split
        · exact .inr hi
        · exact ih (i + 1) (by omega)
    rcases hge l 0 (Int.le_refl 0) with h1 | h1
    · exact h1
    · simp at this; omega
theorem eachLoop {α ρ : Type} [Inhabited α] {l : List α} {b : Int → Rnd Int Unit ρ → Prop} (test : α → Bool) (rv : ρ)
    (hb : ∀ i, 0 ≤ i → i < (l.length : Int) → (test (rdl l i) = true → b i (.next (i + 1))) ∧ (test (rdl l i) = false → b i (.ret rv))) (hend : ∀ i, 0 ≤ i → ¬ i < (l.length : Int) → b i (.exit ())) :
    Loop b 0 (if l.all test then .go () else .ret rv) := by
  let spec : Int → Fin Unit ρ := fun i => if (l.drop i.toNat).all test then .go () else .ret rv
  have key := Loop.of (b := b) spec (fun i => ((l.length : Int) - i).toNat) (fun i => 0 ≤ i) (fun i hi => by
    by_cases h : i < (l.length : Int)
    · have hd := drop_rdl hi h
      obtain ⟨h1, h2⟩ := hb i hi h
      cases ht : test (rdl l i) with
      | true =>
        refine .inl ⟨i + 1, h1 ht, by omega, by omega, ?_⟩
        show (if _ then _ else _) = (if _ then _ else _)
        rw [hd]; simp [ht]
      | false =>
        refine .inr (.inr ⟨rv, h2 ht, ?_⟩)
        show (if _ then _ else _) = _
        rw [hd]; simp [ht]
    · refine .inr (.inl ⟨(), hend i hi h, ?_⟩)
      show (if _ then _ else _) = _
      rw [drop_end hi h]; rfl) 0 (Int.le_refl 0)
  simpa [spec] using key
theorem containsFunc {α : Type} [Inhabited α] {l : List α} {q : α → Bool → Prop} {b : Int → Rnd Int Unit Int → Prop} (test : α → Bool) (hl : l.length ≤ maxLen) (hq : ∀ x ∈ l, q x (test x))
    (hb : b = fun x1 z1 => if x1 < (l.length : Int) then (InR x1 l.length ∧ ∃ t : Bool, q (rdl l x1) t ∧ if t = true then z1 = .ret x1 else z1 = .next (IntKind.i64.wrap (x1 + 1))) else z1 = .exit ()) :
    ∃ t : Int, (∃ o : Fin Unit Int, Loop b 0 o ∧ o.on (fun _ => t = -1) (fun r_ => t = r_)) ∧ l.any test = decide (t ≥ 0) :=
  ⟨_, indexFunc test hl hq hb, (idxI_any test l 0 (Int.le_refl 0)).symm⟩
def foldF {α σ ρ : Type} (step : Int → α → σ → Fin σ ρ) : List α → Int → σ → Fin σ ρ
  | [], _, s => .go s
  | x :: l, i, s => match step i x s with
    | .go s' => foldF step l (i + 1) s'
    | .ret r => .ret r
def Fin.map {σ τ ρ : Type} (f : σ → τ) : Fin σ ρ → Fin τ ρ
  | .go s => .go (f s)
  | .ret r => .ret r
def Rok {σ S τ ρ : Type} (b : S → Rnd S τ ρ → Prop) (mk : Int → σ → S) (Inv : Int → σ → Prop) (i : Int) (s : σ) : Fin σ ρ → Prop
  | .go s' => b (mk i s) (.next (mk (i + 1) s')) ∧ Inv (i + 1) s'
  | .ret r => b (mk i s) (.ret r)
theorem foldLoop {α σ S τ ρ : Type} [Inhabited α] {l : List α} {b : S → Rnd S τ ρ → Prop} (mk : Int → σ → S) (ex : σ → τ) (step : Int → α → σ → Fin σ ρ) (Inv : Int → σ → Prop)
    (hb : ∀ i s, 0 ≤ i → i < (l.length : Int) → Inv i s → Rok b mk Inv i s (step i (rdl l i) s))
    (hend : ∀ s, Inv l.length s → b (mk l.length s) (.exit (ex s))) (s0 : σ) (h0 : Inv 0 s0) :
    Loop b (mk 0 s0) ((foldF step l 0 s0).map ex) ∧ ∀ s, foldF step l 0 s0 = .go s → Inv l.length s := by
  have main : ∀ (k : Nat) (i : Int) (s : σ), ((l.length : Int) - i).toNat = k → 0 ≤ i → i ≤ l.length → Inv i s → Loop b (mk i s) ((foldF step (l.drop i.toNat) i s).map ex) ∧ ∀ s', foldF step (l.drop i.toNat) i s = .go s' → Inv l.length s' := by
    intro k
    induction k with
    | zero =>
      intro i s hk h0 h1 hi
      have : i = l.length := by omega
      subst this
      rw [drop_end h0 (by omega)]
      exact ⟨.exit (hend s hi), fun s' h => by injection h with h; exact h ▸ hi⟩
    | succ k ih =>
      intro i s hk h0 h1 hi
      have hlt : i < (l.length : Int) := by omega
      rw [drop_rdl h0 hlt]
      have hr := hb i s h0 hlt hi
      unfold foldF
      revert hr
      cases step i (rdl l i) s with
      | go s1 =>
        intro hr
        have := ih (i + 1) s1 (by omega) (by omega) (by omega) hr.2
        exact ⟨.next hr.1 this.1, this.2⟩
      | ret r =>
        intro hr
        exact ⟨.ret hr, fun s' h => by cases h⟩
  have := main _ 0 s0 rfl (Int.le_refl 0) (by omega) h0
  simpa using this
def upto (n : Nat) : List Int := (List.range n).map Int.ofNat
def all2B {α β : Type} (test : α → β → Bool) : List α → List β → Bool
  | x :: l, y :: m => test x y && all2B test l m
  | _, _ => true
theorem each2Loop {α β ρ : Type} [Inhabited α] [Inhabited β] {l : List α} {m : List β} {b : Int → Rnd Int Unit ρ → Prop} (test : α → β → Bool) (rv : ρ) (hlen : l.length = m.length)
    (hb : ∀ i, 0 ≤ i → i < (l.length : Int) → (test (rdl l i) (rdl m i) = true → b i (.next (i + 1))) ∧ (test (rdl l i) (rdl m i) = false → b i (.ret rv))) (hend : ∀ i, 0 ≤ i → ¬ i < (l.length : Int) → b i (.exit ())) :
    Loop b 0 (if all2B test l m = true then .go () else .ret rv) := by
  let spec : Int → Fin Unit ρ := fun i => if all2B test (l.drop i.toNat) (m.drop i.toNat) = true then .go () else .ret rv
  have key := Loop.of (b := b) spec (fun i => ((l.length : Int) - i).toNat) (fun i => 0 ≤ i) (fun i hi => by
    by_cases h : i < (l.length : Int)
    · have hd := drop_rdl hi h
      have hd2 := drop_rdl (l := m) hi (by omega)
      obtain ⟨h1, h2⟩ := hb i hi h
      cases ht : test (rdl l i) (rdl m i) with
      | true =>
        refine .inl ⟨i + 1, h1 ht, by omega, by omega, ?_⟩
        show (if _ then _ else _) = (if _ then _ else _)
        rw [hd, hd2]; simp [all2B, ht]
      | false =>
        refine .inr (.inr ⟨rv, h2 ht, ?_⟩)
        show (if _ then _ else _) = _
        rw [hd, hd2]; simp [all2B, ht]
    · refine .inr (.inl ⟨(), hend i hi h, ?_⟩)
      show (if _ then _ else _) = _
      rw [drop_end hi h]; simp [all2B]) 0 (Int.le_refl 0)
  simpa [spec] using key
theorem all2B_eq {α : Type} [DecidableEq α] : ∀ (l m : List α), l.length = m.length → all2B (fun x y => decide (x = y)) l m = decide (l = m)
  | [], [], _ => by simp [all2B]
  | x :: l, y :: m, h => by
    have := all2B_eq l m (by simpa using h)
    simp [all2B, this]
theorem eqLoop {α ρ : Type} [Inhabited α] [DecidableEq α] {l m : List α} {b : Int → Rnd Int Unit ρ → Prop} (rv : ρ) (hlen : l.length = m.length)
    (hb : ∀ i, 0 ≤ i → i < (l.length : Int) → (rdl l i = rdl m i → b i (.next (i + 1))) ∧ (rdl l i ≠ rdl m i → b i (.ret rv))) (hend : ∀ i, 0 ≤ i → ¬ i < (l.length : Int) → b i (.exit ())) :
    Loop b 0 (if l = m then .go () else .ret rv) := by
  have := each2Loop (b := b) (fun x y => decide (x = y)) rv hlen (fun i h0 h1 => ⟨fun h => (hb i h0 h1).1 (by simpa using h), fun h => (hb i h0 h1).2 (by simpa using h)⟩) hend
  rw [all2B_eq l m hlen] at this
  simpa using this
theorem eqRound {α : Type} [Inhabited α] [DecidableEq α] {l m : List α} {b : Int → Rnd Int Unit Bool → Prop} (hl : l.length ≤ maxLen) (hlen : l.length = m.length)
    (hb : b = fun x1 z1 => if x1 < (l.length : Int) then (InR x1 l.length ∧ InR x1 m.length ∧ if rdl l x1 = rdl m x1 then z1 = .next (IntKind.i64.wrap (x1 + 1)) else z1 = .ret false) else z1 = .exit ()) :
    Loop b 0 (if l = m then .go () else .ret false) := by
  subst hb
  refine eqLoop false hlen (fun i h0 h1 => ⟨fun h => ?_, fun h => ?_⟩) (fun i h0 h1 => by simp only [h1, if_false])
  · simp only [h1, if_true]
    exact ⟨⟨h0, h1⟩, ⟨h0, by omega⟩, by rw [if_pos h, wrap_len hl h0 h1]⟩
  · simp only [h1, if_true]
    exact ⟨⟨h0, h1⟩, ⟨h0, by omega⟩, by rw [if_neg h]; trivial⟩
theorem eqOn {α : Type} [DecidableEq α] {l m : List α} : (if l = m then (.go () : Fin Unit Bool) else .ret false).on (fun _ => decide (l = m) = true) (fun r_ => decide (l = m) = r_) := by
  by_cases h : l = m <;> simp [Fin.on, h]
def foldG {α σ : Type} (g : Int → α → σ → σ) : List α → Int → σ → σ
  | [], _, s => s
  | x :: l, i, s => foldG g l (i + 1) (g i x s)
theorem foldF_G {α σ ρ : Type} (g : Int → α → σ → σ) : ∀ (l : List α) (i : Int) (s : σ), foldF (fun i x s => (.go (g i x s) : Fin σ ρ)) l i s = .go (foldG g l i s)
  | [], i, s => rfl
  | x :: l, i, s => foldF_G g l (i + 1) _
theorem foldGLoop {α σ S τ ρ : Type} [Inhabited α] {l : List α} {b : S → Rnd S τ ρ → Prop} (mk : Int → σ → S) (ex : σ → τ) (g : Int → α → σ → σ) (Inv : Int → σ → Prop)
    (hb : ∀ i s, 0 ≤ i → i < (l.length : Int) → Inv i s → b (mk i s) (.next (mk (i + 1) (g i (rdl l i) s))) ∧ Inv (i + 1) (g i (rdl l i) s))
    (hend : ∀ s, Inv l.length s → b (mk l.length s) (.exit (ex s))) (s0 : σ) (h0 : Inv 0 s0) :
    Loop b (mk 0 s0) (.go (ex (foldG g l 0 s0))) ∧ Inv l.length (foldG g l 0 s0) := by
  have := foldLoop (l := l) (b := b) mk ex (fun i x s => .go (g i x s)) Inv (fun i s h0 h1 hi => hb i s h0 h1 hi) hend s0 h0
  rw [foldF_G] at this
  exact ⟨this.1, this.2 _ rfl⟩
theorem foldG_inv {α σ : Type} {g : Int → α → σ → σ} (P : Int → σ → Prop) : ∀ (l : List α) (i : Int) (s : σ), (∀ i s x, x ∈ l → P i s → P (i + 1) (g i x s)) → P i s → P (i + l.length) (foldG g l i s)
  | [], i, s, h, hs => by simpa [foldG] using hs
  | x :: l, i, s, h, hs => by
    have := foldG_inv P l (i + 1) (g i x s) (fun i s y hy hp => h i s y (.tail _ hy) hp) (h i s x (.head _) hs)
    have e : i + ((x :: l).length : Int) = i + 1 + l.length := by simp; omega
    rw [e]; exact this
end Go.RM
namespace Go.RM
set_option linter.unusedVariables false
set_option linter.unusedSimpArgs false
def InM (x : Int) : Prop := 0 ≤ x ∧ x < 18446744073709551616
def bitM (x : Int) (i : Nat) : Bool := x.toNat.testBit i
theorem pow64 : (2 : Nat) ^ 64 = 18446744073709551616 := by decide
theorem bitM_high {x : Int} (hx : InM x) {i : Nat} (h : 64 ≤ i) : bitM x i = false := by
  unfold bitM
  apply Nat.testBit_lt_two_pow
  have h1 : (2 : Nat) ^ 64 ≤ 2 ^ i := Nat.pow_le_pow_right (by decide) h
  have := pow64
  have := hx.2; have := hx.1; omega
theorem ofInt_toM {x : Int} (hx : InM x) : (BitVec.ofInt 64 x).toNat = x.toNat := by
  rw [BitVec.toNat_ofInt]
  have := hx.1; have := hx.2
  have : x % ((2 ^ 64 : Nat) : Int) = x := by
    rw [show ((2 ^ 64 : Nat) : Int) = 18446744073709551616 by decide]
    exact Int.emod_eq_of_lt hx.1 hx.2
  rw [this]
theorem toNat_InM (b : BitVec 64) : InM (b.toNat : Int) := by
  have := b.isLt
  have := pow64
  exact ⟨by omega, by omega⟩
theorem orM {x y : Int} : bitOp .or .u64 x y = ((BitVec.ofInt 64 x ||| BitVec.ofInt 64 y).toNat : Int) := by
  show IntKind.u64.wrap ((BitVec.ofInt 64 x ||| BitVec.ofInt 64 y).toNat : Int) = _
  have := toNat_InM (BitVec.ofInt 64 x ||| BitVec.ofInt 64 y)
  exact wrapu64 this.1 this.2
theorem andNotM {x y : Int} : bitOp .andNot .u64 x y = ((BitVec.ofInt 64 x &&& ~~~ BitVec.ofInt 64 y).toNat : Int) := by
  show IntKind.u64.wrap ((BitVec.ofInt 64 x &&& ~~~ BitVec.ofInt 64 y).toNat : Int) = _
  have := toNat_InM (BitVec.ofInt 64 x &&& ~~~ BitVec.ofInt 64 y)
  exact wrapu64 this.1 this.2
theorem or_InM (x y : Int) : InM (bitOp .or .u64 x y) := by rw [orM]; exact toNat_InM _
theorem andNot_InM (x y : Int) : InM (bitOp .andNot .u64 x y) := by rw [andNotM]; exact toNat_InM _
theorem bv_bitM (b : BitVec 64) (i : Nat) : bitM (b.toNat : Int) i = b.getLsbD i := rfl
theorem ofInt_bitM {x : Int} (hx : InM x) (i : Nat) : (BitVec.ofInt 64 x).getLsbD i = bitM x i := by
  show (BitVec.ofInt 64 x).toNat.testBit i = _
  rw [ofInt_toM hx]; rfl
theorem bit_or {x y : Int} (hx : InM x) (hy : InM y) (i : Nat) : bitM (bitOp .or .u64 x y) i = (bitM x i || bitM y i) := by
  rw [orM, bv_bitM, BitVec.getLsbD_or, ofInt_bitM hx, ofInt_bitM hy]
theorem bit_andNot {x y : Int} (hx : InM x) (hy : InM y) (i : Nat) : bitM (bitOp .andNot .u64 x y) i = (bitM x i && !bitM y i) := by
  rw [andNotM, bv_bitM, BitVec.getLsbD_and, BitVec.getLsbD_not, ofInt_bitM hx, ofInt_bitM hy]
  by_cases h : i < 64
  · simp [h]
  · rw [bitM_high hx (by omega)]; simp
theorem one_shl {x : Int} (h0 : 0 ≤ x) (h1 : x < 64) : shlI .u64 1 x = 2 ^ x.toNat := by
  unfold shlI
  have hb : IntKind.bits .u64 = 64 := rfl
  rw [hb, Nat.min_eq_left (by omega), Int.one_mul]
  have h2 : (2 : Nat) ^ x.toNat < 2 ^ 64 := Nat.pow_lt_pow_right (by decide) (by omega)
  have h3 : ((2 ^ x.toNat : Nat) : Int) = (2 : Int) ^ x.toNat := by simp
  have hp : (0 : Int) < 2 ^ x.toNat := Int.pow_pos (by decide)
  have := pow64
  exact wrapu64 (by omega) (by omega)
theorem pow_toM (n : Nat) : ((2 : Int) ^ n).toNat = 2 ^ n := by
  have h2 : ((2 ^ n : Nat) : Int) = (2 : Int) ^ n := by simp
  rw [← h2]; exact Int.toNat_natCast _
theorem pow_InM {k : Nat} (h : k < 64) : InM (2 ^ k) := by
  have h2 : (2 : Nat) ^ k < 2 ^ 64 := Nat.pow_lt_pow_right (by decide) h
  have h3 : ((2 ^ k : Nat) : Int) = (2 : Int) ^ k := by simp
  have hp : (0 : Int) < 2 ^ k := Int.pow_pos (by decide)
  have := pow64
  exact ⟨by omega, by omega⟩
theorem bit_pow (k i : Nat) : bitM (2 ^ k) i = decide (k = i) := by
  unfold bitM
  rw [pow_toM, Nat.testBit_two_pow]
theorem shr_nat {m x : Int} (hm : InM m) (h0 : 0 ≤ x) (h1 : x ≤ 64) : shrI .u64 m x = ((m.toNat / 2 ^ x.toNat : Nat) : Int) := by
  unfold shrI
  have hb : IntKind.bits .u64 = 64 := rfl
  rw [hb, Nat.min_eq_left (by omega)]
  have hp : (0 : Int) ≤ 2 ^ x.toNat := Int.le_of_lt (Int.pow_pos (by decide))
  rw [Int.fdiv_eq_ediv_of_nonneg _ hp]
  have h3 : ((2 ^ x.toNat : Nat) : Int) = (2 : Int) ^ x.toNat := by simp
  have h4 : (m.toNat : Int) = m := Int.toNat_of_nonneg hm.1
  rw [← h3]
  conv => lhs; rw [← h4]
  rw [Int.natCast_ediv]
theorem shr_zero {m : Int} {n : Nat} (hm : InM m) (h : n ≤ 64) : (shrI .u64 m (n : Int) = 0) ↔ ∀ i, n ≤ i → bitM m i = false := by
  rw [shr_nat hm (Int.natCast_nonneg _) (by omega), Int.toNat_natCast]
  constructor
  · intro h i hi
    have : m.toNat / 2 ^ n = 0 := by omega
    have hlt : m.toNat < 2 ^ n := by
      have := (Nat.div_eq_zero_iff).1 this
      rcases this with h | h
      · exact absurd h (Nat.ne_of_gt (Nat.two_pow_pos n))
      · exact h
    unfold bitM
    exact Nat.testBit_lt_two_pow (Nat.lt_of_lt_of_le hlt (Nat.pow_le_pow_right (by decide) hi))
  · intro h
    have : m.toNat / 2 ^ n = 0 := by
      apply Nat.eq_of_testBit_eq
      intro i
      rw [Nat.testBit_div_two_pow, Nat.zero_testBit]
      exact h _ (by omega)
    omega
end Go.RM
namespace Go.RM.Tryz
open Go.RM
set_option linter.unusedVariables false
set_option linter.unusedSimpArgs false
def isI (a b : Int) : Bool := decide (a ≥ 0) && decide (a < b)
theorem isI_iff {a b : Int} : isI a b = true ↔ 0 ≤ a ∧ a < b := by unfold isI; simp
theorem isI_R {α : Type} {l : List α} {a : Int} (h : isI a l.length = true) : InR a l.length := isI_iff.1 h
theorem graph_in.ok (a b : Int) : graph_in.f a b (isI a b) := rfl
theorem upto_len (n : Nat) : (upto n).length = n := by simp [upto]
theorem rdl_upto {n : Nat} {i : Int} (h0 : 0 ≤ i) (h1 : i < n) : rdl (upto n) i = i := by
  have := rdl_get (l := upto n) h0 (by rw [upto_len]; exact h1)
  unfold upto at this ⊢
  rw [List.getElem?_map, List.getElem?_range (by omega)] at this
  injection this with this
  rw [← this]; simp; omega
def fstBad (g : TGraph) : Bool := decide ((g.Vars.length : Int) > 64) || ((decide ((g.Procs.length : Int) < 1)) || ((decide ((g.Procs.length : Int) > 1024)) || ((!((g.Entry.length : Int) == (g.Procs.length : Int))) || ((!((g.Exit.length : Int) == (g.Procs.length : Int))) || ((decide ((g.Of.length : Int) > 4096)) || (!isI g.Main g.Procs.length))))))
def endOk (g : TGraph) (i e : Int) : Bool := isI e g.Of.length && rdl g.Of e == i
def pairOk (g : TGraph) (i : Int) : Bool := endOk g i (rdl g.Entry i) && endOk g i (rdl g.Exit i)
def headsOk (g : TGraph) : Bool := !fstBad g && (decide ((g.Sites.length : Int) ≤ 1024) && (g.Of.all (fun k => isI k g.Procs.length) && ((upto g.Procs.length).all (pairOk g) && g.Sites.all (fun s => isI s.Proc g.Procs.length))))
structure GLen (g : TGraph) : Prop where
  vars : g.Vars.length ≤ maxLen
  procs : g.Procs.length ≤ maxLen
  entry : g.Entry.length ≤ maxLen
  exit : g.Exit.length ≤ maxLen
  of_ : g.Of.length ≤ maxLen
  steps : g.Steps.length ≤ maxLen
  sites : g.Sites.length ≤ maxLen
  points : g.Points.length ≤ maxLen
  sinks : g.Sinks.length ≤ maxLen
theorem TGraph.Fit.len {g : TGraph} (h : g.Fit) : GLen g := by
  obtain ⟨h1, h2, h3, h4, _, h5, h6, h7, h8, h9⟩ := h
  exact ⟨h1.2.1, h2.2.1, h3.2.1, h4.2.1, h5.2.1, h6.2.1, h7.2.1, h8.2.1, h9.2.1⟩
theorem notAny {α : Type} (p : α → Bool) (l : List α) : (!(l.any fun x => !p x)) = l.all p := by
  induction l with
  | nil => rfl
  | cons x l ih => simp only [List.any_cons, List.all_cons, Bool.not_or, Bool.not_not, ih]
theorem endLoop {g : TGraph} {i : Int} (l : List Int) (hl : l.length ≤ maxLen) : Loop (fun x4 z2 => if x4 < (l.length : Int) then (((InR x4 l.length)) ∧ ∃ t51_4 : Bool, (graph_in.f (rdl l x4) (g.Of.length : Int) t51_4) ∧ ((t51_4 = true) → (InR (rdl l x4) g.Of.length)) ∧ if ((!t51_4) || ((rdl g.Of (rdl l x4)) != i)) = true then (z2 = .ret false) else (z2 = .next (IntKind.i64.wrap (x4 + 1)))) else (z2 = .exit ()) : Int → Rnd Int Unit Bool → Prop) 0 (if l.all (endOk g i) then .go () else .ret false) := by
  refine eachLoop (endOk g i) false (fun k h0 h1 => ?_) (fun k h0 h1 => by simp only [h1, if_false])
  simp only [h1, if_true]
  refine ⟨fun ht => ⟨⟨h0, h1⟩, _, graph_in.ok _ _, fun h => isI_R h, ?_⟩, fun ht => ⟨⟨h0, h1⟩, _, graph_in.ok _ _, fun h => isI_R h, ?_⟩⟩
  · unfold endOk at ht
    rw [Bool.and_eq_true] at ht
    rw [if_neg (by simp [ht.1, bne, ht.2]), wrap_len hl h0 h1]
  · unfold endOk at ht
    rw [if_pos]
    · trivial
    · cases h2 : isI (rdl l k) g.Of.length with
      | false => rfl
      | true => rw [h2, Bool.true_and] at ht; simp [bne, ht]
theorem pairLoop {g : TGraph} (hl : g.Procs.length ≤ maxLen) (h1 : g.Entry.length = g.Procs.length) (h2 : g.Exit.length = g.Procs.length) : Loop (graph_procsRight.b1 g) 0 (if (upto g.Procs.length).all (pairOk g) then .go () else .ret false) := by
  refine eachLoop (pairOk g) false (fun k h0 hk => ?_) (fun k h0 hk => by rw [upto_len] at hk; simp only [graph_procsRight.b1, hk, if_false])
  rw [upto_len] at hk
  rw [rdl_upto h0 hk]
  unfold graph_procsRight.b1
  simp only [hk, if_true]
  have hL := endLoop (g := g) (i := k) [rdl g.Entry k, rdl g.Exit k] (by show 2 ≤ maxLen; decide)
  have he : ([rdl g.Entry k, rdl g.Exit k].all (endOk g k)) = pairOk g k := by simp [pairOk]
  rw [he] at hL
  refine ⟨fun ht => ⟨⟨h0, by omega⟩, ⟨h0, by omega⟩, _, hL, ?_⟩, fun ht => ⟨⟨h0, by omega⟩, ⟨h0, by omega⟩, _, hL, ?_⟩⟩
  · rw [ht]; show _ = _; rw [wrap_len (l := g.Procs) hl h0 hk]
  · rw [ht]; rfl
theorem fstBad_not {g : TGraph} (h : fstBad g = false) : g.Vars.length ≤ 64 ∧ 1 ≤ g.Procs.length ∧ g.Procs.length ≤ 1024 ∧ g.Entry.length = g.Procs.length ∧ g.Exit.length = g.Procs.length ∧ g.Of.length ≤ 4096 ∧ isI g.Main g.Procs.length = true := by
  simp only [fstBad, Bool.or_eq_false_iff, decide_eq_false_iff_not, Bool.not_eq_false', beq_iff_eq] at h
  obtain ⟨h1, h2, h3, h4, h5, h6, h7⟩ := h
  exact ⟨by omega, by omega, by omega, by omega, by omega, by omega, h7⟩
theorem graph_procsRight.ok {g : TGraph} (hg : GLen g) : graph_procsRight.f g (headsOk g) := by
  refine ⟨isI g.Main g.Procs.length, fun _ _ _ _ _ _ => graph_in.ok _ _, ?_⟩
  show if fstBad g = true then _ else _
  by_cases hb : fstBad g = true
  · rw [if_pos hb]; simp [headsOk, hb]
  · rw [if_neg hb]
    have hb' : fstBad g = false := by simpa using hb
    obtain ⟨h1, h2, h3, h4, h5, h6, h7⟩ := fstBad_not hb'
    obtain ⟨t, ht, he⟩ := containsFunc (q := fun x0_ y_ => graph_procsRight_1.f x0_ (g.Procs.length : Int) y_) (b := slices_IndexFunc_int.b1 g.Of (fun x0_ y_ => graph_procsRight_1.f x0_ (g.Procs.length : Int) y_)) (fun k => !isI k g.Procs.length) hg.of_ (fun x _ => ⟨_, graph_in.ok _ _, rfl⟩) rfl
    refine ⟨_, ⟨t, ht, he⟩, ?_⟩
    by_cases ha : (g.Of.any fun k => !isI k g.Procs.length) = true
    · rw [if_pos ha]
      have := notAny (fun k => isI k g.Procs.length) g.Of
      rw [ha] at this
      simp [headsOk, ← this]
    · rw [if_neg ha]
      have ha2 : g.Of.all (fun k => isI k g.Procs.length) = true := by rw [← notAny]; simpa using ha
      refine ⟨_, pairLoop hg.procs h4 h5, ?_⟩
      by_cases hp : (upto g.Procs.length).all (pairOk g) = true
      · rw [hp]
        obtain ⟨t, ht, he⟩ := containsFunc (q := fun x0_ y_ => graph_procsRight_2.f x0_ (g.Procs.length : Int) y_) (b := slices_IndexFunc_Site.b1 g.Sites (fun x0_ y_ => graph_procsRight_2.f x0_ (g.Procs.length : Int) y_)) (fun s => !isI s.Proc g.Procs.length) hg.sites (fun x _ => ⟨_, graph_in.ok _ _, rfl⟩) rfl
        refine ⟨_, fun _ => ⟨t, ht, he⟩, ?_⟩
        rw [notAny (fun s : TSite => isI s.Proc g.Procs.length)]
        simp [headsOk, hb', ha2, hp]
      · have hp2 : (upto g.Procs.length).all (pairOk g) = false := by simpa using hp
        rw [hp2]
        show headsOk g = false
        simp only [headsOk, hp2, Bool.false_and, Bool.and_false]
end Go.RM.Tryz
namespace Go.RM.Tryz
open Go.RM
set_option linter.unusedVariables false
set_option linter.unusedSimpArgs false
def kindOk (g : TGraph) (s : TStep) : Bool :=
  if s.Kind = 1 then s.X == 0 && (s.Y == 0 && (s.K == 0 && s.Site == 0))
  else if s.Kind = 2 then isI s.X g.Vars.length && (s.Y == 0 && s.Site == 0)
  else if s.Kind = 3 then isI s.X g.Vars.length && (isI s.Y g.Vars.length && (s.K == 0 && s.Site == 0))
  else if s.Kind = 4 then isI s.X g.Vars.length && (s.Y == 0 && (s.K == 0 && s.Site == 0))
  else if s.Kind = 5 then isI s.X g.Vars.length && (s.Y == 0 && (s.K == 0 && s.Site == 0))
  else if s.Kind = 6 then isI s.X g.Vars.length && (s.Y == 0 && (s.K == 0 && s.Site == 0))
  else if s.Kind = 8 then isI s.Site g.Sites.length && ((rdl g.Sites s.Site).From == s.From && ((rdl g.Sites s.Site).Back == s.To && (s.X == 0 && (s.Y == 0 && s.K == 0))))
  else false
def edgeOk (g : TGraph) (s : TStep) : Bool := isI s.From g.Of.length && (isI s.To g.Of.length && rdl g.Of s.From == rdl g.Of s.To)
def stepOk (g : TGraph) (s : TStep) : Bool := edgeOk g s && kindOk g s
theorem edge_not {g : TGraph} {s : TStep} : ((!isI s.From g.Of.length) || ((!isI s.To g.Of.length) || (rdl g.Of s.From != rdl g.Of s.To))) = !edgeOk g s := by
  simp [edgeOk, bne, Bool.not_and]
theorem graph_stepRight.ok {g : TGraph} {s : TStep} : graph_stepRight.f g s (stepOk g s) := by
  refine ⟨_, graph_in.ok _ _, _, fun _ => graph_in.ok _ _, fun a _ => isI_R a, fun _ b => isI_R b, ?_⟩
  rw [edge_not]
  by_cases hc : edgeOk g s = true
  · rw [if_neg (by simp [hc])]
    have e : stepOk g s = kindOk g s := by simp [stepOk, hc]
    rw [e]
    refine ⟨_, graph_in.ok _ _, _, graph_in.ok _ _, ?_⟩
    unfold kindOk
    by_cases h1 : s.Kind = 1
    · rw [if_pos h1, if_pos h1]; simp
    rw [if_neg h1, if_neg h1]
    by_cases h2 : s.Kind = 2
    · rw [if_pos h2, if_pos h2]; show _ = _; simp
    rw [if_neg h2, if_neg h2]
    by_cases h4 : s.Kind = 4
    · rw [if_pos h4]
      have : (s.Kind == 4) = true := by simp [h4]
      rw [this, if_neg (by omega), if_pos h4]
      show _ = _; simp
    rw [if_neg h4]
    by_cases h5 : s.Kind = 5
    · rw [if_pos h5]
      have : (s.Kind == 5) = true := by simp [h5]
      rw [this, if_neg (by omega), if_neg h4, if_pos h5]
      show _ = _; simp
    rw [if_neg h5]
    by_cases h6 : s.Kind = 6
    · have : (s.Kind == 6) = true := by simp [h6]
      rw [this, if_neg (by omega), if_neg h4, if_neg h5, if_pos h6]
      show _ = _; simp
    have : (s.Kind == 6) = false := by simp [h6]
    rw [this]
    show if s.Kind = 3 then _ else _
    by_cases h3 : s.Kind = 3
    · rw [if_pos h3, if_pos h3]; show _ = _; simp
    rw [if_neg h3, if_neg h3, if_neg h4, if_neg h5, if_neg h6]
    by_cases h8 : s.Kind = 8
    · rw [if_pos h8, if_pos h8]
      refine ⟨_, graph_in.ok _ _, fun a => isI_R a, fun a _ => isI_R a, ?_⟩
      by_cases hs : ((!isI s.Site g.Sites.length) || ((!((rdl g.Sites s.Site).From == s.From)) || ((rdl g.Sites s.Site).Back != s.To))) = true
      · rw [if_pos hs]
        rw [← Bool.not_eq_true]
        intro hk
        simp only [Bool.and_eq_true, beq_iff_eq] at hk
        simp [hk.1, hk.2.1, hk.2.2.1] at hs
      · rw [if_neg hs]
        simp only [Bool.or_eq_true, Bool.not_eq_true', bne_iff_ne, ne_eq, not_or, Bool.not_eq_false, Decidable.not_not, beq_iff_eq] at hs
        simp [hs.1, hs.2.1, hs.2.2]
    · rw [if_neg h8, if_neg h8]
  · rw [if_pos (by simpa using hc)]
    have : edgeOk g s = false := by simpa using hc
    simp [stepOk, this]
end Go.RM.Tryz
namespace Go.RM.Tryz
open Go.RM
set_option linter.unusedVariables false
set_option linter.unusedSimpArgs false
def nextOk (g : TGraph) (s : TStep) (c : Int) : Bool := stepOk g s && (!(s.Kind == 8) || s.Site == c)
def nextC (s : TStep) (c : Int) : Int := if s.Kind = 8 then c + 1 else c
def stepsO (g : TGraph) : List TStep → Int → Option Int
  | [], c => some c
  | s :: l, c => if nextOk g s c = true then stepsO g l (nextC s c) else none
def pointsOk (g : TGraph) : Bool := g.Points.all fun p => isI p.Node g.Of.length
def sinkOk (g : TGraph) (s : TSink) : Bool := isI s.Node g.Of.length && isI s.X g.Vars.length
def gOk (g : TGraph) : Bool := headsOk g && (decide (stepsO g g.Steps 0 = some (g.Sites.length : Int)) && (pointsOk g && g.Sinks.all (sinkOk g)))
def chkG (g : TGraph) : Int := if gOk g = true then 0 else 213
def progF (g : TGraph) : List TStep → Bool → Int → Bool × Int
  | [], ok, c => (ok, c)
  | s :: l, ok, c => if ok = true then progF g l (nextOk g s c) (nextC s c) else (ok, c)
theorem progF_no (g : TGraph) (l : List TStep) (c : Int) : progF g l false c = (false, c) := by
  cases l with
  | nil => rfl
  | cons s l => simp [progF]
theorem progF_steps (g : TGraph) (n : Int) : ∀ (l : List TStep) (ok : Bool) (c : Int), ((progF g l ok c).1 && ((progF g l ok c).2 == n)) = (ok && decide (stepsO g l c = some n))
  | l, false, c => by rw [progF_no]; rfl
  | [], true, c => by simp only [progF, stepsO, Option.some.injEq]; rfl
  | s :: l, true, c => by
    simp only [progF, stepsO, if_true]
    rw [progF_steps g n l]
    by_cases h : nextOk g s c = true
    · simp [h]
    · have h2 : nextOk g s c = false := by simpa using h
      simp [h2]
theorem nextC_rng {s : TStep} {c i : Int} (h0 : 0 ≤ c) (h1 : c ≤ i) : 0 ≤ nextC s c ∧ nextC s c ≤ i + 1 := by
  unfold nextC; split <;> omega
theorem stepsLoop {g : TGraph} (hg : GLen g) (ok : Bool) : Loop (graph_Check.b1 g) (ok, 0, 0) (.go (progF g g.Steps ok 0)) := by
  have hm : maxLen ≤ 9223372036854775807 := by decide
  have key := Loop.of (b := graph_Check.b1 g) (fun s => (.go (progF g (g.Steps.drop s.2.2.toNat) s.1 s.2.1) : Fin (Bool × Int) Int)) (fun s => ((g.Steps.length : Int) - s.2.2).toNat) (fun s => 0 ≤ s.2.2 ∧ 0 ≤ s.2.1 ∧ s.2.1 ≤ s.2.2) (fun s hi => by
    obtain ⟨ok, c, i⟩ := s
    obtain ⟨h0, h1, h2⟩ := hi
    simp only at h0 h1 h2 ⊢
    by_cases hc : (ok && (decide (i < (g.Steps.length : Int)))) = true
    · rw [Bool.and_eq_true, decide_eq_true_eq] at hc
      obtain ⟨rfl, hlt⟩ := hc
      have hl := hg.steps
      have hd := drop_rdl h0 hlt
      refine .inl ⟨(nextOk g (rdl g.Steps i) c, nextC (rdl g.Steps i) c, i + 1), ?_, by simp; omega, ⟨by simp; omega, (nextC_rng h1 h2).1, (nextC_rng h1 h2).2⟩, ?_⟩
      · show if (true && (decide (i < (g.Steps.length : Int)))) = true then _ else _
        rw [if_pos (by simpa using hlt)]
        refine ⟨⟨h0, hlt⟩, _, graph_stepRight.ok, ?_⟩
        have e1 := wrap_len (l := g.Steps) hg.steps h0 hlt
        by_cases h8 : (rdl g.Steps i).Kind = 8
        · rw [if_pos h8]
          show _ = _
          have e2 : IntKind.i64.wrap (c + 1) = c + 1 := wrap64 (by omega) (by omega)
          rw [e1, e2]
          simp [nextOk, nextC, h8]
        · rw [if_neg h8]
          show _ = _
          rw [e1]
          simp [nextOk, nextC, h8]
      · simp only [hd, progF, if_true]
    · refine .inr (.inl ⟨(ok, c), ?_, ?_⟩)
      · show if (ok && (decide (i < (g.Steps.length : Int)))) = true then _ else _
        rw [if_neg hc]
      · cases ok with
        | false => rw [progF_no]
        | true =>
          have : ¬ i < (g.Steps.length : Int) := by simpa using hc
          rw [drop_end h0 this]; rfl) (ok, 0, 0) ⟨by simp, by simp, by simp⟩
  simpa using key
theorem graph_Check.ok {g : TGraph} (hg : GLen g) : graph_Check.f g (chkG g) := by
  refine ⟨_, graph_procsRight.ok hg, _, stepsLoop hg _, ?_⟩
  have hs := progF_steps g (g.Sites.length : Int) g.Steps (headsOk g) 0
  generalize progF g g.Steps (headsOk g) 0 = x at hs
  obtain ⟨ok, c⟩ := x
  simp only at hs
  show ∃ t54_5 : Bool, _
  obtain ⟨t, ht, he⟩ := containsFunc (q := fun x0_ y_ => graph_Check_1.f x0_ g y_) (b := slices_IndexFunc_Point.b1 g.Points (fun x0_ y_ => graph_Check_1.f x0_ g y_)) (fun p => !isI p.Node g.Of.length) hg.points (fun x _ => ⟨_, graph_in.ok _ _, rfl⟩) rfl
  obtain ⟨t2, ht2, he2⟩ := containsFunc (q := fun x0_ y_ => graph_Check_2.f x0_ g y_) (b := slices_IndexFunc_Sink.b1 g.Sinks (fun x0_ y_ => graph_Check_2.f x0_ g y_)) (fun s => !sinkOk g s) hg.sinks (fun x _ => ⟨_, graph_in.ok _ _, _, fun _ => graph_in.ok _ _, by simp [sinkOk, Bool.not_and]⟩) rfl
  refine ⟨_, fun _ => ⟨t, ht, he⟩, _, fun _ => ⟨t2, ht2, he2⟩, ?_⟩
  have e1 := notAny (fun p : TPoint => isI p.Node g.Of.length) g.Points
  have e2 := notAny (sinkOk g) g.Sinks
  rw [hs, e1, e2]
  have eq : (headsOk g && decide (stepsO g g.Steps 0 = some (g.Sites.length : Int)) && (g.Points.all fun p => isI p.Node g.Of.length) && g.Sinks.all (sinkOk g)) = gOk g := by
    simp only [gOk, pointsOk, Bool.and_assoc]
  rw [eq]
  unfold chkG
  split <;> rfl
end Go.RM.Tryz
namespace Go.RM.Tryz
open Go.RM
set_option linter.unusedVariables false
set_option linter.unusedSimpArgs false
theorem stepsO_all {g : TGraph} : ∀ {l : List TStep} {c n : Int}, stepsO g l c = some n → ∀ s ∈ l, stepOk g s = true
  | [], c, n, h, s, hs => by cases hs
  | x :: l, c, n, h, s, hs => by
    unfold stepsO at h
    split at h
    · rename_i hn
      simp only [nextOk, Bool.and_eq_true] at hn
      cases hs with
      | head => exact hn.1
      | tail _ hs => exact stepsO_all h s hs
    · cases h
theorem stepsO_site {g : TGraph} : ∀ {l : List TStep} {c n : Int}, stepsO g l c = some n → ∀ k, c ≤ k → k < n → ∃ s ∈ l, s.Kind = 8 ∧ s.Site = k ∧ stepOk g s = true
  | [], c, n, h, k, h0, h1 => by
    injection h with h; omega
  | x :: l, c, n, h, k, h0, h1 => by
    unfold stepsO at h
    split at h
    · rename_i hn
      simp only [nextOk, Bool.and_eq_true, Bool.or_eq_true, Bool.not_eq_true', beq_eq_false_iff_ne, ne_eq, beq_iff_eq] at hn
      by_cases h8 : x.Kind = 8
      · have hs : x.Site = c := by
          rcases hn.2 with h | h
          · exact (h h8).elim
          · exact h
        by_cases hk : k = c
        · exact ⟨x, .head _, h8, by omega, hn.1⟩
        · have e : nextC x c = c + 1 := by simp [nextC, h8]
          rw [e] at h
          obtain ⟨s, hs, hr⟩ := stepsO_site h k (by omega) h1
          exact ⟨s, .tail _ hs, hr⟩
      · have e : nextC x c = c := by simp [nextC, h8]
        rw [e] at h
        obtain ⟨s, hs, hr⟩ := stepsO_site h k h0 h1
        exact ⟨s, .tail _ hs, hr⟩
    · cases h
structure GOk (g : TGraph) : Prop where
  vars : g.Vars.length ≤ 64
  entry : g.Entry.length = g.Procs.length
  exit : g.Exit.length = g.Procs.length
  main : isI g.Main g.Procs.length = true
  of_ : ∀ i, isI i g.Of.length = true → isI (rdl g.Of i) g.Procs.length = true
  ent : ∀ q, isI q g.Procs.length = true → isI (rdl g.Entry q) g.Of.length = true ∧ rdl g.Of (rdl g.Entry q) = q
  step : ∀ i, isI i g.Steps.length = true → stepOk g (rdl g.Steps i) = true
  proc : ∀ k, isI k g.Sites.length = true → isI (rdl g.Sites k).Proc g.Procs.length = true
  edge : ∀ k, isI k g.Sites.length = true → isI (rdl g.Sites k).From g.Of.length = true ∧ isI (rdl g.Sites k).Back g.Of.length = true ∧ rdl g.Of (rdl g.Sites k).From = rdl g.Of (rdl g.Sites k).Back
  sink : ∀ k, isI k g.Sinks.length = true → sinkOk g (rdl g.Sinks k) = true
theorem gOk.of {g : TGraph} (h : gOk g = true) : GOk g := by
  simp only [gOk, headsOk, Bool.and_eq_true, Bool.not_eq_true', decide_eq_true_eq] at h
  obtain ⟨⟨hb, hs, ho, hp, hst⟩, hsteps, hpo, hsi⟩ := h
  obtain ⟨h1, h2, h3, h4, h5, h6, h7⟩ := fstBad_not hb
  rw [List.all_eq_true] at ho hp hst hsi
  refine ⟨h1, h4, h5, h7, fun i hi => ?_, fun q hq => ?_, fun i hi => ?_, fun k hk => ?_, fun k hk => ?_, fun k hk => ?_⟩
  · have := isI_iff.1 hi
    exact ho _ (rdl_mem this.1 this.2)
  · have hq2 := isI_iff.1 hq
    have hm := hp (rdl (upto g.Procs.length) q) (rdl_mem hq2.1 (by rw [upto_len]; exact hq2.2))
    rw [rdl_upto hq2.1 hq2.2] at hm
    simp only [pairOk, endOk, Bool.and_eq_true, beq_iff_eq] at hm
    exact hm.1
  · have := isI_iff.1 hi
    exact stepsO_all hsteps _ (rdl_mem this.1 this.2)
  · have := isI_iff.1 hk
    exact hst _ (rdl_mem this.1 this.2)
  · have := isI_iff.1 hk
    obtain ⟨s, hs, h8, hk2, hok⟩ := stepsO_site hsteps k this.1 this.2
    simp only [stepOk, edgeOk, kindOk, h8, Bool.and_eq_true, beq_iff_eq] at hok
    obtain ⟨⟨e1, e2, e3⟩, hk3⟩ := hok
    simp at hk3
    obtain ⟨_, hf, hb, _⟩ := hk3
    rw [← hk2, hf, hb]
    exact ⟨e1, e2, e3⟩
  · have := isI_iff.1 hk
    exact hsi _ (rdl_mem this.1 this.2)
def siteOk (g : TGraph) (k at_ : Int) : Bool := isI k g.Sites.length && (rdl g.Sites k).Proc == at_
def behindK (g : TGraph) (k : Int) : Int := rdl g.Of (rdl g.Sites k).From
def stackF (g : TGraph) : List Int → Int → Bool
  | [], _ => true
  | k :: l, at_ => siteOk g k at_ && stackF g l (behindK g k)
def markOk (g : TGraph) (s : TState) : Bool := if g.Vars.length < 64 then decide (shrI .u64 s.Marks g.Vars.length = 0) else true
def stateOk (g : TGraph) (s : TState) : Bool := isI s.Node g.Of.length && (decide (s.Env.length = g.Vars.length) && (markOk g s && (decide (s.Stack.length ≤ 4096) && stackF g s.Stack (rdl g.Of s.Node))))
def chkS (g : TGraph) (s : TState) : Int := if gOk g = true then (if stateOk g s = true then 0 else 220) else 213
structure SLen (s : TState) : Prop where
  marks : InM s.Marks
  env : s.Env.length ≤ 17592186043904
  stack : s.Stack.length ≤ 17592186043904
theorem TState.Fit.len {s : TState} (h : s.Fit) : SLen s := by
  obtain ⟨_, h1, h2, h3⟩ := h
  exact ⟨wfu64 h2, by omega, by omega⟩
theorem SLen.stackM {s : TState} (h : SLen s) : s.Stack.length ≤ maxLen := by
  have := h.stack
  have hm : (17592186043904 : Nat) ≤ maxLen := by decide
  omega
def stepS {ρ : Type} (g : TGraph) (rv : ρ) (i : Int) (k at_ : Int) : Fin Int ρ := if siteOk g k at_ = true then .go (behindK g k) else .ret rv
theorem foldF_stack {ρ : Type} (g : TGraph) (rv : ρ) : ∀ (l : List Int) (i at_ : Int), ((foldF (stepS g rv) l i at_).map (fun _ => ()) : Fin Unit ρ) = if stackF g l at_ = true then .go () else .ret rv
  | [], i, at_ => rfl
  | k :: l, i, at_ => by
    unfold foldF stepS stackF
    by_cases h : siteOk g k at_ = true
    · rw [if_pos h, h, Bool.true_and]; exact foldF_stack g rv l (i + 1) _
    · rw [if_neg h]
      have : siteOk g k at_ = false := by simpa using h
      rw [this]; rfl
theorem site_not {g : TGraph} {k at_ : Int} : ((decide (k < 0)) || ((decide (k ≥ (g.Sites.length : Int))) || ((rdl g.Sites k).Proc != at_))) = !siteOk g k at_ := by
  have e : isI k g.Sites.length = (!decide (k < 0) && !decide (k ≥ (g.Sites.length : Int))) := by
    rw [Bool.eq_iff_iff]
    simp [isI]
  simp [siteOk, e, bne, Bool.not_and, Bool.or_assoc]
theorem stackLoop {ρ : Type} {g : TGraph} {s : TState} (hG : GOk g) (hl : s.Stack.length ≤ maxLen) (rv : ρ) (b : (Int × Int) → Rnd (Int × Int) Unit ρ → Prop)
    (hb : b = fun (x1, x2) z1 => if x2 < (s.Stack.length : Int) then (((InR x2 s.Stack.length)) ∧ (¬ ((rdl s.Stack x2) < 0) → ¬ ((rdl s.Stack x2) ≥ (g.Sites.length : Int)) → (InR (rdl s.Stack x2) g.Sites.length)) ∧ if ((decide ((rdl s.Stack x2) < 0)) || ((decide ((rdl s.Stack x2) ≥ (g.Sites.length : Int))) || ((rdl g.Sites (rdl s.Stack x2)).Proc != x1))) = true then (z1 = .ret rv) else (((InR (rdl s.Stack x2) g.Sites.length)) ∧ ((InR ((rdl g.Sites (rdl s.Stack x2)).From) g.Of.length)) ∧ z1 = .next ((rdl g.Of ((rdl g.Sites (rdl s.Stack x2)).From)), (IntKind.i64.wrap (x2 + 1))))) else (z1 = .exit ())) (at_ : Int) :
    Loop b (at_, 0) (if stackF g s.Stack at_ = true then .go () else .ret rv) := by
  have hL := foldLoop (l := s.Stack) (b := b) (fun i at_ => (at_, i)) (fun _ => ()) (stepS g rv) (fun _ _ => True) (fun i a h0 hlt _ => by
    unfold stepS
    have pre : ∀ z, (if ((decide ((rdl s.Stack i) < 0)) || ((decide ((rdl s.Stack i) ≥ (g.Sites.length : Int))) || ((rdl g.Sites (rdl s.Stack i)).Proc != a))) = true then (z = .ret rv) else (((InR (rdl s.Stack i) g.Sites.length)) ∧ ((InR ((rdl g.Sites (rdl s.Stack i)).From) g.Of.length)) ∧ z = .next ((rdl g.Of ((rdl g.Sites (rdl s.Stack i)).From)), (IntKind.i64.wrap (i + 1))))) → b (a, i) z := fun z hz => by
      rw [hb]
      show if i < (s.Stack.length : Int) then _ else _
      rw [if_pos hlt]
      exact ⟨⟨h0, hlt⟩, fun a b => ⟨by omega, by omega⟩, hz⟩
    by_cases h : siteOk g (rdl s.Stack i) a = true
    · rw [if_pos h]
      refine ⟨pre _ ?_, trivial⟩
      rw [site_not, h, if_neg (by simp)]
      simp only [siteOk, Bool.and_eq_true] at h
      exact ⟨isI_R h.1, isI_R (hG.edge _ h.1).1, by rw [wrap_len hl h0 hlt]; rfl⟩
    · rw [if_neg h]
      refine pre _ ?_
      have : siteOk g (rdl s.Stack i) a = false := by simpa using h
      rw [site_not, this, if_pos (show (!false) = true from rfl)]) (fun a _ => by
    rw [hb]
    show if (s.Stack.length : Int) < (s.Stack.length : Int) then _ else _
    rw [if_neg (by omega)]) at_ trivial
  rw [foldF_stack] at hL
  exact hL.1
def topOk (g : TGraph) (s : TState) : Bool := isI s.Node g.Of.length && (decide (s.Env.length = g.Vars.length) && (markOk g s && decide (s.Stack.length ≤ 4096)))
theorem stateOk_top (g : TGraph) (s : TState) : stateOk g s = (topOk g s && stackF g s.Stack (rdl g.Of s.Node)) := by
  simp only [stateOk, topOk, Bool.and_assoc]
theorem top_not {g : TGraph} {s : TState} : ((decide (s.Node < 0)) || ((decide (s.Node ≥ (g.Of.length : Int))) || ((!((s.Env.length : Int) == (g.Vars.length : Int))) || (bif (decide ((g.Vars.length : Int) < 64)) then ((!((shrI .u64 s.Marks (g.Vars.length : Int)) == 0)) || (decide ((s.Stack.length : Int) > 4096))) else (decide ((s.Stack.length : Int) > 4096)))))) = !topOk g s := by
  have e : isI s.Node g.Of.length = (!decide (s.Node < 0) && !decide (s.Node ≥ (g.Of.length : Int))) := by
    rw [Bool.eq_iff_iff]
    simp [isI]
  have e2 : ((s.Env.length : Int) == (g.Vars.length : Int)) = decide (s.Env.length = g.Vars.length) := by
    rw [Bool.eq_iff_iff]; simp; omega
  have e3 : decide ((s.Stack.length : Int) > 4096) = !decide (s.Stack.length ≤ 4096) := by
    rw [Bool.eq_iff_iff]; simp; omega
  unfold topOk markOk
  rw [e, e2, e3]
  by_cases hv : g.Vars.length < 64
  · have : decide ((g.Vars.length : Int) < 64) = true := by simp; omega
    rw [this, if_pos hv]
    simp only [cond_true, Bool.not_and, Bool.not_not, Bool.or_assoc]
    congr 4
  · have : decide ((g.Vars.length : Int) < 64) = false := by simp; omega
    rw [this, if_neg hv]
    simp only [cond_false, Bool.not_and, Bool.not_not, Bool.or_assoc, Bool.not_true, Bool.false_or]
theorem frames_Check.ok {g : TGraph} {s : TState} (hg : GLen g) (hs : SLen s) : frames_Check.f g s (chkS g s) := by
  refine ⟨_, graph_Check.ok hg, ?_⟩
  unfold chkG chkS
  by_cases hk : gOk g = true
  · rw [if_pos hk, if_pos rfl]
    have hG := gOk.of hk
    refine ⟨fun _ _ _ _ => Int.natCast_nonneg _, ?_⟩
    rw [top_not, if_pos hk, stateOk_top]
    by_cases ht : topOk g s = true
    · rw [ht, if_neg (by simp), Bool.true_and]
      refine ⟨isI_R (by simp only [topOk, Bool.and_eq_true] at ht; exact ht.1), _, stackLoop hG hs.stackM 220 _ rfl _, ?_⟩
      by_cases hq : stackF g s.Stack (rdl g.Of s.Node) = true
      · rw [if_pos hq, if_pos hq]; rfl
      · rw [if_neg hq, if_neg hq]; rfl
    · have : topOk g s = false := by simpa using ht
      rw [this, if_pos (show (!false) = true from rfl)]; rfl
  · rw [if_neg hk, if_neg (by decide), if_neg hk]
def hiOk (m : Int) (i : Nat) : Bool := (List.range 64).all fun j => decide (j < i) || !bitM m j
theorem hiOk_iff {m : Int} {i : Nat} : hiOk m i = true ↔ ∀ j, i ≤ j → j < 64 → bitM m j = false := by
  unfold hiOk
  rw [List.all_eq_true]
  constructor
  · intro h j h0 h1
    have := h j (List.mem_range.2 h1)
    simp only [Bool.or_eq_true, decide_eq_true_eq, Bool.not_eq_true'] at this
    rcases this with h | h
    · omega
    · exact h
  · intro h j hj
    simp only [Bool.or_eq_true, decide_eq_true_eq, Bool.not_eq_true']
    by_cases hji : j < i
    · exact .inl hji
    · exact .inr (h j (by omega) (List.mem_range.1 hj))
theorem markOk_hi {g : TGraph} {s : TState} (hv : g.Vars.length ≤ 64) (hm : InM s.Marks) : markOk g s = hiOk s.Marks g.Vars.length := by
  unfold markOk
  rw [Bool.eq_iff_iff, hiOk_iff]
  by_cases h : g.Vars.length < 64
  · rw [if_pos h, decide_eq_true_eq, shr_zero hm hv]
    constructor
    · exact fun hh j h0 _ => hh j h0
    · intro hh j h0
      by_cases hj : j < 64
      · exact hh j h0 hj
      · exact bitM_high hm (by omega)
  · rw [if_neg h]
    simp
    intro j h0 h1; omega
end Go.RM.Tryz
namespace Go.RM.Tryz
open Go.RM
set_option linter.unusedVariables false
set_option linter.unusedSimpArgs false
def noneS : TState := ⟨0, [], 0, []⟩
def setM (m x : Int) (is : Bool) : Int := if is = true then bitOp .or .u64 m (shlI .u64 1 x) else bitOp .andNot .u64 m (shlI .u64 1 x)
def overM (g : TGraph) (s : TState) : Bool := (s.Node == (rdl g.Exit (rdl g.Of s.Node))) && (decide ((s.Stack.length : Int) > 0))
def moveM (g : TGraph) (s : TState) (m : TMove) (x : TStep) : TState × Int :=
  if x.Kind = 2 then (⟨x.To, setl s.Env x.X x.K, setM s.Marks x.X false, s.Stack⟩, 0)
  else if x.Kind = 4 then (⟨x.To, setl s.Env x.X m.Draw, setM s.Marks x.X false, s.Stack⟩, 0)
  else if x.Kind = 3 then (⟨x.To, setl s.Env x.X (rdl s.Env x.Y), setM s.Marks x.X ((bitOp .and .u64 (shrI .u64 s.Marks x.Y) 1) == 1), s.Stack⟩, 0)
  else if x.Kind = 5 then (⟨x.To, s.Env, setM s.Marks x.X true, s.Stack⟩, 0)
  else if x.Kind = 6 then (⟨x.To, s.Env, setM s.Marks x.X false, s.Stack⟩, 0)
  else if x.Kind = 8 then (if (s.Stack.length : Int) ≥ 4096 then (noneS, 2) else (⟨rdl g.Entry (rdl g.Sites x.Site).Proc, s.Env, s.Marks, [x.Site] ++ s.Stack⟩, 0))
  else (⟨x.To, s.Env, s.Marks, s.Stack⟩, 0)
def doM (g : TGraph) (s : TState) (m : TMove) : TState × Int :=
  if m.Step = -1 then (if ((!(m.Draw == 0)) || (!overM g s)) = true then (noneS, 221) else (⟨(rdl g.Sites (rdl s.Stack 0)).Back, s.Env, s.Marks, cutl s.Stack 1 (s.Stack.length : Int)⟩, 0))
  else if ((decide (m.Step < 0)) || (decide (m.Step ≥ (g.Steps.length : Int)))) = true then (noneS, 221)
  else if ((!((rdl g.Steps m.Step).From == s.Node)) || ((!(m.Draw == 0)) && ((rdl g.Steps m.Step).Kind != 4))) = true then (noneS, 221)
  else moveM g s m (rdl g.Steps m.Step)
structure SOk (g : TGraph) (s : TState) : Prop where
  node : isI s.Node g.Of.length = true
  env : s.Env.length = g.Vars.length
  mark : markOk g s = true
  short : s.Stack.length ≤ 4096
  stack : stackF g s.Stack (rdl g.Of s.Node) = true
  marks : InM s.Marks
theorem SOk.of {g : TGraph} {s : TState} (h : stateOk g s = true) (hm : InM s.Marks) : SOk g s := by
  simp only [stateOk, Bool.and_eq_true, decide_eq_true_eq] at h
  exact ⟨h.1, h.2.1, h.2.2.1, h.2.2.2.1, h.2.2.2.2, hm⟩
theorem SOk.len {g : TGraph} {s : TState} (hG : GOk g) (h : SOk g s) : SLen s := ⟨h.marks, by have := hG.vars; have := h.env; omega, by have := h.short; omega⟩
theorem slices_Clone_int.ok {a : List Int} (h : a.length ≤ 17592186043904) : slices_Clone_int.f a a := by
  unfold slices_Clone_int.f
  by_cases h0 : a.length = 0
  · rw [if_pos h0]
    have e := List.eq_nil_of_length_eq_zero h0
    subst e
    intro z k
    split
    · rfl
    · exact ⟨by unfold Fits; omega, rfl⟩
  · rw [if_neg h0]
    exact ⟨by unfold Fits; omega, rfl⟩
theorem slices_Clone_int64.ok {a : List Int} (h : a.length ≤ 17592186043904) : slices_Clone_int64.f a a := by
  unfold slices_Clone_int64.f
  by_cases h0 : a.length = 0
  · rw [if_pos h0]
    have e := List.eq_nil_of_length_eq_zero h0
    subst e
    intro z k
    split
    · rfl
    · exact ⟨by unfold Fits; omega, rfl⟩
  · rw [if_neg h0]
    exact ⟨by unfold Fits; omega, rfl⟩
theorem slices_Clone_int64_o0.ok {a : List Int} (h : a.length ≤ 17592186043904) : slices_Clone_int64_o0.f a a := by
  unfold slices_Clone_int64_o0.f
  by_cases h0 : a.length = 0
  · rw [if_pos h0]
    have e := List.eq_nil_of_length_eq_zero h0
    subst e
    intro z k
    split
    · rfl
    · exact ⟨by unfold Fits; omega, rfl⟩
  · rw [if_neg h0]
    exact ⟨by unfold Fits; omega, rfl⟩
theorem frames_set.ok {m x : Int} {is : Bool} (h : 0 ≤ x) : frames_set.f m x is (setM m x is) := by
  unfold frames_set.f setM
  by_cases hi : is = true
  · rw [if_pos hi, if_pos hi]; exact ⟨h, rfl⟩
  · rw [if_neg hi, if_neg hi]; exact ⟨h, rfl⟩
theorem frames_over.ok {g : TGraph} {s : TState} (hG : GOk g) (h : SOk g s) : frames_over.f g s (overM g s) :=
  ⟨isI_R h.node, by have := hG.of_ _ h.node; rw [← hG.exit] at this; exact isI_R this, rfl⟩
theorem kind_X {g : TGraph} {x : TStep} (h : stepOk g x = true) (hk : x.Kind = 2 ∨ x.Kind = 3 ∨ x.Kind = 4 ∨ x.Kind = 5 ∨ x.Kind = 6) : isI x.X g.Vars.length = true := by
  simp only [stepOk, kindOk, Bool.and_eq_true] at h
  have h := h.2
  rcases hk with hk | hk | hk | hk | hk <;> simp [hk] at h <;> exact h.1
theorem kind_Y {g : TGraph} {x : TStep} (h : stepOk g x = true) (hk : x.Kind = 3) : isI x.Y g.Vars.length = true := by
  simp only [stepOk, kindOk, Bool.and_eq_true] at h
  have h := h.2
  simp [hk] at h; exact h.2.1
theorem kind_site {g : TGraph} {x : TStep} (h : stepOk g x = true) (hk : x.Kind = 8) : isI x.Site g.Sites.length = true ∧ (rdl g.Sites x.Site).From = x.From := by
  simp only [stepOk, kindOk, Bool.and_eq_true] at h
  have h := h.2
  simp [hk] at h; exact ⟨h.1, h.2.1⟩
theorem kind_edge {g : TGraph} {x : TStep} (h : stepOk g x = true) : isI x.To g.Of.length = true ∧ rdl g.Of x.From = rdl g.Of x.To := by
  simp only [stepOk, edgeOk, Bool.and_eq_true, beq_iff_eq] at h
  exact ⟨h.1.2.1, h.1.2.2⟩
theorem over_top {g : TGraph} {s : TState} (h : overM g s = true) : 0 < s.Stack.length := by
  simp only [overM, Bool.and_eq_true, decide_eq_true_eq] at h; omega
theorem top_site {g : TGraph} {s : TState} (h : SOk g s) (h0 : 0 < s.Stack.length) : siteOk g (rdl s.Stack 0) (rdl g.Of s.Node) = true ∧ stackF g (s.Stack.drop 1) (behindK g (rdl s.Stack 0)) = true := by
  have hq := h.stack
  cases hl : s.Stack with
  | nil => rw [hl] at h0; simp at h0
  | cons k l =>
    rw [hl] at hq
    simp only [stackF, Bool.and_eq_true] at hq
    rw [rdl0]; exact hq
theorem step_at {g : TGraph} {m : TMove} (h1 : ¬ m.Step = -1) (h : ¬ ((decide (m.Step < 0)) || (decide (m.Step ≥ (g.Steps.length : Int)))) = true) : isI m.Step g.Steps.length = true := by
  simp at h
  exact isI_iff.2 ⟨h.1, h.2⟩
theorem frames_do.ok {g : TGraph} {s : TState} (hG : GOk g) (hS : SOk g s) (m : TMove) : frames_do.f g s m (doM g s m) := by
  have hl := hS.len hG
  have hv := hG.vars
  refine ⟨_, slices_Clone_int64_o0.ok hl.env, _, slices_Clone_int.ok hl.stack, ?_⟩
  unfold doM
  by_cases h1 : m.Step = -1
  · rw [if_pos h1, if_pos h1]
    refine ⟨_, fun _ => frames_over.ok hG hS, ?_⟩
    by_cases hc : ((!(m.Draw == 0)) || (!overM g s)) = true
    · rw [if_pos hc, if_pos hc]; rfl
    · rw [if_neg hc, if_neg hc]
      have ho : overM g s = true := by simp at hc; exact hc.2
      have h0 := over_top ho
      have ht := (top_site hS h0).1
      simp only [siteOk, Bool.and_eq_true] at ht
      exact ⟨⟨by omega, by omega⟩, isI_R ht.1, ⟨by omega, by omega, by omega⟩, rfl⟩
  rw [if_neg h1, if_neg h1]
  by_cases h2 : ((decide (m.Step < 0)) || (decide (m.Step ≥ (g.Steps.length : Int)))) = true
  · rw [if_pos h2, if_pos h2]; rfl
  rw [if_neg h2, if_neg h2]
  have hi := step_at h1 h2
  have hok := hG.step _ hi
  refine ⟨isI_R hi, ?_⟩
  by_cases h3 : ((!((rdl g.Steps m.Step).From == s.Node)) || ((!(m.Draw == 0)) && ((rdl g.Steps m.Step).Kind != 4))) = true
  · rw [if_pos h3, if_pos h3]; rfl
  rw [if_neg h3, if_neg h3]
  generalize hx : rdl g.Steps m.Step = x at hok
  have hX : (x.Kind = 2 ∨ x.Kind = 3 ∨ x.Kind = 4 ∨ x.Kind = 5 ∨ x.Kind = 6) → InR x.X s.Env.length := fun hk => by rw [hS.env]; exact isI_R (kind_X hok hk)
  unfold moveM
  by_cases k2 : x.Kind = 2
  · rw [if_pos k2, if_pos k2]
    have := hX (by omega)
    exact ⟨_, frames_set.ok this.1, this, rfl⟩
  rw [if_neg k2, if_neg k2]
  by_cases k4 : x.Kind = 4
  · rw [if_pos k4, if_pos k4]
    have := hX (by omega)
    exact ⟨_, frames_set.ok this.1, this, rfl⟩
  rw [if_neg k4, if_neg k4]
  by_cases k3 : x.Kind = 3
  · rw [if_pos k3, if_pos k3]
    have := hX (by omega)
    have hY : InR x.Y s.Env.length := by rw [hS.env]; exact isI_R (kind_Y hok k3)
    exact ⟨hY, hY.1, _, frames_set.ok this.1, this, rfl⟩
  rw [if_neg k3, if_neg k3]
  have hj : (x.Kind = 5 ∨ x.Kind = 6) → ∃ t33_7 : Int, (frames_set.f s.Marks x.X (x.Kind == 5) t33_7) ∧ ((⟨x.To, s.Env, setM s.Marks x.X (x.Kind == 5), s.Stack⟩ : TState), (0 : Int)) = ((TState.mk x.To s.Env t33_7 s.Stack), 0) := fun hk => ⟨_, frames_set.ok (hX (by omega)).1, rfl⟩
  by_cases k5 : x.Kind = 5
  · rw [if_pos k5, if_pos k5]
    have := hj (.inl k5)
    rw [show (x.Kind == 5) = true by simp [k5]] at this
    unfold frames_do.j1
    rw [hx, show (x.Kind == 5) = true by simp [k5]]
    exact this
  rw [if_neg k5, if_neg k5]
  by_cases k6 : x.Kind = 6
  · rw [if_pos k6, if_pos k6]
    have := hj (.inr k6)
    rw [show (x.Kind == 5) = false by simp [k5]] at this
    unfold frames_do.j1
    rw [hx, show (x.Kind == 5) = false by simp [k5]]
    exact this
  rw [if_neg k6, if_neg k6]
  by_cases k8 : x.Kind = 8
  · rw [if_pos k8, if_pos k8]
    by_cases h9 : (s.Stack.length : Int) ≥ 4096
    · rw [if_pos h9, if_pos h9]; rfl
    · rw [if_neg h9, if_neg h9]
      have hs := (kind_site hok k8).1
      have hp := hG.proc _ hs
      rw [← hG.entry] at hp
      exact ⟨isI_R hs, isI_R hp, by unfold Fits; simp; omega, rfl⟩
  · rw [if_neg k8, if_neg k8]
end Go.RM.Tryz
namespace Go.RM.Tryz
open Go.RM
set_option linter.unusedVariables false
set_option linter.unusedSimpArgs false
theorem setM_InM (m x : Int) (is : Bool) : InM (setM m x is) := by
  unfold setM
  split
  · exact or_InM _ _
  · exact andNot_InM _ _
theorem setM_bit {m x : Int} {is : Bool} (hm : InM m) (h0 : 0 ≤ x) (h1 : x < 64) {j : Nat} (hj : j ≠ x.toNat) : bitM (setM m x is) j = bitM m j := by
  unfold setM
  rw [one_shl h0 h1]
  have hp : InM (2 ^ x.toNat) := pow_InM (by omega)
  split
  · rw [bit_or hm hp, bit_pow, decide_eq_false (fun h => hj h.symm)]; simp
  · rw [bit_andNot hm hp, bit_pow, decide_eq_false (fun h => hj h.symm)]; simp
theorem mark_keep {g : TGraph} {s t : TState} {x : Int} {is : Bool} (hG : GOk g) (hm : InM s.Marks) (hx : isI x g.Vars.length = true) (hmk : markOk g s = true) (ht : t.Marks = setM s.Marks x is) : markOk g t = true := by
  have hv := hG.vars
  have hx2 := isI_iff.1 hx
  rw [markOk_hi hv hm, hiOk_iff] at hmk
  rw [markOk_hi hv (ht ▸ setM_InM _ _ _), hiOk_iff]
  intro j h0 h1
  rw [ht, setM_bit hm hx2.1 (by omega) (by omega)]
  exact hmk j h0 h1
theorem cut1 {α : Type} (l : List α) : cutl l 1 (l.length : Int) = l.drop 1 := by
  unfold cutl
  apply List.take_of_length_le
  simp
theorem setl_len {α : Type} (l : List α) (i : Int) (a : α) : (setl l i a).length = l.length := by simp [setl]
theorem doM_keep {g : TGraph} {s : TState} (hG : GOk g) (hS : SOk g s) (m : TMove) (h : (doM g s m).2 = 0) : SOk g (doM g s m).1 := by
  revert h
  unfold doM
  by_cases h1 : m.Step = -1
  · rw [if_pos h1]
    by_cases hc : ((!(m.Draw == 0)) || (!overM g s)) = true
    · rw [if_pos hc]; intro h; exact absurd h (by decide)
    · rw [if_neg hc]; intro _
      have ho : overM g s = true := by simp at hc; exact hc.2
      have h0 := over_top ho
      have ht := top_site hS h0
      have ht1 := ht.1
      simp only [siteOk, Bool.and_eq_true] at ht1
      have he := hG.edge _ ht1.1
      refine ⟨he.2.1, hS.env, hS.mark, ?_, ?_, hS.marks⟩
      · show (cutl s.Stack 1 (s.Stack.length : Int)).length ≤ 4096
        rw [cut1]; have := hS.short; simp; omega
      · show stackF g (cutl s.Stack 1 (s.Stack.length : Int)) _ = true
        rw [cut1]
        have := ht.2
        unfold behindK at this
        rw [he.2.2] at this
        exact this
  rw [if_neg h1]
  by_cases h2 : ((decide (m.Step < 0)) || (decide (m.Step ≥ (g.Steps.length : Int)))) = true
  · rw [if_pos h2]; intro h; exact absurd h (by decide)
  rw [if_neg h2]
  have hok := hG.step _ (step_at h1 h2)
  by_cases h3 : ((!((rdl g.Steps m.Step).From == s.Node)) || ((!(m.Draw == 0)) && ((rdl g.Steps m.Step).Kind != 4))) = true
  · rw [if_pos h3]; intro h; exact absurd h (by decide)
  rw [if_neg h3]
  have hfrom : (rdl g.Steps m.Step).From = s.Node := by
    simp at h3; exact h3.1
  generalize rdl g.Steps m.Step = x at hok hfrom
  have hed := kind_edge hok
  have hstack : stackF g s.Stack (rdl g.Of x.To) = true := by rw [← hed.2, hfrom]; exact hS.stack
  unfold moveM
  by_cases k2 : x.Kind = 2
  · rw [if_pos k2]; intro _
    exact ⟨hed.1, by show (setl _ _ _).length = _; rw [setl_len]; exact hS.env, mark_keep (is := false) hG hS.marks (kind_X hok (by omega)) hS.mark rfl, hS.short, hstack, setM_InM s.Marks x.X false⟩
  rw [if_neg k2]
  by_cases k4 : x.Kind = 4
  · rw [if_pos k4]; intro _
    exact ⟨hed.1, by show (setl _ _ _).length = _; rw [setl_len]; exact hS.env, mark_keep (is := false) hG hS.marks (kind_X hok (by omega)) hS.mark rfl, hS.short, hstack, setM_InM s.Marks x.X false⟩
  rw [if_neg k4]
  by_cases k3 : x.Kind = 3
  · rw [if_pos k3]; intro _
    exact ⟨hed.1, by show (setl _ _ _).length = _; rw [setl_len]; exact hS.env, mark_keep (is := ((bitOp .and .u64 (shrI .u64 s.Marks x.Y) 1) == 1)) hG hS.marks (kind_X hok (by omega)) hS.mark rfl, hS.short, hstack, setM_InM s.Marks x.X ((bitOp .and .u64 (shrI .u64 s.Marks x.Y) 1) == 1)⟩
  rw [if_neg k3]
  by_cases k5 : x.Kind = 5
  · rw [if_pos k5]; intro _
    exact ⟨hed.1, hS.env, mark_keep (is := true) hG hS.marks (kind_X hok (by omega)) hS.mark rfl, hS.short, hstack, setM_InM s.Marks x.X true⟩
  rw [if_neg k5]
  by_cases k6 : x.Kind = 6
  · rw [if_pos k6]; intro _
    exact ⟨hed.1, hS.env, mark_keep (is := false) hG hS.marks (kind_X hok (by omega)) hS.mark rfl, hS.short, hstack, setM_InM s.Marks x.X false⟩
  rw [if_neg k6]
  by_cases k8 : x.Kind = 8
  · rw [if_pos k8]
    by_cases h9 : (s.Stack.length : Int) ≥ 4096
    · rw [if_pos h9]; intro h; exact absurd h (by decide)
    · rw [if_neg h9]; intro _
      have hs := kind_site hok k8
      have hp := hG.proc _ hs.1
      have he := hG.ent _ hp
      refine ⟨he.1, hS.env, hS.mark, by show ([x.Site] ++ s.Stack).length ≤ 4096; simp; omega, ?_, hS.marks⟩
      show stackF g (x.Site :: s.Stack) _ = true
      unfold stackF siteOk behindK
      rw [hs.1, he.2, hs.2, hfrom]
      simp [hS.stack]
  · rw [if_neg k8]; intro _
    exact ⟨hed.1, hS.env, hS.mark, hS.short, hstack, hS.marks⟩
theorem chkS_ok {g : TGraph} {s : TState} (hs : SLen s) (h : chkS g s = 0) : GOk g ∧ SOk g s := by
  unfold chkS at h
  split at h
  · rename_i hg
    split at h
    · rename_i hst
      exact ⟨gOk.of hg, SOk.of hst hs.marks⟩
    · exact absurd h (by decide)
  · exact absurd h (by decide)
def stepRn (g : TGraph) (i : Int) (m : TMove) (s : TState) : Fin TState (TState × Int × Int) := if (doM g s m).2 = 0 then .go (doM g s m).1 else .ret (noneS, i, (doM g s m).2)
def endR : Fin TState (TState × Int × Int) → TState × Int × Int
  | .go t => (t, 0, 0)
  | .ret r => r
def runM (g : TGraph) (s : TState) (l : List TMove) : TState × Int × Int := if chkS g s = 0 then endR (foldF (stepRn g) l 0 s) else (noneS, 0, chkS g s)
abbrev RSt := Int × (List Int) × Int × (List Int)
theorem runLoop {g : TGraph} {s : TState} (hG : GOk g) (hS : SOk g s) {l : List TMove} (hl : l.length ≤ maxLen) (f : TGraph → TState → TMove → TState × Int → Prop) (hf : ∀ s m, SOk g s → f g s m (doM g s m))
    (b : (Int × (List Int) × Int × (List Int) × Int) → Rnd (Int × (List Int) × Int × (List Int) × Int) RSt (TState × Int × Int) → Prop)
    (hb : b = fun (x1, x2, x3, x4, x5) z1 => if x5 < (l.length : Int) then (((InR x5 l.length)) ∧ ∃ t22_3 : TState × Int, (f g (TState.mk x1 x2 x3 x4) (rdl l x5) t22_3) ∧ if t22_3.2 = 0 then (z1 = .next (t22_3.1.Node, t22_3.1.Env, t22_3.1.Marks, t22_3.1.Stack, (IntKind.i64.wrap (x5 + 1)))) else (z1 = .ret ((TState.mk 0 [] 0 []), x5, t22_3.2))) else (z1 = .exit (x1, x2, x3, x4))) :
    Loop b (s.Node, s.Env, s.Marks, s.Stack, 0) ((foldF (stepRn g) l 0 s).map (fun t => (t.Node, t.Env, t.Marks, t.Stack))) ∧ ∀ t, foldF (stepRn g) l 0 s = .go t → SOk g t := by
  refine foldLoop (l := l) (b := b) (fun i s => (s.Node, s.Env, s.Marks, s.Stack, i)) (fun t => (t.Node, t.Env, t.Marks, t.Stack)) (stepRn g) (fun _ s => SOk g s) (fun i s h0 hlt hi => ?_) (fun s _ => ?_) s hS
  · unfold stepRn
    have pre : ∀ z, (if (doM g s (rdl l i)).2 = 0 then (z = .next ((doM g s (rdl l i)).1.Node, (doM g s (rdl l i)).1.Env, (doM g s (rdl l i)).1.Marks, (doM g s (rdl l i)).1.Stack, (IntKind.i64.wrap (i + 1)))) else (z = .ret ((TState.mk 0 [] 0 []), i, (doM g s (rdl l i)).2))) → b (s.Node, s.Env, s.Marks, s.Stack, i) z := fun z hz => by
      rw [hb]
      show if i < (l.length : Int) then _ else _
      rw [if_pos hlt]
      exact ⟨⟨h0, hlt⟩, _, hf s _ hi, hz⟩
    by_cases h : (doM g s (rdl l i)).2 = 0
    · rw [if_pos h]
      exact ⟨pre _ (by rw [if_pos h, wrap_len hl h0 hlt]), doM_keep hG hi _ h⟩
    · rw [if_neg h]
      exact pre _ (by rw [if_neg h]; rfl)
  · rw [hb]
    show if (l.length : Int) < (l.length : Int) then _ else _
    rw [if_neg (by omega)]
theorem run_on {x : Fin TState (TState × Int × Int)} : (x.map (fun t => (t.Node, t.Env, t.Marks, t.Stack)) : Fin RSt (TState × Int × Int)).on (fun (x6, x7, x8, x9) => endR x = ((TState.mk x6 x7 x8 x9), 0, 0)) (fun r_ => endR x = r_) := by
  cases x with
  | go t => rfl
  | ret r => rfl
theorem frames_Run.ok {g : TGraph} {s : TState} (hg : GLen g) (hs : SLen s) {l : List TMove} (hl : l.length ≤ maxLen) : frames_Run.f g s l (runM g s l) := by
  refine ⟨_, frames_Check.ok hg hs, ?_⟩
  unfold runM
  by_cases h : chkS g s = 0
  · rw [if_pos h, if_pos h]
    obtain ⟨hG, hS⟩ := chkS_ok hs h
    exact ⟨_, slices_Clone_int64.ok hs.env, _, slices_Clone_int.ok hs.stack, _, (runLoop hG hS hl frames_do.f (fun s m h => frames_do.ok hG h m) _ rfl).1, run_on⟩
  · rw [if_neg h, if_neg h]; rfl
end Go.RM.Tryz
namespace Go.RM.Tryz
open Go.RM
set_option linter.unusedVariables false
set_option linter.unusedSimpArgs false
def few (l : List TMove) : List TMove := if (l.length : Int) > 100 then cutl l 0 100 else l
theorem r22_Same.refl {s : TState} (h1 : s.Env.length ≤ maxLen) (h2 : s.Stack.length ≤ maxLen) : r22_Same.f s s true := by
  unfold r22_Same.f
  rw [if_neg (by simp)]
  have e1 := eqRound (b := r22_Same.b1 s s) h1 rfl rfl
  have e2 := eqRound (b := r22_Same.b2 s s) h2 rfl rfl
  rw [if_pos rfl] at e1 e2
  exact ⟨_, e1, _, e2, rfl⟩
theorem SOk.same {g : TGraph} {s : TState} (hG : GOk g) (h : SOk g s) : r22_Same.f s s true := by
  have hm : (4096 : Nat) ≤ maxLen := by decide
  exact r22_Same.refl (by have := h.env; have := hG.vars; omega) (by have := h.short; omega)
theorem run_end {g : TGraph} {s : TState} (hG : GOk g) (l : List TMove) : ∀ (i : Int) (s : TState), SOk g s → (∃ t, foldF (stepRn g) l i s = .go t ∧ SOk g t) ∨ ∃ k e, foldF (stepRn g) l i s = .ret (noneS, k, e) ∧ i ≤ k ∧ k < i + l.length ∧ e ≠ 0 := by
  induction l with
  | nil => exact fun i s h => .inl ⟨s, rfl, h⟩
  | cons m l ih =>
    intro i s h
    unfold foldF stepRn
    by_cases h0 : (doM g s m).2 = 0
    · rw [if_pos h0]
      rcases ih (i + 1) _ (doM_keep hG h m h0) with h1 | ⟨k, e, h1, h2, h3, h4⟩
      · exact .inl h1
      · exact .inr ⟨k, e, h1, by omega, by simp; omega, h4⟩
    · rw [if_neg h0]
      exact .inr ⟨i, _, rfl, by omega, by simp; omega, h0⟩
end Go.RM.Tryz
namespace Go.RM.Tryz
open Go.RM
set_option linter.unusedVariables false
set_option linter.unusedSimpArgs false
def pickG {α : Type} (p : α → Bool) (i : Int) (x : α) (acc : List Int) : List Int := if p x = true then acc ++ [i] else acc
def pickM {α : Type} (p : α → Bool) (l : List α) : List Int := foldG (pickG p) l 0 []
theorem pickLoop {α ρ : Type} [Inhabited α] {l : List α} (p : α → Bool) {b : (List Int × Int) → Rnd (List Int × Int) (List Int) ρ → Prop}
    (hb : ∀ (i : Int) (acc : List Int), 0 ≤ i → i < (l.length : Int) → (acc.length : Int) ≤ i → b (acc, i) (.next (pickG p i (rdl l i) acc, i + 1))) (hend : ∀ acc, b (acc, (l.length : Int)) (.exit acc)) :
    Loop b ([], 0) (.go (pickM p l)) ∧ (pickM p l).length ≤ l.length := by
  have key := foldGLoop (l := l) (b := b) (fun i (acc : List Int) => (acc, i)) id (pickG p) (fun i acc => (acc.length : Int) ≤ i) (fun i acc h0 h1 hi => ⟨hb i acc h0 h1 hi, by
    unfold pickG; split
    · simp; omega
    · omega⟩) (fun acc _ => hend acc) [] (by simp)
  have hl := foldG_inv (g := pickG p) (fun i acc => (acc.length : Int) ≤ i) l 0 [] (fun i acc x _ h => by
    unfold pickG; split
    · simp; omega
    · omega) (by simp)
  exact ⟨key.1, by unfold pickM; omega⟩
def fromM (g : TGraph) (n : Int) : List Int := pickM (fun x : TStep => x.From == n) g.Steps
theorem graph_From.ok {g : TGraph} (hg : GLen g) (h : chkG g = 0) {n : Int} (hn : isI n g.Of.length = true) (hs : g.Steps.length ≤ 300) : graph_From.f g n (fromM g n, 0) := by
  refine ⟨_, graph_Check.ok hg, ?_⟩
  rw [if_pos h]
  refine ⟨_, graph_in.ok _ _, ?_⟩
  rw [if_pos hn]
  have key := (pickLoop (l := g.Steps) (fun x : TStep => x.From == n) (b := graph_From.b1 g n) (fun i acc h0 h1 ha => by
    unfold graph_From.b1
    simp only [h1, if_true]
    refine ⟨⟨h0, h1⟩, ?_⟩
    unfold pickG
    by_cases e : (rdl g.Steps i).From = n
    · rw [if_pos e, if_pos (by simpa using e)]
      refine ⟨by unfold Fits; omega, ?_⟩
      unfold graph_From.j1
      rw [wrap_len hg.steps h0 h1]
    · rw [if_neg e, if_neg (by simpa using e)]
      unfold graph_From.j1
      rw [wrap_len hg.steps h0 h1]) (fun acc => by unfold graph_From.b1; simp)).1
  exact ⟨_, key, rfl⟩
theorem chkS_both {g : TGraph} {s : TState} (hs : SLen s) (h : chkS g s = 0) : chkG g = 0 ∧ GOk g ∧ SOk g s := by
  unfold chkS at h
  split at h
  · rename_i h1
    split at h
    · rename_i h2
      exact ⟨by unfold chkG; rw [if_pos h1], gOk.of h1, SOk.of h2 hs.marks⟩
    · cases h
  · cases h
theorem fromM_len (g : TGraph) (n : Int) : (fromM g n).length ≤ g.Steps.length := by
  have hl := foldG_inv (g := pickG (fun x : TStep => x.From == n)) (fun i acc => (acc.length : Int) ≤ i) g.Steps 0 [] (fun i acc x _ h => by
    unfold pickG; split
    · simp; omega
    · omega) (by simp)
  unfold fromM pickM; omega
def sameSt (a b : TState) : Bool := (a.Node == b.Node) && ((a.Marks == b.Marks) && (decide (a.Env = b.Env) && decide (a.Stack = b.Stack)))
theorem SLen.envM {s : TState} (h : SLen s) : s.Env.length ≤ maxLen := by
  have := h.env
  have hm : (17592186043904 : Nat) ≤ maxLen := by decide
  omega
theorem r22_Same.ok {a b : TState} (ha : SLen a) : r22_Same.f a b (sameSt a b) := by
  unfold r22_Same.f sameSt
  by_cases hn : a.Node = b.Node
  · by_cases hm : a.Marks = b.Marks
    · by_cases he : (a.Env.length : Int) = b.Env.length
      · by_cases hs : (a.Stack.length : Int) = b.Stack.length
        · rw [if_neg (by simp [hn, hm, he, hs])]
          have e1 := eqRound (b := r22_Same.b1 a b) ha.envM (by omega) rfl
          have e2 := eqRound (b := r22_Same.b2 a b) ha.stackM (by omega) rfl
          refine ⟨_, e1, ?_⟩
          rw [show (a.Node == b.Node) = true by simpa using hn, show (a.Marks == b.Marks) = true by simpa using hm]
          by_cases h1 : a.Env = b.Env
          · rw [if_pos h1]
            simp only [Fin.on, Bool.true_and, h1, decide_true]
            refine ⟨_, e2, ?_⟩
            exact eqOn
          · rw [if_neg h1]
            simp [Fin.on, h1]
        · rw [if_pos (by simp [hs])]
          have : a.Stack ≠ b.Stack := fun e => hs (by rw [e])
          simp [this]
      · rw [if_pos (by simp [he])]
        have : a.Env ≠ b.Env := fun e => he (by rw [e])
        simp [this]
    · rw [if_pos (by simp [hm])]; simp [hm]
  · rw [if_pos (by simp [hn])]; simp [hn]
end Go.RM.Tryz
namespace Go.RM.Tryz
open Go.RM
set_option linter.unusedVariables false
set_option linter.unusedSimpArgs false
def valD (l : List UInt8) : Nat := l.foldl (fun n b => n * 10 + (b.toNat - 48)) 0
theorem valD_dec (u : Nat) : valD (Go.Lib.decDigits u) = u := by
  induction u using Nat.strongRecOn with
  | _ u ih =>
    unfold Go.Lib.decDigits
    by_cases h : u < 10
    · rw [dif_pos h]
      simp only [valD, List.foldl_cons, List.foldl_nil]
      rw [UInt8.toNat_ofNat']
      omega
    · rw [dif_neg h]
      have := ih (u / 10) (by omega)
      unfold valD at this ⊢
      rw [List.foldl_append, this]
      simp only [List.foldl_cons, List.foldl_nil]
      rw [UInt8.toNat_ofNat']
      omega
theorem dec_no32 (u : Nat) : ∀ b ∈ Go.Lib.decDigits u, (b != 32) = true := by
  induction u using Nat.strongRecOn with
  | _ u ih =>
    intro b hb
    have key : ∀ d : Nat, d < 10 → (UInt8.ofNat (48 + d) != 32) = true := by
      intro d hd
      rw [bne_iff_ne]
      intro h
      have := congrArg UInt8.toNat h
      rw [UInt8.toNat_ofNat'] at this
      have h32 : (32 : UInt8).toNat = 32 := rfl
      omega
    unfold Go.Lib.decDigits at hb
    by_cases h : u < 10
    · rw [dif_pos h] at hb
      simp only [List.mem_singleton] at hb; subst hb; exact key u h
    · rw [dif_neg h] at hb
      simp only [List.mem_append, List.mem_singleton] at hb
      rcases hb with hb | rfl
      · exact ih (u / 10) (by omega) b hb
      · exact key _ (by omega)
theorem dec_some (u : Nat) : Go.Lib.decDigits u ≠ [] := by
  unfold Go.Lib.decDigits
  split <;> simp
theorem take_word {l r : List UInt8} (hl : ∀ b ∈ l, (b != 32) = true) (hr : r = [] ∨ ∃ r', r = 32 :: r') : (l ++ r).takeWhile (· != 32) = l ∧ (l ++ r).dropWhile (· != 32) = r := by
  induction l with
  | nil =>
    rcases hr with rfl | ⟨r', rfl⟩
    · simp
    · simp
  | cons x l ih =>
    have h1 := hl x (.head _)
    have h2 := ih fun b hb => hl b (.tail _ hb)
    simp only [List.cons_append, List.takeWhile_cons, List.dropWhile_cons, h1, if_true]
    exact ⟨by rw [h2.1], h2.2⟩
def Word (l : List UInt8) : Prop := l ≠ [] ∧ ∀ b ∈ l, (b != 32) = true
theorem tail_head (l : List (List UInt8)) : Go.Lib.joinTail [32] l = [] ∨ ∃ r', Go.Lib.joinTail [32] l = 32 :: r' := by
  cases l with
  | nil => exact .inl rfl
  | cons x l => exact .inr ⟨_, rfl⟩
theorem words_one {x y : List UInt8} {l m : List (List UInt8)} (hx : Word x) (hy : Word y) (h : x ++ Go.Lib.joinTail [32] l = y ++ Go.Lib.joinTail [32] m) : x = y ∧ Go.Lib.joinTail [32] l = Go.Lib.joinTail [32] m := by
  have a := take_word hx.2 (tail_head l)
  have b := take_word hy.2 (tail_head m)
  rw [h] at a
  exact ⟨a.1.symm.trans b.1, a.2.symm.trans b.2⟩
theorem tail_inj : ∀ (l m : List (List UInt8)), (∀ x ∈ l, Word x) → (∀ x ∈ m, Word x) → Go.Lib.joinTail [32] l = Go.Lib.joinTail [32] m → l = m
  | [], [], _, _, _ => rfl
  | [], y :: m, _, _, h => by simp [Go.Lib.joinTail] at h
  | x :: l, [], _, _, h => by simp [Go.Lib.joinTail] at h
  | x :: l, y :: m, hl, hm, h => by
    have h' : x ++ Go.Lib.joinTail [32] l = y ++ Go.Lib.joinTail [32] m := by
      have : (32 : UInt8) :: (x ++ Go.Lib.joinTail [32] l) = 32 :: (y ++ Go.Lib.joinTail [32] m) := by simpa [Go.Lib.joinTail] using h
      injection this
    obtain ⟨h1, h2⟩ := words_one (hl x (.head _)) (hm y (.head _)) h'
    rw [h1, tail_inj l m (fun z hz => hl z (.tail _ hz)) (fun z hz => hm z (.tail _ hz)) h2]
theorem join_inj : ∀ (l m : List (List UInt8)), (∀ x ∈ l, Word x) → (∀ x ∈ m, Word x) → Go.Lib.join l [32] = Go.Lib.join m [32] → l = m
  | [], [], _, _, _ => rfl
  | [], y :: m, _, hm, h => by
    rw [Go.Lib.join_nil, Go.Lib.join_cons] at h
    exact absurd (List.append_eq_nil_iff.1 h.symm).1 (hm y (.head _)).1
  | x :: l, [], hl, _, h => by
    rw [Go.Lib.join_nil, Go.Lib.join_cons] at h
    exact absurd (List.append_eq_nil_iff.1 h).1 (hl x (.head _)).1
  | x :: l, y :: m, hl, hm, h => by
    rw [Go.Lib.join_cons, Go.Lib.join_cons] at h
    obtain ⟨h1, h2⟩ := words_one (hl x (.head _)) (hm y (.head _)) h
    rw [h1, tail_inj l m (fun z hz => hl z (.tail _ hz)) (fun z hz => hm z (.tail _ hz)) h2]
def wordsS (s : TState) : List ByteArray := s.Env.map text36 ++ s.Stack.map text10
def restS (s : TState) : ByteArray := joinT (wordsS s) ⟨#[32]⟩
theorem t36_word (i : Int) : Word (Go.D36.t36 i) := by
  refine ⟨fun h => ?_, Go.D36.t36_no i⟩
  unfold Go.D36.t36 at h
  split at h
  · cases h
  · have := Go.D36.d36_pos i.toNat
    rw [h] at this
    simp at this
theorem dec_word (i : Int) : Word (Go.Lib.decDigits i.toNat) := ⟨dec_some _, dec_no32 _⟩
theorem map_inj {α β : Type} (f : α → β) : ∀ (l m : List α), (∀ x ∈ l, ∀ y ∈ m, f x = f y → x = y) → l.map f = m.map f → l = m
  | [], [], _, _ => rfl
  | [], y :: m, _, h => by simp at h
  | x :: l, [], _, h => by simp at h
  | x :: l, y :: m, hf, h => by
    simp only [List.map_cons, List.cons.injEq] at h
    rw [hf x (.head _) y (.head _) h.1, map_inj f l m (fun a ha b hb => hf a (.tail _ ha) b (.tail _ hb)) h.2]
theorem words_data (s : TState) : (wordsS s).map (·.data.toList) = s.Env.map Go.D36.t36 ++ s.Stack.map (fun i => Go.Lib.decDigits i.toNat) := by
  unfold wordsS
  rw [List.map_append, List.map_map, List.map_map]
  rfl
theorem rest_inj {s t : TState} (he : s.Env.length = t.Env.length) (hs : ∀ x ∈ s.Stack, 0 ≤ x) (ht : ∀ x ∈ t.Stack, 0 ≤ x) (h : restS s = restS t) : s.Env = t.Env ∧ s.Stack = t.Stack := by
  have h1 : Go.Lib.join ((wordsS s).map (·.data.toList)) [32] = Go.Lib.join ((wordsS t).map (·.data.toList)) [32] := by
    have := congrArg (fun b : ByteArray => b.data.toList) h
    simpa [restS, joinT] using this
  rw [words_data, words_data] at h1
  have hw : ∀ u : TState, ∀ x ∈ u.Env.map Go.D36.t36 ++ u.Stack.map (fun i => Go.Lib.decDigits i.toNat), Word x := by
    intro u x hx
    simp only [List.mem_append, List.mem_map] at hx
    rcases hx with ⟨i, _, rfl⟩ | ⟨i, _, rfl⟩
    · exact t36_word i
    · exact dec_word i
  have h2 := join_inj _ _ (hw s) (hw t) h1
  obtain ⟨h3, h4⟩ := List.append_inj h2 (by simp [he])
  refine ⟨map_inj _ _ _ (fun x _ y _ hxy => Go.D36.t36_inj hxy) h3, map_inj _ _ _ (fun x hx y hy hxy => ?_) h4⟩
  have := congrArg valD hxy
  simp only [valD_dec] at this
  have := hs x hx
  have := ht y hy
  omega
end Go.RM.Tryz
namespace Go.RM.Tryz
open Go.RM
set_option linter.unusedVariables false
set_option linter.unusedSimpArgs false
theorem foldG_map {α β : Type} (f : α → β) : ∀ (l : List α) (i : Int) (acc : List β), foldG (fun _ x acc => acc ++ [f x]) l i acc = acc ++ l.map f
  | [], i, acc => by simp [foldG]
  | x :: l, i, acc => by unfold foldG; rw [foldG_map f l]; simp
theorem foldG_flat {α β : Type} (f : α → List β) : ∀ (l : List α) (i : Int) (acc : List β), foldG (fun _ x acc => acc ++ f x) l i acc = acc ++ l.flatMap f
  | [], i, acc => by simp [foldG]
  | x :: l, i, acc => by unfold foldG; rw [foldG_flat f l]; simp
theorem mapLoop {α β ρ : Type} [Inhabited α] {l : List α} (f : α → β) (n : Nat) {b : (List β × Int) → Rnd (List β × Int) (List β) ρ → Prop} (acc0 : List β) (h0 : acc0.length ≤ n)
    (hb : ∀ (i : Int) (acc : List β), 0 ≤ i → i < (l.length : Int) → (acc.length : Int) ≤ n + i → b (acc, i) (.next (acc ++ [f (rdl l i)], i + 1))) (hend : ∀ acc, b (acc, (l.length : Int)) (.exit acc)) :
    Loop b (acc0, 0) (.go (acc0 ++ l.map f)) := by
  have key := (foldGLoop (l := l) (b := b) (fun i (acc : List β) => (acc, i)) id (fun _ x acc => acc ++ [f x]) (fun i acc => (acc.length : Int) ≤ n + i) (fun i acc i0 i1 hi => ⟨hb i acc i0 i1 hi, by simp; omega⟩) (fun acc _ => hend acc) acc0 (by omega)).1
  rw [foldG_map] at key
  exact key
def EnvOk (s : TState) : Prop := ∀ v ∈ s.Env, I64 v
structure ROk (g : TGraph) (s : TState) : Prop where
  ok : SOk g s
  env : EnvOk s
theorem stackF_all {g : TGraph} : ∀ {l : List Int} {a : Int}, stackF g l a = true → ∀ k ∈ l, isI k g.Sites.length = true
  | [], _, _, k, hk => by cases hk
  | x :: l, a, h, k, hk => by
    simp only [stackF, Bool.and_eq_true] at h
    rcases List.mem_cons.1 hk with rfl | hk
    · have := h.1
      simp only [siteOk, Bool.and_eq_true] at this
      exact this.1
    · exact stackF_all h.2 k hk
theorem stack_num {g : TGraph} {s : TState} (hg : GLen g) (h : SOk g s) : ∀ k ∈ s.Stack, NumOk k := by
  intro k hk
  have := isI_iff.1 (stackF_all h.stack k hk)
  have hs := hg.sites
  have hm : maxLen < 9223372036854775808 := by decide
  exact ⟨this.1, by omega⟩
def keyM (s : TState) : TKey := ⟨s.Node, s.Marks, restS s⟩
theorem dec_len {i : Int} (hi : NumOk i) : (Go.Lib.decDigits i.toNat).length ≤ 20 := by
  rw [Go.Lib.decDigits_length]
  by_cases h : i.toNat = 0
  · rw [h, Go.Lib.nDigits_small (by decide)]; decide
  · have := Go.Lib.numDigits_eq i.toNat (by omega) (by have := hi.2; omega)
    split at this <;> omega
theorem joinTail_len : ∀ (l : List (List UInt8)), (∀ x ∈ l, x.length ≤ 20) → (Go.Lib.joinTail [32] l).length ≤ 21 * l.length
  | [], _ => by simp [Go.Lib.joinTail]
  | x :: l, h => by
    have h1 := joinTail_len l (fun y hy => h y (.tail _ hy))
    have h2 := h x (.head _)
    have e : Go.Lib.joinTail [32] (x :: l) = 32 :: (x ++ Go.Lib.joinTail [32] l) := by simp [Go.Lib.joinTail]
    rw [e]; simp; omega
theorem join_len (l : List (List UInt8)) (h : ∀ x ∈ l, x.length ≤ 20) : (Go.Lib.join l [32]).length ≤ 21 * l.length := by
  cases l with
  | nil => simp [Go.Lib.join_nil]
  | cons x l =>
    have h1 := joinTail_len l (fun y hy => h y (.tail _ hy))
    have h2 := h x (.head _)
    rw [Go.Lib.join_cons]; simp; omega
theorem words_ok {g : TGraph} {s : TState} (hg : GLen g) (hG : GOk g) (h : ROk g s) : JoinOk (wordsS s) ⟨#[32]⟩ := by
  have he := h.ok.env
  have hv := hG.vars
  have hs := h.ok.short
  have hl : (wordsS s).length = s.Env.length + s.Stack.length := by simp [wordsS]
  refine ⟨by omega, ?_⟩
  have := join_len ((wordsS s).map (·.data.toList)) (fun x hx => by
    rw [words_data] at hx
    simp only [List.mem_append, List.mem_map] at hx
    rcases hx with ⟨i, hi, rfl⟩ | ⟨i, hi, rfl⟩
    · have := h.env i hi
      have := Go.D36.t36_len this.1 this.2
      omega
    · exact dec_len (stack_num hg h.ok i hi))
  rw [List.length_map] at this
  have e : (⟨#[32]⟩ : ByteArray).data.toList = [32] := rfl
  rw [e]
  omega
theorem frames_keyed.ok {g : TGraph} {s : TState} (hg : GLen g) (hG : GOk g) (h : ROk g s) : frames_keyed.f s (keyM s) := by
  have he := h.ok.env
  have hv := hG.vars
  have hs := h.ok.short
  have hm : (4096 : Nat) ≤ maxLen := by decide
  have k1 := mapLoop (l := s.Env) text36 0 (b := frames_keyed.b1 s) [] (Nat.le_refl _) (fun i acc i0 i1 ha => by
    unfold frames_keyed.b1
    simp only [i1, if_true]
    refine ⟨⟨i0, i1⟩, _, ⟨⟨h.env _ (rdl_mem i0 i1), rfl⟩, rfl⟩, by unfold Fits; omega, ?_⟩
    rw [wrap_len (by omega) i0 i1]) (fun acc => by unfold frames_keyed.b1; simp)
  have k2 := mapLoop (l := s.Stack) text10 64 (b := frames_keyed.b2 s) (s.Env.map text36) (by simp; omega) (fun i acc i0 i1 ha => by
    unfold frames_keyed.b2
    simp only [i1, if_true]
    refine ⟨⟨i0, i1⟩, _, ⟨stack_num hg h.ok _ (rdl_mem i0 i1), rfl⟩, by unfold Fits; omega, ?_⟩
    rw [wrap_len (by omega) i0 i1]) (fun acc => by unfold frames_keyed.b2; simp)
  exact ⟨_, k1, _, k2, _, ⟨words_ok hg hG h, rfl⟩, rfl⟩
def mvsX (draws : List Int) (x : TStep) (n : Int) : List TMove := if x.Kind = 4 then draws.map (fun d => (⟨n, d⟩ : TMove)) else [⟨n, 0⟩]
def mvsM (g : TGraph) (s : TState) (draws : List Int) : List TMove := ((fromM g s.Node).flatMap fun n => mvsX draws (rdl g.Steps n) n) ++ (if overM g s = true then [⟨-1, 0⟩] else [])
theorem mvsX_len (draws : List Int) (x : TStep) (n : Int) : (mvsX draws x n).length ≤ draws.length + 1 := by
  unfold mvsX
  split <;> simp
theorem fromM_mem (g : TGraph) (n : Int) : ∀ k ∈ fromM g n, 0 ≤ k ∧ k < (g.Steps.length : Int) := by
  have hl := foldG_inv (g := pickG (fun x : TStep => x.From == n)) (fun i acc => 0 ≤ i ∧ ∀ k ∈ acc, 0 ≤ k ∧ k < i) g.Steps 0 [] (fun i acc x _ h => by
    refine ⟨by omega, fun k hk => ?_⟩
    unfold pickG at hk
    split at hk
    · simp only [List.mem_append, List.mem_singleton] at hk
      rcases hk with hk | rfl
      · have := h.2 k hk; omega
      · omega
    · have := h.2 k hk; omega) ⟨Int.le_refl _, fun k hk => by cases hk⟩
  intro k hk
  have := hl.2 k hk
  omega
theorem inner_moves {draws : List Int} (hd : draws.length ≤ 8) {n : Nat} (hn : n ≤ 3000) (acc : List TMove) (ha : acc.length ≤ n) (k : Int) {b : (List TMove × Int) → Rnd (List TMove × Int) (List TMove) (List TMove) → Prop}
    (hb : ∀ acc i, b (acc, i) = fun z2 => if i < (draws.length : Int) then (((InR i draws.length)) ∧ ((Fits (acc.length + 1) 16)) ∧ z2 = .next ((acc ++ [(TMove.mk k (rdl draws i))]), (IntKind.i64.wrap (i + 1)))) else (z2 = .exit acc)) :
    Loop b (acc, 0) (.go (acc ++ draws.map fun d => (⟨k, d⟩ : TMove))) := by
  have hm : (8 : Nat) ≤ maxLen := by decide
  refine mapLoop (l := draws) (fun d => (⟨k, d⟩ : TMove)) n acc ha (fun i acc i0 i1 hi => ?_) (fun acc => ?_)
  · rw [hb]
    simp only [i1, if_true]
    refine ⟨⟨i0, i1⟩, by unfold Fits; omega, ?_⟩
    rw [wrap_len (by omega) i0 i1]
  · rw [hb]; simp
theorem frames_moves.ok {g : TGraph} {s : TState} (hg : GLen g) (hc : chkG g = 0) (hG : GOk g) (hS : SOk g s) (h3 : g.Steps.length ≤ 300) {draws : List Int} (hd : draws.length ≤ 8) : frames_moves.f g s draws (mvsM g s draws) := by
  have hfl := fromM_len g s.Node
  have hm : (300 : Nat) ≤ maxLen := by decide
  refine ⟨_, graph_From.ok hg hc hS.node h3, ?_⟩
  have key := foldGLoop (l := fromM g s.Node) (b := frames_moves.b1 g draws (fromM g s.Node, 0)) (fun i (acc : List TMove) => (acc, i)) id (fun _ n acc => acc ++ mvsX draws (rdl g.Steps n) n) (fun i acc => (acc.length : Int) ≤ 9 * i) (fun i acc i0 i1 hi => by
    have hx := fromM_mem g s.Node _ (rdl_mem i0 i1)
    have hlx := mvsX_len draws (rdl g.Steps (rdl (fromM g s.Node) i)) (rdl (fromM g s.Node) i)
    refine ⟨?_, by simp; omega⟩
    unfold frames_moves.b1
    simp only [i1, if_true]
    refine ⟨⟨i0, i1⟩, hx, ?_⟩
    have hwr := wrap_len (l := fromM g s.Node) (by omega) i0 i1
    by_cases hk : (rdl g.Steps (rdl (fromM g s.Node) i)).Kind = 4
    · rw [if_pos hk]
      refine ⟨_, inner_moves hd (n := 2700) (by omega) acc (by omega) (rdl (fromM g s.Node) i) (fun _ _ => rfl), ?_⟩
      simp only [Fin.on]
      unfold frames_moves.j1 mvsX
      rw [hwr, if_pos hk]
    · rw [if_neg hk]
      refine ⟨by unfold Fits; omega, ?_⟩
      unfold frames_moves.j1 mvsX
      rw [hwr, if_neg hk]) (fun acc _ => by unfold frames_moves.b1; simp) [] (by simp)
  rw [foldG_flat] at key
  refine ⟨_, key.1, ?_⟩
  have hl := key.2
  simp only [Fin.on]
  refine ⟨_, frames_over.ok hG hS, ?_⟩
  unfold mvsM
  split
  · exact ⟨by unfold Fits; simp at hl ⊢; omega, by simp⟩
  · simp
theorem mvs_len (g : TGraph) (s : TState) {draws : List Int} (h3 : g.Steps.length ≤ 300) (hd : draws.length ≤ 8) : (mvsM g s draws).length ≤ 2701 := by
  have hfl := fromM_len g s.Node
  have key : ∀ l : List Int, (l.flatMap fun n => mvsX draws (rdl g.Steps n) n).length ≤ 9 * l.length := by
    intro l
    induction l with
    | nil => simp
    | cons x l ih =>
      have := mvsX_len draws (rdl g.Steps x) x
      simp only [List.flatMap_cons, List.length_append, List.length_cons]
      omega
  have := key (fromM g s.Node)
  unfold mvsM
  rw [List.length_append]
  split
  · rw [List.length_singleton]; omega
  · rw [List.length_nil]; omega
end Go.RM.Tryz
namespace Go.RM.Tryz
open Go.RM
set_option linter.unusedVariables false
set_option linter.unusedSimpArgs false
theorem sameSt_iff {c d : TState} : sameSt c d = true ↔ c = d := by
  unfold sameSt
  cases c; cases d
  simp only [Bool.and_eq_true, beq_iff_eq, decide_eq_true_eq, TState.mk.injEq]
  exact ⟨fun ⟨a, b, c, d⟩ => ⟨a, c, b, d⟩, fun ⟨a, b, c, d⟩ => ⟨a, c, b, d⟩⟩
def kt (s : TState) : Int × Int × ByteArray := (s.Node, s.Marks, restS s)
theorem kt_inj {g : TGraph} {s t : TState} (hg : GLen g) (hs : ROk g s) (ht : ROk g t) (h : kt s = kt t) : s = t := by
  unfold kt at h
  simp only [Prod.mk.injEq] at h
  obtain ⟨h1, h2, h3⟩ := h
  obtain ⟨e, f⟩ := rest_inj (hs.ok.env.trans ht.ok.env.symm) (fun x hx => (stack_num hg hs.ok x hx).1) (fun x hx => (stack_num hg ht.ok x hx).1) h3
  cases s; cases t
  simp only at h1 h2 e f
  rw [h1, h2, e, f]
def LI (g : TGraph) (l : List TState) : Prop := ∀ d ∈ l, ROk g d
def metS (l : List TState) : List ((Int × Int × ByteArray) × Bool) := l.map fun c => (kt c, true)
def isIn (l : List TState) (x : TState) : Bool := l.any fun c => sameSt c x
theorem met_get {g : TGraph} (hg : GLen g) : ∀ {l : List TState} {x : TState}, LI g l → ROk g x → (mget (metS l) (kt x)).getD false = isIn l x ∧ (isIn l x = false → mput (metS l) (kt x) true = metS (l ++ [x]))
  | [], x, _, _ => ⟨rfl, fun _ => rfl⟩
  | c :: l, x, hl, hx => by
    obtain ⟨h1, h2⟩ := met_get hg (l := l) (x := x) (fun d hd => hl d (.tail _ hd)) hx
    show (mget ((kt c, true) :: metS l) (kt x)).getD false = _ ∧ (_ → mput ((kt c, true) :: metS l) (kt x) true = (kt c, true) :: metS (l ++ [x]))
    unfold mget mput isIn
    by_cases he : kt c = kt x
    · have : c = x := kt_inj hg (hl c (.head _)) hx he
      subst this
      simp [sameSt]
    · have hne : sameSt c x = false := by
        rw [Bool.eq_false_iff]
        intro h
        exact he (by rw [sameSt_iff.1 h])
      rw [if_neg he, if_neg he]
      simp only [List.any_cons, hne, Bool.false_or]
      exact ⟨h1, fun h => by rw [h2 h]⟩
structure Ctx (g : TGraph) (draws : List Int) : Prop where
  len : GLen g
  chk : chkG g = 0
  ok : GOk g
  steps : g.Steps.length ≤ 300
  few : draws.length ≤ 8
  draws : ∀ v ∈ draws, I64 v
  ks : ∀ i, isI i g.Steps.length = true → I64 (rdl g.Steps i).K
theorem rdl_I64 {l : List Int} (h : ∀ v ∈ l, I64 v) (i : Int) : I64 (rdl l i) := by
  unfold rdl
  rw [List.getD_eq_getElem?_getD]
  cases hx : l[i.toNat]? with
  | none => exact ⟨by decide, by decide⟩
  | some v => exact h v (List.mem_of_getElem? hx)
theorem set_I64 {l : List Int} (h : ∀ v ∈ l, I64 v) (i a : Int) (ha : I64 a) : ∀ v ∈ setl l i a, I64 v := by
  intro v hv
  rcases List.mem_or_eq_of_mem_set hv with hv | rfl
  · exact h v hv
  · exact ha
theorem moveM_env {g : TGraph} {s : TState} {m : TMove} {x : TStep} (hs : EnvOk s) (hK : I64 x.K) (hm : I64 m.Draw) (h : (moveM g s m x).2 = 0) : EnvOk (moveM g s m x).1 := by
  revert h
  unfold moveM
  split
  · exact fun _ => set_I64 hs _ _ hK
  · split
    · exact fun _ => set_I64 hs _ _ hm
    · split
      · exact fun _ => set_I64 hs _ _ (rdl_I64 hs _)
      · split
        · exact fun _ => hs
        · split
          · exact fun _ => hs
          · split
            · split
              · intro h; exact absurd h (by decide)
              · exact fun _ => hs
            · exact fun _ => hs
theorem doM_env {g : TGraph} {s : TState} {m : TMove} (hs : EnvOk s) (hk : ∀ i, isI i g.Steps.length = true → I64 (rdl g.Steps i).K) (hm : I64 m.Draw) (h : (doM g s m).2 = 0) : EnvOk (doM g s m).1 := by
  revert h
  unfold doM
  by_cases h1 : m.Step = -1
  · rw [if_pos h1]
    split
    · intro h; exact absurd h (by decide)
    · exact fun _ => hs
  · rw [if_neg h1]
    by_cases h2 : ((decide (m.Step < 0)) || (decide (m.Step ≥ (g.Steps.length : Int)))) = true
    · rw [if_pos h2]; intro h; exact absurd h (by decide)
    · rw [if_neg h2]
      have hK := hk _ (step_at h1 h2)
      split
      · intro h; exact absurd h (by decide)
      · exact moveM_env hs hK hm
theorem mvs_draw {g : TGraph} {s : TState} {draws : List Int} (hd : ∀ v ∈ draws, I64 v) : ∀ m ∈ mvsM g s draws, I64 m.Draw := by
  intro m hm
  have h0 : I64 0 := ⟨by decide, by decide⟩
  unfold mvsM at hm
  rw [List.mem_append] at hm
  rcases hm with hm | hm
  · obtain ⟨n, _, hm⟩ := List.mem_flatMap.1 hm
    unfold mvsX at hm
    split at hm
    · obtain ⟨d, hd', rfl⟩ := List.mem_map.1 hm
      exact hd d hd'
    · simp only [List.mem_singleton] at hm; subst hm; exact h0
  · split at hm
    · simp only [List.mem_singleton] at hm; subst hm; exact h0
    · cases hm
def addS {ρ : Type} (er : Int → ρ) (g : TGraph) (d : TState) (most : Int) (_ : Int) (m : TMove) (l : List TState) : Fin (List TState) ρ :=
  if (doM g d m).2 = 0 then (if isIn l (doM g d m).1 = true then .go l else if (l.length : Int) ≥ most then .ret (er 3) else .go (l ++ [(doM g d m).1])) else .ret (er (doM g d m).2)
def expS {ρ : Type} (er : Int → ρ) (g : TGraph) (draws : List Int) (most : Int) (_ : Int) (d : TState) (l : List TState) : Fin (List TState) ρ := foldF (addS er g d most) (mvsM g d draws) 0 l
def lvM {ρ : Type} (er : Int → ρ) (g : TGraph) (draws : List Int) (most : Int) : Nat → List TState → Nat → Fin (List TState) ρ
  | 0, l, _ => .go l
  | n + 1, l, from_ => match foldF (expS er g draws most) (l.drop from_) 0 l with
    | .go l' => lvM er g draws most n l' l.length
    | .ret r => .ret r
theorem lvM_end {ρ : Type} (er : Int → ρ) (g : TGraph) (draws : List Int) (most : Int) : ∀ (n : Nat) (l : List TState) (k : Nat), l.length ≤ k → lvM er g draws most n l k = .go l
  | 0, l, k, _ => rfl
  | n + 1, l, k, h => by
    unfold lvM
    rw [List.drop_eq_nil_of_le h]
    exact lvM_end er g draws most n l l.length (Nat.le_refl _)
def reF {σ ρ τ : Type} (f : ρ → τ) : Fin σ ρ → Fin σ τ
  | .go s => .go s
  | .ret r => .ret (f r)
theorem foldF_re {α σ ρ τ : Type} (f : ρ → τ) (s1 : Int → α → σ → Fin σ ρ) (s2 : Int → α → σ → Fin σ τ) (h : ∀ i x s, s2 i x s = reF f (s1 i x s)) : ∀ (l : List α) (i : Int) (s : σ), foldF s2 l i s = reF f (foldF s1 l i s)
  | [], i, s => rfl
  | x :: l, i, s => by
    unfold foldF
    rw [h]
    cases s1 i x s with
    | go t => exact foldF_re f s1 s2 h l (i + 1) t
    | ret r => rfl
theorem addS_re {ρ : Type} (er : Int → ρ) (g : TGraph) (d : TState) (most : Int) (i : Int) (m : TMove) (l : List TState) : addS er g d most i m l = reF er (addS id g d most i m l) := by
  unfold addS
  split
  · split
    · rfl
    · split <;> rfl
  · rfl
theorem expS_re {ρ : Type} (er : Int → ρ) (g : TGraph) (draws : List Int) (most : Int) (i : Int) (d : TState) (l : List TState) : expS er g draws most i d l = reF er (expS id g draws most i d l) := foldF_re er _ _ (addS_re er g d most) _ _ _
theorem lvM_re {ρ : Type} (er : Int → ρ) (g : TGraph) (draws : List Int) (most : Int) : ∀ (n : Nat) (l : List TState) (k : Nat), lvM er g draws most n l k = reF er (lvM id g draws most n l k)
  | 0, l, k => rfl
  | n + 1, l, k => by
    unfold lvM
    rw [foldF_re er _ _ (expS_re er g draws most)]
    cases foldF (expS id g draws most) (l.drop k) 0 l with
    | go l' => exact lvM_re er g draws most n l' l.length
    | ret r => rfl
def er1 (e : Int) : List TState × Int := ([], e)
def exploreM (g : TGraph) (s : TState) (draws : List Int) (n most : Int) : List TState × Int :=
  if chkS g s = 0 then
    if ((decide (n < 0)) || ((decide (n > 100)) || ((decide (most < 1)) || ((decide (most > 20000)) || (decide ((draws.length : Int) > 8)))))) = true then ([], 1)
    else (match lvM er1 g draws most n.toNat [s] 0 with
      | .go l => (l, 0)
      | .ret r => r)
  else ([], chkS g s)
structure Grow (g : TGraph) (most : Int) (l0 l : List TState) : Prop where
  li : LI g l
  pre : ∃ t, l = l0 ++ t
  len : (l.length : Int) ≤ most
variable {g : TGraph} {draws : List Int} {most : Int}
theorem do_ok (c : Ctx g draws) {d : TState} (hd : ROk g d) {m : TMove} (hm : m ∈ mvsM g d draws) (h : (doM g d m).2 = 0) : ROk g (doM g d m).1 :=
  ⟨doM_keep c.ok hd.ok m h, doM_env hd.env c.ks (mvs_draw c.draws m hm) h⟩
theorem add_grow {ρ : Type} {er : Int → ρ} {l0 l l' : List TState} {i : Int} {d : TState} {m : TMove} (h : Grow g most l0 l) (hx : (doM g d m).2 = 0 → ROk g (doM g d m).1) (hs : addS er g d most i m l = .go l') : Grow g most l0 l' := by
  unfold addS at hs
  split at hs
  · rename_i h0
    split at hs
    · cases hs; exact h
    · split at hs
      · cases hs
      · rename_i hm
        cases hs
        obtain ⟨t, ht⟩ := h.pre
        refine ⟨fun d' hd => ?_, ⟨t ++ [(doM g d m).1], by rw [ht, List.append_assoc]⟩, by simp; omega⟩
        simp only [List.mem_append, List.mem_singleton] at hd
        rcases hd with hd | rfl
        · exact h.li d' hd
        · exact hx h0
  · cases hs
theorem adds_grow {ρ : Type} {er : Int → ρ} {l0 : List TState} {d : TState} : ∀ (ms : List TMove) (i : Int) (l l' : List TState), Grow g most l0 l → (∀ m ∈ ms, (doM g d m).2 = 0 → ROk g (doM g d m).1) → foldF (addS er g d most) ms i l = .go l' → Grow g most l0 l'
  | [], i, l, l', h, _, hs => by cases hs; exact h
  | m :: ms, i, l, l', h, hx, hs => by
    unfold foldF at hs
    cases ha : addS er g d most i m l with
    | go l1 => rw [ha] at hs; exact adds_grow ms (i + 1) l1 l' (add_grow h (hx m (.head _)) ha) (fun d hd => hx d (.tail _ hd)) hs
    | ret r => rw [ha] at hs; cases hs
theorem exp_grow {ρ : Type} {er : Int → ρ} (c : Ctx g draws) {l0 l l' : List TState} {i : Int} {d : TState} (h : Grow g most l0 l) (hd : ROk g d) (hs : expS er g draws most i d l = .go l') : Grow g most l0 l' :=
  adds_grow _ 0 l l' h (fun m hm h0 => do_ok c hd hm h0) hs
theorem exps_grow {ρ : Type} {er : Int → ρ} (c : Ctx g draws) {l0 : List TState} : ∀ (xs : List TState) (i : Int) (l l' : List TState), Grow g most l0 l → LI g xs → foldF (expS er g draws most) xs i l = .go l' → Grow g most l0 l'
  | [], i, l, l', h, _, hs => by cases hs; exact h
  | x :: xs, i, l, l', h, hx, hs => by
    unfold foldF at hs
    cases ha : expS er g draws most i x l with
    | go l1 => rw [ha] at hs; exact exps_grow c xs (i + 1) l1 l' (exp_grow c h (hx x (.head _)) ha) (fun d hd => hx d (.tail _ hd)) hs
    | ret r => rw [ha] at hs; cases hs
theorem Grow.refl {l : List TState} (h : LI g l) (hl : (l.length : Int) ≤ most) : Grow g most l l := ⟨h, ⟨[], by simp⟩, hl⟩
theorem Grow.le {l0 l : List TState} (h : Grow g most l0 l) : l0.length ≤ l.length := by obtain ⟨t, ht⟩ := h.pre; rw [ht]; simp
theorem explore_b3 (c : Ctx g draws) (hm : most ≤ 20000) {l0 : List TState} {k : Nat} (hk : k ≤ l0.length) {from_ x : Int} {d : TState} (hx : rdl (cutl l0 from_ (l0.length : Int)) x = d) (hd : ROk g d) {l : List TState} (hl : Grow g most l0 l) :
    Loop (frames_Explore.b3 g most l0 k from_ x (mvsM g d draws)) (l, metS l, 0) ((foldF (addS er1 g d most) (mvsM g d draws) 0 l).map fun l => (l, metS l)) := by
  have hnl := mvs_len g d c.steps c.few
  have hmx : (2701 : Nat) ≤ maxLen := by decide
  exact (foldLoop (l := mvsM g d draws) (b := frames_Explore.b3 g most l0 k from_ x (mvsM g d draws)) (fun i l => (l, metS l, i)) (fun l => (l, metS l)) (addS er1 g d most) (fun i l => Grow g most l0 l) (fun i l i0 i1 hi => by
    have hmem := rdl_mem i0 i1
    have hdo := frames_do.ok c.ok hd.ok (rdl (mvsM g d draws) i)
    have hwr := wrap_len (l := mvsM g d draws) (by omega) i0 i1
    have hle := hi.le
    have hb : ∀ z, (if (doM g d (rdl (mvsM g d draws) i)).2 = 0 then (∃ t343_2 : TKey, (frames_keyed.f (doM g d (rdl (mvsM g d draws) i)).1 t343_2) ∧ if ((mget (metS l) (t343_2.node, t343_2.marks, t343_2.rest)).getD false) = true then (frames_Explore.j1 i (l, metS l) z) else (if (l.length : Int) ≥ most then (z = .ret ([], 3)) else (∃ t346_2 : TKey, (frames_keyed.f (doM g d (rdl (mvsM g d draws) i)).1 t346_2) ∧ (((max k (Int.toNat (l0.length : Int))) ≤ l.length)) ∧ ((Fits (l.length + 1) 64)) ∧ frames_Explore.j1 i ((l ++ [(doM g d (rdl (mvsM g d draws) i)).1]), (mput (metS l) (t346_2.node, t346_2.marks, t346_2.rest) true)) z))) else (z = .ret ([], (doM g d (rdl (mvsM g d draws) i)).2))) → frames_Explore.b3 g most l0 k from_ x (mvsM g d draws) (l, metS l, i) z := fun z hz => by
      unfold frames_Explore.b3
      simp only [i1, if_true, hx]
      exact ⟨⟨i0, i1⟩, _, hdo, hz⟩
    by_cases h0 : (doM g d (rdl (mvsM g d draws) i)).2 = 0
    · have hr := do_ok c hd hmem h0
      have hkey := frames_keyed.ok c.len c.ok hr
      obtain ⟨g1, g2⟩ := met_get c.len hi.li hr
      by_cases hin : isIn l (doM g d (rdl (mvsM g d draws) i)).1 = true
      · have e : addS er1 g d most i (rdl (mvsM g d draws) i) l = .go l := by unfold addS; rw [if_pos h0, if_pos hin]
        rw [e]
        refine ⟨hb _ ?_, hi⟩
        rw [if_pos h0]
        refine ⟨_, hkey, ?_⟩
        rw [if_pos (by exact g1.trans hin)]
        unfold frames_Explore.j1
        rw [hwr]
      · by_cases hmo : (l.length : Int) ≥ most
        · have e : addS er1 g d most i (rdl (mvsM g d draws) i) l = .ret ([], 3) := by unfold addS er1; rw [if_pos h0, if_neg hin, if_pos hmo]
          rw [e]
          refine hb _ ?_
          rw [if_pos h0]
          refine ⟨_, hkey, ?_⟩
          rw [if_neg (by rw [show ((mget (metS l) ((keyM (doM g d (rdl (mvsM g d draws) i)).1).node, (keyM (doM g d (rdl (mvsM g d draws) i)).1).marks, (keyM (doM g d (rdl (mvsM g d draws) i)).1).rest)).getD false) = _ from g1]; exact hin), if_pos hmo]
        · have e : addS er1 g d most i (rdl (mvsM g d draws) i) l = .go (l ++ [(doM g d (rdl (mvsM g d draws) i)).1]) := by unfold addS; rw [if_pos h0, if_neg hin, if_neg hmo]
          have hg := add_grow hi (fun h => do_ok c hd hmem h) e
          rw [e]
          refine ⟨hb _ ?_, hg⟩
          rw [if_pos h0]
          refine ⟨_, hkey, ?_⟩
          rw [if_neg (by rw [show ((mget (metS l) ((keyM (doM g d (rdl (mvsM g d draws) i)).1).node, (keyM (doM g d (rdl (mvsM g d draws) i)).1).marks, (keyM (doM g d (rdl (mvsM g d draws) i)).1).rest)).getD false) = _ from g1]; exact hin), if_neg hmo]
          refine ⟨_, hkey, by simp; omega, by unfold Fits; omega, ?_⟩
          unfold frames_Explore.j1
          rw [hwr]
          have g3 := g2 (by simpa using hin)
          show (Rnd.next (_, metS _, i + 1) : Rnd _ _ _) = .next (_, mput (metS l) (kt _) true, i + 1)
          rw [g3]
    · have e : addS er1 g d most i (rdl (mvsM g d draws) i) l = .ret ([], (doM g d (rdl (mvsM g d draws) i)).2) := by unfold addS er1; rw [if_neg h0]
      rw [e]
      exact hb _ (by rw [if_neg h0])) (fun l _ => by unfold frames_Explore.b3; simp) l hl).1
theorem explore_b2 (c : Ctx g draws) (hm : most ≤ 20000) {l0 : List TState} (h0 : LI g l0) (hl0 : (l0.length : Int) ≤ most) {k : Nat} (hk : k ≤ l0.length) {from_ : Nat} (hf : from_ ≤ l0.length) :
    Loop (frames_Explore.b2 g draws most l0 k (from_ : Int)) (l0, metS l0, 0) ((foldF (expS er1 g draws most) (l0.drop from_) 0 l0).map fun l => (l, metS l)) := by
  have hcut : cutl l0 (from_ : Int) (l0.length : Int) = l0.drop from_ := by
    unfold cutl
    simp only [Int.toNat_natCast]
    rw [List.take_of_length_le (by simp)]
  have hmx : (20000 : Nat) ≤ maxLen := by decide
  exact (foldLoop (l := l0.drop from_) (b := frames_Explore.b2 g draws most l0 k (from_ : Int)) (fun i l => (l, metS l, i)) (fun l => (l, metS l)) (expS er1 g draws most) (fun i l => Grow g most l0 l) (fun i l i0 i1 hi => by
    have hd := h0 _ (List.mem_of_mem_drop (rdl_mem i0 i1))
    have hmv := frames_moves.ok c.len c.chk c.ok hd.ok c.steps c.few
    have hb3 := explore_b3 c hm hk (from_ := (from_ : Int)) (x := i) (d := rdl (l0.drop from_) i) (by rw [hcut]) hd hi
    have hwr : IntKind.i64.wrap (i + 1) = i + 1 := wrap_len (by simp only [List.length_drop]; omega) i0 i1
    have hbody : ∀ z, ((foldF (addS er1 g (rdl (l0.drop from_) i) most) (mvsM g (rdl (l0.drop from_) i) draws) 0 l).map (fun l => (l, metS l))).on (fun (x84, x85) => z = .next (x84, x85, (IntKind.i64.wrap (i + 1)))) (fun r_ => z = .ret r_) → frames_Explore.b2 g draws most l0 k (from_ : Int) (l, metS l, i) z := fun z hz => by
      unfold frames_Explore.b2
      rw [hcut]
      simp only [i1, if_true]
      exact ⟨⟨i0, i1⟩, _, hmv, _, hb3, hz⟩
    show Rok _ _ _ i l (foldF (addS er1 g (rdl (l0.drop from_) i) most) (mvsM g (rdl (l0.drop from_) i) draws) 0 l)
    cases hfo : foldF (addS er1 g (rdl (l0.drop from_) i) most) (mvsM g (rdl (l0.drop from_) i) draws) 0 l with
    | go l' =>
      rw [hfo] at hbody
      exact ⟨hbody _ (by simp only [Fin.map, Fin.on]; rw [hwr]), exp_grow (er := er1) (i := 0) c hi hd hfo⟩
    | ret r =>
      rw [hfo] at hbody
      exact hbody _ rfl) (fun l _ => by unfold frames_Explore.b2; rw [hcut]; simp) l0 (.refl h0 hl0)).1
theorem explore_b1 (c : Ctx g draws) (hm : most ≤ 20000) : ∀ (n : Nat) (l : List TState) (k from_ : Nat), n ≤ 100 → LI g l → (l.length : Int) ≤ most → k ≤ l.length → from_ ≤ l.length →
    ∃ k' : List TState → Nat, Loop (frames_Explore.b1 g draws most) ((n : Int), l, k, metS l, (from_ : Int)) ((lvM er1 g draws most n l from_).map fun l => (l, k' l))
  | 0, l, k, from_, _, _, _, _, _ => by
    refine ⟨fun _ => k, ?_⟩
    refine .exit ?_
    unfold frames_Explore.b1
    simp
  | n + 1, l, k, from_, hn, hl, hlm, hk, hf => by
    by_cases he : from_ = l.length
    · subst he
      refine ⟨fun _ => k, ?_⟩
      rw [lvM_end er1 g draws most (n + 1) l l.length (Nat.le_refl _)]
      refine .exit ?_
      unfold frames_Explore.b1
      simp
    · have hcond : ((decide (((n + 1 : Nat) : Int) > 0)) && (decide ((from_ : Int) < (l.length : Int)))) = true := by simp; omega
      have hcutc : Cut (from_ : Int) (l.length : Int) l.length := ⟨by omega, by omega, by omega⟩
      have hb2 := explore_b2 c hm hl hlm hk hf
      have hwr : IntKind.i64.wrap (((n + 1 : Nat) : Int) - 1) = (n : Int) := by rw [wrap64 (by omega) (by omega)]; omega
      have hbody : ∀ z, ((foldF (expS er1 g draws most) (l.drop from_) 0 l).map (fun l => (l, metS l))).on (fun (x75, x76) => z = .next ((IntKind.i64.wrap (((n + 1 : Nat) : Int) - 1)), x75, (max k (Int.toNat (l.length : Int))), x76, (l.length : Int))) (fun r_ => z = .ret r_) → frames_Explore.b1 g draws most (((n + 1 : Nat) : Int), l, k, metS l, (from_ : Int)) z := fun z hz => by
        unfold frames_Explore.b1
        simp only [hcond, if_true]
        exact ⟨hcutc, _, hb2, hz⟩
      unfold lvM
      cases hfo : foldF (expS er1 g draws most) (l.drop from_) 0 l with
      | go l' =>
        have hg := exps_grow c _ 0 l l' (.refl hl hlm) (fun d hd => hl d (List.mem_of_mem_drop hd)) hfo
        rw [hfo] at hbody
        have hle := hg.le
        obtain ⟨k', hk'⟩ := explore_b1 c hm n l' (max k (Int.toNat (l.length : Int))) l.length (by omega) hg.li hg.len (by omega) hle
        refine ⟨k', .next (hbody _ ?_) hk'⟩
        simp only [Fin.map, Fin.on]
        rw [hwr]
      | ret r =>
        rw [hfo] at hbody
        refine ⟨fun _ => 0, .ret (hbody _ rfl)⟩
structure Pre (g : TGraph) (s : TState) (draws : List Int) : Prop where
  len : GLen g
  st : SLen s
  env : EnvOk s
  steps : g.Steps.length ≤ 300
  draws : ∀ v ∈ draws, I64 v
  ks : ∀ i, isI i g.Steps.length = true → I64 (rdl g.Steps i).K
theorem Pre.ctx {s : TState} (p : Pre g s draws) (hc : chkS g s = 0) (hd : draws.length ≤ 8) : Ctx g draws ∧ ROk g s := by
  obtain ⟨h1, h2, h3⟩ := chkS_both p.st hc
  exact ⟨⟨p.len, h1, h2, p.steps, hd, p.draws, p.ks⟩, ⟨h3, p.env⟩⟩
theorem one_li {s : TState} (h : ROk g s) : LI g [s] := fun d hd => by simp at hd; subst hd; exact h
theorem frames_Explore.ok {s : TState} (p : Pre g s draws) (n most : Int) : frames_Explore.f g s draws n most (exploreM g s draws n most) := by
  refine ⟨_, frames_Check.ok p.len p.st, ?_⟩
  unfold exploreM
  by_cases hc : chkS g s = 0
  · rw [if_pos hc, if_pos hc]
    by_cases hb : ((decide (n < 0)) || ((decide (n > 100)) || ((decide (most < 1)) || ((decide (most > 20000)) || (decide ((draws.length : Int) > 8)))))) = true
    · rw [if_pos hb, if_pos hb]
    · rw [if_neg hb, if_neg hb]
      simp only [Bool.or_eq_true, decide_eq_true_eq, not_or] at hb
      obtain ⟨c, hr⟩ := p.ctx hc (by omega)
      obtain ⟨k', key⟩ := explore_b1 c (most := most) (by omega) n.toNat [s] 0 0 (by omega) (one_li hr) (by simp; omega) (by simp) (by simp)
      rw [show ((n.toNat : Nat) : Int) = n by omega] at key
      refine ⟨_, slices_Clone_int64.ok p.st.env, _, slices_Clone_int.ok p.st.stack, _, frames_keyed.ok c.len c.ok hr, _, key, ?_⟩
      cases lvM er1 g draws most n.toNat [s] 0 <;> simp [Fin.map, Fin.on]
  · rw [if_neg hc, if_neg hc]
theorem rok_len (c : Ctx g draws) {d : TState} (h : ROk g d) : SLen d := h.ok.len c.ok
theorem r22_In.ok {l : List TState} {x : TState} (hl : l.length ≤ maxLen) (hw : ∀ c ∈ l, SLen c) : r22_In.f l x (isIn l x) := by
  have key := eachLoop (l := l) (b := r22_In.b1 l x) (fun c => !sameSt c x) true (fun i i0 i1 => by
    have hs := r22_Same.ok (a := rdl l i) (b := x) (hw _ (rdl_mem i0 i1))
    unfold r22_In.b1
    simp only [i1, if_true]
    refine ⟨fun ht => ⟨⟨i0, i1⟩, _, hs, ?_⟩, fun ht => ⟨⟨i0, i1⟩, _, hs, ?_⟩⟩
    · rw [show sameSt (rdl l i) x = false by simpa using ht, if_neg (by simp), wrap_len hl i0 i1]
    · rw [show sameSt (rdl l i) x = true by simpa using ht, if_pos rfl]; trivial) (fun i i0 i1 => by unfold r22_In.b1; simp only [i1, if_false])
  refine ⟨_, key, ?_⟩
  have : isIn l x = !(l.all fun c => !sameSt c x) := by unfold isIn; rw [List.any_eq_not_all_not]
  rw [this]
  cases l.all (fun c => !sameSt c x) <;> simp [Fin.on]
theorem lv_grow {ρ : Type} {er : Int → ρ} (c : Ctx g draws) : ∀ (n : Nat) (l : List TState) (k : Nat) (l' : List TState), LI g l → (l.length : Int) ≤ most → lvM er g draws most n l k = .go l' → Grow g most l l'
  | 0, l, k, l', h, hl, hv => by cases hv; exact .refl h hl
  | n + 1, l, k, l', h, hl, hv => by
    unfold lvM at hv
    cases hfo : foldF (expS er g draws most) (l.drop k) 0 l with
    | ret r => rw [hfo] at hv; cases hv
    | go l1 =>
      rw [hfo] at hv
      have hg := exps_grow c _ 0 l l1 (.refl h hl) (fun d hd => h d (List.mem_of_mem_drop hd)) hfo
      have h2 := lv_grow c n l1 l.length l' hg.li hg.len hv
      obtain ⟨t, ht⟩ := hg.pre
      obtain ⟨u, hu⟩ := h2.pre
      exact ⟨h2.li, ⟨t ++ u, by rw [hu, ht, List.append_assoc]⟩, h2.len⟩
theorem explore_li {s : TState} (p : Pre g s draws) (n most : Int) : (exploreM g s draws n most).1.length ≤ 20000 ∧ ∀ d ∈ (exploreM g s draws n most).1, SLen d := by
  have none : ([] : List TState).length ≤ 20000 ∧ ∀ d ∈ ([] : List TState), SLen d := ⟨by simp, fun d hd => by cases hd⟩
  unfold exploreM
  split
  · rename_i hc
    split
    · exact none
    · rename_i hb
      simp only [Bool.or_eq_true, decide_eq_true_eq, not_or] at hb
      obtain ⟨c, hr⟩ := p.ctx hc (by omega)
      rw [lvM_re er1]
      cases hlv : lvM (id : Int → Int) g draws most n.toNat [s] 0 with
      | ret x => exact none
      | go l =>
        have hg := lv_grow c _ _ _ _ (one_li hr) (by simp; omega) hlv
        have := hg.len
        exact ⟨by simp only [reF]; omega, fun d hd => rok_len c (hg.li d hd)⟩
  · exact none
theorem pre_of {s : TState} (y0 : TGraph.Fit g) (y1 : TState.Fit s) (h3 : g.Steps.length ≤ 300) (hd : ∀ v ∈ draws, I64 v) : Pre g s draws := by
  refine ⟨y0.len, y1.len, fun v hv => ?_, h3, hd, fun i hi => ?_⟩
  · have := wf64 (y1.2.1.2.2 v hv); exact this
  · obtain ⟨_, _, _, _, _, _, h6, _⟩ := y0
    have hi := isI_iff.1 hi
    have := h6.2.2 _ (rdl_mem hi.1 hi.2)
    exact wf64 this.2.2.2.2.2.1
end Go.RM.Tryz
namespace Go.RM.Tryz
open Go.RM
set_option linter.unusedVariables false
set_option linter.unusedSimpArgs false
theorem isIn_iff {l : List TState} {x : TState} : isIn l x = true ↔ x ∈ l := by
  unfold isIn
  rw [List.any_eq_true]
  constructor
  · rintro ⟨c, hc, he⟩; rw [← sameSt_iff.1 he]; exact hc
  · exact fun h => ⟨x, h, sameSt_iff.2 rfl⟩
theorem add_mem {g : TGraph} {d : TState} {most : Int} : ∀ (ms : List TMove) (i : Int) (l l' : List TState), foldF (addS (id : Int → Int) g d most) ms i l = .go l' → (∀ x ∈ l, x ∈ l') ∧ ∀ m ∈ ms, (doM g d m).2 = 0 ∧ (doM g d m).1 ∈ l'
  | [], i, l, l', h => by cases h; exact ⟨fun x hx => hx, fun x hx => by cases hx⟩
  | m :: ms, i, l, l', h => by
    unfold foldF at h
    cases ha : addS (id : Int → Int) g d most i m l with
    | go l1 =>
      rw [ha] at h
      obtain ⟨h1, h2⟩ := add_mem ms (i + 1) l1 l' h
      have h3 : (∀ y ∈ l, y ∈ l1) ∧ (doM g d m).2 = 0 ∧ (doM g d m).1 ∈ l1 := by
        unfold addS at ha
        split at ha
        · rename_i h0
          split at ha
          · rename_i hin; cases ha; exact ⟨fun y hy => hy, h0, isIn_iff.1 hin⟩
          · split at ha
            · cases ha
            · cases ha; exact ⟨fun y hy => List.mem_append_left _ hy, h0, by simp⟩
        · cases ha
      refine ⟨fun y hy => h1 y (h3.1 y hy), fun y hy => ?_⟩
      rcases List.mem_cons.1 hy with rfl | hy
      · exact ⟨h3.2.1, h1 _ h3.2.2⟩
      · exact h2 y hy
    | ret r => rw [ha] at h; cases h
theorem exp_mem {g : TGraph} {draws : List Int} {most : Int} : ∀ (xs : List TState) (i : Int) (l l' : List TState), foldF (expS (id : Int → Int) g draws most) xs i l = .go l' → (∀ x ∈ l, x ∈ l') ∧ ∀ d ∈ xs, ∀ m ∈ mvsM g d draws, (doM g d m).1 ∈ l'
  | [], i, l, l', h => by cases h; exact ⟨fun x hx => hx, fun x hx => by cases hx⟩
  | d :: xs, i, l, l', h => by
    unfold foldF at h
    cases ha : expS (id : Int → Int) g draws most i d l with
    | go l1 =>
      rw [ha] at h
      obtain ⟨h1, h2⟩ := exp_mem xs (i + 1) l1 l' h
      obtain ⟨g1, g2⟩ := add_mem _ _ _ _ ha
      refine ⟨fun y hy => h1 y (g1 y hy), fun y hy => ?_⟩
      rcases List.mem_cons.1 hy with rfl | hy
      · exact fun m hm => h1 _ (g2 m hm).2
      · exact h2 y hy
    | ret r => rw [ha] at h; cases h
def Closed (g : TGraph) (draws : List Int) (l : List TState) (k : Nat) : Prop := ∀ d ∈ l.take k, ∀ m ∈ mvsM g d draws, (doM g d m).1 ∈ l
theorem pick_mem {α : Type} [Inhabited α] (p : α → Bool) (l : List α) : ∀ (n k : Nat) (acc : List Int), k + n = l.length → (∀ j ∈ acc, j ∈ foldG (pickG p) (l.drop k) k acc) ∧ ∀ j : Int, (k : Int) ≤ j → j < l.length → p (rdl l j) = true → j ∈ foldG (pickG p) (l.drop k) k acc
  | 0, k, acc, h => by
    rw [List.drop_eq_nil_of_le (by omega)]
    exact ⟨fun j hj => hj, fun j h0 h1 => by omega⟩
  | n + 1, k, acc, h => by
    have hd := drop_rdl (l := l) (i := (k : Int)) (by omega) (by omega)
    rw [show ((k : Int)).toNat = k by omega, show ((k : Int) + 1).toNat = k + 1 by omega] at hd
    rw [hd]
    unfold foldG
    have e : ((k : Int) + 1) = ((k + 1 : Nat) : Int) := by omega
    rw [e]
    obtain ⟨h1, h2⟩ := pick_mem p l n (k + 1) (pickG p k (rdl l (k : Int)) acc) (by omega)
    have hacc : ∀ j ∈ acc, j ∈ pickG p k (rdl l (k : Int)) acc := fun j hj => by
      unfold pickG
      split
      · exact List.mem_append_left _ hj
      · exact hj
    refine ⟨fun j hj => h1 j (hacc j hj), fun j h0 hlt hp => ?_⟩
    by_cases hj : j = (k : Int)
    · subst hj
      refine h1 _ ?_
      unfold pickG
      rw [if_pos hp]
      simp
    · exact h2 j (by omega) hlt hp
theorem from_in {g : TGraph} {n k : Int} (h : isI k g.Steps.length = true) (hf : (rdl g.Steps k).From = n) : k ∈ fromM g n := by
  have h1 := isI_iff.1 h
  exact (pick_mem (fun x : TStep => x.From == n) g.Steps g.Steps.length 0 [] (by omega)).2 k h1.1 h1.2 (by simpa using hf)
theorem move_in {g : TGraph} {s : TState} {draws : List Int} {m : TMove} (hd : m.Draw ∈ draws) (h : (doM g s m).2 = 0) : m ∈ mvsM g s draws := by
  obtain ⟨st, dr⟩ := m
  simp only at hd
  unfold doM at h
  unfold mvsM
  rw [List.mem_append]
  by_cases h1 : st = -1
  · subst h1
    rw [if_pos rfl] at h
    split at h
    · exact absurd h (by decide)
    · rename_i hc
      simp at hc
      refine .inr ?_
      rw [if_pos hc.2, hc.1]
      simp
  · rw [if_neg h1] at h
    by_cases h2 : ((decide (st < 0)) || (decide (st ≥ (g.Steps.length : Int)))) = true
    · rw [if_pos h2] at h; exact absurd h (by decide)
    · rw [if_neg h2] at h
      have hi := step_at (m := ⟨st, dr⟩) h1 h2
      split at h
      · exact absurd h (by decide)
      · rename_i hc
        simp at hc
        refine .inl (List.mem_flatMap.2 ⟨st, from_in hi hc.1, ?_⟩)
        unfold mvsX
        by_cases hk : (rdl g.Steps st).Kind = 4
        · rw [if_pos hk]
          exact List.mem_map.2 ⟨dr, hd, rfl⟩
        · rw [if_neg hk]
          have : dr = 0 := by
            by_cases h0 : dr = 0
            · exact h0
            · exact absurd (hc.2 h0) hk
          rw [this]; simp
theorem run_in {g : TGraph} {draws : List Int} {most : Int} (c : Ctx g draws) : ∀ (ms : List TMove) (i : Int) (s t : TState) (n : Nat) (l l' : List TState) (k : Nat), ms.length ≤ n → (∀ m ∈ ms, m.Draw ∈ draws) → LI g l → (l.length : Int) ≤ most → Closed g draws l k → lvM (id : Int → Int) g draws most n l k = .go l' → s ∈ l → foldF (stepRn g) ms i s = .go t → t ∈ l'
  | [], i, s, t, n, l, l', k, _, _, hl, hm, _, hv, hs, hr => by
    injection hr with hr
    subst hr
    obtain ⟨u, hu⟩ := (lv_grow c n l k l' hl hm hv).pre
    rw [hu]
    exact List.mem_append_left _ hs
  | m :: ms, i, s, t, 0, l, l', k, hn, _, _, _, _, _, _, _ => by simp at hn
  | m :: ms, i, s, t, n + 1, l, l', k, hn, hdr, hl, hm, hcl, hv, hs, hr => by
    unfold lvM at hv
    cases hfo : foldF (expS (id : Int → Int) g draws most) (l.drop k) 0 l with
    | ret r => rw [hfo] at hv; cases hv
    | go l1 =>
      rw [hfo] at hv
      have hg := exps_grow c _ 0 l l1 (.refl hl hm) (fun d hd => hl d (List.mem_of_mem_drop hd)) hfo
      obtain ⟨m1, m2⟩ := exp_mem _ _ _ _ hfo
      have hsucc : ∀ e ∈ l, ∀ q ∈ mvsM g e draws, (doM g e q).1 ∈ l1 := by
        intro e he
        rw [← List.take_append_drop k l, List.mem_append] at he
        rcases he with he | he
        · exact fun q hq => m1 _ (hcl e he q hq)
        · exact m2 e he
      have hcl1 : Closed g draws l1 l.length := by
        obtain ⟨u, hu⟩ := hg.pre
        intro e he
        rw [hu, List.take_left] at he
        exact hsucc e he
      unfold foldF at hr
      unfold stepRn at hr
      by_cases h0 : (doM g s m).2 = 0
      · rw [if_pos h0] at hr
        exact run_in c ms (i + 1) _ t n l1 l' l.length (by simp at hn; omega) (fun q hq => hdr q (.tail _ hq)) hg.li hg.len hcl1 hv (hsucc s hs m (move_in (hdr m (.head _)) h0)) hr
      · rw [if_neg h0] at hr; cases hr
theorem drawsLoop (l : List TMove) (hl : l.length ≤ 10) : Loop (l22_FramesReached.b1 l) ([], 0) (.go ((l.take 8).map (·.Draw))) := by
  have hm : (10 : Nat) ≤ maxLen := by decide
  have main : ∀ (n k : Nat), k + n = (min l.length 8) → Loop (l22_FramesReached.b1 l) ((l.take k).map (·.Draw), (k : Int)) (.go ((l.take 8).map (·.Draw))) := by
    intro n
    induction n with
    | zero =>
      intro k hk
      have e : l.take k = l.take 8 := by
        rcases Nat.le_total l.length 8 with h | h
        · rw [List.take_of_length_le (by omega), List.take_of_length_le h]
        · rw [show k = 8 by omega]
      refine .exit ?_
      unfold l22_FramesReached.b1
      have hc : ((decide ((k : Int) < (l.length : Int))) && (decide ((((l.take k).map (·.Draw)).length : Int) < 8))) = false := by
        simp
        omega
      simp only [hc, e]
      simp
      intro hh
      omega
    | succ n ih =>
      intro k hk
      have hc : ((decide ((k : Int) < (l.length : Int))) && (decide ((((l.take k).map (·.Draw)).length : Int) < 8))) = true := by
        simp
        omega
      have hget := rdl_get (l := l) (i := (k : Int)) (by omega) (by omega)
      rw [show ((k : Int)).toNat = k by omega] at hget
      refine .next (s' := ((l.take (k + 1)).map (·.Draw), ((k + 1 : Nat) : Int))) ?_ (ih (k + 1) (by omega))
      unfold l22_FramesReached.b1
      simp only [hc, if_true]
      refine ⟨⟨by omega, by omega⟩, by unfold Fits; simp; omega, ?_⟩
      rw [wrap64 (by omega) (by omega), List.take_add_one, hget]
      simp
  exact main (min l.length 8) 0 (by omega)
theorem Law.FramesReached (a0 : TGraph) (a1 : TState) (a2 : List TMove) (y0 : TGraph.Fit a0) (y1 : TState.Fit a1) (y2 : (a2.length * 16 ≤ 140737488351232) ∧ (a2.length ≤ maxLen) ∧ (∀ y ∈ a2, TMove.Fit y)) : l22_FramesReached.f a0 a1 a2 true := by
  refine ⟨true, rfl, ?_⟩
  rw [if_pos rfl]
  refine ⟨_, rfl, ?_⟩
  split
  · rfl
  · rename_i hb
    simp only [Bool.or_eq_true, Bool.not_eq_true', decide_eq_true_eq, not_or, Bool.and_eq_true, Bool.not_eq_false] at hb
    obtain ⟨hsm, hlen⟩ := hb
    have hdraw : ∀ v ∈ (a2.take 8).map (·.Draw), I64 v := by
      intro v hv
      obtain ⟨m, hm, rfl⟩ := List.mem_map.1 hv
      exact wf64 (y2.2.2 m (List.mem_of_mem_take hm)).2
    have p := pre_of (draws := (a2.take 8).map (·.Draw)) y0 y1 (by omega) hdraw
    refine ⟨_, drawsLoop a2 (by omega), ?_⟩
    have hli := explore_li p (a2.length : Int) 300
    have hmx : (20000 : Nat) ≤ maxLen := by decide
    have hIn := r22_In.ok (x := (runM a0 a1 a2).1) (Nat.le_trans hli.1 hmx) hli.2
    have hRun := frames_Run.ok p.len p.st y2.2.1
    have hEx := frames_Explore.ok p (a2.length : Int) 300
    refine ⟨_, hRun, _, hEx, _, fun _ _ _ => hIn, ?_⟩
    by_cases h1 : (runM a0 a1 a2).2.2 = 0
    · by_cases h2 : (exploreM a0 a1 ((a2.take 8).map (·.Draw)) (a2.length : Int) 300).2 = 0
      · by_cases h3 : (a2.length : Int) > 8
        · simp [h3]
        · have key : isIn (exploreM a0 a1 ((a2.take 8).map (·.Draw)) (a2.length : Int) 300).1 (runM a0 a1 a2).1 = true := by
            have htk : a2.take 8 = a2 := List.take_of_length_le (by omega)
            rw [htk] at h2 p ⊢
            by_cases hc : chkS a0 a1 = 0
            · obtain ⟨c, hr⟩ := p.ctx hc (by simp; omega)
              have e1 : runM a0 a1 a2 = endR (foldF (stepRn a0) a2 0 a1) := by unfold runM; rw [if_pos hc]
              have e2 : exploreM a0 a1 (a2.map (·.Draw)) (a2.length : Int) 300 = (match lvM er1 a0 (a2.map (·.Draw)) 300 a2.length [a1] 0 with | .go l => (l, 0) | .ret r => r) := by
                unfold exploreM
                rw [if_pos hc, if_neg (by simp; omega)] <;> rfl
              rw [e1] at h1 ⊢
              rw [e2] at h2 ⊢
              rw [lvM_re er1] at h2 ⊢
              cases hfr : foldF (stepRn a0) a2 0 a1 with
              | ret r =>
                rw [hfr] at h1
                obtain ⟨t, hgo, _⟩ | ⟨k, e, hret, _, _, he⟩ := run_end (s := a1) c.ok a2 0 a1 hr.ok
                · rw [hfr] at hgo; cases hgo
                · rw [hfr] at hret
                  injection hret with hret
                  subst hret
                  exact absurd h1 he
              | go t =>
                cases hlv : lvM (id : Int → Int) a0 (a2.map (·.Draw)) 300 a2.length [a1] 0 with
                | ret x =>
                  rw [hlv] at h2
                  exfalso
                  have hx : x ≠ 0 := by
                    have : ∀ (n : Nat) (l : List TState) (k : Nat) (x : Int), lvM (id : Int → Int) a0 (a2.map (·.Draw)) 300 n l k = .ret x → x ≠ 0 := by
                      intro n
                      induction n with
                      | zero => intro l k x h; cases h
                      | succ n ih =>
                        intro l k x h
                        unfold lvM at h
                        have hadd : ∀ (ms : List TMove) (d : TState) (i : Int) (l : List TState) (x : Int), foldF (addS (id : Int → Int) a0 d 300) ms i l = .ret x → x ≠ 0 := by
                          intro ms d
                          induction ms with
                          | nil => intro i l x h; cases h
                          | cons m ms ih =>
                            intro i l x h
                            unfold foldF at h
                            cases ha : addS (id : Int → Int) a0 d 300 i m l with
                            | go l1 => rw [ha] at h; exact ih _ _ _ h
                            | ret y =>
                              rw [ha] at h
                              cases h
                              unfold addS at ha
                              split at ha
                              · split at ha
                                · cases ha
                                · split at ha
                                  · cases ha; decide
                                  · cases ha
                              · rename_i h0; cases ha; exact h0
                        have hexp : ∀ (xs : List TState) (i : Int) (l : List TState) (x : Int), foldF (expS (id : Int → Int) a0 (a2.map (·.Draw)) 300) xs i l = .ret x → x ≠ 0 := by
                          intro xs
                          induction xs with
                          | nil => intro i l x h; cases h
                          | cons d xs ih =>
                            intro i l x h
                            unfold foldF at h
                            cases ha : expS (id : Int → Int) a0 (a2.map (·.Draw)) 300 i d l with
                            | go l1 => rw [ha] at h; exact ih _ _ _ h
                            | ret y =>
                              rw [ha] at h
                              cases h
                              exact hadd _ _ _ _ _ ha
                        cases hfo : foldF (expS (id : Int → Int) a0 (a2.map (·.Draw)) 300) (l.drop k) 0 l with
                        | go l1 => rw [hfo] at h; exact ih _ _ _ h
                        | ret y => rw [hfo] at h; cases h; exact hexp _ _ _ _ hfo
                    exact this _ _ _ _ hlv
                  exact hx h2
                | go l' =>
                  refine isIn_iff.2 ?_
                  exact run_in c a2 0 a1 t a2.length [a1] l' 0 (Nat.le_refl _) (fun m hm => List.mem_map.2 ⟨m, hm, rfl⟩) (one_li hr) (by simp) (fun d hd => by simp at hd) hlv (by simp) hfr
            · have : runM a0 a1 a2 = (noneS, 0, chkS a0 a1) := by unfold runM; rw [if_neg hc]
              rw [this] at h1
              exact absurd h1 hc
          rw [key]
          simp
      · rw [beq_eq_false_iff_ne.2 h2]
        simp
    · rw [beq_eq_false_iff_ne.2 h1]
      simp
end Go.RM.Tryz
