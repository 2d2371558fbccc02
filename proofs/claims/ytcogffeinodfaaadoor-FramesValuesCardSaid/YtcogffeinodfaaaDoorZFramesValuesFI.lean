/- LA LB FA FB FC FD FE FF FG FH FI, for the statement FramesValues: what it needs, no more. -/
import Derived.Test.YtcogffeinodfaaaDoorZFramesValuesGR
import Derived.Test.YtcogffeinodfaaaDoorZFramesValuesGF
namespace Go.RM
set_option linter.unusedVariables false
set_option linter.unusedSimpArgs false
theorem Loop.of {σ τ ρ : Type} {b : σ → Rnd σ τ ρ → Prop} (spec : σ → Fin τ ρ) (m : σ → Nat) (Inv : σ → Prop)
    (step : ∀ s, Inv s → (∃ s', b s (.next s') ∧ m s' < m s ∧ Inv s' ∧ spec s' = spec s) ∨ (∃ t, b s (.exit t) ∧ spec s = .go t) ∨ (∃ r, b s (.ret r) ∧ spec s = .ret r)) :
    ∀ s, Inv s → Loop b s (spec s) := by
  intro s
  generalize hn : m s = n
  induction n using Nat.strongRecOn generalizing s with
  | _ n ih =>
    intro hi
    rcases step s hi with ⟨s', hb, hm, hi', he⟩ | ⟨t, hb, he⟩ | ⟨r, hb, he⟩
    · rw [← he]
      exact .next hb (ih (m s') (by omega) s' rfl hi')
    · rw [he]; exact .exit hb
    · rw [he]; exact .ret hb
theorem wrap64 {i : Int} (h0 : -9223372036854775808 ≤ i) (h1 : i ≤ 9223372036854775807) : IntKind.i64.wrap i = i := by
  have e : IntKind.i64.wrap i = if (i % 18446744073709551616 : Int) ≥ 9223372036854775808 then i % 18446744073709551616 - 18446744073709551616 else i % 18446744073709551616 := by
    simp [IntKind.wrap, IntKind.bits, IntKind.signed]
  rw [e]
  split <;> omega
theorem wrapu64 {i : Int} (h0 : 0 ≤ i) (h1 : i < 18446744073709551616) : IntKind.u64.wrap i = i := by
  have e : IntKind.u64.wrap i = i % 18446744073709551616 := by
    simp [IntKind.wrap, IntKind.bits, IntKind.signed]
  rw [e]; omega
theorem wfu64 {i : Int} (h : (Lit.int .u64 i).wf = true) : 0 ≤ i ∧ i < 18446744073709551616 := by
  simp [Lit.wf, IntKind.min, IntKind.max, IntKind.bits, IntKind.signed] at h
  omega
theorem wrap_len {α : Type} {l : List α} {i : Int} (hl : l.length ≤ maxLen) (h0 : 0 ≤ i) (h1 : i < l.length) : IntKind.i64.wrap (i + 1) = i + 1 := by
  have : maxLen ≤ 9223372036854775807 := by decide
  exact wrap64 (by omega) (by omega)
theorem rdl_mem {α : Type} [Inhabited α] {l : List α} {i : Int} (h0 : 0 ≤ i) (h1 : i < l.length) : rdl l i ∈ l :=
  List.mem_of_getElem? (rdl_get h0 h1)
theorem drop_rdl {α : Type} [Inhabited α] {l : List α} {i : Int} (h0 : 0 ≤ i) (h1 : i < l.length) : l.drop i.toNat = rdl l i :: l.drop (i + 1).toNat := by
  have h := rdl_get h0 h1
  have hlt : i.toNat < l.length := by omega
  rw [List.drop_eq_getElem_cons hlt, show (i + 1).toNat = i.toNat + 1 by omega]
  rw [List.getElem?_eq_getElem hlt, Option.some.injEq] at h
  rw [h]
theorem drop_end {α : Type} {l : List α} {i : Int} (h0 : 0 ≤ i) (h1 : ¬ i < l.length) : l.drop i.toNat = [] := List.drop_eq_nil_of_le (by omega)
theorem rdl0 {α : Type} [Inhabited α] {a : α} {l : List α} : rdl (a :: l) 0 = a := rfl
end Go.RM
namespace Go.RM
set_option linter.unusedVariables false
set_option linter.unusedSimpArgs false
def idxI {α : Type} (test : α → Bool) : List α → Int → Int
  | [], _ => -1
  | x :: l, i => if test x then i else idxI test l (i + 1)
theorem idxI_any {α : Type} (test : α → Bool) : ∀ (l : List α) (i : Int), 0 ≤ i → decide (idxI test l i ≥ 0) = l.any test
  | [], i, h => by simp [idxI]
  | x :: l, i, h => by
    unfold idxI
    by_cases hx : test x = true
    · simp [hx, h]
    · rw [if_neg hx, idxI_any test l (i + 1) (by omega)]; simp [hx]
theorem indexFunc {α : Type} [Inhabited α] {l : List α} {q : α → Bool → Prop} {b : Int → Rnd Int Unit Int → Prop} (test : α → Bool) (hl : l.length ≤ maxLen) (hq : ∀ x ∈ l, q x (test x))
    (hb : b = fun x1 z1 => if x1 < (l.length : Int) then (InR x1 l.length ∧ ∃ t : Bool, q (rdl l x1) t ∧ if t = true then z1 = .ret x1 else z1 = .next (IntKind.i64.wrap (x1 + 1))) else z1 = .exit ()) :
    ∃ o : Fin Unit Int, Loop b 0 o ∧ o.on (fun _ => idxI test l 0 = -1) (fun r_ => idxI test l 0 = r_) := by
  let spec : Int → Fin Unit Int := fun i => if (l.drop i.toNat).any test then .ret (idxI test (l.drop i.toNat) i) else .go ()
  have key := Loop.of (b := b) spec (fun i => ((l.length : Int) - i).toNat) (fun i => 0 ≤ i) (fun i hi => by
    subst hb
    by_cases h : i < (l.length : Int)
    · have hd := drop_rdl hi h
      by_cases ht : test (rdl l i) = true
      · refine .inr (.inr ⟨i, ?_, ?_⟩)
        · simp only [h, if_true]
          exact ⟨⟨hi, h⟩, true, ht ▸ hq _ (rdl_mem hi h), by simp⟩
        · show (if _ then _ else _) = _
          rw [hd]; simp [ht, idxI]
      · have ht' : test (rdl l i) = false := by simpa using ht
        refine .inl ⟨i + 1, ?_, by omega, by omega, ?_⟩
        · simp only [h, if_true]
          exact ⟨⟨hi, h⟩, false, ht' ▸ hq _ (rdl_mem hi h), by simp [wrap_len hl hi h]⟩
        · show (if _ then _ else _) = (if _ then _ else _)
          rw [hd]; simp [ht', idxI]
    · refine .inr (.inl ⟨(), by simp only [h, if_false], ?_⟩)
      show (if _ then _ else _) = _
      rw [drop_end hi h]; rfl) 0 (Int.le_refl 0)
  refine ⟨_, key, ?_⟩
  show Fin.on (if _ then _ else _) _ _
  simp only [Int.toNat_zero, List.drop_zero]
  split
  · rfl
  · rename_i h
    show idxI test l 0 = -1
    have : decide (idxI test l 0 ≥ 0) = false := by rw [idxI_any test l 0 (Int.le_refl 0)]; simpa using h
    have hge : ∀ (l : List α) (i : Int), 0 ≤ i → idxI test l i = -1 ∨ 0 ≤ idxI test l i := by
      intro l
      induction l with
      | nil => intro i _; exact .inl rfl
      | cons x l ih =>
        intro i hi
        unfold idxI
        split
        · exact .inr hi
        · exact ih (i + 1) (by omega)
    rcases hge l 0 (Int.le_refl 0) with h1 | h1
    · exact h1
    · simp at this; omega
theorem eachLoop {α ρ : Type} [Inhabited α] {l : List α} {b : Int → Rnd Int Unit ρ → Prop} (test : α → Bool) (rv : ρ)
    (hb : ∀ i, 0 ≤ i → i < (l.length : Int) → (test (rdl l i) = true → b i (.next (i + 1))) ∧ (test (rdl l i) = false → b i (.ret rv))) (hend : ∀ i, 0 ≤ i → ¬ i < (l.length : Int) → b i (.exit ())) :
    Loop b 0 (if l.all test then .go () else .ret rv) := by
  let spec : Int → Fin Unit ρ := fun i => if (l.drop i.toNat).all test then .go () else .ret rv
  have key := Loop.of (b := b) spec (fun i => ((l.length : Int) - i).toNat) (fun i => 0 ≤ i) (fun i hi => by
    by_cases h : i < (l.length : Int)
    · have hd := drop_rdl hi h
      obtain ⟨h1, h2⟩ := hb i hi h
      cases ht : test (rdl l i) with
      | true =>
        refine .inl ⟨i + 1, h1 ht, by omega, by omega, ?_⟩
        show (if _ then _ else _) = (if _ then _ else _)
        rw [hd]; simp [ht]
      | false =>
        refine .inr (.inr ⟨rv, h2 ht, ?_⟩)
        show (if _ then _ else _) = _
        rw [hd]; simp [ht]
    · refine .inr (.inl ⟨(), hend i hi h, ?_⟩)
      show (if _ then _ else _) = _
      rw [drop_end hi h]; rfl) 0 (Int.le_refl 0)
  simpa [spec] using key
theorem containsFunc {α : Type} [Inhabited α] {l : List α} {q : α → Bool → Prop} {b : Int → Rnd Int Unit Int → Prop} (test : α → Bool) (hl : l.length ≤ maxLen) (hq : ∀ x ∈ l, q x (test x))
    (hb : b = fun x1 z1 => if x1 < (l.length : Int) then (InR x1 l.length ∧ ∃ t : Bool, q (rdl l x1) t ∧ if t = true then z1 = .ret x1 else z1 = .next (IntKind.i64.wrap (x1 + 1))) else z1 = .exit ()) :
    ∃ t : Int, (∃ o : Fin Unit Int, Loop b 0 o ∧ o.on (fun _ => t = -1) (fun r_ => t = r_)) ∧ l.any test = decide (t ≥ 0) :=
  ⟨_, indexFunc test hl hq hb, (idxI_any test l 0 (Int.le_refl 0)).symm⟩
def foldF {α σ ρ : Type} (step : Int → α → σ → Fin σ ρ) : List α → Int → σ → Fin σ ρ
  | [], _, s => .go s
  | x :: l, i, s => match step i x s with
    | .go s' => foldF step l (i + 1) s'
    | .ret r => .ret r
def Fin.map {σ τ ρ : Type} (f : σ → τ) : Fin σ ρ → Fin τ ρ
  | .go s => .go (f s)
  | .ret r => .ret r
def Rok {σ S τ ρ : Type} (b : S → Rnd S τ ρ → Prop) (mk : Int → σ → S) (Inv : Int → σ → Prop) (i : Int) (s : σ) : Fin σ ρ → Prop
  | .go s' => b (mk i s) (.next (mk (i + 1) s')) ∧ Inv (i + 1) s'
  | .ret r => b (mk i s) (.ret r)
theorem foldLoop {α σ S τ ρ : Type} [Inhabited α] {l : List α} {b : S → Rnd S τ ρ → Prop} (mk : Int → σ → S) (ex : σ → τ) (step : Int → α → σ → Fin σ ρ) (Inv : Int → σ → Prop)
    (hb : ∀ i s, 0 ≤ i → i < (l.length : Int) → Inv i s → Rok b mk Inv i s (step i (rdl l i) s))
    (hend : ∀ s, Inv l.length s → b (mk l.length s) (.exit (ex s))) (s0 : σ) (h0 : Inv 0 s0) :
    Loop b (mk 0 s0) ((foldF step l 0 s0).map ex) ∧ ∀ s, foldF step l 0 s0 = .go s → Inv l.length s := by
  have main : ∀ (k : Nat) (i : Int) (s : σ), ((l.length : Int) - i).toNat = k → 0 ≤ i → i ≤ l.length → Inv i s → Loop b (mk i s) ((foldF step (l.drop i.toNat) i s).map ex) ∧ ∀ s', foldF step (l.drop i.toNat) i s = .go s' → Inv l.length s' := by
    intro k
    induction k with
    | zero =>
      intro i s hk h0 h1 hi
      have : i = l.length := by omega
      subst this
      rw [drop_end h0 (by omega)]
      exact ⟨.exit (hend s hi), fun s' h => by injection h with h; exact h ▸ hi⟩
    | succ k ih =>
      intro i s hk h0 h1 hi
      have hlt : i < (l.length : Int) := by omega
      rw [drop_rdl h0 hlt]
      have hr := hb i s h0 hlt hi
      unfold foldF
      revert hr
      cases step i (rdl l i) s with
      | go s1 =>
        intro hr
        have := ih (i + 1) s1 (by omega) (by omega) (by omega) hr.2
        exact ⟨.next hr.1 this.1, this.2⟩
      | ret r =>
        intro hr
        exact ⟨.ret hr, fun s' h => by cases h⟩
  have := main _ 0 s0 rfl (Int.le_refl 0) (by omega) h0
  simpa using this
theorem foldF_map {α β ρ : Type} (f : α → β) : ∀ (l : List α) (i : Int) (acc : List β), foldF (fun _ x acc => (.go (acc ++ [f x]) : Fin (List β) ρ)) l i acc = .go (acc ++ l.map f)
  | [], i, acc => by simp [foldF]
  | x :: l, i, acc => by
    show foldF _ l (i + 1) (acc ++ [f x]) = _
    rw [foldF_map f l]
    simp
def upto (n : Nat) : List Int := (List.range n).map Int.ofNat
def all2B {α β : Type} (test : α → β → Bool) : List α → List β → Bool
  | x :: l, y :: m => test x y && all2B test l m
  | _, _ => true
theorem each2Loop {α β ρ : Type} [Inhabited α] [Inhabited β] {l : List α} {m : List β} {b : Int → Rnd Int Unit ρ → Prop} (test : α → β → Bool) (rv : ρ) (hlen : l.length = m.length)
    (hb : ∀ i, 0 ≤ i → i < (l.length : Int) → (test (rdl l i) (rdl m i) = true → b i (.next (i + 1))) ∧ (test (rdl l i) (rdl m i) = false → b i (.ret rv))) (hend : ∀ i, 0 ≤ i → ¬ i < (l.length : Int) → b i (.exit ())) :
    Loop b 0 (if all2B test l m = true then .go () else .ret rv) := by
  let spec : Int → Fin Unit ρ := fun i => if all2B test (l.drop i.toNat) (m.drop i.toNat) = true then .go () else .ret rv
  have key := Loop.of (b := b) spec (fun i => ((l.length : Int) - i).toNat) (fun i => 0 ≤ i) (fun i hi => by
    by_cases h : i < (l.length : Int)
    · have hd := drop_rdl hi h
      have hd2 := drop_rdl (l := m) hi (by omega)
      obtain ⟨h1, h2⟩ := hb i hi h
      cases ht : test (rdl l i) (rdl m i) with
      | true =>
        refine .inl ⟨i + 1, h1 ht, by omega, by omega, ?_⟩
        show (if _ then _ else _) = (if _ then _ else _)
        rw [hd, hd2]; simp [all2B, ht]
      | false =>
        refine .inr (.inr ⟨rv, h2 ht, ?_⟩)
        show (if _ then _ else _) = _
        rw [hd, hd2]; simp [all2B, ht]
    · refine .inr (.inl ⟨(), hend i hi h, ?_⟩)
      show (if _ then _ else _) = _
      rw [drop_end hi h]; simp [all2B]) 0 (Int.le_refl 0)
  simpa [spec] using key
theorem all2B_eq {α : Type} [DecidableEq α] : ∀ (l m : List α), l.length = m.length → all2B (fun x y => decide (x = y)) l m = decide (l = m)
  | [], [], _ => by simp [all2B]
  | x :: l, y :: m, h => by
    have := all2B_eq l m (by simpa using h)
    simp [all2B, this]
theorem eqLoop {α ρ : Type} [Inhabited α] [DecidableEq α] {l m : List α} {b : Int → Rnd Int Unit ρ → Prop} (rv : ρ) (hlen : l.length = m.length)
    (hb : ∀ i, 0 ≤ i → i < (l.length : Int) → (rdl l i = rdl m i → b i (.next (i + 1))) ∧ (rdl l i ≠ rdl m i → b i (.ret rv))) (hend : ∀ i, 0 ≤ i → ¬ i < (l.length : Int) → b i (.exit ())) :
    Loop b 0 (if l = m then .go () else .ret rv) := by
  have := each2Loop (b := b) (fun x y => decide (x = y)) rv hlen (fun i h0 h1 => ⟨fun h => (hb i h0 h1).1 (by simpa using h), fun h => (hb i h0 h1).2 (by simpa using h)⟩) hend
  rw [all2B_eq l m hlen] at this
  simpa using this
theorem eqRound {α : Type} [Inhabited α] [DecidableEq α] {l m : List α} {b : Int → Rnd Int Unit Bool → Prop} (hl : l.length ≤ maxLen) (hlen : l.length = m.length)
    (hb : b = fun x1 z1 => if x1 < (l.length : Int) then (InR x1 l.length ∧ InR x1 m.length ∧ if rdl l x1 = rdl m x1 then z1 = .next (IntKind.i64.wrap (x1 + 1)) else z1 = .ret false) else z1 = .exit ()) :
    Loop b 0 (if l = m then .go () else .ret false) := by
  subst hb
  refine eqLoop false hlen (fun i h0 h1 => ⟨fun h => ?_, fun h => ?_⟩) (fun i h0 h1 => by simp only [h1, if_false])
  · simp only [h1, if_true]
    exact ⟨⟨h0, h1⟩, ⟨h0, by omega⟩, by rw [if_pos h, wrap_len hl h0 h1]⟩
  · simp only [h1, if_true]
    exact ⟨⟨h0, h1⟩, ⟨h0, by omega⟩, by rw [if_neg h]; trivial⟩
end Go.RM
namespace Go.RM
set_option linter.unusedVariables false
set_option linter.unusedSimpArgs false
def InM (x : Int) : Prop := 0 ≤ x ∧ x < 18446744073709551616
def bitM (x : Int) (i : Nat) : Bool := x.toNat.testBit i
theorem pow64 : (2 : Nat) ^ 64 = 18446744073709551616 := by decide
theorem bitM_high {x : Int} (hx : InM x) {i : Nat} (h : 64 ≤ i) : bitM x i = false := by
  unfold bitM
  apply Nat.testBit_lt_two_pow
  have h1 : (2 : Nat) ^ 64 ≤ 2 ^ i := Nat.pow_le_pow_right (by decide) h
  have := pow64
  have := hx.2; have := hx.1; omega
theorem ofInt_toM {x : Int} (hx : InM x) : (BitVec.ofInt 64 x).toNat = x.toNat := by
  rw [BitVec.toNat_ofInt]
  have := hx.1; have := hx.2
  have : x % ((2 ^ 64 : Nat) : Int) = x := by
    rw [show ((2 ^ 64 : Nat) : Int) = 18446744073709551616 by decide]
    exact Int.emod_eq_of_lt hx.1 hx.2
  rw [this]
theorem toNat_InM (b : BitVec 64) : InM (b.toNat : Int) := by
  have := b.isLt
  have := pow64
  exact ⟨by omega, by omega⟩
theorem orM {x y : Int} : bitOp .or .u64 x y = ((BitVec.ofInt 64 x ||| BitVec.ofInt 64 y).toNat : Int) := by
  show IntKind.u64.wrap ((BitVec.ofInt 64 x ||| BitVec.ofInt 64 y).toNat : Int) = _
  have := toNat_InM (BitVec.ofInt 64 x ||| BitVec.ofInt 64 y)
  exact wrapu64 this.1 this.2
theorem andNotM {x y : Int} : bitOp .andNot .u64 x y = ((BitVec.ofInt 64 x &&& ~~~ BitVec.ofInt 64 y).toNat : Int) := by
  show IntKind.u64.wrap ((BitVec.ofInt 64 x &&& ~~~ BitVec.ofInt 64 y).toNat : Int) = _
  have := toNat_InM (BitVec.ofInt 64 x &&& ~~~ BitVec.ofInt 64 y)
  exact wrapu64 this.1 this.2
theorem or_InM (x y : Int) : InM (bitOp .or .u64 x y) := by rw [orM]; exact toNat_InM _
theorem andNot_InM (x y : Int) : InM (bitOp .andNot .u64 x y) := by rw [andNotM]; exact toNat_InM _
theorem bv_bitM (b : BitVec 64) (i : Nat) : bitM (b.toNat : Int) i = b.getLsbD i := rfl
theorem ofInt_bitM {x : Int} (hx : InM x) (i : Nat) : (BitVec.ofInt 64 x).getLsbD i = bitM x i := by
  show (BitVec.ofInt 64 x).toNat.testBit i = _
  rw [ofInt_toM hx]; rfl
theorem bit_or {x y : Int} (hx : InM x) (hy : InM y) (i : Nat) : bitM (bitOp .or .u64 x y) i = (bitM x i || bitM y i) := by
  rw [orM, bv_bitM, BitVec.getLsbD_or, ofInt_bitM hx, ofInt_bitM hy]
theorem bit_andNot {x y : Int} (hx : InM x) (hy : InM y) (i : Nat) : bitM (bitOp .andNot .u64 x y) i = (bitM x i && !bitM y i) := by
  rw [andNotM, bv_bitM, BitVec.getLsbD_and, BitVec.getLsbD_not, ofInt_bitM hx, ofInt_bitM hy]
  by_cases h : i < 64
  · simp [h]
  · rw [bitM_high hx (by omega)]; simp
theorem one_shl {x : Int} (h0 : 0 ≤ x) (h1 : x < 64) : shlI .u64 1 x = 2 ^ x.toNat := by
  unfold shlI
  have hb : IntKind.bits .u64 = 64 := rfl
  rw [hb, Nat.min_eq_left (by omega), Int.one_mul]
  have h2 : (2 : Nat) ^ x.toNat < 2 ^ 64 := Nat.pow_lt_pow_right (by decide) (by omega)
  have h3 : ((2 ^ x.toNat : Nat) : Int) = (2 : Int) ^ x.toNat := by simp
  have hp : (0 : Int) < 2 ^ x.toNat := Int.pow_pos (by decide)
  have := pow64
  exact wrapu64 (by omega) (by omega)
theorem pow_toM (n : Nat) : ((2 : Int) ^ n).toNat = 2 ^ n := by
  have h2 : ((2 ^ n : Nat) : Int) = (2 : Int) ^ n := by simp
  rw [← h2]; exact Int.toNat_natCast _
theorem pow_InM {k : Nat} (h : k < 64) : InM (2 ^ k) := by
  have h2 : (2 : Nat) ^ k < 2 ^ 64 := Nat.pow_lt_pow_right (by decide) h
  have h3 : ((2 ^ k : Nat) : Int) = (2 : Int) ^ k := by simp
  have hp : (0 : Int) < 2 ^ k := Int.pow_pos (by decide)
  have := pow64
  exact ⟨by omega, by omega⟩
theorem bit_pow (k i : Nat) : bitM (2 ^ k) i = decide (k = i) := by
  unfold bitM
  rw [pow_toM, Nat.testBit_two_pow]
theorem shr_nat {m x : Int} (hm : InM m) (h0 : 0 ≤ x) (h1 : x ≤ 64) : shrI .u64 m x = ((m.toNat / 2 ^ x.toNat : Nat) : Int) := by
  unfold shrI
  have hb : IntKind.bits .u64 = 64 := rfl
  rw [hb, Nat.min_eq_left (by omega)]
  have hp : (0 : Int) ≤ 2 ^ x.toNat := Int.le_of_lt (Int.pow_pos (by decide))
  rw [Int.fdiv_eq_ediv_of_nonneg _ hp]
  have h3 : ((2 ^ x.toNat : Nat) : Int) = (2 : Int) ^ x.toNat := by simp
  have h4 : (m.toNat : Int) = m := Int.toNat_of_nonneg hm.1
  rw [← h3]
  conv => lhs; rw [← h4]
  rw [Int.natCast_ediv]
theorem shr_zero {m : Int} {n : Nat} (hm : InM m) (h : n ≤ 64) : (shrI .u64 m (n : Int) = 0) ↔ ∀ i, n ≤ i → bitM m i = false := by
  rw [shr_nat hm (Int.natCast_nonneg _) (by omega), Int.toNat_natCast]
  constructor
  · intro h i hi
    have : m.toNat / 2 ^ n = 0 := by omega
    have hlt : m.toNat < 2 ^ n := by
      have := (Nat.div_eq_zero_iff).1 this
      rcases this with h | h
      · exact absurd h (Nat.ne_of_gt (Nat.two_pow_pos n))
      · exact h
    unfold bitM
    exact Nat.testBit_lt_two_pow (Nat.lt_of_lt_of_le hlt (Nat.pow_le_pow_right (by decide) hi))
  · intro h
    have : m.toNat / 2 ^ n = 0 := by
      apply Nat.eq_of_testBit_eq
      intro i
      rw [Nat.testBit_div_two_pow, Nat.zero_testBit]
      exact h _ (by omega)
    omega
end Go.RM
namespace Go.RM.Tryd
open Go.RM
set_option linter.unusedVariables false
set_option linter.unusedSimpArgs false
def isI (a b : Int) : Bool := decide (a ≥ 0) && decide (a < b)
theorem isI_iff {a b : Int} : isI a b = true ↔ 0 ≤ a ∧ a < b := by unfold isI; simp
theorem isI_R {α : Type} {l : List α} {a : Int} (h : isI a l.length = true) : InR a l.length := isI_iff.1 h
theorem graph_in.ok (a b : Int) : graph_in.f a b (isI a b) := rfl
theorem upto_len (n : Nat) : (upto n).length = n := by simp [upto]
theorem rdl_upto {n : Nat} {i : Int} (h0 : 0 ≤ i) (h1 : i < n) : rdl (upto n) i = i := by
  have := rdl_get (l := upto n) h0 (by rw [upto_len]; exact h1)
  unfold upto at this ⊢
  rw [List.getElem?_map, List.getElem?_range (by omega)] at this
  injection this with this
  rw [← this]; simp; omega
def fstBad (g : TGraph) : Bool := decide ((g.Vars.length : Int) > 64) || ((decide ((g.Procs.length : Int) < 1)) || ((decide ((g.Procs.length : Int) > 1024)) || ((!((g.Entry.length : Int) == (g.Procs.length : Int))) || ((!((g.Exit.length : Int) == (g.Procs.length : Int))) || ((decide ((g.Of.length : Int) > 4096)) || (!isI g.Main g.Procs.length))))))
def endOk (g : TGraph) (i e : Int) : Bool := isI e g.Of.length && rdl g.Of e == i
def pairOk (g : TGraph) (i : Int) : Bool := endOk g i (rdl g.Entry i) && endOk g i (rdl g.Exit i)
def headsOk (g : TGraph) : Bool := !fstBad g && (decide ((g.Sites.length : Int) ≤ 1024) && (g.Of.all (fun k => isI k g.Procs.length) && ((upto g.Procs.length).all (pairOk g) && g.Sites.all (fun s => isI s.Proc g.Procs.length))))
structure GLen (g : TGraph) : Prop where
  vars : g.Vars.length ≤ maxLen
  procs : g.Procs.length ≤ maxLen
  entry : g.Entry.length ≤ maxLen
  exit : g.Exit.length ≤ maxLen
  of_ : g.Of.length ≤ maxLen
  steps : g.Steps.length ≤ maxLen
  sites : g.Sites.length ≤ maxLen
  points : g.Points.length ≤ maxLen
  sinks : g.Sinks.length ≤ maxLen
theorem TGraph.Fit.len {g : TGraph} (h : g.Fit) : GLen g := by
  obtain ⟨h1, h2, h3, h4, _, h5, h6, h7, h8, h9⟩ := h
  exact ⟨h1.2.1, h2.2.1, h3.2.1, h4.2.1, h5.2.1, h6.2.1, h7.2.1, h8.2.1, h9.2.1⟩
theorem notAny {α : Type} (p : α → Bool) (l : List α) : (!(l.any fun x => !p x)) = l.all p := by
  induction l with
  | nil => rfl
  | cons x l ih => simp only [List.any_cons, List.all_cons, Bool.not_or, Bool.not_not, ih]
theorem endLoop {g : TGraph} {i : Int} (l : List Int) (hl : l.length ≤ maxLen) : Loop (fun x4 z2 => if x4 < (l.length : Int) then (((InR x4 l.length)) ∧ ∃ t51_4 : Bool, (graph_in.f (rdl l x4) (g.Of.length : Int) t51_4) ∧ ((t51_4 = true) → (InR (rdl l x4) g.Of.length)) ∧ if ((!t51_4) || ((rdl g.Of (rdl l x4)) != i)) = true then (z2 = .ret false) else (z2 = .next (IntKind.i64.wrap (x4 + 1)))) else (z2 = .exit ()) : Int → Rnd Int Unit Bool → Prop) 0 (if l.all (endOk g i) then .go () else .ret false) := by
  refine eachLoop (endOk g i) false (fun k h0 h1 => ?_) (fun k h0 h1 => by simp only [h1, if_false])
  simp only [h1, if_true]
  refine ⟨fun ht => ⟨⟨h0, h1⟩, _, graph_in.ok _ _, fun h => isI_R h, ?_⟩, fun ht => ⟨⟨h0, h1⟩, _, graph_in.ok _ _, fun h => isI_R h, ?_⟩⟩
  · unfold endOk at ht
    rw [Bool.and_eq_true] at ht
    rw [if_neg (by simp [ht.1, bne, ht.2]), wrap_len hl h0 h1]
  · unfold endOk at ht
    rw [if_pos]
    · trivial
    · cases h2 : isI (rdl l k) g.Of.length with
      | false => rfl
      | true => rw [h2, Bool.true_and] at ht; simp [bne, ht]
theorem pairLoop {g : TGraph} (hl : g.Procs.length ≤ maxLen) (h1 : g.Entry.length = g.Procs.length) (h2 : g.Exit.length = g.Procs.length) : Loop (graph_procsRight.b1 g) 0 (if (upto g.Procs.length).all (pairOk g) then .go () else .ret false) := by
  refine eachLoop (pairOk g) false (fun k h0 hk => ?_) (fun k h0 hk => by rw [upto_len] at hk; simp only [graph_procsRight.b1, hk, if_false])
  rw [upto_len] at hk
  rw [rdl_upto h0 hk]
  unfold graph_procsRight.b1
  simp only [hk, if_true]
  have hL := endLoop (g := g) (i := k) [rdl g.Entry k, rdl g.Exit k] (by show 2 ≤ maxLen; decide)
  have he : ([rdl g.Entry k, rdl g.Exit k].all (endOk g k)) = pairOk g k := by simp [pairOk]
  rw [he] at hL
  refine ⟨fun ht => ⟨⟨h0, by omega⟩, ⟨h0, by omega⟩, _, hL, ?_⟩, fun ht => ⟨⟨h0, by omega⟩, ⟨h0, by omega⟩, _, hL, ?_⟩⟩
  · rw [ht]; show _ = _; rw [wrap_len (l := g.Procs) hl h0 hk]
  · rw [ht]; rfl
theorem fstBad_not {g : TGraph} (h : fstBad g = false) : g.Vars.length ≤ 64 ∧ 1 ≤ g.Procs.length ∧ g.Procs.length ≤ 1024 ∧ g.Entry.length = g.Procs.length ∧ g.Exit.length = g.Procs.length ∧ g.Of.length ≤ 4096 ∧ isI g.Main g.Procs.length = true := by
  simp only [fstBad, Bool.or_eq_false_iff, decide_eq_false_iff_not, Bool.not_eq_false', beq_iff_eq] at h
  obtain ⟨h1, h2, h3, h4, h5, h6, h7⟩ := h
  exact ⟨by omega, by omega, by omega, by omega, by omega, by omega, h7⟩
theorem graph_procsRight.ok {g : TGraph} (hg : GLen g) : graph_procsRight.f g (headsOk g) := by
  refine ⟨isI g.Main g.Procs.length, fun _ _ _ _ _ _ => graph_in.ok _ _, ?_⟩
  show if fstBad g = true then _ else _
  by_cases hb : fstBad g = true
  · rw [if_pos hb]; simp [headsOk, hb]
  · rw [if_neg hb]
    have hb' : fstBad g = false := by simpa using hb
    obtain ⟨h1, h2, h3, h4, h5, h6, h7⟩ := fstBad_not hb'
    obtain ⟨t, ht, he⟩ := containsFunc (q := fun x0_ y_ => graph_procsRight_1.f x0_ (g.Procs.length : Int) y_) (b := slices_IndexFunc_int.b1 g.Of (fun x0_ y_ => graph_procsRight_1.f x0_ (g.Procs.length : Int) y_)) (fun k => !isI k g.Procs.length) hg.of_ (fun x _ => ⟨_, graph_in.ok _ _, rfl⟩) rfl
    refine ⟨_, ⟨t, ht, he⟩, ?_⟩
    by_cases ha : (g.Of.any fun k => !isI k g.Procs.length) = true
    · rw [if_pos ha]
      have := notAny (fun k => isI k g.Procs.length) g.Of
      rw [ha] at this
      simp [headsOk, ← this]
    · rw [if_neg ha]
      have ha2 : g.Of.all (fun k => isI k g.Procs.length) = true := by rw [← notAny]; simpa using ha
      refine ⟨_, pairLoop hg.procs h4 h5, ?_⟩
      by_cases hp : (upto g.Procs.length).all (pairOk g) = true
      · rw [hp]
        obtain ⟨t, ht, he⟩ := containsFunc (q := fun x0_ y_ => graph_procsRight_2.f x0_ (g.Procs.length : Int) y_) (b := slices_IndexFunc_Site.b1 g.Sites (fun x0_ y_ => graph_procsRight_2.f x0_ (g.Procs.length : Int) y_)) (fun s => !isI s.Proc g.Procs.length) hg.sites (fun x _ => ⟨_, graph_in.ok _ _, rfl⟩) rfl
        refine ⟨_, fun _ => ⟨t, ht, he⟩, ?_⟩
        rw [notAny (fun s : TSite => isI s.Proc g.Procs.length)]
        simp [headsOk, hb', ha2, hp]
      · have hp2 : (upto g.Procs.length).all (pairOk g) = false := by simpa using hp
        rw [hp2]
        show headsOk g = false
        simp only [headsOk, hp2, Bool.false_and, Bool.and_false]
end Go.RM.Tryd
namespace Go.RM.Tryd
open Go.RM
set_option linter.unusedVariables false
set_option linter.unusedSimpArgs false
def kindOk (g : TGraph) (s : TStep) : Bool :=
  if s.Kind = 1 then s.X == 0 && (s.Y == 0 && (s.K == 0 && s.Site == 0))
  else if s.Kind = 2 then isI s.X g.Vars.length && (s.Y == 0 && s.Site == 0)
  else if s.Kind = 3 then isI s.X g.Vars.length && (isI s.Y g.Vars.length && (s.K == 0 && s.Site == 0))
  else if s.Kind = 4 then isI s.X g.Vars.length && (s.Y == 0 && (s.K == 0 && s.Site == 0))
  else if s.Kind = 5 then isI s.X g.Vars.length && (s.Y == 0 && (s.K == 0 && s.Site == 0))
  else if s.Kind = 6 then isI s.X g.Vars.length && (s.Y == 0 && (s.K == 0 && s.Site == 0))
  else if s.Kind = 8 then isI s.Site g.Sites.length && ((rdl g.Sites s.Site).From == s.From && ((rdl g.Sites s.Site).Back == s.To && (s.X == 0 && (s.Y == 0 && s.K == 0))))
  else false
def edgeOk (g : TGraph) (s : TStep) : Bool := isI s.From g.Of.length && (isI s.To g.Of.length && rdl g.Of s.From == rdl g.Of s.To)
def stepOk (g : TGraph) (s : TStep) : Bool := edgeOk g s && kindOk g s
theorem edge_not {g : TGraph} {s : TStep} : ((!isI s.From g.Of.length) || ((!isI s.To g.Of.length) || (rdl g.Of s.From != rdl g.Of s.To))) = !edgeOk g s := by
  simp [edgeOk, bne, Bool.not_and]
theorem graph_stepRight.ok {g : TGraph} {s : TStep} : graph_stepRight.f g s (stepOk g s) := by
  refine ⟨_, graph_in.ok _ _, _, fun _ => graph_in.ok _ _, fun a _ => isI_R a, fun _ b => isI_R b, ?_⟩
  rw [edge_not]
  by_cases hc : edgeOk g s = true
  · rw [if_neg (by simp [hc])]
    have e : stepOk g s = kindOk g s := by simp [stepOk, hc]
    rw [e]
    refine ⟨_, graph_in.ok _ _, _, graph_in.ok _ _, ?_⟩
    unfold kindOk
    by_cases h1 : s.Kind = 1
    · rw [if_pos h1, if_pos h1]; simp
    rw [if_neg h1, if_neg h1]
    by_cases h2 : s.Kind = 2
    · rw [if_pos h2, if_pos h2]; show _ = _; simp
    rw [if_neg h2, if_neg h2]
    by_cases h4 : s.Kind = 4
    · rw [if_pos h4]
      have : (s.Kind == 4) = true := by simp [h4]
      rw [this, if_neg (by omega), if_pos h4]
      show _ = _; simp
    rw [if_neg h4]
    by_cases h5 : s.Kind = 5
    · rw [if_pos h5]
      have : (s.Kind == 5) = true := by simp [h5]
      rw [this, if_neg (by omega), if_neg h4, if_pos h5]
      show _ = _; simp
    rw [if_neg h5]
    by_cases h6 : s.Kind = 6
    · have : (s.Kind == 6) = true := by simp [h6]
      rw [this, if_neg (by omega), if_neg h4, if_neg h5, if_pos h6]
      show _ = _; simp
    have : (s.Kind == 6) = false := by simp [h6]
    rw [this]
    show if s.Kind = 3 then _ else _
    by_cases h3 : s.Kind = 3
    · rw [if_pos h3, if_pos h3]; show _ = _; simp
    rw [if_neg h3, if_neg h3, if_neg h4, if_neg h5, if_neg h6]
    by_cases h8 : s.Kind = 8
    · rw [if_pos h8, if_pos h8]
      refine ⟨_, graph_in.ok _ _, fun a => isI_R a, fun a _ => isI_R a, ?_⟩
      by_cases hs : ((!isI s.Site g.Sites.length) || ((!((rdl g.Sites s.Site).From == s.From)) || ((rdl g.Sites s.Site).Back != s.To))) = true
      · rw [if_pos hs]
        rw [← Bool.not_eq_true]
        intro hk
        simp only [Bool.and_eq_true, beq_iff_eq] at hk
        simp [hk.1, hk.2.1, hk.2.2.1] at hs
      · rw [if_neg hs]
        simp only [Bool.or_eq_true, Bool.not_eq_true', bne_iff_ne, ne_eq, not_or, Bool.not_eq_false, Decidable.not_not, beq_iff_eq] at hs
        simp [hs.1, hs.2.1, hs.2.2]
    · rw [if_neg h8, if_neg h8]
  · rw [if_pos (by simpa using hc)]
    have : edgeOk g s = false := by simpa using hc
    simp [stepOk, this]
end Go.RM.Tryd
namespace Go.RM.Tryd
open Go.RM
set_option linter.unusedVariables false
set_option linter.unusedSimpArgs false
def nextOk (g : TGraph) (s : TStep) (c : Int) : Bool := stepOk g s && (!(s.Kind == 8) || s.Site == c)
def nextC (s : TStep) (c : Int) : Int := if s.Kind = 8 then c + 1 else c
def stepsO (g : TGraph) : List TStep → Int → Option Int
  | [], c => some c
  | s :: l, c => if nextOk g s c = true then stepsO g l (nextC s c) else none
def pointsOk (g : TGraph) : Bool := g.Points.all fun p => isI p.Node g.Of.length
def sinkOk (g : TGraph) (s : TSink) : Bool := isI s.Node g.Of.length && isI s.X g.Vars.length
def gOk (g : TGraph) : Bool := headsOk g && (decide (stepsO g g.Steps 0 = some (g.Sites.length : Int)) && (pointsOk g && g.Sinks.all (sinkOk g)))
def chkG (g : TGraph) : Int := if gOk g = true then 0 else 213
def progF (g : TGraph) : List TStep → Bool → Int → Bool × Int
  | [], ok, c => (ok, c)
  | s :: l, ok, c => if ok = true then progF g l (nextOk g s c) (nextC s c) else (ok, c)
theorem progF_no (g : TGraph) (l : List TStep) (c : Int) : progF g l false c = (false, c) := by
  cases l with
  | nil => rfl
  | cons s l => simp [progF]
theorem progF_steps (g : TGraph) (n : Int) : ∀ (l : List TStep) (ok : Bool) (c : Int), ((progF g l ok c).1 && ((progF g l ok c).2 == n)) = (ok && decide (stepsO g l c = some n))
  | l, false, c => by rw [progF_no]; rfl
  | [], true, c => by simp only [progF, stepsO, Option.some.injEq]; rfl
  | s :: l, true, c => by
    simp only [progF, stepsO, if_true]
    rw [progF_steps g n l]
    by_cases h : nextOk g s c = true
    · simp [h]
    · have h2 : nextOk g s c = false := by simpa using h
      simp [h2]
theorem nextC_rng {s : TStep} {c i : Int} (h0 : 0 ≤ c) (h1 : c ≤ i) : 0 ≤ nextC s c ∧ nextC s c ≤ i + 1 := by
  unfold nextC; split <;> omega
theorem stepsLoop {g : TGraph} (hg : GLen g) (ok : Bool) : Loop (graph_Check.b1 g) (ok, 0, 0) (.go (progF g g.Steps ok 0)) := by
  have hm : maxLen ≤ 9223372036854775807 := by decide
  have key := Loop.of (b := graph_Check.b1 g) (fun s => (.go (progF g (g.Steps.drop s.2.2.toNat) s.1 s.2.1) : Fin (Bool × Int) Int)) (fun s => ((g.Steps.length : Int) - s.2.2).toNat) (fun s => 0 ≤ s.2.2 ∧ 0 ≤ s.2.1 ∧ s.2.1 ≤ s.2.2) (fun s hi => by
    obtain ⟨ok, c, i⟩ := s
    obtain ⟨h0, h1, h2⟩ := hi
    simp only at h0 h1 h2 ⊢
    by_cases hc : (ok && (decide (i < (g.Steps.length : Int)))) = true
    · rw [Bool.and_eq_true, decide_eq_true_eq] at hc
      obtain ⟨rfl, hlt⟩ := hc
      have hl := hg.steps
      have hd := drop_rdl h0 hlt
      refine .inl ⟨(nextOk g (rdl g.Steps i) c, nextC (rdl g.Steps i) c, i + 1), ?_, by simp; omega, ⟨by simp; omega, (nextC_rng h1 h2).1, (nextC_rng h1 h2).2⟩, ?_⟩
      · show if (true && (decide (i < (g.Steps.length : Int)))) = true then _ else _
        rw [if_pos (by simpa using hlt)]
        refine ⟨⟨h0, hlt⟩, _, graph_stepRight.ok, ?_⟩
        have e1 := wrap_len (l := g.Steps) hg.steps h0 hlt
        by_cases h8 : (rdl g.Steps i).Kind = 8
        · rw [if_pos h8]
          show _ = _
          have e2 : IntKind.i64.wrap (c + 1) = c + 1 := wrap64 (by omega) (by omega)
          rw [e1, e2]
          simp [nextOk, nextC, h8]
        · rw [if_neg h8]
          show _ = _
          rw [e1]
          simp [nextOk, nextC, h8]
      · simp only [hd, progF, if_true]
    · refine .inr (.inl ⟨(ok, c), ?_, ?_⟩)
      · show if (ok && (decide (i < (g.Steps.length : Int)))) = true then _ else _
        rw [if_neg hc]
      · cases ok with
        | false => rw [progF_no]
        | true =>
          have : ¬ i < (g.Steps.length : Int) := by simpa using hc
          rw [drop_end h0 this]; rfl) (ok, 0, 0) ⟨by simp, by simp, by simp⟩
  simpa using key
theorem graph_Check.ok {g : TGraph} (hg : GLen g) : graph_Check.f g (chkG g) := by
  refine ⟨_, graph_procsRight.ok hg, _, stepsLoop hg _, ?_⟩
  have hs := progF_steps g (g.Sites.length : Int) g.Steps (headsOk g) 0
  generalize progF g g.Steps (headsOk g) 0 = x at hs
  obtain ⟨ok, c⟩ := x
  simp only at hs
  show ∃ t54_5 : Bool, _
  obtain ⟨t, ht, he⟩ := containsFunc (q := fun x0_ y_ => graph_Check_1.f x0_ g y_) (b := slices_IndexFunc_Point.b1 g.Points (fun x0_ y_ => graph_Check_1.f x0_ g y_)) (fun p => !isI p.Node g.Of.length) hg.points (fun x _ => ⟨_, graph_in.ok _ _, rfl⟩) rfl
  obtain ⟨t2, ht2, he2⟩ := containsFunc (q := fun x0_ y_ => graph_Check_2.f x0_ g y_) (b := slices_IndexFunc_Sink.b1 g.Sinks (fun x0_ y_ => graph_Check_2.f x0_ g y_)) (fun s => !sinkOk g s) hg.sinks (fun x _ => ⟨_, graph_in.ok _ _, _, fun _ => graph_in.ok _ _, by simp [sinkOk, Bool.not_and]⟩) rfl
  refine ⟨_, fun _ => ⟨t, ht, he⟩, _, fun _ => ⟨t2, ht2, he2⟩, ?_⟩
  have e1 := notAny (fun p : TPoint => isI p.Node g.Of.length) g.Points
  have e2 := notAny (sinkOk g) g.Sinks
  rw [hs, e1, e2]
  have eq : (headsOk g && decide (stepsO g g.Steps 0 = some (g.Sites.length : Int)) && (g.Points.all fun p => isI p.Node g.Of.length) && g.Sinks.all (sinkOk g)) = gOk g := by
    simp only [gOk, pointsOk, Bool.and_assoc]
  rw [eq]
  unfold chkG
  split <;> rfl
end Go.RM.Tryd
namespace Go.RM.Tryd
open Go.RM
set_option linter.unusedVariables false
set_option linter.unusedSimpArgs false
theorem stepsO_all {g : TGraph} : ∀ {l : List TStep} {c n : Int}, stepsO g l c = some n → ∀ s ∈ l, stepOk g s = true
  | [], c, n, h, s, hs => by cases hs
  | x :: l, c, n, h, s, hs => by
    unfold stepsO at h
    split at h
    · rename_i hn
      simp only [nextOk, Bool.and_eq_true] at hn
      cases hs with
      | head => exact hn.1
      | tail _ hs => exact stepsO_all h s hs
    · cases h
theorem stepsO_site {g : TGraph} : ∀ {l : List TStep} {c n : Int}, stepsO g l c = some n → ∀ k, c ≤ k → k < n → ∃ s ∈ l, s.Kind = 8 ∧ s.Site = k ∧ stepOk g s = true
  | [], c, n, h, k, h0, h1 => by
    injection h with h; omega
  | x :: l, c, n, h, k, h0, h1 => by
    unfold stepsO at h
    split at h
    · rename_i hn
      simp only [nextOk, Bool.and_eq_true, Bool.or_eq_true, Bool.not_eq_true', beq_eq_false_iff_ne, ne_eq, beq_iff_eq] at hn
      by_cases h8 : x.Kind = 8
      · have hs : x.Site = c := by
          rcases hn.2 with h | h
          · exact (h h8).elim
          · exact h
        by_cases hk : k = c
        · exact ⟨x, .head _, h8, by omega, hn.1⟩
        · have e : nextC x c = c + 1 := by simp [nextC, h8]
          rw [e] at h
          obtain ⟨s, hs, hr⟩ := stepsO_site h k (by omega) h1
          exact ⟨s, .tail _ hs, hr⟩
      · have e : nextC x c = c := by simp [nextC, h8]
        rw [e] at h
        obtain ⟨s, hs, hr⟩ := stepsO_site h k h0 h1
        exact ⟨s, .tail _ hs, hr⟩
    · cases h
structure GOk (g : TGraph) : Prop where
  vars : g.Vars.length ≤ 64
  entry : g.Entry.length = g.Procs.length
  exit : g.Exit.length = g.Procs.length
  main : isI g.Main g.Procs.length = true
  of_ : ∀ i, isI i g.Of.length = true → isI (rdl g.Of i) g.Procs.length = true
  ent : ∀ q, isI q g.Procs.length = true → isI (rdl g.Entry q) g.Of.length = true ∧ rdl g.Of (rdl g.Entry q) = q
  step : ∀ i, isI i g.Steps.length = true → stepOk g (rdl g.Steps i) = true
  proc : ∀ k, isI k g.Sites.length = true → isI (rdl g.Sites k).Proc g.Procs.length = true
  edge : ∀ k, isI k g.Sites.length = true → isI (rdl g.Sites k).From g.Of.length = true ∧ isI (rdl g.Sites k).Back g.Of.length = true ∧ rdl g.Of (rdl g.Sites k).From = rdl g.Of (rdl g.Sites k).Back
  sink : ∀ k, isI k g.Sinks.length = true → sinkOk g (rdl g.Sinks k) = true
theorem gOk.of {g : TGraph} (h : gOk g = true) : GOk g := by
  simp only [gOk, headsOk, Bool.and_eq_true, Bool.not_eq_true', decide_eq_true_eq] at h
  obtain ⟨⟨hb, hs, ho, hp, hst⟩, hsteps, hpo, hsi⟩ := h
  obtain ⟨h1, h2, h3, h4, h5, h6, h7⟩ := fstBad_not hb
  rw [List.all_eq_true] at ho hp hst hsi
  refine ⟨h1, h4, h5, h7, fun i hi => ?_, fun q hq => ?_, fun i hi => ?_, fun k hk => ?_, fun k hk => ?_, fun k hk => ?_⟩
  · have := isI_iff.1 hi
    exact ho _ (rdl_mem this.1 this.2)
  · have hq2 := isI_iff.1 hq
    have hm := hp (rdl (upto g.Procs.length) q) (rdl_mem hq2.1 (by rw [upto_len]; exact hq2.2))
    rw [rdl_upto hq2.1 hq2.2] at hm
    simp only [pairOk, endOk, Bool.and_eq_true, beq_iff_eq] at hm
    exact hm.1
  · have := isI_iff.1 hi
    exact stepsO_all hsteps _ (rdl_mem this.1 this.2)
  · have := isI_iff.1 hk
    exact hst _ (rdl_mem this.1 this.2)
  · have := isI_iff.1 hk
    obtain ⟨s, hs, h8, hk2, hok⟩ := stepsO_site hsteps k this.1 this.2
    simp only [stepOk, edgeOk, kindOk, h8, Bool.and_eq_true, beq_iff_eq] at hok
    obtain ⟨⟨e1, e2, e3⟩, hk3⟩ := hok
    simp at hk3
    obtain ⟨_, hf, hb, _⟩ := hk3
    rw [← hk2, hf, hb]
    exact ⟨e1, e2, e3⟩
  · have := isI_iff.1 hk
    exact hsi _ (rdl_mem this.1 this.2)
def siteOk (g : TGraph) (k at_ : Int) : Bool := isI k g.Sites.length && (rdl g.Sites k).Proc == at_
def behindK (g : TGraph) (k : Int) : Int := rdl g.Of (rdl g.Sites k).From
def stackF (g : TGraph) : List Int → Int → Bool
  | [], _ => true
  | k :: l, at_ => siteOk g k at_ && stackF g l (behindK g k)
def markOk (g : TGraph) (s : TState) : Bool := if g.Vars.length < 64 then decide (shrI .u64 s.Marks g.Vars.length = 0) else true
def stateOk (g : TGraph) (s : TState) : Bool := isI s.Node g.Of.length && (decide (s.Env.length = g.Vars.length) && (markOk g s && (decide (s.Stack.length ≤ 4096) && stackF g s.Stack (rdl g.Of s.Node))))
def chkS (g : TGraph) (s : TState) : Int := if gOk g = true then (if stateOk g s = true then 0 else 220) else 213
structure SLen (s : TState) : Prop where
  marks : InM s.Marks
  env : s.Env.length ≤ 17592186043904
  stack : s.Stack.length ≤ 17592186043904
theorem TState.Fit.len {s : TState} (h : s.Fit) : SLen s := by
  obtain ⟨_, h1, h2, h3⟩ := h
  exact ⟨wfu64 h2, by omega, by omega⟩
theorem SLen.stackM {s : TState} (h : SLen s) : s.Stack.length ≤ maxLen := by
  have := h.stack
  have hm : (17592186043904 : Nat) ≤ maxLen := by decide
  omega
def stepS {ρ : Type} (g : TGraph) (rv : ρ) (i : Int) (k at_ : Int) : Fin Int ρ := if siteOk g k at_ = true then .go (behindK g k) else .ret rv
theorem foldF_stack {ρ : Type} (g : TGraph) (rv : ρ) : ∀ (l : List Int) (i at_ : Int), ((foldF (stepS g rv) l i at_).map (fun _ => ()) : Fin Unit ρ) = if stackF g l at_ = true then .go () else .ret rv
  | [], i, at_ => rfl
  | k :: l, i, at_ => by
    unfold foldF stepS stackF
    by_cases h : siteOk g k at_ = true
    · rw [if_pos h, h, Bool.true_and]; exact foldF_stack g rv l (i + 1) _
    · rw [if_neg h]
      have : siteOk g k at_ = false := by simpa using h
      rw [this]; rfl
theorem site_not {g : TGraph} {k at_ : Int} : ((decide (k < 0)) || ((decide (k ≥ (g.Sites.length : Int))) || ((rdl g.Sites k).Proc != at_))) = !siteOk g k at_ := by
  have e : isI k g.Sites.length = (!decide (k < 0) && !decide (k ≥ (g.Sites.length : Int))) := by
    rw [Bool.eq_iff_iff]
    simp [isI]
  simp [siteOk, e, bne, Bool.not_and, Bool.or_assoc]
theorem stackLoop {ρ : Type} {g : TGraph} {s : TState} (hG : GOk g) (hl : s.Stack.length ≤ maxLen) (rv : ρ) (b : (Int × Int) → Rnd (Int × Int) Unit ρ → Prop)
    (hb : b = fun (x1, x2) z1 => if x2 < (s.Stack.length : Int) then (((InR x2 s.Stack.length)) ∧ (¬ ((rdl s.Stack x2) < 0) → ¬ ((rdl s.Stack x2) ≥ (g.Sites.length : Int)) → (InR (rdl s.Stack x2) g.Sites.length)) ∧ if ((decide ((rdl s.Stack x2) < 0)) || ((decide ((rdl s.Stack x2) ≥ (g.Sites.length : Int))) || ((rdl g.Sites (rdl s.Stack x2)).Proc != x1))) = true then (z1 = .ret rv) else (((InR (rdl s.Stack x2) g.Sites.length)) ∧ ((InR ((rdl g.Sites (rdl s.Stack x2)).From) g.Of.length)) ∧ z1 = .next ((rdl g.Of ((rdl g.Sites (rdl s.Stack x2)).From)), (IntKind.i64.wrap (x2 + 1))))) else (z1 = .exit ())) (at_ : Int) :
    Loop b (at_, 0) (if stackF g s.Stack at_ = true then .go () else .ret rv) := by
  have hL := foldLoop (l := s.Stack) (b := b) (fun i at_ => (at_, i)) (fun _ => ()) (stepS g rv) (fun _ _ => True) (fun i a h0 hlt _ => by
    unfold stepS
    have pre : ∀ z, (if ((decide ((rdl s.Stack i) < 0)) || ((decide ((rdl s.Stack i) ≥ (g.Sites.length : Int))) || ((rdl g.Sites (rdl s.Stack i)).Proc != a))) = true then (z = .ret rv) else (((InR (rdl s.Stack i) g.Sites.length)) ∧ ((InR ((rdl g.Sites (rdl s.Stack i)).From) g.Of.length)) ∧ z = .next ((rdl g.Of ((rdl g.Sites (rdl s.Stack i)).From)), (IntKind.i64.wrap (i + 1))))) → b (a, i) z := fun z hz => by
      rw [hb]
      show if i < (s.Stack.length : Int) then _ else _
      rw [if_pos hlt]
      exact ⟨⟨h0, hlt⟩, fun a b => ⟨by omega, by omega⟩, hz⟩
    by_cases h : siteOk g (rdl s.Stack i) a = true
    · rw [if_pos h]
      refine ⟨pre _ ?_, trivial⟩
      rw [site_not, h, if_neg (by simp)]
      simp only [siteOk, Bool.and_eq_true] at h
      exact ⟨isI_R h.1, isI_R (hG.edge _ h.1).1, by rw [wrap_len hl h0 hlt]; rfl⟩
    · rw [if_neg h]
      refine pre _ ?_
      have : siteOk g (rdl s.Stack i) a = false := by simpa using h
      rw [site_not, this, if_pos (show (!false) = true from rfl)]) (fun a _ => by
    rw [hb]
    show if (s.Stack.length : Int) < (s.Stack.length : Int) then _ else _
    rw [if_neg (by omega)]) at_ trivial
  rw [foldF_stack] at hL
  exact hL.1
def topOk (g : TGraph) (s : TState) : Bool := isI s.Node g.Of.length && (decide (s.Env.length = g.Vars.length) && (markOk g s && decide (s.Stack.length ≤ 4096)))
theorem stateOk_top (g : TGraph) (s : TState) : stateOk g s = (topOk g s && stackF g s.Stack (rdl g.Of s.Node)) := by
  simp only [stateOk, topOk, Bool.and_assoc]
theorem top_not {g : TGraph} {s : TState} : ((decide (s.Node < 0)) || ((decide (s.Node ≥ (g.Of.length : Int))) || ((!((s.Env.length : Int) == (g.Vars.length : Int))) || (bif (decide ((g.Vars.length : Int) < 64)) then ((!((shrI .u64 s.Marks (g.Vars.length : Int)) == 0)) || (decide ((s.Stack.length : Int) > 4096))) else (decide ((s.Stack.length : Int) > 4096)))))) = !topOk g s := by
  have e : isI s.Node g.Of.length = (!decide (s.Node < 0) && !decide (s.Node ≥ (g.Of.length : Int))) := by
    rw [Bool.eq_iff_iff]
    simp [isI]
  have e2 : ((s.Env.length : Int) == (g.Vars.length : Int)) = decide (s.Env.length = g.Vars.length) := by
    rw [Bool.eq_iff_iff]; simp; omega
  have e3 : decide ((s.Stack.length : Int) > 4096) = !decide (s.Stack.length ≤ 4096) := by
    rw [Bool.eq_iff_iff]; simp; omega
  unfold topOk markOk
  rw [e, e2, e3]
  by_cases hv : g.Vars.length < 64
  · have : decide ((g.Vars.length : Int) < 64) = true := by simp; omega
    rw [this, if_pos hv]
    simp only [cond_true, Bool.not_and, Bool.not_not, Bool.or_assoc]
    congr 4
  · have : decide ((g.Vars.length : Int) < 64) = false := by simp; omega
    rw [this, if_neg hv]
    simp only [cond_false, Bool.not_and, Bool.not_not, Bool.or_assoc, Bool.not_true, Bool.false_or]
theorem frames_Check.ok {g : TGraph} {s : TState} (hg : GLen g) (hs : SLen s) : frames_Check.f g s (chkS g s) := by
  refine ⟨_, graph_Check.ok hg, ?_⟩
  unfold chkG chkS
  by_cases hk : gOk g = true
  · rw [if_pos hk, if_pos rfl]
    have hG := gOk.of hk
    refine ⟨fun _ _ _ _ => Int.natCast_nonneg _, ?_⟩
    rw [top_not, if_pos hk, stateOk_top]
    by_cases ht : topOk g s = true
    · rw [ht, if_neg (by simp), Bool.true_and]
      refine ⟨isI_R (by simp only [topOk, Bool.and_eq_true] at ht; exact ht.1), _, stackLoop hG hs.stackM 220 _ rfl _, ?_⟩
      by_cases hq : stackF g s.Stack (rdl g.Of s.Node) = true
      · rw [if_pos hq, if_pos hq]; rfl
      · rw [if_neg hq, if_neg hq]; rfl
    · have : topOk g s = false := by simpa using ht
      rw [this, if_pos (show (!false) = true from rfl)]; rfl
  · rw [if_neg hk, if_neg (by decide), if_neg hk]
def hiOk (m : Int) (i : Nat) : Bool := (List.range 64).all fun j => decide (j < i) || !bitM m j
theorem hiOk_iff {m : Int} {i : Nat} : hiOk m i = true ↔ ∀ j, i ≤ j → j < 64 → bitM m j = false := by
  unfold hiOk
  rw [List.all_eq_true]
  constructor
  · intro h j h0 h1
    have := h j (List.mem_range.2 h1)
    simp only [Bool.or_eq_true, decide_eq_true_eq, Bool.not_eq_true'] at this
    rcases this with h | h
    · omega
    · exact h
  · intro h j hj
    simp only [Bool.or_eq_true, decide_eq_true_eq, Bool.not_eq_true']
    by_cases hji : j < i
    · exact .inl hji
    · exact .inr (h j (by omega) (List.mem_range.1 hj))
theorem markOk_hi {g : TGraph} {s : TState} (hv : g.Vars.length ≤ 64) (hm : InM s.Marks) : markOk g s = hiOk s.Marks g.Vars.length := by
  unfold markOk
  rw [Bool.eq_iff_iff, hiOk_iff]
  by_cases h : g.Vars.length < 64
  · rw [if_pos h, decide_eq_true_eq, shr_zero hm hv]
    constructor
    · exact fun hh j h0 _ => hh j h0
    · intro hh j h0
      by_cases hj : j < 64
      · exact hh j h0 hj
      · exact bitM_high hm (by omega)
  · rw [if_neg h]
    simp
    intro j h0 h1; omega
end Go.RM.Tryd
namespace Go.RM.Tryd
open Go.RM
set_option linter.unusedVariables false
set_option linter.unusedSimpArgs false
def noneS : TState := ⟨0, [], 0, []⟩
def setM (m x : Int) (is : Bool) : Int := if is = true then bitOp .or .u64 m (shlI .u64 1 x) else bitOp .andNot .u64 m (shlI .u64 1 x)
def overM (g : TGraph) (s : TState) : Bool := (s.Node == (rdl g.Exit (rdl g.Of s.Node))) && (decide ((s.Stack.length : Int) > 0))
def moveM (g : TGraph) (s : TState) (m : TMove) (x : TStep) : TState × Int :=
  if x.Kind = 2 then (⟨x.To, setl s.Env x.X x.K, setM s.Marks x.X false, s.Stack⟩, 0)
  else if x.Kind = 4 then (⟨x.To, setl s.Env x.X m.Draw, setM s.Marks x.X false, s.Stack⟩, 0)
  else if x.Kind = 3 then (⟨x.To, setl s.Env x.X (rdl s.Env x.Y), setM s.Marks x.X ((bitOp .and .u64 (shrI .u64 s.Marks x.Y) 1) == 1), s.Stack⟩, 0)
  else if x.Kind = 5 then (⟨x.To, s.Env, setM s.Marks x.X true, s.Stack⟩, 0)
  else if x.Kind = 6 then (⟨x.To, s.Env, setM s.Marks x.X false, s.Stack⟩, 0)
  else if x.Kind = 8 then (if (s.Stack.length : Int) ≥ 4096 then (noneS, 2) else (⟨rdl g.Entry (rdl g.Sites x.Site).Proc, s.Env, s.Marks, [x.Site] ++ s.Stack⟩, 0))
  else (⟨x.To, s.Env, s.Marks, s.Stack⟩, 0)
def doM (g : TGraph) (s : TState) (m : TMove) : TState × Int :=
  if m.Step = -1 then (if ((!(m.Draw == 0)) || (!overM g s)) = true then (noneS, 221) else (⟨(rdl g.Sites (rdl s.Stack 0)).Back, s.Env, s.Marks, cutl s.Stack 1 (s.Stack.length : Int)⟩, 0))
  else if ((decide (m.Step < 0)) || (decide (m.Step ≥ (g.Steps.length : Int)))) = true then (noneS, 221)
  else if ((!((rdl g.Steps m.Step).From == s.Node)) || ((!(m.Draw == 0)) && ((rdl g.Steps m.Step).Kind != 4))) = true then (noneS, 221)
  else moveM g s m (rdl g.Steps m.Step)
structure SOk (g : TGraph) (s : TState) : Prop where
  node : isI s.Node g.Of.length = true
  env : s.Env.length = g.Vars.length
  mark : markOk g s = true
  short : s.Stack.length ≤ 4096
  stack : stackF g s.Stack (rdl g.Of s.Node) = true
  marks : InM s.Marks
theorem SOk.of {g : TGraph} {s : TState} (h : stateOk g s = true) (hm : InM s.Marks) : SOk g s := by
  simp only [stateOk, Bool.and_eq_true, decide_eq_true_eq] at h
  exact ⟨h.1, h.2.1, h.2.2.1, h.2.2.2.1, h.2.2.2.2, hm⟩
theorem SOk.len {g : TGraph} {s : TState} (hG : GOk g) (h : SOk g s) : SLen s := ⟨h.marks, by have := hG.vars; have := h.env; omega, by have := h.short; omega⟩
theorem slices_Clone_int.ok {a : List Int} (h : a.length ≤ 17592186043904) : slices_Clone_int.f a a := by
  unfold slices_Clone_int.f
  by_cases h0 : a.length = 0
  · rw [if_pos h0]
    have e := List.eq_nil_of_length_eq_zero h0
    subst e
    intro z k
    split
    · rfl
    · exact ⟨by unfold Fits; omega, rfl⟩
  · rw [if_neg h0]
    exact ⟨by unfold Fits; omega, rfl⟩
theorem slices_Clone_int64.ok {a : List Int} (h : a.length ≤ 17592186043904) : slices_Clone_int64.f a a := by
  unfold slices_Clone_int64.f
  by_cases h0 : a.length = 0
  · rw [if_pos h0]
    have e := List.eq_nil_of_length_eq_zero h0
    subst e
    intro z k
    split
    · rfl
    · exact ⟨by unfold Fits; omega, rfl⟩
  · rw [if_neg h0]
    exact ⟨by unfold Fits; omega, rfl⟩
theorem slices_Clone_int64_o0.ok {a : List Int} (h : a.length ≤ 17592186043904) : slices_Clone_int64_o0.f a a := by
  unfold slices_Clone_int64_o0.f
  by_cases h0 : a.length = 0
  · rw [if_pos h0]
    have e := List.eq_nil_of_length_eq_zero h0
    subst e
    intro z k
    split
    · rfl
    · exact ⟨by unfold Fits; omega, rfl⟩
  · rw [if_neg h0]
    exact ⟨by unfold Fits; omega, rfl⟩
theorem frames_set.ok {m x : Int} {is : Bool} (h : 0 ≤ x) : frames_set.f m x is (setM m x is) := by
  unfold frames_set.f setM
  by_cases hi : is = true
  · rw [if_pos hi, if_pos hi]; exact ⟨h, rfl⟩
  · rw [if_neg hi, if_neg hi]; exact ⟨h, rfl⟩
theorem frames_over.ok {g : TGraph} {s : TState} (hG : GOk g) (h : SOk g s) : frames_over.f g s (overM g s) :=
  ⟨isI_R h.node, by have := hG.of_ _ h.node; rw [← hG.exit] at this; exact isI_R this, rfl⟩
theorem kind_X {g : TGraph} {x : TStep} (h : stepOk g x = true) (hk : x.Kind = 2 ∨ x.Kind = 3 ∨ x.Kind = 4 ∨ x.Kind = 5 ∨ x.Kind = 6) : isI x.X g.Vars.length = true := by
  simp only [stepOk, kindOk, Bool.and_eq_true] at h
  have h := h.2
  rcases hk with hk | hk | hk | hk | hk <;> simp [hk] at h <;> exact h.1
theorem kind_Y {g : TGraph} {x : TStep} (h : stepOk g x = true) (hk : x.Kind = 3) : isI x.Y g.Vars.length = true := by
  simp only [stepOk, kindOk, Bool.and_eq_true] at h
  have h := h.2
  simp [hk] at h; exact h.2.1
theorem kind_site {g : TGraph} {x : TStep} (h : stepOk g x = true) (hk : x.Kind = 8) : isI x.Site g.Sites.length = true ∧ (rdl g.Sites x.Site).From = x.From := by
  simp only [stepOk, kindOk, Bool.and_eq_true] at h
  have h := h.2
  simp [hk] at h; exact ⟨h.1, h.2.1⟩
theorem kind_edge {g : TGraph} {x : TStep} (h : stepOk g x = true) : isI x.To g.Of.length = true ∧ rdl g.Of x.From = rdl g.Of x.To := by
  simp only [stepOk, edgeOk, Bool.and_eq_true, beq_iff_eq] at h
  exact ⟨h.1.2.1, h.1.2.2⟩
theorem over_top {g : TGraph} {s : TState} (h : overM g s = true) : 0 < s.Stack.length := by
  simp only [overM, Bool.and_eq_true, decide_eq_true_eq] at h; omega
theorem top_site {g : TGraph} {s : TState} (h : SOk g s) (h0 : 0 < s.Stack.length) : siteOk g (rdl s.Stack 0) (rdl g.Of s.Node) = true ∧ stackF g (s.Stack.drop 1) (behindK g (rdl s.Stack 0)) = true := by
  have hq := h.stack
  cases hl : s.Stack with
  | nil => rw [hl] at h0; simp at h0
  | cons k l =>
    rw [hl] at hq
    simp only [stackF, Bool.and_eq_true] at hq
    rw [rdl0]; exact hq
theorem step_at {g : TGraph} {m : TMove} (h1 : ¬ m.Step = -1) (h : ¬ ((decide (m.Step < 0)) || (decide (m.Step ≥ (g.Steps.length : Int)))) = true) : isI m.Step g.Steps.length = true := by
  simp at h
  exact isI_iff.2 ⟨h.1, h.2⟩
theorem frames_do.ok {g : TGraph} {s : TState} (hG : GOk g) (hS : SOk g s) (m : TMove) : frames_do.f g s m (doM g s m) := by
  have hl := hS.len hG
  have hv := hG.vars
  refine ⟨_, slices_Clone_int64_o0.ok hl.env, _, slices_Clone_int.ok hl.stack, ?_⟩
  unfold doM
  by_cases h1 : m.Step = -1
  · rw [if_pos h1, if_pos h1]
    refine ⟨_, fun _ => frames_over.ok hG hS, ?_⟩
    by_cases hc : ((!(m.Draw == 0)) || (!overM g s)) = true
    · rw [if_pos hc, if_pos hc]; rfl
    · rw [if_neg hc, if_neg hc]
      have ho : overM g s = true := by simp at hc; exact hc.2
      have h0 := over_top ho
      have ht := (top_site hS h0).1
      simp only [siteOk, Bool.and_eq_true] at ht
      exact ⟨⟨by omega, by omega⟩, isI_R ht.1, ⟨by omega, by omega, by omega⟩, rfl⟩
  rw [if_neg h1, if_neg h1]
  by_cases h2 : ((decide (m.Step < 0)) || (decide (m.Step ≥ (g.Steps.length : Int)))) = true
  · rw [if_pos h2, if_pos h2]; rfl
  rw [if_neg h2, if_neg h2]
  have hi := step_at h1 h2
  have hok := hG.step _ hi
  refine ⟨isI_R hi, ?_⟩
  by_cases h3 : ((!((rdl g.Steps m.Step).From == s.Node)) || ((!(m.Draw == 0)) && ((rdl g.Steps m.Step).Kind != 4))) = true
  · rw [if_pos h3, if_pos h3]; rfl
  rw [if_neg h3, if_neg h3]
  generalize hx : rdl g.Steps m.Step = x at hok
  have hX : (x.Kind = 2 ∨ x.Kind = 3 ∨ x.Kind = 4 ∨ x.Kind = 5 ∨ x.Kind = 6) → InR x.X s.Env.length := fun hk => by rw [hS.env]; exact isI_R (kind_X hok hk)
  unfold moveM
  by_cases k2 : x.Kind = 2
  · rw [if_pos k2, if_pos k2]
    have := hX (by omega)
    exact ⟨_, frames_set.ok this.1, this, rfl⟩
  rw [if_neg k2, if_neg k2]
  by_cases k4 : x.Kind = 4
  · rw [if_pos k4, if_pos k4]
    have := hX (by omega)
    exact ⟨_, frames_set.ok this.1, this, rfl⟩
  rw [if_neg k4, if_neg k4]
  by_cases k3 : x.Kind = 3
  · rw [if_pos k3, if_pos k3]
    have := hX (by omega)
    have hY : InR x.Y s.Env.length := by rw [hS.env]; exact isI_R (kind_Y hok k3)
    exact ⟨hY, hY.1, _, frames_set.ok this.1, this, rfl⟩
  rw [if_neg k3, if_neg k3]
  have hj : (x.Kind = 5 ∨ x.Kind = 6) → ∃ t33_7 : Int, (frames_set.f s.Marks x.X (x.Kind == 5) t33_7) ∧ ((⟨x.To, s.Env, setM s.Marks x.X (x.Kind == 5), s.Stack⟩ : TState), (0 : Int)) = ((TState.mk x.To s.Env t33_7 s.Stack), 0) := fun hk => ⟨_, frames_set.ok (hX (by omega)).1, rfl⟩
  by_cases k5 : x.Kind = 5
  · rw [if_pos k5, if_pos k5]
    have := hj (.inl k5)
    rw [show (x.Kind == 5) = true by simp [k5]] at this
    unfold frames_do.j1
    rw [hx, show (x.Kind == 5) = true by simp [k5]]
    exact this
  rw [if_neg k5, if_neg k5]
  by_cases k6 : x.Kind = 6
  · rw [if_pos k6, if_pos k6]
    have := hj (.inr k6)
    rw [show (x.Kind == 5) = false by simp [k5]] at this
    unfold frames_do.j1
    rw [hx, show (x.Kind == 5) = false by simp [k5]]
    exact this
  rw [if_neg k6, if_neg k6]
  by_cases k8 : x.Kind = 8
  · rw [if_pos k8, if_pos k8]
    by_cases h9 : (s.Stack.length : Int) ≥ 4096
    · rw [if_pos h9, if_pos h9]; rfl
    · rw [if_neg h9, if_neg h9]
      have hs := (kind_site hok k8).1
      have hp := hG.proc _ hs
      rw [← hG.entry] at hp
      exact ⟨isI_R hs, isI_R hp, by unfold Fits; simp; omega, rfl⟩
  · rw [if_neg k8, if_neg k8]
end Go.RM.Tryd
namespace Go.RM.Tryd
open Go.RM
set_option linter.unusedVariables false
set_option linter.unusedSimpArgs false
theorem setM_InM (m x : Int) (is : Bool) : InM (setM m x is) := by
  unfold setM
  split
  · exact or_InM _ _
  · exact andNot_InM _ _
theorem setM_bit {m x : Int} {is : Bool} (hm : InM m) (h0 : 0 ≤ x) (h1 : x < 64) {j : Nat} (hj : j ≠ x.toNat) : bitM (setM m x is) j = bitM m j := by
  unfold setM
  rw [one_shl h0 h1]
  have hp : InM (2 ^ x.toNat) := pow_InM (by omega)
  split
  · rw [bit_or hm hp, bit_pow, decide_eq_false (fun h => hj h.symm)]; simp
  · rw [bit_andNot hm hp, bit_pow, decide_eq_false (fun h => hj h.symm)]; simp
theorem mark_keep {g : TGraph} {s t : TState} {x : Int} {is : Bool} (hG : GOk g) (hm : InM s.Marks) (hx : isI x g.Vars.length = true) (hmk : markOk g s = true) (ht : t.Marks = setM s.Marks x is) : markOk g t = true := by
  have hv := hG.vars
  have hx2 := isI_iff.1 hx
  rw [markOk_hi hv hm, hiOk_iff] at hmk
  rw [markOk_hi hv (ht ▸ setM_InM _ _ _), hiOk_iff]
  intro j h0 h1
  rw [ht, setM_bit hm hx2.1 (by omega) (by omega)]
  exact hmk j h0 h1
theorem cut1 {α : Type} (l : List α) : cutl l 1 (l.length : Int) = l.drop 1 := by
  unfold cutl
  apply List.take_of_length_le
  simp
theorem setl_len {α : Type} (l : List α) (i : Int) (a : α) : (setl l i a).length = l.length := by simp [setl]
theorem doM_keep {g : TGraph} {s : TState} (hG : GOk g) (hS : SOk g s) (m : TMove) (h : (doM g s m).2 = 0) : SOk g (doM g s m).1 := by
  revert h
  unfold doM
  by_cases h1 : m.Step = -1
  · rw [if_pos h1]
    by_cases hc : ((!(m.Draw == 0)) || (!overM g s)) = true
    · rw [if_pos hc]; intro h; exact absurd h (by decide)
    · rw [if_neg hc]; intro _
      have ho : overM g s = true := by simp at hc; exact hc.2
      have h0 := over_top ho
      have ht := top_site hS h0
      have ht1 := ht.1
      simp only [siteOk, Bool.and_eq_true] at ht1
      have he := hG.edge _ ht1.1
      refine ⟨he.2.1, hS.env, hS.mark, ?_, ?_, hS.marks⟩
      · show (cutl s.Stack 1 (s.Stack.length : Int)).length ≤ 4096
        rw [cut1]; have := hS.short; simp; omega
      · show stackF g (cutl s.Stack 1 (s.Stack.length : Int)) _ = true
        rw [cut1]
        have := ht.2
        unfold behindK at this
        rw [he.2.2] at this
        exact this
  rw [if_neg h1]
  by_cases h2 : ((decide (m.Step < 0)) || (decide (m.Step ≥ (g.Steps.length : Int)))) = true
  · rw [if_pos h2]; intro h; exact absurd h (by decide)
  rw [if_neg h2]
  have hok := hG.step _ (step_at h1 h2)
  by_cases h3 : ((!((rdl g.Steps m.Step).From == s.Node)) || ((!(m.Draw == 0)) && ((rdl g.Steps m.Step).Kind != 4))) = true
  · rw [if_pos h3]; intro h; exact absurd h (by decide)
  rw [if_neg h3]
  have hfrom : (rdl g.Steps m.Step).From = s.Node := by
    simp at h3; exact h3.1
  generalize rdl g.Steps m.Step = x at hok hfrom
  have hed := kind_edge hok
  have hstack : stackF g s.Stack (rdl g.Of x.To) = true := by rw [← hed.2, hfrom]; exact hS.stack
  unfold moveM
  by_cases k2 : x.Kind = 2
  · rw [if_pos k2]; intro _
    exact ⟨hed.1, by show (setl _ _ _).length = _; rw [setl_len]; exact hS.env, mark_keep (is := false) hG hS.marks (kind_X hok (by omega)) hS.mark rfl, hS.short, hstack, setM_InM s.Marks x.X false⟩
  rw [if_neg k2]
  by_cases k4 : x.Kind = 4
  · rw [if_pos k4]; intro _
    exact ⟨hed.1, by show (setl _ _ _).length = _; rw [setl_len]; exact hS.env, mark_keep (is := false) hG hS.marks (kind_X hok (by omega)) hS.mark rfl, hS.short, hstack, setM_InM s.Marks x.X false⟩
  rw [if_neg k4]
  by_cases k3 : x.Kind = 3
  · rw [if_pos k3]; intro _
    exact ⟨hed.1, by show (setl _ _ _).length = _; rw [setl_len]; exact hS.env, mark_keep (is := ((bitOp .and .u64 (shrI .u64 s.Marks x.Y) 1) == 1)) hG hS.marks (kind_X hok (by omega)) hS.mark rfl, hS.short, hstack, setM_InM s.Marks x.X ((bitOp .and .u64 (shrI .u64 s.Marks x.Y) 1) == 1)⟩
  rw [if_neg k3]
  by_cases k5 : x.Kind = 5
  · rw [if_pos k5]; intro _
    exact ⟨hed.1, hS.env, mark_keep (is := true) hG hS.marks (kind_X hok (by omega)) hS.mark rfl, hS.short, hstack, setM_InM s.Marks x.X true⟩
  rw [if_neg k5]
  by_cases k6 : x.Kind = 6
  · rw [if_pos k6]; intro _
    exact ⟨hed.1, hS.env, mark_keep (is := false) hG hS.marks (kind_X hok (by omega)) hS.mark rfl, hS.short, hstack, setM_InM s.Marks x.X false⟩
  rw [if_neg k6]
  by_cases k8 : x.Kind = 8
  · rw [if_pos k8]
    by_cases h9 : (s.Stack.length : Int) ≥ 4096
    · rw [if_pos h9]; intro h; exact absurd h (by decide)
    · rw [if_neg h9]; intro _
      have hs := kind_site hok k8
      have hp := hG.proc _ hs.1
      have he := hG.ent _ hp
      refine ⟨he.1, hS.env, hS.mark, by show ([x.Site] ++ s.Stack).length ≤ 4096; simp; omega, ?_, hS.marks⟩
      show stackF g (x.Site :: s.Stack) _ = true
      unfold stackF siteOk behindK
      rw [hs.1, he.2, hs.2, hfrom]
      simp [hS.stack]
  · rw [if_neg k8]; intro _
    exact ⟨hed.1, hS.env, hS.mark, hS.short, hstack, hS.marks⟩
theorem chkS_ok {g : TGraph} {s : TState} (hs : SLen s) (h : chkS g s = 0) : GOk g ∧ SOk g s := by
  unfold chkS at h
  split at h
  · rename_i hg
    split at h
    · rename_i hst
      exact ⟨gOk.of hg, SOk.of hst hs.marks⟩
    · exact absurd h (by decide)
  · exact absurd h (by decide)
def stepRn (g : TGraph) (i : Int) (m : TMove) (s : TState) : Fin TState (TState × Int × Int) := if (doM g s m).2 = 0 then .go (doM g s m).1 else .ret (noneS, i, (doM g s m).2)
def endR : Fin TState (TState × Int × Int) → TState × Int × Int
  | .go t => (t, 0, 0)
  | .ret r => r
def runM (g : TGraph) (s : TState) (l : List TMove) : TState × Int × Int := if chkS g s = 0 then endR (foldF (stepRn g) l 0 s) else (noneS, 0, chkS g s)
abbrev RSt := Int × (List Int) × Int × (List Int)
theorem runLoop {g : TGraph} {s : TState} (hG : GOk g) (hS : SOk g s) {l : List TMove} (hl : l.length ≤ maxLen) (f : TGraph → TState → TMove → TState × Int → Prop) (hf : ∀ s m, SOk g s → f g s m (doM g s m))
    (b : (Int × (List Int) × Int × (List Int) × Int) → Rnd (Int × (List Int) × Int × (List Int) × Int) RSt (TState × Int × Int) → Prop)
    (hb : b = fun (x1, x2, x3, x4, x5) z1 => if x5 < (l.length : Int) then (((InR x5 l.length)) ∧ ∃ t22_3 : TState × Int, (f g (TState.mk x1 x2 x3 x4) (rdl l x5) t22_3) ∧ if t22_3.2 = 0 then (z1 = .next (t22_3.1.Node, t22_3.1.Env, t22_3.1.Marks, t22_3.1.Stack, (IntKind.i64.wrap (x5 + 1)))) else (z1 = .ret ((TState.mk 0 [] 0 []), x5, t22_3.2))) else (z1 = .exit (x1, x2, x3, x4))) :
    Loop b (s.Node, s.Env, s.Marks, s.Stack, 0) ((foldF (stepRn g) l 0 s).map (fun t => (t.Node, t.Env, t.Marks, t.Stack))) ∧ ∀ t, foldF (stepRn g) l 0 s = .go t → SOk g t := by
  refine foldLoop (l := l) (b := b) (fun i s => (s.Node, s.Env, s.Marks, s.Stack, i)) (fun t => (t.Node, t.Env, t.Marks, t.Stack)) (stepRn g) (fun _ s => SOk g s) (fun i s h0 hlt hi => ?_) (fun s _ => ?_) s hS
  · unfold stepRn
    have pre : ∀ z, (if (doM g s (rdl l i)).2 = 0 then (z = .next ((doM g s (rdl l i)).1.Node, (doM g s (rdl l i)).1.Env, (doM g s (rdl l i)).1.Marks, (doM g s (rdl l i)).1.Stack, (IntKind.i64.wrap (i + 1)))) else (z = .ret ((TState.mk 0 [] 0 []), i, (doM g s (rdl l i)).2))) → b (s.Node, s.Env, s.Marks, s.Stack, i) z := fun z hz => by
      rw [hb]
      show if i < (l.length : Int) then _ else _
      rw [if_pos hlt]
      exact ⟨⟨h0, hlt⟩, _, hf s _ hi, hz⟩
    by_cases h : (doM g s (rdl l i)).2 = 0
    · rw [if_pos h]
      exact ⟨pre _ (by rw [if_pos h, wrap_len hl h0 hlt]), doM_keep hG hi _ h⟩
    · rw [if_neg h]
      exact pre _ (by rw [if_neg h]; rfl)
  · rw [hb]
    show if (l.length : Int) < (l.length : Int) then _ else _
    rw [if_neg (by omega)]
theorem run_on {x : Fin TState (TState × Int × Int)} : (x.map (fun t => (t.Node, t.Env, t.Marks, t.Stack)) : Fin RSt (TState × Int × Int)).on (fun (x6, x7, x8, x9) => endR x = ((TState.mk x6 x7 x8 x9), 0, 0)) (fun r_ => endR x = r_) := by
  cases x with
  | go t => rfl
  | ret r => rfl
theorem frames_Run.ok {g : TGraph} {s : TState} (hg : GLen g) (hs : SLen s) {l : List TMove} (hl : l.length ≤ maxLen) : frames_Run.f g s l (runM g s l) := by
  refine ⟨_, frames_Check.ok hg hs, ?_⟩
  unfold runM
  by_cases h : chkS g s = 0
  · rw [if_pos h, if_pos h]
    obtain ⟨hG, hS⟩ := chkS_ok hs h
    exact ⟨_, slices_Clone_int64.ok hs.env, _, slices_Clone_int.ok hs.stack, _, (runLoop hG hS hl frames_do.f (fun s m h => frames_do.ok hG h m) _ rfl).1, run_on⟩
  · rw [if_neg h, if_neg h]; rfl
end Go.RM.Tryd
namespace Go.RM.Tryd
open Go.RM
set_option linter.unusedVariables false
set_option linter.unusedSimpArgs false
def few (l : List TMove) : List TMove := if (l.length : Int) > 100 then cutl l 0 100 else l
theorem l22_few.ok (l : List TMove) : l22_few.f l (few l) := by
  unfold l22_few.f few
  by_cases h : (l.length : Int) > 100
  · rw [if_pos h, if_pos h]; exact ⟨⟨by omega, by omega, by omega⟩, rfl⟩
  · rw [if_neg h, if_neg h]
theorem few_len (l : List TMove) : (few l).length ≤ 100 := by
  unfold few
  split
  · simp [cutl]; omega
  · omega
theorem few_max (l : List TMove) : (few l).length ≤ maxLen := by
  have := few_len l
  have hm : (100 : Nat) ≤ maxLen := by decide
  omega
theorem r22_Same.refl {s : TState} (h1 : s.Env.length ≤ maxLen) (h2 : s.Stack.length ≤ maxLen) : r22_Same.f s s true := by
  unfold r22_Same.f
  rw [if_neg (by simp)]
  have e1 := eqRound (b := r22_Same.b1 s s) h1 rfl rfl
  have e2 := eqRound (b := r22_Same.b2 s s) h2 rfl rfl
  rw [if_pos rfl] at e1 e2
  exact ⟨_, e1, _, e2, rfl⟩
theorem l22_numbers.refl {l : List Int} (h1 : l.length ≤ maxLen) : l22_numbers.f l l true := by
  unfold l22_numbers.f
  rw [if_pos rfl]
  have e1 := eqRound (b := l22_numbers.b1 l l) h1 rfl rfl
  rw [if_pos rfl] at e1
  exact ⟨_, e1, rfl⟩
theorem SOk.same {g : TGraph} {s : TState} (hG : GOk g) (h : SOk g s) : r22_Same.f s s true := by
  have hm : (4096 : Nat) ≤ maxLen := by decide
  exact r22_Same.refl (by have := h.env; have := hG.vars; omega) (by have := h.short; omega)
theorem run_end {g : TGraph} {s : TState} (hG : GOk g) (l : List TMove) : ∀ (i : Int) (s : TState), SOk g s → (∃ t, foldF (stepRn g) l i s = .go t ∧ SOk g t) ∨ ∃ k e, foldF (stepRn g) l i s = .ret (noneS, k, e) ∧ i ≤ k ∧ k < i + l.length ∧ e ≠ 0 := by
  induction l with
  | nil => exact fun i s h => .inl ⟨s, rfl, h⟩
  | cons m l ih =>
    intro i s h
    unfold foldF stepRn
    by_cases h0 : (doM g s m).2 = 0
    · rw [if_pos h0]
      rcases ih (i + 1) _ (doM_keep hG h m h0) with h1 | ⟨k, e, h1, h2, h3, h4⟩
      · exact .inl h1
      · exact .inr ⟨k, e, h1, by omega, by simp; omega, h4⟩
    · rw [if_neg h0]
      exact .inr ⟨i, _, rfl, by omega, by simp; omega, h0⟩
end Go.RM.Tryd
namespace Go.RM.Tryd
open Go.RM
set_option linter.unusedVariables false
set_option linter.unusedSimpArgs false
structure Sim (s t : TState) : Prop where
  node : s.Node = t.Node
  marks : s.Marks = t.Marks
  stack : s.Stack = t.Stack
  env : s.Env.length = t.Env.length
def anyAt (g : TGraph) (m : TMove) : Bool := (decide (m.Step ≥ 0)) && ((decide (m.Step < (g.Steps.length : Int))) && ((rdl g.Steps m.Step).Kind == 4))
def chg (g : TGraph) (d : Int) (m : TMove) : TMove := if anyAt g m = true then ⟨m.Step, d⟩ else m
theorem chg_step (g : TGraph) (d : Int) (m : TMove) : (chg g d m).Step = m.Step := by
  unfold chg; split <;> rfl
theorem Sim.over {g : TGraph} {s t : TState} (h : Sim s t) : overM g t = overM g s := by
  unfold overM; rw [h.node, h.stack]
theorem moveM_sim {g : TGraph} {s t : TState} (h : Sim s t) (m m' : TMove) (x : TStep) : (moveM g t m' x).2 = (moveM g s m x).2 ∧ Sim (moveM g s m x).1 (moveM g t m' x).1 := by
  obtain ⟨n1, e1, k1, s1⟩ := s
  obtain ⟨n2, e2, k2, s2⟩ := t
  obtain ⟨h1, h2, h3, h4⟩ := h
  simp only at h1 h2 h3 h4
  subst h1 h2 h3
  unfold moveM
  repeat' split
  all_goals first
    | exact ⟨rfl, rfl, rfl, rfl, by simp [setl, h4]⟩
    | exact ⟨rfl, rfl, rfl, rfl, h4⟩
    | exact ⟨rfl, rfl, rfl, rfl, rfl⟩
theorem doM_sim {g : TGraph} {s t : TState} (h : Sim s t) (d : Int) (m : TMove) : (doM g t (chg g d m)).2 = (doM g s m).2 ∧ Sim (doM g s m).1 (doM g t (chg g d m)).1 := by
  have none : Sim noneS noneS := ⟨rfl, rfl, rfl, rfl⟩
  unfold doM
  rw [chg_step]
  by_cases h1 : m.Step = -1
  · have hd : (chg g d m) = m := by
      unfold chg
      rw [if_neg]
      simp [anyAt, h1]
    rw [if_pos h1, if_pos h1, hd, h.over]
    split
    · exact ⟨rfl, none⟩
    · refine ⟨rfl, ?_, h.marks, ?_, h.env⟩
      · show (rdl g.Sites (rdl s.Stack 0)).Back = (rdl g.Sites (rdl t.Stack 0)).Back
        rw [h.stack]
      · show cutl s.Stack 1 _ = cutl t.Stack 1 _
        rw [h.stack]
  rw [if_neg h1, if_neg h1]
  by_cases h2 : ((decide (m.Step < 0)) || (decide (m.Step ≥ (g.Steps.length : Int)))) = true
  · rw [if_pos h2, if_pos h2]; exact ⟨rfl, none⟩
  rw [if_neg h2, if_neg h2]
  have hc : ((!(chg g d m).Draw == 0) && ((rdl g.Steps m.Step).Kind != 4)) = ((!m.Draw == 0) && ((rdl g.Steps m.Step).Kind != 4)) := by
    unfold chg
    by_cases ha : anyAt g m = true
    · simp only [anyAt, Bool.and_eq_true, beq_iff_eq] at ha
      simp [ha.2.2]
    · rw [if_neg ha]
  rw [hc, h.node]
  split
  · exact ⟨rfl, none⟩
  · exact moveM_sim h m _ _
theorem run_sim {g : TGraph} (d : Int) : ∀ (l : List TMove) (i : Int) (s t : TState), Sim s t → (endR (foldF (stepRn g) (l.map (chg g d)) i t)).2 = (endR (foldF (stepRn g) l i s)).2 ∧ Sim (endR (foldF (stepRn g) l i s)).1 (endR (foldF (stepRn g) (l.map (chg g d)) i t)).1
  | [], i, s, t, h => ⟨rfl, h⟩
  | m :: l, i, s, t, h => by
    have hd := doM_sim (g := g) h d m
    rw [List.map_cons]
    unfold foldF stepRn
    rw [hd.1]
    by_cases h0 : (doM g s m).2 = 0
    · rw [if_pos h0, if_pos h0]
      exact run_sim d l (i + 1) _ _ hd.2
    · rw [if_neg h0, if_neg h0]
      exact ⟨rfl, rfl, rfl, rfl, rfl⟩
theorem chkS_sim {g : TGraph} {s t : TState} (h : Sim s t) : chkS g t = chkS g s := by
  unfold chkS stateOk markOk
  rw [h.node, h.marks, h.stack, h.env]
theorem runM_sim {g : TGraph} {s t : TState} (h : Sim s t) (d : Int) (l : List TMove) : (runM g t (l.map (chg g d))).2 = (runM g s l).2 ∧ Sim (runM g s l).1 (runM g t (l.map (chg g d))).1 := by
  unfold runM
  rw [chkS_sim h]
  split
  · exact run_sim d l 0 s t h
  · exact ⟨rfl, rfl, rfl, rfl, rfl⟩
theorem runM_short {g : TGraph} {s : TState} (hs : SLen s) (l : List TMove) : (runM g s l).1.Stack.length ≤ 4096 := by
  unfold runM
  by_cases h : chkS g s = 0
  · rw [if_pos h]
    obtain ⟨hG, hS⟩ := chkS_ok hs h
    rcases run_end (s := s) hG l 0 s hS with ⟨t, h1, h2⟩ | ⟨k, e, h1, _⟩
    · rw [h1]; exact h2.short
    · rw [h1]; simp [endR, noneS]
  · rw [if_neg h]; simp [noneS]
theorem chgLoop {g : TGraph} {d : Int} {l : List TMove} (hl : l.length ≤ 100) : Loop (l22_FramesValues.b1 g d l) ([], 0) (.go (l.map (chg g d))) := by
  have hm : (100 : Nat) ≤ maxLen := by decide
  have hL := (foldLoop (l := l) (b := l22_FramesValues.b1 g d l) (fun i acc => (acc, i)) id (fun _ x acc => .go (acc ++ [chg g d x])) (fun i acc => (acc.length : Int) = i) (fun i acc h0 hlt hi => by
    have e1 := wrap_len (l := l) (by omega) h0 hlt
    have hf : Fits ((acc.length : Int) + 1) 16 := by unfold Fits; omega
    refine ⟨?_, by simp; omega⟩
    show if i < (l.length : Int) then _ else _
    rw [if_pos hlt]
    refine ⟨⟨h0, hlt⟩, fun a b => ⟨a, b⟩, ?_⟩
    by_cases ha : anyAt g (rdl l i) = true
    · have ha2 := ha
      unfold anyAt at ha2
      rw [if_pos ha2]
      refine ⟨hf, ?_⟩
      rw [e1]; simp only [chg, ha, if_true]
    · have ha2 := ha
      unfold anyAt at ha2
      rw [if_neg ha2]
      refine ⟨hf, ?_⟩
      rw [e1]; simp only [chg, if_neg ha]) (fun acc _ => by
    show if (l.length : Int) < (l.length : Int) then _ else _
    rw [if_neg (by omega)]; rfl) [] rfl).1
  rw [foldF_map] at hL
  simpa [Fin.map] using hL
theorem Law.FramesValues (a0 : TGraph) (a1 : TState) (a2 : List TMove) (a3 : List Int) (a4 : Int) (y0 : TGraph.Fit a0) (y1 : TState.Fit a1) (y2 : (a2.length * 16 ≤ 140737488351232) ∧ (a2.length ≤ maxLen) ∧ (∀ y ∈ a2, TMove.Fit y)) (y3 : (a3.length * 8 ≤ 140737488351232) ∧ (a3.length ≤ maxLen) ∧ (∀ y ∈ a3, (Lit.int .i64 y).wf = true)) (w4 : (Lit.int .i64 a4).wf = true) : l22_FramesValues.f a0 a1 a2 a3 a4 true := by
  have hg := y0.len
  have hs := y1.len
  refine ⟨true, rfl, ?_⟩
  rw [if_pos rfl]
  refine ⟨_, rfl, ?_⟩
  split
  · rfl
  · rename_i hc
    have hlen : a1.Env.length = a3.length := by
      simp at hc; omega
    have hsim : Sim a1 ⟨a1.Node, a3, a1.Marks, a1.Stack⟩ := ⟨rfl, rfl, rfl, hlen⟩
    have hs2 : SLen ⟨a1.Node, a3, a1.Marks, a1.Stack⟩ := ⟨hs.marks, by have := hs.env; show a3.length ≤ _; omega, hs.stack⟩
    have hf := few_len a2
    have hm : (4096 : Nat) ≤ maxLen := by decide
    refine ⟨_, l22_few.ok a2, _, chgLoop hf, _, frames_Run.ok hg hs (few_max a2), _, frames_Run.ok hg hs2 (by rw [List.length_map]; exact few_max a2), true, fun _ _ _ _ => ?_, ?_⟩
    · have := runM_sim (g := a0) hsim a4 (few a2)
      rw [← this.2.stack]
      exact l22_numbers.refl (by have := runM_short (g := a0) hs (few a2); omega)
    · have := runM_sim (g := a0) hsim a4 (few a2)
      rw [this.1, ← this.2.node, ← this.2.marks]
      simp
end Go.RM.Tryd
