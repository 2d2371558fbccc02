/-
  The set of a text: what it is, in plain words. No program in sight.
-/
import Derived.Lib.Atoi
import Derived.Lib.ItoaNum
set_option linter.unusedVariables false
namespace Go.BR
open Go.Lib
/-- May a digit stand behind a number (below 0: none so far), if all must be above the last one? -/
def may (n d last : Int) : Bool :=
  if n = 0 then false
  else if n < 0 then decide (last < d) || (decide (0 < d) && (decide (last < 10 * d + 9) && decide (10 * d ≤ 63)))
  else decide (n * 10 + d ≤ 63) && decide (last < n * 10 + d)
def nx (n d : Int) : Int := (if n < 0 then 0 else n) * 10 + d
def dig (c : Nat) : Bool := decide (48 ≤ c) && decide (c ≤ 57)
def scan (s : ByteArray) (last : Int) : Nat → Int → Nat → Int × Nat
  | 0, n, i => (n, i)
  | b + 1, n, i => if h : i < s.size then (if (dig (s[i]'h).toNat && may n (((s[i]'h).toNat : Int) - 48) last) = true then scan s last b (nx n (((s[i]'h).toNat : Int) - 48)) (i + 1) else (n, i)) else (n, i)
/-- What is behind a number. -/
def fin (s : ByteArray) (go : Nat → Int → Nat → Int × Int × Int) (set : Nat) (last n : Int) (k : Nat) : Int × Int × Int :=
  if h : k < s.size then
    if last < n then
      if (s[k]'h).toNat = 125 then (if k + 1 < s.size then (0, ((k + 1 : Nat) : Int), 11) else (((set + 2 ^ n.toNat : Nat) : Int), 0, 0))
      else if (s[k]'h).toNat = 44 ∧ n < 63 then go (set + 2 ^ n.toNat) n (k + 1)
      else (0, (k : Int), 11)
    else if (s[k]'h).toNat = 125 ∧ k = 1 then (if 2 < s.size then (0, 2, 11) else ((set : Int), 0, 0))
    else (0, (k : Int), 11)
  else (0, (k : Int), 11)
def outer (s : ByteArray) : Nat → Nat → Int → Nat → Int × Int × Int
  | 0, _, _, _ => (0, 0, 0)
  | f + 1, set, last, i => fin s (outer s f) set last (scan s last s.size (-1) i).1 (scan s last s.size (-1) i).2
def readM (s : ByteArray) : Int × Int × Int := if h : 0 < s.size then (if (s[0]'h).toNat = 123 then outer s s.size 0 (-1) 1 else (0, 0, 11)) else (0, 0, 11)
/-- A number that may be so far. -/
def Num (n : Int) : Prop := -1 ≤ n ∧ n ≤ 63
theorem dig_rng {c : Nat} (h : dig c = true) : 0 ≤ (c : Int) - 48 ∧ (c : Int) - 48 ≤ 9 := by
  unfold dig at h
  simp only [Bool.and_eq_true, decide_eq_true_eq] at h
  omega
theorem may_num {n d last : Int} (hn : Num n) (hd : 0 ≤ d ∧ d ≤ 9) (h : may n d last = true) : Num (nx n d) ∧ 0 ≤ nx n d ∧ n ≠ 0 := by
  unfold may at h
  unfold Num nx at *
  split at h
  · cases h
  · split at h
    · rename_i h0 h1
      rw [if_pos h1]
      omega
    · rename_i h0 h1
      rw [if_neg h1]
      simp only [Bool.and_eq_true, decide_eq_true_eq] at h
      omega
theorem scan_end {s : ByteArray} {last : Int} (b : Nat) {n : Int} {i : Nat} (h : ¬ i < s.size) : scan s last b n i = (n, i) := by
  cases b with
  | zero => rfl
  | succ b => unfold scan; rw [dif_neg h]
theorem scan_num {s : ByteArray} {last : Int} : ∀ (b : Nat) (n : Int) (i : Nat), Num n → Num (scan s last b n i).1 ∧ i ≤ (scan s last b n i).2
  | 0, n, i, h => ⟨h, Nat.le_refl _⟩
  | b + 1, n, i, h => by
    unfold scan
    split
    · split
      · rename_i hc
        rw [Bool.and_eq_true] at hc
        have := scan_num (s := s) (last := last) b (nx n (((s[i]'(by assumption)).toNat : Int) - 48)) (i + 1) (may_num h (dig_rng hc.1) hc.2).1
        exact ⟨this.1, by omega⟩
      · exact ⟨h, Nat.le_refl _⟩
    · exact ⟨h, Nat.le_refl _⟩
/-- The letters of a number that may be so far. -/
def lets (n : Int) : List UInt8 := if n < 0 then [] else decDigits n.toNat
def let_ (d : Int) : UInt8 := UInt8.ofNat (48 + d.toNat)
theorem lets_one {d : Int} (h : 0 ≤ d ∧ d ≤ 9) : decDigits d.toNat = [let_ d] := by
  unfold decDigits let_
  rw [dif_pos (by omega)]
theorem lets_nx {n d : Int} (hd : 0 ≤ d ∧ d ≤ 9) (hn : -1 ≤ n) (h0 : n ≠ 0) : lets (nx n d) = lets n ++ [let_ d] := by
  unfold lets nx
  by_cases h : n < 0
  · rw [if_pos h, if_pos h, if_neg (by omega), show ((0 : Int) * 10 + d).toNat = d.toNat by omega, lets_one hd]
    rfl
  · rw [if_neg h, if_neg h, if_neg (by omega)]
    have e : (n * 10 + d).toNat = n.toNat * 10 + d.toNat := by omega
    rw [e]
    conv => lhs; unfold decDigits
    rw [dif_neg (by omega), show (n.toNat * 10 + d.toNat) / 10 = n.toNat by omega, show (n.toNat * 10 + d.toNat) % 10 = d.toNat by omega]
    rfl
theorem digitVal_let {d : Nat} (h : d ≤ 9) : digitVal (UInt8.ofNat (48 + d)) = some d := by
  unfold digitVal
  rw [UInt8.toNat_ofNat', show (48 + d) % 2 ^ 8 = 48 + d by omega, if_pos (by omega)]
  congr 1
  omega
theorem decFrom_app : ∀ (l : List UInt8) (acc m : Nat) (b : UInt8) (d : Nat), decFrom acc l = some m → digitVal b = some d → decFrom acc (l ++ [b]) = some (m * 10 + d)
  | [], acc, m, b, d, h, hb => by
    simp only [decFrom, Option.some.injEq] at h
    subst h
    simp [decFrom, hb]
  | a :: l, acc, m, b, d, h, hb => by
    simp only [decFrom, List.cons_append] at h ⊢
    cases ha : digitVal a with
    | none => rw [ha] at h; cases h
    | some e =>
      rw [ha] at h
      exact decFrom_app l _ m b d h hb
theorem decFrom_dec (u : Nat) : decFrom 0 (decDigits u) = some u := by
  induction u using Nat.strongRecOn with
  | _ u ih =>
    unfold decDigits
    by_cases h : u < 10
    · rw [dif_pos h]
      have h1 := decFrom_app [] 0 0 _ _ rfl (digitVal_let (d := u) (by omega))
      rw [List.nil_append] at h1
      rw [h1]
      simp
    · rw [dif_neg h, decFrom_app _ _ _ _ _ (ih (u / 10) (by omega)) (digitVal_let (d := u % 10) (by omega))]
      congr 1
      omega
theorem dec_dig (u : Nat) : ∀ b ∈ decDigits u, 48 ≤ b.toNat ∧ b.toNat ≤ 57 := by
  induction u using Nat.strongRecOn with
  | _ u ih =>
    intro b hb
    have key : ∀ d : Nat, d < 10 → 48 ≤ (UInt8.ofNat (48 + d)).toNat ∧ (UInt8.ofNat (48 + d)).toNat ≤ 57 := by
      intro d hd
      rw [UInt8.toNat_ofNat']
      omega
    unfold decDigits at hb
    by_cases h : u < 10
    · rw [dif_pos h] at hb
      simp only [List.mem_singleton] at hb; subst hb; exact key u h
    · rw [dif_neg h] at hb
      simp only [List.mem_append, List.mem_singleton] at hb
      rcases hb with hb | rfl
      · exact ih (u / 10) (by omega) b hb
      · exact key _ (by omega)
theorem dec_ne (u : Nat) : decDigits u ≠ [] := by
  unfold decDigits
  split <;> simp
theorem atoi_digs {l : List UInt8} {m : Nat} (hne : l ≠ []) (hd : ∀ b ∈ l, 48 ≤ b.toNat ∧ b.toNat ≤ 57) (h : decFrom 0 l = some m) : atoi l = some (m : Int) := by
  cases l with
  | nil => exact absurd rfl hne
  | cons b l =>
    have hb := hd b (.head _)
    have h45 : (b == 45) = false := by
      rw [beq_eq_false_iff_ne]; intro h; subst h; simp at hb
    have h43 : (b == 43) = false := by
      rw [beq_eq_false_iff_ne]; intro h; subst h; simp at hb
    unfold atoi
    simp only [h45, h43, Bool.false_eq_true, if_false]
    unfold decNat
    rw [if_neg (by simp), h]
    rfl
theorem atoi_dec (u : Nat) : atoi (decDigits u) = some (u : Int) := atoi_digs (dec_ne u) (dec_dig u) (decFrom_dec u)
/-- A digit behind a number: what it says. -/
theorem atoi_more {n d : Int} (hd : 0 ≤ d ∧ d ≤ 9) (hn : -1 ≤ n) : atoi (lets n ++ [let_ d]) = some (nx n d) := by
  by_cases h0 : n = 0
  · subst h0
    have e : lets 0 = [48] := by
      unfold lets
      rw [if_neg (by omega), show ((0 : Int)).toNat = 0 from rfl]
      unfold decDigits
      rw [dif_pos (by omega)]
      rfl
    rw [e]
    have h1 := digitVal_let (d := d.toNat) (by omega)
    have h2 := atoi_digs (l := [48] ++ [let_ d]) (m := d.toNat) (by simp) (by
      intro b hb
      simp only [List.cons_append, List.nil_append, List.mem_cons, List.not_mem_nil, or_false] at hb
      rcases hb with rfl | rfl
      · decide
      · unfold let_; rw [UInt8.toNat_ofNat']; omega) (by
      have := decFrom_app [48] 0 0 (let_ d) d.toNat rfl h1
      rw [this]
      simp)
    rw [h2]
    unfold nx
    simp
    omega
  · rw [← lets_nx hd hn h0]
    have : 0 ≤ nx n d := by unfold nx; split <;> omega
    unfold lets
    rw [if_neg (by omega), atoi_dec]
    simp
    omega
/-- What the first test of a number answers. -/
theorem itoa_more {n d : Int} (hd : 0 ≤ d ∧ d ≤ 9) (hn : -1 ≤ n) : (decDigits (nx n d).toNat = lets n ++ [let_ d]) ↔ n ≠ 0 := by
  have hx : 0 ≤ nx n d := by unfold nx; split <;> omega
  constructor
  · rintro h rfl
    have e : nx 0 d = d := by unfold nx; simp
    rw [e, lets_one hd] at h
    have : lets 0 = [48] := by
      unfold lets
      rw [if_neg (by omega), show ((0 : Int)).toNat = 0 from rfl]
      unfold decDigits
      rw [dif_pos (by omega)]
      rfl
    rw [this] at h
    have := congrArg List.length h
    simp at this
  · intro h
    rw [← lets_nx hd hn h]
    unfold lets
    rw [if_neg (by omega)]
theorem may_eq {n d last : Int} (hd : 0 ≤ d ∧ d ≤ 9) (hn : Num n) (h0 : n ≠ 0) (hl : -1 ≤ last ∧ last ≤ 62) :
    may n d last = ((decide (last < nx n d) && decide (nx n d < 64)) || (decide (0 < nx n d) && (decide (nx n d < 7) && (decide (last < min (nx n d * 10 + 9) 63) && decide (nx n d * 10 < 64))))) := by
  unfold may nx
  rw [if_neg h0]
  unfold Num at hn
  by_cases h : n < 0
  · rw [if_pos h, if_pos h, Bool.eq_iff_iff]
    simp only [Bool.or_eq_true, Bool.and_eq_true, decide_eq_true_eq]
    omega
  · rw [if_neg h, if_neg h, Bool.eq_iff_iff]
    simp only [Bool.or_eq_true, Bool.and_eq_true, decide_eq_true_eq]
    omega
theorem ext_nil (s : ByteArray) (a : Nat) : (s.extract a a).data.toList = [] := by
  simp
theorem ext_snoc (s : ByteArray) {a b : Nat} (hab : a ≤ b) (hb : b < s.size) : (s.extract a (b + 1)).data.toList = (s.extract a b).data.toList ++ [s[b]'hb] := by
  have hb' : b < s.data.toList.length := hb
  have e : s[b]'hb = s.data.toList[b]'hb' := rfl
  rw [ByteArray.data_extract, ByteArray.data_extract, Array.toList_extract, Array.toList_extract, List.extract_eq_take_drop, List.extract_eq_take_drop, e]
  rw [show b + 1 - a = (b - a) + 1 by omega, List.take_add_one, List.getElem?_drop, show a + (b - a) = b by omega, List.getElem?_eq_getElem hb']
  rfl
theorem let_at {u : UInt8} (h : dig u.toNat = true) : let_ ((u.toNat : Int) - 48) = u := by
  unfold dig at h
  simp only [Bool.and_eq_true, decide_eq_true_eq] at h
  unfold let_
  apply UInt8.toNat.inj
  rw [UInt8.toNat_ofNat']
  omega
/-- The letters from a place are a number's, so far. -/
structure Wd (s : ByteArray) (a i : Nat) (n : Int) : Prop where
  le : a ≤ i
  sz : i ≤ s.size
  num : Num n
  txt : (s.extract a i).data.toList = lets n
theorem Wd.new {s : ByteArray} {a : Nat} (h : a ≤ s.size) : Wd s a a (-1) := ⟨Nat.le_refl _, h, ⟨by omega, by omega⟩, by rw [ext_nil]; rfl⟩
theorem Wd.more {s : ByteArray} {a i : Nat} {n : Int} (h : Wd s a i n) (hi : i < s.size) (hd : dig (s[i]'hi).toNat = true) : (s.extract a (i + 1)).data.toList = lets n ++ [let_ (((s[i]'hi).toNat : Int) - 48)] := by
  rw [ext_snoc s h.le hi, h.txt, let_at hd]
theorem Wd.step {s : ByteArray} {a i : Nat} {n last : Int} (h : Wd s a i n) (hi : i < s.size) (hd : dig (s[i]'hi).toNat = true) (hm : may n (((s[i]'hi).toNat : Int) - 48) last = true) : Wd s a (i + 1) (nx n (((s[i]'hi).toNat : Int) - 48)) := by
  have h1 := may_num h.num (dig_rng hd) hm
  refine ⟨by have := h.le; omega, hi, h1.1, ?_⟩
  rw [h.more hi hd, lets_nx (dig_rng hd) h.num.1 h1.2.2]
theorem Wd.atoi {s : ByteArray} {a i : Nat} {n : Int} (h : Wd s a i n) (h0 : 0 ≤ n) : Go.Lib.atoi (s.extract a i).data.toList = some n := by
  rw [h.txt]
  unfold lets
  rw [if_neg (by omega), atoi_dec]
  congr 1
  omega
theorem Wd.none {s : ByteArray} {a i : Nat} {n : Int} (h : Wd s a i n) (h0 : n < 0) : s.extract a i = ⟨#[]⟩ := by
  have := h.txt
  unfold lets at this
  rw [if_pos h0] at this
  apply ByteArray.ext
  exact Array.toList_eq_nil_iff.1 this
theorem dec_short {u : Nat} (h : u < 1000) : (decDigits u).length ≤ 3 := by
  rw [decDigits_length]
  unfold nDigits
  split
  · omega
  · unfold nDigits
    split
    · omega
    · unfold nDigits
      split
      · omega
      · omega
theorem Wd.short {s : ByteArray} {a i : Nat} {n : Int} (h : Wd s a i n) : (s.extract a i).size ≤ 3 := by
  have e : (s.extract a i).size = (s.extract a i).data.toList.length := rfl
  rw [e, h.txt]
  unfold lets
  have := h.num
  unfold Num at this
  split
  · simp
  · exact dec_short (by omega)
theorem Wd.more_short {s : ByteArray} {a i : Nat} {n : Int} (h : Wd s a i n) (hi : i < s.size) : (s.extract a (i + 1)).size ≤ 4 := by
  have e : (s.extract a (i + 1)).size = (s.extract a (i + 1)).data.toList.length := rfl
  have e2 : (s.extract a i).size = (s.extract a i).data.toList.length := rfl
  have := h.short
  rw [e, ext_snoc s h.le hi, List.length_append]
  simp only [List.length_singleton]
  omega
end Go.BR
