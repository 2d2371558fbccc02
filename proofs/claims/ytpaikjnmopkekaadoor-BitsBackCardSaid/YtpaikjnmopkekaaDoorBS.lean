/-
  The text of a set is read as it. No program in sight.
-/
import Derived.Test.YtpaikjnmopkekaaDoorBR
import Derived.Lib.Join
set_option linter.unusedVariables false
namespace Go.BR
open Go.Lib
/-- Numbers with signs between them, and one behind. -/
def enc : List Int → List UInt8
  | [] => [125]
  | [x] => decDigits x.toNat ++ [125]
  | x :: y :: l => decDigits x.toNat ++ 44 :: enc (y :: l)
theorem enc_join (l : List Int) : enc l = join (l.map fun x => decDigits x.toNat) [44] ++ [125] := by
  induction l with
  | nil => rfl
  | cons x l ih =>
    cases l with
    | nil => simp [enc, join_one]
    | cons y l =>
      unfold enc
      rw [ih, List.map_cons, join_cons]
      rw [List.map_cons, join_cons]
      simp [joinTail]
theorem at_list (l : List UInt8) {i : Nat} (h : i < (⟨l.toArray⟩ : ByteArray).size) (h' : i < l.length) : (⟨l.toArray⟩ : ByteArray)[i]'h = l[i]'h' := rfl
theorem size_list (l : List UInt8) : (⟨l.toArray⟩ : ByteArray).size = l.length := rfl
/-- A round of the scan. -/
theorem scan_go {l : List UInt8} {last n : Int} {i : Nat} {c : UInt8} (b : Nat) (hc : l[i]? = some c) (h : (dig c.toNat && may n ((c.toNat : Int) - 48) last) = true) : scan ⟨l.toArray⟩ last (b + 1) n i = scan ⟨l.toArray⟩ last b (nx n ((c.toNat : Int) - 48)) (i + 1) := by
  have hi := (List.getElem?_eq_some_iff.1 hc).1
  have hv := (List.getElem?_eq_some_iff.1 hc).2
  conv => lhs; unfold scan
  rw [dif_pos (show i < (⟨l.toArray⟩ : ByteArray).size from hi)]
  have e : (⟨l.toArray⟩ : ByteArray)[i]'hi = c := hv
  rw [e, if_pos h]
theorem scan_stop {l : List UInt8} {last n : Int} {i : Nat} {c : UInt8} (b : Nat) (hc : l[i]? = some c) (h : dig c.toNat = false) : scan ⟨l.toArray⟩ last b n i = (n, i) := by
  have hi := (List.getElem?_eq_some_iff.1 hc).1
  have hv := (List.getElem?_eq_some_iff.1 hc).2
  cases b with
  | zero => rfl
  | succ b =>
    unfold scan
    rw [dif_pos (show i < (⟨l.toArray⟩ : ByteArray).size from hi)]
    have e : (⟨l.toArray⟩ : ByteArray)[i]'hi = c := hv
    rw [e, h]
    rfl
theorem let_num {d : Nat} (h : d ≤ 9) : (UInt8.ofNat (48 + d)).toNat = 48 + d := by rw [UInt8.toNat_ofNat']; omega
/-- A number that is met. -/
theorem scan_dec {l pre post : List UInt8} {x : Nat} {last : Int} {c : UInt8} (hx : x ≤ 63) (hl : -1 ≤ last) (hlt : last < (x : Int)) (hL : l = pre ++ (decDigits x ++ c :: post)) (hc : dig c.toNat = false) (b : Nat) (hb : 2 ≤ b) :
    scan ⟨l.toArray⟩ last b (-1) pre.length = ((x : Int), pre.length + (decDigits x).length) := by
  obtain ⟨b, rfl⟩ : ∃ k, b = k + 2 := ⟨b - 2, by omega⟩
  by_cases h10 : x < 10
  · have e : decDigits x = [UInt8.ofNat (48 + x)] := by unfold decDigits; rw [dif_pos h10]
    rw [e] at hL ⊢
    have h0 : l[pre.length]? = some (UInt8.ofNat (48 + x)) := by rw [hL]; simp
    have h1 : l[pre.length + 1]? = some c := by rw [hL, List.getElem?_append_right (by omega)]; simp
    rw [scan_go (b + 1) h0 (by
      rw [let_num (by omega)]
      unfold dig may
      simp
      omega), scan_stop (b + 1) h1 hc, let_num (by omega)]
    simp [nx]
    omega
  · have e : decDigits x = [UInt8.ofNat (48 + x / 10), UInt8.ofNat (48 + x % 10)] := by
      unfold decDigits
      rw [dif_neg h10]
      conv => lhs; arg 1; unfold decDigits
      rw [dif_pos (by omega)]
      rfl
    rw [e] at hL ⊢
    have h0 : l[pre.length]? = some (UInt8.ofNat (48 + x / 10)) := by rw [hL]; simp
    have h1 : l[pre.length + 1]? = some (UInt8.ofNat (48 + x % 10)) := by rw [hL, List.getElem?_append_right (by omega)]; simp
    have h2 : l[pre.length + 1 + 1]? = some c := by rw [hL, List.getElem?_append_right (by omega), show pre.length + 1 + 1 - pre.length = 2 by omega]; rfl
    have e1 : (((48 + x / 10 : Nat) : Int) - 48) = ((x / 10 : Nat) : Int) := by omega
    have e2 : (((48 + x % 10 : Nat) : Int) - 48) = ((x % 10 : Nat) : Int) := by omega
    have n1 : nx (-1) ((x / 10 : Nat) : Int) = ((x / 10 : Nat) : Int) := by unfold nx; rw [if_pos (by omega)]; omega
    have n2 : nx ((x / 10 : Nat) : Int) ((x % 10 : Nat) : Int) = (x : Int) := by unfold nx; rw [if_neg (by omega)]; omega
    have m1 : may (-1) ((x / 10 : Nat) : Int) last = true := by
      unfold may
      rw [if_neg (by omega), if_pos (by omega)]
      simp only [Bool.or_eq_true, Bool.and_eq_true, decide_eq_true_eq]
      omega
    have m2 : may ((x / 10 : Nat) : Int) ((x % 10 : Nat) : Int) last = true := by
      unfold may
      rw [if_neg (by omega), if_neg (by omega)]
      simp only [Bool.and_eq_true, decide_eq_true_eq]
      omega
    have d1 : dig (48 + x / 10) = true := by unfold dig; simp; omega
    have d2 : dig (48 + x % 10) = true := by unfold dig; simp; omega
    have t0 := let_num (d := x / 10) (by omega)
    have t1 := let_num (d := x % 10) (by omega)
    rw [scan_go (b + 1) h0 (by rw [t0, e1, d1, m1]; rfl), t0, e1, n1, scan_go b h1 (by rw [t1, e2, d2, m2]; rfl), t1, e2, n2, scan_stop b h2 hc]
    simp
def sum2 : List Int → Nat
  | [] => 0
  | x :: l => 2 ^ x.toNat + sum2 l
/-- Rising, above a number. -/
def Up (last : Int) : List Int → Prop
  | [] => True
  | x :: l => last < x ∧ x ≤ 63 ∧ Up x l
theorem outer_enc : ∀ (l : List Int) (x : Int) (pre : List UInt8) (set : Nat) (last : Int) (f : Nat) (s : List UInt8), -1 ≤ last → Up last (x :: l) → s = pre ++ enc (x :: l) → l.length < f → outer ⟨s.toArray⟩ f set last pre.length = (((set + sum2 (x :: l) : Nat) : Int), 0, 0)
  | l, x, pre, set, last, 0, s, _, _, _, hf => by omega
  | [], x, pre, set, last, f + 1, s, hl, hu, hs, hf => by
    obtain ⟨h1, h2, _⟩ := hu
    obtain ⟨n, rfl⟩ : ∃ n : Nat, x = n := ⟨x.toNat, by omega⟩
    have hs' : s = pre ++ (decDigits n ++ 125 :: []) := hs
    have hz : s.length = pre.length + (decDigits n).length + 1 := by rw [hs']; simp; omega
    have hp := List.length_pos_iff.2 (dec_ne n)
    unfold outer
    rw [scan_dec (by omega) hl h1 hs' (by decide) _ (by rw [size_list]; omega)]
    unfold fin
    have hk : s[pre.length + (decDigits n).length]? = some 125 := by
      rw [hs', List.getElem?_append_right (by omega), List.getElem?_append_right (by omega)]; simp
    have hlt : pre.length + (decDigits n).length < (⟨s.toArray⟩ : ByteArray).size := by rw [size_list]; omega
    have hv : (⟨s.toArray⟩ : ByteArray)[pre.length + (decDigits n).length]'hlt = 125 := (List.getElem?_eq_some_iff.1 hk).2
    simp only
    rw [dif_pos hlt, if_pos h1, hv, if_pos (by decide), if_neg (by rw [size_list]; omega)]
    simp [sum2]
  | y :: l, x, pre, set, last, f + 1, s, hl, hu, hs, hf => by
    obtain ⟨h1, h2, hu'⟩ := hu
    obtain ⟨n, rfl⟩ : ∃ n : Nat, x = n := ⟨x.toNat, by omega⟩
    have h3 := hu'.1
    have h4 := hu'.2.1
    have hs' : s = pre ++ (decDigits n ++ 44 :: enc (y :: l)) := hs
    have hz : s.length = pre.length + (decDigits n).length + 1 + (enc (y :: l)).length := by rw [hs']; simp; omega
    have hp := List.length_pos_iff.2 (dec_ne n)
    have hpe : 0 < (enc (y :: l)).length := by cases l <;> simp [enc] <;> omega
    unfold outer
    rw [scan_dec (by omega) hl h1 hs' (by decide) _ (by rw [size_list]; omega)]
    unfold fin
    have hk : s[pre.length + (decDigits n).length]? = some 44 := by
      rw [hs', List.getElem?_append_right (by omega), List.getElem?_append_right (by omega)]; simp
    have hlt : pre.length + (decDigits n).length < (⟨s.toArray⟩ : ByteArray).size := by rw [size_list]; omega
    have hv : (⟨s.toArray⟩ : ByteArray)[pre.length + (decDigits n).length]'hlt = 44 := (List.getElem?_eq_some_iff.1 hk).2
    simp only
    rw [dif_pos hlt, if_pos h1, hv, if_neg (by decide), if_pos ⟨by decide, by omega⟩]
    have ih := outer_enc l y (pre ++ decDigits n ++ [44]) (set + 2 ^ n) n f s (by omega) hu' (by rw [hs']; simp) (by simp at hf; omega)
    have e : (pre ++ decDigits n ++ [44]).length = pre.length + (decDigits n).length + 1 := by simp; omega
    rw [e] at ih
    have e2 : ((n : Int)).toNat = n := by omega
    rw [e2, ih]
    simp only [sum2, e2]
    congr 2
    omega
/-- The text of numbers. -/
def txt (l : List Int) : List UInt8 := 123 :: enc l
theorem read_txt (l : List Int) (h : Up (-1) l) : readM ⟨(txt l).toArray⟩ = ((sum2 l : Int), 0, 0) := by
  unfold readM
  have h0 : 0 < (⟨(txt l).toArray⟩ : ByteArray).size := by rw [size_list]; simp [txt]
  rw [dif_pos h0]
  have hv : (⟨(txt l).toArray⟩ : ByteArray)[0]'h0 = 123 := rfl
  rw [hv, if_pos (by decide)]
  cases l with
  | nil => rfl
  | cons x l =>
    have hlen : l.length < (txt (x :: l)).length := by
      have : ∀ l : List Int, l.length < (enc l).length := by
        intro l
        induction l with
        | nil => simp [enc]
        | cons x l ih =>
          cases l with
          | nil =>
            have := List.length_pos_iff.2 (dec_ne x.toNat)
            simp [enc]; omega
          | cons y l =>
            have := List.length_pos_iff.2 (dec_ne x.toNat)
            simp [enc] at ih ⊢; omega
      have := this (x :: l)
      simp [txt] at this ⊢; omega
    have := outer_enc l x [123] 0 (-1) (⟨(txt (x :: l)).toArray⟩ : ByteArray).size (txt (x :: l)) (by omega) h rfl (by rw [size_list]; exact hlen)
    rw [show ([123] : List UInt8).length = 1 from rfl] at this
    rw [this]
    simp
end Go.BR
