/- BitF, for the statement BitsTexts: what it needs, no more. -/
import Derived.Test.YtpaikjnmopkekaaDoorZBitsTextsBitE
import Derived.Test.YtpaikjnmopkekaaDoorBS
namespace Go.Proofs.YtpaikjnmopkekaaDoor.Iter
end Go.Proofs.YtpaikjnmopkekaaDoor.Iter
namespace Go.Proofs.YtpaikjnmopkekaaDoor.P
end Go.Proofs.YtpaikjnmopkekaaDoor.P
namespace Go.Proofs.YtpaikjnmopkekaaDoor.Plain
end Go.Proofs.YtpaikjnmopkekaaDoor.Plain
namespace Go.Proofs.YtpaikjnmopkekaaDoor.BitA
open Go.RowKit Go.Proofs.YtpaikjnmopkekaaDoor.P Go.Proofs.YtpaikjnmopkekaaDoor.Plain Go.Proofs.YtpaikjnmopkekaaDoor.Iter Go.Proofs.YtpaikjnmopkekaaDoorW.PrintWords Go.Proofs.YtpaikjnmopkekaaDoorW.PrintLast Go.Proofs.YtpaikjnmopkekaaDoorW.PrintMore
set_option linter.unusedVariables false
set_option linter.unusedSimpArgs false
theorem bt_nat (s : ByteArray) (j : Nat) (h : j < s.size) : bt s (j : Int) = ((s[j]'h).toNat : Int) := by
  unfold bt
  simp only [Int.toNat_natCast]
  rw [dif_pos h]
theorem digit_eq (c : Nat) : stackyardref01_digit.f (c : Int) = some (BR.dig c) := by
  unfold stackyardref01_digit.f BR.dig
  by_cases h : (c : Int) ≥ 48
  · rw [if_pos h]
    have h1 : decide (48 ≤ c) = true := decide_eq_true (by omega)
    rw [h1, Bool.true_and]
    congr 1
    rw [Bool.eq_iff_iff]
    simp only [decide_eq_true_eq]
    omega
  · rw [if_neg h]
    have h1 : decide (48 ≤ c) = false := decide_eq_false (by omega)
    rw [h1, Bool.false_and]
theorem may_eq (n d last : Int) (hn : BR.Num n) (hd : 0 ≤ d ∧ d ≤ 9) : stackyardref01_may.f n d last = some (BR.may n d last) := by
  unfold BR.Num at hn
  have e1 : wrap64 (10 * d) = 10 * d := by unfold wrap64; omega
  have e2 : wrap64 (10 * d + 9) = 10 * d + 9 := by unfold wrap64; omega
  have e3 : wrap64 (n * 10) = n * 10 := by unfold wrap64; omega
  have e4 : wrap64 (n * 10 + d) = n * 10 + d := by unfold wrap64; omega
  unfold stackyardref01_may.f BR.may
  rw [e1, e2, e3, e4]
  by_cases h0 : n = 0
  · rw [if_pos h0, if_pos h0]
  · rw [if_neg h0, if_neg h0]
    by_cases h1 : n < 0
    · rw [if_pos h1, if_pos h1]
      by_cases h2 : d > last
      · rw [if_pos h2]; simp; omega
      · rw [if_neg h2]
        by_cases h3 : d > 0
        · rw [if_pos h3]
          by_cases h4 : 10 * d + 9 > last
          · rw [if_pos h4]
            congr 1
            rw [Bool.eq_iff_iff]
            simp only [Bool.or_eq_true, Bool.and_eq_true, decide_eq_true_eq]
            omega
          · rw [if_neg h4]; simp; omega
        · rw [if_neg h3]; simp; omega
    · rw [if_neg h1, if_neg h1]
      by_cases h2 : n * 10 + d ≤ 63
      · rw [if_pos h2]
        congr 1
        rw [Bool.eq_iff_iff]
        simp only [Bool.and_eq_true, decide_eq_true_eq]
        omega
      · rw [if_neg h2]; simp; omega
theorem read_l1 (s : ByteArray) (hz : s.size ≤ 1000) (last out : Int) (v : Int × Int × Int) : ∀ (b : Nat) (n : Int) (j : Nat), BR.Num n → s.size ≤ j + b →
    Ev (fun k => stackyardref01_Read.j4 k s last out ((BR.scan s last b n j).2 : Int) (BR.scan s last b n j).1 false) v → Ev (fun k => stackyardref01_Read.l1 k s last out (j : Int) n) v
  | 0, n, j, hn, hb, H => by
    refine Ev.step (fun k => stackyardref01_Read.l1.eq_2 ..) ?_
    simp only [if_neg (show ¬ (j : Int) < (s.size : Int) by omega)]
    exact H
  | b + 1, n, j, hn, hb, H => by
    refine Ev.step (fun k => stackyardref01_Read.l1.eq_2 ..) ?_
    by_cases hj : j < s.size
    · simp only [if_pos (show (j : Int) < (s.size : Int) by omega), if_pos (show (0 : Int) ≤ (j : Int) by omega), bt_nat s j hj, digit_eq, Option.bind_some]
      unfold BR.scan at H
      rw [dif_pos hj] at H
      by_cases hd : BR.dig (s[j]'hj).toNat = true
      · have hr := BR.dig_rng hd
        have e : (((s[j]'hj).toNat : Int) - 48) % 256 = ((s[j]'hj).toNat : Int) - 48 := by omega
        simp only [if_pos hd, e, may_eq n _ last hn hr, Option.bind_some]
        rw [hd, Bool.true_and] at H
        cases hm : BR.may n (((s[j]'hj).toNat : Int) - 48) last with
        | false =>
          rw [hm, if_neg (by simp)] at H
          exact H
        | true =>
          rw [hm, if_pos rfl] at H
          have hnx := BR.may_num hn hr hm
          have ih := read_l1 s hz last out v b (BR.nx n (((s[j]'hj).toNat : Int) - 48)) (j + 1) hnx.1 (by omega) H
          refine Ev.step (fun k => stackyardref01_Read.j4.eq_2 ..) ?_
          simp only [if_true, if_pos (show (j : Int) < (s.size : Int) by omega), if_pos (show (0 : Int) ≤ (j : Int) by omega), bt_nat s j hj, e, wrap_succ j (by omega)]
          unfold BR.Num at hn
          by_cases h0 : n < 0
          · simp only [if_pos h0]
            unfold BR.nx at ih
            rw [if_pos h0] at ih
            exact ih
          · have e3 : wrap64 (n * 10) = n * 10 := by unfold wrap64; omega
            have e4 : wrap64 (n * 10 + (((s[j]'hj).toNat : Int) - 48)) = n * 10 + (((s[j]'hj).toNat : Int) - 48) := by unfold wrap64; omega
            simp only [if_neg h0, e3, e4]
            unfold BR.nx at ih
            rw [if_neg h0] at ih
            exact ih
      · rw [if_neg (by rw [Bool.and_eq_true]; exact fun h => hd h.1)] at H
        simp only [if_neg hd]
        exact H
    · simp only [if_neg (show ¬ (j : Int) < (s.size : Int) by omega)]
      rw [BR.scan_end _ hj] at H
      exact H
theorem pow_sum {set : Nat} {n last : Int} (hs : set < 2 ^ (last + 1).toNat) (h0 : -1 ≤ last) (h1 : last < n) (h2 : n ≤ 63) : IntKind.u64.wrap ((set : Int) + ((2 ^ n.toNat : Nat) : Int)) = ((set + 2 ^ n.toNat : Nat) : Int) ∧ set + 2 ^ n.toNat < 2 ^ (n + 1).toNat := by
  have hle : 2 ^ (last + 1).toNat ≤ 2 ^ n.toNat := Nat.pow_le_pow_right (by decide) (by omega)
  have hp : 2 ^ (n + 1).toNat ≤ 2 ^ 64 := Nat.pow_le_pow_right (by decide) (by omega)
  have e : (n + 1).toNat = n.toNat + 1 := by omega
  have hlt : set + 2 ^ n.toNat < 2 ^ (n + 1).toNat := by rw [e, Nat.pow_succ]; omega
  refine ⟨?_, hlt⟩
  rw [IntKind.wrap_u64]
  omega
theorem read_j5 (s : ByteArray) (hz : s.size ≤ 1000) {set m j : Nat} {last : Int} (hj : j < s.size) (hm : m ≤ 63) (hsum : IntKind.u64.wrap ((set : Int) + ((2 ^ m : Nat) : Int)) = ((set + 2 ^ m : Nat) : Int)) (v : Int × Int × Int)
    (hv : ((s[j]'hj).toNat = 125 ∧ v = (if j + 1 < s.size then (0, ((j + 1 : Nat) : Int), 11) else (((set + 2 ^ m : Nat) : Int), 0, 0))) ∨ ((s[j]'hj).toNat ≠ 125 ∧ Ev (fun k => stackyardref01_Read.l0 k s (m : Int) ((set + 2 ^ m : Nat) : Int) ((j + 1 : Nat) : Int)) v)) :
    Ev (fun k => stackyardref01_Read.j5 k s (set : Int) (j : Int) (m : Int) false) v := by
  have ew : wrap64 (wrap64 ((j : Int) + 1) - 1) = (j : Int) := by unfold wrap64; omega
  have ew2 : wrap64 ((j : Int) + 1) = ((j + 1 : Nat) : Int) := wrap_succ j (by omega)
  have hb := bt_nat s j hj
  refine Ev.step (fun k => stackyardref01_Read.j5.eq_2 ..) ?_
  rw [ew, ew2, hb]
  simp only [Bool.false_eq_true, if_false]
  refine Ev.bind (worth_ev m (by omega)) ?_
  have c0 : (0 : Int) ≤ (j : Int) := by omega
  have c1 : (j : Int) < (s.size : Int) := by omega
  rcases hv with ⟨h125, rfl⟩ | ⟨h125, hv⟩
  · have c2 : ((s[j]'hj).toNat : Int) = 125 := by omega
    by_cases hlast : j + 1 < s.size
    · have c3 : ((j + 1 : Nat) : Int) < (s.size : Int) := by omega
      rw [if_pos hlast]
      refine Ev.congr (f := fun _ => some (0, ((j + 1 : Nat) : Int), 11)) (fun k => ?_) (Ev.now _)
      show (if (0 : Int) ≤ (j : Int) then _ else _) = _
      rw [if_pos c0, if_pos c1, if_pos c2, if_pos c3]
    · have c3 : ¬ ((j + 1 : Nat) : Int) < (s.size : Int) := by omega
      rw [if_neg hlast]
      refine Ev.congr (f := fun _ => some (((set + 2 ^ m : Nat) : Int), 0, 0)) (fun k => ?_) (Ev.now _)
      show (if (0 : Int) ≤ (j : Int) then _ else _) = _
      rw [if_pos c0, if_pos c1, if_pos c2, if_neg c3, hsum]
  · have c2 : ¬ ((s[j]'hj).toNat : Int) = 125 := by omega
    refine Ev.congr (fun k => ?_) hv
    show (if (0 : Int) ≤ (j : Int) then _ else _) = _
    rw [if_pos c0, if_pos c1, if_neg c2, hsum]
theorem read_l0 (s : ByteArray) (hz : s.size ≤ 1000) : ∀ (f set : Nat) (last : Int) (i : Nat), 1 ≤ i → i ≤ s.size → s.size < i + f → -1 ≤ last → last ≤ 62 → set < 2 ^ (last + 1).toNat → (i = 1 → ∀ h : 1 < s.size, (s[1]'h).toNat ≠ 125) →
    Ev (fun k => stackyardref01_Read.l0 k s last (set : Int) (i : Int)) (BR.outer s f set last i)
  | 0, set, last, i, h1, h2, h3, _, _, _, _ => by omega
  | f + 1, set, last, i, h1, h2, h3, hl1, hl2, hset, hfst => by
    refine Ev.step (fun k => stackyardref01_Read.l0.eq_2 ..) ?_
    refine read_l1 s hz last (set : Int) _ s.size (-1) i ⟨by omega, by omega⟩ (by omega) ?_
    have hsc := BR.scan_num (s := s) (last := last) s.size (-1) i ⟨by omega, by omega⟩
    unfold BR.outer
    generalize (BR.scan s last s.size (-1) i).1 = n at *
    generalize (BR.scan s last s.size (-1) i).2 = j at *
    obtain ⟨hn, hij⟩ := hsc
    unfold BR.Num at hn
    have no : ∀ b : Bool, b = true → Ev (fun k => stackyardref01_Read.j5 k s (set : Int) (j : Int) n b) (0, (j : Int), 11) := fun b hb => by
      subst hb
      refine Ev.step (fun k => stackyardref01_Read.j5.eq_2 ..) ?_
      simp only [if_true]
      exact Ev.now _
    refine Ev.step (fun k => stackyardref01_Read.j4.eq_2 ..) ?_
    simp only [Bool.false_eq_true, if_false]
    unfold BR.fin
    by_cases hj : j < s.size
    · rw [dif_pos hj]
      by_cases hln : last < n
      · rw [if_pos hln]
        simp only [if_neg (show ¬ n ≤ last by omega), if_neg (show ¬ (j : Int) ≥ (s.size : Int) by omega), if_pos (show (0 : Int) ≤ (j : Int) by omega), if_pos (show (j : Int) < (s.size : Int) by omega), bt_nat s j hj]
        obtain ⟨m, rfl⟩ : ∃ m : Nat, n = m := ⟨n.toNat, by omega⟩
        obtain ⟨hsum, hlt⟩ := pow_sum hset hl1 hln hn.2
        rw [Int.toNat_natCast] at hsum hlt ⊢
        have yes := fun v => read_j5 s hz (last := last) hj (by omega) hsum v
        by_cases h125 : (s[j]'hj).toNat = 125
        · rw [if_pos h125]
          simp only [if_neg (show ¬ ((s[j]'hj).toNat : Int) = 44 by omega), if_pos (show ((s[j]'hj).toNat : Int) = 125 by omega)]
          exact yes _ (.inl ⟨h125, rfl⟩)
        · rw [if_neg h125]
          by_cases h44 : (s[j]'hj).toNat = 44
          · simp only [if_pos (show ((s[j]'hj).toNat : Int) = 44 by omega)]
            by_cases h63 : (m : Int) < 63
            · rw [if_pos ⟨h44, h63⟩]
              rw [show ((m : Int) == 63) = false from beq_eq_false_iff_ne.2 (by omega)]
              exact yes _ (.inr ⟨h125, read_l0 s hz f (set + 2 ^ m) m (j + 1) (by omega) (by omega) (by omega) (by omega) (by omega) hlt (fun h => by omega)⟩)
            · rw [if_neg (fun h => h63 h.2)]
              exact no _ (beq_iff_eq.2 (by omega))
          · rw [if_neg (fun h => h44 h.1)]
            simp only [if_neg (show ¬ ((s[j]'hj).toNat : Int) = 44 by omega), if_neg (show ¬ ((s[j]'hj).toNat : Int) = 125 by omega)]
            exact no _ rfl
      · rw [if_neg hln]
        simp only [if_pos (show n ≤ last by omega)]
        have hno : ¬ ((s[j]'hj).toNat = 125 ∧ j = 1) := by
          rintro ⟨ha, rfl⟩
          exact hfst (by omega) hj ha
        rw [if_neg hno]
        exact no _ rfl
    · rw [dif_neg hj]
      by_cases hln : n ≤ last
      · simp only [if_pos hln]
        exact no _ rfl
      · simp only [if_neg hln, if_pos (show (j : Int) ≥ (s.size : Int) by omega)]
        exact no _ rfl
theorem refRead_ev (s : ByteArray) (hz : s.size ≤ 1000) : Ev (fun k => stackyardref01_Read.f k s) (BR.readM s) := by
  unfold stackyardref01_Read.f BR.readM
  have no : Ev (fun k => stackyardref01_Read.j0 k s true) (0, 0, 11) := by
    refine Ev.step (fun k => stackyardref01_Read.j0.eq_2 ..) ?_
    simp only [if_true]
    exact Ev.now _
  by_cases h0 : 0 < s.size
  · have hne : ¬ s.toList = ([] : List UInt8) := fun h => by
      have := toList_length s
      rw [h] at this
      simp at this
      omega
    simp only [if_neg hne, if_pos (show (0 : Int) < (s.size : Int) by omega)]
    rw [dif_pos h0]
    have hb := bt_nat s 0 h0
    rw [show ((0 : Nat) : Int) = 0 from rfl] at hb
    simp only [hb]
    by_cases h123 : (s[0]'h0).toNat = 123
    · rw [if_pos h123]
      rw [show (((s[0]'h0).toNat : Int) != 123) = false by rw [h123]; rfl]
      refine Ev.step (fun k => stackyardref01_Read.j0.eq_2 ..) ?_
      simp only [Bool.false_eq_true, if_false]
      have go : (∀ h : 1 < s.size, (s[1]'h).toNat ≠ 125) → Ev (fun k => stackyardref01_Read.j1 k s false) (BR.outer s s.size 0 (-1) 1) := fun hn => by
        refine Ev.step (fun k => stackyardref01_Read.j1.eq_2 ..) ?_
        simp only [Bool.false_eq_true, if_false]
        exact read_l0 s hz s.size 0 (-1) 1 (by omega) (by omega) (by omega) (by omega) (by omega) (by decide) (fun _ => hn)
      by_cases h1 : 1 < s.size
      · simp only [if_pos (show (s.size : Int) > 1 by omega), if_pos (show (1 : Int) < (s.size : Int) by omega)]
        have hb1 := bt_nat s 1 h1
        rw [show ((1 : Nat) : Int) = 1 from rfl] at hb1
        simp only [hb1]
        by_cases h125 : (s[1]'h1).toNat = 125
        · rw [show (((s[1]'h1).toNat : Int) == 125) = true by rw [h125]; rfl]
          refine Ev.step (fun k => stackyardref01_Read.j1.eq_2 ..) ?_
          simp only [if_true]
          have hout : BR.outer s s.size 0 (-1) 1 = if 2 < s.size then (0, 2, 11) else (0, 0, 0) := by
            obtain ⟨f, hf⟩ : ∃ f, s.size = f + 1 := ⟨s.size - 1, by omega⟩
            have hsc : BR.scan s (-1) s.size (-1) 1 = (-1, 1) := by
              rw [hf]
              unfold BR.scan
              rw [dif_pos h1, if_neg (by rw [h125]; simp [BR.dig])]
            conv => lhs; arg 2; rw [hf]
            unfold BR.outer
            rw [hsc]
            unfold BR.fin
            simp only
            rw [dif_pos h1, if_neg (by omega), if_pos (by simp [h125])]
            rfl
          rw [hout]
          by_cases h2 : 2 < s.size
          · simp only [if_pos h2, if_pos (show (s.size : Int) > 2 by omega)]
            exact Ev.now _
          · simp only [if_neg h2, if_neg (show ¬ (s.size : Int) > 2 by omega)]
            exact Ev.now _
        · rw [show (((s[1]'h1).toNat : Int) == 125) = false from beq_eq_false_iff_ne.2 (by omega)]
          exact go fun _ => h125
      · simp only [if_neg (show ¬ (s.size : Int) > 1 by omega)]
        exact go fun h => absurd h h1
    · rw [if_neg h123]
      rw [show (((s[0]'h0).toNat : Int) != 123) = true from bne_iff_ne.2 (by omega)]
      exact no
  · have he : s.toList = ([] : List UInt8) := List.length_eq_zero_iff.1 (by rw [toList_length]; omega)
    simp only [if_pos he]
    rw [dif_neg h0]
    exact no

theorem join_snoc (sep : List UInt8) : ∀ (l : List (List UInt8)) (x : List UInt8), l ≠ [] → Go.Lib.join (l ++ [x]) sep = Go.Lib.join l sep ++ (sep ++ x)
  | [], x, h => absurd rfl h
  | y :: l, x, _ => by
    rw [List.cons_append, Go.Lib.join_cons, Go.Lib.join_cons]
    unfold Go.Lib.joinTail
    simp
def headB (l : List Int) : ByteArray := (⟨#[123]⟩ : ByteArray) ++ (⟨(Go.Lib.join ((strs l).map (·.data.toList)) (⟨#[44]⟩ : ByteArray).data.toList).toArray⟩ : ByteArray)
theorem textB_head (s : Nat) : textB s = headB (bl s) ++ (⟨#[125]⟩ : ByteArray) := rfl
theorem headB_nil : headB [] = (⟨#[123]⟩ : ByteArray) := by decide +kernel
theorem ba_ext {a b : ByteArray} (h : a.data.toList = b.data.toList) : a = b := ByteArray.ext (Array.toList_inj.1 h)
theorem headB_snoc (l : List Int) (x : Int) (h : l ≠ []) : headB (l ++ [x]) = headB l ++ (⟨#[44]⟩ : ByteArray) ++ numS x := by
  have hne : (strs l).map (·.data.toList) ≠ [] := by simpa [strs] using h
  apply ba_ext
  unfold headB
  rw [strs_snoc, List.map_append, List.map_singleton, join_snoc _ _ _ hne]
  simp
theorem headB_one (x : Int) : headB [x] = headB [] ++ numS x := by
  apply ba_ext
  unfold headB
  simp [strs, Go.Lib.join_one, Go.Lib.join_nil]
theorem headB_size (l : List Int) (hl : l.length ≤ 64) (hr : ∀ x ∈ l, 0 ≤ x ∧ x < 64) : (headB l).size ≤ 2000 := by
  have h := join_le (⟨#[44]⟩ : ByteArray).data.toList ((strs l).map (·.data.toList)) 21 (by
    intro x hx
    obtain ⟨y, hy, rfl⟩ := List.mem_map.1 hx
    obtain ⟨z, hz, rfl⟩ := List.mem_map.1 hy
    exact numS_len z (hr z hz))
  have e : (⟨#[44]⟩ : ByteArray).data.toList.length = 1 := rfl
  rw [e, List.length_map] at h
  have h3 : (strs l).length ≤ 64 := by unfold strs; rw [List.length_map]; exact hl
  have h4 := Nat.mul_le_mul_right (21 + 1) h3
  unfold headB
  rw [ByteArray.size_append]
  have e1 : (⟨#[123]⟩ : ByteArray).size = 1 := rfl
  have e2 : (⟨(Go.Lib.join ((strs l).map (·.data.toList)) (⟨#[44]⟩ : ByteArray).data.toList).toArray⟩ : ByteArray).size = (Go.Lib.join ((strs l).map (·.data.toList)) (⟨#[44]⟩ : ByteArray).data.toList).length := rfl
  rw [e1, e2]
  omega
theorem itoa_eq (x : Int) (h : 0 ≤ x ∧ x < 64) : strconv_Itoa.f x = some (numS x) := by
  unfold strconv_Itoa.f
  rw [if_pos (by omega)]
  rfl
theorem text_l0 (L : List Int) (hL : L.length ≤ 64) (hr : ∀ x ∈ L, 0 ≤ x ∧ x < 64) : ∀ (r i : Nat), i + r = L.length → Ev (fun k => stackyardref01_Text.l0 k (headB (L.take i)) L (i : Int)) (headB L ++ (⟨#[125]⟩ : ByteArray))
  | 0, i, h => by
    refine Ev.step (fun k => stackyardref01_Text.l0.eq_2 ..) ?_
    have hz := headB_size L hL hr
    rw [List.take_of_length_le (by omega)]
    simp only [if_neg (show ¬ (i : Int) < (L.length : Int) by omega), if_pos (show (headB L).size + 1 ≤ 9223372036854775807 by omega)]
    exact Ev.now _
  | r + 1, i, h => by
    refine Ev.step (fun k => stackyardref01_Text.l0.eq_2 ..) ?_
    have hi : i < L.length := by omega
    have hd := rd_cons L i hi
    have hmem : rd L (i : Int) ∈ L := List.mem_of_mem_drop (hd ▸ List.mem_cons_self)
    have hx := hr _ hmem
    have htk : L.take (i + 1) = L.take i ++ [rd L (i : Int)] := by
      rw [List.take_add_one]
      congr 1
      simp [rd, List.getD_eq_getElem?_getD, List.getElem?_eq_getElem hi]
    have hz := headB_size (L.take i) (by simp; omega) (fun x hx => hr x (List.mem_of_mem_take hx))
    have hzx : (numS (rd L (i : Int))).size ≤ 21 := numS_len _ hx
    have ih := text_l0 L hL hr r (i + 1) (by omega)
    simp only [if_pos (show (i : Int) < (L.length : Int) by omega), if_pos (show (0 : Int) ≤ (i : Int) by omega), itoa_eq _ hx, Option.bind_some, wrap_succ i (by omega)]
    by_cases h0 : i = 0
    · subst h0
      simp only [if_neg (show ¬ ((0 : Nat) : Int) > 0 by omega), if_pos (show (headB (L.take 0)).size + (numS (rd L ((0 : Nat) : Int))).size ≤ 9223372036854775807 by omega)]
      rw [htk, List.take_zero, List.nil_append, headB_one] at ih
      exact ih
    · simp only [if_pos (show (i : Int) > 0 by omega), if_pos (show (headB (L.take i)).size + 1 ≤ 9223372036854775807 by omega), if_pos (show (headB (L.take i)).size + 1 + (numS (rd L (i : Int))).size ≤ 9223372036854775807 by omega)]
      rw [htk, headB_snoc _ _ (fun h => by have := congrArg List.length h; rw [List.length_take, List.length_nil] at this; omega)] at ih
      exact ih
theorem refText_ev (s : Nat) (hs : s < 18446744073709551616) : Ev (fun k => stackyardref01_Text.f k (s : Int)) (textB s) := by
  unfold stackyardref01_Text.f
  refine Ev.bind (refList_ev s hs) ?_
  have := text_l0 (bl s) (bl_length s) (bl_range s) (bl s).length 0 (by omega)
  rw [List.take_zero, headB_nil] at this
  rw [textB_head]
  exact this
theorem bread_eq (t : ByteArray) (h : t.size ≤ 140737488355328) : bits_Read.f t = some (BR.readM t) := by
  unfold bits_Read.f
  rw [if_pos h]
theorem small_text (t : ByteArray) (h : t.size ≤ 1000) : t.size ≤ 140737488355328 := Nat.le_trans h (by decide)
theorem texts_j0 (s : Nat) (hs : s < 18446744073709551616) (t : ByteArray) (ht : t.size ≤ 1000) : Ev (fun k => stackyardlaw01_BitsTexts.j0 k (s : Int) t) true := by
  refine Ev.step (fun k => stackyardlaw01_BitsTexts.j0.eq_2 ..) ?_
  have hr := bread_eq t (small_text t ht)
  have hx := text_eq s hs
  have h1 := refRead_ev t ht
  have h2 := refText_ev s hs
  generalize BR.readM t = v at *
  generalize textB s = x at *
  refine Ev.bind (g := fun _ => bits_Read.f t) ⟨0, fun _ _ => hr⟩ ?_
  refine Ev.bind h1 ?_
  refine Ev.bind (g := fun _ => bits_Text.f (s : Int)) ⟨0, fun _ _ => hx⟩ ?_
  refine Ev.bind h2 ?_
  simp only [if_true]
  exact Ev.bind alive_ev (Ev.now _)
theorem BitsTexts (s : Nat) (hs : s < 18446744073709551616) (t : ByteArray) : Ev (fun k => stackyardlaw01_BitsTexts.f k (s : Int) t) true := by
  have main := texts_j0 s hs
  unfold stackyardlaw01_BitsTexts.f
  by_cases h : (t.size : Int) > 1000
  · simp only [if_pos h, if_pos (show (0 : Int) ≤ 1000 by omega), if_pos (show (1000 : Int) ≤ (t.size : Int) by omega)]
    exact main _ (by rw [ByteArray.size_extract]; omega)
  · simp only [if_neg h]
    exact main t (by omega)

end Go.Proofs.YtpaikjnmopkekaaDoor.BitA
