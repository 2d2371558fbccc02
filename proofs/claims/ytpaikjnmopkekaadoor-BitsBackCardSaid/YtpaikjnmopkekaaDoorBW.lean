/-
  The set of a text: the program's functions, walked.
-/
import Derived.Test.YtpaikjnmopkekaaDoorShelf
import Derived.Test.YtpaikjnmopkekaaDoorBR
import Derived.Lib.AppendIntMem
import Derived.Lib.SmallJoins
import Derived.Lib.LaidTab
import Derived.Laws.BytesString
import Derived.RangeFuncRecord
import Derived.Lib.SlicesS
import Derived.Laws.BitsAllLaws
namespace Go.Proofs.YtpaikjnmopkekaaDoor.BW
open Go.RowKit Go.Shelf Go.Sort
attribute [local go_sem] Oper.semAt_some
set_option linter.unusedVariables false
set_option linter.unusedSimpArgs false
abbrev Tab10 (w : World) : Prop := Go.Lib.TabIs Tryd.prog w "internal/strconv.uint64pow10" .u64 Go.Lib.pow10Tab
theorem tab10_named : Tryd.prog.globalNamed "internal/strconv.uint64pow10" = some 3 := by kernel_rfl
theorem tab10_below {w w' : World} (h : Tab10 w) (hb : Below w.heap.size w w') : Tab10 w' := Go.Joins.var_stays tab10_named h hb (Nat.le_refl _)
def bA (l : List UInt8) : ByteArray := ⟨l.toArray⟩
theorem itoa_at (n : Int) (h0 : 0 ≤ n) (h1 : n ≤ 9223372036854775807) (W : World) (hT : Tab10 W) : Calls Tryd.prog 39 #[.int .i64 n] W fun e w' => e = .returned (.string (bA (Lib.decDigits n.toNat))) ∧ Below W.heap.size W w' := by
  refine (Tryd.strconv_Itoa n (by omega) h1 W hT).mono ?_
  rintro e w' ⟨rfl, k, os, rfl⟩
  refine ⟨?_, Go.Lib.below_grow _ _ (Nat.le_refl _) _ _⟩
  unfold Lib.itoa
  rw [if_neg (by omega)]
  rfl
theorem atoi_at (s : ByteArray) (n : Int) (hl : s.size ≤ 18) (h : Lib.atoi s.data.toList = some n) (W : World) : Calls Tryd.prog 36 #[.string s] W fun e w' => e = .returned (.tuple #[.int .i64 n, .nilIface]) ∧ Below W.heap.size W w' := by
  refine (Tryd.strconv_Atoi s n hl h W).mono ?_
  rintro e w' ⟨rfl, t, rfl⟩
  exact ⟨rfl, Go.Lib.bytesWorld_below _ _ _⟩
set_option maxRecDepth 100000 in
set_option maxHeartbeats 4000000 in
theorem begins_at (t : ByteArray) (n d last : Int) (hn : BR.Num n) (hd : 0 ≤ d ∧ d ≤ 9) (hl : -1 ≤ last ∧ last ≤ 62) (ht : t.data.toList = BR.lets n ++ [BR.let_ d]) (hz : t.size ≤ 18) (w : World) (hT : Tab10 w) :
    Calls Tryd.prog 35 #[.string t, .int .i64 last] w fun e w' => e = .returned (.bool (BR.may n d last)) ∧ Below w.heap.size w w' := by
  have hat : Lib.atoi t.data.toList = some (BR.nx n d) := by rw [ht]; exact BR.atoi_more hd hn.1
  have hx : 0 ≤ BR.nx n d ∧ BR.nx n d ≤ 639 := by
    unfold BR.Num at hn
    unfold BR.nx; split <;> omega
  have heq : bA (Lib.decDigits (BR.nx n d).toNat) = t ↔ n ≠ 0 := by
    rw [← BR.itoa_more hd hn.1, ← ht]
    constructor
    · intro h; rw [← h]; rfl
    · intro h; unfold bA; rw [h]
  have hm := fun h0 => BR.may_eq hd hn h0 hl
  have hm0 : n = 0 → BR.may n d last = false := fun h => by unfold BR.may; rw [if_pos h]
  generalize BR.nx n d = x at *
  generalize hv : BR.may n d last = v at *
  clear hv
  have key : ∀ (b : Bool), ((bA (Lib.decDigits x.toNat)).toList == t.toList) = b → (b = false ↔ n = 0) := fun b hb => by
    cases b with
    | false => rw [Go.Lib.bytes_beq_false_iff] at hb; simp; exact Classical.not_not.1 fun h => hb (heq.2 h)
    | true => rw [Go.Lib.bytes_beq_iff] at hb; simp; exact heq.1 hb
  cases hb : ((bA (Lib.decDigits x.toNat)).toList == t.toList)
  · have h0 := (key _ hb).1 rfl
    have hv := hm0 h0
    subst hv
    clear hm hm0 key heq
    go_enter Tryd.func35, Tryd.ntmps35
    go_wp2_with (first
      | (go_at_call 36; refine (atoi_at t x hz hat _).mono ?_; rintro e w1 ⟨rfl, hb1⟩; have hT1 := tab10_below hT hb1)
      | (go_at_call 39; refine (itoa_at x hx.1 (by omega) _ hT1).mono ?_; rintro e w2 ⟨rfl, hb2⟩))
    go_ret
    exact ⟨rfl, hb1.trans (hb2.mono hb1.size)⟩
  · have h0 : n ≠ 0 := fun h => by have := (key _ hb).2 h; cases this
    have hv := hm h0
    subst hv
    clear hm hm0 key heq
    go_enter Tryd.func35, Tryd.ntmps35
    go_wp2_with (first
      | (go_at_call 36; refine (atoi_at t x hz hat _).mono ?_; rintro e w1 ⟨rfl, hb1⟩; have hT1 := tab10_below hT hb1)
      | (go_at_call 39; refine (itoa_at x hx.1 (by omega) _ hT1).mono ?_; rintro e w2 ⟨rfl, hb2⟩))
    all_goals
      go_ret
      refine ⟨?_, hb1.trans (hb2.mono hb1.size)⟩
      show Ending.returned (Value.bool _) = Ending.returned (Value.bool _)
      congr 2
      rw [Bool.eq_iff_iff]
      simp only [Bool.or_eq_true, Bool.and_eq_true, decide_eq_true_eq, Bool.false_eq_true, eq_self_iff_true, true_iff, false_iff]
      omega
theorem prefix_at (s p : ByteArray) (w : World) : Calls Tryd.prog 34 #[.string s, .string p] w fun e w' => e = .returned (.bool (Lib.hasPrefix s.data.toList p.data.toList)) ∧ w' = w := Tryd.strings_HasPrefix s p w
theorem prefix_brace (s : ByteArray) : Lib.hasPrefix s.data.toList (⟨#[123]⟩ : ByteArray).data.toList = if h : 0 < s.size then decide ((s[0]'h).toNat = 123) else false := by
  obtain ⟨⟨l⟩⟩ := s
  cases l with
  | nil => rfl
  | cons b l =>
    have h : 0 < (⟨⟨b :: l⟩⟩ : ByteArray).size := by show 0 < (b :: l).length; simp
    rw [dif_pos h]
    have e : (⟨⟨b :: l⟩⟩ : ByteArray)[0]'h = b := rfl
    rw [e]
    show (([123] : List UInt8).isPrefixOf (b :: l)) = _
    simp only [List.isPrefixOf, Bool.and_true]
    rw [Bool.eq_iff_iff, beq_iff_eq, decide_eq_true_eq]
    constructor
    · intro h; rw [← h]; rfl
    · intro h; exact (UInt8.toNat.inj h).symm
/-- Whether the variable of the error is as it was laid. -/
def ErrS (w : World) : Prop := ∃ tp p, w.var? Tryd.prog "strconv.ErrSyntax" = some #[.iface tp p]
theorem err_named : Tryd.prog.globalNamed "strconv.ErrSyntax" = some 1 := by kernel_rfl
theorem err_below {w w' : World} (h : ErrS w) (hb : Below w.heap.size w w') : ErrS w' := by
  obtain ⟨tp, p, h⟩ := h
  exact ⟨tp, p, Go.Joins.var_stays err_named h hb (Nat.le_refl _)⟩
theorem atoi_none (w : World) (h : ErrS w) : Calls Tryd.prog 36 #[.string ⟨#[]⟩] w fun e w' => (∃ t p, e = .returned (.tuple #[.int .i64 0, .iface t (.pointer (some p))])) ∧ Below w.heap.size w w' := by
  obtain ⟨tp, p, h⟩ := h
  refine (Tryd.strconv_Atoi_syntax_var ⟨#[]⟩ (by decide) (by decide +kernel) tp p w h).mono ?_
  rintro e w' ⟨N, rfl, _, _, hb⟩
  exact ⟨⟨_, _, rfl⟩, hb⟩
def uv : Value → Nat
  | .int _ i => i.toNat
  | _ => 0
theorem or_sum {set : Nat} {n last : Int} (hs : set < 2 ^ (last + 1).toNat) (h0 : -1 ≤ last) (h1 : last < n) (h2 : n ≤ 63) : bits .or .u64 (set : Int) (IntKind.u64.wrap (2 ^ n.toNat)) = ((set + 2 ^ n.toNat : Nat) : Int) := by
  have hle : 2 ^ (last + 1).toNat ≤ 2 ^ n.toNat := Nat.pow_le_pow_right (by decide) (by omega)
  have hp : 2 ^ n.toNat < 2 ^ 64 := Nat.pow_lt_pow_right (by decide) (by omega)
  have e : ((2 : Int) ^ n.toNat) = ((2 ^ n.toNat : Nat) : Int) := by simp
  rw [e, IntKind.wrap_u64]
  generalize hP : 2 ^ n.toNat = P at *
  have hlt : set < P := by omega
  have hor : set ||| P = set + P := by
    have := Nat.two_pow_add_eq_or_of_lt (i := n.toNat) (b := set) (by rw [hP]; exact hlt) 1
    rw [Nat.mul_one, hP] at this
    rw [Nat.or_comm, ← this, Nat.add_comm]
  rw [show ((P : Int) % 18446744073709551616) = (P : Int) by omega, u64_or_nat set P (by omega) (by omega), hor]
theorem or_two {set : Nat} {n last : Int} (hs : set < 2 ^ (last + 1).toNat) (h0 : -1 ≤ last) (h1 : last < n) (h2 : n ≤ 63) : bits .or .u64 (set : Int) (2 ^ n.toNat) = (set : Int) + 2 ^ n.toNat := by
  have h := or_sum hs h0 h1 h2
  have hp : 2 ^ n.toNat < 2 ^ 64 := Nat.pow_lt_pow_right (by decide) (by omega)
  have e : ((2 : Int) ^ n.toNat) = ((2 ^ n.toNat : Nat) : Int) := by simp
  rw [e, IntKind.wrap_u64] at h
  rw [e]
  generalize hP : 2 ^ n.toNat = P at *
  rw [show ((P : Int) % 18446744073709551616) = (P : Int) by omega] at h
  rw [h]
  simp
theorem sum_lt {set : Nat} {n last : Int} (hs : set < 2 ^ (last + 1).toNat) (h0 : -1 ≤ last) (h1 : last < n) : set + 2 ^ n.toNat < 2 ^ (n + 1).toNat := by
  have hle : 2 ^ (last + 1).toNat ≤ 2 ^ n.toNat := Nat.pow_le_pow_right (by decide) (by omega)
  have e : (n + 1).toNat = n.toNat + 1 := by omega
  rw [e, Nat.pow_succ]
  omega
set_option maxRecDepth 100000 in
set_option maxHeartbeats 4000000 in
theorem Read_at (s : ByteArray) (r1 r2 r3 : Int) (hr : BR.readM s = (r1, r2, r3)) (hz : s.size ≤ 140737488355328) (w : World) (hT : Tab10 w) (hE : ErrS w) :
    Calls Tryd.prog 27 #[.string s] w fun e w' => e = .returned (.tuple #[.int .u64 r1, .int .i64 r2, .int .i64 r3]) ∧ Below w.heap.size w w' := by
  have hpre := prefix_brace s
  unfold BR.readM at hr
  cases hp : Lib.hasPrefix s.data.toList (⟨#[123]⟩ : ByteArray).data.toList
  · rw [hp] at hpre
    have h : (0, 0, 11) = (r1, r2, r3) := by
      split at hr
      · rename_i h0
        rw [dif_pos h0] at hpre
        rw [if_neg (of_decide_eq_false hpre.symm)] at hr
        exact hr
      · exact hr
    simp only [Prod.mk.injEq] at h
    obtain ⟨rfl, rfl, rfl⟩ := h
    clear hr hpre
    go_enter Tryd.func27, Tryd.ntmps27
    go_wp2_with (go_at_call 34; refine (prefix_at _ _ _).mono ?_; rintro e w' ⟨rfl, hw⟩; have hw := hw.symm; subst hw)
    go_ret3
    exact ⟨rfl, .refl _ _⟩
  · rw [hp] at hpre
    have h0 : 0 < s.size := by
      by_cases h : 0 < s.size
      · exact h
      · rw [dif_neg h] at hpre; cases hpre
    rw [dif_pos h0] at hpre
    rw [dif_pos h0, if_pos (of_decide_eq_true hpre.symm)] at hr
    clear hpre
    go_enter Tryd.func27, Tryd.ntmps27
    go_wp2_with (go_at_call 34; refine (prefix_at _ _ _).mono ?_; rintro e w' ⟨rfl, hw⟩; have hw := hw.symm; subst hw)
    go_loopw [5, 6, 7] (fun v5 v6 v7 W => ∃ (set : Nat) (last : Int) (i b : Nat), v5 = .int .u64 set ∧ v6 = .int .i64 last ∧ v7 = .int .i64 i ∧ BR.outer s b set last i = (r1, r2, r3) ∧ 1 ≤ i ∧ i ≤ s.size ∧ s.size < i + b ∧ -1 ≤ last ∧ last ≤ 62 ∧ set < 2 ^ (last + 1).toNat ∧ Below w.heap.size w W) (fun v5 v6 v7 W => s.size - uv v7)
    case atStart => exact ⟨0, -1, 1, s.size, rfl, rfl, rfl, hr, by omega, by omega, by omega, by omega, by omega, by decide, .refl _ _⟩
    case round =>
      obtain ⟨set, last, i, b, rfl, rfl, rfl, ho, hi1, hi2, hb, hl1, hl2, hset, hB⟩ := hrel
      go_wp2
      go_loopw [7] (fun v7 W => ∃ (n : Int) (j c : Nat), v7 = .int .i64 j ∧ BR.Wd s i j n ∧ BR.scan s last c n j = BR.scan s last s.size (-1) i ∧ s.size ≤ j + c ∧ Below w.heap.size w W) (fun v7 W => s.size - uv v7)
      case atStart => exact ⟨-1, i, s.size, rfl, .new hi2, rfl, by omega, hB⟩
      case round =>
        obtain ⟨n, j, c, rfl, hwd, hs, hc, hB2⟩ := hrel
        have hni := hwd.le
        have hnz := hwd.sz
        have hnn := hwd.num
        unfold BR.Num at hnn
        have hsj : ∀ W, (Instr.sliceAt 9 (.string s) (some (.int .i64 (i : Int))) (some (.int .i64 (j : Int))) none).run Tryd.prog W = .ok (.string (s.extract i j)) W := fun W => by
          rw [run_sliceAt_string W 9 _ _ _ _ (by kernel_rfl), run_slice_string W 9 s .i64 .i64 (i : Int) (j : Int) (by kernel_rfl) (by omega) (by omega) (by omega)]
          simp
        by_cases hj : j < s.size
        · have hsl : ∀ W, (Instr.sliceAt 9 (.string s) (some (.int .i64 (i : Int))) (some (.int .i64 ((j : Int) + 1))) none).run Tryd.prog W = .ok (.string (s.extract i (j + 1))) W := fun W => by
            rw [run_sliceAt_string W 9 _ _ _ _ (by kernel_rfl), run_slice_string W 9 s .i64 .i64 (i : Int) ((j : Int) + 1) (by kernel_rfl) (by omega) (by omega) (by omega)]
            rfl
          by_cases hdg : BR.dig (s[j]'hj).toNat = true
          · have hd := BR.dig_rng hdg
            have h48 : 48 ≤ ((s[j]'hj).toNat : Int) := by omega
            have h57 : ((s[j]'hj).toNat : Int) ≤ 57 := by omega
            have hbg := begins_at (s.extract i (j + 1)) n (((s[j]'hj).toNat : Int) - 48) last hwd.num hd ⟨hl1, hl2⟩ (hwd.more hj hdg) (by have := hwd.more_short hj; omega) wr (tab10_below hT hB2)
            cases hmy : BR.may n (((s[j]'hj).toNat : Int) - 48) last
            · rw [hmy] at hbg
              have hstop : BR.scan s last c n j = (n, j) := by
                cases c with
                | zero => rfl
                | succ c => unfold BR.scan; rw [dif_pos hj, if_neg (by rw [hmy]; simp)]
              obtain ⟨b, rfl⟩ : ∃ b', b = b' + 1 := ⟨b - 1, by omega⟩
              unfold BR.outer at ho
              rw [hs.symm.trans hstop] at ho
              simp only at ho
              unfold BR.fin at ho
              have hsz : ((j : Int) == (s.size : Int)) = false := beq_eq_false_iff_ne.2 (by omega)
              rw [dif_pos hj] at ho
              by_cases hln : last < n
              · rw [if_pos hln] at ho
                have hat := atoi_at (s.extract i j) n (by have := hwd.short; omega) (hwd.atoi (by omega))
                have hun : IntKind.u64.wrap n = n := by rw [IntKind.wrap_u64]; omega
                have hor := or_sum hset hl1 hln hnn.2
                have hsum := sum_lt hset hl1 hln
                have hor2 : bits BinOp.or IntKind.u64 (set : Int) (2 ^ n.toNat) = (set : Int) + 2 ^ n.toNat := by
                  have := or_two hset hl1 hln hnn.2
                  exact this
                by_cases h125 : (s[j]'hj).toNat = 125
                · rw [if_pos h125] at ho
                  have h125a : (((s[j]'hj).toNat : Int) == 125) = true := beq_iff_eq.2 (by omega)
                  by_cases hlast : j + 1 < s.size
                  · rw [if_pos hlast] at ho
                    simp only [Prod.mk.injEq] at ho
                    obtain ⟨rfl, rfl, rfl⟩ := ho
                    go_wp2_with (first
                      | (go_at_call 35; refine hbg.mono ?_; rintro e w2 ⟨rfl, hb2⟩)
                      | (go_at_call 36; refine (hat _).mono ?_; rintro e w3 ⟨rfl, hb3⟩)
                      | (go_at_call 36; refine (atoi_none _ (err_below hE (by (first | exact hB2.trans ((hb2.mono hB2.size).trans (hb3.mono (Nat.le_trans hB2.size hb2.size))) | exact hB2.trans (hb3.mono hB2.size) | exact hB2.trans (hb2.mono hB2.size) | exact hB2)))).mono ?_; rintro e w3 ⟨⟨ty, pp, rfl⟩, hb3⟩))
                    all_goals
                      go_ret3
                      refine ⟨?_, by (first | exact hB2.trans ((hb2.mono hB2.size).trans (hb3.mono (Nat.le_trans hB2.size hb2.size))) | exact hB2.trans (hb3.mono hB2.size) | exact hB2.trans (hb2.mono hB2.size) | exact hB2)⟩
                      first
                        | rfl
                        | simp
                        | simp [hor2]
                  · rw [if_neg hlast] at ho
                    simp only [Prod.mk.injEq] at ho
                    obtain ⟨rfl, rfl, rfl⟩ := ho
                    go_wp2_with (first
                      | (go_at_call 35; refine hbg.mono ?_; rintro e w2 ⟨rfl, hb2⟩)
                      | (go_at_call 36; refine (hat _).mono ?_; rintro e w3 ⟨rfl, hb3⟩)
                      | (go_at_call 36; refine (atoi_none _ (err_below hE (by (first | exact hB2.trans ((hb2.mono hB2.size).trans (hb3.mono (Nat.le_trans hB2.size hb2.size))) | exact hB2.trans (hb3.mono hB2.size) | exact hB2.trans (hb2.mono hB2.size) | exact hB2)))).mono ?_; rintro e w3 ⟨⟨ty, pp, rfl⟩, hb3⟩))
                    all_goals
                      go_ret3
                      refine ⟨?_, by (first | exact hB2.trans ((hb2.mono hB2.size).trans (hb3.mono (Nat.le_trans hB2.size hb2.size))) | exact hB2.trans (hb3.mono hB2.size) | exact hB2.trans (hb2.mono hB2.size) | exact hB2)⟩
                      first
                        | rfl
                        | simp
                        | simp [hor2]
                · rw [if_neg h125] at ho
                  have h125a : (((s[j]'hj).toNat : Int) == 125) = false := beq_eq_false_iff_ne.2 (by omega)
                  by_cases h44 : (s[j]'hj).toNat = 44
                  · have h44a : (((s[j]'hj).toNat : Int) == 44) = true := beq_iff_eq.2 (by omega)
                    by_cases h63 : n < 63
                    · rw [if_pos ⟨h44, h63⟩] at ho
                      go_wp2_with (first
                        | (go_at_call 35; refine hbg.mono ?_; rintro e w2 ⟨rfl, hb2⟩)
                        | (go_at_call 36; refine (hat _).mono ?_; rintro e w3 ⟨rfl, hb3⟩)
                        | (go_at_call 36; refine (atoi_none _ (err_below hE (by (first | exact hB2.trans ((hb2.mono hB2.size).trans (hb3.mono (Nat.le_trans hB2.size hb2.size))) | exact hB2.trans (hb3.mono hB2.size) | exact hB2.trans (hb2.mono hB2.size) | exact hB2)))).mono ?_; rintro e w3 ⟨⟨ty, pp, rfl⟩, hb3⟩))
                      refine ⟨⟨set + 2 ^ n.toNat, n, j + 1, b, ?_, rfl, ?_, ho, by omega, hj, by omega, by omega, by omega, hsum, by (first | exact hB2.trans ((hb2.mono hB2.size).trans (hb3.mono (Nat.le_trans hB2.size hb2.size))) | exact hB2.trans (hb3.mono hB2.size) | exact hB2.trans (hb2.mono hB2.size) | exact hB2)⟩, ?_⟩
                      · first
                          | rfl
                          | simp
                          | simp [hor2]
                      · simp
                      · simp only [uv]; simp; omega
                    · rw [if_neg (fun h => h63 h.2)] at ho
                      simp only [Prod.mk.injEq] at ho
                      obtain ⟨rfl, rfl, rfl⟩ := ho
                      go_wp2_with (first
                        | (go_at_call 35; refine hbg.mono ?_; rintro e w2 ⟨rfl, hb2⟩)
                        | (go_at_call 36; refine (hat _).mono ?_; rintro e w3 ⟨rfl, hb3⟩)
                        | (go_at_call 36; refine (atoi_none _ (err_below hE (by (first | exact hB2.trans ((hb2.mono hB2.size).trans (hb3.mono (Nat.le_trans hB2.size hb2.size))) | exact hB2.trans (hb3.mono hB2.size) | exact hB2.trans (hb2.mono hB2.size) | exact hB2)))).mono ?_; rintro e w3 ⟨⟨ty, pp, rfl⟩, hb3⟩))
                      all_goals
                        go_ret3
                        refine ⟨?_, by (first | exact hB2.trans ((hb2.mono hB2.size).trans (hb3.mono (Nat.le_trans hB2.size hb2.size))) | exact hB2.trans (hb3.mono hB2.size) | exact hB2.trans (hb2.mono hB2.size) | exact hB2)⟩
                        first
                          | rfl
                          | simp
                          | simp [hor2]
                  · have h44a : (((s[j]'hj).toNat : Int) == 44) = false := beq_eq_false_iff_ne.2 (by omega)
                    rw [if_neg (fun h => h44 h.1)] at ho
                    simp only [Prod.mk.injEq] at ho
                    obtain ⟨rfl, rfl, rfl⟩ := ho
                    go_wp2_with (first
                      | (go_at_call 35; refine hbg.mono ?_; rintro e w2 ⟨rfl, hb2⟩)
                      | (go_at_call 36; refine (hat _).mono ?_; rintro e w3 ⟨rfl, hb3⟩)
                      | (go_at_call 36; refine (atoi_none _ (err_below hE (by (first | exact hB2.trans ((hb2.mono hB2.size).trans (hb3.mono (Nat.le_trans hB2.size hb2.size))) | exact hB2.trans (hb3.mono hB2.size) | exact hB2.trans (hb2.mono hB2.size) | exact hB2)))).mono ?_; rintro e w3 ⟨⟨ty, pp, rfl⟩, hb3⟩))
                    all_goals
                      go_ret3
                      refine ⟨?_, by (first | exact hB2.trans ((hb2.mono hB2.size).trans (hb3.mono (Nat.le_trans hB2.size hb2.size))) | exact hB2.trans (hb3.mono hB2.size) | exact hB2.trans (hb2.mono hB2.size) | exact hB2)⟩
                      first
                        | rfl
                        | simp
                        | simp [hor2]
              · rw [if_neg hln] at ho
                by_cases hn0 : n < 0
                · have hnil := hwd.none hn0
                  have hsj' := hsj
                  clear hsj
                  rw [hnil] at hsj'
                  by_cases h125 : (s[j]'hj).toNat = 125
                  · have h125a : (((s[j]'hj).toNat : Int) == 125) = true := beq_iff_eq.2 (by omega)
                    by_cases hj1 : j = 1
                    · have hj1a : ((j : Int) == 1) = true := beq_iff_eq.2 (by omega)
                      rw [if_pos ⟨h125, hj1⟩] at ho
                      by_cases hlast : 2 < s.size
                      · have hlast' : j + 1 < s.size := by omega
                        rw [if_pos hlast, show (2 : Int) = ((j + 1 : Nat) : Int) by omega] at ho
                        clear hj1
                        simp only [Prod.mk.injEq] at ho
                        obtain ⟨rfl, rfl, rfl⟩ := ho
                        go_wp2_with (first
                          | (go_at_call 35; refine hbg.mono ?_; rintro e w2 ⟨rfl, hb2⟩)
                          | (go_at_call 36; refine (hat _).mono ?_; rintro e w3 ⟨rfl, hb3⟩)
                          | (go_at_call 36; refine (atoi_none _ (err_below hE (by (first | exact hB2.trans ((hb2.mono hB2.size).trans (hb3.mono (Nat.le_trans hB2.size hb2.size))) | exact hB2.trans (hb3.mono hB2.size) | exact hB2.trans (hb2.mono hB2.size) | exact hB2)))).mono ?_; rintro e w3 ⟨⟨ty, pp, rfl⟩, hb3⟩))
                        all_goals
                          go_ret3
                          refine ⟨?_, by (first | exact hB2.trans ((hb2.mono hB2.size).trans (hb3.mono (Nat.le_trans hB2.size hb2.size))) | exact hB2.trans (hb3.mono hB2.size) | exact hB2.trans (hb2.mono hB2.size) | exact hB2)⟩
                          first
                            | rfl
                            | simp
                            | simp [hor2]
                      · have hlast' : ¬ j + 1 < s.size := by omega
                        rw [if_neg hlast] at ho
                        clear hj1
                        simp only [Prod.mk.injEq] at ho
                        obtain ⟨rfl, rfl, rfl⟩ := ho
                        go_wp2_with (first
                          | (go_at_call 35; refine hbg.mono ?_; rintro e w2 ⟨rfl, hb2⟩)
                          | (go_at_call 36; refine (hat _).mono ?_; rintro e w3 ⟨rfl, hb3⟩)
                          | (go_at_call 36; refine (atoi_none _ (err_below hE (by (first | exact hB2.trans ((hb2.mono hB2.size).trans (hb3.mono (Nat.le_trans hB2.size hb2.size))) | exact hB2.trans (hb3.mono hB2.size) | exact hB2.trans (hb2.mono hB2.size) | exact hB2)))).mono ?_; rintro e w3 ⟨⟨ty, pp, rfl⟩, hb3⟩))
                        all_goals
                          go_ret3
                          refine ⟨?_, by (first | exact hB2.trans ((hb2.mono hB2.size).trans (hb3.mono (Nat.le_trans hB2.size hb2.size))) | exact hB2.trans (hb3.mono hB2.size) | exact hB2.trans (hb2.mono hB2.size) | exact hB2)⟩
                          first
                            | rfl
                            | simp
                            | simp [hor2]
                    · have hj1a : ((j : Int) == 1) = false := beq_eq_false_iff_ne.2 (by omega)
                      rw [if_neg (fun h => hj1 h.2)] at ho
                      simp only [Prod.mk.injEq] at ho
                      obtain ⟨rfl, rfl, rfl⟩ := ho
                      go_wp2_with (first
                        | (go_at_call 35; refine hbg.mono ?_; rintro e w2 ⟨rfl, hb2⟩)
                        | (go_at_call 36; refine (hat _).mono ?_; rintro e w3 ⟨rfl, hb3⟩)
                        | (go_at_call 36; refine (atoi_none _ (err_below hE (by (first | exact hB2.trans ((hb2.mono hB2.size).trans (hb3.mono (Nat.le_trans hB2.size hb2.size))) | exact hB2.trans (hb3.mono hB2.size) | exact hB2.trans (hb2.mono hB2.size) | exact hB2)))).mono ?_; rintro e w3 ⟨⟨ty, pp, rfl⟩, hb3⟩))
                      all_goals
                        go_ret3
                        refine ⟨?_, by (first | exact hB2.trans ((hb2.mono hB2.size).trans (hb3.mono (Nat.le_trans hB2.size hb2.size))) | exact hB2.trans (hb3.mono hB2.size) | exact hB2.trans (hb2.mono hB2.size) | exact hB2)⟩
                        first
                          | rfl
                          | simp
                          | simp [hor2]
                  · have h125a : (((s[j]'hj).toNat : Int) == 125) = false := beq_eq_false_iff_ne.2 (by omega)
                    rw [if_neg (fun h => h125 h.1)] at ho
                    simp only [Prod.mk.injEq] at ho
                    obtain ⟨rfl, rfl, rfl⟩ := ho
                    go_wp2_with (first
                      | (go_at_call 35; refine hbg.mono ?_; rintro e w2 ⟨rfl, hb2⟩)
                      | (go_at_call 36; refine (hat _).mono ?_; rintro e w3 ⟨rfl, hb3⟩)
                      | (go_at_call 36; refine (atoi_none _ (err_below hE (by (first | exact hB2.trans ((hb2.mono hB2.size).trans (hb3.mono (Nat.le_trans hB2.size hb2.size))) | exact hB2.trans (hb3.mono hB2.size) | exact hB2.trans (hb2.mono hB2.size) | exact hB2)))).mono ?_; rintro e w3 ⟨⟨ty, pp, rfl⟩, hb3⟩))
                    all_goals
                      go_ret3
                      refine ⟨?_, by (first | exact hB2.trans ((hb2.mono hB2.size).trans (hb3.mono (Nat.le_trans hB2.size hb2.size))) | exact hB2.trans (hb3.mono hB2.size) | exact hB2.trans (hb2.mono hB2.size) | exact hB2)⟩
                      first
                        | rfl
                        | simp
                        | simp [hor2]
                · have hat := atoi_at (s.extract i j) n (by have := hwd.short; omega) (hwd.atoi (by omega))
                  by_cases h125 : (s[j]'hj).toNat = 125
                  · have h125a : (((s[j]'hj).toNat : Int) == 125) = true := beq_iff_eq.2 (by omega)
                    by_cases hj1 : j = 1
                    · have hj1a : ((j : Int) == 1) = true := beq_iff_eq.2 (by omega)
                      rw [if_pos ⟨h125, hj1⟩] at ho
                      by_cases hlast : 2 < s.size
                      · have hlast' : j + 1 < s.size := by omega
                        rw [if_pos hlast, show (2 : Int) = ((j + 1 : Nat) : Int) by omega] at ho
                        clear hj1
                        simp only [Prod.mk.injEq] at ho
                        obtain ⟨rfl, rfl, rfl⟩ := ho
                        go_wp2_with (first
                          | (go_at_call 35; refine hbg.mono ?_; rintro e w2 ⟨rfl, hb2⟩)
                          | (go_at_call 36; refine (hat _).mono ?_; rintro e w3 ⟨rfl, hb3⟩)
                          | (go_at_call 36; refine (atoi_none _ (err_below hE (by (first | exact hB2.trans ((hb2.mono hB2.size).trans (hb3.mono (Nat.le_trans hB2.size hb2.size))) | exact hB2.trans (hb3.mono hB2.size) | exact hB2.trans (hb2.mono hB2.size) | exact hB2)))).mono ?_; rintro e w3 ⟨⟨ty, pp, rfl⟩, hb3⟩))
                        all_goals
                          go_ret3
                          refine ⟨?_, by (first | exact hB2.trans ((hb2.mono hB2.size).trans (hb3.mono (Nat.le_trans hB2.size hb2.size))) | exact hB2.trans (hb3.mono hB2.size) | exact hB2.trans (hb2.mono hB2.size) | exact hB2)⟩
                          first
                            | rfl
                            | simp
                            | simp [hor2]
                      · have hlast' : ¬ j + 1 < s.size := by omega
                        rw [if_neg hlast] at ho
                        clear hj1
                        simp only [Prod.mk.injEq] at ho
                        obtain ⟨rfl, rfl, rfl⟩ := ho
                        go_wp2_with (first
                          | (go_at_call 35; refine hbg.mono ?_; rintro e w2 ⟨rfl, hb2⟩)
                          | (go_at_call 36; refine (hat _).mono ?_; rintro e w3 ⟨rfl, hb3⟩)
                          | (go_at_call 36; refine (atoi_none _ (err_below hE (by (first | exact hB2.trans ((hb2.mono hB2.size).trans (hb3.mono (Nat.le_trans hB2.size hb2.size))) | exact hB2.trans (hb3.mono hB2.size) | exact hB2.trans (hb2.mono hB2.size) | exact hB2)))).mono ?_; rintro e w3 ⟨⟨ty, pp, rfl⟩, hb3⟩))
                        all_goals
                          go_ret3
                          refine ⟨?_, by (first | exact hB2.trans ((hb2.mono hB2.size).trans (hb3.mono (Nat.le_trans hB2.size hb2.size))) | exact hB2.trans (hb3.mono hB2.size) | exact hB2.trans (hb2.mono hB2.size) | exact hB2)⟩
                          first
                            | rfl
                            | simp
                            | simp [hor2]
                    · have hj1a : ((j : Int) == 1) = false := beq_eq_false_iff_ne.2 (by omega)
                      rw [if_neg (fun h => hj1 h.2)] at ho
                      simp only [Prod.mk.injEq] at ho
                      obtain ⟨rfl, rfl, rfl⟩ := ho
                      go_wp2_with (first
                        | (go_at_call 35; refine hbg.mono ?_; rintro e w2 ⟨rfl, hb2⟩)
                        | (go_at_call 36; refine (hat _).mono ?_; rintro e w3 ⟨rfl, hb3⟩)
                        | (go_at_call 36; refine (atoi_none _ (err_below hE (by (first | exact hB2.trans ((hb2.mono hB2.size).trans (hb3.mono (Nat.le_trans hB2.size hb2.size))) | exact hB2.trans (hb3.mono hB2.size) | exact hB2.trans (hb2.mono hB2.size) | exact hB2)))).mono ?_; rintro e w3 ⟨⟨ty, pp, rfl⟩, hb3⟩))
                      all_goals
                        go_ret3
                        refine ⟨?_, by (first | exact hB2.trans ((hb2.mono hB2.size).trans (hb3.mono (Nat.le_trans hB2.size hb2.size))) | exact hB2.trans (hb3.mono hB2.size) | exact hB2.trans (hb2.mono hB2.size) | exact hB2)⟩
                        first
                          | rfl
                          | simp
                          | simp [hor2]
                  · have h125a : (((s[j]'hj).toNat : Int) == 125) = false := beq_eq_false_iff_ne.2 (by omega)
                    rw [if_neg (fun h => h125 h.1)] at ho
                    simp only [Prod.mk.injEq] at ho
                    obtain ⟨rfl, rfl, rfl⟩ := ho
                    go_wp2_with (first
                      | (go_at_call 35; refine hbg.mono ?_; rintro e w2 ⟨rfl, hb2⟩)
                      | (go_at_call 36; refine (hat _).mono ?_; rintro e w3 ⟨rfl, hb3⟩)
                      | (go_at_call 36; refine (atoi_none _ (err_below hE (by (first | exact hB2.trans ((hb2.mono hB2.size).trans (hb3.mono (Nat.le_trans hB2.size hb2.size))) | exact hB2.trans (hb3.mono hB2.size) | exact hB2.trans (hb2.mono hB2.size) | exact hB2)))).mono ?_; rintro e w3 ⟨⟨ty, pp, rfl⟩, hb3⟩))
                    all_goals
                      go_ret3
                      refine ⟨?_, by (first | exact hB2.trans ((hb2.mono hB2.size).trans (hb3.mono (Nat.le_trans hB2.size hb2.size))) | exact hB2.trans (hb3.mono hB2.size) | exact hB2.trans (hb2.mono hB2.size) | exact hB2)⟩
                      first
                        | rfl
                        | simp
                        | simp [hor2]
            · rw [hmy] at hbg
              obtain ⟨c, rfl⟩ : ∃ c', c = c' + 1 := ⟨c - 1, by omega⟩
              go_wp2_with (go_at_call 35; refine hbg.mono ?_; rintro e w2 ⟨rfl, hb2⟩)
              refine ⟨⟨_, j + 1, c, ?_, hwd.step hj hdg hmy, ?_, by omega, hB2.trans (hb2.mono hB2.size)⟩, ?_⟩
              · simp
              · rw [← hs]
                conv => rhs; unfold BR.scan
                rw [dif_pos hj, hdg, hmy]
                rfl
              · simp only [uv]; simp; omega
          · have hstop : BR.scan s last c n j = (n, j) := by
              cases c with
              | zero => rfl
              | succ c => unfold BR.scan; rw [dif_pos hj, if_neg (by rw [Bool.and_eq_true]; exact fun h => hdg h.1)]
            have hdd : ((s[j]'hj).toNat : Int) < 48 ∨ 57 < ((s[j]'hj).toNat : Int) := by
              unfold BR.dig at hdg
              simp only [Bool.and_eq_true, decide_eq_true_eq] at hdg
              omega
            rcases hdd with hd1 | hd2
            · obtain ⟨b, rfl⟩ : ∃ b', b = b' + 1 := ⟨b - 1, by omega⟩
              unfold BR.outer at ho
              rw [hs.symm.trans hstop] at ho
              simp only at ho
              unfold BR.fin at ho
              have hsz : ((j : Int) == (s.size : Int)) = false := beq_eq_false_iff_ne.2 (by omega)
              rw [dif_pos hj] at ho
              by_cases hln : last < n
              · rw [if_pos hln] at ho
                have hat := atoi_at (s.extract i j) n (by have := hwd.short; omega) (hwd.atoi (by omega))
                have hun : IntKind.u64.wrap n = n := by rw [IntKind.wrap_u64]; omega
                have hor := or_sum hset hl1 hln hnn.2
                have hsum := sum_lt hset hl1 hln
                have hor2 : bits BinOp.or IntKind.u64 (set : Int) (2 ^ n.toNat) = (set : Int) + 2 ^ n.toNat := by
                  have := or_two hset hl1 hln hnn.2
                  exact this
                by_cases h125 : (s[j]'hj).toNat = 125
                · rw [if_pos h125] at ho
                  have h125a : (((s[j]'hj).toNat : Int) == 125) = true := beq_iff_eq.2 (by omega)
                  by_cases hlast : j + 1 < s.size
                  · rw [if_pos hlast] at ho
                    simp only [Prod.mk.injEq] at ho
                    obtain ⟨rfl, rfl, rfl⟩ := ho
                    go_wp2_with (first
                      | (go_at_call 35; refine hbg.mono ?_; rintro e w2 ⟨rfl, hb2⟩)
                      | (go_at_call 36; refine (hat _).mono ?_; rintro e w3 ⟨rfl, hb3⟩)
                      | (go_at_call 36; refine (atoi_none _ (err_below hE (by (first | exact hB2.trans ((hb2.mono hB2.size).trans (hb3.mono (Nat.le_trans hB2.size hb2.size))) | exact hB2.trans (hb3.mono hB2.size) | exact hB2.trans (hb2.mono hB2.size) | exact hB2)))).mono ?_; rintro e w3 ⟨⟨ty, pp, rfl⟩, hb3⟩))
                    all_goals
                      go_ret3
                      refine ⟨?_, by (first | exact hB2.trans ((hb2.mono hB2.size).trans (hb3.mono (Nat.le_trans hB2.size hb2.size))) | exact hB2.trans (hb3.mono hB2.size) | exact hB2.trans (hb2.mono hB2.size) | exact hB2)⟩
                      first
                        | rfl
                        | simp
                        | simp [hor2]
                  · rw [if_neg hlast] at ho
                    simp only [Prod.mk.injEq] at ho
                    obtain ⟨rfl, rfl, rfl⟩ := ho
                    go_wp2_with (first
                      | (go_at_call 35; refine hbg.mono ?_; rintro e w2 ⟨rfl, hb2⟩)
                      | (go_at_call 36; refine (hat _).mono ?_; rintro e w3 ⟨rfl, hb3⟩)
                      | (go_at_call 36; refine (atoi_none _ (err_below hE (by (first | exact hB2.trans ((hb2.mono hB2.size).trans (hb3.mono (Nat.le_trans hB2.size hb2.size))) | exact hB2.trans (hb3.mono hB2.size) | exact hB2.trans (hb2.mono hB2.size) | exact hB2)))).mono ?_; rintro e w3 ⟨⟨ty, pp, rfl⟩, hb3⟩))
                    all_goals
                      go_ret3
                      refine ⟨?_, by (first | exact hB2.trans ((hb2.mono hB2.size).trans (hb3.mono (Nat.le_trans hB2.size hb2.size))) | exact hB2.trans (hb3.mono hB2.size) | exact hB2.trans (hb2.mono hB2.size) | exact hB2)⟩
                      first
                        | rfl
                        | simp
                        | simp [hor2]
                · rw [if_neg h125] at ho
                  have h125a : (((s[j]'hj).toNat : Int) == 125) = false := beq_eq_false_iff_ne.2 (by omega)
                  by_cases h44 : (s[j]'hj).toNat = 44
                  · have h44a : (((s[j]'hj).toNat : Int) == 44) = true := beq_iff_eq.2 (by omega)
                    by_cases h63 : n < 63
                    · rw [if_pos ⟨h44, h63⟩] at ho
                      go_wp2_with (first
                        | (go_at_call 35; refine hbg.mono ?_; rintro e w2 ⟨rfl, hb2⟩)
                        | (go_at_call 36; refine (hat _).mono ?_; rintro e w3 ⟨rfl, hb3⟩)
                        | (go_at_call 36; refine (atoi_none _ (err_below hE (by (first | exact hB2.trans ((hb2.mono hB2.size).trans (hb3.mono (Nat.le_trans hB2.size hb2.size))) | exact hB2.trans (hb3.mono hB2.size) | exact hB2.trans (hb2.mono hB2.size) | exact hB2)))).mono ?_; rintro e w3 ⟨⟨ty, pp, rfl⟩, hb3⟩))
                      refine ⟨⟨set + 2 ^ n.toNat, n, j + 1, b, ?_, rfl, ?_, ho, by omega, hj, by omega, by omega, by omega, hsum, by (first | exact hB2.trans ((hb2.mono hB2.size).trans (hb3.mono (Nat.le_trans hB2.size hb2.size))) | exact hB2.trans (hb3.mono hB2.size) | exact hB2.trans (hb2.mono hB2.size) | exact hB2)⟩, ?_⟩
                      · first
                          | rfl
                          | simp
                          | simp [hor2]
                      · simp
                      · simp only [uv]; simp; omega
                    · rw [if_neg (fun h => h63 h.2)] at ho
                      simp only [Prod.mk.injEq] at ho
                      obtain ⟨rfl, rfl, rfl⟩ := ho
                      go_wp2_with (first
                        | (go_at_call 35; refine hbg.mono ?_; rintro e w2 ⟨rfl, hb2⟩)
                        | (go_at_call 36; refine (hat _).mono ?_; rintro e w3 ⟨rfl, hb3⟩)
                        | (go_at_call 36; refine (atoi_none _ (err_below hE (by (first | exact hB2.trans ((hb2.mono hB2.size).trans (hb3.mono (Nat.le_trans hB2.size hb2.size))) | exact hB2.trans (hb3.mono hB2.size) | exact hB2.trans (hb2.mono hB2.size) | exact hB2)))).mono ?_; rintro e w3 ⟨⟨ty, pp, rfl⟩, hb3⟩))
                      all_goals
                        go_ret3
                        refine ⟨?_, by (first | exact hB2.trans ((hb2.mono hB2.size).trans (hb3.mono (Nat.le_trans hB2.size hb2.size))) | exact hB2.trans (hb3.mono hB2.size) | exact hB2.trans (hb2.mono hB2.size) | exact hB2)⟩
                        first
                          | rfl
                          | simp
                          | simp [hor2]
                  · have h44a : (((s[j]'hj).toNat : Int) == 44) = false := beq_eq_false_iff_ne.2 (by omega)
                    rw [if_neg (fun h => h44 h.1)] at ho
                    simp only [Prod.mk.injEq] at ho
                    obtain ⟨rfl, rfl, rfl⟩ := ho
                    go_wp2_with (first
                      | (go_at_call 35; refine hbg.mono ?_; rintro e w2 ⟨rfl, hb2⟩)
                      | (go_at_call 36; refine (hat _).mono ?_; rintro e w3 ⟨rfl, hb3⟩)
                      | (go_at_call 36; refine (atoi_none _ (err_below hE (by (first | exact hB2.trans ((hb2.mono hB2.size).trans (hb3.mono (Nat.le_trans hB2.size hb2.size))) | exact hB2.trans (hb3.mono hB2.size) | exact hB2.trans (hb2.mono hB2.size) | exact hB2)))).mono ?_; rintro e w3 ⟨⟨ty, pp, rfl⟩, hb3⟩))
                    all_goals
                      go_ret3
                      refine ⟨?_, by (first | exact hB2.trans ((hb2.mono hB2.size).trans (hb3.mono (Nat.le_trans hB2.size hb2.size))) | exact hB2.trans (hb3.mono hB2.size) | exact hB2.trans (hb2.mono hB2.size) | exact hB2)⟩
                      first
                        | rfl
                        | simp
                        | simp [hor2]
              · rw [if_neg hln] at ho
                by_cases hn0 : n < 0
                · have hnil := hwd.none hn0
                  have hsj' := hsj
                  clear hsj
                  rw [hnil] at hsj'
                  by_cases h125 : (s[j]'hj).toNat = 125
                  · have h125a : (((s[j]'hj).toNat : Int) == 125) = true := beq_iff_eq.2 (by omega)
                    by_cases hj1 : j = 1
                    · have hj1a : ((j : Int) == 1) = true := beq_iff_eq.2 (by omega)
                      rw [if_pos ⟨h125, hj1⟩] at ho
                      by_cases hlast : 2 < s.size
                      · have hlast' : j + 1 < s.size := by omega
                        rw [if_pos hlast, show (2 : Int) = ((j + 1 : Nat) : Int) by omega] at ho
                        clear hj1
                        simp only [Prod.mk.injEq] at ho
                        obtain ⟨rfl, rfl, rfl⟩ := ho
                        go_wp2_with (first
                          | (go_at_call 35; refine hbg.mono ?_; rintro e w2 ⟨rfl, hb2⟩)
                          | (go_at_call 36; refine (hat _).mono ?_; rintro e w3 ⟨rfl, hb3⟩)
                          | (go_at_call 36; refine (atoi_none _ (err_below hE (by (first | exact hB2.trans ((hb2.mono hB2.size).trans (hb3.mono (Nat.le_trans hB2.size hb2.size))) | exact hB2.trans (hb3.mono hB2.size) | exact hB2.trans (hb2.mono hB2.size) | exact hB2)))).mono ?_; rintro e w3 ⟨⟨ty, pp, rfl⟩, hb3⟩))
                        all_goals
                          go_ret3
                          refine ⟨?_, by (first | exact hB2.trans ((hb2.mono hB2.size).trans (hb3.mono (Nat.le_trans hB2.size hb2.size))) | exact hB2.trans (hb3.mono hB2.size) | exact hB2.trans (hb2.mono hB2.size) | exact hB2)⟩
                          first
                            | rfl
                            | simp
                            | simp [hor2]
                      · have hlast' : ¬ j + 1 < s.size := by omega
                        rw [if_neg hlast] at ho
                        clear hj1
                        simp only [Prod.mk.injEq] at ho
                        obtain ⟨rfl, rfl, rfl⟩ := ho
                        go_wp2_with (first
                          | (go_at_call 35; refine hbg.mono ?_; rintro e w2 ⟨rfl, hb2⟩)
                          | (go_at_call 36; refine (hat _).mono ?_; rintro e w3 ⟨rfl, hb3⟩)
                          | (go_at_call 36; refine (atoi_none _ (err_below hE (by (first | exact hB2.trans ((hb2.mono hB2.size).trans (hb3.mono (Nat.le_trans hB2.size hb2.size))) | exact hB2.trans (hb3.mono hB2.size) | exact hB2.trans (hb2.mono hB2.size) | exact hB2)))).mono ?_; rintro e w3 ⟨⟨ty, pp, rfl⟩, hb3⟩))
                        all_goals
                          go_ret3
                          refine ⟨?_, by (first | exact hB2.trans ((hb2.mono hB2.size).trans (hb3.mono (Nat.le_trans hB2.size hb2.size))) | exact hB2.trans (hb3.mono hB2.size) | exact hB2.trans (hb2.mono hB2.size) | exact hB2)⟩
                          first
                            | rfl
                            | simp
                            | simp [hor2]
                    · have hj1a : ((j : Int) == 1) = false := beq_eq_false_iff_ne.2 (by omega)
                      rw [if_neg (fun h => hj1 h.2)] at ho
                      simp only [Prod.mk.injEq] at ho
                      obtain ⟨rfl, rfl, rfl⟩ := ho
                      go_wp2_with (first
                        | (go_at_call 35; refine hbg.mono ?_; rintro e w2 ⟨rfl, hb2⟩)
                        | (go_at_call 36; refine (hat _).mono ?_; rintro e w3 ⟨rfl, hb3⟩)
                        | (go_at_call 36; refine (atoi_none _ (err_below hE (by (first | exact hB2.trans ((hb2.mono hB2.size).trans (hb3.mono (Nat.le_trans hB2.size hb2.size))) | exact hB2.trans (hb3.mono hB2.size) | exact hB2.trans (hb2.mono hB2.size) | exact hB2)))).mono ?_; rintro e w3 ⟨⟨ty, pp, rfl⟩, hb3⟩))
                      all_goals
                        go_ret3
                        refine ⟨?_, by (first | exact hB2.trans ((hb2.mono hB2.size).trans (hb3.mono (Nat.le_trans hB2.size hb2.size))) | exact hB2.trans (hb3.mono hB2.size) | exact hB2.trans (hb2.mono hB2.size) | exact hB2)⟩
                        first
                          | rfl
                          | simp
                          | simp [hor2]
                  · have h125a : (((s[j]'hj).toNat : Int) == 125) = false := beq_eq_false_iff_ne.2 (by omega)
                    rw [if_neg (fun h => h125 h.1)] at ho
                    simp only [Prod.mk.injEq] at ho
                    obtain ⟨rfl, rfl, rfl⟩ := ho
                    go_wp2_with (first
                      | (go_at_call 35; refine hbg.mono ?_; rintro e w2 ⟨rfl, hb2⟩)
                      | (go_at_call 36; refine (hat _).mono ?_; rintro e w3 ⟨rfl, hb3⟩)
                      | (go_at_call 36; refine (atoi_none _ (err_below hE (by (first | exact hB2.trans ((hb2.mono hB2.size).trans (hb3.mono (Nat.le_trans hB2.size hb2.size))) | exact hB2.trans (hb3.mono hB2.size) | exact hB2.trans (hb2.mono hB2.size) | exact hB2)))).mono ?_; rintro e w3 ⟨⟨ty, pp, rfl⟩, hb3⟩))
                    all_goals
                      go_ret3
                      refine ⟨?_, by (first | exact hB2.trans ((hb2.mono hB2.size).trans (hb3.mono (Nat.le_trans hB2.size hb2.size))) | exact hB2.trans (hb3.mono hB2.size) | exact hB2.trans (hb2.mono hB2.size) | exact hB2)⟩
                      first
                        | rfl
                        | simp
                        | simp [hor2]
                · have hat := atoi_at (s.extract i j) n (by have := hwd.short; omega) (hwd.atoi (by omega))
                  by_cases h125 : (s[j]'hj).toNat = 125
                  · have h125a : (((s[j]'hj).toNat : Int) == 125) = true := beq_iff_eq.2 (by omega)
                    by_cases hj1 : j = 1
                    · have hj1a : ((j : Int) == 1) = true := beq_iff_eq.2 (by omega)
                      rw [if_pos ⟨h125, hj1⟩] at ho
                      by_cases hlast : 2 < s.size
                      · have hlast' : j + 1 < s.size := by omega
                        rw [if_pos hlast, show (2 : Int) = ((j + 1 : Nat) : Int) by omega] at ho
                        clear hj1
                        simp only [Prod.mk.injEq] at ho
                        obtain ⟨rfl, rfl, rfl⟩ := ho
                        go_wp2_with (first
                          | (go_at_call 35; refine hbg.mono ?_; rintro e w2 ⟨rfl, hb2⟩)
                          | (go_at_call 36; refine (hat _).mono ?_; rintro e w3 ⟨rfl, hb3⟩)
                          | (go_at_call 36; refine (atoi_none _ (err_below hE (by (first | exact hB2.trans ((hb2.mono hB2.size).trans (hb3.mono (Nat.le_trans hB2.size hb2.size))) | exact hB2.trans (hb3.mono hB2.size) | exact hB2.trans (hb2.mono hB2.size) | exact hB2)))).mono ?_; rintro e w3 ⟨⟨ty, pp, rfl⟩, hb3⟩))
                        all_goals
                          go_ret3
                          refine ⟨?_, by (first | exact hB2.trans ((hb2.mono hB2.size).trans (hb3.mono (Nat.le_trans hB2.size hb2.size))) | exact hB2.trans (hb3.mono hB2.size) | exact hB2.trans (hb2.mono hB2.size) | exact hB2)⟩
                          first
                            | rfl
                            | simp
                            | simp [hor2]
                      · have hlast' : ¬ j + 1 < s.size := by omega
                        rw [if_neg hlast] at ho
                        clear hj1
                        simp only [Prod.mk.injEq] at ho
                        obtain ⟨rfl, rfl, rfl⟩ := ho
                        go_wp2_with (first
                          | (go_at_call 35; refine hbg.mono ?_; rintro e w2 ⟨rfl, hb2⟩)
                          | (go_at_call 36; refine (hat _).mono ?_; rintro e w3 ⟨rfl, hb3⟩)
                          | (go_at_call 36; refine (atoi_none _ (err_below hE (by (first | exact hB2.trans ((hb2.mono hB2.size).trans (hb3.mono (Nat.le_trans hB2.size hb2.size))) | exact hB2.trans (hb3.mono hB2.size) | exact hB2.trans (hb2.mono hB2.size) | exact hB2)))).mono ?_; rintro e w3 ⟨⟨ty, pp, rfl⟩, hb3⟩))
                        all_goals
                          go_ret3
                          refine ⟨?_, by (first | exact hB2.trans ((hb2.mono hB2.size).trans (hb3.mono (Nat.le_trans hB2.size hb2.size))) | exact hB2.trans (hb3.mono hB2.size) | exact hB2.trans (hb2.mono hB2.size) | exact hB2)⟩
                          first
                            | rfl
                            | simp
                            | simp [hor2]
                    · have hj1a : ((j : Int) == 1) = false := beq_eq_false_iff_ne.2 (by omega)
                      rw [if_neg (fun h => hj1 h.2)] at ho
                      simp only [Prod.mk.injEq] at ho
                      obtain ⟨rfl, rfl, rfl⟩ := ho
                      go_wp2_with (first
                        | (go_at_call 35; refine hbg.mono ?_; rintro e w2 ⟨rfl, hb2⟩)
                        | (go_at_call 36; refine (hat _).mono ?_; rintro e w3 ⟨rfl, hb3⟩)
                        | (go_at_call 36; refine (atoi_none _ (err_below hE (by (first | exact hB2.trans ((hb2.mono hB2.size).trans (hb3.mono (Nat.le_trans hB2.size hb2.size))) | exact hB2.trans (hb3.mono hB2.size) | exact hB2.trans (hb2.mono hB2.size) | exact hB2)))).mono ?_; rintro e w3 ⟨⟨ty, pp, rfl⟩, hb3⟩))
                      all_goals
                        go_ret3
                        refine ⟨?_, by (first | exact hB2.trans ((hb2.mono hB2.size).trans (hb3.mono (Nat.le_trans hB2.size hb2.size))) | exact hB2.trans (hb3.mono hB2.size) | exact hB2.trans (hb2.mono hB2.size) | exact hB2)⟩
                        first
                          | rfl
                          | simp
                          | simp [hor2]
                  · have h125a : (((s[j]'hj).toNat : Int) == 125) = false := beq_eq_false_iff_ne.2 (by omega)
                    rw [if_neg (fun h => h125 h.1)] at ho
                    simp only [Prod.mk.injEq] at ho
                    obtain ⟨rfl, rfl, rfl⟩ := ho
                    go_wp2_with (first
                      | (go_at_call 35; refine hbg.mono ?_; rintro e w2 ⟨rfl, hb2⟩)
                      | (go_at_call 36; refine (hat _).mono ?_; rintro e w3 ⟨rfl, hb3⟩)
                      | (go_at_call 36; refine (atoi_none _ (err_below hE (by (first | exact hB2.trans ((hb2.mono hB2.size).trans (hb3.mono (Nat.le_trans hB2.size hb2.size))) | exact hB2.trans (hb3.mono hB2.size) | exact hB2.trans (hb2.mono hB2.size) | exact hB2)))).mono ?_; rintro e w3 ⟨⟨ty, pp, rfl⟩, hb3⟩))
                    all_goals
                      go_ret3
                      refine ⟨?_, by (first | exact hB2.trans ((hb2.mono hB2.size).trans (hb3.mono (Nat.le_trans hB2.size hb2.size))) | exact hB2.trans (hb3.mono hB2.size) | exact hB2.trans (hb2.mono hB2.size) | exact hB2)⟩
                      first
                        | rfl
                        | simp
                        | simp [hor2]
            · have hd1 : 48 ≤ ((s[j]'hj).toNat : Int) := by omega
              obtain ⟨b, rfl⟩ : ∃ b', b = b' + 1 := ⟨b - 1, by omega⟩
              unfold BR.outer at ho
              rw [hs.symm.trans hstop] at ho
              simp only at ho
              unfold BR.fin at ho
              have hsz : ((j : Int) == (s.size : Int)) = false := beq_eq_false_iff_ne.2 (by omega)
              rw [dif_pos hj] at ho
              by_cases hln : last < n
              · rw [if_pos hln] at ho
                have hat := atoi_at (s.extract i j) n (by have := hwd.short; omega) (hwd.atoi (by omega))
                have hun : IntKind.u64.wrap n = n := by rw [IntKind.wrap_u64]; omega
                have hor := or_sum hset hl1 hln hnn.2
                have hsum := sum_lt hset hl1 hln
                have hor2 : bits BinOp.or IntKind.u64 (set : Int) (2 ^ n.toNat) = (set : Int) + 2 ^ n.toNat := by
                  have := or_two hset hl1 hln hnn.2
                  exact this
                by_cases h125 : (s[j]'hj).toNat = 125
                · rw [if_pos h125] at ho
                  have h125a : (((s[j]'hj).toNat : Int) == 125) = true := beq_iff_eq.2 (by omega)
                  by_cases hlast : j + 1 < s.size
                  · rw [if_pos hlast] at ho
                    simp only [Prod.mk.injEq] at ho
                    obtain ⟨rfl, rfl, rfl⟩ := ho
                    go_wp2_with (first
                      | (go_at_call 35; refine hbg.mono ?_; rintro e w2 ⟨rfl, hb2⟩)
                      | (go_at_call 36; refine (hat _).mono ?_; rintro e w3 ⟨rfl, hb3⟩)
                      | (go_at_call 36; refine (atoi_none _ (err_below hE (by (first | exact hB2.trans ((hb2.mono hB2.size).trans (hb3.mono (Nat.le_trans hB2.size hb2.size))) | exact hB2.trans (hb3.mono hB2.size) | exact hB2.trans (hb2.mono hB2.size) | exact hB2)))).mono ?_; rintro e w3 ⟨⟨ty, pp, rfl⟩, hb3⟩))
                    all_goals
                      go_ret3
                      refine ⟨?_, by (first | exact hB2.trans ((hb2.mono hB2.size).trans (hb3.mono (Nat.le_trans hB2.size hb2.size))) | exact hB2.trans (hb3.mono hB2.size) | exact hB2.trans (hb2.mono hB2.size) | exact hB2)⟩
                      first
                        | rfl
                        | simp
                        | simp [hor2]
                  · rw [if_neg hlast] at ho
                    simp only [Prod.mk.injEq] at ho
                    obtain ⟨rfl, rfl, rfl⟩ := ho
                    go_wp2_with (first
                      | (go_at_call 35; refine hbg.mono ?_; rintro e w2 ⟨rfl, hb2⟩)
                      | (go_at_call 36; refine (hat _).mono ?_; rintro e w3 ⟨rfl, hb3⟩)
                      | (go_at_call 36; refine (atoi_none _ (err_below hE (by (first | exact hB2.trans ((hb2.mono hB2.size).trans (hb3.mono (Nat.le_trans hB2.size hb2.size))) | exact hB2.trans (hb3.mono hB2.size) | exact hB2.trans (hb2.mono hB2.size) | exact hB2)))).mono ?_; rintro e w3 ⟨⟨ty, pp, rfl⟩, hb3⟩))
                    all_goals
                      go_ret3
                      refine ⟨?_, by (first | exact hB2.trans ((hb2.mono hB2.size).trans (hb3.mono (Nat.le_trans hB2.size hb2.size))) | exact hB2.trans (hb3.mono hB2.size) | exact hB2.trans (hb2.mono hB2.size) | exact hB2)⟩
                      first
                        | rfl
                        | simp
                        | simp [hor2]
                · rw [if_neg h125] at ho
                  have h125a : (((s[j]'hj).toNat : Int) == 125) = false := beq_eq_false_iff_ne.2 (by omega)
                  by_cases h44 : (s[j]'hj).toNat = 44
                  · have h44a : (((s[j]'hj).toNat : Int) == 44) = true := beq_iff_eq.2 (by omega)
                    by_cases h63 : n < 63
                    · rw [if_pos ⟨h44, h63⟩] at ho
                      go_wp2_with (first
                        | (go_at_call 35; refine hbg.mono ?_; rintro e w2 ⟨rfl, hb2⟩)
                        | (go_at_call 36; refine (hat _).mono ?_; rintro e w3 ⟨rfl, hb3⟩)
                        | (go_at_call 36; refine (atoi_none _ (err_below hE (by (first | exact hB2.trans ((hb2.mono hB2.size).trans (hb3.mono (Nat.le_trans hB2.size hb2.size))) | exact hB2.trans (hb3.mono hB2.size) | exact hB2.trans (hb2.mono hB2.size) | exact hB2)))).mono ?_; rintro e w3 ⟨⟨ty, pp, rfl⟩, hb3⟩))
                      refine ⟨⟨set + 2 ^ n.toNat, n, j + 1, b, ?_, rfl, ?_, ho, by omega, hj, by omega, by omega, by omega, hsum, by (first | exact hB2.trans ((hb2.mono hB2.size).trans (hb3.mono (Nat.le_trans hB2.size hb2.size))) | exact hB2.trans (hb3.mono hB2.size) | exact hB2.trans (hb2.mono hB2.size) | exact hB2)⟩, ?_⟩
                      · first
                          | rfl
                          | simp
                          | simp [hor2]
                      · simp
                      · simp only [uv]; simp; omega
                    · rw [if_neg (fun h => h63 h.2)] at ho
                      simp only [Prod.mk.injEq] at ho
                      obtain ⟨rfl, rfl, rfl⟩ := ho
                      go_wp2_with (first
                        | (go_at_call 35; refine hbg.mono ?_; rintro e w2 ⟨rfl, hb2⟩)
                        | (go_at_call 36; refine (hat _).mono ?_; rintro e w3 ⟨rfl, hb3⟩)
                        | (go_at_call 36; refine (atoi_none _ (err_below hE (by (first | exact hB2.trans ((hb2.mono hB2.size).trans (hb3.mono (Nat.le_trans hB2.size hb2.size))) | exact hB2.trans (hb3.mono hB2.size) | exact hB2.trans (hb2.mono hB2.size) | exact hB2)))).mono ?_; rintro e w3 ⟨⟨ty, pp, rfl⟩, hb3⟩))
                      all_goals
                        go_ret3
                        refine ⟨?_, by (first | exact hB2.trans ((hb2.mono hB2.size).trans (hb3.mono (Nat.le_trans hB2.size hb2.size))) | exact hB2.trans (hb3.mono hB2.size) | exact hB2.trans (hb2.mono hB2.size) | exact hB2)⟩
                        first
                          | rfl
                          | simp
                          | simp [hor2]
                  · have h44a : (((s[j]'hj).toNat : Int) == 44) = false := beq_eq_false_iff_ne.2 (by omega)
                    rw [if_neg (fun h => h44 h.1)] at ho
                    simp only [Prod.mk.injEq] at ho
                    obtain ⟨rfl, rfl, rfl⟩ := ho
                    go_wp2_with (first
                      | (go_at_call 35; refine hbg.mono ?_; rintro e w2 ⟨rfl, hb2⟩)
                      | (go_at_call 36; refine (hat _).mono ?_; rintro e w3 ⟨rfl, hb3⟩)
                      | (go_at_call 36; refine (atoi_none _ (err_below hE (by (first | exact hB2.trans ((hb2.mono hB2.size).trans (hb3.mono (Nat.le_trans hB2.size hb2.size))) | exact hB2.trans (hb3.mono hB2.size) | exact hB2.trans (hb2.mono hB2.size) | exact hB2)))).mono ?_; rintro e w3 ⟨⟨ty, pp, rfl⟩, hb3⟩))
                    all_goals
                      go_ret3
                      refine ⟨?_, by (first | exact hB2.trans ((hb2.mono hB2.size).trans (hb3.mono (Nat.le_trans hB2.size hb2.size))) | exact hB2.trans (hb3.mono hB2.size) | exact hB2.trans (hb2.mono hB2.size) | exact hB2)⟩
                      first
                        | rfl
                        | simp
                        | simp [hor2]
              · rw [if_neg hln] at ho
                by_cases hn0 : n < 0
                · have hnil := hwd.none hn0
                  have hsj' := hsj
                  clear hsj
                  rw [hnil] at hsj'
                  by_cases h125 : (s[j]'hj).toNat = 125
                  · have h125a : (((s[j]'hj).toNat : Int) == 125) = true := beq_iff_eq.2 (by omega)
                    by_cases hj1 : j = 1
                    · have hj1a : ((j : Int) == 1) = true := beq_iff_eq.2 (by omega)
                      rw [if_pos ⟨h125, hj1⟩] at ho
                      by_cases hlast : 2 < s.size
                      · have hlast' : j + 1 < s.size := by omega
                        rw [if_pos hlast, show (2 : Int) = ((j + 1 : Nat) : Int) by omega] at ho
                        clear hj1
                        simp only [Prod.mk.injEq] at ho
                        obtain ⟨rfl, rfl, rfl⟩ := ho
                        go_wp2_with (first
                          | (go_at_call 35; refine hbg.mono ?_; rintro e w2 ⟨rfl, hb2⟩)
                          | (go_at_call 36; refine (hat _).mono ?_; rintro e w3 ⟨rfl, hb3⟩)
                          | (go_at_call 36; refine (atoi_none _ (err_below hE (by (first | exact hB2.trans ((hb2.mono hB2.size).trans (hb3.mono (Nat.le_trans hB2.size hb2.size))) | exact hB2.trans (hb3.mono hB2.size) | exact hB2.trans (hb2.mono hB2.size) | exact hB2)))).mono ?_; rintro e w3 ⟨⟨ty, pp, rfl⟩, hb3⟩))
                        all_goals
                          go_ret3
                          refine ⟨?_, by (first | exact hB2.trans ((hb2.mono hB2.size).trans (hb3.mono (Nat.le_trans hB2.size hb2.size))) | exact hB2.trans (hb3.mono hB2.size) | exact hB2.trans (hb2.mono hB2.size) | exact hB2)⟩
                          first
                            | rfl
                            | simp
                            | simp [hor2]
                      · have hlast' : ¬ j + 1 < s.size := by omega
                        rw [if_neg hlast] at ho
                        clear hj1
                        simp only [Prod.mk.injEq] at ho
                        obtain ⟨rfl, rfl, rfl⟩ := ho
                        go_wp2_with (first
                          | (go_at_call 35; refine hbg.mono ?_; rintro e w2 ⟨rfl, hb2⟩)
                          | (go_at_call 36; refine (hat _).mono ?_; rintro e w3 ⟨rfl, hb3⟩)
                          | (go_at_call 36; refine (atoi_none _ (err_below hE (by (first | exact hB2.trans ((hb2.mono hB2.size).trans (hb3.mono (Nat.le_trans hB2.size hb2.size))) | exact hB2.trans (hb3.mono hB2.size) | exact hB2.trans (hb2.mono hB2.size) | exact hB2)))).mono ?_; rintro e w3 ⟨⟨ty, pp, rfl⟩, hb3⟩))
                        all_goals
                          go_ret3
                          refine ⟨?_, by (first | exact hB2.trans ((hb2.mono hB2.size).trans (hb3.mono (Nat.le_trans hB2.size hb2.size))) | exact hB2.trans (hb3.mono hB2.size) | exact hB2.trans (hb2.mono hB2.size) | exact hB2)⟩
                          first
                            | rfl
                            | simp
                            | simp [hor2]
                    · have hj1a : ((j : Int) == 1) = false := beq_eq_false_iff_ne.2 (by omega)
                      rw [if_neg (fun h => hj1 h.2)] at ho
                      simp only [Prod.mk.injEq] at ho
                      obtain ⟨rfl, rfl, rfl⟩ := ho
                      go_wp2_with (first
                        | (go_at_call 35; refine hbg.mono ?_; rintro e w2 ⟨rfl, hb2⟩)
                        | (go_at_call 36; refine (hat _).mono ?_; rintro e w3 ⟨rfl, hb3⟩)
                        | (go_at_call 36; refine (atoi_none _ (err_below hE (by (first | exact hB2.trans ((hb2.mono hB2.size).trans (hb3.mono (Nat.le_trans hB2.size hb2.size))) | exact hB2.trans (hb3.mono hB2.size) | exact hB2.trans (hb2.mono hB2.size) | exact hB2)))).mono ?_; rintro e w3 ⟨⟨ty, pp, rfl⟩, hb3⟩))
                      all_goals
                        go_ret3
                        refine ⟨?_, by (first | exact hB2.trans ((hb2.mono hB2.size).trans (hb3.mono (Nat.le_trans hB2.size hb2.size))) | exact hB2.trans (hb3.mono hB2.size) | exact hB2.trans (hb2.mono hB2.size) | exact hB2)⟩
                        first
                          | rfl
                          | simp
                          | simp [hor2]
                  · have h125a : (((s[j]'hj).toNat : Int) == 125) = false := beq_eq_false_iff_ne.2 (by omega)
                    rw [if_neg (fun h => h125 h.1)] at ho
                    simp only [Prod.mk.injEq] at ho
                    obtain ⟨rfl, rfl, rfl⟩ := ho
                    go_wp2_with (first
                      | (go_at_call 35; refine hbg.mono ?_; rintro e w2 ⟨rfl, hb2⟩)
                      | (go_at_call 36; refine (hat _).mono ?_; rintro e w3 ⟨rfl, hb3⟩)
                      | (go_at_call 36; refine (atoi_none _ (err_below hE (by (first | exact hB2.trans ((hb2.mono hB2.size).trans (hb3.mono (Nat.le_trans hB2.size hb2.size))) | exact hB2.trans (hb3.mono hB2.size) | exact hB2.trans (hb2.mono hB2.size) | exact hB2)))).mono ?_; rintro e w3 ⟨⟨ty, pp, rfl⟩, hb3⟩))
                    all_goals
                      go_ret3
                      refine ⟨?_, by (first | exact hB2.trans ((hb2.mono hB2.size).trans (hb3.mono (Nat.le_trans hB2.size hb2.size))) | exact hB2.trans (hb3.mono hB2.size) | exact hB2.trans (hb2.mono hB2.size) | exact hB2)⟩
                      first
                        | rfl
                        | simp
                        | simp [hor2]
                · have hat := atoi_at (s.extract i j) n (by have := hwd.short; omega) (hwd.atoi (by omega))
                  by_cases h125 : (s[j]'hj).toNat = 125
                  · have h125a : (((s[j]'hj).toNat : Int) == 125) = true := beq_iff_eq.2 (by omega)
                    by_cases hj1 : j = 1
                    · have hj1a : ((j : Int) == 1) = true := beq_iff_eq.2 (by omega)
                      rw [if_pos ⟨h125, hj1⟩] at ho
                      by_cases hlast : 2 < s.size
                      · have hlast' : j + 1 < s.size := by omega
                        rw [if_pos hlast, show (2 : Int) = ((j + 1 : Nat) : Int) by omega] at ho
                        clear hj1
                        simp only [Prod.mk.injEq] at ho
                        obtain ⟨rfl, rfl, rfl⟩ := ho
                        go_wp2_with (first
                          | (go_at_call 35; refine hbg.mono ?_; rintro e w2 ⟨rfl, hb2⟩)
                          | (go_at_call 36; refine (hat _).mono ?_; rintro e w3 ⟨rfl, hb3⟩)
                          | (go_at_call 36; refine (atoi_none _ (err_below hE (by (first | exact hB2.trans ((hb2.mono hB2.size).trans (hb3.mono (Nat.le_trans hB2.size hb2.size))) | exact hB2.trans (hb3.mono hB2.size) | exact hB2.trans (hb2.mono hB2.size) | exact hB2)))).mono ?_; rintro e w3 ⟨⟨ty, pp, rfl⟩, hb3⟩))
                        all_goals
                          go_ret3
                          refine ⟨?_, by (first | exact hB2.trans ((hb2.mono hB2.size).trans (hb3.mono (Nat.le_trans hB2.size hb2.size))) | exact hB2.trans (hb3.mono hB2.size) | exact hB2.trans (hb2.mono hB2.size) | exact hB2)⟩
                          first
                            | rfl
                            | simp
                            | simp [hor2]
                      · have hlast' : ¬ j + 1 < s.size := by omega
                        rw [if_neg hlast] at ho
                        clear hj1
                        simp only [Prod.mk.injEq] at ho
                        obtain ⟨rfl, rfl, rfl⟩ := ho
                        go_wp2_with (first
                          | (go_at_call 35; refine hbg.mono ?_; rintro e w2 ⟨rfl, hb2⟩)
                          | (go_at_call 36; refine (hat _).mono ?_; rintro e w3 ⟨rfl, hb3⟩)
                          | (go_at_call 36; refine (atoi_none _ (err_below hE (by (first | exact hB2.trans ((hb2.mono hB2.size).trans (hb3.mono (Nat.le_trans hB2.size hb2.size))) | exact hB2.trans (hb3.mono hB2.size) | exact hB2.trans (hb2.mono hB2.size) | exact hB2)))).mono ?_; rintro e w3 ⟨⟨ty, pp, rfl⟩, hb3⟩))
                        all_goals
                          go_ret3
                          refine ⟨?_, by (first | exact hB2.trans ((hb2.mono hB2.size).trans (hb3.mono (Nat.le_trans hB2.size hb2.size))) | exact hB2.trans (hb3.mono hB2.size) | exact hB2.trans (hb2.mono hB2.size) | exact hB2)⟩
                          first
                            | rfl
                            | simp
                            | simp [hor2]
                    · have hj1a : ((j : Int) == 1) = false := beq_eq_false_iff_ne.2 (by omega)
                      rw [if_neg (fun h => hj1 h.2)] at ho
                      simp only [Prod.mk.injEq] at ho
                      obtain ⟨rfl, rfl, rfl⟩ := ho
                      go_wp2_with (first
                        | (go_at_call 35; refine hbg.mono ?_; rintro e w2 ⟨rfl, hb2⟩)
                        | (go_at_call 36; refine (hat _).mono ?_; rintro e w3 ⟨rfl, hb3⟩)
                        | (go_at_call 36; refine (atoi_none _ (err_below hE (by (first | exact hB2.trans ((hb2.mono hB2.size).trans (hb3.mono (Nat.le_trans hB2.size hb2.size))) | exact hB2.trans (hb3.mono hB2.size) | exact hB2.trans (hb2.mono hB2.size) | exact hB2)))).mono ?_; rintro e w3 ⟨⟨ty, pp, rfl⟩, hb3⟩))
                      all_goals
                        go_ret3
                        refine ⟨?_, by (first | exact hB2.trans ((hb2.mono hB2.size).trans (hb3.mono (Nat.le_trans hB2.size hb2.size))) | exact hB2.trans (hb3.mono hB2.size) | exact hB2.trans (hb2.mono hB2.size) | exact hB2)⟩
                        first
                          | rfl
                          | simp
                          | simp [hor2]
                  · have h125a : (((s[j]'hj).toNat : Int) == 125) = false := beq_eq_false_iff_ne.2 (by omega)
                    rw [if_neg (fun h => h125 h.1)] at ho
                    simp only [Prod.mk.injEq] at ho
                    obtain ⟨rfl, rfl, rfl⟩ := ho
                    go_wp2_with (first
                      | (go_at_call 35; refine hbg.mono ?_; rintro e w2 ⟨rfl, hb2⟩)
                      | (go_at_call 36; refine (hat _).mono ?_; rintro e w3 ⟨rfl, hb3⟩)
                      | (go_at_call 36; refine (atoi_none _ (err_below hE (by (first | exact hB2.trans ((hb2.mono hB2.size).trans (hb3.mono (Nat.le_trans hB2.size hb2.size))) | exact hB2.trans (hb3.mono hB2.size) | exact hB2.trans (hb2.mono hB2.size) | exact hB2)))).mono ?_; rintro e w3 ⟨⟨ty, pp, rfl⟩, hb3⟩))
                    all_goals
                      go_ret3
                      refine ⟨?_, by (first | exact hB2.trans ((hb2.mono hB2.size).trans (hb3.mono (Nat.le_trans hB2.size hb2.size))) | exact hB2.trans (hb3.mono hB2.size) | exact hB2.trans (hb2.mono hB2.size) | exact hB2)⟩
                      first
                        | rfl
                        | simp
                        | simp [hor2]
        · have hstop : BR.scan s last c n j = (n, j) := BR.scan_end c hj
          obtain ⟨b, rfl⟩ : ∃ b', b = b' + 1 := ⟨b - 1, by omega⟩
          unfold BR.outer at ho
          rw [hs.symm.trans hstop] at ho
          simp only at ho
          unfold BR.fin at ho
          have hje : j = s.size := by omega
          have hsz : ((j : Int) == (s.size : Int)) = true := beq_iff_eq.2 (by omega)
          have hjd : decide ((j : Int) < (s.size : Int)) = false := decide_eq_false (by omega)
          rw [dif_neg hj] at ho
          simp only [Prod.mk.injEq] at ho
          obtain ⟨rfl, rfl, rfl⟩ := ho
          go_wp2
          go_ret3
          exact ⟨rfl, hB2⟩
end Go.Proofs.YtpaikjnmopkekaaDoor.BW
