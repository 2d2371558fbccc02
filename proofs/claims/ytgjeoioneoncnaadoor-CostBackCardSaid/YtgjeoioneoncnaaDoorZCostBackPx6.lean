/- Px6, for the statement CostBack: what it needs, no more. -/
import Derived.Test.YtgjeoioneoncnaaDoorZCostBackPx0
import Derived.Test.YtgjeoioneoncnaaDoorZCostBackPx1
import Derived.Test.YtgjeoioneoncnaaDoorZCostBackPx2
-- Written by a program of this session (wip/print/patch_print.py over the kit's printer) out of the translation: functions and contracts. Lean checks it.
namespace Go.Proofs.YtgjeoioneoncnaaDoor.P
open Go.RowKit Go.Proofs.YtgjeoioneoncnaaDoorW.PrintWords Go.Proofs.YtgjeoioneoncnaaDoorW.PrintLast Go.Proofs.YtgjeoioneoncnaaDoorW.PrintMore
attribute [local go_sem] max2_int min2_int max_two min_two max_three min_three max_four min_four   -- for this text's walks alone
set_option linter.unusedVariables false
set_option linter.unusedSimpArgs false
/-- A letter of none, at its place. -/
def cost_Read.nn : Nat → Int
  | 0 => 110
  | 1 => 111
  | 2 => 110
  | 3 => 101
  | _ => 0
/-- Behind the last letter. -/
def cost_Read.fin (s : ByteArray) (st n : Int) : Int × Int × Int :=
  if st = 0 then (0, (s.size : Int), 22) else if st = 1 then (if s.toList = ([110, 111, 110, 101] : List UInt8) then (-1, 0, 0) else (0, (s.size : Int), 22)) else (n, 0, 0)
/-- Letter by letter: the state, the number. -/
def cost_Read.go (a : Int) (s : ByteArray) : Nat → Nat → Int → Int → Int × Int × Int
  | 0, _, st, n => cost_Read.fin s st n
  | b + 1, pos, st, n =>
    if h : pos < s.size then
      (if st = 0 ∧ ((s[pos]'h).toNat : Int) = 110 then cost_Read.go a s b (pos + 1) 1 n
       else if st = 1 ∧ pos < 4 ∧ ((s[pos]'h).toNat : Int) = cost_Read.nn pos then cost_Read.go a s b (pos + 1) 1 n
       else if 48 ≤ ((s[pos]'h).toNat : Int) ∧ ((s[pos]'h).toNat : Int) ≤ 57 ∧ (st = 0 ∨ st = 2 ∧ 0 < n) ∧ 10 * n + (((s[pos]'h).toNat : Int) - 48) ≤ a then cost_Read.go a s b (pos + 1) 2 (10 * n + (((s[pos]'h).toNat : Int) - 48))
       else (0, (pos : Int), 22))
    else cost_Read.fin s st n
theorem cost_Read.go_end (a : Int) (s : ByteArray) (b pos : Nat) (st n : Int) (h : ¬ pos < s.size) : cost_Read.go a s b pos st n = cost_Read.fin s st n := by
  cases b with
  | zero => rfl
  | succ b => simp [cost_Read.go, h]
theorem cost_Read.width (s : ByteArray) (pos : Nat) (h : pos < s.size) : 1 ≤ (Utf8.decode s pos).2 := by
  by_cases ha : (s[pos]'h).toNat < 128
  · rw [decode_ascii s pos h ha]
    exact Nat.le_refl _
  · exact (decode_high s pos h (by omega)).2
theorem cost_Read.cap (k : Nat) (a : Int) (h : cost_checks.f k a ([] : List Int) = some 0) : 0 ≤ a ∧ a ≤ 1048576 := by
  unfold cost_checks.f at h
  by_cases h1 : a < 0
  · rw [if_pos h1] at h
    cases k with
    | zero => simp [cost_checks.j0] at h
    | succ k => simp [cost_checks.j0] at h
  · rw [if_neg h1] at h
    by_cases h2 : a > 1048576
    · cases k with
      | zero => simp [cost_checks.j0] at h
      | succ k => simp [cost_checks.j0, h2] at h
    · exact ⟨by omega, by omega⟩

def cost_Read.f (k : Nat) (a0 : Int) (a1 : ByteArray) : Option (Int × Int × Int) := (cost_checks.f k a0 ([] : List Int)).bind fun t => if t = 0 then some (cost_Read.go a0 a1 a1.size 0 0 0) else some (0, 0, t)
set_option maxHeartbeats 1000000 in
set_option maxRecDepth 100000 in
theorem cost_Read.calls (k : Nat) (a0 : Int) (a1 : ByteArray) (r1 : Int) (r2 : Int) (r3 : Int) (w : World) (h : cost_Read.f k a0 a1 = some (r1, r2, r3)) :
    Calls Tryd.prog 25 #[.int .i64 a0, .string a1] w fun e w' => e = .returned (.tuple #[.int .i64 r1, .int .i64 r2, .int .i64 r3]) ∧ Below w.heap.size w w' := by
  unfold cost_Read.f at h
  obtain ⟨t, ht, h⟩ := Option.bind_eq_some_iff.1 h
  have HC : Calls Tryd.prog 27 #[.int .i64 a0, .slice none 0 0] w _ := cost_checks.calls k a0 none 0 ([] : List Int) t w (Kd.C_nil _ _) (Nat.le_refl _) ht
  have HH := Aside0.mk HC
  clear HC
  by_cases h0 : t = 0
  case neg =>
    rw [if_neg h0] at h
    simp only [Option.some.injEq, Prod.mk.injEq] at h
    obtain ⟨rfl, rfl, rfl⟩ := h
    have h0b : (t == 0) = false := beq_eq_false_iff_ne.mpr h0
    have h0c : (t != 0) = true := bne_iff_ne.mpr h0
    clear h0 ht
    go_enter Tryd.func25, Tryd.ntmps25
    go_wp2_with (go_at_call 27; (with_reducible refine HH.out.mono ?_); rintro e w1 ⟨rfl, ⟨nd, rfl⟩⟩)
    go_ret3
    exact ⟨rfl, by repeat (first | exact Below.refl _ _ | apply below_alloc | apply pw_below_drewN | apply below_drew1)⟩
  case pos =>
    subst h0
    rw [if_pos rfl] at h
    replace h := Option.some.inj h
    have hcap := cost_Read.cap k a0 ht
    clear ht
    go_enter Tryd.func25, Tryd.ntmps25
    go_wp2_with (go_at_call 27; (with_reducible refine HH.out.mono ?_); rintro e w1 ⟨rfl, ⟨nd, rfl⟩⟩)
    go_loopw [8, 9] (fun st n w' => ∃ (W1 : World) (pos b : Nat) (s0 n0 : Int), w' = W1.iter a1 pos ∧ W1.heap.size = w.heap.size ∧ Below w.heap.size w W1 ∧ st = .int .i64 s0 ∧ n = .int .i64 n0 ∧ cost_Read.go a0 a1 b pos s0 n0 = (r1, r2, r3) ∧ a1.size ≤ pos + b ∧ (s0 = 0 ∨ s0 = 1 ∨ s0 = 2) ∧ 0 ≤ n0 ∧ n0 ≤ a0) (fun _ _ w' => a1.size - w'.iterPos w.heap.size)
    case atStart => exact ⟨w.drewN nd, 0, a1.size, 0, 0, rfl, rfl, (by repeat (first | exact Below.refl _ _ | apply below_alloc | apply pw_below_drewN | apply below_drew1)), rfl, rfl, h, by omega, .inl rfl, by omega, hcap.1⟩
    case round =>
      obtain ⟨W1, pos, b, s0, n0, rfl, hW, hB, rfl, rfl, hg, hb, hs, hn0, hn1⟩ := hrel
      by_cases hp : pos < a1.size
      · have hnx0 := fun ty => run_next_any (P := Tryd.prog) W1 a1 pos ty hp
        rw [hW] at hnx0
        obtain ⟨b, rfl⟩ : ∃ b', b = b' + 1 := ⟨b - 1, by omega⟩
        simp only [cost_Read.go, dif_pos hp] at hg
        have hwd := cost_Read.width a1 pos hp
        have hlow : (a1[pos]'hp).toNat < 128 → Utf8.decode a1 pos = ((a1[pos]'hp).toNat, 1) := fun ha => decode_ascii a1 pos hp ha
        have hhigh : 128 ≤ (a1[pos]'hp).toNat → 128 ≤ (Utf8.decode a1 pos).1 := fun ha => (decode_high a1 pos hp ha).1
        generalize (a1[pos]'hp).toNat = c at hg hlow hhigh
        generalize hdec : Utf8.decode a1 pos = dc at hnx0 hwd hlow hhigh
        obtain ⟨r, wd⟩ := dc
        simp only at hnx0 hwd hlow hhigh
        clear hdec
        by_cases ha : c < 128
        · obtain ⟨rfl, rfl⟩ := Prod.mk.injEq .. ▸ hlow ha
          clear hlow hhigh hwd
          rcases hs with rfl | rfl | rfl
          · by_cases q1 : (r : Int) = 110
            · have q1a : ((r : Int) == 110) = true := beq_iff_eq.mpr q1
              have q1b : (r == 110) = true := beq_iff_eq.mpr (by omega)
              rw [if_pos ⟨rfl, q1⟩] at hg
              go_wp2
              go_roundw
              case rel => exact ⟨W1, pos + 1, b, 1, n0, rfl, hW, hB, rfl, rfl, hg, by omega, .inr (.inl rfl), hn0, hn1⟩
              case measure =>
                rw [← hW, World.iterPos_iter, World.iterPos_iter]
                omega
            · have q1a : ((r : Int) == 110) = false := beq_eq_false_iff_ne.mpr q1
              have q1b : (r == 110) = false := beq_eq_false_iff_ne.mpr (by omega)
              rw [if_neg (fun hh => q1 hh.2), if_neg (fun hh => by cases hh.1)] at hg
              by_cases q3 : (48 : Int) ≤ (r : Int)
              case neg =>
                have q3a : decide ((48 : Int) ≤ (r : Int)) = false := decide_eq_false q3
                have q3b : decide (48 ≤ r) = false := decide_eq_false (by omega)
                rw [if_neg (fun hh => q3 hh.1)] at hg
                simp only [Prod.mk.injEq] at hg
                obtain ⟨rfl, rfl, rfl⟩ := hg
                go_wp2
                go_ret3
                exact ⟨rfl, by repeat (first | exact hB | apply below_alloc | apply pw_below_drewN | apply below_drew1)⟩
              have q3a : decide ((48 : Int) ≤ (r : Int)) = true := decide_eq_true q3
              have q3b : decide (48 ≤ r) = true := decide_eq_true (by omega)
              by_cases q4 : (r : Int) ≤ 57
              case neg =>
                have q4a : decide ((r : Int) ≤ 57) = false := decide_eq_false q4
                have q4b : decide (r ≤ 57) = false := decide_eq_false (by omega)
                rw [if_neg (fun hh => q4 hh.2.1)] at hg
                simp only [Prod.mk.injEq] at hg
                obtain ⟨rfl, rfl, rfl⟩ := hg
                go_wp2
                go_ret3
                exact ⟨rfl, by repeat (first | exact hB | apply below_alloc | apply pw_below_drewN | apply below_drew1)⟩
              have q4a : decide ((r : Int) ≤ 57) = true := decide_eq_true q4
              have q4b : decide (r ≤ 57) = true := decide_eq_true (by omega)
              have e1 : wrap64 (10 * n0) = 10 * n0 := by unfold wrap64; omega
              have e2 : wrap32 ((r : Int) - 48) = (r : Int) - 48 := by unfold wrap32; omega
              have e3 : wrap64 (10 * n0 + ((r : Int) - 48)) = 10 * n0 + ((r : Int) - 48) := by unfold wrap64; omega
              have e4 : wrap64 ((r : Int) - 48) = (r : Int) - 48 := by unfold wrap64; omega
              by_cases q6 : 10 * n0 + ((r : Int) - 48) ≤ a0
              case neg =>
                have q6a : decide (10 * n0 + ((r : Int) - 48) ≤ a0) = false := decide_eq_false q6
                rw [if_neg (fun hh => q6 hh.2.2.2)] at hg
                simp only [Prod.mk.injEq] at hg
                obtain ⟨rfl, rfl, rfl⟩ := hg
                go_wp2
                go_ret3
                exact ⟨rfl, by repeat (first | exact hB | apply below_alloc | apply pw_below_drewN | apply below_drew1)⟩
              have q6a : decide (10 * n0 + ((r : Int) - 48) ≤ a0) = true := decide_eq_true q6
              rw [if_pos ⟨q3, q4, .inl rfl, q6⟩] at hg
              go_wp2
              go_roundw
              case rel => exact ⟨W1, pos + 1, b, 2, (10 * n0 + ((r : Int) - 48)), rfl, hW, hB, rfl, rfl, hg, by omega, .inr (.inr rfl), (by omega), q6⟩
              case measure =>
                rw [← hW, World.iterPos_iter, World.iterPos_iter]
                omega
          · rw [if_neg (fun hh => by cases hh.1)] at hg
            by_cases q2 : pos < 4
            case neg =>
              have q2a : decide ((pos : Int) < 4) = false := decide_eq_false (by omega)
              have q2b : decide (pos < 4) = false := decide_eq_false q2
              rw [if_neg (fun hh => q2 hh.2.1)] at hg
              by_cases q3 : (48 : Int) ≤ (r : Int)
              case neg =>
                have q3a : decide ((48 : Int) ≤ (r : Int)) = false := decide_eq_false q3
                have q3b : decide (48 ≤ r) = false := decide_eq_false (by omega)
                rw [if_neg (fun hh => q3 hh.1)] at hg
                simp only [Prod.mk.injEq] at hg
                obtain ⟨rfl, rfl, rfl⟩ := hg
                go_wp2
                go_ret3
                exact ⟨rfl, by repeat (first | exact hB | apply below_alloc | apply pw_below_drewN | apply below_drew1)⟩
              have q3a : decide ((48 : Int) ≤ (r : Int)) = true := decide_eq_true q3
              have q3b : decide (48 ≤ r) = true := decide_eq_true (by omega)
              by_cases q4 : (r : Int) ≤ 57
              case neg =>
                have q4a : decide ((r : Int) ≤ 57) = false := decide_eq_false q4
                have q4b : decide (r ≤ 57) = false := decide_eq_false (by omega)
                rw [if_neg (fun hh => q4 hh.2.1)] at hg
                simp only [Prod.mk.injEq] at hg
                obtain ⟨rfl, rfl, rfl⟩ := hg
                go_wp2
                go_ret3
                exact ⟨rfl, by repeat (first | exact hB | apply below_alloc | apply pw_below_drewN | apply below_drew1)⟩
              have q4a : decide ((r : Int) ≤ 57) = true := decide_eq_true q4
              have q4b : decide (r ≤ 57) = true := decide_eq_true (by omega)
              rw [if_neg (fun hh => by rcases hh.2.2.1 with h5 | ⟨h5, _⟩ <;> cases h5)] at hg
              simp only [Prod.mk.injEq] at hg
              obtain ⟨rfl, rfl, rfl⟩ := hg
              go_wp2
              go_ret3
              exact ⟨rfl, by repeat (first | exact hB | apply below_alloc | apply pw_below_drewN | apply below_drew1)⟩
            obtain rfl | rfl | rfl | rfl : pos = 0 ∨ pos = 1 ∨ pos = 2 ∨ pos = 3 := by omega
            · have hi : wrap32 ((((⟨#[110, 111, 110, 101]⟩ : ByteArray)[0]'(by decide)).toNat : Nat) : Int) = 110 := by first | decide | kernel_rfl | (unfold wrap32; decide)
              by_cases q1 : (r : Int) = 110
              · have q1a : ((r : Int) == 110) = true := beq_iff_eq.mpr q1
                have q1b : (r == 110) = true := beq_iff_eq.mpr (by omega)
                rw [if_pos ⟨rfl, by decide, q1⟩] at hg
                go_wp2
                go_roundw
                case rel => exact ⟨W1, 0 + 1, b, 1, n0, rfl, hW, hB, rfl, rfl, hg, by omega, .inr (.inl rfl), hn0, hn1⟩
                case measure =>
                  rw [← hW, World.iterPos_iter, World.iterPos_iter]
                  omega
              · have q1a : ((r : Int) == 110) = false := beq_eq_false_iff_ne.mpr q1
                have q1b : (r == 110) = false := beq_eq_false_iff_ne.mpr (by omega)
                rw [if_neg (fun hh => q1 hh.2.2)] at hg
                by_cases q3 : (48 : Int) ≤ (r : Int)
                case neg =>
                  have q3a : decide ((48 : Int) ≤ (r : Int)) = false := decide_eq_false q3
                  have q3b : decide (48 ≤ r) = false := decide_eq_false (by omega)
                  rw [if_neg (fun hh => q3 hh.1)] at hg
                  simp only [Prod.mk.injEq] at hg
                  obtain ⟨rfl, rfl, rfl⟩ := hg
                  go_wp2
                  go_ret3
                  exact ⟨rfl, by repeat (first | exact hB | apply below_alloc | apply pw_below_drewN | apply below_drew1)⟩
                have q3a : decide ((48 : Int) ≤ (r : Int)) = true := decide_eq_true q3
                have q3b : decide (48 ≤ r) = true := decide_eq_true (by omega)
                by_cases q4 : (r : Int) ≤ 57
                case neg =>
                  have q4a : decide ((r : Int) ≤ 57) = false := decide_eq_false q4
                  have q4b : decide (r ≤ 57) = false := decide_eq_false (by omega)
                  rw [if_neg (fun hh => q4 hh.2.1)] at hg
                  simp only [Prod.mk.injEq] at hg
                  obtain ⟨rfl, rfl, rfl⟩ := hg
                  go_wp2
                  go_ret3
                  exact ⟨rfl, by repeat (first | exact hB | apply below_alloc | apply pw_below_drewN | apply below_drew1)⟩
                have q4a : decide ((r : Int) ≤ 57) = true := decide_eq_true q4
                have q4b : decide (r ≤ 57) = true := decide_eq_true (by omega)
                rw [if_neg (fun hh => by rcases hh.2.2.1 with h5 | ⟨h5, _⟩ <;> cases h5)] at hg
                simp only [Prod.mk.injEq] at hg
                obtain ⟨rfl, rfl, rfl⟩ := hg
                go_wp2
                go_ret3
                exact ⟨rfl, by repeat (first | exact hB | apply below_alloc | apply pw_below_drewN | apply below_drew1)⟩
            · have hi : wrap32 ((((⟨#[110, 111, 110, 101]⟩ : ByteArray)[1]'(by decide)).toNat : Nat) : Int) = 111 := by first | decide | kernel_rfl | (unfold wrap32; decide)
              by_cases q1 : (r : Int) = 111
              · have q1a : ((r : Int) == 111) = true := beq_iff_eq.mpr q1
                have q1b : (r == 111) = true := beq_iff_eq.mpr (by omega)
                rw [if_pos ⟨rfl, by decide, q1⟩] at hg
                go_wp2
                go_roundw
                case rel => exact ⟨W1, 1 + 1, b, 1, n0, rfl, hW, hB, rfl, rfl, hg, by omega, .inr (.inl rfl), hn0, hn1⟩
                case measure =>
                  rw [← hW, World.iterPos_iter, World.iterPos_iter]
                  omega
              · have q1a : ((r : Int) == 111) = false := beq_eq_false_iff_ne.mpr q1
                have q1b : (r == 111) = false := beq_eq_false_iff_ne.mpr (by omega)
                rw [if_neg (fun hh => q1 hh.2.2)] at hg
                by_cases q3 : (48 : Int) ≤ (r : Int)
                case neg =>
                  have q3a : decide ((48 : Int) ≤ (r : Int)) = false := decide_eq_false q3
                  have q3b : decide (48 ≤ r) = false := decide_eq_false (by omega)
                  rw [if_neg (fun hh => q3 hh.1)] at hg
                  simp only [Prod.mk.injEq] at hg
                  obtain ⟨rfl, rfl, rfl⟩ := hg
                  go_wp2
                  go_ret3
                  exact ⟨rfl, by repeat (first | exact hB | apply below_alloc | apply pw_below_drewN | apply below_drew1)⟩
                have q3a : decide ((48 : Int) ≤ (r : Int)) = true := decide_eq_true q3
                have q3b : decide (48 ≤ r) = true := decide_eq_true (by omega)
                by_cases q4 : (r : Int) ≤ 57
                case neg =>
                  have q4a : decide ((r : Int) ≤ 57) = false := decide_eq_false q4
                  have q4b : decide (r ≤ 57) = false := decide_eq_false (by omega)
                  rw [if_neg (fun hh => q4 hh.2.1)] at hg
                  simp only [Prod.mk.injEq] at hg
                  obtain ⟨rfl, rfl, rfl⟩ := hg
                  go_wp2
                  go_ret3
                  exact ⟨rfl, by repeat (first | exact hB | apply below_alloc | apply pw_below_drewN | apply below_drew1)⟩
                have q4a : decide ((r : Int) ≤ 57) = true := decide_eq_true q4
                have q4b : decide (r ≤ 57) = true := decide_eq_true (by omega)
                rw [if_neg (fun hh => by rcases hh.2.2.1 with h5 | ⟨h5, _⟩ <;> cases h5)] at hg
                simp only [Prod.mk.injEq] at hg
                obtain ⟨rfl, rfl, rfl⟩ := hg
                go_wp2
                go_ret3
                exact ⟨rfl, by repeat (first | exact hB | apply below_alloc | apply pw_below_drewN | apply below_drew1)⟩
            · have hi : wrap32 ((((⟨#[110, 111, 110, 101]⟩ : ByteArray)[2]'(by decide)).toNat : Nat) : Int) = 110 := by first | decide | kernel_rfl | (unfold wrap32; decide)
              by_cases q1 : (r : Int) = 110
              · have q1a : ((r : Int) == 110) = true := beq_iff_eq.mpr q1
                have q1b : (r == 110) = true := beq_iff_eq.mpr (by omega)
                rw [if_pos ⟨rfl, by decide, q1⟩] at hg
                go_wp2
                go_roundw
                case rel => exact ⟨W1, 2 + 1, b, 1, n0, rfl, hW, hB, rfl, rfl, hg, by omega, .inr (.inl rfl), hn0, hn1⟩
                case measure =>
                  rw [← hW, World.iterPos_iter, World.iterPos_iter]
                  omega
              · have q1a : ((r : Int) == 110) = false := beq_eq_false_iff_ne.mpr q1
                have q1b : (r == 110) = false := beq_eq_false_iff_ne.mpr (by omega)
                rw [if_neg (fun hh => q1 hh.2.2)] at hg
                by_cases q3 : (48 : Int) ≤ (r : Int)
                case neg =>
                  have q3a : decide ((48 : Int) ≤ (r : Int)) = false := decide_eq_false q3
                  have q3b : decide (48 ≤ r) = false := decide_eq_false (by omega)
                  rw [if_neg (fun hh => q3 hh.1)] at hg
                  simp only [Prod.mk.injEq] at hg
                  obtain ⟨rfl, rfl, rfl⟩ := hg
                  go_wp2
                  go_ret3
                  exact ⟨rfl, by repeat (first | exact hB | apply below_alloc | apply pw_below_drewN | apply below_drew1)⟩
                have q3a : decide ((48 : Int) ≤ (r : Int)) = true := decide_eq_true q3
                have q3b : decide (48 ≤ r) = true := decide_eq_true (by omega)
                by_cases q4 : (r : Int) ≤ 57
                case neg =>
                  have q4a : decide ((r : Int) ≤ 57) = false := decide_eq_false q4
                  have q4b : decide (r ≤ 57) = false := decide_eq_false (by omega)
                  rw [if_neg (fun hh => q4 hh.2.1)] at hg
                  simp only [Prod.mk.injEq] at hg
                  obtain ⟨rfl, rfl, rfl⟩ := hg
                  go_wp2
                  go_ret3
                  exact ⟨rfl, by repeat (first | exact hB | apply below_alloc | apply pw_below_drewN | apply below_drew1)⟩
                have q4a : decide ((r : Int) ≤ 57) = true := decide_eq_true q4
                have q4b : decide (r ≤ 57) = true := decide_eq_true (by omega)
                rw [if_neg (fun hh => by rcases hh.2.2.1 with h5 | ⟨h5, _⟩ <;> cases h5)] at hg
                simp only [Prod.mk.injEq] at hg
                obtain ⟨rfl, rfl, rfl⟩ := hg
                go_wp2
                go_ret3
                exact ⟨rfl, by repeat (first | exact hB | apply below_alloc | apply pw_below_drewN | apply below_drew1)⟩
            · have hi : wrap32 ((((⟨#[110, 111, 110, 101]⟩ : ByteArray)[3]'(by decide)).toNat : Nat) : Int) = 101 := by first | decide | kernel_rfl | (unfold wrap32; decide)
              by_cases q1 : (r : Int) = 101
              · have q1a : ((r : Int) == 101) = true := beq_iff_eq.mpr q1
                have q1b : (r == 101) = true := beq_iff_eq.mpr (by omega)
                rw [if_pos ⟨rfl, by decide, q1⟩] at hg
                go_wp2
                go_roundw
                case rel => exact ⟨W1, 3 + 1, b, 1, n0, rfl, hW, hB, rfl, rfl, hg, by omega, .inr (.inl rfl), hn0, hn1⟩
                case measure =>
                  rw [← hW, World.iterPos_iter, World.iterPos_iter]
                  omega
              · have q1a : ((r : Int) == 101) = false := beq_eq_false_iff_ne.mpr q1
                have q1b : (r == 101) = false := beq_eq_false_iff_ne.mpr (by omega)
                rw [if_neg (fun hh => q1 hh.2.2)] at hg
                by_cases q3 : (48 : Int) ≤ (r : Int)
                case neg =>
                  have q3a : decide ((48 : Int) ≤ (r : Int)) = false := decide_eq_false q3
                  have q3b : decide (48 ≤ r) = false := decide_eq_false (by omega)
                  rw [if_neg (fun hh => q3 hh.1)] at hg
                  simp only [Prod.mk.injEq] at hg
                  obtain ⟨rfl, rfl, rfl⟩ := hg
                  go_wp2
                  go_ret3
                  exact ⟨rfl, by repeat (first | exact hB | apply below_alloc | apply pw_below_drewN | apply below_drew1)⟩
                have q3a : decide ((48 : Int) ≤ (r : Int)) = true := decide_eq_true q3
                have q3b : decide (48 ≤ r) = true := decide_eq_true (by omega)
                by_cases q4 : (r : Int) ≤ 57
                case neg =>
                  have q4a : decide ((r : Int) ≤ 57) = false := decide_eq_false q4
                  have q4b : decide (r ≤ 57) = false := decide_eq_false (by omega)
                  rw [if_neg (fun hh => q4 hh.2.1)] at hg
                  simp only [Prod.mk.injEq] at hg
                  obtain ⟨rfl, rfl, rfl⟩ := hg
                  go_wp2
                  go_ret3
                  exact ⟨rfl, by repeat (first | exact hB | apply below_alloc | apply pw_below_drewN | apply below_drew1)⟩
                have q4a : decide ((r : Int) ≤ 57) = true := decide_eq_true q4
                have q4b : decide (r ≤ 57) = true := decide_eq_true (by omega)
                rw [if_neg (fun hh => by rcases hh.2.2.1 with h5 | ⟨h5, _⟩ <;> cases h5)] at hg
                simp only [Prod.mk.injEq] at hg
                obtain ⟨rfl, rfl, rfl⟩ := hg
                go_wp2
                go_ret3
                exact ⟨rfl, by repeat (first | exact hB | apply below_alloc | apply pw_below_drewN | apply below_drew1)⟩
          · rw [if_neg (fun hh => by cases hh.1), if_neg (fun hh => by cases hh.1)] at hg
            by_cases q3 : (48 : Int) ≤ (r : Int)
            case neg =>
              have q3a : decide ((48 : Int) ≤ (r : Int)) = false := decide_eq_false q3
              have q3b : decide (48 ≤ r) = false := decide_eq_false (by omega)
              rw [if_neg (fun hh => q3 hh.1)] at hg
              simp only [Prod.mk.injEq] at hg
              obtain ⟨rfl, rfl, rfl⟩ := hg
              go_wp2
              go_ret3
              exact ⟨rfl, by repeat (first | exact hB | apply below_alloc | apply pw_below_drewN | apply below_drew1)⟩
            have q3a : decide ((48 : Int) ≤ (r : Int)) = true := decide_eq_true q3
            have q3b : decide (48 ≤ r) = true := decide_eq_true (by omega)
            by_cases q4 : (r : Int) ≤ 57
            case neg =>
              have q4a : decide ((r : Int) ≤ 57) = false := decide_eq_false q4
              have q4b : decide (r ≤ 57) = false := decide_eq_false (by omega)
              rw [if_neg (fun hh => q4 hh.2.1)] at hg
              simp only [Prod.mk.injEq] at hg
              obtain ⟨rfl, rfl, rfl⟩ := hg
              go_wp2
              go_ret3
              exact ⟨rfl, by repeat (first | exact hB | apply below_alloc | apply pw_below_drewN | apply below_drew1)⟩
            have q4a : decide ((r : Int) ≤ 57) = true := decide_eq_true q4
            have q4b : decide (r ≤ 57) = true := decide_eq_true (by omega)
            by_cases q5 : 0 < n0
            case neg =>
              have q5a : decide (0 < n0) = false := decide_eq_false q5
              rw [if_neg (fun hh => by rcases hh.2.2.1 with h5 | ⟨_, h5⟩; cases h5; exact q5 h5)] at hg
              simp only [Prod.mk.injEq] at hg
              obtain ⟨rfl, rfl, rfl⟩ := hg
              go_wp2
              go_ret3
              exact ⟨rfl, by repeat (first | exact hB | apply below_alloc | apply pw_below_drewN | apply below_drew1)⟩
            have q5a : decide (0 < n0) = true := decide_eq_true q5
            have e1 : wrap64 (10 * n0) = 10 * n0 := by unfold wrap64; omega
            have e2 : wrap32 ((r : Int) - 48) = (r : Int) - 48 := by unfold wrap32; omega
            have e3 : wrap64 (10 * n0 + ((r : Int) - 48)) = 10 * n0 + ((r : Int) - 48) := by unfold wrap64; omega
            have e4 : wrap64 ((r : Int) - 48) = (r : Int) - 48 := by unfold wrap64; omega
            by_cases q6 : 10 * n0 + ((r : Int) - 48) ≤ a0
            case neg =>
              have q6a : decide (10 * n0 + ((r : Int) - 48) ≤ a0) = false := decide_eq_false q6
              rw [if_neg (fun hh => q6 hh.2.2.2)] at hg
              simp only [Prod.mk.injEq] at hg
              obtain ⟨rfl, rfl, rfl⟩ := hg
              go_wp2
              go_ret3
              exact ⟨rfl, by repeat (first | exact hB | apply below_alloc | apply pw_below_drewN | apply below_drew1)⟩
            have q6a : decide (10 * n0 + ((r : Int) - 48) ≤ a0) = true := decide_eq_true q6
            rw [if_pos ⟨q3, q4, .inr ⟨rfl, q5⟩, q6⟩] at hg
            go_wp2
            go_roundw
            case rel => exact ⟨W1, pos + 1, b, 2, (10 * n0 + ((r : Int) - 48)), rfl, hW, hB, rfl, rfl, hg, by omega, .inr (.inr rfl), (by omega), q6⟩
            case measure =>
              rw [← hW, World.iterPos_iter, World.iterPos_iter]
              omega
        · have hr := hhigh (by omega)
          clear hlow hhigh
          have q3a : decide ((48 : Int) ≤ (r : Int)) = true := decide_eq_true (by omega)
          have q3b : decide (48 ≤ r) = true := decide_eq_true (by omega)
          have q4a : decide ((r : Int) ≤ 57) = false := decide_eq_false (by omega)
          have q4b : decide (r ≤ 57) = false := decide_eq_false (by omega)
          have hnn : ¬ (s0 = 1 ∧ pos < 4 ∧ (c : Int) = cost_Read.nn pos) := by
            rintro ⟨_, h4, h5⟩
            obtain rfl | rfl | rfl | rfl : pos = 0 ∨ pos = 1 ∨ pos = 2 ∨ pos = 3 := by omega
            all_goals simp only [cost_Read.nn] at h5; omega
          rw [if_neg (by omega), if_neg hnn, if_neg (by omega)] at hg
          clear hnn
          rcases hs with rfl | rfl | rfl
          · have q1a : ((r : Int) == 110) = false := beq_eq_false_iff_ne.mpr (by omega)
            have q1b : (r == 110) = false := beq_eq_false_iff_ne.mpr (by omega)
            simp only [Prod.mk.injEq] at hg
            obtain ⟨rfl, rfl, rfl⟩ := hg
            go_wp2
            go_ret3
            exact ⟨rfl, by repeat (first | exact hB | apply below_alloc | apply pw_below_drewN | apply below_drew1)⟩
          · by_cases q2 : pos < 4
            case neg =>
              have q2a : decide ((pos : Int) < 4) = false := decide_eq_false (by omega)
              have q2b : decide (pos < 4) = false := decide_eq_false q2
              simp only [Prod.mk.injEq] at hg
              obtain ⟨rfl, rfl, rfl⟩ := hg
              go_wp2
              go_ret3
              exact ⟨rfl, by repeat (first | exact hB | apply below_alloc | apply pw_below_drewN | apply below_drew1)⟩
            obtain rfl | rfl | rfl | rfl : pos = 0 ∨ pos = 1 ∨ pos = 2 ∨ pos = 3 := by omega
            · have hi : wrap32 ((((⟨#[110, 111, 110, 101]⟩ : ByteArray)[0]'(by decide)).toNat : Nat) : Int) = 110 := by first | decide | kernel_rfl | (unfold wrap32; decide)
              have q1a : ((r : Int) == 110) = false := beq_eq_false_iff_ne.mpr (by omega)
              have q1b : (r == 110) = false := beq_eq_false_iff_ne.mpr (by omega)
              simp only [Prod.mk.injEq] at hg
              obtain ⟨rfl, rfl, rfl⟩ := hg
              go_wp2
              go_ret3
              exact ⟨rfl, by repeat (first | exact hB | apply below_alloc | apply pw_below_drewN | apply below_drew1)⟩
            · have hi : wrap32 ((((⟨#[110, 111, 110, 101]⟩ : ByteArray)[1]'(by decide)).toNat : Nat) : Int) = 111 := by first | decide | kernel_rfl | (unfold wrap32; decide)
              have q1a : ((r : Int) == 111) = false := beq_eq_false_iff_ne.mpr (by omega)
              have q1b : (r == 111) = false := beq_eq_false_iff_ne.mpr (by omega)
              simp only [Prod.mk.injEq] at hg
              obtain ⟨rfl, rfl, rfl⟩ := hg
              go_wp2
              go_ret3
              exact ⟨rfl, by repeat (first | exact hB | apply below_alloc | apply pw_below_drewN | apply below_drew1)⟩
            · have hi : wrap32 ((((⟨#[110, 111, 110, 101]⟩ : ByteArray)[2]'(by decide)).toNat : Nat) : Int) = 110 := by first | decide | kernel_rfl | (unfold wrap32; decide)
              have q1a : ((r : Int) == 110) = false := beq_eq_false_iff_ne.mpr (by omega)
              have q1b : (r == 110) = false := beq_eq_false_iff_ne.mpr (by omega)
              simp only [Prod.mk.injEq] at hg
              obtain ⟨rfl, rfl, rfl⟩ := hg
              go_wp2
              go_ret3
              exact ⟨rfl, by repeat (first | exact hB | apply below_alloc | apply pw_below_drewN | apply below_drew1)⟩
            · have hi : wrap32 ((((⟨#[110, 111, 110, 101]⟩ : ByteArray)[3]'(by decide)).toNat : Nat) : Int) = 101 := by first | decide | kernel_rfl | (unfold wrap32; decide)
              have q1a : ((r : Int) == 101) = false := beq_eq_false_iff_ne.mpr (by omega)
              have q1b : (r == 101) = false := beq_eq_false_iff_ne.mpr (by omega)
              simp only [Prod.mk.injEq] at hg
              obtain ⟨rfl, rfl, rfl⟩ := hg
              go_wp2
              go_ret3
              exact ⟨rfl, by repeat (first | exact hB | apply below_alloc | apply pw_below_drewN | apply below_drew1)⟩
          · skip
            simp only [Prod.mk.injEq] at hg
            obtain ⟨rfl, rfl, rfl⟩ := hg
            go_wp2
            go_ret3
            exact ⟨rfl, by repeat (first | exact hB | apply below_alloc | apply pw_below_drewN | apply below_drew1)⟩
      · have hnx0 := fun ty => run_next_end (P := Tryd.prog) W1 a1 pos ty hp
        rw [hW] at hnx0
        rw [cost_Read.go_end _ _ _ _ _ _ hp] at hg
        unfold cost_Read.fin at hg
        rcases hs with rfl | rfl | rfl
        · simp only [if_true, Prod.mk.injEq] at hg
          obtain ⟨rfl, rfl, rfl⟩ := hg
          go_wp2
          go_ret3
          exact ⟨rfl, by repeat (first | exact hB | apply below_alloc | apply pw_below_drewN | apply below_drew1)⟩
        · by_cases hq : a1.toList = ([110, 111, 110, 101] : List UInt8)
          · have hq1 : (a1.toList == ([110, 111, 110, 101] : List UInt8)) = true := beq_iff_eq.mpr hq
            have hq2 : (a1.toList != ([110, 111, 110, 101] : List UInt8)) = false := bne_eq_false_iff_eq.mpr hq
            simp only [show ¬ ((1 : Int) = 0) by decide, if_false, if_true, if_pos hq, Prod.mk.injEq] at hg
            obtain ⟨rfl, rfl, rfl⟩ := hg
            go_wp2
            go_ret3
            exact ⟨rfl, by repeat (first | exact hB | apply below_alloc | apply pw_below_drewN | apply below_drew1)⟩
          · have hq1 : (a1.toList == ([110, 111, 110, 101] : List UInt8)) = false := beq_eq_false_iff_ne.mpr hq
            have hq2 : (a1.toList != ([110, 111, 110, 101] : List UInt8)) = true := bne_iff_ne.mpr hq
            simp only [show ¬ ((1 : Int) = 0) by decide, if_false, if_true, if_neg hq, Prod.mk.injEq] at hg
            obtain ⟨rfl, rfl, rfl⟩ := hg
            go_wp2
            go_ret3
            exact ⟨rfl, by repeat (first | exact hB | apply below_alloc | apply pw_below_drewN | apply below_drew1)⟩
        · simp only [show ¬ ((2 : Int) = 0) by decide, show ¬ ((2 : Int) = 1) by decide, if_false, Prod.mk.injEq] at hg
          obtain ⟨rfl, rfl, rfl⟩ := hg
          go_wp2
          go_ret3
          exact ⟨rfl, by repeat (first | exact hB | apply below_alloc | apply pw_below_drewN | apply below_drew1)⟩

end Go.Proofs.YtgjeoioneoncnaaDoor.P
