/- Px5, for the statement BitsTexts: what it needs, no more. -/
import Derived.Test.YtpaikjnmopkekaaDoorZBitsTextsPx0
import Derived.Test.YtpaikjnmopkekaaDoorZBitsTextsPx1
import Derived.Test.YtpaikjnmopkekaaDoorZBitsTextsPx4
-- Written by a program of this session (wip/print/patch_print.py over the kit's printer) out of the translation: functions and contracts. Lean checks it.
namespace Go.Proofs.YtpaikjnmopkekaaDoor.P
open Go.RowKit Go.Proofs.YtpaikjnmopkekaaDoorW.PrintWords Go.Proofs.YtpaikjnmopkekaaDoorW.PrintLast Go.Proofs.YtpaikjnmopkekaaDoorW.PrintMore
attribute [local go_sem] max2_int min2_int max_two min_two max_three min_three max_four min_four   -- for this text's walks alone
set_option linter.unusedVariables false
set_option linter.unusedSimpArgs false
mutual
def stackyardref01_Read.j0 : Nat → ByteArray → Bool → Option (Int × Int × Int)
  | 0, _, _ => none
  | k + 1, x0, x15 => if x15 = true then (some (0, 0, 11)) else (if (x0.size : Int) > 1 then (if 1 < (x0.size : Int) then (stackyardref01_Read.j1 k x0 ((bt x0 1) == 125)) else (none)) else (stackyardref01_Read.j1 k x0 false))
def stackyardref01_Read.j1 : Nat → ByteArray → Bool → Option (Int × Int × Int)
  | 0, _, _ => none
  | k + 1, x0, x23 => if x23 = true then (if (x0.size : Int) > 2 then (some (0, 2, 11)) else (some (0, 0, 0))) else (stackyardref01_Read.l0 k x0 (-1) 0 1)
def stackyardref01_Read.l0 : Nat → ByteArray → Int → Int → Int → Option (Int × Int × Int)
  | 0, _, _, _, _ => none
  | k + 1, x0, x5, x6, x7 => stackyardref01_Read.l1 k x0 x5 x6 x7 (-1)
def stackyardref01_Read.l1 : Nat → ByteArray → Int → Int → Int → Int → Option (Int × Int × Int)
  | 0, _, _, _, _, _ => none
  | k + 1, x0, x5, x6, x7, x8 => if x7 < (x0.size : Int) then (if 0 ≤ x7 then ((stackyardref01_digit.f (bt x0 x7)).bind fun t185 => (if t185 = true then ((stackyardref01_may.f x8 (((bt x0 x7) - 48) % 256) x5).bind fun t186 => (stackyardref01_Read.j4 k x0 x5 x6 x7 x8 t186)) else (stackyardref01_Read.j4 k x0 x5 x6 x7 x8 false))) else (none)) else (stackyardref01_Read.j4 k x0 x5 x6 x7 x8 false)
def stackyardref01_Read.j4 : Nat → ByteArray → Int → Int → Int → Int → Bool → Option (Int × Int × Int)
  | 0, _, _, _, _, _, _ => none
  | k + 1, x0, x5, x6, x7, x8, x46 => if x46 = true then (if x8 < 0 then (if 0 ≤ x7 then (if x7 < (x0.size : Int) then (stackyardref01_Read.l1 k x0 x5 x6 (wrap64 (x7 + 1)) ((0 * 10) + (((bt x0 x7) - 48) % 256))) else (none)) else (none)) else (if 0 ≤ x7 then (if x7 < (x0.size : Int) then (stackyardref01_Read.l1 k x0 x5 x6 (wrap64 (x7 + 1)) (wrap64 ((wrap64 (x8 * 10)) + (((bt x0 x7) - 48) % 256)))) else (none)) else (none))) else (if x8 ≤ x5 then (stackyardref01_Read.j5 k x0 x6 x7 x8 true) else (if x7 ≥ (x0.size : Int) then (stackyardref01_Read.j5 k x0 x6 x7 x8 true) else (if 0 ≤ x7 then (if x7 < (x0.size : Int) then (if (bt x0 x7) = 44 then (stackyardref01_Read.j5 k x0 x6 x7 x8 (x8 == 63)) else (if (bt x0 x7) = 125 then (stackyardref01_Read.j5 k x0 x6 x7 x8 false) else (stackyardref01_Read.j5 k x0 x6 x7 x8 true))) else (none)) else (none))))
def stackyardref01_Read.j5 : Nat → ByteArray → Int → Int → Int → Bool → Option (Int × Int × Int)
  | 0, _, _, _, _, _ => none
  | k + 1, x0, x6, x7, x8, x89 => if x89 = true then (some (0, x7, 11)) else ((stackyardref01_Worth.f k x8).bind fun t187 => (if 0 ≤ (wrap64 ((wrap64 (x7 + 1)) - 1)) then (if (wrap64 ((wrap64 (x7 + 1)) - 1)) < (x0.size : Int) then (if (bt x0 (wrap64 ((wrap64 (x7 + 1)) - 1))) = 125 then (if (wrap64 (x7 + 1)) < (x0.size : Int) then (some (0, wrap64 (x7 + 1), 11)) else (some (IntKind.u64.wrap (x6 + t187), 0, 0))) else (stackyardref01_Read.l0 k x0 x8 (IntKind.u64.wrap (x6 + t187)) (wrap64 (x7 + 1)))) else (none)) else (none)))
end
def stackyardref01_Read.f (k : Nat) (a0 : ByteArray) : Option (Int × Int × Int) := if a0.toList = ([] : List UInt8) then (stackyardref01_Read.j0 k a0 true) else (if 0 < (a0.size : Int) then (stackyardref01_Read.j0 k a0 ((bt a0 0) != 123)) else (none))
set_option maxHeartbeats 8000000 in
set_option maxRecDepth 100000 in
theorem stackyardref01_Read.calls (k : Nat) (a0 : ByteArray) (r1 : Int) (r2 : Int) (r3 : Int) (w : World) (h : stackyardref01_Read.f k a0 = some (r1, r2, r3)) :
    Calls Tryd.prog 28 #[.string a0] w fun e w' => e = .returned (.tuple #[.int .u64 r1, .int .i64 r2, .int .i64 r3]) ∧ Drawn0 w w' := by
  have H : (if a0.toList = ([] : List UInt8) then (stackyardref01_Read.j0 k a0 true) else (if 0 < (a0.size : Int) then (stackyardref01_Read.j0 k a0 ((bt a0 0) != 123)) else (none))) = some (r1, r2, r3) := h
  clear h
  have HC2 := Aside0.mk H
  clear H
  go_enter Tryd.func28, Tryd.ntmps28
  go_upto_region 1 with (fail)
  go_cut [15] (fun v15 wc => ∃ (kq : Nat) (x15_1 : Bool), v15 = .bool x15_1 ∧ Aside0 (stackyardref01_Read.j0 kq a0 x15_1 = some (r1, r2, r3)) ∧ Aside0 (kq ≤ k) ∧ Drawn0 w wc)
  case first =>
    have H := HC2.out
    clear HC2
    by_cases c3 : a0.toList = ([] : List UInt8)
    · rw [if_pos c3] at H
      have c3b0 : (a0.toList == ([] : List UInt8)) = true := beq_iff_eq.mpr c3
      have c3b1 : (a0.toList != ([] : List UInt8)) = false := bne_eq_false_iff_eq.mpr c3
      clear c3
      (first | rw [c3b0] | (simp only [i64_w, i32_w]; rw [c3b0]) | skip)
      have H' := Aside0.mk H
      clear H
      go_wp2
      go_meet
      case rel => exact ⟨_, (true), (by first | rfl | (simp; done) | (simp [*]; done)), H', ⟨by first | omega | exact Nat.le_refl _⟩, by repeat (first | exact Drawn0.refl _ | apply Drawn0.step)⟩
    · rw [if_neg c3] at H
      have c3b0 : (a0.toList == ([] : List UInt8)) = false := beq_eq_false_iff_ne.mpr c3
      have c3b1 : (a0.toList != ([] : List UInt8)) = true := bne_iff_ne.mpr c3
      (first | rw [c3b0] | (simp only [i64_w, i32_w]; rw [c3b0]) | skip)
      by_cases c4 : 0 < (a0.size : Int)
      · rw [if_pos c4] at H
        have c4b0 : decide (0 < (a0.size : Int)) = true := decide_eq_true c4
        have c4b1 : decide (0 < a0.size) = true := decide_eq_true (by omega)
        clear c4
        have H' := Aside0.mk H
        clear H
        have p5 : 0 ≤ (0 : Int) := (by omega)
        have q5 : 0 < a0.size := (by have : (0 : Int) < (a0.size : Int) := of_decide_eq_true (by first | (with_reducible assumption) | assumption); omega)
        have hx5 : ∀ h : 0 < a0.size, ((a0[0]'h).toNat : Int) = bt a0 0 := bt_at a0 0
        clear p5
        have qi5 : (0 < (a0.size : Int)) = True := eq_true (of_decide_eq_true (by first | (with_reducible assumption) | assumption))
        replace q5 := eq_true q5
        go_wp2
        go_meet
        case rel => exact ⟨_, (((bt a0 0) != 123)), (by first | rfl | (simp; done) | (simp [*]; done)), H', ⟨by first | omega | exact Nat.le_refl _⟩, by repeat (first | exact Drawn0.refl _ | apply Drawn0.step)⟩
      · rw [if_neg c4] at H
        exact absurd H (by simp)
  case rest =>
    clear HC2
    try clear c2
    try clear p2
    try clear c3
    try clear c3b0
    try clear c3b1
    try clear c4
    try clear c4b0
    try clear c4b1
    try clear p5
    try clear q5
    try clear hx5
    try clear qi5
    try clear p5
    try clear q5
    obtain ⟨kq, x15_1, rfl, HA, HJ1, ⟨mc1, rfl⟩⟩ := hcut
    cases kq with
    | zero => exact absurd HA.out (by simp [stackyardref01_Read.j0])
    | succ kj1 =>
      have H := HA.out
      clear HA
      simp only [stackyardref01_Read.j0] at H
      by_cases c6 : x15_1 = true
      · subst c6
        have H1 : (some (0, 0, 11)) = some (r1, r2, r3) := by rw [if_pos rfl] at H; exact H
        clear H
        have H := H1
        clear H1
        simp only [Option.some.injEq, Prod.mk.injEq] at H
        obtain ⟨rfl, rfl, rfl⟩ := H
        go_wp2
        go_ret3
        exact ⟨by first | rfl | (simp; done) | (simp [*]; done), by repeat (first | exact Drawn0.refl _ | apply Drawn0.step)⟩
      · replace c6 := Bool.eq_false_iff.mpr c6
        subst c6
        have H1 : (if (a0.size : Int) > 1 then (if 1 < (a0.size : Int) then (stackyardref01_Read.j1 kj1 a0 ((bt a0 1) == 125)) else (none)) else (stackyardref01_Read.j1 kj1 a0 false)) = some (r1, r2, r3) := by rw [if_neg (show ¬ (false = true) by decide)] at H; exact H
        clear H
        have H := H1
        clear H1
        have HC7 := Aside0.mk H
        clear H
        go_upto_region 3 with (fail)
        go_cut [23] (fun v23 wc => ∃ (kq : Nat) (x23_6 : Bool), v23 = .bool x23_6 ∧ Aside0 (stackyardref01_Read.j1 kq a0 x23_6 = some (r1, r2, r3)) ∧ Aside0 (kq ≤ kj1) ∧ Drawn0 w wc)
        case first =>
          have H := HC7.out
          clear HC7
          by_cases c8 : (a0.size : Int) > 1
          · rw [if_pos c8] at H
            have c8b0 : decide (1 < (a0.size : Int)) = true := decide_eq_true c8
            have c8b1 : decide (1 < a0.size) = true := decide_eq_true (by omega)
            clear c8
            (first | rw [c8b0] | (simp only [i64_w, i32_w]; rw [c8b0]) | skip)
            by_cases c9 : 1 < (a0.size : Int)
            · rw [if_pos c9] at H
              have c9b0 : decide (1 < (a0.size : Int)) = true := decide_eq_true c9
              have c9b1 : decide (1 < a0.size) = true := decide_eq_true (by omega)
              clear c9
              have H' := Aside0.mk H
              clear H
              have p10 : 0 ≤ (1 : Int) := (by omega)
              have q10 : 1 < a0.size := (by have : (1 : Int) < (a0.size : Int) := of_decide_eq_true (by first | (with_reducible assumption) | assumption); omega)
              have hx10 : ∀ h : 1 < a0.size, ((a0[1]'h).toNat : Int) = bt a0 1 := bt_at a0 1
              clear p10
              have qi10 : (1 < (a0.size : Int)) = True := eq_true (of_decide_eq_true (by first | (with_reducible assumption) | assumption))
              replace q10 := eq_true q10
              go_wp2
              go_meet
              case rel => exact ⟨_, (((bt a0 1) == 125)), (by first | rfl | (simp; done) | (simp [*]; done)), H', ⟨by have := HJ1.out; first | omega | exact Nat.le_refl _⟩, by repeat (first | exact Drawn0.refl _ | apply Drawn0.step)⟩
            · rw [if_neg c9] at H
              exact absurd H (by simp)
          · rw [if_neg c8] at H
            have c8b0 : decide (1 < (a0.size : Int)) = false := decide_eq_false c8
            have c8b1 : decide (1 < a0.size) = false := decide_eq_false (by omega)
            clear c8
            (first | rw [c8b0] | (simp only [i64_w, i32_w]; rw [c8b0]) | skip)
            have H' := Aside0.mk H
            clear H
            go_wp2
            go_meet
            case rel => exact ⟨_, (false), (by first | rfl | (simp; done) | (simp [*]; done)), H', ⟨by have := HJ1.out; first | omega | exact Nat.le_refl _⟩, by repeat (first | exact Drawn0.refl _ | apply Drawn0.step)⟩
        case rest =>
          clear HC7
          try clear c1
          try clear p1
          try clear q1
          try clear hx1
          try clear qi1
          try clear c2
          try clear p2
          try clear c3
          try clear c3b0
          try clear c3b1
          try clear c4
          try clear c4b0
          try clear c4b1
          try clear p5
          try clear q5
          try clear hx5
          try clear qi5
          try clear c6
          try clear c8
          try clear c8b0
          try clear c8b1
          try clear c9
          try clear c9b0
          try clear c9b1
          try clear p10
          try clear q10
          try clear hx10
          try clear qi10
          try clear p10
          try clear p2
          try clear p5
          try clear q10
          try clear q5
          obtain ⟨kq, x23_6, rfl, HA, HJ6, ⟨mc6, rfl⟩⟩ := hcut
          cases kq with
          | zero => exact absurd HA.out (by simp [stackyardref01_Read.j1])
          | succ kj6 =>
            have H := HA.out
            clear HA
            simp only [stackyardref01_Read.j1] at H
            by_cases c11 : x23_6 = true
            · subst c11
              have H1 : (if (a0.size : Int) > 2 then (some (0, 2, 11)) else (some (0, 0, 0))) = some (r1, r2, r3) := by rw [if_pos rfl] at H; exact H
              clear H
              have H := H1
              clear H1
              by_cases c12 : (a0.size : Int) > 2
              · rw [if_pos c12] at H
                have c12b0 : decide (2 < (a0.size : Int)) = true := decide_eq_true c12
                have c12b1 : decide (2 < a0.size) = true := decide_eq_true (by omega)
                clear c12
                simp only [Option.some.injEq, Prod.mk.injEq] at H
                obtain ⟨rfl, rfl, rfl⟩ := H
                go_wp2
                go_ret3
                exact ⟨by first | rfl | (simp; done) | (simp [*]; done), by repeat (first | exact Drawn0.refl _ | apply Drawn0.step)⟩
              · rw [if_neg c12] at H
                have c12b0 : decide (2 < (a0.size : Int)) = false := decide_eq_false c12
                have c12b1 : decide (2 < a0.size) = false := decide_eq_false (by omega)
                clear c12
                simp only [Option.some.injEq, Prod.mk.injEq] at H
                obtain ⟨rfl, rfl, rfl⟩ := H
                go_wp2
                go_ret3
                exact ⟨by first | rfl | (simp; done) | (simp [*]; done), by repeat (first | exact Drawn0.refl _ | apply Drawn0.step)⟩
            · replace c11 := Bool.eq_false_iff.mpr c11
              subst c11
              have H1 : (stackyardref01_Read.l0 kj6 a0 (-1) 0 1) = some (r1, r2, r3) := by rw [if_neg (show ¬ (false = true) by decide)] at H; exact H
              clear H
              have H := H1
              clear H1
              have H' := Aside0.mk H
              clear H
              go_wp2
              go_loopg [5, 6, 7] kj6 (fun kq v5 v6 v7 w' => ∃ (x5_3 : Int) (x6_3 : Int) (x7_3 : Int), v5 = .int .i64 x5_3 ∧ v6 = .int .u64 x6_3 ∧ v7 = .int .i64 x7_3 ∧ Aside0 (stackyardref01_Read.l0 kq a0 x5_3 x6_3 x7_3 = some (r1, r2, r3)) ∧ Aside0 (kq ≤ kj6) ∧ Drawn0 w w')
              case atStart => exact ⟨((-1)), (0), (1), (by first | rfl | (simp; done) | (simp [*]; done)), (by first | rfl | (simp; done) | (simp [*]; done)), (by first | rfl | (simp; done) | (simp [*]; done)), H', ⟨Nat.le_refl _⟩, by repeat (first | exact Drawn0.refl _ | apply Drawn0.step)⟩
              case round =>
                clear H'
                try clear c1
                try clear p1
                try clear q1
                try clear hx1
                try clear qi1
                try clear c2
                try clear p2
                try clear c3
                try clear c3b0
                try clear c3b1
                try clear c4
                try clear c4b0
                try clear c4b1
                try clear p5
                try clear q5
                try clear hx5
                try clear qi5
                try clear c6
                try clear c8
                try clear c8b0
                try clear c8b1
                try clear c9
                try clear c9b0
                try clear c9b1
                try clear p10
                try clear q10
                try clear hx10
                try clear qi10
                try clear c11
                try clear c12
                try clear c12b0
                try clear c12b1
                try clear p1
                try clear p10
                try clear p2
                try clear p5
                try clear q1
                try clear q10
                try clear q5
                obtain ⟨x5_3, x6_3, x7_3, rfl, rfl, rfl, HA, HK3, ⟨m3, rfl⟩⟩ := hrel
                cases gk with
                | zero => exact absurd HA.out (by simp [stackyardref01_Read.l0])
                | succ k3 =>
                  have H := HA.out
                  clear HA
                  simp only [stackyardref01_Read.l0] at H
                  have H' := Aside0.mk H
                  clear H
                  go_wp2
                  go_loopg [7, 8] k3 (fun kq v7 v8 w' => ∃ (x7_4 : Int) (x8_4 : Int), v7 = .int .i64 x7_4 ∧ v8 = .int .i64 x8_4 ∧ Aside0 (stackyardref01_Read.l1 kq a0 x5_3 x6_3 x7_4 x8_4 = some (r1, r2, r3)) ∧ Aside0 (kq ≤ k3) ∧ Drawn0 w w')
                  case atStart => exact ⟨(x7_3), ((-1)), (by first | rfl | (simp; done) | (simp [*]; done)), (by first | rfl | (simp; done) | (simp [*]; done)), H', ⟨Nat.le_refl _⟩, by repeat (first | exact Drawn0.refl _ | apply Drawn0.step)⟩
                  case round =>
                    clear H'
                    try clear c1
                    try clear p1
                    try clear q1
                    try clear hx1
                    try clear qi1
                    try clear c2
                    try clear p2
                    try clear c3
                    try clear c3b0
                    try clear c3b1
                    try clear c4
                    try clear c4b0
                    try clear c4b1
                    try clear p5
                    try clear q5
                    try clear hx5
                    try clear qi5
                    try clear c6
                    try clear c8
                    try clear c8b0
                    try clear c8b1
                    try clear c9
                    try clear c9b0
                    try clear c9b1
                    try clear p10
                    try clear q10
                    try clear hx10
                    try clear qi10
                    try clear c11
                    try clear c12
                    try clear c12b0
                    try clear c12b1
                    try clear p1
                    try clear p10
                    try clear p2
                    try clear p5
                    try clear q1
                    try clear q10
                    try clear q5
                    obtain ⟨x7_4, x8_4, rfl, rfl, HA, HK4, ⟨m4, rfl⟩⟩ := hrel
                    cases gk with
                    | zero => exact absurd HA.out (by simp [stackyardref01_Read.l1])
                    | succ k4 =>
                      have H := HA.out
                      clear HA
                      simp only [stackyardref01_Read.l1] at H
                      have HC13 := Aside0.mk H
                      clear H
                      go_upto_region 11 with (fail)
                      go_cut [46] (fun v46 wc => ∃ (kq : Nat) (x46_12 : Bool), v46 = .bool x46_12 ∧ Aside0 (stackyardref01_Read.j4 kq a0 x5_3 x6_3 x7_4 x8_4 x46_12 = some (r1, r2, r3)) ∧ Aside0 (kq ≤ k4) ∧ Drawn0 w wc)
                      case first =>
                        have H := HC13.out
                        clear HC13
                        by_cases c14 : x7_4 < (a0.size : Int)
                        · rw [if_pos c14] at H
                          have c14b0 : decide (x7_4 < (a0.size : Int)) = true := decide_eq_true c14
                          clear c14
                          (first | rw [c14b0] | (simp only [i64_w, i32_w]; rw [c14b0]) | skip)
                          by_cases c15 : 0 ≤ x7_4
                          · rw [if_pos c15] at H
                            have c15b0 : decide (0 ≤ x7_4) = true := decide_eq_true c15
                            clear c15
                            replace H := Option.bind_eq_some_iff.mp H
                            obtain ⟨t185, A170, H⟩ := H
                            replace H : (if t185 = true then ((stackyardref01_may.f x8_4 (((bt a0 x7_4) - 48) % 256) x5_3).bind fun t186 => (stackyardref01_Read.j4 k4 a0 x5_3 x6_3 x7_4 x8_4 t186)) else (stackyardref01_Read.j4 k4 a0 x5_3 x6_3 x7_4 x8_4 false)) = some (r1, r2, r3) := H
                            have A17 := Aside0.mk A170
                            clear A170
                            by_cases c18 : t185 = true
                            · subst c18
                              have H1 : ((stackyardref01_may.f x8_4 (((bt a0 x7_4) - 48) % 256) x5_3).bind fun t186 => (stackyardref01_Read.j4 k4 a0 x5_3 x6_3 x7_4 x8_4 t186)) = some (r1, r2, r3) := by rw [if_pos rfl] at H; exact H
                              clear H
                              have H := H1
                              clear H1
                              replace H := Option.bind_eq_some_iff.mp H
                              obtain ⟨t186, A200, H⟩ := H
                              replace H : (stackyardref01_Read.j4 k4 a0 x5_3 x6_3 x7_4 x8_4 t186) = some (r1, r2, r3) := H
                              have A20 := Aside0.mk A200
                              clear A200
                              have H' := Aside0.mk H
                              clear H
                              have p16 : 0 ≤ (x7_4 : Int) := of_decide_eq_true (by first | (with_reducible assumption) | assumption)
                              have q16 : x7_4 < (a0.size : Int) := of_decide_eq_true (by first | (with_reducible assumption) | assumption)
                              have hx16 := bt_at a0 x7_4
                              replace p16 := eq_true p16
                              replace q16 := eq_true q16
                              go_wp2_with (first | (go_at_call 37; (with_reducible refine (stackyardref01_digit.calls (bt a0 x7_4) true _ A17.out).mono ?_); rintro e w' ⟨rfl, ⟨nd, rfl⟩⟩; have p19 : 0 ≤ (x7_4 : Int) := of_decide_eq_true (by first | (with_reducible assumption) | assumption); have q19 : x7_4 < (a0.size : Int) := of_decide_eq_true (by first | (with_reducible assumption) | assumption); have hx19 := bt_at a0 x7_4; replace p19 := eq_true p19; replace q19 := eq_true q19) | (go_at_call 38; (with_reducible refine (stackyardref01_may.calls x8_4 (((bt a0 x7_4) - 48) % 256) x5_3 t186 _ A20.out).mono ?_); rintro e w' ⟨rfl, ⟨nd, rfl⟩⟩))
                              go_meet
                              case rel => exact ⟨_, (t186), (by first | rfl | (simp; done) | (simp [*]; done)), H', ⟨by have := HJ1.out; have := HJ6.out; have := HK3.out; have := HK4.out; first | omega | exact Nat.le_refl _⟩, by repeat (first | exact Drawn0.refl _ | apply Drawn0.step)⟩
                            · replace c18 := Bool.eq_false_iff.mpr c18
                              subst c18
                              have H1 : (stackyardref01_Read.j4 k4 a0 x5_3 x6_3 x7_4 x8_4 false) = some (r1, r2, r3) := by rw [if_neg (show ¬ (false = true) by decide)] at H; exact H
                              clear H
                              have H := H1
                              clear H1
                              have H' := Aside0.mk H
                              clear H
                              have p16 : 0 ≤ (x7_4 : Int) := of_decide_eq_true (by first | (with_reducible assumption) | assumption)
                              have q16 : x7_4 < (a0.size : Int) := of_decide_eq_true (by first | (with_reducible assumption) | assumption)
                              have hx16 := bt_at a0 x7_4
                              replace p16 := eq_true p16
                              replace q16 := eq_true q16
                              go_wp2_with (first | (go_at_call 37; (with_reducible refine (stackyardref01_digit.calls (bt a0 x7_4) false _ A17.out).mono ?_); rintro e w' ⟨rfl, ⟨nd, rfl⟩⟩))
                              go_meet
                              case rel => exact ⟨_, (false), (by first | rfl | (simp; done) | (simp [*]; done)), H', ⟨by have := HJ1.out; have := HJ6.out; have := HK3.out; have := HK4.out; first | omega | exact Nat.le_refl _⟩, by repeat (first | exact Drawn0.refl _ | apply Drawn0.step)⟩
                          · rw [if_neg c15] at H
                            exact absurd H (by simp)
                        · rw [if_neg c14] at H
                          have c14b0 : decide (x7_4 < (a0.size : Int)) = false := decide_eq_false c14
                          clear c14
                          (first | rw [c14b0] | (simp only [i64_w, i32_w]; rw [c14b0]) | skip)
                          have H' := Aside0.mk H
                          clear H
                          go_wp2
                          go_meet
                          case rel => exact ⟨_, (false), (by first | rfl | (simp; done) | (simp [*]; done)), H', ⟨by have := HJ1.out; have := HJ6.out; have := HK3.out; have := HK4.out; first | omega | exact Nat.le_refl _⟩, by repeat (first | exact Drawn0.refl _ | apply Drawn0.step)⟩
                      case rest =>
                        clear HC13
                        try clear c1
                        try clear p1
                        try clear q1
                        try clear hx1
                        try clear qi1
                        try clear c2
                        try clear p2
                        try clear c3
                        try clear c3b0
                        try clear c3b1
                        try clear c4
                        try clear c4b0
                        try clear c4b1
                        try clear p5
                        try clear q5
                        try clear hx5
                        try clear qi5
                        try clear c6
                        try clear c8
                        try clear c8b0
                        try clear c8b1
                        try clear c9
                        try clear c9b0
                        try clear c9b1
                        try clear p10
                        try clear q10
                        try clear hx10
                        try clear qi10
                        try clear c11
                        try clear c12
                        try clear c12b0
                        try clear c12b1
                        try clear c14
                        try clear c14b0
                        try clear c15
                        try clear c15b0
                        try clear p16
                        try clear q16
                        try clear hx16
                        try clear c18
                        try clear p19
                        try clear q19
                        try clear hx19
                        try clear p1
                        try clear p10
                        try clear p16
                        try clear p19
                        try clear p2
                        try clear p5
                        try clear q1
                        try clear q10
                        try clear q16
                        try clear q19
                        try clear q5
                        obtain ⟨kq, x46_12, rfl, HA, HJ12, ⟨mc12, rfl⟩⟩ := hcut
                        cases kq with
                        | zero => exact absurd HA.out (by simp [stackyardref01_Read.j4])
                        | succ kj12 =>
                          have H := HA.out
                          clear HA
                          simp only [stackyardref01_Read.j4] at H
                          by_cases c21 : x46_12 = true
                          · subst c21
                            have H1 : (if x8_4 < 0 then (if 0 ≤ x7_4 then (if x7_4 < (a0.size : Int) then (stackyardref01_Read.l1 kj12 a0 x5_3 x6_3 (wrap64 (x7_4 + 1)) ((0 * 10) + (((bt a0 x7_4) - 48) % 256))) else (none)) else (none)) else (if 0 ≤ x7_4 then (if x7_4 < (a0.size : Int) then (stackyardref01_Read.l1 kj12 a0 x5_3 x6_3 (wrap64 (x7_4 + 1)) (wrap64 ((wrap64 (x8_4 * 10)) + (((bt a0 x7_4) - 48) % 256)))) else (none)) else (none))) = some (r1, r2, r3) := by rw [if_pos rfl] at H; exact H
                            clear H
                            have H := H1
                            clear H1
                            by_cases c22 : x8_4 < 0
                            · rw [if_pos c22] at H
                              have c22b0 : decide (x8_4 < 0) = true := decide_eq_true c22
                              clear c22
                              by_cases c23 : 0 ≤ x7_4
                              · rw [if_pos c23] at H
                                have c23b0 : decide (0 ≤ x7_4) = true := decide_eq_true c23
                                clear c23
                                by_cases c24 : x7_4 < (a0.size : Int)
                                · rw [if_pos c24] at H
                                  have c24b0 : decide (x7_4 < (a0.size : Int)) = true := decide_eq_true c24
                                  clear c24
                                  have H' := Aside0.mk H
                                  clear H
                                  have p25 : 0 ≤ (x7_4 : Int) := of_decide_eq_true (by first | (with_reducible assumption) | assumption)
                                  have q25 : x7_4 < (a0.size : Int) := of_decide_eq_true (by first | (with_reducible assumption) | assumption)
                                  have hx25 := bt_at a0 x7_4
                                  replace p25 := eq_true p25
                                  replace q25 := eq_true q25
                                  go_wp2
                                  go_roundg kj12
                                  case measure => have := HJ1.out; have := HJ6.out; have := HK3.out; have := HK4.out; have := HJ12.out; omega
                                  case rel => exact ⟨(wrap64 (x7_4 + 1)), ((0 * 10) + (((bt a0 x7_4) - 48) % 256)), (by first | rfl | (simp; done) | (simp [*]; done)), (by first | rfl | (simp; done) | (simp [*]; done)), H', ⟨by have := HJ1.out; have := HJ6.out; have := HK3.out; have := HK4.out; have := HJ12.out; omega⟩, by repeat (first | exact Drawn0.refl _ | apply Drawn0.step)⟩
                                · rw [if_neg c24] at H
                                  exact absurd H (by simp)
                              · rw [if_neg c23] at H
                                exact absurd H (by simp)
                            · rw [if_neg c22] at H
                              have c22b0 : decide (x8_4 < 0) = false := decide_eq_false c22
                              clear c22
                              by_cases c26 : 0 ≤ x7_4
                              · rw [if_pos c26] at H
                                have c26b0 : decide (0 ≤ x7_4) = true := decide_eq_true c26
                                clear c26
                                by_cases c27 : x7_4 < (a0.size : Int)
                                · rw [if_pos c27] at H
                                  have c27b0 : decide (x7_4 < (a0.size : Int)) = true := decide_eq_true c27
                                  clear c27
                                  have H' := Aside0.mk H
                                  clear H
                                  have p28 : 0 ≤ (x7_4 : Int) := of_decide_eq_true (by first | (with_reducible assumption) | assumption)
                                  have q28 : x7_4 < (a0.size : Int) := of_decide_eq_true (by first | (with_reducible assumption) | assumption)
                                  have hx28 := bt_at a0 x7_4
                                  replace p28 := eq_true p28
                                  replace q28 := eq_true q28
                                  go_wp2
                                  go_roundg kj12
                                  case measure => have := HJ1.out; have := HJ6.out; have := HK3.out; have := HK4.out; have := HJ12.out; omega
                                  case rel => exact ⟨(wrap64 (x7_4 + 1)), (wrap64 ((wrap64 (x8_4 * 10)) + (((bt a0 x7_4) - 48) % 256))), (by first | rfl | (simp; done) | (simp [*]; done)), (by first | rfl | (simp; done) | (simp [*]; done)), H', ⟨by have := HJ1.out; have := HJ6.out; have := HK3.out; have := HK4.out; have := HJ12.out; omega⟩, by repeat (first | exact Drawn0.refl _ | apply Drawn0.step)⟩
                                · rw [if_neg c27] at H
                                  exact absurd H (by simp)
                              · rw [if_neg c26] at H
                                exact absurd H (by simp)
                          · replace c21 := Bool.eq_false_iff.mpr c21
                            subst c21
                            have H1 : (if x8_4 ≤ x5_3 then (stackyardref01_Read.j5 kj12 a0 x6_3 x7_4 x8_4 true) else (if x7_4 ≥ (a0.size : Int) then (stackyardref01_Read.j5 kj12 a0 x6_3 x7_4 x8_4 true) else (if 0 ≤ x7_4 then (if x7_4 < (a0.size : Int) then (if (bt a0 x7_4) = 44 then (stackyardref01_Read.j5 kj12 a0 x6_3 x7_4 x8_4 (x8_4 == 63)) else (if (bt a0 x7_4) = 125 then (stackyardref01_Read.j5 kj12 a0 x6_3 x7_4 x8_4 false) else (stackyardref01_Read.j5 kj12 a0 x6_3 x7_4 x8_4 true))) else (none)) else (none)))) = some (r1, r2, r3) := by rw [if_neg (show ¬ (false = true) by decide)] at H; exact H
                            clear H
                            have H := H1
                            clear H1
                            have HC29 := Aside0.mk H
                            clear H
                            go_upto_region 16 with (fail)
                            go_cut [89] (fun v89 wc => ∃ (kq : Nat) (x89_28 : Bool), v89 = .bool x89_28 ∧ Aside0 (stackyardref01_Read.j5 kq a0 x6_3 x7_4 x8_4 x89_28 = some (r1, r2, r3)) ∧ Aside0 (kq ≤ kj12) ∧ Drawn0 w wc)
                            case first =>
                              have H := HC29.out
                              clear HC29
                              by_cases c30 : x8_4 ≤ x5_3
                              · rw [if_pos c30] at H
                                have c30b0 : decide (x8_4 ≤ x5_3) = true := decide_eq_true c30
                                clear c30
                                (first | rw [c30b0] | (simp only [i64_w, i32_w]; rw [c30b0]) | skip)
                                have H' := Aside0.mk H
                                clear H
                                go_wp2
                                go_meet
                                case rel => exact ⟨_, (true), (by first | rfl | (simp; done) | (simp [*]; done)), H', ⟨by have := HJ1.out; have := HJ6.out; have := HK3.out; have := HK4.out; have := HJ12.out; first | omega | exact Nat.le_refl _⟩, by repeat (first | exact Drawn0.refl _ | apply Drawn0.step)⟩
                              · rw [if_neg c30] at H
                                have c30b0 : decide (x8_4 ≤ x5_3) = false := decide_eq_false c30
                                clear c30
                                (first | rw [c30b0] | (simp only [i64_w, i32_w]; rw [c30b0]) | skip)
                                by_cases c31 : x7_4 ≥ (a0.size : Int)
                                · rw [if_pos c31] at H
                                  have c31b0 : decide ((a0.size : Int) ≤ x7_4) = true := decide_eq_true c31
                                  clear c31
                                  have H' := Aside0.mk H
                                  clear H
                                  go_wp2
                                  go_meet
                                  case rel => exact ⟨_, (true), (by first | rfl | (simp; done) | (simp [*]; done)), H', ⟨by have := HJ1.out; have := HJ6.out; have := HK3.out; have := HK4.out; have := HJ12.out; first | omega | exact Nat.le_refl _⟩, by repeat (first | exact Drawn0.refl _ | apply Drawn0.step)⟩
                                · rw [if_neg c31] at H
                                  have c31b0 : decide ((a0.size : Int) ≤ x7_4) = false := decide_eq_false c31
                                  clear c31
                                  by_cases c32 : 0 ≤ x7_4
                                  · rw [if_pos c32] at H
                                    have c32b0 : decide (0 ≤ x7_4) = true := decide_eq_true c32
                                    clear c32
                                    by_cases c33 : x7_4 < (a0.size : Int)
                                    · rw [if_pos c33] at H
                                      have c33b0 : decide (x7_4 < (a0.size : Int)) = true := decide_eq_true c33
                                      clear c33
                                      by_cases c35 : (bt a0 x7_4) = 44
                                      · rw [if_pos c35] at H
                                        have c35b0 : ((bt a0 x7_4) == 44) = true := beq_iff_eq.mpr c35
                                        have c35b1 : ((bt a0 x7_4) != 44) = false := bne_eq_false_iff_eq.mpr c35
                                        clear c35
                                        have H' := Aside0.mk H
                                        clear H
                                        have p34 : 0 ≤ (x7_4 : Int) := of_decide_eq_true (by first | (with_reducible assumption) | assumption)
                                        have q34 : x7_4 < (a0.size : Int) := of_decide_eq_true (by first | (with_reducible assumption) | assumption)
                                        have hx34 := bt_at a0 x7_4
                                        replace p34 := eq_true p34
                                        replace q34 := eq_true q34
                                        have p36 : 0 ≤ (x7_4 : Int) := of_decide_eq_true (by first | (with_reducible assumption) | assumption)
                                        have q36 : x7_4 < (a0.size : Int) := of_decide_eq_true (by first | (with_reducible assumption) | assumption)
                                        have hx36 := bt_at a0 x7_4
                                        replace p36 := eq_true p36
                                        replace q36 := eq_true q36
                                        go_wp2
                                        go_meet
                                        case rel => exact ⟨_, ((x8_4 == 63)), (by first | rfl | (simp; done) | (simp [*]; done)), H', ⟨by have := HJ1.out; have := HJ6.out; have := HK3.out; have := HK4.out; have := HJ12.out; first | omega | exact Nat.le_refl _⟩, by repeat (first | exact Drawn0.refl _ | apply Drawn0.step)⟩
                                      · rw [if_neg c35] at H
                                        have c35b0 : ((bt a0 x7_4) == 44) = false := beq_eq_false_iff_ne.mpr c35
                                        have c35b1 : ((bt a0 x7_4) != 44) = true := bne_iff_ne.mpr c35
                                        by_cases c38 : (bt a0 x7_4) = 125
                                        · rw [if_pos c38] at H
                                          have c38b0 : ((bt a0 x7_4) == 125) = true := beq_iff_eq.mpr c38
                                          have c38b1 : ((bt a0 x7_4) != 125) = false := bne_eq_false_iff_eq.mpr c38
                                          clear c38
                                          have H' := Aside0.mk H
                                          clear H
                                          have p34 : 0 ≤ (x7_4 : Int) := of_decide_eq_true (by first | (with_reducible assumption) | assumption)
                                          have q34 : x7_4 < (a0.size : Int) := of_decide_eq_true (by first | (with_reducible assumption) | assumption)
                                          have hx34 := bt_at a0 x7_4
                                          replace p34 := eq_true p34
                                          replace q34 := eq_true q34
                                          have p37 : 0 ≤ (x7_4 : Int) := of_decide_eq_true (by first | (with_reducible assumption) | assumption)
                                          have q37 : x7_4 < (a0.size : Int) := of_decide_eq_true (by first | (with_reducible assumption) | assumption)
                                          have hx37 := bt_at a0 x7_4
                                          replace p37 := eq_true p37
                                          replace q37 := eq_true q37
                                          have p39 : 0 ≤ (x7_4 : Int) := of_decide_eq_true (by first | (with_reducible assumption) | assumption)
                                          have q39 : x7_4 < (a0.size : Int) := of_decide_eq_true (by first | (with_reducible assumption) | assumption)
                                          have hx39 := bt_at a0 x7_4
                                          replace p39 := eq_true p39
                                          replace q39 := eq_true q39
                                          go_wp2
                                          go_meet
                                          case rel => exact ⟨_, (false), (by first | rfl | (simp; done) | (simp [*]; done)), H', ⟨by have := HJ1.out; have := HJ6.out; have := HK3.out; have := HK4.out; have := HJ12.out; first | omega | exact Nat.le_refl _⟩, by repeat (first | exact Drawn0.refl _ | apply Drawn0.step)⟩
                                        · rw [if_neg c38] at H
                                          have c38b0 : ((bt a0 x7_4) == 125) = false := beq_eq_false_iff_ne.mpr c38
                                          have c38b1 : ((bt a0 x7_4) != 125) = true := bne_iff_ne.mpr c38
                                          have H' := Aside0.mk H
                                          clear H
                                          have p34 : 0 ≤ (x7_4 : Int) := of_decide_eq_true (by first | (with_reducible assumption) | assumption)
                                          have q34 : x7_4 < (a0.size : Int) := of_decide_eq_true (by first | (with_reducible assumption) | assumption)
                                          have hx34 := bt_at a0 x7_4
                                          replace p34 := eq_true p34
                                          replace q34 := eq_true q34
                                          have p37 : 0 ≤ (x7_4 : Int) := of_decide_eq_true (by first | (with_reducible assumption) | assumption)
                                          have q37 : x7_4 < (a0.size : Int) := of_decide_eq_true (by first | (with_reducible assumption) | assumption)
                                          have hx37 := bt_at a0 x7_4
                                          replace p37 := eq_true p37
                                          replace q37 := eq_true q37
                                          go_wp2
                                          go_meet
                                          case rel => exact ⟨_, (true), (by first | rfl | (simp; done) | (simp [*]; done)), H', ⟨by have := HJ1.out; have := HJ6.out; have := HK3.out; have := HK4.out; have := HJ12.out; first | omega | exact Nat.le_refl _⟩, by repeat (first | exact Drawn0.refl _ | apply Drawn0.step)⟩
                                    · rw [if_neg c33] at H
                                      exact absurd H (by simp)
                                  · rw [if_neg c32] at H
                                    exact absurd H (by simp)
                            case rest =>
                              clear HC29
                              try clear c1
                              try clear p1
                              try clear q1
                              try clear hx1
                              try clear qi1
                              try clear c2
                              try clear p2
                              try clear q2
                              try clear hx2
                              try clear c3
                              try clear c3b0
                              try clear c3b1
                              try clear p3
                              try clear q3
                              try clear hx3
                              try clear c4
                              try clear c4b0
                              try clear c4b1
                              try clear p5
                              try clear q5
                              try clear hx5
                              try clear qi5
                              try clear c6
                              try clear p6
                              try clear c8
                              try clear c8b0
                              try clear c8b1
                              try clear c9
                              try clear c9b0
                              try clear c9b1
                              try clear p10
                              try clear q10
                              try clear hx10
                              try clear qi10
                              try clear c11
                              try clear c12
                              try clear c12b0
                              try clear c12b1
                              try clear c14
                              try clear c14b0
                              try clear c15
                              try clear c15b0
                              try clear p16
                              try clear q16
                              try clear hx16
                              try clear c18
                              try clear p19
                              try clear q19
                              try clear hx19
                              try clear c21
                              try clear c22
                              try clear c22b0
                              try clear c23
                              try clear c23b0
                              try clear c24
                              try clear c24b0
                              try clear p25
                              try clear q25
                              try clear hx25
                              try clear c26
                              try clear c26b0
                              try clear c27
                              try clear c27b0
                              try clear p28
                              try clear q28
                              try clear hx28
                              try clear c30
                              try clear c30b0
                              try clear c31
                              try clear c31b0
                              try clear c32
                              try clear c32b0
                              try clear c33
                              try clear c33b0
                              try clear p34
                              try clear q34
                              try clear hx34
                              try clear c35
                              try clear c35b0
                              try clear c35b1
                              try clear p36
                              try clear q36
                              try clear hx36
                              try clear p37
                              try clear q37
                              try clear hx37
                              try clear c38
                              try clear c38b0
                              try clear c38b1
                              try clear p39
                              try clear q39
                              try clear hx39
                              try clear p1
                              try clear p10
                              try clear p16
                              try clear p19
                              try clear p2
                              try clear p25
                              try clear p28
                              try clear p34
                              try clear p36
                              try clear p37
                              try clear p39
                              try clear p5
                              try clear q1
                              try clear q10
                              try clear q16
                              try clear q19
                              try clear q25
                              try clear q28
                              try clear q34
                              try clear q36
                              try clear q37
                              try clear q39
                              try clear q5
                              obtain ⟨kq, x89_28, rfl, HA, HJ28, ⟨mc28, rfl⟩⟩ := hcut
                              cases kq with
                              | zero => exact absurd HA.out (by simp [stackyardref01_Read.j5])
                              | succ kj28 =>
                                have H := HA.out
                                clear HA
                                simp only [stackyardref01_Read.j5] at H
                                by_cases c40 : x89_28 = true
                                · subst c40
                                  have H1 : (some (0, x7_4, 11)) = some (r1, r2, r3) := by rw [if_pos rfl] at H; exact H
                                  clear H
                                  have H := H1
                                  clear H1
                                  simp only [Option.some.injEq, Prod.mk.injEq] at H
                                  obtain ⟨rfl, rfl, rfl⟩ := H
                                  go_wp2
                                  go_ret3
                                  exact ⟨by first | rfl | (simp; done) | (simp [*]; done), by repeat (first | exact Drawn0.refl _ | apply Drawn0.step)⟩
                                · replace c40 := Bool.eq_false_iff.mpr c40
                                  subst c40
                                  have H1 : ((stackyardref01_Worth.f kj28 x8_4).bind fun t187 => (if 0 ≤ (wrap64 ((wrap64 (x7_4 + 1)) - 1)) then (if (wrap64 ((wrap64 (x7_4 + 1)) - 1)) < (a0.size : Int) then (if (bt a0 (wrap64 ((wrap64 (x7_4 + 1)) - 1))) = 125 then (if (wrap64 (x7_4 + 1)) < (a0.size : Int) then (some (0, wrap64 (x7_4 + 1), 11)) else (some (IntKind.u64.wrap (x6_3 + t187), 0, 0))) else (stackyardref01_Read.l0 kj28 a0 x8_4 (IntKind.u64.wrap (x6_3 + t187)) (wrap64 (x7_4 + 1)))) else (none)) else (none))) = some (r1, r2, r3) := by rw [if_neg (show ¬ (false = true) by decide)] at H; exact H
                                  clear H
                                  have H := H1
                                  clear H1
                                  replace H := Option.bind_eq_some_iff.mp H
                                  obtain ⟨t187, A410, H⟩ := H
                                  replace H : (if 0 ≤ (wrap64 ((wrap64 (x7_4 + 1)) - 1)) then (if (wrap64 ((wrap64 (x7_4 + 1)) - 1)) < (a0.size : Int) then (if (bt a0 (wrap64 ((wrap64 (x7_4 + 1)) - 1))) = 125 then (if (wrap64 (x7_4 + 1)) < (a0.size : Int) then (some (0, wrap64 (x7_4 + 1), 11)) else (some (IntKind.u64.wrap (x6_3 + t187), 0, 0))) else (stackyardref01_Read.l0 kj28 a0 x8_4 (IntKind.u64.wrap (x6_3 + t187)) (wrap64 (x7_4 + 1)))) else (none)) else (none)) = some (r1, r2, r3) := H
                                  have A41 := Aside0.mk A410
                                  clear A410
                                  obtain ⟨ji42, hji42⟩ : ∃ j_ : Int, (wrap64 ((wrap64 (x7_4 + 1)) - 1)) = j_ := ⟨_, rfl⟩
                                  replace H : (if 0 ≤ (ji42) then (if (ji42) < (a0.size : Int) then (if (bt a0 (ji42)) = 125 then (if (wrap64 (x7_4 + 1)) < (a0.size : Int) then (some (0, wrap64 (x7_4 + 1), 11)) else (some (IntKind.u64.wrap (x6_3 + t187), 0, 0))) else (stackyardref01_Read.l0 kj28 a0 x8_4 (IntKind.u64.wrap (x6_3 + t187)) (wrap64 (x7_4 + 1)))) else (none)) else (none)) = some (r1, r2, r3) := by first | (rw [hji42] at H; exact H) | (simp only [hji42] at H ⊢; exact H)
                                  (try rw [hji42] at A41)
                                  have hji42w : (IntKind.i64.wrap ((wrap64 (x7_4 + 1)) - 1)) = ji42 := (i64_w _).trans hji42
                                  by_cases c43 : 0 ≤ (ji42)
                                  · rw [if_pos c43] at H
                                    have c43b0 : decide (0 ≤ (ji42)) = true := decide_eq_true c43
                                    clear c43
                                    by_cases c44 : (ji42) < (a0.size : Int)
                                    · rw [if_pos c44] at H
                                      have c44b0 : decide ((ji42) < (a0.size : Int)) = true := decide_eq_true c44
                                      clear c44
                                      by_cases c46 : (bt a0 (ji42)) = 125
                                      · rw [if_pos c46] at H
                                        have c46b0 : ((bt a0 (ji42)) == 125) = true := beq_iff_eq.mpr c46
                                        have c46b1 : ((bt a0 (ji42)) != 125) = false := bne_eq_false_iff_eq.mpr c46
                                        clear c46
                                        by_cases c47 : (wrap64 (x7_4 + 1)) < (a0.size : Int)
                                        · rw [if_pos c47] at H
                                          have c47b0 : decide ((wrap64 (x7_4 + 1)) < (a0.size : Int)) = true := decide_eq_true c47
                                          clear c47
                                          simp only [Option.some.injEq, Prod.mk.injEq] at H
                                          obtain ⟨rfl, rfl, rfl⟩ := H
                                          go_wp2_with (first | ((with_reducible refine gate_callee (f := 31) rfl ?_); refine goesL_ (some 93) rfl rfl Tryd.func31 (by kernel_rfl) rfl #[.int .i64 x8_4] rfl (by (try simp only [List.map_toArray, List.map_cons, List.map_nil]); first | done | rfl | (simp only [List.length_drop, List.length_take]; rfl)) ?_; (with_reducible refine (stackyardref01_Worth.calls kj28 x8_4 t187 _ A41.out).mono ?_); rintro e w' ⟨rfl, ⟨nd, rfl⟩⟩; refine ⟨_, rfl, ?_⟩; have p45 : 0 ≤ ((ji42) : Int) := of_decide_eq_true (by first | (with_reducible assumption) | assumption); have q45 : (ji42) < (a0.size : Int) := of_decide_eq_true (by first | (with_reducible assumption) | assumption); have hx45 := bt_at a0 (ji42); replace p45 := eq_true p45; replace q45 := eq_true q45))
                                          go_ret3
                                          exact ⟨by first | rfl | (simp; done) | (simp only [← hji42] <;> (first | rfl | simp)) | (simp [*]; done), by repeat (first | exact Drawn0.refl _ | apply Drawn0.step)⟩
                                        · rw [if_neg c47] at H
                                          have c47b0 : decide ((wrap64 (x7_4 + 1)) < (a0.size : Int)) = false := decide_eq_false c47
                                          clear c47
                                          simp only [Option.some.injEq, Prod.mk.injEq] at H
                                          obtain ⟨rfl, rfl, rfl⟩ := H
                                          go_wp2_with (first | ((with_reducible refine gate_callee (f := 31) rfl ?_); refine goesL_ (some 93) rfl rfl Tryd.func31 (by kernel_rfl) rfl #[.int .i64 x8_4] rfl (by (try simp only [List.map_toArray, List.map_cons, List.map_nil]); first | done | rfl | (simp only [List.length_drop, List.length_take]; rfl)) ?_; (with_reducible refine (stackyardref01_Worth.calls kj28 x8_4 t187 _ A41.out).mono ?_); rintro e w' ⟨rfl, ⟨nd, rfl⟩⟩; refine ⟨_, rfl, ?_⟩; have p45 : 0 ≤ ((ji42) : Int) := of_decide_eq_true (by first | (with_reducible assumption) | assumption); have q45 : (ji42) < (a0.size : Int) := of_decide_eq_true (by first | (with_reducible assumption) | assumption); have hx45 := bt_at a0 (ji42); replace p45 := eq_true p45; replace q45 := eq_true q45))
                                          go_ret3
                                          exact ⟨by first | rfl | (simp; done) | (simp only [← hji42] <;> (first | rfl | simp)) | (simp [*]; done), by repeat (first | exact Drawn0.refl _ | apply Drawn0.step)⟩
                                      · rw [if_neg c46] at H
                                        have c46b0 : ((bt a0 (ji42)) == 125) = false := beq_eq_false_iff_ne.mpr c46
                                        have c46b1 : ((bt a0 (ji42)) != 125) = true := bne_iff_ne.mpr c46
                                        have H' := Aside0.mk H
                                        clear H
                                        go_wp2_with (first | ((with_reducible refine gate_callee (f := 31) rfl ?_); refine goesL_ (some 93) rfl rfl Tryd.func31 (by kernel_rfl) rfl #[.int .i64 x8_4] rfl (by (try simp only [List.map_toArray, List.map_cons, List.map_nil]); first | done | rfl | (simp only [List.length_drop, List.length_take]; rfl)) ?_; (with_reducible refine (stackyardref01_Worth.calls kj28 x8_4 t187 _ A41.out).mono ?_); rintro e w' ⟨rfl, ⟨nd, rfl⟩⟩; refine ⟨_, rfl, ?_⟩; have p45 : 0 ≤ ((ji42) : Int) := of_decide_eq_true (by first | (with_reducible assumption) | assumption); have q45 : (ji42) < (a0.size : Int) := of_decide_eq_true (by first | (with_reducible assumption) | assumption); have hx45 := bt_at a0 (ji42); replace p45 := eq_true p45; replace q45 := eq_true q45))
                                        go_roundg kj28
                                        case measure => have := HJ1.out; have := HJ6.out; have := HK3.out; have := HK4.out; have := HJ12.out; have := HJ28.out; omega
                                        case rel => exact ⟨(x8_4), (IntKind.u64.wrap (x6_3 + t187)), (wrap64 (x7_4 + 1)), (by first | rfl | (simp; done) | (simp [*]; done)), (by first | rfl | (simp; done) | (simp [*]; done)), (by first | rfl | (simp; done) | (simp [*]; done)), H', ⟨by have := HJ1.out; have := HJ6.out; have := HK3.out; have := HK4.out; have := HJ12.out; have := HJ28.out; omega⟩, by repeat (first | exact Drawn0.refl _ | apply Drawn0.step)⟩
                                    · rw [if_neg c44] at H
                                      exact absurd H (by simp)
                                  · rw [if_neg c43] at H
                                    exact absurd H (by simp)

end Go.Proofs.YtpaikjnmopkekaaDoor.P
