/- BitC, for the statement BitsBack: what it needs, no more. -/
import Derived.Test.YtpaikjnmopkekaaDoorZBitsBackBitB
namespace Go.Proofs.YtpaikjnmopkekaaDoor.Iter
end Go.Proofs.YtpaikjnmopkekaaDoor.Iter
namespace Go.Proofs.YtpaikjnmopkekaaDoor.P
end Go.Proofs.YtpaikjnmopkekaaDoor.P
namespace Go.Proofs.YtpaikjnmopkekaaDoor.Plain
end Go.Proofs.YtpaikjnmopkekaaDoor.Plain
namespace Go.Proofs.YtpaikjnmopkekaaDoor.BitA
open Go.RowKit Go.Proofs.YtpaikjnmopkekaaDoor.P Go.Proofs.YtpaikjnmopkekaaDoor.Plain Go.Proofs.YtpaikjnmopkekaaDoor.Iter Go.Proofs.YtpaikjnmopkekaaDoorW.PrintWords Go.Proofs.YtpaikjnmopkekaaDoorW.PrintLast Go.Proofs.YtpaikjnmopkekaaDoorW.PrintMore
set_option linter.unusedVariables false
set_option linter.unusedSimpArgs false
def rep (m : Nat) : Nat → Nat
  | 0 => 0
  | n + 1 => rep m n * 256 + m
def s1 (n x : Nat) : Nat := (x / 2 &&& rep 0x55 n) + (x &&& rep 0x55 n)
def s2 (n x : Nat) : Nat := (x / 4 &&& rep 0x33 n) + (x &&& rep 0x33 n)
def s3 (n x : Nat) : Nat := (x / 16 + x) &&& rep 0x0f n
def s1b (a : Nat) : Nat := (a / 2 &&& 0x55) + (a &&& 0x55)
def s2b (a : Nat) : Nat := (a / 4 &&& 0x33) + (a &&& 0x33)
def pop8 (b : Nat) : Nat := ((List.range 8).filter fun j => b.testBit j).length
def pops : Nat → Nat → Nat
  | 0, _ => 0
  | n + 1, x => pops n (x / 256) * 256 + pop8 (x % 256)
theorem and_split (A a M m : Nat) (ha : a < 256) (hm : m < 256) : (A * 256 + a) &&& (M * 256 + m) = (A &&& M) * 256 + (a &&& m) := by
  have h1 := Nat.two_pow_add_eq_or_of_lt (i := 8) (b := a) ha A
  refine Nat.eq_of_testBit_eq fun j => ?_
  rw [Nat.testBit_and, Nat.mul_comm A, Nat.mul_comm M, Nat.mul_comm (A &&& M), show (256 : Nat) = 2 ^ 8 from rfl, Nat.testBit_two_pow_mul_add A ha, Nat.testBit_two_pow_mul_add M hm, Nat.testBit_two_pow_mul_add (A &&& M) (show a &&& m < 2 ^ 8 from Nat.lt_of_le_of_lt Nat.and_le_left ha)]
  by_cases h : j < 8
  · rw [if_pos h, if_pos h, if_pos h, Nat.testBit_and]
  · rw [if_neg h, if_neg h, if_neg h, Nat.testBit_and]
theorem tab1 : ∀ h, h < 2 → ∀ a, a < 256 → (h * 128 + a / 2) &&& 0x55 = a / 2 &&& 0x55 := by decide +kernel
theorem tab2 : ∀ h, h < 4 → ∀ a, a < 256 → (h * 64 + a / 4) &&& 0x33 = a / 4 &&& 0x33 := by decide +kernel
theorem tab3 : ∀ a, a < 256 → s1b a < 256 ∧ s2b (s1b a) ≤ 0x66 ∧ (s2b (s1b a) / 16 + s2b (s1b a)) % 16 = pop8 a ∧ pop8 a ≤ 8 := by decide +kernel
theorem s1_step (n hi lo : Nat) (hlo : lo < 256) : s1 (n + 1) (hi * 256 + lo) = s1 n hi * 256 + s1b lo := by
  unfold s1 s1b
  have e : (hi * 256 + lo) / 2 = hi / 2 * 256 + (hi % 2 * 128 + lo / 2) := by omega
  rw [e, rep, and_split _ _ _ _ (by omega) (by decide), and_split _ _ _ _ hlo (by decide), tab1 _ (by omega) lo hlo]
  omega
theorem s2_step (n hi lo : Nat) (hlo : lo < 256) : s2 (n + 1) (hi * 256 + lo) = s2 n hi * 256 + s2b lo := by
  unfold s2 s2b
  have e : (hi * 256 + lo) / 4 = hi / 4 * 256 + (hi % 4 * 64 + lo / 4) := by omega
  rw [e, rep, and_split _ _ _ _ (by omega) (by decide), and_split _ _ _ _ hlo (by decide), tab2 _ (by omega) lo hlo]
  omega
theorem and3 (x : Nat) : ∀ n, (x &&& rep 0x33 n) % 16 ≤ 3
  | 0 => by simp [rep]
  | n + 1 => by
    have h : x = x / 256 * 256 + x % 256 := by omega
    have hl : x % 256 < 256 := by omega
    rw [rep, h, and_split _ _ _ _ hl (by decide)]
    generalize x / 256 &&& rep 0x33 n = A
    generalize x % 256 = b at hl
    have : ∀ b, b < 256 → (b &&& 0x33) % 16 ≤ 3 := by decide +kernel
    have := this b hl
    omega
theorem s2_low (n x : Nat) : s2 n x % 16 ≤ 6 := by
  have h1 := and3 (x / 4) n
  have h2 := and3 x n
  unfold s2
  omega
theorem s3_step (n A a : Nat) (hA : A % 16 ≤ 6) (ha : a ≤ 0x66) : s3 (n + 1) (A * 256 + a) = s3 n A * 256 + (a / 16 + a) % 16 := by
  unfold s3
  have e : (A * 256 + a) / 16 + (A * 256 + a) = (A / 16 + A) * 256 + (A % 16 * 16 + a / 16 + a) := by omega
  rw [e, rep, and_split _ _ _ _ (by omega) (by decide)]
  have h15 : ∀ y, y &&& 0x0f = y % 16 := fun y => Nat.and_two_pow_sub_one_eq_mod y 4
  rw [h15]
  omega
theorem stages : ∀ (n x : Nat), x < 256 ^ n → s3 n (s2 n (s1 n x)) = pops n x
  | 0, x, h => by simp [s3, rep, pops]
  | n + 1, x, h => by
    have hx : x = x / 256 * 256 + x % 256 := by omega
    have hl : x % 256 < 256 := by omega
    obtain ⟨t1, t2, t3, _⟩ := tab3 _ hl
    have hq : x / 256 < 256 ^ n := by rw [Nat.pow_succ] at h; omega
    have ih := stages n (x / 256) hq
    rw [pops]
    conv => lhs; rw [hx]
    rw [s1_step _ _ _ hl, s2_step _ _ _ t1, s3_step _ _ _ (s2_low _ _) t2, ih, t3]
def cnt (n x : Nat) : Nat := ((List.range n).filter fun j => x.testBit j).length
theorem cnt_step (n x : Nat) : cnt (8 + n) x = pop8 (x % 256) + cnt n (x / 256) := by
  unfold cnt pop8
  rw [List.range_add, List.filter_append, List.length_append, List.filter_map, List.length_map]
  congr 1
  · congr 1
    refine List.filter_congr fun j hj => ?_
    have := List.mem_range.1 hj
    rw [show (256 : Nat) = 2 ^ 8 from rfl, Nat.testBit_mod_two_pow, decide_eq_true this, Bool.true_and]
  · congr 1
    refine List.filter_congr fun j _ => ?_
    show x.testBit (8 + j) = _
    rw [show (256 : Nat) = 2 ^ 8 from rfl, Nat.testBit_div_two_pow, Nat.add_comm]
theorem cnt_zero (x : Nat) : cnt 0 x = 0 := rfl
theorem bl_cnt (s : Nat) : (bl s).length = cnt 64 s := by unfold bl cnt; rw [List.length_map]
def fold64 (y : Nat) : Nat :=
  let z1 := (y + y / 256) % 18446744073709551616
  let z2 := (z1 + z1 / 65536) % 18446744073709551616
  let z3 := (z2 + z2 / 4294967296) % 18446744073709551616
  z3 % 128
theorem div1 (p q : Nat) (h : p ≤ 8) : (p + 256 * q) / 256 = q := by omega
theorem div2 (a b K : Nat) (h : a ≤ 16) (h' : b ≤ 16) : (a + 256 * (b + 256 * K)) / 65536 = K := by omega
theorem div4 (a b c d K : Nat) (h1 : a ≤ 32) (h2 : b ≤ 32) (h3 : c ≤ 32) (h4 : d ≤ 32) : (a + 256 * (b + 256 * (c + 256 * (d + 256 * K)))) / 4294967296 = K := by omega
theorem mod8 (a K : Nat) (h : a ≤ 64) : (a + 256 * K) % 128 = a := by omega
theorem fold_sum (p0 p1 p2 p3 p4 p5 p6 p7 : Nat) (h0 : p0 ≤ 8) (h1 : p1 ≤ 8) (h2 : p2 ≤ 8) (h3 : p3 ≤ 8) (h4 : p4 ≤ 8) (h5 : p5 ≤ 8) (h6 : p6 ≤ 8) (h7 : p7 ≤ 8) :
    fold64 ((((((((0 * 256 + p7) * 256 + p6) * 256 + p5) * 256 + p4) * 256 + p3) * 256 + p2) * 256 + p1) * 256 + p0) = p0 + (p1 + (p2 + (p3 + (p4 + (p5 + (p6 + (p7 + 0))))))) := by
  obtain ⟨q6, e6⟩ : ∃ q, q = p6 + 256 * p7 := ⟨_, rfl⟩
  obtain ⟨q5, e5⟩ : ∃ q, q = p5 + 256 * q6 := ⟨_, rfl⟩
  obtain ⟨q4, e4⟩ : ∃ q, q = p4 + 256 * q5 := ⟨_, rfl⟩
  obtain ⟨q3, e3⟩ : ∃ q, q = p3 + 256 * q4 := ⟨_, rfl⟩
  obtain ⟨q2, e2⟩ : ∃ q, q = p2 + 256 * q3 := ⟨_, rfl⟩
  obtain ⟨q1, e1⟩ : ∃ q, q = p1 + 256 * q2 := ⟨_, rfl⟩
  obtain ⟨q0, e0⟩ : ∃ q, q = p0 + 256 * q1 := ⟨_, rfl⟩
  have ey : (((((((0 * 256 + p7) * 256 + p6) * 256 + p5) * 256 + p4) * 256 + p3) * 256 + p2) * 256 + p1) * 256 + p0 = q0 := by omega
  rw [ey]
  have b6 : q6 ≤ 2056 := by omega
  have b5 : q5 ≤ 526344 := by clear e4 e3 e2 e1 e0 ey; omega
  have b4 : q4 ≤ 134744072 := by clear e3 e2 e1 e0 ey e6; omega
  have b3 : q3 ≤ 34494482440 := by clear e2 e1 e0 ey e6 e5; omega
  have b2 : q2 ≤ 8830587504648 := by clear e1 e0 ey e6 e5 e4; omega
  have b1 : q1 ≤ 2260630401189896 := by clear e0 ey e6 e5 e4 e3; omega
  have b0 : q0 ≤ 578721382704613384 := by clear ey e6 e5 e4 e3 e2; omega
  have d1 : q0 / 256 = q1 := by rw [e0]; exact div1 _ _ h0
  have d2 : (q0 + q1) / 65536 = q2 + q3 := by
    have : q0 + q1 = (p0 + p1) + 256 * ((p1 + p2) + 256 * (q2 + q3)) := by clear d1 ey e6 e5 e4 e3 b0 b1 b2 b3 b4 b5 b6; omega
    rw [this]; exact div2 _ _ _ (by omega) (by omega)
  have d4 : (q0 + q1 + (q2 + q3)) / 4294967296 = q4 + q5 + q6 + p7 := by
    have x0 : q0 = p0 + 256 * (p1 + 256 * (p2 + 256 * (p3 + 256 * q4))) := by rw [e0, e1, e2, e3]
    have x1 : q1 = p1 + 256 * (p2 + 256 * (p3 + 256 * (p4 + 256 * q5))) := by rw [e1, e2, e3, e4]
    have x2 : q2 = p2 + 256 * (p3 + 256 * (p4 + 256 * (p5 + 256 * q6))) := by rw [e2, e3, e4, e5]
    have x3 : q3 = p3 + 256 * (p4 + 256 * (p5 + 256 * (p6 + 256 * p7))) := by rw [e3, e4, e5, e6]
    have : q0 + q1 + (q2 + q3) = (p0 + p1 + p2 + p3) + 256 * ((p1 + p2 + p3 + p4) + 256 * ((p2 + p3 + p4 + p5) + 256 * ((p3 + p4 + p5 + p6) + 256 * (q4 + q5 + q6 + p7)))) := by
      rw [x0, x1, x2, x3]
      simp only [Nat.mul_add, ← Nat.mul_assoc]
      omega
    rw [this]; exact div4 _ _ _ _ _ (by omega) (by omega) (by omega) (by omega)
  have m1 : (q0 + q0 / 256) % 18446744073709551616 = q0 + q1 := by rw [d1]; exact Nat.mod_eq_of_lt (by omega)
  have m2 : (q0 + q1 + (q2 + q3)) % 18446744073709551616 = q0 + q1 + (q2 + q3) := Nat.mod_eq_of_lt (by omega)
  have m3 : (q0 + q1 + (q2 + q3) + (q4 + q5 + q6 + p7)) % 18446744073709551616 = q0 + q1 + (q2 + q3) + (q4 + q5 + q6 + p7) := Nat.mod_eq_of_lt (by omega)
  unfold fold64
  dsimp only
  rw [m1, d2, m2, d4, m3]
  have : q0 + q1 + (q2 + q3) + (q4 + q5 + q6 + p7) = (p0 + (p1 + (p2 + (p3 + (p4 + (p5 + (p6 + (p7 + 0)))))))) + 256 * (q1 + q2 + q3 + q4 + q5 + q6 + p7) := by
    clear m1 m2 m3 d1 d2 d4 ey b0 b1 b2 b3 b4 b5 b6
    omega
  rw [this]
  exact mod8 _ _ (by omega)
theorem fold_eq (s : Nat) : fold64 (pops 8 s) = cnt 64 s := by
  have c : ∀ x, pop8 (x % 256) ≤ 8 := fun x => (tab3 _ (Nat.mod_lt x (by decide))).2.2.2
  have e : cnt 64 s = cnt (8 + (8 + (8 + (8 + (8 + (8 + (8 + (8 + 0)))))))) s := rfl
  rw [e]
  simp only [cnt_step, cnt_zero, pops]
  have h0 := c s
  have h1 := c (s / 256)
  have h2 := c (s / 256 / 256)
  have h3 := c (s / 256 / 256 / 256)
  have h4 := c (s / 256 / 256 / 256 / 256)
  have h5 := c (s / 256 / 256 / 256 / 256 / 256)
  have h6 := c (s / 256 / 256 / 256 / 256 / 256 / 256)
  have h7 := c (s / 256 / 256 / 256 / 256 / 256 / 256 / 256)
  generalize pop8 (s % 256) = p0 at *
  generalize pop8 (s / 256 % 256) = p1 at *
  generalize pop8 (s / 256 / 256 % 256) = p2 at *
  generalize pop8 (s / 256 / 256 / 256 % 256) = p3 at *
  generalize pop8 (s / 256 / 256 / 256 / 256 % 256) = p4 at *
  generalize pop8 (s / 256 / 256 / 256 / 256 / 256 % 256) = p5 at *
  generalize pop8 (s / 256 / 256 / 256 / 256 / 256 / 256 % 256) = p6 at *
  generalize pop8 (s / 256 / 256 / 256 / 256 / 256 / 256 / 256 % 256) = p7 at *
  clear e c
  exact fold_sum p0 p1 p2 p3 p4 p5 p6 p7 h0 h1 h2 h3 h4 h5 h6 h7
end Go.Proofs.YtpaikjnmopkekaaDoor.BitA
