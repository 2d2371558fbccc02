/- PureF, for the statement CostBack: what it needs, no more. -/
import Derived.Test.YtgjeoioneoncnaaDoorZCostBackPureE
namespace Go.Proofs.YtgjeoioneoncnaaDoor.P
end Go.Proofs.YtgjeoioneoncnaaDoor.P
namespace Go.Proofs.YtgjeoioneoncnaaDoor.Plain
end Go.Proofs.YtgjeoioneoncnaaDoor.Plain
namespace Go.Proofs.YtgjeoioneoncnaaDoor.Pure
open Go.RowKit Go.Proofs.YtgjeoioneoncnaaDoor.P Go.Proofs.YtgjeoioneoncnaaDoor.Plain Go.Proofs.YtgjeoioneoncnaaDoorW.PrintWords Go.Proofs.YtgjeoioneoncnaaDoorW.PrintLast Go.Proofs.YtgjeoioneoncnaaDoorW.PrintMore
set_option linter.unusedVariables false
set_option linter.unusedSimpArgs false
def readV (a : Int) (s : ByteArray) : Int × Int × Int := if chk a [] = 0 then cost_Read.go a s s.size 0 0 0 else (0, 0, chk a [])
theorem read_ev (a : Int) (s : ByteArray) : Ev (fun k => cost_Read.f k a s) (readV a s) := by
  refine Ev.bind (checks_ev a [] (by simp)) ?_
  unfold readV
  by_cases h : chk a [] = 0
  · simp only [if_pos h]; exact Ev.now _
  · simp only [if_neg h]; exact Ev.now _
def textV (a c : Int) : ByteArray × Int := if chk a [c] = 0 then (if c = -1 then ((⟨#[110, 111, 110, 101]⟩ : ByteArray), 0) else (⟨(Go.Lib.itoa c).toArray⟩, 0)) else ((⟨#[]⟩ : ByteArray), chk a [c])
theorem itoa_eq (a c : Int) (h : chk a [c] = 0) : strconv_Itoa.f c = some ⟨(Go.Lib.itoa c).toArray⟩ := by
  have := chk_zero.1 h
  have h2 := this.2 c (by simp)
  unfold strconv_Itoa.f
  rw [if_pos (by omega)]
theorem textV_ev (a c : Int) : Ev (fun k => cost_Text.f k a c) (textV a c) := by
  refine Ev.bind (checks_ev a [c] (by simp)) ?_
  unfold textV
  by_cases h : chk a [c] = 0
  · simp only [if_pos h]
    by_cases h1 : c = -1
    · simp only [if_pos h1]; exact Ev.now _
    · simp only [if_neg h1, itoa_eq a c h, Option.bind_some]; exact Ev.now _
  · simp only [if_neg h]; exact Ev.now _
theorem dig_app : ∀ (T R : Ls) (n : Int), dig (T ++ R) n = (dig T n).bind (dig R)
  | [], _, _ => rfl
  | x :: T, R, n => by
    simp only [List.cons_append, dig]
    by_cases h1 : (x.toNat : Int) < 48
    · rw [if_pos h1, if_pos h1]; rfl
    · by_cases h2 : (x.toNat : Int) > 57
      · rw [if_neg h1, if_pos h2, if_neg h1, if_pos h2]; rfl
      · rw [if_neg h1, if_neg h2, if_neg h1, if_neg h2]; exact dig_app T R _
theorem dig_le : ∀ (R : Ls) (m n : Int), 0 ≤ m → dig R m = some n → m ≤ n
  | [], m, n, _, h => by simp only [dig, Option.some.injEq] at h; omega
  | x :: R, m, n, h0, h => by
    simp only [dig] at h
    by_cases h1 : (x.toNat : Int) < 48
    · rw [if_pos h1] at h; cases h
    · by_cases h2 : (x.toNat : Int) > 57
      · rw [if_neg h1, if_pos h2] at h; cases h
      · rw [if_neg h1, if_neg h2] at h
        have := dig_le R _ n (by omega) h
        omega
theorem go_num (a : Int) (ha : 0 ≤ a ∧ a ≤ 1048576) (s : ByteArray) (n : Int) (hna : n ≤ a) (hd : dig s.data.toList 0 = some n) (hz : s.data.toList.head? = some 48 → s.size = 1) : ∀ (r pos : Nat) (st m : Int), pos + r = s.size → (1 ≤ pos ∧ st = 2 ∨ 1 ≤ r ∧ pos = 0 ∧ st = 0) → Rel a s.data.toList pos st m → cost_Read.go a s r pos st m = (n, 0, 0)
  | 0, pos, st, m, h, hst, hR => by
    obtain ⟨h1, rfl⟩ : 1 ≤ pos ∧ st = 2 := by rcases hst with h | h; exact h; omega
    have hs : s.data.toList.length = s.size := Array.length_toList
    rcases hR with ⟨h2, _⟩ | ⟨h2, _⟩ | ⟨_, _, hd2, _⟩
    · omega
    · cases h2
    · rw [List.take_of_length_le (by omega), hd] at hd2
      obtain rfl := Option.some.inj hd2
      simp [cost_Read.go, cost_Read.fin]
  | r + 1, pos, st, m, h, hst, hR => by
    have hs : s.data.toList.length = s.size := Array.length_toList
    have hp : pos < s.size := by omega
    obtain ⟨c, hc, _, hg⟩ := bt_cons s pos hp
    rw [go_step a s r pos st m hp c hg]
    have hrel := step_rel a ha s.data.toList pos st m c hR hc
    -- the letter is a digit, and what it makes is not above
    have hsplit : s.data.toList = s.data.toList.take pos ++ (c :: s.data.toList.drop (pos + 1)) := by rw [← hc, List.take_append_drop]
    have key : 48 ≤ (c.toNat : Int) ∧ (c.toNat : Int) ≤ 57 ∧ 10 * m + ((c.toNat : Int) - 48) ≤ a ∧ (st = 0 ∨ st = 2 ∧ 0 < m) := by
      rw [hsplit, dig_app] at hd
      have fin : ∀ q : Int, 0 ≤ q → q = m → dig (s.data.toList.take pos) 0 = some q → 48 ≤ (c.toNat : Int) ∧ (c.toNat : Int) ≤ 57 ∧ 10 * m + ((c.toNat : Int) - 48) ≤ a := by
        intro q hq0 hqm hq
        rw [hq] at hd
        simp only [Option.bind_some, dig] at hd
        by_cases h1 : (c.toNat : Int) < 48
        · rw [if_pos h1] at hd; cases hd
        · by_cases h2 : (c.toNat : Int) > 57
          · rw [if_neg h1, if_pos h2] at hd; cases hd
          · rw [if_neg h1, if_neg h2] at hd
            have := dig_le _ _ n (by omega) hd
            omega
      rcases hR with ⟨rfl, rfl, rfl⟩ | ⟨rfl, h1, _⟩ | ⟨rfl, h1, hd2, h0, _, hz2, hnz, _⟩
      · obtain ⟨f1, f2, f3⟩ := fin 0 (by omega) rfl rfl
        exact ⟨f1, f2, f3, .inl rfl⟩
      · rcases hst with ⟨_, e⟩ | ⟨_, e, _⟩
        · cases e
        · omega
      · obtain ⟨f1, f2, f3⟩ := fin m h0 rfl hd2
        refine ⟨f1, f2, f3, .inr ⟨rfl, ?_⟩⟩
        have nz : ¬ s.data.toList.head? = some 48 := fun e => by have := hz e; omega
        have := hnz nz
        have := W_pos (pos - 1)
        omega
    have hgo : go1 a pos st m c = some (2, 10 * m + ((c.toNat : Int) - 48)) := by
      unfold go1
      rw [if_neg (by omega), if_neg (by rintro ⟨e, _⟩; rcases key.2.2.2 with h5 | ⟨h5, _⟩ <;> omega), if_pos ⟨key.1, key.2.1, key.2.2.2, key.2.2.1⟩]
    rw [hgo] at hrel ⊢
    exact go_num a ha s n hna hd hz r (pos + 1) 2 _ (by omega) (.inl ⟨by omega, rfl⟩) hrel.1
theorem dec_facts : ∀ (u : Nat), dig (Go.Lib.decDigits u) 0 = some (u : Int) ∧ Go.Lib.decDigits u ≠ [] ∧ (Go.Lib.decDigits u).head? ≠ some 48 ∨ u = 0
  | u => by
    by_cases h : u < 10
    · by_cases h0 : u = 0
      · exact .inr h0
      · refine .inl ?_
        have e : Go.Lib.decDigits u = [UInt8.ofNat (48 + u)] := by rw [Go.Lib.decDigits, dif_pos h]
        have e2 : (UInt8.ofNat (48 + u)).toNat = 48 + u := by rw [UInt8.toNat_ofNat']; omega
        rw [e]
        refine ⟨?_, by simp, ?_⟩
        · simp only [dig, e2]
          rw [if_neg (by omega), if_neg (by omega)]
          congr 1; omega
        · intro e3
          have := congrArg UInt8.toNat (Option.some.inj e3)
          rw [e2] at this
          exact h0 (by have h48 : (48 : UInt8).toNat = 48 := rfl; omega)
    · refine .inl ?_
      have e : Go.Lib.decDigits u = Go.Lib.decDigits (u / 10) ++ [UInt8.ofNat (48 + u % 10)] := by rw [Go.Lib.decDigits, dif_neg h]
      have e2 : (UInt8.ofNat (48 + u % 10)).toNat = 48 + u % 10 := by rw [UInt8.toNat_ofNat']; omega
      rcases dec_facts (u / 10) with ⟨i1, i2, i3⟩ | i
      · rw [e]
        refine ⟨?_, by simp, ?_⟩
        · rw [dig_snoc, i1]
          simp only [Option.bind_some, e2]
          rw [if_neg (by omega), if_neg (by omega)]
          congr 1; omega
        · have : (Go.Lib.decDigits (u / 10) ++ [UInt8.ofNat (48 + u % 10)]).head? = (Go.Lib.decDigits (u / 10)).head? := by
            match hq : Go.Lib.decDigits (u / 10), i2 with
            | x :: r, _ => rfl
          rw [this]; exact i3
      · omega
theorem dec_uniq : ∀ (k : Nat) (L : Ls) (n : Int), L.length = k → L ≠ [] → dig L 0 = some n → (L.head? = some 48 → L.length = 1) → 0 ≤ n ∧ Go.Lib.decDigits n.toNat = L
  | 0, L, n, h, hL, _, _ => absurd (List.length_eq_zero_iff.1 h) hL
  | k + 1, L, n, h, hL, hd, hz => by
    obtain ⟨T, c, rfl⟩ : ∃ T c, L = T ++ [c] := ⟨L.dropLast, L.getLast hL, (List.dropLast_concat_getLast hL).symm⟩
    rw [dig_snoc] at hd
    by_cases hT : T = []
    · subst hT
      simp only [dig, Option.bind_some] at hd
      by_cases h1 : (c.toNat : Int) < 48
      · rw [if_pos h1] at hd; cases hd
      by_cases h2 : (c.toNat : Int) > 57
      · rw [if_neg h1, if_pos h2] at hd; cases hd
      rw [if_neg h1, if_neg h2] at hd
      obtain rfl := Option.some.inj hd
      refine ⟨by omega, ?_⟩
      have e : ((0 * 10 + ((c.toNat : Int) - 48)) : Int).toNat = c.toNat - 48 := by omega
      rw [e, Go.Lib.decDigits, dif_pos (by omega), List.nil_append]
      congr 1
      exact UInt8.toNat_inj.1 (by rw [UInt8.toNat_ofNat']; omega)
    · have hh : (T ++ [c]).head? = T.head? := by
        match T, hT with
        | x :: r, _ => rfl
      have hp := List.length_pos_iff.mpr hT
      have nz : ¬ T.head? = some 48 := fun e => by have := hz (by rw [hh]; exact e); rw [List.length_append, List.length_singleton] at this; omega
      cases hm : dig T 0 with
      | none => rw [hm] at hd; cases hd
      | some m =>
        rw [hm] at hd
        simp only [Option.bind_some] at hd
        obtain ⟨i0, i1⟩ := dec_uniq k T m (by simp at h; exact h) hT hm (fun e => absurd e nz)
        by_cases h1 : (c.toNat : Int) < 48
        · rw [if_pos h1] at hd; cases hd
        by_cases h2 : (c.toNat : Int) > 57
        · rw [if_neg h1, if_pos h2] at hd; cases hd
        rw [if_neg h1, if_neg h2] at hd
        obtain rfl := Option.some.inj hd
        have hm1 : m.toNat ≠ 0 := by
          intro e
          rw [e] at i1
          have : T = [48] := by rw [← i1, Go.Lib.decDigits, dif_pos (by decide)]; rfl
          rw [this] at nz
          exact nz rfl
        refine ⟨by omega, ?_⟩
        have e1 : ((m * 10 + ((c.toNat : Int) - 48)) : Int).toNat / 10 = m.toNat := by omega
        have e2 : ((m * 10 + ((c.toNat : Int) - 48)) : Int).toNat % 10 = c.toNat - 48 := by omega
        rw [Go.Lib.decDigits, dif_neg (by omega), e1, e2, i1]
        congr 2
        exact UInt8.toNat_inj.1 (by rw [UInt8.toNat_ofNat']; omega)
theorem go_none (a : Int) (ha : 0 ≤ a ∧ a ≤ 1048576) : cost_Read.go a (⟨#[110, 111, 110, 101]⟩ : ByteArray) 4 0 0 0 = (-1, 0, 0) := by
  have h4 : (⟨#[110, 111, 110, 101]⟩ : ByteArray).size = 4 := rfl
  rw [go_step a _ 3 0 0 0 (by decide) 110 rfl]
  have g0 : go1 a 0 0 0 110 = some (1, 0) := by unfold go1; rw [if_pos (by decide)]
  rw [g0]; simp only
  rw [go_step a _ 2 1 1 0 (by decide) 111 rfl]
  have g1 : go1 a 1 1 0 111 = some (1, 0) := by unfold go1; rw [if_neg (by decide), if_pos (by decide)]
  rw [g1]; simp only
  rw [go_step a _ 1 2 1 0 (by decide) 110 rfl]
  have g2 : go1 a 2 1 0 110 = some (1, 0) := by unfold go1; rw [if_neg (by decide), if_pos (by decide)]
  rw [g2]; simp only
  rw [go_step a _ 0 3 1 0 (by decide) 101 rfl]
  have g3 : go1 a 3 1 0 101 = some (1, 0) := by unfold go1; rw [if_neg (by decide), if_pos (by decide)]
  rw [g3]
  show cost_Read.fin _ 1 0 = _
  unfold cost_Read.fin
  rw [if_neg (by decide), if_pos rfl, if_pos (by rw [toList_eq])]
theorem chk_sub {a c : Int} (h : chk a [c] = 0) : chk a [] = 0 := chk_zero.2 ⟨(chk_zero.1 h).1, by simp⟩
/-- What is written is read again. -/
theorem read_text (a c : Int) (h : chk a [c] = 0) : readV a (textV a c).1 = (c, 0, 0) := by
  have hc := chk_zero.1 h
  have h2 := hc.2 c (by simp)
  unfold readV textV
  rw [if_pos h, if_pos (chk_sub h)]
  by_cases h1 : c = -1
  · rw [if_pos h1, h1]
    exact go_none a hc.1
  · rw [if_neg h1]
    simp only
    have hit : Go.Lib.itoa c = Go.Lib.decDigits c.toNat := by unfold Go.Lib.itoa; rw [if_neg (by omega)]
    have hl : (⟨(Go.Lib.itoa c).toArray⟩ : ByteArray).data.toList = Go.Lib.decDigits c.toNat := by rw [hit]
    have hs : (⟨(Go.Lib.itoa c).toArray⟩ : ByteArray).size = (Go.Lib.decDigits c.toNat).length := by rw [hit]; rfl
    have hf : dig (Go.Lib.decDigits c.toNat) 0 = some c ∧ Go.Lib.decDigits c.toNat ≠ [] ∧ ((Go.Lib.decDigits c.toNat).head? = some 48 → (Go.Lib.decDigits c.toNat).length = 1) := by
      rcases dec_facts c.toNat with ⟨f1, f2, f3⟩ | f
      · exact ⟨by rw [f1]; congr 1; omega, f2, fun e => absurd e f3⟩
      · have e : Go.Lib.decDigits c.toNat = [48] := by rw [f, Go.Lib.decDigits, dif_pos (by decide)]; rfl
        rw [e]
        refine ⟨?_, by simp, fun _ => rfl⟩
        have : c = 0 := by omega
        rw [this]; decide
    have hp := List.length_pos_iff.mpr hf.2.1
    refine go_num a hc.1 _ c (by omega) (by rw [hl]; exact hf.1) (fun e => by rw [hl] at e; rw [hs]; exact hf.2.2 e) _ 0 0 0 (by omega) (.inr ⟨by rw [hs]; exact hp, rfl, rfl⟩) (.inl ⟨rfl, rfl, rfl⟩)
/-- What the letter machine may answer. -/
theorem go_cases (a : Int) (ha : 0 ≤ a ∧ a ≤ 1048576) (s : ByteArray) : ∀ (r pos : Nat) (st n : Int), pos + r = s.size → Rel a s.data.toList pos st n →
    (∃ p, cost_Read.go a s r pos st n = (0, p, 22)) ∨ (cost_Read.go a s r pos st n = (-1, 0, 0) ∧ s.data.toList = none4) ∨ ∃ m, cost_Read.go a s r pos st n = (m, 0, 0) ∧ 0 ≤ m ∧ m ≤ a ∧ s.data.toList ≠ [] ∧ dig s.data.toList 0 = some m ∧ (s.data.toList.head? = some 48 → s.data.toList.length = 1)
  | 0, pos, st, n, h, hR => by
    have hs : s.data.toList.length = s.size := Array.length_toList
    obtain rfl : pos = s.size := by omega
    have tk : s.data.toList.take s.size = s.data.toList := List.take_of_length_le (by omega)
    simp only [cost_Read.go, cost_Read.fin]
    rcases hR with ⟨h1, rfl, rfl⟩ | ⟨rfl, h1, h4, rfl, hn⟩ | ⟨rfl, h1, hd, h0, hna, hz, hnz, x, hx, hx1, hx2⟩
    · exact .inl ⟨_, rfl⟩
    · rw [if_neg (by decide), if_pos rfl, toList_eq]
      by_cases hq : s.data.toList = ([110, 111, 110, 101] : List UInt8)
      · rw [if_pos hq]; exact .inr (.inl ⟨rfl, hq⟩)
      · rw [if_neg hq]; exact .inl ⟨_, rfl⟩
    · rw [if_neg (by decide), if_neg (by decide)]
      rw [tk] at hd
      exact .inr (.inr ⟨n, rfl, h0, hna, fun e => by rw [e] at hs; simp at hs; omega, hd, fun e => by rw [hs]; exact (hz e).1⟩)
  | r + 1, pos, st, n, h, hR => by
    have hp : pos < s.size := by omega
    obtain ⟨c, hc, _, hg⟩ := bt_cons s pos hp
    rw [go_step a s r pos st n hp c hg]
    have hst := step_rel a ha s.data.toList pos st n c hR hc
    cases hgo : go1 a pos st n c with
    | none => exact .inl ⟨_, rfl⟩
    | some q =>
      obtain ⟨st', n'⟩ := q
      rw [hgo] at hst
      exact go_cases a ha s r (pos + 1) st' n' (by omega) hst.1
theorem back_j0 (a : Int) (s : ByteArray) : Ev (fun k => stackyardlaw02_CostBack.j0 k a s) true := by
  refine Ev.step (fun k => stackyardlaw02_CostBack.j0.eq_2 ..) ?_
  refine Ev.bind (read_ev a s) ?_
  unfold readV
  by_cases h : chk a [] = 0
  · have ha := (chk_zero.1 h).1
    rw [if_pos h]
    rcases go_cases a ha s s.size 0 0 0 (by omega) (.inl ⟨rfl, rfl, rfl⟩) with ⟨p, e⟩ | ⟨e, hl⟩ | ⟨m, e, h0, hm, hne, hd, hz⟩
    · rw [e]; exact Ev.now _
    · rw [e]
      simp only [if_true]
      refine Ev.bind (textV_ev a (-1)) ?_
      have hc : chk a [-1] = 0 := chk_zero.2 ⟨ha, by intro x hx; simp at hx; omega⟩
      have ht : textV a (-1) = ((⟨#[110, 111, 110, 101]⟩ : ByteArray), 0) := by unfold textV; rw [if_pos hc, if_pos rfl]
      rw [ht]
      simp only [if_true, toList_eq, hl]
      exact Ev.now _
    · rw [e]
      simp only [if_true]
      refine Ev.bind (textV_ev a m) ?_
      have hc : chk a [m] = 0 := chk_zero.2 ⟨ha, by intro x hx; simp at hx; omega⟩
      have ht : textV a m = ((⟨(Go.Lib.itoa m).toArray⟩ : ByteArray), 0) := by unfold textV; rw [if_pos hc, if_neg (by omega)]
      rw [ht]
      have hu := dec_uniq _ s.data.toList m rfl hne hd hz
      have hit : Go.Lib.itoa m = s.data.toList := by unfold Go.Lib.itoa; rw [if_neg (by omega)]; exact hu.2
      simp only [if_true, toList_eq, hit, beq_self_eq_true]
      exact Ev.now _
  · rw [if_neg h]
    simp only [if_neg h]
    exact Ev.now _
theorem CostBack (a c : Int) (s : ByteArray) : Ev (fun k => stackyardlaw02_CostBack.f k a c s) true := by
  refine Ev.bind awake_ev ?_
  simp only [if_true]
  refine Ev.bind (textV_ev a c) ?_
  by_cases h : chk a [c] = 0
  · have ht : (textV a c).2 = 0 := by unfold textV; rw [if_pos h]; split <;> rfl
    simp only [if_pos ht]
    refine Ev.bind (read_ev a _) ?_
    rw [read_text a c h]
    simp only [if_true]
    exact back_j0 a s
  · have ht : ¬ (textV a c).2 = 0 := by unfold textV; rw [if_neg h]; exact h
    simp only [if_neg ht]
    exact back_j0 a s
end Go.Proofs.YtgjeoioneoncnaaDoor.Pure
