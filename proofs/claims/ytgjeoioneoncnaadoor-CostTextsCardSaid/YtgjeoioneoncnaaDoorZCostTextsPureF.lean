/- PureF, for the statement CostTexts: what it needs, no more. -/
import Derived.Test.YtgjeoioneoncnaaDoorZCostTextsPureE
namespace Go.Proofs.YtgjeoioneoncnaaDoor.P
end Go.Proofs.YtgjeoioneoncnaaDoor.P
namespace Go.Proofs.YtgjeoioneoncnaaDoor.Plain
end Go.Proofs.YtgjeoioneoncnaaDoor.Plain
namespace Go.Proofs.YtgjeoioneoncnaaDoor.Pure
open Go.RowKit Go.Proofs.YtgjeoioneoncnaaDoor.P Go.Proofs.YtgjeoioneoncnaaDoor.Plain Go.Proofs.YtgjeoioneoncnaaDoorW.PrintWords Go.Proofs.YtgjeoioneoncnaaDoorW.PrintLast Go.Proofs.YtgjeoioneoncnaaDoorW.PrintMore
set_option linter.unusedVariables false
set_option linter.unusedSimpArgs false
theorem numV_full (a : Int) (ha : 0 ≤ a ∧ a ≤ 1048576) (L : Ls) (n : Int) (h0 : 0 ≤ n) (hna : n ≤ a) (hl : 1 ≤ L.length) (hd : dig L 0 = some n) (hz : L.head? = some 48 → L.length = 1 ∧ n = 0) (hnz : ¬ L.head? = some 48 → W (L.length - 1) ≤ n) : numV a L = n := by
  unfold numV
  have h7 : ¬ L.length > 7 := by
    intro h7
    by_cases g : L.head? = some 48
    · have := (hz g).1; omega
    · have h8 := hnz g
      have h9 := W_big (L.length - 1) (by omega)
      omega
  rw [if_neg (fun e => by rw [e] at hl; simp at hl), if_neg h7, if_neg (fun hh => by have := (hz hh.1).1; omega), hd]
  simp only
  rw [if_neg (by omega)]
theorem read_l0 (a : Int) (ha : 0 ≤ a ∧ a ≤ 1048576) (s : ByteArray) (hsz : s.size < 9223372036854775807) : ∀ (r pos : Nat) (st n : Int), pos + r = s.size → Rel a s.data.toList pos st n →
    Ev (fun k => stackyardref02_Read.l0 k a s (pos : Int)) (cost_Read.go a s r pos st n)
  | 0, pos, st, n, h, hR => by
    have hs : s.data.toList.length = s.size := Array.length_toList
    obtain rfl : pos = s.size := by omega
    refine Ev.step (fun k => stackyardref02_Read.l0.eq_2 ..) ?_
    have e : ¬ (s.size : Int) < (s.size : Int) := by omega
    simp only [if_neg e, cost_Read.go]
    refine Ev.step (fun k => stackyardref02_Read.j1.eq_2 ..) ?_
    simp only [if_true]
    refine Ev.step (fun k => stackyardref02_Read.j2.eq_2 ..) ?_
    rw [toList_eq]
    unfold cost_Read.fin
    rw [toList_eq]
    have tk : s.data.toList.take s.size = s.data.toList := List.take_of_length_le (by omega)
    rcases hR with ⟨h1, rfl, rfl⟩ | ⟨rfl, h1, h4, rfl, hn⟩ | ⟨rfl, h1, hd, h0, hna, hz, hnz, x, hx, hx1, hx2⟩
    · have hnil : s.data.toList = [] := List.length_eq_zero_iff.1 (by omega)
      have hb : (s.data.toList == ([110, 111, 110, 101] : List UInt8)) = false := by rw [hnil]; rfl
      simp only [hb, Bool.false_eq_true, if_false, if_true]
      refine Ev.bind (number_ev a s) ?_
      have hv : numV a s.data.toList = -1 := by unfold numV; rw [if_pos hnil]
      rw [hv]
      simp only [if_neg (show ¬ ((-1 : Int) ≥ 0) by decide)]
      exact Ev.now _
    · by_cases hq : s.data.toList = ([110, 111, 110, 101] : List UInt8)
      · simp only [beq_iff_eq.mpr hq, if_true, if_pos hq, if_neg (show ¬ ((1 : Int) = 0) by decide)]
        exact Ev.now _
      · simp only [beq_eq_false_iff_ne.mpr hq, Bool.false_eq_true, if_false, if_true, if_neg hq, if_neg (show ¬ ((1 : Int) = 0) by decide)]
        refine Ev.bind (number_ev a s) ?_
        have hh : s.data.toList.head? = some 110 := by rw [← tk, hn]; exact none_head _ h1
        rw [none_not a _ hh]
        simp only [if_neg (show ¬ ((-1 : Int) ≥ 0) by decide)]
        exact Ev.now _
    · have hq : ¬ s.data.toList = ([110, 111, 110, 101] : List UInt8) := by
        intro e
        rw [e] at hx
        obtain rfl : (110 : UInt8) = x := Option.some.inj hx
        exact absurd hx2 (by decide)
      rw [tk] at hd
      have hv := numV_full a ha s.data.toList n h0 hna (by omega) hd (fun e => by rw [hs]; exact hz e) (fun e => by rw [hs]; exact hnz e)
      simp only [beq_eq_false_iff_ne.mpr hq, Bool.false_eq_true, if_false, if_true, if_neg (show ¬ ((2 : Int) = 0) by decide), if_neg (show ¬ ((2 : Int) = 1) by decide)]
      refine Ev.bind (number_ev a s) ?_
      rw [hv]
      simp only [if_pos (show n ≥ 0 from h0)]
      refine Ev.bind (number_ev a s) ?_
      rw [hv]
      exact Ev.now _
  | r + 1, pos, st, n, h, hR => by
    have hs : s.data.toList.length = s.size := Array.length_toList
    refine Ev.step (fun k => stackyardref02_Read.l0.eq_2 ..) ?_
    have hp : pos < s.size := by omega
    have e : (pos : Int) < (s.size : Int) := by omega
    have e0 : (0 : Int) ≤ ((pos + 1 : Nat) : Int) := by omega
    have e1 : ((pos + 1 : Nat) : Int) ≤ (s.size : Int) := by omega
    simp only [if_pos e, wrap_succ pos (by omega), if_pos e0, if_pos e1, Int.toNat_natCast]
    obtain ⟨c, hc, _, hg⟩ := bt_cons s pos hp
    have hst := step_rel a ha s.data.toList pos st n c hR hc
    have hbg := begins_ev a (s.extract 0 (pos + 1))
    have hx : (s.extract 0 (pos + 1)).data.toList = s.data.toList.take (pos + 1) := by simp [ByteArray.data_extract]
    rw [hx] at hbg
    refine Ev.bind hbg ?_
    rw [go_step a s r pos st n hp c hg]
    cases hgo : go1 a pos st n c with
    | none =>
      rw [hgo] at hst
      simp only at hst
      rw [hst]
      simp only [Bool.false_eq_true, if_false]
      refine Ev.step (fun k => stackyardref02_Read.j1.eq_2 ..) ?_
      have e5 : ¬ (pos : Int) = (s.size : Int) := by omega
      simp only [if_neg e5]
      refine Ev.step (fun k => stackyardref02_Read.j2.eq_2 ..) ?_
      simp only [Bool.false_eq_true, if_false, if_neg e5]
      exact Ev.now _
    | some q =>
      obtain ⟨st', n'⟩ := q
      rw [hgo] at hst
      simp only at hst
      rw [hst.2]
      simp only [if_true]
      exact read_l0 a ha s hsz r (pos + 1) st' n' (by omega) hst.1
def readV (a : Int) (s : ByteArray) : Int × Int × Int := if chk a [] = 0 then cost_Read.go a s s.size 0 0 0 else (0, 0, chk a [])
theorem read_ev (a : Int) (s : ByteArray) : Ev (fun k => cost_Read.f k a s) (readV a s) := by
  refine Ev.bind (checks_ev a [] (by simp)) ?_
  unfold readV
  by_cases h : chk a [] = 0
  · simp only [if_pos h]; exact Ev.now _
  · simp only [if_neg h]; exact Ev.now _
theorem refRead_ev (a : Int) (s : ByteArray) (hsz : s.size < 9223372036854775807) : Ev (fun k => stackyardref02_Read.f k a s) (readV a s) := by
  refine Ev.bind (refCheck_ev a [] (by simp)) ?_
  unfold readV
  by_cases h : chk a [] = 0
  · simp only [if_pos h]
    exact read_l0 a (chk_zero.1 h).1 s hsz s.size 0 0 0 (by omega) (.inl ⟨rfl, rfl, rfl⟩)
  · simp only [if_neg h]; exact Ev.now _
def textV (a c : Int) : ByteArray × Int := if chk a [c] = 0 then (if c = -1 then ((⟨#[110, 111, 110, 101]⟩ : ByteArray), 0) else (⟨(Go.Lib.itoa c).toArray⟩, 0)) else ((⟨#[]⟩ : ByteArray), chk a [c])
theorem itoa_eq (a c : Int) (h : chk a [c] = 0) : strconv_Itoa.f c = some ⟨(Go.Lib.itoa c).toArray⟩ := by
  have := chk_zero.1 h
  have h2 := this.2 c (by simp)
  unfold strconv_Itoa.f
  rw [if_pos (by omega)]
theorem textV_ev (a c : Int) : Ev (fun k => cost_Text.f k a c) (textV a c) := by
  refine Ev.bind (checks_ev a [c] (by simp)) ?_
  unfold textV
  by_cases h : chk a [c] = 0
  · simp only [if_pos h]
    by_cases h1 : c = -1
    · simp only [if_pos h1]; exact Ev.now _
    · simp only [if_neg h1, itoa_eq a c h, Option.bind_some]; exact Ev.now _
  · simp only [if_neg h]; exact Ev.now _
theorem refTextV_ev (a c : Int) : Ev (fun k => stackyardref02_Text.f k a c) (textV a c) := by
  refine Ev.bind (refCheck_ev a [c] (by simp)) ?_
  unfold textV
  by_cases h : chk a [c] = 0
  · simp only [if_pos h]
    by_cases h1 : c = -1
    · simp only [if_pos h1]; exact Ev.now _
    · simp only [if_neg h1, itoa_eq a c h, Option.bind_some]; exact Ev.now _
  · simp only [if_neg h]; exact Ev.now _
theorem CostTexts (a c : Int) (s : ByteArray) (hsz : s.size < 9223372036854775807) : Ev (fun k => stackyardlaw02_CostTexts.f k a c s) true := by
  refine Ev.bind (textV_ev a c) (Ev.bind (refTextV_ev a c) (Ev.bind (read_ev a s) (Ev.bind (refRead_ev a s hsz) ?_)))
  simp only [if_true]
  exact Ev.bind awake_ev (Ev.now _)

end Go.Proofs.YtgjeoioneoncnaaDoor.Pure
