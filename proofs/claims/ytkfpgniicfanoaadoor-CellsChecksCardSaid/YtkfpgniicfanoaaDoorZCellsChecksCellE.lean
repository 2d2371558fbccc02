/- CellE, for the statement CellsChecks: what it needs, no more. -/
import Derived.Test.YtkfpgniicfanoaaDoorZCellsChecksCellC
import Derived.Lib.ItoaLen
namespace Go.Proofs.YtkfpgniicfanoaaDoor.Pure
open Go.RowKit Go.Proofs.YtkfpgniicfanoaaDoor.P Go.Proofs.YtkfpgniicfanoaaDoor.Plain Go.Proofs.YtkfpgniicfanoaaDoor.CellA Go.Proofs.YtkfpgniicfanoaaDoor.CellB Go.Proofs.YtkfpgniicfanoaaDoorW.PrintWords Go.Proofs.YtkfpgniicfanoaaDoorW.PrintLast Go.Proofs.YtkfpgniicfanoaaDoorW.PrintMore
set_option linter.unusedVariables false
set_option linter.unusedSimpArgs false
abbrev Ls := List UInt8
def BA (l : Ls) : ByteArray := ⟨l.toArray⟩
theorem BA_data (l : Ls) : (BA l).data.toList = l := rfl
theorem BA_toList (l : Ls) : (BA l).toList = l := by rw [toList_eq]; rfl
theorem BA_size (l : Ls) : (BA l).size = l.length := rfl
theorem ba_ext {s t : ByteArray} (h : s.data.toList = t.data.toList) : s = t := toList_inj (by rw [toList_eq, toList_eq, h])
theorem BA_append (l m : Ls) : BA l ++ BA m = BA (l ++ m) := ba_ext (by simp [BA, ByteArray.data_append])
theorem BA_drop (l : Ls) (h : 1 ≤ l.length) : (BA l).extract 1 (BA l).size = BA (l.drop 1) := ba_ext (by simp [BA, ByteArray.data_extract, ByteArray.size]; exact List.take_of_length_le (by simp))
theorem maps_BA (A : List Ls) : (A.map BA).map (·.data.toList) = A := by rw [List.map_map]; exact List.map_id' A
/-- Joined. -/
def ic (sep : Ls) : List Ls → Ls
  | [] => []
  | [x] => x
  | x :: y :: r => x ++ sep ++ ic sep (y :: r)
theorem join_ic (sep : Ls) : ∀ A : List Ls, Go.Lib.join A sep = ic sep A
  | [] => by simp [Go.Lib.join, ic, List.intercalate]
  | [x] => by simp [Go.Lib.join, ic, List.intercalate]
  | x :: y :: r => by
    have := join_ic sep (y :: r)
    simp only [Go.Lib.join, List.intercalate, ic] at this ⊢
    rw [← this]
    simp [List.intersperse]
theorem ic_snoc (sep : Ls) (t : Ls) : ∀ A : List Ls, A ≠ [] → ic sep (A ++ [t]) = ic sep A ++ sep ++ t
  | [], h => absurd rfl h
  | [x], _ => by simp [ic]
  | x :: y :: r, _ => by
    have := ic_snoc sep t (y :: r) (by simp)
    simp only [List.cons_append, ic] at this ⊢
    rw [this]; simp
theorem ic_len (sep : Ls) (b : Nat) : ∀ A : List Ls, (∀ x ∈ A, x.length ≤ b) → (ic sep A).length ≤ A.length * (b + sep.length)
  | [], _ => by simp [ic]
  | [x], h => by have := h x (by simp); simp [ic]; omega
  | x :: y :: r, h => by
    have h1 := ic_len sep b (y :: r) (fun z hz => h z (List.mem_cons_of_mem _ hz))
    have h2 := h x (by simp)
    simp only [ic, List.length_append, List.length_cons, Nat.add_mul, Nat.one_mul] at h1 ⊢
    omega
/-- Put behind each other, each behind a bar. -/
def cat : List Ls → Ls
  | [] => []
  | x :: r => 124 :: (x ++ cat r)
theorem cat_snoc (t : Ls) : ∀ A : List Ls, cat (A ++ [t]) = cat A ++ (124 :: t)
  | [] => by simp [cat]
  | x :: r => by simp [cat, cat_snoc t r]
theorem cat_ic : ∀ A : List Ls, (cat A).drop 1 = ic [124] A
  | [] => rfl
  | [x] => by simp [cat, ic]
  | x :: y :: r => by
    have := cat_ic (y :: r)
    simp only [cat, ic, List.drop_succ_cons, List.drop_zero] at this ⊢
    rw [← this]; simp
theorem cat_nil {A : List Ls} : cat A = [] ↔ A = [] := by cases A <;> simp [cat]
theorem cat_len (b : Nat) : ∀ A : List Ls, (∀ x ∈ A, x.length ≤ b) → (cat A).length ≤ A.length * (b + 1)
  | [], _ => by simp [cat]
  | x :: r, h => by
    have h1 := cat_len b r (fun z hz => h z (List.mem_cons_of_mem _ hz))
    have h2 := h x (by simp)
    simp only [cat, List.length_append, List.length_cons, Nat.add_mul, Nat.one_mul] at h1 ⊢
    omega

def bp (m : Nat) : Nat → Nat → List Ls
  | 0, _ => []
  | r + 1, i => (if m.testBit i then [120 :: Go.Lib.itoa (i : Int)] else []) ++ bp m r (i + 1)
def kp : Cl → List Ls
  | .top => [[42]]
  | .low _ none => []
  | .low _ (some v) => [Go.Lib.itoa v]
def shown (P : List Ls) : Ls := if P = [] then [45] else ic [124] P
def Small (A : List Ls) (n : Nat) : Prop := A.length ≤ n ∧ ∀ x ∈ A, x.length ≤ 22
theorem itoa22 (i : Nat) (h : i < 64) : (Go.Lib.itoa (i : Int)).length ≤ 21 := Go.Lib.itoa_length_le _ (by omega) (by omega)
theorem Small.snoc {A : List Ls} {n : Nat} (h : Small A n) {t : Ls} (ht : t.length ≤ 22) : Small (A ++ [t]) (n + 1) := by
  refine ⟨by have := h.1; simp; omega, fun x hx => ?_⟩
  rcases List.mem_append.1 hx with hx | hx
  · exact h.2 x hx
  · simp at hx; subst hx; exact ht
theorem Small.le {A : List Ls} {n m : Nat} (h : Small A n) (hm : n ≤ m) : Small A m := ⟨Nat.le_trans h.1 hm, h.2⟩
def vok : Cl → Prop
  | .low _ (some v) => -9223372036854775808 ≤ v ∧ v ≤ 9223372036854775807
  | _ => True
theorem Join_eq (A : List Ls) (s : Ls) (n : Nat) (hs : s.length ≤ 1) (hA : A.length ≤ n) (b : Nat) (hb : ∀ x ∈ A, x.length ≤ b) (hn : n * (b + 1) ≤ 140737488355328) (hn2 : n ≤ 140737488355328) : strings_Join.f (A.map BA) (BA s) = some (BA (ic s A)) := by
  have h1 : (ic s A).length ≤ 140737488355328 := by
    refine Nat.le_trans (ic_len s b A hb) (Nat.le_trans (Nat.mul_le_mul hA ?_) hn)
    omega
  unfold strings_Join.f
  rw [maps_BA, BA_data, join_ic, if_pos ⟨by rw [List.length_map]; omega, h1⟩]
  rfl
theorem Itoa_eq (x : Int) (h : -9223372036854775808 ≤ x ∧ x ≤ 9223372036854775807) : strconv_Itoa.f x = some (BA (Go.Lib.itoa x)) := by unfold strconv_Itoa.f; rw [if_pos h]; rfl
theorem Format_eq (x : Int) (h : -9223372036854775808 ≤ x ∧ x ≤ 9223372036854775807) : strconv_FormatInt.f x 10 = some (BA (Go.Lib.itoa x)) := by unfold strconv_FormatInt.f; rw [if_pos ⟨h, rfl⟩]; rfl
theorem text_l0 (c : Cl) (hc : lt 64 c) (hv : vok c) : ∀ (r i : Nat) (A : List Ls), i + r = 64 → Small A i →
    Ev (fun k => cells_text.l0 k (A.map BA) (i : Int) (dec c).f0 (dec c).f1 (dec c).f2) (BA (shown (A ++ bp (reads c) r i ++ kp c)))
  | 0, i, A, h, hA => by
    refine Ev.step (fun k => cells_text.l0.eq_2 ..) ?_
    obtain rfl : i = 64 := by omega
    have e64 : ¬ ((64 : Nat) : Int) < 64 := by decide
    have hl : (A.map BA).length < 8796093022208 := by have := hA.1; rw [List.length_map]; omega
    simp only [if_neg e64, bp, List.append_nil, if_pos hl]
    rcases c with _ | ⟨m, _ | v⟩
    · have hS := hA.snoc (t := [42]) (by decide)
      have hj := Join_eq (A ++ [[42]]) [124] 65 (by decide) hS.1 22 hS.2 (by decide) (by decide)
      rw [List.map_append] at hj
      refine ⟨0, fun k _ => ?_⟩
      simp only [dec, show ¬ ((2 : Int) = 1) by decide, if_false, if_true, Option.bind_some]
      have e : ¬ (((A.map BA ++ [(⟨#[42]⟩ : ByteArray)]).length : Nat) : Int) = 0 := by simp; omega
      rw [if_neg e]
      have hj' : strings_Join.f (A.map BA ++ [(⟨#[42]⟩ : ByteArray)]) (⟨#[124]⟩ : ByteArray) = some (BA (ic [124] (A ++ [[42]]))) := hj
      rw [hj']
      simp [shown, kp]
    · refine ⟨0, fun k _ => ?_⟩
      simp only [dec, show ¬ ((0 : Int) = 1) by decide, show ¬ ((0 : Int) = 2) by decide, if_false]
      by_cases hn : A = []
      · subst hn; rfl
      · have e : ¬ (((A.map BA).length : Nat) : Int) = 0 := by
          have := List.length_pos_iff.mpr hn
          rw [List.length_map]; omega
        rw [if_neg e]
        have hj := Join_eq A [124] 64 (by decide) hA.1 22 hA.2 (by decide) (by decide)
        have hj' : strings_Join.f (A.map BA) (⟨#[124]⟩ : ByteArray) = some (BA (ic [124] A)) := hj
        rw [hj']
        simp [shown, kp, hn]
    · have hv' : -9223372036854775808 ≤ v ∧ v ≤ 9223372036854775807 := hv
      have hS := hA.snoc (t := Go.Lib.itoa v) (by have := Go.Lib.itoa_length_le v hv'.1 hv'.2; omega)
      have hj := Join_eq (A ++ [Go.Lib.itoa v]) [124] 65 (by decide) hS.1 22 hS.2 (by decide) (by decide)
      rw [List.map_append] at hj
      refine ⟨0, fun k _ => ?_⟩
      simp only [dec, if_true, Format_eq v hv', Option.bind_some]
      have e : ¬ (((A.map BA ++ [BA (Go.Lib.itoa v)]).length : Nat) : Int) = 0 := by simp; omega
      rw [if_neg e]
      have hj' : strings_Join.f (A.map BA ++ [BA (Go.Lib.itoa v)]) (⟨#[124]⟩ : ByteArray) = some (BA (ic [124] (A ++ [Go.Lib.itoa v]))) := hj
      rw [hj']
      simp [shown, kp]
  | r + 1, i, A, h, hA => by
    refine Ev.step (fun k => cells_text.l0.eq_2 ..) ?_
    have e : (i : Int) < 64 := by omega
    have e0 : (0 : Int) ≤ (i : Int) := by omega
    have hb := bit_eq (dec c).f0 (dec_fit (Nat.le_refl 64) hc).1 (dec_fit (Nat.le_refl 64) hc).2 i (by omega)
    have hr : (dec c).f0.toNat = reads c := by rw [dec_reads]; omega
    rw [hr] at hb
    simp only [if_pos e, if_pos e0, hb, wrap_succ i (by omega), bp]
    by_cases b : (reads c).testBit i = true
    · have hi := itoa22 i (by omega)
      have e1 : 1 + (BA (Go.Lib.itoa (i : Int))).size ≤ 9223372036854775807 := by rw [BA_size]; omega
      have hl : (A.map BA).length < 8796093022208 := by have := hA.1; rw [List.length_map]; omega
      simp only [b, if_true, Itoa_eq (i : Int) (by omega), Option.bind_some, if_pos e1, if_pos hl]
      have := text_l0 c hc hv r (i + 1) (A ++ [120 :: Go.Lib.itoa (i : Int)]) (by omega) (hA.snoc (by simp; omega))
      rw [List.map_append, List.append_assoc A] at this
      have e2 : (⟨#[120]⟩ : ByteArray) ++ BA (Go.Lib.itoa (i : Int)) = BA (120 :: Go.Lib.itoa (i : Int)) := BA_append [120] _
      rw [e2]
      exact this
    · simp only [if_neg b, show ¬ ((0 : Int) = 1) by decide, if_false, List.nil_append]
      exact text_l0 c hc hv r (i + 1) A (by omega) (hA.le (by omega))
def ctext (c : Cl) : Ls := shown (bp (reads c) 64 0 ++ kp c)
theorem text_ev (c : Cl) (hc : lt 64 c) (hv : vok c) : Ev (fun k => cells_text.f k (dec c).f0 (dec c).f1 (dec c).f2) (BA (ctext c)) := by
  exact text_l0 c hc hv 64 0 [] (by omega) ⟨by simp, by simp⟩
theorem drop_shown (P : List Ls) (hP : (cat P).length ≤ 9223372036854775807) : (if (BA (cat P)).toList = ([] : Ls) then some (⟨#[45]⟩ : ByteArray) else if 1 ≤ ((BA (cat P)).size : Int) then some ((BA (cat P)).extract 1 (BA (cat P)).size) else none) = some (BA (shown P)) := by
  rw [BA_toList]
  by_cases h : P = []
  · subst h; rfl
  · have h1 : cat P ≠ [] := fun e => h (cat_nil.1 e)
    have h2 := List.length_pos_iff.mpr h1
    rw [if_neg h1, if_pos (by rw [BA_size]; omega), BA_drop _ h2, cat_ic]
    simp [shown, h]
theorem refone_l0 (c : Cl) (hc : lt 64 c) (hv : vok c) : ∀ (r i : Nat) (A : List Ls), i + r = 64 → Small A i →
    Ev (fun k => stackyardref04_one.l0 k (BA (cat A)) (i : Int) (dec c).f0 (dec c).f1 (dec c).f2) (BA (shown (A ++ bp (reads c) r i ++ kp c)))
  | 0, i, A, h, hA => by
    refine Ev.step (fun k => stackyardref04_one.l0.eq_2 ..) ?_
    obtain rfl : i = 64 := by omega
    have e64 : ¬ ((64 : Nat) : Int) < 64 := by decide
    have hl : (cat A).length ≤ 1500 := by
      have h1 := cat_len 22 A hA.2
      have h2 := hA.1
      omega
    simp only [if_neg e64, bp, List.append_nil]
    rcases c with _ | ⟨m, _ | v⟩
    · refine ⟨0, fun k _ => ?_⟩
      have e1 : (BA (cat A)).size + 2 ≤ 9223372036854775807 := by rw [BA_size]; omega
      have e2 : BA (cat A) ++ (⟨#[124, 42]⟩ : ByteArray) = BA (cat (A ++ [[42]])) := by
        rw [cat_snoc]; exact BA_append (cat A) [124, 42]
      simp only [dec, show ¬ ((2 : Int) = 1) by decide, if_false, if_true, if_pos e1, e2]
      rw [drop_shown _ (by rw [cat_snoc]; simp; omega)]
      rfl
    · refine ⟨0, fun k _ => ?_⟩
      simp only [dec, show ¬ ((0 : Int) = 1) by decide, show ¬ ((0 : Int) = 2) by decide, if_false]
      rw [drop_shown A (by omega)]
      simp [kp]
    · have hv' : -9223372036854775808 ≤ v ∧ v ≤ 9223372036854775807 := hv
      have hi := Go.Lib.itoa_length_le v hv'.1 hv'.2
      refine ⟨0, fun k _ => ?_⟩
      have e1 : (BA (cat A)).size + 1 ≤ 9223372036854775807 := by rw [BA_size]; omega
      have e3 : BA (cat A) ++ (⟨#[124]⟩ : ByteArray) = BA (cat A ++ [124]) := BA_append (cat A) [124]
      have e4 : BA (cat A ++ [124]) ++ BA (Go.Lib.itoa v) = BA (cat (A ++ [Go.Lib.itoa v])) := by
        rw [cat_snoc, BA_append]; simp
      have e5 : (BA (cat A)).size + 1 + (BA (Go.Lib.itoa v)).size ≤ 9223372036854775807 := by rw [BA_size, BA_size]; omega
      simp only [dec, if_true, if_pos e1, Format_eq v hv', Option.bind_some, e3, if_pos e5, e4]
      rw [drop_shown _ (by rw [cat_snoc]; simp; omega)]
      rfl
  | r + 1, i, A, h, hA => by
    refine Ev.step (fun k => stackyardref04_one.l0.eq_2 ..) ?_
    have e : (i : Int) < 64 := by omega
    have hb := has_eq (dec c).f0 (dec_fit (Nat.le_refl 64) hc).1 (dec_fit (Nat.le_refl 64) hc).2 i (by omega)
    have hr : (dec c).f0.toNat = reads c := by rw [dec_reads]; omega
    rw [hr] at hb
    have hl : (cat A).length ≤ 1500 := by
      have h1 := cat_len 22 A hA.2
      have h2 := hA.1
      omega
    simp only [if_pos e, hb, wrap_succ i (by omega), bp, Option.bind_some]
    by_cases b : (reads c).testBit i = true
    · have hi := itoa22 i (by omega)
      have e1 : (BA (cat A)).size + 2 ≤ 9223372036854775807 := by rw [BA_size]; omega
      have e3 : BA (cat A) ++ (⟨#[124, 120]⟩ : ByteArray) = BA (cat A ++ [124, 120]) := BA_append (cat A) [124, 120]
      have e4 : BA (cat A ++ [124, 120]) ++ BA (Go.Lib.itoa (i : Int)) = BA (cat (A ++ [120 :: Go.Lib.itoa (i : Int)])) := by
        rw [cat_snoc, BA_append]; simp
      have e5 : (BA (cat A)).size + 2 + (BA (Go.Lib.itoa (i : Int))).size ≤ 9223372036854775807 := by rw [BA_size, BA_size]; omega
      simp only [b, if_true, Itoa_eq (i : Int) (by omega), Option.bind_some, if_pos e1, e3, if_pos e5, e4]
      have := refone_l0 c hc hv r (i + 1) (A ++ [120 :: Go.Lib.itoa (i : Int)]) (by omega) (hA.snoc (by simp; omega))
      rw [List.append_assoc A] at this
      exact this
    · simp only [if_neg b, List.nil_append]
      exact refone_l0 c hc hv r (i + 1) A (by omega) (hA.le (by omega))
theorem refone_ev (c : Cl) (hc : lt 64 c) (hv : vok c) : Ev (fun k => stackyardref04_one.f k (dec c).f0 (dec c).f1 (dec c).f2) (BA (ctext c)) := by
  exact refone_l0 c hc hv 64 0 [] (by omega) ⟨by simp, by simp⟩
theorem bp_small (m : Nat) : ∀ (r i : Nat), i + r ≤ 64 → Small (bp m r i) r
  | 0, i, _ => ⟨by simp [bp], by simp [bp]⟩
  | r + 1, i, h => by
    have h1 := bp_small m r (i + 1) (by omega)
    have hi := itoa22 i (by omega)
    unfold bp
    refine ⟨?_, fun x hx => ?_⟩
    · have := h1.1
      rw [List.length_append]
      split <;> simp <;> omega
    · rcases List.mem_append.1 hx with hx | hx
      · split at hx
        · simp at hx; subst hx; simp; omega
        · simp at hx
      · exact h1.2 x hx
theorem ctext_len (c : Cl) (hv : vok c) : (ctext c).length ≤ 1500 := by
  have h1 := bp_small (reads c) 64 0 (by omega)
  have h2 : Small (bp (reads c) 64 0 ++ kp c) 65 := by
    rcases c with _ | ⟨m, _ | v⟩
    · exact h1.snoc (t := [42]) (by decide)
    · simpa [kp] using h1.le (by omega)
    · have hv' : -9223372036854775808 ≤ v ∧ v ≤ 9223372036854775807 := hv
      exact h1.snoc (t := Go.Lib.itoa v) (by have := Go.Lib.itoa_length_le v hv'.1 hv'.2; omega)
  unfold ctext shown
  split
  · decide
  · refine Nat.le_trans (ic_len [124] 22 _ h2.2) ?_
    have := h2.1
    simp only [List.length_cons, List.length_nil]
    omega

theorem Text_l0 (d : Nat) (F : List Cl) (hF : GoodC d F) (hv : ∀ c ∈ F, vok c) : ∀ (r i : Nat), i + r = d →
    Ev (fun k => cells_Text.l0 k (((F.take i).map ctext).map BA) (F.map dec) (d : Int) (i : Int)) (BA (ic [44] (F.map ctext)), 0)
  | 0, i, h => by
    refine Ev.step (fun k => cells_Text.l0.eq_2 ..) ?_
    have hl := hF.2.1
    have hd := hF.1
    have e : ¬ (i : Int) < (d : Int) := by omega
    rw [List.take_of_length_le (by omega)]
    simp only [if_neg e]
    have hj := Join_eq (F.map ctext) [44] 64 (by decide) (by rw [List.length_map]; omega) 1500 (by
      intro x hx
      obtain ⟨c, hc, rfl⟩ := List.mem_map.1 hx
      exact ctext_len c (hv c hc)) (by decide) (by decide)
    have hj' : strings_Join.f ((F.map ctext).map BA) (⟨#[44]⟩ : ByteArray) = some (BA (ic [44] (F.map ctext))) := hj
    exact ⟨0, fun k _ => by simp only [hj', Option.bind_some]⟩
  | r + 1, i, h => by
    refine Ev.step (fun k => cells_Text.l0.eq_2 ..) ?_
    have h1 := hF.2.1
    have hd := hF.1
    have hi : i < F.length := by omega
    have e : (i : Int) < (d : Int) := by omega
    have e0 : (0 : Int) ≤ (i : Int) := by omega
    have e1 : (i : Int) < ((F.map dec).length : Int) := by rw [List.length_map]; omega
    have e3 : (((F.take i).map ctext).map BA).length < 8796093022208 := by simp; omega
    simp only [if_pos e, if_pos e0, if_pos e1, if_pos e3, rd_dec F i hi, wrap_succ i (by omega)]
    refine Ev.bind (text_ev _ (lt_le hd (hF.2.2 _ (List.getElem_mem hi))) (hv _ (List.getElem_mem hi))) ?_
    have := Text_l0 d F hF hv r (i + 1) (by omega)
    rw [List.take_succ_eq_append_getElem hi, List.map_append, List.map_append] at this
    exact this
theorem refText_l0 (d : Nat) (F : List Cl) (hF : GoodC d F) (hv : ∀ c ∈ F, vok c) : ∀ (r i : Nat), i + r = d →
    Ev (fun k => stackyardref04_Text.l0 k (d : Int) (F.map dec) (BA (ic [44] ((F.take i).map ctext))) (i : Int)) (BA (ic [44] (F.map ctext)), 0)
  | 0, i, h => by
    refine Ev.step (fun k => stackyardref04_Text.l0.eq_2 ..) ?_
    have hl := hF.2.1
    have e : ¬ (i : Int) < (d : Int) := by omega
    rw [List.take_of_length_le (by omega)]
    simp only [if_neg e]
    exact Ev.now _
  | r + 1, i, h => by
    refine Ev.step (fun k => stackyardref04_Text.l0.eq_2 ..) ?_
    have h1 := hF.2.1
    have hd := hF.1
    have hi : i < F.length := by omega
    have e : (i : Int) < (d : Int) := by omega
    have e0 : (0 : Int) ≤ (i : Int) := by omega
    have e1 : (i : Int) < ((F.map dec).length : Int) := by rw [List.length_map]; omega
    have hlen : (ic [44] ((F.take i).map ctext)).length ≤ 64 * 1501 := by
      refine Nat.le_trans (ic_len [44] 1500 _ (by
        intro x hx
        obtain ⟨c, hc, rfl⟩ := List.mem_map.1 hx
        exact ctext_len c (hv c (List.mem_of_mem_take hc)))) (Nat.mul_le_mul ?_ (by decide))
      simp; omega
    have hc := ctext_len F[i] (hv _ (List.getElem_mem hi))
    have next := refText_l0 d F hF hv r (i + 1) (by omega)
    rw [List.take_succ_eq_append_getElem hi, List.map_append] at next
    simp only [if_pos e, if_pos e0, if_pos e1, rd_dec F i hi, wrap_succ i (by omega)]
    have hev := refone_ev _ (lt_le hd (hF.2.2 _ (List.getElem_mem hi))) (hv _ (List.getElem_mem hi))
    by_cases hz : (i : Int) > 0
    · have e2 : (BA (ic [44] ((F.take i).map ctext))).size + 1 ≤ 9223372036854775807 := by rw [BA_size]; omega
      have e4 : BA (ic [44] ((F.take i).map ctext)) ++ (⟨#[44]⟩ : ByteArray) = BA (ic [44] ((F.take i).map ctext) ++ [44]) := BA_append _ [44]
      have e5 : (BA (ic [44] ((F.take i).map ctext))).size + 1 + (BA (ctext F[i])).size ≤ 9223372036854775807 := by rw [BA_size, BA_size]; omega
      simp only [if_pos hz, if_pos e2, e4]
      refine Ev.bind hev ?_
      simp only [if_pos e5, BA_append]
      have hne : (F.take i).map ctext ≠ [] := by
        intro e6
        have := congrArg List.length e6
        rw [List.length_map, List.length_take, List.length_nil] at this
        omega
      have e6 : (F.take i).map ctext ++ [F[i]].map ctext = (F.take i).map ctext ++ [ctext F[i]] := rfl
      rw [e6, ic_snoc [44] _ _ hne] at next
      exact next
    · obtain rfl : i = 0 := by omega
      simp only [if_neg hz]
      refine Ev.bind hev ?_
      have e5 : (BA (ic [44] ((F.take 0).map ctext))).size + (BA (ctext F[0])).size ≤ 9223372036854775807 := by rw [BA_size, BA_size]; omega
      simp only [if_pos e5, BA_append]
      simpa [ic] using next
def Vals (l : List S34) : Prop := ∀ x ∈ l, -9223372036854775808 ≤ x.f2 ∧ x.f2 ≤ 9223372036854775807
theorem vals_vok {F : List Cl} (h : Vals (F.map dec)) : ∀ c ∈ F, vok c := by
  intro c hc
  have := h (dec c) (List.mem_map.2 ⟨c, hc, rfl⟩)
  rcases c with _ | ⟨m, _ | v⟩
  · trivial
  · trivial
  · exact this
theorem Text_ev (a : Int) (l : List S34) (hl : Fits l) (hv : Vals l) : ∃ v, Ev (fun k => cells_Text.f k a l) v ∧ Ev (fun k => stackyardref04_Text.f k a l) v := by
  by_cases h : chk a l = 0
  · obtain ⟨d, F, rfl, hF, rfl⟩ := chk_good hl.1 h
    refine ⟨(BA (ic [44] (F.map ctext)), 0), Ev.bind (check_ev _ _ hl.1 hl.2) ?_, Ev.bind (refCheck_ev _ _ hl.1) ?_⟩
    · simp only [h, if_true]
      have := Text_l0 d F hF (vals_vok hv) d 0 (by omega)
      have e : (((F.map dec).length : Nat) : Int) = d := by rw [List.length_map, hF.2.1]
      rw [e]
      exact this
    · simp only [h, if_true]
      exact refText_l0 d F hF (vals_vok hv) d 0 (by omega)
  · refine ⟨((⟨#[]⟩ : ByteArray), chk a l), Ev.bind (check_ev _ _ hl.1 hl.2) ?_, Ev.bind (refCheck_ev _ _ hl.1) ?_⟩
    · simp only [if_neg h]; exact Ev.now _
    · simp only [if_neg h]; exact Ev.now _
theorem CellsChecks (a : Int) (l m : List S34) (hl : Fits l) (hm : Fits m) (hv : Vals l) : Ev (fun k => stackyardlaw04_CellsChecks.f k a l m) true := by
  obtain ⟨v, h1, h2⟩ := Text_ev a l hl hv
  refine Ev.bind h1 (Ev.bind h2 (Ev.bind (check_ev a l hl.1 hl.2) (Ev.bind (refCheck_ev a l hl.1) ?_)))
  simp only [if_true]
  refine Ev.bind (Same_ev l m hl.2) (Ev.bind (same_ev l m hl.2) ?_)
  simp only [beq_self_eq_true, if_true]
  refine Ev.bind (Same_ev l l hl.2) ?_
  simp only [decide_true, if_true]
  exact Ev.bind awake_ev (Ev.now _)
end Go.Proofs.YtkfpgniicfanoaaDoor.Pure
