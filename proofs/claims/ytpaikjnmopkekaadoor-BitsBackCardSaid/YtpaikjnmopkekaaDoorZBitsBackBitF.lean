/- BitF, for the statement BitsBack: what it needs, no more. -/
import Derived.Test.YtpaikjnmopkekaaDoorZBitsBackBitE
import Derived.Test.YtpaikjnmopkekaaDoorBS
namespace Go.Proofs.YtpaikjnmopkekaaDoor.Iter
end Go.Proofs.YtpaikjnmopkekaaDoor.Iter
namespace Go.Proofs.YtpaikjnmopkekaaDoor.P
end Go.Proofs.YtpaikjnmopkekaaDoor.P
namespace Go.Proofs.YtpaikjnmopkekaaDoor.Plain
end Go.Proofs.YtpaikjnmopkekaaDoor.Plain
namespace Go.Proofs.YtpaikjnmopkekaaDoor.BitA
open Go.RowKit Go.Proofs.YtpaikjnmopkekaaDoor.P Go.Proofs.YtpaikjnmopkekaaDoor.Plain Go.Proofs.YtpaikjnmopkekaaDoor.Iter Go.Proofs.YtpaikjnmopkekaaDoorW.PrintWords Go.Proofs.YtpaikjnmopkekaaDoorW.PrintLast Go.Proofs.YtpaikjnmopkekaaDoorW.PrintMore
set_option linter.unusedVariables false
set_option linter.unusedSimpArgs false
def headB (l : List Int) : ByteArray := (⟨#[123]⟩ : ByteArray) ++ (⟨(Go.Lib.join ((strs l).map (·.data.toList)) (⟨#[44]⟩ : ByteArray).data.toList).toArray⟩ : ByteArray)
theorem textB_head (s : Nat) : textB s = headB (bl s) ++ (⟨#[125]⟩ : ByteArray) := rfl
theorem ba_ext {a b : ByteArray} (h : a.data.toList = b.data.toList) : a = b := ByteArray.ext (Array.toList_inj.1 h)
theorem headB_size (l : List Int) (hl : l.length ≤ 64) (hr : ∀ x ∈ l, 0 ≤ x ∧ x < 64) : (headB l).size ≤ 2000 := by
  have h := join_le (⟨#[44]⟩ : ByteArray).data.toList ((strs l).map (·.data.toList)) 21 (by
    intro x hx
    obtain ⟨y, hy, rfl⟩ := List.mem_map.1 hx
    obtain ⟨z, hz, rfl⟩ := List.mem_map.1 hy
    exact numS_len z (hr z hz))
  have e : (⟨#[44]⟩ : ByteArray).data.toList.length = 1 := rfl
  rw [e, List.length_map] at h
  have h3 : (strs l).length ≤ 64 := by unfold strs; rw [List.length_map]; exact hl
  have h4 := Nat.mul_le_mul_right (21 + 1) h3
  unfold headB
  rw [ByteArray.size_append]
  have e1 : (⟨#[123]⟩ : ByteArray).size = 1 := rfl
  have e2 : (⟨(Go.Lib.join ((strs l).map (·.data.toList)) (⟨#[44]⟩ : ByteArray).data.toList).toArray⟩ : ByteArray).size = (Go.Lib.join ((strs l).map (·.data.toList)) (⟨#[44]⟩ : ByteArray).data.toList).length := rfl
  rw [e1, e2]
  omega
theorem bread_eq (t : ByteArray) (h : t.size ≤ 140737488355328) : bits_Read.f t = some (BR.readM t) := by
  unfold bits_Read.f
  rw [if_pos h]
theorem mod_bit (x i : Nat) : x % 2 ^ (i + 1) = x % 2 ^ i + (if x.testBit i = true then 2 ^ i else 0) := by
  have := mod_step x i
  rw [this]
  cases x.testBit i <;> simp
theorem bits_from (s : Nat) : ∀ (r i : Nat), i + r ≤ 64 →
    ofV (((List.range' i r).filter fun j => s.testBit j).map fun (j : Nat) => (j : Int)) (s % 2 ^ i) = (((s % 2 ^ (i + r) : Nat) : Int), 0)
    ∧ s % 2 ^ i + BR.sum2 (((List.range' i r).filter fun j => s.testBit j).map fun (j : Nat) => (j : Int)) = s % 2 ^ (i + r)
    ∧ ∀ last : Int, last < i → BR.Up last (((List.range' i r).filter fun j => s.testBit j).map fun (j : Nat) => (j : Int))
  | 0, i, h => by
    simp [ofV, BR.sum2, BR.Up]
  | r + 1, i, h => by
    obtain ⟨h1, h2, h3⟩ := bits_from s r (i + 1) (by omega)
    rw [List.range'_succ]
    have e : i + 1 + r = i + (r + 1) := by omega
    rw [e] at h1 h2
    have hm := mod_bit s i
    by_cases hb : s.testBit i = true
    · rw [if_pos hb] at hm
      rw [List.filter_cons_of_pos (p := fun j => s.testBit j) (a := i) hb, List.map_cons]
      have hlow : (s % 2 ^ i).testBit i = false := Nat.testBit_lt_two_pow (Nat.mod_lt _ (Nat.two_pow_pos i))
      refine ⟨?_, ?_, fun last hl => ⟨hl, by omega, h3 i (by omega)⟩⟩
      · unfold ofV
        rw [if_neg (by omega), if_neg (by omega), Int.toNat_natCast, or_clear _ _ hlow, ← hm]
        exact h1
      · unfold BR.sum2
        rw [Int.toNat_natCast]
        omega
    · have hm' : s % 2 ^ (i + 1) = s % 2 ^ i := by rw [hm, if_neg hb, Nat.add_zero]
      rw [hm'] at h1 h2
      rw [List.filter_cons_of_neg (p := fun j => s.testBit j) (a := i) hb]
      exact ⟨h1, h2, fun last hl => h3 last (by omega)⟩
theorem bits_back (s : Nat) (hs : s < 18446744073709551616) : ofV (bl s) 0 = ((s : Int), 0) ∧ BR.sum2 (bl s) = s ∧ BR.Up (-1) (bl s) := by
  obtain ⟨h1, h2, h3⟩ := bits_from s 64 0 (by omega)
  have hmod : s % 2 ^ (0 + 64) = s := Nat.mod_eq_of_lt (by simpa using hs)
  rw [Nat.pow_zero, Nat.mod_one] at h1 h2
  rw [hmod] at h1 h2
  rw [Nat.zero_add] at h2
  unfold bl
  rw [List.range_eq_range']
  exact ⟨h1, h2, h3 (-1) (by omega)⟩
theorem textB_txt (s : Nat) : textB s = (⟨(BR.txt (bl s)).toArray⟩ : ByteArray) := by
  apply ba_ext
  rw [textB_head]
  unfold headB BR.txt
  rw [BR.enc_join]
  have e : (strs (bl s)).map (·.data.toList) = (bl s).map fun x => Go.Lib.decDigits x.toNat := by
    unfold strs
    rw [List.map_map]
    refine List.map_congr_left fun x hx => ?_
    have := bl_range s x hx
    show (numS x).data.toList = _
    unfold numS Go.Lib.itoa
    rw [if_neg (by omega)]
  rw [e]
  simp
theorem BitsBack (s : Nat) (hs : s < 18446744073709551616) : Ev (fun k => stackyardlaw01_BitsBack.f k (s : Int)) true := by
  unfold stackyardlaw01_BitsBack.f
  obtain ⟨h1, h2, h3⟩ := bits_back s hs
  have hlen := bl_length s
  have hz : (textB s).size ≤ 140737488355328 := by
    have := headB_size (bl s) hlen (bl_range s)
    rw [textB_head, ByteArray.size_append]
    have e1 : (⟨#[125]⟩ : ByteArray).size = 1 := rfl
    omega
  have hr : bits_Read.f (textB s) = some ((s : Int), 0, 0) := by
    rw [bread_eq _ hz, textB_txt, BR.read_txt _ h3, h2]
  have ho := of_ev (bl s) (by omega)
  rw [h1] at ho
  refine Ev.bind (g := fun _ => bits_List.f (s : Int)) ⟨0, fun _ _ => list_eq s hs⟩ ?_
  refine Ev.bind ho ?_
  refine Ev.bind (g := fun _ => bits_Text.f (s : Int)) ⟨0, fun _ _ => text_eq s hs⟩ ?_
  refine Ev.bind (g := fun _ => bits_Read.f (textB s)) ⟨0, fun _ _ => hr⟩ ?_
  simp only [if_true]
  refine Ev.bind (g := fun _ => bits_List.f (s : Int)) ⟨0, fun _ _ => list_eq s hs⟩ ?_
  refine Ev.bind (g := fun _ => bits_Count.f (s : Int)) ⟨0, fun _ _ => count_eq s hs⟩ ?_
  simp only [if_true]
  exact Ev.bind alive_ev (Ev.now _)
end Go.Proofs.YtpaikjnmopkekaaDoor.BitA
