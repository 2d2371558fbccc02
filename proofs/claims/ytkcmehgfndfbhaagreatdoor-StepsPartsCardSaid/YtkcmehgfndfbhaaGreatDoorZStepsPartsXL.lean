/- XL, for the statement StepsParts: what it needs, no more. -/
import Derived.Test.YtkcmehgfndfbhaaGreatDoorZStepsPartsXJ
namespace Go.Proofs.YtkcmehgfndfbhaaGreatDoor.Iter
open Go.RowKit Go.Shelf
attribute [local go_sem] Oper.semAt_some
set_option linter.unusedVariables false
set_option linter.unusedSimpArgs false
def numB (i : Int) : List UInt8 := Lib.decDigits i.toNat
def confB (l : List Int) : List UInt8 := l.flatMap fun s => 32 :: numB s
def confBytes (p : Int) (l : List Int) : List UInt8 := numB p ++ confB l
theorem confB_snoc (l : List Int) (x : Int) : confB (l ++ [x]) = confB l ++ 32 :: numB x := by simp [confB]
theorem confB_len (l : List Int) (h : ∀ x ∈ l, (numB x).length ≤ 20) : (confB l).length ≤ 21 * l.length := by
  induction l with
  | nil => simp [confB]
  | cons x l ih =>
    have h1 := h x (.head _)
    have h2 := ih fun y hy => h y (.tail _ hy)
    have : confB (x :: l) = (32 :: numB x) ++ confB l := by simp [confB]
    rw [this]; simp; omega
theorem cell_b {w w' : World} {b o : Nat} {v : Value} (h : w.cell? ⟨b, o, none⟩ = some v) (hb : Below w.heap.size w w') : w'.cell? ⟨b, o, none⟩ = some v := by
  have hlt : b < w.heap.size := by
    unfold World.cell? at h
    cases hx : w.heap[b]? with
    | none => rw [hx] at h; simp at h
    | some ob => exact (Array.getElem?_eq_some_iff.1 hx).1
  rw [← h]
  unfold World.cell?
  rw [hb.block _ hlt]
def iv : Value → Nat
  | .int _ i => i.toNat
  | _ => 0
theorem str_sum (x : List UInt8) : (⟨#[32]⟩ : ByteArray) ++ ⟨x.toArray⟩ = ⟨(32 :: x).toArray⟩ := by
  apply ByteArray.ext
  simp
theorem grownJ {w w' : World} (h : Below w.heap.size w w') : w.grownBy w' none := ⟨h.os, h.tape, h.output, h.size, fun k hk _ => h.block k hk⟩
theorem keptJ {T e : TypeId} {B b : Nat} {p : Value} {bs : List Value} {w w' : World} (h : Lib.BuilderAt T e B b p bs w) (hb : Below w.heap.size w w') : Lib.BuilderAt T e B b p bs w' := by
  obtain ⟨h1, v, h2, h3, h4⟩ := h
  exact ⟨h1, v, (hb.block b (Array.getElem?_eq_some_iff.1 h2).1).trans h2, h3.kept (grownJ hb) (by by_cases h : v.ownBlock = none; exact .inl h; exact .inr h), h4⟩
set_option maxRecDepth 100000 in
set_option maxHeartbeats 4000000 in
theorem Text_calls (Num : Int → Prop) (p : Int) (l : List Int) (ad : Option Addr) (cap : Nat) (w : World) (hN : ∀ i, Num i → (numB i).length ≤ 20)
    (hI : ∀ (i : Int) (W : World), Num i → Below w.heap.size w W → Calls Tryz.prog 58 #[.int .i64 i] W fun e W' => e = .returned (.string ⟨(numB i).toArray⟩) ∧ Below W.heap.size W W')
    (hp : Num p) (hl : ∀ x ∈ l, Num x) (hlen : l.length ≤ 1000000)
    (hc : ∀ (j : Nat) (x : Int), l[j]? = some x → ∃ b o, ad = some ⟨b, o, none⟩ ∧ w.cell? ⟨b, o + j, none⟩ = some (.int .i64 x)) :
    Calls Tryz.prog 38 #[.agg #[.int .i64 p, .slice ad l.length cap]] w fun e w' => e = .returned (.string ⟨(confBytes p l).toArray⟩) ∧ Below w.heap.size w w' := by
  go_enter Tryz.func38, Tryz.ntmps38
  obtain ⟨w0, hw0⟩ : ∃ w0, w0 = w.alloc (.cells #[.int .i64 p, .slice ad l.length cap] 31) := ⟨_, rfl⟩
  have hz0 : w0.heap.size = w.heap.size + 1 := by rw [hw0]; simp
  have hbx0 : w0.heap[w.heap.size]? = some (.cells #[.int .i64 p, .slice ad l.length cap] 31 (0, 0)) := by rw [hw0]; exact World.alloc_heap_new _ _
  have hB0 : Below w.heap.size w w0 := by rw [hw0]; exact (Below.refl _ w).alloc (Nat.le_refl _) _
  have hbld : Lib.IsBuilder tB 5 (w.heap.size + 1) (w.heap.size + 1) [] (w0.alloc (.cells #[.pointer none, .slice none 0 0] tB)) :=
    .inl ⟨by omega, .slice none 0 0, by rw [← hz0]; exact World.alloc_heap_new _ _, World.ownsRow_nil _ _ _ _, by simp [Value.ownBlock]⟩
  have hB1 : Below (w.heap.size + 1) w0 (w0.alloc (.cells #[.pointer none, .slice none 0 0] tB)) := (Below.refl _ w0).alloc (by omega) _
  have hB1z : w.heap.size + 1 ≤ (w0.alloc (.cells #[.pointer none, .slice none 0 0] tB)).heap.size := by simp; omega
  have box : ∀ W, Below (w.heap.size + 1) w0 W → W.cell? ⟨w.heap.size, 0, none⟩ = some (.int .i64 p) ∧ W.cell? ⟨w.heap.size, 1, none⟩ = some (.slice ad l.length cap) := fun W hW => by
    have := (hW.block w.heap.size (by omega)).trans hbx0
    exact ⟨by rw [Lib.cell_of_heap this]; rfl, by rw [Lib.cell_of_heap this]; rfl⟩
  have low : ∀ W, Below (w.heap.size + 1) w0 W → Below w.heap.size w W := fun W hW => hB0.trans (hW.mono (by omega))
  obtain ⟨bx0, bx1⟩ := box _ hB1
  subst hw0
  go_wp2_with (first
    | (go_at_call 58; refine (hI p _ hp (low _ hB1)).mono ?_; rintro e W1 ⟨rfl, hb1⟩; have hbl1 : Lib.IsBuilder tB 5 (w.heap.size + 1) (w.heap.size + 1) [] W1 := hbld.elim (fun h => .inl (keptJ h hb1)) (fun h => .inr (keptJ h hb1)); have hB2 := hB1.trans (hb1.mono hB1z))
    | (go_at_call 57; refine (WriteString_at (w.heap.size + 1) (w.heap.size + 1) [] _ _ hbl1 (by have := hN p hp; show 0 + (numB p).toArray.size ≤ _; simp; omega) (by have := hB2.size; rw [hz0] at this; exact this)).mono ?_; rintro e W2 ⟨rfl, hbl2, hb2⟩; have hB3 := hB2.trans hb2; obtain ⟨cx0, cx1⟩ := box _ hB3))
  go_loopw [13] (fun v W => ∃ i : Nat, v = .int .i64 i ∧ i ≤ l.length ∧ Lib.BuilderAt tB 5 (w.heap.size + 1) (w.heap.size + 1) (.pointer (some ⟨w.heap.size + 1, 0, none⟩)) (Lib.byteCells (numB p ++ confB (l.take i))) W ∧ Below (w.heap.size + 1) (w.alloc (.cells #[.int .i64 p, .slice ad l.length cap] 31)) W) (fun v _ => l.length - iv v)
  case atStart => exact ⟨0, rfl, Nat.zero_le _, by simpa [confB, Lib.byteCells, Lib.strCells] using hbl2, hB3⟩
  case round =>
    obtain ⟨i, rfl, hi, hbl, hB⟩ := hrel
    have hzW : w.heap.size + 1 ≤ wr.heap.size := by have := hB.size; rw [hz0] at this; exact this
    by_cases hlt : i < l.length
    · have hget : l[i]? = some l[i] := List.getElem?_eq_getElem hlt
      obtain ⟨b, o, rfl, hcell⟩ := hc i _ hget
      have hcW := cell_b hcell (low _ hB)
      have hmem : l[i] ∈ l := List.getElem_mem hlt
      have hd : decide ((i : Int) < (l.length : Int)) = true := decide_eq_true (by omega)
      have hw : wrap64 ((i : Int) + 1) = ((i + 1 : Nat) : Int) := by unfold wrap64; omega
      have hln := confB_len (l.take i) (fun x hx => hN x (hl x (List.mem_of_mem_take hx)))
      have hpn := hN p hp
      have hxn := hN _ (hl _ hmem)
      have htk : (l.take i).length ≤ 1000000 := by simp; omega
      go_wp2_with (first
        | (go_at_call 58; refine (hI _ _ (hl _ hmem) (low _ hB)).mono ?_; rintro e W3 ⟨rfl, hb3⟩; have hbl3 := keptJ hbl hb3; have hB4 := hB.trans (hb3.mono hzW))
        | (go_at_call 57; refine (WriteString_at (w.heap.size + 1) (w.heap.size + 1) _ _ _ (.inr hbl3) (by rw [str_sum]; show _ + (32 :: numB l[i]).toArray.size ≤ _; simp [Lib.byteCells]; omega) (by have := hB4.size; rw [hz0] at this; exact this)).mono ?_; rintro e W4 ⟨rfl, hbl4, hb4⟩; have hB5 := hB4.trans hb4))
      go_roundw
      case rel =>
        refine ⟨i + 1, by simp, by omega, ?_, hB5⟩
        rw [str_sum, show Lib.strCells ⟨(32 :: numB l[i]).toArray⟩ = Lib.byteCells (32 :: numB l[i]) from rfl] at hbl4
        have e : Lib.byteCells (numB p ++ confB (l.take (i + 1))) = Lib.byteCells (numB p ++ confB (l.take i)) ++ Lib.byteCells (32 :: numB l[i]) := by
          rw [List.take_add_one, hget, Option.toList_some, confB_snoc]
          simp [Lib.byteCells]
        rw [e]; exact hbl4
      case measure =>
        simp [iv]
        omega
    · have he : i = l.length := by omega
      subst he
      have hd : decide ((l.length : Int) < (l.length : Int)) = false := decide_eq_false (by omega)
      rw [List.take_length] at hbl
      go_wp2_with (go_at_call 59; refine (Tryz.Builder_String_any (w.heap.size + 1) (w.heap.size + 1) _ _ (.inr hbl) hzW).mono ?_; rintro e W3 ⟨rfl, hb3⟩)
      go_ret
      exact ⟨rfl, low _ (hB.trans hb3)⟩
end Go.Proofs.YtkcmehgfndfbhaaGreatDoor.Iter
