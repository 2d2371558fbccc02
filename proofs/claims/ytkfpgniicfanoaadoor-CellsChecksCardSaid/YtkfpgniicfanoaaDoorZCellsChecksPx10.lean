/- Px10, for the statement CellsChecks: what it needs, no more. -/
import Derived.Test.YtkfpgniicfanoaaDoorZCellsChecksPx0
import Derived.Test.YtkfpgniicfanoaaDoorZCellsChecksPx4
import Derived.Test.YtkfpgniicfanoaaDoorZCellsChecksPx7
import Derived.Test.YtkfpgniicfanoaaDoorZCellsChecksPx9
-- Written by a program of this session (wip/print/patch_print.py over the kit's printer) out of the translation: functions and contracts. Lean checks it.
namespace Go.Proofs.YtkfpgniicfanoaaDoor.P
open Go.RowKit Go.Proofs.YtkfpgniicfanoaaDoorW.PrintWords Go.Proofs.YtkfpgniicfanoaaDoorW.PrintLast Go.Proofs.YtkfpgniicfanoaaDoorW.PrintMore
attribute [local go_sem] max2_int min2_int max_two min_two max_three min_three max_four min_four   -- for this text's walks alone
set_option linter.unusedVariables false
set_option linter.unusedSimpArgs false
def stackyardref04_one.l0 : Nat → ByteArray → Int → Int → Int → Int → Option (ByteArray)
  | 0, _, _, _, _, _ => none
  | k + 1, x3, x4, x292000, x292001, x292002 => if x4 < 64 then ((stackyardref04_Has.f x292000 x4).bind fun t292 => (if t292 = true then (if x3.size + 2 ≤ 9223372036854775807 then ((strconv_Itoa.f x4).bind fun t293 => (if x3.size + 2 + t293.size ≤ 9223372036854775807 then (stackyardref04_one.l0 k ((x3 ++ (⟨#[124, 120]⟩ : ByteArray)) ++ t293) (wrap64 (x4 + 1)) x292000 x292001 x292002) else (none))) else (none)) else (stackyardref04_one.l0 k x3 (wrap64 (x4 + 1)) x292000 x292001 x292002))) else (if x292001 = 1 then (if x3.size + 1 ≤ 9223372036854775807 then ((strconv_FormatInt.f x292002 10).bind fun t294 => (if x3.size + 1 + t294.size ≤ 9223372036854775807 then (if ((x3 ++ (⟨#[124]⟩ : ByteArray)) ++ t294).toList = ([] : List UInt8) then (some (⟨#[45]⟩ : ByteArray)) else (if 1 ≤ (((x3 ++ (⟨#[124]⟩ : ByteArray)) ++ t294).size : Int) then (some (((x3 ++ (⟨#[124]⟩ : ByteArray)) ++ t294).extract 1 ((x3 ++ (⟨#[124]⟩ : ByteArray)) ++ t294).size)) else (none))) else (none))) else (none)) else (if x292001 = 2 then (if x3.size + 2 ≤ 9223372036854775807 then (if (x3 ++ (⟨#[124, 42]⟩ : ByteArray)).toList = ([] : List UInt8) then (some (⟨#[45]⟩ : ByteArray)) else (if 1 ≤ ((x3 ++ (⟨#[124, 42]⟩ : ByteArray)).size : Int) then (some ((x3 ++ (⟨#[124, 42]⟩ : ByteArray)).extract 1 (x3 ++ (⟨#[124, 42]⟩ : ByteArray)).size)) else (none))) else (none)) else (if x3.toList = ([] : List UInt8) then (some (⟨#[45]⟩ : ByteArray)) else (if 1 ≤ (x3.size : Int) then (some (x3.extract 1 x3.size)) else (none)))))
def stackyardref04_one.f (k : Nat) (a0_0 : Int) (a0_1 : Int) (a0_2 : Int) : Option (ByteArray) := stackyardref04_one.l0 k (⟨#[]⟩ : ByteArray) 0 a0_0 a0_1 a0_2
set_option maxHeartbeats 8000000 in
set_option maxRecDepth 100000 in
theorem stackyardref04_one.calls (k : Nat) (a0_0 : Int) (a0_1 : Int) (a0_2 : Int) (r : ByteArray) (w : World) (hG : Glob w) (h : stackyardref04_one.f k a0_0 a0_1 a0_2 = some r) :
    Calls Tryd.prog 46 #[.agg #[.int .u64 a0_0, .int .i64 a0_1, .int .i64 a0_2]] w fun e w' => e = .returned (.string r) ∧ Below w.heap.size w w' := by
  have hu34 := Tryd.underlying34
  have HG := Aside0.mk hG
  clear hG
  have HB := Aside0.mk (Below.refl w.heap.size w)
  have H : (stackyardref04_one.l0 k (⟨#[]⟩ : ByteArray) 0 a0_0 a0_1 a0_2) = some r := h
  clear h
  have H' := Aside0.mk H
  clear H
  go_enter Tryd.func46, Tryd.ntmps46
  go_wp2_with (first | ((with_reducible refine gate_dst (N := 1) rfl ?_); refine box_event ?hg (N := 1) ?hd (cs := #[.int .u64 a0_0, .int .i64 a0_1, .int .i64 a0_2]) (t := 34) ?hr ?_; (case hd => rfl); (case hg => rfl); (case hr => first | (go_simp; done) | (go_simp; rfl)); intro gb291 hg w2 hbox hb; have n0_ := Aside0.mk (below_step (by repeat (first | (with_reducible first | exact HB.out | apply below_alloc | apply pw_below_drewN | apply below_drew1) | exact HB.out)) hb); have n1_ := Aside0.mk (hbox); have n2_ := Aside0.mk ((by rw [hg]; exact (below_size (by repeat (first | (with_reducible first | exact HB.out | apply below_alloc | apply pw_below_drewN | apply below_drew1) | exact HB.out))) : w.heap.size ≤ gb291)); have n3_ := Aside0.mk ((by rw [hg]; exact (below_size (by repeat (first | (with_reducible first | exact HB.out | apply below_alloc | apply pw_below_drewN | apply below_drew1) | exact HB.out))) : w.heap.size ≤ gb291)); clear HB; have HB := n0_; have BK291 := n1_; have GW291 := n2_; have GE291 := n3_; clear n0_ n1_ n2_ n3_; clear hb hbox hg))
  go_loopg [3, 4] k (fun kq v3 v4 w' => ∃ (x3_1 : ByteArray) (x4_1 : Int), v3 = .string x3_1 ∧ v4 = .int .i64 x4_1 ∧ Aside0 (stackyardref04_one.l0 kq x3_1 x4_1 a0_0 a0_1 a0_2 = some r) ∧ Aside0 (kq ≤ k) ∧ Aside0 (w'.heap[gb291]? = some (.cells #[.int .u64 a0_0, .int .i64 a0_1, .int .i64 a0_2] 34 (0, 0))) ∧ Aside0 (Below w.heap.size w w'))
  case atStart => exact ⟨((⟨#[]⟩ : ByteArray)), (0), (by first | rfl | (simp; done) | (simp [*]; done)), (by first | rfl | (simp; done) | (simp [*]; done)), H', ⟨Nat.le_refl _⟩, ⟨by (with_reducible repeat (first | refine blk_drewN ?_ _ | refine blk_drew ?_ | refine blk_alloc ?_ _)); exact BK291.out⟩, ⟨by repeat (first | (with_reducible first | exact HB.out | apply below_alloc | apply pw_below_drewN | apply below_drew1 | refine below_set ?_ GE291.out) | exact HB.out)⟩⟩
  case round =>
    clear H'
    try clear p2
    obtain ⟨x3_1, x4_1, rfl, rfl, HA, HK1, BK291, HB⟩ := hrel
    cases gk with
    | zero => exact absurd HA.out (by simp [stackyardref04_one.l0])
    | succ k1 =>
      have H := HA.out
      clear HA
      simp only [stackyardref04_one.l0] at H
      by_cases c3 : x4_1 < 64
      · rw [if_pos c3] at H
        have c3b0 : decide (x4_1 < 64) = true := decide_eq_true c3
        clear c3
        replace H := Option.bind_eq_some_iff.mp H
        obtain ⟨t292, A40, H⟩ := H
        replace H : (if t292 = true then (if x3_1.size + 2 ≤ 9223372036854775807 then ((strconv_Itoa.f x4_1).bind fun t293 => (if x3_1.size + 2 + t293.size ≤ 9223372036854775807 then (stackyardref04_one.l0 k1 ((x3_1 ++ (⟨#[124, 120]⟩ : ByteArray)) ++ t293) (wrap64 (x4_1 + 1)) a0_0 a0_1 a0_2) else (none))) else (none)) else (stackyardref04_one.l0 k1 x3_1 (wrap64 (x4_1 + 1)) a0_0 a0_1 a0_2)) = some r := H
        have A4 := Aside0.mk A40
        clear A40
        by_cases c5 : t292 = true
        · subst c5
          have H1 : (if x3_1.size + 2 ≤ 9223372036854775807 then ((strconv_Itoa.f x4_1).bind fun t293 => (if x3_1.size + 2 + t293.size ≤ 9223372036854775807 then (stackyardref04_one.l0 k1 ((x3_1 ++ (⟨#[124, 120]⟩ : ByteArray)) ++ t293) (wrap64 (x4_1 + 1)) a0_0 a0_1 a0_2) else (none))) else (none)) = some r := by rw [if_pos rfl] at H; exact H
          clear H
          have H := H1
          clear H1
          by_cases c6 : x3_1.size + 2 ≤ 9223372036854775807
          · rw [if_pos c6] at H
            have c6b0 := eq_true c6
            have c6b1 : decide (x3_1.size + 2 ≤ 9223372036854775807) = true := decide_eq_true c6
            try have c6b2 : (9223372036854775807 < x3_1.size + 2) = False := eq_false (Nat.not_lt.2 c6)
            replace H := Option.bind_eq_some_iff.mp H
            obtain ⟨t293, A70, H⟩ := H
            replace H : (if x3_1.size + 2 + t293.size ≤ 9223372036854775807 then (stackyardref04_one.l0 k1 ((x3_1 ++ (⟨#[124, 120]⟩ : ByteArray)) ++ t293) (wrap64 (x4_1 + 1)) a0_0 a0_1 a0_2) else (none)) = some r := H
            have A7 := Aside0.mk A70
            clear A70
            by_cases c8 : x3_1.size + 2 + t293.size ≤ 9223372036854775807
            · rw [if_pos c8] at H
              have c8b0 := eq_true c8
              have c8b1 : decide (x3_1.size + 2 + t293.size ≤ 9223372036854775807) = true := decide_eq_true c8
              try have c8b2 : (9223372036854775807 < x3_1.size + 2 + t293.size) = False := eq_false (Nat.not_lt.2 c8)
              have H' := Aside0.mk H
              clear H
              have hcz9_0 : wr.cell? ⟨gb291, 0, none⟩ = some (.int .u64 a0_0) := (blk_cell BK291.out 0).trans rfl
              have hcz9_1 : wr.cell? ⟨gb291, 1, none⟩ = some (.int .i64 a0_1) := (blk_cell BK291.out 1).trans rfl
              have hcz9_2 : wr.cell? ⟨gb291, 2, none⟩ = some (.int .i64 a0_2) := (blk_cell BK291.out 2).trans rfl
              have hfz9_0 := blk_frozen BK291.out 0
              have hfz9_1 := blk_frozen BK291.out 1
              have hfz9_2 := blk_frozen BK291.out 2
              go_wp2_with (first | ((with_reducible refine gate_callee (f := 58) rfl ?_); refine goesL_ (some 12) rfl rfl Tryd.func58 (by kernel_rfl) rfl #[.int .u64 a0_0, .int .i64 x4_1] rfl (by (try simp only [List.map_toArray, List.map_cons, List.map_nil]); first | done | rfl | (simp only [List.length_drop, List.length_take]; rfl)) ?_; (with_reducible refine (stackyardref04_Has.calls a0_0 x4_1 true _ A4.out).mono ?_); rintro e w' ⟨rfl, ⟨nd, rfl⟩⟩; refine ⟨_, rfl, ?_⟩) | ((with_reducible refine gate_callee (f := 59) rfl ?_); refine goesL_ (some 16) rfl rfl Tryd.func59 (by kernel_rfl) rfl #[.int .i64 x4_1] rfl (by (try simp only [List.map_toArray, List.map_cons, List.map_nil]); first | done | rfl | (simp only [List.length_drop, List.length_take]; rfl)) ?_; (with_reducible refine (strconv_Itoa.calls x4_1 t293 _ ?side1 A7.out).mono ?_); (case side1 => exact Glob.below HG.out (by repeat (first | (with_reducible first | exact HB.out | apply below_alloc | apply pw_below_drewN | apply below_drew1 | refine below_set ?_ GE291.out) | exact HB.out))); rintro e w10 ⟨rfl, hb⟩; refine ⟨_, rfl, ?_⟩; have n0_ := Aside0.mk (blk_below (g := gb291) (o := .cells #[.int .u64 a0_0, .int .i64 a0_1, .int .i64 a0_2] 34 (0, 0)) (by (with_reducible repeat (first | refine blk_drewN ?_ _ | refine blk_drew ?_ | refine blk_alloc ?_ _)); exact BK291.out) hb); have n1_ := Aside0.mk (below_step (by repeat (first | (with_reducible first | exact HB.out | apply below_alloc | apply pw_below_drewN | apply below_drew1 | refine below_set ?_ GE291.out) | exact HB.out)) hb); clear BK291; clear HB; have BK291 := n0_; have HB := n1_; clear n0_ n1_; (try clear hb); (try clear hb2); (try clear hk); (try clear hi)))
              go_roundg k1
              case measure => have := HK1.out; omega
              case rel => exact ⟨((x3_1 ++ (⟨#[124, 120]⟩ : ByteArray)) ++ t293), (wrap64 (x4_1 + 1)), (by first | rfl | (simp; done) | (simp [*]; done)), (by first | rfl | (simp; done) | (simp [*]; done)), H', ⟨by have := HK1.out; omega⟩, ⟨by (with_reducible repeat (first | refine blk_drewN ?_ _ | refine blk_drew ?_ | refine blk_alloc ?_ _)); exact BK291.out⟩, ⟨by repeat (first | (with_reducible first | exact HB.out | apply below_alloc | apply pw_below_drewN | apply below_drew1 | refine below_set ?_ GE291.out) | exact HB.out)⟩⟩
            · rw [if_neg c8] at H
              exact absurd H (by simp)
          · rw [if_neg c6] at H
            exact absurd H (by simp)
        · replace c5 := Bool.eq_false_iff.mpr c5
          subst c5
          have H1 : (stackyardref04_one.l0 k1 x3_1 (wrap64 (x4_1 + 1)) a0_0 a0_1 a0_2) = some r := by rw [if_neg (show ¬ (false = true) by decide)] at H; exact H
          clear H
          have H := H1
          clear H1
          have H' := Aside0.mk H
          clear H
          have hcz11_0 : wr.cell? ⟨gb291, 0, none⟩ = some (.int .u64 a0_0) := (blk_cell BK291.out 0).trans rfl
          have hcz11_1 : wr.cell? ⟨gb291, 1, none⟩ = some (.int .i64 a0_1) := (blk_cell BK291.out 1).trans rfl
          have hcz11_2 : wr.cell? ⟨gb291, 2, none⟩ = some (.int .i64 a0_2) := (blk_cell BK291.out 2).trans rfl
          have hfz11_0 := blk_frozen BK291.out 0
          have hfz11_1 := blk_frozen BK291.out 1
          have hfz11_2 := blk_frozen BK291.out 2
          go_wp2_with (first | ((with_reducible refine gate_callee (f := 58) rfl ?_); refine goesL_ (some 12) rfl rfl Tryd.func58 (by kernel_rfl) rfl #[.int .u64 a0_0, .int .i64 x4_1] rfl (by (try simp only [List.map_toArray, List.map_cons, List.map_nil]); first | done | rfl | (simp only [List.length_drop, List.length_take]; rfl)) ?_; (with_reducible refine (stackyardref04_Has.calls a0_0 x4_1 false _ A4.out).mono ?_); rintro e w' ⟨rfl, ⟨nd, rfl⟩⟩; refine ⟨_, rfl, ?_⟩))
          go_roundg k1
          case measure => have := HK1.out; omega
          case rel => exact ⟨(x3_1), (wrap64 (x4_1 + 1)), (by first | rfl | (simp; done) | (simp [*]; done)), (by first | rfl | (simp; done) | (simp [*]; done)), H', ⟨by have := HK1.out; omega⟩, ⟨by (with_reducible repeat (first | refine blk_drewN ?_ _ | refine blk_drew ?_ | refine blk_alloc ?_ _)); exact BK291.out⟩, ⟨by repeat (first | (with_reducible first | exact HB.out | apply below_alloc | apply pw_below_drewN | apply below_drew1 | refine below_set ?_ GE291.out) | exact HB.out)⟩⟩
      · rw [if_neg c3] at H
        have c3b0 : decide (x4_1 < 64) = false := decide_eq_false c3
        clear c3
        by_cases c12 : a0_1 = 1
        · rw [if_pos c12] at H
          have c12b0 : (a0_1 == 1) = true := beq_iff_eq.mpr c12
          have c12b1 : (a0_1 != 1) = false := bne_eq_false_iff_eq.mpr c12
          clear c12
          by_cases c13 : x3_1.size + 1 ≤ 9223372036854775807
          · rw [if_pos c13] at H
            have c13b0 := eq_true c13
            have c13b1 : decide (x3_1.size + 1 ≤ 9223372036854775807) = true := decide_eq_true c13
            try have c13b2 : (9223372036854775807 < x3_1.size + 1) = False := eq_false (Nat.not_lt.2 c13)
            replace H := Option.bind_eq_some_iff.mp H
            obtain ⟨t294, A140, H⟩ := H
            replace H : (if x3_1.size + 1 + t294.size ≤ 9223372036854775807 then (if ((x3_1 ++ (⟨#[124]⟩ : ByteArray)) ++ t294).toList = ([] : List UInt8) then (some (⟨#[45]⟩ : ByteArray)) else (if 1 ≤ (((x3_1 ++ (⟨#[124]⟩ : ByteArray)) ++ t294).size : Int) then (some (((x3_1 ++ (⟨#[124]⟩ : ByteArray)) ++ t294).extract 1 ((x3_1 ++ (⟨#[124]⟩ : ByteArray)) ++ t294).size)) else (none))) else (none)) = some r := H
            have A14 := Aside0.mk A140
            clear A140
            by_cases c15 : x3_1.size + 1 + t294.size ≤ 9223372036854775807
            · rw [if_pos c15] at H
              have c15b0 := eq_true c15
              have c15b1 : decide (x3_1.size + 1 + t294.size ≤ 9223372036854775807) = true := decide_eq_true c15
              try have c15b2 : (9223372036854775807 < x3_1.size + 1 + t294.size) = False := eq_false (Nat.not_lt.2 c15)
              by_cases c16 : ((x3_1 ++ (⟨#[124]⟩ : ByteArray)) ++ t294).toList = ([] : List UInt8)
              · rw [if_pos c16] at H
                have c16b0 : (((x3_1 ++ (⟨#[124]⟩ : ByteArray)) ++ t294).toList == ([] : List UInt8)) = true := beq_iff_eq.mpr c16
                have c16b1 : (((x3_1 ++ (⟨#[124]⟩ : ByteArray)) ++ t294).toList != ([] : List UInt8)) = false := bne_eq_false_iff_eq.mpr c16
                clear c16
                obtain rfl := Option.some.inj H
                have hcz17_0 : wr.cell? ⟨gb291, 0, none⟩ = some (.int .u64 a0_0) := (blk_cell BK291.out 0).trans rfl
                have hcz17_1 : wr.cell? ⟨gb291, 1, none⟩ = some (.int .i64 a0_1) := (blk_cell BK291.out 1).trans rfl
                have hcz17_2 : wr.cell? ⟨gb291, 2, none⟩ = some (.int .i64 a0_2) := (blk_cell BK291.out 2).trans rfl
                have hfz17_0 := blk_frozen BK291.out 0
                have hfz17_1 := blk_frozen BK291.out 1
                have hfz17_2 := blk_frozen BK291.out 2
                go_wp2_with (first | ((with_reducible refine gate_callee (f := 60) rfl ?_); refine goesL_ (some 26) rfl rfl Tryd.func60 (by kernel_rfl) rfl #[.int .i64 a0_2, .int .i64 10] rfl (by (try simp only [List.map_toArray, List.map_cons, List.map_nil]); first | done | rfl | (simp only [List.length_drop, List.length_take]; rfl)) ?_; (with_reducible refine (strconv_FormatInt.calls a0_2 10 t294 _ ?side1 A14.out).mono ?_); (case side1 => exact Glob.below HG.out (by repeat (first | (with_reducible first | exact HB.out | apply below_alloc | apply pw_below_drewN | apply below_drew1 | refine below_set ?_ GE291.out) | exact HB.out))); rintro e w18 ⟨rfl, hb⟩; refine ⟨_, rfl, ?_⟩; have n0_ := Aside0.mk (blk_below (g := gb291) (o := .cells #[.int .u64 a0_0, .int .i64 a0_1, .int .i64 a0_2] 34 (0, 0)) (by (with_reducible repeat (first | refine blk_drewN ?_ _ | refine blk_drew ?_ | refine blk_alloc ?_ _)); exact BK291.out) hb); have n1_ := Aside0.mk (below_step (by repeat (first | (with_reducible first | exact HB.out | apply below_alloc | apply pw_below_drewN | apply below_drew1 | refine below_set ?_ GE291.out) | exact HB.out)) hb); clear BK291; clear HB; have BK291 := n0_; have HB := n1_; clear n0_ n1_; (try clear hb); (try clear hb2); (try clear hk); (try clear hi)))
                go_ret
                exact ⟨by first | rfl | (simp [errW_none, errW_some] <;> rfl) | (simp [*, errW_none, errW_some] <;> rfl), by repeat (first | (with_reducible first | exact HB.out | apply below_alloc | apply pw_below_drewN | apply below_drew1 | refine below_set ?_ GE291.out) | exact HB.out)⟩
              · rw [if_neg c16] at H
                have c16b0 : (((x3_1 ++ (⟨#[124]⟩ : ByteArray)) ++ t294).toList == ([] : List UInt8)) = false := beq_eq_false_iff_ne.mpr c16
                have c16b1 : (((x3_1 ++ (⟨#[124]⟩ : ByteArray)) ++ t294).toList != ([] : List UInt8)) = true := bne_iff_ne.mpr c16
                by_cases c19 : 1 ≤ (((x3_1 ++ (⟨#[124]⟩ : ByteArray)) ++ t294).size : Int)
                · rw [if_pos c19] at H
                  have c19b0 := eq_true c19
                  have c19b1 : decide (1 ≤ (((x3_1 ++ (⟨#[124]⟩ : ByteArray)) ++ t294).size : Int)) = true := decide_eq_true c19
                  obtain rfl := Option.some.inj H
                  have hcz20_0 : wr.cell? ⟨gb291, 0, none⟩ = some (.int .u64 a0_0) := (blk_cell BK291.out 0).trans rfl
                  have hcz20_1 : wr.cell? ⟨gb291, 1, none⟩ = some (.int .i64 a0_1) := (blk_cell BK291.out 1).trans rfl
                  have hcz20_2 : wr.cell? ⟨gb291, 2, none⟩ = some (.int .i64 a0_2) := (blk_cell BK291.out 2).trans rfl
                  have hfz20_0 := blk_frozen BK291.out 0
                  have hfz20_1 := blk_frozen BK291.out 1
                  have hfz20_2 := blk_frozen BK291.out 2
                  go_wp2_with (first | ((with_reducible refine gate_callee (f := 60) rfl ?_); refine goesL_ (some 26) rfl rfl Tryd.func60 (by kernel_rfl) rfl #[.int .i64 a0_2, .int .i64 10] rfl (by (try simp only [List.map_toArray, List.map_cons, List.map_nil]); first | done | rfl | (simp only [List.length_drop, List.length_take]; rfl)) ?_; (with_reducible refine (strconv_FormatInt.calls a0_2 10 t294 _ ?side1 A14.out).mono ?_); (case side1 => exact Glob.below HG.out (by repeat (first | (with_reducible first | exact HB.out | apply below_alloc | apply pw_below_drewN | apply below_drew1 | refine below_set ?_ GE291.out) | exact HB.out))); rintro e w21 ⟨rfl, hb⟩; refine ⟨_, rfl, ?_⟩; have n0_ := Aside0.mk (blk_below (g := gb291) (o := .cells #[.int .u64 a0_0, .int .i64 a0_1, .int .i64 a0_2] 34 (0, 0)) (by (with_reducible repeat (first | refine blk_drewN ?_ _ | refine blk_drew ?_ | refine blk_alloc ?_ _)); exact BK291.out) hb); have n1_ := Aside0.mk (below_step (by repeat (first | (with_reducible first | exact HB.out | apply below_alloc | apply pw_below_drewN | apply below_drew1 | refine below_set ?_ GE291.out) | exact HB.out)) hb); clear BK291; clear HB; have BK291 := n0_; have HB := n1_; clear n0_ n1_; (try clear hb); (try clear hb2); (try clear hk); (try clear hi)))
                  go_ret
                  exact ⟨by first | rfl | (simp [errW_none, errW_some] <;> rfl) | (simp [*, errW_none, errW_some] <;> rfl), by repeat (first | (with_reducible first | exact HB.out | apply below_alloc | apply pw_below_drewN | apply below_drew1 | refine below_set ?_ GE291.out) | exact HB.out)⟩
                · rw [if_neg c19] at H
                  exact absurd H (by simp)
            · rw [if_neg c15] at H
              exact absurd H (by simp)
          · rw [if_neg c13] at H
            exact absurd H (by simp)
        · rw [if_neg c12] at H
          have c12b0 : (a0_1 == 1) = false := beq_eq_false_iff_ne.mpr c12
          have c12b1 : (a0_1 != 1) = true := bne_iff_ne.mpr c12
          by_cases c22 : a0_1 = 2
          · rw [if_pos c22] at H
            have c22b0 : (a0_1 == 2) = true := beq_iff_eq.mpr c22
            have c22b1 : (a0_1 != 2) = false := bne_eq_false_iff_eq.mpr c22
            clear c22
            by_cases c23 : x3_1.size + 2 ≤ 9223372036854775807
            · rw [if_pos c23] at H
              have c23b0 := eq_true c23
              have c23b1 : decide (x3_1.size + 2 ≤ 9223372036854775807) = true := decide_eq_true c23
              try have c23b2 : (9223372036854775807 < x3_1.size + 2) = False := eq_false (Nat.not_lt.2 c23)
              by_cases c24 : (x3_1 ++ (⟨#[124, 42]⟩ : ByteArray)).toList = ([] : List UInt8)
              · rw [if_pos c24] at H
                have c24b0 : ((x3_1 ++ (⟨#[124, 42]⟩ : ByteArray)).toList == ([] : List UInt8)) = true := beq_iff_eq.mpr c24
                have c24b1 : ((x3_1 ++ (⟨#[124, 42]⟩ : ByteArray)).toList != ([] : List UInt8)) = false := bne_eq_false_iff_eq.mpr c24
                clear c24
                obtain rfl := Option.some.inj H
                have hcz25_0 : wr.cell? ⟨gb291, 0, none⟩ = some (.int .u64 a0_0) := (blk_cell BK291.out 0).trans rfl
                have hcz25_1 : wr.cell? ⟨gb291, 1, none⟩ = some (.int .i64 a0_1) := (blk_cell BK291.out 1).trans rfl
                have hcz25_2 : wr.cell? ⟨gb291, 2, none⟩ = some (.int .i64 a0_2) := (blk_cell BK291.out 2).trans rfl
                have hfz25_0 := blk_frozen BK291.out 0
                have hfz25_1 := blk_frozen BK291.out 1
                have hfz25_2 := blk_frozen BK291.out 2
                go_wp2
                go_ret
                exact ⟨by first | rfl | (simp [errW_none, errW_some] <;> rfl) | (simp [*, errW_none, errW_some] <;> rfl), by repeat (first | (with_reducible first | exact HB.out | apply below_alloc | apply pw_below_drewN | apply below_drew1 | refine below_set ?_ GE291.out) | exact HB.out)⟩
              · rw [if_neg c24] at H
                have c24b0 : ((x3_1 ++ (⟨#[124, 42]⟩ : ByteArray)).toList == ([] : List UInt8)) = false := beq_eq_false_iff_ne.mpr c24
                have c24b1 : ((x3_1 ++ (⟨#[124, 42]⟩ : ByteArray)).toList != ([] : List UInt8)) = true := bne_iff_ne.mpr c24
                by_cases c26 : 1 ≤ ((x3_1 ++ (⟨#[124, 42]⟩ : ByteArray)).size : Int)
                · rw [if_pos c26] at H
                  have c26b0 := eq_true c26
                  have c26b1 : decide (1 ≤ ((x3_1 ++ (⟨#[124, 42]⟩ : ByteArray)).size : Int)) = true := decide_eq_true c26
                  obtain rfl := Option.some.inj H
                  have hcz27_0 : wr.cell? ⟨gb291, 0, none⟩ = some (.int .u64 a0_0) := (blk_cell BK291.out 0).trans rfl
                  have hcz27_1 : wr.cell? ⟨gb291, 1, none⟩ = some (.int .i64 a0_1) := (blk_cell BK291.out 1).trans rfl
                  have hcz27_2 : wr.cell? ⟨gb291, 2, none⟩ = some (.int .i64 a0_2) := (blk_cell BK291.out 2).trans rfl
                  have hfz27_0 := blk_frozen BK291.out 0
                  have hfz27_1 := blk_frozen BK291.out 1
                  have hfz27_2 := blk_frozen BK291.out 2
                  go_wp2
                  go_ret
                  exact ⟨by first | rfl | (simp [errW_none, errW_some] <;> rfl) | (simp [*, errW_none, errW_some] <;> rfl), by repeat (first | (with_reducible first | exact HB.out | apply below_alloc | apply pw_below_drewN | apply below_drew1 | refine below_set ?_ GE291.out) | exact HB.out)⟩
                · rw [if_neg c26] at H
                  exact absurd H (by simp)
            · rw [if_neg c23] at H
              exact absurd H (by simp)
          · rw [if_neg c22] at H
            have c22b0 : (a0_1 == 2) = false := beq_eq_false_iff_ne.mpr c22
            have c22b1 : (a0_1 != 2) = true := bne_iff_ne.mpr c22
            by_cases c28 : x3_1.toList = ([] : List UInt8)
            · rw [if_pos c28] at H
              have c28b0 : (x3_1.toList == ([] : List UInt8)) = true := beq_iff_eq.mpr c28
              have c28b1 : (x3_1.toList != ([] : List UInt8)) = false := bne_eq_false_iff_eq.mpr c28
              clear c28
              obtain rfl := Option.some.inj H
              have hcz29_0 : wr.cell? ⟨gb291, 0, none⟩ = some (.int .u64 a0_0) := (blk_cell BK291.out 0).trans rfl
              have hcz29_1 : wr.cell? ⟨gb291, 1, none⟩ = some (.int .i64 a0_1) := (blk_cell BK291.out 1).trans rfl
              have hcz29_2 : wr.cell? ⟨gb291, 2, none⟩ = some (.int .i64 a0_2) := (blk_cell BK291.out 2).trans rfl
              have hfz29_0 := blk_frozen BK291.out 0
              have hfz29_1 := blk_frozen BK291.out 1
              have hfz29_2 := blk_frozen BK291.out 2
              go_wp2
              go_ret
              exact ⟨by first | rfl | (simp [errW_none, errW_some] <;> rfl) | (simp [*, errW_none, errW_some] <;> rfl), by repeat (first | (with_reducible first | exact HB.out | apply below_alloc | apply pw_below_drewN | apply below_drew1 | refine below_set ?_ GE291.out) | exact HB.out)⟩
            · rw [if_neg c28] at H
              have c28b0 : (x3_1.toList == ([] : List UInt8)) = false := beq_eq_false_iff_ne.mpr c28
              have c28b1 : (x3_1.toList != ([] : List UInt8)) = true := bne_iff_ne.mpr c28
              by_cases c30 : 1 ≤ (x3_1.size : Int)
              · rw [if_pos c30] at H
                have c30b0 := eq_true c30
                have c30b1 : decide (1 ≤ (x3_1.size : Int)) = true := decide_eq_true c30
                clear c30
                obtain rfl := Option.some.inj H
                have hcz31_0 : wr.cell? ⟨gb291, 0, none⟩ = some (.int .u64 a0_0) := (blk_cell BK291.out 0).trans rfl
                have hcz31_1 : wr.cell? ⟨gb291, 1, none⟩ = some (.int .i64 a0_1) := (blk_cell BK291.out 1).trans rfl
                have hcz31_2 : wr.cell? ⟨gb291, 2, none⟩ = some (.int .i64 a0_2) := (blk_cell BK291.out 2).trans rfl
                have hfz31_0 := blk_frozen BK291.out 0
                have hfz31_1 := blk_frozen BK291.out 1
                have hfz31_2 := blk_frozen BK291.out 2
                go_wp2
                go_ret
                exact ⟨by first | rfl | (simp [errW_none, errW_some] <;> rfl) | (simp [*, errW_none, errW_some] <;> rfl), by repeat (first | (with_reducible first | exact HB.out | apply below_alloc | apply pw_below_drewN | apply below_drew1 | refine below_set ?_ GE291.out) | exact HB.out)⟩
              · rw [if_neg c30] at H
                exact absurd H (by simp)

end Go.Proofs.YtkfpgniicfanoaaDoor.P
