/- RA RB GR, for the statement WeightRing: what it needs, no more. -/
import Derived.Test.YthjbpjpcddegfaaGreatDoorZWeightRingNH
import Derived.Test.YthjbpjpcddegfaaGreatDoorZWeightRingGB
import Derived.ChangeArms
import Derived.DataReads
import Derived.SizedLaws
import Derived.OpenShut
import Derived.WideShapes
import Derived.Below
namespace Go.RM.Read
open Go.RowKit Go.WideShapes Go.ChangeShapes
set_option linter.unusedVariables false
set_option linter.unusedSimpArgs false
def whole (W : World) : Mem := fun c j => match W.heap[c]? with | some (.cells arr _ _) => arr[j]? | _ => none
theorem whole_holds (W : World) : Holds (whole W) W := by
  intro c j v h
  unfold whole at h
  split at h
  · rename_i arr e fr hc; exact ⟨arr, e, fr, hc, h⟩
  · cases h
theorem whole_hr (W : World) : HR (fun _ _ => none) (whole W) [] W where
  mem := whole_holds W
  blk := fun b k h => by simp at h
  sep := fun b b' k k' c cap c' cap' _ h => by simp at h
  dom := fun b n x h => by cases h
theorem whole_cell {W : World} {a : Addr} {v : Value} (h : W.cell? a = some v) : whole W a.block a.off = some v ∧ a.spot = none := by
  unfold World.cell? at h
  unfold whole
  split at h
  · rename_i c e fr hc
    split at h
    · cases h
    · rename_i hs
      rw [hc]; exact ⟨h, by simpa using hs⟩
  · cases h
variable {H : Type} {enc : TypeId × Value → H} {P : Program} {W : World} {t e : TypeId} {α β : Type}
def RdC (W : World) (cs : List Value) (ps : List PV) : Prop := ps.length = cs.length ∧ ∀ (j : Nat) (p : PV) (v : Value), ps[j]? = some p → cs[j]? = some v → Imm (whole W) p v ∧ v.oneCell' = true
theorem RdC.one {v : Value} {p : PV} (h : Imm (whole W) p v) (ho : v.oneCell' = true) : RdC W [v] [p] := by
  refine ⟨rfl, fun j p' v' hp hv => ?_⟩
  cases j with
  | zero => simp at hp hv; subst hp hv; exact ⟨h, ho⟩
  | succ j => simp at hp
theorem RdC.append {cs cs' : List Value} {ps ps' : List PV} (h : RdC W cs ps) (h' : RdC W cs' ps') : RdC W (cs ++ cs') (ps ++ ps') := by
  refine ⟨by simp [h.1, h'.1], fun j p v hp hv => ?_⟩
  rw [List.getElem?_append] at hp hv
  rw [h.1] at hp
  split at hp
  · rename_i hj
    rw [if_pos hj] at hv; exact h.2 j p v hp hv
  · rename_i hj
    rw [if_neg hj] at hv; exact h'.2 _ p v hp hv
def Opens (enc : TypeId × Value → H) (P : Program) (W : World) (t : TypeId) (cf : α → List PV) (fit : α → Prop) (n : Nat) : Prop :=
  ∀ fuel, fuel ≤ n → ∀ cs x, DataW.trod enc P W 0 (fun _ => true) true fuel t cs = some x → (x.1.weights P t).all (· ≤ reachBytes) = true → ∃ a, RdC W cs (cf a) ∧ fit a
theorem opens_int {k : IntKind} (ht : P.underlying t = some (.int k)) (n : Nat) : Opens enc P W t (cInt k) (fun a => (Lit.int k a).wf = true) n := by
  intro fuel _ cs x h _
  obtain ⟨z, rfl, rfl, hw⟩ := DataW.trod_int ht h
  exact ⟨z, .one (.val _) rfl, hw⟩
theorem opens_bool (ht : P.underlying t = some .bool) (n : Nat) : Opens enc P W t cBool (fun _ => True) n := by
  intro fuel _ cs x h _
  obtain ⟨z, rfl, rfl⟩ := DataW.trod_bool ht h
  exact ⟨z, .one (.val _) rfl, trivial⟩
theorem exists_list {p : Nat → α → Prop} : ∀ (n : Nat), (∀ i, i < n → ∃ a, p i a) → ∃ l : List α, l.length = n ∧ ∀ i a, l[i]? = some a → p i a
  | 0, _ => ⟨[], rfl, fun i a h => by simp at h⟩
  | n + 1, h => by
    obtain ⟨l, hl, hp⟩ := exists_list n (fun i hi => h i (by omega))
    obtain ⟨a, ha⟩ := h n (by omega)
    refine ⟨l ++ [a], by simp [hl], fun i b hb => ?_⟩
    by_cases hi : i < l.length
    · rw [List.getElem?_append_left hi] at hb
      exact hp i b hb
    · have hlen : i < (l ++ [a]).length := (List.getElem?_eq_some_iff.1 hb).1
      have : i = n := by simp at hlen; omega
      subst this
      rw [List.getElem?_append_right (by omega)] at hb
      simp [hl] at hb
      subst hb
      exact ha
theorem weightsAll_mem {l : List (DataW H)} {d : DataW H} (hd : d ∈ l) {n : Nat} (hn : n ∈ d.weights P e) : n ∈ DataW.weightsAll P e l := by
  induction l with
  | nil => cases hd
  | cons x r ih =>
    simp only [DataW.weightsAll, List.mem_append]
    rcases List.mem_cons.1 hd with rfl | hd
    · exact .inl hn
    · exact .inr (ih hd)
theorem add_block (a : Addr) (n : Nat) : (a.add n).block = a.block := by unfold Addr.add; split <;> rfl
theorem add_off (a : Addr) (n : Nat) : (a.add n).off = a.off + n := by
  unfold Addr.add; split
  · rename_i h; simp [h]
  · rfl
theorem add_add (a : Addr) (m n : Nat) : (a.add m).add n = a.add (m + n) := by
  unfold Addr.add
  by_cases hm : m = 0
  · subst hm; simp
  · by_cases hn : n = 0
    · subst hn; simp [hm]
    · have : m + n ≠ 0 := by omega
      simp [hm, hn, Nat.add_assoc]
theorem opens_slice {cf : α → List PV} {fit : α → Prop} {n s : Nat} (B : Nat) (ht : P.underlying t = some (.slice e)) (hc : P.cellsOf e = s) (hs : 0 < s) (hcf : ∀ a, (cf a).length = s) (hB : P.bytesOf e = B) (hd : Opens enc P W e cf fit n) :
    Opens enc P W t (cSl cf) (fun l => l.length * B ≤ 140737488351232 ∧ l.length ≤ maxLen ∧ ∀ x ∈ l, fit x) n := by
  intro fuel hf cs x h hw
  rcases DataW.trod_slice ht h with ⟨rfl, rfl⟩ | ⟨a, len, cap, elems, rest, m, rfl, rfl, rfl, _, hl, hcap, hel, he, _, _⟩
  · exact ⟨[], .one (.none _ _) rfl, by simp, by simp, by simp⟩
  · simp only [DataW.weights, ht, hB, List.all_cons, Bool.and_eq_true, decide_eq_true_eq, List.length_map, List.all_append] at hw
    obtain ⟨hw1, hw2, _⟩ := hw
    have hw3 : ∀ d' ∈ elems.map (·.1), (d'.weights P e).all (· ≤ reachBytes) = true := fun d' hd' =>
      List.all_eq_true.2 fun q hq => List.all_eq_true.1 hw2 q (weightsAll_mem hd' hq)
    have each : ∀ i, i < len → ∃ b, (∃ c, c.length = s ∧ RdC W c (cf b) ∧ ∀ j u, c[j]? = some u → W.cell? (a.add (i * s + j)) = some u) ∧ fit b := by
      intro i hi
      have h1 := he i hi
      have hie : i < elems.length := by omega
      rw [List.getElem?_eq_getElem hie, Option.bind_eq_some_iff] at h1
      obtain ⟨c, hcs, htr⟩ := h1
      obtain ⟨_, hcl, hcc⟩ := World.cells?_some hcs
      obtain ⟨b, hK, hfit⟩ := hd m (by omega) c _ htr (hw3 _ (List.mem_map.2 ⟨_, List.getElem_mem hie, rfl⟩))
      refine ⟨b, ⟨c, by rw [hcl, hc], hK, fun j u hj => ?_⟩, hfit⟩
      have hjl : j < P.cellsOf e := by rw [← hcl]; exact (List.getElem?_eq_some_iff.1 hj).1
      have := hcc j hjl
      rw [add_add, hc, hj] at this
      exact this
    obtain ⟨l, hll, hp⟩ := exists_list len each
    subst hll
    refine ⟨l, ?_, ?_, by omega, fun x hx => ?_⟩
    · refine .one ?_ rfl
      by_cases hl0 : l = []
      · subst hl0; exact .none _ _
      · -- the elements lie there
        have at0 : ∀ i j p b, l[i]? = some b → (cf b)[j]? = some p → ∃ u, W.cell? (a.add (i * s + j)) = some u ∧ Imm (whole W) p u ∧ u.oneCell' = true := by
          intro i j p b hb hpj
          obtain ⟨⟨c, hcl, hR, hcell⟩, -⟩ := hp i b hb
          have hj : j < c.length := by rw [← hR.1]; exact (List.getElem?_eq_some_iff.1 hpj).1
          exact ⟨c[j], hcell j _ (List.getElem?_eq_getElem hj), hR.2 j p _ hpj (List.getElem?_eq_getElem hj)⟩
        have hsp : a.spot = none := by
          obtain ⟨b, hb⟩ : ∃ b, l[0]? = some b := by
            cases l with
            | nil => exact absurd rfl hl0
            | cons b r => exact ⟨b, rfl⟩
          obtain ⟨p, hpp⟩ : ∃ p, (cf b)[0]? = some p := ⟨(cf b)[0]'(by rw [hcf]; exact hs), by simp [hcf, hs]⟩
          obtain ⟨u, hu, -⟩ := at0 0 0 p b hb hpp
          have := (whole_cell hu).2
          simpa [Addr.add] using this
        obtain ⟨blk, off, spot⟩ := a
        simp only at hsp
        subst hsp
        have hmem := fun i j p b hb hpj => at0 i j p b hb hpj
        let f : Nat → Nat → Value := fun i j => ((whole W) blk (off + i * s + j)).getD undef
        have key : ∀ (i j : Nat) (e : List PV) (p : PV), (l.map cf)[i]? = some e → e[j]? = some p → ((whole W) blk (off + i * s + j) = some (f i j) ∧ (f i j).oneCell' = true) ∧ Imm (whole W) p (f i j) := by
          intro i j e p hei hpj
          rw [List.getElem?_map, Option.map_eq_some_iff] at hei
          obtain ⟨b, hb, rfl⟩ := hei
          obtain ⟨u, hu, hi, ho⟩ := at0 i j p b hb hpj
          have hc' := (whole_cell hu).1
          rw [add_block, add_off] at hc'
          have hc2 : (whole W) blk (off + i * s + j) = some u := by rw [show off + i * s + j = off + (i * s + j) by omega]; exact hc'
          have hfu : f i j = u := by show ((whole W) blk (off + i * s + j)).getD undef = u; rw [hc2]; rfl
          rw [hfu]
          exact ⟨⟨hc2, ho⟩, hi⟩
        have := Imm.rows (F := whole W) (l.map cf) blk off cap s f (by
          intro e he'
          obtain ⟨b, -, rfl⟩ := List.mem_map.1 he'
          exact hcf b) (fun i j e p h1 h2 => (key i j e p h1 h2).1) (fun i j e p h1 h2 => (key i j e p h1 h2).2) (by simpa using hl)
        simpa using this
    · have h4 : elems.length * B ≤ (elems.length + rest.length) * B := Nat.mul_le_mul_right _ (Nat.le_add_right _ _)
      have h5 : reachBytes = 140737488351232 := by decide
      rw [h5] at hw1
      rw [← hel]
      omega
    · obtain ⟨j, hj, rfl⟩ := List.mem_iff_getElem.1 hx
      exact (hp j _ (List.getElem?_eq_getElem hj)).2
def OpensF (enc : TypeId × Value → H) (P : Program) (W : World) (fs : List Field) (off : Nat) (sz : Nat) (cf : α → List PV) (fit : α → Prop) (n : Nat) : Prop :=
  ∀ fuel, fuel ≤ n → ∀ (cs : List Value) (xs : List (DataW H × List MemPlace)), cs.length = sz → xs.length = fs.length → (∀ (i : Nat) (f : Field), fs[i]? = some f → off ≤ f.offset ∧ DataW.trod enc P W 0 (fun _ => true) true fuel f.type ((cs.drop (f.offset - off)).take (P.cellsOf f.type)) = xs[i]?) →
    (DataW.weightsEach P (fs.map (·.type)) (xs.map (·.1))).all (· ≤ reachBytes) = true → ∃ a, RdC W cs (cf a) ∧ fit a
theorem opensF_last {cf : α → List PV} {fit : α → Prop} {n off s : Nat} {f : Field} (ho : f.offset = off) (hc : P.cellsOf f.type = s) (hd : Opens enc P W f.type cf fit n) : OpensF enc P W [f] off s cf fit n := by
  intro fuel hf cs xs hl hx h hw
  match xs, hx with
  | [x], _ =>
    have := (h 0 f rfl).2
    rw [ho, Nat.sub_self, List.drop_zero, hc, ← hl, List.take_length] at this
    refine hd fuel hf cs x this ?_
    simpa [DataW.weightsEach] using hw
theorem opensF_cons {cf : α → List PV} {cf2 : β → List PV} {fit : α → Prop} {fit2 : β → Prop} {n off s s2 : Nat} {f : Field} {fs : List Field} (ho : f.offset = off) (hc : P.cellsOf f.type = s) (hlt : ∀ g ∈ fs, off + s ≤ g.offset)
    (hd : Opens enc P W f.type cf fit n) (hd2 : OpensF enc P W fs (off + s) s2 cf2 fit2 n) : OpensF enc P W (f :: fs) off (s + s2) (fun x : α × β => cf x.1 ++ cf2 x.2) (fun x => fit x.1 ∧ fit2 x.2) n := by
  intro fuel hf cs xs hl hx h hw
  match xs, hx with
  | x :: xs, hx =>
    have h0 := (h 0 f rfl).2
    rw [ho, Nat.sub_self, List.drop_zero, hc] at h0
    simp only [List.map_cons, DataW.weightsEach, List.all_append, Bool.and_eq_true] at hw
    obtain ⟨a, ha, hfa⟩ := hd fuel hf _ x h0 hw.1
    obtain ⟨b, hb, hfb⟩ := hd2 fuel hf (cs.drop s) xs (by rw [List.length_drop]; omega) (by simpa using hx) (fun i g hg => by
      have hmem : g ∈ fs := List.mem_of_getElem? hg
      have hle := hlt g hmem
      have := (h (i + 1) g (by simpa using hg)).2
      refine ⟨hle, ?_⟩
      rw [List.drop_drop, show s + (g.offset - (off + s)) = g.offset - off by omega]
      simpa using this) hw.2
    refine ⟨(a, b), ?_, hfa, hfb⟩
    have := ha.append hb
    rwa [List.take_append_drop] at this
theorem opens_struct {γ : Type} {cf : α → List PV} {cg : γ → List PV} {fit : α → Prop} {n s : Nat} {fs : Array Field} (g : α → γ) (ht : P.underlying t = some (.struct fs)) (hc : P.cellsOf t = s) (hd : OpensF enc P W fs.toList 0 s cf fit n) (hg : ∀ a, cg (g a) = cf a) :
    Opens enc P W t cg (fun x => ∃ a, x = g a ∧ fit a) (n + 1) := by
  intro fuel hf cs x h hw
  obtain ⟨xs, m, rfl, rfl, hl, hx, he⟩ := DataW.trod_struct ht h
  obtain ⟨a, ha, hfa⟩ := hd m (by omega) cs xs (by rw [hl, hc]) (by simpa using hx) (fun i f' hf' => ⟨Nat.zero_le _, by
    have := he i f' (by simpa using hf')
    simpa using this⟩) (by simpa [DataW.weights, ht] using hw)
  exact ⟨g a, by rw [hg]; exact ha, a, rfl, hfa⟩
theorem Opens.weak {cf : α → List PV} {fit fit2 : α → Prop} {n : Nat} (h : Opens enc P W t cf fit n) (hi : ∀ a, fit a → fit2 a) : Opens enc P W t cf fit2 n := by
  intro fuel hf cs x hx hw
  obtain ⟨a, ha, hfa⟩ := h fuel hf cs x hx hw
  exact ⟨a, ha, hi a hfa⟩
theorem Opens.le {cf : α → List PV} {fit : α → Prop} {n m : Nat} (h : Opens enc P W t cf fit n) (hm : m ≤ n) : Opens enc P W t cf fit m := fun f hf => h f (Nat.le_trans hf hm)
theorem opens_zero {cf : α → List PV} {fit : α → Prop} : Opens enc P W t cf fit 0 := by
  intro fuel hf cs x h _
  obtain rfl : fuel = 0 := by omega
  simp [DataW.trod] at h
theorem weights_at {ts : List TypeId} {ds : List (DataW H)} (h : (DataW.weightsEach P ts ds).all (· ≤ reachBytes) = true) {j : Nat} {t : TypeId} {d : DataW H} (ht : ts[j]? = some t) (hd : ds[j]? = some d) : (d.weights P t).all (· ≤ reachBytes) = true :=
  List.all_eq_true.2 fun n hn => List.all_eq_true.1 h n (DataW.weights_mem_each ht hd n hn)
theorem arg_struct {cf : α → List PV} {fit : α → Prop} {base : Nat} {v : Value} {x : DataW H} {ps : List MemPlace} {fs : Array Field} (hu : P.underlying t = some (.struct fs)) (ho : ∀ n, Opens enc P W t cf fit n) (hv : Value.okWide P W .any base t v) (h : DataW.Trod enc P W 0 (fun _ => true) true t v x ps)
    (hw : (x.weights P t).all (· ≤ reachBytes) = true) : ∃ a, Imm (whole W) (.agg (cf a)) v ∧ fit a := by
  obtain ⟨cs, rfl, _⟩ := okWide_struct hu hv
  obtain ⟨fuel, hf⟩ := h
  obtain ⟨a, hR, hfit⟩ := ho fuel fuel (Nat.le_refl _) _ _ hf hw
  simp only [Value.cells] at hR
  exact ⟨a, .agg _ _ (by simpa using hR.1) (fun j p v hp hv' => (hR.2 j p v hp (by simpa using hv')).1), hfit⟩
end Go.RM.Read
namespace Go.RM.Read
open Go.RowKit
set_option linter.unusedVariables false
theorem argsRep_nil {φ : Place} {F : Mem} : ArgsRep φ F [] #[] := ⟨rfl, fun j p v h => by simp at h⟩
theorem argsRep_cons {φ : Place} {F : Mem} {p : PV} {v : Value} {ps : List PV} {vs : List Value} (h : Imm F p v) (h' : ArgsRep φ F ps vs.toArray) : ArgsRep φ F (p :: ps) (v :: vs).toArray := by
  refine ⟨by simpa using h'.1, fun j q u hq hu => ?_⟩
  cases j with
  | zero => simp at hq hu; subst hq hu; exact .imm h
  | succ j => exact h'.2 j q u (by simpa using hq) (by simpa using hu)
theorem calls_ofK {P : Program} (T : Kn) {X : FuncId → List PV → Heap → PV → Heap → Prop} (hX : ∀ f args H r H', X f args H r H' → SoundCall P T f args H r H') (hm : P.follows .mixedOrders = true) {f : FuncId} {args : List PV} {vs : Array Value} {W : World} {r : Value} (hT : T.k (whole W)) (hd : D P X (.callH f args [] (.val r) [])) (ha : ArgsRep (fun _ _ => none) (whole W) args vs) :
    Calls P f vs W fun e W' => e = .returned r ∧ Below W.heap.size W W' := by
  have := sound (T := T) hm hX hd (fun _ _ => none) (whole W) W vs hT (whole_hr W) ha
  refine this.mono fun e W' h => ?_
  obtain ⟨v, φ', F', rfl, hr, hp⟩ := h
  refine ⟨by rw [hr.val_inv], hp.keeps.os, hp.keeps.tape, hp.keeps.output, hp.keeps.size, fun k hk => hp.keeps.old k hk fun b kk cap hb => by simp at hb⟩
theorem calls_of {P : Program} (hm : P.follows .mixedOrders = true) {f : FuncId} {args : List PV} {vs : Array Value} {W : World} {r : Value} (hd : D P (fun _ _ _ _ _ => False) (.callH f args [] (.val r) [])) (ha : ArgsRep (fun _ _ => none) (whole W) args vs) :
    Calls P f vs W fun e W' => e = .returned r ∧ Below W.heap.size W W' := by
  exact calls_ofK Kn.none (fun _ _ _ _ _ h => h.elim) hm trivial hd ha
end Go.RM.Read
set_option linter.unusedVariables false
set_option maxRecDepth 8000
set_option maxHeartbeats 4000000
namespace Go.RM.Tryz
open Go.RM Go.RM.Read Go.Proofs
inductive TSpace.Fit : TSpace → Prop where
  | mk (x : TSpace) (h0 : (Lit.int .i64 x.Tag).wf = true) (h1 : (Lit.int .i64 x.Dim).wf = true) (h2 : x.Parts.length * 40 ≤ 140737488351232) (h3 : x.Parts.length ≤ maxLen) (h4 : ∀ y ∈ x.Parts, TSpace.Fit y) : TSpace.Fit x
theorem TSpace.opens {H : Type} {enc : TypeId × Value → H} {W : World} : ∀ (n : Nat), Opens enc Tryz.prog W 25 TSpace.cells TSpace.Fit n
  | 0 => opens_zero
  | n + 1 => (opens_struct (s := 3) (fun y : Int × Int × (List TSpace) => (⟨y.1, y.2.1, y.2.2⟩ : TSpace)) Tryz.underlying25 (by kernel_rfl) (opensF_cons (off := 0) (s := 1) (by kernel_rfl) (by kernel_rfl) (of_decide_eq_true (by kernel_rfl)) (opens_int (t := 22) (k := .i64) (by kernel_rfl) n) (opensF_cons (off := 1) (s := 1) (by kernel_rfl) (by kernel_rfl) (of_decide_eq_true (by kernel_rfl)) (opens_int (t := 3) (k := .i64) (by kernel_rfl) n) (opensF_last (off := 2) (s := 1) (by kernel_rfl) (by kernel_rfl) (opens_slice (t := 23) (e := 25) (s := 3) 40 (by kernel_rfl) (by kernel_rfl) (by decide) (fun a => (TSpace.cells_ok a).1) (by kernel_rfl) (TSpace.opens n))))) (fun _ => (TSpace.cells_lit _).trans q)).weak fun x h => by obtain ⟨a, rfl, h⟩ := h; exact .mk _ h.1 h.2.1 h.2.2.1 h.2.2.2.1 h.2.2.2.2
def TFacts.Fit (x : TFacts) : Prop := ((Lit.int .u64 x.Gen).wf = true) ∧ ((x.Rows.length * 8 ≤ 140737488351232) ∧ (x.Rows.length ≤ maxLen) ∧ (∀ y ∈ x.Rows, (Lit.int .u64 y).wf = true))
theorem TFacts.opens {H : Type} {enc : TypeId × Value → H} {W : World} (n : Nat) : Opens enc Tryz.prog W 29 TFacts.cells TFacts.Fit n :=
  ((opens_struct (s := 2) (fun y : Int × (List Int) => (⟨y.1, y.2⟩ : TFacts)) Tryz.underlying29 (by kernel_rfl) (opensF_cons (off := 0) (s := 1) (by kernel_rfl) (by kernel_rfl) (of_decide_eq_true (by kernel_rfl)) (opens_int (t := 26) (k := .u64) (by kernel_rfl) n) (opensF_last (off := 1) (s := 1) (by kernel_rfl) (by kernel_rfl) (opens_slice (t := 27) (e := 26) (s := 1) 8 (by kernel_rfl) (by kernel_rfl) (by decide) (fun _ => q) (by kernel_rfl) (opens_int (t := 26) (k := .u64) (by kernel_rfl) n)))) (fun _ => q)).weak fun x h => by obtain ⟨a, rfl, h⟩ := h; exact h).le (Nat.le_succ n)
def TCell.Fit (x : TCell) : Prop := ((Lit.int .u64 x.From).wf = true) ∧ ((Lit.int .i64 x.Kind).wf = true) ∧ ((Lit.int .i64 x.K).wf = true)
theorem TCell.opens {H : Type} {enc : TypeId × Value → H} {W : World} (n : Nat) : Opens enc Tryz.prog W 74 TCell.cells TCell.Fit n :=
  ((opens_struct (s := 3) (fun y : Int × Int × Int => (⟨y.1, y.2.1, y.2.2⟩ : TCell)) Tryz.underlying74 (by kernel_rfl) (opensF_cons (off := 0) (s := 1) (by kernel_rfl) (by kernel_rfl) (of_decide_eq_true (by kernel_rfl)) (opens_int (t := 26) (k := .u64) (by kernel_rfl) n) (opensF_cons (off := 1) (s := 1) (by kernel_rfl) (by kernel_rfl) (of_decide_eq_true (by kernel_rfl)) (opens_int (t := 72) (k := .i64) (by kernel_rfl) n) (opensF_last (off := 2) (s := 1) (by kernel_rfl) (by kernel_rfl) (opens_int (t := 2) (k := .i64) (by kernel_rfl) n)))) (fun _ => q)).weak fun x h => by obtain ⟨a, rfl, h⟩ := h; exact h).le (Nat.le_succ n)
inductive TWeight.Fit : TWeight → Prop where
  | mk (x : TWeight) (h0 : True) (h1 : (Lit.int .i64 x.Cost).wf = true) (h2 : TFacts.Fit x.Facts) (h3 : x.Cells.length * 24 ≤ 140737488351232) (h4 : x.Cells.length ≤ maxLen) (h5 : ∀ y ∈ x.Cells, TCell.Fit y) (h6 : x.Parts.length * 96 ≤ 140737488351232) (h7 : x.Parts.length ≤ maxLen) (h8 : ∀ y ∈ x.Parts, TWeight.Fit y) : TWeight.Fit x
theorem TWeight.opens {H : Type} {enc : TypeId × Value → H} {W : World} : ∀ (n : Nat), Opens enc Tryz.prog W 33 TWeight.cells TWeight.Fit n
  | 0 => opens_zero
  | n + 1 => (opens_struct (s := 6) (fun y : Bool × Int × TFacts × (List TCell) × (List TWeight) => (⟨y.1, y.2.1, y.2.2.1, y.2.2.2.1, y.2.2.2.2⟩ : TWeight)) Tryz.underlying33 (by kernel_rfl) (opensF_cons (off := 0) (s := 1) (by kernel_rfl) (by kernel_rfl) (of_decide_eq_true (by kernel_rfl)) (opens_bool (t := 4) (by kernel_rfl) n) (opensF_cons (off := 1) (s := 1) (by kernel_rfl) (by kernel_rfl) (of_decide_eq_true (by kernel_rfl)) (opens_int (t := 3) (k := .i64) (by kernel_rfl) n) (opensF_cons (off := 2) (s := 2) (by kernel_rfl) (by kernel_rfl) (of_decide_eq_true (by kernel_rfl)) (TFacts.opens n) (opensF_cons (off := 4) (s := 1) (by kernel_rfl) (by kernel_rfl) (of_decide_eq_true (by kernel_rfl)) (opens_slice (t := 30) (e := 74) (s := 3) 24 (by kernel_rfl) (by kernel_rfl) (by decide) (fun a => (TCell.cells_ok a).1) (by kernel_rfl) (TCell.opens n)) (opensF_last (off := 5) (s := 1) (by kernel_rfl) (by kernel_rfl) (opens_slice (t := 31) (e := 33) (s := 6) 96 (by kernel_rfl) (by kernel_rfl) (by decide) (fun a => (TWeight.cells_ok a).1) (by kernel_rfl) (TWeight.opens n))))))) (fun _ => (TWeight.cells_lit _).trans q)).weak fun x h => by obtain ⟨a, rfl, h⟩ := h; exact .mk _ h.1 h.2.1 h.2.2.1 h.2.2.2.1.1 h.2.2.2.1.2.1 h.2.2.2.1.2.2 h.2.2.2.2.1 h.2.2.2.2.2.1 h.2.2.2.2.2.2
end Go.RM.Tryz
