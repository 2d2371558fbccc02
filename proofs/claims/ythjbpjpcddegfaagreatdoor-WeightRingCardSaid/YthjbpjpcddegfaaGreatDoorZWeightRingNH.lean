/- MV MW MX MY MZ NA NB NC NM NS GA ND NE NF NG NH, for the statement WeightRing: what it needs, no more. -/
import Derived.Test.YthjbpjpcddegfaaGreatDoorZWeightRingMU
import Derived.Test.YthjbpjpcddegfaaGreatDoorProg
import Derived.OrdersIn
import Derived.TacticsIn
import Derived.RangeFuncRecord
import Derived.MapKept
import Derived.Laws.StructEq
namespace Go.RM
set_option linter.unusedVariables false
set_option linter.unusedSimpArgs false
variable {P : Program} {φ φ' : Place} {F F' : Mem} {H H' : Heap} {w w' : World} {e : Env} {a : Act} {o : Oper}
def fence (R : Option Nat) : Fence := { fn := fun _ => True, depth := none, alive := false, round := R }
theorem fenced_all (P : Program) (R : Option Nat) (m : Machine) : m.fenced P (fence R) := by
  intro g _
  exact ⟨fun h => (by cases h), Or.inl trivial, fun _ _ => trivial, fun _ h => (by cases h)⟩
theorem steps_in {R : Option Nat} {m m' : Machine} (h : Steps P m m') : StepsIn (Machine.fenced P (fence R)) P m m' := (StepsIn.of_steps h).mono fun m _ => fenced_all P R m
theorem calls_in {R : Option Nat} {n : Nat} {f : FuncId} {args : Array Value} {Q : Ending → World → Prop} (h : Calls P f args w Q) : CallsIn (fence R) n P f args w Q := by
  refine ⟨trivial, fun cs _ => ?_⟩
  obtain ⟨e, w', fr, hq, hc, h1, h2⟩ := h cs
  refine ⟨e, w', fr, hq, ?_, h1, h2⟩
  cases e with
  | returned v => exact steps_in hc
  | panicked c => exact steps_in hc
  | outgrown => exact hc
def ArgsRep (φ : Place) (F : Mem) (args : List PV) (vs : Array Value) : Prop := args.length = vs.size ∧ ∀ (j : Nat) (p : PV) (v : Value), args[j]? = some p → vs[j]? = some v → Rep φ F p v
theorem ArgsRep.nil {φ : Place} {F : Mem} {pre post : List PV} {vs : Array Value} (h : ArgsRep φ F (pre ++ .rows [] :: post) vs) : ∃ z k, ArgsRep φ F (pre ++ .val (.slice z 0 k) :: post) vs := by
  obtain ⟨hl, h⟩ := h
  have hlt : pre.length < vs.size := by rw [← hl]; simp
  have h0 := h pre.length (.rows []) vs[pre.length] (by simp) (by simp [hlt])
  obtain ⟨z, k, hz⟩ : ∃ z k, vs[pre.length] = .slice z 0 k := by
    rcases h0.rows_inv with ⟨-, z, k, hv⟩ | ⟨c, off, k, sz, f, hv, -⟩
    · exact ⟨z, k, hv⟩
    · exact ⟨_, k, hv⟩
  refine ⟨z, k, by simpa using hl, fun j p v hp hv => ?_⟩
  by_cases hj : j = pre.length
  · subst hj
    simp at hp
    simp [hlt, hz] at hv
    subst hp hv
    exact .imm (.val _)
  · refine h j p v ?_ hv
    rw [List.getElem?_append] at hp ⊢
    split
    · rename_i hlt'; rwa [if_pos hlt'] at hp
    · rename_i hlt'
      rw [if_neg hlt'] at hp
      obtain ⟨m, hm⟩ : ∃ m, j - pre.length = m + 1 := ⟨j - pre.length - 1, by omega⟩
      rw [hm] at hp ⊢
      simpa using hp
def Marks (n0 : Nat) (ds : List Deferred) (w : World) : Prop :=
  ∃ l : List Nat, ds = l.map (fun D => { target := .collected D, args := #[] }) ∧ l.Nodup ∧ ∀ D ∈ l, n0 ≤ D ∧ w.heap[D]? = some (.deferred (some []))
def OpsK (P : Program) (R : Option Nat) (all : Array Oper) (Q : Exit → Act → World → Prop) (K : Act → World → Prop) : List Oper → Act → World → Prop
  | [], a, w => K a w
  | o :: rest, a, w => if Region.wanted o (yielded all a.tmps) then o.wpIn (fence R) 0 P a w (OpsK P R all Q K rest) Q
    else (∀ f, o.about P w a.eval = some f → (fence R).fn f) ∧ OpsK P R all Q K rest (a.put o.dst undef) w
theorem opsK_list (R : Option Nat) (all : Array Oper) (Q : Exit → Act → World → Prop) : ∀ (l : List Oper), OpsK P R all Q (Q .normal) l = wpListIn (fence R) 0 P all Q l
  | [] => rfl
  | o :: l => by
    funext a w
    simp only [OpsK, wpListIn, opsK_list R all Q l]
def Ends (P : Program) (fn : Func) (N : Nat) (b : Frame) (cs : List Frame) (m : Machine) (M : Nat) (φ : Place) (F : Mem) (H : Heap) (w : World) (n0 : Nat) (H' : Heap) : Outc → Prop
  | .ret r => ∃ w' a' t φ' F' e', Steps P m (lone { b.atR a' t with mode := .returning } cs w') ∧ Marks n0 a'.defers w' ∧ a'.tmps.size = N ∧ Reps φ' F' e' a' ∧ resultsOf P fn e' H' = some r ∧ PostM M φ F H w φ' F' H' w'
  | .fall => ∃ w' a' φ' F', Steps P m (lone (b.atR a' []) cs w') ∧ PostM M φ F H w φ' F' H' w'
  | .jump c => ∃ w' a' k φ' F', Steps P m (lone (b.atR a' (.code c :: k)) cs w') ∧ (∀ id, c = .exit id → exitTo id k = none) ∧ PostM M φ F H w φ' F' H' w'
structure Kn where
  k : Mem → Prop
  up : ∀ F F' : Mem, F.le F' → k F → k F'
def Kn.none : Kn := ⟨fun _ => True, fun _ _ _ _ => trivial⟩
def SoundCall (P : Program) (K : Kn) (f : FuncId) (args : List PV) (H : Heap) (r : PV) (H' : Heap) : Prop :=
  ∀ (φ : Place) (F : Mem) (w : World) (vs : Array Value), K.k F → HR φ F H w → ArgsRep φ F args vs →
    Calls P f vs w (fun en w' => ∃ v φ' F', en = .returned v ∧ Rep φ' F' r v ∧ Post φ F H w φ' F' H' w')
def Sound (P : Program) (T : Kn) : J → Prop
  | .run fn N M rd todo e H O H' => ∀ (φ : Place) (F : Mem) (w : World) (a : Act) (b : Frame) (cs : List Frame) (n0 : Nat), b.roundOf.isSome = rd → Marks n0 a.defers w → n0 ≤ w.heap.size → a.tmps.size = N → T.k F → HR φ F H w → Reps φ F e a →
      Ends P fn N b cs (lone (b.atR a todo) cs w) M φ F H w n0 H' O
  | .reg N all draw e H e' H' => all.all (dstOk N) = true → ∀ (φ : Place) (F : Mem) (w : World) (a : Act) (R : Option Nat) (Q : Exit → Act → World → Prop) (id : Nat), a.tmps.size = N → T.k F → HR φ F H w → Reps φ F e a →
      (∀ φ' F' w' a', a'.defers = a.defers → a'.tmps.size = N → Reps φ' F' e' a' → Post φ F H w φ' F' H' w' → Q .normal a' w') → (Code.region id all draw).wpIn (fence R) 0 P Q a w
  | .ops N all l e H e' H' => (∀ o ∈ l, dstOk N o = true) → ∀ (φ : Place) (F : Mem) (w : World) (a : Act) (R : Option Nat) (Q : Exit → Act → World → Prop) (K : Act → World → Prop), a.tmps.size = N → T.k F → HR φ F H w → Reps φ F e a →
      (∀ φ' F' w' a', a'.defers = a.defers → a'.tmps.size = N → Reps φ' F' e' a' → Post φ F H w φ' F' H' w' → K a' w') → OpsK P R all Q K l a w
  | .callH f args H r H' => SoundCall P T f args H r H'
theorem wants_ok (hr : Reps φ F e a) {all : Array Oper} {b : Bool} (h : wants all e o = some b) : Region.wanted o (yielded all a.tmps) = b := by
  unfold wants at h
  unfold Region.wanted
  cases hg : o.guard with
  | none => rw [hg] at h; simpa using h
  | some gw =>
    obtain ⟨j, want⟩ := gw
    rw [hg] at h
    simp only at h ⊢
    cases hd : (all[j]?).bind (·.dst) with
    | none => rw [hd] at h; cases h
    | some t =>
      rw [hd] at h
      simp only at h
      split at h
      · rename_i x hx
        cases h
        have hv := hr t
        rw [hx] at hv
        have := hv.val_inv
        have ht : a.tmps[t]? = some (.bool x) := by
          cases hc : a.tmps[t]? with
          | none => simp [hc, undef] at this
          | some y => simp [hc] at this; rw [this]
        simp [yielded, hd, ht]
      · rename_i x hx
        cases h
        have hv := hr t
        rw [hx] at hv
        have := hv.val_inv
        cases hc : a.tmps[t]? with
        | none => simp [yielded, hd, hc]
        | some y => simp [hc] at this; simp [yielded, hd, hc, this]
      · cases h
def readResult (tmps : Array Value) : ResultVar → Sem Value
  | .tmp t => pure (tmps.getD t undef)
  | .cell a t => do loadVar t (← asAddr (tmps.getD a undef))
theorem results_eq (fn : Func) (tmps : Array Value) : results fn tmps = (do
    let vs ← fn.results.mapM (readResult tmps)
    pure (if h : vs.size = 1 then vs[0] else .tuple vs)) := by
  unfold results
  refine congrArg (fun g : ResultVar → Sem Value => (do
    let vs ← fn.results.mapM g
    pure (if h : vs.size = 1 then vs[0] else .tuple vs))) (funext fun x => ?_)
  cases x <;> rfl
theorem results_ok (h : HR φ F H w) (hr : Reps φ F e a) {fn : Func} {r : PV} (ho : resultsOf P fn e H = some r) : ∃ v, (results fn a.tmps).run P w = .ok v w ∧ Rep φ F r v := by
  unfold resultsOf at ho
  simp only [Option.map_eq_some_iff] at ho
  obtain ⟨ps, hps, rfl⟩ := ho
  have key : ∀ (l : List ResultVar) (ps : List PV), omap (resultOf P H e) l = some ps →
      ∃ vs : List Value, (l.mapM (readResult a.tmps)).run P w = .ok vs w ∧ All2 (fun p v => Rep φ F p v) ps vs := by
    intro l
    induction l with
    | nil => intro ps h; simp [omap] at h; subst h; exact ⟨[], by simp, .nil⟩
    | cons x l ih =>
      intro ps h'
      simp only [omap, Option.bind_eq_some_iff, Option.map_eq_some_iff] at h'
      obtain ⟨p, hp, ps', hps', rfl⟩ := h'
      obtain ⟨vs, hvs, hall⟩ := ih ps' hps'
      have hone : ∃ v, (readResult a.tmps x).run P w = .ok v w ∧ Rep φ F p v := by
        cases x with
        | tmp t => simp only [resultOf, Option.some.injEq] at hp; subst hp; exact ⟨_, rfl, hr t⟩
        | cell c t =>
          simp only [resultOf, Option.bind_eq_some_iff] at hp
          obtain ⟨s, hs, g, hg, hp⟩ := hp
          split at hp
          · rename_i hgs
            simp only [Option.bind_eq_some_iff] at hp
            obtain ⟨cs, hrd, hp⟩ := hp
            obtain ⟨b, off, vs, hv, hl, hlc, hc, hrep⟩ := rd_ok h (hr c) hrd
            obtain ⟨v, hrun, hpv⟩ := loadVar_ok (P := P) hs hg hgs hl hlc hc hrep hp
            refine ⟨v, ?_, hpv⟩
            have hv' : a.tmps.getD c undef = .pointer (some ⟨b, off, none⟩) := hv
            simp only [readResult, hv']
            simp [asAddr, hrun, Result.andThen]
          · cases hp
      obtain ⟨v, hv, hpv⟩ := hone
      exact ⟨v :: vs, by simp only [List.mapM_cons, Sem.run_bind, hv, hvs, Result.andThen_ok, Sem.run_pure], .cons hpv hall⟩
  obtain ⟨vs, hvs, hall⟩ := key _ _ hps
  refine ⟨if h : vs.toArray.size = 1 then vs.toArray[0] else .tuple vs.toArray, ?_, ?_⟩
  · rw [results_eq]
    simp only [Array.mapM_eq_mapM_toList, Sem.run_bind, Sem.run_map, hvs, Result.andThen_ok, Sem.run_pure]
  · cases hall with
    | nil => exact .tuple _ _ rfl (fun j p v h => by simp at h)
    | @cons p v ps vs h1 hall =>
      cases hall with
      | nil => simpa using h1
      | @cons p2 v2 ps vs h2 hall =>
        simp only [List.size_toArray, List.length_cons]
        rw [dif_neg (by omega)]
        have tot : All2 (fun p v => Rep φ F p v) (p :: p2 :: ps) (v :: v2 :: vs) := .cons h1 (.cons h2 hall)
        have g := tot.at
        exact .tuple _ _ (by simpa using g.1) (fun j p v hp hv => g.2 j p v hp (by simpa using hv))
theorem put_size (a : Act) (d : Option Tmp) (v : Value) : (a.put d v).tmps.size = a.tmps.size := by cases d <;> simp [Act.put]
theorem put_defers' (a : Act) (d : Option Tmp) (v : Value) : (a.put d v).defers = a.defers := by cases d <;> rfl
theorem not_defer {tgt : Nat} {p : PV} {H1 : Heap} (ho : aop P e o H tgt = some (p, H1)) (c : Call) : o.op ≠ .defer c := by
  intro hc
  simp only [aop, hc, generic] at ho
  split at ho
  · split at ho
    · rename_i v hq
      have h1 := run_quietly (P := P) _ _ (default : World) hq
      obtain ⟨dst, op, type, pos, after, guard⟩ := o
      simp only at hc; subst hc
      simp only [execOp, Sem.run_bind] at h1
      cases hr : (resolve (fun x => (toV? (ev e x)).getD undef) c type).run P default with
      | ok d w1 => rw [hr] at h1; simp [Result.andThen] at h1
      | halt x w1 => rw [hr] at h1; simp [Result.andThen] at h1
    · cases ho
  · cases ho
end Go.RM
namespace Go.RM
set_option linter.unusedVariables false
set_option linter.unusedSimpArgs false
variable {P : Program} {φ φ' : Place} {F F' : Mem} {H H' : Heap} {w w' : World} {e : Env} {a : Act} {o : Oper}
theorem callee_ok (h : HR φ F H w) (hr : Reps φ F e a) {f : FuncId} {args : List PV} (hc : callee P e o = some (f, args)) : ∃ vs, (execOp a.eval o).run P w = .ok (.enter f vs) w ∧ ArgsRep φ F args vs ∧ ∀ c, o.op ≠ .defer c := by
  unfold callee at hc
  split at hc
  · rename_i g xs tys hop
    split at hc
    · rename_i g' cs hev
      split at hc
      · rename_i hgo
        cases hc
        have hv := hr.ev g
        rw [hev] at hv
        obtain ⟨cs', hv', hl, hcs⟩ := hv.clo_inv
        unfold isGo at hgo
        split at hgo
        · rename_i fn hfn
          simp only [Bool.and_eq_true, bne_iff_ne, ne_eq] at hgo
          have hb : ¬ (fn.body.isNone = true) := by
            cases hbd : fn.body with
            | none => rw [hbd] at hgo; simp at hgo
            | some c => simp
          refine ⟨xs.map a.eval ++ cs', ?_, ⟨by simp [hl], fun j p v hp hv => ?_⟩, fun c hc => by rw [hop] at hc; cases hc⟩
          · have hcall : (callFunc f (xs.map a.eval ++ cs')).run P w = .ok (.enter f (xs.map a.eval ++ cs')) w := by
              unfold callFunc
              simp only [Sem.run_bind, run_program, Result.andThen_ok, hfn]
              rw [if_neg (by simpa using hgo.1), if_neg hb]
              rfl
            obtain ⟨dst, op, type, pos, after, guard⟩ := o
            simp only at hop
            subst hop
            simp [execOp, resolve, hv', Deferred.ofValue, invoke, hcall, Result.andThen]
          · simp only [Array.getElem?_append, Array.size_map] at hv
            rcases Nat.lt_or_ge j xs.size with hj | hj
            · rw [List.getElem?_append_left (by simpa using hj)] at hp
              rw [if_pos hj] at hv
              simp only [List.getElem?_map, Array.getElem?_toList, Option.map_eq_some_iff] at hp
              simp only [Array.getElem?_map, Option.map_eq_some_iff] at hv
              obtain ⟨x, hx, rfl⟩ := hp
              obtain ⟨y, hy, rfl⟩ := hv
              rw [hx] at hy; cases hy
              exact hr.ev x
            · rw [List.getElem?_append_right (by simpa using hj)] at hp
              rw [if_neg (by omega)] at hv
              exact hcs _ p v (by simpa using hp) hv
        · cases hgo
      · cases hc
    · cases hc
  · cases hc
theorem args_conv {bs ls : List Nat} {args args' : List PV} {vs : Array Value} (h : HR φ F H w) (hnb : bs.Nodup) (ha : All2 (Conv H (.lend bs ls) false) args args') (hr : ArgsRep φ F args vs) :
    ArgsRep (φ.sub bs) (F.ext φ H w (.lend bs ls)) args' vs := by
  have hon := Map.lend_on (ls := ls) hnb
  refine ⟨by rw [← ha.at.1]; exact hr.1, fun j q v hq hv => ?_⟩
  have hj : j < args.length := by rw [ha.at.1]; exact (List.getElem?_eq_some_iff.1 hq).1
  exact (conv_ok h (fun b b' n x hf hx => by simp [Place.sub, hon.of_ b b' hf, hx]) (Mem.ext_le F φ H w _) (fun b k c cap arr el hf hk hmp hp hheap j v hj hv => Mem.ext_fix h hf hk hmp hp hheap j v hj hv)
    (ha.at.2 j args[j] q (by simp [hj]) hq) v (hr.2 j _ v (by simp [hj]) hv)).1
theorem opsK_yes {R : Option Nat} {all : Array Oper} {Q : Exit → Act → World → Prop} {K : Act → World → Prop} {l : List Oper} (hw : wants all e o = some true) (hr : Reps φ F e a)
    (h : o.wpIn (fence R) 0 P a w (OpsK P R all Q K l) Q) : OpsK P R all Q K (o :: l) a w := by
  simp only [OpsK, wants_ok hr hw, if_true]; exact h
theorem sound_op {T : Kn} {N : Nat} {all : Array Oper} {l : List Oper} {e' : Env} {tgt : Nat} {p : PV} {H1 : Heap} (hw : wants all e o = some true) (ho : aop P e o H tgt = some (p, H1)) (ih : Sound P T (.ops N all l (e.put o.dst p) H1 e' H')) :
    Sound P T (.ops N all (o :: l) e H e' H') := by
  intro hd φ F w a R Q K hN hT h hr hK
  have hdo := hd o (by simp)
  obtain ⟨nx, v, w1, φ1, F1, hrun, hnx, hp, hpost⟩ := aop_ok h hr ho
  refine opsK_yes hw hr ⟨fun _ _ => trivial, ?_⟩
  rw [o.semAt_eq _ _ (not_defer ho), hrun]
  have go : OpsK P R all Q K l (a.put o.dst v) w1 := ih (fun o ho => hd o (by simp [ho])) φ1 F1 w1 _ R Q K (by rw [put_size]; exact hN) (T.up _ _ hpost.mem hT) hpost.hr (Reps.put (hr.mono hpost.place hpost.mem) hp hN o hdo rfl)
    fun φ' F' w' a' h1 h2 h3 h4 => hK φ' F' w' a' (by rw [h1, put_defers']) h2 h3 (hpost.trans h4)
  rcases hnx with rfl | ⟨rfl, rfl⟩
  · exact go
  · exact go
theorem sound_no {T : Kn} {N : Nat} {all : Array Oper} {l : List Oper} {e' : Env} (hw : wants all e o = some false) (ih : Sound P T (.ops N all l (e.put o.dst (.val undef)) H e' H')) :
    Sound P T (.ops N all (o :: l) e H e' H') := by
  intro hd φ F w a R Q K hN hT h hr hK
  have hdo := hd o (by simp)
  simp only [OpsK, wants_ok hr hw]
  refine ⟨fun _ _ => trivial, ih (fun o ho => hd o (by simp [ho])) φ F w _ R Q K (by rw [put_size]; exact hN) hT h (Reps.put hr (.imm (.val _)) hN o hdo rfl)
    fun φ' F' w' a' h1 h2 h3 h4 => hK φ' F' w' a' (by rw [h1, put_defers']) h2 h3 h4⟩
theorem sound_callI {T : Kn} {N : Nat} {all : Array Oper} {l : List Oper} {e' : Env} {f : FuncId} {args : List PV} {H1 : Heap} {r : PV} (hw : wants all e o = some true) (hf : callee P e o = some (f, args)) (hc : Sound P T (.callH f args H r H1))
    (ih : Sound P T (.ops N all l (e.put o.dst r) H1 e' H')) : Sound P T (.ops N all (o :: l) e H e' H') := by
  intro hdst φ F w a R Q K hN hT h hrep hK
  have hdo := hdst o (by simp)
  obtain ⟨vs, hrun, hargs, hnd'⟩ := callee_ok h hrep hf
  refine opsK_yes hw hrep ⟨fun _ _ => trivial, ?_⟩
  rw [o.semAt_eq _ _ hnd', hrun]
  refine ⟨fun h => (by cases h), (calls_in (hc φ F w vs hT h hargs)).mono ?_⟩
  rintro en w' ⟨v, φ', F', rfl, hv, hp2⟩
  exact ih (fun o ho => hdst o (by simp [ho])) φ' F' w' _ R Q K (by rw [put_size]; exact hN) (T.up _ _ hp2.mem hT) hp2.hr (Reps.put (hrep.mono hp2.place hp2.mem) hv hN o hdo rfl)
    fun φ' F' w' a' h1 h2 h3 h4 => hK φ' F' w' a' (by rw [h1, put_defers']) h2 h3 (hp2.trans h4)
theorem sound_focus {T : Kn} {f : FuncId} {args args' : List PV} {H0 Hc Hd H1 : Heap} {r r' : PV} {bs ls ts : List Nat} {fz : Bool}
    (ha : All2 (Conv H (.lend bs ls) false) args args') (hH0 : HeapConv H (.lend bs ls) bs H0) (hnd : (bs ++ ls ++ ts).Nodup) (hls : ls.all (fun b => ((H[b]?).map fun k => k.mp.isNone).getD false) = true)
    (hts : ts.all (fun b => match H[b]? with | some ⟨0, [], 0, none⟩ => true | _ => false) = true)
    (hc : Sound P T (.callH f args' H0 r' Hc)) (hr : Conv Hc (.back (bs ++ ts)) false r' r) (hd : All2 (BlkConv Hc (.back (bs ++ ts))) Hc Hd) (hdl : Hd.length = (bs ++ ts).length)
    (hfz : fz = true ∨ ls = [] ∨ (PV.solid deep r' = true ∧ Hc.all Blk.solid = true)) (hH1 : H1 = setAll (if fz then H.freeze ls else H) (bs ++ ts) Hd) : Sound P T (.callH f args H r H1) := by
  intro φ F w vs hT h hargs
  have hnb : bs.Nodup := by
    rw [List.append_assoc] at hnd; exact (List.nodup_append.1 hnd).1
  have hts' : ∀ t ∈ ts, H[t]? = some Blk.hole := by
    intro t ht
    have := List.all_eq_true.1 hts t ht
    split at this
    · rename_i hx; exact hx
    · cases this
  refine (hc (φ.sub bs) (F.ext φ H w (.lend bs ls)) w vs (T.up _ _ (Mem.ext_le F φ H w _) hT) (heap_conv h hnb (Map.lend_on hnb) hH0) (args_conv h hnb ha hargs)).mono ?_
  rintro en w' ⟨v, φ', F', rfl, hv, hpost⟩
  obtain ⟨φ2, F2, hp2, hr2⟩ := call_back h hnd hls hts' hH0 hpost hd hdl hfz hv hr
  rw [← hH1] at hp2
  exact ⟨v, φ2, F2, rfl, hr2, hp2⟩
theorem sound_nil {T : Kn} {N : Nat} {all : Array Oper} {e1 : Env} {H1 : Heap} (he : EnvConv H .same e e1) (hH : H = H1) : Sound P T (.ops N all [] e H e1 H1) := by
  subst hH
  intro _ φ F w a R Q K hN _ h hr hK
  exact hK φ F w a rfl hN (env_same h he hr) (.refl h)
theorem sound_reg {T : Kn} {N : Nat} {ops : Array Oper} {e1 : Env} {H1 : Heap} (ih : Sound P T (.ops N ops ops.toList e H e1 H1)) : Sound P T (.reg N ops false e H e1 H1) := by
  intro hd φ F w a R Q id hN hT h hr hK
  refine wpIn_region_list ?_
  rw [← opsK_list]
  exact ih (fun o ho => Array.all_eq_true_iff_forall_mem.1 hd o (Array.mem_def.2 ho)) φ F w a R Q (Q .normal) hN hT h hr hK
theorem countP_less (i : Nat) : ∀ (l : List Nat) (p q : Nat → Bool), i ∈ l → p i = true → (∀ j, q j = true → p j = true ∧ j ≠ i) → l.countP q < l.countP p
  | [], p, q, h, _, _ => by simp at h
  | x :: l, p, q, h, hi, hq => by
    have le : ∀ (l : List Nat), l.countP q ≤ l.countP p := fun l => List.countP_mono_left fun j _ hj => (hq j hj).1
    by_cases hx : x = i
    · subst hx
      have hqx : q x = false := by
        cases hqx : q x with
        | false => rfl
        | true => exact absurd rfl (hq x hqx).2
      rw [List.countP_cons, List.countP_cons, hi, hqx]
      have := le l
      simp; omega
    · have hl : i ∈ l := by simpa [Ne.symm hx] using h
      have := countP_less i l p q hl hi hq
      rw [List.countP_cons, List.countP_cons]
      cases hqx : q x with
      | false => simp; omega
      | true => simp [(hq x hqx).1]; omega
theorem sound_draw {T : Kn} (hm : P.follows .mixedOrders = true) {N : Nat} {ops : Array Oper} {e1 : Env} {H1 : Heap} (es : (Nat → Bool) → Env) (Hs : (Nat → Bool) → Heap) (A : Nat → List Nat) (hb : edgesBack ops = true) (hA : aheadOk ops A = true)
    (he : es (fun _ => false) = e) (hH : Hs (fun _ => false) = H)
    (hi : ∀ (i : Nat) (o : Oper) (S : Nat → Bool), ops[i]? = some o → orElse (A i) S i = false → (∀ i', orElse (A i) S i' = true → ∀ j ∈ A i', orElse (A i) S j = true) → Sound P T (.ops N ops [o] (es (orElse (A i) S)) (Hs (orElse (A i) S)) (es (plus (orElse (A i) S) i)) (Hs (plus (orElse (A i) S) i))))
    (he1 : EnvConv H1 .same (es fun j => decide (j < ops.size)) e1) (hH1 : Hs (fun j => decide (j < ops.size)) = H1) : Sound P T (.reg N ops true e H e1 H1) := by
  intro hd φ F w a R Q id hN hT h hr hK
  refine wpIn_region_any hm ?_
  have key : ∀ (fuel : Nat) (listed : Array Bool) (S : Nat → Bool) (φ' : Place) (F' : Mem) (w' : World) (a' : Act), listed.size = ops.size → (∀ j, S j = listed.getD j false) → (List.range ops.size).countP (fun j => !S j) ≤ fuel →
      (∀ i, S i = true → ∀ j ∈ A i, S j = true) → a'.defers = a.defers → a'.tmps.size = N → Reps φ' F' (es S) a' → Post φ F H w φ' F' (Hs S) w' → wpAnyIn (fence R) 0 P .any ops Q fuel listed a' w' := by
    intro fuel
    induction fuel with
    | zero =>
      intro listed S φ' F' w' a' hsz hS hcnt hdown h1 h2 h3 h4
      have hall : ∀ j, j < ops.size → S j = true := by
        intro j hj
        cases hs : S j with
        | true => rfl
        | false =>
          have : 0 < (List.range ops.size).countP (fun j => !S j) := List.countP_pos_iff.2 ⟨j, by simpa using hj, by simp [hs]⟩
          omega
      have hSe : S = fun j => decide (j < ops.size) := by
        funext j
        by_cases hj : j < ops.size
        · simp [hall j hj, hj]
        · have : listed.getD j false = false := by simp [show ¬ j < listed.size by omega]
          rw [hS, this]; simp [hj]
      refine ⟨?_, ?_⟩
      · cases hr : Region.ready .any ops listed with
        | nil => rfl
        | cons i rs =>
          have hm' : i ∈ Region.ready .any ops listed := by rw [hr]; simp
          obtain ⟨h0, o, ho, -⟩ := mem_ready.1 hm'
          have hi' : i < ops.size := (Array.getElem?_eq_some_iff.1 ho).1
          have := hall i hi'
          rw [hS] at this
          simp [show i < listed.size by omega] at h0 this
          rw [this] at h0; cases h0
      · rw [hSe] at h3 h4
        rw [hH1] at h4
        exact hK φ' F' w' a' h1 h2 (env_same h4.hr he1 h3) h4
    | succ fuel ih =>
      intro listed S φ' F' w' a' hsz hS hcnt hdown h1 h2 h3 h4
      refine ⟨fun hr0 => ?_, fun i hir => ?_⟩
      · -- nothing is ready: all is listed
        have hall : ∀ j, j < ops.size → S j = true := by
          intro j
          induction j using Nat.strongRecOn with
          | _ j ihj =>
            intro hj
            cases hs : S j with
            | true => rfl
            | false =>
              have hmem : j ∈ Region.ready .any ops listed := by
                refine mem_ready.2 ⟨?_, ops[j], by simp [hj], fun ed hed hbind => ?_⟩
                · rw [hS] at hs
                  simp [show j < listed.size by omega] at hs ⊢; exact hs
                · have hbj := List.all_eq_true.1 hb j (by simpa using hj)
                  simp only [Array.getElem?_eq_getElem hj] at hbj
                  have := Array.all_eq_true_iff_forall_mem.1 hbj ed hed
                  simp only [hbind, Bool.not_true, Bool.false_or, decide_eq_true_eq] at this
                  have h5 := ihj ed.on this (by omega)
                  rw [hS] at h5; exact h5
              rw [hr0] at hmem; simp at hmem
        have hSe : S = fun j => decide (j < ops.size) := by
          funext j
          by_cases hj : j < ops.size
          · simp [hall j hj, hj]
          · have : listed.getD j false = false := by simp [show ¬ j < listed.size by omega]
            rw [hS, this]; simp [hj]
        rw [hSe] at h3 h4
        rw [hH1] at h4
        exact hK φ' F' w' a' h1 h2 (env_same h4.hr he1 h3) h4
      · obtain ⟨h0, o, ho, hall⟩ := mem_ready.1 hir
        have hi' : i < ops.size := (Array.getElem?_eq_some_iff.1 ho).1
        have hSi : S i = false := by
          rw [hS]
          simp [show i < listed.size by omega] at h0 ⊢; exact h0
        have hAS : ∀ j ∈ A i, S j = true := by
          intro j hj
          have h5 := List.all_eq_true.1 hA i (by simpa using hi')
          simp only [ho] at h5
          have h6 := List.all_eq_true.1 h5 j hj
          obtain ⟨ed, hed, h7⟩ := Array.any_eq_true'.1 h6
          simp only [Bool.and_eq_true, Bool.or_eq_true, beq_iff_eq, List.contains_iff_mem] at h7
          obtain ⟨h8, h9⟩ := h7
          have h10 := hall ed hed h8
          rw [← hS] at h10
          rcases h9 with h9 | h9
          · rw [← h9]; exact h10
          · exact hdown ed.on h10 j h9
        have hor : orElse (A i) S = S := by
          funext j
          unfold orElse
          by_cases hj : j ∈ A i
          · simp [hj, hAS j hj]
          · have : (A i).contains j = false := by simpa using hj
            rw [this, Bool.false_or]
        have hs := hi i o S ho
        rw [hor] at hs
        have hs := hs hSi hdown
        have hdo : dstOk N o = true := Array.all_eq_true_iff_forall_mem.1 hd o (Array.mem_of_getElem? ho)
        have hplus : ∀ j, plus S i j = (listed.setIfInBounds i true).getD j false := by
          intro j
          unfold plus
          by_cases hj : j = i
          · subst hj; simp [show j < listed.size by omega]
          · rw [getD_set_ne false (Ne.symm hj), ← hS]; simp [hj]
        have hres := hs (fun o' ho' => by simp at ho'; rw [ho']; exact hdo) φ' F' w' a' R Q (wpAnyIn (fence R) 0 P .any ops Q fuel (listed.setIfInBounds i true)) h2 (T.up _ _ h4.mem hT) h4.hr h3 fun φ2 F2 w2 a2 g1 g2 g3 g4 =>
          ih (listed.setIfInBounds i true) (plus S i) φ2 F2 w2 a2 (by simp [hsz]) hplus (by
            have := countP_less i (List.range ops.size) (fun j => !S j) (fun j => !plus S i j) (by simpa using hi') (by simp [hSi]) (fun j hj => by
              simp only [plus, Bool.not_eq_true', Bool.or_eq_false_iff, beq_eq_false_iff_ne] at hj
              exact ⟨by simp [hj.2], hj.1⟩)
            omega) (by
            intro i' hi2 j hj
            unfold plus at hi2 ⊢
            simp only [Bool.or_eq_true, beq_iff_eq] at hi2 ⊢
            rcases hi2 with rfl | hi2
            · exact .inr (hAS j hj)
            · exact .inr (hdown i' hi2 j hj)) (by rw [g1, h1]) g2 g3 (h4.trans g4)
        unfold wpOpIn
        simp only [ho]
        simp only [OpsK] at hres
        exact hres
  have h0 : HR φ F H { w with drawn := w.drawn + 1 } := ⟨h.mem, fun b k hb => ⟨(h.blk b k hb).uni, (h.blk b k hb).at_⟩, h.sep, h.dom⟩
  have hcw : (List.range ops.size).countP (fun j => !(fun _ => false : Nat → Bool) j) ≤ ops.size := by
    refine Nat.le_trans List.countP_le_length (by simp)
  refine key ops.size _ (fun _ => false) φ F _ a (by simp) (fun j => ?_) hcw (fun i hi => by cases hi) rfl hN (by rw [he]; exact hr) (by rw [hH]; exact ⟨.refl φ, .refl F, h0, ⟨rfl, rfl, rfl, Nat.le_refl _, fun _ _ _ => rfl⟩, .refl _ _ _, fun _ _ => .inl rfl⟩)
  by_cases hj : j < ops.size
  · simp [hj]
  · simp [hj]
end Go.RM
namespace Go.RM
set_option linter.unusedVariables false
set_option linter.unusedSimpArgs false
variable {P : Program} {φ φ1 φ' : Place} {F F1 F' : Mem} {H H1 H' : Heap} {w w1 w' : World} {e : Env} {a : Act} {o : Oper}
variable {fn : Func} {N M : Nat} {b : Frame} {cs : List Frame} {m m1 : Machine} {n0 : Nat} {O : Outc}
theorem HR.obj (h : HR φ F H w) {b : Nat} {k : Blk} {c cap : Nat} (hb : H[b]? = some k) (hφ : φ b k.es.length = some (c, cap)) :
    (∃ arr el, w.heap[c]? = some (.cells arr el (0, 0))) ∨ ∃ es cl, w.heap[c]? = some (.map es cl) := by
  rcases (h.blk b k hb).at_ with ⟨h0, _, h1⟩ | ⟨_, _, c1, cap', hφ1, arr', el', hheap, -⟩ | ⟨_, h0, l, c1, cap', _, hφ1, es, cl, hheap, -⟩
  · rw [h0] at hφ; simp only [List.length_nil] at hφ; rw [h1] at hφ; cases hφ
  · rw [hφ] at hφ1; cases hφ1; exact .inl ⟨arr', el', hheap⟩
  · rw [h0] at hφ; simp only [List.length_nil] at hφ; rw [hφ] at hφ1; cases hφ1
    exact .inr ⟨es, cl, hheap⟩
theorem Marks.keep {ds : List Deferred} (hm : Marks n0 ds w) (h : HR φ F H w) (hp : PostM M φ F H w φ' F' H' w') : Marks n0 ds w' := by
  obtain ⟨l, rfl, hn, hl⟩ := hm
  refine ⟨l, rfl, hn, fun D hD => ⟨(hl D hD).1, ?_⟩⟩
  have hd := (hl D hD).2
  rw [hp.keeps.old D (Array.getElem?_eq_some_iff.1 hd).1 fun b k cap hb hφ => ?_]
  · exact hd
  · rcases h.obj hb hφ with ⟨arr, el, hc⟩ | ⟨es, cl, hc⟩ <;> (rw [hd] at hc; cases hc)
theorem Ends.of_steps (hs : Steps P m m1) (h : Ends P fn N b cs m1 M φ F H w n0 H' O) : Ends P fn N b cs m M φ F H w n0 H' O := by
  cases O with
  | ret r => obtain ⟨w', a', t, φ', F', e', h1, h2⟩ := h; exact ⟨w', a', t, φ', F', e', hs.trans h1, h2⟩
  | fall => obtain ⟨w', a', φ', F', h1, h2⟩ := h; exact ⟨w', a', φ', F', hs.trans h1, h2⟩
  | jump c => obtain ⟨w', a', k, φ', F', h1, h2⟩ := h; exact ⟨w', a', k, φ', F', hs.trans h1, h2⟩
theorem Ends.of_post (hp : PostM M φ F H w φ1 F1 H1 w1) (h : Ends P fn N b cs m M φ1 F1 H1 w1 n0 H' O) : Ends P fn N b cs m M φ F H w n0 H' O := by
  cases O with
  | ret r => obtain ⟨w', a', t, φ', F', e', h1, h2, h3, h4, h5, h6⟩ := h; exact ⟨w', a', t, φ', F', e', h1, h2, h3, h4, h5, hp.trans h6⟩
  | fall => obtain ⟨w', a', φ', F', h1, h2⟩ := h; exact ⟨w', a', φ', F', h1, hp.trans h2⟩
  | jump c => obtain ⟨w', a', k, φ', F', h1, h2, h3⟩ := h; exact ⟨w', a', k, φ', F', h1, h2, hp.trans h3⟩
theorem room_post (h : HR φ F H w) (M sz : Nat) : PostM M φ F H w φ F (H ++ [⟨sz, [], 0, none⟩]) w := by
  have none_ : ∀ n, φ H.length n = none := by
    intro n
    cases hc : φ H.length n with
    | none => rfl
    | some x => have := h.dom_lt hc; omega
  have hcases : ∀ (b : Nat) (k : Blk), (H ++ [⟨sz, [], 0, none⟩])[b]? = some k → H[b]? = some k ∨ (b = H.length ∧ k = ⟨sz, [], 0, none⟩) := by
    intro b k hb
    rcases Nat.lt_or_ge b H.length with hlt | hge
    · rw [List.getElem?_append_left hlt] at hb; exact .inl hb
    · rw [List.getElem?_append_right hge] at hb
      have : b - H.length = 0 := by
        rcases Nat.eq_zero_or_pos (b - H.length) with g | g
        · exact g
        · rw [List.getElem?_eq_none (by simp; omega)] at hb; cases hb
      rw [this] at hb
      simp at hb
      exact .inr ⟨by omega, hb.symm⟩
  refine ⟨fun b n x _ hx => hx, .refl F, ⟨h.mem, fun b k hb => ?_, fun b b' k k' c cap c' cap' hne hb hb' hp hp' => ?_, fun b n x hx => ?_⟩, .refl φ H w, fun b k c cap hb hp => ?_, fun _ _ => .inl rfl⟩
  · rcases hcases b k hb with hb | ⟨rfl, rfl⟩
    · exact h.blk b k hb
    · exact ⟨by simp, .inl ⟨rfl, rfl, none_ 0⟩⟩
  · rcases hcases b k hb with hb | ⟨rfl, rfl⟩
    · rcases hcases b' k' hb' with hb' | ⟨rfl, rfl⟩
      · exact h.sep b b' k k' c cap c' cap' hne hb hb' hp hp'
      · rw [none_] at hp'; cases hp'
    · rw [none_] at hp; cases hp
  · obtain ⟨k, hk, hn⟩ := h.dom b n x hx
    have := (List.getElem?_eq_some_iff.1 hk).1
    exact ⟨k, by rw [List.getElem?_append_left this]; exact hk, hn⟩
  · rcases hcases b k hb with hb | ⟨rfl, rfl⟩
    · exact .inr ⟨b, k, cap, hb, hp⟩
    · rw [none_] at hp; cases hp
theorem HR.other (h : HR φ F H w) (hc : ∀ c : Nat, ((∃ arr el fr, w.heap[c]? = some (Obj.cells arr el fr)) ∨ ∃ es cl, w.heap[c]? = some (Obj.map es cl)) → w1.heap[c]? = w.heap[c]?) : HR φ F H w1 := by
  refine ⟨fun c j v hF => ?_, fun b k hb => ?_, h.sep, h.dom⟩
  · obtain ⟨arr, el, fr, hh, hv⟩ := h.mem c j v hF
    exact ⟨arr, el, fr, by rw [hc c (.inl ⟨_, _, _, hh⟩)]; exact hh, hv⟩
  · have hB := h.blk b k hb
    refine ⟨hB.uni, ?_⟩
    rcases hB.at_ with h0 | ⟨h0, h1, c, cap, h2, arr, el, hheap, h3⟩ | ⟨h0, h1, l, c, cap, h2, h3, es, cl, hheap, h4⟩
    · exact .inl h0
    · exact .inr (.inl ⟨h0, h1, c, cap, h2, arr, el, by rw [hc c (.inl ⟨_, _, _, hheap⟩)]; exact hheap, h3⟩)
    · exact .inr (.inr ⟨h0, h1, l, c, cap, h2, h3, es, cl, by rw [hc c (.inr ⟨_, _, hheap⟩)]; exact hheap, h4⟩)
theorem step_take {fr : Frame} {D : Nat} {ds : List Deferred} (hm : fr.mode = .returning) (hd : fr.defers = { target := .collected D, args := #[] } :: ds) (hD : w.heap[D]? = some (.deferred (some []))) :
    ∃ w2, step P (lone fr cs w) = .next (lone { fr with defers := ds } cs w2) ∧ w2.heap.size = w.heap.size ∧ (∀ c, c ≠ D → w2.heap[c]? = w.heap[c]?) ∧ w2.os = w.os ∧ w2.tape = w.tape ∧ w2.output = w.output := by
  have hrun := run_takeDeferred (P := P) hD
  refine ⟨w.putObj D (.deferred none), step_lone_go (by simp [stepG, unwind, hm, hd, Sem.runT_eq, hrun, GStep.bare_after]), ?_, fun c hc => ?_, rfl, rfl, rfl⟩
  · simp [World.putObj]
  · exact World.putObj_heap_other hc
theorem steps_take : ∀ (l : List Nat) (fr : Frame) (w : World), fr.mode = .returning → fr.defers = l.map (fun D => { target := .collected D, args := #[] }) → l.Nodup → (∀ D ∈ l, w.heap[D]? = some (.deferred (some []))) →
    ∃ w2, Steps P (lone fr cs w) (lone { fr with defers := [] } cs w2) ∧ w2.heap.size = w.heap.size ∧ (∀ c, c ∉ l → w2.heap[c]? = w.heap[c]?) ∧ w2.os = w.os ∧ w2.tape = w.tape ∧ w2.output = w.output
  | [], fr, w, hm, hd, _, _ => by
    refine ⟨w, ?_, rfl, fun _ _ => rfl, rfl, rfl, rfl⟩
    have : { fr with defers := [] } = fr := by cases fr; simp_all
    rw [this]; exact .refl P _
  | D :: l, fr, w, hm, hd, hn, hD => by
    rw [List.nodup_cons] at hn
    obtain ⟨w1, h1, h2, h3, h4, h5, h6⟩ := step_take (P := P) (cs := cs) (w := w) hm (by simpa using hd) (hD D (by simp))
    obtain ⟨w2, g1, g2, g3, g4, g5, g6⟩ := steps_take l { fr with defers := l.map (fun D => { target := .collected D, args := #[] }) } w1 hm rfl hn.2 (fun D' hD' => by
      rw [h3 D' (by rintro rfl; exact hn.1 hD')]; exact hD D' (by simp [hD']))
    refine ⟨w2, .head h1 g1, by rw [g2, h2], fun c hc => ?_, by rw [g4, h4], by rw [g5, h5], by rw [g6, h6]⟩
    simp only [List.mem_cons, not_or] at hc
    rw [g3 c hc.2, h3 c hc.1]
theorem sound_enter {T : Kn} {f : FuncId} {c : Code} {args : List PV} {r : PV} (hf : P.funcs[f]? = some fn) (hb : fn.body = some c)
    (ih : Sound P T (.run fn (max args.length fn.ntmps) H.length false [.code c] (argEnv args) H (.ret r) H')) : Sound P T (.callH f args H r H') := by
  intro φ F w vs hT h hargs cs
  let b : Frame := { (default : Frame) with fn := f, kind := .normal, roundOf := none }
  have henter : Frame.enter P f vs .normal = b.atR { tmps := vs ++ Array.replicate (fn.ntmps - vs.size) undef, defers := [] } [.code c] := by
    simp [Frame.enter, Frame.atR, hf, hb, b]
  have hreps : Reps φ F (argEnv args) { tmps := vs ++ Array.replicate (fn.ntmps - vs.size) undef, defers := [] } := by
    intro t
    unfold argEnv
    rcases Nat.lt_or_ge t args.length with ht | ht
    · have hv : t < vs.size := by rw [← hargs.1]; exact ht
      have := hargs.2 t args[t] vs[t] (by simp [ht]) (by simp [hv])
      have e1 : args.getD t .undef = args[t] := by simp [ht]
      have e2 : (vs ++ Array.replicate (fn.ntmps - vs.size) undef).getD t undef = vs[t] := by
        simp [Array.getD_eq_getD_getElem?, Array.getElem?_append, hv]
      simp only [e1, e2]; exact this
    · have e1 : args.getD t .undef = .undef := by simp [List.getD_eq_getElem?_getD, List.getElem?_eq_none ht]
      rw [e1]; exact .imm (.undef _)
  have hends := ih φ F w { tmps := vs ++ Array.replicate (fn.ntmps - vs.size) undef, defers := [] } b cs w.heap.size rfl ⟨[], rfl, List.nodup_nil, by simp⟩ (Nat.le_refl _) (by simp [hargs.1]; omega) hT h hreps
  obtain ⟨w', a', t, φ', F', e', hsteps, ⟨l, hl, hnd, hD⟩, hsz, hr', hres, hpost⟩ := hends
  have hp := hpost.toPost h
  obtain ⟨w2, g1, g2, g3, g4, g5, g6⟩ := steps_take (P := P) (cs := cs) l { b.atR a' t with mode := .returning } w' rfl hl hnd (fun D h => (hD D h).2)
  have hother : ∀ c : Nat, ((∃ arr el fr, w'.heap[c]? = some (Obj.cells arr el fr)) ∨ ∃ es cl, w'.heap[c]? = some (Obj.map es cl)) → w2.heap[c]? = w'.heap[c]? := by
    intro c hc
    refine g3 c fun hcl => ?_
    have := (hD c hcl).2
    rcases hc with ⟨arr, el, fr, hc⟩ | ⟨es, cl, hc⟩ <;> (rw [this] at hc; cases hc)
  have hr2 : HR φ' F' H' w2 := hp.hr.other hother
  obtain ⟨v, hv, hrep⟩ := results_ok hr2 hr' hres
  refine ⟨.returned v, w2, { b.atR a' t with mode := .returning, defers := [] }, ⟨v, φ', F', rfl, hrep, ⟨hp.place, hp.mem, hr2, ⟨by rw [g4]; exact hp.keeps.os, by rw [g5]; exact hp.keeps.tape, by rw [g6]; exact hp.keeps.output, by rw [g2]; exact hp.keeps.size, fun c hc hn => ?_⟩, hp.later, hp.fresh⟩⟩, ?_, rfl, ?_⟩
  · rw [g3 c (fun hcl => ?_)]
    · exact hp.keeps.old c hc hn
    · have := (hD c hcl).1; omega
  · rw [henter]; exact hsteps.trans g1
  · exact ⟨rfl, rfl, rfl, fn, hf, hv⟩
theorem sound {T : Kn} (hm : P.follows .mixedOrders = true) {X : FuncId → List PV → Heap → PV → Heap → Prop} (hX : ∀ f args H r H', X f args H r H' → SoundCall P T f args H r H') {j : J} (hd : D P X j) : Sound P T j := by
  induction hd with
  | skip _ ih => exact fun φ F w a b cs n0 h1 h2 h3 h4 hT h5 h6 => .of_steps (.one stepR_skip) (ih φ F w a b cs n0 h1 h2 h3 h4 hT h5 h6)
  | label _ ih => exact fun φ F w a b cs n0 h1 h2 h3 h4 hT h5 h6 => .of_steps (.one stepR_label) (ih φ F w a b cs n0 h1 h2 h3 h4 hT h5 h6)
  | seq _ ih => exact fun φ F w a b cs n0 h1 h2 h3 h4 hT h5 h6 => .of_steps (.one stepR_seq) (ih φ F w a b cs n0 h1 h2 h3 h4 hT h5 h6)
  | @cond fn N M rd c x y k e H O H' t hc _ ih =>
    intro φ F w a b cs n0 h1 h2 h3 h4 hT h5 h6
    have hv := h6.ev c
    rw [hc] at hv
    exact .of_steps (.one (stepR_cond hv.val_inv)) (ih φ F w a b cs n0 h1 h2 h3 h4 hT h5 h6)
  | block _ ih => exact fun φ F w a b cs n0 h1 h2 h3 h4 hT h5 h6 => .of_steps (.one stepR_block) (ih φ F w a b cs n0 h1 h2 h3 h4 hT h5 h6)
  | inBlock _ ih => exact fun φ F w a b cs n0 h1 h2 h3 h4 hT h5 h6 => .of_steps (.one stepR_inBlock) (ih φ F w a b cs n0 h1 h2 h3 h4 hT h5 h6)
  | loop _ ih => exact fun φ F w a b cs n0 h1 h2 h3 h4 hT h5 h6 => .of_steps (.one stepR_loop) (ih φ F w a b cs n0 h1 h2 h3 h4 hT h5 h6)
  | inLoop _ ih => exact fun φ F w a b cs n0 h1 h2 h3 h4 hT h5 h6 => .of_steps (.one stepR_inLoop) (ih φ F w a b cs n0 h1 h2 h3 h4 hT h5 h6)
  | exit hk _ ih => exact fun φ F w a b cs n0 h1 h2 h3 h4 hT h5 h6 => .of_steps (.one (stepR_exit hk)) (ih φ F w a b cs n0 h1 h2 h3 h4 hT h5 h6)
  | exitOut hk => exact fun φ F w a b cs n0 h1 h2 h3 h4 hT h5 h6 => ⟨w, a, _, φ, F, .refl P _, fun id hid => by cases hid; exact hk, (Post.refl h5).toM _⟩
  | ret hr =>
    intro φ F w a b cs n0 h1 h2 h3 h4 hT h5 h6
    exact ⟨w, a, _, φ, F, _, .one (stepR_ret (by simpa using h1)), h2, h4, h6, hr, (Post.refl h5).toM _⟩
  | retOut => exact fun φ F w a b cs n0 h1 h2 h3 h4 hT h5 h6 => ⟨w, a, _, φ, F, .refl P _, fun id hid => (by cases hid), (Post.refl h5).toM _⟩
  | done hr =>
    intro φ F w a b cs n0 h1 h2 h3 h4 hT h5 h6
    exact ⟨w, a, _, φ, F, _, .one (stepR_end (by simpa using h1)), h2, h4, h6, hr, (Post.refl h5).toM _⟩
  | fall => exact fun φ F w a b cs n0 h1 h2 h3 h4 hT h5 h6 => ⟨w, a, φ, F, .refl P _, (Post.refl h5).toM _⟩
  | @region fn N M rd id ops draw k e H e1 H1 O H' hd _ _ ih1 ih2 =>
    intro φ F w a b cs n0 h1 h2 h3 h4 hT h5 h6
    have hw := ih1 hd φ F w a b.roundOf (fun ex a' w' => ex = .normal ∧ ∃ φ' F', a'.defers = a.defers ∧ a'.tmps.size = N ∧ Reps φ' F' e1 a' ∧ Post φ F H w φ' F' H1 w') id h4 hT h5 h6 fun φ' F' w' a' g1 g2 g3 g4 => ⟨rfl, φ', F', g1, g2, g3, g4⟩
    obtain ⟨ex, a', w', ⟨rfl, φ', F', g1, g2, g3, g4⟩, harr⟩ := hw b k cs rfl trivial (fun _ h => by cases h)
    have hs : Steps P (lone (b.atR a (.code (.region id ops draw) :: k)) cs w) (lone (b.atR a' k) cs w') := StepsIn.steps harr
    exact .of_steps hs (.of_post (g4.toM M) (ih2 φ' F' w' a' b cs n0 h1 (by rw [g1]; exact h2.keep h5 (g4.toM M)) (Nat.le_trans h3 g4.keeps.size) g2 (T.up _ _ g4.mem hT) g4.hr g3))
  | @room fn N M rd k e H O H' sz _ ih =>
    intro φ F w a b cs n0 h1 h2 h3 h4 hT h5 h6
    have hp := room_post h5 M sz
    exact .of_post hp (ih φ F w a b cs n0 h1 h2 h3 h4 hT hp.hr h6)
  | @keep fn N M rd k e e1 H H1 O H' bs hM hnd he hH _ ih =>
    intro φ F w a b cs n0 h1 h2 h3 h4 hT h5 h6
    have hp := keep_post h5 hM hnd hH
    exact .of_post hp (ih _ _ w a b cs n0 h1 h2 h3 h4 (T.up _ _ hp.mem hT) hp.hr (env_conv h5 (Map.keep_on hnd) he h6))
  | reg _ ih => exact sound_reg ih
  | draw es Hs A hb hA he hH _ he1 hH1 ih => exact sound_draw hm es Hs A hb hA he hH ih he1 hH1
  | nil0 => exact fun _ φ F w a R Q K hN _ h hr hK => hK φ F w a rfl hN hr (.refl h)
  | nil h hH => exact sound_nil h hH
  | no hw _ ih => exact sound_no hw ih
  | op tgt hw ho _ ih => exact sound_op hw ho ih
  | callI hw hf _ _ ih1 ih2 => exact sound_callI hw hf ih1 ih2
  | focus bs ls ts fz ha hH0 hnd hls hts _ hr hd hdl hfz hH1 ih => exact sound_focus ha hH0 hnd hls hts ih hr hd hdl hfz hH1
  | nilQ pre post _ ih =>
    intro φ F w vs hT hH hargs
    obtain ⟨z, k, h⟩ := hargs.nil
    exact ih z k φ F w vs hT hH h
  | ext h => exact hX _ _ _ _ _ h
  | callH hf hb _ ih => exact sound_enter hf hb ih
end Go.RM
namespace Go.RM
set_option linter.unusedVariables false
set_option linter.unusedSimpArgs false
section
variable {P : Program} {e : Env} {d : Option Tmp} {x y c z f : Operand} {t u ty : TypeId} {pos : String} {af : Array Edge} {g : Option (Nat × Bool)} {H H1 : Heap} {tgt : Nat}
def bitOp (op : BinOp) (k : IntKind) (i j : Int) : Int :=
  let a := BitVec.ofInt k.bits i
  let b := BitVec.ofInt k.bits j
  k.wrap (match op with
    | .and => a &&& b
    | .or => a ||| b
    | .xor => a ^^^ b
    | _ => a &&& ~~~b).toNat
theorem mvV {v : Value} (hx : ev e x = .val v) : aop P e ⟨d, .move x, ty, pos, af, g⟩ H tgt = some (.val v, H) := by simp [aop, hx]
theorem mvR {es : List (List PV)} (hx : ev e x = .rows es) : aop P e ⟨d, .move x, ty, pos, af, g⟩ H tgt = some (.rows es, H) := by simp [aop, hx]
theorem mvO {b n : Nat} (hx : ev e x = .own b n) : aop P e ⟨d, .move x, ty, pos, af, g⟩ H tgt = some (.own b n, H) := by simp [aop, hx]
theorem mvF {q : FuncId} {cs : List PV} (hx : ev e x = .clo q cs) : aop P e ⟨d, .move x, ty, pos, af, g⟩ H tgt = some (.clo q cs, H) := by simp [aop, hx]
theorem mvT {cs : List PV} (hx : ev e x = .tuple cs) : aop P e ⟨d, .move x, ty, pos, af, g⟩ H tgt = some (.tuple cs, H) := by simp [aop, hx]
theorem asV {v : Value} (hx : ev e x = .val v) : aop P e ⟨d, .assign x, ty, pos, af, g⟩ H tgt = some (.val v, H) := by simp [aop, hx]
theorem asR {es : List (List PV)} (hx : ev e x = .rows es) : aop P e ⟨d, .assign x, ty, pos, af, g⟩ H tgt = some (.rows es, H) := by simp [aop, hx]
theorem asO {b n : Nat} (hx : ev e x = .own b n) : aop P e ⟨d, .assign x, ty, pos, af, g⟩ H tgt = some (.own b n, H) := by simp [aop, hx]
theorem pkTV {B : Bool} {v : Value} (hc : ev e c = .val (.bool B)) (hB : B = true) (hx : ev e x = .val v) : aop P e ⟨d, .pick c x y, ty, pos, af, g⟩ H tgt = some (.val v, H) := by simp [aop, hc, hB, hx]
theorem pkFV {B : Bool} {v : Value} (hc : ev e c = .val (.bool B)) (hB : B = false) (hx : ev e y = .val v) : aop P e ⟨d, .pick c x y, ty, pos, af, g⟩ H tgt = some (.val v, H) := by simp [aop, hc, hB, hx]
theorem quietly_bind {α β : Type} (s : Sem α) (f : α → Sem β) : quietly P (s >>= f) = (quietly P s).bind fun a => quietly P (f a) := by
  show quietly P (s.bind f) = _
  induction s with
  | pure a => rfl
  | program k ih => exact ih P
  | _ => rfl
theorem quietly_pure {α : Type} (a : α) : quietly P (pure a : Sem α) = some a := rfl
theorem quietly_map {α β : Type} (s : Sem α) (f : α → β) : quietly P (f <$> s) = (quietly P s).map f := by
  have h : (f <$> s : Sem β) = s >>= fun a => pure (f a) := rfl
  rw [h, quietly_bind]
  cases quietly P s <;> rfl
theorem generic_int {op : BinOp} {k : IntKind} {i j : Int} {v : Value} (hx : ev e x = .val (.int k i)) (hy : ev e y = .val (.int k j)) (hv : quietly P (binOp op t (.int k i) (.int k j)) = some v) :
    generic P e ⟨d, .binOp op t x y u, ty, pos, af, g⟩ H = some (ofV v, H) := by
  have hg : eqGuard op t x y (.int k i) (.int k j) = pure () := by unfold eqGuard; split <;> rfl
  have h2 : quietly P (execOp (fun z => (toV? (ev e z)).getD undef) ⟨d, .binOp op t x y u, ty, pos, af, g⟩) = some (.value v) := by
    show quietly P (do let a ← (do eqGuard op t x y _ _; binOp op t _ _); pure (Next.value a)) = _
    simp only [hx, hy, toV?, Option.getD_some]
    rw [hg, quietly_bind, quietly_bind, quietly_pure]
    simp only [Option.bind_some, hv, quietly_pure]
  unfold generic
  rw [if_pos (by simp [Op.operands, hx, hy, toV?]), h2]
theorem aop_int {op : BinOp} {k : IntKind} {i j : Int} {v : Value} (hx : ev e x = .val (.int k i)) (hy : ev e y = .val (.int k j)) (hv : quietly P (binOp op t (.int k i) (.int k j)) = some v) :
    aop P e ⟨d, .binOp op t x y u, ty, pos, af, g⟩ H tgt = some (ofV v, H) := by
  have hn : isNil (P.underlying t) (.val (.int k i)) = none := by
    unfold isNil; split <;> simp_all
  have := generic_int (P := P) (d := d) (t := t) (u := u) (ty := ty) (pos := pos) (af := af) (g := g) (H := H) hx hy hv
  cases op <;> simp only [aop, hx, hn] <;> exact this
theorem addI {k : IntKind} {i j : Int} (hx : ev e x = .val (.int k i)) (hy : ev e y = .val (.int k j)) : aop P e ⟨d, .binOp .add t x y u, ty, pos, af, g⟩ H tgt = some (.val (.int k (k.wrap (i + j))), H) := aop_int (op := .add) (v := .int k (k.wrap (i + j))) hx hy (by simp [binOp, Op.intArith, Op.intCmp, quietly_pure])
theorem subI {k : IntKind} {i j : Int} (hx : ev e x = .val (.int k i)) (hy : ev e y = .val (.int k j)) : aop P e ⟨d, .binOp .sub t x y u, ty, pos, af, g⟩ H tgt = some (.val (.int k (k.wrap (i - j))), H) := aop_int (op := .sub) (v := .int k (k.wrap (i - j))) hx hy (by simp [binOp, Op.intArith, Op.intCmp, quietly_pure])
theorem mulI {k : IntKind} {i j : Int} (hx : ev e x = .val (.int k i)) (hy : ev e y = .val (.int k j)) : aop P e ⟨d, .binOp .mul t x y u, ty, pos, af, g⟩ H tgt = some (.val (.int k (k.wrap (i * j))), H) := aop_int (op := .mul) (v := .int k (k.wrap (i * j))) hx hy (by simp [binOp, Op.intArith, Op.intCmp, quietly_pure])
theorem eqI {k : IntKind} {i j : Int} (hx : ev e x = .val (.int k i)) (hy : ev e y = .val (.int k j)) : aop P e ⟨d, .binOp .eql t x y u, ty, pos, af, g⟩ H tgt = some (.val (.bool (i == j)), H) := aop_int (op := .eql) (v := .bool (i == j)) hx hy (by simp [binOp, Op.intArith, Op.intCmp, quietly_pure])
theorem neI {k : IntKind} {i j : Int} (hx : ev e x = .val (.int k i)) (hy : ev e y = .val (.int k j)) : aop P e ⟨d, .binOp .neq t x y u, ty, pos, af, g⟩ H tgt = some (.val (.bool (i != j)), H) := aop_int (op := .neq) (v := .bool (i != j)) hx hy (by simp [binOp, Op.intArith, Op.intCmp, quietly_pure])
theorem ltI {k : IntKind} {i j : Int} (hx : ev e x = .val (.int k i)) (hy : ev e y = .val (.int k j)) : aop P e ⟨d, .binOp .lss t x y u, ty, pos, af, g⟩ H tgt = some (.val (.bool (decide (i < j))), H) := aop_int (op := .lss) (v := .bool (decide (i < j))) hx hy (by simp [binOp, Op.intArith, Op.intCmp, quietly_pure])
theorem leI {k : IntKind} {i j : Int} (hx : ev e x = .val (.int k i)) (hy : ev e y = .val (.int k j)) : aop P e ⟨d, .binOp .leq t x y u, ty, pos, af, g⟩ H tgt = some (.val (.bool (decide (i ≤ j))), H) := aop_int (op := .leq) (v := .bool (decide (i ≤ j))) hx hy (by simp [binOp, Op.intArith, Op.intCmp, quietly_pure])
theorem gtI {k : IntKind} {i j : Int} (hx : ev e x = .val (.int k i)) (hy : ev e y = .val (.int k j)) : aop P e ⟨d, .binOp .gtr t x y u, ty, pos, af, g⟩ H tgt = some (.val (.bool (decide (i > j))), H) := aop_int (op := .gtr) (v := .bool (decide (i > j))) hx hy (by simp [binOp, Op.intArith, Op.intCmp, quietly_pure])
theorem geI {k : IntKind} {i j : Int} (hx : ev e x = .val (.int k i)) (hy : ev e y = .val (.int k j)) : aop P e ⟨d, .binOp .geq t x y u, ty, pos, af, g⟩ H tgt = some (.val (.bool (decide (i ≥ j))), H) := aop_int (op := .geq) (v := .bool (decide (i ≥ j))) hx hy (by simp [binOp, Op.intArith, Op.intCmp, quietly_pure])
theorem andI {k : IntKind} {i j : Int} (hx : ev e x = .val (.int k i)) (hy : ev e y = .val (.int k j)) : aop P e ⟨d, .binOp .and t x y u, ty, pos, af, g⟩ H tgt = some (.val (.int k (bitOp .and k i j)), H) := aop_int (op := .and) (v := .int k (bitOp .and k i j)) hx hy (by simp [binOp, Op.intBits, bitOp, quietly_pure])
theorem orI {k : IntKind} {i j : Int} (hx : ev e x = .val (.int k i)) (hy : ev e y = .val (.int k j)) : aop P e ⟨d, .binOp .or t x y u, ty, pos, af, g⟩ H tgt = some (.val (.int k (bitOp .or k i j)), H) := aop_int (op := .or) (v := .int k (bitOp .or k i j)) hx hy (by simp [binOp, Op.intBits, bitOp, quietly_pure])
theorem andNotI {k : IntKind} {i j : Int} (hx : ev e x = .val (.int k i)) (hy : ev e y = .val (.int k j)) : aop P e ⟨d, .binOp .andNot t x y u, ty, pos, af, g⟩ H tgt = some (.val (.int k (bitOp .andNot k i j)), H) := aop_int (op := .andNot) (v := .int k (bitOp .andNot k i j)) hx hy (by simp [binOp, Op.intBits, bitOp, quietly_pure])
end
end Go.RM
namespace Go.RM
set_option linter.unusedVariables false
set_option linter.unusedSimpArgs false
set_option linter.unusedSectionVars false
def rdl {α : Type} [Inhabited α] (l : List α) (i : Int) : α := l.getD i.toNat default
theorem rdl_get {α : Type} [Inhabited α] {l : List α} {i : Int} (h0 : 0 ≤ i) (h1 : i < l.length) : l[i.toNat]? = some (rdl l i) := by
  have : i.toNat < l.length := by omega
  simp [rdl, this]
def setl {α : Type} (l : List α) (i : Int) (a : α) : List α := l.set i.toNat a
structure SlT (P : Program) (t : TypeId) (s B : Nat) {α : Type} (c : α → List PV) : Prop where
  ex : ∃ el i z, P.underlying t = some (.slice el) ∧ P.info? el = some i ∧ i.size = s ∧ i.bytes = B ∧ i.zero = some z ∧ z.cells.size = s
  pos : 0 < s
  bpos : 0 < B
  len : ∀ a, (c a).length = s
  free : ∀ a, (c a).all (PV.free deep) = true
  one : ∀ a, (c a).all PV.one = true
theorem SlT.of {P : Program} {t el : TypeId} {s B : Nat} {α : Type} {c : α → List PV} {i : TypeInfo} {z : Value} (h1 : P.underlying t = some (.slice el)) (h2 : P.info? el = some i) (h3 : i.size = s) (h4 : i.bytes = B) (h5 : i.zero = some z) (h6 : z.cells.size = s)
    (pos : 0 < s) (bpos : 0 < B) (h : ∀ a, (c a).length = s ∧ (c a).all (PV.free deep) = true ∧ (c a).all PV.one = true) : SlT P t s B c := ⟨⟨el, i, z, h1, h2, h3, h4, h5, h6⟩, pos, bpos, fun a => (h a).1, fun a => (h a).2.1, fun a => (h a).2.2⟩
theorem SlT.of2 {P : Program} {t el : TypeId} {s B : Nat} {α : Type} {c : α → List PV} (h1 : P.underlying t = some (.slice el)) (h2 : ((P.info? el).map fun i => (i.size, i.bytes, i.zero.map (·.cells.size))) = some (s, B, some s))
    (pos : 0 < s) (bpos : 0 < B) (h : ∀ a, (c a).length = s ∧ (c a).all (PV.free deep) = true ∧ (c a).all PV.one = true) : SlT P t s B c := by
  simp only [Option.map_eq_some_iff, Prod.mk.injEq] at h2
  obtain ⟨i, hi, h3, h4, z, h5, h6⟩ := h2
  exact SlT.of h1 hi h3 h4 h5 h6 pos bpos h
theorem SlT.sizeOf {P : Program} {t s B : Nat} {α : Type} {c : α → List PV} (h : SlT P t s B c) : ∃ el, P.underlying t = some (.slice el) ∧ sizeOf? P el = some s := by
  obtain ⟨el, i, z, h1, h2, h3, -⟩ := h.ex
  exact ⟨el, h1, by simp [sizeOf?, h2, h3]⟩
def placesOf (P : Program) (t : TypeId) : Option (List (Nat × Nat)) := match P.underlying t with
  | some (.struct fs) => omap (fun (f : Field) => (sizeOf? P f.type).map fun s => (f.offset, s)) fs.toList
  | _ => none
def fieldAt? (P : Program) (t : TypeId) (f : Nat) : Option Nat := (fieldOf P t f).bind fun d => if sizeOf? P d.2 = some 0 ∨ sizeOf? P d.2 = none then none else some d.1
section
variable {P : Program} {e : Env} {d : Option Tmp} {x y c z f : Operand} {t u ty : TypeId} {pos : String} {af : Array Edge} {g : Option (Nat × Bool)} {H H1 : Heap} {tgt : Nat}
variable {b n sz i off s B fr : Nat} {p : PV} {α : Type} [Inhabited α] {cf lit : α → List PV} {l m : List α} {a : α} {k : IntKind} {j : Int}
theorem notB {v : Bool} (hx : ev e x = .val (.bool v)) : aop P e ⟨d, .unOp .not t x, ty, pos, af, g⟩ H tgt = some (.val (.bool (!v)), H) := by
  simp [aop, generic, Op.operands, hx, toV?, execOp, Op.unary, quietly_bind, quietly_pure, ofV]
theorem run_quiet_und {d : TypeDesc} (h : P.underlying t = some d) : quietly P (underlying t) = some d := by
  simp [underlying, h, quietly_bind, quietly_pure, quietly, Bind.bind, Sem.bind, program]
theorem convI {k' : IntKind} {ds : TypeDesc} (hs : P.underlying t = some ds) (hd : P.underlying u = some (.int k')) (hx : ev e x = .val (.int k j)) : aop P e ⟨d, .convert t u x, ty, pos, af, g⟩ H tgt = some (.val (.int k' (k'.wrap j)), H) := by
  have : quietly P (convert t u (.int k j)) = some (.int k' (k'.wrap j)) := by
    simp only [convert, quietly_bind, run_quiet_und hs, run_quiet_und hd, Option.bind_some]
    rfl
  have h2 : quietly P (execOp (fun z => (toV? (ev e z)).getD undef) ⟨d, .convert t u x, ty, pos, af, g⟩) = some (.value (.int k' (k'.wrap j))) := by
    show quietly P (do let a ← convert t u _; pure (Next.value a)) = _
    simp only [hx, toV?, Option.getD_some, quietly_bind, this, Option.bind_some, quietly_pure]
  simp only [aop]
  unfold generic
  rw [if_pos (by simp [Op.operands, hx, toV?]), h2]
  rfl
theorem shift_int {op : BinOp} {k' : IntKind} {j' : Int} {v : Value} (hop : op = .shl ∨ op = .shr) (hx : ev e x = .val (.int k j)) (hy : ev e y = .val (.int k' j')) (hv : quietly P (Op.shift op k j k' j') = some v) :
    aop P e ⟨d, .binOp op t x y u, ty, pos, af, g⟩ H tgt = some (ofV v, H) := by
  have hg : eqGuard op t x y (.int k j) (.int k' j') = pure () := by unfold eqGuard; split <;> rfl
  have hb : binOp op t (.int k j) (.int k' j') = Op.shift op k j k' j' := by rcases hop with rfl | rfl <;> rfl
  have h2 : quietly P (execOp (fun z => (toV? (ev e z)).getD undef) ⟨d, .binOp op t x y u, ty, pos, af, g⟩) = some (.value v) := by
    show quietly P (do let a ← (do eqGuard op t x y _ _; binOp op t _ _); pure (Next.value a)) = _
    simp only [hx, hy, toV?, Option.getD_some]
    rw [hg, hb, quietly_bind, quietly_bind, quietly_pure]
    simp only [Option.bind_some, hv, quietly_pure]
  have h3 : generic P e ⟨d, .binOp op t x y u, ty, pos, af, g⟩ H = some (ofV v, H) := by
    unfold generic
    rw [if_pos (by simp [Op.operands, hx, hy, toV?]), h2]
  rcases hop with rfl | rfl <;> exact h3
def shlI (k : IntKind) (i j : Int) : Int := k.wrap (i * 2 ^ (min j.toNat k.bits))
def shrI (k : IntKind) (i j : Int) : Int := i.fdiv (2 ^ (min j.toNat k.bits))
theorem shl_ {k' : IntKind} {j' : Int} (hx : ev e x = .val (.int k j)) (hy : ev e y = .val (.int k' j')) (h0 : 0 ≤ j') : aop P e ⟨d, .binOp .shl t x y u, ty, pos, af, g⟩ H tgt = some (.val (.int k (shlI k j j')), H) :=
  shift_int (v := .int k (shlI k j j')) (.inl rfl) hx hy (by simp [Op.shift, show ¬ j' < 0 by omega, quietly_pure, shlI])
theorem shr_ {k' : IntKind} {j' : Int} (hx : ev e x = .val (.int k j)) (hy : ev e y = .val (.int k' j')) (h0 : 0 ≤ j') : aop P e ⟨d, .binOp .shr t x y u, ty, pos, af, g⟩ H tgt = some (.val (.int k (shrI k j j')), H) :=
  shift_int (v := .int k (shrI k j j')) (.inr rfl) hx hy (by simp [Op.shift, show ¬ j' < 0 by omega, quietly_pure, shrI])

theorem ldP {o : Nat} (hx : ev e x = .ptr b n sz i o) (hs : sizeOf? P t = some 1) (hg : isAgg? P t = some false) (hr : rd H (.ptr b n sz i o) 1 = some [p]) : aop P e ⟨d, .load t x, ty, pos, af, g⟩ H tgt = some (p, H) := by
  simp [aop, hs, hg, hx, hr, asVar]
theorem ldG {cs : List PV} {o : Nat} (hx : ev e x = .ptr b n sz i o) (hs : sizeOf? P t = some s) (hg : isAgg? P t = some true) (hr : rd H (.ptr b n sz i o) s = some cs) : aop P e ⟨d, .load t x, ty, pos, af, g⟩ H tgt = some (.agg cs, H) := by
  simp [aop, hs, hg, hx, hr, asVar]
theorem ldC {cs : List PV} {o : Nat} (hx : ev e x = .cptr cs o) (hs : sizeOf? P t = some 1) (hg : isAgg? P t = some false) (hr : rd H (.cptr cs o) 1 = some [p]) : aop P e ⟨d, .load t x, ty, pos, af, g⟩ H tgt = some (p, H) := by
  simp [aop, hs, hg, hx, hr, asVar]
theorem ldCG {cs ds : List PV} {o : Nat} (hx : ev e x = .cptr cs o) (hs : sizeOf? P t = some s) (hg : isAgg? P t = some true) (hr : rd H (.cptr cs o) s = some ds) : aop P e ⟨d, .load t x, ty, pos, af, g⟩ H tgt = some (.agg ds, H) := by
  simp [aop, hs, hg, hx, hr, asVar]
theorem rd_own {o size : Nat} (hb : H[b]? = some ⟨sz, l.map cf, fr, none⟩) (hn : n = l.length) (hlen : ∀ a, (cf a).length = sz) (h0 : 0 ≤ j) (h1 : j < l.length) (ho : o + size ≤ sz) (hlit : cf (rdl l j) = lit (rdl l j)) :
    rd H (.ptr b n sz j.toNat o) size = some (((lit (rdl l j)).drop o).take size) := by
  have hi : (l.map cf)[j.toNat]? = some (lit (rdl l j)) := by rw [List.getElem?_map, rdl_get h0 h1, Option.map_some, hlit]
  simp only [rd, hb, Option.bind_some, List.length_map]
  rw [if_pos ⟨hn.symm, trivial, ho⟩, hi]; rfl
theorem ldOG {o : Nat} {cs : List PV} (hT : SlT P u sz B cf) (hx : ev e x = .ptr b n sz j.toNat o) (hs : sizeOf? P t = some s) (hg : isAgg? P t = some true) (hb : H[b]? = some ⟨sz, l.map cf, fr, none⟩) (hn : n = l.length) (hlit : ∀ a, cf a = lit a) (h0 : 0 ≤ j) (h1 : j < l.length) (ho : o + s ≤ sz)
    (hr : ((lit (rdl l j)).drop o).take s = cs) : aop P e ⟨d, .load t x, ty, pos, af, g⟩ H tgt = some (.agg cs, H) :=
  ldG hx hs hg (by rw [rd_own hb hn hT.len h0 h1 ho (hlit _), hr])
theorem faP {o o' q : Nat} (hf : fieldAt? P t q = some o') (hx : ev e x = .ptr b n sz i o) : aop P e ⟨d, .fieldAddr t x q, ty, pos, af, g⟩ H tgt = some (.ptr b n sz i (o + o'), H) := by
  unfold fieldAt? at hf
  simp only [Option.bind_eq_some_iff] at hf
  obtain ⟨dd, h1, h2⟩ := hf
  split at h2
  · cases h2
  · rename_i h3; cases h2; simp [aop, h1, h3, hx]
theorem faC {o o' q : Nat} {cs : List PV} (hf : fieldAt? P t q = some o') (hx : ev e x = .cptr cs o) : aop P e ⟨d, .fieldAddr t x q, ty, pos, af, g⟩ H tgt = some (.cptr cs (o + o'), H) := by
  unfold fieldAt? at hf
  simp only [Option.bind_eq_some_iff] at hf
  obtain ⟨dd, h1, h2⟩ := hf
  split at h2
  · cases h2
  · rename_i h3; cases h2; simp [aop, h1, h3, hx]
theorem exT {q : Nat} {cs : List PV} (hx : ev e x = .tuple cs) (hi : cs[q]? = some p) : aop P e ⟨d, .extract x q, ty, pos, af, g⟩ H tgt = some (p, H) := by simp [aop, hx, hi]
theorem mkF {q : FuncId} {cs : Array Operand} {ps : List PV} (hp : cs.toList.map (ev e) = ps) : aop P e ⟨d, .makeFunc (.func q) #[] cs, ty, pos, af, g⟩ H tgt = some (.clo q ps, H) := by simp [aop, hp]

theorem ixR (hT : SlT P t s B cf) (hx : ev e x = .rows (l.map cf)) (hy : ev e y = .val (.int k j)) (hlit : ∀ a, cf a = lit a) (h0 : 0 ≤ j) (h1 : j < l.length) : aop P e ⟨d, .indexAddr t x y, ty, pos, af, g⟩ H tgt = some (.cptr (lit (rdl l j)) 0, H) := by
  obtain ⟨el, hu, hs⟩ := hT.sizeOf
  have hi : (l.map cf)[j.toNat]? = some (lit (rdl l j)) := by rw [List.getElem?_map, rdl_get h0 h1, Option.map_some, hlit]
  have hl : (lit (rdl l j)).length = s := by rw [← hlit]; exact hT.len _
  have hd : doIndexAddr P t (.rows (l.map cf)) (.val (.int k j)) H = some (.cptr (lit (rdl l j)) 0) := by
    simp only [doIndexAddr, hu, h0, if_true, hi, Option.bind_some, hs, hl]
  simp only [aop, hx, hy, hd, Option.map_some]
theorem ixO (hT : SlT P t s B cf) (hx : ev e x = .own b n) (hy : ev e y = .val (.int k j)) (hb : H[b]? = some ⟨s, l.map cf, fr, none⟩) (hn : n = l.length) (h0 : 0 ≤ j) (h1 : j < l.length) : aop P e ⟨d, .indexAddr t x y, ty, pos, af, g⟩ H tgt = some (.ptr b n s j.toNat 0, H) := by
  obtain ⟨el, hu, hs⟩ := hT.sizeOf
  subst hn
  have hd : doIndexAddr P t (.own b l.length) (.val (.int k j)) H = some (.ptr b l.length s j.toNat 0) := by
    simp [doIndexAddr, hu, h0, h1, hb, hs]
  simp only [aop, hx, hy, hd, Option.map_some]

theorem lnR (hT : SlT P t s B cf) (hx : ev e x = .rows (l.map cf)) : aop P e ⟨d, .call ⟨.builtin .len, #[x], #[t]⟩, ty, pos, af, g⟩ H tgt = some (.val (.int .i64 l.length), H) := by
  obtain ⟨el, hu, hs⟩ := hT.sizeOf
  simp [aop, hu, hx, elems]
theorem lnO (hT : SlT P t s B cf) (hx : ev e x = .own b n) (hb : H[b]? = some ⟨s, l.map cf, fr, none⟩) (hn : n = l.length) : aop P e ⟨d, .call ⟨.builtin .len, #[x], #[t]⟩, ty, pos, af, g⟩ H tgt = some (.val (.int .i64 l.length), H) := by
  obtain ⟨el, hu, hs⟩ := hT.sizeOf
  simp [aop, hu, hx, elems, hb, hn]

theorem cut_all (hT : SlT P t s B cf) : ((l.map cf).all fun x => x.length == s) = true := by
  rw [List.all_eq_true]; intro x hx; obtain ⟨a, -, rfl⟩ := List.mem_map.1 hx; simp [hT.len a]

theorem elems_own (hb : H[b]? = some ⟨s, l.map cf, fr, none⟩) (hn : n = l.length) : elems H (.own b n) = some (l.map cf) := by simp [elems, hb, hn]
theorem append_spec (hT : SlT P t s B cf) {sv : PV} {news : List (List PV)} (hx : ev e x = sv) (hy : elems H (ev e y) = some news) : aop P e ⟨d, .call ⟨.builtin .append, #[x, y], #[t, t]⟩, ty, pos, af, g⟩ H tgt = doAppend P t sv news H tgt := by
  simp [aop, hx, hy]
theorem doAppend_own (hT : SlT P t s B cf) {es news : List (List PV)} (hb : H[b]? = some ⟨s, es, fr, none⟩) (hn : es.length = n) (hfr : fr ≤ n) (hl : (news.all fun x => x.length == s) = true) (hB : (n + news.length) * B ≤ 140737488355328) (hM : n + news.length ≤ maxLen) :
    doAppend P t (.own b n) news H tgt = some (.own b (n + news.length), H.set b ⟨s, es ++ news, fr, none⟩) := by
  obtain ⟨el, i, z, h1, h2, h3, h4, h5, h6⟩ := hT.ex
  have hp := hT.pos
  subst h3 h4
  simp only [doAppend, h1, h2, Option.bind_some]
  rw [if_pos ⟨hp, hl, by simp [h5], by simp [h5, h6]⟩]
  simp only [hb, Option.bind_some]
  rw [if_pos ⟨hn, trivial, rfl, hfr, hB, hM⟩]
theorem news_ok (hT : SlT P t s B cf) : ((m.map cf).all fun x => x.length == s) = true := cut_all hT
theorem ap1 (a : α) (hT : SlT P t s B cf) (hx : ev e x = .own b n) (hb : H[b]? = some ⟨s, l.map cf, fr, none⟩) (hn : n = l.length) (hfr : fr ≤ l.length) (hy : elems H (ev e y) = some [cf a]) (hB : ((l.length : Int) + 1) * B ≤ 140737488355328) :
    aop P e ⟨d, .call ⟨.builtin .append, #[x, y], #[t, t]⟩, ty, pos, af, g⟩ H tgt = some (.own b (l ++ [a]).length, H.set b ⟨s, (l ++ [a]).map cf, fr, none⟩) := by
  subst hn
  have hB' : (l.length + 1) * B ≤ 140737488355328 := by
    have e : (((l.length + 1) * B : Nat) : Int) = ((l.length : Int) + 1) * B := by simp
    omega
  have hle : l.length + 1 ≤ (l.length + 1) * B := Nat.le_mul_of_pos_right _ hT.bpos
  rw [append_spec hT hx hy, doAppend_own hT hb (by simp) hfr (by simp [hT.len]) (by exact hB') ?_]
  · simp
  · simp only [maxLen, List.length_cons, List.length_nil]; omega
theorem apL (m : List α) (hT : SlT P t s B cf) (hx : ev e x = .own b n) (hb : H[b]? = some ⟨s, l.map cf, fr, none⟩) (hn : n = l.length) (hfr : fr ≤ l.length) (hy : elems H (ev e y) = some (m.map cf)) (hB : ((l.length : Int) + m.length) * B ≤ 140737488355328) :
    aop P e ⟨d, .call ⟨.builtin .append, #[x, y], #[t, t]⟩, ty, pos, af, g⟩ H tgt = some (.own b (l ++ m).length, H.set b ⟨s, (l ++ m).map cf, fr, none⟩) := by
  subst hn
  have hB' : (l.length + m.length) * B ≤ 140737488355328 := by
    have e : (((l.length + m.length) * B : Nat) : Int) = ((l.length : Int) + m.length) * B := by simp
    omega
  have hle : l.length + m.length ≤ (l.length + m.length) * B := Nat.le_mul_of_pos_right _ hT.bpos
  rw [append_spec hT hx hy, doAppend_own hT hb (by simp) hfr (news_ok hT) (by rw [List.length_map]; exact hB') ?_]
  · simp
  · simp only [maxLen, List.length_map]; omega

theorem bldS {z cs : List PV} {places : List (Nat × Nat)} {ps : Array (Nat × Operand)} {pl : List (Nat × PV)} (hz : zero? P t = some z) (hpl : placesOf P t = some places)
    (hp : ps.toList.map (fun x => (x.1, ev e x.2)) = pl) (hf : fillP (fun i => places[i]?) z pl = some cs) : aop P e ⟨d, .build t ps, ty, pos, af, g⟩ H tgt = some (.agg cs, H) := by
  unfold placesOf at hpl
  split at hpl
  · rename_i fs hu
    simp [aop, doBuild, hz, hu, hpl, hp, hf]
  · cases hpl
theorem bldL {z cs : List PV} {ps : Array (Nat × Operand)} {pl : List (Nat × PV)} {q : Nat} {el : TypeId} (hu : P.underlying t = some (.slice el)) (hs : sizeOf? P el = some s) (hz : zero? P el = some z) (hc : 0 < s ∧ z.length = s ∧ q * s ≤ 2 ^ 24)
    (hp : ps.toList.map (fun x => (x.1, ev e x.2)) = pl) (hf : fillP (fun i => some (i * s, s)) ((List.range q).flatMap fun _ => z) pl = some cs) (ho : cs.all PV.one = true) (hH : H.fill tgt ⟨s, stripes s q cs, 0, none⟩ = some H1) :
    aop P e ⟨d, .buildSlice t q ps, ty, pos, af, g⟩ H tgt = some (.own tgt q, H1) := by
  simp only [aop, doBuildSlice, hu, hs, hz, Option.bind_some]
  rw [if_pos hc, hp, hf]
  simp only [Option.bind_some]
  rw [if_pos ho, hH]; rfl
theorem mkS {z0 : α} {el : TypeId} {k' : IntKind} (hT : SlT P t s B cf) (hu : P.underlying t = some (.slice el)) (hz : zero? P el = some (cf z0)) (hx : ev e x = .val (.int k j)) (hy : ev e y = .val (.int k' j)) (h0 : 0 ≤ j) (hB : j * B ≤ 140737488355328)
    (hH : H.fill tgt ⟨s, (List.replicate j.toNat z0).map cf, 0, none⟩ = some H1) : aop P e ⟨d, .makeSlice t x y, ty, pos, af, g⟩ H tgt = some (.own tgt (List.replicate j.toNat z0).length, H1) := by
  obtain ⟨el', i, z, h1, hi, h3, h4, h5, h6⟩ := hT.ex
  rw [hu] at h1; cases h1
  have hp := hT.pos
  have hb := hT.bpos
  subst h3 h4
  have hjm : j ≤ maxLen := by
    have : j ≤ j * i.bytes := by
      have h7 : j * 1 ≤ j * i.bytes := Int.mul_le_mul_of_nonneg_left (by omega) h0
      omega
    simp only [maxLen]; omega
  simp only [aop, hx, hy, doMake, hu, hi, hz, Option.bind_some]
  rw [if_pos ⟨hp, hT.len _, h0, Int.le_refl _, hB, hjm, hT.one _⟩]
  rw [List.map_replicate] at hH
  rw [hH]; simp
theorem alP {z : List PV} (hz : zero? P t = some z) (hc : z.length = s ∧ 0 < s ∧ z.all PV.one = true) (hH : H.fill tgt ⟨s, [z], 0, none⟩ = some H1) : aop P e ⟨d, .alloc t, ty, pos, af, g⟩ H tgt = some (.ptr tgt 1 s 0 0, H1) := by
  obtain ⟨rfl, h1, h2⟩ := hc
  simp only [aop, hz, Option.bind_some, push]
  rw [if_pos ⟨trivial, h1, h2⟩, hH]; rfl
theorem bxP {cs : List PV} (hx : (ev e x).cells = cs) (hc : cs.length = s ∧ 0 < s ∧ cs.all PV.one = true) (hH : H.fill tgt ⟨s, [cs], 0, none⟩ = some H1) : aop P e ⟨d, .box t x, ty, pos, af, g⟩ H tgt = some (.ptr tgt 1 s 0 0, H1) := by
  obtain ⟨rfl, h1, h2⟩ := hc
  simp only [aop, hx, push]
  rw [if_pos ⟨trivial, h1, h2⟩, hH]; rfl
theorem stB {cs cs0 cs1 : List PV} {o : Nat} (hx : ev e x = .ptr b 1 sz 0 o) (hy : (ev e y).cells = cs) (hs : sizeOf? P t = some cs.length) (hb : H[b]? = some ⟨sz, [cs0], 0, none⟩) (hc : o + cs.length ≤ sz ∧ cs.all PV.one = true) (h1 : cs0.take o ++ cs ++ cs0.drop (o + cs.length) = cs1) :
    aop P e ⟨d, .store t x y, ty, pos, af, g⟩ H tgt = some (.undef, H.set b ⟨sz, [cs1], 0, none⟩) := by
  simp [aop, hx, hy, hs, wr, hb, hc.1]
  exact ⟨by simpa using hc.2, by rw [← h1]; simp⟩
theorem stO (a : α) {cs : List PV} {o : Nat} (hT : SlT P u sz B cf) (hx : ev e x = .ptr b n sz j.toNat o) (hy : (ev e y).cells = cs) (hs : sizeOf? P t = some cs.length) (hb : H[b]? = some ⟨sz, l.map cf, fr, none⟩) (hn : n = l.length) (h0 : 0 ≤ j) (h1 : j < l.length) (hfr : fr ≤ j.toNat) (hc : o + cs.length ≤ sz ∧ cs.all PV.one = true)
    (h2 : (cf (rdl l j)).take o ++ cs ++ (cf (rdl l j)).drop (o + cs.length) = cf a) : aop P e ⟨d, .store t x y, ty, pos, af, g⟩ H tgt = some (.undef, H.set b ⟨sz, (setl l j a).map cf, fr, none⟩) := by
  have hi : (l.map cf)[j.toNat]? = some (cf (rdl l j)) := by rw [List.getElem?_map, rdl_get h0 h1, Option.map_some]
  have hw : wr H (.ptr b n sz j.toNat o) cs = some (H.set b ⟨sz, (setl l j a).map cf, fr, none⟩) := by
    simp only [wr, hb, Option.bind_some]
    rw [if_pos ⟨by simp [hn], trivial, hc.1, hfr, hc.2⟩, hi]
    rw [Option.map_some, h2, setl, List.map_set]
  simp only [aop, hx, hy, hs, if_true, hw, Option.map_some]

theorem exec_builtin (ρ : Operand → Value) {q : Builtin} {args : Array Operand} {tys : Array TypeId} : execOp ρ ⟨d, .call ⟨.builtin q, args, tys⟩, ty, pos, af, g⟩ = builtin q tys ty (args.map fun | .const _ => true | _ => false) (args.map ρ) := rfl
theorem minI {j' : Int} (hx : ev e x = .val (.int k j)) (hy : ev e y = .val (.int k j')) {tys : Array TypeId} : aop P e ⟨d, .call ⟨.builtin .min, #[x, y], tys⟩, ty, pos, af, g⟩ H tgt = some (.val (.int k (if j' < j then j' else j)), H) := by
  have h2 : quietly P (execOp (fun z => (toV? (ev e z)).getD undef) ⟨d, .call ⟨.builtin .min, #[x, y], tys⟩, ty, pos, af, g⟩) = some (.value (.int k (if j' < j then j' else j))) := by
    rw [exec_builtin]
    simp [builtin, Builtin.min_, Builtin.min2, hx, hy, toV?, quietly_map, quietly_pure]
  simp only [aop]
  unfold generic
  rw [if_pos (by simp [Op.operands, Call.operands, hx, hy, toV?]), h2]
  rfl
end
end Go.RM
namespace Go.RM
set_option linter.unusedVariables false
set_option linter.unusedSimpArgs false
variable {P : Program} {X : FuncId → List PV → Heap → PV → Heap → Prop} {e e1 : Env} {H H1 : Heap} {f : Map}
def ConvL (H : Heap) (f : Map) (e : Env) : List (Nat × PV) → Prop
  | [] => True
  | (t, p) :: l => Conv H f false (e t) p ∧ ConvL H f e l
theorem ConvL.env : ∀ {l : List (Nat × PV)}, ConvL H f e l → EnvConv H f e (listEnv l)
  | [], _, t => .undef
  | (u, p) :: l, h, t => by
    unfold listEnv
    by_cases ht : t = u
    · subst ht; simp only [if_true]; exact h.1
    · simp only [ht, if_false]; exact ConvL.env h.2 t
def HConvL (H : Heap) (f : Map) : List Nat → Heap → Prop
  | [], [] => True
  | b :: bs, k1 :: H1 => (∃ k, H[b]? = some k ∧ BlkConv H f k k1) ∧ HConvL H f bs H1
  | _, _ => False
theorem HConvL.heap : ∀ {bs : List Nat} {H1 : Heap}, HConvL H f bs H1 → HeapConv H f bs H1
  | [], [], _ => ⟨rfl, fun i b k1 h => by simp at h⟩
  | b :: bs, k1 :: H1, h => by
    obtain ⟨h1, h2⟩ := HConvL.heap (bs := bs) (H1 := H1) h.2
    refine ⟨by simp [h1], fun i b' k1' hb hk => ?_⟩
    cases i with
    | zero => simp at hb hk; subst hb hk; exact h.1
    | succ i => exact h2 i b' k1' (by simpa using hb) (by simpa using hk)
theorem bcEls {sz fr fr1 : Nat} {es es1 : List (List PV)} (hfr : fr ≤ fr1) (h : All2 (All2 (Conv H f false)) es es1) : BlkConv H f ⟨sz, es, fr, none⟩ ⟨sz, es1, fr1, none⟩ where
  sz := rfl
  frozen := hfr
  len := h.at.1
  uni := fun i x y hx hy => (h.at.2 i x y hx hy).at.1
  es := fun i j x y p q hx hy hp hq => (h.at.2 i x y hx hy).at.2 j p q hp hq
  mp := .inl ⟨rfl, rfl⟩
theorem bcBox {sz : Nat} {cs cs1 : List PV} (h : All2 (Conv H f false) cs cs1) : BlkConv H f ⟨sz, [cs], 0, none⟩ ⟨sz, [cs1], 0, none⟩ := bcEls (Nat.le_refl _) (.cons h .nil)
theorem all2_free : ∀ {cs : List PV}, cs.all (PV.free deep) = true → All2 (Conv H f false) cs cs
  | [], _ => .nil
  | c :: cs, h => by
    simp only [List.all_cons, Bool.and_eq_true] at h
    exact .cons (.free rfl h.1) (all2_free h.2)
theorem all2_map {α : Type} {cf : α → List PV} (hf : ∀ a, (cf a).all (PV.free deep) = true) : ∀ (l : List α), All2 (All2 (Conv H f false)) (l.map cf) (l.map cf)
  | [] => .nil
  | a :: l => .cons (all2_free (hf a)) (all2_map hf l)
theorem bcRow {t s B : Nat} {fr fr1 : Nat} {α : Type} {cf : α → List PV} {l l1 : List α} (hT : SlT P t s B cf) (hfr : fr ≤ fr1) (hl : l = l1) : BlkConv H f ⟨s, l.map cf, fr, none⟩ ⟨s, l1.map cf, fr1, none⟩ := by
  subst hl; exact bcEls hfr (all2_map hT.free l)
theorem D.enter {f fn c args r H'} (N M : Nat) (hf : P.funcs[f]? = some fn) (hb : fn.body = some c) (hN : max args.length fn.ntmps = N) (hM : H.length = M)
    (h : D P X (.run fn N M false [.code c] (argEnv args) H (.ret r) H')) : D P X (.callH f args H r H') := .callH hf hb (by rw [hN, hM]; exact h)
theorem D.reg0 {fn N M rd id k e1 H1 O H'} {l : List Oper} (hd : l.all (dstOk N) = true) (h : D P X (.ops N l.toArray l e H e1 H1)) (h' : D P X (.run fn N M rd k e1 H1 O H')) :
    D P X (.run fn N M rd (.code (.region id l.toArray false) :: k) e H O H') := .region (by simpa using hd) (.reg (by simpa using h)) h'
theorem D.reg1 {fn N M rd id k e1 H1 O H'} {l : List Oper} (hd : l.all (dstOk N) = true) (h : D P X (.reg N l.toArray true e H e1 H1)) (h' : D P X (.run fn N M rd k e1 H1 O H')) :
    D P X (.run fn N M rd (.code (.region id l.toArray true) :: k) e H O H') := .region (by simpa using hd) h h'
theorem D.keepL {fn N M rd k O H'} (bs : List Nat) (l : List (Nat × PV)) (H1 : Heap) (hM : ∀ b, b < M → bs[b]? = some b) (hnd : bs.Nodup) (he : ConvL H (.keep bs) e l) (hH : HConvL H (.keep bs) bs H1)
    (h : D P X (.run fn N M rd k (listEnv l) H1 O H')) : D P X (.run fn N M rd k e H O H') := .keep bs hM hnd he.env hH.heap h
theorem D.nilL {N all} (l : List (Nat × PV)) (he : ConvL H .same e l) : D P X (.ops N all [] e H (listEnv l) H) := .nil he.env rfl
theorem D.condT {fn N M rd c x y k O H'} {B : Bool} (hc : ev e c = .val (.bool B)) (hB : B = true) (h : D P X (.run fn N M rd (.code x :: k) e H O H')) : D P X (.run fn N M rd (.code (.cond c x y) :: k) e H O H') := .cond true (by rw [hc, hB]) h
theorem D.condF {fn N M rd c x y k O H'} {B : Bool} (hc : ev e c = .val (.bool B)) (hB : B = false) (h : D P X (.run fn N M rd (.code y :: k) e H O H')) : D P X (.run fn N M rd (.code (.cond c x y) :: k) e H O H') := .cond false (by rw [hc, hB]) h
theorem gT {all : Array Oper} {o : Oper} {j t : Nat} {want B : Bool} (hg : o.guard = some (j, want)) (hd : (all[j]?).bind (·.dst) = some t) (he : e t = .val (.bool B)) (hB : B = want) : wants all e o = some true := by simp [wants, hg, hd, he, hB]
theorem gF {all : Array Oper} {o : Oper} {j t : Nat} {want B : Bool} (hg : o.guard = some (j, want)) (hd : (all[j]?).bind (·.dst) = some t) (he : e t = .val (.bool B)) (hB : B = !want) : wants all e o = some false := by cases want <;> simp [wants, hg, hd, he, hB]
theorem callee_of {d : Option Tmp} {x : Operand} {ar : Array Operand} {tys : Array TypeId} {ty : TypeId} {pos : String} {af : Array Edge} {g : Option (Nat × Bool)} {q : FuncId} {cs ps : List PV} (hx : ev e x = .clo q cs) (hq : isGo P q = true) (hp : ar.toList.map (ev e) ++ cs = ps) :
    callee P e ⟨d, .call ⟨.value x, ar, tys⟩, ty, pos, af, g⟩ = some (q, ps) := by simp [callee, hx, hq, hp]
theorem all2_free_args : ∀ {args : List PV} {g : Map}, args.all (PV.free deep) = true → All2 (Conv H g false) args args
  | [], _, _ => .nil
  | c :: cs, g, h => by
    simp only [List.all_cons, Bool.and_eq_true] at h
    exact .cons (.free rfl h.1) (all2_free_args h.2)
theorem cB {s : Bool} {p : PV} {v v' : Bool} (hp : p = .val (.bool v)) (h : v = v') : Conv H f s p (.val (.bool v')) := by
  subst hp h; exact .free rfl rfl
theorem cFixP {s : Bool} {b sz off : Nat} {x y : List PV} {fr : Nat} (hf : f b = some none) (hb : H[b]? = some ⟨sz, [x], fr, none⟩) (h : All2 (Conv H f true) x y) : Conv H f s (.ptr b 1 sz 0 off) (.cptr y off) :=
  .fixPtr (x := x) hf hb rfl rfl rfl h.at.1 (fun j p q hp hq => h.at.2 j p q hp hq)
theorem cAgg {s : Bool} {cs ds : List PV} (h : All2 (Conv H f s) cs ds) : Conv H f s (.agg cs) (.agg ds) := .agg h.at.1 h.at.2
theorem cClo {s : Bool} {g : FuncId} {cs ds : List PV} (h : All2 (Conv H f s) cs ds) : Conv H f s (.clo g cs) (.clo g ds) := .clo h.at.1 h.at.2
theorem cFixE {s : Bool} {b n sz fr : Nat} {es es1 : List (List PV)} (hf : f b = some none) (hb : H[b]? = some ⟨sz, es, fr, none⟩) (hn : es.length = n) (h : All2 (All2 (Conv H f true)) es es1) : Conv H f s (.own b n) (.rows es1) :=
  .fixOwn hf hb hn rfl h.at.1.symm (fun i x y hx hy => (h.at.2 i x y hx hy).at.1) (fun i j x y p q hx hy hp hq => (h.at.2 i x y hx hy).at.2 j p q hp hq)
theorem all2_map' {α : Type} {cf : α → List PV} {s : Bool} (hf : ∀ a, (cf a).all (PV.free deep) = true) : ∀ (l : List α), All2 (All2 (Conv H f s)) (l.map cf) (l.map cf)
  | [] => .nil
  | a :: l => .cons (go _ (hf a)) (all2_map' hf l)
where go : ∀ (cs : List PV), cs.all (PV.free deep) = true → All2 (Conv H f s) cs cs
  | [], _ => .nil
  | c :: cs, h => by
    simp only [List.all_cons, Bool.and_eq_true] at h
    exact .cons (.free rfl h.1) (go cs h.2)
theorem cFixO {s : Bool} {b n t sz B fr : Nat} {α : Type} {cf : α → List PV} {l l' : List α} (hT : SlT P t sz B cf) (hf : f b = some none) (hb : H[b]? = some ⟨sz, l.map cf, fr, none⟩) (hn : n = l.length) (hl : l = l') : Conv H f s (.own b n) (.rows (l'.map cf)) := by
  subst hl; exact cFixE hf hb (by simp [hn]) (all2_map' hT.free l)
theorem bnotT {v : Bool} (h : v = false) : (!v) = true := by rw [h]; rfl
theorem bnotF {v : Bool} (h : v = true) : (!v) = false := by rw [h]; rfl
def cInt (k : IntKind) (i : Int) : List PV := [.val (.int k i)]
def cBool (b : Bool) : List PV := [.val (.bool b)]
def cSl {α : Type} (c : α → List PV) (l : List α) : List PV := [.rows (l.map c)]
def InR (i : Int) (n : Nat) : Prop := 0 ≤ i ∧ i < n
theorem D.consJ {σ : Type} {fn N M rd x k O H'} (Fj : σ → Prop) (E : σ → Env) (Hj : σ → Heap) (hk : ∀ s, Fj s → D P X (.run fn N M rd k (E s) (Hj s) O H'))
    (h : (∀ s, Fj s → D P X (.run fn N M rd k (E s) (Hj s) O H')) → D P X (.run fn N M rd (x :: k) e H O H')) : D P X (.run fn N M rd (x :: k) e H O H') := h hk

def drawE (e : Env) : List (Nat × Nat × PV) → (Nat → Bool) → Env
  | [], _ => e
  | (i, t, p) :: l, S => fun u => if u = t then (if S i then p else drawE e l S u) else drawE e l S u
def ver (n : Nat) (k : Blk) : List (Nat × Nat × Blk) → (Nat → Bool) → Blk
  | [], _ => k
  | (i, b, k') :: l, S => if b = n then (if S i then k' else ver n k l S) else ver n k l S
def drawH : Nat → Heap → List (Nat × Nat × Blk) → (Nat → Bool) → Heap
  | _, [], _, _ => []
  | n, k :: H, l, S => ver n k l S :: drawH (n + 1) H l S
theorem drawE_none (e : Env) : ∀ (l : List (Nat × Nat × PV)), drawE e l (fun _ => false) = e
  | [] => rfl
  | (i, t, p) :: l => by funext u; simp [drawE, drawE_none e l]
theorem ver_none (n : Nat) (k : Blk) : ∀ (l : List (Nat × Nat × Blk)), ver n k l (fun _ => false) = k
  | [] => rfl
  | (i, b, k') :: l => by simp [ver, ver_none n k l]
theorem drawH_none : ∀ (n : Nat) (H : Heap) (l : List (Nat × Nat × Blk)), drawH n H l (fun _ => false) = H
  | _, [], _ => rfl
  | n, k :: H, l => by simp [drawH, ver_none, drawH_none (n + 1) H l]
def laterOk (A : Nat → List Nat) (i t : Nat) : List (Nat × Nat × PV) → Bool
  | [] => false
  | (j, u, _) :: l => if j = i then u == t else (u != t || (A j).contains i) && laterOk A i t l
def entry (i : Nat) : List (Nat × Nat × PV) → Option PV
  | [] => none
  | (j, _, p) :: l => if j = i then some p else entry i l
theorem drawE_put (e : Env) (A : Nat → List Nat) (S : Nat → Bool) (i t : Nat) (p : PV) (hS : S i = false) (hdown : ∀ i', S i' = true → ∀ j ∈ A i', S j = true) : ∀ (l : List (Nat × Nat × PV)), laterOk A i t l = true → entry i l = some p → (l.map (·.1)).Nodup →
    (drawE e l S).set t p = drawE e l (plus S i)
  | [], h, _, _ => by simp [laterOk] at h
  | (j, u, q) :: l, h, hp, hn => by
    simp only [List.map_cons, List.nodup_cons] at hn
    have rest : ∀ (l : List (Nat × Nat × PV)), i ∉ l.map (·.1) → drawE e l (plus S i) = drawE e l S := by
      intro l
      induction l with
      | nil => intro _; rfl
      | cons x l ih =>
        obtain ⟨j', u', q'⟩ := x
        intro hi
        simp only [List.map_cons, List.mem_cons, not_or] at hi
        funext v
        simp only [drawE, ih hi.2, plus, show (j' == i) = false by simpa using (Ne.symm hi.1), Bool.false_or]
    by_cases hj : j = i
    · subst hj
      simp only [laterOk, if_true, beq_iff_eq] at h
      subst h
      simp only [entry, if_true, Option.some.injEq] at hp
      subst hp
      funext v
      simp only [Env.set, drawE, rest l hn.1, plus, hS, beq_self_eq_true, Bool.true_or, if_true, Bool.false_eq_true, if_false]
      by_cases hv : v = u <;> simp [hv]
    · simp only [laterOk, hj, if_false, Bool.and_eq_true, Bool.or_eq_true, bne_iff_ne, ne_eq, List.contains_iff_mem] at h
      simp only [entry, hj, if_false] at hp
      have ih := drawE_put e A S i t p hS hdown l h.2 hp hn.2
      funext v
      have hv := congrFun ih v
      simp only [Env.set] at hv
      simp only [Env.set, drawE, plus, show (j == i) = false by simpa using hj, Bool.false_or]
      rw [← hv]
      by_cases hvt : v = t
      · subst hvt
        simp only [if_true]
        rcases h.1 with h1 | h1
        · simp [Ne.symm h1]
        · have : S j = false := by
            cases hs : S j with
            | false => rfl
            | true => have := hdown j hs i h1; rw [hS] at this; cases this
          simp [this]
      · simp [hvt]
def AllI (Q : Nat → Oper → Prop) : Nat → List Oper → Prop
  | _, [] => True
  | n, o :: l => Q n o ∧ AllI Q (n + 1) l
theorem AllI.get {Q : Nat → Oper → Prop} : ∀ {l : List Oper} {n : Nat}, AllI Q n l → ∀ (i : Nat) (o : Oper), l[i]? = some o → Q (n + i) o
  | [], n, _, i, o, h => by simp at h
  | x :: l, n, h, i, o, ho => by
    cases i with
    | zero => simp at ho; subst ho; exact h.1
    | succ i => have := AllI.get h.2 i o (by simpa using ho); rwa [show n + 1 + i = n + (i + 1) by omega] at this
def ahead (As : List (List Nat)) : Nat → List Nat := fun i => As.getD i []
def edgesOkL : Nat → List Oper → Bool
  | _, [] => true
  | n, o :: l => o.after.toList.all (fun e => !Region.binds .any e || decide (e.on < n)) && edgesOkL (n + 1) l
def aheadOkL (A : Nat → List Nat) : Nat → List Oper → Bool
  | _, [] => true
  | n, o :: l => (A n).all (fun j => o.after.toList.any fun e => Region.binds .any e && (e.on == j || (A e.on).contains j)) && aheadOkL A (n + 1) l
theorem edgesOkL.get : ∀ {l : List Oper} {n : Nat}, edgesOkL n l = true → ∀ (i : Nat) (o : Oper), l[i]? = some o → (o.after.toList.all fun e => !Region.binds .any e || decide (e.on < n + i)) = true
  | [], n, _, i, o, h => by simp at h
  | x :: l, n, h, i, o, ho => by
    simp only [edgesOkL, Bool.and_eq_true] at h
    cases i with
    | zero => simp at ho; subst ho; exact h.1
    | succ i => have := edgesOkL.get h.2 i o (by simpa using ho); rwa [show n + 1 + i = n + (i + 1) by omega] at this
theorem aheadOkL.get {A : Nat → List Nat} : ∀ {l : List Oper} {n : Nat}, aheadOkL A n l = true → ∀ (i : Nat) (o : Oper), l[i]? = some o → ((A (n + i)).all fun j => o.after.toList.any fun e => Region.binds .any e && (e.on == j || (A e.on).contains j)) = true
  | [], n, _, i, o, h => by simp at h
  | x :: l, n, h, i, o, ho => by
    simp only [aheadOkL, Bool.and_eq_true] at h
    cases i with
    | zero => simp at ho; subst ho; exact h.1
    | succ i => have := aheadOkL.get h.2 i o (by simpa using ho); rwa [show n + 1 + i = n + (i + 1) by omega] at this
theorem edgesOkL.back {l : List Oper} (h : edgesOkL 0 l = true) : edgesBack l.toArray = true := by
  unfold edgesBack
  refine List.all_eq_true.2 fun i hi => ?_
  cases ho : l.toArray[i]? with
  | none => rfl
  | some o =>
    have := edgesOkL.get h i o (by simpa using ho)
    rw [Nat.zero_add] at this
    simpa using this
theorem aheadOkL.ok {A : Nat → List Nat} {l : List Oper} (h : aheadOkL A 0 l = true) : aheadOk l.toArray A = true := by
  unfold aheadOk
  refine List.all_eq_true.2 fun i hi => ?_
  cases ho : l.toArray[i]? with
  | none => rfl
  | some o =>
    have := aheadOkL.get h i o (by simpa using ho)
    rw [Nat.zero_add] at this
    simpa using this
def OneOf (P : Program) (X : FuncId → List PV → Heap → PV → Heap → Prop) (N : Nat) (ops : List Oper) (e : Env) (H : Heap) (L : List (Nat × Nat × PV)) (LH : List (Nat × Nat × Blk)) (As : List (List Nat)) (i : Nat) (o : Oper) : Prop :=
  ∀ S : Nat → Bool, orElse (ahead As i) S i = false → (∀ i', orElse (ahead As i) S i' = true → ∀ j ∈ ahead As i', orElse (ahead As i) S j = true) → (L.map (·.1)).Nodup →
    D P X (.ops N ops.toArray [o] (drawE e L (orElse (ahead As i) S)) (drawH 0 H LH (orElse (ahead As i) S)) (drawE e L (plus (orElse (ahead As i) S) i)) (drawH 0 H LH (plus (orElse (ahead As i) S) i)))
theorem D.drawL {N} {ops : List Oper} {H1 : Heap} (L : List (Nat × Nat × PV)) (LH : List (Nat × Nat × Blk)) (As : List (List Nat)) (hb : edgesOkL 0 ops = true) (hA : aheadOkL (ahead As) 0 ops = true) (hn : (L.map (·.1)).Nodup)
    (hi : AllI (OneOf P X N ops e H L LH As) 0 ops) (l : List (Nat × PV)) (he1 : ConvL H1 .same (drawE e L fun j => decide (j < ops.length)) l) (hH1 : drawH 0 H LH (fun j => decide (j < ops.length)) = H1) :
    D P X (.reg N ops.toArray true e H (listEnv l) H1) := by
  refine .draw (drawE e L) (drawH 0 H LH) (ahead As) (edgesOkL.back hb) (aheadOkL.ok hA) (drawE_none e L) (drawH_none 0 H LH) (fun i o S ho h1 h2 => ?_) ?_ ?_
  · have := hi.get i o (by simpa using ho)
    rw [Nat.zero_add] at this
    exact this S h1 h2 hn
  · simpa using he1.env
  · simpa using hH1
theorem D.one {N all} {o : Oper} {L : List (Nat × Nat × PV)} {LH : List (Nat × Nat × Blk)} {A : Nat → List Nat} {S : Nat → Bool} {i t : Nat} {p : PV} (tgt : Nat) {H2 : Heap} (hS : S i = false) (hdown : ∀ i', S i' = true → ∀ j ∈ A i', S j = true) (hn : (L.map (·.1)).Nodup) (hw : wants all (drawE e L S) o = some true) (hdst : o.dst = some t)
    (ho : aop P (drawE e L S) o (drawH 0 H LH S) tgt = some (p, H2)) (hL : laterOk A i t L = true) (hp : entry i L = some p) (hH : H2 = drawH 0 H LH (plus S i)) :
    D P X (.ops N all [o] (drawE e L S) (drawH 0 H LH S) (drawE e L (plus S i)) (drawH 0 H LH (plus S i))) := by
  refine .op tgt hw ho ?_
  rw [hdst]
  simp only [Env.put]
  rw [drawE_put e A S i t p hS hdown L hL hp hn, hH]
  exact .nil0
theorem D.one0 {N all} {o : Oper} {L : List (Nat × Nat × PV)} {LH : List (Nat × Nat × Blk)} {S : Nat → Bool} {i : Nat} {p : PV} (tgt : Nat) {H2 : Heap} (hw : wants all (drawE e L S) o = some true) (hdst : o.dst = none)
    (ho : aop P (drawE e L S) o (drawH 0 H LH S) tgt = some (p, H2)) (hE : drawE e L S = drawE e L (plus S i)) (hH : H2 = drawH 0 H LH (plus S i)) :
    D P X (.ops N all [o] (drawE e L S) (drawH 0 H LH S) (drawE e L (plus S i)) (drawH 0 H LH (plus S i))) := by
  refine .op tgt hw ho ?_
  rw [hdst]
  simp only [Env.put]
  rw [← hE, hH]
  exact .nil0
theorem D.oneI {N all} {o : Oper} {L : List (Nat × Nat × PV)} {LH : List (Nat × Nat × Blk)} {A : Nat → List Nat} {S : Nat → Bool} {i t : Nat} {q : FuncId} {args : List PV} {r : PV} {H2 : Heap} (hS : S i = false) (hdown : ∀ i', S i' = true → ∀ j ∈ A i', S j = true) (hn : (L.map (·.1)).Nodup) (hw : wants all (drawE e L S) o = some true) (hdst : o.dst = some t)
    (hf : callee P (drawE e L S) o = some (q, args)) (hc : D P X (.callH q args (drawH 0 H LH S) r H2)) (hL : laterOk A i t L = true) (hp : entry i L = some r) (hH : H2 = drawH 0 H LH (plus S i)) :
    D P X (.ops N all [o] (drawE e L S) (drawH 0 H LH S) (drawE e L (plus S i)) (drawH 0 H LH (plus S i))) := by
  refine .callI hw hf hc ?_
  rw [hdst]
  simp only [Env.put]
  rw [drawE_put e A S i t r hS hdown L hL hp hn, hH]
  exact .nil0
theorem D.pure {q args r} (ha : args.all (PV.free deep) = true) (hr : PV.free deep r = true) (hc : D P X (.callH q args [] r [])) : D P X (.callH q args H r H) :=
  .focus [] [] [] false (all2_free_args ha) ⟨rfl, fun i b k1 h => by simp at h⟩ (by simp) rfl rfl hc (.free rfl hr) .nil rfl (.inr (.inl rfl)) rfl
theorem drawE_other (e : Env) (S : Nat → Bool) (i : Nat) : ∀ (l : List (Nat × Nat × PV)), entry i l = none → drawE e l S = drawE e l (plus S i)
  | [], _ => rfl
  | (j, u, q) :: l, h => by
    by_cases hj : j = i
    · simp [entry, hj] at h
    · simp only [entry, hj, if_false] at h
      funext v
      simp only [drawE, ← drawE_other e S i l h, plus, show (j == i) = false by simpa using hj, Bool.false_or]
theorem D.oneNo {N all} {o : Oper} {L : List (Nat × Nat × PV)} {LH : List (Nat × Nat × Blk)} {A : Nat → List Nat} {S : Nat → Bool} {i t : Nat} (hS : S i = false) (hdown : ∀ i', S i' = true → ∀ j ∈ A i', S j = true) (hw : wants all (drawE e L S) o = some false) (hdst : o.dst = some t)
    (hn : (L.map (·.1)).Nodup) (hL : laterOk A i t L = true) (hp : entry i L = some (.val undef)) (hH : drawH 0 H LH S = drawH 0 H LH (plus S i)) :
    D P X (.ops N all [o] (drawE e L S) (drawH 0 H LH S) (drawE e L (plus S i)) (drawH 0 H LH (plus S i))) := by
  refine .no hw ?_
  rw [hdst]
  simp only [Env.put]
  rw [drawE_put e A S i t (.val undef) hS hdown L hL hp hn, hH]
  exact .nil0

inductive Rnd (σ τ ρ : Type) where
  | next (s : σ)
  | exit (s : τ)
  | ret (r : ρ)
inductive Fin (τ ρ : Type) where
  | go (s : τ)
  | ret (r : ρ)
inductive Loop {σ τ ρ : Type} (b : σ → Rnd σ τ ρ → Prop) : σ → Fin τ ρ → Prop where
  | next {s s' : σ} {o : Fin τ ρ} (h : b s (.next s')) (t : Loop b s' o) : Loop b s o
  | exit {s : σ} {s' : τ} (h : b s (.exit s')) : Loop b s (.go s')
  | ret {s : σ} {r : ρ} (h : b s (.ret r)) : Loop b s (.ret r)
def Fin.on {τ ρ : Type} : Fin τ ρ → (τ → Prop) → (ρ → Prop) → Prop
  | .go s, f, _ => f s
  | .ret r, _, g => g r
theorem D.loopB {σ τ ρ : Type} {fn N M rd id body k O H'} (b : σ → Rnd σ τ ρ → Prop) (E : σ → Env) (Hs : σ → Heap) (E' : τ → Env) (Hs' : τ → Heap) {s0 : σ} {o : Fin τ ρ} (hL : Loop b s0 o) (R : ρ → Prop)
    (hgo : ∀ s, o = .go s → D P X (.run fn N M rd k (E' s) (Hs' s) O H')) (hret : ∀ r, o = .ret r → R r)
    (round : ∀ s x, b s x → (∀ s', x = .next s' → D P X (.run fn N M rd (.inLoop body :: .inBlock id :: k) (E s') (Hs s') O H')) → (∀ s', x = .exit s' → D P X (.run fn N M rd k (E' s') (Hs' s') O H')) → (∀ r, x = .ret r → R r) →
      D P X (.run fn N M rd (.code body :: .inLoop body :: .inBlock id :: k) (E s) (Hs s) O H')) :
    D P X (.run fn N M rd (.code (.loop body) :: .inBlock id :: k) (E s0) (Hs s0) O H') := by
  refine .loop ?_
  induction hL with
  | @next s s' o h _ ih => exact round s _ h (fun s1 h1 => by cases h1; exact .inLoop (ih hgo hret)) (fun s1 h1 => by cases h1) (fun r h1 => by cases h1)
  | @exit s s' h => exact round s _ h (fun s1 h1 => by cases h1) (fun s1 h1 => by cases h1; exact hgo _ rfl) (fun r h1 => by cases h1)
  | @ret s r h => exact round s _ h (fun s1 h1 => by cases h1) (fun s1 h1 => by cases h1) (fun r1 h1 => by cases h1; exact hret _ rfl)
theorem Loop.mono {σ τ ρ : Type} {b b' : σ → Rnd σ τ ρ → Prop} (hb : ∀ s o, b s o → b' s o) {s : σ} {o : Fin τ ρ} (h : Loop b s o) : Loop b' s o := by
  induction h with
  | next h _ ih => exact .next (hb _ _ h) ih
  | exit h => exact .exit (hb _ _ h)
  | ret h => exact .ret (hb _ _ h)
end Go.RM
namespace Go.RM
set_option linter.unusedVariables false
set_option linter.unusedSimpArgs false
set_option linter.unusedSectionVars false
variable {P : Program} {X : FuncId → List PV → Heap → PV → Heap → Prop} {e e1 : Env} {H H1 : Heap} {f : Map}
theorem gN {all : Array Oper} {o : Oper} {j t : Nat} {want : Bool} (hg : o.guard = some (j, want)) (hd : (all[j]?).bind (·.dst) = some t) (he : e t = .val undef) : wants all e o = some false := by simp [wants, hg, hd, he, undef]
theorem allCons {α : Type} {f : α → Bool} {x : α} {l : List α} (h : f x = true) (h' : l.all f = true) : (x :: l).all f = true := by simp [h, h']
theorem mAndT {b v w : Bool} (hb : b = true) (h : v = w) : v = (b && w) := by rw [hb, h]; rfl
theorem mAndF {b w : Bool} (hb : b = false) : false = (b && w) := by rw [hb]; rfl
theorem mOrT {b w : Bool} (hb : b = true) : true = (b || w) := by rw [hb]; rfl
theorem mOrF {b v w : Bool} (hb : b = false) (h : v = w) : v = (b || w) := by rw [hb, h]; rfl
theorem mIteT {b v w u : Bool} (hb : b = true) (h : v = w) : v = (bif b then w else u) := by rw [hb, h]; rfl
theorem mIteF {b v w u : Bool} (hb : b = false) (h : v = w) : v = (bif b then u else w) := by rw [hb, h]; rfl
def Fits (n : Int) (B : Nat) : Prop := n * B ≤ 140737488355328
def nodupN : List (Nat × Nat × PV) → Bool
  | [] => true
  | x :: l => l.all (fun y => y.1 != x.1) && nodupN l
theorem nodupN_ok : ∀ {l : List (Nat × Nat × PV)}, nodupN l = true → (l.map (·.1)).Nodup
  | [], _ => by simp
  | x :: l, h => by
    simp only [nodupN, Bool.and_eq_true, List.all_eq_true, bne_iff_ne, ne_eq] at h
    simp only [List.map_cons, List.nodup_cons, List.mem_map, not_exists, not_and]
    exact ⟨fun y hy he => h.1 y hy he, nodupN_ok h.2⟩
def mask (As : List (List Nat)) (i : Nat) (S : Nat → Bool) : Nat → Bool := fun j => (ahead As i).contains j || (!(j == i || (ahead As j).contains i) && S j)
theorem mask_eq {As : List (List Nat)} {i : Nat} {S : Nat → Bool} (hS : orElse (ahead As i) S i = false) (hdown : ∀ i', orElse (ahead As i) S i' = true → ∀ j ∈ ahead As i', orElse (ahead As i) S j = true) : orElse (ahead As i) S = mask As i S := by
  funext j
  unfold mask
  by_cases hc : (ahead As i).contains j = true
  · simp only [orElse, hc, Bool.true_or]
  · have h1 : orElse (ahead As i) S j = S j := by simp only [orElse, Bool.eq_false_iff.2 hc, Bool.false_or]
    rw [h1, Bool.eq_false_iff.2 hc, Bool.false_or]
    by_cases hj : j = i
    · subst hj; rw [← h1, hS]; simp
    · by_cases hi : (ahead As j).contains i = true
      · cases hs : S j with
        | false => simp
        | true =>
          have := hdown j (by rw [h1, hs]) i (by simpa using hi)
          rw [hS] at this; cases this
      · rw [show (j == i) = false by simpa using hj, Bool.eq_false_iff.2 hi]; simp
def OneM (P : Program) (X : FuncId → List PV → Heap → PV → Heap → Prop) (N : Nat) (ops : List Oper) (e : Env) (H : Heap) (L : List (Nat × Nat × PV)) (LH : List (Nat × Nat × Blk)) (As : List (List Nat)) (i : Nat) (o : Oper) : Prop :=
  ∀ S : Nat → Bool, mask As i S i = false → (∀ i', mask As i S i' = true → ∀ j ∈ ahead As i', mask As i S j = true) → (L.map (·.1)).Nodup →
    D P X (.ops N ops.toArray [o] (drawE e L (mask As i S)) (drawH 0 H LH (mask As i S)) (drawE e L (plus (mask As i S) i)) (drawH 0 H LH (plus (mask As i S) i)))
theorem OneM.of {N} {ops : List Oper} {L : List (Nat × Nat × PV)} {LH : List (Nat × Nat × Blk)} {As : List (List Nat)} {i : Nat} {o : Oper} (h : OneM P X N ops e H L LH As i o) : OneOf P X N ops e H L LH As i o := by
  intro S h1 h2 h3
  have := mask_eq h1 h2
  rw [this] at h1 h2 ⊢
  exact h S h1 h2 h3
theorem AllI.mono {Q R : Nat → Oper → Prop} (hQ : ∀ i o, Q i o → R i o) : ∀ {l : List Oper} {n : Nat}, AllI Q n l → AllI R n l
  | [], _, _ => trivial
  | _ :: _, _, h => ⟨hQ _ _ h.1, AllI.mono hQ h.2⟩
theorem D.drawM {N} {ops : List Oper} {H1 : Heap} (L : List (Nat × Nat × PV)) (LH : List (Nat × Nat × Blk)) (As : List (List Nat)) (hb : edgesOkL 0 ops = true) (hA : aheadOkL (ahead As) 0 ops = true) (hn : nodupN L = true)
    (hi : AllI (OneM P X N ops e H L LH As) 0 ops) (l : List (Nat × PV)) (he1 : ConvL H1 .same (drawE e L fun j => decide (j < ops.length)) l) (hH1 : drawH 0 H LH (fun j => decide (j < ops.length)) = H1) :
    D P X (.reg N ops.toArray true e H (listEnv l) H1) := D.drawL L LH As hb hA (nodupN_ok hn) (hi.mono fun _ _ h => h.of) l he1 hH1
theorem cOwnE {b n b' n' : Nat} (hf : f b = some (some b')) (hn : n = n') : Conv H f false (.own b n) (.own b' n') := by subst hn; exact .own hf
theorem D.lendC {q args args' r Hz} (ls : List Nat) (fz : Bool) (ha : All2 (Conv H (.lend [] ls) false) args args') (hnd : ls.Nodup)
    (hls : ls.all (fun b => ((H[b]?).map fun k => k.mp.isNone).getD false) = true) (hr : PV.free deep r = true) (hfz : (fz || PV.solid deep r) = true) (hHz : (if fz then H.freeze ls else H) = Hz)
    (hc : D P X (.callH q args' [] r [])) : D P X (.callH q args H r Hz) := by
  refine .focus [] ls [] fz ha ⟨rfl, fun i b k1 h => by simp at h⟩ (by simpa using hnd) hls rfl hc (.free rfl hr) .nil rfl ?_ ?_
  · rcases Bool.or_eq_true_iff.1 hfz with h1 | h1
    · exact .inl h1
    · exact .inr (.inr ⟨h1, rfl⟩)
  · simp only [List.nil_append, setAll, hHz]
section
variable {d : Option Tmp} {x y c z : Operand} {t u ty : TypeId} {pos : String} {af : Array Edge} {g : Option (Nat × Bool)} {tgt : Nat}
variable {b n s B fr : Nat} {α : Type} [Inhabited α] {cf : α → List PV} {l m : List α}
theorem bldT {z cs : List PV} {ps : Array (Nat × Operand)} {pl : List (Nat × PV)} {q : Nat} {el : TypeId} (l : List α) (hu : P.underlying t = some (.slice el)) (hs : sizeOf? P el = some s) (hz : zero? P el = some z) (hc : 0 < s ∧ z.length = s ∧ q * s ≤ 2 ^ 24)
    (hp : ps.toList.map (fun x => (x.1, ev e x.2)) = pl) (hf : fillP (fun i => some (i * s, s)) ((List.range q).flatMap fun _ => z) pl = some cs) (ho : cs.all PV.one = true) (hL : stripes s q cs = l.map cf) (hH : H.fill tgt ⟨s, l.map cf, 0, none⟩ = some H1) :
    aop P e ⟨d, .buildSlice t q ps, ty, pos, af, g⟩ H tgt = some (.own tgt q, H1) := bldL hu hs hz hc hp hf ho (by rw [hL]; exact hH)
end
end Go.RM
namespace Go.RM
open Op
set_option linter.unusedVariables false
set_option linter.unusedSimpArgs false
set_option linter.unusedSectionVars false
def eqLeaf (d : TypeDesc) (x y : Value) : Option Bool := match d, x, y with
  | .int _, .int k a, .int k' b => if k = k' then some (a == b) else none
  | .bool, .bool a, .bool b => some (a == b)
  | .string, .string a, .string b => some (a == b)
  | _, _, _ => none
def evalEq : List (Nat × TypeDesc) → List Value → List Value → Option Bool
  | [], _, _ => some true
  | (o, d) :: l, xs, ys => (xs[o]?).bind fun x => (ys[o]?).bind fun y => (eqLeaf d x y).bind fun b => (evalEq l xs ys).map (b && ·)
def fieldKind (P : Program) (f : Field) : Option (Nat × TypeDesc) := if f.name = "_" then none else if isAgg? P f.type = some false then (P.underlying f.type).map (f.offset, ·) else none
def eqKinds (P : Program) (t : TypeId) : Option (List (Nat × TypeDesc)) := match P.underlying t with
  | some (.struct fs) => if P.stoodInHeld t = false ∧ P.eqGuardType P.depth t = false then omap (fieldKind P) fs.toList else none
  | some (.array n el) => if P.eqGuardType P.depth t = false ∧ isAgg? P el = some false then (sizeOf? P el).bind fun s => (P.underlying el).map fun d => (List.range n).map fun i => (i * s, d) else none
  | _ => none
variable {P : Program}
theorem quietly_leaf {ft : TypeId} {dd : TypeDesc} {x y : Value} {b : Bool} (d : Nat) (hu : P.underlying ft = some dd) (h : eqLeaf dd x y = some b) : quietly P (equalIn (d + 1) ft x y) = some b := by
  unfold equalIn
  rw [quietly_bind, run_quiet_und hu]
  simp only [Option.bind_some]
  unfold eqLeaf at h
  split at h
  · split at h
    · rename_i hk; cases h; simp [hk, quietly_pure]
    · cases h
  · cases h; simp [quietly_pure]
  · cases h; simp [quietly_pure]
  · cases h
theorem quietly_isAgg {ft : TypeId} {b : Bool} (h : isAgg? P ft = some b) : quietly P (isAgg ft) = some b := by
  unfold isAgg? at h
  simp only [Option.map_eq_some_iff] at h
  obtain ⟨dd, hu, h⟩ := h
  unfold isAgg
  rw [quietly_bind, run_quiet_und hu]
  simp only [Option.bind_some]
  cases dd <;> simp_all [quietly_pure]
theorem quietly_sizeOf {ft : TypeId} {s : Nat} (h : sizeOf? P ft = some s) : quietly P (sizeOf ft) = some s := by
  unfold sizeOf? at h
  simp only [Option.map_eq_some_iff] at h
  obtain ⟨i, hi, rfl⟩ := h
  simp [sizeOf, typeInfo, quietly_bind, quietly, program, hi, quietly_pure, Bind.bind, Sem.bind]
  rfl
theorem quietly_part {ft : TypeId} {off : Nat} {xs : List Value} {v : Value} (ha : isAgg? P ft = some false) (hv : xs[off]? = some v) : quietly P (part ft xs.toArray off) = some v := by
  unfold part
  rw [quietly_bind, quietly_isAgg ha]
  simp [hv, quietly_pure]
theorem evalEq_cons {o : Nat} {dd : TypeDesc} {l : List (Nat × TypeDesc)} {xs ys : List Value} {B : Bool} (h : evalEq ((o, dd) :: l) xs ys = some B) : ∃ x y b B', xs[o]? = some x ∧ ys[o]? = some y ∧ eqLeaf dd x y = some b ∧ evalEq l xs ys = some B' ∧ B = (b && B') := by
  simp only [evalEq, Option.bind_eq_some_iff, Option.map_eq_some_iff] at h
  obtain ⟨x, hx, y, hy, b, hb, B', hB', rfl⟩ := h
  exact ⟨x, y, b, B', hx, hy, hb, hB', rfl⟩
theorem eq_fields (d : Nat) (xs ys : List Value) : ∀ (fs : List Field) (ks : List (Nat × TypeDesc)) (B : Bool), omap (fieldKind P) fs = some ks → evalEq ks xs ys = some B →
    quietly P (forIn fs ((none, ()) : Option Bool × Unit) fun f __s =>
            if f.name ≠ "_" then do
              let __do_lift ← part f.type xs.toArray f.offset
              let __do_lift_1 ← part f.type ys.toArray f.offset
              let __do_lift ← equalIn (d + 1) f.type __do_lift __do_lift_1
              if (!__do_lift) = true then pure (ForInStep.done (some false, ())) else pure (ForInStep.yield (none, ()))
            else pure (ForInStep.yield (none, ()))) = some (if B then (none, ()) else (some false, ())) := by
  intro fs
  induction fs with
  | nil =>
    intro ks B h hv
    cases h
    cases hv
    simp [quietly_pure]
  | cons f fs ih =>
    intro ks B h hv
    simp only [omap, Option.bind_eq_some_iff, Option.map_eq_some_iff] at h
    obtain ⟨k, hk, ks', hks, rfl⟩ := h
    unfold fieldKind at hk
    split at hk
    · cases hk
    rename_i hn
    split at hk
    · rename_i ha
      simp only [Option.map_eq_some_iff] at hk
      obtain ⟨dd, hu, rfl⟩ := hk
      obtain ⟨x, y, b, B', hx, hy, hb, hB', rfl⟩ := evalEq_cons hv
      have ih := ih ks' B' hks hB'
      rw [List.forIn_cons, quietly_bind, if_pos hn]
      simp only [quietly_bind, quietly_part ha hx, quietly_part ha hy, quietly_leaf d hu hb, Option.bind_some]
      cases b with
      | false => simp [quietly_pure]
      | true =>
        simp only [Bool.not_true, Bool.false_eq_true, if_false, quietly_pure, Option.bind_some, Bool.true_and]
        exact ih
    · cases hk
theorem equalIn_struct {t : TypeId} {fs : Array Field} {ks : List (Nat × TypeDesc)} {xs ys : List Value} {B : Bool} (d : Nat) (hu : P.underlying t = some (.struct fs)) (hs : P.stoodInHeld t = false) (hk : omap (fieldKind P) fs.toList = some ks) (hv : evalEq ks xs ys = some B) :
    quietly P (equalIn (d+2) t (.agg xs.toArray) (.agg ys.toArray)) = some B := by
  unfold equalIn
  rw [quietly_bind, run_quiet_und hu]
  simp only [quietly_bind, quietly_pure, quietly, program, hs, Option.bind_some, Bool.false_eq_true, if_false]
  rw [← Array.forIn_toList, eq_fields d xs ys _ _ _ hk hv]
  cases B <;> rfl
theorem eqGuard_agg {t : TypeId} {x y : Operand} {xs ys : Array Value} {op : BinOp} (hs : P.eqGuardType P.depth t = false) : quietly P (eqGuard op t x y (.agg xs) (.agg ys)) = some () := by
  unfold eqGuard
  cases op <;> simp [quietly_bind, quietly, program, hs, quietly_pure]
theorem eq_elems {el : TypeId} {s : Nat} {dd : TypeDesc} (d : Nat) (xs ys : List Value) (ha : isAgg? P el = some false) (hd : P.underlying el = some dd) : ∀ (is : List Nat) (B : Bool), evalEq (is.map fun i => (i * s, dd)) xs ys = some B →
    quietly P (forIn is ((none, ()) : Option Bool × Unit) fun i __s => do
            let __do_lift ← part el xs.toArray (i * s)
            let __do_lift_1 ← part el ys.toArray (i * s)
            let __do_lift ← equalIn (d + 1) el __do_lift __do_lift_1
            if (!__do_lift) = true then pure (ForInStep.done (some false, ()))
              else pure (ForInStep.yield (none, ()))) = some (if B then (none, ()) else (some false, ())) := by
  intro is
  induction is with
  | nil => intro B hv; cases hv; simp [quietly_pure]
  | cons f fs ih =>
    intro B hv
    rw [List.map_cons] at hv
    obtain ⟨x, y, b, B', hx, hy, hb, hB', rfl⟩ := evalEq_cons hv
    have ih := ih B' hB'
    rw [List.forIn_cons, quietly_bind]
    simp only [quietly_bind, quietly_part ha hx, quietly_part ha hy, quietly_leaf d hd hb, Option.bind_some]
    cases b with
    | false => simp [quietly_pure]
    | true =>
      simp only [Bool.not_true, Bool.false_eq_true, if_false, quietly_pure, Option.bind_some, Bool.true_and]
      exact ih
theorem equalIn_array {t el : TypeId} {n s : Nat} {dd : TypeDesc} {xs ys : List Value} {B : Bool} (d : Nat) (hu : P.underlying t = some (.array n el)) (hs : sizeOf? P el = some s) (ha : isAgg? P el = some false) (hd : P.underlying el = some dd) (hv : evalEq ((List.range n).map fun i => (i * s, dd)) xs ys = some B) :
    quietly P (equalIn (d+2) t (.agg xs.toArray) (.agg ys.toArray)) = some B := by
  unfold equalIn
  rw [quietly_bind, run_quiet_und hu]
  simp only [quietly_bind, quietly_sizeOf hs, Option.bind_some]
  rw [Std.Legacy.Range.forIn_eq_forIn_range']
  rw [show List.range' ([:n] : Std.Legacy.Range).start ([:n] : Std.Legacy.Range).size ([:n] : Std.Legacy.Range).step = List.range n by simp [List.range_eq_range', Std.Legacy.Range.size]]
  rw [eq_elems d xs ys ha hd _ _ hv]
  cases B <;> rfl
theorem quietly_equal {t : TypeId} {ks : List (Nat × TypeDesc)} {xs ys : List Value} {B : Bool} {x y : Operand} (hk : eqKinds P t = some ks) (hv : evalEq ks xs ys = some B) (op : BinOp) :
    quietly P (equal t (.agg xs.toArray) (.agg ys.toArray)) = some B ∧ quietly P (eqGuard op t x y (.agg xs.toArray) (.agg ys.toArray)) = some () := by
  unfold eqKinds at hk
  split at hk
  · rename_i fs hu
    split at hk
    · rename_i hc
      exact ⟨equalIn_struct 9998 hu hc.1 hk hv, eqGuard_agg hc.2⟩
    · cases hk
  · rename_i n el hu
    split at hk
    · rename_i hc
      simp only [Option.bind_eq_some_iff, Option.map_eq_some_iff] at hk
      obtain ⟨s, hs, dd, hd, rfl⟩ := hk
      exact ⟨equalIn_array 9998 hu hs hc.2 hd hv, eqGuard_agg hc.1⟩
    · cases hk
  · cases hk
section
variable {e : Env} {d : Option Tmp} {x y : Operand} {t u ty : TypeId} {pos : String} {af : Array Edge} {g : Option (Nat × Bool)} {H : Heap} {tgt : Nat}
theorem isNil_agg {dd : Option TypeDesc} {cs : List PV} : isNil dd (.agg cs) = none := by unfold isNil; split <;> simp_all
theorem eqS {ks : List (Nat × TypeDesc)} {cs ds : List PV} {xs ys : List Value} {B : Bool} (hk : eqKinds P t = some ks) (hx : ev e x = .agg cs) (hy : ev e y = .agg ds) (hcx : omap scalar? cs = some xs) (hcy : omap scalar? ds = some ys) (hv : evalEq ks xs ys = some B) :
    aop P e ⟨d, .binOp .eql t x y u, ty, pos, af, g⟩ H tgt = some (.val (.bool B), H) := by
  obtain ⟨h1, h2⟩ := quietly_equal (x := x) (y := y) hk hv .eql
  have h3 : quietly P (execOp (fun z => (toV? (ev e z)).getD undef) ⟨d, .binOp .eql t x y u, ty, pos, af, g⟩) = some (.value (.bool B)) := by
    show quietly P (do let a ← (do eqGuard .eql t x y _ _; binOp .eql t _ _); pure (Next.value a)) = _
    simp only [hx, hy, toV?, hcx, hcy, Option.map_some, Option.getD_some]
    rw [quietly_bind, quietly_bind, h2]
    have h4 : quietly P (binOp .eql t (.agg xs.toArray) (.agg ys.toArray)) = some (.bool B) := by
      show quietly P (do pure (Value.bool (← equal t (.agg xs.toArray) (.agg ys.toArray)))) = _
      rw [quietly_bind, h1]; rfl
    simp only [Option.bind_some, h4, quietly_pure]
  simp only [aop, hx, isNil_agg]
  unfold generic
  rw [if_pos (by simp [Op.operands, hx, hy, toV?, hcx, hcy]), h3]
  rfl
theorem neS {ks : List (Nat × TypeDesc)} {cs ds : List PV} {xs ys : List Value} {B : Bool} (hk : eqKinds P t = some ks) (hx : ev e x = .agg cs) (hy : ev e y = .agg ds) (hcx : omap scalar? cs = some xs) (hcy : omap scalar? ds = some ys) (hv : evalEq ks xs ys = some B) :
    aop P e ⟨d, .binOp .neq t x y u, ty, pos, af, g⟩ H tgt = some (.val (.bool (!B)), H) := by
  obtain ⟨h1, h2⟩ := quietly_equal (x := x) (y := y) hk hv .neq
  have h3 : quietly P (execOp (fun z => (toV? (ev e z)).getD undef) ⟨d, .binOp .neq t x y u, ty, pos, af, g⟩) = some (.value (.bool (!B))) := by
    show quietly P (do let a ← (do eqGuard .neq t x y _ _; binOp .neq t _ _); pure (Next.value a)) = _
    simp only [hx, hy, toV?, hcx, hcy, Option.map_some, Option.getD_some]
    rw [quietly_bind, quietly_bind, h2]
    have h4 : quietly P (binOp .neq t (.agg xs.toArray) (.agg ys.toArray)) = some (.bool (!B)) := by
      show quietly P (do pure (Value.bool (!(← equal t (.agg xs.toArray) (.agg ys.toArray))))) = _
      rw [quietly_bind, h1]; rfl
    simp only [Option.bind_some, h4, quietly_pure]
  simp only [aop, hx, isNil_agg]
  unfold generic
  rw [if_pos (by simp [Op.operands, hx, hy, toV?, hcx, hcy]), h3]
  rfl
theorem eqRN {el : TypeId} {α : Type} {cf : α → List PV} {l : List α} (hne : ¬ l.length = 0) (hu : P.underlying t = some (.slice el)) (hx : ev e x = .rows (l.map cf)) (hy : ev e y = .val (.slice none 0 0)) : aop P e ⟨d, .binOp .eql t x y u, ty, pos, af, g⟩ H tgt = some (.val (.bool false), H) := by
  cases l with
  | nil => exact absurd rfl hne
  | cons a l => simp [aop, hu, hx, hy, isNil]
theorem eqEN_some {el : TypeId} {c : Addr} {k : Nat} (hu : P.underlying t = some (.slice el)) (hx : ev e x = .val (.slice (some c) 0 k)) (hy : ev e y = .val (.slice none 0 0)) : aop P e ⟨d, .binOp .eql t x y u, ty, pos, af, g⟩ H tgt = some (.val (.bool false), H) := by
  have h1 : quietly P (equal t (.slice (some c) 0 k) (.slice none 0 0)) = some false := by
    unfold equal maxDepth equalIn
    rw [quietly_bind, run_quiet_und hu]
    rfl
  have hg : eqGuard .eql t x y (.slice (some c) 0 k) (.slice none 0 0) = pure () := rfl
  have h3 : quietly P (execOp (fun z => (toV? (ev e z)).getD undef) ⟨d, .binOp .eql t x y u, ty, pos, af, g⟩) = some (.value (.bool false)) := by
    show quietly P (do let a ← (do eqGuard .eql t x y _ _; binOp .eql t _ _); pure (Next.value a)) = _
    simp only [hx, hy, toV?, Option.getD_some]
    rw [quietly_bind, quietly_bind, hg, quietly_pure]
    have h4 : quietly P (binOp .eql t (.slice (some c) 0 k) (.slice none 0 0)) = some (.bool false) := by
      show quietly P (do pure (Value.bool (← equal t _ _))) = _
      rw [quietly_bind, h1]; rfl
    simp only [Option.bind_some, h4, quietly_pure]
  have hn : isNil (P.underlying t) (.val (.slice (some c) 0 k)) = none := by rw [hu]; rfl
  simp only [aop, hx, hn]
  unfold generic
  rw [if_pos (by simp [Op.operands, hx, hy, toV?]), h3]
  rfl
theorem eqEN {el : TypeId} {z : Option Addr} {k : Nat} (hu : P.underlying t = some (.slice el)) (hx : ev e x = .val (.slice z 0 k)) (hy : ev e y = .val (.slice none 0 0)) : aop P e ⟨d, .binOp .eql t x y u, ty, pos, af, g⟩ H tgt = some (.val (.bool z.isNone), H) := by
  cases z with
  | some c => exact eqEN_some hu hx hy
  | none =>
    cases k with
    | zero => simp [aop, hu, hx, hy, isNil]
    | succ k =>
      have h1 : quietly P (equal t (.slice none 0 (k + 1)) (.slice none 0 0)) = some true := by
        unfold equal maxDepth equalIn
        rw [quietly_bind, run_quiet_und hu]
        rfl
      have hg : eqGuard .eql t x y (.slice none 0 (k + 1)) (.slice none 0 0) = pure () := rfl
      have h3 : quietly P (execOp (fun z => (toV? (ev e z)).getD undef) ⟨d, .binOp .eql t x y u, ty, pos, af, g⟩) = some (.value (.bool true)) := by
        show quietly P (do let a ← (do eqGuard .eql t x y _ _; binOp .eql t _ _); pure (Next.value a)) = _
        simp only [hx, hy, toV?, Option.getD_some]
        rw [quietly_bind, quietly_bind, hg, quietly_pure]
        have h4 : quietly P (binOp .eql t (.slice none 0 (k + 1)) (.slice none 0 0)) = some (.bool true) := by
          show quietly P (do pure (Value.bool (← equal t _ _))) = _
          rw [quietly_bind, h1]; rfl
        simp only [Option.bind_some, h4, quietly_pure]
      have hn : isNil (P.underlying t) (.val (.slice none 0 (k + 1))) = none := by rw [hu]; rfl
      simp only [aop, hx, hn]
      unfold generic
      rw [if_pos (by simp [Op.operands, hx, hy, toV?]), h3]
      rfl
theorem isNil_bool {dd : Option TypeDesc} {b : Bool} : isNil dd (.val (.bool b)) = none := by unfold isNil; split <;> simp_all
theorem neB {a b : Bool} (hu : P.underlying t = some .bool) (hx : ev e x = .val (.bool a)) (hy : ev e y = .val (.bool b)) : aop P e ⟨d, .binOp .neq t x y u, ty, pos, af, g⟩ H tgt = some (.val (.bool (a != b)), H) := by
  have hg : eqGuard .neq t x y (.bool a) (.bool b) = pure () := rfl
  have h1 : quietly P (equal t (.bool a) (.bool b)) = some (a == b) := quietly_leaf 9999 hu rfl
  have h3 : quietly P (execOp (fun z => (toV? (ev e z)).getD undef) ⟨d, .binOp .neq t x y u, ty, pos, af, g⟩) = some (.value (.bool (a != b))) := by
    show quietly P (do let a ← (do eqGuard .neq t x y _ _; binOp .neq t _ _); pure (Next.value a)) = _
    simp only [hx, hy, toV?, Option.getD_some]
    rw [quietly_bind, quietly_bind, hg, quietly_pure]
    have h4 : quietly P (binOp .neq t (.bool a) (.bool b)) = some (.bool (a != b)) := by
      show quietly P (do pure (Value.bool (!(← equal t _ _)))) = _
      rw [quietly_bind, h1]; rfl
    simp only [Option.bind_some, h4, quietly_pure]
  simp only [aop, hx, isNil_bool]
  unfold generic
  rw [if_pos (by simp [Op.operands, hx, hy, toV?]), h3]
  rfl
end
end Go.RM
namespace Go.RM
open Op
set_option linter.unusedVariables false
set_option linter.unusedSimpArgs false
set_option linter.unusedSectionVars false
def midx {κ α : Type} [DecidableEq κ] : List (κ × α) → κ → Option Nat
  | [], _ => none
  | x :: l, k => if x.1 = k then some 0 else (midx l k).map (· + 1)
@[reducible] def mpE {κ α : Type} (kf : κ → Value) (vf : α → PV) (l : List (κ × α)) : List (Value × PV) := l.map fun x => (kf x.1, vf x.2)
@[reducible] def mpB {κ α : Type} (kf : κ → Value) (vf : α → PV) (l : List (κ × α)) : Blk := ⟨1, [], 0, some (mpE kf vf l)⟩
variable {P : Program}
structure KeyT (P : Program) (kt : TypeId) {κ : Type} [DecidableEq κ] (kf : κ → Value) : Prop where
  check : ∀ (em : Bool) (k : κ), quietly P (Instr.checkKey em 10000 kt (kf k)) = some ()
  at_ : ∀ {α : Type} (vf : α → PV) (k : κ) (l : List (κ × α)), keyAt P kt (kf k) (mpE kf vf l) = some (midx l k)
  same : ∀ k : κ, Instr.sameBits 10000 (kf k) (kf k) = true
theorem keyAt_now {kt : TypeId} {d : TypeDesc} {κ : Type} [DecidableEq κ] {kf : κ → Value} (hu : P.underlying kt = some d) (hs : ∀ a b : κ, Instr.sameNow d (kf a) (kf b) = some (decide (a = b))) {α : Type} (vf : α → PV) (k : κ) (l : List (κ × α)) :
    keyAt P kt (kf k) (mpE kf vf l) = some (midx l k) := by
  have key : ∀ (l : List (κ × α)) (i : Nat), ∃ r, Instr.findNow d (kf k) ((mpE kf vf l).map fun x => { key := x.1, val := undef, born := 0 }) i = some r ∧ r.map (·.1) = (midx l k).map (· + i) := by
    intro l
    induction l with
    | nil => intro i; exact ⟨none, rfl, rfl⟩
    | cons x l ih =>
      intro i
      simp only [mpE, List.map_cons]
      unfold Instr.findNow midx
      simp only [hs]
      by_cases h : k = x.1
      · rw [decide_eq_true h, if_pos h.symm]
        exact ⟨_, rfl, by simp⟩
      · rw [decide_eq_false h, if_neg (fun e => h e.symm)]
        obtain ⟨r, h1, h2⟩ := ih (i + 1)
        refine ⟨r, h1, ?_⟩
        rw [h2]
        cases midx l k with
        | none => rfl
        | some j => simp; omega
  obtain ⟨r, h1, h2⟩ := key l 0
  unfold keyAt Instr.findKey
  rw [quietly_bind, run_quiet_und hu]
  simp only [Option.bind_some]
  rw [h1]
  simp only [quietly_pure, Option.map_some]
  rw [h2]
  cases midx l k <;> rfl
theorem keyAt_ask {kt : TypeId} {d : TypeDesc} {κ : Type} [DecidableEq κ] {kf : κ → Value} (hu : P.underlying kt = some d) (hn : ∀ a b : κ, Instr.sameNow d (kf a) (kf b) = none) (hs : ∀ a b : κ, quietly P (equal kt (kf a) (kf b)) = some (decide (a = b))) {α : Type} (vf : α → PV) (k : κ) (l : List (κ × α)) :
    keyAt P kt (kf k) (mpE kf vf l) = some (midx l k) := by
  have key : ∀ (l : List (κ × α)) (i : Nat), ∃ r, quietly P (Instr.findAsking kt (kf k) ((mpE kf vf l).map fun x => { key := x.1, val := undef, born := 0 }) i) = some r ∧ r.map (·.1) = (midx l k).map (· + i) := by
    intro l
    induction l with
    | nil => intro i; exact ⟨none, rfl, rfl⟩
    | cons x l ih =>
      intro i
      simp only [mpE, List.map_cons]
      unfold Instr.findAsking midx
      rw [quietly_bind, hs]
      simp only [Option.bind_some]
      by_cases h : k = x.1
      · simp only [decide_eq_true h, if_true]
        rw [if_pos h.symm]
        exact ⟨_, rfl, by simp⟩
      · simp only [decide_eq_false h, Bool.false_eq_true, if_false]
        rw [if_neg (fun e : x.1 = k => h e.symm)]
        obtain ⟨r, h1, h2⟩ := ih (i + 1)
        refine ⟨r, h1, ?_⟩
        rw [h2]
        cases midx l k with
        | none => rfl
        | some j => simp; omega
  have now : ∃ r0, Instr.findNow d (kf k) ((mpE kf vf l).map fun x => { key := x.1, val := undef, born := 0 }) 0 = r0 ∧ (l = [] → r0 = some none) ∧ (l ≠ [] → r0 = none) := by
    cases l with
    | nil => exact ⟨some none, rfl, fun _ => rfl, fun h => absurd rfl h⟩
    | cons x l =>
      refine ⟨none, ?_, fun h => (by cases h), fun _ => rfl⟩
      simp only [mpE, List.map_cons]; unfold Instr.findNow; simp only [hn]
  obtain ⟨r0, h0, h1, h2⟩ := now
  obtain ⟨r, h3, h4⟩ := key l 0
  unfold keyAt Instr.findKey
  rw [quietly_bind, run_quiet_und hu]
  simp only [Option.bind_some]
  rw [h0]
  by_cases hl : l = []
  · rw [h1 hl]; subst hl; rfl
  · rw [h2 hl]
    simp only [h3, Option.map_some]
    rw [h4]
    cases midx l k <;> rfl
def kInt (k : IntKind) (i : Int) : Value := .int k i
theorem KeyT.int {kt : TypeId} {q : IntKind} (hu : P.underlying kt = some (.int q)) : KeyT P kt (kInt q) where
  check em k := by unfold Instr.checkKey; rw [quietly_bind, run_quiet_und hu]; rfl
  at_ vf k l := keyAt_now hu (fun a b => by simp only [kInt, Instr.sameNow, if_true, Option.some.injEq]; rw [Bool.eq_iff_iff]; simp) vf k l
  same k := by simp [kInt, Instr.sameBits]
theorem KeyT.agg {kt : TypeId} {ks : List (Nat × TypeDesc)} {κ : Type} [DecidableEq κ] {xf : κ → List Value} (ha : isAgg? P kt = some true) (hk : eqKinds P kt = some ks)
    (hv : ∀ a b : κ, evalEq ks (xf a) (xf b) = some (decide (a = b))) (hc : ∀ (em : Bool) (k : κ), quietly P (Instr.checkKey em 10000 kt (.agg (xf k).toArray)) = some ()) (hsm : ∀ k : κ, Instr.sameBits 10000 (.agg (xf k).toArray) (.agg (xf k).toArray) = true) :
    KeyT P kt (fun k => .agg (xf k).toArray) := by
  unfold isAgg? at ha
  obtain ⟨d, hu, -⟩ := Option.map_eq_some_iff.1 ha
  exact ⟨hc, fun vf k l => keyAt_ask hu (fun a b => by cases d <;> rfl) (fun a b => (quietly_equal (x := .const undef) (y := .const undef) hk (hv a b) .eql).1) vf k l, hsm⟩
end Go.RM
namespace Go.RM
set_option linter.unusedVariables false
section
variable {P : Program} {X : FuncId → List PV → Heap → PV → Heap → Prop} {e : Env} {H H1 : Heap}
variable {N M : Nat} {all : Array Oper} {l : List Oper} {e' : Env} {H' : Heap} {p : PV} {v : Value} {d : Option Tmp} {op : Op} {x : Operand} {ty : TypeId} {pos : String} {af : Array Edge} {j t : Nat} {want B : Bool}
theorem D.o (ho : aop P e ⟨d, op, ty, pos, af, none⟩ H 0 = some (p, H1)) (h : D P X (.ops N all l (e.put d p) H1 e' H')) : D P X (.ops N all (⟨d, op, ty, pos, af, none⟩ :: l) e H e' H') := .op 0 rfl ho h
theorem D.m (hx : ev e x = .val v) (h : D P X (.ops N all l (e.put d (.val v)) H e' H')) : D P X (.ops N all (⟨d, .move x, ty, pos, af, none⟩ :: l) e H e' H') := .op 0 rfl (mvV hx) h
theorem D.a (hx : ev e x = .val v) (h : D P X (.ops N all l (e.put d (.val v)) H e' H')) : D P X (.ops N all (⟨d, .assign x, ty, pos, af, none⟩ :: l) e H e' H') := .op 0 rfl (asV hx) h
theorem D.g (hd : ((all[j]?).bind (·.dst)).map e = some (.val (.bool B))) (hB : B = want) (ho : aop P e ⟨d, op, ty, pos, af, some (j, want)⟩ H 0 = some (p, H1)) (h : D P X (.ops N all l (e.put d p) H1 e' H')) :
    D P X (.ops N all (⟨d, op, ty, pos, af, some (j, want)⟩ :: l) e H e' H') := by
  obtain ⟨t, h1, h2⟩ := Option.map_eq_some_iff.1 hd
  exact .op 0 (gT rfl h1 h2 hB) ho h
theorem D.n (hd : ((all[j]?).bind (·.dst)).map e = some (.val (.bool B))) (hB : B = !want) (h : D P X (.ops N all l (e.put d (.val undef)) H e' H')) :
    D P X (.ops N all (⟨d, op, ty, pos, af, some (j, want)⟩ :: l) e H e' H') := by
  obtain ⟨t, h1, h2⟩ := Option.map_eq_some_iff.1 hd
  exact .no (gF rfl h1 h2 hB) h
theorem D.u (hd : ((all[j]?).bind (·.dst)).map e = some (.val undef)) (h : D P X (.ops N all l (e.put d (.val undef)) H e' H')) :
    D P X (.ops N all (⟨d, op, ty, pos, af, some (j, want)⟩ :: l) e H e' H') := by
  obtain ⟨t, h1, h2⟩ := Option.map_eq_some_iff.1 hd
  exact .no (gN rfl h1 h2) h
theorem D.c {q : FuncId} {args : List PV} {r : PV} {xf : Operand} {ar : Array Operand} {tys : Array TypeId} {cs : List PV} (hx : ev e xf = .clo q cs) (hq : isGo P q = true) (hp : ar.toList.map (ev e) ++ cs = args) (ha : args.all (PV.free deep) = true) (hr : PV.free deep r = true) (hc : D P X (.callH q args [] r []))
    (h : D P X (.ops N all l (e.put d r) H e' H')) : D P X (.ops N all (⟨d, .call ⟨.value xf, ar, tys⟩, ty, pos, af, none⟩ :: l) e H e' H') := .callI rfl (callee_of hx hq hp) (.pure ha hr hc) h
theorem frees {f : Map} : ∀ {l : List (Nat × PV)}, l.map (fun x => e x.1) = l.map (·.2) → l.all (fun x => PV.free deep x.2) = true → ConvL H f e l
  | [], _, _ => trivial
  | (t, p) :: l, h, h' => by
    simp only [List.map_cons, List.cons.injEq] at h
    simp only [List.all_cons, Bool.and_eq_true] at h'
    exact ⟨.free h.1 (by rw [h.1]; exact h'.1), frees h.2 h'.2⟩
theorem D.k {fn rd k O} (l : List (Nat × PV)) (he : ConvL H (.keep []) e l) (h : D P X (.run fn N 0 rd k (listEnv l) [] O H')) : D P X (.run fn N 0 rd k e H O H') := .keepL [] l [] (fun b hb => absurd hb (Nat.not_lt_zero b)) (by simp) he trivial h
theorem D.kf {fn rd k O} (l : List (Nat × PV)) (hl : l.map (fun x => e x.1) = l.map (·.2)) (hf : l.all (fun x => PV.free deep x.2) = true) (h : D P X (.run fn N 0 rd k (listEnv l) [] O H')) : D P X (.run fn N 0 rd k e H O H') := .k l (frees hl hf) h
end
section
variable {P : Program} {X : FuncId → List PV → Heap → PV → Heap → Prop} {e : Env} {H : Heap}
variable {N : Nat} {ops : List Oper} {L : List (Nat × Nat × PV)} {LH : List (Nat × Nat × Blk)} {As : List (List Nat)} {i t : Nat} {p : PV} {op : Op} {ty : TypeId} {pos : String} {af : Array Edge} {H2 : (Nat → Bool) → Heap} {g : Option (Nat × Bool)}
theorem oW (tgt : Nat) (ho : ∀ S, aop P (drawE e L (mask As i S)) ⟨some t, op, ty, pos, af, none⟩ (drawH 0 H LH (mask As i S)) tgt = some (p, H2 S)) (hL : (laterOk (ahead As) i t L, entry i L) = (true, some p)) (hH : ∀ S, H2 S = drawH 0 H LH (plus (mask As i S) i)) :
    OneM P X N ops e H L LH As i ⟨some t, op, ty, pos, af, none⟩ := fun S hS hD hn => by
  rw [Prod.mk.injEq] at hL
  exact .one tgt hS hD hn rfl rfl (ho S) hL.1 hL.2 (hH S)
theorem drawH_other (i : Nat) (S : Nat → Bool) {LH : List (Nat × Nat × Blk)} (h : LH.all (fun x => x.1 != i) = true) : ∀ (n : Nat) (H : Heap), drawH n H LH S = drawH n H LH (plus S i)
  | _, [] => rfl
  | n, k :: H => by
    have hv : ∀ (l : List (Nat × Nat × Blk)), l.all (fun x => x.1 != i) = true → ver n k l S = ver n k l (plus S i) := by
      intro l
      induction l with
      | nil => intro _; rfl
      | cons x l ih =>
        obtain ⟨q, b, k'⟩ := x
        intro hl
        simp only [List.all_cons, Bool.and_eq_true, bne_iff_ne, ne_eq] at hl
        simp only [ver, ih hl.2, plus, show (q == i) = false by simpa using hl.1, Bool.false_or]
    simp only [drawH, hv LH h, drawH_other i S h (n + 1) H]
theorem oP (ho : ∀ S, aop P (drawE e L (mask As i S)) ⟨some t, op, ty, pos, af, none⟩ (drawH 0 H LH (mask As i S)) 0 = some (p, drawH 0 H LH (mask As i S))) (hL : (laterOk (ahead As) i t L, entry i L, LH.all (fun x => x.1 != i)) = (true, some p, true)) :
    OneM P X N ops e H L LH As i ⟨some t, op, ty, pos, af, none⟩ := fun S hS hD hn => by
  simp only [Prod.mk.injEq] at hL
  exact .one 0 hS hD hn rfl rfl (ho S) hL.1 hL.2.1 (drawH_other i _ hL.2.2 0 H)
theorem oG {j u : Nat} {want B : Bool} (hd : (ops.toArray[j]?).bind (·.dst) = some u) (he : ∀ S, drawE e L (mask As i S) u = .val (.bool B)) (hB : B = want) (ho : ∀ S, aop P (drawE e L (mask As i S)) ⟨some t, op, ty, pos, af, some (j, want)⟩ (drawH 0 H LH (mask As i S)) 0 = some (p, drawH 0 H LH (mask As i S)))
    (hL : (laterOk (ahead As) i t L, entry i L, LH.all (fun x => x.1 != i)) = (true, some p, true)) : OneM P X N ops e H L LH As i ⟨some t, op, ty, pos, af, some (j, want)⟩ := fun S hS hD hn => by
  simp only [Prod.mk.injEq] at hL
  exact .one 0 hS hD hn (gT rfl hd (he S) hB) rfl (ho S) hL.1 hL.2.1 (drawH_other i _ hL.2.2 0 H)
theorem oN {j u : Nat} {want B : Bool} (hd : (ops.toArray[j]?).bind (·.dst) = some u) (he : ∀ S, drawE e L (mask As i S) u = .val (.bool B)) (hB : B = !want)
    (hL : (laterOk (ahead As) i t L, entry i L, LH.all (fun x => x.1 != i)) = (true, some (.val undef), true)) : OneM P X N ops e H L LH As i ⟨some t, op, ty, pos, af, some (j, want)⟩ := fun S hS hD hn => by
  simp only [Prod.mk.injEq] at hL
  exact .oneNo hS hD (gF rfl hd (he S) hB) rfl hn hL.1 hL.2.1 (drawH_other i _ hL.2.2 0 H)
end
theorem q.{u} {α : Sort u} {a : α} : a = a := rfl
abbrev nul : PV := .val (.slice none 0 0)
abbrev und : PV := .val undef
abbrev i6 (i : Int) : PV := .val (.int .i64 i)
abbrev u6 (i : Int) : PV := .val (.int .u64 i)
abbrev bo (b : Bool) : PV := .val (.bool b)
theorem nb {v : Bool} (h : ¬ v = true) : v = false := Bool.eq_false_iff.mpr h
theorem bt {α : Type} [BEq α] [LawfulBEq α] {a b : α} (h : a = b) : (a == b) = true := beq_iff_eq.mpr h
theorem bn {α : Type} [BEq α] [LawfulBEq α] {a b : α} (h : ¬ a = b) : (a == b) = false := beq_eq_false_iff_ne.mpr h
theorem nt {α : Type} [BEq α] [LawfulBEq α] {a b : α} (h : ¬ a = b) : (a != b) = true := bne_iff_ne.mpr h
theorem nf {α : Type} [BEq α] [LawfulBEq α] {a b : α} (h : a = b) : (a != b) = false := bne_eq_false_iff_eq.mpr h
theorem dt {p : Prop} [Decidable p] (h : p) : decide p = true := decide_eq_true h
theorem df {p : Prop} [Decidable p] (h : ¬ p) : decide p = false := decide_eq_false h
end Go.RM
set_option linter.unusedVariables false
set_option maxRecDepth 8000
set_option maxHeartbeats 4000000
namespace Go.RM.Tryz
open Go.RM Go.Proofs
structure TSpace where
  Tag : Int
  Dim : Int
  Parts : List TSpace
instance : Inhabited TSpace := ⟨⟨0, 0, []⟩⟩
mutual
def TSpace.cells : TSpace → List PV
  | ⟨v0, v1, v2⟩ => [.val (.int .i64 v0), .val (.int .i64 v1), .rows (TSpace.cellsL v2)]
def TSpace.cellsL : List TSpace → List (List PV)
  | [] => []
  | x :: l => TSpace.cells x :: TSpace.cellsL l
end
theorem TSpace.cellsL_map : ∀ (l : List TSpace), TSpace.cellsL l = l.map TSpace.cells
  | [] => by simp [TSpace.cellsL]
  | x :: l => by simp [TSpace.cellsL, TSpace.cellsL_map l]
def TSpace.lit (x : TSpace) : List PV := [.val (.int .i64 x.Tag), .val (.int .i64 x.Dim), .rows (x.Parts.map TSpace.cells)]
theorem TSpace.cells_lit (x : TSpace) : TSpace.cells x = TSpace.lit x := by
  cases x; simp [TSpace.cells, TSpace.lit, TSpace.cellsL_map]
theorem TSpace.cells_ok (x : TSpace) : (TSpace.cells x).length = 3 ∧ (TSpace.cells x).all (PV.free deep) = true ∧ (TSpace.cells x).all PV.one = true := by rw [TSpace.cells_lit]; exact ⟨q, q, q⟩
structure TFacts where
  Gen : Int
  Rows : List Int
instance : Inhabited TFacts := ⟨⟨0, []⟩⟩
def TFacts.cells (x : TFacts) : List PV := [.val (.int .u64 x.Gen), .rows (x.Rows.map (cInt .u64))]
@[reducible] def TFacts.lit (x : TFacts) : List PV := TFacts.cells x
theorem TFacts.cells_ok (x : TFacts) : (TFacts.cells x).length = 2 ∧ (TFacts.cells x).all (PV.free deep) = true ∧ (TFacts.cells x).all PV.one = true := ⟨q, q, q⟩
structure TCell where
  From : Int
  Kind : Int
  K : Int
instance : Inhabited TCell := ⟨⟨0, 0, 0⟩⟩
def TCell.cells (x : TCell) : List PV := [.val (.int .u64 x.From), .val (.int .i64 x.Kind), .val (.int .i64 x.K)]
@[reducible] def TCell.lit (x : TCell) : List PV := TCell.cells x
theorem TCell.cells_ok (x : TCell) : (TCell.cells x).length = 3 ∧ (TCell.cells x).all (PV.free deep) = true ∧ (TCell.cells x).all PV.one = true := ⟨q, q, q⟩
structure TWeight where
  Zero : Bool
  Cost : Int
  Facts : TFacts
  Cells : List TCell
  Parts : List TWeight
instance : Inhabited TWeight := ⟨⟨false, 0, default, [], []⟩⟩
mutual
def TWeight.cells : TWeight → List PV
  | ⟨v0, v1, v2, v3, v4⟩ => [.val (.bool v0), .val (.int .i64 v1), .val (.int .u64 v2.Gen), .rows (v2.Rows.map (cInt .u64)), .rows (v3.map TCell.cells), .rows (TWeight.cellsL v4)]
def TWeight.cellsL : List TWeight → List (List PV)
  | [] => []
  | x :: l => TWeight.cells x :: TWeight.cellsL l
end
theorem TWeight.cellsL_map : ∀ (l : List TWeight), TWeight.cellsL l = l.map TWeight.cells
  | [] => by simp [TWeight.cellsL]
  | x :: l => by simp [TWeight.cellsL, TWeight.cellsL_map l]
def TWeight.lit (x : TWeight) : List PV := [.val (.bool x.Zero), .val (.int .i64 x.Cost), .val (.int .u64 x.Facts.Gen), .rows (x.Facts.Rows.map (cInt .u64)), .rows (x.Cells.map TCell.cells), .rows (x.Parts.map TWeight.cells)]
theorem TWeight.cells_lit (x : TWeight) : TWeight.cells x = TWeight.lit x := by
  cases x; simp [TWeight.cells, TWeight.lit, TWeight.cellsL_map]
theorem TWeight.cells_ok (x : TWeight) : (TWeight.cells x).length = 6 ∧ (TWeight.cells x).all (PV.free deep) = true ∧ (TWeight.cells x).all PV.one = true := by rw [TWeight.cells_lit]; exact ⟨q, q, q⟩
end Go.RM.Tryz
namespace Go.RM
set_option linter.unusedVariables false
def putL : List (Nat × PV) → Nat → PV → List (Nat × PV)
  | [], t, p => [(t, p)]
  | (u, q) :: l, t, p => if u = t then (u, p) :: l else (u, q) :: putL l t p
theorem listEnv_put : ∀ (l : List (Nat × PV)) (t : Nat) (p : PV), listEnv (putL l t p) = (listEnv l).set t p
  | [], t, p => by funext u; simp [putL, listEnv, Env.set]
  | (v, q) :: l, t, p => by
    funext u
    unfold putL
    by_cases h : v = t
    · subst h
      simp only [if_true, listEnv, Env.set]
      by_cases hu : u = v <;> simp [hu]
    · simp only [h, if_false, listEnv, Env.set, listEnv_put l t p]
      by_cases hu : u = v
      · simp [hu, h]
      · simp [hu]
inductive TE where
  | tip (l : List (Nat × PV))
  | node (v : PV) (l r : TE)
noncomputable def teEnv (T : TE) : Env := TE.rec (motive := fun _ => Nat → PV) (fun l t => listEnv l t)
  (fun v _ _ gl gr t => Bool.rec (motive := fun _ => PV) (Bool.rec (motive := fun _ => PV) (gr (Nat.div (Nat.sub t 1) 2)) (gl (Nat.div (Nat.sub t 1) 2)) (Nat.beq (Nat.mod t 2) 1)) v (Nat.beq t 0)) T
noncomputable def growT (k : Nat) : Nat → PV → TE := Nat.rec (motive := fun _ => Nat → PV → TE) (fun t p => .tip [(t, p)])
  (fun _ g t p => Bool.rec (motive := fun _ => TE) (Bool.rec (motive := fun _ => TE) (.node .undef (.tip []) (g (Nat.div (Nat.sub t 1) 2) p)) (.node .undef (g (Nat.div (Nat.sub t 1) 2) p) (.tip [])) (Nat.beq (Nat.mod t 2) 1)) (.node p (.tip []) (.tip [])) (Nat.beq t 0)) k
noncomputable def putT (T : TE) : Nat → PV → TE := TE.rec (motive := fun _ => Nat → PV → TE) (fun l t p => List.rec (motive := fun _ => TE) (growT 10 t p) (fun x l' _ => .tip (putL (x :: l') t p)) l)
  (fun v l r pl pr t p => Bool.rec (motive := fun _ => TE) (Bool.rec (motive := fun _ => TE) (.node v l (pr (Nat.div (Nat.sub t 1) 2) p)) (.node v (pl (Nat.div (Nat.sub t 1) 2) p) r) (Nat.beq (Nat.mod t 2) 1)) (.node p l r) (Nat.beq t 0)) T
theorem teEnv_tip (l : List (Nat × PV)) : teEnv (.tip l) = listEnv l := rfl
theorem teEnv_node (v : PV) (l r : TE) (t : Nat) : teEnv (.node v l r) t = if t = 0 then v else if t % 2 = 1 then teEnv l ((t - 1) / 2) else teEnv r ((t - 1) / 2) := by
  show Bool.rec (motive := fun _ => PV) (Bool.rec (motive := fun _ => PV) (teEnv r ((t - 1) / 2)) (teEnv l ((t - 1) / 2)) (Nat.beq (t % 2) 1)) v (Nat.beq t 0) = _
  by_cases h : t = 0
  · subst h; rfl
  · rw [if_neg h]
    have : Nat.beq t 0 = false := by rw [← Bool.not_eq_true, Nat.beq_eq]; exact h
    rw [this]
    simp only
    by_cases h2 : t % 2 = 1
    · rw [if_pos h2, h2]; rfl
    · rw [if_neg h2]
      have : Nat.beq (t % 2) 1 = false := by rw [← Bool.not_eq_true, Nat.beq_eq]; exact h2
      rw [this]
theorem growT_env : ∀ (k t : Nat) (p : PV) (u : Nat), teEnv (growT k t p) u = if u = t then p else .undef
  | 0, t, p, u => by show listEnv [(t, p)] u = _; simp [listEnv]
  | k + 1, t, p, u => by
    have e : growT (k + 1) t p = Bool.rec (motive := fun _ => TE) (Bool.rec (motive := fun _ => TE) (.node .undef (.tip []) (growT k ((t - 1) / 2) p)) (.node .undef (growT k ((t - 1) / 2) p) (.tip [])) (Nat.beq (t % 2) 1)) (.node p (.tip []) (.tip [])) (Nat.beq t 0) := rfl
    rw [e]
    have ih := growT_env k ((t - 1) / 2) p
    by_cases h : t = 0
    · subst h
      show teEnv (.node p (.tip []) (.tip [])) u = _
      rw [teEnv_node]; simp [teEnv_tip, listEnv]
    · have h1 : Nat.beq t 0 = false := by rw [← Bool.not_eq_true, Nat.beq_eq]; exact h
      rw [h1]
      simp only
      by_cases h2 : t % 2 = 1
      · rw [h2]
        show teEnv (.node .undef (growT k ((t - 1) / 2) p) (.tip [])) u = _
        rw [teEnv_node]
        simp only [ih, teEnv_tip, listEnv]
        by_cases h3 : u = t
        · subst h3; simp [h, h2]
        · rw [if_neg h3]
          by_cases h4 : u = 0
          · simp [h4]
          · rw [if_neg h4]
            by_cases h5 : u % 2 = 1
            · rw [if_pos h5, if_neg (by omega)]
            · rw [if_neg h5]
      · have h1 : Nat.beq (t % 2) 1 = false := by rw [← Bool.not_eq_true, Nat.beq_eq]; exact h2
        rw [h1]
        simp only
        rw [teEnv_node]
        simp only [ih, teEnv_tip, listEnv]
        by_cases h3 : u = t
        · subst h3; simp [h, h2]
        · rw [if_neg h3]
          by_cases h4 : u = 0
          · simp [h4]
          · rw [if_neg h4]
            by_cases h5 : u % 2 = 1
            · rw [if_pos h5]
            · rw [if_neg h5, if_neg (by omega)]
theorem putT_env : ∀ (T : TE) (t : Nat) (p : PV), teEnv (putT T t p) = (teEnv T).set t p
  | .tip [], t, p => by
    funext u
    show teEnv (growT 10 t p) u = _
    rw [growT_env]; rfl
  | .tip (x :: l), t, p => by
    show teEnv (.tip (putL (x :: l) t p)) = _
    rw [teEnv_tip, listEnv_put]; rfl
  | .node v l r, t, p => by
    have e : putT (.node v l r) t p = Bool.rec (motive := fun _ => TE) (Bool.rec (motive := fun _ => TE) (.node v l (putT r ((t - 1) / 2) p)) (.node v (putT l ((t - 1) / 2) p) r) (Nat.beq (t % 2) 1)) (.node p l r) (Nat.beq t 0) := rfl
    rw [e]
    have il := putT_env l ((t - 1) / 2) p
    have ir := putT_env r ((t - 1) / 2) p
    funext u
    unfold Env.set
    by_cases h : t = 0
    · subst h
      show teEnv (.node p l r) u = _
      rw [teEnv_node, teEnv_node]
      by_cases hu : u = 0 <;> simp [hu]
    · have h1 : Nat.beq t 0 = false := by rw [← Bool.not_eq_true, Nat.beq_eq]; exact h
      rw [h1]
      simp only
      by_cases h2 : t % 2 = 1
      · rw [h2]
        show teEnv (.node v (putT l ((t - 1) / 2) p) r) u = _
        rw [teEnv_node, teEnv_node, il]
        unfold Env.set
        by_cases h3 : u = t
        · subst h3; simp [h, h2]
        · rw [if_neg h3]
          by_cases h4 : u = 0
          · simp [h4]
          · rw [if_neg h4, if_neg h4]
            by_cases h5 : u % 2 = 1
            · rw [if_pos h5, if_pos h5, if_neg (by omega)]
            · rw [if_neg h5, if_neg h5]
      · have h1 : Nat.beq (t % 2) 1 = false := by rw [← Bool.not_eq_true, Nat.beq_eq]; exact h2
        rw [h1]
        simp only
        rw [teEnv_node, teEnv_node, ir]
        unfold Env.set
        by_cases h3 : u = t
        · subst h3; simp [h, h2]
        · rw [if_neg h3]
          by_cases h4 : u = 0
          · simp [h4]
          · rw [if_neg h4, if_neg h4]
            by_cases h5 : u % 2 = 1
            · rw [if_pos h5, if_pos h5]
            · rw [if_neg h5, if_neg h5, if_neg (by omega)]
end Go.RM
namespace Go.RM
set_option linter.unusedVariables false
set_option linter.unusedSimpArgs false
section
variable {P : Program} {X : FuncId → List PV → Heap → PV → Heap → Prop}
abbrev LE := TE
noncomputable def putO (l : LE) (d : Option Tmp) (p : PV) : LE := match d with
  | some t => putT l t p
  | none => l
theorem listEnv_putO (l : LE) (d : Option Tmp) (p : PV) : teEnv (putO l d p) = (teEnv l).put d p := by
  cases d with
  | none => rfl
  | some t => exact putT_env l t p
def isAlloc (o : Oper) : Bool := match o.op with
  | .alloc _ | .box _ _ | .buildSlice _ _ _ | .makeSlice _ _ _ => true
  | .call { callee := .builtin .append, .. } => true
  | _ => false
abbrev CF := FuncId → List PV → Heap → Option (PV × Heap)
abbrev CP := FuncId → List PV → Option PV
noncomputable def evOp (P : Program) (cf : CF) (all : Array Oper) (o : Oper) (l : LE) (H : Heap) (tgt : Nat) : Option (PV × Heap) :=
  match wants all (teEnv l) o with
  | none => none
  | some false => some (.val undef, H)
  | some true => match callee P (teEnv l) o with
    | some fa => cf fa.1 fa.2 H
    | none => aop P (teEnv l) o H tgt
def CFok (P : Program) (X : FuncId → List PV → Heap → PV → Heap → Prop) (cf : CF) : Prop := ∀ f args H r H1, cf f args H = some (r, H1) → D P X (.callH f args H r H1)
def CPok (P : Program) (X : FuncId → List PV → Heap → PV → Heap → Prop) (cp : CP) : Prop := ∀ f args r, cp f args = some r → args.all (PV.free deep) = true ∧ PV.free deep r = true ∧ D P X (.callH f args [] r [])
theorem evOp_step {cf : CF} (hcf : CFok P X cf) {N all o l H tgt p H1 k e' H'} (h : evOp P cf all o l H tgt = some (p, H1)) (hk : D P X (.ops N all k (teEnv (putO l o.dst p)) H1 e' H')) : D P X (.ops N all (o :: k) (teEnv l) H e' H') := by
  rw [listEnv_putO] at hk
  unfold evOp at h
  split at h
  · cases h
  · rename_i hw
    injection h with h; injection h with h1 h2
    subst h1 h2
    exact .no hw hk
  · rename_i hw
    split at h
    · rename_i fa hf
      exact .callI hw hf (hcf _ _ _ _ _ h) hk
    · exact .op tgt hw h hk
noncomputable def evOps (P : Program) (cf : CF) (all : Array Oper) : List Oper → LE → Heap → Nat → Option (LE × Heap)
  | [], l, H, _ => some (l, H)
  | o :: os, l, H, tgt => match evOp P cf all o l H tgt with
    | none => none
    | some ph => evOps P cf all os (putO l o.dst ph.1) ph.2 (if isAlloc o then tgt + 1 else tgt)
theorem evOps_sound {cf : CF} (hcf : CFok P X cf) {N all} : ∀ {ops : List Oper} {l : LE} {H : Heap} {tgt : Nat} {l' : LE} {H' : Heap}, evOps P cf all ops l H tgt = some (l', H') → D P X (.ops N all ops (teEnv l) H (teEnv l') H')
  | [], l, H, tgt, l', H', h => by
    injection h with h; injection h with h1 h2
    subst h1 h2
    exact .nil0
  | o :: os, l, H, tgt, l', H', h => by
    unfold evOps at h
    split at h
    · cases h
    · rename_i ph hp
      exact evOp_step hcf (p := ph.1) (H1 := ph.2) hp (evOps_sound hcf h)

theorem arr_all_congr {α : Type} {f g : α → Bool} {a : Array α} (h : ∀ x ∈ a, f x = g x) : a.all f = a.all g := by
  rw [Bool.eq_iff_iff, Array.all_eq_true_iff_forall_mem, Array.all_eq_true_iff_forall_mem]
  exact ⟨fun k x hx => by rw [← h x hx]; exact k x hx, fun k x hx => by rw [h x hx]; exact k x hx⟩
theorem generic_congr {e e' : Env} {o : Oper} {H : Heap} (hs : ∀ cs b, o.op ≠ .select cs b) (h : ∀ x ∈ o.op.operands, ev e x = ev e' x) : generic P e o H = generic P e' o H := by
  unfold generic
  rw [arr_all_congr (g := fun x => (toV? (ev e' x)).isSome) (fun x hx => by rw [h x hx])]
  rw [execOp_congr (ρ := fun x => (toV? (ev e x)).getD undef) (ρ' := fun x => (toV? (ev e' x)).getD undef) o hs (fun x hx => by simp only [h x hx])]
theorem aop_congr {e e' : Env} {o : Oper} {H : Heap} {tgt : Nat} (h : ∀ x ∈ o.op.operands, ev e x = ev e' x) : aop P e o H tgt = aop P e' o H tgt := by
  have hg : (∀ cs b, o.op ≠ .select cs b) → generic P e o H = generic P e' o H := fun hs => generic_congr hs h
  obtain ⟨d, op, ty, pos, af, g⟩ := o
  simp only at h hg
  unfold aop
  have no : ∀ {q : Op}, op = q → (∀ cs b, q ≠ .select cs b) → ∀ cs b, op ≠ .select cs b := fun hq hn => hq ▸ hn
  cases op with
  | move x => simp only [h x (by simp [Op.operands])]
  | assign x => simp only [h x (by simp [Op.operands])]
  | pick c a b => simp only [h c (by simp [Op.operands]), h a (by simp [Op.operands]), h b (by simp [Op.operands])]
  | alloc t => rfl
  | box t x => simp only [h x (by simp [Op.operands])]
  | build t ps =>
    have : (ps.toList.map fun x => (x.1, ev e x.2)) = (ps.toList.map fun x => (x.1, ev e' x.2)) := List.map_congr_left fun x hx => by rw [h x.2 (by simp [Op.operands]; exact ⟨x.1, by simpa using hx⟩)]
    simp only [this]
  | buildSlice t n ps =>
    have : (ps.toList.map fun x => (x.1, ev e x.2)) = (ps.toList.map fun x => (x.1, ev e' x.2)) := List.map_congr_left fun x hx => by rw [h x.2 (by simp [Op.operands]; exact ⟨x.1, by simpa using hx⟩)]
    simp only [this]
  | load t a => simp only [h a (by simp [Op.operands])]
  | store t a x => simp only [h a (by simp [Op.operands]), h x (by simp [Op.operands])]
  | nilCheck x =>
    simp only [h x (by simp [Op.operands])]
    split <;> first | rfl | exact hg (fun _ _ h => by cases h)
  | makeFunc fn first cs =>
    cases fn with
    | func f =>
      have : cs.toList.map (ev e) = cs.toList.map (ev e') := List.map_congr_left fun x hx => h x (by simp [Op.operands]; exact .inr (by simpa using hx))
      simp only [this]
    | _ => exact hg (fun _ _ h => by cases h)
  | makeSlice t l c => simp only [h l (by simp [Op.operands]), h c (by simp [Op.operands])]
  | slice t x lo hi mx =>
    have h1 : lo.map (ev e) = lo.map (ev e') := by cases lo with | none => rfl | some y => simp [h y (by simp [Op.operands])]
    have h2 : hi.map (ev e) = hi.map (ev e') := by cases hi with | none => rfl | some y => simp [h y (by simp [Op.operands])]
    have h3 : mx.map (ev e) = mx.map (ev e') := by cases mx with | none => rfl | some y => simp [h y (by simp [Op.operands])]
    simp only [h1, h2, h3, h x (by simp [Op.operands])]
    unfold doSlice
    rw [hg (fun _ _ h => by cases h)]
  | fieldAddr t x f => simp only [h x (by simp [Op.operands])]
  | field t x f => simp only [h x (by simp [Op.operands])]
  | indexAddr t x ix => simp only [h x (by simp [Op.operands]), h ix (by simp [Op.operands])]
  | index t x ix =>
    simp only [h x (by simp [Op.operands]), h ix (by simp [Op.operands])]
    split <;> first | rfl | exact hg (fun _ _ h => by cases h)
  | extract t i => simp only [h t (by simp [Op.operands])]
  | makeMap t r =>
    cases r with
    | none => rfl
    | some x => exact hg (fun _ _ h => by cases h)
  | lookup t m k ok => simp only [h m (by simp [Op.operands]), h k (by simp [Op.operands])]
  | mapUpdate t m k x => simp only [h m (by simp [Op.operands]), h k (by simp [Op.operands]), h x (by simp [Op.operands])]
  | insert t m k x => simp only [h m (by simp [Op.operands]), h k (by simp [Op.operands]), h x (by simp [Op.operands])]
  | binOp b t x y u =>
    have hx := h x (by simp [Op.operands])
    have hy := h y (by simp [Op.operands])
    have hgg := hg (fun _ _ h => by cases h)
    cases b <;> simp only [hx, hy, hgg]
  | call c =>
    obtain ⟨cal, args, tys⟩ := c
    have hgg := hg (fun _ _ h => by cases h)
    have ha : ∀ x ∈ args.toList, ev e x = ev e' x := fun x hx => h x (by simp [Op.operands, Call.operands]; exact .inr (by simpa using hx))
    cases cal with
    | builtin b =>
      cases b with
      | len =>
        simp only []
        split
        · rename_i x t hxx htt
          rw [hxx] at ha
          simp only [ha x (.head _), hgg]
        · rfl
      | append =>
        simp only []
        split
        · rename_i s x t u hxx htt
          rw [hxx] at ha
          simp only [ha x (.tail _ (.head _)), ha s (.head _)]
        · rfl
      | _ => exact hgg
    | _ => exact hgg
  | select cs b => rfl
  | _ => exact hg (fun _ _ h => by cases h)
theorem callee_congr {e e' : Env} {o : Oper} (h : ∀ x ∈ o.op.operands, ev e x = ev e' x) : callee P e o = callee P e' o := by
  obtain ⟨d, op, ty, pos, af, g⟩ := o
  simp only at h
  unfold callee
  cases op with
  | call c =>
    obtain ⟨cal, args, tys⟩ := c
    have ha : args.toList.map (ev e) = args.toList.map (ev e') := List.map_congr_left fun x hx => h x (by simp [Op.operands, Call.operands]; exact .inr (by simpa using hx))
    cases cal with
    | value f => simp only [h f (by simp [Op.operands, Call.operands]), ha]
    | _ => rfl
  | _ => rfl
theorem wants_congr {e e' : Env} {all : Array Oper} {o : Oper} (h : ∀ j w t, o.guard = some (j, w) → (all[j]?).bind (·.dst) = some t → e t = e' t) : wants all e o = wants all e' o := by
  unfold wants
  cases hg : o.guard with
  | none => rfl
  | some jw =>
    obtain ⟨j, w⟩ := jw
    simp only
    cases hd : (all[j]?).bind (·.dst) with
    | none => rfl
    | some t => simp only [h j w t hg hd]
def kindOp (op : Op) : Nat := match op with
  | .move _ | .assign _ | .pick _ _ _ | .build _ _ | .nilCheck _ | .fieldAddr _ _ _ | .field _ _ _ | .index _ _ _ | .extract _ _ | .binOp _ _ _ _ _ | .unOp _ _ _ | .convert _ _ _ => 0
  | .makeFunc (.func _) _ _ => 0
  | .load _ _ | .indexAddr _ _ _ => 1
  | .call { callee := .builtin .len, .. } => 1
  | _ => 2
theorem generic_pure {e : Env} {o : Oper} {H H1 : Heap} {p : PV} (h : generic P e o H = some (p, H1)) : H1 = H ∧ ∀ H2, generic P e o H2 = some (p, H2) := by
  unfold generic at h ⊢
  split at h
  · rename_i hc
    simp only [hc, if_true]
    split at h
    · rename_i v hv
      injection h with h; injection h with h1 h2
      subst h1
      exact ⟨h2.symm, fun H2 => by first | rfl | rw [hv]⟩
    · cases h
  · cases h
theorem build_pure {t : TypeId} {ps : List (Nat × PV)} {H H1 : Heap} {p : PV} (h : doBuild P t ps H = some (p, H1)) : H1 = H ∧ ∀ H2, doBuild P t ps H2 = some (p, H2) := by
  unfold doBuild at h ⊢
  cases hz : zero? P t with
  | none => rw [hz] at h; cases h
  | some z =>
    rw [hz] at h
    simp only [Option.bind_some] at h ⊢
    split at h
    · rename_i fs hu
      try rw [hu]
      try simp only
      cases hp : omap (fun (f : Field) => (sizeOf? P f.type).map fun s => (f.offset, s)) fs.toList with
      | none => rw [hp] at h; cases h
      | some pl =>
        rw [hp] at h
        simp only [Option.bind_some] at h ⊢
        cases hf : fillP (fun i => pl[i]?) z ps with
        | none => rw [hf] at h; cases h
        | some cs => rw [hf] at h; injection h with h; injection h with h1 h2; subst h1; exact ⟨h2.symm, fun H2 => rfl⟩
    · rename_i q el hu
      try rw [hu]
      try simp only
      cases hs : sizeOf? P el with
      | none => rw [hs] at h; cases h
      | some s =>
        rw [hs] at h
        simp only [Option.bind_some] at h ⊢
        cases hf : fillP (fun i => some (i * s, s)) z ps with
        | none => rw [hf] at h; cases h
        | some cs => rw [hf] at h; injection h with h; injection h with h1 h2; subst h1; exact ⟨h2.symm, fun H2 => rfl⟩
    · cases h
theorem some_pure {x p : PV} {H H1 : Heap} (h : some (x, H) = some (p, H1)) : H1 = H ∧ ∀ H2 : Heap, some (x, H2) = some (p, H2) := by
  injection h with h; injection h with h1 h2
  subst h1
  exact ⟨h2.symm, fun _ => rfl⟩
theorem map_pure {x : Option PV} {p : PV} {H H1 : Heap} (h : x.map (·, H) = some (p, H1)) : H1 = H ∧ ∀ H2 : Heap, x.map (·, H2) = some (p, H2) := by
  cases x with
  | none => cases h
  | some y => exact some_pure h
theorem omap1_pure {α : Type} {x : Option α} {f : α → PV} {p : PV} {H H1 : Heap} (h : (x.map fun y => (f y, H)) = some (p, H1)) : H1 = H ∧ True := by
  cases x with
  | none => cases h
  | some y => injection h with h; injection h with h1 h2; exact ⟨h2.symm, trivial⟩
theorem aop_pure {e : Env} {o : Oper} {H H1 : Heap} {tgt : Nat} {p : PV} (hk : kindOp o.op = 0) (h : aop P e o H tgt = some (p, H1)) : H1 = H ∧ ∀ H2 t2, aop P e o H2 t2 = some (p, H2) := by
  have hg : ∀ {H1 : Heap} {p : PV}, generic P e o H = some (p, H1) → H1 = H ∧ ∀ H2, generic P e o H2 = some (p, H2) := generic_pure
  obtain ⟨d, op, ty, pos, af, g⟩ := o
  simp only at hk
  unfold aop at h ⊢
  cases op with
  | move x => have := some_pure h; exact ⟨this.1, fun H2 _ => this.2 H2⟩
  | assign x => have := some_pure h; exact ⟨this.1, fun H2 _ => this.2 H2⟩
  | pick c a b =>
    simp only at h ⊢
    split at h
    · rename_i t hc
      try rw [hc]
      have := some_pure h; exact ⟨this.1, fun H2 _ => this.2 H2⟩
    · cases h
  | build t ps => have := build_pure h; exact ⟨this.1, fun H2 _ => this.2 H2⟩
  | nilCheck x =>
    simp only at h ⊢
    split at h
    · rename_i hc; (try rw [hc]); have := some_pure h; exact ⟨this.1, fun H2 _ => this.2 H2⟩
    · rename_i hc; (try rw [hc]); have := some_pure h; exact ⟨this.1, fun H2 _ => this.2 H2⟩
    · rename_i hc; (try rw [hc]); have := some_pure h; exact ⟨this.1, fun H2 _ => this.2 H2⟩
    · rename_i h1 h2 h3
      have := hg h
      exact ⟨this.1, fun H2 _ => this.2 H2⟩
  | fieldAddr t x f =>
    simp only at h ⊢
    cases hf : fieldOf P t f with
    | none => rw [hf] at h; cases h
    | some d2 =>
      rw [hf] at h
      simp only [Option.bind_some] at h ⊢
      split at h
      · cases h
      · rename_i hz
        split at h
        · have := some_pure h; exact ⟨this.1, fun H2 _ => by rw [if_neg hz]; exact this.2 H2⟩
        · have := some_pure h; exact ⟨this.1, fun H2 _ => by rw [if_neg hz]; exact this.2 H2⟩
        · cases h
  | field t x f =>
    simp only at h ⊢
    cases hf : fieldOf P t f with
    | none => rw [hf] at h; cases h
    | some d2 =>
      rw [hf] at h
      simp only [Option.bind_some] at h ⊢
      split at h
      · rename_i cs hc; (try rw [hc]); have := map_pure h; exact ⟨this.1, fun H2 _ => this.2 H2⟩
      · cases h
  | index t x ix =>
    simp only at h ⊢
    split at h
    · rename_i cs hc; (try rw [hc]); have := map_pure h; exact ⟨this.1, fun H2 _ => this.2 H2⟩
    · rename_i h1
      have := hg h
      exact ⟨this.1, fun H2 _ => this.2 H2⟩
  | extract t i =>
    simp only at h ⊢
    split at h
    · rename_i vs hc; (try rw [hc]); have := map_pure h; exact ⟨this.1, fun H2 _ => this.2 H2⟩
    · cases h
  | binOp b t x y u =>
    cases b <;> first
      | (have := hg h; exact ⟨this.1, fun H2 _ => this.2 H2⟩)
      | (simp only at h ⊢
         split at h
         · rename_i a c ha hc
           try simp only [ha, hc]
           split at h
           · rename_i hac; have := some_pure h; exact ⟨this.1, fun H2 _ => by rw [if_pos hac]; exact this.2 H2⟩
           · cases h
         · rename_i hn
           have := hg h
           exact ⟨this.1, fun H2 _ => this.2 H2⟩)
  | makeFunc fn first cs =>
    cases fn with
    | func f =>
      simp only at h ⊢
      split at h
      · rename_i hc; have := some_pure h; exact ⟨this.1, fun H2 _ => by rw [if_pos hc]; exact this.2 H2⟩
      · cases h
    | _ => cases hk
  | unOp a b c => have := hg h; exact ⟨this.1, fun H2 _ => this.2 H2⟩
  | convert a b c => have := hg h; exact ⟨this.1, fun H2 _ => this.2 H2⟩
  | call c =>
    obtain ⟨cal, args, tys⟩ := c
    cases cal with
    | builtin b => cases b <;> cases hk
    | _ => cases hk
  | _ => cases hk
theorem aop_read {e : Env} {o : Oper} {H H1 : Heap} {tgt : Nat} {p : PV} (hk : kindOp o.op = 1) (h : aop P e o H tgt = some (p, H1)) : H1 = H := by
  obtain ⟨d, op, ty, pos, af, g⟩ := o
  simp only at hk
  unfold aop at h
  cases op with
  | load t a =>
    simp only at h
    cases hs : sizeOf? P t with
    | none => rw [hs] at h; cases h
    | some s =>
      rw [hs] at h
      simp only [Option.bind_some] at h
      cases ha : isAgg? P t with
      | none => rw [ha] at h; cases h
      | some q =>
        rw [ha] at h
        simp only [Option.bind_some] at h
        split at h
        · cases hr : rd H (ev e a) s with
          | none => rw [hr] at h; cases h
          | some cs => rw [hr] at h; exact (map_pure h).1
        · cases h
  | indexAddr t x ix => exact (map_pure h).1
  | call c =>
    obtain ⟨cal, args, tys⟩ := c
    cases cal with
    | builtin b =>
      cases b with
      | len =>
        simp only at h
        split at h
        · split at h
          · exact (omap1_pure h).1
          · exact (generic_pure h).1
        · cases h
      | _ => cases hk
    | _ => cases hk
  | makeFunc fn first cs => cases fn <;> cases hk
  | _ => cases hk
end
end Go.RM
namespace Go.RM
set_option linter.unusedVariables false
set_option linter.unusedSimpArgs false
section
variable {P : Program} {X : FuncId → List PV → Heap → PV → Heap → Prop}
def lastH : List (Nat × Heap) → Heap → (Nat → Bool) → Heap
  | [], H, _ => H
  | (j, K) :: w, H, S => if S j = true then K else lastH w H S
theorem lastH_agree {S S' : Nat → Bool} : ∀ (w : List (Nat × Heap)) (H : Heap), (∀ x ∈ w, S x.1 = S' x.1) → lastH w H S = lastH w H S'
  | [], H, _ => rfl
  | (j, K) :: w, H, h => by simp only [lastH, h (j, K) (.head _), lastH_agree w H (fun x hx => h x (.tail _ hx))]
theorem drawE_agree {e : Env} {S S' : Nat → Bool} {t : Nat} : ∀ (L : List (Nat × Nat × PV)), (∀ x ∈ L, x.2.1 = t → S x.1 = S' x.1) → drawE e L S t = drawE e L S' t
  | [], _ => rfl
  | (j, u, p) :: L, h => by
    have ih := drawE_agree (e := e) L (fun x hx => h x (.tail _ hx))
    simp only [drawE]
    by_cases hu : t = u
    · rw [h (j, u, p) (.head _) hu.symm, ih]
    · simp only [hu, if_false, ih]
abbrev Res := PV × Heap × Nat
abbrev CR := FuncId → List PV → Heap → Option PV
noncomputable def evSeq (P : Program) (cf : CF) (cp : CP) (cr : CR) (all : Array Oper) : List Oper → LE → Heap → Nat → Option (List Res × LE × Heap)
  | [], l, H, _ => some ([], l, H)
  | o :: os, l, H, tgt =>
    let go := fun (r : Res) => (evSeq P cf cp cr all os (putO l o.dst r.1) r.2.1 (if isAlloc o then tgt + 1 else tgt)).map fun x => (r :: x.1, x.2)
    match wants all (teEnv l) o with
    | none => none
    | some false => go (.val undef, H, 0)
    | some true => match callee P (teEnv l) o with
      | some fa => match cp fa.1 fa.2 with
        | some r => go (r, H, 0)
        | none => match cr fa.1 fa.2 H with
          | some r => go (r, H, 1)
          | none => match cf fa.1 fa.2 H with
            | some x => go (x.1, x.2, 2)
            | none => none
      | none => match aop P (teEnv l) o H tgt with
        | some x => go (x.1, x.2, kindOp o.op)
        | none => none
def mkL : Nat → List Oper → List Res → List (Nat × Nat × PV) → List (Nat × Nat × PV)
  | i, o :: os, r :: rs, acc => mkL (i + 1) os rs (match o.dst with
    | some t => (i, t, r.1) :: acc
    | none => acc)
  | _, _, _, acc => acc
def mkW : Nat → List Oper → List Res → List (Nat × Heap) → List (Nat × Heap)
  | i, o :: os, r :: rs, acc => mkW (i + 1) os rs (if r.2.2 = 2 then (i, r.2.1) :: acc else acc)
  | _, _, _, acc => acc
def below (i : Nat) : Nat → Bool := fun j => decide (j < i)
theorem mkL_low {e : Env} {S : Nat → Bool} : ∀ (os : List Oper) (i : Nat) (rs : List Res) (acc : List (Nat × Nat × PV)), (∀ j, i ≤ j → S j = false) → drawE e (mkL i os rs acc) S = drawE e acc S
  | [], i, rs, acc, h => by simp [mkL]
  | o :: os, i, [], acc, h => by simp [mkL]
  | o :: os, i, r :: rs, acc, h => by
    unfold mkL
    rw [mkL_low os (i + 1) rs _ (fun j hj => h j (by omega))]
    split
    · funext u
      simp [drawE, h i (Nat.le_refl _)]
    · rfl
theorem mkW_low {H : Heap} {S : Nat → Bool} : ∀ (os : List Oper) (i : Nat) (rs : List Res) (acc : List (Nat × Heap)), (∀ j, i ≤ j → S j = false) → lastH (mkW i os rs acc) H S = lastH acc H S
  | [], i, rs, acc, h => by simp [mkW]
  | o :: os, i, [], acc, h => by simp [mkW]
  | o :: os, i, r :: rs, acc, h => by
    unfold mkW
    rw [mkW_low os (i + 1) rs _ (fun j hj => h j (by omega))]
    split
    · simp [lastH, h i (Nat.le_refl _)]
    · rfl
theorem mkL_entry : ∀ (os : List Oper) (i : Nat) (rs : List Res) (acc : List (Nat × Nat × PV)) (j : Nat), j < i → entry j (mkL i os rs acc) = entry j acc
  | [], i, rs, acc, j, h => by simp [mkL]
  | o :: os, i, [], acc, j, h => by simp [mkL]
  | o :: os, i, r :: rs, acc, j, h => by
    unfold mkL
    rw [mkL_entry os (i + 1) rs _ j (by omega)]
    split
    · simp only [entry]; rw [if_neg (by omega)]
    · rfl
theorem mkW_no : ∀ (os : List Oper) (i : Nat) (rs : List Res) (acc : List (Nat × Heap)) (j : Nat), j < i → (∀ x ∈ acc, x.1 ≠ j) → ∀ x ∈ mkW i os rs acc, x.1 ≠ j
  | [], i, rs, acc, j, h, ha => by simpa [mkW] using ha
  | o :: os, i, [], acc, j, h, ha => by simpa [mkW] using ha
  | o :: os, i, r :: rs, acc, j, h, ha => by
    unfold mkW
    refine mkW_no os (i + 1) rs _ j (by omega) ?_
    split
    · intro x hx
      rcases List.mem_cons.mp hx with rfl | hx
      · simp; omega
      · exact ha x hx
    · exact ha
def Fact (P : Program) (cf : CF) (cp : CP) (cr : CR) (all : Array Oper) (E : Env) (G : Heap) (o : Oper) (r : Res) : Prop :=
  (wants all E o = some false ∧ r.1 = .val undef ∧ r.2.2 = 0) ∨
  (wants all E o = some true ∧ ∃ f a, callee P E o = some (f, a) ∧ ((cp f a = some r.1 ∧ r.2.2 = 0) ∨ (cr f a G = some r.1 ∧ r.2.2 = 1) ∨ (cf f a G = some (r.1, r.2.1) ∧ r.2.2 = 2))) ∨
  (wants all E o = some true ∧ callee P E o = none ∧ ∃ tgt, aop P E o G tgt = some (r.1, r.2.1) ∧ r.2.2 = kindOp o.op)
theorem evSeq_cons {cf : CF} {cp : CP} {cr : CR} {all : Array Oper} {o : Oper} {os : List Oper} {l : LE} {H : Heap} {tgt : Nat} {rs : List Res} {l' : LE} {H' : Heap} (h : evSeq P cf cp cr all (o :: os) l H tgt = some (rs, l', H')) :
    ∃ r rs', rs = r :: rs' ∧ Fact P cf cp cr all (teEnv l) H o r ∧ (r.2.2 ≠ 2 → r.2.1 = H) ∧ evSeq P cf cp cr all os (putO l o.dst r.1) r.2.1 (if isAlloc o then tgt + 1 else tgt) = some (rs', l', H') := by
  have fin : ∀ r : Res, Fact P cf cp cr all (teEnv l) H o r → (r.2.2 ≠ 2 → r.2.1 = H) → (evSeq P cf cp cr all os (putO l o.dst r.1) r.2.1 (if isAlloc o then tgt + 1 else tgt)).map (fun x => (r :: x.1, x.2)) = some (rs, l', H') →
      ∃ r rs', rs = r :: rs' ∧ Fact P cf cp cr all (teEnv l) H o r ∧ (r.2.2 ≠ 2 → r.2.1 = H) ∧ evSeq P cf cp cr all os (putO l o.dst r.1) r.2.1 (if isAlloc o then tgt + 1 else tgt) = some (rs', l', H') := by
    intro r hF hk hm
    cases hx : evSeq P cf cp cr all os (putO l o.dst r.1) r.2.1 (if isAlloc o then tgt + 1 else tgt) with
    | none => rw [hx] at hm; cases hm
    | some x =>
      rw [hx] at hm
      injection hm with hm; injection hm with h1 h2
      exact ⟨r, x.1, h1.symm, hF, hk, by rw [hx, ← h2]⟩
  unfold evSeq at h
  simp only at h
  split at h
  · cases h
  · rename_i hw; exact fin _ (.inl ⟨hw, rfl, rfl⟩) (fun _ => rfl) h
  · rename_i hw
    split at h
    · rename_i fa hf
      split at h
      · rename_i r hc; exact fin _ (.inr (.inl ⟨hw, _, _, hf, .inl ⟨hc, rfl⟩⟩)) (fun _ => rfl) h
      · split at h
        · rename_i r hc; exact fin _ (.inr (.inl ⟨hw, _, _, hf, .inr (.inl ⟨hc, rfl⟩)⟩)) (fun _ => rfl) h
        · split at h
          · rename_i x hc; exact fin _ (.inr (.inl ⟨hw, _, _, hf, .inr (.inr ⟨hc, rfl⟩)⟩)) (fun h => (h rfl).elim) h
          · cases h
    · rename_i hf
      split at h
      · rename_i x hc
        refine fin _ (.inr (.inr ⟨hw, hf, tgt, hc, rfl⟩)) (fun hk => ?_) h
        have hlt : kindOp o.op = 0 ∨ kindOp o.op = 1 ∨ kindOp o.op = 2 := by
          unfold kindOp; split <;> simp
        rcases hlt with h0 | h1 | h2
        · exact (aop_pure h0 hc).1
        · exact aop_read h1 hc
        · exact (hk h2).elim
      · cases h
theorem evSeq_get {cf : CF} {cp : CP} {cr : CR} {all : Array Oper} {e0 : Env} {H0 : Heap} : ∀ (os : List Oper) (i : Nat) (l : LE) (H : Heap) (tgt : Nat) (rs : List Res) (l' : LE) (H' : Heap) (La : List (Nat × Nat × PV)) (Wa : List (Nat × Heap)),
    evSeq P cf cp cr all os l H tgt = some (rs, l', H') → teEnv l = drawE e0 La (below i) → H = lastH Wa H0 (below i) → (∀ x ∈ La, x.1 < i) → (∀ x ∈ Wa, x.1 < i) →
    (teEnv l' = drawE e0 (mkL i os rs La) (below (i + os.length)) ∧ H' = lastH (mkW i os rs Wa) H0 (below (i + os.length))) ∧
    ∀ k o, os[k]? = some o → ∃ r, rs[k]? = some r ∧ Fact P cf cp cr all (drawE e0 (mkL i os rs La) (below (i + k))) (lastH (mkW i os rs Wa) H0 (below (i + k))) o r ∧
      (r.2.2 = 2 → r.2.1 = lastH (mkW i os rs Wa) H0 (below (i + k + 1))) ∧ (r.2.2 ≠ 2 → r.2.1 = lastH (mkW i os rs Wa) H0 (below (i + k)) ∧ ∀ x ∈ mkW i os rs Wa, x.1 ≠ i + k) ∧ entry (i + k) (mkL i os rs La) = o.dst.map fun _ => r.1
  | [], i, l, H, tgt, rs, l', H', La, Wa, h, hl, hH, hLa, hWa => by
    injection h with h; injection h with h1 h2; injection h2 with h2 h3
    subst h1 h2 h3
    exact ⟨⟨by simpa [mkL] using hl, by simpa [mkW] using hH⟩, fun k o hk => by simp at hk⟩
  | o :: os, i, l, H, tgt, rs, l', H', La, Wa, h, hl, hH, hLa, hWa => by
    obtain ⟨r, rs', rfl, hF, hk2, hrest⟩ := evSeq_cons h
    have lowS : ∀ j, i ≤ j → below i j = false := fun j hj => by unfold below; exact decide_eq_false (by omega)
    have hl1 : teEnv (putO l o.dst r.1) = drawE e0 (match o.dst with | some t => (i, t, r.1) :: La | none => La) (below (i + 1)) := by
      rw [listEnv_putO]
      have hag : ∀ u, drawE e0 La (below (i + 1)) u = drawE e0 La (below i) u := fun u => drawE_agree La fun x hx _ => by
        have := hLa x hx
        unfold below; rw [decide_eq_true (by omega), decide_eq_true this]
      cases hd : o.dst with
      | none => funext u; simp only [Env.put]; rw [hag u, hl]
      | some t =>
        funext u
        simp only [Env.put, Env.set, drawE]
        rw [hag u, hl]
        have : below (i + 1) i = true := by unfold below; exact decide_eq_true (by omega)
        simp [this]
    have hW1 : r.2.1 = lastH (if r.2.2 = 2 then (i, r.2.1) :: Wa else Wa) H0 (below (i + 1)) := by
      have hag : lastH Wa H0 (below (i + 1)) = lastH Wa H0 (below i) := lastH_agree Wa H0 fun x hx => by
        have := hWa x hx
        unfold below; rw [decide_eq_true (by omega), decide_eq_true this]
      by_cases h2 : r.2.2 = 2
      · rw [if_pos h2]
        simp only [lastH]
        rw [if_pos (by unfold below; exact decide_eq_true (by omega))]
      · rw [if_neg h2, hag, ← hH]; exact hk2 h2
    have hLa1 : ∀ x ∈ (match o.dst with | some t => (i, t, r.1) :: La | none => La), x.1 < i + 1 := by
      intro x hx
      split at hx
      · rcases List.mem_cons.mp hx with rfl | hx
        · simp
        · have := hLa x hx; omega
      · have := hLa x hx; omega
    have hWa1 : ∀ x ∈ (if r.2.2 = 2 then (i, r.2.1) :: Wa else Wa), x.1 < i + 1 := by
      intro x hx
      split at hx
      · rcases List.mem_cons.mp hx with rfl | hx
        · simp
        · have := hWa x hx; omega
      · have := hWa x hx; omega
    obtain ⟨hend, hget⟩ := evSeq_get os (i + 1) _ _ _ rs' l' H' _ _ hrest hl1 hW1 hLa1 hWa1
    have eL : mkL i (o :: os) (r :: rs') La = mkL (i + 1) os rs' (match o.dst with | some t => (i, t, r.1) :: La | none => La) := rfl
    have eW : mkW i (o :: os) (r :: rs') Wa = mkW (i + 1) os rs' (if r.2.2 = 2 then (i, r.2.1) :: Wa else Wa) := rfl
    refine ⟨?_, fun k o' hk => ?_⟩
    · rw [eL, eW, show i + (o :: os).length = i + 1 + os.length by simp; omega]
      exact hend
    · cases k with
      | succ k =>
        rw [eL, eW]
        have := hget k o' (by simpa using hk)
        rw [show i + (k + 1) = i + 1 + k by omega]
        simpa using this
      | zero =>
        simp at hk
        subst hk
        simp only [Nat.add_zero]
        refine ⟨r, rfl, ?_, ?_, ?_, ?_⟩
        · rw [mkL_low _ _ _ _ lowS, mkW_low _ _ _ _ lowS, ← hl, ← hH]; exact hF
        · intro h2
          rw [eW]
          rw [mkW_low _ _ _ _ (fun j hj => by unfold below; exact decide_eq_false (by omega))]
          exact hW1
        · intro h2
          refine ⟨by rw [mkW_low _ _ _ _ lowS, ← hH]; exact hk2 h2, ?_⟩
          rw [eW]
          refine mkW_no _ _ _ _ i (by omega) ?_
          rw [if_neg h2]
          exact fun x hx => by have := hWa x hx; omega
        · rw [eL, mkL_entry _ _ _ _ i (by omega)]
          cases hd : o.dst with
          | some t => simp [entry]
          | none =>
            simp only [Option.map_none]
            have : ∀ (L : List (Nat × Nat × PV)), (∀ x ∈ L, x.1 < i) → entry i L = none := by
              intro L
              induction L with
              | nil => intro _; rfl
              | cons x L ih =>
                intro hx
                obtain ⟨j, u, q⟩ := x
                simp only [entry]
                rw [if_neg (by have := hx _ (.head _); simp at this; omega)]
                exact ih (fun y hy => hx y (.tail _ hy))
            exact this La hLa
def tmpsOf (all : Array Oper) (o : Oper) : List Nat :=
  (o.op.operands.toList.filterMap fun | .tmp t => some t | _ => none) ++ (match o.guard with
    | some (j, _) => ((all[j]?).bind (·.dst)).toList
    | none => [])
def ancL : List Oper → List (List Nat) → List (List Nat)
  | [], acc => acc
  | o :: os, acc =>
    let d := o.after.toList.filterMap fun e => if Region.binds .any e then some e.on else none
    ancL os (acc ++ [d.foldl (fun a j => if a.contains j then a else j :: a ++ ((acc.getD j []).filter fun k => !a.contains k)) []])
def vEq : Value → Value → Bool
  | .bool a, .bool b => a == b
  | .int k n, .int k' m => decide (k = k') && decide (n = m)
  | .string a, .string b => decide (a = b)
  | .pointer none, .pointer none => true
  | .slice none a b, .slice none c d => decide (a = c) && decide (b = d)
  | .nilFunc, .nilFunc => true
  | .nilIface, .nilIface => true
  | _, _ => false
theorem vEq.eq {a b : Value} (h : vEq a b = true) : a = b := by
  unfold vEq at h
  split at h <;> simp_all
def lEq {α : Type} (f : α → α → Bool) : List α → List α → Bool
  | [], [] => true
  | a :: l, b :: m => f a b && lEq f l m
  | _, _ => false
theorem lEq.eq {α : Type} {f : α → α → Bool} : ∀ {l m : List α}, (∀ a ∈ l, ∀ b, f a b = true → a = b) → lEq f l m = true → l = m
  | [], [], _, _ => rfl
  | a :: l, b :: m, hf, h => by
    simp only [lEq, Bool.and_eq_true] at h
    rw [hf a (.head _) b h.1, lEq.eq (fun x hx => hf x (.tail _ hx)) h.2]
  | [], _ :: _, _, h => by cases h
  | _ :: _, [], _, h => by cases h
def pEq : Nat → PV → PV → Bool
  | 0, _, _ => false
  | n + 1, p, q => match p, q with
    | .undef, .undef => true
    | .nocap, .nocap => true
    | .val v, .val w => vEq v w
    | .rows a, .rows b => lEq (lEq (pEq n)) a b
    | .own a k, .own b l => decide (a = b) && decide (k = l)
    | .ptr a k x i o, .ptr b l y j u => (decide (a = b) && decide (k = l)) && (decide (x = y) && (decide (i = j) && decide (o = u)))
    | .cptr a o, .cptr b u => lEq (pEq n) a b && decide (o = u)
    | .agg a, .agg b => lEq (pEq n) a b
    | .tuple a, .tuple b => lEq (pEq n) a b
    | .clo f a, .clo g b => decide (f = g) && lEq (pEq n) a b
    | _, _ => false
theorem pEq.eq : ∀ (n : Nat) {p q : PV}, pEq n p q = true → p = q
  | 0, _, _, h => by cases h
  | n + 1, p, q, h => by
    have e1 : ∀ {a b : List PV}, lEq (pEq n) a b = true → a = b := fun h => lEq.eq (fun _ _ _ h => pEq.eq n h) h
    unfold pEq at h
    split at h
    · rfl
    · rfl
    · rw [vEq.eq h]
    · rw [lEq.eq (fun _ _ _ h => e1 h) h]
    · simp_all
    · simp_all
    · rw [Bool.and_eq_true, decide_eq_true_eq] at h; rw [e1 h.1, h.2]
    · rw [e1 h]
    · rw [e1 h]
    · rw [Bool.and_eq_true, decide_eq_true_eq] at h; rw [e1 h.2, h.1]
    · cases h
def bEq (a b : Blk) : Bool := (decide (a.sz = b.sz) && decide (a.frozen = b.frozen)) && ((a.mp.isNone && b.mp.isNone) && lEq (lEq (pEq 12)) a.es b.es)
theorem bEq.eq {a b : Blk} (h : bEq a b = true) : a = b := by
  obtain ⟨s, e, f, m⟩ := a
  obtain ⟨s', e', f', m'⟩ := b
  simp only [bEq, Bool.and_eq_true, decide_eq_true_eq, Option.isNone_iff_eq_none] at h
  obtain ⟨⟨h1, h2⟩, ⟨h3, h4⟩, h5⟩ := h
  rw [h1, h2, h3, h4, lEq.eq (fun _ _ _ h => lEq.eq (fun _ _ _ h => pEq.eq 12 h) h) h5]
def hEq (a b : Heap) : Bool := lEq bEq a b
theorem hEq.eq {a b : Heap} (h : hEq a b = true) : a = b := lEq.eq (fun _ _ _ h => bEq.eq h) h
abbrev Tab := List (List Nat × Heap)
def findT : Tab → List Nat → Option Heap
  | [], _ => none
  | (k, K) :: t, T => if k = T then some K else findT t T
def atT (Tb : Tab) (W : List (Nat × Heap)) (H : Heap) (T : List Nat) : Heap := match findT Tb T with
  | some K => K
  | none => lastH W H fun j => T.contains j
def subsW (As : List (List Nat)) : List Nat → List (List Nat)
  | [] => [[]]
  | j :: w => let s := subsW As w
    s ++ (s.filter fun T => (ahead As j).all fun a => !w.contains a || T.contains a).map (j :: ·)
theorem subsW.mem {As : List (List Nat)} {S : Nat → Bool} (hd : ∀ j, S j = true → ∀ a ∈ ahead As j, S a = true) : ∀ w : List Nat, w.filter S ∈ subsW As w
  | [] => by simp [subsW]
  | j :: w => by
    have ih := subsW.mem hd w
    unfold subsW
    simp only [List.mem_append, List.mem_map, List.mem_filter]
    by_cases hj : S j = true
    · rw [List.filter_cons_of_pos hj]
      refine .inr ⟨w.filter S, ⟨ih, ?_⟩, rfl⟩
      rw [List.all_eq_true]
      intro a ha
      rw [Bool.or_eq_true]
      by_cases hw : w.contains a = true
      · right
        rw [List.contains_iff_mem] at hw ⊢
        exact List.mem_filter.2 ⟨hw, hd j hj a ha⟩
      · left; simpa using hw
    · rw [List.filter_cons_of_neg hj]; exact .inl ih
def reOp (P : Program) (cf : CF) (cr : CR) (all : Array Oper) (E : Env) (o : Oper) (r : Res) (tgt : Nat) (K K' : Heap) : Bool :=
  match callee P E o with
  | some fa => if r.2.2 = 1 then (match cr fa.1 fa.2 K with
      | some p => pEq 12 p r.1
      | none => false) else (match cf fa.1 fa.2 K with
      | some x => pEq 12 x.1 r.1 && hEq x.2 K'
      | none => false)
  | none => match aop P E o K tgt with
    | some x => pEq 12 x.1 r.1 && (decide (r.2.2 = 1 ∧ kindOp o.op = 1) || hEq x.2 K')
    | none => false
def wrAt (P : Program) (cf : CF) (all : Array Oper) (E : Env) (o : Oper) (tgt : Nat) (K : Heap) : Option Heap :=
  match callee P E o with
  | some fa => (cf fa.1 fa.2 K).map (·.2)
  | none => (aop P E o K tgt).map (·.2)
def mkT (P : Program) (cf : CF) (all : Array Oper) (As : List (List Nat)) (E : Nat → Env) (W : List (Nat × Heap)) (H : Heap) : Nat → List Oper → List Res → Nat → List Nat → Tab → Tab
  | i, o :: os, r :: rs, tgt, ws, Tb =>
    let tgt' := if isAlloc o then tgt + 1 else tgt
    if r.2.2 = 2 then
      let more := (subsW As ws).filterMap fun T =>
        if T = ws then none else if (ahead As i).all (fun a => !ws.contains a || T.contains a) then
          match wrAt P cf all (E i) o tgt (atT Tb W H T) with
          | some K => some (i :: T, K)
          | none => none
        else none
      mkT P cf all As E W H (i + 1) os rs tgt' (i :: ws) (more ++ Tb)
    else mkT P cf all As E W H (i + 1) os rs tgt' ws Tb
  | _, _, _, _, _, Tb => Tb
def chkOp (P : Program) (cf : CF) (cr : CR) (all : Array Oper) (As : List (List Nat)) (e0 : Env) (L : List (Nat × Nat × PV)) (W : List (Nat × Heap)) (H : Heap) (Tb : Tab) (Ts : List (List Nat)) : Nat → List Oper → List Res → Nat → Bool
  | i, o :: os, r :: rs, tgt =>
    ((ahead As i).all (fun j => decide (j < i)) && ((tmpsOf all o).all (fun t => L.all (fun x => x.2.1 != t || ((ahead As i).contains x.1 || ((ahead As x.1).contains i && decide (i < x.1))))) &&
      ((r.2.2 == 0 || ((W.all (fun x => x.1 == i || ((ahead As i).contains x.1 || (ahead As x.1).contains i)) && Tb.all fun x => decide (x.1 ≠ (W.map (·.1)).filter (below i)) && decide (x.1 ≠ (W.map (·.1)).filter (below (i + 1)))) ||
        Ts.all fun T => (T.contains i || T.any fun j => (ahead As j).contains i) || ((!(ahead As i).all fun a => !(W.map (·.1)).contains a || T.contains a) ||
          reOp P cf cr all (drawE e0 L (below i)) o r tgt (atT Tb W H T) (if r.2.2 = 2 then atT Tb W H ((W.map (·.1)).filter fun j => j == i || T.contains j) else atT Tb W H T)))) && ((match o.dst with
        | some t => laterOk (ahead As) i t L
        | none => true) && chkOp P cf cr all As e0 L W H Tb Ts (i + 1) os rs (if isAlloc o then tgt + 1 else tgt)))))
  | _, [], _, _ => true
  | _, _ :: _, [], _ => false
end
end Go.RM
namespace Go.RM
set_option linter.unusedVariables false
set_option linter.unusedSimpArgs false
section
variable {P : Program} {X : FuncId → List PV → Heap → PV → Heap → Prop}
structure Chk (P : Program) (cf : CF) (cr : CR) (all : Array Oper) (As : List (List Nat)) (e0 : Env) (L : List (Nat × Nat × PV)) (W : List (Nat × Heap)) (H : Heap) (Tb : Tab) (Ts : List (List Nat)) (i : Nat) (o : Oper) (r : Res) : Prop where
  lt : ∀ j ∈ ahead As i, j < i
  tmps : ∀ t ∈ tmpsOf all o, ∀ x ∈ L, x.2.1 = t → x.1 ∈ ahead As i ∨ (i ∈ ahead As x.1 ∧ i < x.1)
  mem : r.2.2 = 0 ∨ ((∀ x ∈ W, x.1 = i ∨ x.1 ∈ ahead As i ∨ i ∈ ahead As x.1) ∧ ∀ x ∈ Tb, x.1 ≠ (W.map (·.1)).filter (below i) ∧ x.1 ≠ (W.map (·.1)).filter (below (i + 1))) ∨
    ∃ tgt, ∀ T ∈ Ts, i ∉ T → (∀ j ∈ T, i ∉ ahead As j) → (∀ a ∈ ahead As i, a ∈ W.map (·.1) → a ∈ T) →
      reOp P cf cr all (drawE e0 L (below i)) o r tgt (atT Tb W H T) (if r.2.2 = 2 then atT Tb W H ((W.map (·.1)).filter fun j => j == i || T.contains j) else atT Tb W H T) = true
  dst : ∀ t, o.dst = some t → laterOk (ahead As) i t L = true
theorem chkOp.get {cf : CF} {cr : CR} {all : Array Oper} {As : List (List Nat)} {e0 : Env} {L : List (Nat × Nat × PV)} {W : List (Nat × Heap)} {H : Heap} {Tb : Tab} {Ts : List (List Nat)} : ∀ {os : List Oper} {i : Nat} {rs : List Res} {tgt : Nat}, chkOp P cf cr all As e0 L W H Tb Ts i os rs tgt = true → ∀ k o, os[k]? = some o → ∃ r, rs[k]? = some r ∧ Chk P cf cr all As e0 L W H Tb Ts (i + k) o r
  | [], i, rs, _, h, k, o, ho => by simp at ho
  | o :: os, i, [], _, h, k, o', ho => by simp [chkOp] at h
  | o :: os, i, r :: rs, tgt, h, k, o', ho => by
    simp only [chkOp, Bool.and_eq_true] at h
    obtain ⟨h1, h2, h3, h4, h5⟩ := h
    cases k with
    | zero =>
      simp at ho; subst ho
      simp only [List.all_eq_true, Bool.or_eq_true, decide_eq_true_eq, bne_iff_ne, ne_eq, beq_iff_eq, List.contains_iff_mem, Bool.and_eq_true] at h1 h2 h3
      refine ⟨r, rfl, h1, fun t ht x hx he => ?_, ?_, fun t ht => ?_⟩
      · rcases h2 t ht x hx with h | h
        · exact (h he).elim
        · exact h
      · rcases h3 with h3 | h3 | h3
        · exact .inl h3
        · exact .inr (.inl ⟨h3.1, h3.2⟩)
        · refine .inr (.inr ⟨tgt, fun T hT hi hn ha => ?_⟩)
          rcases h3 T hT with (h | h) | h | h
          · exact (hi h).elim
          · rw [List.any_eq_true] at h
            obtain ⟨j, hj, hc⟩ := h
            exact (hn j hj (List.contains_iff_mem.1 hc)).elim
          · rw [Bool.not_eq_true', List.all_eq_false] at h
            obtain ⟨a, haa, hc⟩ := h
            simp only [Bool.or_eq_true, Bool.not_eq_true', not_or, Bool.not_eq_false, Bool.not_eq_true, List.contains_iff_mem] at hc
            have := ha a haa hc.1
            have h3 := hc.2
            exact (h3 this).elim
          · exact h
      · rw [ht] at h4; exact h4
    | succ k =>
      have := chkOp.get h5 k o' (by simpa using ho)
      rw [show i + 1 + k = i + (k + 1) by omega] at this
      simpa using this
theorem conv_same {H : Heap} : ∀ (p : PV), Conv H .same false p p
  | .undef => .undef
  | .val v => .free rfl rfl
  | .rows es => .free rfl rfl
  | .own b n => .own rfl
  | .ptr b n sz i off => .ptr rfl
  | .cptr cs off => .free rfl rfl
  | .agg cs => .agg rfl fun j p q hp hq => by
      rw [hp] at hq; injection hq with hq
      subst hq
      have := List.mem_of_getElem? hp
      exact conv_same p
  | .tuple cs => .tuple rfl fun j p q hp hq => by
      rw [hp] at hq; injection hq with hq
      subst hq
      have := List.mem_of_getElem? hp
      exact conv_same p
  | .clo g cs => .clo rfl fun j p q hp hq => by
      rw [hp] at hq; injection hq with hq
      subst hq
      have := List.mem_of_getElem? hp
      exact conv_same p
  | .mp b => .mp rfl
  | .nocap => .free rfl rfl
termination_by p => SizeOf.sizeOf p
decreasing_by all_goals (have := List.sizeOf_lt_of_mem this; simp; omega)
def CRok (P : Program) (X : FuncId → List PV → Heap → PV → Heap → Prop) (cr : CR) : Prop := ∀ f args H r, cr f args H = some r → D P X (.callH f args H r H)
noncomputable def evDraw (P : Program) (cf : CF) (cp : CP) (cr : CR) (ops : Array Oper) (l : LE) (H : Heap) (tgt : Nat) : Option (LE × Heap) :=
  match evSeq P cf cp cr ops ops.toList l H tgt with
  | none => none
  | some (rs, l', H') =>
    let As := ancL ops.toList []
    let L := mkL 0 ops.toList rs []
    let W := mkW 0 ops.toList rs []
    let Tb := mkT P cf ops As (fun i => drawE (teEnv l) L (below i)) W H 0 ops.toList rs tgt [] []
    if (edgesOkL 0 ops.toList && (aheadOkL (ahead As) 0 ops.toList && (decide ((L.map (·.1)).Nodup) && (chkOp P cf cr ops As (teEnv l) L W H Tb (subsW As (W.map (·.1))) 0 ops.toList rs tgt && ((W.all fun x => (ahead As x.1).all fun j => decide (j < x.1)) && (findT Tb []).isNone && (findT Tb (W.map (·.1))).isNone))))) = true then some (l', H') else none
theorem findT_none : ∀ {Tb : Tab} {T : List Nat}, (∀ x ∈ Tb, x.1 ≠ T) → findT Tb T = none
  | [], T, _ => rfl
  | (k, K) :: t, T, h => by
    unfold findT
    rw [if_neg (h _ (.head _))]
    exact findT_none fun x hx => h x (.tail _ hx)
theorem evDraw_sound {cf : CF} {cp : CP} {cr : CR} (hcf : CFok P X cf) (hcp : CPok P X cp) (hcr : CRok P X cr) {N : Nat} {ops : Array Oper} {l : LE} {H : Heap} {tgt : Nat} {l' : LE} {H' : Heap} (h : evDraw P cf cp cr ops l H tgt = some (l', H')) : D P X (.reg N ops true (teEnv l) H (teEnv l') H') := by
  unfold evDraw at h
  split at h
  · cases h
  · rename_i rs l1 H1 hs
    simp only at h
    split at h
    · rename_i hc
      injection h with h; injection h with h1 h2
      subst h1 h2
      simp only [Bool.and_eq_true, decide_eq_true_eq, Option.isNone_iff_eq_none] at hc
      obtain ⟨c1, c2, c3, c4, ⟨c5, c6⟩, c7⟩ := hc
      obtain ⟨⟨hl', hH'⟩, hget⟩ := evSeq_get (e0 := teEnv l) (H0 := H) ops.toList 0 l H tgt rs l1 H1 [] [] hs (by simp [drawE]) (by simp [lastH]) (by simp) (by simp)
      simp only [Nat.zero_add] at hl' hH' hget
      have hbk := edgesOkL.back c1
      have hah := aheadOkL.ok c2
      rw [Array.toArray_toList] at hbk hah
      have hbelow : (below ops.toList.length) = fun j => decide (j < ops.size) := by funext j; simp [below]
      generalize hTb : mkT P cf ops (ancL ops.toList []) (fun i => drawE (teEnv l) (mkL 0 ops.toList rs []) (below i)) (mkW 0 ops.toList rs []) H 0 ops.toList rs tgt [] [] = Tb at c4 c6 c7
      generalize hLL : mkL 0 ops.toList rs [] = L at *
      generalize hWW : mkW 0 ops.toList rs [] = W at *
      generalize hAA : ancL ops.toList [] = As at *
      have hseq : ∀ S : Nat → Bool, findT Tb ((W.map (·.1)).filter S) = none → atT Tb W H ((W.map (·.1)).filter S) = lastH W H S := fun S hn => by
        unfold atT
        rw [hn]
        simp only
        refine lastH_agree W H fun x hx => ?_
        rw [Bool.eq_iff_iff, List.contains_iff_mem, List.mem_filter]
        exact ⟨fun h => h.2, fun h => ⟨List.mem_map_of_mem hx, h⟩⟩
      have hcut : ∀ S S' : Nat → Bool, (∀ x ∈ W, S x.1 = S' x.1) → (W.map (·.1)).filter S = (W.map (·.1)).filter S' := fun S S' h => List.filter_congr fun a ha => by
        obtain ⟨x, hx, rfl⟩ := List.mem_map.1 ha
        exact h x hx
      refine .draw (drawE (teEnv l) L) (fun S => atT Tb W H ((W.map (·.1)).filter S)) (ahead As) hbk hah (drawE_none _ _) ?_ (fun i o S0 ho hS hdown => ?_) ?_ ?_
      · have : (W.map (·.1)).filter (fun _ => false) = [] := by simp
        rw [hseq _ (by rw [this]; exact c6), ← hWW]
        exact (mkW_low _ _ _ _ (fun _ _ => rfl)).trans rfl
      · -- one operation
        obtain ⟨r, hr, hK⟩ := chkOp.get c4 i o (by simpa using ho)
        obtain ⟨r2, hr2, hF, hk2, hkn, hent⟩ := hget i o (by simpa using ho)
        rw [Nat.zero_add] at hK
        rw [hr] at hr2
        injection hr2 with hr2
        subst hr2
        have hin : ∀ j ∈ ahead As i, orElse (ahead As i) S0 j = true := fun j hj => by
          unfold orElse; simp [hj]
        generalize hSS : orElse (ahead As i) S0 = S at hS hdown hin ⊢
        have hlt : ∀ j, j < i → below i j = true := fun j hj => by unfold below; exact decide_eq_true hj
        have hE : ∀ t ∈ tmpsOf ops o, drawE (teEnv l) L S t = drawE (teEnv l) L (below i) t := fun t ht => drawE_agree L fun x hx he => by
          rcases hK.tmps t ht x hx he with this | ⟨h1, h2⟩
          · rw [hin _ this, hlt _ (hK.lt _ this)]
          · have e1 : S x.1 = false := by
              cases hs9 : S x.1 with
              | false => rfl
              | true => have := hdown _ hs9 i h1; rw [hS] at this; cases this
            rw [e1]; unfold below; exact (decide_eq_false (by omega)).symm
        have hops : ∀ x ∈ o.op.operands, ev (drawE (teEnv l) L (below i)) x = ev (drawE (teEnv l) L S) x := fun x hx => by
          cases x with
          | tmp t => exact (hE t (by unfold tmpsOf; refine List.mem_append_left _ (List.mem_filterMap.2 ⟨.tmp t, by simpa using hx, rfl⟩))).symm
          | _ => rfl
        have hwants : wants ops (drawE (teEnv l) L (below i)) o = wants ops (drawE (teEnv l) L S) o := wants_congr fun j w t hg ht => (hE t (by unfold tmpsOf; refine List.mem_append_right _ ?_; rw [hg]; simp only; rw [ht]; simp)).symm
        have hput : (drawE (teEnv l) L S).put o.dst r.1 = drawE (teEnv l) L (plus S i) := by
          cases hd : o.dst with
          | none => rw [hd] at hent; exact drawE_other _ S i L hent
          | some t => rw [hd] at hent; exact drawE_put _ (ahead As) S i t r.1 hS hdown L (hK.dst t hd) hent c3
        have fin : ∀ H2, H2 = atT Tb W H ((W.map (·.1)).filter (plus S i)) → D P X (.ops N ops [] ((drawE (teEnv l) L S).put o.dst r.1) H2 (drawE (teEnv l) L (plus S i)) (atT Tb W H ((W.map (·.1)).filter (plus S i)))) := fun H2 h2 => by rw [hput, h2]; exact .nil0
        have hsame : r.2.2 ≠ 2 → (W.map (·.1)).filter (plus S i) = (W.map (·.1)).filter S := fun hk => hcut _ _ fun x hx => by
          have := (hkn hk).2 x hx
          simp [plus, this]
        by_cases h0 : r.2.2 = 0
        · -- it does not look at the memory
          have hs2 := hsame (by omega)
          rcases hF with ⟨hw, hp, hk⟩ | ⟨hw, f, a, hf, (⟨hc, hk⟩ | ⟨hc, hk⟩ | ⟨hc, hk⟩)⟩ | ⟨hw, hf, tg, hc, hk⟩
          · rw [hwants] at hw
            refine .no hw ?_
            rw [← hp]
            exact fin _ (by rw [hs2])
          · rw [hwants] at hw
            rw [callee_congr hops] at hf
            obtain ⟨ha, hr9, hd⟩ := hcp _ _ _ hc
            exact .callI hw hf (.pure ha hr9 hd) (fin _ (by rw [hs2]))
          · omega
          · omega
          · rw [hwants] at hw
            rw [callee_congr hops] at hf
            rw [aop_congr hops] at hc
            exact .op 0 hw ((aop_pure (by omega) hc).2 _ _) (fin _ (by rw [hs2]))
        · rcases hK.mem with hh | ⟨hm1, hm2⟩ | ⟨tg, hre⟩
          · exact (h0 hh).elim
          · -- it stands before or behind each writer
            have hother : ∀ x ∈ W, x.1 ≠ i → S x.1 = decide (x.1 < i) := fun x hx hne => by
              rcases hm1 x hx with h1 | h1 | h1
              · exact (hne h1).elim
              · rw [hin _ h1, decide_eq_true (hK.lt _ h1)]
              · have hlt2 : i < x.1 := by
                  have := List.all_eq_true.1 c5 x hx
                  rw [List.all_eq_true] at this
                  simpa using this i h1
                rw [decide_eq_false (by omega)]
                cases hs9 : S x.1 with
                | false => rfl
                | true => have := hdown _ hs9 i h1; rw [hS] at this; cases this
            have e1 : (W.map (·.1)).filter S = (W.map (·.1)).filter (below i) := hcut _ _ fun x hx => by
              by_cases he : x.1 = i
              · rw [he, hS]; unfold below; exact (decide_eq_false (by omega)).symm
              · exact hother x hx he
            have e2 : (W.map (·.1)).filter (plus S i) = (W.map (·.1)).filter (below (i + 1)) := hcut _ _ fun x hx => by
              by_cases he : x.1 = i
              · rw [he]; unfold below plus; rw [decide_eq_true (by omega)]; simp
              · have := hother x hx he
                unfold below plus
                rw [this]
                have : (x.1 == i) = false := by simpa using he
                rw [this, Bool.false_or, decide_eq_decide]; omega
            have hG : atT Tb W H ((W.map (·.1)).filter S) = lastH W H (below i) := by
              rw [e1]; exact hseq _ (findT_none fun x hx => (hm2 x hx).1)
            have hG2 : atT Tb W H ((W.map (·.1)).filter (plus S i)) = lastH W H (below (i + 1)) := by
              rw [e2]; exact hseq _ (findT_none fun x hx => (hm2 x hx).2)
            have hG3 : r.2.2 ≠ 2 → lastH W H (below (i + 1)) = lastH W H (below i) := fun hk => by rw [← hG2, ← hG, hsame hk]
            rcases hF with ⟨hw, hp, hk⟩ | ⟨hw, f, a, hf, (⟨hc, hk⟩ | ⟨hc, hk⟩ | ⟨hc, hk⟩)⟩ | ⟨hw, hf, tg, hc, hk⟩
            · omega
            · omega
            · rw [hwants] at hw
              rw [callee_congr hops] at hf
              rw [← hG] at hc
              exact .callI hw hf (hcr _ _ _ _ hc) (fin _ (by rw [hsame (by omega)]))
            · rw [hwants] at hw
              rw [callee_congr hops] at hf
              rw [← hG] at hc
              exact .callI hw hf (hcf _ _ _ _ _ hc) (fin _ (by rw [hG2, hk2 hk]))
            · rw [hwants] at hw
              rw [callee_congr hops] at hf
              rw [aop_congr hops, ← hG] at hc
              refine .op tg hw hc (fin _ ?_)
              by_cases h2 : r.2.2 = 2
              · rw [hG2, hk2 h2]
              · rw [hG2, (hkn h2).1, hG3 h2]
          · -- it is computed at each memory that may be
            have hT := hre ((W.map (·.1)).filter S) (subsW.mem hdown _) (fun h => by rw [List.mem_filter, hS] at h; cases h.2)
              (fun j hj h => by
                have := hdown j (List.mem_filter.1 hj).2 i h
                rw [hS] at this; cases this)
              (fun a ha hw => List.mem_filter.2 ⟨hw, hin a ha⟩)
            have e2 : r.2.2 = 2 → ((W.map (·.1)).filter fun j => j == i || ((W.map (·.1)).filter S).contains j) = (W.map (·.1)).filter (plus S i) := fun _ => hcut _ _ fun x hx => by
              unfold plus
              congr 1
              rw [Bool.eq_iff_iff, List.contains_iff_mem, List.mem_filter]
              exact ⟨fun h => h.2, fun h => ⟨List.mem_map_of_mem hx, h⟩⟩
            have h12 : r.2.2 = 1 ∨ r.2.2 = 2 := by
              rcases hF with ⟨hw, hp, hk⟩ | ⟨hw, f, a, hf, (⟨hc, hk⟩ | ⟨hc, hk⟩ | ⟨hc, hk⟩)⟩ | ⟨hw, hf, tg, hc, hk⟩
              · omega
              · omega
              · omega
              · omega
              · rw [hk] at h0 ⊢
                revert h0
                unfold kindOp; split <;> simp
            have hw : wants ops (drawE (teEnv l) L S) o = some true := by
              rw [← hwants]
              rcases hF with ⟨hw, hp, hk⟩ | ⟨hw, _⟩ | ⟨hw, _⟩
              · omega
              · exact hw
              · exact hw
            unfold reOp at hT
            split at hT
            · rename_i fa hf
              rw [callee_congr hops] at hf
              split at hT
              · rename_i hk
                split at hT
                · rename_i p hc
                  rw [pEq.eq 12 hT] at hc
                  exact .callI hw hf (hcr _ _ _ _ hc) (fin _ (by rw [hsame (by omega)]))
                · cases hT
              · rename_i hk
                split at hT
                · rename_i x hc
                  rw [Bool.and_eq_true] at hT
                  have hk' : r.2.2 = 2 := by omega
                  rw [if_pos hk', e2 hk'] at hT
                  have hc' : cf fa.1 fa.2 (atT Tb W H ((W.map (·.1)).filter S)) = some (r.1, x.2) := by rw [hc, ← pEq.eq 12 hT.1]
                  exact .callI hw hf (hcf _ _ _ _ _ hc') (fin _ (hEq.eq hT.2))
                · cases hT
            · rename_i hf
              rw [callee_congr hops] at hf
              split at hT
              · rename_i x hc
                rw [aop_congr hops] at hc
                rw [Bool.and_eq_true, Bool.or_eq_true, decide_eq_true_eq] at hT
                have hc' : aop P (drawE (teEnv l) L S) o (atT Tb W H ((W.map (·.1)).filter S)) tg = some (r.1, x.2) := by rw [hc, ← pEq.eq 12 hT.1]
                refine .op tg hw hc' (fin _ ?_)
                rcases h12 with h1 | h2
                · rw [if_neg (by omega)] at hT
                  rw [hsame (by omega)]
                  rcases hT.2 with h | h
                  · exact aop_read h.2 hc
                  · exact hEq.eq h
                · rw [if_pos h2, e2 h2] at hT
                  rcases hT.2 with h | h
                  · omega
                  · exact hEq.eq h
              · cases hT
      · rw [← hbelow, ← hl']; exact fun t => conv_same _
      · rw [← hbelow]
        have e3 : (W.map (·.1)).filter (below ops.toList.length) = W.map (·.1) := by
          rw [List.filter_eq_self]
          intro a ha
          obtain ⟨x, hx, rfl⟩ := List.mem_map.1 ha
          have hb : ∀ (os : List Oper) (i : Nat) (rs : List Res) (acc : List (Nat × Heap)), (∀ x ∈ acc, x.1 < i) → ∀ x ∈ mkW i os rs acc, x.1 < i + os.length := by
            intro os
            induction os with
            | nil => intro i rs acc ha x hx; have := ha x (by simpa [mkW] using hx); simpa using this
            | cons o os ih =>
              intro i rs acc ha x hx
              cases rs with
              | nil => have := ha x (by simpa [mkW] using hx); omega
              | cons r rs =>
                have := ih (i + 1) rs _ (fun y hy => by
                  split at hy
                  · rcases List.mem_cons.1 hy with rfl | hy
                    · simp
                    · have := ha y hy; omega
                  · have := ha y hy; omega) x hx
                simp; omega
          rw [← hWW] at hx
          have := hb _ 0 rs [] (by simp) x hx
          unfold below; exact decide_eq_true (by omega)
        rw [hseq _ (by rw [e3]; exact c7), ← hH']
    · cases h
end
end Go.RM
namespace Go.RM
set_option linter.unusedVariables false
set_option linter.unusedSimpArgs false
section
variable {P : Program} {X : FuncId → List PV → Heap → PV → Heap → Prop}
def holes (ops : Array Oper) : Nat := (ops.toList.filter isAlloc).length
noncomputable def evReg (P : Program) (cf : CF) (cp : CP) (cr : CR) (ops : Array Oper) (draw : Bool) (l : LE) (H : Heap) : Option (LE × Heap) :=
  if draw then evDraw P cf cp cr ops l (H ++ List.replicate (holes ops) Blk.hole) H.length else evOps P cf ops ops.toList l (H ++ List.replicate (holes ops) Blk.hole) H.length
noncomputable def evRun (P : Program) (cf : CF) (cp : CP) (cr : CR) (N : Nat) : Nat → List Item → LE → Heap → Option (LE × Heap)
  | 0, _, _, _ => none
  | n + 1, todo, l, H => match todo with
    | [] => some (l, H)
    | .inBlock _ :: k => evRun P cf cp cr N n k l H
    | .inLoop a :: k => evRun P cf cp cr N n (.code a :: .inLoop a :: k) l H
    | .code c :: k => match c with
      | .ret => some (l, H)
      | .skip => evRun P cf cp cr N n k l H
      | .label _ => evRun P cf cp cr N n k l H
      | .seq a b => evRun P cf cp cr N n (.code a :: .code b :: k) l H
      | .cond x a b => match ev (teEnv l) x with
        | .val (.bool t) => evRun P cf cp cr N n (.code (if t then a else b) :: k) l H
        | _ => none
      | .block id a => evRun P cf cp cr N n (.code a :: .inBlock id :: k) l H
      | .loop a => evRun P cf cp cr N n (.code a :: .inLoop a :: k) l H
      | .exit id => match exitTo id k with
        | some k' => evRun P cf cp cr N n k' l H
        | none => none
      | .region _ ops draw => if ops.all (dstOk N) = true then match evReg P cf cp cr ops draw l H with
          | some x => evRun P cf cp cr N n k x.1 x.2
          | none => none
        else none
      | _ => none
    | _ => none
theorem D.rooms {fn N M rd todo e O Hf} : ∀ (k : Nat) (H : Heap), D P X (.run fn N M rd todo e (H ++ List.replicate k Blk.hole) O Hf) → D P X (.run fn N M rd todo e H O Hf)
  | 0, H, h => by simpa using h
  | k + 1, H, h => by
    refine .room 0 (D.rooms k _ ?_)
    rw [List.replicate_succ] at h
    simpa [Blk.hole] using h
theorem evRun_sound {cf : CF} {cp : CP} {cr : CR} (hcf : CFok P X cf) (hcp : CPok P X cp) (hcr : CRok P X cr) {fn : Func} {N M : Nat} {O : Outc} {Hf : Heap} : ∀ (n : Nat) (todo : List Item) (l : LE) (H : Heap) (l' : LE) (H' : Heap), evRun P cf cp cr N n todo l H = some (l', H') →
    (∀ k, D P X (.run fn N M false (.code .ret :: k) (teEnv l') H' O Hf)) → D P X (.run fn N M false [] (teEnv l') H' O Hf) → D P X (.run fn N M false todo (teEnv l) H O Hf)
  | 0, todo, l, H, l', H', h, hr, hd => by cases h
  | n + 1, todo, l, H, l', H', h, hr, hd => by
    unfold evRun at h
    split at h
    · injection h with h; injection h with h1 h2
      subst h1 h2
      exact hd
    · exact .inBlock (evRun_sound hcf hcp hcr n _ l H l' H' h hr hd)
    · exact .inLoop (evRun_sound hcf hcp hcr n _ l H l' H' h hr hd)
    · split at h
      · injection h with h; injection h with h1 h2
        subst h1 h2
        exact hr _
      · exact .skip (evRun_sound hcf hcp hcr n _ l H l' H' h hr hd)
      · exact .label (evRun_sound hcf hcp hcr n _ l H l' H' h hr hd)
      · exact .seq (evRun_sound hcf hcp hcr n _ l H l' H' h hr hd)
      · split at h
        · rename_i t hc; exact .cond t hc (evRun_sound hcf hcp hcr n _ l H l' H' h hr hd)
        · cases h
      · exact .block (evRun_sound hcf hcp hcr n _ l H l' H' h hr hd)
      · exact .loop (evRun_sound hcf hcp hcr n _ l H l' H' h hr hd)
      · split at h
        · rename_i k' hk; exact .exit hk (evRun_sound hcf hcp hcr n _ l H l' H' h hr hd)
        · cases h
      · rename_i id9 ops9 dr9
        split at h
        · rename_i hdst
          split at h
          · rename_i x hx
            refine D.rooms (holes ops9) H (.region (e1 := teEnv x.1) (H1 := x.2) hdst ?_ (evRun_sound hcf hcp hcr n _ x.1 x.2 l' H' h hr hd))
            unfold evReg at hx
            split at hx
            · rename_i hdr; rw [hdr]; exact evDraw_sound hcf hcp hcr hx
            · rename_i hdr
              rw [Bool.not_eq_true] at hdr
              rw [hdr]
              exact .reg (evOps_sound hcf hx)
          · cases h
        · cases h
      · cases h
    · cases h
noncomputable def argT : List PV → Nat → TE → TE
  | [], _, T => T
  | p :: l, i, T => argT l (i + 1) (putT T i p)
noncomputable def argL (l : List PV) : TE := argT l 0 (.tip [])
theorem argT_env : ∀ (l : List PV) (i : Nat) (T : TE) (t : Nat), teEnv (argT l i T) t = if t < i then teEnv T t else if t - i < l.length then l.getD (t - i) .undef else teEnv T t
  | [], i, T, t => by simp [argT]
  | p :: l, i, T, t => by
    rw [argT, argT_env l (i + 1), putT_env]
    unfold Env.set
    by_cases h : t = i
    · subst h; simp
    · by_cases hlt : t < i
      · rw [if_pos (by omega), if_neg h, if_pos hlt]
      · rw [if_neg (by omega), if_neg hlt, if_neg h]
        obtain ⟨d, hd⟩ : ∃ d, t - i = d + 1 := ⟨t - i - 1, by omega⟩
        rw [hd, show t - (i + 1) = d by omega]; simp
theorem argL_arg (l : List PV) : teEnv (argL l) = argEnv l := by
  funext t
  unfold argL
  rw [argT_env]
  simp only [Nat.not_lt_zero, if_false, Nat.sub_zero, teEnv_tip, listEnv, argEnv]
  by_cases h : t < l.length
  · simp [h]
  · rw [if_neg h]; simp [List.getD, List.getElem?_eq_none (Nat.le_of_not_lt h)]
theorem omap_get {α β : Type} {f : α → Option β} : ∀ {l : List α} {m : List β}, omap f l = some m → l.length = m.length ∧ ∀ (i : Nat) (x : α) (y : β), l[i]? = some x → m[i]? = some y → f x = some y
  | [], m, h => by injection h with h; subst h; exact ⟨rfl, fun i x y hx => by simp at hx⟩
  | a :: l, m, h => by
    simp only [omap] at h
    cases hf : f a with
    | none => rw [hf] at h; cases h
    | some b =>
      rw [hf] at h
      simp only [Option.bind_some] at h
      cases hm : omap f l with
      | none => rw [hm] at h; cases h
      | some m' =>
        rw [hm] at h
        injection h with h; subst h
        have ih := omap_get hm
        refine ⟨by simp [ih.1], fun i x y hx hy => ?_⟩
        cases i with
        | zero => simp at hx hy; subst hx hy; exact hf
        | succ i => exact ih.2 i x y (by simpa using hx) (by simpa using hy)
def fixD (H : Heap) : Nat → PV → Option PV
  | 0, _ => none
  | n + 1, p => if PV.free deep p = true then some p else match p with
    | .own b k => match H[b]? with
      | some q => if q.es.length = k ∧ q.mp = none then match omap (omap (fixD H n)) q.es with
          | some es => some (.rows es)
          | none => none
        else none
      | none => none
    | .ptr b k sz i off => match H[b]? with
      | some q => match q.es[i]? with
        | some x => if q.es.length = k ∧ q.sz = sz then match omap (fixD H n) x with
            | some y => some (.cptr y off)
            | none => none
          else none
        | none => none
      | none => none
    | .agg cs => match omap (fixD H n) cs with
      | some ds => some (.agg ds)
      | none => none
    | .tuple cs => match omap (fixD H n) cs with
      | some ds => some (.tuple ds)
      | none => none
    | .clo g cs => match omap (fixD H n) cs with
      | some ds => some (.clo g ds)
      | none => none
    | _ => none
def usedB (H : Heap) : Nat → PV → List Nat
  | 0, _ => []
  | n + 1, p => if PV.free deep p = true then [] else match p with
    | .own b _ => b :: (match H[b]? with
      | some q => q.es.flatMap fun x => x.flatMap (usedB H n)
      | none => [])
    | .ptr b _ _ i _ => b :: (match H[b]? with
      | some q => match q.es[i]? with
        | some x => x.flatMap (usedB H n)
        | none => []
      | none => [])
    | .agg cs => cs.flatMap (usedB H n)
    | .tuple cs => cs.flatMap (usedB H n)
    | .clo _ cs => cs.flatMap (usedB H n)
    | _ => []
theorem fixD_conv {H : Heap} {f : Map} : ∀ (n : Nat) (p q : PV) (s : Bool), fixD H n p = some q → (∀ b ∈ usedB H n p, f b = some none) → Conv H f s p q
  | 0, p, q, s, h, hf => by cases h
  | n + 1, p, q, s, h, hf => by
    unfold fixD at h
    unfold usedB at hf
    split at h
    · rename_i hfr; injection h with h; subst h; exact .free rfl hfr
    · rename_i hfr
      rw [if_neg hfr] at hf
      have deepL : ∀ {cs ds : List PV} {s : Bool}, omap (fixD H n) cs = some ds → (∀ b ∈ cs.flatMap (usedB H n), f b = some none) → cs.length = ds.length ∧ ∀ (j : Nat) (p q : PV), cs[j]? = some p → ds[j]? = some q → Conv H f s p q := fun {cs ds s} hm hb => by
        have := omap_get hm
        exact ⟨this.1, fun j p q hp hq => fixD_conv n p q s (this.2 j p q hp hq) fun b hb2 => hb b (List.mem_flatMap.2 ⟨p, List.mem_of_getElem? hp, hb2⟩)⟩
      split at h
      · rename_i b k
        split at h
        · rename_i qk hk
          split at h
          · rename_i hc
            split at h
            · rename_i es hes
              injection h with h; subst h
              simp only [hk] at hf
              have ho := omap_get hes
              refine .fixOwn (hf b (.head _)) hk hc.1 hc.2 ho.1.symm (fun i x y hx hy => ?_) fun i j x y p q hx hy hp hq => ?_
              · exact (omap_get (ho.2 i x y hx hy)).1
              · have hxy := ho.2 i x y hx hy
                refine (deepL hxy fun c hc2 => hf c (.tail _ (List.mem_flatMap.2 ⟨x, List.mem_of_getElem? hx, hc2⟩))).2 j p q hp hq
            · cases h
          · cases h
        · cases h
      · rename_i b k sz i off
        split at h
        · rename_i qk hk
          split at h
          · rename_i x hx
            split at h
            · rename_i hc
              split at h
              · rename_i y hy
                injection h with h; subst h
                simp only [hk, hx] at hf
                have hd := deepL (s := true) hy fun c hc2 => hf c (.tail _ hc2)
                exact .fixPtr (hf b (.head _)) hk hc.1 hc.2 hx hd.1 hd.2
              · cases h
            · cases h
          · cases h
        · cases h
      · split at h
        · rename_i ds hds; injection h with h; subst h
          have := deepL (s := s) hds hf
          exact .agg this.1 this.2
        · cases h
      · split at h
        · rename_i ds hds; injection h with h; subst h
          have := deepL (s := s) hds hf
          exact .tuple this.1 this.2
        · cases h
      · split at h
        · rename_i ds hds; injection h with h; subst h
          have := deepL (s := s) hds hf
          exact .clo this.1 this.2
        · cases h
      · cases h
def fixV (H : Heap) (p : PV) : Option PV := fixD H 12 p
theorem fixV_conv {H : Heap} {p q : PV} (h : fixV H p = some q) : Conv H (.keep []) false p q := fixD_conv 12 p q false h fun b _ => by simp [Map.keep, List.idxOf?]
noncomputable def fixR (H : Heap) (l : LE) : List ResultVar → Option (List (Nat × PV))
  | [] => some []
  | v :: vs =>
    let t := match v with
      | .tmp t => t
      | .cell t _ => t
    match fixV H (teEnv l t), fixR H l vs with
    | some p, some r => some ((t, p) :: r)
    | _, _ => none
theorem fixR_conv {H : Heap} {l : LE} : ∀ {vs : List ResultVar} {r : List (Nat × PV)}, fixR H l vs = some r → ConvL H (.keep []) (teEnv l) r
  | [], r, h => by injection h with h; subst h; trivial
  | v :: vs, r, h => by
    unfold fixR at h
    simp only at h
    split at h
    · rename_i p r' hp hr
      injection h with h; subst h
      exact ⟨fixV_conv hp, fixR_conv hr⟩
    · cases h
noncomputable def callWith (P : Program) (m : Nat) (cf : CF) (cp : CP) (cr : CR) : CF := fun f args H => match P.funcs[f]? with
  | some fn => match fn.body with
    | some c => match evRun P cf cp cr (max args.length fn.ntmps) m [.code c] (argL args) H with
      | some x => match resultsOf P fn (teEnv x.1) x.2 with
        | some r => some (r, x.2)
        | none => none
      | none => none
    | none => none
  | none => none
noncomputable def pureWith (P : Program) (m : Nat) (cf : CF) (cp : CP) (cr : CR) : CP := fun f args => if args.all (PV.free deep) = true then match P.funcs[f]? with
  | some fn => match fn.body with
    | some c => match evRun P cf cp cr (max args.length fn.ntmps) m [.code c] (argL args) [] with
      | some x => match fixR x.2 x.1 fn.results.toList with
        | some l1 => match resultsOf P fn (listEnv l1) [] with
          | some r => if PV.free deep r = true then some r else none
          | none => none
        | none => none
      | none => none
    | none => none
  | none => none
  else none
def readWith (cp : CP) : CR := fun f args H => match omap (fixD H 12) args with
  | some args' =>
    let ls := (args.flatMap (usedB H 12)).eraseDups
    if (decide ls.Nodup && ls.all (fun b => ((H[b]?).map fun k => k.mp.isNone).getD false)) = true then match cp f args' with
      | some r => if PV.solid deep r = true then some r else none
      | none => none
    else none
  | none => none
theorem readWith_ok {cp : CP} (hcp : CPok P X cp) : CRok P X (readWith cp) := by
  intro f args H r h
  unfold readWith at h
  split at h
  · rename_i args' ha
    simp only at h
    split at h
    · rename_i hc
      split at h
      · rename_i r' hr
        split at h
        · rename_i hsol
          injection h with h; subst h
          obtain ⟨h1, h2, h3⟩ := hcp _ _ _ hr
          rw [Bool.and_eq_true, decide_eq_true_eq] at hc
          have hm := omap_get ha
          refine .focus (Hc := []) (Hd := []) [] ((args.flatMap (usedB H 12)).eraseDups) [] false ?_ ⟨rfl, fun i b k1 h => by simp at h⟩ (by simpa using hc.1) hc.2 rfl h3 (.free rfl h2) .nil rfl (.inr (.inr ⟨hsol, rfl⟩)) rfl
          have key : ∀ (l l' : List PV), l.length = l'.length → (∀ (i : Nat) (x y : PV), l[i]? = some x → l'[i]? = some y → fixD H 12 x = some y) → (∀ x ∈ l, ∀ b ∈ usedB H 12 x, Map.lend [] ((args.flatMap (usedB H 12)).eraseDups) b = some none) → All2 (Conv H (.lend [] ((args.flatMap (usedB H 12)).eraseDups)) false) l l' := by
            intro l
            induction l with
            | nil => intro l' hl _ _; cases l' with
              | nil => exact .nil
              | cons _ _ => simp at hl
            | cons x l ih =>
              intro l' hl hg hb
              cases l' with
              | nil => simp at hl
              | cons y l' => exact .cons (fixD_conv 12 x y false (hg 0 x y rfl rfl) (hb x (.head _))) (ih l' (by simpa using hl) (fun i a b ha hb => hg (i + 1) a b (by simpa using ha) (by simpa using hb)) (fun z hz => hb z (.tail _ hz)))
          refine key args args' hm.1 hm.2 fun x hx b hb => ?_
          unfold Map.lend
          simp only [List.idxOf?, List.findIdx?_nil]
          rw [if_pos]
          rw [List.contains_iff_mem, List.mem_eraseDups]
          exact List.mem_flatMap.2 ⟨x, hx, hb⟩
        · cases h
      · cases h
    · cases h
  · cases h
def onlyP (md : FuncId → Bool) (cp : CP) : CP := fun f args => if md f = true then cp f args else none
def onlyR (md : FuncId → Bool) (cp : CP) : CR := fun f args H => if md f = true then readWith cp f args H else none
def onlyF (md : FuncId → Bool) (cf : CF) (cp : CP) : CF := fun f args H => if md f = true then (match cp f args with
  | some r => some (r, H)
  | none => (readWith cp f args H).map (·, H)) else cf f args H
abbrev Known := List (FuncId × List PV × PV)
def findK : Known → FuncId → List PV → Option PV
  | [], _, _ => none
  | x :: K, f, args => if (Nat.beq x.1 f && lEq (pEq 12) x.2.1 args) = true then some x.2.2 else findK K f args
def knownP (K : Known) (cp : CP) : CP := fun f args => match findK K f args with
  | some r => some r
  | none => cp f args
def KOk (P : Program) (X : FuncId → List PV → Heap → PV → Heap → Prop) (x : FuncId × List PV × PV) : Prop := x.2.1.all (PV.free deep) = true ∧ PV.free deep x.2.2 = true ∧ D P X (.callH x.1 x.2.1 [] x.2.2 [])
theorem findK_ok : ∀ {K : Known} {f : FuncId} {args : List PV} {r : PV}, (∀ x ∈ K, KOk P X x) → findK K f args = some r → KOk P X (f, args, r)
  | [], f, args, r, hK, h => by cases h
  | x :: K, f, args, r, hK, h => by
    unfold findK at h
    split at h
    · rename_i hc
      injection h with h
      rw [Bool.and_eq_true, Nat.beq_eq] at hc
      have := hK x (.head _)
      rw [← h, ← hc.1, ← lEq.eq (fun _ _ _ h => pEq.eq 12 h) hc.2]
      exact this
    · exact findK_ok (fun y hy => hK y (.tail _ hy)) h
theorem knownP_ok {K : Known} {cp : CP} (hK : ∀ x ∈ K, KOk P X x) (h : CPok P X cp) : CPok P X (knownP K cp) := fun f args r hr => by
  unfold knownP at hr
  split at hr
  · rename_i r' hf
    injection hr with hr; subst hr
    exact findK_ok hK hf
  · exact h _ _ _ hr
noncomputable def evBoth (P : Program) (md : FuncId → Bool) (K : Known) (m : Nat) : Nat → CF × CP
  | 0 => (fun _ _ _ => none, fun _ _ => none)
  | d + 1 => (callWith P m (onlyF md (evBoth P md K m d).1 (evBoth P md K m d).2) (onlyP md (evBoth P md K m d).2) (onlyR md (evBoth P md K m d).2), knownP K (pureWith P m (onlyF md (evBoth P md K m d).1 (evBoth P md K m d).2) (onlyP md (evBoth P md K m d).2) (onlyR md (evBoth P md K m d).2)))
theorem onlyP_ok {md : FuncId → Bool} {cp : CP} (h : CPok P X cp) : CPok P X (onlyP md cp) := fun f args r hr => by
  unfold onlyP at hr
  split at hr
  · exact h _ _ _ hr
  · cases hr
theorem onlyR_ok {md : FuncId → Bool} {cp : CP} (h : CPok P X cp) : CRok P X (onlyR md cp) := fun f args H r hr => by
  unfold onlyR at hr
  split at hr
  · exact readWith_ok h _ _ _ _ hr
  · cases hr
theorem onlyF_ok {md : FuncId → Bool} {cf : CF} {cp : CP} (h : CFok P X cf) (h2 : CPok P X cp) : CFok P X (onlyF md cf cp) := fun f args H r H1 hr => by
  unfold onlyF at hr
  split at hr
  · split at hr
    · rename_i r' hc
      injection hr with hr; injection hr with h1 h3
      subst h1 h3
      obtain ⟨ha, hb, hd⟩ := h2 _ _ _ hc
      exact .pure ha hb hd
    · cases hq : readWith cp f args H with
      | none => rw [hq] at hr; cases hr
      | some r' =>
        rw [hq] at hr
        injection hr with hr; injection hr with h1 h3
        subst h1 h3
        exact readWith_ok h2 _ _ _ _ hq
  · exact h _ _ _ _ _ hr
theorem evBoth_sound {md : FuncId → Bool} {K : Known} {m : Nat} (hK : ∀ x ∈ K, KOk P X x) : ∀ d : Nat, CFok P X (evBoth P md K m d).1 ∧ CPok P X (evBoth P md K m d).2
  | 0 => ⟨fun _ _ _ _ _ h => (by cases h), fun _ _ _ h => (by cases h)⟩
  | d + 1 => by
    obtain ⟨hcf0, hcp0⟩ := evBoth_sound (md := md) (m := m) hK d
    have hcf := onlyF_ok (md := md) hcf0 hcp0
    have hcp := onlyP_ok (md := md) hcp0
    have hcr := onlyR_ok (md := md) hcp0
    constructor
    · intro f args H r H1 h
      simp only [evBoth, callWith] at h
      split at h
      · rename_i fn hf
        split at h
        · rename_i c hb
          split at h
          · rename_i x hx
            split at h
            · rename_i r' hr
              injection h with h; injection h with h1 h2
              subst h1 h2
              refine .callH hf hb ?_
              rw [← argL_arg]
              exact evRun_sound hcf hcp hcr m _ _ _ x.1 x.2 hx (fun k => .ret hr) (.done hr)
            · cases h
          · cases h
        · cases h
      · cases h
    · simp only [evBoth]
      refine knownP_ok hK ?_
      intro f args r h
      simp only [pureWith] at h
      split at h
      · rename_i ha
        split at h
        · rename_i fn hf
          split at h
          · rename_i c hb
            split at h
            · rename_i x hx
              split at h
              · rename_i l1 hl
                split at h
                · rename_i r' hr
                  split at h
                  · rename_i hfr
                    injection h with h
                    subst h
                    refine ⟨ha, hfr, .callH hf hb ?_⟩
                    rw [← argL_arg]
                    refine evRun_sound hcf hcp hcr m _ _ _ x.1 x.2 hx (fun k => ?_) ?_
                    · exact .keep (e1 := listEnv l1) (H1 := []) [] (fun b hb => by simp at hb) (by simp) (fixR_conv hl).env ⟨rfl, fun i b k1 h => by simp at h⟩ (.ret hr)
                    · exact .keep (e1 := listEnv l1) (H1 := []) [] (fun b hb => by simp at hb) (by simp) (fixR_conv hl).env ⟨rfl, fun i b k1 h => by simp at h⟩ (.done hr)
                  · cases h
                · cases h
              · cases h
            · cases h
          · cases h
        · cases h
      · cases h
noncomputable def tellK (P : Program) (md : FuncId → Bool) (K : Known) (m d : Nat) (f : FuncId) (args : List PV) (r : PV) : Bool := match (evBoth P md K m d).2 f args with
  | some r' => pEq 12 r' r
  | none => false
theorem known {f : FuncId} {args : List PV} {r : PV} (md : FuncId → Bool) (K : Known) (hK : ∀ x ∈ K, KOk P X x) (m d : Nat) (h : tellK P md K m d f args r = true) : KOk P X (f, args, r) := by
  unfold tellK at h
  split at h
  · rename_i r' hr
    rw [pEq.eq 12 h] at hr
    exact (evBoth_sound hK d).2 f args r hr
  · cases h
theorem known.D {f : FuncId} {r : PV} (h : KOk P X (f, [], r)) : D P X (.callH f [] [] r []) := h.2.2
end
end Go.RM
