/- MV MW MX MY MZ NA NB NC NM NS GA, for the statement FramesReached: what it needs, no more. -/
import Derived.Test.YtcogffeinodfaaaGreatDoorZFramesReachedMU
import Derived.Test.YtcogffeinodfaaaGreatDoorProg
import Derived.OrdersIn
import Derived.TacticsIn
import Derived.RangeFuncRecord
import Derived.MapKept
import Derived.Laws.StructEq
namespace Go.RM
set_option linter.unusedVariables false
set_option linter.unusedSimpArgs false
variable {P : Program} {φ φ' : Place} {F F' : Mem} {H H' : Heap} {w w' : World} {e : Env} {a : Act} {o : Oper}
def fence (R : Option Nat) : Fence := { fn := fun _ => True, depth := none, alive := false, round := R }
theorem fenced_all (P : Program) (R : Option Nat) (m : Machine) : m.fenced P (fence R) := by
  intro g _
  exact ⟨fun h => (by cases h), Or.inl trivial, fun _ _ => trivial, fun _ h => (by cases h)⟩
theorem steps_in {R : Option Nat} {m m' : Machine} (h : Steps P m m') : StepsIn (Machine.fenced P (fence R)) P m m' := (StepsIn.of_steps h).mono fun m _ => fenced_all P R m
theorem calls_in {R : Option Nat} {n : Nat} {f : FuncId} {args : Array Value} {Q : Ending → World → Prop} (h : Calls P f args w Q) : CallsIn (fence R) n P f args w Q := by
  refine ⟨trivial, fun cs _ => ?_⟩
  obtain ⟨e, w', fr, hq, hc, h1, h2⟩ := h cs
  refine ⟨e, w', fr, hq, ?_, h1, h2⟩
  cases e with
  | returned v => exact steps_in hc
  | panicked c => exact steps_in hc
  | outgrown => exact hc
def ArgsRep (φ : Place) (F : Mem) (args : List PV) (vs : Array Value) : Prop := args.length = vs.size ∧ ∀ (j : Nat) (p : PV) (v : Value), args[j]? = some p → vs[j]? = some v → Rep φ F p v
theorem ArgsRep.nil {φ : Place} {F : Mem} {pre post : List PV} {vs : Array Value} (h : ArgsRep φ F (pre ++ .rows [] :: post) vs) : ∃ z k, ArgsRep φ F (pre ++ .val (.slice z 0 k) :: post) vs := by
  obtain ⟨hl, h⟩ := h
  have hlt : pre.length < vs.size := by rw [← hl]; simp
  have h0 := h pre.length (.rows []) vs[pre.length] (by simp) (by simp [hlt])
  obtain ⟨z, k, hz⟩ : ∃ z k, vs[pre.length] = .slice z 0 k := by
    rcases h0.rows_inv with ⟨-, z, k, hv⟩ | ⟨c, off, k, sz, f, hv, -⟩
    · exact ⟨z, k, hv⟩
    · exact ⟨_, k, hv⟩
  refine ⟨z, k, by simpa using hl, fun j p v hp hv => ?_⟩
  by_cases hj : j = pre.length
  · subst hj
    simp at hp
    simp [hlt, hz] at hv
    subst hp hv
    exact .imm (.val _)
  · refine h j p v ?_ hv
    rw [List.getElem?_append] at hp ⊢
    split
    · rename_i hlt'; rwa [if_pos hlt'] at hp
    · rename_i hlt'
      rw [if_neg hlt'] at hp
      obtain ⟨m, hm⟩ : ∃ m, j - pre.length = m + 1 := ⟨j - pre.length - 1, by omega⟩
      rw [hm] at hp ⊢
      simpa using hp
def Marks (n0 : Nat) (ds : List Deferred) (w : World) : Prop :=
  ∃ l : List Nat, ds = l.map (fun D => { target := .collected D, args := #[] }) ∧ l.Nodup ∧ ∀ D ∈ l, n0 ≤ D ∧ w.heap[D]? = some (.deferred (some []))
def OpsK (P : Program) (R : Option Nat) (all : Array Oper) (Q : Exit → Act → World → Prop) (K : Act → World → Prop) : List Oper → Act → World → Prop
  | [], a, w => K a w
  | o :: rest, a, w => if Region.wanted o (yielded all a.tmps) then o.wpIn (fence R) 0 P a w (OpsK P R all Q K rest) Q
    else (∀ f, o.about P w a.eval = some f → (fence R).fn f) ∧ OpsK P R all Q K rest (a.put o.dst undef) w
theorem opsK_list (R : Option Nat) (all : Array Oper) (Q : Exit → Act → World → Prop) : ∀ (l : List Oper), OpsK P R all Q (Q .normal) l = wpListIn (fence R) 0 P all Q l
  | [] => rfl
  | o :: l => by
    funext a w
    simp only [OpsK, wpListIn, opsK_list R all Q l]
def Ends (P : Program) (fn : Func) (N : Nat) (b : Frame) (cs : List Frame) (m : Machine) (M : Nat) (φ : Place) (F : Mem) (H : Heap) (w : World) (n0 : Nat) (H' : Heap) : Outc → Prop
  | .ret r => ∃ w' a' t φ' F' e', Steps P m (lone { b.atR a' t with mode := .returning } cs w') ∧ Marks n0 a'.defers w' ∧ a'.tmps.size = N ∧ Reps φ' F' e' a' ∧ resultsOf P fn e' H' = some r ∧ PostM M φ F H w φ' F' H' w'
  | .fall => ∃ w' a' φ' F', Steps P m (lone (b.atR a' []) cs w') ∧ PostM M φ F H w φ' F' H' w'
  | .jump c => ∃ w' a' k φ' F', Steps P m (lone (b.atR a' (.code c :: k)) cs w') ∧ (∀ id, c = .exit id → exitTo id k = none) ∧ PostM M φ F H w φ' F' H' w'
structure Kn where
  k : Mem → Prop
  up : ∀ F F' : Mem, F.le F' → k F → k F'
def Kn.none : Kn := ⟨fun _ => True, fun _ _ _ _ => trivial⟩
def SoundCall (P : Program) (K : Kn) (f : FuncId) (args : List PV) (H : Heap) (r : PV) (H' : Heap) : Prop :=
  ∀ (φ : Place) (F : Mem) (w : World) (vs : Array Value), K.k F → HR φ F H w → ArgsRep φ F args vs →
    Calls P f vs w (fun en w' => ∃ v φ' F', en = .returned v ∧ Rep φ' F' r v ∧ Post φ F H w φ' F' H' w')
def Sound (P : Program) (T : Kn) : J → Prop
  | .run fn N M rd todo e H O H' => ∀ (φ : Place) (F : Mem) (w : World) (a : Act) (b : Frame) (cs : List Frame) (n0 : Nat), b.roundOf.isSome = rd → Marks n0 a.defers w → n0 ≤ w.heap.size → a.tmps.size = N → T.k F → HR φ F H w → Reps φ F e a →
      Ends P fn N b cs (lone (b.atR a todo) cs w) M φ F H w n0 H' O
  | .reg N all draw e H e' H' => all.all (dstOk N) = true → ∀ (φ : Place) (F : Mem) (w : World) (a : Act) (R : Option Nat) (Q : Exit → Act → World → Prop) (id : Nat), a.tmps.size = N → T.k F → HR φ F H w → Reps φ F e a →
      (∀ φ' F' w' a', a'.defers = a.defers → a'.tmps.size = N → Reps φ' F' e' a' → Post φ F H w φ' F' H' w' → Q .normal a' w') → (Code.region id all draw).wpIn (fence R) 0 P Q a w
  | .ops N all l e H e' H' => (∀ o ∈ l, dstOk N o = true) → ∀ (φ : Place) (F : Mem) (w : World) (a : Act) (R : Option Nat) (Q : Exit → Act → World → Prop) (K : Act → World → Prop), a.tmps.size = N → T.k F → HR φ F H w → Reps φ F e a →
      (∀ φ' F' w' a', a'.defers = a.defers → a'.tmps.size = N → Reps φ' F' e' a' → Post φ F H w φ' F' H' w' → K a' w') → OpsK P R all Q K l a w
  | .callH f args H r H' => SoundCall P T f args H r H'
theorem wants_ok (hr : Reps φ F e a) {all : Array Oper} {b : Bool} (h : wants all e o = some b) : Region.wanted o (yielded all a.tmps) = b := by
  unfold wants at h
  unfold Region.wanted
  cases hg : o.guard with
  | none => rw [hg] at h; simpa using h
  | some gw =>
    obtain ⟨j, want⟩ := gw
    rw [hg] at h
    simp only at h ⊢
    cases hd : (all[j]?).bind (·.dst) with
    | none => rw [hd] at h; cases h
    | some t =>
      rw [hd] at h
      simp only at h
      split at h
      · rename_i x hx
        cases h
        have hv := hr t
        rw [hx] at hv
        have := hv.val_inv
        have ht : a.tmps[t]? = some (.bool x) := by
          cases hc : a.tmps[t]? with
          | none => simp [hc, undef] at this
          | some y => simp [hc] at this; rw [this]
        simp [yielded, hd, ht]
      · rename_i x hx
        cases h
        have hv := hr t
        rw [hx] at hv
        have := hv.val_inv
        cases hc : a.tmps[t]? with
        | none => simp [yielded, hd, hc]
        | some y => simp [hc] at this; simp [yielded, hd, hc, this]
      · cases h
def readResult (tmps : Array Value) : ResultVar → Sem Value
  | .tmp t => pure (tmps.getD t undef)
  | .cell a t => do loadVar t (← asAddr (tmps.getD a undef))
theorem results_eq (fn : Func) (tmps : Array Value) : results fn tmps = (do
    let vs ← fn.results.mapM (readResult tmps)
    pure (if h : vs.size = 1 then vs[0] else .tuple vs)) := by
  unfold results
  refine congrArg (fun g : ResultVar → Sem Value => (do
    let vs ← fn.results.mapM g
    pure (if h : vs.size = 1 then vs[0] else .tuple vs))) (funext fun x => ?_)
  cases x <;> rfl
theorem results_ok (h : HR φ F H w) (hr : Reps φ F e a) {fn : Func} {r : PV} (ho : resultsOf P fn e H = some r) : ∃ v, (results fn a.tmps).run P w = .ok v w ∧ Rep φ F r v := by
  unfold resultsOf at ho
  simp only [Option.map_eq_some_iff] at ho
  obtain ⟨ps, hps, rfl⟩ := ho
  have key : ∀ (l : List ResultVar) (ps : List PV), omap (resultOf P H e) l = some ps →
      ∃ vs : List Value, (l.mapM (readResult a.tmps)).run P w = .ok vs w ∧ All2 (fun p v => Rep φ F p v) ps vs := by
    intro l
    induction l with
    | nil => intro ps h; simp [omap] at h; subst h; exact ⟨[], by simp, .nil⟩
    | cons x l ih =>
      intro ps h'
      simp only [omap, Option.bind_eq_some_iff, Option.map_eq_some_iff] at h'
      obtain ⟨p, hp, ps', hps', rfl⟩ := h'
      obtain ⟨vs, hvs, hall⟩ := ih ps' hps'
      have hone : ∃ v, (readResult a.tmps x).run P w = .ok v w ∧ Rep φ F p v := by
        cases x with
        | tmp t => simp only [resultOf, Option.some.injEq] at hp; subst hp; exact ⟨_, rfl, hr t⟩
        | cell c t =>
          simp only [resultOf, Option.bind_eq_some_iff] at hp
          obtain ⟨s, hs, g, hg, hp⟩ := hp
          split at hp
          · rename_i hgs
            simp only [Option.bind_eq_some_iff] at hp
            obtain ⟨cs, hrd, hp⟩ := hp
            obtain ⟨b, off, vs, hv, hl, hlc, hc, hrep⟩ := rd_ok h (hr c) hrd
            obtain ⟨v, hrun, hpv⟩ := loadVar_ok (P := P) hs hg hgs hl hlc hc hrep hp
            refine ⟨v, ?_, hpv⟩
            have hv' : a.tmps.getD c undef = .pointer (some ⟨b, off, none⟩) := hv
            simp only [readResult, hv']
            simp [asAddr, hrun, Result.andThen]
          · cases hp
      obtain ⟨v, hv, hpv⟩ := hone
      exact ⟨v :: vs, by simp only [List.mapM_cons, Sem.run_bind, hv, hvs, Result.andThen_ok, Sem.run_pure], .cons hpv hall⟩
  obtain ⟨vs, hvs, hall⟩ := key _ _ hps
  refine ⟨if h : vs.toArray.size = 1 then vs.toArray[0] else .tuple vs.toArray, ?_, ?_⟩
  · rw [results_eq]
    simp only [Array.mapM_eq_mapM_toList, Sem.run_bind, Sem.run_map, hvs, Result.andThen_ok, Sem.run_pure]
  · cases hall with
    | nil => exact .tuple _ _ rfl (fun j p v h => by simp at h)
    | @cons p v ps vs h1 hall =>
      cases hall with
      | nil => simpa using h1
      | @cons p2 v2 ps vs h2 hall =>
        simp only [List.size_toArray, List.length_cons]
        rw [dif_neg (by omega)]
        have tot : All2 (fun p v => Rep φ F p v) (p :: p2 :: ps) (v :: v2 :: vs) := .cons h1 (.cons h2 hall)
        have g := tot.at
        exact .tuple _ _ (by simpa using g.1) (fun j p v hp hv => g.2 j p v hp (by simpa using hv))
theorem put_size (a : Act) (d : Option Tmp) (v : Value) : (a.put d v).tmps.size = a.tmps.size := by cases d <;> simp [Act.put]
theorem put_defers' (a : Act) (d : Option Tmp) (v : Value) : (a.put d v).defers = a.defers := by cases d <;> rfl
theorem not_defer {tgt : Nat} {p : PV} {H1 : Heap} (ho : aop P e o H tgt = some (p, H1)) (c : Call) : o.op ≠ .defer c := by
  intro hc
  simp only [aop, hc, generic] at ho
  split at ho
  · split at ho
    · rename_i v hq
      have h1 := run_quietly (P := P) _ _ (default : World) hq
      obtain ⟨dst, op, type, pos, after, guard⟩ := o
      simp only at hc; subst hc
      simp only [execOp, Sem.run_bind] at h1
      cases hr : (resolve (fun x => (toV? (ev e x)).getD undef) c type).run P default with
      | ok d w1 => rw [hr] at h1; simp [Result.andThen] at h1
      | halt x w1 => rw [hr] at h1; simp [Result.andThen] at h1
    · cases ho
  · cases ho
end Go.RM
namespace Go.RM
set_option linter.unusedVariables false
set_option linter.unusedSimpArgs false
variable {P : Program} {φ φ' : Place} {F F' : Mem} {H H' : Heap} {w w' : World} {e : Env} {a : Act} {o : Oper}
theorem callee_ok (h : HR φ F H w) (hr : Reps φ F e a) {f : FuncId} {args : List PV} (hc : callee P e o = some (f, args)) : ∃ vs, (execOp a.eval o).run P w = .ok (.enter f vs) w ∧ ArgsRep φ F args vs ∧ ∀ c, o.op ≠ .defer c := by
  unfold callee at hc
  split at hc
  · rename_i g xs tys hop
    split at hc
    · rename_i g' cs hev
      split at hc
      · rename_i hgo
        cases hc
        have hv := hr.ev g
        rw [hev] at hv
        obtain ⟨cs', hv', hl, hcs⟩ := hv.clo_inv
        unfold isGo at hgo
        split at hgo
        · rename_i fn hfn
          simp only [Bool.and_eq_true, bne_iff_ne, ne_eq] at hgo
          have hb : ¬ (fn.body.isNone = true) := by
            cases hbd : fn.body with
            | none => rw [hbd] at hgo; simp at hgo
            | some c => simp
          refine ⟨xs.map a.eval ++ cs', ?_, ⟨by simp [hl], fun j p v hp hv => ?_⟩, fun c hc => by rw [hop] at hc; cases hc⟩
          · have hcall : (callFunc f (xs.map a.eval ++ cs')).run P w = .ok (.enter f (xs.map a.eval ++ cs')) w := by
              unfold callFunc
              simp only [Sem.run_bind, run_program, Result.andThen_ok, hfn]
              rw [if_neg (by simpa using hgo.1), if_neg hb]
              rfl
            obtain ⟨dst, op, type, pos, after, guard⟩ := o
            simp only at hop
            subst hop
            simp [execOp, resolve, hv', Deferred.ofValue, invoke, hcall, Result.andThen]
          · simp only [Array.getElem?_append, Array.size_map] at hv
            rcases Nat.lt_or_ge j xs.size with hj | hj
            · rw [List.getElem?_append_left (by simpa using hj)] at hp
              rw [if_pos hj] at hv
              simp only [List.getElem?_map, Array.getElem?_toList, Option.map_eq_some_iff] at hp
              simp only [Array.getElem?_map, Option.map_eq_some_iff] at hv
              obtain ⟨x, hx, rfl⟩ := hp
              obtain ⟨y, hy, rfl⟩ := hv
              rw [hx] at hy; cases hy
              exact hr.ev x
            · rw [List.getElem?_append_right (by simpa using hj)] at hp
              rw [if_neg (by omega)] at hv
              exact hcs _ p v (by simpa using hp) hv
        · cases hgo
      · cases hc
    · cases hc
  · cases hc
theorem args_conv {bs ls : List Nat} {args args' : List PV} {vs : Array Value} (h : HR φ F H w) (hnb : bs.Nodup) (ha : All2 (Conv H (.lend bs ls) false) args args') (hr : ArgsRep φ F args vs) :
    ArgsRep (φ.sub bs) (F.ext φ H w (.lend bs ls)) args' vs := by
  have hon := Map.lend_on (ls := ls) hnb
  refine ⟨by rw [← ha.at.1]; exact hr.1, fun j q v hq hv => ?_⟩
  have hj : j < args.length := by rw [ha.at.1]; exact (List.getElem?_eq_some_iff.1 hq).1
  exact (conv_ok h (fun b b' n x hf hx => by simp [Place.sub, hon.of_ b b' hf, hx]) (Mem.ext_le F φ H w _) (fun b k c cap arr el hf hk hmp hp hheap j v hj hv => Mem.ext_fix h hf hk hmp hp hheap j v hj hv)
    (ha.at.2 j args[j] q (by simp [hj]) hq) v (hr.2 j _ v (by simp [hj]) hv)).1
theorem opsK_yes {R : Option Nat} {all : Array Oper} {Q : Exit → Act → World → Prop} {K : Act → World → Prop} {l : List Oper} (hw : wants all e o = some true) (hr : Reps φ F e a)
    (h : o.wpIn (fence R) 0 P a w (OpsK P R all Q K l) Q) : OpsK P R all Q K (o :: l) a w := by
  simp only [OpsK, wants_ok hr hw, if_true]; exact h
theorem sound_op {T : Kn} {N : Nat} {all : Array Oper} {l : List Oper} {e' : Env} {tgt : Nat} {p : PV} {H1 : Heap} (hw : wants all e o = some true) (ho : aop P e o H tgt = some (p, H1)) (ih : Sound P T (.ops N all l (e.put o.dst p) H1 e' H')) :
    Sound P T (.ops N all (o :: l) e H e' H') := by
  intro hd φ F w a R Q K hN hT h hr hK
  have hdo := hd o (by simp)
  obtain ⟨nx, v, w1, φ1, F1, hrun, hnx, hp, hpost⟩ := aop_ok h hr ho
  refine opsK_yes hw hr ⟨fun _ _ => trivial, ?_⟩
  rw [o.semAt_eq _ _ (not_defer ho), hrun]
  have go : OpsK P R all Q K l (a.put o.dst v) w1 := ih (fun o ho => hd o (by simp [ho])) φ1 F1 w1 _ R Q K (by rw [put_size]; exact hN) (T.up _ _ hpost.mem hT) hpost.hr (Reps.put (hr.mono hpost.place hpost.mem) hp hN o hdo rfl)
    fun φ' F' w' a' h1 h2 h3 h4 => hK φ' F' w' a' (by rw [h1, put_defers']) h2 h3 (hpost.trans h4)
  rcases hnx with rfl | ⟨rfl, rfl⟩
  · exact go
  · exact go
theorem sound_no {T : Kn} {N : Nat} {all : Array Oper} {l : List Oper} {e' : Env} (hw : wants all e o = some false) (ih : Sound P T (.ops N all l (e.put o.dst (.val undef)) H e' H')) :
    Sound P T (.ops N all (o :: l) e H e' H') := by
  intro hd φ F w a R Q K hN hT h hr hK
  have hdo := hd o (by simp)
  simp only [OpsK, wants_ok hr hw]
  refine ⟨fun _ _ => trivial, ih (fun o ho => hd o (by simp [ho])) φ F w _ R Q K (by rw [put_size]; exact hN) hT h (Reps.put hr (.imm (.val _)) hN o hdo rfl)
    fun φ' F' w' a' h1 h2 h3 h4 => hK φ' F' w' a' (by rw [h1, put_defers']) h2 h3 h4⟩
theorem sound_callI {T : Kn} {N : Nat} {all : Array Oper} {l : List Oper} {e' : Env} {f : FuncId} {args : List PV} {H1 : Heap} {r : PV} (hw : wants all e o = some true) (hf : callee P e o = some (f, args)) (hc : Sound P T (.callH f args H r H1))
    (ih : Sound P T (.ops N all l (e.put o.dst r) H1 e' H')) : Sound P T (.ops N all (o :: l) e H e' H') := by
  intro hdst φ F w a R Q K hN hT h hrep hK
  have hdo := hdst o (by simp)
  obtain ⟨vs, hrun, hargs, hnd'⟩ := callee_ok h hrep hf
  refine opsK_yes hw hrep ⟨fun _ _ => trivial, ?_⟩
  rw [o.semAt_eq _ _ hnd', hrun]
  refine ⟨fun h => (by cases h), (calls_in (hc φ F w vs hT h hargs)).mono ?_⟩
  rintro en w' ⟨v, φ', F', rfl, hv, hp2⟩
  exact ih (fun o ho => hdst o (by simp [ho])) φ' F' w' _ R Q K (by rw [put_size]; exact hN) (T.up _ _ hp2.mem hT) hp2.hr (Reps.put (hrep.mono hp2.place hp2.mem) hv hN o hdo rfl)
    fun φ' F' w' a' h1 h2 h3 h4 => hK φ' F' w' a' (by rw [h1, put_defers']) h2 h3 (hp2.trans h4)
theorem sound_focus {T : Kn} {f : FuncId} {args args' : List PV} {H0 Hc Hd H1 : Heap} {r r' : PV} {bs ls ts : List Nat} {fz : Bool}
    (ha : All2 (Conv H (.lend bs ls) false) args args') (hH0 : HeapConv H (.lend bs ls) bs H0) (hnd : (bs ++ ls ++ ts).Nodup) (hls : ls.all (fun b => ((H[b]?).map fun k => k.mp.isNone).getD false) = true)
    (hts : ts.all (fun b => match H[b]? with | some ⟨0, [], 0, none⟩ => true | _ => false) = true)
    (hc : Sound P T (.callH f args' H0 r' Hc)) (hr : Conv Hc (.back (bs ++ ts)) false r' r) (hd : All2 (BlkConv Hc (.back (bs ++ ts))) Hc Hd) (hdl : Hd.length = (bs ++ ts).length)
    (hfz : fz = true ∨ ls = [] ∨ (PV.solid deep r' = true ∧ Hc.all Blk.solid = true)) (hH1 : H1 = setAll (if fz then H.freeze ls else H) (bs ++ ts) Hd) : Sound P T (.callH f args H r H1) := by
  intro φ F w vs hT h hargs
  have hnb : bs.Nodup := by
    rw [List.append_assoc] at hnd; exact (List.nodup_append.1 hnd).1
  have hts' : ∀ t ∈ ts, H[t]? = some Blk.hole := by
    intro t ht
    have := List.all_eq_true.1 hts t ht
    split at this
    · rename_i hx; exact hx
    · cases this
  refine (hc (φ.sub bs) (F.ext φ H w (.lend bs ls)) w vs (T.up _ _ (Mem.ext_le F φ H w _) hT) (heap_conv h hnb (Map.lend_on hnb) hH0) (args_conv h hnb ha hargs)).mono ?_
  rintro en w' ⟨v, φ', F', rfl, hv, hpost⟩
  obtain ⟨φ2, F2, hp2, hr2⟩ := call_back h hnd hls hts' hH0 hpost hd hdl hfz hv hr
  rw [← hH1] at hp2
  exact ⟨v, φ2, F2, rfl, hr2, hp2⟩
theorem sound_nil {T : Kn} {N : Nat} {all : Array Oper} {e1 : Env} {H1 : Heap} (he : EnvConv H .same e e1) (hH : H = H1) : Sound P T (.ops N all [] e H e1 H1) := by
  subst hH
  intro _ φ F w a R Q K hN _ h hr hK
  exact hK φ F w a rfl hN (env_same h he hr) (.refl h)
theorem sound_reg {T : Kn} {N : Nat} {ops : Array Oper} {e1 : Env} {H1 : Heap} (ih : Sound P T (.ops N ops ops.toList e H e1 H1)) : Sound P T (.reg N ops false e H e1 H1) := by
  intro hd φ F w a R Q id hN hT h hr hK
  refine wpIn_region_list ?_
  rw [← opsK_list]
  exact ih (fun o ho => Array.all_eq_true_iff_forall_mem.1 hd o (Array.mem_def.2 ho)) φ F w a R Q (Q .normal) hN hT h hr hK
theorem countP_less (i : Nat) : ∀ (l : List Nat) (p q : Nat → Bool), i ∈ l → p i = true → (∀ j, q j = true → p j = true ∧ j ≠ i) → l.countP q < l.countP p
  | [], p, q, h, _, _ => by simp at h
  | x :: l, p, q, h, hi, hq => by
    have le : ∀ (l : List Nat), l.countP q ≤ l.countP p := fun l => List.countP_mono_left fun j _ hj => (hq j hj).1
    by_cases hx : x = i
    · subst hx
      have hqx : q x = false := by
        cases hqx : q x with
        | false => rfl
        | true => exact absurd rfl (hq x hqx).2
      rw [List.countP_cons, List.countP_cons, hi, hqx]
      have := le l
      simp; omega
    · have hl : i ∈ l := by simpa [Ne.symm hx] using h
      have := countP_less i l p q hl hi hq
      rw [List.countP_cons, List.countP_cons]
      cases hqx : q x with
      | false => simp; omega
      | true => simp [(hq x hqx).1]; omega
theorem sound_draw {T : Kn} (hm : P.follows .mixedOrders = true) {N : Nat} {ops : Array Oper} {e1 : Env} {H1 : Heap} (es : (Nat → Bool) → Env) (Hs : (Nat → Bool) → Heap) (A : Nat → List Nat) (hb : edgesBack ops = true) (hA : aheadOk ops A = true)
    (he : es (fun _ => false) = e) (hH : Hs (fun _ => false) = H)
    (hi : ∀ (i : Nat) (o : Oper) (S : Nat → Bool), ops[i]? = some o → orElse (A i) S i = false → (∀ i', orElse (A i) S i' = true → ∀ j ∈ A i', orElse (A i) S j = true) → Sound P T (.ops N ops [o] (es (orElse (A i) S)) (Hs (orElse (A i) S)) (es (plus (orElse (A i) S) i)) (Hs (plus (orElse (A i) S) i))))
    (he1 : EnvConv H1 .same (es fun j => decide (j < ops.size)) e1) (hH1 : Hs (fun j => decide (j < ops.size)) = H1) : Sound P T (.reg N ops true e H e1 H1) := by
  intro hd φ F w a R Q id hN hT h hr hK
  refine wpIn_region_any hm ?_
  have key : ∀ (fuel : Nat) (listed : Array Bool) (S : Nat → Bool) (φ' : Place) (F' : Mem) (w' : World) (a' : Act), listed.size = ops.size → (∀ j, S j = listed.getD j false) → (List.range ops.size).countP (fun j => !S j) ≤ fuel →
      (∀ i, S i = true → ∀ j ∈ A i, S j = true) → a'.defers = a.defers → a'.tmps.size = N → Reps φ' F' (es S) a' → Post φ F H w φ' F' (Hs S) w' → wpAnyIn (fence R) 0 P .any ops Q fuel listed a' w' := by
    intro fuel
    induction fuel with
    | zero =>
      intro listed S φ' F' w' a' hsz hS hcnt hdown h1 h2 h3 h4
      have hall : ∀ j, j < ops.size → S j = true := by
        intro j hj
        cases hs : S j with
        | true => rfl
        | false =>
          have : 0 < (List.range ops.size).countP (fun j => !S j) := List.countP_pos_iff.2 ⟨j, by simpa using hj, by simp [hs]⟩
          omega
      have hSe : S = fun j => decide (j < ops.size) := by
        funext j
        by_cases hj : j < ops.size
        · simp [hall j hj, hj]
        · have : listed.getD j false = false := by simp [show ¬ j < listed.size by omega]
          rw [hS, this]; simp [hj]
      refine ⟨?_, ?_⟩
      · cases hr : Region.ready .any ops listed with
        | nil => rfl
        | cons i rs =>
          have hm' : i ∈ Region.ready .any ops listed := by rw [hr]; simp
          obtain ⟨h0, o, ho, -⟩ := mem_ready.1 hm'
          have hi' : i < ops.size := (Array.getElem?_eq_some_iff.1 ho).1
          have := hall i hi'
          rw [hS] at this
          simp [show i < listed.size by omega] at h0 this
          rw [this] at h0; cases h0
      · rw [hSe] at h3 h4
        rw [hH1] at h4
        exact hK φ' F' w' a' h1 h2 (env_same h4.hr he1 h3) h4
    | succ fuel ih =>
      intro listed S φ' F' w' a' hsz hS hcnt hdown h1 h2 h3 h4
      refine ⟨fun hr0 => ?_, fun i hir => ?_⟩
      · -- nothing is ready: all is listed
        have hall : ∀ j, j < ops.size → S j = true := by
          intro j
          induction j using Nat.strongRecOn with
          | _ j ihj =>
            intro hj
            cases hs : S j with
            | true => rfl
            | false =>
              have hmem : j ∈ Region.ready .any ops listed := by
                refine mem_ready.2 ⟨?_, ops[j], by simp [hj], fun ed hed hbind => ?_⟩
                · rw [hS] at hs
                  simp [show j < listed.size by omega] at hs ⊢; exact hs
                · have hbj := List.all_eq_true.1 hb j (by simpa using hj)
                  simp only [Array.getElem?_eq_getElem hj] at hbj
                  have := Array.all_eq_true_iff_forall_mem.1 hbj ed hed
                  simp only [hbind, Bool.not_true, Bool.false_or, decide_eq_true_eq] at this
                  have h5 := ihj ed.on this (by omega)
                  rw [hS] at h5; exact h5
              rw [hr0] at hmem; simp at hmem
        have hSe : S = fun j => decide (j < ops.size) := by
          funext j
          by_cases hj : j < ops.size
          · simp [hall j hj, hj]
          · have : listed.getD j false = false := by simp [show ¬ j < listed.size by omega]
            rw [hS, this]; simp [hj]
        rw [hSe] at h3 h4
        rw [hH1] at h4
        exact hK φ' F' w' a' h1 h2 (env_same h4.hr he1 h3) h4
      · obtain ⟨h0, o, ho, hall⟩ := mem_ready.1 hir
        have hi' : i < ops.size := (Array.getElem?_eq_some_iff.1 ho).1
        have hSi : S i = false := by
          rw [hS]
          simp [show i < listed.size by omega] at h0 ⊢; exact h0
        have hAS : ∀ j ∈ A i, S j = true := by
          intro j hj
          have h5 := List.all_eq_true.1 hA i (by simpa using hi')
          simp only [ho] at h5
          have h6 := List.all_eq_true.1 h5 j hj
          obtain ⟨ed, hed, h7⟩ := Array.any_eq_true'.1 h6
          simp only [Bool.and_eq_true, Bool.or_eq_true, beq_iff_eq, List.contains_iff_mem] at h7
          obtain ⟨h8, h9⟩ := h7
          have h10 := hall ed hed h8
          rw [← hS] at h10
          rcases h9 with h9 | h9
          · rw [← h9]; exact h10
          · exact hdown ed.on h10 j h9
        have hor : orElse (A i) S = S := by
          funext j
          unfold orElse
          by_cases hj : j ∈ A i
          · simp [hj, hAS j hj]
          · have : (A i).contains j = false := by simpa using hj
            rw [this, Bool.false_or]
        have hs := hi i o S ho
        rw [hor] at hs
        have hs := hs hSi hdown
        have hdo : dstOk N o = true := Array.all_eq_true_iff_forall_mem.1 hd o (Array.mem_of_getElem? ho)
        have hplus : ∀ j, plus S i j = (listed.setIfInBounds i true).getD j false := by
          intro j
          unfold plus
          by_cases hj : j = i
          · subst hj; simp [show j < listed.size by omega]
          · rw [getD_set_ne false (Ne.symm hj), ← hS]; simp [hj]
        have hres := hs (fun o' ho' => by simp at ho'; rw [ho']; exact hdo) φ' F' w' a' R Q (wpAnyIn (fence R) 0 P .any ops Q fuel (listed.setIfInBounds i true)) h2 (T.up _ _ h4.mem hT) h4.hr h3 fun φ2 F2 w2 a2 g1 g2 g3 g4 =>
          ih (listed.setIfInBounds i true) (plus S i) φ2 F2 w2 a2 (by simp [hsz]) hplus (by
            have := countP_less i (List.range ops.size) (fun j => !S j) (fun j => !plus S i j) (by simpa using hi') (by simp [hSi]) (fun j hj => by
              simp only [plus, Bool.not_eq_true', Bool.or_eq_false_iff, beq_eq_false_iff_ne] at hj
              exact ⟨by simp [hj.2], hj.1⟩)
            omega) (by
            intro i' hi2 j hj
            unfold plus at hi2 ⊢
            simp only [Bool.or_eq_true, beq_iff_eq] at hi2 ⊢
            rcases hi2 with rfl | hi2
            · exact .inr (hAS j hj)
            · exact .inr (hdown i' hi2 j hj)) (by rw [g1, h1]) g2 g3 (h4.trans g4)
        unfold wpOpIn
        simp only [ho]
        simp only [OpsK] at hres
        exact hres
  have h0 : HR φ F H { w with drawn := w.drawn + 1 } := ⟨h.mem, fun b k hb => ⟨(h.blk b k hb).uni, (h.blk b k hb).at_⟩, h.sep, h.dom⟩
  have hcw : (List.range ops.size).countP (fun j => !(fun _ => false : Nat → Bool) j) ≤ ops.size := by
    refine Nat.le_trans List.countP_le_length (by simp)
  refine key ops.size _ (fun _ => false) φ F _ a (by simp) (fun j => ?_) hcw (fun i hi => by cases hi) rfl hN (by rw [he]; exact hr) (by rw [hH]; exact ⟨.refl φ, .refl F, h0, ⟨rfl, rfl, rfl, Nat.le_refl _, fun _ _ _ => rfl⟩, .refl _ _ _, fun _ _ => .inl rfl⟩)
  by_cases hj : j < ops.size
  · simp [hj]
  · simp [hj]
end Go.RM
namespace Go.RM
set_option linter.unusedVariables false
set_option linter.unusedSimpArgs false
variable {P : Program} {φ φ1 φ' : Place} {F F1 F' : Mem} {H H1 H' : Heap} {w w1 w' : World} {e : Env} {a : Act} {o : Oper}
variable {fn : Func} {N M : Nat} {b : Frame} {cs : List Frame} {m m1 : Machine} {n0 : Nat} {O : Outc}
theorem HR.obj (h : HR φ F H w) {b : Nat} {k : Blk} {c cap : Nat} (hb : H[b]? = some k) (hφ : φ b k.es.length = some (c, cap)) :
    (∃ arr el, w.heap[c]? = some (.cells arr el (0, 0))) ∨ ∃ es cl, w.heap[c]? = some (.map es cl) := by
  rcases (h.blk b k hb).at_ with ⟨h0, _, h1⟩ | ⟨_, _, c1, cap', hφ1, arr', el', hheap, -⟩ | ⟨_, h0, l, c1, cap', _, hφ1, es, cl, hheap, -⟩
  · rw [h0] at hφ; simp only [List.length_nil] at hφ; rw [h1] at hφ; cases hφ
  · rw [hφ] at hφ1; cases hφ1; exact .inl ⟨arr', el', hheap⟩
  · rw [h0] at hφ; simp only [List.length_nil] at hφ; rw [hφ] at hφ1; cases hφ1
    exact .inr ⟨es, cl, hheap⟩
theorem Marks.keep {ds : List Deferred} (hm : Marks n0 ds w) (h : HR φ F H w) (hp : PostM M φ F H w φ' F' H' w') : Marks n0 ds w' := by
  obtain ⟨l, rfl, hn, hl⟩ := hm
  refine ⟨l, rfl, hn, fun D hD => ⟨(hl D hD).1, ?_⟩⟩
  have hd := (hl D hD).2
  rw [hp.keeps.old D (Array.getElem?_eq_some_iff.1 hd).1 fun b k cap hb hφ => ?_]
  · exact hd
  · rcases h.obj hb hφ with ⟨arr, el, hc⟩ | ⟨es, cl, hc⟩ <;> (rw [hd] at hc; cases hc)
theorem Ends.of_steps (hs : Steps P m m1) (h : Ends P fn N b cs m1 M φ F H w n0 H' O) : Ends P fn N b cs m M φ F H w n0 H' O := by
  cases O with
  | ret r => obtain ⟨w', a', t, φ', F', e', h1, h2⟩ := h; exact ⟨w', a', t, φ', F', e', hs.trans h1, h2⟩
  | fall => obtain ⟨w', a', φ', F', h1, h2⟩ := h; exact ⟨w', a', φ', F', hs.trans h1, h2⟩
  | jump c => obtain ⟨w', a', k, φ', F', h1, h2⟩ := h; exact ⟨w', a', k, φ', F', hs.trans h1, h2⟩
theorem Ends.of_post (hp : PostM M φ F H w φ1 F1 H1 w1) (h : Ends P fn N b cs m M φ1 F1 H1 w1 n0 H' O) : Ends P fn N b cs m M φ F H w n0 H' O := by
  cases O with
  | ret r => obtain ⟨w', a', t, φ', F', e', h1, h2, h3, h4, h5, h6⟩ := h; exact ⟨w', a', t, φ', F', e', h1, h2, h3, h4, h5, hp.trans h6⟩
  | fall => obtain ⟨w', a', φ', F', h1, h2⟩ := h; exact ⟨w', a', φ', F', h1, hp.trans h2⟩
  | jump c => obtain ⟨w', a', k, φ', F', h1, h2, h3⟩ := h; exact ⟨w', a', k, φ', F', h1, h2, hp.trans h3⟩
theorem room_post (h : HR φ F H w) (M sz : Nat) : PostM M φ F H w φ F (H ++ [⟨sz, [], 0, none⟩]) w := by
  have none_ : ∀ n, φ H.length n = none := by
    intro n
    cases hc : φ H.length n with
    | none => rfl
    | some x => have := h.dom_lt hc; omega
  have hcases : ∀ (b : Nat) (k : Blk), (H ++ [⟨sz, [], 0, none⟩])[b]? = some k → H[b]? = some k ∨ (b = H.length ∧ k = ⟨sz, [], 0, none⟩) := by
    intro b k hb
    rcases Nat.lt_or_ge b H.length with hlt | hge
    · rw [List.getElem?_append_left hlt] at hb; exact .inl hb
    · rw [List.getElem?_append_right hge] at hb
      have : b - H.length = 0 := by
        rcases Nat.eq_zero_or_pos (b - H.length) with g | g
        · exact g
        · rw [List.getElem?_eq_none (by simp; omega)] at hb; cases hb
      rw [this] at hb
      simp at hb
      exact .inr ⟨by omega, hb.symm⟩
  refine ⟨fun b n x _ hx => hx, .refl F, ⟨h.mem, fun b k hb => ?_, fun b b' k k' c cap c' cap' hne hb hb' hp hp' => ?_, fun b n x hx => ?_⟩, .refl φ H w, fun b k c cap hb hp => ?_, fun _ _ => .inl rfl⟩
  · rcases hcases b k hb with hb | ⟨rfl, rfl⟩
    · exact h.blk b k hb
    · exact ⟨by simp, .inl ⟨rfl, rfl, none_ 0⟩⟩
  · rcases hcases b k hb with hb | ⟨rfl, rfl⟩
    · rcases hcases b' k' hb' with hb' | ⟨rfl, rfl⟩
      · exact h.sep b b' k k' c cap c' cap' hne hb hb' hp hp'
      · rw [none_] at hp'; cases hp'
    · rw [none_] at hp; cases hp
  · obtain ⟨k, hk, hn⟩ := h.dom b n x hx
    have := (List.getElem?_eq_some_iff.1 hk).1
    exact ⟨k, by rw [List.getElem?_append_left this]; exact hk, hn⟩
  · rcases hcases b k hb with hb | ⟨rfl, rfl⟩
    · exact .inr ⟨b, k, cap, hb, hp⟩
    · rw [none_] at hp; cases hp
theorem HR.other (h : HR φ F H w) (hc : ∀ c : Nat, ((∃ arr el fr, w.heap[c]? = some (Obj.cells arr el fr)) ∨ ∃ es cl, w.heap[c]? = some (Obj.map es cl)) → w1.heap[c]? = w.heap[c]?) : HR φ F H w1 := by
  refine ⟨fun c j v hF => ?_, fun b k hb => ?_, h.sep, h.dom⟩
  · obtain ⟨arr, el, fr, hh, hv⟩ := h.mem c j v hF
    exact ⟨arr, el, fr, by rw [hc c (.inl ⟨_, _, _, hh⟩)]; exact hh, hv⟩
  · have hB := h.blk b k hb
    refine ⟨hB.uni, ?_⟩
    rcases hB.at_ with h0 | ⟨h0, h1, c, cap, h2, arr, el, hheap, h3⟩ | ⟨h0, h1, l, c, cap, h2, h3, es, cl, hheap, h4⟩
    · exact .inl h0
    · exact .inr (.inl ⟨h0, h1, c, cap, h2, arr, el, by rw [hc c (.inl ⟨_, _, _, hheap⟩)]; exact hheap, h3⟩)
    · exact .inr (.inr ⟨h0, h1, l, c, cap, h2, h3, es, cl, by rw [hc c (.inr ⟨_, _, hheap⟩)]; exact hheap, h4⟩)
theorem step_take {fr : Frame} {D : Nat} {ds : List Deferred} (hm : fr.mode = .returning) (hd : fr.defers = { target := .collected D, args := #[] } :: ds) (hD : w.heap[D]? = some (.deferred (some []))) :
    ∃ w2, step P (lone fr cs w) = .next (lone { fr with defers := ds } cs w2) ∧ w2.heap.size = w.heap.size ∧ (∀ c, c ≠ D → w2.heap[c]? = w.heap[c]?) ∧ w2.os = w.os ∧ w2.tape = w.tape ∧ w2.output = w.output := by
  have hrun := run_takeDeferred (P := P) hD
  refine ⟨w.putObj D (.deferred none), step_lone_go (by simp [stepG, unwind, hm, hd, Sem.runT_eq, hrun, GStep.bare_after]), ?_, fun c hc => ?_, rfl, rfl, rfl⟩
  · simp [World.putObj]
  · exact World.putObj_heap_other hc
theorem steps_take : ∀ (l : List Nat) (fr : Frame) (w : World), fr.mode = .returning → fr.defers = l.map (fun D => { target := .collected D, args := #[] }) → l.Nodup → (∀ D ∈ l, w.heap[D]? = some (.deferred (some []))) →
    ∃ w2, Steps P (lone fr cs w) (lone { fr with defers := [] } cs w2) ∧ w2.heap.size = w.heap.size ∧ (∀ c, c ∉ l → w2.heap[c]? = w.heap[c]?) ∧ w2.os = w.os ∧ w2.tape = w.tape ∧ w2.output = w.output
  | [], fr, w, hm, hd, _, _ => by
    refine ⟨w, ?_, rfl, fun _ _ => rfl, rfl, rfl, rfl⟩
    have : { fr with defers := [] } = fr := by cases fr; simp_all
    rw [this]; exact .refl P _
  | D :: l, fr, w, hm, hd, hn, hD => by
    rw [List.nodup_cons] at hn
    obtain ⟨w1, h1, h2, h3, h4, h5, h6⟩ := step_take (P := P) (cs := cs) (w := w) hm (by simpa using hd) (hD D (by simp))
    obtain ⟨w2, g1, g2, g3, g4, g5, g6⟩ := steps_take l { fr with defers := l.map (fun D => { target := .collected D, args := #[] }) } w1 hm rfl hn.2 (fun D' hD' => by
      rw [h3 D' (by rintro rfl; exact hn.1 hD')]; exact hD D' (by simp [hD']))
    refine ⟨w2, .head h1 g1, by rw [g2, h2], fun c hc => ?_, by rw [g4, h4], by rw [g5, h5], by rw [g6, h6]⟩
    simp only [List.mem_cons, not_or] at hc
    rw [g3 c hc.2, h3 c hc.1]
theorem sound_enter {T : Kn} {f : FuncId} {c : Code} {args : List PV} {r : PV} (hf : P.funcs[f]? = some fn) (hb : fn.body = some c)
    (ih : Sound P T (.run fn (max args.length fn.ntmps) H.length false [.code c] (argEnv args) H (.ret r) H')) : Sound P T (.callH f args H r H') := by
  intro φ F w vs hT h hargs cs
  let b : Frame := { (default : Frame) with fn := f, kind := .normal, roundOf := none }
  have henter : Frame.enter P f vs .normal = b.atR { tmps := vs ++ Array.replicate (fn.ntmps - vs.size) undef, defers := [] } [.code c] := by
    simp [Frame.enter, Frame.atR, hf, hb, b]
  have hreps : Reps φ F (argEnv args) { tmps := vs ++ Array.replicate (fn.ntmps - vs.size) undef, defers := [] } := by
    intro t
    unfold argEnv
    rcases Nat.lt_or_ge t args.length with ht | ht
    · have hv : t < vs.size := by rw [← hargs.1]; exact ht
      have := hargs.2 t args[t] vs[t] (by simp [ht]) (by simp [hv])
      have e1 : args.getD t .undef = args[t] := by simp [ht]
      have e2 : (vs ++ Array.replicate (fn.ntmps - vs.size) undef).getD t undef = vs[t] := by
        simp [Array.getD_eq_getD_getElem?, Array.getElem?_append, hv]
      simp only [e1, e2]; exact this
    · have e1 : args.getD t .undef = .undef := by simp [List.getD_eq_getElem?_getD, List.getElem?_eq_none ht]
      rw [e1]; exact .imm (.undef _)
  have hends := ih φ F w { tmps := vs ++ Array.replicate (fn.ntmps - vs.size) undef, defers := [] } b cs w.heap.size rfl ⟨[], rfl, List.nodup_nil, by simp⟩ (Nat.le_refl _) (by simp [hargs.1]; omega) hT h hreps
  obtain ⟨w', a', t, φ', F', e', hsteps, ⟨l, hl, hnd, hD⟩, hsz, hr', hres, hpost⟩ := hends
  have hp := hpost.toPost h
  obtain ⟨w2, g1, g2, g3, g4, g5, g6⟩ := steps_take (P := P) (cs := cs) l { b.atR a' t with mode := .returning } w' rfl hl hnd (fun D h => (hD D h).2)
  have hother : ∀ c : Nat, ((∃ arr el fr, w'.heap[c]? = some (Obj.cells arr el fr)) ∨ ∃ es cl, w'.heap[c]? = some (Obj.map es cl)) → w2.heap[c]? = w'.heap[c]? := by
    intro c hc
    refine g3 c fun hcl => ?_
    have := (hD c hcl).2
    rcases hc with ⟨arr, el, fr, hc⟩ | ⟨es, cl, hc⟩ <;> (rw [this] at hc; cases hc)
  have hr2 : HR φ' F' H' w2 := hp.hr.other hother
  obtain ⟨v, hv, hrep⟩ := results_ok hr2 hr' hres
  refine ⟨.returned v, w2, { b.atR a' t with mode := .returning, defers := [] }, ⟨v, φ', F', rfl, hrep, ⟨hp.place, hp.mem, hr2, ⟨by rw [g4]; exact hp.keeps.os, by rw [g5]; exact hp.keeps.tape, by rw [g6]; exact hp.keeps.output, by rw [g2]; exact hp.keeps.size, fun c hc hn => ?_⟩, hp.later, hp.fresh⟩⟩, ?_, rfl, ?_⟩
  · rw [g3 c (fun hcl => ?_)]
    · exact hp.keeps.old c hc hn
    · have := (hD c hcl).1; omega
  · rw [henter]; exact hsteps.trans g1
  · exact ⟨rfl, rfl, rfl, fn, hf, hv⟩
theorem sound {T : Kn} (hm : P.follows .mixedOrders = true) {X : FuncId → List PV → Heap → PV → Heap → Prop} (hX : ∀ f args H r H', X f args H r H' → SoundCall P T f args H r H') {j : J} (hd : D P X j) : Sound P T j := by
  induction hd with
  | skip _ ih => exact fun φ F w a b cs n0 h1 h2 h3 h4 hT h5 h6 => .of_steps (.one stepR_skip) (ih φ F w a b cs n0 h1 h2 h3 h4 hT h5 h6)
  | label _ ih => exact fun φ F w a b cs n0 h1 h2 h3 h4 hT h5 h6 => .of_steps (.one stepR_label) (ih φ F w a b cs n0 h1 h2 h3 h4 hT h5 h6)
  | seq _ ih => exact fun φ F w a b cs n0 h1 h2 h3 h4 hT h5 h6 => .of_steps (.one stepR_seq) (ih φ F w a b cs n0 h1 h2 h3 h4 hT h5 h6)
  | @cond fn N M rd c x y k e H O H' t hc _ ih =>
    intro φ F w a b cs n0 h1 h2 h3 h4 hT h5 h6
    have hv := h6.ev c
    rw [hc] at hv
    exact .of_steps (.one (stepR_cond hv.val_inv)) (ih φ F w a b cs n0 h1 h2 h3 h4 hT h5 h6)
  | block _ ih => exact fun φ F w a b cs n0 h1 h2 h3 h4 hT h5 h6 => .of_steps (.one stepR_block) (ih φ F w a b cs n0 h1 h2 h3 h4 hT h5 h6)
  | inBlock _ ih => exact fun φ F w a b cs n0 h1 h2 h3 h4 hT h5 h6 => .of_steps (.one stepR_inBlock) (ih φ F w a b cs n0 h1 h2 h3 h4 hT h5 h6)
  | loop _ ih => exact fun φ F w a b cs n0 h1 h2 h3 h4 hT h5 h6 => .of_steps (.one stepR_loop) (ih φ F w a b cs n0 h1 h2 h3 h4 hT h5 h6)
  | inLoop _ ih => exact fun φ F w a b cs n0 h1 h2 h3 h4 hT h5 h6 => .of_steps (.one stepR_inLoop) (ih φ F w a b cs n0 h1 h2 h3 h4 hT h5 h6)
  | exit hk _ ih => exact fun φ F w a b cs n0 h1 h2 h3 h4 hT h5 h6 => .of_steps (.one (stepR_exit hk)) (ih φ F w a b cs n0 h1 h2 h3 h4 hT h5 h6)
  | exitOut hk => exact fun φ F w a b cs n0 h1 h2 h3 h4 hT h5 h6 => ⟨w, a, _, φ, F, .refl P _, fun id hid => by cases hid; exact hk, (Post.refl h5).toM _⟩
  | ret hr =>
    intro φ F w a b cs n0 h1 h2 h3 h4 hT h5 h6
    exact ⟨w, a, _, φ, F, _, .one (stepR_ret (by simpa using h1)), h2, h4, h6, hr, (Post.refl h5).toM _⟩
  | retOut => exact fun φ F w a b cs n0 h1 h2 h3 h4 hT h5 h6 => ⟨w, a, _, φ, F, .refl P _, fun id hid => (by cases hid), (Post.refl h5).toM _⟩
  | done hr =>
    intro φ F w a b cs n0 h1 h2 h3 h4 hT h5 h6
    exact ⟨w, a, _, φ, F, _, .one (stepR_end (by simpa using h1)), h2, h4, h6, hr, (Post.refl h5).toM _⟩
  | fall => exact fun φ F w a b cs n0 h1 h2 h3 h4 hT h5 h6 => ⟨w, a, φ, F, .refl P _, (Post.refl h5).toM _⟩
  | @region fn N M rd id ops draw k e H e1 H1 O H' hd _ _ ih1 ih2 =>
    intro φ F w a b cs n0 h1 h2 h3 h4 hT h5 h6
    have hw := ih1 hd φ F w a b.roundOf (fun ex a' w' => ex = .normal ∧ ∃ φ' F', a'.defers = a.defers ∧ a'.tmps.size = N ∧ Reps φ' F' e1 a' ∧ Post φ F H w φ' F' H1 w') id h4 hT h5 h6 fun φ' F' w' a' g1 g2 g3 g4 => ⟨rfl, φ', F', g1, g2, g3, g4⟩
    obtain ⟨ex, a', w', ⟨rfl, φ', F', g1, g2, g3, g4⟩, harr⟩ := hw b k cs rfl trivial (fun _ h => by cases h)
    have hs : Steps P (lone (b.atR a (.code (.region id ops draw) :: k)) cs w) (lone (b.atR a' k) cs w') := StepsIn.steps harr
    exact .of_steps hs (.of_post (g4.toM M) (ih2 φ' F' w' a' b cs n0 h1 (by rw [g1]; exact h2.keep h5 (g4.toM M)) (Nat.le_trans h3 g4.keeps.size) g2 (T.up _ _ g4.mem hT) g4.hr g3))
  | @room fn N M rd k e H O H' sz _ ih =>
    intro φ F w a b cs n0 h1 h2 h3 h4 hT h5 h6
    have hp := room_post h5 M sz
    exact .of_post hp (ih φ F w a b cs n0 h1 h2 h3 h4 hT hp.hr h6)
  | @keep fn N M rd k e e1 H H1 O H' bs hM hnd he hH _ ih =>
    intro φ F w a b cs n0 h1 h2 h3 h4 hT h5 h6
    have hp := keep_post h5 hM hnd hH
    exact .of_post hp (ih _ _ w a b cs n0 h1 h2 h3 h4 (T.up _ _ hp.mem hT) hp.hr (env_conv h5 (Map.keep_on hnd) he h6))
  | reg _ ih => exact sound_reg ih
  | draw es Hs A hb hA he hH _ he1 hH1 ih => exact sound_draw hm es Hs A hb hA he hH ih he1 hH1
  | nil0 => exact fun _ φ F w a R Q K hN _ h hr hK => hK φ F w a rfl hN hr (.refl h)
  | nil h hH => exact sound_nil h hH
  | no hw _ ih => exact sound_no hw ih
  | op tgt hw ho _ ih => exact sound_op hw ho ih
  | callI hw hf _ _ ih1 ih2 => exact sound_callI hw hf ih1 ih2
  | focus bs ls ts fz ha hH0 hnd hls hts _ hr hd hdl hfz hH1 ih => exact sound_focus ha hH0 hnd hls hts ih hr hd hdl hfz hH1
  | nilQ pre post _ ih =>
    intro φ F w vs hT hH hargs
    obtain ⟨z, k, h⟩ := hargs.nil
    exact ih z k φ F w vs hT hH h
  | ext h => exact hX _ _ _ _ _ h
  | callH hf hb _ ih => exact sound_enter hf hb ih
end Go.RM
namespace Go.RM
set_option linter.unusedVariables false
set_option linter.unusedSimpArgs false
section
variable {P : Program} {e : Env} {d : Option Tmp} {x y c z f : Operand} {t u ty : TypeId} {pos : String} {af : Array Edge} {g : Option (Nat × Bool)} {H H1 : Heap} {tgt : Nat}
def bitOp (op : BinOp) (k : IntKind) (i j : Int) : Int :=
  let a := BitVec.ofInt k.bits i
  let b := BitVec.ofInt k.bits j
  k.wrap (match op with
    | .and => a &&& b
    | .or => a ||| b
    | .xor => a ^^^ b
    | _ => a &&& ~~~b).toNat
theorem mvV {v : Value} (hx : ev e x = .val v) : aop P e ⟨d, .move x, ty, pos, af, g⟩ H tgt = some (.val v, H) := by simp [aop, hx]
theorem mvR {es : List (List PV)} (hx : ev e x = .rows es) : aop P e ⟨d, .move x, ty, pos, af, g⟩ H tgt = some (.rows es, H) := by simp [aop, hx]
theorem mvO {b n : Nat} (hx : ev e x = .own b n) : aop P e ⟨d, .move x, ty, pos, af, g⟩ H tgt = some (.own b n, H) := by simp [aop, hx]
theorem mvF {q : FuncId} {cs : List PV} (hx : ev e x = .clo q cs) : aop P e ⟨d, .move x, ty, pos, af, g⟩ H tgt = some (.clo q cs, H) := by simp [aop, hx]
theorem mvT {cs : List PV} (hx : ev e x = .tuple cs) : aop P e ⟨d, .move x, ty, pos, af, g⟩ H tgt = some (.tuple cs, H) := by simp [aop, hx]
theorem asV {v : Value} (hx : ev e x = .val v) : aop P e ⟨d, .assign x, ty, pos, af, g⟩ H tgt = some (.val v, H) := by simp [aop, hx]
theorem asR {es : List (List PV)} (hx : ev e x = .rows es) : aop P e ⟨d, .assign x, ty, pos, af, g⟩ H tgt = some (.rows es, H) := by simp [aop, hx]
theorem asO {b n : Nat} (hx : ev e x = .own b n) : aop P e ⟨d, .assign x, ty, pos, af, g⟩ H tgt = some (.own b n, H) := by simp [aop, hx]
theorem pkTV {B : Bool} {v : Value} (hc : ev e c = .val (.bool B)) (hB : B = true) (hx : ev e x = .val v) : aop P e ⟨d, .pick c x y, ty, pos, af, g⟩ H tgt = some (.val v, H) := by simp [aop, hc, hB, hx]
theorem pkFV {B : Bool} {v : Value} (hc : ev e c = .val (.bool B)) (hB : B = false) (hx : ev e y = .val v) : aop P e ⟨d, .pick c x y, ty, pos, af, g⟩ H tgt = some (.val v, H) := by simp [aop, hc, hB, hx]
theorem quietly_bind {α β : Type} (s : Sem α) (f : α → Sem β) : quietly P (s >>= f) = (quietly P s).bind fun a => quietly P (f a) := by
  show quietly P (s.bind f) = _
  induction s with
  | pure a => rfl
  | program k ih => exact ih P
  | _ => rfl
theorem quietly_pure {α : Type} (a : α) : quietly P (pure a : Sem α) = some a := rfl
theorem generic_int {op : BinOp} {k : IntKind} {i j : Int} {v : Value} (hx : ev e x = .val (.int k i)) (hy : ev e y = .val (.int k j)) (hv : quietly P (binOp op t (.int k i) (.int k j)) = some v) :
    generic P e ⟨d, .binOp op t x y u, ty, pos, af, g⟩ H = some (ofV v, H) := by
  have hg : eqGuard op t x y (.int k i) (.int k j) = pure () := by unfold eqGuard; split <;> rfl
  have h2 : quietly P (execOp (fun z => (toV? (ev e z)).getD undef) ⟨d, .binOp op t x y u, ty, pos, af, g⟩) = some (.value v) := by
    show quietly P (do let a ← (do eqGuard op t x y _ _; binOp op t _ _); pure (Next.value a)) = _
    simp only [hx, hy, toV?, Option.getD_some]
    rw [hg, quietly_bind, quietly_bind, quietly_pure]
    simp only [Option.bind_some, hv, quietly_pure]
  unfold generic
  rw [if_pos (by simp [Op.operands, hx, hy, toV?]), h2]
theorem aop_int {op : BinOp} {k : IntKind} {i j : Int} {v : Value} (hx : ev e x = .val (.int k i)) (hy : ev e y = .val (.int k j)) (hv : quietly P (binOp op t (.int k i) (.int k j)) = some v) :
    aop P e ⟨d, .binOp op t x y u, ty, pos, af, g⟩ H tgt = some (ofV v, H) := by
  have hn : isNil (P.underlying t) (.val (.int k i)) = none := by
    unfold isNil; split <;> simp_all
  have := generic_int (P := P) (d := d) (t := t) (u := u) (ty := ty) (pos := pos) (af := af) (g := g) (H := H) hx hy hv
  cases op <;> simp only [aop, hx, hn] <;> exact this
theorem addI {k : IntKind} {i j : Int} (hx : ev e x = .val (.int k i)) (hy : ev e y = .val (.int k j)) : aop P e ⟨d, .binOp .add t x y u, ty, pos, af, g⟩ H tgt = some (.val (.int k (k.wrap (i + j))), H) := aop_int (op := .add) (v := .int k (k.wrap (i + j))) hx hy (by simp [binOp, Op.intArith, Op.intCmp, quietly_pure])
theorem subI {k : IntKind} {i j : Int} (hx : ev e x = .val (.int k i)) (hy : ev e y = .val (.int k j)) : aop P e ⟨d, .binOp .sub t x y u, ty, pos, af, g⟩ H tgt = some (.val (.int k (k.wrap (i - j))), H) := aop_int (op := .sub) (v := .int k (k.wrap (i - j))) hx hy (by simp [binOp, Op.intArith, Op.intCmp, quietly_pure])
theorem eqI {k : IntKind} {i j : Int} (hx : ev e x = .val (.int k i)) (hy : ev e y = .val (.int k j)) : aop P e ⟨d, .binOp .eql t x y u, ty, pos, af, g⟩ H tgt = some (.val (.bool (i == j)), H) := aop_int (op := .eql) (v := .bool (i == j)) hx hy (by simp [binOp, Op.intArith, Op.intCmp, quietly_pure])
theorem neI {k : IntKind} {i j : Int} (hx : ev e x = .val (.int k i)) (hy : ev e y = .val (.int k j)) : aop P e ⟨d, .binOp .neq t x y u, ty, pos, af, g⟩ H tgt = some (.val (.bool (i != j)), H) := aop_int (op := .neq) (v := .bool (i != j)) hx hy (by simp [binOp, Op.intArith, Op.intCmp, quietly_pure])
theorem ltI {k : IntKind} {i j : Int} (hx : ev e x = .val (.int k i)) (hy : ev e y = .val (.int k j)) : aop P e ⟨d, .binOp .lss t x y u, ty, pos, af, g⟩ H tgt = some (.val (.bool (decide (i < j))), H) := aop_int (op := .lss) (v := .bool (decide (i < j))) hx hy (by simp [binOp, Op.intArith, Op.intCmp, quietly_pure])
theorem leI {k : IntKind} {i j : Int} (hx : ev e x = .val (.int k i)) (hy : ev e y = .val (.int k j)) : aop P e ⟨d, .binOp .leq t x y u, ty, pos, af, g⟩ H tgt = some (.val (.bool (decide (i ≤ j))), H) := aop_int (op := .leq) (v := .bool (decide (i ≤ j))) hx hy (by simp [binOp, Op.intArith, Op.intCmp, quietly_pure])
theorem gtI {k : IntKind} {i j : Int} (hx : ev e x = .val (.int k i)) (hy : ev e y = .val (.int k j)) : aop P e ⟨d, .binOp .gtr t x y u, ty, pos, af, g⟩ H tgt = some (.val (.bool (decide (i > j))), H) := aop_int (op := .gtr) (v := .bool (decide (i > j))) hx hy (by simp [binOp, Op.intArith, Op.intCmp, quietly_pure])
theorem geI {k : IntKind} {i j : Int} (hx : ev e x = .val (.int k i)) (hy : ev e y = .val (.int k j)) : aop P e ⟨d, .binOp .geq t x y u, ty, pos, af, g⟩ H tgt = some (.val (.bool (decide (i ≥ j))), H) := aop_int (op := .geq) (v := .bool (decide (i ≥ j))) hx hy (by simp [binOp, Op.intArith, Op.intCmp, quietly_pure])
theorem andI {k : IntKind} {i j : Int} (hx : ev e x = .val (.int k i)) (hy : ev e y = .val (.int k j)) : aop P e ⟨d, .binOp .and t x y u, ty, pos, af, g⟩ H tgt = some (.val (.int k (bitOp .and k i j)), H) := aop_int (op := .and) (v := .int k (bitOp .and k i j)) hx hy (by simp [binOp, Op.intBits, bitOp, quietly_pure])
theorem orI {k : IntKind} {i j : Int} (hx : ev e x = .val (.int k i)) (hy : ev e y = .val (.int k j)) : aop P e ⟨d, .binOp .or t x y u, ty, pos, af, g⟩ H tgt = some (.val (.int k (bitOp .or k i j)), H) := aop_int (op := .or) (v := .int k (bitOp .or k i j)) hx hy (by simp [binOp, Op.intBits, bitOp, quietly_pure])
theorem andNotI {k : IntKind} {i j : Int} (hx : ev e x = .val (.int k i)) (hy : ev e y = .val (.int k j)) : aop P e ⟨d, .binOp .andNot t x y u, ty, pos, af, g⟩ H tgt = some (.val (.int k (bitOp .andNot k i j)), H) := aop_int (op := .andNot) (v := .int k (bitOp .andNot k i j)) hx hy (by simp [binOp, Op.intBits, bitOp, quietly_pure])
end
end Go.RM
namespace Go.RM
set_option linter.unusedVariables false
set_option linter.unusedSimpArgs false
set_option linter.unusedSectionVars false
def rdl {α : Type} [Inhabited α] (l : List α) (i : Int) : α := l.getD i.toNat default
theorem rdl_get {α : Type} [Inhabited α] {l : List α} {i : Int} (h0 : 0 ≤ i) (h1 : i < l.length) : l[i.toNat]? = some (rdl l i) := by
  have : i.toNat < l.length := by omega
  simp [rdl, this]
def setl {α : Type} (l : List α) (i : Int) (a : α) : List α := l.set i.toNat a
def cutl {α : Type} (l : List α) (i j : Int) : List α := (l.drop i.toNat).take (j.toNat - i.toNat)
structure SlT (P : Program) (t : TypeId) (s B : Nat) {α : Type} (c : α → List PV) : Prop where
  ex : ∃ el i z, P.underlying t = some (.slice el) ∧ P.info? el = some i ∧ i.size = s ∧ i.bytes = B ∧ i.zero = some z ∧ z.cells.size = s
  pos : 0 < s
  bpos : 0 < B
  len : ∀ a, (c a).length = s
  free : ∀ a, (c a).all (PV.free deep) = true
  one : ∀ a, (c a).all PV.one = true
theorem SlT.of {P : Program} {t el : TypeId} {s B : Nat} {α : Type} {c : α → List PV} {i : TypeInfo} {z : Value} (h1 : P.underlying t = some (.slice el)) (h2 : P.info? el = some i) (h3 : i.size = s) (h4 : i.bytes = B) (h5 : i.zero = some z) (h6 : z.cells.size = s)
    (pos : 0 < s) (bpos : 0 < B) (h : ∀ a, (c a).length = s ∧ (c a).all (PV.free deep) = true ∧ (c a).all PV.one = true) : SlT P t s B c := ⟨⟨el, i, z, h1, h2, h3, h4, h5, h6⟩, pos, bpos, fun a => (h a).1, fun a => (h a).2.1, fun a => (h a).2.2⟩
theorem SlT.of2 {P : Program} {t el : TypeId} {s B : Nat} {α : Type} {c : α → List PV} (h1 : P.underlying t = some (.slice el)) (h2 : ((P.info? el).map fun i => (i.size, i.bytes, i.zero.map (·.cells.size))) = some (s, B, some s))
    (pos : 0 < s) (bpos : 0 < B) (h : ∀ a, (c a).length = s ∧ (c a).all (PV.free deep) = true ∧ (c a).all PV.one = true) : SlT P t s B c := by
  simp only [Option.map_eq_some_iff, Prod.mk.injEq] at h2
  obtain ⟨i, hi, h3, h4, z, h5, h6⟩ := h2
  exact SlT.of h1 hi h3 h4 h5 h6 pos bpos h
theorem SlT.sizeOf {P : Program} {t s B : Nat} {α : Type} {c : α → List PV} (h : SlT P t s B c) : ∃ el, P.underlying t = some (.slice el) ∧ sizeOf? P el = some s := by
  obtain ⟨el, i, z, h1, h2, h3, -⟩ := h.ex
  exact ⟨el, h1, by simp [sizeOf?, h2, h3]⟩
def placesOf (P : Program) (t : TypeId) : Option (List (Nat × Nat)) := match P.underlying t with
  | some (.struct fs) => omap (fun (f : Field) => (sizeOf? P f.type).map fun s => (f.offset, s)) fs.toList
  | _ => none
def fieldAt? (P : Program) (t : TypeId) (f : Nat) : Option Nat := (fieldOf P t f).bind fun d => if sizeOf? P d.2 = some 0 ∨ sizeOf? P d.2 = none then none else some d.1
section
variable {P : Program} {e : Env} {d : Option Tmp} {x y c z f : Operand} {t u ty : TypeId} {pos : String} {af : Array Edge} {g : Option (Nat × Bool)} {H H1 : Heap} {tgt : Nat}
variable {b n sz i off s B fr : Nat} {p : PV} {α : Type} [Inhabited α] {cf lit : α → List PV} {l m : List α} {a : α} {k : IntKind} {j : Int}
theorem notB {v : Bool} (hx : ev e x = .val (.bool v)) : aop P e ⟨d, .unOp .not t x, ty, pos, af, g⟩ H tgt = some (.val (.bool (!v)), H) := by
  simp [aop, generic, Op.operands, hx, toV?, execOp, Op.unary, quietly_bind, quietly_pure, ofV]
theorem run_quiet_und {d : TypeDesc} (h : P.underlying t = some d) : quietly P (underlying t) = some d := by
  simp [underlying, h, quietly_bind, quietly_pure, quietly, Bind.bind, Sem.bind, program]
theorem shift_int {op : BinOp} {k' : IntKind} {j' : Int} {v : Value} (hop : op = .shl ∨ op = .shr) (hx : ev e x = .val (.int k j)) (hy : ev e y = .val (.int k' j')) (hv : quietly P (Op.shift op k j k' j') = some v) :
    aop P e ⟨d, .binOp op t x y u, ty, pos, af, g⟩ H tgt = some (ofV v, H) := by
  have hg : eqGuard op t x y (.int k j) (.int k' j') = pure () := by unfold eqGuard; split <;> rfl
  have hb : binOp op t (.int k j) (.int k' j') = Op.shift op k j k' j' := by rcases hop with rfl | rfl <;> rfl
  have h2 : quietly P (execOp (fun z => (toV? (ev e z)).getD undef) ⟨d, .binOp op t x y u, ty, pos, af, g⟩) = some (.value v) := by
    show quietly P (do let a ← (do eqGuard op t x y _ _; binOp op t _ _); pure (Next.value a)) = _
    simp only [hx, hy, toV?, Option.getD_some]
    rw [hg, hb, quietly_bind, quietly_bind, quietly_pure]
    simp only [Option.bind_some, hv, quietly_pure]
  have h3 : generic P e ⟨d, .binOp op t x y u, ty, pos, af, g⟩ H = some (ofV v, H) := by
    unfold generic
    rw [if_pos (by simp [Op.operands, hx, hy, toV?]), h2]
  rcases hop with rfl | rfl <;> exact h3
def shlI (k : IntKind) (i j : Int) : Int := k.wrap (i * 2 ^ (min j.toNat k.bits))
def shrI (k : IntKind) (i j : Int) : Int := i.fdiv (2 ^ (min j.toNat k.bits))
theorem shl_ {k' : IntKind} {j' : Int} (hx : ev e x = .val (.int k j)) (hy : ev e y = .val (.int k' j')) (h0 : 0 ≤ j') : aop P e ⟨d, .binOp .shl t x y u, ty, pos, af, g⟩ H tgt = some (.val (.int k (shlI k j j')), H) :=
  shift_int (v := .int k (shlI k j j')) (.inl rfl) hx hy (by simp [Op.shift, show ¬ j' < 0 by omega, quietly_pure, shlI])
theorem shr_ {k' : IntKind} {j' : Int} (hx : ev e x = .val (.int k j)) (hy : ev e y = .val (.int k' j')) (h0 : 0 ≤ j') : aop P e ⟨d, .binOp .shr t x y u, ty, pos, af, g⟩ H tgt = some (.val (.int k (shrI k j j')), H) :=
  shift_int (v := .int k (shrI k j j')) (.inr rfl) hx hy (by simp [Op.shift, show ¬ j' < 0 by omega, quietly_pure, shrI])

theorem ldP {o : Nat} (hx : ev e x = .ptr b n sz i o) (hs : sizeOf? P t = some 1) (hg : isAgg? P t = some false) (hr : rd H (.ptr b n sz i o) 1 = some [p]) : aop P e ⟨d, .load t x, ty, pos, af, g⟩ H tgt = some (p, H) := by
  simp [aop, hs, hg, hx, hr, asVar]
theorem ldG {cs : List PV} {o : Nat} (hx : ev e x = .ptr b n sz i o) (hs : sizeOf? P t = some s) (hg : isAgg? P t = some true) (hr : rd H (.ptr b n sz i o) s = some cs) : aop P e ⟨d, .load t x, ty, pos, af, g⟩ H tgt = some (.agg cs, H) := by
  simp [aop, hs, hg, hx, hr, asVar]
theorem ldC {cs : List PV} {o : Nat} (hx : ev e x = .cptr cs o) (hs : sizeOf? P t = some 1) (hg : isAgg? P t = some false) (hr : rd H (.cptr cs o) 1 = some [p]) : aop P e ⟨d, .load t x, ty, pos, af, g⟩ H tgt = some (p, H) := by
  simp [aop, hs, hg, hx, hr, asVar]
theorem ldCG {cs ds : List PV} {o : Nat} (hx : ev e x = .cptr cs o) (hs : sizeOf? P t = some s) (hg : isAgg? P t = some true) (hr : rd H (.cptr cs o) s = some ds) : aop P e ⟨d, .load t x, ty, pos, af, g⟩ H tgt = some (.agg ds, H) := by
  simp [aop, hs, hg, hx, hr, asVar]
theorem rd_own {o size : Nat} (hb : H[b]? = some ⟨sz, l.map cf, fr, none⟩) (hn : n = l.length) (hlen : ∀ a, (cf a).length = sz) (h0 : 0 ≤ j) (h1 : j < l.length) (ho : o + size ≤ sz) (hlit : cf (rdl l j) = lit (rdl l j)) :
    rd H (.ptr b n sz j.toNat o) size = some (((lit (rdl l j)).drop o).take size) := by
  have hi : (l.map cf)[j.toNat]? = some (lit (rdl l j)) := by rw [List.getElem?_map, rdl_get h0 h1, Option.map_some, hlit]
  simp only [rd, hb, Option.bind_some, List.length_map]
  rw [if_pos ⟨hn.symm, trivial, ho⟩, hi]; rfl
theorem ldO {o : Nat} (hT : SlT P u sz B cf) (hx : ev e x = .ptr b n sz j.toNat o) (hs : sizeOf? P t = some 1) (hg : isAgg? P t = some false) (hb : H[b]? = some ⟨sz, l.map cf, fr, none⟩) (hn : n = l.length) (hlit : ∀ a, cf a = lit a) (h0 : 0 ≤ j) (h1 : j < l.length) (ho : o + 1 ≤ sz)
    (hr : ((lit (rdl l j)).drop o).take 1 = [p]) : aop P e ⟨d, .load t x, ty, pos, af, g⟩ H tgt = some (p, H) :=
  ldP hx hs hg (by rw [rd_own hb hn hT.len h0 h1 ho (hlit _), hr])
theorem faP {o o' q : Nat} (hf : fieldAt? P t q = some o') (hx : ev e x = .ptr b n sz i o) : aop P e ⟨d, .fieldAddr t x q, ty, pos, af, g⟩ H tgt = some (.ptr b n sz i (o + o'), H) := by
  unfold fieldAt? at hf
  simp only [Option.bind_eq_some_iff] at hf
  obtain ⟨dd, h1, h2⟩ := hf
  split at h2
  · cases h2
  · rename_i h3; cases h2; simp [aop, h1, h3, hx]
theorem faC {o o' q : Nat} {cs : List PV} (hf : fieldAt? P t q = some o') (hx : ev e x = .cptr cs o) : aop P e ⟨d, .fieldAddr t x q, ty, pos, af, g⟩ H tgt = some (.cptr cs (o + o'), H) := by
  unfold fieldAt? at hf
  simp only [Option.bind_eq_some_iff] at hf
  obtain ⟨dd, h1, h2⟩ := hf
  split at h2
  · cases h2
  · rename_i h3; cases h2; simp [aop, h1, h3, hx]
theorem exT {q : Nat} {cs : List PV} (hx : ev e x = .tuple cs) (hi : cs[q]? = some p) : aop P e ⟨d, .extract x q, ty, pos, af, g⟩ H tgt = some (p, H) := by simp [aop, hx, hi]
theorem mkF {q : FuncId} {cs : Array Operand} {ps : List PV} (hp : cs.toList.map (ev e) = ps) : aop P e ⟨d, .makeFunc (.func q) #[] cs, ty, pos, af, g⟩ H tgt = some (.clo q ps, H) := by simp [aop, hp]

theorem ixR (hT : SlT P t s B cf) (hx : ev e x = .rows (l.map cf)) (hy : ev e y = .val (.int k j)) (hlit : ∀ a, cf a = lit a) (h0 : 0 ≤ j) (h1 : j < l.length) : aop P e ⟨d, .indexAddr t x y, ty, pos, af, g⟩ H tgt = some (.cptr (lit (rdl l j)) 0, H) := by
  obtain ⟨el, hu, hs⟩ := hT.sizeOf
  have hi : (l.map cf)[j.toNat]? = some (lit (rdl l j)) := by rw [List.getElem?_map, rdl_get h0 h1, Option.map_some, hlit]
  have hl : (lit (rdl l j)).length = s := by rw [← hlit]; exact hT.len _
  have hd : doIndexAddr P t (.rows (l.map cf)) (.val (.int k j)) H = some (.cptr (lit (rdl l j)) 0) := by
    simp only [doIndexAddr, hu, h0, if_true, hi, Option.bind_some, hs, hl]
  simp only [aop, hx, hy, hd, Option.map_some]
theorem ixO (hT : SlT P t s B cf) (hx : ev e x = .own b n) (hy : ev e y = .val (.int k j)) (hb : H[b]? = some ⟨s, l.map cf, fr, none⟩) (hn : n = l.length) (h0 : 0 ≤ j) (h1 : j < l.length) : aop P e ⟨d, .indexAddr t x y, ty, pos, af, g⟩ H tgt = some (.ptr b n s j.toNat 0, H) := by
  obtain ⟨el, hu, hs⟩ := hT.sizeOf
  subst hn
  have hd : doIndexAddr P t (.own b l.length) (.val (.int k j)) H = some (.ptr b l.length s j.toNat 0) := by
    simp [doIndexAddr, hu, h0, h1, hb, hs]
  simp only [aop, hx, hy, hd, Option.map_some]

theorem lnR (hT : SlT P t s B cf) (hx : ev e x = .rows (l.map cf)) : aop P e ⟨d, .call ⟨.builtin .len, #[x], #[t]⟩, ty, pos, af, g⟩ H tgt = some (.val (.int .i64 l.length), H) := by
  obtain ⟨el, hu, hs⟩ := hT.sizeOf
  simp [aop, hu, hx, elems]
theorem lnO (hT : SlT P t s B cf) (hx : ev e x = .own b n) (hb : H[b]? = some ⟨s, l.map cf, fr, none⟩) (hn : n = l.length) : aop P e ⟨d, .call ⟨.builtin .len, #[x], #[t]⟩, ty, pos, af, g⟩ H tgt = some (.val (.int .i64 l.length), H) := by
  obtain ⟨el, hu, hs⟩ := hT.sizeOf
  simp [aop, hu, hx, elems, hb, hn]

theorem bound_none {v : Nat} : bound none v = some v := rfl
theorem bound_some {q : Operand} {v : Nat} (hq : ev e q = .val (.int k j)) (h0 : 0 ≤ j) : bound ((some q).map (ev e)) v = some j.toNat := by simp [bound, hq, h0]
theorem cut_all (hT : SlT P t s B cf) : ((l.map cf).all fun x => x.length == s) = true := by
  rw [List.all_eq_true]; intro x hx; obtain ⟨a, -, rfl⟩ := List.mem_map.1 hx; simp [hT.len a]
theorem slR {lo hi : Option Operand} {h v : Nat} (hT : SlT P t s B cf) (hx : ev e x = .rows (l.map cf)) (hlo : bound (lo.map (ev e)) 0 = some v) (hhi : bound (hi.map (ev e)) (l.map cf).length = some h) (h1 : v ≤ h) (h2 : h ≤ l.length) :
    aop P e ⟨d, .slice t x lo hi none, ty, pos, af, g⟩ H tgt = some (.rows (((l.drop v).take (h - v)).map cf), H) := by
  obtain ⟨el, hu, hs⟩ := hT.sizeOf
  simp only [aop, hx, doSlice, hu, Option.map_none, bound_none, hlo, hhi, Option.bind_some, hs]
  rw [if_pos ⟨h1, by simpa using h2, Nat.le_refl _, by simp, cut_all hT⟩]
  simp [List.map_take, List.map_drop]
theorem slO {lo hi : Option Operand} {h v : Nat} (hT : SlT P t s B cf) (hx : ev e x = .own b n) (hb : H[b]? = some ⟨s, l.map cf, fr, none⟩) (hn : n = l.length) (hlo : bound (lo.map (ev e)) 0 = some v) (hhi : bound (hi.map (ev e)) n = some h) (h1 : v ≤ h) (h2 : h ≤ l.length) :
    aop P e ⟨d, .slice t x lo hi none, ty, pos, af, g⟩ H tgt = some (.rows (((l.drop v).take (h - v)).map cf), H.set b ⟨s, l.map cf, max fr h, none⟩) := by
  obtain ⟨el, hu, hs⟩ := hT.sizeOf
  have hf : ((l.map cf).all fun x => x.all (PV.free deep)) = true := by
    rw [List.all_eq_true]; intro x hx; obtain ⟨a, -, rfl⟩ := List.mem_map.1 hx; exact hT.free a
  subst hn
  simp only [aop, hx, doSlice, hu, Option.map_none, hb, hlo, hhi, Option.bind_some, hs]
  rw [if_pos ⟨by simp, by simp, h1, h2, trivial, by simp, hf⟩]
  simp [List.map_take, List.map_drop]

theorem elems_own (hb : H[b]? = some ⟨s, l.map cf, fr, none⟩) (hn : n = l.length) : elems H (.own b n) = some (l.map cf) := by simp [elems, hb, hn]
theorem append_spec (hT : SlT P t s B cf) {sv : PV} {news : List (List PV)} (hx : ev e x = sv) (hy : elems H (ev e y) = some news) : aop P e ⟨d, .call ⟨.builtin .append, #[x, y], #[t, t]⟩, ty, pos, af, g⟩ H tgt = doAppend P t sv news H tgt := by
  simp [aop, hx, hy]
theorem doAppend_own (hT : SlT P t s B cf) {es news : List (List PV)} (hb : H[b]? = some ⟨s, es, fr, none⟩) (hn : es.length = n) (hfr : fr ≤ n) (hl : (news.all fun x => x.length == s) = true) (hB : (n + news.length) * B ≤ 140737488355328) (hM : n + news.length ≤ maxLen) :
    doAppend P t (.own b n) news H tgt = some (.own b (n + news.length), H.set b ⟨s, es ++ news, fr, none⟩) := by
  obtain ⟨el, i, z, h1, h2, h3, h4, h5, h6⟩ := hT.ex
  have hp := hT.pos
  subst h3 h4
  simp only [doAppend, h1, h2, Option.bind_some]
  rw [if_pos ⟨hp, hl, by simp [h5], by simp [h5, h6]⟩]
  simp only [hb, Option.bind_some]
  rw [if_pos ⟨hn, trivial, rfl, hfr, hB, hM⟩]
theorem news_ok (hT : SlT P t s B cf) : ((m.map cf).all fun x => x.length == s) = true := cut_all hT
theorem ap1 (a : α) (hT : SlT P t s B cf) (hx : ev e x = .own b n) (hb : H[b]? = some ⟨s, l.map cf, fr, none⟩) (hn : n = l.length) (hfr : fr ≤ l.length) (hy : elems H (ev e y) = some [cf a]) (hB : ((l.length : Int) + 1) * B ≤ 140737488355328) :
    aop P e ⟨d, .call ⟨.builtin .append, #[x, y], #[t, t]⟩, ty, pos, af, g⟩ H tgt = some (.own b (l ++ [a]).length, H.set b ⟨s, (l ++ [a]).map cf, fr, none⟩) := by
  subst hn
  have hB' : (l.length + 1) * B ≤ 140737488355328 := by
    have e : (((l.length + 1) * B : Nat) : Int) = ((l.length : Int) + 1) * B := by simp
    omega
  have hle : l.length + 1 ≤ (l.length + 1) * B := Nat.le_mul_of_pos_right _ hT.bpos
  rw [append_spec hT hx hy, doAppend_own hT hb (by simp) hfr (by simp [hT.len]) (by exact hB') ?_]
  · simp
  · simp only [maxLen, List.length_cons, List.length_nil]; omega
theorem apL (m : List α) (hT : SlT P t s B cf) (hx : ev e x = .own b n) (hb : H[b]? = some ⟨s, l.map cf, fr, none⟩) (hn : n = l.length) (hfr : fr ≤ l.length) (hy : elems H (ev e y) = some (m.map cf)) (hB : ((l.length : Int) + m.length) * B ≤ 140737488355328) :
    aop P e ⟨d, .call ⟨.builtin .append, #[x, y], #[t, t]⟩, ty, pos, af, g⟩ H tgt = some (.own b (l ++ m).length, H.set b ⟨s, (l ++ m).map cf, fr, none⟩) := by
  subst hn
  have hB' : (l.length + m.length) * B ≤ 140737488355328 := by
    have e : (((l.length + m.length) * B : Nat) : Int) = ((l.length : Int) + m.length) * B := by simp
    omega
  have hle : l.length + m.length ≤ (l.length + m.length) * B := Nat.le_mul_of_pos_right _ hT.bpos
  rw [append_spec hT hx hy, doAppend_own hT hb (by simp) hfr (news_ok hT) (by rw [List.length_map]; exact hB') ?_]
  · simp
  · simp only [maxLen, List.length_map]; omega

theorem bldS {z cs : List PV} {places : List (Nat × Nat)} {ps : Array (Nat × Operand)} {pl : List (Nat × PV)} (hz : zero? P t = some z) (hpl : placesOf P t = some places)
    (hp : ps.toList.map (fun x => (x.1, ev e x.2)) = pl) (hf : fillP (fun i => places[i]?) z pl = some cs) : aop P e ⟨d, .build t ps, ty, pos, af, g⟩ H tgt = some (.agg cs, H) := by
  unfold placesOf at hpl
  split at hpl
  · rename_i fs hu
    simp [aop, doBuild, hz, hu, hpl, hp, hf]
  · cases hpl
theorem bldL {z cs : List PV} {ps : Array (Nat × Operand)} {pl : List (Nat × PV)} {q : Nat} {el : TypeId} (hu : P.underlying t = some (.slice el)) (hs : sizeOf? P el = some s) (hz : zero? P el = some z) (hc : 0 < s ∧ z.length = s ∧ q * s ≤ 2 ^ 24)
    (hp : ps.toList.map (fun x => (x.1, ev e x.2)) = pl) (hf : fillP (fun i => some (i * s, s)) ((List.range q).flatMap fun _ => z) pl = some cs) (ho : cs.all PV.one = true) (hH : H.fill tgt ⟨s, stripes s q cs, 0, none⟩ = some H1) :
    aop P e ⟨d, .buildSlice t q ps, ty, pos, af, g⟩ H tgt = some (.own tgt q, H1) := by
  simp only [aop, doBuildSlice, hu, hs, hz, Option.bind_some]
  rw [if_pos hc, hp, hf]
  simp only [Option.bind_some]
  rw [if_pos ho, hH]; rfl
theorem alP {z : List PV} (hz : zero? P t = some z) (hc : z.length = s ∧ 0 < s ∧ z.all PV.one = true) (hH : H.fill tgt ⟨s, [z], 0, none⟩ = some H1) : aop P e ⟨d, .alloc t, ty, pos, af, g⟩ H tgt = some (.ptr tgt 1 s 0 0, H1) := by
  obtain ⟨rfl, h1, h2⟩ := hc
  simp only [aop, hz, Option.bind_some, push]
  rw [if_pos ⟨trivial, h1, h2⟩, hH]; rfl
theorem bxP {cs : List PV} (hx : (ev e x).cells = cs) (hc : cs.length = s ∧ 0 < s ∧ cs.all PV.one = true) (hH : H.fill tgt ⟨s, [cs], 0, none⟩ = some H1) : aop P e ⟨d, .box t x, ty, pos, af, g⟩ H tgt = some (.ptr tgt 1 s 0 0, H1) := by
  obtain ⟨rfl, h1, h2⟩ := hc
  simp only [aop, hx, push]
  rw [if_pos ⟨trivial, h1, h2⟩, hH]; rfl
theorem stB {cs cs0 cs1 : List PV} {o : Nat} (hx : ev e x = .ptr b 1 sz 0 o) (hy : (ev e y).cells = cs) (hs : sizeOf? P t = some cs.length) (hb : H[b]? = some ⟨sz, [cs0], 0, none⟩) (hc : o + cs.length ≤ sz ∧ cs.all PV.one = true) (h1 : cs0.take o ++ cs ++ cs0.drop (o + cs.length) = cs1) :
    aop P e ⟨d, .store t x y, ty, pos, af, g⟩ H tgt = some (.undef, H.set b ⟨sz, [cs1], 0, none⟩) := by
  simp [aop, hx, hy, hs, wr, hb, hc.1]
  exact ⟨by simpa using hc.2, by rw [← h1]; simp⟩
theorem stO (a : α) {cs : List PV} {o : Nat} (hT : SlT P u sz B cf) (hx : ev e x = .ptr b n sz j.toNat o) (hy : (ev e y).cells = cs) (hs : sizeOf? P t = some cs.length) (hb : H[b]? = some ⟨sz, l.map cf, fr, none⟩) (hn : n = l.length) (h0 : 0 ≤ j) (h1 : j < l.length) (hfr : fr ≤ j.toNat) (hc : o + cs.length ≤ sz ∧ cs.all PV.one = true)
    (h2 : (cf (rdl l j)).take o ++ cs ++ (cf (rdl l j)).drop (o + cs.length) = cf a) : aop P e ⟨d, .store t x y, ty, pos, af, g⟩ H tgt = some (.undef, H.set b ⟨sz, (setl l j a).map cf, fr, none⟩) := by
  have hi : (l.map cf)[j.toNat]? = some (cf (rdl l j)) := by rw [List.getElem?_map, rdl_get h0 h1, Option.map_some]
  have hw : wr H (.ptr b n sz j.toNat o) cs = some (H.set b ⟨sz, (setl l j a).map cf, fr, none⟩) := by
    simp only [wr, hb, Option.bind_some]
    rw [if_pos ⟨by simp [hn], trivial, hc.1, hfr, hc.2⟩, hi]
    rw [Option.map_some, h2, setl, List.map_set]
  simp only [aop, hx, hy, hs, if_true, hw, Option.map_some]

end
end Go.RM
namespace Go.RM
set_option linter.unusedVariables false
set_option linter.unusedSimpArgs false
variable {P : Program} {X : FuncId → List PV → Heap → PV → Heap → Prop} {e e1 : Env} {H H1 : Heap} {f : Map}
def ConvL (H : Heap) (f : Map) (e : Env) : List (Nat × PV) → Prop
  | [] => True
  | (t, p) :: l => Conv H f false (e t) p ∧ ConvL H f e l
theorem ConvL.env : ∀ {l : List (Nat × PV)}, ConvL H f e l → EnvConv H f e (listEnv l)
  | [], _, t => .undef
  | (u, p) :: l, h, t => by
    unfold listEnv
    by_cases ht : t = u
    · subst ht; simp only [if_true]; exact h.1
    · simp only [ht, if_false]; exact ConvL.env h.2 t
def HConvL (H : Heap) (f : Map) : List Nat → Heap → Prop
  | [], [] => True
  | b :: bs, k1 :: H1 => (∃ k, H[b]? = some k ∧ BlkConv H f k k1) ∧ HConvL H f bs H1
  | _, _ => False
theorem HConvL.heap : ∀ {bs : List Nat} {H1 : Heap}, HConvL H f bs H1 → HeapConv H f bs H1
  | [], [], _ => ⟨rfl, fun i b k1 h => by simp at h⟩
  | b :: bs, k1 :: H1, h => by
    obtain ⟨h1, h2⟩ := HConvL.heap (bs := bs) (H1 := H1) h.2
    refine ⟨by simp [h1], fun i b' k1' hb hk => ?_⟩
    cases i with
    | zero => simp at hb hk; subst hb hk; exact h.1
    | succ i => exact h2 i b' k1' (by simpa using hb) (by simpa using hk)
theorem bcEls {sz fr fr1 : Nat} {es es1 : List (List PV)} (hfr : fr ≤ fr1) (h : All2 (All2 (Conv H f false)) es es1) : BlkConv H f ⟨sz, es, fr, none⟩ ⟨sz, es1, fr1, none⟩ where
  sz := rfl
  frozen := hfr
  len := h.at.1
  uni := fun i x y hx hy => (h.at.2 i x y hx hy).at.1
  es := fun i j x y p q hx hy hp hq => (h.at.2 i x y hx hy).at.2 j p q hp hq
  mp := .inl ⟨rfl, rfl⟩
theorem bcBox {sz : Nat} {cs cs1 : List PV} (h : All2 (Conv H f false) cs cs1) : BlkConv H f ⟨sz, [cs], 0, none⟩ ⟨sz, [cs1], 0, none⟩ := bcEls (Nat.le_refl _) (.cons h .nil)
theorem all2_free : ∀ {cs : List PV}, cs.all (PV.free deep) = true → All2 (Conv H f false) cs cs
  | [], _ => .nil
  | c :: cs, h => by
    simp only [List.all_cons, Bool.and_eq_true] at h
    exact .cons (.free rfl h.1) (all2_free h.2)
theorem all2_map {α : Type} {cf : α → List PV} (hf : ∀ a, (cf a).all (PV.free deep) = true) : ∀ (l : List α), All2 (All2 (Conv H f false)) (l.map cf) (l.map cf)
  | [] => .nil
  | a :: l => .cons (all2_free (hf a)) (all2_map hf l)
theorem bcRow {t s B : Nat} {fr fr1 : Nat} {α : Type} {cf : α → List PV} {l l1 : List α} (hT : SlT P t s B cf) (hfr : fr ≤ fr1) (hl : l = l1) : BlkConv H f ⟨s, l.map cf, fr, none⟩ ⟨s, l1.map cf, fr1, none⟩ := by
  subst hl; exact bcEls hfr (all2_map hT.free l)
theorem D.enter {f fn c args r H'} (N M : Nat) (hf : P.funcs[f]? = some fn) (hb : fn.body = some c) (hN : max args.length fn.ntmps = N) (hM : H.length = M)
    (h : D P X (.run fn N M false [.code c] (argEnv args) H (.ret r) H')) : D P X (.callH f args H r H') := .callH hf hb (by rw [hN, hM]; exact h)
theorem D.reg0 {fn N M rd id k e1 H1 O H'} {l : List Oper} (hd : l.all (dstOk N) = true) (h : D P X (.ops N l.toArray l e H e1 H1)) (h' : D P X (.run fn N M rd k e1 H1 O H')) :
    D P X (.run fn N M rd (.code (.region id l.toArray false) :: k) e H O H') := .region (by simpa using hd) (.reg (by simpa using h)) h'
theorem D.reg1 {fn N M rd id k e1 H1 O H'} {l : List Oper} (hd : l.all (dstOk N) = true) (h : D P X (.reg N l.toArray true e H e1 H1)) (h' : D P X (.run fn N M rd k e1 H1 O H')) :
    D P X (.run fn N M rd (.code (.region id l.toArray true) :: k) e H O H') := .region (by simpa using hd) h h'
theorem D.keepL {fn N M rd k O H'} (bs : List Nat) (l : List (Nat × PV)) (H1 : Heap) (hM : ∀ b, b < M → bs[b]? = some b) (hnd : bs.Nodup) (he : ConvL H (.keep bs) e l) (hH : HConvL H (.keep bs) bs H1)
    (h : D P X (.run fn N M rd k (listEnv l) H1 O H')) : D P X (.run fn N M rd k e H O H') := .keep bs hM hnd he.env hH.heap h
theorem D.nilL {N all} (l : List (Nat × PV)) (he : ConvL H .same e l) : D P X (.ops N all [] e H (listEnv l) H) := .nil he.env rfl
theorem D.condT {fn N M rd c x y k O H'} {B : Bool} (hc : ev e c = .val (.bool B)) (hB : B = true) (h : D P X (.run fn N M rd (.code x :: k) e H O H')) : D P X (.run fn N M rd (.code (.cond c x y) :: k) e H O H') := .cond true (by rw [hc, hB]) h
theorem D.condF {fn N M rd c x y k O H'} {B : Bool} (hc : ev e c = .val (.bool B)) (hB : B = false) (h : D P X (.run fn N M rd (.code y :: k) e H O H')) : D P X (.run fn N M rd (.code (.cond c x y) :: k) e H O H') := .cond false (by rw [hc, hB]) h
theorem gT {all : Array Oper} {o : Oper} {j t : Nat} {want B : Bool} (hg : o.guard = some (j, want)) (hd : (all[j]?).bind (·.dst) = some t) (he : e t = .val (.bool B)) (hB : B = want) : wants all e o = some true := by simp [wants, hg, hd, he, hB]
theorem gF {all : Array Oper} {o : Oper} {j t : Nat} {want B : Bool} (hg : o.guard = some (j, want)) (hd : (all[j]?).bind (·.dst) = some t) (he : e t = .val (.bool B)) (hB : B = !want) : wants all e o = some false := by cases want <;> simp [wants, hg, hd, he, hB]
theorem callee_of {d : Option Tmp} {x : Operand} {ar : Array Operand} {tys : Array TypeId} {ty : TypeId} {pos : String} {af : Array Edge} {g : Option (Nat × Bool)} {q : FuncId} {cs ps : List PV} (hx : ev e x = .clo q cs) (hq : isGo P q = true) (hp : ar.toList.map (ev e) ++ cs = ps) :
    callee P e ⟨d, .call ⟨.value x, ar, tys⟩, ty, pos, af, g⟩ = some (q, ps) := by simp [callee, hx, hq, hp]
theorem all2_free_args : ∀ {args : List PV} {g : Map}, args.all (PV.free deep) = true → All2 (Conv H g false) args args
  | [], _, _ => .nil
  | c :: cs, g, h => by
    simp only [List.all_cons, Bool.and_eq_true] at h
    exact .cons (.free rfl h.1) (all2_free_args h.2)
theorem cB {s : Bool} {p : PV} {v v' : Bool} (hp : p = .val (.bool v)) (h : v = v') : Conv H f s p (.val (.bool v')) := by
  subst hp h; exact .free rfl rfl
theorem cFixP {s : Bool} {b sz off : Nat} {x y : List PV} {fr : Nat} (hf : f b = some none) (hb : H[b]? = some ⟨sz, [x], fr, none⟩) (h : All2 (Conv H f true) x y) : Conv H f s (.ptr b 1 sz 0 off) (.cptr y off) :=
  .fixPtr (x := x) hf hb rfl rfl rfl h.at.1 (fun j p q hp hq => h.at.2 j p q hp hq)
theorem cClo {s : Bool} {g : FuncId} {cs ds : List PV} (h : All2 (Conv H f s) cs ds) : Conv H f s (.clo g cs) (.clo g ds) := .clo h.at.1 h.at.2
theorem cFixE {s : Bool} {b n sz fr : Nat} {es es1 : List (List PV)} (hf : f b = some none) (hb : H[b]? = some ⟨sz, es, fr, none⟩) (hn : es.length = n) (h : All2 (All2 (Conv H f true)) es es1) : Conv H f s (.own b n) (.rows es1) :=
  .fixOwn hf hb hn rfl h.at.1.symm (fun i x y hx hy => (h.at.2 i x y hx hy).at.1) (fun i j x y p q hx hy hp hq => (h.at.2 i x y hx hy).at.2 j p q hp hq)
theorem all2_map' {α : Type} {cf : α → List PV} {s : Bool} (hf : ∀ a, (cf a).all (PV.free deep) = true) : ∀ (l : List α), All2 (All2 (Conv H f s)) (l.map cf) (l.map cf)
  | [] => .nil
  | a :: l => .cons (go _ (hf a)) (all2_map' hf l)
where go : ∀ (cs : List PV), cs.all (PV.free deep) = true → All2 (Conv H f s) cs cs
  | [], _ => .nil
  | c :: cs, h => by
    simp only [List.all_cons, Bool.and_eq_true] at h
    exact .cons (.free rfl h.1) (go cs h.2)
theorem cFixO {s : Bool} {b n t sz B fr : Nat} {α : Type} {cf : α → List PV} {l l' : List α} (hT : SlT P t sz B cf) (hf : f b = some none) (hb : H[b]? = some ⟨sz, l.map cf, fr, none⟩) (hn : n = l.length) (hl : l = l') : Conv H f s (.own b n) (.rows (l'.map cf)) := by
  subst hl; exact cFixE hf hb (by simp [hn]) (all2_map' hT.free l)
theorem bnotT {v : Bool} (h : v = false) : (!v) = true := by rw [h]; rfl
theorem bnotF {v : Bool} (h : v = true) : (!v) = false := by rw [h]; rfl
def cInt (k : IntKind) (i : Int) : List PV := [.val (.int k i)]
def cStr (v : ByteArray) : List PV := [.val (.string v)]
def cSl {α : Type} (c : α → List PV) (l : List α) : List PV := [.rows (l.map c)]
def InR (i : Int) (n : Nat) : Prop := 0 ≤ i ∧ i < n
theorem D.consJ {σ : Type} {fn N M rd x k O H'} (Fj : σ → Prop) (E : σ → Env) (Hj : σ → Heap) (hk : ∀ s, Fj s → D P X (.run fn N M rd k (E s) (Hj s) O H'))
    (h : (∀ s, Fj s → D P X (.run fn N M rd k (E s) (Hj s) O H')) → D P X (.run fn N M rd (x :: k) e H O H')) : D P X (.run fn N M rd (x :: k) e H O H') := h hk

def drawE (e : Env) : List (Nat × Nat × PV) → (Nat → Bool) → Env
  | [], _ => e
  | (i, t, p) :: l, S => fun u => if u = t then (if S i then p else drawE e l S u) else drawE e l S u
def ver (n : Nat) (k : Blk) : List (Nat × Nat × Blk) → (Nat → Bool) → Blk
  | [], _ => k
  | (i, b, k') :: l, S => if b = n then (if S i then k' else ver n k l S) else ver n k l S
def drawH : Nat → Heap → List (Nat × Nat × Blk) → (Nat → Bool) → Heap
  | _, [], _, _ => []
  | n, k :: H, l, S => ver n k l S :: drawH (n + 1) H l S
theorem drawE_none (e : Env) : ∀ (l : List (Nat × Nat × PV)), drawE e l (fun _ => false) = e
  | [] => rfl
  | (i, t, p) :: l => by funext u; simp [drawE, drawE_none e l]
theorem ver_none (n : Nat) (k : Blk) : ∀ (l : List (Nat × Nat × Blk)), ver n k l (fun _ => false) = k
  | [] => rfl
  | (i, b, k') :: l => by simp [ver, ver_none n k l]
theorem drawH_none : ∀ (n : Nat) (H : Heap) (l : List (Nat × Nat × Blk)), drawH n H l (fun _ => false) = H
  | _, [], _ => rfl
  | n, k :: H, l => by simp [drawH, ver_none, drawH_none (n + 1) H l]
def laterOk (A : Nat → List Nat) (i t : Nat) : List (Nat × Nat × PV) → Bool
  | [] => false
  | (j, u, _) :: l => if j = i then u == t else (u != t || (A j).contains i) && laterOk A i t l
def entry (i : Nat) : List (Nat × Nat × PV) → Option PV
  | [] => none
  | (j, _, p) :: l => if j = i then some p else entry i l
theorem drawE_put (e : Env) (A : Nat → List Nat) (S : Nat → Bool) (i t : Nat) (p : PV) (hS : S i = false) (hdown : ∀ i', S i' = true → ∀ j ∈ A i', S j = true) : ∀ (l : List (Nat × Nat × PV)), laterOk A i t l = true → entry i l = some p → (l.map (·.1)).Nodup →
    (drawE e l S).set t p = drawE e l (plus S i)
  | [], h, _, _ => by simp [laterOk] at h
  | (j, u, q) :: l, h, hp, hn => by
    simp only [List.map_cons, List.nodup_cons] at hn
    have rest : ∀ (l : List (Nat × Nat × PV)), i ∉ l.map (·.1) → drawE e l (plus S i) = drawE e l S := by
      intro l
      induction l with
      | nil => intro _; rfl
      | cons x l ih =>
        obtain ⟨j', u', q'⟩ := x
        intro hi
        simp only [List.map_cons, List.mem_cons, not_or] at hi
        funext v
        simp only [drawE, ih hi.2, plus, show (j' == i) = false by simpa using (Ne.symm hi.1), Bool.false_or]
    by_cases hj : j = i
    · subst hj
      simp only [laterOk, if_true, beq_iff_eq] at h
      subst h
      simp only [entry, if_true, Option.some.injEq] at hp
      subst hp
      funext v
      simp only [Env.set, drawE, rest l hn.1, plus, hS, beq_self_eq_true, Bool.true_or, if_true, Bool.false_eq_true, if_false]
      by_cases hv : v = u <;> simp [hv]
    · simp only [laterOk, hj, if_false, Bool.and_eq_true, Bool.or_eq_true, bne_iff_ne, ne_eq, List.contains_iff_mem] at h
      simp only [entry, hj, if_false] at hp
      have ih := drawE_put e A S i t p hS hdown l h.2 hp hn.2
      funext v
      have hv := congrFun ih v
      simp only [Env.set] at hv
      simp only [Env.set, drawE, plus, show (j == i) = false by simpa using hj, Bool.false_or]
      rw [← hv]
      by_cases hvt : v = t
      · subst hvt
        simp only [if_true]
        rcases h.1 with h1 | h1
        · simp [Ne.symm h1]
        · have : S j = false := by
            cases hs : S j with
            | false => rfl
            | true => have := hdown j hs i h1; rw [hS] at this; cases this
          simp [this]
      · simp [hvt]
def AllI (Q : Nat → Oper → Prop) : Nat → List Oper → Prop
  | _, [] => True
  | n, o :: l => Q n o ∧ AllI Q (n + 1) l
theorem AllI.get {Q : Nat → Oper → Prop} : ∀ {l : List Oper} {n : Nat}, AllI Q n l → ∀ (i : Nat) (o : Oper), l[i]? = some o → Q (n + i) o
  | [], n, _, i, o, h => by simp at h
  | x :: l, n, h, i, o, ho => by
    cases i with
    | zero => simp at ho; subst ho; exact h.1
    | succ i => have := AllI.get h.2 i o (by simpa using ho); rwa [show n + 1 + i = n + (i + 1) by omega] at this
def ahead (As : List (List Nat)) : Nat → List Nat := fun i => As.getD i []
def edgesOkL : Nat → List Oper → Bool
  | _, [] => true
  | n, o :: l => o.after.toList.all (fun e => !Region.binds .any e || decide (e.on < n)) && edgesOkL (n + 1) l
def aheadOkL (A : Nat → List Nat) : Nat → List Oper → Bool
  | _, [] => true
  | n, o :: l => (A n).all (fun j => o.after.toList.any fun e => Region.binds .any e && (e.on == j || (A e.on).contains j)) && aheadOkL A (n + 1) l
theorem edgesOkL.get : ∀ {l : List Oper} {n : Nat}, edgesOkL n l = true → ∀ (i : Nat) (o : Oper), l[i]? = some o → (o.after.toList.all fun e => !Region.binds .any e || decide (e.on < n + i)) = true
  | [], n, _, i, o, h => by simp at h
  | x :: l, n, h, i, o, ho => by
    simp only [edgesOkL, Bool.and_eq_true] at h
    cases i with
    | zero => simp at ho; subst ho; exact h.1
    | succ i => have := edgesOkL.get h.2 i o (by simpa using ho); rwa [show n + 1 + i = n + (i + 1) by omega] at this
theorem aheadOkL.get {A : Nat → List Nat} : ∀ {l : List Oper} {n : Nat}, aheadOkL A n l = true → ∀ (i : Nat) (o : Oper), l[i]? = some o → ((A (n + i)).all fun j => o.after.toList.any fun e => Region.binds .any e && (e.on == j || (A e.on).contains j)) = true
  | [], n, _, i, o, h => by simp at h
  | x :: l, n, h, i, o, ho => by
    simp only [aheadOkL, Bool.and_eq_true] at h
    cases i with
    | zero => simp at ho; subst ho; exact h.1
    | succ i => have := aheadOkL.get h.2 i o (by simpa using ho); rwa [show n + 1 + i = n + (i + 1) by omega] at this
theorem edgesOkL.back {l : List Oper} (h : edgesOkL 0 l = true) : edgesBack l.toArray = true := by
  unfold edgesBack
  refine List.all_eq_true.2 fun i hi => ?_
  cases ho : l.toArray[i]? with
  | none => rfl
  | some o =>
    have := edgesOkL.get h i o (by simpa using ho)
    rw [Nat.zero_add] at this
    simpa using this
theorem aheadOkL.ok {A : Nat → List Nat} {l : List Oper} (h : aheadOkL A 0 l = true) : aheadOk l.toArray A = true := by
  unfold aheadOk
  refine List.all_eq_true.2 fun i hi => ?_
  cases ho : l.toArray[i]? with
  | none => rfl
  | some o =>
    have := aheadOkL.get h i o (by simpa using ho)
    rw [Nat.zero_add] at this
    simpa using this
def OneOf (P : Program) (X : FuncId → List PV → Heap → PV → Heap → Prop) (N : Nat) (ops : List Oper) (e : Env) (H : Heap) (L : List (Nat × Nat × PV)) (LH : List (Nat × Nat × Blk)) (As : List (List Nat)) (i : Nat) (o : Oper) : Prop :=
  ∀ S : Nat → Bool, orElse (ahead As i) S i = false → (∀ i', orElse (ahead As i) S i' = true → ∀ j ∈ ahead As i', orElse (ahead As i) S j = true) → (L.map (·.1)).Nodup →
    D P X (.ops N ops.toArray [o] (drawE e L (orElse (ahead As i) S)) (drawH 0 H LH (orElse (ahead As i) S)) (drawE e L (plus (orElse (ahead As i) S) i)) (drawH 0 H LH (plus (orElse (ahead As i) S) i)))
theorem D.drawL {N} {ops : List Oper} {H1 : Heap} (L : List (Nat × Nat × PV)) (LH : List (Nat × Nat × Blk)) (As : List (List Nat)) (hb : edgesOkL 0 ops = true) (hA : aheadOkL (ahead As) 0 ops = true) (hn : (L.map (·.1)).Nodup)
    (hi : AllI (OneOf P X N ops e H L LH As) 0 ops) (l : List (Nat × PV)) (he1 : ConvL H1 .same (drawE e L fun j => decide (j < ops.length)) l) (hH1 : drawH 0 H LH (fun j => decide (j < ops.length)) = H1) :
    D P X (.reg N ops.toArray true e H (listEnv l) H1) := by
  refine .draw (drawE e L) (drawH 0 H LH) (ahead As) (edgesOkL.back hb) (aheadOkL.ok hA) (drawE_none e L) (drawH_none 0 H LH) (fun i o S ho h1 h2 => ?_) ?_ ?_
  · have := hi.get i o (by simpa using ho)
    rw [Nat.zero_add] at this
    exact this S h1 h2 hn
  · simpa using he1.env
  · simpa using hH1
theorem D.one {N all} {o : Oper} {L : List (Nat × Nat × PV)} {LH : List (Nat × Nat × Blk)} {A : Nat → List Nat} {S : Nat → Bool} {i t : Nat} {p : PV} (tgt : Nat) {H2 : Heap} (hS : S i = false) (hdown : ∀ i', S i' = true → ∀ j ∈ A i', S j = true) (hn : (L.map (·.1)).Nodup) (hw : wants all (drawE e L S) o = some true) (hdst : o.dst = some t)
    (ho : aop P (drawE e L S) o (drawH 0 H LH S) tgt = some (p, H2)) (hL : laterOk A i t L = true) (hp : entry i L = some p) (hH : H2 = drawH 0 H LH (plus S i)) :
    D P X (.ops N all [o] (drawE e L S) (drawH 0 H LH S) (drawE e L (plus S i)) (drawH 0 H LH (plus S i))) := by
  refine .op tgt hw ho ?_
  rw [hdst]
  simp only [Env.put]
  rw [drawE_put e A S i t p hS hdown L hL hp hn, hH]
  exact .nil0
theorem D.one0 {N all} {o : Oper} {L : List (Nat × Nat × PV)} {LH : List (Nat × Nat × Blk)} {S : Nat → Bool} {i : Nat} {p : PV} (tgt : Nat) {H2 : Heap} (hw : wants all (drawE e L S) o = some true) (hdst : o.dst = none)
    (ho : aop P (drawE e L S) o (drawH 0 H LH S) tgt = some (p, H2)) (hE : drawE e L S = drawE e L (plus S i)) (hH : H2 = drawH 0 H LH (plus S i)) :
    D P X (.ops N all [o] (drawE e L S) (drawH 0 H LH S) (drawE e L (plus S i)) (drawH 0 H LH (plus S i))) := by
  refine .op tgt hw ho ?_
  rw [hdst]
  simp only [Env.put]
  rw [← hE, hH]
  exact .nil0
theorem D.oneI {N all} {o : Oper} {L : List (Nat × Nat × PV)} {LH : List (Nat × Nat × Blk)} {A : Nat → List Nat} {S : Nat → Bool} {i t : Nat} {q : FuncId} {args : List PV} {r : PV} {H2 : Heap} (hS : S i = false) (hdown : ∀ i', S i' = true → ∀ j ∈ A i', S j = true) (hn : (L.map (·.1)).Nodup) (hw : wants all (drawE e L S) o = some true) (hdst : o.dst = some t)
    (hf : callee P (drawE e L S) o = some (q, args)) (hc : D P X (.callH q args (drawH 0 H LH S) r H2)) (hL : laterOk A i t L = true) (hp : entry i L = some r) (hH : H2 = drawH 0 H LH (plus S i)) :
    D P X (.ops N all [o] (drawE e L S) (drawH 0 H LH S) (drawE e L (plus S i)) (drawH 0 H LH (plus S i))) := by
  refine .callI hw hf hc ?_
  rw [hdst]
  simp only [Env.put]
  rw [drawE_put e A S i t r hS hdown L hL hp hn, hH]
  exact .nil0
theorem D.pure {q args r} (ha : args.all (PV.free deep) = true) (hr : PV.free deep r = true) (hc : D P X (.callH q args [] r [])) : D P X (.callH q args H r H) :=
  .focus [] [] [] false (all2_free_args ha) ⟨rfl, fun i b k1 h => by simp at h⟩ (by simp) rfl rfl hc (.free rfl hr) .nil rfl (.inr (.inl rfl)) rfl
theorem drawE_other (e : Env) (S : Nat → Bool) (i : Nat) : ∀ (l : List (Nat × Nat × PV)), entry i l = none → drawE e l S = drawE e l (plus S i)
  | [], _ => rfl
  | (j, u, q) :: l, h => by
    by_cases hj : j = i
    · simp [entry, hj] at h
    · simp only [entry, hj, if_false] at h
      funext v
      simp only [drawE, ← drawE_other e S i l h, plus, show (j == i) = false by simpa using hj, Bool.false_or]
theorem D.oneNo {N all} {o : Oper} {L : List (Nat × Nat × PV)} {LH : List (Nat × Nat × Blk)} {A : Nat → List Nat} {S : Nat → Bool} {i t : Nat} (hS : S i = false) (hdown : ∀ i', S i' = true → ∀ j ∈ A i', S j = true) (hw : wants all (drawE e L S) o = some false) (hdst : o.dst = some t)
    (hn : (L.map (·.1)).Nodup) (hL : laterOk A i t L = true) (hp : entry i L = some (.val undef)) (hH : drawH 0 H LH S = drawH 0 H LH (plus S i)) :
    D P X (.ops N all [o] (drawE e L S) (drawH 0 H LH S) (drawE e L (plus S i)) (drawH 0 H LH (plus S i))) := by
  refine .no hw ?_
  rw [hdst]
  simp only [Env.put]
  rw [drawE_put e A S i t (.val undef) hS hdown L hL hp hn, hH]
  exact .nil0

inductive Rnd (σ τ ρ : Type) where
  | next (s : σ)
  | exit (s : τ)
  | ret (r : ρ)
inductive Fin (τ ρ : Type) where
  | go (s : τ)
  | ret (r : ρ)
inductive Loop {σ τ ρ : Type} (b : σ → Rnd σ τ ρ → Prop) : σ → Fin τ ρ → Prop where
  | next {s s' : σ} {o : Fin τ ρ} (h : b s (.next s')) (t : Loop b s' o) : Loop b s o
  | exit {s : σ} {s' : τ} (h : b s (.exit s')) : Loop b s (.go s')
  | ret {s : σ} {r : ρ} (h : b s (.ret r)) : Loop b s (.ret r)
def Fin.on {τ ρ : Type} : Fin τ ρ → (τ → Prop) → (ρ → Prop) → Prop
  | .go s, f, _ => f s
  | .ret r, _, g => g r
theorem D.loopB {σ τ ρ : Type} {fn N M rd id body k O H'} (b : σ → Rnd σ τ ρ → Prop) (E : σ → Env) (Hs : σ → Heap) (E' : τ → Env) (Hs' : τ → Heap) {s0 : σ} {o : Fin τ ρ} (hL : Loop b s0 o) (R : ρ → Prop)
    (hgo : ∀ s, o = .go s → D P X (.run fn N M rd k (E' s) (Hs' s) O H')) (hret : ∀ r, o = .ret r → R r)
    (round : ∀ s x, b s x → (∀ s', x = .next s' → D P X (.run fn N M rd (.inLoop body :: .inBlock id :: k) (E s') (Hs s') O H')) → (∀ s', x = .exit s' → D P X (.run fn N M rd k (E' s') (Hs' s') O H')) → (∀ r, x = .ret r → R r) →
      D P X (.run fn N M rd (.code body :: .inLoop body :: .inBlock id :: k) (E s) (Hs s) O H')) :
    D P X (.run fn N M rd (.code (.loop body) :: .inBlock id :: k) (E s0) (Hs s0) O H') := by
  refine .loop ?_
  induction hL with
  | @next s s' o h _ ih => exact round s _ h (fun s1 h1 => by cases h1; exact .inLoop (ih hgo hret)) (fun s1 h1 => by cases h1) (fun r h1 => by cases h1)
  | @exit s s' h => exact round s _ h (fun s1 h1 => by cases h1) (fun s1 h1 => by cases h1; exact hgo _ rfl) (fun r h1 => by cases h1)
  | @ret s r h => exact round s _ h (fun s1 h1 => by cases h1) (fun s1 h1 => by cases h1) (fun r1 h1 => by cases h1; exact hret _ rfl)
theorem Loop.mono {σ τ ρ : Type} {b b' : σ → Rnd σ τ ρ → Prop} (hb : ∀ s o, b s o → b' s o) {s : σ} {o : Fin τ ρ} (h : Loop b s o) : Loop b' s o := by
  induction h with
  | next h _ ih => exact .next (hb _ _ h) ih
  | exit h => exact .exit (hb _ _ h)
  | ret h => exact .ret (hb _ _ h)
end Go.RM
namespace Go.RM
set_option linter.unusedVariables false
set_option linter.unusedSimpArgs false
set_option linter.unusedSectionVars false
variable {P : Program} {X : FuncId → List PV → Heap → PV → Heap → Prop} {e e1 : Env} {H H1 : Heap} {f : Map}
theorem gN {all : Array Oper} {o : Oper} {j t : Nat} {want : Bool} (hg : o.guard = some (j, want)) (hd : (all[j]?).bind (·.dst) = some t) (he : e t = .val undef) : wants all e o = some false := by simp [wants, hg, hd, he, undef]
theorem allCons {α : Type} {f : α → Bool} {x : α} {l : List α} (h : f x = true) (h' : l.all f = true) : (x :: l).all f = true := by simp [h, h']
theorem mAndT {b v w : Bool} (hb : b = true) (h : v = w) : v = (b && w) := by rw [hb, h]; rfl
theorem mAndF {b w : Bool} (hb : b = false) : false = (b && w) := by rw [hb]; rfl
theorem mOrT {b w : Bool} (hb : b = true) : true = (b || w) := by rw [hb]; rfl
theorem mOrF {b v w : Bool} (hb : b = false) (h : v = w) : v = (b || w) := by rw [hb, h]; rfl
theorem mIteT {b v w u : Bool} (hb : b = true) (h : v = w) : v = (bif b then w else u) := by rw [hb, h]; rfl
theorem mIteF {b v w u : Bool} (hb : b = false) (h : v = w) : v = (bif b then u else w) := by rw [hb, h]; rfl
def Cut (i j : Int) (n : Nat) : Prop := 0 ≤ i ∧ i ≤ j ∧ j ≤ n
def Fits (n : Int) (B : Nat) : Prop := n * B ≤ 140737488355328
theorem cut_le {i j : Int} {n : Nat} (h : Cut i j n) : i.toNat ≤ j.toNat := by obtain ⟨h0, h1, h2⟩ := h; omega
theorem cut_le2 {i j : Int} {n : Nat} (h : Cut i j n) : j.toNat ≤ n := by obtain ⟨h0, h1, h2⟩ := h; omega
theorem cut_le' {i : Int} {n m : Nat} (h : Cut i n m) : i.toNat ≤ n := by obtain ⟨h0, h1, h2⟩ := h; omega
theorem Cut.j0 {i j : Int} {n : Nat} (h : Cut i j n) : 0 ≤ j := Int.le_trans h.1 h.2.1
def nodupN : List (Nat × Nat × PV) → Bool
  | [] => true
  | x :: l => l.all (fun y => y.1 != x.1) && nodupN l
theorem nodupN_ok : ∀ {l : List (Nat × Nat × PV)}, nodupN l = true → (l.map (·.1)).Nodup
  | [], _ => by simp
  | x :: l, h => by
    simp only [nodupN, Bool.and_eq_true, List.all_eq_true, bne_iff_ne, ne_eq] at h
    simp only [List.map_cons, List.nodup_cons, List.mem_map, not_exists, not_and]
    exact ⟨fun y hy he => h.1 y hy he, nodupN_ok h.2⟩
def mask (As : List (List Nat)) (i : Nat) (S : Nat → Bool) : Nat → Bool := fun j => (ahead As i).contains j || (!(j == i || (ahead As j).contains i) && S j)
theorem mask_eq {As : List (List Nat)} {i : Nat} {S : Nat → Bool} (hS : orElse (ahead As i) S i = false) (hdown : ∀ i', orElse (ahead As i) S i' = true → ∀ j ∈ ahead As i', orElse (ahead As i) S j = true) : orElse (ahead As i) S = mask As i S := by
  funext j
  unfold mask
  by_cases hc : (ahead As i).contains j = true
  · simp only [orElse, hc, Bool.true_or]
  · have h1 : orElse (ahead As i) S j = S j := by simp only [orElse, Bool.eq_false_iff.2 hc, Bool.false_or]
    rw [h1, Bool.eq_false_iff.2 hc, Bool.false_or]
    by_cases hj : j = i
    · subst hj; rw [← h1, hS]; simp
    · by_cases hi : (ahead As j).contains i = true
      · cases hs : S j with
        | false => simp
        | true =>
          have := hdown j (by rw [h1, hs]) i (by simpa using hi)
          rw [hS] at this; cases this
      · rw [show (j == i) = false by simpa using hj, Bool.eq_false_iff.2 hi]; simp
def OneM (P : Program) (X : FuncId → List PV → Heap → PV → Heap → Prop) (N : Nat) (ops : List Oper) (e : Env) (H : Heap) (L : List (Nat × Nat × PV)) (LH : List (Nat × Nat × Blk)) (As : List (List Nat)) (i : Nat) (o : Oper) : Prop :=
  ∀ S : Nat → Bool, mask As i S i = false → (∀ i', mask As i S i' = true → ∀ j ∈ ahead As i', mask As i S j = true) → (L.map (·.1)).Nodup →
    D P X (.ops N ops.toArray [o] (drawE e L (mask As i S)) (drawH 0 H LH (mask As i S)) (drawE e L (plus (mask As i S) i)) (drawH 0 H LH (plus (mask As i S) i)))
theorem OneM.of {N} {ops : List Oper} {L : List (Nat × Nat × PV)} {LH : List (Nat × Nat × Blk)} {As : List (List Nat)} {i : Nat} {o : Oper} (h : OneM P X N ops e H L LH As i o) : OneOf P X N ops e H L LH As i o := by
  intro S h1 h2 h3
  have := mask_eq h1 h2
  rw [this] at h1 h2 ⊢
  exact h S h1 h2 h3
theorem AllI.mono {Q R : Nat → Oper → Prop} (hQ : ∀ i o, Q i o → R i o) : ∀ {l : List Oper} {n : Nat}, AllI Q n l → AllI R n l
  | [], _, _ => trivial
  | _ :: _, _, h => ⟨hQ _ _ h.1, AllI.mono hQ h.2⟩
theorem D.drawM {N} {ops : List Oper} {H1 : Heap} (L : List (Nat × Nat × PV)) (LH : List (Nat × Nat × Blk)) (As : List (List Nat)) (hb : edgesOkL 0 ops = true) (hA : aheadOkL (ahead As) 0 ops = true) (hn : nodupN L = true)
    (hi : AllI (OneM P X N ops e H L LH As) 0 ops) (l : List (Nat × PV)) (he1 : ConvL H1 .same (drawE e L fun j => decide (j < ops.length)) l) (hH1 : drawH 0 H LH (fun j => decide (j < ops.length)) = H1) :
    D P X (.reg N ops.toArray true e H (listEnv l) H1) := D.drawL L LH As hb hA (nodupN_ok hn) (hi.mono fun _ _ h => h.of) l he1 hH1
theorem D.lendC {q args args' r Hz} (ls : List Nat) (fz : Bool) (ha : All2 (Conv H (.lend [] ls) false) args args') (hnd : ls.Nodup)
    (hls : ls.all (fun b => ((H[b]?).map fun k => k.mp.isNone).getD false) = true) (hr : PV.free deep r = true) (hfz : (fz || PV.solid deep r) = true) (hHz : (if fz then H.freeze ls else H) = Hz)
    (hc : D P X (.callH q args' [] r [])) : D P X (.callH q args H r Hz) := by
  refine .focus [] ls [] fz ha ⟨rfl, fun i b k1 h => by simp at h⟩ (by simpa using hnd) hls rfl hc (.free rfl hr) .nil rfl ?_ ?_
  · rcases Bool.or_eq_true_iff.1 hfz with h1 | h1
    · exact .inl h1
    · exact .inr (.inr ⟨h1, rfl⟩)
  · simp only [List.nil_append, setAll, hHz]
section
variable {d : Option Tmp} {x y c z : Operand} {t u ty : TypeId} {pos : String} {af : Array Edge} {g : Option (Nat × Bool)} {tgt : Nat}
variable {b n s B fr : Nat} {α : Type} [Inhabited α] {cf : α → List PV} {l m : List α}
theorem bound_nl {cf : α → List PV} {l : List α} : bound ((none : Option Operand).map (ev e)) (l.map cf).length = some l.length := by simp [bound]
end
end Go.RM
namespace Go.RM
open Op
set_option linter.unusedVariables false
set_option linter.unusedSimpArgs false
set_option linter.unusedSectionVars false
def eqLeaf (d : TypeDesc) (x y : Value) : Option Bool := match d, x, y with
  | .int _, .int k a, .int k' b => if k = k' then some (a == b) else none
  | .bool, .bool a, .bool b => some (a == b)
  | .string, .string a, .string b => some (a == b)
  | _, _, _ => none
def evalEq : List (Nat × TypeDesc) → List Value → List Value → Option Bool
  | [], _, _ => some true
  | (o, d) :: l, xs, ys => (xs[o]?).bind fun x => (ys[o]?).bind fun y => (eqLeaf d x y).bind fun b => (evalEq l xs ys).map (b && ·)
def fieldKind (P : Program) (f : Field) : Option (Nat × TypeDesc) := if f.name = "_" then none else if isAgg? P f.type = some false then (P.underlying f.type).map (f.offset, ·) else none
def eqKinds (P : Program) (t : TypeId) : Option (List (Nat × TypeDesc)) := match P.underlying t with
  | some (.struct fs) => if P.stoodInHeld t = false ∧ P.eqGuardType P.depth t = false then omap (fieldKind P) fs.toList else none
  | some (.array n el) => if P.eqGuardType P.depth t = false ∧ isAgg? P el = some false then (sizeOf? P el).bind fun s => (P.underlying el).map fun d => (List.range n).map fun i => (i * s, d) else none
  | _ => none
variable {P : Program}
theorem quietly_leaf {ft : TypeId} {dd : TypeDesc} {x y : Value} {b : Bool} (d : Nat) (hu : P.underlying ft = some dd) (h : eqLeaf dd x y = some b) : quietly P (equalIn (d + 1) ft x y) = some b := by
  unfold equalIn
  rw [quietly_bind, run_quiet_und hu]
  simp only [Option.bind_some]
  unfold eqLeaf at h
  split at h
  · split at h
    · rename_i hk; cases h; simp [hk, quietly_pure]
    · cases h
  · cases h; simp [quietly_pure]
  · cases h; simp [quietly_pure]
  · cases h
theorem quietly_isAgg {ft : TypeId} {b : Bool} (h : isAgg? P ft = some b) : quietly P (isAgg ft) = some b := by
  unfold isAgg? at h
  simp only [Option.map_eq_some_iff] at h
  obtain ⟨dd, hu, h⟩ := h
  unfold isAgg
  rw [quietly_bind, run_quiet_und hu]
  simp only [Option.bind_some]
  cases dd <;> simp_all [quietly_pure]
theorem quietly_sizeOf {ft : TypeId} {s : Nat} (h : sizeOf? P ft = some s) : quietly P (sizeOf ft) = some s := by
  unfold sizeOf? at h
  simp only [Option.map_eq_some_iff] at h
  obtain ⟨i, hi, rfl⟩ := h
  simp [sizeOf, typeInfo, quietly_bind, quietly, program, hi, quietly_pure, Bind.bind, Sem.bind]
  rfl
theorem quietly_part {ft : TypeId} {off : Nat} {xs : List Value} {v : Value} (ha : isAgg? P ft = some false) (hv : xs[off]? = some v) : quietly P (part ft xs.toArray off) = some v := by
  unfold part
  rw [quietly_bind, quietly_isAgg ha]
  simp [hv, quietly_pure]
theorem evalEq_cons {o : Nat} {dd : TypeDesc} {l : List (Nat × TypeDesc)} {xs ys : List Value} {B : Bool} (h : evalEq ((o, dd) :: l) xs ys = some B) : ∃ x y b B', xs[o]? = some x ∧ ys[o]? = some y ∧ eqLeaf dd x y = some b ∧ evalEq l xs ys = some B' ∧ B = (b && B') := by
  simp only [evalEq, Option.bind_eq_some_iff, Option.map_eq_some_iff] at h
  obtain ⟨x, hx, y, hy, b, hb, B', hB', rfl⟩ := h
  exact ⟨x, y, b, B', hx, hy, hb, hB', rfl⟩
theorem eq_fields (d : Nat) (xs ys : List Value) : ∀ (fs : List Field) (ks : List (Nat × TypeDesc)) (B : Bool), omap (fieldKind P) fs = some ks → evalEq ks xs ys = some B →
    quietly P (forIn fs ((none, ()) : Option Bool × Unit) fun f __s =>
            if f.name ≠ "_" then do
              let __do_lift ← part f.type xs.toArray f.offset
              let __do_lift_1 ← part f.type ys.toArray f.offset
              let __do_lift ← equalIn (d + 1) f.type __do_lift __do_lift_1
              if (!__do_lift) = true then pure (ForInStep.done (some false, ())) else pure (ForInStep.yield (none, ()))
            else pure (ForInStep.yield (none, ()))) = some (if B then (none, ()) else (some false, ())) := by
  intro fs
  induction fs with
  | nil =>
    intro ks B h hv
    cases h
    cases hv
    simp [quietly_pure]
  | cons f fs ih =>
    intro ks B h hv
    simp only [omap, Option.bind_eq_some_iff, Option.map_eq_some_iff] at h
    obtain ⟨k, hk, ks', hks, rfl⟩ := h
    unfold fieldKind at hk
    split at hk
    · cases hk
    rename_i hn
    split at hk
    · rename_i ha
      simp only [Option.map_eq_some_iff] at hk
      obtain ⟨dd, hu, rfl⟩ := hk
      obtain ⟨x, y, b, B', hx, hy, hb, hB', rfl⟩ := evalEq_cons hv
      have ih := ih ks' B' hks hB'
      rw [List.forIn_cons, quietly_bind, if_pos hn]
      simp only [quietly_bind, quietly_part ha hx, quietly_part ha hy, quietly_leaf d hu hb, Option.bind_some]
      cases b with
      | false => simp [quietly_pure]
      | true =>
        simp only [Bool.not_true, Bool.false_eq_true, if_false, quietly_pure, Option.bind_some, Bool.true_and]
        exact ih
    · cases hk
theorem equalIn_struct {t : TypeId} {fs : Array Field} {ks : List (Nat × TypeDesc)} {xs ys : List Value} {B : Bool} (d : Nat) (hu : P.underlying t = some (.struct fs)) (hs : P.stoodInHeld t = false) (hk : omap (fieldKind P) fs.toList = some ks) (hv : evalEq ks xs ys = some B) :
    quietly P (equalIn (d+2) t (.agg xs.toArray) (.agg ys.toArray)) = some B := by
  unfold equalIn
  rw [quietly_bind, run_quiet_und hu]
  simp only [quietly_bind, quietly_pure, quietly, program, hs, Option.bind_some, Bool.false_eq_true, if_false]
  rw [← Array.forIn_toList, eq_fields d xs ys _ _ _ hk hv]
  cases B <;> rfl
theorem eqGuard_agg {t : TypeId} {x y : Operand} {xs ys : Array Value} {op : BinOp} (hs : P.eqGuardType P.depth t = false) : quietly P (eqGuard op t x y (.agg xs) (.agg ys)) = some () := by
  unfold eqGuard
  cases op <;> simp [quietly_bind, quietly, program, hs, quietly_pure]
theorem eq_elems {el : TypeId} {s : Nat} {dd : TypeDesc} (d : Nat) (xs ys : List Value) (ha : isAgg? P el = some false) (hd : P.underlying el = some dd) : ∀ (is : List Nat) (B : Bool), evalEq (is.map fun i => (i * s, dd)) xs ys = some B →
    quietly P (forIn is ((none, ()) : Option Bool × Unit) fun i __s => do
            let __do_lift ← part el xs.toArray (i * s)
            let __do_lift_1 ← part el ys.toArray (i * s)
            let __do_lift ← equalIn (d + 1) el __do_lift __do_lift_1
            if (!__do_lift) = true then pure (ForInStep.done (some false, ()))
              else pure (ForInStep.yield (none, ()))) = some (if B then (none, ()) else (some false, ())) := by
  intro is
  induction is with
  | nil => intro B hv; cases hv; simp [quietly_pure]
  | cons f fs ih =>
    intro B hv
    rw [List.map_cons] at hv
    obtain ⟨x, y, b, B', hx, hy, hb, hB', rfl⟩ := evalEq_cons hv
    have ih := ih B' hB'
    rw [List.forIn_cons, quietly_bind]
    simp only [quietly_bind, quietly_part ha hx, quietly_part ha hy, quietly_leaf d hd hb, Option.bind_some]
    cases b with
    | false => simp [quietly_pure]
    | true =>
      simp only [Bool.not_true, Bool.false_eq_true, if_false, quietly_pure, Option.bind_some, Bool.true_and]
      exact ih
theorem equalIn_array {t el : TypeId} {n s : Nat} {dd : TypeDesc} {xs ys : List Value} {B : Bool} (d : Nat) (hu : P.underlying t = some (.array n el)) (hs : sizeOf? P el = some s) (ha : isAgg? P el = some false) (hd : P.underlying el = some dd) (hv : evalEq ((List.range n).map fun i => (i * s, dd)) xs ys = some B) :
    quietly P (equalIn (d+2) t (.agg xs.toArray) (.agg ys.toArray)) = some B := by
  unfold equalIn
  rw [quietly_bind, run_quiet_und hu]
  simp only [quietly_bind, quietly_sizeOf hs, Option.bind_some]
  rw [Std.Legacy.Range.forIn_eq_forIn_range']
  rw [show List.range' ([:n] : Std.Legacy.Range).start ([:n] : Std.Legacy.Range).size ([:n] : Std.Legacy.Range).step = List.range n by simp [List.range_eq_range', Std.Legacy.Range.size]]
  rw [eq_elems d xs ys ha hd _ _ hv]
  cases B <;> rfl
theorem quietly_equal {t : TypeId} {ks : List (Nat × TypeDesc)} {xs ys : List Value} {B : Bool} {x y : Operand} (hk : eqKinds P t = some ks) (hv : evalEq ks xs ys = some B) (op : BinOp) :
    quietly P (equal t (.agg xs.toArray) (.agg ys.toArray)) = some B ∧ quietly P (eqGuard op t x y (.agg xs.toArray) (.agg ys.toArray)) = some () := by
  unfold eqKinds at hk
  split at hk
  · rename_i fs hu
    split at hk
    · rename_i hc
      exact ⟨equalIn_struct 9998 hu hc.1 hk hv, eqGuard_agg hc.2⟩
    · cases hk
  · rename_i n el hu
    split at hk
    · rename_i hc
      simp only [Option.bind_eq_some_iff, Option.map_eq_some_iff] at hk
      obtain ⟨s, hs, dd, hd, rfl⟩ := hk
      exact ⟨equalIn_array 9998 hu hs hc.2 hd hv, eqGuard_agg hc.1⟩
    · cases hk
  · cases hk
section
variable {e : Env} {d : Option Tmp} {x y : Operand} {t u ty : TypeId} {pos : String} {af : Array Edge} {g : Option (Nat × Bool)} {H : Heap} {tgt : Nat}
theorem isNil_agg {dd : Option TypeDesc} {cs : List PV} : isNil dd (.agg cs) = none := by unfold isNil; split <;> simp_all
theorem eqS {ks : List (Nat × TypeDesc)} {cs ds : List PV} {xs ys : List Value} {B : Bool} (hk : eqKinds P t = some ks) (hx : ev e x = .agg cs) (hy : ev e y = .agg ds) (hcx : omap scalar? cs = some xs) (hcy : omap scalar? ds = some ys) (hv : evalEq ks xs ys = some B) :
    aop P e ⟨d, .binOp .eql t x y u, ty, pos, af, g⟩ H tgt = some (.val (.bool B), H) := by
  obtain ⟨h1, h2⟩ := quietly_equal (x := x) (y := y) hk hv .eql
  have h3 : quietly P (execOp (fun z => (toV? (ev e z)).getD undef) ⟨d, .binOp .eql t x y u, ty, pos, af, g⟩) = some (.value (.bool B)) := by
    show quietly P (do let a ← (do eqGuard .eql t x y _ _; binOp .eql t _ _); pure (Next.value a)) = _
    simp only [hx, hy, toV?, hcx, hcy, Option.map_some, Option.getD_some]
    rw [quietly_bind, quietly_bind, h2]
    have h4 : quietly P (binOp .eql t (.agg xs.toArray) (.agg ys.toArray)) = some (.bool B) := by
      show quietly P (do pure (Value.bool (← equal t (.agg xs.toArray) (.agg ys.toArray)))) = _
      rw [quietly_bind, h1]; rfl
    simp only [Option.bind_some, h4, quietly_pure]
  simp only [aop, hx, isNil_agg]
  unfold generic
  rw [if_pos (by simp [Op.operands, hx, hy, toV?, hcx, hcy]), h3]
  rfl
theorem eqRN {el : TypeId} {α : Type} {cf : α → List PV} {l : List α} (hne : ¬ l.length = 0) (hu : P.underlying t = some (.slice el)) (hx : ev e x = .rows (l.map cf)) (hy : ev e y = .val (.slice none 0 0)) : aop P e ⟨d, .binOp .eql t x y u, ty, pos, af, g⟩ H tgt = some (.val (.bool false), H) := by
  cases l with
  | nil => exact absurd rfl hne
  | cons a l => simp [aop, hu, hx, hy, isNil]
theorem eqEN_some {el : TypeId} {c : Addr} {k : Nat} (hu : P.underlying t = some (.slice el)) (hx : ev e x = .val (.slice (some c) 0 k)) (hy : ev e y = .val (.slice none 0 0)) : aop P e ⟨d, .binOp .eql t x y u, ty, pos, af, g⟩ H tgt = some (.val (.bool false), H) := by
  have h1 : quietly P (equal t (.slice (some c) 0 k) (.slice none 0 0)) = some false := by
    unfold equal maxDepth equalIn
    rw [quietly_bind, run_quiet_und hu]
    rfl
  have hg : eqGuard .eql t x y (.slice (some c) 0 k) (.slice none 0 0) = pure () := rfl
  have h3 : quietly P (execOp (fun z => (toV? (ev e z)).getD undef) ⟨d, .binOp .eql t x y u, ty, pos, af, g⟩) = some (.value (.bool false)) := by
    show quietly P (do let a ← (do eqGuard .eql t x y _ _; binOp .eql t _ _); pure (Next.value a)) = _
    simp only [hx, hy, toV?, Option.getD_some]
    rw [quietly_bind, quietly_bind, hg, quietly_pure]
    have h4 : quietly P (binOp .eql t (.slice (some c) 0 k) (.slice none 0 0)) = some (.bool false) := by
      show quietly P (do pure (Value.bool (← equal t _ _))) = _
      rw [quietly_bind, h1]; rfl
    simp only [Option.bind_some, h4, quietly_pure]
  have hn : isNil (P.underlying t) (.val (.slice (some c) 0 k)) = none := by rw [hu]; rfl
  simp only [aop, hx, hn]
  unfold generic
  rw [if_pos (by simp [Op.operands, hx, hy, toV?]), h3]
  rfl
theorem eqEN {el : TypeId} {z : Option Addr} {k : Nat} (hu : P.underlying t = some (.slice el)) (hx : ev e x = .val (.slice z 0 k)) (hy : ev e y = .val (.slice none 0 0)) : aop P e ⟨d, .binOp .eql t x y u, ty, pos, af, g⟩ H tgt = some (.val (.bool z.isNone), H) := by
  cases z with
  | some c => exact eqEN_some hu hx hy
  | none =>
    cases k with
    | zero => simp [aop, hu, hx, hy, isNil]
    | succ k =>
      have h1 : quietly P (equal t (.slice none 0 (k + 1)) (.slice none 0 0)) = some true := by
        unfold equal maxDepth equalIn
        rw [quietly_bind, run_quiet_und hu]
        rfl
      have hg : eqGuard .eql t x y (.slice none 0 (k + 1)) (.slice none 0 0) = pure () := rfl
      have h3 : quietly P (execOp (fun z => (toV? (ev e z)).getD undef) ⟨d, .binOp .eql t x y u, ty, pos, af, g⟩) = some (.value (.bool true)) := by
        show quietly P (do let a ← (do eqGuard .eql t x y _ _; binOp .eql t _ _); pure (Next.value a)) = _
        simp only [hx, hy, toV?, Option.getD_some]
        rw [quietly_bind, quietly_bind, hg, quietly_pure]
        have h4 : quietly P (binOp .eql t (.slice none 0 (k + 1)) (.slice none 0 0)) = some (.bool true) := by
          show quietly P (do pure (Value.bool (← equal t _ _))) = _
          rw [quietly_bind, h1]; rfl
        simp only [Option.bind_some, h4, quietly_pure]
      have hn : isNil (P.underlying t) (.val (.slice none 0 (k + 1))) = none := by rw [hu]; rfl
      simp only [aop, hx, hn]
      unfold generic
      rw [if_pos (by simp [Op.operands, hx, hy, toV?]), h3]
      rfl
end
end Go.RM
namespace Go.RM
open Op
set_option linter.unusedVariables false
set_option linter.unusedSimpArgs false
set_option linter.unusedSectionVars false
def mget {κ α : Type} [DecidableEq κ] : List (κ × α) → κ → Option α
  | [], _ => none
  | x :: l, k => if x.1 = k then some x.2 else mget l k
def mput {κ α : Type} [DecidableEq κ] : List (κ × α) → κ → α → List (κ × α)
  | [], k, v => [(k, v)]
  | x :: l, k, v => if x.1 = k then (k, v) :: l else x :: mput l k v
def midx {κ α : Type} [DecidableEq κ] : List (κ × α) → κ → Option Nat
  | [], _ => none
  | x :: l, k => if x.1 = k then some 0 else (midx l k).map (· + 1)
@[reducible] def mpE {κ α : Type} (kf : κ → Value) (vf : α → PV) (l : List (κ × α)) : List (Value × PV) := l.map fun x => (kf x.1, vf x.2)
@[reducible] def mpB {κ α : Type} (kf : κ → Value) (vf : α → PV) (l : List (κ × α)) : Blk := ⟨1, [], 0, some (mpE kf vf l)⟩
variable {P : Program}
structure KeyT (P : Program) (kt : TypeId) {κ : Type} [DecidableEq κ] (kf : κ → Value) : Prop where
  check : ∀ (em : Bool) (k : κ), quietly P (Instr.checkKey em 10000 kt (kf k)) = some ()
  at_ : ∀ {α : Type} (vf : α → PV) (k : κ) (l : List (κ × α)), keyAt P kt (kf k) (mpE kf vf l) = some (midx l k)
  same : ∀ k : κ, Instr.sameBits 10000 (kf k) (kf k) = true
structure MpT (P : Program) (t : TypeId) {κ α : Type} [DecidableEq κ] (kf : κ → Value) (vf : α → PV) (z : α) : Prop where
  ex : ∃ kt el, P.underlying t = some (.map kt el) ∧ KeyT P kt kf ∧ ((P.info? el).bind (·.zero)).map ofV = some (vf z)
theorem keyAt_now {kt : TypeId} {d : TypeDesc} {κ : Type} [DecidableEq κ] {kf : κ → Value} (hu : P.underlying kt = some d) (hs : ∀ a b : κ, Instr.sameNow d (kf a) (kf b) = some (decide (a = b))) {α : Type} (vf : α → PV) (k : κ) (l : List (κ × α)) :
    keyAt P kt (kf k) (mpE kf vf l) = some (midx l k) := by
  have key : ∀ (l : List (κ × α)) (i : Nat), ∃ r, Instr.findNow d (kf k) ((mpE kf vf l).map fun x => { key := x.1, val := undef, born := 0 }) i = some r ∧ r.map (·.1) = (midx l k).map (· + i) := by
    intro l
    induction l with
    | nil => intro i; exact ⟨none, rfl, rfl⟩
    | cons x l ih =>
      intro i
      simp only [mpE, List.map_cons]
      unfold Instr.findNow midx
      simp only [hs]
      by_cases h : k = x.1
      · rw [decide_eq_true h, if_pos h.symm]
        exact ⟨_, rfl, by simp⟩
      · rw [decide_eq_false h, if_neg (fun e => h e.symm)]
        obtain ⟨r, h1, h2⟩ := ih (i + 1)
        refine ⟨r, h1, ?_⟩
        rw [h2]
        cases midx l k with
        | none => rfl
        | some j => simp; omega
  obtain ⟨r, h1, h2⟩ := key l 0
  unfold keyAt Instr.findKey
  rw [quietly_bind, run_quiet_und hu]
  simp only [Option.bind_some]
  rw [h1]
  simp only [quietly_pure, Option.map_some]
  rw [h2]
  cases midx l k <;> rfl
theorem keyAt_ask {kt : TypeId} {d : TypeDesc} {κ : Type} [DecidableEq κ] {kf : κ → Value} (hu : P.underlying kt = some d) (hn : ∀ a b : κ, Instr.sameNow d (kf a) (kf b) = none) (hs : ∀ a b : κ, quietly P (equal kt (kf a) (kf b)) = some (decide (a = b))) {α : Type} (vf : α → PV) (k : κ) (l : List (κ × α)) :
    keyAt P kt (kf k) (mpE kf vf l) = some (midx l k) := by
  have key : ∀ (l : List (κ × α)) (i : Nat), ∃ r, quietly P (Instr.findAsking kt (kf k) ((mpE kf vf l).map fun x => { key := x.1, val := undef, born := 0 }) i) = some r ∧ r.map (·.1) = (midx l k).map (· + i) := by
    intro l
    induction l with
    | nil => intro i; exact ⟨none, rfl, rfl⟩
    | cons x l ih =>
      intro i
      simp only [mpE, List.map_cons]
      unfold Instr.findAsking midx
      rw [quietly_bind, hs]
      simp only [Option.bind_some]
      by_cases h : k = x.1
      · simp only [decide_eq_true h, if_true]
        rw [if_pos h.symm]
        exact ⟨_, rfl, by simp⟩
      · simp only [decide_eq_false h, Bool.false_eq_true, if_false]
        rw [if_neg (fun e : x.1 = k => h e.symm)]
        obtain ⟨r, h1, h2⟩ := ih (i + 1)
        refine ⟨r, h1, ?_⟩
        rw [h2]
        cases midx l k with
        | none => rfl
        | some j => simp; omega
  have now : ∃ r0, Instr.findNow d (kf k) ((mpE kf vf l).map fun x => { key := x.1, val := undef, born := 0 }) 0 = r0 ∧ (l = [] → r0 = some none) ∧ (l ≠ [] → r0 = none) := by
    cases l with
    | nil => exact ⟨some none, rfl, fun _ => rfl, fun h => absurd rfl h⟩
    | cons x l =>
      refine ⟨none, ?_, fun h => (by cases h), fun _ => rfl⟩
      simp only [mpE, List.map_cons]; unfold Instr.findNow; simp only [hn]
  obtain ⟨r0, h0, h1, h2⟩ := now
  obtain ⟨r, h3, h4⟩ := key l 0
  unfold keyAt Instr.findKey
  rw [quietly_bind, run_quiet_und hu]
  simp only [Option.bind_some]
  rw [h0]
  by_cases hl : l = []
  · rw [h1 hl]; subst hl; rfl
  · rw [h2 hl]
    simp only [h3, Option.map_some]
    rw [h4]
    cases midx l k <;> rfl
def kInt (k : IntKind) (i : Int) : Value := .int k i
theorem KeyT.int {kt : TypeId} {q : IntKind} (hu : P.underlying kt = some (.int q)) : KeyT P kt (kInt q) where
  check em k := by unfold Instr.checkKey; rw [quietly_bind, run_quiet_und hu]; rfl
  at_ vf k l := keyAt_now hu (fun a b => by simp only [kInt, Instr.sameNow, if_true, Option.some.injEq]; rw [Bool.eq_iff_iff]; simp) vf k l
  same k := by simp [kInt, Instr.sameBits]
theorem KeyT.agg {kt : TypeId} {ks : List (Nat × TypeDesc)} {κ : Type} [DecidableEq κ] {xf : κ → List Value} (ha : isAgg? P kt = some true) (hk : eqKinds P kt = some ks)
    (hv : ∀ a b : κ, evalEq ks (xf a) (xf b) = some (decide (a = b))) (hc : ∀ (em : Bool) (k : κ), quietly P (Instr.checkKey em 10000 kt (.agg (xf k).toArray)) = some ()) (hsm : ∀ k : κ, Instr.sameBits 10000 (.agg (xf k).toArray) (.agg (xf k).toArray) = true) :
    KeyT P kt (fun k => .agg (xf k).toArray) := by
  unfold isAgg? at ha
  obtain ⟨d, hu, -⟩ := Option.map_eq_some_iff.1 ha
  exact ⟨hc, fun vf k l => keyAt_ask hu (fun a b => by cases d <;> rfl) (fun a b => (quietly_equal (x := .const undef) (y := .const undef) hk (hv a b) .eql).1) vf k l, hsm⟩
section
variable {e : Env} {d : Option Tmp} {x y z : Operand} {t u ty : TypeId} {pos : String} {af : Array Edge} {g : Option (Nat × Bool)} {H H1 : Heap} {tgt b : Nat} {κ α : Type} [DecidableEq κ] {kf : κ → Value} {vf : α → PV} {z0 v : α} {k : κ} {l : List (κ × α)}
theorem midx_get : ∀ (l : List (κ × α)) (i : Nat), midx l k = some i → ∃ y, l[i]? = some y ∧ y.1 = k ∧ mget l k = some y.2 ∧ mput l k v = l.set i (k, v)
  | [], i, h => by cases h
  | x :: l, i, h => by
    unfold midx at h
    unfold mget mput
    split at h
    · rename_i hx; cases h; rw [if_pos hx, if_pos hx]; exact ⟨x, rfl, hx, rfl, rfl⟩
    · rename_i hx
      rw [Option.map_eq_some_iff] at h
      obtain ⟨j, hj, rfl⟩ := h
      obtain ⟨y, h1, h2, h3, h4⟩ := midx_get l j hj
      rw [if_neg hx, if_neg hx]
      exact ⟨y, by simpa using h1, h2, h3, by simp [h4]⟩
theorem midx_none : ∀ (l : List (κ × α)), midx l k = none → mget l k = none ∧ mput l k v = l ++ [(k, v)]
  | [], h => ⟨rfl, rfl⟩
  | x :: l, h => by
    unfold midx at h
    unfold mget mput
    split at h
    · cases h
    · rename_i hx
      rw [Option.map_eq_none_iff] at h
      obtain ⟨h1, h2⟩ := midx_none l h
      rw [if_neg hx, if_neg hx]
      exact ⟨h1, by rw [h2]; rfl⟩
theorem mkM (hH : H.fill tgt (mpB kf vf ([] : List (κ × α))) = some H1) : aop P e ⟨d, .makeMap t none, ty, pos, af, g⟩ H tgt = some (.mp tgt, H1) := by
  have : H.fill tgt ⟨1, [], 0, some []⟩ = some H1 := hH
  simp [aop, this]
theorem lookup_all (hT : MpT P t kf vf z0) (hx : ev e x = .mp b) (hy : toV? (ev e y) = some (kf k)) (hb : H[b]? = some (mpB kf vf l)) (ok : Bool) :
    aop P e ⟨d, .lookup t x y ok, ty, pos, af, g⟩ H tgt = some (if ok then .tuple [vf ((mget l k).getD z0), .val (.bool (mget l k).isSome)] else vf ((mget l k).getD z0), H) := by
  obtain ⟨kt, el, hu, hK, hz⟩ := hT.ex
  rw [Option.map_eq_some_iff] at hz
  obtain ⟨zv, hz, hzv⟩ := hz
  simp only [aop, doLookup, hu, hx, entries, hb, Option.bind_some, hy, hK.check, hK.at_]
  cases hm : midx l k with
  | some i =>
    obtain ⟨y', h1, h2, h3, -⟩ := midx_get (v := z0) l i hm
    simp only [Option.bind_some, mpE, List.getElem?_map, h1, Option.map_some, h3, Option.getD_some, Option.isSome_some]
  | none =>
    obtain ⟨h3, -⟩ := midx_none (v := z0) l hm
    simp only [Option.bind_some, hz, Option.map_some, hzv, h3, Option.getD_none, Option.isSome_none]
theorem lkM (hT : MpT P t kf vf z0) (hx : ev e x = .mp b) (hy : toV? (ev e y) = some (kf k)) (hb : H[b]? = some (mpB kf vf l)) :
    aop P e ⟨d, .lookup t x y false, ty, pos, af, g⟩ H tgt = some (vf ((mget l k).getD z0), H) := by
  have := lookup_all (d := d) (ty := ty) (pos := pos) (af := af) (g := g) (tgt := tgt) hT hx hy hb false
  simpa using this
theorem update_all (hT : MpT P t kf vf z0) (hx : ev e x = .mp b) (hy : toV? (ev e y) = some (kf k)) (hz : ev e z = vf v) (hb : H[b]? = some (mpB kf vf l)) :
    doUpdate P t (ev e x) (ev e y) (ev e z) H = some (.undef, H.set b (mpB kf vf (mput l k v))) := by
  obtain ⟨kt, el, hu, hK, -⟩ := hT.ex
  simp only [doUpdate, hu, hx, hb, Option.bind_some, hy, hK.check, hK.at_, hz]
  cases hm : midx l k with
  | some i =>
    obtain ⟨y', h1, h2, h3, h4⟩ := midx_get (v := v) l i hm
    simp only [mpE, List.getElem?_map, h1, Option.map_some, Option.bind_some, h2, hK.same, if_true, h4, mpB, List.map_set]
  | none =>
    obtain ⟨h3, h4⟩ := midx_none (v := v) l hm
    simp only [h4, mpB, mpE, List.map_append, List.map_cons, List.map_nil, Option.bind_some]
theorem upM (hT : MpT P t kf vf z0) (hx : ev e x = .mp b) (hy : toV? (ev e y) = some (kf k)) (hz : ev e z = vf v) (hb : H[b]? = some (mpB kf vf l)) :
    aop P e ⟨d, .mapUpdate t x y z, ty, pos, af, g⟩ H tgt = some (.undef, H.set b (mpB kf vf (mput l k v))) := update_all hT hx hy hz hb
theorem inM (hT : MpT P t kf vf z0) (hx : ev e x = .mp b) (hy : toV? (ev e y) = some (kf k)) (hz : ev e z = vf v) (hb : H[b]? = some (mpB kf vf l)) :
    aop P e ⟨d, .insert t x y z, ty, pos, af, g⟩ H tgt = some (.undef, H.set b (mpB kf vf (mput l k v))) := update_all hT hx hy hz hb
theorem bcMap {f : Map} {l1 : List (κ × α)} (hf : ∀ a : α, PV.free deep (vf a) = true) (hl : l = l1) : BlkConv H f (mpB kf vf l) (mpB kf vf l1) := by
  subst hl
  have key : ∀ l : List (κ × α), All2 (fun (x y : Value × PV) => x.1 = y.1 ∧ Conv H f false x.2 y.2) (mpE kf vf l) (mpE kf vf l) := by
    intro l
    induction l with
    | nil => exact .nil
    | cons x l ih => exact .cons ⟨rfl, .free rfl (hf x.2)⟩ ih
  exact ⟨rfl, Nat.le_refl _, rfl, fun i x y hx _ => by simp at hx, fun i j x y p q hx _ _ _ => by simp at hx, .inr ⟨_, _, rfl, rfl, key l⟩⟩
theorem mvMp {n : Nat} (hx : ev e x = .mp n) : aop P e ⟨d, .move x, ty, pos, af, g⟩ H tgt = some (.mp n, H) := by simp [aop, hx]
theorem asMp {n : Nat} (hx : ev e x = .mp n) : aop P e ⟨d, .assign x, ty, pos, af, g⟩ H tgt = some (.mp n, H) := by simp [aop, hx]
theorem beq_str (a b : ByteArray) : (a == b) = decide (a = b) := by rw [Bool.eq_iff_iff, MapKept.bytes_beq]; simp
end
end Go.RM
namespace Go.RM
set_option linter.unusedVariables false
section
variable {P : Program} {X : FuncId → List PV → Heap → PV → Heap → Prop} {e : Env} {H H1 : Heap}
variable {N M : Nat} {all : Array Oper} {l : List Oper} {e' : Env} {H' : Heap} {p : PV} {v : Value} {d : Option Tmp} {op : Op} {x : Operand} {ty : TypeId} {pos : String} {af : Array Edge} {j t : Nat} {want B : Bool}
theorem D.o (ho : aop P e ⟨d, op, ty, pos, af, none⟩ H 0 = some (p, H1)) (h : D P X (.ops N all l (e.put d p) H1 e' H')) : D P X (.ops N all (⟨d, op, ty, pos, af, none⟩ :: l) e H e' H') := .op 0 rfl ho h
theorem D.m (hx : ev e x = .val v) (h : D P X (.ops N all l (e.put d (.val v)) H e' H')) : D P X (.ops N all (⟨d, .move x, ty, pos, af, none⟩ :: l) e H e' H') := .op 0 rfl (mvV hx) h
theorem D.a (hx : ev e x = .val v) (h : D P X (.ops N all l (e.put d (.val v)) H e' H')) : D P X (.ops N all (⟨d, .assign x, ty, pos, af, none⟩ :: l) e H e' H') := .op 0 rfl (asV hx) h
theorem D.g (hd : ((all[j]?).bind (·.dst)).map e = some (.val (.bool B))) (hB : B = want) (ho : aop P e ⟨d, op, ty, pos, af, some (j, want)⟩ H 0 = some (p, H1)) (h : D P X (.ops N all l (e.put d p) H1 e' H')) :
    D P X (.ops N all (⟨d, op, ty, pos, af, some (j, want)⟩ :: l) e H e' H') := by
  obtain ⟨t, h1, h2⟩ := Option.map_eq_some_iff.1 hd
  exact .op 0 (gT rfl h1 h2 hB) ho h
theorem D.n (hd : ((all[j]?).bind (·.dst)).map e = some (.val (.bool B))) (hB : B = !want) (h : D P X (.ops N all l (e.put d (.val undef)) H e' H')) :
    D P X (.ops N all (⟨d, op, ty, pos, af, some (j, want)⟩ :: l) e H e' H') := by
  obtain ⟨t, h1, h2⟩ := Option.map_eq_some_iff.1 hd
  exact .no (gF rfl h1 h2 hB) h
theorem D.u (hd : ((all[j]?).bind (·.dst)).map e = some (.val undef)) (h : D P X (.ops N all l (e.put d (.val undef)) H e' H')) :
    D P X (.ops N all (⟨d, op, ty, pos, af, some (j, want)⟩ :: l) e H e' H') := by
  obtain ⟨t, h1, h2⟩ := Option.map_eq_some_iff.1 hd
  exact .no (gN rfl h1 h2) h
theorem D.c {q : FuncId} {args : List PV} {r : PV} {xf : Operand} {ar : Array Operand} {tys : Array TypeId} {cs : List PV} (hx : ev e xf = .clo q cs) (hq : isGo P q = true) (hp : ar.toList.map (ev e) ++ cs = args) (ha : args.all (PV.free deep) = true) (hr : PV.free deep r = true) (hc : D P X (.callH q args [] r []))
    (h : D P X (.ops N all l (e.put d r) H e' H')) : D P X (.ops N all (⟨d, .call ⟨.value xf, ar, tys⟩, ty, pos, af, none⟩ :: l) e H e' H') := .callI rfl (callee_of hx hq hp) (.pure ha hr hc) h
theorem frees {f : Map} : ∀ {l : List (Nat × PV)}, l.map (fun x => e x.1) = l.map (·.2) → l.all (fun x => PV.free deep x.2) = true → ConvL H f e l
  | [], _, _ => trivial
  | (t, p) :: l, h, h' => by
    simp only [List.map_cons, List.cons.injEq] at h
    simp only [List.all_cons, Bool.and_eq_true] at h'
    exact ⟨.free h.1 (by rw [h.1]; exact h'.1), frees h.2 h'.2⟩
theorem D.k {fn rd k O} (l : List (Nat × PV)) (he : ConvL H (.keep []) e l) (h : D P X (.run fn N 0 rd k (listEnv l) [] O H')) : D P X (.run fn N 0 rd k e H O H') := .keepL [] l [] (fun b hb => absurd hb (Nat.not_lt_zero b)) (by simp) he trivial h
theorem D.kf {fn rd k O} (l : List (Nat × PV)) (hl : l.map (fun x => e x.1) = l.map (·.2)) (hf : l.all (fun x => PV.free deep x.2) = true) (h : D P X (.run fn N 0 rd k (listEnv l) [] O H')) : D P X (.run fn N 0 rd k e H O H') := .k l (frees hl hf) h
end
section
variable {P : Program} {X : FuncId → List PV → Heap → PV → Heap → Prop} {e : Env} {H : Heap}
variable {N : Nat} {ops : List Oper} {L : List (Nat × Nat × PV)} {LH : List (Nat × Nat × Blk)} {As : List (List Nat)} {i t : Nat} {p : PV} {op : Op} {ty : TypeId} {pos : String} {af : Array Edge} {H2 : (Nat → Bool) → Heap} {g : Option (Nat × Bool)}
theorem oW (tgt : Nat) (ho : ∀ S, aop P (drawE e L (mask As i S)) ⟨some t, op, ty, pos, af, none⟩ (drawH 0 H LH (mask As i S)) tgt = some (p, H2 S)) (hL : (laterOk (ahead As) i t L, entry i L) = (true, some p)) (hH : ∀ S, H2 S = drawH 0 H LH (plus (mask As i S) i)) :
    OneM P X N ops e H L LH As i ⟨some t, op, ty, pos, af, none⟩ := fun S hS hD hn => by
  rw [Prod.mk.injEq] at hL
  exact .one tgt hS hD hn rfl rfl (ho S) hL.1 hL.2 (hH S)
theorem drawH_other (i : Nat) (S : Nat → Bool) {LH : List (Nat × Nat × Blk)} (h : LH.all (fun x => x.1 != i) = true) : ∀ (n : Nat) (H : Heap), drawH n H LH S = drawH n H LH (plus S i)
  | _, [] => rfl
  | n, k :: H => by
    have hv : ∀ (l : List (Nat × Nat × Blk)), l.all (fun x => x.1 != i) = true → ver n k l S = ver n k l (plus S i) := by
      intro l
      induction l with
      | nil => intro _; rfl
      | cons x l ih =>
        obtain ⟨q, b, k'⟩ := x
        intro hl
        simp only [List.all_cons, Bool.and_eq_true, bne_iff_ne, ne_eq] at hl
        simp only [ver, ih hl.2, plus, show (q == i) = false by simpa using hl.1, Bool.false_or]
    simp only [drawH, hv LH h, drawH_other i S h (n + 1) H]
theorem oP (ho : ∀ S, aop P (drawE e L (mask As i S)) ⟨some t, op, ty, pos, af, none⟩ (drawH 0 H LH (mask As i S)) 0 = some (p, drawH 0 H LH (mask As i S))) (hL : (laterOk (ahead As) i t L, entry i L, LH.all (fun x => x.1 != i)) = (true, some p, true)) :
    OneM P X N ops e H L LH As i ⟨some t, op, ty, pos, af, none⟩ := fun S hS hD hn => by
  simp only [Prod.mk.injEq] at hL
  exact .one 0 hS hD hn rfl rfl (ho S) hL.1 hL.2.1 (drawH_other i _ hL.2.2 0 H)
theorem oG {j u : Nat} {want B : Bool} (hd : (ops.toArray[j]?).bind (·.dst) = some u) (he : ∀ S, drawE e L (mask As i S) u = .val (.bool B)) (hB : B = want) (ho : ∀ S, aop P (drawE e L (mask As i S)) ⟨some t, op, ty, pos, af, some (j, want)⟩ (drawH 0 H LH (mask As i S)) 0 = some (p, drawH 0 H LH (mask As i S)))
    (hL : (laterOk (ahead As) i t L, entry i L, LH.all (fun x => x.1 != i)) = (true, some p, true)) : OneM P X N ops e H L LH As i ⟨some t, op, ty, pos, af, some (j, want)⟩ := fun S hS hD hn => by
  simp only [Prod.mk.injEq] at hL
  exact .one 0 hS hD hn (gT rfl hd (he S) hB) rfl (ho S) hL.1 hL.2.1 (drawH_other i _ hL.2.2 0 H)
theorem oN {j u : Nat} {want B : Bool} (hd : (ops.toArray[j]?).bind (·.dst) = some u) (he : ∀ S, drawE e L (mask As i S) u = .val (.bool B)) (hB : B = !want)
    (hL : (laterOk (ahead As) i t L, entry i L, LH.all (fun x => x.1 != i)) = (true, some (.val undef), true)) : OneM P X N ops e H L LH As i ⟨some t, op, ty, pos, af, some (j, want)⟩ := fun S hS hD hn => by
  simp only [Prod.mk.injEq] at hL
  exact .oneNo hS hD (gF rfl hd (he S) hB) rfl hn hL.1 hL.2.1 (drawH_other i _ hL.2.2 0 H)
end
theorem q.{u} {α : Sort u} {a : α} : a = a := rfl
abbrev nul : PV := .val (.slice none 0 0)
abbrev und : PV := .val undef
abbrev i6 (i : Int) : PV := .val (.int .i64 i)
abbrev u6 (i : Int) : PV := .val (.int .u64 i)
abbrev bo (b : Bool) : PV := .val (.bool b)
theorem nb {v : Bool} (h : ¬ v = true) : v = false := Bool.eq_false_iff.mpr h
theorem bt {α : Type} [BEq α] [LawfulBEq α] {a b : α} (h : a = b) : (a == b) = true := beq_iff_eq.mpr h
theorem bn {α : Type} [BEq α] [LawfulBEq α] {a b : α} (h : ¬ a = b) : (a == b) = false := beq_eq_false_iff_ne.mpr h
theorem nt {α : Type} [BEq α] [LawfulBEq α] {a b : α} (h : ¬ a = b) : (a != b) = true := bne_iff_ne.mpr h
theorem nf {α : Type} [BEq α] [LawfulBEq α] {a b : α} (h : a = b) : (a != b) = false := bne_eq_false_iff_eq.mpr h
theorem dt {p : Prop} [Decidable p] (h : p) : decide p = true := decide_eq_true h
theorem df {p : Prop} [Decidable p] (h : ¬ p) : decide p = false := decide_eq_false h
end Go.RM
set_option linter.unusedVariables false
set_option maxRecDepth 8000
set_option maxHeartbeats 4000000
namespace Go.RM.Tryz
open Go.RM Go.Proofs
structure TStep where
  From : Int
  To : Int
  Kind : Int
  X : Int
  Y : Int
  K : Int
  Site : Int
instance : Inhabited TStep := ⟨⟨0, 0, 0, 0, 0, 0, 0⟩⟩
def TStep.cells (x : TStep) : List PV := [.val (.int .i64 x.From), .val (.int .i64 x.To), .val (.int .i64 x.Kind), .val (.int .i64 x.X), .val (.int .i64 x.Y), .val (.int .i64 x.K), .val (.int .i64 x.Site)]
@[reducible] def TStep.lit (x : TStep) : List PV := TStep.cells x
theorem TStep.cells_ok (x : TStep) : (TStep.cells x).length = 7 ∧ (TStep.cells x).all (PV.free deep) = true ∧ (TStep.cells x).all PV.one = true := ⟨q, q, q⟩
structure TSite where
  Name : ByteArray
  Proc : Int
  From : Int
  Back : Int
instance : Inhabited TSite := ⟨⟨⟨#[]⟩, 0, 0, 0⟩⟩
def TSite.cells (x : TSite) : List PV := [.val (.string x.Name), .val (.int .i64 x.Proc), .val (.int .i64 x.From), .val (.int .i64 x.Back)]
@[reducible] def TSite.lit (x : TSite) : List PV := TSite.cells x
theorem TSite.cells_ok (x : TSite) : (TSite.cells x).length = 4 ∧ (TSite.cells x).all (PV.free deep) = true ∧ (TSite.cells x).all PV.one = true := ⟨q, q, q⟩
structure TPoint where
  Name : ByteArray
  Node : Int
instance : Inhabited TPoint := ⟨⟨⟨#[]⟩, 0⟩⟩
def TPoint.cells (x : TPoint) : List PV := [.val (.string x.Name), .val (.int .i64 x.Node)]
@[reducible] def TPoint.lit (x : TPoint) : List PV := TPoint.cells x
theorem TPoint.cells_ok (x : TPoint) : (TPoint.cells x).length = 2 ∧ (TPoint.cells x).all (PV.free deep) = true ∧ (TPoint.cells x).all PV.one = true := ⟨q, q, q⟩
structure TSink where
  X : Int
  Node : Int
instance : Inhabited TSink := ⟨⟨0, 0⟩⟩
def TSink.cells (x : TSink) : List PV := [.val (.int .i64 x.X), .val (.int .i64 x.Node)]
@[reducible] def TSink.lit (x : TSink) : List PV := TSink.cells x
theorem TSink.cells_ok (x : TSink) : (TSink.cells x).length = 2 ∧ (TSink.cells x).all (PV.free deep) = true ∧ (TSink.cells x).all PV.one = true := ⟨q, q, q⟩
structure TGraph where
  Vars : List ByteArray
  Procs : List ByteArray
  Entry : List Int
  Exit : List Int
  Main : Int
  Of : List Int
  Steps : List TStep
  Sites : List TSite
  Points : List TPoint
  Sinks : List TSink
instance : Inhabited TGraph := ⟨⟨[], [], [], [], 0, [], [], [], [], []⟩⟩
def TGraph.cells (x : TGraph) : List PV := [.rows (x.Vars.map cStr), .rows (x.Procs.map cStr), .rows (x.Entry.map (cInt .i64)), .rows (x.Exit.map (cInt .i64)), .val (.int .i64 x.Main), .rows (x.Of.map (cInt .i64)), .rows (x.Steps.map TStep.cells), .rows (x.Sites.map TSite.cells), .rows (x.Points.map TPoint.cells), .rows (x.Sinks.map TSink.cells)]
@[reducible] def TGraph.lit (x : TGraph) : List PV := TGraph.cells x
theorem TGraph.cells_ok (x : TGraph) : (TGraph.cells x).length = 10 ∧ (TGraph.cells x).all (PV.free deep) = true ∧ (TGraph.cells x).all PV.one = true := ⟨q, q, q⟩
structure TState where
  Node : Int
  Env : List Int
  Marks : Int
  Stack : List Int
instance : Inhabited TState := ⟨⟨0, [], 0, []⟩⟩
def TState.cells (x : TState) : List PV := [.val (.int .i64 x.Node), .rows (x.Env.map (cInt .i64)), .val (.int .u64 x.Marks), .rows (x.Stack.map (cInt .i64))]
@[reducible] def TState.lit (x : TState) : List PV := TState.cells x
theorem TState.cells_ok (x : TState) : (TState.cells x).length = 4 ∧ (TState.cells x).all (PV.free deep) = true ∧ (TState.cells x).all PV.one = true := ⟨q, q, q⟩
structure TKey where
  node : Int
  marks : Int
  rest : ByteArray
instance : Inhabited TKey := ⟨⟨0, 0, ⟨#[]⟩⟩⟩
def TKey.cells (x : TKey) : List PV := [.val (.int .i64 x.node), .val (.int .u64 x.marks), .val (.string x.rest)]
@[reducible] def TKey.lit (x : TKey) : List PV := TKey.cells x
theorem TKey.cells_ok (x : TKey) : (TKey.cells x).length = 3 ∧ (TKey.cells x).all (PV.free deep) = true ∧ (TKey.cells x).all PV.one = true := ⟨q, q, q⟩
structure TMove where
  Step : Int
  Draw : Int
instance : Inhabited TMove := ⟨⟨0, 0⟩⟩
def TMove.cells (x : TMove) : List PV := [.val (.int .i64 x.Step), .val (.int .i64 x.Draw)]
@[reducible] def TMove.lit (x : TMove) : List PV := TMove.cells x
theorem TMove.cells_ok (x : TMove) : (TMove.cells x).length = 2 ∧ (TMove.cells x).all (PV.free deep) = true ∧ (TMove.cells x).all PV.one = true := ⟨q, q, q⟩
end Go.RM.Tryz
