/- ND NE NF NG NH, for the statement FramesReached: what it needs, no more. -/
import Derived.Test.YtcogffeinodfaaaGreatDoorZFramesReachedGA
namespace Go.RM
set_option linter.unusedVariables false
def putL : List (Nat × PV) → Nat → PV → List (Nat × PV)
  | [], t, p => [(t, p)]
  | (u, q) :: l, t, p => if u = t then (u, p) :: l else (u, q) :: putL l t p
theorem listEnv_put : ∀ (l : List (Nat × PV)) (t : Nat) (p : PV), listEnv (putL l t p) = (listEnv l).set t p
  | [], t, p => by funext u; simp [putL, listEnv, Env.set]
  | (v, q) :: l, t, p => by
    funext u
    unfold putL
    by_cases h : v = t
    · subst h
      simp only [if_true, listEnv, Env.set]
      by_cases hu : u = v <;> simp [hu]
    · simp only [h, if_false, listEnv, Env.set, listEnv_put l t p]
      by_cases hu : u = v
      · simp [hu, h]
      · simp [hu]
inductive TE where
  | tip (l : List (Nat × PV))
  | node (v : PV) (l r : TE)
noncomputable def teEnv (T : TE) : Env := TE.rec (motive := fun _ => Nat → PV) (fun l t => listEnv l t)
  (fun v _ _ gl gr t => Bool.rec (motive := fun _ => PV) (Bool.rec (motive := fun _ => PV) (gr (Nat.div (Nat.sub t 1) 2)) (gl (Nat.div (Nat.sub t 1) 2)) (Nat.beq (Nat.mod t 2) 1)) v (Nat.beq t 0)) T
noncomputable def growT (k : Nat) : Nat → PV → TE := Nat.rec (motive := fun _ => Nat → PV → TE) (fun t p => .tip [(t, p)])
  (fun _ g t p => Bool.rec (motive := fun _ => TE) (Bool.rec (motive := fun _ => TE) (.node .undef (.tip []) (g (Nat.div (Nat.sub t 1) 2) p)) (.node .undef (g (Nat.div (Nat.sub t 1) 2) p) (.tip [])) (Nat.beq (Nat.mod t 2) 1)) (.node p (.tip []) (.tip [])) (Nat.beq t 0)) k
noncomputable def putT (T : TE) : Nat → PV → TE := TE.rec (motive := fun _ => Nat → PV → TE) (fun l t p => List.rec (motive := fun _ => TE) (growT 10 t p) (fun x l' _ => .tip (putL (x :: l') t p)) l)
  (fun v l r pl pr t p => Bool.rec (motive := fun _ => TE) (Bool.rec (motive := fun _ => TE) (.node v l (pr (Nat.div (Nat.sub t 1) 2) p)) (.node v (pl (Nat.div (Nat.sub t 1) 2) p) r) (Nat.beq (Nat.mod t 2) 1)) (.node p l r) (Nat.beq t 0)) T
theorem teEnv_tip (l : List (Nat × PV)) : teEnv (.tip l) = listEnv l := rfl
theorem teEnv_node (v : PV) (l r : TE) (t : Nat) : teEnv (.node v l r) t = if t = 0 then v else if t % 2 = 1 then teEnv l ((t - 1) / 2) else teEnv r ((t - 1) / 2) := by
  show Bool.rec (motive := fun _ => PV) (Bool.rec (motive := fun _ => PV) (teEnv r ((t - 1) / 2)) (teEnv l ((t - 1) / 2)) (Nat.beq (t % 2) 1)) v (Nat.beq t 0) = _
  by_cases h : t = 0
  · subst h; rfl
  · rw [if_neg h]
    have : Nat.beq t 0 = false := by rw [← Bool.not_eq_true, Nat.beq_eq]; exact h
    rw [this]
    simp only
    by_cases h2 : t % 2 = 1
    · rw [if_pos h2, h2]; rfl
    · rw [if_neg h2]
      have : Nat.beq (t % 2) 1 = false := by rw [← Bool.not_eq_true, Nat.beq_eq]; exact h2
      rw [this]
theorem growT_env : ∀ (k t : Nat) (p : PV) (u : Nat), teEnv (growT k t p) u = if u = t then p else .undef
  | 0, t, p, u => by show listEnv [(t, p)] u = _; simp [listEnv]
  | k + 1, t, p, u => by
    have e : growT (k + 1) t p = Bool.rec (motive := fun _ => TE) (Bool.rec (motive := fun _ => TE) (.node .undef (.tip []) (growT k ((t - 1) / 2) p)) (.node .undef (growT k ((t - 1) / 2) p) (.tip [])) (Nat.beq (t % 2) 1)) (.node p (.tip []) (.tip [])) (Nat.beq t 0) := rfl
    rw [e]
    have ih := growT_env k ((t - 1) / 2) p
    by_cases h : t = 0
    · subst h
      show teEnv (.node p (.tip []) (.tip [])) u = _
      rw [teEnv_node]; simp [teEnv_tip, listEnv]
    · have h1 : Nat.beq t 0 = false := by rw [← Bool.not_eq_true, Nat.beq_eq]; exact h
      rw [h1]
      simp only
      by_cases h2 : t % 2 = 1
      · rw [h2]
        show teEnv (.node .undef (growT k ((t - 1) / 2) p) (.tip [])) u = _
        rw [teEnv_node]
        simp only [ih, teEnv_tip, listEnv]
        by_cases h3 : u = t
        · subst h3; simp [h, h2]
        · rw [if_neg h3]
          by_cases h4 : u = 0
          · simp [h4]
          · rw [if_neg h4]
            by_cases h5 : u % 2 = 1
            · rw [if_pos h5, if_neg (by omega)]
            · rw [if_neg h5]
      · have h1 : Nat.beq (t % 2) 1 = false := by rw [← Bool.not_eq_true, Nat.beq_eq]; exact h2
        rw [h1]
        simp only
        rw [teEnv_node]
        simp only [ih, teEnv_tip, listEnv]
        by_cases h3 : u = t
        · subst h3; simp [h, h2]
        · rw [if_neg h3]
          by_cases h4 : u = 0
          · simp [h4]
          · rw [if_neg h4]
            by_cases h5 : u % 2 = 1
            · rw [if_pos h5]
            · rw [if_neg h5, if_neg (by omega)]
theorem putT_env : ∀ (T : TE) (t : Nat) (p : PV), teEnv (putT T t p) = (teEnv T).set t p
  | .tip [], t, p => by
    funext u
    show teEnv (growT 10 t p) u = _
    rw [growT_env]; rfl
  | .tip (x :: l), t, p => by
    show teEnv (.tip (putL (x :: l) t p)) = _
    rw [teEnv_tip, listEnv_put]; rfl
  | .node v l r, t, p => by
    have e : putT (.node v l r) t p = Bool.rec (motive := fun _ => TE) (Bool.rec (motive := fun _ => TE) (.node v l (putT r ((t - 1) / 2) p)) (.node v (putT l ((t - 1) / 2) p) r) (Nat.beq (t % 2) 1)) (.node p l r) (Nat.beq t 0) := rfl
    rw [e]
    have il := putT_env l ((t - 1) / 2) p
    have ir := putT_env r ((t - 1) / 2) p
    funext u
    unfold Env.set
    by_cases h : t = 0
    · subst h
      show teEnv (.node p l r) u = _
      rw [teEnv_node, teEnv_node]
      by_cases hu : u = 0 <;> simp [hu]
    · have h1 : Nat.beq t 0 = false := by rw [← Bool.not_eq_true, Nat.beq_eq]; exact h
      rw [h1]
      simp only
      by_cases h2 : t % 2 = 1
      · rw [h2]
        show teEnv (.node v (putT l ((t - 1) / 2) p) r) u = _
        rw [teEnv_node, teEnv_node, il]
        unfold Env.set
        by_cases h3 : u = t
        · subst h3; simp [h, h2]
        · rw [if_neg h3]
          by_cases h4 : u = 0
          · simp [h4]
          · rw [if_neg h4, if_neg h4]
            by_cases h5 : u % 2 = 1
            · rw [if_pos h5, if_pos h5, if_neg (by omega)]
            · rw [if_neg h5, if_neg h5]
      · have h1 : Nat.beq (t % 2) 1 = false := by rw [← Bool.not_eq_true, Nat.beq_eq]; exact h2
        rw [h1]
        simp only
        rw [teEnv_node, teEnv_node, ir]
        unfold Env.set
        by_cases h3 : u = t
        · subst h3; simp [h, h2]
        · rw [if_neg h3]
          by_cases h4 : u = 0
          · simp [h4]
          · rw [if_neg h4, if_neg h4]
            by_cases h5 : u % 2 = 1
            · rw [if_pos h5, if_pos h5]
            · rw [if_neg h5, if_neg h5, if_neg (by omega)]
end Go.RM
namespace Go.RM
set_option linter.unusedVariables false
set_option linter.unusedSimpArgs false
section
variable {P : Program} {X : FuncId → List PV → Heap → PV → Heap → Prop}
abbrev LE := TE
noncomputable def putO (l : LE) (d : Option Tmp) (p : PV) : LE := match d with
  | some t => putT l t p
  | none => l
theorem listEnv_putO (l : LE) (d : Option Tmp) (p : PV) : teEnv (putO l d p) = (teEnv l).put d p := by
  cases d with
  | none => rfl
  | some t => exact putT_env l t p
def isAlloc (o : Oper) : Bool := match o.op with
  | .alloc _ | .box _ _ | .buildSlice _ _ _ | .makeSlice _ _ _ => true
  | .call { callee := .builtin .append, .. } => true
  | _ => false
abbrev CF := FuncId → List PV → Heap → Option (PV × Heap)
abbrev CP := FuncId → List PV → Option PV
noncomputable def evOp (P : Program) (cf : CF) (all : Array Oper) (o : Oper) (l : LE) (H : Heap) (tgt : Nat) : Option (PV × Heap) :=
  match wants all (teEnv l) o with
  | none => none
  | some false => some (.val undef, H)
  | some true => match callee P (teEnv l) o with
    | some fa => cf fa.1 fa.2 H
    | none => aop P (teEnv l) o H tgt
def CFok (P : Program) (X : FuncId → List PV → Heap → PV → Heap → Prop) (cf : CF) : Prop := ∀ f args H r H1, cf f args H = some (r, H1) → D P X (.callH f args H r H1)
def CPok (P : Program) (X : FuncId → List PV → Heap → PV → Heap → Prop) (cp : CP) : Prop := ∀ f args r, cp f args = some r → args.all (PV.free deep) = true ∧ PV.free deep r = true ∧ D P X (.callH f args [] r [])
theorem evOp_step {cf : CF} (hcf : CFok P X cf) {N all o l H tgt p H1 k e' H'} (h : evOp P cf all o l H tgt = some (p, H1)) (hk : D P X (.ops N all k (teEnv (putO l o.dst p)) H1 e' H')) : D P X (.ops N all (o :: k) (teEnv l) H e' H') := by
  rw [listEnv_putO] at hk
  unfold evOp at h
  split at h
  · cases h
  · rename_i hw
    injection h with h; injection h with h1 h2
    subst h1 h2
    exact .no hw hk
  · rename_i hw
    split at h
    · rename_i fa hf
      exact .callI hw hf (hcf _ _ _ _ _ h) hk
    · exact .op tgt hw h hk
noncomputable def evOps (P : Program) (cf : CF) (all : Array Oper) : List Oper → LE → Heap → Nat → Option (LE × Heap)
  | [], l, H, _ => some (l, H)
  | o :: os, l, H, tgt => match evOp P cf all o l H tgt with
    | none => none
    | some ph => evOps P cf all os (putO l o.dst ph.1) ph.2 (if isAlloc o then tgt + 1 else tgt)
theorem evOps_sound {cf : CF} (hcf : CFok P X cf) {N all} : ∀ {ops : List Oper} {l : LE} {H : Heap} {tgt : Nat} {l' : LE} {H' : Heap}, evOps P cf all ops l H tgt = some (l', H') → D P X (.ops N all ops (teEnv l) H (teEnv l') H')
  | [], l, H, tgt, l', H', h => by
    injection h with h; injection h with h1 h2
    subst h1 h2
    exact .nil0
  | o :: os, l, H, tgt, l', H', h => by
    unfold evOps at h
    split at h
    · cases h
    · rename_i ph hp
      exact evOp_step hcf (p := ph.1) (H1 := ph.2) hp (evOps_sound hcf h)

theorem arr_all_congr {α : Type} {f g : α → Bool} {a : Array α} (h : ∀ x ∈ a, f x = g x) : a.all f = a.all g := by
  rw [Bool.eq_iff_iff, Array.all_eq_true_iff_forall_mem, Array.all_eq_true_iff_forall_mem]
  exact ⟨fun k x hx => by rw [← h x hx]; exact k x hx, fun k x hx => by rw [h x hx]; exact k x hx⟩
theorem generic_congr {e e' : Env} {o : Oper} {H : Heap} (hs : ∀ cs b, o.op ≠ .select cs b) (h : ∀ x ∈ o.op.operands, ev e x = ev e' x) : generic P e o H = generic P e' o H := by
  unfold generic
  rw [arr_all_congr (g := fun x => (toV? (ev e' x)).isSome) (fun x hx => by rw [h x hx])]
  rw [execOp_congr (ρ := fun x => (toV? (ev e x)).getD undef) (ρ' := fun x => (toV? (ev e' x)).getD undef) o hs (fun x hx => by simp only [h x hx])]
theorem aop_congr {e e' : Env} {o : Oper} {H : Heap} {tgt : Nat} (h : ∀ x ∈ o.op.operands, ev e x = ev e' x) : aop P e o H tgt = aop P e' o H tgt := by
  have hg : (∀ cs b, o.op ≠ .select cs b) → generic P e o H = generic P e' o H := fun hs => generic_congr hs h
  obtain ⟨d, op, ty, pos, af, g⟩ := o
  simp only at h hg
  unfold aop
  have no : ∀ {q : Op}, op = q → (∀ cs b, q ≠ .select cs b) → ∀ cs b, op ≠ .select cs b := fun hq hn => hq ▸ hn
  cases op with
  | move x => simp only [h x (by simp [Op.operands])]
  | assign x => simp only [h x (by simp [Op.operands])]
  | pick c a b => simp only [h c (by simp [Op.operands]), h a (by simp [Op.operands]), h b (by simp [Op.operands])]
  | alloc t => rfl
  | box t x => simp only [h x (by simp [Op.operands])]
  | build t ps =>
    have : (ps.toList.map fun x => (x.1, ev e x.2)) = (ps.toList.map fun x => (x.1, ev e' x.2)) := List.map_congr_left fun x hx => by rw [h x.2 (by simp [Op.operands]; exact ⟨x.1, by simpa using hx⟩)]
    simp only [this]
  | buildSlice t n ps =>
    have : (ps.toList.map fun x => (x.1, ev e x.2)) = (ps.toList.map fun x => (x.1, ev e' x.2)) := List.map_congr_left fun x hx => by rw [h x.2 (by simp [Op.operands]; exact ⟨x.1, by simpa using hx⟩)]
    simp only [this]
  | load t a => simp only [h a (by simp [Op.operands])]
  | store t a x => simp only [h a (by simp [Op.operands]), h x (by simp [Op.operands])]
  | nilCheck x =>
    simp only [h x (by simp [Op.operands])]
    split <;> first | rfl | exact hg (fun _ _ h => by cases h)
  | makeFunc fn first cs =>
    cases fn with
    | func f =>
      have : cs.toList.map (ev e) = cs.toList.map (ev e') := List.map_congr_left fun x hx => h x (by simp [Op.operands]; exact .inr (by simpa using hx))
      simp only [this]
    | _ => exact hg (fun _ _ h => by cases h)
  | makeSlice t l c => simp only [h l (by simp [Op.operands]), h c (by simp [Op.operands])]
  | slice t x lo hi mx =>
    have h1 : lo.map (ev e) = lo.map (ev e') := by cases lo with | none => rfl | some y => simp [h y (by simp [Op.operands])]
    have h2 : hi.map (ev e) = hi.map (ev e') := by cases hi with | none => rfl | some y => simp [h y (by simp [Op.operands])]
    have h3 : mx.map (ev e) = mx.map (ev e') := by cases mx with | none => rfl | some y => simp [h y (by simp [Op.operands])]
    simp only [h1, h2, h3, h x (by simp [Op.operands])]
    unfold doSlice
    rw [hg (fun _ _ h => by cases h)]
  | fieldAddr t x f => simp only [h x (by simp [Op.operands])]
  | field t x f => simp only [h x (by simp [Op.operands])]
  | indexAddr t x ix => simp only [h x (by simp [Op.operands]), h ix (by simp [Op.operands])]
  | index t x ix =>
    simp only [h x (by simp [Op.operands]), h ix (by simp [Op.operands])]
    split <;> first | rfl | exact hg (fun _ _ h => by cases h)
  | extract t i => simp only [h t (by simp [Op.operands])]
  | makeMap t r =>
    cases r with
    | none => rfl
    | some x => exact hg (fun _ _ h => by cases h)
  | lookup t m k ok => simp only [h m (by simp [Op.operands]), h k (by simp [Op.operands])]
  | mapUpdate t m k x => simp only [h m (by simp [Op.operands]), h k (by simp [Op.operands]), h x (by simp [Op.operands])]
  | insert t m k x => simp only [h m (by simp [Op.operands]), h k (by simp [Op.operands]), h x (by simp [Op.operands])]
  | binOp b t x y u =>
    have hx := h x (by simp [Op.operands])
    have hy := h y (by simp [Op.operands])
    have hgg := hg (fun _ _ h => by cases h)
    cases b <;> simp only [hx, hy, hgg]
  | call c =>
    obtain ⟨cal, args, tys⟩ := c
    have hgg := hg (fun _ _ h => by cases h)
    have ha : ∀ x ∈ args.toList, ev e x = ev e' x := fun x hx => h x (by simp [Op.operands, Call.operands]; exact .inr (by simpa using hx))
    cases cal with
    | builtin b =>
      cases b with
      | len =>
        simp only []
        split
        · rename_i x t hxx htt
          rw [hxx] at ha
          simp only [ha x (.head _), hgg]
        · rfl
      | append =>
        simp only []
        split
        · rename_i s x t u hxx htt
          rw [hxx] at ha
          simp only [ha x (.tail _ (.head _)), ha s (.head _)]
        · rfl
      | _ => exact hgg
    | _ => exact hgg
  | select cs b => rfl
  | _ => exact hg (fun _ _ h => by cases h)
theorem callee_congr {e e' : Env} {o : Oper} (h : ∀ x ∈ o.op.operands, ev e x = ev e' x) : callee P e o = callee P e' o := by
  obtain ⟨d, op, ty, pos, af, g⟩ := o
  simp only at h
  unfold callee
  cases op with
  | call c =>
    obtain ⟨cal, args, tys⟩ := c
    have ha : args.toList.map (ev e) = args.toList.map (ev e') := List.map_congr_left fun x hx => h x (by simp [Op.operands, Call.operands]; exact .inr (by simpa using hx))
    cases cal with
    | value f => simp only [h f (by simp [Op.operands, Call.operands]), ha]
    | _ => rfl
  | _ => rfl
theorem wants_congr {e e' : Env} {all : Array Oper} {o : Oper} (h : ∀ j w t, o.guard = some (j, w) → (all[j]?).bind (·.dst) = some t → e t = e' t) : wants all e o = wants all e' o := by
  unfold wants
  cases hg : o.guard with
  | none => rfl
  | some jw =>
    obtain ⟨j, w⟩ := jw
    simp only
    cases hd : (all[j]?).bind (·.dst) with
    | none => rfl
    | some t => simp only [h j w t hg hd]
def kindOp (op : Op) : Nat := match op with
  | .move _ | .assign _ | .pick _ _ _ | .build _ _ | .nilCheck _ | .fieldAddr _ _ _ | .field _ _ _ | .index _ _ _ | .extract _ _ | .binOp _ _ _ _ _ | .unOp _ _ _ | .convert _ _ _ => 0
  | .makeFunc (.func _) _ _ => 0
  | .load _ _ | .indexAddr _ _ _ => 1
  | .call { callee := .builtin .len, .. } => 1
  | _ => 2
theorem generic_pure {e : Env} {o : Oper} {H H1 : Heap} {p : PV} (h : generic P e o H = some (p, H1)) : H1 = H ∧ ∀ H2, generic P e o H2 = some (p, H2) := by
  unfold generic at h ⊢
  split at h
  · rename_i hc
    simp only [hc, if_true]
    split at h
    · rename_i v hv
      injection h with h; injection h with h1 h2
      subst h1
      exact ⟨h2.symm, fun H2 => by first | rfl | rw [hv]⟩
    · cases h
  · cases h
theorem build_pure {t : TypeId} {ps : List (Nat × PV)} {H H1 : Heap} {p : PV} (h : doBuild P t ps H = some (p, H1)) : H1 = H ∧ ∀ H2, doBuild P t ps H2 = some (p, H2) := by
  unfold doBuild at h ⊢
  cases hz : zero? P t with
  | none => rw [hz] at h; cases h
  | some z =>
    rw [hz] at h
    simp only [Option.bind_some] at h ⊢
    split at h
    · rename_i fs hu
      try rw [hu]
      try simp only
      cases hp : omap (fun (f : Field) => (sizeOf? P f.type).map fun s => (f.offset, s)) fs.toList with
      | none => rw [hp] at h; cases h
      | some pl =>
        rw [hp] at h
        simp only [Option.bind_some] at h ⊢
        cases hf : fillP (fun i => pl[i]?) z ps with
        | none => rw [hf] at h; cases h
        | some cs => rw [hf] at h; injection h with h; injection h with h1 h2; subst h1; exact ⟨h2.symm, fun H2 => rfl⟩
    · rename_i q el hu
      try rw [hu]
      try simp only
      cases hs : sizeOf? P el with
      | none => rw [hs] at h; cases h
      | some s =>
        rw [hs] at h
        simp only [Option.bind_some] at h ⊢
        cases hf : fillP (fun i => some (i * s, s)) z ps with
        | none => rw [hf] at h; cases h
        | some cs => rw [hf] at h; injection h with h; injection h with h1 h2; subst h1; exact ⟨h2.symm, fun H2 => rfl⟩
    · cases h
theorem some_pure {x p : PV} {H H1 : Heap} (h : some (x, H) = some (p, H1)) : H1 = H ∧ ∀ H2 : Heap, some (x, H2) = some (p, H2) := by
  injection h with h; injection h with h1 h2
  subst h1
  exact ⟨h2.symm, fun _ => rfl⟩
theorem map_pure {x : Option PV} {p : PV} {H H1 : Heap} (h : x.map (·, H) = some (p, H1)) : H1 = H ∧ ∀ H2 : Heap, x.map (·, H2) = some (p, H2) := by
  cases x with
  | none => cases h
  | some y => exact some_pure h
theorem omap1_pure {α : Type} {x : Option α} {f : α → PV} {p : PV} {H H1 : Heap} (h : (x.map fun y => (f y, H)) = some (p, H1)) : H1 = H ∧ True := by
  cases x with
  | none => cases h
  | some y => injection h with h; injection h with h1 h2; exact ⟨h2.symm, trivial⟩
theorem aop_pure {e : Env} {o : Oper} {H H1 : Heap} {tgt : Nat} {p : PV} (hk : kindOp o.op = 0) (h : aop P e o H tgt = some (p, H1)) : H1 = H ∧ ∀ H2 t2, aop P e o H2 t2 = some (p, H2) := by
  have hg : ∀ {H1 : Heap} {p : PV}, generic P e o H = some (p, H1) → H1 = H ∧ ∀ H2, generic P e o H2 = some (p, H2) := generic_pure
  obtain ⟨d, op, ty, pos, af, g⟩ := o
  simp only at hk
  unfold aop at h ⊢
  cases op with
  | move x => have := some_pure h; exact ⟨this.1, fun H2 _ => this.2 H2⟩
  | assign x => have := some_pure h; exact ⟨this.1, fun H2 _ => this.2 H2⟩
  | pick c a b =>
    simp only at h ⊢
    split at h
    · rename_i t hc
      try rw [hc]
      have := some_pure h; exact ⟨this.1, fun H2 _ => this.2 H2⟩
    · cases h
  | build t ps => have := build_pure h; exact ⟨this.1, fun H2 _ => this.2 H2⟩
  | nilCheck x =>
    simp only at h ⊢
    split at h
    · rename_i hc; (try rw [hc]); have := some_pure h; exact ⟨this.1, fun H2 _ => this.2 H2⟩
    · rename_i hc; (try rw [hc]); have := some_pure h; exact ⟨this.1, fun H2 _ => this.2 H2⟩
    · rename_i hc; (try rw [hc]); have := some_pure h; exact ⟨this.1, fun H2 _ => this.2 H2⟩
    · rename_i h1 h2 h3
      have := hg h
      exact ⟨this.1, fun H2 _ => this.2 H2⟩
  | fieldAddr t x f =>
    simp only at h ⊢
    cases hf : fieldOf P t f with
    | none => rw [hf] at h; cases h
    | some d2 =>
      rw [hf] at h
      simp only [Option.bind_some] at h ⊢
      split at h
      · cases h
      · rename_i hz
        split at h
        · have := some_pure h; exact ⟨this.1, fun H2 _ => by rw [if_neg hz]; exact this.2 H2⟩
        · have := some_pure h; exact ⟨this.1, fun H2 _ => by rw [if_neg hz]; exact this.2 H2⟩
        · cases h
  | field t x f =>
    simp only at h ⊢
    cases hf : fieldOf P t f with
    | none => rw [hf] at h; cases h
    | some d2 =>
      rw [hf] at h
      simp only [Option.bind_some] at h ⊢
      split at h
      · rename_i cs hc; (try rw [hc]); have := map_pure h; exact ⟨this.1, fun H2 _ => this.2 H2⟩
      · cases h
  | index t x ix =>
    simp only at h ⊢
    split at h
    · rename_i cs hc; (try rw [hc]); have := map_pure h; exact ⟨this.1, fun H2 _ => this.2 H2⟩
    · rename_i h1
      have := hg h
      exact ⟨this.1, fun H2 _ => this.2 H2⟩
  | extract t i =>
    simp only at h ⊢
    split at h
    · rename_i vs hc; (try rw [hc]); have := map_pure h; exact ⟨this.1, fun H2 _ => this.2 H2⟩
    · cases h
  | binOp b t x y u =>
    cases b <;> first
      | (have := hg h; exact ⟨this.1, fun H2 _ => this.2 H2⟩)
      | (simp only at h ⊢
         split at h
         · rename_i a c ha hc
           try simp only [ha, hc]
           split at h
           · rename_i hac; have := some_pure h; exact ⟨this.1, fun H2 _ => by rw [if_pos hac]; exact this.2 H2⟩
           · cases h
         · rename_i hn
           have := hg h
           exact ⟨this.1, fun H2 _ => this.2 H2⟩)
  | makeFunc fn first cs =>
    cases fn with
    | func f =>
      simp only at h ⊢
      split at h
      · rename_i hc; have := some_pure h; exact ⟨this.1, fun H2 _ => by rw [if_pos hc]; exact this.2 H2⟩
      · cases h
    | _ => cases hk
  | unOp a b c => have := hg h; exact ⟨this.1, fun H2 _ => this.2 H2⟩
  | convert a b c => have := hg h; exact ⟨this.1, fun H2 _ => this.2 H2⟩
  | call c =>
    obtain ⟨cal, args, tys⟩ := c
    cases cal with
    | builtin b => cases b <;> cases hk
    | _ => cases hk
  | _ => cases hk
theorem aop_read {e : Env} {o : Oper} {H H1 : Heap} {tgt : Nat} {p : PV} (hk : kindOp o.op = 1) (h : aop P e o H tgt = some (p, H1)) : H1 = H := by
  obtain ⟨d, op, ty, pos, af, g⟩ := o
  simp only at hk
  unfold aop at h
  cases op with
  | load t a =>
    simp only at h
    cases hs : sizeOf? P t with
    | none => rw [hs] at h; cases h
    | some s =>
      rw [hs] at h
      simp only [Option.bind_some] at h
      cases ha : isAgg? P t with
      | none => rw [ha] at h; cases h
      | some q =>
        rw [ha] at h
        simp only [Option.bind_some] at h
        split at h
        · cases hr : rd H (ev e a) s with
          | none => rw [hr] at h; cases h
          | some cs => rw [hr] at h; exact (map_pure h).1
        · cases h
  | indexAddr t x ix => exact (map_pure h).1
  | call c =>
    obtain ⟨cal, args, tys⟩ := c
    cases cal with
    | builtin b =>
      cases b with
      | len =>
        simp only at h
        split at h
        · split at h
          · exact (omap1_pure h).1
          · exact (generic_pure h).1
        · cases h
      | _ => cases hk
    | _ => cases hk
  | makeFunc fn first cs => cases fn <;> cases hk
  | _ => cases hk
end
end Go.RM
namespace Go.RM
set_option linter.unusedVariables false
set_option linter.unusedSimpArgs false
section
variable {P : Program} {X : FuncId → List PV → Heap → PV → Heap → Prop}
def lastH : List (Nat × Heap) → Heap → (Nat → Bool) → Heap
  | [], H, _ => H
  | (j, K) :: w, H, S => if S j = true then K else lastH w H S
theorem lastH_agree {S S' : Nat → Bool} : ∀ (w : List (Nat × Heap)) (H : Heap), (∀ x ∈ w, S x.1 = S' x.1) → lastH w H S = lastH w H S'
  | [], H, _ => rfl
  | (j, K) :: w, H, h => by simp only [lastH, h (j, K) (.head _), lastH_agree w H (fun x hx => h x (.tail _ hx))]
theorem drawE_agree {e : Env} {S S' : Nat → Bool} {t : Nat} : ∀ (L : List (Nat × Nat × PV)), (∀ x ∈ L, x.2.1 = t → S x.1 = S' x.1) → drawE e L S t = drawE e L S' t
  | [], _ => rfl
  | (j, u, p) :: L, h => by
    have ih := drawE_agree (e := e) L (fun x hx => h x (.tail _ hx))
    simp only [drawE]
    by_cases hu : t = u
    · rw [h (j, u, p) (.head _) hu.symm, ih]
    · simp only [hu, if_false, ih]
abbrev Res := PV × Heap × Nat
abbrev CR := FuncId → List PV → Heap → Option PV
noncomputable def evSeq (P : Program) (cf : CF) (cp : CP) (cr : CR) (all : Array Oper) : List Oper → LE → Heap → Nat → Option (List Res × LE × Heap)
  | [], l, H, _ => some ([], l, H)
  | o :: os, l, H, tgt =>
    let go := fun (r : Res) => (evSeq P cf cp cr all os (putO l o.dst r.1) r.2.1 (if isAlloc o then tgt + 1 else tgt)).map fun x => (r :: x.1, x.2)
    match wants all (teEnv l) o with
    | none => none
    | some false => go (.val undef, H, 0)
    | some true => match callee P (teEnv l) o with
      | some fa => match cp fa.1 fa.2 with
        | some r => go (r, H, 0)
        | none => match cr fa.1 fa.2 H with
          | some r => go (r, H, 1)
          | none => match cf fa.1 fa.2 H with
            | some x => go (x.1, x.2, 2)
            | none => none
      | none => match aop P (teEnv l) o H tgt with
        | some x => go (x.1, x.2, kindOp o.op)
        | none => none
def mkL : Nat → List Oper → List Res → List (Nat × Nat × PV) → List (Nat × Nat × PV)
  | i, o :: os, r :: rs, acc => mkL (i + 1) os rs (match o.dst with
    | some t => (i, t, r.1) :: acc
    | none => acc)
  | _, _, _, acc => acc
def mkW : Nat → List Oper → List Res → List (Nat × Heap) → List (Nat × Heap)
  | i, o :: os, r :: rs, acc => mkW (i + 1) os rs (if r.2.2 = 2 then (i, r.2.1) :: acc else acc)
  | _, _, _, acc => acc
def below (i : Nat) : Nat → Bool := fun j => decide (j < i)
theorem mkL_low {e : Env} {S : Nat → Bool} : ∀ (os : List Oper) (i : Nat) (rs : List Res) (acc : List (Nat × Nat × PV)), (∀ j, i ≤ j → S j = false) → drawE e (mkL i os rs acc) S = drawE e acc S
  | [], i, rs, acc, h => by simp [mkL]
  | o :: os, i, [], acc, h => by simp [mkL]
  | o :: os, i, r :: rs, acc, h => by
    unfold mkL
    rw [mkL_low os (i + 1) rs _ (fun j hj => h j (by omega))]
    split
    · funext u
      simp [drawE, h i (Nat.le_refl _)]
    · rfl
theorem mkW_low {H : Heap} {S : Nat → Bool} : ∀ (os : List Oper) (i : Nat) (rs : List Res) (acc : List (Nat × Heap)), (∀ j, i ≤ j → S j = false) → lastH (mkW i os rs acc) H S = lastH acc H S
  | [], i, rs, acc, h => by simp [mkW]
  | o :: os, i, [], acc, h => by simp [mkW]
  | o :: os, i, r :: rs, acc, h => by
    unfold mkW
    rw [mkW_low os (i + 1) rs _ (fun j hj => h j (by omega))]
    split
    · simp [lastH, h i (Nat.le_refl _)]
    · rfl
theorem mkL_entry : ∀ (os : List Oper) (i : Nat) (rs : List Res) (acc : List (Nat × Nat × PV)) (j : Nat), j < i → entry j (mkL i os rs acc) = entry j acc
  | [], i, rs, acc, j, h => by simp [mkL]
  | o :: os, i, [], acc, j, h => by simp [mkL]
  | o :: os, i, r :: rs, acc, j, h => by
    unfold mkL
    rw [mkL_entry os (i + 1) rs _ j (by omega)]
    split
    · simp only [entry]; rw [if_neg (by omega)]
    · rfl
theorem mkW_no : ∀ (os : List Oper) (i : Nat) (rs : List Res) (acc : List (Nat × Heap)) (j : Nat), j < i → (∀ x ∈ acc, x.1 ≠ j) → ∀ x ∈ mkW i os rs acc, x.1 ≠ j
  | [], i, rs, acc, j, h, ha => by simpa [mkW] using ha
  | o :: os, i, [], acc, j, h, ha => by simpa [mkW] using ha
  | o :: os, i, r :: rs, acc, j, h, ha => by
    unfold mkW
    refine mkW_no os (i + 1) rs _ j (by omega) ?_
    split
    · intro x hx
      rcases List.mem_cons.mp hx with rfl | hx
      · simp; omega
      · exact ha x hx
    · exact ha
def Fact (P : Program) (cf : CF) (cp : CP) (cr : CR) (all : Array Oper) (E : Env) (G : Heap) (o : Oper) (r : Res) : Prop :=
  (wants all E o = some false ∧ r.1 = .val undef ∧ r.2.2 = 0) ∨
  (wants all E o = some true ∧ ∃ f a, callee P E o = some (f, a) ∧ ((cp f a = some r.1 ∧ r.2.2 = 0) ∨ (cr f a G = some r.1 ∧ r.2.2 = 1) ∨ (cf f a G = some (r.1, r.2.1) ∧ r.2.2 = 2))) ∨
  (wants all E o = some true ∧ callee P E o = none ∧ ∃ tgt, aop P E o G tgt = some (r.1, r.2.1) ∧ r.2.2 = kindOp o.op)
theorem evSeq_cons {cf : CF} {cp : CP} {cr : CR} {all : Array Oper} {o : Oper} {os : List Oper} {l : LE} {H : Heap} {tgt : Nat} {rs : List Res} {l' : LE} {H' : Heap} (h : evSeq P cf cp cr all (o :: os) l H tgt = some (rs, l', H')) :
    ∃ r rs', rs = r :: rs' ∧ Fact P cf cp cr all (teEnv l) H o r ∧ (r.2.2 ≠ 2 → r.2.1 = H) ∧ evSeq P cf cp cr all os (putO l o.dst r.1) r.2.1 (if isAlloc o then tgt + 1 else tgt) = some (rs', l', H') := by
  have fin : ∀ r : Res, Fact P cf cp cr all (teEnv l) H o r → (r.2.2 ≠ 2 → r.2.1 = H) → (evSeq P cf cp cr all os (putO l o.dst r.1) r.2.1 (if isAlloc o then tgt + 1 else tgt)).map (fun x => (r :: x.1, x.2)) = some (rs, l', H') →
      ∃ r rs', rs = r :: rs' ∧ Fact P cf cp cr all (teEnv l) H o r ∧ (r.2.2 ≠ 2 → r.2.1 = H) ∧ evSeq P cf cp cr all os (putO l o.dst r.1) r.2.1 (if isAlloc o then tgt + 1 else tgt) = some (rs', l', H') := by
    intro r hF hk hm
    cases hx : evSeq P cf cp cr all os (putO l o.dst r.1) r.2.1 (if isAlloc o then tgt + 1 else tgt) with
    | none => rw [hx] at hm; cases hm
    | some x =>
      rw [hx] at hm
      injection hm with hm; injection hm with h1 h2
      exact ⟨r, x.1, h1.symm, hF, hk, by rw [hx, ← h2]⟩
  unfold evSeq at h
  simp only at h
  split at h
  · cases h
  · rename_i hw; exact fin _ (.inl ⟨hw, rfl, rfl⟩) (fun _ => rfl) h
  · rename_i hw
    split at h
    · rename_i fa hf
      split at h
      · rename_i r hc; exact fin _ (.inr (.inl ⟨hw, _, _, hf, .inl ⟨hc, rfl⟩⟩)) (fun _ => rfl) h
      · split at h
        · rename_i r hc; exact fin _ (.inr (.inl ⟨hw, _, _, hf, .inr (.inl ⟨hc, rfl⟩)⟩)) (fun _ => rfl) h
        · split at h
          · rename_i x hc; exact fin _ (.inr (.inl ⟨hw, _, _, hf, .inr (.inr ⟨hc, rfl⟩)⟩)) (fun h => (h rfl).elim) h
          · cases h
    · rename_i hf
      split at h
      · rename_i x hc
        refine fin _ (.inr (.inr ⟨hw, hf, tgt, hc, rfl⟩)) (fun hk => ?_) h
        have hlt : kindOp o.op = 0 ∨ kindOp o.op = 1 ∨ kindOp o.op = 2 := by
          unfold kindOp; split <;> simp
        rcases hlt with h0 | h1 | h2
        · exact (aop_pure h0 hc).1
        · exact aop_read h1 hc
        · exact (hk h2).elim
      · cases h
theorem evSeq_get {cf : CF} {cp : CP} {cr : CR} {all : Array Oper} {e0 : Env} {H0 : Heap} : ∀ (os : List Oper) (i : Nat) (l : LE) (H : Heap) (tgt : Nat) (rs : List Res) (l' : LE) (H' : Heap) (La : List (Nat × Nat × PV)) (Wa : List (Nat × Heap)),
    evSeq P cf cp cr all os l H tgt = some (rs, l', H') → teEnv l = drawE e0 La (below i) → H = lastH Wa H0 (below i) → (∀ x ∈ La, x.1 < i) → (∀ x ∈ Wa, x.1 < i) →
    (teEnv l' = drawE e0 (mkL i os rs La) (below (i + os.length)) ∧ H' = lastH (mkW i os rs Wa) H0 (below (i + os.length))) ∧
    ∀ k o, os[k]? = some o → ∃ r, rs[k]? = some r ∧ Fact P cf cp cr all (drawE e0 (mkL i os rs La) (below (i + k))) (lastH (mkW i os rs Wa) H0 (below (i + k))) o r ∧
      (r.2.2 = 2 → r.2.1 = lastH (mkW i os rs Wa) H0 (below (i + k + 1))) ∧ (r.2.2 ≠ 2 → r.2.1 = lastH (mkW i os rs Wa) H0 (below (i + k)) ∧ ∀ x ∈ mkW i os rs Wa, x.1 ≠ i + k) ∧ entry (i + k) (mkL i os rs La) = o.dst.map fun _ => r.1
  | [], i, l, H, tgt, rs, l', H', La, Wa, h, hl, hH, hLa, hWa => by
    injection h with h; injection h with h1 h2; injection h2 with h2 h3
    subst h1 h2 h3
    exact ⟨⟨by simpa [mkL] using hl, by simpa [mkW] using hH⟩, fun k o hk => by simp at hk⟩
  | o :: os, i, l, H, tgt, rs, l', H', La, Wa, h, hl, hH, hLa, hWa => by
    obtain ⟨r, rs', rfl, hF, hk2, hrest⟩ := evSeq_cons h
    have lowS : ∀ j, i ≤ j → below i j = false := fun j hj => by unfold below; exact decide_eq_false (by omega)
    have hl1 : teEnv (putO l o.dst r.1) = drawE e0 (match o.dst with | some t => (i, t, r.1) :: La | none => La) (below (i + 1)) := by
      rw [listEnv_putO]
      have hag : ∀ u, drawE e0 La (below (i + 1)) u = drawE e0 La (below i) u := fun u => drawE_agree La fun x hx _ => by
        have := hLa x hx
        unfold below; rw [decide_eq_true (by omega), decide_eq_true this]
      cases hd : o.dst with
      | none => funext u; simp only [Env.put]; rw [hag u, hl]
      | some t =>
        funext u
        simp only [Env.put, Env.set, drawE]
        rw [hag u, hl]
        have : below (i + 1) i = true := by unfold below; exact decide_eq_true (by omega)
        simp [this]
    have hW1 : r.2.1 = lastH (if r.2.2 = 2 then (i, r.2.1) :: Wa else Wa) H0 (below (i + 1)) := by
      have hag : lastH Wa H0 (below (i + 1)) = lastH Wa H0 (below i) := lastH_agree Wa H0 fun x hx => by
        have := hWa x hx
        unfold below; rw [decide_eq_true (by omega), decide_eq_true this]
      by_cases h2 : r.2.2 = 2
      · rw [if_pos h2]
        simp only [lastH]
        rw [if_pos (by unfold below; exact decide_eq_true (by omega))]
      · rw [if_neg h2, hag, ← hH]; exact hk2 h2
    have hLa1 : ∀ x ∈ (match o.dst with | some t => (i, t, r.1) :: La | none => La), x.1 < i + 1 := by
      intro x hx
      split at hx
      · rcases List.mem_cons.mp hx with rfl | hx
        · simp
        · have := hLa x hx; omega
      · have := hLa x hx; omega
    have hWa1 : ∀ x ∈ (if r.2.2 = 2 then (i, r.2.1) :: Wa else Wa), x.1 < i + 1 := by
      intro x hx
      split at hx
      · rcases List.mem_cons.mp hx with rfl | hx
        · simp
        · have := hWa x hx; omega
      · have := hWa x hx; omega
    obtain ⟨hend, hget⟩ := evSeq_get os (i + 1) _ _ _ rs' l' H' _ _ hrest hl1 hW1 hLa1 hWa1
    have eL : mkL i (o :: os) (r :: rs') La = mkL (i + 1) os rs' (match o.dst with | some t => (i, t, r.1) :: La | none => La) := rfl
    have eW : mkW i (o :: os) (r :: rs') Wa = mkW (i + 1) os rs' (if r.2.2 = 2 then (i, r.2.1) :: Wa else Wa) := rfl
    refine ⟨?_, fun k o' hk => ?_⟩
    · rw [eL, eW, show i + (o :: os).length = i + 1 + os.length by simp; omega]
      exact hend
    · cases k with
      | succ k =>
        rw [eL, eW]
        have := hget k o' (by simpa using hk)
        rw [show i + (k + 1) = i + 1 + k by omega]
        simpa using this
      | zero =>
        simp at hk
        subst hk
        simp only [Nat.add_zero]
        refine ⟨r, rfl, ?_, ?_, ?_, ?_⟩
        · rw [mkL_low _ _ _ _ lowS, mkW_low _ _ _ _ lowS, ← hl, ← hH]; exact hF
        · intro h2
          rw [eW]
          rw [mkW_low _ _ _ _ (fun j hj => by unfold below; exact decide_eq_false (by omega))]
          exact hW1
        · intro h2
          refine ⟨by rw [mkW_low _ _ _ _ lowS, ← hH]; exact hk2 h2, ?_⟩
          rw [eW]
          refine mkW_no _ _ _ _ i (by omega) ?_
          rw [if_neg h2]
          exact fun x hx => by have := hWa x hx; omega
        · rw [eL, mkL_entry _ _ _ _ i (by omega)]
          cases hd : o.dst with
          | some t => simp [entry]
          | none =>
            simp only [Option.map_none]
            have : ∀ (L : List (Nat × Nat × PV)), (∀ x ∈ L, x.1 < i) → entry i L = none := by
              intro L
              induction L with
              | nil => intro _; rfl
              | cons x L ih =>
                intro hx
                obtain ⟨j, u, q⟩ := x
                simp only [entry]
                rw [if_neg (by have := hx _ (.head _); simp at this; omega)]
                exact ih (fun y hy => hx y (.tail _ hy))
            exact this La hLa
def tmpsOf (all : Array Oper) (o : Oper) : List Nat :=
  (o.op.operands.toList.filterMap fun | .tmp t => some t | _ => none) ++ (match o.guard with
    | some (j, _) => ((all[j]?).bind (·.dst)).toList
    | none => [])
def ancL : List Oper → List (List Nat) → List (List Nat)
  | [], acc => acc
  | o :: os, acc =>
    let d := o.after.toList.filterMap fun e => if Region.binds .any e then some e.on else none
    ancL os (acc ++ [d.foldl (fun a j => if a.contains j then a else j :: a ++ ((acc.getD j []).filter fun k => !a.contains k)) []])
def vEq : Value → Value → Bool
  | .bool a, .bool b => a == b
  | .int k n, .int k' m => decide (k = k') && decide (n = m)
  | .string a, .string b => decide (a = b)
  | .pointer none, .pointer none => true
  | .slice none a b, .slice none c d => decide (a = c) && decide (b = d)
  | .nilFunc, .nilFunc => true
  | .nilIface, .nilIface => true
  | _, _ => false
theorem vEq.eq {a b : Value} (h : vEq a b = true) : a = b := by
  unfold vEq at h
  split at h <;> simp_all
def lEq {α : Type} (f : α → α → Bool) : List α → List α → Bool
  | [], [] => true
  | a :: l, b :: m => f a b && lEq f l m
  | _, _ => false
theorem lEq.eq {α : Type} {f : α → α → Bool} : ∀ {l m : List α}, (∀ a ∈ l, ∀ b, f a b = true → a = b) → lEq f l m = true → l = m
  | [], [], _, _ => rfl
  | a :: l, b :: m, hf, h => by
    simp only [lEq, Bool.and_eq_true] at h
    rw [hf a (.head _) b h.1, lEq.eq (fun x hx => hf x (.tail _ hx)) h.2]
  | [], _ :: _, _, h => by cases h
  | _ :: _, [], _, h => by cases h
def pEq : Nat → PV → PV → Bool
  | 0, _, _ => false
  | n + 1, p, q => match p, q with
    | .undef, .undef => true
    | .nocap, .nocap => true
    | .val v, .val w => vEq v w
    | .rows a, .rows b => lEq (lEq (pEq n)) a b
    | .own a k, .own b l => decide (a = b) && decide (k = l)
    | .ptr a k x i o, .ptr b l y j u => (decide (a = b) && decide (k = l)) && (decide (x = y) && (decide (i = j) && decide (o = u)))
    | .cptr a o, .cptr b u => lEq (pEq n) a b && decide (o = u)
    | .agg a, .agg b => lEq (pEq n) a b
    | .tuple a, .tuple b => lEq (pEq n) a b
    | .clo f a, .clo g b => decide (f = g) && lEq (pEq n) a b
    | _, _ => false
theorem pEq.eq : ∀ (n : Nat) {p q : PV}, pEq n p q = true → p = q
  | 0, _, _, h => by cases h
  | n + 1, p, q, h => by
    have e1 : ∀ {a b : List PV}, lEq (pEq n) a b = true → a = b := fun h => lEq.eq (fun _ _ _ h => pEq.eq n h) h
    unfold pEq at h
    split at h
    · rfl
    · rfl
    · rw [vEq.eq h]
    · rw [lEq.eq (fun _ _ _ h => e1 h) h]
    · simp_all
    · simp_all
    · rw [Bool.and_eq_true, decide_eq_true_eq] at h; rw [e1 h.1, h.2]
    · rw [e1 h]
    · rw [e1 h]
    · rw [Bool.and_eq_true, decide_eq_true_eq] at h; rw [e1 h.2, h.1]
    · cases h
def bEq (a b : Blk) : Bool := (decide (a.sz = b.sz) && decide (a.frozen = b.frozen)) && ((a.mp.isNone && b.mp.isNone) && lEq (lEq (pEq 12)) a.es b.es)
theorem bEq.eq {a b : Blk} (h : bEq a b = true) : a = b := by
  obtain ⟨s, e, f, m⟩ := a
  obtain ⟨s', e', f', m'⟩ := b
  simp only [bEq, Bool.and_eq_true, decide_eq_true_eq, Option.isNone_iff_eq_none] at h
  obtain ⟨⟨h1, h2⟩, ⟨h3, h4⟩, h5⟩ := h
  rw [h1, h2, h3, h4, lEq.eq (fun _ _ _ h => lEq.eq (fun _ _ _ h => pEq.eq 12 h) h) h5]
def hEq (a b : Heap) : Bool := lEq bEq a b
theorem hEq.eq {a b : Heap} (h : hEq a b = true) : a = b := lEq.eq (fun _ _ _ h => bEq.eq h) h
abbrev Tab := List (List Nat × Heap)
def findT : Tab → List Nat → Option Heap
  | [], _ => none
  | (k, K) :: t, T => if k = T then some K else findT t T
def atT (Tb : Tab) (W : List (Nat × Heap)) (H : Heap) (T : List Nat) : Heap := match findT Tb T with
  | some K => K
  | none => lastH W H fun j => T.contains j
def subsW (As : List (List Nat)) : List Nat → List (List Nat)
  | [] => [[]]
  | j :: w => let s := subsW As w
    s ++ (s.filter fun T => (ahead As j).all fun a => !w.contains a || T.contains a).map (j :: ·)
theorem subsW.mem {As : List (List Nat)} {S : Nat → Bool} (hd : ∀ j, S j = true → ∀ a ∈ ahead As j, S a = true) : ∀ w : List Nat, w.filter S ∈ subsW As w
  | [] => by simp [subsW]
  | j :: w => by
    have ih := subsW.mem hd w
    unfold subsW
    simp only [List.mem_append, List.mem_map, List.mem_filter]
    by_cases hj : S j = true
    · rw [List.filter_cons_of_pos hj]
      refine .inr ⟨w.filter S, ⟨ih, ?_⟩, rfl⟩
      rw [List.all_eq_true]
      intro a ha
      rw [Bool.or_eq_true]
      by_cases hw : w.contains a = true
      · right
        rw [List.contains_iff_mem] at hw ⊢
        exact List.mem_filter.2 ⟨hw, hd j hj a ha⟩
      · left; simpa using hw
    · rw [List.filter_cons_of_neg hj]; exact .inl ih
def reOp (P : Program) (cf : CF) (cr : CR) (all : Array Oper) (E : Env) (o : Oper) (r : Res) (tgt : Nat) (K K' : Heap) : Bool :=
  match callee P E o with
  | some fa => if r.2.2 = 1 then (match cr fa.1 fa.2 K with
      | some p => pEq 12 p r.1
      | none => false) else (match cf fa.1 fa.2 K with
      | some x => pEq 12 x.1 r.1 && hEq x.2 K'
      | none => false)
  | none => match aop P E o K tgt with
    | some x => pEq 12 x.1 r.1 && (decide (r.2.2 = 1 ∧ kindOp o.op = 1) || hEq x.2 K')
    | none => false
def wrAt (P : Program) (cf : CF) (all : Array Oper) (E : Env) (o : Oper) (tgt : Nat) (K : Heap) : Option Heap :=
  match callee P E o with
  | some fa => (cf fa.1 fa.2 K).map (·.2)
  | none => (aop P E o K tgt).map (·.2)
def mkT (P : Program) (cf : CF) (all : Array Oper) (As : List (List Nat)) (E : Nat → Env) (W : List (Nat × Heap)) (H : Heap) : Nat → List Oper → List Res → Nat → List Nat → Tab → Tab
  | i, o :: os, r :: rs, tgt, ws, Tb =>
    let tgt' := if isAlloc o then tgt + 1 else tgt
    if r.2.2 = 2 then
      let more := (subsW As ws).filterMap fun T =>
        if T = ws then none else if (ahead As i).all (fun a => !ws.contains a || T.contains a) then
          match wrAt P cf all (E i) o tgt (atT Tb W H T) with
          | some K => some (i :: T, K)
          | none => none
        else none
      mkT P cf all As E W H (i + 1) os rs tgt' (i :: ws) (more ++ Tb)
    else mkT P cf all As E W H (i + 1) os rs tgt' ws Tb
  | _, _, _, _, _, Tb => Tb
def chkOp (P : Program) (cf : CF) (cr : CR) (all : Array Oper) (As : List (List Nat)) (e0 : Env) (L : List (Nat × Nat × PV)) (W : List (Nat × Heap)) (H : Heap) (Tb : Tab) (Ts : List (List Nat)) : Nat → List Oper → List Res → Nat → Bool
  | i, o :: os, r :: rs, tgt =>
    ((ahead As i).all (fun j => decide (j < i)) && ((tmpsOf all o).all (fun t => L.all (fun x => x.2.1 != t || ((ahead As i).contains x.1 || ((ahead As x.1).contains i && decide (i < x.1))))) &&
      ((r.2.2 == 0 || ((W.all (fun x => x.1 == i || ((ahead As i).contains x.1 || (ahead As x.1).contains i)) && Tb.all fun x => decide (x.1 ≠ (W.map (·.1)).filter (below i)) && decide (x.1 ≠ (W.map (·.1)).filter (below (i + 1)))) ||
        Ts.all fun T => (T.contains i || T.any fun j => (ahead As j).contains i) || ((!(ahead As i).all fun a => !(W.map (·.1)).contains a || T.contains a) ||
          reOp P cf cr all (drawE e0 L (below i)) o r tgt (atT Tb W H T) (if r.2.2 = 2 then atT Tb W H ((W.map (·.1)).filter fun j => j == i || T.contains j) else atT Tb W H T)))) && ((match o.dst with
        | some t => laterOk (ahead As) i t L
        | none => true) && chkOp P cf cr all As e0 L W H Tb Ts (i + 1) os rs (if isAlloc o then tgt + 1 else tgt)))))
  | _, [], _, _ => true
  | _, _ :: _, [], _ => false
end
end Go.RM
namespace Go.RM
set_option linter.unusedVariables false
set_option linter.unusedSimpArgs false
section
variable {P : Program} {X : FuncId → List PV → Heap → PV → Heap → Prop}
structure Chk (P : Program) (cf : CF) (cr : CR) (all : Array Oper) (As : List (List Nat)) (e0 : Env) (L : List (Nat × Nat × PV)) (W : List (Nat × Heap)) (H : Heap) (Tb : Tab) (Ts : List (List Nat)) (i : Nat) (o : Oper) (r : Res) : Prop where
  lt : ∀ j ∈ ahead As i, j < i
  tmps : ∀ t ∈ tmpsOf all o, ∀ x ∈ L, x.2.1 = t → x.1 ∈ ahead As i ∨ (i ∈ ahead As x.1 ∧ i < x.1)
  mem : r.2.2 = 0 ∨ ((∀ x ∈ W, x.1 = i ∨ x.1 ∈ ahead As i ∨ i ∈ ahead As x.1) ∧ ∀ x ∈ Tb, x.1 ≠ (W.map (·.1)).filter (below i) ∧ x.1 ≠ (W.map (·.1)).filter (below (i + 1))) ∨
    ∃ tgt, ∀ T ∈ Ts, i ∉ T → (∀ j ∈ T, i ∉ ahead As j) → (∀ a ∈ ahead As i, a ∈ W.map (·.1) → a ∈ T) →
      reOp P cf cr all (drawE e0 L (below i)) o r tgt (atT Tb W H T) (if r.2.2 = 2 then atT Tb W H ((W.map (·.1)).filter fun j => j == i || T.contains j) else atT Tb W H T) = true
  dst : ∀ t, o.dst = some t → laterOk (ahead As) i t L = true
theorem chkOp.get {cf : CF} {cr : CR} {all : Array Oper} {As : List (List Nat)} {e0 : Env} {L : List (Nat × Nat × PV)} {W : List (Nat × Heap)} {H : Heap} {Tb : Tab} {Ts : List (List Nat)} : ∀ {os : List Oper} {i : Nat} {rs : List Res} {tgt : Nat}, chkOp P cf cr all As e0 L W H Tb Ts i os rs tgt = true → ∀ k o, os[k]? = some o → ∃ r, rs[k]? = some r ∧ Chk P cf cr all As e0 L W H Tb Ts (i + k) o r
  | [], i, rs, _, h, k, o, ho => by simp at ho
  | o :: os, i, [], _, h, k, o', ho => by simp [chkOp] at h
  | o :: os, i, r :: rs, tgt, h, k, o', ho => by
    simp only [chkOp, Bool.and_eq_true] at h
    obtain ⟨h1, h2, h3, h4, h5⟩ := h
    cases k with
    | zero =>
      simp at ho; subst ho
      simp only [List.all_eq_true, Bool.or_eq_true, decide_eq_true_eq, bne_iff_ne, ne_eq, beq_iff_eq, List.contains_iff_mem, Bool.and_eq_true] at h1 h2 h3
      refine ⟨r, rfl, h1, fun t ht x hx he => ?_, ?_, fun t ht => ?_⟩
      · rcases h2 t ht x hx with h | h
        · exact (h he).elim
        · exact h
      · rcases h3 with h3 | h3 | h3
        · exact .inl h3
        · exact .inr (.inl ⟨h3.1, h3.2⟩)
        · refine .inr (.inr ⟨tgt, fun T hT hi hn ha => ?_⟩)
          rcases h3 T hT with (h | h) | h | h
          · exact (hi h).elim
          · rw [List.any_eq_true] at h
            obtain ⟨j, hj, hc⟩ := h
            exact (hn j hj (List.contains_iff_mem.1 hc)).elim
          · rw [Bool.not_eq_true', List.all_eq_false] at h
            obtain ⟨a, haa, hc⟩ := h
            simp only [Bool.or_eq_true, Bool.not_eq_true', not_or, Bool.not_eq_false, Bool.not_eq_true, List.contains_iff_mem] at hc
            have := ha a haa hc.1
            have h3 := hc.2
            exact (h3 this).elim
          · exact h
      · rw [ht] at h4; exact h4
    | succ k =>
      have := chkOp.get h5 k o' (by simpa using ho)
      rw [show i + 1 + k = i + (k + 1) by omega] at this
      simpa using this
theorem conv_same {H : Heap} : ∀ (p : PV), Conv H .same false p p
  | .undef => .undef
  | .val v => .free rfl rfl
  | .rows es => .free rfl rfl
  | .own b n => .own rfl
  | .ptr b n sz i off => .ptr rfl
  | .cptr cs off => .free rfl rfl
  | .agg cs => .agg rfl fun j p q hp hq => by
      rw [hp] at hq; injection hq with hq
      subst hq
      have := List.mem_of_getElem? hp
      exact conv_same p
  | .tuple cs => .tuple rfl fun j p q hp hq => by
      rw [hp] at hq; injection hq with hq
      subst hq
      have := List.mem_of_getElem? hp
      exact conv_same p
  | .clo g cs => .clo rfl fun j p q hp hq => by
      rw [hp] at hq; injection hq with hq
      subst hq
      have := List.mem_of_getElem? hp
      exact conv_same p
  | .mp b => .mp rfl
  | .nocap => .free rfl rfl
termination_by p => SizeOf.sizeOf p
decreasing_by all_goals (have := List.sizeOf_lt_of_mem this; simp; omega)
def CRok (P : Program) (X : FuncId → List PV → Heap → PV → Heap → Prop) (cr : CR) : Prop := ∀ f args H r, cr f args H = some r → D P X (.callH f args H r H)
noncomputable def evDraw (P : Program) (cf : CF) (cp : CP) (cr : CR) (ops : Array Oper) (l : LE) (H : Heap) (tgt : Nat) : Option (LE × Heap) :=
  match evSeq P cf cp cr ops ops.toList l H tgt with
  | none => none
  | some (rs, l', H') =>
    let As := ancL ops.toList []
    let L := mkL 0 ops.toList rs []
    let W := mkW 0 ops.toList rs []
    let Tb := mkT P cf ops As (fun i => drawE (teEnv l) L (below i)) W H 0 ops.toList rs tgt [] []
    if (edgesOkL 0 ops.toList && (aheadOkL (ahead As) 0 ops.toList && (decide ((L.map (·.1)).Nodup) && (chkOp P cf cr ops As (teEnv l) L W H Tb (subsW As (W.map (·.1))) 0 ops.toList rs tgt && ((W.all fun x => (ahead As x.1).all fun j => decide (j < x.1)) && (findT Tb []).isNone && (findT Tb (W.map (·.1))).isNone))))) = true then some (l', H') else none
theorem findT_none : ∀ {Tb : Tab} {T : List Nat}, (∀ x ∈ Tb, x.1 ≠ T) → findT Tb T = none
  | [], T, _ => rfl
  | (k, K) :: t, T, h => by
    unfold findT
    rw [if_neg (h _ (.head _))]
    exact findT_none fun x hx => h x (.tail _ hx)
theorem evDraw_sound {cf : CF} {cp : CP} {cr : CR} (hcf : CFok P X cf) (hcp : CPok P X cp) (hcr : CRok P X cr) {N : Nat} {ops : Array Oper} {l : LE} {H : Heap} {tgt : Nat} {l' : LE} {H' : Heap} (h : evDraw P cf cp cr ops l H tgt = some (l', H')) : D P X (.reg N ops true (teEnv l) H (teEnv l') H') := by
  unfold evDraw at h
  split at h
  · cases h
  · rename_i rs l1 H1 hs
    simp only at h
    split at h
    · rename_i hc
      injection h with h; injection h with h1 h2
      subst h1 h2
      simp only [Bool.and_eq_true, decide_eq_true_eq, Option.isNone_iff_eq_none] at hc
      obtain ⟨c1, c2, c3, c4, ⟨c5, c6⟩, c7⟩ := hc
      obtain ⟨⟨hl', hH'⟩, hget⟩ := evSeq_get (e0 := teEnv l) (H0 := H) ops.toList 0 l H tgt rs l1 H1 [] [] hs (by simp [drawE]) (by simp [lastH]) (by simp) (by simp)
      simp only [Nat.zero_add] at hl' hH' hget
      have hbk := edgesOkL.back c1
      have hah := aheadOkL.ok c2
      rw [Array.toArray_toList] at hbk hah
      have hbelow : (below ops.toList.length) = fun j => decide (j < ops.size) := by funext j; simp [below]
      generalize hTb : mkT P cf ops (ancL ops.toList []) (fun i => drawE (teEnv l) (mkL 0 ops.toList rs []) (below i)) (mkW 0 ops.toList rs []) H 0 ops.toList rs tgt [] [] = Tb at c4 c6 c7
      generalize hLL : mkL 0 ops.toList rs [] = L at *
      generalize hWW : mkW 0 ops.toList rs [] = W at *
      generalize hAA : ancL ops.toList [] = As at *
      have hseq : ∀ S : Nat → Bool, findT Tb ((W.map (·.1)).filter S) = none → atT Tb W H ((W.map (·.1)).filter S) = lastH W H S := fun S hn => by
        unfold atT
        rw [hn]
        simp only
        refine lastH_agree W H fun x hx => ?_
        rw [Bool.eq_iff_iff, List.contains_iff_mem, List.mem_filter]
        exact ⟨fun h => h.2, fun h => ⟨List.mem_map_of_mem hx, h⟩⟩
      have hcut : ∀ S S' : Nat → Bool, (∀ x ∈ W, S x.1 = S' x.1) → (W.map (·.1)).filter S = (W.map (·.1)).filter S' := fun S S' h => List.filter_congr fun a ha => by
        obtain ⟨x, hx, rfl⟩ := List.mem_map.1 ha
        exact h x hx
      refine .draw (drawE (teEnv l) L) (fun S => atT Tb W H ((W.map (·.1)).filter S)) (ahead As) hbk hah (drawE_none _ _) ?_ (fun i o S0 ho hS hdown => ?_) ?_ ?_
      · have : (W.map (·.1)).filter (fun _ => false) = [] := by simp
        rw [hseq _ (by rw [this]; exact c6), ← hWW]
        exact (mkW_low _ _ _ _ (fun _ _ => rfl)).trans rfl
      · -- one operation
        obtain ⟨r, hr, hK⟩ := chkOp.get c4 i o (by simpa using ho)
        obtain ⟨r2, hr2, hF, hk2, hkn, hent⟩ := hget i o (by simpa using ho)
        rw [Nat.zero_add] at hK
        rw [hr] at hr2
        injection hr2 with hr2
        subst hr2
        have hin : ∀ j ∈ ahead As i, orElse (ahead As i) S0 j = true := fun j hj => by
          unfold orElse; simp [hj]
        generalize hSS : orElse (ahead As i) S0 = S at hS hdown hin ⊢
        have hlt : ∀ j, j < i → below i j = true := fun j hj => by unfold below; exact decide_eq_true hj
        have hE : ∀ t ∈ tmpsOf ops o, drawE (teEnv l) L S t = drawE (teEnv l) L (below i) t := fun t ht => drawE_agree L fun x hx he => by
          rcases hK.tmps t ht x hx he with this | ⟨h1, h2⟩
          · rw [hin _ this, hlt _ (hK.lt _ this)]
          · have e1 : S x.1 = false := by
              cases hs9 : S x.1 with
              | false => rfl
              | true => have := hdown _ hs9 i h1; rw [hS] at this; cases this
            rw [e1]; unfold below; exact (decide_eq_false (by omega)).symm
        have hops : ∀ x ∈ o.op.operands, ev (drawE (teEnv l) L (below i)) x = ev (drawE (teEnv l) L S) x := fun x hx => by
          cases x with
          | tmp t => exact (hE t (by unfold tmpsOf; refine List.mem_append_left _ (List.mem_filterMap.2 ⟨.tmp t, by simpa using hx, rfl⟩))).symm
          | _ => rfl
        have hwants : wants ops (drawE (teEnv l) L (below i)) o = wants ops (drawE (teEnv l) L S) o := wants_congr fun j w t hg ht => (hE t (by unfold tmpsOf; refine List.mem_append_right _ ?_; rw [hg]; simp only; rw [ht]; simp)).symm
        have hput : (drawE (teEnv l) L S).put o.dst r.1 = drawE (teEnv l) L (plus S i) := by
          cases hd : o.dst with
          | none => rw [hd] at hent; exact drawE_other _ S i L hent
          | some t => rw [hd] at hent; exact drawE_put _ (ahead As) S i t r.1 hS hdown L (hK.dst t hd) hent c3
        have fin : ∀ H2, H2 = atT Tb W H ((W.map (·.1)).filter (plus S i)) → D P X (.ops N ops [] ((drawE (teEnv l) L S).put o.dst r.1) H2 (drawE (teEnv l) L (plus S i)) (atT Tb W H ((W.map (·.1)).filter (plus S i)))) := fun H2 h2 => by rw [hput, h2]; exact .nil0
        have hsame : r.2.2 ≠ 2 → (W.map (·.1)).filter (plus S i) = (W.map (·.1)).filter S := fun hk => hcut _ _ fun x hx => by
          have := (hkn hk).2 x hx
          simp [plus, this]
        by_cases h0 : r.2.2 = 0
        · -- it does not look at the memory
          have hs2 := hsame (by omega)
          rcases hF with ⟨hw, hp, hk⟩ | ⟨hw, f, a, hf, (⟨hc, hk⟩ | ⟨hc, hk⟩ | ⟨hc, hk⟩)⟩ | ⟨hw, hf, tg, hc, hk⟩
          · rw [hwants] at hw
            refine .no hw ?_
            rw [← hp]
            exact fin _ (by rw [hs2])
          · rw [hwants] at hw
            rw [callee_congr hops] at hf
            obtain ⟨ha, hr9, hd⟩ := hcp _ _ _ hc
            exact .callI hw hf (.pure ha hr9 hd) (fin _ (by rw [hs2]))
          · omega
          · omega
          · rw [hwants] at hw
            rw [callee_congr hops] at hf
            rw [aop_congr hops] at hc
            exact .op 0 hw ((aop_pure (by omega) hc).2 _ _) (fin _ (by rw [hs2]))
        · rcases hK.mem with hh | ⟨hm1, hm2⟩ | ⟨tg, hre⟩
          · exact (h0 hh).elim
          · -- it stands before or behind each writer
            have hother : ∀ x ∈ W, x.1 ≠ i → S x.1 = decide (x.1 < i) := fun x hx hne => by
              rcases hm1 x hx with h1 | h1 | h1
              · exact (hne h1).elim
              · rw [hin _ h1, decide_eq_true (hK.lt _ h1)]
              · have hlt2 : i < x.1 := by
                  have := List.all_eq_true.1 c5 x hx
                  rw [List.all_eq_true] at this
                  simpa using this i h1
                rw [decide_eq_false (by omega)]
                cases hs9 : S x.1 with
                | false => rfl
                | true => have := hdown _ hs9 i h1; rw [hS] at this; cases this
            have e1 : (W.map (·.1)).filter S = (W.map (·.1)).filter (below i) := hcut _ _ fun x hx => by
              by_cases he : x.1 = i
              · rw [he, hS]; unfold below; exact (decide_eq_false (by omega)).symm
              · exact hother x hx he
            have e2 : (W.map (·.1)).filter (plus S i) = (W.map (·.1)).filter (below (i + 1)) := hcut _ _ fun x hx => by
              by_cases he : x.1 = i
              · rw [he]; unfold below plus; rw [decide_eq_true (by omega)]; simp
              · have := hother x hx he
                unfold below plus
                rw [this]
                have : (x.1 == i) = false := by simpa using he
                rw [this, Bool.false_or, decide_eq_decide]; omega
            have hG : atT Tb W H ((W.map (·.1)).filter S) = lastH W H (below i) := by
              rw [e1]; exact hseq _ (findT_none fun x hx => (hm2 x hx).1)
            have hG2 : atT Tb W H ((W.map (·.1)).filter (plus S i)) = lastH W H (below (i + 1)) := by
              rw [e2]; exact hseq _ (findT_none fun x hx => (hm2 x hx).2)
            have hG3 : r.2.2 ≠ 2 → lastH W H (below (i + 1)) = lastH W H (below i) := fun hk => by rw [← hG2, ← hG, hsame hk]
            rcases hF with ⟨hw, hp, hk⟩ | ⟨hw, f, a, hf, (⟨hc, hk⟩ | ⟨hc, hk⟩ | ⟨hc, hk⟩)⟩ | ⟨hw, hf, tg, hc, hk⟩
            · omega
            · omega
            · rw [hwants] at hw
              rw [callee_congr hops] at hf
              rw [← hG] at hc
              exact .callI hw hf (hcr _ _ _ _ hc) (fin _ (by rw [hsame (by omega)]))
            · rw [hwants] at hw
              rw [callee_congr hops] at hf
              rw [← hG] at hc
              exact .callI hw hf (hcf _ _ _ _ _ hc) (fin _ (by rw [hG2, hk2 hk]))
            · rw [hwants] at hw
              rw [callee_congr hops] at hf
              rw [aop_congr hops, ← hG] at hc
              refine .op tg hw hc (fin _ ?_)
              by_cases h2 : r.2.2 = 2
              · rw [hG2, hk2 h2]
              · rw [hG2, (hkn h2).1, hG3 h2]
          · -- it is computed at each memory that may be
            have hT := hre ((W.map (·.1)).filter S) (subsW.mem hdown _) (fun h => by rw [List.mem_filter, hS] at h; cases h.2)
              (fun j hj h => by
                have := hdown j (List.mem_filter.1 hj).2 i h
                rw [hS] at this; cases this)
              (fun a ha hw => List.mem_filter.2 ⟨hw, hin a ha⟩)
            have e2 : r.2.2 = 2 → ((W.map (·.1)).filter fun j => j == i || ((W.map (·.1)).filter S).contains j) = (W.map (·.1)).filter (plus S i) := fun _ => hcut _ _ fun x hx => by
              unfold plus
              congr 1
              rw [Bool.eq_iff_iff, List.contains_iff_mem, List.mem_filter]
              exact ⟨fun h => h.2, fun h => ⟨List.mem_map_of_mem hx, h⟩⟩
            have h12 : r.2.2 = 1 ∨ r.2.2 = 2 := by
              rcases hF with ⟨hw, hp, hk⟩ | ⟨hw, f, a, hf, (⟨hc, hk⟩ | ⟨hc, hk⟩ | ⟨hc, hk⟩)⟩ | ⟨hw, hf, tg, hc, hk⟩
              · omega
              · omega
              · omega
              · omega
              · rw [hk] at h0 ⊢
                revert h0
                unfold kindOp; split <;> simp
            have hw : wants ops (drawE (teEnv l) L S) o = some true := by
              rw [← hwants]
              rcases hF with ⟨hw, hp, hk⟩ | ⟨hw, _⟩ | ⟨hw, _⟩
              · omega
              · exact hw
              · exact hw
            unfold reOp at hT
            split at hT
            · rename_i fa hf
              rw [callee_congr hops] at hf
              split at hT
              · rename_i hk
                split at hT
                · rename_i p hc
                  rw [pEq.eq 12 hT] at hc
                  exact .callI hw hf (hcr _ _ _ _ hc) (fin _ (by rw [hsame (by omega)]))
                · cases hT
              · rename_i hk
                split at hT
                · rename_i x hc
                  rw [Bool.and_eq_true] at hT
                  have hk' : r.2.2 = 2 := by omega
                  rw [if_pos hk', e2 hk'] at hT
                  have hc' : cf fa.1 fa.2 (atT Tb W H ((W.map (·.1)).filter S)) = some (r.1, x.2) := by rw [hc, ← pEq.eq 12 hT.1]
                  exact .callI hw hf (hcf _ _ _ _ _ hc') (fin _ (hEq.eq hT.2))
                · cases hT
            · rename_i hf
              rw [callee_congr hops] at hf
              split at hT
              · rename_i x hc
                rw [aop_congr hops] at hc
                rw [Bool.and_eq_true, Bool.or_eq_true, decide_eq_true_eq] at hT
                have hc' : aop P (drawE (teEnv l) L S) o (atT Tb W H ((W.map (·.1)).filter S)) tg = some (r.1, x.2) := by rw [hc, ← pEq.eq 12 hT.1]
                refine .op tg hw hc' (fin _ ?_)
                rcases h12 with h1 | h2
                · rw [if_neg (by omega)] at hT
                  rw [hsame (by omega)]
                  rcases hT.2 with h | h
                  · exact aop_read h.2 hc
                  · exact hEq.eq h
                · rw [if_pos h2, e2 h2] at hT
                  rcases hT.2 with h | h
                  · omega
                  · exact hEq.eq h
              · cases hT
      · rw [← hbelow, ← hl']; exact fun t => conv_same _
      · rw [← hbelow]
        have e3 : (W.map (·.1)).filter (below ops.toList.length) = W.map (·.1) := by
          rw [List.filter_eq_self]
          intro a ha
          obtain ⟨x, hx, rfl⟩ := List.mem_map.1 ha
          have hb : ∀ (os : List Oper) (i : Nat) (rs : List Res) (acc : List (Nat × Heap)), (∀ x ∈ acc, x.1 < i) → ∀ x ∈ mkW i os rs acc, x.1 < i + os.length := by
            intro os
            induction os with
            | nil => intro i rs acc ha x hx; have := ha x (by simpa [mkW] using hx); simpa using this
            | cons o os ih =>
              intro i rs acc ha x hx
              cases rs with
              | nil => have := ha x (by simpa [mkW] using hx); omega
              | cons r rs =>
                have := ih (i + 1) rs _ (fun y hy => by
                  split at hy
                  · rcases List.mem_cons.1 hy with rfl | hy
                    · simp
                    · have := ha y hy; omega
                  · have := ha y hy; omega) x hx
                simp; omega
          rw [← hWW] at hx
          have := hb _ 0 rs [] (by simp) x hx
          unfold below; exact decide_eq_true (by omega)
        rw [hseq _ (by rw [e3]; exact c7), ← hH']
    · cases h
end
end Go.RM
namespace Go.RM
set_option linter.unusedVariables false
set_option linter.unusedSimpArgs false
section
variable {P : Program} {X : FuncId → List PV → Heap → PV → Heap → Prop}
def holes (ops : Array Oper) : Nat := (ops.toList.filter isAlloc).length
noncomputable def evReg (P : Program) (cf : CF) (cp : CP) (cr : CR) (ops : Array Oper) (draw : Bool) (l : LE) (H : Heap) : Option (LE × Heap) :=
  if draw then evDraw P cf cp cr ops l (H ++ List.replicate (holes ops) Blk.hole) H.length else evOps P cf ops ops.toList l (H ++ List.replicate (holes ops) Blk.hole) H.length
noncomputable def evRun (P : Program) (cf : CF) (cp : CP) (cr : CR) (N : Nat) : Nat → List Item → LE → Heap → Option (LE × Heap)
  | 0, _, _, _ => none
  | n + 1, todo, l, H => match todo with
    | [] => some (l, H)
    | .inBlock _ :: k => evRun P cf cp cr N n k l H
    | .inLoop a :: k => evRun P cf cp cr N n (.code a :: .inLoop a :: k) l H
    | .code c :: k => match c with
      | .ret => some (l, H)
      | .skip => evRun P cf cp cr N n k l H
      | .label _ => evRun P cf cp cr N n k l H
      | .seq a b => evRun P cf cp cr N n (.code a :: .code b :: k) l H
      | .cond x a b => match ev (teEnv l) x with
        | .val (.bool t) => evRun P cf cp cr N n (.code (if t then a else b) :: k) l H
        | _ => none
      | .block id a => evRun P cf cp cr N n (.code a :: .inBlock id :: k) l H
      | .loop a => evRun P cf cp cr N n (.code a :: .inLoop a :: k) l H
      | .exit id => match exitTo id k with
        | some k' => evRun P cf cp cr N n k' l H
        | none => none
      | .region _ ops draw => if ops.all (dstOk N) = true then match evReg P cf cp cr ops draw l H with
          | some x => evRun P cf cp cr N n k x.1 x.2
          | none => none
        else none
      | _ => none
    | _ => none
theorem D.rooms {fn N M rd todo e O Hf} : ∀ (k : Nat) (H : Heap), D P X (.run fn N M rd todo e (H ++ List.replicate k Blk.hole) O Hf) → D P X (.run fn N M rd todo e H O Hf)
  | 0, H, h => by simpa using h
  | k + 1, H, h => by
    refine .room 0 (D.rooms k _ ?_)
    rw [List.replicate_succ] at h
    simpa [Blk.hole] using h
theorem evRun_sound {cf : CF} {cp : CP} {cr : CR} (hcf : CFok P X cf) (hcp : CPok P X cp) (hcr : CRok P X cr) {fn : Func} {N M : Nat} {O : Outc} {Hf : Heap} : ∀ (n : Nat) (todo : List Item) (l : LE) (H : Heap) (l' : LE) (H' : Heap), evRun P cf cp cr N n todo l H = some (l', H') →
    (∀ k, D P X (.run fn N M false (.code .ret :: k) (teEnv l') H' O Hf)) → D P X (.run fn N M false [] (teEnv l') H' O Hf) → D P X (.run fn N M false todo (teEnv l) H O Hf)
  | 0, todo, l, H, l', H', h, hr, hd => by cases h
  | n + 1, todo, l, H, l', H', h, hr, hd => by
    unfold evRun at h
    split at h
    · injection h with h; injection h with h1 h2
      subst h1 h2
      exact hd
    · exact .inBlock (evRun_sound hcf hcp hcr n _ l H l' H' h hr hd)
    · exact .inLoop (evRun_sound hcf hcp hcr n _ l H l' H' h hr hd)
    · split at h
      · injection h with h; injection h with h1 h2
        subst h1 h2
        exact hr _
      · exact .skip (evRun_sound hcf hcp hcr n _ l H l' H' h hr hd)
      · exact .label (evRun_sound hcf hcp hcr n _ l H l' H' h hr hd)
      · exact .seq (evRun_sound hcf hcp hcr n _ l H l' H' h hr hd)
      · split at h
        · rename_i t hc; exact .cond t hc (evRun_sound hcf hcp hcr n _ l H l' H' h hr hd)
        · cases h
      · exact .block (evRun_sound hcf hcp hcr n _ l H l' H' h hr hd)
      · exact .loop (evRun_sound hcf hcp hcr n _ l H l' H' h hr hd)
      · split at h
        · rename_i k' hk; exact .exit hk (evRun_sound hcf hcp hcr n _ l H l' H' h hr hd)
        · cases h
      · rename_i id9 ops9 dr9
        split at h
        · rename_i hdst
          split at h
          · rename_i x hx
            refine D.rooms (holes ops9) H (.region (e1 := teEnv x.1) (H1 := x.2) hdst ?_ (evRun_sound hcf hcp hcr n _ x.1 x.2 l' H' h hr hd))
            unfold evReg at hx
            split at hx
            · rename_i hdr; rw [hdr]; exact evDraw_sound hcf hcp hcr hx
            · rename_i hdr
              rw [Bool.not_eq_true] at hdr
              rw [hdr]
              exact .reg (evOps_sound hcf hx)
          · cases h
        · cases h
      · cases h
    · cases h
noncomputable def argT : List PV → Nat → TE → TE
  | [], _, T => T
  | p :: l, i, T => argT l (i + 1) (putT T i p)
noncomputable def argL (l : List PV) : TE := argT l 0 (.tip [])
theorem argT_env : ∀ (l : List PV) (i : Nat) (T : TE) (t : Nat), teEnv (argT l i T) t = if t < i then teEnv T t else if t - i < l.length then l.getD (t - i) .undef else teEnv T t
  | [], i, T, t => by simp [argT]
  | p :: l, i, T, t => by
    rw [argT, argT_env l (i + 1), putT_env]
    unfold Env.set
    by_cases h : t = i
    · subst h; simp
    · by_cases hlt : t < i
      · rw [if_pos (by omega), if_neg h, if_pos hlt]
      · rw [if_neg (by omega), if_neg hlt, if_neg h]
        obtain ⟨d, hd⟩ : ∃ d, t - i = d + 1 := ⟨t - i - 1, by omega⟩
        rw [hd, show t - (i + 1) = d by omega]; simp
theorem argL_arg (l : List PV) : teEnv (argL l) = argEnv l := by
  funext t
  unfold argL
  rw [argT_env]
  simp only [Nat.not_lt_zero, if_false, Nat.sub_zero, teEnv_tip, listEnv, argEnv]
  by_cases h : t < l.length
  · simp [h]
  · rw [if_neg h]; simp [List.getD, List.getElem?_eq_none (Nat.le_of_not_lt h)]
theorem omap_get {α β : Type} {f : α → Option β} : ∀ {l : List α} {m : List β}, omap f l = some m → l.length = m.length ∧ ∀ (i : Nat) (x : α) (y : β), l[i]? = some x → m[i]? = some y → f x = some y
  | [], m, h => by injection h with h; subst h; exact ⟨rfl, fun i x y hx => by simp at hx⟩
  | a :: l, m, h => by
    simp only [omap] at h
    cases hf : f a with
    | none => rw [hf] at h; cases h
    | some b =>
      rw [hf] at h
      simp only [Option.bind_some] at h
      cases hm : omap f l with
      | none => rw [hm] at h; cases h
      | some m' =>
        rw [hm] at h
        injection h with h; subst h
        have ih := omap_get hm
        refine ⟨by simp [ih.1], fun i x y hx hy => ?_⟩
        cases i with
        | zero => simp at hx hy; subst hx hy; exact hf
        | succ i => exact ih.2 i x y (by simpa using hx) (by simpa using hy)
def fixD (H : Heap) : Nat → PV → Option PV
  | 0, _ => none
  | n + 1, p => if PV.free deep p = true then some p else match p with
    | .own b k => match H[b]? with
      | some q => if q.es.length = k ∧ q.mp = none then match omap (omap (fixD H n)) q.es with
          | some es => some (.rows es)
          | none => none
        else none
      | none => none
    | .ptr b k sz i off => match H[b]? with
      | some q => match q.es[i]? with
        | some x => if q.es.length = k ∧ q.sz = sz then match omap (fixD H n) x with
            | some y => some (.cptr y off)
            | none => none
          else none
        | none => none
      | none => none
    | .agg cs => match omap (fixD H n) cs with
      | some ds => some (.agg ds)
      | none => none
    | .tuple cs => match omap (fixD H n) cs with
      | some ds => some (.tuple ds)
      | none => none
    | .clo g cs => match omap (fixD H n) cs with
      | some ds => some (.clo g ds)
      | none => none
    | _ => none
def usedB (H : Heap) : Nat → PV → List Nat
  | 0, _ => []
  | n + 1, p => if PV.free deep p = true then [] else match p with
    | .own b _ => b :: (match H[b]? with
      | some q => q.es.flatMap fun x => x.flatMap (usedB H n)
      | none => [])
    | .ptr b _ _ i _ => b :: (match H[b]? with
      | some q => match q.es[i]? with
        | some x => x.flatMap (usedB H n)
        | none => []
      | none => [])
    | .agg cs => cs.flatMap (usedB H n)
    | .tuple cs => cs.flatMap (usedB H n)
    | .clo _ cs => cs.flatMap (usedB H n)
    | _ => []
theorem fixD_conv {H : Heap} {f : Map} : ∀ (n : Nat) (p q : PV) (s : Bool), fixD H n p = some q → (∀ b ∈ usedB H n p, f b = some none) → Conv H f s p q
  | 0, p, q, s, h, hf => by cases h
  | n + 1, p, q, s, h, hf => by
    unfold fixD at h
    unfold usedB at hf
    split at h
    · rename_i hfr; injection h with h; subst h; exact .free rfl hfr
    · rename_i hfr
      rw [if_neg hfr] at hf
      have deepL : ∀ {cs ds : List PV} {s : Bool}, omap (fixD H n) cs = some ds → (∀ b ∈ cs.flatMap (usedB H n), f b = some none) → cs.length = ds.length ∧ ∀ (j : Nat) (p q : PV), cs[j]? = some p → ds[j]? = some q → Conv H f s p q := fun {cs ds s} hm hb => by
        have := omap_get hm
        exact ⟨this.1, fun j p q hp hq => fixD_conv n p q s (this.2 j p q hp hq) fun b hb2 => hb b (List.mem_flatMap.2 ⟨p, List.mem_of_getElem? hp, hb2⟩)⟩
      split at h
      · rename_i b k
        split at h
        · rename_i qk hk
          split at h
          · rename_i hc
            split at h
            · rename_i es hes
              injection h with h; subst h
              simp only [hk] at hf
              have ho := omap_get hes
              refine .fixOwn (hf b (.head _)) hk hc.1 hc.2 ho.1.symm (fun i x y hx hy => ?_) fun i j x y p q hx hy hp hq => ?_
              · exact (omap_get (ho.2 i x y hx hy)).1
              · have hxy := ho.2 i x y hx hy
                refine (deepL hxy fun c hc2 => hf c (.tail _ (List.mem_flatMap.2 ⟨x, List.mem_of_getElem? hx, hc2⟩))).2 j p q hp hq
            · cases h
          · cases h
        · cases h
      · rename_i b k sz i off
        split at h
        · rename_i qk hk
          split at h
          · rename_i x hx
            split at h
            · rename_i hc
              split at h
              · rename_i y hy
                injection h with h; subst h
                simp only [hk, hx] at hf
                have hd := deepL (s := true) hy fun c hc2 => hf c (.tail _ hc2)
                exact .fixPtr (hf b (.head _)) hk hc.1 hc.2 hx hd.1 hd.2
              · cases h
            · cases h
          · cases h
        · cases h
      · split at h
        · rename_i ds hds; injection h with h; subst h
          have := deepL (s := s) hds hf
          exact .agg this.1 this.2
        · cases h
      · split at h
        · rename_i ds hds; injection h with h; subst h
          have := deepL (s := s) hds hf
          exact .tuple this.1 this.2
        · cases h
      · split at h
        · rename_i ds hds; injection h with h; subst h
          have := deepL (s := s) hds hf
          exact .clo this.1 this.2
        · cases h
      · cases h
def fixV (H : Heap) (p : PV) : Option PV := fixD H 12 p
theorem fixV_conv {H : Heap} {p q : PV} (h : fixV H p = some q) : Conv H (.keep []) false p q := fixD_conv 12 p q false h fun b _ => by simp [Map.keep, List.idxOf?]
noncomputable def fixR (H : Heap) (l : LE) : List ResultVar → Option (List (Nat × PV))
  | [] => some []
  | v :: vs =>
    let t := match v with
      | .tmp t => t
      | .cell t _ => t
    match fixV H (teEnv l t), fixR H l vs with
    | some p, some r => some ((t, p) :: r)
    | _, _ => none
theorem fixR_conv {H : Heap} {l : LE} : ∀ {vs : List ResultVar} {r : List (Nat × PV)}, fixR H l vs = some r → ConvL H (.keep []) (teEnv l) r
  | [], r, h => by injection h with h; subst h; trivial
  | v :: vs, r, h => by
    unfold fixR at h
    simp only at h
    split at h
    · rename_i p r' hp hr
      injection h with h; subst h
      exact ⟨fixV_conv hp, fixR_conv hr⟩
    · cases h
noncomputable def callWith (P : Program) (m : Nat) (cf : CF) (cp : CP) (cr : CR) : CF := fun f args H => match P.funcs[f]? with
  | some fn => match fn.body with
    | some c => match evRun P cf cp cr (max args.length fn.ntmps) m [.code c] (argL args) H with
      | some x => match resultsOf P fn (teEnv x.1) x.2 with
        | some r => some (r, x.2)
        | none => none
      | none => none
    | none => none
  | none => none
noncomputable def pureWith (P : Program) (m : Nat) (cf : CF) (cp : CP) (cr : CR) : CP := fun f args => if args.all (PV.free deep) = true then match P.funcs[f]? with
  | some fn => match fn.body with
    | some c => match evRun P cf cp cr (max args.length fn.ntmps) m [.code c] (argL args) [] with
      | some x => match fixR x.2 x.1 fn.results.toList with
        | some l1 => match resultsOf P fn (listEnv l1) [] with
          | some r => if PV.free deep r = true then some r else none
          | none => none
        | none => none
      | none => none
    | none => none
  | none => none
  else none
def readWith (cp : CP) : CR := fun f args H => match omap (fixD H 12) args with
  | some args' =>
    let ls := (args.flatMap (usedB H 12)).eraseDups
    if (decide ls.Nodup && ls.all (fun b => ((H[b]?).map fun k => k.mp.isNone).getD false)) = true then match cp f args' with
      | some r => if PV.solid deep r = true then some r else none
      | none => none
    else none
  | none => none
theorem readWith_ok {cp : CP} (hcp : CPok P X cp) : CRok P X (readWith cp) := by
  intro f args H r h
  unfold readWith at h
  split at h
  · rename_i args' ha
    simp only at h
    split at h
    · rename_i hc
      split at h
      · rename_i r' hr
        split at h
        · rename_i hsol
          injection h with h; subst h
          obtain ⟨h1, h2, h3⟩ := hcp _ _ _ hr
          rw [Bool.and_eq_true, decide_eq_true_eq] at hc
          have hm := omap_get ha
          refine .focus (Hc := []) (Hd := []) [] ((args.flatMap (usedB H 12)).eraseDups) [] false ?_ ⟨rfl, fun i b k1 h => by simp at h⟩ (by simpa using hc.1) hc.2 rfl h3 (.free rfl h2) .nil rfl (.inr (.inr ⟨hsol, rfl⟩)) rfl
          have key : ∀ (l l' : List PV), l.length = l'.length → (∀ (i : Nat) (x y : PV), l[i]? = some x → l'[i]? = some y → fixD H 12 x = some y) → (∀ x ∈ l, ∀ b ∈ usedB H 12 x, Map.lend [] ((args.flatMap (usedB H 12)).eraseDups) b = some none) → All2 (Conv H (.lend [] ((args.flatMap (usedB H 12)).eraseDups)) false) l l' := by
            intro l
            induction l with
            | nil => intro l' hl _ _; cases l' with
              | nil => exact .nil
              | cons _ _ => simp at hl
            | cons x l ih =>
              intro l' hl hg hb
              cases l' with
              | nil => simp at hl
              | cons y l' => exact .cons (fixD_conv 12 x y false (hg 0 x y rfl rfl) (hb x (.head _))) (ih l' (by simpa using hl) (fun i a b ha hb => hg (i + 1) a b (by simpa using ha) (by simpa using hb)) (fun z hz => hb z (.tail _ hz)))
          refine key args args' hm.1 hm.2 fun x hx b hb => ?_
          unfold Map.lend
          simp only [List.idxOf?, List.findIdx?_nil]
          rw [if_pos]
          rw [List.contains_iff_mem, List.mem_eraseDups]
          exact List.mem_flatMap.2 ⟨x, hx, hb⟩
        · cases h
      · cases h
    · cases h
  · cases h
def onlyP (md : FuncId → Bool) (cp : CP) : CP := fun f args => if md f = true then cp f args else none
def onlyR (md : FuncId → Bool) (cp : CP) : CR := fun f args H => if md f = true then readWith cp f args H else none
def onlyF (md : FuncId → Bool) (cf : CF) (cp : CP) : CF := fun f args H => if md f = true then (match cp f args with
  | some r => some (r, H)
  | none => (readWith cp f args H).map (·, H)) else cf f args H
abbrev Known := List (FuncId × List PV × PV)
def findK : Known → FuncId → List PV → Option PV
  | [], _, _ => none
  | x :: K, f, args => if (Nat.beq x.1 f && lEq (pEq 12) x.2.1 args) = true then some x.2.2 else findK K f args
def knownP (K : Known) (cp : CP) : CP := fun f args => match findK K f args with
  | some r => some r
  | none => cp f args
def KOk (P : Program) (X : FuncId → List PV → Heap → PV → Heap → Prop) (x : FuncId × List PV × PV) : Prop := x.2.1.all (PV.free deep) = true ∧ PV.free deep x.2.2 = true ∧ D P X (.callH x.1 x.2.1 [] x.2.2 [])
theorem findK_ok : ∀ {K : Known} {f : FuncId} {args : List PV} {r : PV}, (∀ x ∈ K, KOk P X x) → findK K f args = some r → KOk P X (f, args, r)
  | [], f, args, r, hK, h => by cases h
  | x :: K, f, args, r, hK, h => by
    unfold findK at h
    split at h
    · rename_i hc
      injection h with h
      rw [Bool.and_eq_true, Nat.beq_eq] at hc
      have := hK x (.head _)
      rw [← h, ← hc.1, ← lEq.eq (fun _ _ _ h => pEq.eq 12 h) hc.2]
      exact this
    · exact findK_ok (fun y hy => hK y (.tail _ hy)) h
theorem knownP_ok {K : Known} {cp : CP} (hK : ∀ x ∈ K, KOk P X x) (h : CPok P X cp) : CPok P X (knownP K cp) := fun f args r hr => by
  unfold knownP at hr
  split at hr
  · rename_i r' hf
    injection hr with hr; subst hr
    exact findK_ok hK hf
  · exact h _ _ _ hr
noncomputable def evBoth (P : Program) (md : FuncId → Bool) (K : Known) (m : Nat) : Nat → CF × CP
  | 0 => (fun _ _ _ => none, fun _ _ => none)
  | d + 1 => (callWith P m (onlyF md (evBoth P md K m d).1 (evBoth P md K m d).2) (onlyP md (evBoth P md K m d).2) (onlyR md (evBoth P md K m d).2), knownP K (pureWith P m (onlyF md (evBoth P md K m d).1 (evBoth P md K m d).2) (onlyP md (evBoth P md K m d).2) (onlyR md (evBoth P md K m d).2)))
theorem onlyP_ok {md : FuncId → Bool} {cp : CP} (h : CPok P X cp) : CPok P X (onlyP md cp) := fun f args r hr => by
  unfold onlyP at hr
  split at hr
  · exact h _ _ _ hr
  · cases hr
theorem onlyR_ok {md : FuncId → Bool} {cp : CP} (h : CPok P X cp) : CRok P X (onlyR md cp) := fun f args H r hr => by
  unfold onlyR at hr
  split at hr
  · exact readWith_ok h _ _ _ _ hr
  · cases hr
theorem onlyF_ok {md : FuncId → Bool} {cf : CF} {cp : CP} (h : CFok P X cf) (h2 : CPok P X cp) : CFok P X (onlyF md cf cp) := fun f args H r H1 hr => by
  unfold onlyF at hr
  split at hr
  · split at hr
    · rename_i r' hc
      injection hr with hr; injection hr with h1 h3
      subst h1 h3
      obtain ⟨ha, hb, hd⟩ := h2 _ _ _ hc
      exact .pure ha hb hd
    · cases hq : readWith cp f args H with
      | none => rw [hq] at hr; cases hr
      | some r' =>
        rw [hq] at hr
        injection hr with hr; injection hr with h1 h3
        subst h1 h3
        exact readWith_ok h2 _ _ _ _ hq
  · exact h _ _ _ _ _ hr
theorem evBoth_sound {md : FuncId → Bool} {K : Known} {m : Nat} (hK : ∀ x ∈ K, KOk P X x) : ∀ d : Nat, CFok P X (evBoth P md K m d).1 ∧ CPok P X (evBoth P md K m d).2
  | 0 => ⟨fun _ _ _ _ _ h => (by cases h), fun _ _ _ h => (by cases h)⟩
  | d + 1 => by
    obtain ⟨hcf0, hcp0⟩ := evBoth_sound (md := md) (m := m) hK d
    have hcf := onlyF_ok (md := md) hcf0 hcp0
    have hcp := onlyP_ok (md := md) hcp0
    have hcr := onlyR_ok (md := md) hcp0
    constructor
    · intro f args H r H1 h
      simp only [evBoth, callWith] at h
      split at h
      · rename_i fn hf
        split at h
        · rename_i c hb
          split at h
          · rename_i x hx
            split at h
            · rename_i r' hr
              injection h with h; injection h with h1 h2
              subst h1 h2
              refine .callH hf hb ?_
              rw [← argL_arg]
              exact evRun_sound hcf hcp hcr m _ _ _ x.1 x.2 hx (fun k => .ret hr) (.done hr)
            · cases h
          · cases h
        · cases h
      · cases h
    · simp only [evBoth]
      refine knownP_ok hK ?_
      intro f args r h
      simp only [pureWith] at h
      split at h
      · rename_i ha
        split at h
        · rename_i fn hf
          split at h
          · rename_i c hb
            split at h
            · rename_i x hx
              split at h
              · rename_i l1 hl
                split at h
                · rename_i r' hr
                  split at h
                  · rename_i hfr
                    injection h with h
                    subst h
                    refine ⟨ha, hfr, .callH hf hb ?_⟩
                    rw [← argL_arg]
                    refine evRun_sound hcf hcp hcr m _ _ _ x.1 x.2 hx (fun k => ?_) ?_
                    · exact .keep (e1 := listEnv l1) (H1 := []) [] (fun b hb => by simp at hb) (by simp) (fixR_conv hl).env ⟨rfl, fun i b k1 h => by simp at h⟩ (.ret hr)
                    · exact .keep (e1 := listEnv l1) (H1 := []) [] (fun b hb => by simp at hb) (by simp) (fixR_conv hl).env ⟨rfl, fun i b k1 h => by simp at h⟩ (.done hr)
                  · cases h
                · cases h
              · cases h
            · cases h
          · cases h
        · cases h
      · cases h
noncomputable def tellK (P : Program) (md : FuncId → Bool) (K : Known) (m d : Nat) (f : FuncId) (args : List PV) (r : PV) : Bool := match (evBoth P md K m d).2 f args with
  | some r' => pEq 12 r' r
  | none => false
theorem known {f : FuncId} {args : List PV} {r : PV} (md : FuncId → Bool) (K : Known) (hK : ∀ x ∈ K, KOk P X x) (m d : Nat) (h : tellK P md K m d f args r = true) : KOk P X (f, args, r) := by
  unfold tellK at h
  split at h
  · rename_i r' hr
    rw [pEq.eq 12 h] at hr
    exact (evBoth_sound hK d).2 f args r hr
  · cases h
theorem known.D {f : FuncId} {r : PV} (h : KOk P X (f, [], r)) : D P X (.callH f [] [] r []) := h.2.2
end
end Go.RM
