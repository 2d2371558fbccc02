/- MA MB MD ME MF MG MI MH MJ MK ML MN MO MQ MP MR MC MS MT MU, for the statement WeightRing: what it needs, no more. -/
import Derived.Calls
import Derived.Orders
import Derived.Laws.AppendOwn
import Derived.Tactics
import Derived.OrdersHeld
import Derived.Laws.Cells
import Derived.Laws.IdiomCopy
import Derived.Laws.MakeOwn
import Derived.Laws.CopyRow
import Derived.Laws.Append
import Derived.MapKept
namespace Go.RM
set_option linter.unusedVariables false
inductive PV where
  | undef
  | val (v : Value)
  | rows (es : List (List PV))
  | own (b n : Nat)
  | ptr (b n sz i off : Nat)
  | cptr (cells : List PV) (off : Nat)
  | agg (cells : List PV)
  | tuple (vs : List PV)
  | clo (f : FuncId) (captured : List PV)
  | mp (b : Nat)
  | nocap
  deriving Inhabited
structure Blk where
  sz : Nat
  es : List (List PV)
  frozen : Nat := 0
  mp : Option (List (Value × PV)) := none
  deriving Inhabited
abbrev Heap := List Blk
abbrev Mem := Nat → Nat → Option Value
abbrev Place := Nat → Nat → Option (Nat × Nat)
inductive Imm (F : Mem) : PV → Value → Prop where
  | undef (v : Value) : Imm F .undef v
  | val (v : Value) : Imm F (.val v) v
  | none (a : Option Addr) (cap : Nat) : Imm F (.rows []) (.slice a 0 cap)
  | nocap (a : Option Addr) : Imm F .nocap (.slice a 0 0)
  | rows (es : List (List PV)) (c o cap sz : Nat) (f : Nat → Nat → Value)
      (hsz : ∀ e ∈ es, e.length = sz)
      (hat : ∀ (i j : Nat) (e : List PV) (p : PV), es[i]? = some e → e[j]? = some p → F c (o + i * sz + j) = some (f i j) ∧ (f i j).oneCell' = true)
      (himm : ∀ (i j : Nat) (e : List PV) (p : PV), es[i]? = some e → e[j]? = some p → Imm F p (f i j)) (hcap : es.length ≤ cap) :
      Imm F (.rows es) (.slice (some ⟨c, o, none⟩) es.length cap)
  | cptr (cells : List PV) (off c o : Nat) (f : Nat → Value)
      (hat : ∀ (j : Nat) (p : PV), cells[j]? = some p → F c (o + j) = some (f j) ∧ (f j).oneCell' = true)
      (himm : ∀ (j : Nat) (p : PV), cells[j]? = some p → Imm F p (f j)) :
      Imm F (.cptr cells off) (.pointer (some ⟨c, o + off, none⟩))
  | agg (cells : List PV) (cs : Array Value) (hl : cells.length = cs.size)
      (himm : ∀ (j : Nat) (p : PV) (v : Value), cells[j]? = some p → cs[j]? = some v → Imm F p v) : Imm F (.agg cells) (.agg cs)
  | tuple (cells : List PV) (cs : Array Value) (hl : cells.length = cs.size)
      (himm : ∀ (j : Nat) (p : PV) (v : Value), cells[j]? = some p → cs[j]? = some v → Imm F p v) : Imm F (.tuple cells) (.tuple cs)
  | clo (f : FuncId) (cells : List PV) (cs : Array Value) (hl : cells.length = cs.size)
      (himm : ∀ (j : Nat) (p : PV) (v : Value), cells[j]? = some p → cs[j]? = some v → Imm F p v) : Imm F (.clo f cells) (.func (.func f) #[] cs)
inductive Rep (φ : Place) (F : Mem) : PV → Value → Prop where
  | imm {p : PV} {v : Value} (h : Imm F p v) : Rep φ F p v
  | own0 (b : Nat) : Rep φ F (.own b 0) (.slice none 0 0)
  | own (b n c cap : Nat) (h : φ b n = some (c, cap)) : Rep φ F (.own b n) (.slice (some ⟨c, 0, none⟩) n cap)
  | ptr (b n sz i off c cap : Nat) (h : φ b n = some (c, cap)) : Rep φ F (.ptr b n sz i off) (.pointer (some ⟨c, i * sz + off, none⟩))
  | mp (b c cap : Nat) (h : φ b 0 = some (c, cap)) : Rep φ F (.mp b) (.map (some c))
  | agg (cells : List PV) (cs : Array Value) (hl : cells.length = cs.size)
      (himm : ∀ (j : Nat) (p : PV) (v : Value), cells[j]? = some p → cs[j]? = some v → Rep φ F p v) : Rep φ F (.agg cells) (.agg cs)
  | tuple (cells : List PV) (cs : Array Value) (hl : cells.length = cs.size)
      (himm : ∀ (j : Nat) (p : PV) (v : Value), cells[j]? = some p → cs[j]? = some v → Rep φ F p v) : Rep φ F (.tuple cells) (.tuple cs)
  | clo (f : FuncId) (cells : List PV) (cs : Array Value) (hl : cells.length = cs.size)
      (himm : ∀ (j : Nat) (p : PV) (v : Value), cells[j]? = some p → cs[j]? = some v → Rep φ F p v) : Rep φ F (.clo f cells) (.func (.func f) #[] cs)
def Mem.le (F F' : Mem) : Prop := ∀ c j a, F c j = some a → F' c j = some a
def Place.le (φ φ' : Place) : Prop := ∀ b n x, φ b n = some x → φ' b n = some x
theorem Mem.le.refl (F : Mem) : F.le F := fun _ _ _ h => h
theorem Mem.le.trans {F G H : Mem} (h : F.le G) (h' : G.le H) : F.le H := fun c j a x => h' c j a (h c j a x)
theorem Place.le.refl (F : Place) : F.le F := fun _ _ _ h => h
theorem Place.le.trans {F G H : Place} (h : F.le G) (h' : G.le H) : F.le H := fun c a y x => h' c a y (h c a y x)
theorem Imm.mono {F F' : Mem} (hF : F.le F') {p : PV} {v : Value} (h : Imm F p v) : Imm F' p v := by
  induction h with
  | undef v => exact .undef v
  | val v => exact .val v
  | none a cap => exact .none a cap
  | nocap a => exact .nocap a
  | rows es c o cap sz f h2 h3 h4 h5 ih => exact .rows es c o cap sz f h2 (fun i j e p he hp => ⟨hF _ _ _ (h3 i j e p he hp).1, (h3 i j e p he hp).2⟩) ih h5
  | cptr cells off c o f h2 h3 ih => exact .cptr cells off c o f (fun j p hp => ⟨hF _ _ _ (h2 j p hp).1, (h2 j p hp).2⟩) ih
  | agg cells cs hl _ ih => exact .agg cells cs hl ih
  | tuple cells cs hl _ ih => exact .tuple cells cs hl ih
  | clo f cells cs hl _ ih => exact .clo f cells cs hl ih
theorem Rep.mono {φ φ' : Place} {F F' : Mem} (hφ : φ.le φ') (hF : F.le F') {p : PV} {v : Value} (h : Rep φ F p v) : Rep φ' F' p v := by
  induction h with
  | imm h => exact .imm (h.mono hF)
  | own0 b => exact .own0 b
  | own b n c cap h => exact .own b n c cap (hφ _ _ _ h)
  | ptr b n sz i off c cap h => exact .ptr b n sz i off c cap (hφ _ _ _ h)
  | mp b c cap h => exact .mp b c cap (hφ _ _ _ h)
  | agg cells cs hl _ ih => exact .agg cells cs hl ih
  | tuple cells cs hl _ ih => exact .tuple cells cs hl ih
  | clo f cells cs hl _ ih => exact .clo f cells cs hl ih
inductive All2 {α β : Type} (R : α → β → Prop) : List α → List β → Prop where
  | nil : All2 R [] []
  | cons {x : α} {y : β} {l : List α} {m : List β} (h : R x y) (t : All2 R l m) : All2 R (x :: l) (y :: m)
theorem All2.mono {α β : Type} {R S : α → β → Prop} (h : ∀ x y, R x y → S x y) {l : List α} {m : List β} (hl : All2 R l m) : All2 S l m := by
  induction hl with
  | nil => exact .nil
  | cons h1 _ ih => exact .cons (h _ _ h1) ih
def RowIn (φ : Place) (F : Mem) (w : World) (c : Nat) (k : Blk) (cap : Nat) : Prop :=
  ∃ arr e, w.heap[c]? = some (.cells arr e (0, 0)) ∧ k.es.length ≤ cap ∧ cap ≤ maxLen ∧ arr.size = cap * k.sz ∧ (∀ j, k.frozen * k.sz ≤ j → F c j = none) ∧
    ∀ (i j : Nat) (x : List PV) (p : PV), k.es[i]? = some x → x[j]? = some p → ∃ v, arr[i * k.sz + j]? = some v ∧ v.oneCell' = true ∧ Rep φ F p v
def MapIn (φ : Place) (F : Mem) (w : World) (c : Nat) (l : List (Value × PV)) : Prop :=
  ∃ es clock, w.heap[c]? = some (.map es clock) ∧ All2 (fun (x : Value × PV) (m : MapEntry) => m.key = x.1 ∧ Rep φ F x.2 m.val) l es.toList
structure BlkIn (φ : Place) (F : Mem) (w : World) (b : Nat) (k : Blk) : Prop where
  uni : ∀ e ∈ k.es, e.length = k.sz
  at_ : (k.es = [] ∧ k.mp = none ∧ φ b 0 = none) ∨ (0 < k.sz ∧ k.mp = none ∧ ∃ c cap, φ b k.es.length = some (c, cap) ∧ RowIn φ F w c k cap) ∨
    (0 < k.sz ∧ k.es = [] ∧ ∃ l c cap, k.mp = some l ∧ φ b 0 = some (c, cap) ∧ MapIn φ F w c l)
end Go.RM
namespace Go.RM
set_option linter.unusedVariables false
def omap {α β : Type} (f : α → Option β) : List α → Option (List β)
  | [] => some []
  | x :: l => (f x).bind fun y => (omap f l).map (y :: ·)
abbrev Env := Nat → PV
def Env.set (e : Env) (t : Nat) (p : PV) : Env := fun u => if u = t then p else e u
def Env.put (e : Env) (d : Option Tmp) (p : PV) : Env := match d with
  | some t => e.set t p
  | none => e
def ofV : Value → PV
  | .agg cs => .agg (cs.toList.map .val)
  | .tuple vs => .tuple (vs.toList.map .val)
  | v => .val v
def PV.cells : PV → List PV
  | .agg cs => cs
  | p => [p]
def PV.one : PV → Bool
  | .val v => v.oneCell'
  | .rows _ | .own .. | .ptr .. | .cptr .. | .clo .. | .mp _ | .nocap => true
  | _ => false
def scalar? : PV → Option Value
  | .val v => some v
  | _ => none
def toV? : PV → Option Value
  | .val v => some v
  | .agg cs => (omap scalar? cs).map fun l => .agg l.toArray
  | _ => none
def ev (e : Env) : Operand → PV
  | .tmp t => e t
  | .const v => ofV v
  | .global g => .val (.pointer (some ⟨g, 0, none⟩))
  | .func f => .clo f []
def quietly (P : Program) {α : Type} : Sem α → Option α
  | .pure a => some a
  | .program k => quietly P (k P)
  | _ => none
def sizeOf? (P : Program) (t : TypeId) : Option Nat := (P.info? t).map (·.size)
def isAgg? (P : Program) (t : TypeId) : Option Bool := (P.underlying t).map fun
  | .struct _ | .array .. => true
  | _ => false
def PV.free : Nat → PV → Bool
  | 0, _ => false
  | n + 1, p => match p with
    | .own .. | .ptr .. | .mp _ => false
    | .agg cs | .tuple cs | .clo _ cs => cs.all (PV.free n)
    | _ => true
def deep : Nat := 8
def Blk.hole : Blk := ⟨0, [], 0, none⟩
def Heap.fill (H : Heap) (b : Nat) (k : Blk) : Option Heap := match H[b]? with
  | some ⟨0, [], 0, none⟩ => some (H.set b k)
  | _ => none
def rd (H : Heap) (a : PV) (size : Nat) : Option (List PV) :=
  match a with
  | .ptr b n sz i off => (H[b]?).bind fun k => if k.es.length = n ∧ k.sz = sz ∧ off + size ≤ sz then (k.es[i]?).map fun x => (x.drop off).take size else none
  | .cptr cells off => if off + size ≤ cells.length then some ((cells.drop off).take size) else none
  | _ => none
def wr (H : Heap) (a : PV) (cs : List PV) : Option Heap :=
  match a with
  | .ptr b n sz i off => (H[b]?).bind fun k =>
    if k.es.length = n ∧ k.sz = sz ∧ off + cs.length ≤ sz ∧ k.frozen ≤ i ∧ cs.all PV.one = true then
      (k.es[i]?).map fun x => H.set b { k with es := k.es.set i (x.take off ++ cs ++ x.drop (off + cs.length)) }
    else none
  | _ => none
def asVar (agg : Bool) (cs : List PV) : Option PV :=
  if agg then some (.agg cs) else match cs with
    | [p] => some p
    | _ => none
def elems (H : Heap) : PV → Option (List (List PV))
  | .rows es => some es
  | .own b n => (H[b]?).bind fun k => if k.es.length = n then some k.es else none
  | .val (.slice _ 0 _) => some []
  | .nocap => some []
  | _ => none
def fillP (place : Nat → Option (Nat × Nat)) : List PV → List (Nat × PV) → Option (List PV)
  | cells, [] => some cells
  | cells, (i, p) :: rest => (place i).bind fun (off, size) =>
    let cs := p.cells
    if cs.length = size ∧ off + size ≤ cells.length ∧ cs.all PV.one = true then fillP place (cells.take off ++ cs ++ cells.drop (off + size)) rest else none
def bound (p : Option PV) (d : Nat) : Option Nat := match p with
  | none => some d
  | some (.val (.int _ i)) => if 0 ≤ i then some i.toNat else none
  | _ => none
def stripes (sz : Nat) : Nat → List PV → List (List PV)
  | 0, _ => []
  | n + 1, l => l.take sz :: stripes sz n (l.drop sz)
abbrev Out := Option (PV × Heap)
def doAppend (P : Program) (t : TypeId) (s : PV) (news : List (List PV)) (H : Heap) (tgt : Nat) : Out :=
  match P.underlying t with
  | some (.slice e) => (P.info? e).bind fun i =>
    if 0 < i.size ∧ (news.all fun x => x.length == i.size) = true ∧ i.zero.isSome = true ∧ (i.zero.map (·.cells.size) == some i.size) = true then
      match s with
      | .val (.slice none 0 0) =>
        if news.length = 0 then some (s, H)
        else if news.length * i.bytes ≤ 140737488355328 ∧ news.length ≤ maxLen then (H.fill tgt ⟨i.size, news, 0, none⟩).map fun H1 => (.own tgt news.length, H1) else none
      | .nocap =>
        if news.length = 0 then some (s, H)
        else if news.length * i.bytes ≤ 140737488355328 ∧ news.length ≤ maxLen then (H.fill tgt ⟨i.size, news, 0, none⟩).map fun H1 => (.own tgt news.length, H1) else none
      | .own b n => (H[b]?).bind fun k =>
        if k.es.length = n ∧ k.sz = i.size ∧ k.mp.isNone = true ∧ k.frozen ≤ n ∧ (n + news.length) * i.bytes ≤ 140737488355328 ∧ n + news.length ≤ maxLen then
          some (.own b (n + news.length), H.set b { k with es := k.es ++ news })
        else none
      | _ => none
    else none
  | _ => none
def generic (P : Program) (e : Env) (o : Oper) (H : Heap) : Out :=
  if o.op.operands.all fun x => (toV? (ev e x)).isSome then
    match quietly P (execOp (fun x => (toV? (ev e x)).getD undef) o) with
    | some (.value v) => some (ofV v, H)
    | _ => none
  else none
def push (H : Heap) (tgt sz : Nat) (cs : List PV) : Out :=
  if cs.length = sz ∧ 0 < sz ∧ cs.all PV.one = true then (H.fill tgt ⟨sz, [cs], 0, none⟩).map fun H1 => (.ptr tgt 1 sz 0 0, H1) else none
def zero? (P : Program) (t : TypeId) : Option (List PV) := ((P.info? t).bind (·.zero)).map fun z => (ofV z).cells
def doBuild (P : Program) (t : TypeId) (parts : List (Nat × PV)) (H : Heap) : Out :=
  (zero? P t).bind fun z => match P.underlying t with
    | some (.struct fs) => (omap (fun (f : Field) => (sizeOf? P f.type).map fun s => (f.offset, s)) fs.toList).bind fun places => (fillP (fun i => places[i]?) z parts).map fun cs => (.agg cs, H)
    | some (.array _ el) => (sizeOf? P el).bind fun s => (fillP (fun i => some (i * s, s)) z parts).map fun cs => (.agg cs, H)
    | _ => none
def doBuildSlice (P : Program) (t : TypeId) (len : Nat) (parts : List (Nat × PV)) (H : Heap) (tgt : Nat) : Out :=
  match P.underlying t with
  | some (.slice el) => (sizeOf? P el).bind fun s => (zero? P el).bind fun z =>
    if 0 < s ∧ z.length = s ∧ len * s ≤ 2 ^ 24 then
      (fillP (fun i => some (i * s, s)) ((List.range len).flatMap fun _ => z) parts).bind fun cs =>
        if cs.all PV.one = true then (H.fill tgt ⟨s, stripes s len cs, 0, none⟩).map fun H1 => (.own tgt len, H1) else none
    else none
  | _ => none
def doMake (P : Program) (t : TypeId) (l c : PV) (H : Heap) (tgt : Nat) : Out :=
  match P.underlying t, l, c with
  | some (.slice el), .val (.int _ l), .val (.int _ c) => (P.info? el).bind fun i => (zero? P el).bind fun z =>
    if 0 < i.size ∧ z.length = i.size ∧ 0 ≤ l ∧ l ≤ c ∧ c * i.bytes ≤ 140737488355328 ∧ c ≤ maxLen ∧ z.all PV.one = true then
      (H.fill tgt ⟨i.size, List.replicate l.toNat z, 0, none⟩).map fun H1 => (.own tgt l.toNat, H1)
    else none
  | _, _, _ => none
def doSlice (P : Program) (e : Env) (o : Oper) (t : TypeId) (x : PV) (lo hi mx : Option PV) (H : Heap) : Out :=
  match x with
  | .rows es => match P.underlying t with
    | some (.slice el) => (bound mx es.length).bind fun m => (bound hi es.length).bind fun h => (bound lo 0).bind fun l =>
      (sizeOf? P el).bind fun s => if l ≤ h ∧ h ≤ m ∧ m ≤ es.length ∧ (mx.isSome = true → hi.isSome = true) ∧ (es.all fun x => x.length == s) = true then
        some (if mx.isSome = true ∧ m = l then .nocap else .rows ((es.drop l).take (h - l)), H) else none
    | _ => none
  | .own b n => match P.underlying t with
    | some (.slice el) => (H[b]?).bind fun k => (bound hi n).bind fun h => (bound lo 0).bind fun l =>
      (sizeOf? P el).bind fun s => if mx.isNone = true ∧ k.es.length = n ∧ l ≤ h ∧ h ≤ n ∧ s = k.sz ∧ k.mp.isNone = true ∧ k.es.all (fun x => x.all (PV.free deep)) = true then
        some (.rows ((k.es.drop l).take (h - l)), H.set b { k with frozen := max k.frozen h }) else none
    | _ => none
  | _ => generic P e o H
def fieldOf (P : Program) (t : TypeId) (f : Nat) : Option (Nat × TypeId) := match P.underlying t with
  | some (.struct fs) => (fs[f]?).map fun f => (f.offset, f.type)
  | _ => none
def partOf (P : Program) (t : TypeId) (cs : List PV) (off : Nat) : Option PV :=
  (sizeOf? P t).bind fun s => (isAgg? P t).bind fun g => if off + s ≤ cs.length ∧ (g = true ∨ s = 1) then asVar g ((cs.drop off).take s) else none
def doIndexAddr (P : Program) (t : TypeId) (x ix : PV) (H : Heap) : Option PV :=
  match ix with
  | .val (.int _ i) => match P.underlying t, x with
    | some (.slice el), .rows es => if 0 ≤ i then (es[i.toNat]?).bind fun c => if sizeOf? P el = some c.length then some (.cptr c 0) else none else none
    | some (.slice el), .own b n => if 0 ≤ i ∧ i < n then (H[b]?).bind fun k => if k.es.length = n ∧ sizeOf? P el = some k.sz then some (.ptr b n k.sz i.toNat 0) else none else none
    | some (.array len el), .ptr b n sz j off => if 0 ≤ i ∧ i < len then (sizeOf? P el).map fun s => .ptr b n sz j (off + i.toNat * s) else none
    | some (.array len el), .cptr cs off => if 0 ≤ i ∧ i < len then (sizeOf? P el).map fun s => .cptr cs (off + i.toNat * s) else none
    | _, _ => none
  | _ => none
def doIndex (P : Program) (t : TypeId) (x ix : PV) : Option PV :=
  match P.underlying t, x, ix with
  | some (.array len el), .agg cs, .val (.int _ i) => if 0 ≤ i ∧ i < len then (sizeOf? P el).bind fun s => partOf P el cs (i.toNat * s) else none
  | _, _, _ => none
def isNil (d : Option TypeDesc) (p : PV) : Option Bool :=
  match d, p with
  | some (.pointer _), .val (.pointer none) => some true
  | some (.pointer _), .ptr .. => some false
  | some (.pointer _), .cptr .. => some false
  | some (.slice _), .val (.slice none 0 0) => some true
  | some (.slice _), .rows (_ :: _) => some false
  | some (.slice _), .own _ (_ + 1) => some false
  | some (.func ..), .val .nilFunc => some true
  | some (.func ..), .clo .. => some false
  | _, _ => none
def entries (H : Heap) : PV → Option (List (Value × PV))
  | .mp b => (H[b]?).bind (·.mp)
  | _ => none
def keyAt (P : Program) (kt : TypeId) (k : Value) (l : List (Value × PV)) : Option (Option Nat) :=
  (quietly P (Instr.findKey kt k (l.map fun x => { key := x.1, val := undef, born := 0 }))).map fun r => r.map (·.1)
def doLookup (P : Program) (t : TypeId) (m k : PV) (ok : Bool) (H : Heap) : Out :=
  match P.underlying t with
  | some (.map kt el) => (entries H m).bind fun l => (toV? k).bind fun kv => (quietly P (Instr.checkKey l.isEmpty 10000 kt kv)).bind fun _ => (keyAt P kt kv l).bind fun
    | some i => (l[i]?).map fun x => (if ok then .tuple [x.2, .val (.bool true)] else x.2, H)
    | none => ((P.info? el).bind (·.zero)).map fun z => (if ok then .tuple [ofV z, .val (.bool false)] else ofV z, H)
  | _ => none
def doUpdate (P : Program) (t : TypeId) (m k x : PV) (H : Heap) : Out :=
  match P.underlying t, m with
  | some (.map kt _), .mp b => (H[b]?).bind fun kb => kb.mp.bind fun l => (toV? k).bind fun kv => (quietly P (Instr.checkKey false 10000 kt kv)).bind fun _ => (keyAt P kt kv l).bind fun
    | some i => (l[i]?).bind fun y => if Instr.sameBits 10000 y.1 kv = true then some (.undef, H.set b { kb with mp := some (l.set i (kv, x)) }) else none
    | none => some (.undef, H.set b { kb with mp := some (l ++ [(kv, x)]) })
  | _, _ => none
def aop (P : Program) (e : Env) (o : Oper) (H : Heap) (tgt : Nat) : Out :=
  match o.op with
  | .move x | .assign x => some (ev e x, H)
  | .pick c a b => match ev e c with
    | .val (.bool t) => some (if t then ev e a else ev e b, H)
    | _ => none
  | .alloc t => (zero? P t).bind fun z => push H tgt z.length z
  | .box _ x => push H tgt (ev e x).cells.length (ev e x).cells
  | .build t ps => doBuild P t (ps.toList.map fun x => (x.1, ev e x.2)) H
  | .buildSlice t n ps => doBuildSlice P t n (ps.toList.map fun x => (x.1, ev e x.2)) H tgt
  | .load t a => (sizeOf? P t).bind fun s => (isAgg? P t).bind fun g => if g = true ∨ s = 1 then (rd H (ev e a) s).bind fun cs => (asVar g cs).map (·, H) else none
  | .store t a x => if sizeOf? P t = some (ev e x).cells.length then (wr H (ev e a) (ev e x).cells).map (.undef, ·) else none
  | .nilCheck x => match ev e x with
    | .ptr b n sz i off => some (.ptr b n sz i off, H)
    | .cptr c off => some (.cptr c off, H)
    | .clo f c => some (.clo f c, H)
    | _ => generic P e o H
  | .makeFunc (.func f) first cs => if first.size = 0 then some (.clo f (cs.toList.map (ev e)), H) else none
  | .makeSlice t l c => doMake P t (ev e l) (ev e c) H tgt
  | .slice t x lo hi mx => doSlice P e o t (ev e x) (lo.map (ev e)) (hi.map (ev e)) (mx.map (ev e)) H
  | .fieldAddr t x f => (fieldOf P t f).bind fun d => if sizeOf? P d.2 = some 0 ∨ sizeOf? P d.2 = none then none else match ev e x with
    | .ptr b n sz i off => some (.ptr b n sz i (off + d.1), H)
    | .cptr cs off => some (.cptr cs (off + d.1), H)
    | _ => none
  | .field t x f => (fieldOf P t f).bind fun d => match ev e x with
    | .agg cs => (partOf P d.2 cs d.1).map (·, H)
    | _ => none
  | .indexAddr t x ix => (doIndexAddr P t (ev e x) (ev e ix) H).map (·, H)
  | .index t x ix => match ev e x with
    | .agg cs => (doIndex P t (.agg cs) (ev e ix)).map (·, H)
    | _ => generic P e o H
  | .extract t i => match ev e t with
    | .tuple vs => (vs[i]?).map (·, H)
    | _ => none
  | .binOp .eql t x y _ => match isNil (P.underlying t) (ev e x), isNil (P.underlying t) (ev e y) with
    | some a, some b => if a || b then some (.val (.bool (a && b)), H) else none
    | _, _ => generic P e o H
  | .binOp .neq t x y _ => match isNil (P.underlying t) (ev e x), isNil (P.underlying t) (ev e y) with
    | some a, some b => if a || b then some (.val (.bool (!(a && b))), H) else none
    | _, _ => generic P e o H
  | .call { callee := .builtin .len, args, argTypes } => match args.toList, argTypes.toList with
    | [x], [t] => match P.underlying t with
      | some (.slice _) => (elems H (ev e x)).map fun es => (.val (.int .i64 es.length), H)
      | _ => generic P e o H
    | _, _ => none
  | .call { callee := .builtin .append, args, argTypes } => match args.toList, argTypes.toList with
    | [s, x], [t, u] => if t = u then (elems H (ev e x)).bind fun news => doAppend P t (ev e s) news H tgt else none
    | _, _ => none
  | .makeMap _ none => (H.fill tgt ⟨1, [], 0, some []⟩).map fun H1 => (.mp tgt, H1)
  | .lookup t m k ok => doLookup P t (ev e m) (ev e k) ok H
  | .mapUpdate t m k x => doUpdate P t (ev e m) (ev e k) (ev e x) H
  | .insert t m k x => doUpdate P t (ev e m) (ev e k) (ev e x) H
  | .select .. => none
  | _ => generic P e o H
end Go.RM
namespace Go.RM
set_option linter.unusedVariables false
variable {P : Program}
def Holds (F : Mem) (w : World) : Prop := ∀ c j v, F c j = some v → ∃ arr e fr, w.heap[c]? = some (.cells arr e fr) ∧ arr[j]? = some v
structure HR (φ : Place) (F : Mem) (H : Heap) (w : World) : Prop where
  mem : Holds F w
  blk : ∀ (b : Nat) (k : Blk), H[b]? = some k → BlkIn φ F w b k
  sep : ∀ (b b' : Nat) (k k' : Blk) (c cap c' cap' : Nat), b ≠ b' → H[b]? = some k → H[b']? = some k' → φ b k.es.length = some (c, cap) → φ b' k'.es.length = some (c', cap') → c ≠ c'
  dom : ∀ (b n : Nat) (x : Nat × Nat), φ b n = some x → ∃ k, H[b]? = some k ∧ n ≤ k.es.length
structure Keeps (φ : Place) (H : Heap) (w w' : World) : Prop where
  os : w'.os = w.os
  tape : w'.tape = w.tape
  output : w'.output = w.output
  size : w.heap.size ≤ w'.heap.size
  old : ∀ c, c < w.heap.size → (∀ (b : Nat) (k : Blk) (cap : Nat), H[b]? = some k → φ b k.es.length ≠ some (c, cap)) → w'.heap[c]? = w.heap[c]?
def Later (φ : Place) (H : Heap) (φ' : Place) (H' : Heap) (n : Nat) : Prop :=
  ∀ (b : Nat) (k : Blk) (c cap : Nat), H'[b]? = some k → φ' b k.es.length = some (c, cap) →
    n ≤ c ∨ ∃ b0 k0 cap0, H[b0]? = some k0 ∧ φ b0 k0.es.length = some (c, cap0)
theorem Later.refl (φ : Place) (H : Heap) (n : Nat) : Later φ H φ H n := fun b k c cap hb he => .inr ⟨b, k, cap, hb, he⟩
theorem Later.trans {φ φ' φ'' : Place} {H H' H'' : Heap} {n n' : Nat} (hn : n ≤ n') (h : Later φ H φ' H' n) (h' : Later φ' H' φ'' H'' n') : Later φ H φ'' H'' n := by
  intro b k c cap hb he
  rcases h' b k c cap hb he with h1 | ⟨b0, k0, cap0, h1, h3⟩
  · exact .inl (Nat.le_trans hn h1)
  · exact h b0 k0 c cap0 h1 h3
def Place.upTo (M : Nat) (φ φ' : Place) : Prop := ∀ b n x, b < M → φ b n = some x → φ' b n = some x
structure PostM (M : Nat) (φ : Place) (F : Mem) (H : Heap) (w : World) (φ' : Place) (F' : Mem) (H' : Heap) (w' : World) : Prop where
  place : φ.upTo M φ'
  mem : F.le F'
  hr : HR φ' F' H' w'
  keeps : Keeps φ H w w'
  later : Later φ H φ' H' w.heap.size
  fresh : ∀ c, c < w.heap.size → F' c = F c ∨ ∃ b k cap, H[b]? = some k ∧ φ b k.es.length = some (c, cap)
structure Post (φ : Place) (F : Mem) (H : Heap) (w : World) (φ' : Place) (F' : Mem) (H' : Heap) (w' : World) : Prop where
  place : φ.le φ'
  mem : F.le F'
  hr : HR φ' F' H' w'
  keeps : Keeps φ H w w'
  later : Later φ H φ' H' w.heap.size
  fresh : ∀ c, c < w.heap.size → F' c = F c ∨ ∃ b k cap, H[b]? = some k ∧ φ b k.es.length = some (c, cap)
theorem Keeps.refl (φ : Place) (H : Heap) (w : World) : Keeps φ H w w := ⟨rfl, rfl, rfl, Nat.le_refl _, fun _ _ _ => rfl⟩
theorem Post.refl {φ : Place} {F : Mem} {H : Heap} {w : World} (h : HR φ F H w) : Post φ F H w φ F H w := ⟨.refl φ, .refl F, h, .refl φ H w, .refl _ _ _, fun _ _ => .inl rfl⟩
theorem Post.toM {φ φ' : Place} {F F' : Mem} {H H' : Heap} {w w' : World} (h : Post φ F H w φ' F' H' w') (M : Nat) : PostM M φ F H w φ' F' H' w' := ⟨fun b n x _ hx => h.place b n x hx, h.mem, h.hr, h.keeps, h.later, h.fresh⟩
theorem PostM.toPost {φ φ' : Place} {F F' : Mem} {H H' : Heap} {w w' : World} (h0 : HR φ F H w) (h : PostM H.length φ F H w φ' F' H' w') : Post φ F H w φ' F' H' w' := ⟨fun b n x hx => by
    obtain ⟨k, hk, -⟩ := h0.dom b n x hx
    exact h.place b n x (List.getElem?_eq_some_iff.1 hk).1 hx, h.mem, h.hr, h.keeps, h.later, h.fresh⟩
theorem Keeps.trans {φ φ' : Place} {H H' : Heap} {w w' w'' : World} (hl : Later φ H φ' H' w.heap.size) (h : Keeps φ H w w') (h' : Keeps φ' H' w' w'') : Keeps φ H w w'' := by
  refine ⟨h'.os.trans h.os, h'.tape.trans h.tape, h'.output.trans h.output, Nat.le_trans h.size h'.size, fun c hc hn => ?_⟩
  rw [h'.old c (Nat.lt_of_lt_of_le hc h.size) ?_, h.old c hc hn]
  intro b k cap hb he
  rcases hl b k c cap hb he with h1 | ⟨b0, k0, cap0, h1, h3⟩
  · omega
  · exact hn b0 k0 cap0 h1 h3
theorem PostM.trans {M : Nat} {φ φ' φ'' : Place} {F F' F'' : Mem} {H H' H'' : Heap} {w w' w'' : World} (h : PostM M φ F H w φ' F' H' w') (h' : PostM M φ' F' H' w' φ'' F'' H'' w'') : PostM M φ F H w φ'' F'' H'' w'' :=
  ⟨fun b n x hb hx => h'.place b n x hb (h.place b n x hb hx), h.mem.trans h'.mem, h'.hr, h.keeps.trans h.later h'.keeps, h.later.trans h.keeps.size h'.later, fun c hc => by
    rcases h'.fresh c (Nat.lt_of_lt_of_le hc h.keeps.size) with h1 | ⟨b, k, cap, h1, h3⟩
    · rw [h1]; exact h.fresh c hc
    · rcases h.later b k c cap h1 h3 with h4 | ⟨b0, k0, cap0, h4, h6⟩
      · omega
      · exact .inr ⟨b0, k0, cap0, h4, h6⟩⟩
theorem Post.trans {φ φ' φ'' : Place} {F F' F'' : Mem} {H H' H'' : Heap} {w w' w'' : World} (h : Post φ F H w φ' F' H' w') (h' : Post φ' F' H' w' φ'' F'' H'' w'') : Post φ F H w φ'' F'' H'' w'' :=
  have t := (h.toM 0).trans (h'.toM 0)
  ⟨h.place.trans h'.place, t.mem, t.hr, t.keeps, t.later, t.fresh⟩
def Reps (φ : Place) (F : Mem) (e : Env) (a : Act) : Prop := ∀ t, Rep φ F (e t) (a.tmps.getD t undef)
theorem Reps.mono {φ φ' : Place} {F F' : Mem} (hφ : φ.le φ') (hF : F.le F') {e : Env} {a : Act} (h : Reps φ F e a) : Reps φ' F' e a := fun t => (h t).mono hφ hF
def dstOk (N : Nat) (o : Oper) : Bool := match o.dst with
  | some t => t < N
  | none => true
theorem Reps.put {φ : Place} {F : Mem} {e : Env} {a : Act} {d : Option Tmp} {p : PV} {v : Value} {N : Nat} (h : Reps φ F e a) (hp : Rep φ F p v) (hN : a.tmps.size = N)
    (o : Oper) (hd : dstOk N o = true) (ho : o.dst = d) : Reps φ F (e.put d p) (a.put d v) := by
  subst ho
  intro t
  cases hdst : o.dst with
  | none => simpa [Env.put, Act.put] using h t
  | some u =>
    have hu : u < a.tmps.size := by simpa [dstOk, hdst, hN] using hd
    simp only [Env.put, Act.put, Env.set]
    by_cases htu : t = u
    · subst htu; simpa [hu] using hp
    · have : u ≠ t := fun h => htu h.symm
      have h1 := h t
      simp only [htu, if_false]
      simpa [Array.getElem?_setIfInBounds_ne this] using h1
theorem Imm.ofV (F : Mem) (v : Value) : Imm F (ofV v) v := by
  cases v <;> try exact .val _
  case agg cs => exact .agg _ _ (by simp) (fun j p v hp hv => by
    simp only [List.getElem?_map, Array.getElem?_toList, Option.map_eq_some_iff] at hp
    obtain ⟨x, hx, rfl⟩ := hp
    rw [hv] at hx; cases hx; exact .val _)
  case tuple cs => exact .tuple _ _ (by simp) (fun j p v hp hv => by
    simp only [List.getElem?_map, Array.getElem?_toList, Option.map_eq_some_iff] at hp
    obtain ⟨x, hx, rfl⟩ := hp
    rw [hv] at hx; cases hx; exact .val _)
theorem Reps.ev {φ : Place} {F : Mem} {e : Env} {a : Act} (h : Reps φ F e a) (x : Operand) : Rep φ F (RM.ev e x) (a.eval x) := by
  cases x with
  | tmp t => exact h t
  | const v => exact .imm (.ofV F v)
  | global g => exact .imm (.val _)
  | func f => exact .imm (.clo f [] #[] rfl (fun j p v hp => by simp at hp))
end Go.RM
namespace Go.RM
set_option linter.unusedVariables false
variable {P : Program} {φ : Place} {F : Mem} {H : Heap} {w : World} {e : Env} {a : Act} {o : Oper} {tgt : Nat}
def OpOk (P : Program) (φ : Place) (F : Mem) (H : Heap) (w : World) (a : Act) (o : Oper) (p : PV) (H1 : Heap) : Prop :=
  ∃ nx v w1 φ1 F1, (execOp a.eval o).run P w = .ok nx w1 ∧ (nx = .value v ∨ (nx = .skip ∧ v = undef)) ∧ Rep φ1 F1 p v ∧ Post φ F H w φ1 F1 H1 w1
theorem OpOk.still (h : HR φ F H w) {p : PV} {v : Value} (hr : (execOp a.eval o).run P w = .ok (.value v) w) (hp : Rep φ F p v) : OpOk P φ F H w a o p H :=
  ⟨_, v, w, φ, F, hr, .inl rfl, hp, .refl h⟩
theorem run_quietly {α : Type} : ∀ (s : Sem α) (x : α) (w : World), quietly P s = some x → s.run P w = .ok x w := by
  intro s
  induction s with
  | pure a => intro x w h; simp [quietly] at h; simp [Sem.run, h]
  | program k ih => intro x w h; exact ih P x w h
  | _ => intro x w h; simp [quietly] at h
theorem Rep.val_inv {u v : Value} (h : Rep φ F (.val u) v) : v = u := by
  cases h with | imm h => cases h; rfl
theorem Rep.agg_inv {cells : List PV} {v : Value} (h : Rep φ F (.agg cells) v) :
    ∃ cs : Array Value, v = .agg cs ∧ cells.length = cs.size ∧ ∀ (j : Nat) (p : PV) (v : Value), cells[j]? = some p → cs[j]? = some v → Rep φ F p v := by
  cases h with
  | imm h => cases h with | agg _ cs hl hi => exact ⟨cs, rfl, hl, fun j p v h1 h2 => .imm (hi j p v h1 h2)⟩
  | agg _ cs hl hi => exact ⟨cs, rfl, hl, hi⟩
theorem Rep.tuple_inv {cells : List PV} {v : Value} (h : Rep φ F (.tuple cells) v) :
    ∃ cs : Array Value, v = .tuple cs ∧ cells.length = cs.size ∧ ∀ (j : Nat) (p : PV) (v : Value), cells[j]? = some p → cs[j]? = some v → Rep φ F p v := by
  cases h with
  | imm h => cases h with | tuple _ cs hl hi => exact ⟨cs, rfl, hl, fun j p v h1 h2 => .imm (hi j p v h1 h2)⟩
  | tuple _ cs hl hi => exact ⟨cs, rfl, hl, hi⟩
theorem Rep.clo_inv {f : FuncId} {cells : List PV} {v : Value} (h : Rep φ F (.clo f cells) v) :
    ∃ cs : Array Value, v = .func (.func f) #[] cs ∧ cells.length = cs.size ∧ ∀ (j : Nat) (p : PV) (v : Value), cells[j]? = some p → cs[j]? = some v → Rep φ F p v := by
  cases h with
  | imm h => cases h with | clo _ _ cs hl hi => exact ⟨cs, rfl, hl, fun j p v h1 h2 => .imm (hi j p v h1 h2)⟩
  | clo _ _ cs hl hi => exact ⟨cs, rfl, hl, hi⟩
theorem omap_length {α β : Type} {f : α → Option β} : ∀ {l : List α} {m : List β}, omap f l = some m → m.length = l.length
  | [], m, h => by simp [omap] at h; simp [← h]
  | x :: l, m, h => by
    simp only [omap, Option.bind_eq_some_iff, Option.map_eq_some_iff] at h
    obtain ⟨y, hy, m', hm, rfl⟩ := h
    simp [omap_length hm]
theorem omap_at {α β : Type} {f : α → Option β} : ∀ {l : List α} {m : List β}, omap f l = some m → ∀ (j : Nat) (x : α), l[j]? = some x → ∃ y, m[j]? = some y ∧ f x = some y
  | [], m, h, j, x, hx => by simp at hx
  | z :: l, m, h, j, x, hx => by
    simp only [omap, Option.bind_eq_some_iff, Option.map_eq_some_iff] at h
    obtain ⟨y, hy, m', hm, rfl⟩ := h
    cases j with
    | zero => simp at hx; subst hx; exact ⟨y, by simp, hy⟩
    | succ j => simpa using omap_at hm j x (by simpa using hx)
theorem toV_rep {p : PV} {u v : Value} (h : toV? p = some u) (hr : Rep φ F p v) : v = u := by
  unfold toV? at h
  split at h
  · cases h; exact hr.val_inv
  · rename_i cells
    simp only [Option.map_eq_some_iff] at h
    obtain ⟨l, hl, rfl⟩ := h
    obtain ⟨cs, rfl, hlen, hc⟩ := hr.agg_inv
    congr 1
    apply Array.ext
    · simp [omap_length hl, hlen]
    · intro i h1 h2
      have hi : i < cells.length := by omega
      have hx : cells[i]? = some cells[i] := by simp [hi]
      obtain ⟨y, hy, hs⟩ := omap_at hl i _ hx
      have hr := hc i _ cs[i] hx (by simp [h1])
      have : cells[i] = .val y := by
        cases hci : cells[i] <;> simp [hci, scalar?] at hs
        rw [hs]
      rw [this] at hr
      have h3 := hr.val_inv
      have h4 : l[i]? = some y := hy
      have h5 : l[i]? = some (l.toArray[i]) := by simp at h2; simp [h2]
      rw [h3]; rw [h4] at h5; exact Option.some.inj h5
  · cases h
theorem generic_ok (h : HR φ F H w) (hr : Reps φ F e a) (hs : ∀ cs b, o.op ≠ .select cs b) {p : PV} {H1 : Heap} (ho : generic P e o H = some (p, H1)) : OpOk P φ F H w a o p H1 := by
  unfold generic at ho
  split at ho
  · rename_i hall
    split at ho
    · rename_i v hq
      cases ho
      have hx : ∀ x ∈ o.op.operands, a.eval x = (toV? (ev e x)).getD undef := by
        intro x hx
        have h1 := Array.all_eq_true_iff_forall_mem.1 hall x hx
        obtain ⟨u, hu⟩ := Option.isSome_iff_exists.1 h1
        rw [hu]; exact toV_rep hu (hr.ev x)
      have he := execOp_congr o hs hx
      exact .still h (by rw [he]; exact run_quietly _ _ _ hq) (.imm (.ofV F v))
    · cases ho
  · cases ho
theorem cell_of {c : Nat} {arr : Array Value} {el : TypeId} {fr : Nat × Nat} (h : w.heap[c]? = some (.cells arr el fr)) (o : Nat) : w.cell? ⟨c, o, none⟩ = arr[o]? := by
  simp [World.cell?, h]
theorem rd_ok (h : HR φ F H w) {x : PV} {v : Value} (hx : Rep φ F x v) {size : Nat} {cs : List PV} (hrd : rd H x size = some cs) :
    ∃ (c o : Nat) (vs : List Value), v = .pointer (some ⟨c, o, none⟩) ∧ vs.length = size ∧ cs.length = size ∧
      (∀ (j : Nat) (u : Value), vs[j]? = some u → w.cell? ⟨c, o + j, none⟩ = some u ∧ u.oneCell' = true) ∧
      ∀ (j : Nat) (p : PV) (u : Value), cs[j]? = some p → vs[j]? = some u → Rep φ F p u := by
  unfold rd at hrd
  split at hrd
  · rename_i b n sz i off
    simp only [Option.bind_eq_some_iff] at hrd
    obtain ⟨k, hk, hrd⟩ := hrd
    split at hrd
    · rename_i hc
      obtain ⟨rfl, rfl, hoff⟩ := hc
      simp only [Option.map_eq_some_iff] at hrd
      obtain ⟨x0, hx0, rfl⟩ := hrd
      have hB := h.blk b k hk
      have hlen : x0.length = k.sz := hB.uni x0 (List.mem_of_getElem? hx0)
      rcases hB.at_ with ⟨h0, _⟩ | ⟨_, _, c, cap, hφ, arr, el, hheap, hle, hcap, hsz, hF, hcell⟩ | ⟨_, h0, _⟩
      · rw [h0] at hx0; simp at hx0
      case inr.inr => rw [h0] at hx0; simp at hx0
      cases hx with
      | imm h => cases h
      | ptr _ _ _ _ _ c' cap' h' =>
        rw [hφ] at h'; cases h'
        refine ⟨c, i * k.sz + off, (List.range size).map fun j => arr.getD (i * k.sz + off + j) undef, rfl, by simp, by simp [hlen]; omega, ?_, ?_⟩
        · intro j u hu
          simp only [List.getElem?_map, Option.map_eq_some_iff] at hu
          obtain ⟨j', hj', rfl⟩ := hu
          have hj : j < size ∧ j = j' := by
            rcases Nat.lt_or_ge j size with h1 | h1
            · rw [List.getElem?_range h1] at hj'; exact ⟨h1, Option.some.inj hj'⟩
            · rw [List.getElem?_eq_none (by simpa using h1)] at hj'; cases hj'
          obtain ⟨hj, rfl⟩ := hj
          have hp : x0[off + j]? = some x0[off + j] := by simp [show off + j < x0.length by omega]
          obtain ⟨u, hu, hone, _⟩ := hcell i (off + j) x0 _ hx0 hp
          rw [show i * k.sz + (off + j) = i * k.sz + off + j by omega] at hu
          rw [cell_of hheap, hu]
          have : arr.getD (i * k.sz + off + j) undef = u := by simp [hu]
          rw [this]; exact ⟨rfl, hone⟩
        · intro j p u hp hu
          have hj : j < size := by
            rcases Nat.lt_or_ge j size with h1 | h1
            · exact h1
            · rw [List.getElem?_eq_none (by simpa using h1)] at hu; cases hu
          simp only [List.getElem?_map, List.getElem?_range hj, Option.map_some, Option.some.injEq] at hu
          rw [List.getElem?_take_of_lt hj, List.getElem?_drop] at hp
          obtain ⟨u', hu', hone, hrep⟩ := hcell i (off + j) x0 p hx0 hp
          rw [show i * k.sz + (off + j) = i * k.sz + off + j by omega] at hu'
          have : arr.getD (i * k.sz + off + j) undef = u' := by simp [hu']
          rw [← hu, this]; exact hrep
    · cases hrd
  · rename_i cells off
    split at hrd
    · rename_i hoff
      cases hrd
      cases hx with
      | imm h' =>
        cases h' with
        | cptr _ _ c o f hat himm =>
          refine ⟨c, o + off, (List.range size).map fun j => f (off + j), rfl, by simp, by simp; omega, ?_, ?_⟩
          · intro j u hu
            have hj : j < size := by
              rcases Nat.lt_or_ge j size with h1 | h1
              · exact h1
              · rw [List.getElem?_eq_none (by simpa using h1)] at hu; cases hu
            simp only [List.getElem?_map, List.getElem?_range hj, Option.map_some, Option.some.injEq] at hu
            have hp : cells[off + j]? = some cells[off + j] := by simp [show off + j < cells.length by omega]
            have := hat (off + j) _ hp
            obtain ⟨arr, el, fr, hheap, hv⟩ := h.mem c _ _ this.1
            rw [cell_of hheap, ← hu, show o + off + j = o + (off + j) by omega]; exact ⟨hv, this.2⟩
          · intro j p u hp hu
            have hj : j < size := by
              rcases Nat.lt_or_ge j size with h1 | h1
              · exact h1
              · rw [List.getElem?_eq_none (by simpa using h1)] at hu; cases hu
            simp only [List.getElem?_map, List.getElem?_range hj, Option.map_some, Option.some.injEq] at hu
            rw [List.getElem?_take_of_lt hj, List.getElem?_drop] at hp
            rw [← hu]; exact .imm (himm (off + j) p hp)
    · cases hrd
  · cases hrd
theorem run_isAgg {t : TypeId} {g : Bool} (h : isAgg? P t = some g) (w : World) : (isAgg t).run P w = .ok g w := by
  unfold isAgg? at h
  simp only [Option.map_eq_some_iff] at h
  obtain ⟨d, hd, rfl⟩ := h
  simp only [isAgg, underlying, Sem.run_bind, run_program, Result.andThen_ok, hd, Sem.run_pure]
  cases d <;> rfl
theorem run_sizeOf {t : TypeId} {s : Nat} (h : sizeOf? P t = some s) (w : World) : (sizeOf t).run P w = .ok s w := by
  unfold sizeOf? at h
  simp only [Option.map_eq_some_iff] at h
  obtain ⟨d, hd, rfl⟩ := h
  simp [sizeOf, typeInfo, hd]
theorem Addr.add_none (c o n : Nat) : (⟨c, o, none⟩ : Addr).add n = ⟨c, o + n, none⟩ := by unfold Addr.add; split <;> simp_all
theorem loadVar_ok {t : TypeId} {c o : Nat} {vs : List Value} {cs : List PV} {s : Nat} {g : Bool} (hs : sizeOf? P t = some s) (hg : isAgg? P t = some g) (hgs : g = true ∨ s = 1)
    (hl : vs.length = s) (hlc : cs.length = s) (hc : ∀ (j : Nat) (u : Value), vs[j]? = some u → w.cell? ⟨c, o + j, none⟩ = some u ∧ u.oneCell' = true)
    (hr : ∀ (j : Nat) (p : PV) (u : Value), cs[j]? = some p → vs[j]? = some u → Rep φ F p u) {p : PV} (hp : asVar g cs = some p) :
    ∃ v, (loadVar t ⟨c, o, none⟩).run P w = .ok v w ∧ Rep φ F p v := by
  cases g with
  | true =>
    simp only [asVar, if_true, Option.some.injEq] at hp
    subst hp
    refine ⟨.agg vs.toArray, ?_, .agg _ _ (by simp [hl, hlc]) (fun j p v h1 h2 => hr j p v h1 (by simpa using h2))⟩
    have := run_loadCells_list (P := P) w ⟨c, o, none⟩ vs (fun k v h => by rw [Addr.add_none]; exact (hc k v h).1)
    simp [loadVar, run_isAgg hg, run_sizeOf hs, ← hl, this, Result.andThen]
  | false =>
    have h1 : s = 1 := by rcases hgs with h | h; cases h; exact h
    subst h1
    simp only [asVar, Bool.false_eq_true, if_false] at hp
    split at hp
    · cases hp
      obtain ⟨u, rfl⟩ : ∃ u, vs = [u] := by
        match vs, hl with
        | [u], _ => exact ⟨u, rfl⟩
      refine ⟨u, ?_, hr 0 p u (by simp) (by simp)⟩
      have h0 := (hc 0 u (by simp)).1
      simp only [Nat.add_zero] at h0
      simp [loadVar, run_isAgg hg, h0, Result.andThen]
    · cases hp
theorem load_ok (h : HR φ F H w) (hr : Reps φ F e a) {t : TypeId} {x : Operand} (hop : o.op = .load t x) {p : PV} {H1 : Heap} (ho : aop P e o H tgt = some (p, H1)) : OpOk P φ F H w a o p H1 := by
  simp only [aop, hop, Option.bind_eq_some_iff] at ho
  obtain ⟨s, hs, g, hg, ho⟩ := ho
  split at ho
  · rename_i hgs
    simp only [Option.bind_eq_some_iff, Option.map_eq_some_iff, Prod.mk.injEq] at ho
    obtain ⟨cs, hrd, q, hq, rfl, rfl⟩ := ho
    obtain ⟨c, off, vs, hv, hl, hlc, hc, hrep⟩ := rd_ok h (hr.ev x) hrd
    obtain ⟨v, hrun, hp⟩ := loadVar_ok (P := P) hs hg hgs hl hlc hc hrep hq
    refine .still h (v := v) ?_ hp
    simp [execOp, hop, hv, Instr.loadAt, Instr.sureAddr, hrun, Result.andThen]
  · cases ho
end Go.RM
namespace Go.RM
set_option linter.unusedVariables false
set_option linter.unusedSimpArgs false
variable {P : Program} {φ : Place} {F : Mem} {H : Heap} {w : World} {e : Env} {a : Act} {o : Oper} {tgt : Nat}
theorem Rep.rows_inv {es : List (List PV)} {v : Value} (h : Rep φ F (.rows es) v) :
    (es = [] ∧ ∃ ad cap, v = .slice ad 0 cap) ∨ ∃ (c o cap sz : Nat) (f : Nat → Nat → Value), v = .slice (some ⟨c, o, none⟩) es.length cap ∧
      (∀ e ∈ es, e.length = sz) ∧ (∀ (i j : Nat) (e : List PV) (p : PV), es[i]? = some e → e[j]? = some p → F c (o + i * sz + j) = some (f i j) ∧ (f i j).oneCell' = true) ∧
      (∀ (i j : Nat) (e : List PV) (p : PV), es[i]? = some e → e[j]? = some p → Imm F p (f i j)) ∧ es.length ≤ cap := by
  cases h with
  | imm h => cases h with
    | none ad cap => exact .inl ⟨rfl, ad, cap, rfl⟩
    | rows _ c o cap sz f h2 h3 h4 h5 => exact .inr ⟨c, o, cap, sz, f, rfl, h2, h3, h4, h5⟩
theorem Rep.ptr_inv {b n sz i off : Nat} {v : Value} (h : Rep φ F (.ptr b n sz i off) v) : ∃ c cap, φ b n = some (c, cap) ∧ v = .pointer (some ⟨c, i * sz + off, none⟩) := by
  cases h with
  | imm h => cases h
  | ptr _ _ _ _ _ c cap h => exact ⟨c, cap, h, rfl⟩
theorem Rep.own_inv {b n : Nat} {v : Value} (h : Rep φ F (.own b n) v) : (n = 0 ∧ v = .slice none 0 0) ∨ ∃ c cap, φ b n = some (c, cap) ∧ v = .slice (some ⟨c, 0, none⟩) n cap := by
  cases h with
  | imm h => cases h
  | own0 => exact .inl ⟨rfl, rfl⟩
  | own _ _ c cap h => exact .inr ⟨c, cap, h, rfl⟩
theorem Rep.cptr_inv {cells : List PV} {off : Nat} {v : Value} (h : Rep φ F (.cptr cells off) v) : ∃ (c o : Nat) (f : Nat → Value), v = .pointer (some ⟨c, o + off, none⟩) ∧
    (∀ (j : Nat) (p : PV), cells[j]? = some p → F c (o + j) = some (f j) ∧ (f j).oneCell' = true) ∧ ∀ (j : Nat) (p : PV), cells[j]? = some p → Imm F p (f j) := by
  cases h with
  | imm h => cases h with
    | cptr _ _ c o f h2 h3 => exact ⟨c, o, f, rfl, h2, h3⟩
theorem nilCheck_ok (h : HR φ F H w) (hr : Reps φ F e a) {x : Operand} (hop : o.op = .nilCheck x) {p : PV} {H1 : Heap} (ho : aop P e o H tgt = some (p, H1)) : OpOk P φ F H w a o p H1 := by
  have hx := hr.ev x
  simp only [aop, hop] at ho
  split at ho
  · rename_i b n sz i off hev
    cases ho
    rw [hev] at hx
    obtain ⟨c, cap, hφ, hv⟩ := hx.ptr_inv
    exact .still h (v := a.eval x) (by simp [execOp, hop, hv]) hx
  · rename_i c off hev
    cases ho
    rw [hev] at hx
    obtain ⟨c, o', f, hv, -⟩ := hx.cptr_inv
    exact .still h (v := a.eval x) (by simp [execOp, hop, hv]) hx
  · rename_i f cs hev
    cases ho
    rw [hev] at hx
    obtain ⟨cs', hv, -⟩ := hx.clo_inv
    exact .still h (v := a.eval x) (by simp [execOp, hop, hv]) hx
  · exact generic_ok h hr (fun cs b => by simp [hop]) ho
theorem fieldOf_spec {t : TypeId} {f : Nat} {d : Nat × TypeId} (h : fieldOf P t f = some d) : ∃ fs fd, P.underlying t = some (.struct fs) ∧ fs[f]? = some fd ∧ d = (fd.offset, fd.type) := by
  unfold fieldOf at h
  split at h
  · rename_i fs hu
    simp only [Option.map_eq_some_iff] at h
    obtain ⟨fd, hf, rfl⟩ := h
    exact ⟨fs, fd, hu, hf, rfl⟩
  · cases h
theorem fieldAddr_ok (h : HR φ F H w) (hr : Reps φ F e a) {t : TypeId} {x : Operand} {f : Nat} (hop : o.op = .fieldAddr t x f) {p : PV} {H1 : Heap} (ho : aop P e o H tgt = some (p, H1)) : OpOk P φ F H w a o p H1 := by
  have hx := hr.ev x
  simp only [aop, hop, Option.bind_eq_some_iff] at ho
  obtain ⟨d, hd, ho⟩ := ho
  obtain ⟨fs, fd, hu, hf, rfl⟩ := fieldOf_spec hd
  split at ho
  · cases ho
  · rename_i hsz
    have hs : ∃ s, sizeOf? P fd.type = some s ∧ s ≠ 0 := by
      cases hc : sizeOf? P fd.type with
      | none => simp [hc] at hsz
      | some s => exact ⟨s, rfl, fun h0 => by simp [hc, h0] at hsz⟩
    obtain ⟨s, hs, hs0⟩ := hs
    have run : ∀ (c off : Nat), a.eval x = .pointer (some ⟨c, off, none⟩) → (execOp a.eval o).run P w = .ok (.value (.pointer (some ⟨c, off + fd.offset, none⟩))) w := by
      intro c off hv
      simp [execOp, hop, hv, Instr.fieldAt, underlying, hu, hf, Instr.sureAddr, fieldPlace, run_sizeOf hs, hs0, Addr.add_none, Result.andThen]
    split at ho
    · rename_i b n sz i off hev
      cases ho
      rw [hev] at hx
      obtain ⟨c, cap, hφ, hv⟩ := hx.ptr_inv
      refine .still h (run _ _ hv) ?_
      rw [Nat.add_assoc]; exact .ptr b n sz i _ c cap hφ
    · rename_i cs off hev
      cases ho
      rw [hev] at hx
      obtain ⟨c, o', g, hv, h2, h3⟩ := hx.cptr_inv
      refine .still h (run _ _ hv) ?_
      rw [Nat.add_assoc]; exact .imm (.cptr cs _ c o' g h2 h3)
    · cases ho
theorem part_ok {t : TypeId} {cs : List PV} {arr : Array Value} {off : Nat} (hl : cs.length = arr.size) (hc : ∀ (j : Nat) (p : PV) (v : Value), cs[j]? = some p → arr[j]? = some v → Rep φ F p v) {p : PV} (hp : partOf P t cs off = some p) (w : World) :
    ∃ v, (part t arr off).run P w = .ok v w ∧ Rep φ F p v := by
  simp only [partOf, Option.bind_eq_some_iff] at hp
  obtain ⟨s, hs, g, hg, hp⟩ := hp
  split at hp
  · rename_i hcond
    obtain ⟨hoff, hgs⟩ := hcond
    cases g with
    | true =>
      simp only [asVar, if_true, Option.some.injEq] at hp
      subst hp
      refine ⟨.agg (arr.extract off (off + s)), ?_, .agg _ _ (by simp; omega) (fun j p v h1 h2 => ?_)⟩
      · simp [part, run_isAgg hg, run_sizeOf hs, Result.andThen]
      · have hj : j < s := by
          rcases Nat.lt_or_ge j s with h | h
          · exact h
          · rw [List.getElem?_eq_none (by simp; omega)] at h1; cases h1
        rw [List.getElem?_take_of_lt hj, List.getElem?_drop] at h1
        rw [Array.getElem?_extract] at h2
        split at h2
        · exact hc (off + j) p v h1 h2
        · cases h2
    | false =>
      have h1 : s = 1 := by rcases hgs with h | h; cases h; exact h
      subst h1
      simp only [asVar, Bool.false_eq_true, if_false] at hp
      split at hp
      · rename_i q hq
        cases hp
        have h0 : cs[off]? = some p := by
          have : ((cs.drop off).take 1)[0]? = some p := by rw [hq]; rfl
          rw [List.getElem?_take_of_lt (by omega), List.getElem?_drop] at this
          simpa using this
        have h1 : arr[off]? = some arr[off] := by simp [show off < arr.size by omega]
        exact ⟨arr[off], by simp [part, run_isAgg hg, h1, Result.andThen], hc off p _ h0 h1⟩
      · cases hp
  · cases hp
theorem field_ok (h : HR φ F H w) (hr : Reps φ F e a) {t : TypeId} {x : Operand} {f : Nat} (hop : o.op = .field t x f) {p : PV} {H1 : Heap} (ho : aop P e o H tgt = some (p, H1)) : OpOk P φ F H w a o p H1 := by
  have hx := hr.ev x
  simp only [aop, hop, Option.bind_eq_some_iff] at ho
  obtain ⟨d, hd, ho⟩ := ho
  obtain ⟨fs, fd, hu, hf, rfl⟩ := fieldOf_spec hd
  split at ho
  · rename_i cs hev
    simp only [Option.map_eq_some_iff, Prod.mk.injEq] at ho
    obtain ⟨q, hq, rfl, rfl⟩ := ho
    rw [hev] at hx
    obtain ⟨arr, hv, hl, hc⟩ := hx.agg_inv
    obtain ⟨v, hrun, hp⟩ := part_ok (P := P) hl hc hq w
    exact .still h (v := v) (by simp [execOp, hop, hv, Instr.field, underlying, hu, hf, asAgg, hrun, Result.andThen]) hp
  · cases ho
theorem extract_ok (h : HR φ F H w) (hr : Reps φ F e a) {x : Operand} {i : Nat} (hop : o.op = .extract x i) {p : PV} {H1 : Heap} (ho : aop P e o H tgt = some (p, H1)) : OpOk P φ F H w a o p H1 := by
  have hx := hr.ev x
  simp only [aop, hop] at ho
  split at ho
  · rename_i vs hev
    simp only [Option.map_eq_some_iff, Prod.mk.injEq] at ho
    obtain ⟨q, hq, rfl, rfl⟩ := ho
    rw [hev] at hx
    obtain ⟨arr, hv, hl, hc⟩ := hx.tuple_inv
    have hi : i < vs.length := by
      rcases Nat.lt_or_ge i vs.length with h | h
      · exact h
      · rw [List.getElem?_eq_none h] at hq; cases hq
    have h1 : arr[i]? = some arr[i] := by simp [show i < arr.size by omega]
    exact .still h (v := arr[i]) (by simp [execOp, hop, hv, Instr.extract, h1, Result.andThen]) (hc i _ _ hq h1)
  · cases ho
theorem pick_ok (h : HR φ F H w) (hr : Reps φ F e a) {c x y : Operand} (hop : o.op = .pick c x y) {p : PV} {H1 : Heap} (ho : aop P e o H tgt = some (p, H1)) : OpOk P φ F H w a o p H1 := by
  have hc := hr.ev c
  simp only [aop, hop] at ho
  split at ho
  · rename_i t hev
    cases ho
    rw [hev] at hc
    have hv := hc.val_inv
    refine .still h (v := if t then a.eval x else a.eval y) (by simp [execOp, hop, hv, asBool, Result.andThen]) ?_
    cases t
    · exact hr.ev y
    · exact hr.ev x
  · cases ho
theorem move_ok (h : HR φ F H w) (hr : Reps φ F e a) {x : Operand} (hop : o.op = .move x ∨ o.op = .assign x) {p : PV} {H1 : Heap} (ho : aop P e o H tgt = some (p, H1)) : OpOk P φ F H w a o p H1 := by
  rcases hop with hop | hop <;>
    (simp only [aop, hop, Option.some.injEq, Prod.mk.injEq] at ho
     obtain ⟨rfl, rfl⟩ := ho
     exact .still h (v := a.eval x) (by simp [execOp, hop]) (hr.ev x))
end Go.RM
namespace Go.RM
set_option linter.unusedVariables false
set_option linter.unusedSimpArgs false
variable {P : Program} {φ : Place} {F : Mem} {H : Heap} {w : World} {e : Env} {a : Act} {o : Oper} {tgt : Nat}
theorem indexAddr_ok (h : HR φ F H w) (hr : Reps φ F e a) {t : TypeId} {x ix : Operand} (hop : o.op = .indexAddr t x ix) {p : PV} {H1 : Heap} (ho : aop P e o H tgt = some (p, H1)) : OpOk P φ F H w a o p H1 := by
  have hx := hr.ev x
  have hi := hr.ev ix
  simp only [aop, hop, Option.map_eq_some_iff, Prod.mk.injEq] at ho
  obtain ⟨q, ho, rfl, rfl⟩ := ho
  unfold doIndexAddr at ho
  split at ho
  · rename_i ik i hevi
    rw [hevi] at hi
    have hiv := hi.val_inv
    split at ho
    · rename_i el es hu hev
      rw [hev] at hx
      split at ho
      · rename_i h0
        simp only [Option.bind_eq_some_iff] at ho
        obtain ⟨c, hc, ho⟩ := ho
        split at ho
        · rename_i hsz
          cases ho
          have hlt : i.toNat < es.length := by
            rcases Nat.lt_or_ge i.toNat es.length with h | h
            · exact h
            · rw [List.getElem?_eq_none h] at hc; cases hc
          rcases hx.rows_inv with ⟨rfl, -⟩ | ⟨b, off, cap, sz, f, hv, huni, hat, himm, -⟩
          · simp at hc
          have hcl : c.length = sz := huni c (List.mem_of_getElem? hc)
          refine .still h (v := .pointer (some ⟨b, off + i.toNat * sz, none⟩)) ?_ ?_
          · have : 0 ≤ i ∧ i < (es.length : Int) := ⟨h0, by omega⟩
            simp [execOp, hop, hv, hiv, Instr.indexAt, asIntOf, underlying, hu, this, run_sizeOf hsz, hcl, Addr.add_none, Result.andThen]
          · have := Imm.cptr (F := F) c 0 b (off + i.toNat * sz) (f i.toNat) (fun j p hp => by
              have := hat i.toNat j c p hc hp
              exact this) (fun j p hp => himm i.toNat j c p hc hp)
            exact .imm (by simpa using this)
        · cases ho
      · cases ho
    · rename_i el b n hu hev
      rw [hev] at hx
      split at ho
      · rename_i h0
        simp only [Option.bind_eq_some_iff] at ho
        obtain ⟨k, hk, ho⟩ := ho
        split at ho
        · rename_i hsz
          cases ho
          rcases hx.own_inv with ⟨rfl, -⟩ | ⟨c, cap, hφ, hv⟩
          · omega
          refine .still h (v := .pointer (some ⟨c, i.toNat * k.sz, none⟩)) ?_ (.ptr b n k.sz i.toNat 0 c cap hφ)
          simp [execOp, hop, hv, hiv, Instr.indexAt, asIntOf, underlying, hu, h0, run_sizeOf hsz.2, Addr.add_none, Result.andThen]
        · cases ho
      · cases ho
    · rename_i len el b n sz j off hu hev
      rw [hev] at hx
      split at ho
      · rename_i h0
        simp only [Option.map_eq_some_iff] at ho
        obtain ⟨s, hs, rfl⟩ := ho
        obtain ⟨c, cap, hφ, hv⟩ := hx.ptr_inv
        refine .still h (v := .pointer (some ⟨c, j * sz + (off + i.toNat * s), none⟩)) ?_ (.ptr b n sz j _ c cap hφ)
        simp [execOp, hop, hv, hiv, Instr.indexAt, Instr.sureAddr, asIntOf, underlying, hu, h0, run_sizeOf hs, Addr.add_none, Result.andThen, Nat.add_assoc]
      · cases ho
    · rename_i len el cs off hu hev
      rw [hev] at hx
      split at ho
      · rename_i h0
        simp only [Option.map_eq_some_iff] at ho
        obtain ⟨s, hs, rfl⟩ := ho
        obtain ⟨c, o', g, hv, h2, h3⟩ := hx.cptr_inv
        refine .still h (v := .pointer (some ⟨c, o' + (off + i.toNat * s), none⟩)) ?_ (.imm (.cptr cs _ c o' g h2 h3))
        simp [execOp, hop, hv, hiv, Instr.indexAt, Instr.sureAddr, asIntOf, underlying, hu, h0, run_sizeOf hs, Addr.add_none, Result.andThen, Nat.add_assoc]
      · cases ho
    · cases ho
  · cases ho
theorem index_ok (h : HR φ F H w) (hr : Reps φ F e a) {t : TypeId} {x ix : Operand} (hop : o.op = .index t x ix) {p : PV} {H1 : Heap} (ho : aop P e o H tgt = some (p, H1)) : OpOk P φ F H w a o p H1 := by
  have hx := hr.ev x
  have hi := hr.ev ix
  simp only [aop, hop] at ho
  split at ho
  · rename_i cs hev
    simp only [Option.map_eq_some_iff, Prod.mk.injEq] at ho
    obtain ⟨q, ho, rfl, rfl⟩ := ho
    rw [hev] at hx
    obtain ⟨arr, hv, hl, hc⟩ := hx.agg_inv
    unfold doIndex at ho
    split at ho
    · rename_i len el cs' ik i hu he hevi
      cases he
      rw [hevi] at hi
      have hiv := hi.val_inv
      split at ho
      · rename_i h0
        simp only [Option.bind_eq_some_iff] at ho
        obtain ⟨s, hs, ho⟩ := ho
        obtain ⟨v, hrun, hp⟩ := part_ok (P := P) hl hc ho w
        exact .still h (v := v) (by simp [execOp, hop, hv, hiv, Instr.index, asIntOf, underlying, hu, h0, run_sizeOf hs, hrun, Result.andThen]) hp
      · cases ho
    · cases ho
  · exact generic_ok h hr (fun cs b => by simp [hop]) ho
theorem Rep.nocap_inv {v : Value} (h : Rep φ F .nocap v) : ∃ ad, v = .slice ad 0 0 := by
  cases h with | imm h => cases h; exact ⟨_, rfl⟩
theorem elems_len (h : HR φ F H w) {x : PV} {v : Value} {es : List (List PV)} (hx : Rep φ F x v) (he : elems H x = some es) : ∃ ad cap, v = .slice ad es.length cap := by
  unfold elems at he
  split at he
  · cases he
    rcases hx.rows_inv with ⟨rfl, ad, cap, rfl⟩ | ⟨b, off, cap, sz, f, hv, -⟩
    · exact ⟨ad, cap, rfl⟩
    · exact ⟨_, cap, hv⟩
  · simp only [Option.bind_eq_some_iff] at he
    obtain ⟨k, hk, he⟩ := he
    split at he
    · rename_i hn
      cases he
      subst hn
      rcases hx.own_inv with ⟨h0, rfl⟩ | ⟨c, cap, hφ, hv⟩
      · exact ⟨none, 0, by rw [h0]⟩
      · exact ⟨_, cap, hv⟩
    · cases he
  · cases he
    exact ⟨_, _, hx.val_inv⟩
  · cases he
    obtain ⟨ad, rfl⟩ := hx.nocap_inv
    exact ⟨ad, 0, rfl⟩
  · cases he
theorem run_invoke_builtin (b : Builtin) (args : Array Operand) (tys : Array TypeId) (hop : o.op = .call { callee := .builtin b, args := args, argTypes := tys }) :
    execOp a.eval o = builtin b tys o.type (args.map fun | .const _ => true | _ => false) (args.map a.eval) := by
  obtain ⟨dst, op, type, pos, after, guard⟩ := o
  simp only at hop
  subst hop
  rfl
theorem len_ok (h : HR φ F H w) (hr : Reps φ F e a) {args : Array Operand} {tys : Array TypeId} (hop : o.op = .call { callee := .builtin .len, args := args, argTypes := tys }) {p : PV} {H1 : Heap} (ho : aop P e o H tgt = some (p, H1)) : OpOk P φ F H w a o p H1 := by
  simp only [aop, hop] at ho
  split at ho
  · rename_i x t hx ht
    obtain ⟨args⟩ := args
    obtain ⟨tys⟩ := tys
    simp only at hx ht
    subst hx ht
    split at ho
    · rename_i el hu
      simp only [Option.map_eq_some_iff, Prod.mk.injEq] at ho
      obtain ⟨es, hes, rfl, rfl⟩ := ho
      obtain ⟨ad, cap, hv⟩ := elems_len h (hr.ev x) hes
      refine .still h (v := .int .i64 es.length) ?_ (.imm (.val _))
      rw [run_invoke_builtin .len #[x] #[t] hop]
      simp [builtin, Builtin.len_, underlying, hu, hv, goInt, Result.andThen]
    · exact generic_ok h hr (fun cs b => by simp [hop]) ho
  · cases ho
theorem makeFunc_ok (h : HR φ F H w) (hr : Reps φ F e a) {f : FuncId} {first cs : Array Operand} (hop : o.op = .makeFunc (.func f) first cs) {p : PV} {H1 : Heap} (ho : aop P e o H tgt = some (p, H1)) : OpOk P φ F H w a o p H1 := by
  simp only [aop, hop] at ho
  split at ho
  · rename_i hf
    cases ho
    have : first = #[] := Array.eq_empty_of_size_eq_zero hf
    subst this
    refine .still h (v := .func (.func f) #[] (cs.map a.eval)) (by simp [execOp, hop, Instr.makeFunc]) (.clo f _ _ (by simp) (fun j p v hp hv => ?_))
    simp only [List.getElem?_map, Array.getElem?_toList, Option.map_eq_some_iff] at hp
    simp only [Array.getElem?_map, Option.map_eq_some_iff] at hv
    obtain ⟨x, hx, rfl⟩ := hp
    obtain ⟨y, hy, rfl⟩ := hv
    rw [hx] at hy; cases hy
    exact hr.ev x
  · cases ho
theorem isNil_spec {t : TypeId} {p : PV} {v : Value} {b : Bool} (hp : Rep φ F p v) (h : isNil (P.underlying t) p = some b) :
    (∃ el ad, P.underlying t = some (.pointer el) ∧ v = .pointer ad ∧ b = ad.isNone) ∨
    (∃ el ad n c, P.underlying t = some (.slice el) ∧ v = .slice ad n c ∧ b = ad.isNone) ∨
    (∃ x y z, P.underlying t = some (.func x y z) ∧ ((v = .nilFunc ∧ b = true) ∨ (∃ f g k, v = .func f g k ∧ b = false))) := by
  unfold isNil at h
  split at h
  · rename_i el hu; cases h; rw [hp.val_inv]; exact .inl ⟨el, none, hu, rfl, rfl⟩
  · rename_i el _ _ _ _ _ hu; cases h; obtain ⟨c, cap, -, rfl⟩ := hp.ptr_inv; exact .inl ⟨el, _, hu, rfl, rfl⟩
  · rename_i el _ _ hu; cases h; obtain ⟨c, o, f, rfl, -⟩ := hp.cptr_inv; exact .inl ⟨el, _, hu, rfl, rfl⟩
  · rename_i el hu; cases h; rw [hp.val_inv]; exact .inr (.inl ⟨el, none, 0, 0, hu, rfl, rfl⟩)
  · rename_i el _ _ hu; cases h
    rcases hp.rows_inv with ⟨h0, -⟩ | ⟨c, o, cap, sz, f, rfl, -⟩
    · cases h0
    · exact .inr (.inl ⟨el, _, _, _, hu, rfl, rfl⟩)
  · rename_i el _ _ hu; cases h
    rcases hp.own_inv with ⟨h0, -⟩ | ⟨c, cap, -, rfl⟩
    · cases h0
    · exact .inr (.inl ⟨el, _, _, _, hu, rfl, rfl⟩)
  · rename_i x y z hu; cases h; rw [hp.val_inv]; exact .inr (.inr ⟨x, y, z, hu, .inl ⟨rfl, rfl⟩⟩)
  · rename_i x y z _ _ hu; cases h; obtain ⟨cs, rfl, -⟩ := hp.clo_inv; exact .inr (.inr ⟨x, y, z, hu, .inr ⟨_, _, _, rfl, rfl⟩⟩)
  · cases h
theorem run_equal_nil {t : TypeId} {p q : PV} {u v : Value} {b c : Bool} (hp : Rep φ F p u) (hq : Rep φ F q v) (hb : isNil (P.underlying t) p = some b) (hc : isNil (P.underlying t) q = some c) (hbc : (b || c) = true) (w : World) :
    (Op.equal t u v).run P w = .ok (b && c) w := by
  obtain ⟨d, hd⟩ : ∃ d, Op.maxDepth = d + 1 := ⟨9999, rfl⟩
  unfold Op.equal
  rw [hd]
  clear hd
  rcases isNil_spec hp hb with ⟨el, ad, hu, rfl, rfl⟩ | ⟨el, ad, n, k, hu, rfl, rfl⟩ | ⟨x, y, z, hu, hu'⟩
  · rcases isNil_spec hq hc with ⟨el', ad', hu2, rfl, rfl⟩ | ⟨el', ad', n, k, hu2, rfl, rfl⟩ | ⟨x, y, z, hu2, hu2'⟩
    · cases ad with
      | none => simp [Op.equalIn, underlying, hu, Result.andThen]
      | some ad => cases ad' with
        | none => simp [Op.equalIn, underlying, hu, Result.andThen]
        | some ad' => simp at hbc
    · rw [hu] at hu2; cases hu2
    · rw [hu] at hu2; cases hu2
  · rcases isNil_spec hq hc with ⟨el', ad', hu2, rfl, rfl⟩ | ⟨el', ad', n', k', hu2, rfl, rfl⟩ | ⟨x, y, z, hu2, hu2'⟩
    · rw [hu] at hu2; cases hu2
    · cases ad with
      | none => simp [Op.equalIn, underlying, hu, Result.andThen]
      | some ad => cases ad' with
        | none => simp [Op.equalIn, underlying, hu, Result.andThen]
        | some ad' => simp at hbc
    · rw [hu] at hu2; cases hu2
  · rcases isNil_spec hq hc with ⟨el', ad', hu2, rfl, rfl⟩ | ⟨el', ad', n', k', hu2, rfl, rfl⟩ | ⟨x', y', z', hu2, hu2'⟩
    · rw [hu] at hu2; cases hu2
    · rw [hu] at hu2; cases hu2
    · rcases hu' with ⟨rfl, rfl⟩ | ⟨f, g, k, rfl, rfl⟩ <;> rcases hu2' with ⟨rfl, rfl⟩ | ⟨f', g', k', rfl, rfl⟩ <;>
        first | (simp at hbc; done) | simp [Op.equalIn, underlying, hu, Result.andThen]
theorem eqGuard_nil {op : BinOp} {t : TypeId} {x y : Operand} {p q : PV} {u v : Value} {b c : Bool} (hp : Rep φ F p u) (hq : Rep φ F q v) (hb : isNil (P.underlying t) p = some b) (hc : isNil (P.underlying t) q = some c) (w : World) :
    (eqGuard op t x y u v).run P w = .ok () w := by
  rcases isNil_spec hp hb with ⟨el, ad, hu, rfl, -⟩ | ⟨el, ad, n, k, hu, rfl, -⟩ | ⟨x, y, z, hu, ⟨rfl, -⟩ | ⟨f, g, k, rfl, -⟩⟩ <;> cases op <;> cases v <;> rfl
theorem eqNil_ok (h : HR φ F H w) (hr : Reps φ F e a) {op : BinOp} {t u : TypeId} {x y : Operand} (hb : op = .eql ∨ op = .neq) (hop : o.op = .binOp op t x y u) {p : PV} {H1 : Heap} (ho : aop P e o H tgt = some (p, H1)) : OpOk P φ F H w a o p H1 := by
  have hx := hr.ev x
  have hy := hr.ev y
  rcases hb with rfl | rfl <;>
  · simp only [aop, hop] at ho
    split at ho
    · rename_i b c hb hc
      split at ho
      · rename_i hbc
        cases ho
        have hg := fun op => eqGuard_nil (op := op) (x := x) (y := y) hx hy hb hc w
        have he := run_equal_nil hx hy hb hc hbc w
        refine .still h ?_ (.imm (.val _))
        have hbin : ∀ op, (op = .eql ∨ op = .neq) → binOp op t (a.eval x) (a.eval y) = if op matches .eql then (do pure (.bool (← Op.equal t (a.eval x) (a.eval y)))) else (do pure (.bool (!(← Op.equal t (a.eval x) (a.eval y))))) := by
          intro op hop'
          rcases isNil_spec hx hb with ⟨el, ad, hu, h1, -⟩ | ⟨el, ad, n, k, hu, h1, -⟩ | ⟨x', y', z', hu, ⟨h1, -⟩ | ⟨f, g, k, h1, -⟩⟩ <;>
          rcases isNil_spec hy hc with ⟨el', ad', hu', h2, -⟩ | ⟨el', ad', n', k', hu', h2, -⟩ | ⟨x', y', z', hu', ⟨h2, -⟩ | ⟨f', g', k', h2, -⟩⟩ <;>
          rcases hop' with rfl | rfl <;> rw [h1, h2] <;> rfl
        simp [execOp, hop, hg, hbin, he, Result.andThen]
      · cases ho
    · exact generic_ok h hr (fun cs b => by simp [hop]) ho
end Go.RM
namespace Go.RM
set_option linter.unusedVariables false
set_option linter.unusedSimpArgs false
variable {P : Program} {φ φ' : Place} {F F' : Mem} {H : Heap} {w w1 : World} {e : Env} {a : Act} {o : Oper}
def Place.add (φ : Place) (b n : Nat) (x : Nat × Nat) : Place := fun b' n' => if b' = b ∧ n' = n then some x else φ b' n'
theorem HR.lt (h : HR φ F H w) {c j : Nat} {v : Value} (hF : F c j = some v) : c < w.heap.size := by
  obtain ⟨arr, el, fr, hh, -⟩ := h.mem c j v hF
  exact (Array.getElem?_eq_some_iff.1 hh).1
theorem HR.dom_lt (h : HR φ F H w) {b n : Nat} {x : Nat × Nat} (hx : φ b n = some x) : b < H.length := by
  obtain ⟨k, hk, -⟩ := h.dom _ _ _ hx
  exact (List.getElem?_eq_some_iff.1 hk).1
theorem HR.place_lt (h : HR φ F H w) {b : Nat} {k : Blk} {c cap : Nat} (hb : H[b]? = some k) (hφ : φ b k.es.length = some (c, cap)) : c < w.heap.size := by
  rcases (h.blk b k hb).at_ with ⟨h0, _, h1⟩ | ⟨_, _, c1, cap', hφ1, arr', el', hheap, -⟩ | ⟨_, h0, l, c1, cap', _, hφ1, es, cl, hheap, -⟩
  · rw [h0] at hφ; simp only [List.length_nil] at hφ; rw [h1] at hφ; cases hφ
  · rw [hφ] at hφ1; cases hφ1
    exact (Array.getElem?_eq_some_iff.1 hheap).1
  · rw [h0] at hφ; simp only [List.length_nil] at hφ; rw [hφ] at hφ1; cases hφ1
    exact (Array.getElem?_eq_some_iff.1 hheap).1
theorem HR.hole (h : HR φ F H w) {b : Nat} (hb : H[b]? = some Blk.hole) (n : Nat) : φ b n = none := by
  cases hc : φ b n with
  | none => rfl
  | some x =>
    obtain ⟨k, hk, hn⟩ := h.dom _ _ _ hc
    rw [hb] at hk; cases hk
    have : n = 0 := by simpa [Blk.hole] using hn
    subst this
    rcases (h.blk b _ hb).at_ with ⟨_, _, h1⟩ | ⟨h1, _⟩ | ⟨h1, _⟩
    · rw [hc] at h1; cases h1
    · simp [Blk.hole] at h1
    · simp [Blk.hole] at h1
theorem Heap.fill_some {H1 : Heap} {b : Nat} {k : Blk} (h : Heap.fill H b k = some H1) : H[b]? = some Blk.hole ∧ H1 = H.set b k := by
  unfold Heap.fill at h
  split at h
  · rename_i hb; cases h; exact ⟨hb, rfl⟩
  · cases h
theorem RowIn.of (hle : φ.le φ') (hF : F.le F') {c cap : Nat} {k : Blk} (hc : w1.heap[c]? = w.heap[c]?) (hFc : F' c = F c) (h : RowIn φ F w c k cap) : RowIn φ' F' w1 c k cap := by
  obtain ⟨arr, el, h0, h1, h2, h3, h4, h5⟩ := h
  refine ⟨arr, el, by rw [hc]; exact h0, h1, h2, h3, by rw [hFc]; exact h4, fun i j x p hx hp => ?_⟩
  obtain ⟨v, hv, hone, hrep⟩ := h5 i j x p hx hp
  exact ⟨v, hv, hone, hrep.mono hle hF⟩
theorem MapIn.of (hle : φ.le φ') (hF : F.le F') {c : Nat} {l : List (Value × PV)} (hc : w1.heap[c]? = w.heap[c]?) (h : MapIn φ F w c l) : MapIn φ' F' w1 c l := by
  obtain ⟨es, cl, h0, h1⟩ := h
  exact ⟨es, cl, by rw [hc]; exact h0, h1.mono fun x y h => ⟨h.1, h.2.mono hle hF⟩⟩
theorem Post.upd (h : HR φ F H w) {b : Nat} {k k1 : Blk} (hb : H[b]? = some k) (hle : φ.le φ') (hφ : ∀ b' n, b' ≠ b → φ' b' n = φ b' n) (hdom : ∀ n x, φ' b n = some x → n ≤ k1.es.length)
    (hF : F.le F') (hmem : Holds F' w1) (hold : ∀ c, c < w.heap.size → (∀ cap, φ b k.es.length ≠ some (c, cap)) → w1.heap[c]? = w.heap[c]? ∧ F' c = F c)
    (hsize : w.heap.size ≤ w1.heap.size) (hos : w1.os = w.os) (htape : w1.tape = w.tape) (hout : w1.output = w.output)
    (hnew : BlkIn φ' F' w1 b k1) (hplace : ∀ c cap, φ' b k1.es.length = some (c, cap) → w.heap.size ≤ c ∨ ∃ cap0, φ b k.es.length = some (c, cap0)) :
    Post φ F H w φ' F' (H.set b k1) w1 := by
  have hbl : b < H.length := (List.getElem?_eq_some_iff.1 hb).1
  have hcases : ∀ (b' : Nat) (k' : Blk), (H.set b k1)[b']? = some k' → (b' ≠ b ∧ H[b']? = some k') ∨ (b' = b ∧ k' = k1) := by
    intro b' k' hb'
    by_cases he : b' = b
    · subst he
      rw [List.getElem?_set_self hbl] at hb'
      exact .inr ⟨rfl, (Option.some.inj hb').symm⟩
    · rw [List.getElem?_set_ne (Ne.symm he)] at hb'
      exact .inl ⟨he, hb'⟩
  have far : ∀ (b' : Nat) (k' : Blk) (c cap : Nat), b' ≠ b → H[b']? = some k' → φ b' k'.es.length = some (c, cap) → w1.heap[c]? = w.heap[c]? ∧ F' c = F c := by
    intro b' k' c cap hne hb' hφ'
    exact hold c (h.place_lt hb' hφ') fun cap0 h0 => h.sep b' b k' k c cap c cap0 hne hb' hb hφ' h0 rfl
  refine ⟨hle, hF, ⟨hmem, ?_, ?_, ?_⟩, ⟨hos, htape, hout, hsize, fun c hc hn => (hold c hc fun cap => hn b k cap hb).1⟩, ?_, fun c hc => ?_⟩
  · intro b' k' hb'
    rcases hcases b' k' hb' with ⟨hne, hb1⟩ | ⟨rfl, rfl⟩
    · have hB := h.blk b' k' hb1
      refine ⟨hB.uni, ?_⟩
      rcases hB.at_ with ⟨h0, h1, h2⟩ | ⟨h0, h1, c, cap, h2, h3⟩ | ⟨h0, h1, l, c, cap, h2, h3, h4⟩
      · exact .inl ⟨h0, h1, by rw [hφ _ _ hne]; exact h2⟩
      · obtain ⟨g1, g2⟩ := far b' k' c cap hne hb1 h2
        exact .inr (.inl ⟨h0, h1, c, cap, hle _ _ _ h2, h3.of hle hF g1 g2⟩)
      · obtain ⟨g1, g2⟩ := far b' k' c cap hne hb1 (by rw [h1]; exact h3)
        exact .inr (.inr ⟨h0, h1, l, c, cap, h2, hle _ _ _ h3, h4.of hle hF g1⟩)
    · exact hnew
  · intro b1 b2 k1' k2' c1 cap1 c2 cap2 hne hb1 hb2 hφ1 hφ2
    rcases hcases b1 k1' hb1 with ⟨hne1, hb1'⟩ | ⟨rfl, rfl⟩ <;> rcases hcases b2 k2' hb2 with ⟨hne2, hb2'⟩ | ⟨rfl, rfl⟩
    · rw [hφ _ _ hne1] at hφ1; rw [hφ _ _ hne2] at hφ2
      exact h.sep b1 b2 k1' k2' c1 cap1 c2 cap2 hne hb1' hb2' hφ1 hφ2
    · rw [hφ _ _ hne1] at hφ1
      rcases hplace c2 cap2 hφ2 with g | ⟨cap0, g⟩
      · have := h.place_lt hb1' hφ1; omega
      · exact h.sep b1 _ k1' k c1 cap1 c2 cap0 hne hb1' hb hφ1 g
    · rw [hφ _ _ hne2] at hφ2
      rcases hplace c1 cap1 hφ1 with g | ⟨cap0, g⟩
      · have := h.place_lt hb2' hφ2; omega
      · exact h.sep _ b2 k k2' c1 cap0 c2 cap2 hne hb hb2' g hφ2
    · exact absurd rfl hne
  · intro b' n x hx
    by_cases he : b' = b
    · subst he
      exact ⟨k1, List.getElem?_set_self hbl, hdom n x hx⟩
    · rw [hφ _ _ he] at hx
      obtain ⟨k', hk', hle'⟩ := h.dom b' n x hx
      exact ⟨k', by rw [List.getElem?_set_ne (Ne.symm he)]; exact hk', hle'⟩
  · intro b' k' c cap hb' hφ'
    rcases hcases b' k' hb' with ⟨hne, hb1⟩ | ⟨rfl, rfl⟩
    · rw [hφ _ _ hne] at hφ'
      exact .inr ⟨b', k', cap, hb1, hφ'⟩
    · rcases hplace c cap hφ' with g | ⟨cap0, g⟩
      · exact .inl g
      · exact .inr ⟨b', k, cap0, hb, g⟩
  · by_cases hp : ∀ cap, φ b k.es.length ≠ some (c, cap)
    · exact .inl (hold c hc hp).2
    · have ⟨cap, hcap⟩ := Classical.not_forall.1 hp
      exact .inr ⟨b, k, cap, hb, Classical.not_not.1 hcap⟩
theorem HR.new (h : HR φ F H w) (j : Nat) : F w.heap.size j = none := by
  cases hx : F w.heap.size j with
  | none => rfl
  | some x => have := h.lt hx; omega
theorem Post.move (h : HR φ F H w) {b : Nat} {k k1 : Blk} {cap : Nat} {arr1 : Array Value} {el : TypeId} (hb : H[b]? = some k) (hw : w1.heap = w.heap.push (.cells arr1 el (0, 0))) (hos : w1.os = w.os) (htape : w1.tape = w.tape) (hout : w1.output = w.output)
    (hn : k.es.length < k1.es.length ∨ k = Blk.hole) (hpos : 0 < k1.sz) (hmp : k1.mp = none) (hcapn : k1.es.length ≤ cap) (hsz : arr1.size = cap * k1.sz) (hcap : cap ≤ maxLen) (huni : ∀ x ∈ k1.es, x.length = k1.sz)
    (hc : ∀ (i j : Nat) (x : List PV) (p : PV), k1.es[i]? = some x → x[j]? = some p → ∃ v, arr1[i * k1.sz + j]? = some v ∧ v.oneCell' = true ∧ Rep φ F p v) :
    Post φ F H w (φ.add b k1.es.length (w.heap.size, cap)) F (H.set b k1) w1 := by
  have hno : φ b k1.es.length = none := by
    rcases hn with hn | rfl
    · cases hx : φ b k1.es.length with
      | none => rfl
      | some x =>
        obtain ⟨k', hk', hle'⟩ := h.dom _ _ _ hx
        rw [hb] at hk'; cases hk'
        omega
    · exact h.hole hb _
  have hle : φ.le (φ.add b k1.es.length (w.heap.size, cap)) := by
    intro b' n x hx
    unfold Place.add
    split
    · rename_i he
      obtain ⟨rfl, rfl⟩ := he
      rw [hno] at hx; cases hx
    · exact hx
  have hself : φ.add b k1.es.length (w.heap.size, cap) b k1.es.length = some (w.heap.size, cap) := by simp [Place.add]
  have hkeep : ∀ c', c' < w.heap.size → w1.heap[c']? = w.heap[c']? := by
    intro c' hlt
    rw [hw, Array.getElem?_push, if_neg (by omega)]
  refine Post.upd h hb hle (fun b' n hne => by simp [Place.add, hne]) ?_ (.refl F) ?_ (fun c hc _ => ⟨hkeep c hc, rfl⟩) (by rw [hw]; simp) hos htape hout ⟨huni, .inr (.inl ⟨hpos, hmp, _, cap, hself, arr1, el, by rw [hw]; simp, hcapn, hcap, hsz, fun j _ => h.new j, ?_⟩)⟩ ?_
  · intro n x hx
    unfold Place.add at hx
    split at hx
    · rename_i he; omega
    · obtain ⟨k', hk', hle'⟩ := h.dom b n x hx
      rw [hb] at hk'; cases hk'
      rcases hn with hn | rfl
      · omega
      · have : n = 0 := by simpa [Blk.hole] using hle'
        omega
  · intro c j v hF
    obtain ⟨arr, el', fr', hh, hv⟩ := h.mem c j v hF
    exact ⟨arr, el', fr', by rw [hkeep c (h.lt hF)]; exact hh, hv⟩
  · intro i j x p hx hp
    obtain ⟨v, hv, hone, hrep⟩ := hc i j x p hx hp
    exact ⟨v, hv, hone, hrep.mono hle (.refl F)⟩
  · intro c cap' hx
    rw [hself] at hx; cases hx; exact .inl (Nat.le_refl _)
theorem Post.change (h : HR φ F H w) {b : Nat} {k k1 : Blk} {c cap : Nat} {arr arr1 : Array Value} {el : TypeId} (hb : H[b]? = some k) (hφ : φ b k.es.length = some (c, cap))
    (hheap : w.heap[c]? = some (.cells arr el (0, 0))) (hw : w1.heap = w.heap.setIfInBounds c (.cells arr1 el (0, 0))) (hos : w1.os = w.os) (htape : w1.tape = w.tape) (hout : w1.output = w.output)
    (hn : k.es.length ≤ k1.es.length) (hsz : k1.sz = k.sz) (hpos : 0 < k.sz) (hmp1 : k1.mp = none) (hfr1 : k1.frozen = k.frozen) (hlen : arr1.size = arr.size) (hcapn : k1.es.length ≤ cap) (hsz0 : arr.size = cap * k.sz) (hcap : cap ≤ maxLen)
    (huni : ∀ x ∈ k1.es, x.length = k1.sz) (hF : ∀ j, k.frozen * k.sz ≤ j → F c j = none) (hsame : ∀ j, j < k.frozen * k.sz → arr1[j]? = arr[j]?)
    (hc : ∀ (i j : Nat) (x : List PV) (p : PV), k1.es[i]? = some x → x[j]? = some p → ∃ v, arr1[i * k1.sz + j]? = some v ∧ v.oneCell' = true ∧ Rep φ F p v) :
    Post φ F H w (φ.add b k1.es.length (c, cap)) F (H.set b k1) w1 := by
  have hcl : c < w.heap.size := (Array.getElem?_eq_some_iff.1 hheap).1
  have hle : φ.le (φ.add b k1.es.length (c, cap)) := by
    intro b' n x hx
    unfold Place.add
    split
    · rename_i he
      obtain ⟨rfl, rfl⟩ := he
      obtain ⟨k', hk', hle'⟩ := h.dom _ _ _ hx
      rw [hb] at hk'; cases hk'
      have : k1.es.length = k.es.length := by omega
      rw [this] at hx; rw [hφ] at hx; exact hx
    · exact hx
  have hself : φ.add b k1.es.length (c, cap) b k1.es.length = some (c, cap) := by simp [Place.add]
  have hold : ∀ c', c' ≠ c → w1.heap[c']? = w.heap[c']? := by
    intro c' hne
    rw [hw, Array.getElem?_setIfInBounds_ne (Ne.symm hne)]
  have hnew : w1.heap[c]? = some (.cells arr1 el (0, 0)) := by
    rw [hw]; simp [hcl]
  refine Post.upd h hb hle (fun b' n hne => by simp [Place.add, hne]) ?_ (.refl F) ?_ (fun c' hc' hno => ⟨hold c' fun he => ?_, rfl⟩) (by rw [hw]; simp) hos htape hout ⟨huni, .inr (.inl ⟨by rw [hsz]; exact hpos, hmp1, c, cap, hself, arr1, el, hnew, hcapn, hcap, by rw [hlen, hsz0, hsz], by rw [hfr1, hsz]; exact hF, ?_⟩)⟩ ?_
  · intro n x hx
    unfold Place.add at hx
    split at hx
    · rename_i he; omega
    · obtain ⟨k', hk', hle'⟩ := h.dom b n x hx
      rw [hb] at hk'; cases hk'; omega
  · intro c' j v hF'
    obtain ⟨arr', el', fr', hh, hv⟩ := h.mem c' j v hF'
    by_cases hne : c' = c
    · subst hne
      have hj : j < k.frozen * k.sz := by
        rcases Nat.lt_or_ge j (k.frozen * k.sz) with g | g
        · exact g
        · rw [hF j g] at hF'; cases hF'
      rw [hheap] at hh; cases hh
      exact ⟨arr1, el, (0, 0), hnew, by rw [hsame j hj]; exact hv⟩
    · exact ⟨arr', el', fr', by rw [hold c' hne]; exact hh, hv⟩
  · subst he; exact hno cap hφ
  · intro i j x p hx hp
    obtain ⟨v, hv, hone, hrep⟩ := hc i j x p hx hp
    exact ⟨v, hv, hone, hrep.mono hle (.refl F)⟩
  · intro c' cap' hx
    rw [hself] at hx; cases hx; exact .inr ⟨cap, hφ⟩
def Mem.more (F : Mem) (c m : Nat) (arr : Array Value) : Mem := fun c' j => if c' = c ∧ j < m then arr[j]? else F c' j
theorem Post.freeze (h : HR φ F H w) {b m : Nat} {k : Blk} {c cap : Nat} {arr : Array Value} {el : TypeId} (hb : H[b]? = some k) (hφ : φ b k.es.length = some (c, cap)) (hpos : 0 < k.sz) (hmp : k.mp = none)
    (hrow : RowIn φ F w c k cap) (hheap : w.heap[c]? = some (.cells arr el (0, 0))) :
    F.le (F.more c (m * k.sz) arr) ∧ Post φ F H w φ (F.more c (m * k.sz) arr) (H.set b { k with frozen := max k.frozen m }) w := by
  have hF : F.le (F.more c (m * k.sz) arr) := by
    intro c' j v hv
    unfold Mem.more
    split
    · rename_i hc
      obtain ⟨rfl, hj⟩ := hc
      obtain ⟨arr', el', fr', hh, hv'⟩ := h.mem _ j v hv
      rw [hheap] at hh; cases hh; exact hv'
    · exact hv
  refine ⟨hF, Post.upd h hb (.refl φ) (fun _ _ _ => rfl) (fun n x hx => ?_) hF ?_ (fun c' hc' hno => ⟨rfl, ?_⟩) (Nat.le_refl _) rfl rfl rfl ⟨(h.blk b k hb).uni, .inr (.inl ⟨hpos, hmp, c, cap, hφ, ?_⟩)⟩ (fun c' cap' hx => .inr ⟨cap', hx⟩)⟩
  · obtain ⟨k', hk', hle'⟩ := h.dom b n x hx
    rw [hb] at hk'; cases hk'; exact hle'
  · intro c' j v hv
    unfold Mem.more at hv
    split at hv
    · rename_i hc
      obtain ⟨rfl, hj⟩ := hc
      exact ⟨arr, el, (0, 0), hheap, hv⟩
    · exact h.mem c' j v hv
  · funext j
    unfold Mem.more
    rw [if_neg]
    rintro ⟨rfl, -⟩
    exact hno cap hφ
  · obtain ⟨arr', el', h0, h1, h2, h3, h4, h5⟩ := hrow
    rw [hheap] at h0; cases h0
    refine ⟨arr, el, hheap, h1, h2, h3, fun j hj => ?_, fun i j x p hx hp => ?_⟩
    · have hm : m * k.sz ≤ max k.frozen m * k.sz := Nat.mul_le_mul_right _ (Nat.le_max_right _ _)
      have hf : k.frozen * k.sz ≤ max k.frozen m * k.sz := Nat.mul_le_mul_right _ (Nat.le_max_left _ _)
      unfold Mem.more
      rw [if_neg (by simp only at hj; omega)]
      exact h4 j (by simp only at hj; omega)
    · obtain ⟨v, hv, hone, hrep⟩ := h5 i j x p hx hp
      exact ⟨v, hv, hone, hrep.mono (.refl φ) hF⟩
end Go.RM
namespace Go.RM
set_option linter.unusedVariables false
set_option linter.unusedSimpArgs false
variable {P : Program} {φ : Place} {F : Mem} {H : Heap} {w : World} {e : Env} {a : Act} {o : Oper} {tgt : Nat}
theorem Rep.imm_of_free : ∀ (n : Nat) {p : PV} {v : Value}, PV.free n p = true → Rep φ F p v → Imm F p v
  | 0, p, v, h, _ => by simp [PV.free] at h
  | n + 1, p, v, h, hr => by
    cases hr with
    | imm h => exact h
    | own0 b => simp [PV.free] at h
    | own b n c cap h' => simp [PV.free] at h
    | ptr b n sz i off c cap h' => simp [PV.free] at h
    | mp b c cap h' => simp [PV.free] at h
    | agg cells cs hl hi =>
      simp only [PV.free, List.all_eq_true] at h
      exact .agg _ _ hl fun j p v hp hv => Rep.imm_of_free n (h p (List.mem_of_getElem? hp)) (hi j p v hp hv)
    | tuple cells cs hl hi =>
      simp only [PV.free, List.all_eq_true] at h
      exact .tuple _ _ hl fun j p v hp hv => Rep.imm_of_free n (h p (List.mem_of_getElem? hp)) (hi j p v hp hv)
    | clo f cells cs hl hi =>
      simp only [PV.free, List.all_eq_true] at h
      exact .clo _ _ _ hl fun j p v hp hv => Rep.imm_of_free n (h p (List.mem_of_getElem? hp)) (hi j p v hp hv)
theorem run_bound {x : PV} {v : Value} (hx : Rep φ F x v) {d n : Nat} (h : bound (some x) d = some n) {y : Nat} (hy : n ≤ y) (code : BoundsCode) (w : World) : (Instr.sliceBound v y code).run P w = .ok n w := by
  unfold bound at h
  split at h
  · rename_i he; cases he
  · rename_i k i he
    simp only [Option.some.injEq] at he
    subst he
    rw [hx.val_inv]
    split at h
    · rename_i h0
      cases h
      have : 0 ≤ i ∧ i ≤ (y : Int) := ⟨h0, by omega⟩
      simp [Instr.sliceBound, asIntOf, this, Result.andThen]
    · cases h
  · cases h
theorem run_bounds (hr : Reps φ F e a) {lo hi mx : Option Operand} {n cap m hh l : Nat} (hcap : n ≤ cap) (hm : bound (mx.map (ev e)) n = some m) (hhh : bound (hi.map (ev e)) n = some hh) (hl : bound (lo.map (ev e)) 0 = some l)
    (hlh : l ≤ hh) (hhm : hh ≤ m) (hme : m ≤ n) (hmh : mx.isSome = true → hi.isSome = true) :
    ∃ M, (Instr.sliceBounds true n cap (lo.map a.eval) (hi.map a.eval) (mx.map a.eval)).run P w = .ok (l, hh, M) w ∧ hh ≤ M ∧ (mx.isSome = true → M = m) := by
  cases mx with
  | none =>
    refine ⟨cap, ?_, by omega, by simp⟩
    cases hi with
    | none =>
      simp [bound] at hhh hm
      cases lo with
      | none => simp [bound] at hl; simp [Instr.sliceBounds, Result.andThen, hhh, hl]
      | some lo => simp only [Option.map_some] at hl; simp [Instr.sliceBounds, Result.andThen, run_bound (P := P) (hr.ev lo) hl hlh, hhh]
    | some hi =>
      simp only [Option.map_some] at hhh
      have h1 := fun c => run_bound (P := P) (hr.ev hi) hhh (y := cap) (by omega) c w
      cases lo with
      | none => simp [bound] at hl; simp [Instr.sliceBounds, Result.andThen, h1, hl]
      | some lo => simp only [Option.map_some] at hl; simp [Instr.sliceBounds, Result.andThen, h1, run_bound (P := P) (hr.ev lo) hl hlh]
  | some mx =>
    refine ⟨m, ?_, by omega, fun _ => rfl⟩
    simp only [Option.map_some] at hm
    have h2 := fun c => run_bound (P := P) (hr.ev mx) hm (y := cap) (by omega) c w
    cases hi with
    | none => simp at hmh
    | some hi =>
      simp only [Option.map_some] at hhh
      have h1 := fun c => run_bound (P := P) (hr.ev hi) hhh (y := m) (by omega) c w
      cases lo with
      | none => simp [bound] at hl; simp [Instr.sliceBounds, Result.andThen, h1, h2, hl]
      | some lo => simp only [Option.map_some] at hl; simp [Instr.sliceBounds, Result.andThen, h1, h2, run_bound (P := P) (hr.ev lo) hl hlh]
theorem slice_ok (h : HR φ F H w) (hr : Reps φ F e a) {t : TypeId} {x : Operand} {lo hi mx : Option Operand} (hop : o.op = .slice t x lo hi mx) {p : PV} {H1 : Heap} (ho : aop P e o H tgt = some (p, H1)) : OpOk P φ F H w a o p H1 := by
  have hx := hr.ev x
  simp only [aop, hop] at ho
  unfold doSlice at ho
  split at ho
  · rename_i es hev
    rw [hev] at hx
    split at ho
    · rename_i el hu
      simp only [Option.bind_eq_some_iff] at ho
      obtain ⟨m, hm, hh, hhh, l, hl, s, hs, ho⟩ := ho
      split at ho
      · rename_i hc
        obtain ⟨hlh, hhm, hme, hmh, hall⟩ := hc
        cases ho
        have hmh' : mx.isSome = true → hi.isSome = true := by simpa using hmh
        obtain ⟨ad, cap, hv, hcap⟩ : ∃ ad cap, a.eval x = .slice ad es.length cap ∧ es.length ≤ cap := by
          rcases hx.rows_inv with ⟨h0, ad, cap, hv⟩ | ⟨b, off, cap, sz, f, hv, -, -, -, h5⟩
          · exact ⟨ad, cap, by rw [hv, h0]; rfl, by simp [h0]⟩
          · exact ⟨_, cap, hv, h5⟩
        obtain ⟨M, hbr, hM, hMm⟩ := run_bounds (P := P) (w := w) hr hcap hm hhh hl hlh hhm hme hmh'
        refine .still h (v := .slice (if M = l then ad else ad.map (·.add (l * s))) (hh - l) (M - l)) ?_ ?_
        · simp [execOp, hop, hv, Instr.sliceAt, Instr.slice, underlying, hu, hbr, run_sizeOf hs, Result.andThen]
        · split
          · rename_i hmx
            obtain ⟨hmx1, hmx2⟩ := hmx
            have := hMm (by simpa using hmx1)
            rw [show hh - l = 0 by omega, show M - l = 0 by omega]
            exact .imm (.nocap _)
          by_cases h0 : hh = l
          · subst h0
            simp only [Nat.sub_self, List.take_zero]
            exact .imm (.none _ _)
          · have hMl : ¬ M = l := by omega
            simp only [hMl, if_false]
            rcases hx.rows_inv with ⟨h0, -⟩ | ⟨b, off, cap', sz, f, hv', huni, hat, himm, h5⟩
            · subst h0; simp at hme; omega
            rw [hv] at hv'
            injection hv' with e1 e2 e3
            subst e1
            have hsz : sz = s := by
              have hne : es ≠ [] := by intro h; subst h; simp at hme; omega
              obtain ⟨x0, hx0⟩ := List.exists_mem_of_ne_nil es hne
              have h1 := huni x0 hx0
              have h2 := List.all_eq_true.1 hall x0 hx0
              simp at h2; omega
            subst hsz
            have hlen : ((es.drop l).take (hh - l)).length = hh - l := by simp; omega
            have key := Imm.rows (F := F) ((es.drop l).take (hh - l)) b (off + l * sz) (M - l) sz (fun i j => f (l + i) j)
              (fun e he => huni e (List.mem_of_mem_drop (List.mem_of_mem_take he)))
              (fun i j e p he hp => by
                have hi : i < hh - l := by
                  rcases Nat.lt_or_ge i (hh - l) with h | h
                  · exact h
                  · rw [List.getElem?_eq_none (by omega)] at he; cases he
                rw [List.getElem?_take_of_lt hi, List.getElem?_drop] at he
                have := hat (l + i) j e p he hp
                rw [show off + l * sz + i * sz + j = off + (l + i) * sz + j by rw [Nat.add_mul]; omega]; exact this)
              (fun i j e p he hp => by
                have hi : i < hh - l := by
                  rcases Nat.lt_or_ge i (hh - l) with h | h
                  · exact h
                  · rw [List.getElem?_eq_none (by omega)] at he; cases he
                rw [List.getElem?_take_of_lt hi, List.getElem?_drop] at he
                exact himm (l + i) j e p he hp) (by omega)
            rw [hlen] at key
            simpa [Addr.add_none] using Rep.imm (φ := φ) key
      · cases ho
    · cases ho
  · rename_i b n hev
    rw [hev] at hx
    split at ho
    · rename_i el hu
      simp only [Option.bind_eq_some_iff] at ho
      obtain ⟨k, hk, hh, hhh, l, hl, s, hs, ho⟩ := ho
      split at ho
      · rename_i hc
        obtain ⟨hmx, hn, hlh, hhn, hss, hmp, hfree⟩ := hc
        subst hn hss
        cases mx with
        | some mx => simp at hmx
        | none =>
        obtain ⟨ad, cap, hv, hcap⟩ : ∃ ad cap, a.eval x = .slice ad k.es.length cap ∧ k.es.length ≤ cap := by
          rcases hx.own_inv with ⟨h0, hv⟩ | ⟨c, cap, hφ, hv⟩
          · exact ⟨none, 0, by rw [hv, h0], by omega⟩
          · rcases (h.blk b k hk).at_ with ⟨h0, h1, h2⟩ | ⟨h0, h1, c', cap', h2, arr, el', h3, h4, -⟩ | ⟨h0, h1, -⟩
            · rw [h0] at hφ; simp only [List.length_nil] at hφ; rw [h2] at hφ; cases hφ
            · rw [hφ] at h2; cases h2; exact ⟨_, cap, hv, h4⟩
            · exact ⟨_, cap, hv, by simp [h1]⟩
        have hbnd := run_bounds (P := P) (w := w) (mx := none) hr hcap (m := k.es.length) (by simp [bound]) hhh hl hlh hhn (Nat.le_refl _) (by simp)
        obtain ⟨M, hbr, hM, -⟩ := hbnd
        have hrun : (execOp a.eval o).run P w = .ok (.value (.slice (if M = l then ad else ad.map (·.add (l * k.sz))) (hh - l) (M - l))) w := by
          simp only [Option.map_none] at hbr
          simp [execOp, hop, hv, Instr.sliceAt, Instr.slice, underlying, hu, hbr, run_sizeOf hs, Result.andThen]
        · · skip
            cases ho
            rcases (h.blk b k hk).at_ with ⟨h0, h1, h2⟩ | ⟨h0, h1, c, cap', h2, hrow⟩ | ⟨h0, h1, l', c, cap', h3, h4, h5⟩
            · -- an empty row without a place
              have hh0 : hh = 0 := by rw [h0] at hhn; simpa using hhn
              subst hh0
              have hl0 : l = 0 := by omega
              subst hl0
              have hset : H.set b { k with frozen := max k.frozen 0 } = H := by
                rw [Nat.max_eq_left (Nat.zero_le _)]
                apply List.ext_getElem?
                intro j
                by_cases hj : b = j
                · subst hj; rw [List.getElem?_set_self (List.getElem?_eq_some_iff.1 hk).1, hk]
                · rw [List.getElem?_set_ne hj]
              rw [hset]
              refine .still h hrun ?_
              simp only [Nat.sub_self, List.take_zero]
              exact .imm (.none _ _)
            · obtain ⟨arr, el', hheap, hrest⟩ := hrow
              obtain ⟨hF, hpost⟩ := Post.freeze (m := hh) h hk h2 h0 h1 ⟨arr, el', hheap, hrest⟩ hheap
              refine ⟨_, _, _, _, _, hrun, .inl rfl, ?_, hpost⟩
              by_cases he : hh = l
              · subst he
                simp only [Nat.sub_self, List.take_zero]
                exact .imm (.none _ _)
              · have hMl : ¬ M = l := by omega
                simp only [hMl, if_false]
                rcases hx.own_inv with ⟨g0, -⟩ | ⟨c', cap'', hφ', hv'⟩
                · omega
                rw [h2] at hφ'; cases hφ'
                rw [hv] at hv'
                injection hv' with e1 e2 e3
                subst e1
                have hlen : ((k.es.drop l).take (hh - l)).length = hh - l := by simp; omega
                have hat : ∀ (i j : Nat) (x : List PV) (p : PV), ((k.es.drop l).take (hh - l))[i]? = some x → x[j]? = some p →
                    ∃ v, arr[l * k.sz + i * k.sz + j]? = some v ∧ v.oneCell' = true ∧ Rep φ F p v ∧ PV.free deep p = true ∧ l * k.sz + i * k.sz + j < hh * k.sz := by
                  intro i j x p hx hp
                  have hi : i < hh - l := by
                    rcases Nat.lt_or_ge i (hh - l) with h | h
                    · exact h
                    · rw [List.getElem?_eq_none (by omega)] at hx; cases hx
                  rw [List.getElem?_take_of_lt hi, List.getElem?_drop] at hx
                  obtain ⟨v, g1, g2, g3⟩ := hrest.2.2.2.2 (l + i) j x p hx hp
                  have hxm := List.mem_of_getElem? hx
                  have hj : j < k.sz := by
                    rw [← (h.blk b k hk).uni x hxm]; exact (List.getElem?_eq_some_iff.1 hp).1
                  have hlt : (l + i + 1) * k.sz ≤ hh * k.sz := Nat.mul_le_mul_right _ (by omega)
                  have e0 : (l + i + 1) * k.sz = l * k.sz + i * k.sz + k.sz := by rw [Nat.add_mul, Nat.add_mul]; omega
                  rw [show (l + i) * k.sz + j = l * k.sz + i * k.sz + j by rw [Nat.add_mul]] at g1
                  exact ⟨v, g1, g2, g3, List.all_eq_true.1 (List.all_eq_true.1 hfree x hxm) p (List.mem_of_getElem? hp), by omega⟩
                have key := Imm.rows (F := F.more c (hh * k.sz) arr) ((k.es.drop l).take (hh - l)) c (l * k.sz) (M - l) k.sz (fun i j => arr.getD (l * k.sz + i * k.sz + j) undef)
                  (fun e he => (h.blk b k hk).uni e (List.mem_of_mem_drop (List.mem_of_mem_take he)))
                  (fun i j x p hx hp => by
                    obtain ⟨v, g1, g2, g3, g4, g5⟩ := hat i j x p hx hp
                    have gD : arr.getD (l * k.sz + i * k.sz + j) undef = v := by simp [g1]
                    rw [gD]
                    exact ⟨by unfold Mem.more; rw [if_pos ⟨rfl, g5⟩]; exact g1, g2⟩)
                  (fun i j x p hx hp => by
                    obtain ⟨v, g1, g2, g3, g4, g5⟩ := hat i j x p hx hp
                    have gD : arr.getD (l * k.sz + i * k.sz + j) undef = v := by simp [g1]
                    rw [gD]
                    exact (g3.imm_of_free _ g4).mono hF) (by omega)
                rw [hlen] at key
                simpa [Addr.add_none] using Rep.imm (φ := φ) key
            · rw [h3] at hmp; simp at hmp
      · cases ho
    · cases ho
  · exact generic_ok h hr (fun cs b => by simp [hop]) ho
end Go.RM
namespace Go.RM
set_option linter.unusedVariables false
set_option linter.unusedSimpArgs false
variable {P : Program} {φ : Place} {F : Mem} {H : Heap} {w : World} {e : Env} {a : Act} {o : Oper} {tgt : Nat}
theorem Rep.one {p : PV} {v : Value} (h : Rep φ F p v) (h1 : p.one = true) : v.oneCell' = true := by
  cases p with
  | val u => rw [h.val_inv]; exact h1
  | rows es => rcases h.rows_inv with ⟨-, ad, cap, rfl⟩ | ⟨c, o, cap, sz, f, rfl, -⟩ <;> rfl
  | own b n => rcases h.own_inv with ⟨-, rfl⟩ | ⟨c, cap, -, rfl⟩ <;> rfl
  | ptr b n sz i off => obtain ⟨c, cap, -, rfl⟩ := h.ptr_inv; rfl
  | cptr cs off => obtain ⟨c, o, f, rfl, -⟩ := h.cptr_inv; rfl
  | mp b => cases h with
    | imm h => cases h
    | mp _ c cap h => rfl
  | nocap => obtain ⟨ad, rfl⟩ := h.nocap_inv; rfl
  | clo f cs => obtain ⟨cs', rfl, -⟩ := h.clo_inv; rfl
  | _ => simp [PV.one] at h1
theorem Value.cells_one {v : Value} (h : v.oneCell' = true) : v.cells = #[v] := by cases v <;> first | rfl | simp [Value.oneCell'] at h
theorem cells_rep {p : PV} {v : Value} (h : Rep φ F p v) (h1 : p.cells.all PV.one = true) :
    v.cells.size = p.cells.length ∧ ∀ (j : Nat) (q : PV) (u : Value), p.cells[j]? = some q → v.cells[j]? = some u → Rep φ F q u := by
  have single : p.cells = [p] → v.cells.size = p.cells.length ∧ ∀ (j : Nat) (q : PV) (u : Value), p.cells[j]? = some q → v.cells[j]? = some u → Rep φ F q u := by
    intro hp
    rw [hp] at h1 ⊢
    simp only [List.all_cons, List.all_nil, Bool.and_true] at h1
    rw [Value.cells_one (h.one h1)]
    refine ⟨rfl, fun j q u hq hu => ?_⟩
    cases j with
    | zero => simp at hq hu; subst hq hu; exact h
    | succ j => simp at hq
  cases p with
  | agg cs =>
    obtain ⟨arr, rfl, hl, hc⟩ := h.agg_inv
    exact ⟨hl.symm, hc⟩
  | _ => exact single rfl
theorem push_ok (h : HR φ F H w) {el : TypeId} {sz : Nat} {x : PV} {v : Value} (hx : Rep φ F x v) {p : PV} {H1 : Heap} (ho : push H tgt sz x.cells = some (p, H1))
    (hrun : (execOp a.eval o).run P w = .ok (.value (.pointer (some ⟨w.heap.size, 0, none⟩))) { w with heap := w.heap.push (.cells v.cells el (0, 0)) }) : OpOk P φ F H w a o p H1 := by
  unfold push at ho
  split at ho
  · rename_i hc
    obtain ⟨hl, hpos, hone⟩ := hc
    simp only [Option.map_eq_some_iff, Prod.mk.injEq] at ho
    obtain ⟨H1', hfill, rfl, rfl⟩ := ho
    obtain ⟨hhole, rfl⟩ := Heap.fill_some hfill
    obtain ⟨hs, hcell⟩ := cells_rep hx hone
    have hpost := Post.move (w1 := { w with heap := w.heap.push (.cells v.cells el (0, 0)) }) (arr1 := v.cells) (el := el) (k1 := ⟨sz, [x.cells], 0, none⟩) (cap := 1) h hhole rfl rfl rfl rfl
      (.inr rfl) hpos rfl (by simp) (by simp [hs, hl]) (by simp [maxLen]) (by simpa using hl) (fun i j y q hy hq => by
        cases i with
        | succ i => simp at hy
        | zero =>
          simp at hy
          subst hy
          have hj : j < v.cells.size := by
            rw [hs]
            exact (List.getElem?_eq_some_iff.1 hq).1
          have hr := hcell j q v.cells[j] hq (by simp [hj])
          refine ⟨v.cells[j], by simp [hj], hr.one ?_, hr⟩
          exact List.all_eq_true.1 hone q (List.mem_of_getElem? hq))
    refine ⟨_, _, _, _, _, hrun, .inl rfl, ?_, hpost⟩
    have := Rep.ptr (φ := φ.add tgt 1 (w.heap.size, 1)) (F := F) tgt 1 sz 0 0 w.heap.size 1 (by simp [Place.add])
    simpa using this
  · cases ho
theorem alloc_ok (h : HR φ F H w) (hr : Reps φ F e a) {t : TypeId} (hop : o.op = .alloc t) {p : PV} {H1 : Heap} (ho : aop P e o H tgt = some (p, H1)) : OpOk P φ F H w a o p H1 := by
  simp only [aop, hop, Option.bind_eq_some_iff] at ho
  obtain ⟨z, hz, ho⟩ := ho
  unfold zero? at hz
  simp only [Option.map_eq_some_iff, Option.bind_eq_some_iff] at hz
  obtain ⟨zv, ⟨i, hi, hzv⟩, rfl⟩ := hz
  refine push_ok (el := t) h (.imm (.ofV F zv)) ho ?_
  simp [execOp, hop, Instr.alloc, zeroValue, typeInfo, hi, hzv, newVar, newRow, Result.andThen]
theorem box_ok (h : HR φ F H w) (hr : Reps φ F e a) {t : TypeId} {x : Operand} (hop : o.op = .box t x) {p : PV} {H1 : Heap} (ho : aop P e o H tgt = some (p, H1)) : OpOk P φ F H w a o p H1 := by
  simp only [aop, hop] at ho
  refine push_ok (el := t) h (hr.ev x) ho ?_
  simp [execOp, hop, Instr.box, newVar, newRow, Result.andThen]
theorem makeSlice_ok (h : HR φ F H w) (hr : Reps φ F e a) {t : TypeId} {l c : Operand} (hop : o.op = .makeSlice t l c) {p : PV} {H1 : Heap} (ho : aop P e o H tgt = some (p, H1)) : OpOk P φ F H w a o p H1 := by
  have hl := hr.ev l
  have hc := hr.ev c
  simp only [aop, hop] at ho
  unfold doMake at ho
  split at ho
  · rename_i el k1 l' k2 c' hu hevl hevc
    rw [hevl] at hl
    rw [hevc] at hc
    have hlv := hl.val_inv
    have hcv := hc.val_inv
    simp only [Option.bind_eq_some_iff] at ho
    obtain ⟨i, hi, z, hz, ho⟩ := ho
    unfold zero? at hz
    simp only [Option.map_eq_some_iff, Option.bind_eq_some_iff] at hz
    obtain ⟨zv, ⟨i', hi', hzv⟩, rfl⟩ := hz
    rw [hi] at hi'; cases hi'
    split at ho
    · rename_i hcond
      obtain ⟨hpos, hzl, h0, hlc, hbytes, hmax, hone⟩ := hcond
      simp only [Option.map_eq_some_iff, Prod.mk.injEq] at ho
      obtain ⟨H1', hfill, rfl, rfl⟩ := ho
      obtain ⟨hhole, rfl⟩ := Heap.fill_some hfill
      obtain ⟨hs, hcell⟩ := cells_rep (φ := φ) (F := F) (.imm (.ofV F zv)) hone
      have hm : maxLen = 9223372036854775807 := rfl
      obtain ⟨c, rfl⟩ : ∃ c : Nat, c' = c := ⟨c'.toNat, by omega⟩
      obtain ⟨l, rfl⟩ : ∃ l : Nat, l' = l := ⟨l'.toNat, by omega⟩
      have hb : (c : Int) * i.bytes ≤ 140737488355328 := hbytes
      have hcm : c ≤ maxLen := by rw [hm] at hmax ⊢; omega
      have hlen : l ≤ c := by omega
      have hrun := run_make (P := P) w t el i zv hu hi hzv k1 k2 l c h0 hlc (by rw [Int.mul_comm]; omega) (by rw [hm] at hcm; omega)
      simp only [Int.toNat_natCast] at hrun ⊢
      have hzs : zv.cells.size = i.size := by omega
      have hpost := Post.move (w1 := w.alloc (.cells (madeCells zv.cells (c * i.size)) el)) (arr1 := madeCells zv.cells (c * i.size)) (el := el) (k1 := ⟨i.size, List.replicate l (ofV zv).cells, 0, none⟩) (cap := c) h hhole rfl rfl rfl rfl
        (.inr rfl) hpos rfl (by simpa using hlen) (by simp [size_madeCells]) hcm (by intro x hx; rw [List.eq_of_mem_replicate hx]; exact hzl) (fun i' j y q hy hq => by
          have hil : i' < l := by
            have := (List.getElem?_eq_some_iff.1 hy).1
            simpa using this
          have hy' : y = (ofV zv).cells := List.eq_of_mem_replicate (List.mem_of_getElem? hy)
          subst hy'
          have hj : j < i.size := by rw [← hzl]; exact (List.getElem?_eq_some_iff.1 hq).1
          have hjz : j < zv.cells.size := by omega
          have hr := hcell j q zv.cells[j] hq (by simp [hjz])
          refine ⟨zv.cells[j], ?_, hr.one (List.all_eq_true.1 hone q (List.mem_of_getElem? hq)), hr⟩
          have hlt : i' * i.size + j < c * i.size := by
            have : (i' + 1) * i.size ≤ c * i.size := Nat.mul_le_mul_right _ (by omega)
            rw [Nat.add_mul] at this; omega
          have hmod : (i' * i.size + j) % i.size = j := by
            rw [Nat.mul_comm, Nat.mul_add_mod, Nat.mod_eq_of_lt hj]
          simp only at hlt ⊢
          simp [madeCells, hlt, hzs, hmod, hjz]
          exact getElem!_pos zv.cells j hjz)
      refine ⟨.value (.slice (some ⟨w.heap.size, 0, none⟩) l c), .slice (some ⟨w.heap.size, 0, none⟩) l c, _, _, F, ?_, .inl rfl, ?_, hpost⟩
      · simp [execOp, hop, hlv, hcv, hrun, Result.andThen]
      · have := Rep.own (φ := φ.add tgt l (w.heap.size, c)) (F := F) tgt l w.heap.size c (by simp [Place.add])
        simpa using this
    · cases ho
  · cases ho
end Go.RM
namespace Go.RM
set_option linter.unusedVariables false
set_option linter.unusedSimpArgs false
variable {P : Program} {φ : Place} {F : Mem} {H : Heap} {w : World} {e : Env} {a : Act} {o : Oper} {tgt : Nat}
def RepL (φ : Place) (F : Mem) (cs : List PV) (arr : Array Value) : Prop :=
  cs.length = arr.size ∧ ∀ (j : Nat) (p : PV) (v : Value), cs[j]? = some p → arr[j]? = some v → Rep φ F p v
theorem setAll_get (off : Nat) : ∀ (l : List Value) (k : Nat) (arr : Array Value), off + k + l.length ≤ arr.size →
    ((l.zipIdx k).foldl (fun cs (x : Value × Nat) => cs.setIfInBounds (off + x.2) x.1) arr).size = arr.size ∧
    ∀ m, ((l.zipIdx k).foldl (fun cs (x : Value × Nat) => cs.setIfInBounds (off + x.2) x.1) arr)[m]? = if off + k ≤ m ∧ m < off + k + l.length then l[m - (off + k)]? else arr[m]?
  | [], k, arr, _ => by
    refine ⟨rfl, fun m => ?_⟩
    have : ¬ (off + k ≤ m ∧ m < off + k + ([] : List Value).length) := by
      intro h; have h1 := h.1; have h2 := h.2; simp only [List.length_nil] at h2; omega
    rw [if_neg this]
    simp only [List.zipIdx_nil, List.foldl_nil]
  | v :: l, k, arr, h => by
    simp only [List.length_cons] at h
    obtain ⟨h1, h2⟩ := setAll_get off l (k + 1) (arr.setIfInBounds (off + k) v) (by simp; omega)
    simp only [List.zipIdx_cons, List.foldl_cons]
    refine ⟨by rw [h1]; simp, fun m => ?_⟩
    rw [h2 m]
    simp only [List.length_cons]
    by_cases hm : m = off + k
    · subst hm
      rw [if_neg (by omega), if_pos (by omega)]
      simp [show off + k < arr.size by omega]
    · by_cases hin : off + (k + 1) ≤ m ∧ m < off + (k + 1) + l.length
      · rw [if_pos hin, if_pos (by omega)]
        rw [show m - (off + k) = (m - (off + (k + 1))) + 1 by omega]
        simp
      · rw [if_neg hin, if_neg (by omega)]
        rw [Array.getElem?_setIfInBounds_ne (by omega)]
theorem fill_ok (place : Nat → Option (Nat × Nat)) : ∀ (ps : List (Nat × PV)) (vs : List (Nat × Value)) (cs : List PV) (arr : Array Value) (out : List PV), RepL φ F cs arr →
    All2 (fun (x : Nat × PV) (y : Nat × Value) => x.1 = y.1 ∧ Rep φ F x.2 y.2) ps vs → fillP place cs ps = some out → ∃ arr', Instr.fill place arr vs = some arr' ∧ RepL φ F out arr'
  | [], vs, cs, arr, out, hr, hp, h => by
    cases hp
    simp only [fillP, Option.some.injEq] at h
    subst h
    exact ⟨arr, rfl, hr⟩
  | (i, p) :: ps, vs, cs, arr, out, hr, hp, h => by
    cases hp with
    | @cons _ y _ vs h1 hp =>
    obtain ⟨i', v⟩ := y
    obtain ⟨rfl, hpv⟩ := h1
    simp only [fillP, Option.bind_eq_some_iff] at h
    obtain ⟨⟨off, size⟩, hpl, h⟩ := h
    dsimp only at h hpl hpv
    split at h
    · rename_i hc
      obtain ⟨hl, hoff, hone⟩ := hc
      obtain ⟨hs, hcell⟩ := cells_rep hpv hone
      have hsz : off + 0 + v.cells.toList.length ≤ arr.size := by have := hr.1; simp; omega
      obtain ⟨g1, g2⟩ := setAll_get off v.cells.toList 0 arr hsz
      have hfold : v.cells.zipIdx.foldl (fun cs (x : Value × Nat) => cs.setIfInBounds (off + x.2) x.1) arr = (v.cells.toList.zipIdx 0).foldl (fun cs (x : Value × Nat) => cs.setIfInBounds (off + x.2) x.1) arr := by
        rw [← Array.foldl_toList]; simp
      have hnew : RepL φ F (cs.take off ++ p.cells ++ cs.drop (off + size)) ((v.cells.toList.zipIdx 0).foldl (fun cs (x : Value × Nat) => cs.setIfInBounds (off + x.2) x.1) arr) := by
        refine ⟨by rw [g1, ← hr.1]; simp; omega, fun j q u hq hu => ?_⟩
        rw [g2 j] at hu
        simp only [Nat.add_zero, Array.length_toList] at hu
        split at hu
        · rename_i hin
          rw [List.append_assoc, List.getElem?_append_right (by simp; omega), List.getElem?_append_left (by simp; omega)] at hq
          simp only [List.length_take, Nat.min_eq_left (show off ≤ cs.length by omega)] at hq
          exact hcell (j - off) q u hq (by simpa using hu)
        · rename_i hin
          rcases Nat.lt_or_ge j off with hlt | hge
          · rw [List.append_assoc, List.getElem?_append_left (by simp; omega), List.getElem?_take_of_lt hlt] at hq
            exact hr.2 j q u hq hu
          · rw [List.append_assoc, List.getElem?_append_right (by simp; omega), List.getElem?_append_right (by simp; omega), List.getElem?_drop] at hq
            simp only [List.length_take, Nat.min_eq_left (show off ≤ cs.length by omega)] at hq
            rw [show off + size + (j - off - p.cells.length) = j by omega] at hq
            exact hr.2 j q u hq hu
      obtain ⟨arr', hf, hout⟩ := fill_ok place ps vs _ _ out hnew hp h
      refine ⟨arr', ?_, hout⟩
      have hcond : ¬ (v.cells.size ≠ size ∨ off + v.cells.size > arr.size) := by have := hr.1; omega
      simp only [Instr.fill, hpl]
      rw [if_neg (by simpa using hcond), hfold]
      exact hf
    · cases h
theorem run_placesP (w : World) : ∀ (fs : List Field) (places : List (Nat × Nat)), omap (fun (f : Field) => (sizeOf? P f.type).map fun s => (f.offset, s)) fs = some places →
    (fs.mapM fun f => Prod.mk f.offset <$> sizeOf f.type).run P w = .ok places w
  | [], places, h => by simp [omap] at h; subst h; simp
  | f :: fs, places, h => by
    simp only [omap, Option.bind_eq_some_iff, Option.map_eq_some_iff] at h
    obtain ⟨_, ⟨s, hs, rfl⟩, rest, hr, rfl⟩ := h
    simp [List.mapM_cons, run_sizeOf hs, run_placesP w fs rest hr, Result.andThen]
theorem all2_parts (hr : Reps φ F e a) : ∀ (ps : List (Nat × Operand)), All2 (fun (x : Nat × PV) (y : Nat × Value) => x.1 = y.1 ∧ Rep φ F x.2 y.2) (ps.map fun x => (x.1, ev e x.2)) (ps.map fun x => (x.1, a.eval x.2))
  | [] => .nil
  | x :: ps => .cons ⟨rfl, hr.ev x.2⟩ (all2_parts hr ps)
theorem zero_rep {t : TypeId} {z : List PV} (hz : zero? P t = some z) : ∃ i zv, P.info? t = some i ∧ i.zero = some zv ∧ z = (ofV zv).cells := by
  unfold zero? at hz
  simp only [Option.map_eq_some_iff, Option.bind_eq_some_iff] at hz
  obtain ⟨zv, ⟨i, hi, hzv⟩, rfl⟩ := hz
  exact ⟨i, zv, hi, hzv, rfl⟩
theorem ofV_cells (zv : Value) : RepL φ F (ofV zv).cells zv.cells := by
  have single : (ofV zv).cells = [ofV zv] → zv.cells = #[zv] → RepL φ F (ofV zv).cells zv.cells := by
    intro h1 h2
    rw [h1, h2]
    refine ⟨rfl, fun j p v hp hv => ?_⟩
    cases j with
    | zero => simp at hp hv; subst hp hv; exact .imm (.ofV F _)
    | succ j => simp at hp
  cases zv <;> try exact single rfl rfl
  rename_i cs
  refine ⟨by simp [ofV, PV.cells, Value.cells], fun j p v hp hv => ?_⟩
  simp only [ofV, PV.cells, Value.cells, List.getElem?_map, Array.getElem?_toList, Option.map_eq_some_iff] at hp hv
  obtain ⟨x, hx, rfl⟩ := hp
  rw [hv] at hx; cases hx; exact .imm (.val _)
theorem build_ok (h : HR φ F H w) (hr : Reps φ F e a) {t : TypeId} {ps : Array (Nat × Operand)} (hop : o.op = .build t ps) {p : PV} {H1 : Heap} (ho : aop P e o H tgt = some (p, H1)) : OpOk P φ F H w a o p H1 := by
  simp only [aop, hop] at ho
  unfold doBuild at ho
  simp only [Option.bind_eq_some_iff] at ho
  obtain ⟨z, hz, ho⟩ := ho
  obtain ⟨i, zv, hi, hzv, rfl⟩ := zero_rep hz
  have hparts := all2_parts (φ := φ) (F := F) hr ps.toList
  have hz0 := ofV_cells (φ := φ) (F := F) zv
  split at ho
  · rename_i fs hu
    simp only [Option.bind_eq_some_iff, Option.map_eq_some_iff, Prod.mk.injEq] at ho
    obtain ⟨places, hpl, cs, hcs, rfl, rfl⟩ := ho
    obtain ⟨arr', hf, hl, hc⟩ := fill_ok _ _ _ _ _ _ hz0 hparts hcs
    refine .still h (v := .agg arr') ?_ (.agg _ _ hl hc)
    have hpr := run_placesP (P := P) w fs.toList places hpl
    simp [execOp, hop, Instr.build, zeroValue, typeInfo, hi, hzv, underlying, hu, Array.mapM_eq_mapM_toList, hpr, hf, Result.andThen]
  · rename_i n el hu
    simp only [Option.bind_eq_some_iff, Option.map_eq_some_iff, Prod.mk.injEq] at ho
    obtain ⟨s, hs, cs, hcs, rfl, rfl⟩ := ho
    obtain ⟨arr', hf, hl, hc⟩ := fill_ok _ _ _ _ _ _ hz0 hparts hcs
    refine .still h (v := .agg arr') ?_ (.agg _ _ hl hc)
    simp [execOp, hop, Instr.build, zeroValue, typeInfo, hi, hzv, underlying, hu, run_sizeOf hs, hf, Result.andThen]
  · cases ho
end Go.RM
namespace Go.RM
set_option linter.unusedVariables false
set_option linter.unusedSimpArgs false
variable {P : Program} {φ : Place} {F : Mem} {H : Heap} {w : World} {e : Env} {a : Act} {o : Oper} {tgt : Nat}
theorem getElem?_patch {α : Type} (l m : List α) (o j : Nat) (h : o + m.length ≤ l.length) : (l.take o ++ m ++ l.drop (o + m.length))[j]? = if o ≤ j ∧ j < o + m.length then m[j - o]? else l[j]? := by
  rw [List.append_assoc]
  have ht : (l.take o).length = o := by simp; omega
  rcases Nat.lt_or_ge j o with h1 | h1
  · rw [if_neg (by omega), List.getElem?_append_left (by omega), List.getElem?_take_of_lt h1]
  · rw [List.getElem?_append_right (by omega), ht]
    rcases Nat.lt_or_ge j (o + m.length) with h2 | h2
    · rw [if_pos ⟨h1, h2⟩, List.getElem?_append_left (by omega)]
    · rw [if_neg (by omega), List.getElem?_append_right (by omega), List.getElem?_drop]
      congr 1; omega
theorem setRow_heap {c : Nat} {arr arr1 : Array Value} {el : TypeId} (hheap : w.heap[c]? = some (.cells arr el (0, 0))) : (w.setRow c arr1).heap = w.heap.setIfInBounds c (.cells arr1 el (0, 0)) := by
  have hcl : c < w.heap.size := (Array.getElem?_eq_some_iff.1 hheap).1
  apply Array.ext_getElem?
  intro i
  simp only [World.setRow, Array.getElem?_modify, Array.getElem?_setIfInBounds]
  by_cases hi : c = i
  · subst hi
    simp [hcl]
    have : w.heap[c] = .cells arr el (0, 0) := by simpa [hcl] using hheap
    rw [this]
  · simp [hi]
theorem store_ok (h : HR φ F H w) (hr : Reps φ F e a) {t : TypeId} {x y : Operand} (hop : o.op = .store t x y) {p : PV} {H1 : Heap} (ho : aop P e o H tgt = some (p, H1)) : OpOk P φ F H w a o p H1 := by
  have hx := hr.ev x
  have hy := hr.ev y
  simp only [aop, hop] at ho
  split at ho
  · rename_i hs
    simp only [Option.map_eq_some_iff, Prod.mk.injEq] at ho
    obtain ⟨H', hwr, rfl, rfl⟩ := ho
    unfold wr at hwr
    split at hwr
    · rename_i b n sz i off hev
      rw [hev] at hx
      simp only [Option.bind_eq_some_iff] at hwr
      obtain ⟨k, hk, hwr⟩ := hwr
      split at hwr
      · rename_i hcnd
        obtain ⟨rfl, rfl, hoff, hfr, hone⟩ := hcnd
        simp only [Option.map_eq_some_iff] at hwr
        obtain ⟨x0, hx0, rfl⟩ := hwr
        obtain ⟨hvs, hcell⟩ := cells_rep hy hone
        obtain ⟨c, cap, hφ, hv⟩ := hx.ptr_inv
        have hB := h.blk b k hk
        have hil : i < k.es.length := (List.getElem?_eq_some_iff.1 hx0).1
        have hx0l : x0.length = k.sz := hB.uni x0 (List.mem_of_getElem? hx0)
        rcases hB.at_ with ⟨h0, -⟩ | ⟨hpos, hmp, c', cap', hφ', arr, el, hheap, h1, h2, h3, h4, h5⟩ | ⟨_, h0, _⟩
        · rw [h0] at hil; simp at hil
        case inr.inr => rw [h0] at hil; simp at hil
        rw [hφ] at hφ'; cases hφ'
        have hvl : (a.eval y).cells.toList.length = (ev e y).cells.length := by simpa using hvs
        have hfit : i * k.sz + off + (a.eval y).cells.toList.length ≤ arr.size := by
          have : (i + 1) * k.sz ≤ cap * k.sz := Nat.mul_le_mul_right _ (by omega)
          rw [Nat.add_mul] at this; omega
        have hones : ∀ v ∈ (a.eval y).cells.toList, v.oneCell' = true := by
          intro v hv
          obtain ⟨j, hj⟩ := List.getElem?_of_mem hv
          have hjl : j < (ev e y).cells.length := by rw [← hvl]; exact (List.getElem?_eq_some_iff.1 hj).1
          have hp : (ev e y).cells[j]? = some (ev e y).cells[j] := by simp [hjl]
          exact (hcell j _ v hp (by simpa using hj)).one (List.all_eq_true.1 hone _ (List.mem_of_getElem? hp))
        have hst := run_storeCells_at P c (i * k.sz + off) el (a.eval y).cells.toList 0 arr w hheap (by simpa using hfit) hones
        simp only [Nat.add_zero] at hst
        have hpost := Post.change (w1 := w.setRow c (arr.toList.take (i * k.sz + off) ++ (a.eval y).cells.toList ++ arr.toList.drop (i * k.sz + off + (a.eval y).cells.toList.length)).toArray)
          (k1 := { k with es := k.es.set i (x0.take off ++ (ev e y).cells ++ x0.drop (off + (ev e y).cells.length)) }) h hk hφ hheap (setRow_heap hheap) rfl rfl rfl (by simp) rfl hpos hmp rfl (by simp only [List.size_toArray, List.length_append, List.length_take, List.length_drop, Array.length_toList]; simp only [Array.length_toList] at hfit; omega) (by simpa using h1) h3 h2
          (fun x hx => by
            rcases List.mem_or_eq_of_mem_set hx with hx | rfl
            · exact hB.uni x hx
            · simp; omega) h4 (fun j hj => by
            rw [List.getElem?_toArray, getElem?_patch _ _ _ _ (by simpa using hfit), if_neg, Array.getElem?_toList]
            have : k.frozen * k.sz ≤ i * k.sz := Nat.mul_le_mul_right _ hfr
            omega) (fun i' j x q hx hq => by
            simp only at hx ⊢
            have hpat : ∀ m, (arr.toList.take (i * k.sz + off) ++ (a.eval y).cells.toList ++ arr.toList.drop (i * k.sz + off + (a.eval y).cells.toList.length)).toArray[m]? = if i * k.sz + off ≤ m ∧ m < i * k.sz + off + (a.eval y).cells.toList.length then (a.eval y).cells.toList[m - (i * k.sz + off)]? else arr.toList[m]? := by
              intro m
              rw [List.getElem?_toArray]
              exact getElem?_patch _ _ _ _ (by simpa using hfit)
            rw [hpat]
            rw [hvl]
            by_cases hi : i' = i
            · subst hi
              rw [List.getElem?_set_self hil] at hx
              cases hx
              rw [getElem?_patch _ _ _ _ (by omega)] at hq
              split at hq
              · rename_i hin
                rw [if_pos (by omega)]
                have hjl : i' * k.sz + j - (i' * k.sz + off) = j - off := by omega
                rw [hjl]
                have hj2 : j - off < (a.eval y).cells.toList.length := by omega
                have hu : (a.eval y).cells[j - off]? = some ((a.eval y).cells.toList[j - off]) := by
                  rw [← Array.getElem?_toList]; simp [hj2]
                have hr := hcell (j - off) q _ hq hu
                exact ⟨_, by simp [hj2], hr.one (List.all_eq_true.1 hone q (List.mem_of_getElem? hq)), hr⟩
              · rename_i hin
                rw [if_neg (by omega)]
                obtain ⟨v, hv, h6, h7⟩ := h5 i' j x0 q hx0 hq
                exact ⟨v, by simpa using hv, h6, h7⟩
            · rw [List.getElem?_set_ne (Ne.symm hi)] at hx
              have hxl : x.length = k.sz := hB.uni x (List.mem_of_getElem? hx)
              have hj : j < k.sz := by rw [← hxl]; exact (List.getElem?_eq_some_iff.1 hq).1
              rw [if_neg ?_]
              · obtain ⟨v, hv, h6, h7⟩ := h5 i' j x q hx hq
                exact ⟨v, by simpa using hv, h6, h7⟩
              · rcases Nat.lt_or_ge i' i with hlt | hge
                · have : (i' + 1) * k.sz ≤ i * k.sz := Nat.mul_le_mul_right _ (by omega)
                  rw [Nat.add_mul] at this; omega
                · have : (i + 1) * k.sz ≤ i' * k.sz := Nat.mul_le_mul_right _ (by omega)
                  rw [Nat.add_mul] at this; omega)
        refine ⟨_, _, _, _, _, ?_, .inr ⟨rfl, rfl⟩, .imm (.undef _), hpost⟩
        have hsz2 : (a.eval y).cells.size = (ev e y).cells.length := hvs
        simp [execOp, hop, hv, Instr.storeAt, Instr.sureAddr, storeVar, run_sizeOf hs, hsz2, hst, Result.andThen]
      · cases hwr
    · cases hwr
  · cases ho
end Go.RM
namespace Go.RM
set_option linter.unusedVariables false
set_option linter.unusedSimpArgs false
variable {P : Program} {φ : Place} {F : Mem} {H : Heap} {w : World} {e : Env} {a : Act} {o : Oper} {tgt : Nat}
theorem cells_list {es : List (List PV)} {size off c : Nat} {arr : Array Value} {el : TypeId} {fr : Nat × Nat} (hpos : 0 < size) (hheap : w.heap[c]? = some (.cells arr el fr)) (huni : ∀ e ∈ es, e.length = size)
    (hat : ∀ (i j : Nat) (e : List PV) (p : PV), es[i]? = some e → e[j]? = some p → ∃ u, arr[off + i * size + j]? = some u ∧ u.oneCell' = true ∧ Rep φ F p u) :
    ∃ vs : List Value, vs.length = es.length * size ∧ (∀ (j : Nat) (u : Value), vs[j]? = some u → w.cell? ((⟨c, off, none⟩ : Addr).add j) = some u) ∧ (∀ u ∈ vs, u.oneCell' = true) ∧
      ∀ (i j : Nat) (e : List PV) (p : PV), es[i]? = some e → e[j]? = some p → ∃ u, vs[i * size + j]? = some u ∧ u.oneCell' = true ∧ Rep φ F p u := by
  have key : ∀ m, m < es.length * size → ∃ (e : List PV) (p : PV), es[m / size]? = some e ∧ e[m % size]? = some p ∧ off + m / size * size + m % size = off + m := by
    intro m hm
    have h1 : m / size < es.length := Nat.div_lt_of_lt_mul (by rwa [Nat.mul_comm] at hm)
    have h2 : m % size < size := Nat.mod_lt _ hpos
    have h3 : (es[m / size]).length = size := huni _ (List.getElem_mem h1)
    refine ⟨es[m / size], (es[m / size])[m % size]'(by omega), by simp [h1], by simp [h3, h2], ?_⟩
    have := Nat.div_add_mod m size
    rw [Nat.mul_comm] at this; omega
  have hget : ∀ m, m < es.length * size → ∃ u, arr[off + m]? = some u ∧ u.oneCell' = true ∧ ((List.range (es.length * size)).map fun m => arr.getD (off + m) undef)[m]? = some u := by
    intro m hm
    obtain ⟨e, p, h1, h2, h3⟩ := key m hm
    obtain ⟨u, hu, hone, _⟩ := hat _ _ e p h1 h2
    rw [h3] at hu
    refine ⟨u, hu, hone, ?_⟩
    simp only [List.getElem?_map, List.getElem?_range hm, Option.map_some]
    simp [hu]
  refine ⟨(List.range (es.length * size)).map fun m => arr.getD (off + m) undef, by simp, fun j u hu => ?_, fun u hu => ?_, fun i j e p he hp => ?_⟩
  · have hj : j < es.length * size := by
      have := (List.getElem?_eq_some_iff.1 hu).1
      simpa using this
    obtain ⟨u', h1, -, h2⟩ := hget j hj
    rw [hu] at h2; cases h2
    rw [Addr.add_none, cell_of hheap]; exact h1
  · obtain ⟨j, hj⟩ := List.getElem?_of_mem hu
    have hjl : j < es.length * size := by
      have := (List.getElem?_eq_some_iff.1 hj).1
      simpa using this
    obtain ⟨u', -, h1, h2⟩ := hget j hjl
    rw [hj] at h2; cases h2; exact h1
  · have hi : i < es.length := (List.getElem?_eq_some_iff.1 he).1
    have hj : j < size := by
      rw [← huni e (List.mem_of_getElem? he)]; exact (List.getElem?_eq_some_iff.1 hp).1
    have hm : i * size + j < es.length * size := by
      have : (i + 1) * size ≤ es.length * size := Nat.mul_le_mul_right _ (by omega)
      rw [Nat.add_mul] at this; omega
    obtain ⟨u, hu, hone, hrep⟩ := hat i j e p he hp
    obtain ⟨u', h1, -, h2⟩ := hget _ hm
    rw [show off + (i * size + j) = off + i * size + j by omega, hu] at h1
    cases h1
    exact ⟨u, h2, hone, hrep⟩
theorem elems_cells (h : HR φ F H w) {x : PV} {v : Value} {es : List (List PV)} (hx : Rep φ F x v) (he : elems H x = some es) {size : Nat} (hpos : 0 < size) (hall : ∀ e ∈ es, e.length = size) :
    (es = [] ∧ ∃ ad cap, v = .slice ad 0 cap) ∨ ∃ (c off cap : Nat) (vs : List Value), v = .slice (some ⟨c, off, none⟩) es.length cap ∧ vs.length = es.length * size ∧
      (∀ (j : Nat) (u : Value), vs[j]? = some u → w.cell? ((⟨c, off, none⟩ : Addr).add j) = some u) ∧ (∀ u ∈ vs, u.oneCell' = true) ∧
      ∀ (i j : Nat) (e : List PV) (p : PV), es[i]? = some e → e[j]? = some p → ∃ u, vs[i * size + j]? = some u ∧ u.oneCell' = true ∧ Rep φ F p u := by
  by_cases hne : es = []
  · obtain ⟨ad, cap, hv⟩ := elems_len h hx he
    subst hne
    exact .inl ⟨rfl, ad, cap, hv⟩
  obtain ⟨x0, hx0⟩ := List.exists_mem_of_ne_nil es hne
  right
  unfold elems at he
  split at he
  · cases he
    rcases hx.rows_inv with ⟨h0, -⟩ | ⟨c, off, cap, sz, f, hv, huni, hat, himm, -⟩
    · exact absurd h0 hne
    have hsz : sz = size := by rw [← huni x0 hx0, hall x0 hx0]
    subst hsz
    obtain ⟨p0, hp0⟩ : ∃ p0, x0[0]? = some p0 := by
      have := huni x0 hx0
      exact ⟨x0[0]'(by omega), by simp [show 0 < x0.length by omega]⟩
    obtain ⟨i0, hi0⟩ := List.getElem?_of_mem hx0
    obtain ⟨arr, el, fr, hheap, -⟩ := h.mem c _ _ (hat i0 0 x0 p0 hi0 hp0).1
    obtain ⟨vs, h1, h2, h3, h4⟩ := cells_list (φ := φ) (F := F) (w := w) hpos hheap huni (fun i j e p he hp => by
      obtain ⟨arr', el', fr', hheap', hv'⟩ := h.mem c _ _ (hat i j e p he hp).1
      rw [hheap] at hheap'; cases hheap'
      exact ⟨_, hv', (hat i j e p he hp).2, .imm (himm i j e p he hp)⟩)
    exact ⟨c, off, cap, vs, hv, h1, h2, h3, h4⟩
  · simp only [Option.bind_eq_some_iff] at he
    obtain ⟨k, hk, he⟩ := he
    split at he
    · rename_i b n hn
      cases he
      subst hn
      have hB := h.blk _ k hk
      have hsz : k.sz = size := by rw [← hB.uni x0 hx0, hall x0 hx0]
      rcases hx.own_inv with ⟨h0, -⟩ | ⟨c, cap, hφ, hv⟩
      · exact absurd (List.eq_nil_of_length_eq_zero h0) hne
      rcases hB.at_ with ⟨h0, -⟩ | ⟨_, _, c', cap', hφ', arr, el, hheap, h1, h2, h3, h4, h5⟩ | ⟨_, h0, _⟩
      · exact absurd h0 hne
      case inr.inr => exact absurd h0 hne
      rw [hφ] at hφ'; cases hφ'
      subst hsz
      obtain ⟨vs, g1, g2, g3, g4⟩ := cells_list (φ := φ) (F := F) (w := w) (off := 0) hpos hheap hall (fun i j e p he hp => by simpa using h5 i j e p he hp)
      exact ⟨c, 0, cap, vs, hv, g1, g2, g3, g4⟩
    · cases he
  · cases he; exact absurd rfl hne
  · cases he; exact absurd rfl hne
  · cases he
end Go.RM
namespace Go.RM
set_option linter.unusedVariables false
set_option linter.unusedSimpArgs false
variable {P : Program} {φ : Place} {F : Mem} {H : Heap} {w : World} {e : Env} {a : Act} {o : Oper} {tgt : Nat}
theorem run_append_here (t ty e el : TypeId) (i : TypeInfo) (ht : P.underlying t = some (.slice e)) (hi : P.info? e = some i)
    (g sLen sCap : Nat) (cur : Array Value) (hg : w.heap[g]? = some (.cells cur el (0, 0)))
    (ad : Addr) (m c : Nat) (news : List Value) (hl : news.length = m * i.size) (hnews : ∀ j u, news[j]? = some u → w.cell? (ad.add j) = some u) (h1 : ∀ u ∈ news, u.oneCell' = true)
    (hroom : sLen + m ≤ sCap) (hfit : sLen * i.size + news.length ≤ cur.size) :
    (Builtin.append_ #[t, t] ty #[.slice (some ⟨g, 0, none⟩) sLen sCap, .slice (some ad) m c]).run P w =
      .ok (.slice (some ⟨g, 0, none⟩) (sLen + m) sCap) (w.setRow g (cur.toList.take (sLen * i.size) ++ news ++ cur.toList.drop (sLen * i.size + news.length)).toArray) := by
  have hf := run_firstCells_some (P := P) w i.size m ad m c news hl hnews
  have hst := run_storeCells_at P g (sLen * i.size) el news 0 cur w hg (by simpa using hfit) h1
  simp only [Nat.add_zero] at hst
  simp [Builtin.append_, underlying, ht, sizeOf, typeInfo, hi, Builtin.lenOf, hroom, hf, Addr.add_none, hst, Result.andThen]
theorem run_append_none (t ty e : TypeId) (i : TypeInfo) (ht : P.underlying t = some (.slice e)) (hi : P.info? e = some i) (base : Option Addr) (n cap : Nat) (hn : n ≤ cap) (ad : Option Addr) (c : Nat) (w : World) :
    (Builtin.append_ #[t, t] ty #[.slice base n cap, .slice ad 0 c]).run P w = .ok (.slice base n cap) w := by
  cases base <;> cases ad <;> simp [Builtin.append_, underlying, ht, sizeOf, typeInfo, hi, Builtin.lenOf, Builtin.firstCells, loadCells, loadCellsFrom, storeCells, hn, Result.andThen]
theorem run_append_nocap (w : World) (t ty e : TypeId) (i : TypeInfo) (z : Value) (ht : P.underlying t = some (.slice e)) (hi : P.info? e = some i) (hz : i.zero = some z) (ad0 : Option Addr)
    (a : Addr) (n c : Nat) (news : List Value) (hl : news.length = n * i.size) (hnews : ∀ j v, news[j]? = some v → w.cell? (a.add j) = some v)
    (h0 : 0 < n) (h63 : (n : Int) ≤ 9223372036854775807) (h48 : n * i.bytes ≤ 281474976710656) :
    (Builtin.append_ #[t, t] ty #[.slice ad0 0 0, .slice (some a) n c]).run P w =
      .ok (.slice (some ⟨w.heap.size, 0, none⟩) n (grownCap w n 0 e)) (w.drew.alloc (.cells (news.toArray ++ Builtin.zeroCells z.cells (grownCap w n 0 e - n)) e)) := by
  cases ad0 with
  | none => exact run_append_nil (P := P) w t ty e i z ht hi hz a n c news hl hnews h0 h63 h48
  | some a0 =>
    have hr := run_append_grow (P := P) w t ty e i z ht hi hz a0 0 0 [] (by simp) (by simp) a n c news hl hnews (by omega) (by omega) (by rw [Nat.zero_add, nextslicecap_zero h0]; omega)
    simpa using hr
theorem joined_cells {size n : Nat} {es news : List (List PV)} {xs vs : List Value} {rest : List Value} (hx : xs.length = es.length * size)
    (h1 : ∀ (i j : Nat) (e : List PV) (p : PV), es[i]? = some e → e[j]? = some p → ∃ u, xs[i * size + j]? = some u ∧ u.oneCell' = true ∧ Rep φ F p u)
    (h2 : ∀ (i j : Nat) (e : List PV) (p : PV), news[i]? = some e → e[j]? = some p → ∃ u, vs[i * size + j]? = some u ∧ u.oneCell' = true ∧ Rep φ F p u) :
    ∀ (i j : Nat) (e : List PV) (p : PV), (es ++ news)[i]? = some e → e[j]? = some p → ∃ u, (xs ++ vs ++ rest)[i * size + j]? = some u ∧ u.oneCell' = true ∧ Rep φ F p u := by
  intro i j e p he hp
  rcases Nat.lt_or_ge i es.length with hlt | hge
  · rw [List.getElem?_append_left hlt] at he
    obtain ⟨u, hu, h3, h4⟩ := h1 i j e p he hp
    have := (List.getElem?_eq_some_iff.1 hu).1
    exact ⟨u, by rw [List.append_assoc, List.getElem?_append_left this]; exact hu, h3, h4⟩
  · rw [List.getElem?_append_right hge] at he
    obtain ⟨u, hu, h3, h4⟩ := h2 _ j e p he hp
    have hv := (List.getElem?_eq_some_iff.1 hu).1
    have hm : i * size + j = xs.length + ((i - es.length) * size + j) := by
      rw [hx, Nat.sub_mul]
      have : es.length * size ≤ i * size := Nat.mul_le_mul_right _ hge
      omega
    refine ⟨u, ?_, h3, h4⟩
    rw [List.append_assoc, hm, List.getElem?_append_right (by omega), Nat.add_sub_cancel_left, List.getElem?_append_left hv]
    exact hu
theorem append_run (h : HR φ F H w) {t ty el : TypeId} {i : TypeInfo} {z : Value} (ht : P.underlying t = some (.slice el)) (hi : P.info? el = some i) (hz : i.zero = some z) (hzs : z.cells.size = i.size) (hpos : 0 < i.size)
    {s x : PV} {sv xv : Value} (hs : Rep φ F s sv) (hx : Rep φ F x xv) {news : List (List PV)} (hnews : elems H x = some news) {p : PV} {H1 : Heap} (ho : doAppend P t s news H tgt = some (p, H1)) :
    ∃ v w1 φ1 F1, (Builtin.append_ #[t, t] ty #[sv, xv]).run P w = .ok v w1 ∧ Rep φ1 F1 p v ∧ Post φ F H w φ1 F1 H1 w1 := by
  unfold doAppend at ho
  rw [ht] at ho
  simp only [hi, Option.bind_some] at ho
  split at ho
  · rename_i hc
    obtain ⟨-, hall, -, -⟩ := hc
    have hall' : ∀ x ∈ news, x.length = i.size := fun x hx => by simpa using List.all_eq_true.1 hall x hx
    have hE := elems_cells h hx hnews hpos hall'
    split at ho
    · have hsv := hs.val_inv
      subst hsv
      split at ho
      · rename_i h0
        cases ho
        have hn : news = [] := List.eq_nil_of_length_eq_zero h0
        subst hn
        rcases hE with ⟨-, ad, cap, rfl⟩ | ⟨c, off, cap, vs, hv, -⟩
        · exact ⟨_, w, φ, F, run_append_none (P := P) t ty el i ht hi none 0 0 (Nat.le_refl _) ad cap w, .imm (.val _), .refl h⟩
        · subst hv
          exact ⟨_, w, φ, F, run_append_none (P := P) t ty el i ht hi none 0 0 (Nat.le_refl _) _ cap w, .imm (.val _), .refl h⟩
      · rename_i h0
        split at ho
        · rename_i hb
          simp only [Option.map_eq_some_iff, Prod.mk.injEq] at ho
          obtain ⟨H1', hfill, rfl, rfl⟩ := ho
          obtain ⟨hhole, rfl⟩ := Heap.fill_some hfill
          rcases hE with ⟨h1, -⟩ | ⟨c, off, cap, vs, rfl, hl, hcell, hone, hat⟩
          · subst h1; simp at h0
          have h63 : ((news.length : Nat) : Int) ≤ 9223372036854775807 := by have := hb.2; simp only [maxLen] at this; omega
          have hr := run_append_nil (P := P) w t ty el i z ht hi hz ⟨c, off, none⟩ news.length cap vs hl hcell (by omega) h63 (by have := hb.1; omega)
          have hge := grownCap_ge w news.length 0 el
          have hcm := grownCap_le_maxLen w news.length 0 el hb.2
          have hj := joined_cells (φ := φ) (F := F) (n := 0) (es := []) (news := news) (xs := []) (vs := vs) (size := i.size) (rest := (Builtin.zeroCells z.cells (grownCap w news.length 0 el - news.length)).toList) (by simp) (by intro i j e p h; simp at h) hat
          have hpost := Post.move (w1 := w.drew.alloc (.cells (vs.toArray ++ Builtin.zeroCells z.cells (grownCap w news.length 0 el - news.length)) el)) (k1 := ⟨i.size, news, 0, none⟩) (cap := grownCap w news.length 0 el) h hhole rfl rfl rfl rfl
            (.inr rfl) hpos rfl hge (by
              simp only [Array.size_append, List.size_toArray, size_zeroCells, hzs, hl, ← Nat.add_mul]
              congr 1; omega) hcm hall' (fun i' j x q hx hq => by
              obtain ⟨u, hu, h3, h4⟩ := hj i' j x q (by simpa using hx) hq
              exact ⟨u, by rw [← Array.getElem?_toList]; simpa using hu, h3, h4⟩)
          exact ⟨_, _, _, F, hr, .own tgt news.length w.heap.size _ (by simp [Place.add]), hpost⟩
        · cases ho
    · obtain ⟨ad0, hsv⟩ := hs.nocap_inv
      subst hsv
      split at ho
      · rename_i h0
        cases ho
        have hn : news = [] := List.eq_nil_of_length_eq_zero h0
        subst hn
        rcases hE with ⟨-, ad, cap, rfl⟩ | ⟨c, off, cap, vs, hv, -⟩
        · exact ⟨_, w, φ, F, run_append_none (P := P) t ty el i ht hi ad0 0 0 (Nat.le_refl _) ad cap w, .imm (.nocap _), .refl h⟩
        · subst hv
          exact ⟨_, w, φ, F, run_append_none (P := P) t ty el i ht hi ad0 0 0 (Nat.le_refl _) _ cap w, .imm (.nocap _), .refl h⟩
      · rename_i h0
        split at ho
        · rename_i hb
          simp only [Option.map_eq_some_iff, Prod.mk.injEq] at ho
          obtain ⟨H1', hfill, rfl, rfl⟩ := ho
          obtain ⟨hhole, rfl⟩ := Heap.fill_some hfill
          rcases hE with ⟨h1, -⟩ | ⟨c, off, cap, vs, rfl, hl, hcell, hone, hat⟩
          · subst h1; simp at h0
          have h63 : ((news.length : Nat) : Int) ≤ 9223372036854775807 := by have := hb.2; simp only [maxLen] at this; omega
          have hr := run_append_nocap (P := P) w t ty el i z ht hi hz ad0 ⟨c, off, none⟩ news.length cap vs hl hcell (by omega) h63 (by have := hb.1; omega)
          have hge := grownCap_ge w news.length 0 el
          have hcm := grownCap_le_maxLen w news.length 0 el hb.2
          have hj := joined_cells (φ := φ) (F := F) (n := 0) (es := []) (news := news) (xs := []) (vs := vs) (size := i.size) (rest := (Builtin.zeroCells z.cells (grownCap w news.length 0 el - news.length)).toList) (by simp) (by intro i j e p h; simp at h) hat
          have hpost := Post.move (w1 := w.drew.alloc (.cells (vs.toArray ++ Builtin.zeroCells z.cells (grownCap w news.length 0 el - news.length)) el)) (k1 := ⟨i.size, news, 0, none⟩) (cap := grownCap w news.length 0 el) h hhole rfl rfl rfl rfl
            (.inr rfl) hpos rfl hge (by
              simp only [Array.size_append, List.size_toArray, size_zeroCells, hzs, hl, ← Nat.add_mul]
              congr 1; omega) hcm hall' (fun i' j x q hx hq => by
              obtain ⟨u, hu, h3, h4⟩ := hj i' j x q (by simpa using hx) hq
              exact ⟨u, by rw [← Array.getElem?_toList]; simpa using hu, h3, h4⟩)
          exact ⟨_, _, _, F, hr, .own tgt news.length w.heap.size _ (by simp [Place.add]), hpost⟩
        · cases ho
    · rename_i b n
      simp only [Option.bind_eq_some_iff] at ho
      obtain ⟨k, hk, ho⟩ := ho
      split at ho
      · rename_i hcond
        obtain ⟨rfl, hsz, hmp0, hfz, hbytes, hmax⟩ := hcond
        have hmp : k.mp = none := by simpa using hmp0
        cases ho
        have hB := h.blk b k hk
        have hbl : b < H.length := (List.getElem?_eq_some_iff.1 hk).1
        have hset : news = [] → H.set b { k with es := k.es ++ news } = H := by
          intro hn
          subst hn
          simp only [List.append_nil]
          apply List.ext_getElem?
          intro j
          by_cases hj : b = j
          · subst hj; rw [List.getElem?_set_self hbl, hk]
          · rw [List.getElem?_set_ne hj]
        have huni : ∀ x ∈ k.es ++ news, x.length = k.sz := by
          intro x hx
          rcases List.mem_append.1 hx with hx | hx
          · exact hB.uni x hx
          · rw [hall' x hx, hsz]
        have h63 : ∀ m : Nat, m ≤ maxLen → ((m : Nat) : Int) ≤ 9223372036854775807 := by intro m hm; simp only [maxLen] at hm; omega
        rcases hs.own_inv with ⟨h0, rfl⟩ | ⟨c0, cap0, hφ, rfl⟩
        · have hes : k.es = [] := List.eq_nil_of_length_eq_zero h0
          rcases hE with ⟨hn, ad, cap, rfl⟩ | ⟨c, off, cap, vs, rfl, hl, hcell, hone, hat⟩
          · rw [hset hn, hn]
            refine ⟨_, w, φ, F, run_append_none (P := P) t ty el i ht hi none 0 0 (Nat.le_refl _) ad cap w, ?_, .refl h⟩
            simpa [h0] using Rep.own0 (φ := φ) (F := F) b
          · by_cases hn : news = []
            · rw [hset hn]
              subst hn
              refine ⟨_, w, φ, F, run_append_none (P := P) t ty el i ht hi none 0 0 (Nat.le_refl _) _ cap w, ?_, .refl h⟩
              simpa [h0] using Rep.own0 (φ := φ) (F := F) b
            · have hnl : 0 < news.length := List.length_pos_iff.2 hn
              rw [h0, Nat.zero_add] at hmax hbytes ⊢
              have hr := run_append_nil (P := P) w t ty el i z ht hi hz ⟨c, off, none⟩ news.length cap vs hl hcell hnl (h63 _ hmax) (by omega)
              have hge := grownCap_ge w news.length 0 el
              have hcm := grownCap_le_maxLen w news.length 0 el hmax
              have hj := joined_cells (φ := φ) (F := F) (n := 0) (es := []) (news := news) (xs := []) (vs := vs) (size := i.size) (rest := (Builtin.zeroCells z.cells (grownCap w news.length 0 el - news.length)).toList) (by simp) (by intro i j e p h; simp at h) hat
              have hpost := Post.move (w1 := w.drew.alloc (.cells (vs.toArray ++ Builtin.zeroCells z.cells (grownCap w news.length 0 el - news.length)) el)) (k1 := { k with es := k.es ++ news }) (cap := grownCap w news.length 0 el) h hk rfl rfl rfl rfl
                (.inl (by simp; omega)) (by rw [hsz]; exact hpos) hmp (by simpa [hes] using hge) (by
                  simp only [Array.size_append, List.size_toArray, size_zeroCells, hzs, hl, ← Nat.add_mul, hsz]
                  congr 1; omega) hcm huni (fun i' j x q hx hq => by
                  obtain ⟨u, hu, h3, h4⟩ := hj i' j x q (by simpa [hes] using hx) hq
                  exact ⟨u, by rw [← Array.getElem?_toList]; simpa [hsz] using hu, h3, h4⟩)
              exact ⟨_, _, _, F, hr, .own b news.length w.heap.size _ (by simp [Place.add, hes]), hpost⟩
        · rcases hB.at_ with ⟨hes, _, hno⟩ | ⟨_, _, c', cap', hφ', arr, el', hheap, h1, h2, h3, h4, h5⟩ | ⟨_, _, l', c', cap', hm', _⟩
          · rw [hes] at hφ; simp only [List.length_nil] at hφ; rw [hno] at hφ; cases hφ
          case inr.inr => rw [hmp] at hm'; cases hm'
          rw [hφ] at hφ'; cases hφ'
          rcases hE with ⟨hn, ad, cap, rfl⟩ | ⟨c, off, cap, vs, rfl, hl, hcell, hone, hat⟩
          · rw [hset hn, hn]
            refine ⟨_, w, φ, F, run_append_none (P := P) t ty el i ht hi _ _ cap0 h1 ad cap w, ?_, .refl h⟩
            simpa using Rep.own (φ := φ) (F := F) b k.es.length c0 cap0 hφ
          · have hnsz : k.es.length * k.sz ≤ arr.size := by rw [h3]; exact Nat.mul_le_mul_right _ h1
            have hxl : (arr.toList.take (k.es.length * k.sz)).length = k.es.length * i.size := by
              rw [List.length_take, Array.length_toList, Nat.min_eq_left hnsz, hsz]
            have hold : ∀ (i' j : Nat) (e : List PV) (p : PV), k.es[i']? = some e → e[j]? = some p → ∃ u, (arr.toList.take (k.es.length * k.sz))[i' * i.size + j]? = some u ∧ u.oneCell' = true ∧ Rep φ F p u := by
              intro i' j e p he hp
              obtain ⟨u, hu, h6, h7⟩ := h5 i' j e p he hp
              have hi' : i' < k.es.length := (List.getElem?_eq_some_iff.1 he).1
              have hj : j < k.sz := by rw [← hB.uni e (List.mem_of_getElem? he)]; exact (List.getElem?_eq_some_iff.1 hp).1
              have hm : i' * k.sz + j < k.es.length * k.sz := by
                have : (i' + 1) * k.sz ≤ k.es.length * k.sz := Nat.mul_le_mul_right _ (by omega)
                rw [Nat.add_mul] at this; omega
              refine ⟨u, ?_, h6, h7⟩
              rw [← hsz, List.getElem?_take_of_lt hm, Array.getElem?_toList]; exact hu
            by_cases hroom : k.es.length + news.length ≤ cap0
            · have hfit : k.es.length * i.size + vs.length ≤ arr.size := by rw [hl, h3, hsz, ← Nat.add_mul]; exact Nat.mul_le_mul_right _ hroom
              have hr := run_append_here (P := P) t ty el el' i ht hi c0 k.es.length cap0 arr hheap ⟨c, off, none⟩ news.length cap vs hl hcell hone hroom hfit
              have hj := joined_cells (φ := φ) (F := F) (n := 0) (rest := arr.toList.drop (k.es.length * i.size + vs.length)) hxl hold hat
              rw [hsz] at hj
              have hpost := Post.change (w1 := w.setRow c0 (arr.toList.take (k.es.length * i.size) ++ vs ++ arr.toList.drop (k.es.length * i.size + vs.length)).toArray) (k1 := { k with es := k.es ++ news }) h hk hφ hheap (setRow_heap hheap) rfl rfl rfl
                (by simp) rfl (by rw [hsz]; exact hpos) hmp rfl (by
                  rw [List.size_toArray, List.length_append, List.length_append, List.length_take, List.length_drop, Array.length_toList]; omega) (by simpa using hroom) h3 h2 huni h4 (fun j hj => by
                  have hm : k.frozen * k.sz ≤ k.es.length * k.sz := Nat.mul_le_mul_right _ hfz
                  have hj' : j < k.es.length * i.size := by rw [← hsz]; omega
                  have hl' : (arr.toList.take (k.es.length * i.size)).length = k.es.length * i.size := by rw [← hsz] at hxl ⊢; exact hxl
                  rw [List.getElem?_toArray, List.append_assoc, List.getElem?_append_left (by rw [hl']; exact hj'), List.getElem?_take_of_lt hj', Array.getElem?_toList]) (fun i' j x q hx hq => by
                  obtain ⟨u, hu, h6, h7⟩ := hj i' j x q hx hq
                  exact ⟨u, by rw [List.getElem?_toArray]; simp only [hsz]; exact hu, h6, h7⟩)
              exact ⟨_, _, _, F, hr, .own b _ c0 cap0 (by simp [Place.add]), hpost⟩
            · have hcells : ∀ j u, (arr.toList.take (k.es.length * k.sz))[j]? = some u → w.cell? ((⟨c0, 0, none⟩ : Addr).add j) = some u := by
                intro j u hu
                rw [Addr.add_none, cell_of hheap, Nat.zero_add]
                rw [List.getElem?_take] at hu
                split at hu
                · simpa using hu
                · cases hu
              have hr := run_append_grow (P := P) w t ty el i z ht hi hz ⟨c0, 0, none⟩ k.es.length cap0 _ hxl hcells ⟨c, off, none⟩ news.length cap vs hl hcell (by omega) (h63 _ hmax) (growslice_fits (by omega) hbytes)
              have hge := grownCap_ge w (k.es.length + news.length) cap0 el
              have hcm := grownCap_le_maxLen w (k.es.length + news.length) cap0 el hmax
              have hj := joined_cells (φ := φ) (F := F) (n := 0) (rest := (Builtin.zeroCells z.cells (grownCap w (k.es.length + news.length) cap0 el - (k.es.length + news.length))).toList) hxl hold hat
              have hpost := Post.move (w1 := w.drew.alloc (.cells ((arr.toList.take (k.es.length * k.sz)).toArray ++ vs.toArray ++ Builtin.zeroCells z.cells (grownCap w (k.es.length + news.length) cap0 el - (k.es.length + news.length))) el)) (k1 := { k with es := k.es ++ news }) (cap := grownCap w (k.es.length + news.length) cap0 el) h hk rfl rfl rfl rfl
                (.inl (by simp only [List.length_append]; omega)) (by rw [hsz]; exact hpos) hmp (by simpa using hge) (by
                  rw [Array.size_append, Array.size_append, List.size_toArray, List.size_toArray, size_zeroCells, hxl, hl, hzs]
                  simp only [hsz]
                  rw [← Nat.add_mul, ← Nat.add_mul]
                  congr 1; omega) hcm huni (fun i' j x q hx hq => by
                  obtain ⟨u, hu, h6, h7⟩ := hj i' j x q hx hq
                  exact ⟨u, by rw [← Array.getElem?_toList]; simpa [hsz] using hu, h6, h7⟩)
              exact ⟨_, _, _, F, hr, .own b _ w.heap.size _ (by simp [Place.add]), hpost⟩
      · cases ho
    · cases ho
  · cases ho
theorem append_ok (h : HR φ F H w) (hr : Reps φ F e a) {args : Array Operand} {tys : Array TypeId} (hop : o.op = .call { callee := .builtin .append, args := args, argTypes := tys }) {p : PV} {H1 : Heap} (ho : aop P e o H tgt = some (p, H1)) : OpOk P φ F H w a o p H1 := by
  simp only [aop, hop] at ho
  split at ho
  · rename_i s x t u hx ht
    obtain ⟨args⟩ := args
    obtain ⟨tys⟩ := tys
    simp only at hx ht
    subst hx ht
    split at ho
    · rename_i htu
      subst htu
      simp only [Option.bind_eq_some_iff] at ho
      obtain ⟨news, hnews, ho⟩ := ho
      have hspec : ∃ el i z, P.underlying t = some (.slice el) ∧ P.info? el = some i ∧ i.zero = some z ∧ 0 < i.size ∧ z.cells.size = i.size := by
        unfold doAppend at ho
        split at ho
        · rename_i el hu
          simp only [Option.bind_eq_some_iff] at ho
          obtain ⟨i, hi, ho⟩ := ho
          split at ho
          · rename_i hc
            obtain ⟨z, hz⟩ := Option.isSome_iff_exists.1 hc.2.2.1
            exact ⟨el, i, z, hu, hi, hz, hc.1, by simpa [hz] using hc.2.2.2⟩
          · cases ho
        · cases ho
      obtain ⟨el, i, z, hu, hi, hz, hpos, hzs⟩ := hspec
      obtain ⟨v, w1, φ1, F1, hrun, hp, hpost⟩ := append_run (P := P) (ty := o.type) h hu hi hz hzs hpos (hr.ev s) (hr.ev x) hnews ho
      refine ⟨_, v, w1, φ1, F1, ?_, .inl rfl, hp, hpost⟩
      rw [run_invoke_builtin .append #[s, x] #[t, t] hop]
      simp [builtin, hrun, Result.andThen]
    · cases ho
  · cases ho
end Go.RM
namespace Go.RM
set_option linter.unusedVariables false
set_option linter.unusedSimpArgs false
variable {P : Program} {φ : Place} {F : Mem} {H : Heap} {w : World} {e : Env} {a : Act} {o : Oper} {tgt : Nat}
theorem copies_length (z : List PV) : ∀ n : Nat, ((List.range n).flatMap fun _ => z).length = n * z.length
  | 0 => by simp
  | n + 1 => by
    rw [List.range_succ, List.flatMap_append, List.length_append, copies_length z n]
    simp [Nat.add_mul]
theorem copies_get (z : List PV) : ∀ (n j : Nat), j < n * z.length → ((List.range n).flatMap fun _ => z)[j]? = z[j % z.length]?
  | 0, j, h => by simp at h
  | n + 1, j, h => by
    have hl : ((List.range n).flatMap fun _ => z).length = n * z.length := copies_length z n
    rw [List.range_succ, List.flatMap_append]
    rcases Nat.lt_or_ge j (n * z.length) with h1 | h1
    · rw [List.getElem?_append_left (by omega)]; exact copies_get z n j h1
    · rw [List.getElem?_append_right (by omega), hl]
      simp only [List.flatMap_cons, List.flatMap_nil, List.append_nil]
      rw [Nat.add_mul] at h
      have : j % z.length = j - n * z.length := by
        have h2 : j = z.length * n + (j - n * z.length) := by rw [Nat.mul_comm]; omega
        conv => lhs; rw [h2]
        rw [Nat.mul_add_mod, Nat.mod_eq_of_lt (by omega)]
      rw [this]
theorem stripes_get (sz : Nat) : ∀ (n i : Nat) (l : List PV), i < n → (stripes sz n l)[i]? = some ((l.drop (i * sz)).take sz)
  | 0, i, l, h => by omega
  | n + 1, 0, l, _ => by simp [stripes]
  | n + 1, i + 1, l, h => by
    simp only [stripes, List.getElem?_cons_succ]
    rw [stripes_get sz n i _ (by omega), List.drop_drop]
    congr 3
    rw [Nat.add_mul]; omega
theorem stripes_length (sz : Nat) : ∀ (n : Nat) (l : List PV), (stripes sz n l).length = n
  | 0, l => rfl
  | n + 1, l => by simp [stripes, stripes_length sz n]
theorem buildSlice_ok (h : HR φ F H w) (hr : Reps φ F e a) {t : TypeId} {n : Nat} {ps : Array (Nat × Operand)} (hop : o.op = .buildSlice t n ps) {p : PV} {H1 : Heap} (ho : aop P e o H tgt = some (p, H1)) : OpOk P φ F H w a o p H1 := by
  simp only [aop, hop] at ho
  unfold doBuildSlice at ho
  split at ho
  · rename_i el hu
    simp only [Option.bind_eq_some_iff] at ho
    obtain ⟨s, hs, z, hz, ho⟩ := ho
    obtain ⟨i, zv, hi, hzv, rfl⟩ := zero_rep hz
    split at ho
    · rename_i hc
      obtain ⟨hpos, hzl, hsmall⟩ := hc
      simp only [Option.bind_eq_some_iff] at ho
      obtain ⟨cs, hcs, ho⟩ := ho
      split at ho
      · rename_i hone
        simp only [Option.map_eq_some_iff, Prod.mk.injEq] at ho
        obtain ⟨H1', hfill, rfl, rfl⟩ := ho
        obtain ⟨hhole, rfl⟩ := Heap.fill_some hfill
        have hzr := ofV_cells (φ := φ) (F := F) zv
        have hzs : zv.cells.size = s := by rw [← hzr.1, hzl]
        have hparts := all2_parts (φ := φ) (F := F) hr ps.toList
        have h0 : RepL φ F ((List.range n).flatMap fun _ => (ofV zv).cells) ((Array.range (n * s)).map (zv.cells[· % zv.cells.size]!)) := by
          refine ⟨by rw [copies_length, hzl]; simp, fun j q v hq hv => ?_⟩
          have hj : j < n * s := by
            have := (Array.getElem?_eq_some_iff.1 hv).1
            simpa using this
          rw [copies_get _ n j (by rw [hzl]; exact hj), hzl] at hq
          have hm : j % s < zv.cells.size := by rw [hzs]; exact Nat.mod_lt _ hpos
          have : v = zv.cells[j % s] := by
            simp [hj, hzs] at hv
            rw [← hv]; exact getElem!_pos zv.cells (j % s) hm
          subst this
          exact hzr.2 (j % s) q _ hq (by simp [hm])
        obtain ⟨arr', hf, hl, hcell⟩ := fill_ok _ _ _ _ _ _ h0 hparts hcs
        have hlen : cs.length = n * s := by
          have : ∀ (ps : List (Nat × PV)) (cs out : List PV), fillP (fun i => some (i * s, s)) cs ps = some out → out.length = cs.length := by
            intro ps
            induction ps with
            | nil => intro cs out h; simp [fillP] at h; rw [h]
            | cons x ps ih =>
              intro cs out h
              simp only [fillP, Option.bind_some] at h
              split at h
              · rename_i hc
                rw [ih _ _ h]; simp; omega
              · cases h
          rw [this _ _ _ hcs, copies_length, hzl]
        have hlast : ∀ i' x, (stripes s n cs)[i']? = some x → i' < n ∧ x = (cs.drop (i' * s)).take s := by
          intro i' x hx
          have hi' : i' < n := by
            have := (List.getElem?_eq_some_iff.1 hx).1
            rwa [stripes_length] at this
          rw [stripes_get s n i' cs hi'] at hx
          exact ⟨hi', (Option.some.inj hx).symm⟩
        have hin : ∀ i', i' < n → i' * s + s ≤ cs.length := by
          intro i' hi'
          rw [hlen]
          have : (i' + 1) * s ≤ n * s := Nat.mul_le_mul_right _ hi'
          rw [Nat.add_mul] at this; omega
        have hmax : n ≤ maxLen := by
          have : n ≤ n * s := Nat.le_mul_of_pos_right n hpos
          simp only [maxLen]; omega
        have hpost := Post.move (w1 := { w with heap := w.heap.push (.cells arr' el (0, 0)) }) (arr1 := arr') (el := el) (k1 := ⟨s, stripes s n cs, 0, none⟩) (cap := n) h hhole rfl rfl rfl rfl
          (.inr rfl) hpos rfl (by simp [stripes_length]) (by rw [← hl, hlen]) hmax (fun x hx => by
            obtain ⟨i', hi'⟩ := List.getElem?_of_mem hx
            obtain ⟨h1, rfl⟩ := hlast i' x hi'
            have := hin i' h1
            simp; omega) (fun i' j x q hx hq => by
            obtain ⟨h1, rfl⟩ := hlast i' x hx
            have h2 := hin i' h1
            have hj : j < s := by
              have := (List.getElem?_eq_some_iff.1 hq).1
              simp at this; omega
            rw [List.getElem?_take_of_lt hj, List.getElem?_drop] at hq
            have hv : arr'[i' * s + j]? = some (arr'[i' * s + j]'(by omega)) := by simp [show i' * s + j < arr'.size by omega]
            have hr := hcell _ q _ hq hv
            exact ⟨_, hv, hr.one (List.all_eq_true.1 hone q (List.mem_of_getElem? hq)), hr⟩)
        refine ⟨.value (.slice (some ⟨w.heap.size, 0, none⟩) n n), .slice (some ⟨w.heap.size, 0, none⟩) n n, _, _, F, ?_, .inl rfl, ?_, hpost⟩
        · have hns : ¬ (2 ^ 24 < n * s) := by omega
          have hzero : n * s = 0 → n = 0 := fun h => by
            rcases Nat.mul_eq_zero.1 h with h | h
            · exact h
            · omega
          have hfm : (Instr.buildSlice t n (ps.map fun x => (x.1, a.eval x.2))).run P w = .ok (.slice (some ⟨w.heap.size, 0, none⟩) n n) { w with heap := w.heap.push (.cells arr' el (0, 0)) } := by
            have hlist : (ps.map fun x => (x.1, a.eval x.2)).toList = ps.toList.map fun x => (x.1, a.eval x.2) := by simp
            unfold Instr.buildSlice
            by_cases hn0 : n = 0
            · subst hn0
              have he : (Array.range (0 * s)).map (zv.cells[· % zv.cells.size]!) = (Array.range (0 * s)).map ((#[] : Array Value)[· % (#[] : Array Value).size]!) := by
                have e0 : ∀ f : Nat → Value, (Array.range 0).map f = #[] := fun f => Array.eq_empty_of_size_eq_zero (by simp)
                rw [Nat.zero_mul, e0, e0]
              rw [he] at hf
              simp only [underlying, Sem.run_bind, run_program, Result.andThen_ok, hu, Sem.run_pure, run_sizeOf hs, Nat.zero_mul, Nat.not_lt_zero, if_false, if_true, hlist] at hf ⊢
              simp only [hf]
              rfl
            · have hne : ¬ (n * s = 0) := fun h => hn0 (hzero h)
              simp only [underlying, Sem.run_bind, run_program, Result.andThen_ok, hu, Sem.run_pure, run_sizeOf hs, hns, hne, if_false, hlist, zeroValue, typeInfo, hi, hzv, hf]
              rfl
          simp [execOp, hop, hfm, Result.andThen]
        · have := Rep.own (φ := φ.add tgt (stripes s n cs).length (w.heap.size, n)) (F := F) tgt n w.heap.size n (by simp [Place.add, stripes_length])
          exact this
      · cases ho
    · cases ho
  · cases ho
end Go.RM
namespace Go.RM
set_option linter.unusedVariables false
set_option linter.unusedSimpArgs false
variable {P : Program} {φ : Place} {F : Mem} {H : Heap} {w : World} {e : Env} {a : Act} {o : Oper} {tgt : Nat}
theorem quiet_bind {α β : Type} (s : Sem α) (f : α → Sem β) : quietly P (s >>= f) = (quietly P s).bind fun a => quietly P (f a) := by
  show quietly P (s.bind f) = _
  induction s with
  | pure a => rfl
  | program k ih => exact ih P
  | _ => rfl
theorem quiet_pure {α : Type} (a : α) : quietly P (pure a : Sem α) = some a := rfl
theorem findNow_same {d : TypeDesc} {k : Value} : ∀ (l m : List MapEntry) (i : Nat) (r : Option (Nat × Value)), l.map (·.key) = m.map (·.key) → Instr.findNow d k l i = some r →
    ∃ r', Instr.findNow d k m i = some r' ∧ r'.map (·.1) = r.map (·.1) ∧ ∀ j v, r' = some (j, v) → i ≤ j ∧ ∃ x, m[j - i]? = some x ∧ x.val = v
  | [], [], i, r, _, h => by simp [Instr.findNow] at h; subst h; exact ⟨none, rfl, rfl, fun j v h => by cases h⟩
  | [], _ :: _, i, r, hk, h => by simp at hk
  | _ :: _, [], i, r, hk, h => by simp at hk
  | x :: l, y :: m, i, r, hk, h => by
    simp only [List.map_cons, List.cons.injEq] at hk
    unfold Instr.findNow at h ⊢
    rw [← hk.1]
    cases hs : Instr.sameNow d k x.key with
    | none => rw [hs] at h; cases h
    | some b =>
      rw [hs] at h
      cases b with
      | true =>
        simp only at h ⊢
        cases h
        exact ⟨_, rfl, rfl, fun j v h => by cases h; exact ⟨Nat.le_refl _, y, by simp, rfl⟩⟩
      | false =>
        simp only at h ⊢
        obtain ⟨r', h1, h2, h3⟩ := findNow_same l m (i + 1) r hk.2 h
        refine ⟨r', h1, h2, fun j v hr => ?_⟩
        obtain ⟨h4, z, h5, h6⟩ := h3 j v hr
        refine ⟨by omega, z, ?_, h6⟩
        rw [show j - i = (j - (i + 1)) + 1 by omega]
        simpa using h5
theorem findNow_none {d : TypeDesc} {k : Value} : ∀ (l m : List MapEntry) (i : Nat), l.map (·.key) = m.map (·.key) → Instr.findNow d k l i = none → Instr.findNow d k m i = none
  | [], [], i, _, h => by simp [Instr.findNow] at h
  | [], _ :: _, i, hk, h => by simp at hk
  | _ :: _, [], i, hk, h => by simp at hk
  | x :: l, y :: m, i, hk, h => by
    simp only [List.map_cons, List.cons.injEq] at hk
    unfold Instr.findNow at h ⊢
    rw [← hk.1]
    cases hs : Instr.sameNow d k x.key with
    | none => rfl
    | some b =>
      rw [hs] at h
      cases b with
      | true => simp at h
      | false => simp only at h ⊢; exact findNow_none l m (i + 1) hk.2 h
theorem findAsking_same {kt : TypeId} {k : Value} : ∀ (l m : List MapEntry) (i : Nat) (r : Option (Nat × Value)), l.map (·.key) = m.map (·.key) → quietly P (Instr.findAsking kt k l i) = some r →
    ∃ r', quietly P (Instr.findAsking kt k m i) = some r' ∧ r'.map (·.1) = r.map (·.1) ∧ ∀ j v, r' = some (j, v) → i ≤ j ∧ ∃ x, m[j - i]? = some x ∧ x.val = v
  | [], [], i, r, _, h => by simp [Instr.findAsking, quiet_pure] at h; subst h; exact ⟨none, rfl, rfl, fun j v h => by cases h⟩
  | [], _ :: _, i, r, hk, h => by simp at hk
  | _ :: _, [], i, r, hk, h => by simp at hk
  | x :: l, y :: m, i, r, hk, h => by
    simp only [List.map_cons, List.cons.injEq] at hk
    unfold Instr.findAsking at h ⊢
    rw [quiet_bind, Option.bind_eq_some_iff] at h
    obtain ⟨b, hb, h⟩ := h
    rw [quiet_bind, ← hk.1, hb]
    cases b with
    | true =>
      simp only [if_true, quiet_pure, Option.some.injEq] at h
      subst h
      exact ⟨_, rfl, rfl, fun j v h => by cases h; exact ⟨Nat.le_refl _, y, by simp, rfl⟩⟩
    | false =>
      simp only [Bool.false_eq_true, if_false] at h
      obtain ⟨r', h1, h2, h3⟩ := findAsking_same l m (i + 1) r hk.2 h
      refine ⟨r', by simpa using h1, h2, fun j v hr => ?_⟩
      obtain ⟨h4, z, h5, h6⟩ := h3 j v hr
      refine ⟨by omega, z, ?_, h6⟩
      rw [show j - i = (j - (i + 1)) + 1 by omega]
      simpa using h5
theorem findKey_same {kt : TypeId} {k : Value} {l m : List MapEntry} {r : Option (Nat × Value)} (hk : l.map (·.key) = m.map (·.key)) (h : quietly P (Instr.findKey kt k l) = some r) :
    ∃ r', quietly P (Instr.findKey kt k m) = some r' ∧ r'.map (·.1) = r.map (·.1) ∧ ∀ j v, r' = some (j, v) → ∃ x, m[j]? = some x ∧ x.val = v := by
  unfold Instr.findKey at h ⊢
  rw [quiet_bind, Option.bind_eq_some_iff] at h
  obtain ⟨d, hd, h⟩ := h
  rw [quiet_bind, hd]
  simp only [Option.bind_some]
  cases hn : Instr.findNow d k l 0 with
  | some r0 =>
    rw [hn] at h
    simp only [quiet_pure, Option.some.injEq] at h
    subst h
    obtain ⟨r', h1, h2, h3⟩ := findNow_same l m 0 r0 hk hn
    rw [h1]
    exact ⟨r', rfl, h2, fun j v hr => (h3 j v hr).2⟩
  | none =>
    rw [hn] at h
    rw [findNow_none l m 0 hk hn]
    obtain ⟨r', h1, h2, h3⟩ := findAsking_same l m 0 r hk h
    exact ⟨r', h1, h2, fun j v hr => (h3 j v hr).2⟩
theorem all2_keys : ∀ {l : List (Value × PV)} {es : List MapEntry}, All2 (fun (x : Value × PV) (m : MapEntry) => m.key = x.1 ∧ Rep φ F x.2 m.val) l es → es.map (·.key) = l.map (·.1) ∧ es.length = l.length ∧ ∀ (i : Nat) (x : Value × PV), l[i]? = some x → ∃ m : MapEntry, es[i]? = some m ∧ m.key = x.1 ∧ Rep φ F x.2 m.val
  | _, _, .nil => ⟨rfl, rfl, fun i x h => by simp at h⟩
  | _, _, .cons (x := x) (y := y) h t => by
    obtain ⟨h1, h2, h3⟩ := all2_keys t
    refine ⟨by simp [h.1, h1], by simp [h2], fun i z hz => ?_⟩
    cases i with
    | zero => simp at hz; subst hz; exact ⟨y, rfl, h⟩
    | succ i => exact h3 i z (by simpa using hz)
theorem keyAt_real {kt : TypeId} {k : Value} {l : List (Value × PV)} {es : List MapEntry} {r : Option Nat} (hk : es.map (·.key) = l.map (·.1)) (h : keyAt P kt k l = some r) :
    ∃ r', quietly P (Instr.findKey kt k es) = some r' ∧ r'.map (·.1) = r ∧ ∀ j v, r' = some (j, v) → ∃ x, es[j]? = some x ∧ x.val = v := by
  unfold keyAt at h
  rw [Option.map_eq_some_iff] at h
  obtain ⟨r0, h0, rfl⟩ := h
  exact findKey_same (by rw [hk]; simp [List.map_map, Function.comp]) h0
theorem makeMap_ok (h : HR φ F H w) (hr : Reps φ F e a) {t : TypeId} (hop : o.op = .makeMap t none) {p : PV} {H1 : Heap} (ho : aop P e o H tgt = some (p, H1)) : OpOk P φ F H w a o p H1 := by
  simp only [aop, hop, Option.map_eq_some_iff, Prod.mk.injEq] at ho
  obtain ⟨H1', hfill, rfl, rfl⟩ := ho
  obtain ⟨hhole, rfl⟩ := Heap.fill_some hfill
  have hb : tgt < H.length := (List.getElem?_eq_some_iff.1 hhole).1
  have hphi : ∀ n, φ tgt n = none := h.hole hhole
  have hle : φ.le (φ.add tgt 0 (w.heap.size, 0)) := fun b n x hx => by
    unfold Place.add
    split
    · rename_i hc; rw [hc.1, hphi] at hx; cases hx
    · exact hx
  have hpost : Post φ F H w (φ.add tgt 0 (w.heap.size, 0)) F (H.set tgt ⟨1, [], 0, some []⟩) { w with heap := w.heap.push (.map #[] 0) } := by
    refine Post.upd h hhole hle (fun b' n hne => by unfold Place.add; rw [if_neg (fun hc => hne hc.1)]) (fun n x hx => ?_) (.refl F) ?_ (fun c hc _ => ⟨?_, rfl⟩) (by simp) rfl rfl rfl ⟨by simp, .inr (.inr ⟨by simp, rfl, [], w.heap.size, 0, rfl, by simp [Place.add], #[], 0, by simp, .nil⟩)⟩ (fun c cap hx => ?_)
    · unfold Place.add at hx
      split at hx
      · rename_i hc; simp [hc.2]
      · rw [hphi] at hx; cases hx
    · intro c j v hF
      obtain ⟨arr, el, fr, hh, hv⟩ := h.mem c j v hF
      have := (Array.getElem?_eq_some_iff.1 hh).1
      exact ⟨arr, el, fr, by rw [← hh]; simp [Array.getElem?_push, Nat.ne_of_lt this], hv⟩
    · simp [Array.getElem?_push, Nat.ne_of_lt hc]
    · simp [Place.add] at hx; exact .inl (by omega)
  refine ⟨.value (.map (some w.heap.size)), .map (some w.heap.size), _, _, F, ?_, .inl rfl, .mp tgt w.heap.size 0 (by simp [Place.add]), hpost⟩
  simp [execOp, hop, Instr.makeMap, newObj, Sem.run, Result.andThen]
theorem map_at (h : HR φ F H w) {b : Nat} {k : Blk} {l : List (Value × PV)} (hb : H[b]? = some k) (hm : k.mp = some l) : k.es = [] ∧ 0 < k.sz ∧ ∃ c cap, φ b 0 = some (c, cap) ∧ MapIn φ F w c l := by
  rcases (h.blk b k hb).at_ with ⟨_, h1, _⟩ | ⟨_, h1, _⟩ | ⟨h0, he, l', c, cap, h1, h2, h3⟩
  · rw [hm] at h1; cases h1
  · rw [hm] at h1; cases h1
  · rw [hm] at h1; cases h1; exact ⟨he, h0, c, cap, h2, h3⟩
theorem Rep.mp_inv {b : Nat} {v : Value} (h : Rep φ F (.mp b) v) : ∃ c cap, φ b 0 = some (c, cap) ∧ v = .map (some c) := by
  cases h with
  | imm h => cases h
  | mp _ c cap h => exact ⟨c, cap, h, rfl⟩
theorem lookup_ok (h : HR φ F H w) (hr : Reps φ F e a) {t : TypeId} {m k : Operand} {ok : Bool} (hop : o.op = .lookup t m k ok) {p : PV} {H1 : Heap} (ho : aop P e o H tgt = some (p, H1)) : OpOk P φ F H w a o p H1 := by
  have hm := hr.ev m
  have hk := hr.ev k
  simp only [aop, hop] at ho
  unfold doLookup at ho
  split at ho
  · rename_i kt el hu
    simp only [Option.bind_eq_some_iff] at ho
    obtain ⟨l, hl, kv, hkv, u, hcheck, r, hkey, ho⟩ := ho
    have hkv2 := toV_rep hkv hk
    unfold entries at hl
    split at hl
    · rename_i b hb
      rw [hb] at hm
      rw [Option.bind_eq_some_iff] at hl
      obtain ⟨kb, hkb, hmp⟩ := hl
      obtain ⟨-, -, c, cap, hphi, es, clock, hheap, hall⟩ := map_at h hkb hmp
      obtain ⟨c', cap', hphi', hv⟩ := hm.mp_inv
      rw [hphi] at hphi'
      cases hphi'
      obtain ⟨hkeys, hlen, hat⟩ := all2_keys hall
      obtain ⟨r', hf, hfst, hval⟩ := keyAt_real hkeys hkey
      have hemp : es.isEmpty = l.isEmpty := by
        have : es.size = l.length := by simpa using hlen
        cases l <;> simp_all [Array.isEmpty]
      have hcheck' := run_quietly _ _ w (hemp ▸ hcheck)
      have hf' := run_quietly _ _ w hf
      have hget := MapKept.run_getObj_map (P := P) hheap
      have hund : (underlying t).run P w = .ok (.map kt el) w := by
        simp [underlying, hu, Sem.run]
      cases r with
      | some i =>
        simp only [Option.map_eq_some_iff] at ho
        obtain ⟨x, hx, ho⟩ := ho
        cases r' with
        | none => cases hfst
        | some jv =>
          obtain ⟨j, v⟩ := jv
          simp only [Option.map_some, Option.some.injEq] at hfst
          subst hfst
          obtain ⟨me, hme, hmv⟩ := hval j v rfl
          obtain ⟨me', hme', _, hrep⟩ := hat j x hx
          rw [hme] at hme'
          cases hme'
          rw [hmv] at hrep
          simp only [Prod.mk.injEq] at ho
          obtain ⟨rfl, rfl⟩ := ho
          cases ok with
          | true =>
            refine .still h (v := .tuple #[v, .bool true]) ?_ (.tuple _ _ (by simp) (fun j p v hp hv => ?_))
            · simp [execOp, hop, Instr.lookup, hund, hv, hget, hcheck', hkv2, hf', Result.andThen]
            · match j, hp, hv with
              | 0, hp, hv => simp at hp hv; subst hp hv; exact hrep
              | 1, hp, hv => simp at hp hv; subst hp hv; exact .imm (.val _)
          | false =>
            refine .still h (v := v) ?_ hrep
            simp [execOp, hop, Instr.lookup, hund, hv, hget, hcheck', hkv2, hf', Result.andThen]
      | none =>
        cases r' with
        | some jv => cases hfst
        | none =>
          simp only [Option.map_eq_some_iff, Option.bind_eq_some_iff] at ho
          obtain ⟨z, ⟨i, hi, hz⟩, ho⟩ := ho
          simp only [Prod.mk.injEq] at ho
          obtain ⟨rfl, rfl⟩ := ho
          cases ok with
          | true =>
            refine .still h (v := .tuple #[z, .bool false]) ?_ (.tuple _ _ (by simp) (fun j p v hp hv => ?_))
            · simp [execOp, hop, Instr.lookup, hund, hv, hget, hcheck', hkv2, hf', Result.andThen, zeroValue, typeInfo, hi, hz]
            · match j, hp, hv with
              | 0, hp, hv => simp at hp hv; subst hp hv; exact .imm (.ofV F z)
              | 1, hp, hv => simp at hp hv; subst hp hv; exact .imm (.val _)
          | false =>
            refine .still h (v := z) ?_ (.imm (.ofV F z))
            simp [execOp, hop, Instr.lookup, hund, hv, hget, hcheck', hkv2, hf', Result.andThen, zeroValue, typeInfo, hi, hz]
    · cases hl
  · cases ho
theorem all2_set {R : Value × PV → MapEntry → Prop} : ∀ {l : List (Value × PV)} {es : List MapEntry} (i : Nat) {x : Value × PV} {m : MapEntry}, All2 R l es → R x m → All2 R (l.set i x) (es.set i m)
  | _, _, _, _, _, .nil, h => .nil
  | _, _, 0, _, _, .cons h t, h' => .cons h' t
  | _, _, i + 1, _, _, .cons h t, h' => .cons h (all2_set i t h')
theorem all2_snoc {R : Value × PV → MapEntry → Prop} : ∀ {l : List (Value × PV)} {es : List MapEntry} {x : Value × PV} {m : MapEntry}, All2 R l es → R x m → All2 R (l ++ [x]) (es ++ [m])
  | _, _, _, _, .nil, h => .cons h .nil
  | _, _, _, _, .cons h t, h' => .cons h (all2_snoc t h')
theorem map_set (h : HR φ F H w) {b c cap clock clock' : Nat} {kb : Blk} {l l1 : List (Value × PV)} {es es1 : Array MapEntry} (hkb : H[b]? = some kb) (hmp : kb.mp = some l) (hphi : φ b 0 = some (c, cap)) (hheap : w.heap[c]? = some (.map es clock))
    (hall : All2 (fun (x : Value × PV) (m : MapEntry) => m.key = x.1 ∧ Rep φ F x.2 m.val) l1 es1.toList) : Post φ F H w φ F (H.set b { kb with mp := some l1 }) { w with heap := w.heap.setIfInBounds c (.map es1 clock') } := by
  obtain ⟨hes, hsz, _⟩ := map_at h hkb hmp
  have hc : c < w.heap.size := (Array.getElem?_eq_some_iff.1 hheap).1
  have hset := MapKept.heap_set (w := w) (r := c) (o' := .map es1 clock') hheap
  refine Post.upd h hkb (.refl φ) (fun _ _ _ => rfl) (fun n x hx => ?_) (.refl F) ?_ (fun c' hc' hne => ⟨hset.2 c' (fun he => hne cap (by rw [he, hes]; exact hphi)), rfl⟩) (by simp) rfl rfl rfl
    ⟨by simp [hes], .inr (.inr ⟨hsz, hes, l1, c, cap, rfl, hphi, es1, clock', hset.1, hall⟩)⟩ (fun c' cap' hx => .inr ⟨cap', hx⟩)
  · obtain ⟨k', hk', hle⟩ := h.dom b n x hx
    rw [hkb] at hk'; cases hk'; exact hle
  · intro c' j v hF
    obtain ⟨arr, el, fr, hh, hv⟩ := h.mem c' j v hF
    have hne : c' ≠ c := fun he => by rw [he, hheap] at hh; cases hh
    exact ⟨arr, el, fr, by rw [hset.2 c' hne]; exact hh, hv⟩
theorem update_ok (h : HR φ F H w) (hr : Reps φ F e a) {t : TypeId} {m k x : Operand} (hop : o.op = .mapUpdate t m k x ∨ o.op = .insert t m k x) {p : PV} {H1 : Heap} (ho : aop P e o H tgt = some (p, H1)) : OpOk P φ F H w a o p H1 := by
  have hm := hr.ev m
  have hk := hr.ev k
  have hx := hr.ev x
  have ho' : doUpdate P t (ev e m) (ev e k) (ev e x) H = some (p, H1) := by
    rcases hop with hop | hop <;> simpa only [aop, hop] using ho
  have hexec : execOp a.eval o = (Instr.mapUpdate t (a.eval m) (a.eval k) (a.eval x) >>= fun _ => pure .skip) := by
    rcases hop with hop | hop <;> simp [execOp, hop]
  clear ho
  unfold doUpdate at ho'
  split at ho'
  · rename_i kt el b hu hb
    rw [hb] at hm
    simp only [Option.bind_eq_some_iff] at ho'
    obtain ⟨kb, hkb, l, hmp, kv, hkv, u, hcheck, r, hkey, ho⟩ := ho'
    have hkv2 := toV_rep hkv hk
    obtain ⟨-, -, c, cap, hphi, es, clock, hheap, hall⟩ := map_at h hkb hmp
    obtain ⟨c', cap', hphi', hv⟩ := hm.mp_inv
    rw [hphi] at hphi'
    cases hphi'
    obtain ⟨hkeys, hlen, hat⟩ := all2_keys hall
    obtain ⟨r', hf, hfst, hval⟩ := keyAt_real hkeys hkey
    have hcheck' := run_quietly _ _ w hcheck
    have hf' := run_quietly _ _ w hf
    have hget := MapKept.run_getObj_map (P := P) hheap
    have hund : (underlying t).run P w = .ok (.map kt el) w := by
      simp [underlying, hu, Sem.run]
    cases r with
    | some i =>
      simp only [Option.bind_eq_some_iff] at ho
      obtain ⟨y, hy, ho⟩ := ho
      split at ho
      · rename_i hsame
        cases ho
        cases r' with
        | none => cases hfst
        | some jv =>
          obtain ⟨j, v⟩ := jv
          simp only [Option.map_some, Option.some.injEq] at hfst
          subst hfst
          obtain ⟨me, hme, hmk, hrep⟩ := hat j y hy
          have hme2 : es[j]? = some me := by rw [← Array.getElem?_toList]; exact hme
          have hjlt : j < es.size := (Array.getElem?_eq_some_iff.1 hme2).1
          have hstay : (Instr.keyThatStays me.key kv).run P w = .ok kv w := by
            rw [hmk]; simp [Instr.keyThatStays, hsame]
          have hset := MapKept.run_setObj_map (P := P) (.map (es.modify j fun e => { e with key := kv, val := a.eval x }) clock) hheap
          have hmod : (es.modify j fun e => { e with key := kv, val := a.eval x }).toList = es.toList.set j { me with key := kv, val := a.eval x } := by
            rw [Array.toList_modify]
            apply List.ext_getElem?
            intro n
            rw [List.getElem?_modify, List.getElem?_set]
            by_cases hn : j = n
            · subst hn; simp [hjlt, (Array.getElem?_eq_some_iff.1 hme2).2]
            · simp [hn]
          refine ⟨.skip, undef, _, φ, F, ?_, .inr ⟨rfl, rfl⟩, .imm (.undef _), map_set (clock' := clock) h hkb hmp hphi hheap (es1 := es.modify j fun e => { e with key := kv, val := a.eval x }) (by rw [hmod]; exact all2_set j hall ⟨rfl, hx⟩)⟩
          rw [hexec]
          simp [Instr.mapUpdate, hund, hv, hget, hcheck', hkv2, hf', hme2, hstay, hset, Result.andThen]
      · cases ho
    | none =>
      cases r' with
      | some jv => cases hfst
      | none =>
        cases ho
        have hset := MapKept.run_setObj_map (P := P) (.map (es.push { key := kv, val := a.eval x, born := clock }) (clock + 1)) hheap
        refine ⟨.skip, undef, _, φ, F, ?_, .inr ⟨rfl, rfl⟩, .imm (.undef _), map_set (clock' := clock + 1) h hkb hmp hphi hheap (es1 := es.push { key := kv, val := a.eval x, born := clock }) (by rw [Array.toList_push]; exact all2_snoc hall ⟨rfl, hx⟩)⟩
        rw [hexec]
        simp [Instr.mapUpdate, hund, hv, hget, hcheck', hkv2, hf', hset, Result.andThen]
  · cases ho'
end Go.RM
namespace Go.RM
set_option linter.unusedVariables false
set_option linter.unusedSimpArgs false
variable {P : Program} {φ : Place} {F : Mem} {H : Heap} {w : World} {e : Env} {a : Act} {o : Oper} {tgt : Nat}
theorem aop_ok (h : HR φ F H w) (hr : Reps φ F e a) {p : PV} {H1 : Heap} (ho : aop P e o H tgt = some (p, H1)) : OpOk P φ F H w a o p H1 := by
  cases hop : o.op with
  | move x => exact move_ok h hr (.inl hop) ho
  | assign x => exact move_ok h hr (.inr hop) ho
  | pick c x y => exact pick_ok h hr hop ho
  | alloc t => exact alloc_ok h hr hop ho
  | box t x => exact box_ok h hr hop ho
  | build t ps => exact build_ok h hr hop ho
  | buildSlice t n ps => exact buildSlice_ok h hr hop ho
  | load t x => exact load_ok h hr hop ho
  | store t x y => exact store_ok h hr hop ho
  | nilCheck x => exact nilCheck_ok h hr hop ho
  | makeSlice t l c => exact makeSlice_ok h hr hop ho
  | slice t x lo hi mx => exact slice_ok h hr hop ho
  | fieldAddr t x f => exact fieldAddr_ok h hr hop ho
  | field t x f => exact field_ok h hr hop ho
  | indexAddr t x ix => exact indexAddr_ok h hr hop ho
  | index t x ix => exact index_ok h hr hop ho
  | extract x i => exact extract_ok h hr hop ho
  | makeFunc fn first cs =>
    cases fn with
    | func f => exact makeFunc_ok h hr hop ho
    | _ => exact generic_ok h hr (fun cs b => by simp [hop]) (by simpa only [aop, hop] using ho)
  | binOp op t x y u =>
    cases op with
    | eql => exact eqNil_ok h hr (.inl rfl) hop ho
    | neq => exact eqNil_ok h hr (.inr rfl) hop ho
    | _ => exact generic_ok h hr (fun cs b => by simp [hop]) (by simpa only [aop, hop] using ho)
  | call c =>
    obtain ⟨callee, args, tys⟩ := c
    cases callee with
    | builtin b =>
      cases b with
      | len => exact len_ok h hr hop ho
      | append => exact append_ok h hr hop ho
      | _ => exact generic_ok h hr (fun cs b => by simp [hop]) (by simpa only [aop, hop] using ho)
    | _ => exact generic_ok h hr (fun cs b => by simp [hop]) (by simpa only [aop, hop] using ho)
  | makeMap t r =>
    cases r with
    | none => exact makeMap_ok h hr hop ho
    | some _ => exact generic_ok h hr (fun cs b => by simp [hop]) (by simpa only [aop, hop] using ho)
  | lookup t m k ok => exact lookup_ok h hr hop ho
  | mapUpdate t m k x => exact update_ok h hr (.inl hop) ho
  | insert t m k x => exact update_ok h hr (.inr hop) ho
  | select cs b => simp [aop, hop] at ho
  | _ => exact generic_ok h hr (fun cs b => by simp [hop]) (by simpa only [aop, hop] using ho)
end Go.RM
namespace Go.RM
set_option linter.unusedVariables false
abbrev Map := Nat → Option (Option Nat)
def Map.same : Map := fun b => some (some b)
def Map.keep (bs : List Nat) : Map := fun b => some (bs.idxOf? b)
def Map.lend (bs ls : List Nat) : Map := fun b => match bs.idxOf? b with
  | some i => some (some i)
  | none => if ls.contains b then some none else none
def Map.back (l : List Nat) : Map := fun i => (l[i]?).map some
inductive Conv (H : Heap) (f : Map) : Bool → PV → PV → Prop where
  | undef {s p} : Conv H f s p .undef
  | free {s p q} (e : p = q) (h : PV.free deep p = true) : Conv H f s p q
  | nil {s} : Conv H f s (.val (.slice none 0 0)) (.rows [])
  | nilOwn {b} : Conv H f false (.val (.slice none 0 0)) (.own b 0)
  | nocap {s} : Conv H f s .nocap (.rows [])
  | own {b n b'} (hf : f b = some (some b')) : Conv H f false (.own b n) (.own b' n)
  | ptr {b n sz i off b'} (hf : f b = some (some b')) : Conv H f false (.ptr b n sz i off) (.ptr b' n sz i off)
  | mp {b b'} (hf : f b = some (some b')) : Conv H f false (.mp b) (.mp b')
  | fixOwn {s b n k es} (hf : f b = some none) (hk : H[b]? = some k) (hn : k.es.length = n) (hmp : k.mp = none) (hl : es.length = k.es.length)
      (hu : ∀ (i : Nat) (x y : List PV), k.es[i]? = some x → es[i]? = some y → x.length = y.length)
      (h : ∀ (i j : Nat) (x y : List PV) (p q : PV), k.es[i]? = some x → es[i]? = some y → x[j]? = some p → y[j]? = some q → Conv H f true p q) : Conv H f s (.own b n) (.rows es)
  | fixPtr {s b n sz i off k x y} (hf : f b = some none) (hk : H[b]? = some k) (hn : k.es.length = n) (hz : k.sz = sz) (hx : k.es[i]? = some x) (hl : x.length = y.length)
      (h : ∀ (j : Nat) (p q : PV), x[j]? = some p → y[j]? = some q → Conv H f true p q) : Conv H f s (.ptr b n sz i off) (.cptr y off)
  | agg {s cs ds} (hl : cs.length = ds.length) (h : ∀ (j : Nat) (p q : PV), cs[j]? = some p → ds[j]? = some q → Conv H f s p q) : Conv H f s (.agg cs) (.agg ds)
  | tuple {s cs ds} (hl : cs.length = ds.length) (h : ∀ (j : Nat) (p q : PV), cs[j]? = some p → ds[j]? = some q → Conv H f s p q) : Conv H f s (.tuple cs) (.tuple ds)
  | clo {s g cs ds} (hl : cs.length = ds.length) (h : ∀ (j : Nat) (p q : PV), cs[j]? = some p → ds[j]? = some q → Conv H f s p q) : Conv H f s (.clo g cs) (.clo g ds)
def EnvConv (H : Heap) (f : Map) (e e1 : Env) : Prop := ∀ t, Conv H f false (e t) (e1 t)
structure BlkConv (H : Heap) (f : Map) (k k1 : Blk) : Prop where
  sz : k1.sz = k.sz
  frozen : k.frozen ≤ k1.frozen
  len : k.es.length = k1.es.length
  uni : ∀ (i : Nat) (x y : List PV), k.es[i]? = some x → k1.es[i]? = some y → x.length = y.length
  es : ∀ (i j : Nat) (x y : List PV) (p q : PV), k.es[i]? = some x → k1.es[i]? = some y → x[j]? = some p → y[j]? = some q → Conv H f false p q
  mp : (k.mp = none ∧ k1.mp = none) ∨ ∃ l l1, k.mp = some l ∧ k1.mp = some l1 ∧ All2 (fun (x y : Value × PV) => x.1 = y.1 ∧ Conv H f false x.2 y.2) l l1
def HeapConv (H : Heap) (f : Map) (bs : List Nat) (H1 : Heap) : Prop :=
  bs.length = H1.length ∧ ∀ (i b : Nat) (k1 : Blk), bs[i]? = some b → H1[i]? = some k1 → ∃ k, H[b]? = some k ∧ BlkConv H f k k1
def setAll : Heap → List Nat → List Blk → Heap
  | H, b :: bs, k :: ks => setAll (H.set b k) bs ks
  | H, _, _ => H
def Heap.freeze (H : Heap) (ls : List Nat) : Heap := H.mapIdx fun b k => if ls.contains b then { k with frozen := max k.frozen k.es.length } else k
def PV.solid : Nat → PV → Bool
  | 0, _ => false
  | n + 1, p => match p with
    | .undef | .val _ | .own .. | .ptr .. | .mp _ | .nocap | .rows [] => true
    | .agg cs | .tuple cs | .clo _ cs => cs.all (PV.solid n)
    | _ => false
def Blk.solid (k : Blk) : Bool := k.es.all (fun x => x.all (PV.solid deep)) && k.mp.isNone
def wants (ops : Array Oper) (e : Env) (o : Oper) : Option Bool :=
  match o.guard with
  | none => some true
  | some (j, want) => match (ops[j]?).bind (·.dst) with
    | some t => match e t with
      | .val (.bool b) => some (b == want)
      | .val (.tuple _) => some false
      | _ => none
    | none => none
def resultOf (P : Program) (H : Heap) (e : Env) : ResultVar → Option PV
  | .tmp t => some (e t)
  | .cell a t => (sizeOf? P t).bind fun s => (isAgg? P t).bind fun g => if g = true ∨ s = 1 then (rd H (e a) s).bind (asVar g) else none
def resultsOf (P : Program) (fn : Func) (e : Env) (H : Heap) : Option PV :=
  (omap (resultOf P H e) fn.results.toList).map fun
    | [p] => p
    | ps => .tuple ps
def argEnv (args : List PV) : Env := fun t => args.getD t .undef
def listEnv : List (Nat × PV) → Env
  | [] => fun _ => .undef
  | (t, p) :: l => fun u => if u = t then p else listEnv l u
def isGo (P : Program) (f : FuncId) : Bool := match P.funcs[f]? with
  | some fn => fn.name != "runtime.NumGoroutine" && fn.body.isSome
  | none => false
def callee (P : Program) (e : Env) (o : Oper) : Option (FuncId × List PV) :=
  match o.op with
  | .call { callee := .value f, args, .. } => match ev e f with
    | .clo g cs => if isGo P g then some (g, args.toList.map (ev e) ++ cs) else none
    | _ => none
  | _ => none
inductive Outc where
  | ret (r : PV)
  | fall
  | jump (c : Code)
def edgesBack (ops : Array Oper) : Bool := (List.range ops.size).all fun i => match ops[i]? with
  | some o => o.after.all fun e => !Region.binds .any e || e.on < i
  | none => true
def aheadOk (ops : Array Oper) (A : Nat → List Nat) : Bool := (List.range ops.size).all fun i => match ops[i]? with
  | some o => (A i).all fun j => o.after.any fun e => Region.binds .any e && (e.on == j || (A e.on).contains j)
  | none => true
def orElse (A : List Nat) (S : Nat → Bool) : Nat → Bool := fun j => A.contains j || S j
def plus (S : Nat → Bool) (i : Nat) : Nat → Bool := fun j => j == i || S j
inductive J where
  | run (fn : Func) (N M : Nat) (rd : Bool) (todo : List Item) (e : Env) (H : Heap) (O : Outc) (H' : Heap)
  | reg (N : Nat) (all : Array Oper) (draw : Bool) (e : Env) (H : Heap) (e' : Env) (H' : Heap)
  | ops (N : Nat) (all : Array Oper) (l : List Oper) (e : Env) (H : Heap) (e' : Env) (H' : Heap)
  | callH (f : FuncId) (args : List PV) (H : Heap) (r : PV) (H' : Heap)
inductive D (P : Program) (X : FuncId → List PV → Heap → PV → Heap → Prop) : J → Prop where
  | skip {fn N M rd k e H O H'} (h : D P X (.run fn N M rd k e H O H')) : D P X (.run fn N M rd (.code .skip :: k) e H O H')
  | label {fn N M rd l k e H O H'} (h : D P X (.run fn N M rd k e H O H')) : D P X (.run fn N M rd (.code (.label l) :: k) e H O H')
  | seq {fn N M rd a b k e H O H'} (h : D P X (.run fn N M rd (.code a :: .code b :: k) e H O H')) : D P X (.run fn N M rd (.code (.seq a b) :: k) e H O H')
  | cond {fn N M rd c a b k e H O H'} (t : Bool) (hc : ev e c = .val (.bool t)) (h : D P X (.run fn N M rd (.code (if t then a else b) :: k) e H O H')) : D P X (.run fn N M rd (.code (.cond c a b) :: k) e H O H')
  | block {fn N M rd id a k e H O H'} (h : D P X (.run fn N M rd (.code a :: .inBlock id :: k) e H O H')) : D P X (.run fn N M rd (.code (.block id a) :: k) e H O H')
  | inBlock {fn N M rd id k e H O H'} (h : D P X (.run fn N M rd k e H O H')) : D P X (.run fn N M rd (.inBlock id :: k) e H O H')
  | loop {fn N M rd a k e H O H'} (h : D P X (.run fn N M rd (.code a :: .inLoop a :: k) e H O H')) : D P X (.run fn N M rd (.code (.loop a) :: k) e H O H')
  | inLoop {fn N M rd a k e H O H'} (h : D P X (.run fn N M rd (.code a :: .inLoop a :: k) e H O H')) : D P X (.run fn N M rd (.inLoop a :: k) e H O H')
  | exit {fn N M rd id k k' e H O H'} (hk : exitTo id k = some k') (h : D P X (.run fn N M rd k' e H O H')) : D P X (.run fn N M rd (.code (.exit id) :: k) e H O H')
  | exitOut {fn N M id k e H} (hk : exitTo id k = none) : D P X (.run fn N M true (.code (.exit id) :: k) e H (.jump (.exit id)) H)
  | ret {fn N M k e H r} (h : resultsOf P fn e H = some r) : D P X (.run fn N M false (.code .ret :: k) e H (.ret r) H)
  | retOut {fn N M k e H} : D P X (.run fn N M true (.code .ret :: k) e H (.jump .ret) H)
  | done {fn N M e H r} (h : resultsOf P fn e H = some r) : D P X (.run fn N M false [] e H (.ret r) H)
  | fall {fn N M e H} : D P X (.run fn N M true [] e H .fall H)
  | region {fn N M rd id ops draw k e H e1 H1 O H'} (hd : ops.all (dstOk N) = true) (h : D P X (.reg N ops draw e H e1 H1)) (h' : D P X (.run fn N M rd k e1 H1 O H')) :
      D P X (.run fn N M rd (.code (.region id ops draw) :: k) e H O H')
  | room {fn N M rd k e H O H'} (sz : Nat) (h : D P X (.run fn N M rd k e (H ++ [⟨sz, [], 0, none⟩]) O H')) : D P X (.run fn N M rd k e H O H')
  | keep {fn N M rd k e e1 H H1 O H'} (bs : List Nat) (hM : ∀ b, b < M → bs[b]? = some b) (hnd : bs.Nodup) (he : EnvConv H (.keep bs) e e1) (hH : HeapConv H (.keep bs) bs H1)
      (h : D P X (.run fn N M rd k e1 H1 O H')) : D P X (.run fn N M rd k e H O H')
  | reg {N ops e H e1 H1} (h : D P X (.ops N ops ops.toList e H e1 H1)) : D P X (.reg N ops false e H e1 H1)
  | draw {N ops e H e1 H1} (es : (Nat → Bool) → Env) (Hs : (Nat → Bool) → Heap) (A : Nat → List Nat) (hb : edgesBack ops = true) (hA : aheadOk ops A = true)
      (he : es (fun _ => false) = e) (hH : Hs (fun _ => false) = H)
      (hi : ∀ (i : Nat) (o : Oper) (S : Nat → Bool), ops[i]? = some o → orElse (A i) S i = false → (∀ i', orElse (A i) S i' = true → ∀ j ∈ A i', orElse (A i) S j = true) → D P X (.ops N ops [o] (es (orElse (A i) S)) (Hs (orElse (A i) S)) (es (plus (orElse (A i) S) i)) (Hs (plus (orElse (A i) S) i))))
      (he1 : EnvConv H1 .same (es fun j => decide (j < ops.size)) e1) (hH1 : Hs (fun j => decide (j < ops.size)) = H1) : D P X (.reg N ops true e H e1 H1)
  | nil0 {N all e H} : D P X (.ops N all [] e H e H)
  | nil {N all e H e1 H1} (h : EnvConv H .same e e1) (hH : H = H1) : D P X (.ops N all [] e H e1 H1)
  | no {N all o l e H e' H'} (hw : wants all e o = some false) (h : D P X (.ops N all l (e.put o.dst (.val undef)) H e' H')) : D P X (.ops N all (o :: l) e H e' H')
  | op {N all o l e H p H1 e' H'} (tgt : Nat) (hw : wants all e o = some true) (ho : aop P e o H tgt = some (p, H1))
      (h : D P X (.ops N all l (e.put o.dst p) H1 e' H')) : D P X (.ops N all (o :: l) e H e' H')
  | callI {N all o l e H f args r H1 e' H'} (hw : wants all e o = some true) (hf : callee P e o = some (f, args)) (hc : D P X (.callH f args H r H1))
      (h : D P X (.ops N all l (e.put o.dst r) H1 e' H')) : D P X (.ops N all (o :: l) e H e' H')
  | focus {f args args' H H0 r' Hc r Hd H1} (bs ls ts : List Nat) (fz : Bool)
      (ha : All2 (Conv H (.lend bs ls) false) args args') (hH0 : HeapConv H (.lend bs ls) bs H0) (hnd : (bs ++ ls ++ ts).Nodup) (hls : ls.all (fun b => ((H[b]?).map fun k => k.mp.isNone).getD false) = true)
      (hts : ts.all (fun b => match H[b]? with | some ⟨0, [], 0, none⟩ => true | _ => false) = true)
      (hc : D P X (.callH f args' H0 r' Hc)) (hr : Conv Hc (.back (bs ++ ts)) false r' r) (hd : All2 (BlkConv Hc (.back (bs ++ ts))) Hc Hd) (hdl : Hd.length = (bs ++ ts).length)
      (hfz : fz = true ∨ ls = [] ∨ (PV.solid deep r' = true ∧ Hc.all Blk.solid = true))
      (hH1 : H1 = setAll (if fz then H.freeze ls else H) (bs ++ ts) Hd) : D P X (.callH f args H r H1)
  | nilQ {f H r H'} (pre post : List PV) (h : ∀ (z : Option Addr) (k : Nat), D P X (.callH f (pre ++ .val (.slice z 0 k) :: post) H r H')) : D P X (.callH f (pre ++ .rows [] :: post) H r H')
  | ext {f args H r H'} (h : X f args H r H') : D P X (.callH f args H r H')
  | callH {f fn c args H r H'} (hf : P.funcs[f]? = some fn) (hb : fn.body = some c)
      (h : D P X (.run fn (max args.length fn.ntmps) H.length false [.code c] (argEnv args) H (.ret r) H')) : D P X (.callH f args H r H')
end Go.RM
namespace Go.RM
set_option linter.unusedVariables false
set_option linter.unusedSimpArgs false
variable {P : Program} {φ φ1 φ' : Place} {F F1 F' : Mem} {H H1 : Heap} {w w1 : World} {f : Map}
theorem conv_ok (h : HR φ F H w) (hφ : ∀ b b' n x, f b = some (some b') → φ b n = some x → φ1 b' n = some x) (hF : F.le F1)
    (hfix : ∀ (b : Nat) (k : Blk) (c cap : Nat) (arr : Array Value) (el : TypeId), f b = some none → H[b]? = some k → k.mp = none → φ b k.es.length = some (c, cap) → w.heap[c]? = some (.cells arr el (0, 0)) →
      ∀ j v, j < k.es.length * k.sz → arr[j]? = some v → F1 c j = some v)
    {s : Bool} {p q : PV} (hc : Conv H f s p q) : ∀ v, Rep φ F p v → Rep φ1 F1 q v ∧ (s = true → Imm F1 q v) := by
  induction hc with
  | undef => exact fun v _ => ⟨.imm (.undef v), fun _ => .undef v⟩
  | @free s p q e hp => subst e; exact fun v hv => ⟨.imm ((hv.imm_of_free _ hp).mono hF), fun _ => (hv.imm_of_free _ hp).mono hF⟩
  | nil => intro v hv; rw [hv.val_inv]; exact ⟨.imm (.none _ _), fun _ => .none _ _⟩
  | nilOwn => intro v hv; rw [hv.val_inv]; exact ⟨.own0 _, fun h => (by cases h)⟩
  | nocap => intro v hv; obtain ⟨ad, rfl⟩ := hv.nocap_inv; exact ⟨.imm (.none _ _), fun _ => .none _ _⟩
  | own hf =>
    intro v hv
    refine ⟨?_, fun h => by cases h⟩
    rcases hv.own_inv with ⟨rfl, rfl⟩ | ⟨c, cap, hp, rfl⟩
    · exact .own0 _
    · exact .own _ _ c cap (hφ _ _ _ _ hf hp)
  | ptr hf =>
    intro v hv
    refine ⟨?_, fun h => by cases h⟩
    obtain ⟨c, cap, hp, rfl⟩ := hv.ptr_inv
    exact .ptr _ _ _ _ _ c cap (hφ _ _ _ _ hf hp)
  | mp hf =>
    intro v hv
    refine ⟨?_, fun h => by cases h⟩
    cases hv with
    | imm h => cases h
    | mp _ c cap hp => exact .mp _ c cap (hφ _ _ _ _ hf hp)
  | @fixOwn s b n k es hf hk hn hmp hl hu _ ih =>
    intro v hv
    have key : Imm F1 (.rows es) v := by
      subst hn
      rcases hv.own_inv with ⟨h0, rfl⟩ | ⟨c, cap, hp, rfl⟩
      · have : es = [] := List.eq_nil_of_length_eq_zero (by omega)
        subst this
        exact .none _ _
      · have hB := h.blk b k hk
        rcases hB.at_ with ⟨h0, _, h2⟩ | ⟨hpos, _, c', cap', h2, arr, el, hheap, g1, g2, g3, g4, g5⟩ | ⟨_, _, l, _, _, h1, _⟩
        · rw [h0] at hp; simp only [List.length_nil] at hp; rw [h2] at hp; cases hp
        · rw [hp] at h2; cases h2
          have hat : ∀ (i j : Nat) (y : List PV) (q : PV), es[i]? = some y → y[j]? = some q → ∃ u, arr[i * k.sz + j]? = some u ∧ u.oneCell' = true ∧ Imm F1 q u ∧ i * k.sz + j < k.es.length * k.sz := by
            intro i j y q hy hq
            have hi : i < k.es.length := by rw [← hl]; exact (List.getElem?_eq_some_iff.1 hy).1
            have hx : k.es[i]? = some k.es[i] := by simp [hi]
            have hxl := hu i _ y hx hy
            have hj : j < k.es[i].length := by rw [hxl]; exact (List.getElem?_eq_some_iff.1 hq).1
            have hpp : (k.es[i])[j]? = some (k.es[i])[j] := by simp [hj]
            obtain ⟨u, hu1, hu2, hu3⟩ := g5 i j _ _ hx hpp
            have hsz : k.es[i].length = k.sz := hB.uni _ (List.getElem_mem hi)
            have : (i + 1) * k.sz ≤ k.es.length * k.sz := Nat.mul_le_mul_right _ (by omega)
            rw [Nat.add_mul] at this
            exact ⟨u, hu1, hu2, (ih i j _ y _ q hx hy hpp hq u hu3).2 rfl, by omega⟩
          have huni : ∀ e ∈ es, e.length = k.sz := by
            intro e he
            obtain ⟨i, hi⟩ := List.getElem?_of_mem he
            have hil : i < k.es.length := by rw [← hl]; exact (List.getElem?_eq_some_iff.1 hi).1
            have := hu i k.es[i] e (by simp [hil]) hi
            rw [← this]; exact hB.uni _ (List.getElem_mem hil)
          have := Imm.rows (F := F1) es c 0 cap k.sz (fun i j => arr.getD (i * k.sz + j) undef) huni (fun i j e p he hp' => by
            obtain ⟨u, g6, g7, g8, g9⟩ := hat i j e p he hp'
            have gD : arr.getD (i * k.sz + j) undef = u := by simp [g6]
            rw [gD, Nat.zero_add]
            exact ⟨hfix b k c cap arr el hf hk hmp hp hheap _ _ g9 g6, g7⟩) (fun i j e p he hp' => by
            obtain ⟨u, g6, g7, g8, g9⟩ := hat i j e p he hp'
            have gD : arr.getD (i * k.sz + j) undef = u := by simp [g6]
            rw [gD]; exact g8) (by omega)
          rw [← hl]; exact this
        · rw [hmp] at h1; cases h1
    exact ⟨.imm key, fun _ => key⟩
  | @fixPtr s b n sz i off k x y hf hk hn hz hx hl _ ih =>
    intro v hv
    have key : Imm F1 (.cptr y off) v := by
      subst hn hz
      obtain ⟨c, cap, hp, rfl⟩ := hv.ptr_inv
      have hB := h.blk b k hk
      rcases hB.at_ with ⟨h0, _⟩ | ⟨hpos, hmp, c', cap', h2, arr, el, hheap, g1, g2, g3, g4, g5⟩ | ⟨_, h0, _⟩
      · rw [h0] at hx; simp at hx
      · rw [hp] at h2; cases h2
        have hi : i < k.es.length := (List.getElem?_eq_some_iff.1 hx).1
        have hsz : x.length = k.sz := hB.uni x (List.mem_of_getElem? hx)
        have hat : ∀ (j : Nat) (q : PV), y[j]? = some q → ∃ u, arr[i * k.sz + j]? = some u ∧ u.oneCell' = true ∧ Imm F1 q u ∧ i * k.sz + j < k.es.length * k.sz := by
          intro j q hq
          have hj : j < x.length := by rw [hl]; exact (List.getElem?_eq_some_iff.1 hq).1
          have hpp : x[j]? = some x[j] := by simp [hj]
          obtain ⟨u, hu1, hu2, hu3⟩ := g5 i j x _ hx hpp
          have : (i + 1) * k.sz ≤ k.es.length * k.sz := Nat.mul_le_mul_right _ (by omega)
          rw [Nat.add_mul] at this
          exact ⟨u, hu1, hu2, (ih j _ q hpp hq u hu3).2 rfl, by omega⟩
        exact Imm.cptr (F := F1) y off c (i * k.sz) (fun j => arr.getD (i * k.sz + j) undef) (fun j q hq => by
          obtain ⟨u, g6, g7, g8, g9⟩ := hat j q hq
          have gD : arr.getD (i * k.sz + j) undef = u := by simp [g6]
          rw [gD]
          exact ⟨hfix b k c cap arr el hf hk hmp hp hheap _ _ g9 g6, g7⟩) (fun j q hq => by
          obtain ⟨u, g6, g7, g8, g9⟩ := hat j q hq
          have gD : arr.getD (i * k.sz + j) undef = u := by simp [g6]
          rw [gD]; exact g8)
      · rw [h0] at hx; simp at hx
    exact ⟨.imm key, fun _ => key⟩
  | @agg s cs ds hl _ ih =>
    intro v hv
    obtain ⟨arr, rfl, ha, hi⟩ := hv.agg_inv
    have sub : ∀ (j : Nat) (q : PV) (u : Value), ds[j]? = some q → arr[j]? = some u → Rep φ1 F1 q u ∧ (s = true → Imm F1 q u) := by
      intro j q u hq hu
      have hj : j < cs.length := by rw [hl]; exact (List.getElem?_eq_some_iff.1 hq).1
      exact ih j cs[j] q (by simp [hj]) hq u (hi j _ u (by simp [hj]) hu)
    exact ⟨.agg _ _ (by omega) fun j q u hq hu => (sub j q u hq hu).1, fun hs => .agg _ _ (by omega) fun j q u hq hu => (sub j q u hq hu).2 hs⟩
  | @tuple s cs ds hl _ ih =>
    intro v hv
    obtain ⟨arr, rfl, ha, hi⟩ := hv.tuple_inv
    have sub : ∀ (j : Nat) (q : PV) (u : Value), ds[j]? = some q → arr[j]? = some u → Rep φ1 F1 q u ∧ (s = true → Imm F1 q u) := by
      intro j q u hq hu
      have hj : j < cs.length := by rw [hl]; exact (List.getElem?_eq_some_iff.1 hq).1
      exact ih j cs[j] q (by simp [hj]) hq u (hi j _ u (by simp [hj]) hu)
    exact ⟨.tuple _ _ (by omega) fun j q u hq hu => (sub j q u hq hu).1, fun hs => .tuple _ _ (by omega) fun j q u hq hu => (sub j q u hq hu).2 hs⟩
  | @clo s g cs ds hl _ ih =>
    intro v hv
    obtain ⟨arr, rfl, ha, hi⟩ := hv.clo_inv
    have sub : ∀ (j : Nat) (q : PV) (u : Value), ds[j]? = some q → arr[j]? = some u → Rep φ1 F1 q u ∧ (s = true → Imm F1 q u) := by
      intro j q u hq hu
      have hj : j < cs.length := by rw [hl]; exact (List.getElem?_eq_some_iff.1 hq).1
      exact ih j cs[j] q (by simp [hj]) hq u (hi j _ u (by simp [hj]) hu)
    exact ⟨.clo _ _ _ (by omega) fun j q u hq hu => (sub j q u hq hu).1, fun hs => .clo _ _ _ (by omega) fun j q u hq hu => (sub j q u hq hu).2 hs⟩
theorem imm_solid : ∀ (n : Nat) {p : PV} {v : Value}, PV.solid n p = true → Imm F p v → Imm F1 p v
  | 0, p, v, h, _ => by simp [PV.solid] at h
  | n + 1, p, v, h, hr => by
    cases hr with
    | undef v => exact .undef v
    | val v => exact .val v
    | none a cap => exact .none a cap
    | nocap a => exact .nocap a
    | rows es c o cap sz g h2 h3 h4 h5 =>
      cases es with
      | nil => exact .none _ _
      | cons x es => simp [PV.solid] at h
    | cptr cells off c o g h2 h3 => simp [PV.solid] at h
    | agg cells cs hl hi =>
      simp only [PV.solid, List.all_eq_true] at h
      exact .agg _ _ hl fun j p v hp hv => imm_solid n (h p (List.mem_of_getElem? hp)) (hi j p v hp hv)
    | tuple cells cs hl hi =>
      simp only [PV.solid, List.all_eq_true] at h
      exact .tuple _ _ hl fun j p v hp hv => imm_solid n (h p (List.mem_of_getElem? hp)) (hi j p v hp hv)
    | clo f cells cs hl hi =>
      simp only [PV.solid, List.all_eq_true] at h
      exact .clo _ _ _ hl fun j p v hp hv => imm_solid n (h p (List.mem_of_getElem? hp)) (hi j p v hp hv)
theorem conv_solid (hφ : ∀ b b' n x, f b = some (some b') → φ b n = some x → φ1 b' n = some x) (hno : ∀ b, f b ≠ some none)
    {s : Bool} {p q : PV} (hc : Conv H f s p q) : ∀ n v, PV.solid n p = true → Rep φ F p v → Rep φ1 F1 q v := by
  induction hc with
  | undef => exact fun n v _ _ => .imm (.undef v)
  | @free s p q e hp => subst e; exact fun n v hs hv => .imm (imm_solid n hs (hv.imm_of_free _ hp))
  | nil => intro n v _ hv; rw [hv.val_inv]; exact .imm (.none _ _)
  | nilOwn => intro n v _ hv; rw [hv.val_inv]; exact .own0 _
  | nocap => intro n v _ hv; obtain ⟨ad, rfl⟩ := hv.nocap_inv; exact .imm (.none _ _)
  | own hf =>
    intro n v _ hv
    rcases hv.own_inv with ⟨rfl, rfl⟩ | ⟨c, cap, hp, rfl⟩
    · exact .own0 _
    · exact .own _ _ c cap (hφ _ _ _ _ hf hp)
  | ptr hf =>
    intro n v _ hv
    obtain ⟨c, cap, hp, rfl⟩ := hv.ptr_inv
    exact .ptr _ _ _ _ _ c cap (hφ _ _ _ _ hf hp)
  | mp hf =>
    intro n v _ hv
    cases hv with
    | imm h => cases h
    | mp _ c cap hp => exact .mp _ c cap (hφ _ _ _ _ hf hp)
  | fixOwn hf => exact absurd hf (hno _)
  | fixPtr hf => exact absurd hf (hno _)
  | @agg s cs ds hl _ ih =>
    intro n v hs hv
    obtain ⟨arr, rfl, ha, hi⟩ := hv.agg_inv
    cases n with
    | zero => simp [PV.solid] at hs
    | succ n =>
      simp only [PV.solid, List.all_eq_true] at hs
      exact .agg _ _ (by omega) fun j q u hq hu => by
        have hj : j < cs.length := by rw [hl]; exact (List.getElem?_eq_some_iff.1 hq).1
        exact ih j cs[j] q (by simp [hj]) hq n u (hs _ (List.getElem_mem hj)) (hi j _ u (by simp [hj]) hu)
  | @tuple s cs ds hl _ ih =>
    intro n v hs hv
    obtain ⟨arr, rfl, ha, hi⟩ := hv.tuple_inv
    cases n with
    | zero => simp [PV.solid] at hs
    | succ n =>
      simp only [PV.solid, List.all_eq_true] at hs
      exact .tuple _ _ (by omega) fun j q u hq hu => by
        have hj : j < cs.length := by rw [hl]; exact (List.getElem?_eq_some_iff.1 hq).1
        exact ih j cs[j] q (by simp [hj]) hq n u (hs _ (List.getElem_mem hj)) (hi j _ u (by simp [hj]) hu)
  | @clo s g cs ds hl _ ih =>
    intro n v hs hv
    obtain ⟨arr, rfl, ha, hi⟩ := hv.clo_inv
    cases n with
    | zero => simp [PV.solid] at hs
    | succ n =>
      simp only [PV.solid, List.all_eq_true] at hs
      exact .clo _ _ _ (by omega) fun j q u hq hu => by
        have hj : j < cs.length := by rw [hl]; exact (List.getElem?_eq_some_iff.1 hq).1
        exact ih j cs[j] q (by simp [hj]) hq n u (hs _ (List.getElem_mem hj)) (hi j _ u (by simp [hj]) hu)
end Go.RM
namespace Go.RM
set_option linter.unusedVariables false
set_option linter.unusedSimpArgs false
variable {P : Program} {φ φ1 φ' : Place} {F F1 F' : Mem} {H H1 : Heap} {w w1 : World} {f : Map} {e e1 : Env} {a : Act}
def Place.sub (φ : Place) (bs : List Nat) : Place := fun i n => (bs[i]?).bind fun b => φ b n
def FixCell (φ : Place) (H : Heap) (f : Map) (c j : Nat) : Prop := ∃ b k cap, f b = some none ∧ H[b]? = some k ∧ k.mp = none ∧ φ b k.es.length = some (c, cap) ∧ j < k.es.length * k.sz
open Classical in
noncomputable def Mem.ext (F : Mem) (φ : Place) (H : Heap) (w : World) (f : Map) : Mem := fun c j => match F c j with
  | some v => some v
  | none => if FixCell φ H f c j then w.cell? ⟨c, j, none⟩ else none
theorem Mem.ext_le (F : Mem) (φ : Place) (H : Heap) (w : World) (f : Map) : F.le (F.ext φ H w f) := by
  intro c j v hv
  unfold Mem.ext
  rw [hv]
theorem Mem.ext_not {c j : Nat} (h : ¬ FixCell φ H f c j) : F.ext φ H w f c j = F c j := by
  unfold Mem.ext
  cases F c j with
  | some v => rfl
  | none => simp [h]
theorem Mem.ext_holds (h : Holds F w) : Holds (F.ext φ H w f) w := by
  intro c j v hv
  unfold Mem.ext at hv
  cases hF : F c j with
  | some u => rw [hF] at hv; cases hv; exact h c j _ hF
  | none =>
    rw [hF] at hv
    simp only at hv
    split at hv
    · unfold World.cell? at hv
      split at hv
      · rename_i arr el fr hheap
        exact ⟨arr, el, fr, hheap, by simpa using hv⟩
      · cases hv
    · cases hv
theorem Mem.ext_fix (h : HR φ F H w) {b : Nat} {k : Blk} {c cap : Nat} {arr : Array Value} {el : TypeId} (hf : f b = some none) (hk : H[b]? = some k) (hmp : k.mp = none) (hp : φ b k.es.length = some (c, cap)) (hheap : w.heap[c]? = some (.cells arr el (0, 0)))
    (j : Nat) (v : Value) (hj : j < k.es.length * k.sz) (hv : arr[j]? = some v) : F.ext φ H w f c j = some v := by
  unfold Mem.ext
  cases hF : F c j with
  | some u =>
    obtain ⟨arr', el', fr', hh, hu⟩ := h.mem c j u hF
    rw [hheap] at hh; cases hh
    rw [hv] at hu; cases hu; rfl
  | none =>
    have : FixCell φ H f c j := ⟨b, k, cap, hf, hk, hmp, hp, hj⟩
    simp only [this, if_true]
    rw [cell_of hheap]; exact hv
structure Map.On (f : Map) (bs : List Nat) : Prop where
  to_ : ∀ (i b : Nat), bs[i]? = some b → f b = some (some i)
  of_ : ∀ (b i : Nat), f b = some (some i) → bs[i]? = some b
theorem idxOf?_of_nodup : ∀ (bs : List Nat), bs.Nodup → ∀ (i b : Nat), bs[i]? = some b → bs.idxOf? b = some i
  | [], _, i, b, h => by simp at h
  | x :: bs, hn, i, b, h => by
    rw [List.nodup_cons] at hn
    cases i with
    | zero => simp at h; subst h; simp [List.idxOf?_cons]
    | succ i =>
      have hb : bs[i]? = some b := by simpa using h
      have hne : ¬ x = b := by rintro rfl; exact hn.1 (List.mem_of_getElem? hb)
      simp [List.idxOf?_cons, hne, idxOf?_of_nodup bs hn.2 i b hb]
theorem idxOf?_some : ∀ (bs : List Nat) (b i : Nat), bs.idxOf? b = some i → bs[i]? = some b
  | [], b, i, h => by simp at h
  | x :: bs, b, i, h => by
    rw [List.idxOf?_cons] at h
    split at h
    · rename_i hx; cases h; simpa using hx
    · simp only [Option.map_eq_some_iff] at h
      obtain ⟨j, hj, rfl⟩ := h
      simpa using idxOf?_some bs b j hj
theorem Map.keep_on {bs : List Nat} (h : bs.Nodup) : (Map.keep bs).On bs :=
  ⟨fun i b hb => by simp [Map.keep, idxOf?_of_nodup bs h i b hb], fun b i hb => idxOf?_some bs b i (by simpa [Map.keep] using hb)⟩
theorem Map.lend_on {bs ls : List Nat} (h : bs.Nodup) : (Map.lend bs ls).On bs :=
  ⟨fun i b hb => by simp [Map.lend, idxOf?_of_nodup bs h i b hb], fun b i hb => by
    unfold Map.lend at hb
    split at hb
    · rename_i j hj; simp only [Option.some.injEq] at hb; subst hb; exact idxOf?_some bs b _ hj
    · split at hb <;> cases hb⟩
theorem blk_conv (h : HR φ F H w) {i b : Nat} {k k1 : Blk} (hk : H[b]? = some k) (hc : BlkConv H f k k1) (hφ0 : ∀ n, φ1 i n = φ b n) (hw : ∀ c cap, φ b k.es.length = some (c, cap) → w1.heap[c]? = w.heap[c]?)
    (hnone : ∀ c cap j, 0 < k.sz → φ b k.es.length = some (c, cap) → k.frozen * k.sz ≤ j → F c j = none → F1 c j = none)
    (hrep : ∀ p q v, Conv H f false p q → Rep φ F p v → ((∃ x ∈ k.es, p ∈ x) ∨ ∃ l, k.mp = some l ∧ ∃ y ∈ l, p = y.2) → Rep φ1 F1 q v) : BlkIn φ1 F1 w1 i k1 := by
  have hB := h.blk b k hk
  have pair : ∀ (i j : Nat) (y : List PV) (q : PV), k1.es[i]? = some y → y[j]? = some q → ∃ (hi : i < k.es.length) (hj : j < (k.es[i]).length), k.es[i].length = y.length ∧ Conv H f false (k.es[i])[j] q := by
    intro i j y q hy hq
    have hi : i < k.es.length := by rw [hc.len]; exact (List.getElem?_eq_some_iff.1 hy).1
    have hx : k.es[i]? = some k.es[i] := by simp [hi]
    have hxl := hc.uni i _ y hx hy
    have hj : j < k.es[i].length := by rw [hxl]; exact (List.getElem?_eq_some_iff.1 hq).1
    exact ⟨hi, hj, hxl, hc.es i j _ y _ q hx hy (by simp [hj]) hq⟩
  have hnil : k.es = [] → k1.es = [] := fun h0 => List.eq_nil_of_length_eq_zero (by rw [← hc.len, h0]; rfl)
  refine ⟨fun y hy => ?_, ?_⟩
  · obtain ⟨i, hi⟩ := List.getElem?_of_mem hy
    have hil : i < k.es.length := by rw [hc.len]; exact (List.getElem?_eq_some_iff.1 hi).1
    have := hc.uni i k.es[i] y (by simp [hil]) hi
    rw [← this, hc.sz]; exact hB.uni _ (List.getElem_mem hil)
  · rcases hB.at_ with ⟨h0, h1, h2⟩ | ⟨hpos, h1, c, cap, hp, arr, el, hheap, g1, g2, g3, g4, g5⟩ | ⟨hpos, h0, l, c, cap, h1, h2, es, cl, hheap, g1⟩
    · refine .inl ⟨hnil h0, ?_, by rw [hφ0]; exact h2⟩
      rcases hc.mp with ⟨_, g⟩ | ⟨l, l1, g, -⟩
      · exact g
      · rw [h1] at g; cases g
    · refine .inr (.inl ⟨by rw [hc.sz]; exact hpos, ?_, c, cap, by rw [hφ0, ← hc.len]; exact hp, arr, el, by rw [hw c cap hp]; exact hheap, by rw [← hc.len]; exact g1, g2, by rw [hc.sz]; exact g3, fun j hj => ?_, fun i j y q hy hq => ?_⟩)
      · rcases hc.mp with ⟨_, g⟩ | ⟨l, l1, g, -⟩
        · exact g
        · rw [h1] at g; cases g
      · rw [hc.sz] at hj
        have hj' : k.frozen * k.sz ≤ j := Nat.le_trans (Nat.mul_le_mul_right _ hc.frozen) hj
        exact hnone c cap j hpos hp hj' (g4 j hj')
      · obtain ⟨hi, hj, hl, hcv⟩ := pair i j y q hy hq
        obtain ⟨v, hv, hone, hr⟩ := g5 i j k.es[i] (k.es[i])[j] (by simp [hi]) (by simp [hj])
        exact ⟨v, by rw [hc.sz]; exact hv, hone, hrep _ _ _ hcv hr (.inl ⟨_, List.getElem_mem hi, List.getElem_mem hj⟩)⟩
    · rcases hc.mp with ⟨g, _⟩ | ⟨l', l1, g, g', hall⟩
      · rw [h1] at g; cases g
      rw [h1] at g; cases g
      refine .inr (.inr ⟨by rw [hc.sz]; exact hpos, hnil h0, l1, c, cap, g', by rw [hφ0]; exact h2, es, cl, by rw [hw c cap (by rw [h0]; exact h2)]; exact hheap, ?_⟩)
      have key : ∀ (l l1 : List (Value × PV)) (es : List MapEntry), All2 (fun (x y : Value × PV) => x.1 = y.1 ∧ Conv H f false x.2 y.2) l l1 → All2 (fun (x : Value × PV) (m : MapEntry) => m.key = x.1 ∧ Rep φ F x.2 m.val) l es →
          (∀ x ∈ l, ∃ l, k.mp = some l ∧ ∃ y ∈ l, x.2 = y.2) → All2 (fun (x : Value × PV) (m : MapEntry) => m.key = x.1 ∧ Rep φ1 F1 x.2 m.val) l1 es := by
        intro l l1 es ha
        induction ha generalizing es with
        | nil => intro hb _; cases hb; exact .nil
        | cons hx _ ih =>
          intro hb hm
          cases hb with
          | cons hy hb =>
            exact .cons ⟨by rw [hy.1, hx.1], hrep _ _ _ hx.2 hy.2 (.inr (hm _ (by simp)))⟩ (ih _ hb fun x hx => hm x (by simp [hx]))
      exact key l l1 es.toList hall g1 fun x hx => ⟨l, h1, x, hx, rfl⟩
theorem heap_conv (h : HR φ F H w) {bs : List Nat} (hnd : bs.Nodup) (hon : f.On bs) (hH : HeapConv H f bs H1) : HR (φ.sub bs) (F.ext φ H w f) H1 w := by
  have at_ : ∀ (i : Nat) (k1 : Blk), H1[i]? = some k1 → ∃ b k, bs[i]? = some b ∧ H[b]? = some k ∧ BlkConv H f k k1 := by
    intro i k1 hk1
    have hi : i < bs.length := by rw [hH.1]; exact (List.getElem?_eq_some_iff.1 hk1).1
    obtain ⟨k, hk, hc⟩ := hH.2 i bs[i] k1 (by simp [hi]) hk1
    exact ⟨bs[i], k, by simp [hi], hk, hc⟩
  have sub : ∀ (i b n : Nat), bs[i]? = some b → φ.sub bs i n = φ b n := by intro i b n hb; simp [Place.sub, hb]
  have hφ : ∀ b b' n x, f b = some (some b') → φ b n = some x → φ.sub bs b' n = some x := by
    intro b b' n x hf hx
    rw [sub b' b n (hon.of_ b b' hf)]; exact hx
  have apart : ∀ (i b : Nat) (k : Blk) (c cap j : Nat), bs[i]? = some b → H[b]? = some k → φ b k.es.length = some (c, cap) → ¬ FixCell φ H f c j := by
    rintro i b k c cap j hb hk hp ⟨b', k', cap', hf, hk', _, hp', _⟩
    have hne : b ≠ b' := by rintro rfl; rw [hon.to_ i b hb] at hf; cases hf
    exact h.sep b b' k k' c cap c cap' hne hk hk' hp hp' rfl
  refine ⟨Mem.ext_holds h.mem, fun i k1 hk1 => ?_, fun i i' k1 k2 c cap c' cap' hne hk1 hk2 hp hp' => ?_, fun i n x hx => ?_⟩
  · obtain ⟨b, k, hb, hk, hc⟩ := at_ i k1 hk1
    refine blk_conv h hk hc (fun n => sub i b n hb) (fun _ _ _ => rfl) (fun c cap j _ hp _ hF => ?_) (fun p q v hcv hr _ => ?_)
    · rw [Mem.ext_not (apart i b k c cap j hb hk hp)]; exact hF
    · exact (conv_ok h hφ (Mem.ext_le F φ H w f) (fun b k c cap arr el hf hk hmp hp hheap j v hj hv => Mem.ext_fix h hf hk hmp hp hheap j v hj hv) hcv v hr).1
  · obtain ⟨b, k, hb, hk, hc⟩ := at_ i k1 hk1
    obtain ⟨b', k', hb', hk', hc'⟩ := at_ i' k2 hk2
    have hne' : b ≠ b' := by
      rintro rfl
      have h1 := hon.to_ i b hb
      have h2 := hon.to_ i' b hb'
      rw [h1] at h2
      exact hne (Option.some.inj (Option.some.inj h2))
    rw [sub i b _ hb, ← hc.len] at hp
    rw [sub i' b' _ hb', ← hc'.len] at hp'
    exact h.sep b b' k k' c cap c' cap' hne' hk hk' hp hp'
  · unfold Place.sub at hx
    simp only [Option.bind_eq_some_iff] at hx
    obtain ⟨b, hb, hx⟩ := hx
    obtain ⟨k, hk, hn⟩ := h.dom b n x hx
    have hi : i < H1.length := by rw [← hH.1]; exact (List.getElem?_eq_some_iff.1 hb).1
    obtain ⟨k', hk', hc⟩ := hH.2 i b H1[i] hb (by simp [hi])
    rw [hk] at hk'; cases hk'
    exact ⟨H1[i], by simp [hi], by rw [← hc.len]; exact hn⟩
theorem env_conv (h : HR φ F H w) {bs : List Nat} (hon : f.On bs) (he : EnvConv H f e e1) (hr : Reps φ F e a) : Reps (φ.sub bs) (F.ext φ H w f) e1 a := fun t =>
  (conv_ok h (fun b b' n x hf hx => by simp [Place.sub, hon.of_ b b' hf, hx]) (Mem.ext_le F φ H w f) (fun b k c cap arr el hf hk hmp hp hheap j v hj hv => Mem.ext_fix h hf hk hmp hp hheap j v hj hv) (he t) _ (hr t)).1
theorem keep_post (h : HR φ F H w) {bs : List Nat} {M : Nat} (hM : ∀ b, b < M → bs[b]? = some b) (hnd : bs.Nodup) (hH : HeapConv H (.keep bs) bs H1) : PostM M φ F H w (φ.sub bs) (F.ext φ H w (.keep bs)) H1 w := by
  have hon := Map.keep_on hnd
  refine ⟨fun b n x hb hx => by simp [Place.sub, hM b hb, hx], Mem.ext_le _ _ _ _ _, heap_conv h hnd hon hH, .refl φ H w, fun i k1 c cap hk1 hp => .inr ?_, fun c hc => ?_⟩
  · have hi : i < bs.length := by rw [hH.1]; exact (List.getElem?_eq_some_iff.1 hk1).1
    obtain ⟨k, hk, hcv⟩ := hH.2 i bs[i] k1 (by simp [hi]) hk1
    refine ⟨bs[i], k, cap, hk, ?_⟩
    have : φ.sub bs i k1.es.length = φ bs[i] k1.es.length := by simp [Place.sub, hi]
    rw [this, ← hcv.len] at hp
    exact hp
  · by_cases hx : ∃ b k cap, H[b]? = some k ∧ φ b k.es.length = some (c, cap)
    · exact .inr hx
    · refine .inl (funext fun j => Mem.ext_not ?_)
      rintro ⟨b, k, cap, -, hk, -, hp, -⟩
      exact hx ⟨b, k, cap, hk, hp⟩
theorem Map.same_ok (h : HR φ F H w) {p q : PV} {v : Value} (hc : Conv H .same false p q) (hr : Rep φ F p v) : Rep φ F q v :=
  (conv_ok (φ1 := φ) (F1 := F) h (fun b b' n x hf hx => by simp [Map.same] at hf; subst hf; exact hx) (.refl F) (fun b k c cap arr el hf => by simp [Map.same] at hf) hc v hr).1
theorem env_same (h : HR φ F H w) (he : EnvConv H .same e e1) (hr : Reps φ F e a) : Reps φ F e1 a := fun t => Map.same_ok h (he t) (hr t)
end Go.RM
namespace Go.RM
set_option linter.unusedVariables false
set_option linter.unusedSimpArgs false
variable {P : Program} {φ φ1 φ' : Place} {F F1 F' : Mem} {H H1 : Heap} {w w' : World} {f : Map} {e e1 : Env} {a : Act}
theorem setAll_not : ∀ (l : List Nat) (ks : List Blk) (H : Heap) (b : Nat), b ∉ l → (setAll H l ks)[b]? = H[b]?
  | [], ks, H, b, _ => by cases ks <;> rfl
  | x :: l, [], H, b, _ => rfl
  | x :: l, k :: ks, H, b, h => by
    simp only [List.mem_cons, not_or] at h
    simp only [setAll]
    rw [setAll_not l ks _ b h.2, List.getElem?_set_ne (Ne.symm h.1)]
theorem setAll_at : ∀ (l : List Nat) (ks : List Blk) (H : Heap) (i b : Nat), l.Nodup → l.length = ks.length → (∀ b ∈ l, b < H.length) → l[i]? = some b → (setAll H l ks)[b]? = ks[i]?
  | [], ks, H, i, b, _, _, _, h => by simp at h
  | x :: l, [], H, i, b, _, hl, _, _ => by simp at hl
  | x :: l, k :: ks, H, i, b, hn, hl, hlt, h => by
    rw [List.nodup_cons] at hn
    simp only [setAll]
    cases i with
    | zero =>
      simp at h; subst h
      rw [setAll_not l ks _ x hn.1, List.getElem?_set_self (hlt x (by simp))]
      simp
    | succ i =>
      simp only [List.getElem?_cons_succ] at h ⊢
      exact setAll_at l ks _ i b hn.2 (by simpa using hl) (fun b hb => by simpa using hlt b (by simp [hb])) h
theorem freeze_get (H : Heap) (ls : List Nat) (b : Nat) : (H.freeze ls)[b]? = (H[b]?).map fun k => if ls.contains b then { k with frozen := max k.frozen k.es.length } else k := by
  unfold Heap.freeze
  rw [List.getElem?_mapIdx]
theorem All2.at {α β : Type} {R : α → β → Prop} {l : List α} {m : List β} (h : All2 R l m) : l.length = m.length ∧ ∀ (i : Nat) (x : α) (y : β), l[i]? = some x → m[i]? = some y → R x y := by
  induction h with
  | nil => exact ⟨rfl, fun i x y h => by simp at h⟩
  | cons h1 _ ih =>
    refine ⟨by simp [ih.1], fun i x y hx hy => ?_⟩
    cases i with
    | zero => simp at hx hy; subst hx hy; exact h1
    | succ i => exact ih.2 i x y (by simpa using hx) (by simpa using hy)
def Place.back (φ φ' : Place) (l : List Nat) : Place := fun b n => match l.idxOf? b with
  | some i => φ' i n
  | none => φ b n
def LentAt (φ : Place) (H : Heap) (ls : List Nat) (c : Nat) : Prop := ∃ b k cap, b ∈ ls ∧ H[b]? = some k ∧ φ b k.es.length = some (c, cap)
open Classical in
noncomputable def Mem.back (F F' : Mem) (φ : Place) (H : Heap) (ls : List Nat) (fz : Bool) : Mem := fun c j => if fz = false ∧ LentAt φ H ls c then F c j else F' c j
theorem call_back {bs ls ts : List Nat} {fz : Bool} {H0 Hc Hd : Heap} {r r' : PV} {v : Value} (h : HR φ F H w) (hnd : (bs ++ ls ++ ts).Nodup) (hls : ls.all (fun b => ((H[b]?).map fun k => k.mp.isNone).getD false) = true)
    (hts : ∀ t ∈ ts, H[t]? = some Blk.hole) (hH0 : HeapConv H (.lend bs ls) bs H0)
    (hp : Post (φ.sub bs) (F.ext φ H w (.lend bs ls)) H0 w φ' F' Hc w') (hd : All2 (BlkConv Hc (.back (bs ++ ts))) Hc Hd) (hdl : Hd.length = (bs ++ ts).length)
    (hfz : fz = true ∨ ls = [] ∨ (PV.solid deep r' = true ∧ Hc.all Blk.solid = true)) (hr' : Rep φ' F' r' v) (hr : Conv Hc (.back (bs ++ ts)) false r' r) :
    ∃ φ2 F2, Post φ F H w φ2 F2 (setAll (if fz then H.freeze ls else H) (bs ++ ts) Hd) w' ∧ Rep φ2 F2 r v := by
  have hnl : (bs ++ ts).Nodup := by
    rw [List.nodup_append] at hnd ⊢
    obtain ⟨h1, h2, h3⟩ := hnd
    rw [List.nodup_append] at h1
    exact ⟨h1.1, h2, fun x hx y hy => h3 x (by simp [hx]) y hy⟩
  have hbl : ∀ b ∈ bs ++ ts, b ∉ ls := by
    intro b hb hl
    rw [List.nodup_append] at hnd
    obtain ⟨h1, h2, h3⟩ := hnd
    rw [List.nodup_append] at h1
    rcases List.mem_append.1 hb with hb | hb
    · exact h1.2.2 b hb b hl rfl
    · exact h3 b (by simp [hl]) b hb rfl
  have hnb : bs.Nodup := (List.nodup_append.1 hnl).1
  have hon := Map.lend_on (ls := ls) hnb
  have hr0 : HR (φ.sub bs) (F.ext φ H w (.lend bs ls)) H0 w := heap_conv h hnb hon hH0
  have hlt : ∀ b ∈ bs ++ ts, b < H.length := by
    intro b hb
    rcases List.mem_append.1 hb with hb | hb
    · obtain ⟨i, hi⟩ := List.getElem?_of_mem hb
      have hi' : i < H0.length := by rw [← hH0.1]; exact (List.getElem?_eq_some_iff.1 hi).1
      obtain ⟨k, hk, -⟩ := hH0.2 i b H0[i] hi (by simp [hi'])
      exact (List.getElem?_eq_some_iff.1 hk).1
    · exact (List.getElem?_eq_some_iff.1 (hts b hb)).1
  obtain ⟨H2, hH2⟩ : ∃ H2, (if fz then H.freeze ls else H) = H2 := ⟨_, rfl⟩
  have hH2l : H2.length = H.length := by rw [← hH2]; split <;> simp [Heap.freeze]
  have hH2at : ∀ b, H2[b]? = (H[b]?).map fun k => if fz = true ∧ ls.contains b = true then { k with frozen := max k.frozen k.es.length } else k := by
    intro b
    rw [← hH2]
    cases fz with
    | true => simp [freeze_get]
    | false => simp
  rw [hH2]
  obtain ⟨l, hl⟩ : ∃ l, bs ++ ts = l := ⟨_, rfl⟩
  rw [hl] at hnl hbl hlt hdl hd hr ⊢
  have bsl : ∀ (i b : Nat), bs[i]? = some b → l[i]? = some b := by
    intro i b hb
    have := (List.getElem?_eq_some_iff.1 hb).1
    rw [← hl, List.getElem?_append_left this]; exact hb
  have inl : ∀ (b : Nat) (k1 : Blk), (setAll H2 l Hd)[b]? = some k1 → (∃ (i : Nat) (k' : Blk), l[i]? = some b ∧ Hc[i]? = some k' ∧ Hd[i]? = some k1 ∧ BlkConv Hc (.back l) k' k1) ∨
      (b ∉ l ∧ ∃ k, H[b]? = some k ∧ k1 = if fz = true ∧ ls.contains b = true then { k with frozen := max k.frozen k.es.length } else k) := by
    intro b k1 hb
    by_cases hin : b ∈ l
    · obtain ⟨i, hi⟩ := List.getElem?_of_mem hin
      rw [setAll_at l Hd H2 i b hnl hdl.symm (fun b hb => by rw [hH2l]; exact hlt b hb) hi] at hb
      have hil : i < Hc.length := by rw [hd.at.1]; exact (List.getElem?_eq_some_iff.1 hb).1
      exact .inl ⟨i, Hc[i], hi, by simp [hil], hb, hd.at.2 i Hc[i] k1 (by simp [hil]) hb⟩
    · rw [setAll_not l Hd H2 b hin, hH2at] at hb
      simp only [Option.map_eq_some_iff] at hb
      obtain ⟨k, hk, rfl⟩ := hb
      exact .inr ⟨hin, k, hk, rfl⟩
  have φin : ∀ (i b n : Nat), l[i]? = some b → φ.back φ' l b n = φ' i n := by
    intro i b n hi
    simp [Place.back, idxOf?_of_nodup l hnl i b hi]
  have φout : ∀ (b n : Nat), b ∉ l → φ.back φ' l b n = φ b n := by
    intro b n hb
    have : l.idxOf? b = none := by
      cases hx : l.idxOf? b with
      | none => rfl
      | some i => exact absurd (List.mem_of_getElem? (idxOf?_some l b i hx)) hb
    simp [Place.back, this]
  have hle : φ.le (φ.back φ' l) := by
    intro b n x hx
    by_cases hin : b ∈ l
    · obtain ⟨i, hi⟩ := List.getElem?_of_mem hin
      rw [φin i b n hi]
      rcases Nat.lt_or_ge i bs.length with hib | hib
      · have hb : bs[i]? = some b := by rw [← hl, List.getElem?_append_left hib] at hi; exact hi
        exact hp.place i n x (by simp [Place.sub, hb, hx])
      · rw [← hl, List.getElem?_append_right hib] at hi
        rw [h.hole (hts b (List.mem_of_getElem? hi)) n] at hx; cases hx
    · rw [φout b n hin]; exact hx
  have notH0 : ∀ (b : Nat) (k : Blk) (c cap : Nat), b ∉ l → H[b]? = some k → φ b k.es.length = some (c, cap) → ∀ (i : Nat) (k0 : Blk) (cap0 : Nat), H0[i]? = some k0 → φ.sub bs i k0.es.length ≠ some (c, cap0) := by
    intro b k c cap hb hk hpl i k0 cap0 hk0 hp0
    have hi : i < bs.length := by rw [hH0.1]; exact (List.getElem?_eq_some_iff.1 hk0).1
    obtain ⟨k', hk', hcv⟩ := hH0.2 i bs[i] k0 (by simp [hi]) hk0
    have : φ.sub bs i k0.es.length = φ bs[i] k0.es.length := by simp [Place.sub, hi]
    rw [this, ← hcv.len] at hp0
    have hne : b ≠ bs[i] := by rintro rfl; exact hb (by rw [← hl]; simp)
    exact h.sep b bs[i] k k' c cap c cap0 hne hk hk' hpl hp0 rfl
  have newAt : ∀ (i : Nat) (k' : Blk) (c cap : Nat), Hc[i]? = some k' → φ' i k'.es.length = some (c, cap) → w.heap.size ≤ c ∨ ∃ b k cap0, b ∈ bs ∧ H[b]? = some k ∧ φ b k.es.length = some (c, cap0) := by
    intro i k' c cap hk' hp'
    rcases hp.later i k' c cap hk' hp' with g | ⟨i0, k0, cap0, hk0, hp0⟩
    · exact .inl g
    · have hi : i0 < bs.length := by rw [hH0.1]; exact (List.getElem?_eq_some_iff.1 hk0).1
      obtain ⟨k, hk, hcv⟩ := hH0.2 i0 bs[i0] k0 (by simp [hi]) hk0
      have : φ.sub bs i0 k0.es.length = φ bs[i0] k0.es.length := by simp [Place.sub, hi]
      rw [this, ← hcv.len] at hp0
      exact .inr ⟨bs[i0], k, cap0, List.getElem_mem hi, hk, hp0⟩
  have farNew : ∀ (b : Nat) (k : Blk) (c cap : Nat), b ∉ l → H[b]? = some k → φ b k.es.length = some (c, cap) → ∀ (i : Nat) (k' : Blk) (cap' : Nat), Hc[i]? = some k' → φ' i k'.es.length ≠ some (c, cap') := by
    intro b k c cap hb hk hpl i k' cap' hk' hp'
    rcases newAt i k' c cap' hk' hp' with g | ⟨b0, k0, cap0, hb0, hk0, hp0⟩
    · have := h.place_lt hk hpl; omega
    · exact h.sep b b0 k k0 c cap c cap0 (by rintro rfl; exact hb (by rw [← hl]; simp [hb0])) hk hk0 hpl hp0 rfl
  obtain ⟨F2, hF2⟩ : ∃ F2, F.back F' φ H ls fz = F2 := ⟨_, rfl⟩
  have extH0 : ∀ (b : Nat) (k : Blk) (c cap : Nat), b ∉ l → H[b]? = some k → φ b k.es.length = some (c, cap) → F' c = F.ext φ H w (.lend bs ls) c := by
    intro b k c cap hb hk hpl
    rcases hp.fresh c (h.place_lt hk hpl) with g | ⟨i, k0, cap0, hk0, hp0⟩
    · exact g
    · exact absurd hp0 (notH0 b k c cap hb hk hpl i k0 cap0 hk0)
  have hFle : F.le F2 := by
    intro c j u hu
    rw [← hF2]; unfold Mem.back
    split
    · exact hu
    · exact hp.mem c j u (Mem.ext_le F φ H w _ c j u hu)
  have hle2 : fz = true ∨ ls = [] → F'.le F2 := by
    intro hz c j u hu
    rw [← hF2]; unfold Mem.back
    rw [if_neg]; exact hu
    rintro ⟨h1, b, k, cap, hb, -⟩
    rcases hz with hz | hz
    · rw [hz] at h1; cases h1
    · rw [hz] at hb; simp at hb
  have hback : ∀ b b' n x, Map.back l b = some (some b') → φ' b n = some x → φ.back φ' l b' n = some x := by
    intro b b' n x hb hx
    simp only [Map.back, Option.map_eq_some_iff, Option.some.injEq] at hb
    obtain ⟨b1, hb1, rfl⟩ := hb
    rw [φin b b1 n hb1]; exact hx
  have hnone : ∀ b, Map.back l b ≠ some none := by
    intro b hb
    simp [Map.back] at hb
  have rep2 : ∀ p q v, (fz = true ∨ ls = [] ∨ PV.solid deep p = true) → Conv Hc (.back l) false p q → Rep φ' F' p v → Rep (φ.back φ' l) F2 q v := by
    intro p q v hz hcv hrp
    rcases hz with hz | hz | hz
    · exact (conv_ok hp.hr hback (hle2 (.inl hz)) (fun b k c cap arr el hf => absurd hf (hnone b)) hcv v hrp).1
    · exact (conv_ok hp.hr hback (hle2 (.inr hz)) (fun b k c cap arr el hf => absurd hf (hnone b)) hcv v hrp).1
    · exact conv_solid hback hnone hcv deep v hz hrp
  refine ⟨φ.back φ' l, F2, ⟨hle, hFle, ⟨?_, ?_, ?_, ?_⟩, ?_, ?_, ?_⟩, rep2 r' r v (by rcases hfz with g | g | g <;> simp [g]) hr hr'⟩
  · -- memory holds
    intro c j u hu
    rw [← hF2] at hu; unfold Mem.back at hu
    split at hu
    · exact hp.hr.mem c j u (hp.mem c j u (Mem.ext_le F φ H w _ c j u hu))
    · exact hp.hr.mem c j u hu
  · -- blocks
    intro b k1 hb
    rcases inl b k1 hb with ⟨i, k', hi, hk', hk1, hcv⟩ | ⟨hin, k, hk, rfl⟩
    · have hB := hp.hr.blk i k' hk'
      have notLent : ∀ c cap, φ' i k'.es.length = some (c, cap) → ¬ LentAt φ H ls c := by
        rintro c cap hpl ⟨b0, k0, cap0, hb0, hk0, hp0⟩
        exact farNew b0 k0 c cap0 (fun hx => hbl b0 hx hb0) hk0 hp0 i k' cap hk' hpl
      have hF2c : ∀ c cap, φ' i k'.es.length = some (c, cap) → F2 c = F' c := by
        intro c cap hpl
        funext j
        rw [← hF2]; unfold Mem.back
        rw [if_neg]; rintro ⟨-, hx⟩; exact notLent c cap hpl hx
      refine blk_conv (φ := φ') (F := F') (H := Hc) (w := w') hp.hr hk' hcv (fun n => φin i b n hi) (fun _ _ _ => rfl) (fun c cap j _ hpl _ hn => by rw [hF2c c cap hpl]; exact hn) (fun p q v hcp hrp hin => rep2 p q v ?_ hcp hrp)
      rcases hfz with g | g | ⟨-, g⟩
      · exact .inl g
      · exact .inr (.inl g)
      · have hs : k'.solid = true := List.all_eq_true.1 g k' (List.mem_of_getElem? hk')
        simp only [Blk.solid, Bool.and_eq_true, List.all_eq_true] at hs
        rcases hin with ⟨x, hx, hpx⟩ | ⟨l', hl', -⟩
        · exact .inr (.inr (hs.1 x hx p hpx))
        · rw [hl'] at hs; simp at hs
    · have hB := h.blk b k hk
      have same : ∀ c cap, φ b k.es.length = some (c, cap) → w'.heap[c]? = w.heap[c]? := fun c cap hpl =>
        hp.keeps.old c (h.place_lt hk hpl) (notH0 b k c cap hin hk hpl)
      have hmono : ∀ p v, Rep φ F p v → Rep (φ.back φ' l) F2 p v := fun p v hr => hr.mono hle hFle
      obtain ⟨fr, hfr⟩ : ∃ fr, (if fz = true ∧ ls.contains b = true then max k.frozen k.es.length else k.frozen) = fr := ⟨_, rfl⟩
      have hk1 : (if fz = true ∧ ls.contains b = true then { k with frozen := max k.frozen k.es.length } else k) = { k with frozen := fr } := by
        rw [← hfr]; split <;> rfl
      rw [hk1]
      refine ⟨hB.uni, ?_⟩
      rcases hB.at_ with ⟨h0, h1, h2⟩ | ⟨hpos, h1, c, cap, hpl, arr, el, hheap, g1, g2, g3, g4, g5⟩ | ⟨hpos, h0, l', c, cap, h1, h2, es, cl, hheap, g1⟩
      · exact .inl ⟨h0, h1, by rw [φout b 0 hin]; exact h2⟩
      · refine .inr (.inl ⟨hpos, h1, c, cap, by rw [φout b _ hin]; exact hpl, arr, el, by rw [same c cap hpl]; exact hheap, g1, g2, g3, fun j hj => ?_, fun i j x p hx hpx => ?_⟩)
        · have hFj : F c j = none := g4 j (by
            have : k.frozen * k.sz ≤ fr * k.sz := Nat.mul_le_mul_right _ (by rw [← hfr]; split <;> omega)
            simp only at hj; omega)
          rw [← hF2]; unfold Mem.back
          split
          · exact hFj
          · rename_i hno
            rw [extH0 b k c cap hin hk hpl, Mem.ext_not, hFj]
            rintro ⟨b0, k0, cap0, hf0, hk0, hm0, hp0, hj0⟩
            have hbb : b = b0 := by
              by_cases hbb : b = b0
              · exact hbb
              · exact absurd rfl (h.sep b b0 k k0 c cap c cap0 hbb hk hk0 hpl hp0)
            subst hbb
            rw [hk] at hk0; cases hk0
            have hls' : ls.contains b = true := by
              unfold Map.lend at hf0
              split at hf0
              · cases hf0
              · split at hf0
                · assumption
                · cases hf0
            have hz : fz = true := by
              cases hz : fz with
              | true => rfl
              | false => exact absurd ⟨hz, b, k, cap, by simpa using hls', hk, hpl⟩ hno
            have : fr = max k.frozen k.es.length := by rw [← hfr, if_pos ⟨hz, hls'⟩]
            have hm : k.es.length * k.sz ≤ fr * k.sz := Nat.mul_le_mul_right _ (by omega)
            simp only at hj
            omega
        · obtain ⟨v, hv, hone, hr⟩ := g5 i j x p hx hpx
          exact ⟨v, hv, hone, hmono p v hr⟩
      · refine .inr (.inr ⟨hpos, h0, l', c, cap, h1, by rw [φout b _ hin]; exact h2, es, cl, by rw [same c cap (by rw [h0]; exact h2)]; exact hheap, g1.mono fun x m hx => ⟨hx.1, hmono _ _ hx.2⟩⟩)
  · -- apart
    intro b b' k1 k2 c cap c' cap' hne hb hb' hpl hpl'
    have len : ∀ (b : Nat) (k k1 : Blk), (k1 = if fz = true ∧ ls.contains b = true then { k with frozen := max k.frozen k.es.length } else k) → k1.es = k.es := by
      intro b k k1 he; rw [he]; split <;> rfl
    rcases inl b k1 hb with ⟨i, k', hi, hk', hk1, hcv⟩ | ⟨hin, k, hk, he⟩ <;> rcases inl b' k2 hb' with ⟨i', k'', hi', hk'', hk2, hcv'⟩ | ⟨hin', k0, hk0, he'⟩
    · rw [φin i b _ hi, ← hcv.len] at hpl
      rw [φin i' b' _ hi', ← hcv'.len] at hpl'
      have : i ≠ i' := by rintro rfl; rw [hi] at hi'; exact hne (Option.some.inj hi')
      exact hp.hr.sep i i' k' k'' c cap c' cap' this hk' hk'' hpl hpl'
    · rw [φin i b _ hi, ← hcv.len] at hpl
      rw [φout b' _ hin', len b' k0 k2 he'] at hpl'
      rintro rfl
      exact farNew b' k0 c cap' hin' hk0 hpl' i k' cap hk' hpl
    · rw [φout b _ hin, len b k k1 he] at hpl
      rw [φin i' b' _ hi', ← hcv'.len] at hpl'
      rintro rfl
      exact farNew b k c cap hin hk hpl i' k'' cap' hk'' hpl'
    · rw [φout b _ hin, len b k k1 he] at hpl
      rw [φout b' _ hin', len b' k0 k2 he'] at hpl'
      exact h.sep b b' k k0 c cap c' cap' hne hk hk0 hpl hpl'
  · -- places
    intro b n x hx
    by_cases hin : b ∈ l
    · obtain ⟨i, hi⟩ := List.getElem?_of_mem hin
      rw [φin i b n hi] at hx
      obtain ⟨k', hk', hn⟩ := hp.hr.dom i n x hx
      have hil : i < Hd.length := by rw [← hd.at.1]; exact (List.getElem?_eq_some_iff.1 hk').1
      have hcv := hd.at.2 i k' Hd[i] hk' (by simp [hil])
      refine ⟨Hd[i], ?_, by rw [← hcv.len]; exact hn⟩
      rw [setAll_at l Hd H2 i b hnl hdl.symm (fun b hb => by rw [hH2l]; exact hlt b hb) hi]
      simp [hil]
    · rw [φout b n hin] at hx
      obtain ⟨k, hk, hn⟩ := h.dom b n x hx
      refine ⟨_, by rw [setAll_not l Hd H2 b hin, hH2at, hk]; rfl, ?_⟩
      split <;> exact hn
  · -- what is left alone
    refine ⟨hp.keeps.os, hp.keeps.tape, hp.keeps.output, hp.keeps.size, fun c hc hno => hp.keeps.old c hc fun i k0 cap0 hk0 hp0 => ?_⟩
    have hi : i < bs.length := by rw [hH0.1]; exact (List.getElem?_eq_some_iff.1 hk0).1
    obtain ⟨k, hk, hcv⟩ := hH0.2 i bs[i] k0 (by simp [hi]) hk0
    have : φ.sub bs i k0.es.length = φ bs[i] k0.es.length := by simp [Place.sub, hi]
    rw [this, ← hcv.len] at hp0
    exact hno bs[i] k cap0 hk hp0
  · -- later
    intro b k1 c cap hb hpl
    rcases inl b k1 hb with ⟨i, k', hi, hk', hk1, hcv⟩ | ⟨hin, k, hk, he⟩
    · rw [φin i b _ hi, ← hcv.len] at hpl
      rcases newAt i k' c cap hk' hpl with g | ⟨b0, k0, cap0, -, hk0, hp0⟩
      · exact .inl g
      · exact .inr ⟨b0, k0, cap0, hk0, hp0⟩
    · have hes : k1.es = k.es := by rw [he]; split <;> rfl
      rw [φout b _ hin, hes] at hpl
      exact .inr ⟨b, k, cap, hk, hpl⟩
  · -- fresh
    intro c hc
    by_cases hx : ∃ b k cap, H[b]? = some k ∧ φ b k.es.length = some (c, cap)
    · exact .inr hx
    · refine .inl ?_
      have h1 : F' c = F.ext φ H w (.lend bs ls) c := by
        rcases hp.fresh c hc with g | ⟨i, k0, cap0, hk0, hp0⟩
        · exact g
        · have hi : i < bs.length := by rw [hH0.1]; exact (List.getElem?_eq_some_iff.1 hk0).1
          obtain ⟨k, hk, hcv⟩ := hH0.2 i bs[i] k0 (by simp [hi]) hk0
          have : φ.sub bs i k0.es.length = φ bs[i] k0.es.length := by simp [Place.sub, hi]
          rw [this, ← hcv.len] at hp0
          exact absurd ⟨_, _, _, hk, hp0⟩ hx
      funext j
      rw [← hF2]; unfold Mem.back
      split
      · rfl
      · rw [h1, Mem.ext_not]
        rintro ⟨b0, k0, cap0, _, hk0, _, hp0, _⟩
        exact hx ⟨b0, k0, cap0, hk0, hp0⟩
end Go.RM
