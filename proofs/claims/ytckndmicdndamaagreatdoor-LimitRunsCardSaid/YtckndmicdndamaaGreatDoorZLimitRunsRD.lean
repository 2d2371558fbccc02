/- RC RD, for the statement LimitRuns: what it needs, no more. -/
import Derived.Test.YtckndmicdndamaaGreatDoorZLimitRunsGR
namespace Go.RM
open Go.RowKit
set_option linter.unusedVariables false
variable {P:Program} {φ:Place} {F:Mem} {H:Heap} {w w':World}
theorem Post.below (h:HR φ F H w) (hb:Below w.heap.size w w'):Post φ F H w φ F H w' :=
 ⟨.refl φ,.refl F,h.other (fun c hx=>hb.block c (by rcases hx with ⟨_,_,_,hx⟩ | ⟨_,_,hx⟩ <;> exact (Array.getElem?_eq_some_iff.1 hx).1)),
  ⟨hb.os,hb.tape,hb.output,hb.size,fun c hc _=>hb.block c hc⟩,.refl _ _ _,fun _ _=>.inl rfl⟩
theorem sound_ext {K:Kn} {f:FuncId} {args:List PV} {v:Value}
  (h:∀ (φ:Place) (F:Mem) (w:World) (vs:Array Value),K.k F→HR φ F H w→ArgsRep φ F args vs→Calls P f vs w fun e w'=>e=.returned v∧Below w.heap.size w w'):SoundCall P K f args H (.val v) H :=
 fun φ F w vs hk hr ha=>(h φ F w vs hk hr ha).mono fun e w' ⟨he,hb⟩=>⟨v,φ,F,he,.imm (.val v),.below hr hb⟩
theorem cellF (h:HR φ F H w) {c j:Nat} {v:Value} (hF:F c j=some v):w.cell? ⟨c,j,none⟩=some v:=by
 obtain ⟨arr,e,fr,hh,hv⟩:=h.mem c j v hF
 unfold World.cell?
 simp [hh,hv]
theorem args_val {v:Value} {ps:List PV} {vs:Array Value} (h:ArgsRep φ F (.val v :: ps) vs):∃ us:List Value,vs=(v :: us).toArray∧ArgsRep φ F ps us.toArray:=by
 obtain ⟨hl,h⟩:=h
 obtain ⟨l⟩:=vs
 cases l with
 | nil=>simp at hl
 | cons x l =>
  have h0:=(h 0 (.val v) x rfl rfl).val_inv
  subst h0
  exact ⟨l,rfl,by simpa using hl,fun j p u hp hu=>h (j + 1) p u (by simpa using hp) (by simpa using hu)⟩
theorem args_nil {vs:Array Value} (h:ArgsRep φ F [] vs):vs=#[]:=by
 obtain ⟨hl,-⟩:=h
 exact Array.eq_empty_of_size_eq_zero (by simpa using hl.symm)
theorem args_cons {p:PV} {ps:List PV} {vs:Array Value} (h:ArgsRep φ F (p :: ps) vs):∃ v,∃ us:List Value,vs=(v :: us).toArray∧Rep φ F p v∧ArgsRep φ F ps us.toArray:=by
 obtain ⟨hl,h⟩:=h
 obtain ⟨l⟩:=vs
 cases l with
 | nil=>simp at hl
 | cons x l=>exact ⟨x,l,rfl,h 0 p x rfl rfl,by simpa using hl,fun j p u hp hu=>h (j + 1) p u (by simpa using hp) (by simpa using hu)⟩
theorem agg_two {p q:PV} {v:Value} (h:Rep φ F (.agg [p,q]) v):∃ x y,v=.agg #[x,y]∧Rep φ F p x∧Rep φ F q y:=by
 obtain ⟨⟨l⟩,rfl,hl,hc⟩:=h.agg_inv
 match l,hl with
 | [x,y],_=>exact ⟨x,y,rfl,hc 0 p x rfl rfl,hc 1 q y rfl rfl⟩
theorem rows_int {k:IntKind} {l:List Int} {v:Value} (hr:HR φ F H w) (h:Rep φ F (.rows (l.map (cInt k))) v) :
  ∃ ad cap,v=.slice ad l.length cap∧∀ (j:Nat) (x:Int),l[j]?=some x→∃ b o,ad=some ⟨b,o,none⟩∧w.cell? ⟨b,o + j,none⟩=some (.int k x):=by
 rcases h.rows_inv with ⟨h0,ad,cap,rfl⟩ | ⟨b,off,cap,sz,f,hv,huni,hat,himm,-⟩
 ·have:l=[]:=by simpa using h0
  subst this
  exact ⟨ad,cap,rfl,fun j x hx=>by simp at hx⟩
 ·refine ⟨_,cap,by simpa using hv,fun j x hx=>⟨b,off,rfl,?_⟩⟩
  have hj:(l.map (cInt k))[j]?=some (cInt k x):=by simp [hx]
  have hs:sz=1:=(huni _ (List.mem_of_getElem? hj)).symm
  subst hs
  have h1:=hat j 0 _ (.val (.int k x)) hj rfl
  have h2:=(himm j 0 _ (.val (.int k x)) hj rfl)
  have h3:f j 0=.int k x:=by
   have hi:∀ v,Imm F (.val (.int k x)) v→v=.int k x:=fun v h=>by cases h; rfl
   exact hi _ h2
  rw [h3] at h1
  have:=cellF hr h1.1
  simpa using this
end Go.RM
namespace Go.RM
open Go.RowKit
set_option linter.unusedVariables false
variable {P:Program}
theorem sound_new {K:Kn} {f:FuncId} {args:List PV} {sz:Nat} (hpos:0 < sz)
  (h:∀ (φ:Place) (F:Mem) (w:World) (vs:Array Value),K.k F→HR φ F [] w→ArgsRep φ F args vs→Calls P f vs w fun e w'=>Below w.heap.size w w' ∧
   (e=.returned (.slice none 0 0)∨∃ (cap:Nat) (arr:Array Value) (el:TypeId),e=.returned (.slice (some ⟨w.heap.size,0,none⟩) 0 cap)∧w'.heap[w.heap.size]?=some (.cells arr el (0,0))∧arr.size=cap * sz∧cap≤maxLen)) :
  SoundCall P K f args [] (.own 0 0) [⟨sz,[],0,none⟩]:=by
 intro φ F w vs hk hr ha
 refine (h φ F w vs hk hr ha).mono ?_
 have none_:∀ b n,φ b n=none:=fun b n=>by
  cases hx:φ b n with
  | none=>rfl
  | some x=>obtain ⟨k,hk,-⟩:=hr.dom _ _ _ hx; simp at hk
 rintro e w' ⟨hb,rfl | ⟨cap,arr,el,rfl,hheap,hsz,hcap⟩⟩
 ·refine ⟨_,φ,F,rfl,.own0 0,?_⟩
  have h1:=Post.below hr hb
  exact h1.trans (PostM.toPost h1.hr (room_post h1.hr _ sz))
 ·refine ⟨_,φ.add 0 0 (w.heap.size,cap),F,rfl,.own 0 0 w.heap.size cap (by simp [Place.add]),?_⟩
  have h1:Post φ F [] w φ F [⟨sz,[],0,none⟩] w:=PostM.toPost hr (room_post hr _ sz)
  refine h1.trans ?_
  have hle:φ.le (φ.add 0 0 (w.heap.size,cap)):=fun b n x hx=>by rw [none_] at hx; cases hx
  exact Post.upd (k1:=⟨sz,[],0,none⟩) h1.hr (b:=0) rfl hle (fun b' n hne=>by unfold Place.add; rw [if_neg (fun hc=>hne hc.1)]) (fun n x hx=>by
    unfold Place.add at hx
    split at hx
    ·rename_i hc; simp [hc.2]
    ·rw [none_] at hx; cases hx) (.refl F) (fun c j v hF=>by
    obtain ⟨arr,el,fr,hh,hv⟩:=hr.mem c j v hF
    exact ⟨arr,el,fr,(hb.block c (Array.getElem?_eq_some_iff.1 hh).1).trans hh,hv⟩) (fun c hc _=>⟨hb.block c hc,rfl⟩) hb.size hb.os hb.tape hb.output
   ⟨by simp,.inr (.inl ⟨hpos,rfl,w.heap.size,cap,by simp [Place.add],arr,el,hheap,by simp,hcap,hsz,fun j _=>hr.new j,fun i j x p hx _=>by simp at hx⟩)⟩
   (fun c cap' hx=>by simp [Place.add] at hx; exact .inl (by omega))
end Go.RM
