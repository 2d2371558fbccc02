/- LA LB LC LD LE LF LG LH LJ LK LL LM LO LP LQ LR LS LT LV LW LX LY LZ VC VE VF VG VH VI VK VL VM VP, for the statement LimitRuns: what it needs, no more. -/
import Derived.Test.YtckndmicdndamaaGreatDoorZLimitRunsGR
import Derived.Test.YtckndmicdndamaaGreatDoorZLimitRunsGL
namespace Go.RM
set_option linter.unusedVariables false
set_option linter.unusedSimpArgs false
theorem Loop.of {σ τ ρ:Type} {b:σ→Rnd σ τ ρ→Prop} (spec:σ→Fin τ ρ) (m:σ→Nat) (Inv:σ→Prop)
  (step:∀ s,Inv s→(∃ s',b s (.next s')∧m s' < m s∧Inv s'∧spec s'=spec s)∨(∃ t,b s (.exit t)∧spec s=.go t)∨(∃ r,b s (.ret r)∧spec s=.ret r)) :
  ∀ s,Inv s→Loop b s (spec s):=by
 intro s
 generalize hn:m s=n
 induction n using Nat.strongRecOn generalizing s with
 | _ n ih =>
  intro hi
  rcases step s hi with ⟨s',hb,hm,hi',he⟩ | ⟨t,hb,he⟩ | ⟨r,hb,he⟩
  ·rw [← he]
   exact .next hb (ih (m s') (by omega) s' rfl hi')
  ·rw [he]; exact .exit hb
  ·rw [he]; exact .ret hb
theorem wrap64 {i:Int} (h0:-9223372036854775808≤i) (h1:i≤9223372036854775807):IntKind.i64.wrap i=i:=by
 have e:IntKind.i64.wrap i=if (i % 18446744073709551616:Int) ≥ 9223372036854775808 then i % 18446744073709551616 - 18446744073709551616 else i % 18446744073709551616:=by
  simp [IntKind.wrap,IntKind.bits,IntKind.signed]
 rw [e]
 split <;> omega
theorem wrapu64 {i:Int} (h0:0≤i) (h1:i < 18446744073709551616):IntKind.u64.wrap i=i:=by
 have e:IntKind.u64.wrap i=i % 18446744073709551616:=by
  simp [IntKind.wrap,IntKind.bits,IntKind.signed]
 rw [e]; omega
theorem wfu64 {i:Int} (h:(Lit.int .u64 i).wf=true):0≤i∧i < 18446744073709551616:=by
 simp [Lit.wf,IntKind.min,IntKind.max,IntKind.bits,IntKind.signed] at h
 omega
theorem wrap_len {α:Type} {l:List α} {i:Int} (hl:l.length≤maxLen) (h0:0≤i) (h1:i < l.length):IntKind.i64.wrap (i + 1)=i + 1:=by
 have:maxLen≤9223372036854775807:=by decide
 exact wrap64 (by omega) (by omega)
theorem rdl_mem {α:Type} [Inhabited α] {l:List α} {i:Int} (h0:0≤i) (h1:i < l.length):rdl l i ∈ l :=
 List.mem_of_getElem? (rdl_get h0 h1)
theorem drop_rdl {α:Type} [Inhabited α] {l:List α} {i:Int} (h0:0≤i) (h1:i < l.length):l.drop i.toNat=rdl l i :: l.drop (i + 1).toNat:=by
 have h:=rdl_get h0 h1
 have hlt:i.toNat < l.length:=by omega
 rw [List.drop_eq_getElem_cons hlt,show (i + 1).toNat=i.toNat + 1 by omega]
 rw [List.getElem?_eq_getElem hlt,Option.some.injEq] at h
 rw [h]
theorem drop_end {α:Type} {l:List α} {i:Int} (h0:0≤i) (h1:¬ i < l.length):l.drop i.toNat=[]:=List.drop_eq_nil_of_le (by omega)
theorem rdl0 {α:Type} [Inhabited α] {a:α} {l:List α}:rdl (a :: l) 0=a:=rfl
theorem rdl1 {α:Type} [Inhabited α] {a b:α} {l:List α}:rdl (a :: b :: l) 1=b:=rfl
end Go.RM
namespace Go.RM
set_option linter.unusedVariables false
set_option linter.unusedSimpArgs false
def idxI {α:Type} (test:α→Bool):List α→Int→Int
 | [],_=>-1
 | x :: l,i=>if test x then i else idxI test l (i + 1)
theorem idxI_any {α:Type} (test:α→Bool):∀ (l:List α) (i:Int),0≤i→decide (idxI test l i ≥ 0)=l.any test
 | [],i,h=>by simp [idxI]
 | x :: l,i,h=>by
  unfold idxI
  by_cases hx:test x=true
  ·simp [hx,h]
  ·rw [if_neg hx,idxI_any test l (i + 1) (by omega)]; simp [hx]
theorem indexFunc {α:Type} [Inhabited α] {l:List α} {q:α→Bool→Prop} {b:Int→Rnd Int Unit Int→Prop} (test:α→Bool) (hl:l.length≤maxLen) (hq:∀ x ∈ l,q x (test x))
  (hb:b=fun x1 z1=>if x1 < (l.length:Int) then (InR x1 l.length∧∃ t:Bool,q (rdl l x1) t∧if t=true then z1=.ret x1 else z1=.next (IntKind.i64.wrap (x1 + 1))) else z1=.exit ()) :
  ∃ o:Fin Unit Int,Loop b 0 o∧o.on (fun _=>idxI test l 0=-1) (fun r_=>idxI test l 0=r_):=by
 let spec:Int→Fin Unit Int:=fun i=>if (l.drop i.toNat).any test then .ret (idxI test (l.drop i.toNat) i) else .go ()
 have key:=Loop.of (b:=b) spec (fun i=>((l.length:Int) - i).toNat) (fun i=>0≤i) (fun i hi=>by
  subst hb
  by_cases h:i < (l.length:Int)
  ·have hd:=drop_rdl hi h
   by_cases ht:test (rdl l i)=true
   ·refine .inr (.inr ⟨i,?_,?_⟩)
    ·simp only [h,if_true]
     exact ⟨⟨hi,h⟩,true,ht ▸ hq _ (rdl_mem hi h),by simp⟩
    ·show (if _ then _ else _)=_
     rw [hd]; simp [ht,idxI]
   ·have ht':test (rdl l i)=false:=by simpa using ht
    refine .inl ⟨i + 1,?_,by omega,by omega,?_⟩
    ·simp only [h,if_true]
     exact ⟨⟨hi,h⟩,false,ht' ▸ hq _ (rdl_mem hi h),by simp [wrap_len hl hi h]⟩
    ·show (if _ then _ else _)=(if _ then _ else _)
     rw [hd]; simp [ht',idxI]
  ·refine .inr (.inl ⟨(),by simp only [h,if_false],?_⟩)
   show (if _ then _ else _)=_
   rw [drop_end hi h]; rfl) 0 (Int.le_refl 0)
 refine ⟨_,key,?_⟩
 show Fin.on (if _ then _ else _) _ _
 simp only [Int.toNat_zero,List.drop_zero]
 split
 ·rfl
 ·rename_i h
  show idxI test l 0=-1
  have:decide (idxI test l 0 ≥ 0)=false:=by rw [idxI_any test l 0 (Int.le_refl 0)]; simpa using h
  have hge:∀ (l:List α) (i:Int),0≤i→idxI test l i=-1∨0≤idxI test l i:=by
   intro l
   induction l with
   | nil=>intro i _; exact .inl rfl
   | cons x l ih =>
    intro i hi
    unfold idxI
    split
    ·exact .inr hi
    ·exact ih (i + 1) (by omega)
  rcases hge l 0 (Int.le_refl 0) with h1 | h1
  ·exact h1
  ·simp at this; omega
theorem eachLoop {α ρ:Type} [Inhabited α] {l:List α} {b:Int→Rnd Int Unit ρ→Prop} (test:α→Bool) (rv:ρ)
  (hb:∀ i,0≤i→i < (l.length:Int)→(test (rdl l i)=true→b i (.next (i + 1)))∧(test (rdl l i)=false→b i (.ret rv))) (hend:∀ i,0≤i→¬ i < (l.length:Int)→b i (.exit ())) :
  Loop b 0 (if l.all test then .go () else .ret rv):=by
 let spec:Int→Fin Unit ρ:=fun i=>if (l.drop i.toNat).all test then .go () else .ret rv
 have key:=Loop.of (b:=b) spec (fun i=>((l.length:Int) - i).toNat) (fun i=>0≤i) (fun i hi=>by
  by_cases h:i < (l.length:Int)
  ·have hd:=drop_rdl hi h
   obtain ⟨h1,h2⟩:=hb i hi h
   cases ht:test (rdl l i) with
   | true =>
    refine .inl ⟨i + 1,h1 ht,by omega,by omega,?_⟩
    show (if _ then _ else _)=(if _ then _ else _)
    rw [hd]; simp [ht]
   | false =>
    refine .inr (.inr ⟨rv,h2 ht,?_⟩)
    show (if _ then _ else _)=_
    rw [hd]; simp [ht]
  ·refine .inr (.inl ⟨(),hend i hi h,?_⟩)
   show (if _ then _ else _)=_
   rw [drop_end hi h]; rfl) 0 (Int.le_refl 0)
 simpa [spec] using key
theorem containsFunc {α:Type} [Inhabited α] {l:List α} {q:α→Bool→Prop} {b:Int→Rnd Int Unit Int→Prop} (test:α→Bool) (hl:l.length≤maxLen) (hq:∀ x ∈ l,q x (test x))
  (hb:b=fun x1 z1=>if x1 < (l.length:Int) then (InR x1 l.length∧∃ t:Bool,q (rdl l x1) t∧if t=true then z1=.ret x1 else z1=.next (IntKind.i64.wrap (x1 + 1))) else z1=.exit ()) :
  ∃ t:Int,(∃ o:Fin Unit Int,Loop b 0 o∧o.on (fun _=>t=-1) (fun r_=>t=r_))∧l.any test=decide (t ≥ 0) :=
 ⟨_,indexFunc test hl hq hb,(idxI_any test l 0 (Int.le_refl 0)).symm⟩
def foldF {α σ ρ:Type} (step:Int→α→σ→Fin σ ρ):List α→Int→σ→Fin σ ρ
 | [],_,s=>.go s
 | x :: l,i,s=>match step i x s with
  | .go s'=>foldF step l (i + 1) s'
  | .ret r=>.ret r
def Fin.map {σ τ ρ:Type} (f:σ→τ):Fin σ ρ→Fin τ ρ
 | .go s=>.go (f s)
 | .ret r=>.ret r
def Rok {σ S τ ρ:Type} (b:S→Rnd S τ ρ→Prop) (mk:Int→σ→S) (Inv:Int→σ→Prop) (i:Int) (s:σ):Fin σ ρ→Prop
 | .go s'=>b (mk i s) (.next (mk (i + 1) s'))∧Inv (i + 1) s'
 | .ret r=>b (mk i s) (.ret r)
theorem foldLoop {α σ S τ ρ:Type} [Inhabited α] {l:List α} {b:S→Rnd S τ ρ→Prop} (mk:Int→σ→S) (ex:σ→τ) (step:Int→α→σ→Fin σ ρ) (Inv:Int→σ→Prop)
  (hb:∀ i s,0≤i→i < (l.length:Int)→Inv i s→Rok b mk Inv i s (step i (rdl l i) s))
  (hend:∀ s,Inv l.length s→b (mk l.length s) (.exit (ex s))) (s0:σ) (h0:Inv 0 s0) :
  Loop b (mk 0 s0) ((foldF step l 0 s0).map ex)∧∀ s,foldF step l 0 s0=.go s→Inv l.length s:=by
 have main:∀ (k:Nat) (i:Int) (s:σ),((l.length:Int) - i).toNat=k→0≤i→i≤l.length→Inv i s→Loop b (mk i s) ((foldF step (l.drop i.toNat) i s).map ex)∧∀ s',foldF step (l.drop i.toNat) i s=.go s'→Inv l.length s':=by
  intro k
  induction k with
  | zero =>
   intro i s hk h0 h1 hi
   have:i=l.length:=by omega
   subst this
   rw [drop_end h0 (by omega)]
   exact ⟨.exit (hend s hi),fun s' h=>by injection h with h; exact h ▸ hi⟩
  | succ k ih =>
   intro i s hk h0 h1 hi
   have hlt:i < (l.length:Int):=by omega
   rw [drop_rdl h0 hlt]
   have hr:=hb i s h0 hlt hi
   unfold foldF
   revert hr
   cases step i (rdl l i) s with
   | go s1 =>
    intro hr
    have:=ih (i + 1) s1 (by omega) (by omega) (by omega) hr.2
    exact ⟨.next hr.1 this.1,this.2⟩
   | ret r =>
    intro hr
    exact ⟨.ret hr,fun s' h=>by cases h⟩
 have:=main _ 0 s0 rfl (Int.le_refl 0) (by omega) h0
 simpa using this
theorem foldF_map {α β ρ:Type} (f:α→β):∀ (l:List α) (i:Int) (acc:List β),foldF (fun _ x acc=>(.go (acc ++ [f x]):Fin (List β) ρ)) l i acc=.go (acc ++ l.map f)
 | [],i,acc=>by simp [foldF]
 | x :: l,i,acc=>by
  show foldF _ l (i + 1) (acc ++ [f x])=_
  rw [foldF_map f l]
  simp
def countF {σ ρ:Type} (step:Int→σ→Fin σ ρ):Nat→Int→σ→Fin σ ρ
 | 0,_,s=>.go s
 | k + 1,i,s=>match step i s with
  | .go s'=>countF step k (i + 1) s'
  | .ret r=>.ret r
theorem countLoop {σ S τ ρ:Type} {n:Int} {b:S→Rnd S τ ρ→Prop} (mk:Int→σ→S) (ex:σ→τ) (step:Int→σ→Fin σ ρ) (Inv:Int→σ→Prop)
  (hb:∀ i s,0≤i→i < n→Inv i s→Rok b mk Inv i s (step i s))
  (hend:∀ s,Inv n s→b (mk n s) (.exit (ex s))) (s0:σ) (hn:0≤n) (h0:Inv 0 s0) :
  Loop b (mk 0 s0) ((countF step n.toNat 0 s0).map ex)∧∀ s,countF step n.toNat 0 s0=.go s→Inv n s:=by
 have main:∀ (k:Nat) (i:Int) (s:σ),(n - i).toNat=k→0≤i→i≤n→Inv i s→Loop b (mk i s) ((countF step k i s).map ex)∧∀ s',countF step k i s=.go s'→Inv n s':=by
  intro k
  induction k with
  | zero =>
   intro i s hk h0 h1 hi
   have:i=n:=by omega
   subst this
   exact ⟨.exit (hend s hi),fun s' h=>by injection h with h; exact h ▸ hi⟩
  | succ k ih =>
   intro i s hk h0 h1 hi
   have hlt:i < n:=by omega
   have hr:=hb i s h0 hlt hi
   unfold countF
   revert hr
   cases step i s with
   | go s1 =>
    intro hr
    have:=ih (i + 1) s1 (by omega) (by omega) (by omega) hr.2
    exact ⟨.next hr.1 this.1,this.2⟩
   | ret r =>
    intro hr
    exact ⟨.ret hr,fun s' h=>by cases h⟩
 have:=main _ 0 s0 rfl (Int.le_refl 0) hn h0
 simpa using this
def upto (n:Nat):List Int:=(List.range n).map Int.ofNat
theorem countF_app {β ρ:Type} (f:Int→β):∀ (k:Nat) (i:Int) (acc:List β),countF (fun i acc=>(.go (acc ++ [f i]):Fin (List β) ρ)) k i acc=.go (acc ++ (upto k).map (fun j=>f (i + j)))
 | 0,i,acc=>by simp [countF,upto]
 | k + 1,i,acc=>by
  unfold countF
  simp only
  rw [countF_app f k]
  simp only [upto,List.range_succ_eq_map,List.map_cons,List.map_map,List.append_assoc,List.singleton_append]
  simp only [Fin.go.injEq,List.append_cancel_left_eq,List.cons.injEq]
  refine ⟨by simp,List.map_congr_left fun j _=>?_⟩
  simp only [Function.comp]
  congr 1
  simp
  omega
theorem fillLoop {α ρ:Type} [Inhabited α] {n:Int} {b:(List α × Int)→Rnd (List α × Int) (List α) ρ→Prop} (d:α) (f:Int→α→α) (hn:0≤n)
  (hb:∀ i l,0≤i→i < n→(l.length:Int)=n→b (l,i) (.next (setl l i (f i (rdl l i)),i + 1))) (hend:∀ l,(l.length:Int)=n→b (l,n) (.exit l)) :
  Loop b (List.replicate n.toNat d,0) (.go ((upto n.toNat).map (fun i=>f i d))):=by
 let m:=(upto n.toNat).map (fun i=>f i d)
 have hm:m.length=n.toNat:=by simp [m,upto]
 have key:=Loop.of (b:=b) (fun _=>.go m) (fun s=>(n - s.2).toNat) (fun s=>0≤s.2∧s.2≤n∧s.1=m.take s.2.toNat ++ List.replicate (n.toNat - s.2.toNat) d) (fun s hi=>by
  obtain ⟨l,i⟩:=s
  obtain ⟨h0,h1,h2⟩:=hi
  simp only at h0 h1 h2
  have hlen:(l.length:Int)=n:=by rw [h2]; simp [hm]; omega
  by_cases h:i < n
  ·have hd:rdl l i=d:=by
    have hg:=rdl_get (l:=l) h0 (by omega)
    rw [h2] at hg
    rw [List.getElem?_append_right (by simp; omega)] at hg
    have:(List.take i.toNat m).length=i.toNat:=by simp [hm]; omega
    rw [this,Nat.sub_self,List.getElem?_replicate] at hg
    rw [if_pos (by omega)] at hg
    injection hg with hg
    rw [h2]; exact hg.symm
   refine .inl ⟨_,hb i l h0 h hlen,by simp; omega,⟨by simp; omega,by simp; omega,?_⟩,rfl⟩
   simp only
   rw [hd]
   apply List.ext_getElem?
   intro k
   unfold setl
   rw [List.getElem?_set,h2]
   by_cases hk:i.toNat=k
   ·subst hk
    have hl2:i.toNat < (List.take i.toNat m ++ List.replicate (n.toNat - i.toNat) d).length:=by simp [hm]; omega
    rw [if_pos rfl,if_pos hl2]
    rw [List.getElem?_append_left (by simp [hm]; omega)]
    rw [List.getElem?_take,if_pos (by omega)]
    simp only [m,upto,List.map_map,List.getElem?_map]
    rw [List.getElem?_range (by omega)]
    simp [Function.comp]
    congr 1; omega
   ·rw [if_neg hk]
    by_cases hk2:k < i.toNat
    ·rw [List.getElem?_append_left (by simp [hm]; omega),List.getElem?_append_left (by simp [hm]; omega)]
     rw [List.getElem?_take,List.getElem?_take,if_pos hk2,if_pos (by omega)]
    ·rw [List.getElem?_append_right (by simp [hm]; omega),List.getElem?_append_right (by simp [hm]; omega)]
     rw [List.getElem?_replicate,List.getElem?_replicate]
     simp only [List.length_take,hm]
     congr 1
     apply propext
     constructor <;> intro <;> omega
  ·have:i=n:=by omega
   subst this
   refine .inr (.inl ⟨l,hend l hlen,?_⟩)
   rw [h2]; simp [← hm]) (List.replicate n.toNat d,0) ⟨Int.le_refl 0,hn,by simp⟩
 exact key
theorem iteR {α:Type} (c:Bool) {a b:α}:if c=true then (if c=true then a else b)=a else (if c=true then a else b)=b:=by cases c <;> rfl
def all2B {α β:Type} (test:α→β→Bool):List α→List β→Bool
 | x :: l,y :: m=>test x y && all2B test l m
 | _,_=>true
theorem each2Loop {α β ρ:Type} [Inhabited α] [Inhabited β] {l:List α} {m:List β} {b:Int→Rnd Int Unit ρ→Prop} (test:α→β→Bool) (rv:ρ) (hlen:l.length=m.length)
  (hb:∀ i,0≤i→i < (l.length:Int)→(test (rdl l i) (rdl m i)=true→b i (.next (i + 1)))∧(test (rdl l i) (rdl m i)=false→b i (.ret rv))) (hend:∀ i,0≤i→¬ i < (l.length:Int)→b i (.exit ())) :
  Loop b 0 (if all2B test l m=true then .go () else .ret rv):=by
 let spec:Int→Fin Unit ρ:=fun i=>if all2B test (l.drop i.toNat) (m.drop i.toNat)=true then .go () else .ret rv
 have key:=Loop.of (b:=b) spec (fun i=>((l.length:Int) - i).toNat) (fun i=>0≤i) (fun i hi=>by
  by_cases h:i < (l.length:Int)
  ·have hd:=drop_rdl hi h
   have hd2:=drop_rdl (l:=m) hi (by omega)
   obtain ⟨h1,h2⟩:=hb i hi h
   cases ht:test (rdl l i) (rdl m i) with
   | true =>
    refine .inl ⟨i + 1,h1 ht,by omega,by omega,?_⟩
    show (if _ then _ else _)=(if _ then _ else _)
    rw [hd,hd2]; simp [all2B,ht]
   | false =>
    refine .inr (.inr ⟨rv,h2 ht,?_⟩)
    show (if _ then _ else _)=_
    rw [hd,hd2]; simp [all2B,ht]
  ·refine .inr (.inl ⟨(),hend i hi h,?_⟩)
   show (if _ then _ else _)=_
   rw [drop_end hi h]; simp [all2B]) 0 (Int.le_refl 0)
 simpa [spec] using key
theorem all2B_eq {α:Type} [DecidableEq α]:∀ (l m:List α),l.length=m.length→all2B (fun x y=>decide (x=y)) l m=decide (l=m)
 | [],[],_=>by simp [all2B]
 | x :: l,y :: m,h=>by
  have:=all2B_eq l m (by simpa using h)
  simp [all2B,this]
theorem eqLoop {α ρ:Type} [Inhabited α] [DecidableEq α] {l m:List α} {b:Int→Rnd Int Unit ρ→Prop} (rv:ρ) (hlen:l.length=m.length)
  (hb:∀ i,0≤i→i < (l.length:Int)→(rdl l i=rdl m i→b i (.next (i + 1)))∧(rdl l i ≠ rdl m i→b i (.ret rv))) (hend:∀ i,0≤i→¬ i < (l.length:Int)→b i (.exit ())) :
  Loop b 0 (if l=m then .go () else .ret rv):=by
 have:=each2Loop (b:=b) (fun x y=>decide (x=y)) rv hlen (fun i h0 h1=>⟨fun h=>(hb i h0 h1).1 (by simpa using h),fun h=>(hb i h0 h1).2 (by simpa using h)⟩) hend
 rw [all2B_eq l m hlen] at this
 simpa using this
theorem eqRound {α:Type} [Inhabited α] [DecidableEq α] {l m:List α} {b:Int→Rnd Int Unit Bool→Prop} (hl:l.length≤maxLen) (hlen:l.length=m.length)
  (hb:b=fun x1 z1=>if x1 < (l.length:Int) then (InR x1 l.length∧InR x1 m.length∧if rdl l x1=rdl m x1 then z1=.next (IntKind.i64.wrap (x1 + 1)) else z1=.ret false) else z1=.exit ()) :
  Loop b 0 (if l=m then .go () else .ret false):=by
 subst hb
 refine eqLoop false hlen (fun i h0 h1=>⟨fun h=>?_,fun h=>?_⟩) (fun i h0 h1=>by simp only [h1,if_false])
 ·simp only [h1,if_true]
  exact ⟨⟨h0,h1⟩,⟨h0,by omega⟩,by rw [if_pos h,wrap_len hl h0 h1]⟩
 ·simp only [h1,if_true]
  exact ⟨⟨h0,h1⟩,⟨h0,by omega⟩,by rw [if_neg h]; trivial⟩
theorem eqOn {α:Type} [DecidableEq α] {l m:List α}:(if l=m then (.go ():Fin Unit Bool) else .ret false).on (fun _=>decide (l=m)=true) (fun r_=>decide (l=m)=r_):=by
 by_cases h:l=m <;> simp [Fin.on,h]
def foldG {α σ:Type} (g:Int→α→σ→σ):List α→Int→σ→σ
 | [],_,s=>s
 | x :: l,i,s=>foldG g l (i + 1) (g i x s)
theorem foldF_G {α σ ρ:Type} (g:Int→α→σ→σ):∀ (l:List α) (i:Int) (s:σ),foldF (fun i x s=>(.go (g i x s):Fin σ ρ)) l i s=.go (foldG g l i s)
 | [],i,s=>rfl
 | x :: l,i,s=>foldF_G g l (i + 1) _
theorem foldGLoop {α σ S τ ρ:Type} [Inhabited α] {l:List α} {b:S→Rnd S τ ρ→Prop} (mk:Int→σ→S) (ex:σ→τ) (g:Int→α→σ→σ) (Inv:Int→σ→Prop)
  (hb:∀ i s,0≤i→i < (l.length:Int)→Inv i s→b (mk i s) (.next (mk (i + 1) (g i (rdl l i) s)))∧Inv (i + 1) (g i (rdl l i) s))
  (hend:∀ s,Inv l.length s→b (mk l.length s) (.exit (ex s))) (s0:σ) (h0:Inv 0 s0) :
  Loop b (mk 0 s0) (.go (ex (foldG g l 0 s0)))∧Inv l.length (foldG g l 0 s0):=by
 have:=foldLoop (l:=l) (b:=b) mk ex (fun i x s=>.go (g i x s)) Inv (fun i s h0 h1 hi=>hb i s h0 h1 hi) hend s0 h0
 rw [foldF_G] at this
 exact ⟨this.1,this.2 _ rfl⟩
theorem foldG_inv {α σ:Type} {g:Int→α→σ→σ} (P:Int→σ→Prop):∀ (l:List α) (i:Int) (s:σ),(∀ i s x,x ∈ l→P i s→P (i + 1) (g i x s))→P i s→P (i + l.length) (foldG g l i s)
 | [],i,s,h,hs=>by simpa [foldG] using hs
 | x :: l,i,s,h,hs=>by
  have:=foldG_inv P l (i + 1) (g i x s) (fun i s y hy hp=>h i s y (.tail _ hy) hp) (h i s x (.head _) hs)
  have e:i + ((x :: l).length:Int)=i + 1 + l.length:=by simp; omega
  rw [e]; exact this
end Go.RM
namespace Go.RM.Tryz
open Go.RM
set_option linter.unusedVariables false
set_option linter.unusedSimpArgs false
def inB (i n:Int):Bool:=decide (i ≥ 0) && decide (i < n)
theorem pds_in.ok (i n:Int):pds_in.f i n (inB i n):=rfl
theorem r11_in.ok (i n:Int):r11_in.f i n (inB i n):=rfl
def costE (cap v:Int):Int:=if cap < 0∨cap > 1048576 then 20 else if v < -1∨v > cap then 21 else 0
theorem cost_Check.ok (cap v:Int):cost_Check.f cap v (costE cap v):=by
 refine ⟨costE cap v,?_,rfl⟩
 unfold cost_checks.f costE
 by_cases h:cap < 0∨cap > 1048576
 ·simp [h]
 ·rw [if_neg (by simpa using h),if_neg h]
  have key:=eachLoop (l:=[v]) (b:=cost_checks.b1 cap [v]) (fun x=>!(decide (x < -1) || decide (x > cap))) (21:Int) (fun i h0 h1=>by
   unfold cost_checks.b1
   simp only [h1,if_true]
   refine ⟨fun ht=>⟨⟨h0,h1⟩,?_⟩,fun ht=>⟨⟨h0,h1⟩,?_⟩⟩
   ·have hn:¬ ((decide (rdl [v] i < -1) || decide (rdl [v] i > cap))=true):=by simpa using ht
    rw [if_neg hn,wrap_len (l:=[v]) (by simp [maxLen]) h0 h1]
   ·have hn:(decide (rdl [v] i < -1) || decide (rdl [v] i > cap))=true:=by simpa only [Bool.not_eq_false'] using ht
    rw [if_pos hn]; trivial) (fun i h0 h1=>by unfold cost_checks.b1; simp only [h1,if_false])
  refine ⟨_,key,?_⟩
  by_cases hv:v < -1∨v > cap
  ·have:([v].all fun x=>!(decide (x < -1) || decide (x > cap)))=false:=by simp; omega
   rw [this,if_pos hv]; rfl
  ·have:([v].all fun x=>!(decide (x < -1) || decide (x > cap)))=true:=by simp; omega
   rw [this,if_neg hv]; rfl
def fullM (n:Int):Int:=2 ^ n.toNat - 1
theorem pow_split {n:Nat} (h:n≤64):(18446744073709551615:Int).fdiv (2 ^ (64 - n))=2 ^ n - 1:=by
 have hp:(2:Int) ^ n * 2 ^ (64 - n)=18446744073709551616:=by rw [← Int.pow_add,show n + (64 - n)=64 by omega]; decide
 have hpos:(0:Int) < 2 ^ (64 - n):=Int.pow_pos (by decide)
 rw [Int.fdiv_eq_ediv_of_nonneg _ (Int.le_of_lt hpos)]
 rw [show (18446744073709551615:Int)=(2 ^ (64 - n) - 1) + (2 ^ n - 1) * 2 ^ (64 - n) by rw [Int.sub_mul,hp]; omega]
 rw [Int.add_mul_ediv_right _ _ (Int.ne_of_gt hpos),Int.ediv_eq_zero_of_lt (by omega) (by omega)]
 omega
theorem bits_Full.ok (n:Int):bits_Full.f n (if n < 0∨n > 64 then (0,10) else (fullM n,0)):=by
 unfold bits_Full.f
 by_cases h:n < 0∨n > 64
 ·rw [if_pos (by simpa using h),if_pos h]
 ·rw [if_neg (by simpa using h),if_neg h]
  have e1:IntKind.i64.wrap (64 - n)=64 - n:=wrap64 (by omega) (by omega)
  have e2:IntKind.u64.wrap (64 - n)=64 - n:=wrapu64 (by omega) (by omega)
  rw [e1,e2]
  refine ⟨by omega,?_⟩
  have hn:n.toNat≤64:=by omega
  have:=pow_split hn
  unfold shrI fullM
  rw [show (min (64 - n).toNat IntKind.u64.bits)=64 - n.toNat by simp [IntKind.bits]; omega,this]
theorem two_pow_lt {n:Nat} (h:n < 64):(2:Int) ^ n < 18446744073709551616:=by
 have h1:(2:Nat) ^ n < 2 ^ 64:=Nat.pow_lt_pow_right (by decide) h
 have h2:((2 ^ n:Nat):Int)=(2:Int) ^ n:=by simp
 have h3:(2:Nat) ^ 64=18446744073709551616:=by decide
 omega
theorem r01_Worth.ok {n:Int} (h0:0≤n) (h1:n < 64):r01_Worth.f n (2 ^ n.toNat):=by
 have key:=Loop.of (b:=r01_Worth.b1) (fun _=>(.go (2 ^ n.toNat):Fin Int Int)) (fun s=>s.1.toNat) (fun s=>0≤s.1∧s.1 < 64∧0≤s.2∧s.2 * 2 ^ s.1.toNat=2 ^ n.toNat) (fun s hi=>by
  obtain ⟨x1,x2⟩:=s
  obtain ⟨i0,i1,i2,i3⟩:=hi
  simp only at i0 i1 i2 i3
  by_cases hx:x1 > 0
  ·have hp:(2:Int) ^ x1.toNat=2 * 2 ^ (x1 - 1).toNat:=by
    rw [show x1.toNat=(x1 - 1).toNat + 1 by omega,Int.pow_succ,Int.mul_comm]
   have hpos:(0:Int) < 2 ^ (x1 - 1).toNat:=Int.pow_pos (by decide)
   have hle:x2 * 2≤x2 * 2 * 2 ^ (x1 - 1).toNat:=by have h9:=Int.mul_le_mul_of_nonneg_left (show (1:Int)≤2 ^ (x1 - 1).toNat by omega) (show 0≤x2 * 2 by omega); rw [Int.mul_one] at h9; exact h9
   have he:x2 * 2 * 2 ^ (x1 - 1).toNat=2 ^ n.toNat:=by rw [← i3,hp,Int.mul_assoc]
   have hlt:=two_pow_lt (n:=n.toNat) (by omega)
   refine .inl ⟨(x1 - 1,x2 * 2),?_,by simp; omega,⟨by simp; omega,by simp; omega,by simp; omega,he⟩,rfl⟩
   unfold r01_Worth.b1
   simp only [hx,if_true]
   rw [wrap64 (by omega) (by omega),wrapu64 (by omega) (by omega)]
  ·have hz:x1=0:=by omega
   subst hz
   refine .inr (.inl ⟨x2,by unfold r01_Worth.b1; simp,?_⟩)
   have:x2=2 ^ n.toNat:=by simpa using i3
   rw [this]) (n,1) ⟨h0,h1,Int.zero_le_ofNat 1,by simp⟩
 exact ⟨_,key,rfl⟩
theorem r01_Full.ok (n:Int):r01_Full.f n (if n < 0∨n > 64 then (0,10) else (fullM n,0)):=by
 unfold r01_Full.f
 by_cases h:n < 0∨n > 64
 ·rw [if_pos (by simpa using h),if_pos h]
 ·rw [if_neg (by simpa using h),if_neg h]
  have key:=Loop.of (b:=r01_Full.b1 n) (fun _=>(.go (fullM n):Fin Int (Int × Int))) (fun s=>(n - s.2).toNat) (fun s=>0≤s.2∧s.2≤n∧s.1=fullM s.2) (fun s hi=>by
   obtain ⟨x1,x2⟩:=s
   obtain ⟨i0,i1,i2⟩:=hi
   simp only at i0 i1 i2
   by_cases hx:x2 < n
   ·have hlt:=two_pow_lt (n:=x2.toNat) (by omega)
    have hpos:(0:Int) < 2 ^ x2.toNat:=Int.pow_pos (by decide)
    have hp:(2:Int) ^ (x2 + 1).toNat=2 ^ x2.toNat * 2:=by rw [show (x2 + 1).toNat=x2.toNat + 1 by omega,Int.pow_succ]
    have hs:x1 + 2 ^ x2.toNat=fullM (x2 + 1):=by rw [i2]; unfold fullM; rw [hp]; omega
    have hle:(2:Int) ^ x2.toNat≤9223372036854775808:=by
     have h1:(2:Nat) ^ x2.toNat≤2 ^ 63:=Nat.pow_le_pow_right (by decide) (by omega)
     have h2:((2 ^ x2.toNat:Nat):Int)=(2:Int) ^ x2.toNat:=by simp
     have h3:(2:Nat) ^ 63=9223372036854775808:=by decide
     omega
    refine .inl ⟨(fullM (x2 + 1),x2 + 1),?_,by simp; omega,⟨by simp; omega,by simp; omega,rfl⟩,rfl⟩
    unfold r01_Full.b1
    simp only [hx,if_true]
    refine ⟨_,r01_Worth.ok i0 (by omega),?_⟩
    rw [hs,wrap64 (by omega) (by omega),wrapu64 (by unfold fullM; rw [hp]; omega) (by unfold fullM; rw [hp]; omega)]
   ·have hz:x2=n:=by omega
    subst hz
    exact .inr (.inl ⟨x1,by unfold r01_Full.b1; simp,by rw [i2]⟩)) (0,0) ⟨by decide,by simp; omega,by simp [fullM]⟩
  exact ⟨_,key,rfl⟩
end Go.RM.Tryz
namespace Go.RM.Tryz
open Go.RM
set_option linter.unusedVariables false
set_option linter.unusedSimpArgs false
def spaceOk1 (s:TSpace):Bool :=
 if s.Tag=1 then (s.Dim == 0) && ((s.Parts.length:Int) == 0)
 else if s.Tag=2 then decide (s.Dim ≥ 0) && (decide (s.Dim≤1048576) && ((s.Parts.length:Int) == 0))
 else if s.Tag=3∨s.Tag=4 then decide (s.Dim ≥ 0) && (decide (s.Dim≤64) && ((s.Parts.length:Int) == 0))
 else false
def spaceOk (s:TSpace):Bool :=
 if s.Tag=5 then (s.Dim == 0) && (((s.Parts.length:Int) == 2) && s.Parts.all (fun p=>!(p.Tag == 5) && spaceOk1 p)) else spaceOk1 s
theorem weight_Space.step1 {self:TSpace→Int→Prop} {s:TSpace} (h:s.Tag ≠ 5):weight_Space.step self s (if spaceOk1 s=true then 0 else 50):=by
 unfold weight_Space.step weight_Space.j1 spaceOk1
 by_cases h1:s.Tag=1
 ·simp only [h1,if_true]; exact iteR _
 ·by_cases h2:s.Tag=2
  ·simp only [h2,Int.reduceEq,if_true,if_false]; exact iteR _
  ·by_cases h3:s.Tag=3
   ·simp only [h3,Int.reduceEq,if_true,if_false,true_or]; exact iteR _
   ·by_cases h4:s.Tag=4
    ·simp only [h4,Int.reduceEq,if_true,if_false,or_true]; exact iteR _
    ·simp [h1,h2,h3,h4,h]
theorem spaceOk_ne {s:TSpace} (h:s.Tag ≠ 5):spaceOk s=spaceOk1 s:=by unfold spaceOk; rw [if_neg h]
theorem weight_Space.ok {s:TSpace} (hl:s.Parts.length≤maxLen):weight_Space.f s (if spaceOk s=true then 0 else 50):=by
 refine ⟨2,?_⟩
 by_cases h:s.Tag=5
 ·show weight_Space.step _ s _
  unfold weight_Space.step spaceOk
  simp only [h,if_true,if_false,show ¬ (5:Int)=1 by decide,show ¬ (5:Int)=2 by decide,show ¬ (5:Int)=3 by decide,show ¬ (5:Int)=4 by decide]
  refine ⟨s.Parts.any (fun p=>(p.Tag == 5) || !spaceOk1 p),fun _ _=>?_,?_⟩
  ·refine containsFunc (fun p=>(p.Tag == 5) || !spaceOk1 p) hl (fun p hp=>?_) rfl
   refine ⟨if spaceOk1 p=true then 0 else 50,fun hn=>weight_Space.step1 hn,?_⟩
   cases spaceOk1 p <;> simp
  ·have e:(!s.Parts.any (fun p=>(p.Tag == 5) || !spaceOk1 p))=s.Parts.all (fun p=>!(p.Tag == 5) && spaceOk1 p):=by
    rw [List.all_eq_not_any_not]; simp
   rw [e]
   exact iteR _
 ·rw [spaceOk_ne h]; exact weight_Space.step1 h
theorem r05_Space.step1 {self:TSpace→Int→Prop} {s:TSpace} (h:s.Tag ≠ 5):r05_Space.step self s (if spaceOk1 s=true then 0 else 50):=by
 unfold r05_Space.step r05_Space.j1 spaceOk1
 by_cases h1:s.Tag=1
 ·simp only [h1,if_true]; exact iteR _
 ·by_cases h2:s.Tag=2
  ·simp only [h2,Int.reduceEq,if_true,if_false]; exact iteR _
  ·by_cases h3:s.Tag=3
   ·simp only [h3,Int.reduceEq,if_true,if_false,true_or,beq_self_eq_true]; exact iteR _
   ·by_cases h4:s.Tag=4
    ·simp only [h4,Int.reduceEq,if_true,if_false,or_true,beq_self_eq_true]; exact iteR _
    ·simp [h1,h2,h3,h4,h]
theorem r05_Space.ok {s:TSpace} (hl:s.Parts.length≤maxLen):r05_Space.f s (if spaceOk s=true then 0 else 50):=by
 refine ⟨2,?_⟩
 by_cases h:s.Tag=5
 ·show r05_Space.step _ s _
  unfold r05_Space.step spaceOk r05_Space.j1
  simp only [h,if_true,if_false,show ¬ (5:Int)=1 by decide,show ¬ (5:Int)=2 by decide,show ¬ (5:Int)=3 by decide,show ((5:Int) == 4)=false by decide,Bool.false_eq_true]
  by_cases hd:((s.Dim == 0) && ((s.Parts.length:Int) == 2))=true
  ·obtain ⟨a,b,hp⟩:∃ a b,s.Parts=[a,b]:=by
    have:s.Parts.length=2:=by simp at hd; omega
    match hs:s.Parts,this with
    | [a,b],_=>exact ⟨a,b,rfl⟩
   have hq:∀ p:TSpace,¬ p.Tag=5→r05_Space.fN 1 p (if spaceOk1 p=true then 0 else 50):=fun p hn=>r05_Space.step1 hn
   have hx:∀ p:TSpace,((!(p.Tag == 5)) && ((if spaceOk1 p=true then (0:Int) else 50) == 0))=(!(p.Tag == 5) && spaceOk1 p):=fun p=>by cases spaceOk1 p <;> simp
   have r1:r05_Space.b1 (r05_Space.fN 1) s (true,0) (.next (!(a.Tag == 5) && spaceOk1 a,1)):=by
    unfold r05_Space.b1
    simp only [hp]
    refine ⟨⟨by decide,by simp⟩,fun _=>⟨by decide,by simp⟩,_,hq a,?_⟩
    rw [show rdl [a,b] 0=a from rfl,hx a]; rfl
   have r2:(!(a.Tag == 5) && spaceOk1 a)=true→r05_Space.b1 (r05_Space.fN 1) s (true,1) (.next (!(b.Tag == 5) && spaceOk1 b,2)):=fun _=>by
    unfold r05_Space.b1
    simp only [hp]
    refine ⟨⟨by decide,by simp⟩,fun _=>⟨by decide,by simp⟩,_,hq b,?_⟩
    rw [show rdl [a,b] 1=b from rfl,hx b]; rfl
   have r3:∀ c,r05_Space.b1 (r05_Space.fN 1) s (c,2) (.exit c):=fun c=>by unfold r05_Space.b1; simp [hp]
   have r4:r05_Space.b1 (r05_Space.fN 1) s (false,1) (.exit false):=by unfold r05_Space.b1; simp [hp]
   rw [hd]
   rw [Bool.and_eq_true] at hd
   rw [hd.1,hd.2,hp]
   cases ha:(!(a.Tag == 5) && spaceOk1 a) with
   | false =>
    rw [ha] at r1
    refine ⟨_,.next r1 (.exit r4),?_⟩
    simp [Fin.on,ha]
   | true =>
    rw [ha] at r1
    refine ⟨_,.next r1 (.next (r2 ha) (.exit (r3 _))),?_⟩
    simp only [Fin.on,List.all_cons,List.all_nil,ha,Bool.true_and,Bool.and_true]
    exact iteR _
  ·have hd':((s.Dim == 0) && ((s.Parts.length:Int) == 2))=false:=by simpa only [Bool.not_eq_true] using hd
   rw [hd',← Bool.and_assoc,hd']
   refine ⟨.go false,.exit ?_,?_⟩
   ·unfold r05_Space.b1; simp
   ·simp [Fin.on]
 ·rw [spaceOk_ne h]; exact r05_Space.step1 h
end Go.RM.Tryz
namespace Go.RM.Tryz
open Go.RM
set_option linter.unusedVariables false
set_option linter.unusedSimpArgs false
def plainB (w:TWeight) (c f e p:Bool):Bool :=
 (c || w.Cost == 0) && ((f || (w.Facts.Gen == 0 && (w.Facts.Rows.length:Int) == 0)) && ((e || (w.Cells.length:Int) == 0) && (p || (w.Parts.length:Int) == 0)))
theorem r05_plain.ok (w:TWeight) (c f e p:Bool):r05_plain.f w c f e p (plainB w c f e p):=by
 unfold r05_plain.f plainB
 cases c <;> cases f <;> cases e <;> cases p <;> simp [Bool.and_assoc]
def TWeight.Sized (w:TWeight):Prop:=w.Facts.Rows.length≤17592186044416∧w.Cells.length≤17592186044416∧w.Parts.length≤17592186044416
theorem TWeight.Fit.sized {w:TWeight} (h:w.Fit):w.Sized:=by
 cases h with
 | mk _ h0 h1 h2 h3 h4 h5 h6 h7 h8 =>
  have:=h2.2.1
  exact ⟨by omega,by omega,by omega⟩
theorem weight_bare.ok {w:TWeight} (h:w.Sized) (t:Int):weight_bare.f w t (plainB w (t == 2) (t == 3) (t == 4) (t == 5)):=by
 obtain ⟨ha,hb,hc⟩:=h
 have e:∀ a b c:Nat,a≤17592186044416→b≤17592186044416→c≤17592186044416→(IntKind.i64.wrap (IntKind.i64.wrap ((a:Int) + b) + c) == 0)=(((a:Int) == 0) && (((b:Int) == 0) && ((c:Int) == 0))):=by
  intro a b c h1 h2 h3
  rw [wrap64 (i:=(a:Int) + b) (by omega) (by omega),wrap64 (by omega) (by omega),Bool.eq_iff_iff]
  simp only [beq_iff_eq,Bool.and_eq_true]
  omega
 have z:((([]:List Int).length:Nat):Int)=0:=rfl
 unfold weight_bare.f weight_bare.j1 plainB
 by_cases h2:t=2
 ·subst h2; rw [if_pos rfl]; simp only []; rw [e _ _ _ ha hb hc]; simp [Bool.and_assoc]
 ·by_cases h3:t=3
  ·subst h3; simp only [Int.reduceEq,if_true,if_false]; rw [e _ _ _ (by simp) hb hc]; simp
  ·by_cases h4:t=4
   ·subst h4; simp only [Int.reduceEq,if_true,if_false]; rw [e _ _ _ ha (by simp) hc]; simp [Bool.and_assoc]
   ·by_cases h5:t=5
    ·subst h5; simp only [Int.reduceEq,if_true,if_false]; rw [e _ _ _ ha hb (by simp)]; simp [Bool.and_assoc]
    ·simp only [h2,h3,h4,h5,if_false]; rw [e _ _ _ ha hb hc]
     rw [beq_false_of_ne h2,beq_false_of_ne h3,beq_false_of_ne h4,beq_false_of_ne h5]
     simp only [Bool.false_or,Bool.and_assoc]
def cellOk (n:Int) (c:TCell):Bool :=
 (bitOp .andNot .u64 c.From (fullM n) == 0) && (if c.Kind=0 then c.K == 0 else if c.Kind=1 then true else if c.Kind=2 then (c.K == 0) && (c.From == 0) else false)
theorem cells_mask.ok {n:Int} (h0:0≤n) (h1:n≤64):cells_mask.f n (fullM n):=by
 unfold cells_mask.f
 by_cases h:n ≥ 64
 ·have:n=64:=by omega
  subst this
  simp only [ge_iff_le,Int.le_refl,if_true]; decide
 ·rw [if_neg h]
  refine ⟨h0,?_⟩
  have hlt:=two_pow_lt (n:=n.toNat) (by omega)
  have hpos:(0:Int) < 2 ^ n.toNat:=Int.pow_pos (by decide)
  have e:shlI .u64 1 n=2 ^ n.toNat:=by
   unfold shlI
   rw [show (min n.toNat IntKind.u64.bits)=n.toNat by simp [IntKind.bits]; omega]
   rw [Int.one_mul,wrapu64 (by omega) hlt]
  rw [e,wrapu64 (by omega) (by omega)]
  rfl
theorem cells_right.ok {n:Int} (h0:0≤n) (h1:n≤64) (c:TCell):cells_right.f n c (cellOk n c):=by
 refine ⟨_,cells_mask.ok h0 h1,?_⟩
 unfold cellOk
 by_cases hm:bitOp .andNot .u64 c.From (fullM n)=0
 ·simp only [hm,if_true,beq_self_eq_true,Bool.true_and]
  by_cases k1:c.Kind=1
  ·simp [k1]
  ·by_cases k0:c.Kind=0
   ·simp [k0]
   ·by_cases k2:c.Kind=2
    ·simp [k2,Bool.and_comm]
    ·simp [k0,k1,k2]
 ·simp [hm]
theorem fullI {n:Int} (h0:0≤n) (h1:n≤64):(if n < 0∨n > 64 then ((0,10):Int × Int) else (fullM n,0))=(fullM n,0):=by rw [if_neg (by omega)]
theorem r03_Inside.ok {n:Int} (h0:0≤n) (h1:n≤64) (x:Int):r03_Inside.f n x (bitOp .andNot .u64 x (fullM n) == 0):=by
 have:=r01_Full.ok n
 rw [fullI h0 h1] at this
 exact ⟨_,this,rfl⟩
theorem r05_cell.ok {n:Int} (h0:0≤n) (h1:n≤64) (c:TCell):r05_cell.f n c (cellOk n c):=by
 refine ⟨_,r03_Inside.ok h0 h1 _,?_⟩
 unfold cellOk
 by_cases hm:bitOp .andNot .u64 c.From (fullM n)=0
 ·simp only [hm,if_true,beq_self_eq_true,Bool.true_and]
  by_cases k0:c.Kind=0
  ·simp [k0]
  ·by_cases k1:c.Kind=1
   ·simp [k1]
   ·by_cases k2:c.Kind=2
    ·simp [k2]
    ·simp [k0,k1,k2]
 ·simp [hm]
def cellsOk (n:Int) (l:List TCell):Bool:=((l.length:Int) == n) && l.all (cellOk n)
theorem cells_Check.ok {n:Int} (h0:0≤n) (h1:n≤64) {l:List TCell} (hl:l.length≤maxLen):cells_Check.f n l (if cellsOk n l=true then 0 else 40):=by
 refine ⟨0,?_,?_⟩
 ·unfold cells_dims.f; rw [if_neg (by simp; omega)]
 ·simp only [if_true]
  unfold cellsOk
  by_cases hn:(l.length:Int)=n
  ·rw [if_pos hn]
   have key:=eachLoop (l:=l) (b:=cells_Check.b1 n l) (cellOk n) (40:Int) (fun i i0 i1=>by
    unfold cells_Check.b1
    simp only [i1,if_true]
    exact ⟨fun ht=>⟨⟨i0,i1⟩,_,cells_right.ok h0 h1 _,by rw [ht,if_pos rfl,wrap_len hl i0 i1]⟩,fun ht=>⟨⟨i0,i1⟩,_,cells_right.ok h0 h1 _,by rw [ht]; simp⟩⟩) (fun i i0 i1=>by unfold cells_Check.b1; rw [if_neg i1])
   refine ⟨_,key,?_⟩
   cases l.all (cellOk n) <;> simp [Fin.on,hn]
  ·rw [if_neg hn]
   simp [hn]
end Go.RM.Tryz
namespace Go.RM.Tryz
open Go.RM
set_option linter.unusedVariables false
set_option linter.unusedSimpArgs false
theorem slices_Equal_uint64.ok {a b:List Int} (hl:a.length≤maxLen):slices_Equal_uint64.f a b (decide (a=b)):=by
 unfold slices_Equal_uint64.f
 by_cases h:(a.length:Int)=b.length
 ·rw [if_pos h]
  exact ⟨_,eqRound hl (by omega) rfl,eqOn⟩
 ·rw [if_neg h]
  have:a ≠ b:=fun e=>h (by rw [e])
  simp [this]
def factsEq (a b:TFacts):Bool:=(a.Gen == b.Gen) && decide (a.Rows=b.Rows)
theorem facts_Same.ok {a b:TFacts} (hl:a.Rows.length≤maxLen):facts_Same.f a b (factsEq a b) :=
 ⟨_,fun _=>slices_Equal_uint64.ok hl,rfl⟩
theorem r03_Same.ok {a b:TFacts} (hl:a.Rows.length≤maxLen):r03_Same.f a b (factsEq a b):=by
 unfold r03_Same.f factsEq
 by_cases hg:a.Gen=b.Gen
 ·by_cases h:(a.Rows.length:Int)=b.Rows.length
  ·rw [if_neg (by simp [hg,h])]
   refine ⟨_,eqRound hl (by omega) rfl,?_⟩
   simp only [hg,beq_self_eq_true,Bool.true_and]
   exact eqOn
  ·rw [if_pos (by simp [h])]
   have:a.Rows ≠ b.Rows:=fun e=>h (by rw [e])
   simp [this]
 ·rw [if_pos (by simp [hg])]
  simp [hg]
def canonM (F:TFacts):TFacts:=⟨F.Gen,F.Rows.map (fun r=>bitOp .andNot .u64 r F.Gen)⟩
theorem upto_rdl {α:Type} [Inhabited α] (l:List α):(upto l.length).map (rdl l)=l:=by
 apply List.ext_getElem?
 intro k
 simp only [upto,List.map_map,List.getElem?_map]
 by_cases h:k < l.length
 ·rw [List.getElem?_range h]
  have:=rdl_get (l:=l) (i:=(k:Int)) (by omega) (by omega)
  simp only [Int.toNat_natCast] at this
  rw [this]; rfl
 ·rw [List.getElem?_eq_none (by simp; omega),List.getElem?_eq_none (by omega)]; rfl
theorem facts_canon.ok {F:TFacts} (h:F.Rows.length≤17592186044416):facts_canon.f F (canonM F):=by
 refine ⟨⟨by omega,by unfold Fits; omega⟩,?_⟩
 have hm:F.Rows.length≤maxLen:=by unfold maxLen; omega
 have key:=fillLoop (n:=(F.Rows.length:Int)) (b:=facts_canon.b1 F) (0:Int) (fun i _=>bitOp .andNot .u64 (rdl F.Rows i) F.Gen) (by omega) (fun i l h0 h1 hl=>by
  unfold facts_canon.b1
  simp only [h1,if_true]
  exact ⟨⟨h0,h1⟩,⟨h0,by omega⟩,by rw [wrap_len hm h0 h1]⟩) (fun l hl=>by
  unfold facts_canon.b1
  simp)
 refine ⟨_,key,?_⟩
 show canonM F=_
 unfold canonM
 congr 1
 have:F.Rows.map (fun r=>bitOp .andNot .u64 r F.Gen)=((upto F.Rows.length).map (rdl F.Rows)).map (fun r=>bitOp .andNot .u64 r F.Gen):=by rw [upto_rdl]
 rw [this,List.map_map]; simp [Function.comp_def]
theorem r03_canon.ok {F:TFacts} (h:F.Rows.length≤17592186044416):r03_canon.f F (canonM F):=by
 have hm:F.Rows.length≤maxLen:=by unfold maxLen; omega
 have key:=foldLoop (l:=F.Rows) (b:=r03_canon.b1 F) (fun i l=>(l,i)) id (fun _ x acc=>.go (acc ++ [bitOp .andNot .u64 x F.Gen])) (fun i l=>(l.length:Int)=i) (fun i l h0 h1 hi=>by
  refine ⟨?_,by simp; omega⟩
  unfold r03_canon.b1
  simp only [h1,if_true]
  exact ⟨⟨h0,h1⟩,by unfold Fits; omega,by rw [wrap_len hm h0 h1]⟩) (fun l hl=>by unfold r03_canon.b1; simp) [] rfl
 refine ⟨_,key.1,?_⟩
 rw [foldF_map]
 rfl
def factsOk (n:Int) (F:TFacts):Bool :=
 ((F.Rows.length:Int) == n) && ((bitOp .andNot .u64 F.Gen (fullM n) == 0) && (F.Rows.all (fun x=>bitOp .andNot .u64 x (fullM n) == 0) && factsEq (canonM F) F))
theorem canonM_len (F:TFacts):(canonM F).Rows.length=F.Rows.length:=by simp [canonM]
theorem facts_Check.ok {n:Int} (h0:0≤n) (h1:n≤64) {F:TFacts} (hl:F.Rows.length≤17592186044416):facts_Check.f n F (if factsOk n F=true then 0 else 30):=by
 have hm:F.Rows.length≤maxLen:=by unfold maxLen; omega
 let a:=F.Rows.any (fun x=>bitOp .andNot .u64 x (fullM n) != 0)
 have hs:facts_shaped.f n F (if ((!((F.Rows.length:Int) == n)) || ((!((bitOp .andNot .u64 F.Gen (fullM n)) == 0)) || a))=true then 30 else 0):=by
  have hf:=bits_Full.ok n
  rw [fullI h0 h1] at hf
  refine ⟨_,hf,?_⟩
  simp only [if_true]
  refine ⟨a,fun _ _=>containsFunc (q:=fun x0_ y_=>facts_shaped_1.f x0_ (fullM n) y_) (fun x=>bitOp .andNot .u64 x (fullM n) != 0) hm (fun x hx=>rfl) rfl,iteR _⟩
 refine ⟨_,hs,?_⟩
 have e:F.Rows.all (fun x=>bitOp .andNot .u64 x (fullM n) == 0)=!a:=by simp [a,List.all_eq_not_any_not]; rfl
 unfold factsOk
 rw [e]
 by_cases hn:(F.Rows.length:Int)=n
 ·by_cases hg:bitOp .andNot .u64 F.Gen (fullM n)=0
  ·cases ha:a with
   | false =>
    simp only [hn,hg,beq_self_eq_true,Bool.not_true,Bool.or_self,Bool.false_eq_true,if_false,if_true]
    refine ⟨_,facts_canon.ok hl,_,facts_Same.ok (by rw [canonM_len]; exact hm),?_⟩
    cases factsEq (canonM F) F <;> simp
   | true=>simp [hn,hg]
  ·simp [hg]
 ·simp [hn]
theorem r03_Check.ok {n:Int} (h0:0≤n) (h1:n≤64) {F:TFacts} (hl:F.Rows.length≤17592186044416):r03_Check.f n F (if factsOk n F=true then 0 else 30):=by
 have hm:F.Rows.length≤maxLen:=by unfold maxLen; omega
 let s:Bool:=((F.Rows.length:Int) == n) && ((bitOp .andNot .u64 F.Gen (fullM n) == 0) && F.Rows.all (fun x=>bitOp .andNot .u64 x (fullM n) == 0))
 have hs:r03_shape.f n F s:=by
  refine ⟨_,fun _=>r03_Inside.ok h0 h1 _,?_⟩
  by_cases hn:(F.Rows.length:Int)=n
  ·by_cases hg:bitOp .andNot .u64 F.Gen (fullM n)=0
   ·rw [if_neg (by simp [hn,hg])]
    have key:=eachLoop (l:=F.Rows) (b:=r03_shape.b1 n F) (fun x=>bitOp .andNot .u64 x (fullM n) == 0) false (fun i i0 i1=>by
     unfold r03_shape.b1
     have i2:i < n:=by omega
     simp only [i2,if_true]
     exact ⟨fun ht=>⟨⟨i0,i1⟩,_,r03_Inside.ok h0 h1 _,by rw [ht,if_pos rfl,wrap_len hm i0 i1]⟩,fun ht=>⟨⟨i0,i1⟩,_,r03_Inside.ok h0 h1 _,by rw [ht]; simp⟩⟩) (fun i i0 i1=>by unfold r03_shape.b1; rw [if_neg (by omega)])
    refine ⟨_,key,?_⟩
    simp only [s,hn,hg,beq_self_eq_true,Bool.true_and]
    cases F.Rows.all (fun x=>bitOp .andNot .u64 x (fullM n) == 0) <;> simp [Fin.on]
   ·rw [if_pos (by simp [hg])]; simp [s,hg]
  ·rw [if_pos (by simp [hn])]; simp [s,hn]
 refine ⟨true,?_,?_⟩
 ·unfold r03_dim.f; simp; omega
 ·rw [if_pos rfl]
  refine ⟨_,hs,_,fun _=>r03_canon.ok hl,_,fun _=>r03_Same.ok (by rw [canonM_len]; exact hm),?_⟩
  have e:factsOk n F=(s && factsEq (canonM F) F):=by simp [factsOk,s,Bool.and_assoc]
  rw [e]
  cases s <;> cases factsEq (canonM F) F <;> simp
end Go.RM.Tryz
namespace Go.RM.Tryz
open Go.RM
set_option linter.unusedVariables false
set_option linter.unusedSimpArgs false
def isW1 (s:TSpace) (w:TWeight):Bool :=
 if w.Zero=true then plainB w false false false false
 else plainB w (s.Tag == 2) (s.Tag == 3) (s.Tag == 4) false && (if s.Tag=2 then decide (w.Cost ≥ 0) && decide (w.Cost≤s.Dim) else if s.Tag=3 then factsOk s.Dim w.Facts else if s.Tag=4 then cellsOk s.Dim w.Cells else true)
def isW (s:TSpace) (w:TWeight):Bool :=
 if s.Tag=5 then (!w.Zero) && (plainB w false false false true && (((w.Parts.length:Int) == 2) && (isW1 (rdl s.Parts 0) (rdl w.Parts 0) && isW1 (rdl s.Parts 1) (rdl w.Parts 1)))) else isW1 s w
def TWeight.Sized2 (w:TWeight):Prop:=w.Sized∧∀ p ∈ w.Parts,p.Sized
theorem TWeight.Fit.sized2 {w:TWeight} (h:w.Fit):w.Sized2:=⟨h.sized,by
 cases h with
 | mk _ h0 h1 h2 h3 h4 h5 h6 h7 h8=>exact fun p hp=>(h8 p hp).sized⟩
theorem space1_cases {s:TSpace} (h:spaceOk1 s=true):(s.Tag=1∧s.Dim=0)∨(s.Tag=2∧0≤s.Dim∧s.Dim≤1048576)∨(s.Tag=3∧0≤s.Dim∧s.Dim≤64)∨(s.Tag=4∧0≤s.Dim∧s.Dim≤64):=by
 unfold spaceOk1 at h
 by_cases h1:s.Tag=1
 ·simp [h1] at h; exact .inl ⟨h1,h.1⟩
 ·by_cases h2:s.Tag=2
  ·simp [h2] at h; exact .inr (.inl ⟨h2,h.1,h.2.1⟩)
  ·by_cases h3:s.Tag=3
   ·simp [h3] at h; exact .inr (.inr (.inl ⟨h3,h.1,h.2.1⟩))
   ·by_cases h4:s.Tag=4
    ·simp [h4] at h; exact .inr (.inr (.inr ⟨h4,h.1,h.2.1⟩))
    ·simp [h1,h2,h3,h4] at h
theorem space_parts {s:TSpace} (h:spaceOk s=true) (h5:s.Tag=5):∃ a b,s.Parts=[a,b]∧spaceOk1 a=true∧spaceOk1 b=true∧a.Tag ≠ 5∧b.Tag ≠ 5∧s.Dim=0:=by
 unfold spaceOk at h
 rw [if_pos h5] at h
 rw [Bool.and_eq_true,Bool.and_eq_true] at h
 obtain ⟨hd,hl,ha⟩:=h
 have:s.Parts.length=2:=by simp at hl; omega
 match hs:s.Parts,this with
 | [a,b],_ =>
  rw [hs] at ha
  simp at ha hd
  exact ⟨a,b,rfl,ha.1.2,ha.2.2,ha.1.1,ha.2.1,hd⟩
theorem weight_is.step1 {self:TSpace→TWeight→Bool→Prop} {s:TSpace} {w:TWeight} (hs:spaceOk1 s=true) (hw:w.Sized):weight_is.step self s w (isW1 s w):=by
 have hm:w.Cells.length≤maxLen:=by have:=hw.2.1; unfold maxLen; omega
 unfold weight_is.step isW1
 cases hz:w.Zero with
 | true =>
  rw [if_pos rfl,if_pos rfl]
  refine ⟨_,fun _=>weight_bare.ok hw 0,?_⟩
  have h5:s.Tag ≠ 5:=by rcases space1_cases hs with h | h | h | h <;> omega
  simp [h5]
 | false =>
  rw [if_neg Bool.false_ne_true,if_neg Bool.false_ne_true]
  have h5:s.Tag ≠ 5:=by rcases space1_cases hs with h | h | h | h <;> omega
  refine ⟨_,weight_bare.ok hw s.Tag,?_⟩
  rw [beq_false_of_ne h5]
  cases hp:plainB w (s.Tag == 2) (s.Tag == 3) (s.Tag == 4) false with
  | false=>simp
  | true =>
   rw [if_pos rfl,Bool.true_and]
   rcases space1_cases hs with h | h | h | h
   ·simp [h.1]
   ·simp only [h.1,Int.reduceEq,if_true,if_false]
    refine ⟨_,fun _=>cost_Check.ok _ _,?_⟩
    unfold costE
    rw [if_neg (by omega),Bool.eq_iff_iff]
    by_cases hv:w.Cost < -1∨w.Cost > s.Dim
    ·rw [if_pos hv]; simp; omega
    ·rw [if_neg hv]; simp; omega
   ·simp only [h.1,Int.reduceEq,if_true,if_false]
    refine ⟨_,facts_Check.ok h.2.1 h.2.2 hw.1,?_⟩
    cases factsOk s.Dim w.Facts <;> simp
   ·simp only [h.1,Int.reduceEq,if_true,if_false]
    refine ⟨_,cells_Check.ok h.2.1 h.2.2 hm,?_⟩
    cases cellsOk s.Dim w.Cells <;> simp
theorem isW_ne {s:TSpace} {w:TWeight} (h:s.Tag ≠ 5):isW s w=isW1 s w:=by unfold isW; rw [if_neg h]
theorem part_sized {w:TWeight} (hw:w.Sized2) {i:Int} (h0:0≤i) (h1:i < w.Parts.length):(rdl w.Parts i).Sized:=hw.2 _ (rdl_mem h0 h1)
theorem weight_is.ok {s:TSpace} {w:TWeight} (hs:spaceOk s=true) (hw:w.Sized2):weight_is.f s w (isW s w):=by
 refine ⟨2,?_⟩
 by_cases h5:s.Tag=5
 ·obtain ⟨a,b,hp,ha,hb,_,_,hd⟩:=space_parts hs h5
  show weight_is.step (weight_is.fN 1) s w _
  unfold weight_is.step isW
  rw [if_pos h5]
  cases hz:w.Zero with
  | true =>
   rw [if_pos rfl]
   exact ⟨false,fun h=>(h h5).elim,by simp [h5]⟩
  | false =>
   rw [if_neg Bool.false_ne_true]
   refine ⟨_,weight_bare.ok hw.1 s.Tag,?_⟩
   simp only [h5,Int.reduceBEq]
   cases hb:plainB w false false false true with
   | false=>simp
   | true =>
    simp only [Int.reduceEq,if_true,if_false,hp]
    by_cases h2:(w.Parts.length:Int)=2
    ·refine ⟨fun _=>⟨by decide,by simp⟩,fun _=>⟨by decide,by omega⟩,_,fun _=>weight_is.step1 (self:=weight_is.fN 0) ha (part_sized hw (by decide) (by omega)),fun _ _=>⟨by decide,by simp⟩,fun _ _=>⟨by decide,by omega⟩,_,fun _ _=>weight_is.step1 (self:=weight_is.fN 0) (by assumption) (part_sized hw (by decide) (by omega)),?_⟩
     simp [h2]
    ·refine ⟨fun h=>(h2 h).elim,fun h=>(h2 h).elim,false,fun h=>(h2 h).elim,fun h=>(h2 h).elim,fun h=>(h2 h).elim,false,fun h=>(h2 h).elim,?_⟩
     simp [h2]
 ·have h1:spaceOk1 s=true:=by rw [← spaceOk_ne h5]; exact hs
  rw [isW_ne h5]; exact weight_is.step1 h1 hw.1
theorem r05_is.step1 {self:TSpace→TWeight→Bool→Prop} {s:TSpace} {w:TWeight} (hs:spaceOk1 s=true) (hw:w.Sized):r05_is.step self s w (isW1 s w):=by
 have hm:w.Cells.length≤maxLen:=by have:=hw.2.1; unfold maxLen; omega
 unfold r05_is.step isW1
 have h5:s.Tag ≠ 5:=by rcases space1_cases hs with h | h | h | h <;> omega
 cases hz:w.Zero with
 | true =>
  rw [if_pos rfl,if_pos rfl]
  exact ⟨_,fun _=>r05_plain.ok w false false false false,by simp [h5]⟩
 | false =>
  rw [if_neg Bool.false_ne_true,if_neg Bool.false_ne_true]
  rcases space1_cases hs with h | h | h | h
  ·simp only [h.1,Int.reduceEq,Int.reduceBEq,if_true,if_false,Bool.and_true]
   exact ⟨_,r05_plain.ok w false false false false,rfl⟩
  ·simp only [h.1,Int.reduceEq,Int.reduceBEq,if_true,if_false]
   exact ⟨_,r05_plain.ok w true false false false,rfl⟩
  ·simp only [h.1,Int.reduceEq,Int.reduceBEq,if_true,if_false]
   refine ⟨_,r05_plain.ok w false true false false,_,fun _=>r03_Check.ok h.2.1 h.2.2 hw.1,?_⟩
   cases factsOk s.Dim w.Facts <;> simp
  ·simp only [h.1,Int.reduceEq,Int.reduceBEq,if_true,if_false]
   refine ⟨_,r05_plain.ok w false false true false,?_⟩
   unfold cellsOk
   cases hp:plainB w false false true false with
   | false=>simp
   | true =>
    by_cases hn:(w.Cells.length:Int)=s.Dim
    ·rw [if_neg (by simp [hn])]
     have key:=eachLoop (l:=w.Cells) (b:=r05_is.b1 s w) (cellOk s.Dim) false (fun i i0 i1=>by
      unfold r05_is.b1
      simp only [i1,if_true]
      exact ⟨fun ht=>⟨⟨i0,i1⟩,_,r05_cell.ok h.2.1 h.2.2 _,by rw [ht,if_pos rfl,wrap_len hm i0 i1]⟩,fun ht=>⟨⟨i0,i1⟩,_,r05_cell.ok h.2.1 h.2.2 _,by rw [ht]; simp⟩⟩) (fun i i0 i1=>by unfold r05_is.b1; simp only [i1,if_false])
     refine ⟨_,key,?_⟩
     cases w.Cells.all (cellOk s.Dim) <;> simp [Fin.on,hn]
    ·rw [if_pos (by simp [hn])]; simp [hn]
theorem r05_is.ok {s:TSpace} {w:TWeight} (hs:spaceOk s=true) (hw:w.Sized2):r05_is.f s w (isW s w):=by
 refine ⟨2,?_⟩
 by_cases h5:s.Tag=5
 ·obtain ⟨a,b,hp,ha,hb,_,_,hd⟩:=space_parts hs h5
  show r05_is.step (r05_is.fN 1) s w _
  unfold r05_is.step isW
  rw [if_pos h5]
  cases hz:w.Zero with
  | true =>
   rw [if_pos rfl]
   exact ⟨false,fun h=>(h h5).elim,by simp [h5]⟩
  | false =>
   rw [if_neg Bool.false_ne_true]
   simp only [h5,Int.reduceEq,if_true,if_false,hp]
   refine ⟨_,r05_plain.ok w false false false true,?_⟩
   cases hb:plainB w false false false true with
   | false=>exact ⟨fun h=>(by cases h),fun h=>(by cases h),false,fun h=>(by cases h),fun h=>(by cases h),fun h=>(by cases h),false,fun h=>(by cases h),by simp⟩
   | true =>
    by_cases h2:(w.Parts.length:Int)=2
    ·refine ⟨fun _ _=>⟨by decide,by simp⟩,fun _ _=>⟨by decide,by omega⟩,_,fun _ _=>r05_is.step1 (self:=r05_is.fN 0) ha (part_sized hw (by decide) (by omega)),fun _ _ _=>⟨by decide,by simp⟩,fun _ _ _=>⟨by decide,by omega⟩,_,fun _ _ _=>r05_is.step1 (self:=r05_is.fN 0) (by assumption) (part_sized hw (by decide) (by omega)),?_⟩
     simp [h2]
    ·refine ⟨fun _ h=>(h2 h).elim,fun _ h=>(h2 h).elim,false,fun _ h=>(h2 h).elim,fun _ h=>(h2 h).elim,fun _ h=>(h2 h).elim,false,fun _ h=>(h2 h).elim,?_⟩
     simp [h2]
 ·have h1:spaceOk1 s=true:=by rw [← spaceOk_ne h5]; exact hs
  rw [isW_ne h5]; exact r05_is.step1 h1 hw.1
def allC (s:TSpace) (l:List TWeight):Int:=if spaceOk s=true then (if l.all (isW s)=true then 0 else 51) else 50
theorem weight_checked.ok {s:TSpace} {l:List TWeight} (hs:s.Parts.length≤maxLen) (hl:l.length≤maxLen) (hw:∀ w ∈ l,w.Sized2):weight_checked.f s l (allC s l):=by
 refine ⟨_,weight_Space.ok hs,?_⟩
 unfold allC
 cases h:spaceOk s with
 | false=>simp
 | true =>
  simp only [if_true]
  refine ⟨l.any (fun w=>!isW s w),containsFunc (q:=fun x y=>weight_checked_1.f x s y) (fun w=>!isW s w) hl (fun w hm=>⟨_,weight_is.ok h (hw w hm),rfl⟩) rfl,?_⟩
  rw [List.all_eq_not_any_not]
  cases l.any (fun w=>!isW s w) <;> simp
def wC (s:TSpace) (w:TWeight):Int:=if spaceOk s=true then (if isW s w=true then 0 else 51) else 50
theorem wC_all (s:TSpace) (w:TWeight):allC s [w]=wC s w:=by simp [allC,wC]
theorem weight_Check.ok {s:TSpace} {w:TWeight} (hs:s.Parts.length≤maxLen) (hw:w.Sized2):weight_Check.f s w (wC s w):=by
 refine ⟨_,weight_checked.ok hs (by simp [maxLen]) (fun x hx=>by simp at hx; subst hx; exact hw),(wC_all s w).symm⟩
theorem r05_Check.ok {s:TSpace} {w:TWeight} (hs:s.Parts.length≤maxLen) (hw:w.Sized2):r05_Check.f s w (wC s w):=by
 refine ⟨_,r05_Space.ok hs,?_⟩
 unfold wC
 cases h:spaceOk s with
 | false=>simp
 | true =>
  simp only [if_true]
  exact ⟨_,r05_is.ok h hw,iteR _⟩
end Go.RM.Tryz
namespace Go.RM.Tryz
open Go.RM
set_option linter.unusedVariables false
set_option linter.unusedSimpArgs false
def ruleOk (p:TPds) (r:TRule):Bool :=
 inB r.P p.States && (inB r.Q p.States && (inB r.G p.Symbols && (decide ((r.W.length:Int)≤4096) && r.W.all (fun g=>inB g p.Symbols))))
theorem pds_rule.ok {p:TPds} {r:TRule} (hl:r.W.length≤maxLen):pds_rule.f p r (ruleOk p r):=by
 refine ⟨_,pds_in.ok _ _,_,fun _=>pds_in.ok _ _,_,fun _ _=>pds_in.ok _ _,r.W.any (fun g=>!inB g p.Symbols),fun _ _ _ _=>?_,?_⟩
 ·exact containsFunc (q:=fun x y=>pds_rule_1.f x p y) (fun g=>!inB g p.Symbols) hl (fun g hg=>⟨_,pds_in.ok _ _,rfl⟩) rfl
 ·unfold ruleOk; rw [List.all_eq_not_any_not]
theorem r11_rule.ok {p:TPds} {r:TRule} (hl:r.W.length≤maxLen):r11_rule.f p r (ruleOk p r):=by
 refine ⟨_,r11_in.ok _ _,_,fun _=>r11_in.ok _ _,_,fun _ _=>r11_in.ok _ _,?_⟩
 unfold ruleOk
 cases inB r.P p.States with
 | false=>simp
 | true =>
  cases inB r.Q p.States with
  | false=>simp
  | true =>
   cases inB r.G p.Symbols with
   | false=>simp
   | true =>
    by_cases h:(r.W.length:Int) > 4096
    ·have h':¬ (r.W.length:Int)≤4096:=by omega
     simp [h,decide_eq_false h']
    ·rw [if_neg (by simp; omega)]
     have key:=eachLoop (l:=r.W) (b:=r11_rule.b1 p r) (fun g=>inB g p.Symbols) false (fun i i0 i1=>by
      unfold r11_rule.b1
      simp only [i1,if_true]
      exact ⟨fun ht=>⟨⟨i0,i1⟩,_,r11_in.ok _ _,by rw [ht,if_pos rfl,wrap_len hl i0 i1]⟩,fun ht=>⟨⟨i0,i1⟩,_,r11_in.ok _ _,by rw [ht]; simp⟩⟩) (fun i i0 i1=>by unfold r11_rule.b1; simp only [i1,if_false])
     refine ⟨_,key,?_⟩
     rw [decide_eq_true (show (r.W.length:Int)≤4096 by omega)]
     cases r.W.all (fun g=>inB g p.Symbols) <;> simp [Fin.on]
def pC (p:TPds):Int :=
 if spaceOk p.Space=true then
  if (p.Rules.length:Int) > 16384 then 3
  else if (decide (p.States < 0) || (decide (p.States > 4096) || (decide (p.Symbols < 0) || decide (p.Symbols > 4096))))=true then 110
  else if p.Rules.all (ruleOk p)=true then (if p.Rules.all (fun r=>isW p.Space r.F)=true then 0 else 51) else 110
 else 50
structure TPds.Sized (p:TPds):Prop where
 parts:p.Space.Parts.length≤maxLen
 rules:p.Rules.length≤17592186044416
 words:∀ r ∈ p.Rules,r.W.length≤maxLen
 weights:∀ r ∈ p.Rules,r.F.Sized2
theorem TPds.Sized.rl {p:TPds} (h:p.Sized):p.Rules.length≤maxLen:=by have:=h.rules; unfold maxLen; omega
theorem pds_Check.ok {p:TPds} (h:p.Sized):pds_Check.f p (pC p):=by
 refine ⟨_,weight_Space.ok h.parts,?_⟩
 unfold pC
 cases hs:spaceOk p.Space with
 | false=>simp
 | true =>
  simp only [if_true]
  by_cases hr:(p.Rules.length:Int) > 16384
  ·rw [if_pos hr,if_pos hr]
  ·rw [if_neg hr,if_neg hr]
   by_cases hn:(decide (p.States < 0) || (decide (p.States > 4096) || (decide (p.Symbols < 0) || decide (p.Symbols > 4096))))=true
   ·rw [if_pos hn,if_pos hn]
   ·rw [if_neg hn,if_neg hn]
    refine ⟨p.Rules.any (fun r=>!ruleOk p r),containsFunc (q:=fun x y=>pds_Check_1.f x p y) (fun r=>!ruleOk p r) h.rl (fun r hm=>⟨_,pds_rule.ok (h.words r hm),rfl⟩) rfl,?_⟩
    rw [List.all_eq_not_any_not]
    cases p.Rules.any (fun r=>!ruleOk p r) with
    | true=>simp
    | false =>
     simp only [Bool.false_eq_true,if_false,Bool.not_false,if_true]
     have key:=eachLoop (l:=p.Rules) (b:=pds_Check.b1 p) (fun r=>isW p.Space r.F) (51:Int) (fun i i0 i1=>by
      unfold pds_Check.b1
      simp only [i1,if_true]
      have hw:=weight_Check.ok h.parts (h.weights _ (rdl_mem i0 i1))
      unfold wC at hw
      rw [if_pos hs] at hw
      exact ⟨fun ht=>⟨⟨i0,i1⟩,_,hw,by rw [ht,if_pos rfl,if_pos rfl,wrap_len h.rl i0 i1]⟩,fun ht=>⟨⟨i0,i1⟩,_,hw,by rw [ht]; simp⟩⟩) (fun i i0 i1=>by unfold pds_Check.b1; simp only [i1,if_false])
     refine ⟨_,key,?_⟩
     cases p.Rules.all (fun r=>isW p.Space r.F) <;> simp [Fin.on]
theorem r11_Check.ok {p:TPds} (h:p.Sized):r11_Check.f p (pC p):=by
 refine ⟨_,r05_Space.ok h.parts,?_⟩
 unfold pC
 cases hs:spaceOk p.Space with
 | false=>simp
 | true =>
  simp only [if_true]
  by_cases hr:(p.Rules.length:Int) > 16384
  ·rw [if_pos hr,if_pos hr]
  ·rw [if_neg hr,if_neg hr]
   by_cases hn:(decide (p.States < 0) || (decide (p.States > 4096) || (decide (p.Symbols < 0) || decide (p.Symbols > 4096))))=true
   ·rw [if_pos hn,if_pos hn]
   ·rw [if_neg hn,if_neg hn]
    have key1:=eachLoop (l:=p.Rules) (b:=r11_Check.b1 p) (ruleOk p) (110:Int) (fun i i0 i1=>by
     unfold r11_Check.b1
     simp only [i1,if_true]
     have hw:=r11_rule.ok (p:=p) (h.words _ (rdl_mem i0 i1))
     exact ⟨fun ht=>⟨⟨i0,i1⟩,_,hw,by rw [ht,if_pos rfl,wrap_len h.rl i0 i1]⟩,fun ht=>⟨⟨i0,i1⟩,_,hw,by rw [ht]; simp⟩⟩) (fun i i0 i1=>by unfold r11_Check.b1; simp only [i1,if_false])
    refine ⟨_,key1,?_⟩
    cases p.Rules.all (ruleOk p) with
    | false=>simp [Fin.on]
    | true =>
     simp only [if_true,Fin.on]
     have key:=eachLoop (l:=p.Rules) (b:=r11_Check.b2 p) (fun r=>isW p.Space r.F) (51:Int) (fun i i0 i1=>by
      unfold r11_Check.b2
      simp only [i1,if_true]
      have hw:=r05_Check.ok h.parts (h.weights _ (rdl_mem i0 i1))
      unfold wC at hw
      rw [if_pos hs] at hw
      exact ⟨fun ht=>⟨⟨i0,i1⟩,_,hw,by rw [ht,if_pos rfl,if_pos rfl,wrap_len h.rl i0 i1]⟩,fun ht=>⟨⟨i0,i1⟩,_,hw,by rw [ht]; simp⟩⟩) (fun i i0 i1=>by unfold r11_Check.b2; simp only [i1,if_false])
     refine ⟨_,key,?_⟩
     cases p.Rules.all (fun r=>isW p.Space r.F) <;> simp [Fin.on]
end Go.RM.Tryz
namespace Go.RM.Tryz
open Go.RM
set_option linter.unusedVariables false
set_option linter.unusedSimpArgs false
theorem shl_one {i:Int} (h0:0≤i) (h1:i < 64):shlI .u64 1 i=2 ^ i.toNat:=by
 have hlt:=two_pow_lt (n:=i.toNat) (by omega)
 have hpos:(0:Int) < 2 ^ i.toNat:=Int.pow_pos (by decide)
 unfold shlI
 rw [show (min i.toNat IntKind.u64.bits)=i.toNat by simp [IntKind.bits]; omega]
 rw [Int.one_mul,wrapu64 (by omega) hlt]
def noneW:TWeight:=⟨false,0,⟨0,[]⟩,[],[]⟩
def oneF (n:Int):TFacts:=⟨0,(upto n.toNat).map (fun i=>2 ^ i.toNat)⟩
def oneC (n:Int):List TCell:=(upto n.toNat).map (fun i=>⟨2 ^ i.toNat,0,0⟩)
theorem upto_mem {n:Nat} {i:Int} (h:i ∈ upto n):0≤i∧i < n:=by
 simp only [upto,List.mem_map,List.mem_range] at h
 obtain ⟨k,hk,rfl⟩:=h
 simp; exact hk
theorem facts_One.ok {n:Int} (h0:0≤n) (h1:n≤64):facts_One.f n (oneF n,0):=by
 have hf:=bits_Full.ok n
 rw [fullI h0 h1] at hf
 refine ⟨_,hf,?_⟩
 simp only [if_true]
 refine ⟨⟨h0,by unfold Fits; omega⟩,?_⟩
 have hr:((List.replicate (Int.toNat n) (0:Int)).length:Int)=n:=by simp; omega
 have key:=fillLoop (n:=n) (b:=facts_One.b1 n) (0:Int) (fun i _=>shlI .u64 1 (IntKind.u64.wrap i)) h0 (fun i l i0 i1 hl=>by
  unfold facts_One.b1
  rw [hr]
  simp only [i1,if_true]
  rw [wrapu64 i0 (by omega),wrap64 (by omega) (by omega)]
  exact ⟨i0,⟨i0,by omega⟩,rfl⟩) (fun l hl=>by
  unfold facts_One.b1
  rw [hr]
  simp)
 refine ⟨_,key,?_⟩
 show (oneF n,(0:Int))=(TFacts.mk 0 _,0)
 unfold oneF
 congr 2
 refine List.map_congr_left fun i hi=>?_
 have:=upto_mem hi
 rw [wrapu64 this.1 (by omega),shl_one this.1 (by omega)]
theorem cells_One.ok {n:Int} (h0:0≤n) (h1:n≤64):cells_One.f n (oneC n,0):=by
 refine ⟨0,by unfold cells_dims.f; rw [if_neg (by simp; omega)],?_⟩
 simp only [if_true]
 refine ⟨oneC n,⟨⟨h0,by unfold Fits; omega⟩,?_⟩,rfl⟩
 have key:=fillLoop (n:=n) (b:=cells_one.b1 n) (TCell.mk 0 0 0) (fun i c=>TCell.mk (shlI .u64 1 i) c.Kind c.K) h0 (fun i l i0 i1 hl=>by
  unfold cells_one.b1
  simp only [i1,if_true]
  rw [wrap64 (by omega) (by omega)]
  exact ⟨i0,⟨i0,by omega⟩,rfl⟩) (fun l hl=>by
  unfold cells_one.b1
  simp)
 refine ⟨_,key,?_⟩
 show oneC n=_
 unfold oneC
 refine List.map_congr_left fun i hi=>?_
 have:=upto_mem hi
 rw [shl_one this.1 (by omega)]
theorem r03_One.ok {n:Int} (h0:0≤n) (h1:n≤64):r03_One.f n (oneF n,0):=by
 refine ⟨true,by unfold r03_dim.f; simp; omega,?_⟩
 rw [if_pos rfl]
 have key:=(countLoop (n:=n) (b:=r03_One.b1 n) (fun i l=>(l,i)) id (fun i acc=>.go (acc ++ [2 ^ i.toNat])) (fun i l=>(l.length:Int)=i) (fun i l i0 i1 hi=>by
  refine ⟨?_,by simp; omega⟩
  unfold r03_One.b1
  simp only [i1,if_true]
  exact ⟨_,r01_Worth.ok i0 (by omega),by unfold Fits; omega,by rw [wrap64 (by omega) (by omega)]⟩) (fun l hl=>by unfold r03_One.b1; simp) [] h0 rfl).1
 refine ⟨_,key,?_⟩
 rw [countF_app]
 show (oneF n,(0:Int))=(TFacts.mk 0 _,0)
 simp [oneF]
def oneW1 (s:TSpace):TWeight:=if s.Tag=3 then ⟨false,0,oneF s.Dim,[],[]⟩ else if s.Tag=4 then ⟨false,0,⟨0,[]⟩,oneC s.Dim,[]⟩ else noneW
def oneW (s:TSpace):TWeight:=if s.Tag=5 then ⟨false,0,⟨0,[]⟩,[],[oneW1 (rdl s.Parts 0),oneW1 (rdl s.Parts 1)]⟩ else oneW1 s
theorem oneW_ne {s:TSpace} (h:s.Tag ≠ 5):oneW s=oneW1 s:=by unfold oneW; rw [if_neg h]
theorem weight_one.step1 {self:TSpace→TWeight→Prop} {s:TSpace} (hs:spaceOk1 s=true):weight_one.step self s (oneW1 s):=by
 unfold weight_one.step oneW1
 rcases space1_cases hs with h | h | h | h
 ·simp [h.1,noneW]
 ·simp [h.1,noneW]
 ·simp only [h.1,Int.reduceEq,if_true,if_false]
  exact ⟨_,facts_One.ok h.2.1 h.2.2,rfl⟩
 ·simp only [h.1,Int.reduceEq,if_true,if_false]
  exact ⟨_,cells_One.ok h.2.1 h.2.2,rfl⟩
theorem r05_one.step1 {self:TSpace→TWeight→Prop} {s:TSpace} (hs:spaceOk1 s=true):r05_one.step self s (oneW1 s):=by
 unfold r05_one.step oneW1
 rcases space1_cases hs with h | h | h | h
 ·simp [h.1,noneW]
 ·simp [h.1,noneW]
 ·simp only [h.1,Int.reduceEq,if_true,if_false]
  exact ⟨_,r03_One.ok h.2.1 h.2.2,rfl⟩
 ·simp only [h.1,Int.reduceEq,if_true,if_false]
  have key:=(countLoop (n:=s.Dim) (b:=r05_one.b1 s) (fun i l=>(l,i)) id (fun i acc=>.go (acc ++ [TCell.mk (2 ^ i.toNat) 0 0])) (fun i l=>(l.length:Int)=i) (fun i l i0 i1 hi=>by
   refine ⟨?_,by simp; omega⟩
   unfold r05_one.b1
   simp only [i1,if_true]
   exact ⟨_,r01_Worth.ok i0 (by omega),by unfold Fits; omega,by rw [wrap64 (by omega) (by omega)]⟩) (fun l hl=>by unfold r05_one.b1; simp) [] h.2.1 rfl).1
  refine ⟨_,key,?_⟩
  rw [countF_app]
  show TWeight.mk false 0 ⟨0,[]⟩ (oneC s.Dim) []=TWeight.mk false 0 ⟨0,[]⟩ _ []
  simp [oneC]
theorem weight_one.ok {s:TSpace} (hs:spaceOk s=true):weight_one.f s (oneW s):=by
 refine ⟨2,?_⟩
 by_cases h5:s.Tag=5
 ·obtain ⟨a,b,hp,ha,hb,_,_,hd⟩:=space_parts hs h5
  show weight_one.step (weight_one.fN 1) s _
  unfold weight_one.step oneW
  simp only [h5,Int.reduceEq,if_true,if_false,hp]
  exact ⟨⟨by decide,by simp⟩,_,weight_one.step1 ha,⟨by decide,by simp⟩,_,weight_one.step1 hb,rfl⟩
 ·rw [oneW_ne h5]; exact weight_one.step1 (by rw [← spaceOk_ne h5]; exact hs)
theorem r05_one.ok {s:TSpace} (hs:spaceOk s=true):r05_one.f s (oneW s):=by
 refine ⟨2,?_⟩
 by_cases h5:s.Tag=5
 ·obtain ⟨a,b,hp,ha,hb,_,_,hd⟩:=space_parts hs h5
  show r05_one.step (r05_one.fN 1) s _
  unfold r05_one.step oneW
  simp only [h5,Int.reduceEq,if_true,if_false,hp]
  exact ⟨⟨by decide,by simp⟩,_,r05_one.step1 ha,⟨by decide,by simp⟩,_,r05_one.step1 hb,rfl⟩
 ·rw [oneW_ne h5]; exact r05_one.step1 (by rw [← spaceOk_ne h5]; exact hs)
def oneR (s:TSpace):TWeight × Int:=if spaceOk s=true then (oneW s,0) else (noneW,50)
theorem weight_One.ok {s:TSpace} (hl:s.Parts.length≤maxLen):weight_One.f s (oneR s):=by
 refine ⟨_,weight_Space.ok hl,?_⟩
 unfold oneR
 cases h:spaceOk s with
 | false=>simp [noneW]
 | true=>simp only [if_true]; exact ⟨_,weight_one.ok h,rfl⟩
theorem r05_One.ok {s:TSpace} (hl:s.Parts.length≤maxLen):r05_One.f s (oneR s):=by
 refine ⟨_,r05_Space.ok hl,?_⟩
 unfold oneR
 cases h:spaceOk s with
 | false=>simp [noneW]
 | true=>simp only [if_true]; exact ⟨_,r05_one.ok h,rfl⟩
end Go.RM.Tryz
namespace Go.RM.Tryz
open Go.RM
set_option linter.unusedVariables false
set_option linter.unusedSimpArgs false
theorem TSpace.eta (s:TSpace):TSpace.mk s.Tag s.Dim s.Parts=s:=by cases s; rfl
theorem TWeight.eta (w:TWeight):TWeight.mk w.Zero w.Cost (TFacts.mk w.Facts.Gen w.Facts.Rows) w.Cells w.Parts=w:=by cases w; rfl
theorem slices_Clone_int.ok {l:List Int} (h:l.length≤17592186044416):slices_Clone_int.f l l:=by
 unfold slices_Clone_int.f
 by_cases h0:l.length=0
 ·rw [if_pos h0]
  have:l=[]:=List.eq_nil_of_length_eq_zero h0
  subst this
  intro z k
  cases z <;> simp [Fits]
 ·rw [if_neg h0]
  exact ⟨by unfold Fits; omega,rfl⟩
end Go.RM.Tryz
namespace Go.RM.Tryz
open Go.RM
set_option linter.unusedVariables false
set_option linter.unusedSimpArgs false
theorem pC_ok {p:TPds} (h:pC p=0):spaceOk p.Space=true∧p.Rules.length≤16384∧0≤p.States∧p.States≤4096∧0≤p.Symbols∧p.Symbols≤4096∧(∀ r ∈ p.Rules,ruleOk p r=true)∧(∀ r ∈ p.Rules,isW p.Space r.F=true):=by
 unfold pC at h
 split at h
 ·rename_i hs
  split at h
  ·simp at h
  ·split at h
   ·simp at h
   ·rename_i hl hn
    split at h
    ·rename_i ha
     split at h
     ·rename_i hw
      simp only [Bool.or_eq_true,decide_eq_true_eq,not_or] at hn
      rw [List.all_eq_true] at ha hw
      exact ⟨hs,by omega,by omega,by omega,by omega,by omega,ha,hw⟩
     ·simp at h
    ·simp at h
 ·simp at h
end Go.RM.Tryz
namespace Go.RM.Tryz
open Go.RM
set_option linter.unusedVariables false
set_option linter.unusedSimpArgs false
theorem r05_Same.step1 {self:TWeight→TWeight→Bool→Prop} {w:TWeight} (hw:w.Sized) (h:∀ p ∈ w.Parts,self p p true):r05_Same.step self w w true:=by
 obtain ⟨ha,hb,hc⟩:=hw
 have hm:∀ n:Nat,n≤17592186044416→n≤maxLen:=fun n hn=>by unfold maxLen; omega
 refine ⟨_,fun _ _=>r03_Same.ok (hm _ ha),?_⟩
 have hf:factsEq w.Facts w.Facts=true:=by simp [factsEq]
 rw [hf,if_neg (by simp)]
 have key1:=eachLoop (l:=w.Cells) (b:=r05_Same.b1 w w) (fun _=>true) false (fun i i0 i1=>by
  unfold r05_Same.b1
  simp only [i1,if_true,beq_self_eq_true,Bool.and_self]
  exact ⟨fun _=>⟨⟨i0,i1⟩,⟨i0,i1⟩,by rw [wrap_len (hm _ hb) i0 i1]⟩,fun ht=>(by cases ht)⟩) (fun i i0 i1=>by unfold r05_Same.b1; simp only [i1,if_false])
 refine ⟨_,key1,?_⟩
 rw [if_pos (by simp)]
 have key2:=eachLoop (l:=w.Parts) (b:=r05_Same.b2 self w w) (fun _=>true) false (fun i i0 i1=>by
  unfold r05_Same.b2
  simp only [i1,if_true]
  exact ⟨fun _=>⟨⟨i0,i1⟩,⟨i0,i1⟩,_,h _ (rdl_mem i0 i1),by rw [if_pos rfl,wrap_len (hm _ hc) i0 i1]⟩,fun ht=>(by cases ht)⟩) (fun i i0 i1=>by unfold r05_Same.b2; simp only [i1,if_false])
 exact ⟨_,key2,by simp [Fin.on]⟩
def Flat (w:TWeight):Prop:=w.Sized2∧∀ p ∈ w.Parts,p.Parts=[]
theorem r05_Same.refl {w:TWeight} (hw:Flat w):r05_Same.f w w true :=
 ⟨2,r05_Same.step1 (self:=r05_Same.fN 1) hw.1.1 (fun p hp=>r05_Same.step1 (self:=r05_Same.fN 0) (hw.1.2 p hp) (by rw [hw.2 p hp]; simp))⟩
theorem isW1_parts {s:TSpace} {w:TWeight} (h:isW1 s w=true):w.Parts=[]:=by
 have:w.Parts.length=0:=by
  unfold isW1 at h
  split at h
  ·unfold plainB at h; simp at h; simp [h]
  ·rw [Bool.and_eq_true] at h
   have h:=h.1
   unfold plainB at h; simp at h; simp [h]
 exact List.eq_nil_of_length_eq_zero this
theorem flat_none:Flat noneW:=⟨⟨⟨by simp [noneW],by simp [noneW],by simp [noneW]⟩,by simp [noneW]⟩,by simp [noneW]⟩
end Go.RM.Tryz
namespace Go.RM.Tryz
open Go.RM
set_option linter.unusedVariables false
set_option linter.unusedSimpArgs false
def InU (x:Int):Prop:=0≤x∧x < 18446744073709551616
def hasI (x:Int) (i:Nat):Bool:=x.toNat.testBit i
theorem hasI_high {x:Int} (hx:InU x) {i:Nat} (h:64≤i):hasI x i=false:=by
 unfold hasI
 apply Nat.testBit_lt_two_pow
 have h1:(2:Nat) ^ 64≤2 ^ i:=Nat.pow_le_pow_right (by decide) h
 have h2:(2:Nat) ^ 64=18446744073709551616:=by decide
 have:=hx.2; have:=hx.1; omega
theorem ext64 {x y:Int} (hx:InU x) (hy:InU y) (h:∀ i < 64,hasI x i=hasI y i):x=y:=by
 have:x.toNat=y.toNat:=by
  apply Nat.eq_of_testBit_eq
  intro i
  by_cases hi:i < 64
  ·exact h i hi
  ·exact (hasI_high hx (by omega)).trans (hasI_high hy (by omega)).symm
 have:=hx.1; have:=hy.1; omega
theorem ofInt_toNat {x:Int} (hx:InU x):(BitVec.ofInt 64 x).toNat=x.toNat:=by
 rw [BitVec.toNat_ofInt]
 have:=hx.1; have:=hx.2
 have:x % ((2 ^ 64:Nat):Int)=x:=by
  rw [show ((2 ^ 64:Nat):Int)=18446744073709551616 by decide]
  exact Int.emod_eq_of_lt hx.1 hx.2
 rw [this]
theorem toNat_InU (b:BitVec 64):InU (b.toNat:Int):=by
 have:=b.isLt
 have h2:(2:Nat) ^ 64=18446744073709551616:=by decide
 exact ⟨by omega,by omega⟩
theorem bitOp_or {x y:Int}:bitOp .or .u64 x y=((BitVec.ofInt 64 x ||| BitVec.ofInt 64 y).toNat:Int):=by
 show IntKind.u64.wrap ((BitVec.ofInt 64 x ||| BitVec.ofInt 64 y).toNat:Int)=_
 have:=toNat_InU (BitVec.ofInt 64 x ||| BitVec.ofInt 64 y)
 exact wrapu64 this.1 this.2
theorem bitOp_and {x y:Int}:bitOp .and .u64 x y=((BitVec.ofInt 64 x &&& BitVec.ofInt 64 y).toNat:Int):=by
 show IntKind.u64.wrap ((BitVec.ofInt 64 x &&& BitVec.ofInt 64 y).toNat:Int)=_
 have:=toNat_InU (BitVec.ofInt 64 x &&& BitVec.ofInt 64 y)
 exact wrapu64 this.1 this.2
theorem bitOp_andNot {x y:Int}:bitOp .andNot .u64 x y=((BitVec.ofInt 64 x &&& ~~~ BitVec.ofInt 64 y).toNat:Int):=by
 show IntKind.u64.wrap ((BitVec.ofInt 64 x &&& ~~~ BitVec.ofInt 64 y).toNat:Int)=_
 have:=toNat_InU (BitVec.ofInt 64 x &&& ~~~ BitVec.ofInt 64 y)
 exact wrapu64 this.1 this.2
theorem or_InU (x y:Int):InU (bitOp .or .u64 x y):=by rw [bitOp_or]; exact toNat_InU _
theorem andNot_InU (x y:Int):InU (bitOp .andNot .u64 x y):=by rw [bitOp_andNot]; exact toNat_InU _
theorem bv_has (b:BitVec 64) (i:Nat):hasI (b.toNat:Int) i=b.getLsbD i:=rfl
theorem ofInt_bit {x:Int} (hx:InU x) (i:Nat):(BitVec.ofInt 64 x).getLsbD i=hasI x i:=by
 show (BitVec.ofInt 64 x).toNat.testBit i=_
 rw [ofInt_toNat hx]; rfl
theorem has_or {x y:Int} (hx:InU x) (hy:InU y) (i:Nat):hasI (bitOp .or .u64 x y) i=(hasI x i || hasI y i):=by
 rw [bitOp_or,bv_has,BitVec.getLsbD_or,ofInt_bit hx,ofInt_bit hy]
theorem has_andNot {x y:Int} (hx:InU x) (hy:InU y) {i:Nat} (hi:i < 64):hasI (bitOp .andNot .u64 x y) i=(hasI x i && !hasI y i):=by
 rw [bitOp_andNot,bv_has,BitVec.getLsbD_and,BitVec.getLsbD_not,ofInt_bit hx,ofInt_bit hy]
 simp [hi]
theorem has_zero (i:Nat):hasI 0 i=false:=by simp [hasI]
theorem pow_toNat (n:Nat):((2:Int) ^ n).toNat=2 ^ n:=by
 have h2:((2 ^ n:Nat):Int)=(2:Int) ^ n:=by simp
 rw [← h2]; exact Int.toNat_natCast _
theorem has_pow (k i:Nat):hasI (2 ^ k) i=decide (k=i):=by
 unfold hasI
 rw [pow_toNat,Nat.testBit_two_pow]
theorem pow_InU {k:Nat} (h:k < 64):InU (2 ^ k):=⟨Int.le_of_lt (Int.pow_pos (by decide)),two_pow_lt h⟩
theorem has_full {n:Int} (h0:0≤n) (i:Nat):hasI (fullM n) i=decide ((i:Int) < n):=by
 unfold hasI fullM
 have:((2:Int) ^ n.toNat - 1).toNat=2 ^ n.toNat - 1:=by
  have:=pow_toNat n.toNat
  omega
 rw [this,Nat.testBit_two_pow_sub_one]
 rw [decide_eq_decide]
 omega
theorem full_InU {n:Int} (h0:0≤n) (h1:n≤64):InU (fullM n):=by
 unfold fullM
 have hp:(0:Int) < 2 ^ n.toNat:=Int.pow_pos (by decide)
 have h2:(2:Nat) ^ n.toNat≤2 ^ 64:=Nat.pow_le_pow_right (by decide) (by omega)
 have h3:((2 ^ n.toNat:Nat):Int)=(2:Int) ^ n.toNat:=by simp
 have h4:(2:Nat) ^ 64=18446744073709551616:=by decide
 exact ⟨by omega,by omega⟩
theorem inside_iff {x n:Int} (hx:InU x) (h0:0≤n) (h1:n≤64):bitOp .andNot .u64 x (fullM n)=0 ↔ ∀ i:Nat,hasI x i=true→(i:Int) < n:=by
 constructor
 ·intro h i hi
  have h64:i < 64:=by
   apply Nat.lt_of_not_le; intro hge; rw [hasI_high hx hge] at hi; cases hi
  have:=has_andNot hx (full_InU h0 h1) h64
  rw [h,has_zero,hi,has_full h0] at this
  simpa using this
 ·intro h
  refine ext64 (andNot_InU _ _) ⟨by decide,by decide⟩ fun i hi=>?_
  rw [has_andNot hx (full_InU h0 h1) hi,has_zero,has_full h0]
  cases hb:hasI x i with
  | false=>rfl
  | true=>simp; exact h i hb
theorem zero_InU:InU 0:=⟨by decide,by decide⟩
theorem tdivmod (s p:Nat) (hs:s < 18446744073709551616):Int.tmod (IntKind.u64.wrap (Int.tdiv (s:Int) (p:Int))) 2=((s / p % 2:Nat):Int):=by
 have hle:s / p≤s:=Nat.div_le_self _ _
 rw [Int.tdiv_eq_ediv_of_nonneg (Int.natCast_nonneg _),← Int.natCast_ediv,wrapu64 (Int.natCast_nonneg _) (by omega),Int.tmod_eq_emod_of_nonneg (Int.natCast_nonneg _)]
 rfl
theorem r01_Has.ok {s:Int} (hs:InU s) (a:Int):r01_Has.f s a (inB a 64 && hasI s a.toNat):=by
 unfold r01_Has.f inB
 by_cases h:a ≥ 0∧a < 64
 ·obtain ⟨h0,h1⟩:=h
  refine ⟨_,fun _ _=>r01_Worth.ok h0 h1,fun _ _=>Int.ne_of_gt (Int.pow_pos (by decide)),?_⟩
  rw [decide_eq_true h0,decide_eq_true h1]
  simp only [Bool.true_and]
  have hn:(s.toNat:Int)=s:=Int.toNat_of_nonneg hs.1
  have hp:((2 ^ a.toNat:Nat):Int)=(2:Int) ^ a.toNat:=by simp
  have hlt:s.toNat < 18446744073709551616:=by have:=hs.2; omega
  have hm:Int.tmod (IntKind.u64.wrap (Int.tdiv s (2 ^ a.toNat))) 2=((s.toNat / 2 ^ a.toNat % 2:Nat):Int):=by
   have:=tdivmod s.toNat (2 ^ a.toNat) hlt
   rw [hn,hp] at this
   exact this
  rw [hm]
  unfold hasI
  rw [Nat.testBit_eq_decide_div_mod_eq,Bool.eq_iff_iff]
  simp only [beq_iff_eq,decide_eq_true_eq]
  omega
 ·refine ⟨0,fun h0 h1=>(h ⟨h0,h1⟩).elim,fun h0 h1=>(h ⟨h0,h1⟩).elim,?_⟩
  by_cases h0:a ≥ 0
  ·have h1:¬ a < 64:=fun h1=>h ⟨h0,h1⟩
   simp [h1]
  ·simp [h0]
end Go.RM.Tryz
namespace Go.RM.Tryz
open Go.RM
set_option linter.unusedVariables false
set_option linter.unusedSimpArgs false
def RngF (F:TFacts):Prop:=InU F.Gen∧∀ r ∈ F.Rows,InU r
theorem TFacts.Fit.rng {F:TFacts} (h:F.Fit):RngF F:=⟨wfu64 h.1,fun r hr=>wfu64 (h.2.2.2 r hr)⟩
def madeM (F:TFacts) (x:Int):Int:=foldG (fun i row acc=>if hasI x i.toNat=true then bitOp .or .u64 acc row else acc) F.Rows 0 F.Gen
def anyB (x:Int) (k:Nat):List Int→Nat→Bool
 | [],_=>false
 | r :: l,i=>(hasI x i && hasI r k) || anyB x k l (i + 1)
theorem madeM_fold {x:Int} {k:Nat}:∀ (l:List Int) (i:Nat) (acc:Int),InU acc→(∀ r ∈ l,InU r) →
  InU (foldG (fun i row acc=>if hasI x i.toNat=true then bitOp .or .u64 acc row else acc) l (i:Int) acc) ∧
  hasI (foldG (fun i row acc=>if hasI x i.toNat=true then bitOp .or .u64 acc row else acc) l (i:Int) acc) k=(hasI acc k || anyB x k l i)
 | [],i,acc,ha,hr=>⟨ha,by simp [foldG,anyB]⟩
 | r :: l,i,acc,ha,hr=>by
  have h1:InU (if hasI x i=true then bitOp .or .u64 acc r else acc):=by split; exact or_InU _ _; exact ha
  have ih:=madeM_fold (x:=x) (k:=k) l (i + 1) _ h1 (fun y hy=>hr y (.tail _ hy))
  unfold foldG anyB
  rw [show ((i:Int) + 1)=((i + 1:Nat):Int) by simp,show ((i:Nat):Int).toNat=i by simp]
  refine ⟨ih.1,?_⟩
  rw [ih.2]
  cases hx:hasI x i with
  | true=>simp [has_or ha (hr r (.head _)),Bool.or_assoc]
  | false=>simp
theorem madeM_InU {F:TFacts} (h:RngF F) (x:Int):InU (madeM F x):=(madeM_fold (x:=x) (k:=0) F.Rows 0 F.Gen h.1 h.2).1
theorem madeM_has {F:TFacts} (h:RngF F) (x:Int) (k:Nat):hasI (madeM F x) k=(hasI F.Gen k || anyB x k F.Rows 0):=(madeM_fold (x:=x) (k:=k) F.Rows 0 F.Gen h.1 h.2).2
theorem anyB_iff {x:Int} {k:Nat}:∀ (l:List Int) (i:Nat),anyB x k l i=true ↔ ∃ j:Nat,∃ r,l[j]?=some r∧hasI x (i + j)=true∧hasI r k=true
 | [],i=>by simp [anyB]
 | r :: l,i=>by
  unfold anyB
  rw [Bool.or_eq_true,anyB_iff l (i + 1),Bool.and_eq_true]
  constructor
  ·rintro (⟨h1,h2⟩ | ⟨j,r',h1,h2,h3⟩)
   ·exact ⟨0,r,rfl,by simpa using h1,h2⟩
   ·exact ⟨j + 1,r',by simpa using h1,by rw [show i + (j + 1)=i + 1 + j by omega]; exact h2,h3⟩
  ·rintro ⟨j,r',h1,h2,h3⟩
   cases j with
   | zero =>
    simp at h1; subst h1
    exact .inl ⟨by simpa using h2,h3⟩
   | succ j =>
    exact .inr ⟨j,r',by simpa using h1,by rw [show i + 1 + j=i + (j + 1) by omega]; exact h2,h3⟩
theorem r03_or.ok (a b:Int):r03_or.f a b (bitOp .or .u64 a b):=rfl
theorem r03_made.ok {F:TFacts} (h:RngF F) (hl:F.Rows.length≤maxLen) {x:Int} (hx:InU x):r03_made.f F x (madeM F x):=by
 have key:=foldGLoop (l:=F.Rows) (b:=r03_made.b1 F x) (fun i s=>(s,i)) id (fun i row acc=>if hasI x i.toNat=true then bitOp .or .u64 acc row else acc) (fun i s=>True) (fun i s h0 h1 _=>by
  refine ⟨?_,trivial⟩
  unfold r03_made.b1 r03_made.j1
  simp only [h1,if_true]
  refine ⟨_,r01_Has.ok hx i,?_⟩
  have hb:(inB i 64 && hasI x i.toNat)=hasI x i.toNat:=by
   cases hh:hasI x i.toNat with
   | false=>simp
   | true =>
    have:i < 64:=by
     apply Int.lt_of_not_ge; intro hge
     rw [hasI_high hx (by omega)] at hh; cases hh
    simp [inB,h0,this]
  rw [hb,wrap_len hl h0 h1]
  cases hasI x i.toNat with
  | true=>exact ⟨⟨h0,h1⟩,_,r03_or.ok _ _,rfl⟩
  | false=>rfl) (fun s _=>by unfold r03_made.b1; simp) F.Gen trivial
 exact ⟨_,key.1,rfl⟩
def thenF (a b:TFacts):TFacts:=canonM ⟨madeM b a.Gen,a.Rows.map (madeM b)⟩
theorem factsOk_iff {n:Int} {F:TFacts} (hr:RngF F) (h0:0≤n) (h1:n≤64):factsOk n F=true ↔ (F.Rows.length:Int)=n∧(∀ i:Nat,hasI F.Gen i=true→(i:Int) < n)∧(∀ r ∈ F.Rows,∀ i:Nat,hasI r i=true→(i:Int) < n)∧∀ r ∈ F.Rows,∀ i:Nat,hasI r i=true→hasI F.Gen i=false:=by
 have e0:factsOk n F=true ↔ (F.Rows.length:Int)=n∧bitOp .andNot .u64 F.Gen (fullM n)=0∧(∀ r ∈ F.Rows,bitOp .andNot .u64 r (fullM n)=0)∧(F.Rows.map (fun r=>bitOp .andNot .u64 r F.Gen)=F.Rows):=by
  unfold factsOk factsEq
  rw [Bool.and_eq_true,Bool.and_eq_true,Bool.and_eq_true,Bool.and_eq_true,List.all_eq_true,beq_iff_eq,beq_iff_eq,beq_iff_eq,decide_eq_true_eq]
  simp only [beq_iff_eq]
  exact ⟨fun h=>⟨h.1,h.2.1,h.2.2.1,h.2.2.2.2⟩,fun h=>⟨h.1,h.2.1,h.2.2.1,rfl,h.2.2.2⟩⟩
 rw [e0,inside_iff hr.1 h0 h1]
 have e1:(∀ r ∈ F.Rows,bitOp .andNot .u64 r (fullM n)=0) ↔ (∀ r ∈ F.Rows,∀ i:Nat,hasI r i=true→(i:Int) < n):=by
  constructor
  ·intro h r hm; exact (inside_iff (hr.2 r hm) h0 h1).1 (h r hm)
  ·intro h r hm; exact (inside_iff (hr.2 r hm) h0 h1).2 (h r hm)
 have e2:(F.Rows.map (fun r=>bitOp .andNot .u64 r F.Gen)=F.Rows) ↔ ∀ r ∈ F.Rows,∀ i:Nat,hasI r i=true→hasI F.Gen i=false:=by
  rw [show (F.Rows.map (fun r=>bitOp .andNot .u64 r F.Gen)=F.Rows) ↔ (F.Rows.map (fun r=>bitOp .andNot .u64 r F.Gen)=F.Rows.map id) by simp,List.map_inj_left]
  constructor
  ·intro h r hm i hi
   have h64:i < 64:=by apply Nat.lt_of_not_le; intro hge; rw [hasI_high (hr.2 r hm) hge] at hi; cases hi
   have:=has_andNot (hr.2 r hm) hr.1 h64
   rw [h r hm,id,hi] at this
   simpa using this
  ·intro h r hm
   refine ext64 (andNot_InU _ _) (hr.2 r hm) fun i hi=>?_
   rw [has_andNot (hr.2 r hm) hr.1 hi]
   cases hb:hasI r i with
   | false=>simp [id,hb]
   | true=>simp [id,hb,h r hm i hb]
 rw [e1,e2]
theorem rng_canon {F:TFacts} (h:InU F.Gen):RngF (canonM F):=⟨h,fun r hr=>by simp [canonM] at hr; obtain ⟨_,_,rfl⟩:=hr; exact andNot_InU _ _⟩
theorem madeM_inside {n:Int} {F:TFacts} (hr:RngF F) (h0:0≤n) (h1:n≤64) (hF:factsOk n F=true) (x:Int) {i:Nat} (h:hasI (madeM F x) i=true):(i:Int) < n:=by
 obtain ⟨_,hg,hrow,_⟩:=(factsOk_iff hr h0 h1).1 hF
 rw [madeM_has hr,Bool.or_eq_true,anyB_iff] at h
 rcases h with h | ⟨j,r,hj,_,hk⟩
 ·exact hg i h
 ·exact hrow r (List.mem_of_getElem? hj) i hk
theorem thenF_rng {a b:TFacts} (hb:RngF b):RngF (thenF a b):=rng_canon (madeM_InU hb _)
theorem thenF_ok {n:Int} (h0:0≤n) (h1:n≤64) {a b:TFacts} (hb:RngF b) (ha2:factsOk n a=true) (hb2:factsOk n b=true) (hra:RngF a):factsOk n (thenF a b)=true:=by
 rw [factsOk_iff (thenF_rng hb) h0 h1]
 obtain ⟨hl,_⟩:=(factsOk_iff hra h0 h1).1 ha2
 refine ⟨by simp [thenF,canonM,hl],fun i hi=>madeM_inside hb h0 h1 hb2 a.Gen hi,?_,?_⟩
 ·intro r hm i hi
  simp only [thenF,canonM,List.map_map,List.mem_map,Function.comp] at hm
  obtain ⟨x,hx,rfl⟩:=hm
  have h64:i < 64:=by apply Nat.lt_of_not_le; intro hge; rw [hasI_high (andNot_InU _ _) hge] at hi; cases hi
  rw [has_andNot (madeM_InU hb _) (madeM_InU hb _) h64,Bool.and_eq_true] at hi
  exact madeM_inside hb h0 h1 hb2 x hi.1
 ·intro r hm i hi
  simp only [thenF,canonM,List.map_map,List.mem_map,Function.comp] at hm
  obtain ⟨x,hx,rfl⟩:=hm
  have h64:i < 64:=by apply Nat.lt_of_not_le; intro hge; rw [hasI_high (andNot_InU _ _) hge] at hi; cases hi
  rw [has_andNot (madeM_InU hb _) (madeM_InU hb _) h64,Bool.and_eq_true] at hi
  simpa [thenF,canonM] using hi.2
theorem r03_two.ok {n:Int} (h0:0≤n) (h1:n≤64) {a b:TFacts} (ha:a.Rows.length≤17592186044416) (hb:b.Rows.length≤17592186044416) (ha2:factsOk n a=true) (hb2:factsOk n b=true):r03_two.f n a b 0:=by
 have x:=r03_Check.ok h0 h1 ha
 have y:=r03_Check.ok h0 h1 hb
 rw [ha2,if_pos rfl] at x
 rw [hb2,if_pos rfl] at y
 exact ⟨_,x,by rw [if_pos rfl]; exact ⟨_,y,rfl⟩⟩
theorem map_upto {α β:Type} [Inhabited α] (l:List α) (f:α→β):(upto l.length).map (fun i=>f (rdl l i))=l.map f:=by
 have:=congrArg (List.map f) (upto_rdl l)
 rw [List.map_map] at this
 exact this
theorem r03_Extend.ok {n:Int} (h0:0≤n) (h1:n≤64) {a b:TFacts} (hra:RngF a) (hrb:RngF b) (ha2:factsOk n a=true) (hb2:factsOk n b=true):r03_Extend.f n a b (thenF a b,0):=by
 obtain ⟨la,_⟩:=(factsOk_iff hra h0 h1).1 ha2
 obtain ⟨lb,_⟩:=(factsOk_iff hrb h0 h1).1 hb2
 refine ⟨_,r03_two.ok h0 h1 (by omega) (by omega) ha2 hb2,?_⟩
 rw [if_pos rfl]
 have hm:b.Rows.length≤maxLen:=by unfold maxLen; omega
 refine ⟨_,r03_made.ok hrb hm hra.1,?_⟩
 have key:=(countLoop (n:=n) (b:=r03_Extend.b1 n a b) (fun i l=>(l,i)) id (fun i acc=>.go (acc ++ [madeM b (rdl a.Rows i)])) (fun i l=>(l.length:Int)=i) (fun i l i0 i1 hi=>by
  refine ⟨?_,by simp; omega⟩
  unfold r03_Extend.b1
  simp only [i1,if_true]
  exact ⟨⟨i0,by omega⟩,_,r03_made.ok hrb hm (hra.2 _ (rdl_mem i0 (by omega))),by unfold Fits; omega,by rw [wrap64 (by omega) (by omega)]⟩) (fun l hl=>by unfold r03_Extend.b1; simp) [] h0 rfl).1
 rw [countF_app] at key
 refine ⟨_,key,?_⟩
 have e:[] ++ (upto n.toNat).map (fun j=>madeM b (rdl a.Rows (0 + j)))=a.Rows.map (madeM b):=by
  have:=map_upto a.Rows (madeM b)
  rw [show a.Rows.length=n.toNat by omega] at this
  simpa using this
 show ∃ t,r03_canon.f (TFacts.mk (madeM b a.Gen) (id ([] ++ _))) t∧_
 rw [id,e]
 exact ⟨_,r03_canon.ok (by simp; omega),rfl⟩
theorem oneF_rng {n:Int} (h1:n≤64):RngF (oneF n):=⟨zero_InU,fun r hr=>by
 simp only [oneF,List.mem_map] at hr
 obtain ⟨i,hi,rfl⟩:=hr
 have:=upto_mem hi
 exact pow_InU (by omega)⟩
theorem upto_get {n j:Nat}:(upto n)[j]?=if j < n then some (j:Int) else none:=by
 simp only [upto,List.getElem?_map]
 by_cases h:j < n
 ·rw [List.getElem?_range h,if_pos h]; rfl
 ·rw [List.getElem?_eq_none (by simp; omega),if_neg h]; rfl
theorem oneF_get {n:Int} {j:Nat}:(oneF n).Rows[j]?=if j < n.toNat then some (2 ^ j) else none:=by
 simp only [oneF,List.getElem?_map,upto_get]
 split <;> simp
theorem oneF_ok {n:Int} (h0:0≤n) (h1:n≤64):factsOk n (oneF n)=true:=by
 rw [factsOk_iff (oneF_rng h1) h0 h1]
 refine ⟨by simp [oneF,upto]; omega,fun i hi=>(by rw [show (oneF n).Gen=0 from rfl,has_zero] at hi; cases hi),fun r hr i hi=>?_,fun r hr i hi=>has_zero i⟩
 simp only [oneF,List.mem_map] at hr
 obtain ⟨j,hj,rfl⟩:=hr
 have:=upto_mem hj
 rw [has_pow] at hi
 simp at hi
 omega
theorem made_one {n:Int} (h0:0≤n) (h1:n≤64) {x:Int} (hx:InU x) (hn:∀ i:Nat,hasI x i=true→(i:Int) < n):madeM (oneF n) x=x:=by
 refine ext64 (madeM_InU (oneF_rng h1) x) hx fun i hi=>?_
 rw [madeM_has (oneF_rng h1),Bool.eq_iff_iff,Bool.or_eq_true,anyB_iff]
 constructor
 ·rintro (h | ⟨j,r,hj,hk,hr⟩)
  ·rw [show (oneF n).Gen=0 from rfl,has_zero] at h; cases h
  ·rw [oneF_get] at hj
   split at hj
   ·injection hj with hj
    subst hj
    rw [has_pow] at hr
    simp at hr
    subst hr
    simpa using hk
   ·cases hj
 ·intro h
  have:=hn i h
  exact .inr ⟨i,2 ^ i,by rw [oneF_get,if_pos (by omega)],by simpa using h,by rw [has_pow]; simp⟩
theorem then_oneF {n:Int} (h0:0≤n) (h1:n≤64) {a:TFacts} (hra:RngF a) (ha:factsOk n a=true):thenF a (oneF n)=a:=by
 obtain ⟨_,hg,hrow,hc⟩:=(factsOk_iff hra h0 h1).1 ha
 have e:a.Rows.map (madeM (oneF n))=a.Rows:=by
  rw [show (a.Rows.map (madeM (oneF n))=a.Rows) ↔ (a.Rows.map (madeM (oneF n))=a.Rows.map id) by simp,List.map_inj_left]
  exact fun r hr=>made_one h0 h1 (hra.2 r hr) (hrow r hr)
 unfold thenF
 rw [made_one h0 h1 hra.1 hg,e]
 have h9:=ha
 unfold factsOk factsEq at h9
 simp only [Bool.and_eq_true,beq_iff_eq,decide_eq_true_eq] at h9
 have h10:=h9.2.2.2.2
 show TFacts.mk a.Gen (canonM a).Rows=a
 rw [h10]
theorem one_thenF {n:Int} (h0:0≤n) (h1:n≤64) {b:TFacts} (hrb:RngF b) (hb:factsOk n b=true):thenF (oneF n) b=b:=by
 obtain ⟨hl,hg,hrow,hc⟩:=(factsOk_iff hrb h0 h1).1 hb
 have e0:madeM b 0=b.Gen:=by
  refine ext64 (madeM_InU hrb 0) hrb.1 fun i hi=>?_
  rw [madeM_has hrb]
  have:anyB 0 i b.Rows 0=false:=by
   rw [Bool.eq_false_iff]; intro h; rw [anyB_iff] at h
   obtain ⟨j,r,_,h2,_⟩:=h
   rw [has_zero] at h2; cases h2
  rw [this,Bool.or_false]
 have e1:∀ j:Nat,∀ r,b.Rows[j]?=some r→bitOp .andNot .u64 (madeM b (2 ^ j)) b.Gen=r:=by
  intro j r hj
  have hm:=List.mem_of_getElem? hj
  refine ext64 (andNot_InU _ _) (hrb.2 r hm) fun i hi=>?_
  rw [has_andNot (madeM_InU hrb _) hrb.1 hi,madeM_has hrb]
  have:anyB (2 ^ j) i b.Rows 0=hasI r i:=by
   rw [Bool.eq_iff_iff,anyB_iff]
   constructor
   ·rintro ⟨j',r',h1,h2,h3⟩
    rw [has_pow] at h2
    simp at h2
    subst h2
    rw [h1] at hj
    injection hj with hj
    rw [← hj]; exact h3
   ·intro h
    exact ⟨j,r,hj,by rw [has_pow]; simp,h⟩
  rw [this]
  cases hgi:hasI b.Gen i with
  | true =>
   cases hri:hasI r i with
   | false=>rfl
   | true=>rw [hc r hm i hri] at hgi; cases hgi
  | false=>simp
 unfold thenF
 rw [show (oneF n).Gen=0 from rfl,e0]
 show TFacts.mk b.Gen _=b
 have e2:((TFacts.mk b.Gen ((oneF n).Rows.map (madeM b))).Rows.map (fun r=>bitOp .andNot .u64 r b.Gen))=b.Rows:=by
  apply List.ext_getElem?
  intro j
  simp only [List.map_map,List.getElem?_map,oneF_get]
  by_cases hj:j < n.toNat
  ·rw [if_pos hj]
   have hlt:j < b.Rows.length:=by omega
   have hg2:=List.getElem?_eq_getElem hlt
   rw [hg2]
   simp only [Option.map_some,Function.comp]
   rw [e1 j _ hg2]
  ·rw [if_neg hj,List.getElem?_eq_none (by omega)]; rfl
 rw [e2]
end Go.RM.Tryz
namespace Go.RM.Tryz
open Go.RM
set_option linter.unusedVariables false
set_option linter.unusedSimpArgs false
def manyC:TCell:=⟨0,2,0⟩
def joinC (a b:TCell):TCell :=
 if a.Kind=2∨b.Kind=2 then manyC
 else if a.Kind=0 then ⟨bitOp .or .u64 a.From b.From,b.Kind,b.K⟩
 else if b.Kind=1∧a.K ≠ b.K then manyC
 else ⟨bitOp .or .u64 a.From b.From,a.Kind,a.K⟩
theorem r05_Joined.ok (a b:TCell):r05_Joined.f a b (joinC a b):=by
 unfold r05_Joined.f joinC manyC
 by_cases h1:a.Kind=2∨b.Kind=2
 ·rw [if_pos (by simpa using h1),if_pos h1]
 ·rw [if_neg (by simpa using h1),if_neg h1]
  by_cases h2:a.Kind=0
  ·rw [if_pos h2,if_pos h2]
  ·rw [if_neg h2,if_neg h2]
   by_cases h3:b.Kind=1∧a.K ≠ b.K
   ·rw [if_pos (by simpa using h3),if_pos h3]
   ·rw [if_neg (by simpa using h3),if_neg h3]
def behG (c:TCell) (i:Int) (x out:TCell):TCell:=if hasI c.From i.toNat=true then joinC out x else out
def behindM (a:List TCell) (c:TCell):TCell:=foldG (behG c) a 0 ⟨0,c.Kind,c.K⟩
theorem r05_behind.ok {a:List TCell} (hl:a.length≤maxLen) {c:TCell} (hc:InU c.From):r05_behind.f a c (behindM a c):=by
 have key:=foldGLoop (l:=a) (b:=r05_behind.b1 a c) (fun i (s:TCell)=>(s.From,s.Kind,s.K,i)) (fun s=>(s.From,s.Kind,s.K)) (behG c) (fun i s=>True) (fun i s h0 h1 _=>by
  refine ⟨?_,trivial⟩
  unfold r05_behind.b1 r05_behind.j1
  simp only [h1,if_true]
  refine ⟨_,r01_Has.ok hc i,?_⟩
  have hb:(inB i 64 && hasI c.From i.toNat)=hasI c.From i.toNat:=by
   cases hh:hasI c.From i.toNat with
   | false=>simp
   | true =>
    have:i < 64:=by
     apply Int.lt_of_not_ge; intro hge
     rw [hasI_high hc (by omega)] at hh; cases hh
    simp [inB,h0,this]
  rw [hb,wrap_len hl h0 h1]
  unfold behG
  cases hasI c.From i.toNat with
  | true=>exact ⟨⟨h0,h1⟩,_,r05_Joined.ok _ _,rfl⟩
  | false=>rfl) (fun s _=>by unfold r05_behind.b1; simp) ⟨0,c.Kind,c.K⟩ trivial
 exact ⟨_,key.1,rfl⟩
def RngC (c:TCell):Prop:=InU c.From∧(Lit.int .i64 c.K).wf=true
def CellP (n:Int) (c:TCell):Prop:=(∀ i:Nat,hasI c.From i=true→(i:Int) < n)∧((c.Kind=0∧c.K=0)∨c.Kind=1∨(c.Kind=2∧c.K=0∧c.From=0))
theorem cellOk_iff {n:Int} (h0:0≤n) (h1:n≤64) {c:TCell} (hc:InU c.From):cellOk n c=true ↔ CellP n c:=by
 unfold cellOk CellP
 rw [Bool.and_eq_true,beq_iff_eq,inside_iff hc h0 h1]
 refine and_congr_right fun _=>?_
 by_cases k0:c.Kind=0
 ·simp [k0]
 ·by_cases k1:c.Kind=1
  ·simp [k1]
  ·by_cases k2:c.Kind=2
   ·simp [k2]
   ·simp [k0,k1,k2]
theorem many_ok (n:Int):CellP n manyC:=⟨fun i hi=>(by rw [show manyC.From=0 from rfl,has_zero] at hi; cases hi),.inr (.inr ⟨rfl,rfl,rfl⟩)⟩
theorem joinC_InU (a b:TCell):InU (joinC a b).From:=by
 unfold joinC
 split
 ·exact zero_InU
 ·split
  ·exact or_InU _ _
  ·split
   ·exact zero_InU
   ·exact or_InU _ _
theorem joinC_ok {n:Int} {a b:TCell} (ua:InU a.From) (ub:InU b.From) (ha:CellP n a) (hb:CellP n b):CellP n (joinC a b):=by
 have hor:∀ i:Nat,hasI (bitOp .or .u64 a.From b.From) i=true→(i:Int) < n:=fun i hi=>by
  rw [has_or ua ub,Bool.or_eq_true] at hi
  rcases hi with hi | hi
  ·exact ha.1 i hi
  ·exact hb.1 i hi
 unfold joinC
 split
 ·exact many_ok n
 ·rename_i h2
  split
  ·refine ⟨hor,?_⟩
   rcases hb.2 with h | h | h
   ·exact .inl h
   ·exact .inr (.inl h)
   ·exact (h2 (.inr h.1)).elim
  ·split
   ·exact many_ok n
   ·refine ⟨hor,?_⟩
    rcases ha.2 with h | h | h
    ·exact .inl h
    ·exact .inr (.inl h)
    ·exact (h2 (.inl h.1)).elim
theorem joinC_K {a b:TCell} (ha:(Lit.int .i64 a.K).wf=true) (hb:(Lit.int .i64 b.K).wf=true):(Lit.int .i64 (joinC a b).K).wf=true:=by
 unfold joinC
 split
 ·decide
 ·split
  ·exact hb
  ·split
   ·decide
   ·exact ha
theorem start_ok {n:Int} {c:TCell} (hc:CellP n c):CellP n ⟨0,c.Kind,c.K⟩:=by
 refine ⟨fun i hi=>(by rw [show (TCell.mk 0 c.Kind c.K).From=0 from rfl,has_zero] at hi; cases hi),?_⟩
 rcases hc.2 with h | h | h
 ·exact .inl h
 ·exact .inr (.inl h)
 ·exact .inr (.inr ⟨h.1,h.2.1,rfl⟩)
theorem behindM_ok {n:Int} {a:List TCell} {c:TCell} (ua:∀ x ∈ a,RngC x) (ha:∀ x ∈ a,CellP n x) (uc:RngC c) (hc:CellP n c):CellP n (behindM a c)∧RngC (behindM a c):=by
 have:=foldG_inv (g:=behG c) (fun _ s=>CellP n s∧RngC s) a 0 ⟨0,c.Kind,c.K⟩ (fun i s x hx h=>by
  unfold behG
  split
  ·exact ⟨joinC_ok h.2.1 (ua x hx).1 h.1 (ha x hx),joinC_InU _ _,joinC_K h.2.2 (ua x hx).2⟩
  ·exact h) ⟨start_ok hc,zero_InU,uc.2⟩
 exact this
def thenC (a b:List TCell):List TCell:=b.map (behindM a)
structure Rng1 (w:TWeight):Prop where
 facts:RngF w.Facts
 cells:∀ c ∈ w.Cells,RngC c
 cost:(Lit.int .i64 w.Cost).wf=true
def Rng (w:TWeight):Prop:=Rng1 w∧∀ p ∈ w.Parts,Rng1 p
theorem TWeight.Fit.rng1 {w:TWeight} (h:w.Fit):Rng1 w:=by
 cases h with
 | mk _ h0 h1 h2 h3 h4 h5 h6 h7 h8=>exact ⟨h2.rng,fun c hc=>⟨wfu64 (h5 c hc).1,(h5 c hc).2.2⟩,h1⟩
theorem TWeight.Fit.rng {w:TWeight} (h:w.Fit):Rng w:=⟨h.rng1,by
 cases h with
 | mk _ h0 h1 h2 h3 h4 h5 h6 h7 h8=>exact fun p hp=>(h8 p hp).rng1⟩
def zeroW:TWeight:=⟨true,0,⟨0,[]⟩,[],[]⟩
def thenW1 (s:TSpace) (a b:TWeight):TWeight :=
 if (a.Zero || b.Zero)=true then zeroW
 else if s.Tag=2 then ⟨false,if s.Dim < a.Cost + b.Cost then s.Dim else a.Cost + b.Cost,⟨0,[]⟩,[],[]⟩
 else if s.Tag=3 then ⟨false,0,thenF a.Facts b.Facts,[],[]⟩
 else if s.Tag=4 then ⟨false,0,⟨0,[]⟩,thenC a.Cells b.Cells,[]⟩
 else noneW
theorem isW1_cases {s:TSpace} {w:TWeight} (hs:spaceOk1 s=true) (h:isW1 s w=true) :
  w=zeroW∨(s.Tag=1∧w=noneW)∨(s.Tag=2∧w=⟨false,w.Cost,⟨0,[]⟩,[],[]⟩∧0≤w.Cost∧w.Cost≤s.Dim)∨(s.Tag=3∧w=⟨false,0,w.Facts,[],[]⟩∧factsOk s.Dim w.Facts=true)∨(s.Tag=4∧w=⟨false,0,⟨0,[]⟩,w.Cells,[]⟩∧cellsOk s.Dim w.Cells=true):=by
 obtain ⟨Z,C,⟨G,R⟩,L,P⟩:=w
 unfold isW1 plainB at h
 cases Z with
 | true=>simp at h; left; simp [zeroW,h]
 | false =>
  rcases space1_cases hs with k | k | k | k
  ·simp [k.1] at h
   right; left; exact ⟨k.1,by simp [noneW,h]⟩
  ·simp [k.1] at h
   right; right; left; refine ⟨k.1,by simp [h],h.2⟩
  ·simp [k.1] at h
   right; right; right; left; exact ⟨k.1,by simp [h],h.2⟩
  ·simp [k.1] at h
   right; right; right; right; exact ⟨k.1,by simp [h],h.2⟩
theorem isW1_zero {s:TSpace} (hs:spaceOk1 s=true):isW1 s zeroW=true:=by simp [isW1,zeroW,plainB]
theorem isW1_none {s:TSpace} (h:s.Tag=1):isW1 s noneW=true:=by simp [isW1,noneW,plainB,h]
theorem isW1_cost {s:TSpace} (h:s.Tag=2) {c:Int} (h0:0≤c) (h1:c≤s.Dim):isW1 s ⟨false,c,⟨0,[]⟩,[],[]⟩=true:=by simp [isW1,plainB,h,h0,h1]
theorem isW1_facts {s:TSpace} (h:s.Tag=3) {F:TFacts} (hF:factsOk s.Dim F=true):isW1 s ⟨false,0,F,[],[]⟩=true:=by simp [isW1,plainB,h,hF]
theorem isW1_cells {s:TSpace} (h:s.Tag=4) {l:List TCell} (hl:cellsOk s.Dim l=true):isW1 s ⟨false,0,⟨0,[]⟩,l,[]⟩=true:=by simp [isW1,plainB,h,hl]
theorem zero_rng:Rng1 zeroW:=⟨⟨zero_InU,by simp [zeroW]⟩,by simp [zeroW],by decide⟩
theorem none_rng:Rng1 noneW:=⟨⟨zero_InU,by simp [noneW]⟩,by simp [noneW],by decide⟩
theorem cellsOk_iff {n:Int} {l:List TCell} (h0:0≤n) (h1:n≤64) (hr:∀ c ∈ l,RngC c):cellsOk n l=true ↔ (l.length:Int)=n∧∀ c ∈ l,CellP n c:=by
 unfold cellsOk
 rw [Bool.and_eq_true,List.all_eq_true,beq_iff_eq]
 refine and_congr_right fun _=>⟨fun h c hc=>(cellOk_iff h0 h1 (hr c hc).1).1 (h c hc),fun h c hc=>(cellOk_iff h0 h1 (hr c hc).1).2 (h c hc)⟩
theorem wf_small {x:Int} (h0:0≤x) (h1:x≤1048576):(Lit.int .i64 x).wf=true:=by
 simp [Lit.wf,IntKind.min,IntKind.max,IntKind.bits,IntKind.signed]; omega
theorem thenW1_ok {s:TSpace} {a b:TWeight} (hs:spaceOk1 s=true) (ha:isW1 s a=true) (hb:isW1 s b=true) (ra:Rng1 a) (rb:Rng1 b):isW1 s (thenW1 s a b)=true∧Rng1 (thenW1 s a b):=by
 unfold thenW1
 rcases isW1_cases hs ha with h | h | h | h | h
 ·subst h; simp only [zeroW,Bool.true_or,if_true]; exact ⟨isW1_zero hs,zero_rng⟩
 all_goals
  rcases isW1_cases hs hb with k | k | k | k | k
  ·subst k; simp only [zeroW,Bool.or_true,if_true]; exact ⟨isW1_zero hs,zero_rng⟩
  all_goals first | (exfalso; omega) | skip
 ·rw [h.2,k.2]
  simp only [noneW,Bool.or_self,Bool.false_eq_true,if_false,h.1,Int.reduceEq]
  exact ⟨isW1_none h.1,none_rng⟩
 ·rw [h.2.1,k.2.1]
  simp only [Bool.or_self,Bool.false_eq_true,if_false,h.1,Int.reduceEq,if_true]
  rcases space1_cases hs with q | q | q | q
  ·omega
  ·have:0≤(if s.Dim < a.Cost + b.Cost then s.Dim else a.Cost + b.Cost)∧(if s.Dim < a.Cost + b.Cost then s.Dim else a.Cost + b.Cost)≤s.Dim:=by split <;> omega
   exact ⟨isW1_cost h.1 this.1 this.2,⟨zero_InU,by simp⟩,by simp,wf_small this.1 (Int.le_trans this.2 (by omega))⟩
  ·omega
  ·omega
 ·rw [h.2.1,k.2.1]
  simp only [Bool.or_self,Bool.false_eq_true,if_false,h.1,Int.reduceEq,if_true]
  rcases space1_cases hs with q | q | q | q
  ·omega
  ·omega
  ·exact ⟨isW1_facts h.1 (thenF_ok q.2.1 q.2.2 rb.facts h.2.2 k.2.2 ra.facts),thenF_rng rb.facts,by simp,wf_small (x:=0) (Int.le_refl 0) (by decide)⟩
  ·omega
 ·rw [h.2.1,k.2.1]
  simp only [Bool.or_self,Bool.false_eq_true,if_false,h.1,Int.reduceEq,if_true]
  rcases space1_cases hs with q | q | q | q
  ·omega
  ·omega
  ·omega
  ·have ca:=(cellsOk_iff q.2.1 q.2.2 ra.cells).1 h.2.2
   have cb:=(cellsOk_iff q.2.1 q.2.2 rb.cells).1 k.2.2
   have hall:∀ c ∈ thenC a.Cells b.Cells,CellP s.Dim c∧RngC c:=by
    intro c hc
    simp only [thenC,List.mem_map] at hc
    obtain ⟨x,hx,rfl⟩:=hc
    exact behindM_ok ra.cells ca.2 (rb.cells x hx) (cb.2 x hx)
   exact ⟨isW1_cells h.1 ((cellsOk_iff q.2.1 q.2.2 (fun c hc=>(hall c hc).2)).2 ⟨by simp [thenC,cb.1],fun c hc=>(hall c hc).1⟩),⟨zero_InU,by simp⟩,fun c hc=>(hall c hc).2,wf_small (x:=0) (Int.le_refl 0) (by decide)⟩
end Go.RM.Tryz
namespace Go.RM.Tryz
open Go.RM
set_option linter.unusedVariables false
set_option linter.unusedSimpArgs false
theorem r05_Then.step1 {self:TSpace→TWeight→TWeight→TWeight→Prop} {s:TSpace} {a b:TWeight} (hs:spaceOk1 s=true) (ha:isW1 s a=true) (hb:isW1 s b=true) (ra:Rng1 a) (rb:Rng1 b):r05_Then.step self s a b (thenW1 s a b):=by
 unfold r05_Then.step thenW1
 by_cases hz:(a.Zero || b.Zero)=true
 ·rw [if_pos hz,if_pos hz]; rfl
 ·rw [if_neg hz,if_neg hz]
  rcases space1_cases hs with q | q | q | q
  ·simp only [q.1,Int.reduceEq,if_false]; rfl
  ·simp only [q.1,Int.reduceEq,if_true,if_false]
   rcases isW1_cases hs ha with h | h | h | h | h
   ·subst h; simp [zeroW] at hz
   ·omega
   ·rcases isW1_cases hs hb with k | k | k | k | k
    ·subst k; simp [zeroW] at hz
    ·omega
    ·rw [wrap64 (by omega) (by omega)]
    ·omega
    ·omega
   ·omega
   ·omega
  ·simp only [q.1,Int.reduceEq,if_true,if_false]
   rcases isW1_cases hs ha with h | h | h | h | h
   ·subst h; simp [zeroW] at hz
   ·omega
   ·omega
   ·rcases isW1_cases hs hb with k | k | k | k | k
    ·subst k; simp [zeroW] at hz
    ·omega
    ·omega
    ·exact ⟨_,r03_Extend.ok q.2.1 q.2.2 ra.facts rb.facts h.2.2 k.2.2,rfl⟩
    ·omega
   ·omega
  ·simp only [q.1,Int.reduceEq,if_true,if_false]
   rcases isW1_cases hs ha with h | h | h | h | h
   ·subst h; simp [zeroW] at hz
   ·omega
   ·omega
   ·omega
   ·rcases isW1_cases hs hb with k | k | k | k | k
    ·subst k; simp [zeroW] at hz
    ·omega
    ·omega
    ·omega
    ·have ca:=(cellsOk_iff q.2.1 q.2.2 ra.cells).1 h.2.2
     have cb:=(cellsOk_iff q.2.1 q.2.2 rb.cells).1 k.2.2
     have key:=(countLoop (n:=s.Dim) (b:=r05_Then.b1 s a b) (fun i l=>(l,i)) id (fun i acc=>.go (acc ++ [behindM a.Cells (rdl b.Cells i)])) (fun i l=>(l.length:Int)=i) (fun i l i0 i1 hi=>by
      refine ⟨?_,by simp; omega⟩
      unfold r05_Then.b1
      simp only [i1,if_true]
      exact ⟨⟨i0,by omega⟩,_,r05_behind.ok (by unfold maxLen; omega) (rb.cells _ (rdl_mem i0 (by omega))).1,by unfold Fits; omega,by rw [wrap64 (by omega) (by omega)]⟩) (fun l hl=>by unfold r05_Then.b1; simp) [] q.2.1 rfl).1
     rw [countF_app] at key
     refine ⟨_,key,?_⟩
     have e:[] ++ (upto s.Dim.toNat).map (fun j=>behindM a.Cells (rdl b.Cells (0 + j)))=thenC a.Cells b.Cells:=by
      have:=map_upto b.Cells (behindM a.Cells)
      rw [show b.Cells.length=s.Dim.toNat by omega] at this
      simpa [thenC] using this
     show TWeight.mk false 0 ⟨0,[]⟩ _ []=TWeight.mk false 0 ⟨0,[]⟩ (id ([] ++ _)) []
     rw [id,e]
def thenW (s:TSpace) (a b:TWeight):TWeight :=
 if s.Tag=5 then ⟨false,0,⟨0,[]⟩,[],[thenW1 (rdl s.Parts 0) (rdl a.Parts 0) (rdl b.Parts 0),thenW1 (rdl s.Parts 1) (rdl a.Parts 1) (rdl b.Parts 1)]⟩
 else thenW1 s a b
theorem isW_pair {s:TSpace} {w:TWeight} (h5:s.Tag=5) (h:isW s w=true):∃ x y,w=⟨false,0,⟨0,[]⟩,[],[x,y]⟩∧isW1 (rdl s.Parts 0) x=true∧isW1 (rdl s.Parts 1) y=true:=by
 obtain ⟨Z,C,⟨G,R⟩,L,P⟩:=w
 unfold isW plainB at h
 rw [if_pos h5] at h
 simp only [Bool.and_eq_true,Bool.not_eq_true',Bool.false_or,beq_iff_eq,Bool.true_or] at h
 obtain ⟨hz,⟨hc,⟨hg,hr⟩,hl,_⟩,h2,ha,hb⟩:=h
 match P,h2 with
 | [x,y],_=>exact ⟨x,y,by simp only [hz,hc,hg]; simp at hr hl; simp [hr,hl],ha,hb⟩
theorem isW_mk {s:TSpace} {x y:TWeight} (h5:s.Tag=5) (hx:isW1 (rdl s.Parts 0) x=true) (hy:isW1 (rdl s.Parts 1) y=true):isW s ⟨false,0,⟨0,[]⟩,[],[x,y]⟩=true:=by
 unfold isW plainB
 rw [if_pos h5]
 simp [rdl0,rdl1,hx,hy]
theorem pair_rng {x y:TWeight} (hx:Rng1 x) (hy:Rng1 y):Rng ⟨false,0,⟨0,[]⟩,[],[x,y]⟩:=⟨⟨⟨zero_InU,by simp⟩,by simp,wf_small (x:=0) (Int.le_refl 0) (by decide)⟩,by intro p hp; simp at hp; rcases hp with rfl | rfl <;> assumption⟩
theorem thenW_ne {s:TSpace} {a b:TWeight} (h:s.Tag ≠ 5):thenW s a b=thenW1 s a b:=by unfold thenW; rw [if_neg h]
theorem space_p0 {s:TSpace} (h:spaceOk s=true) (h5:s.Tag=5):spaceOk1 (rdl s.Parts 0)=true∧spaceOk1 (rdl s.Parts 1)=true∧s.Parts.length=2:=by
 obtain ⟨a,b,hp,ha,hb,_⟩:=space_parts h h5
 rw [hp]; exact ⟨ha,hb,rfl⟩
theorem isW1_noparts {s:TSpace} {w:TWeight} (hs:spaceOk1 s=true) (h:isW1 s w=true) (r:Rng1 w):Rng w:=⟨r,by rw [isW1_parts h]; simp⟩
theorem thenW_ok {s:TSpace} {a b:TWeight} (hs:spaceOk s=true) (ha:isW s a=true) (hb:isW s b=true) (ra:Rng a) (rb:Rng b):isW s (thenW s a b)=true∧Rng (thenW s a b):=by
 by_cases h5:s.Tag=5
 ·obtain ⟨p0,p1,_⟩:=space_p0 hs h5
  obtain ⟨x,y,rfl,hx,hy⟩:=isW_pair h5 ha
  obtain ⟨z,w,rfl,hz,hw⟩:=isW_pair h5 hb
  unfold thenW
  rw [if_pos h5]
  have k0:=thenW1_ok p0 hx hz (ra.2 x (.head _)) (rb.2 z (.head _))
  have k1:=thenW1_ok p1 hy hw (ra.2 y (.tail _ (.head _))) (rb.2 w (.tail _ (.head _)))
  exact ⟨isW_mk h5 k0.1 k1.1,pair_rng k0.2 k1.2⟩
 ·have h1:spaceOk1 s=true:=by rw [← spaceOk_ne h5]; exact hs
  rw [isW_ne h5] at ha hb
  rw [thenW_ne h5,isW_ne h5]
  have:=thenW1_ok h1 ha hb ra.1 rb.1
  exact ⟨this.1,isW1_noparts h1 this.1 this.2⟩
theorem r05_Then.ok {s:TSpace} {a b:TWeight} (hs:spaceOk s=true) (ha:isW s a=true) (hb:isW s b=true) (ra:Rng a) (rb:Rng b):r05_Then.f s a b (thenW s a b):=by
 refine ⟨2,?_⟩
 by_cases h5:s.Tag=5
 ·obtain ⟨p0,p1,p2⟩:=space_p0 hs h5
  obtain ⟨x,y,rfl,hx,hy⟩:=isW_pair h5 ha
  obtain ⟨z,w,rfl,hz,hw⟩:=isW_pair h5 hb
  show r05_Then.step (r05_Then.fN 1) s _ _ _
  unfold r05_Then.step thenW
  simp only [h5,Int.reduceEq,if_true,if_false,Bool.or_self,Bool.false_eq_true]
  refine ⟨⟨by decide,by omega⟩,⟨by decide,by simp⟩,⟨by decide,by simp⟩,_,r05_Then.step1 (self:=r05_Then.fN 0) p0 hx hz (ra.2 x (.head _)) (rb.2 z (.head _)),⟨by decide,by omega⟩,⟨by decide,by simp⟩,⟨by decide,by simp⟩,_,r05_Then.step1 (self:=r05_Then.fN 0) p1 hy hw (ra.2 y (.tail _ (.head _))) (rb.2 w (.tail _ (.head _))),rfl⟩
 ·have h1:spaceOk1 s=true:=by rw [← spaceOk_ne h5]; exact hs
  rw [isW_ne h5] at ha hb
  rw [thenW_ne h5]
  exact r05_Then.step1 h1 ha hb ra.1 rb.1
theorem oneW1_ok {s:TSpace} (hs:spaceOk1 s=true):isW1 s (oneW1 s)=true∧Rng1 (oneW1 s):=by
 unfold oneW1
 rcases space1_cases hs with q | q | q | q
 ·simp only [q.1,Int.reduceEq,if_false]; exact ⟨isW1_none q.1,none_rng⟩
 ·simp only [q.1,Int.reduceEq,if_false]; exact ⟨isW1_cost q.1 (Int.le_refl 0) q.2.1,none_rng⟩
 ·simp only [q.1,Int.reduceEq,if_true,if_false]
  exact ⟨isW1_facts q.1 (oneF_ok q.2.1 q.2.2),oneF_rng q.2.2,by simp,wf_small (x:=0) (Int.le_refl 0) (by decide)⟩
 ·simp only [q.1,Int.reduceEq,if_true,if_false]
  have hr:∀ c ∈ oneC s.Dim,RngC c:=by
   intro c hc
   simp only [oneC,List.mem_map] at hc
   obtain ⟨i,hi,rfl⟩:=hc
   have:=upto_mem hi
   exact ⟨pow_InU (by omega),wf_small (x:=0) (Int.le_refl 0) (by decide)⟩
  refine ⟨isW1_cells q.1 ((cellsOk_iff q.2.1 q.2.2 hr).2 ⟨by simp [oneC,upto]; omega,fun c hc=>?_⟩),⟨zero_InU,by simp⟩,hr,wf_small (x:=0) (Int.le_refl 0) (by decide)⟩
  simp only [oneC,List.mem_map] at hc
  obtain ⟨i,hi,rfl⟩:=hc
  have:=upto_mem hi
  refine ⟨fun j hj=>?_,.inl ⟨rfl,rfl⟩⟩
  rw [has_pow] at hj
  simp at hj
  omega
theorem oneW_ok {s:TSpace} (hs:spaceOk s=true):isW s (oneW s)=true∧Rng (oneW s):=by
 by_cases h5:s.Tag=5
 ·obtain ⟨p0,p1,_⟩:=space_p0 hs h5
  unfold oneW
  rw [if_pos h5]
  exact ⟨isW_mk h5 (oneW1_ok p0).1 (oneW1_ok p1).1,pair_rng (oneW1_ok p0).2 (oneW1_ok p1).2⟩
 ·have h1:spaceOk1 s=true:=by rw [← spaceOk_ne h5]; exact hs
  rw [oneW_ne h5,isW_ne h5]
  exact ⟨(oneW1_ok h1).1,isW1_noparts h1 (oneW1_ok h1).1 (oneW1_ok h1).2⟩
def extW (s:TSpace) (l:List TWeight):TWeight:=foldG (fun _ x w=>thenW s w x) l 0 (oneW s)
end Go.RM.Tryz
namespace Go.RM.Tryz
open Go.RM
set_option linter.unusedVariables false
set_option linter.unusedSimpArgs false
theorem foldG_invI {α σ:Type} {g:Int→α→σ→σ} (P:Int→σ→Prop):∀ (l:List α) (i:Int) (s:σ),(∀ (j:Nat) x s,l[j]?=some x→P (i + j) s→P (i + j + 1) (g (i + j) x s))→P i s→P (i + l.length) (foldG g l i s)
 | [],i,s,h,hs=>by simpa [foldG] using hs
 | x :: l,i,s,h,hs=>by
  have h0:=h 0 x s rfl (by simpa using hs)
  simp only [Int.ofNat_zero,Int.add_zero,Int.natCast_zero] at h0
  have:=foldG_invI P l (i + 1) (g i x s) (fun j y s hy hp=>by
   have:=h (j + 1) y s (by simpa using hy) (by rw [show i + ((j + 1:Nat):Int)=i + 1 + j by omega]; exact hp)
   rw [show i + ((j + 1:Nat):Int)=i + 1 + j by omega] at this
   exact this) h0
  have e:i + ((x :: l).length:Int)=i + 1 + l.length:=by simp; omega
  rw [e]; exact this
theorem join_start {n:Int} {a:TCell} (ha:CellP n a) (ua:InU a.From):joinC ⟨0,0,0⟩ a=a:=by
 unfold joinC manyC
 obtain ⟨F,K,k⟩:=a
 by_cases h2:K=2
 ·rcases ha.2 with h | h | h
  ·simp at h; omega
  ·simp at h; omega
  ·simp at h; simp [h]
 ·have e:bitOp .or .u64 0 F=F:=ext64 (or_InU _ _) ua fun i _=>by rw [has_or zero_InU ua,has_zero]; rfl
  simp [h2,e]
theorem behind_single {l:List TCell} {j:Nat} {c:TCell}:∀ (i:Nat) (s:TCell),c.From=2 ^ j→foldG (behG c) l (i:Int) s=if h:i≤j∧j - i < l.length then joinC s (l[j - i]'h.2) else s:=by
 induction l with
 | nil=>intro i s _; simp [foldG]
 | cons x l ih =>
  intro i s hc
  unfold foldG
  rw [show ((i:Int) + 1)=((i + 1:Nat):Int) by simp,ih (i + 1) _ hc]
  unfold behG
  rw [show ((i:Nat):Int).toNat=i by simp,hc,has_pow]
  by_cases hij:j=i
  ·subst hij
   rw [dif_neg (by omega),dif_pos ⟨Nat.le_refl _,by simp⟩]
   simp
  ·rw [decide_eq_false hij]
   simp only [Bool.false_eq_true,if_false]
   by_cases h:i + 1≤j∧j - (i + 1) < l.length
   ·rw [dif_pos h,dif_pos ⟨by omega,by simp; omega⟩]
    congr 1
    obtain ⟨d,hd⟩:∃ d,j=i + 1 + d:=⟨j - (i + 1),by omega⟩
    subst hd
    simp only [show i + 1 + d - (i + 1)=d by omega,show i + 1 + d - i=d + 1 by omega]
    rfl
   ·rw [dif_neg h,dif_neg (by simp; omega)]
theorem oneC_get {n:Int} {j:Nat}:(oneC n)[j]?=if j < n.toNat then some ⟨2 ^ j,0,0⟩ else none:=by
 simp only [oneC,List.getElem?_map,upto_get]
 split <;> simp
theorem then_oneC {n:Int} {a:List TCell} (hl:(a.length:Int)=n) (hu:∀ c ∈ a,RngC c) (ha:∀ c ∈ a,CellP n c):thenC a (oneC n)=a:=by
 apply List.ext_getElem?
 intro j
 simp only [thenC,List.getElem?_map,oneC_get]
 by_cases hj:j < n.toNat
 ·rw [if_pos hj]
  have hlt:j < a.length:=by omega
  have hm:=List.getElem_mem hlt
  rw [List.getElem?_eq_getElem hlt]
  simp only [Option.map_some]
  unfold behindM
  have:=behind_single (l:=a) (j:=j) (c:=⟨2 ^ j,0,0⟩) 0 ⟨0,0,0⟩ rfl
  simp only [Int.natCast_zero] at this
  rw [this,dif_pos ⟨by omega,by simpa using hlt⟩]
  simp only [Nat.sub_zero]
  rw [join_start (ha _ hm) (hu _ hm).1]
 ·rw [if_neg hj,List.getElem?_eq_none (by omega)]; rfl
theorem behind_one {n:Int} (h0:0≤n) (h1:n≤64) {c:TCell} (uc:RngC c) (hc:CellP n c):behindM (oneC n) c=c:=by
 have key:=foldG_invI (g:=behG c) (fun i s=>s.Kind=c.Kind∧s.K=c.K∧InU s.From∧∀ k:Nat,hasI s.From k=(hasI c.From k && decide ((k:Int) < i))) (oneC n) 0 ⟨0,c.Kind,c.K⟩ (fun j x s hx h=>by
  rw [oneC_get] at hx
  split at hx
  ·rename_i hj
   injection hx with hx
   subst hx
   unfold behG
   obtain ⟨hk,hK,hu,hb⟩:=h
   rw [show ((0:Int) + (j:Int)).toNat=j by simp]
   cases hh:hasI c.From j with
   | false =>
    simp only [Bool.false_eq_true,if_false]
    refine ⟨hk,hK,hu,fun k=>?_⟩
    rw [hb k]
    by_cases hkj:k=j
    ·subst hkj; simp [hh]
    ·congr 1; rw [decide_eq_decide]; omega
   | true =>
    simp only [if_true]
    have hn2:c.Kind ≠ 2:=by
     intro h2
     rcases hc.2 with q | q | q
     ·omega
     ·omega
     ·rw [q.2.2,has_zero] at hh; cases hh
    have hor:∀ k:Nat,hasI (bitOp .or .u64 s.From (2 ^ j)) k=(hasI c.From k && decide ((k:Int) < 0 + j + 1)):=fun k=>by
     rw [has_or hu (pow_InU (by omega)),has_pow,hb k]
     by_cases hkj:j=k
     ·subst hkj; simp [hh]; omega
     ·have:decide ((k:Int) < 0 + j)=decide ((k:Int) < 0 + j + 1):=by rw [decide_eq_decide]; omega
      rw [this,decide_eq_false hkj,Bool.or_false]
    unfold joinC
    rw [if_neg (by rw [hk]; simp; exact hn2)]
    by_cases hz:s.Kind=0
    ·rw [if_pos hz]
     rcases hc.2 with q | q | q
     ·exact ⟨q.1.symm,q.2.symm,or_InU _ _,hor⟩
     ·omega
     ·omega
    ·rw [if_neg hz,if_neg (by simp)]
     exact ⟨hk,hK,or_InU _ _,hor⟩
  ·cases hx) ⟨rfl,rfl,zero_InU,fun k=>by
   rw [has_zero]
   have:¬ ((k:Int) < 0):=by omega
   rw [decide_eq_false this,Bool.and_false]⟩
 obtain ⟨hk,hK,hu,hb⟩:=key
 show foldG (behG c) (oneC n) 0 ⟨0,c.Kind,c.K⟩=c
 have hF:(foldG (behG c) (oneC n) 0 ⟨0,c.Kind,c.K⟩).From=c.From:=by
  refine ext64 hu uc.1 fun k hk64=>?_
  rw [hb k]
  cases hh:hasI c.From k with
  | false=>rfl
  | true =>
   have h9:=hc.1 k hh
   simp [oneC,upto]; omega
 generalize foldG (behG c) (oneC n) 0 ⟨0,c.Kind,c.K⟩=r at hk hK hF
 obtain ⟨a,b,d⟩:=r
 obtain ⟨x,y,z⟩:=c
 simp only at hk hK hF
 rw [hk,hK,hF]
theorem one_thenC {n:Int} (h0:0≤n) (h1:n≤64) {b:List TCell} (hu:∀ c ∈ b,RngC c) (hb:∀ c ∈ b,CellP n c):thenC (oneC n) b=b:=by
 unfold thenC
 rw [show (b.map (behindM (oneC n))=b) ↔ (b.map (behindM (oneC n))=b.map id) by simp,List.map_inj_left]
 exact fun c hc=>behind_one h0 h1 (hu c hc) (hb c hc)
theorem then_one1 {s:TSpace} {w:TWeight} (hs:spaceOk1 s=true) (h:isW1 s w=true) (r:Rng1 w):thenW1 s w (oneW1 s)=w∧thenW1 s (oneW1 s) w=w:=by
 unfold thenW1 oneW1
 rcases isW1_cases hs h with k | k | k | k | k
 ·subst k; exact ⟨by simp [zeroW],by simp [zeroW]⟩
 ·rw [k.2]; simp [k.1,noneW]
 ·rw [k.2.1]
  simp only [k.1,Int.reduceEq,if_true,if_false,noneW,Bool.or_self,Bool.false_eq_true]
  constructor
  ·congr 1; split <;> omega
  ·congr 1; split <;> omega
 ·rcases space1_cases hs with q | q | q | q
  ·omega
  ·omega
  ·have e1:=then_oneF q.2.1 q.2.2 r.facts k.2.2
   have e2:=one_thenF q.2.1 q.2.2 r.facts k.2.2
   generalize hF:w.Facts=F at *
   rw [k.2.1]
   simp [k.1,e1,e2]
  ·omega
 ·rcases space1_cases hs with q | q | q | q
  ·omega
  ·omega
  ·omega
  ·have hc:=(cellsOk_iff q.2.1 q.2.2 r.cells).1 k.2.2
   have e1:=then_oneC hc.1 r.cells hc.2
   have e2:=one_thenC q.2.1 q.2.2 r.cells hc.2
   generalize hF:w.Cells=F at *
   rw [k.2.1]
   simp [k.1,e1,e2]
theorem then_one {s:TSpace} {w:TWeight} (hs:spaceOk s=true) (h:isW s w=true) (r:Rng w):thenW s w (oneW s)=w∧thenW s (oneW s) w=w:=by
 by_cases h5:s.Tag=5
 ·obtain ⟨p0,p1,_⟩:=space_p0 hs h5
  obtain ⟨x,y,rfl,hx,hy⟩:=isW_pair h5 h
  have e0:=then_one1 p0 hx (r.2 x (.head _))
  have e1:=then_one1 p1 hy (r.2 y (.tail _ (.head _)))
  unfold thenW oneW
  rw [if_pos h5,if_pos h5,if_pos h5]
  simp [rdl0,rdl1,e0,e1]
 ·have h1:spaceOk1 s=true:=by rw [← spaceOk_ne h5]; exact hs
  rw [isW_ne h5] at h
  rw [oneW_ne h5,thenW_ne h5,thenW_ne h5]
  exact then_one1 h1 h r.1
end Go.RM.Tryz
namespace Go.RM.Tryz
open Go.RM
set_option linter.unusedVariables false
set_option linter.unusedSimpArgs false
def Reach {σ τ ρ:Type} (b:σ→Rnd σ τ ρ→Prop) (s s':σ):Prop:=∀ o,Loop b s' o→Loop b s o
theorem Reach.refl {σ τ ρ:Type} {b:σ→Rnd σ τ ρ→Prop} (s:σ):Reach b s s:=fun o h=>h
theorem Reach.next {σ τ ρ:Type} {b:σ→Rnd σ τ ρ→Prop} {s s' s'':σ} (h:b s (.next s')) (h':Reach b s' s''):Reach b s s'':=fun o k=>.next h (h' o k)
def mkS (c:TConf) (w:TWeight) (parts i:Int):Int × (List Int) × Bool × Int × Int × (List Int) × (List TCell) × (List TWeight) × Int × Int:=(c.P,c.W,w.Zero,w.Cost,w.Facts.Gen,w.Facts.Rows,w.Cells,w.Parts,parts,i)
end Go.RM.Tryz
namespace Go.RM.Tryz
open Go.RM
set_option linter.unusedVariables false
set_option linter.unusedSimpArgs false
def eitherF (a b:TFacts):TFacts:=canonM ⟨bitOp .or .u64 a.Gen b.Gen,List.zipWith (bitOp .or .u64) a.Rows b.Rows⟩
theorem zip_get {α β γ:Type} {f:α→β→γ} {l:List α} {m:List β} {z:γ} (h:z ∈ List.zipWith f l m):∃ x ∈ l,∃ y ∈ m,z=f x y:=by
 obtain ⟨k,hk⟩:=List.getElem?_of_mem h
 rw [List.getElem?_zipWith] at hk
 cases hx:l[k]? with
 | none=>rw [hx] at hk; cases hk
 | some x =>
  cases hy:m[k]? with
  | none=>rw [hx,hy] at hk; cases hk
  | some y =>
   rw [hx,hy] at hk
   injection hk with hk
   exact ⟨x,List.mem_of_getElem? hx,y,List.mem_of_getElem? hy,hk.symm⟩
theorem eitherF_rng (a b:TFacts):RngF (eitherF a b):=rng_canon (or_InU _ _)
theorem eitherF_ok {n:Int} (h0:0≤n) (h1:n≤64) {a b:TFacts} (ra:RngF a) (rb:RngF b) (ha:factsOk n a=true) (hb:factsOk n b=true):factsOk n (eitherF a b)=true:=by
 rw [factsOk_iff (eitherF_rng a b) h0 h1]
 obtain ⟨la,ga,oa,_⟩:=(factsOk_iff ra h0 h1).1 ha
 obtain ⟨lb,gb,ob,_⟩:=(factsOk_iff rb h0 h1).1 hb
 refine ⟨by simp [eitherF,canonM]; omega,fun i hi=>?_,?_,?_⟩
 ·simp only [eitherF,canonM] at hi
  rw [has_or ra.1 rb.1,Bool.or_eq_true] at hi
  rcases hi with hi | hi
  ·exact ga i hi
  ·exact gb i hi
 ·intro r hm i hi
  simp only [eitherF,canonM,List.mem_map] at hm
  obtain ⟨z,hz,rfl⟩:=hm
  obtain ⟨x,hx,y,hy,rfl⟩:=zip_get hz
  have h64:i < 64:=by apply Nat.lt_of_not_le; intro hge; rw [hasI_high (andNot_InU _ _) hge] at hi; cases hi
  rw [has_andNot (or_InU _ _) (or_InU _ _) h64,Bool.and_eq_true,has_or (ra.2 x hx) (rb.2 y hy),Bool.or_eq_true] at hi
  rcases hi.1 with hi | hi
  ·exact oa x hx i hi
  ·exact ob y hy i hi
 ·intro r hm i hi
  simp only [eitherF,canonM,List.mem_map] at hm
  obtain ⟨z,hz,rfl⟩:=hm
  have h64:i < 64:=by apply Nat.lt_of_not_le; intro hge; rw [hasI_high (andNot_InU _ _) hge] at hi; cases hi
  rw [has_andNot (by obtain ⟨x,hx,y,hy,rfl⟩:=zip_get hz; exact or_InU _ _) (or_InU _ _) h64,Bool.and_eq_true] at hi
  simpa [eitherF,canonM] using hi.2
theorem upto_zip {α β γ:Type} [Inhabited α] [Inhabited β] (f:α→β→γ) {l:List α} {m:List β} (h:l.length=m.length):(upto l.length).map (fun i=>f (rdl l i) (rdl m i))=List.zipWith f l m:=by
 apply List.ext_getElem?
 intro k
 simp only [List.getElem?_map,upto_get,List.getElem?_zipWith]
 by_cases hk:k < l.length
 ·rw [if_pos hk]
  have a:=rdl_get (l:=l) (i:=(k:Int)) (by omega) (by omega)
  have b:=rdl_get (l:=m) (i:=(k:Int)) (by omega) (by omega)
  simp only [Int.toNat_natCast] at a b
  rw [a,b]; rfl
 ·rw [if_neg hk,List.getElem?_eq_none (by omega)]; rfl
theorem r03_Combine.ok {n:Int} (h0:0≤n) (h1:n≤64) {a b:TFacts} (hra:RngF a) (hrb:RngF b) (ha2:factsOk n a=true) (hb2:factsOk n b=true):r03_Combine.f n a b (eitherF a b,0):=by
 obtain ⟨la,_⟩:=(factsOk_iff hra h0 h1).1 ha2
 obtain ⟨lb,_⟩:=(factsOk_iff hrb h0 h1).1 hb2
 refine ⟨_,r03_two.ok h0 h1 (by omega) (by omega) ha2 hb2,?_⟩
 rw [if_pos rfl]
 refine ⟨_,r03_or.ok _ _,?_⟩
 have key:=(countLoop (n:=n) (b:=r03_Combine.b1 n a b) (fun i l=>(l,i)) id (fun i acc=>.go (acc ++ [bitOp .or .u64 (rdl a.Rows i) (rdl b.Rows i)])) (fun i l=>(l.length:Int)=i) (fun i l i0 i1 hi=>by
  refine ⟨?_,by simp; omega⟩
  unfold r03_Combine.b1
  simp only [i1,if_true]
  exact ⟨⟨i0,by omega⟩,⟨i0,by omega⟩,_,r03_or.ok _ _,by unfold Fits; omega,by rw [wrap64 (by omega) (by omega)]⟩) (fun l hl=>by unfold r03_Combine.b1; simp) [] h0 rfl).1
 rw [countF_app] at key
 refine ⟨_,key,?_⟩
 have e:[] ++ (upto n.toNat).map (fun j=>bitOp .or .u64 (rdl a.Rows (0 + j)) (rdl b.Rows (0 + j)))=List.zipWith (bitOp .or .u64) a.Rows b.Rows:=by
  have:=upto_zip (bitOp .or .u64) (l:=a.Rows) (m:=b.Rows) (by omega)
  rw [show a.Rows.length=n.toNat by omega] at this
  simpa using this
 show ∃ t,r03_canon.f (TFacts.mk (bitOp .or .u64 a.Gen b.Gen) (id ([] ++ _))) t∧_
 rw [id,e]
 exact ⟨_,r03_canon.ok (by simp; omega),rfl⟩
def eitherW1 (s:TSpace) (a b:TWeight):TWeight :=
 if a.Zero=true then b
 else if b.Zero=true then a
 else if s.Tag=2 then ⟨false,if b.Cost < a.Cost then b.Cost else a.Cost,⟨0,[]⟩,[],[]⟩
 else if s.Tag=3 then ⟨false,0,eitherF a.Facts b.Facts,[],[]⟩
 else if s.Tag=4 then ⟨false,0,⟨0,[]⟩,List.zipWith joinC a.Cells b.Cells,[]⟩
 else noneW
theorem eitherW1_ok {s:TSpace} {a b:TWeight} (hs:spaceOk1 s=true) (ha:isW1 s a=true) (hb:isW1 s b=true) (ra:Rng1 a) (rb:Rng1 b):isW1 s (eitherW1 s a b)=true∧Rng1 (eitherW1 s a b):=by
 unfold eitherW1
 rcases isW1_cases hs ha with h | h | h | h | h
 ·subst h; simp only [zeroW,if_true]; exact ⟨hb,rb⟩
 all_goals
  have az:a.Zero=false:=by first | (rw [h.2]; rfl) | (rw [h.2.1])
  rw [az,if_neg Bool.false_ne_true]
  rcases isW1_cases hs hb with k | k | k | k | k
  ·subst k; simp only [zeroW,if_true]; exact ⟨ha,ra⟩
  all_goals first | (exfalso; omega) | skip
  have bz:b.Zero=false:=by first | (rw [k.2]; rfl) | (rw [k.2.1])
  rw [bz,if_neg Bool.false_ne_true]
 ·simp only [h.1,Int.reduceEq,if_false]
  exact ⟨isW1_none h.1,none_rng⟩
 ·simp only [h.1,Int.reduceEq,if_true,if_false]
  have:0≤(if b.Cost < a.Cost then b.Cost else a.Cost)∧(if b.Cost < a.Cost then b.Cost else a.Cost)≤s.Dim:=by split <;> omega
  rcases space1_cases hs with q | q | q | q
  ·omega
  ·exact ⟨isW1_cost h.1 this.1 this.2,⟨zero_InU,by simp⟩,by simp,wf_small this.1 (Int.le_trans this.2 (by omega))⟩
  ·omega
  ·omega
 ·simp only [h.1,Int.reduceEq,if_true,if_false]
  rcases space1_cases hs with q | q | q | q
  ·omega
  ·omega
  ·exact ⟨isW1_facts h.1 (eitherF_ok q.2.1 q.2.2 ra.facts rb.facts h.2.2 k.2.2),eitherF_rng _ _,by simp,wf_small (x:=0) (Int.le_refl 0) (by decide)⟩
  ·omega
 ·simp only [h.1,Int.reduceEq,if_true,if_false]
  rcases space1_cases hs with q | q | q | q
  ·omega
  ·omega
  ·omega
  ·have ca:=(cellsOk_iff q.2.1 q.2.2 ra.cells).1 h.2.2
   have cb:=(cellsOk_iff q.2.1 q.2.2 rb.cells).1 k.2.2
   have hall:∀ c ∈ List.zipWith joinC a.Cells b.Cells,CellP s.Dim c∧RngC c:=by
    intro c hc
    obtain ⟨x,hx,y,hy,rfl⟩:=zip_get hc
    exact ⟨joinC_ok (ra.cells x hx).1 (rb.cells y hy).1 (ca.2 x hx) (cb.2 y hy),joinC_InU _ _,joinC_K (ra.cells x hx).2 (rb.cells y hy).2⟩
   exact ⟨isW1_cells h.1 ((cellsOk_iff q.2.1 q.2.2 (fun c hc=>(hall c hc).2)).2 ⟨by simp; omega,fun c hc=>(hall c hc).1⟩),⟨zero_InU,by simp⟩,fun c hc=>(hall c hc).2,wf_small (x:=0) (Int.le_refl 0) (by decide)⟩
theorem r05_Either.step1 {self:TSpace→TWeight→TWeight→TWeight→Prop} {s:TSpace} {a b:TWeight} (hs:spaceOk1 s=true) (ha:isW1 s a=true) (hb:isW1 s b=true) (ra:Rng1 a) (rb:Rng1 b):r05_Either.step self s a b (eitherW1 s a b):=by
 unfold r05_Either.step eitherW1
 by_cases az:a.Zero=true
 ·rw [if_pos az,if_pos az]
 ·rw [if_neg az,if_neg az]
  by_cases bz:b.Zero=true
  ·rw [if_pos bz,if_pos bz]
  ·rw [if_neg bz,if_neg bz]
   rcases space1_cases hs with q | q | q | q
   ·simp only [q.1,Int.reduceEq,if_false]; rfl
   ·simp only [q.1,Int.reduceEq,if_true,if_false]
   ·simp only [q.1,Int.reduceEq,if_true,if_false]
    rcases isW1_cases hs ha with h | h | h | h | h
    ·subst h; simp [zeroW] at az
    ·omega
    ·omega
    ·rcases isW1_cases hs hb with k | k | k | k | k
     ·subst k; simp [zeroW] at bz
     ·omega
     ·omega
     ·exact ⟨_,r03_Combine.ok q.2.1 q.2.2 ra.facts rb.facts h.2.2 k.2.2,rfl⟩
     ·omega
    ·omega
   ·simp only [q.1,Int.reduceEq,if_true,if_false]
    rcases isW1_cases hs ha with h | h | h | h | h
    ·subst h; simp [zeroW] at az
    ·omega
    ·omega
    ·omega
    ·rcases isW1_cases hs hb with k | k | k | k | k
     ·subst k; simp [zeroW] at bz
     ·omega
     ·omega
     ·omega
     ·have ca:=(cellsOk_iff q.2.1 q.2.2 ra.cells).1 h.2.2
      have cb:=(cellsOk_iff q.2.1 q.2.2 rb.cells).1 k.2.2
      have key:=(countLoop (n:=s.Dim) (b:=r05_Either.b1 s a b) (fun i l=>(l,i)) id (fun i acc=>.go (acc ++ [joinC (rdl a.Cells i) (rdl b.Cells i)])) (fun i l=>(l.length:Int)=i) (fun i l i0 i1 hi=>by
       refine ⟨?_,by simp; omega⟩
       unfold r05_Either.b1
       simp only [i1,if_true]
       exact ⟨⟨i0,by omega⟩,⟨i0,by omega⟩,_,r05_Joined.ok _ _,by unfold Fits; omega,by rw [wrap64 (by omega) (by omega)]⟩) (fun l hl=>by unfold r05_Either.b1; simp) [] q.2.1 rfl).1
      rw [countF_app] at key
      refine ⟨_,key,?_⟩
      have e:[] ++ (upto s.Dim.toNat).map (fun j=>joinC (rdl a.Cells (0 + j)) (rdl b.Cells (0 + j)))=List.zipWith joinC a.Cells b.Cells:=by
       have:=upto_zip joinC (l:=a.Cells) (m:=b.Cells) (by omega)
       rw [show a.Cells.length=s.Dim.toNat by omega] at this
       simpa using this
      show TWeight.mk false 0 ⟨0,[]⟩ _ []=TWeight.mk false 0 ⟨0,[]⟩ (id ([] ++ _)) []
      rw [id,e]
def eitherW (s:TSpace) (a b:TWeight):TWeight :=
 if s.Tag=5 then ⟨false,0,⟨0,[]⟩,[],[eitherW1 (rdl s.Parts 0) (rdl a.Parts 0) (rdl b.Parts 0),eitherW1 (rdl s.Parts 1) (rdl a.Parts 1) (rdl b.Parts 1)]⟩
 else eitherW1 s a b
theorem eitherW_ne {s:TSpace} {a b:TWeight} (h:s.Tag ≠ 5):eitherW s a b=eitherW1 s a b:=by unfold eitherW; rw [if_neg h]
theorem eitherW_ok {s:TSpace} {a b:TWeight} (hs:spaceOk s=true) (ha:isW s a=true) (hb:isW s b=true) (ra:Rng a) (rb:Rng b):isW s (eitherW s a b)=true∧Rng (eitherW s a b):=by
 by_cases h5:s.Tag=5
 ·obtain ⟨p0,p1,_⟩:=space_p0 hs h5
  obtain ⟨x,y,rfl,hx,hy⟩:=isW_pair h5 ha
  obtain ⟨z,w,rfl,hz,hw⟩:=isW_pair h5 hb
  unfold eitherW
  rw [if_pos h5]
  have k0:=eitherW1_ok p0 hx hz (ra.2 x (.head _)) (rb.2 z (.head _))
  have k1:=eitherW1_ok p1 hy hw (ra.2 y (.tail _ (.head _))) (rb.2 w (.tail _ (.head _)))
  exact ⟨isW_mk h5 k0.1 k1.1,pair_rng k0.2 k1.2⟩
 ·have h1:spaceOk1 s=true:=by rw [← spaceOk_ne h5]; exact hs
  rw [isW_ne h5] at ha hb
  rw [eitherW_ne h5,isW_ne h5]
  have:=eitherW1_ok h1 ha hb ra.1 rb.1
  exact ⟨this.1,isW1_noparts h1 this.1 this.2⟩
theorem r05_Either.ok {s:TSpace} {a b:TWeight} (hs:spaceOk s=true) (ha:isW s a=true) (hb:isW s b=true) (ra:Rng a) (rb:Rng b):r05_Either.f s a b (eitherW s a b):=by
 refine ⟨2,?_⟩
 by_cases h5:s.Tag=5
 ·obtain ⟨p0,p1,p2⟩:=space_p0 hs h5
  obtain ⟨x,y,rfl,hx,hy⟩:=isW_pair h5 ha
  obtain ⟨z,w,rfl,hz,hw⟩:=isW_pair h5 hb
  show r05_Either.step (r05_Either.fN 1) s _ _ _
  unfold r05_Either.step eitherW
  simp only [h5,Int.reduceEq,if_true,if_false,Bool.false_eq_true]
  refine ⟨⟨by decide,by omega⟩,⟨by decide,by simp⟩,⟨by decide,by simp⟩,_,r05_Either.step1 (self:=r05_Either.fN 0) p0 hx hz (ra.2 x (.head _)) (rb.2 z (.head _)),⟨by decide,by omega⟩,⟨by decide,by simp⟩,⟨by decide,by simp⟩,_,r05_Either.step1 (self:=r05_Either.fN 0) p1 hy hw (ra.2 y (.tail _ (.head _))) (rb.2 w (.tail _ (.head _))),rfl⟩
 ·have h1:spaceOk1 s=true:=by rw [← spaceOk_ne h5]; exact hs
  rw [isW_ne h5] at ha hb
  rw [eitherW_ne h5]
  exact r05_Either.step1 h1 ha hb ra.1 rb.1
def zeroS (s:TSpace):TWeight:=if s.Tag=5 then ⟨false,0,⟨0,[]⟩,[],[zeroW,zeroW]⟩ else zeroW
theorem zeroS_ok {s:TSpace} (hs:spaceOk s=true):isW s (zeroS s)=true∧Rng (zeroS s):=by
 unfold zeroS
 by_cases h5:s.Tag=5
 ·obtain ⟨p0,p1,_⟩:=space_p0 hs h5
  rw [if_pos h5]
  exact ⟨isW_mk h5 (isW1_zero p0) (isW1_zero p1),pair_rng zero_rng zero_rng⟩
 ·have h1:spaceOk1 s=true:=by rw [← spaceOk_ne h5]; exact hs
  rw [if_neg h5,isW_ne h5]
  exact ⟨isW1_zero h1,isW1_noparts h1 (isW1_zero h1) zero_rng⟩
theorem r05_zero.ok {s:TSpace} (hs:spaceOk s=true):r05_zero.f s (zeroS s):=by
 refine ⟨2,?_⟩
 show r05_zero.step (r05_zero.fN 1) s _
 unfold r05_zero.step zeroS
 by_cases h5:s.Tag=5
 ·obtain ⟨a,b,hp,ha,hb,na,nb,hd⟩:=space_parts hs h5
  have hz:∀ {t:TSpace},t.Tag ≠ 5→r05_zero.fN 1 t zeroW:=fun {t} ht=>by
   show r05_zero.step (r05_zero.fN 0) t _
   unfold r05_zero.step
   rw [if_neg ht]; rfl
  rw [if_pos h5,if_pos h5,hp]
  exact ⟨⟨by decide,by simp⟩,_,hz na,⟨by decide,by simp⟩,_,hz nb,rfl⟩
 ·rw [if_neg h5,if_neg h5]; rfl
def zeroR (s:TSpace):TWeight × Int:=if spaceOk s=true then (zeroS s,0) else (noneW,50)
theorem r05_Zero.ok {s:TSpace} (hl:s.Parts.length≤maxLen):r05_Zero.f s (zeroR s):=by
 refine ⟨_,r05_Space.ok hl,?_⟩
 unfold zeroR
 cases h:spaceOk s with
 | false=>simp [noneW]
 | true=>simp only [if_true]; exact ⟨_,r05_zero.ok h,rfl⟩
theorem weight_zero.ok {s:TSpace} (hs:spaceOk s=true):weight_zero.f s (zeroS s):=by
  refine ⟨2,?_⟩
  show weight_zero.step (weight_zero.fN 1) s _
  unfold weight_zero.step zeroS
  by_cases h5:s.Tag=5
  · obtain ⟨a,b,hp,ha,hb,na,nb,hd⟩:=space_parts hs h5
    have hz:∀ {t:TSpace},t.Tag ≠ 5→weight_zero.fN 1 t zeroW:=fun {t} ht=>by
      show weight_zero.step (weight_zero.fN 0) t _
      unfold weight_zero.step
      first
        | (rw [if_pos ht]; rfl)
        | (rw [if_neg ht]; rfl)
    first
      | (rw [if_neg (by simp [h5]),if_pos h5,hp]
         exact ⟨⟨by decide,by simp⟩,_,hz na,⟨by decide,by simp⟩,_,hz nb,rfl⟩)
      | (rw [if_pos h5,if_pos h5,hp]
         exact ⟨⟨by decide,by simp⟩,_,hz na,⟨by decide,by simp⟩,_,hz nb,rfl⟩)
  · first
      | (rw [if_pos h5,if_neg h5]; rfl)
      | (rw [if_neg h5,if_neg h5]; rfl)
theorem weight_Zero.ok {s:TSpace} (hl:s.Parts.length≤maxLen):weight_Zero.f s (zeroR s):=by
 refine ⟨_,weight_Space.ok hl,?_⟩
 unfold zeroR
 cases h:spaceOk s with
 | false=>simp [noneW]
 | true=>simp only [if_true]; exact ⟨_,weight_zero.ok h,rfl⟩
theorem either_zero1 (s:TSpace) (w:TWeight):eitherW1 s zeroW w=w:=by simp [eitherW1,zeroW]
theorem either_zero {s:TSpace} {w:TWeight} (hs:spaceOk s=true) (h:isW s w=true):eitherW s (zeroS s) w=w:=by
 unfold eitherW zeroS
 by_cases h5:s.Tag=5
 ·obtain ⟨x,y,rfl,hx,hy⟩:=isW_pair h5 h
  rw [if_pos h5,if_pos h5]
  simp [rdl0,rdl1,either_zero1]
 ·rw [if_neg h5,if_neg h5,either_zero1]
end Go.RM.Tryz
namespace Go.RM.Tryz
open Go.RM
set_option linter.unusedVariables false
set_option linter.unusedSimpArgs false
def confB (p:TPds) (c:TConf):Bool:=inB c.P p.States && (decide ((c.W.length:Int)≤4096) && c.W.all (fun g=>inB g p.Symbols))
def confC (p:TPds) (c:TConf):Int:=if pC p=0 then (if confB p c=true then 0 else 120) else pC p
theorem conf_head {p:TPds} {c:TConf}:((decide (c.P < 0)) || ((decide (c.P ≥ p.States)) || (decide ((c.W.length:Int) > 4096))))=!(inB c.P p.States && decide ((c.W.length:Int)≤4096)):=by
 rw [Bool.eq_iff_iff]; simp [inB]; omega
theorem confB_split {p:TPds} {c:TConf} (h:(inB c.P p.States && decide ((c.W.length:Int)≤4096))=true):confB p c=c.W.all (fun g=>inB g p.Symbols):=by
 rw [Bool.and_eq_true] at h
 unfold confB; rw [h.1,h.2]; simp
theorem confB_no {p:TPds} {c:TConf} (h:¬ (inB c.P p.States && decide ((c.W.length:Int)≤4096))=true):confB p c=false:=by
 unfold confB
 rw [← Bool.and_assoc,Bool.eq_false_iff.2 h,Bool.false_and]
theorem steps_Check.ok {p:TPds} (h:p.Sized) {c:TConf} (hl:c.W.length≤maxLen):steps_Check.f p c (confC p c):=by
 refine ⟨_,pds_Check.ok h,?_⟩
 unfold confC
 by_cases hc:pC p=0
 ·rw [if_pos hc,if_pos hc,conf_head]
  by_cases hh:(inB c.P p.States && decide ((c.W.length:Int)≤4096))=true
  ·rw [hh,confB_split hh,if_neg (by simp)]
   have key:=eachLoop (l:=c.W) (b:=steps_Check.b1 p c) (fun g=>inB g p.Symbols) (120:Int) (fun i i0 i1=>by
    unfold steps_Check.b1
    simp only [i1,if_true]
    refine ⟨fun ht=>⟨⟨i0,i1⟩,?_⟩,fun ht=>⟨⟨i0,i1⟩,?_⟩⟩
    ·rw [if_neg (by unfold inB at ht; simp at ht ⊢; omega),wrap_len hl i0 i1]
    ·rw [if_pos (by unfold inB at ht; simp at ht ⊢; omega)]; trivial) (fun i i0 i1=>by unfold steps_Check.b1; simp only [i1,if_false])
   refine ⟨_,key,?_⟩
   cases c.W.all (fun g=>inB g p.Symbols) <;> simp [Fin.on]
  ·rw [Bool.eq_false_iff.2 hh,confB_no hh]; simp
 ·rw [if_neg hc,if_neg hc]
theorem r12_Check.ok {p:TPds} (h:p.Sized) {c:TConf} (hl:c.W.length≤maxLen):r12_Check.f p c (confC p c):=by
 refine ⟨_,r11_Check.ok h,?_⟩
 unfold confC
 by_cases hc:pC p=0
 ·rw [if_pos hc,if_pos hc,conf_head]
  by_cases hh:(inB c.P p.States && decide ((c.W.length:Int)≤4096))=true
  ·rw [hh,confB_split hh,if_neg (by simp)]
   have key:=eachLoop (l:=c.W) (b:=r12_Check.b1 p c) (fun g=>inB g p.Symbols) (120:Int) (fun i i0 i1=>by
    unfold r12_Check.b1
    simp only [i1,if_true]
    refine ⟨fun ht=>⟨⟨i0,i1⟩,fun _=>⟨i0,i1⟩,?_⟩,fun ht=>⟨⟨i0,i1⟩,fun _=>⟨i0,i1⟩,?_⟩⟩
    ·rw [if_neg (by unfold inB at ht; simp at ht ⊢; omega),wrap_len hl i0 i1]
    ·rw [if_pos (by unfold inB at ht; simp at ht ⊢; omega)]; trivial) (fun i i0 i1=>by unfold r12_Check.b1; simp only [i1,if_false])
   refine ⟨_,key,?_⟩
   cases c.W.all (fun g=>inB g p.Symbols) <;> simp [Fin.on]
  ·rw [Bool.eq_false_iff.2 hh,confB_no hh]; simp
 ·rw [if_neg hc,if_neg hc]
structure TAuto.Sized (a:TAuto):Prop where
 parts:a.Space.Parts.length≤maxLen
 final:a.Final.length≤maxLen
 trans:a.Trans.length≤maxLen
 weights:∀ t ∈ a.Trans,t.W.Sized2
end Go.RM.Tryz
namespace Go.RM.Tryz
open Go.RM
set_option linter.unusedVariables false
set_option linter.unusedSimpArgs false
def atN (st P:Int) (j:Int):Int:=if j=0 then P else st + (j - 1)
theorem confC_ok {p:TPds} {c:TConf} (h:confC p c=0):pC p=0∧0≤c.P∧c.P < p.States∧c.W.length≤4096∧∀ g ∈ c.W,0≤g∧g < p.Symbols:=by
 unfold confC at h
 split at h
 ·rename_i hp
  split at h
  ·rename_i hb
   unfold confB inB at hb
   simp only [Bool.and_eq_true,decide_eq_true_eq,List.all_eq_true] at hb
   exact ⟨hp,by omega,by omega,by omega,fun g hg=>by have:=hb.2.2 g hg; omega⟩
  ·simp at h
 ·rename_i hp; exact (hp h).elim
theorem TPds.Fit.sized {p:TPds} (h:p.Fit):p.Sized where
 parts:=by have hs:=h.1; cases hs with | mk _ h0 h1 h2 h3 h4=>exact h3
 rules:=by have:=h.2.2.2.1; omega
 words:=fun r hr=>(h.2.2.2.2.2 r hr).2.2.2.1.2.1
 weights:=fun r hr=>(h.2.2.2.2.2 r hr).2.2.2.2.sized2
theorem TAuto.Fit.sized {a:TAuto} (h:a.Fit):a.Sized where
 parts:=by have hs:=h.1; cases hs with | mk _ h0 h1 h2 h3 h4=>exact h3
 final:=h.2.2.2.1.2.1
 trans:=h.2.2.2.2.2.1
 weights:=fun t ht=>(h.2.2.2.2.2.2 t ht).2.2.2.sized2
end Go.RM.Tryz
namespace Go.RM.Tryz
open Go.RM
set_option linter.unusedVariables false
set_option linter.unusedSimpArgs false
def tgt (p:TPds) (c:TConf) (k g:Int):Int:=if p.States≤k∧k < p.States + c.W.length∧rdl c.W (k - p.States)=g then atN p.States c.P (k - p.States) else -1
end Go.RM.Tryz
namespace Go.RM.Tryz
open Go.RM
set_option linter.unusedVariables false
set_option linter.unusedSimpArgs false
def eqConf (c d:TConf):Bool:=(c.P == d.P) && decide (c.W=d.W)
end Go.RM.Tryz
namespace Go.RM.Tryz
open Go.RM
set_option linter.unusedVariables false
set_option linter.unusedSimpArgs false
def MadeP (F:TFacts) (x:Int) (k:Nat):Prop:=hasI F.Gen k=true∨∃ j r,F.Rows[j]?=some r∧hasI x j=true∧hasI r k=true
theorem made_iff {F:TFacts} (h:RngF F) (x:Int) (k:Nat):hasI (madeM F x) k=true ↔ MadeP F x k:=by
 rw [madeM_has h,Bool.or_eq_true,anyB_iff]
 simp only [Nat.zero_add,MadeP]
theorem made_ext {x y:Int} (hx:InU x) (hy:InU y) (h:∀ k,hasI x k=true ↔ hasI y k=true):x=y:=ext64 hx hy fun i _=>Bool.eq_iff_iff.2 (h i)
theorem hi64 {x:Int} (hx:InU x) {k:Nat} (h:hasI x k=true):k < 64:=by
 apply Nat.lt_of_not_le; intro hge; rw [hasI_high hx hge] at h; cases h
structure FOk (n:Int) (F:TFacts):Prop where
 rng:RngF F
 ok:factsOk n F=true
theorem FOk.len {n:Int} (h0:0≤n) (h1:n≤64) {F:TFacts} (h:FOk n F):(F.Rows.length:Int)=n:=((factsOk_iff h.rng h0 h1).1 h.ok).1
theorem FOk.ext {n:Int} (h0:0≤n) (h1:n≤64) {a b:TFacts} (ha:FOk n a) (hb:FOk n b) (h:∀ x,InU x→∀ k,MadeP a x k ↔ MadeP b x k):a=b:=by
 obtain ⟨la,_,_,ca⟩:=(factsOk_iff ha.rng h0 h1).1 ha.ok
 obtain ⟨lb,_,_,cb⟩:=(factsOk_iff hb.rng h0 h1).1 hb.ok
 have none0:∀ (F:TFacts) k,MadeP F 0 k ↔ hasI F.Gen k=true:=by
  intro F k
  constructor
  ·rintro (q | ⟨j,r,_,hx,_⟩)
   ·exact q
   ·rw [has_zero] at hx; cases hx
  ·exact .inl
 have hg:a.Gen=b.Gen:=made_ext ha.rng.1 hb.rng.1 fun k=>by rw [← none0,← none0]; exact h 0 zero_InU k
 have one1:∀ (F:TFacts) (j:Nat) (r:Int),F.Rows[j]?=some r→∀ k,MadeP F (2 ^ j) k ↔ hasI F.Gen k=true∨hasI r k=true:=by
  intro F j r hj k
  constructor
  ·rintro (q | ⟨i,r',hi,hx,hr⟩)
   ·exact .inl q
   ·rw [has_pow,decide_eq_true_eq] at hx
    subst hx
    rw [hj] at hi
    cases hi
    exact .inr hr
  ·rintro (q | q)
   ·exact .inl q
   ·exact .inr ⟨j,r,hj,by rw [has_pow]; simp,q⟩
 have hr:a.Rows=b.Rows:=by
  apply List.ext_getElem (by omega)
  intro j h2 h3
  have ga:=List.getElem?_eq_getElem h2
  have gb:=List.getElem?_eq_getElem h3
  refine made_ext (ha.rng.2 _ (List.getElem_mem h2)) (hb.rng.2 _ (List.getElem_mem h3)) fun k=>?_
  have:=h (2 ^ j) (pow_InU (by omega)) k
  rw [one1 a j _ ga,one1 b j _ gb,hg] at this
  constructor
  ·intro q
   rcases this.1 (.inr q) with g | g
   ·have:=ca _ (List.getElem_mem h2) k q; rw [hg,g] at this; cases this
   ·exact g
  ·intro q
   rcases this.2 (.inr q) with g | g
   ·have:=cb _ (List.getElem_mem h3) k q; rw [g] at this; cases this
   ·exact g
 obtain ⟨ag,ar⟩:=a
 obtain ⟨bg,br⟩:=b
 simp only at hg hr
 rw [hg,hr]
theorem FOk.either {n:Int} (h0:0≤n) (h1:n≤64) {a b:TFacts} (ha:FOk n a) (hb:FOk n b):FOk n (eitherF a b):=⟨eitherF_rng a b,eitherF_ok h0 h1 ha.rng hb.rng ha.ok hb.ok⟩
theorem FOk.thn {n:Int} (h0:0≤n) (h1:n≤64) {a b:TFacts} (ha:FOk n a) (hb:FOk n b):FOk n (thenF a b):=⟨thenF_rng hb.rng,thenF_ok h0 h1 hb.rng ha.ok hb.ok ha.rng⟩
end Go.RM.Tryz
namespace Go.RM.Tryz
open Go.RM
set_option linter.unusedVariables false
set_option linter.unusedSimpArgs false
set_option linter.unusedSectionVars false
structure WOk (s:TSpace) (w:TWeight):Prop where
 is:isW s w=true
 rng:Rng w
theorem WOk.one {s:TSpace} (h5:s.Tag ≠ 5) {w:TWeight} (h:WOk s w):isW1 s w=true∧Rng1 w:=⟨by rw [← isW_ne h5]; exact h.is,h.rng.1⟩
theorem WOk.pair {s:TSpace} (h5:s.Tag=5) {w:TWeight} (h:WOk s w):∃ x y,w=⟨false,0,⟨0,[]⟩,[],[x,y]⟩∧(isW1 (rdl s.Parts 0) x=true∧Rng1 x)∧(isW1 (rdl s.Parts 1) y=true∧Rng1 y):=by
 obtain ⟨x,y,rfl,hx,hy⟩:=isW_pair h5 h.is
 exact ⟨x,y,rfl,⟨hx,h.rng.2 x (.head _)⟩,⟨hy,h.rng.2 y (.tail _ (.head _))⟩⟩
theorem one_of {s:TSpace} (hs:spaceOk s=true) (h5:s.Tag ≠ 5):spaceOk1 s=true:=by rw [← spaceOk_ne h5]; exact hs
theorem WOk.either {s:TSpace} (hs:spaceOk s=true) {a b:TWeight} (ha:WOk s a) (hb:WOk s b):WOk s (eitherW s a b):=by
 have:=eitherW_ok hs ha.is hb.is ha.rng hb.rng; exact ⟨this.1,this.2⟩
theorem WOk.thn {s:TSpace} (hs:spaceOk s=true) {a b:TWeight} (ha:WOk s a) (hb:WOk s b):WOk s (thenW s a b):=by
 have:=thenW_ok hs ha.is hb.is ha.rng hb.rng; exact ⟨this.1,this.2⟩
theorem WOk.zero {s:TSpace} (hs:spaceOk s=true):WOk s (zeroS s):=by have:=zeroS_ok hs; exact ⟨this.1,this.2⟩
theorem WOk.one_ {s:TSpace} (hs:spaceOk s=true):WOk s (oneW s):=by have:=oneW_ok hs; exact ⟨this.1,this.2⟩
def combW (s:TSpace) (l:List TWeight):TWeight:=foldG (fun _ x w=>eitherW s w x) l 0 (zeroS s)
end Go.RM.Tryz
namespace Go.RM.Tryz
open Go.RM
set_option linter.unusedVariables false
set_option linter.unusedSimpArgs false
theorem rdl0 {α:Type} [Inhabited α] (x:α) (l:List α):rdl (x :: l) 0=x:=rfl
theorem rdl1 {α:Type} [Inhabited α] (x y:α) (l:List α):rdl (x :: y :: l) 1=y:=rfl
theorem cost_checks.two {d a b:Int} (hd:0≤d) (h1:d≤1048576) (ha:0≤a∧a≤d) (hb:0≤b∧b≤d):cost_checks.f d [a,b] 0:=by
 unfold cost_checks.f
 rw [if_neg (by simp; omega)]
 have e0:cost_checks.b1 d [a,b] 0 (.next 1):=by
  unfold cost_checks.b1
  rw [if_pos (by simp)]
  refine ⟨⟨by decide,by simp⟩,?_⟩
  rw [rdl0,if_neg (by simp; omega)]
  rfl
 have e1:cost_checks.b1 d [a,b] 1 (.next 2):=by
  unfold cost_checks.b1
  rw [if_pos (by simp)]
  refine ⟨⟨by decide,by simp⟩,?_⟩
  rw [rdl1,if_neg (by simp; omega)]
  rfl
 have e2:cost_checks.b1 d [a,b] 2 (.exit ()):=by
  unfold cost_checks.b1
  rw [if_neg (by simp)]
 exact ⟨_,.next e0 (.next e1 (.exit e2)),rfl⟩
theorem cost_Least.two {d a b:Int} (hd:0≤d) (h1:d≤1048576) (ha:0≤a∧a≤d) (hb:0≤b∧b≤d):cost_Least.f d [a,b] (if b < a then b else a,0):=by
 refine ⟨_,cost_checks.two hd h1 ha hb,?_⟩
 rw [if_pos rfl]
 have e0:cost_Least.b1 [a,b] (-1,0) (.next (a,1)):=by
  unfold cost_Least.b1
  simp only
  rw [if_pos (by simp)]
  refine ⟨⟨by decide,by simp⟩,?_⟩
  rw [if_pos (by simp),rdl0]
  rfl
 have e1:cost_Least.b1 [a,b] (a,1) (.next (if b < a then b else a,2)):=by
  unfold cost_Least.b1
  simp only
  rw [if_pos (by simp)]
  refine ⟨⟨by decide,by simp⟩,?_⟩
  rw [rdl1]
  by_cases h:b < a
  ·rw [if_pos (by simp; omega),if_pos h]; rfl
  ·rw [if_neg (by simp; omega),if_neg h]; rfl
 have e2:∀ c,cost_Least.b1 [a,b] (c,2) (.exit c):=by
  intro c
  unfold cost_Least.b1
  simp
 exact ⟨_,.next e0 (.next e1 (.exit (e2 _))),rfl⟩
theorem cost_Sum.two {d a b:Int} (hd:0≤d) (h1:d≤1048576) (ha:0≤a∧a≤d) (hb:0≤b∧b≤d):cost_Sum.f d [a,b] (if d < a + b then d else a + b,0):=by
 refine ⟨_,cost_checks.two hd h1 ha hb,?_⟩
 rw [if_pos rfl]
 have e0:cost_Sum.b1 d [a,b] (0,0) (.next (a,1)):=by
  unfold cost_Sum.b1
  simp only
  rw [if_pos (by simp)]
  refine ⟨⟨by decide,by simp⟩,?_⟩
  rw [rdl0,if_neg (by omega),wrap64 (by omega) (by omega),Int.zero_add,if_neg (by omega)]
  rfl
 have e1:cost_Sum.b1 d [a,b] (a,1) (.next (if d < a + b then d else a + b,2)):=by
  unfold cost_Sum.b1
  simp only
  rw [if_pos (by simp)]
  refine ⟨⟨by decide,by simp⟩,?_⟩
  rw [rdl1,if_neg (by omega),wrap64 (i:=a + b) (by omega) (by omega)]
  rfl
 have e2:∀ c,cost_Sum.b1 d [a,b] (c,2) (.exit c):=by
  intro c
  unfold cost_Sum.b1
  simp
 exact ⟨_,.next e0 (.next e1 (.exit (e2 _))),rfl⟩
theorem facts_checked.two {n:Int} (h0:0≤n) (h1:n≤64) {a b:TFacts} (ha:FOk n a) (hb:FOk n b):facts_checked.f n [a,b] 0:=by
 have la:=ha.len h0 h1
 have lb:=hb.len h0 h1
 have ca:=facts_Check.ok h0 h1 (F:=a) (by omega)
 have cb:=facts_Check.ok h0 h1 (F:=b) (by omega)
 rw [if_pos ha.ok] at ca
 rw [if_pos hb.ok] at cb
 have e0:facts_checked.b1 n [a,b] 0 (.next 1):=by
  unfold facts_checked.b1
  rw [if_pos (by simp)]
  refine ⟨⟨by decide,by simp⟩,0,by rw [rdl0]; exact ca,?_⟩
  rw [if_pos rfl]
  rfl
 have e1:facts_checked.b1 n [a,b] 1 (.next 2):=by
  unfold facts_checked.b1
  rw [if_pos (by simp)]
  refine ⟨⟨by decide,by simp⟩,0,by rw [rdl1]; exact cb,?_⟩
  rw [if_pos rfl]
  rfl
 have e2:facts_checked.b1 n [a,b] 2 (.exit ()):=by
  unfold facts_checked.b1
  rw [if_neg (by simp)]
 exact ⟨_,.next e0 (.next e1 (.exit e2)),rfl⟩
theorem facts_Combine.ok {n:Int} (h0:0≤n) (h1:n≤64) {a b:TFacts} (ha:FOk n a) (hb:FOk n b):facts_Combine.f n a b (eitherF a b,0):=by
 have la:=ha.len h0 h1
 have lb:=hb.len h0 h1
 refine ⟨_,facts_checked.two h0 h1 ha hb,?_⟩
 rw [if_pos rfl]
 refine ⟨⟨h0,by unfold Fits; omega⟩,?_⟩
 have hr:((List.replicate (Int.toNat n) (0:Int)).length:Int)=n:=by simp; omega
 have key:=fillLoop (n:=n) (b:=facts_Combine.b1 n a b) (0:Int) (fun i _=>bitOp .or .u64 (rdl a.Rows i) (rdl b.Rows i)) h0 (fun i l i0 i1 hl=>by
  unfold facts_Combine.b1
  rw [hr]
  simp only [i1,if_true]
  rw [wrap64 (by omega) (by omega)]
  exact ⟨⟨i0,by omega⟩,⟨i0,by omega⟩,⟨i0,by omega⟩,rfl⟩) (fun l hl=>by
  unfold facts_Combine.b1
  rw [hr]
  simp)
 refine ⟨_,key,?_⟩
 have e:(upto n.toNat).map (fun j=>bitOp .or .u64 (rdl a.Rows j) (rdl b.Rows j))=List.zipWith (bitOp .or .u64) a.Rows b.Rows:=by
  have:=upto_zip (bitOp .or .u64) (l:=a.Rows) (m:=b.Rows) (by omega)
  rw [show a.Rows.length=n.toNat by omega] at this
  exact this
 show ∃ t,facts_canon.f (TFacts.mk (bitOp .or .u64 a.Gen b.Gen) _) t∧_
 rw [e]
 exact ⟨_,facts_canon.ok (by simp; omega),rfl⟩
theorem makes_fold {x:Int} (rows:List Int) (hr:∀ r ∈ rows,InU r) (k:Nat):∀ (l:List Nat) (o:Int),InU o→(∀ i ∈ l,i < rows.length) →
  InU (l.foldl (fun o i=>bitOp .or .u64 o (rows.getD i 0)) o)∧(hasI (l.foldl (fun o i=>bitOp .or .u64 o (rows.getD i 0)) o) k=true ↔ hasI o k=true∨∃ i ∈ l,∃ r,rows[i]?=some r∧hasI r k=true)
 | [],o,ho,_=>⟨ho,by simp⟩
 | i :: l,o,ho,hl=>by
  have hi:=hl i List.mem_cons_self
  have hg:rows.getD i 0=rows[i]:=by rw [List.getD_eq_getElem?_getD,List.getElem?_eq_getElem hi]; rfl
  have hu:InU (rows.getD i 0):=by rw [hg]; exact hr _ (List.getElem_mem hi)
  obtain ⟨h1,h2⟩:=makes_fold (x:=x) rows hr k l (bitOp .or .u64 o (rows.getD i 0)) (or_InU _ _) (fun j hj=>hl j (List.mem_cons_of_mem _ hj))
  refine ⟨h1,?_⟩
  rw [List.foldl_cons,h2,has_or ho hu,Bool.or_eq_true]
  constructor
  ·rintro ((h | h) | ⟨j,hj,r,hjr,hk⟩)
   ·exact .inl h
   ·exact .inr ⟨i,List.mem_cons_self,rows[i],List.getElem?_eq_getElem hi,by rw [← hg]; exact h⟩
   ·exact .inr ⟨j,List.mem_cons_of_mem _ hj,r,hjr,hk⟩
  ·rintro (h | ⟨j,hj,r,hjr,hk⟩)
   ·exact .inl (.inl h)
   ·rcases List.mem_cons.1 hj with rfl | hj
    ·rw [List.getElem?_eq_getElem hi] at hjr
     cases hjr
     exact .inl (.inr (by rw [hg]; exact hk))
    ·exact .inr ⟨j,hj,r,hjr,hk⟩
theorem makes_made {F:TFacts} (h:RngF F) {x:Int} (hx:InU x) (hin:∀ i:Nat,hasI x i=true→i < F.Rows.length):makesI F.Gen F.Rows x=madeM F x:=by
 have hl:∀ i ∈ (List.range 64).filter (fun i=>x.toNat.testBit i),i < F.Rows.length:=fun i hi=>hin i (List.mem_filter.1 hi).2
 have mk:=fun k=>makes_fold (x:=x) F.Rows h.2 k _ F.Gen h.1 hl
 refine made_ext (mk 0).1 (madeM_InU h x) fun k=>?_
 rw [made_iff h]
 refine (mk k).2.trans ?_
 unfold MadeP
 constructor
 ·rintro (q | ⟨i,hi,r,hir,hk⟩)
  ·exact .inl q
  ·exact .inr ⟨i,r,hir,(List.mem_filter.1 hi).2,hk⟩
 ·rintro (q | ⟨i,r,hir,hxi,hk⟩)
  ·exact .inl q
  ·exact .inr ⟨i,List.mem_filter.2 ⟨List.mem_range.2 (hi64 hx hxi),hxi⟩,r,hir,hk⟩
theorem facts_makes.ok {F:TFacts} (h:RngF F) {x:Int} (hx:InU x) (hin:∀ i:Nat,hasI x i=true→i < F.Rows.length):facts_makes.f F x (madeM F x) :=
 ⟨⟨h.1,hx,h.2,fun i _ hb=>hin i hb⟩,(makes_made h hx hin).symm⟩
theorem facts_Extend.ok {n:Int} (h0:0≤n) (h1:n≤64) {a b:TFacts} (ha:FOk n a) (hb:FOk n b):facts_Extend.f n a b (thenF a b,0):=by
 have la:=ha.len h0 h1
 have lb:=hb.len h0 h1
 obtain ⟨_,ga,oa,_⟩:=(factsOk_iff ha.rng h0 h1).1 ha.ok
 refine ⟨_,facts_checked.two h0 h1 ha hb,?_⟩
 rw [if_pos rfl]
 refine ⟨_,facts_makes.ok hb.rng ha.rng.1 (fun i hi=>by have:=ga i hi; omega),⟨h0,by unfold Fits; omega⟩,?_⟩
 have hr:((List.replicate (Int.toNat n) (0:Int)).length:Int)=n:=by simp; omega
 have key:=fillLoop (n:=n) (b:=facts_Extend.b1 n a b) (0:Int) (fun i _=>madeM b (rdl a.Rows i)) h0 (fun i l i0 i1 hl=>by
  unfold facts_Extend.b1
  rw [hr]
  simp only [i1,if_true]
  rw [wrap64 (by omega) (by omega)]
  have hm:=rdl_mem (l:=a.Rows) i0 (by omega)
  exact ⟨⟨i0,by omega⟩,_,facts_makes.ok hb.rng (ha.rng.2 _ hm) (fun j hj=>by have:=oa _ hm j hj; omega),⟨i0,by omega⟩,rfl⟩) (fun l hl=>by
  unfold facts_Extend.b1
  rw [hr]
  simp)
 refine ⟨_,key,?_⟩
 have e:(upto n.toNat).map (fun j=>madeM b (rdl a.Rows j))=a.Rows.map (madeM b):=by
  have:=map_upto a.Rows (madeM b)
  rw [show a.Rows.length=n.toNat by omega] at this
  exact this
 show ∃ t,facts_canon.f (TFacts.mk (madeM b a.Gen) _) t∧_
 rw [e]
 exact ⟨_,facts_canon.ok (by simp; omega),rfl⟩
structure CsOk (n:Int) (l:List TCell):Prop where
 rng:∀ c ∈ l,RngC c
 ok:cellsOk n l=true
theorem CsOk.len {n:Int} (h0:0≤n) (h1:n≤64) {l:List TCell} (h:CsOk n l):(l.length:Int)=n∧∀ c ∈ l,CellP n c:=(cellsOk_iff h0 h1 h.rng).1 h.ok
theorem cells_two.ok {n:Int} (h0:0≤n) (h1:n≤64) {a b:List TCell} (ha:CsOk n a) (hb:CsOk n b):cells_two.f n a b 0:=by
 have la:=(ha.len h0 h1).1
 have lb:=(hb.len h0 h1).1
 have ca:=cells_Check.ok h0 h1 (l:=a) (by unfold maxLen; omega)
 have cb:=cells_Check.ok h0 h1 (l:=b) (by unfold maxLen; omega)
 rw [if_pos ha.ok] at ca
 rw [if_pos hb.ok] at cb
 exact ⟨_,ca,by rw [if_pos rfl]; exact ⟨_,cb,rfl⟩⟩
theorem cells_both.ok {n:Int} {a b:TCell} (ha:CellP n a) (hb:CellP n b):cells_both.f a b (joinC a b):=by
 unfold cells_both.f joinC manyC
 rcases ha.2 with ⟨ka,va⟩ | ka | ⟨ka,va,fa⟩ <;> rcases hb.2 with ⟨kb,vb⟩ | kb | ⟨kb,vb,fb⟩ <;> simp [ka,kb]
theorem cells_Both.ok {n:Int} (h0:0≤n) (h1:n≤64) {a b:List TCell} (ha:CsOk n a) (hb:CsOk n b):cells_Both.f n a b (List.zipWith joinC a b,0):=by
 obtain ⟨la,pa⟩:=ha.len h0 h1
 obtain ⟨lb,pb⟩:=hb.len h0 h1
 refine ⟨_,cells_two.ok h0 h1 ha hb,?_⟩
 rw [if_pos rfl]
 have key:=(countLoop (n:=n) (b:=cells_Both.b1 n a b) (fun i l=>(l,i)) id (fun i acc=>.go (acc ++ [joinC (rdl a i) (rdl b i)])) (fun i l=>(l.length:Int)=i) (fun i l i0 i1 hi=>by
  refine ⟨?_,by simp; omega⟩
  unfold cells_Both.b1
  simp only [i1,if_true]
  exact ⟨⟨i0,by omega⟩,⟨i0,by omega⟩,_,cells_both.ok (pa _ (rdl_mem i0 (by omega))) (pb _ (rdl_mem i0 (by omega))),by unfold Fits; omega,by rw [wrap64 (by omega) (by omega)]⟩) (fun l hl=>by unfold cells_Both.b1; simp) [] h0 rfl).1
 rw [countF_app] at key
 refine ⟨_,key,?_⟩
 have e:[] ++ (upto n.toNat).map (fun j=>joinC (rdl a (0 + j)) (rdl b (0 + j)))=List.zipWith joinC a b:=by
  have:=upto_zip joinC (l:=a) (m:=b) (by omega)
  rw [show a.length=n.toNat by omega] at this
  simpa using this
 show (List.zipWith joinC a b,(0:Int))=(id ([] ++ _),0)
 rw [id,e]
theorem shr_natU {m x:Int} (hm:InU m) (h0:0≤x) (h1:x≤64):shrI .u64 m x=((m.toNat / 2 ^ x.toNat:Nat):Int):=by
 unfold shrI
 have hb:IntKind.bits .u64=64:=rfl
 rw [hb,Nat.min_eq_left (by omega)]
 have hp:(0:Int)≤2 ^ x.toNat:=Int.le_of_lt (Int.pow_pos (by decide))
 rw [Int.fdiv_eq_ediv_of_nonneg _ hp]
 have h3:((2 ^ x.toNat:Nat):Int)=(2:Int) ^ x.toNat:=by simp
 have h4:(m.toNat:Int)=m:=Int.toNat_of_nonneg hm.1
 rw [← h3]
 conv=>lhs; rw [← h4]
 rw [Int.natCast_ediv]
theorem bit_shr {m x:Int} (hm:InU m) (h0:0≤x) (h1:x < 64):(bitOp .and .u64 (shrI .u64 m x) 1=1) ↔ hasI m x.toNat=true:=by
 rw [shr_natU hm h0 (by omega),bitOp_and]
 have hle:m.toNat / 2 ^ x.toNat≤m.toNat:=Nat.div_le_self _ _
 have hI:InU ((m.toNat / 2 ^ x.toNat:Nat):Int):=⟨Int.natCast_nonneg _,by have:=hm.1; have:=hm.2; omega⟩
 rw [BitVec.toNat_and,ofInt_toNat hI]
 have h1':(BitVec.ofInt 64 1).toNat=1:=by decide
 rw [h1',Int.toNat_natCast,Nat.and_one_is_mod]
 unfold hasI
 rw [Nat.testBit_eq_decide_div_mod_eq]
 simp only [decide_eq_true_eq]
 omega
theorem cells_Then.inner {n:Int} (h0:0≤n) (h1:n≤64) {a b:List TCell} (ha:CsOk n a) (hb:CsOk n b) {i:Int} (i0:0≤i) (i1:i < b.length) :
  Loop (cells_Then.b2 n a b i) (0,(rdl b i).Kind,(rdl b i).K,0) (.go ((behindM a (rdl b i)).From,(behindM a (rdl b i)).Kind,(behindM a (rdl b i)).K)):=by
 obtain ⟨la,pa⟩:=ha.len h0 h1
 obtain ⟨lb,pb⟩:=hb.len h0 h1
 have hm:=rdl_mem i0 i1
 have hc:=pb _ hm
 have uc:=hb.rng _ hm
 have hla:a.length≤maxLen:=by unfold maxLen; omega
 have key:=foldGLoop (l:=a) (b:=cells_Then.b2 n a b i) (fun j (s:TCell)=>(s.From,s.Kind,s.K,j)) (fun s=>(s.From,s.Kind,s.K)) (behG (rdl b i)) (fun j s=>CellP n s∧RngC s) (fun j s j0 j1 hs=>by
  have hj:j < n:=by omega
  have ma:=rdl_mem j0 j1
  have hstep:CellP n (behG (rdl b i) j (rdl a j) s)∧RngC (behG (rdl b i) j (rdl a j) s):=by
   unfold behG
   split
   ·exact ⟨joinC_ok hs.2.1 (ha.rng _ ma).1 hs.1 (pa _ ma),joinC_InU _ _,joinC_K hs.2.2 (ha.rng _ ma).2⟩
   ·exact hs
  refine ⟨?_,hstep⟩
  unfold cells_Then.b2 cells_Then.j1
  simp only [hj,if_true]
  refine ⟨j0,?_⟩
  by_cases hb':hasI (rdl b i).From j.toNat=true
  ·rw [if_pos ((bit_shr uc.1 j0 (by omega)).2 hb')]
   refine ⟨⟨j0,j1⟩,_,cells_both.ok hs.1 (pa _ ma),?_⟩
   rw [wrap_len hla j0 j1]
   unfold behG
   rw [if_pos hb']
  ·rw [if_neg (fun q=>hb' ((bit_shr uc.1 j0 (by omega)).1 q)),wrap_len hla j0 j1]
   unfold behG
   rw [if_neg hb']) (fun s _=>by unfold cells_Then.b2; simp [la]) ⟨0,(rdl b i).Kind,(rdl b i).K⟩ ⟨start_ok hc,zero_InU,uc.2⟩
 exact key.1
theorem cells_Then.ok {n:Int} (h0:0≤n) (h1:n≤64) {a b:List TCell} (ha:CsOk n a) (hb:CsOk n b):cells_Then.f n a b (thenC a b,0):=by
 obtain ⟨la,pa⟩:=ha.len h0 h1
 obtain ⟨lb,pb⟩:=hb.len h0 h1
 refine ⟨_,cells_two.ok h0 h1 ha hb,?_⟩
 rw [if_pos rfl]
 have hlb:b.length≤maxLen:=by unfold maxLen; omega
 have key:=(foldLoop (l:=b) (b:=cells_Then.b1 n a b) (fun i (l:List TCell)=>(l,i)) id (fun _ x acc=>.go (acc ++ [behindM a x])) (fun i l=>(l.length:Int)=i) (fun i l i0 i1 hi=>by
  refine ⟨?_,by simp; omega⟩
  unfold cells_Then.b1
  simp only [i1,if_true]
  refine ⟨⟨i0,i1⟩,_,cells_Then.inner h0 h1 ha hb i0 i1,?_⟩
  exact ⟨by unfold Fits; omega,by rw [wrap_len hlb i0 i1]⟩) (fun l hl=>by unfold cells_Then.b1; simp) [] rfl).1
 rw [foldF_map] at key
 exact ⟨_,key,rfl⟩
end Go.RM.Tryz
namespace Go.RM.Tryz
open Go.RM
set_option linter.unusedVariables false
set_option linter.unusedSimpArgs false
def Shal:Nat→TWeight→Prop
 | 0,w=>w.Sized∧w.Parts=[]
 | n + 1,w=>w.Sized∧∀ p ∈ w.Parts,Shal n p
theorem Shal.sized:∀ {n:Nat} {w:TWeight},Shal n w→w.Sized
 | 0,_,h=>h.1
 | _ + 1,_,h=>h.1
end Go.RM.Tryz
namespace Go.RM.Tryz
open Go.RM
set_option linter.unusedVariables false
set_option linter.unusedSimpArgs false
theorem isW1_at {s:TSpace} {w:TWeight} (hs:spaceOk1 s=true) (h:isW1 s w=true) (hz:¬ w.Zero=true) :
  (s.Tag=1∧w=noneW)∨(s.Tag=2∧w=⟨false,w.Cost,⟨0,[]⟩,[],[]⟩∧0≤w.Cost∧w.Cost≤s.Dim)∨(s.Tag=3∧w=⟨false,0,w.Facts,[],[]⟩∧factsOk s.Dim w.Facts=true)∨(s.Tag=4∧w=⟨false,0,⟨0,[]⟩,w.Cells,[]⟩∧cellsOk s.Dim w.Cells=true):=by
 rcases isW1_cases hs h with k | k
 ·rw [k] at hz; exact absurd rfl hz
 ·exact k
theorem weight_either.step1 {self:TSpace→TWeight→TWeight→TWeight→Prop} {s:TSpace} {a b:TWeight} (hs:spaceOk1 s=true) (ha:isW1 s a=true) (hb:isW1 s b=true) (ra:Rng1 a) (rb:Rng1 b):weight_either.step self s a b (eitherW1 s a b):=by
 unfold weight_either.step eitherW1
 by_cases az:a.Zero=true
 ·rw [if_pos az,if_pos az]
 ·rw [if_neg az,if_neg az]
  by_cases bz:b.Zero=true
  ·rw [if_pos bz,if_pos bz]
  ·rw [if_neg bz,if_neg bz]
   have va:=isW1_at hs ha az
   have vb:=isW1_at hs hb bz
   rcases space1_cases hs with q | q | q | q
   ·simp only [q.1,Int.reduceEq,if_false]; rfl
   ·simp only [q.1,Int.reduceEq,if_true,if_false]
    rcases va with h | h | h | h
    ·omega
    ·rcases vb with k | k | k | k
     ·omega
     ·exact ⟨_,cost_Least.two q.2.1 q.2.2 h.2.2 k.2.2,rfl⟩
     ·omega
     ·omega
    ·omega
    ·omega
   ·simp only [q.1,Int.reduceEq,if_true,if_false]
    rcases va with h | h | h | h
    ·omega
    ·omega
    ·rcases vb with k | k | k | k
     ·omega
     ·omega
     ·exact ⟨_,facts_Combine.ok q.2.1 q.2.2 ⟨ra.facts,h.2.2⟩ ⟨rb.facts,k.2.2⟩,rfl⟩
     ·omega
    ·omega
   ·simp only [q.1,Int.reduceEq,if_true,if_false]
    rcases va with h | h | h | h
    ·omega
    ·omega
    ·omega
    ·rcases vb with k | k | k | k
     ·omega
     ·omega
     ·omega
     ·exact ⟨_,cells_Both.ok q.2.1 q.2.2 ⟨ra.cells,h.2.2⟩ ⟨rb.cells,k.2.2⟩,rfl⟩
theorem weight_either.ok {s:TSpace} {a b:TWeight} (hs:spaceOk s=true) (ha:isW s a=true) (hb:isW s b=true) (ra:Rng a) (rb:Rng b):weight_either.f s a b (eitherW s a b):=by
 refine ⟨2,?_⟩
 by_cases h5:s.Tag=5
 ·obtain ⟨p0,p1,p2⟩:=space_p0 hs h5
  obtain ⟨x,y,rfl,hx,hy⟩:=isW_pair h5 ha
  obtain ⟨z,w,rfl,hz,hw⟩:=isW_pair h5 hb
  show weight_either.step (weight_either.fN 1) s _ _ _
  unfold weight_either.step eitherW
  simp only [h5,Int.reduceEq,if_true,if_false,Bool.false_eq_true]
  refine ⟨⟨by decide,by omega⟩,⟨by decide,by simp⟩,⟨by decide,by simp⟩,_,weight_either.step1 (self:=weight_either.fN 0) p0 hx hz (ra.2 x (.head _)) (rb.2 z (.head _)),⟨by decide,by omega⟩,⟨by decide,by simp⟩,⟨by decide,by simp⟩,_,weight_either.step1 (self:=weight_either.fN 0) p1 hy hw (ra.2 y (.tail _ (.head _))) (rb.2 w (.tail _ (.head _))),rfl⟩
 ·have h1:spaceOk1 s=true:=by rw [← spaceOk_ne h5]; exact hs
  rw [isW_ne h5] at ha hb
  rw [eitherW_ne h5]
  exact weight_either.step1 h1 ha hb ra.1 rb.1
theorem weight_then.step1 {self:TSpace→TWeight→TWeight→TWeight→Prop} {s:TSpace} {a b:TWeight} (hs:spaceOk1 s=true) (ha:isW1 s a=true) (hb:isW1 s b=true) (ra:Rng1 a) (rb:Rng1 b):weight_then.step self s a b (thenW1 s a b):=by
 unfold weight_then.step thenW1
 by_cases z:(a.Zero || b.Zero)=true
 ·rw [if_pos z,if_pos z]; rfl
 ·rw [if_neg z,if_neg z]
  rw [Bool.or_eq_true,not_or] at z
  have va:=isW1_at hs ha z.1
  have vb:=isW1_at hs hb z.2
  rcases space1_cases hs with q | q | q | q
  ·simp only [q.1,Int.reduceEq,if_false]; rfl
  ·simp only [q.1,Int.reduceEq,if_true,if_false]
   rcases va with h | h | h | h
   ·omega
   ·rcases vb with k | k | k | k
    ·omega
    ·exact ⟨_,cost_Sum.two q.2.1 q.2.2 h.2.2 k.2.2,rfl⟩
    ·omega
    ·omega
   ·omega
   ·omega
  ·simp only [q.1,Int.reduceEq,if_true,if_false]
   rcases va with h | h | h | h
   ·omega
   ·omega
   ·rcases vb with k | k | k | k
    ·omega
    ·omega
    ·exact ⟨_,facts_Extend.ok q.2.1 q.2.2 ⟨ra.facts,h.2.2⟩ ⟨rb.facts,k.2.2⟩,rfl⟩
    ·omega
   ·omega
  ·simp only [q.1,Int.reduceEq,if_true,if_false]
   rcases va with h | h | h | h
   ·omega
   ·omega
   ·omega
   ·rcases vb with k | k | k | k
    ·omega
    ·omega
    ·omega
    ·exact ⟨_,cells_Then.ok q.2.1 q.2.2 ⟨ra.cells,h.2.2⟩ ⟨rb.cells,k.2.2⟩,rfl⟩
theorem weight_then.ok {s:TSpace} {a b:TWeight} (hs:spaceOk s=true) (ha:isW s a=true) (hb:isW s b=true) (ra:Rng a) (rb:Rng b):weight_then.f s a b (thenW s a b):=by
 refine ⟨2,?_⟩
 by_cases h5:s.Tag=5
 ·obtain ⟨p0,p1,p2⟩:=space_p0 hs h5
  obtain ⟨x,y,rfl,hx,hy⟩:=isW_pair h5 ha
  obtain ⟨z,w,rfl,hz,hw⟩:=isW_pair h5 hb
  show weight_then.step (weight_then.fN 1) s _ _ _
  unfold weight_then.step thenW
  simp only [h5,Int.reduceEq,if_true,if_false,Bool.false_eq_true,Bool.or_self]
  refine ⟨⟨by decide,by omega⟩,⟨by decide,by simp⟩,⟨by decide,by simp⟩,_,weight_then.step1 (self:=weight_then.fN 0) p0 hx hz (ra.2 x (.head _)) (rb.2 z (.head _)),⟨by decide,by omega⟩,⟨by decide,by simp⟩,⟨by decide,by simp⟩,_,weight_then.step1 (self:=weight_then.fN 0) p1 hy hw (ra.2 y (.tail _ (.head _))) (rb.2 w (.tail _ (.head _))),rfl⟩
 ·have h1:spaceOk1 s=true:=by rw [← spaceOk_ne h5]; exact hs
  rw [isW_ne h5] at ha hb
  rw [thenW_ne h5]
  exact weight_then.step1 h1 ha hb ra.1 rb.1
theorem isW1_sized {s:TSpace} {w:TWeight} (hs:spaceOk1 s=true) (h:isW1 s w=true) (r:Rng1 w):w.Sized∧w.Parts=[]∧w.Facts.Rows.length≤64∧w.Cells.length≤64:=by
 have hp:=isW1_parts h
 have key:w.Facts.Rows.length≤64∧w.Cells.length≤64:=by
  rcases isW1_cases hs h with k | k | k | k | k
  ·rw [k]; simp [zeroW]
  ·rw [k.2]; simp [noneW]
  ·rw [k.2.1]; simp
  ·rcases space1_cases hs with q | q | q | q
   ·omega
   ·omega
   ·have:=((factsOk_iff r.facts q.2.1 q.2.2).1 k.2.2).1
    have hl:w.Cells=[]:=by rw [k.2.1]
    rw [hl]; exact ⟨by omega,by simp⟩
   ·omega
  ·rcases space1_cases hs with q | q | q | q
   ·omega
   ·omega
   ·omega
   ·have:=((cellsOk_iff q.2.1 q.2.2 r.cells).1 k.2.2).1
    have hl:w.Facts=⟨0,[]⟩:=by rw [k.2.1]
    rw [hl]; exact ⟨by simp,by omega⟩
 exact ⟨⟨by omega,by omega,by rw [hp]; simp⟩,hp,key⟩
theorem WOk.flat {s:TSpace} (hs:spaceOk s=true) {w:TWeight} (h:WOk s w):Flat w:=by
 by_cases h5:s.Tag=5
 ·obtain ⟨p0,p1,_⟩:=space_p0 hs h5
  obtain ⟨x,y,rfl,hx,hy⟩:=h.pair h5
  have ax:=isW1_sized p0 hx.1 hx.2
  have ay:=isW1_sized p1 hy.1 hy.2
  refine ⟨⟨⟨by simp,by simp,by simp⟩,fun p hp=>?_⟩,fun p hp=>?_⟩
  ·simp at hp; rcases hp with rfl | rfl
   ·exact ax.1
   ·exact ay.1
  ·simp at hp; rcases hp with rfl | rfl
   ·exact ax.2.1
   ·exact ay.2.1
 ·have:=isW1_sized (one_of hs h5) (h.one h5).1 (h.one h5).2
  exact ⟨⟨this.1,by rw [this.2.1]; simp⟩,by rw [this.2.1]; simp⟩
theorem slices_Clone_uint64.ok {a:List Int} (h:a.length≤17592186044416):slices_Clone_uint64.f a a:=by
 unfold slices_Clone_uint64.f
 by_cases h0:a.length=0
 ·rw [if_pos h0]
  have:=List.eq_nil_of_length_eq_zero h0
  subst this
  intro z k
  split
  ·rfl
  ·exact ⟨by unfold Fits; omega,rfl⟩
 ·rw [if_neg h0]; exact ⟨by unfold Fits; omega,rfl⟩
theorem slices_Clone_Cell.ok {a:List TCell} (h:a.length≤1048576):slices_Clone_Cell.f a a:=by
 unfold slices_Clone_Cell.f
 by_cases h0:a.length=0
 ·rw [if_pos h0]
  have:=List.eq_nil_of_length_eq_zero h0
  subst this
  intro z k
  split
  ·rfl
  ·exact ⟨by unfold Fits; omega,rfl⟩
 ·rw [if_neg h0]; exact ⟨by unfold Fits; omega,rfl⟩
theorem slices_Clone_Weight_o0.ok {a:List TWeight} (h:a.length≤1048576):slices_Clone_Weight_o0.f a a:=by
 unfold slices_Clone_Weight_o0.f
 by_cases h0:a.length=0
 ·rw [if_pos h0]
  have:=List.eq_nil_of_length_eq_zero h0
  subst this
  intro z k
  split
  ·rfl
  ·exact ⟨by unfold Fits; omega,rfl⟩
 ·rw [if_neg h0]; exact ⟨by unfold Fits; omega,rfl⟩
theorem setl_self {α:Type} [Inhabited α] {l:List α} {i:Int} (h0:0≤i) (h1:i < l.length):setl l i (rdl l i)=l:=by
 unfold setl
 have:=rdl_get h0 h1
 apply List.ext_getElem?
 intro k
 rw [List.getElem?_set]
 by_cases hk:i.toNat=k
 ·subst hk
  rw [if_pos rfl,if_pos (by omega),this]
 ·rw [if_neg hk]
theorem weight_copied.step1 {self:TWeight→TWeight→Prop} {w:TWeight} (h1:w.Facts.Rows.length≤64) (h2:w.Cells.length≤64) (h3:w.Parts.length≤2) (h:∀ p ∈ w.Parts,self p p):weight_copied.step self w w:=by
 refine ⟨_,slices_Clone_uint64.ok (by omega),_,slices_Clone_Cell.ok (by omega),_,slices_Clone_Weight_o0.ok (by omega),?_⟩
 have hm:w.Parts.length≤maxLen:=by unfold maxLen; omega
 have key:=(foldGLoop (l:=w.Parts) (b:=weight_copied.b1 self w.Parts) (fun i (l:List TWeight)=>(l,i)) id (fun _ _ l=>l) (fun _ l=>l=w.Parts) (fun i l i0 i1 hl=>by
  subst hl
  refine ⟨?_,rfl⟩
  unfold weight_copied.b1
  simp only [i1,if_true]
  exact ⟨⟨i0,i1⟩,_,h _ (rdl_mem i0 i1),⟨i0,i1⟩,by rw [setl_self i0 i1,wrap_len hm i0 i1]⟩) (fun l hl=>by unfold weight_copied.b1; simp) w.Parts rfl)
 have hinv:=foldG_inv (g:=fun (_:Int) (_:TWeight) (l:List TWeight)=>l) (fun _ l=>l=w.Parts) w.Parts 0 w.Parts (fun _ _ _ _ h=>h) rfl
 refine ⟨_,key.1,?_⟩
 show w=TWeight.mk w.Zero w.Cost ⟨w.Facts.Gen,w.Facts.Rows⟩ w.Cells (id _)
 rw [id,hinv]
 cases w; rfl
theorem weight_copied.ok {s:TSpace} (hs:spaceOk s=true) {w:TWeight} (h:WOk s w):weight_copied.f w w:=by
 refine ⟨2,?_⟩
 by_cases h5:s.Tag=5
 ·obtain ⟨p0,p1,_⟩:=space_p0 hs h5
  obtain ⟨x,y,rfl,hx,hy⟩:=h.pair h5
  have ax:=isW1_sized p0 hx.1 hx.2
  have ay:=isW1_sized p1 hy.1 hy.2
  refine weight_copied.step1 (self:=weight_copied.fN 1) (by simp) (by simp) (by simp) (fun p hp=>?_)
  simp at hp
  rcases hp with rfl | rfl
  ·exact weight_copied.step1 (self:=weight_copied.fN 0) ax.2.2.1 ax.2.2.2 (by rw [ax.2.1]; simp) (by rw [ax.2.1]; simp)
  ·exact weight_copied.step1 (self:=weight_copied.fN 0) ay.2.2.1 ay.2.2.2 (by rw [ay.2.1]; simp) (by rw [ay.2.1]; simp)
 ·have:=isW1_sized (one_of hs h5) (h.one h5).1 (h.one h5).2
  exact weight_copied.step1 (self:=weight_copied.fN 1) this.2.2.1 this.2.2.2 (by rw [this.2.1]; simp) (by rw [this.2.1]; simp)
structure LOk (l:List TWeight):Prop where
 len:l.length≤maxLen
 sized:∀ w ∈ l,w.Sized2
 rng:∀ w ∈ l,Rng w
theorem combW_ok {s:TSpace} (hs:spaceOk s=true) {l:List TWeight} (hl:LOk l) (ha:l.all (isW s)=true):WOk s (combW s l):=by
 have:=foldG_inv (g:=fun (_:Int) x w=>eitherW s w x) (fun _ w=>WOk s w) l 0 (zeroS s) (fun _ w x hx hw=>hw.either hs ⟨List.all_eq_true.1 ha x hx,hl.rng x hx⟩) (WOk.zero hs)
 exact this
theorem extW_ok {s:TSpace} (hs:spaceOk s=true) {l:List TWeight} (hl:LOk l) (ha:l.all (isW s)=true):WOk s (extW s l):=by
 have:=foldG_inv (g:=fun (_:Int) x w=>thenW s w x) (fun _ w=>WOk s w) l 0 (oneW s) (fun _ w x hx hw=>hw.thn hs ⟨List.all_eq_true.1 ha x hx,hl.rng x hx⟩) (WOk.one_ hs)
 exact this
def combR (s:TSpace) (l:List TWeight):TWeight × Int:=if allC s l=0 then (combW s l,0) else (noneW,allC s l)
def extR (s:TSpace) (l:List TWeight):TWeight × Int:=if allC s l=0 then (extW s l,0) else (noneW,allC s l)
theorem allC_zero {s:TSpace} {l:List TWeight} (h:allC s l=0):spaceOk s=true∧l.all (isW s)=true:=by
 unfold allC at h
 split at h
 ·rename_i h1
  split at h
  ·rename_i h2; exact ⟨h1,h2⟩
  ·cases h
 ·cases h
theorem weight_Combine.ok {s:TSpace} {l:List TWeight} (hp:s.Parts.length≤maxLen) (hl:LOk l):weight_Combine.f s l (combR s l):=by
 refine ⟨_,weight_checked.ok hp hl.len hl.sized,?_⟩
 unfold combR
 by_cases h:allC s l=0
 ·rw [if_pos h,if_pos h]
  obtain ⟨hs,ha⟩:=allC_zero h
  refine ⟨_,weight_zero.ok hs,?_⟩
  have key:=(foldGLoop (l:=l) (b:=weight_Combine.b1 s l) (fun i (w:TWeight)=>(w.Zero,w.Cost,w.Facts.Gen,w.Facts.Rows,w.Cells,w.Parts,i)) (fun w=>(w.Zero,w.Cost,w.Facts.Gen,w.Facts.Rows,w.Cells,w.Parts)) (fun _ x w=>eitherW s w x) (fun _ w=>WOk s w) (fun i w h0 h1 hi=>by
   have hm:=rdl_mem h0 h1
   have hx:WOk s (rdl l i):=⟨List.all_eq_true.1 ha _ hm,hl.rng _ hm⟩
   refine ⟨?_,hi.either hs hx⟩
   unfold weight_Combine.b1
   simp only [h1,if_true,TWeight.eta]
   exact ⟨⟨h0,h1⟩,_,weight_either.ok hs hi.is hx.is hi.rng hx.rng,by rw [wrap_len hl.len h0 h1]⟩) (fun w _=>by unfold weight_Combine.b1; simp) (zeroS s) (WOk.zero hs)).1
  refine ⟨_,key,?_⟩
  simp only [Fin.on,TWeight.eta]
  exact ⟨_,weight_copied.ok hs (combW_ok hs hl ha),rfl⟩
 ·rw [if_neg h,if_neg h]; rfl
theorem weight_Extend.ok {s:TSpace} {l:List TWeight} (hp:s.Parts.length≤maxLen) (hl:LOk l):weight_Extend.f s l (extR s l):=by
 refine ⟨_,weight_checked.ok hp hl.len hl.sized,?_⟩
 unfold extR
 by_cases h:allC s l=0
 ·rw [if_pos h,if_pos h]
  obtain ⟨hs,ha⟩:=allC_zero h
  refine ⟨_,weight_one.ok hs,?_⟩
  have key:=(foldGLoop (l:=l) (b:=weight_Extend.b1 s l) (fun i (w:TWeight)=>(w.Zero,w.Cost,w.Facts.Gen,w.Facts.Rows,w.Cells,w.Parts,i)) (fun w=>(w.Zero,w.Cost,w.Facts.Gen,w.Facts.Rows,w.Cells,w.Parts)) (fun _ x w=>thenW s w x) (fun _ w=>WOk s w) (fun i w h0 h1 hi=>by
   have hm:=rdl_mem h0 h1
   have hx:WOk s (rdl l i):=⟨List.all_eq_true.1 ha _ hm,hl.rng _ hm⟩
   refine ⟨?_,hi.thn hs hx⟩
   unfold weight_Extend.b1
   simp only [h1,if_true,TWeight.eta]
   exact ⟨⟨h0,h1⟩,_,weight_then.ok hs hi.is hx.is hi.rng hx.rng,by rw [wrap_len hl.len h0 h1]⟩) (fun w _=>by unfold weight_Extend.b1; simp) (oneW s) (WOk.one_ hs)).1
  refine ⟨_,key,?_⟩
  simp only [Fin.on,TWeight.eta]
  exact ⟨_,weight_copied.ok hs (extW_ok hs hl ha),rfl⟩
 ·rw [if_neg h,if_neg h]; rfl
theorem LOk.two {l:List TWeight} (hl:LOk l) {a b:TWeight} (ha:a ∈ l) (hb:b ∈ l):LOk [a,b]:=⟨by simp [maxLen],fun w hw=>by
 simp at hw; rcases hw with rfl | rfl
 ·exact hl.sized _ ha
 ·exact hl.sized _ hb,fun w hw=>by
 simp at hw; rcases hw with rfl | rfl
 ·exact hl.rng _ ha
 ·exact hl.rng _ hb⟩
theorem combW_two {s:TSpace} (hs:spaceOk s=true) {a b:TWeight} (ha:WOk s a):combW s [a,b]=eitherW s a b:=by
 show eitherW s (eitherW s (zeroS s) a) b=_
 rw [either_zero hs ha.is]
end Go.RM.Tryz
namespace Go.RM.Tryz
open Go.RM
set_option linter.unusedVariables false
set_option linter.unusedSimpArgs false
def ShalS:Nat→TSpace→Prop
 | 0,s=>s.Parts=[]
 | n + 1,s=>s.Parts.length≤3∧∀ p ∈ s.Parts,ShalS n p
theorem ShalS.len:∀ {n:Nat} {s:TSpace},ShalS n s→s.Parts.length≤3
 | 0,_,h=>by rw [show _=[] from h]; simp
 | _ + 1,_,h=>h.1
theorem allC_one {s:TSpace} {a b:TWeight} (hs:spaceOk s=true) (ha:WOk s a) (hb:WOk s b):allC s [a,b]=0:=by
 unfold allC
 rw [if_pos hs,if_pos (by simp [ha.is,hb.is])]
theorem WOk.two {s:TSpace} (hs:spaceOk s=true) {a b:TWeight} (ha:WOk s a) (hb:WOk s b):LOk [a,b]:=⟨by simp [maxLen],fun w hw=>by
 simp at hw; rcases hw with rfl | rfl
 ·exact (ha.flat hs).1
 ·exact (hb.flat hs).1,fun w hw=>by
 simp at hw; rcases hw with rfl | rfl
 ·exact ha.rng
 ·exact hb.rng⟩
end Go.RM.Tryz
namespace Go.RM.Tryz
open Go.RM
set_option linter.unusedVariables false
set_option linter.unusedSimpArgs false
theorem slices_Concat_int.ok {a b:List Int} (h:a.length + b.length≤1000000):slices_Concat_int.f [a,b] (a ++ b):=by
 have e1:∀ n:Int,0≤n→n≤1000000→IntKind.i64.wrap n=n:=fun n h0 h1=>wrap64 (by omega) (by omega)
 have s1:slices_Concat_int.b1 [a,b] (0,0) (.next ((a.length:Int),1)):=by
  unfold slices_Concat_int.b1
  simp only [List.length_cons,List.length_nil]
  rw [if_pos (by decide),rdl0,e1 _ (by omega) (by omega),e1 _ (by omega) (by omega)]
  exact ⟨⟨by decide,by decide⟩,by rw [if_neg (by omega)]; simp⟩
 have s2:slices_Concat_int.b1 [a,b] ((a.length:Int),1) (.next ((a.length:Int) + b.length,2)):=by
  unfold slices_Concat_int.b1
  simp only [List.length_cons,List.length_nil]
  rw [if_pos (by decide),rdl1,e1 _ (by omega) (by omega),e1 _ (by omega) (by omega)]
  exact ⟨⟨by decide,by decide⟩,by rw [if_neg (by omega)]; rfl⟩
 have s3:slices_Concat_int.b1 [a,b] ((a.length:Int) + b.length,2) (.exit ((a.length:Int) + b.length)):=by
  unfold slices_Concat_int.b1
  simp
 have t1:slices_Concat_int.b2 [a,b] ([],0) (.next (a,1)):=by
  unfold slices_Concat_int.b2
  simp only [List.length_cons,List.length_nil]
  rw [if_pos (by decide),rdl0,e1 _ (by omega) (by omega)]
  exact ⟨⟨by decide,by decide⟩,by unfold Fits; omega,by simp⟩
 have t2:slices_Concat_int.b2 [a,b] (a,1) (.next (a ++ b,2)):=by
  unfold slices_Concat_int.b2
  simp only [List.length_cons,List.length_nil]
  rw [if_pos (by decide),rdl1,e1 _ (by omega) (by omega)]
  exact ⟨⟨by decide,by decide⟩,by unfold Fits; omega,rfl⟩
 have t3:slices_Concat_int.b2 [a,b] (a ++ b,2) (.exit (a ++ b)):=by
  unfold slices_Concat_int.b2
  simp
 exact ⟨_,.next s1 (.next s2 (.exit s3)),[],⟨⟨by omega,by unfold Fits; omega⟩,rfl⟩,_,.next t1 (.next t2 (.exit t3)),rfl⟩
def appB (r:TRule) (c:TConf):Bool:=(c.P == r.P) && (decide ((c.W.length:Int) > 0) && (rdl c.W 0 == r.G))
def byC (r:TRule) (c:TConf):TConf:=⟨r.Q,r.W ++ c.W.drop 1⟩
def nextC (r:TRule) (c:TConf):TConf × Bool × Int:=if appB r c=true then (if ((byC r c).W.length:Int) > 4096 then (c,true,2) else (byC r c,true,0)) else (c,false,0)
theorem cutl_end {l:List Int} {k:Nat} (h:k≤l.length):cutl l (k:Int) (l.length:Int)=l.drop k:=by
 unfold cutl
 simp only [Int.toNat_natCast]
 rw [List.take_of_length_le (by simp)]
theorem steps_next.ok {r:TRule} {c:TConf} (hr:r.W.length≤4096) (hc:c.W.length≤4096):steps_next.f r c (nextC r c):=by
 unfold steps_next.f nextC
 refine ⟨fun _ h0=>⟨by decide,by omega⟩,?_⟩
 have e:((!(c.P == r.P)) || (((c.W.length:Int) == 0) || ((rdl c.W 0) != r.G)))=!appB r c:=by
  unfold appB
  by_cases h0:c.W.length=0
  ·simp [h0]
  ·have h1:((c.W.length:Int) == 0)=false:=beq_eq_false_iff_ne.2 (by omega)
   have h2:decide ((c.W.length:Int) > 0)=true:=decide_eq_true (by omega)
   rw [h1,h2]
   simp only [Bool.false_or,Bool.true_and,Bool.not_and,bne]
 rw [e]
 cases ha:appB r c with
 | false=>simp
 | true =>
  simp only [Bool.not_true,Bool.false_eq_true,if_false,if_true]
  have h0:0 < c.W.length:=by
   unfold appB at ha; simp only [Bool.and_eq_true,decide_eq_true_eq] at ha; omega
  have hl:((byC r c).W.length:Int)=(c.W.length:Int) - 1 + r.W.length:=by simp [byC]; omega
  rw [wrap64 (i:=(c.W.length:Int) - 1) (by omega) (by omega),wrap64 (by omega) (by omega),hl]
  by_cases h4:(c.W.length:Int) - 1 + r.W.length > 4096
  ·rw [if_pos h4,if_pos h4]
  ·rw [if_neg h4,if_neg h4]
   refine ⟨⟨by decide,by omega,by omega⟩,_,slices_Concat_int.ok (by simp [cutl]; omega),?_⟩
   have:=cutl_end (l:=c.W) (k:=1) (by omega)
   simp only [Int.natCast_one] at this
   rw [this]; rfl
theorem r12_Applies.ok (r:TRule) (c:TConf):r12_Applies.f r c (appB r c):=by
 refine ⟨fun _ h0=>⟨by decide,by omega⟩,?_⟩
 unfold appB
 rw [show (r.P == c.P)=(c.P == r.P) from Bool.beq_comm]
theorem r12_behind.ok {q:Int} {a b:List Int} (h:a.length + b.length≤1000000):r12_behind.f q a b ⟨q,a ++ b⟩:=⟨by unfold Fits; omega,by unfold Fits; omega,rfl⟩
theorem r12_By.ok {r:TRule} {c:TConf} (hr:r.W.length≤4096) (hc:c.W.length≤4096) (h0:0 < c.W.length):r12_By.f r c (byC r c):=by
 refine ⟨⟨by decide,by omega,by omega⟩,_,r12_behind.ok (by simp [cutl]; omega),?_⟩
 have:=cutl_end (l:=c.W) (k:=1) (by omega)
 simp only [Int.natCast_one] at this
 rw [this]; rfl
theorem slices_Equal_int.ok12 {a b:List Int} (ha:a.length≤maxLen):slices_Equal_int.f a b (decide (a=b)):=by
 unfold slices_Equal_int.f
 by_cases h:(a.length:Int)=b.length
 ·rw [if_pos h]
  exact ⟨_,eqRound ha (by omega) rfl,eqOn⟩
 ·rw [if_neg h]
  have:a ≠ b:=fun e=>h (by rw [e])
  simp [this]
def allStep (by_:TRule→TConf→TConf × Bool × Int) (c:TConf) (i:Int) (r:TRule) (s:List Int × List TConf):Fin (List Int × List TConf) (List Int × List TConf × Int) :=
 if (by_ r c).2.2=0 then .go (if (by_ r c).2.1=true then (s.1 ++ [i],s.2 ++ [(by_ r c).1]) else s) else .ret ([],[],(by_ r c).2.2)
def allM (by_:TRule→TConf→TConf × Bool × Int) (p:TPds) (c:TConf):List Int × List TConf × Int :=
 if confC p c=0 then (match foldF (allStep by_ c) p.Rules 0 ([],[]) with
  | .go s=>(s.1,s.2,0)
  | .ret r=>r) else ([],[],confC p c)
theorem rule_len {p:TPds} {c:TConf} (hc:confC p c=0) {r:TRule} (hr:r ∈ p.Rules):r.W.length≤4096:=by
 have:=(pC_ok (confC_ok hc).1).2.2.2.2.2.2.1 r hr
 unfold ruleOk at this
 simp only [Bool.and_eq_true,decide_eq_true_eq] at this
 omega
theorem steps_all.ok {p:TPds} (h:p.Sized) {c:TConf} (hl:c.W.length≤maxLen) {by_:TRule→TConf→TConf × Bool × Int} {q:TRule→TConf→TConf × Bool × Int→Prop} (hq:∀ r:TRule,r.W.length≤4096→c.W.length≤4096→q r c (by_ r c)):steps_all.f p c q (allM by_ p c):=by
 refine ⟨_,steps_Check.ok h hl,?_⟩
 unfold allM
 by_cases hc:confC p c=0
 ·rw [if_pos hc,if_pos hc]
  obtain ⟨hp,_,_,hw,_⟩:=confC_ok hc
  have hR:p.Rules.length≤16384:=(pC_ok hp).2.1
  have key:=(foldLoop (l:=p.Rules) (b:=steps_all.b1 p c q) (fun i (s:List Int × List TConf)=>(s.1,s.2,i)) id (allStep by_ c) (fun i s=>(s.1.length:Int)≤i∧(s.2.length:Int)≤i) (fun i s i0 i1 hi=>by
   have hm:=rdl_mem i0 i1
   have hb:=hq _ (rule_len hc hm) hw
   unfold allStep
   by_cases h0:(by_ (rdl p.Rules i) c).2.2=0
   ·rw [if_pos h0]
    refine ⟨?_,?_⟩
    ·unfold steps_all.b1
     simp only [i1,if_true]
     refine ⟨⟨i0,i1⟩,_,hb,?_⟩
     rw [if_pos h0]
     split
     ·exact ⟨by unfold Fits; omega,by unfold Fits; omega,by unfold steps_all.j1; rw [wrap_len h.rl i0 i1]⟩
     ·unfold steps_all.j1; rw [wrap_len h.rl i0 i1]
    ·split
     ·simp; omega
     ·omega
   ·rw [if_neg h0]
    show steps_all.b1 p c q (s.1,s.2,i) (.ret ([],[],(by_ (rdl p.Rules i) c).2.2))
    unfold steps_all.b1
    simp only [i1,if_true]
    exact ⟨⟨i0,i1⟩,_,hb,by rw [if_neg h0]⟩) (fun s hs=>by unfold steps_all.b1; simp) ([],[]) ⟨Int.le_refl 0,Int.le_refl 0⟩).1
  refine ⟨_,key,?_⟩
  cases foldF (allStep by_ c) p.Rules 0 ([],[]) <;> simp [Fin.map,Fin.on]
 ·rw [if_neg hc,if_neg hc]
theorem steps_Next.ok {p:TPds} (h:p.Sized) {c:TConf} (hl:c.W.length≤maxLen):steps_Next.f p c (allM nextC p c):=⟨_,steps_all.ok h hl fun r h1 h2=>steps_next.ok h1 h2,rfl⟩
theorem r12_Next.ok {p:TPds} (h:p.Sized) {c:TConf} (hl:c.W.length≤maxLen):r12_Next.f p c (allM nextC p c):=by
 refine ⟨_,r12_Check.ok h hl,?_⟩
 unfold allM
 by_cases hc:confC p c=0
 ·rw [if_pos hc,if_pos hc]
  obtain ⟨hp,_,_,hw,_⟩:=confC_ok hc
  have hR:p.Rules.length≤16384:=(pC_ok hp).2.1
  have key:=(foldLoop (l:=p.Rules) (b:=r12_Next.b1 p c) (fun i (s:List Int × List TConf)=>(s.1,s.2,i)) id (allStep nextC c) (fun i s=>(s.1.length:Int)≤i∧(s.2.length:Int)≤i) (fun i s i0 i1 hi=>by
   have hm:=rdl_mem i0 i1
   have hr:=rule_len hc hm
   unfold allStep nextC
   cases ha:appB (rdl p.Rules i) c with
   | false =>
    simp only [Bool.false_eq_true,if_false,if_true]
    refine ⟨?_,by omega⟩
    unfold r12_Next.b1 r12_Next.j1
    simp only [i1,if_true]
    exact ⟨⟨i0,i1⟩,_,r12_Applies.ok _ _,by rw [ha,if_neg (by simp),wrap_len h.rl i0 i1]⟩
   | true =>
    have h0:0 < c.W.length:=by
     unfold appB at ha; simp only [Bool.and_eq_true,decide_eq_true_eq] at ha; omega
    simp only [if_true]
    by_cases h4:((byC (rdl p.Rules i) c).W.length:Int) > 4096
    ·rw [if_pos h4]
     simp only [Int.reduceEq,if_false]
     show r12_Next.b1 p c (s.1,s.2,i) (.ret ([],[],2))
     unfold r12_Next.b1 r12_Next.j1
     simp only [i1,if_true]
     exact ⟨⟨i0,i1⟩,_,r12_Applies.ok _ _,by rw [ha,if_pos rfl]; exact ⟨⟨i0,i1⟩,_,r12_By.ok hr hw h0,_,rfl,by rw [if_pos (decide_eq_true h4)]; trivial⟩⟩
    ·rw [if_neg h4]
     simp only [if_true]
     refine ⟨?_,by simp; omega⟩
     unfold r12_Next.b1 r12_Next.j1
     simp only [i1,if_true]
     exact ⟨⟨i0,i1⟩,_,r12_Applies.ok _ _,by rw [ha,if_pos rfl]; exact ⟨⟨i0,i1⟩,_,r12_By.ok hr hw h0,_,rfl,by rw [if_neg (by simpa using h4)]; exact ⟨by unfold Fits; omega,by unfold Fits; omega,by rw [wrap_len h.rl i0 i1]⟩⟩⟩) (fun s hs=>by unfold r12_Next.b1; simp) ([],[]) ⟨Int.le_refl 0,Int.le_refl 0⟩).1
  refine ⟨_,key,?_⟩
  cases foldF (allStep nextC c) p.Rules 0 ([],[]) <;> simp [Fin.map,Fin.on]
 ·rw [if_neg hc,if_neg hc]
end Go.RM.Tryz
namespace Go.RM.Tryz
open Go.RM
set_option linter.unusedVariables false
set_option linter.unusedSimpArgs false
theorem foldF_ret {α σ ρ:Type} {step:Int→α→σ→Fin σ ρ} (Q:ρ→Prop):∀ (l:List α) (i:Int) (s:σ) (r:ρ),(∀ i x s r,x ∈ l→step i x s=.ret r→Q r)→foldF step l i s=.ret r→Q r
 | [],i,s,r,_,h=>by cases h
 | x :: l,i,s,r,hq,h=>by
  unfold foldF at h
  cases hs:step i x s with
  | go s'=>rw [hs] at h; exact foldF_ret Q l (i + 1) s' r (fun i y s r hy=>hq i y s r (.tail _ hy)) h
  | ret r'=>rw [hs] at h; cases h; exact hq i x s r (.head _) hs
theorem foldF_app {α σ ρ:Type} {step:Int→α→σ→Fin σ ρ}:∀ (l m:List α) (i:Int) (s:σ),foldF step (l ++ m) i s=match foldF step l i s with
  | .go s'=>foldF step m (i + l.length) s'
  | .ret r=>.ret r
 | [],m,i,s=>by simp [foldF]
 | x :: l,m,i,s=>by
  rw [List.cons_append]
  unfold foldF
  cases hs:step i x s with
  | go s' =>
   simp only
   rw [foldF_app l m (i + 1) s']
   have e:i + ((x :: l).length:Int)=i + 1 + l.length:=by simp; omega
   rw [e]
   cases foldF step l (i + 1) s' <;> simp
   cases m <;> rfl
  | ret r=>rfl
abbrev RunR:=TConf × TWeight × Int × Int
def noneR (i e:Int):RunR:=(⟨0,[]⟩,noneW,i,e)
def runStep (p:TPds) (i:Int) (n:Int) (s:TConf × TWeight):Fin (TConf × TWeight) RunR :=
 if n < 0∨n ≥ p.Rules.length then .ret (noneR i 5)
 else if appB (rdl p.Rules n) s.1=true then
  (if ((byC (rdl p.Rules n) s.1).W.length:Int) > 4096 then .ret (noneR i 2) else .go (byC (rdl p.Rules n) s.1,thenW p.Space s.2 (rdl p.Rules n).F))
 else .ret (noneR i 121)
def runM (p:TPds) (c:TConf) (l:List Int):RunR :=
 if confC p c=0 then (match foldF (runStep p) l 0 (c,oneW p.Space) with
  | .go s=>(s.1,s.2,0,0)
  | .ret r=>r) else noneR 0 (confC p c)
structure RunI (p:TPds) (s:TConf × TWeight):Prop where
 conf:confC p s.1=0
 w:WOk p.Space s.2
theorem confC_of {p:TPds} {c:TConf} (hp:pC p=0) (h0:0≤c.P) (h1:c.P < p.States) (h2:c.W.length≤4096) (h3:∀ g ∈ c.W,0≤g∧g < p.Symbols):confC p c=0:=by
 unfold confC
 rw [if_pos hp,if_pos]
 unfold confB inB
 simp only [Bool.and_eq_true,decide_eq_true_eq,List.all_eq_true]
 exact ⟨by omega,by omega,fun g hg=>by have:=h3 g hg; omega⟩
theorem rule_ok {p:TPds} (hp:pC p=0) {r:TRule} (hr:r ∈ p.Rules):(0≤r.P∧r.P < p.States)∧(0≤r.Q∧r.Q < p.States)∧(0≤r.G∧r.G < p.Symbols)∧r.W.length≤4096∧∀ g ∈ r.W,0≤g∧g < p.Symbols:=by
 have:=(pC_ok hp).2.2.2.2.2.2.1 r hr
 unfold ruleOk inB at this
 simp only [Bool.and_eq_true,decide_eq_true_eq,List.all_eq_true] at this
 exact ⟨by omega,by omega,by omega,by omega,fun g hg=>by have:=this.2.2.2.2 g hg; omega⟩
theorem byC_ok {p:TPds} {c:TConf} (hc:confC p c=0) {r:TRule} (hr:r ∈ p.Rules) (hl:¬ ((byC r c).W.length:Int) > 4096):confC p (byC r c)=0:=by
 obtain ⟨hp,_,_,_,hg⟩:=confC_ok hc
 obtain ⟨_,q,_,_,w⟩:=rule_ok hp hr
 refine confC_of hp q.1 q.2 (by omega) fun g h=>?_
 simp only [byC,List.mem_append] at h
 rcases h with h | h
 ·exact w g h
 ·exact hg g (List.mem_of_mem_drop h)
theorem run_step {p:TPds} (hR:∀ r ∈ p.Rules,Rng r.F) {i n:Int} {s:TConf × TWeight} (hs:RunI p s) {s':TConf × TWeight} (h:runStep p i n s=.go s'):RunI p s'∧0≤n∧n < p.Rules.length:=by
 unfold runStep at h
 split at h
 ·cases h
 ·rename_i hn
  have h0:0≤n∧n < (p.Rules.length:Int):=by omega
  have hm:=rdl_mem h0.1 h0.2
  split at h
  ·split at h
   ·cases h
   ·rename_i hl
    cases h
    obtain ⟨hp,_⟩:=confC_ok hs.conf
    exact ⟨⟨byC_ok hs.conf hm hl,.thn (pC_ok hp).1 hs.w ⟨(pC_ok hp).2.2.2.2.2.2.2 _ hm,hR _ hm⟩⟩,h0⟩
  ·cases h
def runMk (i:Int) (s:TConf × TWeight):Bool × Int × Int × List Int × List TCell × List TWeight × Int × List Int × Int:=(s.2.Zero,s.2.Cost,s.2.Facts.Gen,s.2.Facts.Rows,s.2.Cells,s.2.Parts,s.1.P,s.1.W,i)
def runEx (s:TConf × TWeight):Bool × Int × Int × List Int × List TCell × List TWeight × Int × List Int:=(s.2.Zero,s.2.Cost,s.2.Facts.Gen,s.2.Facts.Rows,s.2.Cells,s.2.Parts,s.1.P,s.1.W)
theorem ext_pair {s:TSpace} (hs:spaceOk s=true) {a b:TWeight} (ha:WOk s a) (hb:WOk s b):extR s [a,b]=(thenW s a b,0):=by
 unfold extR
 have:allC s [a,b]=0:=by unfold allC; simp [hs,ha.is,hb.is]
 rw [if_pos this]
 show (thenW s (thenW s (oneW s) a) b,(0:Int))=_
 rw [(then_one hs ha.is ha.rng).2]
theorem steps_Run.ok {p:TPds} (h:p.Sized) (hR:∀ r ∈ p.Rules,Rng r.F) {c:TConf} (hl:c.W.length≤maxLen) {l:List Int} (hll:l.length≤maxLen):steps_Run.f p c l (runM p c l):=by
 refine ⟨_,steps_Check.ok h hl,?_⟩
 unfold runM
 by_cases hc:confC p c=0
 ·rw [if_pos hc,if_pos hc]
  obtain ⟨hp,_,_,hw,_⟩:=confC_ok hc
  have hs:=(pC_ok hp).1
  have hone:=weight_One.ok (s:=p.Space) h.parts
  unfold oneR at hone
  rw [if_pos hs] at hone
  refine ⟨_,hone,_,slices_Clone_int.ok (by omega),?_⟩
  have key:=(foldLoop (l:=l) (b:=steps_Run.b1 p l) runMk runEx (runStep p) (fun i s=>RunI p s) (fun i s i0 i1 hi=>by
   obtain ⟨d,w⟩:=s
   obtain ⟨_,_,_,hdw,_⟩:=confC_ok hi.conf
   have hb:∀ z,(if ((decide ((rdl l i) < 0)) || (decide ((rdl l i) ≥ (p.Rules.length:Int))))=true then (z=.ret ((TConf.mk 0 []),(TWeight.mk false 0 (TFacts.mk 0 []) [] []),i,5)) else (((InR (rdl l i) p.Rules.length))∧∃ t70_6:TConf × Bool × Int,(steps_next.f (rdl p.Rules (rdl l i)) (TConf.mk d.P d.W) t70_6)∧if t70_6.2.1=true then (steps_Run.j1 p l w.Zero w.Cost w.Facts.Gen w.Facts.Rows w.Cells w.Parts i t70_6 t70_6.2.2 z) else (steps_Run.j1 p l w.Zero w.Cost w.Facts.Gen w.Facts.Rows w.Cells w.Parts i t70_6 121 z)))→steps_Run.b1 p l (runMk i (d,w)) z:=fun z hz=>by
    unfold runMk steps_Run.b1
    simp only [i1,if_true]
    exact ⟨⟨i0,i1⟩,hz⟩
   cases hst:runStep p i (rdl l i) (d,w) with
   | ret r =>
    show steps_Run.b1 p l (runMk i (d,w)) (.ret r)
    refine hb _ ?_
    unfold runStep at hst
    split at hst
    ·rename_i hn
     cases hst
     rw [if_pos (by simp; omega)]; rfl
    ·rename_i hn
     have h0:0≤rdl l i∧rdl l i < (p.Rules.length:Int):=by omega
     have hm:=rdl_mem h0.1 h0.2
     rw [if_neg (by simp; omega)]
     refine ⟨h0,_,steps_next.ok (rule_len hi.conf hm) hdw,?_⟩
     split at hst
     ·rename_i ha
      split at hst
      ·rename_i h4
       cases hst
       unfold nextC
       rw [if_pos ha,if_pos h4,if_pos rfl]
       unfold steps_Run.j1
       rw [if_neg (show ¬ (2:Int)=0 by decide)]; rfl
      ·cases hst
     ·rename_i ha
      cases hst
      unfold nextC
      rw [if_neg ha,if_neg (by simp)]
      unfold steps_Run.j1
      rw [if_neg (by decide)]; rfl
   | go s' =>
    have hs':=run_step hR hi hst
    refine ⟨?_,hs'.1⟩
    refine hb _ ?_
    have hm:=rdl_mem hs'.2.1 hs'.2.2
    rw [if_neg (by simp; omega)]
    refine ⟨hs'.2,_,steps_next.ok (rule_len hi.conf hm) hdw,?_⟩
    unfold runStep at hst
    rw [if_neg (by omega)] at hst
    split at hst
    ·rename_i ha
     split at hst
     ·cases hst
     ·rename_i h4
      cases hst
      unfold nextC
      rw [if_pos ha,if_neg h4,if_pos rfl]
      unfold steps_Run.j1
      rw [if_pos rfl]
      have hF:WOk p.Space (rdl p.Rules (rdl l i)).F:=⟨(pC_ok hp).2.2.2.2.2.2.2 _ hm,hR _ hm⟩
      have hx:=weight_Extend.ok (s:=p.Space) h.parts (WOk.two hs (show WOk p.Space w from hi.w) hF)
      rw [ext_pair hs (show WOk p.Space w from hi.w) hF] at hx
      refine ⟨hs'.2,(thenW p.Space w (rdl p.Rules (rdl l i)).F,0),?_,?_⟩
      ·rw [TWeight.eta]; exact hx
      ·unfold runMk
       rw [wrap_len hll i0 i1]
    ·cases hst) (fun s _=>by unfold runMk runEx steps_Run.b1; simp) (c,oneW p.Space) ⟨hc,.one_ hs⟩).1
  refine ⟨_,key,?_⟩
  cases foldF (runStep p) l 0 (c,oneW p.Space) with
  | go s=>simp [Fin.map,Fin.on,runEx,TWeight.eta]
  | ret r=>simp [Fin.map,Fin.on]
 ·rw [if_neg hc,if_neg hc]; rfl
theorem TPds.Fit.rngs {p:TPds} (h:p.Fit):∀ r ∈ p.Rules,Rng r.F:=fun r hr=>(h.2.2.2.2.2 r hr).2.2.2.2.rng
structure AllI (c:TConf) (i:Int) (s:List Int × List TConf):Prop where
 len:(s.1.length:Int)≤i
 two:s.1.length=s.2.length
 confs:∀ d ∈ s.2,d.W.length≤4096
theorem all_ret {by_:TRule→TConf→TConf × Bool × Int} {c:TConf} {l:List TRule} {i:Int} {s:List Int × List TConf} {r:List Int × List TConf × Int} (h:foldF (allStep by_ c) l i s=.ret r):∃ q:TRule,q ∈ l∧r=([],[],(by_ q c).2.2)∧(by_ q c).2.2 ≠ 0:=by
 refine foldF_ret (fun r=>∃ q:TRule,q ∈ l∧r=([],[],(by_ q c).2.2)∧(by_ q c).2.2 ≠ 0) l i s r (fun i x s r hx h=>?_) h
 unfold allStep at h
 split at h
 ·cases h
 ·rename_i h0; cases h; exact ⟨x,hx,rfl,h0⟩
end Go.RM.Tryz
namespace Go.RM.Tryz
open Go.RM
set_option linter.unusedVariables false
set_option linter.unusedSimpArgs false
theorem all_mem {by_:TRule→TConf→TConf × Bool × Int} {c:TConf}:∀ (l:List TRule) (i:Int) (s s':List Int × List TConf),foldF (allStep by_ c) l i s=.go s'→s.1.length=s.2.length →
  (∀ k:Nat,(∃ d,s.1[k]?=some d)→s'.1[k]?=s.1[k]?∧s'.2[k]?=s.2[k]?) ∧
  (∀ (j:Nat) (r:TRule),l[j]?=some r→(by_ r c).2.2=0∧((by_ r c).2.1=true→∃ k:Nat,s'.1[k]?=some (i + j)∧s'.2[k]?=some (by_ r c).1)) ∧
  (∀ (k:Nat) (n:Int),s'.1[k]?=some n→s.1[k]?=some n∨∃ (j:Nat) (r:TRule),l[j]?=some r∧n=i + j∧(by_ r c).2.1=true∧s'.2[k]?=some (by_ r c).1)
 | [],i,s,s',h,h2=>by cases h; exact ⟨fun _ _=>⟨rfl,rfl⟩,fun j r h=>by simp at h,fun k n h=>.inl h⟩
 | q :: l,i,s,s',h,h2=>by
  unfold foldF at h
  unfold allStep at h
  by_cases h0:(by_ q c).2.2=0
  ·simp only [h0,if_true] at h
   by_cases h1:(by_ q c).2.1=true
   ·simp only [h1,if_true] at h
    obtain ⟨g1,g2,g3⟩:=all_mem l (i + 1) (s.1 ++ [i],s.2 ++ [(by_ q c).1]) s' h (by simp [h2])
    have hat:=g1 s.1.length ⟨i,by simp⟩
    simp only [List.getElem?_append_right (Nat.le_refl _),Nat.sub_self,List.getElem?_cons_zero] at hat
    rw [h2,List.getElem?_append_right (Nat.le_refl _),Nat.sub_self] at hat
    refine ⟨fun k hk=>?_,fun j r hj=>?_,fun k n hk=>?_⟩
    ·obtain ⟨d,hd⟩:=hk
     have hlt:=(List.getElem?_eq_some_iff.1 hd).1
     have:=g1 k ⟨d,by rw [List.getElem?_append_left hlt]; exact hd⟩
     simp only at this
     rw [List.getElem?_append_left hlt,List.getElem?_append_left (by omega)] at this
     exact this
    ·cases j with
     | zero =>
      simp at hj; subst hj
      exact ⟨h0,fun _=>⟨s.2.length,by rw [hat.1]; simp,by rw [hat.2]; rfl⟩⟩
     | succ j =>
      obtain ⟨a1,a2⟩:=g2 j r (by simpa using hj)
      refine ⟨a1,fun ht=>?_⟩
      obtain ⟨k,k1,k2⟩:=a2 ht
      exact ⟨k,by rw [k1]; congr 1; simp; omega,k2⟩
    ·rcases g3 k n hk with hk2 | ⟨j,r,a1,a2,a3,a4⟩
     ·by_cases hlt:k < s.1.length
      ·left
       simp only at hk2
       rw [List.getElem?_append_left hlt] at hk2; exact hk2
      ·have hk3:k=s.1.length:=by
        have:=(List.getElem?_eq_some_iff.1 hk2).1
        simp at this; omega
       subst hk3
       simp only at hk2
       rw [List.getElem?_append_right (Nat.le_refl _),Nat.sub_self] at hk2
       simp at hk2
       right
       exact ⟨0,q,rfl,by simp; omega,h1,by rw [h2]; rw [hat.2]; rfl⟩
     ·right
      exact ⟨j + 1,r,by simpa using a1,by rw [a2]; simp; omega,a3,a4⟩
   ·simp only [Bool.not_eq_true] at h1
    simp only [h1,Bool.false_eq_true,if_false] at h
    obtain ⟨g1,g2,g3⟩:=all_mem l (i + 1) s s' h h2
    refine ⟨g1,fun j r hj=>?_,fun k n hk=>?_⟩
    ·cases j with
     | zero=>simp at hj; subst hj; exact ⟨h0,fun ht=>by rw [h1] at ht; cases ht⟩
     | succ j =>
      obtain ⟨a1,a2⟩:=g2 j r (by simpa using hj)
      refine ⟨a1,fun ht=>?_⟩
      obtain ⟨k,k1,k2⟩:=a2 ht
      exact ⟨k,by rw [k1]; congr 1; simp; omega,k2⟩
    ·rcases g3 k n hk with hk2 | ⟨j,r,a1,a2,a3,a4⟩
     ·exact .inl hk2
     ·exact .inr ⟨j + 1,r,by simpa using a1,by rw [a2]; simp; omega,a3,a4⟩
  ·simp only [h0,if_false] at h; cases h
theorem allM_code {by_:TRule→TConf→TConf × Bool × Int} {p:TPds} {c:TConf} (hc:confC p c=0) (h2:∀ r:TRule,(by_ r c).2.2 ≠ 0→(by_ r c).2.2=2):(∃ s,foldF (allStep by_ c) p.Rules 0 ([],[])=.go s∧allM by_ p c=(s.1,s.2,0)∧s.1.length=s.2.length∧s.1.length≤16384)∨allM by_ p c=([],[],2):=by
 unfold allM
 rw [if_pos hc]
 cases hf:foldF (allStep by_ c) p.Rules 0 ([],[]) with
 | go s =>
  have hlen:∀ (l:List TRule) (i:Int) (s s':List Int × List TConf),foldF (allStep by_ c) l i s=.go s'→s.1.length=s.2.length→(s.1.length:Int)≤i→s'.1.length=s'.2.length∧(s'.1.length:Int)≤i + l.length:=by
   intro l
   induction l with
   | nil=>intro i s s' h a b; cases h; exact ⟨a,by simpa using b⟩
   | cons q l ih =>
    intro i s s' h a b
    unfold foldF allStep at h
    by_cases h0:(by_ q c).2.2=0
    ·simp only [h0,if_true] at h
     have q1:(if (by_ q c).2.1=true then (s.1 ++ [i],s.2 ++ [(by_ q c).1]) else s).1.length=(if (by_ q c).2.1=true then (s.1 ++ [i],s.2 ++ [(by_ q c).1]) else s).2.length:=by
      split
      ·simp [a]
      ·exact a
     have q2:((if (by_ q c).2.1=true then (s.1 ++ [i],s.2 ++ [(by_ q c).1]) else s).1.length:Int)≤i + 1:=by
      split
      ·simp; omega
      ·omega
     have:=ih (i + 1) _ s' h q1 q2
     exact ⟨this.1,by have:=this.2; simp; omega⟩
    ·simp only [h0,if_false] at h; cases h
  have:=hlen _ _ _ _ hf rfl (Int.le_refl 0)
  have hn:p.Rules.length≤16384:=(pC_ok (confC_ok hc).1).2.1
  exact .inl ⟨s,rfl,rfl,this.1,by omega⟩
 | ret r =>
  obtain ⟨q,_,rfl,hq⟩:=all_ret hf
  right
  simp only
  rw [h2 q hq]
theorem nextC_code (r:TRule) (c:TConf) (h:(nextC r c).2.2 ≠ 0):(nextC r c).2.2=2:=by
 unfold nextC at h ⊢
 split
 ·rename_i ha
  rw [if_pos ha] at h
  split
  ·rfl
  ·rename_i h4; rw [if_neg h4] at h; exact absurd rfl h
 ·rename_i ha; rw [if_neg ha] at h; exact absurd rfl h
theorem all_at {by_:TRule→TConf→TConf × Bool × Int} {p:TPds} {c:TConf} {s:List Int × List TConf} (hf:foldF (allStep by_ c) p.Rules 0 ([],[])=.go s) (h2:s.1.length=s.2.length) {x:Int} (x0:0≤x) (x1:x < s.1.length) :
  ∃ (j:Nat) (r:TRule),p.Rules[j]?=some r∧rdl s.1 x=j∧(by_ r c).2.2=0∧(by_ r c).2.1=true∧rdl s.2 x=(by_ r c).1:=by
 obtain ⟨_,g2,g3⟩:=all_mem p.Rules 0 ([],[]) s hf rfl
 have hx:=rdl_get (l:=s.1) x0 x1
 rcases g3 _ _ hx with h | ⟨j,r,a1,a2,a3,a4⟩
 ·simp at h
 ·have hx2:=rdl_get (l:=s.2) x0 (by omega)
  rw [a4] at hx2
  injection hx2 with hx2
  exact ⟨j,r,a1,by rw [a2]; omega,(g2 j r a1).1,a3,hx2.symm⟩
end Go.RM.Tryz
namespace Go.RM.Tryz
open Go.RM
set_option linter.unusedVariables false
set_option linter.unusedSimpArgs false
def smallC:Nat→TWeight→Int→Bool
 | 0,_,_=>false
 | n + 1,w,d=>!((decide ((w.Facts.Rows.length:Int) > 8)) || ((decide ((w.Cells.length:Int) > 8)) || ((decide ((w.Parts.length:Int) > 3)) || (decide (d > 3))))) && w.Parts.all (fun p=>smallC n p (d + 1))
theorem l13_smallWeight.okN:∀ (n:Nat) (w:TWeight) (d:Int),0≤d→d + n=5→1≤n→l13_smallWeight.fN n w d (smallC n w d):=by
 intro n
 induction n with
 | zero=>intro w d h0 h1 h2; omega
 | succ n ih =>
  intro w d h0 h1 h2
  show l13_smallWeight.step (l13_smallWeight.fN n) w d _
  unfold l13_smallWeight.step
  rw [smallC]
  by_cases hc:((decide ((w.Facts.Rows.length:Int) > 8)) || ((decide ((w.Cells.length:Int) > 8)) || ((decide ((w.Parts.length:Int) > 3)) || (decide (d > 3)))))=true
  ·rw [if_pos hc,hc]; rfl
  ·rw [if_neg hc,Bool.eq_false_iff.2 hc]
   have hd:d≤3∧w.Parts.length≤3:=by simp at hc; omega
   have key:=eachLoop (l:=w.Parts) (b:=l13_smallWeight.b1 (l13_smallWeight.fN n) w d) (fun p=>smallC n p (d + 1)) false (fun i i0 i1=>by
    unfold l13_smallWeight.b1
    simp only [i1,if_true]
    have hw:IntKind.i64.wrap (d + 1)=d + 1:=wrap64 (by omega) (by omega)
    have hs:=ih (rdl w.Parts i) (d + 1) (by omega) (by omega) (by omega)
    refine ⟨fun ht=>⟨⟨i0,i1⟩,_,by rw [hw]; exact hs,?_⟩,fun ht=>⟨⟨i0,i1⟩,_,by rw [hw]; exact hs,?_⟩⟩
    ·rw [if_pos ht,wrap64 (by omega) (by omega)]
    ·(rw [if_neg (by rw [ht]; decide)]; trivial)) (fun i i0 i1=>by unfold l13_smallWeight.b1; simp only [i1,if_false])
   refine ⟨_,key,?_⟩
   cases w.Parts.all (fun p=>smallC n p (d + 1)) <;> simp [Fin.on]
theorem l13_smallWeight.ok (w:TWeight):l13_smallWeight.f w 0 (smallC 5 w 0):=⟨5,l13_smallWeight.okN 5 w 0 (Int.le_refl 0) (by decide) (by decide)⟩
theorem l13_smallSpace.some (s:TSpace):∃ t,l13_smallSpace.f s t:=by
 unfold l13_smallSpace.f
 by_cases hc:((decide ((s.Parts.length:Int) > 3)) || ((!(s.Tag == 2)) && (decide (s.Dim > 8))))=true
 ·exact ⟨false,by rw [if_pos hc]⟩
 ·have h3:s.Parts.length≤3:=by simp at hc; omega
  have key:=eachLoop (l:=s.Parts) (b:=l13_smallSpace.b1 s) (fun x=>!((decide ((x.Parts.length:Int) > 0)) || ((!(x.Tag == 2)) && (decide (x.Dim > 8))))) false (fun i i0 i1=>by
   unfold l13_smallSpace.b1
   simp only [i1,if_true]
   refine ⟨fun ht=>⟨⟨i0,i1⟩,fun _=>⟨i0,i1⟩,fun _ _=>⟨i0,i1⟩,?_⟩,fun ht=>⟨⟨i0,i1⟩,fun _=>⟨i0,i1⟩,fun _ _=>⟨i0,i1⟩,?_⟩⟩
   ·rw [if_neg (by rw [Bool.not_eq_true'] at ht; rw [ht]; decide),wrap64 (by omega) (by omega)]
   ·(rw [if_pos (by rw [Bool.not_eq_false'] at ht; exact ht)]; trivial)) (fun i i0 i1=>by unfold l13_smallSpace.b1; simp only [i1,if_false])
  cases hb:s.Parts.all (fun x=>!((decide ((x.Parts.length:Int) > 0)) || ((!(x.Tag == 2)) && (decide (x.Dim > 8))))) <;> rw [hb] at key
  ·exact ⟨false,by rw [if_neg hc]; exact ⟨_,key,by simp [Fin.on]⟩⟩
  ·exact ⟨true,by rw [if_neg hc]; exact ⟨_,key,by simp [Fin.on]⟩⟩
theorem l13_Small.some (q:TQuery):∃ t,l13_Small.f q t:=by
 obtain ⟨t1,h1⟩:=l13_smallSpace.some q.P.Space
 obtain ⟨t2,h2⟩:=l13_smallSpace.some q.A.Space
 unfold l13_Small.f
 by_cases hc:((decide ((q.P.Rules.length:Int) > 6)) || ((decide ((q.A.Trans.length:Int) > 30)) || ((decide ((q.A.Final.length:Int) > 30)) || ((decide (q.A.States > 30)) || ((!t1) || (!t2))))))=true
 ·exact ⟨false,t1,fun _ _ _ _=>h1,t2,fun _ _ _ _ _=>h2,by rw [if_pos hc]⟩
 ·have hl:q.P.Rules.length≤6∧q.A.Trans.length≤30:=by simp at hc; omega
  have k1:=eachLoop (l:=q.P.Rules) (b:=l13_Small.b1 q) (fun r=>!((decide ((r.W.length:Int) > 6)) || (!smallC 5 r.F 0))) false (fun i i0 i1=>by
   unfold l13_Small.b1
   simp only [i1,if_true]
   refine ⟨fun ht=>⟨⟨i0,i1⟩,fun _=>⟨i0,i1⟩,_,fun _=>l13_smallWeight.ok _,?_⟩,fun ht=>⟨⟨i0,i1⟩,fun _=>⟨i0,i1⟩,_,fun _=>l13_smallWeight.ok _,?_⟩⟩
   ·rw [if_neg (by rw [Bool.not_eq_true'] at ht; rw [ht]; decide),wrap64 (by omega) (by omega)]
   ·(rw [if_pos (by rw [Bool.not_eq_false'] at ht; exact ht)]; trivial)) (fun i i0 i1=>by unfold l13_Small.b1; simp only [i1,if_false])
  have k2:=eachLoop (l:=q.A.Trans) (b:=l13_Small.b2 q) (fun r=>smallC 5 r.W 0) false (fun i i0 i1=>by
   unfold l13_Small.b2
   simp only [i1,if_true]
   refine ⟨fun ht=>⟨⟨i0,i1⟩,_,l13_smallWeight.ok _,?_⟩,fun ht=>⟨⟨i0,i1⟩,_,l13_smallWeight.ok _,?_⟩⟩
   ·rw [if_pos ht,wrap64 (by omega) (by omega)]
   ·(rw [if_neg (by rw [ht]; decide)]; trivial)) (fun i i0 i1=>by unfold l13_Small.b2; simp only [i1,if_false])
  suffices go:∃ t,(∃ o1:Fin Unit Bool,Loop (l13_Small.b1 q) 0 o1∧o1.on (fun _=>∃ o2:Fin Unit Bool,Loop (l13_Small.b2 q) 0 o2∧o2.on (fun _=>t=true) (fun r_=>t=r_)) (fun r_=>t=r_)) by
   obtain ⟨t,h⟩:=go
   exact ⟨t,t1,fun _ _ _ _=>h1,t2,fun _ _ _ _ _=>h2,by rw [if_neg hc]; exact h⟩
  cases hb:q.P.Rules.all (fun r=>!((decide ((r.W.length:Int) > 6)) || (!smallC 5 r.F 0))) <;> rw [hb] at k1
  ·exact ⟨false,_,k1,by simp [Fin.on]⟩
  ·cases hb2:q.A.Trans.all (fun r=>smallC 5 r.W 0) <;> rw [hb2] at k2
   ·exact ⟨false,_,k1,_,k2,by simp [Fin.on]⟩
   ·exact ⟨true,_,k1,_,k2,by simp [Fin.on]⟩
def moreR (p:TPds) (x:TRun_88) (cs:List TConf) (j n:Int):TRun_88:=⟨x.L ++ [n],rdl cs j,thenW p.Space x.W (rdl p.Rules n).F⟩
def newR (p:TPds) (x:TRun_88) (cs:List TConf):Int→List Int→List TRun_88
 | _,[]=>[]
 | j,n :: l=>moreR p x cs j n :: newR p x cs (j + 1) l
theorem newR_len {p:TPds} {x:TRun_88} {cs:List TConf}:∀ (l:List Int) (j:Int),(newR p x cs j l).length=l.length
 | [],_=>rfl
 | n :: l,j=>by simp [newR,newR_len l]
theorem newR_mem {p:TPds} {x:TRun_88} {cs:List TConf} {z:TRun_88}:∀ (l:List Int) (j:Int),z ∈ newR p x cs j l→∃ i:Int,0≤i∧i < l.length∧z=moreR p x cs (j + i) (rdl l i)
 | [],_,h=>by cases h
 | n :: l,j,h=>by
  simp only [newR,List.mem_cons] at h
  rcases h with rfl | h
  ·exact ⟨0,Int.le_refl 0,by simp,by rw [rdl0]; simp⟩
  ·obtain ⟨i,i0,i1,rfl⟩:=newR_mem l (j + 1) h
   refine ⟨i + 1,by omega,by simp; omega,?_⟩
   have e1:=rdl_get (l:=l) i0 i1
   have e2:=rdl_get (l:=n :: l) (i:=i + 1) (by omega) (by simp; omega)
   rw [show (i + 1).toNat=i.toNat + 1 by omega,List.getElem?_cons_succ,e1] at e2
   rw [Option.some.inj e2,show j + 1 + i=j + (i + 1) by omega]
def moreStep {ρ:Type} (e:ρ) (p:TPds) (x:TRun_88) (cs:List TConf) (j n:Int) (q:List TRun_88):Fin (List TRun_88) ρ:=if q.length=10000 then .ret e else .go (q ++ [moreR p x cs j n])
theorem more_fold {ρ:Type} {e:ρ} {p:TPds} {x:TRun_88} {cs:List TConf}:∀ (l:List Int) (j:Int) (q:List TRun_88),q.length≤10000→foldF (moreStep e p x cs) l j q=if q.length + l.length≤10000 then .go (q ++ newR p x cs j l) else .ret e
 | [],j,q,h=>by simp [foldF,newR,h]
 | n :: l,j,q,h=>by
  unfold foldF
  by_cases hq:q.length=10000
  ·rw [show moreStep e p x cs j n q=.ret e from if_pos hq,if_neg (by rw [List.length_cons]; omega)]
  ·rw [show moreStep e p x cs j n q=.go (q ++ [moreR p x cs j n]) from if_neg hq]
   simp only
   rw [more_fold l (j + 1) _ (by simp; omega)]
   by_cases h2:q.length + (n :: l).length≤10000
   ·rw [if_pos h2,if_pos (by simp at h2 ⊢; omega)]; simp [newR]
   ·rw [if_neg h2,if_neg (by simp at h2 ⊢; omega)]
def bfsM (p:TPds) (n:Int):Nat→List TRun_88→List TRun_88→Fin (List TRun_88) Int
 | 0,done,[]=>.go done
 | 0,_,_ :: _=>.ret 3
 | _ + 1,done,[]=>.go done
 | k + 1,done,x :: l =>
  if (x.L.length:Int)=n then bfsM p n k (done ++ [x]) l
  else if (allM nextC p x.C).2.2=0 then
   (if (done ++ x :: l).length + (allM nextC p x.C).1.length≤10000 then bfsM p n k (done ++ [x]) (l ++ newR p x (allM nextC p x.C).2.1 0 (allM nextC p x.C).1) else .ret 3)
  else .ret (allM nextC p x.C).2.2
structure QI (p:TPds) (c0:TConf) (n:Int) (y:TRun_88):Prop where
 run:RunI p (y.C,y.W)
 fold:foldF (runStep p) y.L 0 (c0,oneW p.Space)=.go (y.C,y.W)
 len:(y.L.length:Int)≤n
structure QQ (p:TPds) (c0:TConf) (n:Int) (done l:List TRun_88):Prop where
 all:∀ y ∈ done ++ l,QI p c0 n y
 sort:l.Pairwise (fun a b=>a.L.length≤b.L.length)
 close:∀ x l',l=x :: l'→∀ y ∈ l',y.L.length≤x.L.length + 1
 many:done.length + l.length≤10000
theorem QQ.skip {p:TPds} {c0:TConf} {n:Int} {done l:List TRun_88} {x:TRun_88} (h:QQ p c0 n done (x :: l)):QQ p c0 n (done ++ [x]) l where
 all:=fun y hy=>h.all y (by simpa using hy)
 sort:=(List.pairwise_cons.1 h.sort).2
 close:=fun x' l' e y hy=>by
  subst e
  have h1:=h.close x _ rfl y (by simp [hy])
  have h2:=(List.pairwise_cons.1 h.sort).1 x' (by simp)
  omega
 many:=by have:=h.many; simp at this ⊢; omega
theorem next_at {p:TPds} {c:TConf} (hc:confC p c=0) (he:(allM nextC p c).2.2=0):(allM nextC p c).1.length=(allM nextC p c).2.1.length∧(allM nextC p c).1.length≤16384∧∀ i:Int,0≤i→i < (allM nextC p c).1.length→∃ r,r ∈ p.Rules∧rdl p.Rules (rdl (allM nextC p c).1 i)=r∧0≤rdl (allM nextC p c).1 i∧rdl (allM nextC p c).1 i < p.Rules.length∧appB r c=true∧¬ ((byC r c).W.length:Int) > 4096∧rdl (allM nextC p c).2.1 i=byC r c:=by
 rcases allM_code (by_:=nextC) hc (fun r=>nextC_code r c) with ⟨s,hf,e,h2,hlen⟩ | e
 ·rw [e]
  refine ⟨h2,hlen,fun i i0 i1=>?_⟩
  obtain ⟨j,r,a1r,a2r,a3,a4,a5⟩:=all_at hf h2 i0 i1
  have hm:r ∈ p.Rules:=List.mem_of_getElem? a1r
  have happ:appB r c=true:=by
   unfold nextC at a4; split at a4
   ·assumption
   ·simp at a4
  have hby:(nextC r c).1=byC r c∧¬ ((byC r c).W.length:Int) > 4096:=by
   unfold nextC at a3 ⊢
   rw [if_pos happ] at a3 ⊢
   split at a3
   ·simp at a3
   ·rename_i h4; rw [if_neg h4]; exact ⟨rfl,h4⟩
  have hj:j < p.Rules.length:=(List.getElem?_eq_some_iff.1 a1r).1
  have hr:rdl p.Rules (j:Int)=r:=by
   have:=rdl_get (l:=p.Rules) (i:=(j:Int)) (by omega) (by omega)
   rw [Int.toNat_natCast,a1r] at this
   exact (Option.some.inj this).symm
  exact ⟨r,hm,by rw [a2r]; exact hr,by rw [a2r]; omega,by rw [a2r]; omega,happ,hby.2,by rw [a5]; exact hby.1⟩
 ·rw [e] at he; simp at he
theorem QI.more {p:TPds} (hR:∀ r ∈ p.Rules,Rng r.F) {c0:TConf} {n:Int} {x:TRun_88} (h:QI p c0 n x) (hx:(x.L.length:Int) ≠ n) (he:(allM nextC p x.C).2.2=0) {i:Int} (i0:0≤i) (i1:i < (allM nextC p x.C).1.length):QI p c0 n (moreR p x (allM nextC p x.C).2.1 i (rdl (allM nextC p x.C).1 i)):=by
 have hcf:confC p x.C=0:=h.run.conf
 obtain ⟨_,_,hat⟩:=next_at hcf he
 obtain ⟨r,hm,hr,j0,j1,happ,h4,hc⟩:=hat i i0 i1
 have hst:∀ k,runStep p k (rdl (allM nextC p x.C).1 i) (x.C,x.W)=.go (byC r x.C,thenW p.Space x.W r.F):=fun k=>by
  unfold runStep
  rw [if_neg (by omega),hr,if_pos happ,if_neg h4]
 have hnew:moreR p x (allM nextC p x.C).2.1 i (rdl (allM nextC p x.C).1 i)=⟨x.L ++ [rdl (allM nextC p x.C).1 i],byC r x.C,thenW p.Space x.W r.F⟩:=by
  unfold moreR; rw [hr,hc]
 rw [hnew]
 refine ⟨(run_step hR h.run (hst 0)).1,?_,?_⟩
 ·rw [foldF_app,h.fold]
  simp only [foldF,hst]
 ·have:=h.len; simp; omega
theorem pw_const {k:Nat}:∀ {l:List TRun_88},(∀ z ∈ l,z.L.length=k)→l.Pairwise (fun a b=>a.L.length≤b.L.length)
 | [],_=>.nil
 | x :: l,h=>.cons (fun y hy=>by rw [h x (.head _),h y (.tail _ hy)]; exact Nat.le_refl k) (pw_const fun z hz=>h z (.tail _ hz))
theorem QQ.next {p:TPds} (hR:∀ r ∈ p.Rules,Rng r.F) {c0:TConf} {n:Int} {done l:List TRun_88} {x:TRun_88} (h:QQ p c0 n done (x :: l)) (hx:(x.L.length:Int) ≠ n) (he:(allM nextC p x.C).2.2=0) (hm:(done ++ x :: l).length + (allM nextC p x.C).1.length≤10000):QQ p c0 n (done ++ [x]) (l ++ newR p x (allM nextC p x.C).2.1 0 (allM nextC p x.C).1):=by
 have hq:=h.all x (by simp)
 have hs:=List.pairwise_cons.1 h.sort
 have hnew:∀ z ∈ newR p x (allM nextC p x.C).2.1 0 (allM nextC p x.C).1,QI p c0 n z∧z.L.length=x.L.length + 1:=fun z hz=>by
  obtain ⟨i,i0,i1,rfl⟩:=newR_mem _ _ hz
  rw [Int.zero_add]
  exact ⟨hq.more hR hx he i0 i1,by simp [moreR]⟩
 refine ⟨fun y hy=>?_,?_,fun x' l' e y hy=>?_,?_⟩
 ·simp only [List.append_assoc,List.mem_append,List.mem_singleton] at hy
  rcases hy with hy | hy | hy | hy
  ·exact h.all y (by simp [hy])
  ·exact h.all y (by simp [hy])
  ·exact h.all y (by simp [hy])
  ·exact (hnew y hy).1
 ·refine List.pairwise_append.2 ⟨hs.2,pw_const fun z hz=>(hnew z hz).2,fun a ha b hb=>?_⟩
  rw [(hnew b hb).2]
  exact h.close x l rfl a ha
 ·cases l with
  | nil =>
   have h1:=(hnew x' (by rw [List.nil_append] at e; rw [e]; simp)).2
   have h2:=(hnew y (by rw [List.nil_append] at e; rw [e]; simp [hy])).2
   omega
  | cons x1 l1 =>
   rw [List.cons_append] at e
   injection e with e1 e2
   subst e1; subst e2
   have h1:=hs.1 x1 (by simp)
   rcases List.mem_append.1 hy with hy | hy
   ·have:=h.close x _ rfl y (by simp [hy]); omega
   ·rw [(hnew y hy).2]; omega
 ·simp only [List.length_append,newR_len,List.length_cons,List.length_nil] at hm ⊢; omega
theorem bfs_full {p:TPds} {n:Int}:∀ (k:Nat) (done l:List TRun_88),l.length≤k→(∀ y ∈ l,(y.L.length:Int)=n)→bfsM p n k done l=.go (done ++ l)
 | 0,done,[],_,_=>by simp [bfsM]
 | 0,done,_ :: _,h,_=>by simp at h
 | k + 1,done,[],_,_=>by simp [bfsM]
 | k + 1,done,x :: l,h,hl=>by
  unfold bfsM
  rw [if_pos (hl x (.head _)),bfs_full k _ l (by simpa using h) (fun y hy=>hl y (.tail _ hy))]
  simp
theorem bfs_inv {p:TPds} (hR:∀ r ∈ p.Rules,Rng r.F) {c0:TConf} {n:Int}:∀ (k:Nat) (done l q:List TRun_88),QQ p c0 n done l→bfsM p n k done l=.go q→(∀ y ∈ q,QI p c0 n y)∧q.length≤10000
 | 0,done,[],q,h,e=>by
  simp only [bfsM] at e; cases e
  exact ⟨fun y hy=>h.all y (by simpa using hy),by have:=h.many; simpa using this⟩
 | 0,done,_ :: _,q,h,e=>by simp [bfsM] at e
 | k + 1,done,[],q,h,e=>by
  simp only [bfsM] at e; cases e
  exact ⟨fun y hy=>h.all y (by simpa using hy),by have:=h.many; simpa using this⟩
 | k + 1,done,x :: l,q,h,e=>by
  unfold bfsM at e
  split at e
  ·exact bfs_inv hR k _ l q h.skip e
  ·rename_i hx
   split at e
   ·rename_i he
    split at e
    ·rename_i hm
     exact bfs_inv hR k _ _ q (h.next hR hx he hm) e
    ·cases e
   ·cases e
end Go.RM.Tryz
