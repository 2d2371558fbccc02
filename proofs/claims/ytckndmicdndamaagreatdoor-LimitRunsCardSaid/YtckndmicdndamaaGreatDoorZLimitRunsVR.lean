/- VQ VR, for the statement LimitRuns: what it needs, no more. -/
import Derived.Test.YtckndmicdndamaaGreatDoorZLimitRunsVP
namespace Go.RM.Tryz
open Go.RM
set_option linter.unusedVariables false
set_option linter.unusedSimpArgs false
def bothF {σ τ ρ ρ':Type} (f:σ→τ) (g:ρ→ρ'):Fin σ ρ→Fin τ ρ'
 | .go s=>.go (f s)
 | .ret r=>.ret (g r)
def trR (y:TRun_88):TRun:=⟨y.L,y.C⟩
def outR (c:TConf) (l:List TRun_88):List (List Int):=(l.filter fun y=>eqConf y.C c).map (·.L)
theorem rdl_mid {α β:Type} [Inhabited β] (f:α→β) (done:List α) (x:α) (l:List α):rdl ((done ++ x :: l).map f) (done.length:Int)=f x:=by
 have h:=rdl_get (l:=(done ++ x :: l).map f) (i:=(done.length:Int)) (by omega) (by simp; omega)
 simp only [Int.toNat_natCast,List.getElem?_map] at h
 rw [List.getElem?_append_right (Nat.le_refl _)] at h
 rw [Nat.sub_self,List.getElem?_cons_zero] at h
 exact (Option.some.inj h).symm
theorem outR_mem {c:TConf} {l:List TRun_88} (x:TRun_88):outR c (l ++ [x])=if eqConf x.C c=true then outR c l ++ [x.L] else outR c l:=by
 unfold outR
 cases h:eqConf x.C c <;> simp [h]
theorem outR_len (c:TConf) (l:List TRun_88):(outR c l).length≤l.length:=by
 unfold outR; rw [List.length_map]; exact List.length_filter_le _ _
theorem slices_Clone_int_o0.ok {l:List Int} (h:l.length≤17592186044416):slices_Clone_int_o0.f l l:=by
 unfold slices_Clone_int_o0.f
 by_cases h0:l.length=0
 ·rw [if_pos h0]
  have:l=[]:=List.eq_nil_of_length_eq_zero h0
  subst this
  intro z k
  cases z <;> simp [Fits]
 ·rw [if_neg h0]
  exact ⟨by unfold Fits; omega,rfl⟩
theorem runs_loop {p:TPds} (hz:p.Sized) (hR:∀ r ∈ p.Rules,Rng r.F) {c0 c:TConf} {n:Int} (hn:n≤12):∀ (k:Nat) (done l:List TRun_88),QQ p c0 n done l→10001≤done.length + k →
  Loop (limit_Runs.b2 p c n) (outR c done,(done ++ l).map trR,(done.length:Int)) (bothF (outR c) (fun e=>(([]:List (List Int)),e)) (bfsM p n k done l))
 | 0,done,[],h,_=>.exit (by unfold limit_Runs.b2; simp)
 | 0,done,x :: l,h,hk=>by have:=h.many; simp at this; omega
 | k + 1,done,[],h,_=>.exit (by unfold limit_Runs.b2; simp)
 | k + 1,done,x :: l,h,hk=>by
  have hq:=h.all x (by simp)
  have hcf:confC p x.C=0:=hq.run.conf
  have hm:(done ++ x :: l).length≤10000:=by have:=h.many; simp at this ⊢; omega
  have hw:x.C.W.length≤4096:=(confC_ok hcf).2.2.2.1
  have hd:done.length < (done ++ x :: l).length:=by simp
  have hout:=outR_len c done
  have hr:rdl ((done ++ x :: l).map trR) (done.length:Int)=⟨x.L,x.C⟩:=rdl_mid trR done x l
  have hj:∀ z,limit_Runs.j2 p n ((done ++ x :: l).map trR) (done.length:Int) (outR c (done ++ [x])) z→limit_Runs.b2 p c n (outR c done,(done ++ x :: l).map trR,(done.length:Int)) z:=fun z hz2=>by
   unfold limit_Runs.b2
   simp only
   rw [if_pos (by rw [List.length_map]; omega),hr]
   refine ⟨⟨by omega,by rw [List.length_map]; omega⟩,_,fun _=>slices_Equal_int.ok12 (a:=x.C.W) (b:=c.W) (by show x.C.W.length≤maxLen; simp only [maxLen]; omega),?_⟩
   rw [outR_mem] at hz2
   show if eqConf x.C c=true then _ else _
   by_cases he:eqConf x.C c=true
   ·rw [if_pos he] at hz2 ⊢
    exact ⟨by unfold Fits; omega,hz2⟩
   ·rw [if_neg he] at hz2 ⊢
    exact hz2
  have hw1:IntKind.i64.wrap ((done.length:Int) + 1)=((done ++ [x]).length:Int):=by rw [wrap64 (by omega) (by omega)]; simp
  have ha:(done ++ [x]) ++ l=done ++ x :: l:=by simp
  unfold bfsM
  by_cases hx:(x.L.length:Int)=n
  ·rw [if_pos hx]
   have ih:=runs_loop hz hR (c:=c) hn k _ l h.skip (by simp; omega)
   rw [ha] at ih
   refine .next (hj _ ?_) ih
   unfold limit_Runs.j2
   rw [hr,if_pos hx]
   unfold limit_Runs.j1
   rw [hw1]
  ·rw [if_neg hx]
   have hnext:∀ z,(if (allM nextC p x.C).2.2=0 then (∃ o3:Fin ((List TRun)) ((List (List Int)) × Int),Loop (limit_Runs.b3 ((done ++ x :: l).map trR) (done.length:Int) (allM nextC p x.C)) ((done ++ x :: l).map trR,0) o3∧o3.on (fun x40=>limit_Runs.j1 (done.length:Int) (outR c (done ++ [x]),x40) z) (fun r_=>z=.ret r_)) else (z=.ret ([],(allM nextC p x.C).2.2)))→limit_Runs.j2 p n ((done ++ x :: l).map trR) (done.length:Int) (outR c (done ++ [x])) z:=fun z h2=>by
    unfold limit_Runs.j2
    rw [hr,if_neg hx]
    exact ⟨_,steps_Next.ok hz (by show x.C.W.length≤maxLen; simp only [maxLen]; omega),h2⟩
   by_cases he:(allM nextC p x.C).2.2=0
   ·obtain ⟨h2,h16,hat⟩:=next_at hcf he
    have hl16:(allM nextC p x.C).1.length≤maxLen:=by simp only [maxLen]; omega
    have key:=(foldLoop (l:=(allM nextC p x.C).1) (b:=limit_Runs.b3 ((done ++ x :: l).map trR) (done.length:Int) (allM nextC p x.C)) (fun i (q:List TRun_88)=>(q.map trR,i)) (fun q=>q.map trR) (moreStep (([],3):List (List Int) × Int) p x (allM nextC p x.C).2.1) (fun i q=>q.length≤10000) (fun i q i0 i1 hi=>by
     have hlx:=hq.len
     unfold moreStep
     by_cases h1:q.length=10000
     ·rw [if_pos h1]
      show limit_Runs.b3 _ _ _ (q.map trR,i) (.ret ([],3))
      unfold limit_Runs.b3
      simp only [i1,if_true]
      exact ⟨⟨i0,i1⟩,by rw [if_pos (by rw [List.length_map]; omega)]; trivial⟩
     ·rw [if_neg h1]
      refine ⟨?_,by simp; omega⟩
      unfold limit_Runs.b3
      simp only [i1,if_true]
      refine ⟨⟨i0,i1⟩,?_⟩
      rw [if_neg (by rw [List.length_map]; omega),hr]
      refine ⟨_,slices_Clone_int_o0.ok (l:=x.L) (by omega),by unfold Fits; omega,⟨i0,by omega⟩,by rw [List.length_map]; unfold Fits; omega,?_⟩
      rw [wrap_len hl16 i0 i1,List.map_append]; rfl) (fun q _=>by unfold limit_Runs.b3; simp) (done ++ x :: l) hm).1
    rw [more_fold _ _ _ hm] at key
    rw [if_pos he]
    by_cases h1:(done ++ x :: l).length + (allM nextC p x.C).1.length≤10000
    ·rw [if_pos h1] at key ⊢
     have ih:=runs_loop hz hR (c:=c) hn k _ _ (h.next hR hx he h1) (by simp; omega)
     rw [← List.append_assoc,ha] at ih
     refine .next (hj _ (hnext _ ?_)) ih
     rw [if_pos he]
     refine ⟨_,key,?_⟩
     simp only [Fin.map,Fin.on]
     unfold limit_Runs.j1
     rw [hw1]
    ·rw [if_neg h1] at key ⊢
     refine .ret (hj _ (hnext _ ?_))
     rw [if_pos he]
     exact ⟨_,key,rfl⟩
   ·rw [if_neg he]
    refine .ret (hj _ (hnext _ ?_))
    rw [if_neg he]
theorem queue_loop {p:TPds} (hz:p.Sized) (hR:∀ r ∈ p.Rules,Rng r.F) {c0:TConf} {n:Int} (hn:n≤12):∀ (k:Nat) (done l:List TRun_88),QQ p c0 n done l→10001≤done.length + k →
  Loop (r13_runs.b1 p n) (done ++ l,(done.length:Int)) (bothF id (fun e=>(([]:List TRun_88),e)) (bfsM p n k done l))
 | 0,done,[],h,_=>.exit (by unfold r13_runs.b1; simp)
 | 0,done,x :: l,h,hk=>by have:=h.many; simp at this; omega
 | k + 1,done,[],h,_=>.exit (by unfold r13_runs.b1; simp)
 | k + 1,done,x :: l,h,hk=>by
  have hq:=h.all x (by simp)
  have hcf:confC p x.C=0:=hq.run.conf
  have hp:=(confC_ok hcf).1
  have hs:=(pC_ok hp).1
  have hm:(done ++ x :: l).length≤10000:=by have:=h.many; simp at this ⊢; omega
  have hw:x.C.W.length≤4096:=(confC_ok hcf).2.2.2.1
  have hd:done.length < (done ++ x :: l).length:=by simp
  have hr:rdl (done ++ x :: l) (done.length:Int)=x:=by have:=rdl_mid id done x l; rwa [List.map_id] at this
  have hw1:IntKind.i64.wrap ((done.length:Int) + 1)=((done ++ [x]).length:Int):=by rw [wrap64 (by omega) (by omega)]; simp
  have ha:(done ++ [x]) ++ l=done ++ x :: l:=by simp
  by_cases hx:(x.L.length:Int)=n
  ·have hall:∀ y ∈ x :: l,(y.L.length:Int)=n:=fun y hy=>by
    rcases List.mem_cons.1 hy with rfl | hy2
    ·exact hx
    ·have h1:=(List.pairwise_cons.1 h.sort).1 y hy2
     have h2:=(h.all y (by simp [hy2])).len
     omega
   rw [bfs_full (k + 1) done (x :: l) (by have:=h.many; simp at this ⊢; omega) hall]
   refine .exit ?_
   unfold r13_runs.b1
   simp only
   rw [if_pos (by omega),hr]
   exact ⟨⟨by omega,by omega⟩,by rw [if_pos hx]; rfl⟩
  ·unfold bfsM
   rw [if_neg hx]
   have hnext:∀ z,(if (allM nextC p x.C).2.2=0 then (∃ o2:Fin ((List TRun_88)) ((List TRun_88) × Int),Loop (r13_runs.b2 p (done.length:Int) (allM nextC p x.C)) (done ++ x :: l,0) o2∧o2.on (fun x13=>z=.next (x13,(IntKind.i64.wrap ((done.length:Int) + 1)))) (fun r_=>z=.ret r_)) else (z=.ret ([],(allM nextC p x.C).2.2)))→r13_runs.b1 p n (done ++ x :: l,(done.length:Int)) z:=fun z h2=>by
    unfold r13_runs.b1
    simp only
    rw [if_pos (by omega),hr]
    refine ⟨⟨by omega,by omega⟩,?_⟩
    rw [if_neg hx]
    exact ⟨⟨by omega,by omega⟩,_,r12_Next.ok hz (by simp only [maxLen]; omega),h2⟩
   by_cases he:(allM nextC p x.C).2.2=0
   ·obtain ⟨h2,h16,hat⟩:=next_at hcf he
    have hl16:(allM nextC p x.C).1.length≤maxLen:=by simp only [maxLen]; omega
    have key:=(foldLoop (l:=(allM nextC p x.C).1) (b:=r13_runs.b2 p (done.length:Int) (allM nextC p x.C)) (fun i (q:List TRun_88)=>(q,i)) id (moreStep (([],3):List TRun_88 × Int) p x (allM nextC p x.C).2.1) (fun i q=>q.length≤10000∧done.length < q.length∧rdl q (done.length:Int)=x) (fun i q i0 i1 hi=>by
     obtain ⟨q1,q2,q3⟩:=hi
     have hlx:=hq.len
     obtain ⟨r,hm,hr,j0,j1,_⟩:=hat i i0 i1
     have hF:WOk p.Space r.F:=⟨(pC_ok hp).2.2.2.2.2.2.2 _ hm,hR _ hm⟩
     have hW:WOk p.Space x.W:=hq.run.w
     have ht:=r05_Then.ok hs hW.is hF.is hW.rng hF.rng
     have hi1:InR (done.length:Int) q.length:=⟨by omega,by omega⟩
     have hb:∀ z,(if (((q.length + 1):Nat):Int) > 10000 then (z=.ret ([],3)) else (z=.next (q ++ [moreR p x (allM nextC p x.C).2.1 i (rdl (allM nextC p x.C).1 i)],(IntKind.i64.wrap (i + 1)))))→r13_runs.b2 p (done.length:Int) (allM nextC p x.C) (q,i) z:=fun z hz=>by
      unfold r13_runs.b2
      simp only [i1,if_true]
      rw [q3]
      refine ⟨hi1,by unfold Fits; omega,⟨i0,i1⟩,by unfold Fits; omega,⟨i0,by omega⟩,hi1,⟨i0,i1⟩,⟨j0,j1⟩,thenW p.Space x.W r.F,by rw [hr]; exact ht,by unfold Fits; omega,?_⟩
      unfold moreR at hz
      rw [hr] at hz
      exact hz
     unfold moreStep
     by_cases h1:q.length=10000
     ·rw [if_pos h1]
      exact hb _ (by rw [if_pos (by omega)])
     ·rw [if_neg h1]
      refine ⟨hb _ (by rw [if_neg (by omega),wrap_len hl16 i0 i1]),by simp; omega,by simp; omega,?_⟩
      have g:=rdl_get (l:=q ++ [moreR p x (allM nextC p x.C).2.1 i (rdl (allM nextC p x.C).1 i)]) (i:=(done.length:Int)) (by omega) (by simp; omega)
      have g2:=rdl_get (l:=q) (i:=(done.length:Int)) (by omega) (by omega)
      rw [List.getElem?_append_left (by omega),g2,q3] at g
      exact (Option.some.inj g).symm) (fun q _=>by unfold r13_runs.b2; simp) (done ++ x :: l) ⟨hm,hd,hr⟩).1
    rw [more_fold _ _ _ hm] at key
    rw [if_pos he]
    by_cases h1:(done ++ x :: l).length + (allM nextC p x.C).1.length≤10000
    ·rw [if_pos h1] at key ⊢
     have ih:=queue_loop hz hR hn k _ _ (h.next hR hx he h1) (by simp; omega)
     rw [← List.append_assoc,ha] at ih
     refine .next (hnext _ ?_) ih
     rw [if_pos he]
     refine ⟨_,key,?_⟩
     show _=_
     rw [hw1]; rfl
    ·rw [if_neg h1] at key ⊢
     refine .ret (hnext _ ?_)
     rw [if_pos he]
     exact ⟨_,key,rfl⟩
   ·rw [if_neg he]
    refine .ret (hnext _ ?_)
    rw [if_neg he]
end Go.RM.Tryz
namespace Go.RM.Tryz
open Go.RM
set_option linter.unusedVariables false
set_option linter.unusedSimpArgs false
theorem r13_same.ok {c d:TConf} (hl:c.W.length≤maxLen):r13_same.f c d (eqConf c d):=by
 unfold r13_same.f eqConf
 by_cases hP:c.P=d.P
 ·by_cases h:(c.W.length:Int)=d.W.length
  ·rw [if_neg (by simp [hP,h])]
   refine ⟨_,eqRound hl (by omega) rfl,?_⟩
   simp only [hP,beq_self_eq_true,Bool.true_and]
   exact eqOn
  ·have hne:c.W ≠ d.W:=fun e=>h (by rw [e])
   rw [if_pos (by simp [h])]; simp [hne]
 ·rw [if_pos (by simp [hP])]; simp [hP]
def q0R (p:TPds) (a:TConf):TRun_88:=⟨[],a,oneW p.Space⟩
def queS (p:TPds) (a c:TConf) (n:Int):List TRun_88 × Int :=
 if confC p a=0 then (if confC p c=0 then (if ((decide (n < 0)) || (decide (n > 64)))=true then ([],5) else if n > 12 then ([],3) else
  match bfsM p n 10001 [] [q0R p a] with
  | .go q=>(q.filter (fun y=>eqConf y.C c),0)
  | .ret e=>([],e)) else ([],confC p c)) else ([],confC p a)
theorem QQ.start {p:TPds} {a:TConf} {n:Int} (ha:confC p a=0) (h0:0≤n):QQ p a n [] [q0R p a] where
 all:=fun y hy=>by
  simp at hy
  subst hy
  exact ⟨⟨ha,.one_ (pC_ok (confC_ok ha).1).1⟩,rfl,by simpa [q0R] using h0⟩
 sort:=.cons (fun y hy=>by cases hy) .nil
 close:=fun x l' e y hy=>by injection e with _ e2; subst e2; cases hy
 many:=by simp
theorem queS_ok {p:TPds} (hR:∀ r ∈ p.Rules,Rng r.F) {a c:TConf} {n:Int}:(∀ y ∈ (queS p a c n).1,QI p a n y∧n≤12)∧(queS p a c n).1.length≤10000∧((queS p a c n).2=0→confC p a=0):=by
 unfold queS
 by_cases ha:confC p a=0
 ·rw [if_pos ha]
  by_cases hc:confC p c=0
  ·rw [if_pos hc]
   by_cases h1:((decide (n < 0)) || (decide (n > 64)))=true
   ·rw [if_pos h1]; exact ⟨by simp,by simp,fun _=>ha⟩
   ·rw [if_neg h1]
    by_cases h2:n > 12
    ·rw [if_pos h2]; exact ⟨by simp,by simp,fun _=>ha⟩
    ·rw [if_neg h2]
     cases hb:bfsM p n 10001 [] [q0R p a] with
     | go q =>
      have h0:0≤n:=by simp at h1; omega
      have:=bfs_inv hR 10001 [] _ q (QQ.start ha h0) hb
      refine ⟨fun y hy=>⟨this.1 y (List.mem_filter.1 hy).1,by omega⟩,Nat.le_trans (List.length_filter_le _ _) this.2,fun _=>ha⟩
     | ret e=>exact ⟨by simp,by simp,fun _=>ha⟩
  ·rw [if_neg hc]; exact ⟨by simp,by simp,fun _=>ha⟩
 ·rw [if_neg ha]; exact ⟨by simp,by simp,fun h=>absurd h ha⟩
def runsS (p:TPds) (a c:TConf) (n:Int):List (List Int) × Int:=((queS p a c n).1.map (·.L),(queS p a c n).2)
theorem conf_len {p:TPds} {c:TConf} (h:confC p c=0):c.W.length≤maxLen:=by have:=(confC_ok h).2.2.2.1; simp only [maxLen]; omega
theorem limit_Runs.ok {p:TPds} (hz:p.Sized) (hR:∀ r ∈ p.Rules,Rng r.F) {a c:TConf} (hla:a.W.length≤maxLen) (hlc:c.W.length≤maxLen) (n:Int):limit_Runs.f p a c n (runsS p a c n):=by
 have e0:rdl [a,c] 0=a:=rfl
 have e1:rdl [a,c] 1=c:=rfl
 unfold runsS queS
 by_cases ha:confC p a=0
 ·rw [if_pos ha]
  have s0:limit_Runs.b1 p a c 0 (.next 1):=by
   unfold limit_Runs.b1
   simp only [List.length_cons,List.length_nil]
   rw [if_pos (by decide),e0]
   exact ⟨⟨by decide,by decide⟩,_,steps_Check.ok hz hla,by rw [if_pos ha]; simp [wrap64]⟩
  by_cases hc:confC p c=0
  ·rw [if_pos hc]
   have s1:limit_Runs.b1 p a c 1 (.next 2):=by
    unfold limit_Runs.b1
    simp only [List.length_cons,List.length_nil]
    rw [if_pos (by decide),e1]
    exact ⟨⟨by decide,by decide⟩,_,steps_Check.ok hz hlc,by rw [if_pos hc]; simp [wrap64]⟩
   have s2:limit_Runs.b1 p a c 2 (.exit ()):=by
    unfold limit_Runs.b1
    simp
   refine ⟨_,.next s0 (.next s1 (.exit s2)),?_⟩
   show if _ then _ else _
   by_cases h1:((decide (n < 0)) || (decide (n > 64)))=true
   ·rw [if_pos h1,if_pos h1]; rfl
   ·rw [if_neg h1,if_neg h1]
    by_cases h2:n > 12
    ·rw [if_pos h2,if_pos h2]; rfl
    ·rw [if_neg h2,if_neg h2]
     have h0:0≤n:=by simp at h1; omega
     have key:=runs_loop hz hR (c0:=a) (c:=c) (n:=n) (by omega) 10001 [] [q0R p a] (QQ.start ha h0) (by simp)
     refine ⟨_,key,?_⟩
     cases bfsM p n 10001 [] [q0R p a] <;> simp [bothF,Fin.on,outR]
  ·rw [if_neg hc]
   refine ⟨_,.next s0 (.ret (r:=([],confC p c)) ?_),rfl⟩
   unfold limit_Runs.b1
   simp only [List.length_cons,List.length_nil]
   rw [if_pos (by decide),e1]
   exact ⟨⟨by decide,by decide⟩,_,steps_Check.ok hz hlc,by rw [if_neg hc]⟩
 ·rw [if_neg ha]
  refine ⟨_,.ret (r:=([],confC p a)) ?_,rfl⟩
  unfold limit_Runs.b1
  simp only [List.length_cons,List.length_nil]
  rw [if_pos (by decide),e0]
  exact ⟨⟨by decide,by decide⟩,_,steps_Check.ok hz hla,by rw [if_neg ha]⟩
theorem foldG_filter {α:Type} (f:α→Bool):∀ (l:List α) (i:Int) (s:List α),foldG (fun _ y s=>if f y=true then s ++ [y] else s) l i s=s ++ l.filter f
 | [],i,s=>by simp [foldG]
 | x :: l,i,s=>by
  unfold foldG
  rw [foldG_filter f l]
  cases h:f x <;> simp [h]
theorem foldG_more {α β:Type} (f:α→β):∀ (l:List α) (i:Int) (s:List β),foldG (fun _ y s=>s ++ [f y]) l i s=s ++ l.map f
 | [],i,s=>by simp [foldG]
 | x :: l,i,s=>by
  unfold foldG
  rw [foldG_more f l]
  simp
theorem r13_runs.ok {p:TPds} (hz:p.Sized) (hR:∀ r ∈ p.Rules,Rng r.F) {a c:TConf} (hla:a.W.length≤maxLen) (hlc:c.W.length≤maxLen) (n:Int):r13_runs.f p a c n (queS p a c n):=by
 refine ⟨_,r12_Check.ok hz hla,?_⟩
 unfold queS
 by_cases ha:confC p a=0
 ·rw [if_pos ha,if_pos ha]
  refine ⟨_,r12_Check.ok hz hlc,?_⟩
  unfold r13_runs.j1
  by_cases hc:confC p c=0
  ·rw [if_pos hc,if_pos hc]
   by_cases h1:((decide (n < 0)) || (decide (n > 64)))=true
   ·rw [if_pos h1,if_pos h1]
   ·rw [if_neg h1,if_neg h1]
    by_cases h2:n > 12
    ·rw [if_pos h2,if_pos h2]
    ·rw [if_neg h2,if_neg h2]
     have h0:0≤n:=by simp at h1; omega
     have hs:=(pC_ok (confC_ok ha).1).1
     have hone:=r05_One.ok (s:=p.Space) hz.parts
     unfold oneR at hone
     rw [if_pos hs] at hone
     have key:=queue_loop hz hR (c0:=a) (n:=n) (by omega) 10001 [] [q0R p a] (QQ.start ha h0) (by simp)
     refine ⟨_,hone,_,key,?_⟩
     cases hb:bfsM p n 10001 [] [q0R p a] with
     | ret e=>rfl
     | go q =>
      obtain ⟨hq,hlen⟩:=bfs_inv hR 10001 [] _ q (QQ.start ha h0) hb
      have key2:=(foldGLoop (l:=q) (b:=r13_runs.b3 c q) (fun i s=>(s,i)) id (fun _ y s=>if eqConf y.C c=true then s ++ [y] else s) (fun i s=>(s.length:Int)≤i) (fun i s i0 i1 hi=>by
       have hqi:=(hq _ (rdl_mem i0 i1)).run.conf
       have hw1:IntKind.i64.wrap (i + 1)=i + 1:=wrap64 (by omega) (by omega)
       refine ⟨?_,?_⟩
       ·unfold r13_runs.b3
        simp only [i1,if_true]
        refine ⟨⟨i0,i1⟩,_,r13_same.ok (conf_len hqi),?_⟩
        unfold r13_runs.j2
        by_cases he:eqConf (rdl q i).C c=true
        ·rw [if_pos he,if_pos he,hw1]
         exact ⟨⟨i0,i1⟩,by unfold Fits; omega,rfl⟩
        ·rw [if_neg he,if_neg he,hw1]
       ·split
        ·simp; omega
        ·omega) (fun s _=>by unfold r13_runs.b3; simp) [] (Int.le_refl 0)).1
      rw [foldG_filter] at key2
      exact ⟨_,key2,rfl⟩
  ·rw [if_neg hc,if_neg hc]
 ·rw [if_neg ha,if_neg ha]
  unfold r13_runs.j1
  rw [if_neg ha]
theorem rdl_map_at {α β:Type} [Inhabited α] [Inhabited β] (f:α→β) {l:List α} {i:Int} (i0:0≤i) (i1:i < l.length):rdl (l.map f) i=f (rdl l i):=by
 have h:=rdl_get (l:=l.map f) i0 (by simpa using i1)
 rw [List.getElem?_map,rdl_get i0 i1] at h
 exact (Option.some.inj h).symm
theorem r13_Runs.ok {p:TPds} (hz:p.Sized) (hR:∀ r ∈ p.Rules,Rng r.F) {a c:TConf} (hla:a.W.length≤maxLen) (hlc:c.W.length≤maxLen) (n:Int):r13_Runs.f p a c n (runsS p a c n):=by
 obtain ⟨_,hlen,_⟩:=queS_ok hR (a:=a) (c:=c) (n:=n)
 have key:=(foldGLoop (l:=(queS p a c n).1) (b:=r13_Runs.b1 (queS p a c n)) (fun i s=>(s,i)) id (fun _ y s=>s ++ [y.L]) (fun i s=>(s.length:Int)=i) (fun i s i0 i1 hi=>by
  refine ⟨?_,by simp; omega⟩
  unfold r13_Runs.b1
  simp only [i1,if_true]
  exact ⟨⟨i0,i1⟩,by unfold Fits; omega,by rw [wrap64 (by omega) (by omega)]⟩) (fun s _=>by unfold r13_Runs.b1; simp) [] rfl).1
 rw [foldG_more] at key
 exact ⟨_,r13_runs.ok hz hR hla hlc n,_,key,rfl⟩
def wMk (i:Int) (w:TWeight):Bool × Int × Int × List Int × List TCell × List TWeight × Int:=(w.Zero,w.Cost,w.Facts.Gen,w.Facts.Rows,w.Cells,w.Parts,i)
def wEx (w:TWeight):Bool × Int × Int × List Int × List TCell × List TWeight:=(w.Zero,w.Cost,w.Facts.Gen,w.Facts.Rows,w.Cells,w.Parts)
def worthS (p:TPds) (a c:TConf) (n:Int):TWeight × Int:=if (queS p a c n).2=0 then (foldG (fun _ y w=>eitherW p.Space w y.W) (queS p a c n).1 0 (zeroS p.Space),0) else (noneW,(queS p a c n).2)
theorem worth_inv {p:TPds} (hs:spaceOk p.Space=true) {q:List TRun_88} (hq:∀ y ∈ q,WOk p.Space y.W):WOk p.Space (foldG (fun _ y w=>eitherW p.Space w y.W) q 0 (zeroS p.Space)) :=
 foldG_inv (g:=fun (_:Int) (y:TRun_88) w=>eitherW p.Space w y.W) (fun _ w=>WOk p.Space w) q 0 (zeroS p.Space) (fun _ w x hx hw=>hw.either hs (hq x hx)) (WOk.zero hs)
theorem zero_of {s:TSpace} (hs:spaceOk s=true):zeroR s=(zeroS s,0):=by unfold zeroR; rw [if_pos hs]
theorem limit_Worth.ok {p:TPds} (hz:p.Sized) (hR:∀ r ∈ p.Rules,Rng r.F) {a c:TConf} (hla:a.W.length≤maxLen) (hlc:c.W.length≤maxLen) (n:Int):limit_Worth.f p a c n (worthS p a c n):=by
 refine ⟨_,limit_Runs.ok hz hR hla hlc n,?_⟩
 obtain ⟨hq,hlen,hcf⟩:=queS_ok hR (a:=a) (c:=c) (n:=n)
 unfold worthS
 show if (queS p a c n).2=0 then _ else _
 by_cases he:(queS p a c n).2=0
 ·rw [if_pos he,if_pos he]
  have ha:=hcf he
  have hs:=(pC_ok (confC_ok ha).1).1
  have hze:=weight_Zero.ok (s:=p.Space) hz.parts
  rw [zero_of hs] at hze
  refine ⟨_,hze,?_⟩
  have key:=(foldGLoop (l:=(queS p a c n).1) (b:=limit_Worth.b1 p a (runsS p a c n)) wMk wEx (fun _ y w=>eitherW p.Space w y.W) (fun _ w=>WOk p.Space w) (fun i w i0 i1 hi=>by
   obtain ⟨hqi,h12⟩:=hq _ (rdl_mem i0 i1)
   have hW:WOk p.Space (rdl (queS p a c n).1 i).W:=hqi.run.w
   refine ⟨?_,hi.either hs hW⟩
   have hln:=hqi.len
   have hr:rdl (runsS p a c n).1 i=(rdl (queS p a c n).1 i).L:=rdl_map_at (fun y:TRun_88=>y.L) i0 i1
   have hi1:i < ((runsS p a c n).1.length:Int):=by show i < (((queS p a c n).1.map (·.L)).length:Int); rw [List.length_map]; exact i1
   have hrun:=steps_Run.ok hz hR hla (l:=(rdl (queS p a c n).1 i).L) (by simp only [maxLen]; omega)
   have hm:runM p a (rdl (queS p a c n).1 i).L=((rdl (queS p a c n).1 i).C,(rdl (queS p a c n).1 i).W,0,0):=by
    unfold runM; rw [if_pos ha,hqi.fold]
   rw [hm] at hrun
   have hx:=weight_Combine.ok (s:=p.Space) hz.parts (WOk.two hs hi hW)
   have hcomb:combR p.Space [w,(rdl (queS p a c n).1 i).W]=(eitherW p.Space w (rdl (queS p a c n).1 i).W,0):=by
    unfold combR
    rw [if_pos (allC_one hs hi hW),combW_two hs hi]
   rw [hcomb] at hx
   unfold wMk limit_Worth.b1
   simp only [hi1,if_true]
   rw [hr]
   exact ⟨⟨i0,hi1⟩,_,hrun,_,by rw [TWeight.eta]; exact hx,by rw [wrap64 (by omega) (by omega)]⟩) (fun w _=>by
    unfold wMk wEx limit_Worth.b1 runsS; simp) (zeroS p.Space) (WOk.zero hs)).1
  refine ⟨_,key,?_⟩
  simp only [Fin.on,wEx,TWeight.eta]
 ·rw [if_neg he,if_neg he]; rfl
theorem r13_Worth.ok {p:TPds} (hz:p.Sized) (hR:∀ r ∈ p.Rules,Rng r.F) {a c:TConf} (hla:a.W.length≤maxLen) (hlc:c.W.length≤maxLen) (n:Int):r13_Worth.f p a c n (worthS p a c n):=by
 refine ⟨_,r13_runs.ok hz hR hla hlc n,?_⟩
 obtain ⟨hq,hlen,hcf⟩:=queS_ok hR (a:=a) (c:=c) (n:=n)
 unfold worthS
 by_cases he:(queS p a c n).2=0
 ·rw [if_pos he,if_pos he]
  have hs:=(pC_ok (confC_ok (hcf he)).1).1
  have hze:=r05_Zero.ok (s:=p.Space) hz.parts
  rw [zero_of hs] at hze
  refine ⟨_,hze,?_⟩
  have key:=(foldGLoop (l:=(queS p a c n).1) (b:=r13_Worth.b1 p (queS p a c n)) wMk wEx (fun _ y w=>eitherW p.Space w y.W) (fun _ w=>WOk p.Space w) (fun i w i0 i1 hi=>by
   have hW:WOk p.Space (rdl (queS p a c n).1 i).W:=(hq _ (rdl_mem i0 i1)).1.run.w
   refine ⟨?_,hi.either hs hW⟩
   unfold wMk r13_Worth.b1
   simp only [i1,if_true]
   exact ⟨⟨i0,i1⟩,_,by rw [TWeight.eta]; exact r05_Either.ok hs hi.is hW.is hi.rng hW.rng,by rw [wrap64 (by omega) (by omega)]⟩) (fun w _=>by
    unfold wMk wEx r13_Worth.b1; simp) (zeroS p.Space) (WOk.zero hs)).1
  refine ⟨_,key,?_⟩
  simp only [Fin.on,wEx,TWeight.eta]
 ·rw [if_neg he,if_neg he]; rfl
def pA:TPds:=⟨⟨2,9,[]⟩,1,1,[⟨0,0,0,[0,0],⟨false,1,⟨0,[]⟩,[],[]⟩⟩,⟨0,0,0,[],⟨false,2,⟨0,[]⟩,[],[]⟩⟩]⟩
theorem pA_sized:pA.Sized:=by
 refine ⟨by simp [pA],by simp [pA],?_,?_⟩
 ·intro r hr; simp [pA] at hr; rcases hr with rfl | rfl <;> simp [maxLen]
 ·intro r hr; simp [pA] at hr; rcases hr with rfl | rfl <;> exact ⟨⟨by simp,by simp,by simp⟩,by simp⟩
theorem pA_rng:∀ r ∈ pA.Rules,Rng r.F:=by
 intro r hr
 have h:∀ x:Int,(Lit.int .i64 x).wf=true→Rng ⟨false,x,⟨0,[]⟩,[],[]⟩:=fun x hx=>⟨⟨⟨zero_InU,by simp⟩,by simp,hx⟩,by simp⟩
 simp [pA] at hr
 rcases hr with rfl | rfl
 ·exact h 1 (wf_small (x:=1) (by decide) (by decide))
 ·exact h 2 (wf_small (x:=2) (by decide) (by decide))
theorem runs_A:runsS pA ⟨0,[0]⟩ ⟨0,[0]⟩ 2=([[],[0,1]],0):=by kernel_rfl
theorem worth_A:worthS pA ⟨0,[0]⟩ ⟨0,[]⟩ 3=(⟨false,2,⟨0,[]⟩,[],[]⟩,0):=by kernel_rfl
theorem l13_alive.ok:l13_alive.f true:=by
 have h:=limit_Runs.ok pA_sized pA_rng (a:=⟨0,[0]⟩) (c:=⟨0,[0]⟩) (by simp [maxLen]) (by simp [maxLen]) 2
 have g:=limit_Worth.ok pA_sized pA_rng (a:=⟨0,[0]⟩) (c:=⟨0,[]⟩) (by simp [maxLen]) (by simp [maxLen]) 3
 rw [runs_A] at h
 rw [worth_A] at g
 refine ⟨_,h,_,g,fun _ _ _=>⟨by decide,by decide⟩,fun _ _ _ _=>⟨by decide,by decide⟩,fun _ _ _ _=>⟨by decide,by decide⟩,?_⟩
 rfl
theorem l13_turns.some (n:Int):∃ m,l13_turns.f n m:=by
 unfold l13_turns.f
 by_cases h:((decide (n > 4)) && (decide (n≤64)))=true
 ·exact ⟨4,by rw [if_pos h]⟩
 ·exact ⟨n,by rw [if_neg h]⟩
theorem Law.LimitRuns (a0:TQuery) (a1:TConf) (a2:TConf) (a3:Int) (y0:TQuery.Fit a0) (y1:TConf.Fit a1) (y2:TConf.Fit a2) (w3:(Lit.int .i64 a3).wf=true):l13_LimitRuns.f a0 a1 a2 a3 true:=by
 have hz:=y0.1.sized
 have hR:=y0.1.rngs
 have hl1:a1.W.length≤maxLen:=y1.2.2.1
 have hl2:a2.W.length≤maxLen:=y2.2.2.1
 have main:∀ n,l13_LimitRuns.j1 a0 a1 a2 n true:=fun n=>by
  obtain ⟨hq,hlen,hcf⟩:=queS_ok hR (a:=a1) (c:=a2) (n:=n)
  have hrl:(runsS a0.P a1 a2 n).1.length≤10000:=by show ((queS a0.P a1 a2 n).1.map (·.L)).length≤10000; rw [List.length_map]; exact hlen
  have hflat:Flat (worthS a0.P a1 a2 n).1:=by
   unfold worthS
   by_cases he:(queS a0.P a1 a2 n).2=0
   ·rw [if_pos he]
    have hs:=(pC_ok (confC_ok (hcf he)).1).1
    exact (worth_inv hs fun y hy=>(hq y hy).1.run.w).flat hs
   ·rw [if_neg he]; exact flat_none
  refine ⟨_,limit_Runs.ok hz hR hl1 hl2 n,_,r13_Runs.ok hz hR hl1 hl2 n,_,limit_Worth.ok hz hR hl1 hl2 n,_,r13_Worth.ok hz hR hl1 hl2 n,true,fun _ _=>r05_Same.refl hflat,?_⟩
  rw [if_neg (by simp)]
  have key:=Loop.of (b:=l13_LimitRuns.b1 (runsS a0.P a1 a2 n) (runsS a0.P a1 a2 n)) (fun _=>.go ()) (fun i=>(((runsS a0.P a1 a2 n).1.length:Int) - i).toNat) (fun i=>0≤i) (fun i hi=>by
   by_cases h:i < ((runsS a0.P a1 a2 n).1.length:Int)
   ·refine .inl ⟨i + 1,?_,by omega,by omega,rfl⟩
    have hr:rdl (runsS a0.P a1 a2 n).1 i ∈ (runsS a0.P a1 a2 n).1:=rdl_mem hi h
    have h12:(rdl (runsS a0.P a1 a2 n).1 i).length≤12:=by
     obtain ⟨y,hy,e⟩:=List.mem_map.1 (show rdl (runsS a0.P a1 a2 n).1 i ∈ (queS a0.P a1 a2 n).1.map (·.L) from hr)
     rw [← e]
     have:=(hq y hy).1.len
     have:=(hq y hy).2
     omega
    have hin:=Loop.of (b:=l13_LimitRuns.b2 (runsS a0.P a1 a2 n) (runsS a0.P a1 a2 n) i) (fun _=>.go ()) (fun k=>(((rdl (runsS a0.P a1 a2 n).1 i).length:Int) - k).toNat) (fun k=>0≤k) (fun k hk=>by
     by_cases h2:k < ((rdl (runsS a0.P a1 a2 n).1 i).length:Int)
     ·refine .inl ⟨k + 1,?_,by omega,by omega,rfl⟩
      unfold l13_LimitRuns.b2
      simp only [h2,if_true]
      exact ⟨⟨hi,h⟩,⟨hi,h⟩,⟨hk,h2⟩,⟨hi,h⟩,⟨hk,h2⟩,by rw [wrap64 (by omega) (by omega)]⟩
     ·refine .inr (.inl ⟨(),?_,rfl⟩)
      unfold l13_LimitRuns.b2
      simp only [h2,if_false]
      exact ⟨⟨hi,h⟩,trivial⟩) 0 (Int.le_refl 0)
    unfold l13_LimitRuns.b1
    simp only [h,if_true]
    refine ⟨⟨hi,h⟩,⟨hi,h⟩,_,hin,?_⟩
    rw [wrap64 (by omega) (by omega)] <;> rfl
   ·refine .inr (.inl ⟨(),?_,rfl⟩)
    unfold l13_LimitRuns.b1
    simp only [h,if_false]) 0 (Int.le_refl 0)
  exact ⟨_,key,true,l13_alive.ok,rfl⟩
 obtain ⟨t,ht⟩:=l13_Small.some a0
 refine ⟨t,ht,?_⟩
 split
 ·exact ⟨true,l13_alive.ok,rfl⟩
 ·split
  ·obtain ⟨m,hm⟩:=l13_turns.some a3
   exact ⟨m,hm,main m⟩
  ·exact main a3
end Go.RM.Tryz
