/-
  A region that draws its order and makes memory in its midst: what makes memory or writes stands in order; some others may come up at any time. Conditions: as before.
-/
import Derived.Test.YtjhnfomefcngfaaSyNa
import Derived.OrdersHeld
namespace Go.Sy
theorem Pz {u v:V} (h:(Q7 u v).sem = some ()):u = v ∧ ∀ (κ:Nat->Option Value) (S S':Nat->Prop) (w w':World) (c c':Value),VR S w u κ c->VR S' w' u κ c'->c = c':=by
 unfold Q7 at h
 split at h
 ·split at h
  ·rename_i h1 h2
   rw [Nat.eq_of_beq_eq_true h1,Nat.eq_of_beq_eq_true h2]
   refine ⟨rfl,λκ S S' w w' c c' q q'=>?_⟩
   obtain ⟨g,z1,z2⟩:=q
   obtain ⟨g',y1,y2⟩:=q'
   rw [z1] at y1
   simp at y1
   rw [z2,y2,y1]
  ·cases h
 ·split at h
  ·rename_i h1
   rw [Nat.eq_of_beq_eq_true h1]
   refine ⟨rfl,λκ S S' w w' c c' q q'=>?_⟩
   have z1:=q.1
   rw [q'.1] at z1
   exact (Option.some.inj z1).symm
  ·cases h
 ·split at h
  ·rename_i h1
   rw [Nat.eq_of_beq_eq_true h1]
   refine ⟨rfl,λκ S S' w w' c c' q q'=>?_⟩
   obtain ⟨ms,z1,_⟩:=q
   obtain ⟨ms',y1,_⟩:=q'
   rw [z1] at y1
   exact (AU y1).1
  ·cases h
 ·split at h
  ·rename_i h1
   obtain ⟨h4,_⟩:=Ad h
   rw [Nat.eq_of_beq_eq_true h1,Nat.eq_of_beq_eq_true h4]
   refine ⟨rfl,λκ S S' w w' c c' q q'=>?_⟩
   obtain ⟨o,ms,z1,z2,_⟩:=q
   obtain ⟨o',ms',y1,y2,_⟩:=q'
   rw [z1] at y1
   rw [(AU y1).2] at z2
   rw [z2] at y2
   exact Option.some.inj y2
  ·cases h
 ·split at h
  ·rename_i h1 h2 h3
   obtain ⟨h4,_⟩:=Ad h
   rw [Nat.eq_of_beq_eq_true h1,Nat.eq_of_beq_eq_true h2,Nat.eq_of_beq_eq_true h3,Nat.eq_of_beq_eq_true h4]
   refine ⟨rfl,λκ S S' w w' c c' q q'=>?_⟩
   obtain ⟨g,n,cap,z1,z2⟩:=q
   obtain ⟨g',n',cap',y1,y2⟩:=q'
   rw [z1] at y1
   simp at y1
   rw [z2,y2,y1.1]
  ·cases h
 ·split at h
  ·rename_i h1 h2 h3
   obtain ⟨h4,_⟩:=Ad h
   rw [Nat.eq_of_beq_eq_true h1,Nat.eq_of_beq_eq_true h2,Nat.eq_of_beq_eq_true h3,Nat.eq_of_beq_eq_true h4]
   refine ⟨rfl,λκ S S' w w' c c' q q'=>?_⟩
   obtain ⟨g,n,cap,ms,z1,z2⟩:=q
   obtain ⟨g',n',cap',ms',y1,y2⟩:=q'
   rw [z1] at y1
   have:=(AU y1).1
   simp at this
   rw [z2,y2,this.1]
  ·cases h
 ·split at h
  ·rename_i h1
   obtain ⟨h2,_⟩:=Ad h
   have h3:=Ti h1
   subst h3
   have h4:=of_decide_eq_true h2
   subst h4
   exact ⟨rfl,λκ S S' w w' c c' q q'=>(show c = _ from q).trans (show c' = _ from q').symm⟩
  ·cases h
 ·obtain ⟨h2,_⟩:=Ad h
  have h4:=(beq_iff_eq (α:=Bool)).1 h2
  subst h4
  exact ⟨rfl,λκ S S' w w' c c' q q'=>(show c = _ from q).trans (show c' = _ from q').symm⟩
 ·obtain ⟨h2,_⟩:=Ad h
  have h4:=(beq_iff_eq (α:=List UInt8)).1 h2
  subst h4
  exact ⟨rfl,λκ S S' w w' c c' q q'=>(show c = _ from q).trans (show c' = _ from q').symm⟩
 ·exact ⟨rfl,λκ S S' w w' c c' q q'=>(show c = _ from q).trans (show c' = _ from q').symm⟩
 ·cases h
theorem Py:∀ {us vs:List V},(Uu us vs).sem = some ()->us = vs ∧ ∀ (κ:Nat->Option Value) (S S':Nat->Prop) (w w':World) (l l':List Value),VR.go S w us κ l->VR.go S' w' us κ l'->l = l'
 | [],[],_=>⟨rfl,λκ S S' w w' l l' q q'=>(show l = [] from q).trans (show l' = [] from q').symm⟩
 | a :: us,b :: vs,h=>by
  obtain ⟨⟨⟩,h1,h2⟩:=An h
  obtain ⟨e1,p1⟩:=Pz h1
  obtain ⟨e2,p2⟩:=Py h2
  subst e1
  subst e2
  refine ⟨rfl,λκ S S' w w' l l' q q'=>?_⟩
  obtain ⟨x,m,rfl,x1,x2⟩:=q
  obtain ⟨y,m',rfl,y1,y2⟩:=q'
  rw [p1 κ S S' w w' x y x1 y1,p2 κ S S' w w' m m' x2 y2]
 | [],_ :: _,h=>by cases h
 | _ :: _,[],h=>by cases h
theorem Xs {u v:V} (h:(N3 u v).sem = some ()):u = v ∧ ∀ (κ:Nat->Option Value) (S S':Nat->Prop) (w w':World) (c c':Value),VR S w u κ c->VR S' w' u κ c'->c = c':=by
 unfold N3 at h
 split at h
 ·obtain ⟨e,p⟩:=Py h
  subst e
  refine ⟨rfl,λκ S S' w w' c c' q q'=>?_⟩
  obtain ⟨l,rfl,q1⟩:=q
  obtain ⟨l',rfl,q2⟩:=q'
  rw [p κ S S' w w' l l' q1 q2]
 ·exact Pz h
section
variable {P:Program} {τ:List Ty} (hτ:TabOK P τ) {Γ:Cx0} {S:Nat->Prop} {w:World} {κ:Nat->Option Value} {st:St} {a:Act} {o:Oper}
theorem Ew (h:Dl o = true):o.guard = none ∧ (∃ d,o.dst = some d) ∧ (∀ cs b,o.op ≠ .select cs b) ∧
  ((∃ x,o.op = .move x) ∨ (∃ s x f,o.op = .fieldAddr s x f) ∨ (∃ t x i,o.op = .indexAddr t x i) ∨ (∃ t x,o.op = .load t x) ∨ (∃ x,o.op = .nilCheck x) ∨ (∃ op t x y z,o.op = .binOp op t x y z) ∨ ∃ t p,o.op = .build t p):=by
 unfold Dl at h
 split at h
 ·cases h
 ·rename_i hg
  split at h
  all_goals first
   | (rename_i ho
      split at h
      ·rename_i d hd
       refine ⟨hg,⟨d,hd⟩,λcs b=>by rw [ho]; simp,?_⟩
       rw [ho]
       simp
      ·cases h)
   | cases h
include hτ in
theorem XH (hg:Good κ S st.h w) (hE:Eb Γ S w) (ht:VRs S w st.t κ a.tmps.toList) (hk:Dl o = true) {v:V} (h:(Fw τ Γ o st).sem = some v):HB P a o S w κ v:=by
 have value:∀ c,(execOp a.eval o).run P w = .ok (.value c) w->VR S w v κ c->HB P a o S w κ v:=λc h1 h2=>⟨c,h1,h2⟩
 obtain ⟨_,_,_,hop⟩:=Ew hk
 unfold Fw at h
 rcases hop with ⟨x,ho⟩ | ⟨s,x,f,ho⟩ | ⟨t,x,ix,ho⟩ | ⟨t,x,ho⟩ | ⟨x,ho⟩ | ⟨op,t,x,y,yt,ho⟩ | ⟨t,parts,ho⟩
 ·simp only [ho] at h
  split at h
  ·cases h
  ·rw [Ac h] at value
   rw [Ac h]
   exact value _ (by unfold execOp; simp only [ho]; rfl) (Bo hE ht x)
 ·simp only [ho] at h
  exact K6 (P:=P) hτ (Bo hE ht x) (by unfold execOp; simp only [ho,Sem.run_bind,Sem.run_pure]) h
 ·simp only [ho] at h
  exact K0 (P:=P) hτ hg (Bo hE ht x) (Bo hE ht ix) (by unfold execOp; simp only [ho,Sem.run_bind,Sem.run_pure]) h
 ·simp only [ho] at h
  obtain ⟨c,h2,h3⟩:=Wt (P:=P) hτ hg (Bo hE ht x) h
  refine value c ?_ h3
  unfold execOp
  simp only [ho,Sem.run_bind,h2,Result.andThen_ok,Sem.run_pure]
 ·simp only [ho] at h
  have hx:=Bo hE ht x
  split at h
  ·rename_i id off hv
   rw [hv] at hx
   have hx':=hx
   obtain ⟨g,_,hcx⟩:=hx'
   rw [Ac h] at value ⊢
   exact value _ (by unfold execOp; simp only [ho,hcx]; rfl) (by rw [<- hcx]; exact hx)
  ·rename_i id s i off hv
   rw [hv] at hx
   have hx':=hx
   obtain ⟨g,n,cap,_,hcx⟩:=hx'
   rw [Ac h] at value ⊢
   exact value _ (by unfold execOp; simp only [ho,hcx]; rfl) (by rw [<- hcx]; exact hx)
  ·rename_i id s i off hv
   rw [hv] at hx
   have hx':=hx
   obtain ⟨g,n,cap,ms,_,hcx⟩:=hx'
   rw [Ac h] at value ⊢
   exact value _ (by unfold execOp; simp only [ho,hcx]; rfl) (by rw [<- hcx]; exact hx)
  ·rename_i id i s k off hv
   rw [hv] at hx
   have hx':=hx
   obtain ⟨o2,ms,g,n,cap,_,_,hcx⟩:=hx'
   rw [Ac h] at value ⊢
   exact value _ (by unfold execOp; simp only [ho,hcx]; rfl) (by rw [<- hcx]; exact hx)
  ·rename_i u hv
   rw [hv] at hx
   have hx':=hx
   obtain ⟨b,o',cv,hcx,_⟩:=hx'
   rw [Ac h] at value ⊢
   exact value _ (by unfold execOp; simp only [ho,hcx]; rfl) (by rw [<- hcx]; exact hx)
  ·rename_i f cs hv
   rw [hv] at hx
   have hx':=hx
   obtain ⟨ca,hcx,_⟩:=hx'
   rw [Ac h] at value ⊢
   exact value _ (by unfold execOp; simp only [ho,hcx]; rfl) (by rw [<- hcx]; exact hx)
  ·cases h
 ·simp only [ho] at h
  obtain ⟨c,h2,h3⟩:=WY (P:=P) hτ h (Bo hE ht x) (Bo hE ht y) x y
  refine value c ?_ h3
  unfold execOp
  simp only [ho]
  rw [Sem.run_bind,h2]
  rfl
 ·simp only [ho] at h
  have hpr:=Oz hE ht parts.toList
  have hpr:PartsR S w κ (evs Γ st parts.toList) (parts.map λ(i,x)=>(i,a.eval x)).toList:=by simpa using hpr
  obtain ⟨c,h2,h3⟩:=TF (P:=P) hτ (DH h) hpr
  refine value c ?_ h3
  unfold execOp
  simp only [ho]
  rw [Sem.run_bind,h2]
  rfl
theorem S4 {all:Array Oper} (hk:Dl o = true):Dg τ Γ all o st = Fw τ Γ o ⟨DK (Cr all o) 0 st.t,st.h⟩:=by
 unfold Dg Id
 rw [(Ew hk).1]
theorem readsOf_late {all:Array Oper} (hk:Dl o = true) {t:Nat} (h:Du t (Cr all o) = true):t ∈ o.looksAt all:=by
 have key:∀ (l:List Operand) (t:Nat),Du t (HH l) = true->t ∈ l.filterMap (λ| .tmp t=>some t | _=>none):=by
  intro l
  induction l with
  | nil=>intro t h; cases h
  | cons x l ih =>
   intro t h
   cases x with
   | tmp q =>
    simp only [HH,Du] at h
    split at h
    ·rename_i hq
     have:=Nat.eq_of_beq_eq_true hq
     subst this
     simp
    ·exact List.mem_cons_of_mem _ (ih t h)
   | const v=>exact ih t h
   | global g=>exact ih t h
   | func f=>exact ih t h
 unfold Cr at h
 rw [(Ew hk).1] at h
 unfold Oper.looksAt
 exact List.mem_append_left _ (key _ _ h)
theorem AcL {rs:List Nat} (hlen:a.tmps.size = st.t.length) (h:∀ t,t < st.t.length->Du t rs = true->VR S w (nth st.t t) κ (a.tmps.getD t undef)):VRs S w (DK rs 0 st.t) κ a.tmps.toList:=by
 refine En _ _ (by rw [Array.length_toList,hlen,Di]) λt ht=>?_
 rw [Di] at ht
 rw [Kk,Nat.zero_add,Ct]
 split
 ·rename_i hmem
  exact h t ht hmem
 ·trivial
end
theorem BD {k:Nat}:∀ {l:List Nat},Du k l = true ↔ k ∈ l
 | []=>by simp [Du]
 | a :: l=>by
  simp only [Du]
  split
  ·rename_i h
   have:=Nat.eq_of_beq_eq_true h
   subst this
   simp
  ·rename_i h
   have:=Nat.ne_of_beq_eq_false h
   rw [BD (l:=l)]
   simp [Ne.symm this]
theorem I9 (a:Act) (d:Option Tmp) (c:Value) (t:Nat) (ht:t < a.tmps.size):(a.put d c).tmps.getD t undef = if d = some t then c else a.tmps.getD t undef:=by
 cases hod:d with
 | none=>simp [Act.put]
 | some d' =>
  simp only [Act.put]
  rw [Bw]
  by_cases hdt:d' = t
  ·subst hdt
   rw [if_pos ⟨rfl,ht⟩,if_pos rfl]
  ·rw [if_neg (λhc=>hdt hc.1.symm),if_neg (by simpa using hdt)]
theorem Ke (a:Act) (d:Option Tmp) (c:Value):(a.put d c).tmps.size = a.tmps.size:=by cases d <;> simp [Act.put]
structure LateR (ops:Array Oper) (m:Nat) (lts ls ps:List Nat):Prop where
 pairs:∀ p,p ∈ ps->m <= p ∧ p ∉ lts ∧ p+1 ∉ lts ∧ p+1 ∉ ps
 sel:∀ (j:Nat) (o:Oper) cs b,ops[j]? = some o->o.op ≠ .select cs b
 order:∀ i,m <= i->i < ops.size->(i ∈ lts->∀ j,j < i->Nat.testBit ((Region.before ops).getD i 0) j = true->j < m ∨ j ∈ lts) ∧ (i ∉ lts->∀ j,j < i->(Nat.testBit ((Region.before ops).getD i 0) j = true ∨ j ∈ lts) ∨ (j+1 = i ∧ j ∈ ps))
 rises:Ef 0 lts = true
 risesL:Ef m ls = true
 late:∀ j,m <= j->(j ∈ lts ↔ j ∈ ls)
 le:m <= ops.size
 kind:∀ q,q ∈ lts->∃ oq d,ops[q]? = some oq ∧ Dl oq = true ∧ oq.dst = some d ∧ d ∉ oq.looksAt ops
 apart:∀ q oq j oj,q ∈ lts->ops[q]? = some oq->(m <= j ∨ j ∈ lts)->j ≠ q->ops[j]? = some oj->Nat.testBit ((Region.before ops).getD q 0) j = true ∨ (((∀ e ∈ oj.after,Region.binds .any e = true->e.on ≠ q)->oq.apart ops oj = true) ∧ ∀ d,oj.dst = some d->d ∉ oq.looksAt ops ∨ (j ∉ lts ∧ Nat.testBit ((Region.before ops).getD j 0) q = true))
theorem HZ {all:Array Oper} {bf:Array Nat} {m:Nat} {lts:List Nat} {q:Nat} {oq:Oper}:∀ (l:List Oper) (j0:Nat),G7 all bf m lts q oq j0 l = true->∀ i oj,l[i]? = some oj->(m <= j0+i ∨ j0+i ∈ lts)->j0+i ≠ q ->
  Nat.testBit (bf.getD q 0) (j0+i) = true ∨ (((∀ e ∈ oj.after,Region.binds .any e = true->e.on ≠ q)->oq.apart all oj = true) ∧ ∀ d,oj.dst = some d->d ∉ oq.looksAt all ∨ (j0+i ∉ lts ∧ Nat.testBit (bf.getD (j0+i) 0) q = true))
 | [],_,_,i,oj,hi,_,_=>by simp at hi
 | o :: l,j0,h,i,oj,hi,hm,hne=>by
  simp only [G7] at h
  split at h
  ·rename_i hp
   cases i with
   | zero =>
    simp at hi
    subst hi
    rw [Nat.add_zero] at hm hne ⊢
    simp only [Bool.or_eq_true,Bool.and_eq_true] at hp
    rcases hp with ((hp | hp) | hp) | hp
    ·exact absurd (Nat.eq_of_beq_eq_true hp) hne
    ·exfalso
     rcases hm with hm | hm
     ·have:=hp.1
      simp at this
      omega
     ·have:=hp.2
      rw [BD.2 hm] at this
      cases this
    ·exact .inl hp
    ·refine .inr ⟨λhno=>hp.1.resolve_left λha=>?_,λd hd=>?_⟩
     ·obtain ⟨e,he,hb⟩:=List.any_eq_true.1 ha
      rw [Bool.and_eq_true] at hb
      exact hno e (by simpa using he) hb.1 (Nat.eq_of_beq_eq_true hb.2)
     ·have:=hp.2
      rw [hd] at this
      simp only [Bool.or_eq_true,Bool.and_eq_true,Bool.not_eq_true'] at this
      refine this.imp (λh=>by simpa using h) λh=>⟨λhc=>?_,h.2⟩
      have h1:=h.1
      rw [BD.2 hc] at h1
      cases h1
   | succ i =>
    have:=HZ l (Nat.succ j0) h i oj (by simpa using hi) (by rw [show Nat.succ j0+i = j0+(i+1) by omega]; exact hm) (by omega)
    rwa [show Nat.succ j0+i = j0+(i+1) by omega] at this
  ·cases h
theorem HY {bf:Array Nat} {m:Nat} {lts ps:List Nat}:∀ (l:List Oper) (i0:Nat),IL bf m lts ps i0 l = true->∀ k,k < l.length ->
  (i0+k ∈ lts->∀ j,j < i0+k->Nat.testBit (bf.getD (i0+k) 0) j = true->j < m ∨ j ∈ lts) ∧ (i0+k ∉ lts->∀ j,j < i0+k->(Nat.testBit (bf.getD (i0+k) 0) j = true ∨ j ∈ lts) ∨ (j+1 = i0+k ∧ j ∈ ps))
 | [],_,_,k,hk=>by simp at hk
 | o :: l,i0,h,k,hk=>by
  simp only [IL] at h
  split at h
  ·rename_i hp
   cases k with
   | zero =>
    rw [Nat.add_zero]
    split at hp
    ·rename_i hm
     have hm:=BD.1 hm
     refine ⟨λ_ j hj hb=>?_,λhn=>absurd hm hn⟩
     have:=List.all_eq_true.1 hp j (by simpa using hj)
     rw [hb] at this
     simp only [Bool.not_true,Bool.false_or,Bool.or_eq_true] at this
     exact this.imp (λh=>by simpa using h) BD.1
    ·rename_i hm
     refine ⟨λhn=>absurd (BD.2 hn) (by rw [hm]; simp),λ_ j hj=>?_⟩
     have:=List.all_eq_true.1 hp j (by simpa using hj)
     rw [Bool.or_eq_true,Bool.or_eq_true,Bool.and_eq_true] at this
     exact this.imp (λh=>h.imp (λh=>h) BD.1) λh=>⟨Nat.eq_of_beq_eq_true h.1,BD.1 h.2⟩
   | succ k =>
    have:=HY l (Nat.succ i0) h k (by simpa using hk)
    rw [show Nat.succ i0+k = i0+(k+1) by omega] at this
    exact this
  ·cases h
theorem NA:∀ {l:List Nat} {m:Nat},Ef m l = true->∀ q ∈ l,m <= q
 | [],_,_,q,hq=>by cases hq
 | a :: l,m,h,q,hq=>by
  simp only [Ef] at h
  split at h
  ·rename_i hle
   have hle:m <= a:=Nat.le_of_ble_eq_true hle
   rcases List.mem_cons.1 hq with rfl | hq
   ·exact hle
   ·have:=NA h q hq
    omega
  ·cases h
theorem SW {ops:Array Oper} {m:Nat} {es ls ps:List Nat} (h:UT ops m es ls ps = true):LateR ops m (es ++ ls) ls ps:=by
 unfold UT at h
 simp only [Bool.and_eq_true] at h
 obtain ⟨⟨⟨⟨⟨⟨⟨hps,h1⟩,h2⟩,h3⟩,h6⟩,h7⟩,h4⟩,h5⟩:=h
 have hle:m <= ops.size:=Nat.le_of_ble_eq_true h4
 have hq:∀ q,q ∈ es ++ ls->∃ oq d,ops[q]? = some oq ∧ Dl oq = true ∧ G7 ops (Region.before ops) m (es ++ ls) q oq 0 ops.toList = true ∧ oq.dst = some d ∧ d ∉ oq.looksAt ops:=λq hq=>by
  have:=List.all_eq_true.1 h5 q hq
  split at this
  ·rename_i oq ho
   simp only [Bool.and_eq_true] at this
   obtain ⟨⟨t1,t2⟩,t3⟩:=this
   split at t3
   ·rename_i d hd
    exact ⟨oq,d,ho,t1,t2,hd,by simpa using t3⟩
   ·cases t3
  ·cases this
 refine ⟨λp hp=>?_,λj o cs b ho he=>?_,λi hmi hi=>?_,h3,h6,λj hj=>?_,hle,λq hql=>?_,λq oq j oj hql ho hmj hne hj=>?_⟩
 ·have:=List.all_eq_true.1 hps p hp
  simp only [Bool.and_eq_true,Bool.not_eq_true'] at this
  obtain ⟨⟨⟨t1,t2⟩,t3⟩,t4⟩:=this
  exact ⟨Nat.le_of_ble_eq_true t1,(λhc=>by rw [BD.2 hc] at t2; cases t2),(λhc=>by rw [BD.2 hc] at t3; cases t3),(λhc=>by rw [BD.2 hc] at t4; cases t4)⟩
 ·have:=List.all_eq_true.1 h1 o (by rw [Array.mem_toList_iff]; exact Array.mem_of_getElem? ho)
  rw [he] at this
  cases this
 ·have:=HY _ m h2 (i - m) (by simp; omega)
  rw [show m+(i - m) = i by omega] at this
  exact this
 ·rw [List.mem_append]
  refine ⟨λhc=>hc.resolve_left λhc=>?_,.inr⟩
  have:=List.all_eq_true.1 h7 j hc
  simp at this
  omega
 ·obtain ⟨oq,d,t1,t2,_,t4,t5⟩:=hq q hql
  exact ⟨oq,d,t1,t2,t4,t5⟩
 ·obtain ⟨oq',d,t1,_,t3,_,_⟩:=hq q hql
  rw [ho] at t1
  simp only [Option.some.injEq] at t1
  subst t1
  have:=HZ _ 0 t3 j oj (by simpa using hj) (by rw [Nat.zero_add]; exact hmj) (by omega)
  rw [Nat.zero_add] at this
  exact this
theorem Cu {bf:Array Nat} {i q:Nat}:∀ {l:List Nat},q ∈ l->Nat.testBit (bf.getD i 0) q = false->q ∈ Cm bf i l
 | a :: l,h,hb=>by
  simp only [Cm]
  rcases List.mem_cons.1 h with rfl | h
  ·rw [hb]
   simp
  ·split
   ·exact Cu h hb
   ·exact List.mem_cons_of_mem _ (Cu h hb)
theorem Cd {bf:Array Nat} {i q:Nat}:∀ {l:List Nat},q ∈ Cm bf i l->q ∈ l
 | a :: l,h=>by
  simp only [Cm] at h
  split at h
  ·exact List.mem_cons_of_mem _ (Cd h)
  ·rcases List.mem_cons.1 h with rfl | h
   ·simp
   ·exact List.mem_cons_of_mem _ (Cd h)
section
variable {P:Program} {ops:Array Oper} {Q:Exit->Act->World->Prop} {md:Region.Mode} {G:Array Bool->World->Prop}
def GV (P:Program) (md:Region.Mode) (ops:Array Oper) (Q:Exit->Act->World->Prop) (G:Array Bool->World->Prop):Nat->Array Bool->Act->World->Prop
 | 0,listed,a,w=>Region.ready md ops listed = [] ∧ Q .normal a w
 | fuel+1,listed,a,w =>
  (Region.ready md ops listed = []->Q .normal a w) ∧
  ∀ i ∈ Region.ready md ops listed,wpOp P ops Q i (λa' w'=>G (listed.setIfInBounds i true) w' ∧ GV P md ops Q G fuel (listed.setIfInBounds i true) a' w') a w
theorem Ni:∀ (fuel:Nat) (listed:Array Bool) (a:Act) (w:World),GV P md ops Q G fuel listed a w->wpAny P md ops Q fuel listed a w
 | 0,_,_,_,h=>h
 | fuel+1,_,_,_,h=>⟨h.1,λi hi=>wpOp_mono (λa' w' h'=>Ni fuel _ a' w' h'.2) (h.2 i hi)⟩
theorem RM {listed:Array Bool} {a:Act} {w:World} (hr:Region.ready md ops listed = []) (h:Q .normal a w) :
  ∀ fuel,GV P md ops Q G fuel listed a w
 | 0=>⟨hr,h⟩
 | _+1=>⟨λ_=>h,by rw [hr]; simp⟩
theorem Qi {i:Nat} {oi:Oper} {v:Value} (hi:ops[i]? = some oi) (hsel:∀ (j:Nat) (o:Oper) cs b,ops[j]? = some o->o.op ≠ .select cs b)
  (hQ:∀ c a w,Q (.panic c) (a.put oi.dst v) w->Q (.panic c) a w) {S:World->Prop} {C:Array Bool->Prop}
  (hC:∀ listed j,C listed->j ∈ Region.ready md ops listed->j ≠ i->C (listed.setIfInBounds j true)) (hS:∀ listed w,C listed->G listed w->S w) (hG:∀ listed w,G (listed.setIfInBounds i true) w->G listed w) :
  ∀ (fuel:Nat) (listed:Array Bool) (a:Act) (w:World),C listed ->
   (∀ j oj,ops[j]? = some oj->j ≠ i->listed.getD j true = false->(∀ e ∈ oj.after,Region.binds md e = true->e.on ≠ i)->oi.apart ops oj = true) ->
   i ∈ Region.ready md ops listed->YieldsIf P ops S oi v a->S w->G (listed.setIfInBounds i true) w ->
   GV P md ops Q G fuel (listed.setIfInBounds i true) (a.put oi.dst v) w->GV P md ops Q G (fuel+1) listed a w:=by
 intro fuel
 induction fuel with
 | zero =>
  intro listed a w _ _ hr hy hs hg H
  refine ⟨λh=>(by rw [h] at hr; cases hr),λj hj=>?_⟩
  by_cases hji:j = i
  ·subst hji; exact hy.wpOp hi hs ⟨hg,H⟩
  ·have:=ready_mono hj hji
   rw [H.1] at this
   cases this
 | succ fuel ih =>
  intro listed a w hc hfree hr hy hs hg H
  refine ⟨λh=>(by rw [h] at hr; cases hr),λj hj=>?_⟩
  by_cases hji:j = i
  ·subst hji; exact hy.wpOp hi hs ⟨hg,H⟩
  ·have h1:=H.2 j (ready_mono hj hji)
   obtain ⟨hjun,oj,hoj,hall⟩:=mem_ready.1 hj
   have hnot:∀ e ∈ oj.after,Region.binds md e = true->e.on ≠ i:=λe he hb heq=>by
    have h1:=hall e he hb
    have h0:=(mem_ready.1 hr).1
    rw [heq] at h1
    rcases Nat.lt_or_ge i listed.size with h' | h'
    ·simp [h'] at h0 h1; rw [h0] at h1; cases h1
    ·simp [Array.getElem?_eq_none h'] at h1
   have h2:=wpOp_putIf hoj (hfree j oj hoj hji hjun hnot) (λcs b=>hsel i oi cs b hi) (λcs b=>hsel j oj cs b hoj) hQ hy h1
   have hfree':∀ k ok,ops[k]? = some ok->k ≠ i->(listed.setIfInBounds j true).getD k true = false ->
     (∀ e ∈ ok.after,Region.binds md e = true->e.on ≠ i)->oi.apart ops ok = true:=λk ok hk hki hun hno=>by
    refine hfree k ok hk hki ?_ hno
    by_cases hjk:j = k
    ·subst hjk; exact hjun
    ·rw [getD_set_ne true hjk] at hun; exact hun
   have hc':=hC listed j hc hj hji
   refine wpOp_mono (λa' w' h3=>?_) h2
   obtain ⟨h4,h5,h6⟩:=h3
   rw [Array.setIfInBounds_comm _ _ (Ne.symm hji)] at h5 h6
   exact ⟨hG _ _ h5,ih (listed.setIfInBounds j true) a' w' hc' hfree' (ready_mono hr (Ne.symm hji)) h4 (hS _ w' hc' (hG _ _ h5)) h5 h6⟩
end
def HF (ops:Array Oper) (A:Nat->Prop) (vals:Nat->V) (st:St) (i:Nat) (sti:St):Prop :=
 sti.h = st.h ∧ sti.t.length = st.t.length ∧
 (∀ j o t,ops[j]? = some o->o.dst = some t->t < st.t.length->A j->j < i->nth sti.t t = vals j) ∧
 ∀ t,(∀ j o,ops[j]? = some o->A j->j < i->o.dst ≠ some t)->nth sti.t t = nth st.t t
theorem HF.next {ops:Array Oper} (honce:Abz ops.toList) {A:Nat->Prop} {vals:Nat->V} {st sti:St} {i i':Nat} {o:Oper} (h:HF ops A vals st i sti) (hi:i < i') (hA:A i) (hb:∀ j,A j->i < j->i' <= j) (ho:ops[i]? = some o) :
  HF ops A vals st i' (put sti o.dst (vals i)):=by
 obtain ⟨h1,h2,h3,h4⟩:=h
 refine ⟨by rw [F1,h1],by rw [F0,h2],λj oj t hj hd ht hAj hji=>?_,λt hno=>?_⟩
 ·rw [Kj,h2]
  by_cases he:j = i
  ·subst he
   rw [ho] at hj
   simp only [Option.some.injEq] at hj
   subst hj
   rw [if_pos ⟨hd,ht⟩]
  ·rw [if_neg (λhc=>he (honce j i oj o t (by simpa using hj) (by simpa using ho) hd hc.1))]
   refine h3 j oj t hj hd ht hAj ?_
   rcases Nat.lt_or_ge j i with hc | hc
   ·exact hc
   ·have:=hb j hAj (by omega)
    omega
 ·rw [Kj,if_neg (λhc=>hno i o ho hA hi hc.1)]
  exact h4 t λj oj hj hAj hji=>hno j oj hj hAj (by omega)
theorem HF.of {ops:Array Oper} {A:Nat->Prop} {vals:Nat->V} {st sti:St} {i i':Nat} (h:HF ops A vals st i sti) (he:∀ j,A j->(j < i ↔ j < i')):HF ops A vals st i' sti:=by
 obtain ⟨h1,h2,h3,h4⟩:=h
 exact ⟨h1,h2,λj oj t hj hd ht hAj hji=>h3 j oj t hj hd ht hAj ((he j hAj).2 hji),λt hno=>h4 t λj oj hj hAj hji=>hno j oj hj hAj ((he j hAj).1 hji)⟩
theorem Og {τ:List Ty} {Γ:Cx0} {ops:Array Oper} (honce:Abz ops.toList) {st:St} {A:Nat->Prop} {v0:Nat->V}:∀ (l:List Nat) (b:Nat) (sti st2:St),
  (Hb τ Γ ops l sti).sem = some st2->Ef b l = true->(∀ j,b <= j->(A j ↔ j ∈ l))->HF ops A v0 st b sti ->
  ∃ vals,(∀ j,j < b->vals j = v0 j) ∧ HF ops A vals st ops.size st2 ∧ ∀ q o,q ∈ l->ops[q]? = some o->∃ stq,HF ops A vals st q stq ∧ (Dg τ Γ ops o stq).sem = some (vals q)
 | [],b,sti,st2,h,_,hA,hst=>by
  have h:=Ac h
  subst h
  refine ⟨v0,λ_ _=>rfl,?_,λq o hq=>by cases hq⟩
  rcases Nat.lt_or_ge ops.size b with hc | hc
  ·obtain ⟨h1,h2,h3,h4⟩:=hst
   refine ⟨h1,h2,λj oj t hj hd ht hAj hji=>h3 j oj t hj hd ht hAj (by omega),λt hno=>h4 t λj oj hj hAj hjb=>?_⟩
   exact hno j oj hj hAj (Array.getElem?_eq_some_iff.1 hj).1
  ·refine hst.of λj hAj=>⟨λhj=>by omega,λhj=>?_⟩
   rcases Nat.lt_or_ge j b with hc' | hc'
   ·exact hc'
   ·exact absurd ((hA j hc').1 hAj) (by simp)
 | q :: l,b,sti,st2,h,hr,hA,hst=>by
  simp only [Ef] at hr
  split at hr
  ·rename_i hle
   have hle:b <= q:=Nat.le_of_ble_eq_true hle
   simp only [Hb] at h
   split at h
   ·rename_i o ho
    obtain ⟨v,h1,h2⟩:=An h
    have hrise:=NA hr
    have hAq:A q:=(hA q hle).2 (by simp)
    let v1:Nat->V:=λj=>if j = q then v else v0 j
    have hq0:HF ops A v1 st q sti:=by
     have h5:HF ops A v0 st q sti:=hst.of λj hAj=>⟨λhj=>by omega,λhj=>by
      rcases Nat.lt_or_ge j b with hc | hc
      ·exact hc
      ·have:=(hA j hc).1 hAj
       rcases List.mem_cons.1 this with rfl | hm
       ·omega
       ·have:=hrise j hm
        omega⟩
     obtain ⟨e1,e2,e3,e4⟩:=h5
     exact ⟨e1,e2,λj oj t hj hd ht hAj hji=>by rw [e3 j oj t hj hd ht hAj hji]; simp only [v1]; rw [if_neg (by omega)],e4⟩
    have hv1:v1 q = v:=by simp [v1]
    have hn:HF ops A v1 st (q+1) (put sti o.dst v):=by
     rw [<- hv1]
     exact hq0.next honce (by omega) hAq (λj _ hj=>by omega) ho
    obtain ⟨vals,g1,g2,g3⟩:=Og honce l (q+1) _ st2 h2 hr (λj hj=>by
     rw [hA j (by omega)]
     simp only [List.mem_cons]
     exact ⟨λhc=>hc.resolve_left (by omega),.inr⟩) hn
    refine ⟨vals,λj hj=>by rw [g1 j (by omega)]; simp only [v1]; rw [if_neg (by omega)],g2,λq' o' hq' ho'=>?_⟩
    rcases List.mem_cons.1 hq' with rfl | hm
    ·rw [ho] at ho'
     simp only [Option.some.injEq] at ho'
     subst ho'
     refine ⟨sti,?_,by rw [g1 q' (by omega),hv1]; exact h1⟩
     obtain ⟨e1,e2,e3,e4⟩:=hq0
     exact ⟨e1,e2,λj oj t hj hd ht hAj hji=>by rw [e3 j oj t hj hd ht hAj hji,g1 j (by omega)],e4⟩
    ·exact g3 q' o' hm ho'
   ·cases h
  ·cases hr
theorem HK {τ:List Ty} {Γ:Cx0} {all:Array Oper} {st:St}:∀ (l:List Nat),(Ds τ Γ all l st).sem = some ()->∀ q o,q ∈ l->all[q]? = some o ->
  ∃ d v,o.dst = some d ∧ (Dg τ Γ all o st).sem = some v ∧ (N3 v (nth st.t d)).sem = some ()
 | [],_,q,o,hq,_=>by cases hq
 | p :: l,h,q,o,hq,ho=>by
  simp only [Ds] at h
  split at h
  ·rename_i op hop
   split at h
   ·rename_i d hd
    obtain ⟨v,h1,h2⟩:=An h
    obtain ⟨⟨⟩,h3,h4⟩:=An h2
    rcases List.mem_cons.1 hq with rfl | hm
    ·rw [hop] at ho
     simp only [Option.some.injEq] at ho
     subst ho
     exact ⟨d,v,hd,h1,h3⟩
    ·exact HK l h4 q o hm ho
   ·cases h
  ·cases h
section
variable {P:Program} {τ:List Ty} (hτ:TabOK P τ) {Γ:Cx0} {ops:Array Oper} {Q:Exit->Act->World->Prop}
theorem Mid.step (honce:Abz ops.toList) {κ0:Nat->Option Value} {S0:Nat->Prop} {w0:World} {st:St} {vals:Nat->V} {X X':Nat->Prop} {κ:Nat->Option Value} {S:Nat->Prop} {a:Act} {w:World}
  (hm:Mid Γ κ0 S0 w0 st ops vals X κ S a w) {i:Nat} {o:Oper} (ho:ops[i]? = some o) (hX:¬ X i) (hX':∀ k,X' k ↔ (k = i ∨ X k))
  {κ':Nat->Option Value} {S':Nat->Prop} {c:Value} {w':World} (q1:Good κ' S' st.h w') (q2:VR S' w' (vals i) κ' c) (q3:Ext κ S st.h w κ' S' st.h w') (q4:∀ id c,κ id = some c->κ' id = some c) :
  Mid Γ κ0 S0 w0 st ops vals X' κ' S' (a.put o.dst c) w':=by
 have hput:∀ t,t < st.t.length->(a.put o.dst c).tmps.getD t undef = if o.dst = some t then c else a.tmps.getD t undef:=λt ht=>I9 a o.dst c t (by rw [hm.size]; exact ht)
 refine ⟨q1,hm.env.ext hm.good q3,hm.ext.trans q3,by rw [BK]; exact hm.defers,by rw [Ke]; exact hm.size,?_,?_⟩
 ·intro k ok t hk hdk ht hXk
  rw [hX'] at hXk
  rw [hput t ht]
  by_cases hki:k = i
  ·subst hki
   rw [ho] at hk
   simp only [Option.some.injEq] at hk
   subst hk
   rw [if_pos hdk]
   exact q2
  ·rw [if_neg (λhc=>hki (honce k i ok o t (by simpa using hk) (by simpa using ho) hdk hc))]
   exact VR.mono (q3.pers hm.good) _ _ _ _ q4 (hm.wrote k ok t hk hdk ht (hXk.resolve_left hki))
 ·intro t ht hno
  rw [hput t ht,if_neg (λhc=>hno i o ho ((hX' i).2 (.inl rfl)) hc)]
  exact VR.mono (q3.pers hm.good) _ _ _ _ q4 (hm.stays t ht (λk ok hk hXk=>hno k ok hk ((hX' k).2 (.inr hXk))))
theorem Mid.slot (hd:DV ops = true) {A:Nat->Prop} {κ0:Nat->Option Value} {S0:Nat->Prop} {w0:World} {st:St} {vals:Nat->V} {X:Nat->Prop} {κ:Nat->Option Value} {S:Nat->Prop} {a:Act} {w:World}
  (hm:Mid Γ κ0 S0 w0 st ops vals X κ S a w) (hcl:Er ops.toList X) (hXA:∀ k,X k->A k) {i:Nat} {o:Oper} (ho:ops[i]? = some o) (hX:¬ X i) (hafter:∀ e ∈ o.after,Region.binds .any e = true->X e.on) {sti:St} (hst:HF ops A vals st i sti) :
  VRs S w (DK (Cr ops o) 0 sti.t) κ a.tmps.toList:=by
 unfold DV at hd
 split at hd
 ·rename_i hback honce
  have honce:=Hh honce
  have hol:ops.toList[i]? = some o:=by simpa using ho
  have hr:=Gt ops.toList 0 hd i o hol
  rw [Nat.zero_add,BT] at hr
  obtain ⟨e1,e2,e3,e4⟩:=hst
  refine AcL (st:=sti) (by rw [hm.size,e2]) λt ht hmem=>?_
  rw [e2] at ht
  by_cases hex:∃ (j:Nat) (o':Oper),ops[j]? = some o' ∧ o'.dst = some t
  ·obtain ⟨j,o',hj,hdst⟩:=hex
   have hjl:ops.toList[j]? = some o':=by simpa using hj
   obtain ⟨hne,hlt,hgt⟩:=Hf ops.toList 0 hr j o' t hjl hdst hmem
   rw [Nat.zero_add] at hne hlt hgt
   rcases Nat.lt_or_gt_of_ne hne with hc | hc
   ·have hXj:=BL hcl (i+1) i j o (by omega) hol hafter (hlt hc)
    rw [e3 j o' t hj hdst ht (hXA j hXj) hc]
    exact hm.wrote j o' t hj hdst ht hXj
   ·have hnX:¬ X j:=λhXj=>hX (BL hcl (j+1) j i o' (by omega) hjl (λe he hb=>hcl j o' hjl hXj e he hb) (hgt hc))
    rw [e4 t (λk o'' hok _ hk hdk=>by
     have:=honce k j o'' o' t (by simpa using hok) hjl hdk hdst
     omega)]
    exact hm.stays t ht (λk o'' hok hXk hdk=>by
     have:=honce k j o'' o' t (by simpa using hok) hjl hdk hdst
     subst this
     exact hnX hXk)
  ·rw [e4 t (λk o'' hok _ _ hdk=>hex ⟨k,o'',hok,hdk⟩)]
   exact hm.stays t ht (λk o'' hok _ hdk=>hex ⟨k,o'',hok,hdk⟩)
 ·cases hd
theorem M4 {l:List Oper} {j:Nat} {o:Oper} (hj:l[j]? = some o) {e:Edge} (he:e ∈ o.after) (hb:Region.binds .any e = true):Nat.testBit ((C8 l).getD j 0) e.on = true:=by
 rw [Lc hj]
 unfold OL
 rw [<- Array.foldl_toList]
 have keep:∀ (es:List Edge) (acc:Array Nat) (s k:Nat),Nat.testBit s k = true->Nat.testBit (es.foldl (λs e=>if Region.binds .any e then s ||| 2 ^ e.on ||| acc.getD e.on 0 else s) s) k = true:=by
  intro es acc
  induction es with
  | nil=>intro s k h; exact h
  | cons x es ih =>
   intro s k h
   simp only [List.foldl_cons]
   refine ih _ k ?_
   split
   ·simp [Nat.testBit_or,h]
   ·exact h
 have main:∀ (es:List Edge) (acc:Array Nat) (s:Nat),e ∈ es->Nat.testBit (es.foldl (λs e=>if Region.binds .any e then s ||| 2 ^ e.on ||| acc.getD e.on 0 else s) s) e.on = true:=by
  intro es acc
  induction es with
  | nil=>intro s h; cases h
  | cons x es ih =>
   intro s h
   simp only [List.foldl_cons]
   rcases List.mem_cons.1 h with rfl | h
   ·rw [if_pos hb]
    exact keep es acc _ _ (by simp [Nat.testBit_or,Nat.testBit_two_pow])
   ·exact ih _ h
 exact main _ _ _ (by simpa using he)
theorem Oh (hτ:TabOK P τ) {st:St} {κ:Nat->Option Value} {S:Nat->Prop} {a:Act} {w:World} {q:Nat} {oq:Oper} (hg:Good κ S st.h w) (hE:Eb Γ S w) {h:List Blk} (hh:h = st.h)
  {ts:List V} (ht:VRs S w (DK (Cr ops oq) 0 ts) κ a.tmps.toList) (hk:Dl oq = true) {v:V} (hv:(Dg τ Γ ops oq ⟨ts,h⟩).sem = some v) (_:ops[q]? = some oq):HB P a oq S w κ v:=by
 subst hh
 rw [S4 hk] at hv
 exact XH (P:=P) (st:=⟨DK (Cr ops oq) 0 ts,st.h⟩) hτ hg hE ht hk hv
theorem Ym {κ:Nat->Option Value} {S:Nat->Prop} {w:World} (rs:List Nat) {vs:List V} {l:List Value} (h:VRs S w vs κ l):VRs S w (DK rs 0 vs) κ l:=by
 refine En _ _ (by rw [Di]; exact h.length) λt ht=>?_
 rw [Di] at ht
 rw [Kk]
 split
 ·exact h.nth t undef
 ·trivial
def SwQ (P:Program) (ops:Array Oper) (af:Act) (q:Nat) (w:World):Prop :=
 ∀ oq d,ops[q]? = some oq->oq.dst = some d->(execOp af.eval oq).run P w = .ok (.value (af.tmps.getD d undef)) w
def DO (ops:Array Oper) (m:Nat) (lts:List Nat) (listed:Array Bool) (q:Nat):Prop :=
 ∀ c,m <= c->c < ops.size->c ∉ lts->listed.getD c false = true->Nat.testBit ((Region.before ops).getD c 0) q = false
def GOf (P:Program) (ops:Array Oper) (m:Nat) (lts:List Nat) (af:Act) (listed:Array Bool) (w:World):Prop :=
 ∀ q,q ∈ lts->(∀ c,m <= c->c < ops.size->c ∉ lts->listed.getD c false = true->Nat.testBit ((Region.before ops).getD c 0) q = false)->SwQ P ops af q w
theorem GOf.less {m:Nat} {lts:List Nat} {af:Act} {i:Nat} (hi:i ∈ lts) {listed:Array Bool} {w:World} (h:GOf P ops m lts af (listed.setIfInBounds i true) w):GOf P ops m lts af listed w:=by
 intro q hq hc
 refine h q hq λc h1 h2 h3 h4=>hc c h1 h2 h3 ?_
 rw [Bw,if_neg (λhh=>h3 (by rw [hh.1]; exact hi))] at h4
 exact h4
include hτ in
theorem Gw {m:Nat} {lts ls ps:List Nat} (L:LateR ops m lts ls ps) {l:List Nat} (hsub:∀ q ∈ l,q ∈ lts) {st:St} {κ:Nat->Option Value} {S:Nat->Prop} {a af:Act} {w:World} (hr:Rel Γ κ S st a w) (h:(Ds τ Γ ops l st).sem = some ())
  {C:Nat->Prop} (hag:∀ q oq d,q ∈ lts->C q->ops[q]? = some oq->oq.dst = some d->execOp a.eval oq = execOp af.eval oq ∧ a.tmps.getD d undef = af.tmps.getD d undef ∧ d < st.t.length):∀ q,q ∈ l->C q->SwQ P ops af q w:=by
 intro q hq hcq oq d ho hd
 obtain ⟨d',v,hd',h1,h2⟩:=HK l h q oq hq ho
 rw [hd] at hd'
 simp only [Option.some.injEq] at hd'
 subst hd'
 obtain ⟨oq',_,ho',hk,_,_⟩:=L.kind q (hsub q hq)
 rw [ho] at ho'
 simp only [Option.some.injEq] at ho'
 subst ho'
 obtain ⟨e1,e2,e3⟩:=hag q oq d (hsub q hq) hcq ho hd
 obtain ⟨c,g1,g2⟩:=Oh (P:=P) hτ (st:=st) hr.good hr.env rfl (Ym (Cr ops oq) hr.tmps) hk h1 ho
 obtain ⟨rfl,one⟩:=Xs h2
 have hz:=hr.tmps.nth d undef
 rw [Ct] at hz
 have:=one κ S S w w c _ g2 hz
 rw [<- e1,<- e2,g1,this]
theorem PD {o:Oper} {d:Tmp} {cs:List V} (hτ:TabOK P τ) (h:PE τ o = some (d,cs)):o.guard = none ∧ o.dst = some d ∧ ∃ (z:Array Value) (t:TypeId),
  (∀ (a:Act) (w:World),(execOp a.eval o).run P w = .ok (.value (.pointer (some ⟨w.heap.size,0,none⟩))) (w.alloc (.cells z t))) ∧ ∀ (S:Nat->Prop) (w:World) (κ:Nat->Option Value),VRs S w cs κ z.toList:=by
 unfold PE at h
 split at h
 ·cases h
 ·rename_i hg
  split at h
  ·cases h
  ·rename_i d' hd
   split at h
   ·rename_i t ho
    split at h
    ·rename_i ty hty
     split at h
     ·rename_i cs' hcs
      split at h
      ·cases h
      ·simp only [Option.some.injEq,Prod.mk.injEq] at h
       obtain ⟨rfl,rfl⟩:=h
       obtain ⟨i,_,hi,_,_,_,_,hz,_⟩:=hτ.info hty
       obtain ⟨z,hzi,hzz⟩:∃ z,i.zero = some z ∧ ty.zero = ofValue z:=by
        cases hzz:i.zero with
        | none=>rw [hzz] at hz; rw [hz] at hcs; simp [V.cells] at hcs
        | some z=>rw [hzz] at hz; exact ⟨z,rfl,hz⟩
       refine ⟨hg,hd,z.cells,t,λa w=>?_,λS w κ=>(BW (v:=ty.zero) hcs (by rw [hzz]; exact C2 z)).1⟩
       unfold execOp
       simp only [ho,Instr.alloc,Sem.run_bind,zeroValue,typeInfo,run_program,Result.andThen_ok,hi,Sem.run_pure,hzi,newVar,newRow,run_newObj]
       rfl
     ·cases h
    ·cases h
   ·cases h
section
variable {κ:Nat->Option Value} {S:Nat->Prop} {w w':World} {h:List Blk} {b1 b2:Blk} {c1 c2:Value}
abbrev Dq (κ:Nat->Option Value) (n:Nat) (c1 c2:Value):Nat->Option Value:=Bm (Bm κ n c1) (n+1) c2
theorem MC {i n:Nat} (hi:i < n):Dq κ n c1 c2 i = κ i:=by
 unfold Dq Bm
 rw [if_neg (by omega),if_neg (by omega)]
theorem Ql {n:Nat}:Dq κ n c1 c2 n = some c1:=by simp [Dq,Bm]
theorem Qk {n:Nat}:Dq κ n c1 c2 (n+1) = some c2:=by simp [Dq,Bm]
theorem Ec (i k:Nat) (hi:i < h.length):AH (Dq κ h.length c1 c2) (h ++ [b1,b2]) i k ↔ AH κ h i k:=F3 (List.getElem?_append_left hi) (MC hi)
theorem GX (i k:Nat) (hi:h.length <= i) (hk:AH (Dq κ h.length c1 c2) (h ++ [b1,b2]) i k):(i = h.length ∧ inBlk (some c1) k b1) ∨ (i = h.length+1 ∧ inBlk (some c2) k b2):=by
 rcases Nat.lt_trichotomy i (h.length+1) with hl | rfl | hl
 ·obtain rfl:i = h.length:=by omega
  rw [AB (b:=b1) (by simp),Ql] at hk
  exact .inl ⟨rfl,hk⟩
 ·rw [AB (b:=b2) (by simp),Qk] at hk
  exact .inr ⟨rfl,hk⟩
 ·exact absurd hk (Dt (List.getElem?_eq_none (by simp; omega)))
theorem Good.two (g:Good κ S h w) (hw:∀ k,k < w.heap.size->w'.heap[k]? = w.heap[k]?) (hsz:w.heap.size <= w'.heap.size)
  (hB1:AT S w' (Dq κ h.length c1 c2) (some c1) b1) (hB2:AT S w' (Dq κ h.length c1 c2) (some c2) b2)
  (h1:∀ g,inBlk (some c1) g b1->w.heap.size <= g) (h2:∀ g,inBlk (some c2) g b2->w.heap.size <= g) (h12:∀ k,inBlk (some c1) k b1->¬ inBlk (some c2) k b2) :
  Good (Dq κ h.length c1 c2) S (h ++ [b1,b2]) w' ∧ ∀ id u,κ id = some u->Dq κ h.length c1 c2 id = some u:=by
 have hS:∀ b,S b->S b ∧ w'.heap[b]? = w.heap[b]?:=λb hb=>⟨hb,hw b (g.out b hb).1⟩
 have hk:∀ id u,κ id = some u->Dq κ h.length c1 c2 id = some u:=λid u hu=>by
  rcases Nat.lt_or_ge id h.length with hl | hl
  ·rw [MC hl]; exact hu
  ·rw [g.dom id hl] at hu; cases hu
 have hnew:∀ i k,h.length <= i->AH (Dq κ h.length c1 c2) (h ++ [b1,b2]) i k->w.heap.size <= k:=λi k hi hk=>by
  rcases GX i k hi hk with ⟨_,q⟩ | ⟨_,q⟩
  ·exact h1 k q
  ·exact h2 k q
 refine ⟨⟨?_,?_,?_,?_⟩,hk⟩
 ·intro i bl hi
  rcases Nat.lt_trichotomy i h.length with hl | rfl | hl
  ·rw [List.getElem?_append_left hl] at hi
   rw [MC hl]
   exact (g.blk i bl hi).mono hS hk λk hk'=>hw k ((g.blk i bl hi).lt hk')
  ·have e:(h ++ [b1,b2])[h.length]? = some b1:=by simp
   rw [e] at hi
   cases hi
   rw [Ql]
   exact hB1
  ·by_cases he:i = h.length+1
   ·subst he
    have e:(h ++ [b1,b2])[h.length+1]? = some b2:=by simp
    rw [e] at hi
    cases hi
    rw [Qk]
    exact hB2
   ·rw [List.getElem?_eq_none (by simp; omega)] at hi
    cases hi
 ·intro i j k hij hi hj
  rcases Nat.lt_or_ge i h.length with hl | hl
  ·have hi':=(Ec i k hl).1 hi
   rcases Nat.lt_or_ge j h.length with hl' | hl'
   ·exact g.sep i j k hij hi' ((Ec j k hl').1 hj)
   ·have:=hnew j k hl' hj
    have:=g.lt hi'
    omega
  ·rcases Nat.lt_or_ge j h.length with hl' | hl'
   ·have:=hnew i k hl hi
    have:=g.lt ((Ec j k hl').1 hj)
    omega
   ·rcases GX i k hl hi with ⟨e,q⟩ | ⟨e,q⟩ <;> rcases GX j k hl' hj with ⟨e',q'⟩ | ⟨e',q'⟩
    ·omega
    ·exact h12 k q q'
    ·exact h12 k q' q
    ·omega
 ·intro k hk'
  refine ⟨Nat.lt_of_lt_of_le (g.out k hk').1 hsz,λi hi=>?_⟩
  rcases Nat.lt_or_ge i h.length with hl | hl
  ·exact (g.out k hk').2 i ((Ec i k hl).1 hi)
  ·have:=hnew i k hl hi
   have:=(g.out k hk').1
   omega
 ·intro i hi
  simp at hi
  unfold Dq Bm
  rw [if_neg (by omega),if_neg (by omega)]
  exact g.dom i (by omega)
theorem Ext.two (hw:∀ k,k < w.heap.size->w'.heap[k]? = w.heap[k]?) (hsz:w.heap.size <= w'.heap.size) (hos:w'.os = w.os) (htape:w'.tape = w.tape) (hout:w'.output = w.output)
  (h1:∀ g,inBlk (some c1) g b1->w.heap.size <= g) (h2:∀ g,inBlk (some c2) g b2->w.heap.size <= g) (n1:¬ Db b1) (n2:¬ Db b2):Ext κ S h w (Dq κ h.length c1 c2) S (h ++ [b1,b2]) w':=by
 have hnew:∀ i k,h.length <= i->AH (Dq κ h.length c1 c2) (h ++ [b1,b2]) i k->w.heap.size <= k:=λi k hi hk=>by
  rcases GX i k hi hk with ⟨_,q⟩ | ⟨_,q⟩
  ·exact h1 k q
  ·exact h2 k q
 refine ⟨hos,htape,hout,hsz,λk hk _=>hw k hk,?_,λk hk=>.inl hk,λk hk=>hk,HQ hsz (λk hk _=>hw k hk) ?_ (λi e s n g k hi hk=>?_),λi bl hi hf=>?_⟩
 rotate_left
 ·intro i k hi hlt
  rcases Nat.lt_or_ge i h.length with hl | hl
  ·exact ⟨i,(Ec i k hl).1 hi,λe s n g hh=>⟨e,s,n,g,by rw [List.getElem?_append_left hl]; exact hh,Nat.le_refl _⟩⟩
  ·have:=hnew i k hl hi
   omega
 ·rcases Nat.lt_or_ge k w.heap.size with hl | hl
  ·exact DD.same (hw k hl)
  ·intro ca e z hca
   rw [Array.getElem?_eq_none hl] at hca
   cases hca
 ·rcases Nat.lt_trichotomy i h.length with hl | rfl | hl
  ·rw [List.getElem?_append_left hl] at hi
   exact ⟨MC hl,bl,hi,B9.refl hf⟩
  ·have e:(h ++ [b1,b2])[h.length]? = some b1:=by simp
   rw [e] at hi
   cases hi
   exact absurd hf n1
  ·by_cases he:i = h.length+1
   ·subst he
    have e:(h ++ [b1,b2])[h.length+1]? = some b2:=by simp
    rw [e] at hi
    cases hi
    exact absurd hf n2
   ·rw [List.getElem?_eq_none (by simp; omega)] at hi
    cases hi
 intro i k hi
 rcases Nat.lt_or_ge i h.length with hl | hl
 ·exact .inl ⟨i,(Ec i k hl).1 hi⟩
 ·exact .inr (hnew i k hl hi)
theorem FD {cs:List V}:¬ Db (.cells cs):=by
 rintro (⟨_,_,_,_,h⟩ | ⟨_,h⟩) <;> cases h
theorem Ab5 {cs cs':List V} {gA gB:Nat} {zA zB:Array Value} {tA tB:TypeId} (hg:Good κ S h w) (hw:∀ k,k < w.heap.size->w'.heap[k]? = w.heap[k]?) (hsz:w.heap.size <= w'.heap.size)
  (hA:w'.heap[gA]? = some (.cells zA tA (0,0))) (hB:w'.heap[gB]? = some (.cells zB tB (0,0))) (lA:w.heap.size <= gA) (lB:w.heap.size <= gB) (hne:gA ≠ gB)
  (vA:∀ (S:Nat->Prop) (w:World) (κ:Nat->Option Value),VRs S w cs κ zA.toList) (vB:∀ (S:Nat->Prop) (w:World) (κ:Nat->Option Value),VRs S w cs' κ zB.toList)
  (hos:w'.os = w.os) (htape:w'.tape = w.tape) (hout:w'.output = w.output) :
  ∃ κ',Good κ' S (h ++ [.cells cs,.cells cs']) w' ∧ Ext κ S h w κ' S (h ++ [.cells cs,.cells cs']) w' ∧ (∀ id u,κ id = some u->κ' id = some u) ∧
   VR S w' (.ptr h.length 0) κ' (.pointer (some ⟨gA,0,none⟩)) ∧ VR S w' (.ptr (Nat.succ h.length) 0) κ' (.pointer (some ⟨gB,0,none⟩)):=by
 have h1:∀ g,inBlk (some (.pointer (some ⟨gA,0,none⟩))) g (.cells cs)->w.heap.size <= g:=λg hgi=>by
  have hgi:Ay (some (.pointer (some ⟨gA,0,none⟩))) = some g:=hgi
  simp [Ay] at hgi
  omega
 have h2:∀ g,inBlk (some (.pointer (some ⟨gB,0,none⟩))) g (.cells cs')->w.heap.size <= g:=λg hgi=>by
  have hgi:Ay (some (.pointer (some ⟨gB,0,none⟩))) = some g:=hgi
  simp [Ay] at hgi
  omega
 obtain ⟨g1,g2⟩:=hg.two (w':=w') (b1:=.cells cs) (b2:=.cells cs') (c1:=.pointer (some ⟨gA,0,none⟩)) (c2:=.pointer (some ⟨gB,0,none⟩)) hw hsz
  ⟨gA,tA,zA,rfl,hA,vA _ _ _⟩ ⟨gB,tB,zB,rfl,hB,vB _ _ _⟩ h1 h2 (λk q q'=>by
   have q:Ay (some (.pointer (some ⟨gA,0,none⟩))) = some k:=q
   have q':Ay (some (.pointer (some ⟨gB,0,none⟩))) = some k:=q'
   simp [Ay] at q q'
   omega)
 exact ⟨_,g1,Ext.two hw hsz hos htape hout h1 h2 FD FD,g2,⟨gA,Ql,rfl⟩,⟨gB,Qk,rfl⟩⟩
end
theorem LX {b:Bool} {u:Unit} (h:(Abv b).sem = some u):b = true:=by
 unfold Abv at h
 split at h
 ·rfl
 ·cases h
theorem Cb {all:Array Oper} {st:St}:∀ {l:List Nat} {q:Nat},q ∈ GW all st l->q ∈ l ∧ ∃ o d,all[q]? = some o ∧ o.dst = some d ∧ AdR (nth st.t d) = true
 | p :: l,q,h=>by
  simp only [GW] at h
  split at h
  ·rename_i o ho
   split at h
   ·rename_i d hd
    split at h
    ·rename_i hv
     rcases List.mem_cons.1 h with rfl | h
     ·exact ⟨by simp,o,d,ho,hd,hv⟩
     ·exact ⟨List.mem_cons_of_mem _ (Cb h).1,(Cb h).2⟩
    ·exact ⟨List.mem_cons_of_mem _ (Cb h).1,(Cb h).2⟩
   ·exact ⟨List.mem_cons_of_mem _ (Cb h).1,(Cb h).2⟩
  ·exact ⟨List.mem_cons_of_mem _ (Cb h).1,(Cb h).2⟩
theorem DU {vs:List Nat}:∀ {l:List Nat} {q:Nat},q ∈ Hu vs l ↔ q ∈ l ∧ q ∉ vs
 | [],q=>by simp [Hu]
 | p :: l,q=>by
  simp only [Hu]
  split
  ·rename_i hp
   have hp:=BD.1 hp
   rw [DU,List.mem_cons]
   constructor
   ·exact λh=>⟨.inr h.1,h.2⟩
   ·rintro ⟨rfl | h,h2⟩
    ·exact absurd hp h2
    ·exact ⟨h,h2⟩
  ·rename_i hp
   have hp:p ∉ vs:=λhc=>by rw [BD.2 hc] at hp; cases hp
   rw [List.mem_cons,List.mem_cons,DU]
   constructor
   ·rintro (rfl | h)
    ·exact ⟨.inl rfl,hp⟩
    ·exact ⟨.inr h.1,h.2⟩
   ·rintro ⟨rfl | h,h2⟩
    ·exact .inl rfl
    ·exact .inr ⟨h,h2⟩
theorem Abj {w:World} {b o:Nat} {v:Value} (h:w.cell? ⟨b,o,none⟩ = some v):IsC w b:=by
 unfold World.cell? at h
 split at h
 ·rename_i c t z hb
  exact ⟨c,t,z,hb⟩
 ·cases h
theorem Acj {st:St} {κ:Nat->Option Value} {S:Nat->Prop} {a:Act} {w:World} (hr:Rel Γ κ S st a w) {y:Operand} {r:Option Nat} (h:Sr Γ st y = some r) :
  ∃ ad:Addr,a.eval y = .pointer (some ad) ∧ IsC w ad.block ∧ (match r with
   | some id=>∃ cs,st.h[id]? = some (.cells cs) ∧ AH κ st.h id ad.block
   | none=>S ad.block):=by
 have hv:=Bo hr.env hr.tmps y
 unfold Sr at h
 split at h
 ·rename_i id off he
  rw [he] at hv
  obtain ⟨g,hk,hc⟩:=hv
  split at h
  ·rename_i cs hcs
   simp only [Option.some.injEq] at h
   subst h
   obtain ⟨g',e,ca,hk',hh,_⟩:=hr.good.blk id _ hcs
   rw [hk] at hk'
   simp only [Option.some.injEq,Value.pointer.injEq,Addr.mk.injEq,and_true] at hk'
   obtain rfl:=hk'
   exact ⟨⟨g,off,none⟩,hc,⟨ca,e,_,hh⟩,cs,hcs,(AB hcs).2 (by rw [hk]; rfl)⟩
  ·cases h
 ·rename_i u us he
  rw [he] at hv
  obtain ⟨b,o,cv,hc,⟨ca,rfl,c0,l',rfl,_,_⟩,hat⟩:=hv
  simp only [Option.some.injEq] at h
  subst h
  obtain ⟨hS,hcell⟩:=hat 0 c0 (by simp [Value.cells])
  exact ⟨⟨b,o,none⟩,hc,Abj hcell,hS⟩
 ·cases h
theorem Pw {all:Array Oper} {st:St} {κ:Nat->Option Value} {S:Nat->Prop} {a:Act} {w w':World} (hr:Rel Γ κ S st a w) {q:Nat} (h:Mi Γ all st q = true)
  (hS:∀ b,IsC w b->S b->w'.heap[b]? = w.heap[b]?) (hO:∀ b id oq t y,all[q]? = some oq->oq.op = .load t y->Sr Γ st y = some (some id)->IsC w b->AH κ st.h id b->w'.heap[b]? = w.heap[b]?) :
  ∀ oq,all[q]? = some oq->FI P w w' (execOp a.eval oq):=by
 intro oq ho
 unfold Mi at h
 rw [ho] at h
 simp only at h
 split at h
 ·rename_i t x i hop
  unfold execOp
  simp only [hop]
  exact B5 (Qu _ _ _) λ_=>Ce _
 ·rename_i t y hop
  split at h
  ·rename_i r hs
   obtain ⟨ad,he,hc,hx⟩:=Acj hr hs
   unfold execOp
   simp only [hop,he]
   refine B5 (RY t ad hc ?_) λ_=>Ce _
   cases r with
   | none=>exact hS _ hc hx
   | some id =>
    obtain ⟨_,_,hx⟩:=hx
    exact hO _ id oq t y ho hop hs hc hx
  ·cases h
 ·cases h
theorem Sa {af a:Act} {q:Nat} {w w':World} (h:SwQ P ops af q w) (he:∀ oq,ops[q]? = some oq->execOp a.eval oq = execOp af.eval oq) (ht:∀ oq,ops[q]? = some oq->FI P w w' (execOp a.eval oq)):SwQ P ops af q w':=by
 intro oq d ho hd
 have h1:=h oq d ho hd
 rw [<- he oq ho] at h1 ⊢
 exact (ht oq ho _ _ h1).2
theorem Yt {o:Oper} {a:Act} {w:World} {K:Act->World->Prop} {t:TypeId} {x v:Operand} {ad:Addr} (ho:o.op = .store t x v) (hx:a.eval x = .pointer (some ad)) (hc:IsC w ad.block)
  (h:o.wp P a w (λa' w'=>(∀ k,k ≠ ad.block->w'.heap[k]? = w.heap[k]?)->K a' w') Q):o.wp P a w K Q:=by
 have hrun:(execOp a.eval o).run P w = ((Instr.storeAt t (.pointer (some ad)) (a.eval v)).run P w).andThen λ_ w'=>.ok .skip w':=by
  unfold execOp
  simp only [ho,hx,Sem.run_bind,Sem.run_pure]
 unfold Oper.wp at h ⊢
 rw [hrun] at h ⊢
 cases hs:(Instr.storeAt t (.pointer (some ad)) (a.eval v)).run P w with
 | halt y w' =>
  rw [hs] at h
  simp only [Result.andThen] at h ⊢
  cases y <;> simp only [Oper.upon] at h ⊢ <;> exact h
 | ok r w' =>
  rw [hs] at h
  simp only [Result.andThen,Oper.upon_skip] at h ⊢
  exact h (QM t ad (a.eval v) rfl w r w' hc hs).2
theorem Ad2 {vs:List Nat} {o:Oper} {st:St} {κ:Nat->Option Value} {S:Nat->Prop} {a af:Act} {w:World} {K:Act->World->Prop} (hr:Rel Γ κ S st a w) (hf:vs.all (Ov Γ ops o st) = true) {C:Nat->Prop}
  (hex:∀ q oq,q ∈ vs->C q->ops[q]? = some oq->execOp a.eval oq = execOp af.eval oq)
  (h:o.wp P a w (λa' w'=>(∀ q,q ∈ vs->C q->SwQ P ops af q w->SwQ P ops af q w')->K a' w') Q):o.wp P a w K Q:=by
 cases vs with
 | nil=>exact Oper.wp_mono (λa' w' hk=>hk λq hq=>by cases hq) h
 | cons q0 vs =>
  have h0:=List.all_eq_true.1 hf q0 (by simp)
  unfold Ov at h0
  split at h0
  rotate_left
  ·cases h0
  rename_i t x v ho
  split at h0
  rotate_left
  ·cases h0
  rename_i id off hev
  split at h0
  rotate_left
  ·cases h0
  rename_i cs hcs
  have hv:=Bo hr.env hr.tmps x
  rw [hev] at hv
  obtain ⟨g,hk,hc⟩:=hv
  obtain ⟨g',e,ca,hk',hh,_⟩:=hr.good.blk id _ hcs
  rw [hk] at hk'
  simp only [Option.some.injEq,Value.pointer.injEq,Addr.mk.injEq,and_true] at hk'
  obtain rfl:=hk'
  have hown:AH κ st.h id g:=(AB hcs).2 (by rw [hk]; rfl)
  refine Yt ho hc ⟨ca,e,_,hh⟩ (Oper.wp_mono (λa' w' hk2 hw'=>hk2 λq hq hcq hs=>?_) h)
  have hw':∀ k,k ≠ g->w'.heap[k]? = w.heap[k]?:=hw'
  have hq1:=List.all_eq_true.1 hf q hq
  unfold Ov at hq1
  simp only [ho,hev,hcs] at hq1
  have hsb:Mi Γ ops st q = true:=by
   unfold Mi
   split at hq1
   ·rename_i oq hoq
    split at hq1
    ·rename_i _ _ _ hop
     try simp only [hop]
    ·rename_i t2 y hop
     try simp only [hop]
     split at hq1
     ·rename_i id' hs'
      rw [hs']
     ·rename_i hs'
      rw [hs']
     ·cases hq1
    ·cases hq1
   ·cases hq1
  refine Sa hs (λoq hoq=>hex q oq hq hcq hoq) (Pw (P:=P) hr hsb (λb _ hb=>hw' b λhbg=>(hr.good.out b hb).2 id (by rw [hbg]; exact hown)) (λb id2 oq t2 y hoq hop hs2 _ hob=>hw' b λhbg=>?_))
  simp only [hoq,hop,hs2] at hq1
  split at hq1
  ·cases hq1
  ·rename_i hne
   subst hbg
   exact hr.good.sep id id2 b (λhc=>by rw [hc,Nat.beq_refl] at hne; cases hne) hown hob
include hτ in
theorem GK (hΓ:Bk P Γ) {m:Nat} {lts ls ps vs pl:List Nat} (L:LateR ops m lts ls ps) (hpl:∀ q,q ∈ pl->q ∈ lts) (hvs:∀ q,q ∈ vs->q ∈ lts) (hcov:∀ q,q ∈ lts->q ∈ vs ∨ q ∈ pl) (hd:DV ops = true) {af:Act}:∀ (n k fuel:Nat) (listed:Array Bool) (st st':St) (κ:Nat->Option Value) (S:Nat->Prop) (a:Act) (w:World),
  k+n = ops.size->m <= k->listed.size = ops.size->left ops.size listed = fuel->(∀ i,i < ops.size->(listed.getD i false = true ↔ (i < k ∨ i ∈ lts)))->(∀ p,p ∈ ps->p+1 ≠ k)->GOf P ops m lts af listed w->Rel Γ κ S st a w ->
  (∀ q oq d,q ∈ lts->DO ops m lts listed q->ops[q]? = some oq->oq.dst = some d->execOp a.eval oq = execOp af.eval oq ∧ a.tmps.getD d undef = af.tmps.getD d undef ∧ d < st.t.length) ->
  (CS τ Γ ops (Region.before ops) pl vs ps (lts ++ ps.map Nat.succ) k (ops.toList.drop k) st).sem = some st'->Way Γ κ S st.h w st' (λa' w'=>Q .normal a' w')->GV P .any ops Q (GOf P ops m lts af) fuel listed a w
 | 0,k,fuel,listed,st,st',κ,S,a,w,hk,hm,hsz,hf,hl,hp,hG,hr,hag,h,hw=>by
  rw [List.drop_eq_nil_of_le (by simp; omega)] at h
  have:=Ac h
  subst this
  refine RM ?_ (hw κ S a w hr (Ext.refl _ _ _ _)) _
  apply List.eq_nil_iff_forall_not_mem.2
  intro i hi
  obtain ⟨h0,o,ho,_⟩:=mem_ready.1 hi
  have hil:i < ops.size:=(Array.getElem?_eq_some_iff.1 ho).1
  have h1:=(hl i hil).2 (.inl (by omega))
  have hil':i < listed.size:=by omega
  simp [Array.getD,hil'] at h0 h1
  rw [h0] at h1
  cases h1
 | n+1,k,fuel,listed,st,st',κ,S,a,w,hk,hm,hsz,hf,hl,hp,hG,hr,hag,h,hw=>by
  have hlt:k < ops.size:=by omega
  have hlt':k < listed.size:=by omega
  have hdr:ops.toList.drop k = ops[k] :: ops.toList.drop (k+1):=by
   rw [List.drop_eq_getElem_cons (by simpa using hlt)]
   simp
  rw [hdr] at h
  simp only [CS] at h
  split at h
  ·-- it came up long ago
   rename_i hmem
   have hmem:k ∈ lts:=by
    rcases List.mem_append.1 (BD.1 hmem) with hc | hc
    ·exact hc
    ·obtain ⟨p,hp1,hp2⟩:=List.mem_map.1 hc
     exact absurd hp2 (hp p hp1)
   exact GK hΓ L hpl hvs hcov hd n (k+1) fuel listed st st' κ S a w (by omega) (by omega) hsz hf (λi hi=>by
    rw [hl i hi]
    constructor
    ·rintro (hc | hc)
     ·exact .inl (by omega)
     ·exact .inr hc
    ·rintro (hc | hc)
     ·by_cases hik:i = k
      ·subst hik; exact .inr hmem
      ·exact .inl (by omega)
     ·exact .inr hc) (λp hp1 hp2=>(L.pairs p hp1).2.1 (by rw [show p = k by omega]; exact hmem)) hG hr hag h hw
  ·rename_i hmem
   have hmem:k ∉ lts:=λhc=>by rw [BD.2 (List.mem_append.2 (.inl hc))] at hmem; cases hmem
   have hdo:=hd
   unfold DV at hdo
   split at hdo
   ·rename_i hback honce
    have honce:=Hh honce
    have hedges:=λi o hi=>CF ops.toList 0 hback i o hi
    have hlk:listed.getD k false = false:=by
     cases hq:listed.getD k false with
     | false=>rfl
     | true=>exact (((hl k hlt).1 hq).elim (λhc=>absurd hc (Nat.lt_irrefl k)) hmem).elim
    have hcl:Er ops.toList (λi=>listed.getD i false = true):=by
     intro q oq hq hX e he hb
     have hql:q < ops.size:=by
      have:=(List.getElem?_eq_some_iff.1 hq).1
      simpa using this
     have hlt2:=hedges q oq hq e he hb
     rw [Nat.zero_add] at hlt2
     rcases (hl q hql).1 hX with hc | hc
     ·exact (hl e.on (by omega)).2 (.inl (by omega))
     ·rcases Nat.lt_or_ge q m with hmq | hmq
      ·exact (hl e.on (by omega)).2 (.inl (by omega))
      ·have hbit:=M4 hq he hb
       rw [<- BT] at hbit
       rcases (L.order q hmq hql).1 hc e.on hlt2 hbit with h5 | h5
       ·exact (hl e.on (by omega)).2 (.inl (by omega))
       ·exact (hl e.on (by omega)).2 (.inr h5)
    split at h
    ·-- two variables,in any order
     rename_i hps
     have hps:=BD.1 hps
     obtain ⟨_,_,hk1l,hk1p⟩:=L.pairs k hps
     obtain ⟨stx,h1,h2⟩:=An h
     unfold SF at h1
     split at h1
     rotate_left
     ·cases h1
     rename_i o o' ho ho'
     have hlt1:k+1 < ops.size:=(Array.getElem?_eq_some_iff.1 ho').1
     split at h1
     rotate_left
     ·cases h1
     rename_i d cs d' cs' hc hc'
     obtain ⟨⟨⟩,sV,h1⟩:=An h1
     have sV:=List.all_eq_true.1 (LX sV)
     obtain ⟨⟨⟩,sA,h1⟩:=An h1
     obtain ⟨⟨⟩,sB,h1⟩:=An h1
     obtain ⟨⟨⟩,sAB,h1⟩:=An h1
     have h1:=Ac h1
     obtain ⟨n',rfl⟩:∃ n',n = n'+1:=⟨n - 1,by omega⟩
     have hdr1:ops.toList.drop (k+1) = ops[k+1] :: ops.toList.drop (k+2):=by
      rw [List.drop_eq_getElem_cons (by simpa using hlt1)]
      simp
     rw [hdr1] at h2
     simp only [CS] at h2
     rw [show Du (Nat.succ k) (lts ++ ps.map Nat.succ) = true from BD.2 (List.mem_append.2 (.inr (List.mem_map.2 ⟨k,hps,rfl⟩)))] at h2
     have h2:(CS τ Γ ops (Region.before ops) pl vs ps (lts ++ ps.map Nat.succ) (k+2) (ops.toList.drop (k+2)) stx).sem = some st':=h2
     obtain ⟨gA,dA,zA,tA,rA,vA⟩:=PD (P:=P) hτ hc
     obtain ⟨gB,dB,zB,tB,rB,vB⟩:=PD (P:=P) hτ hc'
     have hlk1:listed.getD (k+1) false = false:=by
      cases hq:listed.getD (k+1) false with
      | false=>rfl
      | true=>exact (((hl (k+1) hlt1).1 hq).elim (λhc=>absurd hc (by omega)) hk1l).elim
     have hol:ops.toList[k]? = some o:=by simpa using ho
     have hol':ops.toList[k+1]? = some o':=by simpa using ho'
     have hdd:d ≠ d':=λhe=>by
      have:=honce k (k+1) o o' d hol hol' dA (by rw [he]; exact dB)
      omega
     have apt:∀ i oi,m <= i->ops[i]? = some oi->listed.getD i false = false->i ∉ lts->∀ (b:Act) (c:Value) (C C':Nat->Prop),(∀ q,C' q->C q ∧ Nat.testBit ((Region.before ops).getD i 0) q = false)->b.tmps.size = st.t.length->(∀ q oq d,q ∈ lts->C q->ops[q]? = some oq->oq.dst = some d->execOp b.eval oq = execOp af.eval oq ∧ b.tmps.getD d undef = af.tmps.getD d undef ∧ d < st.t.length) ->
       ∀ q oq d,q ∈ lts->C' q->ops[q]? = some oq->oq.dst = some d->execOp (b.put oi.dst c).eval oq = execOp af.eval oq ∧ (b.put oi.dst c).tmps.getD d undef = af.tmps.getD d undef ∧ d < st.t.length:=by
      intro i oi hmi hoi hli hil b c C C' hCC hbs hb q oq dq hq hcq hoq hdq
      obtain ⟨hcq,hbit⟩:=hCC q hcq
      obtain ⟨e1,e2,e3⟩:=hb q oq dq hq hcq hoq hdq
      have hne:i ≠ q:=λhc=>hil (by rw [hc]; exact hq)
      have hap:∀ d,oi.dst = some d->d ∉ oq.looksAt ops:=by
       rcases L.apart q oq i oi hq hoq (.inl hmi) hne hoi with hb | hb
       ·exfalso
        rw [BT] at hb
        have hqs:=(Array.getElem?_eq_some_iff.1 hoq).1
        have:=BL hcl (q+1) q i oq (by omega) (by simpa using hoq) (λe he hb=>hcl q oq (by simpa using hoq) ((hl q hqs).2 (.inr hq)) e he hb) hb
        rw [hli] at this
        cases this
       ·exact λd hd=>(hb.2 d hd).resolve_right λhc=>by rw [hc.2] at hbit; cases hbit
      refine ⟨?_,?_,e3⟩
      ·rw [execOp_put (ops:=ops) oq (λcs b=>L.sel q oq cs b hoq) b _ c (λd' hd'=>hap d' hd')]
       exact e1
      ·rw [I9 b _ c dq (Nat.lt_of_lt_of_le e3 (Nat.le_of_eq hbs.symm)),if_neg (λhc=>hne (honce i q oi oq dq (by simpa using hoi) (by simpa using hoq) hc hdq))]
       exact e2
     have hasz:a.tmps.size = st.t.length:=by have:=hr.tmps.length; simpa using this
     have vag:∀ w2:World,(∀ q,q < w.heap.size->w2.heap[q]? = w.heap[q]?)->∀ q,q ∈ vs->DO ops m lts listed q->SwQ P ops af q w->SwQ P ops af q w2:=λw2 hw2 q hq hcq hs =>
      Sa hs (λoq hoq=>by obtain ⟨oq',dq,g1,_,g3,_⟩:=L.kind q (hvs q hq); rw [hoq] at g1; cases g1; exact (hag q oq dq (hvs q hq) hcq hoq g3).1) (Pw (P:=P) hr (sV q hq) (λb hb _=>hw2 b (by
       obtain ⟨c,t,z,hb⟩:=hb
       exact (Array.getElem?_eq_some_iff.1 hb).1)) (λb _ _ _ _ _ _ _ hb _=>hw2 b (by
       obtain ⟨c,t,z,hb⟩:=hb
       exact (Array.getElem?_eq_some_iff.1 hb).1)))
     have stepN:∀ i oi z t (K:Act->World->Prop) (b:Act) (v:World),ops[i]? = some oi->oi.guard = none->(∀ (a:Act) (w:World),(execOp a.eval oi).run P w = .ok (.value (.pointer (some ⟨w.heap.size,0,none⟩))) (w.alloc (.cells z t))) ->
       K (b.put oi.dst (.pointer (some ⟨v.heap.size,0,none⟩))) (v.alloc (.cells z t))->wpOp P ops Q i K b v:=by
      intro i oi z t K b v hoi hgi hrun hK
      unfold wpOp
      rw [hoi]
      simp only
      rw [if_pos (by unfold Region.wanted; rw [hgi])]
      left
      unfold Oper.wp
      rw [hrun]
      exact hK
     have oneN:∀ (di:Tmp) (csi:List V) (z:Array Value) (t:TypeId),(∀ (S:Nat->Prop) (w:World) (κ:Nat->Option Value),VRs S w csi κ z.toList) ->
       ∃ κ1,Rel Γ κ1 S (put ⟨st.t,st.h ++ [.cells csi]⟩ (some di) (.ptr st.h.length 0)) (a.put (some di) (.pointer (some ⟨w.heap.size,0,none⟩))) (w.alloc (.cells z t)):=by
      intro di csi z t vz
      have hw1:=CQ w (.cells z t)
      have hS:∀ b,S b->S b ∧ (w.alloc (.cells z t)).heap[b]? = w.heap[b]?:=λb hb=>⟨hb,hw1 b (hr.good.out b hb).1⟩
      have hc1:∀ g,inBlk (some (.pointer (some ⟨w.heap.size,0,none⟩))) g (.cells csi)->w.heap.size <= g:=λg hgi=>by
       have hgi:Ay (some (.pointer (some ⟨w.heap.size,0,none⟩))) = some g:=hgi
       simp [Ay] at hgi
       omega
      have hgd:=hr.good.push' (.cells csi) (.pointer (some ⟨w.heap.size,0,none⟩)) hw1 (by simp) ⟨w.heap.size,t,z,rfl,heap_alloc_new w _,vz _ _ _⟩ hc1
      have hex:=Ext.push' (κ:=κ) (S:=S) (h:=st.h) (.cells csi) (.pointer (some ⟨w.heap.size,0,none⟩)) hw1 (by simp) rfl rfl rfl hc1 FD
      refine ⟨_,by rw [F1]; exact hgd,hr.env.ext hr.good hex,Dh (st:=⟨st.t,st.h ++ [.cells csi]⟩) (VR.mono_go hS _ _ _ _ (hr.good.addK_sub _) hr.tmps) (show VR S (w.alloc (.cells z t)) (.ptr st.h.length 0) (Bm κ st.h.length (.pointer (some ⟨w.heap.size,0,none⟩))) (.pointer (some ⟨w.heap.size,0,none⟩)) from ⟨w.heap.size,by simp [Bm],rfl⟩),by rw [BK]; exact hr.defers⟩
     have stxh:stx.h = st.h ++ [.cells cs,.cells cs']:=by rw [h1]; rfl
     have stxt:stx.t = (st.t.set d (.ptr st.h.length 0)).set d' (.ptr (Nat.succ st.h.length) 0):=by rw [h1]; rfl
     have lenx:stx.t.length = st.t.length:=by rw [stxt]; simp
     have fin:∀ (a2:Act) (w2:World) (listed2:Array Bool) (f2:Nat),(∀ q,q < w.heap.size->w2.heap[q]? = w.heap[q]?)->(∃ κ2,Rel Γ κ2 S stx a2 w2 ∧ Ext κ S st.h w κ2 S stx.h w2)->listed2.size = ops.size->left ops.size listed2 = f2->(∀ q,q < ops.size->(listed2.getD q false = true ↔ (q < k+2 ∨ q ∈ lts))) ->
       (∀ q oq d,q ∈ lts->DO ops m lts listed2 q->ops[q]? = some oq->oq.dst = some d->execOp a2.eval oq = execOp af.eval oq ∧ a2.tmps.getD d undef = af.tmps.getD d undef ∧ d < st.t.length) ->
       GOf P ops m lts af listed2 w2 ∧ GV P .any ops Q (GOf P ops m lts af) f2 listed2 a2 w2:=by
      rintro a2 w2 listed2 f2 hw2 ⟨κ2,hr2,hx2⟩ hsz2 hf2 hl2 hag2
      have hag2:∀ q oq d,q ∈ lts->DO ops m lts listed2 q->ops[q]? = some oq->oq.dst = some d->execOp a2.eval oq = execOp af.eval oq ∧ a2.tmps.getD d undef = af.tmps.getD d undef ∧ d < stx.t.length:=by
       rw [lenx]
       exact hag2
      have hG2:GOf P ops m lts af listed2 w2:=λq hq hcq=>by
       rcases hcov q hq with hqv | hqp
       ·have hup:DO ops m lts listed q:=λc e1 e2 e3 e4=>hcq c e1 e2 e3 ((hl2 c e2).2 (((hl c e2).1 e4).imp (λe=>by omega) id))
        exact vag w2 hw2 q hqv hup (hG q hq hup)
       ·exact Gw hτ L (λq hq=>hpl q (Cd hq)) hr2 (by rw [<- h1] at sAB; exact sAB) hag2 q (Cu hqp (hcq (k+1) (by omega) hlt1 hk1l ((hl2 (k+1) hlt1).2 (.inl (by omega))))) hcq
      refine ⟨hG2,?_⟩
      exact GK hΓ L hpl hvs hcov hd n' (k+2) f2 listed2 stx st' κ2 S a2 w2 (by omega) (by omega) hsz2 hf2 hl2 (λp hp1 hp2=>hk1p (by rw [show k+1 = p by omega]; exact hp1)) hG2 hr2 hag2 h2 (hw.ext hx2)
     have relx:∀ (a2:Act) (w2:World) (gA gB:Nat),(∀ q,q < w.heap.size->w2.heap[q]? = w.heap[q]?)->w.heap.size <= w2.heap.size->w2.heap[gA]? = some (.cells zA tA (0,0))->w2.heap[gB]? = some (.cells zB tB (0,0))->w.heap.size <= gA->w.heap.size <= gB->gA ≠ gB ->
       w2.os = w.os->w2.tape = w.tape->w2.output = w.output->a2.defers = []->(∀ κ2,VRs S w2 st.t κ2 a.tmps.toList->VR S w2 (.ptr st.h.length 0) κ2 (.pointer (some ⟨gA,0,none⟩))->VR S w2 (.ptr (Nat.succ st.h.length) 0) κ2 (.pointer (some ⟨gB,0,none⟩))->VRs S w2 stx.t κ2 a2.tmps.toList) ->
       ∃ κ2,Rel Γ κ2 S stx a2 w2 ∧ Ext κ S st.h w κ2 S stx.h w2:=by
      intro a2 w2 gA gB q1 q2 q3 q4 q5 q6 q7 q8 q9 q10 q11 q12
      obtain ⟨κ2,p1,p2,p3,p4,p5⟩:=Ab5 (w':=w2) hr.good q1 q2 q3 q4 q5 q6 q7 vA vB q8 q9 q10
      have hS:∀ b,S b->S b ∧ w2.heap[b]? = w.heap[b]?:=λb hb=>⟨hb,q1 b (hr.good.out b hb).1⟩
      refine ⟨κ2,⟨by rw [stxh]; exact p1,hr.env.ext hr.good p2,q12 κ2 (VR.mono_go hS _ _ _ _ p3 hr.tmps) p4 p5,q11⟩,by rw [stxh]; exact p2⟩
     have hkT:listed.getD k true = false:=by
      simp [Array.getD,hlt'] at hlk ⊢
      exact hlk
     have hlt1':k+1 < listed.size:=by omega
     have hk1T:listed.getD (k+1) true = false:=by
      simp [Array.getD,hlt1'] at hlk1 ⊢
      exact hlk1
     have kready:k ∈ Region.ready .any ops listed:=by
      refine mem_ready.2 ⟨?_,o,ho,λe he hb=>?_⟩
      ·simp [Array.getD,hlt'] at hlk ⊢
       exact hlk
      ·have:=hedges k o hol e he hb
       exact (hl e.on (by omega)).2 (.inl (by omega))
     have gset:∀ (i q:Nat),i < ops.size->((listed.setIfInBounds i true).getD q false = true ↔ (q = i ∨ listed.getD q false = true)):=λi q hi=>by
      rw [Bw]
      by_cases hqi:q = i
      ·rw [if_pos ⟨hqi,by omega⟩]
       simp [hqi]
      ·rw [if_neg (λhc=>hqi hc.1)]
       simp [hqi]
     have both:∀ (i i2 q:Nat),i < ops.size->i2 < ops.size->(((listed.setIfInBounds i true).setIfInBounds i2 true).getD q false = true ↔ (q = i2 ∨ q = i ∨ listed.getD q false = true)):=λi i2 q hi hi2=>by
      rw [Bw]
      by_cases hqi:q = i2
      ·rw [if_pos ⟨hqi,by simp; omega⟩]
       simp [hqi]
      ·rw [if_neg (λhc=>hqi hc.1),gset i q hi]
       simp [hqi]
     have closed1:∀ i oi,ops.toList[i]? = some oi->i < ops.size->(∀ e ∈ oi.after,Region.binds .any e = true->listed.getD e.on false = true)->Er ops.toList (λq=>(listed.setIfInBounds i true).getD q false = true):=by
      intro i oi hoi his hed q oq hq hX e he hb
      refine (gset i e.on his).2 (.inr ?_)
      rcases (gset i q his).1 hX with rfl | hX
      ·rw [hoi] at hq
       cases hq
       exact hed e he hb
      ·exact hcl q oq hq hX e he hb
     have later:∀ (l2:Array Bool) (j:Nat),Er ops.toList (λq=>l2.getD q false = true)->l2.getD j false = false->j ∉ lts->∀ i,i ∈ Region.ready .any ops l2->m <= i->j < i->i ∉ lts->¬ (j+1 = i ∧ j ∈ ps)->False:=by
      intro l2 j hcl2 hj hjl i hi hmi hji hil hnp
      obtain ⟨h0,oi,hoi,hafter⟩:=mem_ready.1 hi
      have his:i < ops.size:=(Array.getElem?_eq_some_iff.1 hoi).1
      rcases (L.order i hmi his).2 hil j hji with (hb | hb) | hb
      ·rw [BT] at hb
       have:=BL hcl2 (i+1) i j oi (by omega) (by simpa using hoi) hafter hb
       rw [hj] at this
       cases this
      ·exact hjl hb
      ·exact hnp hb
     have notDone:∀ (l2:Array Bool) (i:Nat),l2.size = ops.size->i ∈ Region.ready .any ops l2->i < ops.size ∧ l2.getD i false = false:=λl2 i hs2 hi=>by
      obtain ⟨h0,oi,hoi,_⟩:=mem_ready.1 hi
      have his:i < ops.size:=(Array.getElem?_eq_some_iff.1 hoi).1
      have:i < l2.size:=by omega
      simp [Array.getD,this] at h0 ⊢
      exact ⟨his,h0⟩
     have hlsA:=D4 hlt hsz hkT
     have hlsB:=D4 hlt1 hsz hk1T
     obtain ⟨fuel',rfl⟩:∃ f,fuel = f+1:=⟨left ops.size (listed.setIfInBounds k true),by omega⟩
     refine ⟨λhready=>absurd kready (by rw [hready]; simp),λi hi=>?_⟩
     obtain ⟨his,hi0⟩:=notDone listed i hsz hi
     have hik:i = k ∨ i = k+1:=by
      have hki:¬ i < k:=λhc=>by rw [(hl i his).2 (.inl hc)] at hi0; cases hi0
      have hkl:i ∉ lts:=λhc=>by rw [(hl i his).2 (.inr hc)] at hi0; cases hi0
      rcases Nat.lt_or_ge (k+1) i with hgt | hge
      ·exact (later listed k hcl hlk hmem i hi (by omega) (by omega) hkl (λhc=>by omega)).elim
      ·omega
     rcases hik with rfl | rfl
     ·-- the first one first
      refine stepN i o zA tA _ a w ho gA rA ?_
      rw [dA]
      have hagA:=apt i o hm ho hlk hmem a (.pointer (some ⟨w.heap.size,0,none⟩)) (DO ops m lts listed) (DO ops m lts (listed.setIfInBounds i true)) (λq h=>⟨λc e1 e2 e3 e4=>h c e1 e2 e3 ((gset i c hlt).2 (.inr e4)),h i hm hlt hmem ((gset i i hlt).2 (.inl rfl))⟩) hasz hag
      rw [dA] at hagA
      obtain ⟨κ1,hr1⟩:=oneN d cs zA tA vA
      have hcl1:=closed1 i o hol hlt λe he hb=>by
       have:=hedges i o hol e he hb
       exact (hl e.on (by omega)).2 (.inl (by omega))
      have hs1:(listed.setIfInBounds i true).size = ops.size:=by simp [hsz]
      refine ⟨λq hq hcq=>?_,?_⟩
      ·rcases hcov q hq with hqv | hqp
       ·have hup:DO ops m lts listed q:=λc e1 e2 e3 e4=>hcq c e1 e2 e3 ((gset i c hlt).2 (.inr e4))
        exact vag _ (λq hq=>heap_alloc_old _ _ q hq) q hqv hup (hG q hq hup)
       ·exact Gw hτ L (λq hq=>hpl q (Cd hq)) hr1 sA (by rw [F0]; exact hagA) q (Cu hqp (hcq i hm hlt hmem ((gset i i hlt).2 (.inl rfl)))) hcq
      have hf1:left ops.size (listed.setIfInBounds i true) = fuel':=by omega
      have hk1T':(listed.setIfInBounds i true).getD (i+1) true = false:=by
       have hx:(listed.setIfInBounds i true).getD (i+1) false = false:=by
        cases hq:(listed.setIfInBounds i true).getD (i+1) false with
        | false=>rfl
        | true =>
         rcases (gset i (i+1) hlt).1 hq with hc | hc
         ·omega
         ·rw [hlk1] at hc; cases hc
       have:i+1 < (listed.setIfInBounds i true).size:=by omega
       simp only [Array.getD,this,dif_pos] at hx ⊢
       exact hx
      have hls2:=D4 hlt1 hs1 hk1T'
      obtain ⟨fuel2,rfl⟩:∃ f,fuel' = f+1:=⟨left ops.size ((listed.setIfInBounds i true).setIfInBounds (i+1) true),by omega⟩
      have ready2:i+1 ∈ Region.ready .any ops (listed.setIfInBounds i true):=by
       refine mem_ready.2 ⟨?_,o',ho',λe he hb=>?_⟩
       ·exact hk1T'
       ·have:=hedges (i+1) o' hol' e he hb
        refine (gset i e.on hlt).2 ?_
        by_cases hei:e.on = i
        ·exact .inl hei
        ·exact .inr ((hl e.on (by omega)).2 (.inl (by omega)))
      refine ⟨λhready=>absurd ready2 (by rw [hready]; simp),λi2 hi2=>?_⟩
      obtain ⟨his2,hi20⟩:=notDone _ i2 hs1 hi2
      have:i2 = i+1:=by
       have hn:¬ (i2 = i ∨ listed.getD i2 false = true):=λhc=>by rw [(gset i i2 hlt).2 hc] at hi20; cases hi20
       have hki:¬ i2 < i:=λhc=>hn (.inr ((hl i2 his2).2 (.inl hc)))
       have hkl:i2 ∉ lts:=λhc=>hn (.inr ((hl i2 his2).2 (.inr hc)))
       have hni:i2 ≠ i:=λhc=>hn (.inl hc)
       rcases Nat.lt_or_ge (i+1) i2 with hgt | hge
       ·refine (later _ (i+1) hcl1 ?_ hk1l i2 hi2 (by omega) (by omega) hkl (λhc=>hk1p hc.2)).elim
        have:i+1 < (listed.setIfInBounds i true).size:=by omega
        simp only [Array.getD,this,dif_pos] at hk1T' ⊢
        exact hk1T'
       ·omega
      subst this
      refine stepN (i+1) o' zB tB _ _ _ ho' gB rB ?_
      rw [dB]
      have hag2:=apt (i+1) o' (by omega) ho' hlk1 hk1l (a.put (some d) (.pointer (some ⟨w.heap.size,0,none⟩))) (.pointer (some ⟨(w.alloc (.cells zA tA)).heap.size,0,none⟩)) (DO ops m lts (listed.setIfInBounds i true)) (DO ops m lts ((listed.setIfInBounds i true).setIfInBounds (i+1) true)) (λq h=>⟨λc e1 e2 e3 e4=>h c e1 e2 e3 ((both i (i+1) c hlt hlt1).2 (.inr ((gset i c hlt).1 e4))),h (i+1) (by omega) hlt1 hk1l ((both i (i+1) (i+1) hlt hlt1).2 (.inl rfl))⟩) (by rw [Ke]; exact hasz) hagA
      rw [dB] at hag2
      refine fin _ _ _ _ ?_ (relx _ _ w.heap.size (w.alloc (.cells zA tA)).heap.size (λq hq=>?_) (by simp; omega) ?_ (heap_alloc_new _ _) (Nat.le_refl _) (by simp) (by simp) rfl rfl rfl (by rw [BK,BK]; exact hr.defers) (λκ2 t1 t2 t3=>?_)) (by simp [hsz]) (by omega) (λq hq=>?_) hag2
      ·exact λq hq=>by rw [heap_alloc_old _ _ q (by simp; omega),heap_alloc_old _ _ q hq]
      ·rw [heap_alloc_old _ _ q (by simp; omega),heap_alloc_old _ _ q hq]
      ·rw [heap_alloc_old _ _ w.heap.size (by simp),heap_alloc_new]
      ·rw [stxt]
       exact Dh (st:=⟨st.t.set d (.ptr st.h.length 0),[]⟩) (d:=some d') (Dh (st:=⟨st.t,[]⟩) (d:=some d) t1 t2) t3
      ·rw [both i (i+1) q hlt hlt1,hl q hq]
       constructor
       ·rintro (hc | hc | hc | hc)
        ·exact .inl (by omega)
        ·exact .inl (by omega)
        ·exact .inl (by omega)
        ·exact .inr hc
       ·rintro (hc | hc)
        ·by_cases h1:q = i+1
         ·exact .inl h1
         ·by_cases h2:q = i
          ·exact .inr (.inl h2)
          ·exact .inr (.inr (.inl (by omega)))
        ·exact .inr (.inr (.inr hc))
     ·-- the second one first
      refine stepN (k+1) o' zB tB _ a w ho' gB rB ?_
      rw [dB]
      have hagB:=apt (k+1) o' (by omega) ho' hlk1 hk1l a (.pointer (some ⟨w.heap.size,0,none⟩)) (DO ops m lts listed) (DO ops m lts (listed.setIfInBounds (k+1) true)) (λq h=>⟨λc e1 e2 e3 e4=>h c e1 e2 e3 ((gset (k+1) c hlt1).2 (.inr e4)),h (k+1) (by omega) hlt1 hk1l ((gset (k+1) (k+1) hlt1).2 (.inl rfl))⟩) hasz hag
      rw [dB] at hagB
      obtain ⟨κ1,hr1⟩:=oneN d' cs' zB tB vB
      have hcl1:=closed1 (k+1) o' hol' hlt1 λe he hb=>by
       obtain ⟨_,oi,hoi,hafter⟩:=mem_ready.1 hi
       rw [ho'] at hoi
       cases hoi
       exact hafter e he hb
      have hs1:(listed.setIfInBounds (k+1) true).size = ops.size:=by simp [hsz]
      refine ⟨λq hq hcq=>?_,?_⟩
      ·rcases hcov q hq with hqv | hqp
       ·have hup:DO ops m lts listed q:=λc e1 e2 e3 e4=>hcq c e1 e2 e3 ((gset (k+1) c hlt1).2 (.inr e4))
        exact vag _ (λq hq=>heap_alloc_old _ _ q hq) q hqv hup (hG q hq hup)
       ·exact Gw hτ L (λq hq=>hpl q (Cd hq)) hr1 sB (by rw [F0]; exact hagB) q (Cu hqp (hcq (k+1) (by omega) hlt1 hk1l ((gset (k+1) (k+1) hlt1).2 (.inl rfl)))) hcq
      have hf1:left ops.size (listed.setIfInBounds (k+1) true) = fuel':=by omega
      have hkT':(listed.setIfInBounds (k+1) true).getD k true = false:=by
       have hx:(listed.setIfInBounds (k+1) true).getD k false = false:=by
        cases hq:(listed.setIfInBounds (k+1) true).getD k false with
        | false=>rfl
        | true =>
         rcases (gset (k+1) k hlt1).1 hq with hc | hc
         ·omega
         ·rw [hlk] at hc; cases hc
       have:k < (listed.setIfInBounds (k+1) true).size:=by omega
       simp only [Array.getD,this,dif_pos] at hx ⊢
       exact hx
      have hls2:=D4 hlt hs1 hkT'
      obtain ⟨fuel2,rfl⟩:∃ f,fuel' = f+1:=⟨left ops.size ((listed.setIfInBounds (k+1) true).setIfInBounds k true),by omega⟩
      have ready2:k ∈ Region.ready .any ops (listed.setIfInBounds (k+1) true):=by
       refine mem_ready.2 ⟨?_,o,ho,λe he hb=>?_⟩
       ·exact hkT'
       ·have:=hedges k o hol e he hb
        exact (gset (k+1) e.on hlt1).2 (.inr ((hl e.on (by omega)).2 (.inl (by omega))))
      refine ⟨λhready=>absurd ready2 (by rw [hready]; simp),λi2 hi2=>?_⟩
      obtain ⟨his2,hi20⟩:=notDone _ i2 hs1 hi2
      have:i2 = k:=by
       have hn:¬ (i2 = k+1 ∨ listed.getD i2 false = true):=λhc=>by rw [(gset (k+1) i2 hlt1).2 hc] at hi20; cases hi20
       have hki:¬ i2 < k:=λhc=>hn (.inr ((hl i2 his2).2 (.inl hc)))
       have hkl:i2 ∉ lts:=λhc=>hn (.inr ((hl i2 his2).2 (.inr hc)))
       have hni:i2 ≠ k+1:=λhc=>hn (.inl hc)
       rcases Nat.lt_or_ge k i2 with hgt | hge
       ·refine (later _ k hcl1 ?_ hmem i2 hi2 (by omega) (by omega) hkl (λhc=>hni hc.1.symm)).elim
        have:k < (listed.setIfInBounds (k+1) true).size:=by omega
        simp only [Array.getD,this,dif_pos] at hkT' ⊢
        exact hkT'
       ·omega
      subst this
      refine stepN i2 o zA tA _ _ _ ho gA rA ?_
      rw [dA]
      have hag2:=apt i2 o hm ho hlk hmem (a.put (some d') (.pointer (some ⟨w.heap.size,0,none⟩))) (.pointer (some ⟨(w.alloc (.cells zB tB)).heap.size,0,none⟩)) (DO ops m lts (listed.setIfInBounds (i2+1) true)) (DO ops m lts ((listed.setIfInBounds (i2+1) true).setIfInBounds i2 true)) (λq h=>⟨λc e1 e2 e3 e4=>h c e1 e2 e3 ((both (i2+1) i2 c hlt1 hlt).2 (.inr ((gset (i2+1) c hlt1).1 e4))),h i2 hm hlt hmem ((both (i2+1) i2 i2 hlt1 hlt).2 (.inl rfl))⟩) (by rw [Ke]; exact hasz) hagB
      rw [dA] at hag2
      refine fin _ _ _ _ ?_ (relx _ _ (w.alloc (.cells zB tB)).heap.size w.heap.size (λq hq=>?_) (by simp; omega) (heap_alloc_new _ _) ?_ (by simp) (Nat.le_refl _) (by simp) rfl rfl rfl (by rw [BK,BK]; exact hr.defers) (λκ2 t1 t2 t3=>?_)) (by simp [hsz]) (by omega) (λq hq=>?_) hag2
      ·exact λq hq=>by rw [heap_alloc_old _ _ q (by simp; omega),heap_alloc_old _ _ q hq]
      ·rw [heap_alloc_old _ _ q (by simp; omega),heap_alloc_old _ _ q hq]
      ·rw [heap_alloc_old _ _ w.heap.size (by simp),heap_alloc_new]
      ·rw [stxt,List.set_comm _ _ hdd]
       exact Dh (st:=⟨st.t.set d' (.ptr (Nat.succ st.h.length) 0),[]⟩) (d:=some d) (Dh (st:=⟨st.t,[]⟩) (d:=some d') t1 t3) t2
      ·rw [both (i2+1) i2 q hlt1 hlt,hl q hq]
       constructor
       ·rintro (hc | hc | hc | hc)
        ·exact .inl (by omega)
        ·exact .inl (by omega)
        ·exact .inl (by omega)
        ·exact .inr hc
       ·rintro (hc | hc)
        ·by_cases h1:q = i2+1
         ·exact .inr (.inl h1)
         ·by_cases h2:q = i2
          ·exact .inl h2
          ·exact .inr (.inr (.inl (by omega)))
        ·exact .inr (.inr (.inr hc))
    rename_i hnps
    have hnps:k ∉ ps:=λhc=>by rw [BD.2 hc] at hnps; cases hnps
    have only:∀ i,i ∈ Region.ready .any ops listed->i = k:=by
     intro i hi
     obtain ⟨h0,o,ho,hafter⟩:=mem_ready.1 hi
     have hil:i < ops.size:=(Array.getElem?_eq_some_iff.1 ho).1
     have hil':i < listed.size:=by omega
     have h0':listed.getD i false = false:=by
      simp [Array.getD,hil'] at h0 ⊢
      exact h0
     have hki:¬ i < k:=λhc=>by rw [(hl i hil).2 (.inl hc)] at h0'; cases h0'
     have hkl:i ∉ lts:=λhc=>by rw [(hl i hil).2 (.inr hc)] at h0'; cases h0'
     rcases Nat.lt_or_ge k i with hgt | hge
     ·exfalso
      have hb:=(((L.order i (by omega) hil).2 hkl k hgt).resolve_right (λhc=>hnps hc.2)).resolve_right hmem
      rw [BT] at hb
      have:=BL hcl (i+1) i k o (by omega) (by simpa using ho) hafter hb
      rw [hlk] at this
      cases this
     ·omega
    have kready:k ∈ Region.ready .any ops listed:=by
     refine mem_ready.2 ⟨?_,ops[k],by simp [hlt],λe he hb=>?_⟩
     ·simp [Array.getD,hlt'] at hlk ⊢
      exact hlk
     ·have:=hedges k ops[k] (by simp [hlt]) e he hb
      exact (hl e.on (by omega)).2 (.inl (by omega))
    have hlT:listed.getD k true = false:=by
     simp [Array.getD,hlt'] at hlk ⊢
     exact hlk
    have hls:=D4 hlt hsz hlT
    obtain ⟨fuel',rfl⟩:∃ f,fuel = f+1:=⟨left ops.size (listed.setIfInBounds k true),by omega⟩
    refine ⟨λhready=>absurd kready (by rw [hready]; simp),λi hi=>?_⟩
    have:=only i hi
    subst this
    obtain ⟨⟨⟩,hft,h⟩:=An h
    have hft:=LX hft
    obtain ⟨st1,h1,h2⟩:=An h
    obtain ⟨⟨⟩,h3,h4⟩:=An h2
    have hl':∀ q,q < ops.size->((listed.setIfInBounds i true).getD q false = true ↔ (q < i+1 ∨ q ∈ lts)):=by
     intro q hq
     rw [Bw]
     by_cases hqi:q = i
     ·rw [if_pos ⟨hqi,by omega⟩]
      simp
      left
      omega
     ·rw [if_neg (λhc=>hqi hc.1),hl q hq]
      constructor
      ·rintro (hc | hc)
       ·exact .inl (by omega)
       ·exact .inr hc
      ·rintro (hc | hc)
       ·exact .inl (by omega)
       ·exact .inr hc
    have hoi:ops[i]? = some ops[i]:=by simp [hlt]
    have hap:∀ q oq,q ∈ lts->ops[q]? = some oq->i ≠ q->((∀ e ∈ (ops[i]).after,Region.binds .any e = true->e.on ≠ q)->oq.apart ops ops[i] = true) ∧ ∀ d,(ops[i]).dst = some d->d ∉ oq.looksAt ops ∨ (i ∉ lts ∧ Nat.testBit ((Region.before ops).getD i 0) q = true):=by
     intro q oq hq ho hne
     rcases L.apart q oq i ops[i] hq ho (.inl hm) hne hoi with hb | hb
     ·exfalso
      rw [BT] at hb
      have hqs:=(Array.getElem?_eq_some_iff.1 ho).1
      have:=BL hcl (q+1) q i oq (by omega) (by simpa using ho) (λe he hb=>hcl q oq (by simpa using ho) ((hl q hqs).2 (.inr hq)) e he hb) hb
      rw [hlk] at this
      cases this
     ·exact hb
    have gsetN:∀ c,listed.getD c false = true->(listed.setIfInBounds i true).getD c false = true:=λc hc=>by
     rw [Bw]
     split
     ·rfl
     ·exact hc
    have gsetI:(listed.setIfInBounds i true).getD i false = true:=by rw [Bw,if_pos ⟨rfl,by omega⟩]
    have hag':∀ (c:Value),∀ q oq d,q ∈ lts->DO ops m lts (listed.setIfInBounds i true) q->ops[q]? = some oq->oq.dst = some d->execOp (a.put ops[i].dst c).eval oq = execOp af.eval oq ∧ (a.put ops[i].dst c).tmps.getD d undef = af.tmps.getD d undef ∧ d < st.t.length:=by
     intro c q oq d hq hup ho hdq
     have hbit:=hup i hm hlt hmem gsetI
     obtain ⟨e1,e2,e3⟩:=hag q oq d hq (λc e1 e2 e3 e4=>hup c e1 e2 e3 (gsetN c e4)) ho hdq
     have hne:i ≠ q:=λhc=>hmem (by rw [hc]; exact hq)
     refine ⟨?_,?_,e3⟩
     ·rw [execOp_put (ops:=ops) oq (λcs b=>L.sel q oq cs b ho) a _ c (λd' hd'=>((hap q oq hq ho hne).2 d' hd').resolve_right λhc=>by rw [hc.2] at hbit; cases hbit)]
      exact e1
     ·have hsz2:a.tmps.size = st.t.length:=by have:=hr.tmps.length; simpa using this
      rw [I9 a _ c d (Nat.lt_of_lt_of_le e3 (Nat.le_of_eq hsz2.symm)),if_neg (λhc=>hne (honce i q ops[i] oq d (by simp) (by simpa using ho) hc hdq))]
      exact e2
    have hfu:left ops.size (listed.setIfInBounds i true) = fuel':=by omega
    unfold wpOp
    rw [hoi]
    simp only
    unfold N7 at h1
    rcases Ic hr.tmps h1 with ⟨hwant,hrun⟩ | ⟨hwant,hskip⟩
    ·rw [if_pos hwant]
     left
     obtain ⟨⟨v,st2⟩,h5,h6⟩:=An hrun
     have h6:=Ac h6
     refine Ad2 (af:=af) (vs:=Cm (Region.before ops) i vs) (C:=DO ops m lts listed) hr hft (λq oq hq hcq hoq=>by obtain ⟨oq',dq,e1,_,e3,_⟩:=L.kind q (hvs q (Cd hq)); rw [hoq] at e1; cases e1; exact (hag q oq dq (hvs q (Cd hq)) hcq hoq e3).1) ?_
     refine Qx (P:=P) hτ hΓ hr.good hr.env hr.tmps h5 ?_
     intro κ' S' c w' q1 q2 q3 q4 hfoot
     have hr':Rel Γ κ' S' st1 (a.put ops[i].dst c) w':=by
      subst h6
      exact ⟨by rw [F1]; exact q1,hr.env.ext hr.good q4,Dh q2 q3,by rw [BK]; exact hr.defers⟩
     have hlen:st1.t.length = st.t.length:=by
      have g1:=hr'.tmps.length
      have g2:=hr.tmps.length
      rw [Array.length_toList,Ke] at g1
      rw [Array.length_toList] at g2
      omega
     have hag2:∀ q oq d,q ∈ lts->DO ops m lts (listed.setIfInBounds i true) q->ops[q]? = some oq->oq.dst = some d->execOp (a.put ops[i].dst c).eval oq = execOp af.eval oq ∧ (a.put ops[i].dst c).tmps.getD d undef = af.tmps.getD d undef ∧ d < st1.t.length:=by
      rw [hlen]
      exact hag' c
     have hG':GOf P ops m lts af (listed.setIfInBounds i true) w':=λq hq hcq=>by
      have hbit:=hcq i hm hlt hmem (by rw [Bw,if_pos ⟨rfl,by omega⟩])
      rcases hcov q hq with hqv | hqp
      ·have hup:DO ops m lts listed q:=λc e1 e2 e3 e4=>hcq c e1 e2 e3 (gsetN c e4)
       exact hfoot q (Cu hqv hbit) hup (hG q hq hup)
      ·exact Gw hτ L (λq hq=>hpl q (Cd hq)) hr' h3 hag2 q (Cu hqp hbit) hcq
     refine ⟨hG',?_⟩
     refine GK hΓ L hpl hvs hcov hd n (i+1) fuel' _ st1 st' κ' S' _ w' (by omega) (by omega) (by simp [hsz]) hfu hl' (λp hp1 hp2=>hnps (by rw [show i = p by omega]; exact hp1)) hG' hr' hag2 h4 ?_
     subst h6
     rw [F1]
     exact hw.ext q4
    ·rw [if_neg (by rw [hwant]; simp)]
     have h6:=Ac hskip
     have hr':Rel Γ κ S st1 (a.put ops[i].dst undef) w:=by
      subst h6
      exact ⟨by rw [F1]; exact hr.good,hr.env,Dh hr.tmps rfl,by rw [BK]; exact hr.defers⟩
     have hag2:∀ q oq d,q ∈ lts->DO ops m lts (listed.setIfInBounds i true) q->ops[q]? = some oq->oq.dst = some d->execOp (a.put ops[i].dst undef).eval oq = execOp af.eval oq ∧ (a.put ops[i].dst undef).tmps.getD d undef = af.tmps.getD d undef ∧ d < st1.t.length:=by
      subst h6
      rw [F0]
      exact hag' undef
     have hG':GOf P ops m lts af (listed.setIfInBounds i true) w:=λq hq hcq=>by
      refine hG q hq λc e1 e2 e3 e4=>hcq c e1 e2 e3 ?_
      rw [Bw]
      split
      ·rfl
      ·exact e4
     refine ⟨hG',?_⟩
     refine GK hΓ L hpl hvs hcov hd n (i+1) fuel' _ st1 st' κ S _ w (by omega) (by omega) (by simp [hsz]) hfu hl' (λp hp1 hp2=>hnps (by rw [show i = p by omega]; exact hp1)) hG' hr' hag2 h4 ?_
     subst h6
     rw [F1]
     exact hw
   ·cases hdo
include hτ in
theorem Rp {m:Nat} {lts ls ps:List Nat} (L:LateR ops m lts ls ps) (hd:DV ops = true) {κ0:Nat->Option Value} {S0:Nat->Prop} {w0:World} {st:St} {vals:Nat->V} {κ:Nat->Option Value} {S:Nat->Prop} {w:World}
  (hv:∀ q o,q ∈ lts->ops[q]? = some o->∃ stq,HF ops (λi=>i < m ∨ i ∈ lts) vals st q stq ∧ (Dg τ Γ ops o stq).sem = some (vals q))
  (hQ:∀ c a w,¬ Q (.panic c) a w) (hd':∀ q oq d,q ∈ lts->ops[q]? = some oq->oq.dst = some d->d < st.t.length) :
  ∀ (ps pre:List Nat) (listed:Array Bool) (a:Act),lts = pre ++ ps->(∀ x ∈ pre,∀ y ∈ ps,x < y)->Ef 0 ps = true->listed.size = ops.size->(∀ i,i < ops.size->listed.getD i false = true->i < m ∨ i ∈ lts)->(∀ i,i < m->i ∉ lts->listed.getD i false = true)->(∀ i,i ∈ pre->listed.getD i false = true)->Er ops.toList (λi=>listed.getD i false = true) ->
   Mid Γ κ0 S0 w0 st ops vals (λi=>listed.getD i false = true) κ S a w ->
   ∃ (LA:Array Bool) (af:Act),LA.size = ops.size ∧ (∀ i,i < ops.size->(LA.getD i false = true ↔ (i < m ∨ i ∈ lts))) ∧ Mid Γ κ0 S0 w0 st ops vals (λi=>LA.getD i false = true) κ S af w ∧
    (∀ q oq d,q ∈ lts->ops[q]? = some oq->oq.dst = some d->listed.getD q false = true->execOp af.eval oq = execOp a.eval oq ∧ af.tmps.getD d undef = a.tmps.getD d undef) ∧
    (∀ q,q ∈ ps->listed.getD q false = false->SwQ P ops af q w) ∧
    ((∀ q ∈ lts,SwQ P ops af q w)->GV P .any ops Q (GOf P ops m lts af) (left ops.size LA) LA af w->GV P .any ops Q (GOf P ops m lts af) (left ops.size listed) listed a w)
 | [],pre,listed,a,hl,_,_,hsz,hA,hm1,hp,_,hm=>by
  rw [List.append_nil] at hl
  subst hl
  refine ⟨listed,a,hsz,λi hi=>⟨hA i hi,λh=>?_⟩,hm,λ_ _ _ _ _ _ _=>⟨rfl,rfl⟩,(λ_ hq=>absurd hq (by simp)),λ_ h=>h⟩
  rcases Classical.em (i ∈ lts) with hin | hin
  ·exact hp i hin
  ·exact hm1 i (h.resolve_right hin) hin
 | q :: ps,pre,listed,a,hl,hlt,hri,hsz,hA,hm1,hp,hcl,hm=>by
  simp only [Ef] at hri
  split at hri
  rotate_left
  ·cases hri
  have hge:=NA hri
  have hri':Ef 0 ps = true:=by
   cases ps with
   | nil=>rfl
   | cons p ps =>
    simp only [Ef] at hri ⊢
    split at hri
    ·rename_i h2 _ h1
     have h1:=Nat.le_of_ble_eq_true h1
     have h2:=Nat.le_of_ble_eq_true h2
     rw [Nat.ble_eq_true_of_le (show 0 <= p by omega)]
     exact hri
    ·cases hri
  have hql:q ∈ lts:=by rw [hl]; simp
  have hl2:lts = (pre ++ [q]) ++ ps:=by rw [hl]; simp
  have hlt2:∀ x ∈ pre ++ [q],∀ y ∈ ps,x < y:=by
   intro x hx y hy
   rcases List.mem_append.1 hx with hx | hx
   ·exact hlt x hx y (by simp [hy])
   ·have:=hge y hy
    simp at hx
    omega
  cases hq:listed.getD q false with
  | true =>
   obtain ⟨LA,af,z1,z2,z3,z4,z6,z5⟩:=Rp L hd hv hQ hd' ps (pre ++ [q]) listed a hl2 hlt2 hri' hsz hA hm1 (λi hi=>by
    rcases List.mem_append.1 hi with hi | hi
    ·exact hp i hi
    ·simp at hi
     rw [hi]
     exact hq) hcl hm
   refine ⟨LA,af,z1,z2,z3,z4,λq' hq' hl'=>?_,z5⟩
   rcases List.mem_cons.1 hq' with rfl | hq'
   ·rw [hq] at hl'
    cases hl'
   ·exact z6 q' hq' hl'
  | false =>
   obtain ⟨oq,d,ho,hk,hdq,hnl⟩:=L.kind q hql
   have hqs:q < ops.size:=(Array.getElem?_eq_some_iff.1 ho).1
   have hqs':q < listed.size:=by omega
   have hdo:=hd
   unfold DV at hdo
   split at hdo
   rotate_left
   ·cases hdo
   rename_i hback honce
   have honce:=Hh honce
   have hedges:=λi o hi=>CF ops.toList 0 hback i o hi
   have hbefore:∀ i oi,i ∈ lts->i <= q->ops[i]? = some oi->∀ e ∈ oi.after,Region.binds .any e = true->listed.getD e.on false = true:=by
    intro i oi hi hiq hoi e he hb
    have hil:ops.toList[i]? = some oi:=by simpa using hoi
    have h1:=hedges i oi hil e he hb
    rw [Nat.zero_add] at h1
    have hbit:=M4 hil he hb
    rw [<- BT] at hbit
    rcases Classical.em (e.on ∈ lts) with h5 | h5
    ·rw [hl] at h5
     rcases List.mem_append.1 h5 with h5 | h5
     ·exact hp _ h5
     ·rcases List.mem_cons.1 h5 with h5 | h5
      ·omega
      ·have:=hge _ h5
       omega
    ·refine hm1 _ ?_ h5
     rcases Nat.lt_or_ge i m with hmi | hmi
     ·omega
     ·exact ((L.order i hmi (by omega)).1 hi e.on h1 hbit).resolve_right h5
   have hXA:∀ k,listed.getD k false = true->k < m ∨ k ∈ lts:=λk hk=>by
    rcases Nat.lt_or_ge k listed.size with hc | hc
    ·exact hA k (by omega) hk
    ·simp [Array.getElem?_eq_none hc] at hk
   obtain ⟨stq,hst,hqv⟩:=hv q oq hql ho
   have hmask:=hm.slot hd hcl hXA ho (by rw [hq]; simp) (hbefore q oq hql (Nat.le_refl _) ho) hst
   obtain ⟨c,g1,g2⟩:=Oh (P:=P) (st:=st) hτ hm.good hm.env hst.1 hmask hk hqv ho
   have hX':∀ k,(listed.setIfInBounds q true).getD k false = true ↔ (k = q ∨ listed.getD k false = true):=by
    intro k
    rw [Bw]
    by_cases hkq:k = q
    ·rw [if_pos ⟨hkq,hqs'⟩]
     simp [hkq]
    ·rw [if_neg (λhc=>hkq hc.1)]
     simp [hkq]
   have hm1':=hm.step honce ho (by rw [hq]; simp) hX' hm.good g2 (Ext.refl _ _ _ _) (λ_ _ h=>h)
   have hcl':Er ops.toList (λi=>(listed.setIfInBounds q true).getD i false = true):=by
    intro k ok hk hXk e he hb
    have hXk:=(hX' k).1 hXk
    refine (hX' _).2 (.inr ?_)
    rcases hXk with rfl | hXk
    ·have hk:ops[k]? = some ok:=by simpa using hk
     rw [ho] at hk
     simp only [Option.some.injEq] at hk
     subst hk
     exact hbefore k oq hql (Nat.le_refl _) ho e he hb
    ·exact hcl k ok hk hXk e he hb
   obtain ⟨LA,af,z1,z2,z3,z4,z6,z5⟩:=Rp L hd hv hQ hd' ps (pre ++ [q]) (listed.setIfInBounds q true) (a.put oq.dst c) hl2 hlt2 hri' (by simp [hsz])
    (λi hi h=>((hX' i).1 h).elim (λe=>by rw [e]; exact .inr hql) (hA i hi)) (λi hi hil=>(hX' i).2 (.inr (hm1 i hi hil)))
    (λi hi=>(hX' i).2 (by
     rcases List.mem_append.1 hi with hi | hi
     ·exact .inr (hp i hi)
     ·simp at hi
      exact .inl hi)) hcl' hm1'
   have hno:∀ i oi,ops[i]? = some oi->listed.getD i false = true->Nat.testBit ((Region.before ops).getD i 0) q = true->False:=λi oi hi hli hb=>by
    rw [BT] at hb
    have:=BL hcl (i+1) i q oi (by omega) (by simpa using hi) (λe he hb=>hcl i oi (by simpa using hi) hli e he hb) hb
    rw [hq] at this
    cases this
   have hex:∀ q' oq',q' ∈ lts->ops[q']? = some oq'->(q' = q ∨ listed.getD q' false = true)->execOp (a.put oq.dst c).eval oq' = execOp a.eval oq':=λq' oq' hq' ho' hwh=>by
    refine execOp_put (ops:=ops) oq' (λcs b=>L.sel q' oq' cs b ho') a _ c λe he=>?_
    by_cases hqq:q = q'
    ·subst hqq
     rw [ho] at ho'
     simp only [Option.some.injEq] at ho'
     subst ho'
     rw [hdq] at he
     simp only [Option.some.injEq] at he
     subst he
     exact hnl
    ·rcases L.apart q' oq' q oq hq' ho' (.inr hql) hqq ho with hb | hb
     ·exact (hno q' oq' ho' (hwh.resolve_left (Ne.symm hqq)) hb).elim
     ·exact (hb.2 e he).resolve_right λhc=>hc.1 hql
   have hdl:=hd' q oq d hql ho hdq
   refine ⟨LA,af,z1,z2,z3,λq' oq' e hq' ho' he hl'=>?_,λq' hq' hl'=>?_,λhSw H=>?_⟩
   ·obtain ⟨y1,y2⟩:=z4 q' oq' e hq' ho' he ((hX' q').2 (.inr hl'))
    refine ⟨y1.trans (hex q' oq' hq' ho' (.inr hl')),?_⟩
    rw [y2,I9 a _ c e (by rw [hm.size]; exact hd' q' oq' e hq' ho' he),if_neg (λhc=>?_)]
    have:=honce q q' oq oq' e (by simpa using ho) (by simpa using ho') hc he
    subst this
    rw [hq] at hl'
    cases hl'
   ·by_cases hqq:q' = q
    ·subst hqq
     intro oq' e ho' he
     rw [ho] at ho'
     simp only [Option.some.injEq] at ho'
     subst ho'
     rw [hdq] at he
     simp only [Option.some.injEq] at he
     subst he
     obtain ⟨y1,y2⟩:=z4 q' oq d hql ho hdq ((hX' q').2 (.inl rfl))
     rw [y1,hex q' oq hql ho (.inl rfl),y2,I9 a _ c d (by rw [hm.size]; exact hdl),if_pos hdq]
     exact g1
    ·rcases List.mem_cons.1 hq' with hc | hq'
     ·exact absurd hc hqq
     ·refine z6 q' hq' ?_
      cases hc:(listed.setIfInBounds q true).getD q' false with
      | false=>rfl
      | true =>
       rcases (hX' q').1 hc with h5 | h5
       ·exact absurd h5 hqq
       ·rw [h5] at hl'
        cases hl'
   ·have H1:=z5 hSw H
    have hlT:listed.getD q true = false:=by
     simp [Array.getD,hqs'] at hq ⊢
     exact hq
    have hready:q ∈ Region.ready .any ops listed:=mem_ready.2 ⟨hlT,oq,ho,hbefore q oq hql (Nat.le_refl _) ho⟩
    have hlink:∀ (l:Array Bool) (w':World),(Er ops.toList (λi=>l.getD i false = true) ∧ l.getD q false = false)->GOf P ops m lts af l w'->SwQ P ops af q w':=by
     intro l w' hc hG
     refine hG q hql λc h1 h2 h3 h4=>?_
     cases hb:Nat.testBit ((Region.before ops).getD c 0) q with
     | false=>rfl
     | true =>
      exfalso
      rw [BT] at hb
      have hcs:ops.toList[c]? = some ops[c]:=by simp [h2]
      have:=BL hc.1 (c+1) c q ops[c] (by omega) hcs (λe he hb=>hc.1 c _ hcs h4 e he hb) hb
      rw [hc.2] at this
      cases this
    rw [<- D4 hqs hsz hlT]
    refine Qi (S:=SwQ P ops af q) (C:=λl=>Er ops.toList (λi=>l.getD i false = true) ∧ l.getD q false = false) ho (λj o cs b=>L.sel j o cs b) (λc a w h=>(hQ c _ w h).elim)
     (λl j hc hj hjq=>⟨?_,?_⟩) hlink (λl w' h=>h.less hql) _ listed a w ⟨hcl,hq⟩ (λj oj hj hne hun hnoe=>?_) hready ?_ (hSw q hql) (λq' hq' _=>hSw q' hq') H1
    ·obtain ⟨_,oj,hoj,hall⟩:=mem_ready.1 hj
     intro k ok hk hXk e he hb
     have hXk:(l.setIfInBounds j true).getD k false = true:=hXk
     rw [Bw] at hXk
     have hon:l.getD e.on false = true:=by
      split at hXk
      ·rename_i hkj
       rw [hkj.1] at hk
       have hk:ops[j]? = some ok:=by simpa using hk
       rw [hoj] at hk
       simp only [Option.some.injEq] at hk
       subst hk
       exact hall e he hb
      ·exact hc.1 k ok hk hXk e he hb
     show (l.setIfInBounds j true).getD e.on false = true
     rw [Bw]
     split
     ·rfl
     ·exact hon
    ·rw [Bw,if_neg (λhh=>hjq hh.1.symm)]
     exact hc.2
    ·have hjl:j < listed.size:=by
      rw [hsz]
      exact (Array.getElem?_eq_some_iff.1 hj).1
     have hjf:listed.getD j false = false:=by
      simp [Array.getD,hjl] at hun ⊢
      exact hun
     have hj':m <= j ∨ j ∈ lts:=by
      rcases Nat.lt_or_ge j m with hc | hc
      ·refine .inr ?_
       rcases Classical.em (j ∈ lts) with h5 | h5
       ·exact h5
       ·rw [hm1 j hc h5] at hjf
        cases hjf
      ·exact .inl hc
     rcases L.apart q oq j oj hql ho hj' hne hj with hb | hb
     ·exfalso
      rw [BT] at hb
      have:=BL hcl (q+1) q j oq (by omega) (by simpa using ho) (hbefore q oq hql (Nat.le_refl _) ho) hb
      rw [hjf] at this
      cases this
     ·exact hb.1 hnoe
    ·refine .inl ⟨by simp [Region.wanted,(Ew hk).1],λw' hw'=>?_⟩
     have h1:=hw' oq d ho hdq
     obtain ⟨y1,y2⟩:=z4 q oq d hql ho hdq ((hX' q).2 (.inl rfl))
     rw [y1,hex q oq hql ho (.inl rfl),y2,I9 a _ c d (by rw [hm.size]; exact hdl),if_pos hdq] at h1
     exact h1
include hτ in
theorem Aaf (hΓ:Bk P Γ) {κ0:Nat->Option Value} {S0:Nat->Prop} {w0:World} {st st2 st':St} {vals:Nat->V} (hd:DV ops = true) {m:Nat} {lts ls ps:List Nat} (L:LateR ops m lts ls ps)
  (hQ:∀ c a w,¬ Q (.panic c) a w)
  (hv:∀ k o,(k < m ∨ k ∈ lts)->ops[k]? = some o->∃ stk,HF ops (λi=>i < m ∨ i ∈ lts) vals st k stk ∧ (Dg τ Γ ops o stk).sem = some (vals k))
  (hst2:HF ops (λi=>i < m ∨ i ∈ lts) vals st ops.size st2) {vs pl:List Nat} (hpl:∀ q,q ∈ pl->q ∈ lts) (hvs:∀ q,q ∈ vs->q ∈ lts) (hcov:∀ q,q ∈ lts->q ∈ vs ∨ q ∈ pl) (hvm:vs ≠ []->∀ i,i < m->i ∈ lts) (hs2:(Ds τ Γ ops pl st2).sem = some ())
  (hd':∀ q oq d,q ∈ lts->ops[q]? = some oq->oq.dst = some d->d < st.t.length)
  (hrest:(CS τ Γ ops (Region.before ops) pl vs ps (lts ++ ps.map Nat.succ) m (ops.toList.drop m) st2).sem = some st')
  (hw:Way Γ κ0 S0 st.h w0 st' (λa' w'=>Q .normal a' w')) :
  ∀ (fuel:Nat) (listed:Array Bool) (κ:Nat->Option Value) (S:Nat->Prop) (a:Act) (w:World),listed.size = ops.size->left ops.size listed = fuel->(∀ k,k < ops.size->listed.getD k false = true->k < m ∨ k ∈ lts)->(vs ≠ []->∀ k,listed.getD k false = false) ->
   Er ops.toList (λi=>listed.getD i false = true)->Mid Γ κ0 S0 w0 st ops vals (λi=>listed.getD i false = true) κ S a w->wpAny P .any ops Q fuel listed a w:=by
 have hdo:=hd
 unfold DV at hdo
 split at hdo
 rotate_left
 ·cases hdo
 rename_i hback honce
 have honce:=Hh honce
 have hedges:=λi o hi=>CF ops.toList 0 hback i o hi
 have fin:∀ (fuel:Nat) (listed:Array Bool) (κ:Nat->Option Value) (S:Nat->Prop) (a:Act) (w:World),listed.size = ops.size->left ops.size listed = fuel->(∀ k,k < ops.size->listed.getD k false = true->k < m ∨ k ∈ lts)->(vs ≠ []->∀ k,listed.getD k false = false) ->
   Er ops.toList (λi=>listed.getD i false = true)->(∀ i,i < m->i ∉ lts->listed.getD i false = true)->Mid Γ κ0 S0 w0 st ops vals (λi=>listed.getD i false = true) κ S a w->wpAny P .any ops Q fuel listed a w:=by
  intro fuel listed κ S a w hsz hleft hA hvl hcl hall hm
  subst hleft
  obtain ⟨LA,af,z1,z2,z3,z4,z6,z5⟩:=Rp (P:=P) (Q:=Q) hτ L hd (λq o hq ho=>hv q o (.inr hq) ho) hQ hd' lts [] listed a rfl (by simp) L.rises hsz hA hall (by simp) hcl hm
  refine Ni _ _ _ _ (z5 ?_ ?_)
  all_goals
   have hr:Rel Γ κ S st2 af w:=by
    obtain ⟨e1,e2,e3,e4⟩:=hst2
    refine ⟨by rw [e1]; exact z3.good,z3.env,?_,z3.defers⟩
    refine En _ _ (by rw [Array.length_toList,z3.size,e2]) λt ht=>?_
    rw [e2] at ht
    rw [Ct]
    by_cases hex:∃ (j:Nat) (o:Oper),(j < m ∨ j ∈ lts) ∧ ops[j]? = some o ∧ o.dst = some t
    ·obtain ⟨j,o,hjA,hj,hdst⟩:=hex
     have hjs:=(Array.getElem?_eq_some_iff.1 hj).1
     rw [e3 j o t hj hdst ht hjA hjs]
     exact z3.wrote j o t hj hdst ht ((z2 j hjs).2 hjA)
    ·rw [e4 t λj o hj hjA _ hdst=>hex ⟨j,o,hjA,hj,hdst⟩]
     exact z3.stays t ht λj o hj hX hdst=>hex ⟨j,o,(z2 j (Array.getElem?_eq_some_iff.1 hj).1).1 hX,hj,hdst⟩
   have hag:∀ q oq d,q ∈ lts->ops[q]? = some oq->oq.dst = some d->execOp af.eval oq = execOp af.eval oq ∧ af.tmps.getD d undef = af.tmps.getD d undef ∧ d < st2.t.length :=
    λq oq d hq ho hdq=>⟨rfl,rfl,by rw [hst2.2.1]; exact hd' q oq d hq ho hdq⟩
  all_goals
   have hsw:∀ q ∈ lts,SwQ P ops af q w:=λq hq=>by
    rcases hcov q hq with hqv | hqp
    ·exact z6 q hq (hvl (λhc=>by rw [hc] at hqv; cases hqv) q)
    ·exact Gw hτ L hpl hr hs2 (C:=λ_=>True) (λq oq d hq _=>hag q oq d hq) q hqp trivial
  ·exact hsw
  ·refine GK (P:=P) hτ hΓ L hpl hvs hcov hd (ops.size - m) m _ LA st2 st' κ S af w (by have:=L.le; omega) (Nat.le_refl _) z1 rfl z2 (λp hp=>by have:=(L.pairs p hp).1; omega) (λq hq _=>hsw q hq) hr (λq oq d hq _=>hag q oq d hq) hrest ?_
   rw [hst2.1]
   exact hw.ext z3.ext
 have allOf:∀ listed:Array Bool,listed.size = ops.size->Region.ready .any ops listed = []->∀ i,i < ops.size->listed.getD i false = true:=by
  intro listed hsz hready i
  induction i using Nat.strongRecOn with
  | _ i ih =>
   intro hi
   cases hl:listed.getD i false with
   | true=>rfl
   | false =>
    exfalso
    have hmem:i ∈ Region.ready .any ops listed:=by
     refine mem_ready.2 ⟨?_,ops[i],by simp [hi],λe he hb=>?_⟩
     ·have:i < listed.size:=by omega
      simp [Array.getD,this] at hl ⊢
      exact hl
     ·have hlt:=hedges i ops[i] (by simp [hi]) e he hb
      exact ih e.on (by omega) (by omega)
    rw [hready] at hmem
    cases hmem
 intro fuel
 induction fuel with
 | zero =>
  intro listed κ S a w hsz hleft hno hvl hcl hm
  refine fin 0 listed κ S a w hsz hleft hno hvl hcl (λi hi _=>?_) hm
  have hil:i < ops.size:=by have:=L.le; omega
  cases hl:listed.getD i true with
  | true =>
   have hil':i < listed.size:=by omega
   simp [Array.getD,hil'] at hl ⊢
   exact hl
  | false =>
   exfalso
   have:=D4 hil hsz hl
   omega
 | succ fuel ih =>
  intro listed κ S a w hsz hleft hno hvl hcl hm
  by_cases hall:∀ i,i < m->i ∉ lts->listed.getD i false = true
  ·exact fin (fuel+1) listed κ S a w hsz hleft hno hvl hcl hall hm
  have hv0:vs = []:=by
   cases hv0:vs with
   | nil=>rfl
   | cons v0 vs0=>exact absurd (λi hi hil=>absurd (hvm (by rw [hv0]; simp) i hi) hil) hall
  refine ⟨λhready=>absurd (λi hi _=>allOf listed hsz hready i (by have:=L.le; omega)) hall,λi hi=>?_⟩
  obtain ⟨h0,o,ho,hafter⟩:=mem_ready.1 hi
  have hil:i < ops.size:=(Array.getElem?_eq_some_iff.1 ho).1
  have hiF:listed.getD i false = false:=by
   have:i < listed.size:=by omega
   simp [Array.getD,this] at h0 ⊢
   exact h0
  have hol:ops.toList[i]? = some o:=by simpa using ho
  have hiA:i < m ∨ i ∈ lts:=by
   rcases Nat.lt_or_ge i m with hc | hc
   ·exact .inl hc
   ·right
    rcases Classical.em (i ∈ lts) with hin | hin
    ·exact hin
    ·exfalso
     refine hall λj hj hjl=>?_
     rcases (L.order i hc hil).2 hin j (by omega) with (hb | hb) | hb
     ·rw [BT] at hb
      exact BL hcl (i+1) i j o (by omega) hol hafter hb
     ·exact absurd hb hjl
     ·have:=(L.pairs j hb.2).1
      omega
  have hXA:∀ k,listed.getD k false = true->k < m ∨ k ∈ lts:=λk hk=>by
   rcases Nat.lt_or_ge k listed.size with hc | hc
   ·exact hno k (by omega) hk
   ·simp [Array.getElem?_eq_none hc] at hk
  obtain ⟨sti,hsti,hq⟩:=hv i o hiA ho
  have hmask:=hm.slot hd hcl hXA ho (by rw [hiF]; simp) hafter hsti
  have hX':∀ k,(listed.setIfInBounds i true).getD k false = true ↔ (k = i ∨ listed.getD k false = true):=by
   intro k
   rw [Bw]
   by_cases hk:k = i
   ·rw [if_pos ⟨hk,by omega⟩]
    simp [hk]
   ·rw [if_neg (λhc=>hk hc.1)]
    simp [hk]
  have next:∀ (κ':Nat->Option Value) (S':Nat->Prop) (c:Value) (w':World),Good κ' S' st.h w'->VR S' w' (vals i) κ' c->Ext κ S st.h w κ' S' st.h w' ->
    (∀ id c,κ id = some c->κ' id = some c)->wpAny P .any ops Q fuel (listed.setIfInBounds i true) (a.put o.dst c) w':=by
   intro κ' S' c w' q1 q2 q3 q4
   refine ih (listed.setIfInBounds i true) κ' S' _ w' (by simp [hsz]) (by have:=D4 hil hsz h0; omega) (λk hk hkl=>?_) ?_ ?_ (hm.step honce ho (by rw [hiF]; simp) hX' q1 q2 q3 q4)
   ·rcases (hX' k).1 hkl with rfl | h
    ·exact hiA
    ·exact hno k hk h
   ·exact λhc=>absurd hv0 hc
   ·intro k ok hk hXk e he hb
    refine (hX' _).2 (.inr ?_)
    rcases (hX' k).1 hXk with rfl | hXk
    ·rw [hol] at hk
     cases hk
     exact hafter e he hb
    ·exact hcl k ok hk hXk e he hb
  unfold Dg at hq
  rw [hsti.1] at hq
  unfold wpOp
  rw [ho]
  simp only
  rcases Ic (st:=⟨DK (Cr ops o) 0 sti.t,st.h⟩) hmask hq with ⟨hwant,hrun⟩ | ⟨hwant,hskip⟩
  ·rw [if_pos hwant]
   left
   exact Nt (P:=P) (st:=⟨DK (Cr ops o) 0 sti.t,st.h⟩) hτ hΓ hm.good hm.env hmask hrun next
  ·rw [if_neg (by rw [hwant]; simp)]
   have hvi:vals i = A9:=Ac hskip
   exact next κ S undef w hm.good (by rw [hvi]; exact rfl) (Ext.refl _ _ _ _) (λ_ _ h=>h)
theorem Ut {v:V} (h:(N3 v .und).sem = some ()):False:=by
 cases v <;> first | (cases h; done) | skip
 rename_i c
 cases c <;> cases h
theorem QO:∀ {l:List V} {t:Nat},l.length <= t->nth l t = .und
 | [],_,_=>rfl
 | _ :: l,0,h=>by simp at h
 | _ :: l,t+1,h=>QO (l:=l) (by simpa using h)
theorem Js {m:Nat} {es ls:List Nat} {st:St} {r:Ex × St} (h:(Dk τ Γ ops m es ls st).sem = some r):r.1 = .nm:=by
 unfold Dk FX Kx at h
 split at h
 ·obtain ⟨_,_,h⟩:=An h
  obtain ⟨_,_,h⟩:=An h
  obtain ⟨_,_,h⟩:=An h
  obtain ⟨_,_,h⟩:=An h
  obtain ⟨_,_,h⟩:=An h
  rw [Ac h]
 ·cases h
include hτ in
theorem NB (hm:P.follows .mixedOrders = true) (hΓ:Bk P Γ) {id:Nat} {st:St} {r:Ex × St} {κ:Nat->Option Value} {S:Nat->Prop} {a:Act} {w:World} (hr:Rel Γ κ S st a w)
  (hd:DV ops = true) {m:Nat} {es ls:List Nat} (h:(Dk τ Γ ops m es ls st).sem = some r) (hw:Way Γ κ S st.h w r.2 (λa' w'=>Q .normal a' w')):r.1 = .nm ∧ (Code.region id ops true).wp P Q a w:=by
 unfold Dk FX Kx at h
 generalize MI τ (Region.before ops) (es ++ ls) m (ops.toList.drop m) = ps at h
 split at h
 rotate_left
 ·cases h
 rename_i hL
 have L:=SW hL
 generalize es ++ ls = lts at *
 obtain ⟨st1,h1,h⟩:=An h
 obtain ⟨st2,h2,h⟩:=An h
 obtain ⟨⟨⟩,hvm,h⟩:=An h
 have hvm:=LX hvm
 obtain ⟨⟨⟩,h3,h⟩:=An h
 obtain ⟨st',h4,h⟩:=An h
 have h:=Ac h
 subst h
 refine ⟨rfl,?_⟩
 have hdo:=hd
 unfold DV at hdo
 split at hdo
 rotate_left
 ·cases hdo
 rename_i hback honce
 have honce:=Hh honce
 obtain ⟨v0,hv,rfl⟩:=Fy ops _ st st1 h1
 have hbt:∀ k,k <= m->Br st (ops.toList.take m) v0 k = Br st ops.toList v0 k:=λk hk=>Is st ops.toList v0 m k hk
 have hlen:(ops.toList.take m).length = m:=by rw [List.length_take,Array.length_toList,Nat.min_eq_left L.le]
 rw [hlen,hbt _ (Nat.le_refl _)] at h2
 have stat:∀ k,k <= m->HF ops (λi=>i < m ∨ i ∈ lts) v0 st k (Br st ops.toList v0 k):=by
  intro k
  induction k with
  | zero=>exact λ_=>⟨rfl,rfl,λ_ _ _ _ _ _ _ hc=>absurd hc (Nat.not_lt_zero _),λ_ _=>rfl⟩
  | succ k ih =>
   intro hk
   have hks:k < ops.size:=by have:=L.le; omega
   simp only [Br]
   have hok:ops.toList[k]? = some ops[k]:=by simp [hks]
   rw [hok]
   exact (ih (by omega)).next honce (by omega) (.inl (by omega)) (λj _ hj=>by omega) (by simp [hks])
 obtain ⟨vals,g1,g2,g3⟩:=Og (A:=λi=>i < m ∨ i ∈ lts) honce ls m _ st2 h2 L.risesL (λj hj=>⟨λhc=>(L.late j hj).1 (hc.resolve_left (by omega)),λhc=>.inr ((L.late j hj).2 hc)⟩) (stat m (Nat.le_refl _))
 have hvals:∀ k o,(k < m ∨ k ∈ lts)->ops[k]? = some o->∃ stk,HF ops (λi=>i < m ∨ i ∈ lts) vals st k stk ∧ (Dg τ Γ ops o stk).sem = some (vals k):=by
  intro k o hk ho
  rcases Nat.lt_or_ge k m with hc | hc
  ·refine ⟨Br st ops.toList v0 k,?_,?_⟩
   ·obtain ⟨e1,e2,e3,e4⟩:=stat k (by omega)
    exact ⟨e1,e2,λj oj t hj hdj ht hAj hji=>by rw [e3 j oj t hj hdj ht hAj hji,g1 j (by omega)],e4⟩
   ·rw [g1 k hc]
    have:=hv k o (by rw [List.getElem?_take,if_pos hc]; simpa using ho)
    rwa [hbt k (by omega)] at this
  ·exact g3 k o ((L.late k hc).1 (hk.resolve_left (by omega))) ho
 refine wp_mono (Q:=λe a w=>e = .normal ∧ Q .normal a w) (wp_region_any hm ?_) (λe a w h=>h.1 ▸ h.2)
 have hg':Good κ S st.h { w with drawn:=w.drawn+1 }:=by
  obtain ⟨g1,g2,g3,g4⟩:=hr.good
  refine ⟨λi b hb=>?_,g2,g3,g4⟩
  exact AT.mono (w:=w) (λb hb=>⟨hb,rfl⟩) (λ_ _ h=>h) (λ_ _=>rfl) (g1 i b hb)
 have hext:Ext κ S st.h w κ S st.h { w with drawn:=w.drawn+1 }:=⟨rfl,rfl,rfl,Nat.le_refl _,λ_ _ _=>rfl,λi b hb=>.inl ⟨i,hb⟩,λ_ hb=>.inl hb,λ_ hb=>hb,λb p h=>⟨h,DD.same rfl⟩,λ_ b h hb=>⟨rfl,b,h,B9.refl hb⟩⟩
 have hpers:∀ b,S b->S b ∧ ({ w with drawn:=w.drawn+1 }:World).heap[b]? = w.heap[b]?:=λb hb=>⟨hb,rfl⟩
 have hrep:∀ i,(Array.replicate ops.size false).getD i false = false:=by
  intro i
  by_cases hi:i < ops.size
  ·simp [Array.getD,hi]
  ·simp [Array.getD,hi]
 refine Aaf (P:=P) (Q:=λe a w=>e = .normal ∧ Q .normal a w) hτ hΓ hd L (λc a w h=>by cases h.1) hvals g2 (λq hq=>(DU.1 hq).1) (λq hq=>(Cb hq).1) (λq hq=>by
  rcases Classical.em (q ∈ GW ops st2 lts) with hc | hc
  ·exact .inl hc
  ·exact .inr (DU.2 ⟨hq,hc⟩)) (λhne i hi=>by
  rw [Bool.or_eq_true] at hvm
  rcases hvm with hc | hc
  ·exact absurd (List.isEmpty_iff.1 hc) hne
  ·exact BD.1 (List.all_eq_true.1 hc i (by simpa using hi))) h3 (λq oq d hq ho hdq=>?_) h4 (λκ' S' a' w' r1 r2=>⟨rfl,(hw.ext hext) κ' S' a' w' r1 r2⟩) ops.size _ κ S a _ (by simp) ?_ (λk _ hk=>by rw [hrep] at hk; cases hk) (λ_ k=>hrep k) ?_ ?_
 ·rcases Classical.em (q ∈ GW ops st2 lts) with hc | hc
  ·obtain ⟨_,oq',d',ho',hd',hvg⟩:=Cb hc
   rw [ho] at ho'
   simp only [Option.some.injEq] at ho'
   subst ho'
   rw [hdq] at hd'
   simp only [Option.some.injEq] at hd'
   subst hd'
   rw [<- g2.2.1]
   rcases Nat.lt_or_ge d st2.t.length with hc | hc
   ·exact hc
   ·rw [QO hc] at hvg
    cases hvg
  obtain ⟨d',v,hd',_,hs⟩:=HK _ h3 q oq (DU.2 ⟨hq,hc⟩) ho
  rw [hdq] at hd'
  simp only [Option.some.injEq] at hd'
  subst hd'
  rw [<- g2.2.1]
  rcases Nat.lt_or_ge d st2.t.length with hc | hc
  ·exact hc
  ·rw [QO hc] at hs
   exact (Ut hs).elim
 ·unfold left
  rw [List.filter_eq_self.2]
  ·simp
  ·intro i hi
   simp at hi
   simp [Array.getD,hi]
 ·intro i o hi hX
  rw [hrep] at hX
  cases hX
 ·have htm:=VR.mono_go hpers _ _ κ _ (λ_ _ h=>h) hr.tmps
  refine ⟨hg',λg=>VR.mono hpers _ _ _ _ (λ_ _ h=>h) (hr.env g),Ext.refl _ _ _ _,hr.defers,?_,?_,?_⟩
  ·have:=hr.tmps.length
   simpa using this
  ·intro j o t _ _ _ hX
   rw [hrep] at hX
   cases hX
  ·intro t ht _
   have:=htm.nth t undef
   rwa [Ct] at this
end
end Go.Sy
