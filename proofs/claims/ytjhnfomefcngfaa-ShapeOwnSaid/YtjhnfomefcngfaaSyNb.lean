/-
  A region that draws its order and makes memory in its midst: what makes memory or writes stands in order; some others may come up at any time. Conditions: as before.
-/
import Derived.Test.YtjhnfomefcngfaaSyN
import Derived.OrdersHeld
namespace Go.Sy
theorem OU {u v:V} (h:(PQ u v).sem = some ()):u = v ∧ ∀ (κ:Nat->Option Value) (S S':Nat->Prop) (w w':World) (c c':Value),VR S w u κ c->VR S' w' u κ c'->c = c':=by
  unfold PQ at h
  split at h
  · split at h
    · rename_i h1 h2
      rw [Nat.eq_of_beq_eq_true h1,Nat.eq_of_beq_eq_true h2]
      refine ⟨rfl,fun κ S S' w w' c c' q q'=>?_⟩
      obtain ⟨g,z1,z2⟩:=q
      obtain ⟨g',y1,y2⟩:=q'
      rw [z1] at y1
      simp at y1
      rw [z2,y2,y1]
    · cases h
  · split at h
    · rename_i h1
      rw [Nat.eq_of_beq_eq_true h1]
      refine ⟨rfl,fun κ S S' w w' c c' q q'=>?_⟩
      have z1:=q.1
      rw [q'.1] at z1
      exact (Option.some.inj z1).symm
    · cases h
  · split at h
    · rename_i h1
      rw [Nat.eq_of_beq_eq_true h1]
      refine ⟨rfl,fun κ S S' w w' c c' q q'=>?_⟩
      obtain ⟨ms,z1,_⟩:=q
      obtain ⟨ms',y1,_⟩:=q'
      rw [z1] at y1
      exact (AW y1).1
    · cases h
  · split at h
    · rename_i h1
      obtain ⟨h4,_⟩:=Ag h
      rw [Nat.eq_of_beq_eq_true h1,Nat.eq_of_beq_eq_true h4]
      refine ⟨rfl,fun κ S S' w w' c c' q q'=>?_⟩
      obtain ⟨o,ms,z1,z2,_⟩:=q
      obtain ⟨o',ms',y1,y2,_⟩:=q'
      rw [z1] at y1
      rw [(AW y1).2] at z2
      rw [z2] at y2
      exact Option.some.inj y2
    · cases h
  · split at h
    · rename_i h1 h2 h3
      obtain ⟨h4,_⟩:=Ag h
      rw [Nat.eq_of_beq_eq_true h1,Nat.eq_of_beq_eq_true h2,Nat.eq_of_beq_eq_true h3,Nat.eq_of_beq_eq_true h4]
      refine ⟨rfl,fun κ S S' w w' c c' q q'=>?_⟩
      obtain ⟨g,n,cap,z1,z2⟩:=q
      obtain ⟨g',n',cap',y1,y2⟩:=q'
      rw [z1] at y1
      simp at y1
      rw [z2,y2,y1.1]
    · cases h
  · split at h
    · rename_i h1 h2 h3
      obtain ⟨h4,_⟩:=Ag h
      rw [Nat.eq_of_beq_eq_true h1,Nat.eq_of_beq_eq_true h2,Nat.eq_of_beq_eq_true h3,Nat.eq_of_beq_eq_true h4]
      refine ⟨rfl,fun κ S S' w w' c c' q q'=>?_⟩
      obtain ⟨g,n,cap,ms,z1,z2⟩:=q
      obtain ⟨g',n',cap',ms',y1,y2⟩:=q'
      rw [z1] at y1
      have:=(AW y1).1
      simp at this
      rw [z2,y2,this.1]
    · cases h
  · split at h
    · rename_i h1
      obtain ⟨h2,_⟩:=Ag h
      have h3:=Sj h1
      subst h3
      have h4:=of_decide_eq_true h2
      subst h4
      exact ⟨rfl,fun κ S S' w w' c c' q q'=>(show c = _ from q).trans (show c' = _ from q').symm⟩
    · cases h
  · obtain ⟨h2,_⟩:=Ag h
    have h4:=(beq_iff_eq (α:=Bool)).1 h2
    subst h4
    exact ⟨rfl,fun κ S S' w w' c c' q q'=>(show c = _ from q).trans (show c' = _ from q').symm⟩
  · obtain ⟨h2,_⟩:=Ag h
    have h4:=(beq_iff_eq (α:=List UInt8)).1 h2
    subst h4
    exact ⟨rfl,fun κ S S' w w' c c' q q'=>(show c = _ from q).trans (show c' = _ from q').symm⟩
  · exact ⟨rfl,fun κ S S' w w' c c' q q'=>(show c = _ from q).trans (show c' = _ from q').symm⟩
  · cases h
theorem OT:∀ {us vs:List V},(Tz us vs).sem = some ()->us = vs ∧ ∀ (κ:Nat->Option Value) (S S':Nat->Prop) (w w':World) (l l':List Value),VR.go S w us κ l->VR.go S' w' us κ l'->l = l'
  | [],[],_=>⟨rfl,fun κ S S' w w' l l' q q'=>(show l = [] from q).trans (show l' = [] from q').symm⟩
  | a :: us,b :: vs,h=>by
    obtain ⟨⟨⟩,h1,h2⟩:=Ap h
    obtain ⟨e1,p1⟩:=OU h1
    obtain ⟨e2,p2⟩:=OT h2
    subst e1
    subst e2
    refine ⟨rfl,fun κ S S' w w' l l' q q'=>?_⟩
    obtain ⟨x,m,rfl,x1,x2⟩:=q
    obtain ⟨y,m',rfl,y1,y2⟩:=q'
    rw [p1 κ S S' w w' x y x1 y1,p2 κ S S' w w' m m' x2 y2]
  | [],_ :: _,h=>by cases h
  | _ :: _,[],h=>by cases h
theorem Wn {u v:V} (h:(MR u v).sem = some ()):u = v ∧ ∀ (κ:Nat->Option Value) (S S':Nat->Prop) (w w':World) (c c':Value),VR S w u κ c->VR S' w' u κ c'->c = c':=by
  unfold MR at h
  split at h
  · obtain ⟨e,p⟩:=OT h
    subst e
    refine ⟨rfl,fun κ S S' w w' c c' q q'=>?_⟩
    obtain ⟨l,rfl,q1⟩:=q
    obtain ⟨l',rfl,q2⟩:=q'
    rw [p κ S S' w w' l l' q1 q2]
  · exact OU h
section
variable {P:Program} {τ:List Ty} (hτ:TabOK P τ) {Γ:Cx0} {S:Nat->Prop} {w:World} {κ:Nat->Option Value} {st:St} {a:Act} {o:Oper}
theorem E7 (h:Dd o = true):o.guard = none ∧ (∃ d,o.dst = some d) ∧ (∀ cs b,o.op ≠ .select cs b) ∧
    ((∃ x,o.op = .move x) ∨ (∃ s x f,o.op = .fieldAddr s x f) ∨ (∃ t x i,o.op = .indexAddr t x i) ∨ (∃ t x,o.op = .load t x) ∨ (∃ x,o.op = .nilCheck x) ∨ (∃ op t x y z,o.op = .binOp op t x y z) ∨ ∃ t p,o.op = .build t p):=by
  unfold Dd at h
  split at h
  · cases h
  · rename_i hg
    split at h
    all_goals first
      | (rename_i ho
         split at h
         · rename_i d hd
           refine ⟨hg,⟨d,hd⟩,fun cs b=>by rw [ho]; simp,?_⟩
           rw [ho]
           simp
         · cases h)
      | cases h
include hτ in
theorem W7 (hg:Good κ S st.h w) (hE:Eh Γ S w) (ht:VRs S w st.t κ a.tmps.toList) (hk:Dd o = true) {v:V} (h:(Fw τ Γ o st).sem = some v):HD P a o S w κ v:=by
  have value:∀ c,(execOp a.eval o).run P w = .ok (.value c) w->VR S w v κ c->HD P a o S w κ v:=fun c h1 h2=>⟨c,h1,h2⟩
  obtain ⟨_,_,_,hop⟩:=E7 hk
  unfold Fw at h
  rcases hop with ⟨x,ho⟩ | ⟨s,x,f,ho⟩ | ⟨t,x,ix,ho⟩ | ⟨t,x,ho⟩ | ⟨x,ho⟩ | ⟨op,t,x,y,yt,ho⟩ | ⟨t,parts,ho⟩
  · simp only [ho] at h
    split at h
    · cases h
    · rw [Ac h] at value
      rw [Ac h]
      exact value _ (by unfold execOp; simp only [ho]; rfl) (Bo hE ht x)
  · simp only [ho] at h
    exact Kx (P:=P) hτ (Bo hE ht x) (by unfold execOp; simp only [ho,Sem.run_bind,Sem.run_pure]) h
  · simp only [ho] at h
    exact Ks (P:=P) hτ hg (Bo hE ht x) (Bo hE ht ix) (by unfold execOp; simp only [ho,Sem.run_bind,Sem.run_pure]) h
  · simp only [ho] at h
    obtain ⟨c,h2,h3⟩:=Vf (P:=P) hτ hg (Bo hE ht x) h
    refine value c ?_ h3
    unfold execOp
    simp only [ho,Sem.run_bind,h2,Result.andThen_ok,Sem.run_pure]
  · simp only [ho] at h
    have hx:=Bo hE ht x
    split at h
    · rename_i id off hv
      rw [hv] at hx
      have hx':=hx
      obtain ⟨g,_,hcx⟩:=hx'
      rw [Ac h] at value ⊢
      exact value _ (by unfold execOp; simp only [ho,hcx]; rfl) (by rw [<- hcx]; exact hx)
    · rename_i id s i off hv
      rw [hv] at hx
      have hx':=hx
      obtain ⟨g,n,cap,_,hcx⟩:=hx'
      rw [Ac h] at value ⊢
      exact value _ (by unfold execOp; simp only [ho,hcx]; rfl) (by rw [<- hcx]; exact hx)
    · rename_i id s i off hv
      rw [hv] at hx
      have hx':=hx
      obtain ⟨g,n,cap,ms,_,hcx⟩:=hx'
      rw [Ac h] at value ⊢
      exact value _ (by unfold execOp; simp only [ho,hcx]; rfl) (by rw [<- hcx]; exact hx)
    · rename_i id i s k off hv
      rw [hv] at hx
      have hx':=hx
      obtain ⟨o2,ms,g,n,cap,_,_,hcx⟩:=hx'
      rw [Ac h] at value ⊢
      exact value _ (by unfold execOp; simp only [ho,hcx]; rfl) (by rw [<- hcx]; exact hx)
    · rename_i u hv
      rw [hv] at hx
      have hx':=hx
      obtain ⟨b,o',cv,hcx,_⟩:=hx'
      rw [Ac h] at value ⊢
      exact value _ (by unfold execOp; simp only [ho,hcx]; rfl) (by rw [<- hcx]; exact hx)
    · rename_i f cs hv
      rw [hv] at hx
      have hx':=hx
      obtain ⟨ca,hcx,_⟩:=hx'
      rw [Ac h] at value ⊢
      exact value _ (by unfold execOp; simp only [ho,hcx]; rfl) (by rw [<- hcx]; exact hx)
    · cases h
  · simp only [ho] at h
    obtain ⟨c,h2,h3⟩:=VW (P:=P) hτ h (Bo hE ht x) (Bo hE ht y) x y
    refine value c ?_ h3
    unfold execOp
    simp only [ho]
    rw [Sem.run_bind,h2]
    rfl
  · simp only [ho] at h
    have hpr:=NO hE ht parts.toList
    have hpr:PartsR S w κ (evs Γ st parts.toList) (parts.map fun (i,x)=>(i,a.eval x)).toList:=by simpa using hpr
    obtain ⟨c,h2,h3⟩:=SS (P:=P) hτ (DC h) hpr
    refine value c ?_ h3
    unfold execOp
    simp only [ho]
    rw [Sem.run_bind,h2]
    rfl
theorem R1 {all:Array Oper} (hk:Dd o = true):CY τ Γ all o st = Fw τ Γ o ⟨DH (Cp all o) 0 st.t,st.h⟩:=by
  unfold CY Im
  rw [(E7 hk).1]
theorem readsOf_late {all:Array Oper} (hk:Dd o = true) {t:Nat} (h:FC t (Cp all o) = true):t ∈ o.looksAt all:=by
  have key:∀ (l:List Operand) (t:Nat),FC t (HN l) = true->t ∈ l.filterMap (fun | .tmp t=>some t | _=>none):=by
    intro l
    induction l with
    | nil=>intro t h; cases h
    | cons x l ih =>
      intro t h
      cases x with
      | tmp q =>
        simp only [HN,FC] at h
        split at h
        · rename_i hq
          have:=Nat.eq_of_beq_eq_true hq
          subst this
          simp
        · exact List.mem_cons_of_mem _ (ih t h)
      | const v=>exact ih t h
      | global g=>exact ih t h
      | func f=>exact ih t h
  unfold Cp at h
  rw [(E7 hk).1] at h
  unfold Oper.looksAt
  exact List.mem_append_left _ (key _ _ h)
theorem Abk {rs:List Nat} (hlen:a.tmps.size = st.t.length) (h:∀ t,t < st.t.length->FC t rs = true->VR S w (nth st.t t) κ (a.tmps.getD t undef)):VRs S w (DH rs 0 st.t) κ a.tmps.toList:=by
  refine Ey _ _ (by rw [Array.length_toList,hlen,Da]) fun t ht=>?_
  rw [Da] at ht
  rw [Kf,Nat.zero_add,Cq]
  split
  · rename_i hmem
    exact h t ht hmem
  · trivial
end
theorem EC {k:Nat}:∀ {l:List Nat},FC k l = true ↔ k ∈ l
  | []=>by simp [FC]
  | a :: l=>by
    simp only [FC]
    split
    · rename_i h
      have:=Nat.eq_of_beq_eq_true h
      subst this
      simp
    · rename_i h
      have:=Nat.ne_of_beq_eq_false h
      rw [EC (l:=l)]
      simp [Ne.symm this]
theorem Mo (a:Act) (d:Option Tmp) (c:Value) (t:Nat) (ht:t < a.tmps.size):(a.put d c).tmps.getD t undef = if d = some t then c else a.tmps.getD t undef:=by
  cases hod:d with
  | none=>simp [Act.put]
  | some d' =>
    simp only [Act.put]
    rw [BE]
    by_cases hdt:d' = t
    · subst hdt
      rw [if_pos ⟨rfl,ht⟩,if_pos rfl]
    · rw [if_neg (fun hc=>hdt hc.1.symm),if_neg (by simpa using hdt)]
theorem R2 (a:Act) (d:Option Tmp) (c:Value):(a.put d c).tmps.size = a.tmps.size:=by cases d <;> simp [Act.put]
structure LateR (ops:Array Oper) (m:Nat) (lts ls:List Nat):Prop where
  sel:∀ (j:Nat) (o:Oper) cs b,ops[j]? = some o->o.op ≠ .select cs b
  order:∀ i,m <= i->i < ops.size->(i ∈ lts->∀ j,j < i->Nat.testBit ((Region.before ops).getD i 0) j = true->j < m ∨ j ∈ lts) ∧ (i ∉ lts->∀ j,j < i->Nat.testBit ((Region.before ops).getD i 0) j = true ∨ j ∈ lts)
  rises:Ek 0 lts = true
  risesL:Ek m ls = true
  late:∀ j,m <= j->(j ∈ lts ↔ j ∈ ls)
  le:m <= ops.size
  kind:∀ q,q ∈ lts->∃ oq d,ops[q]? = some oq ∧ Dd oq = true ∧ oq.dst = some d ∧ d ∉ oq.looksAt ops
  apart:∀ q oq j oj,q ∈ lts->ops[q]? = some oq->(m <= j ∨ j ∈ lts)->j ≠ q->ops[j]? = some oj->Nat.testBit ((Region.before ops).getD q 0) j = true ∨ (((∀ e ∈ oj.after,Region.binds .any e = true->e.on ≠ q)->oq.apart ops oj = true) ∧ ∀ d,oj.dst = some d->d ∉ oq.looksAt ops)
theorem Ii {all:Array Oper} {bf:Array Nat} {m:Nat} {lts:List Nat} {q:Nat} {oq:Oper}:∀ (l:List Oper) (j0:Nat),G8 all bf m lts q oq j0 l = true->∀ i oj,l[i]? = some oj->(m <= j0+i ∨ j0+i ∈ lts)->j0+i ≠ q ->
    Nat.testBit (bf.getD q 0) (j0+i) = true ∨ (((∀ e ∈ oj.after,Region.binds .any e = true->e.on ≠ q)->oq.apart all oj = true) ∧ ∀ d,oj.dst = some d->d ∉ oq.looksAt all)
  | [],_,_,i,oj,hi,_,_=>by simp at hi
  | o :: l,j0,h,i,oj,hi,hm,hne=>by
    simp only [G8] at h
    split at h
    · rename_i hp
      cases i with
      | zero =>
        simp at hi
        subst hi
        rw [Nat.add_zero] at hm hne ⊢
        simp only [Bool.or_eq_true,Bool.and_eq_true] at hp
        rcases hp with ((hp | hp) | hp) | hp
        · exact absurd (Nat.eq_of_beq_eq_true hp) hne
        · exfalso
          rcases hm with hm | hm
          · have:=hp.1
            simp at this
            omega
          · have:=hp.2
            rw [EC.2 hm] at this
            cases this
        · exact .inl hp
        · refine .inr ⟨fun hno=>hp.1.resolve_left fun ha=>?_,fun d hd=>?_⟩
          · obtain ⟨e,he,hb⟩:=List.any_eq_true.1 ha
            rw [Bool.and_eq_true] at hb
            exact hno e (by simpa using he) hb.1 (Nat.eq_of_beq_eq_true hb.2)
          · have:=hp.2
            rw [hd] at this
            simpa using this
      | succ i =>
        have:=Ii l (Nat.succ j0) h i oj (by simpa using hi) (by rw [show Nat.succ j0+i = j0+(i+1) by omega]; exact hm) (by omega)
        rwa [show Nat.succ j0+i = j0+(i+1) by omega] at this
    · cases h
theorem Ih {bf:Array Nat} {m:Nat} {lts:List Nat}:∀ (l:List Oper) (i0:Nat),IQ bf m lts i0 l = true->∀ k,k < l.length ->
    (i0+k ∈ lts->∀ j,j < i0+k->Nat.testBit (bf.getD (i0+k) 0) j = true->j < m ∨ j ∈ lts) ∧ (i0+k ∉ lts->∀ j,j < i0+k->Nat.testBit (bf.getD (i0+k) 0) j = true ∨ j ∈ lts)
  | [],_,_,k,hk=>by simp at hk
  | o :: l,i0,h,k,hk=>by
    simp only [IQ] at h
    split at h
    · rename_i hp
      cases k with
      | zero =>
        rw [Nat.add_zero]
        split at hp
        · rename_i hm
          have hm:=EC.1 hm
          refine ⟨fun _ j hj hb=>?_,fun hn=>absurd hm hn⟩
          have:=List.all_eq_true.1 hp j (by simpa using hj)
          rw [hb] at this
          simp only [Bool.not_true,Bool.false_or,Bool.or_eq_true] at this
          exact this.imp (fun h=>by simpa using h) EC.1
        · rename_i hm
          refine ⟨fun hn=>absurd (EC.2 hn) (by rw [hm]; simp),fun _ j hj=>?_⟩
          have:=List.all_eq_true.1 hp j (by simpa using hj)
          rw [Bool.or_eq_true] at this
          exact this.imp (fun h=>h) EC.1
      | succ k =>
        have:=Ih l (Nat.succ i0) h k (by simpa using hk)
        rw [show Nat.succ i0+k = i0+(k+1) by omega] at this
        exact this
    · cases h
theorem MW:∀ {l:List Nat} {m:Nat},Ek m l = true->∀ q ∈ l,m <= q
  | [],_,_,q,hq=>by cases hq
  | a :: l,m,h,q,hq=>by
    simp only [Ek] at h
    split at h
    · rename_i hle
      have hle:m <= a:=Nat.le_of_ble_eq_true hle
      rcases List.mem_cons.1 hq with rfl | hq
      · exact hle
      · have:=MW h q hq
        omega
    · cases h
theorem RU {ops:Array Oper} {m:Nat} {es ls:List Nat} (h:TT ops m es ls = true):LateR ops m (es ++ ls) ls:=by
  unfold TT at h
  simp only [Bool.and_eq_true] at h
  obtain ⟨⟨⟨⟨⟨⟨h1,h2⟩,h3⟩,h6⟩,h7⟩,h4⟩,h5⟩:=h
  have hle:m <= ops.size:=Nat.le_of_ble_eq_true h4
  have hq:∀ q,q ∈ es ++ ls->∃ oq d,ops[q]? = some oq ∧ Dd oq = true ∧ G8 ops (Region.before ops) m (es ++ ls) q oq 0 ops.toList = true ∧ oq.dst = some d ∧ d ∉ oq.looksAt ops:=fun q hq=>by
    have:=List.all_eq_true.1 h5 q hq
    split at this
    · rename_i oq ho
      simp only [Bool.and_eq_true] at this
      obtain ⟨⟨t1,t2⟩,t3⟩:=this
      split at t3
      · rename_i d hd
        exact ⟨oq,d,ho,t1,t2,hd,by simpa using t3⟩
      · cases t3
    · cases this
  refine ⟨fun j o cs b ho he=>?_,fun i hmi hi=>?_,h3,h6,fun j hj=>?_,hle,fun q hql=>?_,fun q oq j oj hql ho hmj hne hj=>?_⟩
  · have:=List.all_eq_true.1 h1 o (by rw [Array.mem_toList_iff]; exact Array.mem_of_getElem? ho)
    rw [he] at this
    cases this
  · have:=Ih _ m h2 (i - m) (by simp; omega)
    rw [show m+(i - m) = i by omega] at this
    exact this
  · rw [List.mem_append]
    refine ⟨fun hc=>hc.resolve_left fun hc=>?_,.inr⟩
    have:=List.all_eq_true.1 h7 j hc
    simp at this
    omega
  · obtain ⟨oq,d,t1,t2,_,t4,t5⟩:=hq q hql
    exact ⟨oq,d,t1,t2,t4,t5⟩
  · obtain ⟨oq',d,t1,_,t3,_,_⟩:=hq q hql
    rw [ho] at t1
    simp only [Option.some.injEq] at t1
    subst t1
    have:=Ii _ 0 t3 j oj (by simpa using hj) (by rw [Nat.zero_add]; exact hmj) (by omega)
    rw [Nat.zero_add] at this
    exact this
theorem E5 {bf:Array Nat} {i q:Nat}:∀ {l:List Nat},q ∈ l->Nat.testBit (bf.getD i 0) q = false->q ∈ Em bf i l
  | a :: l,h,hb=>by
    simp only [Em]
    rcases List.mem_cons.1 h with rfl | h
    · rw [hb]
      simp
    · split
      · exact E5 h hb
      · exact List.mem_cons_of_mem _ (E5 h hb)
theorem E4 {bf:Array Nat} {i q:Nat}:∀ {l:List Nat},q ∈ Em bf i l->q ∈ l
  | a :: l,h=>by
    simp only [Em] at h
    split at h
    · exact List.mem_cons_of_mem _ (E4 h)
    · rcases List.mem_cons.1 h with rfl | h
      · simp
      · exact List.mem_cons_of_mem _ (E4 h)
section
variable {P:Program} {ops:Array Oper} {Q:Exit->Act->World->Prop} {md:Region.Mode} {G:Array Bool->World->Prop}
def HL (P:Program) (md:Region.Mode) (ops:Array Oper) (Q:Exit->Act->World->Prop) (G:Array Bool->World->Prop):Nat->Array Bool->Act->World->Prop
  | 0,listed,a,w=>Region.ready md ops listed = [] ∧ Q .normal a w
  | fuel+1,listed,a,w =>
    (Region.ready md ops listed = []->Q .normal a w) ∧
    ∀ i ∈ Region.ready md ops listed,wpOp P ops Q i (fun a' w'=>G (listed.setIfInBounds i true) w' ∧ HL P md ops Q G fuel (listed.setIfInBounds i true) a' w') a w
theorem M6:∀ (fuel:Nat) (listed:Array Bool) (a:Act) (w:World),HL P md ops Q G fuel listed a w->wpAny P md ops Q fuel listed a w
  | 0,_,_,_,h=>h
  | fuel+1,_,_,_,h=>⟨h.1,fun i hi=>wpOp_mono (fun a' w' h'=>M6 fuel _ a' w' h'.2) (h.2 i hi)⟩
theorem Rg {listed:Array Bool} {a:Act} {w:World} (hr:Region.ready md ops listed = []) (h:Q .normal a w) :
    ∀ fuel,HL P md ops Q G fuel listed a w
  | 0=>⟨hr,h⟩
  | _+1=>⟨fun _=>h,by rw [hr]; simp⟩
theorem PA {i:Nat} {oi:Oper} {v:Value} (hi:ops[i]? = some oi) (hsel:∀ (j:Nat) (o:Oper) cs b,ops[j]? = some o->o.op ≠ .select cs b)
    (hQ:∀ c a w,Q (.panic c) (a.put oi.dst v) w->Q (.panic c) a w) {S:World->Prop} {C:Array Bool->Prop}
    (hC:∀ listed j,C listed->j ∈ Region.ready md ops listed->j ≠ i->C (listed.setIfInBounds j true)) (hS:∀ listed w,C listed->G listed w->S w) (hG:∀ listed w,G (listed.setIfInBounds i true) w->G listed w) :
    ∀ (fuel:Nat) (listed:Array Bool) (a:Act) (w:World),C listed ->
      (∀ j oj,ops[j]? = some oj->j ≠ i->listed.getD j true = false->(∀ e ∈ oj.after,Region.binds md e = true->e.on ≠ i)->oi.apart ops oj = true) ->
      i ∈ Region.ready md ops listed->YieldsIf P ops S oi v a->S w->G (listed.setIfInBounds i true) w ->
      HL P md ops Q G fuel (listed.setIfInBounds i true) (a.put oi.dst v) w->HL P md ops Q G (fuel+1) listed a w:=by
  intro fuel
  induction fuel with
  | zero =>
    intro listed a w _ _ hr hy hs hg H
    refine ⟨fun h=>(by rw [h] at hr; cases hr),fun j hj=>?_⟩
    by_cases hji:j = i
    · subst hji; exact hy.wpOp hi hs ⟨hg,H⟩
    · have:=ready_mono hj hji
      rw [H.1] at this
      cases this
  | succ fuel ih =>
    intro listed a w hc hfree hr hy hs hg H
    refine ⟨fun h=>(by rw [h] at hr; cases hr),fun j hj=>?_⟩
    by_cases hji:j = i
    · subst hji; exact hy.wpOp hi hs ⟨hg,H⟩
    · have h1:=H.2 j (ready_mono hj hji)
      obtain ⟨hjun,oj,hoj,hall⟩:=mem_ready.1 hj
      have hnot:∀ e ∈ oj.after,Region.binds md e = true->e.on ≠ i:=fun e he hb heq=>by
        have h1:=hall e he hb
        have h0:=(mem_ready.1 hr).1
        rw [heq] at h1
        rcases Nat.lt_or_ge i listed.size with h' | h'
        · simp [h'] at h0 h1; rw [h0] at h1; cases h1
        · simp [Array.getElem?_eq_none h'] at h1
      have h2:=wpOp_putIf hoj (hfree j oj hoj hji hjun hnot) (fun cs b=>hsel i oi cs b hi) (fun cs b=>hsel j oj cs b hoj) hQ hy h1
      have hfree':∀ k ok,ops[k]? = some ok->k ≠ i->(listed.setIfInBounds j true).getD k true = false ->
          (∀ e ∈ ok.after,Region.binds md e = true->e.on ≠ i)->oi.apart ops ok = true:=fun k ok hk hki hun hno=>by
        refine hfree k ok hk hki ?_ hno
        by_cases hjk:j = k
        · subst hjk; exact hjun
        · rw [getD_set_ne true hjk] at hun; exact hun
      have hc':=hC listed j hc hj hji
      refine wpOp_mono (fun a' w' h3=>?_) h2
      obtain ⟨h4,h5,h6⟩:=h3
      rw [Array.setIfInBounds_comm _ _ (Ne.symm hji)] at h5 h6
      exact ⟨hG _ _ h5,ih (listed.setIfInBounds j true) a' w' hc' hfree' (ready_mono hr (Ne.symm hji)) h4 (hS _ w' hc' (hG _ _ h5)) h5 h6⟩
end
def HK (ops:Array Oper) (A:Nat->Prop) (vals:Nat->V) (st:St) (i:Nat) (sti:St):Prop :=
  sti.h = st.h ∧ sti.t.length = st.t.length ∧
  (∀ j o t,ops[j]? = some o->o.dst = some t->t < st.t.length->A j->j < i->nth sti.t t = vals j) ∧
  ∀ t,(∀ j o,ops[j]? = some o->A j->j < i->o.dst ≠ some t)->nth sti.t t = nth st.t t
theorem HK.next {ops:Array Oper} (honce:ZU ops.toList) {A:Nat->Prop} {vals:Nat->V} {st sti:St} {i i':Nat} {o:Oper} (h:HK ops A vals st i sti) (hi:i < i') (hA:A i) (hb:∀ j,A j->i < j->i' <= j) (ho:ops[i]? = some o) :
    HK ops A vals st i' (put sti o.dst (vals i)):=by
  obtain ⟨h1,h2,h3,h4⟩:=h
  refine ⟨by rw [FN,h1],by rw [J8,h2],fun j oj t hj hd ht hAj hji=>?_,fun t hno=>?_⟩
  · rw [Ke,h2]
    by_cases he:j = i
    · subst he
      rw [ho] at hj
      simp only [Option.some.injEq] at hj
      subst hj
      rw [if_pos ⟨hd,ht⟩]
    · rw [if_neg (fun hc=>he (honce j i oj o t (by simpa using hj) (by simpa using ho) hd hc.1))]
      refine h3 j oj t hj hd ht hAj ?_
      rcases Nat.lt_or_ge j i with hc | hc
      · exact hc
      · have:=hb j hAj (by omega)
        omega
  · rw [Ke,if_neg (fun hc=>hno i o ho hA hi hc.1)]
    exact h4 t fun j oj hj hAj hji=>hno j oj hj hAj (by omega)
theorem HK.of {ops:Array Oper} {A:Nat->Prop} {vals:Nat->V} {st sti:St} {i i':Nat} (h:HK ops A vals st i sti) (he:∀ j,A j->(j < i ↔ j < i')):HK ops A vals st i' sti:=by
  obtain ⟨h1,h2,h3,h4⟩:=h
  exact ⟨h1,h2,fun j oj t hj hd ht hAj hji=>h3 j oj t hj hd ht hAj ((he j hAj).2 hji),fun t hno=>h4 t fun j oj hj hAj hji=>hno j oj hj hAj ((he j hAj).1 hji)⟩
theorem NA {τ:List Ty} {Γ:Cx0} {ops:Array Oper} (honce:ZU ops.toList) {st:St} {A:Nat->Prop} {v0:Nat->V}:∀ (l:List Nat) (b:Nat) (sti st2:St),
    (GY τ Γ ops l sti).sem = some st2->Ek b l = true->(∀ j,b <= j->(A j ↔ j ∈ l))->HK ops A v0 st b sti ->
    ∃ vals,(∀ j,j < b->vals j = v0 j) ∧ HK ops A vals st ops.size st2 ∧ ∀ q o,q ∈ l->ops[q]? = some o->∃ stq,HK ops A vals st q stq ∧ (CY τ Γ ops o stq).sem = some (vals q)
  | [],b,sti,st2,h,_,hA,hst=>by
    have h:=Ac h
    subst h
    refine ⟨v0,fun _ _=>rfl,?_,fun q o hq=>by cases hq⟩
    rcases Nat.lt_or_ge ops.size b with hc | hc
    · obtain ⟨h1,h2,h3,h4⟩:=hst
      refine ⟨h1,h2,fun j oj t hj hd ht hAj hji=>h3 j oj t hj hd ht hAj (by omega),fun t hno=>h4 t fun j oj hj hAj hjb=>?_⟩
      exact hno j oj hj hAj (Array.getElem?_eq_some_iff.1 hj).1
    · refine hst.of fun j hAj=>⟨fun hj=>by omega,fun hj=>?_⟩
      rcases Nat.lt_or_ge j b with hc' | hc'
      · exact hc'
      · exact absurd ((hA j hc').1 hAj) (by simp)
  | q :: l,b,sti,st2,h,hr,hA,hst=>by
    simp only [Ek] at hr
    split at hr
    · rename_i hle
      have hle:b <= q:=Nat.le_of_ble_eq_true hle
      simp only [GY] at h
      split at h
      · rename_i o ho
        obtain ⟨v,h1,h2⟩:=Ap h
        have hrise:=MW hr
        have hAq:A q:=(hA q hle).2 (by simp)
        let v1:Nat->V:=fun j=>if j = q then v else v0 j
        have hq0:HK ops A v1 st q sti:=by
          have h5:HK ops A v0 st q sti:=hst.of fun j hAj=>⟨fun hj=>by omega,fun hj=>by
            rcases Nat.lt_or_ge j b with hc | hc
            · exact hc
            · have:=(hA j hc).1 hAj
              rcases List.mem_cons.1 this with rfl | hm
              · omega
              · have:=hrise j hm
                omega⟩
          obtain ⟨e1,e2,e3,e4⟩:=h5
          exact ⟨e1,e2,fun j oj t hj hd ht hAj hji=>by rw [e3 j oj t hj hd ht hAj hji]; simp only [v1]; rw [if_neg (by omega)],e4⟩
        have hv1:v1 q = v:=by simp [v1]
        have hn:HK ops A v1 st (q+1) (put sti o.dst v):=by
          rw [<- hv1]
          exact hq0.next honce (by omega) hAq (fun j _ hj=>by omega) ho
        obtain ⟨vals,g1,g2,g3⟩:=NA honce l (q+1) _ st2 h2 hr (fun j hj=>by
          rw [hA j (by omega)]
          simp only [List.mem_cons]
          exact ⟨fun hc=>hc.resolve_left (by omega),.inr⟩) hn
        refine ⟨vals,fun j hj=>by rw [g1 j (by omega)]; simp only [v1]; rw [if_neg (by omega)],g2,fun q' o' hq' ho'=>?_⟩
        rcases List.mem_cons.1 hq' with rfl | hm
        · rw [ho] at ho'
          simp only [Option.some.injEq] at ho'
          subst ho'
          refine ⟨sti,?_,by rw [g1 q' (by omega),hv1]; exact h1⟩
          obtain ⟨e1,e2,e3,e4⟩:=hq0
          exact ⟨e1,e2,fun j oj t hj hd ht hAj hji=>by rw [e3 j oj t hj hd ht hAj hji,g1 j (by omega)],e4⟩
        · exact g3 q' o' hm ho'
      · cases h
    · cases hr
theorem HO {τ:List Ty} {Γ:Cx0} {all:Array Oper} {st:St}:∀ (l:List Nat),(E1 τ Γ all l st).sem = some ()->∀ q o,q ∈ l->all[q]? = some o ->
    ∃ d v,o.dst = some d ∧ (CY τ Γ all o st).sem = some v ∧ (MR v (nth st.t d)).sem = some ()
  | [],_,q,o,hq,_=>by cases hq
  | p :: l,h,q,o,hq,ho=>by
    simp only [E1] at h
    split at h
    · rename_i op hop
      split at h
      · rename_i d hd
        obtain ⟨v,h1,h2⟩:=Ap h
        obtain ⟨⟨⟩,h3,h4⟩:=Ap h2
        rcases List.mem_cons.1 hq with rfl | hm
        · rw [hop] at ho
          simp only [Option.some.injEq] at ho
          subst ho
          exact ⟨d,v,hd,h1,h3⟩
        · exact HO l h4 q o hm ho
      · cases h
    · cases h
section
variable {P:Program} {τ:List Ty} (hτ:TabOK P τ) {Γ:Cx0} {ops:Array Oper} {Q:Exit->Act->World->Prop}
theorem Mid.step (honce:ZU ops.toList) {κ0:Nat->Option Value} {S0:Nat->Prop} {w0:World} {st:St} {vals:Nat->V} {X X':Nat->Prop} {κ:Nat->Option Value} {S:Nat->Prop} {a:Act} {w:World}
    (hm:Mid Γ κ0 S0 w0 st ops vals X κ S a w) {i:Nat} {o:Oper} (ho:ops[i]? = some o) (hX:¬ X i) (hX':∀ k,X' k ↔ (k = i ∨ X k))
    {κ':Nat->Option Value} {S':Nat->Prop} {c:Value} {w':World} (q1:Good κ' S' st.h w') (q2:VR S' w' (vals i) κ' c) (q3:Ext κ S st.h w κ' S' st.h w') (q4:∀ id c,κ id = some c->κ' id = some c) :
    Mid Γ κ0 S0 w0 st ops vals X' κ' S' (a.put o.dst c) w':=by
  have hput:∀ t,t < st.t.length->(a.put o.dst c).tmps.getD t undef = if o.dst = some t then c else a.tmps.getD t undef:=fun t ht=>Mo a o.dst c t (by rw [hm.size]; exact ht)
  refine ⟨q1,hm.env.ext hm.good q3,hm.ext.trans q3,by rw [CZ]; exact hm.defers,by rw [R2]; exact hm.size,?_,?_⟩
  · intro k ok t hk hdk ht hXk
    rw [hX'] at hXk
    rw [hput t ht]
    by_cases hki:k = i
    · subst hki
      rw [ho] at hk
      simp only [Option.some.injEq] at hk
      subst hk
      rw [if_pos hdk]
      exact q2
    · rw [if_neg (fun hc=>hki (honce k i ok o t (by simpa using hk) (by simpa using ho) hdk hc))]
      exact VR.mono (q3.pers hm.good) _ _ _ _ q4 (hm.wrote k ok t hk hdk ht (hXk.resolve_left hki))
  · intro t ht hno
    rw [hput t ht,if_neg (fun hc=>hno i o ho ((hX' i).2 (.inl rfl)) hc)]
    exact VR.mono (q3.pers hm.good) _ _ _ _ q4 (hm.stays t ht (fun k ok hk hXk=>hno k ok hk ((hX' k).2 (.inr hXk))))
theorem Mid.slot (hd:DY ops = true) {A:Nat->Prop} {κ0:Nat->Option Value} {S0:Nat->Prop} {w0:World} {st:St} {vals:Nat->V} {X:Nat->Prop} {κ:Nat->Option Value} {S:Nat->Prop} {a:Act} {w:World}
    (hm:Mid Γ κ0 S0 w0 st ops vals X κ S a w) (hcl:FB ops.toList X) (hXA:∀ k,X k->A k) {i:Nat} {o:Oper} (ho:ops[i]? = some o) (hX:¬ X i) (hafter:∀ e ∈ o.after,Region.binds .any e = true->X e.on) {sti:St} (hst:HK ops A vals st i sti) :
    VRs S w (DH (Cp ops o) 0 sti.t) κ a.tmps.toList:=by
  unfold DY at hd
  split at hd
  · rename_i hback honce
    have honce:=Hh honce
    have hol:ops.toList[i]? = some o:=by simpa using ho
    have hr:=Gv ops.toList 0 hd i o hol
    rw [Nat.zero_add,Cn] at hr
    obtain ⟨e1,e2,e3,e4⟩:=hst
    refine Abk (st:=sti) (by rw [hm.size,e2]) fun t ht hmem=>?_
    rw [e2] at ht
    by_cases hex:∃ (j:Nat) (o':Oper),ops[j]? = some o' ∧ o'.dst = some t
    · obtain ⟨j,o',hj,hdst⟩:=hex
      have hjl:ops.toList[j]? = some o':=by simpa using hj
      obtain ⟨hne,hlt,hgt⟩:=Hd ops.toList 0 hr j o' t hjl hdst hmem
      rw [Nat.zero_add] at hne hlt hgt
      rcases Nat.lt_or_gt_of_ne hne with hc | hc
      · have hXj:=Cb hcl (i+1) i j o (by omega) hol hafter (hlt hc)
        rw [e3 j o' t hj hdst ht (hXA j hXj) hc]
        exact hm.wrote j o' t hj hdst ht hXj
      · have hnX:¬ X j:=fun hXj=>hX (Cb hcl (j+1) j i o' (by omega) hjl (fun e he hb=>hcl j o' hjl hXj e he hb) (hgt hc))
        rw [e4 t (fun k o'' hok _ hk hdk=>by
          have:=honce k j o'' o' t (by simpa using hok) hjl hdk hdst
          omega)]
        exact hm.stays t ht (fun k o'' hok hXk hdk=>by
          have:=honce k j o'' o' t (by simpa using hok) hjl hdk hdst
          subst this
          exact hnX hXk)
    · rw [e4 t (fun k o'' hok _ _ hdk=>hex ⟨k,o'',hok,hdk⟩)]
      exact hm.stays t ht (fun k o'' hok _ hdk=>hex ⟨k,o'',hok,hdk⟩)
  · cases hd
theorem Md {l:List Oper} {j:Nat} {o:Oper} (hj:l[j]? = some o) {e:Edge} (he:e ∈ o.after) (hb:Region.binds .any e = true):Nat.testBit ((C0 l).getD j 0) e.on = true:=by
  rw [K9 hj]
  unfold Oq
  rw [<- Array.foldl_toList]
  have keep:∀ (es:List Edge) (acc:Array Nat) (s k:Nat),Nat.testBit s k = true->Nat.testBit (es.foldl (fun s e=>if Region.binds .any e then s ||| 2 ^ e.on ||| acc.getD e.on 0 else s) s) k = true:=by
    intro es acc
    induction es with
    | nil=>intro s k h; exact h
    | cons x es ih =>
      intro s k h
      simp only [List.foldl_cons]
      refine ih _ k ?_
      split
      · simp [Nat.testBit_or,h]
      · exact h
  have main:∀ (es:List Edge) (acc:Array Nat) (s:Nat),e ∈ es->Nat.testBit (es.foldl (fun s e=>if Region.binds .any e then s ||| 2 ^ e.on ||| acc.getD e.on 0 else s) s) e.on = true:=by
    intro es acc
    induction es with
    | nil=>intro s h; cases h
    | cons x es ih =>
      intro s h
      simp only [List.foldl_cons]
      rcases List.mem_cons.1 h with rfl | h
      · rw [if_pos hb]
        exact keep es acc _ _ (by simp [Nat.testBit_or,Nat.testBit_two_pow])
      · exact ih _ h
  exact main _ _ _ (by simpa using he)
theorem NB (hτ:TabOK P τ) {st:St} {κ:Nat->Option Value} {S:Nat->Prop} {a:Act} {w:World} {q:Nat} {oq:Oper} (hg:Good κ S st.h w) (hE:Eh Γ S w) {h:List Blk} (hh:h = st.h)
    {ts:List V} (ht:VRs S w (DH (Cp ops oq) 0 ts) κ a.tmps.toList) (hk:Dd oq = true) {v:V} (hv:(CY τ Γ ops oq ⟨ts,h⟩).sem = some v) (_:ops[q]? = some oq):HD P a oq S w κ v:=by
  subst hh
  rw [R1 hk] at hv
  exact W7 (P:=P) (st:=⟨DH (Cp ops oq) 0 ts,st.h⟩) hτ hg hE ht hk hv
theorem Xb {κ:Nat->Option Value} {S:Nat->Prop} {w:World} (rs:List Nat) {vs:List V} {l:List Value} (h:VRs S w vs κ l):VRs S w (DH rs 0 vs) κ l:=by
  refine Ey _ _ (by rw [Da]; exact h.length) fun t ht=>?_
  rw [Da] at ht
  rw [Kf]
  split
  · exact h.nth t undef
  · trivial
def SwQ (P:Program) (ops:Array Oper) (af:Act) (q:Nat) (w:World):Prop :=
  ∀ oq d,ops[q]? = some oq->oq.dst = some d->(execOp af.eval oq).run P w = .ok (.value (af.tmps.getD d undef)) w
def GOf (P:Program) (ops:Array Oper) (m:Nat) (lts:List Nat) (af:Act) (listed:Array Bool) (w:World):Prop :=
  ∀ q,q ∈ lts->(∀ c,m <= c->c < ops.size->c ∉ lts->listed.getD c false = true->Nat.testBit ((Region.before ops).getD c 0) q = false)->SwQ P ops af q w
theorem GOf.less {m:Nat} {lts:List Nat} {af:Act} {i:Nat} (hi:i ∈ lts) {listed:Array Bool} {w:World} (h:GOf P ops m lts af (listed.setIfInBounds i true) w):GOf P ops m lts af listed w:=by
  intro q hq hc
  refine h q hq fun c h1 h2 h3 h4=>hc c h1 h2 h3 ?_
  rw [BE,if_neg (fun hh=>h3 (by rw [hh.1]; exact hi))] at h4
  exact h4
include hτ in
theorem KK {m:Nat} {lts ls:List Nat} (L:LateR ops m lts ls) {l:List Nat} (hsub:∀ q ∈ l,q ∈ lts) {st:St} {κ:Nat->Option Value} {S:Nat->Prop} {a af:Act} {w:World} (hr:Rel Γ κ S st a w) (h:(E1 τ Γ ops l st).sem = some ())
    (hag:∀ q oq d,q ∈ lts->ops[q]? = some oq->oq.dst = some d->execOp a.eval oq = execOp af.eval oq ∧ a.tmps.getD d undef = af.tmps.getD d undef ∧ d < st.t.length):∀ q,q ∈ l->SwQ P ops af q w:=by
  intro q hq oq d ho hd
  obtain ⟨d',v,hd',h1,h2⟩:=HO l h q oq hq ho
  rw [hd] at hd'
  simp only [Option.some.injEq] at hd'
  subst hd'
  obtain ⟨oq',_,ho',hk,_,_⟩:=L.kind q (hsub q hq)
  rw [ho] at ho'
  simp only [Option.some.injEq] at ho'
  subst ho'
  obtain ⟨e1,e2,e3⟩:=hag q oq d (hsub q hq) ho hd
  obtain ⟨c,g1,g2⟩:=NB (P:=P) hτ (st:=st) hr.good hr.env rfl (Xb (Cp ops oq) hr.tmps) hk h1 ho
  obtain ⟨rfl,one⟩:=Wn h2
  have hz:=hr.tmps.nth d undef
  rw [Cq] at hz
  have:=one κ S S w w c _ g2 hz
  rw [<- e1,<- e2,g1,this]
include hτ in
theorem Je (hΓ:Bm P Γ) {m:Nat} {lts ls:List Nat} (L:LateR ops m lts ls) (hd:DY ops = true) {af:Act}:∀ (n k fuel:Nat) (listed:Array Bool) (st st':St) (κ:Nat->Option Value) (S:Nat->Prop) (a:Act) (w:World),
    k+n = ops.size->m <= k->listed.size = ops.size->left ops.size listed = fuel->(∀ i,i < ops.size->(listed.getD i false = true ↔ (i < k ∨ i ∈ lts)))->Rel Γ κ S st a w ->
    (∀ q oq d,q ∈ lts->ops[q]? = some oq->oq.dst = some d->execOp a.eval oq = execOp af.eval oq ∧ a.tmps.getD d undef = af.tmps.getD d undef ∧ d < st.t.length) ->
    (DS τ Γ ops (Region.before ops) lts k (ops.toList.drop k) st).sem = some st'->Way Γ κ S st.h w st' (fun a' w'=>Q .normal a' w')->HL P .any ops Q (GOf P ops m lts af) fuel listed a w
  | 0,k,fuel,listed,st,st',κ,S,a,w,hk,hm,hsz,hf,hl,hr,hag,h,hw=>by
    rw [List.drop_eq_nil_of_le (by simp; omega)] at h
    have:=Ac h
    subst this
    refine Rg ?_ (hw κ S a w hr (Ext.refl _ _ _ _)) _
    apply List.eq_nil_iff_forall_not_mem.2
    intro i hi
    obtain ⟨h0,o,ho,_⟩:=mem_ready.1 hi
    have hil:i < ops.size:=(Array.getElem?_eq_some_iff.1 ho).1
    have h1:=(hl i hil).2 (.inl (by omega))
    have hil':i < listed.size:=by omega
    simp [Array.getD,hil'] at h0 h1
    rw [h0] at h1
    cases h1
  | n+1,k,fuel,listed,st,st',κ,S,a,w,hk,hm,hsz,hf,hl,hr,hag,h,hw=>by
    have hlt:k < ops.size:=by omega
    have hlt':k < listed.size:=by omega
    have hdr:ops.toList.drop k = ops[k] :: ops.toList.drop (k+1):=by
      rw [List.drop_eq_getElem_cons (by simpa using hlt)]
      simp
    rw [hdr] at h
    simp only [DS] at h
    split at h
    · -- it came up long ago
      rename_i hmem
      have hmem:=EC.1 hmem
      exact Je hΓ L hd n (k+1) fuel listed st st' κ S a w (by omega) (by omega) hsz hf (fun i hi=>by
        rw [hl i hi]
        constructor
        · rintro (hc | hc)
          · exact .inl (by omega)
          · exact .inr hc
        · rintro (hc | hc)
          · by_cases hik:i = k
            · subst hik; exact .inr hmem
            · exact .inl (by omega)
          · exact .inr hc) hr hag h hw
    · rename_i hmem
      have hmem:k ∉ lts:=fun hc=>by rw [EC.2 hc] at hmem; cases hmem
      have hdo:=hd
      unfold DY at hdo
      split at hdo
      · rename_i hback honce
        have honce:=Hh honce
        have hedges:=fun i o hi=>C3 ops.toList 0 hback i o hi
        have hlk:listed.getD k false = false:=by
          cases hq:listed.getD k false with
          | false=>rfl
          | true=>exact (((hl k hlt).1 hq).elim (fun hc=>absurd hc (Nat.lt_irrefl k)) hmem).elim
        have hcl:FB ops.toList (fun i=>listed.getD i false = true):=by
          intro q oq hq hX e he hb
          have hql:q < ops.size:=by
            have:=(List.getElem?_eq_some_iff.1 hq).1
            simpa using this
          have hlt2:=hedges q oq hq e he hb
          rw [Nat.zero_add] at hlt2
          rcases (hl q hql).1 hX with hc | hc
          · exact (hl e.on (by omega)).2 (.inl (by omega))
          · rcases Nat.lt_or_ge q m with hmq | hmq
            · exact (hl e.on (by omega)).2 (.inl (by omega))
            · have hbit:=Md hq he hb
              rw [<- Cn] at hbit
              rcases (L.order q hmq hql).1 hc e.on hlt2 hbit with h5 | h5
              · exact (hl e.on (by omega)).2 (.inl (by omega))
              · exact (hl e.on (by omega)).2 (.inr h5)
        have only:∀ i,i ∈ Region.ready .any ops listed->i = k:=by
          intro i hi
          obtain ⟨h0,o,ho,hafter⟩:=mem_ready.1 hi
          have hil:i < ops.size:=(Array.getElem?_eq_some_iff.1 ho).1
          have hil':i < listed.size:=by omega
          have h0':listed.getD i false = false:=by
            simp [Array.getD,hil'] at h0 ⊢
            exact h0
          have hki:¬ i < k:=fun hc=>by rw [(hl i hil).2 (.inl hc)] at h0'; cases h0'
          have hkl:i ∉ lts:=fun hc=>by rw [(hl i hil).2 (.inr hc)] at h0'; cases h0'
          rcases Nat.lt_or_ge k i with hgt | hge
          · exfalso
            have hb:=((L.order i (by omega) hil).2 hkl k hgt).resolve_right hmem
            rw [Cn] at hb
            have:=Cb hcl (i+1) i k o (by omega) (by simpa using ho) hafter hb
            rw [hlk] at this
            cases this
          · omega
        have kready:k ∈ Region.ready .any ops listed:=by
          refine mem_ready.2 ⟨?_,ops[k],by simp [hlt],fun e he hb=>?_⟩
          · simp [Array.getD,hlt'] at hlk ⊢
            exact hlk
          · have:=hedges k ops[k] (by simp [hlt]) e he hb
            exact (hl e.on (by omega)).2 (.inl (by omega))
        have hlT:listed.getD k true = false:=by
          simp [Array.getD,hlt'] at hlk ⊢
          exact hlk
        have hls:=G7 hlt hsz hlT
        obtain ⟨fuel',rfl⟩:∃ f,fuel = f+1:=⟨left ops.size (listed.setIfInBounds k true),by omega⟩
        refine ⟨fun hready=>absurd kready (by rw [hready]; simp),fun i hi=>?_⟩
        have:=only i hi
        subst this
        obtain ⟨st1,h1,h2⟩:=Ap h
        obtain ⟨⟨⟩,h3,h4⟩:=Ap h2
        have hl':∀ q,q < ops.size->((listed.setIfInBounds i true).getD q false = true ↔ (q < i+1 ∨ q ∈ lts)):=by
          intro q hq
          rw [BE]
          by_cases hqi:q = i
          · rw [if_pos ⟨hqi,by omega⟩]
            simp
            left
            omega
          · rw [if_neg (fun hc=>hqi hc.1),hl q hq]
            constructor
            · rintro (hc | hc)
              · exact .inl (by omega)
              · exact .inr hc
            · rintro (hc | hc)
              · exact .inl (by omega)
              · exact .inr hc
        have hoi:ops[i]? = some ops[i]:=by simp [hlt]
        have hap:∀ q oq,q ∈ lts->ops[q]? = some oq->i ≠ q->((∀ e ∈ (ops[i]).after,Region.binds .any e = true->e.on ≠ q)->oq.apart ops ops[i] = true) ∧ ∀ d,(ops[i]).dst = some d->d ∉ oq.looksAt ops:=by
          intro q oq hq ho hne
          rcases L.apart q oq i ops[i] hq ho (.inl hm) hne hoi with hb | hb
          · exfalso
            rw [Cn] at hb
            have hqs:=(Array.getElem?_eq_some_iff.1 ho).1
            have:=Cb hcl (q+1) q i oq (by omega) (by simpa using ho) (fun e he hb=>hcl q oq (by simpa using ho) ((hl q hqs).2 (.inr hq)) e he hb) hb
            rw [hlk] at this
            cases this
          · exact hb
        have hag':∀ (c:Value),∀ q oq d,q ∈ lts->ops[q]? = some oq->oq.dst = some d->execOp (a.put ops[i].dst c).eval oq = execOp af.eval oq ∧ (a.put ops[i].dst c).tmps.getD d undef = af.tmps.getD d undef ∧ d < st.t.length:=by
          intro c q oq d hq ho hdq
          obtain ⟨e1,e2,e3⟩:=hag q oq d hq ho hdq
          have hne:i ≠ q:=fun hc=>hmem (by rw [hc]; exact hq)
          refine ⟨?_,?_,e3⟩
          · rw [execOp_put (ops:=ops) oq (fun cs b=>L.sel q oq cs b ho) a _ c (fun d' hd'=>(hap q oq hq ho hne).2 d' hd')]
            exact e1
          · have hsz2:a.tmps.size = st.t.length:=by have:=hr.tmps.length; simpa using this
            rw [Mo a _ c d (Nat.lt_of_lt_of_le e3 (Nat.le_of_eq hsz2.symm)),if_neg (fun hc=>hne (honce i q ops[i] oq d (by simp) (by simpa using ho) hc hdq))]
            exact e2
        have hfu:left ops.size (listed.setIfInBounds i true) = fuel':=by omega
        unfold wpOp
        rw [hoi]
        simp only
        unfold MT at h1
        rcases Il hr.tmps h1 with ⟨hwant,hrun⟩ | ⟨hwant,hskip⟩
        · rw [if_pos hwant]
          left
          obtain ⟨⟨v,st2⟩,h5,h6⟩:=Ap hrun
          have h6:=Ac h6
          refine PJ (P:=P) hτ hΓ hr.good hr.env hr.tmps h5 ?_
          intro κ' S' c w' q1 q2 q3 q4
          have hr':Rel Γ κ' S' st1 (a.put ops[i].dst c) w':=by
            subst h6
            exact ⟨by rw [FN]; exact q1,hr.env.ext hr.good q4,G3 q2 q3,by rw [CZ]; exact hr.defers⟩
          have hlen:st1.t.length = st.t.length:=by
            have g1:=hr'.tmps.length
            have g2:=hr.tmps.length
            rw [Array.length_toList,R2] at g1
            rw [Array.length_toList] at g2
            omega
          have hag2:∀ q oq d,q ∈ lts->ops[q]? = some oq->oq.dst = some d->execOp (a.put ops[i].dst c).eval oq = execOp af.eval oq ∧ (a.put ops[i].dst c).tmps.getD d undef = af.tmps.getD d undef ∧ d < st1.t.length:=by
            rw [hlen]
            exact hag' c
          refine ⟨fun q hq hcq=>KK hτ L (fun _=>E4) hr' h3 hag2 q (E5 hq (hcq i hm hlt hmem (by rw [BE,if_pos ⟨rfl,by omega⟩]))),?_⟩
          refine Je hΓ L hd n (i+1) fuel' _ st1 st' κ' S' _ w' (by omega) (by omega) (by simp [hsz]) hfu hl' hr' hag2 h4 ?_
          subst h6
          rw [FN]
          exact hw.ext q4
        · rw [if_neg (by rw [hwant]; simp)]
          have h6:=Ac hskip
          have hr':Rel Γ κ S st1 (a.put ops[i].dst undef) w:=by
            subst h6
            exact ⟨by rw [FN]; exact hr.good,hr.env,G3 hr.tmps rfl,by rw [CZ]; exact hr.defers⟩
          have hag2:∀ q oq d,q ∈ lts->ops[q]? = some oq->oq.dst = some d->execOp (a.put ops[i].dst undef).eval oq = execOp af.eval oq ∧ (a.put ops[i].dst undef).tmps.getD d undef = af.tmps.getD d undef ∧ d < st1.t.length:=by
            subst h6
            rw [J8]
            exact hag' undef
          refine ⟨fun q hq hcq=>KK hτ L (fun _=>E4) hr' h3 hag2 q (E5 hq (hcq i hm hlt hmem (by rw [BE,if_pos ⟨rfl,by omega⟩]))),?_⟩
          refine Je hΓ L hd n (i+1) fuel' _ st1 st' κ S _ w (by omega) (by omega) (by simp [hsz]) hfu hl' hr' hag2 h4 ?_
          subst h6
          rw [FN]
          exact hw
      · cases hdo
include hτ in
theorem Qz {m:Nat} {lts ls:List Nat} (L:LateR ops m lts ls) (hd:DY ops = true) {κ0:Nat->Option Value} {S0:Nat->Prop} {w0:World} {st:St} {vals:Nat->V} {κ:Nat->Option Value} {S:Nat->Prop} {w:World}
    (hv:∀ q o,q ∈ lts->ops[q]? = some o->∃ stq,HK ops (fun i=>i < m ∨ i ∈ lts) vals st q stq ∧ (CY τ Γ ops o stq).sem = some (vals q))
    (hQ:∀ c a w,¬ Q (.panic c) a w) (hd':∀ q oq d,q ∈ lts->ops[q]? = some oq->oq.dst = some d->d < st.t.length) :
    ∀ (ps pre:List Nat) (listed:Array Bool) (a:Act),lts = pre ++ ps->(∀ x ∈ pre,∀ y ∈ ps,x < y)->Ek 0 ps = true->listed.size = ops.size->(∀ i,i < ops.size->listed.getD i false = true->i < m ∨ i ∈ lts)->(∀ i,i < m->i ∉ lts->listed.getD i false = true)->(∀ i,i ∈ pre->listed.getD i false = true)->FB ops.toList (fun i=>listed.getD i false = true) ->
      Mid Γ κ0 S0 w0 st ops vals (fun i=>listed.getD i false = true) κ S a w ->
      ∃ (LA:Array Bool) (af:Act),LA.size = ops.size ∧ (∀ i,i < ops.size->(LA.getD i false = true ↔ (i < m ∨ i ∈ lts))) ∧ Mid Γ κ0 S0 w0 st ops vals (fun i=>LA.getD i false = true) κ S af w ∧
        (∀ q oq d,q ∈ lts->ops[q]? = some oq->oq.dst = some d->listed.getD q false = true->execOp af.eval oq = execOp a.eval oq ∧ af.tmps.getD d undef = a.tmps.getD d undef) ∧
        ((∀ q ∈ lts,SwQ P ops af q w)->HL P .any ops Q (GOf P ops m lts af) (left ops.size LA) LA af w->HL P .any ops Q (GOf P ops m lts af) (left ops.size listed) listed a w)
  | [],pre,listed,a,hl,_,_,hsz,hA,hm1,hp,_,hm=>by
    rw [List.append_nil] at hl
    subst hl
    refine ⟨listed,a,hsz,fun i hi=>⟨hA i hi,fun h=>?_⟩,hm,fun _ _ _ _ _ _ _=>⟨rfl,rfl⟩,fun _ h=>h⟩
    rcases Classical.em (i ∈ lts) with hin | hin
    · exact hp i hin
    · exact hm1 i (h.resolve_right hin) hin
  | q :: ps,pre,listed,a,hl,hlt,hri,hsz,hA,hm1,hp,hcl,hm=>by
    simp only [Ek] at hri
    split at hri
    rotate_left
    · cases hri
    have hge:=MW hri
    have hri':Ek 0 ps = true:=by
      cases ps with
      | nil=>rfl
      | cons p ps =>
        simp only [Ek] at hri ⊢
        split at hri
        · rename_i h2 _ h1
          have h1:=Nat.le_of_ble_eq_true h1
          have h2:=Nat.le_of_ble_eq_true h2
          rw [Nat.ble_eq_true_of_le (show 0 <= p by omega)]
          exact hri
        · cases hri
    have hql:q ∈ lts:=by rw [hl]; simp
    have hl2:lts = (pre ++ [q]) ++ ps:=by rw [hl]; simp
    have hlt2:∀ x ∈ pre ++ [q],∀ y ∈ ps,x < y:=by
      intro x hx y hy
      rcases List.mem_append.1 hx with hx | hx
      · exact hlt x hx y (by simp [hy])
      · have:=hge y hy
        simp at hx
        omega
    cases hq:listed.getD q false with
    | true =>
      refine Qz L hd hv hQ hd' ps (pre ++ [q]) listed a hl2 hlt2 hri' hsz hA hm1 (fun i hi=>?_) hcl hm
      rcases List.mem_append.1 hi with hi | hi
      · exact hp i hi
      · simp at hi
        rw [hi]
        exact hq
    | false =>
      obtain ⟨oq,d,ho,hk,hdq,hnl⟩:=L.kind q hql
      have hqs:q < ops.size:=(Array.getElem?_eq_some_iff.1 ho).1
      have hqs':q < listed.size:=by omega
      have hdo:=hd
      unfold DY at hdo
      split at hdo
      rotate_left
      · cases hdo
      rename_i hback honce
      have honce:=Hh honce
      have hedges:=fun i o hi=>C3 ops.toList 0 hback i o hi
      have hbefore:∀ i oi,i ∈ lts->i <= q->ops[i]? = some oi->∀ e ∈ oi.after,Region.binds .any e = true->listed.getD e.on false = true:=by
        intro i oi hi hiq hoi e he hb
        have hil:ops.toList[i]? = some oi:=by simpa using hoi
        have h1:=hedges i oi hil e he hb
        rw [Nat.zero_add] at h1
        have hbit:=Md hil he hb
        rw [<- Cn] at hbit
        rcases Classical.em (e.on ∈ lts) with h5 | h5
        · rw [hl] at h5
          rcases List.mem_append.1 h5 with h5 | h5
          · exact hp _ h5
          · rcases List.mem_cons.1 h5 with h5 | h5
            · omega
            · have:=hge _ h5
              omega
        · refine hm1 _ ?_ h5
          rcases Nat.lt_or_ge i m with hmi | hmi
          · omega
          · exact ((L.order i hmi (by omega)).1 hi e.on h1 hbit).resolve_right h5
      have hXA:∀ k,listed.getD k false = true->k < m ∨ k ∈ lts:=fun k hk=>by
        rcases Nat.lt_or_ge k listed.size with hc | hc
        · exact hA k (by omega) hk
        · simp [Array.getElem?_eq_none hc] at hk
      obtain ⟨stq,hst,hqv⟩:=hv q oq hql ho
      have hmask:=hm.slot hd hcl hXA ho (by rw [hq]; simp) (hbefore q oq hql (Nat.le_refl _) ho) hst
      obtain ⟨c,g1,g2⟩:=NB (P:=P) (st:=st) hτ hm.good hm.env hst.1 hmask hk hqv ho
      have hX':∀ k,(listed.setIfInBounds q true).getD k false = true ↔ (k = q ∨ listed.getD k false = true):=by
        intro k
        rw [BE]
        by_cases hkq:k = q
        · rw [if_pos ⟨hkq,hqs'⟩]
          simp [hkq]
        · rw [if_neg (fun hc=>hkq hc.1)]
          simp [hkq]
      have hm1':=hm.step honce ho (by rw [hq]; simp) hX' hm.good g2 (Ext.refl _ _ _ _) (fun _ _ h=>h)
      have hcl':FB ops.toList (fun i=>(listed.setIfInBounds q true).getD i false = true):=by
        intro k ok hk hXk e he hb
        have hXk:=(hX' k).1 hXk
        refine (hX' _).2 (.inr ?_)
        rcases hXk with rfl | hXk
        · have hk:ops[k]? = some ok:=by simpa using hk
          rw [ho] at hk
          simp only [Option.some.injEq] at hk
          subst hk
          exact hbefore k oq hql (Nat.le_refl _) ho e he hb
        · exact hcl k ok hk hXk e he hb
      obtain ⟨LA,af,z1,z2,z3,z4,z5⟩:=Qz L hd hv hQ hd' ps (pre ++ [q]) (listed.setIfInBounds q true) (a.put oq.dst c) hl2 hlt2 hri' (by simp [hsz])
        (fun i hi h=>((hX' i).1 h).elim (fun e=>by rw [e]; exact .inr hql) (hA i hi)) (fun i hi hil=>(hX' i).2 (.inr (hm1 i hi hil)))
        (fun i hi=>(hX' i).2 (by
          rcases List.mem_append.1 hi with hi | hi
          · exact .inr (hp i hi)
          · simp at hi
            exact .inl hi)) hcl' hm1'
      have hno:∀ i oi,ops[i]? = some oi->listed.getD i false = true->Nat.testBit ((Region.before ops).getD i 0) q = true->False:=fun i oi hi hli hb=>by
        rw [Cn] at hb
        have:=Cb hcl (i+1) i q oi (by omega) (by simpa using hi) (fun e he hb=>hcl i oi (by simpa using hi) hli e he hb) hb
        rw [hq] at this
        cases this
      have hex:∀ q' oq',q' ∈ lts->ops[q']? = some oq'->(q' = q ∨ listed.getD q' false = true)->execOp (a.put oq.dst c).eval oq' = execOp a.eval oq':=fun q' oq' hq' ho' hwh=>by
        refine execOp_put (ops:=ops) oq' (fun cs b=>L.sel q' oq' cs b ho') a _ c fun e he=>?_
        by_cases hqq:q = q'
        · subst hqq
          rw [ho] at ho'
          simp only [Option.some.injEq] at ho'
          subst ho'
          rw [hdq] at he
          simp only [Option.some.injEq] at he
          subst he
          exact hnl
        · rcases L.apart q' oq' q oq hq' ho' (.inr hql) hqq ho with hb | hb
          · exact (hno q' oq' ho' (hwh.resolve_left (Ne.symm hqq)) hb).elim
          · exact hb.2 e he
      have hdl:=hd' q oq d hql ho hdq
      refine ⟨LA,af,z1,z2,z3,fun q' oq' e hq' ho' he hl'=>?_,fun hSw H=>?_⟩
      · obtain ⟨y1,y2⟩:=z4 q' oq' e hq' ho' he ((hX' q').2 (.inr hl'))
        refine ⟨y1.trans (hex q' oq' hq' ho' (.inr hl')),?_⟩
        rw [y2,Mo a _ c e (by rw [hm.size]; exact hd' q' oq' e hq' ho' he),if_neg (fun hc=>?_)]
        have:=honce q q' oq oq' e (by simpa using ho) (by simpa using ho') hc he
        subst this
        rw [hq] at hl'
        cases hl'
      · have H1:=z5 hSw H
        have hlT:listed.getD q true = false:=by
          simp [Array.getD,hqs'] at hq ⊢
          exact hq
        have hready:q ∈ Region.ready .any ops listed:=mem_ready.2 ⟨hlT,oq,ho,hbefore q oq hql (Nat.le_refl _) ho⟩
        have hlink:∀ (l:Array Bool) (w':World),(FB ops.toList (fun i=>l.getD i false = true) ∧ l.getD q false = false)->GOf P ops m lts af l w'->SwQ P ops af q w':=by
          intro l w' hc hG
          refine hG q hql fun c h1 h2 h3 h4=>?_
          cases hb:Nat.testBit ((Region.before ops).getD c 0) q with
          | false=>rfl
          | true =>
            exfalso
            rw [Cn] at hb
            have hcs:ops.toList[c]? = some ops[c]:=by simp [h2]
            have:=Cb hc.1 (c+1) c q ops[c] (by omega) hcs (fun e he hb=>hc.1 c _ hcs h4 e he hb) hb
            rw [hc.2] at this
            cases this
        rw [<- G7 hqs hsz hlT]
        refine PA (S:=SwQ P ops af q) (C:=fun l=>FB ops.toList (fun i=>l.getD i false = true) ∧ l.getD q false = false) ho (fun j o cs b=>L.sel j o cs b) (fun c a w h=>(hQ c _ w h).elim)
          (fun l j hc hj hjq=>⟨?_,?_⟩) hlink (fun l w' h=>h.less hql) _ listed a w ⟨hcl,hq⟩ (fun j oj hj hne hun hnoe=>?_) hready ?_ (hSw q hql) (fun q' hq' _=>hSw q' hq') H1
        · obtain ⟨_,oj,hoj,hall⟩:=mem_ready.1 hj
          intro k ok hk hXk e he hb
          have hXk:(l.setIfInBounds j true).getD k false = true:=hXk
          rw [BE] at hXk
          have hon:l.getD e.on false = true:=by
            split at hXk
            · rename_i hkj
              rw [hkj.1] at hk
              have hk:ops[j]? = some ok:=by simpa using hk
              rw [hoj] at hk
              simp only [Option.some.injEq] at hk
              subst hk
              exact hall e he hb
            · exact hc.1 k ok hk hXk e he hb
          show (l.setIfInBounds j true).getD e.on false = true
          rw [BE]
          split
          · rfl
          · exact hon
        · rw [BE,if_neg (fun hh=>hjq hh.1.symm)]
          exact hc.2
        · have hjl:j < listed.size:=by
            rw [hsz]
            exact (Array.getElem?_eq_some_iff.1 hj).1
          have hjf:listed.getD j false = false:=by
            simp [Array.getD,hjl] at hun ⊢
            exact hun
          have hj':m <= j ∨ j ∈ lts:=by
            rcases Nat.lt_or_ge j m with hc | hc
            · refine .inr ?_
              rcases Classical.em (j ∈ lts) with h5 | h5
              · exact h5
              · rw [hm1 j hc h5] at hjf
                cases hjf
            · exact .inl hc
          rcases L.apart q oq j oj hql ho hj' hne hj with hb | hb
          · exfalso
            rw [Cn] at hb
            have:=Cb hcl (q+1) q j oq (by omega) (by simpa using ho) (hbefore q oq hql (Nat.le_refl _) ho) hb
            rw [hjf] at this
            cases this
          · exact hb.1 hnoe
        · refine .inl ⟨by simp [Region.wanted,(E7 hk).1],fun w' hw'=>?_⟩
          have h1:=hw' oq d ho hdq
          obtain ⟨y1,y2⟩:=z4 q oq d hql ho hdq ((hX' q).2 (.inl rfl))
          rw [y1,hex q oq hql ho (.inl rfl),y2,Mo a _ c d (by rw [hm.size]; exact hdl),if_pos hdq] at h1
          exact h1
include hτ in
theorem YO (hΓ:Bm P Γ) {κ0:Nat->Option Value} {S0:Nat->Prop} {w0:World} {st st2 st':St} {vals:Nat->V} (hd:DY ops = true) {m:Nat} {lts ls:List Nat} (L:LateR ops m lts ls)
    (hQ:∀ c a w,¬ Q (.panic c) a w)
    (hv:∀ k o,(k < m ∨ k ∈ lts)->ops[k]? = some o->∃ stk,HK ops (fun i=>i < m ∨ i ∈ lts) vals st k stk ∧ (CY τ Γ ops o stk).sem = some (vals k))
    (hst2:HK ops (fun i=>i < m ∨ i ∈ lts) vals st ops.size st2) (hs2:(E1 τ Γ ops lts st2).sem = some ())
    (hd':∀ q oq d,q ∈ lts->ops[q]? = some oq->oq.dst = some d->d < st.t.length)
    (hrest:(DS τ Γ ops (Region.before ops) lts m (ops.toList.drop m) st2).sem = some st')
    (hw:Way Γ κ0 S0 st.h w0 st' (fun a' w'=>Q .normal a' w')) :
    ∀ (fuel:Nat) (listed:Array Bool) (κ:Nat->Option Value) (S:Nat->Prop) (a:Act) (w:World),listed.size = ops.size->left ops.size listed = fuel->(∀ k,k < ops.size->listed.getD k false = true->k < m ∨ k ∈ lts) ->
      FB ops.toList (fun i=>listed.getD i false = true)->Mid Γ κ0 S0 w0 st ops vals (fun i=>listed.getD i false = true) κ S a w->wpAny P .any ops Q fuel listed a w:=by
  have hdo:=hd
  unfold DY at hdo
  split at hdo
  rotate_left
  · cases hdo
  rename_i hback honce
  have honce:=Hh honce
  have hedges:=fun i o hi=>C3 ops.toList 0 hback i o hi
  have fin:∀ (fuel:Nat) (listed:Array Bool) (κ:Nat->Option Value) (S:Nat->Prop) (a:Act) (w:World),listed.size = ops.size->left ops.size listed = fuel->(∀ k,k < ops.size->listed.getD k false = true->k < m ∨ k ∈ lts) ->
      FB ops.toList (fun i=>listed.getD i false = true)->(∀ i,i < m->i ∉ lts->listed.getD i false = true)->Mid Γ κ0 S0 w0 st ops vals (fun i=>listed.getD i false = true) κ S a w->wpAny P .any ops Q fuel listed a w:=by
    intro fuel listed κ S a w hsz hleft hA hcl hall hm
    subst hleft
    obtain ⟨LA,af,z1,z2,z3,z4,z5⟩:=Qz (P:=P) (Q:=Q) hτ L hd (fun q o hq ho=>hv q o (.inr hq) ho) hQ hd' lts [] listed a rfl (by simp) L.rises hsz hA hall (by simp) hcl hm
    refine M6 _ _ _ _ (z5 ?_ ?_)
    all_goals
      have hr:Rel Γ κ S st2 af w:=by
        obtain ⟨e1,e2,e3,e4⟩:=hst2
        refine ⟨by rw [e1]; exact z3.good,z3.env,?_,z3.defers⟩
        refine Ey _ _ (by rw [Array.length_toList,z3.size,e2]) fun t ht=>?_
        rw [e2] at ht
        rw [Cq]
        by_cases hex:∃ (j:Nat) (o:Oper),(j < m ∨ j ∈ lts) ∧ ops[j]? = some o ∧ o.dst = some t
        · obtain ⟨j,o,hjA,hj,hdst⟩:=hex
          have hjs:=(Array.getElem?_eq_some_iff.1 hj).1
          rw [e3 j o t hj hdst ht hjA hjs]
          exact z3.wrote j o t hj hdst ht ((z2 j hjs).2 hjA)
        · rw [e4 t fun j o hj hjA _ hdst=>hex ⟨j,o,hjA,hj,hdst⟩]
          exact z3.stays t ht fun j o hj hX hdst=>hex ⟨j,o,(z2 j (Array.getElem?_eq_some_iff.1 hj).1).1 hX,hj,hdst⟩
      have hag:∀ q oq d,q ∈ lts->ops[q]? = some oq->oq.dst = some d->execOp af.eval oq = execOp af.eval oq ∧ af.tmps.getD d undef = af.tmps.getD d undef ∧ d < st2.t.length :=
        fun q oq d hq ho hdq=>⟨rfl,rfl,by rw [hst2.2.1]; exact hd' q oq d hq ho hdq⟩
    · exact KK hτ L (fun _ h=>h) hr hs2 hag
    · refine Je (P:=P) hτ hΓ L hd (ops.size - m) m _ LA st2 st' κ S af w (by have:=L.le; omega) (Nat.le_refl _) z1 rfl z2 hr hag hrest ?_
      rw [hst2.1]
      exact hw.ext z3.ext
  have allOf:∀ listed:Array Bool,listed.size = ops.size->Region.ready .any ops listed = []->∀ i,i < ops.size->listed.getD i false = true:=by
    intro listed hsz hready i
    induction i using Nat.strongRecOn with
    | _ i ih =>
      intro hi
      cases hl:listed.getD i false with
      | true=>rfl
      | false =>
        exfalso
        have hmem:i ∈ Region.ready .any ops listed:=by
          refine mem_ready.2 ⟨?_,ops[i],by simp [hi],fun e he hb=>?_⟩
          · have:i < listed.size:=by omega
            simp [Array.getD,this] at hl ⊢
            exact hl
          · have hlt:=hedges i ops[i] (by simp [hi]) e he hb
            exact ih e.on (by omega) (by omega)
        rw [hready] at hmem
        cases hmem
  intro fuel
  induction fuel with
  | zero =>
    intro listed κ S a w hsz hleft hno hcl hm
    refine fin 0 listed κ S a w hsz hleft hno hcl (fun i hi _=>?_) hm
    have hil:i < ops.size:=by have:=L.le; omega
    cases hl:listed.getD i true with
    | true =>
      have hil':i < listed.size:=by omega
      simp [Array.getD,hil'] at hl ⊢
      exact hl
    | false =>
      exfalso
      have:=G7 hil hsz hl
      omega
  | succ fuel ih =>
    intro listed κ S a w hsz hleft hno hcl hm
    by_cases hall:∀ i,i < m->i ∉ lts->listed.getD i false = true
    · exact fin (fuel+1) listed κ S a w hsz hleft hno hcl hall hm
    refine ⟨fun hready=>absurd (fun i hi _=>allOf listed hsz hready i (by have:=L.le; omega)) hall,fun i hi=>?_⟩
    obtain ⟨h0,o,ho,hafter⟩:=mem_ready.1 hi
    have hil:i < ops.size:=(Array.getElem?_eq_some_iff.1 ho).1
    have hiF:listed.getD i false = false:=by
      have:i < listed.size:=by omega
      simp [Array.getD,this] at h0 ⊢
      exact h0
    have hol:ops.toList[i]? = some o:=by simpa using ho
    have hiA:i < m ∨ i ∈ lts:=by
      rcases Nat.lt_or_ge i m with hc | hc
      · exact .inl hc
      · right
        rcases Classical.em (i ∈ lts) with hin | hin
        · exact hin
        · exfalso
          refine hall fun j hj hjl=>?_
          rcases (L.order i hc hil).2 hin j (by omega) with hb | hb
          · rw [Cn] at hb
            exact Cb hcl (i+1) i j o (by omega) hol hafter hb
          · exact absurd hb hjl
    have hXA:∀ k,listed.getD k false = true->k < m ∨ k ∈ lts:=fun k hk=>by
      rcases Nat.lt_or_ge k listed.size with hc | hc
      · exact hno k (by omega) hk
      · simp [Array.getElem?_eq_none hc] at hk
    obtain ⟨sti,hsti,hq⟩:=hv i o hiA ho
    have hmask:=hm.slot hd hcl hXA ho (by rw [hiF]; simp) hafter hsti
    have hX':∀ k,(listed.setIfInBounds i true).getD k false = true ↔ (k = i ∨ listed.getD k false = true):=by
      intro k
      rw [BE]
      by_cases hk:k = i
      · rw [if_pos ⟨hk,by omega⟩]
        simp [hk]
      · rw [if_neg (fun hc=>hk hc.1)]
        simp [hk]
    have next:∀ (κ':Nat->Option Value) (S':Nat->Prop) (c:Value) (w':World),Good κ' S' st.h w'->VR S' w' (vals i) κ' c->Ext κ S st.h w κ' S' st.h w' ->
        (∀ id c,κ id = some c->κ' id = some c)->wpAny P .any ops Q fuel (listed.setIfInBounds i true) (a.put o.dst c) w':=by
      intro κ' S' c w' q1 q2 q3 q4
      refine ih (listed.setIfInBounds i true) κ' S' _ w' (by simp [hsz]) (by have:=G7 hil hsz h0; omega) (fun k hk hkl=>?_) ?_ (hm.step honce ho (by rw [hiF]; simp) hX' q1 q2 q3 q4)
      · rcases (hX' k).1 hkl with rfl | h
        · exact hiA
        · exact hno k hk h
      · intro k ok hk hXk e he hb
        refine (hX' _).2 (.inr ?_)
        rcases (hX' k).1 hXk with rfl | hXk
        · rw [hol] at hk
          cases hk
          exact hafter e he hb
        · exact hcl k ok hk hXk e he hb
    unfold CY at hq
    rw [hsti.1] at hq
    unfold wpOp
    rw [ho]
    simp only
    rcases Il (st:=⟨DH (Cp ops o) 0 sti.t,st.h⟩) hmask hq with ⟨hwant,hrun⟩ | ⟨hwant,hskip⟩
    · rw [if_pos hwant]
      left
      exact MG (P:=P) (st:=⟨DH (Cp ops o) 0 sti.t,st.h⟩) hτ hΓ hm.good hm.env hmask hrun next
    · rw [if_neg (by rw [hwant]; simp)]
      have hvi:vals i = A7:=Ac hskip
      exact next κ S undef w hm.good (by rw [hvi]; exact rfl) (Ext.refl _ _ _ _) (fun _ _ h=>h)
theorem Tx {v:V} (h:(MR v .und).sem = some ()):False:=by
  cases v <;> first | (cases h; done) | skip
  rename_i c
  cases c <;> cases h
theorem Vb:∀ {l:List V} {t:Nat},l.length <= t->nth l t = .und
  | [],_,_=>rfl
  | _ :: l,0,h=>by simp at h
  | _ :: l,t+1,h=>Vb (l:=l) (by simpa using h)
theorem Jz {m:Nat} {es ls:List Nat} {st:St} {r:Ex × St} (h:(Dc τ Γ ops m es ls st).sem = some r):r.1 = .nm:=by
  unfold Dc at h
  split at h
  · obtain ⟨_,_,h⟩:=Ap h
    obtain ⟨_,_,h⟩:=Ap h
    obtain ⟨_,_,h⟩:=Ap h
    obtain ⟨_,_,h⟩:=Ap h
    rw [Ac h]
  · cases h
include hτ in
theorem MX (hm:P.follows .mixedOrders = true) (hΓ:Bm P Γ) {id:Nat} {st:St} {r:Ex × St} {κ:Nat->Option Value} {S:Nat->Prop} {a:Act} {w:World} (hr:Rel Γ κ S st a w)
    (hd:DY ops = true) {m:Nat} {es ls:List Nat} (h:(Dc τ Γ ops m es ls st).sem = some r) (hw:Way Γ κ S st.h w r.2 (fun a' w'=>Q .normal a' w')):r.1 = .nm ∧ (Code.region id ops true).wp P Q a w:=by
  unfold Dc at h
  split at h
  rotate_left
  · cases h
  rename_i hL
  have L:=RU hL
  generalize es ++ ls = lts at *
  obtain ⟨st1,h1,h⟩:=Ap h
  obtain ⟨st2,h2,h⟩:=Ap h
  obtain ⟨⟨⟩,h3,h⟩:=Ap h
  obtain ⟨st',h4,h⟩:=Ap h
  have h:=Ac h
  subst h
  refine ⟨rfl,?_⟩
  have hdo:=hd
  unfold DY at hdo
  split at hdo
  rotate_left
  · cases hdo
  rename_i hback honce
  have honce:=Hh honce
  obtain ⟨v0,hv,rfl⟩:=Fy ops _ st st1 h1
  have hbt:∀ k,k <= m->Bp st (ops.toList.take m) v0 k = Bp st ops.toList v0 k:=fun k hk=>Iy st ops.toList v0 m k hk
  have hlen:(ops.toList.take m).length = m:=by rw [List.length_take,Array.length_toList,Nat.min_eq_left L.le]
  rw [hlen,hbt _ (Nat.le_refl _)] at h2
  have stat:∀ k,k <= m->HK ops (fun i=>i < m ∨ i ∈ lts) v0 st k (Bp st ops.toList v0 k):=by
    intro k
    induction k with
    | zero=>exact fun _=>⟨rfl,rfl,fun _ _ _ _ _ _ _ hc=>absurd hc (Nat.not_lt_zero _),fun _ _=>rfl⟩
    | succ k ih =>
      intro hk
      have hks:k < ops.size:=by have:=L.le; omega
      simp only [Bp]
      have hok:ops.toList[k]? = some ops[k]:=by simp [hks]
      rw [hok]
      exact (ih (by omega)).next honce (by omega) (.inl (by omega)) (fun j _ hj=>by omega) (by simp [hks])
  obtain ⟨vals,g1,g2,g3⟩:=NA (A:=fun i=>i < m ∨ i ∈ lts) honce ls m _ st2 h2 L.risesL (fun j hj=>⟨fun hc=>(L.late j hj).1 (hc.resolve_left (by omega)),fun hc=>.inr ((L.late j hj).2 hc)⟩) (stat m (Nat.le_refl _))
  have hvals:∀ k o,(k < m ∨ k ∈ lts)->ops[k]? = some o->∃ stk,HK ops (fun i=>i < m ∨ i ∈ lts) vals st k stk ∧ (CY τ Γ ops o stk).sem = some (vals k):=by
    intro k o hk ho
    rcases Nat.lt_or_ge k m with hc | hc
    · refine ⟨Bp st ops.toList v0 k,?_,?_⟩
      · obtain ⟨e1,e2,e3,e4⟩:=stat k (by omega)
        exact ⟨e1,e2,fun j oj t hj hdj ht hAj hji=>by rw [e3 j oj t hj hdj ht hAj hji,g1 j (by omega)],e4⟩
      · rw [g1 k hc]
        have:=hv k o (by rw [List.getElem?_take,if_pos hc]; simpa using ho)
        rwa [hbt k (by omega)] at this
    · exact g3 k o ((L.late k hc).1 (hk.resolve_left (by omega))) ho
  refine wp_mono (Q:=fun e a w=>e = .normal ∧ Q .normal a w) (wp_region_any hm ?_) (fun e a w h=>h.1 ▸ h.2)
  have hg':Good κ S st.h { w with drawn:=w.drawn+1 }:=by
    obtain ⟨g1,g2,g3,g4⟩:=hr.good
    refine ⟨fun i b hb=>?_,g2,g3,g4⟩
    exact AV.mono (w:=w) (fun b hb=>⟨hb,rfl⟩) (fun _ _ h=>h) (fun _ _=>rfl) (g1 i b hb)
  have hext:Ext κ S st.h w κ S st.h { w with drawn:=w.drawn+1 }:=⟨rfl,rfl,rfl,Nat.le_refl _,fun _ _ _=>rfl,fun i b hb=>.inl ⟨i,hb⟩,fun _ hb=>.inl hb,fun _ hb=>hb,fun b p h=>⟨h,DN.same rfl⟩,fun _ b h hb=>⟨rfl,b,h,B9.refl hb⟩⟩
  have hpers:∀ b,S b->S b ∧ ({ w with drawn:=w.drawn+1 }:World).heap[b]? = w.heap[b]?:=fun b hb=>⟨hb,rfl⟩
  have hrep:∀ i,(Array.replicate ops.size false).getD i false = false:=by
    intro i
    by_cases hi:i < ops.size
    · simp [Array.getD,hi]
    · simp [Array.getD,hi]
  refine YO (P:=P) (Q:=fun e a w=>e = .normal ∧ Q .normal a w) hτ hΓ hd L (fun c a w h=>by cases h.1) hvals g2 h3 (fun q oq d hq ho hdq=>?_) h4 (fun κ' S' a' w' r1 r2=>⟨rfl,(hw.ext hext) κ' S' a' w' r1 r2⟩) ops.size _ κ S a _ (by simp) ?_ (fun k _ hk=>by rw [hrep] at hk; cases hk) ?_ ?_
  · obtain ⟨d',v,hd',_,hs⟩:=HO lts h3 q oq hq ho
    rw [hdq] at hd'
    simp only [Option.some.injEq] at hd'
    subst hd'
    rw [<- g2.2.1]
    rcases Nat.lt_or_ge d st2.t.length with hc | hc
    · exact hc
    · rw [Vb hc] at hs
      exact (Tx hs).elim
  · unfold left
    rw [List.filter_eq_self.2]
    · simp
    · intro i hi
      simp at hi
      simp [Array.getD,hi]
  · intro i o hi hX
    rw [hrep] at hX
    cases hX
  · have htm:=VR.mono_go hpers _ _ κ _ (fun _ _ h=>h) hr.tmps
    refine ⟨hg',fun g=>VR.mono hpers _ _ _ _ (fun _ _ h=>h) (hr.env g),Ext.refl _ _ _ _,hr.defers,?_,?_,?_⟩
    · have:=hr.tmps.length
      simpa using this
    · intro j o t _ _ _ hX
      rw [hrep] at hX
      cases hX
    · intro t ht _
      have:=htm.nth t undef
      rwa [Cq] at this
end
end Go.Sy
