/-
  A region that draws its order and makes memory in its midst: what makes memory or writes stands in order; some others may come up at any time. Conditions: as before.
-/
import Derived.Test.YtkbgidbledjejaaGreatSyNa
import Derived.OrdersHeld
namespace Go.Sy
variable {dl:List Deferred} {ro:Option Nat}
theorem Sf {u v:V} (h:(TC u v).sem=some ()):u=v∧∀ (κ:Ai) (S S':Nat->Prop) (w w':World) (c c':Value),VR S w u κ c->VR S' w' u κ c'->c=c':=by
 unfold TC at h;split at h
 ·split at h
  ·rename_i h1 h2
   rw [Nat.eq_of_beq_eq_true h1,Nat.eq_of_beq_eq_true h2];refine ⟨rfl,λκ S S' w w' c c' q q'=>?_⟩;obtain ⟨g,z1,z2⟩:=q;obtain ⟨g',y1,y2⟩:=q';rw [z1] at y1;simp at y1;rw [z2,y2,y1]
  ·cases h
 ·split at h
  ·rename_i h1
   rw [Nat.eq_of_beq_eq_true h1];refine ⟨rfl,λκ S S' w w' c c' q q'=>?_⟩;have z1:=q.1;rw [q'.1] at z1;exact (Option.some.inj z1).symm
  ·cases h
 ·split at h
  ·rename_i h1
   rw [Nat.eq_of_beq_eq_true h1];refine ⟨rfl,λκ S S' w w' c c' q q'=>?_⟩;obtain ⟨ms,z1,_⟩:=q;obtain ⟨ms',y1,_⟩:=q';rw [z1] at y1;exact (AC y1).1
  ·cases h
 ·split at h
  ·rename_i h1
   obtain ⟨h4,_⟩:=Ab h;rw [Nat.eq_of_beq_eq_true h1,Nat.eq_of_beq_eq_true h4];refine ⟨rfl,λκ S S' w w' c c' q q'=>?_⟩;obtain ⟨o,ms,z1,z2,_⟩:=q;obtain ⟨o',ms',y1,y2,_⟩:=q';rw [z1] at y1;rw [(AC y1).2] at z2;rw [z2] at y2;exact Option.some.inj y2
  ·cases h
 ·split at h
  ·rename_i h1
   obtain ⟨h4,_⟩:=Ab h;rw [Nat.eq_of_beq_eq_true h1,Nat.eq_of_beq_eq_true h4];refine ⟨rfl,λκ S S' w w' c c' q q'=>?_⟩;obtain ⟨o,ms,z1,z2,_⟩:=q;obtain ⟨o',ms',y1,y2,_⟩:=q';rw [z1] at y1;obtain ⟨rfl,rfl⟩:=AC y1;rw [z2] at y2;exact Option.some.inj y2
  ·cases h
 ·split at h
  ·rename_i h1 h2 h3
   obtain ⟨h4,_⟩:=Ab h;rw [Nat.eq_of_beq_eq_true h1,Nat.eq_of_beq_eq_true h2,Nat.eq_of_beq_eq_true h3,Nat.eq_of_beq_eq_true h4];refine ⟨rfl,λκ S S' w w' c c' q q'=>?_⟩;obtain ⟨g,n,cap,z1,z2⟩:=q;obtain ⟨g',n',cap',y1,y2⟩:=q';rw [z1] at y1;simp at y1;rw [z2,y2,y1.1]
  ·cases h
 ·split at h
  ·rename_i h1 h2 h3
   obtain ⟨h4,_⟩:=Ab h;rw [Nat.eq_of_beq_eq_true h1,Nat.eq_of_beq_eq_true h2,Nat.eq_of_beq_eq_true h3,Nat.eq_of_beq_eq_true h4];refine ⟨rfl,λκ S S' w w' c c' q q'=>?_⟩;obtain ⟨g,n,cap,ms,z1,z2⟩:=q;obtain ⟨g',n',cap',ms',y1,y2⟩:=q';rw [z1] at y1;have:=(AC y1).1;simp at this;rw [z2,y2,this.1]
  ·cases h
 ·split at h
  ·rename_i h1
   obtain ⟨h2,_⟩:=Ab h;have h3:=VN h1;subst h3;have h4:=of_decide_eq_true h2;subst h4;exact ⟨rfl,λκ S S' w w' c c' q q'=>(show c=_ from q).trans (show c'=_ from q').symm⟩
  ·cases h
 ·obtain ⟨h2,_⟩:=Ab h
  have h4:=(beq_iff_eq (α:=Bool)).1 h2;subst h4;exact ⟨rfl,λκ S S' w w' c c' q q'=>(show c=_ from q).trans (show c'=_ from q').symm⟩
 ·obtain ⟨h2,_⟩:=Ab h
  have h4:=(beq_iff_eq (α:=List UInt8)).1 h2;subst h4;exact ⟨rfl,λκ S S' w w' c c' q q'=>(show c=_ from q).trans (show c'=_ from q').symm⟩
 ·exact ⟨rfl,λκ S S' w w' c c' q q'=>(show c=_ from q).trans (show c'=_ from q').symm⟩
 ·cases h
theorem Se:∀ {us vs:List V},(Xg us vs).sem=some ()->us=vs∧∀ (κ:Ai) (S S':Nat->Prop) (w w':World) (l l':List Value),VR.go S w us κ l->VR.go S' w' us κ l'->l=l'
 | [],[],_=>⟨rfl,λκ S S' w w' l l' q q'=>(show l=[] from q).trans (show l'=[] from q').symm⟩
 | a::us,b::vs,h=>by
  obtain ⟨⟨⟩,h1,h2⟩:=Ad h;obtain ⟨e1,p1⟩:=Sf h1;obtain ⟨e2,p2⟩:=Se h2;subst e1;subst e2;refine ⟨rfl,λκ S S' w w' l l' q q'=>?_⟩;obtain ⟨x,m,rfl,x1,x2⟩:=q;obtain ⟨y,m',rfl,y1,y2⟩:=q';rw [p1 κ S S' w w' x y x1 y1,p2 κ S S' w w' m m' x2 y2]
 | [],_::_,h=>by cases h
 | _::_,[],h=>by cases h
theorem Aap {u v:V} (h:(P2 u v).sem=some ()):u=v∧∀ (κ:Ai) (S S':Nat->Prop) (w w':World) (c c':Value),VR S w u κ c->VR S' w' u κ c'->c=c':=by
 unfold P2 at h;split at h
 ·obtain ⟨e,p⟩:=Se h
  subst e;refine ⟨rfl,λκ S S' w w' c c' q q'=>?_⟩;obtain ⟨l,rfl,q1⟩:=q;obtain ⟨l',rfl,q2⟩:=q';rw [p κ S S' w w' l l' q1 q2]
 ·exact Sf h
section
variable {P:Program} {τ:List Ty} (hτ:TabOK P τ) {Γ:Cx0} {S:Nat->Prop} {w:World} {κ:Ai} {st:St} {a:Act} {o:Oper}
theorem H8 (h:D4 o=true):o.guard=none∧(∃ d,o.dst=some d)∧(∀ cs b,o.op ≠ .select cs b) ∧
  ((∃ x,o.op = .move x) ∨ (∃ s x f,o.op = .fieldAddr s x f) ∨ (∃ t x i,o.op = .indexAddr t x i) ∨ (∃ t x,o.op = .load t x) ∨ (∃ x,o.op = .nilCheck x) ∨ (∃ op t x y z,o.op = .binOp op t x y z) ∨ (∃ t p,o.op = .build t p) ∨ ∃ c,o.op = .call c∧c.callee = .builtin .len):=by
 unfold D4 at h;split at h
 ·cases h
 ·rename_i hg
  split at h
  all_goals first
   | (rename_i ho
      split at h
      ·rename_i d hd
       refine ⟨hg,⟨d,hd⟩,λcs b=>by rw [ho]; simp,?_⟩;rw [ho];simp
      ·cases h)
   | (rename_i c ho
      split at h
      ·rename_i d hc hd
       exact ⟨hg,⟨d,hd⟩,λcs b=>by rw [ho]; simp,.inr (.inr (.inr (.inr (.inr (.inr (.inr ⟨c,ho,hc⟩))))))⟩
      ·cases h)
   | cases h
include hτ in
theorem SC (hg:Good κ S st.h w) (hE:CC Γ S w) (ht:VRs S w st.t κ a.tmps.toList) (hk:D4 o=true) {v:V} (h:(Gv τ Γ o st).sem=some v):HE P a o S w κ v:=by
 have value:∀ c,(execOp a.eval o).run P w = .ok (.value c) w->VR S w v κ c->HE P a o S w κ v:=λc h1 h2=>⟨c,h1,h2⟩;obtain ⟨_,_,_,hop⟩:=H8 hk;unfold Gv at h;rcases hop with ⟨x,ho⟩ | ⟨s,x,f,ho⟩ | ⟨t,x,ix,ho⟩ | ⟨t,x,ho⟩ | ⟨x,ho⟩ | ⟨op,t,x,y,yt,ho⟩ | ⟨t,parts,ho⟩ | ⟨c,ho,hc⟩
 ·simp only [ho] at h
  split at h
  ·cases h
  ·rw [Aa h] at value
   rw [Aa h];exact value _ (by unfold execOp; simp only [ho]; rfl) (AT hE ht x)
 ·simp only [ho] at h
  exact Mn (P:=P) hτ (AT hE ht x) (by unfold execOp; simp only [ho,Sem.run_bind,Sem.run_pure]) h
 ·simp only [ho] at h
  exact Ma (P:=P) hτ hg (AT hE ht x) (AT hE ht ix) (by unfold execOp; simp only [ho,Sem.run_bind,Sem.run_pure]) h
 ·simp only [ho] at h
  obtain ⟨c,h2,h3⟩:=Zc (P:=P) hτ hg (AT hE ht x) h;refine value c ?_ h3;unfold execOp;simp only [ho,Sem.run_bind,h2,Result.andThen_ok,Sem.run_pure]
 ·simp only [ho] at h
  have hx:=AT hE ht x;split at h
  ·rename_i id off hv
   rw [hv] at hx;have hx':=hx;obtain ⟨g,_,hcx⟩:=hx';rw [Aa h] at value ⊢;exact value _ (by unfold execOp; simp only [ho,hcx]; rfl) (by rw [<- hcx]; exact hx)
  ·rename_i id s i off hv
   rw [hv] at hx;have hx':=hx;obtain ⟨g,n,cap,_,hcx⟩:=hx';rw [Aa h] at value ⊢;exact value _ (by unfold execOp; simp only [ho,hcx]; rfl) (by rw [<- hcx]; exact hx)
  ·rename_i id s i off hv
   rw [hv] at hx;have hx':=hx;obtain ⟨g,n,cap,ms,_,hcx⟩:=hx';rw [Aa h] at value ⊢;exact value _ (by unfold execOp; simp only [ho,hcx]; rfl) (by rw [<- hcx]; exact hx)
  ·rename_i id i s k off hv
   rw [hv] at hx;have hx':=hx;obtain ⟨o2,ms,g,n,cap,_,_,hcx⟩:=hx';rw [Aa h] at value ⊢;exact value _ (by unfold execOp; simp only [ho,hcx]; rfl) (by rw [<- hcx]; exact hx)
  ·rename_i u hv
   rw [hv] at hx;have hx':=hx;obtain ⟨b,o',cv,hcx,_⟩:=hx';rw [Aa h] at value ⊢;exact value _ (by unfold execOp; simp only [ho,hcx]; rfl) (by rw [<- hcx]; exact hx)
  ·rename_i f cs hv
   rw [hv] at hx;have hx':=hx;obtain ⟨ca,hcx,_⟩:=hx';rw [Aa h] at value ⊢;exact value _ (by unfold execOp; simp only [ho,hcx]; rfl) (by rw [<- hcx]; exact hx)
  ·cases h
 ·simp only [ho] at h
  obtain ⟨c,h2,h3⟩:=ZL (P:=P) hτ hg h (AT hE ht x) (AT hE ht y) x y;refine value c ?_ h3;unfold execOp;simp only [ho];rw [Sem.run_bind,h2];rfl
 ·simp only [ho] at h
  have hpr:=N6 hE ht parts.toList;have hpr:PartsR S w κ (evs Γ st parts.toList) (parts.map λ(i,x)=>(i,a.eval x)).toList:=by simpa using hpr
  obtain ⟨c,h2,h3⟩:=QV (P:=P) hτ (Df h) hpr;refine value c ?_ h3;unfold execOp;simp only [ho];rw [Sem.run_bind,h2];rfl
 ·simp only [ho,hc] at h
  split at h
  ·rename_i x t hargs htys
   have hav:=Fv hE ht c.args.toList;rw [hargs] at hav;obtain ⟨cx,l',hl,hcx,hl'⟩:=hav;have hl':l'=[]:=hl';subst hl';obtain ⟨cv,h2,h3⟩:=AdA (P:=P) hτ hg hcx h o.type;refine value cv ?_ h3;have hca:c.args.map a.eval=#[cx]:=by apply Array.ext'; simpa using hl
   have hct:c.argTypes=#[t]:=by apply Array.ext'; simpa using htys
   unfold execOp;simp only [ho,resolve,hc,Sem.run_bind,Sem.run_pure,Result.andThen_ok,invoke,builtin,hca,hct,h2]
  ·cases h
theorem Vi {all:Array Oper} (hk:D4 o=true):CV τ Γ all o st=Gv τ Γ o ⟨C9 (Bq all o) 0 st.t,st.h⟩:=by
 unfold CV KU;rw [(H8 hk).1]
theorem Ag6 {rs:List Nat} (hlen:a.tmps.size=st.t.length) (h:∀ t,t<st.t.length->D2 t rs=true->VR S w (nth st.t t) κ (a.tmps.getD t undef)):VRs S w (C9 rs 0 st.t) κ a.tmps.toList:=by
 refine C3 _ _ (by rw [Array.length_toList,hlen,Cf]) λt ht=>?_;rw [Cf] at ht;rw [HY,Nat.zero_add,B5];split
 ·rename_i hmem
  exact h t ht hmem
 ·trivial
end
theorem Cm {k:Nat}:∀ {l:List Nat},D2 k l=true↔k ∈ l
 | []=>by simp [D2]
 | a::l=>by
  simp only [D2];split
  ·rename_i h
   have:=Nat.eq_of_beq_eq_true h;subst this;simp
  ·rename_i h
   have:=Nat.ne_of_beq_eq_false h;rw [Cm (l:=l)];simp [Ne.symm this]
theorem Fc (a:Act) (d:Option Tmp) (c:Value) (t:Nat) (ht:t<a.tmps.size):(a.put d c).tmps.getD t undef=if d=some t then c else a.tmps.getD t undef:=by
 cases hod:d with
 | none=>simp [Act.put]
 | some d' =>
  simp only [Act.put];rw [BJ];by_cases hdt:d'=t
  ·subst hdt
   rw [if_pos ⟨rfl,ht⟩,if_pos rfl]
  ·rw [if_neg (λhc=>hdt hc.1.symm),if_neg (by simpa using hdt)]
theorem PE (a:Act) (d:Option Tmp) (c:Value):(a.put d c).tmps.size=a.tmps.size:=by cases d <;> simp [Act.put]
structure LateR (τ:List Ty) (ops:Array Oper) (m:Nat) (lts ls ps ord:List Nat):Prop where
 sel:∀ (j:Nat) (o:Oper) cs b,ops[j]? = some o->o.op ≠ .select cs b
 mem:∀ i,i<ops.size->m <= i->i ∉ lts->i ∈ ord
 chain:KZ (Region.before ops) ps ord=true
 inn:∀ i,i ∈ ord->m <= i∧i<ops.size∧i ∉ lts∧∀ j,j<m->j ∉ lts->Nat.testBit ((Region.before ops).getD i 0) j=true
 float:∀ p,p ∈ ps->∃ o,ops[p]? = some o∧GB τ o=true
 indep:∀ p q,p ∈ ps->q ∈ ps->Nat.testBit ((Region.before ops).getD p 0) q=false
 wait:∀ i,i ∈ lts->m <= i->∀ j,j<i->Nat.testBit ((Region.before ops).getD i 0) j=true->j<m ∨ j ∈ lts
 rises:FC 0 lts=true
 risesL:FC m ls=true
 late:∀ j,m <= j->(j ∈ lts↔j ∈ ls)
 le:m <= ops.size
 kind:∀ q,q ∈ lts->∃ oq d,ops[q]? = some oq∧D4 oq=true∧oq.dst=some d∧d ∉ oq.looksAt ops
 apart:∀ q oq j oj,q ∈ lts->ops[q]? = some oq->(m <= j ∨ j ∈ lts)->j ≠ q->ops[j]? = some oj->Nat.testBit ((Region.before ops).getD q 0) j=true ∨ (((∀ e ∈ oj.after,Region.binds .any e=true->e.on ≠ q)->oq.apart ops oj=true)∧∀ d,oj.dst=some d->d ∉ oq.looksAt ops ∨ (j ∉ lts∧Nat.testBit ((Region.before ops).getD j 0) q=true))
theorem J4 {all:Array Oper} {bf:Array Nat} {m:Nat} {lts:List Nat} {q:Nat} {oq:Oper}:∀ (l:List Oper) (j0:Nat),Ia all bf m lts q oq j0 l=true->∀ i oj,l[i]? = some oj->(m <= j0+i ∨ j0+i ∈ lts)->j0+i ≠ q ->
  Nat.testBit (bf.getD q 0) (j0+i)=true ∨ (((∀ e ∈ oj.after,Region.binds .any e=true->e.on ≠ q)->oq.apart all oj=true)∧∀ d,oj.dst=some d->d ∉ oq.looksAt all ∨ (j0+i ∉ lts∧Nat.testBit (bf.getD (j0+i) 0) q=true))
 | [],_,_,i,oj,hi,_,_=>by simp at hi
 | o::l,j0,h,i,oj,hi,hm,hne=>by
  simp only [Ia] at h;split at h
  ·rename_i hp
   cases i with
   | zero =>
    simp at hi;subst hi;rw [Nat.add_zero] at hm hne ⊢;simp only [Bool.or_eq_true,Bool.and_eq_true] at hp;rcases hp with ((hp | hp) | hp) | hp
    ·exact absurd (Nat.eq_of_beq_eq_true hp) hne
    ·exfalso
     rcases hm with hm | hm
     ·have:=hp.1
      simp at this;omega
     ·have:=hp.2
      rw [Cm.2 hm] at this;cases this
    ·exact .inl hp
    ·refine .inr ⟨λhno=>hp.1.resolve_left λha=>?_,λd hd=>?_⟩
     ·obtain ⟨e,he,hb⟩:=List.any_eq_true.1 ha
      rw [Bool.and_eq_true] at hb;exact hno e (by simpa using he) hb.1 (Nat.eq_of_beq_eq_true hb.2)
     ·have:=hp.2
      rw [hd] at this;simp only [Bool.or_eq_true,Bool.and_eq_true,Bool.not_eq_true'] at this;refine this.imp (λh=>by simpa using h) λh=>⟨λhc=>?_,h.2⟩;have h1:=h.1;rw [Cm.2 hc] at h1;cases h1
   | succ i =>have:=J4 l (Nat.succ j0) h i oj (by simpa using hi) (by rw [show Nat.succ j0+i=j0+(i+1) by omega]; exact hm) (by omega);rwa [show Nat.succ j0+i=j0+(i+1) by omega] at this
  ·cases h
theorem Vy {k:Nat} {l:List Nat} (h:(!D2 k l)=true):k ∉ l:=λhc=>by
 rw [Cm.2 hc] at h;cases h
theorem W0 {bf:Array Nat} {i:Nat} {ps l:List Nat} (h:KZ bf ps (i::l)=true) :
  (∀ j,j ∈ l->j ∈ ps ∨ Nat.testBit (bf.getD j 0) i=true)∧(∀ j,j ∈ i::l->Nat.testBit (bf.getD i 0) j=false)∧i ∉ l∧KZ bf ps l=true:=by
 simp only [KZ,Bool.and_eq_true] at h;obtain ⟨⟨h1,h2⟩,h3,h4⟩:=h;refine ⟨λj hj=>?_,λj hj=>?_,Vy h3,h4⟩
 ·have:=List.all_eq_true.1 h1 j hj
  rw [Bool.or_eq_true] at this;exact this.imp Cm.1 id
 ·have:=List.all_eq_true.1 h2 j hj
  simpa using this
theorem P4:∀ {l:List Nat} {m:Nat},FC m l=true->∀ q ∈ l,m <= q
 | [],_,_,q,hq=>by cases hq
 | a::l,m,h,q,hq=>by
  simp only [FC] at h;split at h
  ·rename_i hle
   have hle:m <= a:=Nat.le_of_ble_eq_true hle;rcases List.mem_cons.1 hq with rfl | hq
   ·exact hle
   ·have:=P4 h q hq
    omega
  ·cases h
theorem V9 {τ:List Ty} {ops:Array Oper} {m:Nat} {es ls ps ord:List Nat} (h:TY τ ops m es ls ps ord=true):LateR τ ops m (es++ls) ls ps ord:=by
 unfold TY at h;simp only [Bool.and_eq_true] at h;obtain ⟨⟨⟨⟨⟨⟨⟨⟨⟨⟨c1,c2⟩,c3⟩,c4⟩,c5⟩,h1⟩,h3⟩,h6⟩,h7⟩,h4⟩,h5⟩:=h;have hle:m <= ops.size:=Nat.le_of_ble_eq_true h4;have hq:∀ q,q ∈ es++ls->∃ oq d,ops[q]? = some oq∧D4 oq=true∧Ia ops (Region.before ops) m (es++ls) q oq 0 ops.toList=true∧oq.dst=some d∧d ∉ oq.looksAt ops:=λq hq=>by
  have:=List.all_eq_true.1 h5 q hq;split at this
  ·rename_i oq ho
   simp only [Bool.and_eq_true] at this;obtain ⟨⟨t1,t2⟩,t3⟩:=this;split at t3
   ·rename_i d hd
    exact ⟨oq,d,ho,t1,t2,hd,by simpa using t3⟩
   ·cases t3
  ·cases this
 have late:∀ j,m <= j->(j ∈ es++ls↔j ∈ ls):=λj hj=>by
  rw [List.mem_append];refine ⟨λhc=>hc.resolve_left λhc=>?_,.inr⟩;have:=List.all_eq_true.1 h7 j hc;simp at this;omega
 refine ⟨λj o cs b ho he=>?_,λi hi hmi hil=>?_,c1,λi hi=>?_,λp hp=>?_,λp q hp hq=>?_,λi hi hmi j hj hb=>?_,h3,h6,late,hle,λq hql=>?_,λq oq j oj hql ho hmj hne hj=>?_⟩
 ·have:=List.all_eq_true.1 h1 o (by rw [Array.mem_toList_iff]; exact Array.mem_of_getElem? ho)
  rw [he] at this;cases this
 ·have:=List.all_eq_true.1 c3 i (by simpa using hi)
  simp only [Bool.or_eq_true] at this;rcases this with (h | h) | h
  ·simp at h
   omega
  ·exact absurd (Cm.1 h) hil
  ·exact Cm.1 h
 ·have:=List.all_eq_true.1 c2 i hi
  simp only [Bool.and_eq_true] at this;obtain ⟨⟨⟨t1,t2⟩,t3⟩,t4⟩:=this;refine ⟨Nat.le_of_ble_eq_true t1,by simpa using t2,Vy t3,λj hj hjl=>?_⟩;have:=List.all_eq_true.1 t4 j (by simpa using hj);rw [Bool.or_eq_true] at this;exact this.resolve_left λhc=>hjl (Cm.1 hc)
 ·have:=List.all_eq_true.1 c4 p hp
  rw [Bool.and_eq_true] at this;have:=this.1;split at this
  ·rename_i o ho
   exact ⟨o,ho,this⟩
  ·cases this
 ·have:=List.all_eq_true.1 c4 p hp
  rw [Bool.and_eq_true] at this;simpa using List.all_eq_true.1 this.2 q hq
 ·have:=List.all_eq_true.1 (List.all_eq_true.1 c5 i ((late i hmi).1 hi)) j (by simpa using hj)
  rw [hb] at this;simp only [Bool.not_true,Bool.false_or,Bool.or_eq_true] at this;exact this.imp (λh=>by simpa using h) Cm.1
 ·obtain ⟨oq,d,t1,t2,_,t4,t5⟩:=hq q hql
  exact ⟨oq,d,t1,t2,t4,t5⟩
 ·obtain ⟨oq',d,t1,_,t3,_,_⟩:=hq q hql
  rw [ho] at t1;simp only [Option.some.injEq] at t1;subst t1;have:=J4 _ 0 t3 j oj (by simpa using hj) (by rw [Nat.zero_add]; exact hmj) (by omega);rw [Nat.zero_add] at this;exact this
theorem DC {bf:Array Nat} {i q:Nat}:∀ {l:List Nat},q ∈ l->Nat.testBit (bf.getD i 0) q=false->q ∈ Ct bf i l
 | a::l,h,hb=>by
  simp only [Ct];rcases List.mem_cons.1 h with rfl | h
  ·rw [hb]
   simp
  ·split
   ·exact DC h hb
   ·exact List.mem_cons_of_mem _ (DC h hb)
theorem EF {bf:Array Nat} {i q:Nat}:∀ {l:List Nat},q ∈ Ct bf i l->q ∈ l
 | a::l,h=>by
  simp only [Ct] at h;split at h
  ·exact List.mem_cons_of_mem _ (EF h)
  ·rcases List.mem_cons.1 h with rfl | h
   ·simp
   ·exact List.mem_cons_of_mem _ (EF h)
section
variable {P:Program} {ops:Array Oper} {Q:Exit->Act->World->Prop} {md:Region.Mode} {G:Array Bool->World->Prop}
def Ji (P:Program) (md:Region.Mode) (ops:Array Oper) (Q:Exit->Act->World->Prop) (G:Array Bool->World->Prop):Nat->Array Bool->Act->World->Prop
 | 0,listed,a,w=>Region.ready md ops listed=[]∧Q .normal a w
 | fuel+1,listed,a,w =>
  (Region.ready md ops listed=[]->Q .normal a w) ∧
  ∀ i ∈ Region.ready md ops listed,wpOp P ops Q i (λa' w'=>G (listed.setIfInBounds i true) w'∧Ji P md ops Q G fuel (listed.setIfInBounds i true) a' w') a w
theorem OZ:∀ (fuel:Nat) (listed:Array Bool) (a:Act) (w:World),Ji P md ops Q G fuel listed a w->wpAny P md ops Q fuel listed a w
 | 0,_,_,_,h=>h
 | fuel+1,_,_,_,h=>⟨h.1,λi hi=>wpOp_mono (λa' w' h'=>OZ fuel _ a' w' h'.2) (h.2 i hi)⟩
theorem NL {listed:Array Bool} {a:Act} {w:World} (hr:Region.ready md ops listed=[]) (h:Q .normal a w) :
  ∀ fuel,Ji P md ops Q G fuel listed a w
 | 0=>⟨hr,h⟩
 | _+1=>⟨λ_=>h,by rw [hr]; simp⟩
theorem To {i:Nat} {oi:Oper} {v:Value} (hi:ops[i]? = some oi) (hsel:∀ (j:Nat) (o:Oper) cs b,ops[j]? = some o->o.op ≠ .select cs b)
  (hQ:∀ c a w,Q (.panic c) (a.put oi.dst v) w->Q (.panic c) a w) {S:World->Prop} {C:Array Bool->Prop}
  (hC:∀ listed j,C listed->j ∈ Region.ready md ops listed->j ≠ i->C (listed.setIfInBounds j true)) (hS:∀ listed w,C listed->G listed w->S w) (hG:∀ listed w,G (listed.setIfInBounds i true) w->G listed w) :
  ∀ (fuel:Nat) (listed:Array Bool) (a:Act) (w:World),C listed ->
   (∀ j oj,ops[j]? = some oj->j ≠ i->listed.getD j true=false->(∀ e ∈ oj.after,Region.binds md e=true->e.on ≠ i)->oi.apart ops oj=true) ->
   i ∈ Region.ready md ops listed->YieldsIf P ops S oi v a->S w->G (listed.setIfInBounds i true) w ->
   Ji P md ops Q G fuel (listed.setIfInBounds i true) (a.put oi.dst v) w->Ji P md ops Q G (fuel+1) listed a w:=by
 intro fuel
 induction fuel with
 | zero =>
  intro listed a w _ _ hr hy hs hg H;refine ⟨λh=>(by rw [h] at hr; cases hr),λj hj=>?_⟩;by_cases hji:j=i
  ·subst hji; exact hy.wpOp hi hs ⟨hg,H⟩
  ·have:=ready_mono hj hji
   rw [H.1] at this;cases this
 | succ fuel ih =>
  intro listed a w hc hfree hr hy hs hg H;refine ⟨λh=>(by rw [h] at hr; cases hr),λj hj=>?_⟩;by_cases hji:j=i
  ·subst hji; exact hy.wpOp hi hs ⟨hg,H⟩
  ·have h1:=H.2 j (ready_mono hj hji)
   obtain ⟨hjun,oj,hoj,hall⟩:=mem_ready.1 hj;have hnot:∀ e ∈ oj.after,Region.binds md e=true->e.on ≠ i:=λe he hb heq=>by
    have h1:=hall e he hb;have h0:=(mem_ready.1 hr).1;rw [heq] at h1;rcases Nat.lt_or_ge i listed.size with h' | h'
    ·simp [h'] at h0 h1; rw [h0] at h1; cases h1
    ·simp [Array.getElem?_eq_none h'] at h1
   have h2:=wpOp_putIf hoj (hfree j oj hoj hji hjun hnot) (λcs b=>hsel i oi cs b hi) (λcs b=>hsel j oj cs b hoj) hQ hy h1;have hfree':∀ k ok,ops[k]? = some ok->k ≠ i->(listed.setIfInBounds j true).getD k true=false ->
     (∀ e ∈ ok.after,Region.binds md e=true->e.on ≠ i)->oi.apart ops ok=true:=λk ok hk hki hun hno=>by
    refine hfree k ok hk hki ?_ hno;by_cases hjk:j=k
    ·subst hjk; exact hjun
    ·rw [getD_set_ne true hjk] at hun; exact hun
   have hc':=hC listed j hc hj hji;refine wpOp_mono (λa' w' h3=>?_) h2;obtain ⟨h4,h5,h6⟩:=h3;rw [Array.setIfInBounds_comm _ _ (Ne.symm hji)] at h5 h6;exact ⟨hG _ _ h5,ih (listed.setIfInBounds j true) a' w' hc' hfree' (ready_mono hr (Ne.symm hji)) h4 (hS _ w' hc' (hG _ _ h5)) h5 h6⟩
end
def Jh (ops:Array Oper) (A:Nat->Prop) (vals:Nat->V) (st:St) (i:Nat) (sti:St):Prop :=
 sti.h=st.h∧sti.t.length=st.t.length ∧
 (∀ j o t,ops[j]? = some o->o.dst=some t->t<st.t.length->A j->j<i->nth sti.t t=vals j) ∧
 ∀ t,(∀ j o,ops[j]? = some o->A j->j<i->o.dst ≠ some t)->nth sti.t t=nth st.t t
theorem Jh.next {ops:Array Oper} (honce:Afb ops.toList) {A:Nat->Prop} {vals:Nat->V} {st sti:St} {i i':Nat} {o:Oper} (h:Jh ops A vals st i sti) (hi:i<i') (hA:A i) (hb:∀ j,A j->i<j->i' <= j) (ho:ops[i]? = some o) :
  Jh ops A vals st i' (put sti o.dst (vals i)):=by
 obtain ⟨h1,h2,h3,h4⟩:=h;refine ⟨by rw [CZ,h1],by rw [EP,h2],λj oj t hj hd ht hAj hji=>?_,λt hno=>?_⟩
 ·rw [Kb,h2]
  by_cases he:j=i
  ·subst he
   rw [ho] at hj;simp only [Option.some.injEq] at hj;subst hj;rw [if_pos ⟨hd,ht⟩]
  ·rw [if_neg (λhc=>he (honce j i oj o t (by simpa using hj) (by simpa using ho) hd hc.1))]
   refine h3 j oj t hj hd ht hAj ?_;rcases Nat.lt_or_ge j i with hc | hc
   ·exact hc
   ·have:=hb j hAj (by omega)
    omega
 ·rw [Kb,if_neg (λhc=>hno i o ho hA hi hc.1)]
  exact h4 t λj oj hj hAj hji=>hno j oj hj hAj (by omega)
theorem Jh.of {ops:Array Oper} {A:Nat->Prop} {vals:Nat->V} {st sti:St} {i i':Nat} (h:Jh ops A vals st i sti) (he:∀ j,A j->(j<i↔j<i')):Jh ops A vals st i' sti:=by
 obtain ⟨h1,h2,h3,h4⟩:=h;exact ⟨h1,h2,λj oj t hj hd ht hAj hji=>h3 j oj t hj hd ht hAj ((he j hAj).2 hji),λt hno=>h4 t λj oj hj hAj hji=>hno j oj hj hAj ((he j hAj).1 hji)⟩
theorem Qk {τ:List Ty} {Γ:Cx0} {ops:Array Oper} (honce:Afb ops.toList) {st:St} {A:Nat->Prop} {v0:Nat->V}:∀ (l:List Nat) (b:Nat) (sti st2:St),
  (JV τ Γ ops l sti).sem=some st2->FC b l=true->(∀ j,b <= j->(A j↔j ∈ l))->Jh ops A v0 st b sti ->
  ∃ vals,(∀ j,j<b->vals j=v0 j)∧Jh ops A vals st ops.size st2∧∀ q o,q ∈ l->ops[q]? = some o->∃ stq,Jh ops A vals st q stq∧(CV τ Γ ops o stq).sem=some (vals q)
 | [],b,sti,st2,h,_,hA,hst=>by
  have h:=Aa h;subst h;refine ⟨v0,λ_ _=>rfl,?_,λq o hq=>by cases hq⟩;rcases Nat.lt_or_ge ops.size b with hc | hc
  ·obtain ⟨h1,h2,h3,h4⟩:=hst
   refine ⟨h1,h2,λj oj t hj hd ht hAj hji=>h3 j oj t hj hd ht hAj (by omega),λt hno=>h4 t λj oj hj hAj hjb=>?_⟩;exact hno j oj hj hAj (Array.getElem?_eq_some_iff.1 hj).1
  ·refine hst.of λj hAj=>⟨λhj=>by omega,λhj=>?_⟩
   rcases Nat.lt_or_ge j b with hc' | hc'
   ·exact hc'
   ·exact absurd ((hA j hc').1 hAj) (by simp)
 | q::l,b,sti,st2,h,hr,hA,hst=>by
  simp only [FC] at hr;split at hr
  ·rename_i hle
   have hle:b <= q:=Nat.le_of_ble_eq_true hle;simp only [JV] at h;split at h
   ·rename_i o ho
    obtain ⟨v,h1,h2⟩:=Ad h;have hrise:=P4 hr;have hAq:A q:=(hA q hle).2 (by simp)
    let v1:Nat->V:=λj=>if j=q then v else v0 j
    have hq0:Jh ops A v1 st q sti:=by
     have h5:Jh ops A v0 st q sti:=hst.of λj hAj=>⟨λhj=>by omega,λhj=>by
      rcases Nat.lt_or_ge j b with hc | hc
      ·exact hc
      ·have:=(hA j hc).1 hAj
       rcases List.mem_cons.1 this with rfl | hm
       ·omega
       ·have:=hrise j hm
        omega⟩
     obtain ⟨e1,e2,e3,e4⟩:=h5;exact ⟨e1,e2,λj oj t hj hd ht hAj hji=>by rw [e3 j oj t hj hd ht hAj hji]; simp only [v1]; rw [if_neg (by omega)],e4⟩
    have hv1:v1 q=v:=by simp [v1]
    have hn:Jh ops A v1 st (q+1) (put sti o.dst v):=by
     rw [<- hv1];exact hq0.next honce (by omega) hAq (λj _ hj=>by omega) ho
    obtain ⟨vals,g1,g2,g3⟩:=Qk honce l (q+1) _ st2 h2 hr (λj hj=>by
     rw [hA j (by omega)];simp only [List.mem_cons];exact ⟨λhc=>hc.resolve_left (by omega),.inr⟩) hn
    refine ⟨vals,λj hj=>by rw [g1 j (by omega)]; simp only [v1]; rw [if_neg (by omega)],g2,λq' o' hq' ho'=>?_⟩;rcases List.mem_cons.1 hq' with rfl | hm
    ·rw [ho] at ho'
     simp only [Option.some.injEq] at ho';subst ho';refine ⟨sti,?_,by rw [g1 q' (by omega),hv1]; exact h1⟩;obtain ⟨e1,e2,e3,e4⟩:=hq0;exact ⟨e1,e2,λj oj t hj hd ht hAj hji=>by rw [e3 j oj t hj hd ht hAj hji,g1 j (by omega)],e4⟩
    ·exact g3 q' o' hm ho'
   ·cases h
  ·cases hr
theorem Jm {τ:List Ty} {Γ:Cx0} {all:Array Oper} {st:St}:∀ (l:List Nat),(Ix τ Γ all l st).sem=some ()->∀ q o,q ∈ l->all[q]? = some o ->
  ∃ d v,o.dst=some d∧(CV τ Γ all o st).sem=some v∧(P2 v (nth st.t d)).sem=some ()
 | [],_,q,o,hq,_=>by cases hq
 | p::l,h,q,o,hq,ho=>by
  simp only [Ix] at h;split at h
  ·rename_i op hop
   split at h
   ·rename_i d hd
    obtain ⟨v,h1,h2⟩:=Ad h;obtain ⟨⟨⟩,h3,h4⟩:=Ad h2;rcases List.mem_cons.1 hq with rfl | hm
    ·rw [hop] at ho
     simp only [Option.some.injEq] at ho;subst ho;exact ⟨d,v,hd,h1,h3⟩
    ·exact Jm l h4 q o hm ho
   ·cases h
  ·cases h
section
variable {P:Program} {τ:List Ty} (hτ:TabOK P τ) {Γ:Cx0} {ops:Array Oper} {Q:Exit->Act->World->Prop}
theorem Mid.step (honce:Afb ops.toList) {κ0:Ai} {S0:Nat->Prop} {w0:World} {st:St} {vals:Nat->V} {X X':Nat->Prop} {κ:Ai} {S:Nat->Prop} {a:Act} {w:World}
  (hm:Mid dl Γ κ0 S0 w0 st ops vals X κ S a w) {i:Nat} {o:Oper} (ho:ops[i]? = some o) (hX:¬ X i) (hX':∀ k,X' k↔(k=i ∨ X k))
  {κ':Ai} {S':Nat->Prop} {c:Value} {w':World} (q1:Good κ' S' st.h w') (q2:VR S' w' (vals i) κ' c) (q3:Ext κ S st.h w κ' S' st.h w') (q4:∀ id c,κ id=some c->κ' id=some c) :
  Mid dl Γ κ0 S0 w0 st ops vals X' κ' S' (a.put o.dst c) w':=by
 have hput:∀ t,t<st.t.length->(a.put o.dst c).tmps.getD t undef=if o.dst=some t then c else a.tmps.getD t undef:=λt ht=>Fc a o.dst c t (by rw [hm.size]; exact ht)
 refine ⟨q1,hm.env.ext hm.good q3,hm.ext.trans q3,by rw [BA]; exact hm.defers,by rw [PE]; exact hm.size,?_,?_⟩
 ·intro k ok t hk hdk ht hXk
  rw [hX'] at hXk;rw [hput t ht];by_cases hki:k=i
  ·subst hki
   rw [ho] at hk;simp only [Option.some.injEq] at hk;subst hk;rw [if_pos hdk];exact q2
  ·rw [if_neg (λhc=>hki (honce k i ok o t (by simpa using hk) (by simpa using ho) hdk hc))]
   exact VR.mono (q3.pers hm.good) _ _ _ _ q4 (hm.wrote k ok t hk hdk ht (hXk.resolve_left hki))
 ·intro t ht hno
  rw [hput t ht,if_neg (λhc=>hno i o ho ((hX' i).2 (.inl rfl)) hc)];exact VR.mono (q3.pers hm.good) _ _ _ _ q4 (hm.stays t ht (λk ok hk hXk=>hno k ok hk ((hX' k).2 (.inr hXk))))
theorem Mid.slot (hd:Ej ops=true) {A:Nat->Prop} {κ0:Ai} {S0:Nat->Prop} {w0:World} {st:St} {vals:Nat->V} {X:Nat->Prop} {κ:Ai} {S:Nat->Prop} {a:Act} {w:World}
  (hm:Mid dl Γ κ0 S0 w0 st ops vals X κ S a w) (hcl:EU ops.toList X) (hXA:∀ k,X k->A k) {i:Nat} {o:Oper} (ho:ops[i]? = some o) (hX:¬ X i) (hafter:∀ e ∈ o.after,Region.binds .any e=true->X e.on) {sti:St} (hst:Jh ops A vals st i sti) :
  VRs S w (C9 (Bq ops o) 0 sti.t) κ a.tmps.toList:=by
 unfold Ej at hd;split at hd
 ·rename_i hback honce
  have honce:=Hp honce;have hol:ops.toList[i]? = some o:=by simpa using ho
  have hr:=CY ops.toList 0 hd i o hol;rw [Nat.zero_add,Bg] at hr;obtain ⟨e1,e2,e3,e4⟩:=hst;refine Ag6 (st:=sti) (by rw [hm.size,e2]) λt ht hmem=>?_;rw [e2] at ht;by_cases hex:∃ (j:Nat) (o':Oper),ops[j]? = some o'∧o'.dst=some t
  ·obtain ⟨j,o',hj,hdst⟩:=hex
   have hjl:ops.toList[j]? = some o':=by simpa using hj
   obtain ⟨hne,hlt,hgt⟩:=Du ops.toList 0 hr j o' t hjl hdst hmem;rw [Nat.zero_add] at hne hlt hgt;rcases Nat.lt_or_gt_of_ne hne with hc | hc
   ·have hXj:=BV hcl (i+1) i j o (by omega) hol hafter (hlt hc)
    rw [e3 j o' t hj hdst ht (hXA j hXj) hc];exact hm.wrote j o' t hj hdst ht hXj
   ·have hnX:¬ X j:=λhXj=>hX (BV hcl (j+1) j i o' (by omega) hjl (λe he hb=>hcl j o' hjl hXj e he hb) (hgt hc))
    rw [e4 t (λk o'' hok _ hk hdk=>by
     have:=honce k j o'' o' t (by simpa using hok) hjl hdk hdst;omega)]
    exact hm.stays t ht (λk o'' hok hXk hdk=>by
     have:=honce k j o'' o' t (by simpa using hok) hjl hdk hdst;subst this;exact hnX hXk)
  ·rw [e4 t (λk o'' hok _ _ hdk=>hex ⟨k,o'',hok,hdk⟩)]
   exact hm.stays t ht (λk o'' hok _ hdk=>hex ⟨k,o'',hok,hdk⟩)
 ·cases hd
theorem JC {l:List Oper} {j:Nat} {o:Oper} (hj:l[j]? = some o) {e:Edge} (he:e ∈ o.after) (hb:Region.binds .any e=true):Nat.testBit ((De l).getD j 0) e.on=true:=by
 rw [MB hj];unfold QZ;rw [<- Array.foldl_toList];have keep:∀ (es:List Edge) (acc:Array Nat) (s k:Nat),Nat.testBit s k=true->Nat.testBit (es.foldl (λs e=>if Region.binds .any e then s ||| 2 ^ e.on ||| acc.getD e.on 0 else s) s) k=true:=by
  intro es acc
  induction es with
  | nil=>intro s k h; exact h
  | cons x es ih =>
   intro s k h;simp only [List.foldl_cons];refine ih _ k ?_;split
   ·simp [Nat.testBit_or,h]
   ·exact h
 have main:∀ (es:List Edge) (acc:Array Nat) (s:Nat),e ∈ es->Nat.testBit (es.foldl (λs e=>if Region.binds .any e then s ||| 2 ^ e.on ||| acc.getD e.on 0 else s) s) e.on=true:=by
  intro es acc
  induction es with
  | nil=>intro s h; cases h
  | cons x es ih =>
   intro s h;simp only [List.foldl_cons];rcases List.mem_cons.1 h with rfl | h
   ·rw [if_pos hb]
    exact keep es acc _ _ (by simp [Nat.testBit_or,Nat.testBit_two_pow])
   ·exact ih _ h
 exact main _ _ _ (by simpa using he)
theorem Ql (hτ:TabOK P τ) {st:St} {κ:Ai} {S:Nat->Prop} {a:Act} {w:World} {q:Nat} {oq:Oper} (hg:Good κ S st.h w) (hE:CC Γ S w) {h:List Blk} (hh:h=st.h)
  {ts:List V} (ht:VRs S w (C9 (Bq ops oq) 0 ts) κ a.tmps.toList) (hk:D4 oq=true) {v:V} (hv:(CV τ Γ ops oq ⟨ts,h⟩).sem=some v) (_:ops[q]? = some oq):HE P a oq S w κ v:=by
 subst hh;rw [Vi hk] at hv;exact SC (P:=P) (st:=⟨C9 (Bq ops oq) 0 ts,st.h⟩) hτ hg hE ht hk hv
theorem Abp {κ:Ai} {S:Nat->Prop} {w:World} (rs:List Nat) {vs:List V} {l:List Value} (h:VRs S w vs κ l):VRs S w (C9 rs 0 vs) κ l:=by
 refine C3 _ _ (by rw [Cf]; exact h.length) λt ht=>?_;rw [Cf] at ht;rw [HY];split
 ·exact h.nth t undef
 ·trivial
def SwQ (P:Program) (ops:Array Oper) (af:Act) (q:Nat) (w:World):Prop :=
 ∀ oq d,ops[q]? = some oq->oq.dst=some d->(execOp af.eval oq).run P w = .ok (.value (af.tmps.getD d undef)) w
def Fw (ops:Array Oper) (m:Nat) (lts:List Nat) (listed:Array Bool) (q:Nat):Prop :=
 ∀ c,m <= c->c<ops.size->c ∉ lts->listed.getD c false=true->Nat.testBit ((Region.before ops).getD c 0) q=false
def GOf (P:Program) (ops:Array Oper) (m:Nat) (lts:List Nat) (af:Act) (listed:Array Bool) (w:World):Prop :=
 ∀ q,q ∈ lts->(∀ c,m <= c->c<ops.size->c ∉ lts->listed.getD c false=true->Nat.testBit ((Region.before ops).getD c 0) q=false)->SwQ P ops af q w
theorem GOf.less {m:Nat} {lts:List Nat} {af:Act} {i:Nat} (hi:i ∈ lts) {listed:Array Bool} {w:World} (h:GOf P ops m lts af (listed.setIfInBounds i true) w):GOf P ops m lts af listed w:=by
 intro q hq hc;refine h q hq λc h1 h2 h3 h4=>hc c h1 h2 h3 ?_;rw [BJ,if_neg (λhh=>h3 (by rw [hh.1]; exact hi))] at h4;exact h4
include hτ in
theorem RY {m:Nat} {lts ls ps ord:List Nat} (L:LateR τ ops m lts ls ps ord) {l:List Nat} (hsub:∀ q ∈ l,q ∈ lts) {st:St} {κ:Ai} {S:Nat->Prop} {a af:Act} {w:World} (hr:Rel dl Γ κ S st a w) (h:(Ix τ Γ ops l st).sem=some ())
  {C:Nat->Prop} (hag:∀ q oq d,q ∈ lts->C q->ops[q]? = some oq->oq.dst=some d->execOp a.eval oq=execOp af.eval oq∧a.tmps.getD d undef=af.tmps.getD d undef∧d<st.t.length):∀ q,q ∈ l->C q->SwQ P ops af q w:=by
 intro q hq hcq oq d ho hd;obtain ⟨d',v,hd',h1,h2⟩:=Jm l h q oq hq ho;rw [hd] at hd';simp only [Option.some.injEq] at hd';subst hd';obtain ⟨oq',_,ho',hk,_,_⟩:=L.kind q (hsub q hq);rw [ho] at ho';simp only [Option.some.injEq] at ho';subst ho';obtain ⟨e1,e2,e3⟩:=hag q oq d (hsub q hq) hcq ho hd;obtain ⟨c,g1,g2⟩:=Ql (P:=P) hτ (st:=st) hr.good hr.env rfl (Abp (Bq ops oq) hr.tmps) hk h1 ho;obtain ⟨rfl,one⟩:=Aap h2;have hz:=hr.tmps.nth d undef;rw [B5] at hz;have:=one κ S S w w c _ g2 hz;rw [<- e1,<- e2,g1,this]
def Fg (o:Oper) (g:Nat):Value :=
 match o.op with
 | .alloc _=>.pointer (some ⟨g,0,none⟩)
 | .buildSlice _ len _=>.slice (some ⟨g,0,none⟩) len len
 | _=>undef
theorem QT {cs:List V}:¬ CB (.cells cs):=by
 rintro (⟨e,s,n,g,h⟩ | ⟨vs,h⟩) <;> cases h
theorem TG {e:TypeId} {s n:Nat} {g:Nat->V}:¬ CB (.row e s n g):=by
 rintro (⟨e,s,n,g,h⟩ | ⟨vs,h⟩) <;> cases h
theorem LO {o:Oper} (h:Eb τ o=true):o.guard=none∧∃ d,o.dst=some d:=by
 unfold Eb at h;split at h
 ·rename_i d hg hd
  exact ⟨hg,d,hd⟩
 ·cases h
include hτ in
theorem TO {κ:Ai} {S:Nat->Prop} {st:St} {a:Act} {w:World} {o:Oper} {r:V×St} (hE:CC Γ S w) (ht:VRs S w st.t κ a.tmps.toList) (hk:Eb τ o=true) (h:(step τ Γ o st).sem=some r) :
  ∃ (v:Nat->V) (b:Blk) (ob:Obj),r=(v st.h.length,⟨st.t,st.h++[b]⟩)∧(∀ u,(execOp a.eval o).run P u = .ok (.value (Fg o u.heap.size)) (u.alloc ob))∧¬ CB b ∧
   (∀ g x,inBlk (some (Fg o g)) x b->x=g)∧∀ g w' κ',w'.heap[g]? = some ob->(∀ b,S b->S b∧w'.heap[b]? = w.heap[b]?)->κ' st.h.length=some (Fg o g)->A7 S w' κ' (some (Fg o g)) b∧VR S w' (v st.h.length) κ' (Fg o g):=by
 unfold Eb at hk;split at hk
 rotate_left
 ·cases hk
 split at hk
 ·rename_i t ho
  unfold step at h;simp only [ho] at h;split at hk
  ·rename_i ty hty
   simp only [hty] at h;obtain ⟨i,_,hi,_,_,_,_,hz,_⟩:=hτ.info hty;split at hk
   ·rename_i cs hcs
    simp only [hcs] at h;obtain ⟨z,hzi,hzz⟩:∃ z,i.zero=some z∧ty.zero=ofValue z:=by
     cases hzz:i.zero with
     | none=>rw [hzz] at hz; rw [hz] at hcs; simp [V.cells] at hcs
     | some z=>rw [hzz] at hz; exact ⟨z,rfl,hz⟩
    split at hk
    ·cases hk
    ·rename_i hb
     simp only [hb] at h;refine ⟨(V.ptr · 0),.cells cs,.cells z.cells t,Aa h,λu=>?_,QT,λg x hx=>?_,λg w' κ' hg hS hκ=>⟨⟨g,t,z.cells,by simp [Fg,ho],hg,(Cp (v:=ty.zero) hcs (by rw [hzz]; exact C4 z)).1⟩,g,by rw [hκ]; simp [Fg,ho],by simp [Fg,ho]⟩⟩
     ·unfold execOp Fg
      simp only [ho,Instr.alloc,Sem.run_bind,zeroValue,typeInfo,run_program,Result.andThen_ok,hi,Sem.run_pure,hzi,newVar,newRow,run_newObj];rfl
     ·have hx:Ak (some (Fg o g))=some x:=hx
      simp [Fg,ho,Ak] at hx;exact hx.symm
   ·cases hk
  ·cases hk
 ·rename_i t len parts ho
  unfold step at h;simp only [ho] at h;split at hk
  ·rename_i ts hts
   simp only [hts] at h;split at hk
   ·rename_i e hkk
    simp only [hkk] at h;split at hk
    ·rename_i te hte
     simp only [hte] at h;split at h
     ·rename_i els hels
      split at h
      ·rename_i zc e1 e2 e3 e4 hzc
       split at h
       ·rename_i e5
        obtain ⟨arr',q1,q2⟩:=Tb (P:=P) hτ hE ht ho hts hkk hte hels e1 e2 e3 e4 hzc e5;have hv:∀ g,Fg o g = .slice (some ⟨g,0,none⟩) len len:=λg=>by simp [Fg,ho]
        simp only [hv];refine ⟨V.ref,.row e te.size len (Cy len els),_,Aa h,q1,TG,λg x hx=>?_,λg w' κ' hg hS hκ=>⟨q2 g w' κ' hg hS,hκ,.inl ⟨_,_,_,rfl⟩⟩⟩;have hx:Ak (some (Value.slice (some ⟨g,0,none⟩) len len))=some x:=hx;simp [Ak] at hx;exact hx.symm
       ·cases h
      ·unfold Ys at h
       split at h
       ·rename_i hsl _ _ _ _ _
        simp only [hsl] at hk;cases hk
       ·rename_i hsl _ _ _ _ _
        simp only [hsl] at hk;cases hk
       ·cases h
     ·cases h
    ·cases hk
   ·cases hk
  ·cases hk
 ·cases hk
def Ah1 (P:Program) (o:Oper) (κ:Ai) (S:Nat->Prop) (h:List Blk) (w0 w:World) (a:Act) (g:Nat):Prop :=
 ∃ (ob:Obj) (d:Tmp),o.dst=some d∧(∀ u,(execOp a.eval o).run P u = .ok (.value (Fg o u.heap.size)) (u.alloc ob))∧w.heap[g]? = some ob∧w0.heap.size <= g∧¬ S g∧(∀ i,¬ A3 κ h i g)∧a.tmps.getD d undef=Fg o g
theorem Ah1.ext {o:Oper} {κ κ':Ai} {S S':Nat->Prop} {h h':List Blk} {w0 w w':World} {a a':Act} {g:Nat} (hp:Ah1 P o κ S h w0 w a g) (e:Ext κ S h w κ' S' h' w') (he:execOp a'.eval o=execOp a.eval o) (hd:∀ d,o.dst=some d->a'.tmps.getD d undef=a.tmps.getD d undef):Ah1 P o κ' S' h' w0 w' a' g:=by
 obtain ⟨ob,d,q1,q2,q3,q4,q5,q6,q7⟩:=hp;have hlt:g<w.heap.size:=(Array.getElem?_eq_some_iff.1 q3).1;refine ⟨ob,d,q1,by rw [he]; exact q2,by rw [e.keep g hlt q6]; exact q3,q4,λhS=>?_,λi hi=>?_,by rw [hd d q1]; exact q7⟩
 ·rcases e.sub g hS with h | ⟨j,h⟩ | h
  ·exact q5 h
  ·exact q6 j h
  ·omega
 ·rcases e.own i g hi with ⟨j,h⟩ | h
  ·exact q6 j h
  ·omega
def ZP (P:Program) (o:Oper) (a:Act):Prop:=∃ d,o.dst=some d∧∀ u,(execOp a.eval o).run P u = .ok (.value (a.tmps.getD d undef)) u
theorem ZP.ext {o:Oper} {a a':Act} (hp:ZP P o a) (he:execOp a'.eval o=execOp a.eval o) (hd:∀ d,o.dst=some d->a'.tmps.getD d undef=a.tmps.getD d undef):ZP P o a':=by
 obtain ⟨d,q1,q2⟩:=hp;exact ⟨d,q1,λu=>by rw [he,hd d q1]; exact q2 u⟩
def Rv (P:Program) (τ:List Ty) (o:Oper) (κ:Ai) (S:Nat->Prop) (h:List Blk) (w0 w:World) (a:Act) (g:Nat):Prop :=
 (Eb τ o=true∧Ah1 P o κ S h w0 w a g) ∨ (Fe o=true∧ZP P o a)
theorem Rv.ext {o:Oper} {κ κ':Ai} {S S':Nat->Prop} {h h':List Blk} {w0 w w':World} {a a':Act} {g:Nat} (hp:Rv P τ o κ S h w0 w a g) (e:Ext κ S h w κ' S' h' w') (he:execOp a'.eval o=execOp a.eval o) (hd:∀ d,o.dst=some d->a'.tmps.getD d undef=a.tmps.getD d undef):Rv P τ o κ' S' h' w0 w' a' g :=
 hp.imp (λq=>⟨q.1,q.2.ext e he hd⟩) λq=>⟨q.1,q.2.ext he hd⟩
theorem D8 {o:Oper} (h:Fe o=true):o.guard=none∧(∃ d,o.dst=some d)∧∃ x i,o.op = .extract x i:=by
 unfold Fe at h;split at h
 ·rename_i d hg hd
  split at h
  ·rename_i x i ho
   exact ⟨hg,⟨d,hd⟩,x,i,ho⟩
  ·cases h
 ·cases h
theorem Gp {o:Oper} (h:GB τ o=true):o.guard=none∧∃ d,o.dst=some d:=by
 unfold GB at h;rw [Bool.or_eq_true] at h;rcases h with h | h
 ·exact LO h
 ·exact ⟨(D8 h).1,(D8 h).2.1⟩
theorem Sq {κ:Ai} {S:Nat->Prop} {st:St} {a:Act} {w:World} {o:Oper} {r:V×St} (hE:CC Γ S w) (ht:VRs S w st.t κ a.tmps.toList) (hk:Fe o=true) (h:(step τ Γ o st).sem=some r) :
  ∃ v c,r=(v,st)∧(∀ u,(execOp a.eval o).run P u = .ok (.value c) u)∧VR S w v κ c:=by
 obtain ⟨_,_,x,i,ho⟩:=D8 hk;unfold step at h;simp only [ho] at h;obtain ⟨v,h1,h2⟩:=Ad h;have h2:=Aa h2;unfold Gv at h1;simp only [ho] at h1;have hx:=AT hE ht x;split at h1
 ·rename_i vs hvs
  rw [hvs] at hx;obtain ⟨ca,hca,hx⟩:=hx;obtain ⟨c,e1,e2⟩:=VRs.get hx (Df h1);refine ⟨v,c,h2,λu=>?_,e2⟩;unfold execOp;simp only [ho,hca];simp [Instr.extract,e1]
 ·cases h1
theorem Mj {all:Array Oper} {bf:Array Nat} {ql il:List Nat} {st:St}:∀ {ps:List Nat},(ON τ Γ all bf ql il ps st).sem=some ()->∀ p,p ∈ ps->p ∈ il->(∀ j,j ∈ il->Nat.testBit (bf.getD p 0) j=false)->(XL τ Γ all ql p st).sem=some ()
 | [],_,p,hp,_,_=>by cases hp
 | q::ps,h,p,hp,hil,hb=>by
  unfold ON at h;obtain ⟨⟨⟩,h1,h2⟩:=Ad h;rcases List.mem_cons.1 hp with rfl | hp
  ·have e:(D2 p il && il.all λj=>!Nat.testBit (bf.getD p 0) j)=true:=by
    rw [Bool.and_eq_true];exact ⟨Cm.2 hil,List.all_eq_true.2 λj hj=>by rw [hb j hj]; rfl⟩
   rw [e] at h1;exact h1
  ·exact Mj h2 p hp hil hb
theorem Yn {κ:Ai} {S:Nat->Prop} {st:St} {a:Act} {w:World} (p:Nat) (hr:Rel dl Γ κ S st a w):Rel dl Γ κ S (QR ops p st) a w∧(QR ops p st).t.length=st.t.length∧(QR ops p st).h=st.h:=by
 unfold QR;split
 ·rename_i o _
  refine ⟨⟨by rw [CZ]; exact hr.good,hr.env,?_,hr.defers⟩,EP _ _ _,CZ _ _ _⟩;refine C3 _ _ (by rw [EP]; exact hr.tmps.length) λt ht=>?_;rw [Kb];split
  ·trivial
  ·exact hr.tmps.nth t undef
 ·exact ⟨hr,rfl,rfl⟩
theorem Om {κ:Ai} {S:Nat->Prop} {a:Act} {w:World}:∀ (ps:List Nat) {st:St},Rel dl Γ κ S st a w->Rel dl Γ κ S (IR ops ps st) a w∧(IR ops ps st).t.length=st.t.length∧(IR ops ps st).h=st.h
 | [],_,hr=>⟨hr,rfl,rfl⟩
 | p::ps,st,hr=>by
  obtain ⟨h1,h2,h3⟩:=Yn p hr;obtain ⟨g1,g2,g3⟩:=Om ps h1;exact ⟨g1,g2.trans h2,g3.trans h3⟩
theorem Aax {κ:Ai} {h:List Blk} {b:Blk} {c:Value} {j x:Nat} (ho:A3 (AZ κ h.length c) (h++[b]) j x):A3 κ h j x ∨ inBlk (some c) x b:=by
 obtain ⟨bl,h1,h2⟩:=ho;rcases Nat.lt_trichotomy j h.length with hl | hl | hl
 ·rw [List.getElem?_append_left hl] at h1
  refine .inl ⟨bl,h1,?_⟩;unfold AZ at h2;rw [if_neg (by omega)] at h2;exact h2
 ·subst hl
  rw [List.getElem?_append_right (Nat.le_refl _),Nat.sub_self] at h1;cases h1;refine .inr ?_;simpa [AZ] using h2
 ·rw [List.getElem?_eq_none (by simp; omega)] at h1
  cases h1
theorem J0 {o:Oper} (hg:o.guard=none) {t:Nat} (h:t ∈ o.looksAt ops):D2 t (Bq ops o)=true:=by
 unfold Bq;unfold Oper.looksAt at h;rw [hg] at h ⊢;simp only [List.append_nil] at h ⊢;have:∀ l:List Operand,t ∈ l.filterMap (λx=>match x with | .tmp t=>some t | _=>none)->D2 t (Jj l)=true:=by
  intro l
  induction l with
  | nil=>intro h; cases h
  | cons x l ih =>
   intro h;cases x <;> simp only [List.filterMap_cons] at h
   ·rcases List.mem_cons.1 h with rfl | h
    ·exact Cm.2 (by simp [Jj])
    ·exact Cm.2 (List.mem_cons_of_mem _ (Cm.1 (ih h)))
   all_goals exact ih h
 exact this _ h
theorem Im {b:Bool} {u:Unit} (h:(Yx b).sem=some u):b=true:=by
 unfold Yx at h;split at h
 ·rfl
 ·cases h
theorem Cs {all:Array Oper} {st:St}:∀ {l:List Nat} {q:Nat},q ∈ GK all st l->q ∈ l∧∃ o d,all[q]? = some o∧o.dst=some d∧Ah9 (nth st.t d)=true
 | p::l,q,h=>by
  simp only [GK] at h;split at h
  ·rename_i o ho
   split at h
   ·rename_i d hd
    split at h
    ·rename_i hv
     rcases List.mem_cons.1 h with rfl | h
     ·exact ⟨by simp,o,d,ho,hd,hv⟩
     ·exact ⟨List.mem_cons_of_mem _ (Cs h).1,(Cs h).2⟩
    ·exact ⟨List.mem_cons_of_mem _ (Cs h).1,(Cs h).2⟩
   ·exact ⟨List.mem_cons_of_mem _ (Cs h).1,(Cs h).2⟩
  ·exact ⟨List.mem_cons_of_mem _ (Cs h).1,(Cs h).2⟩
theorem Fp {vs:List Nat}:∀ {l:List Nat} {q:Nat},q ∈ E0 vs l↔q ∈ l∧q ∉ vs
 | [],q=>by simp [E0]
 | p::l,q=>by
  simp only [E0];split
  ·rename_i hp
   have hp:=Cm.1 hp;rw [Fp,List.mem_cons];constructor
   ·exact λh=>⟨.inr h.1,h.2⟩
   ·rintro ⟨rfl | h,h2⟩
    ·exact absurd hp h2
    ·exact ⟨h,h2⟩
  ·rename_i hp
   have hp:p ∉ vs:=λhc=>by rw [Cm.2 hc] at hp; cases hp
   rw [List.mem_cons,List.mem_cons,Fp];constructor
   ·rintro (rfl | h)
    ·exact ⟨.inl rfl,hp⟩
    ·exact ⟨.inr h.1,h.2⟩
   ·rintro ⟨rfl | h,h2⟩
    ·exact .inl rfl
    ·exact .inr ⟨h,h2⟩
theorem W1 {w:World} {b o:Nat} {v:Value} (h:w.cell? ⟨b,o,none⟩=some v):IsC w b:=by
 unfold World.cell? at h;split at h
 ·rename_i c t z hb
  exact ⟨c,t,z,hb⟩
 ·cases h
theorem Agl {st:St} {κ:Ai} {S:Nat->Prop} {a:Act} {w:World} (hr:Rel dl Γ κ S st a w) {y:Operand} {r:Option Nat} (h:Acs Γ st y=some r) :
  ∃ ad:Addr,a.eval y = .pointer (some ad)∧IsC w ad.block∧(match r with
   | some id=>A3 κ st.h id ad.block
   | none=>S ad.block):=by
 have hv:=AT hr.env hr.tmps y;unfold Acs at h;split at h
 ·rename_i id off he
  rw [he] at hv;obtain ⟨g,hk,hc⟩:=hv;split at h
  ·rename_i cs hcs
   simp only [Option.some.injEq] at h;subst h;obtain ⟨g',e,ca,hk',hh,_⟩:=hr.good.blk id _ hcs;rw [hk] at hk';simp only [Option.some.injEq,Value.pointer.injEq,Addr.mk.injEq,and_true] at hk';obtain rfl:=hk';exact ⟨⟨g,off,none⟩,hc,⟨ca,e,_,hh⟩,(Aq hcs).2 (by rw [hk]; rfl)⟩
  ·cases h
 ·rename_i id s i off he
  rw [he] at hv;obtain ⟨g,n,cap,hk,hc⟩:=hv;split at h
  ·rename_i e sz m gt hcs
   simp only [Option.some.injEq] at h;subst h;obtain ⟨_,c,xs,hk',ho,_⟩:=hr.good.blk id _ hcs;rw [hk] at hk';simp only [Option.some.injEq] at hk';subst hk';rcases ho.2 with ⟨h0,_⟩ | ⟨g',cap',cur,h0,_,hg,_⟩
   ·cases h0
   ·simp only [Value.slice.injEq,Option.some.injEq,Addr.mk.injEq] at h0
    obtain ⟨⟨rfl,_⟩,_⟩:=h0;exact ⟨⟨g,_,none⟩,hc,⟨_,_,_,hg⟩,(Aq hcs).2 (by rw [hk]; rfl)⟩
  ·cases h
 ·rename_i u us he
  rw [he] at hv;obtain ⟨b,o,cv,hc,⟨ca,rfl,c0,l',rfl,_,_⟩,hat⟩:=hv;simp only [Option.some.injEq] at h;subst h;obtain ⟨hS,hcell⟩:=hat 0 c0 (by simp [Value.cells]);exact ⟨⟨b,o,none⟩,hc,W1 hcell,hS⟩
 ·rename_i u _ he
  rw [he] at hv;split at h
  ·rename_i hsol
   simp only [Option.some.injEq] at h;subst h;obtain ⟨b,o,cv,hc,hu,hat⟩:=hv;obtain ⟨hS,hcell⟩:=hat 0 cv (by rw [(EI hsol hu).1]; rfl);exact ⟨⟨b,o,none⟩,hc,W1 hcell,hS⟩
  ·cases h
 ·rename_i id s i off he
  rw [he] at hv;obtain ⟨g,n,cap,ms,hk,hc⟩:=hv;split at h
  ·rename_i j hcs
   simp only [Option.some.injEq] at h;subst h;obtain ⟨c,ms',xs,hk',hj⟩:=Cd (st:=st) hr.good hcs;rw [hk] at hk';obtain ⟨rfl,rfl⟩:=AC hk';rcases hj.2.2.2.2.1.2 with ⟨h0,_⟩ | ⟨g',cap',cur,h0,_,hg,_⟩
   ·cases h0
   ·simp only [Value.slice.injEq,Option.some.injEq,Addr.mk.injEq] at h0
    obtain ⟨⟨rfl,_⟩,_⟩:=h0;exact ⟨⟨g,_,none⟩,hc,⟨_,_,_,hg⟩,(Aq hcs).2 (by rw [hk]; exact DD rfl)⟩
  ·cases h
 ·cases h
include hτ in
theorem WT {s f:Nat} {v:V} {x:Value} {w w':World} (h:FH τ s f (.ptr 0 0) = .leaf v):E3 P w w' (Instr.fieldAt s x f):=by
 unfold FH at h;split at h
 ·rename_i ty hty
  obtain ⟨_,d,_,hd,hk,_⟩:=hτ.info hty;split at h
  ·rename_i fs hkk
   rw [hkk] at hk;obtain ⟨gs,rfl,rfl⟩:=Qq hk.symm;split at h
   ·rename_i off ft hf
    obtain ⟨fd,hfd,e1,e2⟩:∃ fd:Field,gs[f]? = some fd∧fd.offset=off∧fd.type=ft:=by
     simp at hf;obtain ⟨fd,h1,h2,h3⟩:=hf;exact ⟨fd,h1,h2,h3⟩
    split at h
    ·rename_i te hte
     obtain ⟨i,_,hi,_,_,hs,_⟩:=hτ.info hte;split at h
     ·rename_i hpos
      have hpos:0<i.size:=by rw [<- hs]; simpa using hpos
      have hsz:=λw=>AS (t:=fd.type) (by rw [e2]; exact hi) w;have hne:¬ i.size=0:=by omega
      have hrun:∀ u,(Instr.fieldAt s x f).run P u=((Instr.sureAddr x).run P u).andThen λa u=>.ok (.pointer (some (a.add off))) u:=λu=>by
       simp only [Instr.fieldAt,Sem.run_bind,run_underlying hd,Result.andThen_ok,hfd,Sem.run_pure,fieldPlace,hsz,if_neg hne,Sem.run_ite,e1]
      intro r w1 h1;rw [hrun] at h1 ⊢;cases hq:(Instr.sureAddr x).run P w with
      | halt y w2=>rw [hq] at h1; simp [Result.andThen] at h1
      | ok ad w2 =>rw [hq] at h1;obtain ⟨rfl,h2⟩:=Kz (w':=w') x _ _ hq;rw [h2];simp only [Result.andThen,Result.ok.injEq] at h1 ⊢;exact ⟨h1.2.symm,h1.1,trivial⟩
     ·cases h
    ·cases h
   ·cases h
  ·cases h
 ·cases h
theorem Ach {t ty:TypeId} {ad:Option Addr} {n c:Nat} {w w':World}:E3 P w w' (Builtin.len_ #[t] ty #[.slice ad n c]):=by
 unfold Builtin.len_;refine AM (CE _) λd=>?_;cases d
 case pointer e =>
  refine AM (CE _) λd'=>?_;cases d' <;> first | exact AV _ | exact Ck _
 all_goals first | exact AV _ | exact Ck _
theorem Acg {t:TypeId} {x y:Operand} {k k':IntKind} {i j:Int} {w w':World}:E3 P w w' (do eqGuard .sub t x y (.int k i) (.int k' j); binOp .sub t (.int k i) (.int k' j):Sem Value):=by
 refine AM ?_ λ_=>?_
 ·exact AV _
 ·show E3 P w w' (if k ≠ k' then stuck "BinOp: operands of different kinds" else Op.intArith .sub k i j)
  split
  ·exact Ck _
  ·exact AV _
include hτ in
theorem JR {all:Array Oper} {st:St} {κ:Ai} {S:Nat->Prop} {a:Act} {w w':World} (hr:Rel dl Γ κ S st a w) {q:Nat} (h:L1 τ Γ all st q=true)
  (hS:∀ b,IsC w b->S b->w'.heap[b]? = w.heap[b]?) (hO:∀ b id oq t y,all[q]? = some oq->oq.op = .load t y->Acs Γ st y=some (some id)->IsC w b->A3 κ st.h id b->w'.heap[b]? = w.heap[b]?) :
  ∀ oq,all[q]? = some oq->E3 P w w' (execOp a.eval oq):=by
 intro oq ho;unfold L1 at h;rw [ho] at h;simp only at h;split at h
 ·rename_i x hop
  unfold execOp;simp only [hop];exact AV _
 ·rename_i t parts hop
  unfold execOp;simp only [hop];exact AM (WU _ _) λ_=>AV _
 ·rename_i t x i hop
  unfold execOp;simp only [hop];exact AM (Tu _ _ _) λ_=>AV _
 ·rename_i s x f hop
  split at h
  ·rename_i v hv
   unfold execOp;simp only [hop];exact AM (WT (P:=P) hτ hv) λ_=>AV _
  ·cases h
 ·rename_i x hop
  split at h
  ·rename_i v hv
   have hx:=AT hr.env hr.tmps x;rw [hv] at hx;obtain ⟨b,o,cv,hc,_⟩:=hx;unfold execOp;simp only [hop,hc];exact AV _
  ·cases h
 ·rename_i t x y z hop
  split at h
  ·rename_i k i k' j hx hy
   have h1:a.eval x = .int k i:=by
    have:=AT hr.env hr.tmps x;rw [hx] at this;exact this
   have h2:a.eval y = .int k' j:=by
    have:=AT hr.env hr.tmps y;rw [hy] at this;exact this
   unfold execOp;simp only [hop,h1,h2];exact AM Acg λ_=>AV _
  ·cases h
 ·rename_i c hop
  split at h
  ·rename_i x t hc hargs htys
   split at h
   ·rename_i s n g hx
    have hav:=Fv hr.env hr.tmps c.args.toList;rw [hargs] at hav;obtain ⟨cx,l',hl,hcx,hl'⟩:=hav;have hl':l'=[]:=hl';subst hl';rw [hx] at hcx;obtain ⟨ad,cap,rfl,_⟩:=hcx;have hca:c.args.map a.eval=#[.slice ad n cap]:=by apply Array.ext'; rw [Array.toList_map,hargs]; simpa using hl
    have hct:c.argTypes=#[t]:=by apply Array.ext'; simpa using htys
    unfold execOp;simp only [hop,resolve,hc];have hb:E3 P w w' (do let y <- Builtin.len_ #[t] oq.type #[.slice ad n cap]; pure (Next.value y):Sem Next):=AM Ach λ_=>AV _
    intro r w1 h;simp only [Sem.run_bind,Sem.run_pure,Result.andThen_ok,invoke,builtin,hca,hct] at h ⊢;have:=hb r w1;simp only [Sem.run_bind,Sem.run_pure] at this;exact this h
   ·cases h
  ·cases h
 ·rename_i t y hop
  split at h
  ·rename_i r hs
   obtain ⟨ad,he,hc,hx⟩:=Agl hr hs;unfold execOp;simp only [hop,he];refine AM (UP t ad hc ?_) λ_=>AV _;cases r with
   | none=>exact hS _ hc hx
   | some id=>exact hO _ id oq t y ho hop hs hc hx
  ·cases h
 ·cases h
theorem Kk {w:World} {ob:Obj} {b:Nat} (h:IsC w b):(w.alloc ob).heap[b]? = w.heap[b]?:=by
 obtain ⟨c,t,z,h⟩:=h;exact B7 w ob b (Array.getElem?_eq_some_iff.1 h).1
theorem Lv {af a:Act} {q:Nat} {w w':World} (h:SwQ P ops af q w) (he:∀ oq,ops[q]? = some oq->execOp a.eval oq=execOp af.eval oq) (ht:∀ oq,ops[q]? = some oq->E3 P w w' (execOp a.eval oq)):SwQ P ops af q w':=by
 intro oq d ho hd;have h1:=h oq d ho hd;rw [<- he oq ho] at h1 ⊢;exact (ht oq ho _ _ h1).2
theorem Ab7 {o:Oper} {a:Act} {w:World} {K:Act->World->Prop} {t:TypeId} {x v:Operand} {ad:Addr} (ho:o.op = .store t x v) (hx:a.eval x = .pointer (some ad)) (hc:IsC w ad.block)
  (h:o.wp P a w (λa' w'=>(∀ k,k ≠ ad.block->w'.heap[k]? = w.heap[k]?)->K a' w') Q):o.wp P a w K Q:=by
 have hrun:(execOp a.eval o).run P w=((Instr.storeAt t (.pointer (some ad)) (a.eval v)).run P w).andThen λ_ w'=>.ok .skip w':=by
  unfold execOp;simp only [ho,hx,Sem.run_bind,Sem.run_pure]
 unfold Oper.wp at h ⊢;rw [hrun] at h ⊢;cases hs:(Instr.storeAt t (.pointer (some ad)) (a.eval v)).run P w with
 | halt y w' =>rw [hs] at h;simp only [Result.andThen] at h ⊢;cases y <;> simp only [Oper.upon] at h ⊢ <;> exact h
 | ok r w' =>rw [hs] at h;simp only [Result.andThen,Oper.upon_skip] at h ⊢;exact h (TL t ad (a.eval v) rfl w r w' hc hs).2
include hτ in
theorem AgX {vs:List Nat} {o:Oper} {st:St} {κ:Ai} {S:Nat->Prop} {a af:Act} {w:World} {K:Act->World->Prop} (hr:Rel dl Γ κ S st a w) (hf:vs.all (Wd τ Γ ops o st)=true) (hnc:∀ c,o.op ≠ .call c) {C:Nat->Prop} {r:V×St} (hst:(step τ Γ o st).sem=some r)
  (hex:∀ q oq,q ∈ vs->C q->ops[q]? = some oq->execOp a.eval oq=execOp af.eval oq)
  (h:o.wp P a w (λa' w'=>(∀ q,q ∈ vs->C q->SwQ P ops af q w->SwQ P ops af q w')->K a' w') Q):o.wp P a w K Q:=by
 have mv:∀ x,(execOp a.eval o).run P w = .ok (.value x) w->o.wp P a w K Q:=λx hrun=>by
  unfold Oper.wp at h ⊢;rw [hrun] at h ⊢;exact h λ_ _ _ hs=>hs
 by_cases hm:(∃ x,o.op = .move x) ∨ ∃ x,o.op = .assign x
 ·rcases hm with ⟨x,ho⟩ | ⟨x,ho⟩ <;> exact mv (a.eval x) (by unfold execOp; simp only [ho]; rfl)
 by_cases hbd:∃ t ps,o.op = .build t ps
 ·obtain ⟨t,parts,ho⟩:=hbd
  unfold step at hst;simp only [ho] at hst;obtain ⟨v,hq,_⟩:=Ad hst;unfold Gv at hq;simp only [ho] at hq;have hpr:PartsR S w κ (evs Γ st parts.toList) (parts.map λ(i,x)=>(i,a.eval x)).toList:=by
   have:=N6 hr.env hr.tmps parts.toList;simpa using this
  obtain ⟨c,h2,_⟩:=QV (P:=P) hτ (Df hq) hpr;refine mv c ?_;unfold execOp;simp only [ho,Sem.run_bind,h2,Sem.run_pure,Result.andThen_ok]
 have hf:vs.all (λq=>match Eb τ o with
  | true=>L1 τ Γ ops st q
  | false=>Wc τ Γ ops o st q)=true:=by
  rw [List.all_eq_true] at hf ⊢;intro q hq;have:=hf q hq;unfold Wd at this;split at this
  ·rename_i x ho
   exact absurd (.inl ⟨x,ho⟩) hm
  ·rename_i x ho
   exact absurd (.inr ⟨x,ho⟩) hm
  ·rename_i t ps ho
   exact absurd ⟨t,ps,ho⟩ hbd
  ·rename_i c ho
   exact absurd ho (hnc c)
  ·exact this
 cases hmk:Eb τ o with
 | true =>obtain ⟨v,b,ob,_,hrun,_⟩:=TO (P:=P) hτ hr.env hr.tmps hmk hst;unfold Oper.wp at h ⊢;rw [hrun] at h ⊢;refine h λq hq hcq hs=>?_;have hq1:=List.all_eq_true.1 hf q hq;simp only [hmk] at hq1;exact Lv hs (λoq hoq=>hex q oq hq hcq hoq) (JR (P:=P) hτ hr hq1 (λb hb _=>Kk hb) λb _ _ _ _ _ _ _ hb _=>Kk hb)
 | false =>
 cases vs with
 | nil=>exact Oper.wp_mono (λa' w' hk=>hk λq hq=>by cases hq) h
 | cons q0 vs =>
  have hf:(q0::vs).all (Wc τ Γ ops o st)=true:=by
   rw [List.all_eq_true] at hf ⊢;intro q hq;have:=hf q hq;simpa only [hmk] using this
  have h0:=List.all_eq_true.1 hf q0 (by simp);unfold Wc at h0;split at h0
  rotate_left
  ·cases h0
  rename_i t x v ho;split at h0
  rotate_left
  ·cases h0
  rename_i id off hev;split at h0
  rotate_left
  ·cases h0
  rename_i cs hcs;have hv:=AT hr.env hr.tmps x;rw [hev] at hv;obtain ⟨g,hk,hc⟩:=hv;obtain ⟨g',e,ca,hk',hh,_⟩:=hr.good.blk id _ hcs;rw [hk] at hk';simp only [Option.some.injEq,Value.pointer.injEq,Addr.mk.injEq,and_true] at hk';obtain rfl:=hk';have hown:A3 κ st.h id g:=(Aq hcs).2 (by rw [hk]; rfl);refine Ab7 ho hc ⟨ca,e,_,hh⟩ (Oper.wp_mono (λa' w' hk2 hw'=>hk2 λq hq hcq hs=>?_) h);have hw':∀ k,k ≠ g->w'.heap[k]? = w.heap[k]?:=hw';have hq1:=List.all_eq_true.1 hf q hq;unfold Wc at hq1;simp only [ho,hev,hcs] at hq1;have hsb:L1 τ Γ ops st q=true:=by
   split at hq1
   ·rename_i oq hoq
    split at hq1
    ·rename_i t2 y hop
     unfold L1;simp only [hoq,hop];split at hq1
     ·rename_i id' hs'
      rw [hs']
     ·rename_i hs'
      rw [hs']
     ·cases hq1
    ·exact hq1
   ·cases hq1
  refine Lv hs (λoq hoq=>hex q oq hq hcq hoq) (JR (P:=P) hτ hr hsb (λb _ hb=>hw' b λhbg=>(hr.good.out b hb).2 id (by rw [hbg]; exact hown)) (λb id2 oq t2 y hoq hop hs2 _ hob=>hw' b λhbg=>?_));simp only [hoq,hop,hs2] at hq1;split at hq1
  ·cases hq1
  ·rename_i hne
   subst hbg;exact hr.good.sep id id2 b (λhc=>by rw [hc,Nat.beq_refl] at hne; cases hne) hown hob
include hτ in
theorem AaT (hΓ:Bb P Γ) {vs:List Nat} {o:Oper} {st:St} {κ:Ai} {S:Nat->Prop} {a af:Act} {w:World} {K:Act->World->Prop} (hr:Rel dl Γ κ S st a w) (hf:vs.all (Wd τ Γ ops o st)=true) (hk:(AdI Γ o st vs).sem=some ()) {C:Nat->Prop} {r:V×St} (hst:(step τ Γ o st).sem=some r)
  (hex:∀ q oq,q ∈ vs->C q->ops[q]? = some oq->execOp a.eval oq=execOp af.eval oq)
  (hp:F4 a o κ S st w (λa' w'=>(∀ q,q ∈ vs->C q->SwQ P ops af q w->SwQ P ops af q w')->K a' w') r):o.wp P a w K Q:=by
 by_cases hc:∃ c,o.op = .call c
 ·obtain ⟨c,ho⟩:=hc
  cases vs with
  | nil=>exact Oper.wp_mono (λa' w' hk=>hk λq hq=>by cases hq) (Lx (P:=P) hτ hΓ hr.good hr.env hr.tmps hst hp)
  | cons q0 vs =>
   simp only [AdI,ho] at hk;split at hk
   ·rename_i f hcal
    split at hk
    ·rename_i g caps hev
     obtain ⟨⟨v,r1⟩,h1,h2⟩:=Ad hk;have h2:AdF r1=true:=Im h2;simp only [step,ho,V5,hcal,Acl,hev] at hst;obtain ⟨⟨v',r2⟩,h3,h4⟩:=Ad hst;rw [h1] at h3;simp only [Option.some.injEq,Prod.mk.injEq] at h3;obtain ⟨rfl,rfl⟩:=h3;have h4:=Aa h4;subst h4;refine U8 hΓ hr.good hr.env hr.tmps ho hcal hev h1 λκ' S' c' w' q1 q2 q3 q4=>?_;cases r1 with
     | all st'=>cases h2
     | more l =>refine hp κ' S' c' w' q1 (VR.mono_go (q3.pers hr.good) _ _ _ _ q4.1 hr.tmps) q2 q3 λq hq hcq hs=>?_;have hq1:=List.all_eq_true.1 hf q hq;simp only [Wd,ho] at hq1;have hkp:∀ b,IsC w b->w'.heap[b]? = w.heap[b]?:=λb ⟨_,_,_,hb⟩=>q4.2 h2 b (Array.getElem?_eq_some_iff.1 hb).1;exact Lv hs (λoq hoq=>hex q oq hq hcq hoq) (JR (P:=P) hτ hr hq1 (λb hb _=>hkp b hb) λb _ _ _ _ _ _ _ hb _=>hkp b hb)
    ·cases hk
   ·cases hk
 ·exact AgX (P:=P) hτ (af:=af) (C:=C) hr hf (λc ho=>hc ⟨c,ho⟩) hst hex (Lx (P:=P) hτ hΓ hr.good hr.env hr.tmps hst hp)
theorem Fw.less {m:Nat} {lts:List Nat} {listed:Array Bool} {i q:Nat} (h:Fw ops m lts (listed.setIfInBounds i true) q):Fw ops m lts listed q:=λc e1 e2 e3 e4=>h c e1 e2 e3 (by
 rw [BJ];split
 ·rfl
 ·exact e4)
theorem Ext.grow {κ:Ai} {S:Nat->Prop} {h:List Blk} {w w':World} (hw:∀ k,k<w.heap.size->w'.heap[k]? = w.heap[k]?) (hsz:w.heap.size <= w'.heap.size) (hos:w'.os=w.os) (htape:w'.tape=w.tape) (hout:w'.output=w.output):Ext κ S h w κ S h w' :=
 ⟨hos,htape,hout,hsz,λk hk _=>hw k hk,λi _ hb=>.inl ⟨i,hb⟩,λ_ hb=>.inl hb,λ_ hb=>hb,λb _ hs=>⟨⟨Nat.lt_of_lt_of_le hs.1 hsz,hs.2⟩,E5.same (hw b hs.1)⟩,λ_ b h hb=>⟨rfl,b,h,Bz.refl hb⟩⟩
include hτ in
theorem Abi (hΓ:Bb P Γ) {m:Nat} {lts ls ps ord vs pl:List Nat} (L:LateR τ ops m lts ls ps ord) (hpl:∀ q,q ∈ pl->q ∈ lts) (hvs:∀ q,q ∈ vs->q ∈ lts) (hcov:∀ q,q ∈ lts->q ∈ vs ∨ q ∈ pl) (hd:Ej ops=true) {af:Act}
  {κ0:Ai} {S0:Nat->Prop} {h0:List Blk} {w0:World} {st':St} (hw:Way dl Γ κ0 S0 h0 w0 st' (λa' w'=>Q .normal a' w')) :
  ∀ (N:Nat) (l ql ups:List Nat) (gof:Nat->Nat) (fuel:Nat) (listed:Array Bool) (st:St) (κ:Ai) (S:Nat->Prop) (a:Act) (w:World),
  l.length+fuel <= N->(∀ i,i ∈ l->i ∈ ord)->KZ (Region.before ops) ps l=true->listed.size=ops.size->left ops.size listed=fuel->EU ops.toList (λi=>listed.getD i false=true) ->
  (∀ i,i<ops.size->(listed.getD i false=true↔(i ∉ l ∨ i ∈ ups))) ->
  (∀ u,u ∈ ups->u ∈ ps∧u ∈ l∧∀ o,ops[u]? = some o->Rv P τ o κ S st.h w0 w a (gof u)) ->
  (∀ u v ou ov,u ∈ ups->v ∈ ups->u ≠ v->ops[u]? = some ou->ops[v]? = some ov->Eb τ ou=true->Eb τ ov=true->gof u ≠ gof v) ->
  (∀ q,q ∈ lts->Fw ops m lts listed q->q ∈ ql)->GOf P ops m lts af listed w->Rel dl Γ κ S st a w->Ext κ0 S0 h0 w0 κ S st.h w ->
  (∀ q oq d,q ∈ lts->Fw ops m lts listed q->ops[q]? = some oq->oq.dst=some d->execOp a.eval oq=execOp af.eval oq∧a.tmps.getD d undef=af.tmps.getD d undef∧d<st.t.length) ->
  (Js τ Γ ops (Region.before ops) pl vs ps ql l st).sem=some st'->Ji P .any ops Q (GOf P ops m lts af) fuel listed a w:=by
 have hdo:=hd;unfold Ej at hdo;split at hdo
 rotate_left
 ·cases hdo
 rename_i hback honce;have honce:=Hp honce;have hedges:=λi o hi=>C0 ops.toList 0 hback i o hi;intro N
 induction N with
 | zero =>
  intro l ql ups gof fuel listed st κ S a w hN hin hch hsz hf hcl hl hp hds hql hG hr hext hag h;cases l with
  | cons i l=>simp at hN
  | nil =>
   have:=Aa h;subst this;refine NL ?_ (hw κ S a w hr hext) _;refine List.eq_nil_iff_forall_not_mem.2 λi hi=>?_;obtain ⟨h0,o,ho,_⟩:=mem_ready.1 hi;have hil:i<ops.size:=(Array.getElem?_eq_some_iff.1 ho).1;have h1:=(hl i hil).2 (.inl (by simp));have hil':i<listed.size:=by omega
   simp [Array.getD,hil'] at h0 h1;rw [h0] at h1;cases h1
 | succ N ih =>
  intro l ql ups gof fuel listed st κ S a w hN hin hch hsz hf hcl hl hp hds hql hG hr hext hag h;cases l with
  | nil =>
   have:=Aa h;subst this;refine NL ?_ (hw κ S a w hr hext) _;refine List.eq_nil_iff_forall_not_mem.2 λi hi=>?_;obtain ⟨h0,o,ho,_⟩:=mem_ready.1 hi;have hil:i<ops.size:=(Array.getElem?_eq_some_iff.1 ho).1;have h1:=(hl i hil).2 (.inl (by simp));have hil':i<listed.size:=by omega
   simp [Array.getD,hil'] at h0 h1;rw [h0] at h1;cases h1
  | cons i l =>
  have hrun:=h;obtain ⟨hc1,hc2,hnl,hc3⟩:=W0 hch;obtain ⟨hmi,his,hil,_⟩:=L.inn i (hin i (by simp));have hin':∀ j,j ∈ l->j ∈ ord:=λj hj=>hin j (List.mem_cons_of_mem _ hj);have hoi:ops[i]? = some ops[i]:=by simp [his]
  have hol:ops.toList[i]? = some ops[i]:=by simp [his]
  have hlenl:(i::l).length=l.length+1:=rfl;simp only [Js,hoi] at h;obtain ⟨⟨⟩,hfl,h⟩:=Ad h;obtain ⟨⟨⟩,hft,h⟩:=Ad h;have hft:=Im hft;obtain ⟨⟨⟩,hkt,h⟩:=Ad h;obtain ⟨st1,h1,h⟩:=Ad h;obtain ⟨⟨⟩,h3,h4⟩:=Ad h;by_cases hup:i ∈ ups
  ·-- what came up early is taken over
   obtain ⟨hips,_,hpe⟩:=hp i hup;have hlo:∀ q,q<ops.size->(listed.getD q false=true↔(q ∉ l ∨ q ∈ ups.filter λu=>!Nat.beq u i)):=λq hq=>by
    rw [hl q hq,List.mem_cons,List.mem_filter];have hbn:(!Nat.beq q i)=true↔q ≠ i:=by
     cases hb:Nat.beq q i with
     | true=>simp [Nat.eq_of_beq_eq_true hb]
     | false=>simp [Nat.ne_of_beq_eq_false hb]
    rw [hbn];constructor
    ·rintro (hc | hc)
     ·exact .inl λh=>hc (.inr h)
     ·by_cases hqi:q=i
      ·exact .inl (by rw [hqi]; exact hnl)
      ·exact .inr ⟨hc,hqi⟩
    ·rintro (hc | hc)
     ·by_cases hqi:q=i
      ·exact .inr (by rw [hqi]; exact hup)
      ·exact .inl λh=>h.elim hqi hc
     ·exact .inr hc.1
   have hups:∀ u,u ∈ (ups.filter λu=>!Nat.beq u i)->u ∈ ups∧u ≠ i:=λu hu=>by
    obtain ⟨h1,h2⟩:=List.mem_filter.1 hu;refine ⟨h1,λe=>?_⟩;rw [e,Nat.beq_refl] at h2;cases h2
   have hmemi:∀ {st1:St},∀ q,q ∈ lts->Fw ops m lts listed q->q ∈ Ct (Region.before ops) i ql:=fun {_} q hq hcq =>
    DC (hql q hq hcq) (hcq i hmi his hil ((hl i his).2 (.inr hup)))
   have hpu:∀ d,ops[i].dst=some d->∀ c,a.tmps.getD d undef=c->d<a.tmps.size->a.put (some d) c=a:=λd _ c hc hds'=>by
    simp only [Act.put];congr 1;apply Array.ext
    ·simp
    ·intro q q1 q2
     rw [Array.getElem_setIfInBounds];split
     ·rename_i hdq
      subst hdq;rw [<- hc];simp [Array.getD,q2]
     ·rfl
   have hput0:∀ d c,a.tmps.getD d undef=c->a.put (some d) c=a:=λd c hc=>by
    simp only [Act.put];congr 1;apply Array.ext
    ·simp
    ·intro q q1 q2
     rw [Array.getElem_setIfInBounds];split
     ·rename_i hdq
      subst hdq;rw [<- hc];simp [Array.getD,q2]
     ·rfl
   rcases hpe ops[i] hoi with ⟨hk,hpe⟩ | ⟨hk,hpe⟩
   ·obtain ⟨hgu,_⟩:=LO hk
    have h1:((step τ Γ ops[i] st).bind λr=>T.leaf (put r.2 ops[i].dst r.1)).sem=some st1:=by
     unfold Ja KU at h1;rw [hgu] at h1;exact h1
    obtain ⟨r,h5,h6⟩:=Ad h1;have h6:=Aa h6;obtain ⟨ob,d,hd',run,hg,hg0,hgS,hgo,hslot⟩:=hpe;obtain ⟨v,b,ob',e1,run',nf,one,holds⟩:=TO (P:=P) hτ hr.env hr.tmps hk h5;have hob:ob=ob':=by
     have:=(run w).symm.trans (run' w);simp only [Result.ok.injEq,true_and] at this;have h7:=heap_alloc_new w ob;rw [this,heap_alloc_new w ob'] at h7;exact (Option.some.inj h7).symm
    subst hob;obtain ⟨hB,hV⟩:=holds (gof i) w (AZ κ st.h.length (Fg ops[i] (gof i))) hg (λb hb=>⟨hb,rfl⟩) (by simp [AZ]);subst e1;subst h6;rw [hd'] at h3 h4;have hput:=hput0 d _ hslot;refine ih l _ (ups.filter λu=>!Nat.beq u i) gof fuel listed _ (AZ κ st.h.length (Fg ops[i] (gof i))) S a w (by omega) hin' hc3 hsz hf hcl hlo (λu hu=>?_) (λu v ou ov hu hv=>hds u v ou ov (hups u hu).1 (hups v hv).1) (hmemi (st1:=st)) hG ?_ ?_ (λq oq dq hq hcq hoq hdq=>?_) h4
    ·obtain ⟨hu1,hu2⟩:=hups u hu
     obtain ⟨p1,p2,p3⟩:=hp u hu1;refine ⟨p1,(List.mem_cons.1 p2).resolve_left hu2,λo ho=>?_⟩;rw [CZ];rcases p3 o ho with ⟨q1,q2⟩ | q
     ·refine .inl ⟨q1,?_⟩
      obtain ⟨ob2,d2,x1,x2,x3,x4,x5,x6,x7⟩:=q2;refine ⟨ob2,d2,x1,x2,x3,x4,x5,λj hj=>?_,x7⟩;rcases Aax hj with hj | hj
      ·exact x6 j hj
      ·exact hds u i o ops[i] hu1 hup hu2 ho hoi q1 hk (one _ _ hj)
     ·exact .inr q
    ·have ht:=Dg (st:=⟨st.t,st.h++[b]⟩) (d:=some d) (VR.mono_go (λb hb=>⟨hb,rfl⟩) _ _ _ _ (hr.good.addK_sub _) hr.tmps) hV
     rw [hput] at ht;exact ⟨by rw [CZ]; exact hr.good.adopt b _ hB λx hx=>by rw [one (gof i) x hx]; exact ⟨hgS,hgo⟩,hr.env,ht,hr.defers⟩
    ·rw [CZ]
     exact hext.adopt b _ nf λx hx=>by rw [one (gof i) x hx]; exact hg0
    ·rw [EP]
     exact hag q oq dq hq hcq hoq hdq
   ·have hgu:=(D8 hk).1
    have h1:((step τ Γ ops[i] st).bind λr=>T.leaf (put r.2 ops[i].dst r.1)).sem=some st1:=by
     unfold Ja KU at h1;rw [hgu] at h1;exact h1
    obtain ⟨r,h5,h6⟩:=Ad h1;have h6:=Aa h6;obtain ⟨d,hd',run⟩:=hpe;obtain ⟨v,c,e1,run',hV⟩:=Sq (P:=P) hr.env hr.tmps hk h5;have hslot:a.tmps.getD d undef=c:=by
     have:=(run w).symm.trans (run' w);simpa using this
    subst e1;subst h6;rw [hd'] at h3 h4;have hput:=hput0 d _ hslot;refine ih l _ (ups.filter λu=>!Nat.beq u i) gof fuel listed _ κ S a w (by omega) hin' hc3 hsz hf hcl hlo (λu hu=>?_) (λu v ou ov hu hv=>hds u v ou ov (hups u hu).1 (hups v hv).1) (hmemi (st1:=st)) hG ?_ ?_ (λq oq dq hq hcq hoq hdq=>?_) h4
    ·obtain ⟨hu1,hu2⟩:=hups u hu
     obtain ⟨p1,p2,p3⟩:=hp u hu1;rw [CZ];exact ⟨p1,(List.mem_cons.1 p2).resolve_left hu2,p3⟩
    ·have ht:=Dg (st:=st) (d:=some d) hr.tmps hV
     rw [hput] at ht;exact ⟨by rw [CZ]; exact hr.good,hr.env,ht,hr.defers⟩
    ·rw [CZ]
     exact hext
    ·rw [EP]
     exact hag q oq dq hq hcq hoq hdq
  have hlkOf:∀ j,j ∈ i::l->¬ (j ∈ ups)->listed.getD j false=false:=λj hj hjp=>by
   cases hq:listed.getD j false with
   | false=>rfl
   | true =>have hjs:=(L.inn j (hin j hj)).2.1;exact (((hl j hjs).1 hq).elim (λhc=>hc hj) hjp).elim
  have hlk:listed.getD i false=false:=hlkOf i (by simp) hup;have hlis:i<listed.size:=by omega
  have hT:∀ j,j<ops.size->listed.getD j false=false->listed.getD j true=false:=λj hj hjf=>by
   have:j<listed.size:=by omega
   simp [Array.getD,this] at hjf ⊢;exact hjf
  have kready:i ∈ Region.ready .any ops listed:=by
   refine mem_ready.2 ⟨hT i his hlk,ops[i],hoi,λe he hb=>?_⟩;have hlt:=hedges i ops[i] hol e he hb;have hbit:=JC hol he hb;rw [<- Bg] at hbit;refine (hl e.on (by omega)).2 (.inl λhc=>?_);rw [hc2 e.on hc] at hbit;cases hbit
  have gset:∀ j q,j<ops.size->((listed.setIfInBounds j true).getD q false=true↔(q=j ∨ listed.getD q false=true)):=λj q hj=>by
   rw [BJ];by_cases hqi:q=j
   ·rw [if_pos ⟨hqi,by omega⟩]
    simp [hqi]
   ·rw [if_neg (λhc=>hqi hc.1)]
    simp [hqi]
  have closed1:∀ j oj,ops[j]? = some oj->(∀ e ∈ oj.after,Region.binds .any e=true->listed.getD e.on false=true)->EU ops.toList (λq=>(listed.setIfInBounds j true).getD q false=true):=by
   intro j oj hoj hed q oq hq hX e he hb;have hjs:=(Array.getElem?_eq_some_iff.1 hoj).1;refine (gset j e.on hjs).2 (.inr ?_);rcases (gset j q hjs).1 hX with rfl | hX
   ·have hq:ops[q]? = some oq:=by simpa using hq
    rw [hoj] at hq;cases hq;exact hed e he hb
   ·exact hcl q oq hq hX e he hb
  have leave:∀ j oj (c:Value),ops[j]? = some oj->m <= j->j ∉ lts->listed.getD j false=false->∀ q oq d,q ∈ lts->Fw ops m lts (listed.setIfInBounds j true) q->ops[q]? = some oq->oq.dst=some d ->
    execOp (a.put oj.dst c).eval oq=execOp af.eval oq∧(a.put oj.dst c).tmps.getD d undef=af.tmps.getD d undef∧d<st.t.length:=by
   intro j oj c hoj hmj hjl hjf q oq d hq hcq hoq hdq;have hjs:=(Array.getElem?_eq_some_iff.1 hoj).1;have hbit:=hcq j hmj hjs hjl ((gset j j hjs).2 (.inl rfl));obtain ⟨e1,e2,e3⟩:=hag q oq d hq hcq.less hoq hdq;have hne:j ≠ q:=λhc=>hjl (by rw [hc]; exact hq);have hqs:=(Array.getElem?_eq_some_iff.1 hoq).1;have hqd:listed.getD q false=true:=(hl q hqs).2 (.inl λhc=>(L.inn q (hin q hc)).2.2.1 hq);have hap:∀ d,oj.dst=some d->d ∉ oq.looksAt ops:=by
    rcases L.apart q oq j oj hq hoq (.inl hmj) hne hoj with hb | hb
    ·exfalso
     rw [Bg] at hb;have:=BV hcl (q+1) q j oq (by omega) (by simpa using hoq) (λe he hb=>hcl q oq (by simpa using hoq) hqd e he hb) hb;rw [hjf] at this;cases this
    ·exact λd hd=>(hb.2 d hd).resolve_right λhc=>by rw [hc.2] at hbit; cases hbit
   refine ⟨?_,?_,e3⟩
   ·rw [execOp_put (ops:=ops) oq (λcs b=>L.sel q oq cs b hoq) a _ c hap]
    exact e1
   ·have hsz2:a.tmps.size=st.t.length:=by have:=hr.tmps.length; simpa using this
    rw [Fc a _ c d (Nat.lt_of_lt_of_le e3 (Nat.le_of_eq hsz2.symm)),if_neg (λhc=>hne (honce j q oj oq d (by simpa using hoj) (by simpa using hoq) hc hdq))];exact e2
  have hls:=D3 his hsz (hT i his hlk);obtain ⟨fuel',rfl⟩:∃ f,fuel=f+1:=⟨left ops.size (listed.setIfInBounds i true),by omega⟩;refine ⟨λhready=>absurd kready (by rw [hready]; simp),λr hrr=>?_⟩;obtain ⟨hr0,orr,hor,hafter⟩:=mem_ready.1 hrr;have hrs:r<ops.size:=(Array.getElem?_eq_some_iff.1 hor).1;have hrF:listed.getD r false=false:=by
   have:r<listed.size:=by omega
   simp [Array.getD,this] at hr0 ⊢;exact hr0
  have hrn:¬ (r ∉ i::l ∨ r ∈ ups):=λhc=>by rw [(hl r hrs).2 hc] at hrF; cases hrF
  have hrm:r ∈ i::l:=Classical.not_not.1 λhc=>hrn (.inl hc);by_cases hri:r=i
  ·-- the next one
   subst hri;have hap:=leave r ops[r];have gsetI:(listed.setIfInBounds r true).getD r false=true:=(gset r r his).2 (.inl rfl);have hl':∀ q,q<ops.size->((listed.setIfInBounds r true).getD q false=true↔(q ∉ l ∨ q ∈ ups)):=λq hq=>by
    rw [gset r q his,hl q hq,List.mem_cons];constructor
    ·rintro (rfl | hc | hc)
     ·exact .inl hnl
     ·exact .inl λh=>hc (.inr h)
     ·exact .inr hc
    ·rintro (hc | hc)
     ·by_cases hqr:q=r
      ·exact .inl hqr
      ·exact .inr (.inl λh=>h.elim hqr hc)
     ·exact .inr (.inr hc)
   have hfu:left ops.size (listed.setIfInBounds r true)=fuel':=by omega
   have hcl':=closed1 r ops[r] hoi λe he hb=>by
    rw [hoi] at hor;cases hor;have:=hafter e he hb;have hlt:=hedges r ops[r] hol e he hb;have hle:e.on<listed.size:=by omega
    simp [Array.getD,hle] at this ⊢;exact this
   have hql':∀ q,q ∈ lts->Fw ops m lts (listed.setIfInBounds r true) q->q ∈ Ct (Region.before ops) r ql:=λq hq hcq=>DC (hql q hq hcq.less) (hcq r hmi his hil gsetI);have pend:∀ (c:Value) (κ':Ai) (S':Nat->Prop) (h':List Blk) (w':World),Ext κ S st.h w κ' S' h' w'->∀ u,u ∈ ups->u ∈ ps∧u ∈ l∧∀ o,ops[u]? = some o->Rv P τ o κ' S' h' w0 w' (a.put ops[r].dst c) (gof u):=by
    intro c κ' S' h' w' he u hu;obtain ⟨p0,p1,p3⟩:=hp u hu;have hru:r ≠ u:=λhc=>hup (by rw [hc]; exact hu);have hul:u ∈ l:=(List.mem_cons.1 p1).resolve_left λhc=>hru hc.symm;have hbu:Nat.testBit ((Region.before ops).getD u 0) r=false:=by
     have hus:=(L.inn u (hin u p1)).2.1;cases hb:Nat.testBit ((Region.before ops).getD u 0) r with
     | false=>rfl
     | true =>
      have hou:ops[u]? = some ops[u]:=by simp [hus]
      have hull:listed.getD u false=true:=(hl u hus).2 (.inr hu);rw [Bg] at hb;have:=BV hcl (u+1) u r ops[u] (by omega) (by simp) (λe he hb=>hcl u ops[u] (by simp) hull e he hb) hb;rw [hlk] at this;cases this
    refine ⟨p0,hul,λo ho=>(p3 o ho).ext he ?_ λd hd=>?_⟩
    ·obtain ⟨o2,ho2,hk⟩:=L.float u p0
     rw [ho] at ho2;cases ho2;obtain ⟨hgu,_⟩:=Gp hk;refine execOp_put (ops:=ops) o (λcs b=>L.sel u o cs b ho) a _ c λd hd hlook=>?_;have hrd:=CY ops.toList 0 hdo u o (by simpa using ho);rw [Nat.zero_add,Bg] at hrd;obtain ⟨_,hlt,hgt⟩:=Du ops.toList 0 hrd r ops[r] d hol hd (J0 hgu hlook);rw [Nat.zero_add] at hlt hgt;rcases Nat.lt_or_gt_of_ne hru with hc | hc
     ·rw [Bg,hlt hc] at hbu
      cases hbu
     ·have:=hc2 u (List.mem_cons_of_mem _ hul)
      rw [Bg,hgt hc] at this;cases this
    ·cases hdr:ops[r].dst with
     | none=>rfl
     | some d' =>
      have hne:d' ≠ d:=λhc=>hru (honce r u ops[r] o d hol (by simpa using ho) (by rw [hdr,hc]) hd);rcases Nat.lt_or_ge d a.tmps.size with hz | hz
      ·rw [Fc a _ c d hz,if_neg (λhc=>hne (Option.some.inj hc))]
      ·simp [Act.put,Array.getD,Nat.not_lt.2 hz]
   unfold wpOp;rw [hoi];simp only;unfold Ja at h1;rcases GX hr.tmps h1 with ⟨hwant,hrun⟩ | ⟨hwant,hskip⟩
   ·rw [if_pos hwant]
    left;obtain ⟨⟨v,st2⟩,h5,h6⟩:=Ad hrun;have h6:=Aa h6;refine AaT (P:=P) hτ hΓ (af:=af) (vs:=Ct (Region.before ops) r vs) (C:=Fw ops m lts listed) hr hft hkt h5 (λq oq hq hcq hoq=>by obtain ⟨oq',dq,e1,_,e3,_⟩:=L.kind q (hvs q (EF hq)); rw [hoq] at e1; cases e1; exact (hag q oq dq (hvs q (EF hq)) hcq hoq e3).1) ?_;intro κ' S' c w' q1 q2 q3 q4 hfoot;have hr':Rel dl Γ κ' S' st1 (a.put ops[r].dst c) w':=by
     subst h6;exact ⟨by rw [CZ]; exact q1,hr.env.ext hr.good q4,Dg q2 q3,by rw [BA]; exact hr.defers⟩
    have hlen:st1.t.length=st.t.length:=by
     have g1:=hr'.tmps.length;have g2:=hr.tmps.length;rw [Array.length_toList,PE] at g1;rw [Array.length_toList] at g2;omega
    have hag2:∀ q oq d,q ∈ lts->Fw ops m lts (listed.setIfInBounds r true) q->ops[q]? = some oq->oq.dst=some d->execOp (a.put ops[r].dst c).eval oq=execOp af.eval oq∧(a.put ops[r].dst c).tmps.getD d undef=af.tmps.getD d undef∧d<st1.t.length:=by
     rw [hlen];exact hap c hoi hmi hil hlk
    have hG':GOf P ops m lts af (listed.setIfInBounds r true) w':=λq hq hcq=>by
     have hbit:=hcq r hmi his hil gsetI;rcases hcov q hq with hqv | hqp
     ·have hup:Fw ops m lts listed q:=Fw.less hcq
      exact hfoot q (DC hqv hbit) hup (hG q hq hup)
     ·exact RY hτ L (λq hq=>hpl q (EF hq)) hr' h3 hag2 q (DC hqp hbit) hcq
    have hst1:st1.h=st2.h:=by subst h6; exact CZ _ _ _
    refine ⟨hG',ih l _ ups gof fuel' _ st1 κ' S' _ w' (by omega) hin' hc3 (by simp [hsz]) hfu hcl' hl' (pend c κ' S' _ w' (by rw [hst1]; exact q4)) hds hql' hG' hr' (by rw [hst1]; exact hext.trans q4) hag2 h4⟩
   ·rw [if_neg (by rw [hwant]; simp)]
    have h6:=Aa hskip;have hst1:st1.h=st.h:=by subst h6; exact CZ _ _ _
    have hr':Rel dl Γ κ S st1 (a.put ops[r].dst undef) w:=by
     subst h6;exact ⟨by rw [CZ]; exact hr.good,hr.env,Dg hr.tmps rfl,by rw [BA]; exact hr.defers⟩
    have hag2:∀ q oq d,q ∈ lts->Fw ops m lts (listed.setIfInBounds r true) q->ops[q]? = some oq->oq.dst=some d->execOp (a.put ops[r].dst undef).eval oq=execOp af.eval oq∧(a.put ops[r].dst undef).tmps.getD d undef=af.tmps.getD d undef∧d<st1.t.length:=by
     subst h6;rw [EP];exact hap undef hoi hmi hil hlk
    have hG':GOf P ops m lts af (listed.setIfInBounds r true) w:=λq hq hcq=>hG q hq (Fw.less hcq);exact ⟨hG',ih l _ ups gof fuel' _ st1 κ S _ w (by omega) hin' hc3 (by simp [hsz]) hfu hcl' hl' (by rw [hst1]; exact pend undef κ S _ w (Ext.refl _ _ _ _)) hds hql' hG' hr' (by rw [hst1]; exact hext) hag2 h4⟩
  ·-- the one that comes up early
   have hrl:r ∈ l:=(List.mem_cons.1 hrm).resolve_left hri;have hafter':∀ e ∈ orr.after,Region.binds .any e=true->listed.getD e.on false=true:=λe he hb=>by
    have:=hafter e he hb;have hlt:=hedges r orr (by simpa using hor) e he hb;have hle:e.on<listed.size:=by omega
    simp [Array.getD,hle] at this ⊢;exact this
   have nobit:∀ j,j ∈ i::l->Nat.testBit ((Region.before ops).getD r 0) j=true->listed.getD j false=true:=λj _ hb=>by
    rw [Bg] at hb;exact BV hcl (r+1) r j orr (by omega) (by simpa using hor) hafter' hb
   have hrp:r ∈ ps:=(hc1 r hrl).resolve_right λhc=>by
    rw [nobit i (by simp) hc] at hlk;cases hlk
   have hru:r ∉ ups:=λhc=>hrn (.inr hc);have hbit:∀ j,j ∈ i::l->Nat.testBit ((Region.before ops).getD r 0) j=false:=λj hj=>by
    cases hb:Nat.testBit ((Region.before ops).getD r 0) j with
    | false=>rfl
    | true =>
     have h7:=nobit j hj hb;by_cases hju:j ∈ ups
     ·rw [L.indep r j hrp (hp j hju).1] at hb
      cases hb
     ·rw [hlkOf j hj hju] at h7
      cases h7
   have hfl:=Mj hfl r hrp hrm hbit;unfold XL at hfl;rw [hor] at hfl;simp only at hfl;split at hfl
   rotate_left
   ·cases hfl
   rename_i d hd';split at hfl
   rotate_left
   ·cases hfl
   rename_i hund;obtain ⟨⟨⟩,hsn,hfl⟩:=Ad hfl;obtain ⟨⟨⟩,hdl,hfl⟩:=Ad hfl;have hsn:=Im hsn;have hdl:d<st.t.length:=by simpa using Im hdl
   obtain ⟨rs,h5,_⟩:=Ad hfl;obtain ⟨o2,ho2,hk⟩:=L.float r hrp;rw [hor] at ho2;cases ho2;obtain ⟨hgu,_⟩:=Gp hk;have hmr:=(L.inn r (hin' r hrl));have hasz:a.tmps.size=st.t.length:=by have:=hr.tmps.length; simpa using this
   have hself:∀ c,execOp (a.put orr.dst c).eval orr=execOp a.eval orr:=λc=>by
    refine execOp_put (ops:=ops) orr (λcs b=>L.sel r orr cs b hor) a _ c λd2 hd2 hlook=>?_;have hrd:=CY ops.toList 0 hdo r orr (by simpa using hor);rw [Nat.zero_add,Bg] at hrd;exact (Du ops.toList 0 hrd r orr d2 (by simpa using hor) hd2 (J0 hgu hlook)).1 (by rw [Nat.zero_add])
   have pend:∀ (c:Value) (w':World),Ext κ S st.h w κ S st.h w'->∀ u,u ∈ ups->∀ o,ops[u]? = some o->Rv P τ o κ S st.h w0 w' (a.put orr.dst c) (gof u):=by
    intro c w' he u hu o ho;obtain ⟨p0,p1,p3⟩:=hp u hu;have hru':r ≠ u:=λhc=>hru (by rw [hc]; exact hu);refine (p3 o ho).ext he ?_ λd hd=>?_
    ·obtain ⟨o2,ho2,hk⟩:=L.float u p0
     rw [ho] at ho2;cases ho2;obtain ⟨hgu,_⟩:=Gp hk;refine execOp_put (ops:=ops) o (λcs b=>L.sel u o cs b ho) a _ c λd hd hlook=>?_;have hrd:=CY ops.toList 0 hdo u o (by simpa using ho);rw [Nat.zero_add,Bg] at hrd;obtain ⟨_,hlt,hgt⟩:=Du ops.toList 0 hrd r orr d (by simpa using hor) hd (J0 hgu hlook);rw [Nat.zero_add] at hlt hgt;rcases Nat.lt_or_gt_of_ne hru' with hc | hc
     ·have:=L.indep u r p0 hrp
      rw [Bg,hlt hc] at this;cases this
     ·have:=L.indep r u hrp p0
      rw [Bg,hgt hc] at this;cases this
    ·cases hdr:orr.dst with
     | none=>rfl
     | some d' =>
      have hne:d' ≠ d:=λhc=>hru' (honce r u orr o d (by simpa using hor) (by simpa using ho) (by rw [hdr,hc]) hd);rcases Nat.lt_or_ge d a.tmps.size with hz | hz
      ·rw [Fc a _ c d hz,if_neg (λhc=>hne (Option.some.inj hc))]
      ·simp [Act.put,Array.getD,Nat.not_lt.2 hz]
   have hl2:∀ q,q<ops.size->((listed.setIfInBounds r true).getD q false=true↔(q ∉ i::l ∨ q ∈ r::ups)):=λq hq=>by
    rw [gset r q hrs,hl q hq,List.mem_cons (a:=q) (b:=r)];constructor
    ·rintro (hc | hc | hc)
     ·exact .inr (.inl hc)
     ·exact .inl hc
     ·exact .inr (.inr hc)
    ·rintro (hc | hc | hc)
     ·exact .inr (.inl hc)
     ·exact .inl hc
     ·exact .inr (.inr hc)
   have htm:∀ (w':World) (c:Value),(∀ b,S b->S b∧w'.heap[b]? = w.heap[b]?)->VRs S w' st.t κ (a.put orr.dst c).tmps.toList:=λw' c hpers=>by
    refine C3 _ _ (by rw [Array.length_toList,PE,hasz]) λt ht=>?_;rw [B5,Fc a _ _ t (by omega)];by_cases htd:orr.dst=some t
    ·have:d=t:=by rw [hd'] at htd; exact Option.some.inj htd
     subst this;rw [hund];trivial
    ·rw [if_neg htd]
     have:=(VR.mono_go hpers _ _ _ _ (λ_ _ h=>h) hr.tmps).nth t undef;rwa [B5] at this
   unfold wpOp;rw [hor];simp only;rw [if_pos (by unfold Region.wanted; rw [hgu])];left;unfold Oper.wp;cases hmk:Eb τ orr with
   | true =>
    obtain ⟨v,b,ob,_,run,_⟩:=TO (P:=P) hτ hr.env hr.tmps hmk h5;have hwa:=B7 w ob;have hex:Ext κ S st.h w κ S st.h (w.alloc ob):=Ext.grow hwa (by simp) rfl rfl rfl;have hpers:∀ b,S b->S b∧(w.alloc ob).heap[b]? = w.heap[b]?:=λb hb=>⟨hb,hwa b (hr.good.out b hb).1⟩;have hnp:Fe orr=false:=by
     cases hpk:Fe orr with
     | false=>rfl
     | true =>
      obtain ⟨_,_,x,i,ho⟩:=D8 hpk;unfold Eb at hmk;split at hmk
      ·simp only [ho] at hmk
       cases hmk
      ·cases hmk
    rw [hnp] at hsn;have hsn:=List.all_eq_true.1 hsn;rw [run];have hag2:=leave r orr (Fg orr w.heap.size) hor hmr.1 hmr.2.2.1 hrF;have hG':GOf P ops m lts af (listed.setIfInBounds r true) (w.alloc ob):=λq hq hcq=>by
     have hm:Fw ops m lts listed q:=Fw.less hcq;obtain ⟨oq,dq,e1,_,e3,_⟩:=L.kind q hq;exact Lv (hG q hq hm) (λoq' hoq=>by rw [e1] at hoq; cases hoq; exact (hag q oq dq hq hm e1 e3).1) (JR (P:=P) hτ hr (hsn q (hql q hq hm)) (λb hb _=>Kk hb) λb _ _ _ _ _ _ _ hb _=>Kk hb)
    have hge:∀ u ou,u ∈ ups->ops[u]? = some ou->Eb τ ou=true->gof u<w.heap.size:=λu ou hu ho hmu=>by
     rcases (hp u hu).2.2 ou ho with ⟨_,ob2,d2,_,_,x3,_⟩ | ⟨hpk,_⟩
     ·exact (Array.getElem?_eq_some_iff.1 x3).1
     ·obtain ⟨_,_,x,i,ho⟩:=D8 hpk
      unfold Eb at hmu;split at hmu
      ·simp only [ho] at hmu
       cases hmu
      ·cases hmu
    refine ⟨hG',ih (i::l) ql (r::ups) (λv=>if v=r then w.heap.size else gof v) fuel' _ st κ S _ (w.alloc ob) (by have:=D3 hrs hsz hr0; omega) hin hch (by simp [hsz]) (by have:=D3 hrs hsz hr0; omega) (closed1 r orr hor hafter') hl2 (λu hu=>?_) (λu v ou ov hu hv hne ho1 ho2 hm1 hm2=>?_) (λq hq hcq=>hql q hq (Fw.less hcq)) hG' ⟨hr.good.grow hwa (by simp),hr.env.ext hr.good hex,htm _ _ hpers,by rw [BA]; exact hr.defers⟩ (hext.trans hex) hag2 hrun⟩
    ·rcases List.mem_cons.1 hu with rfl | hu
     ·refine ⟨hrp,hrm,λo ho=>.inl ?_⟩
      rw [hor] at ho;cases ho;refine ⟨hmk,ob,d,hd',λu=>by rw [hself]; exact run u,?_,?_,λhS=>?_,λj hj=>?_,?_⟩
      ·show (w.alloc ob).heap[if u=u then w.heap.size else gof u]? = some ob
       rw [if_pos rfl];exact heap_alloc_new w ob
      ·show _ <= (if u=u then w.heap.size else gof u)
       rw [if_pos rfl];exact hext.size
      ·have hS:S (if u=u then w.heap.size else gof u):=hS
       rw [if_pos rfl] at hS;exact absurd (hr.good.out _ hS).1 (Nat.lt_irrefl _)
      ·have hj:A3 κ st.h j (if u=u then w.heap.size else gof u):=hj
       rw [if_pos rfl] at hj;exact absurd (hr.good.lt hj) (Nat.lt_irrefl _)
      ·show _=Fg orr (if u=u then w.heap.size else gof u)
       rw [if_pos rfl,Fc a _ _ d (Nat.lt_of_lt_of_le hdl (Nat.le_of_eq hasz.symm)),if_pos hd']
     ·have hne:u ≠ r:=λhc=>hru (by rw [<- hc]; exact hu)
      refine ⟨(hp u hu).1,(hp u hu).2.1,λo ho=>?_⟩;show Rv P τ o κ S st.h w0 _ _ (if u=r then w.heap.size else gof u)
      rw [if_neg hne];exact pend _ _ hex u hu o ho
    ·have key:∀ {x:Nat} {ox:Oper},x ∈ r::ups->x ≠ r->x ∈ ups:=fun {x ox} hx hne=>(List.mem_cons.1 hx).resolve_left hne
     show (if u=r then w.heap.size else gof u) ≠ (if v=r then w.heap.size else gof v)
     by_cases e1:u=r
     ·have e2:v ≠ r:=λe=>hne (by rw [e1,e])
      have:=hge v ov (key (ox:=ov) hv e2) ho2 hm2;rw [if_pos e1,if_neg e2];omega
     ·by_cases e2:v=r
      ·have:=hge u ou (key (ox:=ou) hu e1) ho1 hm1
       rw [if_neg e1,if_pos e2];omega
      ·rw [if_neg e1,if_neg e2]
       exact hds u v ou ov (key (ox:=ou) hu e1) (key (ox:=ov) hv e2) hne ho1 ho2 hm1 hm2
   | false =>
    have hpk:Fe orr=true:=by
     unfold GB at hk;rw [hmk] at hk;exact hk
    obtain ⟨v,c,_,run,_⟩:=Sq (P:=P) hr.env hr.tmps hpk h5;rw [run];have hag2:=leave r orr c hor hmr.1 hmr.2.2.1 hrF;have hG':GOf P ops m lts af (listed.setIfInBounds r true) w:=λq hq hcq=>hG q hq (Fw.less hcq);refine ⟨hG',ih (i::l) ql (r::ups) gof fuel' _ st κ S _ w (by have:=D3 hrs hsz hr0; omega) hin hch (by simp [hsz]) (by have:=D3 hrs hsz hr0; omega) (closed1 r orr hor hafter') hl2 (λu hu=>?_) (λu v ou ov hu hv hne ho1 ho2 hm1 hm2=>?_) (λq hq hcq=>hql q hq (Fw.less hcq)) hG' ⟨hr.good,hr.env,htm _ _ λb hb=>⟨hb,rfl⟩,by rw [BA]; exact hr.defers⟩ hext hag2 hrun⟩
    ·rcases List.mem_cons.1 hu with rfl | hu
     ·refine ⟨hrp,hrm,λo ho=>.inr ?_⟩
      rw [hor] at ho;cases ho;refine ⟨hpk,d,hd',λu=>?_⟩;rw [hself,Fc a _ _ d (Nat.lt_of_lt_of_le hdl (Nat.le_of_eq hasz.symm)),if_pos hd'];exact run u
     ·exact ⟨(hp u hu).1,(hp u hu).2.1,λo ho=>pend _ _ (Ext.refl _ _ _ _) u hu o ho⟩
    ·have hne1:∀ {x:Nat} {ox:Oper},ops[x]? = some ox->Eb τ ox=true->x ≠ r:=fun {x ox} hox hmx e=>by
      subst e;rw [hor] at hox;cases hox;rw [hmk] at hmx;cases hmx
     exact hds u v ou ov ((List.mem_cons.1 hu).resolve_left (hne1 ho1 hm1)) ((List.mem_cons.1 hv).resolve_left (hne1 ho2 hm2)) hne ho1 ho2 hm1 hm2
include hτ in
theorem Uq {m:Nat} {lts ls fs ord:List Nat} (L:LateR τ ops m lts ls fs ord) (hd:Ej ops=true) {κ0:Ai} {S0:Nat->Prop} {w0:World} {st:St} {vals:Nat->V} {κ:Ai} {S:Nat->Prop} {w:World}
  (hv:∀ q o,q ∈ lts->ops[q]? = some o->∃ stq,Jh ops (λi=>i<m ∨ i ∈ lts) vals st q stq∧(CV τ Γ ops o stq).sem=some (vals q))
  (hQ:∀ c a w,¬ Q (.panic c) a w) (hd':∀ q oq d,q ∈ lts->ops[q]? = some oq->oq.dst=some d->d<st.t.length) :
  ∀ (ps pre:List Nat) (listed:Array Bool) (a:Act),lts=pre++ps->(∀ x ∈ pre,∀ y ∈ ps,x<y)->FC 0 ps=true->listed.size=ops.size->(∀ i,i<ops.size->listed.getD i false=true->i<m ∨ i ∈ lts)->(∀ i,i<m->i ∉ lts->listed.getD i false=true)->(∀ i,i ∈ pre->listed.getD i false=true)->EU ops.toList (λi=>listed.getD i false=true) ->
   Mid dl Γ κ0 S0 w0 st ops vals (λi=>listed.getD i false=true) κ S a w ->
   ∃ (LA:Array Bool) (af:Act),LA.size=ops.size∧(∀ i,i<ops.size->(LA.getD i false=true↔(i<m ∨ i ∈ lts)))∧Mid dl Γ κ0 S0 w0 st ops vals (λi=>LA.getD i false=true) κ S af w ∧
    (∀ q oq d,q ∈ lts->ops[q]? = some oq->oq.dst=some d->listed.getD q false=true->execOp af.eval oq=execOp a.eval oq∧af.tmps.getD d undef=a.tmps.getD d undef) ∧
    (∀ q,q ∈ ps->listed.getD q false=false->SwQ P ops af q w) ∧
    ((∀ q ∈ lts,SwQ P ops af q w)->Ji P .any ops Q (GOf P ops m lts af) (left ops.size LA) LA af w->Ji P .any ops Q (GOf P ops m lts af) (left ops.size listed) listed a w)
 | [],pre,listed,a,hl,_,_,hsz,hA,hm1,hp,_,hm=>by
  rw [List.append_nil] at hl;subst hl;refine ⟨listed,a,hsz,λi hi=>⟨hA i hi,λh=>?_⟩,hm,λ_ _ _ _ _ _ _=>⟨rfl,rfl⟩,(λ_ hq=>absurd hq (by simp)),λ_ h=>h⟩;rcases Classical.em (i ∈ lts) with hin | hin
  ·exact hp i hin
  ·exact hm1 i (h.resolve_right hin) hin
 | q::ps,pre,listed,a,hl,hlt,hri,hsz,hA,hm1,hp,hcl,hm=>by
  simp only [FC] at hri;split at hri
  rotate_left
  ·cases hri
  have hge:=P4 hri;have hri':FC 0 ps=true:=by
   cases ps with
   | nil=>rfl
   | cons p ps =>
    simp only [FC] at hri ⊢;split at hri
    ·rename_i h2 _ h1
     have h1:=Nat.le_of_ble_eq_true h1;have h2:=Nat.le_of_ble_eq_true h2;rw [Nat.ble_eq_true_of_le (show 0 <= p by omega)];exact hri
    ·cases hri
  have hql:q ∈ lts:=by rw [hl]; simp
  have hl2:lts=(pre++[q])++ps:=by rw [hl]; simp
  have hlt2:∀ x ∈ pre++[q],∀ y ∈ ps,x<y:=by
   intro x hx y hy;rcases List.mem_append.1 hx with hx | hx
   ·exact hlt x hx y (by simp [hy])
   ·have:=hge y hy
    simp at hx;omega
  cases hq:listed.getD q false with
  | true =>
   obtain ⟨LA,af,z1,z2,z3,z4,z6,z5⟩:=Uq L hd hv hQ hd' ps (pre++[q]) listed a hl2 hlt2 hri' hsz hA hm1 (λi hi=>by
    rcases List.mem_append.1 hi with hi | hi
    ·exact hp i hi
    ·simp at hi
     rw [hi];exact hq) hcl hm
   refine ⟨LA,af,z1,z2,z3,z4,λq' hq' hl'=>?_,z5⟩;rcases List.mem_cons.1 hq' with rfl | hq'
   ·rw [hq] at hl'
    cases hl'
   ·exact z6 q' hq' hl'
  | false =>
   obtain ⟨oq,d,ho,hk,hdq,hnl⟩:=L.kind q hql;have hqs:q<ops.size:=(Array.getElem?_eq_some_iff.1 ho).1;have hqs':q<listed.size:=by omega
   have hdo:=hd;unfold Ej at hdo;split at hdo
   rotate_left
   ·cases hdo
   rename_i hback honce;have honce:=Hp honce;have hedges:=λi o hi=>C0 ops.toList 0 hback i o hi;have hbefore:∀ i oi,i ∈ lts->i <= q->ops[i]? = some oi->∀ e ∈ oi.after,Region.binds .any e=true->listed.getD e.on false=true:=by
    intro i oi hi hiq hoi e he hb;have hil:ops.toList[i]? = some oi:=by simpa using hoi
    have h1:=hedges i oi hil e he hb;rw [Nat.zero_add] at h1;have hbit:=JC hil he hb;rw [<- Bg] at hbit;rcases Classical.em (e.on ∈ lts) with h5 | h5
    ·rw [hl] at h5
     rcases List.mem_append.1 h5 with h5 | h5
     ·exact hp _ h5
     ·rcases List.mem_cons.1 h5 with h5 | h5
      ·omega
      ·have:=hge _ h5
       omega
    ·refine hm1 _ ?_ h5
     rcases Nat.lt_or_ge i m with hmi | hmi
     ·omega
     ·exact (L.wait i hi hmi e.on h1 hbit).resolve_right h5
   have hXA:∀ k,listed.getD k false=true->k<m ∨ k ∈ lts:=λk hk=>by
    rcases Nat.lt_or_ge k listed.size with hc | hc
    ·exact hA k (by omega) hk
    ·simp [Array.getElem?_eq_none hc] at hk
   obtain ⟨stq,hst,hqv⟩:=hv q oq hql ho;have hmask:=hm.slot hd hcl hXA ho (by rw [hq]; simp) (hbefore q oq hql (Nat.le_refl _) ho) hst;obtain ⟨c,g1,g2⟩:=Ql (P:=P) (st:=st) hτ hm.good hm.env hst.1 hmask hk hqv ho;have hX':∀ k,(listed.setIfInBounds q true).getD k false=true↔(k=q ∨ listed.getD k false=true):=by
    intro k;rw [BJ];by_cases hkq:k=q
    ·rw [if_pos ⟨hkq,hqs'⟩]
     simp [hkq]
    ·rw [if_neg (λhc=>hkq hc.1)]
     simp [hkq]
   have hm1':=hm.step honce ho (by rw [hq]; simp) hX' hm.good g2 (Ext.refl _ _ _ _) (λ_ _ h=>h);have hcl':EU ops.toList (λi=>(listed.setIfInBounds q true).getD i false=true):=by
    intro k ok hk hXk e he hb;have hXk:=(hX' k).1 hXk;refine (hX' _).2 (.inr ?_);rcases hXk with rfl | hXk
    ·have hk:ops[k]? = some ok:=by simpa using hk
     rw [ho] at hk;simp only [Option.some.injEq] at hk;subst hk;exact hbefore k oq hql (Nat.le_refl _) ho e he hb
    ·exact hcl k ok hk hXk e he hb
   obtain ⟨LA,af,z1,z2,z3,z4,z6,z5⟩:=Uq L hd hv hQ hd' ps (pre++[q]) (listed.setIfInBounds q true) (a.put oq.dst c) hl2 hlt2 hri' (by simp [hsz])
    (λi hi h=>((hX' i).1 h).elim (λe=>by rw [e]; exact .inr hql) (hA i hi)) (λi hi hil=>(hX' i).2 (.inr (hm1 i hi hil)))
    (λi hi=>(hX' i).2 (by
     rcases List.mem_append.1 hi with hi | hi
     ·exact .inr (hp i hi)
     ·simp at hi
      exact .inl hi)) hcl' hm1'
   have hno:∀ i oi,ops[i]? = some oi->listed.getD i false=true->Nat.testBit ((Region.before ops).getD i 0) q=true->False:=λi oi hi hli hb=>by
    rw [Bg] at hb;have:=BV hcl (i+1) i q oi (by omega) (by simpa using hi) (λe he hb=>hcl i oi (by simpa using hi) hli e he hb) hb;rw [hq] at this;cases this
   have hex:∀ q' oq',q' ∈ lts->ops[q']? = some oq'->(q'=q ∨ listed.getD q' false=true)->execOp (a.put oq.dst c).eval oq'=execOp a.eval oq':=λq' oq' hq' ho' hwh=>by
    refine execOp_put (ops:=ops) oq' (λcs b=>L.sel q' oq' cs b ho') a _ c λe he=>?_;by_cases hqq:q=q'
    ·subst hqq
     rw [ho] at ho';simp only [Option.some.injEq] at ho';subst ho';rw [hdq] at he;simp only [Option.some.injEq] at he;subst he;exact hnl
    ·rcases L.apart q' oq' q oq hq' ho' (.inr hql) hqq ho with hb | hb
     ·exact (hno q' oq' ho' (hwh.resolve_left (Ne.symm hqq)) hb).elim
     ·exact (hb.2 e he).resolve_right λhc=>hc.1 hql
   have hdl:=hd' q oq d hql ho hdq;refine ⟨LA,af,z1,z2,z3,λq' oq' e hq' ho' he hl'=>?_,λq' hq' hl'=>?_,λhSw H=>?_⟩
   ·obtain ⟨y1,y2⟩:=z4 q' oq' e hq' ho' he ((hX' q').2 (.inr hl'))
    refine ⟨y1.trans (hex q' oq' hq' ho' (.inr hl')),?_⟩;rw [y2,Fc a _ c e (by rw [hm.size]; exact hd' q' oq' e hq' ho' he),if_neg (λhc=>?_)];have:=honce q q' oq oq' e (by simpa using ho) (by simpa using ho') hc he;subst this;rw [hq] at hl';cases hl'
   ·by_cases hqq:q'=q
    ·subst hqq
     intro oq' e ho' he;rw [ho] at ho';simp only [Option.some.injEq] at ho';subst ho';rw [hdq] at he;simp only [Option.some.injEq] at he;subst he;obtain ⟨y1,y2⟩:=z4 q' oq d hql ho hdq ((hX' q').2 (.inl rfl));rw [y1,hex q' oq hql ho (.inl rfl),y2,Fc a _ c d (by rw [hm.size]; exact hdl),if_pos hdq];exact g1
    ·rcases List.mem_cons.1 hq' with hc | hq'
     ·exact absurd hc hqq
     ·refine z6 q' hq' ?_
      cases hc:(listed.setIfInBounds q true).getD q' false with
      | false=>rfl
      | true =>
       rcases (hX' q').1 hc with h5 | h5
       ·exact absurd h5 hqq
       ·rw [h5] at hl'
        cases hl'
   ·have H1:=z5 hSw H
    have hlT:listed.getD q true=false:=by
     simp [Array.getD,hqs'] at hq ⊢;exact hq
    have hready:q ∈ Region.ready .any ops listed:=mem_ready.2 ⟨hlT,oq,ho,hbefore q oq hql (Nat.le_refl _) ho⟩;have hlink:∀ (l:Array Bool) (w':World),(EU ops.toList (λi=>l.getD i false=true)∧l.getD q false=false)->GOf P ops m lts af l w'->SwQ P ops af q w':=by
     intro l w' hc hG;refine hG q hql λc h1 h2 h3 h4=>?_;cases hb:Nat.testBit ((Region.before ops).getD c 0) q with
     | false=>rfl
     | true =>
      exfalso
      rw [Bg] at hb;have hcs:ops.toList[c]? = some ops[c]:=by simp [h2]
      have:=BV hc.1 (c+1) c q ops[c] (by omega) hcs (λe he hb=>hc.1 c _ hcs h4 e he hb) hb;rw [hc.2] at this;cases this
    rw [<- D3 hqs hsz hlT];refine To (S:=SwQ P ops af q) (C:=λl=>EU ops.toList (λi=>l.getD i false=true)∧l.getD q false=false) ho (λj o cs b=>L.sel j o cs b) (λc a w h=>(hQ c _ w h).elim)
     (λl j hc hj hjq=>⟨?_,?_⟩) hlink (λl w' h=>h.less hql) _ listed a w ⟨hcl,hq⟩ (λj oj hj hne hun hnoe=>?_) hready ?_ (hSw q hql) (λq' hq' _=>hSw q' hq') H1
    ·obtain ⟨_,oj,hoj,hall⟩:=mem_ready.1 hj
     intro k ok hk hXk e he hb;have hXk:(l.setIfInBounds j true).getD k false=true:=hXk;rw [BJ] at hXk;have hon:l.getD e.on false=true:=by
      split at hXk
      ·rename_i hkj
       rw [hkj.1] at hk;have hk:ops[j]? = some ok:=by simpa using hk
       rw [hoj] at hk;simp only [Option.some.injEq] at hk;subst hk;exact hall e he hb
      ·exact hc.1 k ok hk hXk e he hb
     show (l.setIfInBounds j true).getD e.on false=true;rw [BJ];split
     ·rfl
     ·exact hon
    ·rw [BJ,if_neg (λhh=>hjq hh.1.symm)]
     exact hc.2
    ·have hjl:j<listed.size:=by
      rw [hsz];exact (Array.getElem?_eq_some_iff.1 hj).1
     have hjf:listed.getD j false=false:=by
      simp [Array.getD,hjl] at hun ⊢;exact hun
     have hj':m <= j ∨ j ∈ lts:=by
      rcases Nat.lt_or_ge j m with hc | hc
      ·refine .inr ?_
       rcases Classical.em (j ∈ lts) with h5 | h5
       ·exact h5
       ·rw [hm1 j hc h5] at hjf
        cases hjf
      ·exact .inl hc
     rcases L.apart q oq j oj hql ho hj' hne hj with hb | hb
     ·exfalso
      rw [Bg] at hb;have:=BV hcl (q+1) q j oq (by omega) (by simpa using ho) (hbefore q oq hql (Nat.le_refl _) ho) hb;rw [hjf] at this;cases this
     ·exact hb.1 hnoe
    ·refine .inl ⟨by simp [Region.wanted,(H8 hk).1],λw' hw'=>?_⟩
     have h1:=hw' oq d ho hdq;obtain ⟨y1,y2⟩:=z4 q oq d hql ho hdq ((hX' q).2 (.inl rfl));rw [y1,hex q oq hql ho (.inl rfl),y2,Fc a _ c d (by rw [hm.size]; exact hdl),if_pos hdq] at h1;exact h1
include hτ in
theorem AdC (hΓ:Bb P Γ) {κ0:Ai} {S0:Nat->Prop} {w0:World} {st st2 st':St} {vals:Nat->V} (hd:Ej ops=true) {m:Nat} {lts ls ps ord:List Nat} (L:LateR τ ops m lts ls ps ord)
  (hQ:∀ c a w,¬ Q (.panic c) a w)
  (hv:∀ k o,(k<m ∨ k ∈ lts)->ops[k]? = some o->∃ stk,Jh ops (λi=>i<m ∨ i ∈ lts) vals st k stk∧(CV τ Γ ops o stk).sem=some (vals k))
  (hst2:Jh ops (λi=>i<m ∨ i ∈ lts) vals st ops.size st2) {vs pl:List Nat} (hpl:∀ q,q ∈ pl->q ∈ lts) (hvs:∀ q,q ∈ vs->q ∈ lts) (hcov:∀ q,q ∈ lts->q ∈ vs ∨ q ∈ pl) (hvm:vs ≠ []->∀ i,i<m->i ∈ lts) (hs2:(Ix τ Γ ops pl st2).sem=some ())
  (hd':∀ q oq d,q ∈ lts->ops[q]? = some oq->oq.dst=some d->d<st.t.length)
  (hrest:(Js τ Γ ops (Region.before ops) pl vs ps lts ord (IR ops ps st2)).sem=some st')
  (hw:Way dl Γ κ0 S0 st.h w0 st' (λa' w'=>Q .normal a' w')) :
  ∀ (fuel:Nat) (listed:Array Bool) (κ:Ai) (S:Nat->Prop) (a:Act) (w:World),listed.size=ops.size->left ops.size listed=fuel->(∀ k,k<ops.size->listed.getD k false=true->k<m ∨ k ∈ lts)->(vs ≠ []->∀ k,listed.getD k false=false) ->
   EU ops.toList (λi=>listed.getD i false=true)->Mid dl Γ κ0 S0 w0 st ops vals (λi=>listed.getD i false=true) κ S a w->wpAny P .any ops Q fuel listed a w:=by
 have hdo:=hd;unfold Ej at hdo;split at hdo
 rotate_left
 ·cases hdo
 rename_i hback honce;have honce:=Hp honce;have hedges:=λi o hi=>C0 ops.toList 0 hback i o hi;have fin:∀ (fuel:Nat) (listed:Array Bool) (κ:Ai) (S:Nat->Prop) (a:Act) (w:World),listed.size=ops.size->left ops.size listed=fuel->(∀ k,k<ops.size->listed.getD k false=true->k<m ∨ k ∈ lts)->(vs ≠ []->∀ k,listed.getD k false=false) ->
   EU ops.toList (λi=>listed.getD i false=true)->(∀ i,i<m->i ∉ lts->listed.getD i false=true)->Mid dl Γ κ0 S0 w0 st ops vals (λi=>listed.getD i false=true) κ S a w->wpAny P .any ops Q fuel listed a w:=by
  intro fuel listed κ S a w hsz hleft hA hvl hcl hall hm;subst hleft;obtain ⟨LA,af,z1,z2,z3,z4,z6,z5⟩:=Uq (P:=P) (Q:=Q) hτ L hd (λq o hq ho=>hv q o (.inr hq) ho) hQ hd' lts [] listed a rfl (by simp) L.rises hsz hA hall (by simp) hcl hm;refine OZ _ _ _ _ (z5 ?_ ?_)
  all_goals
   have hr:Rel dl Γ κ S st2 af w:=by
    obtain ⟨e1,e2,e3,e4⟩:=hst2;refine ⟨by rw [e1]; exact z3.good,z3.env,?_,z3.defers⟩;refine C3 _ _ (by rw [Array.length_toList,z3.size,e2]) λt ht=>?_;rw [e2] at ht;rw [B5];by_cases hex:∃ (j:Nat) (o:Oper),(j<m ∨ j ∈ lts)∧ops[j]? = some o∧o.dst=some t
    ·obtain ⟨j,o,hjA,hj,hdst⟩:=hex
     have hjs:=(Array.getElem?_eq_some_iff.1 hj).1;rw [e3 j o t hj hdst ht hjA hjs];exact z3.wrote j o t hj hdst ht ((z2 j hjs).2 hjA)
    ·rw [e4 t λj o hj hjA _ hdst=>hex ⟨j,o,hjA,hj,hdst⟩]
     exact z3.stays t ht λj o hj hX hdst=>hex ⟨j,o,(z2 j (Array.getElem?_eq_some_iff.1 hj).1).1 hX,hj,hdst⟩
   have hag:∀ q oq d,q ∈ lts->ops[q]? = some oq->oq.dst=some d->execOp af.eval oq=execOp af.eval oq∧af.tmps.getD d undef=af.tmps.getD d undef∧d<st2.t.length :=
    λq oq d hq ho hdq=>⟨rfl,rfl,by rw [hst2.2.1]; exact hd' q oq d hq ho hdq⟩
  all_goals
   have hsw:∀ q ∈ lts,SwQ P ops af q w:=λq hq=>by
    rcases hcov q hq with hqv | hqp
    ·exact z6 q hq (hvl (λhc=>by rw [hc] at hqv; cases hqv) q)
    ·exact RY hτ L hpl hr hs2 (C:=λ_=>True) (λq oq d hq _=>hag q oq d hq) q hqp trivial
  ·exact hsw
  ·have hcP:=Om (ops:=ops) ps hr
   obtain ⟨r1,r2,r3⟩:=hcP;have z7:EU ops.toList (λi=>LA.getD i false=true):=λq oq hq hX e he hb=>by
    have hqs:q<ops.size:=by
     have:=(List.getElem?_eq_some_iff.1 hq).1;simpa using this
    have hlt:=hedges q oq hq e he hb;have hbit:=JC hq he hb;rw [<- Bg] at hbit;refine (z2 e.on (by omega)).2 ?_;rcases Nat.lt_or_ge q m with hc | hc
    ·exact .inl (by omega)
    ·exact L.wait q (((z2 q hqs).1 hX).resolve_left (by omega)) hc e.on (by omega) hbit
   refine Abi (P:=P) hτ hΓ L hpl hvs hcov hd hw _ ord lts [] (λ_=>0) _ LA (IR ops ps st2) κ S af w (Nat.le_refl _) (λ_ h=>h) L.chain z1 rfl z7 (λi hi=>?_) (λu hu=>by cases hu) (λu v _ _ hu=>by cases hu) (λq hq _=>hq) (λq hq _=>hsw q hq) r1 (by rw [r3,hst2.1]; exact z3.ext) (λq oq d hq _=>by rw [r2]; exact hag q oq d hq) hrest;rw [z2 i hi];constructor
   ·exact λhc=>.inl λhio=>by
     obtain ⟨y1,_,y2,_⟩:=L.inn i hio;exact hc.elim (λh=>by omega) y2
   ·rintro (hc | hc)
    ·rcases Nat.lt_or_ge i m with h | h
     ·exact .inl h
     ·exact .inr (Classical.not_not.1 λhn=>hc (L.mem i hi h hn))
    ·cases hc
 have allOf:∀ listed:Array Bool,listed.size=ops.size->Region.ready .any ops listed=[]->∀ i,i<ops.size->listed.getD i false=true:=by
  intro listed hsz hready i
  induction i using Nat.strongRecOn with
  | _ i ih =>
   intro hi;cases hl:listed.getD i false with
   | true=>rfl
   | false =>
    exfalso
    have hmem:i ∈ Region.ready .any ops listed:=by
     refine mem_ready.2 ⟨?_,ops[i],by simp [hi],λe he hb=>?_⟩
     ·have:i<listed.size:=by omega
      simp [Array.getD,this] at hl ⊢;exact hl
     ·have hlt:=hedges i ops[i] (by simp [hi]) e he hb
      exact ih e.on (by omega) (by omega)
    rw [hready] at hmem;cases hmem
 intro fuel
 induction fuel with
 | zero =>
  intro listed κ S a w hsz hleft hno hvl hcl hm;refine fin 0 listed κ S a w hsz hleft hno hvl hcl (λi hi _=>?_) hm;have hil:i<ops.size:=by have:=L.le; omega
  cases hl:listed.getD i true with
  | true =>
   have hil':i<listed.size:=by omega
   simp [Array.getD,hil'] at hl ⊢;exact hl
  | false =>
   exfalso
   have:=D3 hil hsz hl;omega
 | succ fuel ih =>
  intro listed κ S a w hsz hleft hno hvl hcl hm;by_cases hall:∀ i,i<m->i ∉ lts->listed.getD i false=true
  ·exact fin (fuel+1) listed κ S a w hsz hleft hno hvl hcl hall hm
  have hv0:vs=[]:=by
   cases hv0:vs with
   | nil=>rfl
   | cons v0 vs0=>exact absurd (λi hi hil=>absurd (hvm (by rw [hv0]; simp) i hi) hil) hall
  refine ⟨λhready=>absurd (λi hi _=>allOf listed hsz hready i (by have:=L.le; omega)) hall,λi hi=>?_⟩;obtain ⟨h0,o,ho,hafter⟩:=mem_ready.1 hi;have hil:i<ops.size:=(Array.getElem?_eq_some_iff.1 ho).1;have hiF:listed.getD i false=false:=by
   have:i<listed.size:=by omega
   simp [Array.getD,this] at h0 ⊢;exact h0
  have hol:ops.toList[i]? = some o:=by simpa using ho
  have hiA:i<m ∨ i ∈ lts:=by
   rcases Nat.lt_or_ge i m with hc | hc
   ·exact .inl hc
   ·right
    rcases Classical.em (i ∈ lts) with hin | hin
    ·exact hin
    ·exfalso
     refine hall λj hj hjl=>?_;have hb:=(L.inn i (L.mem i hil hc hin)).2.2.2 j hj hjl;rw [Bg] at hb;exact BV hcl (i+1) i j o (by omega) hol hafter hb
  have hXA:∀ k,listed.getD k false=true->k<m ∨ k ∈ lts:=λk hk=>by
   rcases Nat.lt_or_ge k listed.size with hc | hc
   ·exact hno k (by omega) hk
   ·simp [Array.getElem?_eq_none hc] at hk
  obtain ⟨sti,hsti,hq⟩:=hv i o hiA ho;have hmask:=hm.slot hd hcl hXA ho (by rw [hiF]; simp) hafter hsti;have hX':∀ k,(listed.setIfInBounds i true).getD k false=true↔(k=i ∨ listed.getD k false=true):=by
   intro k;rw [BJ];by_cases hk:k=i
   ·rw [if_pos ⟨hk,by omega⟩]
    simp [hk]
   ·rw [if_neg (λhc=>hk hc.1)]
    simp [hk]
  have next:∀ (κ':Ai) (S':Nat->Prop) (c:Value) (w':World),Good κ' S' st.h w'->VR S' w' (vals i) κ' c->Ext κ S st.h w κ' S' st.h w' ->
    (∀ id c,κ id=some c->κ' id=some c)->wpAny P .any ops Q fuel (listed.setIfInBounds i true) (a.put o.dst c) w':=by
   intro κ' S' c w' q1 q2 q3 q4;refine ih (listed.setIfInBounds i true) κ' S' _ w' (by simp [hsz]) (by have:=D3 hil hsz h0; omega) (λk hk hkl=>?_) ?_ ?_ (hm.step honce ho (by rw [hiF]; simp) hX' q1 q2 q3 q4)
   ·rcases (hX' k).1 hkl with rfl | h
    ·exact hiA
    ·exact hno k hk h
   ·exact λhc=>absurd hv0 hc
   ·intro k ok hk hXk e he hb
    refine (hX' _).2 (.inr ?_);rcases (hX' k).1 hXk with rfl | hXk
    ·rw [hol] at hk
     cases hk;exact hafter e he hb
    ·exact hcl k ok hk hXk e he hb
  unfold CV at hq;rw [hsti.1] at hq;unfold wpOp;rw [ho];simp only;rcases GX (st:=⟨C9 (Bq ops o) 0 sti.t,st.h⟩) hmask hq with ⟨hwant,hrun⟩ | ⟨hwant,hskip⟩
  ·rw [if_pos hwant]
   left;exact Pv (P:=P) (st:=⟨C9 (Bq ops o) 0 sti.t,st.h⟩) hτ hΓ hm.good hm.env hmask hrun next
  ·rw [if_neg (by rw [hwant]; simp)]
   have hvi:vals i=A5:=Aa hskip;exact next κ S undef w hm.good (by rw [hvi]; exact rfl) (Ext.refl _ _ _ _) (λ_ _ h=>h)
theorem Xf {v:V} (h:(P2 v .und).sem=some ()):False:=by
 cases v <;> first | (cases h; done) | skip
 rename_i c;cases c <;> cases h
theorem TN:∀ {l:List V} {t:Nat},l.length <= t->nth l t = .und
 | [],_,_=>rfl
 | _::l,0,h=>by simp at h
 | _::l,t+1,h=>TN (l:=l) (by simpa using h)
theorem Fh {m:Nat} {bf:Array Nat} {ls:List Nat} {st:St} {r:Ex×St} (h:(Kf τ ops m bf ls Γ st).sem=some r):∃ m' es' ls',(ER τ Γ ops m' es' ls' st).sem=some r:=by
 unfold Kf Qm Qn at h;split at h
 ·rename_i hL
  obtain ⟨st1,h1,h⟩:=Ad h;obtain ⟨st2,h2,h⟩:=Ad h;split at h
  ·refine ⟨m,Mv bf m ops.size ls 0 (ops.toList.take m),ls,?_⟩
   unfold ER Hr;rw [hL];show ((GO τ Γ ops (ops.toList.take m) st).bind _).sem=_;rw [CJ,h1];show ((JV τ Γ ops ls st1).bind _).sem=_;rw [CJ,h2];exact h
  ·exact ⟨_,_,_,h⟩
 ·cases h
theorem FO {m:Nat} {es ls:List Nat} {st:St} {r:Ex×St} (h:(ER τ Γ ops m es ls st).sem=some r):r.1 = .nm:=by
 unfold ER Hr LU at h;split at h
 ·obtain ⟨_,_,h⟩:=Ad h
  obtain ⟨_,_,h⟩:=Ad h;obtain ⟨_,_,h⟩:=Ad h;obtain ⟨_,_,h⟩:=Ad h;obtain ⟨_,_,h⟩:=Ad h;rw [Aa h]
 ·cases h
include hτ in
theorem Jt (hm:P.follows .mixedOrders=true) (hΓ:Bb P Γ) {id:Nat} {st:St} {r:Ex×St} {κ:Ai} {S:Nat->Prop} {a:Act} {w:World} (hr:Rel dl Γ κ S st a w)
  (hd:Ej ops=true) {m:Nat} {es ls:List Nat} (h:(ER τ Γ ops m es ls st).sem=some r) (hnd:ro=none ∨ ops.all Gm=true) (hw:Way dl Γ κ S st.h w r.2 (λa' w'=>Q .normal a' w')):r.1 = .nm∧(Code.region id ops true).wpIn (Ez ro) 0 P Q a w:=by
 unfold ER Hr LU at h;generalize AcV τ ops (Region.before ops) (E0 (es++ls) ((List.range ops.size).drop m))=po at h;split at h
 rotate_left
 ·cases h
 rename_i hL;have L:=V9 hL;generalize es++ls=lts at *;obtain ⟨st1,h1,h⟩:=Ad h;obtain ⟨st2,h2,h⟩:=Ad h;obtain ⟨⟨⟩,hvm,h⟩:=Ad h;have hvm:=Im hvm;obtain ⟨⟨⟩,h3,h⟩:=Ad h;obtain ⟨st',h4,h⟩:=Ad h;have h:=Aa h;subst h;refine ⟨rfl,?_⟩;have hdo:=hd;unfold Ej at hdo;split at hdo
 rotate_left
 ·cases hdo
 rename_i hback honce;have honce:=Hp honce;obtain ⟨v0,hv,rfl⟩:=GN ops _ st st1 h1;have hbt:∀ k,k <= m->AE st (ops.toList.take m) v0 k=AE st ops.toList v0 k:=λk hk=>JE st ops.toList v0 m k hk;have hlen:(ops.toList.take m).length=m:=by rw [List.length_take,Array.length_toList,Nat.min_eq_left L.le]
 rw [hlen,hbt _ (Nat.le_refl _)] at h2;have stat:∀ k,k <= m->Jh ops (λi=>i<m ∨ i ∈ lts) v0 st k (AE st ops.toList v0 k):=by
  intro k
  induction k with
  | zero=>exact λ_=>⟨rfl,rfl,λ_ _ _ _ _ _ _ hc=>absurd hc (Nat.not_lt_zero _),λ_ _=>rfl⟩
  | succ k ih =>
   intro hk;have hks:k<ops.size:=by have:=L.le; omega
   simp only [AE];have hok:ops.toList[k]? = some ops[k]:=by simp [hks]
   rw [hok];exact (ih (by omega)).next honce (by omega) (.inl (by omega)) (λj _ hj=>by omega) (by simp [hks])
 obtain ⟨vals,g1,g2,g3⟩:=Qk (A:=λi=>i<m ∨ i ∈ lts) honce ls m _ st2 h2 L.risesL (λj hj=>⟨λhc=>(L.late j hj).1 (hc.resolve_left (by omega)),λhc=>.inr ((L.late j hj).2 hc)⟩) (stat m (Nat.le_refl _));have hvals:∀ k o,(k<m ∨ k ∈ lts)->ops[k]? = some o->∃ stk,Jh ops (λi=>i<m ∨ i ∈ lts) vals st k stk∧(CV τ Γ ops o stk).sem=some (vals k):=by
  intro k o hk ho;rcases Nat.lt_or_ge k m with hc | hc
  ·refine ⟨AE st ops.toList v0 k,?_,?_⟩
   ·obtain ⟨e1,e2,e3,e4⟩:=stat k (by omega)
    exact ⟨e1,e2,λj oj t hj hdj ht hAj hji=>by rw [e3 j oj t hj hdj ht hAj hji,g1 j (by omega)],e4⟩
   ·rw [g1 k hc]
    have:=hv k o (by rw [List.getElem?_take,if_pos hc]; simpa using ho);rwa [hbt k (by omega)] at this
  ·exact g3 k o ((L.late k hc).1 (hk.resolve_left (by omega))) ho
 refine wpIn_mono (Q:=λe a w=>e = .normal∧Q .normal a w) (wpIn_region_any hm (Tn hnd (λ⟨a,w,h⟩=>by cases h.1) _ _ _ _ ?_)) (λe a w h=>h.1 ▸ h.2);have hg':Good κ S st.h { w with drawn:=w.drawn+1 }:=by
  obtain ⟨g1,g2,g3,g4⟩:=hr.good;refine ⟨λi b hb=>?_,g2,g3,g4⟩;exact A7.mono (w:=w) (λb hb=>⟨hb,rfl⟩) (λ_ _ h=>h) (λ_ _=>rfl) (g1 i b hb)
 have hext:Ext κ S st.h w κ S st.h { w with drawn:=w.drawn+1 }:=⟨rfl,rfl,rfl,Nat.le_refl _,λ_ _ _=>rfl,λi b hb=>.inl ⟨i,hb⟩,λ_ hb=>.inl hb,λ_ hb=>hb,λb p h=>⟨h,E5.same rfl⟩,λ_ b h hb=>⟨rfl,b,h,Bz.refl hb⟩⟩
 have hpers:∀ b,S b->S b∧({ w with drawn:=w.drawn+1 }:World).heap[b]? = w.heap[b]?:=λb hb=>⟨hb,rfl⟩
 have hrep:∀ i,(Array.replicate ops.size false).getD i false=false:=by
  intro i;by_cases hi:i<ops.size
  ·simp [Array.getD,hi]
  ·simp [Array.getD,hi]
 refine AdC (P:=P) (Q:=λe a w=>e = .normal∧Q .normal a w) hτ hΓ hd L (λc a w h=>by cases h.1) hvals g2 (λq hq=>(Fp.1 hq).1) (λq hq=>(Cs hq).1) (λq hq=>by
  rcases Classical.em (q ∈ GK ops st2 lts) with hc | hc
  ·exact .inl hc
  ·exact .inr (Fp.2 ⟨hq,hc⟩)) (λhne i hi=>by
  rw [Bool.or_eq_true] at hvm;rcases hvm with hc | hc
  ·exact absurd (List.isEmpty_iff.1 hc) hne
  ·exact Cm.1 (List.all_eq_true.1 hc i (by simpa using hi))) h3 (λq oq d hq ho hdq=>?_) h4 (λκ' S' a' w' r1 r2=>⟨rfl,(hw.ext hext) κ' S' a' w' r1 r2⟩) ops.size _ κ S a _ (by simp) ?_ (λk _ hk=>by rw [hrep] at hk; cases hk) (λ_ k=>hrep k) ?_ ?_
 ·rcases Classical.em (q ∈ GK ops st2 lts) with hc | hc
  ·obtain ⟨_,oq',d',ho',hd',hvg⟩:=Cs hc
   rw [ho] at ho';simp only [Option.some.injEq] at ho';subst ho';rw [hdq] at hd';simp only [Option.some.injEq] at hd';subst hd';rw [<- g2.2.1];rcases Nat.lt_or_ge d st2.t.length with hc | hc
   ·exact hc
   ·rw [TN hc] at hvg
    cases hvg
  obtain ⟨d',v,hd',_,hs⟩:=Jm _ h3 q oq (Fp.2 ⟨hq,hc⟩) ho;rw [hdq] at hd';simp only [Option.some.injEq] at hd';subst hd';rw [<- g2.2.1];rcases Nat.lt_or_ge d st2.t.length with hc | hc
  ·exact hc
  ·rw [TN hc] at hs
   exact (Xf hs).elim
 ·unfold left
  rw [List.filter_eq_self.2]
  ·simp
  ·intro i hi
   simp at hi;simp [Array.getD,hi]
 ·intro i o hi hX
  rw [hrep] at hX;cases hX
 ·have htm:=VR.mono_go hpers _ _ κ _ (λ_ _ h=>h) hr.tmps
  refine ⟨hg',λg=>VR.mono hpers _ _ _ _ (λ_ _ h=>h) (hr.env g),Ext.refl _ _ _ _,hr.defers,?_,?_,?_⟩
  ·have:=hr.tmps.length
   simpa using this
  ·intro j o t _ _ _ hX
   rw [hrep] at hX;cases hX
  ·intro t ht _
   have:=htm.nth t undef;rwa [B5] at this
end
end Go.Sy
