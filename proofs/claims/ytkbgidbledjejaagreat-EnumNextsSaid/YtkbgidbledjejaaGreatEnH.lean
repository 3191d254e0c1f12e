/-
  Layer 12, plain: a search that goes from list to list, cutting what begins nothing, tells what a search through all lists tells. No program here, no conditions.
-/
import Derived.Test.YtkbgidbledjejaaGreatCyU
import Derived.Test.YtkbgidbledjejaaGreatEnG
namespace Go.Proofs.YtkbgidbledjejaaGreat.En
section
variable (m:Nat) (fits opn:List Nat->Bool)
def EA:List Nat->Option (List Nat)
 | []=>none
 | x::r=>bif Nat.beq (x+1) m then EA r else some ((x+1)::r)
def Ch:List Nat->Nat
 | []=>0
 | [x]=>x
 | _::y::r=>Ch (y::r)
def E7 (r:List Nat):Option (List Nat):=bif fits r && opn r then some (Ch r::r) else EA m r
inductive GoL:List Nat->List (List Nat)->Option (List Nat)->Prop where
 | one (r:List Nat):GoL r [r] (E7 m fits opn r)
 | cons {r r':List Nat} {l:List (List Nat)} {o:Option (List Nat)} (h:E7 m fits opn r=some r') (t:GoL r' l o):GoL r (r::l) o
def Gg:Nat->List Nat->List (List Nat)
 | 0,r=>[r]
 | k+1,r=>r::(bif fits r && opn r then ((List.range m).drop (Ch r)).flatMap λe=>Gg k (e::r) else [])
variable {m fits opn}
theorem GoL.app {r r':List Nat} {l l':List (List Nat)} {o:Option (List Nat)} (h:GoL m fits opn r l (some r')) (t:GoL m fits opn r' l' o):GoL m fits opn r (l++l') o:=by
 generalize hq:some r'=q at h
 induction h with
 | one r=>exact .cons hq.symm t
 | cons h _ ih=>exact .cons h (ih hq)
theorem Rf {r:List Nat} {x:Nat} (h:x+1=m):EA m (x::r)=EA m r:=by
 rw [EA,show Nat.beq (x+1) m=true by rw [h]; exact Nat.beq_refl m];rfl
theorem Re {r:List Nat} {x:Nat} (h:x+1<m):EA m (x::r)=some ((x+1)::r):=by
 rw [EA,show Nat.beq (x+1) m=false by
  cases hb:Nat.beq (x+1) m with
  | false=>rfl
  | true=>have:=Nat.eq_of_beq_eq_true hb; omega]
 rfl
theorem Gn {r:List Nat} (h0:r ≠ []) (h:∀ x,x ∈ r->x<m):Ch r<m:=by
 induction r with
 | nil=>exact absurd rfl h0
 | cons x r ih =>
  cases r with
  | nil=>exact h x (by simp)
  | cons y r =>rw [Ch];exact ih (by simp) λz hz=>h z (by simp at hz ⊢; exact .inr hz)
theorem QL {j:Nat} (h:j<m):(List.range m).drop j=j::(List.range m).drop (j+1):=by
 rw [List.drop_eq_getElem_cons (by simpa using h)];simp
theorem Ul {k:Nat} {r:List Nat} (ih:∀ e,e<m->GoL m fits opn (e::r) (Gg m fits opn k (e::r)) (EA m (e::r))):∀ d j,j<m->j+d=m->GoL m fits opn (j::r) (((List.range m).drop j).flatMap λe=>Gg m fits opn k (e::r)) (EA m r)
 | 0,j,hj,hd=>by omega
 | d+1,j,hj,hd=>by
  have h:=ih j hj;rw [QL hj,List.flatMap_cons];by_cases e:j+1=m
  ·rw [e,List.drop_eq_nil_of_le (by simp),List.flatMap_nil,List.append_nil]
   rw [Rf e] at h;exact h
  ·rw [Re (by omega)] at h
   exact h.app (Ul ih d (j+1) (by omega) (by omega))
theorem AdY (n:Nat) (hop:∀ r,fits r=true->opn r=true->r.length<n):∀ k (r:List Nat),r ≠ []->(∀ x,x ∈ r->x<m)->n <= r.length+k->GoL m fits opn r (Gg m fits opn k r) (EA m r)
 | 0,r,h0,hm,hn=>by
  have h:E7 m fits opn r=EA m r:=by
   unfold E7;cases hf:fits r with
   | false=>rfl
   | true =>
    cases ho:opn r with
    | false=>rfl
    | true=>have:=hop r hf ho; omega
  rw [<- h];exact .one r
 | k+1,r,h0,hm,hn=>by
  rw [Gg];cases hc:fits r && opn r with
  | false =>
   have h:E7 m fits opn r=EA m r:=by
    unfold E7;rw [hc];rfl
   rw [<- h];exact .one r
  | true =>
   have h:E7 m fits opn r=some (Ch r::r):=by
    unfold E7;rw [hc];rfl
   have hf:=Gn h0 hm;exact .cons h (Ul (λe he=>AdY n hop k (e::r) (by simp) (λx hx=>by
    rcases List.mem_cons.1 hx with rfl | hx
    ·exact he
    ·exact hm x hx) (by simp; omega)) (m-Ch r) (Ch r) hf (by omega))
theorem Ak6 (n:Nat) (hn:0<n) (hop:∀ r,fits r=true->opn r=true->r.length<n) (hm:0<m):GoL m fits opn [0] ((List.range m).flatMap λe=>Gg m fits opn (n-1) [e]) none:=by
 have:=Ul (r:=[]) (k:=n-1) (λe he=>AdY n hop (n-1) [e] (by simp) (λx hx=>by
  simp at hx;omega) (by simp; omega)) m 0 hm (by omega)
 exact this
end
section
variable (m:Nat) (ok:List Nat->Nat->Bool) (good:List Nat->Bool)
def Kx:Nat->List Nat->List (List Nat)
 | 0,r=>[r]
 | k+1,r=>r::(List.range m).flatMap λe=>bif ok r e then Kx k (e::r) else []
def onL (keep:Nat->Bool):Nat->List Nat->List (List Nat)
 | 0,r=>bif good r then [r] else []
 | k+1,r=>(bif good r then [r] else [])++((List.range m).filter keep).flatMap λe=>bif ok r e then onL keep k (e::r) else []
variable {m ok good}
theorem UF:∀ k (r d:List Nat),d ∈ Kx m ok k r->∃ x,d=x++r∧d.length <= r.length+k
 | 0,r,d,h=>by
  simp [Kx] at h;exact ⟨[],by simp [h]⟩
 | k+1,r,d,h=>by
  rw [Kx] at h;rcases List.mem_cons.1 h with rfl | h
  ·exact ⟨[],by simp⟩
  ·obtain ⟨e,_,he⟩:=List.mem_flatMap.1 h
   cases ho:ok r e with
   | false=>rw [ho] at he; cases he
   | true =>rw [ho] at he;obtain ⟨x,hx,hl⟩:=UF k (e::r) d he;exact ⟨x++[e],by rw [hx]; simp,by simp at hl; omega⟩
theorem Dk {α β:Type} (p:β->Bool) (f:α->List β):∀ l:List α,(l.flatMap f).filter p=l.flatMap λa=>(f a).filter p
 | []=>rfl
 | a::l=>by rw [List.flatMap_cons,List.flatMap_cons,List.filter_append,Dk p f l]
theorem GZ {α β:Type} (p:α->Bool) (f:α->List β) (h:∀ a,p a=false->f a=[]):∀ l:List α,(l.filter p).flatMap f=l.flatMap f
 | []=>rfl
 | a::l=>by
  cases hp:p a with
  | true=>rw [List.filter_cons_of_pos hp,List.flatMap_cons,List.flatMap_cons,GZ p f h l]
  | false=>rw [List.filter_cons_of_neg (by rw [hp]; decide),List.flatMap_cons,h a hp,GZ p f h l]; rfl
theorem DF {α β:Type} {f g:α->List β}:∀ {l:List α},(∀ a,a ∈ l->f a=g a)->l.flatMap f=l.flatMap g
 | [],_=>rfl
 | a::l,h=>by
  rw [List.flatMap_cons,List.flatMap_cons,h a (by simp),DF λb hb=>h b (by simp [hb])]
theorem QB (r:List Nat):[r].filter good=bif good r then [r] else []:=by
 cases h:good r with
 | true=>rw [List.filter_cons_of_pos h]; rfl
 | false=>rw [List.filter_cons_of_neg (by rw [h]; decide)]; rfl
theorem TM {keep:Nat->Bool} (hk:∀ d,good d=true->∀ e,e ∈ d->keep e=true):∀ k r,onL m ok good keep k r=(Kx m ok k r).filter good
 | 0,r=>(QB r).symm
 | k+1,r=>by
  show (bif good r then [r] else [])++_=([r]++(List.range m).flatMap λe=>bif ok r e then Kx m ok k (e::r) else []).filter good;rw [List.filter_append,QB,Dk];congr 1;rw [DF (g:=λe=>(bif ok r e then Kx m ok k (e::r) else []).filter good) λe _=>by
   cases ok r e with
   | false=>rfl
   | true=>exact TM hk k (e::r)]
  refine GZ keep _ (λe he=>?_) _;cases ok r e with
  | false=>rfl
  | true =>show (Kx m ok k (e::r)).filter good=[];rw [List.filter_eq_nil_iff];intro d hd hg;obtain ⟨x,hx,_⟩:=UF k (e::r) d hd;have:=hk d hg e (by rw [hx]; simp);rw [he] at this;cases this
theorem Y2 {fits opn:List Nat->Bool} (n:Nat) (hf:∀ r e,r ≠ []->fits (e::r)=(ok r e && Nat.ble (Ch r) e)) (ho:∀ r e,r ≠ []->ok r e=true->Ch r <= e)
  (hc:∀ r x,r ≠ []->fits r=true->opn r=false->x ≠ []->(x++r).length <= n->good (x++r)=true->False) (hop:∀ r,fits r=true->opn r=true->r.length<n):∀ k (r:List Nat),r ≠ []->fits r=true->r.length+k=n ->
  (Gg m fits opn k r).filter (λd=>fits d && good d)=(Kx m ok k r).filter good
 | 0,r,h0,hr,hn=>by
  rw [Gg,Kx];cases hg:good r with
  | true=>rw [List.filter_cons_of_pos (by rw [hr,hg]; rfl),List.filter_cons_of_pos hg]; rfl
  | false=>rw [List.filter_cons_of_neg (by rw [hr,hg]; decide),List.filter_cons_of_neg (by rw [hg]; decide)]; rfl
 | k+1,r,h0,hr,hn=>by
  have h1:∀ l l':List (List Nat),l.filter (λd=>fits d && good d)=l'.filter good->(r::l).filter (λd=>fits d && good d)=(r::l').filter good:=λl l' h=>by
   cases hg:good r with
   | true=>rw [List.filter_cons_of_pos (by rw [hr,hg]; rfl),List.filter_cons_of_pos hg,h]
   | false=>rw [List.filter_cons_of_neg (by rw [hr,hg]; decide),List.filter_cons_of_neg (by rw [hg]; decide),h]
  rw [Gg,Kx];refine h1 _ _ ?_;rw [hr,Bool.true_and];cases hq:opn r with
  | false =>
   show []=_
   symm
   rw [List.filter_eq_nil_iff];intro d hd hg;obtain ⟨e,_,he⟩:=List.mem_flatMap.1 hd;cases hoe:ok r e with
   | false=>rw [hoe] at he; cases he
   | true =>rw [hoe] at he;obtain ⟨x,hx,hl⟩:=UF k (e::r) d he;refine hc r (x++[e]) h0 hr hq (by simp) (by simp at hl ⊢; rw [hx] at hl; simp at hl; omega) ?_;rw [show x++[e]++r=d by rw [hx]; simp];exact hg
  | true =>
   show (((List.range m).drop (Ch r)).flatMap λe=>Gg m fits opn k (e::r)).filter _=_;rw [Dk,Dk];have hcut:∀ e,e<Ch r->ok r e=false:=λe he=>by
    cases hoe:ok r e with
    | false=>rfl
    | true=>have:=ho r e h0 hoe; omega
   have hd:((List.range m).drop (Ch r)).flatMap (λe=>(bif ok r e then Kx m ok k (e::r) else []).filter good)=(List.range m).flatMap λe=>(bif ok r e then Kx m ok k (e::r) else []).filter good:=by
    conv=>rhs; rw [<- List.take_append_drop (Ch r) (List.range m),List.flatMap_append]
    rw [show ((List.range m).take (Ch r)).flatMap (λe=>(bif ok r e then Kx m ok k (e::r) else []).filter good)=[] from by
     rw [List.flatMap_eq_nil_iff];intro e he;rw [List.take_range] at he;rw [hcut e (by simp at he; omega)];rfl]
    rfl
   rw [<- hd];refine DF λe _=>?_;have hfe:=hf r e h0;cases hoe:ok r e with
   | true =>
    have hfe:fits (e::r)=true:=by
     rw [hfe,hoe,Bool.true_and];exact Nat.ble_eq_true_of_le (ho r e h0 hoe)
    exact Y2 n hf ho hc hop k (e::r) (by simp) hfe (by simp; omega)
   | false =>
    have hfe:fits (e::r)=false:=by rw [hfe,hoe]; rfl
    have:Gg m fits opn k (e::r)=[e::r]:=by
     cases k with
     | zero=>rfl
     | succ k=>rw [Gg,hfe]; rfl
    rw [this,List.filter_cons_of_neg (by rw [hfe]; simp)];rfl
end
end Go.Proofs.YtkbgidbledjejaaGreat.En
namespace Go.Proofs.YtkbgidbledjejaaGreat.En
open Go.Sy Go Go.Proofs.YtkbgidbledjejaaGreat.Ed
def wd (d:List Nat) (i:Nat):Nat:=d.reverse.getD i 0
theorem Ir {x r:List Nat} {i:Nat} (h:i<r.length):wd (x++r) i=wd r i:=by
 unfold wd;rw [List.reverse_append,List.getD_eq_getElem?_getD,List.getD_eq_getElem?_getD,List.getElem?_append_left (by simpa using h)]
theorem MM {d:List Nat} {i:Nat} (h:i<d.length):wd d i ∈ d:=by
 unfold wd;rw [List.getD_eq_getElem?_getD,List.getElem?_eq_getElem (by simpa using h)];exact List.mem_reverse.1 (List.getElem_mem (by simpa using h))
theorem Alt {d:List Nat} {e:Nat} (h:e ∈ d):∃ i,i<d.length∧wd d i=e:=by
 obtain ⟨i,hi,he⟩:=List.getElem_of_mem (List.mem_reverse.2 h);refine ⟨i,by simpa using hi,?_⟩;unfold wd;rw [List.getD_eq_getElem?_getD,List.getElem?_eq_getElem hi,he];rfl
theorem ZU {r:List Nat} (h:r ≠ []):wd r 0=Ch r:=by
 induction r with
 | nil=>exact absurd rfl h
 | cons x r ih =>
  cases r with
  | nil=>rfl
  | cons y r =>rw [Ch,<- ih (by simp)];exact Ir (x:=[x]) (r:=y::r) (by simp)
theorem Gx {x:Nat} {r:List Nat}:wd (x::r) r.length=x:=by
 unfold wd;rw [List.reverse_cons,List.getD_eq_getElem?_getD,List.getElem?_append_right (by simp)];simp
def AiP (e:E6):Bool:=(ieq e.src 1 || ieq e.src 2) && (ieq e.dst 1 || ieq e.dst 2)
theorem AbM:(List.range 112).all (λk=>AiP (BC k))=true:=by kernel_rfl
theorem MO {e:E6} (h:AB e=0):(e.src=1 ∨ e.src=2)∧(e.dst=1 ∨ e.dst=2):=by
 have h2:AiP e=true:=by
  rcases BK e with ⟨k,hk,_,_,he,_⟩ | ⟨h2,_⟩
  ·rw [<- he]
   exact List.all_eq_true.1 AbM k (by simpa using hk)
  ·rw [h2] at h
   cases h
 unfold AiP at h2;simp only [Bool.and_eq_true,Bool.or_eq_true] at h2;exact ⟨h2.1.imp Cz Cz,h2.2.imp Cz Cz⟩
section
variable {n:Nat} {h:Nat->Int}
theorem Adg (hm:∀ i,i<n->Fx n h (DI n h) i=h i) {i j:Nat} (hij:i+j<n) (he:∀ t,t<j->h (i+t)=h t) (hl:h (i+j)<h j):False:=by
 have hn:0<n:=by omega
 refine (Qj n h hn).2 i (by omega) ⟨j,by omega,λt ht=>?_,?_⟩
 ·rw [hm t (by omega)]
  unfold Fx;rw [Nat.mod_eq_of_lt (by omega)];exact he t ht
 ·rw [hm j (by omega)]
  unfold Fx;rw [Nat.mod_eq_of_lt hij];exact hl
end
section
variable {a:Int} {n:Nat} {f:Nat->E6} (hc:IsCycle a n f)
include hc
theorem Anm {i:Nat} (hi:i<n):(f i).dst=(f ((i+1) % n)).src:=by
 have h:=hc.meets i hi;unfold Hk at h;exact Cz (by simpa [AL] using h)
theorem Ame {A B:Int} (h1:∀ i,i<n->(f i).dst=A ∨ (f i).dst=B) (hno:∀ i,i<n->(f i).src=A->(f i).dst=B->False) {i:Nat} (hi:i<n) (hA:(f i).dst=A):∀ t,(f ((i+t) % n)).dst=A
 | 0=>by rw [Nat.add_zero,Nat.mod_eq_of_lt hi]; exact hA
 | t+1=>by
  have hn:0<n:=by omega
  have h:=Anm hc (Nat.mod_lt (i+t) hn);rw [Ame h1 hno hi hA t,Nat.mod_add_mod] at h;rcases h1 ((i+t+1) % n) (Nat.mod_lt _ hn) with h2 | h2
  ·exact h2
  ·exact absurd (hno _ (Nat.mod_lt _ hn) h.symm h2) id
theorem round {A B:Int} (h1:∀ i,i<n->(f i).dst=A ∨ (f i).dst=B) (hno:∀ i,i<n->(f i).src=A->(f i).dst=B->False) {i:Nat} (hi:i<n) (hA:(f i).dst=A) {k:Nat} (hk:k<n):(f k).src=A:=by
 have hn:0<n:=by omega
 have h:=Ame hc h1 hno hi hA (k+n-1+(n-i));have e:(i+(k+n-1+(n-i))) % n=(k+n-1) % n:=by rw [show i+(k+n-1+(n-i))=k+n-1+n by omega,Nat.add_mod_right]
 rw [e] at h;have h2:=Anm hc (Nat.mod_lt (k+n-1) hn);rw [h,Nat.mod_add_mod,show k+n-1+1=k+n by omega,Nat.add_mod_right,Nat.mod_eq_of_lt hk] at h2;exact h2.symm
end
section
variable (a:Int) (v:Nat->E6)
def wE (d:List Nat) (i:Nat):E6:=v (wd d i)
structure Good (d:List Nat):Prop where
 cyc:IsCycle a d.length (wE v d)
 own:∀ i,i<d.length->JB d.length (wE v d) i=wE v d i
end
section
variable {a:Int} {v:Nat->E6} {m:Nat} (hv:∀ i,i<m->AB (v i)=0) (hr:∀ i j,i<j->j<m->Al (v i)<Al (v j))
def Hop (r:List Nat):Prop:=∃ i j,i+j<r.length∧(∀ t,t<j->wd r (i+t)=wd r t)∧wd r (i+j)<wd r j
include hr in
theorem Ak2 {x r:List Nat} (hm:∀ e,e ∈ x++r->e<m) (h:Hop r) (hg:Good a v (x++r)):False:=by
 obtain ⟨i,j,h1,h2,h3⟩:=h;refine Adg (h:=λi=>Al (wE v (x++r) i)) (n:=(x++r).length) (i:=i) (j:=j) (λk hk=>?_) (by simp; omega) (λt ht=>?_) ?_
 ·have h:=congrArg Al (hg.own k hk)
  exact h
 ·show Al (v (wd (x++r) (i+t)))=Al (v (wd (x++r) t))
  rw [Ir (by omega),Ir (by omega),h2 t ht]
 ·show Al (v (wd (x++r) (i+j)))<Al (v (wd (x++r) j))
  rw [Ir h1,Ir (by omega)];refine hr _ _ h3 (hm _ (List.mem_append_right _ (MM (by omega))))
include hv in
theorem AeC {x r:List Nat} {y:Nat} (hm:∀ e,e ∈ x++y::r->e<m) (hne:(v y).dst ≠ (v (Ch (y::r))).src) (hno:∀ e,e<m->(v e).src=(v y).dst->(v e).dst=(v (Ch (y::r))).src->False) (hg:Good a v (x++y::r)):False:=by
 have hc:=hg.cyc;have hin:∀ i,i<(x++y::r).length->wd (x++y::r) i<m:=λi hi=>hm _ (MM hi);have hy:y<m:=hm y (by simp);have hf:Ch (y::r)<m:=Gn (by simp) λe he=>hm e (List.mem_append_right _ he);have h1:=(MO (hv y hy)).2;have h2:=(MO (hv _ hf)).1;have hl:wd (x++y::r) r.length=y:=by rw [Ir (by simp),Gx]
 have h0:wd (x++y::r) 0=Ch (y::r):=by rw [Ir (by simp),ZU (by simp)]
 have key:∀ i,i<(x++y::r).length->(wE v (x++y::r) i).dst=(v y).dst ∨ (wE v (x++y::r) i).dst=(v (Ch (y::r))).src:=λi hi=>by
  rcases (MO (hv _ (hin i hi))).2 with h | h
  ·rcases h1 with g | g
   ·exact .inl (h.trans g.symm)
   ·rcases h2 with k | k
    ·exact .inr (h.trans k.symm)
    ·exact absurd (g.trans k.symm) hne
  ·rcases h1 with g | g
   ·rcases h2 with k | k
    ·exact absurd (g.trans k.symm) hne
    ·exact .inr (h.trans k.symm)
   ·exact .inl (h.trans g.symm)
 have:=round hc (A:=(v y).dst) (B:=(v (Ch (y::r))).src) key (λi hi e1 e2=>hno _ (hin i hi) e1 e2) (i:=r.length) (by simp; omega) (by unfold wE; rw [hl]) (k:=0) (by simp; omega);unfold wE at this;rw [h0] at this;exact hne this.symm
def Alf (v:Nat->E6) (m e:Nat):Prop:=(v e).src=(v e).dst ∨ ((∃ i,i<m∧(v i).src=1∧(v i).dst=2)∧∃ i,i<m∧(v i).src=2∧(v i).dst=1)
include hv in
theorem AgI {d:List Nat} (hm:∀ e,e ∈ d->e<m) (hg:Good a v d) {e:Nat} (he:e ∈ d):Alf v m e:=by
 have hc:=hg.cyc;have hin:∀ i,i<d.length->wd d i<m:=λi hi=>hm _ (MM hi);obtain ⟨k,hk,hke⟩:=Alt he;have back:∀ A B:Int,A ≠ B->(∀ z:Int,z=1 ∨ z=2->z=A ∨ z=B)->(v e).src=A->(v e).dst=B->∃ i,i<m∧(v i).src=B∧(v i).dst=A:=λA B hne hz hs hd=>by
  refine Classical.byContradiction λhno=>?_;have:=round hc (A:=B) (B:=A) (λi hi=>(hz _ (MO (hv _ (hin i hi))).2).symm) (λi hi e1 e2=>hno ⟨_,hin i hi,e1,e2⟩) hk (by unfold wE; rw [hke]; exact hd) hk;unfold wE at this;rw [hke,hs] at this;exact hne this
 have hem:=hm e he;rcases (MO (hv e hem)).1 with h1 | h1 <;> rcases (MO (hv e hem)).2 with h2 | h2
 ·exact .inl (h1.trans h2.symm)
 ·exact .inr ⟨⟨e,hem,h1,h2⟩,back 1 2 (by decide) (λ_ h=>h) h1 h2⟩
 ·exact .inr ⟨back 2 1 (by decide) (λ_ h=>h.symm) h1 h2,⟨e,hem,h1,h2⟩⟩
 ·exact .inl (h1.trans h2.symm)
end
end Go.Proofs.YtkbgidbledjejaaGreat.En
namespace Go.Proofs.YtkbgidbledjejaaGreat.En
open Go.Sy Go Go.Proofs.YtkbgidbledjejaaGreat.Ed
section
variable {m:Nat} {fits opn:List Nat->Bool} {ok:List Nat->Nat->Bool}
theorem AbF:∀ k (r d:List Nat),(∀ x,x ∈ r->x<m)->d ∈ Gg m fits opn k r->∀ x,x ∈ d->x<m
 | 0,r,d,hr,h=>by
  simp [Gg] at h;rw [h];exact hr
 | k+1,r,d,hr,h=>by
  rw [Gg] at h;rcases List.mem_cons.1 h with rfl | h
  ·exact hr
  ·cases hc:fits r && opn r with
   | false=>rw [hc] at h; cases h
   | true =>
    rw [hc] at h;obtain ⟨e,he,h⟩:=List.mem_flatMap.1 h;have he:e<m:=List.mem_range.1 (List.mem_of_mem_drop he);exact AbF k (e::r) d (λx hx=>by
     rcases List.mem_cons.1 hx with rfl | hx
     ·exact he
     ·exact hr x hx) h
theorem Vu {good good' keep:List Nat->Bool} {kp:Nat->Bool} (h:∀ d,(∀ x,x ∈ d->x<m)->good d=good' d):∀ k (r:List Nat),(∀ x,x ∈ r->x<m)->onL m ok good kp k r=onL m ok good' kp k r
 | 0,r,hr=>by rw [onL,onL,h r hr]
 | k+1,r,hr=>by
  rw [onL,onL,h r hr];congr 1;refine DF λe he=>?_;have he:e<m:=List.mem_range.1 (List.mem_filter.1 he).1;rw [Vu h (keep:=keep) k (e::r) λx hx=>by
   rcases List.mem_cons.1 hx with rfl | hx
   ·exact he
   ·exact hr x hx]
end
section
variable (v:Nat->E6)
def okP (r:List Nat) (e:Nat):Bool:=match r with
 | []=>true
 | y::r=>ieq (v y).dst (v e).src && Nat.ble (Ch (y::r)) e
def Do:List Nat->Bool
 | []=>true
 | e::r=>okP v r e
end
section
variable {a:Int} {v:Nat->E6} {m n:Nat} (hv:∀ i,i<m->AB (v i)=0) (hr:∀ i j,i<j->j<m->Al (v i)<Al (v j))
include hv hr
theorem Aam {opn good:List Nat->Bool} {keep:Nat->Bool} (hgood:∀ d,(∀ x,x ∈ d->x<m)->good d=true->Good a v d) (hop:∀ r,opn r=true->r.length<n)
  (hcut:∀ r,r ≠ []->(∀ x,x ∈ r->x<m)->opn r=false->n <= r.length ∨ Hop r ∨ ∃ y t,r=y::t∧(v y).dst ≠ (v (Ch (y::t))).src∧∀ e,e<m->(v e).src=(v y).dst->(v e).dst=(v (Ch (y::t))).src->False)
  (hk:∀ e,e<m->Alf v m e->keep e=true) (hn:0<n) :
  ((List.range m).flatMap λe=>Gg m (Do v) opn (n-1) [e]).filter (λd=>Do v d && good d)=onL m (okP v) good keep n []:=by
 let gM:List Nat->Bool:=λd=>d.all (λe=>Nat.blt e m) && good d
 have gm:∀ d,(∀ x,x ∈ d->x<m)->gM d=good d:=λd h=>by
  show (d.all (λe=>Nat.blt e m) && good d)=good d;rw [show d.all (λe=>Nat.blt e m)=true from List.all_eq_true.2 λe he=>Nat.ble_eq_true_of_le (h e he)];rfl
 have lt:∀ {d},gM d=true->(∀ x,x ∈ d->x<m)∧good d=true:=fun {d} h=>by
  have h:(d.all (λe=>Nat.blt e m) && good d)=true:=h;rw [Bool.and_eq_true] at h;exact ⟨λx hx=>Nat.le_of_ble_eq_true (List.all_eq_true.1 h.1 x hx),h.2⟩
 rw [Vu (good':=gM) (keep:=gM) (λd h=>(gm d h).symm) n [] (λx hx=>by cases hx),TM (λd hd e he=>hk e ((lt hd).1 e he) (AgI hv (lt hd).1 (hgood d (lt hd).1 (lt hd).2) he))];obtain ⟨k,rfl⟩:∃ k,n=k+1:=⟨n-1,by omega⟩;have g0:gM []=false:=by
  cases h:gM [] with
  | false=>rfl
  | true =>have:=(hgood [] (lt h).1 (lt h).2).cyc.lo;simp at this
 rw [Kx,List.filter_cons_of_neg (by rw [g0]; decide),Dk,Dk];refine DF λe he=>?_;have he:e<m:=List.mem_range.1 he;show (Gg m (Do v) opn k [e]).filter _=(Kx m (okP v) k [e]).filter gM;rw [<- Y2 (good:=gM) (fits:=Do v) (opn:=opn) (k+1) (λr e h0=>?_) (λr e h0 h=>?_) (λr x hr0 hf ho h0 hl hg=>?_) (λr _ h=>hop r h) k [e] (by simp) rfl (by simp; omega)]
 ·refine List.filter_congr λd hd=>?_
  rw [gm d (AbF k [e] d (λx hx=>by simp at hx; omega) hd)]
 ·cases r with
  | nil=>exact absurd rfl h0
  | cons y r =>show okP v (y::r) e=_;unfold okP;simp only [Bool.and_assoc,Bool.and_self]
 ·cases r with
  | nil=>exact absurd rfl h0
  | cons y r =>unfold okP at h;rw [Bool.and_eq_true] at h;exact Nat.le_of_ble_eq_true h.2
 ·obtain ⟨hm,hgd⟩:=lt hg
  have hG:=hgood _ hm hgd;rcases hcut r hr0 (λy hy=>hm y (List.mem_append_right _ hy)) ho with h | h | ⟨y,t,rfl,h1,h2⟩
  ·have:0<x.length:=List.length_pos_iff.2 h0
   simp at hl;omega
  ·exact Ak2 hr hm h hG
  ·exact AeC hv hm h1 h2 hG
end
end Go.Proofs.YtkbgidbledjejaaGreat.En
namespace Go.Proofs.YtkbgidbledjejaaGreat.En
section
variable {m:Nat} {fits opn:List Nat->Bool}
theorem GoL.head {r:List Nat} {l:List (List Nat)} {o:Option (List Nat)} (h:GoL m fits opn r l o):∃ t,l=r::t:=by
 cases h with
 | one=>exact ⟨[],rfl⟩
 | cons _ _=>exact ⟨_,rfl⟩
theorem GoL.tail {r:List Nat} {l:List (List Nat)} {o:Option (List Nat)} (h:GoL m fits opn r (r::l) o):(l=[]∧E7 m fits opn r=o) ∨ ∃ r',E7 m fits opn r=some r'∧GoL m fits opn r' l o:=by
 cases h with
 | one=>exact .inl ⟨rfl,rfl⟩
 | cons h t=>exact .inr ⟨_,h,t⟩
theorem GoL.at {o:Option (List Nat)} {d:List Nat} {l2:List (List Nat)}:∀ (l1:List (List Nat)) {r:List Nat},GoL m fits opn r (l1++d::l2) o->(l2=[]∧E7 m fits opn d=o) ∨ ∃ r',E7 m fits opn d=some r'∧GoL m fits opn r' l2 o
 | [],r,h=>by
  obtain ⟨t,ht⟩:=h.head;injection ht with h1 h2
  subst h1;exact h.tail
 | c::l1,r,h=>by
  obtain ⟨t,ht⟩:=h.head;injection ht with h1 h2
  subst h1;rcases h.tail with ⟨h,_⟩ | ⟨r',_,h⟩
  ·exact absurd h (by simp)
  ·exact GoL.at l1 h
theorem Q9 {p:List Nat->Bool}:∀ l:List (List Nat),l.filter p=[] ∨ ∃ l1 d l2,l=l1++d::l2∧l1.filter p=[]∧p d=true∧l.filter p=d::l2.filter p
 | []=>.inl rfl
 | c::l=>by
  cases hc:p c with
  | true=>exact .inr ⟨[],c,l,rfl,rfl,hc,List.filter_cons_of_pos hc⟩
  | false =>
   have hf:(c::l).filter p=l.filter p:=List.filter_cons_of_neg (by rw [hc]; decide);rcases Q9 l with h | ⟨l1,d,l2,h1,h2,h3,h4⟩
   ·exact .inl (hf.trans h)
   ·exact .inr ⟨c::l1,d,l2,by rw [h1]; rfl,by rw [List.filter_cons_of_neg (by rw [hc]; decide)]; exact h2,h3,hf.trans h4⟩
end
end Go.Proofs.YtkbgidbledjejaaGreat.En
namespace Go.Proofs.YtkbgidbledjejaaGreat.En
open Go.Sy Go Go.Proofs.YtkbgidbledjejaaGreat.Ed
open Int (ofNat)
set_option maxRecDepth 100000
theorem rbE (L:Nat) (g:Nat->E6):Ce [.row 46 6 L λk=>eV (g k)]=true:=by
 simp only [Ce,Bool.and_true,List.all_eq_true];exact λ_ _=>rfl
def K3 (L:Nat) (x:Nat->Int) (e:Int) (i:Nat):Int:=bif Nat.beq i L then e else x i
theorem Vl (L:Nat) (x:Nat->Int) (e:Int):AA L (λi=>iV (x i)) (Cy 1 [iV e] 0)=λi=>iV (K3 L x e i):=by
 funext i;rw [BS];unfold K3;cases Nat.beq i L <;> rfl
noncomputable def tb43:AH:=(74,Aef)::(73,Ym)::(72,Ak3)::(44,Uw)::(75,isT)::[]
theorem tb43_ok:Ao Tryz.prog Gl tb43:=.cons p74 <| .cons p73 <| .cons p72 <| .cons p44 <| .cons p75 <| .nil
def lpC:Code->Option Code
 | .seq a b=>match lpC a with
  | some c=>some c
  | none=>lpC b
 | .block _ c=>lpC c
 | .loop c=>some c
 | .cond _ a b=>match lpC a with
  | some c=>some c
  | none=>lpC b
 | _=>none
noncomputable def L8:Code:=match Tryz.f43.body with
 | some (.seq _ (.scope c))=>c
 | _=>.skip
noncomputable def Ap7:Code:=match lpC L8 with
 | some c=>c
 | none=>.skip
def Oz:List Bool:=bmK 128 0 [0,2]
def lp43:Lp:=⟨Oz,4,Oz,4,4611686018427387905⟩
noncomputable abbrev Wt:Cx:=cxA Gl tb43 [(0,lp43,[])]
def stG (a n:Int) (m:Nat) (v:Nat->E6) (L:Nat) (g:Nat->V) (b:Bool):St:=⟨jsV 128 0 Ac [(0,.ptr 0 0),(2,bV b)],[.cells [iV a,iV n,.ref 1,.ref 2],.row 46 6 m (λi=>eV (v i)),.row 3 1 L g,.saved [.ptr 0 0,.und,.und]]⟩
abbrev st43 (a n:Int) (m:Nat) (v:Nat->E6) (L:Nat) (x:Nat->Int):St:=stG a n m v L (λi=>iV (x i)) false
noncomputable abbrev J43 (c:Code) (st:St):T (Ex×St):=Fq tab Wt 100 Oz 4 c 0 st
noncomputable abbrev C43 (c:Code) (st:St):T (Ex×St):=(J43 c st).bind λr=>T.leaf (r.1,FK Oz 4 r.2)
noncomputable abbrev s0:Code:=L6 L8 0
noncomputable abbrev s1:Code:=L6 L8 1
noncomputable abbrev s2:Code:=L6 L8 2
section
variable {a n:Int} {m:Nat} {v:Nat->E6} {L:Nat} {x:Nat->Int}
section
variable (hs:srG m L x=true) (hk:F2 40 (ofNat L) (ofNat L)=true) (hf:BG L=true)
include hs
theorem Ad6 (h1:Q8 v L x=false):(C43 s0 (st43 a n m v L x)).sem=some (.ex 102,st43 a n m v L x):=DW.ok (.k (eL m) <| .k (eL L) <| .k hs <| .k (eN h1) <| .l) (by kernel_rfl)
include hk hf
theorem Akp (h1:Q8 v L x=true) (h2:isB a L (λi=>v (toN (x i)))=true):(C43 s0 (st43 a n m v L x)).sem=some (.rt,stG a n m v L (λi=>iV (x i)) true):=DW.ok (.k (eL m) <| .k (eL L) <| .k hs <| .k (eN h1) <| .k (eL m) <| .k (eL L) <| .k hs <| .k hk <| .k (rbE L λk=>v (toN (x k))) <| .k (eL m) <| .r 2 (eL L) <| .k hf <| .k h2 <| .l) (by kernel_rfl)
theorem Ad7 (h1:Q8 v L x=true) (h2:isB a L (λi=>v (toN (x i)))=false):(C43 s0 (st43 a n m v L x)).sem=some (.ex 101,st43 a n m v L x):=DW.ok (.k (eL m) <| .k (eL L) <| .k hs <| .k (eN h1) <| .k (eL m) <| .k (eL L) <| .k hs <| .k hk <| .k (rbE L λk=>v (toN (x k))) <| .k (eL m) <| .r 2 (eL L) <| .k hf <| .k h2 <| .l) (by kernel_rfl)
end
section
variable (hl0:0<L) (hs:srG m L x=true) (ha:Ci L 1 8=true)
def PP (n:Int) (m:Nat) (v:Nat->E6) (L:Nat) (x:Nat->Int):Bool:=sel (ilt (ofNat L) n) (sel (Uj L x) false (JA n m v L x)) false
include hl0 hs ha in
theorem Aez (h:PP n m v L x=true):(C43 (Fu s1 2) (st43 a n m v L x)).sem=some (.ex 100,st43 a n m v (L+1) (K3 L x (x 0))):=by
 unfold PP at h;cases h1:ilt (ofNat L) n with
 | false=>rw [h1] at h; cases h
 | true =>
  cases h2:Uj L x with
  | true=>rw [h1,h2] at h; cases h
  | false =>
   cases h3:JA n m v L x with
   | false=>rw [h1,h2,h3] at h; cases h
   | true=>exact DW.ok (.r 2 h1 <| .k (eL m) <| .k (eL L) <| .k hs <| .r 2 h1 <| .r 2 (eN h2) <| .k (eL m) <| .k (eL L) <| .k hs <| .k (eN h2) <| .k h3 <| .k (Af hl0) <| .k (decide_eq_true hl0) <| .k ha <| .e (congrArg (λg=>(Ex.ex 100,stG a n m v (L+1) g false)) (Vl L x (x 0)))) (by kernel_rfl)
include hs in
theorem Uy (h:PP n m v L x=false):(J43 (Fu s1 2) (st43 a n m v L x)).sem=some (.nm,st43 a n m v L x):=by
 unfold PP at h;cases h1:ilt (ofNat L) n with
 | false=>exact DW.ok (.r 4 h1 <| .r 4 eF <| .l) (by kernel_rfl)
 | true =>
  cases h2:Uj L x with
  | true=>exact DW.ok (.r 2 h1 <| .k (eL m) <| .k (eL L) <| .k hs <| .r 2 h1 <| .r 3 (eN h2) <| .k eF <| .l) (by kernel_rfl)
  | false =>
   cases h3:JA n m v L x with
   | true=>rw [h1,h2,h3] at h; cases h
   | false=>exact DW.ok (.r 2 h1 <| .k (eL m) <| .k (eL L) <| .k hs <| .r 2 h1 <| .r 2 (eN h2) <| .k (eL m) <| .k (eL L) <| .k hs <| .k (eN h2) <| .k h3 <| .l) (by kernel_rfl)
end
def PG (m:Nat) (x:Nat->Int):Nat->Nat
 | 0=>0
 | k+1=>bif ieq (x k) (ofNat (m-1)) then PG m x k else k+1
theorem AcS (m:Nat) (x:Nat->Int):∀ k,PG m x k <= k
 | 0=>Nat.le_refl _
 | k+1=>by
  unfold PG;cases ieq (x k) (ofNat (m-1)) with
  | true=>exact Nat.le_succ_of_le (AcS m x k)
  | false=>exact Nat.le_refl _
noncomputable def B43:St->T (Ex×St):=λst=>A8 tab Wt Ap7 0 st
section
variable (hL:wr .i64 (Ay (ofNat L) 1)=ofNat (L-1)) (hM:wr .i64 (Ay (ofNat m) 1)=ofNat (m-1)) (hl1:L-1<L) (h0:ilt 0 (ofNat L)=true)
include hL hM hl1 h0
theorem rdp (h1:ieq (x (L-1)) (ofNat (m-1))=true):Ap B43 lp43 (st43 a n m v L x)=some (.nm,st43 a n m v (L-1) x):=DW.rd (.r 11 h0 <| .k (cg1 (λzz0=>Av (ile 0 zz0) (ilt zz0 (ofNat L))) hL (Af hl1)) <| .k h0 <| .k (cg1 (λzz0=>nlt (toN zz0) L) hL (decide_eq_true hl1)) <| .r 8 h0 <| .k (cg2 (λzz0 zz2=>ieq (x (toN zz0)) zz2) hL hM h1) <| .k (cg1 (λzz0=>Av (ile 0 zz0) (ile zz0 (ofNat L))) hL (HW (Nat.sub_le L 1))) <| .e (nm1 (f:=λk=>stG a n m v k (λi=>iV (x i)) false) (cg1 (λz=>toN z) hL rfl))) (by kernel_rfl)
theorem rds (h1:ieq (x (L-1)) (ofNat (m-1))=false):Ap B43 lp43 (st43 a n m v L x)=some (.ex 0,st43 a n m v L x):=DW.rd (.r 11 h0 <| .k (cg1 (λzz0=>Av (ile 0 zz0) (ilt zz0 (ofNat L))) hL (Af hl1)) <| .k h0 <| .k (cg1 (λzz0=>nlt (toN zz0) L) hL (decide_eq_true hl1)) <| .r 8 h0 <| .k (cg2 (λzz0 zz2=>ieq (x (toN zz0)) zz2) hL hM h1) <| .l) (by kernel_rfl)
end
theorem rdz (h0:ilt 0 (ofNat L)=false):Ap B43 lp43 (st43 a n m v L x)=some (.ex 0,st43 a n m v L x):=DW.rd (.r 20 h0 <| .k eF <| .l) (by kernel_rfl)
theorem r43 (hM:wr .i64 (Ay (ofNat m) 1)=ofNat (m-1)):∀ (L k:Nat),L <= 4611686018427387904->L<k->(Ax B43 lp43 k (st43 a n m v L x)).sem=some (.ex 0,st43 a n m v (PG m x L) x)
 | 0,k,hn,hk=>by
  obtain ⟨k,rfl⟩:∃ o,k=o+1:=⟨k-1,by omega⟩;exact Ae (rdz rfl)
 | L+1,k,hn,hk=>by
  obtain ⟨k,rfl⟩:∃ o,k=o+1:=⟨k-1,by omega⟩;have hL:=HJ (Nat.succ_pos L) hn;have h0:ilt 0 (ofNat (L+1))=true:=decide_eq_true (by show (0:Int)<((L+1:Nat):Int); omega);unfold PG;cases h1:ieq (x L) (ofNat (m-1)) with
  | true =>rw [Ae (rdp hL hM (Nat.lt_succ_self L) h0 h1)];exact r43 hM L k (by omega) (by omega)
  | false=>exact Ae (rds hL hM (Nat.lt_succ_self L) h0 h1)
section
variable (hM:wr .i64 (Ay (ofNat m) 1)=ofNat (m-1)) (hn:L <= 4611686018427387904) {q:Nat} (hp:PG m x L=q)
include hM hn hp
theorem Ahs (h1:ieq (ofNat q) 0=true):(C43 (Fu s2 0) (st43 a n m v L x)).sem=some (.rt,st43 a n m v q x):=by
 have hr:=r43 (a:=a) (n:=n) (v:=v) (x:=x) hM L 4611686018427387905 hn (by omega);rw [hp] at hr;exact DW.ok (.a hr <| .k h1 <| .l) (by kernel_rfl)
theorem Aht (h1:ieq (ofNat q) 0=false):(J43 (Fu s2 0) (st43 a n m v L x)).sem=some (.nm,st43 a n m v q (Tr x (q-1) (wr .i64 (Aj (x (q-1)) 1)))):=by
 have hr:=r43 (a:=a) (n:=n) (v:=v) (x:=x) hM L 4611686018427387905 hn (by omega);rw [hp] at hr;have h0:0<q:=Nat.pos_of_ne_zero λh=>by rw [h] at h1; cases h1
 have hq1:q-1<q:=by omega
 have hq:=HJ h0 (by have:=AcS m x L; omega);exact DW.ok (.a hr <| .k h1 <| .k (cg1 (λzz0=>Av (ile 0 zz0) (ilt zz0 (ofNat q))) hq (Af hq1)) <| .k (cg1 (λzz0=>nlt (toN zz0) q) hq (decide_eq_true hq1)) <| .k (cg1 (λzz0=>Av (ile 0 zz0) (ilt zz0 (ofNat q))) hq (Af hq1)) <| .k (cg1 (λzz0=>nlt (toN zz0) q) hq (decide_eq_true hq1)) <| .e (congrArg (λg=>(Ex.nm,stG a n m v q g false)) (cg1 (λz=>BF (λi=>iV (x i)) (toN z) (iV (wr .i64 (Aj (x (toN z)) 1)))) hq (Ajq x (q-1) _)))) (by kernel_rfl)
end
def stB (a n:Int) (m:Nat) (v:Nat->E6) (L:Nat) (x:Nat->Int):St:=⟨jsV 128 0 (λ_=>A5) [(0,.ptr 0 0),(2,bV false)],(st43 a n m v L x).h⟩
theorem Aoi (h1:ieq (ofNat m) 0=true):(C43 (Fu L8 1) (stB a n m v L x)).sem=some (.rt,st43 a n m v L x):=DW.ok (.k h1 <| .l) (by kernel_rfl)
theorem Aoj (ha:Ci L 1 8=true) (h1:ieq (ofNat m) 0=false) (h2:ieq (ofNat L) 0=true):(C43 (Fu L8 1) (stB a n m v L x)).sem=some (.ex 100,st43 a n m v (L+1) (K3 L x 0)):=DW.ok (.k h1 <| .k h2 <| .k ha <| .e (congrArg (λg=>(Ex.ex 100,stG a n m v (L+1) g false)) (Vl L x 0))) (by kernel_rfl)
theorem Aok (h1:ieq (ofNat m) 0=false) (h2:ieq (ofNat L) 0=false):(J43 (Fu L8 1) (stB a n m v L x)).sem=some (.nm,st43 a n m v L x):=DW.ok (.k h1 <| .k h2 <| .l) (by kernel_rfl)
theorem AkB:findLabel L8 1=some s1:=by kernel_rfl
theorem AaU:findLabel s1 2=some s2:=by kernel_rfl
theorem AnJ:findLabel s2 0=some s0:=by kernel_rfl
end
end Go.Proofs.YtkbgidbledjejaaGreat.En
