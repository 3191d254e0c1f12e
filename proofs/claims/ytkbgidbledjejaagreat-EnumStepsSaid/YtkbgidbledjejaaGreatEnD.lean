/-
  A cycle's turned ones are cycles with one least list: the law CycleTurns as a function. No conditions.
-/
import Derived.Test.YtkbgidbledjejaaGreatCyTc
namespace Go.Proofs.YtkbgidbledjejaaGreat.Ed
open Go.Sy
open Int (ofNat)
theorem CH {q:Nat->Bool}:∀ {d i:Nat},Az q d i=none↔∀ k,i <= k->k<i+d->q k=false
 | 0,i=>⟨λ_ k h1 h2=>by omega,λ_=>rfl⟩
 | d+1,i=>by
  cases hq:q i with
  | true =>rw [Fj hq];refine ⟨λh=>(by cases h),λh=>?_⟩;have:=h i (Nat.le_refl i) (by omega);rw [hq] at this;cases this
  | false =>
   rw [Gc hq,CH];refine ⟨λh k h1 h2=>?_,λh k h1 h2=>h k (by omega) (by omega)⟩;by_cases e:k=i
   ·rw [e]; exact hq
   ·exact h k (by omega) (by omega)
structure IsCycle (a:Int) (n:Nat) (f:Nat->E6):Prop where
 arch:ieq a 1=true ∨ ieq a 2=true
 lo:2 <= n
 hi:n <= 16
 legal:∀ i,i<n->DG a f i=false
 meets:∀ i,i<n->Hh n f i=false
 outer:2 <= AC (λk=>BW (f k)) n
 moves:2 <= AC (λk=>BK (f k)) n
 writes:∀ i,i<n->Bj n (Br (λk=>BK (f k)) n) (λi=>isW (f i)) 2 i=false
 crowd:∀ i,i<n->Bj n (Br (λk=>BW (f k)) n) (λ_=>true) 12 i=false
theorem Wb {n:Nat} {l:Nat->Int} {c:Nat->Bool} {q:Int} (h:∀ i,i<n->Bj n l c q i=false):crR n l c q=(0,false):=by
 unfold crR;rw [CH.2 λk _ h2=>h k (by omega)]
theorem Sx {n:Nat} {l:Nat->Int} {c:Nat->Bool} {q:Int} (h:(crR n l c q).2=false):∀ i,i<n->Bj n l c q i=false:=by
 unfold crR at h;cases hc:Az (Bj n l c q) n 0 with
 | some t=>rw [hc] at h; cases h
 | none=>exact λi hi=>CH.1 hc i (Nat.zero_le i) (by omega)
theorem IsCycle.ok {a:Int} {n:Nat} {f:Nat->E6} (h:IsCycle a n f):Gr a n f=(0,0):=by
 have e1:Ik a n f=(0,0):=by
  unfold Ik;rw [CH.2 λk _ h2=>h.legal k (by omega)];show (match Az (Hh n f) n 0 with | some t=>((41:Int),ofNat t) | none=>(0,0))=(0,0)
  rw [CH.2 λk _ h2=>h.meets k (by omega)]
 have c1:ilt (ofNat n) 2=false:=by rw [show (2:Int)=ofNat 2 from rfl,FM,decide_eq_false (by have:=h.lo; omega)]
 have c2:ilt 16 (ofNat n)=false:=by rw [show (16:Int)=ofNat 16 from rfl,FM,decide_eq_false (by have:=h.hi; omega)]
 have c3:ilt (Il n f) 2=false:=by unfold Il; rw [show (2:Int)=ofNat 2 from rfl,FM,decide_eq_false (by have:=h.outer; omega)]
 have c4:ilt (Jd n f) 2=false:=by unfold Jd; rw [show (2:Int)=ofNat 2 from rfl,FM,decide_eq_false (by have:=h.moves; omega)]
 rw [Zk h.arch];unfold La;rw [c1,c2,e1];show Un n f=(0,0);unfold Un;rw [c3,c4];show Rr n f=(0,0);unfold Rr;rw [Wb h.writes,Wb h.crowd]
theorem PZ {a:Int} {n:Nat} {f:Nat->E6} (h:ieq (AmL a n f) 0=true):IsCycle a n f:=by
 have h:=Cu h;unfold AmL at h;have ha:ieq a 1=true ∨ ieq a 2=true:=by
  cases ca:ieq a 1 with
  | true=>exact .inl rfl
  | false =>
   cases cb:ieq a 2 with
   | true=>exact .inr rfl
   | false =>unfold Gr at h;rw [ca,cb] at h;cases h
 rw [Zk ha] at h;unfold La at h;cases c1:ilt (ofNat n) 2 with
 | true=>rw [c1] at h; cases h
 | false =>
  cases c2:ilt 16 (ofNat n) with
  | true=>rw [c1,c2] at h; cases h
  | false =>
   rw [c1,c2] at h;have h:(match Ik a n f,ieq (Ik a n f).1 0 with | r,false=>r | _,true=>Un n f).1=0:=h
   cases c3:ieq (Ik a n f).1 0 with
   | false =>rw [c3] at h;have h:(Ik a n f).1=0:=h;rw [h] at c3;cases c3
   | true =>
    rw [c3] at h;have h:(Un n f).1=0:=h;have c3:=Cu c3;unfold Un at h;cases c4:ilt (Il n f) 2 with
    | true=>rw [c4] at h; cases h
    | false =>
     cases c5:ilt (Jd n f) 2 with
     | true=>rw [c4,c5] at h; cases h
     | false =>
      rw [c4,c5] at h;have h:(Rr n f).1=0:=h;unfold Rr at h;cases c6:(crR n (Br (λk=>BK (f k)) n) (λi=>isW (f i)) 2).2 with
      | true =>rw [show crR n (Br (λk=>BK (f k)) n) (λi=>isW (f i)) 2=((crR n (Br (λk=>BK (f k)) n) (λi=>isW (f i)) 2).1,true) from Prod.ext rfl c6] at h;cases h
      | false =>
       rw [show crR n (Br (λk=>BK (f k)) n) (λi=>isW (f i)) 2=((crR n (Br (λk=>BK (f k)) n) (λi=>isW (f i)) 2).1,false) from Prod.ext rfl c6] at h;cases c7:(crR n (Br (λk=>BW (f k)) n) (λ_=>true) 12).2 with
       | true =>rw [show crR n (Br (λk=>BW (f k)) n) (λ_=>true) 12=((crR n (Br (λk=>BW (f k)) n) (λ_=>true) 12).1,true) from Prod.ext rfl c7] at h;cases h
       | false =>
        have e1:Az (DG a f) n 0=none∧Az (Hh n f) n 0=none:=by
         unfold Ik at c3;cases d1:Az (DG a f) n 0 with
         | some t =>
          rw [d1] at c3;cases d2:ieq (Hn a (f t)) 0 with
          | true=>simp only [d2] at c3; cases c3
          | false=>simp only [d2] at c3; cases c3
         | none =>
          rw [d1] at c3;cases d2:Az (Hh n f) n 0 with
          | some t=>rw [d2] at c3; cases c3
          | none=>exact ⟨rfl,rfl⟩
        rw [show (2:Int)=ofNat 2 from rfl,FM] at c1;rw [show (16:Int)=ofNat 16 from rfl,FM] at c2;unfold Il at c4;rw [show (2:Int)=ofNat 2 from rfl,FM] at c4;unfold Jd at c5;rw [show (2:Int)=ofNat 2 from rfl,FM] at c5;have c1:=of_decide_eq_false c1;have c2:=of_decide_eq_false c2;have c4:=of_decide_eq_false c4;have c5:=of_decide_eq_false c5;exact ⟨ha,by omega,by omega,λi hi=>CH.1 e1.1 i (Nat.zero_le i) (by omega),λi hi=>CH.1 e1.2 i (Nat.zero_le i) (by omega),by omega,by omega,Sx c6,Sx c7⟩
theorem IsCycle.may {a:Int} {n:Nat} {f:Nat->E6} (h:IsCycle a n f):Bv n f=true:=Bh.2 λi hi=>by
 have h1:=h.legal i hi;unfold DG at h1;cases c:ieq (Hn a (f i)) 0 with
 | false=>rw [c] at h1; cases h1
 | true =>
  have c:=Cu c;rcases h.arch with ha | ha
  ·rw [Cu ha] at c; exact c
  ·rw [Cu ha] at c; exact c
noncomputable def tb18:AD:=(61,Um)::(22,Um)::(39,JF)::(59,QC)::(21,Kx)::[]
theorem tb18_ok:Al Tryz.prog Gl tb18:=.cons p48 <| .cons p49 <| .cons p69 <| .cons p65 <| .cons p42 .nil
end Go.Proofs.YtkbgidbledjejaaGreat.Ed
namespace Go.Proofs.YtkbgidbledjejaaGreat.En
section
variable (m:Nat) (fits opn:List Nat->Bool)
def E5:List Nat->Option (List Nat)
 | []=>none
 | x::r=>bif Nat.beq (x+1) m then E5 r else some ((x+1)::r)
def Ci:List Nat->Nat
 | []=>0
 | [x]=>x
 | _::y::r=>Ci (y::r)
def E2 (r:List Nat):Option (List Nat):=bif fits r && opn r then some (Ci r::r) else E5 m r
inductive GoL:List Nat->List (List Nat)->Option (List Nat)->Prop where
 | one (r:List Nat):GoL r [r] (E2 m fits opn r)
 | cons {r r':List Nat} {l:List (List Nat)} {o:Option (List Nat)} (h:E2 m fits opn r=some r') (t:GoL r' l o):GoL r (r::l) o
def EX:Nat->List Nat->List (List Nat)
 | 0,r=>[r]
 | k+1,r=>r::(bif fits r && opn r then ((List.range m).drop (Ci r)).flatMap λe=>EX k (e::r) else [])
variable {m fits opn}
theorem GoL.app {r r':List Nat} {l l':List (List Nat)} {o:Option (List Nat)} (h:GoL m fits opn r l (some r')) (t:GoL m fits opn r' l' o):GoL m fits opn r (l++l') o:=by
 generalize hq:some r'=q at h
 induction h with
 | one r=>exact .cons hq.symm t
 | cons h _ ih=>exact .cons h (ih hq)
theorem QL {r:List Nat} {x:Nat} (h:x+1=m):E5 m (x::r)=E5 m r:=by
 rw [E5,show Nat.beq (x+1) m=true by rw [h]; exact Nat.beq_refl m];rfl
theorem QK {r:List Nat} {x:Nat} (h:x+1<m):E5 m (x::r)=some ((x+1)::r):=by
 rw [E5,show Nat.beq (x+1) m=false by
  cases hb:Nat.beq (x+1) m with
  | false=>rfl
  | true=>have:=Nat.eq_of_beq_eq_true hb; omega]
 rfl
theorem Gp {r:List Nat} (h0:r ≠ []) (h:∀ x,x ∈ r->x<m):Ci r<m:=by
 induction r with
 | nil=>exact absurd rfl h0
 | cons x r ih =>
  cases r with
  | nil=>exact h x (by simp)
  | cons y r =>rw [Ci];exact ih (by simp) λz hz=>h z (by simp at hz ⊢; exact .inr hz)
theorem Q3 {j:Nat} (h:j<m):(List.range m).drop j=j::(List.range m).drop (j+1):=by
 rw [List.drop_eq_getElem_cons (by simpa using h)];simp
theorem TQ {k:Nat} {r:List Nat} (ih:∀ e,e<m->GoL m fits opn (e::r) (EX m fits opn k (e::r)) (E5 m (e::r))):∀ d j,j<m->j+d=m->GoL m fits opn (j::r) (((List.range m).drop j).flatMap λe=>EX m fits opn k (e::r)) (E5 m r)
 | 0,j,hj,hd=>by omega
 | d+1,j,hj,hd=>by
  have h:=ih j hj;rw [Q3 hj,List.flatMap_cons];by_cases e:j+1=m
  ·rw [e,List.drop_eq_nil_of_le (by simp),List.flatMap_nil,List.append_nil]
   rw [QL e] at h;exact h
  ·rw [QK (by omega)] at h
   exact h.app (TQ ih d (j+1) (by omega) (by omega))
theorem Ady (n:Nat) (hop:∀ r,fits r=true->opn r=true->r.length<n):∀ k (r:List Nat),r ≠ []->(∀ x,x ∈ r->x<m)->n <= r.length+k->GoL m fits opn r (EX m fits opn k r) (E5 m r)
 | 0,r,h0,hm,hn=>by
  have h:E2 m fits opn r=E5 m r:=by
   unfold E2;cases hf:fits r with
   | false=>rfl
   | true =>
    cases ho:opn r with
    | false=>rfl
    | true=>have:=hop r hf ho; omega
  rw [<- h];exact .one r
 | k+1,r,h0,hm,hn=>by
  rw [EX];cases hc:fits r && opn r with
  | false =>
   have h:E2 m fits opn r=E5 m r:=by
    unfold E2;rw [hc];rfl
   rw [<- h];exact .one r
  | true =>
   have h:E2 m fits opn r=some (Ci r::r):=by
    unfold E2;rw [hc];rfl
   have hf:=Gp h0 hm;exact .cons h (TQ (λe he=>Ady n hop k (e::r) (by simp) (λx hx=>by
    rcases List.mem_cons.1 hx with rfl | hx
    ·exact he
    ·exact hm x hx) (by simp; omega)) (m-Ci r) (Ci r) hf (by omega))
theorem Ajx (n:Nat) (hn:0<n) (hop:∀ r,fits r=true->opn r=true->r.length<n) (hm:0<m):GoL m fits opn [0] ((List.range m).flatMap λe=>EX m fits opn (n-1) [e]) none:=by
 have:=TQ (r:=[]) (k:=n-1) (λe he=>Ady n hop (n-1) [e] (by simp) (λx hx=>by
  simp at hx;omega) (by simp; omega)) m 0 hm (by omega)
 exact this
end
section
variable (m:Nat) (ok:List Nat->Nat->Bool) (good:List Nat->Bool)
def allL:Nat->List Nat->List (List Nat)
 | 0,r=>[r]
 | k+1,r=>r::(List.range m).flatMap λe=>bif ok r e then allL k (e::r) else []
def onL (keep:Nat->Bool):Nat->List Nat->List (List Nat)
 | 0,r=>bif good r then [r] else []
 | k+1,r=>(bif good r then [r] else [])++((List.range m).filter keep).flatMap λe=>bif ok r e then onL keep k (e::r) else []
variable {m ok good}
theorem Ux:∀ k (r d:List Nat),d ∈ allL m ok k r->∃ x,d=x++r∧d.length <= r.length+k
 | 0,r,d,h=>by
  simp [allL] at h;exact ⟨[],by simp [h]⟩
 | k+1,r,d,h=>by
  rw [allL] at h;rcases List.mem_cons.1 h with rfl | h
  ·exact ⟨[],by simp⟩
  ·obtain ⟨e,_,he⟩:=List.mem_flatMap.1 h
   cases ho:ok r e with
   | false=>rw [ho] at he; cases he
   | true =>rw [ho] at he;obtain ⟨x,hx,hl⟩:=Ux k (e::r) d he;exact ⟨x++[e],by rw [hx]; simp,by simp at hl; omega⟩
theorem De {α β:Type} (p:β->Bool) (f:α->List β):∀ l:List α,(l.flatMap f).filter p=l.flatMap λa=>(f a).filter p
 | []=>rfl
 | a::l=>by rw [List.flatMap_cons,List.flatMap_cons,List.filter_append,De p f l]
theorem Hb {α β:Type} (p:α->Bool) (f:α->List β) (h:∀ a,p a=false->f a=[]):∀ l:List α,(l.filter p).flatMap f=l.flatMap f
 | []=>rfl
 | a::l=>by
  cases hp:p a with
  | true=>rw [List.filter_cons_of_pos hp,List.flatMap_cons,List.flatMap_cons,Hb p f h l]
  | false=>rw [List.filter_cons_of_neg (by rw [hp]; decide),List.flatMap_cons,h a hp,Hb p f h l]; rfl
theorem D6 {α β:Type} {f g:α->List β}:∀ {l:List α},(∀ a,a ∈ l->f a=g a)->l.flatMap f=l.flatMap g
 | [],_=>rfl
 | a::l,h=>by
  rw [List.flatMap_cons,List.flatMap_cons,h a (by simp),D6 λb hb=>h b (by simp [hb])]
theorem Qs (r:List Nat):[r].filter good=bif good r then [r] else []:=by
 cases h:good r with
 | true=>rw [List.filter_cons_of_pos h]; rfl
 | false=>rw [List.filter_cons_of_neg (by rw [h]; decide)]; rfl
theorem Acx {keep:Nat->Bool} (hk:∀ d,good d=true->∀ e,e ∈ d->keep e=true):∀ k r,onL m ok good keep k r=(allL m ok k r).filter good
 | 0,r=>(Qs r).symm
 | k+1,r=>by
  show (bif good r then [r] else [])++_=([r]++(List.range m).flatMap λe=>bif ok r e then allL m ok k (e::r) else []).filter good;rw [List.filter_append,Qs,De];congr 1;rw [D6 (g:=λe=>(bif ok r e then allL m ok k (e::r) else []).filter good) λe _=>by
   cases ok r e with
   | false=>rfl
   | true=>exact Acx hk k (e::r)]
  refine Hb keep _ (λe he=>?_) _;cases ok r e with
  | false=>rfl
  | true =>show (allL m ok k (e::r)).filter good=[];rw [List.filter_eq_nil_iff];intro d hd hg;obtain ⟨x,hx,_⟩:=Ux k (e::r) d hd;have:=hk d hg e (by rw [hx]; simp);rw [he] at this;cases this
theorem Yc {fits opn:List Nat->Bool} (n:Nat) (hf:∀ r e,r ≠ []->fits (e::r)=(ok r e && Nat.ble (Ci r) e)) (ho:∀ r e,r ≠ []->ok r e=true->Ci r <= e)
  (hc:∀ r x,r ≠ []->fits r=true->opn r=false->x ≠ []->(x++r).length <= n->good (x++r)=true->False) (hop:∀ r,fits r=true->opn r=true->r.length<n):∀ k (r:List Nat),r ≠ []->fits r=true->r.length+k=n ->
  (EX m fits opn k r).filter (λd=>fits d && good d)=(allL m ok k r).filter good
 | 0,r,h0,hr,hn=>by
  rw [EX,allL];cases hg:good r with
  | true=>rw [List.filter_cons_of_pos (by rw [hr,hg]; rfl),List.filter_cons_of_pos hg]; rfl
  | false=>rw [List.filter_cons_of_neg (by rw [hr,hg]; decide),List.filter_cons_of_neg (by rw [hg]; decide)]; rfl
 | k+1,r,h0,hr,hn=>by
  have h1:∀ l l':List (List Nat),l.filter (λd=>fits d && good d)=l'.filter good->(r::l).filter (λd=>fits d && good d)=(r::l').filter good:=λl l' h=>by
   cases hg:good r with
   | true=>rw [List.filter_cons_of_pos (by rw [hr,hg]; rfl),List.filter_cons_of_pos hg,h]
   | false=>rw [List.filter_cons_of_neg (by rw [hr,hg]; decide),List.filter_cons_of_neg (by rw [hg]; decide),h]
  rw [EX,allL];refine h1 _ _ ?_;rw [hr,Bool.true_and];cases hq:opn r with
  | false =>
   show []=_
   symm
   rw [List.filter_eq_nil_iff];intro d hd hg;obtain ⟨e,_,he⟩:=List.mem_flatMap.1 hd;cases hoe:ok r e with
   | false=>rw [hoe] at he; cases he
   | true =>rw [hoe] at he;obtain ⟨x,hx,hl⟩:=Ux k (e::r) d he;refine hc r (x++[e]) h0 hr hq (by simp) (by simp at hl ⊢; rw [hx] at hl; simp at hl; omega) ?_;rw [show x++[e]++r=d by rw [hx]; simp];exact hg
  | true =>
   show (((List.range m).drop (Ci r)).flatMap λe=>EX m fits opn k (e::r)).filter _=_;rw [De,De];have hcut:∀ e,e<Ci r->ok r e=false:=λe he=>by
    cases hoe:ok r e with
    | false=>rfl
    | true=>have:=ho r e h0 hoe; omega
   have hd:((List.range m).drop (Ci r)).flatMap (λe=>(bif ok r e then allL m ok k (e::r) else []).filter good)=(List.range m).flatMap λe=>(bif ok r e then allL m ok k (e::r) else []).filter good:=by
    conv=>rhs; rw [<- List.take_append_drop (Ci r) (List.range m),List.flatMap_append]
    rw [show ((List.range m).take (Ci r)).flatMap (λe=>(bif ok r e then allL m ok k (e::r) else []).filter good)=[] from by
     rw [List.flatMap_eq_nil_iff];intro e he;rw [List.take_range] at he;rw [hcut e (by simp at he; omega)];rfl]
    rfl
   rw [<- hd];refine D6 λe _=>?_;have hfe:=hf r e h0;cases hoe:ok r e with
   | true =>
    have hfe:fits (e::r)=true:=by
     rw [hfe,hoe,Bool.true_and];exact Nat.ble_eq_true_of_le (ho r e h0 hoe)
    exact Yc n hf ho hc hop k (e::r) (by simp) hfe (by simp; omega)
   | false =>
    have hfe:fits (e::r)=false:=by rw [hfe,hoe]; rfl
    have:EX m fits opn k (e::r)=[e::r]:=by
     cases k with
     | zero=>rfl
     | succ k=>rw [EX,hfe]; rfl
    rw [this,List.filter_cons_of_neg (by rw [hfe]; simp)];rfl
end
end Go.Proofs.YtkbgidbledjejaaGreat.En
namespace Go.Proofs.YtkbgidbledjejaaGreat.En
open Go.Sy Go Go.Proofs.YtkbgidbledjejaaGreat.Ed
def wd (d:List Nat) (i:Nat):Nat:=d.reverse.getD i 0
theorem Iv {x r:List Nat} {i:Nat} (h:i<r.length):wd (x++r) i=wd r i:=by
 unfold wd;rw [List.reverse_append,List.getD_eq_getElem?_getD,List.getD_eq_getElem?_getD,List.getElem?_append_left (by simpa using h)]
theorem KB {d:List Nat} {i:Nat} (h:i<d.length):wd d i ∈ d:=by
 unfold wd;rw [List.getD_eq_getElem?_getD,List.getElem?_eq_getElem (by simpa using h)];exact List.mem_reverse.1 (List.getElem_mem (by simpa using h))
theorem Akl {d:List Nat} {e:Nat} (h:e ∈ d):∃ i,i<d.length∧wd d i=e:=by
 obtain ⟨i,hi,he⟩:=List.getElem_of_mem (List.mem_reverse.2 h);refine ⟨i,by simpa using hi,?_⟩;unfold wd;rw [List.getD_eq_getElem?_getD,List.getElem?_eq_getElem hi,he];rfl
theorem Z0 {r:List Nat} (h:r ≠ []):wd r 0=Ci r:=by
 induction r with
 | nil=>exact absurd rfl h
 | cons x r ih =>
  cases r with
  | nil=>rfl
  | cons y r =>rw [Ci,<- ih (by simp)];exact Iv (x:=[x]) (r:=y::r) (by simp)
theorem Gz {x:Nat} {r:List Nat}:wd (x::r) r.length=x:=by
 unfold wd;rw [List.reverse_cons,List.getD_eq_getElem?_getD,List.getElem?_append_right (by simp)];simp
def AhR (e:E6):Bool:=(ieq e.src 1 || ieq e.src 2) && (ieq e.dst 1 || ieq e.dst 2)
theorem Abo:(List.range 112).all (λk=>AhR (B6 k))=true:=by kernel_rfl
theorem MI {e:E6} (h:AA e=0):(e.src=1 ∨ e.src=2)∧(e.dst=1 ∨ e.dst=2):=by
 have h2:AhR e=true:=by
  rcases BH e with ⟨k,hk,_,_,he,_⟩ | ⟨h2,_⟩
  ·rw [<- he]
   exact List.all_eq_true.1 Abo k (by simpa using hk)
  ·rw [h2] at h
   cases h
 unfold AhR at h2;simp only [Bool.and_eq_true,Bool.or_eq_true] at h2;exact ⟨h2.1.imp Cu Cu,h2.2.imp Cu Cu⟩
section
variable {n:Nat} {h:Nat->Int}
theorem Ac5 (hm:∀ i,i<n->Fw n h (D9 n h) i=h i) {i j:Nat} (hij:i+j<n) (he:∀ t,t<j->h (i+t)=h t) (hl:h (i+j)<h j):False:=by
 have hn:0<n:=by omega
 refine (PN n h hn).2 i (by omega) ⟨j,by omega,λt ht=>?_,?_⟩
 ·rw [hm t (by omega)]
  unfold Fw;rw [Nat.mod_eq_of_lt (by omega)];exact he t ht
 ·rw [hm j (by omega)]
  unfold Fw;rw [Nat.mod_eq_of_lt hij];exact hl
end
section
variable {a:Int} {n:Nat} {f:Nat->E6} (hc:IsCycle a n f)
include hc
theorem AlV {i:Nat} (hi:i<n):(f i).dst=(f ((i+1) % n)).src:=by
 have h:=hc.meets i hi;unfold Hh at h;exact Cu (by simpa [AI] using h)
theorem AkT {A B:Int} (h1:∀ i,i<n->(f i).dst=A ∨ (f i).dst=B) (hno:∀ i,i<n->(f i).src=A->(f i).dst=B->False) {i:Nat} (hi:i<n) (hA:(f i).dst=A):∀ t,(f ((i+t) % n)).dst=A
 | 0=>by rw [Nat.add_zero,Nat.mod_eq_of_lt hi]; exact hA
 | t+1=>by
  have hn:0<n:=by omega
  have h:=AlV hc (Nat.mod_lt (i+t) hn);rw [AkT h1 hno hi hA t,Nat.mod_add_mod] at h;rcases h1 ((i+t+1) % n) (Nat.mod_lt _ hn) with h2 | h2
  ·exact h2
  ·exact absurd (hno _ (Nat.mod_lt _ hn) h.symm h2) id
theorem round {A B:Int} (h1:∀ i,i<n->(f i).dst=A ∨ (f i).dst=B) (hno:∀ i,i<n->(f i).src=A->(f i).dst=B->False) {i:Nat} (hi:i<n) (hA:(f i).dst=A) {k:Nat} (hk:k<n):(f k).src=A:=by
 have hn:0<n:=by omega
 have h:=AkT hc h1 hno hi hA (k+n-1+(n-i));have e:(i+(k+n-1+(n-i))) % n=(k+n-1) % n:=by rw [show i+(k+n-1+(n-i))=k+n-1+n by omega,Nat.add_mod_right]
 rw [e] at h;have h2:=AlV hc (Nat.mod_lt (k+n-1) hn);rw [h,Nat.mod_add_mod,show k+n-1+1=k+n by omega,Nat.add_mod_right,Nat.mod_eq_of_lt hk] at h2;exact h2.symm
end
section
variable (a:Int) (v:Nat->E6)
def wE (d:List Nat) (i:Nat):E6:=v (wd d i)
structure Good (d:List Nat):Prop where
 cyc:IsCycle a d.length (wE v d)
 own:∀ i,i<d.length->Mx d.length (wE v d) i=wE v d i
end
section
variable {a:Int} {v:Nat->E6} {m:Nat} (hv:∀ i,i<m->AA (v i)=0) (hr:∀ i j,i<j->j<m->Aj (v i)<Aj (v j))
def Hop (r:List Nat):Prop:=∃ i j,i+j<r.length∧(∀ t,t<j->wd r (i+t)=wd r t)∧wd r (i+j)<wd r j
include hr in
theorem Ajt {x r:List Nat} (hm:∀ e,e ∈ x++r->e<m) (h:Hop r) (hg:Good a v (x++r)):False:=by
 obtain ⟨i,j,h1,h2,h3⟩:=h;refine Ac5 (h:=λi=>Aj (wE v (x++r) i)) (n:=(x++r).length) (i:=i) (j:=j) (λk hk=>?_) (by simp; omega) (λt ht=>?_) ?_
 ·have h:=congrArg Aj (hg.own k hk)
  exact h
 ·show Aj (v (wd (x++r) (i+t)))=Aj (v (wd (x++r) t))
  rw [Iv (by omega),Iv (by omega),h2 t ht]
 ·show Aj (v (wd (x++r) (i+j)))<Aj (v (wd (x++r) j))
  rw [Iv h1,Iv (by omega)];refine hr _ _ h3 (hm _ (List.mem_append_right _ (KB (by omega))))
include hv in
theorem AdZ {x r:List Nat} {y:Nat} (hm:∀ e,e ∈ x++y::r->e<m) (hne:(v y).dst ≠ (v (Ci (y::r))).src) (hno:∀ e,e<m->(v e).src=(v y).dst->(v e).dst=(v (Ci (y::r))).src->False) (hg:Good a v (x++y::r)):False:=by
 have hc:=hg.cyc;have hin:∀ i,i<(x++y::r).length->wd (x++y::r) i<m:=λi hi=>hm _ (KB hi);have hy:y<m:=hm y (by simp);have hf:Ci (y::r)<m:=Gp (by simp) λe he=>hm e (List.mem_append_right _ he);have h1:=(MI (hv y hy)).2;have h2:=(MI (hv _ hf)).1;have hl:wd (x++y::r) r.length=y:=by rw [Iv (by simp),Gz]
 have h0:wd (x++y::r) 0=Ci (y::r):=by rw [Iv (by simp),Z0 (by simp)]
 have key:∀ i,i<(x++y::r).length->(wE v (x++y::r) i).dst=(v y).dst ∨ (wE v (x++y::r) i).dst=(v (Ci (y::r))).src:=λi hi=>by
  rcases (MI (hv _ (hin i hi))).2 with h | h
  ·rcases h1 with g | g
   ·exact .inl (h.trans g.symm)
   ·rcases h2 with k | k
    ·exact .inr (h.trans k.symm)
    ·exact absurd (g.trans k.symm) hne
  ·rcases h1 with g | g
   ·rcases h2 with k | k
    ·exact absurd (g.trans k.symm) hne
    ·exact .inr (h.trans k.symm)
   ·exact .inl (h.trans g.symm)
 have:=round hc (A:=(v y).dst) (B:=(v (Ci (y::r))).src) key (λi hi e1 e2=>hno _ (hin i hi) e1 e2) (i:=r.length) (by simp; omega) (by unfold wE; rw [hl]) (k:=0) (by simp; omega);unfold wE at this;rw [h0] at this;exact hne this.symm
def AjY (v:Nat->E6) (m e:Nat):Prop:=(v e).src=(v e).dst ∨ ((∃ i,i<m∧(v i).src=1∧(v i).dst=2)∧∃ i,i<m∧(v i).src=2∧(v i).dst=1)
include hv in
theorem AfN {d:List Nat} (hm:∀ e,e ∈ d->e<m) (hg:Good a v d) {e:Nat} (he:e ∈ d):AjY v m e:=by
 have hc:=hg.cyc;have hin:∀ i,i<d.length->wd d i<m:=λi hi=>hm _ (KB hi);obtain ⟨k,hk,hke⟩:=Akl he;have back:∀ A B:Int,A ≠ B->(∀ z:Int,z=1 ∨ z=2->z=A ∨ z=B)->(v e).src=A->(v e).dst=B->∃ i,i<m∧(v i).src=B∧(v i).dst=A:=λA B hne hz hs hd=>by
  refine Classical.byContradiction λhno=>?_;have:=round hc (A:=B) (B:=A) (λi hi=>(hz _ (MI (hv _ (hin i hi))).2).symm) (λi hi e1 e2=>hno ⟨_,hin i hi,e1,e2⟩) hk (by unfold wE; rw [hke]; exact hd) hk;unfold wE at this;rw [hke,hs] at this;exact hne this
 have hem:=hm e he;rcases (MI (hv e hem)).1 with h1 | h1 <;> rcases (MI (hv e hem)).2 with h2 | h2
 ·exact .inl (h1.trans h2.symm)
 ·exact .inr ⟨⟨e,hem,h1,h2⟩,back 1 2 (by decide) (λ_ h=>h) h1 h2⟩
 ·exact .inr ⟨back 2 1 (by decide) (λ_ h=>h.symm) h1 h2,⟨e,hem,h1,h2⟩⟩
 ·exact .inl (h1.trans h2.symm)
end
end Go.Proofs.YtkbgidbledjejaaGreat.En
namespace Go.Proofs.YtkbgidbledjejaaGreat.En
open Go.Sy Go Go.Proofs.YtkbgidbledjejaaGreat.Ed
section
variable {m:Nat} {fits opn:List Nat->Bool} {ok:List Nat->Nat->Bool}
theorem Ww:∀ k (r d:List Nat),(∀ x,x ∈ r->x<m)->d ∈ EX m fits opn k r->∀ x,x ∈ d->x<m
 | 0,r,d,hr,h=>by
  simp [EX] at h;rw [h];exact hr
 | k+1,r,d,hr,h=>by
  rw [EX] at h;rcases List.mem_cons.1 h with rfl | h
  ·exact hr
  ·cases hc:fits r && opn r with
   | false=>rw [hc] at h; cases h
   | true =>
    rw [hc] at h;obtain ⟨e,he,h⟩:=List.mem_flatMap.1 h;have he:e<m:=List.mem_range.1 (List.mem_of_mem_drop he);exact Ww k (e::r) d (λx hx=>by
     rcases List.mem_cons.1 hx with rfl | hx
     ·exact he
     ·exact hr x hx) h
theorem Ve {good good' keep:List Nat->Bool} {kp:Nat->Bool} (h:∀ d,(∀ x,x ∈ d->x<m)->good d=good' d):∀ k (r:List Nat),(∀ x,x ∈ r->x<m)->onL m ok good kp k r=onL m ok good' kp k r
 | 0,r,hr=>by rw [onL,onL,h r hr]
 | k+1,r,hr=>by
  rw [onL,onL,h r hr];congr 1;refine D6 λe he=>?_;have he:e<m:=List.mem_range.1 (List.mem_filter.1 he).1;rw [Ve h (keep:=keep) k (e::r) λx hx=>by
   rcases List.mem_cons.1 hx with rfl | hx
   ·exact he
   ·exact hr x hx]
end
section
variable (v:Nat->E6)
def okP (r:List Nat) (e:Nat):Bool:=match r with
 | []=>true
 | y::r=>ieq (v y).dst (v e).src && Nat.ble (Ci (y::r)) e
def Dh:List Nat->Bool
 | []=>true
 | e::r=>okP v r e
end
section
variable {a:Int} {v:Nat->E6} {m n:Nat} (hv:∀ i,i<m->AA (v i)=0) (hr:∀ i j,i<j->j<m->Aj (v i)<Aj (v j))
include hv hr
theorem ZI {opn good:List Nat->Bool} {keep:Nat->Bool} (hgood:∀ d,(∀ x,x ∈ d->x<m)->good d=true->Good a v d) (hop:∀ r,opn r=true->r.length<n)
  (hcut:∀ r,r ≠ []->(∀ x,x ∈ r->x<m)->opn r=false->n <= r.length ∨ Hop r ∨ ∃ y t,r=y::t∧(v y).dst ≠ (v (Ci (y::t))).src∧∀ e,e<m->(v e).src=(v y).dst->(v e).dst=(v (Ci (y::t))).src->False)
  (hk:∀ e,e<m->AjY v m e->keep e=true) (hn:0<n) :
  ((List.range m).flatMap λe=>EX m (Dh v) opn (n-1) [e]).filter (λd=>Dh v d && good d)=onL m (okP v) good keep n []:=by
 let gM:List Nat->Bool:=λd=>d.all (λe=>Nat.blt e m) && good d
 have gm:∀ d,(∀ x,x ∈ d->x<m)->gM d=good d:=λd h=>by
  show (d.all (λe=>Nat.blt e m) && good d)=good d;rw [show d.all (λe=>Nat.blt e m)=true from List.all_eq_true.2 λe he=>Nat.ble_eq_true_of_le (h e he)];rfl
 have lt:∀ {d},gM d=true->(∀ x,x ∈ d->x<m)∧good d=true:=fun {d} h=>by
  have h:(d.all (λe=>Nat.blt e m) && good d)=true:=h;rw [Bool.and_eq_true] at h;exact ⟨λx hx=>Nat.le_of_ble_eq_true (List.all_eq_true.1 h.1 x hx),h.2⟩
 rw [Ve (good':=gM) (keep:=gM) (λd h=>(gm d h).symm) n [] (λx hx=>by cases hx),Acx (λd hd e he=>hk e ((lt hd).1 e he) (AfN hv (lt hd).1 (hgood d (lt hd).1 (lt hd).2) he))];obtain ⟨k,rfl⟩:∃ k,n=k+1:=⟨n-1,by omega⟩;have g0:gM []=false:=by
  cases h:gM [] with
  | false=>rfl
  | true =>have:=(hgood [] (lt h).1 (lt h).2).cyc.lo;simp at this
 rw [allL,List.filter_cons_of_neg (by rw [g0]; decide),De,De];refine D6 λe he=>?_;have he:e<m:=List.mem_range.1 he;show (EX m (Dh v) opn k [e]).filter _=(allL m (okP v) k [e]).filter gM;rw [<- Yc (good:=gM) (fits:=Dh v) (opn:=opn) (k+1) (λr e h0=>?_) (λr e h0 h=>?_) (λr x hr0 hf ho h0 hl hg=>?_) (λr _ h=>hop r h) k [e] (by simp) rfl (by simp; omega)]
 ·refine List.filter_congr λd hd=>?_
  rw [gm d (Ww k [e] d (λx hx=>by simp at hx; omega) hd)]
 ·cases r with
  | nil=>exact absurd rfl h0
  | cons y r =>show okP v (y::r) e=_;unfold okP;simp only [Bool.and_assoc,Bool.and_self]
 ·cases r with
  | nil=>exact absurd rfl h0
  | cons y r =>unfold okP at h;rw [Bool.and_eq_true] at h;exact Nat.le_of_ble_eq_true h.2
 ·obtain ⟨hm,hgd⟩:=lt hg
  have hG:=hgood _ hm hgd;rcases hcut r hr0 (λy hy=>hm y (List.mem_append_right _ hy)) ho with h | h | ⟨y,t,rfl,h1,h2⟩
  ·have:0<x.length:=List.length_pos_iff.2 h0
   simp at hl;omega
  ·exact Ajt hr hm h hG
  ·exact AdZ hv hm h1 h2 hG
end
end Go.Proofs.YtkbgidbledjejaaGreat.En
namespace Go.Proofs.YtkbgidbledjejaaGreat.En
section
variable {m:Nat} {fits opn:List Nat->Bool}
theorem GoL.head {r:List Nat} {l:List (List Nat)} {o:Option (List Nat)} (h:GoL m fits opn r l o):∃ t,l=r::t:=by
 cases h with
 | one=>exact ⟨[],rfl⟩
 | cons _ _=>exact ⟨_,rfl⟩
theorem GoL.tail {r:List Nat} {l:List (List Nat)} {o:Option (List Nat)} (h:GoL m fits opn r (r::l) o):(l=[]∧E2 m fits opn r=o) ∨ ∃ r',E2 m fits opn r=some r'∧GoL m fits opn r' l o:=by
 cases h with
 | one=>exact .inl ⟨rfl,rfl⟩
 | cons h t=>exact .inr ⟨_,h,t⟩
theorem GoL.at {o:Option (List Nat)} {d:List Nat} {l2:List (List Nat)}:∀ (l1:List (List Nat)) {r:List Nat},GoL m fits opn r (l1++d::l2) o->(l2=[]∧E2 m fits opn d=o) ∨ ∃ r',E2 m fits opn d=some r'∧GoL m fits opn r' l2 o
 | [],r,h=>by
  obtain ⟨t,ht⟩:=h.head;injection ht with h1 h2
  subst h1;exact h.tail
 | c::l1,r,h=>by
  obtain ⟨t,ht⟩:=h.head;injection ht with h1 h2
  subst h1;rcases h.tail with ⟨h,_⟩ | ⟨r',_,h⟩
  ·exact absurd h (by simp)
  ·exact GoL.at l1 h
theorem Qp {p:List Nat->Bool}:∀ l:List (List Nat),l.filter p=[] ∨ ∃ l1 d l2,l=l1++d::l2∧l1.filter p=[]∧p d=true∧l.filter p=d::l2.filter p
 | []=>.inl rfl
 | c::l=>by
  cases hc:p c with
  | true=>exact .inr ⟨[],c,l,rfl,rfl,hc,List.filter_cons_of_pos hc⟩
  | false =>
   have hf:(c::l).filter p=l.filter p:=List.filter_cons_of_neg (by rw [hc]; decide);rcases Qp l with h | ⟨l1,d,l2,h1,h2,h3,h4⟩
   ·exact .inl (hf.trans h)
   ·exact .inr ⟨c::l1,d,l2,by rw [h1]; rfl,by rw [List.filter_cons_of_neg (by rw [hc]; decide)]; exact h2,h3,hf.trans h4⟩
end
end Go.Proofs.YtkbgidbledjejaaGreat.En
