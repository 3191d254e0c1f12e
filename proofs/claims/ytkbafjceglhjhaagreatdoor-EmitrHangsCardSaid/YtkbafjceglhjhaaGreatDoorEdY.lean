/-
  The least turned list of edges; a list turned. No conditions.
-/
import Derived.Test.YtkbafjceglhjhaaGreatDoorCyT
import Derived.Test.YtkbafjceglhjhaaGreatDoorEdX
import Derived.Test.YtkbafjceglhjhaaGreatDoorCyO
namespace Go.Proofs.YtkbafjceglhjhaaGreatDoor.Ed
open Go.Sy
open Int (ofNat)
theorem AcB {i n:Nat} (h:i<n):ieq (ofNat n) 0=false:=by rw [show (0:Int)=ofNat 0 from rfl,Dq,decide_eq_false (by omega)]
def EN (n:Nat) (h:Nat->Int) (p i:Nat):Int:=h ((p+i) % n)
def IB (n:Nat) (h:Nat->Int) (p q:Nat):Prop:=∃ s,s<n∧(∀ t,t<s->EN n h p t=EN n h q t)∧EN n h p s<EN n h q s
def ED (n:Nat) (h:Nat->Int) (p:Nat):Prop:=p<n∧∀ q,q<n->¬ IB n h q p
theorem EZ {n:Nat} {h:Nat->Int} {p:Nat}:¬ IB n h p p:=by
 rintro ⟨s,_,_,h3⟩
 omega
theorem Lo {n:Nat} {h:Nat->Int} {a b c:Nat} (h1:IB n h a b) (h2:IB n h b c):IB n h a c:=by
 obtain ⟨s,s1,s2,s3⟩:=h1;obtain ⟨r,r1,r2,r3⟩:=h2;rcases Nat.lt_trichotomy s r with e | e | e
 ·exact ⟨s,s1,λt ht=>(s2 t ht).trans (r2 t (by omega)),by rw [<- r2 s e]; exact s3⟩
 ·subst e
  exact ⟨s,s1,λt ht=>(s2 t ht).trans (r2 t ht),by omega⟩
 ·exact ⟨r,r1,λt ht=>(s2 t (by omega)).trans (r2 t ht),by rw [s2 r e]; exact r3⟩
theorem Lq (n:Nat) (h:Nat->Int) (p q:Nat):∀ m,m <= n->(∃ s,s<m∧(∀ t,t<s->EN n h p t=EN n h q t)∧EN n h p s ≠ EN n h q s) ∨ ∀ t,t<m->EN n h p t=EN n h q t
 | 0,_=>.inr λt ht=>absurd ht (Nat.not_lt_zero t)
 | m+1,hm=>by
  rcases Lq n h p q m (by omega) with ⟨s,h1,h2,h3⟩ | h1
  ·exact .inl ⟨s,by omega,h2,h3⟩
  ·by_cases e:EN n h p m=EN n h q m
   ·refine .inr λt ht=>?_
    by_cases et:t=m
    ·rw [et]; exact e
    ·exact h1 t (by omega)
   ·exact .inl ⟨m,by omega,h1,e⟩
theorem YJ {n:Nat} {h:Nat->Int} {p q:Nat} (hp:ED n h p) (hq:ED n h q):∀ t,t<n->EN n h p t=EN n h q t:=by
 rcases Lq n h p q n (Nat.le_refl n) with ⟨s,h1,h2,h3⟩ | h1
 ·rcases Int.lt_or_gt_of_ne h3 with e | e
  ·exact absurd ⟨s,h1,h2,e⟩ (hq.2 p hp.1)
  ·exact absurd ⟨s,h1,λt ht=>(h2 t ht).symm,e⟩ (hp.2 q hq.1)
 ·exact h1
theorem Nl (n:Nat) (h:Nat->Int):∀ m,0<m->∃ p,p<m∧∀ q,q<m->¬ IB n h q p
 | 0,hm=>absurd hm (Nat.lt_irrefl 0)
 | 1,_=>⟨0,by omega,λq hq=>by
   have:q=0:=by omega
   subst this;exact EZ⟩
 | m+2,_=>by
  obtain ⟨p,h1,h2⟩:=Nl n h (m+1) (by omega);by_cases e:IB n h (m+1) p
  ·refine ⟨m+1,by omega,λq hq hl=>?_⟩
   by_cases eq:q=m+1
   ·subst eq; exact EZ hl
   ·exact h2 q (by omega) (Lo hl e)
  ·refine ⟨p,by omega,λq hq hl=>?_⟩
   by_cases eq:q=m+1
   ·subst eq; exact e hl
   ·exact h2 q (by omega) hl
theorem UL (n:Nat) (h:Nat->Int) (a u:Nat):EN n h (a % n) u=h ((a+u) % n):=by
 unfold EN;rw [Nat.mod_add_mod]
theorem QQ {n:Nat} {h:Nat->Int} {i j s:Nat} (hs:s<n) (h1:∀ t,t<s->h ((i+t) % n)=h ((j+t) % n)) (h2:h ((j+s) % n)<h ((i+s) % n)):∀ p,i <= p->p <= i+s->¬ ED n h p:=by
 intro p hp1 hp2 hm;obtain ⟨hpn,hm⟩:=hm;refine hm ((j+(p-i)) % n) (Nat.mod_lt _ (by omega)) ⟨s-(p-i),by omega,λt ht=>?_,?_⟩
 ·rw [UL]
  unfold EN;have:=h1 (p-i+t) (by omega);rw [show i+(p-i+t)=p+t by omega,show j+(p-i+t)=j+(p-i)+t by omega] at this;exact this.symm
 ·rw [UL]
  unfold EN;rw [show j+(p-i)+(s-(p-i))=j+s by omega,show p+(s-(p-i))=i+s by omega];exact h2
theorem Mv {n:Nat} {h:Nat->Int} {lo hi:Nat} (hlt:lo<hi) (h1:∀ u,u<n->h ((hi+u) % n)=h ((lo+u) % n)) (hno:∀ p,p<n->p<hi->p ≠ lo->¬ ED n h p):∀ m p,p <= m->ED n h p->ED n h lo:=by
 intro m
 induction m with
 | zero =>
  intro p hp hm;by_cases e:p=lo
  ·rw [<- e]; exact hm
  ·exact absurd hm (hno p hm.1 (by omega) e)
 | succ m ih =>
  intro p hp hm;by_cases e:p=lo
  ·rw [<- e]; exact hm
  ·by_cases hph:p<hi
   ·exact absurd hm (hno p hm.1 hph e)
   ·have hpn:=hm.1
    have hr:∀ u,u<n->EN n h p u=EN n h (p-(hi-lo)) u:=λu _=>by
     unfold EN;have:=h1 ((p-hi+u) % n) (Nat.mod_lt _ (by omega));rw [Nat.add_mod_mod,Nat.add_mod_mod,show hi+(p-hi+u)=p+u by omega,show lo+(p-hi+u)=p-(hi-lo)+u by omega] at this;exact this
    refine ih (p-(hi-lo)) (by omega) ⟨by omega,λq hq hl=>?_⟩;obtain ⟨s,s1,s2,s3⟩:=hl;exact hm.2 q hq ⟨s,s1,λt ht=>(s2 t ht).trans (hr t (by omega)).symm,by rw [hr s s1]; exact s3⟩
theorem TL (n:Nat) (h:Nat->Int) (hn:0<n):∀ q i t s,i ≠ t->min i t<n->i <= 2 * n->t <= 2 * n+1->s <= n->(∀ u,u<s->h ((i+u) % n)=h ((t+u) % n)) ->
  (∀ p,p<n->p<max i t->p ≠ min i t->¬ ED n h p)->3 * n+1-(i+t+s)<q->ED n h (Ew n h q i t s):=by
 intro q;obtain ⟨p0,hp0⟩:∃ p,ED n h p:=by
  obtain ⟨p,h1,h2⟩:=Nl n h n hn;exact ⟨p,h1,h2⟩
 have hp0n:=hp0.1
 induction q with
 | zero=>intro i t s _ _ _ _ _ _ _ hq; exact absurd hq (Nat.not_lt_zero _)
 | succ q ih =>
  intro i t s hne hmin hi ht hs heq hno hq;unfold Ew;split
  ·rename_i hx
   have hmin0:∀ lo,lo=min i t->ED n h lo->ED n h (min (min i t) (n-1)):=λlo hlo hm=>by
    rw [show min (min i t) (n-1)=lo by omega]; exact hm
   by_cases c:n <= i ∨ n <= t
   ·refine hmin0 (min i t) rfl ?_
    by_cases e:p0=min i t
    ·rw [<- e]; exact hp0
    ·exact absurd hp0 (hno p0 hp0n (by omega) e)
   ·refine hmin0 (min i t) rfl ?_
    have hsn:s=n:=by omega
    subst hsn;by_cases c2:i<t
    ·rw [show min i t=i by omega]
     exact Mv c2 (λu hu=>(heq u hu).symm) (λp hp h1 h2=>hno p hp (by omega) (by omega)) p0 p0 (Nat.le_refl _) hp0
    ·rw [show min i t=t by omega]
     exact Mv (show t<i by omega) (λu hu=>heq u hu) (λp hp h1 h2=>hno p hp (by omega) (by omega)) p0 p0 (Nat.le_refl _) hp0
  ·rename_i hx
   split
   ·rename_i he
    refine ih i t (s+1) hne hmin hi ht (by omega) (λu hu=>?_) hno (by omega);by_cases eu:u=s
    ·rw [eu]; exact he
    ·exact heq u (by omega)
   ·rename_i he
    split
    ·rename_i hg
     have hsk:=QQ (by omega) heq hg;split
     ·rename_i e
      exact ih (i+s+1) (t+1) 0 (by omega) (by omega) (by omega) (by omega) (by omega) (λu hu=>absurd hu (Nat.not_lt_zero u)) (λp hp h1 h2=>by
       by_cases hr:i <= p∧p <= i+s
       ·exact hsk p hr.1 hr.2
       ·exact hno p hp (by omega) (by omega)) (by omega)
     ·rename_i e
      exact ih (i+s+1) t 0 (by omega) (by omega) (by omega) (by omega) (by omega) (λu hu=>absurd hu (Nat.not_lt_zero u)) (λp hp h1 h2=>by
       by_cases hr:i <= p∧p <= i+s
       ·exact hsk p hr.1 hr.2
       ·exact hno p hp (by omega) (by omega)) (by omega)
    ·rename_i hg
     have hg2:h ((i+s) % n)<h ((t+s) % n):=by omega
     have hsk:=QQ (by omega) (λu hu=>(heq u hu).symm) hg2;split
     ·rename_i e
      exact ih i (t+s+2) 0 (by omega) (by omega) (by omega) (by omega) (by omega) (λu hu=>absurd hu (Nat.not_lt_zero u)) (λp hp h1 h2=>by
       by_cases hr:t <= p∧p <= t+s
       ·exact hsk p hr.1 hr.2
       ·exact hno p hp (by omega) (by omega)) (by omega)
     ·rename_i e
      exact ih i (t+s+1) 0 (by omega) (by omega) (by omega) (by omega) (by omega) (λu hu=>absurd hu (Nat.not_lt_zero u)) (λp hp h1 h2=>by
       by_cases hr:t <= p∧p <= t+s
       ·exact hsk p hr.1 hr.2
       ·exact hno p hp (by omega) (by omega)) (by omega)
theorem TK (n:Nat) (h:Nat->Int) (hn:0<n):ED n h (Du n h) :=
 TL n h hn _ 0 1 0 (by omega) (by omega) (by omega) (by omega) (by omega) (λu hu=>absurd hu (Nat.not_lt_zero u)) (λp _ h1 h2=>by omega) (by omega)
def DL (n:Nat) (b:Int):Nat:=toN (sel (ilt (Al b (ofNat n)) 0) (Al b (ofNat n)+ofNat n) (Al b (ofNat n)))
def Jl (n:Nat) (f:Nat->E6) (b:Int) (i:Nat):E6:=f ((DL n b+i) % n)
theorem KY (b:Int) {n:Nat} (h:0<n):-(n:Int)<Al b (ofNat n)∧Al b (ofNat n)<(n:Int):=by
 unfold Al;have h1:(0:Int)<ofNat n:=by simp only [Int.ofNat_eq_natCast]; omega
 exact ⟨Int.lt_tmod_of_pos b h1,Int.tmod_lt_of_pos b h1⟩
theorem VS {b:Int} {n:Nat} (h:0<n) (hn:n <= 4611686018427387904) (hb:ilt (Al b (ofNat n)) 0=true):wr .i64 (Ah (Al b (ofNat n)) (ofNat n))=ofNat (DL n b)∧DL n b<n:=by
 obtain ⟨h1,h2⟩:=KY b h;have h3:Al b (ofNat n)<0:=by simpa [ilt] using hb
 have h4:DL n b=(Al b (ofNat n)+(n:Int)).toNat:=by unfold DL; rw [hb]; rfl
 rw [h4];generalize Al b (ofNat n)=r at h1 h2 h3 ⊢;refine ⟨?_,by omega⟩;unfold wr Ah IntKind.wrap;simp [IntKind.bits,IntKind.signed];omega
theorem VQ {b:Int} {n:Nat} (h:0<n) (hb:ilt (Al b (ofNat n)) 0=false):Al b (ofNat n)=ofNat (DL n b)∧DL n b<n:=by
 obtain ⟨h1,h2⟩:=KY b h;have h3:¬ Al b (ofNat n)<0:=by simpa [ilt] using hb
 have h4:DL n b=(Al b (ofNat n)).toNat:=by unfold DL; rw [hb]; rfl
 rw [h4];generalize Al b (ofNat n)=r at h1 h2 h3 ⊢;refine ⟨?_,by omega⟩;simp only [Int.ofNat_eq_natCast];omega
theorem VT {n k:Nat} (h:k<n):DL n (ofNat k)=k:=by
 unfold DL;rw [D5,Nat.mod_eq_of_lt h];have:ilt (ofNat k) 0=false:=by simp [ilt]
 rw [this];rfl
def L2 (n:Nat) (f:Nat->E6) (b:Int):Lp:=⟨bmK 39 0 [0,5,6,7,8],2,bmK 39 0 [5],2,n+1⟩
def X3 (n:Nat) (f:Nat->E6) (b:Int) (k:Int) (i:Nat) (x:Nat->V) (j:Nat->V):St:=⟨jsV 39 0 j [(0,.sl 6 n (λi=>eV (f i))),(5,.ref 1),(6,nV n),(7,iV k),(8,nV i)],[.row 76 6 0 Ac,.row 76 6 i x]⟩
def Ns (n:Nat) (f:Nat->E6) (b:Int) (k:Int) (i:Nat) (x:Nat->V):Ex×St:=(.ex 0,⟨jsV 39 0 Ac [(5,.ref 1)],[.row 76 6 0 Ac,.row 76 6 i x]⟩)
noncomputable def Hf (L:LT):St->T (Ex×St):=λst=>AI tab ⟨Az tb0,L,Gl⟩ (A0 Tryz.f77 0) 0 st
section
variable (L:LT) (n:Nat) (f:Nat->E6) (b:Int) (k:Int) (i:Nat) (x:Nat->V)  (j:Nat->V)
include L n f b k i x j
theorem AgH (h0:ilt (ofNat i) (ofNat n)=false):Au (Hf L) (L2 n f b) (X3 n f b k i x j)=some ((.ex 0),⟨jsV 39 0 Ac [(5,.ref 1)],[.row 76 6 0 Ac,.row 76 6 i x]⟩):=by
 exact Ad (ks:=[kn h0]) (by kernel_rfl)
theorem AgG (h0:ilt (ofNat i) (ofNat n)=true) (h1:ieq (ofNat n) 0=false) (h2:Aj (ile 0 (Al (wr .i64 (Ah k (ofNat i))) (ofNat n))) (ilt (Al (wr .i64 (Ah k (ofNat i))) (ofNat n)) (ofNat n))=true) (h3:Dk i 1 40=true):Au (Hf L) (L2 n f b) (X3 n f b k i x j)=some (.nm,⟨jsV 39 0 Ac [(0,.sl 6 n (λi=>eV (f i))),(5,.ref 1),(6,nV n),(7,iV k),(8,iV (wr .i64 (Ah (ofNat i) 1)))],[.row 76 6 0 Ac,.row 76 6 (B1 i 1) (Be i x (eV (f (toN (Al (wr .i64 (Ah k (ofNat i))) (ofNat n))))))]⟩):=by
 exact Ad (ks:=[kn h0,kn h1,kn h2,kn h3]) (by kernel_rfl)
end
theorem AfT (L:LT) (n:Nat) (f:Nat->E6) (b:Int) (h0:ieq (ofNat n) 0=true):(A7 (An tab ⟨Az tb0,L,Gl⟩ Tryz.f77 [A9 n f,iV b] [])).sem=some ((.ref 0),[.row 76 6 0 Ac]):=by
 exact Ad (ks:=[kn h0]) (by kernel_rfl)
def Nq (n:Nat) (f:Nat->E6) (b:Int) :St:=⟨jsV 39 0 (λ_=>AD) [(0,.sl 6 n (λi=>eV (f i))),(1,iV b),(4,.ref 0),(5,.ref 1),(6,nV n),(7,iV (wr .i64 (Ah (Al b (ofNat n)) (ofNat n)))),(8,iV 0),(9,.sl 6 n (λi=>eV (f i))),(10,nV n),(11,nV n),(12,bV (ieq (ofNat n) 0)),(14,iV b),(15,nV n),(16,iV (Al b (ofNat n))),(17,iV (Al b (ofNat n))),(18,bV (ilt (Al b (ofNat n)) 0)),(19,iV (Al b (ofNat n))),(20,nV n),(21,iV (wr .i64 (Ah (Al b (ofNat n)) (ofNat n))))],[.row 76 6 0 Ac,.row 76 6 0 Ac]⟩
def Np (n:Nat) (f:Nat->E6) (b:Int) :St:=⟨jsV 39 0 (λ_=>AD) [(0,.sl 6 n (λi=>eV (f i))),(1,iV b),(4,.ref 0),(5,.ref 1),(6,nV n),(7,iV (Al b (ofNat n))),(8,iV 0),(9,.sl 6 n (λi=>eV (f i))),(10,nV n),(11,nV n),(12,bV (ieq (ofNat n) 0)),(14,iV b),(15,nV n),(16,iV (Al b (ofNat n))),(17,iV (Al b (ofNat n))),(18,bV (ilt (Al b (ofNat n)) 0))],[.row 76 6 0 Ac,.row 76 6 0 Ac]⟩
section
variable (L:LT) (p0:PT) (n:Nat) (f:Nat->E6) (b:Int) (k:Int) (x:Nat->V)
include L p0 n f b k x
theorem AfV (h0:ieq (ofNat n) 0=false) (h1:ilt (Al b (ofNat n)) 0=true) (hp0:p0 (Hf (onP 0 p0 (Ns n f b k n x) L)) (Nq n f b)=true):(A7 (An tab ⟨Az tb0,onP 0 p0 (Ns n f b k n x) L,Gl⟩ Tryz.f77 [A9 n f,iV b] [])).sem=some ((.ref 0),[.row 76 6 n x]):=by
 exact Ad (ks:=[kn h0,kn h0,kn h1,kn hp0]) (by kernel_rfl)
theorem AfU (h0:ieq (ofNat n) 0=false) (h1:ilt (Al b (ofNat n)) 0=false) (hp0:p0 (Hf (onP 0 p0 (Ns n f b k n x) L)) (Np n f b)=true):(A7 (An tab ⟨Az tb0,onP 0 p0 (Ns n f b k n x) L,Gl⟩ Tryz.f77 [A9 n f,iV b] [])).sem=some ((.ref 0),[.row 76 6 n x]):=by
 exact Ad (ks:=[kn h0,kn h0,kn h1,kn hp0]) (by kernel_rfl)
end
theorem XO (L:LT) (n:Nat) (f:Nat->E6) (b:Int) (K:Nat) (hK:K<n) (h8:n * 40 <= 140737488355328):∀ (d i:Nat) (j:Nat->V) (q:Nat),n=i+d->d<q ->
  (A3 (Hf L) (L2 n f b) q (X3 n f b (ofNat K) i (Cp (λi=>eV (f ((K+i) % n))) i) j)).sem=some (Ns n f b (ofNat K) n (Cp (λi=>eV (f ((K+i) % n))) n))
 | 0,i,j,q+1,h,_=>by
  have:n=i:=by omega
  subst this;exact Ag (AgH L n f b (ofNat K) n (Cp (λi=>eV (f ((K+i) % n))) n) j (Av (Nat.le_refl _)))
 | d+1,i,j,q+1,h,h2=>by
  have hl:i<n:=by omega
  have h9:(i+1) * 40 <= 140737488355328:=Nat.le_trans (Nat.mul_le_mul_right 40 hl) h8;have ha:Dk i 1 40=true:=decide_eq_true h9;have e1:Al (wr .i64 (Ah (ofNat K) (ofNat i))) (ofNat n)=ofNat ((K+i) % n):=by rw [Fj (by omega),D5]
  have hb:Aj (ile 0 (Al (wr .i64 (Ah (ofNat K) (ofNat i))) (ofNat n))) (ilt (Al (wr .i64 (Ah (ofNat K) (ofNat i))) (ofNat n)) (ofNat n))=true:=by
   rw [e1]; exact Ae (Nat.mod_lt _ (by omega))
  rw [Ag (AgG L n f b (ofNat K) i (Cp (λi=>eV (f ((K+i) % n))) i) j (ofNat_lt hl) (AcB hl) hb ha),AW,Ax hl (by omega),e1,show toN (ofNat ((K+i) % n))=(K+i) % n from rfl];exact XO L n f b K hK h8 d (i+1) Ac q (by omega) (by omega)
def LG:List V->AB
 | [v,.val (.int .i64 b)]=>apL v λn f=>.br (CJ n) (.leaf (.ref 0,[.row 76 6 n λi=>eV (Jl n f b i)])) .fail
 | _=>.fail
theorem WG (n:Nat) (f:Nat->E6) (b:Int) (g:Nat->V):Nq n f b=X3 n f b (wr .i64 (Ah (Al b (ofNat n)) (ofNat n))) 0 (Cp g 0) (λi=>nth (Nq n f b).t i):=by kernel_rfl
theorem WF (n:Nat) (f:Nat->E6) (b:Int) (g:Nat->V):Np n f b=X3 n f b (Al b (ofNat n)) 0 (Cp g 0) (λi=>nth (Np n f b).t i):=by kernel_rfl
theorem p69:As Tryz.prog Gl 77 LG:=by
 refine Am AA mixed Tryz.func77 (by kernel_rfl) (by kernel_rfl) λvs v h' h=>?_;unfold LG at h;split at h
 ·rename_i u b
  obtain ⟨n,f,ha,h1⟩:=Ce h;obtain ⟨hn,hq⟩:=Ab h1;have:=Aa hq;simp only [Prod.mk.injEq] at this;obtain ⟨rfl,rfl⟩:=this;have h8:n * 40 <= 140737488355328:=of_decide_eq_true hn;have hA:BK [u,.val (.int .i64 b)] [A9 n f,iV b]:=λS w cs hv=>by
   obtain ⟨c,l,rfl,q1,q2⟩:=hv;exact ⟨c,l,rfl,ha S w c q1,q2⟩
  have hx:=Bh D7 [(0,L2 n f b)];have hL:=Bd [(0,L2 n f b)];cases n with
  | zero=>exact ⟨_,Br Gl tb0 [(0,L2 0 f b)],_,hA,rfl,hx.1,hx.2,AfT _ 0 f b rfl,Aw.one λj hj=>absurd hj (Nat.not_lt_zero _)⟩
  | succ m =>
   have hm:m+1 <= 4611686018427387904:=by omega
   have h0:0<m+1:=Nat.succ_pos m;have hz:ieq (ofNat (m+1)) 0=false:=AcB h0;have fin:∀ K,K=DL (m+1) b->Aw [Blk.row 76 6 (m+1) (Cp (λi=>eV (f ((K+i) % (m+1)))) (m+1))] [Blk.row 76 6 (m+1) λi=>eV (Jl (m+1) f b i)]:=λK hK=>Aw.one λj hj=>by
    rw [J0 _ _ j hj,hK];rfl
   cases hb:ilt (Al b (ofNat (m+1))) 0 with
   | true =>
    obtain ⟨e1,e2⟩:=VS h0 hm hb;have hr:∀ L,(Cq [(0,L2 (m+1) f b)] 0 (Hf L) (Nq (m+1) f b)).sem=some (Ns (m+1) f b (ofNat (DL (m+1) b)) (m+1) (Cp (λi=>eV (f ((DL (m+1) b+i) % (m+1)))) (m+1))):=λL=>by
     show (A3 (Hf L) (L2 (m+1) f b) (m+2) (Nq (m+1) f b)).sem=_;rw [WG (m+1) f b (λi=>eV (f ((DL (m+1) b+i) % (m+1)))),e1];exact XO L (m+1) f b _ e2 h8 (m+1) 0 _ (m+2) (by omega) (by omega)
    exact ⟨_,Br Gl tb0 [(0,L2 (m+1) f b)],_,hA,rfl,hx.1,hx.2,Bb (Bc hL hL) _ (AfV _ _ (m+1) f b _ _ hz hb (A5 (hr _))),fin _ rfl⟩
   | false =>
    obtain ⟨e1,e2⟩:=VQ h0 hb;have hr:∀ L,(Cq [(0,L2 (m+1) f b)] 0 (Hf L) (Np (m+1) f b)).sem=some (Ns (m+1) f b (ofNat (DL (m+1) b)) (m+1) (Cp (λi=>eV (f ((DL (m+1) b+i) % (m+1)))) (m+1))):=λL=>by
     show (A3 (Hf L) (L2 (m+1) f b) (m+2) (Np (m+1) f b)).sem=_;rw [WF (m+1) f b (λi=>eV (f ((DL (m+1) b+i) % (m+1)))),e1];exact XO L (m+1) f b _ e2 h8 (m+1) 0 _ (m+2) (by omega) (by omega)
    exact ⟨_,Br Gl tb0 [(0,L2 (m+1) f b)],_,hA,rfl,hx.1,hx.2,Bb (Bc hL hL) _ (AfU _ _ (m+1) f b _ _ hz hb (A5 (hr _))),fin _ rfl⟩
 ·cases h
end Go.Proofs.YtkbafjceglhjhaaGreatDoor.Ed
namespace Go.Proofs.YtkbafjceglhjhaaGreatDoor.Ed
open Go.Sy Go
theorem KE {σ ρ:Type} {g:Nat->σ->T (σ ⊕ ρ)} {fin:σ->ρ} {q:Nat->Bool} {acc:Nat->σ} {x:Nat->ρ} {n:Nat} (hc:∀ i,i<n->q i=false->(g i (acc i)).sem=some (.inl (acc (i+1))))
  (hx:∀ i,i<n->q i=true->(g i (acc i)).sem=some (.inr (x i))):∀ d i,i+d=n->BQ g fin d i (acc i)=some (match AU q d i with
   | none=>fin (acc n)
   | some t=>x t)
 | 0,i,h=>by rw [<- h]; rfl
 | d+1,i,h=>by
  rw [BQ];cases hq:q i with
  | false =>rw [hc i (by omega) hq,F2 hq];exact KE hc hx d (i+1) (by omega)
  | true=>rw [hx i (by omega) hq,Fz hq]
def isN (o:Option Nat):Bool:=match o with
 | none=>true
 | some _=>false
def tO (q:Nat->Bool) (n:Nat):Nat:=match AU q n 0 with
 | some t=>t
 | none=>0
def nO (q:Nat->Bool) (n:Nat):V:=iV (Int.ofNat (tO q n))
section
variable {σ ρ:Type} {g:Nat->σ->T (σ ⊕ ρ)} {fin:σ->ρ} {q:Nat->Bool} {acc:Nat->σ} {x:Nat->ρ} {n:Nat} (hc:∀ i,i<n->q i=false->(g i (acc i)).sem=some (.inl (acc (i+1))))
  (hx:∀ i,i<n->q i=true->(g i (acc i)).sem=some (.inr (x i)))
include hc hx
theorem Nk (h:isN (AU q n 0)=true):BQ g fin n 0 (acc 0)=some (fin (acc n)):=by
 rw [KE hc hx n 0 (Nat.zero_add n)];cases hq:AU q n 0 with
 | none=>rfl
 | some t=>rw [hq] at h; cases h
theorem Nj (h:isN (AU q n 0)=false):BQ g fin n 0 (acc 0)=some (x (tO q n)):=by
 rw [KE hc hx n 0 (Nat.zero_add n)];unfold tO;cases hq:AU q n 0 with
 | none=>rw [hq] at h; cases h
 | some t=>rfl
end
end Go.Proofs.YtkbafjceglhjhaaGreatDoor.Ed
