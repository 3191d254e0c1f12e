/-
  The least turned list of edges; a list turned. No conditions.
-/
import Derived.Test.YtkbafjceglhjhaaGreatDoorCyT
import Derived.Test.YtkbafjceglhjhaaGreatDoorShB
import Derived.Test.YtkbafjceglhjhaaGreatDoorCyO
namespace Go.Proofs.YtkbafjceglhjhaaGreatDoor.Ed
open Go.Sy
open Int (ofNat)
theorem AiP {i n:Nat} (h:i<n):ieq (ofNat n) 0=false:=by rw [show (0:Int)=ofNat 0 from rfl,DX,decide_eq_false (by omega)]
def FD (n:Nat) (h:Nat->Int) (p i:Nat):Int:=h ((p+i) % n)
def Kb (n:Nat) (h:Nat->Int) (p q:Nat):Prop:=∃ s,s<n∧(∀ t,t<s->FD n h p t=FD n h q t)∧FD n h p s<FD n h q s
def Fz (n:Nat) (h:Nat->Int) (p:Nat):Prop:=p<n∧∀ q,q<n->¬ Kb n h q p
theorem Ga {n:Nat} {h:Nat->Int} {p:Nat}:¬ Kb n h p p:=by
 rintro ⟨s,_,_,h3⟩
 omega
theorem Nj {n:Nat} {h:Nat->Int} {a b c:Nat} (h1:Kb n h a b) (h2:Kb n h b c):Kb n h a c:=by
 obtain ⟨s,s1,s2,s3⟩:=h1;obtain ⟨r,r1,r2,r3⟩:=h2;rcases Nat.lt_trichotomy s r with e | e | e
 ·exact ⟨s,s1,λt ht=>(s2 t ht).trans (r2 t (by omega)),by rw [<- r2 s e]; exact s3⟩
 ·subst e
  exact ⟨s,s1,λt ht=>(s2 t ht).trans (r2 t ht),by omega⟩
 ·exact ⟨r,r1,λt ht=>(s2 t (by omega)).trans (r2 t ht),by rw [s2 r e]; exact r3⟩
theorem Nk (n:Nat) (h:Nat->Int) (p q:Nat):∀ m,m <= n->(∃ s,s<m∧(∀ t,t<s->FD n h p t=FD n h q t)∧FD n h p s ≠ FD n h q s) ∨ ∀ t,t<m->FD n h p t=FD n h q t
 | 0,_=>.inr λt ht=>absurd ht (Nat.not_lt_zero t)
 | m+1,hm=>by
  rcases Nk n h p q m (by omega) with ⟨s,h1,h2,h3⟩ | h1
  ·exact .inl ⟨s,by omega,h2,h3⟩
  ·by_cases e:FD n h p m=FD n h q m
   ·refine .inr λt ht=>?_
    by_cases et:t=m
    ·rw [et]; exact e
    ·exact h1 t (by omega)
   ·exact .inl ⟨m,by omega,h1,e⟩
theorem AdC {n:Nat} {h:Nat->Int} {p q:Nat} (hp:Fz n h p) (hq:Fz n h q):∀ t,t<n->FD n h p t=FD n h q t:=by
 rcases Nk n h p q n (Nat.le_refl n) with ⟨s,h1,h2,h3⟩ | h1
 ·rcases Int.lt_or_gt_of_ne h3 with e | e
  ·exact absurd ⟨s,h1,h2,e⟩ (hq.2 p hp.1)
  ·exact absurd ⟨s,h1,λt ht=>(h2 t ht).symm,e⟩ (hp.2 q hq.1)
 ·exact h1
theorem Pz (n:Nat) (h:Nat->Int):∀ m,0<m->∃ p,p<m∧∀ q,q<m->¬ Kb n h q p
 | 0,hm=>absurd hm (Nat.lt_irrefl 0)
 | 1,_=>⟨0,by omega,λq hq=>by
   have:q=0:=by omega
   subst this;exact Ga⟩
 | m+2,_=>by
  obtain ⟨p,h1,h2⟩:=Pz n h (m+1) (by omega);by_cases e:Kb n h (m+1) p
  ·refine ⟨m+1,by omega,λq hq hl=>?_⟩
   by_cases eq:q=m+1
   ·subst eq; exact Ga hl
   ·exact h2 q (by omega) (Nj hl e)
  ·refine ⟨p,by omega,λq hq hl=>?_⟩
   by_cases eq:q=m+1
   ·subst eq; exact e hl
   ·exact h2 q (by omega) hl
theorem Yl (n:Nat) (h:Nat->Int) (a u:Nat):FD n h (a % n) u=h ((a+u) % n):=by
 unfold FD;rw [Nat.mod_add_mod]
theorem Up {n:Nat} {h:Nat->Int} {i j s:Nat} (hs:s<n) (h1:∀ t,t<s->h ((i+t) % n)=h ((j+t) % n)) (h2:h ((j+s) % n)<h ((i+s) % n)):∀ p,i <= p->p <= i+s->¬ Fz n h p:=by
 intro p hp1 hp2 hm;obtain ⟨hpn,hm⟩:=hm;refine hm ((j+(p-i)) % n) (Nat.mod_lt _ (by omega)) ⟨s-(p-i),by omega,λt ht=>?_,?_⟩
 ·rw [Yl]
  unfold FD;have:=h1 (p-i+t) (by omega);rw [show i+(p-i+t)=p+t by omega,show j+(p-i+t)=j+(p-i)+t by omega] at this;exact this.symm
 ·rw [Yl]
  unfold FD;rw [show j+(p-i)+(s-(p-i))=j+s by omega,show p+(s-(p-i))=i+s by omega];exact h2
theorem O4 {n:Nat} {h:Nat->Int} {lo hi:Nat} (hlt:lo<hi) (h1:∀ u,u<n->h ((hi+u) % n)=h ((lo+u) % n)) (hno:∀ p,p<n->p<hi->p ≠ lo->¬ Fz n h p):∀ m p,p <= m->Fz n h p->Fz n h lo:=by
 intro m
 induction m with
 | zero =>
  intro p hp hm;by_cases e:p=lo
  ·rw [<- e]; exact hm
  ·exact absurd hm (hno p hm.1 (by omega) e)
 | succ m ih =>
  intro p hp hm;by_cases e:p=lo
  ·rw [<- e]; exact hm
  ·by_cases hph:p<hi
   ·exact absurd hm (hno p hm.1 hph e)
   ·have hpn:=hm.1
    have hr:∀ u,u<n->FD n h p u=FD n h (p-(hi-lo)) u:=λu _=>by
     unfold FD;have:=h1 ((p-hi+u) % n) (Nat.mod_lt _ (by omega));rw [Nat.add_mod_mod,Nat.add_mod_mod,show hi+(p-hi+u)=p+u by omega,show lo+(p-hi+u)=p-(hi-lo)+u by omega] at this;exact this
    refine ih (p-(hi-lo)) (by omega) ⟨by omega,λq hq hl=>?_⟩;obtain ⟨s,s1,s2,s3⟩:=hl;exact hm.2 q hq ⟨s,s1,λt ht=>(s2 t ht).trans (hr t (by omega)).symm,by rw [hr s s1]; exact s3⟩
theorem Xe (n:Nat) (h:Nat->Int) (hn:0<n):∀ q i t s,i ≠ t->min i t<n->i <= 2 * n->t <= 2 * n+1->s <= n->(∀ u,u<s->h ((i+u) % n)=h ((t+u) % n)) ->
  (∀ p,p<n->p<max i t->p ≠ min i t->¬ Fz n h p)->3 * n+1-(i+t+s)<q->Fz n h (EZ n h q i t s):=by
 intro q;obtain ⟨p0,hp0⟩:∃ p,Fz n h p:=by
  obtain ⟨p,h1,h2⟩:=Pz n h n hn;exact ⟨p,h1,h2⟩
 have hp0n:=hp0.1
 induction q with
 | zero=>intro i t s _ _ _ _ _ _ _ hq; exact absurd hq (Nat.not_lt_zero _)
 | succ q ih =>
  intro i t s hne hmin hi ht hs heq hno hq;unfold EZ;split
  ·rename_i hx
   have hmin0:∀ lo,lo=min i t->Fz n h lo->Fz n h (min (min i t) (n-1)):=λlo hlo hm=>by
    rw [show min (min i t) (n-1)=lo by omega]; exact hm
   by_cases c:n <= i ∨ n <= t
   ·refine hmin0 (min i t) rfl ?_
    by_cases e:p0=min i t
    ·rw [<- e]; exact hp0
    ·exact absurd hp0 (hno p0 hp0n (by omega) e)
   ·refine hmin0 (min i t) rfl ?_
    have hsn:s=n:=by omega
    subst hsn;by_cases c2:i<t
    ·rw [show min i t=i by omega]
     exact O4 c2 (λu hu=>(heq u hu).symm) (λp hp h1 h2=>hno p hp (by omega) (by omega)) p0 p0 (Nat.le_refl _) hp0
    ·rw [show min i t=t by omega]
     exact O4 (show t<i by omega) (λu hu=>heq u hu) (λp hp h1 h2=>hno p hp (by omega) (by omega)) p0 p0 (Nat.le_refl _) hp0
  ·rename_i hx
   split
   ·rename_i he
    refine ih i t (s+1) hne hmin hi ht (by omega) (λu hu=>?_) hno (by omega);by_cases eu:u=s
    ·rw [eu]; exact he
    ·exact heq u (by omega)
   ·rename_i he
    split
    ·rename_i hg
     have hsk:=Up (by omega) heq hg;split
     ·rename_i e
      exact ih (i+s+1) (t+1) 0 (by omega) (by omega) (by omega) (by omega) (by omega) (λu hu=>absurd hu (Nat.not_lt_zero u)) (λp hp h1 h2=>by
       by_cases hr:i <= p∧p <= i+s
       ·exact hsk p hr.1 hr.2
       ·exact hno p hp (by omega) (by omega)) (by omega)
     ·rename_i e
      exact ih (i+s+1) t 0 (by omega) (by omega) (by omega) (by omega) (by omega) (λu hu=>absurd hu (Nat.not_lt_zero u)) (λp hp h1 h2=>by
       by_cases hr:i <= p∧p <= i+s
       ·exact hsk p hr.1 hr.2
       ·exact hno p hp (by omega) (by omega)) (by omega)
    ·rename_i hg
     have hg2:h ((i+s) % n)<h ((t+s) % n):=by omega
     have hsk:=Up (by omega) (λu hu=>(heq u hu).symm) hg2;split
     ·rename_i e
      exact ih i (t+s+2) 0 (by omega) (by omega) (by omega) (by omega) (by omega) (λu hu=>absurd hu (Nat.not_lt_zero u)) (λp hp h1 h2=>by
       by_cases hr:t <= p∧p <= t+s
       ·exact hsk p hr.1 hr.2
       ·exact hno p hp (by omega) (by omega)) (by omega)
     ·rename_i e
      exact ih i (t+s+1) 0 (by omega) (by omega) (by omega) (by omega) (by omega) (λu hu=>absurd hu (Nat.not_lt_zero u)) (λp hp h1 h2=>by
       by_cases hr:t <= p∧p <= t+s
       ·exact hsk p hr.1 hr.2
       ·exact hno p hp (by omega) (by omega)) (by omega)
theorem Xd (n:Nat) (h:Nat->Int) (hn:0<n):Fz n h (Eb n h) :=
 Xe n h hn _ 0 1 0 (by omega) (by omega) (by omega) (by omega) (by omega) (λu hu=>absurd hu (Nat.not_lt_zero u)) (λp _ h1 h2=>by omega) (by omega)
def E4 (n:Nat) (b:Int):Nat:=toN (sel (ilt (Ay b (ofNat n)) 0) (Ay b (ofNat n)+ofNat n) (Ay b (ofNat n)))
def KH (n:Nat) (f:Nat->E6) (b:Int) (i:Nat):E6:=f ((E4 n b+i) % n)
theorem MP (b:Int) {n:Nat} (h:0<n):-(n:Int)<Ay b (ofNat n)∧Ay b (ofNat n)<(n:Int):=by
 unfold Ay;have h1:(0:Int)<ofNat n:=by simp only [Int.ofNat_eq_natCast]; omega
 exact ⟨Int.lt_tmod_of_pos b h1,Int.tmod_lt_of_pos b h1⟩
theorem Z6 {b:Int} {n:Nat} (h:0<n) (hn:n <= 4611686018427387904) (hb:ilt (Ay b (ofNat n)) 0=true):wr .i64 (Ai (Ay b (ofNat n)) (ofNat n))=ofNat (E4 n b)∧E4 n b<n:=by
 obtain ⟨h1,h2⟩:=MP b h;have h3:Ay b (ofNat n)<0:=by simpa [ilt] using hb
 have h4:E4 n b=(Ay b (ofNat n)+(n:Int)).toNat:=by unfold E4; rw [hb]; rfl
 rw [h4];generalize Ay b (ofNat n)=r at h1 h2 h3 ⊢;refine ⟨?_,by omega⟩;unfold wr Ai IntKind.wrap;simp [IntKind.bits,IntKind.signed];omega
theorem Z5 {b:Int} {n:Nat} (h:0<n) (hb:ilt (Ay b (ofNat n)) 0=false):Ay b (ofNat n)=ofNat (E4 n b)∧E4 n b<n:=by
 obtain ⟨h1,h2⟩:=MP b h;have h3:¬ Ay b (ofNat n)<0:=by simpa [ilt] using hb
 have h4:E4 n b=(Ay b (ofNat n)).toNat:=by unfold E4; rw [hb]; rfl
 rw [h4];generalize Ay b (ofNat n)=r at h1 h2 h3 ⊢;refine ⟨?_,by omega⟩;simp only [Int.ofNat_eq_natCast];omega
theorem Z7 {n k:Nat} (h:k<n):E4 n (ofNat k)=k:=by
 unfold E4;rw [Et,Nat.mod_eq_of_lt h];have:ilt (ofNat k) 0=false:=by simp [ilt]
 rw [this];rfl
def Nx (n:Nat) (f:Nat->E6) (b:Int):Lp:=⟨bmK 39 0 [0,5,6,7,8],2,bmK 39 0 [5],2,n+1⟩
def AbA (n:Nat) (f:Nat->E6) (b:Int) (k:Int) (i:Nat) (x:Nat->V) (j:Nat->V):St:=⟨jsV 39 0 j [(0,.sl 6 n (λi=>eV (f i))),(5,.ref 1),(6,nV n),(7,iV k),(8,nV i)],[.row 76 6 0 Aa,.row 76 6 i x]⟩
def P9 (n:Nat) (f:Nat->E6) (b:Int) (k:Int) (i:Nat) (x:Nat->V):Ex×St:=(.ex 0,⟨jsV 39 0 Aa [(5,.ref 1)],[.row 76 6 0 Aa,.row 76 6 i x]⟩)
noncomputable def I4 (L:LT):St->T (Ex×St):=λst=>AA tab ⟨Aw tb0,L,Gl⟩ (As Tryz.f77 0) 0 st
section
variable (L:LT) (n:Nat) (f:Nat->E6) (b:Int) (k:Int) (i:Nat) (x:Nat->V)  (j:Nat->V)
include L n f b k i x j
theorem AoD (h0:ilt (ofNat i) (ofNat n)=false):Au (I4 L) (Nx n f b) (AbA n f b k i x j)=some ((.ex 0),⟨jsV 39 0 Aa [(5,.ref 1)],[.row 76 6 0 Aa,.row 76 6 i x]⟩):=by
 exact Ae (ks:=[kn h0]) (by kernel_rfl)
theorem AoC (h0:ilt (ofNat i) (ofNat n)=true) (h1:ieq (ofNat n) 0=false) (h2:Al (ile 0 (Ay (wr .i64 (Ai k (ofNat i))) (ofNat n))) (ilt (Ay (wr .i64 (Ai k (ofNat i))) (ofNat n)) (ofNat n))=true) (h3:Bs i 1 40=true):Au (I4 L) (Nx n f b) (AbA n f b k i x j)=some (.nm,⟨jsV 39 0 Aa [(0,.sl 6 n (λi=>eV (f i))),(5,.ref 1),(6,nV n),(7,iV k),(8,iV (wr .i64 (Ai (ofNat i) 1)))],[.row 76 6 0 Aa,.row 76 6 (AE i 1) (AD i x (eV (f (toN (Ay (wr .i64 (Ai k (ofNat i))) (ofNat n))))))]⟩):=by
 exact Ae (ks:=[kn h0,kn h1,kn h2,kn h3]) (by kernel_rfl)
end
theorem Anu (L:LT) (n:Nat) (f:Nat->E6) (b:Int) (h0:ieq (ofNat n) 0=true):(A0 (Aj tab ⟨Aw tb0,L,Gl⟩ Tryz.f77 [AI n f,iV b] [])).sem=some ((.ref 0),[.row 76 6 0 Aa]):=by
 exact Ae (ks:=[kn h0]) (by kernel_rfl)
def P4 (n:Nat) (f:Nat->E6) (b:Int) :St:=⟨jsV 39 0 (λ_=>AK) [(0,.sl 6 n (λi=>eV (f i))),(1,iV b),(4,.ref 0),(5,.ref 1),(6,nV n),(7,iV (wr .i64 (Ai (Ay b (ofNat n)) (ofNat n)))),(8,iV 0),(9,.sl 6 n (λi=>eV (f i))),(10,nV n),(11,nV n),(12,bV (ieq (ofNat n) 0)),(14,iV b),(15,nV n),(16,iV (Ay b (ofNat n))),(17,iV (Ay b (ofNat n))),(18,bV (ilt (Ay b (ofNat n)) 0)),(19,iV (Ay b (ofNat n))),(20,nV n),(21,iV (wr .i64 (Ai (Ay b (ofNat n)) (ofNat n))))],[.row 76 6 0 Aa,.row 76 6 0 Aa]⟩
def P3 (n:Nat) (f:Nat->E6) (b:Int) :St:=⟨jsV 39 0 (λ_=>AK) [(0,.sl 6 n (λi=>eV (f i))),(1,iV b),(4,.ref 0),(5,.ref 1),(6,nV n),(7,iV (Ay b (ofNat n))),(8,iV 0),(9,.sl 6 n (λi=>eV (f i))),(10,nV n),(11,nV n),(12,bV (ieq (ofNat n) 0)),(14,iV b),(15,nV n),(16,iV (Ay b (ofNat n))),(17,iV (Ay b (ofNat n))),(18,bV (ilt (Ay b (ofNat n)) 0))],[.row 76 6 0 Aa,.row 76 6 0 Aa]⟩
section
variable (L:LT) (p0:PT) (n:Nat) (f:Nat->E6) (b:Int) (k:Int) (x:Nat->V)
include L p0 n f b k x
theorem Anw (h0:ieq (ofNat n) 0=false) (h1:ilt (Ay b (ofNat n)) 0=true) (hp0:p0 (I4 (onP 0 p0 (P9 n f b k n x) L)) (P4 n f b)=true):(A0 (Aj tab ⟨Aw tb0,onP 0 p0 (P9 n f b k n x) L,Gl⟩ Tryz.f77 [AI n f,iV b] [])).sem=some ((.ref 0),[.row 76 6 n x]):=by
 exact Ae (ks:=[kn h0,kn h0,kn h1,kn hp0]) (by kernel_rfl)
theorem Anv (h0:ieq (ofNat n) 0=false) (h1:ilt (Ay b (ofNat n)) 0=false) (hp0:p0 (I4 (onP 0 p0 (P9 n f b k n x) L)) (P3 n f b)=true):(A0 (Aj tab ⟨Aw tb0,onP 0 p0 (P9 n f b k n x) L,Gl⟩ Tryz.f77 [AI n f,iV b] [])).sem=some ((.ref 0),[.row 76 6 n x]):=by
 exact Ae (ks:=[kn h0,kn h0,kn h1,kn hp0]) (by kernel_rfl)
end
theorem AbU (L:LT) (n:Nat) (f:Nat->E6) (b:Int) (K:Nat) (hK:K<n) (h8:n * 40 <= 140737488355328):∀ (d i:Nat) (j:Nat->V) (q:Nat),n=i+d->d<q ->
  (Av (I4 L) (Nx n f b) q (AbA n f b (ofNat K) i (BW (λi=>eV (f ((K+i) % n))) i) j)).sem=some (P9 n f b (ofNat K) n (BW (λi=>eV (f ((K+i) % n))) n))
 | 0,i,j,q+1,h,_=>by
  have:n=i:=by omega
  subst this;exact Af (AoD L n f b (ofNat K) n (BW (λi=>eV (f ((K+i) % n))) n) j (A1 (Nat.le_refl _)))
 | d+1,i,j,q+1,h,h2=>by
  have hl:i<n:=by omega
  have h9:(i+1) * 40 <= 140737488355328:=Nat.le_trans (Nat.mul_le_mul_right 40 hl) h8;have ha:Bs i 1 40=true:=decide_eq_true h9;have e1:Ay (wr .i64 (Ai (ofNat K) (ofNat i))) (ofNat n)=ofNat ((K+i) % n):=by rw [FB (by omega),Et]
  have hb:Al (ile 0 (Ay (wr .i64 (Ai (ofNat K) (ofNat i))) (ofNat n))) (ilt (Ay (wr .i64 (Ai (ofNat K) (ofNat i))) (ofNat n)) (ofNat n))=true:=by
   rw [e1]; exact Ad (Nat.mod_lt _ (by omega))
  rw [Af (AoC L n f b (ofNat K) i (BW (λi=>eV (f ((K+i) % n))) i) j (ofNat_lt hl) (AiP hl) hb ha),AT,A3 hl (by omega),e1,show toN (ofNat ((K+i) % n))=(K+i) % n from rfl];exact AbU L n f b K hK h8 d (i+1) Aa q (by omega) (by omega)
def KG:List V->A5
 | [v,.val (.int .i64 b)]=>apL v λn f=>.br (Ct n) (.leaf (.ref 0,[.row 76 6 n λi=>eV (KH n f b i)])) .fail
 | _=>.fail
theorem AaF (n:Nat) (f:Nat->E6) (b:Int) (g:Nat->V):P4 n f b=AbA n f b (wr .i64 (Ai (Ay b (ofNat n)) (ofNat n))) 0 (BW g 0) (λi=>nth (P4 n f b).t i):=by kernel_rfl
theorem AaE (n:Nat) (f:Nat->E6) (b:Int) (g:Nat->V):P3 n f b=AbA n f b (Ay b (ofNat n)) 0 (BW g 0) (λi=>nth (P3 n f b).t i):=by kernel_rfl
theorem p69:Ap Tryz.prog Gl 77 KG:=by
 refine Ah A2 mixed Tryz.func77 (by kernel_rfl) (by kernel_rfl) λvs v h' h=>?_;unfold KG at h;split at h
 ·rename_i u b
  obtain ⟨n,f,ha,h1⟩:=CC h;obtain ⟨hn,hq⟩:=Ac h1;have:=Ab hq;simp only [Prod.mk.injEq] at this;obtain ⟨rfl,rfl⟩:=this;have h8:n * 40 <= 140737488355328:=of_decide_eq_true hn;have hA:Ba [u,.val (.int .i64 b)] [AI n f,iV b]:=λS w cs hv=>by
   obtain ⟨c,l,rfl,q1,q2⟩:=hv;exact ⟨c,l,rfl,ha S w c q1,q2⟩
  have hx:=Bh Ca [(0,Nx n f b)];have hL:=Bb [(0,Nx n f b)];cases n with
  | zero=>exact ⟨_,AO Gl tb0 [(0,Nx 0 f b)],_,hA,rfl,hx.1,hx.2,Anu _ 0 f b rfl,Am.one λj hj=>absurd hj (Nat.not_lt_zero _)⟩
  | succ m =>
   have hm:m+1 <= 4611686018427387904:=by omega
   have h0:0<m+1:=Nat.succ_pos m;have hz:ieq (ofNat (m+1)) 0=false:=AiP h0;have fin:∀ K,K=E4 (m+1) b->Am [Blk.row 76 6 (m+1) (BW (λi=>eV (f ((K+i) % (m+1)))) (m+1))] [Blk.row 76 6 (m+1) λi=>eV (KH (m+1) f b i)]:=λK hK=>Am.one λj hj=>by
    rw [HE _ _ j hj,hK];rfl
   cases hb:ilt (Ay b (ofNat (m+1))) 0 with
   | true =>
    obtain ⟨e1,e2⟩:=Z6 h0 hm hb;have hr:∀ L,(BC [(0,Nx (m+1) f b)] 0 (I4 L) (P4 (m+1) f b)).sem=some (P9 (m+1) f b (ofNat (E4 (m+1) b)) (m+1) (BW (λi=>eV (f ((E4 (m+1) b+i) % (m+1)))) (m+1))):=λL=>by
     show (Av (I4 L) (Nx (m+1) f b) (m+2) (P4 (m+1) f b)).sem=_;rw [AaF (m+1) f b (λi=>eV (f ((E4 (m+1) b+i) % (m+1)))),e1];exact AbU L (m+1) f b _ e2 h8 (m+1) 0 _ (m+2) (by omega) (by omega)
    exact ⟨_,AO Gl tb0 [(0,Nx (m+1) f b)],_,hA,rfl,hx.1,hx.2,AW (AX hL hL) _ (Anw _ _ (m+1) f b _ _ hz hb (A4 (hr _))),fin _ rfl⟩
   | false =>
    obtain ⟨e1,e2⟩:=Z5 h0 hb;have hr:∀ L,(BC [(0,Nx (m+1) f b)] 0 (I4 L) (P3 (m+1) f b)).sem=some (P9 (m+1) f b (ofNat (E4 (m+1) b)) (m+1) (BW (λi=>eV (f ((E4 (m+1) b+i) % (m+1)))) (m+1))):=λL=>by
     show (Av (I4 L) (Nx (m+1) f b) (m+2) (P3 (m+1) f b)).sem=_;rw [AaE (m+1) f b (λi=>eV (f ((E4 (m+1) b+i) % (m+1)))),e1];exact AbU L (m+1) f b _ e2 h8 (m+1) 0 _ (m+2) (by omega) (by omega)
    exact ⟨_,AO Gl tb0 [(0,Nx (m+1) f b)],_,hA,rfl,hx.1,hx.2,AW (AX hL hL) _ (Anv _ _ (m+1) f b _ _ hz hb (A4 (hr _))),fin _ rfl⟩
 ·cases h
end Go.Proofs.YtkbafjceglhjhaaGreatDoor.Ed
namespace Go.Proofs.YtkbafjceglhjhaaGreatDoor.Ed
open Go.Sy Go
theorem M6 {σ ρ:Type} {g:Nat->σ->T (σ ⊕ ρ)} {fin:σ->ρ} {q:Nat->Bool} {acc:Nat->σ} {x:Nat->ρ} {n:Nat} (hc:∀ i,i<n->q i=false->(g i (acc i)).sem=some (.inl (acc (i+1))))
  (hx:∀ i,i<n->q i=true->(g i (acc i)).sem=some (.inr (x i))):∀ d i,i+d=n->Co g fin d i (acc i)=some (match AN q d i with
   | none=>fin (acc n)
   | some t=>x t)
 | 0,i,h=>by rw [<- h]; rfl
 | d+1,i,h=>by
  rw [Co];cases hq:q i with
  | false =>rw [hc i (by omega) hq,Dz hq];exact M6 hc hx d (i+1) (by omega)
  | true=>rw [hx i (by omega) hq,Dy hq]
def isN (o:Option Nat):Bool:=match o with
 | none=>true
 | some _=>false
def tO (q:Nat->Bool) (n:Nat):Nat:=match AN q n 0 with
 | some t=>t
 | none=>0
def nO (q:Nat->Bool) (n:Nat):V:=iV (Int.ofNat (tO q n))
section
variable {σ ρ:Type} {g:Nat->σ->T (σ ⊕ ρ)} {fin:σ->ρ} {q:Nat->Bool} {acc:Nat->σ} {x:Nat->ρ} {n:Nat} (hc:∀ i,i<n->q i=false->(g i (acc i)).sem=some (.inl (acc (i+1))))
  (hx:∀ i,i<n->q i=true->(g i (acc i)).sem=some (.inr (x i)))
include hc hx
theorem Px (h:isN (AN q n 0)=true):Co g fin n 0 (acc 0)=some (fin (acc n)):=by
 rw [M6 hc hx n 0 (Nat.zero_add n)];cases hq:AN q n 0 with
 | none=>rfl
 | some t=>rw [hq] at h; cases h
theorem Pw (h:isN (AN q n 0)=false):Co g fin n 0 (acc 0)=some (x (tO q n)):=by
 rw [M6 hc hx n 0 (Nat.zero_add n)];unfold tO;cases hq:AN q n 0 with
 | none=>rw [hq] at h; cases h
 | some t=>rfl
end
end Go.Proofs.YtkbafjceglhjhaaGreatDoor.Ed
