/-
  Canon and Same, and the law CycleApart as a function: two lists are one another turned just if their least turned lists are the same. No conditions.
-/
import Derived.Test.YtkbgidbledjejaaGreatCyL
import Derived.Test.YtkbgidbledjejaaGreatCyA
import Derived.Test.YtkbgidbledjejaaGreatSyU
import Derived.Test.YtkbgidbledjejaaGreatEdO
namespace Go.Proofs.YtkbgidbledjejaaGreat.Ed
open Go.Sy
open Int (ofNat)
theorem Qf (n m:Nat) (gx g:Nat->V) (i:Nat) (h:i<n+m):Cq n m gx g i=bif Nat.blt i n then gx i else g (i-n):=by
 cases hb:Nat.blt i n with
 | true=>exact Qd n m gx g i (Nat.blt_eq ▸ hb)
 | false =>
  have h1:n <= i:=by
   rcases Nat.lt_or_ge i n with h2 | h2
   ·rw [show Nat.blt i n=true from Nat.blt_eq ▸ h2] at hb; cases hb
   ·exact h2
  have:=Qe n m gx g (i-n) (by omega);rw [show n+(i-n)=i by omega] at this;exact this
theorem Wy {α:Type} (n k:Nat) (z:Nat->V) (h:Nat->α) (e:α->V) (hk:k<n ∨ n=0∧k=0):Cd (Cd 0 (FC n k)) k=n∧∀ j,j<n ->
  Cq (Cd 0 (FC n k)) k (Cq 0 (FC n k) z (λi=>e (h (Cd k i)))) (λi=>e (h i)) j=e (h ((k+j) % n)):=by
 have h1:Cd 0 (FC n k)=n-k:=by simp [Cd,FC]
 have h2:FC n k=n-k:=rfl;refine ⟨by rw [h1]; show n-k+k=n; omega,λj hj=>?_⟩;rw [h1,h2,Qf _ _ _ _ j (by omega)];cases hb:Nat.blt j (n-k) with
 | true =>have hb:j<n-k:=Nat.blt_eq ▸ hb;show Cq 0 (n-k) z (λi=>e (h (Cd k i))) j=_;rw [Qf _ _ _ _ j (by omega)];show e (h (k+(j-0)))=_;rw [Nat.mod_eq_of_lt (by omega),Nat.sub_zero]
 | false =>
  have hb:n-k <= j:=by
   rcases Nat.lt_or_ge j (n-k) with h3 | h3
   ·rw [show Nat.blt j (n-k)=true from Nat.blt_eq ▸ h3] at hb; cases hb
   ·exact h3
  show e (h (j-(n-k)))=_;rw [show k+j=j-(n-k)+n by omega,Nat.add_mod_right,Nat.mod_eq_of_lt (by omega)]
def Nr (n:Nat):Bool:=decide (n * 8 <= 140737488355328)
theorem Ee {n:Nat} (h:Nr n=true):n <= 4611686018427387904:=by
 have h:n * 8 <= 140737488355328:=of_decide_eq_true h;omega
theorem Ajz {n:Nat} (h:Nr n=true):Agd n=true:=by
 have h:n * 8 <= 140737488355328:=of_decide_eq_true h;exact decide_eq_true (by omega)
theorem HJ {n:Nat} (h:BZ n=true):Nr n=true:=by
 have h:n * 40 <= 140737488355328:=of_decide_eq_true h;exact decide_eq_true (by omega)
theorem Ni (n:Nat) (h:Nat->Int):∀ q i t s,E3 n h q i t s <= n-1
 | 0,_,_,_=>Nat.zero_le _
 | q+1,i,t,s=>by
  unfold E3;split
  ·omega
  ·split
   ·exact Ni n h q _ _ _
   ·split <;> exact Ni n h q _ _ _
theorem Aam (n:Nat) (h:Nat->Int):D9 n h <= n-1:=Ni n h _ _ _ _
theorem Aal (n:Nat) (h:Nat->Int):D9 n h<n ∨ n=0∧D9 n h=0:=by
 have:=Aam n h;omega
def PL (n:Nat) (f:Nat->E6):Lp:=⟨bmK 28 0 [0,2,3,4,9,10,11],2,bmK 28 0 [2,3,4],4,n+1⟩
def UH (n:Nat) (f:Nat->E6) (i k:Nat) (x:Nat->V) (j:Nat->V):St:=⟨jsV 28 0 j [(0,.sl 6 n λi=>eV (f i)),(2,.ref 0),(3,iV 0),(4,.ref 1),(9,.sl 6 n λi=>eV (f i)),(10,nV n),(11,nV i)],[.row 3 1 0 λ_=>.und,.row 3 1 k x]⟩
def XB (n:Nat) (f:Nat->E6) (i k:Nat) (x:Nat->V):Ex×St:=(.ex 0,⟨jsV 28 0 Ac [(2,.ref 0),(3,iV 0),(4,.ref 1)],[.row 3 1 0 λ_=>.und,.row 3 1 k x]⟩)
def XA (n:Nat) (f:Nat->E6) (i k:Nat) (x:Nat->V):Ex×St:=(.rt,⟨jsV 28 0 Ac [(2,.ref 3),(3,iV 30),(4,.ref 1)],[.row 3 1 0 λ_=>.und,.row 3 1 k x,.cells [iV (f i).kind,bV (f i).ext,bV (f i).same,iV (f i).src,iV (f i).dst,iV (f i).fence],.row 3 1 0 λ_=>.und]⟩)
noncomputable def M6 (L:LT):St->T (Ex×St):=λst=>A8 tab ⟨A9 tb8,L,Gl⟩ (A1 Tryz.f82 0) 0 st
theorem LH (L:LT) (n:Nat) (f:Nat->E6) (i k:Nat) (x:Nat->V) (j:Nat->V):Ap (M6 L) (PL n f) (UH n f i k x j)
 = (sel (ilt (ofNat i) (ofNat n)) (sel (Av (ile 0 (ofNat i)) (ilt (ofNat i) (ofNat n))) (sel (AI (ieq (AA (f i)) 0)) (some (.rt,⟨[.und,.und,.ref 3,iV 30,.ref 1,.und,.und,.und,.und,.und,.und,.und,.und,.und,.und,.und,.und,.und,.und,.und,.und,.und,.und,.und,.und,.und,.und,.und],[.row 3 1 0 Ac,.row 3 1 k x,.cells [iV (f i).kind,bV (f i).ext,bV (f i).same,iV (f i).src,iV (f i).dst,iV (f i).fence],.row 3 1 0 Ac]⟩)) (sel (CJ k 1 8) (some (.nm,⟨[.sl 6 n (λi=>eV (f i)),.und,.ref 0,iV 0,.ref 1,.und,.und,.und,.und,.sl 6 n (λi=>eV (f i)),nV n,iV (wr .i64 (Am (ofNat i) 1)),.und,.und,.und,.und,.und,.und,.und,.und,.und,.und,.und,.und,.und,.und,.und,.und],[.row 3 1 0 Ac,.row 3 1 (Cd k 1) (AE k x (iV (Aj (f i))))]⟩)) none)) none) (some ((.ex 0),⟨[.und,.und,.ref 0,iV 0,.ref 1,.und,.und,.und,.und,.und,.und,.und,.und,.und,.und,.und,.und,.und,.und,.und,.und,.und,.und,.und,.und,.und,.und,.und],[.row 3 1 0 Ac,.row 3 1 k x]⟩))):=by kernel_rfl
def YI (n:Nat) (f:Nat->E6) :Nat->V:=lkV A7 []
section
variable (L:LT) (p0:PT) (n:Nat) (f:Nat->E6) (i k:Nat) (x:Nat->V)
include L p0 n f i k x
theorem AhN  (hp0:p0 (M6 (onP 0 p0 (XB n f i k x) L)) (UH n f 0 0 Ac (YI n f ))=true):(AM (Au tab ⟨A9 tb8,onP 0 p0 (XB n f i k x) L,Gl⟩ Tryz.f82 [Ao n f] [])).sem=some ((.tup [.ref 0,iV 0]),[.row 3 1 k x]):=by
 exact Ag (ks:=[kn hp0]) (by kernel_rfl)
theorem AhM  (hp0:p0 (M6 (onP 0 p0 (XA n f i k x) L)) (UH n f 0 0 Ac (YI n f ))=true):(AM (Au tab ⟨A9 tb8,onP 0 p0 (XA n f i k x) L,Gl⟩ Tryz.f82 [Ao n f] [])).sem=some ((.tup [.ref 0,iV 30]),[.row 3 1 0 Ac]):=by
 exact Ag (ks:=[kn hp0]) (by kernel_rfl)
end
theorem Yo (L:LT) (n:Nat) (f:Nat->E6) (hn:BZ n=true) (ho:∀ t,t<n->AA (f t)=0):∀ (d i:Nat) (j:Nat->V) (q:Nat),n=i+d->d<q ->
  (Ay (M6 L) (PL n f) q (UH n f i i (BL (cdV f) i) j)).sem=some (XB n f 0 n (BL (cdV f) n))
 | 0,i,j,q+1,h1,_=>by
  have hi:i=n:=by omega
  subst hi;rw [Ae (LH L i f i i _ j),A4 (Nat.le_refl i)];rfl
 | d+1,i,j,q+1,h1,h2=>by
  have hi:i<n:=by omega
  rw [Ae (LH L n f i i _ j),Af hi,ofNat_lt hi,N5 hi (by decide) (of_decide_eq_true hn),Bc hi (Eu hn),ho i hi];exact Yo L n f hn ho d (i+1) Ac q (by omega) (by omega)
theorem Yn (L:LT) (n:Nat) (f:Nat->E6) (hn:BZ n=true) (e:Nat) (he:e<n) (hb:AA (f e)=30) (ho:∀ t,t<e->AA (f t)=0):∀ (d i:Nat) (j:Nat->V) (q:Nat),e=i+d->d<q ->
  (Ay (M6 L) (PL n f) q (UH n f i i (BL (cdV f) i) j)).sem=some (XA n f e e (BL (cdV f) e))
 | 0,i,j,q+1,h1,_=>by
  have hi:i=e:=by omega
  subst hi;rw [Ae (LH L n f i i _ j),Af he,ofNat_lt he,hb];rfl
 | d+1,i,j,q+1,h1,h2=>by
  have hi:i<n:=by omega
  rw [Ae (LH L n f i i _ j),Af hi,ofNat_lt hi,N5 hi (by decide) (of_decide_eq_true hn),Bc hi (Eu hn),ho i (by omega)];exact Yn L n f hn e he hb ho d (i+1) Ac q (by omega) (by omega)
theorem AlN:Ar Tryz.prog Gl 82 Q5:=by
 refine Ah A0 mixed Tryz.func82 (by kernel_rfl) (by kernel_rfl) λvs v h' h=>?_;obtain ⟨n,f,ha,h⟩:=D7 h;obtain ⟨hn,h⟩:=Ab h;have hx:=Bu KD [(0,PL n f)];cases hm:Bv n f with
 | true =>
  rw [hm] at h;have:=Aa h;simp only [Prod.mk.injEq] at this;obtain ⟨rfl,rfl⟩:=this;exact ⟨_,cx9 [(0,PL n f)],_,ha,rfl,hx.1,hx.2,Bw (B9 (Bd _) (Bd _)) _ (AhN _ _ n f 0 n _ (AW (Yo _ n f hn (Bh.1 hm) n 0 (YI n f) (n+1) (by omega) (by omega)))),
   As.one λj hj=>(HY (cdV f) n j hj).symm⟩
 | false =>rw [hm] at h;have:=Aa h;simp only [Prod.mk.injEq] at this;obtain ⟨rfl,rfl⟩:=this;obtain ⟨e,h1,h2,h3⟩:=P8 hm;have hw:=Bw (B9 (Bd _) (Bd _)) _ (AhM (BO [(0,PL n f)]) _ n f e e _ (AW (Yn _ n f hn e h1 h2 h3 e 0 (YI n f) (n+1) (by omega) (by omega))));exact ⟨_,cx9 [(0,PL n f)],_,ha,rfl,hx.1,hx.2,hw,As.refl _⟩
noncomputable def tb115:AD:=[]
theorem tb115_ok:Al Tryz.prog Gl tb115:=.nil
theorem Wk {n m b:Nat} (h:(n+m) * b <= 140737488355328):CJ n m b=true:=decide_eq_true h
def AmK (f g:Nat->Int):Nat->Nat->Ordering
 | 0,_=>.eq
 | d+1,i=>if f i<g i then .lt else if g i<f i then .gt else AmK f g d (i+1)
def cmpI (n:Nat) (f:Nat->Int) (m:Nat) (g:Nat->Int):Int :=
 match AmK f g (min n m) 0 with
 | .lt=>-1
 | .gt=>1
 | .eq=>if n<m then -1 else if m<n then 1 else 0
noncomputable def tb105:AD:=(83,leastT)::[]
theorem tb105_ok:Al Tryz.prog Gl tb105:=.cons AlM <| .nil
noncomputable def tb65:AD:=(82,Q5)::(83,leastT)::[]
theorem tb65_ok:Al Tryz.prog Gl tb65:=.cons AlN <| .cons AlM .nil
def AgM (n:Nat) (f:Nat->E6) (k:Nat):Blk:=.row 46 6 (Cd (Cd 0 (FC n k)) k) (Cq (Cd 0 (FC n k)) k (Cq 0 (FC n k) (λ_=>eV Ba) (λi=>eV (f (Cd k i)))) (λi=>eV (f i)))
theorem Ak0 (L:LT) (n:Nat) (f:Nat->E6) (h0:BZ n=true) (h1:Bv n f=true) (h2:Agd n=true) (h3:G2 40 0 (ofNat n)=true) (h13:Av (ile 0 (ofNat (D9 n (λi=>Aj (f i))))) (ile (ofNat (D9 n (λi=>Aj (f i)))) (ofNat n))=true) (h14:CJ 0 (FC n (D9 n (λi=>Aj (f i)))) 40=true) (h15:CJ (Cd 0 (FC n (D9 n (λi=>Aj (f i))))) (D9 n (λi=>Aj (f i))) 40=true):(AM (Au tab ⟨A9 tb65,L,Gl⟩ Tryz.f59 [Ao n f] [])).sem=some ((.tup [.ref 0,iV 0]),[AgM n f (D9 n (λi=>Aj (f i)))]):=by
 exact Ag (ks:=[kL n,kn h0,kn h1,kN (kI 0),kL n,kn h2,kn h3,kn h13,kn h14,kn h13,kn h15]) (by kernel_rfl)
def Mx (n:Nat) (f:Nat->E6) (i:Nat):E6:=f ((D9 n (λi=>Aj (f i))+i) % n)
def QC:List V->A3:=QJ λn f=>.br (BZ n) (.br (Bv n f) (.leaf (.tup [.ref 0,iV 0],[.row 46 6 n λi=>eV (Mx n f i)])) (.leaf (.tup [.ref 0,iV 30],[.row 46 6 0 λ_=>.und]))) .fail
theorem p65:Ar Tryz.prog Gl 59 QC:=by
 refine Ah A0 mixed Tryz.func59 (by kernel_rfl) (by kernel_rfl) λvs v h' h=>?_;obtain ⟨n,f,ha,h⟩:=D7 h;obtain ⟨hn,h⟩:=Ab h;have hx:=Bu tb65_ok [];cases hm:Bv n f with
 | true =>
  rw [hm] at h;have:=Aa h;simp only [Prod.mk.injEq] at this;obtain ⟨rfl,rfl⟩:=this;have hn':n * 40 <= 140737488355328:=of_decide_eq_true hn;have hk:=Aal n (λi=>Aj (f i));have e3:∀ k,Cd 0 (FC n k)=n-k:=λk=>by simp [Cd,FC]
  have hw:=Ak0 (BO []) n f hn hm (Ajz (HJ hn)) (by
    simp only [G2,Bool.and_eq_true,decide_eq_true_eq,Int.ofNat_eq_natCast]; omega) (by
    rw [FN,show (0:Int)=ofNat 0 from rfl,FN]; simp [Av]; omega) (by
    exact Wk (by show (0+(n-D9 n (λi=>Aj (f i)))) * 40 <= _; omega)) (by
    rw [e3]; exact Wk (by omega))
  obtain ⟨r1,r2⟩:=Wy n (D9 n (λi=>Aj (f i))) (λ_=>eV Ba) f eV hk;unfold AgM at hw;rw [r1] at hw;exact ⟨_,BQ Gl tb65 [],_,ha,rfl,hx.1,hx.2,hw,As.one λj hj=>(r2 j hj).symm⟩
 | false =>rw [hm] at h;have:=Aa h;simp only [Prod.mk.injEq] at this;obtain ⟨rfl,rfl⟩:=this;exact ⟨_,BQ Gl tb65 [],_,ha,rfl,hx.1,hx.2,Ag (ks:=[kL n,kn hn,kn hm,kN (⟨ieq 30 0,false,rfl⟩)]) (by kernel_rfl)/-W:wc65n-/,As.refl _⟩
noncomputable def tb67:AD:=(82,Q5)::[]
theorem tb67_ok:Al Tryz.prog Gl tb67:=.cons AlN <| .nil
theorem e42 (Γ:Cx) (vs:List V) (h:List Blk):Au tab Γ Tryz.f21 vs h=Au tab Γ Tryz.f21 vs h:=by kernel_rfl
theorem p42:Ar Tryz.prog Gl 21 Kx:=by
 refine Ah A0 mixed Tryz.func21 (by kernel_rfl) (by kernel_rfl) λvs v h' h=>?_;obtain ⟨n,f,m,g,ha,h⟩:=Kl h;obtain ⟨hn,h⟩:=Ab h;have:=Aa h;simp only [Prod.mk.injEq] at this;obtain ⟨rfl,rfl⟩:=this;have hx:=Bu KD [(0,Nf n)];exact ⟨_,cx9 [(0,Nf n)],_,ha,rfl,hx.1,hx.2,by rw [e42]; exact AbK n m f g (of_decide_eq_true hn),As.refl _⟩
theorem Agn {a b:E6} (ha:AA a=0) (hb:AA b=0) (h:Aj a=Aj b):a=b:=by
 rcases BH a with ⟨k,_,_,h1,h2,_⟩ | ⟨h1,_⟩
 ·rcases BH b with ⟨l,_,_,h3,h4,_⟩ | ⟨h3,_⟩
  ·rw [h1,h3] at h
   have:=Int.ofNat.inj h;rw [<- h2,<- h4,this]
  ·rw [hb] at h3; cases h3
 ·rw [ha] at h1; cases h1
theorem GN {n:Nat} {f:Nat->E6} {m:Nat} {g:Nat->E6}:Gx n f m g=true↔n=m∧∀ i,i<n->f i=g i:=by
 unfold Gx;rw [FO];by_cases h:n=m
 ·rw [decide_eq_true h]
  show FG f g n 0=true↔_;rw [IP];exact ⟨λh1=>⟨h,λi hi=>h1 i (Nat.zero_le _) (by omega)⟩,λh1 j _ h3=>h1.2 j (by omega)⟩
 ·rw [decide_eq_false h]
  exact ⟨λh=>(by cases h),λh1=>absurd h1.1 h⟩
noncomputable def tb19:AD:=(59,QC)::(21,Kx)::[]
theorem tb19_ok:Al Tryz.prog Gl tb19:=.cons p65 <| .cons p42 <| .nil
def Az (q:Nat->Bool):Nat->Nat->Option Nat
 | 0,_=>none
 | d+1,i=>match q i with
  | true=>some i
  | false=>Az q d (i+1)
theorem Fj {q:Nat->Bool} {d i:Nat} (h:q i=true):Az q (d+1) i=some i:=by rw [Az,h]
theorem Gc {q:Nat->Bool} {d i:Nat} (h:q i=false):Az q (d+1) i=Az q d (i+1):=by rw [Az,h]
theorem Ev {q p:Nat->Bool}:∀ d i,(∀ k,i <= k->k<i+d->q k=p k)->Az q d i=Az p d i
 | 0,_,_=>rfl
 | d+1,i,h=>by
  rw [Az,Az,h i (Nat.le_refl _) (by omega),Ev d (i+1) λk h1 h2=>h k (by omega) (by omega)]
theorem Gb {q:Nat->Bool}:∀ {d i t:Nat},Az q d i=some t->i <= t∧t<i+d∧q t=true
 | 0,_,_,h=>by cases h
 | d+1,i,t,h=>by
  cases hq:q i with
  | true =>rw [Fj hq] at h;simp only [Option.some.injEq] at h;subst h;exact ⟨Nat.le_refl _,by omega,hq⟩
  | false =>rw [Gc hq] at h;have:=Gb h;exact ⟨by omega,by omega,this.2.2⟩
theorem Cu {a b:Int} (h:ieq a b=true):a=b:=by simpa [ieq] using h
end Go.Proofs.YtkbgidbledjejaaGreat.Ed
namespace Go.Proofs.YtkbgidbledjejaaGreat.Ed
open Go.Sy Go
theorem Nq {σ ρ:Type} {g:Nat->σ->T (σ ⊕ ρ)} {fin:σ->ρ} {q:Nat->Bool} {acc:Nat->σ} {x:Nat->ρ} {n:Nat} (hc:∀ i,i<n->q i=false->(g i (acc i)).sem=some (.inl (acc (i+1))))
  (hx:∀ i,i<n->q i=true->(g i (acc i)).sem=some (.inr (x i))):∀ d i,i+d=n->DF g fin d i (acc i)=some (match Az q d i with
   | none=>fin (acc n)
   | some t=>x t)
 | 0,i,h=>by rw [<- h]; rfl
 | d+1,i,h=>by
  rw [DF];cases hq:q i with
  | false =>rw [hc i (by omega) hq,Gc hq];exact Nq hc hx d (i+1) (by omega)
  | true=>rw [hx i (by omega) hq,Fj hq]
def isN (o:Option Nat):Bool:=match o with
 | none=>true
 | some _=>false
def tO (q:Nat->Bool) (n:Nat):Nat:=match Az q n 0 with
 | some t=>t
 | none=>0
def nO (q:Nat->Bool) (n:Nat):V:=iV (Int.ofNat (tO q n))
section
variable {σ ρ:Type} {g:Nat->σ->T (σ ⊕ ρ)} {fin:σ->ρ} {q:Nat->Bool} {acc:Nat->σ} {x:Nat->ρ} {n:Nat} (hc:∀ i,i<n->q i=false->(g i (acc i)).sem=some (.inl (acc (i+1))))
  (hx:∀ i,i<n->q i=true->(g i (acc i)).sem=some (.inr (x i)))
include hc hx
theorem IO (h:isN (Az q n 0)=true):DF g fin n 0 (acc 0)=some (fin (acc n)):=by
 rw [Nq hc hx n 0 (Nat.zero_add n)];cases hq:Az q n 0 with
 | none=>rfl
 | some t=>rw [hq] at h; cases h
theorem IN (h:isN (Az q n 0)=false):DF g fin n 0 (acc 0)=some (x (tO q n)):=by
 rw [Nq hc hx n 0 (Nat.zero_add n)];unfold tO;cases hq:Az q n 0 with
 | none=>rw [hq] at h; cases h
 | some t=>rfl
end
end Go.Proofs.YtkbgidbledjejaaGreat.Ed
namespace Go.Proofs.YtkbgidbledjejaaGreat.Ed
open Go.Sy
theorem Ar.val {P:Program} {G:Nat->V} {f:FuncId} {F F':List V->A3} (h:Ar P G f F)
  (hF:∀ vs r,(F' vs).sem=some r->∃ v0,(F vs).sem=some (v0,r.2)∧∀ S w κ c,VR S w v0 κ c->VR S w r.1 κ c):Ar P G f F':=by
 refine ⟨h.1,λvs cs S w v h' hS hE hv he=>?_⟩;obtain ⟨v0,h1,h2⟩:=hF vs (v,h') he;obtain ⟨h3,h4⟩:=h.2 vs cs S w v0 h' hS hE hv h1;refine ⟨h3,h4.mono ?_⟩
 rintro e w' ⟨c,κ',S',q1,q2,q3,q4⟩
 exact ⟨c,κ',S',q1,q2,h2 _ _ _ _ q3,q4⟩
def Vj (k:Int):E6:=⟨-77,true,ieq (Aw k 2) 0,wr .i64 (Am 1000 k),-5,99⟩
def AcC:List V->A3
 | [.val (.int .i64 k)]=>out (eV (Vj k))
 | _=>.fail
theorem p85:Ar Tryz.prog Gl 31 AcC:=by
 refine Ah A0 mixed Tryz.func31 (by kernel_rfl) (by kernel_rfl) λvs v h' h=>?_;unfold AcC at h;split at h
 ·rename_i k
  have:=Aa h;simp only [Prod.mk.injEq] at this;obtain ⟨rfl,rfl⟩:=this;have hx:=Bu H3 [];exact ⟨_,BQ Gl tb0 [],_,B2.refl _,rfl,hx.1,hx.2,Ag (ks:=[]) (by kernel_rfl)/-W:wc85-/,As.refl _⟩
 ·cases h
theorem AfV (a:Int):ieq a a=true:=by simp [ieq]
end Go.Proofs.YtkbgidbledjejaaGreat.Ed
namespace Go.Proofs.YtkbgidbledjejaaGreat.Ed
open Go.Sy Go
open Int (ofNat)
noncomputable def tb43:AD:=(31,AcC)::[]
theorem tb43_ok:Al Tryz.prog Gl tb43:=.cons p85 .nil
theorem Hg {i k:Nat} (h:i ≠ k):Nat.beq i k=false:=by
 cases hb:Nat.beq i k
 ·rfl
 ·exact absurd (Nat.eq_of_beq_eq_true hb) h
def SR {α:Type} (z:Nat->α) (i:Nat) (e:α):Nat->α:=λk=>bif Nat.beq k i then e else z k
def YU {α:Type} (y:Nat->α) (e:α):Nat->Nat->α
 | 0=>y
 | i+1=>SR (YU y e i) i e
theorem AbD (z:Nat->E6) (i:Nat) (e:E6):BJ (λk=>eV (z k)) i (eV e)=λk=>eV (SR z i e k):=by
 funext k;rw [D1];unfold SR;cases Nat.beq k i <;> rfl
theorem Ain (z:Nat->Int) (i:Nat) (e:Int):BJ (λk=>iV (z k)) i (iV e)=λk=>iV (SR z i e k):=by
 funext k;rw [D1];unfold SR;cases Nat.beq k i <;> rfl
theorem NX (i:Nat):ile 0 (ofNat i)=true:=decide_eq_true (Int.natCast_nonneg i)
def lp43 (n:Nat) (y:Nat->E6) (k:Int):Lp:=⟨bmK 17 0 [0,1,4],1,bmK 17 0 [],1,n+1⟩
def st43 (n:Nat) (y:Nat->E6) (k:Int) (i:Nat) (z:Nat->E6) (j:Nat->V):St:=⟨jsV 17 0 j [(0,.ref 0),(1,iV k),(4,nV i)],[.xrow false 46 6 n (λi=>eV (z i))]⟩
def Am3 (n:Nat) (y:Nat->E6) (k:Int) (i:Nat) (z:Nat->E6):Ex×St:=(.ex 0,⟨jsV 17 0 Ac [],[.xrow false 46 6 n (λi=>eV (z i))]⟩)
noncomputable def body43 (L:LT):St->T (Ex×St):=λst=>A8 tab ⟨A9 tb43,L,Gl⟩ (A1 Tryz.f14 0) 0 st
section
variable (L:LT) (n:Nat) (y:Nat->E6) (k:Int) (i:Nat) (z:Nat->E6)  (j:Nat->V)
include L n y k i z j
theorem AlB (h0:ilt (ofNat i) (ofNat n)=false):Ap (body43 L) (lp43 n y k) (st43 n y k i z j)=some ((.ex 0),⟨jsV 17 0 Ac [],[.xrow false 46 6 n (λi=>eV (z i))]⟩):=by
 exact Ag (ks:=[kn h0]) (by kernel_rfl)
theorem AlA (h0:ilt (ofNat i) (ofNat n)=true) (h10:ile 0 (ofNat i)=true) (h11:nlt i n=true):Ap (body43 L) (lp43 n y k) (st43 n y k i z j)=some (.nm,⟨jsV 17 0 Ac [(0,.ref 0),(1,iV k),(4,iV (wr .i64 (Am (ofNat i) 1)))],[.xrow false 46 6 n (BJ (λi=>eV (z i)) i (eV (Vj (wr .i64 (Am 500 k)))))]⟩):=by
 exact Ag (ks:=[kn h0,kA (kn h10) (kn h0),kn h11]) (by kernel_rfl)
end
theorem run43 (L:LT) (n:Nat) (y:Nat->E6) (k:Int) (hn:n <= 4611686018427387904):∀ (d i:Nat) (j:Nat->V) (q:Nat),n=i+d->d<q ->
  (Ay (body43 L) (lp43 n y k) q (st43 n y k i (YU y (Vj (wr .i64 (Am 500 k))) i) j)).sem=some (Am3 n y k n (YU y (Vj (wr .i64 (Am 500 k))) n))
 | 0,i,j,q+1,h,_=>by
  have:n=i:=by omega
  subst this;exact Ae (AlB L n y k n _ j (A4 (Nat.le_refl _)))
 | d+1,i,j,q+1,h,h2=>by
  have hi:i<n:=by omega
  have h1:=AlA L n y k i (YU y (Vj (wr .i64 (Am 500 k))) i) j (ofNat_lt hi) (NX i) (decide_eq_true hi);rw [AbD] at h1;rw [Ae h1,AS,Bc hi (by omega)];exact run43 L n y k hn d (i+1) Ac q (by omega) (by omega)
def lp56 (n:Nat) (y:Nat->Int) (k:Int):Lp:=⟨bmK 16 0 [0,1,4],1,bmK 16 0 [],1,n+1⟩
end Go.Proofs.YtkbgidbledjejaaGreat.Ed
namespace Go.Proofs.YtkbgidbledjejaaGreat.En
open Go.Sy Go Go.Proofs.YtkbgidbledjejaaGreat.Ed
set_option maxRecDepth 100000
theorem AlS {i n:Nat} (h:i<n):ile (Int.ofNat n) (Int.ofNat i)=false:=decide_eq_false (by show ¬ ((n:Int) <= (i:Int)); omega)
def Te (e l f:E6):Bool:=Av (ieq e.src l.dst) (ieq e.dst f.src)
def Aio:List V->A3
 | [v,.pp l,.pp f]=>.br (okE v) (.br (okE l) (.br (okE f) (.leaf (bV (Te (edE v) (edE l) (edE f)),[])) .fail) .fail) .fail
 | _=>.fail
noncomputable def tbZ:AD:=[]
theorem Ix:Al Tryz.prog Gl tbZ:=.nil
theorem Aob:Ar Tryz.prog Gl 107 Aio:=by
 refine Ah A0 mixed Tryz.func107 (by kernel_rfl) (by kernel_rfl) λvs v h' h=>?_;unfold Aio at h;split at h
 ·rename_i a b c
  obtain ⟨g1,h⟩:=Ab h;obtain ⟨g2,h⟩:=Ab h;obtain ⟨g3,h⟩:=Ab h;cases Aa h;have hx:=AZ Ix [] (G:=Gl);refine ⟨_,cxA Gl tbZ [],_,B2.refl _,rfl,hx.1,hx.2,?_,As.refl _⟩;rw [DV g1,DV g2,DV g3];generalize edE a=e;generalize edE b=l;generalize edE c=f;show (AM (Au tab (cxA Gl tbZ []) Tryz.f107 [eV e,.pp (eV l),.pp (eV f)] [])).sem=some (bV (Te e l f),[]);cases h0:ieq e.src l.dst with
  | true=>exact DW.ok (.r 6 h0 <| .e (congrArg (λb=>(bV b,([]:List Blk))) (by unfold Te; rw [h0] <;> rfl))) (by kernel_rfl)
  | false=>exact DW.ok (.r 6 h0 <| .e (congrArg (λb=>(bV b,([]:List Blk))) (by unfold Te; rw [h0] <;> rfl))) (by kernel_rfl)
 ·cases h
abbrev WG (v:Nat->E6) (l f:E6) (i:Nat):Bool:=Te (v i) l f
def Ajr:List V->A3
 | [u,.fn 107 [.pp l,.pp f]]=>apL u λn v=>.br (okE l) (.br (okE f) (.br (C7 n) (.br (isN (Az (WG v (edE l) (edE f)) n 0)) (.leaf (iV (-1),[])) (.leaf (nO (WG v (edE l) (edE f)) n,[]))) .fail) .fail) .fail
 | _=>.fail
noncomputable def Abz:AD:=(107,Aio)::[]
theorem Aby:Al Tryz.prog Gl Abz:=.cons Aob <| .nil
def lp116:Lp:=⟨bmK 19 0 [0,1,4,6,7,8],0,bmK 19 0 [4],0,4611686018427387905⟩
def AmW (n:Nat) (v:Nat->E6) (l f:E6) (c:Int) (a:Unit) (j:Nat->V):St:=⟨jsV 19 0 j [(0,.sl 6 n (λi=>eV (v i))),(1,.fn 107 [.pp (eV l),.pp (eV f)]),(4,iV 0),(6,.sl 6 n (λi=>eV (v i))),(7,nV n),(8,iV c)],[]⟩
noncomputable def AoC (L:LT):St->T (Ex×St):=λst=>A8 tab ⟨A9 Abz,L,Gl⟩ (A1 Tryz.f116 0) 0 st
def SI (n:Nat) (v:Nat->E6) (l f:E6) (i:Nat) (a:Unit):Ex×St:=(.rt,⟨jsV 19 0 Ac [(4,nV i)],[]⟩)
def Amt (n:Nat) (v:Nat->E6) (l f:E6) (i:Nat) (a:Unit):T ((Unit) ⊕ (Ex×St)):=.br (Te (v i) l f) (.leaf (.inr (SI n v l f i a))) (.leaf (.inl ()))
def Ahw (n:Nat) (v:Nat->E6) (l f:E6) (a:Unit):Ex×St:=(.ex 0,⟨jsV 19 0 Ac [(4,iV 0)],[]⟩)
theorem AlE (L:LT) (n:Nat) (v:Nat->E6) (l f:E6)  (hn:n <= 4611686018427387904) {e:Ex×St} {a:Unit} {j:Nat->V} (h:DF (Amt n v l f) (Ahw n v l f) n 0 a=some e):(Ay (AoC L) lp116 4611686018427387905 (AmW n v l f 0 a j)).sem=some (exR e) :=
 Ec Hd hn (λi a j r hi h=>DK.ok (L:=goR (AmW n v l f) exR i) (.k (ofNat_lt hi) <| .k (Af hi) <| .r 3 eT <| .c (λh1=>.k h1 <| .l) λh1=>.k h1 <| .l) (by kernel_rfl) h) (λa j=>DK.ok (C:=.leaf (Ahw n v l f a)) (L:=exR) (.k (A4 (Nat.le_refl n)) .l) (by kernel_rfl) rfl) (Nat.zero_add _).symm (Nat.lt_succ_of_le hn) h
def Y5:List (Nat×Lp×List (Nat×(Nat->V))):=[(0,lp116,[])]
theorem AnS:Ar Tryz.prog Gl 116 Ajr:=by
 refine Ah A0 mixed Tryz.func116 (by kernel_rfl) (by kernel_rfl) λvs v h' h=>?_;unfold Ajr at h;split at h
 ·rename_i u b c
  obtain ⟨n,v,ha,h⟩:=Bb h;obtain ⟨g2,h⟩:=Ab h;obtain ⟨g3,h⟩:=Ab h;obtain ⟨hn,h⟩:=Ab h;have hn:n <= 4611686018427387904:=of_decide_eq_true hn;have hx:=AZ Aby Y5 (G:=Gl);refine ⟨[Ao n v,.fn 107 [.pp b,.pp c]],cxA Gl Abz Y5,_,λS w cs hq=>by
   obtain ⟨c,l,rfl,q1,q2⟩:=hq;exact ⟨c,_,rfl,ha S w c q1,q2⟩,rfl,hx.1,hx.2,?_,As.refl _⟩
  rw [DV g2,DV g3];generalize edE b=l at h;generalize edE c=f at h;have go:∀ i,(Amt n v l f i ()).sem=sel (WG v l f i) (some (.inr (SI n v l f i ()))) (some (.inl ())):=λi=>rfl;exact DK.ok (L:=λa=>a) (.c (λh1=>.a (AlE (C3 Y5) n v l f hn (j:=λ_=>.und) (IO (acc:=λ_=>()) (x:=λi=>SI n v l f i ()) (λi _ hq=>by rw [go,hq]; rfl) (λi _ hq=>by rw [go,hq]; rfl) h1)) .l) λh1=>.a (AlE (C3 Y5) n v l f hn (j:=λ_=>.und) (IN (acc:=λ_=>()) (x:=λi=>SI n v l f i ()) (λi _ hq=>by rw [go,hq]; rfl) (λi _ hq=>by rw [go,hq]; rfl) h1)) .l) (by kernel_rfl) h
 ·cases h
def V8 (n:Nat) (v:Nat->E6) (l f:E6):Bool:=AI (isN (Az (WG v l f) n 0))
def Ajv:List V->A3
 | [u,.fn 107 [.pp l,.pp f]]=>apL u λn v=>.br (okE l) (.br (okE f) (.br (C7 n) (.leaf (bV (V8 n v (edE l) (edE f)),[])) .fail) .fail) .fail
 | _=>.fail
noncomputable def tb106:AD:=(116,Ajr)::[]
theorem tb106_ok:Al Tryz.prog Gl tb106:=.cons AnS <| .nil
theorem Aoc:Ar Tryz.prog Gl 106 Ajv:=by
 refine Ah A0 mixed Tryz.func106 (by kernel_rfl) (by kernel_rfl) λvs v h' h=>?_;unfold Ajv at h;split at h
 ·rename_i u b c
  obtain ⟨n,v,ha,h⟩:=Bb h;obtain ⟨g2,h⟩:=Ab h;obtain ⟨g3,h⟩:=Ab h;obtain ⟨hn,h⟩:=Ab h;cases Aa h;have hx:=AZ tb106_ok [] (G:=Gl);refine ⟨[Ao n v,.fn 107 [.pp b,.pp c]],cxA Gl tb106 [],_,λS w cs hq=>by
   obtain ⟨c,l,rfl,q1,q2⟩:=hq;exact ⟨c,_,rfl,ha S w c q1,q2⟩,rfl,hx.1,hx.2,?_,As.refl _⟩
  rw [DV g2,DV g3];generalize edE b=l;generalize edE c=f;show (AM (Au tab (cxA Gl tb106 []) Tryz.f106 [Ao n v,.fn 107 [.pp (eV l),.pp (eV f)]] [])).sem=some (bV (V8 n v l f),[]);cases h1:isN (Az (WG v l f) n 0) with
  | true=>exact DW.ok (.k (eL n) <| .k eT <| .k eT <| .k hn <| .k h1 <| .e (congrArg (λb=>(bV b,([]:List Blk))) (by unfold V8; rw [h1] <;> rfl))) (by kernel_rfl)
  | false=>exact DW.ok (.k (eL n) <| .k eT <| .k eT <| .k hn <| .k h1 <| .e (congrArg (λb=>(bV b,([]:List Blk))) (by unfold V8; rw [h1] <;> exact (NX _)))) (by kernel_rfl)
 ·cases h
def AiX:List V->A3
 | [.val (.int .i64 _)]=>.leaf (bV false,[])
 | _=>.fail
theorem AnQ:Ar Tryz.prog Gl 121 AiX:=by
 refine Ah A0 mixed Tryz.func121 (by kernel_rfl) (by kernel_rfl) λvs v h' h=>?_;unfold AiX at h;split at h
 ·rename_i x
  cases Aa h;have hx:=AZ Ix [] (G:=Gl);exact ⟨[iV x],cxA Gl tbZ [],_,B2.refl _,rfl,hx.1,hx.2,DW.ok (.e (congrArg (λb=>(bV b,([]:List Blk))) (show AI (ieq x x)=false by rw [eI]; rfl))) (by kernel_rfl),As.refl _⟩
 ·cases h
def sgI (x y:Int):Int:=bif ilt x y then -1 else bif ilt y x then 1 else 0
def sgT:List V->A3
 | [.val (.int .i64 x),.val (.int .i64 y)]=>.leaf (iV (sgI x y),[])
 | _=>.fail
noncomputable def tb115:AD:=(121,AiX)::[]
theorem tb115_ok:Al Tryz.prog Gl tb115:=.cons AnQ <| .nil
theorem AnT:Ar Tryz.prog Gl 115 sgT:=by
 refine Ah A0 mixed Tryz.func115 (by kernel_rfl) (by kernel_rfl) λvs v h' h=>?_;unfold sgT at h;split at h
 ·rename_i x y
  cases Aa h;have hx:=AZ tb115_ok [] (G:=Gl);exact ⟨[iV x,iV y],cxA Gl tb115 [],_,B2.refl _,rfl,hx.1,hx.2,DW.ok (.r 2 eF <| .c (ilt x y) (λh1=>.k h1 <| .e (congrArg (λb=>(iV b,([]:List Blk))) (by unfold sgI; rw [h1] <;> rfl))) λh1=>.k h1 <| .c (ilt y x) (λh2=>.k h2 <| .e (congrArg (λb=>(iV b,([]:List Blk))) (by unfold sgI; rw [h1,h2] <;> rfl))) λh2=>.k h2 <| .e (congrArg (λb=>(iV b,([]:List Blk))) (by unfold sgI; rw [h1,h2] <;> rfl))) (by kernel_rfl),As.refl _⟩
 ·cases h
abbrev sgQ (x y:Nat->Int) (i:Nat):Bool:=AI (ieq (sgI (x i) (y i)) 0)
def cmpI (n:Nat) (x y:Nat->Int):Int:=bif isN (Az (sgQ x y) n 0) then 0 else sgI (x (tO (sgQ x y) n)) (y (tO (sgQ x y) n))
def cmT:List V->A3:=AjQ λn x m y=>.br (Fy n m) (.br (C7 n) (.leaf (iV (cmpI n x y),[])) .fail) .fail
noncomputable def tb105:AD:=(115,sgT)::[]
theorem tb105_ok:Al Tryz.prog Gl tb105:=.cons AnT <| .nil
def Ahl:Lp:=⟨bmK 36 0 [0,1,4,9,10,11],0,bmK 36 0 [0,1,4],0,4611686018427387905⟩
def AmX (n:Nat) (x y:Nat->Int) (c:Int) (a:Unit) (j:Nat->V):St:=⟨jsV 36 0 j [(0,.sl 1 n (λi=>iV (x i))),(1,.sl 1 n (λi=>iV (y i))),(4,iV 0),(9,.sl 1 n (λi=>iV (x i))),(10,nV n),(11,iV c)],[]⟩
noncomputable def AoE (L:LT):St->T (Ex×St):=λst=>A8 tab ⟨A9 tb105,L,Gl⟩ (A1 Tryz.f105 0) 0 st
def SJ (n:Nat) (x y:Nat->Int) (i:Nat) (a:Unit):Ex×St:=(.rt,⟨jsV 36 0 Ac [(0,.sl 1 n (λi=>iV (x i))),(1,.sl 1 n (λi=>iV (y i))),(4,iV (sgI (x i) (y i)))],[]⟩)
def Amu (n:Nat) (x y:Nat->Int) (i:Nat) (a:Unit):T ((Unit) ⊕ (Ex×St)):=.br (ieq (sgI (x i) (y i)) 0) (.leaf (.inl ())) (.leaf (.inr (SJ n x y i a)))
def Ahx (n:Nat) (x y:Nat->Int) (a:Unit):Ex×St:=(.ex 0,⟨jsV 36 0 Ac [(0,.sl 1 n (λi=>iV (x i))),(1,.sl 1 n (λi=>iV (y i))),(4,iV 0)],[]⟩)
theorem AlG (L:LT) (n:Nat) (x y:Nat->Int)  (hn:n <= 4611686018427387904) {e:Ex×St} {a:Unit} {j:Nat->V} (h:DF (Amu n x y) (Ahx n x y) n 0 a=some e):(Ay (AoE L) Ahl 4611686018427387905 (AmX n x y 0 a j)).sem=some (exR e) :=
 Ec Hd hn (λi a j r hi h=>DK.ok (L:=goR (AmX n x y) exR i) (.k (ofNat_lt hi) <| .k (Af hi) <| .k (AlS hi) <| .k (Af hi) <| .c (λh2=>.k (eN h2) <| .l) λh2=>.k (eN h2) <| .l) (by kernel_rfl) h) (λa j=>DK.ok (C:=.leaf (Ahx n x y a)) (L:=exR) (.k (A4 (Nat.le_refl n)) .l) (by kernel_rfl) rfl) (Nat.zero_add _).symm (Nat.lt_succ_of_le hn) h
def Y6:List (Nat×Lp×List (Nat×(Nat->V))):=[(0,Ahl,[])]
theorem Aod:Ar Tryz.prog Gl 105 cmT:=by
 refine Ah A0 mixed Tryz.func105 (by kernel_rfl) (by kernel_rfl) λvs v h' h=>?_;unfold cmT at h;obtain ⟨n,x,m,y,ha,h⟩:=AaF h;obtain ⟨hm,h2⟩:=Ab h;obtain ⟨hn,h3⟩:=Ab h2;cases Aa h3;obtain rfl:n=m:=Nat.eq_of_beq_eq_true hm;have hn:n <= 4611686018427387904:=of_decide_eq_true hn;have hx:=AZ tb105_ok Y6 (G:=Gl);refine ⟨[Co n x,Co n y],cxA Gl tb105 Y6,_,ha,rfl,hx.1,hx.2,?_,As.refl _⟩;have go:∀ i,(Amu n x y i ()).sem=sel (sgQ x y i) (some (.inr (SJ n x y i ()))) (some (.inl ())):=λi=>by
  show sel (ieq (sgI (x i) (y i)) 0) _ _=sel (AI (ieq (sgI (x i) (y i)) 0)) _ _;cases ieq (sgI (x i) (y i)) 0 <;> rfl
 cases h1:isN (Az (sgQ x y) n 0) with
 | true =>
  have hs:cmpI n x y=0:=by unfold cmpI; rw [h1]; rfl
  exact DW.ok (.a (AlG (C3 Y6) n x y hn (j:=λ_=>.und) (IO (acc:=λ_=>()) (x:=λi=>SJ n x y i ()) (λi _ hq=>by rw [go,hq]; rfl) (λi _ hq=>by rw [go,hq]; rfl) h1)) <| .k (A4 (Nat.le_refl n)) <| .e (congrArg (λb=>(iV b,([]:List Blk))) hs.symm)) (by kernel_rfl)
 | false =>
  have hs:cmpI n x y=sgI (x (tO (sgQ x y) n)) (y (tO (sgQ x y) n)):=by unfold cmpI; rw [h1]; rfl
  exact DW.ok (.a (AlG (C3 Y6) n x y hn (j:=λ_=>.und) (IN (acc:=λ_=>()) (x:=λi=>SJ n x y i ()) (λi _ hq=>by rw [go,hq]; rfl) (λi _ hq=>by rw [go,hq]; rfl) h1)) <| .e (congrArg (λb=>(iV b,([]:List Blk))) hs.symm)) (by kernel_rfl)
end Go.Proofs.YtkbgidbledjejaaGreat.En
