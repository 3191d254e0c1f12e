/-
  Canon and Same, and the law CycleApart as a function: two lists are one another turned just if their least turned lists are the same. No conditions.
-/
import Derived.Test.YtkbgidbledjejaaGreatCyL
import Derived.Test.YtkbgidbledjejaaGreatCyA
namespace Go.Proofs.YtkbgidbledjejaaGreat.Ed
open Go.Sy
open Int (ofNat)
theorem KW (n m:Nat) (gx g:Nat->V) (i:Nat) (h:i<n+m):BZ n m gx g i=bif Nat.blt i n then gx i else g (i-n):=by
 cases hb:Nat.blt i n with
 | true=>exact Qu n m gx g i (Nat.blt_eq ▸ hb)
 | false =>
  have h1:n <= i:=by
   rcases Nat.lt_or_ge i n with h2 | h2
   ·rw [show Nat.blt i n=true from Nat.blt_eq ▸ h2] at hb; cases hb
   ·exact h2
  have:=Qv n m gx g (i-n) (by omega);rw [show n+(i-n)=i by omega] at this;exact this
theorem WN {α:Type} (n k:Nat) (z:Nat->V) (h:Nat->α) (e:α->V) (hk:k<n ∨ n=0∧k=0):Bv (Bv 0 (FB n k)) k=n∧∀ j,j<n ->
  BZ (Bv 0 (FB n k)) k (BZ 0 (FB n k) z (λi=>e (h (Bv k i)))) (λi=>e (h i)) j=e (h ((k+j) % n)):=by
 have h1:Bv 0 (FB n k)=n-k:=by simp [Bv,FB]
 have h2:FB n k=n-k:=rfl;refine ⟨by rw [h1]; show n-k+k=n; omega,λj hj=>?_⟩;rw [h1,h2,KW _ _ _ _ j (by omega)];cases hb:Nat.blt j (n-k) with
 | true =>have hb:j<n-k:=Nat.blt_eq ▸ hb;show BZ 0 (n-k) z (λi=>e (h (Bv k i))) j=_;rw [KW _ _ _ _ j (by omega)];show e (h (k+(j-0)))=_;rw [Nat.mod_eq_of_lt (by omega),Nat.sub_zero]
 | false =>
  have hb:n-k <= j:=by
   rcases Nat.lt_or_ge j (n-k) with h3 | h3
   ·rw [show Nat.blt j (n-k)=true from Nat.blt_eq ▸ h3] at hb; cases hb
   ·exact h3
  show e (h (j-(n-k)))=_;rw [show k+j=j-(n-k)+n by omega,Nat.add_mod_right,Nat.mod_eq_of_lt (by omega)]
def N6 (n:Nat):Bool:=decide (n * 8 <= 140737488355328)
theorem Ee {n:Nat} (h:N6 n=true):n <= 4611686018427387904:=by
 have h:n * 8 <= 140737488355328:=of_decide_eq_true h;omega
theorem AkH {n:Nat} (h:N6 n=true):AgX n=true:=by
 have h:n * 8 <= 140737488355328:=of_decide_eq_true h;exact decide_eq_true (by omega)
theorem HF {n:Nat} (h:Cl n=true):N6 n=true:=by
 have h:n * 40 <= 140737488355328:=of_decide_eq_true h;exact decide_eq_true (by omega)
theorem Nt (n:Nat) (h:Nat->Int):∀ q i t s,E4 n h q i t s <= n-1
 | 0,_,_,_=>Nat.zero_le _
 | q+1,i,t,s=>by
  unfold E4;split
  ·omega
  ·split
   ·exact Nt n h q _ _ _
   ·split <;> exact Nt n h q _ _ _
theorem AaM (n:Nat) (h:Nat->Int):DI n h <= n-1:=Nt n h _ _ _ _
theorem AaL (n:Nat) (h:Nat->Int):DI n h<n ∨ n=0∧DI n h=0:=by
 have:=AaM n h;omega
def Qd (n:Nat) (f:Nat->E6):Lp:=⟨bmK 28 0 [0,2,3,4,9,10,11],2,bmK 28 0 [2,3,4],4,n+1⟩
def UW (n:Nat) (f:Nat->E6) (i k:Nat) (x:Nat->V) (j:Nat->V):St:=⟨jsV 28 0 j [(0,.sl 6 n λi=>eV (f i)),(2,.ref 0),(3,iV 0),(4,.ref 1),(9,.sl 6 n λi=>eV (f i)),(10,nV n),(11,nV i)],[.row 3 1 0 λ_=>.und,.row 3 1 k x]⟩
def Yd (n:Nat) (f:Nat->E6) (i k:Nat) (x:Nat->V):Ex×St:=(.ex 0,⟨jsV 28 0 Ac [(2,.ref 0),(3,iV 0),(4,.ref 1)],[.row 3 1 0 λ_=>.und,.row 3 1 k x]⟩)
def Yc (n:Nat) (f:Nat->E6) (i k:Nat) (x:Nat->V):Ex×St:=(.rt,⟨jsV 28 0 Ac [(2,.ref 3),(3,iV 30),(4,.ref 1)],[.row 3 1 0 λ_=>.und,.row 3 1 k x,.cells [iV (f i).kind,bV (f i).ext,bV (f i).same,iV (f i).src,iV (f i).dst,iV (f i).fence],.row 3 1 0 λ_=>.und]⟩)
noncomputable def MB (L:LT):St->T (Ex×St):=λst=>A6 tab ⟨A5 tb8,L,Gl⟩ (Aw Tryz.f82 0) 0 st
theorem LH (L:LT) (n:Nat) (f:Nat->E6) (i k:Nat) (x:Nat->V) (j:Nat->V):Am (MB L) (Qd n f) (UW n f i k x j)
 = (sel (ilt (ofNat i) (ofNat n)) (sel (Av (ile 0 (ofNat i)) (ilt (ofNat i) (ofNat n))) (sel (AN (ieq (AE (f i)) 0)) (some (.rt,⟨[.und,.und,.ref 3,iV 30,.ref 1,.und,.und,.und,.und,.und,.und,.und,.und,.und,.und,.und,.und,.und,.und,.und,.und,.und,.und,.und,.und,.und,.und,.und],[.row 3 1 0 Ac,.row 3 1 k x,.cells [iV (f i).kind,bV (f i).ext,bV (f i).same,iV (f i).src,iV (f i).dst,iV (f i).fence],.row 3 1 0 Ac]⟩)) (sel (Ck k 1 8) (some (.nm,⟨[.sl 6 n (λi=>eV (f i)),.und,.ref 0,iV 0,.ref 1,.und,.und,.und,.und,.sl 6 n (λi=>eV (f i)),nV n,iV (wr .i64 (Ai (ofNat i) 1)),.und,.und,.und,.und,.und,.und,.und,.und,.und,.und,.und,.und,.und,.und,.und,.und],[.row 3 1 0 Ac,.row 3 1 (Bv k 1) (AC k x (iV (Ao (f i))))]⟩)) none)) none) (some ((.ex 0),⟨[.und,.und,.ref 0,iV 0,.ref 1,.und,.und,.und,.und,.und,.und,.und,.und,.und,.und,.und,.und,.und,.und,.und,.und,.und,.und,.und,.und,.und,.und,.und],[.row 3 1 0 Ac,.row 3 1 k x]⟩))):=by kernel_rfl
def Zn (n:Nat) (f:Nat->E6) :Nat->V:=lkV A7 []
section
variable (L:LT) (p0:PT) (n:Nat) (f:Nat->E6) (i k:Nat) (x:Nat->V)
include L p0 n f i k x
theorem AiQ  (hp0:p0 (MB (onP 0 p0 (Yd n f i k x) L)) (UW n f 0 0 Ac (Zn n f ))=true):(AL (Ar tab ⟨A5 tb8,onP 0 p0 (Yd n f i k x) L,Gl⟩ Tryz.f82 [Ap n f] [])).sem=some ((.tup [.ref 0,iV 0]),[.row 3 1 k x]):=by
 exact Ag (ks:=[kn hp0]) (by kernel_rfl)
theorem AiP  (hp0:p0 (MB (onP 0 p0 (Yc n f i k x) L)) (UW n f 0 0 Ac (Zn n f ))=true):(AL (Ar tab ⟨A5 tb8,onP 0 p0 (Yc n f i k x) L,Gl⟩ Tryz.f82 [Ap n f] [])).sem=some ((.tup [.ref 0,iV 30]),[.row 3 1 0 Ac]):=by
 exact Ag (ks:=[kn hp0]) (by kernel_rfl)
end
theorem YF (L:LT) (n:Nat) (f:Nat->E6) (hn:Cl n=true) (ho:∀ t,t<n->AE (f t)=0):∀ (d i:Nat) (j:Nat->V) (q:Nat),n=i+d->d<q ->
  (Ax (MB L) (Qd n f) q (UW n f i i (BJ (cdV f) i) j)).sem=some (Yd n f 0 n (BJ (cdV f) n))
 | 0,i,j,q+1,h1,_=>by
  have hi:i=n:=by omega
  subst hi;rw [Ae (LH L i f i i _ j),A1 (Nat.le_refl i)];rfl
 | d+1,i,j,q+1,h1,h2=>by
  have hi:i<n:=by omega
  rw [Ae (LH L n f i i _ j),Af hi,ofNat_lt hi,NE hi (by decide) (of_decide_eq_true hn),AT hi (Et hn),ho i hi];exact YF L n f hn ho d (i+1) Ac q (by omega) (by omega)
theorem YE (L:LT) (n:Nat) (f:Nat->E6) (hn:Cl n=true) (e:Nat) (he:e<n) (hb:AE (f e)=30) (ho:∀ t,t<e->AE (f t)=0):∀ (d i:Nat) (j:Nat->V) (q:Nat),e=i+d->d<q ->
  (Ax (MB L) (Qd n f) q (UW n f i i (BJ (cdV f) i) j)).sem=some (Yc n f e e (BJ (cdV f) e))
 | 0,i,j,q+1,h1,_=>by
  have hi:i=e:=by omega
  subst hi;rw [Ae (LH L n f i i _ j),Af he,ofNat_lt he,hb];rfl
 | d+1,i,j,q+1,h1,h2=>by
  have hi:i<n:=by omega
  rw [Ae (LH L n f i i _ j),Af hi,ofNat_lt hi,NE hi (by decide) (of_decide_eq_true hn),AT hi (Et hn),ho i (by omega)];exact YE L n f hn e he hb ho d (i+1) Ac q (by omega) (by omega)
theorem Ane:As Tryz.prog Gl 82 QK:=by
 refine Ah A2 mixed Tryz.func82 (by kernel_rfl) (by kernel_rfl) λvs v h' h=>?_;obtain ⟨n,f,ha,h⟩:=Dg h;obtain ⟨hn,h⟩:=Ab h;have hx:=Bi KD [(0,Qd n f)];cases hm:BF n f with
 | true =>
  rw [hm] at h;have:=Aa h;simp only [Prod.mk.injEq] at this;obtain ⟨rfl,rfl⟩:=this;exact ⟨_,cx9 [(0,Qd n f)],_,ha,rfl,hx.1,hx.2,Bh (Bg (AV _) (AV _)) _ (AiQ _ _ n f 0 n _ (AB (YF _ n f hn (BO.1 hm) n 0 (Zn n f) (n+1) (by omega) (by omega)))),
   Au.one λj hj=>(HY (cdV f) n j hj).symm⟩
 | false =>rw [hm] at h;have:=Aa h;simp only [Prod.mk.injEq] at this;obtain ⟨rfl,rfl⟩:=this;obtain ⟨e,h1,h2,h3⟩:=PS hm;have hw:=Bh (Bg (AV _) (AV _)) _ (AiP (B6 [(0,Qd n f)]) _ n f e e _ (AB (YE _ n f hn e h1 h2 h3 e 0 (Zn n f) (n+1) (by omega) (by omega))));exact ⟨_,cx9 [(0,Qd n f)],_,ha,rfl,hx.1,hx.2,hw,Au.refl _⟩
noncomputable def tb115:AG:=[]
theorem tb115_ok:Al Tryz.prog Gl tb115:=.nil
theorem SZ {n m b:Nat} (h:(n+m) * b <= 140737488355328):Ck n m b=true:=decide_eq_true h
def Aof (f g:Nat->Int):Nat->Nat->Ordering
 | 0,_=>.eq
 | d+1,i=>if f i<g i then .lt else if g i<f i then .gt else Aof f g d (i+1)
def cmpI (n:Nat) (f:Nat->Int) (m:Nat) (g:Nat->Int):Int :=
 match Aof f g (min n m) 0 with
 | .lt=>-1
 | .gt=>1
 | .eq=>if n<m then -1 else if m<n then 1 else 0
noncomputable def tb105:AG:=(83,leastT)::[]
theorem tb105_ok:Al Tryz.prog Gl tb105:=.cons And <| .nil
noncomputable def tb65:AG:=(82,QK)::(83,leastT)::[]
theorem tb65_ok:Al Tryz.prog Gl tb65:=.cons Ane <| .cons And .nil
def AhJ (n:Nat) (f:Nat->E6) (k:Nat):Blk:=.row 46 6 (Bv (Bv 0 (FB n k)) k) (BZ (Bv 0 (FB n k)) k (BZ 0 (FB n k) (λ_=>eV Ca) (λi=>eV (f (Bv k i)))) (λi=>eV (f i)))
theorem AlE (L:LT) (n:Nat) (f:Nat->E6) (h0:Cl n=true) (h1:BF n f=true) (h2:AgX n=true) (h3:Fy 40 0 (ofNat n)=true) (h13:Av (ile 0 (ofNat (DI n (λi=>Ao (f i))))) (ile (ofNat (DI n (λi=>Ao (f i)))) (ofNat n))=true) (h14:Ck 0 (FB n (DI n (λi=>Ao (f i)))) 40=true) (h15:Ck (Bv 0 (FB n (DI n (λi=>Ao (f i))))) (DI n (λi=>Ao (f i))) 40=true):(AL (Ar tab ⟨A5 tb65,L,Gl⟩ Tryz.f59 [Ap n f] [])).sem=some ((.tup [.ref 0,iV 0]),[AhJ n f (DI n (λi=>Ao (f i)))]):=by
 exact Ag (ks:=[kL n,kn h0,kn h1,kN (kI 0),kL n,kn h2,kn h3,kn h13,kn h14,kn h13,kn h15]) (by kernel_rfl)
def M3 (n:Nat) (f:Nat->E6) (i:Nat):E6:=f ((DI n (λi=>Ao (f i))+i) % n)
def QR:List V->A3:=Oy λn f=>.br (Cl n) (.br (BF n f) (.leaf (.tup [.ref 0,iV 0],[.row 46 6 n λi=>eV (M3 n f i)])) (.leaf (.tup [.ref 0,iV 30],[.row 46 6 0 λ_=>.und]))) .fail
theorem p65:As Tryz.prog Gl 59 QR:=by
 refine Ah A2 mixed Tryz.func59 (by kernel_rfl) (by kernel_rfl) λvs v h' h=>?_;obtain ⟨n,f,ha,h⟩:=Dg h;obtain ⟨hn,h⟩:=Ab h;have hx:=Bi tb65_ok [];cases hm:BF n f with
 | true =>
  rw [hm] at h;have:=Aa h;simp only [Prod.mk.injEq] at this;obtain ⟨rfl,rfl⟩:=this;have hn':n * 40 <= 140737488355328:=of_decide_eq_true hn;have hk:=AaL n (λi=>Ao (f i));have e3:∀ k,Bv 0 (FB n k)=n-k:=λk=>by simp [Bv,FB]
  have hw:=AlE (B6 []) n f hn hm (AkH (HF hn)) (by
    simp only [Fy,Bool.and_eq_true,decide_eq_true_eq,Int.ofNat_eq_natCast]; omega) (by
    rw [EK,show (0:Int)=ofNat 0 from rfl,EK]; simp [Av]; omega) (by
    exact SZ (by show (0+(n-DI n (λi=>Ao (f i)))) * 40 <= _; omega)) (by
    rw [e3]; exact SZ (by omega))
  obtain ⟨r1,r2⟩:=WN n (DI n (λi=>Ao (f i))) (λ_=>eV Ca) f eV hk;unfold AhJ at hw;rw [r1] at hw;exact ⟨_,B7 Gl tb65 [],_,ha,rfl,hx.1,hx.2,hw,Au.one λj hj=>(r2 j hj).symm⟩
 | false =>rw [hm] at h;have:=Aa h;simp only [Prod.mk.injEq] at this;obtain ⟨rfl,rfl⟩:=this;exact ⟨_,B7 Gl tb65 [],_,ha,rfl,hx.1,hx.2,Ag (ks:=[kL n,kn hn,kn hm,kN (⟨ieq 30 0,false,rfl⟩)]) (by kernel_rfl)/-W:wc65n-/,Au.refl _⟩
noncomputable def tb67:AG:=(82,QK)::[]
theorem tb67_ok:Al Tryz.prog Gl tb67:=.cons Ane <| .nil
theorem e42 (Γ:Cx) (vs:List V) (h:List Blk):Ar tab Γ Tryz.f21 vs h=Ar tab Γ Tryz.f21 vs h:=by kernel_rfl
theorem p42:As Tryz.prog Gl 21 Jq:=by
 refine Ah A2 mixed Tryz.func21 (by kernel_rfl) (by kernel_rfl) λvs v h' h=>?_;obtain ⟨n,f,m,g,ha,h⟩:=Kr h;obtain ⟨hn,h⟩:=Ab h;have:=Aa h;simp only [Prod.mk.injEq] at this;obtain ⟨rfl,rfl⟩:=this;have hx:=Bi KD [(0,Nq n)];exact ⟨_,cx9 [(0,Nq n)],_,ha,rfl,hx.1,hx.2,by rw [e42]; exact Acw n m f g (of_decide_eq_true hn),Au.refl _⟩
theorem Ahj {a b:E6} (ha:AE a=0) (hb:AE b=0) (h:Ao a=Ao b):a=b:=by
 rcases BW a with ⟨k,_,_,h1,h2,_⟩ | ⟨h1,_⟩
 ·rcases BW b with ⟨l,_,_,h3,h4,_⟩ | ⟨h3,_⟩
  ·rw [h1,h3] at h
   have:=Int.ofNat.inj h;rw [<- h2,<- h4,this]
  ·rw [hb] at h3; cases h3
 ·rw [ha] at h1; cases h1
theorem FV {n:Nat} {f:Nat->E6} {m:Nat} {g:Nat->E6}:FW n f m g=true↔n=m∧∀ i,i<n->f i=g i:=by
 unfold FW;rw [FO];by_cases h:n=m
 ·rw [decide_eq_true h]
  show FG f g n 0=true↔_;rw [IR];exact ⟨λh1=>⟨h,λi hi=>h1 i (Nat.zero_le _) (by omega)⟩,λh1 j _ h3=>h1.2 j (by omega)⟩
 ·rw [decide_eq_false h]
  exact ⟨λh=>(by cases h),λh1=>absurd h1.1 h⟩
noncomputable def tb19:AG:=(59,QR)::(21,Jq)::[]
theorem tb19_ok:Al Tryz.prog Gl tb19:=.cons p65 <| .cons p42 <| .nil
def A0 (q:Nat->Bool):Nat->Nat->Option Nat
 | 0,_=>none
 | d+1,i=>match q i with
  | true=>some i
  | false=>A0 q d (i+1)
theorem EE {q:Nat->Bool} {d i:Nat} (h:q i=true):A0 q (d+1) i=some i:=by rw [A0,h]
theorem EF {q:Nat->Bool} {d i:Nat} (h:q i=false):A0 q (d+1) i=A0 q d (i+1):=by rw [A0,h]
theorem Du {q p:Nat->Bool}:∀ d i,(∀ k,i <= k->k<i+d->q k=p k)->A0 q d i=A0 p d i
 | 0,_,_=>rfl
 | d+1,i,h=>by
  rw [A0,A0,h i (Nat.le_refl _) (by omega),Du d (i+1) λk h1 h2=>h k (by omega) (by omega)]
theorem EX {q:Nat->Bool}:∀ {d i t:Nat},A0 q d i=some t->i <= t∧t<i+d∧q t=true
 | 0,_,_,h=>by cases h
 | d+1,i,t,h=>by
  cases hq:q i with
  | true =>rw [EE hq] at h;simp only [Option.some.injEq] at h;subst h;exact ⟨Nat.le_refl _,by omega,hq⟩
  | false =>rw [EF hq] at h;have:=EX h;exact ⟨by omega,by omega,this.2.2⟩
theorem Ct {a b:Int} (h:ieq a b=true):a=b:=by simpa [ieq] using h
end Go.Proofs.YtkbgidbledjejaaGreat.Ed
namespace Go.Proofs.YtkbgidbledjejaaGreat.Ed
open Go.Sy Go
theorem N5 {σ ρ:Type} {g:Nat->σ->T (σ ⊕ ρ)} {fin:σ->ρ} {q:Nat->Bool} {acc:Nat->σ} {x:Nat->ρ} {n:Nat} (hc:∀ i,i<n->q i=false->(g i (acc i)).sem=some (.inl (acc (i+1))))
  (hx:∀ i,i<n->q i=true->(g i (acc i)).sem=some (.inr (x i))):∀ d i,i+d=n->Ds g fin d i (acc i)=some (match A0 q d i with
   | none=>fin (acc n)
   | some t=>x t)
 | 0,i,h=>by rw [<- h]; rfl
 | d+1,i,h=>by
  rw [Ds];cases hq:q i with
  | false =>rw [hc i (by omega) hq,EF hq];exact N5 hc hx d (i+1) (by omega)
  | true=>rw [hx i (by omega) hq,EE hq]
def isN (o:Option Nat):Bool:=match o with
 | none=>true
 | some _=>false
def tO (q:Nat->Bool) (n:Nat):Nat:=match A0 q n 0 with
 | some t=>t
 | none=>0
def nO (q:Nat->Bool) (n:Nat):V:=iV (Int.ofNat (tO q n))
section
variable {σ ρ:Type} {g:Nat->σ->T (σ ⊕ ρ)} {fin:σ->ρ} {q:Nat->Bool} {acc:Nat->σ} {x:Nat->ρ} {n:Nat} (hc:∀ i,i<n->q i=false->(g i (acc i)).sem=some (.inl (acc (i+1))))
  (hx:∀ i,i<n->q i=true->(g i (acc i)).sem=some (.inr (x i)))
include hc hx
theorem IQ (h:isN (A0 q n 0)=true):Ds g fin n 0 (acc 0)=some (fin (acc n)):=by
 rw [N5 hc hx n 0 (Nat.zero_add n)];cases hq:A0 q n 0 with
 | none=>rfl
 | some t=>rw [hq] at h; cases h
theorem IP (h:isN (A0 q n 0)=false):Ds g fin n 0 (acc 0)=some (x (tO q n)):=by
 rw [N5 hc hx n 0 (Nat.zero_add n)];unfold tO;cases hq:A0 q n 0 with
 | none=>rw [hq] at h; cases h
 | some t=>rfl
end
end Go.Proofs.YtkbgidbledjejaaGreat.Ed
namespace Go.Proofs.YtkbgidbledjejaaGreat.Ed
open Go.Sy
open Int (ofNat)
theorem As.val {P:Program} {G:Nat->V} {f:FuncId} {F F':List V->A3} (h:As P G f F)
  (hF:∀ vs r,(F' vs).sem=some r->∃ v0,(F vs).sem=some (v0,r.2)∧∀ S w κ c,VR S w v0 κ c->VR S w r.1 κ c):As P G f F':=by
 refine ⟨h.1,λvs cs S w v h' hS hE hv he=>?_⟩;obtain ⟨v0,h1,h2⟩:=hF vs (v,h') he;obtain ⟨h3,h4⟩:=h.2 vs cs S w v0 h' hS hE hv h1;refine ⟨h3,h4.mono ?_⟩
 rintro e w' ⟨c,κ',S',q1,q2,q3,q4⟩
 exact ⟨c,κ',S',q1,q2,h2 _ _ _ _ q3,q4⟩
def BP (k:Int):E6:=⟨-77,true,ieq (Ay k 2) 0,wr .i64 (Ai 1000 k),-5,99⟩
def Sx:List V->A3
 | [.val (.int .i64 k)]=>out (eV (BP k))
 | _=>.fail
theorem p85:As Tryz.prog Gl 31 Sx:=by
 refine Ah A2 mixed Tryz.func31 (by kernel_rfl) (by kernel_rfl) λvs v h' h=>?_;unfold Sx at h;split at h
 ·rename_i k
  have:=Aa h;simp only [Prod.mk.injEq] at this;obtain ⟨rfl,rfl⟩:=this;have hx:=Bi H2 [];exact ⟨_,B7 Gl tb0 [],_,By.refl _,rfl,hx.1,hx.2,Ag (ks:=[]) (by kernel_rfl)/-W:wc85-/,Au.refl _⟩
 ·cases h
noncomputable def AfM:AG:=(31,Sx)::[]
theorem AfL:Al Tryz.prog Gl AfM:=.cons p85 .nil
def AD (n:Nat) (f:Nat->E6) (i:Nat):E6:=bif decide (i<n) then f i else BP (ofNat (i-n))
def LR (n:Nat) (f:Nat->E6):Nat->Nat->V
 | 0=>BZ 0 n (λ_=>eV Ca) (λi=>eV (f i))
 | i+1=>AC (n+i) (LR n f i) (eV (BP (ofNat i)))
theorem Qe (n:Nat) (f:Nat->E6) (i:Nat):LR n f (i+1)=AC (n+i) (LR n f i) (eV (BP (ofNat i))):=rfl
theorem V9 (n:Nat) (f:Nat->E6):∀ i j,j<n+i->LR n f i j=eV (AD n f j)
 | 0,j,h=>by
  rw [LR,KW 0 n _ _ j (by omega)];show eV (f (j-0))=_;rw [AD,decide_eq_true (show j<n by omega)];rfl
 | i+1,j,h=>by
  rw [Qe,BN];by_cases hj:j=n+i
  ·subst hj
   rw [Nat.beq_refl,AD,decide_eq_false (show ¬ n+i<n by omega),show n+i-n=i by omega];rfl
  ·rw [show Nat.beq j (n+i)=false by
    cases hb:Nat.beq j (n+i)
    ·rfl
    ·exact absurd (Nat.eq_of_beq_eq_true hb) hj]
   exact V9 n f i j (by omega)
def V6 (n:Nat) (f:Nat->E6):Lp:=⟨bmK 25 0 [0,2,3,4],2,bmK 25 0 [0,2,3],2,41⟩
def Agg (n:Nat) (f:Nat->E6) (i k:Nat) (x:Nat->V) (j:Nat->V):St:=⟨jsV 25 0 j [(0,.sl 6 n (λi=>eV (f i))),(2,.ref 0),(3,.ref 1),(4,nV i)],[.row 46 6 0 Ac,.row 46 6 k x]⟩
def Z6 (n:Nat) (f:Nat->E6) (i k:Nat) (x:Nat->V):Ex×St:=(.ex 0,⟨jsV 25 0 Ac [(0,.sl 6 n (λi=>eV (f i))),(2,.ref 0),(3,.ref 1)],[.row 46 6 0 Ac,.row 46 6 k x]⟩)
noncomputable def NC (L:LT):St->T (Ex×St):=λst=>A6 tab ⟨A5 AfM,L,Gl⟩ (Aw Tryz.f8 0) 0 st
section
variable (L:LT) (n:Nat) (f:Nat->E6) (i k:Nat) (x:Nat->V)  (j:Nat->V)
include L n f i k x j
theorem AmO (h0:ilt (ofNat i) 40=false):Am (NC L) (V6 n f) (Agg n f i k x j)=some ((.ex 0),⟨jsV 25 0 Ac [(0,.sl 6 n (λi=>eV (f i))),(2,.ref 0),(3,.ref 1)],[.row 46 6 0 Ac,.row 46 6 k x]⟩):=by
 exact Ag (ks:=[kn h0]) (by kernel_rfl)
theorem AmN (h0:ilt (ofNat i) 40=true) (h1:Ck k 1 40=true):Am (NC L) (V6 n f) (Agg n f i k x j)=some (.nm,⟨jsV 25 0 Ac [(0,.sl 6 n (λi=>eV (f i))),(2,.ref 0),(3,.ref 1),(4,iV (wr .i64 (Ai (ofNat i) 1)))],[.row 46 6 0 Ac,.row 46 6 (Bv k 1) (AC k x (eV (BP (ofNat i))))]⟩):=by
 exact Ag (ks:=[kn h0,kn h1]) (by kernel_rfl)
end
def Wr (n:Nat) (f:Nat->E6) :St:=⟨jsV 25 0 (λ_=>A7) [(0,.sl 6 n (λi=>eV (f i))),(2,.ref 0),(3,.ref 1),(4,iV 0),(5,.sl 6 n (λi=>eV (f i))),(6,nV n),(7,iV (wr .i64 (Ai (ofNat n) 40))),(8,.und),(9,.und),(10,.sl 6 n (λi=>eV (f i))),(11,.ref 1)],[.row 46 6 0 Ac,.row 46 6 (Bv 0 n) (BZ 0 n (λ_=>eV Ca) (λi=>eV (f i)))]⟩
theorem AoD (L:LT) (p0:PT) (n:Nat) (f:Nat->E6) (i k:Nat) (x:Nat->V) (h0:Fy 40 0 (wr .i64 (Ai (ofNat n) 40))=true) (h1:Ck 0 n 40=true) (h2:Av (ile 0 (ofNat n)) (ile (ofNat n) (ofNat k))=true) (hp0:p0 (NC (onP 0 p0 (Z6 n f i k x) L)) (Wr n f)=true):(AL (Ar tab ⟨A5 AfM,onP 0 p0 (Z6 n f i k x) L,Gl⟩ Tryz.f8 [Ap n f] [])).sem=some (.rct 0 n,[.row 46 6 k x]):=by
 exact Ag (ks:=[kn h0,kn h1,kn hp0,kn h2]) (by kernel_rfl)
theorem AhG (L:LT) (n:Nat) (f:Nat->E6) (h8:(n+60) * 40 <= 140737488355328) (X:Nat->Nat->V) (hX:∀ i,AC (n+i) (X i) (eV (BP (ofNat i)))=X (i+1)) (c:Nat) (hc:c=40):∀ (d i:Nat) (j:Nat->V) (q:Nat),c=i+d->d<q ->
  (Ax (NC L) (V6 n f) q (Agg n f i (n+i) (X i) j)).sem=some (Z6 n f c (n+c) (X c))
 | 0,i,j,q+1,h,_=>by
  have:c=i:=by omega
  subst this;have hl:ilt (ofNat c) 40=false:=by rw [show (40:Int)=ofNat 40 from rfl,CX,decide_eq_false (by omega)]
  exact Ae (AmO L n f c (n+c) (X c) j hl)
 | d+1,i,j,q+1,h,h2=>by
  have hl:ilt (ofNat i) 40=true:=by rw [show (40:Int)=ofNat 40 from rfl,CX,decide_eq_true (by omega)]
  have hi:i<40:=by omega
  have h9:(n+i+1) * 40 <= 140737488355328:=Nat.le_trans (Nat.mul_le_mul_right 40 (show n+i+1 <= n+60 by omega)) h8;have ha:Ck (n+i) 1 40=true:=decide_eq_true h9;rw [Ae (AmN L n f i (n+i) (X i) j hl ha),AK,AT (show i<40 by omega) (by decide),hX];exact AhG L n f h8 X hX c hc d (i+1) Ac q (by omega) (by omega)
def Ail:List V->A3:=Oy λn f=>.br (Cl (Bv n 60)) (.leaf (.rct 0 n,[.row 46 6 (Bv n 40) λi=>eV (AD n f i)])) .fail
theorem Aes (n:Nat) (f:Nat->E6):Wr n f=Agg n f 0 (Bv 0 n) (LR n f 0) (λi=>nth (Wr n f).t i):=by kernel_rfl
theorem p47:As Tryz.prog Gl 8 Ail:=by
 refine Ah A2 mixed Tryz.func8 (by kernel_rfl) (by kernel_rfl) λvs v h' h=>?_;obtain ⟨n,f,ha,h1⟩:=Dg h;obtain ⟨hn,hq⟩:=Ab h1;have:=Aa hq;simp only [Prod.mk.injEq] at this;obtain ⟨rfl,rfl⟩:=this;have h8:(n+60) * 40 <= 140737488355328:=of_decide_eq_true hn;have hx:=Bi AfL [(0,V6 n f)];have hL:=AV [(0,V6 n f)];have h0:∀ L,(B6 [(0,V6 n f)] 0 (NC L) (Wr n f)).sem=some (Z6 n f 40 (n+40) (LR n f 40)):=λL=>by
  show (Ax (NC L) (V6 n f) 41 (Wr n f)).sem=_;rw [Aes,show Bv 0 n=n+0 by simp [Bv]];exact AhG L n f h8 (LR n f) (λi=>(Qe n f i).symm) 40 rfl 40 0 _ 41 rfl (by omega)
 have e1:wr .i64 (Ai (ofNat n) 40)=ofNat (n+40):=GL (b:=40) (by omega);have hk:Fy 40 0 (wr .i64 (Ai (ofNat n) 40))=true:=by
  rw [e1];simp only [Fy,Bool.and_eq_true,decide_eq_true_eq,Int.ofNat_eq_natCast];omega
 have hb:Av (ile 0 (ofNat n)) (ile (ofNat n) (ofNat (n+40)))=true:=by
  rw [FM,EK,decide_eq_true (by omega)];rfl
 exact ⟨_,B7 Gl AfM [(0,V6 n f)],_,ha,rfl,hx.1,hx.2,Bh (Bg hL hL) _ (AoD _ _ n f 40 (n+40) (LR n f 40) hk (SZ (by omega)) hb (AB (h0 _))),Au.one λq hq=>(V9 n f 40 q hq).symm⟩
theorem Alg {s n m:Nat} {g g':Nat->V} (h:∀ i,i<m->g' i=g i) {S:Nat->Prop} {w:World} {κ:Aj} {c:Value} (hv:VR S w (.slr s n m g) κ c):VR S w (.slr s n m g') κ c:=by
 obtain ⟨a,cap,e,h1,h2,h3⟩:=hv;refine ⟨a,cap,e,h1,h2,h3.imp id ?_⟩
 rintro ⟨b,o,ea,hel⟩
 refine ⟨b,o,ea,λi hi=>?_⟩;rw [h i hi];exact hel i hi
noncomputable def AfI:AG:=(31,Sx)::(21,Jq)::[]
theorem AfH:Al Tryz.prog Gl AfI:=.cons p85 <| .cons p42 .nil
def AaG (n m:Nat) (g:Nat->E6) (f:Nat->E6):Lp:=⟨bmK 29 0 [0,1,4,5,6],0,bmK 29 0 [0,1,4],0,41⟩
def Agf (n m:Nat) (g:Nat->E6) (f:Nat->E6) (i:Nat) (j:Nat->V):St:=⟨jsV 29 0 j [(0,.slr 6 n m (λi=>eV (g i))),(1,.sl 6 n (λi=>eV (f i))),(4,bV false),(5,.sl 6 (toN (wr .i64 (Ai (ofNat n) 40))) (λi=>eV (g i))),(6,nV i)],[]⟩
def Ae0 (n m:Nat) (g:Nat->E6) (f:Nat->E6) (i:Nat):Ex×St:=(.ex 0,⟨jsV 29 0 Ac [(0,.slr 6 n m (λi=>eV (g i))),(1,.sl 6 n (λi=>eV (f i))),(4,bV false)],[]⟩)
noncomputable def U8 (L:LT):St->T (Ex×St):=λst=>A6 tab ⟨A5 AfI,L,Gl⟩ (Aw Tryz.f13 0) 0 st
section
variable (L:LT) (n m:Nat) (g:Nat->E6) (f:Nat->E6) (i:Nat)  (j:Nat->V)
include L n m g f i j
theorem AmM (h0:ilt (ofNat i) 40=false):Am (U8 L) (AaG n m g f) (Agf n m g f i j)=some ((.ex 0),⟨jsV 29 0 Ac [(0,.slr 6 n m (λi=>eV (g i))),(1,.sl 6 n (λi=>eV (f i))),(4,bV false)],[]⟩):=by
 exact Ag (ks:=[kn h0]) (by kernel_rfl)
theorem AmL (h0:ilt (ofNat i) 40=true) (h1:Av (ile 0 (wr .i64 (Ai (ofNat n) (ofNat i)))) (ilt (wr .i64 (Ai (ofNat n) (ofNat i))) (ofNat (toN (wr .i64 (Ai (ofNat n) 40)))))=true) (h2:eqE (g (toN (wr .i64 (Ai (ofNat n) (ofNat i))))) (BP (ofNat i))=true):Am (U8 L) (AaG n m g f) (Agf n m g f i j)=some (.nm,⟨jsV 29 0 Ac [(0,.slr 6 n m (λi=>eV (g i))),(1,.sl 6 n (λi=>eV (f i))),(4,bV false),(5,.sl 6 (toN (wr .i64 (Ai (ofNat n) 40))) (λi=>eV (g i))),(6,iV (wr .i64 (Ai (ofNat i) 1)))],[]⟩):=by
 exact Ag (ks:=[kn h0,kn h1,kN (kn h2)]) (by kernel_rfl)
end
def ApD (n m:Nat) (g:Nat->E6) (f:Nat->E6) :Nat->V:=lkV A7 [(7,.slr 6 n m (λi=>eV (g i))),(8,.sl 6 n (λi=>eV (f i))),(9,nV n),(10,iV (wr .i64 (Ai (ofNat n) 40))),(11,.sl 6 (toN (wr .i64 (Ai (ofNat n) 40))) (λi=>eV (g i)))]
theorem AoC (L:LT) (p0:PT) (n m:Nat) (g:Nat->E6) (f:Nat->E6) (i:Nat) (h0:Av (ile 0 (wr .i64 (Ai (ofNat n) 40))) (ile (wr .i64 (Ai (ofNat n) 40)) (ofNat m))=true) (h1:BX n=true) (hp0:p0 (U8 (onP 0 p0 (Ae0 n m g f i) L)) (Agf n m g f 0 (ApD n m g f ))=true):(AL (Ar tab ⟨A5 AfI,onP 0 p0 (Ae0 n m g f i) L,Gl⟩ Tryz.f13 [.slr 6 n m (λi=>eV (g i)),Ap n f] [])).sem=some ((bV (FW n g n f)),[]):=by
 exact Ag (ks:=[kn h0,kn hp0,kL n,kL n,kn h1]) (by kernel_rfl)
def Zh (n m:Nat) (g:Nat->E6) (k:Nat) (f:Nat->E6):Bool:=decide (n=k) && (decide (m=n+40) && (Dl n (λi=>eqE (g i) (f i)) && Dl 40 λi=>eqE (g (n+i)) (BP (ofNat i))))
theorem AhF (L:LT) (n m:Nat) (g f:Nat->E6) (hn:(n+60) * 40 <= 140737488355328) (hg:∀ i,i<40->g (n+i)=BP (ofNat i)):∀ (d i:Nat) (j:Nat->V) (q:Nat),40=i+d->d<q ->
  (Ax (U8 L) (AaG n m g f) q (Agf n m g f i j)).sem=some (Ae0 n m g f 40)
 | 0,i,j,q+1,h,_=>by
  have:i=40:=by omega
  subst this;exact Ae (AmM L n m g f 40 j rfl)
 | d+1,i,j,q+1,h,h2=>by
  have hi:i<40:=by omega
  have hl:ilt (ofNat i) 40=true:=by rw [show (40:Int)=ofNat 40 from rfl,CX,decide_eq_true hi]
  have e1:wr .i64 (Ai (ofNat n) (ofNat i))=ofNat (n+i):=GL (by omega);have e2:wr .i64 (Ai (ofNat n) 40)=ofNat (n+40):=GL (b:=40) (by omega);have hb:Av (ile 0 (wr .i64 (Ai (ofNat n) (ofNat i)))) (ilt (wr .i64 (Ai (ofNat n) (ofNat i))) (ofNat (toN (wr .i64 (Ai (ofNat n) 40)))))=true:=by
   rw [e1,e2]; exact Af (show n+i<n+40 by omega)
  have hq:eqE (g (toN (wr .i64 (Ai (ofNat n) (ofNat i))))) (BP (ofNat i))=true:=by
   rw [e1,show toN (ofNat (n+i))=n+i from rfl,hg i hi];exact Aeq _
  rw [Ae (AmL L n m g f i j hl hb hq),AK,AT hi (by decide)];exact AhF L n m g f hn hg d (i+1) Ac q (by omega) (by omega)
def AdF:List V->A3
 | [.slr s n m g,v]=>match Nat.beq s 6 with
  | true=>.br (Dl m λi=>okE (g i)) (apL v λk f=>.br (Cl (Bv n 60)) (.br (Zh n m (λi=>edE (g i)) k f) (out (bV true)) .fail) .fail) .fail
  | false=>.fail
 | _=>.fail
theorem p50:As Tryz.prog Gl 13 AdF:=by
 refine Ah A2 mixed Tryz.func13 (by kernel_rfl) (by kernel_rfl) λvs v h' h=>?_;unfold AdF at h;split at h
 ·rename_i s n m g u
  split at h
  ·rename_i hs
   have hs:=Nat.eq_of_beq_eq_true hs;subst hs;obtain ⟨h1,h2⟩:=Ab h;obtain ⟨k,f,ha,h3⟩:=Bd h2;obtain ⟨hn,h4⟩:=Ab h3;obtain ⟨hk,hq⟩:=Ab h4;have:=Aa hq;simp only [Prod.mk.injEq] at this;obtain ⟨rfl,rfl⟩:=this;simp only [Zh,Bool.and_eq_true,decide_eq_true_eq] at hk;obtain ⟨rfl,rfl,hk1,hk2⟩:=hk;have hk1:∀ i,i<n->edE (g i)=f i:=λi hi=>(Dw _ _).1 (AS.1 hk1 i hi);have hk2:∀ i,i<40->edE (g (n+i))=BP (ofNat i):=λi hi=>(Dw _ _).1 (AS.1 hk2 i hi);have h8:(n+60) * 40 <= 140737488355328:=of_decide_eq_true hn;have h1:=AS.1 h1;have hA:By [.slr 6 n (n+40) g,u] [.slr 6 n (n+40) (λi=>eV (edE (g i))),Ap n f]:=λS w cs hv=>by
    obtain ⟨c,l,rfl,q1,c2,l2,rfl,q2,q3⟩:=hv;exact ⟨c,_,rfl,Alg (λi hi=>(CG (h1 i hi)).symm) q1,c2,l2,rfl,ha S w c2 q2,q3⟩
   have hx:=Bi AfH [(0,AaG n (n+40) (λi=>edE (g i)) f)];have hL:=AV [(0,AaG n (n+40) (λi=>edE (g i)) f)];have e2:wr .i64 (Ai (ofNat n) 40)=ofNat (n+40):=GL (b:=40) (by omega);have hb:Av (ile 0 (wr .i64 (Ai (ofNat n) 40))) (ile (wr .i64 (Ai (ofNat n) 40)) (ofNat (n+40)))=true:=by
    rw [e2,FM,EK,decide_eq_true (Nat.le_refl _)];rfl
   have hw:=Bh (Bg hL hL) _ (AoC _ _ n (n+40) (λi=>edE (g i)) f 40 hb (decide_eq_true (by omega)) (AB (AhF _ n (n+40) (λi=>edE (g i)) f h8 hk2 40 0 _ 41 rfl (by omega))));rw [FV.2 ⟨rfl,hk1⟩] at hw;exact ⟨_,B7 Gl AfI [(0,AaG n (n+40) (λi=>edE (g i)) f)],_,hA,rfl,hx.1,hx.2,hw,Au.refl _⟩
  ·cases h
 ·cases h
theorem AaP (n:Nat) (f:Nat->E6):Zh n (Bv n 40) (λi=>AD n f i) n f=true:=by
 simp only [Zh,Bool.and_eq_true,decide_eq_true_eq];refine ⟨trivial,rfl,AS.2 λi hi=>(Dw _ _).2 ?_,AS.2 λi hi=>(Dw _ _).2 ?_⟩
 ·simp [AD,hi]
 ·show AD n f (n+i)=BP (ofNat i)
  unfold AD;rw [decide_eq_false (show ¬ n+i<n by omega),show n+i-n=i by omega];rfl
theorem AdA {n:Nat} {f:Nat->E6} {i:Nat} (h:i<n):AD n f i=f i:=by simp [AD,h]
theorem AgP (a:Int):ieq a a=true:=by simp [ieq]
end Go.Proofs.YtkbgidbledjejaaGreat.Ed
