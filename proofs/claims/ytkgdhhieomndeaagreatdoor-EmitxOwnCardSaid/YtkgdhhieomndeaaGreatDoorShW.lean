/-
  The least turned list the document's way; the law CycleTurned as a function. No conditions.
-/
import Derived.Test.YtkgdhhieomndeaaGreatDoorCyZ
import Derived.Test.YtkgdhhieomndeaaGreatDoorEdY
namespace Go.Proofs.YtkgdhhieomndeaaGreatDoor.Ed
open Go.Sy Go
open Int (ofNat)
def inN (n:Nat) (a:Int):Bool:=Ao (ile 0 a) (ilt a (ofNat n))
theorem N6 {n a:Nat} (h:a<n):inN n (ofNat a)=true:=Ag h
theorem U7 {n:Nat} {a:Int} (h:inN n a=true):a=ofNat (toN a)∧toN a<n:=by
 simp only [inN,Ao,ile,ilt,Bool.and_eq_true,decide_eq_true_eq,Int.ofNat_eq_natCast] at h;simp only [toN,Int.ofNat_eq_natCast];omega
def Kl (n:Nat) (h:Nat->Int) (a b:Nat):Nat->Nat->Option Bool
 | 0,_=>none
 | d+1,i=>if h ((a+i) % n)=h ((b+i) % n) then Kl n h a b d (i+1) else some (decide (h ((a+i) % n)<h ((b+i) % n)))
def Ja (n:Nat) (h:Nat->Int) (a b:Nat):Bool:=(Kl n h a b n 0).getD false
theorem PG {n:Nat} {h:Nat->Int} {a b:Nat}:∀ d i,n=i+d->(∀ t,t<i->Et n h a t=Et n h b t)->((Kl n h a b d i).getD false=true↔JL n h a b)
 | 0,i,hd,hi=>by
  refine ⟨λh1=>(by cases h1),λ⟨s,h1,_,h3⟩=>?_⟩;rw [hi s (by omega)] at h3;omega
 | d+1,i,hd,hi=>by
  unfold Kl;by_cases he:h ((a+i) % n)=h ((b+i) % n)
  ·rw [if_pos he]
   refine PG d (i+1) (by omega) λt ht=>?_;by_cases hti:t=i
   ·rw [hti]; exact he
   ·exact hi t (by omega)
  ·rw [if_neg he]
   refine ⟨λh1=>⟨i,by omega,hi,of_decide_eq_true h1⟩,λ⟨s,h1,h2,h3⟩=>decide_eq_true ?_⟩;rcases Nat.lt_trichotomy s i with hs | hs | hs
   ·rw [hi s hs] at h3; omega
   ·rw [hs] at h3; exact h3
   ·exact absurd (h2 i hs) he
theorem PH {n:Nat} {h:Nat->Int} {a b:Nat}:Ja n h a b=true↔JL n h a b:=PG n 0 (by omega) λt ht=>absurd ht (Nat.not_lt_zero _)
def Xg (n:Nat) (h:Nat->Int) (a b:Nat) (v:Bool):Ex×St:=(.rt,⟨jsV 40 0 Aa [(6,bV v)],[]⟩)
def OH (n:Nat) (h:Nat->Int) (a b:Nat):Lp:=⟨bmK 40 0 [0,1,2,6,7,8],0,bmK 40 0 [6],0,n+1⟩
def Qk (n:Nat) (h:Nat->Int) (a b:Nat) (i:Nat) (j:Nat->V):St:=⟨jsV 40 0 j [(0,.sl 1 n λk=>iV (h k)),(1,nV a),(2,nV b),(6,bV false),(7,nV n),(8,nV i)],[]⟩
def Xh (n:Nat) (h:Nat->Int) (a b:Nat) (i:Nat):Ex×St:=(.ex 0,⟨jsV 40 0 Aa [(6,bV false)],[]⟩)
noncomputable def J5 (L:LT):St->T (Ex×St):=λst=>AD tab ⟨Am tb0,L,Gl⟩ (Au Tryz.f99 0) 0 st
section
variable (L:LT) (n:Nat) (h:Nat->Int) (a b:Nat) (i:Nat)  (j:Nat->V)
include L n h a b i j
theorem Aj4 (h0:ilt (ofNat i) (ofNat n)=false):Al (J5 L) (OH n h a b) (Qk n h a b i j)=some ((.ex 0),⟨jsV 40 0 Aa [(6,bV false)],[]⟩):=by
 exact Ac (ks:=[kn h0]) (by kernel_rfl)
theorem Aj3 (h0:ilt (ofNat i) (ofNat n)=true) (h1:ieq (ofNat n) 0=false) (h20:Ao (ile 0 (Ar (wr .i64 (Ak (ofNat a) (ofNat i))) (ofNat n))) (ilt (Ar (wr .i64 (Ak (ofNat a) (ofNat i))) (ofNat n)) (ofNat n))=true) (h22:Ao (ile 0 (Ar (wr .i64 (Ak (ofNat b) (ofNat i))) (ofNat n))) (ilt (Ar (wr .i64 (Ak (ofNat b) (ofNat i))) (ofNat n)) (ofNat n))=true) (h2:ieq (h (toN (Ar (wr .i64 (Ak (ofNat a) (ofNat i))) (ofNat n)))) (h (toN (Ar (wr .i64 (Ak (ofNat b) (ofNat i))) (ofNat n))))=true):Al (J5 L) (OH n h a b) (Qk n h a b i j)=some (.nm,⟨jsV 40 0 Aa [(0,.sl 1 n (λk=>iV (h k))),(1,nV a),(2,nV b),(6,bV false),(7,nV n),(8,iV (wr .i64 (Ak (ofNat i) 1)))],[]⟩):=by
 exact Ac (ks:=[kn h0,kn h1,kn h20,kn h1,kn h22,kN (kn h2)]) (by kernel_rfl)
theorem Aj2 (h0:ilt (ofNat i) (ofNat n)=true) (h1:ieq (ofNat n) 0=false) (h20:Ao (ile 0 (Ar (wr .i64 (Ak (ofNat a) (ofNat i))) (ofNat n))) (ilt (Ar (wr .i64 (Ak (ofNat a) (ofNat i))) (ofNat n)) (ofNat n))=true) (h22:Ao (ile 0 (Ar (wr .i64 (Ak (ofNat b) (ofNat i))) (ofNat n))) (ilt (Ar (wr .i64 (Ak (ofNat b) (ofNat i))) (ofNat n)) (ofNat n))=true) (h2:ieq (h (toN (Ar (wr .i64 (Ak (ofNat a) (ofNat i))) (ofNat n)))) (h (toN (Ar (wr .i64 (Ak (ofNat b) (ofNat i))) (ofNat n))))=false):Al (J5 L) (OH n h a b) (Qk n h a b i j)=some (.rt,⟨jsV 40 0 Aa [(6,bV (ilt (h (toN (Ar (wr .i64 (Ak (ofNat a) (ofNat i))) (ofNat n)))) (h (toN (Ar (wr .i64 (Ak (ofNat b) (ofNat i))) (ofNat n))))))],[]⟩):=by
 exact Ac (ks:=[kn h0,kn h1,kn h20,kn h1,kn h22,kN (kn h2)]) (by kernel_rfl)
end
def Ac7 (n:Nat) (h:Nat->Int) (a b:Nat) :Nat->V:=lkV A9 [(11,.sl 1 n (λi=>iV (h i))),(12,nV n)]
theorem Aii (L:LT) (p0:PT) (n:Nat) (h:Nat->Int) (a b:Nat) (i:Nat)  (hp0:p0 (J5 (onP 0 p0 (Xh n h a b i) L)) (Qk n h a b 0 (Ac7 n h a b ))=true):(Ay (Ai tab ⟨Am tb0,onP 0 p0 (Xh n h a b i) L,Gl⟩ Tryz.f99 [EV n h,nV a,nV b] [])).sem=some ((bV false),[]):=by
 exact Ac (ks:=[kn hp0]) (by kernel_rfl)
theorem Aih (L:LT) (p0:PT) (n:Nat) (h:Nat->Int) (a b:Nat) (v:Bool)  (hp0:p0 (J5 (onP 0 p0 (Xg n h a b v) L)) (Qk n h a b 0 (Ac7 n h a b ))=true):(Ay (Ai tab ⟨Am tb0,onP 0 p0 (Xg n h a b v) L,Gl⟩ Tryz.f99 [EV n h,nV a,nV b] [])).sem=some ((bV v),[]):=by
 exact Ac (ks:=[kn hp0]) (by kernel_rfl)
theorem AdM (n a i:Nat) (ha:a<n) (hn:n <= 4611686018427387904) (hi:i<n):Ar (wr .i64 (Ak (ofNat a) (ofNat i))) (ofNat n)=ofNat ((a+i) % n)∧(a+i) % n<n:=by
 rw [Fb (by omega),DW];exact ⟨rfl,Nat.mod_lt _ (by omega)⟩
theorem Yo (n a i:Nat) (ha:a<n) (hn:n <= 4611686018427387904) (hi:i<n):Ao (ile 0 (Ar (wr .i64 (Ak (ofNat a) (ofNat i))) (ofNat n))) (ilt (Ar (wr .i64 (Ak (ofNat a) (ofNat i))) (ofNat n)) (ofNat n))=true:=by
 obtain ⟨e1,l1⟩:=AdM n a i ha hn hi;rw [e1];exact Ag l1
theorem Ahl (n i:Nat) (hi:i<n):ieq (ofNat n) 0=false:=by rw [show (0:Int)=ofNat 0 from rfl,DD,decide_eq_false (by omega)]
theorem Ab4 (L:LT) (n:Nat) (h:Nat->Int) (a b:Nat) (hn:n <= 4611686018427387904) (ha:a<n) (hb:b<n):∀ (d i:Nat) (j:Nat->V) (q:Nat),n=i+d->d<q ->
  (A3 (J5 L) (OH n h a b) q (Qk n h a b i j)).sem=some (match Kl n h a b d i with | none=>Xh n h a b 0 | some v=>Xg n h a b v)
 | 0,i,j,q+1,h1,_=>by
  have:n=i:=by omega
  subst this;exact Ae (Aj4 L n h a b n j (Aw (Nat.le_refl _)))
 | d+1,i,j,q+1,h1,h2=>by
  have hi:i<n:=by omega
  obtain ⟨e1,l1⟩:=AdM n a i ha hn hi;obtain ⟨e2,l2⟩:=AdM n b i hb hn hi;unfold Kl;by_cases he:h ((a+i) % n)=h ((b+i) % n)
  ·have hq:ieq (h (toN (Ar (wr .i64 (Ak (ofNat a) (ofNat i))) (ofNat n)))) (h (toN (Ar (wr .i64 (Ak (ofNat b) (ofNat i))) (ofNat n))))=true:=by
    rw [e1,e2];show ieq (h ((a+i) % n)) (h ((b+i) % n))=true;rw [he];exact HQ _
   rw [if_pos he,Ae (Aj3 L n h a b i j (ofNat_lt hi) (Ahl n i hi) (Yo n a i ha hn hi) (Yo n b i hb hn hi) hq),A6,Ap hi hn];exact Ab4 L n h a b hn ha hb d (i+1) Aa q (by omega) (by omega)
  ·have hq:ieq (h (toN (Ar (wr .i64 (Ak (ofNat a) (ofNat i))) (ofNat n)))) (h (toN (Ar (wr .i64 (Ak (ofNat b) (ofNat i))) (ofNat n))))=false:=by
    rw [e1,e2];show ieq (h ((a+i) % n)) (h ((b+i) % n))=false;simp [ieq,he]
   have hr:=Aj2 L n h a b i j (ofNat_lt hi) (Ahl n i hi) (Yo n a i ha hn hi) (Yo n b i hb hn hi) hq;rw [e1,e2] at hr;rw [if_neg he];exact Ae hr
def Xz:List V->AE
 | [v,.val (.int .i64 a),.val (.int .i64 b)]=>apI v λn h=>.br (E9 n) (.br (Ao (inN n a) (inN n b)) (out (bV (Ja n h (toN a) (toN b)))) .fail) .fail
 | _=>.fail
theorem Aam {a b:Bool} (h:Ao a b=true):a=true∧b=true:=by simpa [Ao] using h
theorem Ap9:Ax Tryz.prog Gl 99 Xz:=by
 refine Aj A7 mixed Tryz.func99 (by kernel_rfl) (by kernel_rfl) λvs v h' hh=>?_;unfold Xz at hh;split at hh
 ·rename_i u a b
  obtain ⟨n,h,hv,h1⟩:=H5 hh;obtain ⟨h8,h2⟩:=Ad h1;obtain ⟨hab,h3⟩:=Ad h2;have:=Ab h3;simp only [Prod.mk.injEq] at this;obtain ⟨rfl,rfl⟩:=this;obtain ⟨ha,hb⟩:=Aam hab;obtain ⟨ea,la⟩:=U7 ha;obtain ⟨eb,lb⟩:=U7 hb;have hA:Bj [u,iV a,iV b] [EV n h,iV (ofNat (toN a)),iV (ofNat (toN b))]:=λS w cs q=>by
   rw [<- ea,<- eb];obtain ⟨c,l,rfl,q1,q2⟩:=q;exact ⟨c,l,rfl,hv S w c q1,q2⟩
  have hx:=AH CS [(0,OH n h (toN a) (toN b))];have hL:=AQ [(0,OH n h (toN a) (toN b))];have hr:=λL=>Ab4 L n h (toN a) (toN b) (Ef h8) la lb n 0 (Ac7 n h (toN a) (toN b)) (n+1) (by omega) (by omega);refine ⟨_,AA Gl tb0 [(0,OH n h (toN a) (toN b))],_,hA,rfl,hx.1,hx.2,?_,Av.refl _⟩;unfold Ja;cases hc:Kl n h (toN a) (toN b) n 0 with
  | none =>rw [hc] at hr;exact AP (AI hL hL) _ (Aii _ _ n h (toN a) (toN b) 0 (Az (hr _)))
  | some v =>rw [hc] at hr;exact AP (AI hL hL) _ (Aih _ _ n h (toN a) (toN b) v (Az (hr _)))
 ·cases hh
noncomputable def XC:AK:=(99,Xz)::[]
theorem AaY:Aq Tryz.prog Gl XC:=.cons Ap9 .nil
def Wl (n:Nat) (h:Nat->Int):Nat->Nat->Nat->Nat
 | 0,_,b=>b
 | d+1,i,b=>if Ja n h i b=true then Wl n h d (i+1) i else Wl n h d (i+1) b
def Z1 (n:Nat) (h:Nat->Int):Nat:=Wl n h (n-1) 1 0
theorem On {n:Nat} {h:Nat->Int}:∀ d i b,n=i+d->b<i->(∀ q,q<i->¬ JL n h q b)->EB n h (Wl n h d i b)
 | 0,i,b,hd,hb,hq=>⟨by show b<n; omega,λq hq'=>hq q (by omega)⟩
 | d+1,i,b,hd,hb,hq=>by
  unfold Wl;by_cases ha:Ja n h i b=true
  ·rw [if_pos ha]
   have hl:=PH.1 ha;refine On d (i+1) i (by omega) (by omega) λq hq' hlt=>?_;by_cases hqi:q=i
   ·rw [hqi] at hlt; exact F5 hlt
   ·exact hq q (by omega) (MV hlt hl)
  ·rw [if_neg ha]
   refine On d (i+1) b (by omega) (by omega) λq hq' hlt=>?_;by_cases hqi:q=i
   ·rw [hqi] at hlt; exact ha (PH.2 hlt)
   ·exact hq q (by omega) hlt
theorem AbA {n:Nat} (h:Nat->Int) (hn:0<n):EB n h (Z1 n h):=On (n-1) 1 0 (by omega) (by omega) λq hq=>by
 have:q=0:=by omega
 subst this;exact F5
def OI (n:Nat) (h:Nat->Int):Lp:=⟨bmK 17 0 [0,2,3,4],0,bmK 17 0 [2,3],0,n+1⟩
def TJ (n:Nat) (h:Nat->Int) (b i:Nat) (j:Nat->V):St:=⟨jsV 17 0 j [(0,.sl 1 n λk=>iV (h k)),(2,iV 0),(3,nV b),(4,nV i)],[]⟩
def Xi (n:Nat) (h:Nat->Int) (b i:Nat):Ex×St:=(.ex 0,⟨jsV 17 0 Aa [(2,iV 0),(3,nV b)],[]⟩)
noncomputable def L1 (L:LT):St->T (Ex×St):=λst=>AD tab ⟨Am XC,L,Gl⟩ (Au Tryz.f70 0) 0 st
section
variable (L:LT) (n:Nat) (h:Nat->Int) (b i:Nat)  (j:Nat->V)
include L n h b i j
theorem AbB (h0:ilt (ofNat i) (ofNat n)=false):Al (L1 L) (OI n h) (TJ n h b i j)=some ((.ex 0),⟨jsV 17 0 Aa [(2,iV 0),(3,nV b)],[]⟩):=by
 exact Ac (ks:=[kn h0]) (by kernel_rfl)
theorem Aj8 (h0:ilt (ofNat i) (ofNat n)=true) (h18:E9 n=true) (h19:inN n (ofNat i)=true) (h20:inN n (ofNat b)=true) (h1:Ja n h i b=true):Al (L1 L) (OI n h) (TJ n h b i j)=some (.nm,⟨jsV 17 0 Aa [(0,.sl 1 n (λk=>iV (h k))),(2,iV 0),(3,nV i),(4,iV (wr .i64 (Ak (ofNat i) 1)))],[]⟩):=by
 exact Ac (ks:=[kn h0,kL n,kn h18,kA (kn h19) (kn h20),kn h1]) (by kernel_rfl)
theorem Aj9 (h0:ilt (ofNat i) (ofNat n)=true) (h18:E9 n=true) (h19:inN n (ofNat i)=true) (h20:inN n (ofNat b)=true) (h1:Ja n h i b=false):Al (L1 L) (OI n h) (TJ n h b i j)=some (.nm,⟨jsV 17 0 Aa [(0,.sl 1 n (λk=>iV (h k))),(2,iV 0),(3,nV b),(4,iV (wr .i64 (Ak (ofNat i) 1)))],[]⟩):=by
 exact Ac (ks:=[kn h0,kL n,kn h18,kA (kn h19) (kn h20),kn h1]) (by kernel_rfl)
end
def Ac8 (n:Nat) (h:Nat->Int) :Nat->V:=lkV A9 []
theorem AgD (L:LT) (p0:PT) (n:Nat) (h:Nat->Int) (b i:Nat)  (hp0:p0 (L1 (onP 0 p0 (Xi n h b i) L)) (TJ n h 0 1 (Ac8 n h ))=true):(Ay (Ai tab ⟨Am XC,onP 0 p0 (Xi n h b i) L,Gl⟩ Tryz.f70 [EV n h] [])).sem=some ((nV b),[]):=by
 exact Ac (ks:=[kn hp0]) (by kernel_rfl)
theorem Wj (L:LT) (n:Nat) (h:Nat->Int) (h8:E9 n=true):∀ (d i b:Nat) (j:Nat->V) (q:Nat),n=i+d->b<i->d<q ->
  (A3 (L1 L) (OI n h) q (TJ n h b i j)).sem=some (Xi n h (Wl n h d i b) n)
 | 0,i,b,j,q+1,h1,_,_=>by
  have:n=i:=by omega
  subst this;exact Ae (AbB L n h b n j (Aw (Nat.le_refl _)))
 | d+1,i,b,j,q+1,h1,hb,h2=>by
  have hi:i<n:=by omega
  unfold Wl;cases ha:Ja n h i b with
  | true =>rw [if_pos rfl,Ae (Aj8 L n h b i j (ofNat_lt hi) h8 (N6 hi) (N6 (by omega)) ha),A6,Ap hi (Ef h8)];exact Wj L n h h8 d (i+1) i Aa q (by omega) (by omega) (by omega)
  | false =>rw [if_neg (by decide),Ae (Aj9 L n h b i j (ofNat_lt hi) h8 (N6 hi) (N6 (by omega)) ha),A6,Ap hi (Ef h8)];exact Wj L n h h8 d (i+1) b Aa q (by omega) (by omega) (by omega)
def Ahd:List V->AE:=Agu λn h=>.br (E9 n) (out (iV (ofNat (Z1 n h)))) .fail
theorem p104:Ax Tryz.prog Gl 70 Ahd:=by
 refine Aj A7 mixed Tryz.func70 (by kernel_rfl) (by kernel_rfl) λvs v h' hh=>?_;obtain ⟨n,h,hA,h1⟩:=Rb hh;obtain ⟨h8,h3⟩:=Ad h1;have:=Ab h3;simp only [Prod.mk.injEq] at this;obtain ⟨rfl,rfl⟩:=this;have hx:=AH AaY [(0,OI n h)];have hL:=AQ [(0,OI n h)];refine ⟨_,AA Gl XC [(0,OI n h)],_,hA,rfl,hx.1,hx.2,?_,Av.refl _⟩;unfold Z1;rcases Nat.eq_zero_or_pos n with rfl | hn
 ·exact AP (AI hL hL) _ (AgD _ _ 0 h 0 0 (Az (Ae (AbB _ 0 h 0 1 (Ac8 0 h) (Aw (by omega))))))
 ·exact AP (AI hL hL) _ (AgD _ _ n h _ n (Az (Wj _ n h h8 (n-1) 1 0 (Ac8 n h) (n+1) (by omega) (by omega) (by omega))))
noncomputable def tb106:AK:=[]
theorem tb106_ok:Aq Tryz.prog Gl tb106:=.nil
noncomputable def Qd:AK:=(98,BW Vn)::[]
theorem AaZ:Aq Tryz.prog Gl Qd:=.cons p25 .nil
def SN (n:Nat) (f:Nat->E6) (k:Nat) (x:Nat->V):Ex×St:=(.rt,⟨jsV 31 0 Aa [(2,.ref 2),(3,bV false),(4,.ref 1)],[.row 3 1 0 λ_=>.und,.row 3 1 k x,.row 3 1 0 λ_=>.und]⟩)
def JJ (n:Nat) (f:Nat->E6):Lp:=⟨bmK 31 0 [0,2,3,4,5],2,bmK 31 0 [2,3,4],3,n+1⟩
def MF (n:Nat) (f:Nat->E6) (i k:Nat) (x:Nat->V) (j:Nat->V):St:=⟨jsV 31 0 j [(0,.sl 6 n λi=>eV (f i)),(2,.ref 0),(3,bV false),(4,.ref 1),(5,nV i)],[.row 3 1 0 λ_=>.und,.row 3 1 k x]⟩
def Xj (n:Nat) (f:Nat->E6) (i k:Nat) (x:Nat->V):Ex×St:=(.ex 0,⟨jsV 31 0 Aa [(2,.ref 0),(3,bV false),(4,.ref 1)],[.row 3 1 0 λ_=>.und,.row 3 1 k x]⟩)
noncomputable def GF (L:LT):St->T (Ex×St):=λst=>AD tab ⟨Am Qd,L,Gl⟩ (Au Tryz.f68 0) 0 st
section
variable (L:LT) (n:Nat) (f:Nat->E6) (i k:Nat) (x:Nat->V)  (j:Nat->V)
include L n f i k x j
theorem AjA (h0:ilt (ofNat i) (ofNat n)=false):Al (GF L) (JJ n f) (MF n f i k x j)=some ((.ex 0),⟨jsV 31 0 Aa [(2,.ref 0),(3,bV false),(4,.ref 1)],[.row 3 1 0 Aa,.row 3 1 k x]⟩):=by
 exact Ac (ks:=[kn h0]) (by kernel_rfl)
theorem AbC (h0:ilt (ofNat i) (ofNat n)=true) (h20:ile 0 (ofNat i)=true) (h1:ieq (Bd (f i)) 0=true) (h21:Bn k 1 8=true):Al (GF L) (JJ n f) (MF n f i k x j)=some (.nm,⟨jsV 31 0 Aa [(0,.sl 6 n (λi=>eV (f i))),(2,.ref 0),(3,bV false),(4,.ref 1),(5,iV (wr .i64 (Ak (ofNat i) 1)))],[.row 3 1 0 Aa,.row 3 1 (AV k 1) (As k x (iV (BD (f i))))]⟩):=by
 exact Ac (ks:=[kn h0,kA (kn h20) (kn h0),kN (kn h1),kn h21]) (by kernel_rfl)
theorem AbD (h0:ilt (ofNat i) (ofNat n)=true) (h20:ile 0 (ofNat i)=true) (h1:ieq (Bd (f i)) 0=false):Al (GF L) (JJ n f) (MF n f i k x j)=some (.rt,⟨jsV 31 0 Aa [(2,.ref 2),(3,bV false),(4,.ref 1)],[.row 3 1 0 Aa,.row 3 1 k x,.row 3 1 0 Aa]⟩):=by
 exact Ac (ks:=[kn h0,kA (kn h20) (kn h0),kN (kn h1)]) (by kernel_rfl)
end
def Yk (n:Nat) (f:Nat->E6) :Nat->V:=lkV A9 []
theorem Aio (L:LT) (p0:PT) (n:Nat) (f:Nat->E6) (i k:Nat) (x:Nat->V)  (hp0:p0 (GF (onP 0 p0 (Xj n f i k x) L)) (MF n f 0 0 Aa (Yk n f ))=true):(Ay (Ai tab ⟨Am Qd,onP 0 p0 (Xj n f i k x) L,Gl⟩ Tryz.f68 [AS n f] [])).sem=some ((.tup [.ref 0,bV true]),[.row 3 1 k x]):=by
 exact Ac (ks:=[kn hp0]) (by kernel_rfl)
theorem Ain (L:LT) (p0:PT) (n:Nat) (f:Nat->E6) (k:Nat) (x:Nat->V)  (hp0:p0 (GF (onP 0 p0 (SN n f k x) L)) (MF n f 0 0 Aa (Yk n f ))=true):(Ay (Ai tab ⟨Am Qd,onP 0 p0 (SN n f k x) L,Gl⟩ Tryz.f68 [AS n f] [])).sem=some ((.tup [.ref 0,bV false]),[.row 3 1 0 Aa]):=by
 exact Ac (ks:=[kn hp0]) (by kernel_rfl)
theorem XK (L:LT) (n:Nat) (f:Nat->E6) (hn:BC n=true) (e:Nat) (he:e<n) (hb:Bd (f e)=30) (ho:∀ t,t<e->Bd (f t)=0):∀ (d i:Nat) (j:Nat->V) (q:Nat),e=i+d->d<q ->
  (A3 (GF L) (JJ n f) q (MF n f i i (By (cdV f) i) j)).sem=some (SN n f e (By (cdV f) e))
 | 0,i,j,q+1,h1,_=>by
  have:e=i:=by omega
  subst this;exact Ae (AbD L n f e e (By (cdV f) e) j (ofNat_lt he) (UA e) (by rw [hb]; rfl))
 | d+1,i,j,q+1,h1,h2=>by
  have hi:i<n:=by omega
  have hr:=AbC L n f i i (By (cdV f) i) j (ofNat_lt hi) (UA i) (by rw [ho i (by omega)]; rfl) (Ti hi (by decide) (of_decide_eq_true hn));rw [Ae hr,A6,Ap hi (Jv hn)];exact XK L n f hn e he hb ho d (i+1) Aa q (by omega) (by omega)
theorem Ab5 (L:LT) (n:Nat) (f:Nat->E6) (hn:BC n=true):∀ (d i:Nat) (j:Nat->V) (q:Nat),n=i+d->d<q->(∀ t,t<i->Bd (f t)=0) ->
  (Cp n f=true∧(A3 (GF L) (JJ n f) q (MF n f i i (By (cdV f) i) j)).sem=some (Xj n f n n (By (cdV f) n))) ∨ (Cp n f=false∧∃ e,(A3 (GF L) (JJ n f) q (MF n f i i (By (cdV f) i) j)).sem=some (SN n f e (By (cdV f) e)))
 | 0,i,j,q+1,h1,_,ho=>by
  have:n=i:=by omega
  subst this;exact .inl ⟨Dt.2 ho,Ae (AjA L n f n n _ j (Aw (Nat.le_refl _)))⟩
 | d+1,i,j,q+1,h1,h2,ho=>by
  have hi:i<n:=by omega
  by_cases hc:Bd (f i)=0
  ·have hr:=AbC L n f i i (By (cdV f) i) j (ofNat_lt hi) (UA i) (by rw [hc]; rfl) (Ti hi (by decide) (of_decide_eq_true hn))
   have ih:=Ab5 L n f hn d (i+1) Aa q (by omega) (by omega) λt ht=>by
    by_cases hti:t=i
    ·rw [hti]; exact hc
    ·exact ho t (by omega)
   rw [Ae hr,A6,Ap hi (Jv hn)];exact ih
  ·refine .inr ⟨?_,i,Ae (AbD L n f i i (By (cdV f) i) j (ofNat_lt hi) (UA i) (by simp [ieq,hc]))⟩
   cases hm:Cp n f with
   | false=>rfl
   | true=>exact absurd (Dt.1 hm i hi) hc
def YN:List V->AE:=Gs λn f=>.br (BC n) (.br (Cp n f) (.leaf (.tup [.ref 0,bV true],[.row 3 1 n λi=>iV (BD (f i))])) (.leaf (.tup [.ref 0,bV false],[.row 3 1 0 λ_=>.und]))) .fail
theorem p103:Ax Tryz.prog Gl 68 YN:=by
 refine Aj A7 mixed Tryz.func68 (by kernel_rfl) (by kernel_rfl) λvs v h' h=>?_;obtain ⟨n,f,ha,h⟩:=C7 h;obtain ⟨hn,h⟩:=Ad h;have hx:=AH AaZ [(0,JJ n f)];have hL:=AQ [(0,JJ n f)];have hr:=λL=>Ab5 L n f hn n 0 (Yk n f) (n+1) (by omega) (by omega) λt ht=>absurd ht (Nat.not_lt_zero _);cases hm:Cp n f with
 | true =>rw [hm] at h;have:=Ab h;simp only [Prod.mk.injEq] at this;obtain ⟨rfl,rfl⟩:=this;exact ⟨_,AA Gl Qd [(0,JJ n f)],_,ha,rfl,hx.1,hx.2,AP (AI hL hL) _ (Aio _ _ n f n n _ (Az ((hr _).elim (λq=>q.2) λq=>by rw [hm] at q; cases q.1))),Av.one λj hj=>(FQ (cdV f) n j hj).symm⟩
 | false =>rw [hm] at h;have:=Ab h;simp only [Prod.mk.injEq] at this;obtain ⟨rfl,rfl⟩:=this;obtain ⟨e,h1,h2,h3⟩:=W3 hm;exact ⟨_,AA Gl Qd [(0,JJ n f)],_,ha,rfl,hx.1,hx.2,AP (AI hL hL) _ (Ain _ _ n f e (By (cdV f) e) (Az (XK _ n f hn e h1 h2 h3 e 0 (Yk n f) (n+1) (by omega) (by omega)))),Av.refl _⟩
noncomputable def Aet:AK:=(68,YN)::(70,Ahd)::(69,Jc)::[]
theorem Aes:Aq Tryz.prog Gl Aet:=.cons p103 <| .cons p104 <| .cons p69 .nil
theorem Alq (L:LT) (n:Nat) (f:Nat->E6) (h19:BC n=true) (h0:Cp n f=true) (h20:E9 n=true):(Ay (Ai tab ⟨Am Aet,L,Gl⟩ Tryz.f47 [AS n f] [])).sem=some ((.tup [.ref 0,iV 0]),[.row 92 6 n (λi=>eV (AT n f (ofNat (Z1 n (λi=>BD (f i)))) i))]):=by
 exact Ac (ks:=[kL n,kn h19,kn h0,kN kT,kL n,kn h20,kL n,kn h19]) (by kernel_rfl)
def RG:List V->AE:=Gs λn f=>.br (BC n) (.br (Cp n f) (.leaf (.tup [.ref 0,iV 0],[.row 92 6 n λi=>eV (AT n f (ofNat (Z1 n λk=>BD (f k))) i)])) (.leaf (.tup [.ref 0,iV 30],[.row 92 6 0 λ_=>.und]))) .fail
theorem p66:Ax Tryz.prog Gl 47 RG:=by
 refine Aj A7 mixed Tryz.func47 (by kernel_rfl) (by kernel_rfl) λvs v h' h=>?_;obtain ⟨n,f,ha,h⟩:=C7 h;obtain ⟨hn,h⟩:=Ad h;have hx:=AH Aes [];cases hm:Cp n f with
 | true =>rw [hm] at h;have:=Ab h;simp only [Prod.mk.injEq] at this;obtain ⟨rfl,rfl⟩:=this;exact ⟨_,AA Gl Aet [],_,ha,rfl,hx.1,hx.2,Alq _ n f hn hm (Ga hn),Av.refl _⟩
 | false =>rw [hm] at h;have:=Ab h;simp only [Prod.mk.injEq] at this;obtain ⟨rfl,rfl⟩:=this;exact ⟨_,AA Gl Aet [],_,ha,rfl,hx.1,hx.2,Ac (ks:=[kL n,kn hn,kn hm,kN kF]) (by kernel_rfl)/-W:wc66n-/,Av.refl _⟩
noncomputable def tb16:AK:=(17,Ib)::(47,RG)::(29,XF)::[]
theorem tb16_ok:Aq Tryz.prog Gl tb16:=.cons p65 <| .cons p66 <| .cons p42 <| .nil
theorem HC {n:Nat} {h g:Nat->Int} (hg:∀ i,i<n->g i=h i) (p i:Nat) (hn:0<n):Et n g p i=Et n h p i:=hg _ (Nat.mod_lt _ hn)
theorem U3 {n:Nat} {h g:Nat->Int} (hg:∀ i,i<n->g i=h i) {p:Nat} (hp:EB n g p):EB n h p:=by
 have hn:0<n:=by have:=hp.1; omega
 refine ⟨hp.1,λq hq hl=>hp.2 q hq ?_⟩;obtain ⟨s,h1,h2,h3⟩:=hl;exact ⟨s,h1,λt ht=>by rw [HC hg _ _ hn,HC hg _ _ hn]; exact h2 t ht,by rw [HC hg _ _ hn,HC hg _ _ hn]; exact h3⟩
theorem Lv {n:Nat} {f l:Nat->E6} (hm:Cp n f=true) (hl:∀ i,i<n->l i=f i):∀ i,i<n->AY n l i=AT n f (ofNat (Z1 n λk=>BD (f k))) i:=λi hi=>by
 have hn:0<n:=by omega
 have h1:EB n (λk=>BD (f k)) (Cs n λk=>BD (l k)):=U3 (g:=λk=>BD (l k)) (λt ht=>by show BD (l t)=BD (f t); rw [hl t ht]) (JX n _ hn);have h2:=AbA (λk=>BD (f k)) hn;have h3:=U2 h1 h2 i hi;unfold AY AT;rw [Zk h2.1,hl _ (Nat.mod_lt _ hn)];exact YP (Dt.1 hm _ (Nat.mod_lt _ hn)) (Dt.1 hm _ (Nat.mod_lt _ hn)) h3
end Go.Proofs.YtkgdhhieomndeaaGreatDoor.Ed
namespace Go.Proofs.YtkgdhhieomndeaaGreatDoor.Sh
open Go.Sy Ed
structure Cod (α:Type) where
 size:Nat
 enc:α->V
 ok:V->Bool
 ed:V->α
 law:∀ v,ok v=true->∀ (S:Nat->Prop) (w:World) (c:Value),VR S w v noK c->VR S w (enc (ed v)) noK c
def WN (s:Nat):V->Option (Nat×(Nat->V))
 | .sl s' n g=>match Nat.beq s' s with
  | true=>some (n,g)
  | false=>match n with
   | 0=>some (0,g)
   | _=>none
 | .slr s' n _ g=>match Nat.beq s' s with
  | true=>some (n,g)
  | false=>none
 | .nilS=>some (0,λ_=>.und)
 | _=>none
theorem OW {s:Nat} {v:V} {n:Nat} {g:Nat->V} (hg:WN s v=some (n,g)) {e:Nat->V} (he:∀ i,i<n->∀ (S:Nat->Prop) (w:World) (c:Value),VR S w (g i) noK c->VR S w (e i) noK c)
  {S:Nat->Prop} {w:World} {c:Value} (hv:VR S w v noK c):VR S w (.sl s n e) noK c:=by
 unfold WN at hg;split at hg
 ·rename_i s' n' g'
  split at hg
  ·rename_i hs
   simp only [Option.some.injEq,Prod.mk.injEq] at hg;obtain ⟨rfl,rfl⟩:=hg;have hs:s'=s:=Nat.eq_of_beq_eq_true hs;subst hs;obtain ⟨a,cap,ea,hc,hb⟩:=hv;refine ⟨a,cap,ea,hc,hb.imp id ?_⟩
   rintro ⟨b,o,eb,hel⟩
   refine ⟨b,o,eb,λi hi=>?_⟩;obtain ⟨ci,h1,h2⟩:=hel i hi;exact ⟨ci,he i hi S w ci h1,h2⟩
  ·split at hg
   ·simp only [Option.some.injEq,Prod.mk.injEq] at hg
    obtain ⟨rfl,rfl⟩:=hg;obtain ⟨a,cap,ea,hc,_⟩:=hv;exact ⟨a,cap,ea,hc,.inl rfl⟩
   ·cases hg
 ·rename_i s' n' m' g'
  split at hg
  ·rename_i hs
   simp only [Option.some.injEq,Prod.mk.injEq] at hg;obtain ⟨rfl,rfl⟩:=hg;have hs:s'=s:=Nat.eq_of_beq_eq_true hs;subst hs;obtain ⟨a,cap,ea,hc,hm,hb⟩:=hv;refine ⟨a,cap,ea,Nat.le_trans hc hm,?_⟩;rcases hb with h0 | ⟨b,o,eb,hel⟩
   ·exact .inl (by omega)
   ·refine .inr ⟨b,o,eb,λi hi=>?_⟩
    obtain ⟨ci,h1,h2⟩:=hel i (by omega);exact ⟨ci,he i hi S w ci h1,h2⟩
  ·cases hg
 ·simp only [Option.some.injEq,Prod.mk.injEq] at hg
  obtain ⟨rfl,rfl⟩:=hg;have hv:c = .slice none 0 0:=hv;exact ⟨none,0,hv,Nat.le_refl _,.inl rfl⟩
 ·cases hg
def apG {α β:Type} (c:Cod α) (v:V) (F:Nat->(Nat->α)->T β):T β :=
 match WN c.size v with
 | some (n,g)=>.br (A4 n λi=>c.ok (g i)) (F n λi=>c.ed (g i)) .fail
 | none=>.fail
def O9 {α:Type} (c:Cod α) (n:Nat) (f:Nat->α):V:=.sl c.size n λi=>c.enc (f i)
theorem Bz {α β:Type} {c:Cod α} {v:V} {F:Nat->(Nat->α)->T β} {r:β} (h:(apG c v F).sem=some r) :
  ∃ n f,(∀ (S:Nat->Prop) (w:World) (u:Value),VR S w v noK u->VR S w (O9 c n f) noK u)∧(F n f).sem=some r:=by
 unfold apG at h;split at h
 ·rename_i n g hg
  obtain ⟨h1,h2⟩:=Ad h;have h1:=A0.1 h1;exact ⟨n,_,λS w u hv=>OW hg (λi hi S w cc hc=>c.law _ (h1 i hi) S w cc hc) hv,h2⟩
 ·cases h
def Aah:Cod E6:=⟨6,eV,okE,edE,λv h S w c hv=>by rw [<- O2 h]; exact hv⟩
def SR:Cod Int:=⟨1,iV,okI,edI,λv h S w c hv=>by rw [<- KA h]; exact hv⟩
def toX:V->Option Ev5
 | .agg [.val (.int .i64 a),.val (.int .i64 b),.val (.int .i64 c),.val (.int .i64 d),.val (.int .i64 e)]=>some ⟨a,b,c,d,e⟩
 | _=>none
theorem AaF {v:V} {e:Ev5} (h:toX v=some e):v=evV e:=by
 unfold toX at h;split at h
 ·simp only [Option.some.injEq] at h
  subst h;rfl
 ·cases h
def okX (v:V):Bool:=match toX v with
 | some _=>true
 | none=>false
def edX (v:V):Ev5:=match toX v with
 | some e=>e
 | none=>⟨0,0,0,0,0⟩
theorem AbO {v:V} (h:okX v=true):v=evV (edX v):=by
 unfold okX at h;unfold edX;split at h
 ·rename_i e he
  exact AaF he
 ·cases h
def Aaf:Cod Ev5:=⟨5,evV,okX,edX,λv h S w c hv=>by rw [<- AbO h]; exact hv⟩
def okJ (v:V):Bool:=match WN 1 v with
 | some (n,g)=>A4 n λi=>okI (g i)
 | none=>false
def edJ (v:V):Nat×(Nat->Int):=match WN 1 v with
 | some (n,g)=>(n,λi=>edI (g i))
 | none=>(0,λ_=>0)
def Aag:Cod (Nat×(Nat->Int)):=⟨1,λp=>.sl 1 p.1 λi=>iV (p.2 i),okJ,edJ,λv h S w c hv=>by
 unfold okJ at h;unfold edJ;split at h
 ·rename_i n g hg
  have h:=A0.1 h;exact OW hg (λi hi S w cc hc=>by rw [<- KA (h i hi)]; exact hc) hv
 ·cases h⟩
structure Sh7 where
 arch:Int
 ne:Nat
 E:Nat->E6
 nx:Nat
 X:Nat->Ev5
 tt:Int
 kk:Int
 nr:Nat
 R:Nat->Int
 nc:Nat
 C:Nat->Nat×(Nat->Int)
def VS (s:Sh7):V:=.agg [iV s.arch,O9 Aah s.ne s.E,O9 Aaf s.nx s.X,iV s.tt,iV s.kk,O9 SR s.nr s.R,O9 Aag s.nc s.C]
def apS {β:Type} (v:V) (F:Sh7->T β):T β :=
 match v with
 | .agg [.val (.int .i64 a),e,x,.val (.int .i64 t),.val (.int .i64 k),r,c]=>apG Aah e λne E=>apG Aaf x λnx X=>apG SR r λnr R=>apG Aag c λnc C=>F ⟨a,ne,E,nx,X,t,k,nr,R,nc,C⟩
 | _=>.fail
theorem apS_some {β:Type} {v:V} {F:Sh7->T β} {r:β} (h:(apS v F).sem=some r) :
  ∃ s,(∀ (S:Nat->Prop) (w:World) (u:Value),VR S w v noK u->VR S w (VS s) noK u)∧(F s).sem=some r:=by
 unfold apS at h;split at h
 ·obtain ⟨ne,E,h1,h⟩:=Bz h
  obtain ⟨nx,X,h2,h⟩:=Bz h;obtain ⟨nr,R,h3,h⟩:=Bz h;obtain ⟨nc,C,h4,h⟩:=Bz h;refine ⟨_,λS w u hv=>?_,h⟩;obtain ⟨ca,rfl,a1,l1,rfl,q1,a2,l2,rfl,q2,a3,l3,rfl,q3,a4,l4,rfl,q4,a5,l5,rfl,q5,a6,l6,rfl,q6,a7,l7,rfl,q7,q8⟩:=hv;exact ⟨_,rfl,a1,_,rfl,q1,a2,_,rfl,h1 S w _ q2,a3,_,rfl,h2 S w _ q3,a4,_,rfl,q4,a5,_,rfl,q5,a6,_,rfl,h3 S w _ q6,a7,_,rfl,h4 S w _ q7,q8⟩
 ·cases h
theorem Z6 {P:Program} {G:Nat->V} {f:FuncId} {F F':List V->AE} (h:Ax P G f F) (hF:∀ vs v h',(F' vs).sem=some (v,h')->∃ h'',(F vs).sem=some (v,h'')∧Av h'' h'):Ax P G f F':=by
 refine ⟨h.1,λvs cs S w v h' h1 h2 h3 h4=>?_⟩;obtain ⟨h'',h5,h6⟩:=hF vs v h' h4;obtain ⟨hr,hc⟩:=h.2 vs cs S w v h'' h1 h2 h3 h5;refine ⟨h6.rows hr,hc.mono ?_⟩
 rintro e w' ⟨u,κ',S',rfl,g1,g2,g3⟩
 obtain ⟨p1,p2⟩:=h6.good g1;refine ⟨u,κ',S',rfl,p1,g2,Ext.ofNil g3.os g3.tape g3.output g3.size g3.keep (λi b hb=>?_) g3.sub g3.sup (h6.rows hr)⟩;rw [p2] at hb;exact g3.own i b hb
theorem p93:Ax Tryz.prog Gl 47 Ib:=by
 refine Z6 p66 λvs v h' h=>?_;unfold Ib at h;unfold RG;unfold Gs at h ⊢;split at h
 ·rename_i u
  unfold apL at h ⊢;split at h
  ·rename_i n g hg
   obtain ⟨h1,h2⟩:=Ad h;obtain ⟨h3,h4⟩:=Ad h2;rw [h1];dsimp only;rw [h3];cases hm:Cp n (λi=>edE (g i)) with
   | false =>rw [hm] at h4;exact ⟨h',h4,Av.refl _⟩
   | true =>rw [hm] at h4;have:=Ab h4;simp only [Prod.mk.injEq] at this;obtain ⟨rfl,rfl⟩:=this;refine ⟨_,rfl,Av.one λi hi=>?_⟩;rw [Lv hm (λ_ _=>rfl) i hi]
  ·cases h
 ·cases h
abbrev shL (a:Int) (n:Nat) (g:Nat->E6) (m:Nat) (x:Nat->Ev5) (t k:Int) (p:Nat) (r:Nat->Int) (q:Nat) (ln:Nat->Nat) (co:Nat->Nat->Int):List V:=[iV a,.sl 6 n (λi=>eV (g i)),.sl 5 m (λi=>evV (x i)),iV t,iV k,.sl 1 p (λi=>iV (r i)),.sl 1 q (λu=>.sl 1 (ln u) (λi=>iV (co u i)))]
end Go.Proofs.YtkgdhhieomndeaaGreatDoor.Sh
