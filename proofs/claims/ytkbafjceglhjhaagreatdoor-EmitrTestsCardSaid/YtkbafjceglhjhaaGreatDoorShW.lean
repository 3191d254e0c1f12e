/-
  The least turned list the document's way; the law CycleTurned as a function. No conditions.
-/
import Derived.Test.YtkbafjceglhjhaaGreatDoorCyZ
import Derived.Test.YtkbafjceglhjhaaGreatDoorEdY
namespace Go.Proofs.YtkbafjceglhjhaaGreatDoor.Ed
open Go.Sy Go
open Int (ofNat)
def inN (n:Nat) (a:Int):Bool:=Al (ile 0 a) (ilt a (ofNat n))
theorem ND {n a:Nat} (h:a<n):inN n (ofNat a)=true:=Ad h
theorem Vb {n:Nat} {a:Int} (h:inN n a=true):a=ofNat (toN a)∧toN a<n:=by
 simp only [inN,Al,ile,ilt,Bool.and_eq_true,decide_eq_true_eq,Int.ofNat_eq_natCast] at h;simp only [toN,Int.ofNat_eq_natCast];omega
def K7 (n:Nat) (h:Nat->Int) (a b:Nat):Nat->Nat->Option Bool
 | 0,_=>none
 | d+1,i=>if h ((a+i) % n)=h ((b+i) % n) then K7 n h a b d (i+1) else some (decide (h ((a+i) % n)<h ((b+i) % n)))
def Jq (n:Nat) (h:Nat->Int) (a b:Nat):Bool:=(K7 n h a b n 0).getD false
theorem PY {n:Nat} {h:Nat->Int} {a b:Nat}:∀ d i,n=i+d->(∀ t,t<i->FD n h a t=FD n h b t)->((K7 n h a b d i).getD false=true↔Kb n h a b)
 | 0,i,hd,hi=>by
  refine ⟨λh1=>(by cases h1),λ⟨s,h1,_,h3⟩=>?_⟩;rw [hi s (by omega)] at h3;omega
 | d+1,i,hd,hi=>by
  unfold K7;by_cases he:h ((a+i) % n)=h ((b+i) % n)
  ·rw [if_pos he]
   refine PY d (i+1) (by omega) λt ht=>?_;by_cases hti:t=i
   ·rw [hti]; exact he
   ·exact hi t (by omega)
  ·rw [if_neg he]
   refine ⟨λh1=>⟨i,by omega,hi,of_decide_eq_true h1⟩,λ⟨s,h1,h2,h3⟩=>decide_eq_true ?_⟩;rcases Nat.lt_trichotomy s i with hs | hs | hs
   ·rw [hi s hs] at h3; omega
   ·rw [hs] at h3; exact h3
   ·exact absurd (h2 i hs) he
theorem PZ {n:Nat} {h:Nat->Int} {a b:Nat}:Jq n h a b=true↔Kb n h a b:=PY n 0 (by omega) λt ht=>absurd ht (Nat.not_lt_zero _)
def Xz (n:Nat) (h:Nat->Int) (a b:Nat) (v:Bool):Ex×St:=(.rt,⟨jsV 40 0 Aa [(6,bV v)],[]⟩)
def OU (n:Nat) (h:Nat->Int) (a b:Nat):Lp:=⟨bmK 40 0 [0,1,2,6,7,8],0,bmK 40 0 [6],0,n+1⟩
def Q7 (n:Nat) (h:Nat->Int) (a b:Nat) (i:Nat) (j:Nat->V):St:=⟨jsV 40 0 j [(0,.sl 1 n λk=>iV (h k)),(1,nV a),(2,nV b),(6,bV false),(7,nV n),(8,nV i)],[]⟩
def X0 (n:Nat) (h:Nat->Int) (a b:Nat) (i:Nat):Ex×St:=(.ex 0,⟨jsV 40 0 Aa [(6,bV false)],[]⟩)
noncomputable def JK (L:LT):St->T (Ex×St):=λst=>AA tab ⟨Aw tb0,L,Gl⟩ (As Tryz.f120 0) 0 st
section
variable (L:LT) (n:Nat) (h:Nat->Int) (a b:Nat) (i:Nat)  (j:Nat->V)
include L n h a b i j
theorem Al6 (h0:ilt (ofNat i) (ofNat n)=false):Au (JK L) (OU n h a b) (Q7 n h a b i j)=some ((.ex 0),⟨jsV 40 0 Aa [(6,bV false)],[]⟩):=by
 exact Ae (ks:=[kn h0]) (by kernel_rfl)
theorem Al5 (h0:ilt (ofNat i) (ofNat n)=true) (h1:ieq (ofNat n) 0=false) (h20:Al (ile 0 (Ay (wr .i64 (Ai (ofNat a) (ofNat i))) (ofNat n))) (ilt (Ay (wr .i64 (Ai (ofNat a) (ofNat i))) (ofNat n)) (ofNat n))=true) (h22:Al (ile 0 (Ay (wr .i64 (Ai (ofNat b) (ofNat i))) (ofNat n))) (ilt (Ay (wr .i64 (Ai (ofNat b) (ofNat i))) (ofNat n)) (ofNat n))=true) (h2:ieq (h (toN (Ay (wr .i64 (Ai (ofNat a) (ofNat i))) (ofNat n)))) (h (toN (Ay (wr .i64 (Ai (ofNat b) (ofNat i))) (ofNat n))))=true):Au (JK L) (OU n h a b) (Q7 n h a b i j)=some (.nm,⟨jsV 40 0 Aa [(0,.sl 1 n (λk=>iV (h k))),(1,nV a),(2,nV b),(6,bV false),(7,nV n),(8,iV (wr .i64 (Ai (ofNat i) 1)))],[]⟩):=by
 exact Ae (ks:=[kn h0,kn h1,kn h20,kn h1,kn h22,kN (kn h2)]) (by kernel_rfl)
theorem Al4 (h0:ilt (ofNat i) (ofNat n)=true) (h1:ieq (ofNat n) 0=false) (h20:Al (ile 0 (Ay (wr .i64 (Ai (ofNat a) (ofNat i))) (ofNat n))) (ilt (Ay (wr .i64 (Ai (ofNat a) (ofNat i))) (ofNat n)) (ofNat n))=true) (h22:Al (ile 0 (Ay (wr .i64 (Ai (ofNat b) (ofNat i))) (ofNat n))) (ilt (Ay (wr .i64 (Ai (ofNat b) (ofNat i))) (ofNat n)) (ofNat n))=true) (h2:ieq (h (toN (Ay (wr .i64 (Ai (ofNat a) (ofNat i))) (ofNat n)))) (h (toN (Ay (wr .i64 (Ai (ofNat b) (ofNat i))) (ofNat n))))=false):Au (JK L) (OU n h a b) (Q7 n h a b i j)=some (.rt,⟨jsV 40 0 Aa [(6,bV (ilt (h (toN (Ay (wr .i64 (Ai (ofNat a) (ofNat i))) (ofNat n)))) (h (toN (Ay (wr .i64 (Ai (ofNat b) (ofNat i))) (ofNat n))))))],[]⟩):=by
 exact Ae (ks:=[kn h0,kn h1,kn h20,kn h1,kn h22,kN (kn h2)]) (by kernel_rfl)
end
def Ad7 (n:Nat) (h:Nat->Int) (a b:Nat) :Nat->V:=lkV AK [(11,.sl 1 n (λi=>iV (h i))),(12,nV n)]
theorem AjT (L:LT) (p0:PT) (n:Nat) (h:Nat->Int) (a b:Nat) (i:Nat)  (hp0:p0 (JK (onP 0 p0 (X0 n h a b i) L)) (Q7 n h a b 0 (Ad7 n h a b ))=true):(A0 (Aj tab ⟨Aw tb0,onP 0 p0 (X0 n h a b i) L,Gl⟩ Tryz.f120 [F2 n h,nV a,nV b] [])).sem=some ((bV false),[]):=by
 exact Ae (ks:=[kn hp0]) (by kernel_rfl)
theorem AjS (L:LT) (p0:PT) (n:Nat) (h:Nat->Int) (a b:Nat) (v:Bool)  (hp0:p0 (JK (onP 0 p0 (Xz n h a b v) L)) (Q7 n h a b 0 (Ad7 n h a b ))=true):(A0 (Aj tab ⟨Aw tb0,onP 0 p0 (Xz n h a b v) L,Gl⟩ Tryz.f120 [F2 n h,nV a,nV b] [])).sem=some ((bV v),[]):=by
 exact Ae (ks:=[kn hp0]) (by kernel_rfl)
theorem AeH (n a i:Nat) (ha:a<n) (hn:n <= 4611686018427387904) (hi:i<n):Ay (wr .i64 (Ai (ofNat a) (ofNat i))) (ofNat n)=ofNat ((a+i) % n)∧(a+i) % n<n:=by
 rw [FB (by omega),Et];exact ⟨rfl,Nat.mod_lt _ (by omega)⟩
theorem YM (n a i:Nat) (ha:a<n) (hn:n <= 4611686018427387904) (hi:i<n):Al (ile 0 (Ay (wr .i64 (Ai (ofNat a) (ofNat i))) (ofNat n))) (ilt (Ay (wr .i64 (Ai (ofNat a) (ofNat i))) (ofNat n)) (ofNat n))=true:=by
 obtain ⟨e1,l1⟩:=AeH n a i ha hn hi;rw [e1];exact Ad l1
theorem AiN (n i:Nat) (hi:i<n):ieq (ofNat n) 0=false:=by rw [show (0:Int)=ofNat 0 from rfl,DX,decide_eq_false (by omega)]
theorem AbY (L:LT) (n:Nat) (h:Nat->Int) (a b:Nat) (hn:n <= 4611686018427387904) (ha:a<n) (hb:b<n):∀ (d i:Nat) (j:Nat->V) (q:Nat),n=i+d->d<q ->
  (Av (JK L) (OU n h a b) q (Q7 n h a b i j)).sem=some (match K7 n h a b d i with | none=>X0 n h a b 0 | some v=>Xz n h a b v)
 | 0,i,j,q+1,h1,_=>by
  have:n=i:=by omega
  subst this;exact Af (Al6 L n h a b n j (A1 (Nat.le_refl _)))
 | d+1,i,j,q+1,h1,h2=>by
  have hi:i<n:=by omega
  obtain ⟨e1,l1⟩:=AeH n a i ha hn hi;obtain ⟨e2,l2⟩:=AeH n b i hb hn hi;unfold K7;by_cases he:h ((a+i) % n)=h ((b+i) % n)
  ·have hq:ieq (h (toN (Ay (wr .i64 (Ai (ofNat a) (ofNat i))) (ofNat n)))) (h (toN (Ay (wr .i64 (Ai (ofNat b) (ofNat i))) (ofNat n))))=true:=by
    rw [e1,e2];show ieq (h ((a+i) % n)) (h ((b+i) % n))=true;rw [he];exact Tb _
   rw [if_pos he,Af (Al5 L n h a b i j (ofNat_lt hi) (AiN n i hi) (YM n a i ha hn hi) (YM n b i hb hn hi) hq),AT,A3 hi hn];exact AbY L n h a b hn ha hb d (i+1) Aa q (by omega) (by omega)
  ·have hq:ieq (h (toN (Ay (wr .i64 (Ai (ofNat a) (ofNat i))) (ofNat n)))) (h (toN (Ay (wr .i64 (Ai (ofNat b) (ofNat i))) (ofNat n))))=false:=by
    rw [e1,e2];show ieq (h ((a+i) % n)) (h ((b+i) % n))=false;simp [ieq,he]
   have hr:=Al4 L n h a b i j (ofNat_lt hi) (AiN n i hi) (YM n a i ha hn hi) (YM n b i hb hn hi) hq;rw [e1,e2] at hr;rw [if_neg he];exact Af hr
def XL:List V->A5
 | [v,.val (.int .i64 a),.val (.int .i64 b)]=>apI v λn h=>.br (Fa n) (.br (Al (inN n a) (inN n b)) (out (bV (Jq n h (toN a) (toN b)))) .fail) .fail
 | _=>.fail
theorem AaQ {a b:Bool} (h:Al a b=true):a=true∧b=true:=by simpa [Al] using h
theorem Asu:Ap Tryz.prog Gl 120 XL:=by
 refine Ah A2 mixed Tryz.func120 (by kernel_rfl) (by kernel_rfl) λvs v h' hh=>?_;unfold XL at hh;split at hh
 ·rename_i u a b
  obtain ⟨n,h,hv,h1⟩:=El hh;obtain ⟨h8,h2⟩:=Ac h1;obtain ⟨hab,h3⟩:=Ac h2;have:=Ab h3;simp only [Prod.mk.injEq] at this;obtain ⟨rfl,rfl⟩:=this;obtain ⟨ha,hb⟩:=AaQ hab;obtain ⟨ea,la⟩:=Vb ha;obtain ⟨eb,lb⟩:=Vb hb;have hA:Ba [u,iV a,iV b] [F2 n h,iV (ofNat (toN a)),iV (ofNat (toN b))]:=λS w cs q=>by
   rw [<- ea,<- eb];obtain ⟨c,l,rfl,q1,q2⟩:=q;exact ⟨c,l,rfl,hv S w c q1,q2⟩
  have hx:=Bh Ca [(0,OU n h (toN a) (toN b))];have hL:=Bb [(0,OU n h (toN a) (toN b))];have hr:=λL=>AbY L n h (toN a) (toN b) (E1 h8) la lb n 0 (Ad7 n h (toN a) (toN b)) (n+1) (by omega) (by omega);refine ⟨_,AO Gl tb0 [(0,OU n h (toN a) (toN b))],_,hA,rfl,hx.1,hx.2,?_,Am.refl _⟩;unfold Jq;cases hc:K7 n h (toN a) (toN b) n 0 with
  | none =>rw [hc] at hr;exact AW (AX hL hL) _ (AjT _ _ n h (toN a) (toN b) 0 (A4 (hr _)))
  | some v =>rw [hc] at hr;exact AW (AX hL hL) _ (AjS _ _ n h (toN a) (toN b) v (A4 (hr _)))
 ·cases hh
noncomputable def tb104:A7:=(120,XL)::[]
theorem tb104_ok:Ao Tryz.prog Gl tb104:=.cons Asu .nil
def WG (n:Nat) (h:Nat->Int):Nat->Nat->Nat->Nat
 | 0,_,b=>b
 | d+1,i,b=>if Jq n h i b=true then WG n h d (i+1) i else WG n h d (i+1) b
def ZS (n:Nat) (h:Nat->Int):Nat:=WG n h (n-1) 1 0
theorem Ou {n:Nat} {h:Nat->Int}:∀ d i b,n=i+d->b<i->(∀ q,q<i->¬ Kb n h q b)->Fz n h (WG n h d i b)
 | 0,i,b,hd,hb,hq=>⟨by show b<n; omega,λq hq'=>hq q (by omega)⟩
 | d+1,i,b,hd,hb,hq=>by
  unfold WG;by_cases ha:Jq n h i b=true
  ·rw [if_pos ha]
   have hl:=PZ.1 ha;refine Ou d (i+1) i (by omega) (by omega) λq hq' hlt=>?_;by_cases hqi:q=i
   ·rw [hqi] at hlt; exact Ga hlt
   ·exact hq q (by omega) (Nj hlt hl)
  ·rw [if_neg ha]
   refine Ou d (i+1) b (by omega) (by omega) λq hq' hlt=>?_;by_cases hqi:q=i
   ·rw [hqi] at hlt; exact ha (PZ.2 hlt)
   ·exact hq q (by omega) hlt
theorem Acd {n:Nat} (h:Nat->Int) (hn:0<n):Fz n h (ZS n h):=Ou (n-1) 1 0 (by omega) (by omega) λq hq=>by
 have:q=0:=by omega
 subst this;exact Ga
def OV (n:Nat) (h:Nat->Int):Lp:=⟨bmK 17 0 [0,2,3,4],0,bmK 17 0 [2,3],0,n+1⟩
def Un (n:Nat) (h:Nat->Int) (b i:Nat) (j:Nat->V):St:=⟨jsV 17 0 j [(0,.sl 1 n λk=>iV (h k)),(2,iV 0),(3,nV b),(4,nV i)],[]⟩
def X1 (n:Nat) (h:Nat->Int) (b i:Nat):Ex×St:=(.ex 0,⟨jsV 17 0 Aa [(2,iV 0),(3,nV b)],[]⟩)
noncomputable def LO (L:LT):St->T (Ex×St):=λst=>AA tab ⟨Aw tb104,L,Gl⟩ (As Tryz.f78 0) 0 st
section
variable (L:LT) (n:Nat) (h:Nat->Int) (b i:Nat)  (j:Nat->V)
include L n h b i j
theorem Ace (h0:ilt (ofNat i) (ofNat n)=false):Au (LO L) (OV n h) (Un n h b i j)=some ((.ex 0),⟨jsV 17 0 Aa [(2,iV 0),(3,nV b)],[]⟩):=by
 exact Ae (ks:=[kn h0]) (by kernel_rfl)
theorem AlA (h0:ilt (ofNat i) (ofNat n)=true) (h18:Fa n=true) (h19:inN n (ofNat i)=true) (h20:inN n (ofNat b)=true) (h1:Jq n h i b=true):Au (LO L) (OV n h) (Un n h b i j)=some (.nm,⟨jsV 17 0 Aa [(0,.sl 1 n (λk=>iV (h k))),(2,iV 0),(3,nV i),(4,iV (wr .i64 (Ai (ofNat i) 1)))],[]⟩):=by
 exact Ae (ks:=[kn h0,kL n,kn h18,kA (kn h19) (kn h20),kn h1]) (by kernel_rfl)
theorem AlB (h0:ilt (ofNat i) (ofNat n)=true) (h18:Fa n=true) (h19:inN n (ofNat i)=true) (h20:inN n (ofNat b)=true) (h1:Jq n h i b=false):Au (LO L) (OV n h) (Un n h b i j)=some (.nm,⟨jsV 17 0 Aa [(0,.sl 1 n (λk=>iV (h k))),(2,iV 0),(3,nV b),(4,iV (wr .i64 (Ai (ofNat i) 1)))],[]⟩):=by
 exact Ae (ks:=[kn h0,kL n,kn h18,kA (kn h19) (kn h20),kn h1]) (by kernel_rfl)
end
def Ad8 (n:Nat) (h:Nat->Int) :Nat->V:=lkV AK []
theorem Aiu (L:LT) (p0:PT) (n:Nat) (h:Nat->Int) (b i:Nat)  (hp0:p0 (LO (onP 0 p0 (X1 n h b i) L)) (Un n h 0 1 (Ad8 n h ))=true):(A0 (Aj tab ⟨Aw tb104,onP 0 p0 (X1 n h b i) L,Gl⟩ Tryz.f78 [F2 n h] [])).sem=some ((nV b),[]):=by
 exact Ae (ks:=[kn hp0]) (by kernel_rfl)
theorem WE (L:LT) (n:Nat) (h:Nat->Int) (h8:Fa n=true):∀ (d i b:Nat) (j:Nat->V) (q:Nat),n=i+d->b<i->d<q ->
  (Av (LO L) (OV n h) q (Un n h b i j)).sem=some (X1 n h (WG n h d i b) n)
 | 0,i,b,j,q+1,h1,_,_=>by
  have:n=i:=by omega
  subst this;exact Af (Ace L n h b n j (A1 (Nat.le_refl _)))
 | d+1,i,b,j,q+1,h1,hb,h2=>by
  have hi:i<n:=by omega
  unfold WG;cases ha:Jq n h i b with
  | true =>rw [if_pos rfl,Af (AlA L n h b i j (ofNat_lt hi) h8 (ND hi) (ND (by omega)) ha),AT,A3 hi (E1 h8)];exact WE L n h h8 d (i+1) i Aa q (by omega) (by omega) (by omega)
  | false =>rw [if_neg (by decide),Af (AlB L n h b i j (ofNat_lt hi) h8 (ND hi) (ND (by omega)) ha),AT,A3 hi (E1 h8)];exact WE L n h h8 d (i+1) b Aa q (by omega) (by omega) (by omega)
def AiC:List V->A5:=AhU λn h=>.br (Fa n) (out (iV (ofNat (ZS n h)))) .fail
theorem p104:Ap Tryz.prog Gl 78 AiC:=by
 refine Ah A2 mixed Tryz.func78 (by kernel_rfl) (by kernel_rfl) λvs v h' hh=>?_;obtain ⟨n,h,hA,h1⟩:=RA hh;obtain ⟨h8,h3⟩:=Ac h1;have:=Ab h3;simp only [Prod.mk.injEq] at this;obtain ⟨rfl,rfl⟩:=this;have hx:=Bh tb104_ok [(0,OV n h)];have hL:=Bb [(0,OV n h)];refine ⟨_,AO Gl tb104 [(0,OV n h)],_,hA,rfl,hx.1,hx.2,?_,Am.refl _⟩;unfold ZS;rcases Nat.eq_zero_or_pos n with rfl | hn
 ·exact AW (AX hL hL) _ (Aiu _ _ 0 h 0 0 (A4 (Af (Ace _ 0 h 0 1 (Ad8 0 h) (A1 (by omega))))))
 ·exact AW (AX hL hL) _ (Aiu _ _ n h _ n (A4 (WE _ n h h8 (n-1) 1 0 (Ad8 n h) (n+1) (by omega) (by omega) (by omega))))
noncomputable def tb106:A7:=[]
theorem tb106_ok:Ao Tryz.prog Gl tb106:=.nil
noncomputable def tb103:A7:=(119,BX V8)::[]
theorem tb103_ok:Ao Tryz.prog Gl tb103:=.cons p25 .nil
def Tw (n:Nat) (f:Nat->E6) (k:Nat) (x:Nat->V):Ex×St:=(.rt,⟨jsV 31 0 Aa [(2,.ref 2),(3,bV false),(4,.ref 1)],[.row 3 1 0 λ_=>.und,.row 3 1 k x,.row 3 1 0 λ_=>.und]⟩)
def lp103 (n:Nat) (f:Nat->E6):Lp:=⟨bmK 31 0 [0,2,3,4,5],2,bmK 31 0 [2,3,4],3,n+1⟩
def MS (n:Nat) (f:Nat->E6) (i k:Nat) (x:Nat->V) (j:Nat->V):St:=⟨jsV 31 0 j [(0,.sl 6 n λi=>eV (f i)),(2,.ref 0),(3,bV false),(4,.ref 1),(5,nV i)],[.row 3 1 0 λ_=>.und,.row 3 1 k x]⟩
def X2 (n:Nat) (f:Nat->E6) (i k:Nat) (x:Nat->V):Ex×St:=(.ex 0,⟨jsV 31 0 Aa [(2,.ref 0),(3,bV false),(4,.ref 1)],[.row 3 1 0 λ_=>.und,.row 3 1 k x]⟩)
noncomputable def Ha (L:LT):St->T (Ex×St):=λst=>AA tab ⟨Aw tb103,L,Gl⟩ (As Tryz.f76 0) 0 st
section
variable (L:LT) (n:Nat) (f:Nat->E6) (i k:Nat) (x:Nat->V)  (j:Nat->V)
include L n f i k x j
theorem AlC (h0:ilt (ofNat i) (ofNat n)=false):Au (Ha L) (lp103 n f) (MS n f i k x j)=some ((.ex 0),⟨jsV 31 0 Aa [(2,.ref 0),(3,bV false),(4,.ref 1)],[.row 3 1 0 Aa,.row 3 1 k x]⟩):=by
 exact Ae (ks:=[kn h0]) (by kernel_rfl)
theorem Acf (h0:ilt (ofNat i) (ofNat n)=true) (h20:ile 0 (ofNat i)=true) (h1:ieq (Be (f i)) 0=true) (h21:Bs k 1 8=true):Au (Ha L) (lp103 n f) (MS n f i k x j)=some (.nm,⟨jsV 31 0 Aa [(0,.sl 6 n (λi=>eV (f i))),(2,.ref 0),(3,bV false),(4,.ref 1),(5,iV (wr .i64 (Ai (ofNat i) 1)))],[.row 3 1 0 Aa,.row 3 1 (AE k 1) (AD k x (iV (Cd (f i))))]⟩):=by
 exact Ae (ks:=[kn h0,kA (kn h20) (kn h0),kN (kn h1),kn h21]) (by kernel_rfl)
theorem Acg (h0:ilt (ofNat i) (ofNat n)=true) (h20:ile 0 (ofNat i)=true) (h1:ieq (Be (f i)) 0=false):Au (Ha L) (lp103 n f) (MS n f i k x j)=some (.rt,⟨jsV 31 0 Aa [(2,.ref 2),(3,bV false),(4,.ref 1)],[.row 3 1 0 Aa,.row 3 1 k x,.row 3 1 0 Aa]⟩):=by
 exact Ae (ks:=[kn h0,kA (kn h20) (kn h0),kN (kn h1)]) (by kernel_rfl)
end
def YG (n:Nat) (f:Nat->E6) :Nat->V:=lkV AK []
theorem AjZ (L:LT) (p0:PT) (n:Nat) (f:Nat->E6) (i k:Nat) (x:Nat->V)  (hp0:p0 (Ha (onP 0 p0 (X2 n f i k x) L)) (MS n f 0 0 Aa (YG n f ))=true):(A0 (Aj tab ⟨Aw tb103,onP 0 p0 (X2 n f i k x) L,Gl⟩ Tryz.f76 [AI n f] [])).sem=some ((.tup [.ref 0,bV true]),[.row 3 1 k x]):=by
 exact Ae (ks:=[kn hp0]) (by kernel_rfl)
theorem AjY (L:LT) (p0:PT) (n:Nat) (f:Nat->E6) (k:Nat) (x:Nat->V)  (hp0:p0 (Ha (onP 0 p0 (Tw n f k x) L)) (MS n f 0 0 Aa (YG n f ))=true):(A0 (Aj tab ⟨Aw tb103,onP 0 p0 (Tw n f k x) L,Gl⟩ Tryz.f76 [AI n f] [])).sem=some ((.tup [.ref 0,bV false]),[.row 3 1 0 Aa]):=by
 exact Ae (ks:=[kn hp0]) (by kernel_rfl)
theorem Yi (L:LT) (n:Nat) (f:Nat->E6) (hn:Ct n=true) (e:Nat) (he:e<n) (hb:Be (f e)=30) (ho:∀ t,t<e->Be (f t)=0):∀ (d i:Nat) (j:Nat->V) (q:Nat),e=i+d->d<q ->
  (Av (Ha L) (lp103 n f) q (MS n f i i (BW (cdV f) i) j)).sem=some (Tw n f e (BW (cdV f) e))
 | 0,i,j,q+1,h1,_=>by
  have:e=i:=by omega
  subst this;exact Af (Acg L n f e e (BW (cdV f) e) j (ofNat_lt he) (YN e) (by rw [hb]; rfl))
 | d+1,i,j,q+1,h1,h2=>by
  have hi:i<n:=by omega
  have hr:=Acf L n f i i (BW (cdV f) i) j (ofNat_lt hi) (YN i) (by rw [ho i (by omega)]; rfl) (TL hi (by decide) (of_decide_eq_true hn));rw [Af hr,AT,A3 hi (JA hn)];exact Yi L n f hn e he hb ho d (i+1) Aa q (by omega) (by omega)
theorem AbZ (L:LT) (n:Nat) (f:Nat->E6) (hn:Ct n=true):∀ (d i:Nat) (j:Nat->V) (q:Nat),n=i+d->d<q->(∀ t,t<i->Be (f t)=0) ->
  (Di n f=true∧(Av (Ha L) (lp103 n f) q (MS n f i i (BW (cdV f) i) j)).sem=some (X2 n f n n (BW (cdV f) n))) ∨ (Di n f=false∧∃ e,(Av (Ha L) (lp103 n f) q (MS n f i i (BW (cdV f) i) j)).sem=some (Tw n f e (BW (cdV f) e)))
 | 0,i,j,q+1,h1,_,ho=>by
  have:n=i:=by omega
  subst this;exact .inl ⟨D9.2 ho,Af (AlC L n f n n _ j (A1 (Nat.le_refl _)))⟩
 | d+1,i,j,q+1,h1,h2,ho=>by
  have hi:i<n:=by omega
  by_cases hc:Be (f i)=0
  ·have hr:=Acf L n f i i (BW (cdV f) i) j (ofNat_lt hi) (YN i) (by rw [hc]; rfl) (TL hi (by decide) (of_decide_eq_true hn))
   have ih:=AbZ L n f hn d (i+1) Aa q (by omega) (by omega) λt ht=>by
    by_cases hti:t=i
    ·rw [hti]; exact hc
    ·exact ho t (by omega)
   rw [Af hr,AT,A3 hi (JA hn)];exact ih
  ·refine .inr ⟨?_,i,Af (Acg L n f i i (BW (cdV f) i) j (ofNat_lt hi) (YN i) (by simp [ieq,hc]))⟩
   cases hm:Di n f with
   | false=>rfl
   | true=>exact absurd (D9.1 hm i hi) hc
def Zi:List V->A5:=Hy λn f=>.br (Ct n) (.br (Di n f) (.leaf (.tup [.ref 0,bV true],[.row 3 1 n λi=>iV (Cd (f i))])) (.leaf (.tup [.ref 0,bV false],[.row 3 1 0 λ_=>.und]))) .fail
theorem p103:Ap Tryz.prog Gl 76 Zi:=by
 refine Ah A2 mixed Tryz.func76 (by kernel_rfl) (by kernel_rfl) λvs v h' h=>?_;obtain ⟨n,f,ha,h⟩:=CM h;obtain ⟨hn,h⟩:=Ac h;have hx:=Bh tb103_ok [(0,lp103 n f)];have hL:=Bb [(0,lp103 n f)];have hr:=λL=>AbZ L n f hn n 0 (YG n f) (n+1) (by omega) (by omega) λt ht=>absurd ht (Nat.not_lt_zero _);cases hm:Di n f with
 | true =>rw [hm] at h;have:=Ab h;simp only [Prod.mk.injEq] at this;obtain ⟨rfl,rfl⟩:=this;exact ⟨_,AO Gl tb103 [(0,lp103 n f)],_,ha,rfl,hx.1,hx.2,AW (AX hL hL) _ (AjZ _ _ n f n n _ (A4 ((hr _).elim (λq=>q.2) λq=>by rw [hm] at q; cases q.1))),Am.one λj hj=>(HE (cdV f) n j hj).symm⟩
 | false =>rw [hm] at h;have:=Ab h;simp only [Prod.mk.injEq] at this;obtain ⟨rfl,rfl⟩:=this;obtain ⟨e,h1,h2,h3⟩:=WU hm;exact ⟨_,AO Gl tb103 [(0,lp103 n f)],_,ha,rfl,hx.1,hx.2,AW (AX hL hL) _ (AjY _ _ n f e (BW (cdV f) e) (A4 (Yi _ n f hn e h1 h2 h3 e 0 (YG n f) (n+1) (by omega) (by omega)))),Am.refl _⟩
noncomputable def Af4:A7:=(76,Zi)::(78,AiC)::(77,KG)::[]
theorem Af3:Ao Tryz.prog Gl Af4:=.cons p103 <| .cons p104 <| .cons p69 .nil
theorem Anx (L:LT) (n:Nat) (f:Nat->E6) (h19:Ct n=true) (h0:Di n f=true) (h20:Fa n=true):(A0 (Aj tab ⟨Aw Af4,L,Gl⟩ Tryz.f51 [AI n f] [])).sem=some ((.tup [.ref 0,iV 0]),[.row 76 6 n (λi=>eV (KH n f (ofNat (ZS n (λi=>Cd (f i)))) i))]):=by
 exact Ae (ks:=[kL n,kn h19,kn h0,kN kT,kL n,kn h20,kL n,kn h19]) (by kernel_rfl)
def Sk:List V->A5:=Hy λn f=>.br (Ct n) (.br (Di n f) (.leaf (.tup [.ref 0,iV 0],[.row 76 6 n λi=>eV (KH n f (ofNat (ZS n λk=>Cd (f k))) i)])) (.leaf (.tup [.ref 0,iV 30],[.row 76 6 0 λ_=>.und]))) .fail
theorem p66:Ap Tryz.prog Gl 51 Sk:=by
 refine Ah A2 mixed Tryz.func51 (by kernel_rfl) (by kernel_rfl) λvs v h' h=>?_;obtain ⟨n,f,ha,h⟩:=CM h;obtain ⟨hn,h⟩:=Ac h;have hx:=Bh Af3 [];cases hm:Di n f with
 | true =>rw [hm] at h;have:=Ab h;simp only [Prod.mk.injEq] at this;obtain ⟨rfl,rfl⟩:=this;exact ⟨_,AO Gl Af4 [],_,ha,rfl,hx.1,hx.2,Anx _ n f hn hm (G8 hn),Am.refl _⟩
 | false =>rw [hm] at h;have:=Ab h;simp only [Prod.mk.injEq] at this;obtain ⟨rfl,rfl⟩:=this;exact ⟨_,AO Gl Af4 [],_,ha,rfl,hx.1,hx.2,Ae (ks:=[kL n,kn hn,kn hm,kN kF]) (by kernel_rfl)/-W:wc66n-/,Am.refl _⟩
noncomputable def tb16:A7:=(48,Hv)::(51,Sk)::(43,On)::[]
theorem tb16_ok:Ao Tryz.prog Gl tb16:=.cons p65 <| .cons p66 <| .cons p42 <| .nil
theorem Ig {n:Nat} {h g:Nat->Int} (hg:∀ i,i<n->g i=h i) (p i:Nat) (hn:0<n):FD n g p i=FD n h p i:=hg _ (Nat.mod_lt _ hn)
theorem UX {n:Nat} {h g:Nat->Int} (hg:∀ i,i<n->g i=h i) {p:Nat} (hp:Fz n g p):Fz n h p:=by
 have hn:0<n:=by have:=hp.1; omega
 refine ⟨hp.1,λq hq hl=>hp.2 q hq ?_⟩;obtain ⟨s,h1,h2,h3⟩:=hl;exact ⟨s,h1,λt ht=>by rw [Ig hg _ _ hn,Ig hg _ _ hn]; exact h2 t ht,by rw [Ig hg _ _ hn,Ig hg _ _ hn]; exact h3⟩
theorem AhQ {n:Nat} {f l:Nat->E6} (hm:Di n f=true) (hl:∀ i,i<n->l i=f i):∀ i,i<n->C5 n l i=KH n f (ofNat (ZS n λk=>Cd (f k))) i:=λi hi=>by
 have hn:0<n:=by omega
 have h1:Fz n (λk=>Cd (f k)) (Eb n λk=>Cd (l k)):=UX (g:=λk=>Cd (l k)) (λt ht=>by show Cd (l t)=Cd (f t); rw [hl t ht]) (Xd n _ hn);have h2:=Acd (λk=>Cd (f k)) hn;have h3:=AdC h1 h2 i hi;unfold C5 KH;rw [Z7 h2.1,hl _ (Nat.mod_lt _ hn)];exact AhP (D9.1 hm _ (Nat.mod_lt _ hn)) (D9.1 hm _ (Nat.mod_lt _ hn)) h3
end Go.Proofs.YtkbafjceglhjhaaGreatDoor.Ed
namespace Go.Proofs.YtkbafjceglhjhaaGreatDoor.Sh
open Go.Sy Ed
structure Cod (α:Type) where
 size:Nat
 enc:α->V
 ok:V->Bool
 ed:V->α
 law:∀ v,ok v=true->∀ (S:Nat->Prop) (w:World) (c:Value),VR S w v noK c->VR S w (enc (ed v)) noK c
def Qt (s:Nat):V->Option (Nat×(Nat->V))
 | .sl s' n g=>match Nat.beq s' s with
  | true=>some (n,g)
  | false=>match n with
   | 0=>some (0,g)
   | _=>none
 | .slr s' n _ g=>match Nat.beq s' s with
  | true=>some (n,g)
  | false=>none
 | .nilS=>some (0,λ_=>.und)
 | _=>none
theorem Lo {s:Nat} {v:V} {n:Nat} {g:Nat->V} (hg:Qt s v=some (n,g)) {e:Nat->V} (he:∀ i,i<n->∀ (S:Nat->Prop) (w:World) (c:Value),VR S w (g i) noK c->VR S w (e i) noK c)
  {S:Nat->Prop} {w:World} {c:Value} (hv:VR S w v noK c):VR S w (.sl s n e) noK c:=by
 unfold Qt at hg;split at hg
 ·rename_i s' n' g'
  split at hg
  ·rename_i hs
   simp only [Option.some.injEq,Prod.mk.injEq] at hg;obtain ⟨rfl,rfl⟩:=hg;have hs:s'=s:=Nat.eq_of_beq_eq_true hs;subst hs;obtain ⟨a,cap,ea,hc,hb⟩:=hv;refine ⟨a,cap,ea,hc,hb.imp id ?_⟩
   rintro ⟨b,o,eb,hel⟩
   refine ⟨b,o,eb,λi hi=>?_⟩;obtain ⟨ci,h1,h2⟩:=hel i hi;exact ⟨ci,he i hi S w ci h1,h2⟩
  ·split at hg
   ·simp only [Option.some.injEq,Prod.mk.injEq] at hg
    obtain ⟨rfl,rfl⟩:=hg;obtain ⟨a,cap,ea,hc,_⟩:=hv;exact ⟨a,cap,ea,hc,.inl rfl⟩
   ·cases hg
 ·rename_i s' n' m' g'
  split at hg
  ·rename_i hs
   simp only [Option.some.injEq,Prod.mk.injEq] at hg;obtain ⟨rfl,rfl⟩:=hg;have hs:s'=s:=Nat.eq_of_beq_eq_true hs;subst hs;obtain ⟨a,cap,ea,hc,hm,hb⟩:=hv;refine ⟨a,cap,ea,Nat.le_trans hc hm,?_⟩;rcases hb with h0 | ⟨b,o,eb,hel⟩
   ·exact .inl (by omega)
   ·refine .inr ⟨b,o,eb,λi hi=>?_⟩
    obtain ⟨ci,h1,h2⟩:=hel i (by omega);exact ⟨ci,he i hi S w ci h1,h2⟩
  ·cases hg
 ·simp only [Option.some.injEq,Prod.mk.injEq] at hg
  obtain ⟨rfl,rfl⟩:=hg;have hv:c = .slice none 0 0:=hv;exact ⟨none,0,hv,Nat.le_refl _,.inl rfl⟩
 ·cases hg
def apG {α β:Type} (c:Cod α) (v:V) (F:Nat->(Nat->α)->T β):T β :=
 match Qt c.size v with
 | some (n,g)=>.br (AV n λi=>c.ok (g i)) (F n λi=>c.ed (g i)) .fail
 | none=>.fail
def Ei {α:Type} (c:Cod α) (n:Nat) (f:Nat->α):V:=.sl c.size n λi=>c.enc (f i)
theorem B0 {α β:Type} {c:Cod α} {v:V} {F:Nat->(Nat->α)->T β} {r:β} (h:(apG c v F).sem=some r) :
  ∃ n f,(∀ (S:Nat->Prop) (w:World) (u:Value),VR S w v noK u->VR S w (Ei c n f) noK u)∧(F n f).sem=some r:=by
 unfold apG at h;split at h
 ·rename_i n g hg
  obtain ⟨h1,h2⟩:=Ac h;have h1:=A8.1 h1;exact ⟨n,_,λS w u hv=>Lo hg (λi hi S w cc hc=>c.law _ (h1 i hi) S w cc hc) hv,h2⟩
 ·cases h
def codE:Cod E6:=⟨6,eV,okE,edE,λv h S w c hv=>by rw [<- OE h]; exact hv⟩
def LF:Cod Int:=⟨1,iV,okI,edI,λv h S w c hv=>by rw [<- OD h]; exact hv⟩
def toX:V->Option Ev5
 | .agg [.val (.int .i64 a),.val (.int .i64 b),.val (.int .i64 c),.val (.int .i64 d),.val (.int .i64 e)]=>some ⟨a,b,c,d,e⟩
 | _=>none
theorem Abq {v:V} {e:Ev5} (h:toX v=some e):v=evV e:=by
 unfold toX at h;split at h
 ·simp only [Option.some.injEq] at h
  subst h;rfl
 ·cases h
def okX (v:V):Bool:=match toX v with
 | some _=>true
 | none=>false
def edX (v:V):Ev5:=match toX v with
 | some e=>e
 | none=>⟨0,0,0,0,0⟩
theorem Ac0 {v:V} (h:okX v=true):v=evV (edX v):=by
 unfold okX at h;unfold edX;split at h
 ·rename_i e he
  exact Abq he
 ·cases h
def TB:Cod Ev5:=⟨5,evV,okX,edX,λv h S w c hv=>by rw [<- Ac0 h]; exact hv⟩
def okJ (v:V):Bool:=match Qt 1 v with
 | some (n,g)=>AV n λi=>okI (g i)
 | none=>false
def edJ (v:V):Nat×(Nat->Int):=match Qt 1 v with
 | some (n,g)=>(n,λi=>edI (g i))
 | none=>(0,λ_=>0)
def codJ:Cod (Nat×(Nat->Int)):=⟨1,λp=>.sl 1 p.1 λi=>iV (p.2 i),okJ,edJ,λv h S w c hv=>by
 unfold okJ at h;unfold edJ;split at h
 ·rename_i n g hg
  have h:=A8.1 h;exact Lo hg (λi hi S w cc hc=>by rw [<- OD (h i hi)]; exact hc) hv
 ·cases h⟩
structure Sh7 where
 arch:Int
 ne:Nat
 E:Nat->E6
 nx:Nat
 X:Nat->Ev5
 tt:Int
 kk:Int
 nr:Nat
 R:Nat->Int
 nc:Nat
 C:Nat->Nat×(Nat->Int)
def EC (s:Sh7):V:=.agg [iV s.arch,Ei codE s.ne s.E,Ei TB s.nx s.X,iV s.tt,iV s.kk,Ei LF s.nr s.R,Ei codJ s.nc s.C]
def apS {β:Type} (v:V) (F:Sh7->T β):T β :=
 match v with
 | .agg [.val (.int .i64 a),e,x,.val (.int .i64 t),.val (.int .i64 k),r,c]=>apG codE e λne E=>apG TB x λnx X=>apG LF r λnr R=>apG codJ c λnc C=>F ⟨a,ne,E,nx,X,t,k,nr,R,nc,C⟩
 | _=>.fail
theorem apS_some {β:Type} {v:V} {F:Sh7->T β} {r:β} (h:(apS v F).sem=some r) :
  ∃ s,(∀ (S:Nat->Prop) (w:World) (u:Value),VR S w v noK u->VR S w (EC s) noK u)∧(F s).sem=some r:=by
 unfold apS at h;split at h
 ·obtain ⟨ne,E,h1,h⟩:=B0 h
  obtain ⟨nx,X,h2,h⟩:=B0 h;obtain ⟨nr,R,h3,h⟩:=B0 h;obtain ⟨nc,C,h4,h⟩:=B0 h;refine ⟨_,λS w u hv=>?_,h⟩;obtain ⟨ca,rfl,a1,l1,rfl,q1,a2,l2,rfl,q2,a3,l3,rfl,q3,a4,l4,rfl,q4,a5,l5,rfl,q5,a6,l6,rfl,q6,a7,l7,rfl,q7,q8⟩:=hv;exact ⟨_,rfl,a1,_,rfl,q1,a2,_,rfl,h1 S w _ q2,a3,_,rfl,h2 S w _ q3,a4,_,rfl,q4,a5,_,rfl,q5,a6,_,rfl,h3 S w _ q6,a7,_,rfl,h4 S w _ q7,q8⟩
 ·cases h
theorem Mm {P:Program} {G:Nat->V} {f:FuncId} {F F':List V->A5} (h:Ap P G f F) (hF:∀ vs v h',(F' vs).sem=some (v,h')->∃ h'',(F vs).sem=some (v,h'')∧Am h'' h'):Ap P G f F':=by
 refine ⟨h.1,λvs cs S w v h' h1 h2 h3 h4=>?_⟩;obtain ⟨h'',h5,h6⟩:=hF vs v h' h4;obtain ⟨hr,hc⟩:=h.2 vs cs S w v h'' h1 h2 h3 h5;refine ⟨h6.rows hr,hc.mono ?_⟩
 rintro e w' ⟨u,κ',S',rfl,g1,g2,g3⟩
 obtain ⟨p1,p2⟩:=h6.good g1;refine ⟨u,κ',S',rfl,p1,g2,Ext.ofNil g3.os g3.tape g3.output g3.size g3.keep (λi b hb=>?_) g3.sub g3.sup (h6.rows hr)⟩;rw [p2] at hb;exact g3.own i b hb
theorem p93:Ap Tryz.prog Gl 51 Hv:=by
 refine Mm p66 λvs v h' h=>?_;unfold Hv at h;unfold Sk;unfold Hy at h ⊢;split at h
 ·rename_i u
  unfold apL at h ⊢;split at h
  ·rename_i n g hg
   obtain ⟨h1,h2⟩:=Ac h;obtain ⟨h3,h4⟩:=Ac h2;rw [h1];dsimp only;rw [h3];cases hm:Di n (λi=>edE (g i)) with
   | false =>rw [hm] at h4;exact ⟨h',h4,Am.refl _⟩
   | true =>rw [hm] at h4;have:=Ab h4;simp only [Prod.mk.injEq] at this;obtain ⟨rfl,rfl⟩:=this;refine ⟨_,rfl,Am.one λi hi=>?_⟩;rw [AhQ hm (λ_ _=>rfl) i hi]
  ·cases h
 ·cases h
abbrev shL (a:Int) (n:Nat) (g:Nat->E6) (m:Nat) (x:Nat->Ev5) (t k:Int) (p:Nat) (r:Nat->Int) (q:Nat) (ln:Nat->Nat) (co:Nat->Nat->Int):List V:=[iV a,.sl 6 n (λi=>eV (g i)),.sl 5 m (λi=>evV (x i)),iV t,iV k,.sl 1 p (λi=>iV (r i)),.sl 1 q (λu=>.sl 1 (ln u) (λi=>iV (co u i)))]
end Go.Proofs.YtkbafjceglhjhaaGreatDoor.Sh
