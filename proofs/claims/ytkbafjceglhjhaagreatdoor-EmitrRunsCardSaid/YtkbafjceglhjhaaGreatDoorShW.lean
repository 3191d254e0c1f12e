/-
  The least turned list the document's way; the law CycleTurned as a function. No conditions.
-/
import Derived.Test.YtkbafjceglhjhaaGreatDoorCyZ
import Derived.Test.YtkbafjceglhjhaaGreatDoorEdY
namespace Go.Proofs.YtkbafjceglhjhaaGreatDoor.Ed
open Go.Sy Go
open Int (ofNat)
def inN (n:Nat) (a:Int):Bool:=Ak (ile 0 a) (ilt a (ofNat n))
theorem NP {n a:Nat} (h:a<n):inN n (ofNat a)=true:=Ae h
theorem UN {n:Nat} {a:Int} (h:inN n a=true):a=ofNat (toN a)∧toN a<n:=by
 simp only [inN,Ak,ile,ilt,Bool.and_eq_true,decide_eq_true_eq,Int.ofNat_eq_natCast] at h;simp only [toN,Int.ofNat_eq_natCast];omega
def KE (n:Nat) (h:Nat->Int) (a b:Nat):Nat->Nat->Option Bool
 | 0,_=>none
 | d+1,i=>if h ((a+i) % n)=h ((b+i) % n) then KE n h a b d (i+1) else some (decide (h ((a+i) % n)<h ((b+i) % n)))
def Jq (n:Nat) (h:Nat->Int) (a b:Nat):Bool:=(KE n h a b n 0).getD false
theorem Qb {n:Nat} {h:Nat->Int} {a b:Nat}:∀ d i,n=i+d->(∀ t,t<i->FM n h a t=FM n h b t)->((KE n h a b d i).getD false=true↔Kj n h a b)
 | 0,i,hd,hi=>by
  refine ⟨λh1=>(by cases h1),λ⟨s,h1,_,h3⟩=>?_⟩;rw [hi s (by omega)] at h3;omega
 | d+1,i,hd,hi=>by
  unfold KE;by_cases he:h ((a+i) % n)=h ((b+i) % n)
  ·rw [if_pos he]
   refine Qb d (i+1) (by omega) λt ht=>?_;by_cases hti:t=i
   ·rw [hti]; exact he
   ·exact hi t (by omega)
  ·rw [if_neg he]
   refine ⟨λh1=>⟨i,by omega,hi,of_decide_eq_true h1⟩,λ⟨s,h1,h2,h3⟩=>decide_eq_true ?_⟩;rcases Nat.lt_trichotomy s i with hs | hs | hs
   ·rw [hi s hs] at h3; omega
   ·rw [hs] at h3; exact h3
   ·exact absurd (h2 i hs) he
theorem Qc {n:Nat} {h:Nat->Int} {a b:Nat}:Jq n h a b=true↔Kj n h a b:=Qb n 0 (by omega) λt ht=>absurd ht (Nat.not_lt_zero _)
def Xa (_:Nat) (_:Nat->Int) (_ _:Nat) (v:Bool):Ex×St:=(.rt,⟨jsV 40 0 Ab [(6,bV v)],[]⟩)
def OV (n:Nat) (_:Nat->Int) (_ _:Nat):Lp:=⟨bmK 40 0 [0,1,2,6,7,8],0,bmK 40 0 [6],0,n+1⟩
def Q6 (n:Nat) (h:Nat->Int) (a b:Nat) (i:Nat) (j:Nat->V):St:=⟨jsV 40 0 j [(0,.sl 1 n λk=>iV (h k)),(1,nV a),(2,nV b),(6,bV false),(7,nV n),(8,nV i)],[]⟩
def Xb (_:Nat) (_:Nat->Int) (_ _:Nat) (_:Nat):Ex×St:=(.ex 0,⟨jsV 40 0 Ab [(6,bV false)],[]⟩)
noncomputable def JQ (L:LT):St->T (Ex×St):=λst=>AK tab ⟨A2 tb0,L,Gl⟩ (A3 Tryz.f120 0) 0 st
section
variable (L:LT) (n:Nat) (h:Nat->Int) (a b:Nat) (i:Nat)  (j:Nat->V)
include L n h a b i j
theorem AkG (h0:ilt (ofNat i) (ofNat n)=false):A1 (JQ L) (OV n h a b) (Q6 n h a b i j)=some ((.ex 0),⟨jsV 40 0 Ab [(6,bV false)],[]⟩):=by
 exact Af (ks:=[kn h0]) (by kernel_rfl)
theorem AkF (h0:ilt (ofNat i) (ofNat n)=true) (h1:ieq (ofNat n) 0=false) (h20:Ak (ile 0 (Av (wr .i64 (Ai (ofNat a) (ofNat i))) (ofNat n))) (ilt (Av (wr .i64 (Ai (ofNat a) (ofNat i))) (ofNat n)) (ofNat n))=true) (h22:Ak (ile 0 (Av (wr .i64 (Ai (ofNat b) (ofNat i))) (ofNat n))) (ilt (Av (wr .i64 (Ai (ofNat b) (ofNat i))) (ofNat n)) (ofNat n))=true) (h2:ieq (h (toN (Av (wr .i64 (Ai (ofNat a) (ofNat i))) (ofNat n)))) (h (toN (Av (wr .i64 (Ai (ofNat b) (ofNat i))) (ofNat n))))=true):A1 (JQ L) (OV n h a b) (Q6 n h a b i j)=some (.nm,⟨jsV 40 0 Ab [(0,.sl 1 n (λk=>iV (h k))),(1,nV a),(2,nV b),(6,bV false),(7,nV n),(8,iV (wr .i64 (Ai (ofNat i) 1)))],[]⟩):=by
 exact Af (ks:=[kn h0,kn h1,kn h20,kn h1,kn h22,kN (kn h2)]) (by kernel_rfl)
theorem AkE (h0:ilt (ofNat i) (ofNat n)=true) (h1:ieq (ofNat n) 0=false) (h20:Ak (ile 0 (Av (wr .i64 (Ai (ofNat a) (ofNat i))) (ofNat n))) (ilt (Av (wr .i64 (Ai (ofNat a) (ofNat i))) (ofNat n)) (ofNat n))=true) (h22:Ak (ile 0 (Av (wr .i64 (Ai (ofNat b) (ofNat i))) (ofNat n))) (ilt (Av (wr .i64 (Ai (ofNat b) (ofNat i))) (ofNat n)) (ofNat n))=true) (h2:ieq (h (toN (Av (wr .i64 (Ai (ofNat a) (ofNat i))) (ofNat n)))) (h (toN (Av (wr .i64 (Ai (ofNat b) (ofNat i))) (ofNat n))))=false):A1 (JQ L) (OV n h a b) (Q6 n h a b i j)=some (.rt,⟨jsV 40 0 Ab [(6,bV (ilt (h (toN (Av (wr .i64 (Ai (ofNat a) (ofNat i))) (ofNat n)))) (h (toN (Av (wr .i64 (Ai (ofNat b) (ofNat i))) (ofNat n))))))],[]⟩):=by
 exact Af (ks:=[kn h0,kn h1,kn h20,kn h1,kn h22,kN (kn h2)]) (by kernel_rfl)
end
def AcO (n:Nat) (h:Nat->Int) (_ _:Nat) :Nat->V:=lkV AH [(11,.sl 1 n (λi=>iV (h i))),(12,nV n)]
theorem Ajb (L:LT) (p0:PT) (n:Nat) (h:Nat->Int) (a b:Nat) (i:Nat)  (hp0:p0 (JQ (onP 0 p0 (Xb n h a b i) L)) (Q6 n h a b 0 (AcO n h a b ))=true):(Ay (Aj tab ⟨A2 tb0,onP 0 p0 (Xb n h a b i) L,Gl⟩ Tryz.f120 [F6 n h,nV a,nV b] [])).sem=some ((bV false),[]):=by
 exact Af (ks:=[kn hp0]) (by kernel_rfl)
theorem Aja (L:LT) (p0:PT) (n:Nat) (h:Nat->Int) (a b:Nat) (v:Bool)  (hp0:p0 (JQ (onP 0 p0 (Xa n h a b v) L)) (Q6 n h a b 0 (AcO n h a b ))=true):(Ay (Aj tab ⟨A2 tb0,onP 0 p0 (Xa n h a b v) L,Gl⟩ Tryz.f120 [F6 n h,nV a,nV b] [])).sem=some ((bV v),[]):=by
 exact Af (ks:=[kn hp0]) (by kernel_rfl)
theorem AdZ (n a i:Nat) (ha:a<n) (hn:n <= 4611686018427387904) (hi:i<n):Av (wr .i64 (Ai (ofNat a) (ofNat i))) (ofNat n)=ofNat ((a+i) % n)∧(a+i) % n<n:=by
 rw [Gr (by omega),E0];exact ⟨rfl,Nat.mod_lt _ (by omega)⟩
theorem Yx (n a i:Nat) (ha:a<n) (hn:n <= 4611686018427387904) (hi:i<n):Ak (ile 0 (Av (wr .i64 (Ai (ofNat a) (ofNat i))) (ofNat n))) (ilt (Av (wr .i64 (Ai (ofNat a) (ofNat i))) (ofNat n)) (ofNat n))=true:=by
 obtain ⟨e1,l1⟩:=AdZ n a i ha hn hi;rw [e1];exact Ae l1
theorem AhL (n i:Nat) (hi:i<n):ieq (ofNat n) 0=false:=by rw [show (0:Int)=ofNat 0 from rfl,Eg,decide_eq_false (by omega)]
theorem Abz (L:LT) (n:Nat) (h:Nat->Int) (a b:Nat) (hn:n <= 4611686018427387904) (ha:a<n) (hb:b<n):∀ (d i:Nat) (j:Nat->V) (q:Nat),n=i+d->d<q ->
  (A4 (JQ L) (OV n h a b) q (Q6 n h a b i j)).sem=some (match KE n h a b d i with | none=>Xb n h a b 0 | some v=>Xa n h a b v)
 | 0,i,j,q+1,h1,_=>by
  have:n=i:=by omega
  subst this;exact Ah (AkG L n h a b n j (Az (Nat.le_refl _)))
 | d+1,i,j,q+1,h1,h2=>by
  have hi:i<n:=by omega
  obtain ⟨e1,l1⟩:=AdZ n a i ha hn hi;obtain ⟨e2,l2⟩:=AdZ n b i hb hn hi;unfold KE;by_cases he:h ((a+i) % n)=h ((b+i) % n)
  ·have hq:ieq (h (toN (Av (wr .i64 (Ai (ofNat a) (ofNat i))) (ofNat n)))) (h (toN (Av (wr .i64 (Ai (ofNat b) (ofNat i))) (ofNat n))))=true:=by
    rw [e1,e2];show ieq (h ((a+i) % n)) (h ((b+i) % n))=true;rw [he];exact SN _
   rw [if_pos he,Ah (AkF L n h a b i j (ofNat_lt hi) (AhL n i hi) (Yx n a i ha hn hi) (Yx n b i hb hn hi) hq),AY,A5 hi hn];exact Abz L n h a b hn ha hb d (i+1) Ab q (by omega) (by omega)
  ·have hq:ieq (h (toN (Av (wr .i64 (Ai (ofNat a) (ofNat i))) (ofNat n)))) (h (toN (Av (wr .i64 (Ai (ofNat b) (ofNat i))) (ofNat n))))=false:=by
    rw [e1,e2];show ieq (h ((a+i) % n)) (h ((b+i) % n))=false;simp [ieq,he]
   have hr:=AkE L n h a b i j (ofNat_lt hi) (AhL n i hi) (Yx n a i ha hn hi) (Yx n b i hb hn hi) hq;rw [e1,e2] at hr;rw [if_neg he];exact Ah hr
def Xv:List V->AA
 | [v,.val (.int .i64 a),.val (.int .i64 b)]=>apI v λn h=>.br (GH n) (.br (Ak (inN n a) (inN n b)) (out (bV (Jq n h (toN a) (toN b)))) .fail) .fail
 | _=>.fail
theorem Aas {a b:Bool} (h:Ak a b=true):a=true∧b=true:=by simpa [Ak] using h
theorem Aqt:As Tryz.prog Gl 120 Xv:=by
 refine Am A0 mixed Tryz.func120 (by kernel_rfl) (by kernel_rfl) λvs v h' hh=>?_;unfold Xv at hh;split at hh
 ·rename_i u a b
  obtain ⟨n,h,hv,h1⟩:=FG hh;obtain ⟨h8,h2⟩:=Ad h1;obtain ⟨hab,h3⟩:=Ad h2;have:=Aa h3;simp only [Prod.mk.injEq] at this;obtain ⟨rfl,rfl⟩:=this;obtain ⟨ha,hb⟩:=Aas hab;obtain ⟨ea,la⟩:=UN ha;obtain ⟨eb,lb⟩:=UN hb;have hA:Bw [u,iV a,iV b] [F6 n h,iV (ofNat (toN a)),iV (ofNat (toN b))]:=λS w cs q=>by
   rw [<- ea,<- eb];obtain ⟨c,l,rfl,q1,q2⟩:=q;exact ⟨c,l,rfl,hv S w c q1,q2⟩
  have hx:=Bs C5 [(0,OV n h (toN a) (toN b))];have hL:=Bq [(0,OV n h (toN a) (toN b))];have hr:=λL=>Abz L n h (toN a) (toN b) (E9 h8) la lb n 0 (AcO n h (toN a) (toN b)) (n+1) (by omega) (by omega);refine ⟨_,AT Gl tb0 [(0,OV n h (toN a) (toN b))],_,hA,rfl,hx.1,hx.2,?_,Aw.refl _⟩;unfold Jq;cases hc:KE n h (toN a) (toN b) n 0 with
  | none =>rw [hc] at hr;exact Bp (Bm hL hL) _ (Ajb _ _ n h (toN a) (toN b) 0 (AB (hr _)))
  | some v =>rw [hc] at hr;exact Bp (Bm hL hL) _ (Aja _ _ n h (toN a) (toN b) v (AB (hr _)))
 ·cases hh
noncomputable def X7:AE:=(120,Xv)::[]
theorem AaW:Ar Tryz.prog Gl X7:=.cons Aqt .nil
def Ws (n:Nat) (h:Nat->Int):Nat->Nat->Nat->Nat
 | 0,_,b=>b
 | d+1,i,b=>if Jq n h i b=true then Ws n h d (i+1) i else Ws n h d (i+1) b
def Z1 (n:Nat) (h:Nat->Int):Nat:=Ws n h (n-1) 1 0
theorem O1 {n:Nat} {h:Nat->Int}:∀ d i b,n=i+d->b<i->(∀ q,q<i->¬ Kj n h q b)->F5 n h (Ws n h d i b)
 | 0,i,b,hd,hb,hq=>⟨by show b<n; omega,λq hq'=>hq q (by omega)⟩
 | d+1,i,b,hd,hb,hq=>by
  unfold Ws;by_cases ha:Jq n h i b=true
  ·rw [if_pos ha]
   have hl:=Qc.1 ha;refine O1 d (i+1) i (by omega) (by omega) λq hq' hlt=>?_;by_cases hqi:q=i
   ·rw [hqi] at hlt; exact Gc hlt
   ·exact hq q (by omega) (Nr hlt hl)
  ·rw [if_neg ha]
   refine O1 d (i+1) b (by omega) (by omega) λq hq' hlt=>?_;by_cases hqi:q=i
   ·rw [hqi] at hlt; exact ha (Qc.2 hlt)
   ·exact hq q (by omega) hlt
theorem Ab4 {n:Nat} (h:Nat->Int) (hn:0<n):F5 n h (Z1 n h):=O1 (n-1) 1 0 (by omega) (by omega) λq hq=>by
 have:q=0:=by omega
 subst this;exact Gc
def OW (n:Nat) (_:Nat->Int):Lp:=⟨bmK 17 0 [0,2,3,4],0,bmK 17 0 [2,3],0,n+1⟩
def Ub (n:Nat) (h:Nat->Int) (b i:Nat) (j:Nat->V):St:=⟨jsV 17 0 j [(0,.sl 1 n λk=>iV (h k)),(2,iV 0),(3,nV b),(4,nV i)],[]⟩
def Xc (_:Nat) (_:Nat->Int) (b _:Nat):Ex×St:=(.ex 0,⟨jsV 17 0 Ab [(2,iV 0),(3,nV b)],[]⟩)
noncomputable def LV (L:LT):St->T (Ex×St):=λst=>AK tab ⟨A2 X7,L,Gl⟩ (A3 Tryz.f78 0) 0 st
section
variable (L:LT) (n:Nat) (h:Nat->Int) (b i:Nat)  (j:Nat->V)
include L n h b i j
theorem Ab5 (h0:ilt (ofNat i) (ofNat n)=false):A1 (LV L) (OW n h) (Ub n h b i j)=some ((.ex 0),⟨jsV 17 0 Ab [(2,iV 0),(3,nV b)],[]⟩):=by
 exact Af (ks:=[kn h0]) (by kernel_rfl)
theorem AkK (h0:ilt (ofNat i) (ofNat n)=true) (h18:GH n=true) (h19:inN n (ofNat i)=true) (h20:inN n (ofNat b)=true) (h1:Jq n h i b=true):A1 (LV L) (OW n h) (Ub n h b i j)=some (.nm,⟨jsV 17 0 Ab [(0,.sl 1 n (λk=>iV (h k))),(2,iV 0),(3,nV i),(4,iV (wr .i64 (Ai (ofNat i) 1)))],[]⟩):=by
 exact Af (ks:=[kn h0,kL n,kn h18,kA (kn h19) (kn h20),kn h1]) (by kernel_rfl)
theorem AkL (h0:ilt (ofNat i) (ofNat n)=true) (h18:GH n=true) (h19:inN n (ofNat i)=true) (h20:inN n (ofNat b)=true) (h1:Jq n h i b=false):A1 (LV L) (OW n h) (Ub n h b i j)=some (.nm,⟨jsV 17 0 Ab [(0,.sl 1 n (λk=>iV (h k))),(2,iV 0),(3,nV b),(4,iV (wr .i64 (Ai (ofNat i) 1)))],[]⟩):=by
 exact Af (ks:=[kn h0,kL n,kn h18,kA (kn h19) (kn h20),kn h1]) (by kernel_rfl)
end
def AcP (_:Nat) (_:Nat->Int) :Nat->V:=lkV AH []
theorem Ahv (L:LT) (p0:PT) (n:Nat) (h:Nat->Int) (b i:Nat)  (hp0:p0 (LV (onP 0 p0 (Xc n h b i) L)) (Ub n h 0 1 (AcP n h ))=true):(Ay (Aj tab ⟨A2 X7,onP 0 p0 (Xc n h b i) L,Gl⟩ Tryz.f78 [F6 n h] [])).sem=some ((nV b),[]):=by
 exact Af (ks:=[kn hp0]) (by kernel_rfl)
theorem Wn (L:LT) (n:Nat) (h:Nat->Int) (h8:GH n=true):∀ (d i b:Nat) (j:Nat->V) (q:Nat),n=i+d->b<i->d<q ->
  (A4 (LV L) (OW n h) q (Ub n h b i j)).sem=some (Xc n h (Ws n h d i b) n)
 | 0,i,b,j,q+1,h1,_,_=>by
  have:n=i:=by omega
  subst this;exact Ah (Ab5 L n h b n j (Az (Nat.le_refl _)))
 | d+1,i,b,j,q+1,h1,hb,h2=>by
  have hi:i<n:=by omega
  unfold Ws;cases ha:Jq n h i b with
  | true =>rw [if_pos rfl,Ah (AkK L n h b i j (ofNat_lt hi) h8 (NP hi) (NP (by omega)) ha),AY,A5 hi (E9 h8)];exact Wn L n h h8 d (i+1) i Ab q (by omega) (by omega) (by omega)
  | false =>rw [if_neg (by decide),Ah (AkL L n h b i j (ofNat_lt hi) h8 (NP hi) (NP (by omega)) ha),AY,A5 hi (E9 h8)];exact Wn L n h h8 d (i+1) b Ab q (by omega) (by omega) (by omega)
def AhB:List V->AA:=AgV λn h=>.br (GH n) (out (iV (ofNat (Z1 n h)))) .fail
theorem p104:As Tryz.prog Gl 78 AhB:=by
 refine Am A0 mixed Tryz.func78 (by kernel_rfl) (by kernel_rfl) λvs v h' hh=>?_;obtain ⟨n,h,hA,h1⟩:=R9 hh;obtain ⟨h8,h3⟩:=Ad h1;have:=Aa h3;simp only [Prod.mk.injEq] at this;obtain ⟨rfl,rfl⟩:=this;have hx:=Bs AaW [(0,OW n h)];have hL:=Bq [(0,OW n h)];refine ⟨_,AT Gl X7 [(0,OW n h)],_,hA,rfl,hx.1,hx.2,?_,Aw.refl _⟩;unfold Z1;rcases Nat.eq_zero_or_pos n with rfl | hn
 ·exact Bp (Bm hL hL) _ (Ahv _ _ 0 h 0 0 (AB (Ah (Ab5 _ 0 h 0 1 (AcP 0 h) (Az (by omega))))))
 ·exact Bp (Bm hL hL) _ (Ahv _ _ n h _ n (AB (Wn _ n h h8 (n-1) 1 0 (AcP n h) (n+1) (by omega) (by omega) (by omega))))
noncomputable def tb106:AE:=[]
theorem tb106_ok:Ar Tryz.prog Gl tb106:=.nil
noncomputable def Qy:AE:=(119,Cc Vu)::[]
theorem AaX:Ar Tryz.prog Gl Qy:=.cons p25 .nil
def Tj (_:Nat) (_:Nat->E6) (k:Nat) (x:Nat->V):Ex×St:=(.rt,⟨jsV 31 0 Ab [(2,.ref 2),(3,bV false),(4,.ref 1)],[.row 3 1 0 λ_=>.und,.row 3 1 k x,.row 3 1 0 λ_=>.und]⟩)
def Ki (n:Nat) (_:Nat->E6):Lp:=⟨bmK 31 0 [0,2,3,4,5],2,bmK 31 0 [2,3,4],3,n+1⟩
def Nb (n:Nat) (f:Nat->E6) (i k:Nat) (x:Nat->V) (j:Nat->V):St:=⟨jsV 31 0 j [(0,.sl 6 n λi=>eV (f i)),(2,.ref 0),(3,bV false),(4,.ref 1),(5,nV i)],[.row 3 1 0 λ_=>.und,.row 3 1 k x]⟩
def Xd (_:Nat) (_:Nat->E6) (_ k:Nat) (x:Nat->V):Ex×St:=(.ex 0,⟨jsV 31 0 Ab [(2,.ref 0),(3,bV false),(4,.ref 1)],[.row 3 1 0 λ_=>.und,.row 3 1 k x]⟩)
noncomputable def Hb (L:LT):St->T (Ex×St):=λst=>AK tab ⟨A2 Qy,L,Gl⟩ (A3 Tryz.f76 0) 0 st
section
variable (L:LT) (n:Nat) (f:Nat->E6) (i k:Nat) (x:Nat->V)  (j:Nat->V)
include L n f i k x j
theorem AkM (h0:ilt (ofNat i) (ofNat n)=false):A1 (Hb L) (Ki n f) (Nb n f i k x j)=some ((.ex 0),⟨jsV 31 0 Ab [(2,.ref 0),(3,bV false),(4,.ref 1)],[.row 3 1 0 Ab,.row 3 1 k x]⟩):=by
 exact Af (ks:=[kn h0]) (by kernel_rfl)
theorem Ab6 (h0:ilt (ofNat i) (ofNat n)=true) (h20:ile 0 (ofNat i)=true) (h1:ieq (Bl (f i)) 0=true) (h21:C4 k 1 8=true):A1 (Hb L) (Ki n f) (Nb n f i k x j)=some (.nm,⟨jsV 31 0 Ab [(0,.sl 6 n (λi=>eV (f i))),(2,.ref 0),(3,bV false),(4,.ref 1),(5,iV (wr .i64 (Ai (ofNat i) 1)))],[.row 3 1 0 Ab,.row 3 1 (BC k 1) (AX k x (iV (BZ (f i))))]⟩):=by
 exact Af (ks:=[kn h0,kA (kn h20) (kn h0),kN (kn h1),kn h21]) (by kernel_rfl)
theorem Ab7 (h0:ilt (ofNat i) (ofNat n)=true) (h20:ile 0 (ofNat i)=true) (h1:ieq (Bl (f i)) 0=false):A1 (Hb L) (Ki n f) (Nb n f i k x j)=some (.rt,⟨jsV 31 0 Ab [(2,.ref 2),(3,bV false),(4,.ref 1)],[.row 3 1 0 Ab,.row 3 1 k x,.row 3 1 0 Ab]⟩):=by
 exact Af (ks:=[kn h0,kA (kn h20) (kn h0),kN (kn h1)]) (by kernel_rfl)
end
def Yq (_:Nat) (_:Nat->E6) :Nat->V:=lkV AH []
theorem Ajh (L:LT) (p0:PT) (n:Nat) (f:Nat->E6) (i k:Nat) (x:Nat->V)  (hp0:p0 (Hb (onP 0 p0 (Xd n f i k x) L)) (Nb n f 0 0 Ab (Yq n f ))=true):(Ay (Aj tab ⟨A2 Qy,onP 0 p0 (Xd n f i k x) L,Gl⟩ Tryz.f76 [AN n f] [])).sem=some ((.tup [.ref 0,bV true]),[.row 3 1 k x]):=by
 exact Af (ks:=[kn hp0]) (by kernel_rfl)
theorem Ajg (L:LT) (p0:PT) (n:Nat) (f:Nat->E6) (k:Nat) (x:Nat->V)  (hp0:p0 (Hb (onP 0 p0 (Tj n f k x) L)) (Nb n f 0 0 Ab (Yq n f ))=true):(Ay (Aj tab ⟨A2 Qy,onP 0 p0 (Tj n f k x) L,Gl⟩ Tryz.f76 [AN n f] [])).sem=some ((.tup [.ref 0,bV false]),[.row 3 1 0 Ab]):=by
 exact Af (ks:=[kn hp0]) (by kernel_rfl)
theorem XF (L:LT) (n:Nat) (f:Nat->E6) (hn:Dg n=true) (e:Nat) (he:e<n) (hb:Bl (f e)=30) (ho:∀ t,t<e->Bl (f t)=0):∀ (d i:Nat) (j:Nat->V) (q:Nat),e=i+d->d<q ->
  (A4 (Hb L) (Ki n f) q (Nb n f i i (Ck (cdV f) i) j)).sem=some (Tj n f e (Ck (cdV f) e))
 | 0,i,j,q+1,h1,_=>by
  have:e=i:=by omega
  subst this;exact Ah (Ab7 L n f e e (Ck (cdV f) e) j (ofNat_lt he) (Yy e) (by rw [hb]; rfl))
 | d+1,i,j,q+1,h1,h2=>by
  have hi:i<n:=by omega
  have hr:=Ab6 L n f i i (Ck (cdV f) i) j (ofNat_lt hi) (Yy i) (by rw [ho i (by omega)]; rfl) (T8 hi (by decide) (of_decide_eq_true hn));rw [Ah hr,AY,A5 hi (JG hn)];exact XF L n f hn e he hb ho d (i+1) Ab q (by omega) (by omega)
theorem Ab0 (L:LT) (n:Nat) (f:Nat->E6) (hn:Dg n=true):∀ (d i:Nat) (j:Nat->V) (q:Nat),n=i+d->d<q->(∀ t,t<i->Bl (f t)=0) ->
  (EM n f=true∧(A4 (Hb L) (Ki n f) q (Nb n f i i (Ck (cdV f) i) j)).sem=some (Xd n f n n (Ck (cdV f) n))) ∨ (EM n f=false∧∃ e,(A4 (Hb L) (Ki n f) q (Nb n f i i (Ck (cdV f) i) j)).sem=some (Tj n f e (Ck (cdV f) e)))
 | 0,i,j,q+1,h1,_,ho=>by
  have:n=i:=by omega
  subst this;exact .inl ⟨F2.2 ho,Ah (AkM L n f n n _ j (Az (Nat.le_refl _)))⟩
 | d+1,i,j,q+1,h1,h2,ho=>by
  have hi:i<n:=by omega
  by_cases hc:Bl (f i)=0
  ·have hr:=Ab6 L n f i i (Ck (cdV f) i) j (ofNat_lt hi) (Yy i) (by rw [hc]; rfl) (T8 hi (by decide) (of_decide_eq_true hn))
   have ih:=Ab0 L n f hn d (i+1) Ab q (by omega) (by omega) λt ht=>by
    by_cases hti:t=i
    ·rw [hti]; exact hc
    ·exact ho t (by omega)
   rw [Ah hr,AY,A5 hi (JG hn)];exact ih
  ·refine .inr ⟨?_,i,Ah (Ab7 L n f i i (Ck (cdV f) i) j (ofNat_lt hi) (Yy i) (by simp [ieq,hc]))⟩
   cases hm:EM n f with
   | false=>rfl
   | true=>exact absurd (F2.1 hm i hi) hc
def YJ:List V->AA:=HL λn f=>.br (Dg n) (.br (EM n f) (.leaf (.tup [.ref 0,bV true],[.row 3 1 n λi=>iV (BZ (f i))])) (.leaf (.tup [.ref 0,bV false],[.row 3 1 0 λ_=>.und]))) .fail
theorem p103:As Tryz.prog Gl 76 YJ:=by
 refine Am A0 mixed Tryz.func76 (by kernel_rfl) (by kernel_rfl) λvs v h' h=>?_;obtain ⟨n,f,ha,h⟩:=DC h;obtain ⟨hn,h⟩:=Ad h;have hx:=Bs AaX [(0,Ki n f)];have hL:=Bq [(0,Ki n f)];have hr:=λL=>Ab0 L n f hn n 0 (Yq n f) (n+1) (by omega) (by omega) λt ht=>absurd ht (Nat.not_lt_zero _);cases hm:EM n f with
 | true =>rw [hm] at h;have:=Aa h;simp only [Prod.mk.injEq] at this;obtain ⟨rfl,rfl⟩:=this;exact ⟨_,AT Gl Qy [(0,Ki n f)],_,ha,rfl,hx.1,hx.2,Bp (Bm hL hL) _ (Ajh _ _ n f n n _ (AB ((hr _).elim (λq=>q.2) λq=>by rw [hm] at q; cases q.1))),Aw.one λj hj=>(IS (cdV f) n j hj).symm⟩
 | false =>rw [hm] at h;have:=Aa h;simp only [Prod.mk.injEq] at this;obtain ⟨rfl,rfl⟩:=this;obtain ⟨e,h1,h2,h3⟩:=Aca hm;exact ⟨_,AT Gl Qy [(0,Ki n f)],_,ha,rfl,hx.1,hx.2,Bp (Bm hL hL) _ (Ajg _ _ n f e (Ck (cdV f) e) (AB (XF _ n f hn e h1 h2 h3 e 0 (Yq n f) (n+1) (by omega) (by omega)))),Aw.refl _⟩
noncomputable def AeB:AE:=(76,YJ)::(78,AhB)::(77,NC)::[]
theorem AeA:Ar Tryz.prog Gl AeB:=.cons p103 <| .cons p104 <| .cons p69 .nil
theorem Am0 (L:LT) (n:Nat) (f:Nat->E6) (h19:Dg n=true) (h0:EM n f=true) (h20:GH n=true):(Ay (Aj tab ⟨A2 AeB,L,Gl⟩ Tryz.f51 [AN n f] [])).sem=some ((.tup [.ref 0,iV 0]),[.row 76 6 n (λi=>eV (KP n f (ofNat (Z1 n (λi=>BZ (f i)))) i))]):=by
 exact Af (ks:=[kL n,kn h19,kn h0,kN kT,kL n,kn h20,kL n,kn h19]) (by kernel_rfl)
def Sg:List V->AA:=HL λn f=>.br (Dg n) (.br (EM n f) (.leaf (.tup [.ref 0,iV 0],[.row 76 6 n λi=>eV (KP n f (ofNat (Z1 n λk=>BZ (f k))) i)])) (.leaf (.tup [.ref 0,iV 30],[.row 76 6 0 λ_=>.und]))) .fail
theorem p66:As Tryz.prog Gl 51 Sg:=by
 refine Am A0 mixed Tryz.func51 (by kernel_rfl) (by kernel_rfl) λvs v h' h=>?_;obtain ⟨n,f,ha,h⟩:=DC h;obtain ⟨hn,h⟩:=Ad h;have hx:=Bs AeA [];cases hm:EM n f with
 | true =>rw [hm] at h;have:=Aa h;simp only [Prod.mk.injEq] at this;obtain ⟨rfl,rfl⟩:=this;exact ⟨_,AT Gl AeB [],_,ha,rfl,hx.1,hx.2,Am0 _ n f hn hm (Ht hn),Aw.refl _⟩
 | false =>rw [hm] at h;have:=Aa h;simp only [Prod.mk.injEq] at this;obtain ⟨rfl,rfl⟩:=this;exact ⟨_,AT Gl AeB [],_,ha,rfl,hx.1,hx.2,Af (ks:=[kL n,kn hn,kn hm,kN kF]) (by kernel_rfl)/-W:wc66n-/,Aw.refl _⟩
noncomputable def tb16:AE:=(48,KB)::(51,Sg)::(43,Uj)::[]
theorem tb16_ok:Ar Tryz.prog Gl tb16:=.cons p65 <| .cons p66 <| .cons p42 <| .nil
theorem HZ {n:Nat} {h g:Nat->Int} (hg:∀ i,i<n->g i=h i) (p i:Nat) (hn:0<n):FM n g p i=FM n h p i:=hg _ (Nat.mod_lt _ hn)
theorem UL {n:Nat} {h g:Nat->Int} (hg:∀ i,i<n->g i=h i) {p:Nat} (hp:F5 n g p):F5 n h p:=by
 have hn:0<n:=by have:=hp.1; omega
 refine ⟨hp.1,λq hq hl=>hp.2 q hq ?_⟩;obtain ⟨s,h1,h2,h3⟩:=hl;exact ⟨s,h1,λt ht=>by rw [HZ hg _ _ hn,HZ hg _ _ hn]; exact h2 t ht,by rw [HZ hg _ _ hn,HZ hg _ _ hn]; exact h3⟩
theorem AgQ {n:Nat} {f l:Nat->E6} (hm:EM n f=true) (hl:∀ i,i<n->l i=f i):∀ i,i<n->Dc n l i=KP n f (ofNat (Z1 n λk=>BZ (f k))) i:=λi hi=>by
 have hn:0<n:=by omega
 have h1:F5 n (λk=>BZ (f k)) (El n λk=>BZ (l k)):=UL (g:=λk=>BZ (l k)) (λt ht=>by show BZ (l t)=BZ (f t); rw [hl t ht]) (WC n _ hn);have h2:=Ab4 (λk=>BZ (f k)) hn;have h3:=AcV h1 h2 i hi;unfold Dc KP;rw [Zi h2.1,hl _ (Nat.mod_lt _ hn)];exact AgP (F2.1 hm _ (Nat.mod_lt _ hn)) (F2.1 hm _ (Nat.mod_lt _ hn)) h3
end Go.Proofs.YtkbafjceglhjhaaGreatDoor.Ed
namespace Go.Proofs.YtkbafjceglhjhaaGreatDoor.Sh
open Go.Sy Ed
structure Cod (α:Type) where
 size:Nat
 enc:α->V
 ok:V->Bool
 ed:V->α
 law:∀ v,ok v=true->∀ (S:Nat->Prop) (w:World) (c:Value),VR S w v noK c->VR S w (enc (ed v)) noK c
def WM (s:Nat):V->Option (Nat×(Nat->V))
 | .sl s' n g=>match Nat.beq s' s with
  | true=>some (n,g)
  | false=>match n with
   | 0=>some (0,g)
   | _=>none
 | .slr s' n _ g=>match Nat.beq s' s with
  | true=>some (n,g)
  | false=>none
 | .nilS=>some (0,λ_=>.und)
 | _=>none
theorem UW {s:Nat} {v:V} {n:Nat} {g:Nat->V} (hg:WM s v=some (n,g)) {e:Nat->V} (he:∀ i,i<n->∀ (S:Nat->Prop) (w:World) (c:Value),VR S w (g i) noK c->VR S w (e i) noK c)
  {S:Nat->Prop} {w:World} {c:Value} (hv:VR S w v noK c):VR S w (.sl s n e) noK c:=by
 unfold WM at hg;split at hg
 ·rename_i s' n' g'
  split at hg
  ·rename_i hs
   simp only [Option.some.injEq,Prod.mk.injEq] at hg;obtain ⟨rfl,rfl⟩:=hg;have hs:s'=s:=Nat.eq_of_beq_eq_true hs;subst hs;obtain ⟨a,cap,ea,hc,hb⟩:=hv;refine ⟨a,cap,ea,hc,hb.imp id ?_⟩
   rintro ⟨b,o,eb,hel⟩
   refine ⟨b,o,eb,λi hi=>?_⟩;obtain ⟨ci,h1,h2⟩:=hel i hi;exact ⟨ci,he i hi S w ci h1,h2⟩
  ·split at hg
   ·simp only [Option.some.injEq,Prod.mk.injEq] at hg
    obtain ⟨rfl,rfl⟩:=hg;obtain ⟨a,cap,ea,hc,_⟩:=hv;exact ⟨a,cap,ea,hc,.inl rfl⟩
   ·cases hg
 ·rename_i s' n' m' g'
  split at hg
  ·rename_i hs
   simp only [Option.some.injEq,Prod.mk.injEq] at hg;obtain ⟨rfl,rfl⟩:=hg;have hs:s'=s:=Nat.eq_of_beq_eq_true hs;subst hs;obtain ⟨a,cap,ea,hc,hm,hb⟩:=hv;refine ⟨a,cap,ea,Nat.le_trans hc hm,?_⟩;rcases hb with h0 | ⟨b,o,eb,hel⟩
   ·exact .inl (by omega)
   ·refine .inr ⟨b,o,eb,λi hi=>?_⟩
    obtain ⟨ci,h1,h2⟩:=hel i (by omega);exact ⟨ci,he i hi S w ci h1,h2⟩
  ·cases hg
 ·simp only [Option.some.injEq,Prod.mk.injEq] at hg
  obtain ⟨rfl,rfl⟩:=hg;have hv:c = .slice none 0 0:=hv;exact ⟨none,0,hv,Nat.le_refl _,.inl rfl⟩
 ·cases hg
def apG {α β:Type} (c:Cod α) (v:V) (F:Nat->(Nat->α)->T β):T β :=
 match WM c.size v with
 | some (n,g)=>.br (Bo n λi=>c.ok (g i)) (F n λi=>c.ed (g i)) .fail
 | none=>.fail
def IW {α:Type} (c:Cod α) (n:Nat) (f:Nat->α):V:=.sl c.size n λi=>c.enc (f i)
theorem Bv {α β:Type} {c:Cod α} {v:V} {F:Nat->(Nat->α)->T β} {r:β} (h:(apG c v F).sem=some r) :
  ∃ n f,(∀ (S:Nat->Prop) (w:World) (u:Value),VR S w v noK u->VR S w (IW c n f) noK u)∧(F n f).sem=some r:=by
 unfold apG at h;split at h
 ·rename_i n g hg
  obtain ⟨h1,h2⟩:=Ad h;have h1:=AO.1 h1;exact ⟨n,_,λS w u hv=>UW hg (λi hi S w cc hc=>c.law _ (h1 i hi) S w cc hc) hv,h2⟩
 ·cases h
def codE:Cod E6:=⟨6,eV,okE,edE,λv h S w c hv=>by rw [<- OH h]; exact hv⟩
def Tp:Cod Int:=⟨1,iV,okI,edI,λv h S w c hv=>by rw [<- OG h]; exact hv⟩
def toX:V->Option Ev5
 | .agg [.val (.int .i64 a),.val (.int .i64 b),.val (.int .i64 c),.val (.int .i64 d),.val (.int .i64 e)]=>some ⟨a,b,c,d,e⟩
 | _=>none
theorem AaH {v:V} {e:Ev5} (h:toX v=some e):v=evV e:=by
 unfold toX at h;split at h
 ·simp only [Option.some.injEq] at h
  subst h;rfl
 ·cases h
def okX (v:V):Bool:=match toX v with
 | some _=>true
 | none=>false
def edX (v:V):Ev5:=match toX v with
 | some e=>e
 | none=>⟨0,0,0,0,0⟩
theorem AbP {v:V} (h:okX v=true):v=evV (edX v):=by
 unfold okX at h;unfold edX;split at h
 ·rename_i e he
  exact AaH he
 ·cases h
def To:Cod Ev5:=⟨5,evV,okX,edX,λv h S w c hv=>by rw [<- AbP h]; exact hv⟩
def okJ (v:V):Bool:=match WM 1 v with
 | some (n,g)=>Bo n λi=>okI (g i)
 | none=>false
def edJ (v:V):Nat×(Nat->Int):=match WM 1 v with
 | some (n,g)=>(n,λi=>edI (g i))
 | none=>(0,λ_=>0)
def codJ:Cod (Nat×(Nat->Int)):=⟨1,λp=>.sl 1 p.1 λi=>iV (p.2 i),okJ,edJ,λv h S w c hv=>by
 unfold okJ at h;unfold edJ;split at h
 ·rename_i n g hg
  have h:=AO.1 h;exact UW hg (λi hi S w cc hc=>by rw [<- OG (h i hi)]; exact hc) hv
 ·cases h⟩
structure Sh7 where
 arch:Int
 ne:Nat
 E:Nat->E6
 nx:Nat
 X:Nat->Ev5
 tt:Int
 kk:Int
 nr:Nat
 R:Nat->Int
 nc:Nat
 C:Nat->Nat×(Nat->Int)
def E2 (s:Sh7):V:=.agg [iV s.arch,IW codE s.ne s.E,IW To s.nx s.X,iV s.tt,iV s.kk,IW Tp s.nr s.R,IW codJ s.nc s.C]
def apS {β:Type} (v:V) (F:Sh7->T β):T β :=
 match v with
 | .agg [.val (.int .i64 a),e,x,.val (.int .i64 t),.val (.int .i64 k),r,c]=>apG codE e λne E=>apG To x λnx X=>apG Tp r λnr R=>apG codJ c λnc C=>F ⟨a,ne,E,nx,X,t,k,nr,R,nc,C⟩
 | _=>.fail
theorem apS_some {β:Type} {v:V} {F:Sh7->T β} {r:β} (h:(apS v F).sem=some r) :
  ∃ s,(∀ (S:Nat->Prop) (w:World) (u:Value),VR S w v noK u->VR S w (E2 s) noK u)∧(F s).sem=some r:=by
 unfold apS at h;split at h
 ·obtain ⟨ne,E,h1,h⟩:=Bv h
  obtain ⟨nx,X,h2,h⟩:=Bv h;obtain ⟨nr,R,h3,h⟩:=Bv h;obtain ⟨nc,C,h4,h⟩:=Bv h;refine ⟨_,λS w u hv=>?_,h⟩;obtain ⟨ca,rfl,a1,l1,rfl,q1,a2,l2,rfl,q2,a3,l3,rfl,q3,a4,l4,rfl,q4,a5,l5,rfl,q5,a6,l6,rfl,q6,a7,l7,rfl,q7,q8⟩:=hv;exact ⟨_,rfl,a1,_,rfl,q1,a2,_,rfl,h1 S w _ q2,a3,_,rfl,h2 S w _ q3,a4,_,rfl,q4,a5,_,rfl,q5,a6,_,rfl,h3 S w _ q6,a7,_,rfl,h4 S w _ q7,q8⟩
 ·cases h
theorem Z4 {P:Program} {G:Nat->V} {f:FuncId} {F F':List V->AA} (h:As P G f F) (hF:∀ vs v h',(F' vs).sem=some (v,h')->∃ h'',(F vs).sem=some (v,h'')∧Aw h'' h'):As P G f F':=by
 refine ⟨h.1,λvs cs S w v h' h1 h2 h3 h4=>?_⟩;obtain ⟨h'',h5,h6⟩:=hF vs v h' h4;obtain ⟨hr,hc⟩:=h.2 vs cs S w v h'' h1 h2 h3 h5;refine ⟨h6.rows hr,hc.mono ?_⟩
 rintro e w' ⟨u,κ',S',rfl,g1,g2,g3⟩
 obtain ⟨p1,p2⟩:=h6.good g1;refine ⟨u,κ',S',rfl,p1,g2,Ext.ofNil g3.os g3.tape g3.output g3.size g3.keep (λi b hb=>?_) g3.sub g3.sup (h6.rows hr)⟩;rw [p2] at hb;exact g3.own i b hb
theorem p93:As Tryz.prog Gl 51 KB:=by
 refine Z4 p66 λvs v h' h=>?_;unfold KB at h;unfold Sg;unfold HL at h ⊢;split at h
 ·rename_i u
  unfold apL at h ⊢;split at h
  ·rename_i n g hg
   obtain ⟨h1,h2⟩:=Ad h;obtain ⟨h3,h4⟩:=Ad h2;rw [h1];dsimp only;rw [h3];cases hm:EM n (λi=>edE (g i)) with
   | false =>rw [hm] at h4;exact ⟨h',h4,Aw.refl _⟩
   | true =>rw [hm] at h4;have:=Aa h4;simp only [Prod.mk.injEq] at this;obtain ⟨rfl,rfl⟩:=this;refine ⟨_,rfl,Aw.one λi hi=>?_⟩;rw [AgQ hm (λ_ _=>rfl) i hi]
  ·cases h
 ·cases h
abbrev shL (a:Int) (n:Nat) (g:Nat->E6) (m:Nat) (x:Nat->Ev5) (t k:Int) (p:Nat) (r:Nat->Int) (q:Nat) (ln:Nat->Nat) (co:Nat->Nat->Int):List V:=[iV a,.sl 6 n (λi=>eV (g i)),.sl 5 m (λi=>evV (x i)),iV t,iV k,.sl 1 p (λi=>iV (r i)),.sl 1 q (λu=>.sl 1 (ln u) (λi=>iV (co u i)))]
end Go.Proofs.YtkbafjceglhjhaaGreatDoor.Sh
