/-
  The least turned list the document's way; the law CycleTurned as a function. No conditions.
-/
import Derived.Test.YtkbafjceglhjhaaGreatDoorCyZ
import Derived.Test.YtkbafjceglhjhaaGreatDoorEdY
namespace Go.Proofs.YtkbafjceglhjhaaGreatDoor.Ed
open Go.Sy Go
open Int (ofNat)
def inN (n:Nat) (a:Int):Bool:=Aj (ile 0 a) (ilt a (ofNat n))
theorem LN {n a:Nat} (h:a<n):inN n (ofNat a)=true:=Ae h
theorem RA {n:Nat} {a:Int} (h:inN n a=true):a=ofNat (toN a)∧toN a<n:=by
 simp only [inN,Aj,ile,ilt,Bool.and_eq_true,decide_eq_true_eq,Int.ofNat_eq_natCast] at h;simp only [toN,Int.ofNat_eq_natCast];omega
def Jc (n:Nat) (h:Nat->Int) (a b:Nat):Nat->Nat->Option Bool
 | 0,_=>none
 | d+1,i=>if h ((a+i) % n)=h ((b+i) % n) then Jc n h a b d (i+1) else some (decide (h ((a+i) % n)<h ((b+i) % n)))
def HQ (n:Nat) (h:Nat->Int) (a b:Nat):Bool:=(Jc n h a b n 0).getD false
theorem NA {n:Nat} {h:Nat->Int} {a b:Nat}:∀ d i,n=i+d->(∀ t,t<i->EN n h a t=EN n h b t)->((Jc n h a b d i).getD false=true↔IB n h a b)
 | 0,i,hd,hi=>by
  refine ⟨λh1=>(by cases h1),λ⟨s,h1,_,h3⟩=>?_⟩;rw [hi s (by omega)] at h3;omega
 | d+1,i,hd,hi=>by
  unfold Jc;by_cases he:h ((a+i) % n)=h ((b+i) % n)
  ·rw [if_pos he]
   refine NA d (i+1) (by omega) λt ht=>?_;by_cases hti:t=i
   ·rw [hti]; exact he
   ·exact hi t (by omega)
  ·rw [if_neg he]
   refine ⟨λh1=>⟨i,by omega,hi,of_decide_eq_true h1⟩,λ⟨s,h1,h2,h3⟩=>decide_eq_true ?_⟩;rcases Nat.lt_trichotomy s i with hs | hs | hs
   ·rw [hi s hs] at h3; omega
   ·rw [hs] at h3; exact h3
   ·exact absurd (h2 i hs) he
theorem NB {n:Nat} {h:Nat->Int} {a b:Nat}:HQ n h a b=true↔IB n h a b:=NA n 0 (by omega) λt ht=>absurd ht (Nat.not_lt_zero _)
def Ud (n:Nat) (h:Nat->Int) (a b:Nat) (v:Bool):Ex×St:=(.rt,⟨jsV 40 0 Ac [(6,bV v)],[]⟩)
def MI (n:Nat) (h:Nat->Int) (a b:Nat):Lp:=⟨bmK 40 0 [0,1,2,6,7,8],0,bmK 40 0 [6],0,n+1⟩
def Of (n:Nat) (h:Nat->Int) (a b:Nat) (i:Nat) (j:Nat->V):St:=⟨jsV 40 0 j [(0,.sl 1 n λk=>iV (h k)),(1,nV a),(2,nV b),(6,bV false),(7,nV n),(8,nV i)],[]⟩
def Ue (n:Nat) (h:Nat->Int) (a b:Nat) (i:Nat):Ex×St:=(.ex 0,⟨jsV 40 0 Ac [(6,bV false)],[]⟩)
noncomputable def Ix (L:LT):St->T (Ex×St):=λst=>AI tab ⟨Az tb0,L,Gl⟩ (A0 Tryz.f120 0) 0 st
section
variable (L:LT) (n:Nat) (h:Nat->Int) (a b:Nat) (i:Nat)  (j:Nat->V)
include L n h a b i j
theorem AeE (h0:ilt (ofNat i) (ofNat n)=false):Au (Ix L) (MI n h a b) (Of n h a b i j)=some ((.ex 0),⟨jsV 40 0 Ac [(6,bV false)],[]⟩):=by
 exact Ad (ks:=[kn h0]) (by kernel_rfl)
theorem AeD (h0:ilt (ofNat i) (ofNat n)=true) (h1:ieq (ofNat n) 0=false) (h20:Aj (ile 0 (Al (wr .i64 (Ah (ofNat a) (ofNat i))) (ofNat n))) (ilt (Al (wr .i64 (Ah (ofNat a) (ofNat i))) (ofNat n)) (ofNat n))=true) (h22:Aj (ile 0 (Al (wr .i64 (Ah (ofNat b) (ofNat i))) (ofNat n))) (ilt (Al (wr .i64 (Ah (ofNat b) (ofNat i))) (ofNat n)) (ofNat n))=true) (h2:ieq (h (toN (Al (wr .i64 (Ah (ofNat a) (ofNat i))) (ofNat n)))) (h (toN (Al (wr .i64 (Ah (ofNat b) (ofNat i))) (ofNat n))))=true):Au (Ix L) (MI n h a b) (Of n h a b i j)=some (.nm,⟨jsV 40 0 Ac [(0,.sl 1 n (λk=>iV (h k))),(1,nV a),(2,nV b),(6,bV false),(7,nV n),(8,iV (wr .i64 (Ah (ofNat i) 1)))],[]⟩):=by
 exact Ad (ks:=[kn h0,kn h1,kn h20,kn h1,kn h22,kN (kn h2)]) (by kernel_rfl)
theorem AeC (h0:ilt (ofNat i) (ofNat n)=true) (h1:ieq (ofNat n) 0=false) (h20:Aj (ile 0 (Al (wr .i64 (Ah (ofNat a) (ofNat i))) (ofNat n))) (ilt (Al (wr .i64 (Ah (ofNat a) (ofNat i))) (ofNat n)) (ofNat n))=true) (h22:Aj (ile 0 (Al (wr .i64 (Ah (ofNat b) (ofNat i))) (ofNat n))) (ilt (Al (wr .i64 (Ah (ofNat b) (ofNat i))) (ofNat n)) (ofNat n))=true) (h2:ieq (h (toN (Al (wr .i64 (Ah (ofNat a) (ofNat i))) (ofNat n)))) (h (toN (Al (wr .i64 (Ah (ofNat b) (ofNat i))) (ofNat n))))=false):Au (Ix L) (MI n h a b) (Of n h a b i j)=some (.rt,⟨jsV 40 0 Ac [(6,bV (ilt (h (toN (Al (wr .i64 (Ah (ofNat a) (ofNat i))) (ofNat n)))) (h (toN (Al (wr .i64 (Ah (ofNat b) (ofNat i))) (ofNat n))))))],[]⟩):=by
 exact Ad (ks:=[kn h0,kn h1,kn h20,kn h1,kn h22,kN (kn h2)]) (by kernel_rfl)
end
def YF (n:Nat) (h:Nat->Int) (a b:Nat) :Nat->V:=lkV AD [(11,.sl 1 n (λi=>iV (h i))),(12,nV n)]
theorem Ad4 (L:LT) (p0:PT) (n:Nat) (h:Nat->Int) (a b:Nat) (i:Nat)  (hp0:p0 (Ix (onP 0 p0 (Ue n h a b i) L)) (Of n h a b 0 (YF n h a b ))=true):(A7 (An tab ⟨Az tb0,onP 0 p0 (Ue n h a b i) L,Gl⟩ Tryz.f120 [EE n h,nV a,nV b] [])).sem=some ((bV false),[]):=by
 exact Ad (ks:=[kn hp0]) (by kernel_rfl)
theorem Ad3 (L:LT) (p0:PT) (n:Nat) (h:Nat->Int) (a b:Nat) (v:Bool)  (hp0:p0 (Ix (onP 0 p0 (Ud n h a b v) L)) (Of n h a b 0 (YF n h a b ))=true):(A7 (An tab ⟨Az tb0,onP 0 p0 (Ud n h a b v) L,Gl⟩ Tryz.f120 [EE n h,nV a,nV b] [])).sem=some ((bV v),[]):=by
 exact Ad (ks:=[kn hp0]) (by kernel_rfl)
theorem ZA (n a i:Nat) (ha:a<n) (hn:n <= 4611686018427387904) (hi:i<n):Al (wr .i64 (Ah (ofNat a) (ofNat i))) (ofNat n)=ofNat ((a+i) % n)∧(a+i) % n<n:=by
 rw [Fj (by omega),D5];exact ⟨rfl,Nat.mod_lt _ (by omega)⟩
theorem Vm (n a i:Nat) (ha:a<n) (hn:n <= 4611686018427387904) (hi:i<n):Aj (ile 0 (Al (wr .i64 (Ah (ofNat a) (ofNat i))) (ofNat n))) (ilt (Al (wr .i64 (Ah (ofNat a) (ofNat i))) (ofNat n)) (ofNat n))=true:=by
 obtain ⟨e1,l1⟩:=ZA n a i ha hn hi;rw [e1];exact Ae l1
theorem Ac9 (n i:Nat) (hi:i<n):ieq (ofNat n) 0=false:=by rw [show (0:Int)=ofNat 0 from rfl,Dq,decide_eq_false (by omega)]
theorem XP (L:LT) (n:Nat) (h:Nat->Int) (a b:Nat) (hn:n <= 4611686018427387904) (ha:a<n) (hb:b<n):∀ (d i:Nat) (j:Nat->V) (q:Nat),n=i+d->d<q ->
  (A3 (Ix L) (MI n h a b) q (Of n h a b i j)).sem=some (match Jc n h a b d i with | none=>Ue n h a b 0 | some v=>Ud n h a b v)
 | 0,i,j,q+1,h1,_=>by
  have:n=i:=by omega
  subst this;exact Ag (AeE L n h a b n j (Av (Nat.le_refl _)))
 | d+1,i,j,q+1,h1,h2=>by
  have hi:i<n:=by omega
  obtain ⟨e1,l1⟩:=ZA n a i ha hn hi;obtain ⟨e2,l2⟩:=ZA n b i hb hn hi;unfold Jc;by_cases he:h ((a+i) % n)=h ((b+i) % n)
  ·have hq:ieq (h (toN (Al (wr .i64 (Ah (ofNat a) (ofNat i))) (ofNat n)))) (h (toN (Al (wr .i64 (Ah (ofNat b) (ofNat i))) (ofNat n))))=true:=by
    rw [e1,e2];show ieq (h ((a+i) % n)) (h ((b+i) % n))=true;rw [he];exact PQ _
   rw [if_pos he,Ag (AeD L n h a b i j (ofNat_lt hi) (Ac9 n i hi) (Vm n a i ha hn hi) (Vm n b i hb hn hi) hq),AW,Ax hi hn];exact XP L n h a b hn ha hb d (i+1) Ac q (by omega) (by omega)
  ·have hq:ieq (h (toN (Al (wr .i64 (Ah (ofNat a) (ofNat i))) (ofNat n)))) (h (toN (Al (wr .i64 (Ah (ofNat b) (ofNat i))) (ofNat n))))=false:=by
    rw [e1,e2];show ieq (h ((a+i) % n)) (h ((b+i) % n))=false;simp [ieq,he]
   have hr:=AeC L n h a b i j (ofNat_lt hi) (Ac9 n i hi) (Vm n a i ha hn hi) (Vm n b i hb hn hi) hq;rw [e1,e2] at hr;rw [if_neg he];exact Ag hr
def Uz:List V->AB
 | [v,.val (.int .i64 a),.val (.int .i64 b)]=>apI v λn h=>.br (F9 n) (.br (Aj (inN n a) (inN n b)) (out (bV (HQ n h (toN a) (toN b)))) .fail) .fail
 | _=>.fail
theorem WR {a b:Bool} (h:Aj a b=true):a=true∧b=true:=by simpa [Aj] using h
theorem AiI:As Tryz.prog Gl 120 Uz:=by
 refine Am AA mixed Tryz.func120 (by kernel_rfl) (by kernel_rfl) λvs v h' hh=>?_;unfold Uz at hh;split at hh
 ·rename_i u a b
  obtain ⟨n,h,hv,h1⟩:=F6 hh;obtain ⟨h8,h2⟩:=Ab h1;obtain ⟨hab,h3⟩:=Ab h2;have:=Aa h3;simp only [Prod.mk.injEq] at this;obtain ⟨rfl,rfl⟩:=this;obtain ⟨ha,hb⟩:=WR hab;obtain ⟨ea,la⟩:=RA ha;obtain ⟨eb,lb⟩:=RA hb;have hA:BK [u,iV a,iV b] [EE n h,iV (ofNat (toN a)),iV (ofNat (toN b))]:=λS w cs q=>by
   rw [<- ea,<- eb];obtain ⟨c,l,rfl,q1,q2⟩:=q;exact ⟨c,l,rfl,hv S w c q1,q2⟩
  have hx:=Bh D7 [(0,MI n h (toN a) (toN b))];have hL:=Bd [(0,MI n h (toN a) (toN b))];have hr:=λL=>XP L n h (toN a) (toN b) (DG h8) la lb n 0 (YF n h (toN a) (toN b)) (n+1) (by omega) (by omega);refine ⟨_,Br Gl tb0 [(0,MI n h (toN a) (toN b))],_,hA,rfl,hx.1,hx.2,?_,Aw.refl _⟩;unfold HQ;cases hc:Jc n h (toN a) (toN b) n 0 with
  | none =>rw [hc] at hr;exact Bb (Bc hL hL) _ (Ad4 _ _ n h (toN a) (toN b) 0 (A5 (hr _)))
  | some v =>rw [hc] at hr;exact Bb (Bc hL hL) _ (Ad3 _ _ n h (toN a) (toN b) v (A5 (hr _)))
 ·cases hh
noncomputable def UA:AK:=(120,Uz)::[]
theorem Xy:Ar Tryz.prog Gl UA:=.cons AiI .nil
def Tr (n:Nat) (h:Nat->Int):Nat->Nat->Nat->Nat
 | 0,_,b=>b
 | d+1,i,b=>if HQ n h i b=true then Tr n h d (i+1) i else Tr n h d (i+1) b
def Wi (n:Nat) (h:Nat->Int):Nat:=Tr n h (n-1) 1 0
theorem Mr {n:Nat} {h:Nat->Int}:∀ d i b,n=i+d->b<i->(∀ q,q<i->¬ IB n h q b)->ED n h (Tr n h d i b)
 | 0,i,b,hd,hb,hq=>⟨by show b<n; omega,λq hq'=>hq q (by omega)⟩
 | d+1,i,b,hd,hb,hq=>by
  unfold Tr;by_cases ha:HQ n h i b=true
  ·rw [if_pos ha]
   have hl:=NB.1 ha;refine Mr d (i+1) i (by omega) (by omega) λq hq' hlt=>?_;by_cases hqi:q=i
   ·rw [hqi] at hlt; exact EZ hlt
   ·exact hq q (by omega) (Lo hlt hl)
  ·rw [if_neg ha]
   refine Mr d (i+1) b (by omega) (by omega) λq hq' hlt=>?_;by_cases hqi:q=i
   ·rw [hqi] at hlt; exact ha (NB.2 hlt)
   ·exact hq q (by omega) hlt
theorem XV {n:Nat} (h:Nat->Int) (hn:0<n):ED n h (Wi n h):=Mr (n-1) 1 0 (by omega) (by omega) λq hq=>by
 have:q=0:=by omega
 subst this;exact EZ
def MJ (n:Nat) (h:Nat->Int):Lp:=⟨bmK 17 0 [0,2,3,4],0,bmK 17 0 [2,3],0,n+1⟩
def QO (n:Nat) (h:Nat->Int) (b i:Nat) (j:Nat->V):St:=⟨jsV 17 0 j [(0,.sl 1 n λk=>iV (h k)),(2,iV 0),(3,nV b),(4,nV i)],[]⟩
def Uf (n:Nat) (h:Nat->Int) (b i:Nat):Ex×St:=(.ex 0,⟨jsV 17 0 Ac [(2,iV 0),(3,nV b)],[]⟩)
noncomputable def Kc (L:LT):St->T (Ex×St):=λst=>AI tab ⟨Az UA,L,Gl⟩ (A0 Tryz.f78 0) 0 st
section
variable (L:LT) (n:Nat) (h:Nat->Int) (b i:Nat)  (j:Nat->V)
include L n h b i j
theorem XW (h0:ilt (ofNat i) (ofNat n)=false):Au (Kc L) (MJ n h) (QO n h b i j)=some ((.ex 0),⟨jsV 17 0 Ac [(2,iV 0),(3,nV b)],[]⟩):=by
 exact Ad (ks:=[kn h0]) (by kernel_rfl)
theorem AeI (h0:ilt (ofNat i) (ofNat n)=true) (h18:F9 n=true) (h19:inN n (ofNat i)=true) (h20:inN n (ofNat b)=true) (h1:HQ n h i b=true):Au (Kc L) (MJ n h) (QO n h b i j)=some (.nm,⟨jsV 17 0 Ac [(0,.sl 1 n (λk=>iV (h k))),(2,iV 0),(3,nV i),(4,iV (wr .i64 (Ah (ofNat i) 1)))],[]⟩):=by
 exact Ad (ks:=[kn h0,kL n,kn h18,kA (kn h19) (kn h20),kn h1]) (by kernel_rfl)
theorem AeJ (h0:ilt (ofNat i) (ofNat n)=true) (h18:F9 n=true) (h19:inN n (ofNat i)=true) (h20:inN n (ofNat b)=true) (h1:HQ n h i b=false):Au (Kc L) (MJ n h) (QO n h b i j)=some (.nm,⟨jsV 17 0 Ac [(0,.sl 1 n (λk=>iV (h k))),(2,iV 0),(3,nV b),(4,iV (wr .i64 (Ah (ofNat i) 1)))],[]⟩):=by
 exact Ad (ks:=[kn h0,kL n,kn h18,kA (kn h19) (kn h20),kn h1]) (by kernel_rfl)
end
def YG (n:Nat) (h:Nat->Int) :Nat->V:=lkV AD []
theorem Ack (L:LT) (p0:PT) (n:Nat) (h:Nat->Int) (b i:Nat)  (hp0:p0 (Kc (onP 0 p0 (Uf n h b i) L)) (QO n h 0 1 (YG n h ))=true):(A7 (An tab ⟨Az UA,onP 0 p0 (Uf n h b i) L,Gl⟩ Tryz.f78 [EE n h] [])).sem=some ((nV b),[]):=by
 exact Ad (ks:=[kn hp0]) (by kernel_rfl)
theorem Tp (L:LT) (n:Nat) (h:Nat->Int) (h8:F9 n=true):∀ (d i b:Nat) (j:Nat->V) (q:Nat),n=i+d->b<i->d<q ->
  (A3 (Kc L) (MJ n h) q (QO n h b i j)).sem=some (Uf n h (Tr n h d i b) n)
 | 0,i,b,j,q+1,h1,_,_=>by
  have:n=i:=by omega
  subst this;exact Ag (XW L n h b n j (Av (Nat.le_refl _)))
 | d+1,i,b,j,q+1,h1,hb,h2=>by
  have hi:i<n:=by omega
  unfold Tr;cases ha:HQ n h i b with
  | true =>rw [if_pos rfl,Ag (AeI L n h b i j (ofNat_lt hi) h8 (LN hi) (LN (by omega)) ha),AW,Ax hi (DG h8)];exact Tp L n h h8 d (i+1) i Ac q (by omega) (by omega) (by omega)
  | false =>rw [if_neg (by decide),Ag (AeJ L n h b i j (ofNat_lt hi) h8 (LN hi) (LN (by omega)) ha),AW,Ax hi (DG h8)];exact Tp L n h h8 d (i+1) b Ac q (by omega) (by omega) (by omega)
def Acz:List V->AB:=AbQ λn h=>.br (F9 n) (out (iV (ofNat (Wi n h)))) .fail
theorem p104:As Tryz.prog Gl 78 Acz:=by
 refine Am AA mixed Tryz.func78 (by kernel_rfl) (by kernel_rfl) λvs v h' hh=>?_;obtain ⟨n,h,hA,h1⟩:=OU hh;obtain ⟨h8,h3⟩:=Ab h1;have:=Aa h3;simp only [Prod.mk.injEq] at this;obtain ⟨rfl,rfl⟩:=this;have hx:=Bh Xy [(0,MJ n h)];have hL:=Bd [(0,MJ n h)];refine ⟨_,Br Gl UA [(0,MJ n h)],_,hA,rfl,hx.1,hx.2,?_,Aw.refl _⟩;unfold Wi;rcases Nat.eq_zero_or_pos n with rfl | hn
 ·exact Bb (Bc hL hL) _ (Ack _ _ 0 h 0 0 (A5 (Ag (XW _ 0 h 0 1 (YG 0 h) (Av (by omega))))))
 ·exact Bb (Bc hL hL) _ (Ack _ _ n h _ n (A5 (Tp _ n h h8 (n-1) 1 0 (YG n h) (n+1) (by omega) (by omega) (by omega))))
noncomputable def tb106:AK:=[]
theorem tb106_ok:Ar Tryz.prog Gl tb106:=.nil
noncomputable def NX:AK:=(119,BI Sk)::[]
theorem Xz:Ar Tryz.prog Gl NX:=.cons p25 .nil
def Qi (n:Nat) (f:Nat->E6) (k:Nat) (x:Nat->V):Ex×St:=(.rt,⟨jsV 31 0 Ac [(2,.ref 2),(3,bV false),(4,.ref 1)],[.row 3 1 0 λ_=>.und,.row 3 1 k x,.row 3 1 0 λ_=>.und]⟩)
def IA (n:Nat) (f:Nat->E6):Lp:=⟨bmK 31 0 [0,2,3,4,5],2,bmK 31 0 [2,3,4],3,n+1⟩
def Lb (n:Nat) (f:Nat->E6) (i k:Nat) (x:Nat->V) (j:Nat->V):St:=⟨jsV 31 0 j [(0,.sl 6 n λi=>eV (f i)),(2,.ref 0),(3,bV false),(4,.ref 1),(5,nV i)],[.row 3 1 0 λ_=>.und,.row 3 1 k x]⟩
def Ug (n:Nat) (f:Nat->E6) (i k:Nat) (x:Nat->V):Ex×St:=(.ex 0,⟨jsV 31 0 Ac [(2,.ref 0),(3,bV false),(4,.ref 1)],[.row 3 1 0 λ_=>.und,.row 3 1 k x]⟩)
noncomputable def FS (L:LT):St->T (Ex×St):=λst=>AI tab ⟨Az NX,L,Gl⟩ (A0 Tryz.f76 0) 0 st
section
variable (L:LT) (n:Nat) (f:Nat->E6) (i k:Nat) (x:Nat->V)  (j:Nat->V)
include L n f i k x j
theorem AeK (h0:ilt (ofNat i) (ofNat n)=false):Au (FS L) (IA n f) (Lb n f i k x j)=some ((.ex 0),⟨jsV 31 0 Ac [(2,.ref 0),(3,bV false),(4,.ref 1)],[.row 3 1 0 Ac,.row 3 1 k x]⟩):=by
 exact Ad (ks:=[kn h0]) (by kernel_rfl)
theorem XX (h0:ilt (ofNat i) (ofNat n)=true) (h20:ile 0 (ofNat i)=true) (h1:ieq (AZ (f i)) 0=true) (h21:Dk k 1 8=true):Au (FS L) (IA n f) (Lb n f i k x j)=some (.nm,⟨jsV 31 0 Ac [(0,.sl 6 n (λi=>eV (f i))),(2,.ref 0),(3,bV false),(4,.ref 1),(5,iV (wr .i64 (Ah (ofNat i) 1)))],[.row 3 1 0 Ac,.row 3 1 (B1 k 1) (Be k x (iV (BG (f i))))]⟩):=by
 exact Ad (ks:=[kn h0,kA (kn h20) (kn h0),kN (kn h1),kn h21]) (by kernel_rfl)
theorem XY (h0:ilt (ofNat i) (ofNat n)=true) (h20:ile 0 (ofNat i)=true) (h1:ieq (AZ (f i)) 0=false):Au (FS L) (IA n f) (Lb n f i k x j)=some (.rt,⟨jsV 31 0 Ac [(2,.ref 2),(3,bV false),(4,.ref 1)],[.row 3 1 0 Ac,.row 3 1 k x,.row 3 1 0 Ac]⟩):=by
 exact Ad (ks:=[kn h0,kA (kn h20) (kn h0),kN (kn h1)]) (by kernel_rfl)
end
def Vi (n:Nat) (f:Nat->E6) :Nat->V:=lkV AD []
theorem AdA (L:LT) (p0:PT) (n:Nat) (f:Nat->E6) (i k:Nat) (x:Nat->V)  (hp0:p0 (FS (onP 0 p0 (Ug n f i k x) L)) (Lb n f 0 0 Ac (Vi n f ))=true):(A7 (An tab ⟨Az NX,onP 0 p0 (Ug n f i k x) L,Gl⟩ Tryz.f76 [A9 n f] [])).sem=some ((.tup [.ref 0,bV true]),[.row 3 1 k x]):=by
 exact Ad (ks:=[kn hp0]) (by kernel_rfl)
theorem Ad9 (L:LT) (p0:PT) (n:Nat) (f:Nat->E6) (k:Nat) (x:Nat->V)  (hp0:p0 (FS (onP 0 p0 (Qi n f k x) L)) (Lb n f 0 0 Ac (Vi n f ))=true):(A7 (An tab ⟨Az NX,onP 0 p0 (Qi n f k x) L,Gl⟩ Tryz.f76 [A9 n f] [])).sem=some ((.tup [.ref 0,bV false]),[.row 3 1 0 Ac]):=by
 exact Ad (ks:=[kn hp0]) (by kernel_rfl)
theorem UI (L:LT) (n:Nat) (f:Nat->E6) (hn:CJ n=true) (e:Nat) (he:e<n) (hb:AZ (f e)=30) (ho:∀ t,t<e->AZ (f t)=0):∀ (d i:Nat) (j:Nat->V) (q:Nat),e=i+d->d<q ->
  (A3 (FS L) (IA n f) q (Lb n f i i (Cp (cdV f) i) j)).sem=some (Qi n f e (Cp (cdV f) e))
 | 0,i,j,q+1,h1,_=>by
  have:e=i:=by omega
  subst this;exact Ag (XY L n f e e (Cp (cdV f) e) j (ofNat_lt he) (Vn e) (by rw [hb]; rfl))
 | d+1,i,j,q+1,h1,h2=>by
  have hi:i<n:=by omega
  have hr:=XX L n f i i (Cp (cdV f) i) j (ofNat_lt hi) (Vn i) (by rw [ho i (by omega)]; rfl) (Qw hi (by decide) (of_decide_eq_true hn));rw [Ag hr,AW,Ax hi (Ip hn)];exact UI L n f hn e he hb ho d (i+1) Ac q (by omega) (by omega)
theorem XQ (L:LT) (n:Nat) (f:Nat->E6) (hn:CJ n=true):∀ (d i:Nat) (j:Nat->V) (q:Nat),n=i+d->d<q->(∀ t,t<i->AZ (f t)=0) ->
  (DX n f=true∧(A3 (FS L) (IA n f) q (Lb n f i i (Cp (cdV f) i) j)).sem=some (Ug n f n n (Cp (cdV f) n))) ∨ (DX n f=false∧∃ e,(A3 (FS L) (IA n f) q (Lb n f i i (Cp (cdV f) i) j)).sem=some (Qi n f e (Cp (cdV f) e)))
 | 0,i,j,q+1,h1,_,ho=>by
  have:n=i:=by omega
  subst this;exact .inl ⟨Fx.2 ho,Ag (AeK L n f n n _ j (Av (Nat.le_refl _)))⟩
 | d+1,i,j,q+1,h1,h2,ho=>by
  have hi:i<n:=by omega
  by_cases hc:AZ (f i)=0
  ·have hr:=XX L n f i i (Cp (cdV f) i) j (ofNat_lt hi) (Vn i) (by rw [hc]; rfl) (Qw hi (by decide) (of_decide_eq_true hn))
   have ih:=XQ L n f hn d (i+1) Ac q (by omega) (by omega) λt ht=>by
    by_cases hti:t=i
    ·rw [hti]; exact hc
    ·exact ho t (by omega)
   rw [Ag hr,AW,Ax hi (Ip hn)];exact ih
  ·refine .inr ⟨?_,i,Ag (XY L n f i i (Cp (cdV f) i) j (ofNat_lt hi) (Vn i) (by simp [ieq,hc]))⟩
   cases hm:DX n f with
   | false=>rfl
   | true=>exact absurd (Fx.1 hm i hi) hc
def V7:List V->AB:=G8 λn f=>.br (CJ n) (.br (DX n f) (.leaf (.tup [.ref 0,bV true],[.row 3 1 n λi=>iV (BG (f i))])) (.leaf (.tup [.ref 0,bV false],[.row 3 1 0 λ_=>.und]))) .fail
theorem p103:As Tryz.prog Gl 76 V7:=by
 refine Am AA mixed Tryz.func76 (by kernel_rfl) (by kernel_rfl) λvs v h' h=>?_;obtain ⟨n,f,ha,h⟩:=CW h;obtain ⟨hn,h⟩:=Ab h;have hx:=Bh Xz [(0,IA n f)];have hL:=Bd [(0,IA n f)];have hr:=λL=>XQ L n f hn n 0 (Vi n f) (n+1) (by omega) (by omega) λt ht=>absurd ht (Nat.not_lt_zero _);cases hm:DX n f with
 | true =>rw [hm] at h;have:=Aa h;simp only [Prod.mk.injEq] at this;obtain ⟨rfl,rfl⟩:=this;exact ⟨_,Br Gl NX [(0,IA n f)],_,ha,rfl,hx.1,hx.2,Bb (Bc hL hL) _ (AdA _ _ n f n n _ (A5 ((hr _).elim (λq=>q.2) λq=>by rw [hm] at q; cases q.1))),Aw.one λj hj=>(J0 (cdV f) n j hj).symm⟩
 | false =>rw [hm] at h;have:=Aa h;simp only [Prod.mk.injEq] at this;obtain ⟨rfl,rfl⟩:=this;obtain ⟨e,h1,h2,h3⟩:=Yq hm;exact ⟨_,Br Gl NX [(0,IA n f)],_,ha,rfl,hx.1,hx.2,Bb (Bc hL hL) _ (Ad9 _ _ n f e (Cp (cdV f) e) (A5 (UI _ n f hn e h1 h2 h3 e 0 (Vi n f) (n+1) (by omega) (by omega)))),Aw.refl _⟩
noncomputable def Aaf:AK:=(76,V7)::(78,Acz)::(77,LG)::[]
theorem Aae:Ar Tryz.prog Gl Aaf:=.cons p103 <| .cons p104 <| .cons p69 .nil
theorem AfW (L:LT) (n:Nat) (f:Nat->E6) (h19:CJ n=true) (h0:DX n f=true) (h20:F9 n=true):(A7 (An tab ⟨Az Aaf,L,Gl⟩ Tryz.f51 [A9 n f] [])).sem=some ((.tup [.ref 0,iV 0]),[.row 76 6 n (λi=>eV (Jl n f (ofNat (Wi n (λi=>BG (f i)))) i))]):=by
 exact Ad (ks:=[kL n,kn h19,kn h0,kN kT,kL n,kn h20,kL n,kn h19]) (by kernel_rfl)
def Pr:List V->AB:=G8 λn f=>.br (CJ n) (.br (DX n f) (.leaf (.tup [.ref 0,iV 0],[.row 76 6 n λi=>eV (Jl n f (ofNat (Wi n λk=>BG (f k))) i)])) (.leaf (.tup [.ref 0,iV 30],[.row 76 6 0 λ_=>.und]))) .fail
theorem p66:As Tryz.prog Gl 51 Pr:=by
 refine Am AA mixed Tryz.func51 (by kernel_rfl) (by kernel_rfl) λvs v h' h=>?_;obtain ⟨n,f,ha,h⟩:=CW h;obtain ⟨hn,h⟩:=Ab h;have hx:=Bh Aae [];cases hm:DX n f with
 | true =>rw [hm] at h;have:=Aa h;simp only [Prod.mk.injEq] at this;obtain ⟨rfl,rfl⟩:=this;exact ⟨_,Br Gl Aaf [],_,ha,rfl,hx.1,hx.2,AfW _ n f hn hm (Gk hn),Aw.refl _⟩
 | false =>rw [hm] at h;have:=Aa h;simp only [Prod.mk.injEq] at this;obtain ⟨rfl,rfl⟩:=this;exact ⟨_,Br Gl Aaf [],_,ha,rfl,hx.1,hx.2,Ad (ks:=[kL n,kn hn,kn hm,kN kF]) (by kernel_rfl)/-W:wc66n-/,Aw.refl _⟩
noncomputable def tb16:AK:=(48,IY)::(51,Pr)::(43,QU)::[]
theorem tb16_ok:Ar Tryz.prog Gl tb16:=.cons p65 <| .cons p66 <| .cons p42 <| .nil
theorem GH {n:Nat} {h g:Nat->Int} (hg:∀ i,i<n->g i=h i) (p i:Nat) (hn:0<n):EN n g p i=EN n h p i:=hg _ (Nat.mod_lt _ hn)
theorem R7 {n:Nat} {h g:Nat->Int} (hg:∀ i,i<n->g i=h i) {p:Nat} (hp:ED n g p):ED n h p:=by
 have hn:0<n:=by have:=hp.1; omega
 refine ⟨hp.1,λq hq hl=>hp.2 q hq ?_⟩;obtain ⟨s,h1,h2,h3⟩:=hl;exact ⟨s,h1,λt ht=>by rw [GH hg _ _ hn,GH hg _ _ hn]; exact h2 t ht,by rw [GH hg _ _ hn,GH hg _ _ hn]; exact h3⟩
theorem AbO {n:Nat} {f l:Nat->E6} (hm:DX n f=true) (hl:∀ i,i<n->l i=f i):∀ i,i<n->Cu n l i=Jl n f (ofNat (Wi n λk=>BG (f k))) i:=λi hi=>by
 have hn:0<n:=by omega
 have h1:ED n (λk=>BG (f k)) (Du n λk=>BG (l k)):=R7 (g:=λk=>BG (l k)) (λt ht=>by show BG (l t)=BG (f t); rw [hl t ht]) (TK n _ hn);have h2:=XV (λk=>BG (f k)) hn;have h3:=YJ h1 h2 i hi;unfold Cu Jl;rw [VT h2.1,hl _ (Nat.mod_lt _ hn)];exact AbN (Fx.1 hm _ (Nat.mod_lt _ hn)) (Fx.1 hm _ (Nat.mod_lt _ hn)) h3
end Go.Proofs.YtkbafjceglhjhaaGreatDoor.Ed
namespace Go.Proofs.YtkbafjceglhjhaaGreatDoor.Sh
open Go.Sy Ed
structure Cod (α:Type) where
 size:Nat
 enc:α->V
 ok:V->Bool
 ed:V->α
 law:∀ v,ok v=true->∀ (S:Nat->Prop) (w:World) (c:Value),VR S w v noK c->VR S w (enc (ed v)) noK c
def TR (s:Nat):V->Option (Nat×(Nat->V))
 | .sl s' n g=>match Nat.beq s' s with
  | true=>some (n,g)
  | false=>match n with
   | 0=>some (0,g)
   | _=>none
 | .slr s' n _ g=>match Nat.beq s' s with
  | true=>some (n,g)
  | false=>none
 | .nilS=>some (0,λ_=>.und)
 | _=>none
theorem RI {s:Nat} {v:V} {n:Nat} {g:Nat->V} (hg:TR s v=some (n,g)) {e:Nat->V} (he:∀ i,i<n->∀ (S:Nat->Prop) (w:World) (c:Value),VR S w (g i) noK c->VR S w (e i) noK c)
  {S:Nat->Prop} {w:World} {c:Value} (hv:VR S w v noK c):VR S w (.sl s n e) noK c:=by
 unfold TR at hg;split at hg
 ·rename_i s' n' g'
  split at hg
  ·rename_i hs
   simp only [Option.some.injEq,Prod.mk.injEq] at hg;obtain ⟨rfl,rfl⟩:=hg;have hs:s'=s:=Nat.eq_of_beq_eq_true hs;subst hs;obtain ⟨a,cap,ea,hc,hb⟩:=hv;refine ⟨a,cap,ea,hc,hb.imp id ?_⟩
   rintro ⟨b,o,eb,hel⟩
   refine ⟨b,o,eb,λi hi=>?_⟩;obtain ⟨ci,h1,h2⟩:=hel i hi;exact ⟨ci,he i hi S w ci h1,h2⟩
  ·split at hg
   ·simp only [Option.some.injEq,Prod.mk.injEq] at hg
    obtain ⟨rfl,rfl⟩:=hg;obtain ⟨a,cap,ea,hc,_⟩:=hv;exact ⟨a,cap,ea,hc,.inl rfl⟩
   ·cases hg
 ·rename_i s' n' m' g'
  split at hg
  ·rename_i hs
   simp only [Option.some.injEq,Prod.mk.injEq] at hg;obtain ⟨rfl,rfl⟩:=hg;have hs:s'=s:=Nat.eq_of_beq_eq_true hs;subst hs;obtain ⟨a,cap,ea,hc,hm,hb⟩:=hv;refine ⟨a,cap,ea,Nat.le_trans hc hm,?_⟩;rcases hb with h0 | ⟨b,o,eb,hel⟩
   ·exact .inl (by omega)
   ·refine .inr ⟨b,o,eb,λi hi=>?_⟩
    obtain ⟨ci,h1,h2⟩:=hel i (by omega);exact ⟨ci,he i hi S w ci h1,h2⟩
  ·cases hg
 ·simp only [Option.some.injEq,Prod.mk.injEq] at hg
  obtain ⟨rfl,rfl⟩:=hg;have hv:c = .slice none 0 0:=hv;exact ⟨none,0,hv,Nat.le_refl _,.inl rfl⟩
 ·cases hg
def apG {α β:Type} (c:Cod α) (v:V) (F:Nat->(Nat->α)->T β):T β :=
 match TR c.size v with
 | some (n,g)=>.br (Ba n λi=>c.ok (g i)) (F n λi=>c.ed (g i)) .fail
 | none=>.fail
def H9 {α:Type} (c:Cod α) (n:Nat) (f:Nat->α):V:=.sl c.size n λi=>c.enc (f i)
theorem BV {α β:Type} {c:Cod α} {v:V} {F:Nat->(Nat->α)->T β} {r:β} (h:(apG c v F).sem=some r) :
  ∃ n f,(∀ (S:Nat->Prop) (w:World) (u:Value),VR S w v noK u->VR S w (H9 c n f) noK u)∧(F n f).sem=some r:=by
 unfold apG at h;split at h
 ·rename_i n g hg
  obtain ⟨h1,h2⟩:=Ab h;have h1:=AG.1 h1;exact ⟨n,_,λS w u hv=>RI hg (λi hi S w cc hc=>c.law _ (h1 i hi) S w cc hc) hv,h2⟩
 ·cases h
def codE:Cod E6:=⟨6,eV,okE,edE,λv h S w c hv=>by rw [<- M5 h]; exact hv⟩
def Qo:Cod Int:=⟨1,iV,okI,edI,λv h S w c hv=>by rw [<- M4 h]; exact hv⟩
def toX:V->Option Ev5
 | .agg [.val (.int .i64 a),.val (.int .i64 b),.val (.int .i64 c),.val (.int .i64 d),.val (.int .i64 e)]=>some ⟨a,b,c,d,e⟩
 | _=>none
theorem Xn {v:V} {e:Ev5} (h:toX v=some e):v=evV e:=by
 unfold toX at h;split at h
 ·simp only [Option.some.injEq] at h
  subst h;rfl
 ·cases h
def okX (v:V):Bool:=match toX v with
 | some _=>true
 | none=>false
def edX (v:V):Ev5:=match toX v with
 | some e=>e
 | none=>⟨0,0,0,0,0⟩
theorem Yk {v:V} (h:okX v=true):v=evV (edX v):=by
 unfold okX at h;unfold edX;split at h
 ·rename_i e he
  exact Xn he
 ·cases h
def Qn:Cod Ev5:=⟨5,evV,okX,edX,λv h S w c hv=>by rw [<- Yk h]; exact hv⟩
def okJ (v:V):Bool:=match TR 1 v with
 | some (n,g)=>Ba n λi=>okI (g i)
 | none=>false
def edJ (v:V):Nat×(Nat->Int):=match TR 1 v with
 | some (n,g)=>(n,λi=>edI (g i))
 | none=>(0,λ_=>0)
def codJ:Cod (Nat×(Nat->Int)):=⟨1,λp=>.sl 1 p.1 λi=>iV (p.2 i),okJ,edJ,λv h S w c hv=>by
 unfold okJ at h;unfold edJ;split at h
 ·rename_i n g hg
  have h:=AG.1 h;exact RI hg (λi hi S w cc hc=>by rw [<- M4 (h i hi)]; exact hc) hv
 ·cases h⟩
structure Sh7 where
 arch:Int
 ne:Nat
 E:Nat->E6
 nx:Nat
 X:Nat->Ev5
 tt:Int
 kk:Int
 nr:Nat
 R:Nat->Int
 nc:Nat
 C:Nat->Nat×(Nat->Int)
def GF (s:Sh7):V:=.agg [iV s.arch,H9 codE s.ne s.E,H9 Qn s.nx s.X,iV s.tt,iV s.kk,H9 Qo s.nr s.R,H9 codJ s.nc s.C]
def apS {β:Type} (v:V) (F:Sh7->T β):T β :=
 match v with
 | .agg [.val (.int .i64 a),e,x,.val (.int .i64 t),.val (.int .i64 k),r,c]=>apG codE e λne E=>apG Qn x λnx X=>apG Qo r λnr R=>apG codJ c λnc C=>F ⟨a,ne,E,nx,X,t,k,nr,R,nc,C⟩
 | _=>.fail
theorem apS_some {β:Type} {v:V} {F:Sh7->T β} {r:β} (h:(apS v F).sem=some r) :
  ∃ s,(∀ (S:Nat->Prop) (w:World) (u:Value),VR S w v noK u->VR S w (GF s) noK u)∧(F s).sem=some r:=by
 unfold apS at h;split at h
 ·obtain ⟨ne,E,h1,h⟩:=BV h
  obtain ⟨nx,X,h2,h⟩:=BV h;obtain ⟨nr,R,h3,h⟩:=BV h;obtain ⟨nc,C,h4,h⟩:=BV h;refine ⟨_,λS w u hv=>?_,h⟩;obtain ⟨ca,rfl,a1,l1,rfl,q1,a2,l2,rfl,q2,a3,l3,rfl,q3,a4,l4,rfl,q4,a5,l5,rfl,q5,a6,l6,rfl,q6,a7,l7,rfl,q7,q8⟩:=hv;exact ⟨_,rfl,a1,_,rfl,q1,a2,_,rfl,h1 S w _ q2,a3,_,rfl,h2 S w _ q3,a4,_,rfl,q4,a5,_,rfl,q5,a6,_,rfl,h3 S w _ q6,a7,_,rfl,h4 S w _ q7,q8⟩
 ·cases h
theorem Wl {P:Program} {G:Nat->V} {f:FuncId} {F F':List V->AB} (h:As P G f F) (hF:∀ vs v h',(F' vs).sem=some (v,h')->∃ h'',(F vs).sem=some (v,h'')∧Aw h'' h'):As P G f F':=by
 refine ⟨h.1,λvs cs S w v h' h1 h2 h3 h4=>?_⟩;obtain ⟨h'',h5,h6⟩:=hF vs v h' h4;obtain ⟨hr,hc⟩:=h.2 vs cs S w v h'' h1 h2 h3 h5;refine ⟨h6.rows hr,hc.mono ?_⟩
 rintro e w' ⟨u,κ',S',rfl,g1,g2,g3⟩
 obtain ⟨p1,p2⟩:=h6.good g1;refine ⟨u,κ',S',rfl,p1,g2,Ext.ofNil g3.os g3.tape g3.output g3.size g3.keep (λi b hb=>?_) g3.sub g3.sup (h6.rows hr)⟩;rw [p2] at hb;exact g3.own i b hb
theorem p93:As Tryz.prog Gl 51 IY:=by
 refine Wl p66 λvs v h' h=>?_;unfold IY at h;unfold Pr;unfold G8 at h ⊢;split at h
 ·rename_i u
  unfold apL at h ⊢;split at h
  ·rename_i n g hg
   obtain ⟨h1,h2⟩:=Ab h;obtain ⟨h3,h4⟩:=Ab h2;rw [h1];dsimp only;rw [h3];cases hm:DX n (λi=>edE (g i)) with
   | false =>rw [hm] at h4;exact ⟨h',h4,Aw.refl _⟩
   | true =>rw [hm] at h4;have:=Aa h4;simp only [Prod.mk.injEq] at this;obtain ⟨rfl,rfl⟩:=this;refine ⟨_,rfl,Aw.one λi hi=>?_⟩;rw [AbO hm (λ_ _=>rfl) i hi]
  ·cases h
 ·cases h
abbrev shL (a:Int) (n:Nat) (g:Nat->E6) (m:Nat) (x:Nat->Ev5) (t k:Int) (p:Nat) (r:Nat->Int) (q:Nat) (ln:Nat->Nat) (co:Nat->Nat->Int):List V:=[iV a,.sl 6 n (λi=>eV (g i)),.sl 5 m (λi=>evV (x i)),iV t,iV k,.sl 1 p (λi=>iV (r i)),.sl 1 q (λu=>.sl 1 (ln u) (λi=>iV (co u i)))]
end Go.Proofs.YtkbafjceglhjhaaGreatDoor.Sh
