/-
  The least turned list the document's way; the law CycleTurned as a function. No conditions.
-/
import Derived.Test.YtkbafjceglhjhaaGreatDoorCyZ
import Derived.Test.YtkbafjceglhjhaaGreatDoorEdY
namespace Go.Proofs.YtkbafjceglhjhaaGreatDoor.Ed
open Go.Sy Go
open Int (ofNat)
def inN (n:Nat) (a:Int):Bool:=Aj (ile 0 a) (ilt a (ofNat n))
theorem Mf {n a:Nat} (h:a<n):inN n (ofNat a)=true:=Ae h
theorem Su {n:Nat} {a:Int} (h:inN n a=true):a=ofNat (toN a)∧toN a<n:=by
 simp only [inN,Aj,ile,ilt,Bool.and_eq_true,decide_eq_true_eq,Int.ofNat_eq_natCast] at h;simp only [toN,Int.ofNat_eq_natCast];omega
def Jt (n:Nat) (h:Nat->Int) (a b:Nat):Nat->Nat->Option Bool
 | 0,_=>none
 | d+1,i=>if h ((a+i) % n)=h ((b+i) % n) then Jt n h a b d (i+1) else some (decide (h ((a+i) % n)<h ((b+i) % n)))
def Ie (n:Nat) (h:Nat->Int) (a b:Nat):Bool:=(Jt n h a b n 0).getD false
theorem NY {n:Nat} {h:Nat->Int} {a b:Nat}:∀ d i,n=i+d->(∀ t,t<i->ET n h a t=ET n h b t)->((Jt n h a b d i).getD false=true↔IP n h a b)
 | 0,i,hd,hi=>by
  refine ⟨λh1=>(by cases h1),λ⟨s,h1,_,h3⟩=>?_⟩;rw [hi s (by omega)] at h3;omega
 | d+1,i,hd,hi=>by
  unfold Jt;by_cases he:h ((a+i) % n)=h ((b+i) % n)
  ·rw [if_pos he]
   refine NY d (i+1) (by omega) λt ht=>?_;by_cases hti:t=i
   ·rw [hti]; exact he
   ·exact hi t (by omega)
  ·rw [if_neg he]
   refine ⟨λh1=>⟨i,by omega,hi,of_decide_eq_true h1⟩,λ⟨s,h1,h2,h3⟩=>decide_eq_true ?_⟩;rcases Nat.lt_trichotomy s i with hs | hs | hs
   ·rw [hi s hs] at h3; omega
   ·rw [hs] at h3; exact h3
   ·exact absurd (h2 i hs) he
theorem NZ {n:Nat} {h:Nat->Int} {a b:Nat}:Ie n h a b=true↔IP n h a b:=NY n 0 (by omega) λt ht=>absurd ht (Nat.not_lt_zero _)
def UE (n:Nat) (h:Nat->Int) (a b:Nat) (v:Bool):Ex×St:=(.rt,⟨jsV 40 0 Ab [(6,bV v)],[]⟩)
def Nc (n:Nat) (h:Nat->Int) (a b:Nat):Lp:=⟨bmK 40 0 [0,1,2,6,7,8],0,bmK 40 0 [6],0,n+1⟩
def O7 (n:Nat) (h:Nat->Int) (a b:Nat) (i:Nat) (j:Nat->V):St:=⟨jsV 40 0 j [(0,.sl 1 n λk=>iV (h k)),(1,nV a),(2,nV b),(6,bV false),(7,nV n),(8,nV i)],[]⟩
def UF (n:Nat) (h:Nat->Int) (a b:Nat) (i:Nat):Ex×St:=(.ex 0,⟨jsV 40 0 Ab [(6,bV false)],[]⟩)
noncomputable def I9 (L:LT):St->T (Ex×St):=λst=>AL tab ⟨A0 tb0,L,Gl⟩ (A3 Tryz.f120 0) 0 st
section
variable (L:LT) (n:Nat) (h:Nat->Int) (a b:Nat) (i:Nat)  (j:Nat->V)
include L n h a b i j
theorem AgI (h0:ilt (ofNat i) (ofNat n)=false):Ay (I9 L) (Nc n h a b) (O7 n h a b i j)=some ((.ex 0),⟨jsV 40 0 Ab [(6,bV false)],[]⟩):=by
 exact Ad (ks:=[kn h0]) (by kernel_rfl)
theorem AgH (h0:ilt (ofNat i) (ofNat n)=true) (h1:ieq (ofNat n) 0=false) (h20:Aj (ile 0 (An (wr .i64 (Ah (ofNat a) (ofNat i))) (ofNat n))) (ilt (An (wr .i64 (Ah (ofNat a) (ofNat i))) (ofNat n)) (ofNat n))=true) (h22:Aj (ile 0 (An (wr .i64 (Ah (ofNat b) (ofNat i))) (ofNat n))) (ilt (An (wr .i64 (Ah (ofNat b) (ofNat i))) (ofNat n)) (ofNat n))=true) (h2:ieq (h (toN (An (wr .i64 (Ah (ofNat a) (ofNat i))) (ofNat n)))) (h (toN (An (wr .i64 (Ah (ofNat b) (ofNat i))) (ofNat n))))=true):Ay (I9 L) (Nc n h a b) (O7 n h a b i j)=some (.nm,⟨jsV 40 0 Ab [(0,.sl 1 n (λk=>iV (h k))),(1,nV a),(2,nV b),(6,bV false),(7,nV n),(8,iV (wr .i64 (Ah (ofNat i) 1)))],[]⟩):=by
 exact Ad (ks:=[kn h0,kn h1,kn h20,kn h1,kn h22,kN (kn h2)]) (by kernel_rfl)
theorem AgG (h0:ilt (ofNat i) (ofNat n)=true) (h1:ieq (ofNat n) 0=false) (h20:Aj (ile 0 (An (wr .i64 (Ah (ofNat a) (ofNat i))) (ofNat n))) (ilt (An (wr .i64 (Ah (ofNat a) (ofNat i))) (ofNat n)) (ofNat n))=true) (h22:Aj (ile 0 (An (wr .i64 (Ah (ofNat b) (ofNat i))) (ofNat n))) (ilt (An (wr .i64 (Ah (ofNat b) (ofNat i))) (ofNat n)) (ofNat n))=true) (h2:ieq (h (toN (An (wr .i64 (Ah (ofNat a) (ofNat i))) (ofNat n)))) (h (toN (An (wr .i64 (Ah (ofNat b) (ofNat i))) (ofNat n))))=false):Ay (I9 L) (Nc n h a b) (O7 n h a b i j)=some (.rt,⟨jsV 40 0 Ab [(6,bV (ilt (h (toN (An (wr .i64 (Ah (ofNat a) (ofNat i))) (ofNat n)))) (h (toN (An (wr .i64 (Ah (ofNat b) (ofNat i))) (ofNat n))))))],[]⟩):=by
 exact Ad (ks:=[kn h0,kn h1,kn h20,kn h1,kn h22,kN (kn h2)]) (by kernel_rfl)
end
def ZF (n:Nat) (h:Nat->Int) (a b:Nat) :Nat->V:=lkV AI [(11,.sl 1 n (λi=>iV (h i))),(12,nV n)]
theorem Afq (L:LT) (p0:PT) (n:Nat) (h:Nat->Int) (a b:Nat) (i:Nat)  (hp0:p0 (I9 (onP 0 p0 (UF n h a b i) L)) (O7 n h a b 0 (ZF n h a b ))=true):(Ax (Ak tab ⟨A0 tb0,onP 0 p0 (UF n h a b i) L,Gl⟩ Tryz.f120 [EJ n h,nV a,nV b] [])).sem=some ((bV false),[]):=by
 exact Ad (ks:=[kn hp0]) (by kernel_rfl)
theorem Afp (L:LT) (p0:PT) (n:Nat) (h:Nat->Int) (a b:Nat) (v:Bool)  (hp0:p0 (I9 (onP 0 p0 (UE n h a b v) L)) (O7 n h a b 0 (ZF n h a b ))=true):(Ax (Ak tab ⟨A0 tb0,onP 0 p0 (UE n h a b v) L,Gl⟩ Tryz.f120 [EJ n h,nV a,nV b] [])).sem=some ((bV v),[]):=by
 exact Ad (ks:=[kn hp0]) (by kernel_rfl)
theorem AaE (n a i:Nat) (ha:a<n) (hn:n <= 4611686018427387904) (hi:i<n):An (wr .i64 (Ah (ofNat a) (ofNat i))) (ofNat n)=ofNat ((a+i) % n)∧(a+i) % n<n:=by
 rw [Fv (by omega),DD];exact ⟨rfl,Nat.mod_lt _ (by omega)⟩
theorem VU (n a i:Nat) (ha:a<n) (hn:n <= 4611686018427387904) (hi:i<n):Aj (ile 0 (An (wr .i64 (Ah (ofNat a) (ofNat i))) (ofNat n))) (ilt (An (wr .i64 (Ah (ofNat a) (ofNat i))) (ofNat n)) (ofNat n))=true:=by
 obtain ⟨e1,l1⟩:=AaE n a i ha hn hi;rw [e1];exact Ae l1
theorem Aeg (n i:Nat) (hi:i<n):ieq (ofNat n) 0=false:=by rw [show (0:Int)=ofNat 0 from rfl,Dw,decide_eq_false (by omega)]
theorem YG (L:LT) (n:Nat) (h:Nat->Int) (a b:Nat) (hn:n <= 4611686018427387904) (ha:a<n) (hb:b<n):∀ (d i:Nat) (j:Nat->V) (q:Nat),n=i+d->d<q ->
  (A4 (I9 L) (Nc n h a b) q (O7 n h a b i j)).sem=some (match Jt n h a b d i with | none=>UF n h a b 0 | some v=>UE n h a b v)
 | 0,i,j,q+1,h1,_=>by
  have:n=i:=by omega
  subst this;exact Ag (AgI L n h a b n j (Au (Nat.le_refl _)))
 | d+1,i,j,q+1,h1,h2=>by
  have hi:i<n:=by omega
  obtain ⟨e1,l1⟩:=AaE n a i ha hn hi;obtain ⟨e2,l2⟩:=AaE n b i hb hn hi;unfold Jt;by_cases he:h ((a+i) % n)=h ((b+i) % n)
  ·have hq:ieq (h (toN (An (wr .i64 (Ah (ofNat a) (ofNat i))) (ofNat n)))) (h (toN (An (wr .i64 (Ah (ofNat b) (ofNat i))) (ofNat n))))=true:=by
    rw [e1,e2];show ieq (h ((a+i) % n)) (h ((b+i) % n))=true;rw [he];exact Qw _
   rw [if_pos he,Ag (AgH L n h a b i j (ofNat_lt hi) (Aeg n i hi) (VU n a i ha hn hi) (VU n b i hb hn hi) hq),AZ,A1 hi hn];exact YG L n h a b hn ha hb d (i+1) Ab q (by omega) (by omega)
  ·have hq:ieq (h (toN (An (wr .i64 (Ah (ofNat a) (ofNat i))) (ofNat n)))) (h (toN (An (wr .i64 (Ah (ofNat b) (ofNat i))) (ofNat n))))=false:=by
    rw [e1,e2];show ieq (h ((a+i) % n)) (h ((b+i) % n))=false;simp [ieq,he]
   have hr:=AgG L n h a b i j (ofNat_lt hi) (Aeg n i hi) (VU n a i ha hn hi) (VU n b i hb hn hi) hq;rw [e1,e2] at hr;rw [if_neg he];exact Ag hr
def Va:List V->A9
 | [v,.val (.int .i64 a),.val (.int .i64 b)]=>apI v λn h=>.br (FF n) (.br (Aj (inN n a) (inN n b)) (out (bV (Ie n h (toN a) (toN b)))) .fail) .fail
 | _=>.fail
theorem XH {a b:Bool} (h:Aj a b=true):a=true∧b=true:=by simpa [Aj] using h
theorem Alv:As Tryz.prog Gl 120 Va:=by
 refine Am A8 mixed Tryz.func120 (by kernel_rfl) (by kernel_rfl) λvs v h' hh=>?_;unfold Va at hh;split at hh
 ·rename_i u a b
  obtain ⟨n,h,hv,h1⟩:=FB hh;obtain ⟨h8,h2⟩:=Ac h1;obtain ⟨hab,h3⟩:=Ac h2;have:=Aa h3;simp only [Prod.mk.injEq] at this;obtain ⟨rfl,rfl⟩:=this;obtain ⟨ha,hb⟩:=XH hab;obtain ⟨ea,la⟩:=Su ha;obtain ⟨eb,lb⟩:=Su hb;have hA:BC [u,iV a,iV b] [EJ n h,iV (ofNat (toN a)),iV (ofNat (toN b))]:=λS w cs q=>by
   rw [<- ea,<- eb];obtain ⟨c,l,rfl,q1,q2⟩:=q;exact ⟨c,l,rfl,hv S w c q1,q2⟩
  have hx:=Bi CN [(0,Nc n h (toN a) (toN b))];have hL:=Bh [(0,Nc n h (toN a) (toN b))];have hr:=λL=>YG L n h (toN a) (toN b) (DR h8) la lb n 0 (ZF n h (toN a) (toN b)) (n+1) (by omega) (by omega);refine ⟨_,Bd Gl tb0 [(0,Nc n h (toN a) (toN b))],_,hA,rfl,hx.1,hx.2,?_,Aw.refl _⟩;unfold Ie;cases hc:Jt n h (toN a) (toN b) n 0 with
  | none =>rw [hc] at hr;exact Bf (Bg hL hL) _ (Afq _ _ n h (toN a) (toN b) 0 (AA (hr _)))
  | some v =>rw [hc] at hr;exact Bf (Bg hL hL) _ (Afp _ _ n h (toN a) (toN b) v (AA (hr _)))
 ·cases hh
noncomputable def Vn:AM:=(120,Va)::[]
theorem Yq:Ar Tryz.prog Gl Vn:=.cons Alv .nil
def Ua (n:Nat) (h:Nat->Int):Nat->Nat->Nat->Nat
 | 0,_,b=>b
 | d+1,i,b=>if Ie n h i b=true then Ua n h d (i+1) i else Ua n h d (i+1) b
def WX (n:Nat) (h:Nat->Int):Nat:=Ua n h (n-1) 1 0
theorem MB {n:Nat} {h:Nat->Int}:∀ d i b,n=i+d->b<i->(∀ q,q<i->¬ IP n h q b)->EI n h (Ua n h d i b)
 | 0,i,b,hd,hb,hq=>⟨by show b<n; omega,λq hq'=>hq q (by omega)⟩
 | d+1,i,b,hd,hb,hq=>by
  unfold Ua;by_cases ha:Ie n h i b=true
  ·rw [if_pos ha]
   have hl:=NZ.1 ha;refine MB d (i+1) i (by omega) (by omega) λq hq' hlt=>?_;by_cases hqi:q=i
   ·rw [hqi] at hlt; exact Fh hlt
   ·exact hq q (by omega) (LD hlt hl)
  ·rw [if_neg ha]
   refine MB d (i+1) b (by omega) (by omega) λq hq' hlt=>?_;by_cases hqi:q=i
   ·rw [hqi] at hlt; exact ha (NZ.2 hlt)
   ·exact hq q (by omega) hlt
theorem YL {n:Nat} (h:Nat->Int) (hn:0<n):EI n h (WX n h):=MB (n-1) 1 0 (by omega) (by omega) λq hq=>by
 have:q=0:=by omega
 subst this;exact Fh
def Nf (n:Nat) (h:Nat->Int):Lp:=⟨bmK 17 0 [0,2,3,4],0,bmK 17 0 [2,3],0,n+1⟩
def Rz (n:Nat) (h:Nat->Int) (b i:Nat) (j:Nat->V):St:=⟨jsV 17 0 j [(0,.sl 1 n λk=>iV (h k)),(2,iV 0),(3,nV b),(4,nV i)],[]⟩
def UG (n:Nat) (h:Nat->Int) (b i:Nat):Ex×St:=(.ex 0,⟨jsV 17 0 Ab [(2,iV 0),(3,nV b)],[]⟩)
noncomputable def Ku (L:LT):St->T (Ex×St):=λst=>AL tab ⟨A0 Vn,L,Gl⟩ (A3 Tryz.f78 0) 0 st
section
variable (L:LT) (n:Nat) (h:Nat->Int) (b i:Nat)  (j:Nat->V)
include L n h b i j
theorem YM (h0:ilt (ofNat i) (ofNat n)=false):Ay (Ku L) (Nf n h) (Rz n h b i j)=some ((.ex 0),⟨jsV 17 0 Ab [(2,iV 0),(3,nV b)],[]⟩):=by
 exact Ad (ks:=[kn h0]) (by kernel_rfl)
theorem AgM (h0:ilt (ofNat i) (ofNat n)=true) (h18:FF n=true) (h19:inN n (ofNat i)=true) (h20:inN n (ofNat b)=true) (h1:Ie n h i b=true):Ay (Ku L) (Nf n h) (Rz n h b i j)=some (.nm,⟨jsV 17 0 Ab [(0,.sl 1 n (λk=>iV (h k))),(2,iV 0),(3,nV i),(4,iV (wr .i64 (Ah (ofNat i) 1)))],[]⟩):=by
 exact Ad (ks:=[kn h0,kL n,kn h18,kA (kn h19) (kn h20),kn h1]) (by kernel_rfl)
theorem AgN (h0:ilt (ofNat i) (ofNat n)=true) (h18:FF n=true) (h19:inN n (ofNat i)=true) (h20:inN n (ofNat b)=true) (h1:Ie n h i b=false):Ay (Ku L) (Nf n h) (Rz n h b i j)=some (.nm,⟨jsV 17 0 Ab [(0,.sl 1 n (λk=>iV (h k))),(2,iV 0),(3,nV b),(4,iV (wr .i64 (Ah (ofNat i) 1)))],[]⟩):=by
 exact Ad (ks:=[kn h0,kL n,kn h18,kA (kn h19) (kn h20),kn h1]) (by kernel_rfl)
end
def ZG (n:Nat) (h:Nat->Int) :Nat->V:=lkV AI []
theorem AdI (L:LT) (p0:PT) (n:Nat) (h:Nat->Int) (b i:Nat)  (hp0:p0 (Ku (onP 0 p0 (UG n h b i) L)) (Rz n h 0 1 (ZG n h ))=true):(Ax (Ak tab ⟨A0 Vn,onP 0 p0 (UG n h b i) L,Gl⟩ Tryz.f78 [EJ n h] [])).sem=some ((nV b),[]):=by
 exact Ad (ks:=[kn hp0]) (by kernel_rfl)
theorem TY (L:LT) (n:Nat) (h:Nat->Int) (h8:FF n=true):∀ (d i b:Nat) (j:Nat->V) (q:Nat),n=i+d->b<i->d<q ->
  (A4 (Ku L) (Nf n h) q (Rz n h b i j)).sem=some (UG n h (Ua n h d i b) n)
 | 0,i,b,j,q+1,h1,_,_=>by
  have:n=i:=by omega
  subst this;exact Ag (YM L n h b n j (Au (Nat.le_refl _)))
 | d+1,i,b,j,q+1,h1,hb,h2=>by
  have hi:i<n:=by omega
  unfold Ua;cases ha:Ie n h i b with
  | true =>rw [if_pos rfl,Ag (AgM L n h b i j (ofNat_lt hi) h8 (Mf hi) (Mf (by omega)) ha),AZ,A1 hi (DR h8)];exact TY L n h h8 d (i+1) i Ab q (by omega) (by omega) (by omega)
  | false =>rw [if_neg (by decide),Ag (AgN L n h b i j (ofNat_lt hi) h8 (Mf hi) (Mf (by omega)) ha),AZ,A1 hi (DR h8)];exact TY L n h h8 d (i+1) b Ab q (by omega) (by omega) (by omega)
def AdV:List V->A9:=Adu λn h=>.br (FF n) (out (iV (ofNat (WX n h)))) .fail
theorem p104:As Tryz.prog Gl 78 AdV:=by
 refine Am A8 mixed Tryz.func78 (by kernel_rfl) (by kernel_rfl) λvs v h' hh=>?_;obtain ⟨n,h,hA,h1⟩:=Pv hh;obtain ⟨h8,h3⟩:=Ac h1;have:=Aa h3;simp only [Prod.mk.injEq] at this;obtain ⟨rfl,rfl⟩:=this;have hx:=Bi Yq [(0,Nf n h)];have hL:=Bh [(0,Nf n h)];refine ⟨_,Bd Gl Vn [(0,Nf n h)],_,hA,rfl,hx.1,hx.2,?_,Aw.refl _⟩;unfold WX;rcases Nat.eq_zero_or_pos n with rfl | hn
 ·exact Bf (Bg hL hL) _ (AdI _ _ 0 h 0 0 (AA (Ag (YM _ 0 h 0 1 (ZG 0 h) (Au (by omega))))))
 ·exact Bf (Bg hL hL) _ (AdI _ _ n h _ n (AA (TY _ n h h8 (n-1) 1 0 (ZG n h) (n+1) (by omega) (by omega) (by omega))))
noncomputable def tb106:AM:=[]
theorem tb106_ok:Ar Tryz.prog Gl tb106:=.nil
noncomputable def Oz:AM:=(119,BN SY)::[]
theorem Yr:Ar Tryz.prog Gl Oz:=.cons p25 .nil
def QD (n:Nat) (f:Nat->E6) (k:Nat) (x:Nat->V):Ex×St:=(.rt,⟨jsV 31 0 Ab [(2,.ref 2),(3,bV false),(4,.ref 1)],[.row 3 1 0 λ_=>.und,.row 3 1 k x,.row 3 1 0 λ_=>.und]⟩)
def IO (n:Nat) (f:Nat->E6):Lp:=⟨bmK 31 0 [0,2,3,4,5],2,bmK 31 0 [2,3,4],3,n+1⟩
def Lt (n:Nat) (f:Nat->E6) (i k:Nat) (x:Nat->V) (j:Nat->V):St:=⟨jsV 31 0 j [(0,.sl 6 n λi=>eV (f i)),(2,.ref 0),(3,bV false),(4,.ref 1),(5,nV i)],[.row 3 1 0 λ_=>.und,.row 3 1 k x]⟩
def UH (n:Nat) (f:Nat->E6) (i k:Nat) (x:Nat->V):Ex×St:=(.ex 0,⟨jsV 31 0 Ab [(2,.ref 0),(3,bV false),(4,.ref 1)],[.row 3 1 0 λ_=>.und,.row 3 1 k x]⟩)
noncomputable def FZ (L:LT):St->T (Ex×St):=λst=>AL tab ⟨A0 Oz,L,Gl⟩ (A3 Tryz.f76 0) 0 st
section
variable (L:LT) (n:Nat) (f:Nat->E6) (i k:Nat) (x:Nat->V)  (j:Nat->V)
include L n f i k x j
theorem AgO (h0:ilt (ofNat i) (ofNat n)=false):Ay (FZ L) (IO n f) (Lt n f i k x j)=some ((.ex 0),⟨jsV 31 0 Ab [(2,.ref 0),(3,bV false),(4,.ref 1)],[.row 3 1 0 Ab,.row 3 1 k x]⟩):=by
 exact Ad (ks:=[kn h0]) (by kernel_rfl)
theorem YN (h0:ilt (ofNat i) (ofNat n)=true) (h20:ile 0 (ofNat i)=true) (h1:ieq (Bc (f i)) 0=true) (h21:Cp k 1 8=true):Ay (FZ L) (IO n f) (Lt n f i k x j)=some (.nm,⟨jsV 31 0 Ab [(0,.sl 6 n (λi=>eV (f i))),(2,.ref 0),(3,bV false),(4,.ref 1),(5,iV (wr .i64 (Ah (ofNat i) 1)))],[.row 3 1 0 Ab,.row 3 1 (B1 k 1) (Bb k x (iV (BL (f i))))]⟩):=by
 exact Ad (ks:=[kn h0,kA (kn h20) (kn h0),kN (kn h1),kn h21]) (by kernel_rfl)
theorem YO (h0:ilt (ofNat i) (ofNat n)=true) (h20:ile 0 (ofNat i)=true) (h1:ieq (Bc (f i)) 0=false):Ay (FZ L) (IO n f) (Lt n f i k x j)=some (.rt,⟨jsV 31 0 Ab [(2,.ref 2),(3,bV false),(4,.ref 1)],[.row 3 1 0 Ab,.row 3 1 k x,.row 3 1 0 Ab]⟩):=by
 exact Ad (ks:=[kn h0,kA (kn h20) (kn h0),kN (kn h1)]) (by kernel_rfl)
end
def VM (n:Nat) (f:Nat->E6) :Nat->V:=lkV AI []
theorem Afw (L:LT) (p0:PT) (n:Nat) (f:Nat->E6) (i k:Nat) (x:Nat->V)  (hp0:p0 (FZ (onP 0 p0 (UH n f i k x) L)) (Lt n f 0 0 Ab (VM n f ))=true):(Ax (Ak tab ⟨A0 Oz,onP 0 p0 (UH n f i k x) L,Gl⟩ Tryz.f76 [AC n f] [])).sem=some ((.tup [.ref 0,bV true]),[.row 3 1 k x]):=by
 exact Ad (ks:=[kn hp0]) (by kernel_rfl)
theorem Afv (L:LT) (p0:PT) (n:Nat) (f:Nat->E6) (k:Nat) (x:Nat->V)  (hp0:p0 (FZ (onP 0 p0 (QD n f k x) L)) (Lt n f 0 0 Ab (VM n f ))=true):(Ax (Ak tab ⟨A0 Oz,onP 0 p0 (QD n f k x) L,Gl⟩ Tryz.f76 [AC n f] [])).sem=some ((.tup [.ref 0,bV false]),[.row 3 1 0 Ab]):=by
 exact Ad (ks:=[kn hp0]) (by kernel_rfl)
theorem Vt (L:LT) (n:Nat) (f:Nat->E6) (hn:CJ n=true) (e:Nat) (he:e<n) (hb:Bc (f e)=30) (ho:∀ t,t<e->Bc (f t)=0):∀ (d i:Nat) (j:Nat->V) (q:Nat),e=i+d->d<q ->
  (A4 (FZ L) (IO n f) q (Lt n f i i (Cu (cdV f) i) j)).sem=some (QD n f e (Cu (cdV f) e))
 | 0,i,j,q+1,h1,_=>by
  have:e=i:=by omega
  subst this;exact Ag (YO L n f e e (Cu (cdV f) e) j (ofNat_lt he) (VV e) (by rw [hb]; rfl))
 | d+1,i,j,q+1,h1,h2=>by
  have hi:i<n:=by omega
  have hr:=YN L n f i i (Cu (cdV f) i) j (ofNat_lt hi) (VV i) (by rw [ho i (by omega)]; rfl) (QV hi (by decide) (of_decide_eq_true hn));rw [Ag hr,AZ,A1 hi (I0 hn)];exact Vt L n f hn e he hb ho d (i+1) Ab q (by omega) (by omega)
theorem YH (L:LT) (n:Nat) (f:Nat->E6) (hn:CJ n=true):∀ (d i:Nat) (j:Nat->V) (q:Nat),n=i+d->d<q->(∀ t,t<i->Bc (f t)=0) ->
  (Ef n f=true∧(A4 (FZ L) (IO n f) q (Lt n f i i (Cu (cdV f) i) j)).sem=some (UH n f n n (Cu (cdV f) n))) ∨ (Ef n f=false∧∃ e,(A4 (FZ L) (IO n f) q (Lt n f i i (Cu (cdV f) i) j)).sem=some (QD n f e (Cu (cdV f) e)))
 | 0,i,j,q+1,h1,_,ho=>by
  have:n=i:=by omega
  subst this;exact .inl ⟨F6.2 ho,Ag (AgO L n f n n _ j (Au (Nat.le_refl _)))⟩
 | d+1,i,j,q+1,h1,h2,ho=>by
  have hi:i<n:=by omega
  by_cases hc:Bc (f i)=0
  ·have hr:=YN L n f i i (Cu (cdV f) i) j (ofNat_lt hi) (VV i) (by rw [hc]; rfl) (QV hi (by decide) (of_decide_eq_true hn))
   have ih:=YH L n f hn d (i+1) Ab q (by omega) (by omega) λt ht=>by
    by_cases hti:t=i
    ·rw [hti]; exact hc
    ·exact ho t (by omega)
   rw [Ag hr,AZ,A1 hi (I0 hn)];exact ih
  ·refine .inr ⟨?_,i,Ag (YO L n f i i (Cu (cdV f) i) j (ofNat_lt hi) (VV i) (by simp [ieq,hc]))⟩
   cases hm:Ef n f with
   | false=>rfl
   | true=>exact absurd (F6.1 hm i hi) hc
def Wu:List V->A9:=GK λn f=>.br (CJ n) (.br (Ef n f) (.leaf (.tup [.ref 0,bV true],[.row 3 1 n λi=>iV (BL (f i))])) (.leaf (.tup [.ref 0,bV false],[.row 3 1 0 λ_=>.und]))) .fail
theorem p103:As Tryz.prog Gl 76 Wu:=by
 refine Am A8 mixed Tryz.func76 (by kernel_rfl) (by kernel_rfl) λvs v h' h=>?_;obtain ⟨n,f,ha,h⟩:=Dd h;obtain ⟨hn,h⟩:=Ac h;have hx:=Bi Yr [(0,IO n f)];have hL:=Bh [(0,IO n f)];have hr:=λL=>YH L n f hn n 0 (VM n f) (n+1) (by omega) (by omega) λt ht=>absurd ht (Nat.not_lt_zero _);cases hm:Ef n f with
 | true =>rw [hm] at h;have:=Aa h;simp only [Prod.mk.injEq] at this;obtain ⟨rfl,rfl⟩:=this;exact ⟨_,Bd Gl Oz [(0,IO n f)],_,ha,rfl,hx.1,hx.2,Bf (Bg hL hL) _ (Afw _ _ n f n n _ (AA ((hr _).elim (λq=>q.2) λq=>by rw [hm] at q; cases q.1))),Aw.one λj hj=>(JG (cdV f) n j hj).symm⟩
 | false =>rw [hm] at h;have:=Aa h;simp only [Prod.mk.injEq] at this;obtain ⟨rfl,rfl⟩:=this;obtain ⟨e,h1,h2,h3⟩:=Zh hm;exact ⟨_,Bd Gl Oz [(0,IO n f)],_,ha,rfl,hx.1,hx.2,Bf (Bg hL hL) _ (Afv _ _ n f e (Cu (cdV f) e) (AA (Vt _ n f hn e h1 h2 h3 e 0 (VM n f) (n+1) (by omega) (by omega)))),Aw.refl _⟩
noncomputable def Abo:AM:=(76,Wu)::(78,AdV)::(77,LY)::[]
theorem Abn:Ar Tryz.prog Gl Abo:=.cons p103 <| .cons p104 <| .cons p69 .nil
theorem Ain (L:LT) (n:Nat) (f:Nat->E6) (h19:CJ n=true) (h0:Ef n f=true) (h20:FF n=true):(Ax (Ak tab ⟨A0 Abo,L,Gl⟩ Tryz.f51 [AC n f] [])).sem=some ((.tup [.ref 0,iV 0]),[.row 76 6 n (λi=>eV (J1 n f (ofNat (WX n (λi=>BL (f i)))) i))]):=by
 exact Ad (ks:=[kL n,kn h19,kn h0,kN kT,kL n,kn h20,kL n,kn h19]) (by kernel_rfl)
def PO:List V->A9:=GK λn f=>.br (CJ n) (.br (Ef n f) (.leaf (.tup [.ref 0,iV 0],[.row 76 6 n λi=>eV (J1 n f (ofNat (WX n λk=>BL (f k))) i)])) (.leaf (.tup [.ref 0,iV 30],[.row 76 6 0 λ_=>.und]))) .fail
theorem p66:As Tryz.prog Gl 51 PO:=by
 refine Am A8 mixed Tryz.func51 (by kernel_rfl) (by kernel_rfl) λvs v h' h=>?_;obtain ⟨n,f,ha,h⟩:=Dd h;obtain ⟨hn,h⟩:=Ac h;have hx:=Bi Abn [];cases hm:Ef n f with
 | true =>rw [hm] at h;have:=Aa h;simp only [Prod.mk.injEq] at this;obtain ⟨rfl,rfl⟩:=this;exact ⟨_,Bd Gl Abo [],_,ha,rfl,hx.1,hx.2,Ain _ n f hn hm (Gu hn),Aw.refl _⟩
 | false =>rw [hm] at h;have:=Aa h;simp only [Prod.mk.injEq] at this;obtain ⟨rfl,rfl⟩:=this;exact ⟨_,Bd Gl Abo [],_,ha,rfl,hx.1,hx.2,Ad (ks:=[kL n,kn hn,kn hm,kN kF]) (by kernel_rfl)/-W:wc66n-/,Aw.refl _⟩
noncomputable def tb16:AM:=(48,Jn)::(51,PO)::(43,RD)::[]
theorem tb16_ok:Ar Tryz.prog Gl tb16:=.cons p65 <| .cons p66 <| .cons p42 <| .nil
theorem GT {n:Nat} {h g:Nat->Int} (hg:∀ i,i<n->g i=h i) (p i:Nat) (hn:0<n):ET n g p i=ET n h p i:=hg _ (Nat.mod_lt _ hn)
theorem Sr {n:Nat} {h g:Nat->Int} (hg:∀ i,i<n->g i=h i) {p:Nat} (hp:EI n g p):EI n h p:=by
 have hn:0<n:=by have:=hp.1; omega
 refine ⟨hp.1,λq hq hl=>hp.2 q hq ?_⟩;obtain ⟨s,h1,h2,h3⟩:=hl;exact ⟨s,h1,λt ht=>by rw [GT hg _ _ hn,GT hg _ _ hn]; exact h2 t ht,by rw [GT hg _ _ hn,GT hg _ _ hn]; exact h3⟩
theorem Ads {n:Nat} {f l:Nat->E6} (hm:Ef n f=true) (hl:∀ i,i<n->l i=f i):∀ i,i<n->C0 n l i=J1 n f (ofNat (WX n λk=>BL (f k))) i:=λi hi=>by
 have hn:0<n:=by omega
 have h1:EI n (λk=>BL (f k)) (Dz n λk=>BL (l k)):=Sr (g:=λk=>BL (l k)) (λt ht=>by show BL (l t)=BL (f t); rw [hl t ht]) (Uv n _ hn);have h2:=YL (λk=>BL (f k)) hn;have h3:=ZJ h1 h2 i hi;unfold C0 J1;rw [WH h2.1,hl _ (Nat.mod_lt _ hn)];exact Adr (F6.1 hm _ (Nat.mod_lt _ hn)) (F6.1 hm _ (Nat.mod_lt _ hn)) h3
end Go.Proofs.YtkbafjceglhjhaaGreatDoor.Ed
namespace Go.Proofs.YtkbafjceglhjhaaGreatDoor.Sh
open Go.Sy Ed
structure Cod (α:Type) where
 size:Nat
 enc:α->V
 ok:V->Bool
 ed:V->α
 law:∀ v,ok v=true->∀ (S:Nat->Prop) (w:World) (c:Value),VR S w v noK c->VR S w (enc (ed v)) noK c
def U2 (s:Nat):V->Option (Nat×(Nat->V))
 | .sl s' n g=>match Nat.beq s' s with
  | true=>some (n,g)
  | false=>match n with
   | 0=>some (0,g)
   | _=>none
 | .slr s' n _ g=>match Nat.beq s' s with
  | true=>some (n,g)
  | false=>none
 | .nilS=>some (0,λ_=>.und)
 | _=>none
theorem S6 {s:Nat} {v:V} {n:Nat} {g:Nat->V} (hg:U2 s v=some (n,g)) {e:Nat->V} (he:∀ i,i<n->∀ (S:Nat->Prop) (w:World) (c:Value),VR S w (g i) noK c->VR S w (e i) noK c)
  {S:Nat->Prop} {w:World} {c:Value} (hv:VR S w v noK c):VR S w (.sl s n e) noK c:=by
 unfold U2 at hg;split at hg
 ·rename_i s' n' g'
  split at hg
  ·rename_i hs
   simp only [Option.some.injEq,Prod.mk.injEq] at hg;obtain ⟨rfl,rfl⟩:=hg;have hs:s'=s:=Nat.eq_of_beq_eq_true hs;subst hs;obtain ⟨a,cap,ea,hc,hb⟩:=hv;refine ⟨a,cap,ea,hc,hb.imp id ?_⟩
   rintro ⟨b,o,eb,hel⟩
   refine ⟨b,o,eb,λi hi=>?_⟩;obtain ⟨ci,h1,h2⟩:=hel i hi;exact ⟨ci,he i hi S w ci h1,h2⟩
  ·split at hg
   ·simp only [Option.some.injEq,Prod.mk.injEq] at hg
    obtain ⟨rfl,rfl⟩:=hg;obtain ⟨a,cap,ea,hc,_⟩:=hv;exact ⟨a,cap,ea,hc,.inl rfl⟩
   ·cases hg
 ·rename_i s' n' m' g'
  split at hg
  ·rename_i hs
   simp only [Option.some.injEq,Prod.mk.injEq] at hg;obtain ⟨rfl,rfl⟩:=hg;have hs:s'=s:=Nat.eq_of_beq_eq_true hs;subst hs;obtain ⟨a,cap,ea,hc,hm,hb⟩:=hv;refine ⟨a,cap,ea,Nat.le_trans hc hm,?_⟩;rcases hb with h0 | ⟨b,o,eb,hel⟩
   ·exact .inl (by omega)
   ·refine .inr ⟨b,o,eb,λi hi=>?_⟩
    obtain ⟨ci,h1,h2⟩:=hel i (by omega);exact ⟨ci,he i hi S w ci h1,h2⟩
  ·cases hg
 ·simp only [Option.some.injEq,Prod.mk.injEq] at hg
  obtain ⟨rfl,rfl⟩:=hg;have hv:c = .slice none 0 0:=hv;exact ⟨none,0,hv,Nat.le_refl _,.inl rfl⟩
 ·cases hg
def apG {α β:Type} (c:Cod α) (v:V) (F:Nat->(Nat->α)->T β):T β :=
 match U2 c.size v with
 | some (n,g)=>.br (Be n λi=>c.ok (g i)) (F n λi=>c.ed (g i)) .fail
 | none=>.fail
def HI {α:Type} (c:Cod α) (n:Nat) (f:Nat->α):V:=.sl c.size n λi=>c.enc (f i)
theorem BX {α β:Type} {c:Cod α} {v:V} {F:Nat->(Nat->α)->T β} {r:β} (h:(apG c v F).sem=some r) :
  ∃ n f,(∀ (S:Nat->Prop) (w:World) (u:Value),VR S w v noK u->VR S w (HI c n f) noK u)∧(F n f).sem=some r:=by
 unfold apG at h;split at h
 ·rename_i n g hg
  obtain ⟨h1,h2⟩:=Ac h;have h1:=AE.1 h1;exact ⟨n,_,λS w u hv=>S6 hg (λi hi S w cc hc=>c.law _ (h1 i hi) S w cc hc) hv,h2⟩
 ·cases h
def codE:Cod E6:=⟨6,eV,okE,edE,λv h S w c hv=>by rw [<- MO h]; exact hv⟩
def QL:Cod Int:=⟨1,iV,okI,edI,λv h S w c hv=>by rw [<- MN h]; exact hv⟩
def toX:V->Option Ev5
 | .agg [.val (.int .i64 a),.val (.int .i64 b),.val (.int .i64 c),.val (.int .i64 d),.val (.int .i64 e)]=>some ⟨a,b,c,d,e⟩
 | _=>none
theorem Yf {v:V} {e:Ev5} (h:toX v=some e):v=evV e:=by
 unfold toX at h;split at h
 ·simp only [Option.some.injEq] at h
  subst h;rfl
 ·cases h
def okX (v:V):Bool:=match toX v with
 | some _=>true
 | none=>false
def edX (v:V):Ev5:=match toX v with
 | some e=>e
 | none=>⟨0,0,0,0,0⟩
theorem Za {v:V} (h:okX v=true):v=evV (edX v):=by
 unfold okX at h;unfold edX;split at h
 ·rename_i e he
  exact Yf he
 ·cases h
def QK:Cod Ev5:=⟨5,evV,okX,edX,λv h S w c hv=>by rw [<- Za h]; exact hv⟩
def okJ (v:V):Bool:=match U2 1 v with
 | some (n,g)=>Be n λi=>okI (g i)
 | none=>false
def edJ (v:V):Nat×(Nat->Int):=match U2 1 v with
 | some (n,g)=>(n,λi=>edI (g i))
 | none=>(0,λ_=>0)
def codJ:Cod (Nat×(Nat->Int)):=⟨1,λp=>.sl 1 p.1 λi=>iV (p.2 i),okJ,edJ,λv h S w c hv=>by
 unfold okJ at h;unfold edJ;split at h
 ·rename_i n g hg
  have h:=AE.1 h;exact S6 hg (λi hi S w cc hc=>by rw [<- MN (h i hi)]; exact hc) hv
 ·cases h⟩
structure Sh7 where
 arch:Int
 ne:Nat
 E:Nat->E6
 nx:Nat
 X:Nat->Ev5
 tt:Int
 kk:Int
 nr:Nat
 R:Nat->Int
 nc:Nat
 C:Nat->Nat×(Nat->Int)
def GQ (s:Sh7):V:=.agg [iV s.arch,HI codE s.ne s.E,HI QK s.nx s.X,iV s.tt,iV s.kk,HI QL s.nr s.R,HI codJ s.nc s.C]
def apS {β:Type} (v:V) (F:Sh7->T β):T β :=
 match v with
 | .agg [.val (.int .i64 a),e,x,.val (.int .i64 t),.val (.int .i64 k),r,c]=>apG codE e λne E=>apG QK x λnx X=>apG QL r λnr R=>apG codJ c λnc C=>F ⟨a,ne,E,nx,X,t,k,nr,R,nc,C⟩
 | _=>.fail
theorem apS_some {β:Type} {v:V} {F:Sh7->T β} {r:β} (h:(apS v F).sem=some r) :
  ∃ s,(∀ (S:Nat->Prop) (w:World) (u:Value),VR S w v noK u->VR S w (GQ s) noK u)∧(F s).sem=some r:=by
 unfold apS at h;split at h
 ·obtain ⟨ne,E,h1,h⟩:=BX h
  obtain ⟨nx,X,h2,h⟩:=BX h;obtain ⟨nr,R,h3,h⟩:=BX h;obtain ⟨nc,C,h4,h⟩:=BX h;refine ⟨_,λS w u hv=>?_,h⟩;obtain ⟨ca,rfl,a1,l1,rfl,q1,a2,l2,rfl,q2,a3,l3,rfl,q3,a4,l4,rfl,q4,a5,l5,rfl,q5,a6,l6,rfl,q6,a7,l7,rfl,q7,q8⟩:=hv;exact ⟨_,rfl,a1,_,rfl,q1,a2,_,rfl,h1 S w _ q2,a3,_,rfl,h2 S w _ q3,a4,_,rfl,q4,a5,_,rfl,q5,a6,_,rfl,h3 S w _ q6,a7,_,rfl,h4 S w _ q7,q8⟩
 ·cases h
theorem Xa {P:Program} {G:Nat->V} {f:FuncId} {F F':List V->A9} (h:As P G f F) (hF:∀ vs v h',(F' vs).sem=some (v,h')->∃ h'',(F vs).sem=some (v,h'')∧Aw h'' h'):As P G f F':=by
 refine ⟨h.1,λvs cs S w v h' h1 h2 h3 h4=>?_⟩;obtain ⟨h'',h5,h6⟩:=hF vs v h' h4;obtain ⟨hr,hc⟩:=h.2 vs cs S w v h'' h1 h2 h3 h5;refine ⟨h6.rows hr,hc.mono ?_⟩
 rintro e w' ⟨u,κ',S',rfl,g1,g2,g3⟩
 obtain ⟨p1,p2⟩:=h6.good g1;refine ⟨u,κ',S',rfl,p1,g2,Ext.ofNil g3.os g3.tape g3.output g3.size g3.keep (λi b hb=>?_) g3.sub g3.sup (h6.rows hr)⟩;rw [p2] at hb;exact g3.own i b hb
theorem p93:As Tryz.prog Gl 51 Jn:=by
 refine Xa p66 λvs v h' h=>?_;unfold Jn at h;unfold PO;unfold GK at h ⊢;split at h
 ·rename_i u
  unfold apL at h ⊢;split at h
  ·rename_i n g hg
   obtain ⟨h1,h2⟩:=Ac h;obtain ⟨h3,h4⟩:=Ac h2;rw [h1];dsimp only;rw [h3];cases hm:Ef n (λi=>edE (g i)) with
   | false =>rw [hm] at h4;exact ⟨h',h4,Aw.refl _⟩
   | true =>rw [hm] at h4;have:=Aa h4;simp only [Prod.mk.injEq] at this;obtain ⟨rfl,rfl⟩:=this;refine ⟨_,rfl,Aw.one λi hi=>?_⟩;rw [Ads hm (λ_ _=>rfl) i hi]
  ·cases h
 ·cases h
abbrev shL (a:Int) (n:Nat) (g:Nat->E6) (m:Nat) (x:Nat->Ev5) (t k:Int) (p:Nat) (r:Nat->Int) (q:Nat) (ln:Nat->Nat) (co:Nat->Nat->Int):List V:=[iV a,.sl 6 n (λi=>eV (g i)),.sl 5 m (λi=>evV (x i)),iV t,iV k,.sl 1 p (λi=>iV (r i)),.sl 1 q (λu=>.sl 1 (ln u) (λi=>iV (co u i)))]
end Go.Proofs.YtkbafjceglhjhaaGreatDoor.Sh
