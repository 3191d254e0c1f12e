/-
  The least turned list the document's way; the law CycleTurned as a function. No conditions.
-/
import Derived.Test.YtkbafjceglhjhaaGreatDoorCyZ
import Derived.Test.YtkbafjceglhjhaaGreatDoorEdY
namespace Go.Proofs.YtkbafjceglhjhaaGreatDoor.Ed
open Go.Sy Go
open Int (ofNat)
def inN (n:Nat) (a:Int):Bool:=Aj (ile 0 a) (ilt a (ofNat n))
theorem MZ {n a:Nat} (h:a<n):inN n (ofNat a)=true:=Ae h
theorem TW {n:Nat} {a:Int} (h:inN n a=true):a=ofNat (toN a)∧toN a<n:=by
 simp only [inN,Aj,ile,ilt,Bool.and_eq_true,decide_eq_true_eq,Int.ofNat_eq_natCast] at h;simp only [toN,Int.ofNat_eq_natCast];omega
def Kb (n:Nat) (h:Nat->Int) (a b:Nat):Nat->Nat->Option Bool
 | 0,_=>none
 | d+1,i=>if h ((a+i) % n)=h ((b+i) % n) then Kb n h a b d (i+1) else some (decide (h ((a+i) % n)<h ((b+i) % n)))
def IQ (n:Nat) (h:Nat->Int) (a b:Nat):Bool:=(Kb n h a b n 0).getD false
theorem Po {n:Nat} {h:Nat->Int} {a b:Nat}:∀ d i,n=i+d->(∀ t,t<i->Fv n h a t=Fv n h b t)->((Kb n h a b d i).getD false=true↔J9 n h a b)
 | 0,i,hd,hi=>by
  refine ⟨λh1=>(by cases h1),λ⟨s,h1,_,h3⟩=>?_⟩;rw [hi s (by omega)] at h3;omega
 | d+1,i,hd,hi=>by
  unfold Kb;by_cases he:h ((a+i) % n)=h ((b+i) % n)
  ·rw [if_pos he]
   refine Po d (i+1) (by omega) λt ht=>?_;by_cases hti:t=i
   ·rw [hti]; exact he
   ·exact hi t (by omega)
  ·rw [if_neg he]
   refine ⟨λh1=>⟨i,by omega,hi,of_decide_eq_true h1⟩,λ⟨s,h1,h2,h3⟩=>decide_eq_true ?_⟩;rcases Nat.lt_trichotomy s i with hs | hs | hs
   ·rw [hi s hs] at h3; omega
   ·rw [hs] at h3; exact h3
   ·exact absurd (h2 i hs) he
theorem Pp {n:Nat} {h:Nat->Int} {a b:Nat}:IQ n h a b=true↔J9 n h a b:=Po n 0 (by omega) λt ht=>absurd ht (Nat.not_lt_zero _)
def Wj (n:Nat) (h:Nat->Int) (a b:Nat) (v:Bool):Ex×St:=(.rt,⟨jsV 40 0 Ab [(6,bV v)],[]⟩)
def On (n:Nat) (h:Nat->Int) (a b:Nat):Lp:=⟨bmK 40 0 [0,1,2,6,7,8],0,bmK 40 0 [6],0,n+1⟩
def PQ (n:Nat) (h:Nat->Int) (a b:Nat) (i:Nat) (j:Nat->V):St:=⟨jsV 40 0 j [(0,.sl 1 n λk=>iV (h k)),(1,nV a),(2,nV b),(6,bV false),(7,nV n),(8,nV i)],[]⟩
def Wk (n:Nat) (h:Nat->Int) (a b:Nat) (i:Nat):Ex×St:=(.ex 0,⟨jsV 40 0 Ab [(6,bV false)],[]⟩)
noncomputable def Jv (L:LT):St->T (Ex×St):=λst=>A8 tab ⟨Ax tb0,L,Gl⟩ (As Tryz.f120 0) 0 st
section
variable (L:LT) (n:Nat) (h:Nat->Int) (a b:Nat) (i:Nat)  (j:Nat->V)
include L n h a b i j
theorem Ajs (h0:ilt (ofNat i) (ofNat n)=false):Ay (Jv L) (On n h a b) (PQ n h a b i j)=some ((.ex 0),⟨jsV 40 0 Ab [(6,bV false)],[]⟩):=by
 exact Ad (ks:=[kn h0]) (by kernel_rfl)
theorem Ajr (h0:ilt (ofNat i) (ofNat n)=true) (h1:ieq (ofNat n) 0=false) (h20:Aj (ile 0 (Aq (wr .i64 (Ah (ofNat a) (ofNat i))) (ofNat n))) (ilt (Aq (wr .i64 (Ah (ofNat a) (ofNat i))) (ofNat n)) (ofNat n))=true) (h22:Aj (ile 0 (Aq (wr .i64 (Ah (ofNat b) (ofNat i))) (ofNat n))) (ilt (Aq (wr .i64 (Ah (ofNat b) (ofNat i))) (ofNat n)) (ofNat n))=true) (h2:ieq (h (toN (Aq (wr .i64 (Ah (ofNat a) (ofNat i))) (ofNat n)))) (h (toN (Aq (wr .i64 (Ah (ofNat b) (ofNat i))) (ofNat n))))=true):Ay (Jv L) (On n h a b) (PQ n h a b i j)=some (.nm,⟨jsV 40 0 Ab [(0,.sl 1 n (λk=>iV (h k))),(1,nV a),(2,nV b),(6,bV false),(7,nV n),(8,iV (wr .i64 (Ah (ofNat i) 1)))],[]⟩):=by
 exact Ad (ks:=[kn h0,kn h1,kn h20,kn h1,kn h22,kN (kn h2)]) (by kernel_rfl)
theorem Ajq (h0:ilt (ofNat i) (ofNat n)=true) (h1:ieq (ofNat n) 0=false) (h20:Aj (ile 0 (Aq (wr .i64 (Ah (ofNat a) (ofNat i))) (ofNat n))) (ilt (Aq (wr .i64 (Ah (ofNat a) (ofNat i))) (ofNat n)) (ofNat n))=true) (h22:Aj (ile 0 (Aq (wr .i64 (Ah (ofNat b) (ofNat i))) (ofNat n))) (ilt (Aq (wr .i64 (Ah (ofNat b) (ofNat i))) (ofNat n)) (ofNat n))=true) (h2:ieq (h (toN (Aq (wr .i64 (Ah (ofNat a) (ofNat i))) (ofNat n)))) (h (toN (Aq (wr .i64 (Ah (ofNat b) (ofNat i))) (ofNat n))))=false):Ay (Jv L) (On n h a b) (PQ n h a b i j)=some (.rt,⟨jsV 40 0 Ab [(6,bV (ilt (h (toN (Aq (wr .i64 (Ah (ofNat a) (ofNat i))) (ofNat n)))) (h (toN (Aq (wr .i64 (Ah (ofNat b) (ofNat i))) (ofNat n))))))],[]⟩):=by
 exact Ad (ks:=[kn h0,kn h1,kn h20,kn h1,kn h22,kN (kn h2)]) (by kernel_rfl)
end
def AbO (n:Nat) (h:Nat->Int) (a b:Nat) :Nat->V:=lkV AI [(11,.sl 1 n (λi=>iV (h i))),(12,nV n)]
theorem AhP (L:LT) (p0:PT) (n:Nat) (h:Nat->Int) (a b:Nat) (i:Nat)  (hp0:p0 (Jv (onP 0 p0 (Wk n h a b i) L)) (PQ n h a b 0 (AbO n h a b ))=true):(A0 (Ai tab ⟨Ax tb0,onP 0 p0 (Wk n h a b i) L,Gl⟩ Tryz.f120 [Fh n h,nV a,nV b] [])).sem=some ((bV false),[]):=by
 exact Ad (ks:=[kn hp0]) (by kernel_rfl)
theorem AhO (L:LT) (p0:PT) (n:Nat) (h:Nat->Int) (a b:Nat) (v:Bool)  (hp0:p0 (Jv (onP 0 p0 (Wj n h a b v) L)) (PQ n h a b 0 (AbO n h a b ))=true):(A0 (Ai tab ⟨Ax tb0,onP 0 p0 (Wj n h a b v) L,Gl⟩ Tryz.f120 [Fh n h,nV a,nV b] [])).sem=some ((bV v),[]):=by
 exact Ad (ks:=[kn hp0]) (by kernel_rfl)
theorem AcX (n a i:Nat) (ha:a<n) (hn:n <= 4611686018427387904) (hi:i<n):Aq (wr .i64 (Ah (ofNat a) (ofNat i))) (ofNat n)=ofNat ((a+i) % n)∧(a+i) % n<n:=by
 rw [FT (by omega),DZ];exact ⟨rfl,Nat.mod_lt _ (by omega)⟩
theorem X1 (n a i:Nat) (ha:a<n) (hn:n <= 4611686018427387904) (hi:i<n):Aj (ile 0 (Aq (wr .i64 (Ah (ofNat a) (ofNat i))) (ofNat n))) (ilt (Aq (wr .i64 (Ah (ofNat a) (ofNat i))) (ofNat n)) (ofNat n))=true:=by
 obtain ⟨e1,l1⟩:=AcX n a i ha hn hi;rw [e1];exact Ae l1
theorem AgQ (n i:Nat) (hi:i<n):ieq (ofNat n) 0=false:=by rw [show (0:Int)=ofNat 0 from rfl,D8,decide_eq_false (by omega)]
theorem Aav (L:LT) (n:Nat) (h:Nat->Int) (a b:Nat) (hn:n <= 4611686018427387904) (ha:a<n) (hb:b<n):∀ (d i:Nat) (j:Nat->V) (q:Nat),n=i+d->d<q ->
  (Au (Jv L) (On n h a b) q (PQ n h a b i j)).sem=some (match Kb n h a b d i with | none=>Wk n h a b 0 | some v=>Wj n h a b v)
 | 0,i,j,q+1,h1,_=>by
  have:n=i:=by omega
  subst this;exact Ag (Ajs L n h a b n j (Az (Nat.le_refl _)))
 | d+1,i,j,q+1,h1,h2=>by
  have hi:i<n:=by omega
  obtain ⟨e1,l1⟩:=AcX n a i ha hn hi;obtain ⟨e2,l2⟩:=AcX n b i hb hn hi;unfold Kb;by_cases he:h ((a+i) % n)=h ((b+i) % n)
  ·have hq:ieq (h (toN (Aq (wr .i64 (Ah (ofNat a) (ofNat i))) (ofNat n)))) (h (toN (Aq (wr .i64 (Ah (ofNat b) (ofNat i))) (ofNat n))))=true:=by
    rw [e1,e2];show ieq (h ((a+i) % n)) (h ((b+i) % n))=true;rw [he];exact RQ _
   rw [if_pos he,Ag (Ajr L n h a b i j (ofNat_lt hi) (AgQ n i hi) (X1 n a i ha hn hi) (X1 n b i hb hn hi) hq),AV,A1 hi hn];exact Aav L n h a b hn ha hb d (i+1) Ab q (by omega) (by omega)
  ·have hq:ieq (h (toN (Aq (wr .i64 (Ah (ofNat a) (ofNat i))) (ofNat n)))) (h (toN (Aq (wr .i64 (Ah (ofNat b) (ofNat i))) (ofNat n))))=false:=by
    rw [e1,e2];show ieq (h ((a+i) % n)) (h ((b+i) % n))=false;simp [ieq,he]
   have hr:=Ajq L n h a b i j (ofNat_lt hi) (AgQ n i hi) (X1 n a i ha hn hi) (X1 n b i hb hn hi) hq;rw [e1,e2] at hr;rw [if_neg he];exact Ag hr
def W3:List V->A3
 | [v,.val (.int .i64 a),.val (.int .i64 b)]=>apI v λn h=>.br (Gv n) (.br (Aj (inN n a) (inN n b)) (out (bV (IQ n h (toN a) (toN b)))) .fail) .fail
 | _=>.fail
theorem Zv {a b:Bool} (h:Aj a b=true):a=true∧b=true:=by simpa [Aj] using h
theorem Ape:An Tryz.prog Gl 120 W3:=by
 refine Al A2 mixed Tryz.func120 (by kernel_rfl) (by kernel_rfl) λvs v h' hh=>?_;unfold W3 at hh;split at hh
 ·rename_i u a b
  obtain ⟨n,h,hv,h1⟩:=D2 hh;obtain ⟨h8,h2⟩:=Ac h1;obtain ⟨hab,h3⟩:=Ac h2;have:=Aa h3;simp only [Prod.mk.injEq] at this;obtain ⟨rfl,rfl⟩:=this;obtain ⟨ha,hb⟩:=Zv hab;obtain ⟨ea,la⟩:=TW ha;obtain ⟨eb,lb⟩:=TW hb;have hA:Bz [u,iV a,iV b] [Fh n h,iV (ofNat (toN a)),iV (ofNat (toN b))]:=λS w cs q=>by
   rw [<- ea,<- eb];obtain ⟨c,l,rfl,q1,q2⟩:=q;exact ⟨c,l,rfl,hv S w c q1,q2⟩
  have hx:=Bq BS [(0,On n h (toN a) (toN b))];have hL:=Bh [(0,On n h (toN a) (toN b))];have hr:=λL=>Aav L n h (toN a) (toN b) (Eh h8) la lb n 0 (AbO n h (toN a) (toN b)) (n+1) (by omega) (by omega);refine ⟨_,AP Gl tb0 [(0,On n h (toN a) (toN b))],_,hA,rfl,hx.1,hx.2,?_,Ap.refl _⟩;unfold IQ;cases hc:Kb n h (toN a) (toN b) n 0 with
  | none =>rw [hc] at hr;exact Bn (Be hL hL) _ (AhP _ _ n h (toN a) (toN b) 0 (A5 (hr _)))
  | some v =>rw [hc] at hr;exact Bn (Be hL hL) _ (AhO _ _ n h (toN a) (toN b) v (A5 (hr _)))
 ·cases hh
noncomputable def tb104:A9:=(120,W3)::[]
theorem tb104_ok:Ao Tryz.prog Gl tb104:=.cons Ape .nil
def V4 (n:Nat) (h:Nat->Int):Nat->Nat->Nat->Nat
 | 0,_,b=>b
 | d+1,i,b=>if IQ n h i b=true then V4 n h d (i+1) i else V4 n h d (i+1) b
def Y4 (n:Nat) (h:Nat->Int):Nat:=V4 n h (n-1) 1 0
theorem NG {n:Nat} {h:Nat->Int}:∀ d i b,n=i+d->b<i->(∀ q,q<i->¬ J9 n h q b)->Fg n h (V4 n h d i b)
 | 0,i,b,hd,hb,hq=>⟨by show b<n; omega,λq hq'=>hq q (by omega)⟩
 | d+1,i,b,hd,hb,hq=>by
  unfold V4;by_cases ha:IQ n h i b=true
  ·rw [if_pos ha]
   have hl:=Pp.1 ha;refine NG d (i+1) i (by omega) (by omega) λq hq' hlt=>?_;by_cases hqi:q=i
   ·rw [hqi] at hlt; exact FG hlt
   ·exact hq q (by omega) (M4 hlt hl)
  ·rw [if_neg ha]
   refine NG d (i+1) b (by omega) (by omega) λq hq' hlt=>?_;by_cases hqi:q=i
   ·rw [hqi] at hlt; exact ha (Pp.2 hlt)
   ·exact hq q (by omega) hlt
theorem Aa1 {n:Nat} (h:Nat->Int) (hn:0<n):Fg n h (Y4 n h):=NG (n-1) 1 0 (by omega) (by omega) λq hq=>by
 have:q=0:=by omega
 subst this;exact FG
def Oo (n:Nat) (h:Nat->Int):Lp:=⟨bmK 17 0 [0,2,3,4],0,bmK 17 0 [2,3],0,n+1⟩
def Tc (n:Nat) (h:Nat->Int) (b i:Nat) (j:Nat->V):St:=⟨jsV 17 0 j [(0,.sl 1 n λk=>iV (h k)),(2,iV 0),(3,nV b),(4,nV i)],[]⟩
def Wl (n:Nat) (h:Nat->Int) (b i:Nat):Ex×St:=(.ex 0,⟨jsV 17 0 Ab [(2,iV 0),(3,nV b)],[]⟩)
noncomputable def Lg (L:LT):St->T (Ex×St):=λst=>A8 tab ⟨Ax tb104,L,Gl⟩ (As Tryz.f78 0) 0 st
section
variable (L:LT) (n:Nat) (h:Nat->Int) (b i:Nat)  (j:Nat->V)
include L n h b i j
theorem Aa2 (h0:ilt (ofNat i) (ofNat n)=false):Ay (Lg L) (Oo n h) (Tc n h b i j)=some ((.ex 0),⟨jsV 17 0 Ab [(2,iV 0),(3,nV b)],[]⟩):=by
 exact Ad (ks:=[kn h0]) (by kernel_rfl)
theorem Ajw (h0:ilt (ofNat i) (ofNat n)=true) (h18:Gv n=true) (h19:inN n (ofNat i)=true) (h20:inN n (ofNat b)=true) (h1:IQ n h i b=true):Ay (Lg L) (Oo n h) (Tc n h b i j)=some (.nm,⟨jsV 17 0 Ab [(0,.sl 1 n (λk=>iV (h k))),(2,iV 0),(3,nV i),(4,iV (wr .i64 (Ah (ofNat i) 1)))],[]⟩):=by
 exact Ad (ks:=[kn h0,kL n,kn h18,kA (kn h19) (kn h20),kn h1]) (by kernel_rfl)
theorem Ajx (h0:ilt (ofNat i) (ofNat n)=true) (h18:Gv n=true) (h19:inN n (ofNat i)=true) (h20:inN n (ofNat b)=true) (h1:IQ n h i b=false):Ay (Lg L) (Oo n h) (Tc n h b i j)=some (.nm,⟨jsV 17 0 Ab [(0,.sl 1 n (λk=>iV (h k))),(2,iV 0),(3,nV b),(4,iV (wr .i64 (Ah (ofNat i) 1)))],[]⟩):=by
 exact Ad (ks:=[kn h0,kL n,kn h18,kA (kn h19) (kn h20),kn h1]) (by kernel_rfl)
end
def AbP (n:Nat) (h:Nat->Int) :Nat->V:=lkV AI []
theorem Ag2 (L:LT) (p0:PT) (n:Nat) (h:Nat->Int) (b i:Nat)  (hp0:p0 (Lg (onP 0 p0 (Wl n h b i) L)) (Tc n h 0 1 (AbP n h ))=true):(A0 (Ai tab ⟨Ax tb104,onP 0 p0 (Wl n h b i) L,Gl⟩ Tryz.f78 [Fh n h] [])).sem=some ((nV b),[]):=by
 exact Ad (ks:=[kn hp0]) (by kernel_rfl)
theorem V2 (L:LT) (n:Nat) (h:Nat->Int) (h8:Gv n=true):∀ (d i b:Nat) (j:Nat->V) (q:Nat),n=i+d->b<i->d<q ->
  (Au (Lg L) (Oo n h) q (Tc n h b i j)).sem=some (Wl n h (V4 n h d i b) n)
 | 0,i,b,j,q+1,h1,_,_=>by
  have:n=i:=by omega
  subst this;exact Ag (Aa2 L n h b n j (Az (Nat.le_refl _)))
 | d+1,i,b,j,q+1,h1,hb,h2=>by
  have hi:i<n:=by omega
  unfold V4;cases ha:IQ n h i b with
  | true =>rw [if_pos rfl,Ag (Ajw L n h b i j (ofNat_lt hi) h8 (MZ hi) (MZ (by omega)) ha),AV,A1 hi (Eh h8)];exact V2 L n h h8 d (i+1) i Ab q (by omega) (by omega) (by omega)
  | false =>rw [if_neg (by decide),Ag (Ajx L n h b i j (ofNat_lt hi) h8 (MZ hi) (MZ (by omega)) ha),AV,A1 hi (Eh h8)];exact V2 L n h h8 d (i+1) b Ab q (by omega) (by omega) (by omega)
def AgF:List V->A3:=AfZ λn h=>.br (Gv n) (out (iV (ofNat (Y4 n h)))) .fail
theorem p104:An Tryz.prog Gl 78 AgF:=by
 refine Al A2 mixed Tryz.func78 (by kernel_rfl) (by kernel_rfl) λvs v h' hh=>?_;obtain ⟨n,h,hA,h1⟩:=QL hh;obtain ⟨h8,h3⟩:=Ac h1;have:=Aa h3;simp only [Prod.mk.injEq] at this;obtain ⟨rfl,rfl⟩:=this;have hx:=Bq tb104_ok [(0,Oo n h)];have hL:=Bh [(0,Oo n h)];refine ⟨_,AP Gl tb104 [(0,Oo n h)],_,hA,rfl,hx.1,hx.2,?_,Ap.refl _⟩;unfold Y4;rcases Nat.eq_zero_or_pos n with rfl | hn
 ·exact Bn (Be hL hL) _ (Ag2 _ _ 0 h 0 0 (A5 (Ag (Aa2 _ 0 h 0 1 (AbP 0 h) (Az (by omega))))))
 ·exact Bn (Be hL hL) _ (Ag2 _ _ n h _ n (A5 (V2 _ n h h8 (n-1) 1 0 (AbP n h) (n+1) (by omega) (by omega) (by omega))))
noncomputable def tb106:A9:=[]
theorem tb106_ok:Ao Tryz.prog Gl tb106:=.nil
noncomputable def tb103:A9:=(119,BV U2)::[]
theorem tb103_ok:Ao Tryz.prog Gl tb103:=.cons p25 .nil
def Sl (n:Nat) (f:Nat->E6) (k:Nat) (x:Nat->V):Ex×St:=(.rt,⟨jsV 31 0 Ab [(2,.ref 2),(3,bV false),(4,.ref 1)],[.row 3 1 0 λ_=>.und,.row 3 1 k x,.row 3 1 0 λ_=>.und]⟩)
def lp103 (n:Nat) (f:Nat->E6):Lp:=⟨bmK 31 0 [0,2,3,4,5],2,bmK 31 0 [2,3,4],3,n+1⟩
def Ml (n:Nat) (f:Nat->E6) (i k:Nat) (x:Nat->V) (j:Nat->V):St:=⟨jsV 31 0 j [(0,.sl 6 n λi=>eV (f i)),(2,.ref 0),(3,bV false),(4,.ref 1),(5,nV i)],[.row 3 1 0 λ_=>.und,.row 3 1 k x]⟩
def Wm (n:Nat) (f:Nat->E6) (i k:Nat) (x:Nat->V):Ex×St:=(.ex 0,⟨jsV 31 0 Ab [(2,.ref 0),(3,bV false),(4,.ref 1)],[.row 3 1 0 λ_=>.und,.row 3 1 k x]⟩)
noncomputable def GF (L:LT):St->T (Ex×St):=λst=>A8 tab ⟨Ax tb103,L,Gl⟩ (As Tryz.f76 0) 0 st
section
variable (L:LT) (n:Nat) (f:Nat->E6) (i k:Nat) (x:Nat->V)  (j:Nat->V)
include L n f i k x j
theorem Ajy (h0:ilt (ofNat i) (ofNat n)=false):Ay (GF L) (lp103 n f) (Ml n f i k x j)=some ((.ex 0),⟨jsV 31 0 Ab [(2,.ref 0),(3,bV false),(4,.ref 1)],[.row 3 1 0 Ab,.row 3 1 k x]⟩):=by
 exact Ad (ks:=[kn h0]) (by kernel_rfl)
theorem Aa3 (h0:ilt (ofNat i) (ofNat n)=true) (h20:ile 0 (ofNat i)=true) (h1:ieq (Bg (f i)) 0=true) (h21:Bp k 1 8=true):Ay (GF L) (lp103 n f) (Ml n f i k x j)=some (.nm,⟨jsV 31 0 Ab [(0,.sl 6 n (λi=>eV (f i))),(2,.ref 0),(3,bV false),(4,.ref 1),(5,iV (wr .i64 (Ah (ofNat i) 1)))],[.row 3 1 0 Ab,.row 3 1 (AD k 1) (AG k x (iV (BQ (f i))))]⟩):=by
 exact Ad (ks:=[kn h0,kA (kn h20) (kn h0),kN (kn h1),kn h21]) (by kernel_rfl)
theorem Aa4 (h0:ilt (ofNat i) (ofNat n)=true) (h20:ile 0 (ofNat i)=true) (h1:ieq (Bg (f i)) 0=false):Ay (GF L) (lp103 n f) (Ml n f i k x j)=some (.rt,⟨jsV 31 0 Ab [(2,.ref 2),(3,bV false),(4,.ref 1)],[.row 3 1 0 Ab,.row 3 1 k x,.row 3 1 0 Ab]⟩):=by
 exact Ad (ks:=[kn h0,kA (kn h20) (kn h0),kN (kn h1)]) (by kernel_rfl)
end
def Xv (n:Nat) (f:Nat->E6) :Nat->V:=lkV AI []
theorem AhV (L:LT) (p0:PT) (n:Nat) (f:Nat->E6) (i k:Nat) (x:Nat->V)  (hp0:p0 (GF (onP 0 p0 (Wm n f i k x) L)) (Ml n f 0 0 Ab (Xv n f ))=true):(A0 (Ai tab ⟨Ax tb103,onP 0 p0 (Wm n f i k x) L,Gl⟩ Tryz.f76 [AL n f] [])).sem=some ((.tup [.ref 0,bV true]),[.row 3 1 k x]):=by
 exact Ad (ks:=[kn hp0]) (by kernel_rfl)
theorem AhU (L:LT) (p0:PT) (n:Nat) (f:Nat->E6) (k:Nat) (x:Nat->V)  (hp0:p0 (GF (onP 0 p0 (Sl n f k x) L)) (Ml n f 0 0 Ab (Xv n f ))=true):(A0 (Ai tab ⟨Ax tb103,onP 0 p0 (Sl n f k x) L,Gl⟩ Tryz.f76 [AL n f] [])).sem=some ((.tup [.ref 0,bV false]),[.row 3 1 0 Ab]):=by
 exact Ad (ks:=[kn hp0]) (by kernel_rfl)
theorem WQ (L:LT) (n:Nat) (f:Nat->E6) (hn:CU n=true) (e:Nat) (he:e<n) (hb:Bg (f e)=30) (ho:∀ t,t<e->Bg (f t)=0):∀ (d i:Nat) (j:Nat->V) (q:Nat),e=i+d->d<q ->
  (Au (GF L) (lp103 n f) q (Ml n f i i (Cg (cdV f) i) j)).sem=some (Sl n f e (Cg (cdV f) e))
 | 0,i,j,q+1,h1,_=>by
  have:e=i:=by omega
  subst this;exact Ag (Aa4 L n f e e (Cg (cdV f) e) j (ofNat_lt he) (TY e) (by rw [hb]; rfl))
 | d+1,i,j,q+1,h1,h2=>by
  have hi:i<n:=by omega
  have hr:=Aa3 L n f i i (Cg (cdV f) i) j (ofNat_lt hi) (TY i) (by rw [ho i (by omega)]; rfl) (S4 hi (by decide) (of_decide_eq_true hn));rw [Ag hr,AV,A1 hi (Jm hn)];exact WQ L n f hn e he hb ho d (i+1) Ab q (by omega) (by omega)
theorem Aaw (L:LT) (n:Nat) (f:Nat->E6) (hn:CU n=true):∀ (d i:Nat) (j:Nat->V) (q:Nat),n=i+d->d<q->(∀ t,t<i->Bg (f t)=0) ->
  (Es n f=true∧(Au (GF L) (lp103 n f) q (Ml n f i i (Cg (cdV f) i) j)).sem=some (Wm n f n n (Cg (cdV f) n))) ∨ (Es n f=false∧∃ e,(Au (GF L) (lp103 n f) q (Ml n f i i (Cg (cdV f) i) j)).sem=some (Sl n f e (Cg (cdV f) e)))
 | 0,i,j,q+1,h1,_,ho=>by
  have:n=i:=by omega
  subst this;exact .inl ⟨Fb.2 ho,Ag (Ajy L n f n n _ j (Az (Nat.le_refl _)))⟩
 | d+1,i,j,q+1,h1,h2,ho=>by
  have hi:i<n:=by omega
  by_cases hc:Bg (f i)=0
  ·have hr:=Aa3 L n f i i (Cg (cdV f) i) j (ofNat_lt hi) (TY i) (by rw [hc]; rfl) (S4 hi (by decide) (of_decide_eq_true hn))
   have ih:=Aaw L n f hn d (i+1) Ab q (by omega) (by omega) λt ht=>by
    by_cases hti:t=i
    ·rw [hti]; exact hc
    ·exact ho t (by omega)
   rw [Ag hr,AV,A1 hi (Jm hn)];exact ih
  ·refine .inr ⟨?_,i,Ag (Aa4 L n f i i (Cg (cdV f) i) j (ofNat_lt hi) (TY i) (by simp [ieq,hc]))⟩
   cases hm:Es n f with
   | false=>rfl
   | true=>exact absurd (Fb.1 hm i hi) hc
def XN:List V->A3:=H5 λn f=>.br (CU n) (.br (Es n f) (.leaf (.tup [.ref 0,bV true],[.row 3 1 n λi=>iV (BQ (f i))])) (.leaf (.tup [.ref 0,bV false],[.row 3 1 0 λ_=>.und]))) .fail
theorem p103:An Tryz.prog Gl 76 XN:=by
 refine Al A2 mixed Tryz.func76 (by kernel_rfl) (by kernel_rfl) λvs v h' h=>?_;obtain ⟨n,f,ha,h⟩:=Do h;obtain ⟨hn,h⟩:=Ac h;have hx:=Bq tb103_ok [(0,lp103 n f)];have hL:=Bh [(0,lp103 n f)];have hr:=λL=>Aaw L n f hn n 0 (Xv n f) (n+1) (by omega) (by omega) λt ht=>absurd ht (Nat.not_lt_zero _);cases hm:Es n f with
 | true =>rw [hm] at h;have:=Aa h;simp only [Prod.mk.injEq] at this;obtain ⟨rfl,rfl⟩:=this;exact ⟨_,AP Gl tb103 [(0,lp103 n f)],_,ha,rfl,hx.1,hx.2,Bn (Be hL hL) _ (AhV _ _ n f n n _ (A5 ((hr _).elim (λq=>q.2) λq=>by rw [hm] at q; cases q.1))),Ap.one λj hj=>(I3 (cdV f) n j hj).symm⟩
 | false =>rw [hm] at h;have:=Aa h;simp only [Prod.mk.injEq] at this;obtain ⟨rfl,rfl⟩:=this;obtain ⟨e,h1,h2,h3⟩:=AaW hm;exact ⟨_,AP Gl tb103 [(0,lp103 n f)],_,ha,rfl,hx.1,hx.2,Bn (Be hL hL) _ (AhU _ _ n f e (Cg (cdV f) e) (A5 (WQ _ n f hn e h1 h2 h3 e 0 (Xv n f) (n+1) (by omega) (by omega)))),Ap.refl _⟩
noncomputable def AdB:A9:=(76,XN)::(78,AgF)::(77,Kk)::[]
theorem AdA:Ao Tryz.prog Gl AdB:=.cons p103 <| .cons p104 <| .cons p69 .nil
theorem Alb (L:LT) (n:Nat) (f:Nat->E6) (h19:CU n=true) (h0:Es n f=true) (h20:Gv n=true):(A0 (Ai tab ⟨Ax AdB,L,Gl⟩ Tryz.f51 [AL n f] [])).sem=some ((.tup [.ref 0,iV 0]),[.row 76 6 n (λi=>eV (Kl n f (ofNat (Y4 n (λi=>BQ (f i)))) i))]):=by
 exact Ad (ks:=[kL n,kn h19,kn h0,kN kT,kL n,kn h20,kL n,kn h19]) (by kernel_rfl)
def Rk:List V->A3:=H5 λn f=>.br (CU n) (.br (Es n f) (.leaf (.tup [.ref 0,iV 0],[.row 76 6 n λi=>eV (Kl n f (ofNat (Y4 n λk=>BQ (f k))) i)])) (.leaf (.tup [.ref 0,iV 30],[.row 76 6 0 λ_=>.und]))) .fail
theorem p66:An Tryz.prog Gl 51 Rk:=by
 refine Al A2 mixed Tryz.func51 (by kernel_rfl) (by kernel_rfl) λvs v h' h=>?_;obtain ⟨n,f,ha,h⟩:=Do h;obtain ⟨hn,h⟩:=Ac h;have hx:=Bq AdA [];cases hm:Es n f with
 | true =>rw [hm] at h;have:=Aa h;simp only [Prod.mk.injEq] at this;obtain ⟨rfl,rfl⟩:=this;exact ⟨_,AP Gl AdB [],_,ha,rfl,hx.1,hx.2,Alb _ n f hn hm (Hb hn),Ap.refl _⟩
 | false =>rw [hm] at h;have:=Aa h;simp only [Prod.mk.injEq] at this;obtain ⟨rfl,rfl⟩:=this;exact ⟨_,AP Gl AdB [],_,ha,rfl,hx.1,hx.2,Ad (ks:=[kL n,kn hn,kn hm,kN kF]) (by kernel_rfl)/-W:wc66n-/,Ap.refl _⟩
noncomputable def tb16:A9:=(48,IK)::(51,Rk)::(43,NC)::[]
theorem tb16_ok:Ao Tryz.prog Gl tb16:=.cons p65 <| .cons p66 <| .cons p42 <| .nil
theorem HA {n:Nat} {h g:Nat->Int} (hg:∀ i,i<n->g i=h i) (p i:Nat) (hn:0<n):Fv n g p i=Fv n h p i:=hg _ (Nat.mod_lt _ hn)
theorem TT {n:Nat} {h g:Nat->Int} (hg:∀ i,i<n->g i=h i) {p:Nat} (hp:Fg n g p):Fg n h p:=by
 have hn:0<n:=by have:=hp.1; omega
 refine ⟨hp.1,λq hq hl=>hp.2 q hq ?_⟩;obtain ⟨s,h1,h2,h3⟩:=hl;exact ⟨s,h1,λt ht=>by rw [HA hg _ _ hn,HA hg _ _ hn]; exact h2 t ht,by rw [HA hg _ _ hn,HA hg _ _ hn]; exact h3⟩
theorem AfU {n:Nat} {f l:Nat->E6} (hm:Es n f=true) (hl:∀ i,i<n->l i=f i):∀ i,i<n->CH n l i=Kl n f (ofNat (Y4 n λk=>BQ (f k))) i:=λi hi=>by
 have hn:0<n:=by omega
 have h1:Fg n (λk=>BQ (f k)) (DG n λk=>BQ (l k)):=TT (g:=λk=>BQ (l k)) (λt ht=>by show BQ (l t)=BQ (f t); rw [hl t ht]) (VM n _ hn);have h2:=Aa1 (λk=>BQ (f k)) hn;have h3:=AbT h1 h2 i hi;unfold CH Kl;rw [Yn h2.1,hl _ (Nat.mod_lt _ hn)];exact AfT (Fb.1 hm _ (Nat.mod_lt _ hn)) (Fb.1 hm _ (Nat.mod_lt _ hn)) h3
end Go.Proofs.YtkbafjceglhjhaaGreatDoor.Ed
namespace Go.Proofs.YtkbafjceglhjhaaGreatDoor.Sh
open Go.Sy Ed
structure Cod (α:Type) where
 size:Nat
 enc:α->V
 ok:V->Bool
 ed:V->α
 law:∀ v,ok v=true->∀ (S:Nat->Prop) (w:World) (c:Value),VR S w v noK c->VR S w (enc (ed v)) noK c
def P7 (s:Nat):V->Option (Nat×(Nat->V))
 | .sl s' n g=>match Nat.beq s' s with
  | true=>some (n,g)
  | false=>match n with
   | 0=>some (0,g)
   | _=>none
 | .slr s' n _ g=>match Nat.beq s' s with
  | true=>some (n,g)
  | false=>none
 | .nilS=>some (0,λ_=>.und)
 | _=>none
theorem KD {s:Nat} {v:V} {n:Nat} {g:Nat->V} (hg:P7 s v=some (n,g)) {e:Nat->V} (he:∀ i,i<n->∀ (S:Nat->Prop) (w:World) (c:Value),VR S w (g i) noK c->VR S w (e i) noK c)
  {S:Nat->Prop} {w:World} {c:Value} (hv:VR S w v noK c):VR S w (.sl s n e) noK c:=by
 unfold P7 at hg;split at hg
 ·rename_i s' n' g'
  split at hg
  ·rename_i hs
   simp only [Option.some.injEq,Prod.mk.injEq] at hg;obtain ⟨rfl,rfl⟩:=hg;have hs:s'=s:=Nat.eq_of_beq_eq_true hs;subst hs;obtain ⟨a,cap,ea,hc,hb⟩:=hv;refine ⟨a,cap,ea,hc,hb.imp id ?_⟩
   rintro ⟨b,o,eb,hel⟩
   refine ⟨b,o,eb,λi hi=>?_⟩;obtain ⟨ci,h1,h2⟩:=hel i hi;exact ⟨ci,he i hi S w ci h1,h2⟩
  ·split at hg
   ·simp only [Option.some.injEq,Prod.mk.injEq] at hg
    obtain ⟨rfl,rfl⟩:=hg;obtain ⟨a,cap,ea,hc,_⟩:=hv;exact ⟨a,cap,ea,hc,.inl rfl⟩
   ·cases hg
 ·rename_i s' n' m' g'
  split at hg
  ·rename_i hs
   simp only [Option.some.injEq,Prod.mk.injEq] at hg;obtain ⟨rfl,rfl⟩:=hg;have hs:s'=s:=Nat.eq_of_beq_eq_true hs;subst hs;obtain ⟨a,cap,ea,hc,hm,hb⟩:=hv;refine ⟨a,cap,ea,Nat.le_trans hc hm,?_⟩;rcases hb with h0 | ⟨b,o,eb,hel⟩
   ·exact .inl (by omega)
   ·refine .inr ⟨b,o,eb,λi hi=>?_⟩
    obtain ⟨ci,h1,h2⟩:=hel i (by omega);exact ⟨ci,he i hi S w ci h1,h2⟩
  ·cases hg
 ·simp only [Option.some.injEq,Prod.mk.injEq] at hg
  obtain ⟨rfl,rfl⟩:=hg;have hv:c = .slice none 0 0:=hv;exact ⟨none,0,hv,Nat.le_refl _,.inl rfl⟩
 ·cases hg
def apG {α β:Type} (c:Cod α) (v:V) (F:Nat->(Nat->α)->T β):T β :=
 match P7 c.size v with
 | some (n,g)=>.br (Bi n λi=>c.ok (g i)) (F n λi=>c.ed (g i)) .fail
 | none=>.fail
def Ez {α:Type} (c:Cod α) (n:Nat) (f:Nat->α):V:=.sl c.size n λi=>c.enc (f i)
theorem BB {α β:Type} {c:Cod α} {v:V} {F:Nat->(Nat->α)->T β} {r:β} (h:(apG c v F).sem=some r) :
  ∃ n f,(∀ (S:Nat->Prop) (w:World) (u:Value),VR S w v noK u->VR S w (Ez c n f) noK u)∧(F n f).sem=some r:=by
 unfold apG at h;split at h
 ·rename_i n g hg
  obtain ⟨h1,h2⟩:=Ac h;have h1:=AE.1 h1;exact ⟨n,_,λS w u hv=>KD hg (λi hi S w cc hc=>c.law _ (h1 i hi) S w cc hc) hv,h2⟩
 ·cases h
def codE:Cod E6:=⟨6,eV,okE,edE,λv h S w c hv=>by rw [<- NW h]; exact hv⟩
def PC:Cod Int:=⟨1,iV,okI,edI,λv h S w c hv=>by rw [<- K2 h]; exact hv⟩
def toX:V->Option Ev5
 | .agg [.val (.int .i64 a),.val (.int .i64 b),.val (.int .i64 c),.val (.int .i64 d),.val (.int .i64 e)]=>some ⟨a,b,c,d,e⟩
 | _=>none
theorem ZK {v:V} {e:Ev5} (h:toX v=some e):v=evV e:=by
 unfold toX at h;split at h
 ·simp only [Option.some.injEq] at h
  subst h;rfl
 ·cases h
def okX (v:V):Bool:=match toX v with
 | some _=>true
 | none=>false
def edX (v:V):Ev5:=match toX v with
 | some e=>e
 | none=>⟨0,0,0,0,0⟩
theorem AaN {v:V} (h:okX v=true):v=evV (edX v):=by
 unfold okX at h;unfold edX;split at h
 ·rename_i e he
  exact ZK he
 ·cases h
def Sq:Cod Ev5:=⟨5,evV,okX,edX,λv h S w c hv=>by rw [<- AaN h]; exact hv⟩
def okJ (v:V):Bool:=match P7 1 v with
 | some (n,g)=>Bi n λi=>okI (g i)
 | none=>false
def edJ (v:V):Nat×(Nat->Int):=match P7 1 v with
 | some (n,g)=>(n,λi=>edI (g i))
 | none=>(0,λ_=>0)
def codJ:Cod (Nat×(Nat->Int)):=⟨1,λp=>.sl 1 p.1 λi=>iV (p.2 i),okJ,edJ,λv h S w c hv=>by
 unfold okJ at h;unfold edJ;split at h
 ·rename_i n g hg
  have h:=AE.1 h;exact KD hg (λi hi S w cc hc=>by rw [<- K2 (h i hi)]; exact hc) hv
 ·cases h⟩
structure Sh7 where
 arch:Int
 ne:Nat
 E:Nat->E6
 nx:Nat
 X:Nat->Ev5
 tt:Int
 kk:Int
 nr:Nat
 R:Nat->Int
 nc:Nat
 C:Nat->Nat×(Nat->Int)
def EY (s:Sh7):V:=.agg [iV s.arch,Ez codE s.ne s.E,Ez Sq s.nx s.X,iV s.tt,iV s.kk,Ez PC s.nr s.R,Ez codJ s.nc s.C]
def apS {β:Type} (v:V) (F:Sh7->T β):T β :=
 match v with
 | .agg [.val (.int .i64 a),e,x,.val (.int .i64 t),.val (.int .i64 k),r,c]=>apG codE e λne E=>apG Sq x λnx X=>apG PC r λnr R=>apG codJ c λnc C=>F ⟨a,ne,E,nx,X,t,k,nr,R,nc,C⟩
 | _=>.fail
theorem apS_some {β:Type} {v:V} {F:Sh7->T β} {r:β} (h:(apS v F).sem=some r) :
  ∃ s,(∀ (S:Nat->Prop) (w:World) (u:Value),VR S w v noK u->VR S w (EY s) noK u)∧(F s).sem=some r:=by
 unfold apS at h;split at h
 ·obtain ⟨ne,E,h1,h⟩:=BB h
  obtain ⟨nx,X,h2,h⟩:=BB h;obtain ⟨nr,R,h3,h⟩:=BB h;obtain ⟨nc,C,h4,h⟩:=BB h;refine ⟨_,λS w u hv=>?_,h⟩;obtain ⟨ca,rfl,a1,l1,rfl,q1,a2,l2,rfl,q2,a3,l3,rfl,q3,a4,l4,rfl,q4,a5,l5,rfl,q5,a6,l6,rfl,q6,a7,l7,rfl,q7,q8⟩:=hv;exact ⟨_,rfl,a1,_,rfl,q1,a2,_,rfl,h1 S w _ q2,a3,_,rfl,h2 S w _ q3,a4,_,rfl,q4,a5,_,rfl,q5,a6,_,rfl,h3 S w _ q6,a7,_,rfl,h4 S w _ q7,q8⟩
 ·cases h
theorem Qd {P:Program} {G:Nat->V} {f:FuncId} {F F':List V->A3} (h:An P G f F) (hF:∀ vs v h',(F' vs).sem=some (v,h')->∃ h'',(F vs).sem=some (v,h'')∧Ap h'' h'):An P G f F':=by
 refine ⟨h.1,λvs cs S w v h' h1 h2 h3 h4=>?_⟩;obtain ⟨h'',h5,h6⟩:=hF vs v h' h4;obtain ⟨hr,hc⟩:=h.2 vs cs S w v h'' h1 h2 h3 h5;refine ⟨h6.rows hr,hc.mono ?_⟩
 rintro e w' ⟨u,κ',S',rfl,g1,g2,g3⟩
 obtain ⟨p1,p2⟩:=h6.good g1;refine ⟨u,κ',S',rfl,p1,g2,Ext.ofNil g3.os g3.tape g3.output g3.size g3.keep (λi b hb=>?_) g3.sub g3.sup (h6.rows hr)⟩;rw [p2] at hb;exact g3.own i b hb
theorem p93:An Tryz.prog Gl 51 IK:=by
 refine Qd p66 λvs v h' h=>?_;unfold IK at h;unfold Rk;unfold H5 at h ⊢;split at h
 ·rename_i u
  unfold apL at h ⊢;split at h
  ·rename_i n g hg
   obtain ⟨h1,h2⟩:=Ac h;obtain ⟨h3,h4⟩:=Ac h2;rw [h1];dsimp only;rw [h3];cases hm:Es n (λi=>edE (g i)) with
   | false =>rw [hm] at h4;exact ⟨h',h4,Ap.refl _⟩
   | true =>rw [hm] at h4;have:=Aa h4;simp only [Prod.mk.injEq] at this;obtain ⟨rfl,rfl⟩:=this;refine ⟨_,rfl,Ap.one λi hi=>?_⟩;rw [AfU hm (λ_ _=>rfl) i hi]
  ·cases h
 ·cases h
abbrev shL (a:Int) (n:Nat) (g:Nat->E6) (m:Nat) (x:Nat->Ev5) (t k:Int) (p:Nat) (r:Nat->Int) (q:Nat) (ln:Nat->Nat) (co:Nat->Nat->Int):List V:=[iV a,.sl 6 n (λi=>eV (g i)),.sl 5 m (λi=>evV (x i)),iV t,iV k,.sl 1 p (λi=>iV (r i)),.sl 1 q (λu=>.sl 1 (ln u) (λi=>iV (co u i)))]
end Go.Proofs.YtkbafjceglhjhaaGreatDoor.Sh
