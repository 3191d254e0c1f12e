/-
  The least turned list the document's way; the law CycleTurned as a function. No conditions.
-/
import Derived.Test.YtkbgidbledjejaaGreatEnE
import Derived.Test.YtkbgidbledjejaaGreatCyU
import Derived.Test.YtkbgidbledjejaaGreatEnWd
import Derived.Test.YtkbgidbledjejaaGreatEnM
import Derived.Test.YtkbgidbledjejaaGreatCyI
import Derived.Test.YtkbgidbledjejaaGreatEnK
namespace Go.Proofs.YtkbgidbledjejaaGreat.Ed
open Go.Sy Go
open Int (ofNat)
def inN (n:Nat) (a:Int):Bool:=Av (ile 0 a) (ilt a (ofNat n))
theorem OK {n a:Nat} (h:a<n):inN n (ofNat a)=true:=Af h
theorem VL {n:Nat} {a:Int} (h:inN n a=true):a=ofNat (toN a)∧toN a<n:=by
 simp only [inN,Av,ile,ilt,Bool.and_eq_true,decide_eq_true_eq,Int.ofNat_eq_natCast] at h;simp only [toN,Int.ofNat_eq_natCast];omega
def Ld (n:Nat) (h:Nat->Int) (a b:Nat):Nat->Nat->Option Bool
 | 0,_=>none
 | d+1,i=>if h ((a+i) % n)=h ((b+i) % n) then Ld n h a b d (i+1) else some (decide (h ((a+i) % n)<h ((b+i) % n)))
def JH (n:Nat) (h:Nat->Int) (a b:Nat):Bool:=(Ld n h a b n 0).getD false
theorem Rj {n:Nat} {h:Nat->Int} {a b:Nat}:∀ d i,n=i+d->(∀ t,t<i->Fx n h a t=Fx n h b t)->((Ld n h a b d i).getD false=true↔K7 n h a b)
 | 0,i,hd,hi=>by
  refine ⟨λh1=>(by cases h1),λ⟨s,h1,_,h3⟩=>?_⟩;rw [hi s (by omega)] at h3;omega
 | d+1,i,hd,hi=>by
  unfold Ld;by_cases he:h ((a+i) % n)=h ((b+i) % n)
  ·rw [if_pos he]
   refine Rj d (i+1) (by omega) λt ht=>?_;by_cases hti:t=i
   ·rw [hti]; exact he
   ·exact hi t (by omega)
  ·rw [if_neg he]
   refine ⟨λh1=>⟨i,by omega,hi,of_decide_eq_true h1⟩,λ⟨s,h1,h2,h3⟩=>decide_eq_true ?_⟩;rcases Nat.lt_trichotomy s i with hs | hs | hs
   ·rw [hi s hs] at h3; omega
   ·rw [hs] at h3; exact h3
   ·exact absurd (h2 i hs) he
theorem Rk {n:Nat} {h:Nat->Int} {a b:Nat}:JH n h a b=true↔K7 n h a b:=Rj n 0 (by omega) λt ht=>absurd ht (Nat.not_lt_zero _)
def XW (n:Nat) (h:Nat->Int) (a b:Nat) (v:Bool):Ex×St:=(.rt,⟨jsV 40 0 Ac [(6,bV v)],[]⟩)
def Qe (n:Nat) (h:Nat->Int) (a b:Nat):Lp:=⟨bmK 40 0 [0,1,2,6,7,8],0,bmK 40 0 [6],0,n+1⟩
def RZ (n:Nat) (h:Nat->Int) (a b:Nat) (i:Nat) (j:Nat->V):St:=⟨jsV 40 0 j [(0,.sl 1 n λk=>iV (h k)),(1,nV a),(2,nV b),(6,bV false),(7,nV n),(8,nV i)],[]⟩
def XX (n:Nat) (h:Nat->Int) (a b:Nat) (i:Nat):Ex×St:=(.ex 0,⟨jsV 40 0 Ac [(6,bV false)],[]⟩)
noncomputable def Kp (L:LT):St->T (Ex×St):=λst=>A8 tab ⟨A6 tb0,L,Gl⟩ (A0 Tryz.f79 0) 0 st
section
variable (L:LT) (n:Nat) (h:Nat->Int) (a b:Nat) (i:Nat)  (j:Nat->V)
include L n h a b i j
theorem AjE (h0:ilt (ofNat i) (ofNat n)=false):Ap (Kp L) (Qe n h a b) (RZ n h a b i j)=some ((.ex 0),⟨jsV 40 0 Ac [(6,bV false)],[]⟩):=by
 exact Ag (ks:=[kn h0]) (by kernel_rfl)
theorem AjD (h0:ilt (ofNat i) (ofNat n)=true) (h1:ieq (ofNat n) 0=false) (h20:Av (ile 0 (Aw (wr .i64 (Aj (ofNat a) (ofNat i))) (ofNat n))) (ilt (Aw (wr .i64 (Aj (ofNat a) (ofNat i))) (ofNat n)) (ofNat n))=true) (h22:Av (ile 0 (Aw (wr .i64 (Aj (ofNat b) (ofNat i))) (ofNat n))) (ilt (Aw (wr .i64 (Aj (ofNat b) (ofNat i))) (ofNat n)) (ofNat n))=true) (h2:ieq (h (toN (Aw (wr .i64 (Aj (ofNat a) (ofNat i))) (ofNat n)))) (h (toN (Aw (wr .i64 (Aj (ofNat b) (ofNat i))) (ofNat n))))=true):Ap (Kp L) (Qe n h a b) (RZ n h a b i j)=some (.nm,⟨jsV 40 0 Ac [(0,.sl 1 n (λk=>iV (h k))),(1,nV a),(2,nV b),(6,bV false),(7,nV n),(8,iV (wr .i64 (Aj (ofNat i) 1)))],[]⟩):=by
 exact Ag (ks:=[kn h0,kn h1,kn h20,kn h1,kn h22,kN (kn h2)]) (by kernel_rfl)
theorem AjC (h0:ilt (ofNat i) (ofNat n)=true) (h1:ieq (ofNat n) 0=false) (h20:Av (ile 0 (Aw (wr .i64 (Aj (ofNat a) (ofNat i))) (ofNat n))) (ilt (Aw (wr .i64 (Aj (ofNat a) (ofNat i))) (ofNat n)) (ofNat n))=true) (h22:Av (ile 0 (Aw (wr .i64 (Aj (ofNat b) (ofNat i))) (ofNat n))) (ilt (Aw (wr .i64 (Aj (ofNat b) (ofNat i))) (ofNat n)) (ofNat n))=true) (h2:ieq (h (toN (Aw (wr .i64 (Aj (ofNat a) (ofNat i))) (ofNat n)))) (h (toN (Aw (wr .i64 (Aj (ofNat b) (ofNat i))) (ofNat n))))=false):Ap (Kp L) (Qe n h a b) (RZ n h a b i j)=some (.rt,⟨jsV 40 0 Ac [(6,bV (ilt (h (toN (Aw (wr .i64 (Aj (ofNat a) (ofNat i))) (ofNat n)))) (h (toN (Aw (wr .i64 (Aj (ofNat b) (ofNat i))) (ofNat n))))))],[]⟩):=by
 exact Ag (ks:=[kn h0,kn h1,kn h20,kn h1,kn h22,kN (kn h2)]) (by kernel_rfl)
end
def AdL (n:Nat) (h:Nat->Int) (a b:Nat) :Nat->V:=lkV A5 [(11,.sl 1 n (λi=>iV (h i))),(12,nV n)]
theorem AiE (L:LT) (p0:PT) (n:Nat) (h:Nat->Int) (a b:Nat) (i:Nat)  (hp0:p0 (Kp (onP 0 p0 (XX n h a b i) L)) (RZ n h a b 0 (AdL n h a b ))=true):(AK (Ar tab ⟨A6 tb0,onP 0 p0 (XX n h a b i) L,Gl⟩ Tryz.f79 [Cn n h,nV a,nV b] [])).sem=some ((bV false),[]):=by
 exact Ag (ks:=[kn hp0]) (by kernel_rfl)
theorem AiD (L:LT) (p0:PT) (n:Nat) (h:Nat->Int) (a b:Nat) (v:Bool)  (hp0:p0 (Kp (onP 0 p0 (XW n h a b v) L)) (RZ n h a b 0 (AdL n h a b ))=true):(AK (Ar tab ⟨A6 tb0,onP 0 p0 (XW n h a b v) L,Gl⟩ Tryz.f79 [Cn n h,nV a,nV b] [])).sem=some ((bV v),[]):=by
 exact Ag (ks:=[kn hp0]) (by kernel_rfl)
theorem AeQ (n a i:Nat) (ha:a<n) (hn:n <= 4611686018427387904) (hi:i<n):Aw (wr .i64 (Aj (ofNat a) (ofNat i))) (ofNat n)=ofNat ((a+i) % n)∧(a+i) % n<n:=by
 rw [GI (by omega),Ke];exact ⟨rfl,Nat.mod_lt _ (by omega)⟩
theorem Zl (n a i:Nat) (ha:a<n) (hn:n <= 4611686018427387904) (hi:i<n):Av (ile 0 (Aw (wr .i64 (Aj (ofNat a) (ofNat i))) (ofNat n))) (ilt (Aw (wr .i64 (Aj (ofNat a) (ofNat i))) (ofNat n)) (ofNat n))=true:=by
 obtain ⟨e1,l1⟩:=AeQ n a i ha hn hi;rw [e1];exact Af l1
theorem AhX (n i:Nat) (hi:i<n):ieq (ofNat n) 0=false:=by rw [show (0:Int)=ofNat 0 from rfl,FP,decide_eq_false (by omega)]
theorem Ac5 (L:LT) (n:Nat) (h:Nat->Int) (a b:Nat) (hn:n <= 4611686018427387904) (ha:a<n) (hb:b<n):∀ (d i:Nat) (j:Nat->V) (q:Nat),n=i+d->d<q ->
  (Ax (Kp L) (Qe n h a b) q (RZ n h a b i j)).sem=some (match Ld n h a b d i with | none=>XX n h a b 0 | some v=>XW n h a b v)
 | 0,i,j,q+1,h1,_=>by
  have:n=i:=by omega
  subst this;exact Ae (AjE L n h a b n j (A4 (Nat.le_refl _)))
 | d+1,i,j,q+1,h1,h2=>by
  have hi:i<n:=by omega
  obtain ⟨e1,l1⟩:=AeQ n a i ha hn hi;obtain ⟨e2,l2⟩:=AeQ n b i hb hn hi;unfold Ld;by_cases he:h ((a+i) % n)=h ((b+i) % n)
  ·have hq:ieq (h (toN (Aw (wr .i64 (Aj (ofNat a) (ofNat i))) (ofNat n)))) (h (toN (Aw (wr .i64 (Aj (ofNat b) (ofNat i))) (ofNat n))))=true:=by
    rw [e1,e2];show ieq (h ((a+i) % n)) (h ((b+i) % n))=true;rw [he];exact AgQ _
   rw [if_pos he,Ae (AjD L n h a b i j (ofNat_lt hi) (AhX n i hi) (Zl n a i ha hn hi) (Zl n b i hb hn hi) hq),AN,AY hi hn];exact Ac5 L n h a b hn ha hb d (i+1) Ac q (by omega) (by omega)
  ·have hq:ieq (h (toN (Aw (wr .i64 (Aj (ofNat a) (ofNat i))) (ofNat n)))) (h (toN (Aw (wr .i64 (Aj (ofNat b) (ofNat i))) (ofNat n))))=false:=by
    rw [e1,e2];show ieq (h ((a+i) % n)) (h ((b+i) % n))=false;simp [ieq,he]
   have hr:=AjC L n h a b i j (ofNat_lt hi) (AhX n i hi) (Zl n a i ha hn hi) (Zl n b i hb hn hi) hq;rw [e1,e2] at hr;rw [if_neg he];exact Ae hr
def Yy:List V->A2
 | [v,.val (.int .i64 a),.val (.int .i64 b)]=>apI v λn h=>.br (N5 n) (.br (Av (inN n a) (inN n b)) (out (bV (JH n h (toN a) (toN b)))) .fail) .fail
 | _=>.fail
theorem Abj {a b:Bool} (h:Av a b=true):a=true∧b=true:=by simpa [Av] using h
theorem p113:As Tryz.prog Gl 79 Yy:=by
 refine Ah Az mixed Tryz.func79 (by kernel_rfl) (by kernel_rfl) λvs v h' hh=>?_;unfold Yy at hh;split at hh
 ·rename_i u a b
  obtain ⟨n,h,hv,h1⟩:=Gd hh;obtain ⟨h8,h2⟩:=Ab h1;obtain ⟨hab,h3⟩:=Ab h2;have:=Aa h3;simp only [Prod.mk.injEq] at this;obtain ⟨rfl,rfl⟩:=this;obtain ⟨ha,hb⟩:=Abj hab;obtain ⟨ea,la⟩:=VL ha;obtain ⟨eb,lb⟩:=VL hb;have hA:B0 [u,iV a,iV b] [Cn n h,iV (ofNat (toN a)),iV (ofNat (toN b))]:=λS w cs q=>by
   rw [<- ea,<- eb];obtain ⟨c,l,rfl,q1,q2⟩:=q;exact ⟨c,l,rfl,hv S w c q1,q2⟩
  have hx:=Bm Hy [(0,Qe n h (toN a) (toN b))];have hL:=AW [(0,Qe n h (toN a) (toN b))];have hr:=λL=>Ac5 L n h (toN a) (toN b) (Eg h8) la lb n 0 (AdL n h (toN a) (toN b)) (n+1) (by omega) (by omega);refine ⟨_,BP Gl tb0 [(0,Qe n h (toN a) (toN b))],_,hA,rfl,hx.1,hx.2,?_,Au.refl _⟩;unfold JH;cases hc:Ld n h (toN a) (toN b) n 0 with
  | none =>rw [hc] at hr;exact Bp (Bn hL hL) _ (AiE _ _ n h (toN a) (toN b) 0 (AP (hr _)))
  | some v =>rw [hc] at hr;exact Bp (Bn hL hL) _ (AiD _ _ n h (toN a) (toN b) v (AP (hr _)))
 ·cases hh
noncomputable def Y6:AH:=(79,Yy)::[]
theorem Ace:Ao Tryz.prog Gl Y6:=.cons p113 .nil
def Xo (n:Nat) (h:Nat->Int):Nat->Nat->Nat->Nat
 | 0,_,b=>b
 | d+1,i,b=>if JH n h i b=true then Xo n h d (i+1) i else Xo n h d (i+1) b
def refL (n:Nat) (h:Nat->Int):Nat:=Xo n h (n-1) 1 0
theorem PC {n:Nat} {h:Nat->Int}:∀ d i b,n=i+d->b<i->(∀ q,q<i->¬ K7 n h q b)->Ga n h (Xo n h d i b)
 | 0,i,b,hd,hb,hq=>⟨by show b<n; omega,λq hq'=>hq q (by omega)⟩
 | d+1,i,b,hd,hb,hq=>by
  unfold Xo;by_cases ha:JH n h i b=true
  ·rw [if_pos ha]
   have hl:=Rk.1 ha;refine PC d (i+1) i (by omega) (by omega) λq hq' hlt=>?_;by_cases hqi:q=i
   ·rw [hqi] at hlt; exact G0 hlt
   ·exact hq q (by omega) (Od hlt hl)
  ·rw [if_neg ha]
   refine PC d (i+1) b (by omega) (by omega) λq hq' hlt=>?_;by_cases hqi:q=i
   ·rw [hqi] at hlt; exact ha (Rk.2 hlt)
   ·exact hq q (by omega) hlt
theorem AcD {n:Nat} (h:Nat->Int) (hn:0<n):Ga n h (refL n h):=PC (n-1) 1 0 (by omega) (by omega) λq hq=>by
 have:q=0:=by omega
 subst this;exact G0
def Qf (n:Nat) (h:Nat->Int):Lp:=⟨bmK 17 0 [0,2,3,4],0,bmK 17 0 [2,3],0,n+1⟩
def UV (n:Nat) (h:Nat->Int) (b i:Nat) (j:Nat->V):St:=⟨jsV 17 0 j [(0,.sl 1 n λk=>iV (h k)),(2,iV 0),(3,nV b),(4,nV i)],[]⟩
def XY (n:Nat) (h:Nat->Int) (b i:Nat):Ex×St:=(.ex 0,⟨jsV 17 0 Ac [(2,iV 0),(3,nV b)],[]⟩)
noncomputable def M9 (L:LT):St->T (Ex×St):=λst=>A8 tab ⟨A6 Y6,L,Gl⟩ (A0 Tryz.f53 0) 0 st
section
variable (L:LT) (n:Nat) (h:Nat->Int) (b i:Nat)  (j:Nat->V)
include L n h b i j
theorem AcG (h0:ilt (ofNat i) (ofNat n)=false):Ap (M9 L) (Qf n h) (UV n h b i j)=some ((.ex 0),⟨jsV 17 0 Ac [(2,iV 0),(3,nV b)],[]⟩):=by
 exact Ag (ks:=[kn h0]) (by kernel_rfl)
theorem AjI (h0:ilt (ofNat i) (ofNat n)=true) (h18:N5 n=true) (h19:inN n (ofNat i)=true) (h20:inN n (ofNat b)=true) (h1:JH n h i b=true):Ap (M9 L) (Qf n h) (UV n h b i j)=some (.nm,⟨jsV 17 0 Ac [(0,.sl 1 n (λk=>iV (h k))),(2,iV 0),(3,nV i),(4,iV (wr .i64 (Aj (ofNat i) 1)))],[]⟩):=by
 exact Ag (ks:=[kn h0,kL n,kn h18,kA (kn h19) (kn h20),kn h1]) (by kernel_rfl)
theorem AjJ (h0:ilt (ofNat i) (ofNat n)=true) (h18:N5 n=true) (h19:inN n (ofNat i)=true) (h20:inN n (ofNat b)=true) (h1:JH n h i b=false):Ap (M9 L) (Qf n h) (UV n h b i j)=some (.nm,⟨jsV 17 0 Ac [(0,.sl 1 n (λk=>iV (h k))),(2,iV 0),(3,nV b),(4,iV (wr .i64 (Aj (ofNat i) 1)))],[]⟩):=by
 exact Ag (ks:=[kn h0,kL n,kn h18,kA (kn h19) (kn h20),kn h1]) (by kernel_rfl)
end
def AdM (n:Nat) (h:Nat->Int) :Nat->V:=lkV A5 []
theorem Ah8 (L:LT) (p0:PT) (n:Nat) (h:Nat->Int) (b i:Nat)  (hp0:p0 (M9 (onP 0 p0 (XY n h b i) L)) (UV n h 0 1 (AdM n h ))=true):(AK (Ar tab ⟨A6 Y6,onP 0 p0 (XY n h b i) L,Gl⟩ Tryz.f53 [Cn n h] [])).sem=some ((nV b),[]):=by
 exact Ag (ks:=[kn hp0]) (by kernel_rfl)
theorem Xl (L:LT) (n:Nat) (h:Nat->Int) (h8:N5 n=true):∀ (d i b:Nat) (j:Nat->V) (q:Nat),n=i+d->b<i->d<q ->
  (Ax (M9 L) (Qf n h) q (UV n h b i j)).sem=some (XY n h (Xo n h d i b) n)
 | 0,i,b,j,q+1,h1,_,_=>by
  have:n=i:=by omega
  subst this;exact Ae (AcG L n h b n j (A4 (Nat.le_refl _)))
 | d+1,i,b,j,q+1,h1,hb,h2=>by
  have hi:i<n:=by omega
  unfold Xo;cases ha:JH n h i b with
  | true =>rw [if_pos rfl,Ae (AjI L n h b i j (ofNat_lt hi) h8 (OK hi) (OK (by omega)) ha),AN,AY hi (Eg h8)];exact Xl L n h h8 d (i+1) i Ac q (by omega) (by omega) (by omega)
  | false =>rw [if_neg (by decide),Ae (AjJ L n h b i j (ofNat_lt hi) h8 (OK hi) (OK (by omega)) ha),AN,AY hi (Eg h8)];exact Xl L n h h8 d (i+1) b Ac q (by omega) (by omega) (by omega)
def AhN:List V->A2:=Ahq λn h=>.br (N5 n) (out (iV (ofNat (refL n h)))) .fail
theorem Apx:As Tryz.prog Gl 53 AhN:=by
 refine Ah Az mixed Tryz.func53 (by kernel_rfl) (by kernel_rfl) λvs v h' hh=>?_;obtain ⟨n,h,hA,h1⟩:=Tg hh;obtain ⟨h8,h3⟩:=Ab h1;have:=Aa h3;simp only [Prod.mk.injEq] at this;obtain ⟨rfl,rfl⟩:=this;have hx:=Bm Ace [(0,Qf n h)];have hL:=AW [(0,Qf n h)];refine ⟨_,BP Gl Y6 [(0,Qf n h)],_,hA,rfl,hx.1,hx.2,?_,Au.refl _⟩;unfold refL;rcases Nat.eq_zero_or_pos n with rfl | hn
 ·exact Bp (Bn hL hL) _ (Ah8 _ _ 0 h 0 0 (AP (Ae (AcG _ 0 h 0 1 (AdM 0 h) (A4 (by omega))))))
 ·exact Bp (Bn hL hL) _ (Ah8 _ _ n h _ n (AP (Xl _ n h h8 (n-1) 1 0 (AdM n h) (n+1) (by omega) (by omega) (by omega))))
noncomputable def RS:AH:=(54,Co KA)::[]
theorem Acf:Ao Tryz.prog Gl RS:=.cons p25 .nil
def Uv (n:Nat) (f:Nat->E6) (k:Nat) (x:Nat->V):Ex×St:=(.rt,⟨jsV 31 0 Ac [(2,.ref 2),(3,bV false),(4,.ref 1)],[.row 3 1 0 λ_=>.und,.row 3 1 k x,.row 3 1 0 λ_=>.und]⟩)
def K6 (n:Nat) (f:Nat->E6):Lp:=⟨bmK 31 0 [0,2,3,4,5],2,bmK 31 0 [2,3,4],3,n+1⟩
def NQ (n:Nat) (f:Nat->E6) (i k:Nat) (x:Nat->V) (j:Nat->V):St:=⟨jsV 31 0 j [(0,.sl 6 n λi=>eV (f i)),(2,.ref 0),(3,bV false),(4,.ref 1),(5,nV i)],[.row 3 1 0 λ_=>.und,.row 3 1 k x]⟩
def XZ (n:Nat) (f:Nat->E6) (i k:Nat) (x:Nat->V):Ex×St:=(.ex 0,⟨jsV 31 0 Ac [(2,.ref 0),(3,bV false),(4,.ref 1)],[.row 3 1 0 λ_=>.und,.row 3 1 k x]⟩)
noncomputable def Hv (L:LT):St->T (Ex×St):=λst=>A8 tab ⟨A6 RS,L,Gl⟩ (A0 Tryz.f52 0) 0 st
section
variable (L:LT) (n:Nat) (f:Nat->E6) (i k:Nat) (x:Nat->V)  (j:Nat->V)
include L n f i k x j
theorem AjK (h0:ilt (ofNat i) (ofNat n)=false):Ap (Hv L) (K6 n f) (NQ n f i k x j)=some ((.ex 0),⟨jsV 31 0 Ac [(2,.ref 0),(3,bV false),(4,.ref 1)],[.row 3 1 0 Ac,.row 3 1 k x]⟩):=by
 exact Ag (ks:=[kn h0]) (by kernel_rfl)
theorem AcH (h0:ilt (ofNat i) (ofNat n)=true) (h20:ile 0 (ofNat i)=true) (h1:ieq (AB (f i)) 0=true) (h21:Ci k 1 8=true):Ap (Hv L) (K6 n f) (NQ n f i k x j)=some (.nm,⟨jsV 31 0 Ac [(0,.sl 6 n (λi=>eV (f i))),(2,.ref 0),(3,bV false),(4,.ref 1),(5,iV (wr .i64 (Aj (ofNat i) 1)))],[.row 3 1 0 Ac,.row 3 1 (Bh k 1) (AA k x (iV (Al (f i))))]⟩):=by
 exact Ag (ks:=[kn h0,kA (kn h20) (kn h0),kN (kn h1),kn h21]) (by kernel_rfl)
theorem AcI (h0:ilt (ofNat i) (ofNat n)=true) (h20:ile 0 (ofNat i)=true) (h1:ieq (AB (f i)) 0=false):Ap (Hv L) (K6 n f) (NQ n f i k x j)=some (.rt,⟨jsV 31 0 Ac [(2,.ref 2),(3,bV false),(4,.ref 1)],[.row 3 1 0 Ac,.row 3 1 k x,.row 3 1 0 Ac]⟩):=by
 exact Ag (ks:=[kn h0,kA (kn h20) (kn h0),kN (kn h1)]) (by kernel_rfl)
end
def Zi (n:Nat) (f:Nat->E6) :Nat->V:=lkV A5 []
theorem AiK (L:LT) (p0:PT) (n:Nat) (f:Nat->E6) (i k:Nat) (x:Nat->V)  (hp0:p0 (Hv (onP 0 p0 (XZ n f i k x) L)) (NQ n f 0 0 Ac (Zi n f ))=true):(AK (Ar tab ⟨A6 RS,onP 0 p0 (XZ n f i k x) L,Gl⟩ Tryz.f52 [Am n f] [])).sem=some ((.tup [.ref 0,bV true]),[.row 3 1 k x]):=by
 exact Ag (ks:=[kn hp0]) (by kernel_rfl)
theorem AiJ (L:LT) (p0:PT) (n:Nat) (f:Nat->E6) (k:Nat) (x:Nat->V)  (hp0:p0 (Hv (onP 0 p0 (Uv n f k x) L)) (NQ n f 0 0 Ac (Zi n f ))=true):(AK (Ar tab ⟨A6 RS,onP 0 p0 (Uv n f k x) L,Gl⟩ Tryz.f52 [Am n f] [])).sem=some ((.tup [.ref 0,bV false]),[.row 3 1 0 Ac]):=by
 exact Ag (ks:=[kn hp0]) (by kernel_rfl)
theorem YC (L:LT) (n:Nat) (f:Nat->E6) (hn:BG n=true) (e:Nat) (he:e<n) (hb:AB (f e)=30) (ho:∀ t,t<e->AB (f t)=0):∀ (d i:Nat) (j:Nat->V) (q:Nat),e=i+d->d<q ->
  (Ax (Hv L) (K6 n f) q (NQ n f i i (BN (cdV f) i) j)).sem=some (Uv n f e (BN (cdV f) e))
 | 0,i,j,q+1,h1,_=>by
  have:e=i:=by omega
  subst this;exact Ae (AcI L n f e e (BN (cdV f) e) j (ofNat_lt he) (Mc e) (by rw [hb]; rfl))
 | d+1,i,j,q+1,h1,h2=>by
  have hi:i<n:=by omega
  have hr:=AcH L n f i i (BN (cdV f) i) j (ofNat_lt hi) (Mc i) (by rw [ho i (by omega)]; rfl) (NG hi (by decide) (of_decide_eq_true hn));rw [Ae hr,AN,AY hi (Ey hn)];exact YC L n f hn e he hb ho d (i+1) Ac q (by omega) (by omega)
theorem Ac6 (L:LT) (n:Nat) (f:Nat->E6) (hn:BG n=true):∀ (d i:Nat) (j:Nat->V) (q:Nat),n=i+d->d<q->(∀ t,t<i->AB (f t)=0) ->
  (By n f=true∧(Ax (Hv L) (K6 n f) q (NQ n f i i (BN (cdV f) i) j)).sem=some (XZ n f n n (BN (cdV f) n))) ∨ (By n f=false∧∃ e,(Ax (Hv L) (K6 n f) q (NQ n f i i (BN (cdV f) i) j)).sem=some (Uv n f e (BN (cdV f) e)))
 | 0,i,j,q+1,h1,_,ho=>by
  have:n=i:=by omega
  subst this;exact .inl ⟨Bw.2 ho,Ae (AjK L n f n n _ j (A4 (Nat.le_refl _)))⟩
 | d+1,i,j,q+1,h1,h2,ho=>by
  have hi:i<n:=by omega
  by_cases hc:AB (f i)=0
  ·have hr:=AcH L n f i i (BN (cdV f) i) j (ofNat_lt hi) (Mc i) (by rw [hc]; rfl) (NG hi (by decide) (of_decide_eq_true hn))
   have ih:=Ac6 L n f hn d (i+1) Ac q (by omega) (by omega) λt ht=>by
    by_cases hti:t=i
    ·rw [hti]; exact hc
    ·exact ho t (by omega)
   rw [Ae hr,AN,AY hi (Ey hn)];exact ih
  ·refine .inr ⟨?_,i,Ae (AcI L n f i i (BN (cdV f) i) j (ofNat_lt hi) (Mc i) (by simp [ieq,hc]))⟩
   cases hm:By n f with
   | false=>rfl
   | true=>exact absurd (Bw.1 hm i hi) hc
def U3:List V->A2:=NI λn f=>.br (BG n) (.br (By n f) (.leaf (.tup [.ref 0,bV true],[.row 3 1 n λi=>iV (Al (f i))])) (.leaf (.tup [.ref 0,bV false],[.row 3 1 0 λ_=>.und]))) .fail
theorem p103:As Tryz.prog Gl 52 U3:=by
 refine Ah Az mixed Tryz.func52 (by kernel_rfl) (by kernel_rfl) λvs v h' h=>?_;obtain ⟨n,f,ha,h⟩:=CH h;obtain ⟨hn,h⟩:=Ab h;have hx:=Bm Acf [(0,K6 n f)];have hL:=AW [(0,K6 n f)];have hr:=λL=>Ac6 L n f hn n 0 (Zi n f) (n+1) (by omega) (by omega) λt ht=>absurd ht (Nat.not_lt_zero _);cases hm:By n f with
 | true =>rw [hm] at h;have:=Aa h;simp only [Prod.mk.injEq] at this;obtain ⟨rfl,rfl⟩:=this;exact ⟨_,BP Gl RS [(0,K6 n f)],_,ha,rfl,hx.1,hx.2,Bp (Bn hL hL) _ (AiK _ _ n f n n _ (AP ((hr _).elim (λq=>q.2) λq=>by rw [hm] at q; cases q.1))),Au.one λj hj=>(HQ (cdV f) n j hj).symm⟩
 | false =>rw [hm] at h;have:=Aa h;simp only [Prod.mk.injEq] at this;obtain ⟨rfl,rfl⟩:=this;obtain ⟨e,h1,h2,h3⟩:=PW hm;exact ⟨_,BP Gl RS [(0,K6 n f)],_,ha,rfl,hx.1,hx.2,Bp (Bn hL hL) _ (AiJ _ _ n f e (BN (cdV f) e) (AP (YC _ n f hn e h1 h2 h3 e 0 (Zi n f) (n+1) (by omega) (by omega)))),Au.refl _⟩
noncomputable def AfB:AH:=(52,U3)::(53,AhN)::(39,Lq)::[]
theorem AfA:Ao Tryz.prog Gl AfB:=.cons p103 <| .cons Apx <| .cons p69 .nil
theorem Al7 (L:LT) (n:Nat) (f:Nat->E6) (h19:BG n=true) (h0:By n f=true) (h20:N5 n=true):(AK (Ar tab ⟨A6 AfB,L,Gl⟩ Tryz.f23 [Am n f] [])).sem=some ((.tup [.ref 0,iV 0]),[.row 46 6 n (λi=>eV (BR n f (ofNat (refL n (λi=>Al (f i)))) i))]):=by
 exact Ag (ks:=[kL n,kn h19,kn h0,kN kT,kL n,kn h20,kL n,kn h19]) (by kernel_rfl)
def YH:List V->A2:=NI λn f=>.br (BG n) (.br (By n f) (.leaf (.tup [.ref 0,iV 0],[.row 46 6 n λi=>eV (BR n f (ofNat (refL n λk=>Al (f k))) i)])) (.leaf (.tup [.ref 0,iV 30],[.row 46 6 0 λ_=>.und]))) .fail
theorem p66:As Tryz.prog Gl 23 YH:=by
 refine Ah Az mixed Tryz.func23 (by kernel_rfl) (by kernel_rfl) λvs v h' h=>?_;obtain ⟨n,f,ha,h⟩:=CH h;obtain ⟨hn,h⟩:=Ab h;have hx:=Bm AfA [];cases hm:By n f with
 | true =>rw [hm] at h;have:=Aa h;simp only [Prod.mk.injEq] at this;obtain ⟨rfl,rfl⟩:=this;exact ⟨_,BP Gl AfB [],_,ha,rfl,hx.1,hx.2,Al7 _ n f hn hm (HB hn),Au.refl _⟩
 | false =>rw [hm] at h;have:=Aa h;simp only [Prod.mk.injEq] at this;obtain ⟨rfl,rfl⟩:=this;exact ⟨_,BP Gl AfB [],_,ha,rfl,hx.1,hx.2,Ag (ks:=[kL n,kn hn,kn hm,kN kF]) (by kernel_rfl)/-W:wc66n-/,Au.refl _⟩
theorem I1 {n:Nat} {h g:Nat->Int} (hg:∀ i,i<n->g i=h i) (p i:Nat) (hn:0<n):Fx n g p i=Fx n h p i:=hg _ (Nat.mod_lt _ hn)
theorem VI {n:Nat} {h g:Nat->Int} (hg:∀ i,i<n->g i=h i) {p:Nat} (hp:Ga n g p):Ga n h p:=by
 have hn:0<n:=by have:=hp.1; omega
 refine ⟨hp.1,λq hq hl=>hp.2 q hq ?_⟩;obtain ⟨s,h1,h2,h3⟩:=hl;exact ⟨s,h1,λt ht=>by rw [I1 hg _ _ hn,I1 hg _ _ hn]; exact h2 t ht,by rw [I1 hg _ _ hn,I1 hg _ _ hn]; exact h3⟩
theorem OS {n:Nat} {f l:Nat->E6} (hm:By n f=true) (hl:∀ i,i<n->l i=f i):∀ i,i<n->JB n l i=BR n f (ofNat (refL n λk=>Al (f k))) i:=λi hi=>by
 have hn:0<n:=by omega
 have h1:Ga n (λk=>Al (f k)) (DI n λk=>Al (l k)):=VI (g:=λk=>Al (l k)) (λt ht=>by show Al (l t)=Al (f t); rw [hl t ht]) (Qj n _ hn);have h2:=AcD (λk=>Al (f k)) hn;have h3:=AdQ h1 h2 i hi;unfold JB BR;rw [ZY h2.1,hl _ (Nat.mod_lt _ hn)];exact Ahj (Bw.1 hm _ (Nat.mod_lt _ hn)) (Bw.1 hm _ (Nat.mod_lt _ hn)) h3
end Go.Proofs.YtkbgidbledjejaaGreat.Ed
namespace Go.Proofs.YtkbgidbledjejaaGreat.En
open Go.Sy Go Go.Proofs.YtkbgidbledjejaaGreat.Ed
open Int (ofNat)
set_option maxRecDepth 100000
def DJ (k:Nat) (f:Nat->E6):Bool:=sel (By k f) (EB k f k λi=>BR k f (ofNat (Ed.refL k λk=>Al (f k))) i) false
def leastT:List V->A2:=NI λk f=>.br (BG k) (.leaf (bV (DJ k f),[])) .fail
noncomputable def tb65:AH:=(23,YH)::(21,P3)::[]
theorem tb65_ok:Ao Tryz.prog Gl tb65:=.cons p66 <| .cons p42 <| .nil
theorem Ana:As Tryz.prog Gl 65 leastT:=by
 refine Ah Az mixed Tryz.func65 (by kernel_rfl) (by kernel_rfl) λvs u h' h=>?_;obtain ⟨k,f,ha,h⟩:=CH h;obtain ⟨hk,h⟩:=Ab h;cases Aa h;have hx:=Ba tb65_ok [] (G:=Gl);refine ⟨[Am k f],cxA Gl tb65 [],_,ha,rfl,hx.1,hx.2,?_,Au.refl _⟩;unfold DJ;cases h1:By k f with
 | true=>exact DW.ok (.k (eL k) <| .k hk <| .k h1 <| .r 3 (eI 0) <| .r 2 (eL k) <| .k (decide_eq_true (Eg (HB hk))) <| .k (eI 0) <| .l) (by kernel_rfl)
 | false=>exact DW.ok (.k (eL k) <| .k hk <| .k h1 <| .r 4 (show ieq 30 0=false from rfl) <| .l) (by kernel_rfl)
def Uz (E:List V->List Blk->A2) (vs:List V) (h:List Blk):A2:=(E vs h).bind λp=>match p.1 with
 | .val z=>.leaf (.val z,(FK [] h.length ⟨[],p.2⟩).h)
 | _=>.fail
theorem cut_ok {P:Program} {G:Nat->V} {f:FuncId} {E:List V->List Blk->A2} (h:E4 P G f E):E4 P G f (Uz E) :=
 ⟨h.1,λvs cs κ S hp w v h' h1 h2 h3 h4=>by
  obtain ⟨⟨v1,hp1⟩,q1,q2⟩:=Ad h4;simp only at q2;split at q2
  ·rename_i z
   have:=Aa q2;simp only [Prod.mk.injEq] at this;obtain ⟨rfl,rfl⟩:=this;refine (h.2 vs cs κ S hp w _ hp1 h1 h2 h3 q1).mono ?_
   rintro e w' ⟨c,κ',S',rfl,g1,g2,g3⟩
   have hE:MK G S' w':=CC.ext (Γ:=⟨λ_ _ _=>.fail,G⟩) h2 h1 g3;obtain ⟨κ2,S2,r1,r2⟩:=HG (Γ:=⟨λ_ _ _=>.fail,G⟩) [] hp.length ⟨[],hp1⟩ [] κ' S' { tmps:=#[],defers:=[] } w' ⟨g1,hE,rfl,rfl⟩;exact ⟨c,κ2,S2,rfl,r1.good,g2,g3.trans r2⟩
  ·cases q2⟩
noncomputable def AlV:AH:=(22,Wz)::(65,leastT)::(25,AeB)::(39,Lq)::(54,Co KA)::[]
theorem AfO:Ao Tryz.prog Gl AlV:=.cons p49 <| .cons Ana <| .cons p39 <| .cons p69 <| .cons p25 <| .nil
def good37 (a:Int) (k:Nat) (f af:Nat->E6):Bool:=sel (ile 2 (ofNat k)) (sel (ieq (Ft a k f).1 0) (sel (DJ k f) (ilt 0 (EG k f 0 af)) false) false) false
section
variable {a n q:Int} {k:Nat} {f:Nat->E6} {m:Nat} {v af:Nat->E6} {c:Nat} {g:Nat->V} {lv:Nat->Bool} {ln:Nat->Nat} {me:Nat->Nat->V} {E:List V->List Blk->A2}
theorem good_ok (h:good37 a k f af=true):ile 2 (ofNat k)=true∧ieq (Ft a k f).1 0=true∧DJ k f=true∧ilt 0 (EG k f 0 af)=true:=by
 unfold good37 at h;cases h1:ile 2 (ofNat k) <;> cases h2:ieq (Ft a k f).1 0 <;> cases h3:DJ k f <;> cases h4:ilt 0 (EG k f 0 af) <;> rw [h1,h2,h3,h4] at h <;> first | exact ⟨rfl,rfl,rfl,rfl⟩ | cases h
variable (hk:BG k=true) (hlv:∀ i,i<c->lv i=true)
include hk hlv
section
variable (h6:ieq (ofNat k) n=true)
include h6
end
variable (h6:ieq (ofNat k) n=false) {c3:Nat} {g3:Nat->V} {lv3:Nat->Bool} {ln3:Nat->Nat} {me3:Nat->Nat->V}
include h6
end
section
variable {a n q:Int} {k:Nat} {f:Nat->E6} {m:Nat} {v af:Nat->E6} {c:Nat} {g:Nat->V} {lv:Nat->Bool} {ln:Nat->Nat} {me:Nat->Nat->V} {E:List V->List Blk->A2}
variable {b:Nat} (hb:b<m) (hm:m <= 4611686018427387904)
include hb hm
section
variable (hk0:0<k) (hk4:k <= 4611686018427387904)
include hk0 hk4
end
variable (hk:BG k=true) (ha:Ci k 1 40=true) (hlv:∀ i,i<c->lv i=true) {c2:Nat} {g2:Nat->V} {lv2:Nat->Bool} {ln2:Nat->Nat} {me2:Nat->Nat->V}
include hk ha hlv
section
variable (hk0:0<k) (hk4:k <= 4611686018427387904) (h1:ieq (f (k-1)).dst (v b).src=true) (h2:ilt (Al (v b)) (Al (f 0))=false)
include hk0 hk4 h1 h2
end
variable (h0:ilt 0 (ofNat k)=false)
include h0
end
end Go.Proofs.YtkbgidbledjejaaGreat.En
namespace Go.Proofs.YtkbgidbledjejaaGreat.En
open Go.Sy Go Go.Proofs.YtkbgidbledjejaaGreat.Ed
theorem Q7 {α β:Type} {f:α->List β} {c:Nat}:∀ l:List α,(∀ a,a ∈ l->(f a).length <= c)->(l.flatMap f).length <= l.length * c
 | [],_=>by simp
 | a::l,h=>by
  rw [List.flatMap_cons,List.length_append,List.length_cons,Nat.succ_mul];have:=Q7 l λb hb=>h b (List.mem_cons_of_mem _ hb);have:=h a (List.mem_cons_self ..);omega
theorem Y1 {m:Nat} {fits opn:List Nat->Bool} (hm:m <= 112):∀ k r,(Gg m fits opn k r).length <= 113 ^ k
 | 0,r=>by simp [Gg]
 | k+1,r=>by
  unfold Gg;have h1:1 <= 113 ^ k:=Nat.pow_pos (by omega);have h2:113 ^ (k+1)=113 ^ k * 113:=Nat.pow_succ ..;rw [List.length_cons];cases fits r && opn r with
  | false=>simp; omega
  | true =>
   have h3:=Q7 ((List.range m).drop (Ch r)) (f:=λe=>Gg m fits opn k (e::r)) (c:=113 ^ k) λe _=>Y1 hm k _;have h4:((List.range m).drop (Ch r)).length <= 112:=by simp; omega
   have h5:=Nat.mul_le_mul_right (113 ^ k) h4;simp only [cond_true];omega
abbrev Me (a:Int) (v:Nat->E6) (d:List Nat):Bool:=Do v d && BW a v d
def RN (n:Int) (m:Nat) (v:Nat->E6) (N:Nat):List (List Nat):=(List.range m).flatMap λe=>Gg m (Do v) (Fy n m v) (N-1) [e]
theorem Rh {n:Int} {m:Nat} {v:Nat->E6} {N:Nat} (hm:m <= 112) (hN:N <= 16):2 * (RN n m v N).length+4<F43-1:=by
 have h1:=Q7 (List.range m) (f:=λe=>Gg m (Do v) (Fy n m v) (N-1) [e]) (c:=113 ^ 15) λe _=>Nat.le_trans (Y1 hm _ _) (Nat.pow_le_pow_right (by omega) (by omega));rw [List.length_range] at h1;have h2:=Nat.mul_le_mul_right (113 ^ 15) hm;have h3:2 * (112 * 113 ^ 15)+4<F43-1:=by unfold F43; decide
 unfold RN;omega
section
variable {a n:Int} {m N:Nat} {v:Nat->E6}
def Rem (a n:Int) (m:Nat) (v:Nat->E6) (N:Nat):List (List Nat)->Nat->(Nat->Int)->Prop
 | [],L,x=>∃ x',(E43 [.ptr 0 0] (HA a n m v L x)).sem=some (bV false,HA a n m v 0 x')
 | d::ds,L,x=>∃ L2 x2,(E43 [.ptr 0 0] (HA a n m v L x)).sem=some (bV true,HA a n m v L2 x2)∧Rep d L2 x2∧Inv m N d∧Rem a n m v N ds L2 x2
theorem KI (hn:n=Int.ofNat N) {r:List Nat} (h:Fy n m v r=true):r.length<N:=by
 unfold Fy PP at h;cases h1:ilt (Int.ofNat r.length) n with
 | false=>rw [h1] at h; cases h
 | true =>have:(r.length:Int)<n:=of_decide_eq_true h1;rw [hn] at this;exact Int.ofNat_lt.1 this
theorem AcC (hn:n=Int.ofNat N) (hN:N <= 16) (hm:m <= 112):∀ (c:Nat) {l2:List (List Nat)} {d:List Nat} {L:Nat} {x:Nat->Int},l2.length <= c->Rep d L x->Inv m N d->Do v d=true->2 * l2.length+2<F43-1->((l2=[]∧E7 m (Do v) (Fy n m v) d=none) ∨ ∃ r',E7 m (Do v) (Fy n m v) d=some r'∧GoL m (Do v) (Fy n m v) r' l2 none)->Rem a n m v N (l2.filter (Me a v)) L x
 | c,l2,d,L,x,hc,hR,hI,hf,hF,h=>by
  rcases h with ⟨rfl,h⟩ | ⟨r',hr,hg⟩
  ·exact ⟨x,Agz hR hI (by omega) (by omega) hf h⟩
  ·obtain ⟨hi,L',x',hR',M,hM,hE⟩:=Ag0 (a:=a) hR hI (by omega) (by omega) (λr h=>KI hn h) hf hr
   rcases Q9 (p:=Me a v) l2 with h0 | ⟨l1,d',l2',e1,e2,e3,e4⟩
   ·obtain ⟨x2,hx⟩:=Uk (a:=a) (M:=M) (by omega) (by omega) (λr h=>KI hn h) l2 hg h0 hR' hi (by omega)
    rw [h0];exact ⟨x2,hE _ _ _ hx⟩
   ·rw [e4]
    subst e1;rw [List.length_append,List.length_cons] at hc hF;obtain ⟨hi',L2,x2,hR2,hx⟩:=Um (a:=a) (M:=M) (by omega) (by omega) (λr h=>KI hn h) e3 l1 hg e2 hR' hi (by omega);have hf':Do v d'=true:=(Bool.and_eq_true _ _ ▸ e3:_∧_).1;obtain ⟨c,rfl⟩:∃ q,c=q+1:=⟨c-1,by omega⟩;exact ⟨L2,x2,hE _ _ _ hx,hR2,hi',AcC hn hN hm c (by omega) hR2 hi' hf' (by omega) (GoL.at l1 hg)⟩
theorem Sj (hn:n=Int.ofNat N) (hN0:0<N) (hN:N <= 16) (hm:m <= 112) {x:Nat->Int}:Rem a n m v N ((RN n m v N).filter (Me a v)) 0 x:=by
 have hF:=Rh (n:=n) (v:=v) hm hN;rcases Nat.eq_zero_or_pos m with rfl | hm0
 ·exact ⟨x,X0⟩
 ·have hg:=Ak6 (m:=m) (fits:=Do v) (opn:=Fy n m v) N hN0 (λr _ h=>KI hn h) hm0
  have hR:Rep [0] 1 (K3 0 x 0):=⟨rfl,λi (hi:i<1)=>by
   obtain rfl:i=0:=Nat.lt_one_iff.1 hi;rfl⟩
  have hI:Inv m N [0]:=⟨by simp,λe he=>by simp at he; omega,by simp; omega⟩;rcases Q9 (p:=Me a v) (RN n m v N) with h0 | ⟨l1,d',l2',e1,e2,e3,e4⟩
  ·obtain ⟨x2,hx⟩:=Uk (a:=a) (M:=F43-1) (by omega) (by omega) (λr h=>KI hn h) _ hg h0 hR hI (by show 2 * (RN n m v N).length<_; omega)
   rw [h0];exact ⟨x2,Td hm0 hx⟩
  ·rw [e4]
   rw [show ((List.range m).flatMap λe=>Gg m (Do v) (Fy n m v) (N-1) [e])=l1++d'::l2' from e1] at hg;rw [e1,List.length_append,List.length_cons] at hF;obtain ⟨hi',L2,x2,hR2,hx⟩:=Um (a:=a) (M:=F43-1) (by omega) (by omega) (λr h=>KI hn h) e3 l1 hg e2 hR hI (by omega);have hf':Do v d'=true:=(Bool.and_eq_true _ _ ▸ e3:_∧_).1;exact ⟨L2,x2,Td hm0 hx,hR2,hi',AcC hn hN hm _ (Nat.le_refl _) hR2 hi' hf' (by omega) (GoL.at l1 hg)⟩
end
end Go.Proofs.YtkbgidbledjejaaGreat.En
namespace Go.Proofs.YtkbgidbledjejaaGreat.En
open Go.Sy Go Go.Proofs.YtkbgidbledjejaaGreat.Ed
open Int (ofNat)
set_option maxRecDepth 100000
def lnV (v:Nat->E6) (d:List Nat) (i:Nat):V:=eV (v (wd d i))
section
variable {A n q:Int} {k:Nat} {w:Nat->E6} {m N:Nat} {v:Nat->E6} {hs:Key->Bool} {gt:Key->V}
theorem Adl {L:Nat} (h:L <= 64):F2 40 (ofNat L) (ofNat L)=true:=by
 simp only [F2,Bool.and_eq_true,decide_eq_true_eq,Int.ofNat_eq_natCast];omega
structure Holds9 (v:Nat->E6) (ds:List (List Nat)) (c:Nat) (ln:Nat->Nat) (me:Nat->Nat->V):Prop where
 len:∀ j,j<ds.length->ln (c+j)=(ds.getD j []).length
 el:∀ j,j<ds.length->∀ t,t<(ds.getD j []).length->me (c+j) t=lnV v (ds.getD j []) t
theorem Lz (f:Nat->Nat) (c x i:Nat):Dq f c x i=if i=c then x else f i:=by
 unfold Dq;by_cases h:i=c
 ·subst h
  rw [show Fz i i=true from Nat.beq_refl i,if_pos rfl];rfl
 ·rw [show Fz i c=false from Gs h,if_neg h]
  rfl
theorem T9 (f:Nat->Bool) (c:Nat) (x:Bool) (i:Nat):Da f c x i=if i=c then x else f i:=by
 unfold Da;by_cases h:i=c
 ·subst h
  rw [show Fz i i=true from Nat.beq_refl i,if_pos rfl];rfl
 ·rw [show Fz i c=false from Gs h,if_neg h]
  rfl
theorem L0 (f:Nat->Nat->V) (c:Nat) (x:Nat->V) (i:Nat):Dz f c x i=if i=c then x else f i:=by
 unfold Dz;funext j;by_cases h:i=c
 ·subst h
  rw [show Fz i i=true from Nat.beq_refl i,if_pos rfl,Et];rfl
 ·rw [show Fz i c=false from Gs h,if_neg h,Et]
  rfl
theorem Ad4 (hN:N <= 16) (hm:m <= 112):∀ (ds:List (List Nat)) (c:Nat) (g:Nat->V) (lv:Nat->Bool) (ln:Nat->Nat) (me:Nat->Nat->V) (L:Nat) (x:Nat->Int) (M:Nat),Rem A n m v N ds L x->(∀ i,i<c->lv i=true)->c <= 65536->(ofNat c <= q)->q <= 65536->ds.length<M ->
  (q<ofNat (c+ds.length)∧∃ L' x' c' g' lv' ln' me',(Ax B41 lp41 M (UI A n q k w m v L x hs gt c g lv ln me)).sem=some (Ab4 A n q k w m v L' x' hs gt c' g' lv' ln' me')) ∨
  (ofNat (c+ds.length) <= q∧∃ L' x' g' lv' ln' me',(Ax B41 lp41 M (UI A n q k w m v L x hs gt c g lv ln me)).sem=some (Ab3 A n q k w m v L' x' hs gt (c+ds.length) g' lv' ln' me')∧(∀ i,i<c+ds.length->lv' i=true)∧(∀ i,i<c->ln' i=ln i∧me' i=me i)∧Holds9 v ds c ln' me')
 | [],c,g,lv,ln,me,L,x,M,hR,hlv,hc,hq,hq2,hM=>by
  obtain ⟨M,rfl⟩:∃ o,M=o+1:=⟨M-1,by omega⟩;obtain ⟨x',hE⟩:=hR;exact .inr ⟨by simpa using hq,0,x',g,lv,ln,me,Ae (AoL hE),hlv,λ_ _=>⟨rfl,rfl⟩,⟨λj hj=>absurd hj (Nat.not_lt_zero _),λj hj=>absurd hj (Nat.not_lt_zero _)⟩⟩
 | d::ds,c,g,lv,ln,me,L,x,M,hR,hlv,hc,hq,hq2,hM=>by
  obtain ⟨M,rfl⟩:∃ o,M=o+1:=⟨M-1,by omega⟩;obtain ⟨L2,x2,hE,hr,hi,hR⟩:=hR;have hsr:=hr.sr hi (by omega) (by omega);have hk:=Adl (L:=L2) (by have:=hr.len; have:=hi.le; omega);have hl:(d::ds).length=ds.length+1:=rfl;cases he:ieq (ofNat c) q with
  | true =>have:=Cz he;exact .inl ⟨by rw [<- this,hl]; simp only [Int.ofNat_eq_natCast]; omega,L2,x2,c,g,lv,ln,me,Ae (AoM hE hsr hk hlv he)⟩
  | false =>
   have hne:ofNat c ≠ q:=λh=>by rw [h,eI] at he; cases he
   have hlt:ofNat (c+1) <= q:=by simp only [Int.ofNat_eq_natCast] at *; omega
   have hc1:c+1 <= 65536:=by simp only [Int.ofNat_eq_natCast] at *; omega
   rw [hl,Ae (AoK hE hsr hk hlv he (decide_eq_true (by omega)))];have e1:c+(ds.length+1)=c+1+ds.length:=by omega
   rw [e1];rcases Ad4 hN hm ds (c+1) (AA c g .und) (Da lv c true) (Dq ln c L2) (Dz me c λi=>eV (v (toN (x2 i)))) L2 x2 M hR (λi hi=>by rw [T9]; split; rfl; exact hlv i (by omega)) hc1 hlt hq2 (by omega) with ⟨h1,h2⟩ | ⟨h1,L',x',g',lv',ln',me',h2,h3,h4,h5⟩
   ·exact .inl ⟨h1,h2⟩
   ·refine .inr ⟨h1,L',x',g',lv',ln',me',h2,h3,λi hi=>?_,⟨λj hj=>?_,λj hj t ht=>?_⟩⟩
    ·obtain ⟨p1,p2⟩:=h4 i (by omega)
     rw [p1,p2,Lz,L0,if_neg (by omega),if_neg (by omega)];exact ⟨rfl,rfl⟩
    ·cases j with
     | zero =>rw [Nat.add_zero,(h4 c (by omega)).1,Lz,if_pos rfl];exact hr.len
     | succ j =>rw [show c+(j+1)=c+1+j by omega];exact h5.len j (by rw [hl] at hj; omega)
    ·cases j with
     | zero =>rw [Nat.add_zero,(h4 c (by omega)).2,L0,if_pos rfl];show eV (v (toN (x2 t)))=_;rw [hr.at_ t (by rw [hr.len]; exact ht)];rfl
     | succ j =>rw [show c+(j+1)=c+1+j by omega];exact h5.el j (by rw [hl] at hj; omega) t ht
theorem Ako (hN:N <= 16) (hm:m <= 112) {ds:List (List Nat)} {x:Nat->Int} (hR:Rem A n m v N ds 0 x) (hq:0 <= q) (hq2:q <= 65536) {M:Nat} (hM:ds.length<M) :
  (q<ofNat ds.length∧((∃ L' x',(Ax B41 lp41 M (S41 A n q k w m v 0 x hs gt)).sem=some (All A n q k w m v L' x' hs gt)) ∨ ∃ L' x' c' g' lv' ln' me',(Ax B41 lp41 M (S41 A n q k w m v 0 x hs gt)).sem=some (Ab4 A n q k w m v L' x' hs gt c' g' lv' ln' me'))) ∨
  (ofNat ds.length <= q∧((ds=[]∧∃ x',(Ax B41 lp41 M (S41 A n q k w m v 0 x hs gt)).sem=some (Alk A n q k w m v 0 x' hs gt)) ∨ ∃ L' x' g' lv' ln' me',(Ax B41 lp41 M (S41 A n q k w m v 0 x hs gt)).sem=some (Ab3 A n q k w m v L' x' hs gt ds.length g' lv' ln' me')∧(∀ i,i<ds.length->lv' i=true)∧Holds9 v ds 0 ln' me')):=by
 cases ds with
 | nil =>obtain ⟨M,rfl⟩:∃ o,M=o+1:=⟨M-1,by omega⟩;obtain ⟨x',hE⟩:=hR;exact .inr ⟨hq,.inl ⟨rfl,x',Ae (AoQ hE)⟩⟩
 | cons d ds =>
  have hl:(d::ds).length=ds.length+1:=rfl;rw [hl] at hM ⊢;obtain ⟨M,rfl⟩:∃ o,M=o+1:=⟨M-1,by omega⟩;obtain ⟨L2,x2,hE,hr,hi,hR⟩:=hR;have hsr:=hr.sr hi (by omega) (by omega);have hk:=Adl (L:=L2) (by have:=hr.len; have:=hi.le; omega);cases he:ieq 0 q with
  | true =>have:=Cz he;exact .inl ⟨by rw [<- this]; simp only [Int.ofNat_eq_natCast]; omega,.inl ⟨L2,x2,Ae (AoR hE hsr hk he)⟩⟩
  | false =>
   have hne:(0:Int) ≠ q:=λh=>by rw [h,eI] at he; cases he
   rw [Ae (AoP hE hsr hk he)];have hlt:ofNat 1 <= q:=by show (1:Int) <= q; omega
   rcases Ad4 hN hm ds 1 (AA 0 Ac .und) (Da (λ_=>true) 0 true) (Dq (λ_=>0) 0 L2) (Dz (λ_ _=>.und) 0 λi=>eV (v (toN (x2 i)))) L2 x2 M hR (λi hi=>by rw [T9]; split <;> rfl) (by omega) hlt hq2 (by omega) with ⟨h1,h2⟩ | ⟨h1,L',x',g',lv',ln',me',h2,h3,h4,h5⟩
   ·rw [Nat.add_comm] at h1
    exact .inl ⟨h1,.inr h2⟩
   ·rw [Nat.add_comm] at h1 h2 h3
    refine .inr ⟨h1,.inr ⟨L',x',g',lv',ln',me',h2,h3,⟨λj hj=>?_,λj hj t ht=>?_⟩⟩⟩
    ·cases j with
     | zero =>rw [Nat.add_zero,(h4 0 (by omega)).1,Lz,if_pos rfl];exact hr.len
     | succ j =>rw [show 0+(j+1)=1+j by omega];exact h5.len j (by rw [hl] at hj; omega)
    ·cases j with
     | zero =>rw [Nat.add_zero,(h4 0 (by omega)).2,L0,if_pos rfl];show eV (v (toN (x2 t)))=_;rw [hr.at_ t (by rw [hr.len]; exact ht)];rfl
     | succ j =>rw [show 0+(j+1)=1+j by omega];exact h5.el j (by rw [hl] at hj; omega) t ht
end
end Go.Proofs.YtkbgidbledjejaaGreat.En
