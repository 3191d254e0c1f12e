/-
  Marked, Grown, Heaped: of edges and of numbers. No conditions.
-/
import Derived.Test.YtkgdhhieomndeaaGreatDoorCyT
import Derived.Test.YtkgdhhieomndeaaGreatDoorSyU
import Derived.Test.YtkgdhhieomndeaaGreatDoorEdY
import Derived.Test.YtkgdhhieomndeaaGreatDoorShD
namespace Go.Proofs.YtkgdhhieomndeaaGreatDoor.Ed
open Go.Sy Go
open Int (ofNat)
noncomputable def tb43:AP:=[]
theorem tb43_ok:Av Tryz.prog Gl tb43:=.nil
def Ahn {α:Type} (z:Nat->α) (i:Nat) (e:α):Nat->α:=λk=>bif Nat.beq k i then e else z k
def X6 {α:Type} (y:Nat->α) (e:α):Nat->Nat->α
 | 0=>y
 | i+1=>Ahn (X6 y e i) i e
theorem Ah5 (z:Nat->Int) (i:Nat) (e:Int):BT (λk=>iV (z k)) i (iV e)=λk=>iV (Ahn z i e k):=by
 funext k;rw [Fw];unfold Ahn;cases Nat.beq k i <;> rfl
theorem TI (i:Nat):ile 0 (ofNat i)=true:=decide_eq_true (Int.natCast_nonneg i)
def ent44 (n:Nat) (g:Nat->V) (k:Int) :St:=⟨jsV 15 0 (λ_=>A9) [(0,.ref 0),(1,iV k),(4,iV 0)],[.xrow true 92 6 n g]⟩
def lp44 (n:Nat) (g:Nat->V) (k:Int):Lp:=⟨bmK 15 0 [0,1,4],1,bmK 15 0 [],1,21⟩
def st44 (n:Nat) (g:Nat->V) (k:Int) (i m:Nat) (x:Nat->V) (j:Nat->V):St:=⟨jsV 15 0 j [(0,.ref 0),(1,iV k),(4,nV i)],[.xrow true 92 6 m x]⟩
def en44e (n:Nat) (g:Nat->V) (k:Int) (i m:Nat) (x:Nat->V):Ex×St:=(.ex 0,⟨jsV 15 0 Aa [],[.xrow true 92 6 m x]⟩)
theorem ent44_eq (n:Nat) (g:Nat->V) (k:Int):ent44 n g k=st44 n g k 0 (n+0) g (λi=>nth (ent44 n g k).t i):=by kernel_rfl
def lp56 (n:Nat) (y:Nat->Int) (k:Int):Lp:=⟨bmK 16 0 [0,1,4],1,bmK 16 0 [],1,n+1⟩
def st56 (n:Nat) (y:Nat->Int) (k:Int) (i:Nat) (z:Nat->Int) (j:Nat->V):St:=⟨jsV 16 0 j [(0,.ref 0),(1,iV k),(4,nV i)],[.xrow false 3 1 n (λi=>iV (z i))]⟩
def AmG (n:Nat) (y:Nat->Int) (k:Int) (i:Nat) (z:Nat->Int):Ex×St:=(.ex 0,⟨jsV 16 0 Aa [],[.xrow false 3 1 n (λi=>iV (z i))]⟩)
noncomputable def body56 (L:LT):St->T (Ex×St):=λst=>A7 tab ⟨Ap tb43,L,Gl⟩ (Ar Tryz.f13 0) 0 st
section
variable (L:LT) (n:Nat) (y:Nat->Int) (k:Int) (i:Nat) (z:Nat->Int)  (j:Nat->V)
include L n y k i z j
theorem AlX (h0:ilt (ofNat i) (ofNat n)=false):Ah (body56 L) (lp56 n y k) (st56 n y k i z j)=some ((.ex 0),⟨jsV 16 0 Aa [],[.xrow false 3 1 n (λi=>iV (z i))]⟩):=by
 exact Ab (ks:=[kn h0]) (by kernel_rfl)
theorem AlW (h0:ilt (ofNat i) (ofNat n)=true) (h10:ile 0 (ofNat i)=true) (h11:nlt i n=true):Ah (body56 L) (lp56 n y k) (st56 n y k i z j)=some (.nm,⟨jsV 16 0 Aa [(0,.ref 0),(1,iV k),(4,iV (wr .i64 (Af (ofNat i) 1)))],[.xrow false 3 1 n (BT (λi=>iV (z i)) i (iV (wr .i64 (A5 (-1000000) k))))]⟩):=by
 exact Ab (ks:=[kn h0,kA (kn h10) (kn h0),kn h11]) (by kernel_rfl)
end
theorem run56 (L:LT) (n:Nat) (y:Nat->Int) (k:Int) (hn:n <= 4611686018427387904):∀ (d i:Nat) (j:Nat->V) (q:Nat),n=i+d->d<q ->
  (A3 (body56 L) (lp56 n y k) q (st56 n y k i (X6 y (wr .i64 (A5 (-1000000) k)) i) j)).sem=some (AmG n y k n (X6 y (wr .i64 (A5 (-1000000) k)) n))
 | 0,i,j,q+1,h,_=>by
  have:n=i:=by omega
  subst this;exact Ae (AlX L n y k n _ j (A1 (Nat.le_refl _)))
 | d+1,i,j,q+1,h,h2=>by
  have hi:i<n:=by omega
  have h1:=AlW L n y k i (X6 y (wr .i64 (A5 (-1000000) k)) i) j (ofNat_lt hi) (TI i) (decide_eq_true hi);rw [Ah5] at h1;rw [Ae h1,Ay,Aq hi (by omega)];exact run56 L n y k hn d (i+1) Aa q (by omega) (by omega)
end Go.Proofs.YtkgdhhieomndeaaGreatDoor.Ed
namespace Go.Proofs.YtkgdhhieomndeaaGreatDoor.Ed
open Go.Sy Go
open Int (ofNat)
def inN (n:Nat) (a:Int):Bool:=Al (ile 0 a) (ilt a (ofNat n))
theorem Nc {n a:Nat} (h:a<n):inN n (ofNat a)=true:=Ao h
theorem TG {n:Nat} {a:Int} (h:inN n a=true):a=ofNat (toN a)∧toN a<n:=by
 simp only [inN,Al,ile,ilt,Bool.and_eq_true,decide_eq_true_eq,Int.ofNat_eq_natCast] at h;simp only [toN,Int.ofNat_eq_natCast];omega
def JT (n:Nat) (h:Nat->Int) (a b:Nat):Nat->Nat->Option Bool
 | 0,_=>none
 | d+1,i=>if h ((a+i) % n)=h ((b+i) % n) then JT n h a b d (i+1) else some (decide (h ((a+i) % n)<h ((b+i) % n)))
def I6 (n:Nat) (h:Nat->Int) (a b:Nat):Bool:=(JT n h a b n 0).getD false
theorem Pi {n:Nat} {h:Nat->Int} {a b:Nat}:∀ d i,n=i+d->(∀ t,t<i->EV n h a t=EV n h b t)->((JT n h a b d i).getD false=true↔Ju n h a b)
 | 0,i,hd,hi=>by
  refine ⟨λh1=>(by cases h1),λ⟨s,h1,_,h3⟩=>?_⟩;rw [hi s (by omega)] at h3;omega
 | d+1,i,hd,hi=>by
  unfold JT;by_cases he:h ((a+i) % n)=h ((b+i) % n)
  ·rw [if_pos he]
   refine Pi d (i+1) (by omega) λt ht=>?_;by_cases hti:t=i
   ·rw [hti]; exact he
   ·exact hi t (by omega)
  ·rw [if_neg he]
   refine ⟨λh1=>⟨i,by omega,hi,of_decide_eq_true h1⟩,λ⟨s,h1,h2,h3⟩=>decide_eq_true ?_⟩;rcases Nat.lt_trichotomy s i with hs | hs | hs
   ·rw [hi s hs] at h3; omega
   ·rw [hs] at h3; exact h3
   ·exact absurd (h2 i hs) he
theorem Pj {n:Nat} {h:Nat->Int} {a b:Nat}:I6 n h a b=true↔Ju n h a b:=Pi n 0 (by omega) λt ht=>absurd ht (Nat.not_lt_zero _)
def Wi (n:Nat) (h:Nat->Int) (a b:Nat) (v:Bool):Ex×St:=(.rt,⟨jsV 40 0 Aa [(6,bV v)],[]⟩)
def Oq (n:Nat) (h:Nat->Int) (a b:Nat):Lp:=⟨bmK 40 0 [0,1,2,6,7,8],0,bmK 40 0 [6],0,n+1⟩
def PI (n:Nat) (h:Nat->Int) (a b:Nat) (i:Nat) (j:Nat->V):St:=⟨jsV 40 0 j [(0,.sl 1 n λk=>iV (h k)),(1,nV a),(2,nV b),(6,bV false),(7,nV n),(8,nV i)],[]⟩
def Wj (n:Nat) (h:Nat->Int) (a b:Nat) (i:Nat):Ex×St:=(.ex 0,⟨jsV 40 0 Aa [(6,bV false)],[]⟩)
noncomputable def Je (L:LT):St->T (Ex×St):=λst=>A7 tab ⟨Ap tb0,L,Gl⟩ (Ar Tryz.f99 0) 0 st
section
variable (L:LT) (n:Nat) (h:Nat->Int) (a b:Nat) (i:Nat)  (j:Nat->V)
include L n h a b i j
theorem Ai5 (h0:ilt (ofNat i) (ofNat n)=false):Ah (Je L) (Oq n h a b) (PI n h a b i j)=some ((.ex 0),⟨jsV 40 0 Aa [(6,bV false)],[]⟩):=by
 exact Ab (ks:=[kn h0]) (by kernel_rfl)
theorem Ai4 (h0:ilt (ofNat i) (ofNat n)=true) (h1:ieq (ofNat n) 0=false) (h20:Al (ile 0 (Ag (wr .i64 (Af (ofNat a) (ofNat i))) (ofNat n))) (ilt (Ag (wr .i64 (Af (ofNat a) (ofNat i))) (ofNat n)) (ofNat n))=true) (h22:Al (ile 0 (Ag (wr .i64 (Af (ofNat b) (ofNat i))) (ofNat n))) (ilt (Ag (wr .i64 (Af (ofNat b) (ofNat i))) (ofNat n)) (ofNat n))=true) (h2:ieq (h (toN (Ag (wr .i64 (Af (ofNat a) (ofNat i))) (ofNat n)))) (h (toN (Ag (wr .i64 (Af (ofNat b) (ofNat i))) (ofNat n))))=true):Ah (Je L) (Oq n h a b) (PI n h a b i j)=some (.nm,⟨jsV 40 0 Aa [(0,.sl 1 n (λk=>iV (h k))),(1,nV a),(2,nV b),(6,bV false),(7,nV n),(8,iV (wr .i64 (Af (ofNat i) 1)))],[]⟩):=by
 exact Ab (ks:=[kn h0,kn h1,kn h20,kn h1,kn h22,kN (kn h2)]) (by kernel_rfl)
theorem Ai3 (h0:ilt (ofNat i) (ofNat n)=true) (h1:ieq (ofNat n) 0=false) (h20:Al (ile 0 (Ag (wr .i64 (Af (ofNat a) (ofNat i))) (ofNat n))) (ilt (Ag (wr .i64 (Af (ofNat a) (ofNat i))) (ofNat n)) (ofNat n))=true) (h22:Al (ile 0 (Ag (wr .i64 (Af (ofNat b) (ofNat i))) (ofNat n))) (ilt (Ag (wr .i64 (Af (ofNat b) (ofNat i))) (ofNat n)) (ofNat n))=true) (h2:ieq (h (toN (Ag (wr .i64 (Af (ofNat a) (ofNat i))) (ofNat n)))) (h (toN (Ag (wr .i64 (Af (ofNat b) (ofNat i))) (ofNat n))))=false):Ah (Je L) (Oq n h a b) (PI n h a b i j)=some (.rt,⟨jsV 40 0 Aa [(6,bV (ilt (h (toN (Ag (wr .i64 (Af (ofNat a) (ofNat i))) (ofNat n)))) (h (toN (Ag (wr .i64 (Af (ofNat b) (ofNat i))) (ofNat n))))))],[]⟩):=by
 exact Ab (ks:=[kn h0,kn h1,kn h20,kn h1,kn h22,kN (kn h2)]) (by kernel_rfl)
end
def Ab9 (n:Nat) (h:Nat->Int) (a b:Nat) :Nat->V:=lkV A9 [(11,.sl 1 n (λi=>iV (h i))),(12,nV n)]
theorem Ahd (L:LT) (p0:PT) (n:Nat) (h:Nat->Int) (a b:Nat) (i:Nat)  (hp0:p0 (Je (onP 0 p0 (Wj n h a b i) L)) (PI n h a b 0 (Ab9 n h a b ))=true):(Az (Ak tab ⟨Ap tb0,onP 0 p0 (Wj n h a b i) L,Gl⟩ Tryz.f99 [EJ n h,nV a,nV b] [])).sem=some ((bV false),[]):=by
 exact Ab (ks:=[kn hp0]) (by kernel_rfl)
theorem Ahc (L:LT) (p0:PT) (n:Nat) (h:Nat->Int) (a b:Nat) (v:Bool)  (hp0:p0 (Je (onP 0 p0 (Wi n h a b v) L)) (PI n h a b 0 (Ab9 n h a b ))=true):(Az (Ak tab ⟨Ap tb0,onP 0 p0 (Wi n h a b v) L,Gl⟩ Tryz.f99 [EJ n h,nV a,nV b] [])).sem=some ((bV v),[]):=by
 exact Ab (ks:=[kn hp0]) (by kernel_rfl)
theorem AcS (n a i:Nat) (ha:a<n) (hn:n <= 4611686018427387904) (hi:i<n):Ag (wr .i64 (Af (ofNat a) (ofNat i))) (ofNat n)=ofNat ((a+i) % n)∧(a+i) % n<n:=by
 rw [D8 (by omega),CO];exact ⟨rfl,Nat.mod_lt _ (by omega)⟩
theorem Xx (n a i:Nat) (ha:a<n) (hn:n <= 4611686018427387904) (hi:i<n):Al (ile 0 (Ag (wr .i64 (Af (ofNat a) (ofNat i))) (ofNat n))) (ilt (Ag (wr .i64 (Af (ofNat a) (ofNat i))) (ofNat n)) (ofNat n))=true:=by
 obtain ⟨e1,l1⟩:=AcS n a i ha hn hi;rw [e1];exact Ao l1
theorem Agl (n i:Nat) (hi:i<n):ieq (ofNat n) 0=false:=by rw [show (0:Int)=ofNat 0 from rfl,Ds,decide_eq_false (by omega)]
theorem Aa7 (L:LT) (n:Nat) (h:Nat->Int) (a b:Nat) (hn:n <= 4611686018427387904) (ha:a<n) (hb:b<n):∀ (d i:Nat) (j:Nat->V) (q:Nat),n=i+d->d<q ->
  (A3 (Je L) (Oq n h a b) q (PI n h a b i j)).sem=some (match JT n h a b d i with | none=>Wj n h a b 0 | some v=>Wi n h a b v)
 | 0,i,j,q+1,h1,_=>by
  have:n=i:=by omega
  subst this;exact Ae (Ai5 L n h a b n j (A1 (Nat.le_refl _)))
 | d+1,i,j,q+1,h1,h2=>by
  have hi:i<n:=by omega
  obtain ⟨e1,l1⟩:=AcS n a i ha hn hi;obtain ⟨e2,l2⟩:=AcS n b i hb hn hi;unfold JT;by_cases he:h ((a+i) % n)=h ((b+i) % n)
  ·have hq:ieq (h (toN (Ag (wr .i64 (Af (ofNat a) (ofNat i))) (ofNat n)))) (h (toN (Ag (wr .i64 (Af (ofNat b) (ofNat i))) (ofNat n))))=true:=by
    rw [e1,e2];show ieq (h ((a+i) % n)) (h ((b+i) % n))=true;rw [he];exact Hx _
   rw [if_pos he,Ae (Ai4 L n h a b i j (ofNat_lt hi) (Agl n i hi) (Xx n a i ha hn hi) (Xx n b i hb hn hi) hq),Ay,Aq hi hn];exact Aa7 L n h a b hn ha hb d (i+1) Aa q (by omega) (by omega)
  ·have hq:ieq (h (toN (Ag (wr .i64 (Af (ofNat a) (ofNat i))) (ofNat n)))) (h (toN (Ag (wr .i64 (Af (ofNat b) (ofNat i))) (ofNat n))))=false:=by
    rw [e1,e2];show ieq (h ((a+i) % n)) (h ((b+i) % n))=false;simp [ieq,he]
   have hr:=Ai3 L n h a b i j (ofNat_lt hi) (Agl n i hi) (Xx n a i ha hn hi) (Xx n b i hb hn hi) hq;rw [e1,e2] at hr;rw [if_neg he];exact Ae hr
def W4:List V->AR
 | [v,.val (.int .i64 a),.val (.int .i64 b)]=>apI v λn h=>.br (Ea n) (.br (Al (inN n a) (inN n b)) (out (bV (I6 n h (toN a) (toN b)))) .fail) .fail
 | _=>.fail
theorem Zo {a b:Bool} (h:Al a b=true):a=true∧b=true:=by simpa [Al] using h
theorem Ao0:Ax Tryz.prog Gl 99 W4:=by
 refine Am A8 mixed Tryz.func99 (by kernel_rfl) (by kernel_rfl) λvs v h' hh=>?_;unfold W4 at hh;split at hh
 ·rename_i u a b
  obtain ⟨n,h,hv,h1⟩:=He hh;obtain ⟨h8,h2⟩:=Ad h1;obtain ⟨hab,h3⟩:=Ad h2;have:=Ac h3;simp only [Prod.mk.injEq] at this;obtain ⟨rfl,rfl⟩:=this;obtain ⟨ha,hb⟩:=Zo hab;obtain ⟨ea,la⟩:=TG ha;obtain ⟨eb,lb⟩:=TG hb;have hA:Bf [u,iV a,iV b] [EJ n h,iV (ofNat (toN a)),iV (ofNat (toN b))]:=λS w cs q=>by
   rw [<- ea,<- eb];obtain ⟨c,l,rfl,q1,q2⟩:=q;exact ⟨c,l,rfl,hv S w c q1,q2⟩
  have hx:=AI C8 [(0,Oq n h (toN a) (toN b))];have hL:=AL [(0,Oq n h (toN a) (toN b))];have hr:=λL=>Aa7 L n h (toN a) (toN b) (DE h8) la lb n 0 (Ab9 n h (toN a) (toN b)) (n+1) (by omega) (by omega);refine ⟨_,AC Gl tb0 [(0,Oq n h (toN a) (toN b))],_,hA,rfl,hx.1,hx.2,?_,Aw.refl _⟩;unfold I6;cases hc:JT n h (toN a) (toN b) n 0 with
  | none =>rw [hc] at hr;exact AH (AA hL hL) _ (Ahd _ _ n h (toN a) (toN b) 0 (Au (hr _)))
  | some v =>rw [hc] at hr;exact AH (AA hL hL) _ (Ahc _ _ n h (toN a) (toN b) v (Au (hr _)))
 ·cases hh
noncomputable def WH:AP:=(99,W4)::[]
theorem ZX:Av Tryz.prog Gl WH:=.cons Ao0 .nil
def Vr (n:Nat) (h:Nat->Int):Nat->Nat->Nat->Nat
 | 0,_,b=>b
 | d+1,i,b=>if I6 n h i b=true then Vr n h d (i+1) i else Vr n h d (i+1) b
def Yy (n:Nat) (h:Nat->Int):Nat:=Vr n h (n-1) 1 0
theorem NN {n:Nat} {h:Nat->Int}:∀ d i b,n=i+d->b<i->(∀ q,q<i->¬ Ju n h q b)->EI n h (Vr n h d i b)
 | 0,i,b,hd,hb,hq=>⟨by show b<n; omega,λq hq'=>hq q (by omega)⟩
 | d+1,i,b,hd,hb,hq=>by
  unfold Vr;by_cases ha:I6 n h i b=true
  ·rw [if_pos ha]
   have hl:=Pj.1 ha;refine NN d (i+1) i (by omega) (by omega) λq hq' hlt=>?_;by_cases hqi:q=i
   ·rw [hqi] at hlt; exact Fq hlt
   ·exact hq q (by omega) (M3 hlt hl)
  ·rw [if_neg ha]
   refine NN d (i+1) b (by omega) (by omega) λq hq' hlt=>?_;by_cases hqi:q=i
   ·rw [hqi] at hlt; exact ha (Pj.2 hlt)
   ·exact hq q (by omega) hlt
theorem AaE {n:Nat} (h:Nat->Int) (hn:0<n):EI n h (Yy n h):=NN (n-1) 1 0 (by omega) (by omega) λq hq=>by
 have:q=0:=by omega
 subst this;exact Fq
def Ot (n:Nat) (h:Nat->Int):Lp:=⟨bmK 17 0 [0,2,3,4],0,bmK 17 0 [2,3],0,n+1⟩
def SN (n:Nat) (h:Nat->Int) (b i:Nat) (j:Nat->V):St:=⟨jsV 17 0 j [(0,.sl 1 n λk=>iV (h k)),(2,iV 0),(3,nV b),(4,nV i)],[]⟩
def Wk (n:Nat) (h:Nat->Int) (b i:Nat):Ex×St:=(.ex 0,⟨jsV 17 0 Aa [(2,iV 0),(3,nV b)],[]⟩)
noncomputable def Le (L:LT):St->T (Ex×St):=λst=>A7 tab ⟨Ap WH,L,Gl⟩ (Ar Tryz.f70 0) 0 st
section
variable (L:LT) (n:Nat) (h:Nat->Int) (b i:Nat)  (j:Nat->V)
include L n h b i j
theorem AaF (h0:ilt (ofNat i) (ofNat n)=false):Ah (Le L) (Ot n h) (SN n h b i j)=some ((.ex 0),⟨jsV 17 0 Aa [(2,iV 0),(3,nV b)],[]⟩):=by
 exact Ab (ks:=[kn h0]) (by kernel_rfl)
theorem Ai9 (h0:ilt (ofNat i) (ofNat n)=true) (h18:Ea n=true) (h19:inN n (ofNat i)=true) (h20:inN n (ofNat b)=true) (h1:I6 n h i b=true):Ah (Le L) (Ot n h) (SN n h b i j)=some (.nm,⟨jsV 17 0 Aa [(0,.sl 1 n (λk=>iV (h k))),(2,iV 0),(3,nV i),(4,iV (wr .i64 (Af (ofNat i) 1)))],[]⟩):=by
 exact Ab (ks:=[kn h0,kL n,kn h18,kA (kn h19) (kn h20),kn h1]) (by kernel_rfl)
theorem AiA (h0:ilt (ofNat i) (ofNat n)=true) (h18:Ea n=true) (h19:inN n (ofNat i)=true) (h20:inN n (ofNat b)=true) (h1:I6 n h i b=false):Ah (Le L) (Ot n h) (SN n h b i j)=some (.nm,⟨jsV 17 0 Aa [(0,.sl 1 n (λk=>iV (h k))),(2,iV 0),(3,nV b),(4,iV (wr .i64 (Af (ofNat i) 1)))],[]⟩):=by
 exact Ab (ks:=[kn h0,kL n,kn h18,kA (kn h19) (kn h20),kn h1]) (by kernel_rfl)
end
def AbA (n:Nat) (h:Nat->Int) :Nat->V:=lkV A9 []
theorem AfD (L:LT) (p0:PT) (n:Nat) (h:Nat->Int) (b i:Nat)  (hp0:p0 (Le (onP 0 p0 (Wk n h b i) L)) (SN n h 0 1 (AbA n h ))=true):(Az (Ak tab ⟨Ap WH,onP 0 p0 (Wk n h b i) L,Gl⟩ Tryz.f70 [EJ n h] [])).sem=some ((nV b),[]):=by
 exact Ab (ks:=[kn hp0]) (by kernel_rfl)
theorem Vo (L:LT) (n:Nat) (h:Nat->Int) (h8:Ea n=true):∀ (d i b:Nat) (j:Nat->V) (q:Nat),n=i+d->b<i->d<q ->
  (A3 (Le L) (Ot n h) q (SN n h b i j)).sem=some (Wk n h (Vr n h d i b) n)
 | 0,i,b,j,q+1,h1,_,_=>by
  have:n=i:=by omega
  subst this;exact Ae (AaF L n h b n j (A1 (Nat.le_refl _)))
 | d+1,i,b,j,q+1,h1,hb,h2=>by
  have hi:i<n:=by omega
  unfold Vr;cases ha:I6 n h i b with
  | true =>rw [if_pos rfl,Ae (Ai9 L n h b i j (ofNat_lt hi) h8 (Nc hi) (Nc (by omega)) ha),Ay,Aq hi (DE h8)];exact Vo L n h h8 d (i+1) i Aa q (by omega) (by omega) (by omega)
  | false =>rw [if_neg (by decide),Ae (AiA L n h b i j (ofNat_lt hi) h8 (Nc hi) (Nc (by omega)) ha),Ay,Aq hi (DE h8)];exact Vo L n h h8 d (i+1) b Aa q (by omega) (by omega) (by omega)
def Agd:List V->AR:=Aft λn h=>.br (Ea n) (out (iV (ofNat (Yy n h)))) .fail
theorem p104:Ax Tryz.prog Gl 70 Agd:=by
 refine Am A8 mixed Tryz.func70 (by kernel_rfl) (by kernel_rfl) λvs v h' hh=>?_;obtain ⟨n,h,hA,h1⟩:=QD hh;obtain ⟨h8,h3⟩:=Ad h1;have:=Ac h3;simp only [Prod.mk.injEq] at this;obtain ⟨rfl,rfl⟩:=this;have hx:=AI ZX [(0,Ot n h)];have hL:=AL [(0,Ot n h)];refine ⟨_,AC Gl WH [(0,Ot n h)],_,hA,rfl,hx.1,hx.2,?_,Aw.refl _⟩;unfold Yy;rcases Nat.eq_zero_or_pos n with rfl | hn
 ·exact AH (AA hL hL) _ (AfD _ _ 0 h 0 0 (Au (Ae (AaF _ 0 h 0 1 (AbA 0 h) (A1 (by omega))))))
 ·exact AH (AA hL hL) _ (AfD _ _ n h _ n (Au (Vo _ n h h8 (n-1) 1 0 (AbA n h) (n+1) (by omega) (by omega) (by omega))))
noncomputable def tb106:AP:=[]
theorem tb106_ok:Av Tryz.prog Gl tb106:=.nil
noncomputable def P9:AP:=(98,BI Up)::[]
theorem ZY:Av Tryz.prog Gl P9:=.cons p25 .nil
def RZ (n:Nat) (f:Nat->E6) (k:Nat) (x:Nat->V):Ex×St:=(.rt,⟨jsV 31 0 Aa [(2,.ref 2),(3,bV false),(4,.ref 1)],[.row 3 1 0 λ_=>.und,.row 3 1 k x,.row 3 1 0 λ_=>.und]⟩)
def Jt (n:Nat) (f:Nat->E6):Lp:=⟨bmK 31 0 [0,2,3,4,5],2,bmK 31 0 [2,3,4],3,n+1⟩
def Mp (n:Nat) (f:Nat->E6) (i k:Nat) (x:Nat->V) (j:Nat->V):St:=⟨jsV 31 0 j [(0,.sl 6 n λi=>eV (f i)),(2,.ref 0),(3,bV false),(4,.ref 1),(5,nV i)],[.row 3 1 0 λ_=>.und,.row 3 1 k x]⟩
def Wl (n:Nat) (f:Nat->E6) (i k:Nat) (x:Nat->V):Ex×St:=(.ex 0,⟨jsV 31 0 Aa [(2,.ref 0),(3,bV false),(4,.ref 1)],[.row 3 1 0 λ_=>.und,.row 3 1 k x]⟩)
noncomputable def Gu (L:LT):St->T (Ex×St):=λst=>A7 tab ⟨Ap P9,L,Gl⟩ (Ar Tryz.f68 0) 0 st
section
variable (L:LT) (n:Nat) (f:Nat->E6) (i k:Nat) (x:Nat->V)  (j:Nat->V)
include L n f i k x j
theorem AiB (h0:ilt (ofNat i) (ofNat n)=false):Ah (Gu L) (Jt n f) (Mp n f i k x j)=some ((.ex 0),⟨jsV 31 0 Aa [(2,.ref 0),(3,bV false),(4,.ref 1)],[.row 3 1 0 Aa,.row 3 1 k x]⟩):=by
 exact Ab (ks:=[kn h0]) (by kernel_rfl)
theorem AaG (h0:ilt (ofNat i) (ofNat n)=true) (h20:ile 0 (ofNat i)=true) (h1:ieq (Bc (f i)) 0=true) (h21:Ba k 1 8=true):Ah (Gu L) (Jt n f) (Mp n f i k x j)=some (.nm,⟨jsV 31 0 Aa [(0,.sl 6 n (λi=>eV (f i))),(2,.ref 0),(3,bV false),(4,.ref 1),(5,iV (wr .i64 (Af (ofNat i) 1)))],[.row 3 1 0 Aa,.row 3 1 (AS k 1) (As k x (iV (BJ (f i))))]⟩):=by
 exact Ab (ks:=[kn h0,kA (kn h20) (kn h0),kN (kn h1),kn h21]) (by kernel_rfl)
theorem AaH (h0:ilt (ofNat i) (ofNat n)=true) (h20:ile 0 (ofNat i)=true) (h1:ieq (Bc (f i)) 0=false):Ah (Gu L) (Jt n f) (Mp n f i k x j)=some (.rt,⟨jsV 31 0 Aa [(2,.ref 2),(3,bV false),(4,.ref 1)],[.row 3 1 0 Aa,.row 3 1 k x,.row 3 1 0 Aa]⟩):=by
 exact Ab (ks:=[kn h0,kA (kn h20) (kn h0),kN (kn h1)]) (by kernel_rfl)
end
def Xt (n:Nat) (f:Nat->E6) :Nat->V:=lkV A9 []
theorem Ahj (L:LT) (p0:PT) (n:Nat) (f:Nat->E6) (i k:Nat) (x:Nat->V)  (hp0:p0 (Gu (onP 0 p0 (Wl n f i k x) L)) (Mp n f 0 0 Aa (Xt n f ))=true):(Az (Ak tab ⟨Ap P9,onP 0 p0 (Wl n f i k x) L,Gl⟩ Tryz.f68 [AQ n f] [])).sem=some ((.tup [.ref 0,bV true]),[.row 3 1 k x]):=by
 exact Ab (ks:=[kn hp0]) (by kernel_rfl)
theorem Ahi (L:LT) (p0:PT) (n:Nat) (f:Nat->E6) (k:Nat) (x:Nat->V)  (hp0:p0 (Gu (onP 0 p0 (RZ n f k x) L)) (Mp n f 0 0 Aa (Xt n f ))=true):(Az (Ak tab ⟨Ap P9,onP 0 p0 (RZ n f k x) L,Gl⟩ Tryz.f68 [AQ n f] [])).sem=some ((.tup [.ref 0,bV false]),[.row 3 1 0 Aa]):=by
 exact Ab (ks:=[kn hp0]) (by kernel_rfl)
theorem WP (L:LT) (n:Nat) (f:Nat->E6) (hn:BF n=true) (e:Nat) (he:e<n) (hb:Bc (f e)=30) (ho:∀ t,t<e->Bc (f t)=0):∀ (d i:Nat) (j:Nat->V) (q:Nat),e=i+d->d<q ->
  (A3 (Gu L) (Jt n f) q (Mp n f i i (Br (cdV f) i) j)).sem=some (RZ n f e (Br (cdV f) e))
 | 0,i,j,q+1,h1,_=>by
  have:e=i:=by omega
  subst this;exact Ae (AaH L n f e e (Br (cdV f) e) j (ofNat_lt he) (TI e) (by rw [hb]; rfl))
 | d+1,i,j,q+1,h1,h2=>by
  have hi:i<n:=by omega
  have hr:=AaG L n f i i (Br (cdV f) i) j (ofNat_lt hi) (TI i) (by rw [ho i (by omega)]; rfl) (Sq hi (by decide) (of_decide_eq_true hn));rw [Ae hr,Ay,Aq hi (IS hn)];exact WP L n f hn e he hb ho d (i+1) Aa q (by omega) (by omega)
theorem Aa8 (L:LT) (n:Nat) (f:Nat->E6) (hn:BF n=true):∀ (d i:Nat) (j:Nat->V) (q:Nat),n=i+d->d<q->(∀ t,t<i->Bc (f t)=0) ->
  (Co n f=true∧(A3 (Gu L) (Jt n f) q (Mp n f i i (Br (cdV f) i) j)).sem=some (Wl n f n n (Br (cdV f) n))) ∨ (Co n f=false∧∃ e,(A3 (Gu L) (Jt n f) q (Mp n f i i (Br (cdV f) i) j)).sem=some (RZ n f e (Br (cdV f) e)))
 | 0,i,j,q+1,h1,_,ho=>by
  have:n=i:=by omega
  subst this;exact .inl ⟨EF.2 ho,Ae (AiB L n f n n _ j (A1 (Nat.le_refl _)))⟩
 | d+1,i,j,q+1,h1,h2,ho=>by
  have hi:i<n:=by omega
  by_cases hc:Bc (f i)=0
  ·have hr:=AaG L n f i i (Br (cdV f) i) j (ofNat_lt hi) (TI i) (by rw [hc]; rfl) (Sq hi (by decide) (of_decide_eq_true hn))
   have ih:=Aa8 L n f hn d (i+1) Aa q (by omega) (by omega) λt ht=>by
    by_cases hti:t=i
    ·rw [hti]; exact hc
    ·exact ho t (by omega)
   rw [Ae hr,Ay,Aq hi (IS hn)];exact ih
  ·refine .inr ⟨?_,i,Ae (AaH L n f i i (Br (cdV f) i) j (ofNat_lt hi) (TI i) (by simp [ieq,hc]))⟩
   cases hm:Co n f with
   | false=>rfl
   | true=>exact absurd (EF.1 hm i hi) hc
def XO:List V->AR:=FT λn f=>.br (BF n) (.br (Co n f) (.leaf (.tup [.ref 0,bV true],[.row 3 1 n λi=>iV (BJ (f i))])) (.leaf (.tup [.ref 0,bV false],[.row 3 1 0 λ_=>.und]))) .fail
theorem p103:Ax Tryz.prog Gl 68 XO:=by
 refine Am A8 mixed Tryz.func68 (by kernel_rfl) (by kernel_rfl) λvs v h' h=>?_;obtain ⟨n,f,ha,h⟩:=Ct h;obtain ⟨hn,h⟩:=Ad h;have hx:=AI ZY [(0,Jt n f)];have hL:=AL [(0,Jt n f)];have hr:=λL=>Aa8 L n f hn n 0 (Xt n f) (n+1) (by omega) (by omega) λt ht=>absurd ht (Nat.not_lt_zero _);cases hm:Co n f with
 | true =>rw [hm] at h;have:=Ac h;simp only [Prod.mk.injEq] at this;obtain ⟨rfl,rfl⟩:=this;exact ⟨_,AC Gl P9 [(0,Jt n f)],_,ha,rfl,hx.1,hx.2,AH (AA hL hL) _ (Ahj _ _ n f n n _ (Au ((hr _).elim (λq=>q.2) λq=>by rw [hm] at q; cases q.1))),Aw.one λj hj=>(F9 (cdV f) n j hj).symm⟩
 | false =>rw [hm] at h;have:=Ac h;simp only [Prod.mk.injEq] at this;obtain ⟨rfl,rfl⟩:=this;obtain ⟨e,h1,h2,h3⟩:=V8 hm;exact ⟨_,AC Gl P9 [(0,Jt n f)],_,ha,rfl,hx.1,hx.2,AH (AA hL hL) _ (Ahi _ _ n f e (Br (cdV f) e) (Au (WP _ n f hn e h1 h2 h3 e 0 (Xt n f) (n+1) (by omega) (by omega)))),Aw.refl _⟩
noncomputable def Adx:AP:=(68,XO)::(70,Agd)::(69,I9)::[]
theorem Adw:Av Tryz.prog Gl Adx:=.cons p103 <| .cons p104 <| .cons p69 .nil
theorem Akm (L:LT) (n:Nat) (f:Nat->E6) (h19:BF n=true) (h0:Co n f=true) (h20:Ea n=true):(Az (Ak tab ⟨Ap Adx,L,Gl⟩ Tryz.f47 [AQ n f] [])).sem=some ((.tup [.ref 0,iV 0]),[.row 92 6 n (λi=>eV (AT n f (ofNat (Yy n (λi=>BJ (f i)))) i))]):=by
 exact Ab (ks:=[kL n,kn h19,kn h0,kN kT,kL n,kn h20,kL n,kn h19]) (by kernel_rfl)
def Rj:List V->AR:=FT λn f=>.br (BF n) (.br (Co n f) (.leaf (.tup [.ref 0,iV 0],[.row 92 6 n λi=>eV (AT n f (ofNat (Yy n λk=>BJ (f k))) i)])) (.leaf (.tup [.ref 0,iV 30],[.row 92 6 0 λ_=>.und]))) .fail
theorem p66:Ax Tryz.prog Gl 47 Rj:=by
 refine Am A8 mixed Tryz.func47 (by kernel_rfl) (by kernel_rfl) λvs v h' h=>?_;obtain ⟨n,f,ha,h⟩:=Ct h;obtain ⟨hn,h⟩:=Ad h;have hx:=AI Adw [];cases hm:Co n f with
 | true =>rw [hm] at h;have:=Ac h;simp only [Prod.mk.injEq] at this;obtain ⟨rfl,rfl⟩:=this;exact ⟨_,AC Gl Adx [],_,ha,rfl,hx.1,hx.2,Akm _ n f hn hm (FG hn),Aw.refl _⟩
 | false =>rw [hm] at h;have:=Ac h;simp only [Prod.mk.injEq] at this;obtain ⟨rfl,rfl⟩:=this;exact ⟨_,AC Gl Adx [],_,ha,rfl,hx.1,hx.2,Ab (ks:=[kL n,kn hn,kn hm,kN kF]) (by kernel_rfl),Aw.refl _⟩
noncomputable def tb16:AP:=(17,H7)::(47,Rj)::(29,WK)::[]
theorem tb16_ok:Av Tryz.prog Gl tb16:=.cons p65 <| .cons p66 <| .cons p42 <| .nil
theorem Hk {n:Nat} {h g:Nat->Int} (hg:∀ i,i<n->g i=h i) (p i:Nat) (hn:0<n):EV n g p i=EV n h p i:=hg _ (Nat.mod_lt _ hn)
theorem TA {n:Nat} {h g:Nat->Int} (hg:∀ i,i<n->g i=h i) {p:Nat} (hp:EI n g p):EI n h p:=by
 have hn:0<n:=by have:=hp.1; omega
 refine ⟨hp.1,λq hq hl=>hp.2 q hq ?_⟩;obtain ⟨s,h1,h2,h3⟩:=hl;exact ⟨s,h1,λt ht=>by rw [Hk hg _ _ hn,Hk hg _ _ hn]; exact h2 t ht,by rw [Hk hg _ _ hn,Hk hg _ _ hn]; exact h3⟩
theorem Afp {n:Nat} {f l:Nat->E6} (hm:Co n f=true) (hl:∀ i,i<n->l i=f i):∀ i,i<n->AV n l i=AT n f (ofNat (Yy n λk=>BJ (f k))) i:=λi hi=>by
 have hn:0<n:=by omega
 have h1:EI n (λk=>BJ (f k)) (CZ n λk=>BJ (l k)):=TA (g:=λk=>BJ (l k)) (λt ht=>by show BJ (l t)=BJ (f t); rw [hl t ht]) (VH n _ hn);have h2:=AaE (λk=>BJ (f k)) hn;have h3:=AbD h1 h2 i hi;unfold AV AT;rw [Yf h2.1,hl _ (Nat.mod_lt _ hn)];exact Afo (EF.1 hm _ (Nat.mod_lt _ hn)) (EF.1 hm _ (Nat.mod_lt _ hn)) h3
end Go.Proofs.YtkgdhhieomndeaaGreatDoor.Ed
namespace Go.Proofs.YtkgdhhieomndeaaGreatDoor.Sh
open Go.Sy Ed
structure Cod (α:Type) where
 size:Nat
 enc:α->V
 ok:V->Bool
 ed:V->α
 law:∀ v,ok v=true->∀ (S:Nat->Prop) (w:World) (c:Value),VR S w v noK c->VR S w (enc (ed v)) noK c
def RK (s:Nat):V->Option (Nat×(Nat->V))
 | .sl s' n g=>match Nat.beq s' s with
  | true=>some (n,g)
  | false=>match n with
   | 0=>some (0,g)
   | _=>none
 | .slr s' n _ g=>match Nat.beq s' s with
  | true=>some (n,g)
  | false=>none
 | .nilS=>some (0,λ_=>.und)
 | _=>none
theorem O5 {s:Nat} {v:V} {n:Nat} {g:Nat->V} (hg:RK s v=some (n,g)) {e:Nat->V} (he:∀ i,i<n->∀ (S:Nat->Prop) (w:World) (c:Value),VR S w (g i) noK c->VR S w (e i) noK c)
  {S:Nat->Prop} {w:World} {c:Value} (hv:VR S w v noK c):VR S w (.sl s n e) noK c:=by
 unfold RK at hg;split at hg
 ·rename_i s' n' g'
  split at hg
  ·rename_i hs
   simp only [Option.some.injEq,Prod.mk.injEq] at hg;obtain ⟨rfl,rfl⟩:=hg;have hs:s'=s:=Nat.eq_of_beq_eq_true hs;subst hs;obtain ⟨a,cap,ea,hc,hb⟩:=hv;refine ⟨a,cap,ea,hc,hb.imp id ?_⟩
   rintro ⟨b,o,eb,hel⟩
   refine ⟨b,o,eb,λi hi=>?_⟩;obtain ⟨ci,h1,h2⟩:=hel i hi;exact ⟨ci,he i hi S w ci h1,h2⟩
  ·split at hg
   ·simp only [Option.some.injEq,Prod.mk.injEq] at hg
    obtain ⟨rfl,rfl⟩:=hg;obtain ⟨a,cap,ea,hc,_⟩:=hv;exact ⟨a,cap,ea,hc,.inl rfl⟩
   ·cases hg
 ·rename_i s' n' m' g'
  split at hg
  ·rename_i hs
   simp only [Option.some.injEq,Prod.mk.injEq] at hg;obtain ⟨rfl,rfl⟩:=hg;have hs:s'=s:=Nat.eq_of_beq_eq_true hs;subst hs;obtain ⟨a,cap,ea,hc,hm,hb⟩:=hv;refine ⟨a,cap,ea,Nat.le_trans hc hm,?_⟩;rcases hb with h0 | ⟨b,o,eb,hel⟩
   ·exact .inl (by omega)
   ·refine .inr ⟨b,o,eb,λi hi=>?_⟩
    obtain ⟨ci,h1,h2⟩:=hel i (by omega);exact ⟨ci,he i hi S w ci h1,h2⟩
  ·cases hg
 ·simp only [Option.some.injEq,Prod.mk.injEq] at hg
  obtain ⟨rfl,rfl⟩:=hg;have hv:c = .slice none 0 0:=hv;exact ⟨none,0,hv,Nat.le_refl _,.inl rfl⟩
 ·cases hg
def apG {α β:Type} (c:Cod α) (v:V) (F:Nat->(Nat->α)->T β):T β :=
 match RK c.size v with
 | some (n,g)=>.br (AB n λi=>c.ok (g i)) (F n λi=>c.ed (g i)) .fail
 | none=>.fail
def Ie {α:Type} (c:Cod α) (n:Nat) (f:Nat->α):V:=.sl c.size n λi=>c.enc (f i)
theorem Bs {α β:Type} {c:Cod α} {v:V} {F:Nat->(Nat->α)->T β} {r:β} (h:(apG c v F).sem=some r) :
  ∃ n f,(∀ (S:Nat->Prop) (w:World) (u:Value),VR S w v noK u->VR S w (Ie c n f) noK u)∧(F n f).sem=some r:=by
 unfold apG at h;split at h
 ·rename_i n g hg
  obtain ⟨h1,h2⟩:=Ad h;have h1:=A0.1 h1;exact ⟨n,_,λS w u hv=>O5 hg (λi hi S w cc hc=>c.law _ (h1 i hi) S w cc hc) hv,h2⟩
 ·cases h
def Se:Cod E6:=⟨6,eV,okE,edE,λv h S w c hv=>by rw [<- Oa h]; exact hv⟩
def ML:Cod Int:=⟨1,iV,okI,edI,λv h S w c hv=>by rw [<- NZ h]; exact hv⟩
def toX:V->Option Ev5
 | .agg [.val (.int .i64 a),.val (.int .i64 b),.val (.int .i64 c),.val (.int .i64 d),.val (.int .i64 e)]=>some ⟨a,b,c,d,e⟩
 | _=>none
theorem ZE {v:V} {e:Ev5} (h:toX v=some e):v=evV e:=by
 unfold toX at h;split at h
 ·simp only [Option.some.injEq] at h
  subst h;rfl
 ·cases h
def okX (v:V):Bool:=match toX v with
 | some _=>true
 | none=>false
def edX (v:V):Ev5:=match toX v with
 | some e=>e
 | none=>⟨0,0,0,0,0⟩
theorem AaU {v:V} (h:okX v=true):v=evV (edX v):=by
 unfold okX at h;unfold edX;split at h
 ·rename_i e he
  exact ZE he
 ·cases h
def Sc:Cod Ev5:=⟨5,evV,okX,edX,λv h S w c hv=>by rw [<- AaU h]; exact hv⟩
def okJ (v:V):Bool:=match RK 1 v with
 | some (n,g)=>AB n λi=>okI (g i)
 | none=>false
def edJ (v:V):Nat×(Nat->Int):=match RK 1 v with
 | some (n,g)=>(n,λi=>edI (g i))
 | none=>(0,λ_=>0)
def Sd:Cod (Nat×(Nat->Int)):=⟨1,λp=>.sl 1 p.1 λi=>iV (p.2 i),okJ,edJ,λv h S w c hv=>by
 unfold okJ at h;unfold edJ;split at h
 ·rename_i n g hg
  have h:=A0.1 h;exact O5 hg (λi hi S w cc hc=>by rw [<- NZ (h i hi)]; exact hc) hv
 ·cases h⟩
structure Sh7 where
 arch:Int
 ne:Nat
 E:Nat->E6
 nx:Nat
 X:Nat->Ev5
 tt:Int
 kk:Int
 nr:Nat
 R:Nat->Int
 nc:Nat
 C:Nat->Nat×(Nat->Int)
def L4 (s:Sh7):V:=.agg [iV s.arch,Ie Se s.ne s.E,Ie Sc s.nx s.X,iV s.tt,iV s.kk,Ie ML s.nr s.R,Ie Sd s.nc s.C]
def apS {β:Type} (v:V) (F:Sh7->T β):T β :=
 match v with
 | .agg [.val (.int .i64 a),e,x,.val (.int .i64 t),.val (.int .i64 k),r,c]=>apG Se e λne E=>apG Sc x λnx X=>apG ML r λnr R=>apG Sd c λnc C=>F ⟨a,ne,E,nx,X,t,k,nr,R,nc,C⟩
 | _=>.fail
theorem apS_some {β:Type} {v:V} {F:Sh7->T β} {r:β} (h:(apS v F).sem=some r) :
  ∃ s,(∀ (S:Nat->Prop) (w:World) (u:Value),VR S w v noK u->VR S w (L4 s) noK u)∧(F s).sem=some r:=by
 unfold apS at h;split at h
 ·obtain ⟨ne,E,h1,h⟩:=Bs h
  obtain ⟨nx,X,h2,h⟩:=Bs h;obtain ⟨nr,R,h3,h⟩:=Bs h;obtain ⟨nc,C,h4,h⟩:=Bs h;refine ⟨_,λS w u hv=>?_,h⟩;obtain ⟨ca,rfl,a1,l1,rfl,q1,a2,l2,rfl,q2,a3,l3,rfl,q3,a4,l4,rfl,q4,a5,l5,rfl,q5,a6,l6,rfl,q6,a7,l7,rfl,q7,q8⟩:=hv;exact ⟨_,rfl,a1,_,rfl,q1,a2,_,rfl,h1 S w _ q2,a3,_,rfl,h2 S w _ q3,a4,_,rfl,q4,a5,_,rfl,q5,a6,_,rfl,h3 S w _ q6,a7,_,rfl,h4 S w _ q7,q8⟩
 ·cases h
theorem Y4 {P:Program} {G:Nat->V} {f:FuncId} {F F':List V->AR} (h:Ax P G f F) (hF:∀ vs v h',(F' vs).sem=some (v,h')->∃ h'',(F vs).sem=some (v,h'')∧Aw h'' h'):Ax P G f F':=by
 refine ⟨h.1,λvs cs S w v h' h1 h2 h3 h4=>?_⟩;obtain ⟨h'',h5,h6⟩:=hF vs v h' h4;obtain ⟨hr,hc⟩:=h.2 vs cs S w v h'' h1 h2 h3 h5;refine ⟨h6.rows hr,hc.mono ?_⟩
 rintro e w' ⟨u,κ',S',rfl,g1,g2,g3⟩
 obtain ⟨p1,p2⟩:=h6.good g1;refine ⟨u,κ',S',rfl,p1,g2,Ext.ofNil g3.os g3.tape g3.output g3.size g3.keep (λi b hb=>?_) g3.sub g3.sup (h6.rows hr)⟩;rw [p2] at hb;exact g3.own i b hb
theorem p93:Ax Tryz.prog Gl 47 H7:=by
 refine Y4 p66 λvs v h' h=>?_;unfold H7 at h;unfold Rj;unfold FT at h ⊢;split at h
 ·rename_i u
  unfold apL at h ⊢;split at h
  ·rename_i n g hg
   obtain ⟨h1,h2⟩:=Ad h;obtain ⟨h3,h4⟩:=Ad h2;rw [h1];dsimp only;rw [h3];cases hm:Co n (λi=>edE (g i)) with
   | false =>rw [hm] at h4;exact ⟨h',h4,Aw.refl _⟩
   | true =>rw [hm] at h4;have:=Ac h4;simp only [Prod.mk.injEq] at this;obtain ⟨rfl,rfl⟩:=this;refine ⟨_,rfl,Aw.one λi hi=>?_⟩;rw [Afp hm (λ_ _=>rfl) i hi]
  ·cases h
 ·cases h
abbrev shL (a:Int) (n:Nat) (g:Nat->E6) (m:Nat) (x:Nat->Ev5) (t k:Int) (p:Nat) (r:Nat->Int) (q:Nat) (ln:Nat->Nat) (co:Nat->Nat->Int):List V:=[iV a,.sl 6 n (λi=>eV (g i)),.sl 5 m (λi=>evV (x i)),iV t,iV k,.sl 1 p (λi=>iV (r i)),.sl 1 q (λu=>.sl 1 (ln u) (λi=>iV (co u i)))]
end Go.Proofs.YtkgdhhieomndeaaGreatDoor.Sh
