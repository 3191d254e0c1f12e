/-
  Marked, Grown, Heaped: of edges and of numbers. No conditions.
-/
import Derived.Test.YtjhnfomefcngfaaCyT
import Derived.Test.YtjhnfomefcngfaaSyU
import Derived.Test.YtjhnfomefcngfaaCyUa
import Derived.Test.YtjhnfomefcngfaaShD
namespace Go.Proofs.Ytjhnfomefcngfaa.Ed
open Go.Sy Go
theorem Wb (i:Nat):ile 0 (Int.ofNat i) = true:=decide_eq_true (Int.natCast_nonneg i)
end Go.Proofs.Ytjhnfomefcngfaa.Ed
namespace Go.Proofs.Ytjhnfomefcngfaa.Ed
open Go.Sy Go
open Int (ofNat)
def inN (n:Nat) (a:Int):Bool:=Af (ile 0 a) (ilt a (ofNat n))
theorem MJ {n a:Nat} (h:a < n):inN n (ofNat a) = true:=Aq h
theorem SO {n:Nat} {a:Int} (h:inN n a = true):a = ofNat (toN a) ∧ toN a < n:=by
 simp only [inN,Af,ile,ilt,Bool.and_eq_true,decide_eq_true_eq,Int.ofNat_eq_natCast] at h
 simp only [toN,Int.ofNat_eq_natCast]
 omega
def Ka (n:Nat) (h:Nat->Int) (a b:Nat):Nat->Nat->Option Bool
 | 0,_=>none
 | d+1,i=>if h ((a+i) % n) = h ((b+i) % n) then Ka n h a b d (i+1) else some (decide (h ((a+i) % n) < h ((b+i) % n)))
def GI (n:Nat) (h:Nat->Int) (a b:Nat):Bool:=(Ka n h a b n 0).getD false
theorem OG {n:Nat} {h:Nat->Int} {a b:Nat}:∀ d i,n = i+d->(∀ t,t < i->DZ n h a t = DZ n h b t)->((Ka n h a b d i).getD false = true ↔ JD n h a b)
 | 0,i,hd,hi=>by
  refine ⟨λh1=>(by cases h1),λ⟨s,h1,_,h3⟩=>?_⟩
  rw [hi s (by omega)] at h3
  omega
 | d+1,i,hd,hi=>by
  unfold Ka
  by_cases he:h ((a+i) % n) = h ((b+i) % n)
  ·rw [if_pos he]
   refine OG d (i+1) (by omega) λt ht=>?_
   by_cases hti:t = i
   ·rw [hti]; exact he
   ·exact hi t (by omega)
  ·rw [if_neg he]
   refine ⟨λh1=>⟨i,by omega,hi,of_decide_eq_true h1⟩,λ⟨s,h1,h2,h3⟩=>decide_eq_true ?_⟩
   rcases Nat.lt_trichotomy s i with hs | hs | hs
   ·rw [hi s hs] at h3; omega
   ·rw [hs] at h3; exact h3
   ·exact absurd (h2 i hs) he
theorem OH {n:Nat} {h:Nat->Int} {a b:Nat}:GI n h a b = true ↔ JD n h a b:=OG n 0 (by omega) λt ht=>absurd ht (Nat.not_lt_zero _)
def Ro (n:Nat) (h:Nat->Int) (a b:Nat) (v:Bool):Ex × St:=(.rt,⟨(jsV 40 0 (λ_=>.und) [(6,bV v)]),[]⟩)
def NT (n:Nat) (h:Nat->Int) (a b:Nat):Lp:=⟨(bmK 40 0 [0,1,2,6,7,8]),0,bmK 40 0 [6],0,n+1⟩
def LZ (n:Nat) (h:Nat->Int) (a b:Nat) (i:Nat) (j:Nat->V):St:=⟨(jsV 40 0 j [(0,.sl 1 n λk=>iV (h k)),(1,nV a),(2,nV b),(6,bV false),(7,nV n),(8,nV i)]),[]⟩
def Rp (n:Nat) (h:Nat->Int) (a b:Nat) (i:Nat):Ex × St:=(.ex 0,⟨(jsV 40 0 (λ_=>.und) [(6,bV false)]),[]⟩)
noncomputable def G3 (L:LT):St->T (Ex × St):=λst=>AF tab ⟨Ap tb0,L,Gl⟩ (A1 Try.f120 0) 0 st
section
variable (L:LT) (n:Nat) (h:Nat->Int) (a b:Nat) (i:Nat)  (j:Nat->V)
include L n h a b i j
theorem AfQ (h0:ilt (ofNat i) (ofNat n) = false):Ai (G3 L) (NT n h a b) (LZ n h a b i j) = some ((.ex 0),⟨(jsV 40 0 (λ_=>.und) [(6,(bV false))]),[]⟩):=Aa [false] [ilt (ofNat i) (ofNat n)] (by kernel_rfl) (by simp only [h0] <;> rfl)
theorem AfP (h0:ilt (ofNat i) (ofNat n) = true) (h1:ieq (ofNat n) 0 = false) (h20:Af (ile 0 (Ab (wr .i64 (Ae (ofNat a) (ofNat i))) (ofNat n))) (ilt (Ab (wr .i64 (Ae (ofNat a) (ofNat i))) (ofNat n)) (ofNat n)) = true) (h22:Af (ile 0 (Ab (wr .i64 (Ae (ofNat b) (ofNat i))) (ofNat n))) (ilt (Ab (wr .i64 (Ae (ofNat b) (ofNat i))) (ofNat n)) (ofNat n)) = true) (h2:ieq (h (toN (Ab (wr .i64 (Ae (ofNat a) (ofNat i))) (ofNat n)))) (h (toN (Ab (wr .i64 (Ae (ofNat b) (ofNat i))) (ofNat n)))) = true):Ai (G3 L) (NT n h a b) (LZ n h a b i j) = some (.nm,⟨(jsV 40 0 (λ_=>.und) [(0,(.sl 1 n (λk=>iV (h k)))),(1,(nV a)),(2,(nV b)),(6,(bV false)),(7,(nV n)),(8,(iV (wr .i64 (Ae (ofNat i) 1))))]),[]⟩):=Aa (bbK 6 21) [ilt (ofNat i) (ofNat n),ieq (ofNat n) 0,Af (ile 0 (Ab (wr .i64 (Ae (ofNat a) (ofNat i))) (ofNat n))) (ilt (Ab (wr .i64 (Ae (ofNat a) (ofNat i))) (ofNat n)) (ofNat n)),ieq (ofNat n) 0,Af (ile 0 (Ab (wr .i64 (Ae (ofNat b) (ofNat i))) (ofNat n))) (ilt (Ab (wr .i64 (Ae (ofNat b) (ofNat i))) (ofNat n)) (ofNat n)),An (ieq (h (toN (Ab (wr .i64 (Ae (ofNat a) (ofNat i))) (ofNat n)))) (h (toN (Ab (wr .i64 (Ae (ofNat b) (ofNat i))) (ofNat n)))))] (by kernel_rfl) (by simp only [h20,h22] <;> simp only [*] <;> rfl)
theorem AfO (h0:ilt (ofNat i) (ofNat n) = true) (h1:ieq (ofNat n) 0 = false) (h20:Af (ile 0 (Ab (wr .i64 (Ae (ofNat a) (ofNat i))) (ofNat n))) (ilt (Ab (wr .i64 (Ae (ofNat a) (ofNat i))) (ofNat n)) (ofNat n)) = true) (h22:Af (ile 0 (Ab (wr .i64 (Ae (ofNat b) (ofNat i))) (ofNat n))) (ilt (Ab (wr .i64 (Ae (ofNat b) (ofNat i))) (ofNat n)) (ofNat n)) = true) (h2:ieq (h (toN (Ab (wr .i64 (Ae (ofNat a) (ofNat i))) (ofNat n)))) (h (toN (Ab (wr .i64 (Ae (ofNat b) (ofNat i))) (ofNat n)))) = false):Ai (G3 L) (NT n h a b) (LZ n h a b i j) = some (.rt,⟨(jsV 40 0 (λ_=>.und) [(6,(bV (ilt (h (toN (Ab (wr .i64 (Ae (ofNat a) (ofNat i))) (ofNat n)))) (h (toN (Ab (wr .i64 (Ae (ofNat b) (ofNat i))) (ofNat n)))))))]),[]⟩):=Aa (bbK 6 53) [ilt (ofNat i) (ofNat n),ieq (ofNat n) 0,Af (ile 0 (Ab (wr .i64 (Ae (ofNat a) (ofNat i))) (ofNat n))) (ilt (Ab (wr .i64 (Ae (ofNat a) (ofNat i))) (ofNat n)) (ofNat n)),ieq (ofNat n) 0,Af (ile 0 (Ab (wr .i64 (Ae (ofNat b) (ofNat i))) (ofNat n))) (ilt (Ab (wr .i64 (Ae (ofNat b) (ofNat i))) (ofNat n)) (ofNat n)),An (ieq (h (toN (Ab (wr .i64 (Ae (ofNat a) (ofNat i))) (ofNat n)))) (h (toN (Ab (wr .i64 (Ae (ofNat b) (ofNat i))) (ofNat n)))))] (by kernel_rfl) (by simp only [h20,h22] <;> simp only [*] <;> rfl)
end
def SG (n:Nat) (h:Nat->Int) (a b:Nat) :Nat->V:=lkV AA [(11,(.sl 1 n (λi=>iV (h i)))),(12,(nV n))]
theorem AdS (L:LT) (p0:PT) (n:Nat) (h:Nat->Int) (a b:Nat) (i:Nat)  (hp0:p0 (G3 (onP 0 p0 (Rp n h a b i) L)) (LZ n h a b 0 (SG n h a b )) = true):(Az (Ak tab ⟨Ap tb0,onP 0 p0 (Rp n h a b i) L,Gl⟩ Try.f120 [ER n h,nV a,nV b] [])).sem = some ((bV false),[]):=Aa [true] [p0 (G3 (onP 0 p0 (Rp n h a b i) L)) (LZ n h a b 0 (SG n h a b ))] (by kernel_rfl) (by simp only [hp0] <;> rfl)
theorem AdR (L:LT) (p0:PT) (n:Nat) (h:Nat->Int) (a b:Nat) (v:Bool)  (hp0:p0 (G3 (onP 0 p0 (Ro n h a b v) L)) (LZ n h a b 0 (SG n h a b )) = true):(Az (Ak tab ⟨Ap tb0,onP 0 p0 (Ro n h a b v) L,Gl⟩ Try.f120 [ER n h,nV a,nV b] [])).sem = some ((bV v),[]):=Aa [true] [p0 (G3 (onP 0 p0 (Ro n h a b v) L)) (LZ n h a b 0 (SG n h a b ))] (by kernel_rfl) (by simp only [hp0] <;> rfl)
theorem Aap (n a i:Nat) (ha:a < n) (hn:n <= 4611686018427387904) (hi:i < n):Ab (wr .i64 (Ae (ofNat a) (ofNat i))) (ofNat n) = ofNat ((a+i) % n) ∧ (a+i) % n < n:=by
 rw [DF (by omega),C5]
 exact ⟨rfl,Nat.mod_lt _ (by omega)⟩
theorem Wa (n a i:Nat) (ha:a < n) (hn:n <= 4611686018427387904) (hi:i < n):Af (ile 0 (Ab (wr .i64 (Ae (ofNat a) (ofNat i))) (ofNat n))) (ilt (Ab (wr .i64 (Ae (ofNat a) (ofNat i))) (ofNat n)) (ofNat n)) = true:=by
 obtain ⟨e1,l1⟩:=Aap n a i ha hn hi
 rw [e1]
 exact Aq l1
theorem AcI (n i:Nat) (hi:i < n):ieq (ofNat n) 0 = false:=by rw [show (0:Int) = ofNat 0 from rfl,Dx,decide_eq_false (by omega)]
theorem Y5 (L:LT) (n:Nat) (h:Nat->Int) (a b:Nat) (hn:n <= 4611686018427387904) (ha:a < n) (hb:b < n):∀ (d i:Nat) (j:Nat->V) (q:Nat),n = i+d->d < q ->
  (A9 (G3 L) (NT n h a b) q (LZ n h a b i j)).sem = some (match Ka n h a b d i with | none=>Rp n h a b 0 | some v=>Ro n h a b v)
 | 0,i,j,q+1,h1,_=>by
  have:n = i:=by omega
  subst this
  exact Ad (AfQ L n h a b n j (AD (Nat.le_refl _)))
 | d+1,i,j,q+1,h1,h2=>by
  have hi:i < n:=by omega
  obtain ⟨e1,l1⟩:=Aap n a i ha hn hi
  obtain ⟨e2,l2⟩:=Aap n b i hb hn hi
  unfold Ka
  by_cases he:h ((a+i) % n) = h ((b+i) % n)
  ·have hq:ieq (h (toN (Ab (wr .i64 (Ae (ofNat a) (ofNat i))) (ofNat n)))) (h (toN (Ab (wr .i64 (Ae (ofNat b) (ofNat i))) (ofNat n)))) = true:=by
    rw [e1,e2]
    show ieq (h ((a+i) % n)) (h ((b+i) % n)) = true
    rw [he]
    exact F4 _
   rw [if_pos he,Ad (AfP L n h a b i j (ofNat_lt hi) (AcI n i hi) (Wa n a i ha hn hi) (Wa n b i hb hn hi) hq),Ax,Ao hi hn]
   exact Y5 L n h a b hn ha hb d (i+1) (λ_=>.und) q (by omega) (by omega)
  ·have hq:ieq (h (toN (Ab (wr .i64 (Ae (ofNat a) (ofNat i))) (ofNat n)))) (h (toN (Ab (wr .i64 (Ae (ofNat b) (ofNat i))) (ofNat n)))) = false:=by
    rw [e1,e2]
    show ieq (h ((a+i) % n)) (h ((b+i) % n)) = false
    simp [ieq,he]
   have hr:=AfO L n h a b i j (ofNat_lt hi) (AcI n i hi) (Wa n a i ha hn hi) (Wa n b i hb hn hi) hq
   rw [e1,e2] at hr
   rw [if_neg he]
   exact Ad hr
def UV:List V->T (V × List Blk)
 | [v,.val (.int .i64 a),.val (.int .i64 b)]=>apI v λn h=>.br (CR n) (.br (Af (inN n a) (inN n b)) (out (bV (GI n h (toN a) (toN b)))) .fail) .fail
 | _=>.fail
theorem X5 {a b:Bool} (h:Af a b = true):a = true ∧ b = true:=by simpa [Af] using h
theorem AkC:A6 Try.prog Gl 120 UV:=by
 refine A5 AO AP Try.func120 (by kernel_rfl) (by kernel_rfl) λvs v h' hh=>?_
 unfold UV at hh
 split at hh
 ·rename_i u a b
  obtain ⟨n,h,hv,h1⟩:=Hq hh
  obtain ⟨h8,h2⟩:=Ag h1
  obtain ⟨hab,h3⟩:=Ag h2
  have:=Ac h3
  simp only [Prod.mk.injEq] at this
  obtain ⟨rfl,rfl⟩:=this
  obtain ⟨ha,hb⟩:=X5 hab
  obtain ⟨ea,la⟩:=SO ha
  obtain ⟨eb,lb⟩:=SO hb
  have hA:BJ [u,iV a,iV b] [ER n h,iV (ofNat (toN a)),iV (ofNat (toN b))]:=λS w cs q=>by
   rw [<- ea,<- eb]
   obtain ⟨c,l,rfl,q1,q2⟩:=q
   exact ⟨c,l,rfl,hv S w c q1,q2⟩
  have hx:=AQ Dd [(0,NT n h (toN a) (toN b))]
  have hL:=AL [(0,NT n h (toN a) (toN b))]
  have hr:=λL=>Y5 L n h (toN a) (toN b) (CM h8) la lb n 0 (SG n h (toN a) (toN b)) (n+1) (by omega) (by omega)
  refine ⟨_,AS Gl tb0 [(0,NT n h (toN a) (toN b))],_,hA,rfl,hx.1,hx.2,?_,AC.refl _⟩
  unfold GI
  cases hc:Ka n h (toN a) (toN b) n 0 with
  | none =>
   rw [hc] at hr
   exact A7 (Ay hL hL) _ (AdS _ _ n h (toN a) (toN b) 0 (Am (hr _)))
  | some v =>
   rw [hc] at hr
   exact A7 (Ay hL hL) _ (AdR _ _ n h (toN a) (toN b) v (Am (hr _)))
 ·cases hh
noncomputable def Vm:List (Nat × (List V->T (V × List Blk))):=(120,UV) :: []
theorem Yb:AB Try.prog Gl Vm:=.cons AkC .nil
def Un (n:Nat) (h:Nat->Int):Nat->Nat->Nat->Nat
 | 0,_,b=>b
 | d+1,i,b=>if GI n h i b = true then Un n h d (i+1) i else Un n h d (i+1) b
def WO (n:Nat) (h:Nat->Int):Nat:=Un n h (n - 1) 1 0
theorem N2 {n:Nat} {h:Nat->Int}:∀ d i b,n = i+d->b < i->(∀ q,q < i->¬ JD n h q b)->Es n h (Un n h d i b)
 | 0,i,b,hd,hb,hq=>⟨by show b < n; omega,λq hq'=>hq q (by omega)⟩
 | d+1,i,b,hd,hb,hq=>by
  unfold Un
  by_cases ha:GI n h i b = true
  ·rw [if_pos ha]
   have hl:=OH.1 ha
   refine N2 d (i+1) i (by omega) (by omega) λq hq' hlt=>?_
   by_cases hqi:q = i
   ·rw [hqi] at hlt; exact F3 hlt
   ·exact hq q (by omega) (Mq hlt hl)
  ·rw [if_neg ha]
   refine N2 d (i+1) b (by omega) (by omega) λq hq' hlt=>?_
   by_cases hqi:q = i
   ·rw [hqi] at hlt; exact ha (OH.2 hlt)
   ·exact hq q (by omega) hlt
theorem YD {n:Nat} (h:Nat->Int) (hn:0 < n):Es n h (WO n h):=N2 (n - 1) 1 0 (by omega) (by omega) λq hq=>by
 have:q = 0:=by omega
 subst this
 exact F3
def lp104 (n:Nat) (h:Nat->Int):Lp:=⟨(bmK 17 0 [0,2,3,4]),0,bmK 17 0 [2,3],0,n+1⟩
def st104 (n:Nat) (h:Nat->Int) (b i:Nat) (j:Nat->V):St:=⟨(jsV 17 0 j [(0,.sl 1 n λk=>iV (h k)),(2,iV 0),(3,nV b),(4,nV i)]),[]⟩
def en104e (n:Nat) (h:Nat->Int) (b i:Nat):Ex × St:=(.ex 0,⟨(jsV 17 0 (λ_=>.und) [(2,iV 0),(3,nV b)]),[]⟩)
noncomputable def body104 (L:LT):St->T (Ex × St):=λst=>AF tab ⟨Ap Vm,L,Gl⟩ (A1 Try.f113 0) 0 st
section
variable (L:LT) (n:Nat) (h:Nat->Int) (b i:Nat)  (j:Nat->V)
include L n h b i j
theorem YE (h0:ilt (ofNat i) (ofNat n) = false):Ai (body104 L) (lp104 n h) (st104 n h b i j) = some ((.ex 0),⟨(jsV 17 0 (λ_=>.und) [(2,(iV 0)),(3,(nV b))]),[]⟩):=Aa [false] [ilt (ofNat i) (ofNat n)] (by kernel_rfl) (by simp only [h0] <;> rfl)
theorem AfU (h0:ilt (ofNat i) (ofNat n) = true) (h18:CR n = true) (h19:inN n (ofNat i) = true) (h20:inN n (ofNat b) = true) (h1:GI n h i b = true):Ai (body104 L) (lp104 n h) (st104 n h b i j) = some (.nm,⟨(jsV 17 0 (λ_=>.und) [(0,(.sl 1 n (λk=>iV (h k)))),(2,(iV 0)),(3,(nV i)),(4,(iV (wr .i64 (Ae (ofNat i) 1))))]),[]⟩):=Aa [true,true,true,true,true] [ilt (ofNat i) (ofNat n),Au n (λ_=>true),CR n,Af (inN n (ofNat i)) (inN n (ofNat b)),GI n h i b] (by kernel_rfl) (by simp only [*,Aw] <;> rfl)
theorem AfV (h0:ilt (ofNat i) (ofNat n) = true) (h18:CR n = true) (h19:inN n (ofNat i) = true) (h20:inN n (ofNat b) = true) (h1:GI n h i b = false):Ai (body104 L) (lp104 n h) (st104 n h b i j) = some (.nm,⟨(jsV 17 0 (λ_=>.und) [(0,(.sl 1 n (λk=>iV (h k)))),(2,(iV 0)),(3,(nV b)),(4,(iV (wr .i64 (Ae (ofNat i) 1))))]),[]⟩):=Aa [true,true,true,true,false] [ilt (ofNat i) (ofNat n),Au n (λ_=>true),CR n,Af (inN n (ofNat i)) (inN n (ofNat b)),GI n h i b] (by kernel_rfl) (by simp only [*,Aw] <;> rfl)
end
def jk104 (n:Nat) (h:Nat->Int) :Nat->V:=lkV AA []
theorem Ac1 (L:LT) (p0:PT) (n:Nat) (h:Nat->Int) (b i:Nat)  (hp0:p0 (body104 (onP 0 p0 (en104e n h b i) L)) (st104 n h 0 1 (jk104 n h )) = true):(Az (Ak tab ⟨Ap Vm,onP 0 p0 (en104e n h b i) L,Gl⟩ Try.f113 [ER n h] [])).sem = some ((nV b),[]):=Aa [true] [p0 (body104 (onP 0 p0 (en104e n h b i) L)) (st104 n h 0 1 (jk104 n h ))] (by kernel_rfl) (by simp only [hp0] <;> rfl)
theorem run104 (L:LT) (n:Nat) (h:Nat->Int) (h8:CR n = true):∀ (d i b:Nat) (j:Nat->V) (q:Nat),n = i+d->b < i->d < q ->
  (A9 (body104 L) (lp104 n h) q (st104 n h b i j)).sem = some (en104e n h (Un n h d i b) n)
 | 0,i,b,j,q+1,h1,_,_=>by
  have:n = i:=by omega
  subst this
  exact Ad (YE L n h b n j (AD (Nat.le_refl _)))
 | d+1,i,b,j,q+1,h1,hb,h2=>by
  have hi:i < n:=by omega
  unfold Un
  cases ha:GI n h i b with
  | true =>
   rw [if_pos rfl,Ad (AfU L n h b i j (ofNat_lt hi) h8 (MJ hi) (MJ (by omega)) ha),Ax,Ao hi (CM h8)]
   exact run104 L n h h8 d (i+1) i (λ_=>.und) q (by omega) (by omega) (by omega)
  | false =>
   rw [if_neg (by decide),Ad (AfV L n h b i j (ofNat_lt hi) h8 (MJ hi) (MJ (by omega)) ha),Ax,Ao hi (CM h8)]
   exact run104 L n h h8 d (i+1) b (λ_=>.und) q (by omega) (by omega) (by omega)
def AcF:List V->T (V × List Blk):=Acu λn h=>.br (CR n) (out (iV (ofNat (WO n h)))) .fail
theorem p104:A6 Try.prog Gl 113 AcF:=by
 refine A5 AO AP Try.func113 (by kernel_rfl) (by kernel_rfl) λvs v h' hh=>?_
 obtain ⟨n,h,hA,h1⟩:=PZ hh
 obtain ⟨h8,h3⟩:=Ag h1
 have:=Ac h3
 simp only [Prod.mk.injEq] at this
 obtain ⟨rfl,rfl⟩:=this
 have hx:=AQ Yb [(0,lp104 n h)]
 have hL:=AL [(0,lp104 n h)]
 refine ⟨_,AS Gl Vm [(0,lp104 n h)],_,hA,rfl,hx.1,hx.2,?_,AC.refl _⟩
 unfold WO
 rcases Nat.eq_zero_or_pos n with rfl | hn
 ·exact A7 (Ay hL hL) _ (Ac1 _ _ 0 h 0 0 (Am (Ad (YE _ 0 h 0 1 (jk104 0 h) (AD (by omega))))))
 ·exact A7 (Ay hL hL) _ (Ac1 _ _ n h _ n (Am (run104 _ n h h8 (n - 1) 1 0 (jk104 n h) (n+1) (by omega) (by omega) (by omega))))
noncomputable def Pg:List (Nat × (List V->T (V × List Blk))):=(98,BQ Tu) :: []
theorem Yc:AB Try.prog Gl Pg:=.cons p25 .nil
def en103f (n:Nat) (f:Nat->E6) (k:Nat) (x:Nat->V):Ex × St:=(.rt,⟨(jsV 31 0 (λ_=>.und) [(2,.ref 2),(3,bV false),(4,.ref 1)]),[.row 3 1 0 λ_=>.und,.row 3 1 k x,.row 3 1 0 λ_=>.und]⟩)
def lp103 (n:Nat) (f:Nat->E6):Lp:=⟨(bmK 31 0 [0,2,3,4,5]),2,bmK 31 0 [2,3,4],3,n+1⟩
def st103 (n:Nat) (f:Nat->E6) (i k:Nat) (x:Nat->V) (j:Nat->V):St:=⟨(jsV 31 0 j [(0,.sl 6 n λi=>eV (f i)),(2,.ref 0),(3,bV false),(4,.ref 1),(5,nV i)]),[.row 3 1 0 λ_=>.und,.row 3 1 k x]⟩
def en103e (n:Nat) (f:Nat->E6) (i k:Nat) (x:Nat->V):Ex × St:=(.ex 0,⟨(jsV 31 0 (λ_=>.und) [(2,.ref 0),(3,bV false),(4,.ref 1)]),[.row 3 1 0 λ_=>.und,.row 3 1 k x]⟩)
noncomputable def body103 (L:LT):St->T (Ex × St):=λst=>AF tab ⟨Ap Pg,L,Gl⟩ (A1 Try.f70 0) 0 st
section
variable (L:LT) (n:Nat) (f:Nat->E6) (i k:Nat) (x:Nat->V)  (j:Nat->V)
include L n f i k x j
theorem AfW (h0:ilt (ofNat i) (ofNat n) = false):Ai (body103 L) (lp103 n f) (st103 n f i k x j) = some ((.ex 0),⟨(jsV 31 0 (λ_=>.und) [(2,(.ref 0)),(3,(bV false)),(4,(.ref 1))]),[r3Z,.row 3 1 k x]⟩):=Aa [false] [ilt (ofNat i) (ofNat n)] (by kernel_rfl) (by simp only [h0] <;> rfl)
theorem YF (h0:ilt (ofNat i) (ofNat n) = true) (h20:ile 0 (ofNat i) = true) (h1:ieq (AR (f i)) 0 = true) (h21:Bg k 1 8 = true):Ai (body103 L) (lp103 n f) (st103 n f i k x j) = some (.nm,⟨(jsV 31 0 (λ_=>.und) [(0,(.sl 6 n (λi=>eV (f i)))),(2,(.ref 0)),(3,(bV false)),(4,(.ref 1)),(5,(iV (wr .i64 (Ae (ofNat i) 1))))]),[r3Z,.row 3 1 (Bn k 1) (AE k x (iV (Bw (f i))))]⟩):=Aa [true,true,false,true] [ilt (ofNat i) (ofNat n),Af (ile 0 (ofNat i)) (ilt (ofNat i) (ofNat n)),An (ieq (AR (f i)) 0),Bg k 1 8] (by kernel_rfl) (by simp only [*] <;> rfl)
theorem YG (h0:ilt (ofNat i) (ofNat n) = true) (h20:ile 0 (ofNat i) = true) (h1:ieq (AR (f i)) 0 = false):Ai (body103 L) (lp103 n f) (st103 n f i k x j) = some (.rt,⟨(jsV 31 0 (λ_=>.und) [(2,(.ref 2)),(3,(bV false)),(4,(.ref 1))]),[r3Z,.row 3 1 k x,r3Z]⟩):=Aa [true,true,true] [ilt (ofNat i) (ofNat n),Af (ile 0 (ofNat i)) (ilt (ofNat i) (ofNat n)),An (ieq (AR (f i)) 0)] (by kernel_rfl) (by simp only [*] <;> rfl)
end
def jk103 (n:Nat) (f:Nat->E6) :Nat->V:=lkV AA []
theorem AdY (L:LT) (p0:PT) (n:Nat) (f:Nat->E6) (i k:Nat) (x:Nat->V)  (hp0:p0 (body103 (onP 0 p0 (en103e n f i k x) L)) (st103 n f 0 0 (λ_=>.und) (jk103 n f )) = true):(Az (Ak tab ⟨Ap Pg,onP 0 p0 (en103e n f i k x) L,Gl⟩ Try.f70 [A4 n f] [])).sem = some ((.tup [.ref 0,bV true]),[.row 3 1 k x]):=Aa [true] [p0 (body103 (onP 0 p0 (en103e n f i k x) L)) (st103 n f 0 0 (λ_=>.und) (jk103 n f ))] (by kernel_rfl) (by simp only [hp0] <;> rfl)
theorem AdX (L:LT) (p0:PT) (n:Nat) (f:Nat->E6) (k:Nat) (x:Nat->V)  (hp0:p0 (body103 (onP 0 p0 (en103f n f k x) L)) (st103 n f 0 0 (λ_=>.und) (jk103 n f )) = true):(Az (Ak tab ⟨Ap Pg,onP 0 p0 (en103f n f k x) L,Gl⟩ Try.f70 [A4 n f] [])).sem = some ((.tup [.ref 0,bV false]),[r3Z]):=Aa [true] [p0 (body103 (onP 0 p0 (en103f n f k x) L)) (st103 n f 0 0 (λ_=>.und) (jk103 n f ))] (by kernel_rfl) (by simp only [hp0] <;> rfl)
theorem Vz (L:LT) (n:Nat) (f:Nat->E6) (hn:AN n = true) (e:Nat) (he:e < n) (hb:AR (f e) = 30) (ho:∀ t,t < e->AR (f t) = 0):∀ (d i:Nat) (j:Nat->V) (q:Nat),e = i+d->d < q ->
  (A9 (body103 L) (lp103 n f) q (st103 n f i i (BP (cdV f) i) j)).sem = some (en103f n f e (BP (cdV f) e))
 | 0,i,j,q+1,h1,_=>by
  have:e = i:=by omega
  subst this
  exact Ad (YG L n f e e (BP (cdV f) e) j (ofNat_lt he) (Wb e) (by rw [hb]; rfl))
 | d+1,i,j,q+1,h1,h2=>by
  have hi:i < n:=by omega
  have hr:=YF L n f i i (BP (cdV f) i) j (ofNat_lt hi) (Wb i) (by rw [ho i (by omega)]; rfl) (R7 hi (by decide) (of_decide_eq_true hn))
  rw [Ad hr,Ax,Ao hi (Ju hn)]
  exact Vz L n f hn e he hb ho d (i+1) (λ_=>.und) q (by omega) (by omega)
theorem run103 (L:LT) (n:Nat) (f:Nat->E6) (hn:AN n = true):∀ (d i:Nat) (j:Nat->V) (q:Nat),n = i+d->d < q->(∀ t,t < i->AR (f t) = 0) ->
  (BM n f = true ∧ (A9 (body103 L) (lp103 n f) q (st103 n f i i (BP (cdV f) i) j)).sem = some (en103e n f n n (BP (cdV f) n))) ∨ (BM n f = false ∧ ∃ e,(A9 (body103 L) (lp103 n f) q (st103 n f i i (BP (cdV f) i) j)).sem = some (en103f n f e (BP (cdV f) e)))
 | 0,i,j,q+1,h1,_,ho=>by
  have:n = i:=by omega
  subst this
  exact .inl ⟨D7.2 ho,Ad (AfW L n f n n _ j (AD (Nat.le_refl _)))⟩
 | d+1,i,j,q+1,h1,h2,ho=>by
  have hi:i < n:=by omega
  by_cases hc:AR (f i) = 0
  ·have hr:=YF L n f i i (BP (cdV f) i) j (ofNat_lt hi) (Wb i) (by rw [hc]; rfl) (R7 hi (by decide) (of_decide_eq_true hn))
   have ih:=run103 L n f hn d (i+1) (λ_=>.und) q (by omega) (by omega) λt ht=>by
    by_cases hti:t = i
    ·rw [hti]; exact hc
    ·exact ho t (by omega)
   rw [Ad hr,Ax,Ao hi (Ju hn)]
   exact ih
  ·refine .inr ⟨?_,i,Ad (YG L n f i i (BP (cdV f) i) j (ofNat_lt hi) (Wb i) (by simp [ieq,hc]))⟩
   cases hm:BM n f with
   | false=>rfl
   | true=>exact absurd (D7.1 hm i hi) hc
def Ws:List V->T (V × List Blk):=Hp λn f=>.br (AN n) (.br (BM n f) (.leaf (.tup [.ref 0,bV true],[.row 3 1 n λi=>iV (Bw (f i))])) (.leaf (.tup [.ref 0,bV false],[.row 3 1 0 λ_=>.und]))) .fail
theorem p103:A6 Try.prog Gl 70 Ws:=by
 refine A5 AO AP Try.func70 (by kernel_rfl) (by kernel_rfl) λvs v h' h=>?_
 obtain ⟨n,f,ha,h⟩:=CU h
 obtain ⟨hn,h⟩:=Ag h
 have hx:=AQ Yc [(0,lp103 n f)]
 have hL:=AL [(0,lp103 n f)]
 have hr:=λL=>run103 L n f hn n 0 (jk103 n f) (n+1) (by omega) (by omega) λt ht=>absurd ht (Nat.not_lt_zero _)
 cases hm:BM n f with
 | true =>
  rw [hm] at h
  have:=Ac h
  simp only [Prod.mk.injEq] at this
  obtain ⟨rfl,rfl⟩:=this
  exact ⟨_,AS Gl Pg [(0,lp103 n f)],_,ha,rfl,hx.1,hx.2,A7 (Ay hL hL) _ (AdY _ _ n f n n _ (Am ((hr _).elim (λq=>q.2) λq=>by rw [hm] at q; cases q.1))),AC.one λj hj=>(I0 (cdV f) n j hj).symm⟩
 | false =>
  rw [hm] at h
  have:=Ac h
  simp only [Prod.mk.injEq] at this
  obtain ⟨rfl,rfl⟩:=this
  obtain ⟨e,h1,h2,h3⟩:=YW hm
  exact ⟨_,AS Gl Pg [(0,lp103 n f)],_,ha,rfl,hx.1,hx.2,A7 (Ay hL hL) _ (AdX _ _ n f e (BP (cdV f) e) (Am (Vz _ n f hn e h1 h2 h3 e 0 (jk103 n f) (n+1) (by omega) (by omega)))),AC.refl _⟩
noncomputable def XT:List (Nat × (List V->T (V × List Blk))):=(70,Ws) :: (113,AcF) :: (21,M7) :: []
theorem AaM:AB Try.prog Gl XT:=.cons p103 <| .cons p104 <| .cons p69 .nil
section
variable (L:LT) (n:Nat) (f:Nat->E6)
include L n f
theorem Ahs (h19:AN n = true) (h0:BM n f = true) (h20:CR n = true):(Az (Ak tab ⟨Ap XT,L,Gl⟩ Try.f93 [A4 n f] [])).sem = some ((.tup [.ref 0,iV 0]),[.row 44 6 n (λi=>eV (J9 n f (ofNat (WO n (λi=>Bw (f i)))) i))]):=Aa (bbK 8 247) ((λc0 c1=>[c0,c1,BM n f,An true,c0,CR n,c0,c1]) (Au n (λ_=>true)) (AN n)) (by kernel_rfl) (by simp only [*,Aw] <;> rfl)
theorem Aht (h19:AN n = true) (h0:BM n f = false):(Az (Ak tab ⟨Ap XT,L,Gl⟩ Try.f93 [A4 n f] [])).sem = some ((.tup [.ref 0,iV 30]),[.row 44 6 0 (λ_=>.und)]):=Aa [true,true,false,true] [Au n (λ_=>true),AN n,BM n f,An false] (by kernel_rfl) (by simp only [h19,h0,Aw] <;> rfl)
end
def V4:List V->T (V × List Blk):=Hp λn f=>.br (AN n) (.br (BM n f) (.leaf (.tup [.ref 0,iV 0],[.row 44 6 n λi=>eV (J9 n f (ofNat (WO n λk=>Bw (f k))) i)])) (.leaf (.tup [.ref 0,iV 30],[.row 44 6 0 λ_=>.und]))) .fail
theorem p66:A6 Try.prog Gl 93 V4:=by
 refine A5 AO AP Try.func93 (by kernel_rfl) (by kernel_rfl) λvs v h' h=>?_
 obtain ⟨n,f,ha,h⟩:=CU h
 obtain ⟨hn,h⟩:=Ag h
 have hx:=AQ AaM []
 cases hm:BM n f with
 | true =>
  rw [hm] at h
  have:=Ac h
  simp only [Prod.mk.injEq] at this
  obtain ⟨rfl,rfl⟩:=this
  exact ⟨_,AS Gl XT [],_,ha,rfl,hx.1,hx.2,Ahs _ n f hn hm (Fm hn),AC.refl _⟩
 | false =>
  rw [hm] at h
  have:=Ac h
  simp only [Prod.mk.injEq] at this
  obtain ⟨rfl,rfl⟩:=this
  exact ⟨_,AS Gl XT [],_,ha,rfl,hx.1,hx.2,Aht _ n f hn hm,AC.refl _⟩
theorem Hz {n:Nat} {h g:Nat->Int} (hg:∀ i,i < n->g i = h i) (p i:Nat) (hn:0 < n):DZ n g p i = DZ n h p i:=hg _ (Nat.mod_lt _ hn)
theorem SK {n:Nat} {h g:Nat->Int} (hg:∀ i,i < n->g i = h i) {p:Nat} (hp:Es n g p):Es n h p:=by
 have hn:0 < n:=by have:=hp.1; omega
 refine ⟨hp.1,λq hq hl=>hp.2 q hq ?_⟩
 obtain ⟨s,h1,h2,h3⟩:=hl
 exact ⟨s,h1,λt ht=>by rw [Hz hg _ _ hn,Hz hg _ _ hn]; exact h2 t ht,by rw [Hz hg _ _ hn,Hz hg _ _ hn]; exact h3⟩
theorem R3 {n:Nat} {f l:Nat->E6} (hm:BM n f = true) (hl:∀ i,i < n->l i = f i):∀ i,i < n->Bk n l i = J9 n f (ofNat (WO n λk=>Bw (f k))) i:=λi hi=>by
 have hn:0 < n:=by omega
 have h1:Es n (λk=>Bw (f k)) (BX n λk=>Bw (l k)):=SK (g:=λk=>Bw (l k)) (λt ht=>by show Bw (l t) = Bw (f t); rw [hl t ht]) (JP n _ hn)
 have h2:=YD (λk=>Bw (f k)) hn
 have h3:=SJ h1 h2 i hi
 unfold Bk J9
 rw [W5 h2.1,hl _ (Nat.mod_lt _ hn)]
 exact Wv (D7.1 hm _ (Nat.mod_lt _ hn)) (D7.1 hm _ (Nat.mod_lt _ hn)) h3
end Go.Proofs.Ytjhnfomefcngfaa.Ed
namespace Go.Proofs.Ytjhnfomefcngfaa.Sh
open Go.Sy Ed
structure Cod (α:Type) where
 size:Nat
 enc:α->V
 ok:V->Bool
 ed:V->α
 law:∀ v,ok v = true->∀ (S:Nat->Prop) (w:World) (c:Value),VR S w v noK c->VR S w (enc (ed v)) noK c
def Z3 (s:Nat):V->Option (Nat × (Nat->V))
 | .sl s' n g=>match Nat.beq s' s with
  | true=>some (n,g)
  | false=>match n with
   | 0=>some (0,g)
   | _=>none
 | .slr s' n _ g=>match Nat.beq s' s with
  | true=>some (n,g)
  | false=>none
 | .nilS=>some (0,λ_=>.und)
 | _=>none
theorem SY {s:Nat} {v:V} {n:Nat} {g:Nat->V} (hg:Z3 s v = some (n,g)) {e:Nat->V} (he:∀ i,i < n->∀ (S:Nat->Prop) (w:World) (c:Value),VR S w (g i) noK c->VR S w (e i) noK c)
  {S:Nat->Prop} {w:World} {c:Value} (hv:VR S w v noK c):VR S w (.sl s n e) noK c:=by
 unfold Z3 at hg
 split at hg
 ·rename_i s' n' g'
  split at hg
  ·rename_i hs
   simp only [Option.some.injEq,Prod.mk.injEq] at hg
   obtain ⟨rfl,rfl⟩:=hg
   have hs:s' = s:=Nat.eq_of_beq_eq_true hs
   subst hs
   obtain ⟨a,cap,ea,hc,hb⟩:=hv
   refine ⟨a,cap,ea,hc,hb.imp id ?_⟩
   rintro ⟨b,o,eb,hel⟩
   refine ⟨b,o,eb,λi hi=>?_⟩
   obtain ⟨ci,h1,h2⟩:=hel i hi
   exact ⟨ci,he i hi S w ci h1,h2⟩
  ·split at hg
   ·simp only [Option.some.injEq,Prod.mk.injEq] at hg
    obtain ⟨rfl,rfl⟩:=hg
    obtain ⟨a,cap,ea,hc,_⟩:=hv
    exact ⟨a,cap,ea,hc,.inl rfl⟩
   ·cases hg
 ·rename_i s' n' m' g'
  split at hg
  ·rename_i hs
   simp only [Option.some.injEq,Prod.mk.injEq] at hg
   obtain ⟨rfl,rfl⟩:=hg
   have hs:s' = s:=Nat.eq_of_beq_eq_true hs
   subst hs
   obtain ⟨a,cap,ea,hc,hm,hb⟩:=hv
   refine ⟨a,cap,ea,Nat.le_trans hc hm,?_⟩
   rcases hb with h0 | ⟨b,o,eb,hel⟩
   ·exact .inl (by omega)
   ·refine .inr ⟨b,o,eb,λi hi=>?_⟩
    obtain ⟨ci,h1,h2⟩:=hel i (by omega)
    exact ⟨ci,he i hi S w ci h1,h2⟩
  ·cases hg
 ·simp only [Option.some.injEq,Prod.mk.injEq] at hg
  obtain ⟨rfl,rfl⟩:=hg
  have hv:c = .slice none 0 0:=hv
  exact ⟨none,0,hv,Nat.le_refl _,.inl rfl⟩
 ·cases hg
def apG {α β:Type} (c:Cod α) (v:V) (F:Nat->(Nat->α)->T β):T β :=
 match Z3 c.size v with
 | some (n,g)=>.br (Au n λi=>c.ok (g i)) (F n λi=>c.ed (g i)) .fail
 | none=>.fail
def NI {α:Type} (c:Cod α) (n:Nat) (f:Nat->α):V:=.sl c.size n λi=>c.enc (f i)
theorem CT {α β:Type} {c:Cod α} {v:V} {F:Nat->(Nat->α)->T β} {r:β} (h:(apG c v F).sem = some r) :
  ∃ n f,(∀ (S:Nat->Prop) (w:World) (u:Value),VR S w v noK u->VR S w (NI c n f) noK u) ∧ (F n f).sem = some r:=by
 unfold apG at h
 split at h
 ·rename_i n g hg
  obtain ⟨h1,h2⟩:=Ag h
  have h1:=AJ.1 h1
  exact ⟨n,_,λS w u hv=>SY hg (λi hi S w cc hc=>c.law _ (h1 i hi) S w cc hc) hv,h2⟩
 ·cases h
def Xx:Cod E6:=⟨6,eV,okE,edE,λv h S w c hv=>by rw [<- NC h]; exact hv⟩
def Xw:Cod Int:=⟨1,iV,okI,edI,λv h S w c hv=>by rw [<- NB h]; exact hv⟩
def toX:V->Option Ev5
 | .agg [.val (.int .i64 a),.val (.int .i64 b),.val (.int .i64 c),.val (.int .i64 d),.val (.int .i64 e)]=>some ⟨a,b,c,d,e⟩
 | _=>none
theorem XN {v:V} {e:Ev5} (h:toX v = some e):v = evV e:=by
 unfold toX at h
 split at h
 ·simp only [Option.some.injEq] at h
  subst h
  rfl
 ·cases h
def okX (v:V):Bool:=match toX v with
 | some _=>true
 | none=>false
def edX (v:V):Ev5:=match toX v with
 | some e=>e
 | none=>⟨0,0,0,0,0⟩
theorem YR {v:V} (h:okX v = true):v = evV (edX v):=by
 unfold okX at h
 unfold edX
 split at h
 ·rename_i e he
  exact XN he
 ·cases h
def Xv:Cod Ev5:=⟨5,evV,okX,edX,λv h S w c hv=>by rw [<- YR h]; exact hv⟩
def okJ (v:V):Bool:=match Z3 1 v with
 | some (n,g)=>Au n λi=>okI (g i)
 | none=>false
def edJ (v:V):Nat × (Nat->Int):=match Z3 1 v with
 | some (n,g)=>(n,λi=>edI (g i))
 | none=>(0,λ_=>0)
def Aco:Cod (Nat × (Nat->Int)):=⟨1,λp=>.sl 1 p.1 λi=>iV (p.2 i),okJ,edJ,λv h S w c hv=>by
 unfold okJ at h
 unfold edJ
 split at h
 ·rename_i n g hg
  have h:=AJ.1 h
  exact SY hg (λi hi S w cc hc=>by rw [<- NB (h i hi)]; exact hc) hv
 ·cases h⟩
structure Sh7 where
 arch:Int
 ne:Nat
 E:Nat->E6
 nx:Nat
 X:Nat->Ev5
 tt:Int
 kk:Int
 nr:Nat
 R:Nat->Int
 nc:Nat
 C:Nat->Nat × (Nat->Int)
def Aky (s:Sh7):V:=.agg [iV s.arch,NI Xx s.ne s.E,NI Xv s.nx s.X,iV s.tt,iV s.kk,NI Xw s.nr s.R,NI Aco s.nc s.C]
def apS {β:Type} (v:V) (F:Sh7->T β):T β :=
 match v with
 | .agg [.val (.int .i64 a),e,x,.val (.int .i64 t),.val (.int .i64 k),r,c]=>apG Xx e λne E=>apG Xv x λnx X=>apG Xw r λnr R=>apG Aco c λnc C=>F ⟨a,ne,E,nx,X,t,k,nr,R,nc,C⟩
 | _=>.fail
theorem EX {β:Type} {v:V} {F:Sh7->T β} {r:β} (h:(apS v F).sem = some r) :
  ∃ s,(∀ (S:Nat->Prop) (w:World) (u:Value),VR S w v noK u->VR S w (Aky s) noK u) ∧ (F s).sem = some r:=by
 unfold apS at h
 split at h
 ·obtain ⟨ne,E,h1,h⟩:=CT h
  obtain ⟨nx,X,h2,h⟩:=CT h
  obtain ⟨nr,R,h3,h⟩:=CT h
  obtain ⟨nc,C,h4,h⟩:=CT h
  refine ⟨_,λS w u hv=>?_,h⟩
  obtain ⟨ca,rfl,a1,l1,rfl,q1,a2,l2,rfl,q2,a3,l3,rfl,q3,a4,l4,rfl,q4,a5,l5,rfl,q5,a6,l6,rfl,q6,a7,l7,rfl,q7,q8⟩:=hv
  exact ⟨_,rfl,a1,_,rfl,q1,a2,_,rfl,h1 S w _ q2,a3,_,rfl,h2 S w _ q3,a4,_,rfl,q4,a5,_,rfl,q5,a6,_,rfl,h3 S w _ q6,a7,_,rfl,h4 S w _ q7,q8⟩
 ·cases h
theorem WR {P:Program} {G:Nat->V} {f:FuncId} {F F':List V->T (V × List Blk)} (h:A6 P G f F) (hF:∀ vs v h',(F' vs).sem = some (v,h')->∃ h'',(F vs).sem = some (v,h'') ∧ AC h'' h'):A6 P G f F':=by
 refine ⟨h.1,λvs cs S w v h' h1 h2 h3 h4=>?_⟩
 obtain ⟨h'',h5,h6⟩:=hF vs v h' h4
 obtain ⟨hr,hc⟩:=h.2 vs cs S w v h'' h1 h2 h3 h5
 refine ⟨h6.rows hr,hc.mono ?_⟩
 rintro e w' ⟨u,κ',S',rfl,g1,g2,g3⟩
 obtain ⟨p1,p2⟩:=h6.good g1
 refine ⟨u,κ',S',rfl,p1,g2,Ext.ofNil g3.os g3.tape g3.output g3.size g3.keep (λi b hb=>?_) g3.sub g3.sup (h6.rows hr)⟩
 rw [p2] at hb
 exact g3.own i b hb
theorem p93:A6 Try.prog Gl 93 O8:=by
 refine WR p66 λvs v h' h=>?_
 unfold O8 at h
 unfold V4
 unfold Hp at h ⊢
 split at h
 ·rename_i u
  unfold apL at h ⊢
  split at h
  ·rename_i n g hg
   obtain ⟨h1,h2⟩:=Ag h
   obtain ⟨h3,h4⟩:=Ag h2
   rw [h1]
   dsimp only
   rw [h3]
   cases hm:BM n (λi=>edE (g i)) with
   | false =>
    rw [hm] at h4
    exact ⟨h',h4,AC.refl _⟩
   | true =>
    rw [hm] at h4
    have:=Ac h4
    simp only [Prod.mk.injEq] at this
    obtain ⟨rfl,rfl⟩:=this
    refine ⟨_,rfl,AC.one λi hi=>?_⟩
    rw [R3 hm (λ_ _=>rfl) i hi]
  ·cases h
 ·cases h
abbrev shL (a:Int) (n:Nat) (g:Nat->E6) (m:Nat) (x:Nat->Ev5) (t k:Int) (p:Nat) (r:Nat->Int) (q:Nat) (ln:Nat->Nat) (co:Nat->Nat->Int):List V:=[iV a,.sl 6 n (λi=>eV (g i)),.sl 5 m (λi=>evV (x i)),iV t,iV k,.sl 1 p (λi=>iV (r i)),.sl 1 q (λu=>.sl 1 (ln u) (λi=>iV (co u i)))]
theorem jlC (c:List V) (l:List Blk):AT (.cells c::l) = AT l:=rfl
theorem jlR (e s n:Nat) (g:Nat->V) (l:List Blk):AT (.row e s n g::l) = AT l:=rfl
theorem jlJ (e s n:Nat) (g:Nat->V) (o e' s':Nat) (ln:Nat->Nat) (m:Nat->Nat->V) (l:List Blk):AT (.jag ⟨e,s,n,g,o,e',s',λ_=>true,ln,m⟩::l) = AT l:=by simp [AT]
theorem jlN:AT [] = true:=rfl
end Go.Proofs.Ytjhnfomefcngfaa.Sh
