/-
  Marked, Grown, Heaped: of edges and of numbers. No conditions.
-/
import Derived.Test.YtjhnfomefcngfaaCyT
import Derived.Test.YtjhnfomefcngfaaSyU
import Derived.Test.YtjhnfomefcngfaaCyUa
import Derived.Test.YtjhnfomefcngfaaShD
namespace Go.Proofs.Ytjhnfomefcngfaa.Ed
open Go.Sy Go
theorem VS (i:Nat):ile 0 (Int.ofNat i) = true:=decide_eq_true (Int.natCast_nonneg i)
end Go.Proofs.Ytjhnfomefcngfaa.Ed
namespace Go.Proofs.Ytjhnfomefcngfaa.Ed
open Go.Sy Go
open Int (ofNat)
def inN (n:Nat) (a:Int):Bool:=Af (ile 0 a) (ilt a (ofNat n))
theorem MJ {n a:Nat} (h:a < n):inN n (ofNat a) = true:=Ap h
theorem SK {n:Nat} {a:Int} (h:inN n a = true):a = ofNat (toN a) ∧ toN a < n:=by
 simp only [inN,Af,ile,ilt,Bool.and_eq_true,decide_eq_true_eq,Int.ofNat_eq_natCast] at h
 simp only [toN,Int.ofNat_eq_natCast]
 omega
def Ka (n:Nat) (h:Nat->Int) (a b:Nat):Nat->Nat->Option Bool
 | 0,_=>none
 | d+1,i=>if h ((a+i) % n) = h ((b+i) % n) then Ka n h a b d (i+1) else some (decide (h ((a+i) % n) < h ((b+i) % n)))
def GI (n:Nat) (h:Nat->Int) (a b:Nat):Bool:=(Ka n h a b n 0).getD false
theorem OF {n:Nat} {h:Nat->Int} {a b:Nat}:∀ d i,n = i+d->(∀ t,t < i->Eb n h a t = Eb n h b t)->((Ka n h a b d i).getD false = true ↔ JE n h a b)
 | 0,i,hd,hi=>by
  refine ⟨λh1=>(by cases h1),λ⟨s,h1,_,h3⟩=>?_⟩
  rw [hi s (by omega)] at h3
  omega
 | d+1,i,hd,hi=>by
  unfold Ka
  by_cases he:h ((a+i) % n) = h ((b+i) % n)
  ·rw [if_pos he]
   refine OF d (i+1) (by omega) λt ht=>?_
   by_cases hti:t = i
   ·rw [hti]; exact he
   ·exact hi t (by omega)
  ·rw [if_neg he]
   refine ⟨λh1=>⟨i,by omega,hi,of_decide_eq_true h1⟩,λ⟨s,h1,h2,h3⟩=>decide_eq_true ?_⟩
   rcases Nat.lt_trichotomy s i with hs | hs | hs
   ·rw [hi s hs] at h3; omega
   ·rw [hs] at h3; exact h3
   ·exact absurd (h2 i hs) he
theorem OG {n:Nat} {h:Nat->Int} {a b:Nat}:GI n h a b = true ↔ JE n h a b:=OF n 0 (by omega) λt ht=>absurd ht (Nat.not_lt_zero _)
def Rk (n:Nat) (h:Nat->Int) (a b:Nat) (v:Bool):Ex × St:=(.rt,⟨(jsV 40 0 (λ_=>.und) [(6,bV v)]),[]⟩)
def NS (n:Nat) (h:Nat->Int) (a b:Nat):Lp:=⟨(bmK 40 0 [0,1,2,6,7,8]),0,bmK 40 0 [6],0,n+1⟩
def Md (n:Nat) (h:Nat->Int) (a b:Nat) (i:Nat) (j:Nat->V):St:=⟨(jsV 40 0 j [(0,.sl 1 n λk=>iV (h k)),(1,nV a),(2,nV b),(6,bV false),(7,nV n),(8,nV i)]),[]⟩
def Rl (n:Nat) (h:Nat->Int) (a b:Nat) (i:Nat):Ex × St:=(.ex 0,⟨(jsV 40 0 (λ_=>.und) [(6,bV false)]),[]⟩)
noncomputable def G2 (L:LT):St->T (Ex × St):=λst=>AG tab ⟨Aq tb0,L,Gl⟩ (A1 Try.f120 0) 0 st
section
variable (L:LT) (n:Nat) (h:Nat->Int) (a b:Nat) (i:Nat)  (j:Nat->V)
include L n h a b i j
theorem AfI (h0:ilt (ofNat i) (ofNat n) = false):Aj (G2 L) (NS n h a b) (Md n h a b i j) = some ((.ex 0),⟨(jsV 40 0 (λ_=>.und) [(6,(bV false))]),[]⟩):=Aa [false] [ilt (ofNat i) (ofNat n)] (by kernel_rfl) (by simp only [h0] <;> rfl)
theorem AfH (h0:ilt (ofNat i) (ofNat n) = true) (h1:ieq (ofNat n) 0 = false) (h20:Af (ile 0 (Ab (wr .i64 (Ae (ofNat a) (ofNat i))) (ofNat n))) (ilt (Ab (wr .i64 (Ae (ofNat a) (ofNat i))) (ofNat n)) (ofNat n)) = true) (h22:Af (ile 0 (Ab (wr .i64 (Ae (ofNat b) (ofNat i))) (ofNat n))) (ilt (Ab (wr .i64 (Ae (ofNat b) (ofNat i))) (ofNat n)) (ofNat n)) = true) (h2:ieq (h (toN (Ab (wr .i64 (Ae (ofNat a) (ofNat i))) (ofNat n)))) (h (toN (Ab (wr .i64 (Ae (ofNat b) (ofNat i))) (ofNat n)))) = true):Aj (G2 L) (NS n h a b) (Md n h a b i j) = some (.nm,⟨(jsV 40 0 (λ_=>.und) [(0,(.sl 1 n (λk=>iV (h k)))),(1,(nV a)),(2,(nV b)),(6,(bV false)),(7,(nV n)),(8,(iV (wr .i64 (Ae (ofNat i) 1))))]),[]⟩):=Aa (bbK 6 21) [ilt (ofNat i) (ofNat n),ieq (ofNat n) 0,Af (ile 0 (Ab (wr .i64 (Ae (ofNat a) (ofNat i))) (ofNat n))) (ilt (Ab (wr .i64 (Ae (ofNat a) (ofNat i))) (ofNat n)) (ofNat n)),ieq (ofNat n) 0,Af (ile 0 (Ab (wr .i64 (Ae (ofNat b) (ofNat i))) (ofNat n))) (ilt (Ab (wr .i64 (Ae (ofNat b) (ofNat i))) (ofNat n)) (ofNat n)),Ah (ieq (h (toN (Ab (wr .i64 (Ae (ofNat a) (ofNat i))) (ofNat n)))) (h (toN (Ab (wr .i64 (Ae (ofNat b) (ofNat i))) (ofNat n)))))] (by kernel_rfl) (by simp only [h20,h22] <;> simp only [*] <;> rfl)
theorem AfG (h0:ilt (ofNat i) (ofNat n) = true) (h1:ieq (ofNat n) 0 = false) (h20:Af (ile 0 (Ab (wr .i64 (Ae (ofNat a) (ofNat i))) (ofNat n))) (ilt (Ab (wr .i64 (Ae (ofNat a) (ofNat i))) (ofNat n)) (ofNat n)) = true) (h22:Af (ile 0 (Ab (wr .i64 (Ae (ofNat b) (ofNat i))) (ofNat n))) (ilt (Ab (wr .i64 (Ae (ofNat b) (ofNat i))) (ofNat n)) (ofNat n)) = true) (h2:ieq (h (toN (Ab (wr .i64 (Ae (ofNat a) (ofNat i))) (ofNat n)))) (h (toN (Ab (wr .i64 (Ae (ofNat b) (ofNat i))) (ofNat n)))) = false):Aj (G2 L) (NS n h a b) (Md n h a b i j) = some (.rt,⟨(jsV 40 0 (λ_=>.und) [(6,(bV (ilt (h (toN (Ab (wr .i64 (Ae (ofNat a) (ofNat i))) (ofNat n)))) (h (toN (Ab (wr .i64 (Ae (ofNat b) (ofNat i))) (ofNat n)))))))]),[]⟩):=Aa (bbK 6 53) [ilt (ofNat i) (ofNat n),ieq (ofNat n) 0,Af (ile 0 (Ab (wr .i64 (Ae (ofNat a) (ofNat i))) (ofNat n))) (ilt (Ab (wr .i64 (Ae (ofNat a) (ofNat i))) (ofNat n)) (ofNat n)),ieq (ofNat n) 0,Af (ile 0 (Ab (wr .i64 (Ae (ofNat b) (ofNat i))) (ofNat n))) (ilt (Ab (wr .i64 (Ae (ofNat b) (ofNat i))) (ofNat n)) (ofNat n)),Ah (ieq (h (toN (Ab (wr .i64 (Ae (ofNat a) (ofNat i))) (ofNat n)))) (h (toN (Ab (wr .i64 (Ae (ofNat b) (ofNat i))) (ofNat n)))))] (by kernel_rfl) (by simp only [h20,h22] <;> simp only [*] <;> rfl)
end
def SC (n:Nat) (h:Nat->Int) (a b:Nat) :Nat->V:=lkV A9 [(11,(.sl 1 n (λi=>iV (h i)))),(12,(nV n))]
theorem AdM (L:LT) (p0:PT) (n:Nat) (h:Nat->Int) (a b:Nat) (i:Nat)  (hp0:p0 (G2 (onP 0 p0 (Rl n h a b i) L)) (Md n h a b 0 (SC n h a b )) = true):(A2 (An tab ⟨Aq tb0,onP 0 p0 (Rl n h a b i) L,Gl⟩ Try.f120 [ET n h,nV a,nV b] [])).sem = some ((bV false),[]):=Aa [true] [p0 (G2 (onP 0 p0 (Rl n h a b i) L)) (Md n h a b 0 (SC n h a b ))] (by kernel_rfl) (by simp only [hp0] <;> rfl)
theorem AdL (L:LT) (p0:PT) (n:Nat) (h:Nat->Int) (a b:Nat) (v:Bool)  (hp0:p0 (G2 (onP 0 p0 (Rk n h a b v) L)) (Md n h a b 0 (SC n h a b )) = true):(A2 (An tab ⟨Aq tb0,onP 0 p0 (Rk n h a b v) L,Gl⟩ Try.f120 [ET n h,nV a,nV b] [])).sem = some ((bV v),[]):=Aa [true] [p0 (G2 (onP 0 p0 (Rk n h a b v) L)) (Md n h a b 0 (SC n h a b ))] (by kernel_rfl) (by simp only [hp0] <;> rfl)
theorem Aak (n a i:Nat) (ha:a < n) (hn:n <= 4611686018427387904) (hi:i < n):Ab (wr .i64 (Ae (ofNat a) (ofNat i))) (ofNat n) = ofNat ((a+i) % n) ∧ (a+i) % n < n:=by
 rw [DI (by omega),C9]
 exact ⟨rfl,Nat.mod_lt _ (by omega)⟩
theorem VQ (n a i:Nat) (ha:a < n) (hn:n <= 4611686018427387904) (hi:i < n):Af (ile 0 (Ab (wr .i64 (Ae (ofNat a) (ofNat i))) (ofNat n))) (ilt (Ab (wr .i64 (Ae (ofNat a) (ofNat i))) (ofNat n)) (ofNat n)) = true:=by
 obtain ⟨e1,l1⟩:=Aak n a i ha hn hi
 rw [e1]
 exact Ap l1
theorem AcE (n i:Nat) (hi:i < n):ieq (ofNat n) 0 = false:=by rw [show (0:Int) = ofNat 0 from rfl,D1,decide_eq_false (by omega)]
theorem Y4 (L:LT) (n:Nat) (h:Nat->Int) (a b:Nat) (hn:n <= 4611686018427387904) (ha:a < n) (hb:b < n):∀ (d i:Nat) (j:Nat->V) (q:Nat),n = i+d->d < q ->
  (A8 (G2 L) (NS n h a b) q (Md n h a b i j)).sem = some (match Ka n h a b d i with | none=>Rl n h a b 0 | some v=>Rk n h a b v)
 | 0,i,j,q+1,h1,_=>by
  have:n = i:=by omega
  subst this
  exact Ad (AfI L n h a b n j (AF (Nat.le_refl _)))
 | d+1,i,j,q+1,h1,h2=>by
  have hi:i < n:=by omega
  obtain ⟨e1,l1⟩:=Aak n a i ha hn hi
  obtain ⟨e2,l2⟩:=Aak n b i hb hn hi
  unfold Ka
  by_cases he:h ((a+i) % n) = h ((b+i) % n)
  ·have hq:ieq (h (toN (Ab (wr .i64 (Ae (ofNat a) (ofNat i))) (ofNat n)))) (h (toN (Ab (wr .i64 (Ae (ofNat b) (ofNat i))) (ofNat n)))) = true:=by
    rw [e1,e2]
    show ieq (h ((a+i) % n)) (h ((b+i) % n)) = true
    rw [he]
    exact Gr _
   rw [if_pos he,Ad (AfH L n h a b i j (ofNat_lt hi) (AcE n i hi) (VQ n a i ha hn hi) (VQ n b i hb hn hi) hq),Aw,Ao hi hn]
   exact Y4 L n h a b hn ha hb d (i+1) (λ_=>.und) q (by omega) (by omega)
  ·have hq:ieq (h (toN (Ab (wr .i64 (Ae (ofNat a) (ofNat i))) (ofNat n)))) (h (toN (Ab (wr .i64 (Ae (ofNat b) (ofNat i))) (ofNat n)))) = false:=by
    rw [e1,e2]
    show ieq (h ((a+i) % n)) (h ((b+i) % n)) = false
    simp [ieq,he]
   have hr:=AfG L n h a b i j (ofNat_lt hi) (AcE n i hi) (VQ n a i ha hn hi) (VQ n b i hb hn hi) hq
   rw [e1,e2] at hr
   rw [if_neg he]
   exact Ad hr
def UO:List V->T (V × List Blk)
 | [v,.val (.int .i64 a),.val (.int .i64 b)]=>apI v λn h=>.br (CV n) (.br (Af (inN n a) (inN n b)) (out (bV (GI n h (toN a) (toN b)))) .fail) .fail
 | _=>.fail
theorem Xw {a b:Bool} (h:Af a b = true):a = true ∧ b = true:=by simpa [Af] using h
theorem Akk:AA Try.prog Gl 120 UO:=by
 refine A5 AQ AR Try.func120 (by kernel_rfl) (by kernel_rfl) λvs v h' hh=>?_
 unfold UO at hh
 split at hh
 ·rename_i u a b
  obtain ⟨n,h,hv,h1⟩:=Hq hh
  obtain ⟨h8,h2⟩:=Ag h1
  obtain ⟨hab,h3⟩:=Ag h2
  have:=Ac h3
  simp only [Prod.mk.injEq] at this
  obtain ⟨rfl,rfl⟩:=this
  obtain ⟨ha,hb⟩:=Xw hab
  obtain ⟨ea,la⟩:=SK ha
  obtain ⟨eb,lb⟩:=SK hb
  have hA:BL [u,iV a,iV b] [ET n h,iV (ofNat (toN a)),iV (ofNat (toN b))]:=λS w cs q=>by
   rw [<- ea,<- eb]
   obtain ⟨c,l,rfl,q1,q2⟩:=q
   exact ⟨c,l,rfl,hv S w c q1,q2⟩
  have hx:=AS Ee [(0,NS n h (toN a) (toN b))]
  have hL:=AL [(0,NS n h (toN a) (toN b))]
  have hr:=λL=>Y4 L n h (toN a) (toN b) (CQ h8) la lb n 0 (SC n h (toN a) (toN b)) (n+1) (by omega) (by omega)
  refine ⟨_,AT Gl tb0 [(0,NS n h (toN a) (toN b))],_,hA,rfl,hx.1,hx.2,?_,AE.refl _⟩
  unfold GI
  cases hc:Ka n h (toN a) (toN b) n 0 with
  | none =>
   rw [hc] at hr
   exact A6 (Az hL hL) _ (AdM _ _ n h (toN a) (toN b) 0 (Am (hr _)))
  | some v =>
   rw [hc] at hr
   exact A6 (Az hL hL) _ (AdL _ _ n h (toN a) (toN b) v (Am (hr _)))
 ·cases hh
noncomputable def Vd:List (Nat × (List V->T (V × List Blk))):=(120,UO) :: []
theorem XU:AC Try.prog Gl Vd:=.cons Akk .nil
def Uh (n:Nat) (h:Nat->Int):Nat->Nat->Nat->Nat
 | 0,_,b=>b
 | d+1,i,b=>if GI n h i b = true then Uh n h d (i+1) i else Uh n h d (i+1) b
def WF (n:Nat) (h:Nat->Int):Nat:=Uh n h (n - 1) 1 0
theorem N1 {n:Nat} {h:Nat->Int}:∀ d i b,n = i+d->b < i->(∀ q,q < i->¬ JE n h q b)->Eu n h (Uh n h d i b)
 | 0,i,b,hd,hb,hq=>⟨by show b < n; omega,λq hq'=>hq q (by omega)⟩
 | d+1,i,b,hd,hb,hq=>by
  unfold Uh
  by_cases ha:GI n h i b = true
  ·rw [if_pos ha]
   have hl:=OG.1 ha
   refine N1 d (i+1) i (by omega) (by omega) λq hq' hlt=>?_
   by_cases hqi:q = i
   ·rw [hqi] at hlt; exact F2 hlt
   ·exact hq q (by omega) (Ms hlt hl)
  ·rw [if_neg ha]
   refine N1 d (i+1) b (by omega) (by omega) λq hq' hlt=>?_
   by_cases hqi:q = i
   ·rw [hqi] at hlt; exact ha (OG.2 hlt)
   ·exact hq q (by omega) hlt
theorem YB {n:Nat} (h:Nat->Int) (hn:0 < n):Eu n h (WF n h):=N1 (n - 1) 1 0 (by omega) (by omega) λq hq=>by
 have:q = 0:=by omega
 subst this
 exact F2
def lp104 (n:Nat) (h:Nat->Int):Lp:=⟨(bmK 17 0 [0,2,3,4]),0,bmK 17 0 [2,3],0,n+1⟩
def st104 (n:Nat) (h:Nat->Int) (b i:Nat) (j:Nat->V):St:=⟨(jsV 17 0 j [(0,.sl 1 n λk=>iV (h k)),(2,iV 0),(3,nV b),(4,nV i)]),[]⟩
def en104e (n:Nat) (h:Nat->Int) (b i:Nat):Ex × St:=(.ex 0,⟨(jsV 17 0 (λ_=>.und) [(2,iV 0),(3,nV b)]),[]⟩)
noncomputable def body104 (L:LT):St->T (Ex × St):=λst=>AG tab ⟨Aq Vd,L,Gl⟩ (A1 Try.f113 0) 0 st
section
variable (L:LT) (n:Nat) (h:Nat->Int) (b i:Nat)  (j:Nat->V)
include L n h b i j
theorem YC (h0:ilt (ofNat i) (ofNat n) = false):Aj (body104 L) (lp104 n h) (st104 n h b i j) = some ((.ex 0),⟨(jsV 17 0 (λ_=>.und) [(2,(iV 0)),(3,(nV b))]),[]⟩):=Aa [false] [ilt (ofNat i) (ofNat n)] (by kernel_rfl) (by simp only [h0] <;> rfl)
theorem AfM (h0:ilt (ofNat i) (ofNat n) = true) (h18:CV n = true) (h19:inN n (ofNat i) = true) (h20:inN n (ofNat b) = true) (h1:GI n h i b = true):Aj (body104 L) (lp104 n h) (st104 n h b i j) = some (.nm,⟨(jsV 17 0 (λ_=>.und) [(0,(.sl 1 n (λk=>iV (h k)))),(2,(iV 0)),(3,(nV i)),(4,(iV (wr .i64 (Ae (ofNat i) 1))))]),[]⟩):=Aa [true,true,true,true,true] [ilt (ofNat i) (ofNat n),Ay n (λ_=>true),CV n,Af (inN n (ofNat i)) (inN n (ofNat b)),GI n h i b] (by kernel_rfl) (by simp only [*,Ax] <;> rfl)
theorem AfN (h0:ilt (ofNat i) (ofNat n) = true) (h18:CV n = true) (h19:inN n (ofNat i) = true) (h20:inN n (ofNat b) = true) (h1:GI n h i b = false):Aj (body104 L) (lp104 n h) (st104 n h b i j) = some (.nm,⟨(jsV 17 0 (λ_=>.und) [(0,(.sl 1 n (λk=>iV (h k)))),(2,(iV 0)),(3,(nV b)),(4,(iV (wr .i64 (Ae (ofNat i) 1))))]),[]⟩):=Aa [true,true,true,true,false] [ilt (ofNat i) (ofNat n),Ay n (λ_=>true),CV n,Af (inN n (ofNat i)) (inN n (ofNat b)),GI n h i b] (by kernel_rfl) (by simp only [*,Ax] <;> rfl)
end
def jk104 (n:Nat) (h:Nat->Int) :Nat->V:=lkV A9 []
theorem Acw (L:LT) (p0:PT) (n:Nat) (h:Nat->Int) (b i:Nat)  (hp0:p0 (body104 (onP 0 p0 (en104e n h b i) L)) (st104 n h 0 1 (jk104 n h )) = true):(A2 (An tab ⟨Aq Vd,onP 0 p0 (en104e n h b i) L,Gl⟩ Try.f113 [ET n h] [])).sem = some ((nV b),[]):=Aa [true] [p0 (body104 (onP 0 p0 (en104e n h b i) L)) (st104 n h 0 1 (jk104 n h ))] (by kernel_rfl) (by simp only [hp0] <;> rfl)
theorem run104 (L:LT) (n:Nat) (h:Nat->Int) (h8:CV n = true):∀ (d i b:Nat) (j:Nat->V) (q:Nat),n = i+d->b < i->d < q ->
  (A8 (body104 L) (lp104 n h) q (st104 n h b i j)).sem = some (en104e n h (Uh n h d i b) n)
 | 0,i,b,j,q+1,h1,_,_=>by
  have:n = i:=by omega
  subst this
  exact Ad (YC L n h b n j (AF (Nat.le_refl _)))
 | d+1,i,b,j,q+1,h1,hb,h2=>by
  have hi:i < n:=by omega
  unfold Uh
  cases ha:GI n h i b with
  | true =>
   rw [if_pos rfl,Ad (AfM L n h b i j (ofNat_lt hi) h8 (MJ hi) (MJ (by omega)) ha),Aw,Ao hi (CQ h8)]
   exact run104 L n h h8 d (i+1) i (λ_=>.und) q (by omega) (by omega) (by omega)
  | false =>
   rw [if_neg (by decide),Ad (AfN L n h b i j (ofNat_lt hi) h8 (MJ hi) (MJ (by omega)) ha),Aw,Ao hi (CQ h8)]
   exact run104 L n h h8 d (i+1) b (λ_=>.und) q (by omega) (by omega) (by omega)
def AcB:List V->T (V × List Blk):=Acp λn h=>.br (CV n) (out (iV (ofNat (WF n h)))) .fail
theorem p104:AA Try.prog Gl 113 AcB:=by
 refine A5 AQ AR Try.func113 (by kernel_rfl) (by kernel_rfl) λvs v h' hh=>?_
 obtain ⟨n,h,hA,h1⟩:=PV hh
 obtain ⟨h8,h3⟩:=Ag h1
 have:=Ac h3
 simp only [Prod.mk.injEq] at this
 obtain ⟨rfl,rfl⟩:=this
 have hx:=AS XU [(0,lp104 n h)]
 have hL:=AL [(0,lp104 n h)]
 refine ⟨_,AT Gl Vd [(0,lp104 n h)],_,hA,rfl,hx.1,hx.2,?_,AE.refl _⟩
 unfold WF
 rcases Nat.eq_zero_or_pos n with rfl | hn
 ·exact A6 (Az hL hL) _ (Acw _ _ 0 h 0 0 (Am (Ad (YC _ 0 h 0 1 (jk104 0 h) (AF (by omega))))))
 ·exact A6 (Az hL hL) _ (Acw _ _ n h _ n (Am (run104 _ n h h8 (n - 1) 1 0 (jk104 n h) (n+1) (by omega) (by omega) (by omega))))
noncomputable def Pc:List (Nat × (List V->T (V × List Blk))):=(98,BR Tq) :: []
theorem XV:AC Try.prog Gl Pc:=.cons p25 .nil
def en103f (n:Nat) (f:Nat->E6) (k:Nat) (x:Nat->V):Ex × St:=(.rt,⟨(jsV 31 0 (λ_=>.und) [(2,.ref 2),(3,bV false),(4,.ref 1)]),[.row 3 1 0 λ_=>.und,.row 3 1 k x,.row 3 1 0 λ_=>.und]⟩)
def lp103 (n:Nat) (f:Nat->E6):Lp:=⟨(bmK 31 0 [0,2,3,4,5]),2,bmK 31 0 [2,3,4],3,n+1⟩
def st103 (n:Nat) (f:Nat->E6) (i k:Nat) (x:Nat->V) (j:Nat->V):St:=⟨(jsV 31 0 j [(0,.sl 6 n λi=>eV (f i)),(2,.ref 0),(3,bV false),(4,.ref 1),(5,nV i)]),[.row 3 1 0 λ_=>.und,.row 3 1 k x]⟩
def en103e (n:Nat) (f:Nat->E6) (i k:Nat) (x:Nat->V):Ex × St:=(.ex 0,⟨(jsV 31 0 (λ_=>.und) [(2,.ref 0),(3,bV false),(4,.ref 1)]),[.row 3 1 0 λ_=>.und,.row 3 1 k x]⟩)
noncomputable def body103 (L:LT):St->T (Ex × St):=λst=>AG tab ⟨Aq Pc,L,Gl⟩ (A1 Try.f70 0) 0 st
section
variable (L:LT) (n:Nat) (f:Nat->E6) (i k:Nat) (x:Nat->V)  (j:Nat->V)
include L n f i k x j
theorem AfO (h0:ilt (ofNat i) (ofNat n) = false):Aj (body103 L) (lp103 n f) (st103 n f i k x j) = some ((.ex 0),⟨(jsV 31 0 (λ_=>.und) [(2,(.ref 0)),(3,(bV false)),(4,(.ref 1))]),[r3Z,.row 3 1 k x]⟩):=Aa [false] [ilt (ofNat i) (ofNat n)] (by kernel_rfl) (by simp only [h0] <;> rfl)
theorem YD (h0:ilt (ofNat i) (ofNat n) = true) (h20:ile 0 (ofNat i) = true) (h1:ieq (AM (f i)) 0 = true) (h21:Bh k 1 8 = true):Aj (body103 L) (lp103 n f) (st103 n f i k x j) = some (.nm,⟨(jsV 31 0 (λ_=>.und) [(0,(.sl 6 n (λi=>eV (f i)))),(2,(.ref 0)),(3,(bV false)),(4,(.ref 1)),(5,(iV (wr .i64 (Ae (ofNat i) 1))))]),[r3Z,.row 3 1 (Bp k 1) (AB k x (iV (Bx (f i))))]⟩):=Aa [true,true,false,true] [ilt (ofNat i) (ofNat n),Af (ile 0 (ofNat i)) (ilt (ofNat i) (ofNat n)),Ah (ieq (AM (f i)) 0),Bh k 1 8] (by kernel_rfl) (by simp only [*] <;> rfl)
theorem YE (h0:ilt (ofNat i) (ofNat n) = true) (h20:ile 0 (ofNat i) = true) (h1:ieq (AM (f i)) 0 = false):Aj (body103 L) (lp103 n f) (st103 n f i k x j) = some (.rt,⟨(jsV 31 0 (λ_=>.und) [(2,(.ref 2)),(3,(bV false)),(4,(.ref 1))]),[r3Z,.row 3 1 k x,r3Z]⟩):=Aa [true,true,true] [ilt (ofNat i) (ofNat n),Af (ile 0 (ofNat i)) (ilt (ofNat i) (ofNat n)),Ah (ieq (AM (f i)) 0)] (by kernel_rfl) (by simp only [*] <;> rfl)
end
def jk103 (n:Nat) (f:Nat->E6) :Nat->V:=lkV A9 []
theorem AdS (L:LT) (p0:PT) (n:Nat) (f:Nat->E6) (i k:Nat) (x:Nat->V)  (hp0:p0 (body103 (onP 0 p0 (en103e n f i k x) L)) (st103 n f 0 0 (λ_=>.und) (jk103 n f )) = true):(A2 (An tab ⟨Aq Pc,onP 0 p0 (en103e n f i k x) L,Gl⟩ Try.f70 [A3 n f] [])).sem = some ((.tup [.ref 0,bV true]),[.row 3 1 k x]):=Aa [true] [p0 (body103 (onP 0 p0 (en103e n f i k x) L)) (st103 n f 0 0 (λ_=>.und) (jk103 n f ))] (by kernel_rfl) (by simp only [hp0] <;> rfl)
theorem AdR (L:LT) (p0:PT) (n:Nat) (f:Nat->E6) (k:Nat) (x:Nat->V)  (hp0:p0 (body103 (onP 0 p0 (en103f n f k x) L)) (st103 n f 0 0 (λ_=>.und) (jk103 n f )) = true):(A2 (An tab ⟨Aq Pc,onP 0 p0 (en103f n f k x) L,Gl⟩ Try.f70 [A3 n f] [])).sem = some ((.tup [.ref 0,bV false]),[r3Z]):=Aa [true] [p0 (body103 (onP 0 p0 (en103f n f k x) L)) (st103 n f 0 0 (λ_=>.und) (jk103 n f ))] (by kernel_rfl) (by simp only [hp0] <;> rfl)
theorem Vq (L:LT) (n:Nat) (f:Nat->E6) (hn:AN n = true) (e:Nat) (he:e < n) (hb:AM (f e) = 30) (ho:∀ t,t < e->AM (f t) = 0):∀ (d i:Nat) (j:Nat->V) (q:Nat),e = i+d->d < q ->
  (A8 (body103 L) (lp103 n f) q (st103 n f i i (BQ (cdV f) i) j)).sem = some (en103f n f e (BQ (cdV f) e))
 | 0,i,j,q+1,h1,_=>by
  have:e = i:=by omega
  subst this
  exact Ad (YE L n f e e (BQ (cdV f) e) j (ofNat_lt he) (VS e) (by rw [hb]; rfl))
 | d+1,i,j,q+1,h1,h2=>by
  have hi:i < n:=by omega
  have hr:=YD L n f i i (BQ (cdV f) i) j (ofNat_lt hi) (VS i) (by rw [ho i (by omega)]; rfl) (R3 hi (by decide) (of_decide_eq_true hn))
  rw [Ad hr,Aw,Ao hi (Jv hn)]
  exact Vq L n f hn e he hb ho d (i+1) (λ_=>.und) q (by omega) (by omega)
theorem run103 (L:LT) (n:Nat) (f:Nat->E6) (hn:AN n = true):∀ (d i:Nat) (j:Nat->V) (q:Nat),n = i+d->d < q->(∀ t,t < i->AM (f t) = 0) ->
  (BN n f = true ∧ (A8 (body103 L) (lp103 n f) q (st103 n f i i (BQ (cdV f) i) j)).sem = some (en103e n f n n (BQ (cdV f) n))) ∨ (BN n f = false ∧ ∃ e,(A8 (body103 L) (lp103 n f) q (st103 n f i i (BQ (cdV f) i) j)).sem = some (en103f n f e (BQ (cdV f) e)))
 | 0,i,j,q+1,h1,_,ho=>by
  have:n = i:=by omega
  subst this
  exact .inl ⟨DA.2 ho,Ad (AfO L n f n n _ j (AF (Nat.le_refl _)))⟩
 | d+1,i,j,q+1,h1,h2,ho=>by
  have hi:i < n:=by omega
  by_cases hc:AM (f i) = 0
  ·have hr:=YD L n f i i (BQ (cdV f) i) j (ofNat_lt hi) (VS i) (by rw [hc]; rfl) (R3 hi (by decide) (of_decide_eq_true hn))
   have ih:=run103 L n f hn d (i+1) (λ_=>.und) q (by omega) (by omega) λt ht=>by
    by_cases hti:t = i
    ·rw [hti]; exact hc
    ·exact ho t (by omega)
   rw [Ad hr,Aw,Ao hi (Jv hn)]
   exact ih
  ·refine .inr ⟨?_,i,Ad (YE L n f i i (BQ (cdV f) i) j (ofNat_lt hi) (VS i) (by simp [ieq,hc]))⟩
   cases hm:BN n f with
   | false=>rfl
   | true=>exact absurd (DA.1 hm i hi) hc
def Wj:List V->T (V × List Blk):=Hp λn f=>.br (AN n) (.br (BN n f) (.leaf (.tup [.ref 0,bV true],[.row 3 1 n λi=>iV (Bx (f i))])) (.leaf (.tup [.ref 0,bV false],[.row 3 1 0 λ_=>.und]))) .fail
theorem p103:AA Try.prog Gl 70 Wj:=by
 refine A5 AQ AR Try.func70 (by kernel_rfl) (by kernel_rfl) λvs v h' h=>?_
 obtain ⟨n,f,ha,h⟩:=CY h
 obtain ⟨hn,h⟩:=Ag h
 have hx:=AS XV [(0,lp103 n f)]
 have hL:=AL [(0,lp103 n f)]
 have hr:=λL=>run103 L n f hn n 0 (jk103 n f) (n+1) (by omega) (by omega) λt ht=>absurd ht (Nat.not_lt_zero _)
 cases hm:BN n f with
 | true =>
  rw [hm] at h
  have:=Ac h
  simp only [Prod.mk.injEq] at this
  obtain ⟨rfl,rfl⟩:=this
  exact ⟨_,AT Gl Pc [(0,lp103 n f)],_,ha,rfl,hx.1,hx.2,A6 (Az hL hL) _ (AdS _ _ n f n n _ (Am ((hr _).elim (λq=>q.2) λq=>by rw [hm] at q; cases q.1))),AE.one λj hj=>(I0 (cdV f) n j hj).symm⟩
 | false =>
  rw [hm] at h
  have:=Ac h
  simp only [Prod.mk.injEq] at this
  obtain ⟨rfl,rfl⟩:=this
  obtain ⟨e,h1,h2,h3⟩:=YS hm
  exact ⟨_,AT Gl Pc [(0,lp103 n f)],_,ha,rfl,hx.1,hx.2,A6 (Az hL hL) _ (AdR _ _ n f e (BQ (cdV f) e) (Am (Vq _ n f hn e h1 h2 h3 e 0 (jk103 n f) (n+1) (by omega) (by omega)))),AE.refl _⟩
noncomputable def XL:List (Nat × (List V->T (V × List Blk))):=(70,Wj) :: (113,AcB) :: (21,M9) :: []
theorem AaG:AC Try.prog Gl XL:=.cons p103 <| .cons p104 <| .cons p69 .nil
section
variable (L:LT) (n:Nat) (f:Nat->E6)
include L n f
theorem Ahb (h19:AN n = true) (h0:BN n f = true) (h20:CV n = true):(A2 (An tab ⟨Aq XL,L,Gl⟩ Try.f93 [A3 n f] [])).sem = some ((.tup [.ref 0,iV 0]),[.row 44 6 n (λi=>eV (JA n f (ofNat (WF n (λi=>Bx (f i)))) i))]):=Aa (bbK 8 247) ((λc0 c1=>[c0,c1,BN n f,Ah true,c0,CV n,c0,c1]) (Ay n (λ_=>true)) (AN n)) (by kernel_rfl) (by simp only [*,Ax] <;> rfl)
theorem Ahc (h19:AN n = true) (h0:BN n f = false):(A2 (An tab ⟨Aq XL,L,Gl⟩ Try.f93 [A3 n f] [])).sem = some ((.tup [.ref 0,iV 30]),[.row 44 6 0 (λ_=>.und)]):=Aa [true,true,false,true] [Ay n (λ_=>true),AN n,BN n f,Ah false] (by kernel_rfl) (by simp only [h19,h0,Ax] <;> rfl)
end
def Vv:List V->T (V × List Blk):=Hp λn f=>.br (AN n) (.br (BN n f) (.leaf (.tup [.ref 0,iV 0],[.row 44 6 n λi=>eV (JA n f (ofNat (WF n λk=>Bx (f k))) i)])) (.leaf (.tup [.ref 0,iV 30],[.row 44 6 0 λ_=>.und]))) .fail
theorem p66:AA Try.prog Gl 93 Vv:=by
 refine A5 AQ AR Try.func93 (by kernel_rfl) (by kernel_rfl) λvs v h' h=>?_
 obtain ⟨n,f,ha,h⟩:=CY h
 obtain ⟨hn,h⟩:=Ag h
 have hx:=AS AaG []
 cases hm:BN n f with
 | true =>
  rw [hm] at h
  have:=Ac h
  simp only [Prod.mk.injEq] at this
  obtain ⟨rfl,rfl⟩:=this
  exact ⟨_,AT Gl XL [],_,ha,rfl,hx.1,hx.2,Ahb _ n f hn hm (Fl hn),AE.refl _⟩
 | false =>
  rw [hm] at h
  have:=Ac h
  simp only [Prod.mk.injEq] at this
  obtain ⟨rfl,rfl⟩:=this
  exact ⟨_,AT Gl XL [],_,ha,rfl,hx.1,hx.2,Ahc _ n f hn hm,AE.refl _⟩
theorem H0 {n:Nat} {h g:Nat->Int} (hg:∀ i,i < n->g i = h i) (p i:Nat) (hn:0 < n):Eb n g p i = Eb n h p i:=hg _ (Nat.mod_lt _ hn)
theorem SG {n:Nat} {h g:Nat->Int} (hg:∀ i,i < n->g i = h i) {p:Nat} (hp:Eu n g p):Eu n h p:=by
 have hn:0 < n:=by have:=hp.1; omega
 refine ⟨hp.1,λq hq hl=>hp.2 q hq ?_⟩
 obtain ⟨s,h1,h2,h3⟩:=hl
 exact ⟨s,h1,λt ht=>by rw [H0 hg _ _ hn,H0 hg _ _ hn]; exact h2 t ht,by rw [H0 hg _ _ hn,H0 hg _ _ hn]; exact h3⟩
theorem Rz {n:Nat} {f l:Nat->E6} (hm:BN n f = true) (hl:∀ i,i < n->l i = f i):∀ i,i < n->Bl n l i = JA n f (ofNat (WF n λk=>Bx (f k))) i:=λi hi=>by
 have hn:0 < n:=by omega
 have h1:Eu n (λk=>Bx (f k)) (BZ n λk=>Bx (l k)):=SG (g:=λk=>Bx (l k)) (λt ht=>by show Bx (l t) = Bx (f t); rw [hl t ht]) (JR n _ hn)
 have h2:=YB (λk=>Bx (f k)) hn
 have h3:=SF h1 h2 i hi
 unfold Bl JA
 rw [Wv h2.1,hl _ (Nat.mod_lt _ hn)]
 exact Wm (DA.1 hm _ (Nat.mod_lt _ hn)) (DA.1 hm _ (Nat.mod_lt _ hn)) h3
end Go.Proofs.Ytjhnfomefcngfaa.Ed
namespace Go.Proofs.Ytjhnfomefcngfaa.Sh
open Go.Sy Ed
structure Cod (α:Type) where
 size:Nat
 enc:α->V
 ok:V->Bool
 ed:V->α
 law:∀ v,ok v = true->∀ (S:Nat->Prop) (w:World) (c:Value),VR S w v noK c->VR S w (enc (ed v)) noK c
def Zz (s:Nat):V->Option (Nat × (Nat->V))
 | .sl s' n g=>match Nat.beq s' s with
  | true=>some (n,g)
  | false=>match n with
   | 0=>some (0,g)
   | _=>none
 | .slr s' n _ g=>match Nat.beq s' s with
  | true=>some (n,g)
  | false=>none
 | .nilS=>some (0,λ_=>.und)
 | _=>none
theorem SU {s:Nat} {v:V} {n:Nat} {g:Nat->V} (hg:Zz s v = some (n,g)) {e:Nat->V} (he:∀ i,i < n->∀ (S:Nat->Prop) (w:World) (c:Value),VR S w (g i) noK c->VR S w (e i) noK c)
  {S:Nat->Prop} {w:World} {c:Value} (hv:VR S w v noK c):VR S w (.sl s n e) noK c:=by
 unfold Zz at hg
 split at hg
 ·rename_i s' n' g'
  split at hg
  ·rename_i hs
   simp only [Option.some.injEq,Prod.mk.injEq] at hg
   obtain ⟨rfl,rfl⟩:=hg
   have hs:s' = s:=Nat.eq_of_beq_eq_true hs
   subst hs
   obtain ⟨a,cap,ea,hc,hb⟩:=hv
   refine ⟨a,cap,ea,hc,hb.imp id ?_⟩
   rintro ⟨b,o,eb,hel⟩
   refine ⟨b,o,eb,λi hi=>?_⟩
   obtain ⟨ci,h1,h2⟩:=hel i hi
   exact ⟨ci,he i hi S w ci h1,h2⟩
  ·split at hg
   ·simp only [Option.some.injEq,Prod.mk.injEq] at hg
    obtain ⟨rfl,rfl⟩:=hg
    obtain ⟨a,cap,ea,hc,_⟩:=hv
    exact ⟨a,cap,ea,hc,.inl rfl⟩
   ·cases hg
 ·rename_i s' n' m' g'
  split at hg
  ·rename_i hs
   simp only [Option.some.injEq,Prod.mk.injEq] at hg
   obtain ⟨rfl,rfl⟩:=hg
   have hs:s' = s:=Nat.eq_of_beq_eq_true hs
   subst hs
   obtain ⟨a,cap,ea,hc,hm,hb⟩:=hv
   refine ⟨a,cap,ea,Nat.le_trans hc hm,?_⟩
   rcases hb with h0 | ⟨b,o,eb,hel⟩
   ·exact .inl (by omega)
   ·refine .inr ⟨b,o,eb,λi hi=>?_⟩
    obtain ⟨ci,h1,h2⟩:=hel i (by omega)
    exact ⟨ci,he i hi S w ci h1,h2⟩
  ·cases hg
 ·simp only [Option.some.injEq,Prod.mk.injEq] at hg
  obtain ⟨rfl,rfl⟩:=hg
  have hv:c = .slice none 0 0:=hv
  exact ⟨none,0,hv,Nat.le_refl _,.inl rfl⟩
 ·cases hg
def apG {α β:Type} (c:Cod α) (v:V) (F:Nat->(Nat->α)->T β):T β :=
 match Zz c.size v with
 | some (n,g)=>.br (Ay n λi=>c.ok (g i)) (F n λi=>c.ed (g i)) .fail
 | none=>.fail
def NH {α:Type} (c:Cod α) (n:Nat) (f:Nat->α):V:=.sl c.size n λi=>c.enc (f i)
theorem CX {α β:Type} {c:Cod α} {v:V} {F:Nat->(Nat->α)->T β} {r:β} (h:(apG c v F).sem = some r) :
  ∃ n f,(∀ (S:Nat->Prop) (w:World) (u:Value),VR S w v noK u->VR S w (NH c n f) noK u) ∧ (F n f).sem = some r:=by
 unfold apG at h
 split at h
 ·rename_i n g hg
  obtain ⟨h1,h2⟩:=Ag h
  have h1:=AJ.1 h1
  exact ⟨n,_,λS w u hv=>SU hg (λi hi S w cc hc=>c.law _ (h1 i hi) S w cc hc) hv,h2⟩
 ·cases h
def Xo:Cod E6:=⟨6,eV,okE,edE,λv h S w c hv=>by rw [<- NB h]; exact hv⟩
def Xn:Cod Int:=⟨1,iV,okI,edI,λv h S w c hv=>by rw [<- NA h]; exact hv⟩
def toX:V->Option Ev5
 | .agg [.val (.int .i64 a),.val (.int .i64 b),.val (.int .i64 c),.val (.int .i64 d),.val (.int .i64 e)]=>some ⟨a,b,c,d,e⟩
 | _=>none
theorem XF {v:V} {e:Ev5} (h:toX v = some e):v = evV e:=by
 unfold toX at h
 split at h
 ·simp only [Option.some.injEq] at h
  subst h
  rfl
 ·cases h
def okX (v:V):Bool:=match toX v with
 | some _=>true
 | none=>false
def edX (v:V):Ev5:=match toX v with
 | some e=>e
 | none=>⟨0,0,0,0,0⟩
theorem YO {v:V} (h:okX v = true):v = evV (edX v):=by
 unfold okX at h
 unfold edX
 split at h
 ·rename_i e he
  exact XF he
 ·cases h
def Xm:Cod Ev5:=⟨5,evV,okX,edX,λv h S w c hv=>by rw [<- YO h]; exact hv⟩
def okJ (v:V):Bool:=match Zz 1 v with
 | some (n,g)=>Ay n λi=>okI (g i)
 | none=>false
def edJ (v:V):Nat × (Nat->Int):=match Zz 1 v with
 | some (n,g)=>(n,λi=>edI (g i))
 | none=>(0,λ_=>0)
def Acl:Cod (Nat × (Nat->Int)):=⟨1,λp=>.sl 1 p.1 λi=>iV (p.2 i),okJ,edJ,λv h S w c hv=>by
 unfold okJ at h
 unfold edJ
 split at h
 ·rename_i n g hg
  have h:=AJ.1 h
  exact SU hg (λi hi S w cc hc=>by rw [<- NA (h i hi)]; exact hc) hv
 ·cases h⟩
structure Sh7 where
 arch:Int
 ne:Nat
 E:Nat->E6
 nx:Nat
 X:Nat->Ev5
 tt:Int
 kk:Int
 nr:Nat
 R:Nat->Int
 nc:Nat
 C:Nat->Nat × (Nat->Int)
def AjX (s:Sh7):V:=.agg [iV s.arch,NH Xo s.ne s.E,NH Xm s.nx s.X,iV s.tt,iV s.kk,NH Xn s.nr s.R,NH Acl s.nc s.C]
def apS {β:Type} (v:V) (F:Sh7->T β):T β :=
 match v with
 | .agg [.val (.int .i64 a),e,x,.val (.int .i64 t),.val (.int .i64 k),r,c]=>apG Xo e λne E=>apG Xm x λnx X=>apG Xn r λnr R=>apG Acl c λnc C=>F ⟨a,ne,E,nx,X,t,k,nr,R,nc,C⟩
 | _=>.fail
theorem FX {β:Type} {v:V} {F:Sh7->T β} {r:β} (h:(apS v F).sem = some r) :
  ∃ s,(∀ (S:Nat->Prop) (w:World) (u:Value),VR S w v noK u->VR S w (AjX s) noK u) ∧ (F s).sem = some r:=by
 unfold apS at h
 split at h
 ·obtain ⟨ne,E,h1,h⟩:=CX h
  obtain ⟨nx,X,h2,h⟩:=CX h
  obtain ⟨nr,R,h3,h⟩:=CX h
  obtain ⟨nc,C,h4,h⟩:=CX h
  refine ⟨_,λS w u hv=>?_,h⟩
  obtain ⟨ca,rfl,a1,l1,rfl,q1,a2,l2,rfl,q2,a3,l3,rfl,q3,a4,l4,rfl,q4,a5,l5,rfl,q5,a6,l6,rfl,q6,a7,l7,rfl,q7,q8⟩:=hv
  exact ⟨_,rfl,a1,_,rfl,q1,a2,_,rfl,h1 S w _ q2,a3,_,rfl,h2 S w _ q3,a4,_,rfl,q4,a5,_,rfl,q5,a6,_,rfl,h3 S w _ q6,a7,_,rfl,h4 S w _ q7,q8⟩
 ·cases h
theorem WI {P:Program} {G:Nat->V} {f:FuncId} {F F':List V->T (V × List Blk)} (h:AA P G f F) (hF:∀ vs v h',(F' vs).sem = some (v,h')->∃ h'',(F vs).sem = some (v,h'') ∧ AE h'' h'):AA P G f F':=by
 refine ⟨h.1,λvs cs S w v h' h1 h2 h3 h4=>?_⟩
 obtain ⟨h'',h5,h6⟩:=hF vs v h' h4
 obtain ⟨hr,hc⟩:=h.2 vs cs S w v h'' h1 h2 h3 h5
 refine ⟨h6.rows hr,hc.mono ?_⟩
 rintro e w' ⟨u,κ',S',rfl,g1,g2,g3⟩
 obtain ⟨p1,p2⟩:=h6.good g1
 refine ⟨u,κ',S',rfl,p1,g2,Ext.ofNil g3.os g3.tape g3.output g3.size g3.keep (λi b hb=>?_) g3.sub g3.sup (h6.rows hr)⟩
 rw [p2] at hb
 exact g3.own i b hb
theorem p93:AA Try.prog Gl 93 O7:=by
 refine WI p66 λvs v h' h=>?_
 unfold O7 at h
 unfold Vv
 unfold Hp at h ⊢
 split at h
 ·rename_i u
  unfold apL at h ⊢
  split at h
  ·rename_i n g hg
   obtain ⟨h1,h2⟩:=Ag h
   obtain ⟨h3,h4⟩:=Ag h2
   rw [h1]
   dsimp only
   rw [h3]
   cases hm:BN n (λi=>edE (g i)) with
   | false =>
    rw [hm] at h4
    exact ⟨h',h4,AE.refl _⟩
   | true =>
    rw [hm] at h4
    have:=Ac h4
    simp only [Prod.mk.injEq] at this
    obtain ⟨rfl,rfl⟩:=this
    refine ⟨_,rfl,AE.one λi hi=>?_⟩
    rw [Rz hm (λ_ _=>rfl) i hi]
  ·cases h
 ·cases h
abbrev shL (a:Int) (n:Nat) (g:Nat->E6) (m:Nat) (x:Nat->Ev5) (t k:Int) (p:Nat) (r:Nat->Int) (q:Nat) (ln:Nat->Nat) (co:Nat->Nat->Int):List V:=[iV a,.sl 6 n (λi=>eV (g i)),.sl 5 m (λi=>evV (x i)),iV t,iV k,.sl 1 p (λi=>iV (r i)),.sl 1 q (λu=>.sl 1 (ln u) (λi=>iV (co u i)))]
theorem jlC (c:List V) (l:List Blk):Be (.cells c::l) = Be l:=rfl
theorem jlR (e s n:Nat) (g:Nat->V) (l:List Blk):Be (.row e s n g::l) = Be l:=rfl
theorem jlJ (e s n:Nat) (g:Nat->V) (o e' s':Nat) (ln:Nat->Nat) (m:Nat->Nat->V) (l:List Blk):Be (.jag ⟨e,s,n,g,o,e',s',λ_=>true,ln,m⟩::l) = Be l:=by simp [Be]
theorem jlN:Be [] = true:=rfl
end Go.Proofs.Ytjhnfomefcngfaa.Sh
