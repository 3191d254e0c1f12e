/-
  Marked, Grown, Heaped: of edges and of numbers. No conditions.
-/
import Derived.Test.YtjhnfomefcngfaaCyT
import Derived.Test.YtjhnfomefcngfaaSyU
import Derived.Test.YtjhnfomefcngfaaCyUa
import Derived.Test.YtjhnfomefcngfaaShD
namespace Go.Proofs.Ytjhnfomefcngfaa.Ed
open Go.Sy Go
theorem Ol (i:Nat):ile 0 (Int.ofNat i) = true:=decide_eq_true (Int.natCast_nonneg i)
end Go.Proofs.Ytjhnfomefcngfaa.Ed
namespace Go.Proofs.Ytjhnfomefcngfaa.Ed
open Go.Sy Go
open Int (ofNat)
def inN (n:Nat) (a:Int):Bool:=Ak (ile 0 a) (ilt a (ofNat n))
theorem ML {n a:Nat} (h:a < n):inN n (ofNat a) = true:=Ap h
theorem Tg {n:Nat} {a:Int} (h:inN n a = true):a = ofNat (toN a) ∧ toN a < n:=by
 simp only [inN,Ak,ile,ilt,Bool.and_eq_true,decide_eq_true_eq,Int.ofNat_eq_natCast] at h
 simp only [toN,Int.ofNat_eq_natCast]
 omega
def JN (n:Nat) (h:Nat->Int) (a b:Nat):Nat->Nat->Option Bool
 | 0,_=>none
 | d+1,i=>if h ((a+i) % n) = h ((b+i) % n) then JN n h a b d (i+1) else some (decide (h ((a+i) % n) < h ((b+i) % n)))
def Iw (n:Nat) (h:Nat->Int) (a b:Nat):Bool:=(JN n h a b n 0).getD false
theorem ON {n:Nat} {h:Nat->Int} {a b:Nat}:∀ d i,n = i+d->(∀ t,t < i->EM n h a t = EM n h b t)->((JN n h a b d i).getD false = true ↔ Jq n h a b)
 | 0,i,hd,hi=>by
  refine ⟨λh1=>(by cases h1),λ⟨s,h1,_,h3⟩=>?_⟩
  rw [hi s (by omega)] at h3
  omega
 | d+1,i,hd,hi=>by
  unfold JN
  by_cases he:h ((a+i) % n) = h ((b+i) % n)
  ·rw [if_pos he]
   refine ON d (i+1) (by omega) λt ht=>?_
   by_cases hti:t = i
   ·rw [hti]; exact he
   ·exact hi t (by omega)
  ·rw [if_neg he]
   refine ⟨λh1=>⟨i,by omega,hi,of_decide_eq_true h1⟩,λ⟨s,h1,h2,h3⟩=>decide_eq_true ?_⟩
   rcases Nat.lt_trichotomy s i with hs | hs | hs
   ·rw [hi s hs] at h3; omega
   ·rw [hs] at h3; exact h3
   ·exact absurd (h2 i hs) he
theorem OO {n:Nat} {h:Nat->Int} {a b:Nat}:Iw n h a b = true ↔ Jq n h a b:=ON n 0 (by omega) λt ht=>absurd ht (Nat.not_lt_zero _)
def Vq (n:Nat) (h:Nat->Int) (a b:Nat) (v:Bool):Ex × St:=(.rt,⟨(jsV 40 0 (λ_=>.und) [(6,bV v)]),[]⟩)
def Od (n:Nat) (h:Nat->Int) (a b:Nat):Lp:=⟨(bmK 40 0 [0,1,2,6,7,8]),0,bmK 40 0 [6],0,n+1⟩
def Pt (n:Nat) (h:Nat->Int) (a b:Nat) (i:Nat) (j:Nat->V):St:=⟨(jsV 40 0 j [(0,.sl 1 n λk=>iV (h k)),(1,nV a),(2,nV b),(6,bV false),(7,nV n),(8,nV i)]),[]⟩
def Vr (n:Nat) (h:Nat->Int) (a b:Nat) (i:Nat):Ex × St:=(.ex 0,⟨(jsV 40 0 (λ_=>.und) [(6,bV false)]),[]⟩)
noncomputable def Jb (L:LT):St->T (Ex × St):=λst=>AC tab ⟨Am tb0,L,Gl⟩ (Au Try.f120 0) 0 st
section
variable (L:LT) (n:Nat) (h:Nat->Int) (a b:Nat) (i:Nat)  (j:Nat->V)
include L n h a b i j
theorem Ahv (h0:ilt (ofNat i) (ofNat n) = false):Ah (Jb L) (Od n h a b) (Pt n h a b i j) = some ((.ex 0),⟨(jsV 40 0 (λ_=>.und) [(6,(bV false))]),[]⟩):=by
 exact Aa (ks:=[kn h0]) (by kernel_rfl)
theorem Ahu (h0:ilt (ofNat i) (ofNat n) = true) (h1:ieq (ofNat n) 0 = false) (h20:Ak (ile 0 (Ae (wr .i64 (Af (ofNat a) (ofNat i))) (ofNat n))) (ilt (Ae (wr .i64 (Af (ofNat a) (ofNat i))) (ofNat n)) (ofNat n)) = true) (h22:Ak (ile 0 (Ae (wr .i64 (Af (ofNat b) (ofNat i))) (ofNat n))) (ilt (Ae (wr .i64 (Af (ofNat b) (ofNat i))) (ofNat n)) (ofNat n)) = true) (h2:ieq (h (toN (Ae (wr .i64 (Af (ofNat a) (ofNat i))) (ofNat n)))) (h (toN (Ae (wr .i64 (Af (ofNat b) (ofNat i))) (ofNat n)))) = true):Ah (Jb L) (Od n h a b) (Pt n h a b i j) = some (.nm,⟨(jsV 40 0 (λ_=>.und) [(0,(.sl 1 n (λk=>(iV (h k))))),(1,(nV a)),(2,(nV b)),(6,(bV false)),(7,(nV n)),(8,(iV (wr .i64 (Af (ofNat i) 1))))]),[]⟩):=by
 exact Aa (ks:=[kn h0,kn h1,kn h20,kn h1,kn h22,kN (kn h2)]) (by kernel_rfl)
theorem Aht (h0:ilt (ofNat i) (ofNat n) = true) (h1:ieq (ofNat n) 0 = false) (h20:Ak (ile 0 (Ae (wr .i64 (Af (ofNat a) (ofNat i))) (ofNat n))) (ilt (Ae (wr .i64 (Af (ofNat a) (ofNat i))) (ofNat n)) (ofNat n)) = true) (h22:Ak (ile 0 (Ae (wr .i64 (Af (ofNat b) (ofNat i))) (ofNat n))) (ilt (Ae (wr .i64 (Af (ofNat b) (ofNat i))) (ofNat n)) (ofNat n)) = true) (h2:ieq (h (toN (Ae (wr .i64 (Af (ofNat a) (ofNat i))) (ofNat n)))) (h (toN (Ae (wr .i64 (Af (ofNat b) (ofNat i))) (ofNat n)))) = false):Ah (Jb L) (Od n h a b) (Pt n h a b i j) = some (.rt,⟨(jsV 40 0 (λ_=>.und) [(6,(bV (ilt (h (toN (Ae (wr .i64 (Af (ofNat a) (ofNat i))) (ofNat n)))) (h (toN (Ae (wr .i64 (Af (ofNat b) (ofNat i))) (ofNat n)))))))]),[]⟩):=by
 exact Aa (ks:=[kn h0,kn h1,kn h20,kn h1,kn h22,kN (kn h2)]) (by kernel_rfl)
end
def Aai (n:Nat) (h:Nat->Int) (a b:Nat) :Nat->V:=lkV A9 [(11,(.sl 1 n (λi=>iV (h i)))),(12,(nV n))]
theorem Af4 (L:LT) (p0:PT) (n:Nat) (h:Nat->Int) (a b:Nat) (i:Nat)  (hp0:p0 (Jb (onP 0 p0 (Vr n h a b i) L)) (Pt n h a b 0 (Aai n h a b )) = true):(Ar (Ai tab ⟨Am tb0,(onP 0 p0 (Vr n h a b i) L),Gl⟩ Try.f120 [Cf n h,nV a,nV b] [])).sem = some ((bV false),[]):=by
 exact Aa (ks:=[kn hp0]) (by kernel_rfl)
theorem Af3 (L:LT) (p0:PT) (n:Nat) (h:Nat->Int) (a b:Nat) (v:Bool)  (hp0:p0 (Jb (onP 0 p0 (Vq n h a b v) L)) (Pt n h a b 0 (Aai n h a b )) = true):(Ar (Ai tab ⟨Am tb0,(onP 0 p0 (Vq n h a b v) L),Gl⟩ Try.f120 [Cf n h,nV a,nV b] [])).sem = some ((bV v),[]):=by
 exact Aa (ks:=[kn hp0]) (by kernel_rfl)
theorem Abs (n a i:Nat) (ha:a < n) (hn:n <= 4611686018427387904) (hi:i < n):Ae (wr .i64 (Af (ofNat a) (ofNat i))) (ofNat n) = ofNat ((a+i) % n) ∧ (a+i) % n < n:=by
 rw [D9 (by omega),C5]
 exact ⟨rfl,Nat.mod_lt _ (by omega)⟩
theorem W7 (n a i:Nat) (ha:a < n) (hn:n <= 4611686018427387904) (hi:i < n):Ak (ile 0 (Ae (wr .i64 (Af (ofNat a) (ofNat i))) (ofNat n))) (ilt (Ae (wr .i64 (Af (ofNat a) (ofNat i))) (ofNat n)) (ofNat n)) = true:=by
 obtain ⟨e1,l1⟩:=Abs n a i ha hn hi
 rw [e1]
 exact Ap l1
theorem Aep (n i:Nat) (hi:i < n):ieq (ofNat n) 0 = false:=by rw [show (0:Int) = ofNat 0 from rfl,Dv,decide_eq_false (by omega)]
theorem Zt (L:LT) (n:Nat) (h:Nat->Int) (a b:Nat) (hn:n <= 4611686018427387904) (ha:a < n) (hb:b < n):∀ (d i:Nat) (j:Nat->V) (q:Nat),n = i+d->d < q ->
  (A4 (Jb L) (Od n h a b) q (Pt n h a b i j)).sem = some (match JN n h a b d i with | none=>Vr n h a b 0 | some v=>Vq n h a b v)
 | 0,i,j,q+1,h1,_=>by
  have:n = i:=by omega
  subst this
  exact Ab (Ahv L n h a b n j (A6 (Nat.le_refl _)))
 | d+1,i,j,q+1,h1,h2=>by
  have hi:i < n:=by omega
  obtain ⟨e1,l1⟩:=Abs n a i ha hn hi
  obtain ⟨e2,l2⟩:=Abs n b i hb hn hi
  unfold JN
  by_cases he:h ((a+i) % n) = h ((b+i) % n)
  ·have hq:ieq (h (toN (Ae (wr .i64 (Af (ofNat a) (ofNat i))) (ofNat n)))) (h (toN (Ae (wr .i64 (Af (ofNat b) (ofNat i))) (ofNat n)))) = true:=by
    rw [e1,e2]
    show ieq (h ((a+i) % n)) (h ((b+i) % n)) = true
    rw [he]
    exact CM _
   rw [if_pos he,Ab (Ahu L n h a b i j (ofNat_lt hi) (Aep n i hi) (W7 n a i ha hn hi) (W7 n b i hb hn hi) hq),Aq,Ao hi hn]
   exact Zt L n h a b hn ha hb d (i+1) (λ_=>.und) q (by omega) (by omega)
  ·have hq:ieq (h (toN (Ae (wr .i64 (Af (ofNat a) (ofNat i))) (ofNat n)))) (h (toN (Ae (wr .i64 (Af (ofNat b) (ofNat i))) (ofNat n)))) = false:=by
    rw [e1,e2]
    show ieq (h ((a+i) % n)) (h ((b+i) % n)) = false
    simp [ieq,he]
   have hr:=Aht L n h a b i j (ofNat_lt hi) (Aep n i hi) (W7 n a i ha hn hi) (W7 n b i hb hn hi) hq
   rw [e1,e2] at hr
   rw [if_neg he]
   exact Ab hr
def V9:List V->T (V × List Blk)
 | [v,.val (.int .i64 a),.val (.int .i64 b)]=>apI v λn h=>.br (DZ n) (.br (Ak (inN n a) (inN n b)) (out (bV (Iw n h (toN a) (toN b)))) .fail) .fail
 | _=>.fail
theorem Yi {a b:Bool} (h:Ak a b = true):a = true ∧ b = true:=by simpa [Ak] using h
theorem Anp:A7 Try.prog Gl 120 V9:=by
 refine Av AL AN Try.func120 (by kernel_rfl) (by kernel_rfl) λvs v h' hh=>?_
 unfold V9 at hh
 split at hh
 ·rename_i u a b
  obtain ⟨n,h,hv,h1⟩:=ED hh
  obtain ⟨h8,h2⟩:=Ad h1
  obtain ⟨hab,h3⟩:=Ad h2
  have:=Ac h3
  simp only [Prod.mk.injEq] at this
  obtain ⟨rfl,rfl⟩:=this
  obtain ⟨ha,hb⟩:=Yi hab
  obtain ⟨ea,la⟩:=Tg ha
  obtain ⟨eb,lb⟩:=Tg hb
  have hA:Bp [u,iV a,iV b] [Cf n h,iV (ofNat (toN a)),iV (ofNat (toN b))]:=λS w cs q=>by
   rw [<- ea,<- eb]
   obtain ⟨c,l,rfl,q1,q2⟩:=q
   exact ⟨c,l,rfl,hv S w c q1,q2⟩
  have hx:=AO C9 [(0,Od n h (toN a) (toN b))]
  have hL:=AE [(0,Od n h (toN a) (toN b))]
  have hr:=λL=>Zt L n h (toN a) (toN b) (CO h8) la lb n 0 (Aai n h (toN a) (toN b)) (n+1) (by omega) (by omega)
  refine ⟨_,AI Gl tb0 [(0,Od n h (toN a) (toN b))],_,hA,rfl,hx.1,hx.2,?_,A8.refl _⟩
  unfold Iw
  cases hc:JN n h (toN a) (toN b) n 0 with
  | none =>
   rw [hc] at hr
   exact A2 (As hL hL) _ (Af4 _ _ n h (toN a) (toN b) 0 (Aj (hr _)))
  | some v =>
   rw [hc] at hr
   exact A2 (As hL hL) _ (Af3 _ _ n h (toN a) (toN b) v (Aj (hr _)))
 ·cases hh
noncomputable def VP:List (Nat × (List V->T (V × List Blk))):=(120,V9) :: []
theorem YK:AA Try.prog Gl VP:=.cons Anp .nil
def U8 (n:Nat) (h:Nat->Int):Nat->Nat->Nat->Nat
 | 0,_,b=>b
 | d+1,i,b=>if Iw n h i b = true then U8 n h d (i+1) i else U8 n h d (i+1) b
def Xy (n:Nat) (h:Nat->Int):Nat:=U8 n h (n - 1) 1 0
theorem ND {n:Nat} {h:Nat->Int}:∀ d i b,n = i+d->b < i->(∀ q,q < i->¬ Jq n h q b)->EA n h (U8 n h d i b)
 | 0,i,b,hd,hb,hq=>⟨by show b < n; omega,λq hq'=>hq q (by omega)⟩
 | d+1,i,b,hd,hb,hq=>by
  unfold U8
  by_cases ha:Iw n h i b = true
  ·rw [if_pos ha]
   have hl:=OO.1 ha
   refine ND d (i+1) i (by omega) (by omega) λq hq' hlt=>?_
   by_cases hqi:q = i
   ·rw [hqi] at hlt; exact Fg hlt
   ·exact hq q (by omega) (Mv hlt hl)
  ·rw [if_neg ha]
   refine ND d (i+1) b (by omega) (by omega) λq hq' hlt=>?_
   by_cases hqi:q = i
   ·rw [hqi] at hlt; exact ha (OO.2 hlt)
   ·exact hq q (by omega) hlt
theorem Z0 {n:Nat} (h:Nat->Int) (hn:0 < n):EA n h (Xy n h):=ND (n - 1) 1 0 (by omega) (by omega) λq hq=>by
 have:q = 0:=by omega
 subst this
 exact Fg
def lp104 (n:Nat) (h:Nat->Int):Lp:=⟨(bmK 17 0 [0,2,3,4]),0,bmK 17 0 [2,3],0,n+1⟩
def st104 (n:Nat) (h:Nat->Int) (b i:Nat) (j:Nat->V):St:=⟨(jsV 17 0 j [(0,.sl 1 n λk=>iV (h k)),(2,iV 0),(3,nV b),(4,nV i)]),[]⟩
def en104e (n:Nat) (h:Nat->Int) (b i:Nat):Ex × St:=(.ex 0,⟨(jsV 17 0 (λ_=>.und) [(2,iV 0),(3,nV b)]),[]⟩)
noncomputable def body104 (L:LT):St->T (Ex × St):=λst=>AC tab ⟨Am VP,L,Gl⟩ (Au Try.f113 0) 0 st
section
variable (L:LT) (n:Nat) (h:Nat->Int) (b i:Nat)  (j:Nat->V)
include L n h b i j
theorem Z1 (h0:ilt (ofNat i) (ofNat n) = false):Ah (body104 L) (lp104 n h) (st104 n h b i j) = some ((.ex 0),⟨(jsV 17 0 (λ_=>.und) [(2,(iV 0)),(3,(nV b))]),[]⟩):=by
 exact Aa (ks:=[kn h0]) (by kernel_rfl)
theorem Ahz (h0:ilt (ofNat i) (ofNat n) = true) (h18:DZ n = true) (h19:inN n (ofNat i) = true) (h20:inN n (ofNat b) = true) (h1:Iw n h i b = true):Ah (body104 L) (lp104 n h) (st104 n h b i j) = some (.nm,⟨(jsV 17 0 (λ_=>.und) [(0,(.sl 1 n (λk=>(iV (h k))))),(2,(iV 0)),(3,(nV i)),(4,(iV (wr .i64 (Af (ofNat i) 1))))]),[]⟩):=by
 exact Aa (ks:=[kn h0,kL n,kn h18,kA (kn h19) (kn h20),kn h1]) (by kernel_rfl)
theorem Ah0 (h0:ilt (ofNat i) (ofNat n) = true) (h18:DZ n = true) (h19:inN n (ofNat i) = true) (h20:inN n (ofNat b) = true) (h1:Iw n h i b = false):Ah (body104 L) (lp104 n h) (st104 n h b i j) = some (.nm,⟨(jsV 17 0 (λ_=>.und) [(0,(.sl 1 n (λk=>(iV (h k))))),(2,(iV 0)),(3,(nV b)),(4,(iV (wr .i64 (Af (ofNat i) 1))))]),[]⟩):=by
 exact Aa (ks:=[kn h0,kL n,kn h18,kA (kn h19) (kn h20),kn h1]) (by kernel_rfl)
end
def jk104 (n:Nat) (h:Nat->Int) :Nat->V:=lkV A9 []
theorem AdQ (L:LT) (p0:PT) (n:Nat) (h:Nat->Int) (b i:Nat)  (hp0:p0 (body104 (onP 0 p0 (en104e n h b i) L)) (st104 n h 0 1 (jk104 n h )) = true):(Ar (Ai tab ⟨Am VP,(onP 0 p0 (en104e n h b i) L),Gl⟩ Try.f113 [Cf n h] [])).sem = some ((nV b),[]):=by
 exact Aa (ks:=[kn hp0]) (by kernel_rfl)
theorem run104 (L:LT) (n:Nat) (h:Nat->Int) (h8:DZ n = true):∀ (d i b:Nat) (j:Nat->V) (q:Nat),n = i+d->b < i->d < q ->
  (A4 (body104 L) (lp104 n h) q (st104 n h b i j)).sem = some (en104e n h (U8 n h d i b) n)
 | 0,i,b,j,q+1,h1,_,_=>by
  have:n = i:=by omega
  subst this
  exact Ab (Z1 L n h b n j (A6 (Nat.le_refl _)))
 | d+1,i,b,j,q+1,h1,hb,h2=>by
  have hi:i < n:=by omega
  unfold U8
  cases ha:Iw n h i b with
  | true =>
   rw [if_pos rfl,Ab (Ahz L n h b i j (ofNat_lt hi) h8 (ML hi) (ML (by omega)) ha),Aq,Ao hi (CO h8)]
   exact run104 L n h h8 d (i+1) i (λ_=>.und) q (by omega) (by omega) (by omega)
  | false =>
   rw [if_neg (by decide),Ab (Ah0 L n h b i j (ofNat_lt hi) h8 (ML hi) (ML (by omega)) ha),Aq,Ao hi (CO h8)]
   exact run104 L n h h8 d (i+1) b (λ_=>.und) q (by omega) (by omega) (by omega)
def Aem:List V->T (V × List Blk):=AdI λn h=>.br (DZ n) (out (iV (ofNat (Xy n h)))) .fail
theorem p104:A7 Try.prog Gl 113 Aem:=by
 refine Av AL AN Try.func113 (by kernel_rfl) (by kernel_rfl) λvs v h' hh=>?_
 obtain ⟨n,h,hA,h1⟩:=Qh hh
 obtain ⟨h8,h3⟩:=Ad h1
 have:=Ac h3
 simp only [Prod.mk.injEq] at this
 obtain ⟨rfl,rfl⟩:=this
 have hx:=AO YK [(0,lp104 n h)]
 have hL:=AE [(0,lp104 n h)]
 refine ⟨_,AI Gl VP [(0,lp104 n h)],_,hA,rfl,hx.1,hx.2,?_,A8.refl _⟩
 unfold Xy
 rcases Nat.eq_zero_or_pos n with rfl | hn
 ·exact A2 (As hL hL) _ (AdQ _ _ 0 h 0 0 (Aj (Ab (Z1 _ 0 h 0 1 (jk104 0 h) (A6 (by omega))))))
 ·exact A2 (As hL hL) _ (AdQ _ _ n h _ n (Aj (run104 _ n h h8 (n - 1) 1 0 (jk104 n h) (n+1) (by omega) (by omega) (by omega))))
noncomputable def Pm:List (Nat × (List V->T (V × List Blk))):=(98,BO TC) :: []
theorem YL:AA Try.prog Gl Pm:=.cons p25 .nil
def en103f (n:Nat) (f:Nat->E6) (k:Nat) (x:Nat->V):Ex × St:=(.rt,⟨(jsV 31 0 (λ_=>.und) [(2,.ref 2),(3,bV false),(4,.ref 1)]),[.row 3 1 0 λ_=>.und,.row 3 1 k x,.row 3 1 0 λ_=>.und]⟩)
def lp103 (n:Nat) (f:Nat->E6):Lp:=⟨(bmK 31 0 [0,2,3,4,5]),2,bmK 31 0 [2,3,4],3,n+1⟩
def st103 (n:Nat) (f:Nat->E6) (i k:Nat) (x:Nat->V) (j:Nat->V):St:=⟨(jsV 31 0 j [(0,.sl 6 n λi=>eV (f i)),(2,.ref 0),(3,bV false),(4,.ref 1),(5,nV i)]),[.row 3 1 0 λ_=>.und,.row 3 1 k x]⟩
def en103e (n:Nat) (f:Nat->E6) (i k:Nat) (x:Nat->V):Ex × St:=(.ex 0,⟨(jsV 31 0 (λ_=>.und) [(2,.ref 0),(3,bV false),(4,.ref 1)]),[.row 3 1 0 λ_=>.und,.row 3 1 k x]⟩)
noncomputable def body103 (L:LT):St->T (Ex × St):=λst=>AC tab ⟨Am Pm,L,Gl⟩ (Au Try.f70 0) 0 st
section
variable (L:LT) (n:Nat) (f:Nat->E6) (i k:Nat) (x:Nat->V)  (j:Nat->V)
include L n f i k x j
theorem Ah1 (h0:ilt (ofNat i) (ofNat n) = false):Ah (body103 L) (lp103 n f) (st103 n f i k x j) = some ((.ex 0),⟨(jsV 31 0 (λ_=>.und) [(2,(.ref 0)),(3,(bV false)),(4,(.ref 1))]),[r3Z,(.row 3 1 k x)]⟩):=by
 exact Aa (ks:=[kn h0]) (by kernel_rfl)
theorem Z2 (h0:ilt (ofNat i) (ofNat n) = true) (h20:ile 0 (ofNat i) = true) (h1:ieq (Bb (f i)) 0 = true) (h21:AY k 1 8 = true):Ah (body103 L) (lp103 n f) (st103 n f i k x j) = some (.nm,⟨(jsV 31 0 (λ_=>.und) [(0,(.sl 6 n (λi=>(eV (f i))))),(2,(.ref 0)),(3,(bV false)),(4,(.ref 1)),(5,(iV (wr .i64 (Af (ofNat i) 1))))]),[r3Z,(.row 3 1 (AQ k 1) (A1 k x (iV (BP (f i)))))]⟩):=by
 exact Aa (ks:=[kn h0,kA (kn h20) (kn h0),kN (kn h1),kn h21]) (by kernel_rfl)
theorem Z3 (h0:ilt (ofNat i) (ofNat n) = true) (h20:ile 0 (ofNat i) = true) (h1:ieq (Bb (f i)) 0 = false):Ah (body103 L) (lp103 n f) (st103 n f i k x j) = some (.rt,⟨(jsV 31 0 (λ_=>.und) [(2,(.ref 2)),(3,(bV false)),(4,(.ref 1))]),[r3Z,(.row 3 1 k x),r3Z]⟩):=by
 exact Aa (ks:=[kn h0,kA (kn h20) (kn h0),kN (kn h1)]) (by kernel_rfl)
end
def jk103 (n:Nat) (f:Nat->E6) :Nat->V:=lkV A9 []
theorem AfA (L:LT) (p0:PT) (n:Nat) (f:Nat->E6) (i k:Nat) (x:Nat->V)  (hp0:p0 (body103 (onP 0 p0 (en103e n f i k x) L)) (st103 n f 0 0 (λ_=>.und) (jk103 n f )) = true):(Ar (Ai tab ⟨Am Pm,(onP 0 p0 (en103e n f i k x) L),Gl⟩ Try.f70 [Az n f] [])).sem = some ((.tup [(.ref 0),(bV true)]),[(.row 3 1 k x)]):=by
 exact Aa (ks:=[kn hp0]) (by kernel_rfl)
theorem Af9 (L:LT) (p0:PT) (n:Nat) (f:Nat->E6) (k:Nat) (x:Nat->V)  (hp0:p0 (body103 (onP 0 p0 (en103f n f k x) L)) (st103 n f 0 0 (λ_=>.und) (jk103 n f )) = true):(Ar (Ai tab ⟨Am Pm,(onP 0 p0 (en103f n f k x) L),Gl⟩ Try.f70 [Az n f] [])).sem = some ((.tup [(.ref 0),(bV false)]),[r3Z]):=by
 exact Aa (ks:=[kn hp0]) (by kernel_rfl)
theorem Wc (L:LT) (n:Nat) (f:Nat->E6) (hn:Bj n = true) (e:Nat) (he:e < n) (hb:Bb (f e) = 30) (ho:∀ t,t < e->Bb (f t) = 0):∀ (d i:Nat) (j:Nat->V) (q:Nat),e = i+d->d < q ->
  (A4 (body103 L) (lp103 n f) q (st103 n f i i (BN (cdV f) i) j)).sem = some (en103f n f e (BN (cdV f) e))
 | 0,i,j,q+1,h1,_=>by
  have:e = i:=by omega
  subst this
  exact Ab (Z3 L n f e e (BN (cdV f) e) j (ofNat_lt he) (Ol e) (by rw [hb]; rfl))
 | d+1,i,j,q+1,h1,h2=>by
  have hi:i < n:=by omega
  have hr:=Z2 L n f i i (BN (cdV f) i) j (ofNat_lt hi) (Ol i) (by rw [ho i (by omega)]; rfl) (RF hi (by decide) (of_decide_eq_true hn))
  rw [Ab hr,Aq,Ao hi (IQ hn)]
  exact Wc L n f hn e he hb ho d (i+1) (λ_=>.und) q (by omega) (by omega)
theorem run103 (L:LT) (n:Nat) (f:Nat->E6) (hn:Bj n = true):∀ (d i:Nat) (j:Nat->V) (q:Nat),n = i+d->d < q->(∀ t,t < i->Bb (f t) = 0) ->
  (CJ n f = true ∧ (A4 (body103 L) (lp103 n f) q (st103 n f i i (BN (cdV f) i) j)).sem = some (en103e n f n n (BN (cdV f) n))) ∨ (CJ n f = false ∧ ∃ e,(A4 (body103 L) (lp103 n f) q (st103 n f i i (BN (cdV f) i) j)).sem = some (en103f n f e (BN (cdV f) e)))
 | 0,i,j,q+1,h1,_,ho=>by
  have:n = i:=by omega
  subst this
  exact .inl ⟨F4.2 ho,Ab (Ah1 L n f n n _ j (A6 (Nat.le_refl _)))⟩
 | d+1,i,j,q+1,h1,h2,ho=>by
  have hi:i < n:=by omega
  by_cases hc:Bb (f i) = 0
  ·have hr:=Z2 L n f i i (BN (cdV f) i) j (ofNat_lt hi) (Ol i) (by rw [hc]; rfl) (RF hi (by decide) (of_decide_eq_true hn))
   have ih:=run103 L n f hn d (i+1) (λ_=>.und) q (by omega) (by omega) λt ht=>by
    by_cases hti:t = i
    ·rw [hti]; exact hc
    ·exact ho t (by omega)
   rw [Ab hr,Aq,Ao hi (IQ hn)]
   exact ih
  ·refine .inr ⟨?_,i,Ab (Z3 L n f i i (BN (cdV f) i) j (ofNat_lt hi) (Ol i) (by simp [ieq,hc]))⟩
   cases hm:CJ n f with
   | false=>rfl
   | true=>exact absurd (F4.1 hm i hi) hc
def WT:List V->T (V × List Blk):=GS λn f=>.br (Bj n) (.br (CJ n f) (.leaf (.tup [.ref 0,bV true],[.row 3 1 n λi=>iV (BP (f i))])) (.leaf (.tup [.ref 0,bV false],[.row 3 1 0 λ_=>.und]))) .fail
theorem p103:A7 Try.prog Gl 70 WT:=by
 refine Av AL AN Try.func70 (by kernel_rfl) (by kernel_rfl) λvs v h' h=>?_
 obtain ⟨n,f,ha,h⟩:=CZ h
 obtain ⟨hn,h⟩:=Ad h
 have hx:=AO YL [(0,lp103 n f)]
 have hL:=AE [(0,lp103 n f)]
 have hr:=λL=>run103 L n f hn n 0 (jk103 n f) (n+1) (by omega) (by omega) λt ht=>absurd ht (Nat.not_lt_zero _)
 cases hm:CJ n f with
 | true =>
  rw [hm] at h
  have:=Ac h
  simp only [Prod.mk.injEq] at this
  obtain ⟨rfl,rfl⟩:=this
  exact ⟨_,AI Gl Pm [(0,lp103 n f)],_,ha,rfl,hx.1,hx.2,A2 (As hL hL) _ (AfA _ _ n f n n _ (Aj ((hr _).elim (λq=>q.2) λq=>by rw [hm] at q; cases q.1))),A8.one λj hj=>(HP (cdV f) n j hj).symm⟩
 | false =>
  rw [hm] at h
  have:=Ac h
  simp only [Prod.mk.injEq] at this
  obtain ⟨rfl,rfl⟩:=this
  obtain ⟨e,h1,h2,h3⟩:=ZH hm
  exact ⟨_,AI Gl Pm [(0,lp103 n f)],_,ha,rfl,hx.1,hx.2,A2 (As hL hL) _ (Af9 _ _ n f e (BN (cdV f) e) (Aj (Wc _ n f hn e h1 h2 h3 e 0 (jk103 n f) (n+1) (by omega) (by omega)))),A8.refl _⟩
noncomputable def YC:List (Nat × (List V->T (V × List Blk))):=(70,WT) :: (113,Aem) :: (21,MD) :: []
theorem AbQ:AA Try.prog Gl YC:=.cons p103 <| .cons p104 <| .cons p69 .nil
section
variable (L:LT) (n:Nat) (f:Nat->E6)
include L n f
theorem AiU (h19:Bj n = true) (h0:CJ n f = true) (h20:DZ n = true):(Ar (Ai tab ⟨Am YC,L,Gl⟩ Try.f93 [Az n f] [])).sem = some ((.tup [(.ref 0),(iV 0)]),[(.row 44 6 n (λi=>(eV (Jj n f (ofNat (Xy n (λi=>(BP (f i))))) i))))]):=by
 exact Aa (ks:=[kL n,kn h19,kn h0,kN kT,kL n,kn h20,kL n,kn h19]) (by kernel_rfl)
theorem AiV (h19:Bj n = true) (h0:CJ n f = false):(Ar (Ai tab ⟨Am YC,L,Gl⟩ Try.f93 [Az n f] [])).sem = some ((.tup [(.ref 0),(iV 30)]),[(.row 44 6 0 (λ_=>.und))]):=by
 exact Aa (ks:=[kL n,kn h19,kn h0,kN kF]) (by kernel_rfl)
end
def Wh:List V->T (V × List Blk):=GS λn f=>.br (Bj n) (.br (CJ n f) (.leaf (.tup [.ref 0,iV 0],[.row 44 6 n λi=>eV (Jj n f (ofNat (Xy n λk=>BP (f k))) i)])) (.leaf (.tup [.ref 0,iV 30],[.row 44 6 0 λ_=>.und]))) .fail
theorem p66:A7 Try.prog Gl 93 Wh:=by
 refine Av AL AN Try.func93 (by kernel_rfl) (by kernel_rfl) λvs v h' h=>?_
 obtain ⟨n,f,ha,h⟩:=CZ h
 obtain ⟨hn,h⟩:=Ad h
 have hx:=AO AbQ []
 cases hm:CJ n f with
 | true =>
  rw [hm] at h
  have:=Ac h
  simp only [Prod.mk.injEq] at this
  obtain ⟨rfl,rfl⟩:=this
  exact ⟨_,AI Gl YC [],_,ha,rfl,hx.1,hx.2,AiU _ n f hn hm (ET hn),A8.refl _⟩
 | false =>
  rw [hm] at h
  have:=Ac h
  simp only [Prod.mk.injEq] at this
  obtain ⟨rfl,rfl⟩:=this
  exact ⟨_,AI Gl YC [],_,ha,rfl,hx.1,hx.2,AiV _ n f hn hm,A8.refl _⟩
theorem Hc {n:Nat} {h g:Nat->Int} (hg:∀ i,i < n->g i = h i) (p i:Nat) (hn:0 < n):EM n g p i = EM n h p i:=hg _ (Nat.mod_lt _ hn)
theorem Tb {n:Nat} {h g:Nat->Int} (hg:∀ i,i < n->g i = h i) {p:Nat} (hp:EA n g p):EA n h p:=by
 have hn:0 < n:=by have:=hp.1; omega
 refine ⟨hp.1,λq hq hl=>hp.2 q hq ?_⟩
 obtain ⟨s,h1,h2,h3⟩:=hl
 exact ⟨s,h1,λt ht=>by rw [Hc hg _ _ hn,Hc hg _ _ hn]; exact h2 t ht,by rw [Hc hg _ _ hn,Hc hg _ _ hn]; exact h3⟩
theorem AdE {n:Nat} {f l:Nat->E6} (hm:CJ n f = true) (hl:∀ i,i < n->l i = f i):∀ i,i < n->B4 n l i = Jj n f (ofNat (Xy n λk=>BP (f k))) i:=λi hi=>by
 have hn:0 < n:=by omega
 have h1:EA n (λk=>BP (f k)) (D0 n λk=>BP (l k)):=Tb (g:=λk=>BP (l k)) (λt ht=>by show BP (l t) = BP (f t); rw [hl t ht]) (UR n _ hn)
 have h2:=Z0 (λk=>BP (f k)) hn
 have h3:=Aal h1 h2 i hi
 unfold B4 Jj
 rw [Xe h2.1,hl _ (Nat.mod_lt _ hn)]
 exact AdD (F4.1 hm _ (Nat.mod_lt _ hn)) (F4.1 hm _ (Nat.mod_lt _ hn)) h3
end Go.Proofs.Ytjhnfomefcngfaa.Ed
namespace Go.Proofs.Ytjhnfomefcngfaa.Sh
open Go.Sy Ed
structure Cod (α:Type) where
 size:Nat
 enc:α->V
 ok:V->Bool
 ed:V->α
 law:∀ v,ok v = true->∀ (S:Nat->Prop) (w:World) (c:Value),VR S w v noK c->VR S w (enc (ed v)) noK c
def Rn (s:Nat):V->Option (Nat × (Nat->V))
 | .sl s' n g=>match Nat.beq s' s with
  | true=>some (n,g)
  | false=>match n with
   | 0=>some (0,g)
   | _=>none
 | .slr s' n _ g=>match Nat.beq s' s with
  | true=>some (n,g)
  | false=>none
 | .nilS=>some (0,λ_=>.und)
 | _=>none
theorem Ot {s:Nat} {v:V} {n:Nat} {g:Nat->V} (hg:Rn s v = some (n,g)) {e:Nat->V} (he:∀ i,i < n->∀ (S:Nat->Prop) (w:World) (c:Value),VR S w (g i) noK c->VR S w (e i) noK c)
  {S:Nat->Prop} {w:World} {c:Value} (hv:VR S w v noK c):VR S w (.sl s n e) noK c:=by
 unfold Rn at hg
 split at hg
 ·rename_i s' n' g'
  split at hg
  ·rename_i hs
   simp only [Option.some.injEq,Prod.mk.injEq] at hg
   obtain ⟨rfl,rfl⟩:=hg
   have hs:s' = s:=Nat.eq_of_beq_eq_true hs
   subst hs
   obtain ⟨a,cap,ea,hc,hb⟩:=hv
   refine ⟨a,cap,ea,hc,hb.imp id ?_⟩
   rintro ⟨b,o,eb,hel⟩
   refine ⟨b,o,eb,λi hi=>?_⟩
   obtain ⟨ci,h1,h2⟩:=hel i hi
   exact ⟨ci,he i hi S w ci h1,h2⟩
  ·split at hg
   ·simp only [Option.some.injEq,Prod.mk.injEq] at hg
    obtain ⟨rfl,rfl⟩:=hg
    obtain ⟨a,cap,ea,hc,_⟩:=hv
    exact ⟨a,cap,ea,hc,.inl rfl⟩
   ·cases hg
 ·rename_i s' n' m' g'
  split at hg
  ·rename_i hs
   simp only [Option.some.injEq,Prod.mk.injEq] at hg
   obtain ⟨rfl,rfl⟩:=hg
   have hs:s' = s:=Nat.eq_of_beq_eq_true hs
   subst hs
   obtain ⟨a,cap,ea,hc,hm,hb⟩:=hv
   refine ⟨a,cap,ea,Nat.le_trans hc hm,?_⟩
   rcases hb with h0 | ⟨b,o,eb,hel⟩
   ·exact .inl (by omega)
   ·refine .inr ⟨b,o,eb,λi hi=>?_⟩
    obtain ⟨ci,h1,h2⟩:=hel i (by omega)
    exact ⟨ci,he i hi S w ci h1,h2⟩
  ·cases hg
 ·simp only [Option.some.injEq,Prod.mk.injEq] at hg
  obtain ⟨rfl,rfl⟩:=hg
  have hv:c = .slice none 0 0:=hv
  exact ⟨none,0,hv,Nat.le_refl _,.inl rfl⟩
 ·cases hg
def apG {α β:Type} (c:Cod α) (v:V) (F:Nat->(Nat->α)->T β):T β :=
 match Rn c.size v with
 | some (n,g)=>.br (A5 n λi=>c.ok (g i)) (F n λi=>c.ed (g i)) .fail
 | none=>.fail
def HT {α:Type} (c:Cod α) (n:Nat) (f:Nat->α):V:=.sl c.size n λi=>c.enc (f i)
theorem BJ {α β:Type} {c:Cod α} {v:V} {F:Nat->(Nat->α)->T β} {r:β} (h:(apG c v F).sem = some r) :
  ∃ n f,(∀ (S:Nat->Prop) (w:World) (u:Value),VR S w v noK u->VR S w (HT c n f) noK u) ∧ (F n f).sem = some r:=by
 unfold apG at h
 split at h
 ·rename_i n g hg
  obtain ⟨h1,h2⟩:=Ad h
  have h1:=A3.1 h1
  exact ⟨n,_,λS w u hv=>Ot hg (λi hi S w cc hc=>c.law _ (h1 i hi) S w cc hc) hv,h2⟩
 ·cases h
def R3:Cod E6:=⟨6,eV,okE,edE,λv h S w c hv=>by rw [<- NN h]; exact hv⟩
def R2:Cod Int:=⟨1,iV,okI,edI,λv h S w c hv=>by rw [<- NM h]; exact hv⟩
def toX:V->Option Ev5
 | .agg [.val (.int .i64 a),.val (.int .i64 b),.val (.int .i64 c),.val (.int .i64 d),.val (.int .i64 e)]=>some ⟨a,b,c,d,e⟩
 | _=>none
theorem Y4 {v:V} {e:Ev5} (h:toX v = some e):v = evV e:=by
 unfold toX at h
 split at h
 ·simp only [Option.some.injEq] at h
  subst h
  rfl
 ·cases h
def okX (v:V):Bool:=match toX v with
 | some _=>true
 | none=>false
def edX (v:V):Ev5:=match toX v with
 | some e=>e
 | none=>⟨0,0,0,0,0⟩
theorem ZD {v:V} (h:okX v = true):v = evV (edX v):=by
 unfold okX at h
 unfold edX
 split at h
 ·rename_i e he
  exact Y4 he
 ·cases h
def R0:Cod Ev5:=⟨5,evV,okX,edX,λv h S w c hv=>by rw [<- ZD h]; exact hv⟩
def okJ (v:V):Bool:=match Rn 1 v with
 | some (n,g)=>A5 n λi=>okI (g i)
 | none=>false
def edJ (v:V):Nat × (Nat->Int):=match Rn 1 v with
 | some (n,g)=>(n,λi=>edI (g i))
 | none=>(0,λ_=>0)
def R1:Cod (Nat × (Nat->Int)):=⟨1,λp=>.sl 1 p.1 λi=>iV (p.2 i),okJ,edJ,λv h S w c hv=>by
 unfold okJ at h
 unfold edJ
 split at h
 ·rename_i n g hg
  have h:=A3.1 h
  exact Ot hg (λi hi S w cc hc=>by rw [<- NM (h i hi)]; exact hc) hv
 ·cases h⟩
structure Sh7 where
 arch:Int
 ne:Nat
 E:Nat->E6
 nx:Nat
 X:Nat->Ev5
 tt:Int
 kk:Int
 nr:Nat
 R:Nat->Int
 nc:Nat
 C:Nat->Nat × (Nat->Int)
def Q5 (s:Sh7):V:=.agg [iV s.arch,HT R3 s.ne s.E,HT R0 s.nx s.X,iV s.tt,iV s.kk,HT R2 s.nr s.R,HT R1 s.nc s.C]
def apS {β:Type} (v:V) (F:Sh7->T β):T β :=
 match v with
 | .agg [.val (.int .i64 a),e,x,.val (.int .i64 t),.val (.int .i64 k),r,c]=>apG R3 e λne E=>apG R0 x λnx X=>apG R2 r λnr R=>apG R1 c λnc C=>F ⟨a,ne,E,nx,X,t,k,nr,R,nc,C⟩
 | _=>.fail
theorem BI {β:Type} {v:V} {F:Sh7->T β} {r:β} (h:(apS v F).sem = some r) :
  ∃ s,(∀ (S:Nat->Prop) (w:World) (u:Value),VR S w v noK u->VR S w (Q5 s) noK u) ∧ (F s).sem = some r:=by
 unfold apS at h
 split at h
 ·obtain ⟨ne,E,h1,h⟩:=BJ h
  obtain ⟨nx,X,h2,h⟩:=BJ h
  obtain ⟨nr,R,h3,h⟩:=BJ h
  obtain ⟨nc,C,h4,h⟩:=BJ h
  refine ⟨_,λS w u hv=>?_,h⟩
  obtain ⟨ca,rfl,a1,l1,rfl,q1,a2,l2,rfl,q2,a3,l3,rfl,q3,a4,l4,rfl,q4,a5,l5,rfl,q5,a6,l6,rfl,q6,a7,l7,rfl,q7,q8⟩:=hv
  exact ⟨_,rfl,a1,_,rfl,q1,a2,_,rfl,h1 S w _ q2,a3,_,rfl,h2 S w _ q3,a4,_,rfl,q4,a5,_,rfl,q5,a6,_,rfl,h3 S w _ q6,a7,_,rfl,h4 S w _ q7,q8⟩
 ·cases h
theorem X1 {P:Program} {G:Nat->V} {f:FuncId} {F F':List V->T (V × List Blk)} (h:A7 P G f F) (hF:∀ vs v h',(F' vs).sem = some (v,h')->∃ h'',(F vs).sem = some (v,h'') ∧ A8 h'' h'):A7 P G f F':=by
 refine ⟨h.1,λvs cs S w v h' h1 h2 h3 h4=>?_⟩
 obtain ⟨h'',h5,h6⟩:=hF vs v h' h4
 obtain ⟨hr,hc⟩:=h.2 vs cs S w v h'' h1 h2 h3 h5
 refine ⟨h6.rows hr,hc.mono ?_⟩
 rintro e w' ⟨u,κ',S',rfl,g1,g2,g3⟩
 obtain ⟨p1,p2⟩:=h6.good g1
 refine ⟨u,κ',S',rfl,p1,g2,Ext.ofNil g3.os g3.tape g3.output g3.size g3.keep (λi b hb=>?_) g3.sub g3.sup (h6.rows hr)⟩
 rw [p2] at hb
 exact g3.own i b hb
theorem p93:A7 Try.prog Gl 93 OF:=by
 refine X1 p66 λvs v h' h=>?_
 unfold OF at h
 unfold Wh
 unfold GS at h ⊢
 split at h
 ·rename_i u
  unfold apL at h ⊢
  split at h
  ·rename_i n g hg
   obtain ⟨h1,h2⟩:=Ad h
   obtain ⟨h3,h4⟩:=Ad h2
   rw [h1]
   dsimp only
   rw [h3]
   cases hm:CJ n (λi=>edE (g i)) with
   | false =>
    rw [hm] at h4
    exact ⟨h',h4,A8.refl _⟩
   | true =>
    rw [hm] at h4
    have:=Ac h4
    simp only [Prod.mk.injEq] at this
    obtain ⟨rfl,rfl⟩:=this
    refine ⟨_,rfl,A8.one λi hi=>?_⟩
    rw [AdE hm (λ_ _=>rfl) i hi]
  ·cases h
 ·cases h
abbrev shL (a:Int) (n:Nat) (g:Nat->E6) (m:Nat) (x:Nat->Ev5) (t k:Int) (p:Nat) (r:Nat->Int) (q:Nat) (ln:Nat->Nat) (co:Nat->Nat->Int):List V:=[iV a,.sl 6 n (λi=>eV (g i)),.sl 5 m (λi=>evV (x i)),iV t,iV k,.sl 1 p (λi=>iV (r i)),.sl 1 q (λu=>.sl 1 (ln u) (λi=>iV (co u i)))]
theorem jlC (c:List V) (l:List Blk):AX (.cells c::l) = AX l:=rfl
theorem jlR (e s n:Nat) (g:Nat->V) (l:List Blk):AX (.row e s n g::l) = AX l:=rfl
theorem jlJ (e s n:Nat) (g:Nat->V) (o e' s':Nat) (ln:Nat->Nat) (m:Nat->Nat->V) (l:List Blk):AX (.jag ⟨e,s,n,g,o,e',s',λ_=>true,ln,m⟩::l) = AX l:=by simp [AX]
theorem jlN:AX [] = true:=rfl
end Go.Proofs.Ytjhnfomefcngfaa.Sh
