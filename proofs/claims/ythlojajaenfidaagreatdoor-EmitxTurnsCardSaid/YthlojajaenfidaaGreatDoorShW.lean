/-
  Marked, Grown, Heaped: of edges and of numbers. No conditions.
-/
import Derived.Test.YthlojajaenfidaaGreatDoorCyT
import Derived.Test.YthlojajaenfidaaGreatDoorEdD
import Derived.Test.YthlojajaenfidaaGreatDoorCyUa
import Derived.Test.YthlojajaenfidaaGreatDoorShD
namespace Go.Proofs.YthlojajaenfidaaGreatDoor.Ed
open Go.Sy Go
theorem WT (i:Nat):ile 0 (Int.ofNat i) = true:=decide_eq_true (Int.natCast_nonneg i)
end Go.Proofs.YthlojajaenfidaaGreatDoor.Ed
namespace Go.Proofs.YthlojajaenfidaaGreatDoor.Ed
open Go.Sy Go
open Int (ofNat)
def inN (n:Nat) (a:Int):Bool:=Al (ile 0 a) (ilt a (ofNat n))
theorem MK {n a:Nat} (h:a < n):inN n (ofNat a) = true:=Ap h
theorem Tf {n:Nat} {a:Int} (h:inN n a = true):a = ofNat (toN a) ∧ toN a < n:=by
 simp only [inN,Al,ile,ilt,Bool.and_eq_true,decide_eq_true_eq,Int.ofNat_eq_natCast] at h
 simp only [toN,Int.ofNat_eq_natCast]
 omega
def JO (n:Nat) (h:Nat->Int) (a b:Nat):Nat->Nat->Option Bool
 | 0,_=>none
 | d+1,i=>if h ((a+i) % n) = h ((b+i) % n) then JO n h a b d (i+1) else some (decide (h ((a+i) % n) < h ((b+i) % n)))
def Iv (n:Nat) (h:Nat->Int) (a b:Nat):Bool:=(JO n h a b n 0).getD false
theorem OL {n:Nat} {h:Nat->Int} {a b:Nat}:∀ d i,n = i+d->(∀ t,t < i->DE n h a t = DE n h b t)->((JO n h a b d i).getD false = true ↔ Jq n h a b)
 | 0,i,hd,hi=>by
  refine ⟨λh1=>(by cases h1),λ⟨s,h1,_,h3⟩=>?_⟩
  rw [hi s (by omega)] at h3
  omega
 | d+1,i,hd,hi=>by
  unfold JO
  by_cases he:h ((a+i) % n) = h ((b+i) % n)
  ·rw [if_pos he]
   refine OL d (i+1) (by omega) λt ht=>?_
   by_cases hti:t = i
   ·rw [hti]; exact he
   ·exact hi t (by omega)
  ·rw [if_neg he]
   refine ⟨λh1=>⟨i,by omega,hi,of_decide_eq_true h1⟩,λ⟨s,h1,h2,h3⟩=>decide_eq_true ?_⟩
   rcases Nat.lt_trichotomy s i with hs | hs | hs
   ·rw [hi s hs] at h3; omega
   ·rw [hs] at h3; exact h3
   ·exact absurd (h2 i hs) he
theorem OM {n:Nat} {h:Nat->Int} {a b:Nat}:Iv n h a b = true ↔ Jq n h a b:=OL n 0 (by omega) λt ht=>absurd ht (Nat.not_lt_zero _)
def V7 (_:Nat) (_:Nat->Int) (_ _:Nat) (v:Bool):Ex × St:=(.rt,⟨(jsV 40 0 (λ_=>.und) [(6,bV v)]),[]⟩)
def Oa (n:Nat) (_:Nat->Int) (_ _:Nat):Lp:=⟨(bmK 40 0 [0,1,2,6,7,8]),0,bmK 40 0 [6],0,n+1⟩
def Ps (n:Nat) (h:Nat->Int) (a b:Nat) (i:Nat) (j:Nat->V):St:=⟨(jsV 40 0 j [(0,.sl 1 n λk=>iV (h k)),(1,nV a),(2,nV b),(6,bV false),(7,nV n),(8,nV i)]),[]⟩
def V8 (_:Nat) (_:Nat->Int) (_ _:Nat) (_:Nat):Ex × St:=(.ex 0,⟨(jsV 40 0 (λ_=>.und) [(6,bV false)]),[]⟩)
noncomputable def IZ (L:LT):St->T (Ex × St):=λst=>AD tab ⟨Ak tb0,L,Gl⟩ (As Tryz.f103 0) 0 st
section
variable (L:LT) (n:Nat) (h:Nat->Int) (a b:Nat) (i:Nat)  (j:Nat->V)
include L n h a b i j
theorem AhA (h0:ilt (ofNat i) (ofNat n) = false):Ag (IZ L) (Oa n h a b) (Ps n h a b i j) = some ((.ex 0),⟨(jsV 40 0 (λ_=>.und) [(6,(bV false))]),[]⟩):=by
 exact Aa (ks:=[kn h0]) (by kernel_rfl)
theorem Ah9 (h0:ilt (ofNat i) (ofNat n) = true) (h1:ieq (ofNat n) 0 = false) (h20:Al (ile 0 (Ae (wr .i64 (Af (ofNat a) (ofNat i))) (ofNat n))) (ilt (Ae (wr .i64 (Af (ofNat a) (ofNat i))) (ofNat n)) (ofNat n)) = true) (h22:Al (ile 0 (Ae (wr .i64 (Af (ofNat b) (ofNat i))) (ofNat n))) (ilt (Ae (wr .i64 (Af (ofNat b) (ofNat i))) (ofNat n)) (ofNat n)) = true) (h2:ieq (h (toN (Ae (wr .i64 (Af (ofNat a) (ofNat i))) (ofNat n)))) (h (toN (Ae (wr .i64 (Af (ofNat b) (ofNat i))) (ofNat n)))) = true):Ag (IZ L) (Oa n h a b) (Ps n h a b i j) = some (.nm,⟨(jsV 40 0 (λ_=>.und) [(0,(.sl 1 n (λk=>(iV (h k))))),(1,(nV a)),(2,(nV b)),(6,(bV false)),(7,(nV n)),(8,(iV (wr .i64 (Af (ofNat i) 1))))]),[]⟩):=by
 exact Aa (ks:=[kn h0,kn h1,kn h20,kn h1,kn h22,kN (kn h2)]) (by kernel_rfl)
theorem Ah8 (h0:ilt (ofNat i) (ofNat n) = true) (h1:ieq (ofNat n) 0 = false) (h20:Al (ile 0 (Ae (wr .i64 (Af (ofNat a) (ofNat i))) (ofNat n))) (ilt (Ae (wr .i64 (Af (ofNat a) (ofNat i))) (ofNat n)) (ofNat n)) = true) (h22:Al (ile 0 (Ae (wr .i64 (Af (ofNat b) (ofNat i))) (ofNat n))) (ilt (Ae (wr .i64 (Af (ofNat b) (ofNat i))) (ofNat n)) (ofNat n)) = true) (h2:ieq (h (toN (Ae (wr .i64 (Af (ofNat a) (ofNat i))) (ofNat n)))) (h (toN (Ae (wr .i64 (Af (ofNat b) (ofNat i))) (ofNat n)))) = false):Ag (IZ L) (Oa n h a b) (Ps n h a b i j) = some (.rt,⟨(jsV 40 0 (λ_=>.und) [(6,(bV (ilt (h (toN (Ae (wr .i64 (Af (ofNat a) (ofNat i))) (ofNat n)))) (h (toN (Ae (wr .i64 (Af (ofNat b) (ofNat i))) (ofNat n)))))))]),[]⟩):=by
 exact Aa (ks:=[kn h0,kn h1,kn h20,kn h1,kn h22,kN (kn h2)]) (by kernel_rfl)
end
def AaI (n:Nat) (h:Nat->Int) (_ _:Nat) :Nat->V:=lkV A7 [(11,(.sl 1 n (λi=>iV (h i)))),(12,(nV n))]
theorem AfK (L:LT) (p0:PT) (n:Nat) (h:Nat->Int) (a b:Nat) (i:Nat)  (hp0:p0 (IZ (onP 0 p0 (V8 n h a b i) L)) (Ps n h a b 0 (AaI n h a b )) = true):(Au (Ah tab ⟨Ak tb0,(onP 0 p0 (V8 n h a b i) L),Gl⟩ Tryz.f103 [E4 n h,nV a,nV b] [])).sem = some ((bV false),[]):=by
 exact Aa (ks:=[kn hp0]) (by kernel_rfl)
theorem AfJ (L:LT) (p0:PT) (n:Nat) (h:Nat->Int) (a b:Nat) (v:Bool)  (hp0:p0 (IZ (onP 0 p0 (V7 n h a b v) L)) (Ps n h a b 0 (AaI n h a b )) = true):(Au (Ah tab ⟨Ak tb0,(onP 0 p0 (V7 n h a b v) L),Gl⟩ Tryz.f103 [E4 n h,nV a,nV b] [])).sem = some ((bV v),[]):=by
 exact Aa (ks:=[kn hp0]) (by kernel_rfl)
theorem AbO (n a i:Nat) (ha:a < n) (hn:n <= 4611686018427387904) (hi:i < n):Ae (wr .i64 (Af (ofNat a) (ofNat i))) (ofNat n) = ofNat ((a+i) % n) ∧ (a+i) % n < n:=by
 rw [Dm (by omega),Cu]
 exact ⟨rfl,Nat.mod_lt _ (by omega)⟩
theorem WS (n a i:Nat) (ha:a < n) (hn:n <= 4611686018427387904) (hi:i < n):Al (ile 0 (Ae (wr .i64 (Af (ofNat a) (ofNat i))) (ofNat n))) (ilt (Ae (wr .i64 (Af (ofNat a) (ofNat i))) (ofNat n)) (ofNat n)) = true:=by
 obtain ⟨e1,l1⟩:=AbO n a i ha hn hi
 rw [e1]
 exact Ap l1
theorem Ae9 (n i:Nat) (hi:i < n):ieq (ofNat n) 0 = false:=by rw [show (0:Int) = ofNat 0 from rfl,Df,decide_eq_false (by omega)]
theorem ZG (L:LT) (n:Nat) (h:Nat->Int) (a b:Nat) (hn:n <= 4611686018427387904) (ha:a < n) (hb:b < n):∀ (d i:Nat) (j:Nat->V) (q:Nat),n = i+d->d < q ->
  (AA (IZ L) (Oa n h a b) q (Ps n h a b i j)).sem = some (match JO n h a b d i with | none=>V8 n h a b 0 | some v=>V7 n h a b v)
 | 0,i,j,q+1,h1,_=>by
  have:n = i:=by omega
  subst this
  exact Ab (AhA L n h a b n j (A9 (Nat.le_refl _)))
 | d+1,i,j,q+1,h1,h2=>by
  have hi:i < n:=by omega
  obtain ⟨e1,l1⟩:=AbO n a i ha hn hi
  obtain ⟨e2,l2⟩:=AbO n b i hb hn hi
  unfold JO
  by_cases he:h ((a+i) % n) = h ((b+i) % n)
  ·have hq:ieq (h (toN (Ae (wr .i64 (Af (ofNat a) (ofNat i))) (ofNat n)))) (h (toN (Ae (wr .i64 (Af (ofNat b) (ofNat i))) (ofNat n)))) = true:=by
    rw [e1,e2]
    show ieq (h ((a+i) % n)) (h ((b+i) % n)) = true
    rw [he]
    exact ML _
   rw [if_pos he,Ab (Ah9 L n h a b i j (ofNat_lt hi) (Ae9 n i hi) (WS n a i ha hn hi) (WS n b i hb hn hi) hq),Aq,An hi hn]
   exact ZG L n h a b hn ha hb d (i+1) (λ_=>.und) q (by omega) (by omega)
  ·have hq:ieq (h (toN (Ae (wr .i64 (Af (ofNat a) (ofNat i))) (ofNat n)))) (h (toN (Ae (wr .i64 (Af (ofNat b) (ofNat i))) (ofNat n)))) = false:=by
    rw [e1,e2]
    show ieq (h ((a+i) % n)) (h ((b+i) % n)) = false
    simp [ieq,he]
   have hr:=Ah8 L n h a b i j (ofNat_lt hi) (Ae9 n i hi) (WS n a i ha hn hi) (WS n b i hb hn hi) hq
   rw [e1,e2] at hr
   rw [if_neg he]
   exact Ab hr
def VS:List V->T (V × List Blk)
 | [v,.val (.int .i64 a),.val (.int .i64 b)]=>apI v λn h=>.br (Dv n) (.br (Al (inN n a) (inN n b)) (out (bV (Iv n h (toN a) (toN b)))) .fail) .fail
 | _=>.fail
theorem YA {a b:Bool} (h:Al a b = true):a = true ∧ b = true:=by simpa [Al] using h
theorem AmU:A6 Tryz.prog Gl 103 VS:=by
 refine Av AI mixed Tryz.func103 (by kernel_rfl) (by kernel_rfl) λvs v h' hh=>?_
 unfold VS at hh
 split at hh
 ·rename_i u a b
  obtain ⟨n,h,hv,h1⟩:=GS hh
  obtain ⟨h8,h2⟩:=Ad h1
  obtain ⟨hab,h3⟩:=Ad h2
  have:=Ac h3
  simp only [Prod.mk.injEq] at this
  obtain ⟨rfl,rfl⟩:=this
  obtain ⟨ha,hb⟩:=YA hab
  obtain ⟨ea,la⟩:=Tf ha
  obtain ⟨eb,lb⟩:=Tf hb
  have hA:Bm [u,iV a,iV b] [E4 n h,iV (ofNat (toN a)),iV (ofNat (toN b))]:=λS w cs q=>by
   rw [<- ea,<- eb]
   obtain ⟨c,l,rfl,q1,q2⟩:=q
   exact ⟨c,l,rfl,hv S w c q1,q2⟩
  have hx:=AK Dn [(0,Oa n h (toN a) (toN b))]
  have hL:=AF [(0,Oa n h (toN a) (toN b))]
  have hr:=λL=>ZG L n h (toN a) (toN b) (CE h8) la lb n 0 (AaI n h (toN a) (toN b)) (n+1) (by omega) (by omega)
  refine ⟨_,AN Gl tb0 [(0,Oa n h (toN a) (toN b))],_,hA,rfl,hx.1,hx.2,?_,A0.refl _⟩
  unfold Iv
  cases hc:JO n h (toN a) (toN b) n 0 with
  | none =>
   rw [hc] at hr
   exact A1 (Ar hL hL) _ (AfK _ _ n h (toN a) (toN b) 0 (Ai (hr _)))
  | some v =>
   rw [hc] at hr
   exact A1 (Ar hL hL) _ (AfJ _ _ n h (toN a) (toN b) v (Ai (hr _)))
 ·cases hh
noncomputable def Wi:List (Nat × (List V->T (V × List Blk))):=(103,VS) :: []
theorem Zp:A8 Tryz.prog Gl Wi:=.cons AmU .nil
def UG (n:Nat) (h:Nat->Int):Nat->Nat->Nat->Nat
 | 0,_,b=>b
 | d+1,i,b=>if Iv n h i b = true then UG n h d (i+1) i else UG n h d (i+1) b
def XN (n:Nat) (h:Nat->Int):Nat:=UG n h (n - 1) 1 0
theorem NA {n:Nat} {h:Nat->Int}:∀ d i b,n = i+d->b < i->(∀ q,q < i->¬ Jq n h q b)->DV n h (UG n h d i b)
 | 0,i,b,hd,hb,hq=>⟨by show b < n; omega,λq hq'=>hq q (by omega)⟩
 | d+1,i,b,hd,hb,hq=>by
  unfold UG
  by_cases ha:Iv n h i b = true
  ·rw [if_pos ha]
   have hl:=OM.1 ha
   refine NA d (i+1) i (by omega) (by omega) λq hq' hlt=>?_
   by_cases hqi:q = i
   ·rw [hqi] at hlt; exact Fe hlt
   ·exact hq q (by omega) (Mz hlt hl)
  ·rw [if_neg ha]
   refine NA d (i+1) b (by omega) (by omega) λq hq' hlt=>?_
   by_cases hqi:q = i
   ·rw [hqi] at hlt; exact ha (OM.2 hlt)
   ·exact hq q (by omega) hlt
theorem ZQ {n:Nat} (h:Nat->Int) (hn:0 < n):DV n h (XN n h):=NA (n - 1) 1 0 (by omega) (by omega) λq hq=>by
 have:q = 0:=by omega
 subst this
 exact Fe
def lp104 (n:Nat) (_:Nat->Int):Lp:=⟨(bmK 17 0 [0,2,3,4]),0,bmK 17 0 [2,3],0,n+1⟩
def st104 (n:Nat) (h:Nat->Int) (b i:Nat) (j:Nat->V):St:=⟨(jsV 17 0 j [(0,.sl 1 n λk=>iV (h k)),(2,iV 0),(3,nV b),(4,nV i)]),[]⟩
def en104e (_:Nat) (_:Nat->Int) (b _:Nat):Ex × St:=(.ex 0,⟨(jsV 17 0 (λ_=>.und) [(2,iV 0),(3,nV b)]),[]⟩)
noncomputable def body104 (L:LT):St->T (Ex × St):=λst=>AD tab ⟨Ak Wi,L,Gl⟩ (As Tryz.f93 0) 0 st
section
variable (L:LT) (n:Nat) (h:Nat->Int) (b i:Nat)  (j:Nat->V)
include L n h b i j
theorem ZR (h0:ilt (ofNat i) (ofNat n) = false):Ag (body104 L) (lp104 n h) (st104 n h b i j) = some ((.ex 0),⟨(jsV 17 0 (λ_=>.und) [(2,(iV 0)),(3,(nV b))]),[]⟩):=by
 exact Aa (ks:=[kn h0]) (by kernel_rfl)
theorem AhE (h0:ilt (ofNat i) (ofNat n) = true) (h18:Dv n = true) (h19:inN n (ofNat i) = true) (h20:inN n (ofNat b) = true) (h1:Iv n h i b = true):Ag (body104 L) (lp104 n h) (st104 n h b i j) = some (.nm,⟨(jsV 17 0 (λ_=>.und) [(0,(.sl 1 n (λk=>(iV (h k))))),(2,(iV 0)),(3,(nV i)),(4,(iV (wr .i64 (Af (ofNat i) 1))))]),[]⟩):=by
 exact Aa (ks:=[kn h0,kL n,kn h18,kA (kn h19) (kn h20),kn h1]) (by kernel_rfl)
theorem AhF (h0:ilt (ofNat i) (ofNat n) = true) (h18:Dv n = true) (h19:inN n (ofNat i) = true) (h20:inN n (ofNat b) = true) (h1:Iv n h i b = false):Ag (body104 L) (lp104 n h) (st104 n h b i j) = some (.nm,⟨(jsV 17 0 (λ_=>.und) [(0,(.sl 1 n (λk=>(iV (h k))))),(2,(iV 0)),(3,(nV b)),(4,(iV (wr .i64 (Af (ofNat i) 1))))]),[]⟩):=by
 exact Aa (ks:=[kn h0,kL n,kn h18,kA (kn h19) (kn h20),kn h1]) (by kernel_rfl)
end
def jk104 (_:Nat) (_:Nat->Int) :Nat->V:=lkV A7 []
theorem Aeh (L:LT) (p0:PT) (n:Nat) (h:Nat->Int) (b i:Nat)  (hp0:p0 (body104 (onP 0 p0 (en104e n h b i) L)) (st104 n h 0 1 (jk104 n h )) = true):(Au (Ah tab ⟨Ak Wi,(onP 0 p0 (en104e n h b i) L),Gl⟩ Tryz.f93 [E4 n h] [])).sem = some ((nV b),[]):=by
 exact Aa (ks:=[kn hp0]) (by kernel_rfl)
theorem run104 (L:LT) (n:Nat) (h:Nat->Int) (h8:Dv n = true):∀ (d i b:Nat) (j:Nat->V) (q:Nat),n = i+d->b < i->d < q ->
  (AA (body104 L) (lp104 n h) q (st104 n h b i j)).sem = some (en104e n h (UG n h d i b) n)
 | 0,i,b,j,q+1,h1,_,_=>by
  have:n = i:=by omega
  subst this
  exact Ab (ZR L n h b n j (A9 (Nat.le_refl _)))
 | d+1,i,b,j,q+1,h1,hb,h2=>by
  have hi:i < n:=by omega
  unfold UG
  cases ha:Iv n h i b with
  | true =>
   rw [if_pos rfl,Ab (AhE L n h b i j (ofNat_lt hi) h8 (MK hi) (MK (by omega)) ha),Aq,An hi (CE h8)]
   exact run104 L n h h8 d (i+1) i (λ_=>.und) q (by omega) (by omega) (by omega)
  | false =>
   rw [if_neg (by decide),Ab (AhF L n h b i j (ofNat_lt hi) h8 (MK hi) (MK (by omega)) ha),Aq,An hi (CE h8)]
   exact run104 L n h h8 d (i+1) b (λ_=>.und) q (by omega) (by omega) (by omega)
def Ae4:List V->T (V × List Blk):=Aea λn h=>.br (Dv n) (out (iV (ofNat (XN n h)))) .fail
theorem p104:A6 Tryz.prog Gl 93 Ae4:=by
 refine Av AI mixed Tryz.func93 (by kernel_rfl) (by kernel_rfl) λvs v h' hh=>?_
 obtain ⟨n,h,hA,h1⟩:=Qo hh
 obtain ⟨h8,h3⟩:=Ad h1
 have:=Ac h3
 simp only [Prod.mk.injEq] at this
 obtain ⟨rfl,rfl⟩:=this
 have hx:=AK Zp [(0,lp104 n h)]
 have hL:=AF [(0,lp104 n h)]
 refine ⟨_,AN Gl Wi [(0,lp104 n h)],_,hA,rfl,hx.1,hx.2,?_,A0.refl _⟩
 unfold XN
 rcases Nat.eq_zero_or_pos n with rfl | hn
 ·exact A1 (Ar hL hL) _ (Aeh _ _ 0 h 0 0 (Ai (Ab (ZR _ 0 h 0 1 (jk104 0 h) (A9 (by omega))))))
 ·exact A1 (Ar hL hL) _ (Aeh _ _ n h _ n (Ai (run104 _ n h h8 (n - 1) 1 0 (jk104 n h) (n+1) (by omega) (by omega) (by omega))))
noncomputable def Pk:List (Nat × (List V->T (V × List Blk))):=(88,BE TC) :: []
theorem Zq:A8 Tryz.prog Gl Pk:=.cons p25 .nil
def en103f (_:Nat) (_:Nat->E6) (k:Nat) (x:Nat->V):Ex × St:=(.rt,⟨(jsV 31 0 (λ_=>.und) [(2,.ref 2),(3,bV false),(4,.ref 1)]),[.row 3 1 0 λ_=>.und,.row 3 1 k x,.row 3 1 0 λ_=>.und]⟩)
def lp103 (n:Nat) (_:Nat->E6):Lp:=⟨(bmK 31 0 [0,2,3,4,5]),2,bmK 31 0 [2,3,4],3,n+1⟩
def st103 (n:Nat) (f:Nat->E6) (i k:Nat) (x:Nat->V) (j:Nat->V):St:=⟨(jsV 31 0 j [(0,.sl 6 n λi=>eV (f i)),(2,.ref 0),(3,bV false),(4,.ref 1),(5,nV i)]),[.row 3 1 0 λ_=>.und,.row 3 1 k x]⟩
def en103e (_:Nat) (_:Nat->E6) (_ k:Nat) (x:Nat->V):Ex × St:=(.ex 0,⟨(jsV 31 0 (λ_=>.und) [(2,.ref 0),(3,bV false),(4,.ref 1)]),[.row 3 1 0 λ_=>.und,.row 3 1 k x]⟩)
noncomputable def body103 (L:LT):St->T (Ex × St):=λst=>AD tab ⟨Ak Pk,L,Gl⟩ (As Tryz.f92 0) 0 st
section
variable (L:LT) (n:Nat) (f:Nat->E6) (i k:Nat) (x:Nat->V)  (j:Nat->V)
include L n f i k x j
theorem AhG (h0:ilt (ofNat i) (ofNat n) = false):Ag (body103 L) (lp103 n f) (st103 n f i k x j) = some ((.ex 0),⟨(jsV 31 0 (λ_=>.und) [(2,(.ref 0)),(3,(bV false)),(4,(.ref 1))]),[r3Z,(.row 3 1 k x)]⟩):=by
 exact Aa (ks:=[kn h0]) (by kernel_rfl)
theorem ZS (h0:ilt (ofNat i) (ofNat n) = true) (h20:ile 0 (ofNat i) = true) (h1:ieq (AQ (f i)) 0 = true) (h21:Bx k 1 8 = true):Ag (body103 L) (lp103 n f) (st103 n f i k x j) = some (.nm,⟨(jsV 31 0 (λ_=>.und) [(0,(.sl 6 n (λi=>(eV (f i))))),(2,(.ref 0)),(3,(bV false)),(4,(.ref 1)),(5,(iV (wr .i64 (Af (ofNat i) 1))))]),[r3Z,(.row 3 1 (Bd k 1) (A2 k x (iV (B2 (f i)))))]⟩):=by
 exact Aa (ks:=[kn h0,kA (kn h20) (kn h0),kN (kn h1),kn h21]) (by kernel_rfl)
theorem ZT (h0:ilt (ofNat i) (ofNat n) = true) (h20:ile 0 (ofNat i) = true) (h1:ieq (AQ (f i)) 0 = false):Ag (body103 L) (lp103 n f) (st103 n f i k x j) = some (.rt,⟨(jsV 31 0 (λ_=>.und) [(2,(.ref 2)),(3,(bV false)),(4,(.ref 1))]),[r3Z,(.row 3 1 k x),r3Z]⟩):=by
 exact Aa (ks:=[kn h0,kA (kn h20) (kn h0),kN (kn h1)]) (by kernel_rfl)
end
def jk103 (_:Nat) (_:Nat->E6) :Nat->V:=lkV A7 []
theorem AfQ (L:LT) (p0:PT) (n:Nat) (f:Nat->E6) (i k:Nat) (x:Nat->V)  (hp0:p0 (body103 (onP 0 p0 (en103e n f i k x) L)) (st103 n f 0 0 (λ_=>.und) (jk103 n f )) = true):(Au (Ah tab ⟨Ak Pk,(onP 0 p0 (en103e n f i k x) L),Gl⟩ Tryz.f92 [A5 n f] [])).sem = some ((.tup [(.ref 0),(bV true)]),[(.row 3 1 k x)]):=by
 exact Aa (ks:=[kn hp0]) (by kernel_rfl)
theorem AfP (L:LT) (p0:PT) (n:Nat) (f:Nat->E6) (k:Nat) (x:Nat->V)  (hp0:p0 (body103 (onP 0 p0 (en103f n f k x) L)) (st103 n f 0 0 (λ_=>.und) (jk103 n f )) = true):(Au (Ah tab ⟨Ak Pk,(onP 0 p0 (en103f n f k x) L),Gl⟩ Tryz.f92 [A5 n f] [])).sem = some ((.tup [(.ref 0),(bV false)]),[r3Z]):=by
 exact Aa (ks:=[kn hp0]) (by kernel_rfl)
theorem Wx (L:LT) (n:Nat) (f:Nat->E6) (hn:Be n = true) (e:Nat) (he:e < n) (hb:AQ (f e) = 30) (ho:∀ t,t < e->AQ (f t) = 0):∀ (d i:Nat) (j:Nat->V) (q:Nat),e = i+d->d < q ->
  (AA (body103 L) (lp103 n f) q (st103 n f i i (BA (cdV f) i) j)).sem = some (en103f n f e (BA (cdV f) e))
 | 0,i,j,q+1,h1,_=>by
  have:e = i:=by omega
  subst this
  exact Ab (ZT L n f e e (BA (cdV f) e) j (ofNat_lt he) (WT e) (by rw [hb]; rfl))
 | d+1,i,j,q+1,h1,h2=>by
  have hi:i < n:=by omega
  have hr:=ZS L n f i i (BA (cdV f) i) j (ofNat_lt hi) (WT i) (by rw [ho i (by omega)]; rfl) (RK hi (by decide) (of_decide_eq_true hn))
  rw [Ab hr,Aq,An hi (IN hn)]
  exact Wx L n f hn e he hb ho d (i+1) (λ_=>.und) q (by omega) (by omega)
theorem run103 (L:LT) (n:Nat) (f:Nat->E6) (hn:Be n = true):∀ (d i:Nat) (j:Nat->V) (q:Nat),n = i+d->d < q->(∀ t,t < i->AQ (f t) = 0) ->
  (BR n f = true ∧ (AA (body103 L) (lp103 n f) q (st103 n f i i (BA (cdV f) i) j)).sem = some (en103e n f n n (BA (cdV f) n))) ∨ (BR n f = false ∧ ∃ e,(AA (body103 L) (lp103 n f) q (st103 n f i i (BA (cdV f) i) j)).sem = some (en103f n f e (BA (cdV f) e)))
 | 0,i,j,q+1,h1,_,ho=>by
  have:n = i:=by omega
  subst this
  exact .inl ⟨Ds.2 ho,Ab (AhG L n f n n _ j (A9 (Nat.le_refl _)))⟩
 | d+1,i,j,q+1,h1,h2,ho=>by
  have hi:i < n:=by omega
  by_cases hc:AQ (f i) = 0
  ·have hr:=ZS L n f i i (BA (cdV f) i) j (ofNat_lt hi) (WT i) (by rw [hc]; rfl) (RK hi (by decide) (of_decide_eq_true hn))
   have ih:=run103 L n f hn d (i+1) (λ_=>.und) q (by omega) (by omega) λt ht=>by
    by_cases hti:t = i
    ·rw [hti]; exact hc
    ·exact ho t (by omega)
   rw [Ab hr,Aq,An hi (IN hn)]
   exact ih
  ·refine .inr ⟨?_,i,Ab (ZT L n f i i (BA (cdV f) i) j (ofNat_lt hi) (WT i) (by simp [ieq,hc]))⟩
   cases hm:BR n f with
   | false=>rfl
   | true=>exact absurd (Ds.1 hm i hi) hc
def Xp:List V->T (V × List Blk):=Gt λn f=>.br (Be n) (.br (BR n f) (.leaf (.tup [.ref 0,bV true],[.row 3 1 n λi=>iV (B2 (f i))])) (.leaf (.tup [.ref 0,bV false],[.row 3 1 0 λ_=>.und]))) .fail
theorem p103:A6 Tryz.prog Gl 92 Xp:=by
 refine Av AI mixed Tryz.func92 (by kernel_rfl) (by kernel_rfl) λvs v h' h=>?_
 obtain ⟨n,f,ha,h⟩:=C2 h
 obtain ⟨hn,h⟩:=Ad h
 have hx:=AK Zq [(0,lp103 n f)]
 have hL:=AF [(0,lp103 n f)]
 have hr:=λL=>run103 L n f hn n 0 (jk103 n f) (n+1) (by omega) (by omega) λt ht=>absurd ht (Nat.not_lt_zero _)
 cases hm:BR n f with
 | true =>
  rw [hm] at h
  have:=Ac h
  simp only [Prod.mk.injEq] at this
  obtain ⟨rfl,rfl⟩:=this
  exact ⟨_,AN Gl Pk [(0,lp103 n f)],_,ha,rfl,hx.1,hx.2,A1 (Ar hL hL) _ (AfQ _ _ n f n n _ (Ai ((hr _).elim (λq=>q.2) λq=>by rw [hm] at q; cases q.1))),A0.one λj hj=>(G5 (cdV f) n j hj).symm⟩
 | false =>
  rw [hm] at h
  have:=Ac h
  simp only [Prod.mk.injEq] at this
  obtain ⟨rfl,rfl⟩:=this
  obtain ⟨e,h1,h2,h3⟩:=UZ hm
  exact ⟨_,AN Gl Pk [(0,lp103 n f)],_,ha,rfl,hx.1,hx.2,A1 (Ar hL hL) _ (AfP _ _ n f e (BA (cdV f) e) (Ai (Wx _ n f hn e h1 h2 h3 e 0 (jk103 n f) (n+1) (by omega) (by omega)))),A0.refl _⟩
noncomputable def Ze:List (Nat × (List V->T (V × List Blk))):=(92,Xp) :: (93,Ae4) :: (5,JT) :: []
theorem Acx:A8 Tryz.prog Gl Ze:=.cons p103 <| .cons p104 <| .cons p69 .nil
section
variable (L:LT) (n:Nat) (f:Nat->E6)
include L n f
theorem Ajg (h19:Be n = true) (h0:BR n f = true) (h20:Dv n = true):(Au (Ah tab ⟨Ak Ze,L,Gl⟩ Tryz.f72 [A5 n f] [])).sem = some ((.tup [(.ref 0),(iV 0)]),[(.row 57 6 n (λi=>(eV (D5 n f (ofNat (XN n (λi=>(B2 (f i))))) i))))]):=by
 exact Aa (ks:=[kL n,kn h19,kn h0,kN kT,kL n,kn h20,kL n,kn h19]) (by kernel_rfl)
theorem Ajh (h19:Be n = true) (h0:BR n f = false):(Au (Ah tab ⟨Ak Ze,L,Gl⟩ Tryz.f72 [A5 n f] [])).sem = some ((.tup [(.ref 0),(iV 30)]),[(.row 57 6 0 (λ_=>.und))]):=by
 exact Aa (ks:=[kL n,kn h19,kn h0,kN kF]) (by kernel_rfl)
end
def W3:List V->T (V × List Blk):=Gt λn f=>.br (Be n) (.br (BR n f) (.leaf (.tup [.ref 0,iV 0],[.row 57 6 n λi=>eV (D5 n f (ofNat (XN n λk=>B2 (f k))) i)])) (.leaf (.tup [.ref 0,iV 30],[.row 57 6 0 λ_=>.und]))) .fail
theorem p66:A6 Tryz.prog Gl 72 W3:=by
 refine Av AI mixed Tryz.func72 (by kernel_rfl) (by kernel_rfl) λvs v h' h=>?_
 obtain ⟨n,f,ha,h⟩:=C2 h
 obtain ⟨hn,h⟩:=Ad h
 have hx:=AK Acx []
 cases hm:BR n f with
 | true =>
  rw [hm] at h
  have:=Ac h
  simp only [Prod.mk.injEq] at this
  obtain ⟨rfl,rfl⟩:=this
  exact ⟨_,AN Gl Ze [],_,ha,rfl,hx.1,hx.2,Ajg _ n f hn hm (EP hn),A0.refl _⟩
 | false =>
  rw [hm] at h
  have:=Ac h
  simp only [Prod.mk.injEq] at this
  obtain ⟨rfl,rfl⟩:=this
  exact ⟨_,AN Gl Ze [],_,ha,rfl,hx.1,hx.2,Ajh _ n f hn hm,A0.refl _⟩
theorem GZ {n:Nat} {h g:Nat->Int} (hg:∀ i,i < n->g i = h i) (p i:Nat) (hn:0 < n):DE n g p i = DE n h p i:=hg _ (Nat.mod_lt _ hn)
theorem SZ {n:Nat} {h g:Nat->Int} (hg:∀ i,i < n->g i = h i) {p:Nat} (hp:DV n g p):DV n h p:=by
 have hn:0 < n:=by have:=hp.1; omega
 refine ⟨hp.1,λq hq hl=>hp.2 q hq ?_⟩
 obtain ⟨s,h1,h2,h3⟩:=hl
 exact ⟨s,h1,λt ht=>by rw [GZ hg _ _ hn,GZ hg _ _ hn]; exact h2 t ht,by rw [GZ hg _ _ hn,GZ hg _ _ hn]; exact h3⟩
theorem RD {n:Nat} {f l:Nat->E6} (hm:BR n f = true) (hl:∀ i,i < n->l i = f i):∀ i,i < n->Bc n l i = D5 n f (ofNat (XN n λk=>B2 (f k))) i:=λi hi=>by
 have hn:0 < n:=by omega
 have h1:DV n (λk=>B2 (f k)) (Co n λk=>B2 (l k)):=SZ (g:=λk=>B2 (l k)) (λt ht=>by show B2 (l t) = B2 (f t); rw [hl t ht]) (J8 n _ hn)
 have h2:=ZQ (λk=>B2 (f k)) hn
 have h3:=SY h1 h2 i hi
 unfold Bc D5
 rw [X1 h2.1,hl _ (Nat.mod_lt _ hn)]
 exact Xt (Ds.1 hm _ (Nat.mod_lt _ hn)) (Ds.1 hm _ (Nat.mod_lt _ hn)) h3
end Go.Proofs.YthlojajaenfidaaGreatDoor.Ed
namespace Go.Proofs.YthlojajaenfidaaGreatDoor.Sh
open Go.Sy Ed
structure Cod (α:Type) where
 size:Nat
 enc:α->V
 ok:V->Bool
 ed:V->α
 law:∀ v,ok v = true->∀ (S:Nat->Prop) (w:World) (c:Value),VR S w v noK c->VR S w (enc (ed v)) noK c
def Vm (s:Nat):V->Option (Nat × (Nat->V))
 | .sl s' n g=>match Nat.beq s' s with
  | true=>some (n,g)
  | false=>match n with
   | 0=>some (0,g)
   | _=>none
 | .slr s' n _ g=>match Nat.beq s' s with
  | true=>some (n,g)
  | false=>none
 | .nilS=>some (0,λ_=>.und)
 | _=>none
theorem Om {s:Nat} {v:V} {n:Nat} {g:Nat->V} (hg:Vm s v = some (n,g)) {e:Nat->V} (he:∀ i,i < n->∀ (S:Nat->Prop) (w:World) (c:Value),VR S w (g i) noK c->VR S w (e i) noK c)
  {S:Nat->Prop} {w:World} {c:Value} (hv:VR S w v noK c):VR S w (.sl s n e) noK c:=by
 unfold Vm at hg
 split at hg
 ·rename_i s' n' g'
  split at hg
  ·rename_i hs
   simp only [Option.some.injEq,Prod.mk.injEq] at hg
   obtain ⟨rfl,rfl⟩:=hg
   have hs:s' = s:=Nat.eq_of_beq_eq_true hs
   subst hs
   obtain ⟨a,cap,ea,hc,hb⟩:=hv
   refine ⟨a,cap,ea,hc,hb.imp id ?_⟩
   rintro ⟨b,o,eb,hel⟩
   refine ⟨b,o,eb,λi hi=>?_⟩
   obtain ⟨ci,h1,h2⟩:=hel i hi
   exact ⟨ci,he i hi S w ci h1,h2⟩
  ·split at hg
   ·simp only [Option.some.injEq,Prod.mk.injEq] at hg
    obtain ⟨rfl,rfl⟩:=hg
    obtain ⟨a,cap,ea,hc,_⟩:=hv
    exact ⟨a,cap,ea,hc,.inl rfl⟩
   ·cases hg
 ·rename_i s' n' m' g'
  split at hg
  ·rename_i hs
   simp only [Option.some.injEq,Prod.mk.injEq] at hg
   obtain ⟨rfl,rfl⟩:=hg
   have hs:s' = s:=Nat.eq_of_beq_eq_true hs
   subst hs
   obtain ⟨a,cap,ea,hc,hm,hb⟩:=hv
   refine ⟨a,cap,ea,Nat.le_trans hc hm,?_⟩
   rcases hb with h0 | ⟨b,o,eb,hel⟩
   ·exact .inl (by omega)
   ·refine .inr ⟨b,o,eb,λi hi=>?_⟩
    obtain ⟨ci,h1,h2⟩:=hel i (by omega)
    exact ⟨ci,he i hi S w ci h1,h2⟩
  ·cases hg
 ·simp only [Option.some.injEq,Prod.mk.injEq] at hg
  obtain ⟨rfl,rfl⟩:=hg
  have hv:c = .slice none 0 0:=hv
  exact ⟨none,0,hv,Nat.le_refl _,.inl rfl⟩
 ·cases hg
def apG {α β:Type} (c:Cod α) (v:V) (F:Nat->(Nat->α)->T β):T β :=
 match Vm c.size v with
 | some (n,g)=>.br (AJ n λi=>c.ok (g i)) (F n λi=>c.ed (g i)) .fail
 | none=>.fail
def NQ {α:Type} (c:Cod α) (n:Nat) (f:Nat->α):V:=.sl c.size n λi=>c.enc (f i)
theorem B7 {α β:Type} {c:Cod α} {v:V} {F:Nat->(Nat->α)->T β} {r:β} (h:(apG c v F).sem = some r) :
  ∃ n f,(∀ (S:Nat->Prop) (w:World) (u:Value),VR S w v noK u->VR S w (NQ c n f) noK u) ∧ (F n f).sem = some r:=by
 unfold apG at h
 split at h
 ·rename_i n g hg
  obtain ⟨h1,h2⟩:=Ad h
  have h1:=A4.1 h1
  exact ⟨n,_,λS w u hv=>Om hg (λi hi S w cc hc=>c.law _ (h1 i hi) S w cc hc) hv,h2⟩
 ·cases h
def Y1:Cod E6:=⟨6,eV,okE,edE,λv h S w c hv=>by rw [<- NL h]; exact hv⟩
def TD:Cod Int:=⟨1,iV,okI,edI,λv h S w c hv=>by rw [<- NK h]; exact hv⟩
def toX:V->Option Ev5
 | .agg [.val (.int .i64 a),.val (.int .i64 b),.val (.int .i64 c),.val (.int .i64 d),.val (.int .i64 e)]=>some ⟨a,b,c,d,e⟩
 | _=>none
theorem YU {v:V} {e:Ev5} (h:toX v = some e):v = evV e:=by
 unfold toX at h
 split at h
 ·simp only [Option.some.injEq] at h
  subst h
  rfl
 ·cases h
def okX (v:V):Bool:=match toX v with
 | some _=>true
 | none=>false
def edX (v:V):Ev5:=match toX v with
 | some e=>e
 | none=>⟨0,0,0,0,0⟩
theorem Aaj {v:V} (h:okX v = true):v = evV (edX v):=by
 unfold okX at h
 unfold edX
 split at h
 ·rename_i e he
  exact YU he
 ·cases h
def Y0:Cod Ev5:=⟨5,evV,okX,edX,λv h S w c hv=>by rw [<- Aaj h]; exact hv⟩
def okJ (v:V):Bool:=match Vm 1 v with
 | some (n,g)=>AJ n λi=>okI (g i)
 | none=>false
def edJ (v:V):Nat × (Nat->Int):=match Vm 1 v with
 | some (n,g)=>(n,λi=>edI (g i))
 | none=>(0,λ_=>0)
def AdU:Cod (Nat × (Nat->Int)):=⟨1,λp=>.sl 1 p.1 λi=>iV (p.2 i),okJ,edJ,λv h S w c hv=>by
 unfold okJ at h
 unfold edJ
 split at h
 ·rename_i n g hg
  have h:=A4.1 h
  exact Om hg (λi hi S w cc hc=>by rw [<- NK (h i hi)]; exact hc) hv
 ·cases h⟩
structure Sh7 where
 arch:Int
 ne:Nat
 E:Nat->E6
 nx:Nat
 X:Nat->Ev5
 tt:Int
 kk:Int
 nr:Nat
 R:Nat->Int
 nc:Nat
 C:Nat->Nat × (Nat->Int)
def Amx (s:Sh7):V:=.agg [iV s.arch,NQ Y1 s.ne s.E,NQ Y0 s.nx s.X,iV s.tt,iV s.kk,NQ TD s.nr s.R,NQ AdU s.nc s.C]
def apS {β:Type} (v:V) (F:Sh7->T β):T β :=
 match v with
 | .agg [.val (.int .i64 a),e,x,.val (.int .i64 t),.val (.int .i64 k),r,c]=>apG Y1 e λne E=>apG Y0 x λnx X=>apG TD r λnr R=>apG AdU c λnc C=>F ⟨a,ne,E,nx,X,t,k,nr,R,nc,C⟩
 | _=>.fail
theorem apS_some {β:Type} {v:V} {F:Sh7->T β} {r:β} (h:(apS v F).sem = some r) :
  ∃ s,(∀ (S:Nat->Prop) (w:World) (u:Value),VR S w v noK u->VR S w (Amx s) noK u) ∧ (F s).sem = some r:=by
 unfold apS at h
 split at h
 ·obtain ⟨ne,E,h1,h⟩:=B7 h
  obtain ⟨nx,X,h2,h⟩:=B7 h
  obtain ⟨nr,R,h3,h⟩:=B7 h
  obtain ⟨nc,C,h4,h⟩:=B7 h
  refine ⟨_,λS w u hv=>?_,h⟩
  obtain ⟨ca,rfl,a1,l1,rfl,q1,a2,l2,rfl,q2,a3,l3,rfl,q3,a4,l4,rfl,q4,a5,l5,rfl,q5,a6,l6,rfl,q6,a7,l7,rfl,q7,q8⟩:=hv
  exact ⟨_,rfl,a1,_,rfl,q1,a2,_,rfl,h1 S w _ q2,a3,_,rfl,h2 S w _ q3,a4,_,rfl,q4,a5,_,rfl,q5,a6,_,rfl,h3 S w _ q6,a7,_,rfl,h4 S w _ q7,q8⟩
 ·cases h
theorem XT {P:Program} {G:Nat->V} {f:FuncId} {F F':List V->T (V × List Blk)} (h:A6 P G f F) (hF:∀ vs v h',(F' vs).sem = some (v,h')->∃ h'',(F vs).sem = some (v,h'') ∧ A0 h'' h'):A6 P G f F':=by
 refine ⟨h.1,λvs cs S w v h' h1 h2 h3 h4=>?_⟩
 obtain ⟨h'',h5,h6⟩:=hF vs v h' h4
 obtain ⟨hr,hc⟩:=h.2 vs cs S w v h'' h1 h2 h3 h5
 refine ⟨h6.rows hr,hc.mono ?_⟩
 rintro e w' ⟨u,κ',S',rfl,g1,g2,g3⟩
 obtain ⟨p1,p2⟩:=h6.good g1
 refine ⟨u,κ',S',rfl,p1,g2,Ext.ofNil g3.os g3.tape g3.output g3.size g3.keep (λi b hb=>?_) g3.sub g3.sup (h6.rows hr)⟩
 rw [p2] at hb
 exact g3.own i b hb
theorem p93:A6 Tryz.prog Gl 72 LX:=by
 refine XT p66 λvs v h' h=>?_
 unfold LX at h
 unfold W3
 unfold Gt at h ⊢
 split at h
 ·rename_i u
  unfold apL at h ⊢
  split at h
  ·rename_i n g hg
   obtain ⟨h1,h2⟩:=Ad h
   obtain ⟨h3,h4⟩:=Ad h2
   rw [h1]
   dsimp only
   rw [h3]
   cases hm:BR n (λi=>edE (g i)) with
   | false =>
    rw [hm] at h4
    exact ⟨h',h4,A0.refl _⟩
   | true =>
    rw [hm] at h4
    have:=Ac h4
    simp only [Prod.mk.injEq] at this
    obtain ⟨rfl,rfl⟩:=this
    refine ⟨_,rfl,A0.one λi hi=>?_⟩
    rw [RD hm (λ_ _=>rfl) i hi]
  ·cases h
 ·cases h
abbrev shL (a:Int) (n:Nat) (g:Nat->E6) (m:Nat) (x:Nat->Ev5) (t k:Int) (p:Nat) (r:Nat->Int) (q:Nat) (ln:Nat->Nat) (co:Nat->Nat->Int):List V:=[iV a,.sl 6 n (λi=>eV (g i)),.sl 5 m (λi=>evV (x i)),iV t,iV k,.sl 1 p (λi=>iV (r i)),.sl 1 q (λu=>.sl 1 (ln u) (λi=>iV (co u i)))]
end Go.Proofs.YthlojajaenfidaaGreatDoor.Sh
