/-
  The least turned list the document's way; the law CycleTurned as a function. No conditions.
-/
import Derived.Test.YtjhnfomefcngfaaCyZ
import Derived.Test.YtjhnfomefcngfaaCyUa
import Derived.Test.YtjhnfomefcngfaaShD
namespace Go.Proofs.Ytjhnfomefcngfaa.Ed
open Go.Sy Go
open Int (ofNat)
def inN (n:Nat) (a:Int):Bool:=Af (ile 0 a) (ilt a (ofNat n))
theorem Mu {n a:Nat} (h:a < n):inN n (ofNat a) = true:=Ay h
theorem Sg {n:Nat} {a:Int} (h:inN n a = true):a = ofNat (toN a) ∧ toN a < n:=by
  simp only [inN,Af,ile,ilt,Bool.and_eq_true,decide_eq_true_eq,Int.ofNat_eq_natCast] at h
  simp only [toN,Int.ofNat_eq_natCast]
  omega
def JK (n:Nat) (h:Nat->Int) (a b:Nat):Nat->Nat->Option Bool
  | 0,_=>none
  | d+1,i=>if h ((a+i) % n) = h ((b+i) % n) then JK n h a b d (i+1) else some (decide (h ((a+i) % n) < h ((b+i) % n)))
def Gw (n:Nat) (h:Nat->Int) (a b:Nat):Bool:=(JK n h a b n 0).getD false
theorem Ou {n:Nat} {h:Nat->Int} {a b:Nat}:∀ d i,n = i+d->(∀ t,t < i->DM n h a t = DM n h b t)->((JK n h a b d i).getD false = true ↔ Jx n h a b)
  | 0,i,hd,hi=>by
    refine ⟨fun h1=>(by cases h1),fun ⟨s,h1,_,h3⟩=>?_⟩
    rw [hi s (by omega)] at h3
    omega
  | d+1,i,hd,hi=>by
    unfold JK
    by_cases he:h ((a+i) % n) = h ((b+i) % n)
    · rw [if_pos he]
      refine Ou d (i+1) (by omega) fun t ht=>?_
      by_cases hti:t = i
      · rw [hti]; exact he
      · exact hi t (by omega)
    · rw [if_neg he]
      refine ⟨fun h1=>⟨i,by omega,hi,of_decide_eq_true h1⟩,fun ⟨s,h1,h2,h3⟩=>decide_eq_true ?_⟩
      rcases Nat.lt_trichotomy s i with hs | hs | hs
      · rw [hi s hs] at h3; omega
      · rw [hs] at h3; exact h3
      · exact absurd (h2 i hs) he
theorem Ov {n:Nat} {h:Nat->Int} {a b:Nat}:Gw n h a b = true ↔ Jx n h a b:=Ou n 0 (by omega) fun t ht=>absurd ht (Nat.not_lt_zero _)
def QH (n:Nat) (h:Nat->Int) (a b:Nat) (v:Bool):Ex × St:=(.rt,⟨(jsV 40 0 (fun _=>.und) [(6,bV v)]),[]⟩)
def N7 (n:Nat) (h:Nat->Int) (a b:Nat):Lp:=⟨(bmK 40 0 [0,1,2,6,7,8]),0,bmK 40 0 [6],0,n+1⟩
def LG (n:Nat) (h:Nat->Int) (a b:Nat) (i:Nat) (j:Nat->V):St:=⟨(jsV 40 0 j [(0,.sl 1 n fun k=>iV (h k)),(1,nV a),(2,nV b),(6,bV false),(7,nV n),(8,nV i)]),[]⟩
def QI (n:Nat) (h:Nat->Int) (a b:Nat) (i:Nat):Ex × St:=(.ex 0,⟨(jsV 40 0 (fun _=>.und) [(6,bV false)]),[]⟩)
noncomputable def Gf (L:LT):St->T (Ex × St):=fun st=>A9 tab ⟨Ao tb0,L,Gl⟩ (Av Try.f120 0) 0 st
section
variable (L:LT) (n:Nat) (h:Nat->Int) (a b:Nat) (i:Nat)  (j:Nat->V)
include L n h a b i j
theorem Afn (h0:ilt (ofNat i) (ofNat n) = false):Ai (Gf L) (N7 n h a b) (LG n h a b i j) = some ((.ex 0),⟨(jsV 40 0 (fun _=>.und) [(6,(bV false))]),[]⟩):=Aa [false] [ilt (ofNat i) (ofNat n)] (by kernel_rfl) (by simp only [h0] <;> rfl)
theorem Afm (h0:ilt (ofNat i) (ofNat n) = true) (h1:ieq (ofNat n) 0 = false) (h20:Af (ile 0 (Ad (wr .i64 (Ae (ofNat a) (ofNat i))) (ofNat n))) (ilt (Ad (wr .i64 (Ae (ofNat a) (ofNat i))) (ofNat n)) (ofNat n)) = true) (h22:Af (ile 0 (Ad (wr .i64 (Ae (ofNat b) (ofNat i))) (ofNat n))) (ilt (Ad (wr .i64 (Ae (ofNat b) (ofNat i))) (ofNat n)) (ofNat n)) = true) (h2:ieq (h (toN (Ad (wr .i64 (Ae (ofNat a) (ofNat i))) (ofNat n)))) (h (toN (Ad (wr .i64 (Ae (ofNat b) (ofNat i))) (ofNat n)))) = true):Ai (Gf L) (N7 n h a b) (LG n h a b i j) = some (.nm,⟨(jsV 40 0 (fun _=>.und) [(0,(.sl 1 n (fun k=>iV (h k)))),(1,(nV a)),(2,(nV b)),(6,(bV false)),(7,(nV n)),(8,(iV (wr .i64 (Ae (ofNat i) 1))))]),[]⟩):=Aa (bbK 6 21) [ilt (ofNat i) (ofNat n),ieq (ofNat n) 0,Af (ile 0 (Ad (wr .i64 (Ae (ofNat a) (ofNat i))) (ofNat n))) (ilt (Ad (wr .i64 (Ae (ofNat a) (ofNat i))) (ofNat n)) (ofNat n)),ieq (ofNat n) 0,Af (ile 0 (Ad (wr .i64 (Ae (ofNat b) (ofNat i))) (ofNat n))) (ilt (Ad (wr .i64 (Ae (ofNat b) (ofNat i))) (ofNat n)) (ofNat n)),Am (ieq (h (toN (Ad (wr .i64 (Ae (ofNat a) (ofNat i))) (ofNat n)))) (h (toN (Ad (wr .i64 (Ae (ofNat b) (ofNat i))) (ofNat n)))))] (by kernel_rfl) (by simp only [h20,h22] <;> simp only [*] <;> rfl)
theorem Afl (h0:ilt (ofNat i) (ofNat n) = true) (h1:ieq (ofNat n) 0 = false) (h20:Af (ile 0 (Ad (wr .i64 (Ae (ofNat a) (ofNat i))) (ofNat n))) (ilt (Ad (wr .i64 (Ae (ofNat a) (ofNat i))) (ofNat n)) (ofNat n)) = true) (h22:Af (ile 0 (Ad (wr .i64 (Ae (ofNat b) (ofNat i))) (ofNat n))) (ilt (Ad (wr .i64 (Ae (ofNat b) (ofNat i))) (ofNat n)) (ofNat n)) = true) (h2:ieq (h (toN (Ad (wr .i64 (Ae (ofNat a) (ofNat i))) (ofNat n)))) (h (toN (Ad (wr .i64 (Ae (ofNat b) (ofNat i))) (ofNat n)))) = false):Ai (Gf L) (N7 n h a b) (LG n h a b i j) = some (.rt,⟨(jsV 40 0 (fun _=>.und) [(6,(bV (ilt (h (toN (Ad (wr .i64 (Ae (ofNat a) (ofNat i))) (ofNat n)))) (h (toN (Ad (wr .i64 (Ae (ofNat b) (ofNat i))) (ofNat n)))))))]),[]⟩):=Aa (bbK 6 53) [ilt (ofNat i) (ofNat n),ieq (ofNat n) 0,Af (ile 0 (Ad (wr .i64 (Ae (ofNat a) (ofNat i))) (ofNat n))) (ilt (Ad (wr .i64 (Ae (ofNat a) (ofNat i))) (ofNat n)) (ofNat n)),ieq (ofNat n) 0,Af (ile 0 (Ad (wr .i64 (Ae (ofNat b) (ofNat i))) (ofNat n))) (ilt (Ad (wr .i64 (Ae (ofNat b) (ofNat i))) (ofNat n)) (ofNat n)),Am (ieq (h (toN (Ad (wr .i64 (Ae (ofNat a) (ofNat i))) (ofNat n)))) (h (toN (Ad (wr .i64 (Ae (ofNat b) (ofNat i))) (ofNat n)))))] (by kernel_rfl) (by simp only [h20,h22] <;> simp only [*] <;> rfl)
end
def RX (n:Nat) (h:Nat->Int) (a b:Nat) :Nat->V:=lkV A7 [(11,(.sl 1 n (fun i=>iV (h i)))),(12,(nV n))]
theorem Adt (L:LT) (p0:PT) (n:Nat) (h:Nat->Int) (a b:Nat) (i:Nat)  (hp0:p0 (Gf (onP 0 p0 (QI n h a b i) L)) (LG n h a b 0 (RX n h a b )) = true):(A1 (Al tab ⟨Ao tb0,onP 0 p0 (QI n h a b i) L,Gl⟩ Try.f120 [DW n h,nV a,nV b] [])).sem = some ((bV false),[]):=Aa [true] [p0 (Gf (onP 0 p0 (QI n h a b i) L)) (LG n h a b 0 (RX n h a b ))] (by kernel_rfl) (by simp only [hp0] <;> rfl)
theorem Ads (L:LT) (p0:PT) (n:Nat) (h:Nat->Int) (a b:Nat) (v:Bool)  (hp0:p0 (Gf (onP 0 p0 (QH n h a b v) L)) (LG n h a b 0 (RX n h a b )) = true):(A1 (Al tab ⟨Ao tb0,onP 0 p0 (QH n h a b v) L,Gl⟩ Try.f120 [DW n h,nV a,nV b] [])).sem = some ((bV v),[]):=Aa [true] [p0 (Gf (onP 0 p0 (QH n h a b v) L)) (LG n h a b 0 (RX n h a b ))] (by kernel_rfl) (by simp only [hp0] <;> rfl)
theorem ZP (n a i:Nat) (ha:a < n) (hn:n <= 4611686018427387904) (hi:i < n):Ad (wr .i64 (Ae (ofNat a) (ofNat i))) (ofNat n) = ofNat ((a+i) % n) ∧ (a+i) % n < n:=by
  rw [D3 (by omega),Cy]
  exact ⟨rfl,Nat.mod_lt _ (by omega)⟩
theorem Vx (n a i:Nat) (ha:a < n) (hn:n <= 4611686018427387904) (hi:i < n):Af (ile 0 (Ad (wr .i64 (Ae (ofNat a) (ofNat i))) (ofNat n))) (ilt (Ad (wr .i64 (Ae (ofNat a) (ofNat i))) (ofNat n)) (ofNat n)) = true:=by
  obtain ⟨e1,l1⟩:=ZP n a i ha hn hi
  rw [e1]
  exact Ay l1
theorem Acr (n i:Nat) (hi:i < n):ieq (ofNat n) 0 = false:=by rw [show (0:Int) = ofNat 0 from rfl,Dl,decide_eq_false (by omega)]
theorem Yf (L:LT) (n:Nat) (h:Nat->Int) (a b:Nat) (hn:n <= 4611686018427387904) (ha:a < n) (hb:b < n):∀ (d i:Nat) (j:Nat->V) (q:Nat),n = i+d->d < q ->
    (A3 (Gf L) (N7 n h a b) q (LG n h a b i j)).sem = some (match JK n h a b d i with | none=>QI n h a b 0 | some v=>QH n h a b v)
  | 0,i,j,q+1,h1,_=>by
    have:n = i:=by omega
    subst this
    exact Ab (Afn L n h a b n j (A8 (Nat.le_refl _)))
  | d+1,i,j,q+1,h1,h2=>by
    have hi:i < n:=by omega
    obtain ⟨e1,l1⟩:=ZP n a i ha hn hi
    obtain ⟨e2,l2⟩:=ZP n b i hb hn hi
    unfold JK
    by_cases he:h ((a+i) % n) = h ((b+i) % n)
    · have hq:ieq (h (toN (Ad (wr .i64 (Ae (ofNat a) (ofNat i))) (ofNat n)))) (h (toN (Ad (wr .i64 (Ae (ofNat b) (ofNat i))) (ofNat n)))) = true:=by
        rw [e1,e2]
        show ieq (h ((a+i) % n)) (h ((b+i) % n)) = true
        rw [he]
        exact IV _
      rw [if_pos he,Ab (Afm L n h a b i j (ofNat_lt hi) (Acr n i hi) (Vx n a i ha hn hi) (Vx n b i hb hn hi) hq),Aw,Aq hi hn]
      exact Yf L n h a b hn ha hb d (i+1) (fun _=>.und) q (by omega) (by omega)
    · have hq:ieq (h (toN (Ad (wr .i64 (Ae (ofNat a) (ofNat i))) (ofNat n)))) (h (toN (Ad (wr .i64 (Ae (ofNat b) (ofNat i))) (ofNat n)))) = false:=by
        rw [e1,e2]
        show ieq (h ((a+i) % n)) (h ((b+i) % n)) = false
        simp [ieq,he]
      have hr:=Afl L n h a b i j (ofNat_lt hi) (Acr n i hi) (Vx n a i ha hn hi) (Vx n b i hb hn hi) hq
      rw [e1,e2] at hr
      rw [if_neg he]
      exact Ab hr
def Uv:List V->T (V × List Blk)
  | [v,.val (.int .i64 a),.val (.int .i64 b)]=>apI v fun n h=>.br (Ca n) (.br (Af (inN n a) (inN n b)) (out (bV (Gw n h (toN a) (toN b)))) .fail) .fail
  | _=>.fail
theorem WY {a b:Bool} (h:Af a b = true):a = true ∧ b = true:=by simpa [Af] using h
theorem Akj:AD Try.prog Gl 120 Uv:=by
  refine A5 AO AP Try.func120 (by kernel_rfl) (by kernel_rfl) fun vs v h' hh=>?_
  unfold Uv at hh
  split at hh
  · rename_i u a b
    obtain ⟨n,h,hv,h1⟩:=FA hh
    obtain ⟨h8,h2⟩:=Ag h1
    obtain ⟨hab,h3⟩:=Ag h2
    have:=Ac h3
    simp only [Prod.mk.injEq] at this
    obtain ⟨rfl,rfl⟩:=this
    obtain ⟨ha,hb⟩:=WY hab
    obtain ⟨ea,la⟩:=Sg ha
    obtain ⟨eb,lb⟩:=Sg hb
    have hA:BA [u,iV a,iV b] [DW n h,iV (ofNat (toN a)),iV (ofNat (toN b))]:=fun S w cs q=>by
      rw [<- ea,<- eb]
      obtain ⟨c,l,rfl,q1,q2⟩:=q
      exact ⟨c,l,rfl,hv S w c q1,q2⟩
    have hx:=AQ CU [(0,N7 n h (toN a) (toN b))]
    have hL:=AC [(0,N7 n h (toN a) (toN b))]
    have hr:=fun L=>Yf L n h (toN a) (toN b) (CE h8) la lb n 0 (RX n h (toN a) (toN b)) (n+1) (by omega) (by omega)
    refine ⟨_,AR Gl tb0 [(0,N7 n h (toN a) (toN b))],_,hA,rfl,hx.1,hx.2,?_,AB.refl _⟩
    unfold Gw
    cases hc:JK n h (toN a) (toN b) n 0 with
    | none =>
      rw [hc] at hr
      exact A6 (Ax hL hL) _ (Adt _ _ n h (toN a) (toN b) 0 (Ak (hr _)))
    | some v =>
      rw [hc] at hr
      exact A6 (Ax hL hL) _ (Ads _ _ n h (toN a) (toN b) v (Ak (hr _)))
  · cases hh
noncomputable def U9:List (Nat × (List V->T (V × List Blk))):=(120,Uv) :: []
theorem X4:AF Try.prog Gl U9:=.cons Akj .nil
def TC (n:Nat) (h:Nat->Int):Nat->Nat->Nat->Nat
  | 0,_,b=>b
  | d+1,i,b=>if Gw n h i b = true then TC n h d (i+1) i else TC n h d (i+1) b
def Ws (n:Nat) (h:Nat->Int):Nat:=TC n h (n - 1) 1 0
theorem MZ {n:Nat} {h:Nat->Int}:∀ d i b,n = i+d->b < i->(∀ q,q < i->¬ Jx n h q b)->Ef n h (TC n h d i b)
  | 0,i,b,hd,hb,hq=>⟨by show b < n; omega,fun q hq'=>hq q (by omega)⟩
  | d+1,i,b,hd,hb,hq=>by
    unfold TC
    by_cases ha:Gw n h i b = true
    · rw [if_pos ha]
      have hl:=Ov.1 ha
      refine MZ d (i+1) i (by omega) (by omega) fun q hq' hlt=>?_
      by_cases hqi:q = i
      · rw [hqi] at hlt; exact Fh hlt
      · exact hq q (by omega) (LV hlt hl)
    · rw [if_neg ha]
      refine MZ d (i+1) b (by omega) (by omega) fun q hq' hlt=>?_
      by_cases hqi:q = i
      · rw [hqi] at hlt; exact ha (Ov.2 hlt)
      · exact hq q (by omega) hlt
theorem Ym {n:Nat} (h:Nat->Int) (hn:0 < n):Ef n h (Ws n h):=MZ (n - 1) 1 0 (by omega) (by omega) fun q hq=>by
  have:q = 0:=by omega
  subst this
  exact Fh
def lp104 (n:Nat) (h:Nat->Int):Lp:=⟨(bmK 17 0 [0,2,3,4]),0,bmK 17 0 [2,3],0,n+1⟩
def st104 (n:Nat) (h:Nat->Int) (b i:Nat) (j:Nat->V):St:=⟨(jsV 17 0 j [(0,.sl 1 n fun k=>iV (h k)),(2,iV 0),(3,nV b),(4,nV i)]),[]⟩
def en104e (n:Nat) (h:Nat->Int) (b i:Nat):Ex × St:=(.ex 0,⟨(jsV 17 0 (fun _=>.und) [(2,iV 0),(3,nV b)]),[]⟩)
noncomputable def body104 (L:LT):St->T (Ex × St):=fun st=>A9 tab ⟨Ao U9,L,Gl⟩ (Av Try.f113 0) 0 st
section
variable (L:LT) (n:Nat) (h:Nat->Int) (b i:Nat)  (j:Nat->V)
include L n h b i j
theorem Yn (h0:ilt (ofNat i) (ofNat n) = false):Ai (body104 L) (lp104 n h) (st104 n h b i j) = some ((.ex 0),⟨(jsV 17 0 (fun _=>.und) [(2,(iV 0)),(3,(nV b))]),[]⟩):=Aa [false] [ilt (ofNat i) (ofNat n)] (by kernel_rfl) (by simp only [h0] <;> rfl)
theorem Afr (h0:ilt (ofNat i) (ofNat n) = true) (h18:Ca n = true) (h19:inN n (ofNat i) = true) (h20:inN n (ofNat b) = true) (h1:Gw n h i b = true):Ai (body104 L) (lp104 n h) (st104 n h b i j) = some (.nm,⟨(jsV 17 0 (fun _=>.und) [(0,(.sl 1 n (fun k=>iV (h k)))),(2,(iV 0)),(3,(nV i)),(4,(iV (wr .i64 (Ae (ofNat i) 1))))]),[]⟩):=Aa [true,true,true,true,true] [ilt (ofNat i) (ofNat n),An n (fun _=>true),Ca n,Af (inN n (ofNat i)) (inN n (ofNat b)),Gw n h i b] (by kernel_rfl) (by simp only [*,Ar] <;> rfl)
theorem Afs (h0:ilt (ofNat i) (ofNat n) = true) (h18:Ca n = true) (h19:inN n (ofNat i) = true) (h20:inN n (ofNat b) = true) (h1:Gw n h i b = false):Ai (body104 L) (lp104 n h) (st104 n h b i j) = some (.nm,⟨(jsV 17 0 (fun _=>.und) [(0,(.sl 1 n (fun k=>iV (h k)))),(2,(iV 0)),(3,(nV b)),(4,(iV (wr .i64 (Ae (ofNat i) 1))))]),[]⟩):=Aa [true,true,true,true,false] [ilt (ofNat i) (ofNat n),An n (fun _=>true),Ca n,Af (inN n (ofNat i)) (inN n (ofNat b)),Gw n h i b] (by kernel_rfl) (by simp only [*,Ar] <;> rfl)
end
def jk104 (n:Nat) (h:Nat->Int) :Nat->V:=lkV A7 []
theorem AbV (L:LT) (p0:PT) (n:Nat) (h:Nat->Int) (b i:Nat)  (hp0:p0 (body104 (onP 0 p0 (en104e n h b i) L)) (st104 n h 0 1 (jk104 n h )) = true):(A1 (Al tab ⟨Ao U9,onP 0 p0 (en104e n h b i) L,Gl⟩ Try.f113 [DW n h] [])).sem = some ((nV b),[]):=Aa [true] [p0 (body104 (onP 0 p0 (en104e n h b i) L)) (st104 n h 0 1 (jk104 n h ))] (by kernel_rfl) (by simp only [hp0] <;> rfl)
theorem run104 (L:LT) (n:Nat) (h:Nat->Int) (h8:Ca n = true):∀ (d i b:Nat) (j:Nat->V) (q:Nat),n = i+d->b < i->d < q ->
    (A3 (body104 L) (lp104 n h) q (st104 n h b i j)).sem = some (en104e n h (TC n h d i b) n)
  | 0,i,b,j,q+1,h1,_,_=>by
    have:n = i:=by omega
    subst this
    exact Ab (Yn L n h b n j (A8 (Nat.le_refl _)))
  | d+1,i,b,j,q+1,h1,hb,h2=>by
    have hi:i < n:=by omega
    unfold TC
    cases ha:Gw n h i b with
    | true =>
      rw [if_pos rfl,Ab (Afr L n h b i j (ofNat_lt hi) h8 (Mu hi) (Mu (by omega)) ha),Aw,Aq hi (CE h8)]
      exact run104 L n h h8 d (i+1) i (fun _=>.und) q (by omega) (by omega) (by omega)
    | false =>
      rw [if_neg (by decide),Ab (Afs L n h b i j (ofNat_lt hi) h8 (Mu hi) (Mu (by omega)) ha),Aw,Aq hi (CE h8)]
      exact run104 L n h h8 d (i+1) b (fun _=>.und) q (by omega) (by omega) (by omega)
def Aco:List V->T (V × List Blk):=AbO fun n h=>.br (Ca n) (out (iV (ofNat (Ws n h)))) .fail
theorem p104:AD Try.prog Gl 113 Aco:=by
  refine A5 AO AP Try.func113 (by kernel_rfl) (by kernel_rfl) fun vs v h' hh=>?_
  obtain ⟨n,h,hA,h1⟩:=P9 hh
  obtain ⟨h8,h3⟩:=Ag h1
  have:=Ac h3
  simp only [Prod.mk.injEq] at this
  obtain ⟨rfl,rfl⟩:=this
  have hx:=AQ X4 [(0,lp104 n h)]
  have hL:=AC [(0,lp104 n h)]
  refine ⟨_,AR Gl U9 [(0,lp104 n h)],_,hA,rfl,hx.1,hx.2,?_,AB.refl _⟩
  unfold Ws
  rcases Nat.eq_zero_or_pos n with rfl | hn
  · exact A6 (Ax hL hL) _ (AbV _ _ 0 h 0 0 (Ak (Ab (Yn _ 0 h 0 1 (jk104 0 h) (A8 (by omega))))))
  · exact A6 (Ax hL hL) _ (AbV _ _ n h _ n (Ak (run104 _ n h h8 (n - 1) 1 0 (jk104 n h) (n+1) (by omega) (by omega) (by omega))))
noncomputable def OJ:List (Nat × (List V->T (V × List Blk))):=(98,BK SN) :: []
theorem X5:AF Try.prog Gl OJ:=.cons p25 .nil
def en103f (n:Nat) (f:Nat->E6) (k:Nat) (x:Nat->V):Ex × St:=(.rt,⟨(jsV 31 0 (fun _=>.und) [(2,.ref 2),(3,bV false),(4,.ref 1)]),[.row 3 1 0 fun _=>.und,.row 3 1 k x,.row 3 1 0 fun _=>.und]⟩)
def lp103 (n:Nat) (f:Nat->E6):Lp:=⟨(bmK 31 0 [0,2,3,4,5]),2,bmK 31 0 [2,3,4],3,n+1⟩
def st103 (n:Nat) (f:Nat->E6) (i k:Nat) (x:Nat->V) (j:Nat->V):St:=⟨(jsV 31 0 j [(0,.sl 6 n fun i=>eV (f i)),(2,.ref 0),(3,bV false),(4,.ref 1),(5,nV i)]),[.row 3 1 0 fun _=>.und,.row 3 1 k x]⟩
def en103e (n:Nat) (f:Nat->E6) (i k:Nat) (x:Nat->V):Ex × St:=(.ex 0,⟨(jsV 31 0 (fun _=>.und) [(2,.ref 0),(3,bV false),(4,.ref 1)]),[.row 3 1 0 fun _=>.und,.row 3 1 k x]⟩)
noncomputable def body103 (L:LT):St->T (Ex × St):=fun st=>A9 tab ⟨Ao OJ,L,Gl⟩ (Av Try.f70 0) 0 st
section
variable (L:LT) (n:Nat) (f:Nat->E6) (i k:Nat) (x:Nat->V)  (j:Nat->V)
include L n f i k x j
theorem Aft (h0:ilt (ofNat i) (ofNat n) = false):Ai (body103 L) (lp103 n f) (st103 n f i k x j) = some ((.ex 0),⟨(jsV 31 0 (fun _=>.und) [(2,(.ref 0)),(3,(bV false)),(4,(.ref 1))]),[r3Z,.row 3 1 k x]⟩):=Aa [false] [ilt (ofNat i) (ofNat n)] (by kernel_rfl) (by simp only [h0] <;> rfl)
theorem Yo (h0:ilt (ofNat i) (ofNat n) = true) (h20:ile 0 (ofNat i) = true) (h1:ieq (AM (f i)) 0 = true) (h21:Bj k 1 8 = true):Ai (body103 L) (lp103 n f) (st103 n f i k x j) = some (.nm,⟨(jsV 31 0 (fun _=>.und) [(0,(.sl 6 n (fun i=>eV (f i)))),(2,(.ref 0)),(3,(bV false)),(4,(.ref 1)),(5,(iV (wr .i64 (Ae (ofNat i) 1))))]),[r3Z,.row 3 1 (B4 k 1) (AK k x (iV (Bv (f i))))]⟩):=Aa [true,true,false,true] [ilt (ofNat i) (ofNat n),Af (ile 0 (ofNat i)) (ilt (ofNat i) (ofNat n)),Am (ieq (AM (f i)) 0),Bj k 1 8] (by kernel_rfl) (by simp only [*] <;> rfl)
theorem Yp (h0:ilt (ofNat i) (ofNat n) = true) (h20:ile 0 (ofNat i) = true) (h1:ieq (AM (f i)) 0 = false):Ai (body103 L) (lp103 n f) (st103 n f i k x j) = some (.rt,⟨(jsV 31 0 (fun _=>.und) [(2,(.ref 2)),(3,(bV false)),(4,(.ref 1))]),[r3Z,.row 3 1 k x,r3Z]⟩):=Aa [true,true,true] [ilt (ofNat i) (ofNat n),Af (ile 0 (ofNat i)) (ilt (ofNat i) (ofNat n)),Am (ieq (AM (f i)) 0)] (by kernel_rfl) (by simp only [*] <;> rfl)
end
def jk103 (n:Nat) (f:Nat->E6) :Nat->V:=lkV A7 []
theorem Adz (L:LT) (p0:PT) (n:Nat) (f:Nat->E6) (i k:Nat) (x:Nat->V)  (hp0:p0 (body103 (onP 0 p0 (en103e n f i k x) L)) (st103 n f 0 0 (fun _=>.und) (jk103 n f )) = true):(A1 (Al tab ⟨Ao OJ,onP 0 p0 (en103e n f i k x) L,Gl⟩ Try.f70 [A2 n f] [])).sem = some ((.tup [.ref 0,bV true]),[.row 3 1 k x]):=Aa [true] [p0 (body103 (onP 0 p0 (en103e n f i k x) L)) (st103 n f 0 0 (fun _=>.und) (jk103 n f ))] (by kernel_rfl) (by simp only [hp0] <;> rfl)
theorem Ady (L:LT) (p0:PT) (n:Nat) (f:Nat->E6) (k:Nat) (x:Nat->V)  (hp0:p0 (body103 (onP 0 p0 (en103f n f k x) L)) (st103 n f 0 0 (fun _=>.und) (jk103 n f )) = true):(A1 (Al tab ⟨Ao OJ,onP 0 p0 (en103f n f k x) L,Gl⟩ Try.f70 [A2 n f] [])).sem = some ((.tup [.ref 0,bV false]),[r3Z]):=Aa [true] [p0 (body103 (onP 0 p0 (en103f n f k x) L)) (st103 n f 0 0 (fun _=>.und) (jk103 n f ))] (by kernel_rfl) (by simp only [hp0] <;> rfl)
theorem UQ (L:LT) (n:Nat) (f:Nat->E6) (hn:AL n = true) (e:Nat) (he:e < n) (hb:AM (f e) = 30) (ho:∀ t,t < e->AM (f t) = 0):∀ (d i:Nat) (j:Nat->V) (q:Nat),e = i+d->d < q ->
    (A3 (body103 L) (lp103 n f) q (st103 n f i i (BJ (cdV f) i) j)).sem = some (en103f n f e (BJ (cdV f) e))
  | 0,i,j,q+1,h1,_=>by
    have:e = i:=by omega
    subst this
    exact Ab (Yp L n f e e (BJ (cdV f) e) j (ofNat_lt he) (NF e) (by rw [hb]; rfl))
  | d+1,i,j,q+1,h1,h2=>by
    have hi:i < n:=by omega
    have hr:=Yo L n f i i (BJ (cdV f) i) j (ofNat_lt hi) (NF i) (by rw [ho i (by omega)]; rfl) (Rb hi (by decide) (of_decide_eq_true hn))
    rw [Ab hr,Aw,Aq hi (IW hn)]
    exact UQ L n f hn e he hb ho d (i+1) (fun _=>.und) q (by omega) (by omega)
theorem run103 (L:LT) (n:Nat) (f:Nat->E6) (hn:AL n = true):∀ (d i:Nat) (j:Nat->V) (q:Nat),n = i+d->d < q->(∀ t,t < i->AM (f t) = 0) ->
    (BI n f = true ∧ (A3 (body103 L) (lp103 n f) q (st103 n f i i (BJ (cdV f) i) j)).sem = some (en103e n f n n (BJ (cdV f) n))) ∨ (BI n f = false ∧ ∃ e,(A3 (body103 L) (lp103 n f) q (st103 n f i i (BJ (cdV f) i) j)).sem = some (en103f n f e (BJ (cdV f) e)))
  | 0,i,j,q+1,h1,_,ho=>by
    have:n = i:=by omega
    subst this
    exact .inl ⟨DV.2 ho,Ab (Aft L n f n n _ j (A8 (Nat.le_refl _)))⟩
  | d+1,i,j,q+1,h1,h2,ho=>by
    have hi:i < n:=by omega
    by_cases hc:AM (f i) = 0
    · have hr:=Yo L n f i i (BJ (cdV f) i) j (ofNat_lt hi) (NF i) (by rw [hc]; rfl) (Rb hi (by decide) (of_decide_eq_true hn))
      have ih:=run103 L n f hn d (i+1) (fun _=>.und) q (by omega) (by omega) fun t ht=>by
        by_cases hti:t = i
        · rw [hti]; exact hc
        · exact ho t (by omega)
      rw [Ab hr,Aw,Aq hi (IW hn)]
      exact ih
    · refine .inr ⟨?_,i,Ab (Yp L n f i i (BJ (cdV f) i) j (ofNat_lt hi) (NF i) (by simp [ieq,hc]))⟩
      cases hm:BI n f with
      | false=>rfl
      | true=>exact absurd (DV.1 hm i hi) hc
def VN:List V->T (V × List Blk):=GS fun n f=>.br (AL n) (.br (BI n f) (.leaf (.tup [.ref 0,bV true],[.row 3 1 n fun i=>iV (Bv (f i))])) (.leaf (.tup [.ref 0,bV false],[.row 3 1 0 fun _=>.und]))) .fail
theorem p103:AD Try.prog Gl 70 VN:=by
  refine A5 AO AP Try.func70 (by kernel_rfl) (by kernel_rfl) fun vs v h' h=>?_
  obtain ⟨n,f,ha,h⟩:=CK h
  obtain ⟨hn,h⟩:=Ag h
  have hx:=AQ X5 [(0,lp103 n f)]
  have hL:=AC [(0,lp103 n f)]
  have hr:=fun L=>run103 L n f hn n 0 (jk103 n f) (n+1) (by omega) (by omega) fun t ht=>absurd ht (Nat.not_lt_zero _)
  cases hm:BI n f with
  | true =>
    rw [hm] at h
    have:=Ac h
    simp only [Prod.mk.injEq] at this
    obtain ⟨rfl,rfl⟩:=this
    exact ⟨_,AR Gl OJ [(0,lp103 n f)],_,ha,rfl,hx.1,hx.2,A6 (Ax hL hL) _ (Adz _ _ n f n n _ (Ak ((hr _).elim (fun q=>q.2) fun q=>by rw [hm] at q; cases q.1))),AB.one fun j hj=>(Ib (cdV f) n j hj).symm⟩
  | false =>
    rw [hm] at h
    have:=Ac h
    simp only [Prod.mk.injEq] at this
    obtain ⟨rfl,rfl⟩:=this
    obtain ⟨e,h1,h2,h3⟩:=Y3 hm
    exact ⟨_,AR Gl OJ [(0,lp103 n f)],_,ha,rfl,hx.1,hx.2,A6 (Ax hL hL) _ (Ady _ _ n f e (BJ (cdV f) e) (Ak (UQ _ n f hn e h1 h2 h3 e 0 (jk103 n f) (n+1) (by omega) (by omega)))),AB.refl _⟩
noncomputable def Xw:List (Nat × (List V->T (V × List Blk))):=(70,VN) :: (113,Aco) :: (21,Ml) :: []
theorem Aas:AF Try.prog Gl Xw:=.cons p103 <| .cons p104 <| .cons p69 .nil
section
variable (L:LT) (n:Nat) (f:Nat->E6)
include L n f
theorem Ag8 (h19:AL n = true) (h0:BI n f = true) (h20:Ca n = true):(A1 (Al tab ⟨Ao Xw,L,Gl⟩ Try.f93 [A2 n f] [])).sem = some ((.tup [.ref 0,iV 0]),[.row 44 6 n (fun i=>eV (Js n f (ofNat (Ws n (fun i=>Bv (f i)))) i))]):=Aa (bbK 8 247) ((fun c0 c1=>[c0,c1,BI n f,Am true,c0,Ca n,c0,c1]) (An n (fun _=>true)) (AL n)) (by kernel_rfl) (by simp only [*,Ar] <;> rfl)
theorem Ag9 (h19:AL n = true) (h0:BI n f = false):(A1 (Al tab ⟨Ao Xw,L,Gl⟩ Try.f93 [A2 n f] [])).sem = some ((.tup [.ref 0,iV 30]),[.row 44 6 0 (fun _=>.und)]):=Aa [true,true,false,true] [An n (fun _=>true),AL n,BI n f,Am false] (by kernel_rfl) (by simp only [h19,h0,Ar] <;> rfl)
end
def UU:List V->T (V × List Blk):=GS fun n f=>.br (AL n) (.br (BI n f) (.leaf (.tup [.ref 0,iV 0],[.row 44 6 n fun i=>eV (Js n f (ofNat (Ws n fun k=>Bv (f k))) i)])) (.leaf (.tup [.ref 0,iV 30],[.row 44 6 0 fun _=>.und]))) .fail
theorem p66:AD Try.prog Gl 93 UU:=by
  refine A5 AO AP Try.func93 (by kernel_rfl) (by kernel_rfl) fun vs v h' h=>?_
  obtain ⟨n,f,ha,h⟩:=CK h
  obtain ⟨hn,h⟩:=Ag h
  have hx:=AQ Aas []
  cases hm:BI n f with
  | true =>
    rw [hm] at h
    have:=Ac h
    simp only [Prod.mk.injEq] at this
    obtain ⟨rfl,rfl⟩:=this
    exact ⟨_,AR Gl Xw [],_,ha,rfl,hx.1,hx.2,Ag8 _ n f hn hm (ET hn),AB.refl _⟩
  | false =>
    rw [hm] at h
    have:=Ac h
    simp only [Prod.mk.injEq] at this
    obtain ⟨rfl,rfl⟩:=this
    exact ⟨_,AR Gl Xw [],_,ha,rfl,hx.1,hx.2,Ag9 _ n f hn hm,AB.refl _⟩
theorem Ha {n:Nat} {h g:Nat->Int} (hg:∀ i,i < n->g i = h i) (p i:Nat) (hn:0 < n):DM n g p i = DM n h p i:=hg _ (Nat.mod_lt _ hn)
theorem Sc {n:Nat} {h g:Nat->Int} (hg:∀ i,i < n->g i = h i) {p:Nat} (hp:Ef n g p):Ef n h p:=by
  have hn:0 < n:=by have:=hp.1; omega
  refine ⟨hp.1,fun q hq hl=>hp.2 q hq ?_⟩
  obtain ⟨s,h1,h2,h3⟩:=hl
  exact ⟨s,h1,fun t ht=>by rw [Ha hg _ _ hn,Ha hg _ _ hn]; exact h2 t ht,by rw [Ha hg _ _ hn,Ha hg _ _ hn]; exact h3⟩
theorem QW {n:Nat} {f l:Nat->E6} (hm:BI n f = true) (hl:∀ i,i < n->l i = f i):∀ i,i < n->Bk n l i = Js n f (ofNat (Ws n fun k=>Bv (f k))) i:=fun i hi=>by
  have hn:0 < n:=by omega
  have h1:Ef n (fun k=>Bv (f k)) (BR n fun k=>Bv (l k)):=Sc (g:=fun k=>Bv (l k)) (fun t ht=>by show Bv (l t) = Bv (f t); rw [hl t ht]) (JC n _ hn)
  have h2:=Ym (fun k=>Bv (f k)) hn
  have h3:=Sb h1 h2 i hi
  unfold Bk Js
  rw [Wb h2.1,hl _ (Nat.mod_lt _ hn)]
  exact VS (DV.1 hm _ (Nat.mod_lt _ hn)) (DV.1 hm _ (Nat.mod_lt _ hn)) h3
end Go.Proofs.Ytjhnfomefcngfaa.Ed
namespace Go.Proofs.Ytjhnfomefcngfaa.Sh
open Go.Sy Ed
structure Cod (α:Type) where
  size:Nat
  enc:α->V
  ok:V->Bool
  ed:V->α
  law:∀ v,ok v = true->∀ (S:Nat->Prop) (w:World) (c:Value),VR S w v noK c->VR S w (enc (ed v)) noK c
def Zd (s:Nat):V->Option (Nat × (Nat->V))
  | .sl s' n g=>match Nat.beq s' s with
    | true=>some (n,g)
    | false=>match n with
      | 0=>some (0,g)
      | _=>none
  | .slr s' n _ g=>match Nat.beq s' s with
    | true=>some (n,g)
    | false=>none
  | .nilS=>some (0,fun _=>.und)
  | _=>none
theorem Sq {s:Nat} {v:V} {n:Nat} {g:Nat->V} (hg:Zd s v = some (n,g)) {e:Nat->V} (he:∀ i,i < n->∀ (S:Nat->Prop) (w:World) (c:Value),VR S w (g i) noK c->VR S w (e i) noK c)
    {S:Nat->Prop} {w:World} {c:Value} (hv:VR S w v noK c):VR S w (.sl s n e) noK c:=by
  unfold Zd at hg
  split at hg
  · rename_i s' n' g'
    split at hg
    · rename_i hs
      simp only [Option.some.injEq,Prod.mk.injEq] at hg
      obtain ⟨rfl,rfl⟩:=hg
      have hs:s' = s:=Nat.eq_of_beq_eq_true hs
      subst hs
      obtain ⟨a,cap,ea,hc,hb⟩:=hv
      refine ⟨a,cap,ea,hc,hb.imp id ?_⟩
      rintro ⟨b,o,eb,hel⟩
      refine ⟨b,o,eb,fun i hi=>?_⟩
      obtain ⟨ci,h1,h2⟩:=hel i hi
      exact ⟨ci,he i hi S w ci h1,h2⟩
    · split at hg
      · simp only [Option.some.injEq,Prod.mk.injEq] at hg
        obtain ⟨rfl,rfl⟩:=hg
        obtain ⟨a,cap,ea,hc,_⟩:=hv
        exact ⟨a,cap,ea,hc,.inl rfl⟩
      · cases hg
  · rename_i s' n' m' g'
    split at hg
    · rename_i hs
      simp only [Option.some.injEq,Prod.mk.injEq] at hg
      obtain ⟨rfl,rfl⟩:=hg
      have hs:s' = s:=Nat.eq_of_beq_eq_true hs
      subst hs
      obtain ⟨a,cap,ea,hc,hm,hb⟩:=hv
      refine ⟨a,cap,ea,Nat.le_trans hc hm,?_⟩
      rcases hb with h0 | ⟨b,o,eb,hel⟩
      · exact .inl (by omega)
      · refine .inr ⟨b,o,eb,fun i hi=>?_⟩
        obtain ⟨ci,h1,h2⟩:=hel i (by omega)
        exact ⟨ci,he i hi S w ci h1,h2⟩
    · cases hg
  · simp only [Option.some.injEq,Prod.mk.injEq] at hg
    obtain ⟨rfl,rfl⟩:=hg
    have hv:c = .slice none 0 0:=hv
    exact ⟨none,0,hv,Nat.le_refl _,.inl rfl⟩
  · cases hg
def apG {α β:Type} (c:Cod α) (v:V) (F:Nat->(Nat->α)->T β):T β :=
  match Zd c.size v with
  | some (n,g)=>.br (An n fun i=>c.ok (g i)) (F n fun i=>c.ed (g i)) .fail
  | none=>.fail
def Np {α:Type} (c:Cod α) (n:Nat) (f:Nat->α):V:=.sl c.size n fun i=>c.enc (f i)
theorem BV {α β:Type} {c:Cod α} {v:V} {F:Nat->(Nat->α)->T β} {r:β} (h:(apG c v F).sem = some r) :
    ∃ n f,(∀ (S:Nat->Prop) (w:World) (u:Value),VR S w v noK u->VR S w (Np c n f) noK u) ∧ (F n f).sem = some r:=by
  unfold apG at h
  split at h
  · rename_i n g hg
    obtain ⟨h1,h2⟩:=Ag h
    have h1:=AA.1 h1
    exact ⟨n,_,fun S w u hv=>Sq hg (fun i hi S w cc hc=>c.law _ (h1 i hi) S w cc hc) hv,h2⟩
  · cases h
def WS:Cod E6:=⟨6,eV,okE,edE,fun v h S w c hv=>by rw [<- Kd h]; exact hv⟩
def WR:Cod Int:=⟨1,iV,okI,edI,fun v h S w c hv=>by rw [<- Kc h]; exact hv⟩
def toX:V->Option Ev5
  | .agg [.val (.int .i64 a),.val (.int .i64 b),.val (.int .i64 c),.val (.int .i64 d),.val (.int .i64 e)]=>some ⟨a,b,c,d,e⟩
  | _=>none
theorem Xr {v:V} {e:Ev5} (h:toX v = some e):v = evV e:=by
  unfold toX at h
  split at h
  · simp only [Option.some.injEq] at h
    subst h
    rfl
  · cases h
def okX (v:V):Bool:=match toX v with
  | some _=>true
  | none=>false
def edX (v:V):Ev5:=match toX v with
  | some e=>e
  | none=>⟨0,0,0,0,0⟩
theorem Yy {v:V} (h:okX v = true):v = evV (edX v):=by
  unfold okX at h
  unfold edX
  split at h
  · rename_i e he
    exact Xr he
  · cases h
def WP:Cod Ev5:=⟨5,evV,okX,edX,fun v h S w c hv=>by rw [<- Yy h]; exact hv⟩
def okJ (v:V):Bool:=match Zd 1 v with
  | some (n,g)=>An n fun i=>okI (g i)
  | none=>false
def edJ (v:V):Nat × (Nat->Int):=match Zd 1 v with
  | some (n,g)=>(n,fun i=>edI (g i))
  | none=>(0,fun _=>0)
def WQ:Cod (Nat × (Nat->Int)):=⟨1,fun p=>.sl 1 p.1 fun i=>iV (p.2 i),okJ,edJ,fun v h S w c hv=>by
  unfold okJ at h
  unfold edJ
  split at h
  · rename_i n g hg
    have h:=AA.1 h
    exact Sq hg (fun i hi S w cc hc=>by rw [<- Kc (h i hi)]; exact hc) hv
  · cases h⟩
structure Sh7 where
  arch:Int
  ne:Nat
  E:Nat->E6
  nx:Nat
  X:Nat->Ev5
  tt:Int
  kk:Int
  nr:Nat
  R:Nat->Int
  nc:Nat
  C:Nat->Nat × (Nat->Int)
def AjJ (s:Sh7):V:=.agg [iV s.arch,Np WS s.ne s.E,Np WP s.nx s.X,iV s.tt,iV s.kk,Np WR s.nr s.R,Np WQ s.nc s.C]
def apS {β:Type} (v:V) (F:Sh7->T β):T β :=
  match v with
  | .agg [.val (.int .i64 a),e,x,.val (.int .i64 t),.val (.int .i64 k),r,c]=>apG WS e fun ne E=>apG WP x fun nx X=>apG WR r fun nr R=>apG WQ c fun nc C=>F ⟨a,ne,E,nx,X,t,k,nr,R,nc,C⟩
  | _=>.fail
theorem EI {β:Type} {v:V} {F:Sh7->T β} {r:β} (h:(apS v F).sem = some r) :
    ∃ s,(∀ (S:Nat->Prop) (w:World) (u:Value),VR S w v noK u->VR S w (AjJ s) noK u) ∧ (F s).sem = some r:=by
  unfold apS at h
  split at h
  · obtain ⟨ne,E,h1,h⟩:=BV h
    obtain ⟨nx,X,h2,h⟩:=BV h
    obtain ⟨nr,R,h3,h⟩:=BV h
    obtain ⟨nc,C,h4,h⟩:=BV h
    refine ⟨_,fun S w u hv=>?_,h⟩
    obtain ⟨ca,rfl,a1,l1,rfl,q1,a2,l2,rfl,q2,a3,l3,rfl,q3,a4,l4,rfl,q4,a5,l5,rfl,q5,a6,l6,rfl,q6,a7,l7,rfl,q7,q8⟩:=hv
    exact ⟨_,rfl,a1,_,rfl,q1,a2,_,rfl,h1 S w _ q2,a3,_,rfl,h2 S w _ q3,a4,_,rfl,q4,a5,_,rfl,q5,a6,_,rfl,h3 S w _ q6,a7,_,rfl,h4 S w _ q7,q8⟩
  · cases h
theorem Wx {P:Program} {G:Nat->V} {f:FuncId} {F F':List V->T (V × List Blk)} (h:AD P G f F) (hF:∀ vs v h',(F' vs).sem = some (v,h')->∃ h'',(F vs).sem = some (v,h'') ∧ AB h'' h'):AD P G f F':=by
  refine ⟨h.1,fun vs cs S w v h' h1 h2 h3 h4=>?_⟩
  obtain ⟨h'',h5,h6⟩:=hF vs v h' h4
  obtain ⟨hr,hc⟩:=h.2 vs cs S w v h'' h1 h2 h3 h5
  refine ⟨h6.rows hr,hc.mono ?_⟩
  rintro e w' ⟨u,κ',S',rfl,g1,g2,g3⟩
  obtain ⟨p1,p2⟩:=h6.good g1
  refine ⟨u,κ',S',rfl,p1,g2,Ext.ofNil g3.os g3.tape g3.output g3.size g3.keep (fun i b hb=>?_) g3.sub g3.sup (h6.rows hr)⟩
  rw [p2] at hb
  exact g3.own i b hb
theorem p93:AD Try.prog Gl 93 Oj:=by
  refine Wx p66 fun vs v h' h=>?_
  unfold Oj at h
  unfold UU
  unfold GS at h ⊢
  split at h
  · rename_i u
    unfold apL at h ⊢
    split at h
    · rename_i n g hg
      obtain ⟨h1,h2⟩:=Ag h
      obtain ⟨h3,h4⟩:=Ag h2
      rw [h1]
      dsimp only
      rw [h3]
      cases hm:BI n (fun i=>edE (g i)) with
      | false =>
        rw [hm] at h4
        exact ⟨h',h4,AB.refl _⟩
      | true =>
        rw [hm] at h4
        have:=Ac h4
        simp only [Prod.mk.injEq] at this
        obtain ⟨rfl,rfl⟩:=this
        refine ⟨_,rfl,AB.one fun i hi=>?_⟩
        rw [QW hm (fun _ _=>rfl) i hi]
    · cases h
  · cases h
abbrev shL (a:Int) (n:Nat) (g:Nat->E6) (m:Nat) (x:Nat->Ev5) (t k:Int) (p:Nat) (r:Nat->Int) (q:Nat) (ln:Nat->Nat) (co:Nat->Nat->Int):List V:=[iV a,.sl 6 n (fun i=>eV (g i)),.sl 5 m (fun i=>evV (x i)),iV t,iV k,.sl 1 p (fun i=>iV (r i)),.sl 1 q (fun u=>.sl 1 (ln u) (fun i=>iV (co u i)))]
theorem jlC (c:List V) (l:List Blk):AT (.cells c::l) = AT l:=rfl
theorem jlR (e s n:Nat) (g:Nat->V) (l:List Blk):AT (.row e s n g::l) = AT l:=rfl
theorem jlJ (e s n:Nat) (g:Nat->V) (o e' s':Nat) (ln:Nat->Nat) (m:Nat->Nat->V) (l:List Blk):AT (.jag ⟨e,s,n,g,o,e',s',fun _=>true,ln,m⟩::l) = AT l:=by simp [AT]
theorem jlN:AT [] = true:=rfl
end Go.Proofs.Ytjhnfomefcngfaa.Sh
