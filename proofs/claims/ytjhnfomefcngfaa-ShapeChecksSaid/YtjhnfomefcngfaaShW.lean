/-
  Marked, Grown, Heaped: of edges and of numbers. No conditions.
-/
import Derived.Test.YtjhnfomefcngfaaCyT
import Derived.Test.YtjhnfomefcngfaaSyU
import Derived.Test.YtjhnfomefcngfaaCyUa
import Derived.Test.YtjhnfomefcngfaaShD
namespace Go.Proofs.Ytjhnfomefcngfaa.Ed
open Go.Sy Go
theorem NF (i:Nat):ile 0 (Int.ofNat i) = true:=decide_eq_true (Int.natCast_nonneg i)
end Go.Proofs.Ytjhnfomefcngfaa.Ed
namespace Go.Proofs.Ytjhnfomefcngfaa.Ed
open Go.Sy Go
open Int (ofNat)
def inN (n:Nat) (a:Int):Bool:=Ag (ile 0 a) (ilt a (ofNat n))
theorem Mx {n a:Nat} (h:a < n):inN n (ofNat a) = true:=Ax h
theorem Sk {n:Nat} {a:Int} (h:inN n a = true):a = ofNat (toN a) ∧ toN a < n:=by
  simp only [inN,Ag,ile,ilt,Bool.and_eq_true,decide_eq_true_eq,Int.ofNat_eq_natCast] at h
  simp only [toN,Int.ofNat_eq_natCast]
  omega
def JQ (n:Nat) (h:Nat->Int) (a b:Nat):Nat->Nat->Option Bool
  | 0,_=>none
  | d+1,i=>if h ((a+i) % n) = h ((b+i) % n) then JQ n h a b d (i+1) else some (decide (h ((a+i) % n) < h ((b+i) % n)))
def G3 (n:Nat) (h:Nat->Int) (a b:Nat):Bool:=(JQ n h a b n 0).getD false
theorem Ow {n:Nat} {h:Nat->Int} {a b:Nat}:∀ d i,n = i+d->(∀ t,t < i->EU n h a t = EU n h b t)->((JQ n h a b d i).getD false = true ↔ J0 n h a b)
  | 0,i,hd,hi=>by
    refine ⟨fun h1=>(by cases h1),fun ⟨s,h1,_,h3⟩=>?_⟩
    rw [hi s (by omega)] at h3
    omega
  | d+1,i,hd,hi=>by
    unfold JQ
    by_cases he:h ((a+i) % n) = h ((b+i) % n)
    · rw [if_pos he]
      refine Ow d (i+1) (by omega) fun t ht=>?_
      by_cases hti:t = i
      · rw [hti]; exact he
      · exact hi t (by omega)
    · rw [if_neg he]
      refine ⟨fun h1=>⟨i,by omega,hi,of_decide_eq_true h1⟩,fun ⟨s,h1,h2,h3⟩=>decide_eq_true ?_⟩
      rcases Nat.lt_trichotomy s i with hs | hs | hs
      · rw [hi s hs] at h3; omega
      · rw [hs] at h3; exact h3
      · exact absurd (h2 i hs) he
theorem Ox {n:Nat} {h:Nat->Int} {a b:Nat}:G3 n h a b = true ↔ J0 n h a b:=Ow n 0 (by omega) fun t ht=>absurd ht (Nat.not_lt_zero _)
def QH (n:Nat) (h:Nat->Int) (a b:Nat) (v:Bool):Ex × St:=(.rt,⟨(jsV 40 0 (fun _=>.und) [(6,bV v)]),[]⟩)
def N7 (n:Nat) (h:Nat->Int) (a b:Nat):Lp:=⟨(bmK 40 0 [0,1,2,6,7,8]),0,bmK 40 0 [6],0,n+1⟩
def LM (n:Nat) (h:Nat->Int) (a b:Nat) (i:Nat) (j:Nat->V):St:=⟨(jsV 40 0 j [(0,.sl 1 n fun k=>iV (h k)),(1,nV a),(2,nV b),(6,bV false),(7,nV n),(8,nV i)]),[]⟩
def QI (n:Nat) (h:Nat->Int) (a b:Nat) (i:Nat):Ex × St:=(.ex 0,⟨(jsV 40 0 (fun _=>.und) [(6,bV false)]),[]⟩)
noncomputable def Gp (L:LT):St->T (Ex × St):=fun st=>AE tab ⟨Ao tb0,L,Gl⟩ (Az Try.f120 0) 0 st
section
variable (L:LT) (n:Nat) (h:Nat->Int) (a b:Nat) (i:Nat)  (j:Nat->V)
include L n h a b i j
theorem Afe (h0:ilt (ofNat i) (ofNat n) = false):Al (Gp L) (N7 n h a b) (LM n h a b i j) = some ((.ex 0),⟨(jsV 40 0 (fun _=>.und) [(6,(bV false))]),[]⟩):=Aa [false] [ilt (ofNat i) (ofNat n)] (by kernel_rfl) (by simp only [h0] <;> rfl)
theorem Afd (h0:ilt (ofNat i) (ofNat n) = true) (h1:ieq (ofNat n) 0 = false) (h20:Ag (ile 0 (Ae (wr .i64 (Af (ofNat a) (ofNat i))) (ofNat n))) (ilt (Ae (wr .i64 (Af (ofNat a) (ofNat i))) (ofNat n)) (ofNat n)) = true) (h22:Ag (ile 0 (Ae (wr .i64 (Af (ofNat b) (ofNat i))) (ofNat n))) (ilt (Ae (wr .i64 (Af (ofNat b) (ofNat i))) (ofNat n)) (ofNat n)) = true) (h2:ieq (h (toN (Ae (wr .i64 (Af (ofNat a) (ofNat i))) (ofNat n)))) (h (toN (Ae (wr .i64 (Af (ofNat b) (ofNat i))) (ofNat n)))) = true):Al (Gp L) (N7 n h a b) (LM n h a b i j) = some (.nm,⟨(jsV 40 0 (fun _=>.und) [(0,(.sl 1 n (fun k=>iV (h k)))),(1,(nV a)),(2,(nV b)),(6,(bV false)),(7,(nV n)),(8,(iV (wr .i64 (Af (ofNat i) 1))))]),[]⟩):=Aa (bbK 6 21) [ilt (ofNat i) (ofNat n),ieq (ofNat n) 0,Ag (ile 0 (Ae (wr .i64 (Af (ofNat a) (ofNat i))) (ofNat n))) (ilt (Ae (wr .i64 (Af (ofNat a) (ofNat i))) (ofNat n)) (ofNat n)),ieq (ofNat n) 0,Ag (ile 0 (Ae (wr .i64 (Af (ofNat b) (ofNat i))) (ofNat n))) (ilt (Ae (wr .i64 (Af (ofNat b) (ofNat i))) (ofNat n)) (ofNat n)),Am (ieq (h (toN (Ae (wr .i64 (Af (ofNat a) (ofNat i))) (ofNat n)))) (h (toN (Ae (wr .i64 (Af (ofNat b) (ofNat i))) (ofNat n)))))] (by kernel_rfl) (by simp only [h20,h22] <;> simp only [*] <;> rfl)
theorem Afc (h0:ilt (ofNat i) (ofNat n) = true) (h1:ieq (ofNat n) 0 = false) (h20:Ag (ile 0 (Ae (wr .i64 (Af (ofNat a) (ofNat i))) (ofNat n))) (ilt (Ae (wr .i64 (Af (ofNat a) (ofNat i))) (ofNat n)) (ofNat n)) = true) (h22:Ag (ile 0 (Ae (wr .i64 (Af (ofNat b) (ofNat i))) (ofNat n))) (ilt (Ae (wr .i64 (Af (ofNat b) (ofNat i))) (ofNat n)) (ofNat n)) = true) (h2:ieq (h (toN (Ae (wr .i64 (Af (ofNat a) (ofNat i))) (ofNat n)))) (h (toN (Ae (wr .i64 (Af (ofNat b) (ofNat i))) (ofNat n)))) = false):Al (Gp L) (N7 n h a b) (LM n h a b i j) = some (.rt,⟨(jsV 40 0 (fun _=>.und) [(6,(bV (ilt (h (toN (Ae (wr .i64 (Af (ofNat a) (ofNat i))) (ofNat n)))) (h (toN (Ae (wr .i64 (Af (ofNat b) (ofNat i))) (ofNat n)))))))]),[]⟩):=Aa (bbK 6 53) [ilt (ofNat i) (ofNat n),ieq (ofNat n) 0,Ag (ile 0 (Ae (wr .i64 (Af (ofNat a) (ofNat i))) (ofNat n))) (ilt (Ae (wr .i64 (Af (ofNat a) (ofNat i))) (ofNat n)) (ofNat n)),ieq (ofNat n) 0,Ag (ile 0 (Ae (wr .i64 (Af (ofNat b) (ofNat i))) (ofNat n))) (ilt (Ae (wr .i64 (Af (ofNat b) (ofNat i))) (ofNat n)) (ofNat n)),Am (ieq (h (toN (Ae (wr .i64 (Af (ofNat a) (ofNat i))) (ofNat n)))) (h (toN (Ae (wr .i64 (Af (ofNat b) (ofNat i))) (ofNat n)))))] (by kernel_rfl) (by simp only [h20,h22] <;> simp only [*] <;> rfl)
end
def Sb (n:Nat) (h:Nat->Int) (a b:Nat) :Nat->V:=lkV A8 [(11,(.sl 1 n (fun i=>iV (h i)))),(12,(nV n))]
theorem Adq (L:LT) (p0:PT) (n:Nat) (h:Nat->Int) (a b:Nat) (i:Nat)  (hp0:p0 (Gp (onP 0 p0 (QI n h a b i) L)) (LM n h a b 0 (Sb n h a b )) = true):(As (Aj tab ⟨Ao tb0,onP 0 p0 (QI n h a b i) L,Gl⟩ Try.f120 [Cg n h,nV a,nV b] [])).sem = some ((bV false),[]):=Aa [true] [p0 (Gp (onP 0 p0 (QI n h a b i) L)) (LM n h a b 0 (Sb n h a b ))] (by kernel_rfl) (by simp only [hp0] <;> rfl)
theorem Adp (L:LT) (p0:PT) (n:Nat) (h:Nat->Int) (a b:Nat) (v:Bool)  (hp0:p0 (Gp (onP 0 p0 (QH n h a b v) L)) (LM n h a b 0 (Sb n h a b )) = true):(As (Aj tab ⟨Ao tb0,onP 0 p0 (QH n h a b v) L,Gl⟩ Try.f120 [Cg n h,nV a,nV b] [])).sem = some ((bV v),[]):=Aa [true] [p0 (Gp (onP 0 p0 (QH n h a b v) L)) (LM n h a b 0 (Sb n h a b ))] (by kernel_rfl) (by simp only [hp0] <;> rfl)
theorem Z1 (n a i:Nat) (ha:a < n) (hn:n <= 4611686018427387904) (hi:i < n):Ae (wr .i64 (Af (ofNat a) (ofNat i))) (ofNat n) = ofNat ((a+i) % n) ∧ (a+i) % n < n:=by
  rw [DD (by omega),CA]
  exact ⟨rfl,Nat.mod_lt _ (by omega)⟩
theorem Vm (n a i:Nat) (ha:a < n) (hn:n <= 4611686018427387904) (hi:i < n):Ag (ile 0 (Ae (wr .i64 (Af (ofNat a) (ofNat i))) (ofNat n))) (ilt (Ae (wr .i64 (Af (ofNat a) (ofNat i))) (ofNat n)) (ofNat n)) = true:=by
  obtain ⟨e1,l1⟩:=Z1 n a i ha hn hi
  rw [e1]
  exact Ax l1
theorem Acl (n i:Nat) (hi:i < n):ieq (ofNat n) 0 = false:=by rw [show (0:Int) = ofNat 0 from rfl,Dt,decide_eq_false (by omega)]
theorem XN (L:LT) (n:Nat) (h:Nat->Int) (a b:Nat) (hn:n <= 4611686018427387904) (ha:a < n) (hb:b < n):∀ (d i:Nat) (j:Nat->V) (q:Nat),n = i+d->d < q ->
    (A7 (Gp L) (N7 n h a b) q (LM n h a b i j)).sem = some (match JQ n h a b d i with | none=>QI n h a b 0 | some v=>QH n h a b v)
  | 0,i,j,q+1,h1,_=>by
    have:n = i:=by omega
    subst this
    exact Ac (Afe L n h a b n j (AA (Nat.le_refl _)))
  | d+1,i,j,q+1,h1,h2=>by
    have hi:i < n:=by omega
    obtain ⟨e1,l1⟩:=Z1 n a i ha hn hi
    obtain ⟨e2,l2⟩:=Z1 n b i hb hn hi
    unfold JQ
    by_cases he:h ((a+i) % n) = h ((b+i) % n)
    · have hq:ieq (h (toN (Ae (wr .i64 (Af (ofNat a) (ofNat i))) (ofNat n)))) (h (toN (Ae (wr .i64 (Af (ofNat b) (ofNat i))) (ofNat n)))) = true:=by
        rw [e1,e2]
        show ieq (h ((a+i) % n)) (h ((b+i) % n)) = true
        rw [he]
        exact Qu _
      rw [if_pos he,Ac (Afd L n h a b i j (ofNat_lt hi) (Acl n i hi) (Vm n a i ha hn hi) (Vm n b i hb hn hi) hq),Av,Aq hi hn]
      exact XN L n h a b hn ha hb d (i+1) (fun _=>.und) q (by omega) (by omega)
    · have hq:ieq (h (toN (Ae (wr .i64 (Af (ofNat a) (ofNat i))) (ofNat n)))) (h (toN (Ae (wr .i64 (Af (ofNat b) (ofNat i))) (ofNat n)))) = false:=by
        rw [e1,e2]
        show ieq (h ((a+i) % n)) (h ((b+i) % n)) = false
        simp [ieq,he]
      have hr:=Afc L n h a b i j (ofNat_lt hi) (Acl n i hi) (Vm n a i ha hn hi) (Vm n b i hb hn hi) hq
      rw [e1,e2] at hr
      rw [if_neg he]
      exact Ac hr
def Un:List V->T (V × List Blk)
  | [v,.val (.int .i64 a),.val (.int .i64 b)]=>apI v fun n h=>.br (BL n) (.br (Ag (inN n a) (inN n b)) (out (bV (G3 n h (toN a) (toN b)))) .fail) .fail
  | _=>.fail
theorem WM {a b:Bool} (h:Ag a b = true):a = true ∧ b = true:=by simpa [Ag] using h
theorem Akw:AB Try.prog Gl 120 Un:=by
  refine A1 AQ AR Try.func120 (by kernel_rfl) (by kernel_rfl) fun vs v h' hh=>?_
  unfold Un at hh
  split at hh
  · rename_i u a b
    obtain ⟨n,h,hv,h1⟩:=EM hh
    obtain ⟨h8,h2⟩:=Ah h1
    obtain ⟨hab,h3⟩:=Ah h2
    have:=Ad h3
    simp only [Prod.mk.injEq] at this
    obtain ⟨rfl,rfl⟩:=this
    obtain ⟨ha,hb⟩:=WM hab
    obtain ⟨ea,la⟩:=Sk ha
    obtain ⟨eb,lb⟩:=Sk hb
    have hA:Bw [u,iV a,iV b] [Cg n h,iV (ofNat (toN a)),iV (ofNat (toN b))]:=fun S w cs q=>by
      rw [<- ea,<- eb]
      obtain ⟨c,l,rfl,q1,q2⟩:=q
      exact ⟨c,l,rfl,hv S w c q1,q2⟩
    have hx:=AP CW [(0,N7 n h (toN a) (toN b))]
    have hL:=AD [(0,N7 n h (toN a) (toN b))]
    have hr:=fun L=>XN L n h (toN a) (toN b) (CP h8) la lb n 0 (Sb n h (toN a) (toN b)) (n+1) (by omega) (by omega)
    refine ⟨_,AI Gl tb0 [(0,N7 n h (toN a) (toN b))],_,hA,rfl,hx.1,hx.2,?_,A6.refl _⟩
    unfold G3
    cases hc:JQ n h (toN a) (toN b) n 0 with
    | none =>
      rw [hc] at hr
      exact A3 (Aw hL hL) _ (Adq _ _ n h (toN a) (toN b) 0 (An (hr _)))
    | some v =>
      rw [hc] at hr
      exact A3 (Aw hL hL) _ (Adp _ _ n h (toN a) (toN b) v (An (hr _)))
  · cases hh
noncomputable def U0:List (Nat × (List V->T (V × List Blk))):=(120,Un) :: []
theorem Xr:AC Try.prog Gl U0:=.cons Akw .nil
def T9 (n:Nat) (h:Nat->Int):Nat->Nat->Nat->Nat
  | 0,_,b=>b
  | d+1,i,b=>if G3 n h i b = true then T9 n h d (i+1) i else T9 n h d (i+1) b
def Wm (n:Nat) (h:Nat->Int):Nat:=T9 n h (n - 1) 1 0
theorem Ng {n:Nat} {h:Nat->Int}:∀ d i b,n = i+d->b < i->(∀ q,q < i->¬ J0 n h q b)->EJ n h (T9 n h d i b)
  | 0,i,b,hd,hb,hq=>⟨by show b < n; omega,fun q hq'=>hq q (by omega)⟩
  | d+1,i,b,hd,hb,hq=>by
    unfold T9
    by_cases ha:G3 n h i b = true
    · rw [if_pos ha]
      have hl:=Ox.1 ha
      refine Ng d (i+1) i (by omega) (by omega) fun q hq' hlt=>?_
      by_cases hqi:q = i
      · rw [hqi] at hlt; exact Fj hlt
      · exact hq q (by omega) (LZ hlt hl)
    · rw [if_neg ha]
      refine Ng d (i+1) b (by omega) (by omega) fun q hq' hlt=>?_
      by_cases hqi:q = i
      · rw [hqi] at hlt; exact ha (Ox.2 hlt)
      · exact hq q (by omega) hlt
theorem XU {n:Nat} (h:Nat->Int) (hn:0 < n):EJ n h (Wm n h):=Ng (n - 1) 1 0 (by omega) (by omega) fun q hq=>by
  have:q = 0:=by omega
  subst this
  exact Fj
def lp104 (n:Nat) (h:Nat->Int):Lp:=⟨(bmK 17 0 [0,2,3,4]),0,bmK 17 0 [2,3],0,n+1⟩
def st104 (n:Nat) (h:Nat->Int) (b i:Nat) (j:Nat->V):St:=⟨(jsV 17 0 j [(0,.sl 1 n fun k=>iV (h k)),(2,iV 0),(3,nV b),(4,nV i)]),[]⟩
def en104e (n:Nat) (h:Nat->Int) (b i:Nat):Ex × St:=(.ex 0,⟨(jsV 17 0 (fun _=>.und) [(2,iV 0),(3,nV b)]),[]⟩)
noncomputable def body104 (L:LT):St->T (Ex × St):=fun st=>AE tab ⟨Ao U0,L,Gl⟩ (Az Try.f113 0) 0 st
section
variable (L:LT) (n:Nat) (h:Nat->Int) (b i:Nat)  (j:Nat->V)
include L n h b i j
theorem XV (h0:ilt (ofNat i) (ofNat n) = false):Al (body104 L) (lp104 n h) (st104 n h b i j) = some ((.ex 0),⟨(jsV 17 0 (fun _=>.und) [(2,(iV 0)),(3,(nV b))]),[]⟩):=Aa [false] [ilt (ofNat i) (ofNat n)] (by kernel_rfl) (by simp only [h0] <;> rfl)
theorem Afi (h0:ilt (ofNat i) (ofNat n) = true) (h18:BL n = true) (h19:inN n (ofNat i) = true) (h20:inN n (ofNat b) = true) (h1:G3 n h i b = true):Al (body104 L) (lp104 n h) (st104 n h b i j) = some (.nm,⟨(jsV 17 0 (fun _=>.und) [(0,(.sl 1 n (fun k=>iV (h k)))),(2,(iV 0)),(3,(nV i)),(4,(iV (wr .i64 (Af (ofNat i) 1))))]),[]⟩):=Aa [true,true,true,true,true] [ilt (ofNat i) (ofNat n),Ai n (fun _=>true),BL n,Ag (inN n (ofNat i)) (inN n (ofNat b)),G3 n h i b] (by kernel_rfl) (by simp only [*,Ar] <;> rfl)
theorem Afj (h0:ilt (ofNat i) (ofNat n) = true) (h18:BL n = true) (h19:inN n (ofNat i) = true) (h20:inN n (ofNat b) = true) (h1:G3 n h i b = false):Al (body104 L) (lp104 n h) (st104 n h b i j) = some (.nm,⟨(jsV 17 0 (fun _=>.und) [(0,(.sl 1 n (fun k=>iV (h k)))),(2,(iV 0)),(3,(nV b)),(4,(iV (wr .i64 (Af (ofNat i) 1))))]),[]⟩):=Aa [true,true,true,true,false] [ilt (ofNat i) (ofNat n),Ai n (fun _=>true),BL n,Ag (inN n (ofNat i)) (inN n (ofNat b)),G3 n h i b] (by kernel_rfl) (by simp only [*,Ar] <;> rfl)
end
def jk104 (n:Nat) (h:Nat->Int) :Nat->V:=lkV A8 []
theorem AbL (L:LT) (p0:PT) (n:Nat) (h:Nat->Int) (b i:Nat)  (hp0:p0 (body104 (onP 0 p0 (en104e n h b i) L)) (st104 n h 0 1 (jk104 n h )) = true):(As (Aj tab ⟨Ao U0,onP 0 p0 (en104e n h b i) L,Gl⟩ Try.f113 [Cg n h] [])).sem = some ((nV b),[]):=Aa [true] [p0 (body104 (onP 0 p0 (en104e n h b i) L)) (st104 n h 0 1 (jk104 n h ))] (by kernel_rfl) (by simp only [hp0] <;> rfl)
theorem run104 (L:LT) (n:Nat) (h:Nat->Int) (h8:BL n = true):∀ (d i b:Nat) (j:Nat->V) (q:Nat),n = i+d->b < i->d < q ->
    (A7 (body104 L) (lp104 n h) q (st104 n h b i j)).sem = some (en104e n h (T9 n h d i b) n)
  | 0,i,b,j,q+1,h1,_,_=>by
    have:n = i:=by omega
    subst this
    exact Ac (XV L n h b n j (AA (Nat.le_refl _)))
  | d+1,i,b,j,q+1,h1,hb,h2=>by
    have hi:i < n:=by omega
    unfold T9
    cases ha:G3 n h i b with
    | true =>
      rw [if_pos rfl,Ac (Afi L n h b i j (ofNat_lt hi) h8 (Mx hi) (Mx (by omega)) ha),Av,Aq hi (CP h8)]
      exact run104 L n h h8 d (i+1) i (fun _=>.und) q (by omega) (by omega) (by omega)
    | false =>
      rw [if_neg (by decide),Ac (Afj L n h b i j (ofNat_lt hi) h8 (Mx hi) (Mx (by omega)) ha),Av,Aq hi (CP h8)]
      exact run104 L n h h8 d (i+1) b (fun _=>.und) q (by omega) (by omega) (by omega)
def Aci:List V->T (V × List Blk):=AbE fun n h=>.br (BL n) (out (iV (ofNat (Wm n h)))) .fail
theorem p104:AB Try.prog Gl 113 Aci:=by
  refine A1 AQ AR Try.func113 (by kernel_rfl) (by kernel_rfl) fun vs v h' hh=>?_
  obtain ⟨n,h,hA,h1⟩:=P8 hh
  obtain ⟨h8,h3⟩:=Ah h1
  have:=Ad h3
  simp only [Prod.mk.injEq] at this
  obtain ⟨rfl,rfl⟩:=this
  have hx:=AP Xr [(0,lp104 n h)]
  have hL:=AD [(0,lp104 n h)]
  refine ⟨_,AI Gl U0 [(0,lp104 n h)],_,hA,rfl,hx.1,hx.2,?_,A6.refl _⟩
  unfold Wm
  rcases Nat.eq_zero_or_pos n with rfl | hn
  · exact A3 (Aw hL hL) _ (AbL _ _ 0 h 0 0 (An (Ac (XV _ 0 h 0 1 (jk104 0 h) (AA (by omega))))))
  · exact A3 (Aw hL hL) _ (AbL _ _ n h _ n (An (run104 _ n h h8 (n - 1) 1 0 (jk104 n h) (n+1) (by omega) (by omega) (by omega))))
noncomputable def OH:List (Nat × (List V->T (V × List Blk))):=(98,BN SJ) :: []
theorem Xs:AC Try.prog Gl OH:=.cons p25 .nil
def en103f (n:Nat) (f:Nat->E6) (k:Nat) (x:Nat->V):Ex × St:=(.rt,⟨(jsV 31 0 (fun _=>.und) [(2,.ref 2),(3,bV false),(4,.ref 1)]),[.row 3 1 0 fun _=>.und,.row 3 1 k x,.row 3 1 0 fun _=>.und]⟩)
def lp103 (n:Nat) (f:Nat->E6):Lp:=⟨(bmK 31 0 [0,2,3,4,5]),2,bmK 31 0 [2,3,4],3,n+1⟩
def st103 (n:Nat) (f:Nat->E6) (i k:Nat) (x:Nat->V) (j:Nat->V):St:=⟨(jsV 31 0 j [(0,.sl 6 n fun i=>eV (f i)),(2,.ref 0),(3,bV false),(4,.ref 1),(5,nV i)]),[.row 3 1 0 fun _=>.und,.row 3 1 k x]⟩
def en103e (n:Nat) (f:Nat->E6) (i k:Nat) (x:Nat->V):Ex × St:=(.ex 0,⟨(jsV 31 0 (fun _=>.und) [(2,.ref 0),(3,bV false),(4,.ref 1)]),[.row 3 1 0 fun _=>.und,.row 3 1 k x]⟩)
noncomputable def body103 (L:LT):St->T (Ex × St):=fun st=>AE tab ⟨Ao OH,L,Gl⟩ (Az Try.f70 0) 0 st
section
variable (L:LT) (n:Nat) (f:Nat->E6) (i k:Nat) (x:Nat->V)  (j:Nat->V)
include L n f i k x j
theorem Afk (h0:ilt (ofNat i) (ofNat n) = false):Al (body103 L) (lp103 n f) (st103 n f i k x j) = some ((.ex 0),⟨(jsV 31 0 (fun _=>.und) [(2,(.ref 0)),(3,(bV false)),(4,(.ref 1))]),[r3Z,.row 3 1 k x]⟩):=Aa [false] [ilt (ofNat i) (ofNat n)] (by kernel_rfl) (by simp only [h0] <;> rfl)
theorem XW (h0:ilt (ofNat i) (ofNat n) = true) (h20:ile 0 (ofNat i) = true) (h1:ieq (AT (f i)) 0 = true) (h21:AN k 1 8 = true):Al (body103 L) (lp103 n f) (st103 n f i k x j) = some (.nm,⟨(jsV 31 0 (fun _=>.und) [(0,(.sl 6 n (fun i=>eV (f i)))),(2,(.ref 0)),(3,(bV false)),(4,(.ref 1)),(5,(iV (wr .i64 (Af (ofNat i) 1))))]),[r3Z,.row 3 1 (Bj k 1) (AO k x (iV (B8 (f i))))]⟩):=Aa [true,true,false,true] [ilt (ofNat i) (ofNat n),Ag (ile 0 (ofNat i)) (ilt (ofNat i) (ofNat n)),Am (ieq (AT (f i)) 0),AN k 1 8] (by kernel_rfl) (by simp only [*] <;> rfl)
theorem XX (h0:ilt (ofNat i) (ofNat n) = true) (h20:ile 0 (ofNat i) = true) (h1:ieq (AT (f i)) 0 = false):Al (body103 L) (lp103 n f) (st103 n f i k x j) = some (.rt,⟨(jsV 31 0 (fun _=>.und) [(2,(.ref 2)),(3,(bV false)),(4,(.ref 1))]),[r3Z,.row 3 1 k x,r3Z]⟩):=Aa [true,true,true] [ilt (ofNat i) (ofNat n),Ag (ile 0 (ofNat i)) (ilt (ofNat i) (ofNat n)),Am (ieq (AT (f i)) 0)] (by kernel_rfl) (by simp only [*] <;> rfl)
end
def jk103 (n:Nat) (f:Nat->E6) :Nat->V:=lkV A8 []
theorem Adw (L:LT) (p0:PT) (n:Nat) (f:Nat->E6) (i k:Nat) (x:Nat->V)  (hp0:p0 (body103 (onP 0 p0 (en103e n f i k x) L)) (st103 n f 0 0 (fun _=>.und) (jk103 n f )) = true):(As (Aj tab ⟨Ao OH,onP 0 p0 (en103e n f i k x) L,Gl⟩ Try.f70 [A2 n f] [])).sem = some ((.tup [.ref 0,bV true]),[.row 3 1 k x]):=Aa [true] [p0 (body103 (onP 0 p0 (en103e n f i k x) L)) (st103 n f 0 0 (fun _=>.und) (jk103 n f ))] (by kernel_rfl) (by simp only [hp0] <;> rfl)
theorem Adv (L:LT) (p0:PT) (n:Nat) (f:Nat->E6) (k:Nat) (x:Nat->V)  (hp0:p0 (body103 (onP 0 p0 (en103f n f k x) L)) (st103 n f 0 0 (fun _=>.und) (jk103 n f )) = true):(As (Aj tab ⟨Ao OH,onP 0 p0 (en103f n f k x) L,Gl⟩ Try.f70 [A2 n f] [])).sem = some ((.tup [.ref 0,bV false]),[r3Z]):=Aa [true] [p0 (body103 (onP 0 p0 (en103f n f k x) L)) (st103 n f 0 0 (fun _=>.und) (jk103 n f ))] (by kernel_rfl) (by simp only [hp0] <;> rfl)
theorem UE (L:LT) (n:Nat) (f:Nat->E6) (hn:AL n = true) (e:Nat) (he:e < n) (hb:AT (f e) = 30) (ho:∀ t,t < e->AT (f t) = 0):∀ (d i:Nat) (j:Nat->V) (q:Nat),e = i+d->d < q ->
    (A7 (body103 L) (lp103 n f) q (st103 n f i i (BM (cdV f) i) j)).sem = some (en103f n f e (BM (cdV f) e))
  | 0,i,j,q+1,h1,_=>by
    have:e = i:=by omega
    subst this
    exact Ac (XX L n f e e (BM (cdV f) e) j (ofNat_lt he) (NF e) (by rw [hb]; rfl))
  | d+1,i,j,q+1,h1,h2=>by
    have hi:i < n:=by omega
    have hr:=XW L n f i i (BM (cdV f) i) j (ofNat_lt hi) (NF i) (by rw [ho i (by omega)]; rfl) (Rc hi (by decide) (of_decide_eq_true hn))
    rw [Ac hr,Av,Aq hi (Jf hn)]
    exact UE L n f hn e he hb ho d (i+1) (fun _=>.und) q (by omega) (by omega)
theorem run103 (L:LT) (n:Nat) (f:Nat->E6) (hn:AL n = true):∀ (d i:Nat) (j:Nat->V) (q:Nat),n = i+d->d < q->(∀ t,t < i->AT (f t) = 0) ->
    (BW n f = true ∧ (A7 (body103 L) (lp103 n f) q (st103 n f i i (BM (cdV f) i) j)).sem = some (en103e n f n n (BM (cdV f) n))) ∨ (BW n f = false ∧ ∃ e,(A7 (body103 L) (lp103 n f) q (st103 n f i i (BM (cdV f) i) j)).sem = some (en103f n f e (BM (cdV f) e)))
  | 0,i,j,q+1,h1,_,ho=>by
    have:n = i:=by omega
    subst this
    exact .inl ⟨GE.2 ho,Ac (Afk L n f n n _ j (AA (Nat.le_refl _)))⟩
  | d+1,i,j,q+1,h1,h2,ho=>by
    have hi:i < n:=by omega
    by_cases hc:AT (f i) = 0
    · have hr:=XW L n f i i (BM (cdV f) i) j (ofNat_lt hi) (NF i) (by rw [hc]; rfl) (Rc hi (by decide) (of_decide_eq_true hn))
      have ih:=run103 L n f hn d (i+1) (fun _=>.und) q (by omega) (by omega) fun t ht=>by
        by_cases hti:t = i
        · rw [hti]; exact hc
        · exact ho t (by omega)
      rw [Ac hr,Av,Aq hi (Jf hn)]
      exact ih
    · refine .inr ⟨?_,i,Ac (XX L n f i i (BM (cdV f) i) j (ofNat_lt hi) (NF i) (by simp [ieq,hc]))⟩
      cases hm:BW n f with
      | false=>rfl
      | true=>exact absurd (GE.1 hm i hi) hc
def VE:List V->T (V × List Blk):=Ha fun n f=>.br (AL n) (.br (BW n f) (.leaf (.tup [.ref 0,bV true],[.row 3 1 n fun i=>iV (B8 (f i))])) (.leaf (.tup [.ref 0,bV false],[.row 3 1 0 fun _=>.und]))) .fail
theorem p103:AB Try.prog Gl 70 VE:=by
  refine A1 AQ AR Try.func70 (by kernel_rfl) (by kernel_rfl) fun vs v h' h=>?_
  obtain ⟨n,f,ha,h⟩:=CV h
  obtain ⟨hn,h⟩:=Ah h
  have hx:=AP Xs [(0,lp103 n f)]
  have hL:=AD [(0,lp103 n f)]
  have hr:=fun L=>run103 L n f hn n 0 (jk103 n f) (n+1) (by omega) (by omega) fun t ht=>absurd ht (Nat.not_lt_zero _)
  cases hm:BW n f with
  | true =>
    rw [hm] at h
    have:=Ad h
    simp only [Prod.mk.injEq] at this
    obtain ⟨rfl,rfl⟩:=this
    exact ⟨_,AI Gl OH [(0,lp103 n f)],_,ha,rfl,hx.1,hx.2,A3 (Aw hL hL) _ (Adw _ _ n f n n _ (An ((hr _).elim (fun q=>q.2) fun q=>by rw [hm] at q; cases q.1))),A6.one fun j hj=>(Ij (cdV f) n j hj).symm⟩
  | false =>
    rw [hm] at h
    have:=Ad h
    simp only [Prod.mk.injEq] at this
    obtain ⟨rfl,rfl⟩:=this
    obtain ⟨e,h1,h2,h3⟩:=Yl hm
    exact ⟨_,AI Gl OH [(0,lp103 n f)],_,ha,rfl,hx.1,hx.2,A3 (Aw hL hL) _ (Adv _ _ n f e (BM (cdV f) e) (An (UE _ n f hn e h1 h2 h3 e 0 (jk103 n f) (n+1) (by omega) (by omega)))),A6.refl _⟩
noncomputable def Xj:List (Nat × (List V->T (V × List Blk))):=(70,VE) :: (113,Aci) :: (21,Mo) :: []
theorem ZV:AC Try.prog Gl Xj:=.cons p103 <| .cons p104 <| .cons p69 .nil
section
variable (L:LT) (n:Nat) (f:Nat->E6)
include L n f
theorem Ag1 (h19:AL n = true) (h0:BW n f = true) (h20:BL n = true):(As (Aj tab ⟨Ao Xj,L,Gl⟩ Try.f93 [A2 n f] [])).sem = some ((.tup [.ref 0,iV 0]),[.row 44 6 n (fun i=>eV (Jv n f (ofNat (Wm n (fun i=>B8 (f i)))) i))]):=Aa (bbK 8 247) ((fun c0 c1=>[c0,c1,BW n f,Am true,c0,BL n,c0,c1]) (Ai n (fun _=>true)) (AL n)) (by kernel_rfl) (by simp only [*,Ar] <;> rfl)
theorem Ag2 (h19:AL n = true) (h0:BW n f = false):(As (Aj tab ⟨Ao Xj,L,Gl⟩ Try.f93 [A2 n f] [])).sem = some ((.tup [.ref 0,iV 30]),[.row 44 6 0 (fun _=>.und)]):=Aa [true,true,false,true] [Ai n (fun _=>true),AL n,BW n f,Am false] (by kernel_rfl) (by simp only [h19,h0,Ar] <;> rfl)
end
def UJ:List V->T (V × List Blk):=Ha fun n f=>.br (AL n) (.br (BW n f) (.leaf (.tup [.ref 0,iV 0],[.row 44 6 n fun i=>eV (Jv n f (ofNat (Wm n fun k=>B8 (f k))) i)])) (.leaf (.tup [.ref 0,iV 30],[.row 44 6 0 fun _=>.und]))) .fail
theorem p66:AB Try.prog Gl 93 UJ:=by
  refine A1 AQ AR Try.func93 (by kernel_rfl) (by kernel_rfl) fun vs v h' h=>?_
  obtain ⟨n,f,ha,h⟩:=CV h
  obtain ⟨hn,h⟩:=Ah h
  have hx:=AP ZV []
  cases hm:BW n f with
  | true =>
    rw [hm] at h
    have:=Ad h
    simp only [Prod.mk.injEq] at this
    obtain ⟨rfl,rfl⟩:=this
    exact ⟨_,AI Gl Xj [],_,ha,rfl,hx.1,hx.2,Ag1 _ n f hn hm (EY hn),A6.refl _⟩
  | false =>
    rw [hm] at h
    have:=Ad h
    simp only [Prod.mk.injEq] at this
    obtain ⟨rfl,rfl⟩:=this
    exact ⟨_,AI Gl Xj [],_,ha,rfl,hx.1,hx.2,Ag2 _ n f hn hm,A6.refl _⟩
theorem Hi {n:Nat} {h g:Nat->Int} (hg:∀ i,i < n->g i = h i) (p i:Nat) (hn:0 < n):EU n g p i = EU n h p i:=hg _ (Nat.mod_lt _ hn)
theorem Sf {n:Nat} {h g:Nat->Int} (hg:∀ i,i < n->g i = h i) {p:Nat} (hp:EJ n g p):EJ n h p:=by
  have hn:0 < n:=by have:=hp.1; omega
  refine ⟨hp.1,fun q hq hl=>hp.2 q hq ?_⟩
  obtain ⟨s,h1,h2,h3⟩:=hl
  exact ⟨s,h1,fun t ht=>by rw [Hi hg _ _ hn,Hi hg _ _ hn]; exact h2 t ht,by rw [Hi hg _ _ hn,Hi hg _ _ hn]; exact h3⟩
theorem AbA {n:Nat} {f l:Nat->E6} (hm:BW n f = true) (hl:∀ i,i < n->l i = f i):∀ i,i < n->B1 n l i = Jv n f (ofNat (Wm n fun k=>B8 (f k))) i:=fun i hi=>by
  have hn:0 < n:=by omega
  have h1:EJ n (fun k=>B8 (f k)) (C1 n fun k=>B8 (l k)):=Sf (g:=fun k=>B8 (l k)) (fun t ht=>by show B8 (l t) = B8 (f t); rw [hl t ht]) (TO n _ hn)
  have h2:=XU (fun k=>B8 (f k)) hn
  have h3:=YH h1 h2 i hi
  unfold B1 Jv
  rw [VQ h2.1,hl _ (Nat.mod_lt _ hn)]
  exact Ab9 (GE.1 hm _ (Nat.mod_lt _ hn)) (GE.1 hm _ (Nat.mod_lt _ hn)) h3
end Go.Proofs.Ytjhnfomefcngfaa.Ed
namespace Go.Proofs.Ytjhnfomefcngfaa.Sh
open Go.Sy Ed
structure Cod (α:Type) where
  size:Nat
  enc:α->V
  ok:V->Bool
  ed:V->α
  law:∀ v,ok v = true->∀ (S:Nat->Prop) (w:World) (c:Value),VR S w v noK c->VR S w (enc (ed v)) noK c
def TV (s:Nat):V->Option (Nat × (Nat->V))
  | .sl s' n g=>match Nat.beq s' s with
    | true=>some (n,g)
    | false=>match n with
      | 0=>some (0,g)
      | _=>none
  | .slr s' n _ g=>match Nat.beq s' s with
    | true=>some (n,g)
    | false=>none
  | .nilS=>some (0,fun _=>.und)
  | _=>none
theorem Su {s:Nat} {v:V} {n:Nat} {g:Nat->V} (hg:TV s v = some (n,g)) {e:Nat->V} (he:∀ i,i < n->∀ (S:Nat->Prop) (w:World) (c:Value),VR S w (g i) noK c->VR S w (e i) noK c)
    {S:Nat->Prop} {w:World} {c:Value} (hv:VR S w v noK c):VR S w (.sl s n e) noK c:=by
  unfold TV at hg
  split at hg
  · rename_i s' n' g'
    split at hg
    · rename_i hs
      simp only [Option.some.injEq,Prod.mk.injEq] at hg
      obtain ⟨rfl,rfl⟩:=hg
      have hs:s' = s:=Nat.eq_of_beq_eq_true hs
      subst hs
      obtain ⟨a,cap,ea,hc,hb⟩:=hv
      refine ⟨a,cap,ea,hc,hb.imp id ?_⟩
      rintro ⟨b,o,eb,hel⟩
      refine ⟨b,o,eb,fun i hi=>?_⟩
      obtain ⟨ci,h1,h2⟩:=hel i hi
      exact ⟨ci,he i hi S w ci h1,h2⟩
    · split at hg
      · simp only [Option.some.injEq,Prod.mk.injEq] at hg
        obtain ⟨rfl,rfl⟩:=hg
        obtain ⟨a,cap,ea,hc,_⟩:=hv
        exact ⟨a,cap,ea,hc,.inl rfl⟩
      · cases hg
  · rename_i s' n' m' g'
    split at hg
    · rename_i hs
      simp only [Option.some.injEq,Prod.mk.injEq] at hg
      obtain ⟨rfl,rfl⟩:=hg
      have hs:s' = s:=Nat.eq_of_beq_eq_true hs
      subst hs
      obtain ⟨a,cap,ea,hc,hm,hb⟩:=hv
      refine ⟨a,cap,ea,Nat.le_trans hc hm,?_⟩
      rcases hb with h0 | ⟨b,o,eb,hel⟩
      · exact .inl (by omega)
      · refine .inr ⟨b,o,eb,fun i hi=>?_⟩
        obtain ⟨ci,h1,h2⟩:=hel i (by omega)
        exact ⟨ci,he i hi S w ci h1,h2⟩
    · cases hg
  · simp only [Option.some.injEq,Prod.mk.injEq] at hg
    obtain ⟨rfl,rfl⟩:=hg
    have hv:c = .slice none 0 0:=hv
    exact ⟨none,0,hv,Nat.le_refl _,.inl rfl⟩
  · cases hg
def apG {α β:Type} (c:Cod α) (v:V) (F:Nat->(Nat->α)->T β):T β :=
  match TV c.size v with
  | some (n,g)=>.br (Ai n fun i=>c.ok (g i)) (F n fun i=>c.ed (g i)) .fail
  | none=>.fail
def Il {α:Type} (c:Cod α) (n:Nat) (f:Nat->α):V:=.sl c.size n fun i=>c.enc (f i)
theorem BZ {α β:Type} {c:Cod α} {v:V} {F:Nat->(Nat->α)->T β} {r:β} (h:(apG c v F).sem = some r) :
    ∃ n f,(∀ (S:Nat->Prop) (w:World) (u:Value),VR S w v noK u->VR S w (Il c n f) noK u) ∧ (F n f).sem = some r:=by
  unfold apG at h
  split at h
  · rename_i n g hg
    obtain ⟨h1,h2⟩:=Ah h
    have h1:=A4.1 h1
    exact ⟨n,_,fun S w u hv=>Su hg (fun i hi S w cc hc=>c.law _ (h1 i hi) S w cc hc) hv,h2⟩
  · cases h
def QV:Cod E6:=⟨6,eV,okE,edE,fun v h S w c hv=>by rw [<- Nr h]; exact hv⟩
def QU:Cod Int:=⟨1,iV,okI,edI,fun v h S w c hv=>by rw [<- Nq h]; exact hv⟩
def toX:V->Option Ev5
  | .agg [.val (.int .i64 a),.val (.int .i64 b),.val (.int .i64 c),.val (.int .i64 d),.val (.int .i64 e)]=>some ⟨a,b,c,d,e⟩
  | _=>none
theorem Xe {v:V} {e:Ev5} (h:toX v = some e):v = evV e:=by
  unfold toX at h
  split at h
  · simp only [Option.some.injEq] at h
    subst h
    rfl
  · cases h
def okX (v:V):Bool:=match toX v with
  | some _=>true
  | none=>false
def edX (v:V):Ev5:=match toX v with
  | some e=>e
  | none=>⟨0,0,0,0,0⟩
theorem Yh {v:V} (h:okX v = true):v = evV (edX v):=by
  unfold okX at h
  unfold edX
  split at h
  · rename_i e he
    exact Xe he
  · cases h
def QS:Cod Ev5:=⟨5,evV,okX,edX,fun v h S w c hv=>by rw [<- Yh h]; exact hv⟩
def okJ (v:V):Bool:=match TV 1 v with
  | some (n,g)=>Ai n fun i=>okI (g i)
  | none=>false
def edJ (v:V):Nat × (Nat->Int):=match TV 1 v with
  | some (n,g)=>(n,fun i=>edI (g i))
  | none=>(0,fun _=>0)
def QT:Cod (Nat × (Nat->Int)):=⟨1,fun p=>.sl 1 p.1 fun i=>iV (p.2 i),okJ,edJ,fun v h S w c hv=>by
  unfold okJ at h
  unfold edJ
  split at h
  · rename_i n g hg
    have h:=A4.1 h
    exact Su hg (fun i hi S w cc hc=>by rw [<- Nq (h i hi)]; exact hc) hv
  · cases h⟩
structure Sh7 where
  arch:Int
  ne:Nat
  E:Nat->E6
  nx:Nat
  X:Nat->Ev5
  tt:Int
  kk:Int
  nr:Nat
  R:Nat->Int
  nc:Nat
  C:Nat->Nat × (Nat->Int)
def PN (s:Sh7):V:=.agg [iV s.arch,Il QV s.ne s.E,Il QS s.nx s.X,iV s.tt,iV s.kk,Il QU s.nr s.R,Il QT s.nc s.C]
def apS {β:Type} (v:V) (F:Sh7->T β):T β :=
  match v with
  | .agg [.val (.int .i64 a),e,x,.val (.int .i64 t),.val (.int .i64 k),r,c]=>apG QV e fun ne E=>apG QS x fun nx X=>apG QU r fun nr R=>apG QT c fun nc C=>F ⟨a,ne,E,nx,X,t,k,nr,R,nc,C⟩
  | _=>.fail
theorem Ci {β:Type} {v:V} {F:Sh7->T β} {r:β} (h:(apS v F).sem = some r) :
    ∃ s,(∀ (S:Nat->Prop) (w:World) (u:Value),VR S w v noK u->VR S w (PN s) noK u) ∧ (F s).sem = some r:=by
  unfold apS at h
  split at h
  · obtain ⟨ne,E,h1,h⟩:=BZ h
    obtain ⟨nx,X,h2,h⟩:=BZ h
    obtain ⟨nr,R,h3,h⟩:=BZ h
    obtain ⟨nc,C,h4,h⟩:=BZ h
    refine ⟨_,fun S w u hv=>?_,h⟩
    obtain ⟨ca,rfl,a1,l1,rfl,q1,a2,l2,rfl,q2,a3,l3,rfl,q3,a4,l4,rfl,q4,a5,l5,rfl,q5,a6,l6,rfl,q6,a7,l7,rfl,q7,q8⟩:=hv
    exact ⟨_,rfl,a1,_,rfl,q1,a2,_,rfl,h1 S w _ q2,a3,_,rfl,h2 S w _ q3,a4,_,rfl,q4,a5,_,rfl,q5,a6,_,rfl,h3 S w _ q6,a7,_,rfl,h4 S w _ q7,q8⟩
  · cases h
theorem Wq {P:Program} {G:Nat->V} {f:FuncId} {F F':List V->T (V × List Blk)} (h:AB P G f F) (hF:∀ vs v h',(F' vs).sem = some (v,h')->∃ h'',(F vs).sem = some (v,h'') ∧ A6 h'' h'):AB P G f F':=by
  refine ⟨h.1,fun vs cs S w v h' h1 h2 h3 h4=>?_⟩
  obtain ⟨h'',h5,h6⟩:=hF vs v h' h4
  obtain ⟨hr,hc⟩:=h.2 vs cs S w v h'' h1 h2 h3 h5
  refine ⟨h6.rows hr,hc.mono ?_⟩
  rintro e w' ⟨u,κ',S',rfl,g1,g2,g3⟩
  obtain ⟨p1,p2⟩:=h6.good g1
  refine ⟨u,κ',S',rfl,p1,g2,Ext.ofNil g3.os g3.tape g3.output g3.size g3.keep (fun i b hb=>?_) g3.sub g3.sup (h6.rows hr)⟩
  rw [p2] at hb
  exact g3.own i b hb
theorem p93:AB Try.prog Gl 93 Oi:=by
  refine Wq p66 fun vs v h' h=>?_
  unfold Oi at h
  unfold UJ
  unfold Ha at h ⊢
  split at h
  · rename_i u
    unfold apL at h ⊢
    split at h
    · rename_i n g hg
      obtain ⟨h1,h2⟩:=Ah h
      obtain ⟨h3,h4⟩:=Ah h2
      rw [h1]
      dsimp only
      rw [h3]
      cases hm:BW n (fun i=>edE (g i)) with
      | false =>
        rw [hm] at h4
        exact ⟨h',h4,A6.refl _⟩
      | true =>
        rw [hm] at h4
        have:=Ad h4
        simp only [Prod.mk.injEq] at this
        obtain ⟨rfl,rfl⟩:=this
        refine ⟨_,rfl,A6.one fun i hi=>?_⟩
        rw [AbA hm (fun _ _=>rfl) i hi]
    · cases h
  · cases h
abbrev shL (a:Int) (n:Nat) (g:Nat->E6) (m:Nat) (x:Nat->Ev5) (t k:Int) (p:Nat) (r:Nat->Int) (q:Nat) (ln:Nat->Nat) (co:Nat->Nat->Int):List V:=[iV a,.sl 6 n (fun i=>eV (g i)),.sl 5 m (fun i=>evV (x i)),iV t,iV k,.sl 1 p (fun i=>iV (r i)),.sl 1 q (fun u=>.sl 1 (ln u) (fun i=>iV (co u i)))]
theorem jlC (c:List V) (l:List Blk):AU (.cells c::l) = AU l:=rfl
theorem jlR (e s n:Nat) (g:Nat->V) (l:List Blk):AU (.row e s n g::l) = AU l:=rfl
theorem jlJ (e s n:Nat) (g:Nat->V) (o e' s':Nat) (ln:Nat->Nat) (m:Nat->Nat->V) (l:List Blk):AU (.jag ⟨e,s,n,g,o,e',s',fun _=>true,ln,m⟩::l) = AU l:=by simp [AU]
theorem jlN:AU [] = true:=rfl
end Go.Proofs.Ytjhnfomefcngfaa.Sh
