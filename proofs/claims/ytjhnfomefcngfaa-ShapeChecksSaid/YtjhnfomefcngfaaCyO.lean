/-
  Canon and Same, and the law CycleApart as a function: two lists are one another turned just if their least turned lists are the same. No conditions.
-/
import Derived.Test.YtjhnfomefcngfaaCyL
namespace Go.Proofs.Ytjhnfomefcngfaa.Ed
open Go.Sy
open Int (ofNat)
theorem NJ (n m:Nat) (gx g:Nat->V) (i:Nat) (h:i < n+m):Br n m gx g i = bif Nat.blt i n then gx i else g (i - n):=by
  cases hb:Nat.blt i n with
  | true=>exact NH n m gx g i (Nat.blt_eq ▸ hb)
  | false =>
    have h1:n <= i:=by
      rcases Nat.lt_or_ge i n with h2 | h2
      · rw [show Nat.blt i n = true from Nat.blt_eq ▸ h2] at hb; cases hb
      · exact h2
    have:=NI n m gx g (i - n) (by omega)
    rw [show n+(i - n) = i by omega] at this
    exact this
theorem Tc {α:Type} (n k:Nat) (z:Nat->V) (h:Nat->α) (e:α->V) (hk:k < n ∨ n = 0 ∧ k = 0):Bj (Bj 0 (Hr n k)) k = n ∧ ∀ j,j < n ->
    Br (Bj 0 (Hr n k)) k (Br 0 (Hr n k) z (fun i=>e (h (Bj k i)))) (fun i=>e (h i)) j = e (h ((k+j) % n)):=by
  have h1:Bj 0 (Hr n k) = n - k:=by simp [Bj,Hr]
  have h2:Hr n k = n - k:=rfl
  refine ⟨by rw [h1]; show n - k+k = n; omega,fun j hj=>?_⟩
  rw [h1,h2,NJ _ _ _ _ j (by omega)]
  cases hb:Nat.blt j (n - k) with
  | true =>
    have hb:j < n - k:=Nat.blt_eq ▸ hb
    show Br 0 (n - k) z (fun i=>e (h (Bj k i))) j = _
    rw [NJ _ _ _ _ j (by omega)]
    show e (h (k+(j - 0))) = _
    rw [Nat.mod_eq_of_lt (by omega),Nat.sub_zero]
  | false =>
    have hb:n - k <= j:=by
      rcases Nat.lt_or_ge j (n - k) with h3 | h3
      · rw [show Nat.blt j (n - k) = true from Nat.blt_eq ▸ h3] at hb; cases hb
      · exact h3
    show e (h (j - (n - k))) = _
    rw [show k+j = j - (n - k)+n by omega,Nat.add_mod_right,Nat.mod_eq_of_lt (by omega)]
def BL (n:Nat):Bool:=decide (n * 8 <= 140737488355328)
theorem CP {n:Nat} (h:BL n = true):n <= 4611686018427387904:=by
  have h:n * 8 <= 140737488355328:=of_decide_eq_true h
  omega
theorem YR {n:Nat} (h:BL n = true):Ab n = true:=decide_eq_true (CP h)
theorem AfF {n:Nat} (h:BL n = true):YQ n = true:=by
  have h:n * 8 <= 140737488355328:=of_decide_eq_true h
  exact decide_eq_true (by omega)
theorem EY {n:Nat} (h:AL n = true):BL n = true:=by
  have h:n * 40 <= 140737488355328:=of_decide_eq_true h
  exact decide_eq_true (by omega)
theorem Lk (n:Nat) (h:Nat->Int):∀ q i t s,Es n h q i t s <= n - 1
  | 0,_,_,_=>Nat.zero_le _
  | q+1,i,t,s=>by
    unfold Es
    split
    · omega
    · split
      · exact Lk n h q _ _ _
      · split <;> exact Lk n h q _ _ _
theorem W0 (n:Nat) (h:Nat->Int):C1 n h <= n - 1:=Lk n h _ _ _ _
theorem Pn (n:Nat) (h:Nat->Int):C1 n h < n ∨ n = 0 ∧ C1 n h = 0:=by
  have:=W0 n h
  omega
def N8 (n:Nat) (f:Nat->E6):Lp:=⟨(bmK 28 0 [0,2,3,4,9,10,11]),2,bmK 28 0 [2,3,4],4,n+1⟩
def MU (n:Nat) (f:Nat->E6) (i k:Nat) (x:Nat->V) (j:Nat->V):St:=⟨(jsV 28 0 j [(0,.sl 6 n fun i=>eV (f i)),(2,.ref 0),(3,iV 0),(4,.ref 1),(9,.sl 6 n fun i=>eV (f i)),(10,nV n),(11,nV i)]),[.row 3 1 0 fun _=>.und,.row 3 1 k x]⟩
def QP (n:Nat) (f:Nat->E6) (i k:Nat) (x:Nat->V):Ex × St:=(.ex 0,⟨(jsV 28 0 (fun _=>.und) [(2,.ref 0),(3,iV 0),(4,.ref 1)]),[.row 3 1 0 fun _=>.und,.row 3 1 k x]⟩)
def QO (n:Nat) (f:Nat->E6) (i k:Nat) (x:Nat->V):Ex × St:=(.rt,⟨(jsV 28 0 (fun _=>.und) [(2,.ref 3),(3,iV 30),(4,.ref 1)]),[.row 3 1 0 fun _=>.und,.row 3 1 k x,.cells [iV ((f i)).kind,bV ((f i)).ext,bV ((f i)).same,iV ((f i)).src,iV ((f i)).dst,iV ((f i)).fence],.row 3 1 0 fun _=>.und]⟩)
noncomputable def HE (L:LT):St->T (Ex × St):=fun st=>AE tab ⟨Ao tb8,L,Gl⟩ (Az Try.f89 0) 0 st
theorem Kc (L:LT) (n:Nat) (f:Nat->E6) (i k:Nat) (x:Nat->V) (j:Nat->V):Al (HE L) (N8 n f) (MU n f i k x j)
 = (sel (ilt (ofNat i) (ofNat n)) (sel (Ag (ile 0 (ofNat i)) (ilt (ofNat i) (ofNat n))) (sel (Am (ieq (AT (f i)) 0)) (some (.rt,⟨[.und,.und,(.ref 3),(iV 30),(.ref 1),.und,.und,.und,.und,.und,.und,.und,.und,.und,.und,.und,.und,.und,.und,.und,.und,.und,.und,.und,.und,.und,.und,.und],[r3Z,(.row 3 1 k x),(.cells [(iV ((f i)).kind),(bV ((f i)).ext),(bV ((f i)).same),(iV ((f i)).src),(iV ((f i)).dst),(iV ((f i)).fence)]),r3Z]⟩)) (sel (AN k 1 8) (some (.nm,⟨[(.sl 6 n (fun i=>(eV (f i)))),.und,(.ref 0),(iV 0),(.ref 1),.und,.und,.und,.und,(.sl 6 n (fun i=>(eV (f i)))),(nV n),(iV (wr .i64 (Af (ofNat i) 1))),.und,.und,.und,.und,.und,.und,.und,.und,.und,.und,.und,.und,.und,.und,.und,.und],[r3Z,(.row 3 1 (Bj k 1) (AO k x (iV (B8 (f i)))))]⟩)) none)) none) (some ((.ex 0),⟨[.und,.und,(.ref 0),(iV 0),(.ref 1),.und,.und,.und,.und,.und,.und,.und,.und,.und,.und,.und,.und,.und,.und,.und,.und,.und,.und,.und,.und,.und,.und,.und],[r3Z,(.row 3 1 k x)]⟩))):=by kernel_rfl
def Pp (n:Nat) (f:Nat->E6) :Nat->V:=lkV A8 []
section
variable (L:LT) (p0:PT) (n:Nat) (f:Nat->E6) (i k:Nat) (x:Nat->V)
include L p0 n f i k x
theorem Ady  (hp0:p0 (HE (onP 0 p0 (QP n f i k x) L)) (MU n f 0 0 (fun _=>.und) (Pp n f )) = true):(As (Aj tab ⟨Ao tb8,onP 0 p0 (QP n f i k x) L,Gl⟩ Try.f89 [A2 n f] [])).sem = some ((.tup [.ref 0,iV 0]),[.row 3 1 k x]):=Aa [true] [p0 (HE (onP 0 p0 (QP n f i k x) L)) (MU n f 0 0 (fun _=>.und) (Pp n f ))] (by kernel_rfl) (by simp only [hp0] <;> rfl)
theorem Adx  (hp0:p0 (HE (onP 0 p0 (QO n f i k x) L)) (MU n f 0 0 (fun _=>.und) (Pp n f )) = true):(As (Aj tab ⟨Ao tb8,onP 0 p0 (QO n f i k x) L,Gl⟩ Try.f89 [A2 n f] [])).sem = some ((.tup [.ref 0,iV 30]),[r3Z]):=Aa [true] [p0 (HE (onP 0 p0 (QO n f i k x) L)) (MU n f 0 0 (fun _=>.und) (Pp n f ))] (by kernel_rfl) (by simp only [hp0] <;> rfl)
end
theorem UG (L:LT) (n:Nat) (f:Nat->E6) (hn:AL n = true) (ho:∀ t,t < n->AT (f t) = 0):∀ (d i:Nat) (j:Nat->V) (q:Nat),n = i+d->d < q ->
    (A7 (HE L) (N8 n f) q (MU n f i i (BM (cdV f) i) j)).sem = some (QP n f 0 n (BM (cdV f) n))
  | 0,i,j,q+1,h1,_=>by
    have hi:i = n:=by omega
    subst hi
    rw [Ac (Kc L i f i i _ j),AA (Nat.le_refl i)]
    rfl
  | d+1,i,j,q+1,h1,h2=>by
    have hi:i < n:=by omega
    rw [Ac (Kc L n f i i _ j),Ax hi,ofNat_lt hi,Rc hi (by decide) (of_decide_eq_true hn),Aq hi (Jf hn),ho i hi]
    exact UG L n f hn ho d (i+1) (fun _=>.und) q (by omega) (by omega)
theorem UF (L:LT) (n:Nat) (f:Nat->E6) (hn:AL n = true) (e:Nat) (he:e < n) (hb:AT (f e) = 30) (ho:∀ t,t < e->AT (f t) = 0):∀ (d i:Nat) (j:Nat->V) (q:Nat),e = i+d->d < q ->
    (A7 (HE L) (N8 n f) q (MU n f i i (BM (cdV f) i) j)).sem = some (QO n f e e (BM (cdV f) e))
  | 0,i,j,q+1,h1,_=>by
    have hi:i = e:=by omega
    subst hi
    rw [Ac (Kc L n f i i _ j),Ax he,ofNat_lt he,hb]
    rfl
  | d+1,i,j,q+1,h1,h2=>by
    have hi:i < n:=by omega
    rw [Ac (Kc L n f i i _ j),Ax hi,ofNat_lt hi,Rc hi (by decide) (of_decide_eq_true hn),Aq hi (Jf hn),ho i (by omega)]
    exact UF L n f hn e he hb ho d (i+1) (fun _=>.und) q (by omega) (by omega)
theorem Ak1:AB Try.prog Gl 89 Zo:=by
  refine A1 AQ AR Try.func89 (by kernel_rfl) (by kernel_rfl) fun vs v h' h=>?_
  obtain ⟨n,f,ha,h⟩:=CV h
  obtain ⟨hn,h⟩:=Ah h
  have hx:=AP PC [(0,N8 n f)]
  cases hm:BW n f with
  | true =>
    rw [hm] at h
    have:=Ad h
    simp only [Prod.mk.injEq] at this
    obtain ⟨rfl,rfl⟩:=this
    exact ⟨_,cx9 [(0,N8 n f)],_,ha,rfl,hx.1,hx.2,A3 (Aw (AD _) (AD _)) _ (Ady _ _ n f 0 n _ (An (UG _ n f hn (GE.1 hm) n 0 (Pp n f) (n+1) (by omega) (by omega)))),
      A6.one fun j hj=>(Ij (cdV f) n j hj).symm⟩
  | false =>
    rw [hm] at h
    have:=Ad h
    simp only [Prod.mk.injEq] at this
    obtain ⟨rfl,rfl⟩:=this
    obtain ⟨e,h1,h2,h3⟩:=Yl hm
    have hw:=A3 (Aw (AD _) (AD _)) _ (Adx (Bk [(0,N8 n f)]) _ n f e e _ (An (UF _ n f hn e h1 h2 h3 e 0 (Pp n f) (n+1) (by omega) (by omega))))
    exact ⟨_,cx9 [(0,N8 n f)],_,ha,rfl,hx.1,hx.2,hw,A6.refl _⟩
theorem C6 {n m b:Nat} (h:(n+m) * b <= 140737488355328):AN n m b = true:=decide_eq_true h
def QW (f g:Nat->Int):Nat->Nat->Ordering
  | 0,_=>.eq
  | d+1,i=>if f i < g i then .lt else if g i < f i then .gt else QW f g d (i+1)
theorem VH (f g:Nat->Int):∀ d i,QW f g d i = .eq ↔ ∀ j,i <= j->j < i+d->f j = g j
  | 0,i=>by simp [QW]; intro j h1 h2; omega
  | d+1,i=>by
    unfold QW
    split
    · rename_i h
      refine ⟨fun h=>(by cases h),fun h1=>?_⟩
      have:=h1 i (Nat.le_refl _) (by omega)
      omega
    · split
      · rename_i h
        refine ⟨fun h=>(by cases h),fun h1=>?_⟩
        have:=h1 i (Nat.le_refl _) (by omega)
        omega
      · rw [VH f g d (i+1)]
        refine ⟨fun h1 j h2 h3=>?_,fun h1 j h2 h3=>h1 j (by omega) (by omega)⟩
        by_cases hj:j = i
        · subst hj; omega
        · exact h1 j (by omega) (by omega)
def G0 (n:Nat) (f:Nat->Int) (m:Nat) (g:Nat->Int):Int :=
  match QW f g (min n m) 0 with
  | .lt=>-1
  | .gt=>1
  | .eq=>if n < m then -1 else if m < n then 1 else 0
theorem WG (n:Nat) (f:Nat->Int) (m:Nat) (g:Nat->Int):G0 n f m g = 0 ↔ n = m ∧ ∀ i,i < n->f i = g i:=by
  unfold G0
  have hk:=VH f g (min n m) 0
  cases hc:QW f g (min n m) 0 with
  | lt =>
    refine ⟨fun h=>by simp at h,fun h=>?_⟩
    have:=hk.2 fun j _ h2=>h.2 j (by omega)
    rw [hc] at this; cases this
  | gt =>
    refine ⟨fun h=>by simp at h,fun h=>?_⟩
    have:=hk.2 fun j _ h2=>h.2 j (by omega)
    rw [hc] at this; cases this
  | eq =>
    have h1:=hk.1 hc
    by_cases h2:n < m
    · simp only [if_pos h2]
      exact ⟨fun h=>by simp at h,fun h=>by omega⟩
    · by_cases h3:m < n
      · simp only [if_neg h2,if_pos h3]
        exact ⟨fun h=>by simp at h,fun h=>by omega⟩
      · simp only [if_neg h2,if_neg h3]
        exact ⟨fun _=>⟨by omega,fun i hi=>h1 i (Nat.zero_le _) (by omega)⟩,fun _=>trivial⟩
def Ac2:List V->T (V × List Blk):=AbD fun n f m g=>.br (Ab n) (.br (Ab m) (out (iV (G0 n f m g))) .fail) .fail
noncomputable def Xk:List (Nat × (List V->T (V × List Blk))):=(89,Zo) :: (90,Y7) :: []
theorem ZW:AC Try.prog Gl Xk:=.cons Ak1 <| .cons Ak0 .nil
def Ach (n:Nat) (f:Nat->E6) (k:Nat):Blk:=.row 44 6 (Bj (Bj 0 (Hr n k)) k) (Br (Bj 0 (Hr n k)) k (Br 0 (Hr n k) (fun _=>eV FK) (fun i=>eV (f (Bj k i)))) (fun i=>eV (f i)))
section
variable (L:LT) (n:Nat) (f:Nat->E6)
include L n f
theorem Ag4 (h0:AL n = true) (h1:BW n f = false):(As (Aj tab ⟨Ao Xk,L,Gl⟩ Try.f51 [A2 n f] [])).sem = some ((.tup [.ref 0,iV 30]),[.row 44 6 0 (fun _=>.und)]):=Aa [true,true,false,true] [Ai n (fun _=>true),AL n,BW n f,Am (ieq 30 0)] (by kernel_rfl) (by simp only [h0,h1,Ar] <;> rfl)
theorem Ag3 (h0:AL n = true) (h1:BW n f = true) (h2:YQ n = true) (h3:BO 40 0 (ofNat n) = true) (h13:Ag (ile 0 (ofNat (C1 n (fun i=>B8 (f i))))) (ile (ofNat (C1 n (fun i=>B8 (f i)))) (ofNat n)) = true) (h14:AN 0 (Hr n (C1 n (fun i=>B8 (f i)))) 40 = true) (h15:AN (Bj 0 (Hr n (C1 n (fun i=>B8 (f i))))) (C1 n (fun i=>B8 (f i))) 40 = true):(As (Aj tab ⟨Ao Xk,L,Gl⟩ Try.f51 [A2 n f] [])).sem = some ((.tup [.ref 0,iV 0]),[Ach n f (C1 n (fun i=>B8 (f i)))]):=Aa (bbK 11 2039) ((fun c0 c1=>[c0,AL n,BW n f,Am (ieq 0 0),c0,YQ n,BO 40 0 (ofNat n),c1,AN 0 (Hr n (C1 n (fun i=>B8 (f i)))) 40,c1,AN (Bj 0 (Hr n (C1 n (fun i=>B8 (f i))))) (C1 n (fun i=>B8 (f i))) 40]) (Ai n (fun _=>true)) (Ag (ile 0 (ofNat (C1 n (fun i=>B8 (f i))))) (ile (ofNat (C1 n (fun i=>B8 (f i)))) (ofNat n)))) (by kernel_rfl) (by simp only [h13] <;> simp only [*,Ar] <;> rfl)
end
def B1 (n:Nat) (f:Nat->E6) (i:Nat):E6:=f ((C1 n (fun i=>B8 (f i))+i) % n)
def Oi:List V->T (V × List Blk):=Ha fun n f=>.br (AL n) (.br (BW n f) (.leaf (.tup [.ref 0,iV 0],[.row 44 6 n fun i=>eV (B1 n f i)])) (.leaf (.tup [.ref 0,iV 30],[.row 44 6 0 fun _=>.und]))) .fail
theorem p65:AB Try.prog Gl 51 Oi:=by
  refine A1 AQ AR Try.func51 (by kernel_rfl) (by kernel_rfl) fun vs v h' h=>?_
  obtain ⟨n,f,ha,h⟩:=CV h
  obtain ⟨hn,h⟩:=Ah h
  have hx:=AP ZW []
  cases hm:BW n f with
  | true =>
    rw [hm] at h
    have:=Ad h
    simp only [Prod.mk.injEq] at this
    obtain ⟨rfl,rfl⟩:=this
    have hn':n * 40 <= 140737488355328:=of_decide_eq_true hn
    have hk:=Pn n (fun i=>B8 (f i))
    have e3:∀ k,Bj 0 (Hr n k) = n - k:=fun k=>by simp [Bj,Hr]
    have hw:=Ag3 (Bk []) n f hn hm (AfF (EY hn)) (by
        simp only [BO,Bool.and_eq_true,decide_eq_true_eq,Int.ofNat_eq_natCast]; omega) (by
        rw [ile_nat,show (0:Int) = ofNat 0 from rfl,ile_nat]; simp [Ag]; omega) (by
        exact C6 (by show (0+(n - C1 n (fun i=>B8 (f i)))) * 40 <= _; omega)) (by
        rw [e3]; exact C6 (by omega))
    obtain ⟨r1,r2⟩:=Tc n (C1 n (fun i=>B8 (f i))) (fun _=>eV FK) f eV hk
    unfold Ach at hw
    rw [r1] at hw
    exact ⟨_,AI Gl Xk [],_,ha,rfl,hx.1,hx.2,hw,A6.one fun j hj=>(r2 j hj).symm⟩
  | false =>
    rw [hm] at h
    have:=Ad h
    simp only [Prod.mk.injEq] at this
    obtain ⟨rfl,rfl⟩:=this
    exact ⟨_,AI Gl Xk [],_,ha,rfl,hx.1,hx.2,Ag4 _ n f hn hm,A6.refl _⟩
theorem e42 (Γ:Cx) (vs:List V) (h:List Blk):Aj tab Γ Try.f60 vs h = Aj tab Γ Try.f60 vs h:=by kernel_rfl
theorem p42:AB Try.prog Gl 60 AbO:=by
  refine A1 AQ AR Try.func60 (by kernel_rfl) (by kernel_rfl) fun vs v h' h=>?_
  obtain ⟨n,f,m,g,ha,h⟩:=WO h
  obtain ⟨hn,h⟩:=Ah h
  have:=Ad h
  simp only [Prod.mk.injEq] at this
  obtain ⟨rfl,rfl⟩:=this
  have hx:=AP PC [(0,lp36 n)]
  exact ⟨_,cx9 [(0,lp36 n)],_,ha,rfl,hx.1,hx.2,by rw [e42]; exact AdH n m f g (of_decide_eq_true hn),A6.refl _⟩
theorem Ab9 {a b:E6} (ha:AT a = 0) (hb:AT b = 0) (h:B8 a = B8 b):a = b:=by
  rcases Gg a with ⟨k,_,_,h1,h2,_⟩ | ⟨h1,_⟩
  · rcases Gg b with ⟨l,_,_,h3,h4,_⟩ | ⟨h3,_⟩
    · rw [h1,h3] at h
      have:=Int.ofNat.inj h
      rw [<- h2,<- h4,this]
    · rw [hb] at h3; cases h3
  · rw [ha] at h1; cases h1
theorem MY {n:Nat} {f:Nat->E6} {m:Nat} {g:Nat->E6}:Bm n f m g = true ↔ n = m ∧ ∀ i,i < n->f i = g i:=by
  unfold Bm
  rw [Dt]
  by_cases h:n = m
  · rw [decide_eq_true h]
    show FA f g n 0 = true ↔ _
    rw [NP]
    exact ⟨fun h1=>⟨h,fun i hi=>h1 i (Nat.zero_le _) (by omega)⟩,fun h1 j _ h3=>h1.2 j (by omega)⟩
  · rw [decide_eq_false h]
    exact ⟨fun h=>(by cases h),fun h1=>absurd h1.1 h⟩
def Bf (q:Nat->Bool):Nat->Nat->Option Nat
  | 0,_=>none
  | d+1,i=>match q i with
    | true=>some i
    | false=>Bf q d (i+1)
theorem BX {q:Nat->Bool} {d i:Nat} (h:q i = true):Bf q (d+1) i = some i:=by rw [Bf,h]
theorem Bz {q:Nat->Bool} {d i:Nat} (h:q i = false):Bf q (d+1) i = Bf q d (i+1):=by rw [Bf,h]
theorem Gy {a b:Int} (h:ieq a b = true):a = b:=by simpa [ieq] using h
end Go.Proofs.Ytjhnfomefcngfaa.Ed
