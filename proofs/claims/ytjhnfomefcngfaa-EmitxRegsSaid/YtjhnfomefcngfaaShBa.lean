/-
  Layer 7: which edges are communications, lead to other threads, to other locations (the program's shape package); where a number stands in a list. No conditions.
-/
import Derived.Test.YtjhnfomefcngfaaCyP
namespace Go.Proofs.Ytjhnfomefcngfaa.Sh
open Go.Sy Ed
open Int (ofNat)
theorem Aef (e:E6):(Az (Ak tab (AS Gl [] []) Try.f91 [eV e] [])).sem = (sel (ieq (e).kind 1) (sel (ieq (e).kind 1) (sel (ieq (e).kind 1) (sel (ieq (e).kind 1) (some ((bV true),[])) none) none) none) (sel (ieq (e).kind 1) (sel (ieq (e).kind 1) (sel (ieq (e).kind 1) (some ((bV true),[])) none) none) (sel (ieq (e).kind 1) (sel (ieq (e).kind 1) (some ((bV true),[])) none) (sel (ieq (e).kind 1) (some ((bV true),[])) (sel (ieq (e).kind 2) (sel (ieq (e).kind 2) (sel (ieq (e).kind 2) (sel (ieq (e).kind 2) (some ((bV true),[])) (some (AA,[]))) none) none) (sel (ieq (e).kind 2) (sel (ieq (e).kind 2) (sel (ieq (e).kind 2) (some ((bV true),[])) (some (AA,[]))) none) (sel (ieq (e).kind 2) (sel (ieq (e).kind 2) (some ((bV true),[])) (some (AA,[]))) (sel (ieq (e).kind 2) (some ((bV true),[])) (some ((bV (ieq (e).kind 3)),[])))))))))):=by kernel_rfl
theorem p91:A6 Try.prog Gl 91 (BQ λe=>bV (Bu e)):=by
 refine A6.congr (AK AO AP Try.func91 (by kernel_rfl) (by kernel_rfl) (Γ:=AS Gl [] []) (AQ AB.nil _)) λvs r h=>?_
 obtain ⟨e,rfl,rfl⟩:=BY h
 refine (Aef e).trans ?_
 rw [O6]
 cases ieq e.kind 1 <;> cases ieq e.kind 2 <;> cases ieq e.kind 3 <;> rfl
noncomputable def XW:List (Nat × (List V->T (V × List Blk))):=(91,BQ λe=>bV (Bu e)) :: []
theorem Vk:AB Try.prog Gl XW:=.cons p91 .nil
theorem Ael (e:E6):(Az (Ak tab (AS Gl XW []) Try.f52 [eV e] [])).sem = (sel (Bu e) (sel (Bu e) (sel (Bu e) (some ((bV (e).ext),[])) (some ((bV false),[]))) (sel (Bu e) (some (AA,[])) (some ((bV false),[])))) (sel (Bu e) none (sel (Bu e) (some (AA,[])) (some ((bV false),[]))))):=by kernel_rfl
theorem p52:A6 Try.prog Gl 52 (BQ λe=>bV (As e)):=by
 refine A6.congr (AK AO AP Try.func52 (by kernel_rfl) (by kernel_rfl) (Γ:=AS Gl XW []) (AQ Vk _)) λvs r h=>?_
 obtain ⟨e,rfl,rfl⟩:=BY h
 refine (Ael e).trans ?_
 unfold As
 cases Bu e <;> rfl
theorem Aek (e:E6):(Az (Ak tab (AS Gl XW []) Try.f54 [eV e] [])).sem = (sel (An (Bu e)) (sel (An (Bu e)) (sel (An (Bu e)) (sel (An (Bu e)) (some ((bV (An (e).same)),[])) (some ((bV false),[]))) (sel (An (Bu e)) (some (AA,[])) (some ((bV false),[])))) (sel (An (Bu e)) none (sel (An (Bu e)) (some (AA,[])) (some ((bV false),[]))))) (sel (An (Bu e)) none (sel (An (Bu e)) none (sel (An (Bu e)) (some (AA,[])) (some ((bV false),[])))))):=by kernel_rfl
theorem p54:A6 Try.prog Gl 54 (BQ λe=>bV (Ar e)):=by
 refine A6.congr (AK AO AP Try.func54 (by kernel_rfl) (by kernel_rfl) (Γ:=AS Gl XW []) (AQ Vk _)) λvs r h=>?_
 obtain ⟨e,rfl,rfl⟩:=BY h
 refine (Aek e).trans ?_
 unfold Ar
 cases Bu e <;> rfl
noncomputable def HG (n:Nat) (f:Nat->Int) (x:Int):Int:=match (List.range n).find? λi=>ieq x (f i) with
 | some i=>ofNat i
 | none=>-1
theorem PH {n:Nat} {f:Nat->Int} {x:Int} {i:Nat} (hi:i < n) (h:ieq x (f i) = true) (hb:∀ k,k < i->ieq x (f k) = false):HG n f x = ofNat i:=by
 unfold HG
 have:(List.range n).find? (λi=>ieq x (f i)) = some i:=by
  rw [List.find?_range_eq_some]
  exact ⟨h,by simpa using hi,λj hj=>by rw [hb j hj]; rfl⟩
 rw [this]
theorem SS {n:Nat} {f:Nat->Int} {x:Int} (h:∀ k,k < n->ieq x (f k) = false):HG n f x = -1:=by
 unfold HG
 have:(List.range n).find? (λi=>ieq x (f i)) = none:=by
  rw [List.find?_eq_none]
  intro k hk
  rw [h k (by simpa using hk)]
  simp
 rw [this]
def NM (n:Nat) (f:Nat->Int) (x:Int):Lp:=⟨(bmK 19 0 [0,1,4,7,8]),0,bmK 19 0 [4],0,n+1⟩
def Nk (n:Nat) (f:Nat->Int) (x:Int) (b:Nat) (j:Nat->V):St:=⟨(jsV 19 0 j [(0,.sl 1 n λk=>iV (f k)),(1,iV x),(4,iV 0),(7,nV n),(8,nV b)]),[]⟩
def Tl (n:Nat) (f:Nat->Int) (x:Int) (b:Nat):Ex × St:=(.rt,⟨(jsV 19 0 (λ_=>.und) [(4,nV b)]),[]⟩)
def Tm (n:Nat) (f:Nat->Int) (x:Int) (b:Nat):Ex × St:=(.ex 0,⟨(jsV 19 0 (λ_=>.und) [(4,iV 0)]),[]⟩)
noncomputable def FY (L:LT):St->T (Ex × St):=λst=>AF tab ⟨Ap tb0,L,Gl⟩ (A1 Try.f92 0) 0 st
section
variable (L:LT) (n:Nat) (f:Nat->Int) (x:Int) (b:Nat)  (j:Nat->V)
include L n f x b j
theorem Aip (h0:ilt (ofNat b) (ofNat n) = true) (h11:ile 0 (ofNat b) = true) (h1:ieq x (f b) = false):Ai (FY L) (NM n f x) (Nk n f x b j) = some (.nm,⟨(jsV 19 0 (λ_=>.und) [(0,(.sl 1 n (λk=>iV (f k)))),(1,(iV x)),(4,(iV 0)),(7,(nV n)),(8,(iV (wr .i64 (Ae (ofNat b) 1))))]),[]⟩):=Aa [true,true,false] [ilt (ofNat b) (ofNat n),Af (ile 0 (ofNat b)) (ilt (ofNat b) (ofNat n)),ieq x (f b)] (by kernel_rfl) (by simp only [*] <;> rfl)
theorem Aio (h0:ilt (ofNat b) (ofNat n) = true) (h11:ile 0 (ofNat b) = true) (h1:ieq x (f b) = true):Ai (FY L) (NM n f x) (Nk n f x b j) = some (.rt,⟨(jsV 19 0 (λ_=>.und) [(4,(nV b))]),[]⟩):=Aa [true,true,true] [ilt (ofNat b) (ofNat n),Af (ile 0 (ofNat b)) (ilt (ofNat b) (ofNat n)),ieq x (f b)] (by kernel_rfl) (by simp only [*] <;> rfl)
theorem Aiq (h0:ilt (ofNat b) (ofNat n) = false):Ai (FY L) (NM n f x) (Nk n f x b j) = some ((.ex 0),⟨(jsV 19 0 (λ_=>.und) [(4,(iV 0))]),[]⟩):=Aa [false] [ilt (ofNat b) (ofNat n)] (by kernel_rfl) (by simp only [h0] <;> rfl)
end
def Zr (n:Nat) (f:Nat->Int) (x:Int) :Nat->V:=lkV AA [(6,(.sl 1 n (λk=>iV (f k))))]
theorem Ahb (L:LT) (p0:PT) (n:Nat) (f:Nat->Int) (x:Int) (b:Nat)  (hp0:p0 (FY (onP 0 p0 (Tl n f x b) L)) (Nk n f x 0 (Zr n f x )) = true):(Az (Ak tab ⟨Ap tb0,onP 0 p0 (Tl n f x b) L,Gl⟩ Try.f92 [.sl 1 n λk=>iV (f k),iV x] [])).sem = some ((nV b),[]):=Aa [true] [p0 (FY (onP 0 p0 (Tl n f x b) L)) (Nk n f x 0 (Zr n f x ))] (by kernel_rfl) (by simp only [hp0] <;> rfl)
theorem Ahc (L:LT) (p0:PT) (n:Nat) (f:Nat->Int) (x:Int)  (hp0:p0 (FY (onP 0 p0 (Tm n f x 0) L)) (Nk n f x 0 (Zr n f x )) = true):(Az (Ak tab ⟨Ap tb0,onP 0 p0 (Tm n f x 0) L,Gl⟩ Try.f92 [.sl 1 n λk=>iV (f k),iV x] [])).sem = some ((iV (-1)),[]):=Aa [true] [p0 (FY (onP 0 p0 (Tm n f x 0) L)) (Nk n f x 0 (Zr n f x ))] (by kernel_rfl) (by simp only [hp0] <;> rfl)
theorem Ac7 (L:LT) (n:Nat) (f:Nat->Int) (x:Int) (hn:n <= 4611686018427387904):∀ (e i:Nat) (j:Nat->V) (q:Nat),n = i+e->e < q->(∀ k,k < i->ieq x (f k) = false) ->
  ((A9 (FY L) (NM n f x) q (Nk n f x i j)).sem = some (Tm n f x 0) ∧ HG n f x = -1) ∨ ∃ b,(A9 (FY L) (NM n f x) q (Nk n f x i j)).sem = some (Tl n f x b) ∧ HG n f x = ofNat b
 | 0,i,j,q+1,h,_,hb=>by
  have:n = i:=by omega
  subst this
  exact .inl ⟨Ad (Aiq L n f x n j (AD (Nat.le_refl _))),SS hb⟩
 | e+1,i,j,q+1,h,h2,hb=>by
  have hl:i < n:=by omega
  cases hp:ieq x (f i) with
  | true =>
   exact .inr ⟨i,Ad (Aio L n f x i j (ofNat_lt hl) (AI i) hp),PH hl hp hb⟩
  | false =>
   rw [Ad (Aip L n f x i j (ofNat_lt hl) (AI i) hp),Ax,Ao hl hn]
   refine Ac7 L n f x hn e (i+1) (λ_=>.und) q (by omega) (by omega) λk hk=>?_
   by_cases hki:k = i
   ·rw [hki]; exact hp
   ·exact hb k (by omega)
noncomputable def U9:List V->T (V × List Blk)
 | [v,.val (.int .i64 x)]=>apI v λn f=>.br (CR n) (.leaf (iV (HG n f x),[])) .fail
 | _=>.fail
theorem p92:A6 Try.prog Gl 92 U9:=by
 refine A5 AO AP Try.func92 (by kernel_rfl) (by kernel_rfl) λvs v h' h=>?_
 unfold U9 at h
 split at h
 ·rename_i u x
  obtain ⟨n,f,ha,h1⟩:=Hq h
  obtain ⟨h8,hq⟩:=Ag h1
  have:=Ac hq
  simp only [Prod.mk.injEq] at this
  obtain ⟨rfl,rfl⟩:=this
  have h8':n * 8 <= 140737488355328:=of_decide_eq_true h8
  have hA:BJ [u,iV x] [ER n f,iV x]:=λS w cs hv=>by
   obtain ⟨c,l,rfl,q1,q2⟩:=hv
   exact ⟨c,l,rfl,ha S w c q1,q2⟩
  have hx:=AQ Dd [(0,NM n f x)] (G:=Gl)
  have hL:=AL [(0,NM n f x)]
  refine ⟨_,AS Gl tb0 [(0,NM n f x)],_,hA,rfl,hx.1,hx.2,?_,AC.refl _⟩
  have h0:=λL j=>Ac7 L n f x (by omega) n 0 j (n+1) (by omega) (by omega) (λk hk=>absurd hk (Nat.not_lt_zero _))
  rcases h0 (Bb [(0,NM n f x)]) (Zr n f x) with ⟨_,h5⟩ | ⟨b,_,h5⟩
  ·have h6:∀ L j,(A9 (FY L) (NM n f x) (n+1) (Nk n f x 0 j)).sem = some (Tm n f x 0):=λL j=>by
    rcases h0 L j with ⟨h,_⟩ | ⟨b,_,h⟩
    ·exact h
    ·rw [h5] at h
     cases h
   rw [h5]
   exact A7 (Ay hL hL) _ (Ahc _ _ n f x (Am (h6 _ _)))
  ·have h6:∀ L j,(A9 (FY L) (NM n f x) (n+1) (Nk n f x 0 j)).sem = some (Tl n f x b):=λL j=>by
    rcases h0 L j with ⟨_,h⟩ | ⟨b',h,h'⟩
    ·rw [h5] at h
     cases h
    ·rw [h5] at h'
     cases h'
     exact h
   rw [h5]
   exact A7 (Ay hL hL) _ (Ahb _ _ n f x b (Am (h6 _ _)))
 ·cases h
end Go.Proofs.Ytjhnfomefcngfaa.Sh
namespace Go.Proofs.Ytjhnfomefcngfaa.Sh
open Go.Sy Ed
inductive Begin (p:Nat->Bool) (n:Nat):Nat->Prop
 | none:(∀ k,k < n->p k = false)->Begin p n 0
 | last:0 < n->p (n - 1) = true->Begin p n 0
 | first {z:Nat}:0 < z->z < n->p (z - 1) = true->(∀ k,k < z - 1->p k = false)->p (n - 1) = false->Begin p n z
theorem FB {p:Nat->Bool}:∀ {k:Nat},(∀ i,i < k->p i = false)->Aj p k = 0
 | 0,_=>rfl
 | k+1,h=>by rw [Br (h k (Nat.lt_succ_self k)),FB λi hi=>h i (by omega)]
theorem LG (p:Nat->Bool) (k:Nat):Aj p (k+1) = Aj p k ∨ Aj p (k+1) = Aj p k+1:=by
 cases h:p k with
 | true=>exact .inr (Bi h)
 | false=>exact .inl (Br h)
def Ea (p:Nat->Bool) (n z t:Nat):Bool:=p ((z+t) % n)
theorem Hj {p:Nat->Bool} {n z:Nat}:∀ {t:Nat},z+t <= n->Aj (Ea p n z) t+Aj p z = Aj p (z+t)
 | 0,_=>by simp [Aj]
 | t+1,h=>by
  have ih:=Hj (p:=p) (n:=n) (z:=z) (t:=t) (by omega)
  have he:Ea p n z t = p (z+t):=by unfold Ea; rw [Nat.mod_eq_of_lt (by omega)]
  rw [show z+(t+1) = z+t+1 by omega]
  cases hp:p (z+t) with
  | true=>rw [Bi (he.trans hp),Bi hp]; omega
  | false=>rw [Br (he.trans hp),Br hp]; exact ih
theorem PU {p:Nat->Bool} {n z:Nat} (hz:z <= n):∀ {i:Nat},i <= z->Aj (Ea p n z) (n - z+i)+Aj p z = Aj p n+Aj p i
 | 0,_=>by
  have:=Hj (p:=p) (n:=n) (z:=z) (t:=n - z) (by omega)
  rw [show z+(n - z) = n by omega] at this
  simpa [Aj] using this
 | i+1,h=>by
  have ih:=PU (p:=p) (n:=n) (z:=z) hz (i:=i) (by omega)
  have he:Ea p n z (n - z+i) = p i:=by
   unfold Ea
   rw [show z+(n - z+i) = i+n by omega,Nat.add_mod_right,Nat.mod_eq_of_lt (by omega)]
  rw [show n - z+(i+1) = n - z+i+1 by omega]
  cases hp:p i with
  | true=>rw [Bi (he.trans hp),Bi hp]; omega
  | false=>rw [Br (he.trans hp),Br hp]; exact ih
def posN (n z i:Nat):Nat:=(i+(n - z)) % n
def Bc (p:Nat->Bool) (n k:Nat):Nat:=if Aj p k = Aj p n then 0 else Aj p k
theorem F0 {p:Nat->Bool} {n k:Nat} (h:k < n):Av p n k = Int.ofNat (Bc p n k):=by
 unfold Av Bc
 rw [show decide (k < n) = true by simpa using h]
 simp only [cond_true]
 by_cases he:Aj p k = Aj p n
 ·simp [he]
 ·simp [he]
def snN (p:Nat->Bool) (n z v:Nat):Nat:=if z = 0 then v else if v = 0 then Aj p n - 1 else v - 1
theorem Abx {p:Nat->Bool} {n z:Nat} (hb:Begin p n z) {i:Nat} (hi:i < n):Aj (Ea p n z) (posN n z i) = snN p n z (Bc p n i):=by
 have hmi:=AZ p (show i <= n by omega)
 cases hb with
 | none h0 =>
  have h1:Aj p n = 0:=FB h0
  have h2:posN n 0 i = i:=by unfold posN; rw [Nat.sub_zero,Nat.add_mod_right,Nat.mod_eq_of_lt hi]
  have h3:=Hj (p:=p) (n:=n) (z:=0) (t:=i) (by omega)
  rw [Nat.zero_add] at h3
  rw [h2]
  unfold snN Bc
  rw [if_pos rfl,h1]
  simp [Aj] at h3
  rw [h3]
  split <;> omega
 | last hn h0 =>
  have h2:posN n 0 i = i:=by unfold posN; rw [Nat.sub_zero,Nat.add_mod_right,Nat.mod_eq_of_lt hi]
  have h3:=Hj (p:=p) (n:=n) (z:=0) (t:=i) (by omega)
  rw [Nat.zero_add] at h3
  have h4:Aj p n = Aj p (n - 1)+1:=by
   have:=Bi h0
   rwa [show n - 1+1 = n by omega] at this
  have h5:=AZ p (show i <= n - 1 by omega)
  rw [h2]
  unfold snN Bc
  rw [if_pos rfl]
  simp [Aj] at h3
  rw [h3,if_neg (by omega)]
 | first hz hzn h0 h1 h2 =>
  have c0:Aj p (z - 1) = 0:=FB h1
  have c1:Aj p z = 1:=by
   have:=Bi h0
   rwa [show z - 1+1 = z by omega,c0] at this
  have hK:=AZ p (show z <= n by omega)
  unfold snN Bc
  rw [if_neg (by omega)]
  rcases Nat.lt_or_ge i z with hc | hc
  ·have e1:posN n z i = n - z+i:=by unfold posN; rw [Nat.mod_eq_of_lt (by omega)]; omega
   have e2:=PU (p:=p) (n:=n) (z:=z) (by omega) (i:=i) (by omega)
   have e3:Aj p i = 0:=FB λk hk=>h1 k (by omega)
   have e4:(if Aj p i = Aj p n then 0 else Aj p i) = 0:=by split <;> omega
   rw [e1,if_pos e4]
   omega
  ·have e1:posN n z i = i - z:=by unfold posN; rw [show i+(n - z) = i - z+n by omega,Nat.add_mod_right,Nat.mod_eq_of_lt (by omega)]
   have e2:=Hj (p:=p) (n:=n) (z:=z) (t:=i - z) (by omega)
   rw [show z+(i - z) = i by omega] at e2
   have e3:=AZ p hc
   rw [e1]
   by_cases he:Aj p i = Aj p n
   ·rw [if_pos he,if_pos rfl]; omega
   ·rw [if_neg he,if_neg (by omega:¬ Aj p i = 0)]; omega
theorem Yj {p:Nat->Bool} {n z u v:Nat} (hu:u <= v) (hv:v = 0 ∨ v < Aj p n) (h:snN p n z u = snN p n z v):u = v:=by
 unfold snN at h
 split at h
 ·exact h
 ·split at h <;> split at h <;> omega
def rN (p:Nat->Bool) (n:Nat):Nat->Nat
 | 0=>0
 | b+1=>if Bc p n b < rN p n b then rN p n b else rN p n b+1
theorem N6 {p:Nat->Bool} {n k:Nat} (h:k <= n):Bc p n k = 0 ∨ Bc p n k < Aj p n:=by
 have:=AZ p h
 unfold Bc
 split
 ·exact .inl rfl
 ·exact .inr (by omega)
theorem YK (p:Nat->Bool) (n:Nat):Bc p n 0 = 0:=by
 have h:Aj p 0 = 0:=rfl
 unfold Bc
 split
 ·rfl
 ·exact h
theorem YI (p:Nat->Bool) (n:Nat):∀ b,b < n->rN p n (b+1) = if Aj p b = Aj p n then max (Aj p n) 1 else Aj p b+1
 | 0,h=>by
  have h1:rN p n (0+1) = 1:=by
   rw [rN,YK]
   simp [rN]
  have h2:Aj p 0 = 0:=rfl
  rw [h1,h2]
  split <;> omega
 | b+1,h=>by
  have ih:=YI p n b (by omega)
  have h1:=AZ p (show b+1 <= n by omega)
  have h2:=AZ p (show b <= n by omega)
  have h3:=AZ p (show b <= b+1 by omega)
  have h4:=LG p b
  rw [rN,ih]
  unfold Bc
  by_cases e1:Aj p (b+1) = Aj p n
  ·rw [if_pos e1,if_pos e1]
   by_cases e2:Aj p b = Aj p n
   ·rw [if_pos e2,if_pos (by omega)]
   ·rw [if_neg e2,if_pos (by omega)]; omega
  ·rw [if_neg e1,if_neg e1]
   have e2:¬ Aj p b = Aj p n:=by omega
   rw [if_neg e2]
   split <;> omega
theorem Kt (p:Nat->Bool) (n:Nat):∀ b,b < n->Bc p n b <= rN p n b
 | 0,h=>by
  rw [YK]
  exact Nat.zero_le _
 | b+1,h=>by
  rw [YI p n b (by omega)]
  have h1:=AZ p (show b+1 <= n by omega)
  have h4:=LG p b
  have h3:=AZ p (show b <= b+1 by omega)
  unfold Bc
  split
  ·omega
  ·split <;> omega
theorem Sg (p:Nat->Bool) (n:Nat):∀ b,rN p n b <= b
 | 0=>Nat.le_refl _
 | b+1=>by
  have:=Sg p n b
  simp only [rN]
  split <;> omega
theorem AcG (p:Nat->Bool) (n:Nat):∀ b,b <= n->∀ v,v < rN p n b->v = 0 ∨ v < Aj p n
 | 0,_,v,h=>by simp [rN] at h
 | b+1,hb,v,h=>by
  have ih:=AcG p n b (by omega) v
  simp only [rN] at h
  split at h
  ·exact ih h
  ·rename_i h2
   have h3:=Kt p n b (by omega)
   by_cases hv:v < rN p n b
   ·exact ih hv
   ·have:v = Bc p n b:=by omega
    rw [this]
    exact N6 (by omega)
end Go.Proofs.Ytjhnfomefcngfaa.Sh
