/-
  Layer 7: which edges are communications, lead to other threads, to other locations (the program's shape package); where a number stands in a list. No conditions.
-/
import Derived.Test.YtjhnfomefcngfaaCyP
namespace Go.Proofs.Ytjhnfomefcngfaa.Sh
open Go.Sy Ed
open Int (ofNat)
theorem AdX (e:E6):(A2 (An tab (AT Gl [] []) Try.f91 [eV e] [])).sem = (sel (ieq (e).kind 1) (sel (ieq (e).kind 1) (sel (ieq (e).kind 1) (sel (ieq (e).kind 1) (some ((bV true),[])) none) none) none) (sel (ieq (e).kind 1) (sel (ieq (e).kind 1) (sel (ieq (e).kind 1) (some ((bV true),[])) none) none) (sel (ieq (e).kind 1) (sel (ieq (e).kind 1) (some ((bV true),[])) none) (sel (ieq (e).kind 1) (some ((bV true),[])) (sel (ieq (e).kind 2) (sel (ieq (e).kind 2) (sel (ieq (e).kind 2) (sel (ieq (e).kind 2) (some ((bV true),[])) (some (A9,[]))) none) none) (sel (ieq (e).kind 2) (sel (ieq (e).kind 2) (sel (ieq (e).kind 2) (some ((bV true),[])) (some (A9,[]))) none) (sel (ieq (e).kind 2) (sel (ieq (e).kind 2) (some ((bV true),[])) (some (A9,[]))) (sel (ieq (e).kind 2) (some ((bV true),[])) (some ((bV (ieq (e).kind 3)),[])))))))))):=by kernel_rfl
theorem p91:AA Try.prog Gl 91 (BR λe=>bV (Bw e)):=by
 refine AA.congr (AO AQ AR Try.func91 (by kernel_rfl) (by kernel_rfl) (Γ:=AT Gl [] []) (AS AC.nil _)) λvs r h=>?_
 obtain ⟨e,rfl,rfl⟩:=Ca h
 refine (AdX e).trans ?_
 rw [O5]
 cases ieq e.kind 1 <;> cases ieq e.kind 2 <;> cases ieq e.kind 3 <;> rfl
noncomputable def XO:List (Nat × (List V->T (V × List Blk))):=(91,BR λe=>bV (Bw e)) :: []
theorem Vc:AC Try.prog Gl XO:=.cons p91 .nil
theorem Aed (e:E6):(A2 (An tab (AT Gl XO []) Try.f52 [eV e] [])).sem = (sel (Bw e) (sel (Bw e) (sel (Bw e) (some ((bV (e).ext),[])) (some ((bV false),[]))) (sel (Bw e) (some (A9,[])) (some ((bV false),[])))) (sel (Bw e) none (sel (Bw e) (some (A9,[])) (some ((bV false),[]))))):=by kernel_rfl
theorem p52:AA Try.prog Gl 52 (BR λe=>bV (As e)):=by
 refine AA.congr (AO AQ AR Try.func52 (by kernel_rfl) (by kernel_rfl) (Γ:=AT Gl XO []) (AS Vc _)) λvs r h=>?_
 obtain ⟨e,rfl,rfl⟩:=Ca h
 refine (Aed e).trans ?_
 unfold As
 cases Bw e <;> rfl
theorem Aec (e:E6):(A2 (An tab (AT Gl XO []) Try.f54 [eV e] [])).sem = (sel (Ah (Bw e)) (sel (Ah (Bw e)) (sel (Ah (Bw e)) (sel (Ah (Bw e)) (some ((bV (Ah (e).same)),[])) (some ((bV false),[]))) (sel (Ah (Bw e)) (some (A9,[])) (some ((bV false),[])))) (sel (Ah (Bw e)) none (sel (Ah (Bw e)) (some (A9,[])) (some ((bV false),[]))))) (sel (Ah (Bw e)) none (sel (Ah (Bw e)) none (sel (Ah (Bw e)) (some (A9,[])) (some ((bV false),[])))))):=by kernel_rfl
theorem p54:AA Try.prog Gl 54 (BR λe=>bV (Ar e)):=by
 refine AA.congr (AO AQ AR Try.func54 (by kernel_rfl) (by kernel_rfl) (Γ:=AT Gl XO []) (AS Vc _)) λvs r h=>?_
 obtain ⟨e,rfl,rfl⟩:=Ca h
 refine (Aec e).trans ?_
 unfold Ar
 cases Bw e <;> rfl
noncomputable def HG (n:Nat) (f:Nat->Int) (x:Int):Int:=match (List.range n).find? λi=>ieq x (f i) with
 | some i=>ofNat i
 | none=>-1
theorem PD {n:Nat} {f:Nat->Int} {x:Int} {i:Nat} (hi:i < n) (h:ieq x (f i) = true) (hb:∀ k,k < i->ieq x (f k) = false):HG n f x = ofNat i:=by
 unfold HG
 have:(List.range n).find? (λi=>ieq x (f i)) = some i:=by
  rw [List.find?_range_eq_some]
  exact ⟨h,by simpa using hi,λj hj=>by rw [hb j hj]; rfl⟩
 rw [this]
theorem SO {n:Nat} {f:Nat->Int} {x:Int} (h:∀ k,k < n->ieq x (f k) = false):HG n f x = -1:=by
 unfold HG
 have:(List.range n).find? (λi=>ieq x (f i)) = none:=by
  rw [List.find?_eq_none]
  intro k hk
  rw [h k (by simpa using hk)]
  simp
 rw [this]
def NL (n:Nat) (f:Nat->Int) (x:Int):Lp:=⟨(bmK 19 0 [0,1,4,7,8]),0,bmK 19 0 [4],0,n+1⟩
def Nj (n:Nat) (f:Nat->Int) (x:Int) (b:Nat) (j:Nat->V):St:=⟨(jsV 19 0 j [(0,.sl 1 n λk=>iV (f k)),(1,iV x),(4,iV 0),(7,nV n),(8,nV b)]),[]⟩
def Th (n:Nat) (f:Nat->Int) (x:Int) (b:Nat):Ex × St:=(.rt,⟨(jsV 19 0 (λ_=>.und) [(4,nV b)]),[]⟩)
def Ti (n:Nat) (f:Nat->Int) (x:Int) (b:Nat):Ex × St:=(.ex 0,⟨(jsV 19 0 (λ_=>.und) [(4,iV 0)]),[]⟩)
noncomputable def FV (L:LT):St->T (Ex × St):=λst=>AG tab ⟨Aq tb0,L,Gl⟩ (A1 Try.f92 0) 0 st
section
variable (L:LT) (n:Nat) (f:Nat->Int) (x:Int) (b:Nat)  (j:Nat->V)
include L n f x b j
theorem AhX (h0:ilt (ofNat b) (ofNat n) = true) (h11:ile 0 (ofNat b) = true) (h1:ieq x (f b) = false):Aj (FV L) (NL n f x) (Nj n f x b j) = some (.nm,⟨(jsV 19 0 (λ_=>.und) [(0,(.sl 1 n (λk=>iV (f k)))),(1,(iV x)),(4,(iV 0)),(7,(nV n)),(8,(iV (wr .i64 (Ae (ofNat b) 1))))]),[]⟩):=Aa [true,true,false] [ilt (ofNat b) (ofNat n),Af (ile 0 (ofNat b)) (ilt (ofNat b) (ofNat n)),ieq x (f b)] (by kernel_rfl) (by simp only [*] <;> rfl)
theorem AhW (h0:ilt (ofNat b) (ofNat n) = true) (h11:ile 0 (ofNat b) = true) (h1:ieq x (f b) = true):Aj (FV L) (NL n f x) (Nj n f x b j) = some (.rt,⟨(jsV 19 0 (λ_=>.und) [(4,(nV b))]),[]⟩):=Aa [true,true,true] [ilt (ofNat b) (ofNat n),Af (ile 0 (ofNat b)) (ilt (ofNat b) (ofNat n)),ieq x (f b)] (by kernel_rfl) (by simp only [*] <;> rfl)
theorem AhY (h0:ilt (ofNat b) (ofNat n) = false):Aj (FV L) (NL n f x) (Nj n f x b j) = some ((.ex 0),⟨(jsV 19 0 (λ_=>.und) [(4,(iV 0))]),[]⟩):=Aa [false] [ilt (ofNat b) (ofNat n)] (by kernel_rfl) (by simp only [h0] <;> rfl)
end
def Zm (n:Nat) (f:Nat->Int) (x:Int) :Nat->V:=lkV A9 [(6,(.sl 1 n (λk=>iV (f k))))]
theorem AgK (L:LT) (p0:PT) (n:Nat) (f:Nat->Int) (x:Int) (b:Nat)  (hp0:p0 (FV (onP 0 p0 (Th n f x b) L)) (Nj n f x 0 (Zm n f x )) = true):(A2 (An tab ⟨Aq tb0,onP 0 p0 (Th n f x b) L,Gl⟩ Try.f92 [.sl 1 n λk=>iV (f k),iV x] [])).sem = some ((nV b),[]):=Aa [true] [p0 (FV (onP 0 p0 (Th n f x b) L)) (Nj n f x 0 (Zm n f x ))] (by kernel_rfl) (by simp only [hp0] <;> rfl)
theorem AgL (L:LT) (p0:PT) (n:Nat) (f:Nat->Int) (x:Int)  (hp0:p0 (FV (onP 0 p0 (Ti n f x 0) L)) (Nj n f x 0 (Zm n f x )) = true):(A2 (An tab ⟨Aq tb0,onP 0 p0 (Ti n f x 0) L,Gl⟩ Try.f92 [.sl 1 n λk=>iV (f k),iV x] [])).sem = some ((iV (-1)),[]):=Aa [true] [p0 (FV (onP 0 p0 (Ti n f x 0) L)) (Nj n f x 0 (Zm n f x ))] (by kernel_rfl) (by simp only [hp0] <;> rfl)
theorem Ac3 (L:LT) (n:Nat) (f:Nat->Int) (x:Int) (hn:n <= 4611686018427387904):∀ (e i:Nat) (j:Nat->V) (q:Nat),n = i+e->e < q->(∀ k,k < i->ieq x (f k) = false) ->
  ((A8 (FV L) (NL n f x) q (Nj n f x i j)).sem = some (Ti n f x 0) ∧ HG n f x = -1) ∨ ∃ b,(A8 (FV L) (NL n f x) q (Nj n f x i j)).sem = some (Th n f x b) ∧ HG n f x = ofNat b
 | 0,i,j,q+1,h,_,hb=>by
  have:n = i:=by omega
  subst this
  exact .inl ⟨Ad (AhY L n f x n j (AF (Nat.le_refl _))),SO hb⟩
 | e+1,i,j,q+1,h,h2,hb=>by
  have hl:i < n:=by omega
  cases hp:ieq x (f i) with
  | true =>
   exact .inr ⟨i,Ad (AhW L n f x i j (ofNat_lt hl) (AK i) hp),PD hl hp hb⟩
  | false =>
   rw [Ad (AhX L n f x i j (ofNat_lt hl) (AK i) hp),Aw,Ao hl hn]
   refine Ac3 L n f x hn e (i+1) (λ_=>.und) q (by omega) (by omega) λk hk=>?_
   by_cases hki:k = i
   ·rw [hki]; exact hp
   ·exact hb k (by omega)
noncomputable def U2:List V->T (V × List Blk)
 | [v,.val (.int .i64 x)]=>apI v λn f=>.br (CV n) (.leaf (iV (HG n f x),[])) .fail
 | _=>.fail
theorem p92:AA Try.prog Gl 92 U2:=by
 refine A5 AQ AR Try.func92 (by kernel_rfl) (by kernel_rfl) λvs v h' h=>?_
 unfold U2 at h
 split at h
 ·rename_i u x
  obtain ⟨n,f,ha,h1⟩:=Hq h
  obtain ⟨h8,hq⟩:=Ag h1
  have:=Ac hq
  simp only [Prod.mk.injEq] at this
  obtain ⟨rfl,rfl⟩:=this
  have h8':n * 8 <= 140737488355328:=of_decide_eq_true h8
  have hA:BL [u,iV x] [ET n f,iV x]:=λS w cs hv=>by
   obtain ⟨c,l,rfl,q1,q2⟩:=hv
   exact ⟨c,l,rfl,ha S w c q1,q2⟩
  have hx:=AS Ee [(0,NL n f x)] (G:=Gl)
  have hL:=AL [(0,NL n f x)]
  refine ⟨_,AT Gl tb0 [(0,NL n f x)],_,hA,rfl,hx.1,hx.2,?_,AE.refl _⟩
  have h0:=λL j=>Ac3 L n f x (by omega) n 0 j (n+1) (by omega) (by omega) (λk hk=>absurd hk (Nat.not_lt_zero _))
  rcases h0 (AZ [(0,NL n f x)]) (Zm n f x) with ⟨_,h5⟩ | ⟨b,_,h5⟩
  ·have h6:∀ L j,(A8 (FV L) (NL n f x) (n+1) (Nj n f x 0 j)).sem = some (Ti n f x 0):=λL j=>by
    rcases h0 L j with ⟨h,_⟩ | ⟨b,_,h⟩
    ·exact h
    ·rw [h5] at h
     cases h
   rw [h5]
   exact A6 (Az hL hL) _ (AgL _ _ n f x (Am (h6 _ _)))
  ·have h6:∀ L j,(A8 (FV L) (NL n f x) (n+1) (Nj n f x 0 j)).sem = some (Th n f x b):=λL j=>by
    rcases h0 L j with ⟨_,h⟩ | ⟨b',h,h'⟩
    ·rw [h5] at h
     cases h
    ·rw [h5] at h'
     cases h'
     exact h
   rw [h5]
   exact A6 (Az hL hL) _ (AgK _ _ n f x b (Am (h6 _ _)))
 ·cases h
end Go.Proofs.Ytjhnfomefcngfaa.Sh
namespace Go.Proofs.Ytjhnfomefcngfaa.Sh
open Go.Sy Ed
inductive Begin (p:Nat->Bool) (n:Nat):Nat->Prop
 | none:(∀ k,k < n->p k = false)->Begin p n 0
 | last:0 < n->p (n - 1) = true->Begin p n 0
 | first {z:Nat}:0 < z->z < n->p (z - 1) = true->(∀ k,k < z - 1->p k = false)->p (n - 1) = false->Begin p n z
theorem F8 {p:Nat->Bool}:∀ {k:Nat},(∀ i,i < k->p i = false)->Ak p k = 0
 | 0,_=>rfl
 | k+1,h=>by rw [B0 (h k (Nat.lt_succ_self k)),F8 λi hi=>h i (by omega)]
theorem LK (p:Nat->Bool) (k:Nat):Ak p (k+1) = Ak p k ∨ Ak p (k+1) = Ak p k+1:=by
 cases h:p k with
 | true=>exact .inr (Bk h)
 | false=>exact .inl (B0 h)
def Ec (p:Nat->Bool) (n z t:Nat):Bool:=p ((z+t) % n)
theorem Hk {p:Nat->Bool} {n z:Nat}:∀ {t:Nat},z+t <= n->Ak (Ec p n z) t+Ak p z = Ak p (z+t)
 | 0,_=>by simp [Ak]
 | t+1,h=>by
  have ih:=Hk (p:=p) (n:=n) (z:=z) (t:=t) (by omega)
  have he:Ec p n z t = p (z+t):=by unfold Ec; rw [Nat.mod_eq_of_lt (by omega)]
  rw [show z+(t+1) = z+t+1 by omega]
  cases hp:p (z+t) with
  | true=>rw [Bk (he.trans hp),Bk hp]; omega
  | false=>rw [B0 (he.trans hp),B0 hp]; exact ih
theorem PP {p:Nat->Bool} {n z:Nat} (hz:z <= n):∀ {i:Nat},i <= z->Ak (Ec p n z) (n - z+i)+Ak p z = Ak p n+Ak p i
 | 0,_=>by
  have:=Hk (p:=p) (n:=n) (z:=z) (t:=n - z) (by omega)
  rw [show z+(n - z) = n by omega] at this
  simpa [Ak] using this
 | i+1,h=>by
  have ih:=PP (p:=p) (n:=n) (z:=z) hz (i:=i) (by omega)
  have he:Ec p n z (n - z+i) = p i:=by
   unfold Ec
   rw [show z+(n - z+i) = i+n by omega,Nat.add_mod_right,Nat.mod_eq_of_lt (by omega)]
  rw [show n - z+(i+1) = n - z+i+1 by omega]
  cases hp:p i with
  | true=>rw [Bk (he.trans hp),Bk hp]; omega
  | false=>rw [B0 (he.trans hp),B0 hp]; exact ih
def posN (n z i:Nat):Nat:=(i+(n - z)) % n
def Ba (p:Nat->Bool) (n k:Nat):Nat:=if Ak p k = Ak p n then 0 else Ak p k
theorem Fz {p:Nat->Bool} {n k:Nat} (h:k < n):Av p n k = Int.ofNat (Ba p n k):=by
 unfold Av Ba
 rw [show decide (k < n) = true by simpa using h]
 simp only [cond_true]
 by_cases he:Ak p k = Ak p n
 ·simp [he]
 ·simp [he]
def snN (p:Nat->Bool) (n z v:Nat):Nat:=if z = 0 then v else if v = 0 then Ak p n - 1 else v - 1
theorem Abt {p:Nat->Bool} {n z:Nat} (hb:Begin p n z) {i:Nat} (hi:i < n):Ak (Ec p n z) (posN n z i) = snN p n z (Ba p n i):=by
 have hmi:=AX p (show i <= n by omega)
 cases hb with
 | none h0 =>
  have h1:Ak p n = 0:=F8 h0
  have h2:posN n 0 i = i:=by unfold posN; rw [Nat.sub_zero,Nat.add_mod_right,Nat.mod_eq_of_lt hi]
  have h3:=Hk (p:=p) (n:=n) (z:=0) (t:=i) (by omega)
  rw [Nat.zero_add] at h3
  rw [h2]
  unfold snN Ba
  rw [if_pos rfl,h1]
  simp [Ak] at h3
  rw [h3]
  split <;> omega
 | last hn h0 =>
  have h2:posN n 0 i = i:=by unfold posN; rw [Nat.sub_zero,Nat.add_mod_right,Nat.mod_eq_of_lt hi]
  have h3:=Hk (p:=p) (n:=n) (z:=0) (t:=i) (by omega)
  rw [Nat.zero_add] at h3
  have h4:Ak p n = Ak p (n - 1)+1:=by
   have:=Bk h0
   rwa [show n - 1+1 = n by omega] at this
  have h5:=AX p (show i <= n - 1 by omega)
  rw [h2]
  unfold snN Ba
  rw [if_pos rfl]
  simp [Ak] at h3
  rw [h3,if_neg (by omega)]
 | first hz hzn h0 h1 h2 =>
  have c0:Ak p (z - 1) = 0:=F8 h1
  have c1:Ak p z = 1:=by
   have:=Bk h0
   rwa [show z - 1+1 = z by omega,c0] at this
  have hK:=AX p (show z <= n by omega)
  unfold snN Ba
  rw [if_neg (by omega)]
  rcases Nat.lt_or_ge i z with hc | hc
  ·have e1:posN n z i = n - z+i:=by unfold posN; rw [Nat.mod_eq_of_lt (by omega)]; omega
   have e2:=PP (p:=p) (n:=n) (z:=z) (by omega) (i:=i) (by omega)
   have e3:Ak p i = 0:=F8 λk hk=>h1 k (by omega)
   have e4:(if Ak p i = Ak p n then 0 else Ak p i) = 0:=by split <;> omega
   rw [e1,if_pos e4]
   omega
  ·have e1:posN n z i = i - z:=by unfold posN; rw [show i+(n - z) = i - z+n by omega,Nat.add_mod_right,Nat.mod_eq_of_lt (by omega)]
   have e2:=Hk (p:=p) (n:=n) (z:=z) (t:=i - z) (by omega)
   rw [show z+(i - z) = i by omega] at e2
   have e3:=AX p hc
   rw [e1]
   by_cases he:Ak p i = Ak p n
   ·rw [if_pos he,if_pos rfl]; omega
   ·rw [if_neg he,if_neg (by omega:¬ Ak p i = 0)]; omega
theorem Yc {p:Nat->Bool} {n z u v:Nat} (hu:u <= v) (hv:v = 0 ∨ v < Ak p n) (h:snN p n z u = snN p n z v):u = v:=by
 unfold snN at h
 split at h
 ·exact h
 ·split at h <;> split at h <;> omega
def rN (p:Nat->Bool) (n:Nat):Nat->Nat
 | 0=>0
 | b+1=>if Ba p n b < rN p n b then rN p n b else rN p n b+1
theorem N5 {p:Nat->Bool} {n k:Nat} (h:k <= n):Ba p n k = 0 ∨ Ba p n k < Ak p n:=by
 have:=AX p h
 unfold Ba
 split
 ·exact .inl rfl
 ·exact .inr (by omega)
theorem YJ (p:Nat->Bool) (n:Nat):Ba p n 0 = 0:=by
 have h:Ak p 0 = 0:=rfl
 unfold Ba
 split
 ·rfl
 ·exact h
theorem YG (p:Nat->Bool) (n:Nat):∀ b,b < n->rN p n (b+1) = if Ak p b = Ak p n then max (Ak p n) 1 else Ak p b+1
 | 0,h=>by
  have h1:rN p n (0+1) = 1:=by
   rw [rN,YJ]
   simp [rN]
  have h2:Ak p 0 = 0:=rfl
  rw [h1,h2]
  split <;> omega
 | b+1,h=>by
  have ih:=YG p n b (by omega)
  have h1:=AX p (show b+1 <= n by omega)
  have h2:=AX p (show b <= n by omega)
  have h3:=AX p (show b <= b+1 by omega)
  have h4:=LK p b
  rw [rN,ih]
  unfold Ba
  by_cases e1:Ak p (b+1) = Ak p n
  ·rw [if_pos e1,if_pos e1]
   by_cases e2:Ak p b = Ak p n
   ·rw [if_pos e2,if_pos (by omega)]
   ·rw [if_neg e2,if_pos (by omega)]; omega
  ·rw [if_neg e1,if_neg e1]
   have e2:¬ Ak p b = Ak p n:=by omega
   rw [if_neg e2]
   split <;> omega
theorem Ku (p:Nat->Bool) (n:Nat):∀ b,b < n->Ba p n b <= rN p n b
 | 0,h=>by
  rw [YJ]
  exact Nat.zero_le _
 | b+1,h=>by
  rw [YG p n b (by omega)]
  have h1:=AX p (show b+1 <= n by omega)
  have h4:=LK p b
  have h3:=AX p (show b <= b+1 by omega)
  unfold Ba
  split
  ·omega
  ·split <;> omega
theorem Sc (p:Nat->Bool) (n:Nat):∀ b,rN p n b <= b
 | 0=>Nat.le_refl _
 | b+1=>by
  have:=Sc p n b
  simp only [rN]
  split <;> omega
theorem AcC (p:Nat->Bool) (n:Nat):∀ b,b <= n->∀ v,v < rN p n b->v = 0 ∨ v < Ak p n
 | 0,_,v,h=>by simp [rN] at h
 | b+1,hb,v,h=>by
  have ih:=AcC p n b (by omega) v
  simp only [rN] at h
  split at h
  ·exact ih h
  ·rename_i h2
   have h3:=Ku p n b (by omega)
   by_cases hv:v < rN p n b
   ·exact ih hv
   ·have:v = Ba p n b:=by omega
    rw [this]
    exact N5 (by omega)
end Go.Proofs.Ytjhnfomefcngfaa.Sh
