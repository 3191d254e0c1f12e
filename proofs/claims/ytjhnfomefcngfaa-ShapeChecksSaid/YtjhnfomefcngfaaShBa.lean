/-
  Layer 7: which edges are communications, lead to other threads, to other locations (the program's shape package); where a number stands in a list. No conditions.
-/
import Derived.Test.YtjhnfomefcngfaaCyP
namespace Go.Proofs.Ytjhnfomefcngfaa.Sh
open Go.Sy Ed
open Int (ofNat)
theorem Ad1 (e:E6):(As (Aj tab (AI Gl [] []) Try.f91 [eV e] [])).sem = (sel (ieq (e).kind 1) (sel (ieq (e).kind 1) (sel (ieq (e).kind 1) (sel (ieq (e).kind 1) (some ((bV true),[])) none) none) none) (sel (ieq (e).kind 1) (sel (ieq (e).kind 1) (sel (ieq (e).kind 1) (some ((bV true),[])) none) none) (sel (ieq (e).kind 1) (sel (ieq (e).kind 1) (some ((bV true),[])) none) (sel (ieq (e).kind 1) (some ((bV true),[])) (sel (ieq (e).kind 2) (sel (ieq (e).kind 2) (sel (ieq (e).kind 2) (sel (ieq (e).kind 2) (some ((bV true),[])) (some (A8,[]))) none) none) (sel (ieq (e).kind 2) (sel (ieq (e).kind 2) (sel (ieq (e).kind 2) (some ((bV true),[])) (some (A8,[]))) none) (sel (ieq (e).kind 2) (sel (ieq (e).kind 2) (some ((bV true),[])) (some (A8,[]))) (sel (ieq (e).kind 2) (some ((bV true),[])) (some ((bV (ieq (e).kind 3)),[])))))))))):=by kernel_rfl
theorem p91:AB Try.prog Gl 91 (BN fun e=>bV (B0 e)):=by
  refine AB.congr (AS AQ AR Try.func91 (by kernel_rfl) (by kernel_rfl) (Γ:=AI Gl [] []) (AP AC.nil _)) fun vs r h=>?_
  obtain ⟨e,rfl,rfl⟩:=BU h
  refine (Ad1 e).trans ?_
  rw [Of]
  cases ieq e.kind 1 <;> cases ieq e.kind 2 <;> cases ieq e.kind 3 <;> rfl
noncomputable def Xm:List (Nat × (List V->T (V × List Blk))):=(91,BN fun e=>bV (B0 e)) :: []
theorem Uz:AC Try.prog Gl Xm:=.cons p91 .nil
theorem Ad7 (e:E6):(As (Aj tab (AI Gl Xm []) Try.f52 [eV e] [])).sem = (sel (B0 e) (sel (B0 e) (sel (B0 e) (some ((bV (e).ext),[])) (some ((bV false),[]))) (sel (B0 e) (some (A8,[])) (some ((bV false),[])))) (sel (B0 e) none (sel (B0 e) (some (A8,[])) (some ((bV false),[]))))):=by kernel_rfl
theorem p52:AB Try.prog Gl 52 (BN fun e=>bV (Ay e)):=by
  refine AB.congr (AS AQ AR Try.func52 (by kernel_rfl) (by kernel_rfl) (Γ:=AI Gl Xm []) (AP Uz _)) fun vs r h=>?_
  obtain ⟨e,rfl,rfl⟩:=BU h
  refine (Ad7 e).trans ?_
  unfold Ay
  cases B0 e <;> rfl
theorem Ad6 (e:E6):(As (Aj tab (AI Gl Xm []) Try.f54 [eV e] [])).sem = (sel (Am (B0 e)) (sel (Am (B0 e)) (sel (Am (B0 e)) (sel (Am (B0 e)) (some ((bV (Am (e).same)),[])) (some ((bV false),[]))) (sel (Am (B0 e)) (some (A8,[])) (some ((bV false),[])))) (sel (Am (B0 e)) none (sel (Am (B0 e)) (some (A8,[])) (some ((bV false),[]))))) (sel (Am (B0 e)) none (sel (Am (B0 e)) none (sel (Am (B0 e)) (some (A8,[])) (some ((bV false),[])))))):=by kernel_rfl
theorem p54:AB Try.prog Gl 54 (BN fun e=>bV (Au e)):=by
  refine AB.congr (AS AQ AR Try.func54 (by kernel_rfl) (by kernel_rfl) (Γ:=AI Gl Xm []) (AP Uz _)) fun vs r h=>?_
  obtain ⟨e,rfl,rfl⟩:=BU h
  refine (Ad6 e).trans ?_
  unfold Au
  cases B0 e <;> rfl
noncomputable def Hz (n:Nat) (f:Nat->Int) (x:Int):Int:=match (List.range n).find? fun i=>ieq x (f i) with
  | some i=>ofNat i
  | none=>-1
theorem Pq {n:Nat} {f:Nat->Int} {x:Int} {i:Nat} (hi:i < n) (h:ieq x (f i) = true) (hb:∀ k,k < i->ieq x (f k) = false):Hz n f x = ofNat i:=by
  unfold Hz
  have:(List.range n).find? (fun i=>ieq x (f i)) = some i:=by
    rw [List.find?_range_eq_some]
    exact ⟨h,by simpa using hi,fun j hj=>by rw [hb j hj]; rfl⟩
  rw [this]
theorem Sn {n:Nat} {f:Nat->Int} {x:Int} (h:∀ k,k < n->ieq x (f k) = false):Hz n f x = -1:=by
  unfold Hz
  have:(List.range n).find? (fun i=>ieq x (f i)) = none:=by
    rw [List.find?_eq_none]
    intro k hk
    rw [h k (by simpa using hk)]
    simp
  rw [this]
def Nz (n:Nat) (f:Nat->Int) (x:Int):Lp:=⟨(bmK 19 0 [0,1,4,7,8]),0,bmK 19 0 [4],0,n+1⟩
def MO (n:Nat) (f:Nat->Int) (x:Int) (b:Nat) (j:Nat->V):St:=⟨(jsV 19 0 j [(0,.sl 1 n fun k=>iV (f k)),(1,iV x),(4,iV 0),(7,nV n),(8,nV b)]),[]⟩
def SA (n:Nat) (f:Nat->Int) (x:Int) (b:Nat):Ex × St:=(.rt,⟨(jsV 19 0 (fun _=>.und) [(4,nV b)]),[]⟩)
def SB (n:Nat) (f:Nat->Int) (x:Int) (b:Nat):Ex × St:=(.ex 0,⟨(jsV 19 0 (fun _=>.und) [(4,iV 0)]),[]⟩)
noncomputable def FG (L:LT):St->T (Ex × St):=fun st=>AE tab ⟨Ao tb0,L,Gl⟩ (Az Try.f92 0) 0 st
section
variable (L:LT) (n:Nat) (f:Nat->Int) (x:Int) (b:Nat)  (j:Nat->V)
include L n f x b j
theorem Ahw (h0:ilt (ofNat b) (ofNat n) = true) (h11:ile 0 (ofNat b) = true) (h1:ieq x (f b) = false):Al (FG L) (Nz n f x) (MO n f x b j) = some (.nm,⟨(jsV 19 0 (fun _=>.und) [(0,(.sl 1 n (fun k=>iV (f k)))),(1,(iV x)),(4,(iV 0)),(7,(nV n)),(8,(iV (wr .i64 (Af (ofNat b) 1))))]),[]⟩):=Aa [true,true,false] [ilt (ofNat b) (ofNat n),Ag (ile 0 (ofNat b)) (ilt (ofNat b) (ofNat n)),ieq x (f b)] (by kernel_rfl) (by simp only [*] <;> rfl)
theorem Ahv (h0:ilt (ofNat b) (ofNat n) = true) (h11:ile 0 (ofNat b) = true) (h1:ieq x (f b) = true):Al (FG L) (Nz n f x) (MO n f x b j) = some (.rt,⟨(jsV 19 0 (fun _=>.und) [(4,(nV b))]),[]⟩):=Aa [true,true,true] [ilt (ofNat b) (ofNat n),Ag (ile 0 (ofNat b)) (ilt (ofNat b) (ofNat n)),ieq x (f b)] (by kernel_rfl) (by simp only [*] <;> rfl)
theorem Ahx (h0:ilt (ofNat b) (ofNat n) = false):Al (FG L) (Nz n f x) (MO n f x b j) = some ((.ex 0),⟨(jsV 19 0 (fun _=>.und) [(4,(iV 0))]),[]⟩):=Aa [false] [ilt (ofNat b) (ofNat n)] (by kernel_rfl) (by simp only [h0] <;> rfl)
end
def YB (n:Nat) (f:Nat->Int) (x:Int) :Nat->V:=lkV A8 [(6,(.sl 1 n (fun k=>iV (f k))))]
theorem Agf (L:LT) (p0:PT) (n:Nat) (f:Nat->Int) (x:Int) (b:Nat)  (hp0:p0 (FG (onP 0 p0 (SA n f x b) L)) (MO n f x 0 (YB n f x )) = true):(As (Aj tab ⟨Ao tb0,onP 0 p0 (SA n f x b) L,Gl⟩ Try.f92 [.sl 1 n fun k=>iV (f k),iV x] [])).sem = some ((nV b),[]):=Aa [true] [p0 (FG (onP 0 p0 (SA n f x b) L)) (MO n f x 0 (YB n f x ))] (by kernel_rfl) (by simp only [hp0] <;> rfl)
theorem Agg (L:LT) (p0:PT) (n:Nat) (f:Nat->Int) (x:Int)  (hp0:p0 (FG (onP 0 p0 (SB n f x 0) L)) (MO n f x 0 (YB n f x )) = true):(As (Aj tab ⟨Ao tb0,onP 0 p0 (SB n f x 0) L,Gl⟩ Try.f92 [.sl 1 n fun k=>iV (f k),iV x] [])).sem = some ((iV (-1)),[]):=Aa [true] [p0 (FG (onP 0 p0 (SB n f x 0) L)) (MO n f x 0 (YB n f x ))] (by kernel_rfl) (by simp only [hp0] <;> rfl)
theorem AbS (L:LT) (n:Nat) (f:Nat->Int) (x:Int) (hn:n <= 4611686018427387904):∀ (e i:Nat) (j:Nat->V) (q:Nat),n = i+e->e < q->(∀ k,k < i->ieq x (f k) = false) ->
    ((A7 (FG L) (Nz n f x) q (MO n f x i j)).sem = some (SB n f x 0) ∧ Hz n f x = -1) ∨ ∃ b,(A7 (FG L) (Nz n f x) q (MO n f x i j)).sem = some (SA n f x b) ∧ Hz n f x = ofNat b
  | 0,i,j,q+1,h,_,hb=>by
    have:n = i:=by omega
    subst this
    exact .inl ⟨Ac (Ahx L n f x n j (AA (Nat.le_refl _))),Sn hb⟩
  | e+1,i,j,q+1,h,h2,hb=>by
    have hl:i < n:=by omega
    cases hp:ieq x (f i) with
    | true =>
      exact .inr ⟨i,Ac (Ahv L n f x i j (ofNat_lt hl) (AH i) hp),Pq hl hp hb⟩
    | false =>
      rw [Ac (Ahw L n f x i j (ofNat_lt hl) (AH i) hp),Av,Aq hl hn]
      refine AbS L n f x hn e (i+1) (fun _=>.und) q (by omega) (by omega) fun k hk=>?_
      by_cases hki:k = i
      · rw [hki]; exact hp
      · exact hb k (by omega)
noncomputable def TS:List V->T (V × List Blk)
  | [v,.val (.int .i64 x)]=>apI v fun n f=>.br (BL n) (.leaf (iV (Hz n f x),[])) .fail
  | _=>.fail
theorem p92:AB Try.prog Gl 92 TS:=by
  refine A1 AQ AR Try.func92 (by kernel_rfl) (by kernel_rfl) fun vs v h' h=>?_
  unfold TS at h
  split at h
  · rename_i u x
    obtain ⟨n,f,ha,h1⟩:=EM h
    obtain ⟨h8,hq⟩:=Ah h1
    have:=Ad hq
    simp only [Prod.mk.injEq] at this
    obtain ⟨rfl,rfl⟩:=this
    have h8':n * 8 <= 140737488355328:=of_decide_eq_true h8
    have hA:Bw [u,iV x] [Cg n f,iV x]:=fun S w cs hv=>by
      obtain ⟨c,l,rfl,q1,q2⟩:=hv
      exact ⟨c,l,rfl,ha S w c q1,q2⟩
    have hx:=AP CW [(0,Nz n f x)] (G:=Gl)
    have hL:=AD [(0,Nz n f x)]
    refine ⟨_,AI Gl tb0 [(0,Nz n f x)],_,hA,rfl,hx.1,hx.2,?_,A6.refl _⟩
    have h0:=fun L j=>AbS L n f x (by omega) n 0 j (n+1) (by omega) (by omega) (fun k hk=>absurd hk (Nat.not_lt_zero _))
    rcases h0 (Bk [(0,Nz n f x)]) (YB n f x) with ⟨_,h5⟩ | ⟨b,_,h5⟩
    · have h6:∀ L j,(A7 (FG L) (Nz n f x) (n+1) (MO n f x 0 j)).sem = some (SB n f x 0):=fun L j=>by
        rcases h0 L j with ⟨h,_⟩ | ⟨b,_,h⟩
        · exact h
        · rw [h5] at h
          cases h
      rw [h5]
      exact A3 (Aw hL hL) _ (Agg _ _ n f x (An (h6 _ _)))
    · have h6:∀ L j,(A7 (FG L) (Nz n f x) (n+1) (MO n f x 0 j)).sem = some (SA n f x b):=fun L j=>by
        rcases h0 L j with ⟨_,h⟩ | ⟨b',h,h'⟩
        · rw [h5] at h
          cases h
        · rw [h5] at h'
          cases h'
          exact h
      rw [h5]
      exact A3 (Aw hL hL) _ (Agf _ _ n f x b (An (h6 _ _)))
  · cases h
end Go.Proofs.Ytjhnfomefcngfaa.Sh
namespace Go.Proofs.Ytjhnfomefcngfaa.Sh
open Go.Sy Ed
inductive Begin (p:Nat->Bool) (n:Nat):Nat->Prop
  | none:(∀ k,k < n->p k = false)->Begin p n 0
  | last:0 < n->p (n - 1) = true->Begin p n 0
  | first {z:Nat}:0 < z->z < n->p (z - 1) = true->(∀ k,k < z - 1->p k = false)->p (n - 1) = false->Begin p n z
theorem GY {p:Nat->Bool}:∀ {k:Nat},(∀ i,i < k->p i = false)->Ak p k = 0
  | 0,_=>rfl
  | k+1,h=>by rw [Bv (h k (Nat.lt_succ_self k)),GY fun i hi=>h i (by omega)]
theorem Lz (p:Nat->Bool) (k:Nat):Ak p (k+1) = Ak p k ∨ Ak p (k+1) = Ak p k+1:=by
  cases h:p k with
  | true=>exact .inr (Bg h)
  | false=>exact .inl (Bv h)
def DX (p:Nat->Bool) (n z t:Nat):Bool:=p ((z+t) % n)
theorem GW {p:Nat->Bool} {n z:Nat}:∀ {t:Nat},z+t <= n->Ak (DX p n z) t+Ak p z = Ak p (z+t)
  | 0,_=>by simp [Ak]
  | t+1,h=>by
    have ih:=GW (p:=p) (n:=n) (z:=z) (t:=t) (by omega)
    have he:DX p n z t = p (z+t):=by unfold DX; rw [Nat.mod_eq_of_lt (by omega)]
    rw [show z+(t+1) = z+t+1 by omega]
    cases hp:p (z+t) with
    | true=>rw [Bg (he.trans hp),Bg hp]; omega
    | false=>rw [Bv (he.trans hp),Bv hp]; exact ih
theorem P3 {p:Nat->Bool} {n z:Nat} (hz:z <= n):∀ {i:Nat},i <= z->Ak (DX p n z) (n - z+i)+Ak p z = Ak p n+Ak p i
  | 0,_=>by
    have:=GW (p:=p) (n:=n) (z:=z) (t:=n - z) (by omega)
    rw [show z+(n - z) = n by omega] at this
    simpa [Ak] using this
  | i+1,h=>by
    have ih:=P3 (p:=p) (n:=n) (z:=z) hz (i:=i) (by omega)
    have he:DX p n z (n - z+i) = p i:=by
      unfold DX
      rw [show z+(n - z+i) = i+n by omega,Nat.add_mod_right,Nat.mod_eq_of_lt (by omega)]
    rw [show n - z+(i+1) = n - z+i+1 by omega]
    cases hp:p i with
    | true=>rw [Bg (he.trans hp),Bg hp]; omega
    | false=>rw [Bv (he.trans hp),Bv hp]; exact ih
def posN (n z i:Nat):Nat:=(i+(n - z)) % n
def Bd (p:Nat->Bool) (n k:Nat):Nat:=if Ak p k = Ak p n then 0 else Ak p k
theorem Ho {p:Nat->Bool} {n k:Nat} (h:k < n):A0 p n k = Int.ofNat (Bd p n k):=by
  unfold A0 Bd
  rw [show decide (k < n) = true by simpa using h]
  simp only [cond_true]
  by_cases he:Ak p k = Ak p n
  · simp [he]
  · simp [he]
def snN (p:Nat->Bool) (n z v:Nat):Nat:=if z = 0 then v else if v = 0 then Ak p n - 1 else v - 1
theorem AaC {p:Nat->Bool} {n z:Nat} (hb:Begin p n z) {i:Nat} (hi:i < n):Ak (DX p n z) (posN n z i) = snN p n z (Bd p n i):=by
  have hmi:=Bb p (show i <= n by omega)
  cases hb with
  | none h0 =>
    have h1:Ak p n = 0:=GY h0
    have h2:posN n 0 i = i:=by unfold posN; rw [Nat.sub_zero,Nat.add_mod_right,Nat.mod_eq_of_lt hi]
    have h3:=GW (p:=p) (n:=n) (z:=0) (t:=i) (by omega)
    rw [Nat.zero_add] at h3
    rw [h2]
    unfold snN Bd
    rw [if_pos rfl,h1]
    simp [Ak] at h3
    rw [h3]
    split <;> omega
  | last hn h0 =>
    have h2:posN n 0 i = i:=by unfold posN; rw [Nat.sub_zero,Nat.add_mod_right,Nat.mod_eq_of_lt hi]
    have h3:=GW (p:=p) (n:=n) (z:=0) (t:=i) (by omega)
    rw [Nat.zero_add] at h3
    have h4:Ak p n = Ak p (n - 1)+1:=by
      have:=Bg h0
      rwa [show n - 1+1 = n by omega] at this
    have h5:=Bb p (show i <= n - 1 by omega)
    rw [h2]
    unfold snN Bd
    rw [if_pos rfl]
    simp [Ak] at h3
    rw [h3,if_neg (by omega)]
  | first hz hzn h0 h1 h2 =>
    have c0:Ak p (z - 1) = 0:=GY h1
    have c1:Ak p z = 1:=by
      have:=Bg h0
      rwa [show z - 1+1 = z by omega,c0] at this
    have hK:=Bb p (show z <= n by omega)
    unfold snN Bd
    rw [if_neg (by omega)]
    rcases Nat.lt_or_ge i z with hc | hc
    · have e1:posN n z i = n - z+i:=by unfold posN; rw [Nat.mod_eq_of_lt (by omega)]; omega
      have e2:=P3 (p:=p) (n:=n) (z:=z) (by omega) (i:=i) (by omega)
      have e3:Ak p i = 0:=GY fun k hk=>h1 k (by omega)
      have e4:(if Ak p i = Ak p n then 0 else Ak p i) = 0:=by split <;> omega
      rw [e1,if_pos e4]
      omega
    · have e1:posN n z i = i - z:=by unfold posN; rw [show i+(n - z) = i - z+n by omega,Nat.add_mod_right,Nat.mod_eq_of_lt (by omega)]
      have e2:=GW (p:=p) (n:=n) (z:=z) (t:=i - z) (by omega)
      rw [show z+(i - z) = i by omega] at e2
      have e3:=Bb p hc
      rw [e1]
      by_cases he:Ak p i = Ak p n
      · rw [if_pos he,if_pos rfl]; omega
      · rw [if_neg he,if_neg (by omega:¬ Ak p i = 0)]; omega
theorem X1 {p:Nat->Bool} {n z u v:Nat} (hu:u <= v) (hv:v = 0 ∨ v < Ak p n) (h:snN p n z u = snN p n z v):u = v:=by
  unfold snN at h
  split at h
  · exact h
  · split at h <;> split at h <;> omega
def rN (p:Nat->Bool) (n:Nat):Nat->Nat
  | 0=>0
  | b+1=>if Bd p n b < rN p n b then rN p n b else rN p n b+1
theorem Nk {p:Nat->Bool} {n k:Nat} (h:k <= n):Bd p n k = 0 ∨ Bd p n k < Ak p n:=by
  have:=Bb p h
  unfold Bd
  split
  · exact .inl rfl
  · exact .inr (by omega)
theorem Yc (p:Nat->Bool) (n:Nat):Bd p n 0 = 0:=by
  have h:Ak p 0 = 0:=rfl
  unfold Bd
  split
  · rfl
  · exact h
theorem XZ (p:Nat->Bool) (n:Nat):∀ b,b < n->rN p n (b+1) = if Ak p b = Ak p n then max (Ak p n) 1 else Ak p b+1
  | 0,h=>by
    have h1:rN p n (0+1) = 1:=by
      rw [rN,Yc]
      simp [rN]
    have h2:Ak p 0 = 0:=rfl
    rw [h1,h2]
    split <;> omega
  | b+1,h=>by
    have ih:=XZ p n b (by omega)
    have h1:=Bb p (show b+1 <= n by omega)
    have h2:=Bb p (show b <= n by omega)
    have h3:=Bb p (show b <= b+1 by omega)
    have h4:=Lz p b
    rw [rN,ih]
    unfold Bd
    by_cases e1:Ak p (b+1) = Ak p n
    · rw [if_pos e1,if_pos e1]
      by_cases e2:Ak p b = Ak p n
      · rw [if_pos e2,if_pos (by omega)]
      · rw [if_neg e2,if_pos (by omega)]; omega
    · rw [if_neg e1,if_neg e1]
      have e2:¬ Ak p b = Ak p n:=by omega
      rw [if_neg e2]
      split <;> omega
theorem Kh (p:Nat->Bool) (n:Nat):∀ b,b < n->Bd p n b <= rN p n b
  | 0,h=>by
    rw [Yc]
    exact Nat.zero_le _
  | b+1,h=>by
    rw [XZ p n b (by omega)]
    have h1:=Bb p (show b+1 <= n by omega)
    have h4:=Lz p b
    have h3:=Bb p (show b <= b+1 by omega)
    unfold Bd
    split
    · omega
    · split <;> omega
theorem R5 (p:Nat->Bool) (n:Nat):∀ b,rN p n b <= b
  | 0=>Nat.le_refl _
  | b+1=>by
    have:=R5 p n b
    simp only [rN]
    split <;> omega
theorem Acj (p:Nat->Bool) (n:Nat):∀ b,b <= n->∀ v,v < rN p n b->v = 0 ∨ v < Ak p n
  | 0,_,v,h=>by simp [rN] at h
  | b+1,hb,v,h=>by
    have ih:=Acj p n b (by omega) v
    simp only [rN] at h
    split at h
    · exact ih h
    · rename_i h2
      have h3:=Kh p n b (by omega)
      by_cases hv:v < rN p n b
      · exact ih hv
      · have:v = Bd p n b:=by omega
        rw [this]
        exact Nk (by omega)
end Go.Proofs.Ytjhnfomefcngfaa.Sh
