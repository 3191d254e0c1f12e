/-
  Layer 7: which edges are communications, lead to other threads, to other locations (the program's shape package); where a number stands in a list. No conditions.
-/
import Derived.Test.YtjhnfomefcngfaaCyP
namespace Go.Proofs.Ytjhnfomefcngfaa.Sh
open Go.Sy Ed
open Int (ofNat)
theorem Ad4 (e:E6):(A1 (Al tab (AR Gl [] []) Try.f91 [eV e] [])).sem = (sel (ieq (e).kind 1) (sel (ieq (e).kind 1) (sel (ieq (e).kind 1) (sel (ieq (e).kind 1) (some ((bV true),[])) none) none) none) (sel (ieq (e).kind 1) (sel (ieq (e).kind 1) (sel (ieq (e).kind 1) (some ((bV true),[])) none) none) (sel (ieq (e).kind 1) (sel (ieq (e).kind 1) (some ((bV true),[])) none) (sel (ieq (e).kind 1) (some ((bV true),[])) (sel (ieq (e).kind 2) (sel (ieq (e).kind 2) (sel (ieq (e).kind 2) (sel (ieq (e).kind 2) (some ((bV true),[])) (some (A7,[]))) none) none) (sel (ieq (e).kind 2) (sel (ieq (e).kind 2) (sel (ieq (e).kind 2) (some ((bV true),[])) (some (A7,[]))) none) (sel (ieq (e).kind 2) (sel (ieq (e).kind 2) (some ((bV true),[])) (some (A7,[]))) (sel (ieq (e).kind 2) (some ((bV true),[])) (some ((bV (ieq (e).kind 3)),[])))))))))):=by kernel_rfl
theorem p91:AD Try.prog Gl 91 (BK fun e=>bV (B0 e)):=by
  refine AD.congr (AS AO AP Try.func91 (by kernel_rfl) (by kernel_rfl) (Γ:=AR Gl [] []) (AQ AF.nil _)) fun vs r h=>?_
  obtain ⟨e,rfl,rfl⟩:=BS h
  refine (Ad4 e).trans ?_
  rw [Oh]
  cases ieq e.kind 1 <;> cases ieq e.kind 2 <;> cases ieq e.kind 3 <;> rfl
noncomputable def Xz:List (Nat × (List V->T (V × List Blk))):=(91,BK fun e=>bV (B0 e)) :: []
theorem U8:AF Try.prog Gl Xz:=.cons p91 .nil
theorem AdA (e:E6):(A1 (Al tab (AR Gl Xz []) Try.f52 [eV e] [])).sem = (sel (B0 e) (sel (B0 e) (sel (B0 e) (some ((bV (e).ext),[])) (some ((bV false),[]))) (sel (B0 e) (some (A7,[])) (some ((bV false),[])))) (sel (B0 e) none (sel (B0 e) (some (A7,[])) (some ((bV false),[]))))):=by kernel_rfl
theorem p52:AD Try.prog Gl 52 (BK fun e=>bV (Az e)):=by
  refine AD.congr (AS AO AP Try.func52 (by kernel_rfl) (by kernel_rfl) (Γ:=AR Gl Xz []) (AQ U8 _)) fun vs r h=>?_
  obtain ⟨e,rfl,rfl⟩:=BS h
  refine (AdA e).trans ?_
  unfold Az
  cases B0 e <;> rfl
theorem Ad9 (e:E6):(A1 (Al tab (AR Gl Xz []) Try.f54 [eV e] [])).sem = (sel (Am (B0 e)) (sel (Am (B0 e)) (sel (Am (B0 e)) (sel (Am (B0 e)) (some ((bV (Am (e).same)),[])) (some ((bV false),[]))) (sel (Am (B0 e)) (some (A7,[])) (some ((bV false),[])))) (sel (Am (B0 e)) none (sel (Am (B0 e)) (some (A7,[])) (some ((bV false),[]))))) (sel (Am (B0 e)) none (sel (Am (B0 e)) none (sel (Am (B0 e)) (some (A7,[])) (some ((bV false),[])))))):=by kernel_rfl
theorem p54:AD Try.prog Gl 54 (BK fun e=>bV (Au e)):=by
  refine AD.congr (AS AO AP Try.func54 (by kernel_rfl) (by kernel_rfl) (Γ:=AR Gl Xz []) (AQ U8 _)) fun vs r h=>?_
  obtain ⟨e,rfl,rfl⟩:=BS h
  refine (Ad9 e).trans ?_
  unfold Au
  cases B0 e <;> rfl
noncomputable def Hq (n:Nat) (f:Nat->Int) (x:Int):Int:=match (List.range n).find? fun i=>ieq x (f i) with
  | some i=>ofNat i
  | none=>-1
theorem Pr {n:Nat} {f:Nat->Int} {x:Int} {i:Nat} (hi:i < n) (h:ieq x (f i) = true) (hb:∀ k,k < i->ieq x (f k) = false):Hq n f x = ofNat i:=by
  unfold Hq
  have:(List.range n).find? (fun i=>ieq x (f i)) = some i:=by
    rw [List.find?_range_eq_some]
    exact ⟨h,by simpa using hi,fun j hj=>by rw [hb j hj]; rfl⟩
  rw [this]
theorem Sk {n:Nat} {f:Nat->Int} {x:Int} (h:∀ k,k < n->ieq x (f k) = false):Hq n f x = -1:=by
  unfold Hq
  have:(List.range n).find? (fun i=>ieq x (f i)) = none:=by
    rw [List.find?_eq_none]
    intro k hk
    rw [h k (by simpa using hk)]
    simp
  rw [this]
def Nt (n:Nat) (f:Nat->Int) (x:Int):Lp:=⟨(bmK 19 0 [0,1,4,7,8]),0,bmK 19 0 [4],0,n+1⟩
def MI (n:Nat) (f:Nat->Int) (x:Int) (b:Nat) (j:Nat->V):St:=⟨(jsV 19 0 j [(0,.sl 1 n fun k=>iV (f k)),(1,iV x),(4,iV 0),(7,nV n),(8,nV b)]),[]⟩
def SA (n:Nat) (f:Nat->Int) (x:Int) (b:Nat):Ex × St:=(.rt,⟨(jsV 19 0 (fun _=>.und) [(4,nV b)]),[]⟩)
def SB (n:Nat) (f:Nat->Int) (x:Int) (b:Nat):Ex × St:=(.ex 0,⟨(jsV 19 0 (fun _=>.und) [(4,iV 0)]),[]⟩)
noncomputable def F8 (L:LT):St->T (Ex × St):=fun st=>A9 tab ⟨Ao tb0,L,Gl⟩ (Av Try.f92 0) 0 st
section
variable (L:LT) (n:Nat) (f:Nat->Int) (x:Int) (b:Nat)  (j:Nat->V)
include L n f x b j
theorem Ah3 (h0:ilt (ofNat b) (ofNat n) = true) (h11:ile 0 (ofNat b) = true) (h1:ieq x (f b) = false):Ai (F8 L) (Nt n f x) (MI n f x b j) = some (.nm,⟨(jsV 19 0 (fun _=>.und) [(0,(.sl 1 n (fun k=>iV (f k)))),(1,(iV x)),(4,(iV 0)),(7,(nV n)),(8,(iV (wr .i64 (Ae (ofNat b) 1))))]),[]⟩):=Aa [true,true,false] [ilt (ofNat b) (ofNat n),Af (ile 0 (ofNat b)) (ilt (ofNat b) (ofNat n)),ieq x (f b)] (by kernel_rfl) (by simp only [*] <;> rfl)
theorem Ah2 (h0:ilt (ofNat b) (ofNat n) = true) (h11:ile 0 (ofNat b) = true) (h1:ieq x (f b) = true):Ai (F8 L) (Nt n f x) (MI n f x b j) = some (.rt,⟨(jsV 19 0 (fun _=>.und) [(4,(nV b))]),[]⟩):=Aa [true,true,true] [ilt (ofNat b) (ofNat n),Af (ile 0 (ofNat b)) (ilt (ofNat b) (ofNat n)),ieq x (f b)] (by kernel_rfl) (by simp only [*] <;> rfl)
theorem Ah4 (h0:ilt (ofNat b) (ofNat n) = false):Ai (F8 L) (Nt n f x) (MI n f x b j) = some ((.ex 0),⟨(jsV 19 0 (fun _=>.und) [(4,(iV 0))]),[]⟩):=Aa [false] [ilt (ofNat b) (ofNat n)] (by kernel_rfl) (by simp only [h0] <;> rfl)
end
def YQ (n:Nat) (f:Nat->Int) (x:Int) :Nat->V:=lkV A7 [(6,(.sl 1 n (fun k=>iV (f k))))]
theorem Agr (L:LT) (p0:PT) (n:Nat) (f:Nat->Int) (x:Int) (b:Nat)  (hp0:p0 (F8 (onP 0 p0 (SA n f x b) L)) (MI n f x 0 (YQ n f x )) = true):(A1 (Al tab ⟨Ao tb0,onP 0 p0 (SA n f x b) L,Gl⟩ Try.f92 [.sl 1 n fun k=>iV (f k),iV x] [])).sem = some ((nV b),[]):=Aa [true] [p0 (F8 (onP 0 p0 (SA n f x b) L)) (MI n f x 0 (YQ n f x ))] (by kernel_rfl) (by simp only [hp0] <;> rfl)
theorem Ags (L:LT) (p0:PT) (n:Nat) (f:Nat->Int) (x:Int)  (hp0:p0 (F8 (onP 0 p0 (SB n f x 0) L)) (MI n f x 0 (YQ n f x )) = true):(A1 (Al tab ⟨Ao tb0,onP 0 p0 (SB n f x 0) L,Gl⟩ Try.f92 [.sl 1 n fun k=>iV (f k),iV x] [])).sem = some ((iV (-1)),[]):=Aa [true] [p0 (F8 (onP 0 p0 (SB n f x 0) L)) (MI n f x 0 (YQ n f x ))] (by kernel_rfl) (by simp only [hp0] <;> rfl)
theorem Acb (L:LT) (n:Nat) (f:Nat->Int) (x:Int) (hn:n <= 4611686018427387904):∀ (e i:Nat) (j:Nat->V) (q:Nat),n = i+e->e < q->(∀ k,k < i->ieq x (f k) = false) ->
    ((A3 (F8 L) (Nt n f x) q (MI n f x i j)).sem = some (SB n f x 0) ∧ Hq n f x = -1) ∨ ∃ b,(A3 (F8 L) (Nt n f x) q (MI n f x i j)).sem = some (SA n f x b) ∧ Hq n f x = ofNat b
  | 0,i,j,q+1,h,_,hb=>by
    have:n = i:=by omega
    subst this
    exact .inl ⟨Ab (Ah4 L n f x n j (A8 (Nat.le_refl _))),Sk hb⟩
  | e+1,i,j,q+1,h,h2,hb=>by
    have hl:i < n:=by omega
    cases hp:ieq x (f i) with
    | true =>
      exact .inr ⟨i,Ab (Ah2 L n f x i j (ofNat_lt hl) (AJ i) hp),Pr hl hp hb⟩
    | false =>
      rw [Ab (Ah3 L n f x i j (ofNat_lt hl) (AJ i) hp),Aw,Aq hl hn]
      refine Acb L n f x hn e (i+1) (fun _=>.und) q (by omega) (by omega) fun k hk=>?_
      by_cases hki:k = i
      · rw [hki]; exact hp
      · exact hb k (by omega)
noncomputable def TV:List V->T (V × List Blk)
  | [v,.val (.int .i64 x)]=>apI v fun n f=>.br (Ca n) (.leaf (iV (Hq n f x),[])) .fail
  | _=>.fail
theorem p92:AD Try.prog Gl 92 TV:=by
  refine A5 AO AP Try.func92 (by kernel_rfl) (by kernel_rfl) fun vs v h' h=>?_
  unfold TV at h
  split at h
  · rename_i u x
    obtain ⟨n,f,ha,h1⟩:=FA h
    obtain ⟨h8,hq⟩:=Ag h1
    have:=Ac hq
    simp only [Prod.mk.injEq] at this
    obtain ⟨rfl,rfl⟩:=this
    have h8':n * 8 <= 140737488355328:=of_decide_eq_true h8
    have hA:BA [u,iV x] [DW n f,iV x]:=fun S w cs hv=>by
      obtain ⟨c,l,rfl,q1,q2⟩:=hv
      exact ⟨c,l,rfl,ha S w c q1,q2⟩
    have hx:=AQ CU [(0,Nt n f x)] (G:=Gl)
    have hL:=AC [(0,Nt n f x)]
    refine ⟨_,AR Gl tb0 [(0,Nt n f x)],_,hA,rfl,hx.1,hx.2,?_,AB.refl _⟩
    have h0:=fun L j=>Acb L n f x (by omega) n 0 j (n+1) (by omega) (by omega) (fun k hk=>absurd hk (Nat.not_lt_zero _))
    rcases h0 (Bc [(0,Nt n f x)]) (YQ n f x) with ⟨_,h5⟩ | ⟨b,_,h5⟩
    · have h6:∀ L j,(A3 (F8 L) (Nt n f x) (n+1) (MI n f x 0 j)).sem = some (SB n f x 0):=fun L j=>by
        rcases h0 L j with ⟨h,_⟩ | ⟨b,_,h⟩
        · exact h
        · rw [h5] at h
          cases h
      rw [h5]
      exact A6 (Ax hL hL) _ (Ags _ _ n f x (Ak (h6 _ _)))
    · have h6:∀ L j,(A3 (F8 L) (Nt n f x) (n+1) (MI n f x 0 j)).sem = some (SA n f x b):=fun L j=>by
        rcases h0 L j with ⟨_,h⟩ | ⟨b',h,h'⟩
        · rw [h5] at h
          cases h
        · rw [h5] at h'
          cases h'
          exact h
      rw [h5]
      exact A6 (Ax hL hL) _ (Agr _ _ n f x b (Ak (h6 _ _)))
  · cases h
end Go.Proofs.Ytjhnfomefcngfaa.Sh
namespace Go.Proofs.Ytjhnfomefcngfaa.Sh
open Go.Sy Ed
inductive Begin (p:Nat->Bool) (n:Nat):Nat->Prop
  | none:(∀ k,k < n->p k = false)->Begin p n 0
  | last:0 < n->p (n - 1) = true->Begin p n 0
  | first {z:Nat}:0 < z->z < n->p (z - 1) = true->(∀ k,k < z - 1->p k = false)->p (n - 1) = false->Begin p n z
theorem GQ {p:Nat->Bool}:∀ {k:Nat},(∀ i,i < k->p i = false)->Aj p k = 0
  | 0,_=>rfl
  | k+1,h=>by rw [B2 (h k (Nat.lt_succ_self k)),GQ fun i hi=>h i (by omega)]
theorem Ly (p:Nat->Bool) (k:Nat):Aj p (k+1) = Aj p k ∨ Aj p (k+1) = Aj p k+1:=by
  cases h:p k with
  | true=>exact .inr (Bi h)
  | false=>exact .inl (B2 h)
def DO (p:Nat->Bool) (n z t:Nat):Bool:=p ((z+t) % n)
theorem GO {p:Nat->Bool} {n z:Nat}:∀ {t:Nat},z+t <= n->Aj (DO p n z) t+Aj p z = Aj p (z+t)
  | 0,_=>by simp [Aj]
  | t+1,h=>by
    have ih:=GO (p:=p) (n:=n) (z:=z) (t:=t) (by omega)
    have he:DO p n z t = p (z+t):=by unfold DO; rw [Nat.mod_eq_of_lt (by omega)]
    rw [show z+(t+1) = z+t+1 by omega]
    cases hp:p (z+t) with
    | true=>rw [Bi (he.trans hp),Bi hp]; omega
    | false=>rw [B2 (he.trans hp),B2 hp]; exact ih
theorem P3 {p:Nat->Bool} {n z:Nat} (hz:z <= n):∀ {i:Nat},i <= z->Aj (DO p n z) (n - z+i)+Aj p z = Aj p n+Aj p i
  | 0,_=>by
    have:=GO (p:=p) (n:=n) (z:=z) (t:=n - z) (by omega)
    rw [show z+(n - z) = n by omega] at this
    simpa [Aj] using this
  | i+1,h=>by
    have ih:=P3 (p:=p) (n:=n) (z:=z) hz (i:=i) (by omega)
    have he:DO p n z (n - z+i) = p i:=by
      unfold DO
      rw [show z+(n - z+i) = i+n by omega,Nat.add_mod_right,Nat.mod_eq_of_lt (by omega)]
    rw [show n - z+(i+1) = n - z+i+1 by omega]
    cases hp:p i with
    | true=>rw [Bi (he.trans hp),Bi hp]; omega
    | false=>rw [B2 (he.trans hp),B2 hp]; exact ih
def posN (n z i:Nat):Nat:=(i+(n - z)) % n
def Ba (p:Nat->Bool) (n k:Nat):Nat:=if Aj p k = Aj p n then 0 else Aj p k
theorem Hf {p:Nat->Bool} {n k:Nat} (h:k < n):A0 p n k = Int.ofNat (Ba p n k):=by
  unfold A0 Ba
  rw [show decide (k < n) = true by simpa using h]
  simp only [cond_true]
  by_cases he:Aj p k = Aj p n
  · simp [he]
  · simp [he]
def snN (p:Nat->Bool) (n z v:Nat):Nat:=if z = 0 then v else if v = 0 then Aj p n - 1 else v - 1
theorem AaZ {p:Nat->Bool} {n z:Nat} (hb:Begin p n z) {i:Nat} (hi:i < n):Aj (DO p n z) (posN n z i) = snN p n z (Ba p n i):=by
  have hmi:=AY p (show i <= n by omega)
  cases hb with
  | none h0 =>
    have h1:Aj p n = 0:=GQ h0
    have h2:posN n 0 i = i:=by unfold posN; rw [Nat.sub_zero,Nat.add_mod_right,Nat.mod_eq_of_lt hi]
    have h3:=GO (p:=p) (n:=n) (z:=0) (t:=i) (by omega)
    rw [Nat.zero_add] at h3
    rw [h2]
    unfold snN Ba
    rw [if_pos rfl,h1]
    simp [Aj] at h3
    rw [h3]
    split <;> omega
  | last hn h0 =>
    have h2:posN n 0 i = i:=by unfold posN; rw [Nat.sub_zero,Nat.add_mod_right,Nat.mod_eq_of_lt hi]
    have h3:=GO (p:=p) (n:=n) (z:=0) (t:=i) (by omega)
    rw [Nat.zero_add] at h3
    have h4:Aj p n = Aj p (n - 1)+1:=by
      have:=Bi h0
      rwa [show n - 1+1 = n by omega] at this
    have h5:=AY p (show i <= n - 1 by omega)
    rw [h2]
    unfold snN Ba
    rw [if_pos rfl]
    simp [Aj] at h3
    rw [h3,if_neg (by omega)]
  | first hz hzn h0 h1 h2 =>
    have c0:Aj p (z - 1) = 0:=GQ h1
    have c1:Aj p z = 1:=by
      have:=Bi h0
      rwa [show z - 1+1 = z by omega,c0] at this
    have hK:=AY p (show z <= n by omega)
    unfold snN Ba
    rw [if_neg (by omega)]
    rcases Nat.lt_or_ge i z with hc | hc
    · have e1:posN n z i = n - z+i:=by unfold posN; rw [Nat.mod_eq_of_lt (by omega)]; omega
      have e2:=P3 (p:=p) (n:=n) (z:=z) (by omega) (i:=i) (by omega)
      have e3:Aj p i = 0:=GQ fun k hk=>h1 k (by omega)
      have e4:(if Aj p i = Aj p n then 0 else Aj p i) = 0:=by split <;> omega
      rw [e1,if_pos e4]
      omega
    · have e1:posN n z i = i - z:=by unfold posN; rw [show i+(n - z) = i - z+n by omega,Nat.add_mod_right,Nat.mod_eq_of_lt (by omega)]
      have e2:=GO (p:=p) (n:=n) (z:=z) (t:=i - z) (by omega)
      rw [show z+(i - z) = i by omega] at e2
      have e3:=AY p hc
      rw [e1]
      by_cases he:Aj p i = Aj p n
      · rw [if_pos he,if_pos rfl]; omega
      · rw [if_neg he,if_neg (by omega:¬ Aj p i = 0)]; omega
theorem XF {p:Nat->Bool} {n z u v:Nat} (hu:u <= v) (hv:v = 0 ∨ v < Aj p n) (h:snN p n z u = snN p n z v):u = v:=by
  unfold snN at h
  split at h
  · exact h
  · split at h <;> split at h <;> omega
def rN (p:Nat->Bool) (n:Nat):Nat->Nat
  | 0=>0
  | b+1=>if Ba p n b < rN p n b then rN p n b else rN p n b+1
theorem Nd {p:Nat->Bool} {n k:Nat} (h:k <= n):Ba p n k = 0 ∨ Ba p n k < Aj p n:=by
  have:=AY p h
  unfold Ba
  split
  · exact .inl rfl
  · exact .inr (by omega)
theorem Yt (p:Nat->Bool) (n:Nat):Ba p n 0 = 0:=by
  have h:Aj p 0 = 0:=rfl
  unfold Ba
  split
  · rfl
  · exact h
theorem Yr (p:Nat->Bool) (n:Nat):∀ b,b < n->rN p n (b+1) = if Aj p b = Aj p n then max (Aj p n) 1 else Aj p b+1
  | 0,h=>by
    have h1:rN p n (0+1) = 1:=by
      rw [rN,Yt]
      simp [rN]
    have h2:Aj p 0 = 0:=rfl
    rw [h1,h2]
    split <;> omega
  | b+1,h=>by
    have ih:=Yr p n b (by omega)
    have h1:=AY p (show b+1 <= n by omega)
    have h2:=AY p (show b <= n by omega)
    have h3:=AY p (show b <= b+1 by omega)
    have h4:=Ly p b
    rw [rN,ih]
    unfold Ba
    by_cases e1:Aj p (b+1) = Aj p n
    · rw [if_pos e1,if_pos e1]
      by_cases e2:Aj p b = Aj p n
      · rw [if_pos e2,if_pos (by omega)]
      · rw [if_neg e2,if_pos (by omega)]; omega
    · rw [if_neg e1,if_neg e1]
      have e2:¬ Aj p b = Aj p n:=by omega
      rw [if_neg e2]
      split <;> omega
theorem Ka (p:Nat->Bool) (n:Nat):∀ b,b < n->Ba p n b <= rN p n b
  | 0,h=>by
    rw [Yt]
    exact Nat.zero_le _
  | b+1,h=>by
    rw [Yr p n b (by omega)]
    have h1:=AY p (show b+1 <= n by omega)
    have h4:=Ly p b
    have h3:=AY p (show b <= b+1 by omega)
    unfold Ba
    split
    · omega
    · split <;> omega
theorem R0 (p:Nat->Bool) (n:Nat):∀ b,rN p n b <= b
  | 0=>Nat.le_refl _
  | b+1=>by
    have:=R0 p n b
    simp only [rN]
    split <;> omega
theorem Acp (p:Nat->Bool) (n:Nat):∀ b,b <= n->∀ v,v < rN p n b->v = 0 ∨ v < Aj p n
  | 0,_,v,h=>by simp [rN] at h
  | b+1,hb,v,h=>by
    have ih:=Acp p n b (by omega) v
    simp only [rN] at h
    split at h
    · exact ih h
    · rename_i h2
      have h3:=Ka p n b (by omega)
      by_cases hv:v < rN p n b
      · exact ih hv
      · have:v = Ba p n b:=by omega
        rw [this]
        exact Nd (by omega)
end Go.Proofs.Ytjhnfomefcngfaa.Sh
