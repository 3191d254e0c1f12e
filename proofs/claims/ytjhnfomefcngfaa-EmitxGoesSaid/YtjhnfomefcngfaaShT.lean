/-
  Layer 7: whether a shape is one of a cycle: the program's, the document's. No conditions.
-/
import Derived.Test.YtjhnfomefcngfaaShJ
namespace Go.Proofs.Ytjhnfomefcngfaa.Sh
open Go.Sy Ed
open Int (ofNat)
set_option maxHeartbeats 1000000
set_option maxRecDepth 4000
def ofS (a:Int) (n:Nat) (f:Nat->E6):Sh7:=⟨a,n,shG n f,n,evF n (shG n f) (λ_=>true),ofNat (ttN n (shG n f)),ofNat (kkN n (shG n f)),n,rfF n (shG n f) (λ_=>true),kkN n (shG n f),
 λk=>(lnN (mbF (shG n f)) (wrF (shG n f)) n k,λi=>ofNat (coN (mbF (shG n f)) (wrF (shG n f)) n k i))⟩
def GE (s:Sh7):Bool:=Af (ieq (BS s.arch s.ne s.E) 0) (Nt s (ofS s.arch s.ne s.E))
def Aaa:List V->T (V × List Blk)
 | [v]=>apS v λs=>.br (AN s.ne) (.br (Hw s) (.leaf (iV (sel (GE s) 0 70),[])) .fail) .fail
 | _=>.fail
noncomputable def XS:List (Nat × (List V->T (V × List Blk))):=[(14,ofT),(72,TS)]
theorem AaM:AC Try.prog Gl XS:=.cons p14 <| .cons p72 .nil
section
variable (L:LT) (a:Int) (n:Nat) (g:Nat->E6) (m:Nat) (x:Nat->Ev5) (t k:Int) (p:Nat) (r:Nat->Int) (q:Nat) (ln:Nat->Nat) (co:Nat->Nat->Int)
include L a n g m x t k p r q ln co
theorem AjQ (h16:AN n = true) (h0:ieq (BS a n g) 0 = false):(A2 (An tab ⟨Aq XS,L,Gl⟩ Try.f25 [.agg (shL a n g m x t k p r q ln co)] [])).sem = some ((iV 70),[]):=Aa (bbK 9 507) ((λc0=>[Ay n (λ_=>true),AN n,ieq (BS a n g) 0,c0,c0,c0,c0,c0,true]) (Ah (ieq (BS a n g) 0))) (by kernel_rfl) (by simp only [h16,h0,Ax] <;> rfl)
theorem AjP (h17:AN n = true) (h0:ieq (BS a n g) 0 = true) (h19:Ay q (λi=>Ay (ln i) (λ_=>true)) = true) (h20:Ay (kkN n (shG n g)) (λi=>Ay (lnN (mbF (shG n g)) (wrF (shG n g)) n i) (λ_=>true)) = true) (h21:Ai n = true) (h22:Ai m = true) (h23:Ai p = true) (h24:Ai q = true) (h25:Ay q (λi=>Ai (ln i)) = true) (h1:Af (ieq a a) (Af (ieq t (ofNat (ttN n (shG n g)))) (Af (ieq k (ofNat (kkN n (shG n g)))) (Af (Dd n g n (λi=>shG n g i)) (Af (ieq (ofNat m) (ofNat n)) (Af (CI p r n (rfF n (shG n g) (λ_=>true))) (Af (Gh q ln (λi i_1=>co i i_1) (kkN n (shG n g)) (lnN (mbF (shG n g)) (wrF (shG n g)) n) (λi i_1=>ofNat (coN (mbF (shG n g)) (wrF (shG n g)) n i i_1))) (Ay m (λk=>FH (x k) (evF n (shG n g) (λ_=>true) k))))))))) = false):(A2 (An tab ⟨Aq XS,L,Gl⟩ Try.f25 [.agg (shL a n g m x t k p r q ln co)] [])).sem = some ((iV 70),[]):=Aa (bbK 19 327623) ((λc0 c1=>[c0,AN n,ieq (BS a n g) 0,c1,c1,c1,Be [.cells (shL a n g m x t k p r q ln co),.row 44 6 n (λi=>eV (shG n g i)),.row 40 5 n (λi=>evV (evF n (shG n g) (λ_=>true) i)),.row 3 1 n (λi=>iV (rfF n (shG n g) (λ_=>true) i)),.jag (Jag.mk 25 1 (kkN n (shG n g)) (λ_=>.und) 0 3 1 (λ_=>true) (lnN (mbF (shG n g)) (wrF (shG n g)) n) (λk i=>iV (ofNat (coN (mbF (shG n g)) (wrF (shG n g)) n k i)))),.cells [iV a,.ref 1,.ref 2,iV (ofNat (ttN n (shG n g))),iV (ofNat (kkN n (shG n g))),.ref 3,.jref 4]],c0,Ay m (λ_=>true),Ay p (λ_=>true),Ay q (λi=>Ay (ln i) (λ_=>true)),c0,c0,c0,Ay (kkN n (shG n g)) (λi=>Ay (lnN (mbF (shG n g)) (wrF (shG n g)) n i) (λ_=>true)),Af (Ai n) (Af (Ai m) (Af (Ai p) (Af (Ai q) (Ay q (λi=>Ai (ln i)))))),c1,c1,Ah (Af (ieq a a) (Af (ieq t (ofNat (ttN n (shG n g)))) (Af (ieq k (ofNat (kkN n (shG n g)))) (Af (Dd n g n (λi=>shG n g i)) (Af (ieq (ofNat m) (ofNat n)) (Af (CI p r n (rfF n (shG n g) (λ_=>true))) (Af (Gh q ln (λi i_1=>co i i_1) (kkN n (shG n g)) (lnN (mbF (shG n g)) (wrF (shG n g)) n) (λi i_1=>ofNat (coN (mbF (shG n g)) (wrF (shG n g)) n i i_1))) (Ay m (λk=>FH (x k) (evF n (shG n g) (λ_=>true) k))))))))))]) (Ay n (λ_=>true)) (Ah (ieq 0 0))) (by kernel_rfl) (by simp only [h1] <;> simp only [*,Ax,jlC,jlR,jlJ,jlN] <;> rfl)
theorem AjO (h17:AN n = true) (h0:ieq (BS a n g) 0 = true) (h19:Ay q (λi=>Ay (ln i) (λ_=>true)) = true) (h20:Ay (kkN n (shG n g)) (λi=>Ay (lnN (mbF (shG n g)) (wrF (shG n g)) n i) (λ_=>true)) = true) (h21:Ai n = true) (h22:Ai m = true) (h23:Ai p = true) (h24:Ai q = true) (h25:Ay q (λi=>Ai (ln i)) = true) (h1:Af (ieq a a) (Af (ieq t (ofNat (ttN n (shG n g)))) (Af (ieq k (ofNat (kkN n (shG n g)))) (Af (Dd n g n (λi=>shG n g i)) (Af (ieq (ofNat m) (ofNat n)) (Af (CI p r n (rfF n (shG n g) (λ_=>true))) (Af (Gh q ln (λi i_1=>co i i_1) (kkN n (shG n g)) (lnN (mbF (shG n g)) (wrF (shG n g)) n) (λi i_1=>ofNat (coN (mbF (shG n g)) (wrF (shG n g)) n i i_1))) (Ay m (λk=>FH (x k) (evF n (shG n g) (λ_=>true) k))))))))) = true):(A2 (An tab ⟨Aq XS,L,Gl⟩ Try.f25 [.agg (shL a n g m x t k p r q ln co)] [])).sem = some ((iV 0),[]):=Aa (bbK 19 65479) ((λc0 c1=>[c0,AN n,ieq (BS a n g) 0,c1,c1,c1,Be [.cells (shL a n g m x t k p r q ln co),.row 44 6 n (λi=>eV (shG n g i)),.row 40 5 n (λi=>evV (evF n (shG n g) (λ_=>true) i)),.row 3 1 n (λi=>iV (rfF n (shG n g) (λ_=>true) i)),.jag (Jag.mk 25 1 (kkN n (shG n g)) (λ_=>.und) 0 3 1 (λ_=>true) (lnN (mbF (shG n g)) (wrF (shG n g)) n) (λk i=>iV (ofNat (coN (mbF (shG n g)) (wrF (shG n g)) n k i)))),.cells [iV a,.ref 1,.ref 2,iV (ofNat (ttN n (shG n g))),iV (ofNat (kkN n (shG n g))),.ref 3,.jref 4]],c0,Ay m (λ_=>true),Ay p (λ_=>true),Ay q (λi=>Ay (ln i) (λ_=>true)),c0,c0,c0,Ay (kkN n (shG n g)) (λi=>Ay (lnN (mbF (shG n g)) (wrF (shG n g)) n i) (λ_=>true)),Af (Ai n) (Af (Ai m) (Af (Ai p) (Af (Ai q) (Ay q (λi=>Ai (ln i)))))),c1,c1,Ah (Af (ieq a a) (Af (ieq t (ofNat (ttN n (shG n g)))) (Af (ieq k (ofNat (kkN n (shG n g)))) (Af (Dd n g n (λi=>shG n g i)) (Af (ieq (ofNat m) (ofNat n)) (Af (CI p r n (rfF n (shG n g) (λ_=>true))) (Af (Gh q ln (λi i_1=>co i i_1) (kkN n (shG n g)) (lnN (mbF (shG n g)) (wrF (shG n g)) n) (λi i_1=>ofNat (coN (mbF (shG n g)) (wrF (shG n g)) n i i_1))) (Ay m (λk=>FH (x k) (evF n (shG n g) (λ_=>true) k))))))))))]) (Ay n (λ_=>true)) (Ah (ieq 0 0))) (by kernel_rfl) (by simp only [h1] <;> simp only [*,Ax,jlC,jlR,jlJ,jlN] <;> rfl)
end
theorem p25:AA Try.prog Gl 25 Aaa:=by
 refine A5 AQ AR Try.func25 (by kernel_rfl) (by kernel_rfl) λvs v h' h=>?_
 unfold Aaa at h
 split at h
 ·rename_i v1
  obtain ⟨s,a1,h⟩:=FX h
  obtain ⟨hf,h⟩:=Ag h
  obtain ⟨hn,h⟩:=Ag h
  have:=Ac h
  simp only [Prod.mk.injEq] at this
  obtain ⟨rfl,rfl⟩:=this
  obtain ⟨a,n,g,m,x,t,k,p,r,q,C⟩:=s
  have hA:BL [v1] [.agg [iV a,.sl 6 n (λi=>eV (g i)),.sl 5 m (λi=>evV (x i)),iV t,iV k,.sl 1 p (λi=>iV (r i)),.sl 1 q (λu=>.sl 1 (C u).1 (λi=>iV ((C u).2 i)))]]:=λS w cs hv=>by
   obtain ⟨c,l,rfl,q1,q2⟩:=hv
   exact ⟨c,_,rfl,a1 S w c q1,q2⟩
  have hn:Ai n = true ∧ Ai m = true ∧ Ai p = true ∧ Ai q = true ∧ (Ay q λi=>Ai (C i).1) = true:=by simpa [Hw,Af] using hn
  obtain ⟨n1,n2,n3,n4,n5⟩:=hn
  have hx:=AS AaM [] (G:=Gl)
  refine ⟨_,AT Gl XS [],_,hA,rfl,hx.1,hx.2,?_,AE.refl _⟩
  have KU:∀ (q:Nat) (ln:Nat->Nat),(Ay q λi=>Ay (ln i) λ_=>true) = true:=λ_ _=>AJ.2 λ_ _=>AJ.2 λ_ _=>rfl
  show _ = some (iV (sel (GE ⟨a,n,g,m,x,t,k,p,r,q,C⟩) 0 70),_)
  revert n5
  generalize hln:(λi=>(C i).1) = ln
  generalize hco:(λi=>(C i).2) = co
  have e1:∀ u,(C u).1 = ln u:=λu=>by rw [<- hln]
  have e2:∀ u,(C u).2 = co u:=λu=>by rw [<- hco]
  have hC:C = λu=>(ln u,co u):=by
   funext u
   rw [<- e1,<- e2]
  intro n5
  simp only [e1,e2] at n5 ⊢
  subst hC
  cases hc:ieq (BS a n g) 0 with
  | false =>
   rw [show GE _ = false from GG hc]
   exact AjQ _ a n g m x t k p r q ln co hf hc
  | true =>
   rw [show GE _ = _ from B6 hc]
   cases hs:Nt ⟨a,n,g,m,x,t,k,p,r,q,λu=>(ln u,co u)⟩ (ofS a n g) with
   | false=>exact AjP _ a n g m x t k p r q ln co hf hc (KU _ _) (KU _ _) n1 n2 n3 n4 n5 hs
   | true=>exact AjO _ a n g m x t k p r q ln co hf hc (KU _ _) (KU _ _) n1 n2 n3 n4 n5 hs
 ·cases h
end Go.Proofs.Ytjhnfomefcngfaa.Sh
namespace Go.Proofs.Ytjhnfomefcngfaa.Sh
open Go.Sy Ed
set_option maxHeartbeats 1000000
set_option maxRecDepth 4000
def RS (P:Nat->Bool) (n m:Nat):Nat:=E4 (λi=>P i && decide (Ak P i = m)) n
theorem Vf {P:Nat->Bool} {n i:Nat} (hi:i < n) (h:P i = true):RS P n (Ak P i) = i:=Ky hi (by simp [h]) λk hk=>by
 cases hp:P k with
 | false=>rfl
 | true =>
  have h1:=Bk hp
  have h2:=AX P (show k+1 <= i by omega)
  simp
  omega
theorem Ll {P:Nat->Bool}:∀ {n m:Nat},m < Ak P n->RS P n m < n ∧ P (RS P n m) = true ∧ Ak P (RS P n m) = m
 | 0,m,h=>by simp [Ak] at h
 | n+1,m,h=>by
  have:∃ i,i < n+1 ∧ P i = true ∧ Ak P i = m:=by
   cases hp:P n with
   | true =>
    rw [Bk hp] at h
    by_cases hm:m = Ak P n
    ·exact ⟨n,by omega,hp,hm.symm⟩
    ·obtain ⟨a,b,c⟩:=Ll (P:=P) (n:=n) (m:=m) (by omega)
     exact ⟨_,by omega,b,c⟩
   | false =>
    rw [B0 hp] at h
    obtain ⟨a,b,c⟩:=Ll (n:=n) (m:=m) h
    exact ⟨_,by omega,b,c⟩
  obtain ⟨i,h1,h2,h3⟩:=this
  rw [<- h3,Vf h1 h2]
  exact ⟨h1,h2,rfl⟩
def Fo (a:Int) (n:Nat) (g:Nat->E6) (m:Nat) (x:Nat->Ev5) (t k:Int) (p:Nat) (r:Nat->Int) (q:Nat) (ln:Nat->Nat) (co:Nat->Nat->Int):Int:=sel (GE ⟨a,n,g,m,x,t,k,p,r,q,λu=>(ln u,co u)⟩) 0 70
def Rv:List V->T (V × List Blk)
 | [v]=>apS v λs=>.br (AN s.ne) (.br (Hw s) (.leaf (iV (Fo s.arch s.ne s.E s.nx s.X s.tt s.kk s.nr s.R s.nc (λi=>(s.C i).1) (λi=>(s.C i).2)),[])) .fail) .fail
 | _=>.fail
theorem AiN:AA Try.prog Gl 25 Rv:=p25
end Go.Proofs.Ytjhnfomefcngfaa.Sh
namespace Go.Proofs.Ytjhnfomefcngfaa.Sh
open Go.Sy Ed
open Int (ofNat)
set_option maxHeartbeats 1000000
set_option maxRecDepth 4000
theorem AaS {a:Int} {n:Nat} {f:Nat->E6} (h:IsCycle a n f):shG n (shG n f) = shG n f:=by
 have hlo:=h.lo
 have hl:=Jp n (λi=>Bx (f i))
 have key:∀ i,i < n->Bl n (shG n f) i = Bl n f i:=λi hi=>by
  have h1:=LJ h
  rw [UI (f:=λi=>Bl n f ((shQ n f+i) % n)) (h1.turned (Li h).2.2.2).may (λi hi=>IZ hi) hi]
  rw [Mz (f:=λi=>Bl n f i) (by omega) (Li h).2.2.2 h1.may hi]
  exact Aac (by omega) h.may hi
 have hq:shQ n (shG n f) = shQ n f:=by
  unfold shQ
  rw [NI (p:=λi=>As (Bl n (shG n f) i)) (q:=λi=>As (Bl n f i)) λi hi=>by rw [key i hi]]
 funext i
 by_cases hi:i < n
 ·rw [IZ hi,IZ hi,hq]
  exact key _ (Nat.mod_lt _ (by omega))
 ·unfold shG Ag2
  rw [decide_eq_false hi]
  rfl
theorem W9 (s:Sh7):Nt s s = true:=by
 unfold Nt
 rw [B6 (B7 _),B6 (B7 _),B6 (B7 _),B6 (WB _ _),B6 (B7 _),B6 (Pp _ _),B6 (WA _ _ _)]
 exact AJ.2 λ_ _=>W7 _
theorem ZZ {a:Int} {n:Nat} {f:Nat->E6} (h:IsCycle a n f):GE (ofS a n f) = true:=by
 unfold GE
 rw [B6 (show ieq (BS (ofS a n f).arch (ofS a n f).ne (ofS a n f).E) 0 = true from (Ez h).chk.1)]
 show Nt (ofS a n f) (ofS a n (shG n f)) = true
 rw [show ofS a n (shG n f) = ofS a n f by unfold ofS; rw [AaS h]]
 exact W9 _
theorem Su {a b:Nat} (h:a < b):ile (ofNat b) (ofNat a) = false:=by
 cases hc:ile (ofNat b) (ofNat a) with
 | false=>rfl
 | true =>
  have:ofNat b <= ofNat a:=of_decide_eq_true hc
  have:b <= a:=Int.ofNat_le.1 this
  omega
theorem V5 (b:Nat):ilt (ofNat b) 0 = false:=decide_eq_false (by
 have:=Int.natCast_nonneg b
 show ¬ ((b:Int) < 0)
 omega)
theorem Kr {k:Nat} (h:0 < k):ieq (ofNat k) 0 = false:=by
 cases hc:ieq (ofNat k) 0 with
 | false=>rfl
 | true =>
  have:=CZ hc
  have:(k:Int) = 0:=this
  omega
theorem QO {a b:Int} (h:a = b):ieq a b = true:=by rw [h]; exact Gr _
theorem KU {q:Nat} {ln:Nat->Nat}:∀ (_ _:Unit),(Ay q λi=>Ay (ln i) λ_=>true) = true:=λ_ _=>AJ.2 λ_ _=>AJ.2 λ_ _=>rfl
theorem Ru {P:Nat->Bool}:∀ {n:Nat},(∀ i,i < n->P i = true)->Ak P n = n
 | 0,_=>rfl
 | n+1,h=>by rw [Bk (h n (by omega)),Ru λi hi=>h i (by omega)]
theorem Tr {P:Nat->Bool} (hP:∀ i k,i <= k->P k = true->P i = true):∀ {n i:Nat},i < n->(P i = true ↔ i < Ak P n)
 | n+1,i,hi=>by
  cases hp:P n with
  | true =>
   rw [Bk hp,Ru λk hk=>hP k n (by omega) hp]
   exact ⟨λ_=>hi,λ_=>hP i n (by omega) hp⟩
  | false =>
   rw [B0 hp]
   by_cases he:i = n
   ·have:=Bd P n
    rw [he,hp]
    exact ⟨λh=>(by cases h),λh=>by omega⟩
   ·exact Tr hP (by omega)
theorem ZX {P:Nat->Bool} {lo hi n:Nat} (hP:∀ i,i < n->(P i = true ↔ lo <= i ∧ i < hi)) (hl:lo <= hi):∀ {b:Nat},b <= n->Ak P b = min b hi - lo
 | 0,_=>by simp [Ak]
 | b+1,h=>by
  have ih:=ZX hP hl (b:=b) (by omega)
  have hb:=hP b (by omega)
  cases hp:P b with
  | true =>
   have:=hb.1 hp
   rw [Bk hp,ih]
   omega
  | false =>
   have:¬ (lo <= b ∧ b < hi):=λhh=>by rw [hb.2 hh] at hp; cases hp
   rw [B0 hp,ih]
   omega
def sT (o:Nat->Bool) (n k:Nat):Nat:=Ak (λi=>decide (Ak o i < k)) n
theorem Pq {o:Nat->Bool} {n k i:Nat} (hi:i < n):i < sT o n k ↔ Ak o i < k:=by
 have h:=Tr (P:=λi=>decide (Ak o i < k)) (λi j h1 h2=>by
  have h3:Ak o j < k:=of_decide_eq_true h2
  have:=AX o h1
  exact decide_eq_true (by omega)) hi
 exact ⟨λh1=>of_decide_eq_true (h.2 h1),λh1=>h.1 (decide_eq_true h1)⟩
theorem Yj (o:Nat->Bool) (n k:Nat):sT o n k <= n:=Bd _ _
theorem AjZ (o:Nat->Bool) (n:Nat):sT o n 0 = 0:=F8 λ_ _=>by simp
theorem AaX (o:Nat->Bool) (n k:Nat):sT o n k <= sT o n (k+1):=by
 by_cases h:sT o n (k+1) < sT o n k
 ·have h1:=Yj o n k
  have h2:=(Pq (o:=o) (k:=k) (show sT o n (k+1) < n by omega)).1 h
  have h3:=(Pq (o:=o) (k:=k+1) (show sT o n (k+1) < n by omega)).2 (by omega)
  omega
 ·omega
theorem before {o:Nat->Bool} {n i:Nat} (hi:i < n) (h:o (n - 1) = true):Ak o i < Ak o n:=by
 have h1:=Bk h
 have h2:=AX o (show i <= n - 1 by omega)
 rw [show n - 1+1 = n by omega] at h1
 omega
theorem Aen {o:Nat->Bool} {n:Nat} (h:o (n - 1) = true):sT o n (Ak o n) = n:=Ru λ_ hi=>decide_eq_true (before hi h)
theorem Wy {a:Int} {n:Nat} {g:Nat->E6} (h:IsCycle a n g) (hl:obF g (n - 1) = true) {b:Nat} (hb:b < ttN n g) :
  ∃ m,m = Ak (λi=>ieq (evF n g (λ_=>true) i).th (ofNat b)) n ∧ 0 < m ∧ m <= 12 ∧ sT (obF g) n (b+1) = sT (obF g) n b+m ∧ ∀ d,d < m ->
   RS (λi=>ieq (evF n g (λ_=>true) i).th (ofNat b)) n d = sT (obF g) n b+d ∧ (evF n g (λ_=>true) (sT (obF g) n b+d)).th = ofNat b ∧ (evF n g (λ_=>true) (sT (obF g) n b+d)).pl = ofNat d:=by
 have hth:∀ i,i < n->thF n g i = ofNat (Ak (obF g) i):=λi hi=>by
  show Av (obF g) n i = _
  rw [Fz hi]
  unfold Ba
  rw [if_neg (by have:=before hi hl; omega)]
 have hm:=AaX (obF g) n b
 have hle:=Yj (obF g) n (b+1)
 have hP:∀ i,i < n->((ieq (evF n g (λ_=>true) i).th (ofNat b)) = true ↔ sT (obF g) n b <= i ∧ i < sT (obF g) n (b+1)):=λi hi=>by
  have h1:=Pq (o:=obF g) (k:=b) hi
  have h2:=Pq (o:=obF g) (k:=b+1) hi
  rw [BU hi]
  show ieq (thF n g i) (ofNat b) = true ↔ _
  rw [hth i hi]
  have h3:ieq (ofNat (Ak (obF g) i)) (ofNat b) = true ↔ Ak (obF g) i = b:=⟨λhh=>Int.ofNat.inj (CZ hh),λhh=>by rw [hh]; exact Gr _⟩
  rw [h3]
  omega
 have hc:=fun {k:Nat} (hk:k <= n)=>ZX (P:=λi=>ieq (evF n g (λ_=>true) i).th (ofNat b)) hP hm hk
 obtain ⟨h1,h2,h3⟩:=Ll (P:=obF g) (n:=n) (m:=b) hb
 have hat:=(hP _ h1).1 (by rw [BU h1]; show ieq (thF n g _) _ = true; rw [hth _ h1,h3]; exact Gr _)
 have hn:=hc (Nat.le_refl n)
 rw [Nat.min_eq_right hle] at hn
 refine ⟨_,rfl,by rw [hn]; omega,?_,by rw [hn]; omega,λd hd=>?_⟩
 ·have h4:=h.crowd _ h1
  unfold AH at h4
  rw [B6 rfl] at h4
  have h5:¬ ((12:Int) < ofNat (Ak (Cq (Av (λk=>As (g k)) n) (λ_=>true) (Av (λk=>As (g k)) n (RS (obF g) n b))) n)):=of_decide_eq_false h4
  have h6:Ak (Cq (Av (λk=>As (g k)) n) (λ_=>true) (Av (λk=>As (g k)) n (RS (obF g) n b))) n = Ak (λi=>ieq (evF n g (λ_=>true) i).th (ofNat b)) n:=EB λi hi=>by
   unfold Cq
   rw [show Av (λk=>As (g k)) n (RS (obF g) n b) = ofNat b from (hth _ h1).trans (by rw [h3]),BU hi]
   show Af (ieq (thF n g i) _) true = ieq (thF n g i) _
   cases ieq (thF n g i) (ofNat b) <;> rfl
  rw [h6] at h5
  have h5:¬ ((12:Int) < (Ak (λi=>ieq (evF n g (λ_=>true) i).th (ofNat b)) n:Int)):=h5
  omega
 ·rw [hn] at hd
  have hi:sT (obF g) n b+d < n:=by omega
  have hp:=(hP _ hi).2 (by omega)
  have hd':=hc (Nat.le_of_lt hi)
  rw [Nat.min_eq_left (by omega),Nat.add_sub_cancel_left] at hd'
  have hs:=Vf (P:=λi=>ieq (evF n g (λ_=>true) i).th (ofNat b)) hi hp
  rw [hd'] at hs
  refine ⟨hs,CZ hp,?_⟩
  rw [BU hi]
  show ofNat (plF n g _) = _
  rw [show plF n g (sT (obF g) n b+d) = d from ?_]
  refine Eq.trans (EB λi hi'=>?_) hd'
  have:=CZ hp
  rw [BU hi] at this
  have this:thF n g (sT (obF g) n b+d) = ofNat b:=this
  rw [this,BU (show i < n by omega)]
  exact SN _ _
end Go.Proofs.Ytjhnfomefcngfaa.Sh
namespace Go.Proofs.Ytjhnfomefcngfaa.Sh
open Go.Sy Ed
open Int (ofNat)
set_option maxHeartbeats 1000000
set_option maxRecDepth 4000
theorem Vy {k:Nat} (hk:k < 4611686018427387904):wr .i64 (Au (ofNat (k+1)) 1) = ofNat k:=by
 have h:=Ao (i:=k) (n:=k+1) (by omega) (by omega)
 have e:Au (ofNat (k+1)) 1 = ofNat k:=by
  show (ofNat (k+1):Int) - 1 = ofNat k
  have:(ofNat (k+1):Int) = (k:Int)+1:=rfl
  rw [this]
  show (k:Int)+1 - 1 = (k:Int)
  omega
 rw [e]
 by_cases h0:k = 0
 ·subst h0
  rfl
 ·have h:=Ao (i:=k - 1) (n:=k) (by omega) (by omega)
  have e2:Ae (ofNat (k - 1)) 1 = ofNat k:=by
   show (ofNat (k - 1):Int)+1 = ofNat k
   have:((k - 1:Nat):Int)+1 = (k:Int):=by omega
   exact this
  rw [e2,show k - 1+1 = k by omega] at h
  exact h
theorem Wx {y:Int} (h:ile 0 y = true):y = ofNat (toN y):=by
 have h:0 <= y:=of_decide_eq_true h
 show y = ((y.toNat:Nat):Int)
 omega
end Go.Proofs.Ytjhnfomefcngfaa.Sh
namespace Go.Proofs.Ytjhnfomefcngfaa.Sh
open Go.Sy Ed
set_option maxHeartbeats 1000000
set_option maxRecDepth 4000
end Go.Proofs.Ytjhnfomefcngfaa.Sh
namespace Go.Proofs.Ytjhnfomefcngfaa.Sh
open Go.Sy Ed
set_option maxHeartbeats 1000000
set_option maxRecDepth 4000
theorem ZS {e:E6} (h1:ieq e.kind 1 = false) (h2:ieq e.kind 2 = false) (h3:ieq e.kind 3 = false):Bw e = false:=by
 have h1:¬ e.kind = 1:=by simpa [ieq] using h1
 have h2:¬ e.kind = 2:=by simpa [ieq] using h2
 have h3:¬ e.kind = 3:=by simpa [ieq] using h3
 unfold Bw
 cases ha:ile 1 e.kind with
 | false=>rfl
 | true =>
  have ha:1 <= e.kind:=of_decide_eq_true ha
  rw [B6 rfl]
  exact decide_eq_false (by omega)
theorem Abz {e:E6} (h:Bw e = false):As e = false:=by
 unfold As
 rw [h]
 rfl
end Go.Proofs.Ytjhnfomefcngfaa.Sh
