/-
  Layer 7: whether a shape is one of a cycle: the program's, the document's. No conditions.
-/
import Derived.Test.YtjhnfomefcngfaaShJ
namespace Go.Proofs.Ytjhnfomefcngfaa.Sh
open Go.Sy Ed
open Int (ofNat)
set_option maxHeartbeats 1000000
set_option maxRecDepth 4000
def ofS (a:Int) (n:Nat) (f:Nat->E6):Sh7:=⟨a,n,shG n f,n,evF n (shG n f) (λ_=>true),ofNat (ttN n (shG n f)),ofNat (kkN n (shG n f)),n,rfF n (shG n f) (λ_=>true),kkN n (shG n f),
 λk=>(lnN (mbF (shG n f)) (wrF (shG n f)) n k,λi=>ofNat (coN (mbF (shG n f)) (wrF (shG n f)) n k i))⟩
def GE (s:Sh7):Bool:=Af (ieq (BR s.arch s.ne s.E) 0) (Nu s (ofS s.arch s.ne s.E))
def Aaf:List V->T (V × List Blk)
 | [v]=>apS v λs=>.br (AN s.ne) (.br (FJ s) (.leaf (iV (sel (GE s) 0 70),[])) .fail) .fail
 | _=>.fail
noncomputable def XZ:List (Nat × (List V->T (V × List Blk))):=[(14,ofT),(72,TX)]
theorem AaR:AB Try.prog Gl XZ:=.cons p14 <| .cons p72 .nil
section
variable (L:LT) (a:Int) (n:Nat) (g:Nat->E6) (m:Nat) (x:Nat->Ev5) (t k:Int) (p:Nat) (r:Nat->Int) (q:Nat) (ln:Nat->Nat) (co:Nat->Nat->Int)
include L a n g m x t k p r q ln co
theorem Akq (h16:AN n = true) (h0:ieq (BR a n g) 0 = false):(Az (Ak tab ⟨Ap XZ,L,Gl⟩ Try.f25 [.agg (shL a n g m x t k p r q ln co)] [])).sem = some ((iV 70),[]):=Aa (bbK 9 507) ((λc0=>[Au n (λ_=>true),AN n,ieq (BR a n g) 0,c0,c0,c0,c0,c0,true]) (An (ieq (BR a n g) 0))) (by kernel_rfl) (by simp only [h16,h0,Aw] <;> rfl)
theorem Akp (h17:AN n = true) (h0:ieq (BR a n g) 0 = true) (h19:Au q (λi=>Au (ln i) (λ_=>true)) = true) (h20:Au (kkN n (shG n g)) (λi=>Au (lnN (mbF (shG n g)) (wrF (shG n g)) n i) (λ_=>true)) = true) (h21:Ah n = true) (h22:Ah m = true) (h23:Ah p = true) (h24:Ah q = true) (h25:Au q (λi=>Ah (ln i)) = true) (h1:Af (ieq a a) (Af (ieq t (ofNat (ttN n (shG n g)))) (Af (ieq k (ofNat (kkN n (shG n g)))) (Af (CY n g n (λi=>shG n g i)) (Af (ieq (ofNat m) (ofNat n)) (Af (CF p r n (rfF n (shG n g) (λ_=>true))) (Af (Gj q ln (λi i_1=>co i i_1) (kkN n (shG n g)) (lnN (mbF (shG n g)) (wrF (shG n g)) n) (λi i_1=>ofNat (coN (mbF (shG n g)) (wrF (shG n g)) n i i_1))) (Au m (λk=>FK (x k) (evF n (shG n g) (λ_=>true) k))))))))) = false):(Az (Ak tab ⟨Ap XZ,L,Gl⟩ Try.f25 [.agg (shL a n g m x t k p r q ln co)] [])).sem = some ((iV 70),[]):=Aa (bbK 19 327623) ((λc0 c1=>[c0,AN n,ieq (BR a n g) 0,c1,c1,c1,AT [.cells (shL a n g m x t k p r q ln co),.row 44 6 n (λi=>eV (shG n g i)),.row 40 5 n (λi=>evV (evF n (shG n g) (λ_=>true) i)),.row 3 1 n (λi=>iV (rfF n (shG n g) (λ_=>true) i)),.jag (Jag.mk 25 1 (kkN n (shG n g)) (λ_=>.und) 0 3 1 (λ_=>true) (lnN (mbF (shG n g)) (wrF (shG n g)) n) (λk i=>iV (ofNat (coN (mbF (shG n g)) (wrF (shG n g)) n k i)))),.cells [iV a,.ref 1,.ref 2,iV (ofNat (ttN n (shG n g))),iV (ofNat (kkN n (shG n g))),.ref 3,.jref 4]],c0,Au m (λ_=>true),Au p (λ_=>true),Au q (λi=>Au (ln i) (λ_=>true)),c0,c0,c0,Au (kkN n (shG n g)) (λi=>Au (lnN (mbF (shG n g)) (wrF (shG n g)) n i) (λ_=>true)),Af (Ah n) (Af (Ah m) (Af (Ah p) (Af (Ah q) (Au q (λi=>Ah (ln i)))))),c1,c1,An (Af (ieq a a) (Af (ieq t (ofNat (ttN n (shG n g)))) (Af (ieq k (ofNat (kkN n (shG n g)))) (Af (CY n g n (λi=>shG n g i)) (Af (ieq (ofNat m) (ofNat n)) (Af (CF p r n (rfF n (shG n g) (λ_=>true))) (Af (Gj q ln (λi i_1=>co i i_1) (kkN n (shG n g)) (lnN (mbF (shG n g)) (wrF (shG n g)) n) (λi i_1=>ofNat (coN (mbF (shG n g)) (wrF (shG n g)) n i i_1))) (Au m (λk=>FK (x k) (evF n (shG n g) (λ_=>true) k))))))))))]) (Au n (λ_=>true)) (An (ieq 0 0))) (by kernel_rfl) (by simp only [h1] <;> simp only [*,Aw,jlC,jlR,jlJ,jlN] <;> rfl)
theorem Ako (h17:AN n = true) (h0:ieq (BR a n g) 0 = true) (h19:Au q (λi=>Au (ln i) (λ_=>true)) = true) (h20:Au (kkN n (shG n g)) (λi=>Au (lnN (mbF (shG n g)) (wrF (shG n g)) n i) (λ_=>true)) = true) (h21:Ah n = true) (h22:Ah m = true) (h23:Ah p = true) (h24:Ah q = true) (h25:Au q (λi=>Ah (ln i)) = true) (h1:Af (ieq a a) (Af (ieq t (ofNat (ttN n (shG n g)))) (Af (ieq k (ofNat (kkN n (shG n g)))) (Af (CY n g n (λi=>shG n g i)) (Af (ieq (ofNat m) (ofNat n)) (Af (CF p r n (rfF n (shG n g) (λ_=>true))) (Af (Gj q ln (λi i_1=>co i i_1) (kkN n (shG n g)) (lnN (mbF (shG n g)) (wrF (shG n g)) n) (λi i_1=>ofNat (coN (mbF (shG n g)) (wrF (shG n g)) n i i_1))) (Au m (λk=>FK (x k) (evF n (shG n g) (λ_=>true) k))))))))) = true):(Az (Ak tab ⟨Ap XZ,L,Gl⟩ Try.f25 [.agg (shL a n g m x t k p r q ln co)] [])).sem = some ((iV 0),[]):=Aa (bbK 19 65479) ((λc0 c1=>[c0,AN n,ieq (BR a n g) 0,c1,c1,c1,AT [.cells (shL a n g m x t k p r q ln co),.row 44 6 n (λi=>eV (shG n g i)),.row 40 5 n (λi=>evV (evF n (shG n g) (λ_=>true) i)),.row 3 1 n (λi=>iV (rfF n (shG n g) (λ_=>true) i)),.jag (Jag.mk 25 1 (kkN n (shG n g)) (λ_=>.und) 0 3 1 (λ_=>true) (lnN (mbF (shG n g)) (wrF (shG n g)) n) (λk i=>iV (ofNat (coN (mbF (shG n g)) (wrF (shG n g)) n k i)))),.cells [iV a,.ref 1,.ref 2,iV (ofNat (ttN n (shG n g))),iV (ofNat (kkN n (shG n g))),.ref 3,.jref 4]],c0,Au m (λ_=>true),Au p (λ_=>true),Au q (λi=>Au (ln i) (λ_=>true)),c0,c0,c0,Au (kkN n (shG n g)) (λi=>Au (lnN (mbF (shG n g)) (wrF (shG n g)) n i) (λ_=>true)),Af (Ah n) (Af (Ah m) (Af (Ah p) (Af (Ah q) (Au q (λi=>Ah (ln i)))))),c1,c1,An (Af (ieq a a) (Af (ieq t (ofNat (ttN n (shG n g)))) (Af (ieq k (ofNat (kkN n (shG n g)))) (Af (CY n g n (λi=>shG n g i)) (Af (ieq (ofNat m) (ofNat n)) (Af (CF p r n (rfF n (shG n g) (λ_=>true))) (Af (Gj q ln (λi i_1=>co i i_1) (kkN n (shG n g)) (lnN (mbF (shG n g)) (wrF (shG n g)) n) (λi i_1=>ofNat (coN (mbF (shG n g)) (wrF (shG n g)) n i i_1))) (Au m (λk=>FK (x k) (evF n (shG n g) (λ_=>true) k))))))))))]) (Au n (λ_=>true)) (An (ieq 0 0))) (by kernel_rfl) (by simp only [h1] <;> simp only [*,Aw,jlC,jlR,jlJ,jlN] <;> rfl)
end
theorem p25:A6 Try.prog Gl 25 Aaf:=by
 refine A5 AO AP Try.func25 (by kernel_rfl) (by kernel_rfl) λvs v h' h=>?_
 unfold Aaf at h
 split at h
 ·rename_i v1
  obtain ⟨s,a1,h⟩:=EX h
  obtain ⟨hf,h⟩:=Ag h
  obtain ⟨hn,h⟩:=Ag h
  have:=Ac h
  simp only [Prod.mk.injEq] at this
  obtain ⟨rfl,rfl⟩:=this
  obtain ⟨a,n,g,m,x,t,k,p,r,q,C⟩:=s
  have hA:BJ [v1] [.agg [iV a,.sl 6 n (λi=>eV (g i)),.sl 5 m (λi=>evV (x i)),iV t,iV k,.sl 1 p (λi=>iV (r i)),.sl 1 q (λu=>.sl 1 (C u).1 (λi=>iV ((C u).2 i)))]]:=λS w cs hv=>by
   obtain ⟨c,l,rfl,q1,q2⟩:=hv
   exact ⟨c,_,rfl,a1 S w c q1,q2⟩
  have hn:Ah n = true ∧ Ah m = true ∧ Ah p = true ∧ Ah q = true ∧ (Au q λi=>Ah (C i).1) = true:=by simpa [FJ,Af] using hn
  obtain ⟨n1,n2,n3,n4,n5⟩:=hn
  have hx:=AQ AaR [] (G:=Gl)
  refine ⟨_,AS Gl XZ [],_,hA,rfl,hx.1,hx.2,?_,AC.refl _⟩
  have J8:∀ (q:Nat) (ln:Nat->Nat),(Au q λi=>Au (ln i) λ_=>true) = true:=λ_ _=>AJ.2 λ_ _=>AJ.2 λ_ _=>rfl
  show _ = some (iV (sel (GE ⟨a,n,g,m,x,t,k,p,r,q,C⟩) 0 70),_)
  revert n5
  generalize hln:(λi=>(C i).1) = ln
  generalize hco:(λi=>(C i).2) = co
  have e1:∀ u,(C u).1 = ln u:=λu=>by rw [<- hln]
  have e2:∀ u,(C u).2 = co u:=λu=>by rw [<- hco]
  have hC:C = λu=>(ln u,co u):=by
   funext u
   rw [<- e1,<- e2]
  intro n5
  simp only [e1,e2] at n5 ⊢
  subst hC
  cases hc:ieq (BR a n g) 0 with
  | false =>
   rw [show GE _ = false from GG hc]
   exact Akq _ a n g m x t k p r q ln co hf hc
  | true =>
   rw [show GE _ = _ from B5 hc]
   cases hs:Nu ⟨a,n,g,m,x,t,k,p,r,q,λu=>(ln u,co u)⟩ (ofS a n g) with
   | false=>exact Akp _ a n g m x t k p r q ln co hf hc (J8 _ _) (J8 _ _) n1 n2 n3 n4 n5 hs
   | true=>exact Ako _ a n g m x t k p r q ln co hf hc (J8 _ _) (J8 _ _) n1 n2 n3 n4 n5 hs
 ·cases h
end Go.Proofs.Ytjhnfomefcngfaa.Sh
namespace Go.Proofs.Ytjhnfomefcngfaa.Sh
open Go.Sy Ed
set_option maxHeartbeats 1000000
set_option maxRecDepth 4000
def RV (P:Nat->Bool) (n m:Nat):Nat:=E2 (λi=>P i && decide (Aj P i = m)) n
theorem Vo {P:Nat->Bool} {n i:Nat} (hi:i < n) (h:P i = true):RV P n (Aj P i) = i:=Kx hi (by simp [h]) λk hk=>by
 cases hp:P k with
 | false=>rfl
 | true =>
  have h1:=Bi hp
  have h2:=AZ P (show k+1 <= i by omega)
  simp
  omega
theorem Li {P:Nat->Bool}:∀ {n m:Nat},m < Aj P n->RV P n m < n ∧ P (RV P n m) = true ∧ Aj P (RV P n m) = m
 | 0,m,h=>by simp [Aj] at h
 | n+1,m,h=>by
  have:∃ i,i < n+1 ∧ P i = true ∧ Aj P i = m:=by
   cases hp:P n with
   | true =>
    rw [Bi hp] at h
    by_cases hm:m = Aj P n
    ·exact ⟨n,by omega,hp,hm.symm⟩
    ·obtain ⟨a,b,c⟩:=Li (P:=P) (n:=n) (m:=m) (by omega)
     exact ⟨_,by omega,b,c⟩
   | false =>
    rw [Br hp] at h
    obtain ⟨a,b,c⟩:=Li (n:=n) (m:=m) h
    exact ⟨_,by omega,b,c⟩
  obtain ⟨i,h1,h2,h3⟩:=this
  rw [<- h3,Vo h1 h2]
  exact ⟨h1,h2,rfl⟩
def Fp (a:Int) (n:Nat) (g:Nat->E6) (m:Nat) (x:Nat->Ev5) (t k:Int) (p:Nat) (r:Nat->Int) (q:Nat) (ln:Nat->Nat) (co:Nat->Nat->Int):Int:=sel (GE ⟨a,n,g,m,x,t,k,p,r,q,λu=>(ln u,co u)⟩) 0 70
def Rz:List V->T (V × List Blk)
 | [v]=>apS v λs=>.br (AN s.ne) (.br (FJ s) (.leaf (iV (Fp s.arch s.ne s.E s.nx s.X s.tt s.kk s.nr s.R s.nc (λi=>(s.C i).1) (λi=>(s.C i).2)),[])) .fail) .fail
 | _=>.fail
theorem Ajf:A6 Try.prog Gl 25 Rz:=p25
end Go.Proofs.Ytjhnfomefcngfaa.Sh
namespace Go.Proofs.Ytjhnfomefcngfaa.Sh
open Go.Sy Ed
open Int (ofNat)
set_option maxHeartbeats 1000000
set_option maxRecDepth 4000
theorem AaX {a:Int} {n:Nat} {f:Nat->E6} (h:IsCycle a n f):shG n (shG n f) = shG n f:=by
 have hlo:=h.lo
 have hl:=Jo n (λi=>Bw (f i))
 have key:∀ i,i < n->Bk n (shG n f) i = Bk n f i:=λi hi=>by
  have h1:=LF h
  rw [UP (f:=λi=>Bk n f ((shQ n f+i) % n)) (h1.turned (Lg h).2.2.2).may (λi hi=>IY hi) hi]
  rw [Mx (f:=λi=>Bk n f i) (by omega) (Lg h).2.2.2 h1.may hi]
  exact Aah (by omega) h.may hi
 have hq:shQ n (shG n f) = shQ n f:=by
  unfold shQ
  rw [NJ (p:=λi=>As (Bk n (shG n f) i)) (q:=λi=>As (Bk n f i)) λi hi=>by rw [key i hi]]
 funext i
 by_cases hi:i < n
 ·rw [IY hi,IY hi,hq]
  exact key _ (Nat.mod_lt _ (by omega))
 ·unfold shG AgH
  rw [decide_eq_false hi]
  rfl
theorem WI (s:Sh7):Nu s s = true:=by
 unfold Nu
 rw [B5 (Bv _),B5 (Bv _),B5 (Bv _),B5 (WK _ _),B5 (Bv _),B5 (Pt _ _),B5 (WJ _ _ _)]
 exact AJ.2 λ_ _=>WG _
theorem Aae {a:Int} {n:Nat} {f:Nat->E6} (h:IsCycle a n f):GE (ofS a n f) = true:=by
 unfold GE
 rw [B5 (show ieq (BR (ofS a n f).arch (ofS a n f).ne (ofS a n f).E) 0 = true from (Ew h).chk.1)]
 show Nu (ofS a n f) (ofS a n (shG n f)) = true
 rw [show ofS a n (shG n f) = ofS a n f by unfold ofS; rw [AaX h]]
 exact WI _
theorem Mh {a b:Nat} (h:a < b):ile (ofNat b) (ofNat a) = false:=by
 cases hc:ile (ofNat b) (ofNat a) with
 | false=>rfl
 | true =>
  have:ofNat b <= ofNat a:=of_decide_eq_true hc
  have:b <= a:=Int.ofNat_le.1 this
  omega
theorem MC {k:Nat} (h:0 < k):ieq (ofNat k) 0 = false:=by
 cases hc:ieq (ofNat k) 0 with
 | false=>rfl
 | true =>
  have:=BF hc
  have:(k:Int) = 0:=this
  omega
theorem OQ:AW [.row 3 1 0 (λ_=>V.und)] = true:=by simp [AW]
theorem J8 {q:Nat} {ln:Nat->Nat}:∀ (_ _:Unit),(Au q λi=>Au (ln i) λ_=>true) = true:=λ_ _=>AJ.2 λ_ _=>AJ.2 λ_ _=>rfl
theorem Ry {P:Nat->Bool}:∀ {n:Nat},(∀ i,i < n->P i = true)->Aj P n = n
 | 0,_=>rfl
 | n+1,h=>by rw [Bi (h n (by omega)),Ry λi hi=>h i (by omega)]
theorem Tv {P:Nat->Bool} (hP:∀ i k,i <= k->P k = true->P i = true):∀ {n i:Nat},i < n->(P i = true ↔ i < Aj P n)
 | n+1,i,hi=>by
  cases hp:P n with
  | true =>
   rw [Bi hp,Ry λk hk=>hP k n (by omega) hp]
   exact ⟨λ_=>hi,λ_=>hP i n (by omega) hp⟩
  | false =>
   rw [Br hp]
   by_cases he:i = n
   ·have:=AX P n
    rw [he,hp]
    exact ⟨λh=>(by cases h),λh=>by omega⟩
   ·exact Tv hP (by omega)
theorem Aac {P:Nat->Bool} {lo hi n:Nat} (hP:∀ i,i < n->(P i = true ↔ lo <= i ∧ i < hi)) (hl:lo <= hi):∀ {b:Nat},b <= n->Aj P b = min b hi - lo
 | 0,_=>by simp [Aj]
 | b+1,h=>by
  have ih:=Aac hP hl (b:=b) (by omega)
  have hb:=hP b (by omega)
  cases hp:P b with
  | true =>
   have:=hb.1 hp
   rw [Bi hp,ih]
   omega
  | false =>
   have:¬ (lo <= b ∧ b < hi):=λhh=>by rw [hb.2 hh] at hp; cases hp
   rw [Br hp,ih]
   omega
def sT (o:Nat->Bool) (n k:Nat):Nat:=Aj (λi=>decide (Aj o i < k)) n
theorem Md {o:Nat->Bool} {n k i:Nat} (hi:i < n):i < sT o n k ↔ Aj o i < k:=by
 have h:=Tv (P:=λi=>decide (Aj o i < k)) (λi j h1 h2=>by
  have h3:Aj o j < k:=of_decide_eq_true h2
  have:=AZ o h1
  exact decide_eq_true (by omega)) hi
 exact ⟨λh1=>of_decide_eq_true (h.2 h1),λh1=>h.1 (decide_eq_true h1)⟩
theorem Yq (o:Nat->Bool) (n k:Nat):sT o n k <= n:=AX _ _
theorem Ak0 (o:Nat->Bool) (n:Nat):sT o n 0 = 0:=FB λ_ _=>by simp
theorem Abc (o:Nat->Bool) (n k:Nat):sT o n k <= sT o n (k+1):=by
 by_cases h:sT o n (k+1) < sT o n k
 ·have h1:=Yq o n k
  have h2:=(Md (o:=o) (k:=k) (show sT o n (k+1) < n by omega)).1 h
  have h3:=(Md (o:=o) (k:=k+1) (show sT o n (k+1) < n by omega)).2 (by omega)
  omega
 ·omega
theorem before {o:Nat->Bool} {n i:Nat} (hi:i < n) (h:o (n - 1) = true):Aj o i < Aj o n:=by
 have h1:=Bi h
 have h2:=AZ o (show i <= n - 1 by omega)
 rw [show n - 1+1 = n by omega] at h1
 omega
theorem Aeu {o:Nat->Bool} {n:Nat} (h:o (n - 1) = true):sT o n (Aj o n) = n:=Ry λ_ hi=>decide_eq_true (before hi h)
theorem W8 {a:Int} {n:Nat} {g:Nat->E6} (h:IsCycle a n g) (hl:obF g (n - 1) = true) {b:Nat} (hb:b < ttN n g) :
  ∃ m,m = Aj (λi=>ieq (evF n g (λ_=>true) i).th (ofNat b)) n ∧ 0 < m ∧ m <= 12 ∧ sT (obF g) n (b+1) = sT (obF g) n b+m ∧ ∀ d,d < m ->
   RV (λi=>ieq (evF n g (λ_=>true) i).th (ofNat b)) n d = sT (obF g) n b+d ∧ (evF n g (λ_=>true) (sT (obF g) n b+d)).th = ofNat b ∧ (evF n g (λ_=>true) (sT (obF g) n b+d)).pl = ofNat d:=by
 have hth:∀ i,i < n->thF n g i = ofNat (Aj (obF g) i):=λi hi=>by
  show Av (obF g) n i = _
  rw [F0 hi]
  unfold Bc
  rw [if_neg (by have:=before hi hl; omega)]
 have hm:=Abc (obF g) n b
 have hle:=Yq (obF g) n (b+1)
 have hP:∀ i,i < n->((ieq (evF n g (λ_=>true) i).th (ofNat b)) = true ↔ sT (obF g) n b <= i ∧ i < sT (obF g) n (b+1)):=λi hi=>by
  have h1:=Md (o:=obF g) (k:=b) hi
  have h2:=Md (o:=obF g) (k:=b+1) hi
  rw [BK hi]
  show ieq (thF n g i) (ofNat b) = true ↔ _
  rw [hth i hi]
  have h3:ieq (ofNat (Aj (obF g) i)) (ofNat b) = true ↔ Aj (obF g) i = b:=⟨λhh=>Int.ofNat.inj (BF hh),λhh=>by rw [hh]; exact F4 _⟩
  rw [h3]
  omega
 have hc:=fun {k:Nat} (hk:k <= n)=>Aac (P:=λi=>ieq (evF n g (λ_=>true) i).th (ofNat b)) hP hm hk
 obtain ⟨h1,h2,h3⟩:=Li (P:=obF g) (n:=n) (m:=b) hb
 have hat:=(hP _ h1).1 (by rw [BK h1]; show ieq (thF n g _) _ = true; rw [hth _ h1,h3]; exact F4 _)
 have hn:=hc (Nat.le_refl n)
 rw [Nat.min_eq_right hle] at hn
 refine ⟨_,rfl,by rw [hn]; omega,?_,by rw [hn]; omega,λd hd=>?_⟩
 ·have h4:=h.crowd _ h1
  unfold AG at h4
  rw [B5 rfl] at h4
  have h5:¬ ((12:Int) < ofNat (Aj (Co (Av (λk=>As (g k)) n) (λ_=>true) (Av (λk=>As (g k)) n (RV (obF g) n b))) n)):=of_decide_eq_false h4
  have h6:Aj (Co (Av (λk=>As (g k)) n) (λ_=>true) (Av (λk=>As (g k)) n (RV (obF g) n b))) n = Aj (λi=>ieq (evF n g (λ_=>true) i).th (ofNat b)) n:=E9 λi hi=>by
   unfold Co
   rw [show Av (λk=>As (g k)) n (RV (obF g) n b) = ofNat b from (hth _ h1).trans (by rw [h3]),BK hi]
   show Af (ieq (thF n g i) _) true = ieq (thF n g i) _
   cases ieq (thF n g i) (ofNat b) <;> rfl
  rw [h6] at h5
  have h5:¬ ((12:Int) < (Aj (λi=>ieq (evF n g (λ_=>true) i).th (ofNat b)) n:Int)):=h5
  omega
 ·rw [hn] at hd
  have hi:sT (obF g) n b+d < n:=by omega
  have hp:=(hP _ hi).2 (by omega)
  have hd':=hc (Nat.le_of_lt hi)
  rw [Nat.min_eq_left (by omega),Nat.add_sub_cancel_left] at hd'
  have hs:=Vo (P:=λi=>ieq (evF n g (λ_=>true) i).th (ofNat b)) hi hp
  rw [hd'] at hs
  refine ⟨hs,BF hp,?_⟩
  rw [BK hi]
  show ofNat (plF n g _) = _
  rw [show plF n g (sT (obF g) n b+d) = d from ?_]
  refine Eq.trans (E9 λi hi'=>?_) hd'
  have:=BF hp
  rw [BK hi] at this
  have this:thF n g (sT (obF g) n b+d) = ofNat b:=this
  rw [this,BK (show i < n by omega)]
  exact SR _ _
end Go.Proofs.Ytjhnfomefcngfaa.Sh
namespace Go.Proofs.Ytjhnfomefcngfaa.Sh
open Go.Sy Ed
open Int (ofNat)
set_option maxHeartbeats 1000000
set_option maxRecDepth 4000
theorem MB {k:Nat} (hk:k < 4611686018427387904):wr .i64 (A2 (ofNat (k+1)) 1) = ofNat k:=by
 have h:=Ao (i:=k) (n:=k+1) (by omega) (by omega)
 have e:A2 (ofNat (k+1)) 1 = ofNat k:=by
  show (ofNat (k+1):Int) - 1 = ofNat k
  have:(ofNat (k+1):Int) = (k:Int)+1:=rfl
  rw [this]
  show (k:Int)+1 - 1 = (k:Int)
  omega
 rw [e]
 by_cases h0:k = 0
 ·subst h0
  rfl
 ·have h:=Ao (i:=k - 1) (n:=k) (by omega) (by omega)
  have e2:Ae (ofNat (k - 1)) 1 = ofNat k:=by
   show (ofNat (k - 1):Int)+1 = ofNat k
   have:((k - 1:Nat):Int)+1 = (k:Int):=by omega
   exact this
  rw [e2,show k - 1+1 = k by omega] at h
  exact h
theorem W7 {y:Int} (h:ile 0 y = true):y = ofNat (toN y):=by
 have h:0 <= y:=of_decide_eq_true h
 show y = ((y.toNat:Nat):Int)
 omega
end Go.Proofs.Ytjhnfomefcngfaa.Sh
namespace Go.Proofs.Ytjhnfomefcngfaa.Sh
open Go.Sy Ed
set_option maxHeartbeats 1000000
set_option maxRecDepth 4000
end Go.Proofs.Ytjhnfomefcngfaa.Sh
namespace Go.Proofs.Ytjhnfomefcngfaa.Sh
open Go.Sy Ed
set_option maxHeartbeats 1000000
set_option maxRecDepth 4000
theorem HF {a b:Nat} (h:a ≠ b):ieq (Int.ofNat a) (Int.ofNat b) = false:=by
 cases hc:ieq (Int.ofNat a) (Int.ofNat b) with
 | false=>rfl
 | true=>exact absurd (Int.ofNat.inj (BF hc)) h
theorem ZX {e:E6} (h1:ieq e.kind 1 = false) (h2:ieq e.kind 2 = false) (h3:ieq e.kind 3 = false):Bu e = false:=by
 have h1:¬ e.kind = 1:=by simpa [ieq] using h1
 have h2:¬ e.kind = 2:=by simpa [ieq] using h2
 have h3:¬ e.kind = 3:=by simpa [ieq] using h3
 unfold Bu
 cases ha:ile 1 e.kind with
 | false=>rfl
 | true =>
  have ha:1 <= e.kind:=of_decide_eq_true ha
  rw [B5 rfl]
  exact decide_eq_false (by omega)
theorem Ab3 {e:E6} (h:Bu e = false):As e = false:=by
 unfold As
 rw [h]
 rfl
end Go.Proofs.Ytjhnfomefcngfaa.Sh
