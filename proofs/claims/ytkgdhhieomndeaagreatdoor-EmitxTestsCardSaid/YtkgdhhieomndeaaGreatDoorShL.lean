/-
  Layer 7: whether a shape is one of a cycle: the program's, the document's. No conditions.
-/
import Derived.Test.YtkgdhhieomndeaaGreatDoorShJ
namespace Go.Proofs.YtkgdhhieomndeaaGreatDoor.Sh
open Go.Sy Ed
open Int (ofNat)
set_option maxHeartbeats 1000000
set_option maxRecDepth 4000
def ofS (a:Int) (n:Nat) (f:Nat->E6):Sh7:=⟨a,n,shG n f,n,evF n (shG n f) (λ_=>true),ofNat (ttN n (shG n f)),ofNat (kkN n (shG n f)),n,rfF n (shG n f) (λ_=>true),kkN n (shG n f),
 λk=>(lnN (mbF (shG n f)) (wrF (shG n f)) n k,λi=>ofNat (coN (mbF (shG n f)) (wrF (shG n f)) n k i))⟩
def Cp (s:Sh7):Bool:=Al (ieq (B6 s.arch s.ne s.E) 0) (FZ s (ofS s.arch s.ne s.E))
def Sf:List V->AR
 | [v]=>apS v λs=>.br (BF s.ne) (.br (BM s) (.leaf (iV (sel (Cp s) 0 70),[])) .fail) .fail
 | _=>.fail
theorem AcH {a:Int} {n:Nat} {f:Nat->E6} (h:ilt 16 (ofNat n)=true):ieq (B6 a n f) 0=false:=by
 cases hc:ieq (B6 a n f) 0 with
 | false=>rfl
 | true =>have:=(Et hc).hi;rw [show (16:Int)=ofNat 16 from rfl,BV] at h;have:=of_decide_eq_true h;omega
noncomputable def AdD:AP:=(57,ofT)::(58,Hh)::[]
theorem AdC:Av Tryz.prog Gl AdD:=.cons p14 <| .cons p72 .nil
noncomputable def Ad9:AP:=(33,ofT)::(9,Hh)::[]
theorem Ad8:Av Tryz.prog Gl Ad9:=.cons p15 <| .cons p16 .nil
section
variable (L:LT) (a:Int) (n:Nat) (g:Nat->E6) (m:Nat) (x:Nat->Ev5) (t k:Int) (p:Nat) (r:Nat->Int) (q:Nat) (ln:Nat->Nat) (co:Nat->Nat->Int)
include L a n g m x t k p r q ln co
theorem AnF (h17:BF n=true) (h0:ieq (B6 a n g) 0=true) (h18:Bv [.cells (shL a n g m x t k p r q ln co),.row 92 6 n (λi=>eV (shG n g i)),.row 80 5 n (λi=>evV (evF n (shG n g) (λ_=>true) i)),.row 3 1 n (λi=>iV (rfF n (shG n g) (λ_=>true) i)),.jag (Jag.mk 24 1 (kkN n (shG n g)) Aa 0 3 1 (λ_=>true) (lnN (mbF (shG n g)) (wrF (shG n g)) n) (λk i=>iV (ofNat (coN (mbF (shG n g)) (wrF (shG n g)) n k i)))),.cells [iV a,.ref 1,.ref 2,iV (ofNat (ttN n (shG n g))),iV (ofNat (kkN n (shG n g))),.ref 3,.jref 4]]=true) (h19:AB q (λi=>AB (ln i) (λ_=>true))=true) (h20:AB (kkN n (shG n g)) (λi=>AB (lnN (mbF (shG n g)) (wrF (shG n g)) n i) (λ_=>true))=true) (h21:Aj n=true) (h22:Aj m=true) (h23:Aj p=true) (h24:Aj q=true) (h25:AB q (λi=>Aj (ln i))=true) (h1:Al (ieq a a) (Al (ieq t (ofNat (ttN n (shG n g)))) (Al (ieq k (ofNat (kkN n (shG n g)))) (Al (Cv n g n (λi=>shG n g i)) (Al (ieq (ofNat m) (ofNat n)) (Al (CJ p r n (rfF n (shG n g) (λ_=>true))) (Al (DJ q ln (λi i_1=>co i i_1) (kkN n (shG n g)) (lnN (mbF (shG n g)) (wrF (shG n g)) n) (λi i_1=>ofNat (coN (mbF (shG n g)) (wrF (shG n g)) n i i_1))) (AB m (λk=>F6 (x k) (evF n (shG n g) (λ_=>true) k)))))))))=false):(Az (Ak tab ⟨Ap AdD,L,Gl⟩ Tryz.f35 [.agg (shL a n g m x t k p r q ln co)] [])).sem=some ((iV 70),[]):=by
 exact Ab (ks:=[kL n,kn h17,kn h0,kN (kI 0),kN (kI 0),kN (kI 0),kn h18,kL n,kL m,kL p,kn h19,kL n,kL n,kL n,kn h20,kA (kn h21) (kA (kn h22) (kA (kn h23) (kA (kn h24) (kn h25)))),kN (kI 0),kN (kI 0),kN (kn h1)]) (by kernel_rfl)
theorem AnE (h17:BF n=true) (h0:ieq (B6 a n g) 0=true) (h18:Bv [.cells (shL a n g m x t k p r q ln co),.row 92 6 n (λi=>eV (shG n g i)),.row 80 5 n (λi=>evV (evF n (shG n g) (λ_=>true) i)),.row 3 1 n (λi=>iV (rfF n (shG n g) (λ_=>true) i)),.jag (Jag.mk 24 1 (kkN n (shG n g)) Aa 0 3 1 (λ_=>true) (lnN (mbF (shG n g)) (wrF (shG n g)) n) (λk i=>iV (ofNat (coN (mbF (shG n g)) (wrF (shG n g)) n k i)))),.cells [iV a,.ref 1,.ref 2,iV (ofNat (ttN n (shG n g))),iV (ofNat (kkN n (shG n g))),.ref 3,.jref 4]]=true) (h19:AB q (λi=>AB (ln i) (λ_=>true))=true) (h20:AB (kkN n (shG n g)) (λi=>AB (lnN (mbF (shG n g)) (wrF (shG n g)) n i) (λ_=>true))=true) (h21:Aj n=true) (h22:Aj m=true) (h23:Aj p=true) (h24:Aj q=true) (h25:AB q (λi=>Aj (ln i))=true) (h1:Al (ieq a a) (Al (ieq t (ofNat (ttN n (shG n g)))) (Al (ieq k (ofNat (kkN n (shG n g)))) (Al (Cv n g n (λi=>shG n g i)) (Al (ieq (ofNat m) (ofNat n)) (Al (CJ p r n (rfF n (shG n g) (λ_=>true))) (Al (DJ q ln (λi i_1=>co i i_1) (kkN n (shG n g)) (lnN (mbF (shG n g)) (wrF (shG n g)) n) (λi i_1=>ofNat (coN (mbF (shG n g)) (wrF (shG n g)) n i i_1))) (AB m (λk=>F6 (x k) (evF n (shG n g) (λ_=>true) k)))))))))=true):(Az (Ak tab ⟨Ap AdD,L,Gl⟩ Tryz.f35 [.agg (shL a n g m x t k p r q ln co)] [])).sem=some ((iV 0),[]):=by
 exact Ab (ks:=[kL n,kn h17,kn h0,kN (kI 0),kN (kI 0),kN (kI 0),kn h18,kL n,kL m,kL p,kn h19,kL n,kL n,kL n,kn h20,kA (kn h21) (kA (kn h22) (kA (kn h23) (kA (kn h24) (kn h25)))),kN (kI 0),kN (kI 0),kN (kn h1)]) (by kernel_rfl)
end
theorem p25:Ax Tryz.prog Gl 35 Sf:=by
 refine Am A8 mixed Tryz.func35 (by kernel_rfl) (by kernel_rfl) λvs v h' h=>?_;unfold Sf at h;split at h
 ·rename_i v1
  obtain ⟨s,a1,h⟩:=apS_some h;obtain ⟨hf,h⟩:=Ad h;obtain ⟨hn,h⟩:=Ad h;have:=Ac h;simp only [Prod.mk.injEq] at this;obtain ⟨rfl,rfl⟩:=this;obtain ⟨a,n,g,m,x,t,k,p,r,q,C⟩:=s;have hA:Bf [v1] [.agg [iV a,.sl 6 n (λi=>eV (g i)),.sl 5 m (λi=>evV (x i)),iV t,iV k,.sl 1 p (λi=>iV (r i)),.sl 1 q (λu=>.sl 1 (C u).1 (λi=>iV ((C u).2 i)))]]:=λS w cs hv=>by
   obtain ⟨c,l,rfl,q1,q2⟩:=hv;exact ⟨c,_,rfl,a1 S w c q1,q2⟩
  have hn:Aj n=true∧Aj m=true∧Aj p=true∧Aj q=true∧(AB q λi=>Aj (C i).1)=true:=by simpa [BM,Al] using hn
  obtain ⟨n1,n2,n3,n4,n5⟩:=hn;have hx:=AI AdC [] (G:=Gl);refine ⟨_,AC Gl AdD [],_,hA,rfl,hx.1,hx.2,?_,Aw.refl _⟩;have CG:∀ (q:Nat) (ln:Nat->Nat),(AB q λi=>AB (ln i) λ_=>true)=true:=λ_ _=>A0.2 λ_ _=>A0.2 λ_ _=>rfl;show _=some (iV (sel (Cp ⟨a,n,g,m,x,t,k,p,r,q,C⟩) 0 70),_);revert n5;generalize hln:(λi=>(C i).1)=ln;generalize hco:(λi=>(C i).2)=co;have e1:∀ u,(C u).1=ln u:=λu=>by rw [<- hln]
  have e2:∀ u,(C u).2=co u:=λu=>by rw [<- hco]
  have hC:C=λu=>(ln u,co u):=by
   funext u;rw [<- e1,<- e2]
  intro n5;simp only [e1,e2] at n5 ⊢;subst hC;cases hc:ieq (B6 a n g) 0 with
  | false =>rw [show Cp _=false from W1 hc];exact Ab (ks:=[kL n,kn hf,kn hc,kN (kn hc),kN (kn hc),kN (kn hc),kN (kn hc),kN (kn hc),kT]) (by kernel_rfl)
  | true =>
   rw [show Cp _=_ from Bq hc];cases hs:FZ ⟨a,n,g,m,x,t,k,p,r,q,λu=>(ln u,co u)⟩ (ofS a n g) with
   | false=>exact AnF _ a n g m x t k p r q ln co hf hc (by simp [Bv]) (CG _ _) (CG _ _) n1 n2 n3 n4 n5 hs
   | true=>exact AnE _ a n g m x t k p r q ln co hf hc (by simp [Bv]) (CG _ _) (CG _ _) n1 n2 n3 n4 n5 hs
 ·cases h
section
variable (L:LT) (a:Int) (n:Nat) (g:Nat->E6) (m:Nat) (x:Nat->Ev5) (t k:Int) (p:Nat) (r:Nat->Int) (q:Nat) (ln:Nat->Nat) (co:Nat->Nat->Int)
include L a n g m x t k p r q ln co
theorem An8 (h0:ilt 16 (ofNat n)=false) (h18:BF n=true) (h1:ieq (B6 a n g) 0=true) (h19:Bv [.cells (shL a n g m x t k p r q ln co),.row 92 6 n (λi=>eV (shG n g i)),.row 80 5 n (λi=>evV (evF n (shG n g) (λ_=>true) i)),.row 3 1 n (λi=>iV (rfF n (shG n g) (λ_=>true) i)),.jag (Jag.mk 24 1 (kkN n (shG n g)) Aa 0 3 1 (λ_=>true) (lnN (mbF (shG n g)) (wrF (shG n g)) n) (λk i=>iV (ofNat (coN (mbF (shG n g)) (wrF (shG n g)) n k i)))),.cells [iV a,.ref 1,.ref 2,iV (ofNat (ttN n (shG n g))),iV (ofNat (kkN n (shG n g))),.ref 3,.jref 4]]=true) (h20:AB q (λi=>AB (ln i) (λ_=>true))=true) (h21:AB (kkN n (shG n g)) (λi=>AB (lnN (mbF (shG n g)) (wrF (shG n g)) n i) (λ_=>true))=true) (h22:Aj n=true) (h23:Aj m=true) (h24:Aj p=true) (h25:Aj q=true) (h26:AB q (λi=>Aj (ln i))=true) (h2:Al (ieq a a) (Al (ieq t (ofNat (ttN n (shG n g)))) (Al (ieq k (ofNat (kkN n (shG n g)))) (Al (Cv n g n (λi=>shG n g i)) (Al (ieq (ofNat m) (ofNat n)) (Al (CJ p r n (rfF n (shG n g) (λ_=>true))) (Al (DJ q ln (λi i_1=>co i i_1) (kkN n (shG n g)) (lnN (mbF (shG n g)) (wrF (shG n g)) n) (λi i_1=>ofNat (coN (mbF (shG n g)) (wrF (shG n g)) n i i_1))) (AB m (λk=>F6 (x k) (evF n (shG n g) (λ_=>true) k)))))))))=false):(Az (Ak tab ⟨Ap Ad9,L,Gl⟩ Tryz.f67 [.agg (shL a n g m x t k p r q ln co)] [])).sem=some ((iV 70),[]):=by
 exact Ab (ks:=[kn h0,kL n,kn h18,kn h1,kN (kI 0),kN (kI 0),kN (kI 0),kn h19,kL n,kL m,kL p,kn h20,kL n,kL n,kL n,kn h21,kA (kn h22) (kA (kn h23) (kA (kn h24) (kA (kn h25) (kn h26)))),kN (kI 0),kN (kI 0),kN (kn h2)]) (by kernel_rfl)
theorem An7 (h0:ilt 16 (ofNat n)=false) (h18:BF n=true) (h1:ieq (B6 a n g) 0=true) (h19:Bv [.cells (shL a n g m x t k p r q ln co),.row 92 6 n (λi=>eV (shG n g i)),.row 80 5 n (λi=>evV (evF n (shG n g) (λ_=>true) i)),.row 3 1 n (λi=>iV (rfF n (shG n g) (λ_=>true) i)),.jag (Jag.mk 24 1 (kkN n (shG n g)) Aa 0 3 1 (λ_=>true) (lnN (mbF (shG n g)) (wrF (shG n g)) n) (λk i=>iV (ofNat (coN (mbF (shG n g)) (wrF (shG n g)) n k i)))),.cells [iV a,.ref 1,.ref 2,iV (ofNat (ttN n (shG n g))),iV (ofNat (kkN n (shG n g))),.ref 3,.jref 4]]=true) (h20:AB q (λi=>AB (ln i) (λ_=>true))=true) (h21:AB (kkN n (shG n g)) (λi=>AB (lnN (mbF (shG n g)) (wrF (shG n g)) n i) (λ_=>true))=true) (h22:Aj n=true) (h23:Aj m=true) (h24:Aj p=true) (h25:Aj q=true) (h26:AB q (λi=>Aj (ln i))=true) (h2:Al (ieq a a) (Al (ieq t (ofNat (ttN n (shG n g)))) (Al (ieq k (ofNat (kkN n (shG n g)))) (Al (Cv n g n (λi=>shG n g i)) (Al (ieq (ofNat m) (ofNat n)) (Al (CJ p r n (rfF n (shG n g) (λ_=>true))) (Al (DJ q ln (λi i_1=>co i i_1) (kkN n (shG n g)) (lnN (mbF (shG n g)) (wrF (shG n g)) n) (λi i_1=>ofNat (coN (mbF (shG n g)) (wrF (shG n g)) n i i_1))) (AB m (λk=>F6 (x k) (evF n (shG n g) (λ_=>true) k)))))))))=true):(Az (Ak tab ⟨Ap Ad9,L,Gl⟩ Tryz.f67 [.agg (shL a n g m x t k p r q ln co)] [])).sem=some ((iV 0),[]):=by
 exact Ab (ks:=[kn h0,kL n,kn h18,kn h1,kN (kI 0),kN (kI 0),kN (kI 0),kn h19,kL n,kL m,kL p,kn h20,kL n,kL n,kL n,kn h21,kA (kn h22) (kA (kn h23) (kA (kn h24) (kA (kn h25) (kn h26)))),kN (kI 0),kN (kI 0),kN (kn h2)]) (by kernel_rfl)
end
theorem p39:Ax Tryz.prog Gl 67 Sf:=by
 refine Am A8 mixed Tryz.func67 (by kernel_rfl) (by kernel_rfl) λvs v h' h=>?_;unfold Sf at h;split at h
 ·rename_i v1
  obtain ⟨s,a1,h⟩:=apS_some h;obtain ⟨hf,h⟩:=Ad h;obtain ⟨hn,h⟩:=Ad h;have:=Ac h;simp only [Prod.mk.injEq] at this;obtain ⟨rfl,rfl⟩:=this;obtain ⟨a,n,g,m,x,t,k,p,r,q,C⟩:=s;have hA:Bf [v1] [.agg [iV a,.sl 6 n (λi=>eV (g i)),.sl 5 m (λi=>evV (x i)),iV t,iV k,.sl 1 p (λi=>iV (r i)),.sl 1 q (λu=>.sl 1 (C u).1 (λi=>iV ((C u).2 i)))]]:=λS w cs hv=>by
   obtain ⟨c,l,rfl,q1,q2⟩:=hv;exact ⟨c,_,rfl,a1 S w c q1,q2⟩
  have hn:Aj n=true∧Aj m=true∧Aj p=true∧Aj q=true∧(AB q λi=>Aj (C i).1)=true:=by simpa [BM,Al] using hn
  obtain ⟨n1,n2,n3,n4,n5⟩:=hn;have hx:=AI Ad8 [] (G:=Gl);refine ⟨_,AC Gl Ad9 [],_,hA,rfl,hx.1,hx.2,?_,Aw.refl _⟩;have CG:∀ (q:Nat) (ln:Nat->Nat),(AB q λi=>AB (ln i) λ_=>true)=true:=λ_ _=>A0.2 λ_ _=>A0.2 λ_ _=>rfl;show _=some (iV (sel (Cp ⟨a,n,g,m,x,t,k,p,r,q,C⟩) 0 70),_);revert n5;generalize hln:(λi=>(C i).1)=ln;generalize hco:(λi=>(C i).2)=co;have e1:∀ u,(C u).1=ln u:=λu=>by rw [<- hln]
  have e2:∀ u,(C u).2=co u:=λu=>by rw [<- hco]
  have hC:C=λu=>(ln u,co u):=by
   funext u;rw [<- e1,<- e2]
  intro n5;simp only [e1,e2] at n5 ⊢;subst hC;cases h16:ilt 16 (ofNat n) with
  | true =>have hc:ieq (B6 a n g) 0=false:=AcH h16;rw [show Cp _=false from W1 hc];exact Ab (ks:=[kn h16]) (by kernel_rfl)
  | false =>
  cases hc:ieq (B6 a n g) 0 with
  | false =>rw [show Cp _=false from W1 hc];exact Ab (ks:=[kn h16,kL n,kn hf,kn hc,kN (kn hc),kN (kn hc),kN (kn hc),kN (kn hc),kN (kn hc),kT]) (by kernel_rfl)
  | true =>
   rw [show Cp _=_ from Bq hc];cases hs:FZ ⟨a,n,g,m,x,t,k,p,r,q,λu=>(ln u,co u)⟩ (ofS a n g) with
   | false=>exact An8 _ a n g m x t k p r q ln co h16 hf hc (by simp [Bv]) (CG _ _) (CG _ _) n1 n2 n3 n4 n5 hs
   | true=>exact An7 _ a n g m x t k p r q ln co h16 hf hc (by simp [Bv]) (CG _ _) (CG _ _) n1 n2 n3 n4 n5 hs
 ·cases h
end Go.Proofs.YtkgdhhieomndeaaGreatDoor.Sh
namespace Go.Proofs.YtkgdhhieomndeaaGreatDoor.Sh
open Go.Sy Ed
open Int (ofNat)
set_option maxHeartbeats 1000000
set_option maxRecDepth 4000
def DL (P:Nat->Bool) (v:Nat->Int):Nat->Nat->V
 | 0=>λ_=>.und
 | b+1=>bif P b then As (An P b) (DL P v b) (iV (v b)) else DL P v b
theorem Rp {P:Nat->Bool} {v:Nat->Int} {b:Nat} (h:P b=true):DL P v (b+1)=As (An P b) (DL P v b) (iV (v b)):=by rw [DL,h]; rfl
theorem WX {P:Nat->Bool} {v:Nat->Int} {b:Nat} (h:P b=false):DL P v (b+1)=DL P v b:=by rw [DL,h]; rfl
def SS (P:Nat->Bool) (n m:Nat):Nat:=Eh (λi=>P i && decide (An P i=m)) n
theorem MW {P:Nat->Bool} {n i:Nat} (hi:i<n) (h:P i=true):SS P n (An P i)=i:=Kv hi (by simp [h]) λk hk=>by
 cases hp:P k with
 | false=>rfl
 | true =>have h1:=Bx hp;have h2:=Bb P (show k+1 <= i by omega);simp;omega
theorem Fx {P:Nat->Bool}:∀ {n m:Nat},m<An P n->SS P n m<n∧P (SS P n m)=true∧An P (SS P n m)=m
 | 0,m,h=>by simp [An] at h
 | n+1,m,h=>by
  have:∃ i,i<n+1∧P i=true∧An P i=m:=by
   cases hp:P n with
   | true =>
    rw [Bx hp] at h;by_cases hm:m=An P n
    ·exact ⟨n,by omega,hp,hm.symm⟩
    ·obtain ⟨a,b,c⟩:=Fx (P:=P) (n:=n) (m:=m) (by omega)
     exact ⟨_,by omega,b,c⟩
   | false =>rw [BU hp] at h;obtain ⟨a,b,c⟩:=Fx (n:=n) (m:=m) h;exact ⟨_,by omega,b,c⟩
  obtain ⟨i,h1,h2,h3⟩:=this;rw [<- h3,MW h1 h2];exact ⟨h1,h2,rfl⟩
theorem Tk (P:Nat->Bool) (v:Nat->Int) {n:Nat}:∀ m,m<An P n->DL P v n m=iV (v (SS P n m)):=by
 have key:∀ b,b <= n->∀ i,i<b->P i=true->DL P v b (An P i)=iV (v i):=λb=>by
  induction b with
  | zero=>intro _ i hi; omega
  | succ b ih =>
   intro hb i hi hp;cases hpb:P b with
   | true =>
    rw [Rp hpb,Bi];by_cases he:i=b
    ·rw [he,Nat.beq_refl]; rfl
    ·have h1:=Bx hp
     have h2:=Bb P (show i+1 <= b by omega);rw [nbeq_ne (by omega)];exact ih (by omega) i (by omega) hp
   | false =>
    have he:i ≠ b:=λhe=>by rw [he,hpb] at hp; cases hp
    rw [WX hpb];exact ih (by omega) i (by omega) hp
 intro m hm;obtain ⟨h1,h2,h3⟩:=Fx hm;have:=key n (Nat.le_refl _) _ h1 h2;rw [h3] at this;exact this
theorem KT:∀ n,An (λ_=>true) n=n
 | 0=>rfl
 | n+1=>by rw [Bx rfl,KT n]
theorem Y3 (v:Nat->Int) {n:Nat} (m:Nat) (h:m<n):DL (λ_=>true) v n m=iV (v m):=by
 have h1:=Tk (λ_=>true) v (n:=n) m (by rw [KT]; exact h);have h2:=MW (P:=λ_=>true) h rfl;rw [KT] at h2;rw [h1,h2]
def By (a:Int) (n:Nat) (g:Nat->E6) (m:Nat) (x:Nat->Ev5) (t k:Int) (p:Nat) (r:Nat->Int) (q:Nat) (ln:Nat->Nat) (co:Nat->Nat->Int):Int:=sel (Cp ⟨a,n,g,m,x,t,k,p,r,q,λu=>(ln u,co u)⟩) 0 70
def Gt:List V->AR
 | [v]=>apS v λs=>.br (BF s.ne) (.br (BM s) (.leaf (iV (By s.arch s.ne s.E s.nx s.X s.tt s.kk s.nr s.R s.nc (λi=>(s.C i).1) (λi=>(s.C i).2)),[])) .fail) .fail
 | _=>.fail
theorem AaP:Ax Tryz.prog Gl 35 Gt:=p25
theorem Aox:Ax Tryz.prog Gl 67 Gt:=p39
def noI (e:Int):V×List Blk:=(.tup [.ref 0,iV e],[.row 3 1 0 λ_=>.und])
def Ab5:List V->AR
 | [v]=>apS v λs=>.br (BF s.ne) (.br (Ea s.nc) (.br (BM s) (.br (Cp s) (.leaf (.tup [.ref 0,iV 0],[.row 3 1 s.nc λk=>iV (ofNat (s.C k).1)])) (.leaf (noI 70))) .fail) .fail) .fail
 | _=>.fail
def W3:List V->AR
 | [v]=>apS v λs=>.br (BF s.ne) (.br (Ea s.nc) (.br (BM s) (.br (Cp s) (.leaf (.tup [.ref 0,iV 0],[.row 3 1 (An (λk=>ieq (ofNat (s.C k).1) 2) s.nc) λk=>iV (ofNat (SS (λk=>ieq (ofNat (s.C k).1) 2) s.nc k))])) (.leaf (noI 70))) .fail) .fail) .fail
 | _=>.fail
def lp26 (a:Int) (n:Nat) (g:Nat->E6) (m:Nat) (x:Nat->Ev5) (t k:Int) (p:Nat) (r:Nat->Int) (q:Nat) (ln:Nat->Nat) (co:Nat->Nat->Int) (z:Int):Lp:=⟨bmK 41 0 [1,7,24,25,26],3,bmK 41 0 [7],3,m+1⟩
def st26 (a:Int) (n:Nat) (g:Nat->E6) (m:Nat) (x:Nat->Ev5) (t k:Int) (p:Nat) (r:Nat->Int) (q:Nat) (ln:Nat->Nat) (co:Nat->Nat->Int) (z:Int) (b c:Nat) (y:Nat->V) (j:Nat->V):St:=⟨jsV 41 0 j [(1,iV z),(7,.ref 2),(24,.sl 5 m (λi=>evV (x i))),(25,nV m),(26,nV b)],[.cells (shL a n g m x t k p r q ln co),.row 3 1 0 Aa,.row 3 1 c y]⟩
def en26e (a:Int) (n:Nat) (g:Nat->E6) (m:Nat) (x:Nat->Ev5) (t k:Int) (p:Nat) (r:Nat->Int) (q:Nat) (ln:Nat->Nat) (co:Nat->Nat->Int) (z:Int) (b c:Nat) (y:Nat->V):Ex×St:=(.ex 0,⟨jsV 41 0 Aa [(7,.ref 2)],[.cells (shL a n g m x t k p r q ln co),.row 3 1 0 Aa,.row 3 1 c y]⟩)
def lp36 (a:Int) (n:Nat) (g:Nat->E6) (m:Nat) (x:Nat->Ev5) (t k:Int) (p:Nat) (r:Nat->Int) (q:Nat) (ln:Nat->Nat) (co:Nat->Nat->Int) (z:Int):Lp:=⟨bmK 39 0 [1,2,6,7],3,bmK 39 0 [6],3,m+1⟩
def st36 (a:Int) (n:Nat) (g:Nat->E6) (m:Nat) (x:Nat->Ev5) (t k:Int) (p:Nat) (r:Nat->Int) (q:Nat) (ln:Nat->Nat) (co:Nat->Nat->Int) (z:Int) (b c:Nat) (y:Nat->V) (j:Nat->V):St:=⟨jsV 39 0 j [(1,iV z),(2,.ptr 0 0),(6,.ref 2),(7,nV b)],[.cells (shL a n g m x t k p r q ln co),.row 3 1 0 Aa,.row 3 1 c y]⟩
def jk36 (a:Int) (n:Nat) (g:Nat->E6) (m:Nat) (x:Nat->Ev5) (t k:Int) (p:Nat) (r:Nat->Int) (q:Nat) (ln:Nat->Nat) (co:Nat->Nat->Int) (z:Int) :Nat->V:=lkV A9 [(0,.agg (shL a n g m x t k p r q ln co)),(4,.ref 1),(5,iV 0),(8,.agg (shL a n g m x t k p r q ln co)),(9,iV (By a n g m x t k p r q ln (λi i_1=>co i i_1))),(10,bV (A6 (ieq (By a n g m x t k p r q ln (λi i_1=>co i i_1)) 0))),(11,iV z),(12,bV (ilt z 0)),(13,bV (ilt z 0)),(14,iV z),(15,.ptr 0 3),(16,iV t),(17,bV (ile t z)),(18,bV (ile t z))]
noncomputable def Yl:AP:=(35,Gt)::[]
theorem AdB:Av Tryz.prog Gl Yl:=.cons AaP .nil
def lp27 (a:Int) (n:Nat) (g:Nat->E6) (m:Nat) (x:Nat->Ev5) (t k:Int) (p:Nat) (r:Nat->Int) (q:Nat) (ln:Nat->Nat) (co:Nat->Nat->Int):Lp:=⟨bmK 27 0 [5,14,15,16],3,bmK 27 0 [5],3,q+1⟩
def st27 (a:Int) (n:Nat) (g:Nat->E6) (m:Nat) (x:Nat->Ev5) (t k:Int) (p:Nat) (r:Nat->Int) (q:Nat) (ln:Nat->Nat) (co:Nat->Nat->Int) (b c:Nat) (y:Nat->V) (j:Nat->V):St:=⟨jsV 27 0 j [(5,.ref 2),(14,.sl 1 q (λu=>.sl 1 (ln u) (λi=>iV (co u i)))),(15,nV q),(16,nV b)],[.cells (shL a n g m x t k p r q ln co),.row 3 1 0 Aa,.row 3 1 c y]⟩
def en27e (a:Int) (n:Nat) (g:Nat->E6) (m:Nat) (x:Nat->Ev5) (t k:Int) (p:Nat) (r:Nat->Int) (q:Nat) (ln:Nat->Nat) (co:Nat->Nat->Int) (b c:Nat) (y:Nat->V):Ex×St:=(.ex 0,⟨jsV 27 0 Aa [(5,.ref 2)],[.cells (shL a n g m x t k p r q ln co),.row 3 1 0 Aa,.row 3 1 c y]⟩)
noncomputable def body27 (L:LT):St->T (Ex×St):=λst=>A7 tab ⟨Ap Yl,L,Gl⟩ (Ar Tryz.f42 0) 0 st
section
variable (L:LT) (a:Int) (n:Nat) (g:Nat->E6) (m:Nat) (x:Nat->Ev5) (t k:Int) (p:Nat) (r:Nat->Int) (q:Nat) (ln:Nat->Nat) (co:Nat->Nat->Int) (b c:Nat) (y:Nat->V)  (j:Nat->V)
include L a n g m x t k p r q ln co b c y j
theorem r27e (h0:ilt (ofNat b) (ofNat q)=false):Ah (body27 L) (lp27 a n g m x t k p r q ln co) (st27 a n g m x t k p r q ln co b c y j)=some ((.ex 0),⟨jsV 27 0 Aa [(5,.ref 2)],[.cells (shL a n g m x t k p r q ln co),.row 3 1 0 Aa,.row 3 1 c y]⟩):=by
 exact Ab (ks:=[kn h0]) (by kernel_rfl)
theorem Aob (h0:ilt (ofNat b) (ofNat q)=true) (h17:ile 0 (ofNat b)=true) (h18:Ba c 1 8=true):Ah (body27 L) (lp27 a n g m x t k p r q ln co) (st27 a n g m x t k p r q ln co b c y j)=some (.nm,⟨jsV 27 0 Aa [(5,.ref 2),(14,.sl 1 q (λu=>.sl 1 (ln u) (λi=>iV (co u i)))),(15,nV q),(16,iV (wr .i64 (Af (ofNat b) 1)))],[.cells (shL a n g m x t k p r q ln co),.row 3 1 0 Aa,.row 3 1 (AS c 1) (As c y (iV (ofNat (ln b))))]⟩):=by
 exact Ab (ks:=[kn h0,kA (kn h17) (kn h0),kn h18]) (by kernel_rfl)
end
def AoF (a:Int) (n:Nat) (g:Nat->E6) (m:Nat) (x:Nat->Ev5) (t k:Int) (p:Nat) (r:Nat->Int) (q:Nat) (ln:Nat->Nat) (co:Nat->Nat->Int) :Nat->V:=lkV A9 [(0,.agg (shL a n g m x t k p r q ln co)),(1,.ptr 0 0),(2,.ref 1),(3,iV 0),(4,iV (By a n g m x t k p r q ln (λi i_1=>co i i_1))),(8,.agg (shL a n g m x t k p r q ln co)),(9,iV (By a n g m x t k p r q ln (λi i_1=>co i i_1))),(10,iV (By a n g m x t k p r q ln (λi i_1=>co i i_1))),(11,bV (A6 (ieq (By a n g m x t k p r q ln (λi i_1=>co i i_1)) 0))),(13,.ptr 0 6)]
theorem AnC (L:LT) (a:Int) (n:Nat) (g:Nat->E6) (m:Nat) (x:Nat->Ev5) (t k:Int) (p:Nat) (r:Nat->Int) (q:Nat) (ln:Nat->Nat) (co:Nat->Nat->Int) (h17:AB q (λi=>AB (ln i) (λ_=>true))=true) (h18:BF n=true) (h19:Aj n=true) (h20:Aj m=true) (h21:Aj p=true) (h22:Aj q=true) (h23:AB q (λi=>Aj (ln i))=true) (h0:ieq (By a n g m x t k p r q ln (λi i_1=>co i i_1)) 0=false):(Az (Ak tab ⟨Ap Yl,L,Gl⟩ Tryz.f42 [.agg (shL a n g m x t k p r q ln co)] [])).sem=some ((.tup [.ref 0,iV (By a n g m x t k p r q ln (λi i_1=>co i i_1))]),[.row 3 1 0 Aa]):=by
 exact Ab (ks:=[kL n,kL m,kL p,kn h17,kn h18,kA (kn h19) (kA (kn h20) (kA (kn h21) (kA (kn h22) (kn h23)))),kN (kn h0)]) (by kernel_rfl)
theorem AnB (L:LT) (p0:PT) (a:Int) (n:Nat) (g:Nat->E6) (m:Nat) (x:Nat->Ev5) (t k:Int) (p:Nat) (r:Nat->Int) (q:Nat) (ln:Nat->Nat) (co:Nat->Nat->Int) (b c:Nat) (y:Nat->V) (h17:AB q (λi=>AB (ln i) (λ_=>true))=true) (h18:BF n=true) (h19:Aj n=true) (h20:Aj m=true) (h21:Aj p=true) (h22:Aj q=true) (h23:AB q (λi=>Aj (ln i))=true) (h0:ieq (By a n g m x t k p r q ln (λi i_1=>co i i_1)) 0=true) (hp0:p0 (body27 (onP 0 p0 (en27e a n g m x t k p r q ln co b c y) L)) (st27 a n g m x t k p r q ln co 0 0 Aa (AoF a n g m x t k p r q ln co ))=true):(Az (Ak tab ⟨Ap Yl,onP 0 p0 (en27e a n g m x t k p r q ln co b c y) L,Gl⟩ Tryz.f42 [.agg (shL a n g m x t k p r q ln co)] [])).sem=some ((.tup [.ref 0,iV 0]),[.row 3 1 c y]):=by
 exact Ab (ks:=[kL n,kL m,kL p,kn h17,kn h18,kA (kn h19) (kA (kn h20) (kA (kn h21) (kA (kn h22) (kn h23)))),kN (kn h0),kn hp0]) (by kernel_rfl)
theorem run27 (L:LT) (a:Int) (n:Nat) (g:Nat->E6) (m:Nat) (x:Nat->Ev5) (t k:Int) (p:Nat) (r:Nat->Int) (q:Nat) (ln:Nat->Nat) (co:Nat->Nat->Int) (h8:q * 8 <= 140737488355328):∀ (e b:Nat) (j:Nat->V) (u:Nat),q=b+e->e<u ->
  (A3 (body27 L) (lp27 a n g m x t k p r q ln co) u (st27 a n g m x t k p r q ln co b (An (λ_=>true) b) (DL (λ_=>true) (λi=>ofNat (ln i)) b) j)).sem=some (en27e a n g m x t k p r q ln co q (An (λ_=>true) q) (DL (λ_=>true) (λi=>ofNat (ln i)) q))
 | 0,b,j,u+1,h,_=>by
  have:q=b:=by omega
  subst this;exact Ae (r27e L a n g m x t k p r q ln co q _ _ j (A1 (Nat.le_refl _)))
 | e+1,b,j,u+1,h,h2=>by
  have hl:b<q:=by omega
  have hcl:=Be (λ_=>true) b;have next:=run27 L a n g m x t k p r q ln co h8 e (b+1) Aa u (by omega) (by omega)
  cases hp:(λ_=>true) b with
  | true =>
   rw [Ae (Aob L a n g m x t k p r q ln co b (An (λ_=>true) b) (DL (λ_=>true) (λi=>ofNat (ln i)) b) j (ofNat_lt hl) (AF b) (BS (by omega))),Ay,Aq hl (by omega)];rw [Rp hp,Bx hp] at next
   exact next
  | false=>cases hp
theorem p27:Ax Tryz.prog Gl 42 Ab5:=by
 refine Am A8 mixed Tryz.func42 (by kernel_rfl) (by kernel_rfl) λvs v h' h=>?_;unfold Ab5 at h;split at h
 ·rename_i v1
  obtain ⟨s,a1,h⟩:=apS_some h;obtain ⟨hf,h⟩:=Ad h;obtain ⟨h8,h⟩:=Ad h;obtain ⟨hn,h⟩:=Ad h;obtain ⟨a,n,g,m,x,t,k,p,r,q,C⟩:=s;have hA:Bf [v1] [.agg [iV a,.sl 6 n (λi=>eV (g i)),.sl 5 m (λi=>evV (x i)),iV t,iV k,.sl 1 p (λi=>iV (r i)),.sl 1 q (λu=>.sl 1 (C u).1 (λi=>iV ((C u).2 i)))]]:=λS w cs hv=>by
   obtain ⟨c,l,rfl,q1,q2⟩:=hv;exact ⟨c,_,rfl,a1 S w c q1,q2⟩
  have hn:Aj n=true∧Aj m=true∧Aj p=true∧Aj q=true∧(AB q λi=>Aj (C i).1)=true:=by simpa [BM,Al] using hn
  obtain ⟨n1,n2,n3,n4,n5⟩:=hn;have CG:∀ (q:Nat) (ln:Nat->Nat),(AB q λi=>AB (ln i) λ_=>true)=true:=λ_ _=>A0.2 λ_ _=>A0.2 λ_ _=>rfl;obtain ⟨ln,co,hC⟩:∃ (ln:Nat->Nat) (co:Nat->Nat->Int),C=λu=>(ln u,co u):=⟨λu=>(C u).1,λu=>(C u).2,rfl⟩;subst hC;have hx:=AI AdB [(0,lp27 a n g m x t k p r q ln co)] (G:=Gl);have hL:=AL [(0,lp27 a n g m x t k p r q ln co)];cases hs:Cp ⟨a,n,g,m,x,t,k,p,r,q,λu=>(ln u,co u)⟩ with
  | false =>
   rw [hs] at h;have:=Ac h;simp only [noI,Prod.mk.injEq] at this;obtain ⟨rfl,rfl⟩:=this;have hc:ieq (By a n g m x t k p r q ln co) 0=false:=by unfold By; rw [hs]; rfl
   have hv:By a n g m x t k p r q ln co=70:=by unfold By; rw [hs]; rfl
   refine ⟨_,AC Gl Yl [(0,lp27 a n g m x t k p r q ln co)],_,hA,rfl,hx.1,hx.2,?_,Aw.refl _⟩;have hw:=AnC (AW [(0,lp27 a n g m x t k p r q ln co)]) a n g m x t k p r q ln co (CG _ _) hf n1 n2 n3 n4 n5 hc;rw [hv] at hw;exact hw
  | true =>
   rw [hs] at h;have hc:ieq (By a n g m x t k p r q ln co) 0=true:=by unfold By; rw [hs]; rfl
   have:=Ac h;simp only [noI,Prod.mk.injEq] at this;obtain ⟨rfl,rfl⟩:=this;have h8':q * 8 <= 140737488355328:=of_decide_eq_true h8;have hrun:=λL j=>run27 L a n g m x t k p r q ln co h8' q 0 j (q+1) (by omega) (by omega);refine ⟨_,AC Gl Yl [(0,lp27 a n g m x t k p r q ln co)],_,hA,rfl,hx.1,hx.2,AH (AA hL hL) _ (AnB _ _ a n g m x t k p r q ln co q (An (λ_=>true) q) (DL (λ_=>true) (λi=>ofNat (ln i)) q) (CG _ _) hf n1 n2 n3 n4 n5 hc (Au (hrun _ _))),?_⟩;rw [KT];exact Aw.one λi hi=>(Y3 (λi=>ofNat (ln i)) i hi).symm
 ·cases h
noncomputable def Yk:AP:=(35,Gt)::[]
theorem AdA:Av Tryz.prog Gl Yk:=.cons AaP .nil
def R7 (a:Int) (n:Nat) (g:Nat->E6) (m:Nat) (x:Nat->Ev5) (t k:Int) (p:Nat) (r:Nat->Int) (q:Nat) (ln:Nat->Nat) (co:Nat->Nat->Int):Lp:=⟨bmK 30 0 [5,14,15,16],3,bmK 30 0 [5],3,q+1⟩
def Aae (a:Int) (n:Nat) (g:Nat->E6) (m:Nat) (x:Nat->Ev5) (t k:Int) (p:Nat) (r:Nat->Int) (q:Nat) (ln:Nat->Nat) (co:Nat->Nat->Int) (b c:Nat) (y:Nat->V) (j:Nat->V):St:=⟨jsV 30 0 j [(5,.ref 2),(14,.sl 1 q (λu=>.sl 1 (ln u) (λi=>iV (co u i)))),(15,nV q),(16,nV b)],[.cells (shL a n g m x t k p r q ln co),.row 3 1 0 Aa,.row 3 1 c y]⟩
def Acq (a:Int) (n:Nat) (g:Nat->E6) (m:Nat) (x:Nat->Ev5) (t k:Int) (p:Nat) (r:Nat->Int) (q:Nat) (ln:Nat->Nat) (co:Nat->Nat->Int) (b c:Nat) (y:Nat->V):Ex×St:=(.ex 0,⟨jsV 30 0 Aa [(5,.ref 2)],[.cells (shL a n g m x t k p r q ln co),.row 3 1 0 Aa,.row 3 1 c y]⟩)
noncomputable def OY (L:LT):St->T (Ex×St):=λst=>A7 tab ⟨Ap Yk,L,Gl⟩ (Ar Tryz.f41 0) 0 st
section
variable (L:LT) (a:Int) (n:Nat) (g:Nat->E6) (m:Nat) (x:Nat->Ev5) (t k:Int) (p:Nat) (r:Nat->Int) (q:Nat) (ln:Nat->Nat) (co:Nat->Nat->Int) (b c:Nat) (y:Nat->V)  (j:Nat->V)
include L a n g m x t k p r q ln co b c y j
theorem Aoa (h0:ilt (ofNat b) (ofNat q)=false):Ah (OY L) (R7 a n g m x t k p r q ln co) (Aae a n g m x t k p r q ln co b c y j)=some ((.ex 0),⟨jsV 30 0 Aa [(5,.ref 2)],[.cells (shL a n g m x t k p r q ln co),.row 3 1 0 Aa,.row 3 1 c y]⟩):=by
 exact Ab (ks:=[kn h0]) (by kernel_rfl)
theorem AnY (h0:ilt (ofNat b) (ofNat q)=true) (h18:ile 0 (ofNat b)=true) (h1:ieq (ofNat (ln b)) 2=true) (h19:Ba c 1 8=true):Ah (OY L) (R7 a n g m x t k p r q ln co) (Aae a n g m x t k p r q ln co b c y j)=some (.nm,⟨jsV 30 0 Aa [(5,.ref 2),(14,.sl 1 q (λu=>.sl 1 (ln u) (λi=>iV (co u i)))),(15,nV q),(16,iV (wr .i64 (Af (ofNat b) 1)))],[.cells (shL a n g m x t k p r q ln co),.row 3 1 0 Aa,.row 3 1 (AS c 1) (As c y (nV b))]⟩):=by
 exact Ab (ks:=[kn h0,kA (kn h18) (kn h0),kn h1,kn h19]) (by kernel_rfl)
theorem AnZ (h0:ilt (ofNat b) (ofNat q)=true) (h18:ile 0 (ofNat b)=true) (h1:ieq (ofNat (ln b)) 2=false):Ah (OY L) (R7 a n g m x t k p r q ln co) (Aae a n g m x t k p r q ln co b c y j)=some (.nm,⟨jsV 30 0 Aa [(5,.ref 2),(14,.sl 1 q (λu=>.sl 1 (ln u) (λi=>iV (co u i)))),(15,nV q),(16,iV (wr .i64 (Af (ofNat b) 1)))],[.cells (shL a n g m x t k p r q ln co),.row 3 1 0 Aa,.row 3 1 c y]⟩):=by
 exact Ab (ks:=[kn h0,kA (kn h18) (kn h0),kn h1]) (by kernel_rfl)
end
def AoE (a:Int) (n:Nat) (g:Nat->E6) (m:Nat) (x:Nat->Ev5) (t k:Int) (p:Nat) (r:Nat->Int) (q:Nat) (ln:Nat->Nat) (co:Nat->Nat->Int) :Nat->V:=lkV A9 [(0,.agg (shL a n g m x t k p r q ln co)),(1,.ptr 0 0),(2,.ref 1),(3,iV 0),(4,iV (By a n g m x t k p r q ln (λi i_1=>co i i_1))),(8,.agg (shL a n g m x t k p r q ln co)),(9,iV (By a n g m x t k p r q ln (λi i_1=>co i i_1))),(10,iV (By a n g m x t k p r q ln (λi i_1=>co i i_1))),(11,bV (A6 (ieq (By a n g m x t k p r q ln (λi i_1=>co i i_1)) 0))),(13,.ptr 0 6)]
theorem AnA (L:LT) (a:Int) (n:Nat) (g:Nat->E6) (m:Nat) (x:Nat->Ev5) (t k:Int) (p:Nat) (r:Nat->Int) (q:Nat) (ln:Nat->Nat) (co:Nat->Nat->Int) (h17:AB q (λi=>AB (ln i) (λ_=>true))=true) (h18:BF n=true) (h19:Aj n=true) (h20:Aj m=true) (h21:Aj p=true) (h22:Aj q=true) (h23:AB q (λi=>Aj (ln i))=true) (h0:ieq (By a n g m x t k p r q ln (λi i_1=>co i i_1)) 0=false):(Az (Ak tab ⟨Ap Yk,L,Gl⟩ Tryz.f41 [.agg (shL a n g m x t k p r q ln co)] [])).sem=some ((.tup [.ref 0,iV (By a n g m x t k p r q ln (λi i_1=>co i i_1))]),[.row 3 1 0 Aa]):=by
 exact Ab (ks:=[kL n,kL m,kL p,kn h17,kn h18,kA (kn h19) (kA (kn h20) (kA (kn h21) (kA (kn h22) (kn h23)))),kN (kn h0)]) (by kernel_rfl)
theorem An9 (L:LT) (p0:PT) (a:Int) (n:Nat) (g:Nat->E6) (m:Nat) (x:Nat->Ev5) (t k:Int) (p:Nat) (r:Nat->Int) (q:Nat) (ln:Nat->Nat) (co:Nat->Nat->Int) (b c:Nat) (y:Nat->V) (h17:AB q (λi=>AB (ln i) (λ_=>true))=true) (h18:BF n=true) (h19:Aj n=true) (h20:Aj m=true) (h21:Aj p=true) (h22:Aj q=true) (h23:AB q (λi=>Aj (ln i))=true) (h0:ieq (By a n g m x t k p r q ln (λi i_1=>co i i_1)) 0=true) (hp0:p0 (OY (onP 0 p0 (Acq a n g m x t k p r q ln co b c y) L)) (Aae a n g m x t k p r q ln co 0 0 Aa (AoE a n g m x t k p r q ln co ))=true):(Az (Ak tab ⟨Ap Yk,onP 0 p0 (Acq a n g m x t k p r q ln co b c y) L,Gl⟩ Tryz.f41 [.agg (shL a n g m x t k p r q ln co)] [])).sem=some ((.tup [.ref 0,iV 0]),[.row 3 1 c y]):=by
 exact Ab (ks:=[kL n,kL m,kL p,kn h17,kn h18,kA (kn h19) (kA (kn h20) (kA (kn h21) (kA (kn h22) (kn h23)))),kN (kn h0),kn hp0]) (by kernel_rfl)
theorem AfS (L:LT) (a:Int) (n:Nat) (g:Nat->E6) (m:Nat) (x:Nat->Ev5) (t k:Int) (p:Nat) (r:Nat->Int) (q:Nat) (ln:Nat->Nat) (co:Nat->Nat->Int) (h8:q * 8 <= 140737488355328):∀ (e b:Nat) (j:Nat->V) (u:Nat),q=b+e->e<u ->
  (A3 (OY L) (R7 a n g m x t k p r q ln co) u (Aae a n g m x t k p r q ln co b (An (λi=>ieq (ofNat (ln i)) 2) b) (DL (λi=>ieq (ofNat (ln i)) 2) (λi=>ofNat i) b) j)).sem=some (Acq a n g m x t k p r q ln co q (An (λi=>ieq (ofNat (ln i)) 2) q) (DL (λi=>ieq (ofNat (ln i)) 2) (λi=>ofNat i) q))
 | 0,b,j,u+1,h,_=>by
  have:q=b:=by omega
  subst this;exact Ae (Aoa L a n g m x t k p r q ln co q _ _ j (A1 (Nat.le_refl _)))
 | e+1,b,j,u+1,h,h2=>by
  have hl:b<q:=by omega
  have hcl:=Be (λi=>ieq (ofNat (ln i)) 2) b;have next:=AfS L a n g m x t k p r q ln co h8 e (b+1) Aa u (by omega) (by omega)
  cases hp:(λi=>ieq (ofNat (ln i)) 2) b with
  | true =>
   rw [Ae (AnY L a n g m x t k p r q ln co b (An (λi=>ieq (ofNat (ln i)) 2) b) (DL (λi=>ieq (ofNat (ln i)) 2) (λi=>ofNat i) b) j (ofNat_lt hl) (AF b) hp (BS (by omega))),Ay,Aq hl (by omega)];rw [Rp hp,Bx hp] at next
   exact next
  | false=>
   rw [Ae (AnZ L a n g m x t k p r q ln co b (An (λi=>ieq (ofNat (ln i)) 2) b) (DL (λi=>ieq (ofNat (ln i)) 2) (λi=>ofNat i) b) j (ofNat_lt hl) (AF b) hp),Ay,Aq hl (by omega)];rw [WX hp,BU hp] at next
   exact next
theorem p34:Ax Tryz.prog Gl 41 W3:=by
 refine Am A8 mixed Tryz.func41 (by kernel_rfl) (by kernel_rfl) λvs v h' h=>?_;unfold W3 at h;split at h
 ·rename_i v1
  obtain ⟨s,a1,h⟩:=apS_some h;obtain ⟨hf,h⟩:=Ad h;obtain ⟨h8,h⟩:=Ad h;obtain ⟨hn,h⟩:=Ad h;obtain ⟨a,n,g,m,x,t,k,p,r,q,C⟩:=s;have hA:Bf [v1] [.agg [iV a,.sl 6 n (λi=>eV (g i)),.sl 5 m (λi=>evV (x i)),iV t,iV k,.sl 1 p (λi=>iV (r i)),.sl 1 q (λu=>.sl 1 (C u).1 (λi=>iV ((C u).2 i)))]]:=λS w cs hv=>by
   obtain ⟨c,l,rfl,q1,q2⟩:=hv;exact ⟨c,_,rfl,a1 S w c q1,q2⟩
  have hn:Aj n=true∧Aj m=true∧Aj p=true∧Aj q=true∧(AB q λi=>Aj (C i).1)=true:=by simpa [BM,Al] using hn
  obtain ⟨n1,n2,n3,n4,n5⟩:=hn;have CG:∀ (q:Nat) (ln:Nat->Nat),(AB q λi=>AB (ln i) λ_=>true)=true:=λ_ _=>A0.2 λ_ _=>A0.2 λ_ _=>rfl;obtain ⟨ln,co,hC⟩:∃ (ln:Nat->Nat) (co:Nat->Nat->Int),C=λu=>(ln u,co u):=⟨λu=>(C u).1,λu=>(C u).2,rfl⟩;subst hC;have hx:=AI AdA [(0,R7 a n g m x t k p r q ln co)] (G:=Gl);have hL:=AL [(0,R7 a n g m x t k p r q ln co)];cases hs:Cp ⟨a,n,g,m,x,t,k,p,r,q,λu=>(ln u,co u)⟩ with
  | false =>
   rw [hs] at h;have:=Ac h;simp only [noI,Prod.mk.injEq] at this;obtain ⟨rfl,rfl⟩:=this;have hc:ieq (By a n g m x t k p r q ln co) 0=false:=by unfold By; rw [hs]; rfl
   have hv:By a n g m x t k p r q ln co=70:=by unfold By; rw [hs]; rfl
   refine ⟨_,AC Gl Yk [(0,R7 a n g m x t k p r q ln co)],_,hA,rfl,hx.1,hx.2,?_,Aw.refl _⟩;have hw:=AnA (AW [(0,R7 a n g m x t k p r q ln co)]) a n g m x t k p r q ln co (CG _ _) hf n1 n2 n3 n4 n5 hc;rw [hv] at hw;exact hw
  | true =>
   rw [hs] at h;have hc:ieq (By a n g m x t k p r q ln co) 0=true:=by unfold By; rw [hs]; rfl
   have:=Ac h;simp only [noI,Prod.mk.injEq] at this;obtain ⟨rfl,rfl⟩:=this;have h8':q * 8 <= 140737488355328:=of_decide_eq_true h8;have hrun:=λL j=>AfS L a n g m x t k p r q ln co h8' q 0 j (q+1) (by omega) (by omega);refine ⟨_,AC Gl Yk [(0,R7 a n g m x t k p r q ln co)],_,hA,rfl,hx.1,hx.2,AH (AA hL hL) _ (An9 _ _ a n g m x t k p r q ln co q (An (λi=>ieq (ofNat (ln i)) 2) q) (DL (λi=>ieq (ofNat (ln i)) 2) (λi=>ofNat i) q) (CG _ _) hf n1 n2 n3 n4 n5 hc (Au (hrun _ _))),?_⟩;exact Aw.one λi hi=>(Tk _ _ i hi).symm
 ·cases h
end Go.Proofs.YtkgdhhieomndeaaGreatDoor.Sh
