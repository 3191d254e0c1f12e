/-
  Layer 7: whether a shape is one of a cycle: the program's, the document's. No conditions.
-/
import Derived.Test.YthlojajaenfidaaGreatDoorShJ
namespace Go.Proofs.YthlojajaenfidaaGreatDoor.Sh
open Go.Sy Ed
open Int (ofNat)
set_option maxHeartbeats 1000000
set_option maxRecDepth 4000
def ofS (a:Int) (n:Nat) (f:Nat->E6):Sh7:=⟨a,n,shG n f,n,evF n (shG n f) (λ_=>true),ofNat (ttN n (shG n f)),ofNat (kkN n (shG n f)),n,rfF n (shG n f) (λ_=>true),kkN n (shG n f),
 λk=>(lnN (mbF (shG n f)) (wrF (shG n f)) n k,λi=>ofNat (coN (mbF (shG n f)) (wrF (shG n f)) n k i))⟩
def CX (s:Sh7):Bool:=Al (ieq (BN s.arch s.ne s.E) 0) (N2 s (ofS s.arch s.ne s.E))
def AbH:List V->T (V × List Blk)
 | [v]=>apS v λs=>.br (Be s.ne) (.br (Cm s) (.leaf (iV (sel (CX s) 0 70),[])) .fail) .fail
 | _=>.fail
noncomputable def Zk:List (Nat × (List V->T (V × List Blk))):=(4,ofT) :: (57,U2) :: []
theorem Ac5:A8 Tryz.prog Gl Zk:=.cons p14 <| .cons p72 .nil
section
variable (L:LT) (a:Int) (n:Nat) (g:Nat->E6) (m:Nat) (x:Nat->Ev5) (t k:Int) (p:Nat) (r:Nat->Int) (q:Nat) (ln:Nat->Nat) (co:Nat->Nat->Int)
include L a n g m x t k p r q ln co
theorem Amo (h16:Be n = true) (h0:ieq (BN a n g) 0 = false):(Au (Ah tab ⟨Ak Zk,L,Gl⟩ Tryz.f40 [.agg (shL a n g m x t k p r q ln co)] [])).sem = some ((iV 70),[]):=by
 exact Aa (ks:=[kL n,kn h16,kn h0,kN (kn h0),kN (kn h0),kN (kn h0),kN (kn h0),kN (kn h0),kT]) (by kernel_rfl)
theorem Amn (h17:Be n = true) (h0:ieq (BN a n g) 0 = true) (h18:AR [(.cells (shL a n g m x t k p r q ln co)),(.row 57 6 n (λi=>(eV (shG n g i)))),(.row 61 5 n (λi=>(evV (evF n (shG n g) (λ_=>true) i)))),(.row 3 1 n (λi=>(iV (rfF n (shG n g) (λ_=>true) i)))),(.jag (Jag.mk 24 1 (kkN n (shG n g)) (λ_=>.und) 0 3 1 (λ_=>true) (lnN (mbF (shG n g)) (wrF (shG n g)) n) (λk i=>(iV (ofNat (coN (mbF (shG n g)) (wrF (shG n g)) n k i)))))),(.cells [(iV a),(.ref 1),(.ref 2),(iV (ofNat (ttN n (shG n g)))),(iV (ofNat (kkN n (shG n g)))),(.ref 3),(.jref 4)])] = true) (h19:AJ q (λi=>(AJ (ln i) (λ_=>true))) = true) (h20:AJ (kkN n (shG n g)) (λi=>(AJ (lnN (mbF (shG n g)) (wrF (shG n g)) n i) (λ_=>true))) = true) (h21:Ao n = true) (h22:Ao m = true) (h23:Ao p = true) (h24:Ao q = true) (h25:AJ q (λi=>(Ao (ln i))) = true) (h1:Al (ieq a a) (Al (ieq t (ofNat (ttN n (shG n g)))) (Al (ieq k (ofNat (kkN n (shG n g)))) (Al (DT n g n (λi=>(shG n g i))) (Al (ieq (ofNat m) (ofNat n)) (Al (D8 p r n (rfF n (shG n g) (λ_=>true))) (Al (HC q ln (λi i_1=>(co i i_1)) (kkN n (shG n g)) (lnN (mbF (shG n g)) (wrF (shG n g)) n) (λi i_1=>(ofNat (coN (mbF (shG n g)) (wrF (shG n g)) n i i_1)))) (AJ m (λk=>(G2 (x k) (evF n (shG n g) (λ_=>true) k)))))))))) = false):(Au (Ah tab ⟨Ak Zk,L,Gl⟩ Tryz.f40 [.agg (shL a n g m x t k p r q ln co)] [])).sem = some ((iV 70),[]):=by
 exact Aa (ks:=[kL n,kn h17,kn h0,kN (kI 0),kN (kI 0),kN (kI 0),kn h18,kL n,kL m,kL p,kn h19,kL n,kL n,kL n,kn h20,kA (kn h21) (kA (kn h22) (kA (kn h23) (kA (kn h24) (kn h25)))),kN (kI 0),kN (kI 0),kN (kn h1)]) (by kernel_rfl)
theorem Amm (h17:Be n = true) (h0:ieq (BN a n g) 0 = true) (h18:AR [(.cells (shL a n g m x t k p r q ln co)),(.row 57 6 n (λi=>(eV (shG n g i)))),(.row 61 5 n (λi=>(evV (evF n (shG n g) (λ_=>true) i)))),(.row 3 1 n (λi=>(iV (rfF n (shG n g) (λ_=>true) i)))),(.jag (Jag.mk 24 1 (kkN n (shG n g)) (λ_=>.und) 0 3 1 (λ_=>true) (lnN (mbF (shG n g)) (wrF (shG n g)) n) (λk i=>(iV (ofNat (coN (mbF (shG n g)) (wrF (shG n g)) n k i)))))),(.cells [(iV a),(.ref 1),(.ref 2),(iV (ofNat (ttN n (shG n g)))),(iV (ofNat (kkN n (shG n g)))),(.ref 3),(.jref 4)])] = true) (h19:AJ q (λi=>(AJ (ln i) (λ_=>true))) = true) (h20:AJ (kkN n (shG n g)) (λi=>(AJ (lnN (mbF (shG n g)) (wrF (shG n g)) n i) (λ_=>true))) = true) (h21:Ao n = true) (h22:Ao m = true) (h23:Ao p = true) (h24:Ao q = true) (h25:AJ q (λi=>(Ao (ln i))) = true) (h1:Al (ieq a a) (Al (ieq t (ofNat (ttN n (shG n g)))) (Al (ieq k (ofNat (kkN n (shG n g)))) (Al (DT n g n (λi=>(shG n g i))) (Al (ieq (ofNat m) (ofNat n)) (Al (D8 p r n (rfF n (shG n g) (λ_=>true))) (Al (HC q ln (λi i_1=>(co i i_1)) (kkN n (shG n g)) (lnN (mbF (shG n g)) (wrF (shG n g)) n) (λi i_1=>(ofNat (coN (mbF (shG n g)) (wrF (shG n g)) n i i_1)))) (AJ m (λk=>(G2 (x k) (evF n (shG n g) (λ_=>true) k)))))))))) = true):(Au (Ah tab ⟨Ak Zk,L,Gl⟩ Tryz.f40 [.agg (shL a n g m x t k p r q ln co)] [])).sem = some ((iV 0),[]):=by
 exact Aa (ks:=[kL n,kn h17,kn h0,kN (kI 0),kN (kI 0),kN (kI 0),kn h18,kL n,kL m,kL p,kn h19,kL n,kL n,kL n,kn h20,kA (kn h21) (kA (kn h22) (kA (kn h23) (kA (kn h24) (kn h25)))),kN (kI 0),kN (kI 0),kN (kn h1)]) (by kernel_rfl)
end
theorem p25:A6 Tryz.prog Gl 40 AbH:=by
 refine Av AI mixed Tryz.func40 (by kernel_rfl) (by kernel_rfl) λvs v h' h=>?_
 unfold AbH at h
 split at h
 ·rename_i v1
  obtain ⟨s,a1,h⟩:=apS_some h
  obtain ⟨hf,h⟩:=Ad h
  obtain ⟨hn,h⟩:=Ad h
  have:=Ac h
  simp only [Prod.mk.injEq] at this
  obtain ⟨rfl,rfl⟩:=this
  obtain ⟨a,n,g,m,x,t,k,p,r,q,C⟩:=s
  have hA:Bm [v1] [.agg [iV a,.sl 6 n (λi=>eV (g i)),.sl 5 m (λi=>evV (x i)),iV t,iV k,.sl 1 p (λi=>iV (r i)),.sl 1 q (λu=>.sl 1 (C u).1 (λi=>iV ((C u).2 i)))]]:=λS w cs hv=>by
   obtain ⟨c,l,rfl,q1,q2⟩:=hv
   exact ⟨c,_,rfl,a1 S w c q1,q2⟩
  have hn:Ao n = true ∧ Ao m = true ∧ Ao p = true ∧ Ao q = true ∧ (AJ q λi=>Ao (C i).1) = true:=by simpa [Cm,Al] using hn
  obtain ⟨n1,n2,n3,n4,n5⟩:=hn
  have hx:=AK Ac5 [] (G:=Gl)
  refine ⟨_,AN Gl Zk [],_,hA,rfl,hx.1,hx.2,?_,A0.refl _⟩
  have Fh:∀ (q:Nat) (ln:Nat->Nat),(AJ q λi=>AJ (ln i) λ_=>true) = true:=λ_ _=>A4.2 λ_ _=>A4.2 λ_ _=>rfl
  show _ = some (iV (sel (CX ⟨a,n,g,m,x,t,k,p,r,q,C⟩) 0 70),_)
  revert n5
  generalize hln:(λi=>(C i).1) = ln
  generalize hco:(λi=>(C i).2) = co
  have e1:∀ u,(C u).1 = ln u:=λu=>by rw [<- hln]
  have e2:∀ u,(C u).2 = co u:=λu=>by rw [<- hco]
  have hC:C = λu=>(ln u,co u):=by
   funext u
   rw [<- e1,<- e2]
  intro n5
  simp only [e1,e2] at n5 ⊢
  subst hC
  cases hc:ieq (BN a n g) 0 with
  | false =>
   rw [show CX _ = false from Gr hc]
   exact Amo _ a n g m x t k p r q ln co hf hc
  | true =>
   rw [show CX _ = _ from B0 hc]
   cases hs:N2 ⟨a,n,g,m,x,t,k,p,r,q,λu=>(ln u,co u)⟩ (ofS a n g) with
   | false=>exact Amn _ a n g m x t k p r q ln co hf hc (by simp [AR]) (Fh _ _) (Fh _ _) n1 n2 n3 n4 n5 hs
   | true=>exact Amm _ a n g m x t k p r q ln co hf hc (by simp [AR]) (Fh _ _) (Fh _ _) n1 n2 n3 n4 n5 hs
 ·cases h
end Go.Proofs.YthlojajaenfidaaGreatDoor.Sh
namespace Go.Proofs.YthlojajaenfidaaGreatDoor.Sh
open Go.Sy Ed
open Int (ofNat)
set_option maxHeartbeats 1000000
set_option maxRecDepth 4000
def D9 (P:Nat->Bool) (v:Nat->Int):Nat->Nat->V
 | 0=>λ_=>.und
 | b+1=>bif P b then A2 (Aj P b) (D9 P v b) (iV (v b)) else D9 P v b
theorem QR {P:Nat->Bool} {v:Nat->Int} {b:Nat} (h:P b = true):D9 P v (b+1) = A2 (Aj P b) (D9 P v b) (iV (v b)):=by rw [D9,h]; rfl
theorem W4 {P:Nat->Bool} {v:Nat->Int} {b:Nat} (h:P b = false):D9 P v (b+1) = D9 P v b:=by rw [D9,h]; rfl
def Sq (P:Nat->Bool) (n m:Nat):Nat:=Fb (λi=>P i && decide (Aj P i = m)) n
theorem Wl {P:Nat->Bool} {n i:Nat} (hi:i < n) (h:P i = true):Sq P n (Aj P i) = i:=Km hi (by simp [h]) λk hk=>by
 cases hp:P k with
 | false=>rfl
 | true =>
  have h1:=Bi hp
  have h2:=AW P (show k+1 <= i by omega)
  simp
  omega
theorem G1 {P:Nat->Bool}:∀ {n m:Nat},m < Aj P n->Sq P n m < n ∧ P (Sq P n m) = true ∧ Aj P (Sq P n m) = m
 | 0,m,h=>by simp [Aj] at h
 | n+1,m,h=>by
  have:∃ i,i < n+1 ∧ P i = true ∧ Aj P i = m:=by
   cases hp:P n with
   | true =>
    rw [Bi hp] at h
    by_cases hm:m = Aj P n
    ·exact ⟨n,by omega,hp,hm.symm⟩
    ·obtain ⟨a,b,c⟩:=G1 (P:=P) (n:=n) (m:=m) (by omega)
     exact ⟨_,by omega,b,c⟩
   | false =>
    rw [B5 hp] at h
    obtain ⟨a,b,c⟩:=G1 (n:=n) (m:=m) h
    exact ⟨_,by omega,b,c⟩
  obtain ⟨i,h1,h2,h3⟩:=this
  rw [<- h3,Wl h1 h2]
  exact ⟨h1,h2,rfl⟩
theorem SB (P:Nat->Bool) (v:Nat->Int) {n:Nat}:∀ m,m < Aj P n->D9 P v n m = iV (v (Sq P n m)):=by
 have key:∀ b,b <= n->∀ i,i < b->P i = true->D9 P v b (Aj P i) = iV (v i):=λb=>by
  induction b with
  | zero=>intro _ i hi; omega
  | succ b ih =>
   intro hb i hi hp
   cases hpb:P b with
   | true =>
    rw [QR hpb,Bl]
    by_cases he:i = b
    ·rw [he,Nat.beq_refl]; rfl
    ·have h1:=Bi hp
     have h2:=AW P (show i+1 <= b by omega)
     rw [nbeq_ne (by omega)]
     exact ih (by omega) i (by omega) hp
   | false =>
    have he:i ≠ b:=λhe=>by rw [he,hpb] at hp; cases hp
    rw [W4 hpb]
    exact ih (by omega) i (by omega) hp
 intro m hm
 obtain ⟨h1,h2,h3⟩:=G1 hm
 have:=key n (Nat.le_refl _) _ h1 h2
 rw [h3] at this
 exact this
theorem KR:∀ n,Aj (λ_=>true) n = n
 | 0=>rfl
 | n+1=>by rw [Bi rfl,KR n]
theorem XS (v:Nat->Int) {n:Nat} (m:Nat) (h:m < n):D9 (λ_=>true) v n m = iV (v m):=by
 have h1:=SB (λ_=>true) v (n:=n) m (by rw [KR]; exact h)
 have h2:=Wl (P:=λ_=>true) h rfl
 rw [KR] at h2
 rw [h1,h2]
def B6 (a:Int) (n:Nat) (g:Nat->E6) (m:Nat) (x:Nat->Ev5) (t k:Int) (p:Nat) (r:Nat->Int) (q:Nat) (ln:Nat->Nat) (co:Nat->Nat->Int):Int:=sel (CX ⟨a,n,g,m,x,t,k,p,r,q,λu=>(ln u,co u)⟩) 0 70
def KU:List V->T (V × List Blk)
 | [v]=>apS v λs=>.br (Be s.ne) (.br (Cm s) (.leaf (iV (B6 s.arch s.ne s.E s.nx s.X s.tt s.kk s.nr s.R s.nc (λi=>(s.C i).1) (λi=>(s.C i).2)),[])) .fail) .fail
 | _=>.fail
theorem Adc:A6 Tryz.prog Gl 40 KU:=p25
def noI (e:Int):V × List Blk:=(.tup [.ref 0,iV e],[.row 3 1 0 λ_=>.und])
def AaF:List V->T (V × List Blk)
 | [v]=>apS v λs=>.br (Be s.ne) (.br (Dv s.nc) (.br (Cm s) (.br (CX s) (.leaf (.tup [.ref 0,iV 0],[.row 3 1 s.nc λk=>iV (ofNat (s.C k).1)])) (.leaf (noI 70))) .fail) .fail) .fail
 | _=>.fail
def VP:List V->T (V × List Blk)
 | [v]=>apS v λs=>.br (Be s.ne) (.br (Dv s.nc) (.br (Cm s) (.br (CX s) (.leaf (.tup [.ref 0,iV 0],[.row 3 1 (Aj (λk=>ieq (ofNat (s.C k).1) 2) s.nc) λk=>iV (ofNat (Sq (λk=>ieq (ofNat (s.C k).1) 2) s.nc k))])) (.leaf (noI 70))) .fail) .fail) .fail
 | _=>.fail
noncomputable def X7:List (Nat × (List V->T (V × List Blk))):=(40,KU) :: []
theorem Ac4:A8 Tryz.prog Gl X7:=.cons Adc .nil
def lp27 (_:Int) (_:Nat) (_:Nat->E6) (_:Nat) (_:Nat->Ev5) (_ _:Int) (_:Nat) (_:Nat->Int) (q:Nat) (_:Nat->Nat) (_:Nat->Nat->Int):Lp:=⟨(bmK 27 0 [5,14,15,16]),3,bmK 27 0 [5],3,q+1⟩
def st27 (a:Int) (n:Nat) (g:Nat->E6) (m:Nat) (x:Nat->Ev5) (t k:Int) (p:Nat) (r:Nat->Int) (q:Nat) (ln:Nat->Nat) (co:Nat->Nat->Int) (b c:Nat) (y:Nat->V) (j:Nat->V):St:=⟨(jsV 27 0 j [(5,.ref 2),(14,.sl 1 q (λu=>.sl 1 (ln u) (λi=>iV (co u i)))),(15,nV q),(16,nV b)]),[.cells (shL a n g m x t k p r q ln co),r3Z,.row 3 1 c y]⟩
def en27e (a:Int) (n:Nat) (g:Nat->E6) (m:Nat) (x:Nat->Ev5) (t k:Int) (p:Nat) (r:Nat->Int) (q:Nat) (ln:Nat->Nat) (co:Nat->Nat->Int) (_ c:Nat) (y:Nat->V):Ex × St:=(.ex 0,⟨(jsV 27 0 (λ_=>.und) [(5,.ref 2)]),[.cells (shL a n g m x t k p r q ln co),r3Z,.row 3 1 c y]⟩)
noncomputable def body27 (L:LT):St->T (Ex × St):=λst=>AD tab ⟨Ak X7,L,Gl⟩ (As Tryz.f45 0) 0 st
section
variable (L:LT) (a:Int) (n:Nat) (g:Nat->E6) (m:Nat) (x:Nat->Ev5) (t k:Int) (p:Nat) (r:Nat->Int) (q:Nat) (ln:Nat->Nat) (co:Nat->Nat->Int) (b c:Nat) (y:Nat->V)  (j:Nat->V)
include L a n g m x t k p r q ln co b c y j
theorem r27e (h0:ilt (ofNat b) (ofNat q) = false):Ag (body27 L) (lp27 a n g m x t k p r q ln co) (st27 a n g m x t k p r q ln co b c y j) = some ((.ex 0),⟨(jsV 27 0 (λ_=>.und) [(5,(.ref 2))]),[(.cells (shL a n g m x t k p r q ln co)),r3Z,(.row 3 1 c y)]⟩):=by
 exact Aa (ks:=[kn h0]) (by kernel_rfl)
theorem AmA (h0:ilt (ofNat b) (ofNat q) = true) (h17:ile 0 (ofNat b) = true) (h18:Bx c 1 8 = true):Ag (body27 L) (lp27 a n g m x t k p r q ln co) (st27 a n g m x t k p r q ln co b c y j) = some (.nm,⟨(jsV 27 0 (λ_=>.und) [(5,(.ref 2)),(14,(.sl 1 q (λu=>(.sl 1 (ln u) (λi=>(iV (co u i))))))),(15,(nV q)),(16,(iV (wr .i64 (Af (ofNat b) 1))))]),[(.cells (shL a n g m x t k p r q ln co)),r3Z,(.row 3 1 (Bd c 1) (A2 c y (iV (ofNat (ln b)))))]⟩):=by
 exact Aa (ks:=[kn h0,kA (kn h17) (kn h0),kn h18]) (by kernel_rfl)
end
def Ani (a:Int) (n:Nat) (g:Nat->E6) (m:Nat) (x:Nat->Ev5) (t k:Int) (p:Nat) (r:Nat->Int) (q:Nat) (ln:Nat->Nat) (co:Nat->Nat->Int) :Nat->V:=lkV A7 [(0,(.agg (shL a n g m x t k p r q ln co))),(1,(.ptr 0 0)),(2,(.ref 1)),(3,(iV 0)),(4,(iV (B6 a n g m x t k p r q ln (λi i_1=>co i i_1)))),(8,(.agg (shL a n g m x t k p r q ln co))),(9,(iV (B6 a n g m x t k p r q ln (λi i_1=>co i i_1)))),(10,(iV (B6 a n g m x t k p r q ln (λi i_1=>co i i_1)))),(11,(bV (AG (ieq (B6 a n g m x t k p r q ln (λi i_1=>co i i_1)) 0)))),(13,(.ptr 0 6))]
theorem Aml (L:LT) (a:Int) (n:Nat) (g:Nat->E6) (m:Nat) (x:Nat->Ev5) (t k:Int) (p:Nat) (r:Nat->Int) (q:Nat) (ln:Nat->Nat) (co:Nat->Nat->Int) (h17:AJ q (λi=>(AJ (ln i) (λ_=>true))) = true) (h18:Be n = true) (h19:Ao n = true) (h20:Ao m = true) (h21:Ao p = true) (h22:Ao q = true) (h23:AJ q (λi=>(Ao (ln i))) = true) (h0:ieq (B6 a n g m x t k p r q ln (λi i_1=>(co i i_1))) 0 = false):(Au (Ah tab ⟨Ak X7,L,Gl⟩ Tryz.f45 [.agg (shL a n g m x t k p r q ln co)] [])).sem = some ((.tup [(.ref 0),(iV (B6 a n g m x t k p r q ln (λi i_1=>(co i i_1))))]),[r3Z]):=by
 exact Aa (ks:=[kL n,kL m,kL p,kn h17,kn h18,kA (kn h19) (kA (kn h20) (kA (kn h21) (kA (kn h22) (kn h23)))),kN (kn h0)]) (by kernel_rfl)
theorem Amk (L:LT) (p0:PT) (a:Int) (n:Nat) (g:Nat->E6) (m:Nat) (x:Nat->Ev5) (t k:Int) (p:Nat) (r:Nat->Int) (q:Nat) (ln:Nat->Nat) (co:Nat->Nat->Int) (b c:Nat) (y:Nat->V) (h17:AJ q (λi=>(AJ (ln i) (λ_=>true))) = true) (h18:Be n = true) (h19:Ao n = true) (h20:Ao m = true) (h21:Ao p = true) (h22:Ao q = true) (h23:AJ q (λi=>(Ao (ln i))) = true) (h0:ieq (B6 a n g m x t k p r q ln (λi i_1=>(co i i_1))) 0 = true) (hp0:p0 (body27 (onP 0 p0 (en27e a n g m x t k p r q ln co b c y) L)) (st27 a n g m x t k p r q ln co 0 0 (λ_=>.und) (Ani a n g m x t k p r q ln co )) = true):(Au (Ah tab ⟨Ak X7,(onP 0 p0 (en27e a n g m x t k p r q ln co b c y) L),Gl⟩ Tryz.f45 [.agg (shL a n g m x t k p r q ln co)] [])).sem = some ((.tup [(.ref 0),(iV 0)]),[(.row 3 1 c y)]):=by
 exact Aa (ks:=[kL n,kL m,kL p,kn h17,kn h18,kA (kn h19) (kA (kn h20) (kA (kn h21) (kA (kn h22) (kn h23)))),kN (kn h0),kn hp0]) (by kernel_rfl)
theorem run27 (L:LT) (a:Int) (n:Nat) (g:Nat->E6) (m:Nat) (x:Nat->Ev5) (t k:Int) (p:Nat) (r:Nat->Int) (q:Nat) (ln:Nat->Nat) (co:Nat->Nat->Int) (h8:q * 8 <= 140737488355328):∀ (e b:Nat) (j:Nat->V) (u:Nat),q = b+e->e < u ->
  (AA (body27 L) (lp27 a n g m x t k p r q ln co) u (st27 a n g m x t k p r q ln co b (Aj (λ_=>true) b) (D9 (λ_=>true) (λi=>ofNat (ln i)) b) j)).sem = some (en27e a n g m x t k p r q ln co q (Aj (λ_=>true) q) (D9 (λ_=>true) (λi=>ofNat (ln i)) q))
 | 0,b,j,u+1,h,_=>by
  have:q = b:=by omega
  subst this
  exact Ab (r27e L a n g m x t k p r q ln co q _ _ j (A9 (Nat.le_refl _)))
 | e+1,b,j,u+1,h,h2=>by
  have hl:b < q:=by omega
  have hcl:=AV (λ_=>true) b
  have next:=run27 L a n g m x t k p r q ln co h8 e (b+1) (λ_=>.und) u (by omega) (by omega)
  cases hp:(λ_=>true) b with
  | true =>
   rw [Ab (AmA L a n g m x t k p r q ln co b (Aj (λ_=>true) b) (D9 (λ_=>true) (λi=>ofNat (ln i)) b) j (ofNat_lt hl) (AE b) (BM (by omega))),Aq,An hl (by omega)]
   rw [QR hp,Bi hp] at next
   exact next
  | false=>cases hp
theorem p27:A6 Tryz.prog Gl 45 AaF:=by
 refine Av AI mixed Tryz.func45 (by kernel_rfl) (by kernel_rfl) λvs v h' h=>?_
 unfold AaF at h
 split at h
 ·rename_i v1
  obtain ⟨s,a1,h⟩:=apS_some h
  obtain ⟨hf,h⟩:=Ad h
  obtain ⟨h8,h⟩:=Ad h
  obtain ⟨hn,h⟩:=Ad h
  obtain ⟨a,n,g,m,x,t,k,p,r,q,C⟩:=s
  have hA:Bm [v1] [.agg [iV a,.sl 6 n (λi=>eV (g i)),.sl 5 m (λi=>evV (x i)),iV t,iV k,.sl 1 p (λi=>iV (r i)),.sl 1 q (λu=>.sl 1 (C u).1 (λi=>iV ((C u).2 i)))]]:=λS w cs hv=>by
   obtain ⟨c,l,rfl,q1,q2⟩:=hv
   exact ⟨c,_,rfl,a1 S w c q1,q2⟩
  have hn:Ao n = true ∧ Ao m = true ∧ Ao p = true ∧ Ao q = true ∧ (AJ q λi=>Ao (C i).1) = true:=by simpa [Cm,Al] using hn
  obtain ⟨n1,n2,n3,n4,n5⟩:=hn
  have Fh:∀ (q:Nat) (ln:Nat->Nat),(AJ q λi=>AJ (ln i) λ_=>true) = true:=λ_ _=>A4.2 λ_ _=>A4.2 λ_ _=>rfl
  obtain ⟨ln,co,hC⟩:∃ (ln:Nat->Nat) (co:Nat->Nat->Int),C = λu=>(ln u,co u):=⟨λu=>(C u).1,λu=>(C u).2,rfl⟩
  subst hC
  have hx:=AK Ac4 [(0,lp27 a n g m x t k p r q ln co)] (G:=Gl)
  have hL:=AF [(0,lp27 a n g m x t k p r q ln co)]
  cases hs:CX ⟨a,n,g,m,x,t,k,p,r,q,λu=>(ln u,co u)⟩ with
  | false =>
   rw [hs] at h
   have:=Ac h
   simp only [noI,Prod.mk.injEq] at this
   obtain ⟨rfl,rfl⟩:=this
   have hc:ieq (B6 a n g m x t k p r q ln co) 0 = false:=by unfold B6; rw [hs]; rfl
   have hv:B6 a n g m x t k p r q ln co = 70:=by unfold B6; rw [hs]; rfl
   refine ⟨_,AN Gl X7 [(0,lp27 a n g m x t k p r q ln co)],_,hA,rfl,hx.1,hx.2,?_,A0.refl _⟩
   have hw:=Aml (AP [(0,lp27 a n g m x t k p r q ln co)]) a n g m x t k p r q ln co (Fh _ _) hf n1 n2 n3 n4 n5 hc
   rw [hv] at hw
   exact hw
  | true =>
   rw [hs] at h
   have hc:ieq (B6 a n g m x t k p r q ln co) 0 = true:=by unfold B6; rw [hs]; rfl
   have:=Ac h
   simp only [noI,Prod.mk.injEq] at this
   obtain ⟨rfl,rfl⟩:=this
   have h8':q * 8 <= 140737488355328:=of_decide_eq_true h8
   have hrun:=λL j=>run27 L a n g m x t k p r q ln co h8' q 0 j (q+1) (by omega) (by omega)
   refine ⟨_,AN Gl X7 [(0,lp27 a n g m x t k p r q ln co)],_,hA,rfl,hx.1,hx.2,A1 (Ar hL hL) _ (Amk _ _ a n g m x t k p r q ln co q (Aj (λ_=>true) q) (D9 (λ_=>true) (λi=>ofNat (ln i)) q) (Fh _ _) hf n1 n2 n3 n4 n5 hc (Ai (hrun _ _))),?_⟩
   rw [KR]
   exact A0.one λi hi=>(XS (λi=>ofNat (ln i)) i hi).symm
 ·cases h
noncomputable def X6:List (Nat × (List V->T (V × List Blk))):=(40,KU) :: []
theorem Ac3:A8 Tryz.prog Gl X6:=.cons Adc .nil
def Rl (_:Int) (_:Nat) (_:Nat->E6) (_:Nat) (_:Nat->Ev5) (_ _:Int) (_:Nat) (_:Nat->Int) (q:Nat) (_:Nat->Nat) (_:Nat->Nat->Int):Lp:=⟨(bmK 30 0 [5,14,15,16]),3,bmK 30 0 [5],3,q+1⟩
def Zu (a:Int) (n:Nat) (g:Nat->E6) (m:Nat) (x:Nat->Ev5) (t k:Int) (p:Nat) (r:Nat->Int) (q:Nat) (ln:Nat->Nat) (co:Nat->Nat->Int) (b c:Nat) (y:Nat->V) (j:Nat->V):St:=⟨(jsV 30 0 j [(5,.ref 2),(14,.sl 1 q (λu=>.sl 1 (ln u) (λi=>iV (co u i)))),(15,nV q),(16,nV b)]),[.cells (shL a n g m x t k p r q ln co),r3Z,.row 3 1 c y]⟩
def Abu (a:Int) (n:Nat) (g:Nat->E6) (m:Nat) (x:Nat->Ev5) (t k:Int) (p:Nat) (r:Nat->Int) (q:Nat) (ln:Nat->Nat) (co:Nat->Nat->Int) (_ c:Nat) (y:Nat->V):Ex × St:=(.ex 0,⟨(jsV 30 0 (λ_=>.und) [(5,.ref 2)]),[.cells (shL a n g m x t k p r q ln co),r3Z,.row 3 1 c y]⟩)
noncomputable def OF (L:LT):St->T (Ex × St):=λst=>AD tab ⟨Ak X6,L,Gl⟩ (As Tryz.f44 0) 0 st
section
variable (L:LT) (a:Int) (n:Nat) (g:Nat->E6) (m:Nat) (x:Nat->Ev5) (t k:Int) (p:Nat) (r:Nat->Int) (q:Nat) (ln:Nat->Nat) (co:Nat->Nat->Int) (b c:Nat) (y:Nat->V)  (j:Nat->V)
include L a n g m x t k p r q ln co b c y j
theorem Am9 (h0:ilt (ofNat b) (ofNat q) = false):Ag (OF L) (Rl a n g m x t k p r q ln co) (Zu a n g m x t k p r q ln co b c y j) = some ((.ex 0),⟨(jsV 30 0 (λ_=>.und) [(5,(.ref 2))]),[(.cells (shL a n g m x t k p r q ln co)),r3Z,(.row 3 1 c y)]⟩):=by
 exact Aa (ks:=[kn h0]) (by kernel_rfl)
theorem Am7 (h0:ilt (ofNat b) (ofNat q) = true) (h18:ile 0 (ofNat b) = true) (h1:ieq (ofNat (ln b)) 2 = true) (h19:Bx c 1 8 = true):Ag (OF L) (Rl a n g m x t k p r q ln co) (Zu a n g m x t k p r q ln co b c y j) = some (.nm,⟨(jsV 30 0 (λ_=>.und) [(5,(.ref 2)),(14,(.sl 1 q (λu=>(.sl 1 (ln u) (λi=>(iV (co u i))))))),(15,(nV q)),(16,(iV (wr .i64 (Af (ofNat b) 1))))]),[(.cells (shL a n g m x t k p r q ln co)),r3Z,(.row 3 1 (Bd c 1) (A2 c y (nV b)))]⟩):=by
 exact Aa (ks:=[kn h0,kA (kn h18) (kn h0),kn h1,kn h19]) (by kernel_rfl)
theorem Am8 (h0:ilt (ofNat b) (ofNat q) = true) (h18:ile 0 (ofNat b) = true) (h1:ieq (ofNat (ln b)) 2 = false):Ag (OF L) (Rl a n g m x t k p r q ln co) (Zu a n g m x t k p r q ln co b c y j) = some (.nm,⟨(jsV 30 0 (λ_=>.und) [(5,(.ref 2)),(14,(.sl 1 q (λu=>(.sl 1 (ln u) (λi=>(iV (co u i))))))),(15,(nV q)),(16,(iV (wr .i64 (Af (ofNat b) 1))))]),[(.cells (shL a n g m x t k p r q ln co)),r3Z,(.row 3 1 c y)]⟩):=by
 exact Aa (ks:=[kn h0,kA (kn h18) (kn h0),kn h1]) (by kernel_rfl)
end
def Anh (a:Int) (n:Nat) (g:Nat->E6) (m:Nat) (x:Nat->Ev5) (t k:Int) (p:Nat) (r:Nat->Int) (q:Nat) (ln:Nat->Nat) (co:Nat->Nat->Int) :Nat->V:=lkV A7 [(0,(.agg (shL a n g m x t k p r q ln co))),(1,(.ptr 0 0)),(2,(.ref 1)),(3,(iV 0)),(4,(iV (B6 a n g m x t k p r q ln (λi i_1=>co i i_1)))),(8,(.agg (shL a n g m x t k p r q ln co))),(9,(iV (B6 a n g m x t k p r q ln (λi i_1=>co i i_1)))),(10,(iV (B6 a n g m x t k p r q ln (λi i_1=>co i i_1)))),(11,(bV (AG (ieq (B6 a n g m x t k p r q ln (λi i_1=>co i i_1)) 0)))),(13,(.ptr 0 6))]
theorem Amj (L:LT) (a:Int) (n:Nat) (g:Nat->E6) (m:Nat) (x:Nat->Ev5) (t k:Int) (p:Nat) (r:Nat->Int) (q:Nat) (ln:Nat->Nat) (co:Nat->Nat->Int) (h17:AJ q (λi=>(AJ (ln i) (λ_=>true))) = true) (h18:Be n = true) (h19:Ao n = true) (h20:Ao m = true) (h21:Ao p = true) (h22:Ao q = true) (h23:AJ q (λi=>(Ao (ln i))) = true) (h0:ieq (B6 a n g m x t k p r q ln (λi i_1=>(co i i_1))) 0 = false):(Au (Ah tab ⟨Ak X6,L,Gl⟩ Tryz.f44 [.agg (shL a n g m x t k p r q ln co)] [])).sem = some ((.tup [(.ref 0),(iV (B6 a n g m x t k p r q ln (λi i_1=>(co i i_1))))]),[r3Z]):=by
 exact Aa (ks:=[kL n,kL m,kL p,kn h17,kn h18,kA (kn h19) (kA (kn h20) (kA (kn h21) (kA (kn h22) (kn h23)))),kN (kn h0)]) (by kernel_rfl)
theorem Ami (L:LT) (p0:PT) (a:Int) (n:Nat) (g:Nat->E6) (m:Nat) (x:Nat->Ev5) (t k:Int) (p:Nat) (r:Nat->Int) (q:Nat) (ln:Nat->Nat) (co:Nat->Nat->Int) (b c:Nat) (y:Nat->V) (h17:AJ q (λi=>(AJ (ln i) (λ_=>true))) = true) (h18:Be n = true) (h19:Ao n = true) (h20:Ao m = true) (h21:Ao p = true) (h22:Ao q = true) (h23:AJ q (λi=>(Ao (ln i))) = true) (h0:ieq (B6 a n g m x t k p r q ln (λi i_1=>(co i i_1))) 0 = true) (hp0:p0 (OF (onP 0 p0 (Abu a n g m x t k p r q ln co b c y) L)) (Zu a n g m x t k p r q ln co 0 0 (λ_=>.und) (Anh a n g m x t k p r q ln co )) = true):(Au (Ah tab ⟨Ak X6,(onP 0 p0 (Abu a n g m x t k p r q ln co b c y) L),Gl⟩ Tryz.f44 [.agg (shL a n g m x t k p r q ln co)] [])).sem = some ((.tup [(.ref 0),(iV 0)]),[(.row 3 1 c y)]):=by
 exact Aa (ks:=[kL n,kL m,kL p,kn h17,kn h18,kA (kn h19) (kA (kn h20) (kA (kn h21) (kA (kn h22) (kn h23)))),kN (kn h0),kn hp0]) (by kernel_rfl)
theorem Aex (L:LT) (a:Int) (n:Nat) (g:Nat->E6) (m:Nat) (x:Nat->Ev5) (t k:Int) (p:Nat) (r:Nat->Int) (q:Nat) (ln:Nat->Nat) (co:Nat->Nat->Int) (h8:q * 8 <= 140737488355328):∀ (e b:Nat) (j:Nat->V) (u:Nat),q = b+e->e < u ->
  (AA (OF L) (Rl a n g m x t k p r q ln co) u (Zu a n g m x t k p r q ln co b (Aj (λi=>ieq (ofNat (ln i)) 2) b) (D9 (λi=>ieq (ofNat (ln i)) 2) (λi=>ofNat i) b) j)).sem = some (Abu a n g m x t k p r q ln co q (Aj (λi=>ieq (ofNat (ln i)) 2) q) (D9 (λi=>ieq (ofNat (ln i)) 2) (λi=>ofNat i) q))
 | 0,b,j,u+1,h,_=>by
  have:q = b:=by omega
  subst this
  exact Ab (Am9 L a n g m x t k p r q ln co q _ _ j (A9 (Nat.le_refl _)))
 | e+1,b,j,u+1,h,h2=>by
  have hl:b < q:=by omega
  have hcl:=AV (λi=>ieq (ofNat (ln i)) 2) b
  have next:=Aex L a n g m x t k p r q ln co h8 e (b+1) (λ_=>.und) u (by omega) (by omega)
  cases hp:(λi=>ieq (ofNat (ln i)) 2) b with
  | true =>
   rw [Ab (Am7 L a n g m x t k p r q ln co b (Aj (λi=>ieq (ofNat (ln i)) 2) b) (D9 (λi=>ieq (ofNat (ln i)) 2) (λi=>ofNat i) b) j (ofNat_lt hl) (AE b) hp (BM (by omega))),Aq,An hl (by omega)]
   rw [QR hp,Bi hp] at next
   exact next
  | false=>
   rw [Ab (Am8 L a n g m x t k p r q ln co b (Aj (λi=>ieq (ofNat (ln i)) 2) b) (D9 (λi=>ieq (ofNat (ln i)) 2) (λi=>ofNat i) b) j (ofNat_lt hl) (AE b) hp),Aq,An hl (by omega)]
   rw [W4 hp,B5 hp] at next
   exact next
theorem p34:A6 Tryz.prog Gl 44 VP:=by
 refine Av AI mixed Tryz.func44 (by kernel_rfl) (by kernel_rfl) λvs v h' h=>?_
 unfold VP at h
 split at h
 ·rename_i v1
  obtain ⟨s,a1,h⟩:=apS_some h
  obtain ⟨hf,h⟩:=Ad h
  obtain ⟨h8,h⟩:=Ad h
  obtain ⟨hn,h⟩:=Ad h
  obtain ⟨a,n,g,m,x,t,k,p,r,q,C⟩:=s
  have hA:Bm [v1] [.agg [iV a,.sl 6 n (λi=>eV (g i)),.sl 5 m (λi=>evV (x i)),iV t,iV k,.sl 1 p (λi=>iV (r i)),.sl 1 q (λu=>.sl 1 (C u).1 (λi=>iV ((C u).2 i)))]]:=λS w cs hv=>by
   obtain ⟨c,l,rfl,q1,q2⟩:=hv
   exact ⟨c,_,rfl,a1 S w c q1,q2⟩
  have hn:Ao n = true ∧ Ao m = true ∧ Ao p = true ∧ Ao q = true ∧ (AJ q λi=>Ao (C i).1) = true:=by simpa [Cm,Al] using hn
  obtain ⟨n1,n2,n3,n4,n5⟩:=hn
  have Fh:∀ (q:Nat) (ln:Nat->Nat),(AJ q λi=>AJ (ln i) λ_=>true) = true:=λ_ _=>A4.2 λ_ _=>A4.2 λ_ _=>rfl
  obtain ⟨ln,co,hC⟩:∃ (ln:Nat->Nat) (co:Nat->Nat->Int),C = λu=>(ln u,co u):=⟨λu=>(C u).1,λu=>(C u).2,rfl⟩
  subst hC
  have hx:=AK Ac3 [(0,Rl a n g m x t k p r q ln co)] (G:=Gl)
  have hL:=AF [(0,Rl a n g m x t k p r q ln co)]
  cases hs:CX ⟨a,n,g,m,x,t,k,p,r,q,λu=>(ln u,co u)⟩ with
  | false =>
   rw [hs] at h
   have:=Ac h
   simp only [noI,Prod.mk.injEq] at this
   obtain ⟨rfl,rfl⟩:=this
   have hc:ieq (B6 a n g m x t k p r q ln co) 0 = false:=by unfold B6; rw [hs]; rfl
   have hv:B6 a n g m x t k p r q ln co = 70:=by unfold B6; rw [hs]; rfl
   refine ⟨_,AN Gl X6 [(0,Rl a n g m x t k p r q ln co)],_,hA,rfl,hx.1,hx.2,?_,A0.refl _⟩
   have hw:=Amj (AP [(0,Rl a n g m x t k p r q ln co)]) a n g m x t k p r q ln co (Fh _ _) hf n1 n2 n3 n4 n5 hc
   rw [hv] at hw
   exact hw
  | true =>
   rw [hs] at h
   have hc:ieq (B6 a n g m x t k p r q ln co) 0 = true:=by unfold B6; rw [hs]; rfl
   have:=Ac h
   simp only [noI,Prod.mk.injEq] at this
   obtain ⟨rfl,rfl⟩:=this
   have h8':q * 8 <= 140737488355328:=of_decide_eq_true h8
   have hrun:=λL j=>Aex L a n g m x t k p r q ln co h8' q 0 j (q+1) (by omega) (by omega)
   refine ⟨_,AN Gl X6 [(0,Rl a n g m x t k p r q ln co)],_,hA,rfl,hx.1,hx.2,A1 (Ar hL hL) _ (Ami _ _ a n g m x t k p r q ln co q (Aj (λi=>ieq (ofNat (ln i)) 2) q) (D9 (λi=>ieq (ofNat (ln i)) 2) (λi=>ofNat i) q) (Fh _ _) hf n1 n2 n3 n4 n5 hc (Ai (hrun _ _))),?_⟩
   exact A0.one λi hi=>(SB _ _ i hi).symm
 ·cases h
end Go.Proofs.YthlojajaenfidaaGreatDoor.Sh
