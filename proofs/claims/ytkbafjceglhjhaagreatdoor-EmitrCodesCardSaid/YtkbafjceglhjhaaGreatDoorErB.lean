/-
  Layer 12: the threads' registers (emitr.planned). No conditions.
-/
import Derived.Test.YtkbafjceglhjhaaGreatDoorErA
namespace Go.Proofs.YtkbafjceglhjhaaGreatDoor.Er
open Go.Sy Go Go.Proofs.YtkbafjceglhjhaaGreatDoor.Ed Go.Proofs.YtkbafjceglhjhaaGreatDoor.Sh
open Int (ofNat)
set_option maxRecDepth 100000
set_option maxHeartbeats 1000000
def DO (l:List Int) (k:Nat):Int:=l.getD k 0
def Bm (l:List Int):Nat:=l.length
def Hp (l:List Int):Nat->V:=λk=>iV (DO l k)
theorem Qp (l:List Int) (x:Int):AG (Bm l) (Hp l) (iV x)=Hp (l++[x]):=by
 funext k;rw [Bu];unfold Hp DO Bm;cases hk:Nat.beq k l.length with
 | true =>have hk:=Nat.eq_of_beq_eq_true hk;subst hk;simp
 | false =>
  have hk:=Nat.ne_of_beq_eq_false hk;simp only [cond_false];simp only [List.getD_eq_getElem?_getD,List.getElem?_append];split
  ·rfl
  ·rename_i h
   rw [List.getElem?_eq_none (by omega),List.getElem?_eq_none (by simp; omega)]
def upL {α:Type} (C:Nat->α) (u:Nat) (x:α):Nat->α:=λk=>bif Nat.beq k u then x else C k
theorem Vi {α:Type} (f:α->Nat) (C:Nat->α) (u:Nat) (x:α):Db (λk=>f (C k)) u (f x)=λk=>f (upL C u x k):=by
 funext k;unfold Db upL;show (bif Nat.beq k u then _ else _)=_;cases Nat.beq k u <;> rfl
theorem Vj {α:Type} (f:α->Nat->V) (C:Nat->α) (u:Nat) (x:α):CN (λk=>f (C k)) u (f x)=λk=>f (upL C u x k):=by
 funext k j;unfold CN upL;rw [ER];show (bif Nat.beq k u then _ else _)=_;cases Nat.beq k u <;> rfl
theorem NA (u:Nat):Cs (Cs (λ_=>true) u false) u true=λ_=>true:=by
 funext k;unfold Cs sel;show (bif Nat.beq k u then _ else (bif Nat.beq k u then _ else _))=_;cases Nat.beq k u <;> rfl
section
variable (s:Sh7)
def locL:Nat->Nat->List Int
 | 0,_=>[]
 | m+1,u=>bif Nat.beq u (toN (s.X m).th) && ieq (F7 (Bm (locL m u)) (DO (locL m u)) (s.X m).loc) 0 then locL m u++[(s.X m).loc] else locL m u
def isT (u k:Nat):Bool:=Nat.beq u (toN (s.X k).th)
def isR (k:Nat):Bool:=ieq (s.X k).dir 1
def lvF:Nat->Nat->Bool
 | 0,_=>false
 | m+1,u=>isT s u m || lvF m u
def nrF (m u:Nat):Nat:=Ak (λk=>isT s u k && isR s k) m
def hsX (m u:Nat) (j:Int):Bool:=ile 0 j && (ilt j (ofNat m) && (isT s u (toN j) && isR s (toN j)))
def hsF:Nat->Nat->Int->Bool
 | 0,_,_=>false
 | m+1,u,j=>hsX s (m+1) u j
theorem Ha (m u:Nat) (j:Int):hsF s m u j=hsX s m u j:=by
 cases m with
 | succ m=>rfl
 | zero =>
  show false=_;unfold hsX;by_cases h:0 <= j
  ·rw [show ilt j (ofNat 0)=false from decide_eq_false (by simp; omega),bFA,Bool.and_false]
  ·rw [show ile 0 j=false from decide_eq_false h,bFA]
def gtF (m u:Nat) (j:Int):Int:=bif hsF s m u j then ofNat (7+Bm (locL s s.nx u)+nrF s (toN j) u) else 0
def J7:Blk:=.jag ⟨94,2,toN s.tt,λ_=>.agg [.nilS,.val (.map none)],0,3,1,λ_=>true,λu=>Bm (locL s s.nx u),λu=>Hp (locL s s.nx u),some ⟨1,92,lvF s s.nx,nrF s s.nx,hsF s s.nx,gtF s s.nx⟩⟩
def plB:Bool:=Nat.ble s.nx 16 && (Nat.ble (toN s.tt) 16 && (ieq (ofNat (toN s.tt)) s.tt && Bi s.nx λi=>Aj (ile 0 (s.X i).th) (ilt (s.X i).th (ofNat (toN s.tt)))))
end
section
variable {s:Sh7} (hF:plB s=true) {i:Nat}
include hF
theorem Br:s.nx <= 16∧toN s.tt <= 16∧ofNat (toN s.tt)=s.tt∧∀ i,i<s.nx->Aj (ile 0 (s.X i).th) (ilt (s.X i).th (ofNat (toN s.tt)))=true:=by
 unfold plB at hF;simp only [Bool.and_eq_true] at hF;obtain ⟨h1,h2,h3,h4⟩:=hF;exact ⟨Nat.le_of_ble_eq_true h1,Nat.le_of_ble_eq_true h2,Cj h3,λi hi=>AE.1 h4 i hi⟩
theorem AaC (b:Nat) (hb:b <= 1000):EA b s.tt s.tt=true:=by
 obtain ⟨_,h2,h3,_⟩:=Br hF;rw [<- h3];unfold EA;have e:ofNat (toN s.tt)=((toN s.tt:Nat):Int):=rfl;have hm:((b * toN s.tt:Nat):Int) <= 16000:=by
  have:=Nat.mul_le_mul hb h2;omega
 rw [Int.natCast_mul] at hm;simp only [Bool.and_eq_true,decide_eq_true_eq,e];refine ⟨by omega,by omega,by omega,by omega⟩
theorem Cr (hi:i<s.nx):Aj (ile 0 (s.X i).th) (ilt (s.X i).th (ofNat (toN s.tt)))=true:=(Br hF).2.2.2 i hi
theorem BD (hi:i<s.nx):nlt (toN (s.X i).th) (toN s.tt)=true:=by
 have:=Cr hF hi;simp only [Aj,ile,ilt,Bool.and_eq_true,decide_eq_true_eq] at this;unfold nlt toN;rw [decide_eq_true_eq];have h2:(s.X i).th<((s.tt.toNat:Nat):Int):=this.2;omega
omit hF in
theorem ES (u:Nat):∀ m,Bm (locL s m u) <= m
 | 0=>Nat.le_refl _
 | m+1=>by
  have:=ES u m;rw [locL];cases Nat.beq u (toN (s.X m).th) && ieq (F7 (Bm (locL s m u)) (DO (locL s m u)) (s.X m).loc) 0 with
  | true =>unfold Bm at this ⊢;simp only [cond_true,List.length_append,List.length_singleton];omega
  | false=>exact Nat.le_succ_of_le this
theorem AaB (hi:i<s.nx) (u:Nat):Av (Bm (locL s i u))=true:=decide_eq_true (by
 have:=ES (s:=s) u i;have:=(Br hF).1;omega)
theorem AgP (hi:i<s.nx) (u:Nat):Bp (Bm (locL s i u)) 1 8=true:=decide_eq_true (by
 have:=ES (s:=s) u i;have:=(Br hF).1;omega)
theorem Ms (hi:i<s.nx):wr .i64 (Ah (ofNat i) 1)=ofNat (i+1):=Eu hi (by
 have:=(Br hF).1;omega)
omit hF
variable (s)
def T34 (c:Int) (lv:Nat->Bool) (ln:Nat->Nat) (mm:Nat->Nat->V):St:=⟨jsV 86 0 Ab [(1,.ptr 0 0),(3,.jref 2),(14,.sl 5 s.nx (λi=>evV (s.X i))),(15,iV (ofNat s.nx)),(16,iV c)],[.cells [iV s.arch,.sl 6 s.ne (λi=>eV (s.E i)),.sl 5 s.nx (λi=>evV (s.X i)),iV s.tt,iV s.kk,.sl 1 s.nr (λi=>iV (s.R i)),.sl 1 s.nc (λu=>.sl 1 (s.C u).1 (λi=>iV ((s.C u).2 i)))],.row 94 2 0 Ab,.jag ⟨94,2,toN s.tt,λ_=>.agg [.nilS,.val (.map none)],0,3,1,lv,ln,mm,some ⟨1,92,λ_=>false,λ_=>0,λ_ _=>false,λ_ _=>0⟩⟩]⟩
def S34 (c:Int) (_:Unit):St:=T34 s c (λ_=>true) (λu=>Bm (locL s (toN c) u)) (λu=>Hp (locL s (toN c) u))
def AfG:Ex×St:=(.ex 0,⟨jsV 86 0 Ab [(1,.ptr 0 0),(3,.jref 2)],[.cells [iV s.arch,.sl 6 s.ne (λi=>eV (s.E i)),.sl 5 s.nx (λi=>evV (s.X i)),iV s.tt,iV s.kk,.sl 1 s.nr (λi=>iV (s.R i)),.sl 1 s.nc (λu=>.sl 1 (s.C u).1 (λi=>iV ((s.C u).2 i)))],.row 94 2 0 Ab,.jag ⟨94,2,toN s.tt,λ_=>.agg [.nilS,.val (.map none)],0,3,1,λ_=>true,λu=>Bm (locL s s.nx u),λu=>Hp (locL s s.nx u),some ⟨1,92,λ_=>false,λ_=>0,λ_ _=>false,λ_ _=>0⟩⟩]⟩)
def g34 (i:Nat) (_:Unit):T (Unit ⊕ (Ex×St)):=.br (ieq (F7 (Bm (locL s i (toN (s.X i).th))) (DO (locL s i (toN (s.X i).th))) (s.X i).loc) 0) (.leaf (.inl ())) (.leaf (.inl ()))
variable {s}
include hF
theorem AmM (hi:i<s.nx) (h:ieq (F7 (Bm (locL s i (toN (s.X i).th))) (DO (locL s i (toN (s.X i).th))) (s.X i).loc) 0=true) :
  (Ex.nm,T34 s (wr .i64 (Ah (ofNat i) 1)) (Cs (Cs (λ_=>true) (toN (s.X i).th) false) (toN (s.X i).th) true) (Db (λu=>Bm (locL s i u)) (toN (s.X i).th) (AD (Bm (locL s i (toN (s.X i).th))) 1)) (CN (λu=>Hp (locL s i u)) (toN (s.X i).th) (AG (Bm (locL s i (toN (s.X i).th))) (Hp (locL s i (toN (s.X i).th))) (iV (s.X i).loc))))=(Ex.nm,S34 s (wr .i64 (Ah (ofNat i) 1)) ()):=by
 have e:locL s (i+1)=upL (locL s i) (toN (s.X i).th) (locL s i (toN (s.X i).th)++[(s.X i).loc]):=by
  funext u;rw [locL];unfold upL;cases hu:Nat.beq u (toN (s.X i).th) with
  | true =>rw [Nat.eq_of_beq_eq_true hu,h];rfl
  | false=>rfl
 unfold S34;rw [Ms hF hi,show toN (ofNat (i+1))=i+1 from rfl,e,NA,Qp,Vj Hp,show AD (Bm (locL s i (toN (s.X i).th))) 1=Bm (locL s i (toN (s.X i).th)++[(s.X i).loc]) from by unfold Bm AD; simp,Vi Bm]
theorem AmA (hi:i<s.nx) (h:ieq (F7 (Bm (locL s i (toN (s.X i).th))) (DO (locL s i (toN (s.X i).th))) (s.X i).loc) 0=false) :
  (Ex.nm,T34 s (wr .i64 (Ah (ofNat i) 1)) (λ_=>true) (λu=>Bm (locL s i u)) (λu=>Hp (locL s i u)))=(Ex.nm,S34 s (wr .i64 (Ah (ofNat i) 1)) ()):=by
 have e:locL s (i+1)=locL s i:=by
  funext u;rw [locL];cases hu:Nat.beq u (toN (s.X i).th) with
  | true =>rw [Nat.eq_of_beq_eq_true hu,h];rfl
  | false=>rfl
 unfold S34;rw [Ms hF hi,show toN (ofNat (i+1))=i+1 from rfl,e]
end
noncomputable def Ai3:A9:=(61,Agd)::[]
theorem AdM:Ao Tryz.prog Gl Ai3:=.cons p61 .nil
def And:Lp:=⟨bmK 86 0 [1,3,14,15,16],3,bmK 86 0 [1,3],3,4611686018427387905⟩
noncomputable def B34 (id:Nat) (L:LT):St->T (Ex×St):=λst=>A8 tab ⟨Ax Ai3,L,Gl⟩ (As Tryz.f34 id) id st
theorem r34 (L:LT) {s:Sh7} (hF:plB s=true):(Au (B34 0 L) And 4611686018427387905 (S34 s 0 ())).sem=some (AfG s) :=
 AT (R:=exR) BA (S:=λc a _=>S34 s c a) (j:=λ_=>.und) (g:=g34 s) (fin:=λ_=>AfG s) (e:=AfG s) (n:=s.nx) (by have:=(Br hF).1; omega)
  (λi a j r hi he=>DK.ok (L:=goR (λc a _=>S34 s c a) exR i) (.k (ofNat_lt hi) <| .k (Ae hi) <| .k (Cr hF hi) <| .k (BD hF hi) <| .k eT <| .k (eG [toN s.tt]) <| .k (eL (Bm (locL s i (toN (s.X i).th)))) <| .k (AaB hF hi (toN (s.X i).th)) <| .c (λh1=>.k h1 <| .k (BD hF hi) <| .k eT <| .r 4 (eJ (toN (s.X i).th)) <| .k (BD hF hi) <| .k eT <| .r 5 (eJ (toN (s.X i).th)) <| .k (BD hF hi) <| .k eT <| .k (eJ (toN (s.X i).th)) <| .k eT <| .k (AgP hF hi (toN (s.X i).th)) <| .k (eJ (toN (s.X i).th)) <| .k (BD hF hi) <| .e (AmM hF hi h1)) λh1=>.k h1 <| .e (AmA hF hi h1)) (by kernel_rfl) he) (λa j=>DK.ok (C:=.leaf (AfG s)) (L:=exR) (.k (Az (Nat.le_refl s.nx)) .l) (by kernel_rfl) rfl) (Nat.zero_add _).symm (by have:=(Br hF).1; omega)
  (Co (acc:=λ_=>()) (λi _=>by
   show sel _ _ _=_;cases ieq (F7 (Bm (locL s i (toN (s.X i).th))) (DO (locL s i (toN (s.X i).th))) (s.X i).loc) 0 <;> rfl) _ _ (Nat.zero_add _))
def AaU (q:Mp) (u:Nat):Mp:={ q with live:=Cs q.live u true,len:=Db q.len u 0,hs:=DI q.hs u λ_=>false,get:=DI q.get u λ_=>0 }
def Aev (q:Mp) (u:Nat) (k y:Int):Mp:={ q with len:=Db q.len u (sel (q.hs u k) (q.len u) (AD (q.len u) 1)),hs:=DI q.hs u λx=>sel (ieq x k) true (q.hs u x),get:=DI q.get u (GQ (q.get u) k y) }
def mpS (s:Sh7) (m:Nat):Mp:=⟨1,92,lvF s m,nrF s m,hsF s m,gtF s m⟩
def vR (s:Sh7) (u r:Nat):Int:=wr .i64 (Ah (wr .i64 (Ah 7 (ofNat (Bm (locL s s.nx u))))) (ofNat r))
section
variable (s:Sh7)
def Ah3 (c:Int) (q:Mp):St:=⟨jsV 86 0 Ab [(3,.jref 2),(44,.sl 5 s.nx (λi=>evV (s.X i))),(45,iV (ofNat s.nx)),(46,iV c)],[.cells [iV s.arch,.sl 6 s.ne (λi=>eV (s.E i)),.sl 5 s.nx (λi=>evV (s.X i)),iV s.tt,iV s.kk,.sl 1 s.nr (λi=>iV (s.R i)),.sl 1 s.nc (λu=>.sl 1 (s.C u).1 (λi=>iV ((s.C u).2 i)))],.row 94 2 0 Ab,.jag ⟨94,2,toN s.tt,λ_=>.agg [.nilS,.val (.map none)],0,3,1,λ_=>true,λu=>Bm (locL s s.nx u),λu=>Hp (locL s s.nx u),some q⟩]⟩
def UL (c:Int) (_:Unit):St:=Ah3 s c (mpS s (toN c))
def Sa:Ex×St:=(.ex 2,⟨jsV 86 0 Ab [(3,.jref 2)],[.cells [iV s.arch,.sl 6 s.ne (λi=>eV (s.E i)),.sl 5 s.nx (λi=>evV (s.X i)),iV s.tt,iV s.kk,.sl 1 s.nr (λi=>iV (s.R i)),.sl 1 s.nc (λu=>.sl 1 (s.C u).1 (λi=>iV ((s.C u).2 i)))],.row 94 2 0 Ab,J7 s]⟩)
def Ahm (i:Nat) (_:Unit):T (Unit ⊕ (Ex×St)):=.br (lvF s i (toN (s.X i).th)) (.br (ieq (s.X i).dir 1) (.leaf (.inl ())) (.leaf (.inl ()))) (.br (ieq (s.X i).dir 1) (.leaf (.inl ())) (.leaf (.inl ())))
end
theorem Al1 (u:Nat) (b:Bool):sel (BI u u) true b=true:=by rw [eJ]; rfl
theorem HW (x:Int):DR (wr .i64 x)=true:=by
 unfold DR wr IntKind.wrap;simp [IntKind.bits,IntKind.signed];omega
theorem GL {k:Nat} (h:k <= 4611686018427387904):wr .i64 (ofNat k)=ofNat k:=by
 unfold wr IntKind.wrap;simp [IntKind.bits,IntKind.signed];omega
section
variable {s:Sh7} (hF:plB s=true) {i:Nat}
theorem AaS (s:Sh7) (m u:Nat):nrF s m u <= m:=BK _ _
include hF
theorem AmJ (hi:i<s.nx) (u:Nat):nlt (nrF s i u) 4611686018427387904=true:=decide_eq_true (by
 have:=AaS s i u;have:=(Br hF).1;omega)
theorem Apo (hi:i<s.nx):nlt (sel (BI (toN (s.X i).th) (toN (s.X i).th)) 0 (nrF s i (toN (s.X i).th))) 4611686018427387904=true:=by
 have _:=hF;rw [eJ];rfl
theorem KG (hi:i<s.nx):DR (ofNat i)=true:=by
 have:=(Br hF).1;unfold DR;simp;omega
theorem AoA (hi:i<s.nx) (u:Nat):vR s u (nrF s i u)=ofNat (7+Bm (locL s s.nx u)+nrF s i u):=by
 have h1:=ES (s:=s) u s.nx;have h2:=AaS s i u;have h3:=(Br hF).1;unfold vR;rw [show Ah 7 (ofNat (Bm (locL s s.nx u)))=ofNat (7+Bm (locL s s.nx u)) from rfl,GL (by omega)];exact GL (k:=7+Bm (locL s s.nx u)+nrF s i u) (by omega)
omit hF
theorem AmQ (s:Sh7) (u:Nat):∀ m,lvF s m u=false->∀ k,k<m->isT s u k=false
 | 0,_,k,hk=>absurd hk (Nat.not_lt_zero _)
 | m+1,h,k,hk=>by
  rw [lvF,Bool.or_eq_false_iff] at h;by_cases e:k=m
  ·rw [e]; exact h.1
  ·exact AmQ s u m h.2 k (by omega)
theorem Apt {m u:Nat} (h:lvF s m u=false):nrF s m u=0∧(hsF s m u=λ_=>false)∧gtF s m u=λ_=>0:=by
 have hk:=AmQ s u m h;have h2:hsF s m u=λ_=>false:=by
  funext j;rw [Ha];unfold hsX;cases h1:ile 0 j with
  | false=>rfl
  | true =>
   cases h2:ilt j (ofNat m) with
   | false=>rfl
   | true =>have h1:0 <= j:=of_decide_eq_true h1;have h2:j<(m:Int):=of_decide_eq_true h2;rw [hk (toN j) (by unfold toN; omega)];rfl
 refine ⟨?_,h2,?_⟩
 ·unfold nrF
  rw [Cy (p:=λ_=>false) m λk h=>by rw [hk k h]; rfl];clear hk h h2
  induction m with
  | zero=>rfl
  | succ m ih=>rw [BZ rfl,ih]
 ·funext j
  unfold gtF;rw [h2];rfl
theorem Il {α:Type} (b:Bool) (x y:α):sel b x y=bif b then x else y:=rfl
theorem Aef (f:Nat->Nat) (u:Nat):Db f u (f u)=f:=by
 funext k;unfold Db;rw [Il,BI];cases h:Nat.beq k u with
 | true=>rw [Nat.eq_of_beq_eq_true h]; rfl
 | false=>rfl
theorem WM {α:Type} (f:Nat->Int->α) (u:Nat):DI f u (f u)=f:=by
 funext k j;unfold DI;rw [Il,BI];cases h:Nat.beq k u with
 | true=>rw [Nat.eq_of_beq_eq_true h]; rfl
 | false=>rfl
theorem Xi (s:Sh7) (i:Nat):Cs (lvF s i) (toN (s.X i).th) true=lvF s (i+1):=by
 funext u;unfold Cs;rw [lvF,Il,BI];unfold isT;cases Nat.beq u (toN (s.X i).th) <;> rfl
def mpV (s:Sh7) (i:Nat):Mp:=⟨1,92,lvF s (i+1),nrF s i,hsF s i,gtF s i⟩
theorem AgT (h:lvF s i (toN (s.X i).th)=false):AaU (mpS s i) (toN (s.X i).th)=mpV s i:=by
 obtain ⟨h1,h2,h3⟩:=Apt h;unfold AaU mpV;show Mp.mk 1 92 (Cs (lvF s i) (toN (s.X i).th) true) (Db (nrF s i) (toN (s.X i).th) 0) (DI (hsF s i) (toN (s.X i).th) λ_=>false) (DI (gtF s i) (toN (s.X i).th) λ_=>0)=_;rw [Xi,<- h1,<- h2,<- h3,Aef,WM,WM]
theorem Ahc (h:lvF s i (toN (s.X i).th)=true):mpS s i=mpV s i:=by
 unfold mpS mpV;rw [<- Xi];have:Cs (lvF s i) (toN (s.X i).th) true=lvF s i:=by
  funext k;unfold Cs;rw [Il,BI];cases hk:Nat.beq k (toN (s.X i).th) with
  | true=>rw [Nat.eq_of_beq_eq_true hk,h]; rfl
  | false=>rfl
 rw [this]
theorem An7 (h:ieq (s.X i).dir 1=false):hsF s (i+1)=hsF s i:=by
 funext u j;rw [Ha,Ha];unfold hsX;cases h1:ile 0 j with
 | false=>rfl
 | true =>
  have h1:0 <= j:=of_decide_eq_true h1;by_cases e:j=(i:Int)
  ·subst e
   simp [show isR s (toN (i:Int))=false from h]
  ·have:ilt j (ofNat (i+1))=ilt j (ofNat i):=decide_eq_decide.2 (by
    show j<((i+1:Nat):Int)↔j<(i:Int);omega)
   rw [this]
theorem AmD (h:ieq (s.X i).dir 1=false):mpV s i=mpS s (i+1):=by
 unfold mpV mpS;have h2:nrF s (i+1)=nrF s i:=by
  funext u;unfold nrF;exact BZ (by rw [show isR s i=false from h]; exact Bool.and_false _)
 have h3:gtF s (i+1)=gtF s i:=by
  funext u j;unfold gtF;rw [An7 h]
 rw [h2,An7 h,h3]
theorem An8 (h:ieq (s.X i).dir 1=true) (u:Nat) (j:Int):hsF s (i+1) u j=(Nat.beq u (toN (s.X i).th) && ieq j (ofNat i) || hsF s i u j):=by
 rw [Ha,Ha];unfold hsX;by_cases e:j=(i:Int)
 ·subst e
  rw [show ilt (i:Int) (ofNat i)=false from decide_eq_false (by simp),show ilt (i:Int) (ofNat (i+1))=true from decide_eq_true (by show (i:Int)<((i+1:Nat):Int); omega),
   show ile 0 (i:Int)=true from decide_eq_true (by omega),show isR s (toN (i:Int))=true from h,show ieq (i:Int) (ofNat i)=true from eI _]
  simp [isT,toN]
 ·have h1:ilt j (ofNat (i+1))=ilt j (ofNat i):=decide_eq_decide.2 (by
   show j<((i+1:Nat):Int)↔j<(i:Int);omega)
  rw [h1,show ieq j (ofNat i)=false from by simp [ieq]; exact e,Bool.and_false,bFO]
include hF
theorem AmE (hi:i<s.nx) (h:ieq (s.X i).dir 1=true):Aev (mpV s i) (toN (s.X i).th) (ofNat i) (vR s (toN (s.X i).th) (nrF s i (toN (s.X i).th)))=mpS s (i+1):=by
 unfold Aev mpV mpS;have e0:hsF s i (toN (s.X i).th) (ofNat i)=false:=by
  rw [Ha];unfold hsX;rw [show ilt (ofNat i) (ofNat i)=false from decide_eq_false (by simp),bFA,Bool.and_false]
 congr 1
 ·funext u
  show sel (BI u (toN (s.X i).th)) (sel (hsF s i (toN (s.X i).th) (ofNat i)) _ (AD (nrF s i (toN (s.X i).th)) 1)) (nrF s i u)=nrF s (i+1) u;rw [e0,Il,Il,BI];unfold nrF;cases hu:Nat.beq u (toN (s.X i).th) with
  | true =>rw [BH (by show (isT s u i && isR s i)=true; rw [show isT s u i=true from hu,show isR s i=true from h]; rfl),Nat.eq_of_beq_eq_true hu];rfl
  | false =>rw [BZ (by show (isT s u i && isR s i)=false; rw [show isT s u i=false from hu]; rfl)];rfl
 ·funext u j
  show sel (BI u (toN (s.X i).th)) (sel (ieq j (ofNat i)) true (hsF s i (toN (s.X i).th) j)) (hsF s i u j)=_;rw [An8 h,Il,Il,BI];cases hu:Nat.beq u (toN (s.X i).th) with
  | true=>rw [Nat.eq_of_beq_eq_true hu]; cases ieq j (ofNat i) <;> rfl
  | false=>rfl
 ·funext u j
  show sel (BI u (toN (s.X i).th)) (sel (ieq j (ofNat i)) (vR s (toN (s.X i).th) (nrF s i (toN (s.X i).th))) (gtF s i (toN (s.X i).th) j)) (gtF s i u j)=_;rw [AoA hF hi,Il,Il,BI]
  conv=>rhs; unfold gtF
  rw [An8 h];cases hu:Nat.beq u (toN (s.X i).th) with
  | true =>
   rw [Nat.eq_of_beq_eq_true hu];cases hj:ieq j (ofNat i) with
   | true =>rw [Cj hj];rfl
   | false=>rfl
  | false=>rfl
theorem w34 (hi:i<s.nx) {q:Mp} (h:q=mpS s (i+1)):(Ex.nm,Ah3 s (wr .i64 (Ah (ofNat i) 1)) q)=(Ex.nm,UL s (wr .i64 (Ah (ofNat i) 1)) ()):=by
 unfold UL;rw [Ms hF hi,h];rfl
end
def Abj:Lp:=⟨bmK 86 0 [3,44,45,46],3,bmK 86 0 [3],3,4611686018427387905⟩
theorem Aml (L:LT) {s:Sh7} (hF:plB s=true):(Au (B34 2 L) Abj 4611686018427387905 (UL s 0 ())).sem=some (Sa s) :=
 AT (R:=exR) BA (S:=λc a _=>UL s c a) (j:=λ_=>.und) (g:=Ahm s) (fin:=λ_=>Sa s) (e:=Sa s) (n:=s.nx) (by have:=(Br hF).1; omega)
  (λi a j r hi he=>DK.ok (L:=goR (λc a _=>UL s c a) exR i) (.k (ofNat_lt hi) <| .k (Ae hi) <| .k (Cr hF hi) <| .k (BD hF hi) <| .k eT <| .c (λh1=>.k (eN h1) <| .c (λh2=>.k h2 <| .k (BD hF hi) <| .k eT <| .k (BD hF hi) <| .r 2 eT <| .k (BD hF hi) <| .k eT <| .k (BD hF hi) <| .k h1 <| .k (BD hF hi) <| .k h1 <| .k (AmJ hF hi (toN (s.X i).th)) <| .k (KG hF hi) <| .k (HW (Ah (wr .i64 (Ah 7 (ofNat (Bm (locL s s.nx (toN (s.X i).th)))))) (ofNat (nrF s i (toN (s.X i).th))))) <| .e (w34 hF hi (q:=Aev (mpS s i) (toN (s.X i).th) (ofNat i) (vR s (toN (s.X i).th) (nrF s i (toN (s.X i).th)))) (by rw [Ahc h1]; exact AmE hF hi h2))) λh2=>.k h2 <| .e (w34 hF hi (q:=mpS s i) ((Ahc h1).trans (AmD h2)))) λh1=>.k (eN h1) <| .k (BD hF hi) <| .c (λh3=>.k h3 <| .k (BD hF hi) <| .k eT <| .k (BD hF hi) <| .r 2 eT <| .k (BD hF hi) <| .k eT <| .k (BD hF hi) <| .k (Al1 (toN (s.X i).th) (lvF s i (toN (s.X i).th))) <| .k (BD hF hi) <| .k (Al1 (toN (s.X i).th) (lvF s i (toN (s.X i).th))) <| .k (Apo hF hi) <| .k (KG hF hi) <| .k (HW (Ah (wr .i64 (Ah 7 (ofNat (Bm (locL s s.nx (toN (s.X i).th)))))) (ofNat (sel (BI (toN (s.X i).th) (toN (s.X i).th)) 0 (nrF s i (toN (s.X i).th)))))) <| .e (w34 hF hi (q:=Aev (AaU (mpS s i) (toN (s.X i).th)) (toN (s.X i).th) (ofNat i) (vR s (toN (s.X i).th) ((AaU (mpS s i) (toN (s.X i).th)).len (toN (s.X i).th)))) (by rw [AgT h1]; exact AmE hF hi h3))) λh3=>.k h3 <| .e (w34 hF hi (q:=AaU (mpS s i) (toN (s.X i).th)) ((AgT h1).trans (AmD h3)))) (by kernel_rfl) he) (λa j=>DK.ok (C:=.leaf (Sa s)) (L:=exR) (.k (Az (Nat.le_refl s.nx)) .l) (by kernel_rfl) rfl) (Nat.zero_add _).symm (by have:=(Br hF).1; omega)
  (Co (acc:=λ_=>()) (λi _=>by
   unfold Ahm;cases lvF s i (toN (s.X i).th) <;> cases ieq (s.X i).dir 1 <;> rfl) _ _ (Nat.zero_add _))
def AeO:List (Nat×Lp×List (Nat×(Nat->V))):=[(0,And,[(2,λ_=>iV 0)]),(2,Abj,[])]
def NK (s:Sh7):A3:=.br (plB s) (.leaf (.jref 0,[J7 s])) .fail
theorem p34:An Tryz.prog Gl 34 (shT NK):=I4 Tryz.func34 (by kernel_rfl) (by kernel_rfl) (Γ:=λ_=>cxA Gl Ai3 AeO) (λ_=>rfl) (λ_=>AU AdM AeO)
 λs r h=>DK.of h (.g λhF=>.k (AaC hF 32 (by decide)) <| .a (r34 (Go.Sy.askL AeO) hF) <| .a (Aml (Go.Sy.askL AeO) hF) <| .l) (by kernel_rfl)
end Go.Proofs.YtkbafjceglhjhaaGreatDoor.Er
