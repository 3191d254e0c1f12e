/-
  Layer 12: the threads' registers (emitr.planned). No conditions.
-/
import Derived.Test.YtkbafjceglhjhaaGreatDoorErA
namespace Go.Proofs.YtkbafjceglhjhaaGreatDoor.Er
open Go.Sy Go Go.Proofs.YtkbafjceglhjhaaGreatDoor.Ed Go.Proofs.YtkbafjceglhjhaaGreatDoor.Sh
open Int (ofNat)
set_option maxRecDepth 100000
set_option maxHeartbeats 1000000
def Ew (l:List Int) (k:Nat):Int:=l.getD k 0
def B5 (l:List Int):Nat:=l.length
def OM (l:List Int):Nat->V:=λk=>iV (Ew l k)
theorem ZG (l:List Int) (x:Int):AX (B5 l) (OM l) (iV x)=OM (l++[x]):=by
 funext k;rw [BK];unfold OM Ew B5;cases hk:Nat.beq k l.length with
 | true =>have hk:=Nat.eq_of_beq_eq_true hk;subst hk;simp
 | false =>
  have hk:=Nat.ne_of_beq_eq_false hk;simp only [cond_false];simp only [List.getD_eq_getElem?_getD,List.getElem?_append];split
  ·rfl
  ·rename_i h
   rw [List.getElem?_eq_none (by omega),List.getElem?_eq_none (by simp; omega)]
def upL {α:Type} (C:Nat->α) (u:Nat) (x:α):Nat->α:=λk=>bif Nat.beq k u then x else C k
theorem Abf {α:Type} (f:α->Nat) (C:Nat->α) (u:Nat) (x:α):DJ (λk=>f (C k)) u (f x)=λk=>f (upL C u x k):=by
 funext k;unfold DJ upL;show (bif Nat.beq k u then _ else _)=_;cases Nat.beq k u <;> rfl
theorem Abg {α:Type} (f:α->Nat->V) (C:Nat->α) (u:Nat) (x:α):Eo (λk=>f (C k)) u (f x)=λk=>f (upL C u x k):=by
 funext k j;unfold Eo upL;rw [Ec];show (bif Nat.beq k u then _ else _)=_;cases Nat.beq k u <;> rfl
theorem Uf (u:Nat):CX (CX (λ_=>true) u false) u true=λ_=>true:=by
 funext k;unfold CX sel;show (bif Nat.beq k u then _ else (bif Nat.beq k u then _ else _))=_;cases Nat.beq k u <;> rfl
section
variable (s:Sh7)
def locL:Nat->Nat->List Int
 | 0,_=>[]
 | m+1,u=>bif Nat.beq u (toN (s.X m).th) && ieq (Iz (B5 (locL m u)) (Ew (locL m u)) (s.X m).loc) 0 then locL m u++[(s.X m).loc] else locL m u
def isT (u k:Nat):Bool:=Nat.beq u (toN (s.X k).th)
def isR (k:Nat):Bool:=ieq (s.X k).dir 1
def lvF:Nat->Nat->Bool
 | 0,_=>false
 | m+1,u=>isT s u m || lvF m u
def nrF (m u:Nat):Nat:=Al (λk=>isT s u k && isR s k) m
def hsX (m u:Nat) (j:Int):Bool:=ile 0 j && (ilt j (ofNat m) && (isT s u (toN j) && isR s (toN j)))
def hsF:Nat->Nat->Int->Bool
 | 0,_,_=>false
 | m+1,u,j=>hsX s (m+1) u j
theorem Im (m u:Nat) (j:Int):hsF s m u j=hsX s m u j:=by
 cases m with
 | succ m=>rfl
 | zero =>
  show false=_;unfold hsX;by_cases h:0 <= j
  ·rw [show ilt j (ofNat 0)=false from decide_eq_false (by simp; omega),bFA,Bool.and_false]
  ·rw [show ile 0 j=false from decide_eq_false h,bFA]
def gtF (m u:Nat) (j:Int):Int:=bif hsF s m u j then ofNat (7+B5 (locL s s.nx u)+nrF s (toN j) u) else 0
def Kg:Blk:=.jag ⟨94,2,toN s.tt,λ_=>.agg [.nilS,.val (.map none)],0,3,1,λ_=>true,λu=>B5 (locL s s.nx u),λu=>OM (locL s s.nx u),some ⟨1,92,lvF s s.nx,nrF s s.nx,hsF s s.nx,gtF s s.nx⟩⟩
def plB:Bool:=Nat.ble s.nx 16 && (Nat.ble (toN s.tt) 16 && (ieq (ofNat (toN s.tt)) s.tt && Bo s.nx λi=>Ak (ile 0 (s.X i).th) (ilt (s.X i).th (ofNat (toN s.tt)))))
end
section
variable {s:Sh7} (hF:plB s=true) {i:Nat}
include hF
theorem BO:s.nx <= 16∧toN s.tt <= 16∧ofNat (toN s.tt)=s.tt∧∀ i,i<s.nx->Ak (ile 0 (s.X i).th) (ilt (s.X i).th (ofNat (toN s.tt)))=true:=by
 unfold plB at hF;simp only [Bool.and_eq_true] at hF;obtain ⟨h1,h2,h3,h4⟩:=hF;exact ⟨Nat.le_of_ble_eq_true h1,Nat.le_of_ble_eq_true h2,Cg h3,λi hi=>AO.1 h4 i hi⟩
theorem AhJ (b:Nat) (hb:b <= 1000):EL b s.tt s.tt=true:=by
 obtain ⟨_,h2,h3,_⟩:=BO hF;rw [<- h3];unfold EL;have e:ofNat (toN s.tt)=((toN s.tt:Nat):Int):=rfl;have hm:((b * toN s.tt:Nat):Int) <= 16000:=by
  have:=Nat.mul_le_mul hb h2;omega
 rw [Int.natCast_mul] at hm;simp only [Bool.and_eq_true,decide_eq_true_eq,e];refine ⟨by omega,by omega,by omega,by omega⟩
theorem De (hi:i<s.nx):Ak (ile 0 (s.X i).th) (ilt (s.X i).th (ofNat (toN s.tt)))=true:=(BO hF).2.2.2 i hi
theorem BS (hi:i<s.nx):nlt (toN (s.X i).th) (toN s.tt)=true:=by
 have:=De hF hi;simp only [Ak,ile,ilt,Bool.and_eq_true,decide_eq_true_eq] at this;unfold nlt toN;rw [decide_eq_true_eq];have h2:(s.X i).th<((s.tt.toNat:Nat):Int):=this.2;omega
omit hF in
theorem GV (u:Nat):∀ m,B5 (locL s m u) <= m
 | 0=>Nat.le_refl _
 | m+1=>by
  have:=GV u m;rw [locL];cases Nat.beq u (toN (s.X m).th) && ieq (Iz (B5 (locL s m u)) (Ew (locL s m u)) (s.X m).loc) 0 with
  | true =>unfold B5 at this ⊢;simp only [cond_true,List.length_append,List.length_singleton];omega
  | false=>exact Nat.le_succ_of_le this
theorem AbF (hi:i<s.nx) (u:Nat):Au (B5 (locL s i u))=true:=decide_eq_true (by
 have:=GV (s:=s) u i;have:=(BO hF).1;omega)
theorem AnM (hi:i<s.nx) (u:Nat):C4 (B5 (locL s i u)) 1 8=true:=decide_eq_true (by
 have:=GV (s:=s) u i;have:=(BO hF).1;omega)
theorem Uv (hi:i<s.nx):wr .i64 (Ai (ofNat i) 1)=ofNat (i+1):=CU hi (by
 have:=(BO hF).1;omega)
omit hF
variable (s)
def T34 (c:Int) (lv:Nat->Bool) (ln:Nat->Nat) (mm:Nat->Nat->V):St:=⟨jsV 86 0 Ab [(1,.ptr 0 0),(3,.jref 2),(14,.sl 5 s.nx (λi=>evV (s.X i))),(15,iV (ofNat s.nx)),(16,iV c)],[.cells [iV s.arch,.sl 6 s.ne (λi=>eV (s.E i)),.sl 5 s.nx (λi=>evV (s.X i)),iV s.tt,iV s.kk,.sl 1 s.nr (λi=>iV (s.R i)),.sl 1 s.nc (λu=>.sl 1 (s.C u).1 (λi=>iV ((s.C u).2 i)))],.row 94 2 0 Ab,.jag ⟨94,2,toN s.tt,λ_=>.agg [.nilS,.val (.map none)],0,3,1,lv,ln,mm,some ⟨1,92,λ_=>false,λ_=>0,λ_ _=>false,λ_ _=>0⟩⟩]⟩
def S34 (c:Int) (_:Unit):St:=T34 s c (λ_=>true) (λu=>B5 (locL s (toN c) u)) (λu=>OM (locL s (toN c) u))
def AgB:Ex×St:=(.ex 0,⟨jsV 86 0 Ab [(1,.ptr 0 0),(3,.jref 2)],[.cells [iV s.arch,.sl 6 s.ne (λi=>eV (s.E i)),.sl 5 s.nx (λi=>evV (s.X i)),iV s.tt,iV s.kk,.sl 1 s.nr (λi=>iV (s.R i)),.sl 1 s.nc (λu=>.sl 1 (s.C u).1 (λi=>iV ((s.C u).2 i)))],.row 94 2 0 Ab,.jag ⟨94,2,toN s.tt,λ_=>.agg [.nilS,.val (.map none)],0,3,1,λ_=>true,λu=>B5 (locL s s.nx u),λu=>OM (locL s s.nx u),some ⟨1,92,λ_=>false,λ_=>0,λ_ _=>false,λ_ _=>0⟩⟩]⟩)
def g34 (i:Nat) (_:Unit):T (Unit ⊕ (Ex×St)):=.br (ieq (Iz (B5 (locL s i (toN (s.X i).th))) (Ew (locL s i (toN (s.X i).th))) (s.X i).loc) 0) (.leaf (.inl ())) (.leaf (.inl ()))
variable {s}
include hF
theorem Aod (hi:i<s.nx) (h:ieq (Iz (B5 (locL s i (toN (s.X i).th))) (Ew (locL s i (toN (s.X i).th))) (s.X i).loc) 0=true) :
  (Ex.nm,T34 s (wr .i64 (Ai (ofNat i) 1)) (CX (CX (λ_=>true) (toN (s.X i).th) false) (toN (s.X i).th) true) (DJ (λu=>B5 (locL s i u)) (toN (s.X i).th) (BC (B5 (locL s i (toN (s.X i).th))) 1)) (Eo (λu=>OM (locL s i u)) (toN (s.X i).th) (AX (B5 (locL s i (toN (s.X i).th))) (OM (locL s i (toN (s.X i).th))) (iV (s.X i).loc))))=(Ex.nm,S34 s (wr .i64 (Ai (ofNat i) 1)) ()):=by
 have e:locL s (i+1)=upL (locL s i) (toN (s.X i).th) (locL s i (toN (s.X i).th)++[(s.X i).loc]):=by
  funext u;rw [locL];unfold upL;cases hu:Nat.beq u (toN (s.X i).th) with
  | true =>rw [Nat.eq_of_beq_eq_true hu,h];rfl
  | false=>rfl
 unfold S34;rw [Uv hF hi,show toN (ofNat (i+1))=i+1 from rfl,e,Uf,ZG,Abg OM,show BC (B5 (locL s i (toN (s.X i).th))) 1=B5 (locL s i (toN (s.X i).th)++[(s.X i).loc]) from by unfold B5 BC; simp,Abf B5]
theorem AnQ (hi:i<s.nx) (h:ieq (Iz (B5 (locL s i (toN (s.X i).th))) (Ew (locL s i (toN (s.X i).th))) (s.X i).loc) 0=false) :
  (Ex.nm,T34 s (wr .i64 (Ai (ofNat i) 1)) (λ_=>true) (λu=>B5 (locL s i u)) (λu=>OM (locL s i u)))=(Ex.nm,S34 s (wr .i64 (Ai (ofNat i) 1)) ()):=by
 have e:locL s (i+1)=locL s i:=by
  funext u;rw [locL];cases hu:Nat.beq u (toN (s.X i).th) with
  | true =>rw [Nat.eq_of_beq_eq_true hu,h];rfl
  | false=>rfl
 unfold S34;rw [Uv hF hi,show toN (ofNat (i+1))=i+1 from rfl,e]
end
noncomputable def AjO:AE:=(61,AgY)::[]
theorem AeL:Ar Tryz.prog Gl AjO:=.cons p61 .nil
def Aor:Lp:=⟨bmK 86 0 [1,3,14,15,16],3,bmK 86 0 [1,3],3,4611686018427387905⟩
noncomputable def B34 (id:Nat) (L:LT):St->T (Ex×St):=λst=>AK tab ⟨A2 AjO,L,Gl⟩ (A3 Tryz.f34 id) id st
theorem r34 (L:LT) {s:Sh7} (hF:plB s=true):(A4 (B34 0 L) Aor 4611686018427387905 (S34 s 0 ())).sem=some (AgB s) :=
 AW (R:=exR) BG (S:=λc a _=>S34 s c a) (j:=λ_=>.und) (g:=g34 s) (fin:=λ_=>AgB s) (e:=AgB s) (n:=s.nx) (by have:=(BO hF).1; omega)
  (λi a j r hi he=>DK.ok (L:=goR (λc a _=>S34 s c a) exR i) (.k (ofNat_lt hi) <| .k (Ae hi) <| .k (De hF hi) <| .k (BS hF hi) <| .k eT <| .k (eG [toN s.tt]) <| .k (eL (B5 (locL s i (toN (s.X i).th)))) <| .k (AbF hF hi (toN (s.X i).th)) <| .c (λh1=>.k h1 <| .k (BS hF hi) <| .k eT <| .r 4 (eJ (toN (s.X i).th)) <| .k (BS hF hi) <| .k eT <| .r 5 (eJ (toN (s.X i).th)) <| .k (BS hF hi) <| .k eT <| .k (eJ (toN (s.X i).th)) <| .k eT <| .k (AnM hF hi (toN (s.X i).th)) <| .k (eJ (toN (s.X i).th)) <| .k (BS hF hi) <| .e (Aod hF hi h1)) λh1=>.k h1 <| .e (AnQ hF hi h1)) (by kernel_rfl) he) (λa j=>DK.ok (C:=.leaf (AgB s)) (L:=exR) (.k (Az (Nat.le_refl s.nx)) .l) (by kernel_rfl) rfl) (Nat.zero_add _).symm (by have:=(BO hF).1; omega)
  (Cv (acc:=λ_=>()) (λi _=>by
   show sel _ _ _=_;cases ieq (Iz (B5 (locL s i (toN (s.X i).th))) (Ew (locL s i (toN (s.X i).th))) (s.X i).loc) 0 <;> rfl) _ _ (Nat.zero_add _))
def AbZ (q:Mp) (u:Nat):Mp:={ q with live:=CX q.live u true,len:=DJ q.len u 0,hs:=Ep q.hs u λ_=>false,get:=Ep q.get u λ_=>0 }
def Afs (q:Mp) (u:Nat) (k y:Int):Mp:={ q with len:=DJ q.len u (sel (q.hs u k) (q.len u) (BC (q.len u) 1)),hs:=Ep q.hs u λx=>sel (ieq x k) true (q.hs u x),get:=Ep q.get u (Hl (q.get u) k y) }
def mpS (s:Sh7) (m:Nat):Mp:=⟨1,92,lvF s m,nrF s m,hsF s m,gtF s m⟩
def vR (s:Sh7) (u r:Nat):Int:=wr .i64 (Ai (wr .i64 (Ai 7 (ofNat (B5 (locL s s.nx u))))) (ofNat r))
section
variable (s:Sh7)
def AiD (c:Int) (q:Mp):St:=⟨jsV 86 0 Ab [(3,.jref 2),(44,.sl 5 s.nx (λi=>evV (s.X i))),(45,iV (ofNat s.nx)),(46,iV c)],[.cells [iV s.arch,.sl 6 s.ne (λi=>eV (s.E i)),.sl 5 s.nx (λi=>evV (s.X i)),iV s.tt,iV s.kk,.sl 1 s.nr (λi=>iV (s.R i)),.sl 1 s.nc (λu=>.sl 1 (s.C u).1 (λi=>iV ((s.C u).2 i)))],.row 94 2 0 Ab,.jag ⟨94,2,toN s.tt,λ_=>.agg [.nilS,.val (.map none)],0,3,1,λ_=>true,λu=>B5 (locL s s.nx u),λu=>OM (locL s s.nx u),some q⟩]⟩
def V9 (c:Int) (_:Unit):St:=AiD s c (mpS s (toN c))
def SZ:Ex×St:=(.ex 2,⟨jsV 86 0 Ab [(3,.jref 2)],[.cells [iV s.arch,.sl 6 s.ne (λi=>eV (s.E i)),.sl 5 s.nx (λi=>evV (s.X i)),iV s.tt,iV s.kk,.sl 1 s.nr (λi=>iV (s.R i)),.sl 1 s.nc (λu=>.sl 1 (s.C u).1 (λi=>iV ((s.C u).2 i)))],.row 94 2 0 Ab,Kg s]⟩)
def Aiv (i:Nat) (_:Unit):T (Unit ⊕ (Ex×St)):=.br (lvF s i (toN (s.X i).th)) (.br (ieq (s.X i).dir 1) (.leaf (.inl ())) (.leaf (.inl ()))) (.br (ieq (s.X i).dir 1) (.leaf (.inl ())) (.leaf (.inl ())))
end
theorem AmT (u:Nat) (b:Bool):sel (BY u u) true b=true:=by rw [eJ]; rfl
theorem Ir (x:Int):Bn (wr .i64 x)=true:=by
 unfold Bn wr IntKind.wrap;simp [IntKind.bits,IntKind.signed];omega
theorem IB {k:Nat} (h:k <= 4611686018427387904):wr .i64 (ofNat k)=ofNat k:=by
 unfold wr IntKind.wrap;simp [IntKind.bits,IntKind.signed];omega
section
variable {s:Sh7} (hF:plB s=true) {i:Nat}
theorem AhM (s:Sh7) (m u:Nat):nrF s m u <= m:=BI _ _
include hF
theorem Aob (hi:i<s.nx) (u:Nat):nlt (nrF s i u) 4611686018427387904=true:=decide_eq_true (by
 have:=AhM s i u;have:=(BO hF).1;omega)
theorem Aq1 (hi:i<s.nx):nlt (sel (BY (toN (s.X i).th) (toN (s.X i).th)) 0 (nrF s i (toN (s.X i).th))) 4611686018427387904=true:=by
 have _:=hF;rw [eJ];rfl
theorem L1 (hi:i<s.nx):Bn (ofNat i)=true:=by
 have:=(BO hF).1;unfold Bn;simp;omega
theorem ApU (hi:i<s.nx) (u:Nat):vR s u (nrF s i u)=ofNat (7+B5 (locL s s.nx u)+nrF s i u):=by
 have h1:=GV (s:=s) u s.nx;have h2:=AhM s i u;have h3:=(BO hF).1;unfold vR;rw [show Ai 7 (ofNat (B5 (locL s s.nx u)))=ofNat (7+B5 (locL s s.nx u)) from rfl,IB (by omega)];exact IB (k:=7+B5 (locL s s.nx u)+nrF s i u) (by omega)
omit hF
theorem Aoh (s:Sh7) (u:Nat):∀ m,lvF s m u=false->∀ k,k<m->isT s u k=false
 | 0,_,k,hk=>absurd hk (Nat.not_lt_zero _)
 | m+1,h,k,hk=>by
  rw [lvF,Bool.or_eq_false_iff] at h;by_cases e:k=m
  ·rw [e]; exact h.1
  ·exact Aoh s u m h.2 k (by omega)
theorem Aq7 {m u:Nat} (h:lvF s m u=false):nrF s m u=0∧(hsF s m u=λ_=>false)∧gtF s m u=λ_=>0:=by
 have hk:=Aoh s u m h;have h2:hsF s m u=λ_=>false:=by
  funext j;rw [Im];unfold hsX;cases h1:ile 0 j with
  | false=>rfl
  | true =>
   cases h2:ilt j (ofNat m) with
   | false=>rfl
   | true =>have h1:0 <= j:=of_decide_eq_true h1;have h2:j<(m:Int):=of_decide_eq_true h2;rw [hk (toN j) (by unfold toN; omega)];rfl
 refine ⟨?_,h2,?_⟩
 ·unfold nrF
  rw [CE (p:=λ_=>false) m λk h=>by rw [hk k h]; rfl];clear hk h h2
  induction m with
  | zero=>rfl
  | succ m ih=>rw [BL rfl,ih]
 ·funext j
  unfold gtF;rw [h2];rfl
theorem Ke {α:Type} (b:Bool) (x y:α):sel b x y=bif b then x else y:=rfl
theorem Afa (f:Nat->Nat) (u:Nat):DJ f u (f u)=f:=by
 funext k;unfold DJ;rw [Ke,BY];cases h:Nat.beq k u with
 | true=>rw [Nat.eq_of_beq_eq_true h]; rfl
 | false=>rfl
theorem XB {α:Type} (f:Nat->Int->α) (u:Nat):Ep f u (f u)=f:=by
 funext k j;unfold Ep;rw [Ke,BY];cases h:Nat.beq k u with
 | true=>rw [Nat.eq_of_beq_eq_true h]; rfl
 | false=>rfl
theorem XY (s:Sh7) (i:Nat):CX (lvF s i) (toN (s.X i).th) true=lvF s (i+1):=by
 funext u;unfold CX;rw [lvF,Ke,BY];unfold isT;cases Nat.beq u (toN (s.X i).th) <;> rfl
def mpV (s:Sh7) (i:Nat):Mp:=⟨1,92,lvF s (i+1),nrF s i,hsF s i,gtF s i⟩
theorem AhR (h:lvF s i (toN (s.X i).th)=false):AbZ (mpS s i) (toN (s.X i).th)=mpV s i:=by
 obtain ⟨h1,h2,h3⟩:=Aq7 h;unfold AbZ mpV;show Mp.mk 1 92 (CX (lvF s i) (toN (s.X i).th) true) (DJ (nrF s i) (toN (s.X i).th) 0) (Ep (hsF s i) (toN (s.X i).th) λ_=>false) (Ep (gtF s i) (toN (s.X i).th) λ_=>0)=_;rw [XY,<- h1,<- h2,<- h3,Afa,XB,XB]
theorem Aif (h:lvF s i (toN (s.X i).th)=true):mpS s i=mpV s i:=by
 unfold mpS mpV;rw [<- XY];have:CX (lvF s i) (toN (s.X i).th) true=lvF s i:=by
  funext k;unfold CX;rw [Ke,BY];cases hk:Nat.beq k (toN (s.X i).th) with
  | true=>rw [Nat.eq_of_beq_eq_true hk,h]; rfl
  | false=>rfl
 rw [this]
theorem AoF (h:ieq (s.X i).dir 1=false):hsF s (i+1)=hsF s i:=by
 funext u j;rw [Im,Im];unfold hsX;cases h1:ile 0 j with
 | false=>rfl
 | true =>
  have h1:0 <= j:=of_decide_eq_true h1;by_cases e:j=(i:Int)
  ·subst e
   simp [show isR s (toN (i:Int))=false from h]
  ·have:ilt j (ofNat (i+1))=ilt j (ofNat i):=decide_eq_decide.2 (by
    show j<((i+1:Nat):Int)↔j<(i:Int);omega)
   rw [this]
theorem AnT (h:ieq (s.X i).dir 1=false):mpV s i=mpS s (i+1):=by
 unfold mpV mpS;have h2:nrF s (i+1)=nrF s i:=by
  funext u;unfold nrF;exact BL (by rw [show isR s i=false from h]; exact Bool.and_false _)
 have h3:gtF s (i+1)=gtF s i:=by
  funext u j;unfold gtF;rw [AoF h]
 rw [h2,AoF h,h3]
theorem AoG (h:ieq (s.X i).dir 1=true) (u:Nat) (j:Int):hsF s (i+1) u j=(Nat.beq u (toN (s.X i).th) && ieq j (ofNat i) || hsF s i u j):=by
 rw [Im,Im];unfold hsX;by_cases e:j=(i:Int)
 ·subst e
  rw [show ilt (i:Int) (ofNat i)=false from decide_eq_false (by simp),show ilt (i:Int) (ofNat (i+1))=true from decide_eq_true (by show (i:Int)<((i+1:Nat):Int); omega),
   show ile 0 (i:Int)=true from decide_eq_true (by omega),show isR s (toN (i:Int))=true from h,show ieq (i:Int) (ofNat i)=true from eI _]
  simp [isT,toN]
 ·have h1:ilt j (ofNat (i+1))=ilt j (ofNat i):=decide_eq_decide.2 (by
   show j<((i+1:Nat):Int)↔j<(i:Int);omega)
  rw [h1,show ieq j (ofNat i)=false from by simp [ieq]; exact e,Bool.and_false,bFO]
include hF
theorem AnU (hi:i<s.nx) (h:ieq (s.X i).dir 1=true):Afs (mpV s i) (toN (s.X i).th) (ofNat i) (vR s (toN (s.X i).th) (nrF s i (toN (s.X i).th)))=mpS s (i+1):=by
 unfold Afs mpV mpS;have e0:hsF s i (toN (s.X i).th) (ofNat i)=false:=by
  rw [Im];unfold hsX;rw [show ilt (ofNat i) (ofNat i)=false from decide_eq_false (by simp),bFA,Bool.and_false]
 congr 1
 ·funext u
  show sel (BY u (toN (s.X i).th)) (sel (hsF s i (toN (s.X i).th) (ofNat i)) _ (BC (nrF s i (toN (s.X i).th)) 1)) (nrF s i u)=nrF s (i+1) u;rw [e0,Ke,Ke,BY];unfold nrF;cases hu:Nat.beq u (toN (s.X i).th) with
  | true =>rw [Bz (by show (isT s u i && isR s i)=true; rw [show isT s u i=true from hu,show isR s i=true from h]; rfl),Nat.eq_of_beq_eq_true hu];rfl
  | false =>rw [BL (by show (isT s u i && isR s i)=false; rw [show isT s u i=false from hu]; rfl)];rfl
 ·funext u j
  show sel (BY u (toN (s.X i).th)) (sel (ieq j (ofNat i)) true (hsF s i (toN (s.X i).th) j)) (hsF s i u j)=_;rw [AoG h,Ke,Ke,BY];cases hu:Nat.beq u (toN (s.X i).th) with
  | true=>rw [Nat.eq_of_beq_eq_true hu]; cases ieq j (ofNat i) <;> rfl
  | false=>rfl
 ·funext u j
  show sel (BY u (toN (s.X i).th)) (sel (ieq j (ofNat i)) (vR s (toN (s.X i).th) (nrF s i (toN (s.X i).th))) (gtF s i (toN (s.X i).th) j)) (gtF s i u j)=_;rw [ApU hF hi,Ke,Ke,BY]
  conv=>rhs; unfold gtF
  rw [AoG h];cases hu:Nat.beq u (toN (s.X i).th) with
  | true =>
   rw [Nat.eq_of_beq_eq_true hu];cases hj:ieq j (ofNat i) with
   | true =>rw [Cg hj];rfl
   | false=>rfl
  | false=>rfl
theorem w34 (hi:i<s.nx) {q:Mp} (h:q=mpS s (i+1)):(Ex.nm,AiD s (wr .i64 (Ai (ofNat i) 1)) q)=(Ex.nm,V9 s (wr .i64 (Ai (ofNat i) 1)) ()):=by
 unfold V9;rw [Uv hF hi,h];rfl
end
def Acn:Lp:=⟨bmK 86 0 [3,44,45,46],3,bmK 86 0 [3],3,4611686018427387905⟩
theorem AnC (L:LT) {s:Sh7} (hF:plB s=true):(A4 (B34 2 L) Acn 4611686018427387905 (V9 s 0 ())).sem=some (SZ s) :=
 AW (R:=exR) BG (S:=λc a _=>V9 s c a) (j:=λ_=>.und) (g:=Aiv s) (fin:=λ_=>SZ s) (e:=SZ s) (n:=s.nx) (by have:=(BO hF).1; omega)
  (λi a j r hi he=>DK.ok (L:=goR (λc a _=>V9 s c a) exR i) (.k (ofNat_lt hi) <| .k (Ae hi) <| .k (De hF hi) <| .k (BS hF hi) <| .k eT <| .c (λh1=>.k (eN h1) <| .c (λh2=>.k h2 <| .k (BS hF hi) <| .k eT <| .k (BS hF hi) <| .r 2 eT <| .k (BS hF hi) <| .k eT <| .k (BS hF hi) <| .k h1 <| .k (BS hF hi) <| .k h1 <| .k (Aob hF hi (toN (s.X i).th)) <| .k (L1 hF hi) <| .k (Ir (Ai (wr .i64 (Ai 7 (ofNat (B5 (locL s s.nx (toN (s.X i).th)))))) (ofNat (nrF s i (toN (s.X i).th))))) <| .e (w34 hF hi (q:=Afs (mpS s i) (toN (s.X i).th) (ofNat i) (vR s (toN (s.X i).th) (nrF s i (toN (s.X i).th)))) (by rw [Aif h1]; exact AnU hF hi h2))) λh2=>.k h2 <| .e (w34 hF hi (q:=mpS s i) ((Aif h1).trans (AnT h2)))) λh1=>.k (eN h1) <| .k (BS hF hi) <| .c (λh3=>.k h3 <| .k (BS hF hi) <| .k eT <| .k (BS hF hi) <| .r 2 eT <| .k (BS hF hi) <| .k eT <| .k (BS hF hi) <| .k (AmT (toN (s.X i).th) (lvF s i (toN (s.X i).th))) <| .k (BS hF hi) <| .k (AmT (toN (s.X i).th) (lvF s i (toN (s.X i).th))) <| .k (Aq1 hF hi) <| .k (L1 hF hi) <| .k (Ir (Ai (wr .i64 (Ai 7 (ofNat (B5 (locL s s.nx (toN (s.X i).th)))))) (ofNat (sel (BY (toN (s.X i).th) (toN (s.X i).th)) 0 (nrF s i (toN (s.X i).th)))))) <| .e (w34 hF hi (q:=Afs (AbZ (mpS s i) (toN (s.X i).th)) (toN (s.X i).th) (ofNat i) (vR s (toN (s.X i).th) ((AbZ (mpS s i) (toN (s.X i).th)).len (toN (s.X i).th)))) (by rw [AhR h1]; exact AnU hF hi h3))) λh3=>.k h3 <| .e (w34 hF hi (q:=AbZ (mpS s i) (toN (s.X i).th)) ((AhR h1).trans (AnT h3)))) (by kernel_rfl) he) (λa j=>DK.ok (C:=.leaf (SZ s)) (L:=exR) (.k (Az (Nat.le_refl s.nx)) .l) (by kernel_rfl) rfl) (Nat.zero_add _).symm (by have:=(BO hF).1; omega)
  (Cv (acc:=λ_=>()) (λi _=>by
   unfold Aiv;cases lvF s i (toN (s.X i).th) <;> cases ieq (s.X i).dir 1 <;> rfl) _ _ (Nat.zero_add _))
def AfM:List (Nat×Lp×List (Nat×(Nat->V))):=[(0,Aor,[(2,λ_=>iV 0)]),(2,Acn,[])]
def O5 (s:Sh7):AA:=.br (plB s) (.leaf (.jref 0,[Kg s])) .fail
theorem p34:As Tryz.prog Gl 34 (shT O5):=QK Tryz.func34 (by kernel_rfl) (by kernel_rfl) (Γ:=λ_=>cxA Gl AjO AfM) (λ_=>rfl) (λ_=>Bd AeL AfM)
 λs r h=>DK.of h (.g λhF=>.k (AhJ hF 32 (by decide)) <| .a (r34 (Go.Sy.askL AfM) hF) <| .a (AnC (Go.Sy.askL AfM) hF) <| .l) (by kernel_rfl)
end Go.Proofs.YtkbafjceglhjhaaGreatDoor.Er
