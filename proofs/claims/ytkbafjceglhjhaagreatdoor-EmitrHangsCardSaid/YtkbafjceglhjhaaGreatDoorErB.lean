/-
  Layer 12: the threads' registers (emitr.planned). No conditions.
-/
import Derived.Test.YtkbafjceglhjhaaGreatDoorErA
namespace Go.Proofs.YtkbafjceglhjhaaGreatDoor.Er
open Go.Sy Go Go.Proofs.YtkbafjceglhjhaaGreatDoor.Ed Go.Proofs.YtkbafjceglhjhaaGreatDoor.Sh
open Int (ofNat)
set_option maxRecDepth 100000
set_option maxHeartbeats 1000000
def PU (l:List Int) (k:Nat):Int:=l.getD k 0
def CY (l:List Int):Nat:=l.length
def M9 (l:List Int):Nat->V:=λk=>iV (PU l k)
theorem Wt (l:List Int) (x:Int):Be (CY l) (M9 l) (iV x)=M9 (l++[x]):=by
 funext k;rw [BA];unfold M9 PU CY;cases hk:Nat.beq k l.length with
 | true =>have hk:=Nat.eq_of_beq_eq_true hk;subst hk;simp
 | false =>
  have hk:=Nat.ne_of_beq_eq_false hk;simp only [cond_false];simp only [List.getD_eq_getElem?_getD,List.getElem?_append];split
  ·rfl
  ·rename_i h
   rw [List.getElem?_eq_none (by omega),List.getElem?_eq_none (by simp; omega)]
def upL {α:Type} (C:Nat->α) (u:Nat) (x:α):Nat->α:=λk=>bif Nat.beq k u then x else C k
theorem X7 {α:Type} (f:α->Nat) (C:Nat->α) (u:Nat) (x:α):Db (λk=>f (C k)) u (f x)=λk=>f (upL C u x k):=by
 funext k;unfold Db upL;show (bif Nat.beq k u then _ else _)=_;cases Nat.beq k u <;> rfl
theorem X8 {α:Type} (f:α->Nat->V) (C:Nat->α) (u:Nat) (x:α):Ek (λk=>f (C k)) u (f x)=λk=>f (upL C u x k):=by
 funext k j;unfold Ek upL;rw [FB];show (bif Nat.beq k u then _ else _)=_;cases Nat.beq k u <;> rfl
theorem QR (u:Nat):Cr (Cr (λ_=>true) u false) u true=λ_=>true:=by
 funext k;unfold Cr sel;show (bif Nat.beq k u then _ else (bif Nat.beq k u then _ else _))=_;cases Nat.beq k u <;> rfl
section
variable (s:Sh7)
def locL:Nat->Nat->List Int
 | 0,_=>[]
 | m+1,u=>bif Nat.beq u (toN (s.X m).th) && ieq (NS (CY (locL m u)) (PU (locL m u)) (s.X m).loc) 0 then locL m u++[(s.X m).loc] else locL m u
def isT (u k:Nat):Bool:=Nat.beq u (toN (s.X k).th)
def isR (k:Nat):Bool:=ieq (s.X k).dir 1
def lvF:Nat->Nat->Bool
 | 0,_=>false
 | m+1,u=>isT s u m || lvF m u
def nrF (m u:Nat):Nat:=Ai (λk=>isT s u k && isR s k) m
def hsX (m u:Nat) (j:Int):Bool:=ile 0 j && (ilt j (ofNat m) && (isT s u (toN j) && isR s (toN j)))
def hsF:Nat->Nat->Int->Bool
 | 0,_,_=>false
 | m+1,u,j=>hsX s (m+1) u j
theorem IP (m u:Nat) (j:Int):hsF s m u j=hsX s m u j:=by
 cases m with
 | succ m=>rfl
 | zero =>
  show false=_;unfold hsX;by_cases h:0 <= j
  ·rw [show ilt j (ofNat 0)=false from decide_eq_false (by simp; omega),bFA,Bool.and_false]
  ·rw [show ile 0 j=false from decide_eq_false h,bFA]
def gtF (m u:Nat) (j:Int):Int:=bif hsF s m u j then ofNat (7+CY (locL s s.nx u)+nrF s (toN j) u) else 0
def Ov:Blk:=.jag ⟨94,2,toN s.tt,λ_=>.agg [.nilS,.val (.map none)],0,3,1,λ_=>true,λu=>CY (locL s s.nx u),λu=>M9 (locL s s.nx u),some ⟨1,92,lvF s s.nx,nrF s s.nx,hsF s s.nx,gtF s s.nx⟩⟩
def plB:Bool:=Nat.ble s.nx 16 && (Nat.ble (toN s.tt) 16 && (ieq (ofNat (toN s.tt)) s.tt && Ba s.nx λi=>Aj (ile 0 (s.X i).th) (ilt (s.X i).th (ofNat (toN s.tt)))))
end
section
variable {s:Sh7} (hF:plB s=true) {i:Nat}
include hF
theorem BU:s.nx <= 16∧toN s.tt <= 16∧ofNat (toN s.tt)=s.tt∧∀ i,i<s.nx->Aj (ile 0 (s.X i).th) (ilt (s.X i).th (ofNat (toN s.tt)))=true:=by
 unfold plB at hF;simp only [Bool.and_eq_true] at hF;obtain ⟨h1,h2,h3,h4⟩:=hF;exact ⟨Nat.le_of_ble_eq_true h1,Nat.le_of_ble_eq_true h2,Ck h3,λi hi=>AG.1 h4 i hi⟩
theorem Ac7 (b:Nat) (hb:b <= 1000):Eu b s.tt s.tt=true:=by
 obtain ⟨_,h2,h3,_⟩:=BU hF;rw [<- h3];unfold Eu;have e:ofNat (toN s.tt)=((toN s.tt:Nat):Int):=rfl;have hm:((b * toN s.tt:Nat):Int) <= 16000:=by
  have:=Nat.mul_le_mul hb h2;omega
 rw [Int.natCast_mul] at hm;simp only [Bool.and_eq_true,decide_eq_true_eq,e];refine ⟨by omega,by omega,by omega,by omega⟩
theorem Cy (hi:i<s.nx):Aj (ile 0 (s.X i).th) (ilt (s.X i).th (ofNat (toN s.tt)))=true:=(BU hF).2.2.2 i hi
theorem B8 (hi:i<s.nx):nlt (toN (s.X i).th) (toN s.tt)=true:=by
 have:=Cy hF hi;simp only [Aj,ile,ilt,Bool.and_eq_true,decide_eq_true_eq] at this;unfold nlt toN;rw [decide_eq_true_eq];have h2:(s.X i).th<((s.tt.toNat:Nat):Int):=this.2;omega
omit hF in
theorem J8 (u:Nat):∀ m,CY (locL s m u) <= m
 | 0=>Nat.le_refl _
 | m+1=>by
  have:=J8 u m;rw [locL];cases Nat.beq u (toN (s.X m).th) && ieq (NS (CY (locL s m u)) (PU (locL s m u)) (s.X m).loc) 0 with
  | true =>unfold CY at this ⊢;simp only [cond_true,List.length_append,List.length_singleton];omega
  | false=>exact Nat.le_succ_of_le this
theorem Ye (hi:i<s.nx) (u:Nat):Ap (CY (locL s i u))=true:=decide_eq_true (by
 have:=J8 (s:=s) u i;have:=(BU hF).1;omega)
theorem AgV (hi:i<s.nx) (u:Nat):Dk (CY (locL s i u)) 1 8=true:=decide_eq_true (by
 have:=J8 (s:=s) u i;have:=(BU hF).1;omega)
theorem Ri (hi:i<s.nx):wr .i64 (Ah (ofNat i) 1)=ofNat (i+1):=E2 hi (by
 have:=(BU hF).1;omega)
omit hF
variable (s)
def T34 (c:Int) (lv:Nat->Bool) (ln:Nat->Nat) (mm:Nat->Nat->V):St:=⟨jsV 86 0 Ac [(1,.ptr 0 0),(3,.jref 2),(14,.sl 5 s.nx (λi=>evV (s.X i))),(15,iV (ofNat s.nx)),(16,iV c)],[.cells [iV s.arch,.sl 6 s.ne (λi=>eV (s.E i)),.sl 5 s.nx (λi=>evV (s.X i)),iV s.tt,iV s.kk,.sl 1 s.nr (λi=>iV (s.R i)),.sl 1 s.nc (λu=>.sl 1 (s.C u).1 (λi=>iV ((s.C u).2 i)))],.row 94 2 0 Ac,.jag ⟨94,2,toN s.tt,λ_=>.agg [.nilS,.val (.map none)],0,3,1,lv,ln,mm,some ⟨1,92,λ_=>false,λ_=>0,λ_ _=>false,λ_ _=>0⟩⟩]⟩
def S34 (c:Int) (_:Unit):St:=T34 s c (λ_=>true) (λu=>CY (locL s (toN c) u)) (λu=>M9 (locL s (toN c) u))
def AbC:Ex×St:=(.ex 0,⟨jsV 86 0 Ac [(1,.ptr 0 0),(3,.jref 2)],[.cells [iV s.arch,.sl 6 s.ne (λi=>eV (s.E i)),.sl 5 s.nx (λi=>evV (s.X i)),iV s.tt,iV s.kk,.sl 1 s.nr (λi=>iV (s.R i)),.sl 1 s.nc (λu=>.sl 1 (s.C u).1 (λi=>iV ((s.C u).2 i)))],.row 94 2 0 Ac,.jag ⟨94,2,toN s.tt,λ_=>.agg [.nilS,.val (.map none)],0,3,1,λ_=>true,λu=>CY (locL s s.nx u),λu=>M9 (locL s s.nx u),some ⟨1,92,λ_=>false,λ_=>0,λ_ _=>false,λ_ _=>0⟩⟩]⟩)
def g34 (i:Nat) (_:Unit):T (Unit ⊕ (Ex×St)):=.br (ieq (NS (CY (locL s i (toN (s.X i).th))) (PU (locL s i (toN (s.X i).th))) (s.X i).loc) 0) (.leaf (.inl ())) (.leaf (.inl ()))
variable {s}
include hF
theorem Ahj (hi:i<s.nx) (h:ieq (NS (CY (locL s i (toN (s.X i).th))) (PU (locL s i (toN (s.X i).th))) (s.X i).loc) 0=true) :
  (Ex.nm,T34 s (wr .i64 (Ah (ofNat i) 1)) (Cr (Cr (λ_=>true) (toN (s.X i).th) false) (toN (s.X i).th) true) (Db (λu=>CY (locL s i u)) (toN (s.X i).th) (B1 (CY (locL s i (toN (s.X i).th))) 1)) (Ek (λu=>M9 (locL s i u)) (toN (s.X i).th) (Be (CY (locL s i (toN (s.X i).th))) (M9 (locL s i (toN (s.X i).th))) (iV (s.X i).loc))))=(Ex.nm,S34 s (wr .i64 (Ah (ofNat i) 1)) ()):=by
 have e:locL s (i+1)=upL (locL s i) (toN (s.X i).th) (locL s i (toN (s.X i).th)++[(s.X i).loc]):=by
  funext u;rw [locL];unfold upL;cases hu:Nat.beq u (toN (s.X i).th) with
  | true =>rw [Nat.eq_of_beq_eq_true hu,h];rfl
  | false=>rfl
 unfold S34;rw [Ri hF hi,show toN (ofNat (i+1))=i+1 from rfl,e,QR,Wt,X8 M9,show B1 (CY (locL s i (toN (s.X i).th))) 1=CY (locL s i (toN (s.X i).th)++[(s.X i).loc]) from by unfold CY B1; simp,X7 CY]
theorem AgY (hi:i<s.nx) (h:ieq (NS (CY (locL s i (toN (s.X i).th))) (PU (locL s i (toN (s.X i).th))) (s.X i).loc) 0=false) :
  (Ex.nm,T34 s (wr .i64 (Ah (ofNat i) 1)) (λ_=>true) (λu=>CY (locL s i u)) (λu=>M9 (locL s i u)))=(Ex.nm,S34 s (wr .i64 (Ah (ofNat i) 1)) ()):=by
 have e:locL s (i+1)=locL s i:=by
  funext u;rw [locL];cases hu:Nat.beq u (toN (s.X i).th) with
  | true =>rw [Nat.eq_of_beq_eq_true hu,h];rfl
  | false=>rfl
 unfold S34;rw [Ri hF hi,show toN (ofNat (i+1))=i+1 from rfl,e]
end
noncomputable def AdT:AK:=(61,AbT)::[]
theorem Aap:Ar Tryz.prog Gl AdT:=.cons p61 .nil
def Ahx:Lp:=⟨bmK 86 0 [1,3,14,15,16],3,bmK 86 0 [1,3],3,4611686018427387905⟩
noncomputable def B34 (id:Nat) (L:LT):St->T (Ex×St):=λst=>AI tab ⟨Az AdT,L,Gl⟩ (A0 Tryz.f34 id) id st
theorem r34 (L:LT) {s:Sh7} (hF:plB s=true):(A3 (B34 0 L) Ahx 4611686018427387905 (S34 s 0 ())).sem=some (AbC s) :=
 AY (R:=exR) BB (S:=λc a _=>S34 s c a) (j:=λ_=>.und) (g:=g34 s) (fin:=λ_=>AbC s) (e:=AbC s) (n:=s.nx) (by have:=(BU hF).1; omega)
  (λi a j r hi he=>DK.ok (L:=goR (λc a _=>S34 s c a) exR i) (.k (ofNat_lt hi) <| .k (Ae hi) <| .k (Cy hF hi) <| .k (B8 hF hi) <| .k eT <| .k (eG [toN s.tt]) <| .k (eL (CY (locL s i (toN (s.X i).th)))) <| .k (Ye hF hi (toN (s.X i).th)) <| .c (λh1=>.k h1 <| .k (B8 hF hi) <| .k eT <| .r 4 (eJ (toN (s.X i).th)) <| .k (B8 hF hi) <| .k eT <| .r 5 (eJ (toN (s.X i).th)) <| .k (B8 hF hi) <| .k eT <| .k (eJ (toN (s.X i).th)) <| .k eT <| .k (AgV hF hi (toN (s.X i).th)) <| .k (eJ (toN (s.X i).th)) <| .k (B8 hF hi) <| .e (Ahj hF hi h1)) λh1=>.k h1 <| .e (AgY hF hi h1)) (by kernel_rfl) he) (λa j=>DK.ok (C:=.leaf (AbC s)) (L:=exR) (.k (Av (Nat.le_refl s.nx)) .l) (by kernel_rfl) rfl) (Nat.zero_add _).symm (by have:=(BU hF).1; omega)
  (CP (acc:=λ_=>()) (λi _=>by
   show sel _ _ _=_;cases ieq (NS (CY (locL s i (toN (s.X i).th))) (PU (locL s i (toN (s.X i).th))) (s.X i).loc) 0 <;> rfl) _ _ (Nat.zero_add _))
def Yp (q:Mp) (u:Nat):Mp:={ q with live:=Cr q.live u true,len:=Db q.len u 0,hs:=Dv q.hs u λ_=>false,get:=Dv q.get u λ_=>0 }
def AaJ (q:Mp) (u:Nat) (k y:Int):Mp:={ q with len:=Db q.len u (sel (q.hs u k) (q.len u) (B1 (q.len u) 1)),hs:=Dv q.hs u λx=>sel (ieq x k) true (q.hs u x),get:=Dv q.get u (Gb (q.get u) k y) }
def mpS (s:Sh7) (m:Nat):Mp:=⟨1,92,lvF s m,nrF s m,hsF s m,gtF s m⟩
def vR (s:Sh7) (u r:Nat):Int:=wr .i64 (Ah (wr .i64 (Ah 7 (ofNat (CY (locL s s.nx u))))) (ofNat r))
section
variable (s:Sh7)
def Adj (c:Int) (q:Mp):St:=⟨jsV 86 0 Ac [(3,.jref 2),(44,.sl 5 s.nx (λi=>evV (s.X i))),(45,iV (ofNat s.nx)),(46,iV c)],[.cells [iV s.arch,.sl 6 s.ne (λi=>eV (s.E i)),.sl 5 s.nx (λi=>evV (s.X i)),iV s.tt,iV s.kk,.sl 1 s.nr (λi=>iV (s.R i)),.sl 1 s.nc (λu=>.sl 1 (s.C u).1 (λi=>iV ((s.C u).2 i)))],.row 94 2 0 Ac,.jag ⟨94,2,toN s.tt,λ_=>.agg [.nilS,.val (.map none)],0,3,1,λ_=>true,λu=>CY (locL s s.nx u),λu=>M9 (locL s s.nx u),some q⟩]⟩
def S7 (c:Int) (_:Unit):St:=Adj s c (mpS s (toN c))
def Qb:Ex×St:=(.ex 2,⟨jsV 86 0 Ac [(3,.jref 2)],[.cells [iV s.arch,.sl 6 s.ne (λi=>eV (s.E i)),.sl 5 s.nx (λi=>evV (s.X i)),iV s.tt,iV s.kk,.sl 1 s.nr (λi=>iV (s.R i)),.sl 1 s.nc (λu=>.sl 1 (s.C u).1 (λi=>iV ((s.C u).2 i)))],.row 94 2 0 Ac,Ov s]⟩)
def AcX (i:Nat) (_:Unit):T (Unit ⊕ (Ex×St)):=.br (lvF s i (toN (s.X i).th)) (.br (ieq (s.X i).dir 1) (.leaf (.inl ())) (.leaf (.inl ()))) (.br (ieq (s.X i).dir 1) (.leaf (.inl ())) (.leaf (.inl ())))
end
theorem Agq (u:Nat) (b:Bool):sel (BH u u) true b=true:=by rw [eJ]; rfl
theorem GZ (x:Int):Dz (wr .i64 x)=true:=by
 unfold Dz wr IntKind.wrap;simp [IntKind.bits,IntKind.signed];omega
theorem Ko {k:Nat} (h:k <= 4611686018427387904):wr .i64 (ofNat k)=ofNat k:=by
 unfold wr IntKind.wrap;simp [IntKind.bits,IntKind.signed];omega
section
variable {s:Sh7} (hF:plB s=true) {i:Nat}
theorem AcA (s:Sh7) (m u:Nat):nrF s m u <= m:=B5 _ _
include hF
theorem Ahh (hi:i<s.nx) (u:Nat):nlt (nrF s i u) 4611686018427387904=true:=decide_eq_true (by
 have:=AcA s i u;have:=(BU hF).1;omega)
theorem AiQ (hi:i<s.nx):nlt (sel (BH (toN (s.X i).th) (toN (s.X i).th)) 0 (nrF s i (toN (s.X i).th))) 4611686018427387904=true:=by
 have _:=hF
 rw [eJ];rfl
theorem JF (hi:i<s.nx):Dz (ofNat i)=true:=by
 have:=(BU hF).1;unfold Dz;simp;omega
theorem Ai5 (hi:i<s.nx) (u:Nat):vR s u (nrF s i u)=ofNat (7+CY (locL s s.nx u)+nrF s i u):=by
 have h1:=J8 (s:=s) u s.nx;have h2:=AcA s i u;have h3:=(BU hF).1;unfold vR;rw [show Ah 7 (ofNat (CY (locL s s.nx u)))=ofNat (7+CY (locL s s.nx u)) from rfl,Ko (by omega)];exact Ko (k:=7+CY (locL s s.nx u)+nrF s i u) (by omega)
omit hF
theorem Ahn (s:Sh7) (u:Nat):∀ m,lvF s m u=false->∀ k,k<m->isT s u k=false
 | 0,_,k,hk=>absurd hk (Nat.not_lt_zero _)
 | m+1,h,k,hk=>by
  rw [lvF,Bool.or_eq_false_iff] at h;by_cases e:k=m
  ·rw [e]; exact h.1
  ·exact Ahn s u m h.2 k (by omega)
theorem AiU {m u:Nat} (h:lvF s m u=false):nrF s m u=0∧(hsF s m u=λ_=>false)∧gtF s m u=λ_=>0:=by
 have hk:=Ahn s u m h;have h2:hsF s m u=λ_=>false:=by
  funext j;rw [IP];unfold hsX;cases h1:ile 0 j with
  | false=>rfl
  | true =>
   cases h2:ilt j (ofNat m) with
   | false=>rfl
   | true =>have h1:0 <= j:=of_decide_eq_true h1;have h2:j<(m:Int):=of_decide_eq_true h2;rw [hk (toN j) (by unfold toN; omega)];rfl
 refine ⟨?_,h2,?_⟩
 ·unfold nrF
  rw [Cd (p:=λ_=>false) m λk h=>by rw [hk k h]; rfl];clear hk h h2
  induction m with
  | zero=>rfl
  | succ m ih=>rw [B0 rfl,ih]
 ·funext j
  unfold gtF;rw [h2];rfl
theorem I7 {α:Type} (b:Bool) (x y:α):sel b x y=bif b then x else y:=rfl
theorem Aaz (f:Nat->Nat) (u:Nat):Db f u (f u)=f:=by
 funext k;unfold Db;rw [I7,BH];cases h:Nat.beq k u with
 | true=>rw [Nat.eq_of_beq_eq_true h]; rfl
 | false=>rfl
theorem UE {α:Type} (f:Nat->Int->α) (u:Nat):Dv f u (f u)=f:=by
 funext k j;unfold Dv;rw [I7,BH];cases h:Nat.beq k u with
 | true=>rw [Nat.eq_of_beq_eq_true h]; rfl
 | false=>rfl
theorem UW (s:Sh7) (i:Nat):Cr (lvF s i) (toN (s.X i).th) true=lvF s (i+1):=by
 funext u;unfold Cr;rw [lvF,I7,BH];unfold isT;cases Nat.beq u (toN (s.X i).th) <;> rfl
def mpV (s:Sh7) (i:Nat):Mp:=⟨1,92,lvF s (i+1),nrF s i,hsF s i,gtF s i⟩
theorem AcD (h:lvF s i (toN (s.X i).th)=false):Yp (mpS s i) (toN (s.X i).th)=mpV s i:=by
 obtain ⟨h1,h2,h3⟩:=AiU h;unfold Yp mpV;show Mp.mk 1 92 (Cr (lvF s i) (toN (s.X i).th) true) (Db (nrF s i) (toN (s.X i).th) 0) (Dv (hsF s i) (toN (s.X i).th) λ_=>false) (Dv (gtF s i) (toN (s.X i).th) λ_=>0)=_;rw [UW,<- h1,<- h2,<- h3,Aaz,UE,UE]
theorem AcM (h:lvF s i (toN (s.X i).th)=true):mpS s i=mpV s i:=by
 unfold mpS mpV;rw [<- UW];have:Cr (lvF s i) (toN (s.X i).th) true=lvF s i:=by
  funext k;unfold Cr;rw [I7,BH];cases hk:Nat.beq k (toN (s.X i).th) with
  | true=>rw [Nat.eq_of_beq_eq_true hk,h]; rfl
  | false=>rfl
 rw [this]
theorem AhC (h:ieq (s.X i).dir 1=false):hsF s (i+1)=hsF s i:=by
 funext u j;rw [IP,IP];unfold hsX;cases h1:ile 0 j with
 | false=>rfl
 | true =>
  have h1:0 <= j:=of_decide_eq_true h1;by_cases e:j=(i:Int)
  ·subst e
   simp [show isR s (toN (i:Int))=false from h]
  ·have:ilt j (ofNat (i+1))=ilt j (ofNat i):=decide_eq_decide.2 (by
    show j<((i+1:Nat):Int)↔j<(i:Int);omega)
   rw [this]
theorem Ahb (h:ieq (s.X i).dir 1=false):mpV s i=mpS s (i+1):=by
 unfold mpV mpS;have h2:nrF s (i+1)=nrF s i:=by
  funext u;unfold nrF;exact B0 (by rw [show isR s i=false from h]; exact Bool.and_false _)
 have h3:gtF s (i+1)=gtF s i:=by
  funext u j;unfold gtF;rw [AhC h]
 rw [h2,AhC h,h3]
theorem AhD (h:ieq (s.X i).dir 1=true) (u:Nat) (j:Int):hsF s (i+1) u j=(Nat.beq u (toN (s.X i).th) && ieq j (ofNat i) || hsF s i u j):=by
 rw [IP,IP];unfold hsX;by_cases e:j=(i:Int)
 ·subst e
  rw [show ilt (i:Int) (ofNat i)=false from decide_eq_false (by simp),show ilt (i:Int) (ofNat (i+1))=true from decide_eq_true (by show (i:Int)<((i+1:Nat):Int); omega),
   show ile 0 (i:Int)=true from decide_eq_true (by omega),show isR s (toN (i:Int))=true from h,show ieq (i:Int) (ofNat i)=true from eI _]
  simp [isT,toN]
 ·have h1:ilt j (ofNat (i+1))=ilt j (ofNat i):=decide_eq_decide.2 (by
   show j<((i+1:Nat):Int)↔j<(i:Int);omega)
  rw [h1,show ieq j (ofNat i)=false from by simp [ieq]; exact e,Bool.and_false,bFO]
include hF
theorem Ahc (hi:i<s.nx) (h:ieq (s.X i).dir 1=true):AaJ (mpV s i) (toN (s.X i).th) (ofNat i) (vR s (toN (s.X i).th) (nrF s i (toN (s.X i).th)))=mpS s (i+1):=by
 unfold AaJ mpV mpS;have e0:hsF s i (toN (s.X i).th) (ofNat i)=false:=by
  rw [IP];unfold hsX;rw [show ilt (ofNat i) (ofNat i)=false from decide_eq_false (by simp),bFA,Bool.and_false]
 congr 1
 ·funext u
  show sel (BH u (toN (s.X i).th)) (sel (hsF s i (toN (s.X i).th) (ofNat i)) _ (B1 (nrF s i (toN (s.X i).th)) 1)) (nrF s i u)=nrF s (i+1) u;rw [e0,I7,I7,BH];unfold nrF;cases hu:Nat.beq u (toN (s.X i).th) with
  | true =>rw [Bs (by show (isT s u i && isR s i)=true; rw [show isT s u i=true from hu,show isR s i=true from h]; rfl),Nat.eq_of_beq_eq_true hu];rfl
  | false =>rw [B0 (by show (isT s u i && isR s i)=false; rw [show isT s u i=false from hu]; rfl)];rfl
 ·funext u j
  show sel (BH u (toN (s.X i).th)) (sel (ieq j (ofNat i)) true (hsF s i (toN (s.X i).th) j)) (hsF s i u j)=_;rw [AhD h,I7,I7,BH];cases hu:Nat.beq u (toN (s.X i).th) with
  | true=>rw [Nat.eq_of_beq_eq_true hu]; cases ieq j (ofNat i) <;> rfl
  | false=>rfl
 ·funext u j
  show sel (BH u (toN (s.X i).th)) (sel (ieq j (ofNat i)) (vR s (toN (s.X i).th) (nrF s i (toN (s.X i).th))) (gtF s i (toN (s.X i).th) j)) (gtF s i u j)=_;rw [Ai5 hF hi,I7,I7,BH]
  conv=>rhs; unfold gtF
  rw [AhD h];cases hu:Nat.beq u (toN (s.X i).th) with
  | true =>
   rw [Nat.eq_of_beq_eq_true hu];cases hj:ieq j (ofNat i) with
   | true =>rw [Ck hj];rfl
   | false=>rfl
  | false=>rfl
theorem w34 (hi:i<s.nx) {q:Mp} (h:q=mpS s (i+1)):(Ex.nm,Adj s (wr .i64 (Ah (ofNat i) 1)) q)=(Ex.nm,S7 s (wr .i64 (Ah (ofNat i) 1)) ()):=by
 unfold S7;rw [Ri hF hi,h];rfl
end
def Yz:Lp:=⟨bmK 86 0 [3,44,45,46],3,bmK 86 0 [3],3,4611686018427387905⟩
theorem AgN (L:LT) {s:Sh7} (hF:plB s=true):(A3 (B34 2 L) Yz 4611686018427387905 (S7 s 0 ())).sem=some (Qb s) :=
 AY (R:=exR) BB (S:=λc a _=>S7 s c a) (j:=λ_=>.und) (g:=AcX s) (fin:=λ_=>Qb s) (e:=Qb s) (n:=s.nx) (by have:=(BU hF).1; omega)
  (λi a j r hi he=>DK.ok (L:=goR (λc a _=>S7 s c a) exR i) (.k (ofNat_lt hi) <| .k (Ae hi) <| .k (Cy hF hi) <| .k (B8 hF hi) <| .k eT <| .c (λh1=>.k (eN h1) <| .c (λh2=>.k h2 <| .k (B8 hF hi) <| .k eT <| .k (B8 hF hi) <| .r 2 eT <| .k (B8 hF hi) <| .k eT <| .k (B8 hF hi) <| .k h1 <| .k (B8 hF hi) <| .k h1 <| .k (Ahh hF hi (toN (s.X i).th)) <| .k (JF hF hi) <| .k (GZ (Ah (wr .i64 (Ah 7 (ofNat (CY (locL s s.nx (toN (s.X i).th)))))) (ofNat (nrF s i (toN (s.X i).th))))) <| .e (w34 hF hi (q:=AaJ (mpS s i) (toN (s.X i).th) (ofNat i) (vR s (toN (s.X i).th) (nrF s i (toN (s.X i).th)))) (by rw [AcM h1]; exact Ahc hF hi h2))) λh2=>.k h2 <| .e (w34 hF hi (q:=mpS s i) ((AcM h1).trans (Ahb h2)))) λh1=>.k (eN h1) <| .k (B8 hF hi) <| .c (λh3=>.k h3 <| .k (B8 hF hi) <| .k eT <| .k (B8 hF hi) <| .r 2 eT <| .k (B8 hF hi) <| .k eT <| .k (B8 hF hi) <| .k (Agq (toN (s.X i).th) (lvF s i (toN (s.X i).th))) <| .k (B8 hF hi) <| .k (Agq (toN (s.X i).th) (lvF s i (toN (s.X i).th))) <| .k (AiQ hF hi) <| .k (JF hF hi) <| .k (GZ (Ah (wr .i64 (Ah 7 (ofNat (CY (locL s s.nx (toN (s.X i).th)))))) (ofNat (sel (BH (toN (s.X i).th) (toN (s.X i).th)) 0 (nrF s i (toN (s.X i).th)))))) <| .e (w34 hF hi (q:=AaJ (Yp (mpS s i) (toN (s.X i).th)) (toN (s.X i).th) (ofNat i) (vR s (toN (s.X i).th) ((Yp (mpS s i) (toN (s.X i).th)).len (toN (s.X i).th)))) (by rw [AcD h1]; exact Ahc hF hi h3))) λh3=>.k h3 <| .e (w34 hF hi (q:=Yp (mpS s i) (toN (s.X i).th)) ((AcD h1).trans (Ahb h3)))) (by kernel_rfl) he) (λa j=>DK.ok (C:=.leaf (Qb s)) (L:=exR) (.k (Av (Nat.le_refl s.nx)) .l) (by kernel_rfl) rfl) (Nat.zero_add _).symm (by have:=(BU hF).1; omega)
  (CP (acc:=λ_=>()) (λi _=>by
   unfold AcX;cases lvF s i (toN (s.X i).th) <;> cases ieq (s.X i).dir 1 <;> rfl) _ _ (Nat.zero_add _))
def Abj:List (Nat×Lp×List (Nat×(Nat->V))):=[(0,Ahx,[(2,λ_=>iV 0)]),(2,Yz,[])]
def Pw (s:Sh7):AB:=.br (plB s) (.leaf (.jref 0,[Ov s])) .fail
theorem p34:As Tryz.prog Gl 34 (shT Pw):=Ou Tryz.func34 (by kernel_rfl) (by kernel_rfl) (Γ:=λ_=>cxA Gl AdT Abj) (λ_=>rfl) (λ_=>Bz Aap Abj)
 λs r h=>DK.of h (.g λhF=>.k (Ac7 hF 32 (by decide)) <| .a (r34 (Go.Sy.askL Abj) hF) <| .a (AgN (Go.Sy.askL Abj) hF) <| .l) (by kernel_rfl)
end Go.Proofs.YtkbafjceglhjhaaGreatDoor.Er
