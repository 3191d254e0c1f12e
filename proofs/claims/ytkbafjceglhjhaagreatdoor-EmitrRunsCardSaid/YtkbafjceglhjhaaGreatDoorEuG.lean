/-
  Layer 12, plain: the law EmitrHangs: each event's code takes one on to the next event; a thread's code, all threads'. No program here, no conditions.
-/
import Derived.Test.YtkbafjceglhjhaaGreatDoorErM
import Derived.Test.YtkbafjceglhjhaaGreatDoorErT
namespace Go.Proofs.YtkbafjceglhjhaaGreatDoor.Er
open Go.Sy Go Go.Proofs.YtkbafjceglhjhaaGreatDoor.Ed Go.Proofs.YtkbafjceglhjhaaGreatDoor.Sh
set_option maxRecDepth 100000
set_option maxHeartbeats 1000000
section
variable {s:Sh7} (hg:Gs s) {i:Nat} (hi:i<s.nx)
theorem m1:ile 0 (-1)=false:=rfl
include hg hi
theorem nxt:wr .i64 (Ai (Int.ofNat i) 1)=Int.ofNat (i+1):=CU hi (by have:=hg.hi; omega)
end
section
variable {s:Sh7} (hg:Gs s)
def ltT (s:Sh7) (u k:Nat):Bool:=Nat.blt (tN s k) u
def eqT (s:Sh7) (u k:Nat):Bool:=Nat.beq u (tN s k)
def q0 (s:Sh7) (u:Nat):Nat:=Al (ltT s u) s.nx
theorem X8 (s:Sh7) {i k:Nat} (h:i <= k):tN s i <= tN s k:=Ba _ h
theorem YK (s:Sh7) (u:Nat):∀ m,(∀ k,k<m->tN s k <= u)->Al (ltT s u) m+Al (eqT s u) m=m
 | 0,_=>rfl
 | m+1,h=>by
  have ih:=YK s u m λk hk=>h k (by omega);have hm:=h m (by omega);by_cases e:tN s m=u
  ·rw [BL (p:=ltT s u) (i:=m) (by
    unfold ltT;cases hb:Nat.blt (tN s m) u with
    | false=>rfl
    | true=>have:=Nat.le_of_ble_eq_true hb; omega),Bz (p:=eqT s u) (i:=m) (by unfold eqT; rw [e]; exact Nat.beq_refl u)]
   omega
  ·rw [Bz (p:=ltT s u) (i:=m) (Nat.ble_eq_true_of_le (by show tN s m+1 <= u; omega)),BL (p:=eqT s u) (i:=m) (by
    unfold eqT;cases hb:Nat.beq u (tN s m) with
    | false=>rfl
    | true=>have:=Nat.eq_of_beq_eq_true hb; omega)]
   omega
theorem PG {p:Nat->Bool} {m:Nat}:∀ n,m <= n->(∀ k,m <= k->k<n->p k=false)->Al p n=Al p m
 | 0,h,_=>by rw [Nat.le_zero.1 h]
 | n+1,h,hp=>by
  by_cases e:m=n+1
  ·rw [e]
  ·rw [BL (hp n (by omega) (by omega))]
   exact PG n (by omega) λk h1 h2=>hp k h1 (by omega)
theorem AnL {u m:Nat} (hm:m<s.nx) (h:tN s m=u):q0 s u+Al (eqT s u) m=m:=by
 have h1:q0 s u=Al (ltT s u) m:=PG _ (by omega) λk h1 h2=>by
  have:=X8 s h1;unfold ltT;cases hb:Nat.blt (tN s k) u with
  | false=>rfl
  | true=>have:=Nat.le_of_ble_eq_true hb; omega
 rw [h1];exact YK s u m λk hk=>by
  have:=X8 s (show k <= m by omega);omega
theorem Vv (s:Sh7) (u:Nat):∀ n,Al (ltT s (u+1)) n=Al (ltT s u) n+Al (eqT s u) n
 | 0=>rfl
 | n+1=>by
  have ih:=Vv s u n;have e:∀ p:Nat->Bool,Al p (n+1)=Al p n+(bif p n then 1 else 0):=λp=>by
   cases h:p n with
   | true=>rw [Bz h]; rfl
   | false=>rw [BL h]; rfl
  rw [e,e,e,ih];have:(bif ltT s (u+1) n then 1 else 0)=(bif ltT s u n then 1 else 0)+(bif eqT s u n then 1 else 0):=by
   unfold ltT eqT;rcases Nat.lt_trichotomy (tN s n) u with h | h | h
   ·rw [show Nat.blt (tN s n) (u+1)=true from Nat.ble_eq_true_of_le (by omega),show Nat.blt (tN s n) u=true from Nat.ble_eq_true_of_le h,show Nat.beq u (tN s n)=false from by
     cases hb:Nat.beq u (tN s n) with
     | false=>rfl
     | true=>have:=Nat.eq_of_beq_eq_true hb; omega]
    rfl
   ·rw [h,show Nat.blt u (u+1)=true from Nat.ble_eq_true_of_le (by omega),Nat.beq_refl,show Nat.blt u u=false from by
     cases hb:Nat.blt u u with
     | false=>rfl
     | true=>have:=Nat.le_of_ble_eq_true hb; omega]
    rfl
   ·rw [show Nat.blt (tN s n) (u+1)=false from by
     cases hb:Nat.blt (tN s n) (u+1) with
     | false=>rfl
     | true=>have:=Nat.le_of_ble_eq_true hb; omega,show Nat.blt (tN s n) u=false from by
     cases hb:Nat.blt (tN s n) u with
     | false=>rfl
     | true=>have:=Nat.le_of_ble_eq_true hb; omega,show Nat.beq u (tN s n)=false from by
     cases hb:Nat.beq u (tN s n) with
     | false=>rfl
     | true=>have:=Nat.eq_of_beq_eq_true hb; omega]
    rfl
  omega
theorem Afq (s:Sh7) (u:Nat):q0 s (u+1)=q0 s u+Al (eqT s u) s.nx:=Vv s u s.nx
theorem Aqi (s:Sh7):q0 s 0=0:=by
 unfold q0;rw [PG (m:=0) _ (Nat.zero_le _) λk _ _=>by
  unfold ltT;cases hb:Nat.blt (tN s k) 0 with
  | false=>rfl
  | true=>have:=Nat.le_of_ble_eq_true hb; omega]
 rfl
include hg
theorem AkQ:q0 s (toN s.tt)=s.nx:=by
 unfold q0;have:∀ m,m <= s.nx->Al (ltT s (toN s.tt)) m=m:=λm=>by
  induction m with
  | zero=>intro _; rfl
  | succ m ih =>intro h;rw [Bz (p:=ltT s (toN s.tt)) (i:=m) (Nat.ble_eq_true_of_le (Ah2 hg (i:=m) (by omega))),ih (by omega)]
 exact this _ (Nat.le_refl _)
end
end Go.Proofs.YtkbafjceglhjhaaGreatDoor.Er
namespace Go.Proofs.YtkbafjceglhjhaaGreatDoor.Er
open Go.Sy Go Go.Proofs.YtkbafjceglhjhaaGreatDoor.Ed Go.Proofs.YtkbafjceglhjhaaGreatDoor.Sh
set_option maxRecDepth 100000
set_option maxHeartbeats 1000000
section
variable (s:Sh7)
def g6 (_:Nat) (_:Unit):T (Unit ⊕ (Ex×St)):=.leaf (.inl ())
end
theorem Ahx {s:Sh7} (hg:Gs s):toN s.tt <= 16:=(BO (NR hg)).2.1
theorem Ts {s:Sh7} (hg:Gs s) (u:Nat):Cr (cdL s s.nx u) <= 1000:=by
 have:=MK s u s.nx;have:=hg.hi;omega
theorem tb6_ok:Ar Tryz.prog Gl tb6:=.cons p9 <| .cons p11 <| .cons p10 <| .cons p18 .nil
def UC (s:Sh7):AA:=.br (Dg s.ne) (.br (Ak (Au s.ne) (Ak (Au s.nx) (Ak (Au s.nr) (Ak (Au s.nc) (Bo s.nc (λi=>Au (s.C i).1)))))) (.br (ieq (FK s) 0) (.leaf (bV true,[])) (.leaf (bV true,[]))) .fail) .fail
theorem AnK {s:Sh7} (hg:Gs s):ieq (Int.ofNat (q0 s (toN s.tt))) (Int.ofNat s.nx)=true:=by
 rw [AkQ hg];exact eI _
end Go.Proofs.YtkbafjceglhjhaaGreatDoor.Er
namespace Go.Proofs.YtkbafjceglhjhaaGreatDoor.Sh
open Go.Sy Go Go.Proofs.YtkbafjceglhjhaaGreatDoor.Ed
theorem NY {α β:Type} (c:Cod α) (n:Nat) (f:Nat->α) (F:Nat->(Nat->α)->T β) (h1:∀ x,c.ok (c.enc x)=true) (h2:∀ x,c.ed (c.enc x)=x):(apG c (IW c n f) F).sem=(F n f).sem:=by
 have h0:WM c.size (IW c n f)=some (n,λi=>c.enc (f i)):=by
  show (match Nat.beq c.size c.size with
   | true=>some (n,λi=>c.enc (f i))
   | false=>match n with
    | 0=>some (0,λi=>c.enc (f i))
    | _=>none)=_
  rw [show Nat.beq c.size c.size=true from Nat.beq_refl _]
 unfold apG;rw [h0];show sel (Bo n λi=>c.ok (c.enc (f i))) (F n λi=>c.ed (c.enc (f i))).sem none=_;rw [show (Bo n λi=>c.ok (c.enc (f i)))=true from AO.2 λi _=>h1 _];rw [show (λi=>c.ed (c.enc (f i)))=f from funext λi=>h2 _];rfl
theorem apS_sem {β:Type} (s:Sh7) (F:Sh7->T β):(apS (E2 s) F).sem=(F s).sem:=by
 obtain ⟨a,n,g,m,x,t,k,p,r,q,C⟩:=s;show (apG codE (IW codE n g) λne E=>apG To (IW To m x) λnx X=>apG Tp (IW Tp p r) λnr R=>apG codJ (IW codJ q C) λnc C=>F ⟨a,ne,E,nx,X,t,k,nr,R,nc,C⟩).sem=_;rw [NY codE n g _ (λ_=>rfl) (λ_=>rfl),NY To m x _ (λ_=>rfl) (λ_=>rfl),NY Tp p r _ (λ_=>rfl) (λ_=>rfl),NY codJ q C _ (λx=>?_) (λ_=>rfl)];show (match WM 1 (.sl 1 x.1 λi=>iV (x.2 i)) with
  | some (n,g)=>Bo n λi=>okI (g i)
  | none=>false)=true
 exact AO.2 λ_ _=>rfl
end Go.Proofs.YtkbafjceglhjhaaGreatDoor.Sh
namespace Go.Proofs.YtkbafjceglhjhaaGreatDoor.Er
open Go.Sy Go Go.Proofs.YtkbafjceglhjhaaGreatDoor.Ed Go.Proofs.YtkbafjceglhjhaaGreatDoor.Sh
theorem Agu {s:Sh7} (h1:s.ne * 40 <= 140737488355328) (h2:s.nx * 40 <= 140737488355328) (h3:s.nr * 8 <= 140737488355328) (h4:s.nc * 24 <= 140737488355328) (h5:∀ i,i<s.nc->(s.C i).1 * 8 <= 140737488355328):(shT UC [E2 s]).sem=some (bV true,[]):=by
 show (Sh.apS (E2 s) UC).sem=_;rw [Sh.apS_sem];have hs:∀ n:Nat,n * 8 <= 140737488355328->Au n=true:=λn h=>decide_eq_true (by omega);have hb:Ak (Au s.ne) (Ak (Au s.nx) (Ak (Au s.nr) (Ak (Au s.nc) (Bo s.nc (λi=>Au (s.C i).1)))))=true :=
  (EA (hs _ (by omega))).trans<|(EA (hs _ (by omega))).trans<|(EA (hs _ (by omega))).trans<|(EA (hs _ (by omega))).trans<|AO.2 λi hi=>hs _ (h5 i hi)
 unfold UC;rw [show Dg s.ne=true from decide_eq_true h1,hb];cases ieq (FK s) 0 <;> rfl
end Go.Proofs.YtkbafjceglhjhaaGreatDoor.Er
namespace Go.Proofs.YtkbafjceglhjhaaGreatDoor.Er
open Go.Sy Go Go.Proofs.YtkbafjceglhjhaaGreatDoor.Ed Go.Proofs.YtkbafjceglhjhaaGreatDoor.Sh
open Int (ofNat)
set_option maxRecDepth 100000
set_option maxHeartbeats 1000000
def inR (u:Nat) (e:Nt) (r:Nat->Vl):Nat->Vl:=bif ieq e.th (ofNat u) && (ilt 0 e.rg && ilt e.rg 32) then Fb r (toN e.rg) ⟨e.nm,0⟩ else r
def inF (u:Nat) (l:List Nt):Nat->Nat->Vl
 | 0=>λ_=>⟨[],0⟩
 | i+1=>inR u (M9 l i) (inF u l i)
section
variable {u:Nat} {e:Nt} {r:Nat->Vl}
theorem in2 (h1:ieq e.th (ofNat u)=true) (h2:ilt 0 e.rg=true) (h3:ilt e.rg 32=true):B1 (λk=>vlV (r k)) (toN e.rg) (.agg [.str e.nm,iV 0])=λk=>vlV (inR u e r k):=by
 unfold inR;rw [h1,h2,h3];exact Ue (x:=⟨e.nm,0⟩)
theorem in0 (h:ieq e.th (ofNat u)=false ∨ ilt 0 e.rg=false ∨ ilt e.rg 32=false):(λk=>vlV (r k))=λk=>vlV (inR u e r k):=by
 unfold inR;rcases h with h | h | h
 ·rw [h]; rfl
 ·rw [h]; simp
 ·rw [h]; simp
end
section
variable (s:Sh7) (nt:Nat) (td:Nat->Int)
def AiI (u:Nat) (q c:Int) (g:Nat->V):St:=⟨jsV 202 0 Ab [(1,.sl 1 nt (λi=>iV (td i))),(2,.ptr 0 0),(5,.jref 1),(7,.ref 2),(11,iV q),(12,nV u),(13,.ptr 4 0),(14,iV c)],[.cells [iV s.arch,.sl 6 s.ne (λi=>eV (s.E i)),.sl 5 s.nx (λi=>evV (s.X i)),iV s.tt,iV s.kk,.sl 1 s.nr (λi=>iV (s.R i)),.sl 1 s.nc (λu=>.sl 1 (s.C u).1 (λi=>iV ((s.C u).2 i)))],codJ s,.row 68 5 (Dz (inL s (toN s.tt))) (IV (inL s (toN s.tt))),.row 66 2 32 g,.cells [.ref 3,iV 0]]⟩
def AlV (u:Nat) (q:Int) (i:Nat):St:=AiI s nt td u q (ofNat i) (λk=>vlV (inF u (inL s (toN s.tt)) i k))
def ApA (u:Nat) (q:Int) (r:Nat->Vl):Ex×St:=(.ex 2,⟨jsV 202 0 Ab [(1,.sl 1 nt (λi=>iV (td i))),(2,.ptr 0 0),(5,.jref 1),(7,.ref 2),(11,iV q),(12,nV u),(13,.ptr 4 0)],[.cells [iV s.arch,.sl 6 s.ne (λi=>eV (s.E i)),.sl 5 s.nx (λi=>evV (s.X i)),iV s.tt,iV s.kk,.sl 1 s.nr (λi=>iV (s.R i)),.sl 1 s.nc (λu=>.sl 1 (s.C u).1 (λi=>iV ((s.C u).2 i)))],codJ s,.row 68 5 (Dz (inL s (toN s.tt))) (IV (inL s (toN s.tt))),Wp r,.cells [.ref 3,iV 0]]⟩)
def T7 (q c:Int):St:=⟨jsV 202 0 Ab [(1,.sl 1 nt (λi=>iV (td i))),(2,.ptr 0 0),(5,.jref 1),(7,.ref 2),(11,iV q),(12,iV c)],[.cells [iV s.arch,.sl 6 s.ne (λi=>eV (s.E i)),.sl 5 s.nx (λi=>evV (s.X i)),iV s.tt,iV s.kk,.sl 1 s.nr (λi=>iV (s.R i)),.sl 1 s.nc (λu=>.sl 1 (s.C u).1 (λi=>iV ((s.C u).2 i)))],codJ s,.row 68 5 (Dz (inL s (toN s.tt))) (IV (inL s (toN s.tt)))]⟩
def F7 (q:Int):Ex×St:=(.ex 0,⟨jsV 202 0 Ab [(2,.ptr 0 0),(11,iV q)],[.cells [iV s.arch,.sl 6 s.ne (λi=>eV (s.E i)),.sl 5 s.nx (λi=>evV (s.X i)),iV s.tt,iV s.kk,.sl 1 s.nr (λi=>iV (s.R i)),.sl 1 s.nc (λu=>.sl 1 (s.C u).1 (λi=>iV ((s.C u).2 i)))]]⟩)
end
theorem Agp {s:Sh7} {nt u i:Nat} {td:Nat->Int} {q c:Int} {g:Nat->V} (h1:c=ofNat (i+1)) (h2:g=λk=>vlV (inR u (M9 (inL s (toN s.tt)) i) (inF u (inL s (toN s.tt)) i) k)):(Ex.nm,AiI s nt td u q c g)=(Ex.nm,AlV s nt td u q (i+1)):=by
 subst h1;rw [h2];rfl
def AhX:Lp:=⟨bmK 202 0 [1,2,5,7,11,12,13,14],5,bmK 202 0 [1,2,5,7,11,12,13],5,4611686018427387905⟩
theorem AbU {s:Sh7} (hF:plB s=true):Dz (inL s (toN s.tt)) <= 256:=by
 have h1:=SK s (toN s.tt);have h2:=BO hF;have h3:toN s.tt * s.nx <= 16 * 16:=Nat.mul_le_mul h2.2.1 h2.1;unfold Dz;omega
theorem Aqf (L:LT) {s:Sh7} {nt:Nat} {td:Nat->Int} (hF:plB s=true) {u:Nat} (q:Int):(A4 (B7 2 L) AhX 4611686018427387905 (AlV s nt td u q 0)).sem=some (ApA s nt td u q (inF u (inL s (toN s.tt)) (Dz (inL s (toN s.tt))))) :=
 JD (S:=AlV s nt td u q) (m:=Dz (inL s (toN s.tt))) (x:=ApA s nt td u q (inF u (inL s (toN s.tt)) (Dz (inL s (toN s.tt))))) (λh=>by cases h)
  (λi hi=>by
   have hw:wr .i64 (Ai (ofNat i) 1)=ofNat (i+1):=CU hi (by have:=AbU hF; omega);exact DW.rd (.k (ofNat_lt hi) <| .k (Ae hi) <| .k (decide_eq_true hi) <| .c (ieq (M9 (inL s (toN s.tt)) i).th (ofNat u)) (λh1=>.r 3 h1 <| .k (Ae hi) <| .r 2 h1 <| .k (decide_eq_true hi) <| .r 2 h1 <| .c (ilt 0 (M9 (inL s (toN s.tt)) i).rg) (λh2=>.r 3 h2 <| .k (Ae hi) <| .r 2 h2 <| .k (decide_eq_true hi) <| .r 2 h2 <| .c (ilt (M9 (inL s (toN s.tt)) i).rg 32) (λh3=>.k h3 <| .k (Ae hi) <| .k (decide_eq_true hi) <| .k (Ae hi) <| .k (decide_eq_true hi) <| .k ((EA (O4 h2)).trans h3) <| .k (TO h2 h3) <| .e (Agp hw (in2 h1 h2 h3))) λh3=>.k h3 <| .e (Agp hw (in0 (.inr (.inr h3))))) λh2=>.r 7 h2 <| .k eF <| .e (Agp hw (in0 (.inr (.inl h2))))) λh1=>.r 7 h1 <| .r 8 eF <| .e (Agp hw (in0 (.inl h1)))) (by kernel_rfl))
  (DW.rd (.k (Az (Nat.le_refl (Dz (inL s (toN s.tt))))) .l) (by kernel_rfl)) (by have:=AbU hF; omega)
inductive Stp7 (s:Sh7) (nt:Nat) (td:Nat->Int) (u:Nat) (I:In8) (a:A7):A7->Prop where
 | n (r0:a.r 0=⟨[],0⟩) (may:∀ i,i<32->I9 (a.r i)=true) (k:DoK I a.r) (hk:(doA I a.r).k=1):Stp7 s nt td u I a ⟨a.q,a.fe,doR I a.r⟩
 | f (r0:a.r 0=⟨[],0⟩) (may:∀ i,i<32->I9 (a.r i)=true) (k:DoK I a.r) (hk:(doA I a.r).k=4):Stp7 s nt td u I a ⟨a.q,(doA I a.r).fc,doR I a.r⟩
 | w (r0:a.r 0=⟨[],0⟩) (may:∀ i,i<32->I9 (a.r i)=true) (k:DoK I a.r) (hk:(doA I a.r).k=3) (hq:ile (ofNat s.nx) a.q=false) (hE:EvOK s a.q (ofNat u) (doA I a.r) a.fe):Stp7 s nt td u I a ⟨wr .i64 (Ai a.q 1),0,doR I a.r⟩
 | r (r0:a.r 0=⟨[],0⟩) (may:∀ i,i<32->I9 (a.r i)=true) (k:DoK I a.r) (hk:(doA I a.r).k=2) (hq:ile (ofNat s.nx) a.q=false) (hE:EvOK s a.q (ofNat u) (doA I a.r) a.fe) (hq0:ile 0 a.q=true) (hr0:ilt 0 (doA I a.r).rg=true) (hr1:ilt (doA I a.r).rg 32=true) :
   Stp7 s nt td u I a ⟨wr .i64 (Ai a.q 1),0,Fb (doR I a.r) (toN (doA I a.r).rg) ⟨[],tdN nt td a.q⟩⟩
inductive Run7 (s:Sh7) (nt:Nat) (td:Nat->Int) (u:Nat):List In8->A7->A7->Prop where
 | nil (a:A7):Run7 s nt td u [] a a
 | cons {I:In8} {l:List In8} {a b c:A7} (h:Stp7 s nt td u I a b) (t:Run7 s nt td u l b c):Run7 s nt td u (I::l) a c
section
variable {s:Sh7} {nt:Nat} {td:Nat->Int} {u:Nat}
theorem Run7.app {l m:List In8} {a b c:A7} (h:Run7 s nt td u l a b) (t:Run7 s nt td u m b c):Run7 s nt td u (l++m) a c:=by
 induction h with
 | nil a=>exact t
 | cons h _ ih=>exact .cons h (ih t)
theorem Al5 {I:In8} (h:IsI I):rgB I.a=true∧rgB I.b=true:=by
 cases h with
 | lw _ ha=>exact ⟨ha,rfl⟩
 | sw ha _=>exact ⟨ha,rfl⟩
 | ori ha _ _=>exact ⟨ha,rfl⟩
 | xor _ ha=>exact ⟨ha,ha⟩
 | add hb _=>exact ⟨rfl,hb⟩
 | bne ha _ _=>exact ⟨ha,rfl⟩
 | lab _=>exact ⟨rfl,rfl⟩
 | fen _ _=>exact ⟨rfl,rfl⟩
theorem w7 (L:LT) (hg:Gs s) (hx:Gx s) {i:Nat} {a a':A7} (hu:u<toN s.tt) (hi:i<Cr (cdL s s.nx u)) (h:Stp7 s nt td u (I6 s u i) a a') :
  IP (B7 4 L) Nq [0,1,2,5,4] (MQ s nt td u (ofNat i) a)=some (Ex.nm,MQ s nt td u (wr .i64 (Ai (ofNat i) 1)) a'):=by
 have hI:IsI (I6 s u i):=YN hg hx u s.nx (Nat.le_refl _) _ (UV hi);have hw:ile (wr .i64 (Ai (ofNat i) 1)) (ofNat i)=false:=by
  rw [CU hi (by have:=Ts hg u; omega)];exact decide_eq_false (by show ¬ (((i+1:Nat):Int) <= (i:Int)); omega)
 have hD:∀ (_:a.r 0=⟨[],0⟩) (_:∀ i,i<32->I9 (a.r i)=true) (_:DoK (I6 s u i) a.r),DoOK (Cr (cdL s s.nx u)) (I6 s u) 32 a.r (ofNat i):=λr0 may k=>⟨⟨rfl,⟨i,rfl,hi⟩,r0,may⟩,Ao0 hg hx u,Al5 hI,k⟩;cases h with
 | n r0 may k hk=>exact ApO L hu hi hw (hD r0 may k) hk
 | f r0 may k hk=>exact ApP L hu hi hw (hD r0 may k) hk
 | w r0 may k hk hq hE=>exact ApM L hu hi hw (hD r0 may k) hk hq hE
 | r r0 may k hk hq hE hq0 hr0 hr1=>exact ApN L hu hi hw (hD r0 may k) hk hq hE hq0 hr0 hr1
theorem XD (L:LT) (hg:Gs s) (hx:Gx s) (hu:u<toN s.tt):∀ (l:List In8) (k m:Nat) (a e:A7),l=(cdL s s.nx u).drop k->k+l.length=Cr (cdL s s.nx u)->l.length<m->Run7 s nt td u l a e ->
  (Jd (B7 4 L) Nq [0,1,2,5,4] m (MQ s nt td u (ofNat k) a)).sem=some (Ama s nt td u e)
 | [],k,m,a,e,_,hk,hm,hr=>by
  obtain ⟨m,rfl⟩:∃ o,m=o+1:=⟨m-1,by omega⟩;cases hr;have hk:k=Cr (cdL s s.nx u):=by simpa using hk
  exact AcR (λh=>by cases h) (DW.rn (r:=Ama s nt td u a) (.k (Ae hu) <| .k (decide_eq_true hu) <| .r 2 eT <| .k (Az (Nat.le_of_eq hk.symm)) .l) (by kernel_rfl))
 | I::l,k,m,a,e,hd,hk,hm,hr=>by
  obtain ⟨m,rfl⟩:∃ o,m=o+1:=⟨m-1,by omega⟩;cases hr with
  | cons h t =>
   rename_i b;have hk:k+(l.length+1)=Cr (cdL s s.nx u):=by simpa using hk
   have hlt:k<Cr (cdL s s.nx u):=by omega
   have hI:I6 s u k=I:=by
    unfold I6 K3;rw [List.getD_eq_getElem?_getD];have:(cdL s s.nx u)[k]? = some I:=by
     have:=congrArg (λl=>l[0]?) hd;simpa using this.symm
    rw [this];rfl
   rw [<- hI] at h;rw [AcQ (w7 L hg hx hu hlt h),CU hlt (by have:=Ts hg u; omega)];exact XD L hg hx hu l (k+1) m b e (by have:=congrArg List.tail hd; simpa using this) (by omega) (by simp at hm; omega) t
theorem Aqe (L:LT) (hg:Gs s) (hx:Gx s) (hu:u<toN s.tt) {a e:A7} (h:Run7 s nt td u (cdL s s.nx u) a e):(Jd (B7 4 L) Nq [0,1,2,5,4] 4611686018427387905 (MQ s nt td u 0 a)).sem=some (Ama s nt td u e) :=
 XD L hg hx hu (cdL s s.nx u) 0 _ a e rfl (by simp [Cr]) (by have:=Ts hg u; unfold Cr at this; omega) h
end
def Ap4 (s:Sh7) (nt:Nat) (td:Nat->Int):Prop:=∀ u,u<toN s.tt->∃ r,Run7 s nt td u (cdL s s.nx u) ⟨ofNat (q0 s u),0,inF u (inL s (toN s.tt)) (Dz (inL s (toN s.tt)))⟩ ⟨ofNat (q0 s (u+1)),0,r⟩
def lp7:Lp:=⟨bmK 202 0 [1,2,5,7,11,12],3,bmK 202 0 [2,11],1,4611686018427387905⟩
def ls7:List (Nat×Lp×List (Nat×(Nat->V))):=[(0,lp7,[]),(2,AhX,[])]
def Lq7:LT:=AgT 4 Nq [0,1,2,5,4] ls7
theorem r7 {s:Sh7} {nt:Nat} {td:Nat->Int} (hg:Gs s) (hx:Gx s) (hT:Ap4 s nt td):(A4 (B7 0 Lq7) lp7 4611686018427387905 (T7 s nt td (ofNat (q0 s 0)) 0)).sem=some (F7 s (ofNat (q0 s (toN s.tt)))) :=
 JD (S:=λu=>T7 s nt td (ofNat (q0 s u)) (ofNat u)) (m:=toN s.tt) (x:=F7 s (ofNat (q0 s (toN s.tt)))) (λh=>by cases h)
  (λu hu=>by
   obtain ⟨r,hr⟩:=hT u hu;exact DW.rd (.k (ofNat_lt hu) <| .k (show EL 24 32 32=true by decide) <| .a (Aqf Lq7 (nt:=nt) (td:=td) (NR hg) (u:=u) (ofNat (q0 s u))) <| .a (Aqe Lq7 hg hx hu hr) <|
    .e (show (Ex.nm,T7 s nt td (ofNat (q0 s (u+1))) (wr .i64 (Ai (ofNat u) 1)))=(Ex.nm,T7 s nt td (ofNat (q0 s (u+1))) (ofNat (u+1))) from by rw [CU hu (by have:=Ahx hg; omega)])) (by kernel_rfl))
  (DW.rd (.k (Az (Nat.le_refl (toN s.tt))) .l) (by kernel_rfl)) (by have:=Ahx hg; omega)
end Go.Proofs.YtkbafjceglhjhaaGreatDoor.Er
namespace Go.Proofs.YtkbafjceglhjhaaGreatDoor.Er
open Go.Sy Go Go.Proofs.YtkbafjceglhjhaaGreatDoor.Ed Go.Proofs.YtkbafjceglhjhaaGreatDoor.Sh
open Int (ofNat)
set_option maxRecDepth 100000
set_option maxHeartbeats 1000000
def kOK (e:E6):Bool:=!A9 e || !ieq e.kind 5
theorem AcK:(List.range 112).all (λk=>kOK (Dw k))=true:=by kernel_rfl
theorem Al0 {e:E6} (h:Bl e=0):kOK e=true:=by
 rcases DY e with ⟨k,hk,_,_,he,_⟩ | ⟨h2,_⟩
 ·rw [<- he]
  exact List.all_eq_true.1 AcK k (by simpa using hk)
 ·rw [h2] at h
  cases h
theorem AoK {s:Sh7} (h:ieq (FK s) 0=true):∀ i,i<s.nx->kOK (s.E i)=true:=by
 have hg:=good h;have hc:Dl s=true:=by
  cases hc:Dl s with
  | true=>rfl
  | false =>unfold FK at h;rw [hc] at h;cases h
 unfold Dl at hc;obtain ⟨h1,hc⟩:=AI hc;unfold IK at hc;obtain ⟨_,hc⟩:=AI hc;obtain ⟨_,hc⟩:=AI hc;obtain ⟨_,hc⟩:=AI hc;obtain ⟨hE,_⟩:=AI hc;have hG:=EF (Bt h1);intro i hi;have hne:=hg.ne;rw [(IN.1 hE).2 i (by omega)];exact Al0 (F2.1 hG.may i (by omega))
section
variable {r:Nat->Vl} {k i:Nat} {x:Vl}
theorem MW:Fb r k x k=x:=by
 unfold Fb;rw [Nat.beq_refl];rfl
theorem KO (h:i ≠ k):Fb r k x i=r i:=by
 unfold Fb;rw [show Nat.beq i k=false from by
  cases hb:Nat.beq i k with
  | false=>rfl
  | true=>exact absurd (Nat.eq_of_beq_eq_true hb) h]
 rfl
end
theorem AhT {v:Int} (h1:ile (-2147483648) v=true) (h2:ile v 2147483647=true):I9 ⟨[],v⟩=true:=by
 show Ak (ile (-2147483648) v) (ile v 2147483647)=true;rw [h1,h2];rfl
theorem Aog {v:Int} (h1:ile (-2048) v=true) (h2:ile v 2047=true):I9 ⟨[],v⟩=true :=
 AhT (decide_eq_true (by have:=of_decide_eq_true h1; omega)) (decide_eq_true (by have:=of_decide_eq_true h2; omega))
theorem Alk {nt:Nat} {td:Nat->Int} {q:Int}:I9 ⟨[],tdN nt td q⟩=true:=by
 unfold tdN;cases h1:ilt q (ofNat nt) with
 | false=>rfl
 | true =>
  cases h2:ile (-2147483648) (td (toN q)) with
  | false=>rfl
  | true =>
   cases h3:ile (td (toN q)) 2147483647 with
   | false=>rfl
   | true=>exact AhT h2 h3
theorem AfC {k:Nat} (h:k<16):I9 ⟨BA (ofNat k),0⟩=true:=by
 unfold I9;show (bif seq (BA (ofNat k)) [] then _ else Ak (ieq 0 0) (nm2 (BA (ofNat k))))=true;rw [Yc h,Af1 h];rfl
structure Inv7 (s:Sh7) (u:Nat) (r:Nat->Vl):Prop where
 r0:r 0=⟨[],0⟩
 loc:∀ k,k<B5 (locL s s.nx u)->r (7+k)=⟨BA (Ew (locL s s.nx u) k),0⟩
 may:∀ i,i<32->I9 (r i)=true
theorem Inv7.up {s:Sh7} {u k:Nat} {r:Nat->Vl} {x:Vl} (h:Inv7 s u r) (hk:k=5 ∨ k=6 ∨ 7+B5 (locL s s.nx u) <= k) (hx:I9 x=true):Inv7 s u (Fb r k x):=by
 refine ⟨?_,λj hj=>?_,λi hi=>?_⟩
 ·rw [KO (by omega)]; exact h.r0
 ·rw [KO (by omega)]; exact h.loc j hj
 ·by_cases e:i=k
  ·subst e; rw [MW]; exact hx
  ·rw [KO e]; exact h.may i hi
section
variable {s:Sh7} (hg:Gs s) (hx:Gx s)
theorem XW {u j:Nat} (hj:j<B5 (locL s s.nx u)):∀ t,u<t->ntI s u j ∈ inL s t
 | 0,h=>absurd h (Nat.not_lt_zero _)
 | t+1,h=>by
  rw [inL];by_cases e:u=t
  ·subst e
   exact List.mem_append_right _ (List.mem_map.2 ⟨j,by simpa using hj,rfl⟩)
  ·exact List.mem_append_left _ (XW hj t (by omega))
theorem Al6 {l:List Nt} {i:Nat} (hi:i<Dz l):M9 l i ∈ l:=by
 unfold Dz at hi;unfold M9;rw [List.getD_eq_getElem?_getD,List.getElem?_eq_getElem hi];exact List.getElem_mem hi
include hg hx
theorem Alp {u j:Nat} (hj:j<B5 (locL s s.nx u)):∃ k,k<16∧Ew (locL s s.nx u) j=ofNat k:=by
 have _:=hg;refine S8 hx u s.nx (Nat.le_refl _) _ ?_;unfold B5 at hj;unfold Ew;rw [List.getD_eq_getElem?_getD,List.getElem?_eq_getElem hj];exact List.getElem_mem hj
theorem Yu (u:Nat) {i:Nat} (hi:i<Dz (inL s (toN s.tt))) (r:Nat->Vl):∃ t j,j<B5 (locL s s.nx t)∧M9 (inL s (toN s.tt)) i=ntI s t j∧inR u (M9 (inL s (toN s.tt)) i) r=if t=u then Fb r (7+j) ⟨BA (Ew (locL s s.nx t) j),0⟩ else r:=by
 obtain ⟨t,j,hj,e⟩:=Yw _ _ (Al6 hi);refine ⟨t,j,hj,e,?_⟩;have h12:=Ky hg hx t;rw [e];unfold inR ntI;rw [show ilt 0 (ofNat (7+j))=true from decide_eq_true (by show (0:Int)<((7+j:Nat):Int); omega),show ilt (ofNat (7+j)) 32=true from decide_eq_true (by show ((7+j:Nat):Int)<32; omega)];by_cases h:t=u
 ·subst h
  rw [eI,if_pos rfl];rfl
 ·rw [Alb,show Nat.beq t u=false from by
   cases hb:Nat.beq t u with
   | false=>rfl
   | true=>exact absurd (Nat.eq_of_beq_eq_true hb) h,if_neg h]
  rfl
theorem Yv (u:Nat):∀ m,m <= Dz (inL s (toN s.tt))->inF u (inL s (toN s.tt)) m 0=⟨[],0⟩∧∀ i,i<32->I9 (inF u (inL s (toN s.tt)) m i)=true
 | 0,_=>⟨rfl,λ_ _=>rfl⟩
 | m+1,hm=>by
  obtain ⟨h0,h1⟩:=Yv u m (by omega);obtain ⟨t,j,hj,_,e⟩:=Yu hg hx u (show m<Dz (inL s (toN s.tt)) by omega) (inF u (inL s (toN s.tt)) m);rw [inF,e];by_cases h:t=u
  ·rw [if_pos h]
   refine ⟨by rw [KO (by omega)]; exact h0,λi hi=>?_⟩;by_cases e:i=7+j
   ·subst e
    rw [MW];obtain ⟨k,hk,e⟩:=Alp hg hx hj;rw [e];exact AfC hk
   ·rw [KO e]
    exact h1 i hi
  ·rw [if_neg h]
   exact ⟨h0,h1⟩
theorem AcY (u j:Nat):∀ m,m <= Dz (inL s (toN s.tt))->(∃ i,i<m∧M9 (inL s (toN s.tt)) i=ntI s u j)->inF u (inL s (toN s.tt)) m (7+j)=⟨BA (Ew (locL s s.nx u) j),0⟩
 | 0,_,h=>by obtain ⟨i,hi,_⟩:=h; exact absurd hi (Nat.not_lt_zero _)
 | m+1,hm,h=>by
  obtain ⟨i,hi,he⟩:=h;obtain ⟨t,k,_,e1,e⟩:=Yu hg hx u (show m<Dz (inL s (toN s.tt)) by omega) (inF u (inL s (toN s.tt)) m);rw [inF,e];have go:(t=u->k=j->False)->inF u (inL s (toN s.tt)) m (7+j)=⟨BA (Ew (locL s s.nx u) j),0⟩:=λhn=>AcY u j m (by omega) ⟨i,by
   by_cases him:i=m
   ·subst him
    rw [he] at e1;unfold ntI at e1;injection e1 with e2 e3 _
    exact absurd (by have:=Int.ofNat.inj e3; omega) (hn (Int.ofNat.inj e2).symm)
   ·omega,he⟩
  by_cases h:t=u
  ·rw [if_pos h]
   by_cases hk:k=j
   ·rw [hk,MW,h]
   ·rw [KO (by omega)]
    exact go λ_ h=>hk h
  ·rw [if_neg h]
   exact go λh'=>absurd h' h
theorem AoE {u:Nat} (hu:u<toN s.tt):Inv7 s u (inF u (inL s (toN s.tt)) (Dz (inL s (toN s.tt)))):=by
 obtain ⟨h0,h1⟩:=Yv hg hx u _ (Nat.le_refl _);refine ⟨h0,λj hj=>AcY hg hx u j _ (Nat.le_refl _) ?_,h1⟩;obtain ⟨i,hi,e⟩:=List.getElem_of_mem (XW hj (toN s.tt) hu);refine ⟨i,hi,?_⟩;unfold M9;rw [List.getD_eq_getElem?_getD,List.getElem?_eq_getElem hi,e];rfl
end
section
variable {s:Sh7} (hg:Gs s) (hx:Gx s) {nt:Nat} {td:Nat->Int} {u i:Nat} (hi:i<s.nx) (ht:tN s i=u)
def Fe7 (s:Sh7) (i:Nat) (fe:Int):Prop:=(ieq (pe6 s (ofNat i)).kind 5=false∧fe=0) ∨ (ieq (pe6 s (ofNat i)).kind 5=true∧fe=(pe6 s (ofNat i)).fence)
include hg hi ht
theorem th7:toN (s.X i).th=u:=by rw [Ae2 hg hi,ht]
theorem ev7 {fe:Int} (hf:Fe7 s i fe) {A:Ac} (hl:A.lc=BA (s.X i).loc) (hd:(ieq (s.X i).dir 1=true∧A.k=2) ∨ (ieq (s.X i).dir 1=false∧A.k=3∧A.v=(s.X i).val)):EvOK s (ofNat i) (ofNat u) A fe :=
 ⟨⟨i,rfl,hi⟩,⟨u,rfl⟩,(AoM hg hi 0 0 0).hE,hf,by
  show ieq (s.X i).th (ofNat u)=true;rw [hg.th i hi,<- ht];exact eI _,hl,hd⟩
include hx
theorem Aq8:∃ k,k<16∧(s.X i).loc=ofNat k :=
 have _:=hg;have _:=ht
 hx.loc i hi
theorem ne7 {r:Nat->Vl} {a:Int} (ha:r (toN a)=⟨BA (s.X i).loc,0⟩):seq (r (toN a)).lc []=false:=by
 obtain ⟨k,hk,e⟩:=Aq8 hg hx hi ht;rw [ha];show seq (BA (s.X i).loc) []=false;rw [e];exact Yc hk
theorem lw7 {r:Nat->Vl} {a fe:Int} (h:Inv7 s u r) (ha:r (toN a)=⟨BA (s.X i).loc,0⟩) (hf:Fe7 s i fe) (hd:ieq (s.X i).dir 1=true) :
  ∃ r',Inv7 s u r'∧Run7 s nt td u [lwI s i a] ⟨ofNat i,fe,r⟩ ⟨ofNat (i+1),0,r'⟩:=by
 have hT:isT s u i=true:=by unfold isT; rw [th7 hg hi ht]; exact Nat.beq_refl u
 have e:=(An8 hi hT (show isR s i=true from hd)).1;have h12:=Ky hg hx u;have hn:=AhN hg hx hi hT;have hA:=Api (I:=lwI s i a) (r:=r) rfl;have st:=Stp7.r (s:=s) (nt:=nt) (td:=td) (u:=u) (I:=lwI s i a) (a:=⟨ofNat i,fe,r⟩) h.r0 h.may (.lw rfl (ne7 hg hx hi ht ha)) (by rw [hA]) (decide_eq_false (by show ¬ ((s.nx:Int) <= (i:Int)); omega))
  (ev7 hg hi ht hf (by rw [hA]; show (r (toN a)).lc=_; rw [ha]) (.inl ⟨hd,by rw [hA]⟩)) (decide_eq_true (Int.natCast_nonneg _))
  (by rw [hA]; show ilt 0 (rI9 s i)=true; rw [e]; exact decide_eq_true (by show (0:Int)<((_:Nat):Int); omega))
  (by rw [hA]; show ilt (rI9 s i) 32=true; rw [e]; exact decide_eq_true (by show ((_:Nat):Int)<32; omega))
 rw [show wr .i64 (Ai (A7.mk (ofNat i) fe r).q 1)=ofNat (i+1) from nxt hg hi] at st;refine ⟨_,?_,.cons st (.nil _)⟩;rw [hA];show Inv7 s u (Fb r (toN (rI9 s i)) _);rw [e];exact h.up (.inr (.inr (by show 7+B5 (locL s s.nx u) <= 7+B5 (locL s s.nx u)+nrF s i u; omega))) Alk
theorem sw7 {r:Nat->Vl} {a fe:Int} (h:Inv7 s u r) (ha:r (toN a)=⟨BA (s.X i).loc,0⟩) (h5:r 5=⟨[],(s.X i).val⟩) (hf:Fe7 s i fe) (hd:ieq (s.X i).dir 1=false) :
  Run7 s nt td u [swI a] ⟨ofNat i,fe,r⟩ ⟨ofNat (i+1),0,r⟩:=by
 have hA:=Aph (I:=swI a) (r:=r) rfl;have st:=Stp7.w (s:=s) (nt:=nt) (td:=td) (u:=u) (I:=swI a) (a:=⟨ofNat i,fe,r⟩) h.r0 h.may (.sw rfl (ne7 hg hx hi ht ha) (by show seq (r 5).lc []=true; rw [h5]; rfl)) (by rw [hA]) (decide_eq_false (by show ¬ ((s.nx:Int) <= (i:Int)); omega))
  (ev7 hg hi ht hf (by rw [hA]; show (r (toN a)).lc=_; rw [ha]) (.inr ⟨hd,by rw [hA],by rw [hA]; show (r 5).n=_; rw [h5]⟩))
 rw [show wr .i64 (Ai (A7.mk (ofNat i) fe r).q 1)=ofNat (i+1) from nxt hg hi] at st;exact .cons st (.nil _)
omit ht in
theorem or7 {r:Nat->Vl} {a q fe:Int} (h:Inv7 s u r) (ha:r (toN a)=⟨[],0⟩):Stp7 s nt td u ⟨8,5,a,0,(s.X i).val,[],[],0⟩ ⟨q,fe,r⟩ ⟨q,fe,Fb r 5 ⟨[],(s.X i).val⟩⟩∧Inv7 s u (Fb r 5 ⟨[],(s.X i).val⟩) :=
 have _:=hg
 ⟨Stp7.n (s:=s) (nt:=nt) (td:=td) (u:=u) (I:=⟨8,5,a,0,(s.X i).val,[],[],0⟩) (a:=⟨q,fe,r⟩) h.r0 h.may (.ori rfl ha (hx.val i hi).1 (hx.val i hi).2 rfl) rfl,h.up (.inl rfl) (Aog (hx.val i hi).1 (hx.val i hi).2)⟩
omit hg hx hi ht in
theorem xr7 {r:Nat->Vl} {a d q fe:Int} (hd:d=5 ∨ d=6) (h:Inv7 s u r):Stp7 s nt td u ⟨9,d,a,a,0,[],[],0⟩ ⟨q,fe,r⟩ ⟨q,fe,Fb r (toN d) ⟨[],0⟩⟩∧Inv7 s u (Fb r (toN d) ⟨[],0⟩) :=
 ⟨Stp7.n (s:=s) (nt:=nt) (td:=td) (u:=u) (I:=⟨9,d,a,a,0,[],[],0⟩) (a:=⟨q,fe,r⟩) h.r0 h.may (.xor rfl rfl hd) rfl,h.up (k:=toN d) (by rcases hd with rfl | rfl <;> first | exact .inl rfl | exact .inr (.inl rfl)) rfl⟩
theorem st7 {r:Nat->Vl} {a fe:Int} (h:Inv7 s u r) (ha:r (toN a)=⟨BA (s.X i).loc,0⟩) (ha5:toN a ≠ 5) (hf:Fe7 s i fe) (hd:ieq (s.X i).dir 1=false) :
  ∃ r',Inv7 s u r'∧Run7 s nt td u [or0 s i,swI a] ⟨ofNat i,fe,r⟩ ⟨ofNat (i+1),0,r'⟩:=by
 obtain ⟨s1,i1⟩:=or7 (nt:=nt) (td:=td) (a:=0) (q:=ofNat i) (fe:=fe) hg hx hi h h.r0;exact ⟨_,i1,.cons s1 (sw7 hg hx hi ht i1 (by rw [KO ha5]; exact ha) MW hf hd)⟩
theorem tl7 {r:Nat->Vl} {a fe:Int} (h:Inv7 s u r) (ha:r (toN a)=⟨BA (s.X i).loc,0⟩) (ha5:toN a ≠ 5) (hf:Fe7 s i fe):∃ r',Inv7 s u r'∧Run7 s nt td u (tl9 s i a).flatten ⟨ofNat i,fe,r⟩ ⟨ofNat (i+1),0,r'⟩:=by
 unfold tl9;cases hd:ieq (s.X i).dir 1 with
 | true=>exact lw7 hg hx hi ht h ha hf hd
 | false =>
  cases ieq (ed9 s i).kind 7 with
  | false=>exact st7 hg hx hi ht h ha ha5 hf hd
  | true =>obtain ⟨s1,i1⟩:=xr7 (nt:=nt) (td:=td) (a:=rP9 s i) (d:=5) (q:=ofNat i) (fe:=fe) (.inl rfl) h;obtain ⟨s2,i2⟩:=or7 (nt:=nt) (td:=td) (a:=5) (q:=ofNat i) (fe:=fe) hg hx hi i1 MW;exact ⟨_,i2,.cons s1 (.cons s2 (sw7 hg hx hi ht i2 (by rw [KO ha5,KO (show toN a ≠ toN 5 from ha5)]; exact ha) MW hf hd))⟩
theorem at7:∃ k,k<B5 (locL s s.nx u)∧at9 s i=ofNat (7+k)∧Ew (locL s s.nx u) k=(s.X i).loc:=by
 have h12:=Ky hg hx u;obtain ⟨k,h1,h2,h3⟩:=V2 (f:=Ew (locL s s.nx u)) (lc:=(s.X i).loc) (by omega) (loc_in s u s.nx hg.hi i hi (by unfold isT; rw [th7 hg hi ht]; exact Nat.beq_refl u));refine ⟨k,h1,?_,h3⟩;unfold at9;rw [th7 hg hi ht];exact h2
theorem ApZ (hK:∀ i,i<s.nx->kOK (s.E i)=true) {r:Nat->Vl} (h:Inv7 s u r):∃ r',Inv7 s u r'∧Run7 s nt td u (Es s i).flatten ⟨ofNat i,0,r⟩ ⟨ofNat (i+1),0,r'⟩:=by
 obtain ⟨k,hk,hat,hloc⟩:=at7 hg hx hi ht;have ha:∀ {r:Nat->Vl},Inv7 s u r->r (toN (at9 s i))=⟨BA (s.X i).loc,0⟩:=λh=>by
  rw [hat];show _=Vl.mk (BA (s.X i).loc) 0;rw [<- hloc];exact h.loc k hk
 have ha5:toN (at9 s i) ≠ 5:=by
  rw [hat];show 7+k ≠ 5;omega
 have ha6:toN (at9 s i) ≠ 6:=by
  rw [hat];show 7+k ≠ 6;omega
 have hP:=AhK hg hi;rw [RY];cases hpl:ilt 0 (s.X i).pl with
 | true =>
  obtain ⟨h0,hob⟩:=AbG hg hi hpl;have hed:=Apd hg h0 hi;rw [cond_true];cases k5:ieq (ed9 s i).kind 5 with
  | true =>have st:=Stp7.f (s:=s) (nt:=nt) (td:=td) (u:=u) (I:=fcI s i) (a:=⟨ofNat i,0,r⟩) h.r0 h.may (.o (.inr (.inr rfl))) rfl;obtain ⟨r',i1,g⟩:=tl7 (nt:=nt) (td:=td) (fe:=(ed9 s i).fence) hg hx hi ht h (ha h) ha5 (.inr ⟨by rw [<- hed]; exact k5,by rw [hed]⟩);exact ⟨r',i1,.cons st g⟩
  | false =>
   have hf:Fe7 s i 0:=.inl ⟨by rw [<- hed]; exact k5,rfl⟩;cases ieq (ed9 s i).kind 8 with
   | true =>obtain ⟨r',i1,g⟩:=tl7 (nt:=nt) (td:=td) hg hx hi ht h (ha h) ha5 hf;exact ⟨r',i1,.cons (.n h.r0 h.may (.o (.inl rfl)) rfl) (.cons (.n (I:=lbI (GG (lbN s i))) h.r0 h.may (.o (.inr (.inl rfl))) rfl) g)⟩
   | false =>
    cases ieq (ed9 s i).kind 6 with
    | true =>
     obtain ⟨s1,i1⟩:=xr7 (nt:=nt) (td:=td) (a:=rP9 s i) (d:=6) (q:=ofNat i) (fe:=0) (.inr rfl) h;have s2:=Stp7.n (s:=s) (nt:=nt) (td:=td) (u:=u) (I:=ad6 s i) (a:=⟨ofNat i,0,Fb r (toN 6) ⟨[],0⟩⟩) i1.r0 i1.may (.add rfl (show Fb r 6 ⟨[],0⟩ 6=⟨[],0⟩ from MW) (ne7 hg hx hi ht (ha i1)) rfl) rfl;have e:Fb r 6 ⟨[],0⟩ (toN (at9 s i))=⟨BA (s.X i).loc,0⟩:=ha i1;have i2:Inv7 s u (Fb (Fb r 6 ⟨[],0⟩) 6 (Fb r 6 ⟨[],0⟩ (toN (at9 s i)))):=i1.up (.inr (.inl rfl)) (i1.may _ (by
      have:=Ky hg hx u;rw [hat];show 7+k<32;omega))
     obtain ⟨r',i3,g⟩:=tl7 (nt:=nt) (td:=td) (a:=6) hg hx hi ht i2 (by show Fb _ 6 _ 6=_; rw [MW]; exact e) (by decide) hf;exact ⟨r',i3,.cons s1 (.cons s2 g)⟩
    | false=>exact tl7 hg hx hi ht h (ha h) ha5 hf
 | false =>
  have hob:obE s (pvN s i)=true:=by
   by_cases h1:i=0
   ·subst h1
    have:=hg.lo;have e:pvN s 0=s.nx-1:=by
     unfold pvN;rw [show 0+s.nx-1=s.nx-1 by omega,Nat.mod_eq_of_lt (by omega)]
    rw [e];exact hg.last
   ·rw [Ab9 (by omega) hi]
    cases hob:obE s (i-1) with
    | true=>rfl
    | false =>rw [Aqj hg (by omega) hob hi] at hpl;cases hpl
  have hk5:=hK _ (AhH hg (i:=i));have hob:A9 (s.E (pvN s i))=true:=hob;unfold kOK at hk5;rw [hob] at hk5;have hf:Fe7 s i 0:=.inl ⟨by
   rw [hP];simpa using hk5,rfl⟩
  rw [cond_false];cases hd:ieq (s.X i).dir 1 with
  | true=>exact lw7 hg hx hi ht h (ha h) hf hd
  | false=>exact st7 hg hx hi ht h (ha h) ha5 hf hd
end
section
variable {s:Sh7} (hg:Gs s) (hx:Gx s) {nt:Nat} {td:Nat->Int}
include hg hx
theorem AmG (hK:∀ i,i<s.nx->kOK (s.E i)=true) {u:Nat} {r:Nat->Vl} (h:Inv7 s u r):∀ m,m <= s.nx->∃ r',Inv7 s u r'∧Run7 s nt td u (cdL s m u) ⟨ofNat (q0 s u),0,r⟩ ⟨ofNat (q0 s u+Al (eqT s u) m),0,r'⟩
 | 0,_=>⟨r,h,.nil _⟩
 | m+1,hm=>by
  obtain ⟨r1,i1,g1⟩:=AmG hK h m (by omega);rw [cdL,Ae2 hg (by omega)];by_cases e:tN s m=u
  ·rw [show Nat.beq u (tN s m)=true from by rw [e]; exact Nat.beq_refl u,Bz (p:=eqT s u) (i:=m) (by unfold eqT; rw [e]; exact Nat.beq_refl u)]
   have hq:=AnL (s:=s) (show m<s.nx by omega) e;rw [hq] at g1;obtain ⟨r2,i2,g2⟩:=ApZ (nt:=nt) (td:=td) hg hx (show m<s.nx by omega) e hK i1;rw [show q0 s u+(Al (eqT s u) m+1)=m+1 by omega];exact ⟨r2,i2,g1.app g2⟩
  ·have hb:Nat.beq u (tN s m)=false:=by
    cases hb:Nat.beq u (tN s m) with
    | false=>rfl
    | true=>have:=Nat.eq_of_beq_eq_true hb; omega
   rw [hb,BL (p:=eqT s u) (i:=m) hb];exact ⟨r1,i1,g1⟩
theorem AjJ (hK:∀ i,i<s.nx->kOK (s.E i)=true):Ap4 s nt td:=λu hu=>by
 obtain ⟨r,_,g⟩:=AmG (nt:=nt) (td:=td) hg hx hK (AoE hg hx hu) s.nx (Nat.le_refl _);rw [<- Afq] at g;exact ⟨r,g⟩
end
end Go.Proofs.YtkbafjceglhjhaaGreatDoor.Er
