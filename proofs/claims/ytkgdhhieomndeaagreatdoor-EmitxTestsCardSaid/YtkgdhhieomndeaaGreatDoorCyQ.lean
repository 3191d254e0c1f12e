/-
  Why one of some edges is not to be there; how many events have one number. No conditions.
-/
import Derived.Test.YtkgdhhieomndeaaGreatDoorShBa
namespace Go.Proofs.YtkgdhhieomndeaaGreatDoor.Ed
open Go.Sy
open Int (ofNat)
def Du (a:Int) (f:Nat->E6) (i:Nat):Bool:=A6 (Al (ieq (G8 a (f i)) 0) (MI a (f i)))
def GF (n:Nat) (f:Nat->E6) (i:Nat):Bool:=A6 (ieq (f i).dst (f ((i+1) % n)).src)
noncomputable def tb86:AP:=(127,ap2 gI toE λa e=>out (RA a e))::[]
theorem tb86_ok:Av Tryz.prog Gl tb86:=.cons p32 .nil
theorem Od {i n:Nat} (h:i<n) (hn:n <= 4611686018427387904):Ag (wr .i64 (Af (ofNat i) 1)) (ofNat n)=ofNat ((i+1) % n):=by rw [Aq h hn,CO]
theorem Amh {i n:Nat} (h:i<n):ieq (ofNat n) 0=false:=by rw [show (0:Int)=ofNat 0 from rfl,Ds,decide_eq_false (by omega)]
def lp86 (a:Int) (n:Nat) (f:Nat->E6):Lp:=⟨bmK 53 0 [0,1,4,5,12,13,14],0,bmK 53 0 [1,4,5],0,n+1⟩
def QR (a:Int) (n:Nat) (f:Nat->E6) (i:Nat) (j:Nat->V):St:=⟨jsV 53 0 j [(0,iV a),(1,.sl 6 n (λi=>eV (f i))),(4,iV 0),(5,iV 0),(12,.sl 6 n (λi=>eV (f i))),(13,nV n),(14,nV i)],[]⟩
def OM (a:Int) (n:Nat) (f:Nat->E6) (i:Nat):Ex×St:=(.ex 0,⟨jsV 53 0 Aa [(1,.sl 6 n (λi=>eV (f i))),(4,iV 0),(5,iV 0)],[]⟩)
def Acm (a:Int) (n:Nat) (f:Nat->E6) (i:Nat):Ex×St:=(.rt,⟨jsV 53 0 Aa [(1,.sl 6 n (λi=>eV (f i))),(4,iV 30),(5,nV i)],[]⟩)
def Acl (a:Int) (n:Nat) (f:Nat->E6) (i:Nat):Ex×St:=(.rt,⟨jsV 53 0 Aa [(1,.sl 6 n (λi=>eV (f i))),(4,iV 5),(5,nV i)],[]⟩)
noncomputable def H9 (L:LT):St->T (Ex×St):=λst=>A7 tab ⟨Ap tb86,L,Gl⟩ (Ar Tryz.f110 0) 0 st
section
variable (L:LT) (a:Int) (n:Nat) (f:Nat->E6) (i:Nat)  (j:Nat->V)
include L a n f i j
theorem AlP (h0:ilt (ofNat i) (ofNat n)=false):Ah (H9 L) (lp86 a n f) (QR a n f i j)=some ((.ex 0),⟨jsV 53 0 Aa [(1,.sl 6 n (λi=>eV (f i))),(4,iV 0),(5,iV 0)],[]⟩):=by
 exact Ab (ks:=[kn h0]) (by kernel_rfl)
theorem AlO (h0:ilt (ofNat i) (ofNat n)=true) (h1:Al (ile 0 (ofNat i)) (ilt (ofNat i) (ofNat n))=true) (h2:ieq (G8 a (f i)) 0=false):Ah (H9 L) (lp86 a n f) (QR a n f i j)=some (.rt,⟨jsV 53 0 Aa [(1,.sl 6 n (λi=>eV (f i))),(4,iV 30),(5,nV i)],[]⟩):=by
 exact Ab (ks:=[kn h0,kn h1,kN (kn h2)]) (by kernel_rfl)
theorem AlN (h0:ilt (ofNat i) (ofNat n)=true) (h1:Al (ile 0 (ofNat i)) (ilt (ofNat i) (ofNat n))=true) (h2:ieq (G8 a (f i)) 0=true) (h3:MI a (f i)=false):Ah (H9 L) (lp86 a n f) (QR a n f i j)=some (.rt,⟨jsV 53 0 Aa [(1,.sl 6 n (λi=>eV (f i))),(4,iV 5),(5,nV i)],[]⟩):=by
 exact Ab (ks:=[kn h0,kn h1,kN (kn h2),kN (kn h3)]) (by kernel_rfl)
theorem AlM (h0:ilt (ofNat i) (ofNat n)=true) (h1:Al (ile 0 (ofNat i)) (ilt (ofNat i) (ofNat n))=true) (h2:ieq (G8 a (f i)) 0=true) (h3:MI a (f i)=true):Ah (H9 L) (lp86 a n f) (QR a n f i j)=some (.nm,⟨jsV 53 0 Aa [(0,iV a),(1,.sl 6 n (λi=>eV (f i))),(4,iV 0),(5,iV 0),(12,.sl 6 n (λi=>eV (f i))),(13,nV n),(14,iV (wr .i64 (Af (ofNat i) 1)))],[]⟩):=by
 exact Ab (ks:=[kn h0,kn h1,kN (kn h2),kN (kn h3)]) (by kernel_rfl)
end
def AeY (a:Int) (n:Nat) (f:Nat->E6) :Nat->V:=lkV A9 []
def lp86_2 (a:Int) (n:Nat) (f:Nat->E6):Lp:=⟨bmK 53 0 [1,4,5,32,33,34],0,bmK 53 0 [4,5],0,n+1⟩
def Lz (a:Int) (n:Nat) (f:Nat->E6) (i:Nat) (j:Nat->V):St:=⟨jsV 53 0 j [(1,.sl 6 n (λi=>eV (f i))),(4,iV 0),(5,iV 0),(32,.sl 6 n (λi=>eV (f i))),(33,nV n),(34,nV i)],[]⟩
def Np (a:Int) (n:Nat) (f:Nat->E6) (i:Nat):Ex×St:=(.ex 2,⟨jsV 53 0 Aa [(4,iV 0),(5,iV 0)],[]⟩)
def Nn (a:Int) (n:Nat) (f:Nat->E6) (i:Nat):Ex×St:=(.rt,⟨jsV 53 0 Aa [(4,iV 41),(5,nV i)],[]⟩)
noncomputable def Hb (L:LT):St->T (Ex×St):=λst=>A7 tab ⟨Ap tb86,L,Gl⟩ (Ar Tryz.f110 2) 2 st
section
variable (L:LT) (a:Int) (n:Nat) (f:Nat->E6) (i:Nat)  (j:Nat->V)
include L a n f i j
theorem Al9 (h0:ilt (ofNat i) (ofNat n)=false):Ah (Hb L) (lp86_2 a n f) (Lz a n f i j)=some ((.ex 2),⟨jsV 53 0 Aa [(4,iV 0),(5,iV 0)],[]⟩):=by
 exact Ab (ks:=[kn h0]) (by kernel_rfl)
theorem Al8 (h0:ilt (ofNat i) (ofNat n)=true) (h1:Al (ile 0 (ofNat i)) (ilt (ofNat i) (ofNat n))=true) (h2:ieq (ofNat n) 0=false) (h3:Al (ile 0 (Ag (wr .i64 (Af (ofNat i) 1)) (ofNat n))) (ilt (Ag (wr .i64 (Af (ofNat i) 1)) (ofNat n)) (ofNat n))=true) (h4:ieq (f i).dst (f (toN (Ag (wr .i64 (Af (ofNat i) 1)) (ofNat n)))).src=false):Ah (Hb L) (lp86_2 a n f) (Lz a n f i j)=some (.rt,⟨jsV 53 0 Aa [(4,iV 41),(5,nV i)],[]⟩):=by
 exact Ab (ks:=[kn h0,kn h1,kn h2,kn h3,kN (kn h4)]) (by kernel_rfl)
theorem Al7 (h0:ilt (ofNat i) (ofNat n)=true) (h1:Al (ile 0 (ofNat i)) (ilt (ofNat i) (ofNat n))=true) (h2:ieq (ofNat n) 0=false) (h3:Al (ile 0 (Ag (wr .i64 (Af (ofNat i) 1)) (ofNat n))) (ilt (Ag (wr .i64 (Af (ofNat i) 1)) (ofNat n)) (ofNat n))=true) (h4:ieq (f i).dst (f (toN (Ag (wr .i64 (Af (ofNat i) 1)) (ofNat n)))).src=true):Ah (Hb L) (lp86_2 a n f) (Lz a n f i j)=some (.nm,⟨jsV 53 0 Aa [(1,.sl 6 n (λi=>eV (f i))),(4,iV 0),(5,iV 0),(32,.sl 6 n (λi=>eV (f i))),(33,nV n),(34,iV (wr .i64 (Af (ofNat i) 1)))],[]⟩):=by
 exact Ab (ks:=[kn h0,kn h1,kn h2,kn h3,kN (kn h4)]) (by kernel_rfl)
end
def Ab8 (a:Int) (n:Nat) (f:Nat->E6) (i:Nat):Nat->V:=lkU 9007169189969869 []
section
variable (L:LT) (p0:PT) (a:Int) (n:Nat) (f:Nat->E6) (i:Nat)
include L p0 a n f i
theorem Ake  (hp0:p0 (H9 (onP 0 p0 (Acm a n f i) L)) (QR a n f 0 (AeY a n f ))=true):(Az (Ak tab ⟨Ap tb86,onP 0 p0 (Acm a n f i) L,Gl⟩ Tryz.f110 [iV a,AQ n f] [])).sem=some ((.tup [iV 30,nV i]),[]):=by
 exact Ab (ks:=[kn hp0]) (by kernel_rfl)
theorem Akd  (hp0:p0 (H9 (onP 0 p0 (Acl a n f i) L)) (QR a n f 0 (AeY a n f ))=true):(Az (Ak tab ⟨Ap tb86,onP 0 p0 (Acl a n f i) L,Gl⟩ Tryz.f110 [iV a,AQ n f] [])).sem=some ((.tup [iV 5,nV i]),[]):=by
 exact Ab (ks:=[kn hp0]) (by kernel_rfl)
end
section
variable (L:LT) (p0:PT) (p2:PT) (a:Int) (n:Nat) (f:Nat->E6) (i j:Nat)
include L p0 p2 a n f i j
theorem Akc  (hp0:p0 (H9 (onP 0 p0 (OM a n f i) (onP 2 p2 (Nn a n f j) L))) (QR a n f 0 (AeY a n f ))=true) (hp2:p2 (Hb (onP 0 p0 (OM a n f i) (onP 2 p2 (Nn a n f j) L))) (Lz a n f 0 (Ab8 a n f i))=true):(Az (Ak tab ⟨Ap tb86,onP 0 p0 (OM a n f i) (onP 2 p2 (Nn a n f j) L),Gl⟩ Tryz.f110 [iV a,AQ n f] [])).sem=some ((.tup [iV 41,nV j]),[]):=by
 exact Ab (ks:=[kn hp0,kn hp2]) (by kernel_rfl)
theorem Akb  (hp0:p0 (H9 (onP 0 p0 (OM a n f i) (onP 2 p2 (Np a n f j) L))) (QR a n f 0 (AeY a n f ))=true) (hp2:p2 (Hb (onP 0 p0 (OM a n f i) (onP 2 p2 (Np a n f j) L))) (Lz a n f 0 (Ab8 a n f i))=true):(Az (Ak tab ⟨Ap tb86,onP 0 p0 (OM a n f i) (onP 2 p2 (Np a n f j) L),Gl⟩ Tryz.f110 [iV a,AQ n f] [])).sem=some ((.tup [iV 0,iV 0]),[]):=by
 exact Ab (ks:=[kn hp0,kn hp2]) (by kernel_rfl)
end
theorem AfM (L:LT) (a:Int) (n:Nat) (f:Nat->E6) (hn:n <= 4611686018427387904):∀ (d i:Nat) (j:Nat->V) (q:Nat),n=i+d->d<q ->
  (A3 (H9 L) (lp86 a n f) q (QR a n f i j)).sem=some (match Bg (Du a f) d i with
   | none=>OM a n f 0
   | some t=>match ieq (G8 a (f t)) 0 with
    | false=>Acm a n f t
    | true=>Acl a n f t)
 | 0,i,j,q+1,h,_=>by
  have:n=i:=by omega
  subst this;exact Ae (AlP L a n f n j (A1 (Nat.le_refl _)))
 | d+1,i,j,q+1,h,h2=>by
  have hl:i<n:=by omega
  cases c1:ieq (G8 a (f i)) 0 with
  | false =>rw [Dj (show Du a f i=true by rw [Du,c1]; rfl)];simp only [c1];exact Ae (AlO L a n f i j (ofNat_lt hl) (Ao hl) c1)
  | true =>
   cases c2:MI a (f i) with
   | false =>rw [Dj (show Du a f i=true by rw [Du,c1,c2]; rfl)];simp only [c1];exact Ae (AlN L a n f i j (ofNat_lt hl) (Ao hl) c1 c2)
   | true =>rw [Dk (show Du a f i=false by rw [Du,c1,c2]; rfl),Ae (AlM L a n f i j (ofNat_lt hl) (Ao hl) c1 c2),Ay,Aq hl hn];exact AfM L a n f hn d (i+1) Aa q (by omega) (by omega)
theorem Aau (L:LT) (a:Int) (n:Nat) (f:Nat->E6) (hn:n <= 4611686018427387904):∀ (d i:Nat) (j:Nat->V) (q:Nat),n=i+d->d<q ->
  (A3 (Hb L) (lp86_2 a n f) q (Lz a n f i j)).sem=some (match Bg (GF n f) d i with
   | none=>Np a n f 0
   | some t=>Nn a n f t)
 | 0,i,j,q+1,h,_=>by
  have:n=i:=by omega
  subst this;exact Ae (Al9 L a n f n j (A1 (Nat.le_refl _)))
 | d+1,i,j,q+1,h,h2=>by
  have hl:i<n:=by omega
  have e1:=Od hl hn;have hb:Al (ile 0 (Ag (wr .i64 (Af (ofNat i) 1)) (ofNat n))) (ilt (Ag (wr .i64 (Af (ofNat i) 1)) (ofNat n)) (ofNat n))=true:=by
   rw [e1]; exact Ao (Nat.mod_lt _ (by omega))
  have e2:toN (ofNat ((i+1) % n))=(i+1) % n:=rfl;cases c1:ieq (f i).dst (f ((i+1) % n)).src with
  | false =>rw [Dj (show GF n f i=true by rw [GF,c1]; rfl)];exact Ae (Al8 L a n f i j (ofNat_lt hl) (Ao hl) (Amh hl) hb (by rw [e1,e2]; exact c1))
  | true =>rw [Dk (show GF n f i=false by rw [GF,c1]; rfl),Ae (Al7 L a n f i j (ofNat_lt hl) (Ao hl) (Amh hl) hb (by rw [e1,e2]; exact c1)),Ay,Aq hl hn];exact Aau L a n f hn d (i+1) Aa q (by omega) (by omega)
def Ir (a:Int) (n:Nat) (f:Nat->E6):Int×Int :=
 match Bg (Du a f) n 0 with
 | some t=>match ieq (G8 a (f t)) 0 with
  | false=>(30,ofNat t)
  | true=>(5,ofNat t)
 | none=>match Bg (GF n f) n 0 with
  | some t=>(41,ofNat t)
  | none=>(0,0)
def Ajx:List V->AR
 | [.val (.int .i64 a),v]=>apL v λn f=>.br (BF n) (out (.tup [iV (Ir a n f).1,iV (Ir a n f).2])) .fail
 | _=>.fail
theorem AjB {a:Int} {v u:V} (h:∀ (S:Nat->Prop) (w:World) (c:Value),VR S w v noK c->VR S w u noK c):Bf [.val (.int .i64 a),v] [iV a,u]:=λS w cs hv=>by
 obtain ⟨c,l,rfl,q1,q2⟩:=hv;obtain ⟨c2,l2,rfl,q3,q4⟩:=q2;exact ⟨c,_,rfl,q1,c2,l2,rfl,h S w c2 q3,q4⟩
theorem p86:Ax Tryz.prog Gl 110 Ajx:=by
 refine Am A8 mixed Tryz.func110 (by kernel_rfl) (by kernel_rfl) λvs v h' h=>?_;unfold Ajx at h;split at h
 ·rename_i a u
  obtain ⟨n,f,ha,h1⟩:=Cl h;obtain ⟨hn,hq⟩:=Ad h1;have:=Ac hq;simp only [Prod.mk.injEq] at this;obtain ⟨rfl,rfl⟩:=this;have hn:=DE (FG hn);have hx:=AI tb86_ok [(0,lp86 a n f),(2,lp86_2 a n f)];have hL:=AL [(0,lp86 a n f),(2,lp86_2 a n f)];have h0:=λL j=>AfM L a n f hn n 0 j (n+1) (by omega) (by omega);have h2:=λL j=>Aau L a n f hn n 0 j (n+1) (by omega) (by omega);refine ⟨_,AC Gl tb86 [(0,lp86 a n f),(2,lp86_2 a n f)],_,AjB ha,rfl,hx.1,hx.2,?_,Aw.refl _⟩;unfold Ir;cases c1:Bg (Du a f) n 0 with
  | some t =>
   rw [c1] at h0;cases c2:ieq (G8 a (f t)) 0 with
   | false =>simp only [c2] at h0 ⊢;exact AH (AA hL hL) _ (Ake _ _ a n f t (Au (h0 _ _)))
   | true =>simp only [c2] at h0 ⊢;exact AH (AA hL hL) _ (Akd _ _ a n f t (Au (h0 _ _)))
  | none =>
   rw [c1] at h0;cases c2:Bg (GF n f) n 0 with
   | some t =>rw [c2] at h2;exact AH (AA (AA hL hL) hL) _ (Akc _ _ _ a n f 0 t (Au (h0 _ _)) (Au (h2 _ _)))
   | none =>rw [c2] at h2;exact AH (AA (AA hL hL) hL) _ (Akb _ _ _ a n f 0 0 (Au (h0 _ _)) (Au (h2 _ _)))
 ·cases h
def R4 (n:Nat) (f:Nat->E6) (m:Nat) (l:Nat->Int) (k:Int) (w:Bool):Lp:=⟨bmK 38 0 [0,1,2,3,9,10],0,bmK 38 0 [9],0,n+1⟩
def UM (n:Nat) (f:Nat->E6) (m:Nat) (l:Nat->Int) (k:Int) (w:Bool) (c:Int) (i:Nat) (j:Nat->V):St:=⟨jsV 38 0 j [(0,.sl 6 n (λi=>eV (f i))),(1,.sl 1 m (λk=>iV (l k))),(2,iV k),(3,bV w),(9,iV c),(10,nV i)],[]⟩
def Ack (n:Nat) (f:Nat->E6) (m:Nat) (l:Nat->Int) (k:Int) (w:Bool) (c:Int) (i:Nat):Ex×St:=(.ex 0,⟨jsV 38 0 Aa [(9,iV c)],[]⟩)
noncomputable def JN (L:LT):St->T (Ex×St):=λst=>A7 tab ⟨Ap tb0,L,Gl⟩ (Ar Tryz.f82 0) 0 st
section
variable (L:LT) (n:Nat) (f:Nat->E6) (m:Nat) (l:Nat->Int) (k:Int) (w:Bool) (c:Int) (i:Nat)  (j:Nat->V)
include L n f m l k w c i j
theorem AlD (h0:ilt (ofNat i) (ofNat n)=false):Ah (JN L) (R4 n f m l k w) (UM n f m l k w c i j)=some ((.ex 0),⟨jsV 38 0 Aa [(9,iV c)],[]⟩):=by
 exact Ab (ks:=[kn h0]) (by kernel_rfl)
theorem AlH (h0:ilt (ofNat i) (ofNat n)=true) (h1:Al (ile 0 (ofNat i)) (ilt (ofNat i) (ofNat m))=true) (h2:ieq (l i) k=false):Ah (JN L) (R4 n f m l k w) (UM n f m l k w c i j)=some (.nm,⟨jsV 38 0 Aa [(0,.sl 6 n (λi=>eV (f i))),(1,.sl 1 m (λk=>iV (l k))),(2,iV k),(3,bV w),(9,iV c),(10,iV (wr .i64 (Af (ofNat i) 1)))],[]⟩):=by
 exact Ab (ks:=[kn h0,kn h1,kn h2,kn h2,kn h2,kn h2,kn h2,kF]) (by kernel_rfl)
theorem AlG (h0:ilt (ofNat i) (ofNat n)=true) (h1:Al (ile 0 (ofNat i)) (ilt (ofNat i) (ofNat m))=true) (h2:ieq (l i) k=true) (h3:w=false):Ah (JN L) (R4 n f m l k w) (UM n f m l k w c i j)=some (.nm,⟨jsV 38 0 Aa [(0,.sl 6 n (λi=>eV (f i))),(1,.sl 1 m (λk=>iV (l k))),(2,iV k),(3,bV w),(9,iV (wr .i64 (Af c 1))),(10,iV (wr .i64 (Af (ofNat i) 1)))],[]⟩):=by
 exact Ab (ks:=[kn h0,kn h1,kn h2,kn h2,kn h2,kN (kn h3),kN (kn h3),kN (kn h3),kN (kn h3),kN (kn h3),kN (kn h3),kn h2,kN (kn h3),kn h2,kT]) (by kernel_rfl)
theorem AlF (h0:ilt (ofNat i) (ofNat n)=true) (h1:Al (ile 0 (ofNat i)) (ilt (ofNat i) (ofNat m))=true) (h2:ieq (l i) k=true) (h3:w=true) (h4:Al (ile 0 (ofNat i)) (ilt (ofNat i) (ofNat n))=true) (h5:ieq (f i).src 2=true):Ah (JN L) (R4 n f m l k w) (UM n f m l k w c i j)=some (.nm,⟨jsV 38 0 Aa [(0,.sl 6 n (λi=>eV (f i))),(1,.sl 1 m (λk=>iV (l k))),(2,iV k),(3,bV w),(9,iV (wr .i64 (Af c 1))),(10,iV (wr .i64 (Af (ofNat i) 1)))],[]⟩):=by
 exact Ab (ks:=[kn h0,kn h1,kn h2,kn h2,kn h2,kN (kn h3),kN (kn h3),kN (kn h3),kn h4,kN (kn h3),kN (kn h3),kN (kn h3),kn h2,kN (kn h3),kn h2,kn h5]) (by kernel_rfl)
theorem AlE (h0:ilt (ofNat i) (ofNat n)=true) (h1:Al (ile 0 (ofNat i)) (ilt (ofNat i) (ofNat m))=true) (h2:ieq (l i) k=true) (h3:w=true) (h4:Al (ile 0 (ofNat i)) (ilt (ofNat i) (ofNat n))=true) (h5:ieq (f i).src 2=false):Ah (JN L) (R4 n f m l k w) (UM n f m l k w c i j)=some (.nm,⟨jsV 38 0 Aa [(0,.sl 6 n (λi=>eV (f i))),(1,.sl 1 m (λk=>iV (l k))),(2,iV k),(3,bV w),(9,iV c),(10,iV (wr .i64 (Af (ofNat i) 1)))],[]⟩):=by
 exact Ab (ks:=[kn h0,kn h1,kn h2,kn h2,kn h2,kN (kn h3),kN (kn h3),kN (kn h3),kn h4,kN (kn h3),kN (kn h3),kN (kn h3),kn h2,kN (kn h3),kn h2,kn h5]) (by kernel_rfl)
end
def AoA (n:Nat) (f:Nat->E6) (m:Nat) (l:Nat->Int) (k:Int) (w:Bool) :Nat->V:=lkV A9 [(8,iV 0)]
theorem Anr (L:LT) (p0:PT) (n:Nat) (f:Nat->E6) (m:Nat) (l:Nat->Int) (k:Int) (w:Bool) (c:Int) (i:Nat)  (hp0:p0 (JN (onP 0 p0 (Ack n f m l k w c i) L)) (UM n f m l k w 0 0 (AoA n f m l k w ))=true):(Az (Ak tab ⟨Ap tb0,onP 0 p0 (Ack n f m l k w c i) L,Gl⟩ Tryz.f82 [AQ n f,EJ m l,iV k,bV w] [])).sem=some ((iV c),[]):=by
 exact Ab (ks:=[kn hp0]) (by kernel_rfl)
def isW (e:E6):Bool:=ieq e.src 2
def C4 (l:Nat->Int) (c:Nat->Bool) (k:Int) (i:Nat):Bool:=Al (ieq (l i) k) (c i)
def OT (n:Nat) (l:Nat->Int) (c:Nat->Bool) (k:Int):Int:=ofNat (An (C4 l c k) n)
def ofW (w:Bool) (f:Nat->E6) (i:Nat):Bool:=bor (A6 w) (isW (f i))
theorem SZ (L:LT) (n:Nat) (f:Nat->E6) (l:Nat->Int) (k:Int) (w:Bool) (hn:n <= 4611686018427387904):∀ (d i:Nat) (j:Nat->V) (q:Nat),n=i+d->d<q ->
  (A3 (JN L) (R4 n f n l k w) q (UM n f n l k w (ofNat (An (C4 l (ofW w f) k) i)) i j)).sem=some (Ack n f n l k w (ofNat (An (C4 l (ofW w f) k) n)) n)
 | 0,i,j,q+1,h,_=>by
  have:n=i:=by omega
  subst this;exact Ae (AlD L n f n l k w (ofNat (An (C4 l (ofW w f) k) n)) n j (A1 (Nat.le_refl _)))
 | d+1,i,j,q+1,h,h2=>by
  have hl:i<n:=by omega
  have hc:=Be (C4 l (ofW w f) k) i;have yes:C4 l (ofW w f) k i=true->wr .i64 (Af (ofNat (An (C4 l (ofW w f) k) i)) 1)=ofNat (An (C4 l (ofW w f) k) (i+1)):=λh3=>by
   rw [Aq (show An (C4 l (ofW w f) k) i<n by omega) hn,Bx h3]
  have no:C4 l (ofW w f) k i=false->ofNat (An (C4 l (ofW w f) k) i)=ofNat (An (C4 l (ofW w f) k) (i+1)):=λh3=>by rw [BU h3]
  cases c1:ieq (l i) k with
  | false =>rw [Ae (AlH L n f n l k w (ofNat (An (C4 l (ofW w f) k) i)) i j (ofNat_lt hl) (Ao hl) c1),Ay,Aq hl hn,no (by rw [C4,c1]; rfl)];exact SZ L n f l k w hn d (i+1) Aa q (by omega) (by omega)
  | true =>
   cases c2:w with
   | false =>subst c2;rw [Ae (AlG L n f n l k false (ofNat (An (C4 l (ofW false f) k) i)) i j (ofNat_lt hl) (Ao hl) c1 rfl),Ay,Aq hl hn,yes (by rw [C4,c1]; rfl)];exact SZ L n f l k false hn d (i+1) Aa q (by omega) (by omega)
   | true =>
    subst c2;cases c3:ieq (f i).src 2 with
    | true =>rw [Ae (AlF L n f n l k true (ofNat (An (C4 l (ofW true f) k) i)) i j (ofNat_lt hl) (Ao hl) c1 rfl (Ao hl) c3),Ay,Aq hl hn,yes (by rw [C4,c1,ofW,isW,c3]; rfl)];exact SZ L n f l k true hn d (i+1) Aa q (by omega) (by omega)
    | false =>rw [Ae (AlE L n f n l k true (ofNat (An (C4 l (ofW true f) k) i)) i j (ofNat_lt hl) (Ao hl) c1 rfl (Ao hl) c3),Ay,Aq hl hn,no (by rw [C4,c1,ofW,isW,c3]; rfl)];exact SZ L n f l k true hn d (i+1) Aa q (by omega) (by omega)
def AcG:List V->AR
 | [v,u,.val (.int .i64 k),.val (.bool w)]=>apL v λn f=>apI u λm l=>.br (AE n m) (.br (Aj n) (out (iV (OT n l (λi=>bor (A6 w) (isW (f i))) k))) .fail) .fail
 | _=>.fail
theorem p96:Ax Tryz.prog Gl 82 AcG:=by
 refine Am A8 mixed Tryz.func82 (by kernel_rfl) (by kernel_rfl) λvs v h' h=>?_;unfold AcG at h;split at h
 ·rename_i v1 u1 k w
  obtain ⟨n,f,ha,h1⟩:=Cl h;obtain ⟨m,l,hb,h2⟩:=He h1;obtain ⟨hm,h3⟩:=Ad h2;obtain ⟨hn,hq⟩:=Ad h3;have hm:n=m:=Nat.eq_of_beq_eq_true hm;subst hm;have:=Ac hq;simp only [Prod.mk.injEq] at this;obtain ⟨rfl,rfl⟩:=this;have hn:n <= 4611686018427387904:=of_decide_eq_true hn;have hA:Bf [v1,u1,.val (.int .i64 k),.val (.bool w)] [AQ n f,EJ n l,iV k,bV w]:=λS w' cs hv=>by
   obtain ⟨c,l1,rfl,q1,c2,l2,rfl,q2,q3⟩:=hv;exact ⟨c,_,rfl,ha S w' c q1,c2,l2,rfl,hb S w' c2 q2,q3⟩
  have hx:=AI C8 [(0,R4 n f n l k w)];have hL:=AL [(0,R4 n f n l k w)];exact ⟨_,AC Gl tb0 [(0,R4 n f n l k w)],_,hA,rfl,hx.1,hx.2,AH (AA hL hL) _ (Anr _ _ n f n l k w _ n (Au (SZ _ n f l k w hn n 0 _ (n+1) (by omega) (by omega)))),Aw.refl _⟩
 ·cases h
end Go.Proofs.YtkgdhhieomndeaaGreatDoor.Ed
