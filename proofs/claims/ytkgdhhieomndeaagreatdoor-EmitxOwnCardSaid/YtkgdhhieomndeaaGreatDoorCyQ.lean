/-
  Why one of some edges is not to be there; how many events have one number. No conditions.
-/
import Derived.Test.YtkgdhhieomndeaaGreatDoorShBa
namespace Go.Proofs.YtkgdhhieomndeaaGreatDoor.Ed
open Go.Sy
open Int (ofNat)
def DF (a:Int) (f:Nat->E6) (i:Nat):Bool:=A5 (Ao (ieq (GU a (f i)) 0) (Np a (f i)))
def Gr (n:Nat) (f:Nat->E6) (i:Nat):Bool:=A5 (ieq (f i).dst (f ((i+1) % n)).src)
noncomputable def tb86:AK:=(127,ap2 gI toE λa e=>out (Sp a e))::[]
theorem tb86_ok:Aq Tryz.prog Gl tb86:=.cons p32 .nil
theorem O5 {i n:Nat} (h:i<n) (hn:n <= 4611686018427387904):Ar (wr .i64 (Ak (ofNat i) 1)) (ofNat n)=ofNat ((i+1) % n):=by rw [Ap h hn,DW]
theorem AmY {i n:Nat} (h:i<n):ieq (ofNat n) 0=false:=by rw [show (0:Int)=ofNat 0 from rfl,DD,decide_eq_false (by omega)]
def lp86 (_:Int) (n:Nat) (_:Nat->E6):Lp:=⟨bmK 53 0 [0,1,4,5,12,13,14],0,bmK 53 0 [1,4,5],0,n+1⟩
def Rt (a:Int) (n:Nat) (f:Nat->E6) (i:Nat) (j:Nat->V):St:=⟨jsV 53 0 j [(0,iV a),(1,.sl 6 n (λi=>eV (f i))),(4,iV 0),(5,iV 0),(12,.sl 6 n (λi=>eV (f i))),(13,nV n),(14,nV i)],[]⟩
def Pn (_:Int) (n:Nat) (f:Nat->E6) (_:Nat):Ex×St:=(.ex 0,⟨jsV 53 0 Aa [(1,.sl 6 n (λi=>eV (f i))),(4,iV 0),(5,iV 0)],[]⟩)
def Adi (_:Int) (n:Nat) (f:Nat->E6) (i:Nat):Ex×St:=(.rt,⟨jsV 53 0 Aa [(1,.sl 6 n (λi=>eV (f i))),(4,iV 30),(5,nV i)],[]⟩)
def Adh (_:Int) (n:Nat) (f:Nat->E6) (i:Nat):Ex×St:=(.rt,⟨jsV 53 0 Aa [(1,.sl 6 n (λi=>eV (f i))),(4,iV 5),(5,nV i)],[]⟩)
noncomputable def Ie (L:LT):St->T (Ex×St):=λst=>AD tab ⟨Am tb86,L,Gl⟩ (Au Tryz.f110 0) 0 st
section
variable (L:LT) (a:Int) (n:Nat) (f:Nat->E6) (i:Nat)  (j:Nat->V)
include L a n f i j
theorem Am7 (h0:ilt (ofNat i) (ofNat n)=false):Al (Ie L) (lp86 a n f) (Rt a n f i j)=some ((.ex 0),⟨jsV 53 0 Aa [(1,.sl 6 n (λi=>eV (f i))),(4,iV 0),(5,iV 0)],[]⟩):=by
 exact Ac (ks:=[kn h0]) (by kernel_rfl)
theorem Am6 (h0:ilt (ofNat i) (ofNat n)=true) (h1:Ao (ile 0 (ofNat i)) (ilt (ofNat i) (ofNat n))=true) (h2:ieq (GU a (f i)) 0=false):Al (Ie L) (lp86 a n f) (Rt a n f i j)=some (.rt,⟨jsV 53 0 Aa [(1,.sl 6 n (λi=>eV (f i))),(4,iV 30),(5,nV i)],[]⟩):=by
 exact Ac (ks:=[kn h0,kn h1,kN (kn h2)]) (by kernel_rfl)
theorem Am5 (h0:ilt (ofNat i) (ofNat n)=true) (h1:Ao (ile 0 (ofNat i)) (ilt (ofNat i) (ofNat n))=true) (h2:ieq (GU a (f i)) 0=true) (h3:Np a (f i)=false):Al (Ie L) (lp86 a n f) (Rt a n f i j)=some (.rt,⟨jsV 53 0 Aa [(1,.sl 6 n (λi=>eV (f i))),(4,iV 5),(5,nV i)],[]⟩):=by
 exact Ac (ks:=[kn h0,kn h1,kN (kn h2),kN (kn h3)]) (by kernel_rfl)
theorem Am4 (h0:ilt (ofNat i) (ofNat n)=true) (h1:Ao (ile 0 (ofNat i)) (ilt (ofNat i) (ofNat n))=true) (h2:ieq (GU a (f i)) 0=true) (h3:Np a (f i)=true):Al (Ie L) (lp86 a n f) (Rt a n f i j)=some (.nm,⟨jsV 53 0 Aa [(0,iV a),(1,.sl 6 n (λi=>eV (f i))),(4,iV 0),(5,iV 0),(12,.sl 6 n (λi=>eV (f i))),(13,nV n),(14,iV (wr .i64 (Ak (ofNat i) 1)))],[]⟩):=by
 exact Ac (ks:=[kn h0,kn h1,kN (kn h2),kN (kn h3)]) (by kernel_rfl)
end
def Aga (_:Int) (_:Nat) (_:Nat->E6) :Nat->V:=lkV A9 []
def lp86_2 (_:Int) (n:Nat) (_:Nat->E6):Lp:=⟨bmK 53 0 [1,4,5,32,33,34],0,bmK 53 0 [4,5],0,n+1⟩
def LQ (_:Int) (n:Nat) (f:Nat->E6) (i:Nat) (j:Nat->V):St:=⟨jsV 53 0 j [(1,.sl 6 n (λi=>eV (f i))),(4,iV 0),(5,iV 0),(32,.sl 6 n (λi=>eV (f i))),(33,nV n),(34,nV i)],[]⟩
def NG (_:Int) (_:Nat) (_:Nat->E6) (_:Nat):Ex×St:=(.ex 2,⟨jsV 53 0 Aa [(4,iV 0),(5,iV 0)],[]⟩)
def NF (_:Int) (_:Nat) (_:Nat->E6) (i:Nat):Ex×St:=(.rt,⟨jsV 53 0 Aa [(4,iV 41),(5,nV i)],[]⟩)
noncomputable def H2 (L:LT):St->T (Ex×St):=λst=>AD tab ⟨Am tb86,L,Gl⟩ (Au Tryz.f110 2) 2 st
section
variable (L:LT) (a:Int) (n:Nat) (f:Nat->E6) (i:Nat)  (j:Nat->V)
include L a n f i j
theorem Amr (h0:ilt (ofNat i) (ofNat n)=false):Al (H2 L) (lp86_2 a n f) (LQ a n f i j)=some ((.ex 2),⟨jsV 53 0 Aa [(4,iV 0),(5,iV 0)],[]⟩):=by
 exact Ac (ks:=[kn h0]) (by kernel_rfl)
theorem Amq (h0:ilt (ofNat i) (ofNat n)=true) (h1:Ao (ile 0 (ofNat i)) (ilt (ofNat i) (ofNat n))=true) (h2:ieq (ofNat n) 0=false) (h3:Ao (ile 0 (Ar (wr .i64 (Ak (ofNat i) 1)) (ofNat n))) (ilt (Ar (wr .i64 (Ak (ofNat i) 1)) (ofNat n)) (ofNat n))=true) (h4:ieq (f i).dst (f (toN (Ar (wr .i64 (Ak (ofNat i) 1)) (ofNat n)))).src=false):Al (H2 L) (lp86_2 a n f) (LQ a n f i j)=some (.rt,⟨jsV 53 0 Aa [(4,iV 41),(5,nV i)],[]⟩):=by
 exact Ac (ks:=[kn h0,kn h1,kn h2,kn h3,kN (kn h4)]) (by kernel_rfl)
theorem Amp (h0:ilt (ofNat i) (ofNat n)=true) (h1:Ao (ile 0 (ofNat i)) (ilt (ofNat i) (ofNat n))=true) (h2:ieq (ofNat n) 0=false) (h3:Ao (ile 0 (Ar (wr .i64 (Ak (ofNat i) 1)) (ofNat n))) (ilt (Ar (wr .i64 (Ak (ofNat i) 1)) (ofNat n)) (ofNat n))=true) (h4:ieq (f i).dst (f (toN (Ar (wr .i64 (Ak (ofNat i) 1)) (ofNat n)))).src=true):Al (H2 L) (lp86_2 a n f) (LQ a n f i j)=some (.nm,⟨jsV 53 0 Aa [(1,.sl 6 n (λi=>eV (f i))),(4,iV 0),(5,iV 0),(32,.sl 6 n (λi=>eV (f i))),(33,nV n),(34,iV (wr .i64 (Ak (ofNat i) 1)))],[]⟩):=by
 exact Ac (ks:=[kn h0,kn h1,kn h2,kn h3,kN (kn h4)]) (by kernel_rfl)
end
def Ac6 (_:Int) (_:Nat) (_:Nat->E6) (_:Nat):Nat->V:=lkU 9007169189969869 []
section
variable (L:LT) (p0:PT) (a:Int) (n:Nat) (f:Nat->E6) (i:Nat)
include L p0 a n f i
theorem Alh  (hp0:p0 (Ie (onP 0 p0 (Adi a n f i) L)) (Rt a n f 0 (Aga a n f ))=true):(Ay (Ai tab ⟨Am tb86,onP 0 p0 (Adi a n f i) L,Gl⟩ Tryz.f110 [iV a,AS n f] [])).sem=some ((.tup [iV 30,nV i]),[]):=by
 exact Ac (ks:=[kn hp0]) (by kernel_rfl)
theorem Alg  (hp0:p0 (Ie (onP 0 p0 (Adh a n f i) L)) (Rt a n f 0 (Aga a n f ))=true):(Ay (Ai tab ⟨Am tb86,onP 0 p0 (Adh a n f i) L,Gl⟩ Tryz.f110 [iV a,AS n f] [])).sem=some ((.tup [iV 5,nV i]),[]):=by
 exact Ac (ks:=[kn hp0]) (by kernel_rfl)
end
section
variable (L:LT) (p0:PT) (p2:PT) (a:Int) (n:Nat) (f:Nat->E6) (i j:Nat)
include L p0 p2 a n f i j
theorem Alf  (hp0:p0 (Ie (onP 0 p0 (Pn a n f i) (onP 2 p2 (NF a n f j) L))) (Rt a n f 0 (Aga a n f ))=true) (hp2:p2 (H2 (onP 0 p0 (Pn a n f i) (onP 2 p2 (NF a n f j) L))) (LQ a n f 0 (Ac6 a n f i))=true):(Ay (Ai tab ⟨Am tb86,onP 0 p0 (Pn a n f i) (onP 2 p2 (NF a n f j) L),Gl⟩ Tryz.f110 [iV a,AS n f] [])).sem=some ((.tup [iV 41,nV j]),[]):=by
 exact Ac (ks:=[kn hp0,kn hp2]) (by kernel_rfl)
theorem Ale  (hp0:p0 (Ie (onP 0 p0 (Pn a n f i) (onP 2 p2 (NG a n f j) L))) (Rt a n f 0 (Aga a n f ))=true) (hp2:p2 (H2 (onP 0 p0 (Pn a n f i) (onP 2 p2 (NG a n f j) L))) (LQ a n f 0 (Ac6 a n f i))=true):(Ay (Ai tab ⟨Am tb86,onP 0 p0 (Pn a n f i) (onP 2 p2 (NG a n f j) L),Gl⟩ Tryz.f110 [iV a,AS n f] [])).sem=some ((.tup [iV 0,iV 0]),[]):=by
 exact Ac (ks:=[kn hp0,kn hp2]) (by kernel_rfl)
end
theorem AgM (L:LT) (a:Int) (n:Nat) (f:Nat->E6) (hn:n <= 4611686018427387904):∀ (d i:Nat) (j:Nat->V) (q:Nat),n=i+d->d<q ->
  (A3 (Ie L) (lp86 a n f) q (Rt a n f i j)).sem=some (match Bh (DF a f) d i with
   | none=>Pn a n f 0
   | some t=>match ieq (GU a (f t)) 0 with
    | false=>Adi a n f t
    | true=>Adh a n f t)
 | 0,i,j,q+1,h,_=>by
  have:n=i:=by omega
  subst this;exact Ae (Am7 L a n f n j (Aw (Nat.le_refl _)))
 | d+1,i,j,q+1,h,h2=>by
  have hl:i<n:=by omega
  cases c1:ieq (GU a (f i)) 0 with
  | false =>rw [Dz (show DF a f i=true by rw [DF,c1]; rfl)];simp only [c1];exact Ae (Am6 L a n f i j (ofNat_lt hl) (Ag hl) c1)
  | true =>
   cases c2:Np a (f i) with
   | false =>rw [Dz (show DF a f i=true by rw [DF,c1,c2]; rfl)];simp only [c1];exact Ae (Am5 L a n f i j (ofNat_lt hl) (Ag hl) c1 c2)
   | true =>rw [D1 (show DF a f i=false by rw [DF,c1,c2]; rfl),Ae (Am4 L a n f i j (ofNat_lt hl) (Ag hl) c1 c2),A6,Ap hl hn];exact AgM L a n f hn d (i+1) Aa q (by omega) (by omega)
theorem Abv (L:LT) (a:Int) (n:Nat) (f:Nat->E6) (hn:n <= 4611686018427387904):∀ (d i:Nat) (j:Nat->V) (q:Nat),n=i+d->d<q ->
  (A3 (H2 L) (lp86_2 a n f) q (LQ a n f i j)).sem=some (match Bh (Gr n f) d i with
   | none=>NG a n f 0
   | some t=>NF a n f t)
 | 0,i,j,q+1,h,_=>by
  have:n=i:=by omega
  subst this;exact Ae (Amr L a n f n j (Aw (Nat.le_refl _)))
 | d+1,i,j,q+1,h,h2=>by
  have hl:i<n:=by omega
  have e1:=O5 hl hn;have hb:Ao (ile 0 (Ar (wr .i64 (Ak (ofNat i) 1)) (ofNat n))) (ilt (Ar (wr .i64 (Ak (ofNat i) 1)) (ofNat n)) (ofNat n))=true:=by
   rw [e1]; exact Ag (Nat.mod_lt _ (by omega))
  have e2:toN (ofNat ((i+1) % n))=(i+1) % n:=rfl;cases c1:ieq (f i).dst (f ((i+1) % n)).src with
  | false =>rw [Dz (show Gr n f i=true by rw [Gr,c1]; rfl)];exact Ae (Amq L a n f i j (ofNat_lt hl) (Ag hl) (AmY hl) hb (by rw [e1,e2]; exact c1))
  | true =>rw [D1 (show Gr n f i=false by rw [Gr,c1]; rfl),Ae (Amp L a n f i j (ofNat_lt hl) (Ag hl) (AmY hl) hb (by rw [e1,e2]; exact c1)),A6,Ap hl hn];exact Abv L a n f hn d (i+1) Aa q (by omega) (by omega)
def HY (a:Int) (n:Nat) (f:Nat->E6):Int×Int :=
 match Bh (DF a f) n 0 with
 | some t=>match ieq (GU a (f t)) 0 with
  | false=>(30,ofNat t)
  | true=>(5,ofNat t)
 | none=>match Bh (Gr n f) n 0 with
  | some t=>(41,ofNat t)
  | none=>(0,0)
def Akw:List V->AE
 | [.val (.int .i64 a),v]=>apL v λn f=>.br (BC n) (out (.tup [iV (HY a n f).1,iV (HY a n f).2])) .fail
 | _=>.fail
theorem Xy {a:Int} {v u:V} (h:∀ (S:Nat->Prop) (w:World) (c:Value),VR S w v noK c->VR S w u noK c):Bj [.val (.int .i64 a),v] [iV a,u]:=λS w cs hv=>by
 obtain ⟨c,l,rfl,q1,q2⟩:=hv;obtain ⟨c2,l2,rfl,q3,q4⟩:=q2;exact ⟨c,_,rfl,q1,c2,l2,rfl,h S w c2 q3,q4⟩
theorem p86:Ax Tryz.prog Gl 110 Akw:=by
 refine Aj A7 mixed Tryz.func110 (by kernel_rfl) (by kernel_rfl) λvs v h' h=>?_;unfold Akw at h;split at h
 ·rename_i a u
  obtain ⟨n,f,ha,h1⟩:=Co h;obtain ⟨hn,hq⟩:=Ad h1;have:=Ab hq;simp only [Prod.mk.injEq] at this;obtain ⟨rfl,rfl⟩:=this;have hn:=Ef (Ga hn);have hx:=AH tb86_ok [(0,lp86 a n f),(2,lp86_2 a n f)];have hL:=AQ [(0,lp86 a n f),(2,lp86_2 a n f)];have h0:=λL j=>AgM L a n f hn n 0 j (n+1) (by omega) (by omega);have h2:=λL j=>Abv L a n f hn n 0 j (n+1) (by omega) (by omega);refine ⟨_,AA Gl tb86 [(0,lp86 a n f),(2,lp86_2 a n f)],_,Xy ha,rfl,hx.1,hx.2,?_,Av.refl _⟩;unfold HY;cases c1:Bh (DF a f) n 0 with
  | some t =>
   rw [c1] at h0;cases c2:ieq (GU a (f t)) 0 with
   | false =>simp only [c2] at h0 ⊢;exact AP (AI hL hL) _ (Alh _ _ a n f t (Az (h0 _ _)))
   | true =>simp only [c2] at h0 ⊢;exact AP (AI hL hL) _ (Alg _ _ a n f t (Az (h0 _ _)))
  | none =>
   rw [c1] at h0;cases c2:Bh (Gr n f) n 0 with
   | some t =>rw [c2] at h2;exact AP (AI (AI hL hL) hL) _ (Alf _ _ _ a n f 0 t (Az (h0 _ _)) (Az (h2 _ _)))
   | none =>rw [c2] at h2;exact AP (AI (AI hL hL) hL) _ (Ale _ _ _ a n f 0 0 (Az (h0 _ _)) (Az (h2 _ _)))
 ·cases h
def Si (n:Nat) (_:Nat->E6) (_:Nat) (_:Nat->Int) (_:Int) (_:Bool):Lp:=⟨bmK 38 0 [0,1,2,3,9,10],0,bmK 38 0 [9],0,n+1⟩
def VJ (n:Nat) (f:Nat->E6) (m:Nat) (l:Nat->Int) (k:Int) (w:Bool) (c:Int) (i:Nat) (j:Nat->V):St:=⟨jsV 38 0 j [(0,.sl 6 n (λi=>eV (f i))),(1,.sl 1 m (λk=>iV (l k))),(2,iV k),(3,bV w),(9,iV c),(10,nV i)],[]⟩
def Adg (_:Nat) (_:Nat->E6) (_:Nat) (_:Nat->Int) (_:Int) (_:Bool) (c:Int) (_:Nat):Ex×St:=(.ex 0,⟨jsV 38 0 Aa [(9,iV c)],[]⟩)
noncomputable def Ki (L:LT):St->T (Ex×St):=λst=>AD tab ⟨Am tb0,L,Gl⟩ (Au Tryz.f82 0) 0 st
section
variable (L:LT) (n:Nat) (f:Nat->E6) (m:Nat) (l:Nat->Int) (k:Int) (w:Bool) (c:Int) (i:Nat)  (j:Nat->V)
include L n f m l k w c i j
theorem Amv (h0:ilt (ofNat i) (ofNat n)=false):Al (Ki L) (Si n f m l k w) (VJ n f m l k w c i j)=some ((.ex 0),⟨jsV 38 0 Aa [(9,iV c)],[]⟩):=by
 exact Ac (ks:=[kn h0]) (by kernel_rfl)
theorem Amz (h0:ilt (ofNat i) (ofNat n)=true) (h1:Ao (ile 0 (ofNat i)) (ilt (ofNat i) (ofNat m))=true) (h2:ieq (l i) k=false):Al (Ki L) (Si n f m l k w) (VJ n f m l k w c i j)=some (.nm,⟨jsV 38 0 Aa [(0,.sl 6 n (λi=>eV (f i))),(1,.sl 1 m (λk=>iV (l k))),(2,iV k),(3,bV w),(9,iV c),(10,iV (wr .i64 (Ak (ofNat i) 1)))],[]⟩):=by
 exact Ac (ks:=[kn h0,kn h1,kn h2,kn h2,kn h2,kn h2,kn h2,kF]) (by kernel_rfl)
theorem Amy (h0:ilt (ofNat i) (ofNat n)=true) (h1:Ao (ile 0 (ofNat i)) (ilt (ofNat i) (ofNat m))=true) (h2:ieq (l i) k=true) (h3:w=false):Al (Ki L) (Si n f m l k w) (VJ n f m l k w c i j)=some (.nm,⟨jsV 38 0 Aa [(0,.sl 6 n (λi=>eV (f i))),(1,.sl 1 m (λk=>iV (l k))),(2,iV k),(3,bV w),(9,iV (wr .i64 (Ak c 1))),(10,iV (wr .i64 (Ak (ofNat i) 1)))],[]⟩):=by
 exact Ac (ks:=[kn h0,kn h1,kn h2,kn h2,kn h2,kN (kn h3),kN (kn h3),kN (kn h3),kN (kn h3),kN (kn h3),kN (kn h3),kn h2,kN (kn h3),kn h2,kT]) (by kernel_rfl)
theorem Amx (h0:ilt (ofNat i) (ofNat n)=true) (h1:Ao (ile 0 (ofNat i)) (ilt (ofNat i) (ofNat m))=true) (h2:ieq (l i) k=true) (h3:w=true) (h4:Ao (ile 0 (ofNat i)) (ilt (ofNat i) (ofNat n))=true) (h5:ieq (f i).src 2=true):Al (Ki L) (Si n f m l k w) (VJ n f m l k w c i j)=some (.nm,⟨jsV 38 0 Aa [(0,.sl 6 n (λi=>eV (f i))),(1,.sl 1 m (λk=>iV (l k))),(2,iV k),(3,bV w),(9,iV (wr .i64 (Ak c 1))),(10,iV (wr .i64 (Ak (ofNat i) 1)))],[]⟩):=by
 exact Ac (ks:=[kn h0,kn h1,kn h2,kn h2,kn h2,kN (kn h3),kN (kn h3),kN (kn h3),kn h4,kN (kn h3),kN (kn h3),kN (kn h3),kn h2,kN (kn h3),kn h2,kn h5]) (by kernel_rfl)
theorem Amw (h0:ilt (ofNat i) (ofNat n)=true) (h1:Ao (ile 0 (ofNat i)) (ilt (ofNat i) (ofNat m))=true) (h2:ieq (l i) k=true) (h3:w=true) (h4:Ao (ile 0 (ofNat i)) (ilt (ofNat i) (ofNat n))=true) (h5:ieq (f i).src 2=false):Al (Ki L) (Si n f m l k w) (VJ n f m l k w c i j)=some (.nm,⟨jsV 38 0 Aa [(0,.sl 6 n (λi=>eV (f i))),(1,.sl 1 m (λk=>iV (l k))),(2,iV k),(3,bV w),(9,iV c),(10,iV (wr .i64 (Ak (ofNat i) 1)))],[]⟩):=by
 exact Ac (ks:=[kn h0,kn h1,kn h2,kn h2,kn h2,kN (kn h3),kN (kn h3),kN (kn h3),kn h4,kN (kn h3),kN (kn h3),kN (kn h3),kn h2,kN (kn h3),kn h2,kn h5]) (by kernel_rfl)
end
def ApJ (_:Nat) (_:Nat->E6) (_:Nat) (_:Nat->Int) (_:Int) (_:Bool) :Nat->V:=lkV A9 [(8,iV 0)]
theorem Aow (L:LT) (p0:PT) (n:Nat) (f:Nat->E6) (m:Nat) (l:Nat->Int) (k:Int) (w:Bool) (c:Int) (i:Nat)  (hp0:p0 (Ki (onP 0 p0 (Adg n f m l k w c i) L)) (VJ n f m l k w 0 0 (ApJ n f m l k w ))=true):(Ay (Ai tab ⟨Am tb0,onP 0 p0 (Adg n f m l k w c i) L,Gl⟩ Tryz.f82 [AS n f,EV m l,iV k,bV w] [])).sem=some ((iV c),[]):=by
 exact Ac (ks:=[kn hp0]) (by kernel_rfl)
def isW (e:E6):Bool:=ieq e.src 2
def CJ (l:Nat->Int) (c:Nat->Bool) (k:Int) (i:Nat):Bool:=Ao (ieq (l i) k) (c i)
def Pu (n:Nat) (l:Nat->Int) (c:Nat->Bool) (k:Int):Int:=ofNat (An (CJ l c k) n)
def ofW (w:Bool) (f:Nat->E6) (i:Nat):Bool:=bor (A5 w) (isW (f i))
theorem TU (L:LT) (n:Nat) (f:Nat->E6) (l:Nat->Int) (k:Int) (w:Bool) (hn:n <= 4611686018427387904):∀ (d i:Nat) (j:Nat->V) (q:Nat),n=i+d->d<q ->
  (A3 (Ki L) (Si n f n l k w) q (VJ n f n l k w (ofNat (An (CJ l (ofW w f) k) i)) i j)).sem=some (Adg n f n l k w (ofNat (An (CJ l (ofW w f) k) n)) n)
 | 0,i,j,q+1,h,_=>by
  have:n=i:=by omega
  subst this;exact Ae (Amv L n f n l k w (ofNat (An (CJ l (ofW w f) k) n)) n j (Aw (Nat.le_refl _)))
 | d+1,i,j,q+1,h,h2=>by
  have hl:i<n:=by omega
  have hc:=Bm (CJ l (ofW w f) k) i;have yes:CJ l (ofW w f) k i=true->wr .i64 (Ak (ofNat (An (CJ l (ofW w f) k) i)) 1)=ofNat (An (CJ l (ofW w f) k) (i+1)):=λh3=>by
   rw [Ap (show An (CJ l (ofW w f) k) i<n by omega) hn,B7 h3]
  have no:CJ l (ofW w f) k i=false->ofNat (An (CJ l (ofW w f) k) i)=ofNat (An (CJ l (ofW w f) k) (i+1)):=λh3=>by rw [Cc h3]
  cases c1:ieq (l i) k with
  | false =>rw [Ae (Amz L n f n l k w (ofNat (An (CJ l (ofW w f) k) i)) i j (ofNat_lt hl) (Ag hl) c1),A6,Ap hl hn,no (by rw [CJ,c1]; rfl)];exact TU L n f l k w hn d (i+1) Aa q (by omega) (by omega)
  | true =>
   cases c2:w with
   | false =>subst c2;rw [Ae (Amy L n f n l k false (ofNat (An (CJ l (ofW false f) k) i)) i j (ofNat_lt hl) (Ag hl) c1 rfl),A6,Ap hl hn,yes (by rw [CJ,c1]; rfl)];exact TU L n f l k false hn d (i+1) Aa q (by omega) (by omega)
   | true =>
    subst c2;cases c3:ieq (f i).src 2 with
    | true =>rw [Ae (Amx L n f n l k true (ofNat (An (CJ l (ofW true f) k) i)) i j (ofNat_lt hl) (Ag hl) c1 rfl (Ag hl) c3),A6,Ap hl hn,yes (by rw [CJ,c1,ofW,isW,c3]; rfl)];exact TU L n f l k true hn d (i+1) Aa q (by omega) (by omega)
    | false =>rw [Ae (Amw L n f n l k true (ofNat (An (CJ l (ofW true f) k) i)) i j (ofNat_lt hl) (Ag hl) c1 rfl (Ag hl) c3),A6,Ap hl hn,no (by rw [CJ,c1,ofW,isW,c3]; rfl)];exact TU L n f l k true hn d (i+1) Aa q (by omega) (by omega)
def Ad9:List V->AE
 | [v,u,.val (.int .i64 k),.val (.bool w)]=>apL v λn f=>apI u λm l=>.br (AW n m) (.br (Af n) (out (iV (Pu n l (λi=>bor (A5 w) (isW (f i))) k))) .fail) .fail
 | _=>.fail
theorem p96:Ax Tryz.prog Gl 82 Ad9:=by
 refine Aj A7 mixed Tryz.func82 (by kernel_rfl) (by kernel_rfl) λvs v h' h=>?_;unfold Ad9 at h;split at h
 ·rename_i v1 u1 k w
  obtain ⟨n,f,ha,h1⟩:=Co h;obtain ⟨m,l,hb,h2⟩:=H5 h1;obtain ⟨hm,h3⟩:=Ad h2;obtain ⟨hn,hq⟩:=Ad h3;have hm:n=m:=Nat.eq_of_beq_eq_true hm;subst hm;have:=Ab hq;simp only [Prod.mk.injEq] at this;obtain ⟨rfl,rfl⟩:=this;have hn:n <= 4611686018427387904:=of_decide_eq_true hn;have hA:Bj [v1,u1,.val (.int .i64 k),.val (.bool w)] [AS n f,EV n l,iV k,bV w]:=λS w' cs hv=>by
   obtain ⟨c,l1,rfl,q1,c2,l2,rfl,q2,q3⟩:=hv;exact ⟨c,_,rfl,ha S w' c q1,c2,l2,rfl,hb S w' c2 q2,q3⟩
  have hx:=AH CS [(0,Si n f n l k w)];have hL:=AQ [(0,Si n f n l k w)];exact ⟨_,AA Gl tb0 [(0,Si n f n l k w)],_,hA,rfl,hx.1,hx.2,AP (AI hL hL) _ (Aow _ _ n f n l k w _ n (Az (TU _ n f l k w hn n 0 _ (n+1) (by omega) (by omega)))),Av.refl _⟩
 ·cases h
end Go.Proofs.YtkgdhhieomndeaaGreatDoor.Ed
