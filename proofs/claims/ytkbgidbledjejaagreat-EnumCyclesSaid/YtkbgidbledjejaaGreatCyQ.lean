/-
  Why one of some edges is not to be there; how many events have one number. No conditions.
-/
import Derived.Test.YtkbgidbledjejaaGreatCyP
namespace Go.Proofs.YtkbgidbledjejaaGreat.Ed
open Go.Sy
open Int (ofNat)
def DN (a:Int) (f:Nat->E6) (i:Nat):Bool:=AN (Av (ieq (Hm a (f i)) 0) (IG a (f i)))
def Hg (n:Nat) (f:Nat->E6) (i:Nat):Bool:=AN (ieq (f i).dst (f ((i+1) % n)).src)
noncomputable def UN:AG:=(66,ap2 gI toE λa e=>out (Ns a e))::[]
theorem Af7:Al Tryz.prog Gl UN:=.cons p32 .nil
theorem PQ {i n:Nat} (h:i<n) (hn:n <= 4611686018427387904):Ay (wr .i64 (Ai (ofNat i) 1)) (ofNat n)=ofNat ((i+1) % n):=by rw [AT h hn,Kf]
theorem Ani {i n:Nat} (h:i<n):ieq (ofNat n) 0=false:=by rw [show (0:Int)=ofNat 0 from rfl,FO,decide_eq_false (by omega)]
def V5 (_:Int) (n:Nat) (_:Nat->E6):Lp:=⟨bmK 53 0 [0,1,4,5,12,13,14],0,bmK 53 0 [1,4,5],0,n+1⟩
def Tr (a:Int) (n:Nat) (f:Nat->E6) (i:Nat) (j:Nat->V):St:=⟨jsV 53 0 j [(0,iV a),(1,.sl 6 n (λi=>eV (f i))),(4,iV 0),(5,iV 0),(12,.sl 6 n (λi=>eV (f i))),(13,nV n),(14,nV i)],[]⟩
def QG (_:Int) (n:Nat) (f:Nat->E6) (_:Nat):Ex×St:=(.ex 0,⟨jsV 53 0 Ac [(1,.sl 6 n (λi=>eV (f i))),(4,iV 0),(5,iV 0)],[]⟩)
def Aez (_:Int) (n:Nat) (f:Nat->E6) (i:Nat):Ex×St:=(.rt,⟨jsV 53 0 Ac [(1,.sl 6 n (λi=>eV (f i))),(4,iV 30),(5,nV i)],[]⟩)
def Aey (_:Int) (n:Nat) (f:Nat->E6) (i:Nat):Ex×St:=(.rt,⟨jsV 53 0 Ac [(1,.sl 6 n (λi=>eV (f i))),(4,iV 5),(5,nV i)],[]⟩)
noncomputable def IU (L:LT):St->T (Ex×St):=λst=>A6 tab ⟨A5 UN,L,Gl⟩ (Aw Tryz.f85 0) 0 st
section
variable (L:LT) (a:Int) (n:Nat) (f:Nat->E6) (i:Nat)  (j:Nat->V)
include L a n f i j
theorem AmI (h0:ilt (ofNat i) (ofNat n)=false):Am (IU L) (V5 a n f) (Tr a n f i j)=some ((.ex 0),⟨jsV 53 0 Ac [(1,.sl 6 n (λi=>eV (f i))),(4,iV 0),(5,iV 0)],[]⟩):=by
 exact Ag (ks:=[kn h0]) (by kernel_rfl)
theorem AmH (h0:ilt (ofNat i) (ofNat n)=true) (h1:Av (ile 0 (ofNat i)) (ilt (ofNat i) (ofNat n))=true) (h2:ieq (Hm a (f i)) 0=false):Am (IU L) (V5 a n f) (Tr a n f i j)=some (.rt,⟨jsV 53 0 Ac [(1,.sl 6 n (λi=>eV (f i))),(4,iV 30),(5,nV i)],[]⟩):=by
 exact Ag (ks:=[kn h0,kn h1,kN (kn h2)]) (by kernel_rfl)
theorem AmG (h0:ilt (ofNat i) (ofNat n)=true) (h1:Av (ile 0 (ofNat i)) (ilt (ofNat i) (ofNat n))=true) (h2:ieq (Hm a (f i)) 0=true) (h3:IG a (f i)=false):Am (IU L) (V5 a n f) (Tr a n f i j)=some (.rt,⟨jsV 53 0 Ac [(1,.sl 6 n (λi=>eV (f i))),(4,iV 5),(5,nV i)],[]⟩):=by
 exact Ag (ks:=[kn h0,kn h1,kN (kn h2),kN (kn h3)]) (by kernel_rfl)
theorem AmF (h0:ilt (ofNat i) (ofNat n)=true) (h1:Av (ile 0 (ofNat i)) (ilt (ofNat i) (ofNat n))=true) (h2:ieq (Hm a (f i)) 0=true) (h3:IG a (f i)=true):Am (IU L) (V5 a n f) (Tr a n f i j)=some (.nm,⟨jsV 53 0 Ac [(0,iV a),(1,.sl 6 n (λi=>eV (f i))),(4,iV 0),(5,iV 0),(12,.sl 6 n (λi=>eV (f i))),(13,nV n),(14,iV (wr .i64 (Ai (ofNat i) 1)))],[]⟩):=by
 exact Ag (ks:=[kn h0,kn h1,kN (kn h2),kN (kn h3)]) (by kernel_rfl)
end
def AgK (_:Int) (_:Nat) (_:Nat->E6) :Nat->V:=lkV A7 []
def KQ (_:Int) (n:Nat) (_:Nat->E6):Lp:=⟨bmK 53 0 [1,4,5,32,33,34],0,bmK 53 0 [4,5],0,n+1⟩
def MS (_:Int) (n:Nat) (f:Nat->E6) (i:Nat) (j:Nat->V):St:=⟨jsV 53 0 j [(1,.sl 6 n (λi=>eV (f i))),(4,iV 0),(5,iV 0),(32,.sl 6 n (λi=>eV (f i))),(33,nV n),(34,nV i)],[]⟩
def OP (_:Int) (_:Nat) (_:Nat->E6) (_:Nat):Ex×St:=(.ex 2,⟨jsV 53 0 Ac [(4,iV 0),(5,iV 0)],[]⟩)
def OO (_:Int) (_:Nat) (_:Nat->E6) (i:Nat):Ex×St:=(.rt,⟨jsV 53 0 Ac [(4,iV 41),(5,nV i)],[]⟩)
noncomputable def Ir (L:LT):St->T (Ex×St):=λst=>A6 tab ⟨A5 UN,L,Gl⟩ (Aw Tryz.f85 2) 2 st
section
variable (L:LT) (a:Int) (n:Nat) (f:Nat->E6) (i:Nat)  (j:Nat->V)
include L a n f i j
theorem Am0 (h0:ilt (ofNat i) (ofNat n)=false):Am (Ir L) (KQ a n f) (MS a n f i j)=some ((.ex 2),⟨jsV 53 0 Ac [(4,iV 0),(5,iV 0)],[]⟩):=by
 exact Ag (ks:=[kn h0]) (by kernel_rfl)
theorem Amz (h0:ilt (ofNat i) (ofNat n)=true) (h1:Av (ile 0 (ofNat i)) (ilt (ofNat i) (ofNat n))=true) (h2:ieq (ofNat n) 0=false) (h3:Av (ile 0 (Ay (wr .i64 (Ai (ofNat i) 1)) (ofNat n))) (ilt (Ay (wr .i64 (Ai (ofNat i) 1)) (ofNat n)) (ofNat n))=true) (h4:ieq (f i).dst (f (toN (Ay (wr .i64 (Ai (ofNat i) 1)) (ofNat n)))).src=false):Am (Ir L) (KQ a n f) (MS a n f i j)=some (.rt,⟨jsV 53 0 Ac [(4,iV 41),(5,nV i)],[]⟩):=by
 exact Ag (ks:=[kn h0,kn h1,kn h2,kn h3,kN (kn h4)]) (by kernel_rfl)
theorem Amy (h0:ilt (ofNat i) (ofNat n)=true) (h1:Av (ile 0 (ofNat i)) (ilt (ofNat i) (ofNat n))=true) (h2:ieq (ofNat n) 0=false) (h3:Av (ile 0 (Ay (wr .i64 (Ai (ofNat i) 1)) (ofNat n))) (ilt (Ay (wr .i64 (Ai (ofNat i) 1)) (ofNat n)) (ofNat n))=true) (h4:ieq (f i).dst (f (toN (Ay (wr .i64 (Ai (ofNat i) 1)) (ofNat n)))).src=true):Am (Ir L) (KQ a n f) (MS a n f i j)=some (.nm,⟨jsV 53 0 Ac [(1,.sl 6 n (λi=>eV (f i))),(4,iV 0),(5,iV 0),(32,.sl 6 n (λi=>eV (f i))),(33,nV n),(34,iV (wr .i64 (Ai (ofNat i) 1)))],[]⟩):=by
 exact Ag (ks:=[kn h0,kn h1,kn h2,kn h3,kN (kn h4)]) (by kernel_rfl)
end
def AdL (_:Int) (_:Nat) (_:Nat->E6) (_:Nat):Nat->V:=lkU 9007169189969869 []
section
variable (L:LT) (p0:PT) (a:Int) (n:Nat) (f:Nat->E6) (i:Nat)
include L p0 a n f i
theorem Al5  (hp0:p0 (IU (onP 0 p0 (Aez a n f i) L)) (Tr a n f 0 (AgK a n f ))=true):(AL (Ar tab ⟨A5 UN,onP 0 p0 (Aez a n f i) L,Gl⟩ Tryz.f85 [iV a,Ap n f] [])).sem=some ((.tup [iV 30,nV i]),[]):=by
 exact Ag (ks:=[kn hp0]) (by kernel_rfl)
theorem Al4  (hp0:p0 (IU (onP 0 p0 (Aey a n f i) L)) (Tr a n f 0 (AgK a n f ))=true):(AL (Ar tab ⟨A5 UN,onP 0 p0 (Aey a n f i) L,Gl⟩ Tryz.f85 [iV a,Ap n f] [])).sem=some ((.tup [iV 5,nV i]),[]):=by
 exact Ag (ks:=[kn hp0]) (by kernel_rfl)
end
section
variable (L:LT) (p0:PT) (p2:PT) (a:Int) (n:Nat) (f:Nat->E6) (i j:Nat)
include L p0 p2 a n f i j
theorem Al3  (hp0:p0 (IU (onP 0 p0 (QG a n f i) (onP 2 p2 (OO a n f j) L))) (Tr a n f 0 (AgK a n f ))=true) (hp2:p2 (Ir (onP 0 p0 (QG a n f i) (onP 2 p2 (OO a n f j) L))) (MS a n f 0 (AdL a n f i))=true):(AL (Ar tab ⟨A5 UN,onP 0 p0 (QG a n f i) (onP 2 p2 (OO a n f j) L),Gl⟩ Tryz.f85 [iV a,Ap n f] [])).sem=some ((.tup [iV 41,nV j]),[]):=by
 exact Ag (ks:=[kn hp0,kn hp2]) (by kernel_rfl)
theorem Al2  (hp0:p0 (IU (onP 0 p0 (QG a n f i) (onP 2 p2 (OP a n f j) L))) (Tr a n f 0 (AgK a n f ))=true) (hp2:p2 (Ir (onP 0 p0 (QG a n f i) (onP 2 p2 (OP a n f j) L))) (MS a n f 0 (AdL a n f i))=true):(AL (Ar tab ⟨A5 UN,onP 0 p0 (QG a n f i) (onP 2 p2 (OP a n f j) L),Gl⟩ Tryz.f85 [iV a,Ap n f] [])).sem=some ((.tup [iV 0,iV 0]),[]):=by
 exact Ag (ks:=[kn hp0,kn hp2]) (by kernel_rfl)
end
theorem AhE (L:LT) (a:Int) (n:Nat) (f:Nat->E6) (hn:n <= 4611686018427387904):∀ (d i:Nat) (j:Nat->V) (q:Nat),n=i+d->d<q ->
  (Ax (IU L) (V5 a n f) q (Tr a n f i j)).sem=some (match A0 (DN a f) d i with
   | none=>QG a n f 0
   | some t=>match ieq (Hm a (f t)) 0 with
    | false=>Aez a n f t
    | true=>Aey a n f t)
 | 0,i,j,q+1,h,_=>by
  have:n=i:=by omega
  subst this;exact Ae (AmI L a n f n j (A1 (Nat.le_refl _)))
 | d+1,i,j,q+1,h,h2=>by
  have hl:i<n:=by omega
  cases c1:ieq (Hm a (f i)) 0 with
  | false =>rw [EE (show DN a f i=true by rw [DN,c1]; rfl)];simp only [c1];exact Ae (AmH L a n f i j (ofNat_lt hl) (Af hl) c1)
  | true =>
   cases c2:IG a (f i) with
   | false =>rw [EE (show DN a f i=true by rw [DN,c1,c2]; rfl)];simp only [c1];exact Ae (AmG L a n f i j (ofNat_lt hl) (Af hl) c1 c2)
   | true =>rw [EF (show DN a f i=false by rw [DN,c1,c2]; rfl),Ae (AmF L a n f i j (ofNat_lt hl) (Af hl) c1 c2),AK,AT hl hn];exact AhE L a n f hn d (i+1) Ac q (by omega) (by omega)
theorem Acz (L:LT) (a:Int) (n:Nat) (f:Nat->E6) (hn:n <= 4611686018427387904):∀ (d i:Nat) (j:Nat->V) (q:Nat),n=i+d->d<q ->
  (Ax (Ir L) (KQ a n f) q (MS a n f i j)).sem=some (match A0 (Hg n f) d i with
   | none=>OP a n f 0
   | some t=>OO a n f t)
 | 0,i,j,q+1,h,_=>by
  have:n=i:=by omega
  subst this;exact Ae (Am0 L a n f n j (A1 (Nat.le_refl _)))
 | d+1,i,j,q+1,h,h2=>by
  have hl:i<n:=by omega
  have e1:=PQ hl hn;have hb:Av (ile 0 (Ay (wr .i64 (Ai (ofNat i) 1)) (ofNat n))) (ilt (Ay (wr .i64 (Ai (ofNat i) 1)) (ofNat n)) (ofNat n))=true:=by
   rw [e1]; exact Af (Nat.mod_lt _ (by omega))
  have e2:toN (ofNat ((i+1) % n))=(i+1) % n:=rfl;cases c1:ieq (f i).dst (f ((i+1) % n)).src with
  | false =>rw [EE (show Hg n f i=true by rw [Hg,c1]; rfl)];exact Ae (Amz L a n f i j (ofNat_lt hl) (Af hl) (Ani hl) hb (by rw [e1,e2]; exact c1))
  | true =>rw [EF (show Hg n f i=false by rw [Hg,c1]; rfl),Ae (Amy L a n f i j (ofNat_lt hl) (Af hl) (Ani hl) hb (by rw [e1,e2]; exact c1)),AK,AT hl hn];exact Acz L a n f hn d (i+1) Ac q (by omega) (by omega)
def Io (a:Int) (n:Nat) (f:Nat->E6):Int×Int :=
 match A0 (DN a f) n 0 with
 | some t=>match ieq (Hm a (f t)) 0 with
  | false=>(30,ofNat t)
  | true=>(5,ofNat t)
 | none=>match A0 (Hg n f) n 0 with
  | some t=>(41,ofNat t)
  | none=>(0,0)
def AkQ:List V->A3
 | [.val (.int .i64 a),v]=>apL v λn f=>.br (Cl n) (out (.tup [iV (Io a n f).1,iV (Io a n f).2])) .fail
 | _=>.fail
theorem Alc {a:Int} {v u:V} (h:∀ (S:Nat->Prop) (w:World) (c:Value),VR S w v noK c->VR S w u noK c):By [.val (.int .i64 a),v] [iV a,u]:=λS w cs hv=>by
 obtain ⟨c,l,rfl,q1,q2⟩:=hv;obtain ⟨c2,l2,rfl,q3,q4⟩:=q2;exact ⟨c,_,rfl,q1,c2,l2,rfl,h S w c2 q3,q4⟩
theorem p86:As Tryz.prog Gl 85 AkQ:=by
 refine Ah A2 mixed Tryz.func85 (by kernel_rfl) (by kernel_rfl) λvs v h' h=>?_;unfold AkQ at h;split at h
 ·rename_i a u
  obtain ⟨n,f,ha,h1⟩:=Bd h;obtain ⟨hn,hq⟩:=Ab h1;have:=Aa hq;simp only [Prod.mk.injEq] at this;obtain ⟨rfl,rfl⟩:=this;have hn:=Ee (HF hn);have hx:=Bi Af7 [(0,V5 a n f),(2,KQ a n f)];have hL:=AV [(0,V5 a n f),(2,KQ a n f)];have h0:=λL j=>AhE L a n f hn n 0 j (n+1) (by omega) (by omega);have h2:=λL j=>Acz L a n f hn n 0 j (n+1) (by omega) (by omega);refine ⟨_,B7 Gl UN [(0,V5 a n f),(2,KQ a n f)],_,Alc ha,rfl,hx.1,hx.2,?_,Au.refl _⟩;unfold Io;cases c1:A0 (DN a f) n 0 with
  | some t =>
   rw [c1] at h0;cases c2:ieq (Hm a (f t)) 0 with
   | false =>simp only [c2] at h0 ⊢;exact Bh (Bg hL hL) _ (Al5 _ _ a n f t (AB (h0 _ _)))
   | true =>simp only [c2] at h0 ⊢;exact Bh (Bg hL hL) _ (Al4 _ _ a n f t (AB (h0 _ _)))
  | none =>
   rw [c1] at h0;cases c2:A0 (Hg n f) n 0 with
   | some t =>rw [c2] at h2;exact Bh (Bg (Bg hL hL) hL) _ (Al3 _ _ _ a n f 0 t (AB (h0 _ _)) (AB (h2 _ _)))
   | none =>rw [c2] at h2;exact Bh (Bg (Bg hL hL) hL) _ (Al2 _ _ _ a n f 0 0 (AB (h0 _ _)) (AB (h2 _ _)))
 ·cases h
def TN (n:Nat) (_:Nat->E6) (_:Nat) (_:Nat->Int) (_:Int) (_:Bool):Lp:=⟨bmK 38 0 [0,1,2,3,9,10],0,bmK 38 0 [9],0,n+1⟩
def WZ (n:Nat) (f:Nat->E6) (m:Nat) (l:Nat->Int) (k:Int) (w:Bool) (c:Int) (i:Nat) (j:Nat->V):St:=⟨jsV 38 0 j [(0,.sl 6 n (λi=>eV (f i))),(1,.sl 1 m (λk=>iV (l k))),(2,iV k),(3,bV w),(9,iV c),(10,nV i)],[]⟩
def Aex (_:Nat) (_:Nat->E6) (_:Nat) (_:Nat->Int) (_:Int) (_:Bool) (c:Int) (_:Nat):Ex×St:=(.ex 0,⟨jsV 38 0 Ac [(9,iV c)],[]⟩)
noncomputable def Lf (L:LT):St->T (Ex×St):=λst=>A6 tab ⟨A5 tb0,L,Gl⟩ (Aw Tryz.f51 0) 0 st
section
variable (L:LT) (n:Nat) (f:Nat->E6) (m:Nat) (l:Nat->Int) (k:Int) (w:Bool) (c:Int) (i:Nat)  (j:Nat->V)
include L n f m l k w c i j
theorem Am6 (h0:ilt (ofNat i) (ofNat n)=false):Am (Lf L) (TN n f m l k w) (WZ n f m l k w c i j)=some ((.ex 0),⟨jsV 38 0 Ac [(9,iV c)],[]⟩):=by
 exact Ag (ks:=[kn h0]) (by kernel_rfl)
theorem AmA (h0:ilt (ofNat i) (ofNat n)=true) (h1:Av (ile 0 (ofNat i)) (ilt (ofNat i) (ofNat m))=true) (h2:ieq (l i) k=false):Am (Lf L) (TN n f m l k w) (WZ n f m l k w c i j)=some (.nm,⟨jsV 38 0 Ac [(0,.sl 6 n (λi=>eV (f i))),(1,.sl 1 m (λk=>iV (l k))),(2,iV k),(3,bV w),(9,iV c),(10,iV (wr .i64 (Ai (ofNat i) 1)))],[]⟩):=by
 exact Ag (ks:=[kn h0,kn h1,kn h2,kn h2,kn h2,kn h2,kn h2,kF]) (by kernel_rfl)
theorem Am9 (h0:ilt (ofNat i) (ofNat n)=true) (h1:Av (ile 0 (ofNat i)) (ilt (ofNat i) (ofNat m))=true) (h2:ieq (l i) k=true) (h3:w=false):Am (Lf L) (TN n f m l k w) (WZ n f m l k w c i j)=some (.nm,⟨jsV 38 0 Ac [(0,.sl 6 n (λi=>eV (f i))),(1,.sl 1 m (λk=>iV (l k))),(2,iV k),(3,bV w),(9,iV (wr .i64 (Ai c 1))),(10,iV (wr .i64 (Ai (ofNat i) 1)))],[]⟩):=by
 exact Ag (ks:=[kn h0,kn h1,kn h2,kn h2,kn h2,kN (kn h3),kN (kn h3),kN (kn h3),kN (kn h3),kN (kn h3),kN (kn h3),kn h2,kN (kn h3),kn h2,kT]) (by kernel_rfl)
theorem Am8 (h0:ilt (ofNat i) (ofNat n)=true) (h1:Av (ile 0 (ofNat i)) (ilt (ofNat i) (ofNat m))=true) (h2:ieq (l i) k=true) (h3:w=true) (h4:Av (ile 0 (ofNat i)) (ilt (ofNat i) (ofNat n))=true) (h5:ieq (f i).src 2=true):Am (Lf L) (TN n f m l k w) (WZ n f m l k w c i j)=some (.nm,⟨jsV 38 0 Ac [(0,.sl 6 n (λi=>eV (f i))),(1,.sl 1 m (λk=>iV (l k))),(2,iV k),(3,bV w),(9,iV (wr .i64 (Ai c 1))),(10,iV (wr .i64 (Ai (ofNat i) 1)))],[]⟩):=by
 exact Ag (ks:=[kn h0,kn h1,kn h2,kn h2,kn h2,kN (kn h3),kN (kn h3),kN (kn h3),kn h4,kN (kn h3),kN (kn h3),kN (kn h3),kn h2,kN (kn h3),kn h2,kn h5]) (by kernel_rfl)
theorem Am7 (h0:ilt (ofNat i) (ofNat n)=true) (h1:Av (ile 0 (ofNat i)) (ilt (ofNat i) (ofNat m))=true) (h2:ieq (l i) k=true) (h3:w=true) (h4:Av (ile 0 (ofNat i)) (ilt (ofNat i) (ofNat n))=true) (h5:ieq (f i).src 2=false):Am (Lf L) (TN n f m l k w) (WZ n f m l k w c i j)=some (.nm,⟨jsV 38 0 Ac [(0,.sl 6 n (λi=>eV (f i))),(1,.sl 1 m (λk=>iV (l k))),(2,iV k),(3,bV w),(9,iV c),(10,iV (wr .i64 (Ai (ofNat i) 1)))],[]⟩):=by
 exact Ag (ks:=[kn h0,kn h1,kn h2,kn h2,kn h2,kN (kn h3),kN (kn h3),kN (kn h3),kn h4,kN (kn h3),kN (kn h3),kN (kn h3),kn h2,kN (kn h3),kn h2,kn h5]) (by kernel_rfl)
end
def ApC (_:Nat) (_:Nat->E6) (_:Nat) (_:Nat->Int) (_:Int) (_:Bool) :Nat->V:=lkV A7 [(8,iV 0)]
theorem Ao9 (L:LT) (p0:PT) (n:Nat) (f:Nat->E6) (m:Nat) (l:Nat->Int) (k:Int) (w:Bool) (c:Int) (i:Nat)  (hp0:p0 (Lf (onP 0 p0 (Aex n f m l k w c i) L)) (WZ n f m l k w 0 0 (ApC n f m l k w ))=true):(AL (Ar tab ⟨A5 tb0,onP 0 p0 (Aex n f m l k w c i) L,Gl⟩ Tryz.f51 [Ap n f,CH m l,iV k,bV w] [])).sem=some ((iV c),[]):=by
 exact Ag (ks:=[kn hp0]) (by kernel_rfl)
def isW (e:E6):Bool:=ieq e.src 2
def D6 (l:Nat->Int) (c:Nat->Bool) (k:Int) (i:Nat):Bool:=Av (ieq (l i) k) (c i)
def U1 (n:Nat) (l:Nat->Int) (c:Nat->Bool) (k:Int):Int:=ofNat (AA (D6 l c k) n)
def ofW (w:Bool) (f:Nat->E6) (i:Nat):Bool:=bor (AN w) (isW (f i))
theorem Vb (L:LT) (n:Nat) (f:Nat->E6) (l:Nat->Int) (k:Int) (w:Bool) (hn:n <= 4611686018427387904):∀ (d i:Nat) (j:Nat->V) (q:Nat),n=i+d->d<q ->
  (Ax (Lf L) (TN n f n l k w) q (WZ n f n l k w (ofNat (AA (D6 l (ofW w f) k) i)) i j)).sem=some (Aex n f n l k w (ofNat (AA (D6 l (ofW w f) k) n)) n)
 | 0,i,j,q+1,h,_=>by
  have:n=i:=by omega
  subst this;exact Ae (Am6 L n f n l k w (ofNat (AA (D6 l (ofW w f) k) n)) n j (A1 (Nat.le_refl _)))
 | d+1,i,j,q+1,h,h2=>by
  have hl:i<n:=by omega
  have hc:=DU (D6 l (ofW w f) k) i;have yes:D6 l (ofW w f) k i=true->wr .i64 (Ai (ofNat (AA (D6 l (ofW w f) k) i)) 1)=ofNat (AA (D6 l (ofW w f) k) (i+1)):=λh3=>by
   rw [AT (show AA (D6 l (ofW w f) k) i<n by omega) hn,Lb h3]
  have no:D6 l (ofW w f) k i=false->ofNat (AA (D6 l (ofW w f) k) i)=ofNat (AA (D6 l (ofW w f) k) (i+1)):=λh3=>by rw [N9 h3]
  cases c1:ieq (l i) k with
  | false =>rw [Ae (AmA L n f n l k w (ofNat (AA (D6 l (ofW w f) k) i)) i j (ofNat_lt hl) (Af hl) c1),AK,AT hl hn,no (by rw [D6,c1]; rfl)];exact Vb L n f l k w hn d (i+1) Ac q (by omega) (by omega)
  | true =>
   cases c2:w with
   | false =>subst c2;rw [Ae (Am9 L n f n l k false (ofNat (AA (D6 l (ofW false f) k) i)) i j (ofNat_lt hl) (Af hl) c1 rfl),AK,AT hl hn,yes (by rw [D6,c1]; rfl)];exact Vb L n f l k false hn d (i+1) Ac q (by omega) (by omega)
   | true =>
    subst c2;cases c3:ieq (f i).src 2 with
    | true =>rw [Ae (Am8 L n f n l k true (ofNat (AA (D6 l (ofW true f) k) i)) i j (ofNat_lt hl) (Af hl) c1 rfl (Af hl) c3),AK,AT hl hn,yes (by rw [D6,c1,ofW,isW,c3]; rfl)];exact Vb L n f l k true hn d (i+1) Ac q (by omega) (by omega)
    | false =>rw [Ae (Am7 L n f n l k true (ofNat (AA (D6 l (ofW true f) k) i)) i j (ofNat_lt hl) (Af hl) c1 rfl (Af hl) c3),AK,AT hl hn,no (by rw [D6,c1,ofW,isW,c3]; rfl)];exact Vb L n f l k true hn d (i+1) Ac q (by omega) (by omega)
def AeC:List V->A3
 | [v,u,.val (.int .i64 k),.val (.bool w)]=>apL v λn f=>apI u λm l=>.br (Es n m) (.br (BX n) (out (iV (U1 n l (λi=>bor (AN w) (isW (f i))) k))) .fail) .fail
 | _=>.fail
theorem p96:As Tryz.prog Gl 51 AeC:=by
 refine Ah A2 mixed Tryz.func51 (by kernel_rfl) (by kernel_rfl) λvs v h' h=>?_;unfold AeC at h;split at h
 ·rename_i v1 u1 k w
  obtain ⟨n,f,ha,h1⟩:=Bd h;obtain ⟨m,l,hb,h2⟩:=Ge h1;obtain ⟨hm,h3⟩:=Ab h2;obtain ⟨hn,hq⟩:=Ab h3;have hm:n=m:=Nat.eq_of_beq_eq_true hm;subst hm;have:=Aa hq;simp only [Prod.mk.injEq] at this;obtain ⟨rfl,rfl⟩:=this;have hn:n <= 4611686018427387904:=of_decide_eq_true hn;have hA:By [v1,u1,.val (.int .i64 k),.val (.bool w)] [Ap n f,CH n l,iV k,bV w]:=λS w' cs hv=>by
   obtain ⟨c,l1,rfl,q1,c2,l2,rfl,q2,q3⟩:=hv;exact ⟨c,_,rfl,ha S w' c q1,c2,l2,rfl,hb S w' c2 q2,q3⟩
  have hx:=Bi H2 [(0,TN n f n l k w)];have hL:=AV [(0,TN n f n l k w)];exact ⟨_,B7 Gl tb0 [(0,TN n f n l k w)],_,hA,rfl,hx.1,hx.2,Bh (Bg hL hL) _ (Ao9 _ _ n f n l k w _ n (AB (Vb _ n f l k w hn n 0 _ (n+1) (by omega) (by omega)))),Au.refl _⟩
 ·cases h
end Go.Proofs.YtkbgidbledjejaaGreat.Ed
