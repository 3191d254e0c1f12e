/-
  Why one of some edges is not to be there; how many events have one number. No conditions.
-/
import Derived.Test.YtkbafjceglhjhaaGreatDoorShBa
namespace Go.Proofs.YtkbafjceglhjhaaGreatDoor.Ed
open Go.Sy
open Int (ofNat)
def D9 (a:Int) (f:Nat->E6) (i:Nat):Bool:=AQ (Aj (ieq (GW a (f i)) 0) (MK a (f i)))
def Gw (n:Nat) (f:Nat->E6) (i:Nat):Bool:=AQ (ieq (f i).dst (f ((i+1) % n)).src)
noncomputable def SR:A9:=(192,ap2 gI toE λa e=>out (Ov a e))::[]
theorem Ad7:Ao Tryz.prog Gl SR:=.cons p32 .nil
theorem Oa {i n:Nat} (h:i<n) (hn:n <= 4611686018427387904):Aq (wr .i64 (Ah (ofNat i) 1)) (ofNat n)=ofNat ((i+1) % n):=by rw [A1 h hn,DZ]
theorem AmN {i n:Nat} (h:i<n):ieq (ofNat n) 0=false:=by rw [show (0:Int)=ofNat 0 from rfl,D8,decide_eq_false (by omega)]
def lp86 (_:Int) (n:Nat) (_:Nat->E6):Lp:=⟨bmK 53 0 [0,1,4,5,12,13,14],0,bmK 53 0 [1,4,5],0,n+1⟩
def Ra (a:Int) (n:Nat) (f:Nat->E6) (i:Nat) (j:Nat->V):St:=⟨jsV 53 0 j [(0,iV a),(1,.sl 6 n (λi=>eV (f i))),(4,iV 0),(5,iV 0),(12,.sl 6 n (λi=>eV (f i))),(13,nV n),(14,nV i)],[]⟩
def OP (_:Int) (n:Nat) (f:Nat->E6) (_:Nat):Ex×St:=(.ex 0,⟨jsV 53 0 Ab [(1,.sl 6 n (λi=>eV (f i))),(4,iV 0),(5,iV 0)],[]⟩)
def Acz (_:Int) (n:Nat) (f:Nat->E6) (i:Nat):Ex×St:=(.rt,⟨jsV 53 0 Ab [(1,.sl 6 n (λi=>eV (f i))),(4,iV 30),(5,nV i)],[]⟩)
def Acy (_:Int) (n:Nat) (f:Nat->E6) (i:Nat):Ex×St:=(.rt,⟨jsV 53 0 Ab [(1,.sl 6 n (λi=>eV (f i))),(4,iV 5),(5,nV i)],[]⟩)
noncomputable def Ib (L:LT):St->T (Ex×St):=λst=>A8 tab ⟨Ax SR,L,Gl⟩ (As Tryz.f169 0) 0 st
section
variable (L:LT) (a:Int) (n:Nat) (f:Nat->E6) (i:Nat)  (j:Nat->V)
include L a n f i j
theorem AlZ (h0:ilt (ofNat i) (ofNat n)=false):Ay (Ib L) (lp86 a n f) (Ra a n f i j)=some ((.ex 0),⟨jsV 53 0 Ab [(1,.sl 6 n (λi=>eV (f i))),(4,iV 0),(5,iV 0)],[]⟩):=by
 exact Ad (ks:=[kn h0]) (by kernel_rfl)
theorem AlY (h0:ilt (ofNat i) (ofNat n)=true) (h1:Aj (ile 0 (ofNat i)) (ilt (ofNat i) (ofNat n))=true) (h2:ieq (GW a (f i)) 0=false):Ay (Ib L) (lp86 a n f) (Ra a n f i j)=some (.rt,⟨jsV 53 0 Ab [(1,.sl 6 n (λi=>eV (f i))),(4,iV 30),(5,nV i)],[]⟩):=by
 exact Ad (ks:=[kn h0,kn h1,kN (kn h2)]) (by kernel_rfl)
theorem AlX (h0:ilt (ofNat i) (ofNat n)=true) (h1:Aj (ile 0 (ofNat i)) (ilt (ofNat i) (ofNat n))=true) (h2:ieq (GW a (f i)) 0=true) (h3:MK a (f i)=false):Ay (Ib L) (lp86 a n f) (Ra a n f i j)=some (.rt,⟨jsV 53 0 Ab [(1,.sl 6 n (λi=>eV (f i))),(4,iV 5),(5,nV i)],[]⟩):=by
 exact Ad (ks:=[kn h0,kn h1,kN (kn h2),kN (kn h3)]) (by kernel_rfl)
theorem AlW (h0:ilt (ofNat i) (ofNat n)=true) (h1:Aj (ile 0 (ofNat i)) (ilt (ofNat i) (ofNat n))=true) (h2:ieq (GW a (f i)) 0=true) (h3:MK a (f i)=true):Ay (Ib L) (lp86 a n f) (Ra a n f i j)=some (.nm,⟨jsV 53 0 Ab [(0,iV a),(1,.sl 6 n (λi=>eV (f i))),(4,iV 0),(5,iV 0),(12,.sl 6 n (λi=>eV (f i))),(13,nV n),(14,iV (wr .i64 (Ah (ofNat i) 1)))],[]⟩):=by
 exact Ad (ks:=[kn h0,kn h1,kN (kn h2),kN (kn h3)]) (by kernel_rfl)
end
def Af4 (_:Int) (_:Nat) (_:Nat->E6) :Nat->V:=lkV AI []
def lp86_2 (_:Int) (n:Nat) (_:Nat->E6):Lp:=⟨bmK 53 0 [1,4,5,32,33,34],0,bmK 53 0 [4,5],0,n+1⟩
def Ly (_:Int) (n:Nat) (f:Nat->E6) (i:Nat) (j:Nat->V):St:=⟨jsV 53 0 j [(1,.sl 6 n (λi=>eV (f i))),(4,iV 0),(5,iV 0),(32,.sl 6 n (λi=>eV (f i))),(33,nV n),(34,nV i)],[]⟩
def Nh (_:Int) (_:Nat) (_:Nat->E6) (_:Nat):Ex×St:=(.ex 2,⟨jsV 53 0 Ab [(4,iV 0),(5,iV 0)],[]⟩)
def Ng (_:Int) (_:Nat) (_:Nat->E6) (i:Nat):Ex×St:=(.rt,⟨jsV 53 0 Ab [(4,iV 41),(5,nV i)],[]⟩)
noncomputable def H3 (L:LT):St->T (Ex×St):=λst=>A8 tab ⟨Ax SR,L,Gl⟩ (As Tryz.f169 2) 2 st
section
variable (L:LT) (a:Int) (n:Nat) (f:Nat->E6) (i:Nat)  (j:Nat->V)
include L a n f i j
theorem AlJ (h0:ilt (ofNat i) (ofNat n)=false):Ay (H3 L) (lp86_2 a n f) (Ly a n f i j)=some ((.ex 2),⟨jsV 53 0 Ab [(4,iV 0),(5,iV 0)],[]⟩):=by
 exact Ad (ks:=[kn h0]) (by kernel_rfl)
theorem AlI (h0:ilt (ofNat i) (ofNat n)=true) (h1:Aj (ile 0 (ofNat i)) (ilt (ofNat i) (ofNat n))=true) (h2:ieq (ofNat n) 0=false) (h3:Aj (ile 0 (Aq (wr .i64 (Ah (ofNat i) 1)) (ofNat n))) (ilt (Aq (wr .i64 (Ah (ofNat i) 1)) (ofNat n)) (ofNat n))=true) (h4:ieq (f i).dst (f (toN (Aq (wr .i64 (Ah (ofNat i) 1)) (ofNat n)))).src=false):Ay (H3 L) (lp86_2 a n f) (Ly a n f i j)=some (.rt,⟨jsV 53 0 Ab [(4,iV 41),(5,nV i)],[]⟩):=by
 exact Ad (ks:=[kn h0,kn h1,kn h2,kn h3,kN (kn h4)]) (by kernel_rfl)
theorem AlH (h0:ilt (ofNat i) (ofNat n)=true) (h1:Aj (ile 0 (ofNat i)) (ilt (ofNat i) (ofNat n))=true) (h2:ieq (ofNat n) 0=false) (h3:Aj (ile 0 (Aq (wr .i64 (Ah (ofNat i) 1)) (ofNat n))) (ilt (Aq (wr .i64 (Ah (ofNat i) 1)) (ofNat n)) (ofNat n))=true) (h4:ieq (f i).dst (f (toN (Aq (wr .i64 (Ah (ofNat i) 1)) (ofNat n)))).src=true):Ay (H3 L) (lp86_2 a n f) (Ly a n f i j)=some (.nm,⟨jsV 53 0 Ab [(1,.sl 6 n (λi=>eV (f i))),(4,iV 0),(5,iV 0),(32,.sl 6 n (λi=>eV (f i))),(33,nV n),(34,iV (wr .i64 (Ah (ofNat i) 1)))],[]⟩):=by
 exact Ad (ks:=[kn h0,kn h1,kn h2,kn h3,kN (kn h4)]) (by kernel_rfl)
end
def AbN (_:Int) (_:Nat) (_:Nat->E6) (_:Nat):Nat->V:=lkU 9007169189969869 []
section
variable (L:LT) (p0:PT) (a:Int) (n:Nat) (f:Nat->E6) (i:Nat)
include L p0 a n f i
theorem AkX  (hp0:p0 (Ib (onP 0 p0 (Acz a n f i) L)) (Ra a n f 0 (Af4 a n f ))=true):(A0 (Ai tab ⟨Ax SR,onP 0 p0 (Acz a n f i) L,Gl⟩ Tryz.f169 [iV a,AL n f] [])).sem=some ((.tup [iV 30,nV i]),[]):=by
 exact Ad (ks:=[kn hp0]) (by kernel_rfl)
theorem AkW  (hp0:p0 (Ib (onP 0 p0 (Acy a n f i) L)) (Ra a n f 0 (Af4 a n f ))=true):(A0 (Ai tab ⟨Ax SR,onP 0 p0 (Acy a n f i) L,Gl⟩ Tryz.f169 [iV a,AL n f] [])).sem=some ((.tup [iV 5,nV i]),[]):=by
 exact Ad (ks:=[kn hp0]) (by kernel_rfl)
end
section
variable (L:LT) (p0:PT) (p2:PT) (a:Int) (n:Nat) (f:Nat->E6) (i j:Nat)
include L p0 p2 a n f i j
theorem AkV  (hp0:p0 (Ib (onP 0 p0 (OP a n f i) (onP 2 p2 (Ng a n f j) L))) (Ra a n f 0 (Af4 a n f ))=true) (hp2:p2 (H3 (onP 0 p0 (OP a n f i) (onP 2 p2 (Ng a n f j) L))) (Ly a n f 0 (AbN a n f i))=true):(A0 (Ai tab ⟨Ax SR,onP 0 p0 (OP a n f i) (onP 2 p2 (Ng a n f j) L),Gl⟩ Tryz.f169 [iV a,AL n f] [])).sem=some ((.tup [iV 41,nV j]),[]):=by
 exact Ad (ks:=[kn hp0,kn hp2]) (by kernel_rfl)
theorem AkU  (hp0:p0 (Ib (onP 0 p0 (OP a n f i) (onP 2 p2 (Nh a n f j) L))) (Ra a n f 0 (Af4 a n f ))=true) (hp2:p2 (H3 (onP 0 p0 (OP a n f i) (onP 2 p2 (Nh a n f j) L))) (Ly a n f 0 (AbN a n f i))=true):(A0 (Ai tab ⟨Ax SR,onP 0 p0 (OP a n f i) (onP 2 p2 (Nh a n f j) L),Gl⟩ Tryz.f169 [iV a,AL n f] [])).sem=some ((.tup [iV 0,iV 0]),[]):=by
 exact Ad (ks:=[kn hp0,kn hp2]) (by kernel_rfl)
end
theorem AgB (L:LT) (a:Int) (n:Nat) (f:Nat->E6) (hn:n <= 4611686018427387904):∀ (d i:Nat) (j:Nat->V) (q:Nat),n=i+d->d<q ->
  (Au (Ib L) (lp86 a n f) q (Ra a n f i j)).sem=some (match AO (D9 a f) d i with
   | none=>OP a n f 0
   | some t=>match ieq (GW a (f t)) 0 with
    | false=>Acz a n f t
    | true=>Acy a n f t)
 | 0,i,j,q+1,h,_=>by
  have:n=i:=by omega
  subst this;exact Ag (AlZ L a n f n j (Az (Nat.le_refl _)))
 | d+1,i,j,q+1,h,h2=>by
  have hl:i<n:=by omega
  cases c1:ieq (GW a (f i)) 0 with
  | false =>rw [E2 (show D9 a f i=true by rw [D9,c1]; rfl)];simp only [c1];exact Ag (AlY L a n f i j (ofNat_lt hl) (Ae hl) c1)
  | true =>
   cases c2:MK a (f i) with
   | false =>rw [E2 (show D9 a f i=true by rw [D9,c1,c2]; rfl)];simp only [c1];exact Ag (AlX L a n f i j (ofNat_lt hl) (Ae hl) c1 c2)
   | true =>rw [E3 (show D9 a f i=false by rw [D9,c1,c2]; rfl),Ag (AlW L a n f i j (ofNat_lt hl) (Ae hl) c1 c2),AV,A1 hl hn];exact AgB L a n f hn d (i+1) Ab q (by omega) (by omega)
theorem Aar (L:LT) (a:Int) (n:Nat) (f:Nat->E6) (hn:n <= 4611686018427387904):∀ (d i:Nat) (j:Nat->V) (q:Nat),n=i+d->d<q ->
  (Au (H3 L) (lp86_2 a n f) q (Ly a n f i j)).sem=some (match AO (Gw n f) d i with
   | none=>Nh a n f 0
   | some t=>Ng a n f t)
 | 0,i,j,q+1,h,_=>by
  have:n=i:=by omega
  subst this;exact Ag (AlJ L a n f n j (Az (Nat.le_refl _)))
 | d+1,i,j,q+1,h,h2=>by
  have hl:i<n:=by omega
  have e1:=Oa hl hn;have hb:Aj (ile 0 (Aq (wr .i64 (Ah (ofNat i) 1)) (ofNat n))) (ilt (Aq (wr .i64 (Ah (ofNat i) 1)) (ofNat n)) (ofNat n))=true:=by
   rw [e1]; exact Ae (Nat.mod_lt _ (by omega))
  have e2:toN (ofNat ((i+1) % n))=(i+1) % n:=rfl;cases c1:ieq (f i).dst (f ((i+1) % n)).src with
  | false =>rw [E2 (show Gw n f i=true by rw [Gw,c1]; rfl)];exact Ag (AlI L a n f i j (ofNat_lt hl) (Ae hl) (AmN hl) hb (by rw [e1,e2]; exact c1))
  | true =>rw [E3 (show Gw n f i=false by rw [Gw,c1]; rfl),Ag (AlH L a n f i j (ofNat_lt hl) (Ae hl) (AmN hl) hb (by rw [e1,e2]; exact c1)),AV,A1 hl hn];exact Aar L a n f hn d (i+1) Ab q (by omega) (by omega)
def II (a:Int) (n:Nat) (f:Nat->E6):Int×Int :=
 match AO (D9 a f) n 0 with
 | some t=>match ieq (GW a (f t)) 0 with
  | false=>(30,ofNat t)
  | true=>(5,ofNat t)
 | none=>match AO (Gw n f) n 0 with
  | some t=>(41,ofNat t)
  | none=>(0,0)
def Akn:List V->A3
 | [.val (.int .i64 a),v]=>apL v λn f=>.br (CU n) (out (.tup [iV (II a n f).1,iV (II a n f).2])) .fail
 | _=>.fail
theorem W2 {a:Int} {v u:V} (h:∀ (S:Nat->Prop) (w:World) (c:Value),VR S w v noK c->VR S w u noK c):Bz [.val (.int .i64 a),v] [iV a,u]:=λS w cs hv=>by
 obtain ⟨c,l,rfl,q1,q2⟩:=hv;obtain ⟨c2,l2,rfl,q3,q4⟩:=q2;exact ⟨c,_,rfl,q1,c2,l2,rfl,h S w c2 q3,q4⟩
theorem p86:An Tryz.prog Gl 169 Akn:=by
 refine Al A2 mixed Tryz.func169 (by kernel_rfl) (by kernel_rfl) λvs v h' h=>?_;unfold Akn at h;split at h
 ·rename_i a u
  obtain ⟨n,f,ha,h1⟩:=Cz h;obtain ⟨hn,hq⟩:=Ac h1;have:=Aa hq;simp only [Prod.mk.injEq] at this;obtain ⟨rfl,rfl⟩:=this;have hn:=Eh (Hb hn);have hx:=Bq Ad7 [(0,lp86 a n f),(2,lp86_2 a n f)];have hL:=Bh [(0,lp86 a n f),(2,lp86_2 a n f)];have h0:=λL j=>AgB L a n f hn n 0 j (n+1) (by omega) (by omega);have h2:=λL j=>Aar L a n f hn n 0 j (n+1) (by omega) (by omega);refine ⟨_,AP Gl SR [(0,lp86 a n f),(2,lp86_2 a n f)],_,W2 ha,rfl,hx.1,hx.2,?_,Ap.refl _⟩;unfold II;cases c1:AO (D9 a f) n 0 with
  | some t =>
   rw [c1] at h0;cases c2:ieq (GW a (f t)) 0 with
   | false =>simp only [c2] at h0 ⊢;exact Bn (Be hL hL) _ (AkX _ _ a n f t (A5 (h0 _ _)))
   | true =>simp only [c2] at h0 ⊢;exact Bn (Be hL hL) _ (AkW _ _ a n f t (A5 (h0 _ _)))
  | none =>
   rw [c1] at h0;cases c2:AO (Gw n f) n 0 with
   | some t =>rw [c2] at h2;exact Bn (Be (Be hL hL) hL) _ (AkV _ _ _ a n f 0 t (A5 (h0 _ _)) (A5 (h2 _ _)))
   | none =>rw [c2] at h2;exact Bn (Be (Be hL hL) hL) _ (AkU _ _ _ a n f 0 0 (A5 (h0 _ _)) (A5 (h2 _ _)))
 ·cases h
def RA (n:Nat) (_:Nat->E6) (_:Nat) (_:Nat->Int) (_:Int) (_:Bool):Lp:=⟨bmK 38 0 [0,1,2,3,9,10],0,bmK 38 0 [9],0,n+1⟩
def Vb (n:Nat) (f:Nat->E6) (m:Nat) (l:Nat->Int) (k:Int) (w:Bool) (c:Int) (i:Nat) (j:Nat->V):St:=⟨jsV 38 0 j [(0,.sl 6 n (λi=>eV (f i))),(1,.sl 1 m (λk=>iV (l k))),(2,iV k),(3,bV w),(9,iV c),(10,nV i)],[]⟩
def Acx (_:Nat) (_:Nat->E6) (_:Nat) (_:Nat->Int) (_:Int) (_:Bool) (c:Int) (_:Nat):Ex×St:=(.ex 0,⟨jsV 38 0 Ab [(9,iV c)],[]⟩)
noncomputable def JZ (L:LT):St->T (Ex×St):=λst=>A8 tab ⟨Ax tb0,L,Gl⟩ (As Tryz.f156 0) 0 st
section
variable (L:LT) (n:Nat) (f:Nat->E6) (m:Nat) (l:Nat->Int) (k:Int) (w:Bool) (c:Int) (i:Nat)  (j:Nat->V)
include L n f m l k w c i j
theorem AlN (h0:ilt (ofNat i) (ofNat n)=false):Ay (JZ L) (RA n f m l k w) (Vb n f m l k w c i j)=some ((.ex 0),⟨jsV 38 0 Ab [(9,iV c)],[]⟩):=by
 exact Ad (ks:=[kn h0]) (by kernel_rfl)
theorem AlR (h0:ilt (ofNat i) (ofNat n)=true) (h1:Aj (ile 0 (ofNat i)) (ilt (ofNat i) (ofNat m))=true) (h2:ieq (l i) k=false):Ay (JZ L) (RA n f m l k w) (Vb n f m l k w c i j)=some (.nm,⟨jsV 38 0 Ab [(0,.sl 6 n (λi=>eV (f i))),(1,.sl 1 m (λk=>iV (l k))),(2,iV k),(3,bV w),(9,iV c),(10,iV (wr .i64 (Ah (ofNat i) 1)))],[]⟩):=by
 exact Ad (ks:=[kn h0,kn h1,kn h2,kn h2,kn h2,kn h2,kn h2,kF]) (by kernel_rfl)
theorem AlQ (h0:ilt (ofNat i) (ofNat n)=true) (h1:Aj (ile 0 (ofNat i)) (ilt (ofNat i) (ofNat m))=true) (h2:ieq (l i) k=true) (h3:w=false):Ay (JZ L) (RA n f m l k w) (Vb n f m l k w c i j)=some (.nm,⟨jsV 38 0 Ab [(0,.sl 6 n (λi=>eV (f i))),(1,.sl 1 m (λk=>iV (l k))),(2,iV k),(3,bV w),(9,iV (wr .i64 (Ah c 1))),(10,iV (wr .i64 (Ah (ofNat i) 1)))],[]⟩):=by
 exact Ad (ks:=[kn h0,kn h1,kn h2,kn h2,kn h2,kN (kn h3),kN (kn h3),kN (kn h3),kN (kn h3),kN (kn h3),kN (kn h3),kn h2,kN (kn h3),kn h2,kT]) (by kernel_rfl)
theorem AlP (h0:ilt (ofNat i) (ofNat n)=true) (h1:Aj (ile 0 (ofNat i)) (ilt (ofNat i) (ofNat m))=true) (h2:ieq (l i) k=true) (h3:w=true) (h4:Aj (ile 0 (ofNat i)) (ilt (ofNat i) (ofNat n))=true) (h5:ieq (f i).src 2=true):Ay (JZ L) (RA n f m l k w) (Vb n f m l k w c i j)=some (.nm,⟨jsV 38 0 Ab [(0,.sl 6 n (λi=>eV (f i))),(1,.sl 1 m (λk=>iV (l k))),(2,iV k),(3,bV w),(9,iV (wr .i64 (Ah c 1))),(10,iV (wr .i64 (Ah (ofNat i) 1)))],[]⟩):=by
 exact Ad (ks:=[kn h0,kn h1,kn h2,kn h2,kn h2,kN (kn h3),kN (kn h3),kN (kn h3),kn h4,kN (kn h3),kN (kn h3),kN (kn h3),kn h2,kN (kn h3),kn h2,kn h5]) (by kernel_rfl)
theorem AlO (h0:ilt (ofNat i) (ofNat n)=true) (h1:Aj (ile 0 (ofNat i)) (ilt (ofNat i) (ofNat m))=true) (h2:ieq (l i) k=true) (h3:w=true) (h4:Aj (ile 0 (ofNat i)) (ilt (ofNat i) (ofNat n))=true) (h5:ieq (f i).src 2=false):Ay (JZ L) (RA n f m l k w) (Vb n f m l k w c i j)=some (.nm,⟨jsV 38 0 Ab [(0,.sl 6 n (λi=>eV (f i))),(1,.sl 1 m (λk=>iV (l k))),(2,iV k),(3,bV w),(9,iV c),(10,iV (wr .i64 (Ah (ofNat i) 1)))],[]⟩):=by
 exact Ad (ks:=[kn h0,kn h1,kn h2,kn h2,kn h2,kN (kn h3),kN (kn h3),kN (kn h3),kn h4,kN (kn h3),kN (kn h3),kN (kn h3),kn h2,kN (kn h3),kn h2,kn h5]) (by kernel_rfl)
end
def Apz (_:Nat) (_:Nat->E6) (_:Nat) (_:Nat->Int) (_:Int) (_:Bool) :Nat->V:=lkV AI [(8,iV 0)]
theorem Ao2 (L:LT) (p0:PT) (n:Nat) (f:Nat->E6) (m:Nat) (l:Nat->Int) (k:Int) (w:Bool) (c:Int) (i:Nat)  (hp0:p0 (JZ (onP 0 p0 (Acx n f m l k w c i) L)) (Vb n f m l k w 0 0 (Apz n f m l k w ))=true):(A0 (Ai tab ⟨Ax tb0,onP 0 p0 (Acx n f m l k w c i) L,Gl⟩ Tryz.f156 [AL n f,Fh m l,iV k,bV w] [])).sem=some ((iV c),[]):=by
 exact Ad (ks:=[kn hp0]) (by kernel_rfl)
def isW (e:E6):Bool:=ieq e.src 2
def CG (l:Nat->Int) (c:Nat->Bool) (k:Int) (i:Nat):Bool:=Aj (ieq (l i) k) (c i)
def OU (n:Nat) (l:Nat->Int) (c:Nat->Bool) (k:Int):Int:=ofNat (Ak (CG l c k) n)
def ofW (w:Bool) (f:Nat->E6) (i:Nat):Bool:=bor (AQ w) (isW (f i))
theorem Ti (L:LT) (n:Nat) (f:Nat->E6) (l:Nat->Int) (k:Int) (w:Bool) (hn:n <= 4611686018427387904):∀ (d i:Nat) (j:Nat->V) (q:Nat),n=i+d->d<q ->
  (Au (JZ L) (RA n f n l k w) q (Vb n f n l k w (ofNat (Ak (CG l (ofW w f) k) i)) i j)).sem=some (Acx n f n l k w (ofNat (Ak (CG l (ofW w f) k) n)) n)
 | 0,i,j,q+1,h,_=>by
  have:n=i:=by omega
  subst this;exact Ag (AlN L n f n l k w (ofNat (Ak (CG l (ofW w f) k) n)) n j (Az (Nat.le_refl _)))
 | d+1,i,j,q+1,h,h2=>by
  have hl:i<n:=by omega
  have hc:=BK (CG l (ofW w f) k) i;have yes:CG l (ofW w f) k i=true->wr .i64 (Ah (ofNat (Ak (CG l (ofW w f) k) i)) 1)=ofNat (Ak (CG l (ofW w f) k) (i+1)):=λh3=>by
   rw [A1 (show Ak (CG l (ofW w f) k) i<n by omega) hn,BH h3]
  have no:CG l (ofW w f) k i=false->ofNat (Ak (CG l (ofW w f) k) i)=ofNat (Ak (CG l (ofW w f) k) (i+1)):=λh3=>by rw [BZ h3]
  cases c1:ieq (l i) k with
  | false =>rw [Ag (AlR L n f n l k w (ofNat (Ak (CG l (ofW w f) k) i)) i j (ofNat_lt hl) (Ae hl) c1),AV,A1 hl hn,no (by rw [CG,c1]; rfl)];exact Ti L n f l k w hn d (i+1) Ab q (by omega) (by omega)
  | true =>
   cases c2:w with
   | false =>subst c2;rw [Ag (AlQ L n f n l k false (ofNat (Ak (CG l (ofW false f) k) i)) i j (ofNat_lt hl) (Ae hl) c1 rfl),AV,A1 hl hn,yes (by rw [CG,c1]; rfl)];exact Ti L n f l k false hn d (i+1) Ab q (by omega) (by omega)
   | true =>
    subst c2;cases c3:ieq (f i).src 2 with
    | true =>rw [Ag (AlP L n f n l k true (ofNat (Ak (CG l (ofW true f) k) i)) i j (ofNat_lt hl) (Ae hl) c1 rfl (Ae hl) c3),AV,A1 hl hn,yes (by rw [CG,c1,ofW,isW,c3]; rfl)];exact Ti L n f l k true hn d (i+1) Ab q (by omega) (by omega)
    | false =>rw [Ag (AlO L n f n l k true (ofNat (Ak (CG l (ofW true f) k) i)) i j (ofNat_lt hl) (Ae hl) c1 rfl (Ae hl) c3),AV,A1 hl hn,no (by rw [CG,c1,ofW,isW,c3]; rfl)];exact Ti L n f l k true hn d (i+1) Ab q (by omega) (by omega)
def AcH:List V->A3
 | [v,u,.val (.int .i64 k),.val (.bool w)]=>apL v λn f=>apI u λm l=>.br (BI n m) (.br (Av n) (out (iV (OU n l (λi=>bor (AQ w) (isW (f i))) k))) .fail) .fail
 | _=>.fail
theorem p96:An Tryz.prog Gl 156 AcH:=by
 refine Al A2 mixed Tryz.func156 (by kernel_rfl) (by kernel_rfl) λvs v h' h=>?_;unfold AcH at h;split at h
 ·rename_i v1 u1 k w
  obtain ⟨n,f,ha,h1⟩:=Cz h;obtain ⟨m,l,hb,h2⟩:=D2 h1;obtain ⟨hm,h3⟩:=Ac h2;obtain ⟨hn,hq⟩:=Ac h3;have hm:n=m:=Nat.eq_of_beq_eq_true hm;subst hm;have:=Aa hq;simp only [Prod.mk.injEq] at this;obtain ⟨rfl,rfl⟩:=this;have hn:n <= 4611686018427387904:=of_decide_eq_true hn;have hA:Bz [v1,u1,.val (.int .i64 k),.val (.bool w)] [AL n f,Fh n l,iV k,bV w]:=λS w' cs hv=>by
   obtain ⟨c,l1,rfl,q1,c2,l2,rfl,q2,q3⟩:=hv;exact ⟨c,_,rfl,ha S w' c q1,c2,l2,rfl,hb S w' c2 q2,q3⟩
  have hx:=Bq BS [(0,RA n f n l k w)];have hL:=Bh [(0,RA n f n l k w)];exact ⟨_,AP Gl tb0 [(0,RA n f n l k w)],_,hA,rfl,hx.1,hx.2,Bn (Be hL hL) _ (Ao2 _ _ n f n l k w _ n (A5 (Ti _ n f l k w hn n 0 _ (n+1) (by omega) (by omega)))),Ap.refl _⟩
 ·cases h
end Go.Proofs.YtkbafjceglhjhaaGreatDoor.Ed
