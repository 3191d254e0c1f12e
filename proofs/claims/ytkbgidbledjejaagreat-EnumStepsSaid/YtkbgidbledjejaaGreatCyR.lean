/-
  Why one of some edges is not to be there; how many events have one number. No conditions.
-/
import Derived.Test.YtkbgidbledjejaaGreatCyP
namespace Go.Proofs.YtkbgidbledjejaaGreat.Ed
open Go.Sy
open Int (ofNat)
def DG (a:Int) (f:Nat->E6) (i:Nat):Bool:=AI (Av (ieq (Hn a (f i)) 0) (ID a (f i)))
def Hh (n:Nat) (f:Nat->E6) (i:Nat):Bool:=AI (ieq (f i).dst (f ((i+1) % n)).src)
noncomputable def U9:AD:=(66,ap2 gI toE λa e=>out (Nh a e))::[]
theorem AeN:Al Tryz.prog Gl U9:=.cons p32 .nil
theorem P7 {i n:Nat} (h:i<n) (hn:n <= 4611686018427387904):Aw (wr .i64 (Am (ofNat i) 1)) (ofNat n)=ofNat ((i+1) % n):=by rw [Bc h hn,Ka]
theorem AlR {i n:Nat} (h:i<n):ieq (ofNat n) 0=false:=by rw [show (0:Int)=ofNat 0 from rfl,FO,decide_eq_false (by omega)]
def Vn (_:Int) (n:Nat) (_:Nat->E6):Lp:=⟨bmK 53 0 [0,1,4,5,12,13,14],0,bmK 53 0 [1,4,5],0,n+1⟩
def SY (a:Int) (n:Nat) (f:Nat->E6) (i:Nat) (j:Nat->V):St:=⟨jsV 53 0 j [(0,iV a),(1,.sl 6 n (λi=>eV (f i))),(4,iV 0),(5,iV 0),(12,.sl 6 n (λi=>eV (f i))),(13,nV n),(14,nV i)],[]⟩
def Q0 (_:Int) (n:Nat) (f:Nat->E6) (_:Nat):Ex×St:=(.ex 0,⟨jsV 53 0 Ac [(1,.sl 6 n (λi=>eV (f i))),(4,iV 0),(5,iV 0)],[]⟩)
def AdH (_:Int) (n:Nat) (f:Nat->E6) (i:Nat):Ex×St:=(.rt,⟨jsV 53 0 Ac [(1,.sl 6 n (λi=>eV (f i))),(4,iV 30),(5,nV i)],[]⟩)
def AdG (_:Int) (n:Nat) (f:Nat->E6) (i:Nat):Ex×St:=(.rt,⟨jsV 53 0 Ac [(1,.sl 6 n (λi=>eV (f i))),(4,iV 5),(5,nV i)],[]⟩)
noncomputable def IS (L:LT):St->T (Ex×St):=λst=>A8 tab ⟨A9 U9,L,Gl⟩ (A1 Tryz.f85 0) 0 st
section
variable (L:LT) (a:Int) (n:Nat) (f:Nat->E6) (i:Nat)  (j:Nat->V)
include L a n f i j
theorem Al7 (h0:ilt (ofNat i) (ofNat n)=false):Ap (IS L) (Vn a n f) (SY a n f i j)=some ((.ex 0),⟨jsV 53 0 Ac [(1,.sl 6 n (λi=>eV (f i))),(4,iV 0),(5,iV 0)],[]⟩):=by
 exact Ag (ks:=[kn h0]) (by kernel_rfl)
theorem Al6 (h0:ilt (ofNat i) (ofNat n)=true) (h1:Av (ile 0 (ofNat i)) (ilt (ofNat i) (ofNat n))=true) (h2:ieq (Hn a (f i)) 0=false):Ap (IS L) (Vn a n f) (SY a n f i j)=some (.rt,⟨jsV 53 0 Ac [(1,.sl 6 n (λi=>eV (f i))),(4,iV 30),(5,nV i)],[]⟩):=by
 exact Ag (ks:=[kn h0,kn h1,kN (kn h2)]) (by kernel_rfl)
theorem Al5 (h0:ilt (ofNat i) (ofNat n)=true) (h1:Av (ile 0 (ofNat i)) (ilt (ofNat i) (ofNat n))=true) (h2:ieq (Hn a (f i)) 0=true) (h3:ID a (f i)=false):Ap (IS L) (Vn a n f) (SY a n f i j)=some (.rt,⟨jsV 53 0 Ac [(1,.sl 6 n (λi=>eV (f i))),(4,iV 5),(5,nV i)],[]⟩):=by
 exact Ag (ks:=[kn h0,kn h1,kN (kn h2),kN (kn h3)]) (by kernel_rfl)
theorem Al4 (h0:ilt (ofNat i) (ofNat n)=true) (h1:Av (ile 0 (ofNat i)) (ilt (ofNat i) (ofNat n))=true) (h2:ieq (Hn a (f i)) 0=true) (h3:ID a (f i)=true):Ap (IS L) (Vn a n f) (SY a n f i j)=some (.nm,⟨jsV 53 0 Ac [(0,iV a),(1,.sl 6 n (λi=>eV (f i))),(4,iV 0),(5,iV 0),(12,.sl 6 n (λi=>eV (f i))),(13,nV n),(14,iV (wr .i64 (Am (ofNat i) 1)))],[]⟩):=by
 exact Ag (ks:=[kn h0,kn h1,kN (kn h2),kN (kn h3)]) (by kernel_rfl)
end
def AfQ (_:Int) (_:Nat) (_:Nat->E6) :Nat->V:=lkV A7 []
def KT (_:Int) (n:Nat) (_:Nat->E6):Lp:=⟨bmK 53 0 [1,4,5,32,33,34],0,bmK 53 0 [4,5],0,n+1⟩
def MK (_:Int) (n:Nat) (f:Nat->E6) (i:Nat) (j:Nat->V):St:=⟨jsV 53 0 j [(1,.sl 6 n (λi=>eV (f i))),(4,iV 0),(5,iV 0),(32,.sl 6 n (λi=>eV (f i))),(33,nV n),(34,nV i)],[]⟩
def OF (_:Int) (_:Nat) (_:Nat->E6) (_:Nat):Ex×St:=(.ex 2,⟨jsV 53 0 Ac [(4,iV 0),(5,iV 0)],[]⟩)
def OE (_:Int) (_:Nat) (_:Nat->E6) (i:Nat):Ex×St:=(.rt,⟨jsV 53 0 Ac [(4,iV 41),(5,nV i)],[]⟩)
noncomputable def Ip (L:LT):St->T (Ex×St):=λst=>A8 tab ⟨A9 U9,L,Gl⟩ (A1 Tryz.f85 2) 2 st
section
variable (L:LT) (a:Int) (n:Nat) (f:Nat->E6) (i:Nat)  (j:Nat->V)
include L a n f i j
theorem Alp (h0:ilt (ofNat i) (ofNat n)=false):Ap (Ip L) (KT a n f) (MK a n f i j)=some ((.ex 2),⟨jsV 53 0 Ac [(4,iV 0),(5,iV 0)],[]⟩):=by
 exact Ag (ks:=[kn h0]) (by kernel_rfl)
theorem Alo (h0:ilt (ofNat i) (ofNat n)=true) (h1:Av (ile 0 (ofNat i)) (ilt (ofNat i) (ofNat n))=true) (h2:ieq (ofNat n) 0=false) (h3:Av (ile 0 (Aw (wr .i64 (Am (ofNat i) 1)) (ofNat n))) (ilt (Aw (wr .i64 (Am (ofNat i) 1)) (ofNat n)) (ofNat n))=true) (h4:ieq (f i).dst (f (toN (Aw (wr .i64 (Am (ofNat i) 1)) (ofNat n)))).src=false):Ap (Ip L) (KT a n f) (MK a n f i j)=some (.rt,⟨jsV 53 0 Ac [(4,iV 41),(5,nV i)],[]⟩):=by
 exact Ag (ks:=[kn h0,kn h1,kn h2,kn h3,kN (kn h4)]) (by kernel_rfl)
theorem Aln (h0:ilt (ofNat i) (ofNat n)=true) (h1:Av (ile 0 (ofNat i)) (ilt (ofNat i) (ofNat n))=true) (h2:ieq (ofNat n) 0=false) (h3:Av (ile 0 (Aw (wr .i64 (Am (ofNat i) 1)) (ofNat n))) (ilt (Aw (wr .i64 (Am (ofNat i) 1)) (ofNat n)) (ofNat n))=true) (h4:ieq (f i).dst (f (toN (Aw (wr .i64 (Am (ofNat i) 1)) (ofNat n)))).src=true):Ap (Ip L) (KT a n f) (MK a n f i j)=some (.nm,⟨jsV 53 0 Ac [(1,.sl 6 n (λi=>eV (f i))),(4,iV 0),(5,iV 0),(32,.sl 6 n (λi=>eV (f i))),(33,nV n),(34,iV (wr .i64 (Am (ofNat i) 1)))],[]⟩):=by
 exact Ag (ks:=[kn h0,kn h1,kn h2,kn h3,kN (kn h4)]) (by kernel_rfl)
end
def Adh (_:Int) (_:Nat) (_:Nat->E6) (_:Nat):Nat->V:=lkU 9007169189969869 []
section
variable (L:LT) (p0:PT) (a:Int) (n:Nat) (f:Nat->E6) (i:Nat)
include L p0 a n f i
theorem Akr  (hp0:p0 (IS (onP 0 p0 (AdH a n f i) L)) (SY a n f 0 (AfQ a n f ))=true):(AM (Au tab ⟨A9 U9,onP 0 p0 (AdH a n f i) L,Gl⟩ Tryz.f85 [iV a,Ao n f] [])).sem=some ((.tup [iV 30,nV i]),[]):=by
 exact Ag (ks:=[kn hp0]) (by kernel_rfl)
theorem Akq  (hp0:p0 (IS (onP 0 p0 (AdG a n f i) L)) (SY a n f 0 (AfQ a n f ))=true):(AM (Au tab ⟨A9 U9,onP 0 p0 (AdG a n f i) L,Gl⟩ Tryz.f85 [iV a,Ao n f] [])).sem=some ((.tup [iV 5,nV i]),[]):=by
 exact Ag (ks:=[kn hp0]) (by kernel_rfl)
end
section
variable (L:LT) (p0:PT) (p2:PT) (a:Int) (n:Nat) (f:Nat->E6) (i j:Nat)
include L p0 p2 a n f i j
theorem Akp  (hp0:p0 (IS (onP 0 p0 (Q0 a n f i) (onP 2 p2 (OE a n f j) L))) (SY a n f 0 (AfQ a n f ))=true) (hp2:p2 (Ip (onP 0 p0 (Q0 a n f i) (onP 2 p2 (OE a n f j) L))) (MK a n f 0 (Adh a n f i))=true):(AM (Au tab ⟨A9 U9,onP 0 p0 (Q0 a n f i) (onP 2 p2 (OE a n f j) L),Gl⟩ Tryz.f85 [iV a,Ao n f] [])).sem=some ((.tup [iV 41,nV j]),[]):=by
 exact Ag (ks:=[kn hp0,kn hp2]) (by kernel_rfl)
theorem Ako  (hp0:p0 (IS (onP 0 p0 (Q0 a n f i) (onP 2 p2 (OF a n f j) L))) (SY a n f 0 (AfQ a n f ))=true) (hp2:p2 (Ip (onP 0 p0 (Q0 a n f i) (onP 2 p2 (OF a n f j) L))) (MK a n f 0 (Adh a n f i))=true):(AM (Au tab ⟨A9 U9,onP 0 p0 (Q0 a n f i) (onP 2 p2 (OF a n f j) L),Gl⟩ Tryz.f85 [iV a,Ao n f] [])).sem=some ((.tup [iV 0,iV 0]),[]):=by
 exact Ag (ks:=[kn hp0,kn hp2]) (by kernel_rfl)
end
theorem AgL (L:LT) (a:Int) (n:Nat) (f:Nat->E6) (hn:n <= 4611686018427387904):∀ (d i:Nat) (j:Nat->V) (q:Nat),n=i+d->d<q ->
  (Ay (IS L) (Vn a n f) q (SY a n f i j)).sem=some (match Az (DG a f) d i with
   | none=>Q0 a n f 0
   | some t=>match ieq (Hn a (f t)) 0 with
    | false=>AdH a n f t
    | true=>AdG a n f t)
 | 0,i,j,q+1,h,_=>by
  have:n=i:=by omega
  subst this;exact Ae (Al7 L a n f n j (A4 (Nat.le_refl _)))
 | d+1,i,j,q+1,h,h2=>by
  have hl:i<n:=by omega
  cases c1:ieq (Hn a (f i)) 0 with
  | false =>rw [Fj (show DG a f i=true by rw [DG,c1]; rfl)];simp only [c1];exact Ae (Al6 L a n f i j (ofNat_lt hl) (Af hl) c1)
  | true =>
   cases c2:ID a (f i) with
   | false =>rw [Fj (show DG a f i=true by rw [DG,c1,c2]; rfl)];simp only [c1];exact Ae (Al5 L a n f i j (ofNat_lt hl) (Af hl) c1 c2)
   | true =>rw [Gc (show DG a f i=false by rw [DG,c1,c2]; rfl),Ae (Al4 L a n f i j (ofNat_lt hl) (Af hl) c1 c2),AS,Bc hl hn];exact AgL L a n f hn d (i+1) Ac q (by omega) (by omega)
theorem AbM (L:LT) (a:Int) (n:Nat) (f:Nat->E6) (hn:n <= 4611686018427387904):∀ (d i:Nat) (j:Nat->V) (q:Nat),n=i+d->d<q ->
  (Ay (Ip L) (KT a n f) q (MK a n f i j)).sem=some (match Az (Hh n f) d i with
   | none=>OF a n f 0
   | some t=>OE a n f t)
 | 0,i,j,q+1,h,_=>by
  have:n=i:=by omega
  subst this;exact Ae (Alp L a n f n j (A4 (Nat.le_refl _)))
 | d+1,i,j,q+1,h,h2=>by
  have hl:i<n:=by omega
  have e1:=P7 hl hn;have hb:Av (ile 0 (Aw (wr .i64 (Am (ofNat i) 1)) (ofNat n))) (ilt (Aw (wr .i64 (Am (ofNat i) 1)) (ofNat n)) (ofNat n))=true:=by
   rw [e1]; exact Af (Nat.mod_lt _ (by omega))
  have e2:toN (ofNat ((i+1) % n))=(i+1) % n:=rfl;cases c1:ieq (f i).dst (f ((i+1) % n)).src with
  | false =>rw [Fj (show Hh n f i=true by rw [Hh,c1]; rfl)];exact Ae (Alo L a n f i j (ofNat_lt hl) (Af hl) (AlR hl) hb (by rw [e1,e2]; exact c1))
  | true =>rw [Gc (show Hh n f i=false by rw [Hh,c1]; rfl),Ae (Aln L a n f i j (ofNat_lt hl) (Af hl) (AlR hl) hb (by rw [e1,e2]; exact c1)),AS,Bc hl hn];exact AbM L a n f hn d (i+1) Ac q (by omega) (by omega)
def Ik (a:Int) (n:Nat) (f:Nat->E6):Int×Int :=
 match Az (DG a f) n 0 with
 | some t=>match ieq (Hn a (f t)) 0 with
  | false=>(30,ofNat t)
  | true=>(5,ofNat t)
 | none=>match Az (Hh n f) n 0 with
  | some t=>(41,ofNat t)
  | none=>(0,0)
def Aj8:List V->A3
 | [.val (.int .i64 a),v]=>apL v λn f=>.br (BZ n) (out (.tup [iV (Ik a n f).1,iV (Ik a n f).2])) .fail
 | _=>.fail
theorem AjO {a:Int} {v u:V} (h:∀ (S:Nat->Prop) (w:World) (c:Value),VR S w v noK c->VR S w u noK c):B2 [.val (.int .i64 a),v] [iV a,u]:=λS w cs hv=>by
 obtain ⟨c,l,rfl,q1,q2⟩:=hv;obtain ⟨c2,l2,rfl,q3,q4⟩:=q2;exact ⟨c,_,rfl,q1,c2,l2,rfl,h S w c2 q3,q4⟩
theorem p86:Ar Tryz.prog Gl 85 Aj8:=by
 refine Ah A0 mixed Tryz.func85 (by kernel_rfl) (by kernel_rfl) λvs v h' h=>?_;unfold Aj8 at h;split at h
 ·rename_i a u
  obtain ⟨n,f,ha,h1⟩:=Bb h;obtain ⟨hn,hq⟩:=Ab h1;have:=Aa hq;simp only [Prod.mk.injEq] at this;obtain ⟨rfl,rfl⟩:=this;have hn:=Ee (HJ hn);have hx:=Bu AeN [(0,Vn a n f),(2,KT a n f)];have hL:=Bd [(0,Vn a n f),(2,KT a n f)];have h0:=λL j=>AgL L a n f hn n 0 j (n+1) (by omega) (by omega);have h2:=λL j=>AbM L a n f hn n 0 j (n+1) (by omega) (by omega);refine ⟨_,BQ Gl U9 [(0,Vn a n f),(2,KT a n f)],_,AjO ha,rfl,hx.1,hx.2,?_,As.refl _⟩;unfold Ik;cases c1:Az (DG a f) n 0 with
  | some t =>
   rw [c1] at h0;cases c2:ieq (Hn a (f t)) 0 with
   | false =>simp only [c2] at h0 ⊢;exact Bw (B9 hL hL) _ (Akr _ _ a n f t (AW (h0 _ _)))
   | true =>simp only [c2] at h0 ⊢;exact Bw (B9 hL hL) _ (Akq _ _ a n f t (AW (h0 _ _)))
  | none =>
   rw [c1] at h0;cases c2:Az (Hh n f) n 0 with
   | some t =>rw [c2] at h2;exact Bw (B9 (B9 hL hL) hL) _ (Akp _ _ _ a n f 0 t (AW (h0 _ _)) (AW (h2 _ _)))
   | none =>rw [c2] at h2;exact Bw (B9 (B9 hL hL) hL) _ (Ako _ _ _ a n f 0 0 (AW (h0 _ _)) (AW (h2 _ _)))
 ·cases h
def Tv (n:Nat) (_:Nat->E6) (_:Nat) (_:Nat->Int) (_:Int) (_:Bool):Lp:=⟨bmK 38 0 [0,1,2,3,9,10],0,bmK 38 0 [9],0,n+1⟩
def WA (n:Nat) (f:Nat->E6) (m:Nat) (l:Nat->Int) (k:Int) (w:Bool) (c:Int) (i:Nat) (j:Nat->V):St:=⟨jsV 38 0 j [(0,.sl 6 n (λi=>eV (f i))),(1,.sl 1 m (λk=>iV (l k))),(2,iV k),(3,bV w),(9,iV c),(10,nV i)],[]⟩
def AdF (_:Nat) (_:Nat->E6) (_:Nat) (_:Nat->Int) (_:Int) (_:Bool) (c:Int) (_:Nat):Ex×St:=(.ex 0,⟨jsV 38 0 Ac [(9,iV c)],[]⟩)
noncomputable def Ld (L:LT):St->T (Ex×St):=λst=>A8 tab ⟨A9 tb0,L,Gl⟩ (A1 Tryz.f51 0) 0 st
section
variable (L:LT) (n:Nat) (f:Nat->E6) (m:Nat) (l:Nat->Int) (k:Int) (w:Bool) (c:Int) (i:Nat)  (j:Nat->V)
include L n f m l k w c i j
theorem Alv (h0:ilt (ofNat i) (ofNat n)=false):Ap (Ld L) (Tv n f m l k w) (WA n f m l k w c i j)=some ((.ex 0),⟨jsV 38 0 Ac [(9,iV c)],[]⟩):=by
 exact Ag (ks:=[kn h0]) (by kernel_rfl)
theorem Alz (h0:ilt (ofNat i) (ofNat n)=true) (h1:Av (ile 0 (ofNat i)) (ilt (ofNat i) (ofNat m))=true) (h2:ieq (l i) k=false):Ap (Ld L) (Tv n f m l k w) (WA n f m l k w c i j)=some (.nm,⟨jsV 38 0 Ac [(0,.sl 6 n (λi=>eV (f i))),(1,.sl 1 m (λk=>iV (l k))),(2,iV k),(3,bV w),(9,iV c),(10,iV (wr .i64 (Am (ofNat i) 1)))],[]⟩):=by
 exact Ag (ks:=[kn h0,kn h1,kn h2,kn h2,kn h2,kn h2,kn h2,kF]) (by kernel_rfl)
theorem Aly (h0:ilt (ofNat i) (ofNat n)=true) (h1:Av (ile 0 (ofNat i)) (ilt (ofNat i) (ofNat m))=true) (h2:ieq (l i) k=true) (h3:w=false):Ap (Ld L) (Tv n f m l k w) (WA n f m l k w c i j)=some (.nm,⟨jsV 38 0 Ac [(0,.sl 6 n (λi=>eV (f i))),(1,.sl 1 m (λk=>iV (l k))),(2,iV k),(3,bV w),(9,iV (wr .i64 (Am c 1))),(10,iV (wr .i64 (Am (ofNat i) 1)))],[]⟩):=by
 exact Ag (ks:=[kn h0,kn h1,kn h2,kn h2,kn h2,kN (kn h3),kN (kn h3),kN (kn h3),kN (kn h3),kN (kn h3),kN (kn h3),kn h2,kN (kn h3),kn h2,kT]) (by kernel_rfl)
theorem Alx (h0:ilt (ofNat i) (ofNat n)=true) (h1:Av (ile 0 (ofNat i)) (ilt (ofNat i) (ofNat m))=true) (h2:ieq (l i) k=true) (h3:w=true) (h4:Av (ile 0 (ofNat i)) (ilt (ofNat i) (ofNat n))=true) (h5:ieq (f i).src 2=true):Ap (Ld L) (Tv n f m l k w) (WA n f m l k w c i j)=some (.nm,⟨jsV 38 0 Ac [(0,.sl 6 n (λi=>eV (f i))),(1,.sl 1 m (λk=>iV (l k))),(2,iV k),(3,bV w),(9,iV (wr .i64 (Am c 1))),(10,iV (wr .i64 (Am (ofNat i) 1)))],[]⟩):=by
 exact Ag (ks:=[kn h0,kn h1,kn h2,kn h2,kn h2,kN (kn h3),kN (kn h3),kN (kn h3),kn h4,kN (kn h3),kN (kn h3),kN (kn h3),kn h2,kN (kn h3),kn h2,kn h5]) (by kernel_rfl)
theorem Alw (h0:ilt (ofNat i) (ofNat n)=true) (h1:Av (ile 0 (ofNat i)) (ilt (ofNat i) (ofNat m))=true) (h2:ieq (l i) k=true) (h3:w=true) (h4:Av (ile 0 (ofNat i)) (ilt (ofNat i) (ofNat n))=true) (h5:ieq (f i).src 2=false):Ap (Ld L) (Tv n f m l k w) (WA n f m l k w c i j)=some (.nm,⟨jsV 38 0 Ac [(0,.sl 6 n (λi=>eV (f i))),(1,.sl 1 m (λk=>iV (l k))),(2,iV k),(3,bV w),(9,iV c),(10,iV (wr .i64 (Am (ofNat i) 1)))],[]⟩):=by
 exact Ag (ks:=[kn h0,kn h1,kn h2,kn h2,kn h2,kN (kn h3),kN (kn h3),kN (kn h3),kn h4,kN (kn h3),kN (kn h3),kN (kn h3),kn h2,kN (kn h3),kn h2,kn h5]) (by kernel_rfl)
end
def Aoo (_:Nat) (_:Nat->E6) (_:Nat) (_:Nat->Int) (_:Int) (_:Bool) :Nat->V:=lkV A7 [(8,iV 0)]
theorem Anq (L:LT) (p0:PT) (n:Nat) (f:Nat->E6) (m:Nat) (l:Nat->Int) (k:Int) (w:Bool) (c:Int) (i:Nat)  (hp0:p0 (Ld (onP 0 p0 (AdF n f m l k w c i) L)) (WA n f m l k w 0 0 (Aoo n f m l k w ))=true):(AM (Au tab ⟨A9 tb0,onP 0 p0 (AdF n f m l k w c i) L,Gl⟩ Tryz.f51 [Ao n f,Co m l,iV k,bV w] [])).sem=some ((iV c),[]):=by
 exact Ag (ks:=[kn hp0]) (by kernel_rfl)
def isW (e:E6):Bool:=ieq e.src 2
def Ei (l:Nat->Int) (c:Nat->Bool) (k:Int) (i:Nat):Bool:=Av (ieq (l i) k) (c i)
def XK (n:Nat) (l:Nat->Int) (c:Nat->Bool) (k:Int):Int:=ofNat (AC (Ei l c k) n)
def ofW (w:Bool) (f:Nat->E6) (i:Nat):Bool:=bor (AI w) (isW (f i))
theorem UM (L:LT) (n:Nat) (f:Nat->E6) (l:Nat->Int) (k:Int) (w:Bool) (hn:n <= 4611686018427387904):∀ (d i:Nat) (j:Nat->V) (q:Nat),n=i+d->d<q ->
  (Ay (Ld L) (Tv n f n l k w) q (WA n f n l k w (ofNat (AC (Ei l (ofW w f) k) i)) i j)).sem=some (AdF n f n l k w (ofNat (AC (Ei l (ofW w f) k) n)) n)
 | 0,i,j,q+1,h,_=>by
  have:n=i:=by omega
  subst this;exact Ae (Alv L n f n l k w (ofNat (AC (Ei l (ofW w f) k) n)) n j (A4 (Nat.le_refl _)))
 | d+1,i,j,q+1,h,h2=>by
  have hl:i<n:=by omega
  have hc:=EK (Ei l (ofW w f) k) i;have yes:Ei l (ofW w f) k i=true->wr .i64 (Am (ofNat (AC (Ei l (ofW w f) k) i)) 1)=ofNat (AC (Ei l (ofW w f) k) (i+1)):=λh3=>by
   rw [Bc (show AC (Ei l (ofW w f) k) i<n by omega) hn,Nw h3]
  have no:Ei l (ofW w f) k i=false->ofNat (AC (Ei l (ofW w f) k) i)=ofNat (AC (Ei l (ofW w f) k) (i+1)):=λh3=>by rw [Nx h3]
  cases c1:ieq (l i) k with
  | false =>rw [Ae (Alz L n f n l k w (ofNat (AC (Ei l (ofW w f) k) i)) i j (ofNat_lt hl) (Af hl) c1),AS,Bc hl hn,no (by rw [Ei,c1]; rfl)];exact UM L n f l k w hn d (i+1) Ac q (by omega) (by omega)
  | true =>
   cases c2:w with
   | false =>subst c2;rw [Ae (Aly L n f n l k false (ofNat (AC (Ei l (ofW false f) k) i)) i j (ofNat_lt hl) (Af hl) c1 rfl),AS,Bc hl hn,yes (by rw [Ei,c1]; rfl)];exact UM L n f l k false hn d (i+1) Ac q (by omega) (by omega)
   | true =>
    subst c2;cases c3:ieq (f i).src 2 with
    | true =>rw [Ae (Alx L n f n l k true (ofNat (AC (Ei l (ofW true f) k) i)) i j (ofNat_lt hl) (Af hl) c1 rfl (Af hl) c3),AS,Bc hl hn,yes (by rw [Ei,c1,ofW,isW,c3]; rfl)];exact UM L n f l k true hn d (i+1) Ac q (by omega) (by omega)
    | false =>rw [Ae (Alw L n f n l k true (ofNat (AC (Ei l (ofW true f) k) i)) i j (ofNat_lt hl) (Af hl) c1 rfl (Af hl) c3),AS,Bc hl hn,no (by rw [Ei,c1,ofW,isW,c3]; rfl)];exact UM L n f l k true hn d (i+1) Ac q (by omega) (by omega)
def AdW:List V->A3
 | [v,u,.val (.int .i64 k),.val (.bool w)]=>apL v λn f=>apI u λm l=>.br (Fy n m) (.br (C7 n) (out (iV (XK n l (λi=>bor (AI w) (isW (f i))) k))) .fail) .fail
 | _=>.fail
theorem p96:Ar Tryz.prog Gl 51 AdW:=by
 refine Ah A0 mixed Tryz.func51 (by kernel_rfl) (by kernel_rfl) λvs v h' h=>?_;unfold AdW at h;split at h
 ·rename_i v1 u1 k w
  obtain ⟨n,f,ha,h1⟩:=Bb h;obtain ⟨m,l,hb,h2⟩:=Gf h1;obtain ⟨hm,h3⟩:=Ab h2;obtain ⟨hn,hq⟩:=Ab h3;have hm:n=m:=Nat.eq_of_beq_eq_true hm;subst hm;have:=Aa hq;simp only [Prod.mk.injEq] at this;obtain ⟨rfl,rfl⟩:=this;have hn:n <= 4611686018427387904:=of_decide_eq_true hn;have hA:B2 [v1,u1,.val (.int .i64 k),.val (.bool w)] [Ao n f,Co n l,iV k,bV w]:=λS w' cs hv=>by
   obtain ⟨c,l1,rfl,q1,c2,l2,rfl,q2,q3⟩:=hv;exact ⟨c,_,rfl,ha S w' c q1,c2,l2,rfl,hb S w' c2 q2,q3⟩
  have hx:=Bu H3 [(0,Tv n f n l k w)];have hL:=Bd [(0,Tv n f n l k w)];exact ⟨_,BQ Gl tb0 [(0,Tv n f n l k w)],_,hA,rfl,hx.1,hx.2,Bw (B9 hL hL) _ (Anq _ _ n f n l k w _ n (AW (UM _ n f l k w hn n 0 _ (n+1) (by omega) (by omega)))),As.refl _⟩
 ·cases h
end Go.Proofs.YtkbgidbledjejaaGreat.Ed
namespace Go.Proofs.YtkbgidbledjejaaGreat.Ed
open Go.Sy
open Int (ofNat)
set_option maxRecDepth 100000
theorem AgU {v u:V} (h:∀ (S:Nat->Prop) (w:World) (c:Value),VR S w v noK c->VR S w u noK c) (S:Nat->Prop) (w:World) (κ:Ai) (c:Value) (hv:VR S w (.pp (.agg [v])) κ c):VR S w (.pp (.agg [u])) κ c:=by
 obtain ⟨b,o,cv,q1,⟨ca,q2,a,l',q3,q4,q5⟩,q6⟩:=hv;exact ⟨b,o,cv,q1,⟨ca,q2,a,l',q3,h S w a q4,q5⟩,q6⟩
def Ajl:List V->A3
 | [.val (.int .i64 i),.pp (.agg [v])]=>apL v λn f=>.br (Av (ile 0 i) (ilt i (ofNat n))) (out (bV (isW (f (toN i))))) .fail
 | _=>.fail
def Abp:List V->A3
 | [.val (.int .i64 _)]=>out (bV true)
 | _=>.fail
theorem p90:Ar Tryz.prog Gl 89 Ajl:=by
 refine Ah A0 mixed Tryz.func89 (by kernel_rfl) (by kernel_rfl) λvs v h' h=>?_;unfold Ajl at h;split at h
 rotate_left
 ·cases h
 rename_i i u;obtain ⟨n,f,ha,h1⟩:=Bb h;obtain ⟨hi,hq⟩:=Ab h1;cases Aa hq;have hx:=AZ H3 [] (G:=Gl);exact ⟨[iV i,.pp (.agg [Ao n f])],cxA Gl tb0 [],_,λS w cs hv=>by
  obtain ⟨c,l,rfl,q1,c2,l2,rfl,q2,q3⟩:=hv;exact ⟨c,_,rfl,q1,c2,l2,rfl,AgU ha S w noK c2 q2,q3⟩,rfl,hx.1,hx.2,DW.ok (.k hi <| .l) (by kernel_rfl),As.refl _⟩
theorem p93:Ar Tryz.prog Gl 92 Abp:=by
 refine Ah A0 mixed Tryz.func92 (by kernel_rfl) (by kernel_rfl) λvs v h' h=>?_;unfold Abp at h;split at h
 ·cases Aa h
  have hx:=AZ H3 [] (G:=Gl);exact ⟨_,cxA Gl tb0 [],_,B2.refl _,rfl,hx.1,hx.2,DW.ok .l (by kernel_rfl),As.refl _⟩
 ·cases h
noncomputable def AkD:AD:=(89,Ajl)::(92,Abp)::[]
theorem Ye:Al Tryz.prog Gl AkD:=.cons p90 <| .cons p93 .nil
def gK (l:Nat->Int) (c:Nat->Bool) (i:Nat) (x:Int):Int:=ofNat (AC (Ei l c x) i)
theorem Aoq (l:Nat->Int) (c:Nat->Bool):gK l c 0=λ_=>0:=rfl
theorem Ams {l:Nat->Int} {c:Nat->Bool} {i:Nat} (h:c i=false):gK l c (i+1)=gK l c i:=by
 funext x;unfold gK;rw [Nx];rw [Ei,h];cases ieq (l i) x <;> rfl
theorem Ajy {l:Nat->Int} {c:Nat->Bool} {i n:Nat} (h:c i=true) (hi:i<n) (hn:n <= 4611686018427387904):(λk=>sel (ieq k (l i)) (wr .i64 (Am (gK l c i (l i)) 1)) (gK l c i k))=gK l c (i+1):=by
 funext x;by_cases hx:x=l i
 ·subst hx
  have h1:ieq (l i) (l i)=true:=by simp [ieq]
  rw [h1];show wr .i64 (Am (ofNat (AC (Ei l c (l i)) i)) 1)=_;have:=EK (Ei l c (l i)) i;rw [Bc (show AC (Ei l c (l i)) i<n by omega) hn];unfold gK;rw [Nw (show Ei l c (l i) i=true by rw [Ei,h,h1]; rfl)]
 ·have h1:ieq x (l i)=false:=by simp [ieq,hx]
  rw [h1];show gK l c i x=_;unfold gK;rw [Nx (show Ei l c x i=false by rw [Ei,show ieq (l i) x=false by simp [ieq]; omega]; rfl)]
theorem YT {a:Nat} (h:a <= 4611686018427387904):IM (ofNat a)=true:=by
 simp only [IM,Bool.and_eq_true,decide_eq_true_eq,Int.ofNat_eq_natCast];omega
def okP (n:Nat) (l:Nat->Int):Bool:=DL n λi=>IM (l i)
def Bj (n:Nat) (l:Nat->Int) (c:Nat->Bool) (q:Int) (i:Nat):Bool:=Av (c i) (ilt q (XK n l c (l i)))
def crR (n:Nat) (l:Nat->Int) (c:Nat->Bool) (q:Int):Int×Bool :=
 match Az (Bj n l c q) n 0 with
 | some t=>(ofNat t,true)
 | none=>(0,false)
def cq (w:Bool) (n:Nat) (f:Nat->E6):V:=match w with
 | true=>.fn 89 [.pp (.agg [Ao n f])]
 | false=>.fn 92 []
def cb (w:Bool) (f:Nat->E6):Nat->Bool:=match w with
 | true=>λi=>isW (f i)
 | false=>λ_=>true
def Ahg:Lp:=⟨bmK 48 0 [0,1,2,6,7,8,14,15,16],1,bmK 48 0 [0,1,2,6,7,8],1,4611686018427387905⟩
def Tx:Lp:=⟨bmK 48 0 [1,2,6,7,8,29,30,31],1,bmK 48 0 [6,7],0,4611686018427387905⟩
def Ajd:List (Nat×Lp×List (Nat×(Nat->V))):=[(0,Ahg,[]),(2,Tx,[])]
noncomputable abbrev Agi:Cx:=cxA Gl AkD Ajd
noncomputable def AgB (id:Nat):St->T (Ex×St):=λst=>A8 tab Agi (A1 Tryz.f90 id) id st
section
variable (w:Bool) (n:Nat) (f:Nat->E6) (l:Nat->Int) (q:Int)
def AaO (p o:List (Nat×V)) (t:Nat) (g:Int->Int):St:=⟨jsV 48 0 Ac (p++[(1,cq w n f),(2,iV q),(6,iV 0),(7,bV false),(8,.ref 0)]++o),[.imap 116 t g]⟩
def Wq (i:Nat):St:=AaO w n f q [(0,Co n l)] [(14,Co n l),(15,nV n),(16,nV i)] (AC (cb w f) i) (gK l (cb w f) i)
def AaK (t i:Nat):St:=AaO w n f q [] [(29,Co n l),(30,nV n),(31,nV i)] t (gK l (cb w f) n)
def Anf (r:Option Nat):Ex×St:=match r with
 | none=>(.ex 2,⟨jsV 48 0 Ac [(6,iV 0),(7,bV false)],[]⟩)
 | some m=>(.rt,⟨jsV 48 0 Ac [(6,nV m),(7,bV true)],[]⟩)
variable {w n f l q} (hn:n <= 4611686018427387904) (ho:okP n l=true)
include hn ho
theorem An6 {i:Nat} (hl:i<n):Ap (AgB 0) Ahg (Wq w n f l q i)=some (.nm,Wq w n f l q (i+1)):=by
 have hc:=EK (cb w f) i;have hc2:=EK (Ei l (cb w f) (l i)) i;have ht:nlt (AC (cb w f) i) 4611686018427387904=true:=CG (by omega);have hf:IM (wr .i64 (Am (gK l (cb w f) i (l i)) 1))=true:=by
  show IM (wr .i64 (Am (ofNat (AC (Ei l (cb w f) (l i)) i)) 1))=true;rw [Bc (show AC (Ei l (cb w f) (l i)) i<n by omega) hn];exact YT (by omega)
 have hi:=BR.1 ho i hl;have a:=Af hl;cases cw:cb w f i with
 | false =>
  have e:(Ex.nm,AaO w n f q [(0,Co n l)] [(14,Co n l),(15,nV n),(16,iV (wr .i64 (Am (ofNat i) 1)))] (AC (cb w f) i) (gK l (cb w f) i))=(Ex.nm,Wq w n f l q (i+1)):=by
   unfold Wq;rw [Bc hl hn,Ams cw,Nx cw]
  cases w with
  | true=>exact DW.rd (.k (ofNat_lt hl) <| .k a <| .k (eL n) <| .k a <| .k cw <| .e e) (by kernel_rfl)
  | false=>cases cw
 | true =>
  have e:(Ex.nm,AaO w n f q [(0,Co n l)] [(14,Co n l),(15,nV n),(16,iV (wr .i64 (Am (ofNat i) 1)))] (Cd (AC (cb w f) i) 1) (λz=>sel (ieq z (l i)) (wr .i64 (Am (gK l (cb w f) i (l i)) 1)) (gK l (cb w f) i z)))=(Ex.nm,Wq w n f l q (i+1)):=by
   unfold Wq;rw [Bc hl hn,Ajy cw hl hn,show Cd (AC (cb w f) i) 1=AC (cb w f) (i+1) from (Nw cw).symm]
  cases w with
  | true=>exact DW.rd (.k (ofNat_lt hl) <| .k a <| .k (eL n) <| .k a <| .k cw <| .k hi <| .k ht <| .k hi <| .k hf <| .e e) (by kernel_rfl)
  | false=>exact DW.rd (.k (ofNat_lt hl) <| .k a <| .k eT <| .k hi <| .k ht <| .k hi <| .k hf <| .e e) (by kernel_rfl)
theorem AgQ (t:Nat):∀ (d i M:Nat),n=i+d->d<M->(Ay (AgB 2) Tx M (AaK w n f l q t i)).sem=some (Anf (Az (Bj n l (cb w f) q) d i))
 | 0,i,M,h,hM=>by
  obtain ⟨M,rfl⟩:∃ o,M=o+1:=⟨M-1,by omega⟩;exact Ae (t:=some (.ex 2,_)) (by cases w <;> exact DW.rd (.k (A4 (i:=i) (n:=n) (by omega)) <| .l) (by kernel_rfl))
 | d+1,i,M,h,hM=>by
  obtain ⟨M,rfl⟩:∃ o,M=o+1:=⟨M-1,by omega⟩;have hl:i<n:=by omega
  have hi:=BR.1 ho i hl;have a:=Af hl;have e:(Ex.nm,AaO w n f q [] [(29,Co n l),(30,nV n),(31,iV (wr .i64 (Am (ofNat i) 1)))] t (gK l (cb w f) n))=(Ex.nm,AaK w n f l q t (i+1)):=by
   unfold AaK;rw [Bc hl hn]
  have go:Bj n l (cb w f) q i=false->Ap (AgB 2) Tx (AaK w n f l q t i)=some (.nm,AaK w n f l q t (i+1))->(Ay (AgB 2) Tx (M+1) (AaK w n f l q t i)).sem=some (Anf (Az (Bj n l (cb w f) q) (d+1) i)):=λhz hr=>by
   rw [Gc hz,Ae hr,AS];exact AgQ t d (i+1) M (by omega) (by omega)
  cases cw:cb w f i with
  | false =>
   refine go (by unfold Bj; rw [cw]; rfl) ?_;cases w with
   | true=>exact DW.rd (.k (ofNat_lt hl) <| .k a <| .k (eL n) <| .k a <| .r 6 cw <| .k eF <| .e e) (by kernel_rfl)
   | false=>cases cw
  | true =>
   cases cg:ilt q (gK l (cb w f) n (l i)) with
   | false =>
    refine go (by unfold Bj; rw [cw,show ilt q (XK n l (cb w f) (l i))=false from cg]; rfl) ?_;cases w with
    | true=>exact DW.rd (.k (ofNat_lt hl) <| .k a <| .k (eL n) <| .k a <| .r 3 cw <| .k hi <| .r 3 cw <| .k cg <| .e e) (by kernel_rfl)
    | false=>exact DW.rd (.k (ofNat_lt hl) <| .k a <| .r 3 eT <| .k hi <| .r 3 eT <| .k cg <| .e e) (by kernel_rfl)
   | true =>
    rw [Fj (show Bj n l (cb w f) q i=true by unfold Bj; rw [show ilt q (XK n l (cb w f) (l i))=true from cg,cw]; rfl)];cases w with
    | true=>exact Ae (t:=some (.rt,_)) (DW.rd (.k (ofNat_lt hl) <| .k a <| .k (eL n) <| .k a <| .r 3 cw <| .k hi <| .r 3 cw <| .k cg <| .l) (by kernel_rfl))
    | false=>exact Ae (t:=some (.rt,_)) (DW.rd (.k (ofNat_lt hl) <| .k a <| .r 3 eT <| .k hi <| .r 3 eT <| .k cg <| .l) (by kernel_rfl))
theorem Abr:(AM (Au tab Agi Tryz.f90 [Co n l,cq w n f,iV q] [])).sem=some (.tup [iV (crR n l (cb w f) q).1,bV (crR n l (cb w f) q).2],[]):=by
 have h0:=C0 (S:=Wq w n f l q) (m:=n) (q:=4611686018427387905) (x:=(.ex 0,AaO w n f q [(0,Co n l)] [] (AC (cb w f) n) (gK l (cb w f) n))) (λh=>by cases h) (λi hi=>An6 hn ho hi) (by cases w <;> exact DW.rd (.k (A4 (Nat.le_refl n)) <| .l) (by kernel_rfl)) (by omega)
 unfold Wq at h0;rw [Aoq] at h0;have h2:=AgQ (w:=w) (f:=f) (q:=q) hn ho (AC (cb w f) n) n 0 4611686018427387905 (by omega) (by omega);unfold crR;cases c1:Az (Bj n l (cb w f) q) n 0 with
 | some m =>rw [c1] at h2;cases w <;> exact DW.ok (.a h0 <| .a h2 <| .l) (by kernel_rfl)
 | none =>rw [c1] at h2;cases w <;> exact DW.ok (.a h0 <| .a h2 <| .l) (by kernel_rfl)
end
def XG:List V->A3
 | [u,.fn 89 [.pp (.agg [v])],.val (.int .i64 q)]=>apI u λm l=>apL v λn f=>.br (Fy n m) (.br (C7 n) (.br (okP m l) (out (.tup [iV (crR m l (λi=>isW (f i)) q).1,bV (crR m l (λi=>isW (f i)) q).2])) .fail) .fail) .fail
 | [u,.fn 92 [],.val (.int .i64 q)]=>apI u λm l=>.br (C7 m) (.br (okP m l) (out (.tup [iV (crR m l (λ_=>true) q).1,bV (crR m l (λ_=>true) q).2])) .fail) .fail
 | _=>.fail
theorem p91:Ar Tryz.prog Gl 90 XG:=by
 refine Ah A0 mixed Tryz.func90 (by kernel_rfl) (by kernel_rfl) λvs v h' h=>?_;unfold XG at h;split at h
 ·rename_i u1 v1 q
  obtain ⟨m,l,ha,h1⟩:=Gf h;obtain ⟨n,f,hb,h2⟩:=Bb h1;obtain ⟨hm,h3⟩:=Ab h2;obtain ⟨hn,h4⟩:=Ab h3;obtain ⟨ho,hq⟩:=Ab h4;have hm:n=m:=Nat.eq_of_beq_eq_true hm;subst hm;cases Aa hq;have hn:n <= 4611686018427387904:=of_decide_eq_true hn;have hA:B2 [u1,.fn 89 [.pp (.agg [v1])],.val (.int .i64 q)] [Co n l,.fn 89 [.pp (.agg [Ao n f])],iV q]:=λS w cs hv=>by
   obtain ⟨c,l1,rfl,q1,c2,l2,rfl,⟨ca,q4,c5,l5,q5,q6,q7⟩,q3⟩:=hv;exact ⟨c,_,rfl,ha S w c q1,c2,l2,rfl,⟨ca,q4,c5,l5,q5,AgU hb S w noK c5 q6,q7⟩,q3⟩
  have hx:=AZ Ye Ajd (G:=Gl);exact ⟨_,Agi,_,hA,rfl,hx.1,hx.2,Abr (w:=true) (f:=f) hn ho,As.refl _⟩
 ·rename_i u1 q
  obtain ⟨n,l,ha,h1⟩:=Gf h;obtain ⟨hn,h4⟩:=Ab h1;obtain ⟨ho,hq⟩:=Ab h4;cases Aa hq;have hn:n <= 4611686018427387904:=of_decide_eq_true hn;have hA:B2 [u1,.fn 92 [],.val (.int .i64 q)] [Co n l,.fn 92 [],iV q]:=λS w cs hv=>by
   obtain ⟨c,l1,rfl,q1,q3⟩:=hv;exact ⟨c,_,rfl,ha S w c q1,q3⟩
  have hx:=AZ Ye Ajd (G:=Gl);exact ⟨_,Agi,_,hA,rfl,hx.1,hx.2,Abr (w:=false) (f:=λ_=>Ba) hn ho,As.refl _⟩
 ·cases h
end Go.Proofs.YtkbgidbledjejaaGreat.Ed
