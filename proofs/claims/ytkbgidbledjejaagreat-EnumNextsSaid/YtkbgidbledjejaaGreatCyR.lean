/-
  Why one of some edges is not to be there; how many events have one number. No conditions.
-/
import Derived.Test.YtkbgidbledjejaaGreatCyP
namespace Go.Proofs.YtkbgidbledjejaaGreat.Ed
open Go.Sy
open Int (ofNat)
def DR (a:Int) (f:Nat->E6) (i:Nat):Bool:=AL (Av (ieq (Hj a (f i)) 0) (ID a (f i)))
def Hk (n:Nat) (f:Nat->E6) (i:Nat):Bool:=AL (ieq (f i).dst (f ((i+1) % n)).src)
noncomputable def UO:AH:=(66,ap2 gI toE λa e=>out (RE a e))::[]
theorem Af3:Ao Tryz.prog Gl UO:=.cons p32 .nil
theorem PU {i n:Nat} (h:i<n) (hn:n <= 4611686018427387904):Aw (wr .i64 (Aj (ofNat i) 1)) (ofNat n)=ofNat ((i+1) % n):=by rw [AY h hn,Ke]
theorem Ani {i n:Nat} (h:i<n):ieq (ofNat n) 0=false:=by rw [show (0:Int)=ofNat 0 from rfl,FP,decide_eq_false (by omega)]
def V3 (_:Int) (n:Nat) (_:Nat->E6):Lp:=⟨bmK 53 0 [0,1,4,5,12,13,14],0,bmK 53 0 [1,4,5],0,n+1⟩
def Tw (a:Int) (n:Nat) (f:Nat->E6) (i:Nat) (j:Nat->V):St:=⟨jsV 53 0 j [(0,iV a),(1,.sl 6 n (λi=>eV (f i))),(4,iV 0),(5,iV 0),(12,.sl 6 n (λi=>eV (f i))),(13,nV n),(14,nV i)],[]⟩
def QI (_:Int) (n:Nat) (f:Nat->E6) (_:Nat):Ex×St:=(.ex 0,⟨jsV 53 0 Ac [(1,.sl 6 n (λi=>eV (f i))),(4,iV 0),(5,iV 0)],[]⟩)
def Aew (_:Int) (n:Nat) (f:Nat->E6) (i:Nat):Ex×St:=(.rt,⟨jsV 53 0 Ac [(1,.sl 6 n (λi=>eV (f i))),(4,iV 30),(5,nV i)],[]⟩)
def Aev (_:Int) (n:Nat) (f:Nat->E6) (i:Nat):Ex×St:=(.rt,⟨jsV 53 0 Ac [(1,.sl 6 n (λi=>eV (f i))),(4,iV 5),(5,nV i)],[]⟩)
noncomputable def IT (L:LT):St->T (Ex×St):=λst=>A8 tab ⟨A6 UO,L,Gl⟩ (A0 Tryz.f85 0) 0 st
section
variable (L:LT) (a:Int) (n:Nat) (f:Nat->E6) (i:Nat)  (j:Nat->V)
include L a n f i j
theorem AmH (h0:ilt (ofNat i) (ofNat n)=false):Ap (IT L) (V3 a n f) (Tw a n f i j)=some ((.ex 0),⟨jsV 53 0 Ac [(1,.sl 6 n (λi=>eV (f i))),(4,iV 0),(5,iV 0)],[]⟩):=by
 exact Ag (ks:=[kn h0]) (by kernel_rfl)
theorem AmG (h0:ilt (ofNat i) (ofNat n)=true) (h1:Av (ile 0 (ofNat i)) (ilt (ofNat i) (ofNat n))=true) (h2:ieq (Hj a (f i)) 0=false):Ap (IT L) (V3 a n f) (Tw a n f i j)=some (.rt,⟨jsV 53 0 Ac [(1,.sl 6 n (λi=>eV (f i))),(4,iV 30),(5,nV i)],[]⟩):=by
 exact Ag (ks:=[kn h0,kn h1,kN (kn h2)]) (by kernel_rfl)
theorem AmF (h0:ilt (ofNat i) (ofNat n)=true) (h1:Av (ile 0 (ofNat i)) (ilt (ofNat i) (ofNat n))=true) (h2:ieq (Hj a (f i)) 0=true) (h3:ID a (f i)=false):Ap (IT L) (V3 a n f) (Tw a n f i j)=some (.rt,⟨jsV 53 0 Ac [(1,.sl 6 n (λi=>eV (f i))),(4,iV 5),(5,nV i)],[]⟩):=by
 exact Ag (ks:=[kn h0,kn h1,kN (kn h2),kN (kn h3)]) (by kernel_rfl)
theorem AmE (h0:ilt (ofNat i) (ofNat n)=true) (h1:Av (ile 0 (ofNat i)) (ilt (ofNat i) (ofNat n))=true) (h2:ieq (Hj a (f i)) 0=true) (h3:ID a (f i)=true):Ap (IT L) (V3 a n f) (Tw a n f i j)=some (.nm,⟨jsV 53 0 Ac [(0,iV a),(1,.sl 6 n (λi=>eV (f i))),(4,iV 0),(5,iV 0),(12,.sl 6 n (λi=>eV (f i))),(13,nV n),(14,iV (wr .i64 (Aj (ofNat i) 1)))],[]⟩):=by
 exact Ag (ks:=[kn h0,kn h1,kN (kn h2),kN (kn h3)]) (by kernel_rfl)
end
def AgL (_:Int) (_:Nat) (_:Nat->E6) :Nat->V:=lkV A5 []
def KP (_:Int) (n:Nat) (_:Nat->E6):Lp:=⟨bmK 53 0 [1,4,5,32,33,34],0,bmK 53 0 [4,5],0,n+1⟩
def MQ (_:Int) (n:Nat) (f:Nat->E6) (i:Nat) (j:Nat->V):St:=⟨jsV 53 0 j [(1,.sl 6 n (λi=>eV (f i))),(4,iV 0),(5,iV 0),(32,.sl 6 n (λi=>eV (f i))),(33,nV n),(34,nV i)],[]⟩
def OQ (_:Int) (_:Nat) (_:Nat->E6) (_:Nat):Ex×St:=(.ex 2,⟨jsV 53 0 Ac [(4,iV 0),(5,iV 0)],[]⟩)
def OP (_:Int) (_:Nat) (_:Nat->E6) (i:Nat):Ex×St:=(.rt,⟨jsV 53 0 Ac [(4,iV 41),(5,nV i)],[]⟩)
noncomputable def Ik (L:LT):St->T (Ex×St):=λst=>A8 tab ⟨A6 UO,L,Gl⟩ (A0 Tryz.f85 2) 2 st
section
variable (L:LT) (a:Int) (n:Nat) (f:Nat->E6) (i:Nat)  (j:Nat->V)
include L a n f i j
theorem Amz (h0:ilt (ofNat i) (ofNat n)=false):Ap (Ik L) (KP a n f) (MQ a n f i j)=some ((.ex 2),⟨jsV 53 0 Ac [(4,iV 0),(5,iV 0)],[]⟩):=by
 exact Ag (ks:=[kn h0]) (by kernel_rfl)
theorem Amy (h0:ilt (ofNat i) (ofNat n)=true) (h1:Av (ile 0 (ofNat i)) (ilt (ofNat i) (ofNat n))=true) (h2:ieq (ofNat n) 0=false) (h3:Av (ile 0 (Aw (wr .i64 (Aj (ofNat i) 1)) (ofNat n))) (ilt (Aw (wr .i64 (Aj (ofNat i) 1)) (ofNat n)) (ofNat n))=true) (h4:ieq (f i).dst (f (toN (Aw (wr .i64 (Aj (ofNat i) 1)) (ofNat n)))).src=false):Ap (Ik L) (KP a n f) (MQ a n f i j)=some (.rt,⟨jsV 53 0 Ac [(4,iV 41),(5,nV i)],[]⟩):=by
 exact Ag (ks:=[kn h0,kn h1,kn h2,kn h3,kN (kn h4)]) (by kernel_rfl)
theorem Amx (h0:ilt (ofNat i) (ofNat n)=true) (h1:Av (ile 0 (ofNat i)) (ilt (ofNat i) (ofNat n))=true) (h2:ieq (ofNat n) 0=false) (h3:Av (ile 0 (Aw (wr .i64 (Aj (ofNat i) 1)) (ofNat n))) (ilt (Aw (wr .i64 (Aj (ofNat i) 1)) (ofNat n)) (ofNat n))=true) (h4:ieq (f i).dst (f (toN (Aw (wr .i64 (Aj (ofNat i) 1)) (ofNat n)))).src=true):Ap (Ik L) (KP a n f) (MQ a n f i j)=some (.nm,⟨jsV 53 0 Ac [(1,.sl 6 n (λi=>eV (f i))),(4,iV 0),(5,iV 0),(32,.sl 6 n (λi=>eV (f i))),(33,nV n),(34,iV (wr .i64 (Aj (ofNat i) 1)))],[]⟩):=by
 exact Ag (ks:=[kn h0,kn h1,kn h2,kn h3,kN (kn h4)]) (by kernel_rfl)
end
def AdK (_:Int) (_:Nat) (_:Nat->E6) (_:Nat):Nat->V:=lkU 9007169189969869 []
section
variable (L:LT) (p0:PT) (a:Int) (n:Nat) (f:Nat->E6) (i:Nat)
include L p0 a n f i
theorem Alz  (hp0:p0 (IT (onP 0 p0 (Aew a n f i) L)) (Tw a n f 0 (AgL a n f ))=true):(AK (Ar tab ⟨A6 UO,onP 0 p0 (Aew a n f i) L,Gl⟩ Tryz.f85 [iV a,Am n f] [])).sem=some ((.tup [iV 30,nV i]),[]):=by
 exact Ag (ks:=[kn hp0]) (by kernel_rfl)
theorem Aly  (hp0:p0 (IT (onP 0 p0 (Aev a n f i) L)) (Tw a n f 0 (AgL a n f ))=true):(AK (Ar tab ⟨A6 UO,onP 0 p0 (Aev a n f i) L,Gl⟩ Tryz.f85 [iV a,Am n f] [])).sem=some ((.tup [iV 5,nV i]),[]):=by
 exact Ag (ks:=[kn hp0]) (by kernel_rfl)
end
section
variable (L:LT) (p0:PT) (p2:PT) (a:Int) (n:Nat) (f:Nat->E6) (i j:Nat)
include L p0 p2 a n f i j
theorem Alx  (hp0:p0 (IT (onP 0 p0 (QI a n f i) (onP 2 p2 (OP a n f j) L))) (Tw a n f 0 (AgL a n f ))=true) (hp2:p2 (Ik (onP 0 p0 (QI a n f i) (onP 2 p2 (OP a n f j) L))) (MQ a n f 0 (AdK a n f i))=true):(AK (Ar tab ⟨A6 UO,onP 0 p0 (QI a n f i) (onP 2 p2 (OP a n f j) L),Gl⟩ Tryz.f85 [iV a,Am n f] [])).sem=some ((.tup [iV 41,nV j]),[]):=by
 exact Ag (ks:=[kn hp0,kn hp2]) (by kernel_rfl)
theorem Alw  (hp0:p0 (IT (onP 0 p0 (QI a n f i) (onP 2 p2 (OQ a n f j) L))) (Tw a n f 0 (AgL a n f ))=true) (hp2:p2 (Ik (onP 0 p0 (QI a n f i) (onP 2 p2 (OQ a n f j) L))) (MQ a n f 0 (AdK a n f i))=true):(AK (Ar tab ⟨A6 UO,onP 0 p0 (QI a n f i) (onP 2 p2 (OQ a n f j) L),Gl⟩ Tryz.f85 [iV a,Am n f] [])).sem=some ((.tup [iV 0,iV 0]),[]):=by
 exact Ag (ks:=[kn hp0,kn hp2]) (by kernel_rfl)
end
theorem AhH (L:LT) (a:Int) (n:Nat) (f:Nat->E6) (hn:n <= 4611686018427387904):∀ (d i:Nat) (j:Nat->V) (q:Nat),n=i+d->d<q ->
  (Ax (IT L) (V3 a n f) q (Tw a n f i j)).sem=some (match A1 (DR a f) d i with
   | none=>QI a n f 0
   | some t=>match ieq (Hj a (f t)) 0 with
    | false=>Aew a n f t
    | true=>Aev a n f t)
 | 0,i,j,q+1,h,_=>by
  have:n=i:=by omega
  subst this;exact Ae (AmH L a n f n j (A4 (Nat.le_refl _)))
 | d+1,i,j,q+1,h,h2=>by
  have hl:i<n:=by omega
  cases c1:ieq (Hj a (f i)) 0 with
  | false =>rw [Fl (show DR a f i=true by rw [DR,c1]; rfl)];simp only [c1];exact Ae (AmG L a n f i j (ofNat_lt hl) (Af hl) c1)
  | true =>
   cases c2:ID a (f i) with
   | false =>rw [Fl (show DR a f i=true by rw [DR,c1,c2]; rfl)];simp only [c1];exact Ae (AmF L a n f i j (ofNat_lt hl) (Af hl) c1 c2)
   | true =>rw [Gc (show DR a f i=false by rw [DR,c1,c2]; rfl),Ae (AmE L a n f i j (ofNat_lt hl) (Af hl) c1 c2),AN,AY hl hn];exact AhH L a n f hn d (i+1) Ac q (by omega) (by omega)
theorem Acz (L:LT) (a:Int) (n:Nat) (f:Nat->E6) (hn:n <= 4611686018427387904):∀ (d i:Nat) (j:Nat->V) (q:Nat),n=i+d->d<q ->
  (Ax (Ik L) (KP a n f) q (MQ a n f i j)).sem=some (match A1 (Hk n f) d i with
   | none=>OQ a n f 0
   | some t=>OP a n f t)
 | 0,i,j,q+1,h,_=>by
  have:n=i:=by omega
  subst this;exact Ae (Amz L a n f n j (A4 (Nat.le_refl _)))
 | d+1,i,j,q+1,h,h2=>by
  have hl:i<n:=by omega
  have e1:=PU hl hn;have hb:Av (ile 0 (Aw (wr .i64 (Aj (ofNat i) 1)) (ofNat n))) (ilt (Aw (wr .i64 (Aj (ofNat i) 1)) (ofNat n)) (ofNat n))=true:=by
   rw [e1]; exact Af (Nat.mod_lt _ (by omega))
  have e2:toN (ofNat ((i+1) % n))=(i+1) % n:=rfl;cases c1:ieq (f i).dst (f ((i+1) % n)).src with
  | false =>rw [Fl (show Hk n f i=true by rw [Hk,c1]; rfl)];exact Ae (Amy L a n f i j (ofNat_lt hl) (Af hl) (Ani hl) hb (by rw [e1,e2]; exact c1))
  | true =>rw [Gc (show Hk n f i=false by rw [Hk,c1]; rfl),Ae (Amx L a n f i j (ofNat_lt hl) (Af hl) (Ani hl) hb (by rw [e1,e2]; exact c1)),AN,AY hl hn];exact Acz L a n f hn d (i+1) Ac q (by omega) (by omega)
def Je (a:Int) (n:Nat) (f:Nat->E6):Int×Int :=
 match A1 (DR a f) n 0 with
 | some t=>match ieq (Hj a (f t)) 0 with
  | false=>(30,ofNat t)
  | true=>(5,ofNat t)
 | none=>match A1 (Hk n f) n 0 with
  | some t=>(41,ofNat t)
  | none=>(0,0)
def AkH:List V->A2
 | [.val (.int .i64 a),v]=>apL v λn f=>.br (BG n) (out (.tup [iV (Je a n f).1,iV (Je a n f).2])) .fail
 | _=>.fail
theorem AkV {a:Int} {v u:V} (h:∀ (S:Nat->Prop) (w:World) (c:Value),VR S w v noK c->VR S w u noK c):B0 [.val (.int .i64 a),v] [iV a,u]:=λS w cs hv=>by
 obtain ⟨c,l,rfl,q1,q2⟩:=hv;obtain ⟨c2,l2,rfl,q3,q4⟩:=q2;exact ⟨c,_,rfl,q1,c2,l2,rfl,h S w c2 q3,q4⟩
theorem p86:As Tryz.prog Gl 85 AkH:=by
 refine Ah Az mixed Tryz.func85 (by kernel_rfl) (by kernel_rfl) λvs v h' h=>?_;unfold AkH at h;split at h
 ·rename_i a u
  obtain ⟨n,f,ha,h1⟩:=AQ h;obtain ⟨hn,hq⟩:=Ab h1;have:=Aa hq;simp only [Prod.mk.injEq] at this;obtain ⟨rfl,rfl⟩:=this;have hn:=Eg (HB hn);have hx:=Bm Af3 [(0,V3 a n f),(2,KP a n f)];have hL:=AW [(0,V3 a n f),(2,KP a n f)];have h0:=λL j=>AhH L a n f hn n 0 j (n+1) (by omega) (by omega);have h2:=λL j=>Acz L a n f hn n 0 j (n+1) (by omega) (by omega);refine ⟨_,BP Gl UO [(0,V3 a n f),(2,KP a n f)],_,AkV ha,rfl,hx.1,hx.2,?_,Au.refl _⟩;unfold Je;cases c1:A1 (DR a f) n 0 with
  | some t =>
   rw [c1] at h0;cases c2:ieq (Hj a (f t)) 0 with
   | false =>simp only [c2] at h0 ⊢;exact Bp (Bn hL hL) _ (Alz _ _ a n f t (AP (h0 _ _)))
   | true =>simp only [c2] at h0 ⊢;exact Bp (Bn hL hL) _ (Aly _ _ a n f t (AP (h0 _ _)))
  | none =>
   rw [c1] at h0;cases c2:A1 (Hk n f) n 0 with
   | some t =>rw [c2] at h2;exact Bp (Bn (Bn hL hL) hL) _ (Alx _ _ _ a n f 0 t (AP (h0 _ _)) (AP (h2 _ _)))
   | none =>rw [c2] at h2;exact Bp (Bn (Bn hL hL) hL) _ (Alw _ _ _ a n f 0 0 (AP (h0 _ _)) (AP (h2 _ _)))
 ·cases h
def TR (n:Nat) (_:Nat->E6) (_:Nat) (_:Nat->Int) (_:Int) (_:Bool):Lp:=⟨bmK 38 0 [0,1,2,3,9,10],0,bmK 38 0 [9],0,n+1⟩
def WW (n:Nat) (f:Nat->E6) (m:Nat) (l:Nat->Int) (k:Int) (w:Bool) (c:Int) (i:Nat) (j:Nat->V):St:=⟨jsV 38 0 j [(0,.sl 6 n (λi=>eV (f i))),(1,.sl 1 m (λk=>iV (l k))),(2,iV k),(3,bV w),(9,iV c),(10,nV i)],[]⟩
def Aeu (_:Nat) (_:Nat->E6) (_:Nat) (_:Nat->Int) (_:Int) (_:Bool) (c:Int) (_:Nat):Ex×St:=(.ex 0,⟨jsV 38 0 Ac [(9,iV c)],[]⟩)
noncomputable def Lb (L:LT):St->T (Ex×St):=λst=>A8 tab ⟨A6 tb0,L,Gl⟩ (A0 Tryz.f51 0) 0 st
section
variable (L:LT) (n:Nat) (f:Nat->E6) (m:Nat) (l:Nat->Int) (k:Int) (w:Bool) (c:Int) (i:Nat)  (j:Nat->V)
include L n f m l k w c i j
theorem Am5 (h0:ilt (ofNat i) (ofNat n)=false):Ap (Lb L) (TR n f m l k w) (WW n f m l k w c i j)=some ((.ex 0),⟨jsV 38 0 Ac [(9,iV c)],[]⟩):=by
 exact Ag (ks:=[kn h0]) (by kernel_rfl)
theorem Am9 (h0:ilt (ofNat i) (ofNat n)=true) (h1:Av (ile 0 (ofNat i)) (ilt (ofNat i) (ofNat m))=true) (h2:ieq (l i) k=false):Ap (Lb L) (TR n f m l k w) (WW n f m l k w c i j)=some (.nm,⟨jsV 38 0 Ac [(0,.sl 6 n (λi=>eV (f i))),(1,.sl 1 m (λk=>iV (l k))),(2,iV k),(3,bV w),(9,iV c),(10,iV (wr .i64 (Aj (ofNat i) 1)))],[]⟩):=by
 exact Ag (ks:=[kn h0,kn h1,kn h2,kn h2,kn h2,kn h2,kn h2,kF]) (by kernel_rfl)
theorem Am8 (h0:ilt (ofNat i) (ofNat n)=true) (h1:Av (ile 0 (ofNat i)) (ilt (ofNat i) (ofNat m))=true) (h2:ieq (l i) k=true) (h3:w=false):Ap (Lb L) (TR n f m l k w) (WW n f m l k w c i j)=some (.nm,⟨jsV 38 0 Ac [(0,.sl 6 n (λi=>eV (f i))),(1,.sl 1 m (λk=>iV (l k))),(2,iV k),(3,bV w),(9,iV (wr .i64 (Aj c 1))),(10,iV (wr .i64 (Aj (ofNat i) 1)))],[]⟩):=by
 exact Ag (ks:=[kn h0,kn h1,kn h2,kn h2,kn h2,kN (kn h3),kN (kn h3),kN (kn h3),kN (kn h3),kN (kn h3),kN (kn h3),kn h2,kN (kn h3),kn h2,kT]) (by kernel_rfl)
theorem Am7 (h0:ilt (ofNat i) (ofNat n)=true) (h1:Av (ile 0 (ofNat i)) (ilt (ofNat i) (ofNat m))=true) (h2:ieq (l i) k=true) (h3:w=true) (h4:Av (ile 0 (ofNat i)) (ilt (ofNat i) (ofNat n))=true) (h5:ieq (f i).src 2=true):Ap (Lb L) (TR n f m l k w) (WW n f m l k w c i j)=some (.nm,⟨jsV 38 0 Ac [(0,.sl 6 n (λi=>eV (f i))),(1,.sl 1 m (λk=>iV (l k))),(2,iV k),(3,bV w),(9,iV (wr .i64 (Aj c 1))),(10,iV (wr .i64 (Aj (ofNat i) 1)))],[]⟩):=by
 exact Ag (ks:=[kn h0,kn h1,kn h2,kn h2,kn h2,kN (kn h3),kN (kn h3),kN (kn h3),kn h4,kN (kn h3),kN (kn h3),kN (kn h3),kn h2,kN (kn h3),kn h2,kn h5]) (by kernel_rfl)
theorem Am6 (h0:ilt (ofNat i) (ofNat n)=true) (h1:Av (ile 0 (ofNat i)) (ilt (ofNat i) (ofNat m))=true) (h2:ieq (l i) k=true) (h3:w=true) (h4:Av (ile 0 (ofNat i)) (ilt (ofNat i) (ofNat n))=true) (h5:ieq (f i).src 2=false):Ap (Lb L) (TR n f m l k w) (WW n f m l k w c i j)=some (.nm,⟨jsV 38 0 Ac [(0,.sl 6 n (λi=>eV (f i))),(1,.sl 1 m (λk=>iV (l k))),(2,iV k),(3,bV w),(9,iV c),(10,iV (wr .i64 (Aj (ofNat i) 1)))],[]⟩):=by
 exact Ag (ks:=[kn h0,kn h1,kn h2,kn h2,kn h2,kN (kn h3),kN (kn h3),kN (kn h3),kn h4,kN (kn h3),kN (kn h3),kN (kn h3),kn h2,kN (kn h3),kn h2,kn h5]) (by kernel_rfl)
end
def Ap9 (_:Nat) (_:Nat->E6) (_:Nat) (_:Nat->Int) (_:Int) (_:Bool) :Nat->V:=lkV A5 [(8,iV 0)]
theorem Ao8 (L:LT) (p0:PT) (n:Nat) (f:Nat->E6) (m:Nat) (l:Nat->Int) (k:Int) (w:Bool) (c:Int) (i:Nat)  (hp0:p0 (Lb (onP 0 p0 (Aeu n f m l k w c i) L)) (WW n f m l k w 0 0 (Ap9 n f m l k w ))=true):(AK (Ar tab ⟨A6 tb0,onP 0 p0 (Aeu n f m l k w c i) L,Gl⟩ Tryz.f51 [Am n f,Cn m l,iV k,bV w] [])).sem=some ((iV c),[]):=by
 exact Ag (ks:=[kn hp0]) (by kernel_rfl)
def isW (e:E6):Bool:=ieq e.src 2
def Em (l:Nat->Int) (c:Nat->Bool) (k:Int) (i:Nat):Bool:=Av (ieq (l i) k) (c i)
def Yk (n:Nat) (l:Nat->Int) (c:Nat->Bool) (k:Int):Int:=ofNat (AD (Em l c k) n)
def ofW (w:Bool) (f:Nat->E6) (i:Nat):Bool:=bor (AL w) (isW (f i))
theorem Vb (L:LT) (n:Nat) (f:Nat->E6) (l:Nat->Int) (k:Int) (w:Bool) (hn:n <= 4611686018427387904):∀ (d i:Nat) (j:Nat->V) (q:Nat),n=i+d->d<q ->
  (Ax (Lb L) (TR n f n l k w) q (WW n f n l k w (ofNat (AD (Em l (ofW w f) k) i)) i j)).sem=some (Aeu n f n l k w (ofNat (AD (Em l (ofW w f) k) n)) n)
 | 0,i,j,q+1,h,_=>by
  have:n=i:=by omega
  subst this;exact Ae (Am5 L n f n l k w (ofNat (AD (Em l (ofW w f) k) n)) n j (A4 (Nat.le_refl _)))
 | d+1,i,j,q+1,h,h2=>by
  have hl:i<n:=by omega
  have hc:=EO (Em l (ofW w f) k) i;have yes:Em l (ofW w f) k i=true->wr .i64 (Aj (ofNat (AD (Em l (ofW w f) k) i)) 1)=ofNat (AD (Em l (ofW w f) k) (i+1)):=λh3=>by
   rw [AY (show AD (Em l (ofW w f) k) i<n by omega) hn,N9 h3]
  have no:Em l (ofW w f) k i=false->ofNat (AD (Em l (ofW w f) k) i)=ofNat (AD (Em l (ofW w f) k) (i+1)):=λh3=>by rw [NA h3]
  cases c1:ieq (l i) k with
  | false =>rw [Ae (Am9 L n f n l k w (ofNat (AD (Em l (ofW w f) k) i)) i j (ofNat_lt hl) (Af hl) c1),AN,AY hl hn,no (by rw [Em,c1]; rfl)];exact Vb L n f l k w hn d (i+1) Ac q (by omega) (by omega)
  | true =>
   cases c2:w with
   | false =>subst c2;rw [Ae (Am8 L n f n l k false (ofNat (AD (Em l (ofW false f) k) i)) i j (ofNat_lt hl) (Af hl) c1 rfl),AN,AY hl hn,yes (by rw [Em,c1]; rfl)];exact Vb L n f l k false hn d (i+1) Ac q (by omega) (by omega)
   | true =>
    subst c2;cases c3:ieq (f i).src 2 with
    | true =>rw [Ae (Am7 L n f n l k true (ofNat (AD (Em l (ofW true f) k) i)) i j (ofNat_lt hl) (Af hl) c1 rfl (Af hl) c3),AN,AY hl hn,yes (by rw [Em,c1,ofW,isW,c3]; rfl)];exact Vb L n f l k true hn d (i+1) Ac q (by omega) (by omega)
    | false =>rw [Ae (Am6 L n f n l k true (ofNat (AD (Em l (ofW true f) k) i)) i j (ofNat_lt hl) (Af hl) c1 rfl (Af hl) c3),AN,AY hl hn,no (by rw [Em,c1,ofW,isW,c3]; rfl)];exact Vb L n f l k true hn d (i+1) Ac q (by omega) (by omega)
def Ae9:List V->A2
 | [v,u,.val (.int .i64 k),.val (.bool w)]=>apL v λn f=>apI u λm l=>.br (Fz n m) (.br (Cr n) (out (iV (Yk n l (λi=>bor (AL w) (isW (f i))) k))) .fail) .fail
 | _=>.fail
theorem p96:As Tryz.prog Gl 51 Ae9:=by
 refine Ah Az mixed Tryz.func51 (by kernel_rfl) (by kernel_rfl) λvs v h' h=>?_;unfold Ae9 at h;split at h
 ·rename_i v1 u1 k w
  obtain ⟨n,f,ha,h1⟩:=AQ h;obtain ⟨m,l,hb,h2⟩:=Gd h1;obtain ⟨hm,h3⟩:=Ab h2;obtain ⟨hn,hq⟩:=Ab h3;have hm:n=m:=Nat.eq_of_beq_eq_true hm;subst hm;have:=Aa hq;simp only [Prod.mk.injEq] at this;obtain ⟨rfl,rfl⟩:=this;have hn:n <= 4611686018427387904:=of_decide_eq_true hn;have hA:B0 [v1,u1,.val (.int .i64 k),.val (.bool w)] [Am n f,Cn n l,iV k,bV w]:=λS w' cs hv=>by
   obtain ⟨c,l1,rfl,q1,c2,l2,rfl,q2,q3⟩:=hv;exact ⟨c,_,rfl,ha S w' c q1,c2,l2,rfl,hb S w' c2 q2,q3⟩
  have hx:=Bm Hy [(0,TR n f n l k w)];have hL:=AW [(0,TR n f n l k w)];exact ⟨_,BP Gl tb0 [(0,TR n f n l k w)],_,hA,rfl,hx.1,hx.2,Bp (Bn hL hL) _ (Ao8 _ _ n f n l k w _ n (AP (Vb _ n f l k w hn n 0 _ (n+1) (by omega) (by omega)))),Au.refl _⟩
 ·cases h
end Go.Proofs.YtkbgidbledjejaaGreat.Ed
namespace Go.Proofs.YtkbgidbledjejaaGreat.Ed
open Go.Sy
open Int (ofNat)
set_option maxRecDepth 100000
theorem AhU {v u:V} (h:∀ (S:Nat->Prop) (w:World) (c:Value),VR S w v noK c->VR S w u noK c) (S:Nat->Prop) (w:World) (κ:Ai) (c:Value) (hv:VR S w (.pp (.agg [v])) κ c):VR S w (.pp (.agg [u])) κ c:=by
 obtain ⟨b,o,cv,q1,⟨ca,q2,a,l',q3,q4,q5⟩,q6⟩:=hv;exact ⟨b,o,cv,q1,⟨ca,q2,a,l',q3,h S w a q4,q5⟩,q6⟩
def Akt:List V->A2
 | [.val (.int .i64 i),.pp (.agg [v])]=>apL v λn f=>.br (Av (ile 0 i) (ilt i (ofNat n))) (out (bV (isW (f (toN i))))) .fail
 | _=>.fail
def AbN:List V->A2
 | [.val (.int .i64 _)]=>out (bV true)
 | _=>.fail
theorem p90:As Tryz.prog Gl 89 Akt:=by
 refine Ah Az mixed Tryz.func89 (by kernel_rfl) (by kernel_rfl) λvs v h' h=>?_;unfold Akt at h;split at h
 rotate_left
 ·cases h
 rename_i i u;obtain ⟨n,f,ha,h1⟩:=AQ h;obtain ⟨hi,hq⟩:=Ab h1;cases Aa hq;have hx:=Ba Hy [] (G:=Gl);exact ⟨[iV i,.pp (.agg [Am n f])],cxA Gl tb0 [],_,λS w cs hv=>by
  obtain ⟨c,l,rfl,q1,c2,l2,rfl,q2,q3⟩:=hv;exact ⟨c,_,rfl,q1,c2,l2,rfl,AhU ha S w noK c2 q2,q3⟩,rfl,hx.1,hx.2,DW.ok (.k hi <| .l) (by kernel_rfl),Au.refl _⟩
theorem p93:As Tryz.prog Gl 92 AbN:=by
 refine Ah Az mixed Tryz.func92 (by kernel_rfl) (by kernel_rfl) λvs v h' h=>?_;unfold AbN at h;split at h
 ·cases Aa h
  have hx:=Ba Hy [] (G:=Gl);exact ⟨_,cxA Gl tb0 [],_,B0.refl _,rfl,hx.1,hx.2,DW.ok .l (by kernel_rfl),Au.refl _⟩
 ·cases h
noncomputable def AlL:AH:=(89,Akt)::(92,AbN)::[]
theorem Y4:Ao Tryz.prog Gl AlL:=.cons p90 <| .cons p93 .nil
def gK (l:Nat->Int) (c:Nat->Bool) (i:Nat) (x:Int):Int:=ofNat (AD (Em l c x) i)
theorem ApC (l:Nat->Int) (c:Nat->Bool):gK l c 0=λ_=>0:=rfl
theorem An9 {l:Nat->Int} {c:Nat->Bool} {i:Nat} (h:c i=false):gK l c (i+1)=gK l c i:=by
 funext x;unfold gK;rw [NA];rw [Em,h];cases ieq (l i) x <;> rfl
theorem Ak7 {l:Nat->Int} {c:Nat->Bool} {i n:Nat} (h:c i=true) (hi:i<n) (hn:n <= 4611686018427387904):(λk=>sel (ieq k (l i)) (wr .i64 (Aj (gK l c i (l i)) 1)) (gK l c i k))=gK l c (i+1):=by
 funext x;by_cases hx:x=l i
 ·subst hx
  have h1:ieq (l i) (l i)=true:=by simp [ieq]
  rw [h1];show wr .i64 (Aj (ofNat (AD (Em l c (l i)) i)) 1)=_;have:=EO (Em l c (l i)) i;rw [AY (show AD (Em l c (l i)) i<n by omega) hn];unfold gK;rw [N9 (show Em l c (l i) i=true by rw [Em,h,h1]; rfl)]
 ·have h1:ieq x (l i)=false:=by simp [ieq,hx]
  rw [h1];show gK l c i x=_;unfold gK;rw [NA (show Em l c x i=false by rw [Em,show ieq (l i) x=false by simp [ieq]; omega]; rfl)]
theorem Zv {a:Nat} (h:a <= 4611686018427387904):IM (ofNat a)=true:=by
 simp only [IM,Bool.and_eq_true,decide_eq_true_eq,Int.ofNat_eq_natCast];omega
def okP (n:Nat) (l:Nat->Int):Bool:=CQ n λi=>IM (l i)
def Bo (n:Nat) (l:Nat->Int) (c:Nat->Bool) (q:Int) (i:Nat):Bool:=Av (c i) (ilt q (Yk n l c (l i)))
def crR (n:Nat) (l:Nat->Int) (c:Nat->Bool) (q:Int):Int×Bool :=
 match A1 (Bo n l c q) n 0 with
 | some t=>(ofNat t,true)
 | none=>(0,false)
def cq (w:Bool) (n:Nat) (f:Nat->E6):V:=match w with
 | true=>.fn 89 [.pp (.agg [Am n f])]
 | false=>.fn 92 []
def cb (w:Bool) (f:Nat->E6):Nat->Bool:=match w with
 | true=>λi=>isW (f i)
 | false=>λ_=>true
def Aif:Lp:=⟨bmK 48 0 [0,1,2,6,7,8,14,15,16],1,bmK 48 0 [0,1,2,6,7,8],1,4611686018427387905⟩
def TT:Lp:=⟨bmK 48 0 [1,2,6,7,8,29,30,31],1,bmK 48 0 [6,7],0,4611686018427387905⟩
def Akk:List (Nat×Lp×List (Nat×(Nat->V))):=[(0,Aif,[]),(2,TT,[])]
noncomputable abbrev Ahd:Cx:=cxA Gl AlL Akk
noncomputable def Ah5 (id:Nat):St->T (Ex×St):=λst=>A8 tab Ahd (A0 Tryz.f90 id) id st
section
variable (w:Bool) (n:Nat) (f:Nat->E6) (l:Nat->Int) (q:Int)
def Abu (p o:List (Nat×V)) (t:Nat) (g:Int->Int):St:=⟨jsV 48 0 Ac (p++[(1,cq w n f),(2,iV q),(6,iV 0),(7,bV false),(8,.ref 0)]++o),[.imap 116 t g]⟩
def W8 (i:Nat):St:=Abu w n f q [(0,Cn n l)] [(14,Cn n l),(15,nV n),(16,nV i)] (AD (cb w f) i) (gK l (cb w f) i)
def Abr (t i:Nat):St:=Abu w n f q [] [(29,Cn n l),(30,nV n),(31,nV i)] t (gK l (cb w f) n)
def Aox (r:Option Nat):Ex×St:=match r with
 | none=>(.ex 2,⟨jsV 48 0 Ac [(6,iV 0),(7,bV false)],[]⟩)
 | some m=>(.rt,⟨jsV 48 0 Ac [(6,nV m),(7,bV true)],[]⟩)
variable {w n f l q} (hn:n <= 4611686018427387904) (ho:okP n l=true)
include hn ho
theorem AoT {i:Nat} (hl:i<n):Ap (Ah5 0) Aif (W8 w n f l q i)=some (.nm,W8 w n f l q (i+1)):=by
 have hc:=EO (cb w f) i;have hc2:=EO (Em l (cb w f) (l i)) i;have ht:nlt (AD (cb w f) i) 4611686018427387904=true:=CO (by omega);have hf:IM (wr .i64 (Aj (gK l (cb w f) i (l i)) 1))=true:=by
  show IM (wr .i64 (Aj (ofNat (AD (Em l (cb w f) (l i)) i)) 1))=true;rw [AY (show AD (Em l (cb w f) (l i)) i<n by omega) hn];exact Zv (by omega)
 have hi:=Bd.1 ho i hl;have a:=Af hl;cases cw:cb w f i with
 | false =>
  have e:(Ex.nm,Abu w n f q [(0,Cn n l)] [(14,Cn n l),(15,nV n),(16,iV (wr .i64 (Aj (ofNat i) 1)))] (AD (cb w f) i) (gK l (cb w f) i))=(Ex.nm,W8 w n f l q (i+1)):=by
   unfold W8;rw [AY hl hn,An9 cw,NA cw]
  cases w with
  | true=>exact DW.rd (.k (ofNat_lt hl) <| .k a <| .k (eL n) <| .k a <| .k cw <| .e e) (by kernel_rfl)
  | false=>cases cw
 | true =>
  have e:(Ex.nm,Abu w n f q [(0,Cn n l)] [(14,Cn n l),(15,nV n),(16,iV (wr .i64 (Aj (ofNat i) 1)))] (Bh (AD (cb w f) i) 1) (λz=>sel (ieq z (l i)) (wr .i64 (Aj (gK l (cb w f) i (l i)) 1)) (gK l (cb w f) i z)))=(Ex.nm,W8 w n f l q (i+1)):=by
   unfold W8;rw [AY hl hn,Ak7 cw hl hn,show Bh (AD (cb w f) i) 1=AD (cb w f) (i+1) from (N9 cw).symm]
  cases w with
  | true=>exact DW.rd (.k (ofNat_lt hl) <| .k a <| .k (eL n) <| .k a <| .k cw <| .k hi <| .k ht <| .k hi <| .k hf <| .e e) (by kernel_rfl)
  | false=>exact DW.rd (.k (ofNat_lt hl) <| .k a <| .k eT <| .k hi <| .k ht <| .k hi <| .k hf <| .e e) (by kernel_rfl)
theorem AhQ (t:Nat):∀ (d i M:Nat),n=i+d->d<M->(Ax (Ah5 2) TT M (Abr w n f l q t i)).sem=some (Aox (A1 (Bo n l (cb w f) q) d i))
 | 0,i,M,h,hM=>by
  obtain ⟨M,rfl⟩:∃ o,M=o+1:=⟨M-1,by omega⟩;exact Ae (t:=some (.ex 2,_)) (by cases w <;> exact DW.rd (.k (A4 (i:=i) (n:=n) (by omega)) <| .l) (by kernel_rfl))
 | d+1,i,M,h,hM=>by
  obtain ⟨M,rfl⟩:∃ o,M=o+1:=⟨M-1,by omega⟩;have hl:i<n:=by omega
  have hi:=Bd.1 ho i hl;have a:=Af hl;have e:(Ex.nm,Abu w n f q [] [(29,Cn n l),(30,nV n),(31,iV (wr .i64 (Aj (ofNat i) 1)))] t (gK l (cb w f) n))=(Ex.nm,Abr w n f l q t (i+1)):=by
   unfold Abr;rw [AY hl hn]
  have go:Bo n l (cb w f) q i=false->Ap (Ah5 2) TT (Abr w n f l q t i)=some (.nm,Abr w n f l q t (i+1))->(Ax (Ah5 2) TT (M+1) (Abr w n f l q t i)).sem=some (Aox (A1 (Bo n l (cb w f) q) (d+1) i)):=λhz hr=>by
   rw [Gc hz,Ae hr,AN];exact AhQ t d (i+1) M (by omega) (by omega)
  cases cw:cb w f i with
  | false =>
   refine go (by unfold Bo; rw [cw]; rfl) ?_;cases w with
   | true=>exact DW.rd (.k (ofNat_lt hl) <| .k a <| .k (eL n) <| .k a <| .r 6 cw <| .k eF <| .e e) (by kernel_rfl)
   | false=>cases cw
  | true =>
   cases cg:ilt q (gK l (cb w f) n (l i)) with
   | false =>
    refine go (by unfold Bo; rw [cw,show ilt q (Yk n l (cb w f) (l i))=false from cg]; rfl) ?_;cases w with
    | true=>exact DW.rd (.k (ofNat_lt hl) <| .k a <| .k (eL n) <| .k a <| .r 3 cw <| .k hi <| .r 3 cw <| .k cg <| .e e) (by kernel_rfl)
    | false=>exact DW.rd (.k (ofNat_lt hl) <| .k a <| .r 3 eT <| .k hi <| .r 3 eT <| .k cg <| .e e) (by kernel_rfl)
   | true =>
    rw [Fl (show Bo n l (cb w f) q i=true by unfold Bo; rw [show ilt q (Yk n l (cb w f) (l i))=true from cg,cw]; rfl)];cases w with
    | true=>exact Ae (t:=some (.rt,_)) (DW.rd (.k (ofNat_lt hl) <| .k a <| .k (eL n) <| .k a <| .r 3 cw <| .k hi <| .r 3 cw <| .k cg <| .l) (by kernel_rfl))
    | false=>exact Ae (t:=some (.rt,_)) (DW.rd (.k (ofNat_lt hl) <| .k a <| .r 3 eT <| .k hi <| .r 3 eT <| .k cg <| .l) (by kernel_rfl))
theorem AbP:(AK (Ar tab Ahd Tryz.f90 [Cn n l,cq w n f,iV q] [])).sem=some (.tup [iV (crR n l (cb w f) q).1,bV (crR n l (cb w f) q).2],[]):=by
 have h0:=Cj (S:=W8 w n f l q) (m:=n) (q:=4611686018427387905) (x:=(.ex 0,Abu w n f q [(0,Cn n l)] [] (AD (cb w f) n) (gK l (cb w f) n))) (λh=>by cases h) (λi hi=>AoT hn ho hi) (by cases w <;> exact DW.rd (.k (A4 (Nat.le_refl n)) <| .l) (by kernel_rfl)) (by omega)
 unfold W8 at h0;rw [ApC] at h0;have h2:=AhQ (w:=w) (f:=f) (q:=q) hn ho (AD (cb w f) n) n 0 4611686018427387905 (by omega) (by omega);unfold crR;cases c1:A1 (Bo n l (cb w f) q) n 0 with
 | some m =>rw [c1] at h2;cases w <;> exact DW.ok (.a h0 <| .a h2 <| .l) (by kernel_rfl)
 | none =>rw [c1] at h2;cases w <;> exact DW.ok (.a h0 <| .a h2 <| .l) (by kernel_rfl)
end
def Yg:List V->A2
 | [u,.fn 89 [.pp (.agg [v])],.val (.int .i64 q)]=>apI u λm l=>apL v λn f=>.br (Fz n m) (.br (Cr n) (.br (okP m l) (out (.tup [iV (crR m l (λi=>isW (f i)) q).1,bV (crR m l (λi=>isW (f i)) q).2])) .fail) .fail) .fail
 | [u,.fn 92 [],.val (.int .i64 q)]=>apI u λm l=>.br (Cr m) (.br (okP m l) (out (.tup [iV (crR m l (λ_=>true) q).1,bV (crR m l (λ_=>true) q).2])) .fail) .fail
 | _=>.fail
theorem p91:As Tryz.prog Gl 90 Yg:=by
 refine Ah Az mixed Tryz.func90 (by kernel_rfl) (by kernel_rfl) λvs v h' h=>?_;unfold Yg at h;split at h
 ·rename_i u1 v1 q
  obtain ⟨m,l,ha,h1⟩:=Gd h;obtain ⟨n,f,hb,h2⟩:=AQ h1;obtain ⟨hm,h3⟩:=Ab h2;obtain ⟨hn,h4⟩:=Ab h3;obtain ⟨ho,hq⟩:=Ab h4;have hm:n=m:=Nat.eq_of_beq_eq_true hm;subst hm;cases Aa hq;have hn:n <= 4611686018427387904:=of_decide_eq_true hn;have hA:B0 [u1,.fn 89 [.pp (.agg [v1])],.val (.int .i64 q)] [Cn n l,.fn 89 [.pp (.agg [Am n f])],iV q]:=λS w cs hv=>by
   obtain ⟨c,l1,rfl,q1,c2,l2,rfl,⟨ca,q4,c5,l5,q5,q6,q7⟩,q3⟩:=hv;exact ⟨c,_,rfl,ha S w c q1,c2,l2,rfl,⟨ca,q4,c5,l5,q5,AhU hb S w noK c5 q6,q7⟩,q3⟩
  have hx:=Ba Y4 Akk (G:=Gl);exact ⟨_,Ahd,_,hA,rfl,hx.1,hx.2,AbP (w:=true) (f:=f) hn ho,Au.refl _⟩
 ·rename_i u1 q
  obtain ⟨n,l,ha,h1⟩:=Gd h;obtain ⟨hn,h4⟩:=Ab h1;obtain ⟨ho,hq⟩:=Ab h4;cases Aa hq;have hn:n <= 4611686018427387904:=of_decide_eq_true hn;have hA:B0 [u1,.fn 92 [],.val (.int .i64 q)] [Cn n l,.fn 92 [],iV q]:=λS w cs hv=>by
   obtain ⟨c,l1,rfl,q1,q3⟩:=hv;exact ⟨c,_,rfl,ha S w c q1,q3⟩
  have hx:=Ba Y4 Akk (G:=Gl);exact ⟨_,Ahd,_,hA,rfl,hx.1,hx.2,AbP (w:=false) (f:=λ_=>Bv) hn ho,Au.refl _⟩
 ·cases h
end Go.Proofs.YtkbgidbledjejaaGreat.Ed
