/-
  Why one of some edges is not to be there; how many events have one number. No conditions.
-/
import Derived.Test.YtkbafjceglhjhaaGreatDoorShBa
namespace Go.Proofs.YtkbafjceglhjhaaGreatDoor.Ed
open Go.Sy
open Int (ofNat)
def DJ (a:Int) (f:Nat->E6) (i:Nat):Bool:=AQ (Al (ieq (Ho a (f i)) 0) (Ks a (f i)))
def GH (n:Nat) (f:Nat->E6) (i:Nat):Bool:=AQ (ieq (f i).dst (f ((i+1) % n)).src)
noncomputable def tb86:A7:=(192,ap2 gI toE λa e=>out (OY a e))::[]
theorem tb86_ok:Ao Tryz.prog Gl tb86:=.cons p32 .nil
theorem OI {i n:Nat} (h:i<n) (hn:n <= 4611686018427387904):Ay (wr .i64 (Ai (ofNat i) 1)) (ofNat n)=ofNat ((i+1) % n):=by rw [A3 h hn,Et]
theorem Ap5 {i n:Nat} (h:i<n):ieq (ofNat n) 0=false:=by rw [show (0:Int)=ofNat 0 from rfl,DX,decide_eq_false (by omega)]
def lp86 (a:Int) (n:Nat) (f:Nat->E6):Lp:=⟨bmK 53 0 [0,1,4,5,12,13,14],0,bmK 53 0 [1,4,5],0,n+1⟩
def RV (a:Int) (n:Nat) (f:Nat->E6) (i:Nat) (j:Nat->V):St:=⟨jsV 53 0 j [(0,iV a),(1,.sl 6 n (λi=>eV (f i))),(4,iV 0),(5,iV 0),(12,.sl 6 n (λi=>eV (f i))),(13,nV n),(14,nV i)],[]⟩
def P8 (a:Int) (n:Nat) (f:Nat->E6) (i:Nat):Ex×St:=(.ex 0,⟨jsV 53 0 Aa [(1,.sl 6 n (λi=>eV (f i))),(4,iV 0),(5,iV 0)],[]⟩)
def Aef (a:Int) (n:Nat) (f:Nat->E6) (i:Nat):Ex×St:=(.rt,⟨jsV 53 0 Aa [(1,.sl 6 n (λi=>eV (f i))),(4,iV 30),(5,nV i)],[]⟩)
def Aee (a:Int) (n:Nat) (f:Nat->E6) (i:Nat):Ex×St:=(.rt,⟨jsV 53 0 Aa [(1,.sl 6 n (λi=>eV (f i))),(4,iV 5),(5,nV i)],[]⟩)
noncomputable def I3 (L:LT):St->T (Ex×St):=λst=>AA tab ⟨Aw tb86,L,Gl⟩ (As Tryz.f169 0) 0 st
section
variable (L:LT) (a:Int) (n:Nat) (f:Nat->E6) (i:Nat)  (j:Nat->V)
include L a n f i j
theorem AoB (h0:ilt (ofNat i) (ofNat n)=false):Au (I3 L) (lp86 a n f) (RV a n f i j)=some ((.ex 0),⟨jsV 53 0 Aa [(1,.sl 6 n (λi=>eV (f i))),(4,iV 0),(5,iV 0)],[]⟩):=by
 exact Ae (ks:=[kn h0]) (by kernel_rfl)
theorem AoA (h0:ilt (ofNat i) (ofNat n)=true) (h1:Al (ile 0 (ofNat i)) (ilt (ofNat i) (ofNat n))=true) (h2:ieq (Ho a (f i)) 0=false):Au (I3 L) (lp86 a n f) (RV a n f i j)=some (.rt,⟨jsV 53 0 Aa [(1,.sl 6 n (λi=>eV (f i))),(4,iV 30),(5,nV i)],[]⟩):=by
 exact Ae (ks:=[kn h0,kn h1,kN (kn h2)]) (by kernel_rfl)
theorem Ao9 (h0:ilt (ofNat i) (ofNat n)=true) (h1:Al (ile 0 (ofNat i)) (ilt (ofNat i) (ofNat n))=true) (h2:ieq (Ho a (f i)) 0=true) (h3:Ks a (f i)=false):Au (I3 L) (lp86 a n f) (RV a n f i j)=some (.rt,⟨jsV 53 0 Aa [(1,.sl 6 n (λi=>eV (f i))),(4,iV 5),(5,nV i)],[]⟩):=by
 exact Ae (ks:=[kn h0,kn h1,kN (kn h2),kN (kn h3)]) (by kernel_rfl)
theorem Ao8 (h0:ilt (ofNat i) (ofNat n)=true) (h1:Al (ile 0 (ofNat i)) (ilt (ofNat i) (ofNat n))=true) (h2:ieq (Ho a (f i)) 0=true) (h3:Ks a (f i)=true):Au (I3 L) (lp86 a n f) (RV a n f i j)=some (.nm,⟨jsV 53 0 Aa [(0,iV a),(1,.sl 6 n (λi=>eV (f i))),(4,iV 0),(5,iV 0),(12,.sl 6 n (λi=>eV (f i))),(13,nV n),(14,iV (wr .i64 (Ai (ofNat i) 1)))],[]⟩):=by
 exact Ae (ks:=[kn h0,kn h1,kN (kn h2),kN (kn h3)]) (by kernel_rfl)
end
def Ah0 (a:Int) (n:Nat) (f:Nat->E6) :Nat->V:=lkV AK []
def lp86_2 (a:Int) (n:Nat) (f:Nat->E6):Lp:=⟨bmK 53 0 [1,4,5,32,33,34],0,bmK 53 0 [4,5],0,n+1⟩
def Mg (a:Int) (n:Nat) (f:Nat->E6) (i:Nat) (j:Nat->V):St:=⟨jsV 53 0 j [(1,.sl 6 n (λi=>eV (f i))),(4,iV 0),(5,iV 0),(32,.sl 6 n (λi=>eV (f i))),(33,nV n),(34,nV i)],[]⟩
def NJ (a:Int) (n:Nat) (f:Nat->E6) (i:Nat):Ex×St:=(.ex 2,⟨jsV 53 0 Aa [(4,iV 0),(5,iV 0)],[]⟩)
def NI (a:Int) (n:Nat) (f:Nat->E6) (i:Nat):Ex×St:=(.rt,⟨jsV 53 0 Aa [(4,iV 41),(5,nV i)],[]⟩)
noncomputable def HV (L:LT):St->T (Ex×St):=λst=>AA tab ⟨Aw tb86,L,Gl⟩ (As Tryz.f169 2) 2 st
section
variable (L:LT) (a:Int) (n:Nat) (f:Nat->E6) (i:Nat)  (j:Nat->V)
include L a n f i j
theorem Aov (h0:ilt (ofNat i) (ofNat n)=false):Au (HV L) (lp86_2 a n f) (Mg a n f i j)=some ((.ex 2),⟨jsV 53 0 Aa [(4,iV 0),(5,iV 0)],[]⟩):=by
 exact Ae (ks:=[kn h0]) (by kernel_rfl)
theorem Aou (h0:ilt (ofNat i) (ofNat n)=true) (h1:Al (ile 0 (ofNat i)) (ilt (ofNat i) (ofNat n))=true) (h2:ieq (ofNat n) 0=false) (h3:Al (ile 0 (Ay (wr .i64 (Ai (ofNat i) 1)) (ofNat n))) (ilt (Ay (wr .i64 (Ai (ofNat i) 1)) (ofNat n)) (ofNat n))=true) (h4:ieq (f i).dst (f (toN (Ay (wr .i64 (Ai (ofNat i) 1)) (ofNat n)))).src=false):Au (HV L) (lp86_2 a n f) (Mg a n f i j)=some (.rt,⟨jsV 53 0 Aa [(4,iV 41),(5,nV i)],[]⟩):=by
 exact Ae (ks:=[kn h0,kn h1,kn h2,kn h3,kN (kn h4)]) (by kernel_rfl)
theorem Aot (h0:ilt (ofNat i) (ofNat n)=true) (h1:Al (ile 0 (ofNat i)) (ilt (ofNat i) (ofNat n))=true) (h2:ieq (ofNat n) 0=false) (h3:Al (ile 0 (Ay (wr .i64 (Ai (ofNat i) 1)) (ofNat n))) (ilt (Ay (wr .i64 (Ai (ofNat i) 1)) (ofNat n)) (ofNat n))=true) (h4:ieq (f i).dst (f (toN (Ay (wr .i64 (Ai (ofNat i) 1)) (ofNat n)))).src=true):Au (HV L) (lp86_2 a n f) (Mg a n f i j)=some (.nm,⟨jsV 53 0 Aa [(1,.sl 6 n (λi=>eV (f i))),(4,iV 0),(5,iV 0),(32,.sl 6 n (λi=>eV (f i))),(33,nV n),(34,iV (wr .i64 (Ai (ofNat i) 1)))],[]⟩):=by
 exact Ae (ks:=[kn h0,kn h1,kn h2,kn h3,kN (kn h4)]) (by kernel_rfl)
end
def Ad6 (a:Int) (n:Nat) (f:Nat->E6) (i:Nat):Nat->V:=lkU 9007169189969869 []
section
variable (L:LT) (p0:PT) (a:Int) (n:Nat) (f:Nat->E6) (i:Nat)
include L p0 a n f i
theorem Ant  (hp0:p0 (I3 (onP 0 p0 (Aef a n f i) L)) (RV a n f 0 (Ah0 a n f ))=true):(A0 (Aj tab ⟨Aw tb86,onP 0 p0 (Aef a n f i) L,Gl⟩ Tryz.f169 [iV a,AI n f] [])).sem=some ((.tup [iV 30,nV i]),[]):=by
 exact Ae (ks:=[kn hp0]) (by kernel_rfl)
theorem Ans  (hp0:p0 (I3 (onP 0 p0 (Aee a n f i) L)) (RV a n f 0 (Ah0 a n f ))=true):(A0 (Aj tab ⟨Aw tb86,onP 0 p0 (Aee a n f i) L,Gl⟩ Tryz.f169 [iV a,AI n f] [])).sem=some ((.tup [iV 5,nV i]),[]):=by
 exact Ae (ks:=[kn hp0]) (by kernel_rfl)
end
section
variable (L:LT) (p0:PT) (p2:PT) (a:Int) (n:Nat) (f:Nat->E6) (i j:Nat)
include L p0 p2 a n f i j
theorem Anr  (hp0:p0 (I3 (onP 0 p0 (P8 a n f i) (onP 2 p2 (NI a n f j) L))) (RV a n f 0 (Ah0 a n f ))=true) (hp2:p2 (HV (onP 0 p0 (P8 a n f i) (onP 2 p2 (NI a n f j) L))) (Mg a n f 0 (Ad6 a n f i))=true):(A0 (Aj tab ⟨Aw tb86,onP 0 p0 (P8 a n f i) (onP 2 p2 (NI a n f j) L),Gl⟩ Tryz.f169 [iV a,AI n f] [])).sem=some ((.tup [iV 41,nV j]),[]):=by
 exact Ae (ks:=[kn hp0,kn hp2]) (by kernel_rfl)
theorem Anq  (hp0:p0 (I3 (onP 0 p0 (P8 a n f i) (onP 2 p2 (NJ a n f j) L))) (RV a n f 0 (Ah0 a n f ))=true) (hp2:p2 (HV (onP 0 p0 (P8 a n f i) (onP 2 p2 (NJ a n f j) L))) (Mg a n f 0 (Ad6 a n f i))=true):(A0 (Aj tab ⟨Aw tb86,onP 0 p0 (P8 a n f i) (onP 2 p2 (NJ a n f j) L),Gl⟩ Tryz.f169 [iV a,AI n f] [])).sem=some ((.tup [iV 0,iV 0]),[]):=by
 exact Ae (ks:=[kn hp0,kn hp2]) (by kernel_rfl)
end
theorem Ai5 (L:LT) (a:Int) (n:Nat) (f:Nat->E6) (hn:n <= 4611686018427387904):∀ (d i:Nat) (j:Nat->V) (q:Nat),n=i+d->d<q ->
  (Av (I3 L) (lp86 a n f) q (RV a n f i j)).sem=some (match AN (DJ a f) d i with
   | none=>P8 a n f 0
   | some t=>match ieq (Ho a (f t)) 0 with
    | false=>Aef a n f t
    | true=>Aee a n f t)
 | 0,i,j,q+1,h,_=>by
  have:n=i:=by omega
  subst this;exact Af (AoB L a n f n j (A1 (Nat.le_refl _)))
 | d+1,i,j,q+1,h,h2=>by
  have hl:i<n:=by omega
  cases c1:ieq (Ho a (f i)) 0 with
  | false =>rw [Dy (show DJ a f i=true by rw [DJ,c1]; rfl)];simp only [c1];exact Af (AoA L a n f i j (ofNat_lt hl) (Ad hl) c1)
  | true =>
   cases c2:Ks a (f i) with
   | false =>rw [Dy (show DJ a f i=true by rw [DJ,c1,c2]; rfl)];simp only [c1];exact Af (Ao9 L a n f i j (ofNat_lt hl) (Ad hl) c1 c2)
   | true =>rw [Dz (show DJ a f i=false by rw [DJ,c1,c2]; rfl),Af (Ao8 L a n f i j (ofNat_lt hl) (Ad hl) c1 c2),AT,A3 hl hn];exact Ai5 L a n f hn d (i+1) Aa q (by omega) (by omega)
theorem AbT (L:LT) (a:Int) (n:Nat) (f:Nat->E6) (hn:n <= 4611686018427387904):∀ (d i:Nat) (j:Nat->V) (q:Nat),n=i+d->d<q ->
  (Av (HV L) (lp86_2 a n f) q (Mg a n f i j)).sem=some (match AN (GH n f) d i with
   | none=>NJ a n f 0
   | some t=>NI a n f t)
 | 0,i,j,q+1,h,_=>by
  have:n=i:=by omega
  subst this;exact Af (Aov L a n f n j (A1 (Nat.le_refl _)))
 | d+1,i,j,q+1,h,h2=>by
  have hl:i<n:=by omega
  have e1:=OI hl hn;have hb:Al (ile 0 (Ay (wr .i64 (Ai (ofNat i) 1)) (ofNat n))) (ilt (Ay (wr .i64 (Ai (ofNat i) 1)) (ofNat n)) (ofNat n))=true:=by
   rw [e1]; exact Ad (Nat.mod_lt _ (by omega))
  have e2:toN (ofNat ((i+1) % n))=(i+1) % n:=rfl;cases c1:ieq (f i).dst (f ((i+1) % n)).src with
  | false =>rw [Dy (show GH n f i=true by rw [GH,c1]; rfl)];exact Af (Aou L a n f i j (ofNat_lt hl) (Ad hl) (Ap5 hl) hb (by rw [e1,e2]; exact c1))
  | true =>rw [Dz (show GH n f i=false by rw [GH,c1]; rfl),Af (Aot L a n f i j (ofNat_lt hl) (Ad hl) (Ap5 hl) hb (by rw [e1,e2]; exact c1)),AT,A3 hl hn];exact AbT L a n f hn d (i+1) Aa q (by omega) (by omega)
def Jf (a:Int) (n:Nat) (f:Nat->E6):Int×Int :=
 match AN (DJ a f) n 0 with
 | some t=>match ieq (Ho a (f t)) 0 with
  | false=>(30,ofNat t)
  | true=>(5,ofNat t)
 | none=>match AN (GH n f) n 0 with
  | some t=>(41,ofNat t)
  | none=>(0,0)
def Am3:List V->A5
 | [.val (.int .i64 a),v]=>apL v λn f=>.br (Ct n) (out (.tup [iV (Jf a n f).1,iV (Jf a n f).2])) .fail
 | _=>.fail
theorem XI {a:Int} {v u:V} (h:∀ (S:Nat->Prop) (w:World) (c:Value),VR S w v noK c->VR S w u noK c):Ba [.val (.int .i64 a),v] [iV a,u]:=λS w cs hv=>by
 obtain ⟨c,l,rfl,q1,q2⟩:=hv;obtain ⟨c2,l2,rfl,q3,q4⟩:=q2;exact ⟨c,_,rfl,q1,c2,l2,rfl,h S w c2 q3,q4⟩
theorem p86:Ap Tryz.prog Gl 169 Am3:=by
 refine Ah A2 mixed Tryz.func169 (by kernel_rfl) (by kernel_rfl) λvs v h' h=>?_;unfold Am3 at h;split at h
 ·rename_i a u
  obtain ⟨n,f,ha,h1⟩:=CC h;obtain ⟨hn,hq⟩:=Ac h1;have:=Ab hq;simp only [Prod.mk.injEq] at this;obtain ⟨rfl,rfl⟩:=this;have hn:=E1 (G8 hn);have hx:=Bh tb86_ok [(0,lp86 a n f),(2,lp86_2 a n f)];have hL:=Bb [(0,lp86 a n f),(2,lp86_2 a n f)];have h0:=λL j=>Ai5 L a n f hn n 0 j (n+1) (by omega) (by omega);have h2:=λL j=>AbT L a n f hn n 0 j (n+1) (by omega) (by omega);refine ⟨_,AO Gl tb86 [(0,lp86 a n f),(2,lp86_2 a n f)],_,XI ha,rfl,hx.1,hx.2,?_,Am.refl _⟩;unfold Jf;cases c1:AN (DJ a f) n 0 with
  | some t =>
   rw [c1] at h0;cases c2:ieq (Ho a (f t)) 0 with
   | false =>simp only [c2] at h0 ⊢;exact AW (AX hL hL) _ (Ant _ _ a n f t (A4 (h0 _ _)))
   | true =>simp only [c2] at h0 ⊢;exact AW (AX hL hL) _ (Ans _ _ a n f t (A4 (h0 _ _)))
  | none =>
   rw [c1] at h0;cases c2:AN (GH n f) n 0 with
   | some t =>rw [c2] at h2;exact AW (AX (AX hL hL) hL) _ (Anr _ _ _ a n f 0 t (A4 (h0 _ _)) (A4 (h2 _ _)))
   | none =>rw [c2] at h2;exact AW (AX (AX hL hL) hL) _ (Anq _ _ _ a n f 0 0 (A4 (h0 _ _)) (A4 (h2 _ _)))
 ·cases h
def SG (n:Nat) (f:Nat->E6) (m:Nat) (l:Nat->Int) (k:Int) (w:Bool):Lp:=⟨bmK 38 0 [0,1,2,3,9,10],0,bmK 38 0 [9],0,n+1⟩
def Wl (n:Nat) (f:Nat->E6) (m:Nat) (l:Nat->Int) (k:Int) (w:Bool) (c:Int) (i:Nat) (j:Nat->V):St:=⟨jsV 38 0 j [(0,.sl 6 n (λi=>eV (f i))),(1,.sl 1 m (λk=>iV (l k))),(2,iV k),(3,bV w),(9,iV c),(10,nV i)],[]⟩
def Aed (n:Nat) (f:Nat->E6) (m:Nat) (l:Nat->Int) (k:Int) (w:Bool) (c:Int) (i:Nat):Ex×St:=(.ex 0,⟨jsV 38 0 Aa [(9,iV c)],[]⟩)
noncomputable def K6 (L:LT):St->T (Ex×St):=λst=>AA tab ⟨Aw tb0,L,Gl⟩ (As Tryz.f156 0) 0 st
section
variable (L:LT) (n:Nat) (f:Nat->E6) (m:Nat) (l:Nat->Int) (k:Int) (w:Bool) (c:Int) (i:Nat)  (j:Nat->V)
include L n f m l k w c i j
theorem Aoz (h0:ilt (ofNat i) (ofNat n)=false):Au (K6 L) (SG n f m l k w) (Wl n f m l k w c i j)=some ((.ex 0),⟨jsV 38 0 Aa [(9,iV c)],[]⟩):=by
 exact Ae (ks:=[kn h0]) (by kernel_rfl)
theorem Ao3 (h0:ilt (ofNat i) (ofNat n)=true) (h1:Al (ile 0 (ofNat i)) (ilt (ofNat i) (ofNat m))=true) (h2:ieq (l i) k=false):Au (K6 L) (SG n f m l k w) (Wl n f m l k w c i j)=some (.nm,⟨jsV 38 0 Aa [(0,.sl 6 n (λi=>eV (f i))),(1,.sl 1 m (λk=>iV (l k))),(2,iV k),(3,bV w),(9,iV c),(10,iV (wr .i64 (Ai (ofNat i) 1)))],[]⟩):=by
 exact Ae (ks:=[kn h0,kn h1,kn h2,kn h2,kn h2,kn h2,kn h2,kF]) (by kernel_rfl)
theorem Ao2 (h0:ilt (ofNat i) (ofNat n)=true) (h1:Al (ile 0 (ofNat i)) (ilt (ofNat i) (ofNat m))=true) (h2:ieq (l i) k=true) (h3:w=false):Au (K6 L) (SG n f m l k w) (Wl n f m l k w c i j)=some (.nm,⟨jsV 38 0 Aa [(0,.sl 6 n (λi=>eV (f i))),(1,.sl 1 m (λk=>iV (l k))),(2,iV k),(3,bV w),(9,iV (wr .i64 (Ai c 1))),(10,iV (wr .i64 (Ai (ofNat i) 1)))],[]⟩):=by
 exact Ae (ks:=[kn h0,kn h1,kn h2,kn h2,kn h2,kN (kn h3),kN (kn h3),kN (kn h3),kN (kn h3),kN (kn h3),kN (kn h3),kn h2,kN (kn h3),kn h2,kT]) (by kernel_rfl)
theorem Ao1 (h0:ilt (ofNat i) (ofNat n)=true) (h1:Al (ile 0 (ofNat i)) (ilt (ofNat i) (ofNat m))=true) (h2:ieq (l i) k=true) (h3:w=true) (h4:Al (ile 0 (ofNat i)) (ilt (ofNat i) (ofNat n))=true) (h5:ieq (f i).src 2=true):Au (K6 L) (SG n f m l k w) (Wl n f m l k w c i j)=some (.nm,⟨jsV 38 0 Aa [(0,.sl 6 n (λi=>eV (f i))),(1,.sl 1 m (λk=>iV (l k))),(2,iV k),(3,bV w),(9,iV (wr .i64 (Ai c 1))),(10,iV (wr .i64 (Ai (ofNat i) 1)))],[]⟩):=by
 exact Ae (ks:=[kn h0,kn h1,kn h2,kn h2,kn h2,kN (kn h3),kN (kn h3),kN (kn h3),kn h4,kN (kn h3),kN (kn h3),kN (kn h3),kn h2,kN (kn h3),kn h2,kn h5]) (by kernel_rfl)
theorem Ao0 (h0:ilt (ofNat i) (ofNat n)=true) (h1:Al (ile 0 (ofNat i)) (ilt (ofNat i) (ofNat m))=true) (h2:ieq (l i) k=true) (h3:w=true) (h4:Al (ile 0 (ofNat i)) (ilt (ofNat i) (ofNat n))=true) (h5:ieq (f i).src 2=false):Au (K6 L) (SG n f m l k w) (Wl n f m l k w c i j)=some (.nm,⟨jsV 38 0 Aa [(0,.sl 6 n (λi=>eV (f i))),(1,.sl 1 m (λk=>iV (l k))),(2,iV k),(3,bV w),(9,iV c),(10,iV (wr .i64 (Ai (ofNat i) 1)))],[]⟩):=by
 exact Ae (ks:=[kn h0,kn h1,kn h2,kn h2,kn h2,kN (kn h3),kN (kn h3),kN (kn h3),kn h4,kN (kn h3),kN (kn h3),kN (kn h3),kn h2,kN (kn h3),kn h2,kn h5]) (by kernel_rfl)
end
def AsC (n:Nat) (f:Nat->E6) (m:Nat) (l:Nat->Int) (k:Int) (w:Bool) :Nat->V:=lkV AK [(8,iV 0)]
theorem Arf (L:LT) (p0:PT) (n:Nat) (f:Nat->E6) (m:Nat) (l:Nat->Int) (k:Int) (w:Bool) (c:Int) (i:Nat)  (hp0:p0 (K6 (onP 0 p0 (Aed n f m l k w c i) L)) (Wl n f m l k w 0 0 (AsC n f m l k w ))=true):(A0 (Aj tab ⟨Aw tb0,onP 0 p0 (Aed n f m l k w c i) L,Gl⟩ Tryz.f156 [AI n f,F2 m l,iV k,bV w] [])).sem=some ((iV c),[]):=by
 exact Ae (ks:=[kn hp0]) (by kernel_rfl)
def isW (e:E6):Bool:=ieq e.src 2
def CH (l:Nat->Int) (c:Nat->Bool) (k:Int) (i:Nat):Bool:=Al (ieq (l i) k) (c i)
def MD (n:Nat) (l:Nat->Int) (c:Nat->Bool) (k:Int):Int:=ofNat (Ak (CH l c k) n)
def ofW (w:Bool) (f:Nat->E6) (i:Nat):Bool:=bor (AQ w) (isW (f i))
theorem Uu (L:LT) (n:Nat) (f:Nat->E6) (l:Nat->Int) (k:Int) (w:Bool) (hn:n <= 4611686018427387904):∀ (d i:Nat) (j:Nat->V) (q:Nat),n=i+d->d<q ->
  (Av (K6 L) (SG n f n l k w) q (Wl n f n l k w (ofNat (Ak (CH l (ofW w f) k) i)) i j)).sem=some (Aed n f n l k w (ofNat (Ak (CH l (ofW w f) k) n)) n)
 | 0,i,j,q+1,h,_=>by
  have:n=i:=by omega
  subst this;exact Af (Aoz L n f n l k w (ofNat (Ak (CH l (ofW w f) k) n)) n j (A1 (Nat.le_refl _)))
 | d+1,i,j,q+1,h,h2=>by
  have hl:i<n:=by omega
  have hc:=B2 (CH l (ofW w f) k) i;have yes:CH l (ofW w f) k i=true->wr .i64 (Ai (ofNat (Ak (CH l (ofW w f) k) i)) 1)=ofNat (Ak (CH l (ofW w f) k) (i+1)):=λh3=>by
   rw [A3 (show Ak (CH l (ofW w f) k) i<n by omega) hn,By h3]
  have no:CH l (ofW w f) k i=false->ofNat (Ak (CH l (ofW w f) k) i)=ofNat (Ak (CH l (ofW w f) k) (i+1)):=λh3=>by rw [BQ h3]
  cases c1:ieq (l i) k with
  | false =>rw [Af (Ao3 L n f n l k w (ofNat (Ak (CH l (ofW w f) k) i)) i j (ofNat_lt hl) (Ad hl) c1),AT,A3 hl hn,no (by rw [CH,c1]; rfl)];exact Uu L n f l k w hn d (i+1) Aa q (by omega) (by omega)
  | true =>
   cases c2:w with
   | false =>subst c2;rw [Af (Ao2 L n f n l k false (ofNat (Ak (CH l (ofW false f) k) i)) i j (ofNat_lt hl) (Ad hl) c1 rfl),AT,A3 hl hn,yes (by rw [CH,c1]; rfl)];exact Uu L n f l k false hn d (i+1) Aa q (by omega) (by omega)
   | true =>
    subst c2;cases c3:ieq (f i).src 2 with
    | true =>rw [Af (Ao1 L n f n l k true (ofNat (Ak (CH l (ofW true f) k) i)) i j (ofNat_lt hl) (Ad hl) c1 rfl (Ad hl) c3),AT,A3 hl hn,yes (by rw [CH,c1,ofW,isW,c3]; rfl)];exact Uu L n f l k true hn d (i+1) Aa q (by omega) (by omega)
    | false =>rw [Af (Ao0 L n f n l k true (ofNat (Ak (CH l (ofW true f) k) i)) i j (ofNat_lt hl) (Ad hl) c1 rfl (Ad hl) c3),AT,A3 hl hn,no (by rw [CH,c1,ofW,isW,c3]; rfl)];exact Uu L n f l k true hn d (i+1) Aa q (by omega) (by omega)
def Ae1:List V->A5
 | [v,u,.val (.int .i64 k),.val (.bool w)]=>apL v λn f=>apI u λm l=>.br (BN n m) (.br (Aq n) (out (iV (MD n l (λi=>bor (AQ w) (isW (f i))) k))) .fail) .fail
 | _=>.fail
theorem p96:Ap Tryz.prog Gl 156 Ae1:=by
 refine Ah A2 mixed Tryz.func156 (by kernel_rfl) (by kernel_rfl) λvs v h' h=>?_;unfold Ae1 at h;split at h
 ·rename_i v1 u1 k w
  obtain ⟨n,f,ha,h1⟩:=CC h;obtain ⟨m,l,hb,h2⟩:=El h1;obtain ⟨hm,h3⟩:=Ac h2;obtain ⟨hn,hq⟩:=Ac h3;have hm:n=m:=Nat.eq_of_beq_eq_true hm;subst hm;have:=Ab hq;simp only [Prod.mk.injEq] at this;obtain ⟨rfl,rfl⟩:=this;have hn:n <= 4611686018427387904:=of_decide_eq_true hn;have hA:Ba [v1,u1,.val (.int .i64 k),.val (.bool w)] [AI n f,F2 n l,iV k,bV w]:=λS w' cs hv=>by
   obtain ⟨c,l1,rfl,q1,c2,l2,rfl,q2,q3⟩:=hv;exact ⟨c,_,rfl,ha S w' c q1,c2,l2,rfl,hb S w' c2 q2,q3⟩
  have hx:=Bh Ca [(0,SG n f n l k w)];have hL:=Bb [(0,SG n f n l k w)];exact ⟨_,AO Gl tb0 [(0,SG n f n l k w)],_,hA,rfl,hx.1,hx.2,AW (AX hL hL) _ (Arf _ _ n f n l k w _ n (A4 (Uu _ n f l k w hn n 0 _ (n+1) (by omega) (by omega)))),Am.refl _⟩
 ·cases h
end Go.Proofs.YtkbafjceglhjhaaGreatDoor.Ed
