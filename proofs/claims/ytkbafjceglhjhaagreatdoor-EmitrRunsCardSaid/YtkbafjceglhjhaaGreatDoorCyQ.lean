/-
  Why one of some edges is not to be there; how many events have one number. No conditions.
-/
import Derived.Test.YtkbafjceglhjhaaGreatDoorShBa
namespace Go.Proofs.YtkbafjceglhjhaaGreatDoor.Ed
open Go.Sy
open Int (ofNat)
def Ea (a:Int) (f:Nat->E6) (i:Nat):Bool:=AV (Ak (ieq (Ho a (f i)) 0) (Kz a (f i)))
def GK (n:Nat) (f:Nat->E6) (i:Nat):Bool:=AV (ieq (f i).dst (f ((i+1) % n)).src)
noncomputable def tb86:AE:=(192,ap2 gI toE λa e=>out (OZ a e))::[]
theorem tb86_ok:Ar Tryz.prog Gl tb86:=.cons p32 .nil
theorem OJ {i n:Nat} (h:i<n) (hn:n <= 4611686018427387904):Av (wr .i64 (Ai (ofNat i) 1)) (ofNat n)=ofNat ((i+1) % n):=by rw [A5 h hn,E0]
theorem Aoe {i n:Nat} (h:i<n):ieq (ofNat n) 0=false:=by rw [show (0:Int)=ofNat 0 from rfl,Eg,decide_eq_false (by omega)]
def lp86 (_:Int) (n:Nat) (_:Nat->E6):Lp:=⟨bmK 53 0 [0,1,4,5,12,13,14],0,bmK 53 0 [1,4,5],0,n+1⟩
def RU (a:Int) (n:Nat) (f:Nat->E6) (i:Nat) (j:Nat->V):St:=⟨jsV 53 0 j [(0,iV a),(1,.sl 6 n (λi=>eV (f i))),(4,iV 0),(5,iV 0),(12,.sl 6 n (λi=>eV (f i))),(13,nV n),(14,nV i)],[]⟩
def P7 (_:Int) (n:Nat) (f:Nat->E6) (_:Nat):Ex×St:=(.ex 0,⟨jsV 53 0 Ab [(1,.sl 6 n (λi=>eV (f i))),(4,iV 0),(5,iV 0)],[]⟩)
def Ad1 (_:Int) (n:Nat) (f:Nat->E6) (i:Nat):Ex×St:=(.rt,⟨jsV 53 0 Ab [(1,.sl 6 n (λi=>eV (f i))),(4,iV 30),(5,nV i)],[]⟩)
def Ad0 (_:Int) (n:Nat) (f:Nat->E6) (i:Nat):Ex×St:=(.rt,⟨jsV 53 0 Ab [(1,.sl 6 n (λi=>eV (f i))),(4,iV 5),(5,nV i)],[]⟩)
noncomputable def Iv (L:LT):St->T (Ex×St):=λst=>AK tab ⟨A2 tb86,L,Gl⟩ (A3 Tryz.f169 0) 0 st
section
variable (L:LT) (a:Int) (n:Nat) (f:Nat->E6) (i:Nat)  (j:Nat->V)
include L a n f i j
theorem An1 (h0:ilt (ofNat i) (ofNat n)=false):A1 (Iv L) (lp86 a n f) (RU a n f i j)=some ((.ex 0),⟨jsV 53 0 Ab [(1,.sl 6 n (λi=>eV (f i))),(4,iV 0),(5,iV 0)],[]⟩):=by
 exact Af (ks:=[kn h0]) (by kernel_rfl)
theorem An0 (h0:ilt (ofNat i) (ofNat n)=true) (h1:Ak (ile 0 (ofNat i)) (ilt (ofNat i) (ofNat n))=true) (h2:ieq (Ho a (f i)) 0=false):A1 (Iv L) (lp86 a n f) (RU a n f i j)=some (.rt,⟨jsV 53 0 Ab [(1,.sl 6 n (λi=>eV (f i))),(4,iV 30),(5,nV i)],[]⟩):=by
 exact Af (ks:=[kn h0,kn h1,kN (kn h2)]) (by kernel_rfl)
theorem Anz (h0:ilt (ofNat i) (ofNat n)=true) (h1:Ak (ile 0 (ofNat i)) (ilt (ofNat i) (ofNat n))=true) (h2:ieq (Ho a (f i)) 0=true) (h3:Kz a (f i)=false):A1 (Iv L) (lp86 a n f) (RU a n f i j)=some (.rt,⟨jsV 53 0 Ab [(1,.sl 6 n (λi=>eV (f i))),(4,iV 5),(5,nV i)],[]⟩):=by
 exact Af (ks:=[kn h0,kn h1,kN (kn h2),kN (kn h3)]) (by kernel_rfl)
theorem Anx (h0:ilt (ofNat i) (ofNat n)=true) (h1:Ak (ile 0 (ofNat i)) (ilt (ofNat i) (ofNat n))=true) (h2:ieq (Ho a (f i)) 0=true) (h3:Kz a (f i)=true):A1 (Iv L) (lp86 a n f) (RU a n f i j)=some (.nm,⟨jsV 53 0 Ab [(0,iV a),(1,.sl 6 n (λi=>eV (f i))),(4,iV 0),(5,iV 0),(12,.sl 6 n (λi=>eV (f i))),(13,nV n),(14,iV (wr .i64 (Ai (ofNat i) 1)))],[]⟩):=by
 exact Af (ks:=[kn h0,kn h1,kN (kn h2),kN (kn h3)]) (by kernel_rfl)
end
def Ag1 (_:Int) (_:Nat) (_:Nat->E6) :Nat->V:=lkV AH []
def lp86_2 (_:Int) (n:Nat) (_:Nat->E6):Lp:=⟨bmK 53 0 [1,4,5,32,33,34],0,bmK 53 0 [4,5],0,n+1⟩
def Mn (_:Int) (n:Nat) (f:Nat->E6) (i:Nat) (j:Nat->V):St:=⟨jsV 53 0 j [(1,.sl 6 n (λi=>eV (f i))),(4,iV 0),(5,iV 0),(32,.sl 6 n (λi=>eV (f i))),(33,nV n),(34,nV i)],[]⟩
def NV (_:Int) (_:Nat) (_:Nat->E6) (_:Nat):Ex×St:=(.ex 2,⟨jsV 53 0 Ab [(4,iV 0),(5,iV 0)],[]⟩)
def NU (_:Int) (_:Nat) (_:Nat->E6) (i:Nat):Ex×St:=(.rt,⟨jsV 53 0 Ab [(4,iV 41),(5,nV i)],[]⟩)
noncomputable def HJ (L:LT):St->T (Ex×St):=λst=>AK tab ⟨A2 tb86,L,Gl⟩ (A3 Tryz.f169 2) 2 st
section
variable (L:LT) (a:Int) (n:Nat) (f:Nat->E6) (i:Nat)  (j:Nat->V)
include L a n f i j
theorem Ank (h0:ilt (ofNat i) (ofNat n)=false):A1 (HJ L) (lp86_2 a n f) (Mn a n f i j)=some ((.ex 2),⟨jsV 53 0 Ab [(4,iV 0),(5,iV 0)],[]⟩):=by
 exact Af (ks:=[kn h0]) (by kernel_rfl)
theorem Anj (h0:ilt (ofNat i) (ofNat n)=true) (h1:Ak (ile 0 (ofNat i)) (ilt (ofNat i) (ofNat n))=true) (h2:ieq (ofNat n) 0=false) (h3:Ak (ile 0 (Av (wr .i64 (Ai (ofNat i) 1)) (ofNat n))) (ilt (Av (wr .i64 (Ai (ofNat i) 1)) (ofNat n)) (ofNat n))=true) (h4:ieq (f i).dst (f (toN (Av (wr .i64 (Ai (ofNat i) 1)) (ofNat n)))).src=false):A1 (HJ L) (lp86_2 a n f) (Mn a n f i j)=some (.rt,⟨jsV 53 0 Ab [(4,iV 41),(5,nV i)],[]⟩):=by
 exact Af (ks:=[kn h0,kn h1,kn h2,kn h3,kN (kn h4)]) (by kernel_rfl)
theorem Ani (h0:ilt (ofNat i) (ofNat n)=true) (h1:Ak (ile 0 (ofNat i)) (ilt (ofNat i) (ofNat n))=true) (h2:ieq (ofNat n) 0=false) (h3:Ak (ile 0 (Av (wr .i64 (Ai (ofNat i) 1)) (ofNat n))) (ilt (Av (wr .i64 (Ai (ofNat i) 1)) (ofNat n)) (ofNat n))=true) (h4:ieq (f i).dst (f (toN (Av (wr .i64 (Ai (ofNat i) 1)) (ofNat n)))).src=true):A1 (HJ L) (lp86_2 a n f) (Mn a n f i j)=some (.nm,⟨jsV 53 0 Ab [(1,.sl 6 n (λi=>eV (f i))),(4,iV 0),(5,iV 0),(32,.sl 6 n (λi=>eV (f i))),(33,nV n),(34,iV (wr .i64 (Ai (ofNat i) 1)))],[]⟩):=by
 exact Af (ks:=[kn h0,kn h1,kn h2,kn h3,kN (kn h4)]) (by kernel_rfl)
end
def AcN (_:Int) (_:Nat) (_:Nat->E6) (_:Nat):Nat->V:=lkU 9007169189969869 []
section
variable (L:LT) (p0:PT) (a:Int) (n:Nat) (f:Nat->E6) (i:Nat)
include L p0 a n f i
theorem Amw  (hp0:p0 (Iv (onP 0 p0 (Ad1 a n f i) L)) (RU a n f 0 (Ag1 a n f ))=true):(Ay (Aj tab ⟨A2 tb86,onP 0 p0 (Ad1 a n f i) L,Gl⟩ Tryz.f169 [iV a,AN n f] [])).sem=some ((.tup [iV 30,nV i]),[]):=by
 exact Af (ks:=[kn hp0]) (by kernel_rfl)
theorem Amv  (hp0:p0 (Iv (onP 0 p0 (Ad0 a n f i) L)) (RU a n f 0 (Ag1 a n f ))=true):(Ay (Aj tab ⟨A2 tb86,onP 0 p0 (Ad0 a n f i) L,Gl⟩ Tryz.f169 [iV a,AN n f] [])).sem=some ((.tup [iV 5,nV i]),[]):=by
 exact Af (ks:=[kn hp0]) (by kernel_rfl)
end
section
variable (L:LT) (p0:PT) (p2:PT) (a:Int) (n:Nat) (f:Nat->E6) (i j:Nat)
include L p0 p2 a n f i j
theorem Amu  (hp0:p0 (Iv (onP 0 p0 (P7 a n f i) (onP 2 p2 (NU a n f j) L))) (RU a n f 0 (Ag1 a n f ))=true) (hp2:p2 (HJ (onP 0 p0 (P7 a n f i) (onP 2 p2 (NU a n f j) L))) (Mn a n f 0 (AcN a n f i))=true):(Ay (Aj tab ⟨A2 tb86,onP 0 p0 (P7 a n f i) (onP 2 p2 (NU a n f j) L),Gl⟩ Tryz.f169 [iV a,AN n f] [])).sem=some ((.tup [iV 41,nV j]),[]):=by
 exact Af (ks:=[kn hp0,kn hp2]) (by kernel_rfl)
theorem Amt  (hp0:p0 (Iv (onP 0 p0 (P7 a n f i) (onP 2 p2 (NV a n f j) L))) (RU a n f 0 (Ag1 a n f ))=true) (hp2:p2 (HJ (onP 0 p0 (P7 a n f i) (onP 2 p2 (NV a n f j) L))) (Mn a n f 0 (AcN a n f i))=true):(Ay (Aj tab ⟨A2 tb86,onP 0 p0 (P7 a n f i) (onP 2 p2 (NV a n f j) L),Gl⟩ Tryz.f169 [iV a,AN n f] [])).sem=some ((.tup [iV 0,iV 0]),[]):=by
 exact Af (ks:=[kn hp0,kn hp2]) (by kernel_rfl)
end
theorem Ah8 (L:LT) (a:Int) (n:Nat) (f:Nat->E6) (hn:n <= 4611686018427387904):∀ (d i:Nat) (j:Nat->V) (q:Nat),n=i+d->d<q ->
  (A4 (Iv L) (lp86 a n f) q (RU a n f i j)).sem=some (match AZ (Ea a f) d i with
   | none=>P7 a n f 0
   | some t=>match ieq (Ho a (f t)) 0 with
    | false=>Ad1 a n f t
    | true=>Ad0 a n f t)
 | 0,i,j,q+1,h,_=>by
  have:n=i:=by omega
  subst this;exact Ah (An1 L a n f n j (Az (Nat.le_refl _)))
 | d+1,i,j,q+1,h,h2=>by
  have hl:i<n:=by omega
  cases c1:ieq (Ho a (f i)) 0 with
  | false =>rw [FC (show Ea a f i=true by rw [Ea,c1]; rfl)];simp only [c1];exact Ah (An0 L a n f i j (ofNat_lt hl) (Ae hl) c1)
  | true =>
   cases c2:Kz a (f i) with
   | false =>rw [FC (show Ea a f i=true by rw [Ea,c1,c2]; rfl)];simp only [c1];exact Ah (Anz L a n f i j (ofNat_lt hl) (Ae hl) c1 c2)
   | true =>rw [FD (show Ea a f i=false by rw [Ea,c1,c2]; rfl),Ah (Anx L a n f i j (ofNat_lt hl) (Ae hl) c1 c2),AY,A5 hl hn];exact Ah8 L a n f hn d (i+1) Ab q (by omega) (by omega)
theorem Abv (L:LT) (a:Int) (n:Nat) (f:Nat->E6) (hn:n <= 4611686018427387904):∀ (d i:Nat) (j:Nat->V) (q:Nat),n=i+d->d<q ->
  (A4 (HJ L) (lp86_2 a n f) q (Mn a n f i j)).sem=some (match AZ (GK n f) d i with
   | none=>NV a n f 0
   | some t=>NU a n f t)
 | 0,i,j,q+1,h,_=>by
  have:n=i:=by omega
  subst this;exact Ah (Ank L a n f n j (Az (Nat.le_refl _)))
 | d+1,i,j,q+1,h,h2=>by
  have hl:i<n:=by omega
  have e1:=OJ hl hn;have hb:Ak (ile 0 (Av (wr .i64 (Ai (ofNat i) 1)) (ofNat n))) (ilt (Av (wr .i64 (Ai (ofNat i) 1)) (ofNat n)) (ofNat n))=true:=by
   rw [e1]; exact Ae (Nat.mod_lt _ (by omega))
  have e2:toN (ofNat ((i+1) % n))=(i+1) % n:=rfl;cases c1:ieq (f i).dst (f ((i+1) % n)).src with
  | false =>rw [FC (show GK n f i=true by rw [GK,c1]; rfl)];exact Ah (Anj L a n f i j (ofNat_lt hl) (Ae hl) (Aoe hl) hb (by rw [e1,e2]; exact c1))
  | true =>rw [FD (show GK n f i=false by rw [GK,c1]; rfl),Ah (Ani L a n f i j (ofNat_lt hl) (Ae hl) (Aoe hl) hb (by rw [e1,e2]; exact c1)),AY,A5 hl hn];exact Abv L a n f hn d (i+1) Ab q (by omega) (by omega)
def Ji (a:Int) (n:Nat) (f:Nat->E6):Int×Int :=
 match AZ (Ea a f) n 0 with
 | some t=>match ieq (Ho a (f t)) 0 with
  | false=>(30,ofNat t)
  | true=>(5,ofNat t)
 | none=>match AZ (GK n f) n 0 with
  | some t=>(41,ofNat t)
  | none=>(0,0)
def AlG:List V->AA
 | [.val (.int .i64 a),v]=>apL v λn f=>.br (Dg n) (out (.tup [iV (Ji a n f).1,iV (Ji a n f).2])) .fail
 | _=>.fail
theorem Xu {a:Int} {v u:V} (h:∀ (S:Nat->Prop) (w:World) (c:Value),VR S w v noK c->VR S w u noK c):Bw [.val (.int .i64 a),v] [iV a,u]:=λS w cs hv=>by
 obtain ⟨c,l,rfl,q1,q2⟩:=hv;obtain ⟨c2,l2,rfl,q3,q4⟩:=q2;exact ⟨c,_,rfl,q1,c2,l2,rfl,h S w c2 q3,q4⟩
theorem p86:As Tryz.prog Gl 169 AlG:=by
 refine Am A0 mixed Tryz.func169 (by kernel_rfl) (by kernel_rfl) λvs v h' h=>?_;unfold AlG at h;split at h
 ·rename_i a u
  obtain ⟨n,f,ha,h1⟩:=CG h;obtain ⟨hn,hq⟩:=Ad h1;have:=Aa hq;simp only [Prod.mk.injEq] at this;obtain ⟨rfl,rfl⟩:=this;have hn:=E9 (Ht hn);have hx:=Bs tb86_ok [(0,lp86 a n f),(2,lp86_2 a n f)];have hL:=Bq [(0,lp86 a n f),(2,lp86_2 a n f)];have h0:=λL j=>Ah8 L a n f hn n 0 j (n+1) (by omega) (by omega);have h2:=λL j=>Abv L a n f hn n 0 j (n+1) (by omega) (by omega);refine ⟨_,AT Gl tb86 [(0,lp86 a n f),(2,lp86_2 a n f)],_,Xu ha,rfl,hx.1,hx.2,?_,Aw.refl _⟩;unfold Ji;cases c1:AZ (Ea a f) n 0 with
  | some t =>
   rw [c1] at h0;cases c2:ieq (Ho a (f t)) 0 with
   | false =>simp only [c2] at h0 ⊢;exact Bp (Bm hL hL) _ (Amw _ _ a n f t (AB (h0 _ _)))
   | true =>simp only [c2] at h0 ⊢;exact Bp (Bm hL hL) _ (Amv _ _ a n f t (AB (h0 _ _)))
  | none =>
   rw [c1] at h0;cases c2:AZ (GK n f) n 0 with
   | some t =>rw [c2] at h2;exact Bp (Bm (Bm hL hL) hL) _ (Amu _ _ _ a n f 0 t (AB (h0 _ _)) (AB (h2 _ _)))
   | none =>rw [c2] at h2;exact Bp (Bm (Bm hL hL) hL) _ (Amt _ _ _ a n f 0 0 (AB (h0 _ _)) (AB (h2 _ _)))
 ·cases h
def S4 (n:Nat) (_:Nat->E6) (_:Nat) (_:Nat->Int) (_:Int) (_:Bool):Lp:=⟨bmK 38 0 [0,1,2,3,9,10],0,bmK 38 0 [9],0,n+1⟩
def VS (n:Nat) (f:Nat->E6) (m:Nat) (l:Nat->Int) (k:Int) (w:Bool) (c:Int) (i:Nat) (j:Nat->V):St:=⟨jsV 38 0 j [(0,.sl 6 n (λi=>eV (f i))),(1,.sl 1 m (λk=>iV (l k))),(2,iV k),(3,bV w),(9,iV c),(10,nV i)],[]⟩
def Adz (_:Nat) (_:Nat->E6) (_:Nat) (_:Nat->Int) (_:Int) (_:Bool) (c:Int) (_:Nat):Ex×St:=(.ex 0,⟨jsV 38 0 Ab [(9,iV c)],[]⟩)
noncomputable def KD (L:LT):St->T (Ex×St):=λst=>AK tab ⟨A2 tb0,L,Gl⟩ (A3 Tryz.f156 0) 0 st
section
variable (L:LT) (n:Nat) (f:Nat->E6) (m:Nat) (l:Nat->Int) (k:Int) (w:Bool) (c:Int) (i:Nat)  (j:Nat->V)
include L n f m l k w c i j
theorem Ano (h0:ilt (ofNat i) (ofNat n)=false):A1 (KD L) (S4 n f m l k w) (VS n f m l k w c i j)=some ((.ex 0),⟨jsV 38 0 Ab [(9,iV c)],[]⟩):=by
 exact Af (ks:=[kn h0]) (by kernel_rfl)
theorem Ans (h0:ilt (ofNat i) (ofNat n)=true) (h1:Ak (ile 0 (ofNat i)) (ilt (ofNat i) (ofNat m))=true) (h2:ieq (l i) k=false):A1 (KD L) (S4 n f m l k w) (VS n f m l k w c i j)=some (.nm,⟨jsV 38 0 Ab [(0,.sl 6 n (λi=>eV (f i))),(1,.sl 1 m (λk=>iV (l k))),(2,iV k),(3,bV w),(9,iV c),(10,iV (wr .i64 (Ai (ofNat i) 1)))],[]⟩):=by
 exact Af (ks:=[kn h0,kn h1,kn h2,kn h2,kn h2,kn h2,kn h2,kF]) (by kernel_rfl)
theorem Anr (h0:ilt (ofNat i) (ofNat n)=true) (h1:Ak (ile 0 (ofNat i)) (ilt (ofNat i) (ofNat m))=true) (h2:ieq (l i) k=true) (h3:w=false):A1 (KD L) (S4 n f m l k w) (VS n f m l k w c i j)=some (.nm,⟨jsV 38 0 Ab [(0,.sl 6 n (λi=>eV (f i))),(1,.sl 1 m (λk=>iV (l k))),(2,iV k),(3,bV w),(9,iV (wr .i64 (Ai c 1))),(10,iV (wr .i64 (Ai (ofNat i) 1)))],[]⟩):=by
 exact Af (ks:=[kn h0,kn h1,kn h2,kn h2,kn h2,kN (kn h3),kN (kn h3),kN (kn h3),kN (kn h3),kN (kn h3),kN (kn h3),kn h2,kN (kn h3),kn h2,kT]) (by kernel_rfl)
theorem Anq (h0:ilt (ofNat i) (ofNat n)=true) (h1:Ak (ile 0 (ofNat i)) (ilt (ofNat i) (ofNat m))=true) (h2:ieq (l i) k=true) (h3:w=true) (h4:Ak (ile 0 (ofNat i)) (ilt (ofNat i) (ofNat n))=true) (h5:ieq (f i).src 2=true):A1 (KD L) (S4 n f m l k w) (VS n f m l k w c i j)=some (.nm,⟨jsV 38 0 Ab [(0,.sl 6 n (λi=>eV (f i))),(1,.sl 1 m (λk=>iV (l k))),(2,iV k),(3,bV w),(9,iV (wr .i64 (Ai c 1))),(10,iV (wr .i64 (Ai (ofNat i) 1)))],[]⟩):=by
 exact Af (ks:=[kn h0,kn h1,kn h2,kn h2,kn h2,kN (kn h3),kN (kn h3),kN (kn h3),kn h4,kN (kn h3),kN (kn h3),kN (kn h3),kn h2,kN (kn h3),kn h2,kn h5]) (by kernel_rfl)
theorem Anp (h0:ilt (ofNat i) (ofNat n)=true) (h1:Ak (ile 0 (ofNat i)) (ilt (ofNat i) (ofNat m))=true) (h2:ieq (l i) k=true) (h3:w=true) (h4:Ak (ile 0 (ofNat i)) (ilt (ofNat i) (ofNat n))=true) (h5:ieq (f i).src 2=false):A1 (KD L) (S4 n f m l k w) (VS n f m l k w c i j)=some (.nm,⟨jsV 38 0 Ab [(0,.sl 6 n (λi=>eV (f i))),(1,.sl 1 m (λk=>iV (l k))),(2,iV k),(3,bV w),(9,iV c),(10,iV (wr .i64 (Ai (ofNat i) 1)))],[]⟩):=by
 exact Af (ks:=[kn h0,kn h1,kn h2,kn h2,kn h2,kN (kn h3),kN (kn h3),kN (kn h3),kn h4,kN (kn h3),kN (kn h3),kN (kn h3),kn h2,kN (kn h3),kn h2,kn h5]) (by kernel_rfl)
end
def AqD (_:Nat) (_:Nat->E6) (_:Nat) (_:Nat->Int) (_:Int) (_:Bool) :Nat->V:=lkV AH [(8,iV 0)]
theorem ApJ (L:LT) (p0:PT) (n:Nat) (f:Nat->E6) (m:Nat) (l:Nat->Int) (k:Int) (w:Bool) (c:Int) (i:Nat)  (hp0:p0 (KD (onP 0 p0 (Adz n f m l k w c i) L)) (VS n f m l k w 0 0 (AqD n f m l k w ))=true):(Ay (Aj tab ⟨A2 tb0,onP 0 p0 (Adz n f m l k w c i) L,Gl⟩ Tryz.f156 [AN n f,F6 m l,iV k,bV w] [])).sem=some ((iV c),[]):=by
 exact Af (ks:=[kn hp0]) (by kernel_rfl)
def isW (e:E6):Bool:=ieq e.src 2
def CP (l:Nat->Int) (c:Nat->Bool) (k:Int) (i:Nat):Bool:=Ak (ieq (l i) k) (c i)
def MJ (n:Nat) (l:Nat->Int) (c:Nat->Bool) (k:Int):Int:=ofNat (Al (CP l c k) n)
def ofW (w:Bool) (f:Nat->E6) (i:Nat):Bool:=bor (AV w) (isW (f i))
theorem Uk (L:LT) (n:Nat) (f:Nat->E6) (l:Nat->Int) (k:Int) (w:Bool) (hn:n <= 4611686018427387904):∀ (d i:Nat) (j:Nat->V) (q:Nat),n=i+d->d<q ->
  (A4 (KD L) (S4 n f n l k w) q (VS n f n l k w (ofNat (Al (CP l (ofW w f) k) i)) i j)).sem=some (Adz n f n l k w (ofNat (Al (CP l (ofW w f) k) n)) n)
 | 0,i,j,q+1,h,_=>by
  have:n=i:=by omega
  subst this;exact Ah (Ano L n f n l k w (ofNat (Al (CP l (ofW w f) k) n)) n j (Az (Nat.le_refl _)))
 | d+1,i,j,q+1,h,h2=>by
  have hl:i<n:=by omega
  have hc:=BI (CP l (ofW w f) k) i;have yes:CP l (ofW w f) k i=true->wr .i64 (Ai (ofNat (Al (CP l (ofW w f) k) i)) 1)=ofNat (Al (CP l (ofW w f) k) (i+1)):=λh3=>by
   rw [A5 (show Al (CP l (ofW w f) k) i<n by omega) hn,Bz h3]
  have no:CP l (ofW w f) k i=false->ofNat (Al (CP l (ofW w f) k) i)=ofNat (Al (CP l (ofW w f) k) (i+1)):=λh3=>by rw [BL h3]
  cases c1:ieq (l i) k with
  | false =>rw [Ah (Ans L n f n l k w (ofNat (Al (CP l (ofW w f) k) i)) i j (ofNat_lt hl) (Ae hl) c1),AY,A5 hl hn,no (by rw [CP,c1]; rfl)];exact Uk L n f l k w hn d (i+1) Ab q (by omega) (by omega)
  | true =>
   cases c2:w with
   | false =>subst c2;rw [Ah (Anr L n f n l k false (ofNat (Al (CP l (ofW false f) k) i)) i j (ofNat_lt hl) (Ae hl) c1 rfl),AY,A5 hl hn,yes (by rw [CP,c1]; rfl)];exact Uk L n f l k false hn d (i+1) Ab q (by omega) (by omega)
   | true =>
    subst c2;cases c3:ieq (f i).src 2 with
    | true =>rw [Ah (Anq L n f n l k true (ofNat (Al (CP l (ofW true f) k) i)) i j (ofNat_lt hl) (Ae hl) c1 rfl (Ae hl) c3),AY,A5 hl hn,yes (by rw [CP,c1,ofW,isW,c3]; rfl)];exact Uk L n f l k true hn d (i+1) Ab q (by omega) (by omega)
    | false =>rw [Ah (Anp L n f n l k true (ofNat (Al (CP l (ofW true f) k) i)) i j (ofNat_lt hl) (Ae hl) c1 rfl (Ae hl) c3),AY,A5 hl hn,no (by rw [CP,c1,ofW,isW,c3]; rfl)];exact Uk L n f l k true hn d (i+1) Ab q (by omega) (by omega)
def AdK:List V->AA
 | [v,u,.val (.int .i64 k),.val (.bool w)]=>apL v λn f=>apI u λm l=>.br (BY n m) (.br (Au n) (out (iV (MJ n l (λi=>bor (AV w) (isW (f i))) k))) .fail) .fail
 | _=>.fail
theorem p96:As Tryz.prog Gl 156 AdK:=by
 refine Am A0 mixed Tryz.func156 (by kernel_rfl) (by kernel_rfl) λvs v h' h=>?_;unfold AdK at h;split at h
 ·rename_i v1 u1 k w
  obtain ⟨n,f,ha,h1⟩:=CG h;obtain ⟨m,l,hb,h2⟩:=FG h1;obtain ⟨hm,h3⟩:=Ad h2;obtain ⟨hn,hq⟩:=Ad h3;have hm:n=m:=Nat.eq_of_beq_eq_true hm;subst hm;have:=Aa hq;simp only [Prod.mk.injEq] at this;obtain ⟨rfl,rfl⟩:=this;have hn:n <= 4611686018427387904:=of_decide_eq_true hn;have hA:Bw [v1,u1,.val (.int .i64 k),.val (.bool w)] [AN n f,F6 n l,iV k,bV w]:=λS w' cs hv=>by
   obtain ⟨c,l1,rfl,q1,c2,l2,rfl,q2,q3⟩:=hv;exact ⟨c,_,rfl,ha S w' c q1,c2,l2,rfl,hb S w' c2 q2,q3⟩
  have hx:=Bs C5 [(0,S4 n f n l k w)];have hL:=Bq [(0,S4 n f n l k w)];exact ⟨_,AT Gl tb0 [(0,S4 n f n l k w)],_,hA,rfl,hx.1,hx.2,Bp (Bm hL hL) _ (ApJ _ _ n f n l k w _ n (AB (Uk _ n f l k w hn n 0 _ (n+1) (by omega) (by omega)))),Aw.refl _⟩
 ·cases h
end Go.Proofs.YtkbafjceglhjhaaGreatDoor.Ed
