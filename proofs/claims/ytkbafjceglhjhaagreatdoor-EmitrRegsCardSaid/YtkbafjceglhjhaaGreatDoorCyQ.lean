/-
  Why one of some edges is not to be there; how many events have one number. No conditions.
-/
import Derived.Test.YtkbafjceglhjhaaGreatDoorShBa
namespace Go.Proofs.YtkbafjceglhjhaaGreatDoor.Ed
open Go.Sy
open Int (ofNat)
def Do (a:Int) (f:Nat->E6) (i:Nat):Bool:=AN (Aj (ieq (Gn a (f i)) 0) (Jd a (f i)))
def FH (n:Nat) (f:Nat->E6) (i:Nat):Bool:=AN (ieq (f i).dst (f ((i+1) % n)).src)
noncomputable def Rr:AM:=(192,ap2 gI toE λa e=>out (Nj a e))::[]
theorem Abk:Ar Tryz.prog Gl Rr:=.cons p32 .nil
theorem MQ {i n:Nat} (h:i<n) (hn:n <= 4611686018427387904):An (wr .i64 (Ah (ofNat i) 1)) (ofNat n)=ofNat ((i+1) % n):=by rw [A1 h hn,DD]
theorem Aj8 {i n:Nat} (h:i<n):ieq (ofNat n) 0=false:=by rw [show (0:Int)=ofNat 0 from rfl,Dw,decide_eq_false (by omega)]
def lp86 (a:Int) (n:Nat) (f:Nat->E6):Lp:=⟨bmK 53 0 [0,1,4,5,12,13,14],0,bmK 53 0 [1,4,5],0,n+1⟩
def PC (a:Int) (n:Nat) (f:Nat->E6) (i:Nat) (j:Nat->V):St:=⟨jsV 53 0 j [(0,iV a),(1,.sl 6 n (λi=>eV (f i))),(4,iV 0),(5,iV 0),(12,.sl 6 n (λi=>eV (f i))),(13,nV n),(14,nV i)],[]⟩
def NG (a:Int) (n:Nat) (f:Nat->E6) (i:Nat):Ex×St:=(.ex 0,⟨jsV 53 0 Ab [(1,.sl 6 n (λi=>eV (f i))),(4,iV 0),(5,iV 0)],[]⟩)
def Aaj (a:Int) (n:Nat) (f:Nat->E6) (i:Nat):Ex×St:=(.rt,⟨jsV 53 0 Ab [(1,.sl 6 n (λi=>eV (f i))),(4,iV 30),(5,nV i)],[]⟩)
def Aai (a:Int) (n:Nat) (f:Nat->E6) (i:Nat):Ex×St:=(.rt,⟨jsV 53 0 Ab [(1,.sl 6 n (λi=>eV (f i))),(4,iV 5),(5,nV i)],[]⟩)
noncomputable def Hp (L:LT):St->T (Ex×St):=λst=>AL tab ⟨A0 Rr,L,Gl⟩ (A3 Tryz.f169 0) 0 st
section
variable (L:LT) (a:Int) (n:Nat) (f:Nat->E6) (i:Nat)  (j:Nat->V)
include L a n f i j
theorem Aja (h0:ilt (ofNat i) (ofNat n)=false):Ay (Hp L) (lp86 a n f) (PC a n f i j)=some ((.ex 0),⟨jsV 53 0 Ab [(1,.sl 6 n (λi=>eV (f i))),(4,iV 0),(5,iV 0)],[]⟩):=by
 exact Ad (ks:=[kn h0]) (by kernel_rfl)
theorem AiZ (h0:ilt (ofNat i) (ofNat n)=true) (h1:Aj (ile 0 (ofNat i)) (ilt (ofNat i) (ofNat n))=true) (h2:ieq (Gn a (f i)) 0=false):Ay (Hp L) (lp86 a n f) (PC a n f i j)=some (.rt,⟨jsV 53 0 Ab [(1,.sl 6 n (λi=>eV (f i))),(4,iV 30),(5,nV i)],[]⟩):=by
 exact Ad (ks:=[kn h0,kn h1,kN (kn h2)]) (by kernel_rfl)
theorem AiY (h0:ilt (ofNat i) (ofNat n)=true) (h1:Aj (ile 0 (ofNat i)) (ilt (ofNat i) (ofNat n))=true) (h2:ieq (Gn a (f i)) 0=true) (h3:Jd a (f i)=false):Ay (Hp L) (lp86 a n f) (PC a n f i j)=some (.rt,⟨jsV 53 0 Ab [(1,.sl 6 n (λi=>eV (f i))),(4,iV 5),(5,nV i)],[]⟩):=by
 exact Ad (ks:=[kn h0,kn h1,kN (kn h2),kN (kn h3)]) (by kernel_rfl)
theorem AiX (h0:ilt (ofNat i) (ofNat n)=true) (h1:Aj (ile 0 (ofNat i)) (ilt (ofNat i) (ofNat n))=true) (h2:ieq (Gn a (f i)) 0=true) (h3:Jd a (f i)=true):Ay (Hp L) (lp86 a n f) (PC a n f i j)=some (.nm,⟨jsV 53 0 Ab [(0,iV a),(1,.sl 6 n (λi=>eV (f i))),(4,iV 0),(5,iV 0),(12,.sl 6 n (λi=>eV (f i))),(13,nV n),(14,iV (wr .i64 (Ah (ofNat i) 1)))],[]⟩):=by
 exact Ad (ks:=[kn h0,kn h1,kN (kn h2),kN (kn h3)]) (by kernel_rfl)
end
def AcS (a:Int) (n:Nat) (f:Nat->E6) :Nat->V:=lkV AI []
def lp86_2 (a:Int) (n:Nat) (f:Nat->E6):Lp:=⟨bmK 53 0 [1,4,5,32,33,34],0,bmK 53 0 [4,5],0,n+1⟩
def KC (a:Int) (n:Nat) (f:Nat->E6) (i:Nat) (j:Nat->V):St:=⟨jsV 53 0 j [(1,.sl 6 n (λi=>eV (f i))),(4,iV 0),(5,iV 0),(32,.sl 6 n (λi=>eV (f i))),(33,nV n),(34,nV i)],[]⟩
def Mk (a:Int) (n:Nat) (f:Nat->E6) (i:Nat):Ex×St:=(.ex 2,⟨jsV 53 0 Ab [(4,iV 0),(5,iV 0)],[]⟩)
def Mj (a:Int) (n:Nat) (f:Nat->E6) (i:Nat):Ex×St:=(.rt,⟨jsV 53 0 Ab [(4,iV 41),(5,nV i)],[]⟩)
noncomputable def GH (L:LT):St->T (Ex×St):=λst=>AL tab ⟨A0 Rr,L,Gl⟩ (A3 Tryz.f169 2) 2 st
section
variable (L:LT) (a:Int) (n:Nat) (f:Nat->E6) (i:Nat)  (j:Nat->V)
include L a n f i j
theorem AiK (h0:ilt (ofNat i) (ofNat n)=false):Ay (GH L) (lp86_2 a n f) (KC a n f i j)=some ((.ex 2),⟨jsV 53 0 Ab [(4,iV 0),(5,iV 0)],[]⟩):=by
 exact Ad (ks:=[kn h0]) (by kernel_rfl)
theorem AiJ (h0:ilt (ofNat i) (ofNat n)=true) (h1:Aj (ile 0 (ofNat i)) (ilt (ofNat i) (ofNat n))=true) (h2:ieq (ofNat n) 0=false) (h3:Aj (ile 0 (An (wr .i64 (Ah (ofNat i) 1)) (ofNat n))) (ilt (An (wr .i64 (Ah (ofNat i) 1)) (ofNat n)) (ofNat n))=true) (h4:ieq (f i).dst (f (toN (An (wr .i64 (Ah (ofNat i) 1)) (ofNat n)))).src=false):Ay (GH L) (lp86_2 a n f) (KC a n f i j)=some (.rt,⟨jsV 53 0 Ab [(4,iV 41),(5,nV i)],[]⟩):=by
 exact Ad (ks:=[kn h0,kn h1,kn h2,kn h3,kN (kn h4)]) (by kernel_rfl)
theorem AiI (h0:ilt (ofNat i) (ofNat n)=true) (h1:Aj (ile 0 (ofNat i)) (ilt (ofNat i) (ofNat n))=true) (h2:ieq (ofNat n) 0=false) (h3:Aj (ile 0 (An (wr .i64 (Ah (ofNat i) 1)) (ofNat n))) (ilt (An (wr .i64 (Ah (ofNat i) 1)) (ofNat n)) (ofNat n))=true) (h4:ieq (f i).dst (f (toN (An (wr .i64 (Ah (ofNat i) 1)) (ofNat n)))).src=true):Ay (GH L) (lp86_2 a n f) (KC a n f i j)=some (.nm,⟨jsV 53 0 Ab [(1,.sl 6 n (λi=>eV (f i))),(4,iV 0),(5,iV 0),(32,.sl 6 n (λi=>eV (f i))),(33,nV n),(34,iV (wr .i64 (Ah (ofNat i) 1)))],[]⟩):=by
 exact Ad (ks:=[kn h0,kn h1,kn h2,kn h3,kN (kn h4)]) (by kernel_rfl)
end
def ZE (a:Int) (n:Nat) (f:Nat->E6) (i:Nat):Nat->V:=lkU 9007169189969869 []
section
variable (L:LT) (p0:PT) (a:Int) (n:Nat) (f:Nat->E6) (i:Nat)
include L p0 a n f i
theorem Aij  (hp0:p0 (Hp (onP 0 p0 (Aaj a n f i) L)) (PC a n f 0 (AcS a n f ))=true):(Ax (Ak tab ⟨A0 Rr,onP 0 p0 (Aaj a n f i) L,Gl⟩ Tryz.f169 [iV a,AC n f] [])).sem=some ((.tup [iV 30,nV i]),[]):=by
 exact Ad (ks:=[kn hp0]) (by kernel_rfl)
theorem Aii  (hp0:p0 (Hp (onP 0 p0 (Aai a n f i) L)) (PC a n f 0 (AcS a n f ))=true):(Ax (Ak tab ⟨A0 Rr,onP 0 p0 (Aai a n f i) L,Gl⟩ Tryz.f169 [iV a,AC n f] [])).sem=some ((.tup [iV 5,nV i]),[]):=by
 exact Ad (ks:=[kn hp0]) (by kernel_rfl)
end
section
variable (L:LT) (p0:PT) (p2:PT) (a:Int) (n:Nat) (f:Nat->E6) (i j:Nat)
include L p0 p2 a n f i j
theorem Aih  (hp0:p0 (Hp (onP 0 p0 (NG a n f i) (onP 2 p2 (Mj a n f j) L))) (PC a n f 0 (AcS a n f ))=true) (hp2:p2 (GH (onP 0 p0 (NG a n f i) (onP 2 p2 (Mj a n f j) L))) (KC a n f 0 (ZE a n f i))=true):(Ax (Ak tab ⟨A0 Rr,onP 0 p0 (NG a n f i) (onP 2 p2 (Mj a n f j) L),Gl⟩ Tryz.f169 [iV a,AC n f] [])).sem=some ((.tup [iV 41,nV j]),[]):=by
 exact Ad (ks:=[kn hp0,kn hp2]) (by kernel_rfl)
theorem Aig  (hp0:p0 (Hp (onP 0 p0 (NG a n f i) (onP 2 p2 (Mk a n f j) L))) (PC a n f 0 (AcS a n f ))=true) (hp2:p2 (GH (onP 0 p0 (NG a n f i) (onP 2 p2 (Mk a n f j) L))) (KC a n f 0 (ZE a n f i))=true):(Ax (Ak tab ⟨A0 Rr,onP 0 p0 (NG a n f i) (onP 2 p2 (Mk a n f j) L),Gl⟩ Tryz.f169 [iV a,AC n f] [])).sem=some ((.tup [iV 0,iV 0]),[]):=by
 exact Ad (ks:=[kn hp0,kn hp2]) (by kernel_rfl)
end
theorem AdS (L:LT) (a:Int) (n:Nat) (f:Nat->E6) (hn:n <= 4611686018427387904):∀ (d i:Nat) (j:Nat->V) (q:Nat),n=i+d->d<q ->
  (A4 (Hp L) (lp86 a n f) q (PC a n f i j)).sem=some (match AQ (Do a f) d i with
   | none=>NG a n f 0
   | some t=>match ieq (Gn a (f t)) 0 with
    | false=>Aaj a n f t
    | true=>Aai a n f t)
 | 0,i,j,q+1,h,_=>by
  have:n=i:=by omega
  subst this;exact Ag (Aja L a n f n j (Au (Nat.le_refl _)))
 | d+1,i,j,q+1,h,h2=>by
  have hl:i<n:=by omega
  cases c1:ieq (Gn a (f i)) 0 with
  | false =>rw [EN (show Do a f i=true by rw [Do,c1]; rfl)];simp only [c1];exact Ag (AiZ L a n f i j (ofNat_lt hl) (Ae hl) c1)
  | true =>
   cases c2:Jd a (f i) with
   | false =>rw [EN (show Do a f i=true by rw [Do,c1,c2]; rfl)];simp only [c1];exact Ag (AiY L a n f i j (ofNat_lt hl) (Ae hl) c1 c2)
   | true =>rw [EO (show Do a f i=false by rw [Do,c1,c2]; rfl),Ag (AiX L a n f i j (ofNat_lt hl) (Ae hl) c1 c2),AZ,A1 hl hn];exact AdS L a n f hn d (i+1) Ab q (by omega) (by omega)
theorem YE (L:LT) (a:Int) (n:Nat) (f:Nat->E6) (hn:n <= 4611686018427387904):∀ (d i:Nat) (j:Nat->V) (q:Nat),n=i+d->d<q ->
  (A4 (GH L) (lp86_2 a n f) q (KC a n f i j)).sem=some (match AQ (FH n f) d i with
   | none=>Mk a n f 0
   | some t=>Mj a n f t)
 | 0,i,j,q+1,h,_=>by
  have:n=i:=by omega
  subst this;exact Ag (AiK L a n f n j (Au (Nat.le_refl _)))
 | d+1,i,j,q+1,h,h2=>by
  have hl:i<n:=by omega
  have e1:=MQ hl hn;have hb:Aj (ile 0 (An (wr .i64 (Ah (ofNat i) 1)) (ofNat n))) (ilt (An (wr .i64 (Ah (ofNat i) 1)) (ofNat n)) (ofNat n))=true:=by
   rw [e1]; exact Ae (Nat.mod_lt _ (by omega))
  have e2:toN (ofNat ((i+1) % n))=(i+1) % n:=rfl;cases c1:ieq (f i).dst (f ((i+1) % n)).src with
  | false =>rw [EN (show FH n f i=true by rw [FH,c1]; rfl)];exact Ag (AiJ L a n f i j (ofNat_lt hl) (Ae hl) (Aj8 hl) hb (by rw [e1,e2]; exact c1))
  | true =>rw [EO (show FH n f i=false by rw [FH,c1]; rfl),Ag (AiI L a n f i j (ofNat_lt hl) (Ae hl) (Aj8 hl) hb (by rw [e1,e2]; exact c1)),AZ,A1 hl hn];exact YE L a n f hn d (i+1) Ab q (by omega) (by omega)
def HU (a:Int) (n:Nat) (f:Nat->E6):Int×Int :=
 match AQ (Do a f) n 0 with
 | some t=>match ieq (Gn a (f t)) 0 with
  | false=>(30,ofNat t)
  | true=>(5,ofNat t)
 | none=>match AQ (FH n f) n 0 with
  | some t=>(41,ofNat t)
  | none=>(0,0)
def Ah6:List V->A9
 | [.val (.int .i64 a),v]=>apL v λn f=>.br (CJ n) (out (.tup [iV (HU a n f).1,iV (HU a n f).2])) .fail
 | _=>.fail
theorem UY {a:Int} {v u:V} (h:∀ (S:Nat->Prop) (w:World) (c:Value),VR S w v noK c->VR S w u noK c):BC [.val (.int .i64 a),v] [iV a,u]:=λS w cs hv=>by
 obtain ⟨c,l,rfl,q1,q2⟩:=hv;obtain ⟨c2,l2,rfl,q3,q4⟩:=q2;exact ⟨c,_,rfl,q1,c2,l2,rfl,h S w c2 q3,q4⟩
theorem p86:As Tryz.prog Gl 169 Ah6:=by
 refine Am A8 mixed Tryz.func169 (by kernel_rfl) (by kernel_rfl) λvs v h' h=>?_;unfold Ah6 at h;split at h
 ·rename_i a u
  obtain ⟨n,f,ha,h1⟩:=Ck h;obtain ⟨hn,hq⟩:=Ac h1;have:=Aa hq;simp only [Prod.mk.injEq] at this;obtain ⟨rfl,rfl⟩:=this;have hn:=DR (Gu hn);have hx:=Bi Abk [(0,lp86 a n f),(2,lp86_2 a n f)];have hL:=Bh [(0,lp86 a n f),(2,lp86_2 a n f)];have h0:=λL j=>AdS L a n f hn n 0 j (n+1) (by omega) (by omega);have h2:=λL j=>YE L a n f hn n 0 j (n+1) (by omega) (by omega);refine ⟨_,Bd Gl Rr [(0,lp86 a n f),(2,lp86_2 a n f)],_,UY ha,rfl,hx.1,hx.2,?_,Aw.refl _⟩;unfold HU;cases c1:AQ (Do a f) n 0 with
  | some t =>
   rw [c1] at h0;cases c2:ieq (Gn a (f t)) 0 with
   | false =>simp only [c2] at h0 ⊢;exact Bf (Bg hL hL) _ (Aij _ _ a n f t (AA (h0 _ _)))
   | true =>simp only [c2] at h0 ⊢;exact Bf (Bg hL hL) _ (Aii _ _ a n f t (AA (h0 _ _)))
  | none =>
   rw [c1] at h0;cases c2:AQ (FH n f) n 0 with
   | some t =>rw [c2] at h2;exact Bf (Bg (Bg hL hL) hL) _ (Aih _ _ _ a n f 0 t (AA (h0 _ _)) (AA (h2 _ _)))
   | none =>rw [c2] at h2;exact Bf (Bg (Bg hL hL) hL) _ (Aig _ _ _ a n f 0 0 (AA (h0 _ _)) (AA (h2 _ _)))
 ·cases h
def Qi (n:Nat) (f:Nat->E6) (m:Nat) (l:Nat->Int) (k:Int) (w:Bool):Lp:=⟨bmK 38 0 [0,1,2,3,9,10],0,bmK 38 0 [9],0,n+1⟩
def TD (n:Nat) (f:Nat->E6) (m:Nat) (l:Nat->Int) (k:Int) (w:Bool) (c:Int) (i:Nat) (j:Nat->V):St:=⟨jsV 38 0 j [(0,.sl 6 n (λi=>eV (f i))),(1,.sl 1 m (λk=>iV (l k))),(2,iV k),(3,bV w),(9,iV c),(10,nV i)],[]⟩
def Aah (n:Nat) (f:Nat->E6) (m:Nat) (l:Nat->Int) (k:Int) (w:Bool) (c:Int) (i:Nat):Ex×St:=(.ex 0,⟨jsV 38 0 Ab [(9,iV c)],[]⟩)
noncomputable def Jp (L:LT):St->T (Ex×St):=λst=>AL tab ⟨A0 tb0,L,Gl⟩ (A3 Tryz.f156 0) 0 st
section
variable (L:LT) (n:Nat) (f:Nat->E6) (m:Nat) (l:Nat->Int) (k:Int) (w:Bool) (c:Int) (i:Nat)  (j:Nat->V)
include L n f m l k w c i j
theorem AiO (h0:ilt (ofNat i) (ofNat n)=false):Ay (Jp L) (Qi n f m l k w) (TD n f m l k w c i j)=some ((.ex 0),⟨jsV 38 0 Ab [(9,iV c)],[]⟩):=by
 exact Ad (ks:=[kn h0]) (by kernel_rfl)
theorem AiS (h0:ilt (ofNat i) (ofNat n)=true) (h1:Aj (ile 0 (ofNat i)) (ilt (ofNat i) (ofNat m))=true) (h2:ieq (l i) k=false):Ay (Jp L) (Qi n f m l k w) (TD n f m l k w c i j)=some (.nm,⟨jsV 38 0 Ab [(0,.sl 6 n (λi=>eV (f i))),(1,.sl 1 m (λk=>iV (l k))),(2,iV k),(3,bV w),(9,iV c),(10,iV (wr .i64 (Ah (ofNat i) 1)))],[]⟩):=by
 exact Ad (ks:=[kn h0,kn h1,kn h2,kn h2,kn h2,kn h2,kn h2,kF]) (by kernel_rfl)
theorem AiR (h0:ilt (ofNat i) (ofNat n)=true) (h1:Aj (ile 0 (ofNat i)) (ilt (ofNat i) (ofNat m))=true) (h2:ieq (l i) k=true) (h3:w=false):Ay (Jp L) (Qi n f m l k w) (TD n f m l k w c i j)=some (.nm,⟨jsV 38 0 Ab [(0,.sl 6 n (λi=>eV (f i))),(1,.sl 1 m (λk=>iV (l k))),(2,iV k),(3,bV w),(9,iV (wr .i64 (Ah c 1))),(10,iV (wr .i64 (Ah (ofNat i) 1)))],[]⟩):=by
 exact Ad (ks:=[kn h0,kn h1,kn h2,kn h2,kn h2,kN (kn h3),kN (kn h3),kN (kn h3),kN (kn h3),kN (kn h3),kN (kn h3),kn h2,kN (kn h3),kn h2,kT]) (by kernel_rfl)
theorem AiQ (h0:ilt (ofNat i) (ofNat n)=true) (h1:Aj (ile 0 (ofNat i)) (ilt (ofNat i) (ofNat m))=true) (h2:ieq (l i) k=true) (h3:w=true) (h4:Aj (ile 0 (ofNat i)) (ilt (ofNat i) (ofNat n))=true) (h5:ieq (f i).src 2=true):Ay (Jp L) (Qi n f m l k w) (TD n f m l k w c i j)=some (.nm,⟨jsV 38 0 Ab [(0,.sl 6 n (λi=>eV (f i))),(1,.sl 1 m (λk=>iV (l k))),(2,iV k),(3,bV w),(9,iV (wr .i64 (Ah c 1))),(10,iV (wr .i64 (Ah (ofNat i) 1)))],[]⟩):=by
 exact Ad (ks:=[kn h0,kn h1,kn h2,kn h2,kn h2,kN (kn h3),kN (kn h3),kN (kn h3),kn h4,kN (kn h3),kN (kn h3),kN (kn h3),kn h2,kN (kn h3),kn h2,kn h5]) (by kernel_rfl)
theorem AiP (h0:ilt (ofNat i) (ofNat n)=true) (h1:Aj (ile 0 (ofNat i)) (ilt (ofNat i) (ofNat m))=true) (h2:ieq (l i) k=true) (h3:w=true) (h4:Aj (ile 0 (ofNat i)) (ilt (ofNat i) (ofNat n))=true) (h5:ieq (f i).src 2=false):Ay (Jp L) (Qi n f m l k w) (TD n f m l k w c i j)=some (.nm,⟨jsV 38 0 Ab [(0,.sl 6 n (λi=>eV (f i))),(1,.sl 1 m (λk=>iV (l k))),(2,iV k),(3,bV w),(9,iV c),(10,iV (wr .i64 (Ah (ofNat i) 1)))],[]⟩):=by
 exact Ad (ks:=[kn h0,kn h1,kn h2,kn h2,kn h2,kN (kn h3),kN (kn h3),kN (kn h3),kn h4,kN (kn h3),kN (kn h3),kN (kn h3),kn h2,kN (kn h3),kn h2,kn h5]) (by kernel_rfl)
end
def Al9 (n:Nat) (f:Nat->E6) (m:Nat) (l:Nat->Int) (k:Int) (w:Bool) :Nat->V:=lkV AI [(8,iV 0)]
theorem AkZ (L:LT) (p0:PT) (n:Nat) (f:Nat->E6) (m:Nat) (l:Nat->Int) (k:Int) (w:Bool) (c:Int) (i:Nat)  (hp0:p0 (Jp (onP 0 p0 (Aah n f m l k w c i) L)) (TD n f m l k w 0 0 (Al9 n f m l k w ))=true):(Ax (Ak tab ⟨A0 tb0,onP 0 p0 (Aah n f m l k w c i) L,Gl⟩ Tryz.f156 [AC n f,EJ m l,iV k,bV w] [])).sem=some ((iV c),[]):=by
 exact Ad (ks:=[kn hp0]) (by kernel_rfl)
def isW (e:E6):Bool:=ieq e.src 2
def Co (l:Nat->Int) (c:Nat->Bool) (k:Int) (i:Nat):Bool:=Aj (ieq (l i) k) (c i)
def Lg (n:Nat) (l:Nat->Int) (c:Nat->Bool) (k:Int):Int:=ofNat (Ai (Co l c k) n)
def ofW (w:Bool) (f:Nat->E6) (i:Nat):Bool:=bor (AN w) (isW (f i))
theorem RE (L:LT) (n:Nat) (f:Nat->E6) (l:Nat->Int) (k:Int) (w:Bool) (hn:n <= 4611686018427387904):∀ (d i:Nat) (j:Nat->V) (q:Nat),n=i+d->d<q ->
  (A4 (Jp L) (Qi n f n l k w) q (TD n f n l k w (ofNat (Ai (Co l (ofW w f) k) i)) i j)).sem=some (Aah n f n l k w (ofNat (Ai (Co l (ofW w f) k) n)) n)
 | 0,i,j,q+1,h,_=>by
  have:n=i:=by omega
  subst this;exact Ag (AiO L n f n l k w (ofNat (Ai (Co l (ofW w f) k) n)) n j (Au (Nat.le_refl _)))
 | d+1,i,j,q+1,h,h2=>by
  have hl:i<n:=by omega
  have hc:=By (Co l (ofW w f) k) i;have yes:Co l (ofW w f) k i=true->wr .i64 (Ah (ofNat (Ai (Co l (ofW w f) k) i)) 1)=ofNat (Ai (Co l (ofW w f) k) (i+1)):=λh3=>by
   rw [A1 (show Ai (Co l (ofW w f) k) i<n by omega) hn,Bp h3]
  have no:Co l (ofW w f) k i=false->ofNat (Ai (Co l (ofW w f) k) i)=ofNat (Ai (Co l (ofW w f) k) (i+1)):=λh3=>by rw [B6 h3]
  cases c1:ieq (l i) k with
  | false =>rw [Ag (AiS L n f n l k w (ofNat (Ai (Co l (ofW w f) k) i)) i j (ofNat_lt hl) (Ae hl) c1),AZ,A1 hl hn,no (by rw [Co,c1]; rfl)];exact RE L n f l k w hn d (i+1) Ab q (by omega) (by omega)
  | true =>
   cases c2:w with
   | false =>subst c2;rw [Ag (AiR L n f n l k false (ofNat (Ai (Co l (ofW false f) k) i)) i j (ofNat_lt hl) (Ae hl) c1 rfl),AZ,A1 hl hn,yes (by rw [Co,c1]; rfl)];exact RE L n f l k false hn d (i+1) Ab q (by omega) (by omega)
   | true =>
    subst c2;cases c3:ieq (f i).src 2 with
    | true =>rw [Ag (AiQ L n f n l k true (ofNat (Ai (Co l (ofW true f) k) i)) i j (ofNat_lt hl) (Ae hl) c1 rfl (Ae hl) c3),AZ,A1 hl hn,yes (by rw [Co,c1,ofW,isW,c3]; rfl)];exact RE L n f l k true hn d (i+1) Ab q (by omega) (by omega)
    | false =>rw [Ag (AiP L n f n l k true (ofNat (Ai (Co l (ofW true f) k) i)) i j (ofNat_lt hl) (Ae hl) c1 rfl (Ae hl) c3),AZ,A1 hl hn,no (by rw [Co,c1,ofW,isW,c3]; rfl)];exact RE L n f l k true hn d (i+1) Ab q (by omega) (by omega)
def Aaz:List V->A9
 | [v,u,.val (.int .i64 k),.val (.bool w)]=>apL v λn f=>apI u λm l=>.br (BM n m) (.br (Ao n) (out (iV (Lg n l (λi=>bor (AN w) (isW (f i))) k))) .fail) .fail
 | _=>.fail
theorem p96:As Tryz.prog Gl 156 Aaz:=by
 refine Am A8 mixed Tryz.func156 (by kernel_rfl) (by kernel_rfl) λvs v h' h=>?_;unfold Aaz at h;split at h
 ·rename_i v1 u1 k w
  obtain ⟨n,f,ha,h1⟩:=Ck h;obtain ⟨m,l,hb,h2⟩:=FB h1;obtain ⟨hm,h3⟩:=Ac h2;obtain ⟨hn,hq⟩:=Ac h3;have hm:n=m:=Nat.eq_of_beq_eq_true hm;subst hm;have:=Aa hq;simp only [Prod.mk.injEq] at this;obtain ⟨rfl,rfl⟩:=this;have hn:n <= 4611686018427387904:=of_decide_eq_true hn;have hA:BC [v1,u1,.val (.int .i64 k),.val (.bool w)] [AC n f,EJ n l,iV k,bV w]:=λS w' cs hv=>by
   obtain ⟨c,l1,rfl,q1,c2,l2,rfl,q2,q3⟩:=hv;exact ⟨c,_,rfl,ha S w' c q1,c2,l2,rfl,hb S w' c2 q2,q3⟩
  have hx:=Bi CN [(0,Qi n f n l k w)];have hL:=Bh [(0,Qi n f n l k w)];exact ⟨_,Bd Gl tb0 [(0,Qi n f n l k w)],_,hA,rfl,hx.1,hx.2,Bf (Bg hL hL) _ (AkZ _ _ n f n l k w _ n (AA (RE _ n f l k w hn n 0 _ (n+1) (by omega) (by omega)))),Aw.refl _⟩
 ·cases h
end Go.Proofs.YtkbafjceglhjhaaGreatDoor.Ed
