/-
  Why one of some edges is not to be there; how many events have one number. No conditions.
-/
import Derived.Test.YtkbafjceglhjhaaGreatDoorShBa
namespace Go.Proofs.YtkbafjceglhjhaaGreatDoor.Ed
open Go.Sy
open Int (ofNat)
def Ds (a:Int) (f:Nat->E6) (i:Nat):Bool:=AL (Aj (ieq (Gg a (f i)) 0) (L6 a (f i)))
def FA (n:Nat) (f:Nat->E6) (i:Nat):Bool:=AL (ieq (f i).dst (f ((i+1) % n)).src)
noncomputable def QG:AK:=(192,ap2 gI toE λa e=>out (MM a e))::[]
theorem Aac:Ar Tryz.prog Gl QG:=.cons p32 .nil
theorem M7 {i n:Nat} (h:i<n) (hn:n <= 4611686018427387904):Al (wr .i64 (Ah (ofNat i) 1)) (ofNat n)=ofNat ((i+1) % n):=by rw [Ax h hn,D5]
theorem Ahk {i n:Nat} (h:i<n):ieq (ofNat n) 0=false:=by rw [show (0:Int)=ofNat 0 from rfl,Dq,decide_eq_false (by omega)]
def lp86 (_:Int) (n:Nat) (_:Nat->E6):Lp:=⟨bmK 53 0 [0,1,4,5,12,13,14],0,bmK 53 0 [1,4,5],0,n+1⟩
def Pi (a:Int) (n:Nat) (f:Nat->E6) (i:Nat) (j:Nat->V):St:=⟨jsV 53 0 j [(0,iV a),(1,.sl 6 n (λi=>eV (f i))),(4,iV 0),(5,iV 0),(12,.sl 6 n (λi=>eV (f i))),(13,nV n),(14,nV i)],[]⟩
def Nr (_:Int) (n:Nat) (f:Nat->E6) (_:Nat):Ex×St:=(.ex 0,⟨jsV 53 0 Ac [(1,.sl 6 n (λi=>eV (f i))),(4,iV 0),(5,iV 0)],[]⟩)
def Zj (_:Int) (n:Nat) (f:Nat->E6) (i:Nat):Ex×St:=(.rt,⟨jsV 53 0 Ac [(1,.sl 6 n (λi=>eV (f i))),(4,iV 30),(5,nV i)],[]⟩)
def Zi (_:Int) (n:Nat) (f:Nat->E6) (i:Nat):Ex×St:=(.rt,⟨jsV 53 0 Ac [(1,.sl 6 n (λi=>eV (f i))),(4,iV 5),(5,nV i)],[]⟩)
noncomputable def He (L:LT):St->T (Ex×St):=λst=>AI tab ⟨Az QG,L,Gl⟩ (A0 Tryz.f169 0) 0 st
section
variable (L:LT) (a:Int) (n:Nat) (f:Nat->E6) (i:Nat)  (j:Nat->V)
include L a n f i j
theorem AgF (h0:ilt (ofNat i) (ofNat n)=false):Au (He L) (lp86 a n f) (Pi a n f i j)=some ((.ex 0),⟨jsV 53 0 Ac [(1,.sl 6 n (λi=>eV (f i))),(4,iV 0),(5,iV 0)],[]⟩):=by
 exact Ad (ks:=[kn h0]) (by kernel_rfl)
theorem AgE (h0:ilt (ofNat i) (ofNat n)=true) (h1:Aj (ile 0 (ofNat i)) (ilt (ofNat i) (ofNat n))=true) (h2:ieq (Gg a (f i)) 0=false):Au (He L) (lp86 a n f) (Pi a n f i j)=some (.rt,⟨jsV 53 0 Ac [(1,.sl 6 n (λi=>eV (f i))),(4,iV 30),(5,nV i)],[]⟩):=by
 exact Ad (ks:=[kn h0,kn h1,kN (kn h2)]) (by kernel_rfl)
theorem AgD (h0:ilt (ofNat i) (ofNat n)=true) (h1:Aj (ile 0 (ofNat i)) (ilt (ofNat i) (ofNat n))=true) (h2:ieq (Gg a (f i)) 0=true) (h3:L6 a (f i)=false):Au (He L) (lp86 a n f) (Pi a n f i j)=some (.rt,⟨jsV 53 0 Ac [(1,.sl 6 n (λi=>eV (f i))),(4,iV 5),(5,nV i)],[]⟩):=by
 exact Ad (ks:=[kn h0,kn h1,kN (kn h2),kN (kn h3)]) (by kernel_rfl)
theorem AgC (h0:ilt (ofNat i) (ofNat n)=true) (h1:Aj (ile 0 (ofNat i)) (ilt (ofNat i) (ofNat n))=true) (h2:ieq (Gg a (f i)) 0=true) (h3:L6 a (f i)=true):Au (He L) (lp86 a n f) (Pi a n f i j)=some (.nm,⟨jsV 53 0 Ac [(0,iV a),(1,.sl 6 n (λi=>eV (f i))),(4,iV 0),(5,iV 0),(12,.sl 6 n (λi=>eV (f i))),(13,nV n),(14,iV (wr .i64 (Ah (ofNat i) 1)))],[]⟩):=by
 exact Ad (ks:=[kn h0,kn h1,kN (kn h2),kN (kn h3)]) (by kernel_rfl)
end
def Ab2 (_:Int) (_:Nat) (_:Nat->E6) :Nat->V:=lkV AD []
def lp86_2 (_:Int) (n:Nat) (_:Nat->E6):Lp:=⟨bmK 53 0 [1,4,5,32,33,34],0,bmK 53 0 [4,5],0,n+1⟩
def Ku (_:Int) (n:Nat) (f:Nat->E6) (i:Nat) (j:Nat->V):St:=⟨jsV 53 0 j [(1,.sl 6 n (λi=>eV (f i))),(4,iV 0),(5,iV 0),(32,.sl 6 n (λi=>eV (f i))),(33,nV n),(34,nV i)],[]⟩
def LS (_:Int) (_:Nat) (_:Nat->E6) (_:Nat):Ex×St:=(.ex 2,⟨jsV 53 0 Ac [(4,iV 0),(5,iV 0)],[]⟩)
def LR (_:Int) (_:Nat) (_:Nat->E6) (i:Nat):Ex×St:=(.rt,⟨jsV 53 0 Ac [(4,iV 41),(5,nV i)],[]⟩)
noncomputable def G6 (L:LT):St->T (Ex×St):=λst=>AI tab ⟨Az QG,L,Gl⟩ (A0 Tryz.f169 2) 2 st
section
variable (L:LT) (a:Int) (n:Nat) (f:Nat->E6) (i:Nat)  (j:Nat->V)
include L a n f i j
theorem Agz (h0:ilt (ofNat i) (ofNat n)=false):Au (G6 L) (lp86_2 a n f) (Ku a n f i j)=some ((.ex 2),⟨jsV 53 0 Ac [(4,iV 0),(5,iV 0)],[]⟩):=by
 exact Ad (ks:=[kn h0]) (by kernel_rfl)
theorem Agy (h0:ilt (ofNat i) (ofNat n)=true) (h1:Aj (ile 0 (ofNat i)) (ilt (ofNat i) (ofNat n))=true) (h2:ieq (ofNat n) 0=false) (h3:Aj (ile 0 (Al (wr .i64 (Ah (ofNat i) 1)) (ofNat n))) (ilt (Al (wr .i64 (Ah (ofNat i) 1)) (ofNat n)) (ofNat n))=true) (h4:ieq (f i).dst (f (toN (Al (wr .i64 (Ah (ofNat i) 1)) (ofNat n)))).src=false):Au (G6 L) (lp86_2 a n f) (Ku a n f i j)=some (.rt,⟨jsV 53 0 Ac [(4,iV 41),(5,nV i)],[]⟩):=by
 exact Ad (ks:=[kn h0,kn h1,kn h2,kn h3,kN (kn h4)]) (by kernel_rfl)
theorem Agx (h0:ilt (ofNat i) (ofNat n)=true) (h1:Aj (ile 0 (ofNat i)) (ilt (ofNat i) (ofNat n))=true) (h2:ieq (ofNat n) 0=false) (h3:Aj (ile 0 (Al (wr .i64 (Ah (ofNat i) 1)) (ofNat n))) (ilt (Al (wr .i64 (Ah (ofNat i) 1)) (ofNat n)) (ofNat n))=true) (h4:ieq (f i).dst (f (toN (Al (wr .i64 (Ah (ofNat i) 1)) (ofNat n)))).src=true):Au (G6 L) (lp86_2 a n f) (Ku a n f i j)=some (.nm,⟨jsV 53 0 Ac [(1,.sl 6 n (λi=>eV (f i))),(4,iV 0),(5,iV 0),(32,.sl 6 n (λi=>eV (f i))),(33,nV n),(34,iV (wr .i64 (Ah (ofNat i) 1)))],[]⟩):=by
 exact Ad (ks:=[kn h0,kn h1,kn h2,kn h3,kN (kn h4)]) (by kernel_rfl)
end
def YE (_:Int) (_:Nat) (_:Nat->E6) (_:Nat):Nat->V:=lkU 9007169189969869 []
section
variable (L:LT) (p0:PT) (a:Int) (n:Nat) (f:Nat->E6) (i:Nat)
include L p0 a n f i
theorem AfS  (hp0:p0 (He (onP 0 p0 (Zj a n f i) L)) (Pi a n f 0 (Ab2 a n f ))=true):(A7 (An tab ⟨Az QG,onP 0 p0 (Zj a n f i) L,Gl⟩ Tryz.f169 [iV a,A9 n f] [])).sem=some ((.tup [iV 30,nV i]),[]):=by
 exact Ad (ks:=[kn hp0]) (by kernel_rfl)
theorem AfR  (hp0:p0 (He (onP 0 p0 (Zi a n f i) L)) (Pi a n f 0 (Ab2 a n f ))=true):(A7 (An tab ⟨Az QG,onP 0 p0 (Zi a n f i) L,Gl⟩ Tryz.f169 [iV a,A9 n f] [])).sem=some ((.tup [iV 5,nV i]),[]):=by
 exact Ad (ks:=[kn hp0]) (by kernel_rfl)
end
section
variable (L:LT) (p0:PT) (p2:PT) (a:Int) (n:Nat) (f:Nat->E6) (i j:Nat)
include L p0 p2 a n f i j
theorem AfQ  (hp0:p0 (He (onP 0 p0 (Nr a n f i) (onP 2 p2 (LR a n f j) L))) (Pi a n f 0 (Ab2 a n f ))=true) (hp2:p2 (G6 (onP 0 p0 (Nr a n f i) (onP 2 p2 (LR a n f j) L))) (Ku a n f 0 (YE a n f i))=true):(A7 (An tab ⟨Az QG,onP 0 p0 (Nr a n f i) (onP 2 p2 (LR a n f j) L),Gl⟩ Tryz.f169 [iV a,A9 n f] [])).sem=some ((.tup [iV 41,nV j]),[]):=by
 exact Ad (ks:=[kn hp0,kn hp2]) (by kernel_rfl)
theorem AfP  (hp0:p0 (He (onP 0 p0 (Nr a n f i) (onP 2 p2 (LS a n f j) L))) (Pi a n f 0 (Ab2 a n f ))=true) (hp2:p2 (G6 (onP 0 p0 (Nr a n f i) (onP 2 p2 (LS a n f j) L))) (Ku a n f 0 (YE a n f i))=true):(A7 (An tab ⟨Az QG,onP 0 p0 (Nr a n f i) (onP 2 p2 (LS a n f j) L),Gl⟩ Tryz.f169 [iV a,A9 n f] [])).sem=some ((.tup [iV 0,iV 0]),[]):=by
 exact Ad (ks:=[kn hp0,kn hp2]) (by kernel_rfl)
end
theorem Acw (L:LT) (a:Int) (n:Nat) (f:Nat->E6) (hn:n <= 4611686018427387904):∀ (d i:Nat) (j:Nat->V) (q:Nat),n=i+d->d<q ->
  (A3 (He L) (lp86 a n f) q (Pi a n f i j)).sem=some (match AU (Ds a f) d i with
   | none=>Nr a n f 0
   | some t=>match ieq (Gg a (f t)) 0 with
    | false=>Zj a n f t
    | true=>Zi a n f t)
 | 0,i,j,q+1,h,_=>by
  have:n=i:=by omega
  subst this;exact Ag (AgF L a n f n j (Av (Nat.le_refl _)))
 | d+1,i,j,q+1,h,h2=>by
  have hl:i<n:=by omega
  cases c1:ieq (Gg a (f i)) 0 with
  | false =>rw [Fz (show Ds a f i=true by rw [Ds,c1]; rfl)];simp only [c1];exact Ag (AgE L a n f i j (ofNat_lt hl) (Ae hl) c1)
  | true =>
   cases c2:L6 a (f i) with
   | false =>rw [Fz (show Ds a f i=true by rw [Ds,c1,c2]; rfl)];simp only [c1];exact Ag (AgD L a n f i j (ofNat_lt hl) (Ae hl) c1 c2)
   | true =>rw [F2 (show Ds a f i=false by rw [Ds,c1,c2]; rfl),Ag (AgC L a n f i j (ofNat_lt hl) (Ae hl) c1 c2),AW,Ax hl hn];exact Acw L a n f hn d (i+1) Ac q (by omega) (by omega)
theorem XN (L:LT) (a:Int) (n:Nat) (f:Nat->E6) (hn:n <= 4611686018427387904):∀ (d i:Nat) (j:Nat->V) (q:Nat),n=i+d->d<q ->
  (A3 (G6 L) (lp86_2 a n f) q (Ku a n f i j)).sem=some (match AU (FA n f) d i with
   | none=>LS a n f 0
   | some t=>LR a n f t)
 | 0,i,j,q+1,h,_=>by
  have:n=i:=by omega
  subst this;exact Ag (Agz L a n f n j (Av (Nat.le_refl _)))
 | d+1,i,j,q+1,h,h2=>by
  have hl:i<n:=by omega
  have e1:=M7 hl hn;have hb:Aj (ile 0 (Al (wr .i64 (Ah (ofNat i) 1)) (ofNat n))) (ilt (Al (wr .i64 (Ah (ofNat i) 1)) (ofNat n)) (ofNat n))=true:=by
   rw [e1]; exact Ae (Nat.mod_lt _ (by omega))
  have e2:toN (ofNat ((i+1) % n))=(i+1) % n:=rfl;cases c1:ieq (f i).dst (f ((i+1) % n)).src with
  | false =>rw [Fz (show FA n f i=true by rw [FA,c1]; rfl)];exact Ag (Agy L a n f i j (ofNat_lt hl) (Ae hl) (Ahk hl) hb (by rw [e1,e2]; exact c1))
  | true =>rw [F2 (show FA n f i=false by rw [FA,c1]; rfl),Ag (Agx L a n f i j (ofNat_lt hl) (Ae hl) (Ahk hl) hb (by rw [e1,e2]; exact c1)),AW,Ax hl hn];exact XN L a n f hn d (i+1) Ac q (by omega) (by omega)
def HI (a:Int) (n:Nat) (f:Nat->E6):Int×Int :=
 match AU (Ds a f) n 0 with
 | some t=>match ieq (Gg a (f t)) 0 with
  | false=>(30,ofNat t)
  | true=>(5,ofNat t)
 | none=>match AU (FA n f) n 0 with
  | some t=>(41,ofNat t)
  | none=>(0,0)
def Aft:List V->AB
 | [.val (.int .i64 a),v]=>apL v λn f=>.br (CJ n) (out (.tup [iV (HI a n f).1,iV (HI a n f).2])) .fail
 | _=>.fail
theorem Ux {a:Int} {v u:V} (h:∀ (S:Nat->Prop) (w:World) (c:Value),VR S w v noK c->VR S w u noK c):BK [.val (.int .i64 a),v] [iV a,u]:=λS w cs hv=>by
 obtain ⟨c,l,rfl,q1,q2⟩:=hv;obtain ⟨c2,l2,rfl,q3,q4⟩:=q2;exact ⟨c,_,rfl,q1,c2,l2,rfl,h S w c2 q3,q4⟩
theorem p86:As Tryz.prog Gl 169 Aft:=by
 refine Am AA mixed Tryz.func169 (by kernel_rfl) (by kernel_rfl) λvs v h' h=>?_;unfold Aft at h;split at h
 ·rename_i a u
  obtain ⟨n,f,ha,h1⟩:=Ce h;obtain ⟨hn,hq⟩:=Ab h1;have:=Aa hq;simp only [Prod.mk.injEq] at this;obtain ⟨rfl,rfl⟩:=this;have hn:=DG (Gk hn);have hx:=Bh Aac [(0,lp86 a n f),(2,lp86_2 a n f)];have hL:=Bd [(0,lp86 a n f),(2,lp86_2 a n f)];have h0:=λL j=>Acw L a n f hn n 0 j (n+1) (by omega) (by omega);have h2:=λL j=>XN L a n f hn n 0 j (n+1) (by omega) (by omega);refine ⟨_,Br Gl QG [(0,lp86 a n f),(2,lp86_2 a n f)],_,Ux ha,rfl,hx.1,hx.2,?_,Aw.refl _⟩;unfold HI;cases c1:AU (Ds a f) n 0 with
  | some t =>
   rw [c1] at h0;cases c2:ieq (Gg a (f t)) 0 with
   | false =>simp only [c2] at h0 ⊢;exact Bb (Bc hL hL) _ (AfS _ _ a n f t (A5 (h0 _ _)))
   | true =>simp only [c2] at h0 ⊢;exact Bb (Bc hL hL) _ (AfR _ _ a n f t (A5 (h0 _ _)))
  | none =>
   rw [c1] at h0;cases c2:AU (FA n f) n 0 with
   | some t =>rw [c2] at h2;exact Bb (Bc (Bc hL hL) hL) _ (AfQ _ _ _ a n f 0 t (A5 (h0 _ _)) (A5 (h2 _ _)))
   | none =>rw [c2] at h2;exact Bb (Bc (Bc hL hL) hL) _ (AfP _ _ _ a n f 0 0 (A5 (h0 _ _)) (A5 (h2 _ _)))
 ·cases h
def PD (n:Nat) (_:Nat->E6) (_:Nat) (_:Nat->Int) (_:Int) (_:Bool):Lp:=⟨bmK 38 0 [0,1,2,3,9,10],0,bmK 38 0 [9],0,n+1⟩
def SR (n:Nat) (f:Nat->E6) (m:Nat) (l:Nat->Int) (k:Int) (w:Bool) (c:Int) (i:Nat) (j:Nat->V):St:=⟨jsV 38 0 j [(0,.sl 6 n (λi=>eV (f i))),(1,.sl 1 m (λk=>iV (l k))),(2,iV k),(3,bV w),(9,iV c),(10,nV i)],[]⟩
def Zh (_:Nat) (_:Nat->E6) (_:Nat) (_:Nat->Int) (_:Int) (_:Bool) (c:Int) (_:Nat):Ex×St:=(.ex 0,⟨jsV 38 0 Ac [(9,iV c)],[]⟩)
noncomputable def Ja (L:LT):St->T (Ex×St):=λst=>AI tab ⟨Az tb0,L,Gl⟩ (A0 Tryz.f156 0) 0 st
section
variable (L:LT) (n:Nat) (f:Nat->E6) (m:Nat) (l:Nat->Int) (k:Int) (w:Bool) (c:Int) (i:Nat)  (j:Nat->V)
include L n f m l k w c i j
theorem Ag3 (h0:ilt (ofNat i) (ofNat n)=false):Au (Ja L) (PD n f m l k w) (SR n f m l k w c i j)=some ((.ex 0),⟨jsV 38 0 Ac [(9,iV c)],[]⟩):=by
 exact Ad (ks:=[kn h0]) (by kernel_rfl)
theorem Ag7 (h0:ilt (ofNat i) (ofNat n)=true) (h1:Aj (ile 0 (ofNat i)) (ilt (ofNat i) (ofNat m))=true) (h2:ieq (l i) k=false):Au (Ja L) (PD n f m l k w) (SR n f m l k w c i j)=some (.nm,⟨jsV 38 0 Ac [(0,.sl 6 n (λi=>eV (f i))),(1,.sl 1 m (λk=>iV (l k))),(2,iV k),(3,bV w),(9,iV c),(10,iV (wr .i64 (Ah (ofNat i) 1)))],[]⟩):=by
 exact Ad (ks:=[kn h0,kn h1,kn h2,kn h2,kn h2,kn h2,kn h2,kF]) (by kernel_rfl)
theorem Ag6 (h0:ilt (ofNat i) (ofNat n)=true) (h1:Aj (ile 0 (ofNat i)) (ilt (ofNat i) (ofNat m))=true) (h2:ieq (l i) k=true) (h3:w=false):Au (Ja L) (PD n f m l k w) (SR n f m l k w c i j)=some (.nm,⟨jsV 38 0 Ac [(0,.sl 6 n (λi=>eV (f i))),(1,.sl 1 m (λk=>iV (l k))),(2,iV k),(3,bV w),(9,iV (wr .i64 (Ah c 1))),(10,iV (wr .i64 (Ah (ofNat i) 1)))],[]⟩):=by
 exact Ad (ks:=[kn h0,kn h1,kn h2,kn h2,kn h2,kN (kn h3),kN (kn h3),kN (kn h3),kN (kn h3),kN (kn h3),kN (kn h3),kn h2,kN (kn h3),kn h2,kT]) (by kernel_rfl)
theorem Ag5 (h0:ilt (ofNat i) (ofNat n)=true) (h1:Aj (ile 0 (ofNat i)) (ilt (ofNat i) (ofNat m))=true) (h2:ieq (l i) k=true) (h3:w=true) (h4:Aj (ile 0 (ofNat i)) (ilt (ofNat i) (ofNat n))=true) (h5:ieq (f i).src 2=true):Au (Ja L) (PD n f m l k w) (SR n f m l k w c i j)=some (.nm,⟨jsV 38 0 Ac [(0,.sl 6 n (λi=>eV (f i))),(1,.sl 1 m (λk=>iV (l k))),(2,iV k),(3,bV w),(9,iV (wr .i64 (Ah c 1))),(10,iV (wr .i64 (Ah (ofNat i) 1)))],[]⟩):=by
 exact Ad (ks:=[kn h0,kn h1,kn h2,kn h2,kn h2,kN (kn h3),kN (kn h3),kN (kn h3),kn h4,kN (kn h3),kN (kn h3),kN (kn h3),kn h2,kN (kn h3),kn h2,kn h5]) (by kernel_rfl)
theorem Ag4 (h0:ilt (ofNat i) (ofNat n)=true) (h1:Aj (ile 0 (ofNat i)) (ilt (ofNat i) (ofNat m))=true) (h2:ieq (l i) k=true) (h3:w=true) (h4:Aj (ile 0 (ofNat i)) (ilt (ofNat i) (ofNat n))=true) (h5:ieq (f i).src 2=false):Au (Ja L) (PD n f m l k w) (SR n f m l k w c i j)=some (.nm,⟨jsV 38 0 Ac [(0,.sl 6 n (λi=>eV (f i))),(1,.sl 1 m (λk=>iV (l k))),(2,iV k),(3,bV w),(9,iV c),(10,iV (wr .i64 (Ah (ofNat i) 1)))],[]⟩):=by
 exact Ad (ks:=[kn h0,kn h1,kn h2,kn h2,kn h2,kN (kn h3),kN (kn h3),kN (kn h3),kn h4,kN (kn h3),kN (kn h3),kN (kn h3),kn h2,kN (kn h3),kn h2,kn h5]) (by kernel_rfl)
end
def AiV (_:Nat) (_:Nat->E6) (_:Nat) (_:Nat->Int) (_:Int) (_:Bool) :Nat->V:=lkV AD [(8,iV 0)]
theorem Aiy (L:LT) (p0:PT) (n:Nat) (f:Nat->E6) (m:Nat) (l:Nat->Int) (k:Int) (w:Bool) (c:Int) (i:Nat)  (hp0:p0 (Ja (onP 0 p0 (Zh n f m l k w c i) L)) (SR n f m l k w 0 0 (AiV n f m l k w ))=true):(A7 (An tab ⟨Az tb0,onP 0 p0 (Zh n f m l k w c i) L,Gl⟩ Tryz.f156 [A9 n f,EE m l,iV k,bV w] [])).sem=some ((iV c),[]):=by
 exact Ad (ks:=[kn hp0]) (by kernel_rfl)
def isW (e:E6):Bool:=ieq e.src 2
def Ct (l:Nat->Int) (c:Nat->Bool) (k:Int) (i:Nat):Bool:=Aj (ieq (l i) k) (c i)
def Nx (n:Nat) (l:Nat->Int) (c:Nat->Bool) (k:Int):Int:=ofNat (Ai (Ct l c k) n)
def ofW (w:Bool) (f:Nat->E6) (i:Nat):Bool:=bor (AL w) (isW (f i))
theorem QV (L:LT) (n:Nat) (f:Nat->E6) (l:Nat->Int) (k:Int) (w:Bool) (hn:n <= 4611686018427387904):∀ (d i:Nat) (j:Nat->V) (q:Nat),n=i+d->d<q ->
  (A3 (Ja L) (PD n f n l k w) q (SR n f n l k w (ofNat (Ai (Ct l (ofW w f) k) i)) i j)).sem=some (Zh n f n l k w (ofNat (Ai (Ct l (ofW w f) k) n)) n)
 | 0,i,j,q+1,h,_=>by
  have:n=i:=by omega
  subst this;exact Ag (Ag3 L n f n l k w (ofNat (Ai (Ct l (ofW w f) k) n)) n j (Av (Nat.le_refl _)))
 | d+1,i,j,q+1,h,h2=>by
  have hl:i<n:=by omega
  have hc:=B5 (Ct l (ofW w f) k) i;have yes:Ct l (ofW w f) k i=true->wr .i64 (Ah (ofNat (Ai (Ct l (ofW w f) k) i)) 1)=ofNat (Ai (Ct l (ofW w f) k) (i+1)):=λh3=>by
   rw [Ax (show Ai (Ct l (ofW w f) k) i<n by omega) hn,Bs h3]
  have no:Ct l (ofW w f) k i=false->ofNat (Ai (Ct l (ofW w f) k) i)=ofNat (Ai (Ct l (ofW w f) k) (i+1)):=λh3=>by rw [B0 h3]
  cases c1:ieq (l i) k with
  | false =>rw [Ag (Ag7 L n f n l k w (ofNat (Ai (Ct l (ofW w f) k) i)) i j (ofNat_lt hl) (Ae hl) c1),AW,Ax hl hn,no (by rw [Ct,c1]; rfl)];exact QV L n f l k w hn d (i+1) Ac q (by omega) (by omega)
  | true =>
   cases c2:w with
   | false =>subst c2;rw [Ag (Ag6 L n f n l k false (ofNat (Ai (Ct l (ofW false f) k) i)) i j (ofNat_lt hl) (Ae hl) c1 rfl),AW,Ax hl hn,yes (by rw [Ct,c1]; rfl)];exact QV L n f l k false hn d (i+1) Ac q (by omega) (by omega)
   | true =>
    subst c2;cases c3:ieq (f i).src 2 with
    | true =>rw [Ag (Ag5 L n f n l k true (ofNat (Ai (Ct l (ofW true f) k) i)) i j (ofNat_lt hl) (Ae hl) c1 rfl (Ae hl) c3),AW,Ax hl hn,yes (by rw [Ct,c1,ofW,isW,c3]; rfl)];exact QV L n f l k true hn d (i+1) Ac q (by omega) (by omega)
    | false =>rw [Ag (Ag4 L n f n l k true (ofNat (Ai (Ct l (ofW true f) k) i)) i j (ofNat_lt hl) (Ae hl) c1 rfl (Ae hl) c3),AW,Ax hl hn,no (by rw [Ct,c1,ofW,isW,c3]; rfl)];exact QV L n f l k true hn d (i+1) Ac q (by omega) (by omega)
def Zz:List V->AB
 | [v,u,.val (.int .i64 k),.val (.bool w)]=>apL v λn f=>apI u λm l=>.br (BH n m) (.br (Ap n) (out (iV (Nx n l (λi=>bor (AL w) (isW (f i))) k))) .fail) .fail
 | _=>.fail
theorem p96:As Tryz.prog Gl 156 Zz:=by
 refine Am AA mixed Tryz.func156 (by kernel_rfl) (by kernel_rfl) λvs v h' h=>?_;unfold Zz at h;split at h
 ·rename_i v1 u1 k w
  obtain ⟨n,f,ha,h1⟩:=Ce h;obtain ⟨m,l,hb,h2⟩:=F6 h1;obtain ⟨hm,h3⟩:=Ab h2;obtain ⟨hn,hq⟩:=Ab h3;have hm:n=m:=Nat.eq_of_beq_eq_true hm;subst hm;have:=Aa hq;simp only [Prod.mk.injEq] at this;obtain ⟨rfl,rfl⟩:=this;have hn:n <= 4611686018427387904:=of_decide_eq_true hn;have hA:BK [v1,u1,.val (.int .i64 k),.val (.bool w)] [A9 n f,EE n l,iV k,bV w]:=λS w' cs hv=>by
   obtain ⟨c,l1,rfl,q1,c2,l2,rfl,q2,q3⟩:=hv;exact ⟨c,_,rfl,ha S w' c q1,c2,l2,rfl,hb S w' c2 q2,q3⟩
  have hx:=Bh D7 [(0,PD n f n l k w)];have hL:=Bd [(0,PD n f n l k w)];exact ⟨_,Br Gl tb0 [(0,PD n f n l k w)],_,hA,rfl,hx.1,hx.2,Bb (Bc hL hL) _ (Aiy _ _ n f n l k w _ n (A5 (QV _ n f l k w hn n 0 _ (n+1) (by omega) (by omega)))),Aw.refl _⟩
 ·cases h
end Go.Proofs.YtkbafjceglhjhaaGreatDoor.Ed
