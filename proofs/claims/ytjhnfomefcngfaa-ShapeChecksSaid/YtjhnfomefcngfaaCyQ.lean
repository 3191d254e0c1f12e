/-
  Why one of some edges is not to be there; how many events have one number. No conditions.
-/
import Derived.Test.YtjhnfomefcngfaaCyP
namespace Go.Proofs.Ytjhnfomefcngfaa.Ed
open Go.Sy
open Int (ofNat)
def C7 (a:Int) (f:Nat->E6) (i:Nat):Bool:=Am (Ag (ieq (D6 a (f i)) 0) (DH a (f i)))
def Fq (n:Nat) (f:Nat->E6) (i:Nat):Bool:=Am (ieq (f i).dst (f ((i+1) % n)).src)
noncomputable def Rq:List (Nat × (List V->T (V × List Blk))):=(110,ap2 gI toE fun a e=>out (RW a e)) :: []
theorem ZT:AC Try.prog Gl Rq:=.cons p32 .nil
theorem Nt {i n:Nat} (h:i < n) (hn:n <= 4611686018427387904):Ae (wr .i64 (Af (ofNat i) 1)) (ofNat n) = ofNat ((i+1) % n):=by rw [Aq h hn,CA]
theorem Wu {i n:Nat} (h:i < n):ieq (ofNat n) 0 = false:=by rw [show (0:Int) = ofNat 0 from rfl,Dt,decide_eq_false (by omega)]
def RN (_:Int) (n:Nat) (_:Nat->E6):Lp:=⟨(bmK 53 0 [0,1,4,5,12,13,14]),0,bmK 53 0 [1,4,5],0,n+1⟩
def KN (a:Int) (n:Nat) (f:Nat->E6) (i:Nat) (j:Nat->V):St:=⟨(jsV 53 0 j [(0,iV a),(1,.sl 6 n (fun i=>eV (f i))),(4,iV 0),(5,iV 0),(12,.sl 6 n (fun i=>eV (f i))),(13,nV n),(14,nV i)]),[]⟩
def Iy (_:Int) (n:Nat) (f:Nat->E6) (_:Nat):Ex × St:=(.ex 0,⟨(jsV 53 0 (fun _=>.und) [(1,.sl 6 n (fun i=>eV (f i))),(4,iV 0),(5,iV 0)]),[]⟩)
def Vx (_:Int) (n:Nat) (f:Nat->E6) (i:Nat):Ex × St:=(.rt,⟨(jsV 53 0 (fun _=>.und) [(1,.sl 6 n (fun i=>eV (f i))),(4,iV 30),(5,nV i)]),[]⟩)
def Vw (_:Int) (n:Nat) (f:Nat->E6) (i:Nat):Ex × St:=(.rt,⟨(jsV 53 0 (fun _=>.und) [(1,.sl 6 n (fun i=>eV (f i))),(4,iV 5),(5,nV i)]),[]⟩)
noncomputable def Ey (L:LT):St->T (Ex × St):=fun st=>AE tab ⟨Ao Rq,L,Gl⟩ (Az Try.f81 0) 0 st
section
variable (L:LT) (a:Int) (n:Nat) (f:Nat->E6) (i:Nat)  (j:Nat->V)
include L a n f i j
theorem AhZ (h0:ilt (ofNat i) (ofNat n) = false):Al (Ey L) (RN a n f) (KN a n f i j) = some ((.ex 0),⟨(jsV 53 0 (fun _=>.und) [(1,(.sl 6 n (fun i=>eV (f i)))),(4,(iV 0)),(5,(iV 0))]),[]⟩):=Aa [false] [ilt (ofNat i) (ofNat n)] (by kernel_rfl) (by simp only [h0] <;> rfl)
theorem AhY (h0:ilt (ofNat i) (ofNat n) = true) (h1:Ag (ile 0 (ofNat i)) (ilt (ofNat i) (ofNat n)) = true) (h2:ieq (D6 a (f i)) 0 = false):Al (Ey L) (RN a n f) (KN a n f i j) = some (.rt,⟨(jsV 53 0 (fun _=>.und) [(1,(.sl 6 n (fun i=>eV (f i)))),(4,(iV 30)),(5,(nV i))]),[]⟩):=Aa [true,true,true] [ilt (ofNat i) (ofNat n),Ag (ile 0 (ofNat i)) (ilt (ofNat i) (ofNat n)),Am (ieq (D6 a (f i)) 0)] (by kernel_rfl) (by simp only [h1] <;> simp only [h0,h2] <;> rfl)
theorem AhX (h0:ilt (ofNat i) (ofNat n) = true) (h1:Ag (ile 0 (ofNat i)) (ilt (ofNat i) (ofNat n)) = true) (h2:ieq (D6 a (f i)) 0 = true) (h3:DH a (f i) = false):Al (Ey L) (RN a n f) (KN a n f i j) = some (.rt,⟨(jsV 53 0 (fun _=>.und) [(1,(.sl 6 n (fun i=>eV (f i)))),(4,(iV 5)),(5,(nV i))]),[]⟩):=Aa [true,true,false,true] [ilt (ofNat i) (ofNat n),Ag (ile 0 (ofNat i)) (ilt (ofNat i) (ofNat n)),Am (ieq (D6 a (f i)) 0),Am (DH a (f i))] (by kernel_rfl) (by simp only [h1] <;> simp only [*] <;> rfl)
theorem AhW (h0:ilt (ofNat i) (ofNat n) = true) (h1:Ag (ile 0 (ofNat i)) (ilt (ofNat i) (ofNat n)) = true) (h2:ieq (D6 a (f i)) 0 = true) (h3:DH a (f i) = true):Al (Ey L) (RN a n f) (KN a n f i j) = some (.nm,⟨(jsV 53 0 (fun _=>.und) [(0,(iV a)),(1,(.sl 6 n (fun i=>eV (f i)))),(4,(iV 0)),(5,(iV 0)),(12,(.sl 6 n (fun i=>eV (f i)))),(13,(nV n)),(14,(iV (wr .i64 (Af (ofNat i) 1))))]),[]⟩):=Aa [true,true,false,false] [ilt (ofNat i) (ofNat n),Ag (ile 0 (ofNat i)) (ilt (ofNat i) (ofNat n)),Am (ieq (D6 a (f i)) 0),Am (DH a (f i))] (by kernel_rfl) (by simp only [h1] <;> simp only [*] <;> rfl)
end
def Sa (_:Int) (_:Nat) (_:Nat->E6) :Nat->V:=lkV A8 []
def JF (_:Int) (n:Nat) (_:Nat->E6):Lp:=⟨(bmK 53 0 [1,4,5,32,33,34]),0,bmK 53 0 [4,5],0,n+1⟩
def HY (_:Int) (n:Nat) (f:Nat->E6) (i:Nat) (j:Nat->V):St:=⟨(jsV 53 0 j [(1,.sl 6 n (fun i=>eV (f i))),(4,iV 0),(5,iV 0),(32,.sl 6 n (fun i=>eV (f i))),(33,nV n),(34,nV i)]),[]⟩
def Ji (_:Int) (_:Nat) (_:Nat->E6) (_:Nat):Ex × St:=(.ex 2,⟨(jsV 53 0 (fun _=>.und) [(4,iV 0),(5,iV 0)]),[]⟩)
def Jh (_:Int) (_:Nat) (_:Nat->E6) (i:Nat):Ex × St:=(.rt,⟨(jsV 53 0 (fun _=>.und) [(4,iV 41),(5,nV i)]),[]⟩)
noncomputable def EL (L:LT):St->T (Ex × St):=fun st=>AE tab ⟨Ao Rq,L,Gl⟩ (Az Try.f81 2) 2 st
section
variable (L:LT) (a:Int) (n:Nat) (f:Nat->E6) (i:Nat)  (j:Nat->V)
include L a n f i j
theorem AhE (h0:ilt (ofNat i) (ofNat n) = false):Al (EL L) (JF a n f) (HY a n f i j) = some ((.ex 2),⟨(jsV 53 0 (fun _=>.und) [(4,(iV 0)),(5,(iV 0))]),[]⟩):=Aa [false] [ilt (ofNat i) (ofNat n)] (by kernel_rfl) (by simp only [h0] <;> rfl)
theorem AhD (h0:ilt (ofNat i) (ofNat n) = true) (h1:Ag (ile 0 (ofNat i)) (ilt (ofNat i) (ofNat n)) = true) (h2:ieq (ofNat n) 0 = false) (h3:Ag (ile 0 (Ae (wr .i64 (Af (ofNat i) 1)) (ofNat n))) (ilt (Ae (wr .i64 (Af (ofNat i) 1)) (ofNat n)) (ofNat n)) = true) (h4:ieq ((f i)).dst ((f (toN (Ae (wr .i64 (Af (ofNat i) 1)) (ofNat n))))).src = false):Al (EL L) (JF a n f) (HY a n f i j) = some (.rt,⟨(jsV 53 0 (fun _=>.und) [(4,(iV 41)),(5,(nV i))]),[]⟩):=Aa [true,true,false,true,true] [ilt (ofNat i) (ofNat n),Ag (ile 0 (ofNat i)) (ilt (ofNat i) (ofNat n)),ieq (ofNat n) 0,Ag (ile 0 (Ae (wr .i64 (Af (ofNat i) 1)) (ofNat n))) (ilt (Ae (wr .i64 (Af (ofNat i) 1)) (ofNat n)) (ofNat n)),Am (ieq ((f i)).dst ((f (toN (Ae (wr .i64 (Af (ofNat i) 1)) (ofNat n))))).src)] (by kernel_rfl) (by simp only [h1,h3] <;> simp only [*] <;> rfl)
theorem AhC (h0:ilt (ofNat i) (ofNat n) = true) (h1:Ag (ile 0 (ofNat i)) (ilt (ofNat i) (ofNat n)) = true) (h2:ieq (ofNat n) 0 = false) (h3:Ag (ile 0 (Ae (wr .i64 (Af (ofNat i) 1)) (ofNat n))) (ilt (Ae (wr .i64 (Af (ofNat i) 1)) (ofNat n)) (ofNat n)) = true) (h4:ieq ((f i)).dst ((f (toN (Ae (wr .i64 (Af (ofNat i) 1)) (ofNat n))))).src = true):Al (EL L) (JF a n f) (HY a n f i j) = some (.nm,⟨(jsV 53 0 (fun _=>.und) [(1,(.sl 6 n (fun i=>eV (f i)))),(4,(iV 0)),(5,(iV 0)),(32,(.sl 6 n (fun i=>eV (f i)))),(33,(nV n)),(34,(iV (wr .i64 (Af (ofNat i) 1))))]),[]⟩):=Aa [true,true,false,true,false] [ilt (ofNat i) (ofNat n),Ag (ile 0 (ofNat i)) (ilt (ofNat i) (ofNat n)),ieq (ofNat n) 0,Ag (ile 0 (Ae (wr .i64 (Af (ofNat i) 1)) (ofNat n))) (ilt (Ae (wr .i64 (Af (ofNat i) 1)) (ofNat n)) (ofNat n)),Am (ieq ((f i)).dst ((f (toN (Ae (wr .i64 (Af (ofNat i) 1)) (ofNat n))))).src)] (by kernel_rfl) (by simp only [h1,h3] <;> simp only [*] <;> rfl)
end
def Qs (_:Int) (_:Nat) (_:Nat->E6) (_:Nat):Nat->V:=lkV A8 [(0,.und),(2,.und),(3,.und),(6,.und),(7,.und),(8,.und),(9,.und),(10,.und),(11,.und),(12,.und),(13,.und),(14,.und),(15,.und),(16,.und),(17,.und),(18,.und),(19,.und),(20,.und),(21,.und),(22,.und),(23,.und),(24,.und),(25,.und),(26,.und),(27,.und),(28,.und),(29,.und),(30,.und),(31,.und),(35,.und),(36,.und),(37,.und),(38,.und),(39,.und),(40,.und),(41,.und),(42,.und),(43,.und),(44,.und),(45,.und),(46,.und),(47,.und),(48,.und),(49,.und),(50,.und),(51,.und),(52,.und)]
section
variable (L:LT) (p0:PT) (a:Int) (n:Nat) (f:Nat->E6) (i:Nat)
include L p0 a n f i
theorem Agt  (hp0:p0 (Ey (onP 0 p0 (Vx a n f i) L)) (KN a n f 0 (Sa a n f )) = true):(As (Aj tab ⟨Ao Rq,onP 0 p0 (Vx a n f i) L,Gl⟩ Try.f81 [iV a,A2 n f] [])).sem = some ((.tup [iV 30,nV i]),[]):=Aa [true] [p0 (Ey (onP 0 p0 (Vx a n f i) L)) (KN a n f 0 (Sa a n f ))] (by kernel_rfl) (by simp only [hp0] <;> rfl)
theorem Ags  (hp0:p0 (Ey (onP 0 p0 (Vw a n f i) L)) (KN a n f 0 (Sa a n f )) = true):(As (Aj tab ⟨Ao Rq,onP 0 p0 (Vw a n f i) L,Gl⟩ Try.f81 [iV a,A2 n f] [])).sem = some ((.tup [iV 5,nV i]),[]):=Aa [true] [p0 (Ey (onP 0 p0 (Vw a n f i) L)) (KN a n f 0 (Sa a n f ))] (by kernel_rfl) (by simp only [hp0] <;> rfl)
end
section
variable (L:LT) (p0:PT) (p2:PT) (a:Int) (n:Nat) (f:Nat->E6) (i j:Nat)
include L p0 p2 a n f i j
theorem Agr  (hp0:p0 (Ey (onP 0 p0 (Iy a n f i) (onP 2 p2 (Jh a n f j) L))) (KN a n f 0 (Sa a n f )) = true) (hp2:p2 (EL (onP 0 p0 (Iy a n f i) (onP 2 p2 (Jh a n f j) L))) (HY a n f 0 (Qs a n f i)) = true):(As (Aj tab ⟨Ao Rq,onP 0 p0 (Iy a n f i) (onP 2 p2 (Jh a n f j) L),Gl⟩ Try.f81 [iV a,A2 n f] [])).sem = some ((.tup [iV 41,nV j]),[]):=Aa [true,true] [p0 (Ey (onP 0 p0 (Iy a n f i) (onP 2 p2 (Jh a n f j) L))) (KN a n f 0 (Sa a n f )),p2 (EL (onP 0 p0 (Iy a n f i) (onP 2 p2 (Jh a n f j) L))) (HY a n f 0 (Qs a n f i))] (by kernel_rfl) (by simp only [hp0,hp2] <;> rfl)
theorem Agq  (hp0:p0 (Ey (onP 0 p0 (Iy a n f i) (onP 2 p2 (Ji a n f j) L))) (KN a n f 0 (Sa a n f )) = true) (hp2:p2 (EL (onP 0 p0 (Iy a n f i) (onP 2 p2 (Ji a n f j) L))) (HY a n f 0 (Qs a n f i)) = true):(As (Aj tab ⟨Ao Rq,onP 0 p0 (Iy a n f i) (onP 2 p2 (Ji a n f j) L),Gl⟩ Try.f81 [iV a,A2 n f] [])).sem = some ((.tup [iV 0,iV 0]),[]):=Aa [true,true] [p0 (Ey (onP 0 p0 (Iy a n f i) (onP 2 p2 (Ji a n f j) L))) (KN a n f 0 (Sa a n f )),p2 (EL (onP 0 p0 (Iy a n f i) (onP 2 p2 (Ji a n f j) L))) (HY a n f 0 (Qs a n f i))] (by kernel_rfl) (by simp only [hp0,hp2] <;> rfl)
end
theorem AbT (L:LT) (a:Int) (n:Nat) (f:Nat->E6) (hn:n <= 4611686018427387904):∀ (d i:Nat) (j:Nat->V) (q:Nat),n = i+d->d < q ->
    (A7 (Ey L) (RN a n f) q (KN a n f i j)).sem = some (match Bf (C7 a f) d i with
      | none=>Iy a n f 0
      | some t=>match ieq (D6 a (f t)) 0 with
        | false=>Vx a n f t
        | true=>Vw a n f t)
  | 0,i,j,q+1,h,_=>by
    have:n = i:=by omega
    subst this
    exact Ac (AhZ L a n f n j (AA (Nat.le_refl _)))
  | d+1,i,j,q+1,h,h2=>by
    have hl:i < n:=by omega
    cases c1:ieq (D6 a (f i)) 0 with
    | false =>
      rw [BX (show C7 a f i = true by rw [C7,c1]; rfl)]
      simp only [c1]
      exact Ac (AhY L a n f i j (ofNat_lt hl) (Ax hl) c1)
    | true =>
      cases c2:DH a (f i) with
      | false =>
        rw [BX (show C7 a f i = true by rw [C7,c1,c2]; rfl)]
        simp only [c1]
        exact Ac (AhX L a n f i j (ofNat_lt hl) (Ax hl) c1 c2)
      | true =>
        rw [Bz (show C7 a f i = false by rw [C7,c1,c2]; rfl),Ac (AhW L a n f i j (ofNat_lt hl) (Ax hl) c1 c2),Av,Aq hl hn]
        exact AbT L a n f hn d (i+1) (fun _=>.und) q (by omega) (by omega)
theorem XD (L:LT) (a:Int) (n:Nat) (f:Nat->E6) (hn:n <= 4611686018427387904):∀ (d i:Nat) (j:Nat->V) (q:Nat),n = i+d->d < q ->
    (A7 (EL L) (JF a n f) q (HY a n f i j)).sem = some (match Bf (Fq n f) d i with
      | none=>Ji a n f 0
      | some t=>Jh a n f t)
  | 0,i,j,q+1,h,_=>by
    have:n = i:=by omega
    subst this
    exact Ac (AhE L a n f n j (AA (Nat.le_refl _)))
  | d+1,i,j,q+1,h,h2=>by
    have hl:i < n:=by omega
    have e1:=Nt hl hn
    have hb:Ag (ile 0 (Ae (wr .i64 (Af (ofNat i) 1)) (ofNat n))) (ilt (Ae (wr .i64 (Af (ofNat i) 1)) (ofNat n)) (ofNat n)) = true:=by
      rw [e1]; exact Ax (Nat.mod_lt _ (by omega))
    have e2:toN (ofNat ((i+1) % n)) = (i+1) % n:=rfl
    cases c1:ieq (f i).dst (f ((i+1) % n)).src with
    | false =>
      rw [BX (show Fq n f i = true by rw [Fq,c1]; rfl)]
      exact Ac (AhD L a n f i j (ofNat_lt hl) (Ax hl) (Wu hl) hb (by rw [e1,e2]; exact c1))
    | true =>
      rw [Bz (show Fq n f i = false by rw [Fq,c1]; rfl),Ac (AhC L a n f i j (ofNat_lt hl) (Ax hl) (Wu hl) hb (by rw [e1,e2]; exact c1)),Av,Aq hl hn]
      exact XD L a n f hn d (i+1) (fun _=>.und) q (by omega) (by omega)
def D7 (a:Int) (n:Nat) (f:Nat->E6):Int × Int :=
  match Bf (C7 a f) n 0 with
  | some t=>match ieq (D6 a (f t)) 0 with
    | false=>(30,ofNat t)
    | true=>(5,ofNat t)
  | none=>match Bf (Fq n f) n 0 with
    | some t=>(41,ofNat t)
    | none=>(0,0)
def AfL:List V->T (V × List Blk)
  | [.val (.int .i64 a),v]=>apL v fun n f=>.br (AL n) (out (.tup [iV (D7 a n f).1,iV (D7 a n f).2])) .fail
  | _=>.fail
theorem Um {a:Int} {v u:V} (h:∀ (S:Nat->Prop) (w:World) (c:Value),VR S w v noK c->VR S w u noK c):Bw [.val (.int .i64 a),v] [iV a,u]:=fun S w cs hv=>by
  obtain ⟨c,l,rfl,q1,q2⟩:=hv
  obtain ⟨c2,l2,rfl,q3,q4⟩:=q2
  exact ⟨c,_,rfl,q1,c2,l2,rfl,h S w c2 q3,q4⟩
theorem p86:AB Try.prog Gl 81 AfL:=by
  refine A1 AQ AR Try.func81 (by kernel_rfl) (by kernel_rfl) fun vs v h' h=>?_
  unfold AfL at h
  split at h
  · rename_i a u
    obtain ⟨n,f,ha,h1⟩:=Cj h
    obtain ⟨hn,hq⟩:=Ah h1
    have:=Ad hq
    simp only [Prod.mk.injEq] at this
    obtain ⟨rfl,rfl⟩:=this
    have hn:=CP (EY hn)
    have hx:=AP ZT [(0,RN a n f),(2,JF a n f)]
    have hL:=AD [(0,RN a n f),(2,JF a n f)]
    have h0:=fun L j=>AbT L a n f hn n 0 j (n+1) (by omega) (by omega)
    have h2:=fun L j=>XD L a n f hn n 0 j (n+1) (by omega) (by omega)
    refine ⟨_,AI Gl Rq [(0,RN a n f),(2,JF a n f)],_,Um ha,rfl,hx.1,hx.2,?_,A6.refl _⟩
    unfold D7
    cases c1:Bf (C7 a f) n 0 with
    | some t =>
      rw [c1] at h0
      cases c2:ieq (D6 a (f t)) 0 with
      | false =>
        simp only [c2] at h0 ⊢
        exact A3 (Aw hL hL) _ (Agt _ _ a n f t (An (h0 _ _)))
      | true =>
        simp only [c2] at h0 ⊢
        exact A3 (Aw hL hL) _ (Ags _ _ a n f t (An (h0 _ _)))
    | none =>
      rw [c1] at h0
      cases c2:Bf (Fq n f) n 0 with
      | some t =>
        rw [c2] at h2
        exact A3 (Aw (Aw hL hL) hL) _ (Agr _ _ _ a n f 0 t (An (h0 _ _)) (An (h2 _ _)))
      | none =>
        rw [c2] at h2
        exact A3 (Aw (Aw hL hL) hL) _ (Agq _ _ _ a n f 0 0 (An (h0 _ _)) (An (h2 _ _)))
  · cases h
def Mm (n:Nat) (_:Nat->E6) (_:Nat) (_:Nat->Int) (_:Int) (_:Bool):Lp:=⟨(bmK 38 0 [0,1,2,3,9,10]),0,bmK 38 0 [9],0,n+1⟩
def MN (n:Nat) (f:Nat->E6) (m:Nat) (l:Nat->Int) (k:Int) (w:Bool) (c:Int) (i:Nat) (j:Nat->V):St:=⟨(jsV 38 0 j [(0,.sl 6 n (fun i=>eV (f i))),(1,.sl 1 m (fun k=>iV (l k))),(2,iV k),(3,bV w),(9,iV c),(10,nV i)]),[]⟩
def Vv (_:Nat) (_:Nat->E6) (_:Nat) (_:Nat->Int) (_:Int) (_:Bool) (c:Int) (_:Nat):Ex × St:=(.ex 0,⟨(jsV 38 0 (fun _=>.und) [(9,iV c)]),[]⟩)
noncomputable def FF (L:LT):St->T (Ex × St):=fun st=>AE tab ⟨Ao tb0,L,Gl⟩ (Az Try.f68 0) 0 st
section
variable (L:LT) (n:Nat) (f:Nat->E6) (m:Nat) (l:Nat->Int) (k:Int) (w:Bool) (c:Int) (i:Nat)  (j:Nat->V)
include L n f m l k w c i j
theorem AhN (h0:ilt (ofNat i) (ofNat n) = false):Al (FF L) (Mm n f m l k w) (MN n f m l k w c i j) = some ((.ex 0),⟨(jsV 38 0 (fun _=>.und) [(9,(iV c))]),[]⟩):=Aa [false] [ilt (ofNat i) (ofNat n)] (by kernel_rfl) (by simp only [h0] <;> rfl)
theorem AhR (h0:ilt (ofNat i) (ofNat n) = true) (h1:Ag (ile 0 (ofNat i)) (ilt (ofNat i) (ofNat m)) = true) (h2:ieq (l i) k = false):Al (FF L) (Mm n f m l k w) (MN n f m l k w c i j) = some (.nm,⟨(jsV 38 0 (fun _=>.und) [(0,(.sl 6 n (fun i=>eV (f i)))),(1,(.sl 1 m (fun k=>iV (l k)))),(2,(iV k)),(3,(bV w)),(9,(iV c)),(10,(iV (wr .i64 (Af (ofNat i) 1))))]),[]⟩):=Aa (bbK 8 3) [ilt (ofNat i) (ofNat n),Ag (ile 0 (ofNat i)) (ilt (ofNat i) (ofNat m)),ieq (l i) k,ieq (l i) k,ieq (l i) k,ieq (l i) k,ieq (l i) k,false] (by kernel_rfl) (by simp only [h1] <;> simp only [h0,h2] <;> rfl)
theorem Aa1:((FF L (MN n f m l k w c i j)).bind fun r=>T.leaf (QQ (Mm n f m l k w) r)).path [true,true,true,true,true,true,true,true,true,true,true,true,true,true,true] = some ([(ilt (ofNat i) (ofNat n)),(Ag (ile 0 (ofNat i)) (ilt (ofNat i) (ofNat m))),(ieq (l i) k),(ieq (l i) k),(ieq (l i) k),(Am w),(Am w),(Am w),(Am w),(Am w),(Am w),(ieq (l i) k),(Am w),(ieq (l i) k),true],(.nm,⟨(jsV 38 0 (fun _=>.und) [(0,(.sl 6 n (fun i=>(eV (f i))))),(1,(.sl 1 m (fun k=>(iV (l k))))),(2,(iV k)),(3,(bV w)),(9,(iV (wr .i64 (Af c 1)))),(10,(iV (wr .i64 (Af (ofNat i) 1))))]),[]⟩)):=by kernel_rfl
theorem AhQ (h0:ilt (ofNat i) (ofNat n) = true) (h1:Ag (ile 0 (ofNat i)) (ilt (ofNat i) (ofNat m)) = true) (h2:ieq (l i) k = true) (h3:w = false):Al (FF L) (Mm n f m l k w) (MN n f m l k w c i j) = some (.nm,⟨(jsV 38 0 (fun _=>.und) [(0,(.sl 6 n (fun i=>eV (f i)))),(1,(.sl 1 m (fun k=>iV (l k)))),(2,(iV k)),(3,(bV w)),(9,(iV (wr .i64 (Af c 1)))),(10,(iV (wr .i64 (Af (ofNat i) 1))))]),[]⟩):=by
  subst h3; exact AJ (Aa1 L n f m l k false c i j) (by simp only [h1] <;> simp only [h0,h2] <;> rfl)
theorem Aa0:((FF L (MN n f m l k w c i j)).bind fun r=>T.leaf (QQ (Mm n f m l k w) r)).path [true,true,true,true,true,false,false,false,true,false,false,false,true,false,true,true] = some ([(ilt (ofNat i) (ofNat n)),(Ag (ile 0 (ofNat i)) (ilt (ofNat i) (ofNat m))),(ieq (l i) k),(ieq (l i) k),(ieq (l i) k),(Am w),(Am w),(Am w),(Ag (ile 0 (ofNat i)) (ilt (ofNat i) (ofNat n))),(Am w),(Am w),(Am w),(ieq (l i) k),(Am w),(ieq (l i) k),(ieq ((f i)).src 2)],(.nm,⟨(jsV 38 0 (fun _=>.und) [(0,(.sl 6 n (fun i=>(eV (f i))))),(1,(.sl 1 m (fun k=>(iV (l k))))),(2,(iV k)),(3,(bV w)),(9,(iV (wr .i64 (Af c 1)))),(10,(iV (wr .i64 (Af (ofNat i) 1))))]),[]⟩)):=by kernel_rfl
theorem AhP (h0:ilt (ofNat i) (ofNat n) = true) (h1:Ag (ile 0 (ofNat i)) (ilt (ofNat i) (ofNat m)) = true) (h2:ieq (l i) k = true) (h3:w = true) (h4:Ag (ile 0 (ofNat i)) (ilt (ofNat i) (ofNat n)) = true) (h5:ieq ((f i)).src 2 = true):Al (FF L) (Mm n f m l k w) (MN n f m l k w c i j) = some (.nm,⟨(jsV 38 0 (fun _=>.und) [(0,(.sl 6 n (fun i=>eV (f i)))),(1,(.sl 1 m (fun k=>iV (l k)))),(2,(iV k)),(3,(bV w)),(9,(iV (wr .i64 (Af c 1)))),(10,(iV (wr .i64 (Af (ofNat i) 1))))]),[]⟩):=by
  subst h3; exact AJ (Aa0 L n f m l k true c i j) (by simp only [h1,h4] <;> simp only [*] <;> rfl)
theorem Aaz:((FF L (MN n f m l k w c i j)).bind fun r=>T.leaf (QQ (Mm n f m l k w) r)).path [true,true,true,true,true,false,false,false,true,false,false,false,true,false,true,false] = some ([(ilt (ofNat i) (ofNat n)),(Ag (ile 0 (ofNat i)) (ilt (ofNat i) (ofNat m))),(ieq (l i) k),(ieq (l i) k),(ieq (l i) k),(Am w),(Am w),(Am w),(Ag (ile 0 (ofNat i)) (ilt (ofNat i) (ofNat n))),(Am w),(Am w),(Am w),(ieq (l i) k),(Am w),(ieq (l i) k),(ieq ((f i)).src 2)],(.nm,⟨(jsV 38 0 (fun _=>.und) [(0,(.sl 6 n (fun i=>(eV (f i))))),(1,(.sl 1 m (fun k=>(iV (l k))))),(2,(iV k)),(3,(bV w)),(9,(iV c)),(10,(iV (wr .i64 (Af (ofNat i) 1))))]),[]⟩)):=by kernel_rfl
theorem AhO (h0:ilt (ofNat i) (ofNat n) = true) (h1:Ag (ile 0 (ofNat i)) (ilt (ofNat i) (ofNat m)) = true) (h2:ieq (l i) k = true) (h3:w = true) (h4:Ag (ile 0 (ofNat i)) (ilt (ofNat i) (ofNat n)) = true) (h5:ieq ((f i)).src 2 = false):Al (FF L) (Mm n f m l k w) (MN n f m l k w c i j) = some (.nm,⟨(jsV 38 0 (fun _=>.und) [(0,(.sl 6 n (fun i=>eV (f i)))),(1,(.sl 1 m (fun k=>iV (l k)))),(2,(iV k)),(3,(bV w)),(9,(iV c)),(10,(iV (wr .i64 (Af (ofNat i) 1))))]),[]⟩):=by
  subst h3; exact AJ (Aaz L n f m l k true c i j) (by simp only [h1,h4] <;> simp only [*] <;> rfl)
end
def Aiz (_:Nat) (_:Nat->E6) (_:Nat) (_:Nat->Int) (_:Int) (_:Bool) :Nat->V:=lkV A8 [(8,(iV 0))]
theorem AiX (L:LT) (p0:PT) (n:Nat) (f:Nat->E6) (m:Nat) (l:Nat->Int) (k:Int) (w:Bool) (c:Int) (i:Nat)  (hp0:p0 (FF (onP 0 p0 (Vv n f m l k w c i) L)) (MN n f m l k w 0 0 (Aiz n f m l k w )) = true):(As (Aj tab ⟨Ao tb0,onP 0 p0 (Vv n f m l k w c i) L,Gl⟩ Try.f68 [A2 n f,Cg m l,iV k,bV w] [])).sem = some ((iV c),[]):=Aa [true] [p0 (FF (onP 0 p0 (Vv n f m l k w c i) L)) (MN n f m l k w 0 0 (Aiz n f m l k w ))] (by kernel_rfl) (by simp only [hp0] <;> rfl)
def isW (e:E6):Bool:=ieq e.src 2
def C3 (l:Nat->Int) (c:Nat->Bool) (k:Int) (i:Nat):Bool:=Ag (ieq (l i) k) (c i)
def Eh (n:Nat) (l:Nat->Int) (c:Nat->Bool) (k:Int):Int:=ofNat (Ak (C3 l c k) n)
def ofW (w:Bool) (f:Nat->E6) (i:Nat):Bool:=bor (Am w) (isW (f i))
theorem R0 (L:LT) (n:Nat) (f:Nat->E6) (l:Nat->Int) (k:Int) (w:Bool) (hn:n <= 4611686018427387904):∀ (d i:Nat) (j:Nat->V) (q:Nat),n = i+d->d < q ->
    (A7 (FF L) (Mm n f n l k w) q (MN n f n l k w (ofNat (Ak (C3 l (ofW w f) k) i)) i j)).sem = some (Vv n f n l k w (ofNat (Ak (C3 l (ofW w f) k) n)) n)
  | 0,i,j,q+1,h,_=>by
    have:n = i:=by omega
    subst this
    exact Ac (AhN L n f n l k w (ofNat (Ak (C3 l (ofW w f) k) n)) n j (AA (Nat.le_refl _)))
  | d+1,i,j,q+1,h,h2=>by
    have hl:i < n:=by omega
    have hc:=Be (C3 l (ofW w f) k) i
    have yes:C3 l (ofW w f) k i = true->wr .i64 (Af (ofNat (Ak (C3 l (ofW w f) k) i)) 1) = ofNat (Ak (C3 l (ofW w f) k) (i+1)):=fun h3=>by
      rw [Aq (show Ak (C3 l (ofW w f) k) i < n by omega) hn,Bg h3]
    have no:C3 l (ofW w f) k i = false->ofNat (Ak (C3 l (ofW w f) k) i) = ofNat (Ak (C3 l (ofW w f) k) (i+1)):=fun h3=>by rw [Bv h3]
    cases c1:ieq (l i) k with
    | false =>
      rw [Ac (AhR L n f n l k w (ofNat (Ak (C3 l (ofW w f) k) i)) i j (ofNat_lt hl) (Ax hl) c1),Av,Aq hl hn,no (by rw [C3,c1]; rfl)]
      exact R0 L n f l k w hn d (i+1) (fun _=>.und) q (by omega) (by omega)
    | true =>
      cases c2:w with
      | false =>
        subst c2
        rw [Ac (AhQ L n f n l k false (ofNat (Ak (C3 l (ofW false f) k) i)) i j (ofNat_lt hl) (Ax hl) c1 rfl),Av,Aq hl hn,yes (by rw [C3,c1]; rfl)]
        exact R0 L n f l k false hn d (i+1) (fun _=>.und) q (by omega) (by omega)
      | true =>
        subst c2
        cases c3:ieq (f i).src 2 with
        | true =>
          rw [Ac (AhP L n f n l k true (ofNat (Ak (C3 l (ofW true f) k) i)) i j (ofNat_lt hl) (Ax hl) c1 rfl (Ax hl) c3),Av,Aq hl hn,yes (by rw [C3,c1,ofW,isW,c3]; rfl)]
          exact R0 L n f l k true hn d (i+1) (fun _=>.und) q (by omega) (by omega)
        | false =>
          rw [Ac (AhO L n f n l k true (ofNat (Ak (C3 l (ofW true f) k) i)) i j (ofNat_lt hl) (Ax hl) c1 rfl (Ax hl) c3),Av,Aq hl hn,no (by rw [C3,c1,ofW,isW,c3]; rfl)]
          exact R0 L n f l k true hn d (i+1) (fun _=>.und) q (by omega) (by omega)
def Zs:List V->T (V × List Blk)
  | [v,u,.val (.int .i64 k),.val (.bool w)]=>apL v fun n f=>apI u fun m l=>.br (AV n m) (.br (Ab n) (out (iV (Eh n l (fun i=>bor (Am w) (isW (f i))) k))) .fail) .fail
  | _=>.fail
theorem p96:AB Try.prog Gl 68 Zs:=by
  refine A1 AQ AR Try.func68 (by kernel_rfl) (by kernel_rfl) fun vs v h' h=>?_
  unfold Zs at h
  split at h
  · rename_i v1 u1 k w
    obtain ⟨n,f,ha,h1⟩:=Cj h
    obtain ⟨m,l,hb,h2⟩:=EM h1
    obtain ⟨hm,h3⟩:=Ah h2
    obtain ⟨hn,hq⟩:=Ah h3
    have hm:n = m:=Nat.eq_of_beq_eq_true hm
    subst hm
    have:=Ad hq
    simp only [Prod.mk.injEq] at this
    obtain ⟨rfl,rfl⟩:=this
    have hn:n <= 4611686018427387904:=of_decide_eq_true hn
    have hA:Bw [v1,u1,.val (.int .i64 k),.val (.bool w)] [A2 n f,Cg n l,iV k,bV w]:=fun S w' cs hv=>by
      obtain ⟨c,l1,rfl,q1,c2,l2,rfl,q2,q3⟩:=hv
      exact ⟨c,_,rfl,ha S w' c q1,c2,l2,rfl,hb S w' c2 q2,q3⟩
    have hx:=AP CW [(0,Mm n f n l k w)]
    have hL:=AD [(0,Mm n f n l k w)]
    exact ⟨_,AI Gl tb0 [(0,Mm n f n l k w)],_,hA,rfl,hx.1,hx.2,A3 (Aw hL hL) _ (AiX _ _ n f n l k w _ n (An (R0 _ n f l k w hn n 0 _ (n+1) (by omega) (by omega)))),A6.refl _⟩
  · cases h
end Go.Proofs.Ytjhnfomefcngfaa.Ed
