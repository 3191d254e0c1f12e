/-
  Why one of some edges is not to be there; how many events have one number. No conditions.
-/
import Derived.Test.YtjhnfomefcngfaaCyP
namespace Go.Proofs.Ytjhnfomefcngfaa.Ed
open Go.Sy
open Int (ofNat)
def Cu (a:Int) (f:Nat->E6) (i:Nat):Bool:=Am (Af (ieq (Dw a (f i)) 0) (D7 a (f i)))
def EX (n:Nat) (f:Nat->E6) (i:Nat):Bool:=Am (ieq (f i).dst (f ((i+1) % n)).src)
noncomputable def Rl:List (Nat × (List V->T (V × List Blk))):=(110,ap2 gI toE fun a e=>out (RS a e)) :: []
theorem Aaq:AF Try.prog Gl Rl:=.cons p32 .nil
theorem Nk {i n:Nat} (h:i < n) (hn:n <= 4611686018427387904):Ad (wr .i64 (Ae (ofNat i) 1)) (ofNat n) = ofNat ((i+1) % n):=by rw [Aq h hn,Cy]
theorem W1 {i n:Nat} (h:i < n):ieq (ofNat n) 0 = false:=by rw [show (0:Int) = ofNat 0 from rfl,Dl,decide_eq_false (by omega)]
def RK (_:Int) (n:Nat) (_:Nat->E6):Lp:=⟨(bmK 53 0 [0,1,4,5,12,13,14]),0,bmK 53 0 [1,4,5],0,n+1⟩
def KL (a:Int) (n:Nat) (f:Nat->E6) (i:Nat) (j:Nat->V):St:=⟨(jsV 53 0 j [(0,iV a),(1,.sl 6 n (fun i=>eV (f i))),(4,iV 0),(5,iV 0),(12,.sl 6 n (fun i=>eV (f i))),(13,nV n),(14,nV i)]),[]⟩
def Ip (_:Int) (n:Nat) (f:Nat->E6) (_:Nat):Ex × St:=(.ex 0,⟨(jsV 53 0 (fun _=>.und) [(1,.sl 6 n (fun i=>eV (f i))),(4,iV 0),(5,iV 0)]),[]⟩)
def VA (_:Int) (n:Nat) (f:Nat->E6) (i:Nat):Ex × St:=(.rt,⟨(jsV 53 0 (fun _=>.und) [(1,.sl 6 n (fun i=>eV (f i))),(4,iV 30),(5,nV i)]),[]⟩)
def V9 (_:Int) (n:Nat) (f:Nat->E6) (i:Nat):Ex × St:=(.rt,⟨(jsV 53 0 (fun _=>.und) [(1,.sl 6 n (fun i=>eV (f i))),(4,iV 5),(5,nV i)]),[]⟩)
noncomputable def Eu (L:LT):St->T (Ex × St):=fun st=>A9 tab ⟨Ao Rl,L,Gl⟩ (Av Try.f81 0) 0 st
section
variable (L:LT) (a:Int) (n:Nat) (f:Nat->E6) (i:Nat)  (j:Nat->V)
include L a n f i j
theorem Aib (h0:ilt (ofNat i) (ofNat n) = false):Ai (Eu L) (RK a n f) (KL a n f i j) = some ((.ex 0),⟨(jsV 53 0 (fun _=>.und) [(1,(.sl 6 n (fun i=>eV (f i)))),(4,(iV 0)),(5,(iV 0))]),[]⟩):=Aa [false] [ilt (ofNat i) (ofNat n)] (by kernel_rfl) (by simp only [h0] <;> rfl)
theorem Aia (h0:ilt (ofNat i) (ofNat n) = true) (h1:Af (ile 0 (ofNat i)) (ilt (ofNat i) (ofNat n)) = true) (h2:ieq (Dw a (f i)) 0 = false):Ai (Eu L) (RK a n f) (KL a n f i j) = some (.rt,⟨(jsV 53 0 (fun _=>.und) [(1,(.sl 6 n (fun i=>eV (f i)))),(4,(iV 30)),(5,(nV i))]),[]⟩):=Aa [true,true,true] [ilt (ofNat i) (ofNat n),Af (ile 0 (ofNat i)) (ilt (ofNat i) (ofNat n)),Am (ieq (Dw a (f i)) 0)] (by kernel_rfl) (by simp only [h1] <;> simp only [h0,h2] <;> rfl)
theorem AhZ (h0:ilt (ofNat i) (ofNat n) = true) (h1:Af (ile 0 (ofNat i)) (ilt (ofNat i) (ofNat n)) = true) (h2:ieq (Dw a (f i)) 0 = true) (h3:D7 a (f i) = false):Ai (Eu L) (RK a n f) (KL a n f i j) = some (.rt,⟨(jsV 53 0 (fun _=>.und) [(1,(.sl 6 n (fun i=>eV (f i)))),(4,(iV 5)),(5,(nV i))]),[]⟩):=Aa [true,true,false,true] [ilt (ofNat i) (ofNat n),Af (ile 0 (ofNat i)) (ilt (ofNat i) (ofNat n)),Am (ieq (Dw a (f i)) 0),Am (D7 a (f i))] (by kernel_rfl) (by simp only [h1] <;> simp only [*] <;> rfl)
theorem AhY (h0:ilt (ofNat i) (ofNat n) = true) (h1:Af (ile 0 (ofNat i)) (ilt (ofNat i) (ofNat n)) = true) (h2:ieq (Dw a (f i)) 0 = true) (h3:D7 a (f i) = true):Ai (Eu L) (RK a n f) (KL a n f i j) = some (.nm,⟨(jsV 53 0 (fun _=>.und) [(0,(iV a)),(1,(.sl 6 n (fun i=>eV (f i)))),(4,(iV 0)),(5,(iV 0)),(12,(.sl 6 n (fun i=>eV (f i)))),(13,(nV n)),(14,(iV (wr .i64 (Ae (ofNat i) 1))))]),[]⟩):=Aa [true,true,false,false] [ilt (ofNat i) (ofNat n),Af (ile 0 (ofNat i)) (ilt (ofNat i) (ofNat n)),Am (ieq (Dw a (f i)) 0),Am (D7 a (f i))] (by kernel_rfl) (by simp only [h1] <;> simp only [*] <;> rfl)
end
def RW (_:Int) (_:Nat) (_:Nat->E6) :Nat->V:=lkV A7 []
def JA (_:Int) (n:Nat) (_:Nat->E6):Lp:=⟨(bmK 53 0 [1,4,5,32,33,34]),0,bmK 53 0 [4,5],0,n+1⟩
def HR (_:Int) (n:Nat) (f:Nat->E6) (i:Nat) (j:Nat->V):St:=⟨(jsV 53 0 j [(1,.sl 6 n (fun i=>eV (f i))),(4,iV 0),(5,iV 0),(32,.sl 6 n (fun i=>eV (f i))),(33,nV n),(34,nV i)]),[]⟩
def Jc (_:Int) (_:Nat) (_:Nat->E6) (_:Nat):Ex × St:=(.ex 2,⟨(jsV 53 0 (fun _=>.und) [(4,iV 0),(5,iV 0)]),[]⟩)
def Jb (_:Int) (_:Nat) (_:Nat->E6) (i:Nat):Ex × St:=(.rt,⟨(jsV 53 0 (fun _=>.und) [(4,iV 41),(5,nV i)]),[]⟩)
noncomputable def EH (L:LT):St->T (Ex × St):=fun st=>A9 tab ⟨Ao Rl,L,Gl⟩ (Av Try.f81 2) 2 st
section
variable (L:LT) (a:Int) (n:Nat) (f:Nat->E6) (i:Nat)  (j:Nat->V)
include L a n f i j
theorem AhL (h0:ilt (ofNat i) (ofNat n) = false):Ai (EH L) (JA a n f) (HR a n f i j) = some ((.ex 2),⟨(jsV 53 0 (fun _=>.und) [(4,(iV 0)),(5,(iV 0))]),[]⟩):=Aa [false] [ilt (ofNat i) (ofNat n)] (by kernel_rfl) (by simp only [h0] <;> rfl)
theorem AhK (h0:ilt (ofNat i) (ofNat n) = true) (h1:Af (ile 0 (ofNat i)) (ilt (ofNat i) (ofNat n)) = true) (h2:ieq (ofNat n) 0 = false) (h3:Af (ile 0 (Ad (wr .i64 (Ae (ofNat i) 1)) (ofNat n))) (ilt (Ad (wr .i64 (Ae (ofNat i) 1)) (ofNat n)) (ofNat n)) = true) (h4:ieq ((f i)).dst ((f (toN (Ad (wr .i64 (Ae (ofNat i) 1)) (ofNat n))))).src = false):Ai (EH L) (JA a n f) (HR a n f i j) = some (.rt,⟨(jsV 53 0 (fun _=>.und) [(4,(iV 41)),(5,(nV i))]),[]⟩):=Aa [true,true,false,true,true] [ilt (ofNat i) (ofNat n),Af (ile 0 (ofNat i)) (ilt (ofNat i) (ofNat n)),ieq (ofNat n) 0,Af (ile 0 (Ad (wr .i64 (Ae (ofNat i) 1)) (ofNat n))) (ilt (Ad (wr .i64 (Ae (ofNat i) 1)) (ofNat n)) (ofNat n)),Am (ieq ((f i)).dst ((f (toN (Ad (wr .i64 (Ae (ofNat i) 1)) (ofNat n))))).src)] (by kernel_rfl) (by simp only [h1,h3] <;> simp only [*] <;> rfl)
theorem AhJ (h0:ilt (ofNat i) (ofNat n) = true) (h1:Af (ile 0 (ofNat i)) (ilt (ofNat i) (ofNat n)) = true) (h2:ieq (ofNat n) 0 = false) (h3:Af (ile 0 (Ad (wr .i64 (Ae (ofNat i) 1)) (ofNat n))) (ilt (Ad (wr .i64 (Ae (ofNat i) 1)) (ofNat n)) (ofNat n)) = true) (h4:ieq ((f i)).dst ((f (toN (Ad (wr .i64 (Ae (ofNat i) 1)) (ofNat n))))).src = true):Ai (EH L) (JA a n f) (HR a n f i j) = some (.nm,⟨(jsV 53 0 (fun _=>.und) [(1,(.sl 6 n (fun i=>eV (f i)))),(4,(iV 0)),(5,(iV 0)),(32,(.sl 6 n (fun i=>eV (f i)))),(33,(nV n)),(34,(iV (wr .i64 (Ae (ofNat i) 1))))]),[]⟩):=Aa [true,true,false,true,false] [ilt (ofNat i) (ofNat n),Af (ile 0 (ofNat i)) (ilt (ofNat i) (ofNat n)),ieq (ofNat n) 0,Af (ile 0 (Ad (wr .i64 (Ae (ofNat i) 1)) (ofNat n))) (ilt (Ad (wr .i64 (Ae (ofNat i) 1)) (ofNat n)) (ofNat n)),Am (ieq ((f i)).dst ((f (toN (Ad (wr .i64 (Ae (ofNat i) 1)) (ofNat n))))).src)] (by kernel_rfl) (by simp only [h1,h3] <;> simp only [*] <;> rfl)
end
def Qt (_:Int) (_:Nat) (_:Nat->E6) (_:Nat):Nat->V:=lkV A7 [(0,.und),(2,.und),(3,.und),(6,.und),(7,.und),(8,.und),(9,.und),(10,.und),(11,.und),(12,.und),(13,.und),(14,.und),(15,.und),(16,.und),(17,.und),(18,.und),(19,.und),(20,.und),(21,.und),(22,.und),(23,.und),(24,.und),(25,.und),(26,.und),(27,.und),(28,.und),(29,.und),(30,.und),(31,.und),(35,.und),(36,.und),(37,.und),(38,.und),(39,.und),(40,.und),(41,.und),(42,.und),(43,.und),(44,.und),(45,.und),(46,.und),(47,.und),(48,.und),(49,.und),(50,.und),(51,.und),(52,.und)]
section
variable (L:LT) (p0:PT) (a:Int) (n:Nat) (f:Nat->E6) (i:Nat)
include L p0 a n f i
theorem Ag0  (hp0:p0 (Eu (onP 0 p0 (VA a n f i) L)) (KL a n f 0 (RW a n f )) = true):(A1 (Al tab ⟨Ao Rl,onP 0 p0 (VA a n f i) L,Gl⟩ Try.f81 [iV a,A2 n f] [])).sem = some ((.tup [iV 30,nV i]),[]):=Aa [true] [p0 (Eu (onP 0 p0 (VA a n f i) L)) (KL a n f 0 (RW a n f ))] (by kernel_rfl) (by simp only [hp0] <;> rfl)
theorem Agz  (hp0:p0 (Eu (onP 0 p0 (V9 a n f i) L)) (KL a n f 0 (RW a n f )) = true):(A1 (Al tab ⟨Ao Rl,onP 0 p0 (V9 a n f i) L,Gl⟩ Try.f81 [iV a,A2 n f] [])).sem = some ((.tup [iV 5,nV i]),[]):=Aa [true] [p0 (Eu (onP 0 p0 (V9 a n f i) L)) (KL a n f 0 (RW a n f ))] (by kernel_rfl) (by simp only [hp0] <;> rfl)
end
section
variable (L:LT) (p0:PT) (p2:PT) (a:Int) (n:Nat) (f:Nat->E6) (i j:Nat)
include L p0 p2 a n f i j
theorem Agy  (hp0:p0 (Eu (onP 0 p0 (Ip a n f i) (onP 2 p2 (Jb a n f j) L))) (KL a n f 0 (RW a n f )) = true) (hp2:p2 (EH (onP 0 p0 (Ip a n f i) (onP 2 p2 (Jb a n f j) L))) (HR a n f 0 (Qt a n f i)) = true):(A1 (Al tab ⟨Ao Rl,onP 0 p0 (Ip a n f i) (onP 2 p2 (Jb a n f j) L),Gl⟩ Try.f81 [iV a,A2 n f] [])).sem = some ((.tup [iV 41,nV j]),[]):=Aa [true,true] [p0 (Eu (onP 0 p0 (Ip a n f i) (onP 2 p2 (Jb a n f j) L))) (KL a n f 0 (RW a n f )),p2 (EH (onP 0 p0 (Ip a n f i) (onP 2 p2 (Jb a n f j) L))) (HR a n f 0 (Qt a n f i))] (by kernel_rfl) (by simp only [hp0,hp2] <;> rfl)
theorem Agx  (hp0:p0 (Eu (onP 0 p0 (Ip a n f i) (onP 2 p2 (Jc a n f j) L))) (KL a n f 0 (RW a n f )) = true) (hp2:p2 (EH (onP 0 p0 (Ip a n f i) (onP 2 p2 (Jc a n f j) L))) (HR a n f 0 (Qt a n f i)) = true):(A1 (Al tab ⟨Ao Rl,onP 0 p0 (Ip a n f i) (onP 2 p2 (Jc a n f j) L),Gl⟩ Try.f81 [iV a,A2 n f] [])).sem = some ((.tup [iV 0,iV 0]),[]):=Aa [true,true] [p0 (Eu (onP 0 p0 (Ip a n f i) (onP 2 p2 (Jc a n f j) L))) (KL a n f 0 (RW a n f )),p2 (EH (onP 0 p0 (Ip a n f i) (onP 2 p2 (Jc a n f j) L))) (HR a n f 0 (Qt a n f i))] (by kernel_rfl) (by simp only [hp0,hp2] <;> rfl)
end
theorem Acd (L:LT) (a:Int) (n:Nat) (f:Nat->E6) (hn:n <= 4611686018427387904):∀ (d i:Nat) (j:Nat->V) (q:Nat),n = i+d->d < q ->
    (A3 (Eu L) (RK a n f) q (KL a n f i j)).sem = some (match Bb (Cu a f) d i with
      | none=>Ip a n f 0
      | some t=>match ieq (Dw a (f t)) 0 with
        | false=>VA a n f t
        | true=>V9 a n f t)
  | 0,i,j,q+1,h,_=>by
    have:n = i:=by omega
    subst this
    exact Ab (Aib L a n f n j (A8 (Nat.le_refl _)))
  | d+1,i,j,q+1,h,h2=>by
    have hl:i < n:=by omega
    cases c1:ieq (Dw a (f i)) 0 with
    | false =>
      rw [BT (show Cu a f i = true by rw [Cu,c1]; rfl)]
      simp only [c1]
      exact Ab (Aia L a n f i j (ofNat_lt hl) (Ay hl) c1)
    | true =>
      cases c2:D7 a (f i) with
      | false =>
        rw [BT (show Cu a f i = true by rw [Cu,c1,c2]; rfl)]
        simp only [c1]
        exact Ab (AhZ L a n f i j (ofNat_lt hl) (Ay hl) c1 c2)
      | true =>
        rw [Bz (show Cu a f i = false by rw [Cu,c1,c2]; rfl),Ab (AhY L a n f i j (ofNat_lt hl) (Ay hl) c1 c2),Aw,Aq hl hn]
        exact Acd L a n f hn d (i+1) (fun _=>.und) q (by omega) (by omega)
theorem XV (L:LT) (a:Int) (n:Nat) (f:Nat->E6) (hn:n <= 4611686018427387904):∀ (d i:Nat) (j:Nat->V) (q:Nat),n = i+d->d < q ->
    (A3 (EH L) (JA a n f) q (HR a n f i j)).sem = some (match Bb (EX n f) d i with
      | none=>Jc a n f 0
      | some t=>Jb a n f t)
  | 0,i,j,q+1,h,_=>by
    have:n = i:=by omega
    subst this
    exact Ab (AhL L a n f n j (A8 (Nat.le_refl _)))
  | d+1,i,j,q+1,h,h2=>by
    have hl:i < n:=by omega
    have e1:=Nk hl hn
    have hb:Af (ile 0 (Ad (wr .i64 (Ae (ofNat i) 1)) (ofNat n))) (ilt (Ad (wr .i64 (Ae (ofNat i) 1)) (ofNat n)) (ofNat n)) = true:=by
      rw [e1]; exact Ay (Nat.mod_lt _ (by omega))
    have e2:toN (ofNat ((i+1) % n)) = (i+1) % n:=rfl
    cases c1:ieq (f i).dst (f ((i+1) % n)).src with
    | false =>
      rw [BT (show EX n f i = true by rw [EX,c1]; rfl)]
      exact Ab (AhK L a n f i j (ofNat_lt hl) (Ay hl) (W1 hl) hb (by rw [e1,e2]; exact c1))
    | true =>
      rw [Bz (show EX n f i = false by rw [EX,c1]; rfl),Ab (AhJ L a n f i j (ofNat_lt hl) (Ay hl) (W1 hl) hb (by rw [e1,e2]; exact c1)),Aw,Aq hl hn]
      exact XV L a n f hn d (i+1) (fun _=>.und) q (by omega) (by omega)
def Dn (a:Int) (n:Nat) (f:Nat->E6):Int × Int :=
  match Bb (Cu a f) n 0 with
  | some t=>match ieq (Dw a (f t)) 0 with
    | false=>(30,ofNat t)
    | true=>(5,ofNat t)
  | none=>match Bb (EX n f) n 0 with
    | some t=>(41,ofNat t)
    | none=>(0,0)
def AfU:List V->T (V × List Blk)
  | [.val (.int .i64 a),v]=>apL v fun n f=>.br (AL n) (out (.tup [iV (Dn a n f).1,iV (Dn a n f).2])) .fail
  | _=>.fail
theorem QZ {a:Int} {v u:V} (h:∀ (S:Nat->Prop) (w:World) (c:Value),VR S w v noK c->VR S w u noK c):BA [.val (.int .i64 a),v] [iV a,u]:=fun S w cs hv=>by
  obtain ⟨c,l,rfl,q1,q2⟩:=hv
  obtain ⟨c2,l2,rfl,q3,q4⟩:=q2
  exact ⟨c,_,rfl,q1,c2,l2,rfl,h S w c2 q3,q4⟩
theorem p86:AD Try.prog Gl 81 AfU:=by
  refine A5 AO AP Try.func81 (by kernel_rfl) (by kernel_rfl) fun vs v h' h=>?_
  unfold AfU at h
  split at h
  · rename_i a u
    obtain ⟨n,f,ha,h1⟩:=BU h
    obtain ⟨hn,hq⟩:=Ag h1
    have:=Ac hq
    simp only [Prod.mk.injEq] at this
    obtain ⟨rfl,rfl⟩:=this
    have hn:=CE (ET hn)
    have hx:=AQ Aaq [(0,RK a n f),(2,JA a n f)]
    have hL:=AC [(0,RK a n f),(2,JA a n f)]
    have h0:=fun L j=>Acd L a n f hn n 0 j (n+1) (by omega) (by omega)
    have h2:=fun L j=>XV L a n f hn n 0 j (n+1) (by omega) (by omega)
    refine ⟨_,AR Gl Rl [(0,RK a n f),(2,JA a n f)],_,QZ ha,rfl,hx.1,hx.2,?_,AB.refl _⟩
    unfold Dn
    cases c1:Bb (Cu a f) n 0 with
    | some t =>
      rw [c1] at h0
      cases c2:ieq (Dw a (f t)) 0 with
      | false =>
        simp only [c2] at h0 ⊢
        exact A6 (Ax hL hL) _ (Ag0 _ _ a n f t (Ak (h0 _ _)))
      | true =>
        simp only [c2] at h0 ⊢
        exact A6 (Ax hL hL) _ (Agz _ _ a n f t (Ak (h0 _ _)))
    | none =>
      rw [c1] at h0
      cases c2:Bb (EX n f) n 0 with
      | some t =>
        rw [c2] at h2
        exact A6 (Ax (Ax hL hL) hL) _ (Agy _ _ _ a n f 0 t (Ak (h0 _ _)) (Ak (h2 _ _)))
      | none =>
        rw [c2] at h2
        exact A6 (Ax (Ax hL hL) hL) _ (Agx _ _ _ a n f 0 0 (Ak (h0 _ _)) (Ak (h2 _ _)))
  · cases h
def Mj (n:Nat) (_:Nat->E6) (_:Nat) (_:Nat->Int) (_:Int) (_:Bool):Lp:=⟨(bmK 38 0 [0,1,2,3,9,10]),0,bmK 38 0 [9],0,n+1⟩
def MH (n:Nat) (f:Nat->E6) (m:Nat) (l:Nat->Int) (k:Int) (w:Bool) (c:Int) (i:Nat) (j:Nat->V):St:=⟨(jsV 38 0 j [(0,.sl 6 n (fun i=>eV (f i))),(1,.sl 1 m (fun k=>iV (l k))),(2,iV k),(3,bV w),(9,iV c),(10,nV i)]),[]⟩
def V5 (_:Nat) (_:Nat->E6) (_:Nat) (_:Nat->Int) (_:Int) (_:Bool) (c:Int) (_:Nat):Ex × St:=(.ex 0,⟨(jsV 38 0 (fun _=>.und) [(9,iV c)]),[]⟩)
noncomputable def F7 (L:LT):St->T (Ex × St):=fun st=>A9 tab ⟨Ao tb0,L,Gl⟩ (Av Try.f68 0) 0 st
section
variable (L:LT) (n:Nat) (f:Nat->E6) (m:Nat) (l:Nat->Int) (k:Int) (w:Bool) (c:Int) (i:Nat)  (j:Nat->V)
include L n f m l k w c i j
theorem AhP (h0:ilt (ofNat i) (ofNat n) = false):Ai (F7 L) (Mj n f m l k w) (MH n f m l k w c i j) = some ((.ex 0),⟨(jsV 38 0 (fun _=>.und) [(9,(iV c))]),[]⟩):=Aa [false] [ilt (ofNat i) (ofNat n)] (by kernel_rfl) (by simp only [h0] <;> rfl)
theorem AhT (h0:ilt (ofNat i) (ofNat n) = true) (h1:Af (ile 0 (ofNat i)) (ilt (ofNat i) (ofNat m)) = true) (h2:ieq (l i) k = false):Ai (F7 L) (Mj n f m l k w) (MH n f m l k w c i j) = some (.nm,⟨(jsV 38 0 (fun _=>.und) [(0,(.sl 6 n (fun i=>eV (f i)))),(1,(.sl 1 m (fun k=>iV (l k)))),(2,(iV k)),(3,(bV w)),(9,(iV c)),(10,(iV (wr .i64 (Ae (ofNat i) 1))))]),[]⟩):=Aa (bbK 8 3) [ilt (ofNat i) (ofNat n),Af (ile 0 (ofNat i)) (ilt (ofNat i) (ofNat m)),ieq (l i) k,ieq (l i) k,ieq (l i) k,ieq (l i) k,ieq (l i) k,false] (by kernel_rfl) (by simp only [h1] <;> simp only [h0,h2] <;> rfl)
theorem AaO:((F7 L (MH n f m l k w c i j)).bind fun r=>T.leaf (QQ (Mj n f m l k w) r)).path [true,true,true,true,true,true,true,true,true,true,true,true,true,true,true] = some ([(ilt (ofNat i) (ofNat n)),(Af (ile 0 (ofNat i)) (ilt (ofNat i) (ofNat m))),(ieq (l i) k),(ieq (l i) k),(ieq (l i) k),(Am w),(Am w),(Am w),(Am w),(Am w),(Am w),(ieq (l i) k),(Am w),(ieq (l i) k),true],(.nm,⟨(jsV 38 0 (fun _=>.und) [(0,(.sl 6 n (fun i=>(eV (f i))))),(1,(.sl 1 m (fun k=>(iV (l k))))),(2,(iV k)),(3,(bV w)),(9,(iV (wr .i64 (Ae c 1)))),(10,(iV (wr .i64 (Ae (ofNat i) 1))))]),[]⟩)):=by kernel_rfl
theorem AhS (h0:ilt (ofNat i) (ofNat n) = true) (h1:Af (ile 0 (ofNat i)) (ilt (ofNat i) (ofNat m)) = true) (h2:ieq (l i) k = true) (h3:w = false):Ai (F7 L) (Mj n f m l k w) (MH n f m l k w c i j) = some (.nm,⟨(jsV 38 0 (fun _=>.und) [(0,(.sl 6 n (fun i=>eV (f i)))),(1,(.sl 1 m (fun k=>iV (l k)))),(2,(iV k)),(3,(bV w)),(9,(iV (wr .i64 (Ae c 1)))),(10,(iV (wr .i64 (Ae (ofNat i) 1))))]),[]⟩):=by
  subst h3; exact AH (AaO L n f m l k false c i j) (by simp only [h1] <;> simp only [h0,h2] <;> rfl)
theorem AaN:((F7 L (MH n f m l k w c i j)).bind fun r=>T.leaf (QQ (Mj n f m l k w) r)).path [true,true,true,true,true,false,false,false,true,false,false,false,true,false,true,true] = some ([(ilt (ofNat i) (ofNat n)),(Af (ile 0 (ofNat i)) (ilt (ofNat i) (ofNat m))),(ieq (l i) k),(ieq (l i) k),(ieq (l i) k),(Am w),(Am w),(Am w),(Af (ile 0 (ofNat i)) (ilt (ofNat i) (ofNat n))),(Am w),(Am w),(Am w),(ieq (l i) k),(Am w),(ieq (l i) k),(ieq ((f i)).src 2)],(.nm,⟨(jsV 38 0 (fun _=>.und) [(0,(.sl 6 n (fun i=>(eV (f i))))),(1,(.sl 1 m (fun k=>(iV (l k))))),(2,(iV k)),(3,(bV w)),(9,(iV (wr .i64 (Ae c 1)))),(10,(iV (wr .i64 (Ae (ofNat i) 1))))]),[]⟩)):=by kernel_rfl
theorem AhR (h0:ilt (ofNat i) (ofNat n) = true) (h1:Af (ile 0 (ofNat i)) (ilt (ofNat i) (ofNat m)) = true) (h2:ieq (l i) k = true) (h3:w = true) (h4:Af (ile 0 (ofNat i)) (ilt (ofNat i) (ofNat n)) = true) (h5:ieq ((f i)).src 2 = true):Ai (F7 L) (Mj n f m l k w) (MH n f m l k w c i j) = some (.nm,⟨(jsV 38 0 (fun _=>.und) [(0,(.sl 6 n (fun i=>eV (f i)))),(1,(.sl 1 m (fun k=>iV (l k)))),(2,(iV k)),(3,(bV w)),(9,(iV (wr .i64 (Ae c 1)))),(10,(iV (wr .i64 (Ae (ofNat i) 1))))]),[]⟩):=by
  subst h3; exact AH (AaN L n f m l k true c i j) (by simp only [h1,h4] <;> simp only [*] <;> rfl)
theorem AaM:((F7 L (MH n f m l k w c i j)).bind fun r=>T.leaf (QQ (Mj n f m l k w) r)).path [true,true,true,true,true,false,false,false,true,false,false,false,true,false,true,false] = some ([(ilt (ofNat i) (ofNat n)),(Af (ile 0 (ofNat i)) (ilt (ofNat i) (ofNat m))),(ieq (l i) k),(ieq (l i) k),(ieq (l i) k),(Am w),(Am w),(Am w),(Af (ile 0 (ofNat i)) (ilt (ofNat i) (ofNat n))),(Am w),(Am w),(Am w),(ieq (l i) k),(Am w),(ieq (l i) k),(ieq ((f i)).src 2)],(.nm,⟨(jsV 38 0 (fun _=>.und) [(0,(.sl 6 n (fun i=>(eV (f i))))),(1,(.sl 1 m (fun k=>(iV (l k))))),(2,(iV k)),(3,(bV w)),(9,(iV c)),(10,(iV (wr .i64 (Ae (ofNat i) 1))))]),[]⟩)):=by kernel_rfl
theorem AhQ (h0:ilt (ofNat i) (ofNat n) = true) (h1:Af (ile 0 (ofNat i)) (ilt (ofNat i) (ofNat m)) = true) (h2:ieq (l i) k = true) (h3:w = true) (h4:Af (ile 0 (ofNat i)) (ilt (ofNat i) (ofNat n)) = true) (h5:ieq ((f i)).src 2 = false):Ai (F7 L) (Mj n f m l k w) (MH n f m l k w c i j) = some (.nm,⟨(jsV 38 0 (fun _=>.und) [(0,(.sl 6 n (fun i=>eV (f i)))),(1,(.sl 1 m (fun k=>iV (l k)))),(2,(iV k)),(3,(bV w)),(9,(iV c)),(10,(iV (wr .i64 (Ae (ofNat i) 1))))]),[]⟩):=by
  subst h3; exact AH (AaM L n f m l k true c i j) (by simp only [h1,h4] <;> simp only [*] <;> rfl)
end
def AiA (_:Nat) (_:Nat->E6) (_:Nat) (_:Nat->Int) (_:Int) (_:Bool) :Nat->V:=lkV A7 [(8,(iV 0))]
theorem Ajf (L:LT) (p0:PT) (n:Nat) (f:Nat->E6) (m:Nat) (l:Nat->Int) (k:Int) (w:Bool) (c:Int) (i:Nat)  (hp0:p0 (F7 (onP 0 p0 (V5 n f m l k w c i) L)) (MH n f m l k w 0 0 (AiA n f m l k w )) = true):(A1 (Al tab ⟨Ao tb0,onP 0 p0 (V5 n f m l k w c i) L,Gl⟩ Try.f68 [A2 n f,DW m l,iV k,bV w] [])).sem = some ((iV c),[]):=Aa [true] [p0 (F7 (onP 0 p0 (V5 n f m l k w c i) L)) (MH n f m l k w 0 0 (AiA n f m l k w ))] (by kernel_rfl) (by simp only [hp0] <;> rfl)
def isW (e:E6):Bool:=ieq e.src 2
def Cs (l:Nat->Int) (c:Nat->Bool) (k:Int) (i:Nat):Bool:=Af (ieq (l i) k) (c i)
def Ea (n:Nat) (l:Nat->Int) (c:Nat->Bool) (k:Int):Int:=ofNat (Aj (Cs l c k) n)
def ofW (w:Bool) (f:Nat->E6) (i:Nat):Bool:=bor (Am w) (isW (f i))
theorem Rv (L:LT) (n:Nat) (f:Nat->E6) (l:Nat->Int) (k:Int) (w:Bool) (hn:n <= 4611686018427387904):∀ (d i:Nat) (j:Nat->V) (q:Nat),n = i+d->d < q ->
    (A3 (F7 L) (Mj n f n l k w) q (MH n f n l k w (ofNat (Aj (Cs l (ofW w f) k) i)) i j)).sem = some (V5 n f n l k w (ofNat (Aj (Cs l (ofW w f) k) n)) n)
  | 0,i,j,q+1,h,_=>by
    have:n = i:=by omega
    subst this
    exact Ab (AhP L n f n l k w (ofNat (Aj (Cs l (ofW w f) k) n)) n j (A8 (Nat.le_refl _)))
  | d+1,i,j,q+1,h,h2=>by
    have hl:i < n:=by omega
    have hc:=Bd (Cs l (ofW w f) k) i
    have yes:Cs l (ofW w f) k i = true->wr .i64 (Ae (ofNat (Aj (Cs l (ofW w f) k) i)) 1) = ofNat (Aj (Cs l (ofW w f) k) (i+1)):=fun h3=>by
      rw [Aq (show Aj (Cs l (ofW w f) k) i < n by omega) hn,Bi h3]
    have no:Cs l (ofW w f) k i = false->ofNat (Aj (Cs l (ofW w f) k) i) = ofNat (Aj (Cs l (ofW w f) k) (i+1)):=fun h3=>by rw [B2 h3]
    cases c1:ieq (l i) k with
    | false =>
      rw [Ab (AhT L n f n l k w (ofNat (Aj (Cs l (ofW w f) k) i)) i j (ofNat_lt hl) (Ay hl) c1),Aw,Aq hl hn,no (by rw [Cs,c1]; rfl)]
      exact Rv L n f l k w hn d (i+1) (fun _=>.und) q (by omega) (by omega)
    | true =>
      cases c2:w with
      | false =>
        subst c2
        rw [Ab (AhS L n f n l k false (ofNat (Aj (Cs l (ofW false f) k) i)) i j (ofNat_lt hl) (Ay hl) c1 rfl),Aw,Aq hl hn,yes (by rw [Cs,c1]; rfl)]
        exact Rv L n f l k false hn d (i+1) (fun _=>.und) q (by omega) (by omega)
      | true =>
        subst c2
        cases c3:ieq (f i).src 2 with
        | true =>
          rw [Ab (AhR L n f n l k true (ofNat (Aj (Cs l (ofW true f) k) i)) i j (ofNat_lt hl) (Ay hl) c1 rfl (Ay hl) c3),Aw,Aq hl hn,yes (by rw [Cs,c1,ofW,isW,c3]; rfl)]
          exact Rv L n f l k true hn d (i+1) (fun _=>.und) q (by omega) (by omega)
        | false =>
          rw [Ab (AhQ L n f n l k true (ofNat (Aj (Cs l (ofW true f) k) i)) i j (ofNat_lt hl) (Ay hl) c1 rfl (Ay hl) c3),Aw,Aq hl hn,no (by rw [Cs,c1,ofW,isW,c3]; rfl)]
          exact Rv L n f l k true hn d (i+1) (fun _=>.und) q (by omega) (by omega)
def ZD:List V->T (V × List Blk)
  | [v,u,.val (.int .i64 k),.val (.bool w)]=>apL v fun n f=>apI u fun m l=>.br (AN n m) (.br (Ah n) (out (iV (Ea n l (fun i=>bor (Am w) (isW (f i))) k))) .fail) .fail
  | _=>.fail
theorem p96:AD Try.prog Gl 68 ZD:=by
  refine A5 AO AP Try.func68 (by kernel_rfl) (by kernel_rfl) fun vs v h' h=>?_
  unfold ZD at h
  split at h
  · rename_i v1 u1 k w
    obtain ⟨n,f,ha,h1⟩:=BU h
    obtain ⟨m,l,hb,h2⟩:=FA h1
    obtain ⟨hm,h3⟩:=Ag h2
    obtain ⟨hn,hq⟩:=Ag h3
    have hm:n = m:=Nat.eq_of_beq_eq_true hm
    subst hm
    have:=Ac hq
    simp only [Prod.mk.injEq] at this
    obtain ⟨rfl,rfl⟩:=this
    have hn:n <= 4611686018427387904:=of_decide_eq_true hn
    have hA:BA [v1,u1,.val (.int .i64 k),.val (.bool w)] [A2 n f,DW n l,iV k,bV w]:=fun S w' cs hv=>by
      obtain ⟨c,l1,rfl,q1,c2,l2,rfl,q2,q3⟩:=hv
      exact ⟨c,_,rfl,ha S w' c q1,c2,l2,rfl,hb S w' c2 q2,q3⟩
    have hx:=AQ CU [(0,Mj n f n l k w)]
    have hL:=AC [(0,Mj n f n l k w)]
    exact ⟨_,AR Gl tb0 [(0,Mj n f n l k w)],_,hA,rfl,hx.1,hx.2,A6 (Ax hL hL) _ (Ajf _ _ n f n l k w _ n (Ak (Rv _ n f l k w hn n 0 _ (n+1) (by omega) (by omega)))),AB.refl _⟩
  · cases h
end Go.Proofs.Ytjhnfomefcngfaa.Ed
