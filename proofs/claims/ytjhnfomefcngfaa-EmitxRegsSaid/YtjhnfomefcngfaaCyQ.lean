/-
  Why one of some edges is not to be there; how many events have one number. No conditions.
-/
import Derived.Test.YtjhnfomefcngfaaCyP
namespace Go.Proofs.Ytjhnfomefcngfaa.Ed
open Go.Sy
open Int (ofNat)
def C2 (a:Int) (f:Nat->E6) (i:Nat):Bool:=An (Af (ieq (D9 a (f i)) 0) (DJ a (f i)))
def Fr (n:Nat) (f:Nat->E6) (i:Nat):Bool:=An (ieq (f i).dst (f ((i+1) % n)).src)
noncomputable def RI:List (Nat × (List V->T (V × List Blk))):=(110,ap2 gI toE λa e=>out (SB a e)) :: []
theorem AaI:AB Try.prog Gl RI:=.cons p32 .nil
theorem NE {i n:Nat} (h:i < n) (hn:n <= 4611686018427387904):Ab (wr .i64 (Ae (ofNat i) 1)) (ofNat n) = ofNat ((i+1) % n):=by rw [Ao h hn,C5]
theorem WX {i n:Nat} (h:i < n):ieq (ofNat n) 0 = false:=by rw [show (0:Int) = ofNat 0 from rfl,Dx,decide_eq_false (by omega)]
def S6 (_:Int) (n:Nat) (_:Nat->E6):Lp:=⟨(bmK 53 0 [0,1,4,5,12,13,14]),0,bmK 53 0 [1,4,5],0,n+1⟩
def Lc (a:Int) (n:Nat) (f:Nat->E6) (i:Nat) (j:Nat->V):St:=⟨(jsV 53 0 j [(0,iV a),(1,.sl 6 n (λi=>eV (f i))),(4,iV 0),(5,iV 0),(12,.sl 6 n (λi=>eV (f i))),(13,nV n),(14,nV i)]),[]⟩
def IE (_:Int) (n:Nat) (f:Nat->E6) (_:Nat):Ex × St:=(.ex 0,⟨(jsV 53 0 (λ_=>.und) [(1,.sl 6 n (λi=>eV (f i))),(4,iV 0),(5,iV 0)]),[]⟩)
def Wl (_:Int) (n:Nat) (f:Nat->E6) (i:Nat):Ex × St:=(.rt,⟨(jsV 53 0 (λ_=>.und) [(1,.sl 6 n (λi=>eV (f i))),(4,iV 30),(5,nV i)]),[]⟩)
def Wk (_:Int) (n:Nat) (f:Nat->E6) (i:Nat):Ex × St:=(.rt,⟨(jsV 53 0 (λ_=>.und) [(1,.sl 6 n (λi=>eV (f i))),(4,iV 5),(5,nV i)]),[]⟩)
noncomputable def EA (L:LT):St->T (Ex × St):=λst=>AF tab ⟨Ap RI,L,Gl⟩ (A1 Try.f81 0) 0 st
section
variable (L:LT) (a:Int) (n:Nat) (f:Nat->E6) (i:Nat)  (j:Nat->V)
include L a n f i j
theorem AiN (h0:ilt (ofNat i) (ofNat n) = false):Ai (EA L) (S6 a n f) (Lc a n f i j) = some ((.ex 0),⟨(jsV 53 0 (λ_=>.und) [(1,(.sl 6 n (λi=>eV (f i)))),(4,(iV 0)),(5,(iV 0))]),[]⟩):=Aa [false] [ilt (ofNat i) (ofNat n)] (by kernel_rfl) (by simp only [h0] <;> rfl)
theorem AiM (h0:ilt (ofNat i) (ofNat n) = true) (h1:Af (ile 0 (ofNat i)) (ilt (ofNat i) (ofNat n)) = true) (h2:ieq (D9 a (f i)) 0 = false):Ai (EA L) (S6 a n f) (Lc a n f i j) = some (.rt,⟨(jsV 53 0 (λ_=>.und) [(1,(.sl 6 n (λi=>eV (f i)))),(4,(iV 30)),(5,(nV i))]),[]⟩):=Aa [true,true,true] [ilt (ofNat i) (ofNat n),Af (ile 0 (ofNat i)) (ilt (ofNat i) (ofNat n)),An (ieq (D9 a (f i)) 0)] (by kernel_rfl) (by simp only [h1] <;> simp only [h0,h2] <;> rfl)
theorem AiL (h0:ilt (ofNat i) (ofNat n) = true) (h1:Af (ile 0 (ofNat i)) (ilt (ofNat i) (ofNat n)) = true) (h2:ieq (D9 a (f i)) 0 = true) (h3:DJ a (f i) = false):Ai (EA L) (S6 a n f) (Lc a n f i j) = some (.rt,⟨(jsV 53 0 (λ_=>.und) [(1,(.sl 6 n (λi=>eV (f i)))),(4,(iV 5)),(5,(nV i))]),[]⟩):=Aa [true,true,false,true] [ilt (ofNat i) (ofNat n),Af (ile 0 (ofNat i)) (ilt (ofNat i) (ofNat n)),An (ieq (D9 a (f i)) 0),An (DJ a (f i))] (by kernel_rfl) (by simp only [h1] <;> simp only [*] <;> rfl)
theorem AiK (h0:ilt (ofNat i) (ofNat n) = true) (h1:Af (ile 0 (ofNat i)) (ilt (ofNat i) (ofNat n)) = true) (h2:ieq (D9 a (f i)) 0 = true) (h3:DJ a (f i) = true):Ai (EA L) (S6 a n f) (Lc a n f i j) = some (.nm,⟨(jsV 53 0 (λ_=>.und) [(0,(iV a)),(1,(.sl 6 n (λi=>eV (f i)))),(4,(iV 0)),(5,(iV 0)),(12,(.sl 6 n (λi=>eV (f i)))),(13,(nV n)),(14,(iV (wr .i64 (Ae (ofNat i) 1))))]),[]⟩):=Aa [true,true,false,false] [ilt (ofNat i) (ofNat n),Af (ile 0 (ofNat i)) (ilt (ofNat i) (ofNat n)),An (ieq (D9 a (f i)) 0),An (DJ a (f i))] (by kernel_rfl) (by simp only [h1] <;> simp only [*] <;> rfl)
end
def SF (_:Int) (_:Nat) (_:Nat->E6) :Nat->V:=lkV AA []
def JN (_:Int) (n:Nat) (_:Nat->E6):Lp:=⟨(bmK 53 0 [1,4,5,32,33,34]),0,bmK 53 0 [4,5],0,n+1⟩
def Iq (_:Int) (n:Nat) (f:Nat->E6) (i:Nat) (j:Nat->V):St:=⟨(jsV 53 0 j [(1,.sl 6 n (λi=>eV (f i))),(4,iV 0),(5,iV 0),(32,.sl 6 n (λi=>eV (f i))),(33,nV n),(34,nV i)]),[]⟩
def Jx (_:Int) (_:Nat) (_:Nat->E6) (_:Nat):Ex × St:=(.ex 2,⟨(jsV 53 0 (λ_=>.und) [(4,iV 0),(5,iV 0)]),[]⟩)
def Jw (_:Int) (_:Nat) (_:Nat->E6) (i:Nat):Ex × St:=(.rt,⟨(jsV 53 0 (λ_=>.und) [(4,iV 41),(5,nV i)]),[]⟩)
noncomputable def EW (L:LT):St->T (Ex × St):=λst=>AF tab ⟨Ap RI,L,Gl⟩ (A1 Try.f81 2) 2 st
section
variable (L:LT) (a:Int) (n:Nat) (f:Nat->E6) (i:Nat)  (j:Nat->V)
include L a n f i j
theorem Ai7 (h0:ilt (ofNat i) (ofNat n) = false):Ai (EW L) (JN a n f) (Iq a n f i j) = some ((.ex 2),⟨(jsV 53 0 (λ_=>.und) [(4,(iV 0)),(5,(iV 0))]),[]⟩):=Aa [false] [ilt (ofNat i) (ofNat n)] (by kernel_rfl) (by simp only [h0] <;> rfl)
theorem Ai6 (h0:ilt (ofNat i) (ofNat n) = true) (h1:Af (ile 0 (ofNat i)) (ilt (ofNat i) (ofNat n)) = true) (h2:ieq (ofNat n) 0 = false) (h3:Af (ile 0 (Ab (wr .i64 (Ae (ofNat i) 1)) (ofNat n))) (ilt (Ab (wr .i64 (Ae (ofNat i) 1)) (ofNat n)) (ofNat n)) = true) (h4:ieq ((f i)).dst ((f (toN (Ab (wr .i64 (Ae (ofNat i) 1)) (ofNat n))))).src = false):Ai (EW L) (JN a n f) (Iq a n f i j) = some (.rt,⟨(jsV 53 0 (λ_=>.und) [(4,(iV 41)),(5,(nV i))]),[]⟩):=Aa [true,true,false,true,true] [ilt (ofNat i) (ofNat n),Af (ile 0 (ofNat i)) (ilt (ofNat i) (ofNat n)),ieq (ofNat n) 0,Af (ile 0 (Ab (wr .i64 (Ae (ofNat i) 1)) (ofNat n))) (ilt (Ab (wr .i64 (Ae (ofNat i) 1)) (ofNat n)) (ofNat n)),An (ieq ((f i)).dst ((f (toN (Ab (wr .i64 (Ae (ofNat i) 1)) (ofNat n))))).src)] (by kernel_rfl) (by simp only [h1,h3] <;> simp only [*] <;> rfl)
theorem Ai5 (h0:ilt (ofNat i) (ofNat n) = true) (h1:Af (ile 0 (ofNat i)) (ilt (ofNat i) (ofNat n)) = true) (h2:ieq (ofNat n) 0 = false) (h3:Af (ile 0 (Ab (wr .i64 (Ae (ofNat i) 1)) (ofNat n))) (ilt (Ab (wr .i64 (Ae (ofNat i) 1)) (ofNat n)) (ofNat n)) = true) (h4:ieq ((f i)).dst ((f (toN (Ab (wr .i64 (Ae (ofNat i) 1)) (ofNat n))))).src = true):Ai (EW L) (JN a n f) (Iq a n f i j) = some (.nm,⟨(jsV 53 0 (λ_=>.und) [(1,(.sl 6 n (λi=>eV (f i)))),(4,(iV 0)),(5,(iV 0)),(32,(.sl 6 n (λi=>eV (f i)))),(33,(nV n)),(34,(iV (wr .i64 (Ae (ofNat i) 1))))]),[]⟩):=Aa [true,true,false,true,false] [ilt (ofNat i) (ofNat n),Af (ile 0 (ofNat i)) (ilt (ofNat i) (ofNat n)),ieq (ofNat n) 0,Af (ile 0 (Ab (wr .i64 (Ae (ofNat i) 1)) (ofNat n))) (ilt (Ab (wr .i64 (Ae (ofNat i) 1)) (ofNat n)) (ofNat n)),An (ieq ((f i)).dst ((f (toN (Ab (wr .i64 (Ae (ofNat i) 1)) (ofNat n))))).src)] (by kernel_rfl) (by simp only [h1,h3] <;> simp only [*] <;> rfl)
end
def QR (_:Int) (_:Nat) (_:Nat->E6) (_:Nat):Nat->V:=lkV AA [(0,.und),(2,.und),(3,.und),(6,.und),(7,.und),(8,.und),(9,.und),(10,.und),(11,.und),(12,.und),(13,.und),(14,.und),(15,.und),(16,.und),(17,.und),(18,.und),(19,.und),(20,.und),(21,.und),(22,.und),(23,.und),(24,.und),(25,.und),(26,.und),(27,.und),(28,.und),(29,.und),(30,.und),(31,.und),(35,.und),(36,.und),(37,.und),(38,.und),(39,.und),(40,.und),(41,.und),(42,.und),(43,.und),(44,.und),(45,.und),(46,.und),(47,.und),(48,.und),(49,.und),(50,.und),(51,.und),(52,.und)]
section
variable (L:LT) (p0:PT) (a:Int) (n:Nat) (f:Nat->E6) (i:Nat)
include L p0 a n f i
theorem Ahk  (hp0:p0 (EA (onP 0 p0 (Wl a n f i) L)) (Lc a n f 0 (SF a n f )) = true):(Az (Ak tab ⟨Ap RI,onP 0 p0 (Wl a n f i) L,Gl⟩ Try.f81 [iV a,A4 n f] [])).sem = some ((.tup [iV 30,nV i]),[]):=Aa [true] [p0 (EA (onP 0 p0 (Wl a n f i) L)) (Lc a n f 0 (SF a n f ))] (by kernel_rfl) (by simp only [hp0] <;> rfl)
theorem Ahj  (hp0:p0 (EA (onP 0 p0 (Wk a n f i) L)) (Lc a n f 0 (SF a n f )) = true):(Az (Ak tab ⟨Ap RI,onP 0 p0 (Wk a n f i) L,Gl⟩ Try.f81 [iV a,A4 n f] [])).sem = some ((.tup [iV 5,nV i]),[]):=Aa [true] [p0 (EA (onP 0 p0 (Wk a n f i) L)) (Lc a n f 0 (SF a n f ))] (by kernel_rfl) (by simp only [hp0] <;> rfl)
end
section
variable (L:LT) (p0:PT) (p2:PT) (a:Int) (n:Nat) (f:Nat->E6) (i j:Nat)
include L p0 p2 a n f i j
theorem Ahi  (hp0:p0 (EA (onP 0 p0 (IE a n f i) (onP 2 p2 (Jw a n f j) L))) (Lc a n f 0 (SF a n f )) = true) (hp2:p2 (EW (onP 0 p0 (IE a n f i) (onP 2 p2 (Jw a n f j) L))) (Iq a n f 0 (QR a n f i)) = true):(Az (Ak tab ⟨Ap RI,onP 0 p0 (IE a n f i) (onP 2 p2 (Jw a n f j) L),Gl⟩ Try.f81 [iV a,A4 n f] [])).sem = some ((.tup [iV 41,nV j]),[]):=Aa [true,true] [p0 (EA (onP 0 p0 (IE a n f i) (onP 2 p2 (Jw a n f j) L))) (Lc a n f 0 (SF a n f )),p2 (EW (onP 0 p0 (IE a n f i) (onP 2 p2 (Jw a n f j) L))) (Iq a n f 0 (QR a n f i))] (by kernel_rfl) (by simp only [hp0,hp2] <;> rfl)
theorem Ahh  (hp0:p0 (EA (onP 0 p0 (IE a n f i) (onP 2 p2 (Jx a n f j) L))) (Lc a n f 0 (SF a n f )) = true) (hp2:p2 (EW (onP 0 p0 (IE a n f i) (onP 2 p2 (Jx a n f j) L))) (Iq a n f 0 (QR a n f i)) = true):(Az (Ak tab ⟨Ap RI,onP 0 p0 (IE a n f i) (onP 2 p2 (Jx a n f j) L),Gl⟩ Try.f81 [iV a,A4 n f] [])).sem = some ((.tup [iV 0,iV 0]),[]):=Aa [true,true] [p0 (EA (onP 0 p0 (IE a n f i) (onP 2 p2 (Jx a n f j) L))) (Lc a n f 0 (SF a n f )),p2 (EW (onP 0 p0 (IE a n f i) (onP 2 p2 (Jx a n f j) L))) (Iq a n f 0 (QR a n f i))] (by kernel_rfl) (by simp only [hp0,hp2] <;> rfl)
end
theorem Ac8 (L:LT) (a:Int) (n:Nat) (f:Nat->E6) (hn:n <= 4611686018427387904):∀ (d i:Nat) (j:Nat->V) (q:Nat),n = i+d->d < q ->
  (A9 (EA L) (S6 a n f) q (Lc a n f i j)).sem = some (match Be (C2 a f) d i with
   | none=>IE a n f 0
   | some t=>match ieq (D9 a (f t)) 0 with
    | false=>Wl a n f t
    | true=>Wk a n f t)
 | 0,i,j,q+1,h,_=>by
  have:n = i:=by omega
  subst this
  exact Ad (AiN L a n f n j (AD (Nat.le_refl _)))
 | d+1,i,j,q+1,h,h2=>by
  have hl:i < n:=by omega
  cases c1:ieq (D9 a (f i)) 0 with
  | false =>
   rw [BZ (show C2 a f i = true by rw [C2,c1]; rfl)]
   simp only [c1]
   exact Ad (AiM L a n f i j (ofNat_lt hl) (Aq hl) c1)
  | true =>
   cases c2:DJ a (f i) with
   | false =>
    rw [BZ (show C2 a f i = true by rw [C2,c1,c2]; rfl)]
    simp only [c1]
    exact Ad (AiL L a n f i j (ofNat_lt hl) (Aq hl) c1 c2)
   | true =>
    rw [Bz (show C2 a f i = false by rw [C2,c1,c2]; rfl),Ad (AiK L a n f i j (ofNat_lt hl) (Aq hl) c1 c2),Ax,Ao hl hn]
    exact Ac8 L a n f hn d (i+1) (λ_=>.und) q (by omega) (by omega)
theorem Yu (L:LT) (a:Int) (n:Nat) (f:Nat->E6) (hn:n <= 4611686018427387904):∀ (d i:Nat) (j:Nat->V) (q:Nat),n = i+d->d < q ->
  (A9 (EW L) (JN a n f) q (Iq a n f i j)).sem = some (match Be (Fr n f) d i with
   | none=>Jx a n f 0
   | some t=>Jw a n f t)
 | 0,i,j,q+1,h,_=>by
  have:n = i:=by omega
  subst this
  exact Ad (Ai7 L a n f n j (AD (Nat.le_refl _)))
 | d+1,i,j,q+1,h,h2=>by
  have hl:i < n:=by omega
  have e1:=NE hl hn
  have hb:Af (ile 0 (Ab (wr .i64 (Ae (ofNat i) 1)) (ofNat n))) (ilt (Ab (wr .i64 (Ae (ofNat i) 1)) (ofNat n)) (ofNat n)) = true:=by
   rw [e1]; exact Aq (Nat.mod_lt _ (by omega))
  have e2:toN (ofNat ((i+1) % n)) = (i+1) % n:=rfl
  cases c1:ieq (f i).dst (f ((i+1) % n)).src with
  | false =>
   rw [BZ (show Fr n f i = true by rw [Fr,c1]; rfl)]
   exact Ad (Ai6 L a n f i j (ofNat_lt hl) (Aq hl) (WX hl) hb (by rw [e1,e2]; exact c1))
  | true =>
   rw [Bz (show Fr n f i = false by rw [Fr,c1]; rfl),Ad (Ai5 L a n f i j (ofNat_lt hl) (Aq hl) (WX hl) hb (by rw [e1,e2]; exact c1)),Ax,Ao hl hn]
   exact Yu L a n f hn d (i+1) (λ_=>.und) q (by omega) (by omega)
def Dy (a:Int) (n:Nat) (f:Nat->E6):Int × Int :=
 match Be (C2 a f) n 0 with
 | some t=>match ieq (D9 a (f t)) 0 with
  | false=>(30,ofNat t)
  | true=>(5,ofNat t)
 | none=>match Be (Fr n f) n 0 with
  | some t=>(41,ofNat t)
  | none=>(0,0)
def AgE:List V->T (V × List Blk)
 | [.val (.int .i64 a),v]=>apL v λn f=>.br (AN n) (out (.tup [iV (Dy a n f).1,iV (Dy a n f).2])) .fail
 | _=>.fail
theorem UU {a:Int} {v u:V} (h:∀ (S:Nat->Prop) (w:World) (c:Value),VR S w v noK c->VR S w u noK c):BJ [.val (.int .i64 a),v] [iV a,u]:=λS w cs hv=>by
 obtain ⟨c,l,rfl,q1,q2⟩:=hv
 obtain ⟨c2,l2,rfl,q3,q4⟩:=q2
 exact ⟨c,_,rfl,q1,c2,l2,rfl,h S w c2 q3,q4⟩
theorem p86:A6 Try.prog Gl 81 AgE:=by
 refine A5 AO AP Try.func81 (by kernel_rfl) (by kernel_rfl) λvs v h' h=>?_
 unfold AgE at h
 split at h
 ·rename_i a u
  obtain ⟨n,f,ha,h1⟩:=Cj h
  obtain ⟨hn,hq⟩:=Ag h1
  have:=Ac hq
  simp only [Prod.mk.injEq] at this
  obtain ⟨rfl,rfl⟩:=this
  have hn:=CM (Fm hn)
  have hx:=AQ AaI [(0,S6 a n f),(2,JN a n f)]
  have hL:=AL [(0,S6 a n f),(2,JN a n f)]
  have h0:=λL j=>Ac8 L a n f hn n 0 j (n+1) (by omega) (by omega)
  have h2:=λL j=>Yu L a n f hn n 0 j (n+1) (by omega) (by omega)
  refine ⟨_,AS Gl RI [(0,S6 a n f),(2,JN a n f)],_,UU ha,rfl,hx.1,hx.2,?_,AC.refl _⟩
  unfold Dy
  cases c1:Be (C2 a f) n 0 with
  | some t =>
   rw [c1] at h0
   cases c2:ieq (D9 a (f t)) 0 with
   | false =>
    simp only [c2] at h0 ⊢
    exact A7 (Ay hL hL) _ (Ahk _ _ a n f t (Am (h0 _ _)))
   | true =>
    simp only [c2] at h0 ⊢
    exact A7 (Ay hL hL) _ (Ahj _ _ a n f t (Am (h0 _ _)))
  | none =>
   rw [c1] at h0
   cases c2:Be (Fr n f) n 0 with
   | some t =>
    rw [c2] at h2
    exact A7 (Ay (Ay hL hL) hL) _ (Ahi _ _ _ a n f 0 t (Am (h0 _ _)) (Am (h2 _ _)))
   | none =>
    rw [c2] at h2
    exact A7 (Ay (Ay hL hL) hL) _ (Ahh _ _ _ a n f 0 0 (Am (h0 _ _)) (Am (h2 _ _)))
 ·cases h
def M4 (n:Nat) (_:Nat->E6) (_:Nat) (_:Nat->Int) (_:Int) (_:Bool):Lp:=⟨(bmK 38 0 [0,1,2,3,9,10]),0,bmK 38 0 [9],0,n+1⟩
def Nj (n:Nat) (f:Nat->E6) (m:Nat) (l:Nat->Int) (k:Int) (w:Bool) (c:Int) (i:Nat) (j:Nat->V):St:=⟨(jsV 38 0 j [(0,.sl 6 n (λi=>eV (f i))),(1,.sl 1 m (λk=>iV (l k))),(2,iV k),(3,bV w),(9,iV c),(10,nV i)]),[]⟩
def Wj (_:Nat) (_:Nat->E6) (_:Nat) (_:Nat->Int) (_:Int) (_:Bool) (c:Int) (_:Nat):Ex × St:=(.ex 0,⟨(jsV 38 0 (λ_=>.und) [(9,iV c)]),[]⟩)
noncomputable def FX (L:LT):St->T (Ex × St):=λst=>AF tab ⟨Ap tb0,L,Gl⟩ (A1 Try.f68 0) 0 st
section
variable (L:LT) (n:Nat) (f:Nat->E6) (m:Nat) (l:Nat->Int) (k:Int) (w:Bool) (c:Int) (i:Nat)  (j:Nat->V)
include L n f m l k w c i j
theorem AiB (h0:ilt (ofNat i) (ofNat n) = false):Ai (FX L) (M4 n f m l k w) (Nj n f m l k w c i j) = some ((.ex 0),⟨(jsV 38 0 (λ_=>.und) [(9,(iV c))]),[]⟩):=Aa [false] [ilt (ofNat i) (ofNat n)] (by kernel_rfl) (by simp only [h0] <;> rfl)
theorem AiF (h0:ilt (ofNat i) (ofNat n) = true) (h1:Af (ile 0 (ofNat i)) (ilt (ofNat i) (ofNat m)) = true) (h2:ieq (l i) k = false):Ai (FX L) (M4 n f m l k w) (Nj n f m l k w c i j) = some (.nm,⟨(jsV 38 0 (λ_=>.und) [(0,(.sl 6 n (λi=>eV (f i)))),(1,(.sl 1 m (λk=>iV (l k)))),(2,(iV k)),(3,(bV w)),(9,(iV c)),(10,(iV (wr .i64 (Ae (ofNat i) 1))))]),[]⟩):=Aa (bbK 8 3) [ilt (ofNat i) (ofNat n),Af (ile 0 (ofNat i)) (ilt (ofNat i) (ofNat m)),ieq (l i) k,ieq (l i) k,ieq (l i) k,ieq (l i) k,ieq (l i) k,false] (by kernel_rfl) (by simp only [h1] <;> simp only [h0,h2] <;> rfl)
theorem Abj:((FX L (Nj n f m l k w c i j)).bind λr=>T.leaf (Pa (M4 n f m l k w) r)).path [true,true,true,true,true,true,true,true,true,true,true,true,true,true,true] = some ([(ilt (ofNat i) (ofNat n)),(Af (ile 0 (ofNat i)) (ilt (ofNat i) (ofNat m))),(ieq (l i) k),(ieq (l i) k),(ieq (l i) k),(An w),(An w),(An w),(An w),(An w),(An w),(ieq (l i) k),(An w),(ieq (l i) k),true],(.nm,⟨(jsV 38 0 (λ_=>.und) [(0,(.sl 6 n (λi=>(eV (f i))))),(1,(.sl 1 m (λk=>(iV (l k))))),(2,(iV k)),(3,(bV w)),(9,(iV (wr .i64 (Ae c 1)))),(10,(iV (wr .i64 (Ae (ofNat i) 1))))]),[]⟩)):=by kernel_rfl
theorem AiE (h0:ilt (ofNat i) (ofNat n) = true) (h1:Af (ile 0 (ofNat i)) (ilt (ofNat i) (ofNat m)) = true) (h2:ieq (l i) k = true) (h3:w = false):Ai (FX L) (M4 n f m l k w) (Nj n f m l k w c i j) = some (.nm,⟨(jsV 38 0 (λ_=>.und) [(0,(.sl 6 n (λi=>eV (f i)))),(1,(.sl 1 m (λk=>iV (l k)))),(2,(iV k)),(3,(bV w)),(9,(iV (wr .i64 (Ae c 1)))),(10,(iV (wr .i64 (Ae (ofNat i) 1))))]),[]⟩):=by
 subst h3; exact AM (Abj L n f m l k false c i j) (by simp only [h1] <;> simp only [h0,h2] <;> rfl)
theorem Abi:((FX L (Nj n f m l k w c i j)).bind λr=>T.leaf (Pa (M4 n f m l k w) r)).path [true,true,true,true,true,false,false,false,true,false,false,false,true,false,true,true] = some ([(ilt (ofNat i) (ofNat n)),(Af (ile 0 (ofNat i)) (ilt (ofNat i) (ofNat m))),(ieq (l i) k),(ieq (l i) k),(ieq (l i) k),(An w),(An w),(An w),(Af (ile 0 (ofNat i)) (ilt (ofNat i) (ofNat n))),(An w),(An w),(An w),(ieq (l i) k),(An w),(ieq (l i) k),(ieq ((f i)).src 2)],(.nm,⟨(jsV 38 0 (λ_=>.und) [(0,(.sl 6 n (λi=>(eV (f i))))),(1,(.sl 1 m (λk=>(iV (l k))))),(2,(iV k)),(3,(bV w)),(9,(iV (wr .i64 (Ae c 1)))),(10,(iV (wr .i64 (Ae (ofNat i) 1))))]),[]⟩)):=by kernel_rfl
theorem AiD (h0:ilt (ofNat i) (ofNat n) = true) (h1:Af (ile 0 (ofNat i)) (ilt (ofNat i) (ofNat m)) = true) (h2:ieq (l i) k = true) (h3:w = true) (h4:Af (ile 0 (ofNat i)) (ilt (ofNat i) (ofNat n)) = true) (h5:ieq ((f i)).src 2 = true):Ai (FX L) (M4 n f m l k w) (Nj n f m l k w c i j) = some (.nm,⟨(jsV 38 0 (λ_=>.und) [(0,(.sl 6 n (λi=>eV (f i)))),(1,(.sl 1 m (λk=>iV (l k)))),(2,(iV k)),(3,(bV w)),(9,(iV (wr .i64 (Ae c 1)))),(10,(iV (wr .i64 (Ae (ofNat i) 1))))]),[]⟩):=by
 subst h3; exact AM (Abi L n f m l k true c i j) (by simp only [h1,h4] <;> simp only [*] <;> rfl)
theorem Abh:((FX L (Nj n f m l k w c i j)).bind λr=>T.leaf (Pa (M4 n f m l k w) r)).path [true,true,true,true,true,false,false,false,true,false,false,false,true,false,true,false] = some ([(ilt (ofNat i) (ofNat n)),(Af (ile 0 (ofNat i)) (ilt (ofNat i) (ofNat m))),(ieq (l i) k),(ieq (l i) k),(ieq (l i) k),(An w),(An w),(An w),(Af (ile 0 (ofNat i)) (ilt (ofNat i) (ofNat n))),(An w),(An w),(An w),(ieq (l i) k),(An w),(ieq (l i) k),(ieq ((f i)).src 2)],(.nm,⟨(jsV 38 0 (λ_=>.und) [(0,(.sl 6 n (λi=>(eV (f i))))),(1,(.sl 1 m (λk=>(iV (l k))))),(2,(iV k)),(3,(bV w)),(9,(iV c)),(10,(iV (wr .i64 (Ae (ofNat i) 1))))]),[]⟩)):=by kernel_rfl
theorem AiC (h0:ilt (ofNat i) (ofNat n) = true) (h1:Af (ile 0 (ofNat i)) (ilt (ofNat i) (ofNat m)) = true) (h2:ieq (l i) k = true) (h3:w = true) (h4:Af (ile 0 (ofNat i)) (ilt (ofNat i) (ofNat n)) = true) (h5:ieq ((f i)).src 2 = false):Ai (FX L) (M4 n f m l k w) (Nj n f m l k w c i j) = some (.nm,⟨(jsV 38 0 (λ_=>.und) [(0,(.sl 6 n (λi=>eV (f i)))),(1,(.sl 1 m (λk=>iV (l k)))),(2,(iV k)),(3,(bV w)),(9,(iV c)),(10,(iV (wr .i64 (Ae (ofNat i) 1))))]),[]⟩):=by
 subst h3; exact AM (Abh L n f m l k true c i j) (by simp only [h1,h4] <;> simp only [*] <;> rfl)
end
def Ajp (_:Nat) (_:Nat->E6) (_:Nat) (_:Nat->Int) (_:Int) (_:Bool) :Nat->V:=lkV AA [(8,(iV 0))]
theorem AjK (L:LT) (p0:PT) (n:Nat) (f:Nat->E6) (m:Nat) (l:Nat->Int) (k:Int) (w:Bool) (c:Int) (i:Nat)  (hp0:p0 (FX (onP 0 p0 (Wj n f m l k w c i) L)) (Nj n f m l k w 0 0 (Ajp n f m l k w )) = true):(Az (Ak tab ⟨Ap tb0,onP 0 p0 (Wj n f m l k w c i) L,Gl⟩ Try.f68 [A4 n f,ER m l,iV k,bV w] [])).sem = some ((iV c),[]):=Aa [true] [p0 (FX (onP 0 p0 (Wj n f m l k w c i) L)) (Nj n f m l k w 0 0 (Ajp n f m l k w ))] (by kernel_rfl) (by simp only [hp0] <;> rfl)
def isW (e:E6):Bool:=ieq e.src 2
def Co (l:Nat->Int) (c:Nat->Bool) (k:Int) (i:Nat):Bool:=Af (ieq (l i) k) (c i)
def Em (n:Nat) (l:Nat->Int) (c:Nat->Bool) (k:Int):Int:=ofNat (Aj (Co l c k) n)
def ofW (w:Bool) (f:Nat->E6) (i:Nat):Bool:=bor (An w) (isW (f i))
theorem Sa (L:LT) (n:Nat) (f:Nat->E6) (l:Nat->Int) (k:Int) (w:Bool) (hn:n <= 4611686018427387904):∀ (d i:Nat) (j:Nat->V) (q:Nat),n = i+d->d < q ->
  (A9 (FX L) (M4 n f n l k w) q (Nj n f n l k w (ofNat (Aj (Co l (ofW w f) k) i)) i j)).sem = some (Wj n f n l k w (ofNat (Aj (Co l (ofW w f) k) n)) n)
 | 0,i,j,q+1,h,_=>by
  have:n = i:=by omega
  subst this
  exact Ad (AiB L n f n l k w (ofNat (Aj (Co l (ofW w f) k) n)) n j (AD (Nat.le_refl _)))
 | d+1,i,j,q+1,h,h2=>by
  have hl:i < n:=by omega
  have hc:=AX (Co l (ofW w f) k) i
  have yes:Co l (ofW w f) k i = true->wr .i64 (Ae (ofNat (Aj (Co l (ofW w f) k) i)) 1) = ofNat (Aj (Co l (ofW w f) k) (i+1)):=λh3=>by
   rw [Ao (show Aj (Co l (ofW w f) k) i < n by omega) hn,Bi h3]
  have no:Co l (ofW w f) k i = false->ofNat (Aj (Co l (ofW w f) k) i) = ofNat (Aj (Co l (ofW w f) k) (i+1)):=λh3=>by rw [Br h3]
  cases c1:ieq (l i) k with
  | false =>
   rw [Ad (AiF L n f n l k w (ofNat (Aj (Co l (ofW w f) k) i)) i j (ofNat_lt hl) (Aq hl) c1),Ax,Ao hl hn,no (by rw [Co,c1]; rfl)]
   exact Sa L n f l k w hn d (i+1) (λ_=>.und) q (by omega) (by omega)
  | true =>
   cases c2:w with
   | false =>
    subst c2
    rw [Ad (AiE L n f n l k false (ofNat (Aj (Co l (ofW false f) k) i)) i j (ofNat_lt hl) (Aq hl) c1 rfl),Ax,Ao hl hn,yes (by rw [Co,c1]; rfl)]
    exact Sa L n f l k false hn d (i+1) (λ_=>.und) q (by omega) (by omega)
   | true =>
    subst c2
    cases c3:ieq (f i).src 2 with
    | true =>
     rw [Ad (AiD L n f n l k true (ofNat (Aj (Co l (ofW true f) k) i)) i j (ofNat_lt hl) (Aq hl) c1 rfl (Aq hl) c3),Ax,Ao hl hn,yes (by rw [Co,c1,ofW,isW,c3]; rfl)]
     exact Sa L n f l k true hn d (i+1) (λ_=>.und) q (by omega) (by omega)
    | false =>
     rw [Ad (AiC L n f n l k true (ofNat (Aj (Co l (ofW true f) k) i)) i j (ofNat_lt hl) (Aq hl) c1 rfl (Aq hl) c3),Ax,Ao hl hn,no (by rw [Co,c1,ofW,isW,c3]; rfl)]
     exact Sa L n f l k true hn d (i+1) (λ_=>.und) q (by omega) (by omega)
def Aad:List V->T (V × List Blk)
 | [v,u,.val (.int .i64 k),.val (.bool w)]=>apL v λn f=>apI u λm l=>.br (A3 n m) (.br (Ah n) (out (iV (Em n l (λi=>bor (An w) (isW (f i))) k))) .fail) .fail
 | _=>.fail
theorem p96:A6 Try.prog Gl 68 Aad:=by
 refine A5 AO AP Try.func68 (by kernel_rfl) (by kernel_rfl) λvs v h' h=>?_
 unfold Aad at h
 split at h
 ·rename_i v1 u1 k w
  obtain ⟨n,f,ha,h1⟩:=Cj h
  obtain ⟨m,l,hb,h2⟩:=Hq h1
  obtain ⟨hm,h3⟩:=Ag h2
  obtain ⟨hn,hq⟩:=Ag h3
  have hm:n = m:=Nat.eq_of_beq_eq_true hm
  subst hm
  have:=Ac hq
  simp only [Prod.mk.injEq] at this
  obtain ⟨rfl,rfl⟩:=this
  have hn:n <= 4611686018427387904:=of_decide_eq_true hn
  have hA:BJ [v1,u1,.val (.int .i64 k),.val (.bool w)] [A4 n f,ER n l,iV k,bV w]:=λS w' cs hv=>by
   obtain ⟨c,l1,rfl,q1,c2,l2,rfl,q2,q3⟩:=hv
   exact ⟨c,_,rfl,ha S w' c q1,c2,l2,rfl,hb S w' c2 q2,q3⟩
  have hx:=AQ Dd [(0,M4 n f n l k w)]
  have hL:=AL [(0,M4 n f n l k w)]
  exact ⟨_,AS Gl tb0 [(0,M4 n f n l k w)],_,hA,rfl,hx.1,hx.2,A7 (Ay hL hL) _ (AjK _ _ n f n l k w _ n (Am (Sa _ n f l k w hn n 0 _ (n+1) (by omega) (by omega)))),AC.refl _⟩
 ·cases h
end Go.Proofs.Ytjhnfomefcngfaa.Ed
