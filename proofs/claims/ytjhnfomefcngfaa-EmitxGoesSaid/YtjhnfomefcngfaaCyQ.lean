/-
  Why one of some edges is not to be there; how many events have one number. No conditions.
-/
import Derived.Test.YtjhnfomefcngfaaCyP
namespace Go.Proofs.Ytjhnfomefcngfaa.Ed
open Go.Sy
open Int (ofNat)
def C6 (a:Int) (f:Nat->E6) (i:Nat):Bool:=Ah (Af (ieq (DC a (f i)) 0) (DL a (f i)))
def Fq (n:Nat) (f:Nat->E6) (i:Nat):Bool:=Ah (ieq (f i).dst (f ((i+1) % n)).src)
noncomputable def RF:List (Nat × (List V->T (V × List Blk))):=(110,ap2 gI toE λa e=>out (S7 a e)) :: []
theorem AaD:AC Try.prog Gl RF:=.cons p32 .nil
theorem ND {i n:Nat} (h:i < n) (hn:n <= 4611686018427387904):Ab (wr .i64 (Ae (ofNat i) 1)) (ofNat n) = ofNat ((i+1) % n):=by rw [Ao h hn,C9]
theorem WO {i n:Nat} (h:i < n):ieq (ofNat n) 0 = false:=by rw [show (0:Int) = ofNat 0 from rfl,D1,decide_eq_false (by omega)]
def Sz (_:Int) (n:Nat) (_:Nat->E6):Lp:=⟨(bmK 53 0 [0,1,4,5,12,13,14]),0,bmK 53 0 [1,4,5],0,n+1⟩
def Le (a:Int) (n:Nat) (f:Nat->E6) (i:Nat) (j:Nat->V):St:=⟨(jsV 53 0 j [(0,iV a),(1,.sl 6 n (λi=>eV (f i))),(4,iV 0),(5,iV 0),(12,.sl 6 n (λi=>eV (f i))),(13,nV n),(14,nV i)]),[]⟩
def IE (_:Int) (n:Nat) (f:Nat->E6) (_:Nat):Ex × St:=(.ex 0,⟨(jsV 53 0 (λ_=>.und) [(1,.sl 6 n (λi=>eV (f i))),(4,iV 0),(5,iV 0)]),[]⟩)
def Wc (_:Int) (n:Nat) (f:Nat->E6) (i:Nat):Ex × St:=(.rt,⟨(jsV 53 0 (λ_=>.und) [(1,.sl 6 n (λi=>eV (f i))),(4,iV 30),(5,nV i)]),[]⟩)
def Wb (_:Int) (n:Nat) (f:Nat->E6) (i:Nat):Ex × St:=(.rt,⟨(jsV 53 0 (λ_=>.und) [(1,.sl 6 n (λi=>eV (f i))),(4,iV 5),(5,nV i)]),[]⟩)
noncomputable def EC (L:LT):St->T (Ex × St):=λst=>AG tab ⟨Aq RF,L,Gl⟩ (A1 Try.f81 0) 0 st
section
variable (L:LT) (a:Int) (n:Nat) (f:Nat->E6) (i:Nat)  (j:Nat->V)
include L a n f i j
theorem Ai5 (h0:ilt (ofNat i) (ofNat n) = false):Aj (EC L) (Sz a n f) (Le a n f i j) = some ((.ex 0),⟨(jsV 53 0 (λ_=>.und) [(1,(.sl 6 n (λi=>eV (f i)))),(4,(iV 0)),(5,(iV 0))]),[]⟩):=Aa [false] [ilt (ofNat i) (ofNat n)] (by kernel_rfl) (by simp only [h0] <;> rfl)
theorem Ai4 (h0:ilt (ofNat i) (ofNat n) = true) (h1:Af (ile 0 (ofNat i)) (ilt (ofNat i) (ofNat n)) = true) (h2:ieq (DC a (f i)) 0 = false):Aj (EC L) (Sz a n f) (Le a n f i j) = some (.rt,⟨(jsV 53 0 (λ_=>.und) [(1,(.sl 6 n (λi=>eV (f i)))),(4,(iV 30)),(5,(nV i))]),[]⟩):=Aa [true,true,true] [ilt (ofNat i) (ofNat n),Af (ile 0 (ofNat i)) (ilt (ofNat i) (ofNat n)),Ah (ieq (DC a (f i)) 0)] (by kernel_rfl) (by simp only [h1] <;> simp only [h0,h2] <;> rfl)
theorem Ai3 (h0:ilt (ofNat i) (ofNat n) = true) (h1:Af (ile 0 (ofNat i)) (ilt (ofNat i) (ofNat n)) = true) (h2:ieq (DC a (f i)) 0 = true) (h3:DL a (f i) = false):Aj (EC L) (Sz a n f) (Le a n f i j) = some (.rt,⟨(jsV 53 0 (λ_=>.und) [(1,(.sl 6 n (λi=>eV (f i)))),(4,(iV 5)),(5,(nV i))]),[]⟩):=Aa [true,true,false,true] [ilt (ofNat i) (ofNat n),Af (ile 0 (ofNat i)) (ilt (ofNat i) (ofNat n)),Ah (ieq (DC a (f i)) 0),Ah (DL a (f i))] (by kernel_rfl) (by simp only [h1] <;> simp only [*] <;> rfl)
theorem Ai2 (h0:ilt (ofNat i) (ofNat n) = true) (h1:Af (ile 0 (ofNat i)) (ilt (ofNat i) (ofNat n)) = true) (h2:ieq (DC a (f i)) 0 = true) (h3:DL a (f i) = true):Aj (EC L) (Sz a n f) (Le a n f i j) = some (.nm,⟨(jsV 53 0 (λ_=>.und) [(0,(iV a)),(1,(.sl 6 n (λi=>eV (f i)))),(4,(iV 0)),(5,(iV 0)),(12,(.sl 6 n (λi=>eV (f i)))),(13,(nV n)),(14,(iV (wr .i64 (Ae (ofNat i) 1))))]),[]⟩):=Aa [true,true,false,false] [ilt (ofNat i) (ofNat n),Af (ile 0 (ofNat i)) (ilt (ofNat i) (ofNat n)),Ah (ieq (DC a (f i)) 0),Ah (DL a (f i))] (by kernel_rfl) (by simp only [h1] <;> simp only [*] <;> rfl)
end
def SB (_:Int) (_:Nat) (_:Nat->E6) :Nat->V:=lkV A9 []
def JP (_:Int) (n:Nat) (_:Nat->E6):Lp:=⟨(bmK 53 0 [1,4,5,32,33,34]),0,bmK 53 0 [4,5],0,n+1⟩
def Iq (_:Int) (n:Nat) (f:Nat->E6) (i:Nat) (j:Nat->V):St:=⟨(jsV 53 0 j [(1,.sl 6 n (λi=>eV (f i))),(4,iV 0),(5,iV 0),(32,.sl 6 n (λi=>eV (f i))),(33,nV n),(34,nV i)]),[]⟩
def Jy (_:Int) (_:Nat) (_:Nat->E6) (_:Nat):Ex × St:=(.ex 2,⟨(jsV 53 0 (λ_=>.und) [(4,iV 0),(5,iV 0)]),[]⟩)
def Jx (_:Int) (_:Nat) (_:Nat->E6) (i:Nat):Ex × St:=(.rt,⟨(jsV 53 0 (λ_=>.und) [(4,iV 41),(5,nV i)]),[]⟩)
noncomputable def EY (L:LT):St->T (Ex × St):=λst=>AG tab ⟨Aq RF,L,Gl⟩ (A1 Try.f81 2) 2 st
section
variable (L:LT) (a:Int) (n:Nat) (f:Nat->E6) (i:Nat)  (j:Nat->V)
include L a n f i j
theorem Aip (h0:ilt (ofNat i) (ofNat n) = false):Aj (EY L) (JP a n f) (Iq a n f i j) = some ((.ex 2),⟨(jsV 53 0 (λ_=>.und) [(4,(iV 0)),(5,(iV 0))]),[]⟩):=Aa [false] [ilt (ofNat i) (ofNat n)] (by kernel_rfl) (by simp only [h0] <;> rfl)
theorem Aio (h0:ilt (ofNat i) (ofNat n) = true) (h1:Af (ile 0 (ofNat i)) (ilt (ofNat i) (ofNat n)) = true) (h2:ieq (ofNat n) 0 = false) (h3:Af (ile 0 (Ab (wr .i64 (Ae (ofNat i) 1)) (ofNat n))) (ilt (Ab (wr .i64 (Ae (ofNat i) 1)) (ofNat n)) (ofNat n)) = true) (h4:ieq ((f i)).dst ((f (toN (Ab (wr .i64 (Ae (ofNat i) 1)) (ofNat n))))).src = false):Aj (EY L) (JP a n f) (Iq a n f i j) = some (.rt,⟨(jsV 53 0 (λ_=>.und) [(4,(iV 41)),(5,(nV i))]),[]⟩):=Aa [true,true,false,true,true] [ilt (ofNat i) (ofNat n),Af (ile 0 (ofNat i)) (ilt (ofNat i) (ofNat n)),ieq (ofNat n) 0,Af (ile 0 (Ab (wr .i64 (Ae (ofNat i) 1)) (ofNat n))) (ilt (Ab (wr .i64 (Ae (ofNat i) 1)) (ofNat n)) (ofNat n)),Ah (ieq ((f i)).dst ((f (toN (Ab (wr .i64 (Ae (ofNat i) 1)) (ofNat n))))).src)] (by kernel_rfl) (by simp only [h1,h3] <;> simp only [*] <;> rfl)
theorem Ain (h0:ilt (ofNat i) (ofNat n) = true) (h1:Af (ile 0 (ofNat i)) (ilt (ofNat i) (ofNat n)) = true) (h2:ieq (ofNat n) 0 = false) (h3:Af (ile 0 (Ab (wr .i64 (Ae (ofNat i) 1)) (ofNat n))) (ilt (Ab (wr .i64 (Ae (ofNat i) 1)) (ofNat n)) (ofNat n)) = true) (h4:ieq ((f i)).dst ((f (toN (Ab (wr .i64 (Ae (ofNat i) 1)) (ofNat n))))).src = true):Aj (EY L) (JP a n f) (Iq a n f i j) = some (.nm,⟨(jsV 53 0 (λ_=>.und) [(1,(.sl 6 n (λi=>eV (f i)))),(4,(iV 0)),(5,(iV 0)),(32,(.sl 6 n (λi=>eV (f i)))),(33,(nV n)),(34,(iV (wr .i64 (Ae (ofNat i) 1))))]),[]⟩):=Aa [true,true,false,true,false] [ilt (ofNat i) (ofNat n),Af (ile 0 (ofNat i)) (ilt (ofNat i) (ofNat n)),ieq (ofNat n) 0,Af (ile 0 (Ab (wr .i64 (Ae (ofNat i) 1)) (ofNat n))) (ilt (Ab (wr .i64 (Ae (ofNat i) 1)) (ofNat n)) (ofNat n)),Ah (ieq ((f i)).dst ((f (toN (Ab (wr .i64 (Ae (ofNat i) 1)) (ofNat n))))).src)] (by kernel_rfl) (by simp only [h1,h3] <;> simp only [*] <;> rfl)
end
def QM (_:Int) (_:Nat) (_:Nat->E6) (_:Nat):Nat->V:=lkV A9 [(0,.und),(2,.und),(3,.und),(6,.und),(7,.und),(8,.und),(9,.und),(10,.und),(11,.und),(12,.und),(13,.und),(14,.und),(15,.und),(16,.und),(17,.und),(18,.und),(19,.und),(20,.und),(21,.und),(22,.und),(23,.und),(24,.und),(25,.und),(26,.und),(27,.und),(28,.und),(29,.und),(30,.und),(31,.und),(35,.und),(36,.und),(37,.und),(38,.und),(39,.und),(40,.und),(41,.und),(42,.und),(43,.und),(44,.und),(45,.und),(46,.und),(47,.und),(48,.und),(49,.und),(50,.und),(51,.und),(52,.und)]
section
variable (L:LT) (p0:PT) (a:Int) (n:Nat) (f:Nat->E6) (i:Nat)
include L p0 a n f i
theorem AgT  (hp0:p0 (EC (onP 0 p0 (Wc a n f i) L)) (Le a n f 0 (SB a n f )) = true):(A2 (An tab ⟨Aq RF,onP 0 p0 (Wc a n f i) L,Gl⟩ Try.f81 [iV a,A3 n f] [])).sem = some ((.tup [iV 30,nV i]),[]):=Aa [true] [p0 (EC (onP 0 p0 (Wc a n f i) L)) (Le a n f 0 (SB a n f ))] (by kernel_rfl) (by simp only [hp0] <;> rfl)
theorem AgS  (hp0:p0 (EC (onP 0 p0 (Wb a n f i) L)) (Le a n f 0 (SB a n f )) = true):(A2 (An tab ⟨Aq RF,onP 0 p0 (Wb a n f i) L,Gl⟩ Try.f81 [iV a,A3 n f] [])).sem = some ((.tup [iV 5,nV i]),[]):=Aa [true] [p0 (EC (onP 0 p0 (Wb a n f i) L)) (Le a n f 0 (SB a n f ))] (by kernel_rfl) (by simp only [hp0] <;> rfl)
end
section
variable (L:LT) (p0:PT) (p2:PT) (a:Int) (n:Nat) (f:Nat->E6) (i j:Nat)
include L p0 p2 a n f i j
theorem AgR  (hp0:p0 (EC (onP 0 p0 (IE a n f i) (onP 2 p2 (Jx a n f j) L))) (Le a n f 0 (SB a n f )) = true) (hp2:p2 (EY (onP 0 p0 (IE a n f i) (onP 2 p2 (Jx a n f j) L))) (Iq a n f 0 (QM a n f i)) = true):(A2 (An tab ⟨Aq RF,onP 0 p0 (IE a n f i) (onP 2 p2 (Jx a n f j) L),Gl⟩ Try.f81 [iV a,A3 n f] [])).sem = some ((.tup [iV 41,nV j]),[]):=Aa [true,true] [p0 (EC (onP 0 p0 (IE a n f i) (onP 2 p2 (Jx a n f j) L))) (Le a n f 0 (SB a n f )),p2 (EY (onP 0 p0 (IE a n f i) (onP 2 p2 (Jx a n f j) L))) (Iq a n f 0 (QM a n f i))] (by kernel_rfl) (by simp only [hp0,hp2] <;> rfl)
theorem AgQ  (hp0:p0 (EC (onP 0 p0 (IE a n f i) (onP 2 p2 (Jy a n f j) L))) (Le a n f 0 (SB a n f )) = true) (hp2:p2 (EY (onP 0 p0 (IE a n f i) (onP 2 p2 (Jy a n f j) L))) (Iq a n f 0 (QM a n f i)) = true):(A2 (An tab ⟨Aq RF,onP 0 p0 (IE a n f i) (onP 2 p2 (Jy a n f j) L),Gl⟩ Try.f81 [iV a,A3 n f] [])).sem = some ((.tup [iV 0,iV 0]),[]):=Aa [true,true] [p0 (EC (onP 0 p0 (IE a n f i) (onP 2 p2 (Jy a n f j) L))) (Le a n f 0 (SB a n f )),p2 (EY (onP 0 p0 (IE a n f i) (onP 2 p2 (Jy a n f j) L))) (Iq a n f 0 (QM a n f i))] (by kernel_rfl) (by simp only [hp0,hp2] <;> rfl)
end
theorem Ac4 (L:LT) (a:Int) (n:Nat) (f:Nat->E6) (hn:n <= 4611686018427387904):∀ (d i:Nat) (j:Nat->V) (q:Nat),n = i+d->d < q ->
  (A8 (EC L) (Sz a n f) q (Le a n f i j)).sem = some (match Bc (C6 a f) d i with
   | none=>IE a n f 0
   | some t=>match ieq (DC a (f t)) 0 with
    | false=>Wc a n f t
    | true=>Wb a n f t)
 | 0,i,j,q+1,h,_=>by
  have:n = i:=by omega
  subst this
  exact Ad (Ai5 L a n f n j (AF (Nat.le_refl _)))
 | d+1,i,j,q+1,h,h2=>by
  have hl:i < n:=by omega
  cases c1:ieq (DC a (f i)) 0 with
  | false =>
   rw [Cb (show C6 a f i = true by rw [C6,c1]; rfl)]
   simp only [c1]
   exact Ad (Ai4 L a n f i j (ofNat_lt hl) (Ap hl) c1)
  | true =>
   cases c2:DL a (f i) with
   | false =>
    rw [Cb (show C6 a f i = true by rw [C6,c1,c2]; rfl)]
    simp only [c1]
    exact Ad (Ai3 L a n f i j (ofNat_lt hl) (Ap hl) c1 c2)
   | true =>
    rw [B1 (show C6 a f i = false by rw [C6,c1,c2]; rfl),Ad (Ai2 L a n f i j (ofNat_lt hl) (Ap hl) c1 c2),Aw,Ao hl hn]
    exact Ac4 L a n f hn d (i+1) (λ_=>.und) q (by omega) (by omega)
theorem Yt (L:LT) (a:Int) (n:Nat) (f:Nat->E6) (hn:n <= 4611686018427387904):∀ (d i:Nat) (j:Nat->V) (q:Nat),n = i+d->d < q ->
  (A8 (EY L) (JP a n f) q (Iq a n f i j)).sem = some (match Bc (Fq n f) d i with
   | none=>Jy a n f 0
   | some t=>Jx a n f t)
 | 0,i,j,q+1,h,_=>by
  have:n = i:=by omega
  subst this
  exact Ad (Aip L a n f n j (AF (Nat.le_refl _)))
 | d+1,i,j,q+1,h,h2=>by
  have hl:i < n:=by omega
  have e1:=ND hl hn
  have hb:Af (ile 0 (Ab (wr .i64 (Ae (ofNat i) 1)) (ofNat n))) (ilt (Ab (wr .i64 (Ae (ofNat i) 1)) (ofNat n)) (ofNat n)) = true:=by
   rw [e1]; exact Ap (Nat.mod_lt _ (by omega))
  have e2:toN (ofNat ((i+1) % n)) = (i+1) % n:=rfl
  cases c1:ieq (f i).dst (f ((i+1) % n)).src with
  | false =>
   rw [Cb (show Fq n f i = true by rw [Fq,c1]; rfl)]
   exact Ad (Aio L a n f i j (ofNat_lt hl) (Ap hl) (WO hl) hb (by rw [e1,e2]; exact c1))
  | true =>
   rw [B1 (show Fq n f i = false by rw [Fq,c1]; rfl),Ad (Ain L a n f i j (ofNat_lt hl) (Ap hl) (WO hl) hb (by rw [e1,e2]; exact c1)),Aw,Ao hl hn]
   exact Yt L a n f hn d (i+1) (λ_=>.und) q (by omega) (by omega)
def D2 (a:Int) (n:Nat) (f:Nat->E6):Int × Int :=
 match Bc (C6 a f) n 0 with
 | some t=>match ieq (DC a (f t)) 0 with
  | false=>(30,ofNat t)
  | true=>(5,ofNat t)
 | none=>match Bc (Fq n f) n 0 with
  | some t=>(41,ofNat t)
  | none=>(0,0)
def Agz:List V->T (V × List Blk)
 | [.val (.int .i64 a),v]=>apL v λn f=>.br (AN n) (out (.tup [iV (D2 a n f).1,iV (D2 a n f).2])) .fail
 | _=>.fail
theorem UN {a:Int} {v u:V} (h:∀ (S:Nat->Prop) (w:World) (c:Value),VR S w v noK c->VR S w u noK c):BL [.val (.int .i64 a),v] [iV a,u]:=λS w cs hv=>by
 obtain ⟨c,l,rfl,q1,q2⟩:=hv
 obtain ⟨c2,l2,rfl,q3,q4⟩:=q2
 exact ⟨c,_,rfl,q1,c2,l2,rfl,h S w c2 q3,q4⟩
theorem p86:AA Try.prog Gl 81 Agz:=by
 refine A5 AQ AR Try.func81 (by kernel_rfl) (by kernel_rfl) λvs v h' h=>?_
 unfold Agz at h
 split at h
 ·rename_i a u
  obtain ⟨n,f,ha,h1⟩:=Cl h
  obtain ⟨hn,hq⟩:=Ag h1
  have:=Ac hq
  simp only [Prod.mk.injEq] at this
  obtain ⟨rfl,rfl⟩:=this
  have hn:=CQ (Fl hn)
  have hx:=AS AaD [(0,Sz a n f),(2,JP a n f)]
  have hL:=AL [(0,Sz a n f),(2,JP a n f)]
  have h0:=λL j=>Ac4 L a n f hn n 0 j (n+1) (by omega) (by omega)
  have h2:=λL j=>Yt L a n f hn n 0 j (n+1) (by omega) (by omega)
  refine ⟨_,AT Gl RF [(0,Sz a n f),(2,JP a n f)],_,UN ha,rfl,hx.1,hx.2,?_,AE.refl _⟩
  unfold D2
  cases c1:Bc (C6 a f) n 0 with
  | some t =>
   rw [c1] at h0
   cases c2:ieq (DC a (f t)) 0 with
   | false =>
    simp only [c2] at h0 ⊢
    exact A6 (Az hL hL) _ (AgT _ _ a n f t (Am (h0 _ _)))
   | true =>
    simp only [c2] at h0 ⊢
    exact A6 (Az hL hL) _ (AgS _ _ a n f t (Am (h0 _ _)))
  | none =>
   rw [c1] at h0
   cases c2:Bc (Fq n f) n 0 with
   | some t =>
    rw [c2] at h2
    exact A6 (Az (Az hL hL) hL) _ (AgR _ _ _ a n f 0 t (Am (h0 _ _)) (Am (h2 _ _)))
   | none =>
    rw [c2] at h2
    exact A6 (Az (Az hL hL) hL) _ (AgQ _ _ _ a n f 0 0 (Am (h0 _ _)) (Am (h2 _ _)))
 ·cases h
def M6 (n:Nat) (_:Nat->E6) (_:Nat) (_:Nat->Int) (_:Int) (_:Bool):Lp:=⟨(bmK 38 0 [0,1,2,3,9,10]),0,bmK 38 0 [9],0,n+1⟩
def Ni (n:Nat) (f:Nat->E6) (m:Nat) (l:Nat->Int) (k:Int) (w:Bool) (c:Int) (i:Nat) (j:Nat->V):St:=⟨(jsV 38 0 j [(0,.sl 6 n (λi=>eV (f i))),(1,.sl 1 m (λk=>iV (l k))),(2,iV k),(3,bV w),(9,iV c),(10,nV i)]),[]⟩
def Wa (_:Nat) (_:Nat->E6) (_:Nat) (_:Nat->Int) (_:Int) (_:Bool) (c:Int) (_:Nat):Ex × St:=(.ex 0,⟨(jsV 38 0 (λ_=>.und) [(9,iV c)]),[]⟩)
noncomputable def FU (L:LT):St->T (Ex × St):=λst=>AG tab ⟨Aq tb0,L,Gl⟩ (A1 Try.f68 0) 0 st
section
variable (L:LT) (n:Nat) (f:Nat->E6) (m:Nat) (l:Nat->Int) (k:Int) (w:Bool) (c:Int) (i:Nat)  (j:Nat->V)
include L n f m l k w c i j
theorem Ait (h0:ilt (ofNat i) (ofNat n) = false):Aj (FU L) (M6 n f m l k w) (Ni n f m l k w c i j) = some ((.ex 0),⟨(jsV 38 0 (λ_=>.und) [(9,(iV c))]),[]⟩):=Aa [false] [ilt (ofNat i) (ofNat n)] (by kernel_rfl) (by simp only [h0] <;> rfl)
theorem Aix (h0:ilt (ofNat i) (ofNat n) = true) (h1:Af (ile 0 (ofNat i)) (ilt (ofNat i) (ofNat m)) = true) (h2:ieq (l i) k = false):Aj (FU L) (M6 n f m l k w) (Ni n f m l k w c i j) = some (.nm,⟨(jsV 38 0 (λ_=>.und) [(0,(.sl 6 n (λi=>eV (f i)))),(1,(.sl 1 m (λk=>iV (l k)))),(2,(iV k)),(3,(bV w)),(9,(iV c)),(10,(iV (wr .i64 (Ae (ofNat i) 1))))]),[]⟩):=Aa (bbK 8 3) [ilt (ofNat i) (ofNat n),Af (ile 0 (ofNat i)) (ilt (ofNat i) (ofNat m)),ieq (l i) k,ieq (l i) k,ieq (l i) k,ieq (l i) k,ieq (l i) k,false] (by kernel_rfl) (by simp only [h1] <;> simp only [h0,h2] <;> rfl)
theorem Abf:((FU L (Ni n f m l k w c i j)).bind λr=>T.leaf (IH (M6 n f m l k w) r)).path [true,true,true,true,true,true,true,true,true,true,true,true,true,true,true] = some ([(ilt (ofNat i) (ofNat n)),(Af (ile 0 (ofNat i)) (ilt (ofNat i) (ofNat m))),(ieq (l i) k),(ieq (l i) k),(ieq (l i) k),(Ah w),(Ah w),(Ah w),(Ah w),(Ah w),(Ah w),(ieq (l i) k),(Ah w),(ieq (l i) k),true],(.nm,⟨(jsV 38 0 (λ_=>.und) [(0,(.sl 6 n (λi=>(eV (f i))))),(1,(.sl 1 m (λk=>(iV (l k))))),(2,(iV k)),(3,(bV w)),(9,(iV (wr .i64 (Ae c 1)))),(10,(iV (wr .i64 (Ae (ofNat i) 1))))]),[]⟩)):=by kernel_rfl
theorem Aiw (h0:ilt (ofNat i) (ofNat n) = true) (h1:Af (ile 0 (ofNat i)) (ilt (ofNat i) (ofNat m)) = true) (h2:ieq (l i) k = true) (h3:w = false):Aj (FU L) (M6 n f m l k w) (Ni n f m l k w c i j) = some (.nm,⟨(jsV 38 0 (λ_=>.und) [(0,(.sl 6 n (λi=>eV (f i)))),(1,(.sl 1 m (λk=>iV (l k)))),(2,(iV k)),(3,(bV w)),(9,(iV (wr .i64 (Ae c 1)))),(10,(iV (wr .i64 (Ae (ofNat i) 1))))]),[]⟩):=by
 subst h3; exact AD (Abf L n f m l k false c i j) (by simp only [h1] <;> simp only [h0,h2] <;> rfl)
theorem Abe:((FU L (Ni n f m l k w c i j)).bind λr=>T.leaf (IH (M6 n f m l k w) r)).path [true,true,true,true,true,false,false,false,true,false,false,false,true,false,true,true] = some ([(ilt (ofNat i) (ofNat n)),(Af (ile 0 (ofNat i)) (ilt (ofNat i) (ofNat m))),(ieq (l i) k),(ieq (l i) k),(ieq (l i) k),(Ah w),(Ah w),(Ah w),(Af (ile 0 (ofNat i)) (ilt (ofNat i) (ofNat n))),(Ah w),(Ah w),(Ah w),(ieq (l i) k),(Ah w),(ieq (l i) k),(ieq ((f i)).src 2)],(.nm,⟨(jsV 38 0 (λ_=>.und) [(0,(.sl 6 n (λi=>(eV (f i))))),(1,(.sl 1 m (λk=>(iV (l k))))),(2,(iV k)),(3,(bV w)),(9,(iV (wr .i64 (Ae c 1)))),(10,(iV (wr .i64 (Ae (ofNat i) 1))))]),[]⟩)):=by kernel_rfl
theorem Aiv (h0:ilt (ofNat i) (ofNat n) = true) (h1:Af (ile 0 (ofNat i)) (ilt (ofNat i) (ofNat m)) = true) (h2:ieq (l i) k = true) (h3:w = true) (h4:Af (ile 0 (ofNat i)) (ilt (ofNat i) (ofNat n)) = true) (h5:ieq ((f i)).src 2 = true):Aj (FU L) (M6 n f m l k w) (Ni n f m l k w c i j) = some (.nm,⟨(jsV 38 0 (λ_=>.und) [(0,(.sl 6 n (λi=>eV (f i)))),(1,(.sl 1 m (λk=>iV (l k)))),(2,(iV k)),(3,(bV w)),(9,(iV (wr .i64 (Ae c 1)))),(10,(iV (wr .i64 (Ae (ofNat i) 1))))]),[]⟩):=by
 subst h3; exact AD (Abe L n f m l k true c i j) (by simp only [h1,h4] <;> simp only [*] <;> rfl)
theorem Abd:((FU L (Ni n f m l k w c i j)).bind λr=>T.leaf (IH (M6 n f m l k w) r)).path [true,true,true,true,true,false,false,false,true,false,false,false,true,false,true,false] = some ([(ilt (ofNat i) (ofNat n)),(Af (ile 0 (ofNat i)) (ilt (ofNat i) (ofNat m))),(ieq (l i) k),(ieq (l i) k),(ieq (l i) k),(Ah w),(Ah w),(Ah w),(Af (ile 0 (ofNat i)) (ilt (ofNat i) (ofNat n))),(Ah w),(Ah w),(Ah w),(ieq (l i) k),(Ah w),(ieq (l i) k),(ieq ((f i)).src 2)],(.nm,⟨(jsV 38 0 (λ_=>.und) [(0,(.sl 6 n (λi=>(eV (f i))))),(1,(.sl 1 m (λk=>(iV (l k))))),(2,(iV k)),(3,(bV w)),(9,(iV c)),(10,(iV (wr .i64 (Ae (ofNat i) 1))))]),[]⟩)):=by kernel_rfl
theorem Aiu (h0:ilt (ofNat i) (ofNat n) = true) (h1:Af (ile 0 (ofNat i)) (ilt (ofNat i) (ofNat m)) = true) (h2:ieq (l i) k = true) (h3:w = true) (h4:Af (ile 0 (ofNat i)) (ilt (ofNat i) (ofNat n)) = true) (h5:ieq ((f i)).src 2 = false):Aj (FU L) (M6 n f m l k w) (Ni n f m l k w c i j) = some (.nm,⟨(jsV 38 0 (λ_=>.und) [(0,(.sl 6 n (λi=>eV (f i)))),(1,(.sl 1 m (λk=>iV (l k)))),(2,(iV k)),(3,(bV w)),(9,(iV c)),(10,(iV (wr .i64 (Ae (ofNat i) 1))))]),[]⟩):=by
 subst h3; exact AD (Abd L n f m l k true c i j) (by simp only [h1,h4] <;> simp only [*] <;> rfl)
end
def AiY (_:Nat) (_:Nat->E6) (_:Nat) (_:Nat->Int) (_:Int) (_:Bool) :Nat->V:=lkV A9 [(8,(iV 0))]
theorem Aj3 (L:LT) (p0:PT) (n:Nat) (f:Nat->E6) (m:Nat) (l:Nat->Int) (k:Int) (w:Bool) (c:Int) (i:Nat)  (hp0:p0 (FU (onP 0 p0 (Wa n f m l k w c i) L)) (Ni n f m l k w 0 0 (AiY n f m l k w )) = true):(A2 (An tab ⟨Aq tb0,onP 0 p0 (Wa n f m l k w c i) L,Gl⟩ Try.f68 [A3 n f,ET m l,iV k,bV w] [])).sem = some ((iV c),[]):=Aa [true] [p0 (FU (onP 0 p0 (Wa n f m l k w c i) L)) (Ni n f m l k w 0 0 (AiY n f m l k w ))] (by kernel_rfl) (by simp only [hp0] <;> rfl)
def isW (e:E6):Bool:=ieq e.src 2
def Cq (l:Nat->Int) (c:Nat->Bool) (k:Int) (i:Nat):Bool:=Af (ieq (l i) k) (c i)
def Eo (n:Nat) (l:Nat->Int) (c:Nat->Bool) (k:Int):Int:=ofNat (Ak (Cq l c k) n)
def ofW (w:Bool) (f:Nat->E6) (i:Nat):Bool:=bor (Ah w) (isW (f i))
theorem RX (L:LT) (n:Nat) (f:Nat->E6) (l:Nat->Int) (k:Int) (w:Bool) (hn:n <= 4611686018427387904):∀ (d i:Nat) (j:Nat->V) (q:Nat),n = i+d->d < q ->
  (A8 (FU L) (M6 n f n l k w) q (Ni n f n l k w (ofNat (Ak (Cq l (ofW w f) k) i)) i j)).sem = some (Wa n f n l k w (ofNat (Ak (Cq l (ofW w f) k) n)) n)
 | 0,i,j,q+1,h,_=>by
  have:n = i:=by omega
  subst this
  exact Ad (Ait L n f n l k w (ofNat (Ak (Cq l (ofW w f) k) n)) n j (AF (Nat.le_refl _)))
 | d+1,i,j,q+1,h,h2=>by
  have hl:i < n:=by omega
  have hc:=Bd (Cq l (ofW w f) k) i
  have yes:Cq l (ofW w f) k i = true->wr .i64 (Ae (ofNat (Ak (Cq l (ofW w f) k) i)) 1) = ofNat (Ak (Cq l (ofW w f) k) (i+1)):=λh3=>by
   rw [Ao (show Ak (Cq l (ofW w f) k) i < n by omega) hn,Bk h3]
  have no:Cq l (ofW w f) k i = false->ofNat (Ak (Cq l (ofW w f) k) i) = ofNat (Ak (Cq l (ofW w f) k) (i+1)):=λh3=>by rw [B0 h3]
  cases c1:ieq (l i) k with
  | false =>
   rw [Ad (Aix L n f n l k w (ofNat (Ak (Cq l (ofW w f) k) i)) i j (ofNat_lt hl) (Ap hl) c1),Aw,Ao hl hn,no (by rw [Cq,c1]; rfl)]
   exact RX L n f l k w hn d (i+1) (λ_=>.und) q (by omega) (by omega)
  | true =>
   cases c2:w with
   | false =>
    subst c2
    rw [Ad (Aiw L n f n l k false (ofNat (Ak (Cq l (ofW false f) k) i)) i j (ofNat_lt hl) (Ap hl) c1 rfl),Aw,Ao hl hn,yes (by rw [Cq,c1]; rfl)]
    exact RX L n f l k false hn d (i+1) (λ_=>.und) q (by omega) (by omega)
   | true =>
    subst c2
    cases c3:ieq (f i).src 2 with
    | true =>
     rw [Ad (Aiv L n f n l k true (ofNat (Ak (Cq l (ofW true f) k) i)) i j (ofNat_lt hl) (Ap hl) c1 rfl (Ap hl) c3),Aw,Ao hl hn,yes (by rw [Cq,c1,ofW,isW,c3]; rfl)]
     exact RX L n f l k true hn d (i+1) (λ_=>.und) q (by omega) (by omega)
    | false =>
     rw [Ad (Aiu L n f n l k true (ofNat (Ak (Cq l (ofW true f) k) i)) i j (ofNat_lt hl) (Ap hl) c1 rfl (Ap hl) c3),Aw,Ao hl hn,no (by rw [Cq,c1,ofW,isW,c3]; rfl)]
     exact RX L n f l k true hn d (i+1) (λ_=>.und) q (by omega) (by omega)
def ZY:List V->T (V × List Blk)
 | [v,u,.val (.int .i64 k),.val (.bool w)]=>apL v λn f=>apI u λm l=>.br (A4 n m) (.br (Ai n) (out (iV (Eo n l (λi=>bor (Ah w) (isW (f i))) k))) .fail) .fail
 | _=>.fail
theorem p96:AA Try.prog Gl 68 ZY:=by
 refine A5 AQ AR Try.func68 (by kernel_rfl) (by kernel_rfl) λvs v h' h=>?_
 unfold ZY at h
 split at h
 ·rename_i v1 u1 k w
  obtain ⟨n,f,ha,h1⟩:=Cl h
  obtain ⟨m,l,hb,h2⟩:=Hq h1
  obtain ⟨hm,h3⟩:=Ag h2
  obtain ⟨hn,hq⟩:=Ag h3
  have hm:n = m:=Nat.eq_of_beq_eq_true hm
  subst hm
  have:=Ac hq
  simp only [Prod.mk.injEq] at this
  obtain ⟨rfl,rfl⟩:=this
  have hn:n <= 4611686018427387904:=of_decide_eq_true hn
  have hA:BL [v1,u1,.val (.int .i64 k),.val (.bool w)] [A3 n f,ET n l,iV k,bV w]:=λS w' cs hv=>by
   obtain ⟨c,l1,rfl,q1,c2,l2,rfl,q2,q3⟩:=hv
   exact ⟨c,_,rfl,ha S w' c q1,c2,l2,rfl,hb S w' c2 q2,q3⟩
  have hx:=AS Ee [(0,M6 n f n l k w)]
  have hL:=AL [(0,M6 n f n l k w)]
  exact ⟨_,AT Gl tb0 [(0,M6 n f n l k w)],_,hA,rfl,hx.1,hx.2,A6 (Az hL hL) _ (Aj3 _ _ n f n l k w _ n (Am (RX _ n f l k w hn n 0 _ (n+1) (by omega) (by omega)))),AE.refl _⟩
 ·cases h
end Go.Proofs.Ytjhnfomefcngfaa.Ed
