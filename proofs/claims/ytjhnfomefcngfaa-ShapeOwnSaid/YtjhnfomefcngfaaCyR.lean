/-
  crowded: the first event whose part has too many. No conditions.
-/
import Derived.Test.YtjhnfomefcngfaaCyQ
namespace Go.Proofs.Ytjhnfomefcngfaa.Ed
open Go.Sy
open Int (ofNat)
theorem Acq {v u:V} (h:∀ (S:Nat->Prop) (w:World) (c:Value),VR S w v noK c->VR S w u noK c) (S:Nat->Prop) (w:World) (κ:Nat->Option Value) (c:Value) (hv:VR S w (.pp (.agg [v])) κ c):VR S w (.pp (.agg [u])) κ c:=by
  obtain ⟨b,o,cv,q1,⟨ca,q2,a,l',q3,q4,q5⟩,q6⟩:=hv
  exact ⟨b,o,cv,q1,⟨ca,q2,a,l',q3,h S w a q4,q5⟩,q6⟩
def AfK:List V->T (V × List Blk)
  | [.val (.int .i64 i),.pp (.agg [v])]=>apL v fun n f=>.br (Af (ile 0 i) (ilt i (ofNat n))) (out (bV (isW (f (toN i))))) .fail
  | _=>.fail
def Xq:List V->T (V × List Blk)
  | [.val (.int .i64 _)]=>out (bV true)
  | _=>.fail
theorem Ajj (L:LT) (i:Int) (n:Nat) (f:Nat->E6) (h0:Af (ile 0 i) (ilt i (ofNat n)) = true):(A1 (Al tab ⟨Ao tb0,L,Gl⟩ Try.f85 [iV i,.pp (.agg [A2 n f])] [])).sem = some ((bV (ieq ((f (toN i))).src 2)),[]):=Aa [true] [Af (ile 0 i) (ilt i (ofNat n))] (by kernel_rfl) (by simp only [h0] <;> rfl)
theorem Aji (L:LT) (i:Int) :(A1 (Al tab ⟨Ao tb0,L,Gl⟩ Try.f88 [iV i] [])).sem = some ((bV true),[]):=Aa [] [] (by kernel_rfl) (by rfl)
theorem p90:AD Try.prog Gl 85 AfK:=by
  refine A5 AO AP Try.func85 (by kernel_rfl) (by kernel_rfl) fun vs v h' h=>?_
  unfold AfK at h
  split at h
  · rename_i i u
    obtain ⟨n,f,ha,h1⟩:=BU h
    obtain ⟨hi,hq⟩:=Ag h1
    have:=Ac hq
    simp only [Prod.mk.injEq] at this
    obtain ⟨rfl,rfl⟩:=this
    have hA:BA [.val (.int .i64 i),.pp (.agg [u])] [iV i,.pp (.agg [A2 n f])]:=fun S w cs hv=>by
      obtain ⟨c,l,rfl,q1,c2,l2,rfl,q2,q3⟩:=hv
      exact ⟨c,_,rfl,q1,c2,l2,rfl,Acq ha S w noK c2 q2,q3⟩
    have hx:=AQ CU []
    exact ⟨_,AR Gl tb0 [],_,hA,rfl,hx.1,hx.2,Ajj _ i n f hi,AB.refl _⟩
  · cases h
theorem p93:AD Try.prog Gl 88 Xq:=by
  refine A5 AO AP Try.func88 (by kernel_rfl) (by kernel_rfl) fun vs v h' h=>?_
  unfold Xq at h
  split at h
  · have:=Ac h
    simp only [Prod.mk.injEq] at this
    obtain ⟨rfl,rfl⟩:=this
    have hx:=AQ CU []
    exact ⟨_,AR Gl tb0 [],_,BA.refl _,rfl,hx.1,hx.2,Aji _ _,AB.refl _⟩
  · cases h
noncomputable def KJ:List (Nat × (List V->T (V × List Blk))):=(85,AfK) :: (88,Xq) :: []
theorem U4:AF Try.prog Gl KJ:=.cons p90 <| .cons p93 .nil
def gK (l:Nat->Int) (c:Nat->Bool) (i:Nat) (x:Int):Int:=ofNat (Aj (Cs l c x) i)
theorem AiO (l:Nat->Int) (c:Nat->Bool):gK l c 0 = fun _=>0:=rfl
theorem AiN {l:Nat->Int} {c:Nat->Bool} {i:Nat} (h:c i = false):gK l c (i+1) = gK l c i:=by
  funext x
  unfold gK
  rw [B2]
  rw [Cs,h]
  cases ieq (l i) x <;> rfl
theorem Zf {l:Nat->Int} {c:Nat->Bool} {i n:Nat} (h:c i = true) (hi:i < n) (hn:n <= 4611686018427387904):(fun k=>sel (ieq k (l i)) (wr .i64 (Ae (gK l c i (l i)) 1)) (gK l c i k)) = gK l c (i+1):=by
  funext x
  by_cases hx:x = l i
  · subst hx
    have h1:ieq (l i) (l i) = true:=by simp [ieq]
    rw [h1]
    show wr .i64 (Ae (ofNat (Aj (Cs l c (l i)) i)) 1) = _
    have:=Bd (Cs l c (l i)) i
    rw [Aq (show Aj (Cs l c (l i)) i < n by omega) hn]
    unfold gK
    rw [Bi (show Cs l c (l i) i = true by rw [Cs,h,h1]; rfl)]
  · have h1:ieq x (l i) = false:=by simp [ieq,hx]
    rw [h1]
    show gK l c i x = _
    unfold gK
    rw [B2 (show Cs l c x i = false by rw [Cs,show ieq (l i) x = false by simp [ieq]; omega]; rfl)]
theorem Q1 {a:Nat} (h:a <= 4611686018427387904):De (ofNat a) = true:=by
  simp only [De,Bool.and_eq_true,decide_eq_true_eq,Int.ofNat_eq_natCast]
  omega
def okP (n:Nat) (l:Nat->Int):Bool:=An n fun i=>De (l i)
def AG (n:Nat) (l:Nat->Int) (c:Nat->Bool) (q:Int) (i:Nat):Bool:=Af (c i) (ilt q (Ea n l c (l i)))
def crR (n:Nat) (l:Nat->Int) (c:Nat->Bool) (q:Int):Int × Bool :=
  match Bb (AG n l c q) n 0 with
  | some t=>(ofNat t,true)
  | none=>(0,false)
def LR (n:Nat) (_:Nat->E6) (_:Nat->Int) (_:Int):Lp:=⟨(bmK 48 0 [0,1,2,6,7,8,14,15,16]),1,bmK 48 0 [0,1,2,6,7,8],1,n+1⟩
def LF (n:Nat) (f:Nat->E6) (l:Nat->Int) (q:Int) (t:Nat) (g:Int->Int) (i:Nat) (j:Nat->V):St:=⟨(jsV 48 0 j [(0,.sl 1 n (fun k=>iV (l k))),(1,.fn 85 [.pp (.agg [A2 n f])]),(2,iV q),(6,iV 0),(7,bV false),(8,.ref 0),(14,.sl 1 n (fun k=>iV (l k))),(15,nV n),(16,nV i)]),[.imap 76 t g]⟩
def F5 (n:Nat) (f:Nat->E6) (l:Nat->Int) (q:Int) (t:Nat) (g:Int->Int) (_:Nat):Ex × St:=(.ex 0,⟨(jsV 48 0 (fun _=>.und) [(0,.sl 1 n (fun k=>iV (l k))),(1,.fn 85 [.pp (.agg [A2 n f])]),(2,iV q),(6,iV 0),(7,bV false),(8,.ref 0)]),[.imap 76 t g]⟩)
noncomputable def Ge (L:LT):St->T (Ex × St):=fun st=>A9 tab ⟨Ao KJ,L,Gl⟩ (Av Try.f86 0) 0 st
section
variable (L:LT) (n:Nat) (f:Nat->E6) (l:Nat->Int) (q:Int) (t:Nat) (g:Int->Int) (i:Nat)  (j:Nat->V)
include L n f l q t g i j
theorem Afc (h0:ilt (ofNat i) (ofNat n) = false):Ai (Ge L) (LR n f l q) (LF n f l q t g i j) = some ((.ex 0),⟨(jsV 48 0 (fun _=>.und) [(0,(.sl 1 n (fun k=>iV (l k)))),(1,(.fn 85 [.pp (.agg [.sl 6 n (fun i=>eV (f i))])])),(2,(iV q)),(6,(iV 0)),(7,(bV false)),(8,(.ref 0))]),[.imap 76 t g]⟩):=Aa [false] [ilt (ofNat i) (ofNat n)] (by kernel_rfl) (by simp only [h0] <;> rfl)
theorem Afb (h0:ilt (ofNat i) (ofNat n) = true) (h1:Af (ile 0 (ofNat i)) (ilt (ofNat i) (ofNat n)) = true) (h2:isW (f i) = false):Ai (Ge L) (LR n f l q) (LF n f l q t g i j) = some (.nm,⟨(jsV 48 0 (fun _=>.und) [(0,(.sl 1 n (fun k=>iV (l k)))),(1,(.fn 85 [.pp (.agg [.sl 6 n (fun i=>eV (f i))])])),(2,(iV q)),(6,(iV 0)),(7,(bV false)),(8,(.ref 0)),(14,(.sl 1 n (fun k=>iV (l k)))),(15,(nV n)),(16,(iV (wr .i64 (Ae (ofNat i) 1))))]),[.imap 76 t g]⟩):=Aa [true,true,true,true,false] ((fun c0=>[ilt (ofNat i) (ofNat n),c0,An n (fun _=>true),c0,isW (f i)]) (Af (ile 0 (ofNat i)) (ilt (ofNat i) (ofNat n)))) (by kernel_rfl) (by simp only [h1] <;> simp only [h0,h2,Ar] <;> rfl)
theorem Afa (h0:ilt (ofNat i) (ofNat n) = true) (h1:Af (ile 0 (ofNat i)) (ilt (ofNat i) (ofNat n)) = true) (h2:isW (f i) = true) (h4:De (l i) = true) (h3:nlt t 4611686018427387904 = true) (h5:De (wr .i64 (Ae (g (l i)) 1)) = true):Ai (Ge L) (LR n f l q) (LF n f l q t g i j) = some (.nm,⟨(jsV 48 0 (fun _=>.und) [(0,(.sl 1 n (fun k=>iV (l k)))),(1,(.fn 85 [.pp (.agg [.sl 6 n (fun i=>eV (f i))])])),(2,(iV q)),(6,(iV 0)),(7,(bV false)),(8,(.ref 0)),(14,(.sl 1 n (fun k=>iV (l k)))),(15,(nV n)),(16,(iV (wr .i64 (Ae (ofNat i) 1))))]),[.imap 76 (B4 t 1) (fun z=>sel (ieq z (l i)) (wr .i64 (Ae (g (l i)) 1)) (g z))]⟩):=Aa (bbK 9 511) ((fun c0 c1=>[ilt (ofNat i) (ofNat n),c0,An n (fun _=>true),c0,isW (f i),c1,nlt t 4611686018427387904,c1,De (wr .i64 (Ae (g (l i)) 1))]) (Af (ile 0 (ofNat i)) (ilt (ofNat i) (ofNat n))) (De (l i))) (by kernel_rfl) (by simp only [h1] <;> simp only [*,Ar] <;> rfl)
end
def Vq (_:Nat) (_:Nat->E6) (_:Nat->Int) (_:Int) :Nat->V:=lkV A7 [(13,(.ref 0))]
def Ff (n:Nat) (_:Nat->E6) (_:Nat->Int) (_:Int):Lp:=⟨(bmK 48 0 [1,2,6,7,8,29,30,31]),1,bmK 48 0 [6,7],0,n+1⟩
def Fb (n:Nat) (f:Nat->E6) (l:Nat->Int) (q:Int) (t:Nat) (g:Int->Int) (i:Nat) (j:Nat->V):St:=⟨(jsV 48 0 j [(1,.fn 85 [.pp (.agg [A2 n f])]),(2,iV q),(6,iV 0),(7,bV false),(8,.ref 0),(29,.sl 1 n (fun k=>iV (l k))),(30,nV n),(31,nV i)]),[.imap 76 t g]⟩
def GH (_:Nat) (_:Nat->E6) (_:Nat->Int) (_:Int) (_:Nat) (_:Int->Int) (_:Nat):Ex × St:=(.ex 2,⟨(jsV 48 0 (fun _=>.und) [(6,iV 0),(7,bV false)]),[]⟩)
def GG (_:Nat) (_:Nat->E6) (_:Nat->Int) (_:Int) (_:Nat) (_:Int->Int) (i:Nat):Ex × St:=(.rt,⟨(jsV 48 0 (fun _=>.und) [(6,nV i),(7,bV true)]),[]⟩)
noncomputable def Do (L:LT):St->T (Ex × St):=fun st=>A9 tab ⟨Ao KJ,L,Gl⟩ (Av Try.f86 2) 2 st
section
variable (L:LT) (n:Nat) (f:Nat->E6) (l:Nat->Int) (q:Int) (t:Nat) (g:Int->Int) (i:Nat)  (j:Nat->V)
include L n f l q t g i j
theorem AeC (h0:ilt (ofNat i) (ofNat n) = false):Ai (Do L) (Ff n f l q) (Fb n f l q t g i j) = some ((.ex 2),⟨(jsV 48 0 (fun _=>.und) [(6,(iV 0)),(7,(bV false))]),[]⟩):=Aa [false] [ilt (ofNat i) (ofNat n)] (by kernel_rfl) (by simp only [h0] <;> rfl)
theorem AeF (h0:ilt (ofNat i) (ofNat n) = true) (h1:Af (ile 0 (ofNat i)) (ilt (ofNat i) (ofNat n)) = true) (h2:isW (f i) = false):Ai (Do L) (Ff n f l q) (Fb n f l q t g i j) = some (.nm,⟨(jsV 48 0 (fun _=>.und) [(1,(.fn 85 [.pp (.agg [.sl 6 n (fun i=>eV (f i))])])),(2,(iV q)),(6,(iV 0)),(7,(bV false)),(8,(.ref 0)),(29,(.sl 1 n (fun k=>iV (l k)))),(30,(nV n)),(31,(iV (wr .i64 (Ae (ofNat i) 1))))]),[.imap 76 t g]⟩):=Aa (bbK 11 15) ((fun c0 c1=>[ilt (ofNat i) (ofNat n),c0,An n (fun _=>true),c0,c1,c1,c1,c1,c1,c1,false]) (Af (ile 0 (ofNat i)) (ilt (ofNat i) (ofNat n))) (isW (f i))) (by kernel_rfl) (by simp only [h1] <;> simp only [h0,h2,Ar] <;> rfl)
theorem AeE (h0:ilt (ofNat i) (ofNat n) = true) (h1:Af (ile 0 (ofNat i)) (ilt (ofNat i) (ofNat n)) = true) (h2:isW (f i) = true) (h3:De (l i) = true) (h4:ilt q (g (l i)) = false):Ai (Do L) (Ff n f l q) (Fb n f l q t g i j) = some (.nm,⟨(jsV 48 0 (fun _=>.und) [(1,(.fn 85 [.pp (.agg [.sl 6 n (fun i=>eV (f i))])])),(2,(iV q)),(6,(iV 0)),(7,(bV false)),(8,(.ref 0)),(29,(.sl 1 n (fun k=>iV (l k)))),(30,(nV n)),(31,(iV (wr .i64 (Ae (ofNat i) 1))))]),[.imap 76 t g]⟩):=Aa (bbK 12 2047) ((fun c0 c1=>[ilt (ofNat i) (ofNat n),c0,An n (fun _=>true),c0,c1,c1,c1,De (l i),c1,c1,c1,ilt q (g (l i))]) (Af (ile 0 (ofNat i)) (ilt (ofNat i) (ofNat n))) (isW (f i))) (by kernel_rfl) (by simp only [h1] <;> simp only [*,Ar] <;> rfl)
theorem AeD (h0:ilt (ofNat i) (ofNat n) = true) (h1:Af (ile 0 (ofNat i)) (ilt (ofNat i) (ofNat n)) = true) (h2:isW (f i) = true) (h3:De (l i) = true) (h4:ilt q (g (l i)) = true):Ai (Do L) (Ff n f l q) (Fb n f l q t g i j) = some (.rt,⟨(jsV 48 0 (fun _=>.und) [(6,(nV i)),(7,(bV true))]),[]⟩):=Aa (bbK 12 4095) ((fun c0 c1=>[ilt (ofNat i) (ofNat n),c0,An n (fun _=>true),c0,c1,c1,c1,De (l i),c1,c1,c1,ilt q (g (l i))]) (Af (ile 0 (ofNat i)) (ilt (ofNat i) (ofNat n))) (isW (f i))) (by kernel_rfl) (by simp only [h1] <;> simp only [*,Ar] <;> rfl)
end
def Mq (n:Nat) (_:Nat->E6) (l:Nat->Int) (_:Int) (_:Nat) (_:Int->Int) (_:Nat):Nat->V:=lkV A7 [(0,(.sl 1 n (fun k=>iV (l k)))),(3,.und),(4,.und),(5,.und),(9,.und),(10,.und),(11,.und),(12,.und),(13,.und),(14,.und),(15,.und),(16,.und),(17,.und),(18,.und),(19,.und),(20,.und),(21,.und),(22,.und),(23,.und),(24,.und),(25,.und),(26,.und),(27,.und),(28,.und),(32,.und),(33,.und),(34,.und),(35,.und),(36,.und),(37,.und),(38,.und),(39,.und),(40,.und),(41,.und),(42,.und),(43,.und),(44,.und),(45,.und),(46,.und),(47,.und)]
section
variable (L:LT) (p0:PT) (p2:PT) (n:Nat) (f:Nat->E6) (l:Nat->Int) (q:Int) (t:Nat) (g:Int->Int) (i m:Nat)
include L p0 p2 n f l q t g i m
theorem AcF  (hp0:p0 (Ge (onP 0 p0 (F5 n f l q t g i) (onP 2 p2 (GH n f l q t g m) L))) (LF n f l q 0 (fun _=>0) 0 (Vq n f l q )) = true) (hp2:p2 (Do (onP 0 p0 (F5 n f l q t g i) (onP 2 p2 (GH n f l q t g m) L))) (Fb n f l q t g 0 (Mq n f l q t g i)) = true):(A1 (Al tab ⟨Ao KJ,onP 0 p0 (F5 n f l q t g i) (onP 2 p2 (GH n f l q t g m) L),Gl⟩ Try.f86 [DW n l,.fn 85 [.pp (.agg [A2 n f])],iV q] [])).sem = some ((.tup [iV 0,bV false]),[]):=Aa [true,true] [p0 (Ge (onP 0 p0 (F5 n f l q t g i) (onP 2 p2 (GH n f l q t g m) L))) (LF n f l q 0 (fun _=>0) 0 (Vq n f l q )),p2 (Do (onP 0 p0 (F5 n f l q t g i) (onP 2 p2 (GH n f l q t g m) L))) (Fb n f l q t g 0 (Mq n f l q t g i))] (by kernel_rfl) (by simp only [hp0,hp2] <;> rfl)
theorem AcE  (hp0:p0 (Ge (onP 0 p0 (F5 n f l q t g i) (onP 2 p2 (GG n f l q t g m) L))) (LF n f l q 0 (fun _=>0) 0 (Vq n f l q )) = true) (hp2:p2 (Do (onP 0 p0 (F5 n f l q t g i) (onP 2 p2 (GG n f l q t g m) L))) (Fb n f l q t g 0 (Mq n f l q t g i)) = true):(A1 (Al tab ⟨Ao KJ,onP 0 p0 (F5 n f l q t g i) (onP 2 p2 (GG n f l q t g m) L),Gl⟩ Try.f86 [DW n l,.fn 85 [.pp (.agg [A2 n f])],iV q] [])).sem = some ((.tup [nV m,bV true]),[]):=Aa [true,true] [p0 (Ge (onP 0 p0 (F5 n f l q t g i) (onP 2 p2 (GG n f l q t g m) L))) (LF n f l q 0 (fun _=>0) 0 (Vq n f l q )),p2 (Do (onP 0 p0 (F5 n f l q t g i) (onP 2 p2 (GG n f l q t g m) L))) (Fb n f l q t g 0 (Mq n f l q t g i))] (by kernel_rfl) (by simp only [hp0,hp2] <;> rfl)
end
theorem T5 (L:LT) (n:Nat) (f:Nat->E6) (l:Nat->Int) (q:Int) (hn:n <= 4611686018427387904) (ho:okP n l = true):∀ (d i:Nat) (j:Nat->V) (p:Nat),n = i+d->d < p ->
    (A3 (Ge L) (LR n f l q) p (LF n f l q (Aj (fun i=>isW (f i)) i) (gK l (fun i=>isW (f i)) i) i j)).sem = some (F5 n f l q (Aj (fun i=>isW (f i)) n) (gK l (fun i=>isW (f i)) n) n)
  | 0,i,j,p+1,h,_=>by
    have:n = i:=by omega
    subst this
    exact Ab (Afc L n f l q (Aj (fun i=>isW (f i)) n) (gK l (fun i=>isW (f i)) n) n j (A8 (Nat.le_refl _)))
  | d+1,i,j,p+1,h,h2=>by
    have hl:i < n:=by omega
    have hc:=Bd (fun i=>isW (f i)) i
    have hc2:=Bd (Cs l (fun i=>isW (f i)) (l i)) i
    have ht:nlt (Aj (fun i=>isW (f i)) i) 4611686018427387904 = true:=by simp only [nlt,decide_eq_true_eq]; omega
    have hf:De (wr .i64 (Ae (gK l (fun i=>isW (f i)) i (l i)) 1)) = true:=by
      show De (wr .i64 (Ae (ofNat (Aj (Cs l (fun i=>isW (f i)) (l i)) i)) 1)) = true
      rw [Aq (show Aj (Cs l (fun i=>isW (f i)) (l i)) i < n by omega) hn]
      exact Q1 (by omega)
    cases cw:isW (f i) with
    | false =>
      rw [Ab (Afb L n f l q (Aj (fun i=>isW (f i)) i) (gK l (fun i=>isW (f i)) i) i j (ofNat_lt hl) (Ay hl) cw),Aw,Aq hl hn,<- AiN (l:=l) (c:=(fun i=>isW (f i))) cw,<- B2 (p:=(fun i=>isW (f i))) cw]
      exact T5 L n f l q hn ho d (i+1) (fun _=>.und) p (by omega) (by omega)
    | true =>
      rw [Ab (Afa L n f l q (Aj (fun i=>isW (f i)) i) (gK l (fun i=>isW (f i)) i) i j (ofNat_lt hl) (Ay hl) cw (AA.1 ho i hl) ht hf),Aw,Aq hl hn,Zf (l:=l) (c:=(fun i=>isW (f i))) (i:=i) cw hl hn,show B4 (Aj (fun i=>isW (f i)) i) 1 = Aj (fun i=>isW (f i)) (i+1) from (Bi (p:=(fun i=>isW (f i))) cw).symm]
      exact T5 L n f l q hn ho d (i+1) (fun _=>.und) p (by omega) (by omega)
theorem PS (L:LT) (n:Nat) (f:Nat->E6) (l:Nat->Int) (q:Int) (t:Nat) (hn:n <= 4611686018427387904) (ho:okP n l = true):∀ (d i:Nat) (j:Nat->V) (p:Nat),n = i+d->d < p ->
    (A3 (Do L) (Ff n f l q) p (Fb n f l q t (gK l (fun i=>isW (f i)) n) i j)).sem = some (match Bb (AG n l (fun i=>isW (f i)) q) d i with
      | none=>GH n f l q t (gK l (fun i=>isW (f i)) n) 0
      | some m=>GG n f l q t (gK l (fun i=>isW (f i)) n) m)
  | 0,i,j,p+1,h,_=>by
    have:n = i:=by omega
    subst this
    exact Ab (AeC L n f l q t (gK l (fun i=>isW (f i)) n) n j (A8 (Nat.le_refl _)))
  | d+1,i,j,p+1,h,h2=>by
    have hl:i < n:=by omega
    cases cw:isW (f i) with
    | false =>
      rw [Bz (show AG n l (fun i=>isW (f i)) q i = false by unfold AG; rw [show (fun i=>isW (f i)) i = false from cw]; rfl),Ab (AeF L n f l q t (gK l (fun i=>isW (f i)) n) i j (ofNat_lt hl) (Ay hl) cw),Aw,Aq hl hn]
      exact PS L n f l q t hn ho d (i+1) (fun _=>.und) p (by omega) (by omega)
    | true =>
      cases cg:ilt q (gK l (fun i=>isW (f i)) n (l i)) with
      | false =>
        rw [Bz (show AG n l (fun i=>isW (f i)) q i = false by unfold AG; rw [show ilt q (Ea n l (fun i=>isW (f i)) (l i)) = false from cg]; cases (fun i=>isW (f i)) i <;> rfl),Ab (AeE L n f l q t (gK l (fun i=>isW (f i)) n) i j (ofNat_lt hl) (Ay hl) cw (AA.1 ho i hl) cg),Aw,Aq hl hn]
        exact PS L n f l q t hn ho d (i+1) (fun _=>.und) p (by omega) (by omega)
      | true =>
        rw [BT (show AG n l (fun i=>isW (f i)) q i = true by unfold AG; rw [show ilt q (Ea n l (fun i=>isW (f i)) (l i)) = true from cg,show (fun i=>isW (f i)) i = true from cw]; rfl)]
        exact Ab (AeD L n f l q t (gK l (fun i=>isW (f i)) n) i j (ofNat_lt hl) (Ay hl) cw (AA.1 ho i hl) cg)
theorem Aaf (n:Nat) (f:Nat->E6) (l:Nat->Int) (q:Int) (hn:n <= 4611686018427387904) (ho:okP n l = true) :
    (A1 (Al tab (AR Gl KJ [(0,LR n f l q),(2,Ff n f l q)]) Try.f86 [DW n l,.fn 85 [.pp (.agg [A2 n f])],iV q] [])).sem = some (.tup [iV (crR n l (fun i=>isW (f i)) q).1,bV (crR n l (fun i=>isW (f i)) q).2],[]):=by
  have hL:=AC [(0,LR n f l q),(2,Ff n f l q)]
  have h0:=fun L j=>T5 L n f l q hn ho n 0 j (n+1) (by omega) (by omega)
  have h2:=fun L j=>PS L n f l q (Aj (fun i=>isW (f i)) n) hn ho n 0 j (n+1) (by omega) (by omega)
  rw [AiO] at h0
  unfold crR
  cases c1:Bb (AG n l (fun i=>isW (f i)) q) n 0 with
  | some m =>
    rw [c1] at h2
    exact A6 (Ax (Ax hL hL) hL) _ (AcE _ _ _ n f l q (Aj (fun i=>isW (f i)) n) (gK l (fun i=>isW (f i)) n) n m (Ak (h0 _ _)) (Ak (h2 _ _)))
  | none =>
    rw [c1] at h2
    exact A6 (Ax (Ax hL hL) hL) _ (AcF _ _ _ n f l q (Aj (fun i=>isW (f i)) n) (gK l (fun i=>isW (f i)) n) n 0 (Ak (h0 _ _)) (Ak (h2 _ _)))
def Nu (n:Nat) (_:Nat->Int) (_:Int):Lp:=⟨(bmK 48 0 [0,1,2,6,7,8,14,15,16]),1,bmK 48 0 [0,1,2,6,7,8],1,n+1⟩
def MJ (n:Nat) (l:Nat->Int) (q:Int) (t:Nat) (g:Int->Int) (i:Nat) (j:Nat->V):St:=⟨(jsV 48 0 j [(0,.sl 1 n (fun k=>iV (l k))),(1,.fn 88 []),(2,iV q),(6,iV 0),(7,bV false),(8,.ref 0),(14,.sl 1 n (fun k=>iV (l k))),(15,nV n),(16,nV i)]),[.imap 76 t g]⟩
def F6 (n:Nat) (l:Nat->Int) (q:Int) (t:Nat) (g:Int->Int) (_:Nat):Ex × St:=(.ex 0,⟨(jsV 48 0 (fun _=>.und) [(0,.sl 1 n (fun k=>iV (l k))),(1,.fn 88 []),(2,iV q),(6,iV 0),(7,bV false),(8,.ref 0)]),[.imap 76 t g]⟩)
noncomputable def H0 (L:LT):St->T (Ex × St):=fun st=>A9 tab ⟨Ao KJ,L,Gl⟩ (Av Try.f86 0) 0 st
section
variable (L:LT) (n:Nat) (l:Nat->Int) (q:Int) (t:Nat) (g:Int->Int) (i:Nat)  (j:Nat->V)
include L n l q t g i j
theorem Afe (h0:ilt (ofNat i) (ofNat n) = false):Ai (H0 L) (Nu n l q) (MJ n l q t g i j) = some ((.ex 0),⟨(jsV 48 0 (fun _=>.und) [(0,(.sl 1 n (fun k=>iV (l k)))),(1,(.fn 88 [])),(2,(iV q)),(6,(iV 0)),(7,(bV false)),(8,(.ref 0))]),[.imap 76 t g]⟩):=Aa [false] [ilt (ofNat i) (ofNat n)] (by kernel_rfl) (by simp only [h0] <;> rfl)
theorem Afd (h0:ilt (ofNat i) (ofNat n) = true) (h1:Af (ile 0 (ofNat i)) (ilt (ofNat i) (ofNat n)) = true) (h3:De (l i) = true) (h2:nlt t 4611686018427387904 = true) (h4:De (wr .i64 (Ae (g (l i)) 1)) = true):Ai (H0 L) (Nu n l q) (MJ n l q t g i j) = some (.nm,⟨(jsV 48 0 (fun _=>.und) [(0,(.sl 1 n (fun k=>iV (l k)))),(1,(.fn 88 [])),(2,(iV q)),(6,(iV 0)),(7,(bV false)),(8,(.ref 0)),(14,(.sl 1 n (fun k=>iV (l k)))),(15,(nV n)),(16,(iV (wr .i64 (Ae (ofNat i) 1))))]),[.imap 76 (B4 t 1) (fun z=>sel (ieq z (l i)) (wr .i64 (Ae (g (l i)) 1)) (g z))]⟩):=Aa (bbK 7 127) [ilt (ofNat i) (ofNat n),Af (ile 0 (ofNat i)) (ilt (ofNat i) (ofNat n)),true,De (l i),nlt t 4611686018427387904,De (l i),De (wr .i64 (Ae (g (l i)) 1))] (by kernel_rfl) (by simp only [h1] <;> simp only [*] <;> rfl)
end
def Vr (_:Nat) (_:Nat->Int) (_:Int) :Nat->V:=lkV A7 [(13,(.ref 0))]
def FS (n:Nat) (_:Nat->Int) (_:Int):Lp:=⟨(bmK 48 0 [1,2,6,7,8,29,30,31]),1,bmK 48 0 [6,7],0,n+1⟩
def FH (n:Nat) (l:Nat->Int) (q:Int) (t:Nat) (g:Int->Int) (i:Nat) (j:Nat->V):St:=⟨(jsV 48 0 j [(1,.fn 88 []),(2,iV q),(6,iV 0),(7,bV false),(8,.ref 0),(29,.sl 1 n (fun k=>iV (l k))),(30,nV n),(31,nV i)]),[.imap 76 t g]⟩
def GJ (_:Nat) (_:Nat->Int) (_:Int) (_:Nat) (_:Int->Int) (_:Nat):Ex × St:=(.ex 2,⟨(jsV 48 0 (fun _=>.und) [(6,iV 0),(7,bV false)]),[]⟩)
def GI (_:Nat) (_:Nat->Int) (_:Int) (_:Nat) (_:Int->Int) (i:Nat):Ex × St:=(.rt,⟨(jsV 48 0 (fun _=>.und) [(6,nV i),(7,bV true)]),[]⟩)
noncomputable def DJ (L:LT):St->T (Ex × St):=fun st=>A9 tab ⟨Ao KJ,L,Gl⟩ (Av Try.f86 2) 2 st
section
variable (L:LT) (n:Nat) (l:Nat->Int) (q:Int) (t:Nat) (g:Int->Int) (i:Nat)  (j:Nat->V)
include L n l q t g i j
theorem AeG (h0:ilt (ofNat i) (ofNat n) = false):Ai (DJ L) (FS n l q) (FH n l q t g i j) = some ((.ex 2),⟨(jsV 48 0 (fun _=>.und) [(6,(iV 0)),(7,(bV false))]),[]⟩):=Aa [false] [ilt (ofNat i) (ofNat n)] (by kernel_rfl) (by simp only [h0] <;> rfl)
theorem AeI (h0:ilt (ofNat i) (ofNat n) = true) (h1:Af (ile 0 (ofNat i)) (ilt (ofNat i) (ofNat n)) = true) (h2:De (l i) = true) (h3:ilt q (g (l i)) = false):Ai (DJ L) (FS n l q) (FH n l q t g i j) = some (.nm,⟨(jsV 48 0 (fun _=>.und) [(1,(.fn 88 [])),(2,(iV q)),(6,(iV 0)),(7,(bV false)),(8,(.ref 0)),(29,(.sl 1 n (fun k=>iV (l k)))),(30,(nV n)),(31,(iV (wr .i64 (Ae (ofNat i) 1))))]),[.imap 76 t g]⟩):=Aa (bbK 10 511) [ilt (ofNat i) (ofNat n),Af (ile 0 (ofNat i)) (ilt (ofNat i) (ofNat n)),true,true,true,De (l i),true,true,true,ilt q (g (l i))] (by kernel_rfl) (by simp only [h1] <;> simp only [*] <;> rfl)
theorem AeH (h0:ilt (ofNat i) (ofNat n) = true) (h1:Af (ile 0 (ofNat i)) (ilt (ofNat i) (ofNat n)) = true) (h2:De (l i) = true) (h3:ilt q (g (l i)) = true):Ai (DJ L) (FS n l q) (FH n l q t g i j) = some (.rt,⟨(jsV 48 0 (fun _=>.und) [(6,(nV i)),(7,(bV true))]),[]⟩):=Aa (bbK 10 1023) [ilt (ofNat i) (ofNat n),Af (ile 0 (ofNat i)) (ilt (ofNat i) (ofNat n)),true,true,true,De (l i),true,true,true,ilt q (g (l i))] (by kernel_rfl) (by simp only [h1] <;> simp only [*] <;> rfl)
end
def Mr (n:Nat) (l:Nat->Int) (_:Int) (_:Nat) (_:Int->Int) (_:Nat):Nat->V:=lkV A7 [(0,(.sl 1 n (fun k=>iV (l k)))),(3,.und),(4,.und),(5,.und),(9,.und),(10,.und),(11,.und),(12,.und),(13,.und),(14,.und),(15,.und),(16,.und),(17,.und),(18,.und),(19,.und),(20,.und),(21,.und),(22,.und),(23,.und),(24,.und),(25,.und),(26,.und),(27,.und),(28,.und),(32,.und),(33,.und),(34,.und),(35,.und),(36,.und),(37,.und),(38,.und),(39,.und),(40,.und),(41,.und),(42,.und),(43,.und),(44,.und),(45,.und),(46,.und),(47,.und)]
section
variable (L:LT) (p0:PT) (p2:PT) (n:Nat) (l:Nat->Int) (q:Int) (t:Nat) (g:Int->Int) (i m:Nat)
include L p0 p2 n l q t g i m
theorem AcH  (hp0:p0 (H0 (onP 0 p0 (F6 n l q t g i) (onP 2 p2 (GJ n l q t g m) L))) (MJ n l q 0 (fun _=>0) 0 (Vr n l q )) = true) (hp2:p2 (DJ (onP 0 p0 (F6 n l q t g i) (onP 2 p2 (GJ n l q t g m) L))) (FH n l q t g 0 (Mr n l q t g i)) = true):(A1 (Al tab ⟨Ao KJ,onP 0 p0 (F6 n l q t g i) (onP 2 p2 (GJ n l q t g m) L),Gl⟩ Try.f86 [DW n l,.fn 88 [],iV q] [])).sem = some ((.tup [iV 0,bV false]),[]):=Aa [true,true] [p0 (H0 (onP 0 p0 (F6 n l q t g i) (onP 2 p2 (GJ n l q t g m) L))) (MJ n l q 0 (fun _=>0) 0 (Vr n l q )),p2 (DJ (onP 0 p0 (F6 n l q t g i) (onP 2 p2 (GJ n l q t g m) L))) (FH n l q t g 0 (Mr n l q t g i))] (by kernel_rfl) (by simp only [hp0,hp2] <;> rfl)
theorem AcG  (hp0:p0 (H0 (onP 0 p0 (F6 n l q t g i) (onP 2 p2 (GI n l q t g m) L))) (MJ n l q 0 (fun _=>0) 0 (Vr n l q )) = true) (hp2:p2 (DJ (onP 0 p0 (F6 n l q t g i) (onP 2 p2 (GI n l q t g m) L))) (FH n l q t g 0 (Mr n l q t g i)) = true):(A1 (Al tab ⟨Ao KJ,onP 0 p0 (F6 n l q t g i) (onP 2 p2 (GI n l q t g m) L),Gl⟩ Try.f86 [DW n l,.fn 88 [],iV q] [])).sem = some ((.tup [nV m,bV true]),[]):=Aa [true,true] [p0 (H0 (onP 0 p0 (F6 n l q t g i) (onP 2 p2 (GI n l q t g m) L))) (MJ n l q 0 (fun _=>0) 0 (Vr n l q )),p2 (DJ (onP 0 p0 (F6 n l q t g i) (onP 2 p2 (GI n l q t g m) L))) (FH n l q t g 0 (Mr n l q t g i))] (by kernel_rfl) (by simp only [hp0,hp2] <;> rfl)
end
theorem XR (L:LT) (n:Nat) (l:Nat->Int) (q:Int) (hn:n <= 4611686018427387904) (ho:okP n l = true):∀ (d i:Nat) (j:Nat->V) (p:Nat),n = i+d->d < p ->
    (A3 (H0 L) (Nu n l q) p (MJ n l q (Aj (fun _=>true) i) (gK l (fun _=>true) i) i j)).sem = some (F6 n l q (Aj (fun _=>true) n) (gK l (fun _=>true) n) n)
  | 0,i,j,p+1,h,_=>by
    have:n = i:=by omega
    subst this
    exact Ab (Afe L n l q (Aj (fun _=>true) n) (gK l (fun _=>true) n) n j (A8 (Nat.le_refl _)))
  | d+1,i,j,p+1,h,h2=>by
    have hl:i < n:=by omega
    have hc:=Bd (fun _=>true) i
    have hc2:=Bd (Cs l (fun _=>true) (l i)) i
    have ht:nlt (Aj (fun _=>true) i) 4611686018427387904 = true:=by simp only [nlt,decide_eq_true_eq]; omega
    have hf:De (wr .i64 (Ae (gK l (fun _=>true) i (l i)) 1)) = true:=by
      show De (wr .i64 (Ae (ofNat (Aj (Cs l (fun _=>true) (l i)) i)) 1)) = true
      rw [Aq (show Aj (Cs l (fun _=>true) (l i)) i < n by omega) hn]
      exact Q1 (by omega)
    rw [Ab (Afd L n l q (Aj (fun _=>true) i) (gK l (fun _=>true) i) i j (ofNat_lt hl) (Ay hl) (AA.1 ho i hl) ht hf),Aw,Aq hl hn,Zf (l:=l) (c:=(fun _=>true)) (i:=i) rfl hl hn,show B4 (Aj (fun _=>true) i) 1 = Aj (fun _=>true) (i+1) from (Bi (p:=(fun _=>true)) rfl).symm]
    exact XR L n l q hn ho d (i+1) (fun _=>.und) p (by omega) (by omega)
theorem UG (L:LT) (n:Nat) (l:Nat->Int) (q:Int) (t:Nat) (hn:n <= 4611686018427387904) (ho:okP n l = true):∀ (d i:Nat) (j:Nat->V) (p:Nat),n = i+d->d < p ->
    (A3 (DJ L) (FS n l q) p (FH n l q t (gK l (fun _=>true) n) i j)).sem = some (match Bb (AG n l (fun _=>true) q) d i with
      | none=>GJ n l q t (gK l (fun _=>true) n) 0
      | some m=>GI n l q t (gK l (fun _=>true) n) m)
  | 0,i,j,p+1,h,_=>by
    have:n = i:=by omega
    subst this
    exact Ab (AeG L n l q t (gK l (fun _=>true) n) n j (A8 (Nat.le_refl _)))
  | d+1,i,j,p+1,h,h2=>by
    have hl:i < n:=by omega
    cases cg:ilt q (gK l (fun _=>true) n (l i)) with
    | false =>
      rw [Bz (show AG n l (fun _=>true) q i = false by unfold AG; rw [show ilt q (Ea n l (fun _=>true) (l i)) = false from cg]; cases (fun _=>true) i <;> rfl),Ab (AeI L n l q t (gK l (fun _=>true) n) i j (ofNat_lt hl) (Ay hl) (AA.1 ho i hl) cg),Aw,Aq hl hn]
      exact UG L n l q t hn ho d (i+1) (fun _=>.und) p (by omega) (by omega)
    | true =>
      rw [BT (show AG n l (fun _=>true) q i = true by unfold AG; rw [show ilt q (Ea n l (fun _=>true) (l i)) = true from cg,show (fun _=>true) i = true from rfl]; rfl)]
      exact Ab (AeH L n l q t (gK l (fun _=>true) n) i j (ofNat_lt hl) (Ay hl) (AA.1 ho i hl) cg)
theorem Aag (n:Nat) (l:Nat->Int) (q:Int) (hn:n <= 4611686018427387904) (ho:okP n l = true) :
    (A1 (Al tab (AR Gl KJ [(0,Nu n l q),(2,FS n l q)]) Try.f86 [DW n l,.fn 88 [],iV q] [])).sem = some (.tup [iV (crR n l (fun _=>true) q).1,bV (crR n l (fun _=>true) q).2],[]):=by
  have hL:=AC [(0,Nu n l q),(2,FS n l q)]
  have h0:=fun L j=>XR L n l q hn ho n 0 j (n+1) (by omega) (by omega)
  have h2:=fun L j=>UG L n l q (Aj (fun _=>true) n) hn ho n 0 j (n+1) (by omega) (by omega)
  rw [AiO] at h0
  unfold crR
  cases c1:Bb (AG n l (fun _=>true) q) n 0 with
  | some m =>
    rw [c1] at h2
    exact A6 (Ax (Ax hL hL) hL) _ (AcG _ _ _ n l q (Aj (fun _=>true) n) (gK l (fun _=>true) n) n m (Ak (h0 _ _)) (Ak (h2 _ _)))
  | none =>
    rw [c1] at h2
    exact A6 (Ax (Ax hL hL) hL) _ (AcH _ _ _ n l q (Aj (fun _=>true) n) (gK l (fun _=>true) n) n 0 (Ak (h0 _ _)) (Ak (h2 _ _)))
def Un:List V->T (V × List Blk)
  | [u,.fn 85 [.pp (.agg [v])],.val (.int .i64 q)]=>apI u fun m l=>apL v fun n f=>.br (AN n m) (.br (Ah n) (.br (okP m l) (out (.tup [iV (crR m l (fun i=>isW (f i)) q).1,bV (crR m l (fun i=>isW (f i)) q).2])) .fail) .fail) .fail
  | [u,.fn 88 [],.val (.int .i64 q)]=>apI u fun m l=>.br (Ah m) (.br (okP m l) (out (.tup [iV (crR m l (fun _=>true) q).1,bV (crR m l (fun _=>true) q).2])) .fail) .fail
  | _=>.fail
theorem p91:AD Try.prog Gl 86 Un:=by
  refine A5 AO AP Try.func86 (by kernel_rfl) (by kernel_rfl) fun vs v h' h=>?_
  unfold Un at h
  split at h
  · rename_i u1 v1 q
    obtain ⟨m,l,ha,h1⟩:=FA h
    obtain ⟨n,f,hb,h2⟩:=BU h1
    obtain ⟨hm,h3⟩:=Ag h2
    obtain ⟨hn,h4⟩:=Ag h3
    obtain ⟨ho,hq⟩:=Ag h4
    have hm:n = m:=Nat.eq_of_beq_eq_true hm
    subst hm
    have:=Ac hq
    simp only [Prod.mk.injEq] at this
    obtain ⟨rfl,rfl⟩:=this
    have hn:n <= 4611686018427387904:=of_decide_eq_true hn
    have hA:BA [u1,.fn 85 [.pp (.agg [v1])],.val (.int .i64 q)] [DW n l,.fn 85 [.pp (.agg [A2 n f])],iV q]:=fun S w cs hv=>by
      obtain ⟨c,l1,rfl,q1,c2,l2,rfl,⟨ca,q4,c5,l5,q5,q6,q7⟩,q3⟩:=hv
      exact ⟨c,_,rfl,ha S w c q1,c2,l2,rfl,⟨ca,q4,c5,l5,q5,Acq hb S w noK c5 q6,q7⟩,q3⟩
    have hx:=AQ U4 [(0,LR n f l q),(2,Ff n f l q)]
    exact ⟨_,AR Gl KJ [(0,LR n f l q),(2,Ff n f l q)],_,hA,rfl,hx.1,hx.2,Aaf n f l q hn ho,AB.refl _⟩
  · rename_i u1 q
    obtain ⟨n,l,ha,h1⟩:=FA h
    obtain ⟨hn,h4⟩:=Ag h1
    obtain ⟨ho,hq⟩:=Ag h4
    have:=Ac hq
    simp only [Prod.mk.injEq] at this
    obtain ⟨rfl,rfl⟩:=this
    have hn:n <= 4611686018427387904:=of_decide_eq_true hn
    have hA:BA [u1,.fn 88 [],.val (.int .i64 q)] [DW n l,.fn 88 [],iV q]:=fun S w cs hv=>by
      obtain ⟨c,l1,rfl,q1,q3⟩:=hv
      exact ⟨c,_,rfl,ha S w c q1,q3⟩
    have hx:=AQ U4 [(0,Nu n l q),(2,FS n l q)]
    exact ⟨_,AR Gl KJ [(0,Nu n l q),(2,FS n l q)],_,hA,rfl,hx.1,hx.2,Aag n l q hn ho,AB.refl _⟩
  · cases h
end Go.Proofs.Ytjhnfomefcngfaa.Ed
