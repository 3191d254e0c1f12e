/-
  crowded: the first event whose part has too many. No conditions.
-/
import Derived.Test.YtjhnfomefcngfaaCyQ
namespace Go.Proofs.Ytjhnfomefcngfaa.Ed
open Go.Sy
open Int (ofNat)
theorem Ack {v u:V} (h:∀ (S:Nat->Prop) (w:World) (c:Value),VR S w v noK c->VR S w u noK c) (S:Nat->Prop) (w:World) (κ:Nat->Option Value) (c:Value) (hv:VR S w (.pp (.agg [v])) κ c):VR S w (.pp (.agg [u])) κ c:=by
  obtain ⟨b,o,cv,q1,⟨ca,q2,a,l',q3,q4,q5⟩,q6⟩:=hv
  exact ⟨b,o,cv,q1,⟨ca,q2,a,l',q3,h S w a q4,q5⟩,q6⟩
def AfB:List V->T (V × List Blk)
  | [.val (.int .i64 i),.pp (.agg [v])]=>apL v fun n f=>.br (Ag (ile 0 i) (ilt i (ofNat n))) (out (bV (isW (f (toN i))))) .fail
  | _=>.fail
def Xd:List V->T (V × List Blk)
  | [.val (.int .i64 _)]=>out (bV true)
  | _=>.fail
theorem Ajb (L:LT) (i:Int) (n:Nat) (f:Nat->E6) (h0:Ag (ile 0 i) (ilt i (ofNat n)) = true):(As (Aj tab ⟨Ao tb0,L,Gl⟩ Try.f85 [iV i,.pp (.agg [A2 n f])] [])).sem = some ((bV (ieq ((f (toN i))).src 2)),[]):=Aa [true] [Ag (ile 0 i) (ilt i (ofNat n))] (by kernel_rfl) (by simp only [h0] <;> rfl)
theorem Aja (L:LT) (i:Int) :(As (Aj tab ⟨Ao tb0,L,Gl⟩ Try.f88 [iV i] [])).sem = some ((bV true),[]):=Aa [] [] (by kernel_rfl) (by rfl)
theorem p90:AB Try.prog Gl 85 AfB:=by
  refine A1 AQ AR Try.func85 (by kernel_rfl) (by kernel_rfl) fun vs v h' h=>?_
  unfold AfB at h
  split at h
  · rename_i i u
    obtain ⟨n,f,ha,h1⟩:=Cj h
    obtain ⟨hi,hq⟩:=Ah h1
    have:=Ad hq
    simp only [Prod.mk.injEq] at this
    obtain ⟨rfl,rfl⟩:=this
    have hA:Bw [.val (.int .i64 i),.pp (.agg [u])] [iV i,.pp (.agg [A2 n f])]:=fun S w cs hv=>by
      obtain ⟨c,l,rfl,q1,c2,l2,rfl,q2,q3⟩:=hv
      exact ⟨c,_,rfl,q1,c2,l2,rfl,Ack ha S w noK c2 q2,q3⟩
    have hx:=AP CW []
    exact ⟨_,AI Gl tb0 [],_,hA,rfl,hx.1,hx.2,Ajb _ i n f hi,A6.refl _⟩
  · cases h
theorem p93:AB Try.prog Gl 88 Xd:=by
  refine A1 AQ AR Try.func88 (by kernel_rfl) (by kernel_rfl) fun vs v h' h=>?_
  unfold Xd at h
  split at h
  · have:=Ad h
    simp only [Prod.mk.injEq] at this
    obtain ⟨rfl,rfl⟩:=this
    have hx:=AP CW []
    exact ⟨_,AI Gl tb0 [],_,Bw.refl _,rfl,hx.1,hx.2,Aja _ _,A6.refl _⟩
  · cases h
noncomputable def KL:List (Nat × (List V->T (V × List Blk))):=(85,AfB) :: (88,Xd) :: []
theorem Uw:AC Try.prog Gl KL:=.cons p90 <| .cons p93 .nil
def gK (l:Nat->Int) (c:Nat->Bool) (i:Nat) (x:Int):Int:=ofNat (Ak (C3 l c x) i)
theorem AiE (l:Nat->Int) (c:Nat->Bool):gK l c 0 = fun _=>0:=rfl
theorem AiD {l:Nat->Int} {c:Nat->Bool} {i:Nat} (h:c i = false):gK l c (i+1) = gK l c i:=by
  funext x
  unfold gK
  rw [Bv]
  rw [C3,h]
  cases ieq (l i) x <;> rfl
theorem YP {l:Nat->Int} {c:Nat->Bool} {i n:Nat} (h:c i = true) (hi:i < n) (hn:n <= 4611686018427387904):(fun k=>sel (ieq k (l i)) (wr .i64 (Af (gK l c i (l i)) 1)) (gK l c i k)) = gK l c (i+1):=by
  funext x
  by_cases hx:x = l i
  · subst hx
    have h1:ieq (l i) (l i) = true:=by simp [ieq]
    rw [h1]
    show wr .i64 (Af (ofNat (Ak (C3 l c (l i)) i)) 1) = _
    have:=Be (C3 l c (l i)) i
    rw [Aq (show Ak (C3 l c (l i)) i < n by omega) hn]
    unfold gK
    rw [Bg (show C3 l c (l i) i = true by rw [C3,h,h1]; rfl)]
  · have h1:ieq x (l i) = false:=by simp [ieq,hx]
    rw [h1]
    show gK l c i x = _
    unfold gK
    rw [Bv (show C3 l c x i = false by rw [C3,show ieq (l i) x = false by simp [ieq]; omega]; rfl)]
theorem Q0 {a:Nat} (h:a <= 4611686018427387904):Do (ofNat a) = true:=by
  simp only [Do,Bool.and_eq_true,decide_eq_true_eq,Int.ofNat_eq_natCast]
  omega
def okP (n:Nat) (l:Nat->Int):Bool:=Ai n fun i=>Do (l i)
def AK (n:Nat) (l:Nat->Int) (c:Nat->Bool) (q:Int) (i:Nat):Bool:=Ag (c i) (ilt q (Eh n l c (l i)))
def crR (n:Nat) (l:Nat->Int) (c:Nat->Bool) (q:Int):Int × Bool :=
  match Bf (AK n l c q) n 0 with
  | some t=>(ofNat t,true)
  | none=>(0,false)
def LW (n:Nat) (_:Nat->E6) (_:Nat->Int) (_:Int):Lp:=⟨(bmK 48 0 [0,1,2,6,7,8,14,15,16]),1,bmK 48 0 [0,1,2,6,7,8],1,n+1⟩
def LK (n:Nat) (f:Nat->E6) (l:Nat->Int) (q:Int) (t:Nat) (g:Int->Int) (i:Nat) (j:Nat->V):St:=⟨(jsV 48 0 j [(0,.sl 1 n (fun k=>iV (l k))),(1,.fn 85 [.pp (.agg [A2 n f])]),(2,iV q),(6,iV 0),(7,bV false),(8,.ref 0),(14,.sl 1 n (fun k=>iV (l k))),(15,nV n),(16,nV i)]),[.imap 76 t g]⟩
def FB (n:Nat) (f:Nat->E6) (l:Nat->Int) (q:Int) (t:Nat) (g:Int->Int) (_:Nat):Ex × St:=(.ex 0,⟨(jsV 48 0 (fun _=>.und) [(0,.sl 1 n (fun k=>iV (l k))),(1,.fn 85 [.pp (.agg [A2 n f])]),(2,iV q),(6,iV 0),(7,bV false),(8,.ref 0)]),[.imap 76 t g]⟩)
noncomputable def Gn (L:LT):St->T (Ex × St):=fun st=>AE tab ⟨Ao KL,L,Gl⟩ (Az Try.f86 0) 0 st
section
variable (L:LT) (n:Nat) (f:Nat->E6) (l:Nat->Int) (q:Int) (t:Nat) (g:Int->Int) (i:Nat)  (j:Nat->V)
include L n f l q t g i j
theorem AeT (h0:ilt (ofNat i) (ofNat n) = false):Al (Gn L) (LW n f l q) (LK n f l q t g i j) = some ((.ex 0),⟨(jsV 48 0 (fun _=>.und) [(0,(.sl 1 n (fun k=>iV (l k)))),(1,(.fn 85 [.pp (.agg [.sl 6 n (fun i=>eV (f i))])])),(2,(iV q)),(6,(iV 0)),(7,(bV false)),(8,(.ref 0))]),[.imap 76 t g]⟩):=Aa [false] [ilt (ofNat i) (ofNat n)] (by kernel_rfl) (by simp only [h0] <;> rfl)
theorem AeS (h0:ilt (ofNat i) (ofNat n) = true) (h1:Ag (ile 0 (ofNat i)) (ilt (ofNat i) (ofNat n)) = true) (h2:isW (f i) = false):Al (Gn L) (LW n f l q) (LK n f l q t g i j) = some (.nm,⟨(jsV 48 0 (fun _=>.und) [(0,(.sl 1 n (fun k=>iV (l k)))),(1,(.fn 85 [.pp (.agg [.sl 6 n (fun i=>eV (f i))])])),(2,(iV q)),(6,(iV 0)),(7,(bV false)),(8,(.ref 0)),(14,(.sl 1 n (fun k=>iV (l k)))),(15,(nV n)),(16,(iV (wr .i64 (Af (ofNat i) 1))))]),[.imap 76 t g]⟩):=Aa [true,true,true,true,false] ((fun c0=>[ilt (ofNat i) (ofNat n),c0,Ai n (fun _=>true),c0,isW (f i)]) (Ag (ile 0 (ofNat i)) (ilt (ofNat i) (ofNat n)))) (by kernel_rfl) (by simp only [h1] <;> simp only [h0,h2,Ar] <;> rfl)
theorem AeR (h0:ilt (ofNat i) (ofNat n) = true) (h1:Ag (ile 0 (ofNat i)) (ilt (ofNat i) (ofNat n)) = true) (h2:isW (f i) = true) (h4:Do (l i) = true) (h3:nlt t 4611686018427387904 = true) (h5:Do (wr .i64 (Af (g (l i)) 1)) = true):Al (Gn L) (LW n f l q) (LK n f l q t g i j) = some (.nm,⟨(jsV 48 0 (fun _=>.und) [(0,(.sl 1 n (fun k=>iV (l k)))),(1,(.fn 85 [.pp (.agg [.sl 6 n (fun i=>eV (f i))])])),(2,(iV q)),(6,(iV 0)),(7,(bV false)),(8,(.ref 0)),(14,(.sl 1 n (fun k=>iV (l k)))),(15,(nV n)),(16,(iV (wr .i64 (Af (ofNat i) 1))))]),[.imap 76 (Bj t 1) (fun z=>sel (ieq z (l i)) (wr .i64 (Af (g (l i)) 1)) (g z))]⟩):=Aa (bbK 9 511) ((fun c0 c1=>[ilt (ofNat i) (ofNat n),c0,Ai n (fun _=>true),c0,isW (f i),c1,nlt t 4611686018427387904,c1,Do (wr .i64 (Af (g (l i)) 1))]) (Ag (ile 0 (ofNat i)) (ilt (ofNat i) (ofNat n))) (Do (l i))) (by kernel_rfl) (by simp only [h1] <;> simp only [*,Ar] <;> rfl)
end
def Vf (_:Nat) (_:Nat->E6) (_:Nat->Int) (_:Int) :Nat->V:=lkV A8 [(13,(.ref 0))]
def Fh (n:Nat) (_:Nat->E6) (_:Nat->Int) (_:Int):Lp:=⟨(bmK 48 0 [1,2,6,7,8,29,30,31]),1,bmK 48 0 [6,7],0,n+1⟩
def Fe (n:Nat) (f:Nat->E6) (l:Nat->Int) (q:Int) (t:Nat) (g:Int->Int) (i:Nat) (j:Nat->V):St:=⟨(jsV 48 0 j [(1,.fn 85 [.pp (.agg [A2 n f])]),(2,iV q),(6,iV 0),(7,bV false),(8,.ref 0),(29,.sl 1 n (fun k=>iV (l k))),(30,nV n),(31,nV i)]),[.imap 76 t g]⟩
def GP (_:Nat) (_:Nat->E6) (_:Nat->Int) (_:Int) (_:Nat) (_:Int->Int) (_:Nat):Ex × St:=(.ex 2,⟨(jsV 48 0 (fun _=>.und) [(6,iV 0),(7,bV false)]),[]⟩)
def GO (_:Nat) (_:Nat->E6) (_:Nat->Int) (_:Int) (_:Nat) (_:Int->Int) (i:Nat):Ex × St:=(.rt,⟨(jsV 48 0 (fun _=>.und) [(6,nV i),(7,bV true)]),[]⟩)
noncomputable def Dv (L:LT):St->T (Ex × St):=fun st=>AE tab ⟨Ao KL,L,Gl⟩ (Az Try.f86 2) 2 st
section
variable (L:LT) (n:Nat) (f:Nat->E6) (l:Nat->Int) (q:Int) (t:Nat) (g:Int->Int) (i:Nat)  (j:Nat->V)
include L n f l q t g i j
theorem Ae3 (h0:ilt (ofNat i) (ofNat n) = false):Al (Dv L) (Fh n f l q) (Fe n f l q t g i j) = some ((.ex 2),⟨(jsV 48 0 (fun _=>.und) [(6,(iV 0)),(7,(bV false))]),[]⟩):=Aa [false] [ilt (ofNat i) (ofNat n)] (by kernel_rfl) (by simp only [h0] <;> rfl)
theorem Ae6 (h0:ilt (ofNat i) (ofNat n) = true) (h1:Ag (ile 0 (ofNat i)) (ilt (ofNat i) (ofNat n)) = true) (h2:isW (f i) = false):Al (Dv L) (Fh n f l q) (Fe n f l q t g i j) = some (.nm,⟨(jsV 48 0 (fun _=>.und) [(1,(.fn 85 [.pp (.agg [.sl 6 n (fun i=>eV (f i))])])),(2,(iV q)),(6,(iV 0)),(7,(bV false)),(8,(.ref 0)),(29,(.sl 1 n (fun k=>iV (l k)))),(30,(nV n)),(31,(iV (wr .i64 (Af (ofNat i) 1))))]),[.imap 76 t g]⟩):=Aa (bbK 11 15) ((fun c0 c1=>[ilt (ofNat i) (ofNat n),c0,Ai n (fun _=>true),c0,c1,c1,c1,c1,c1,c1,false]) (Ag (ile 0 (ofNat i)) (ilt (ofNat i) (ofNat n))) (isW (f i))) (by kernel_rfl) (by simp only [h1] <;> simp only [h0,h2,Ar] <;> rfl)
theorem Ae5 (h0:ilt (ofNat i) (ofNat n) = true) (h1:Ag (ile 0 (ofNat i)) (ilt (ofNat i) (ofNat n)) = true) (h2:isW (f i) = true) (h3:Do (l i) = true) (h4:ilt q (g (l i)) = false):Al (Dv L) (Fh n f l q) (Fe n f l q t g i j) = some (.nm,⟨(jsV 48 0 (fun _=>.und) [(1,(.fn 85 [.pp (.agg [.sl 6 n (fun i=>eV (f i))])])),(2,(iV q)),(6,(iV 0)),(7,(bV false)),(8,(.ref 0)),(29,(.sl 1 n (fun k=>iV (l k)))),(30,(nV n)),(31,(iV (wr .i64 (Af (ofNat i) 1))))]),[.imap 76 t g]⟩):=Aa (bbK 12 2047) ((fun c0 c1=>[ilt (ofNat i) (ofNat n),c0,Ai n (fun _=>true),c0,c1,c1,c1,Do (l i),c1,c1,c1,ilt q (g (l i))]) (Ag (ile 0 (ofNat i)) (ilt (ofNat i) (ofNat n))) (isW (f i))) (by kernel_rfl) (by simp only [h1] <;> simp only [*,Ar] <;> rfl)
theorem Ae4 (h0:ilt (ofNat i) (ofNat n) = true) (h1:Ag (ile 0 (ofNat i)) (ilt (ofNat i) (ofNat n)) = true) (h2:isW (f i) = true) (h3:Do (l i) = true) (h4:ilt q (g (l i)) = true):Al (Dv L) (Fh n f l q) (Fe n f l q t g i j) = some (.rt,⟨(jsV 48 0 (fun _=>.und) [(6,(nV i)),(7,(bV true))]),[]⟩):=Aa (bbK 12 4095) ((fun c0 c1=>[ilt (ofNat i) (ofNat n),c0,Ai n (fun _=>true),c0,c1,c1,c1,Do (l i),c1,c1,c1,ilt q (g (l i))]) (Ag (ile 0 (ofNat i)) (ilt (ofNat i) (ofNat n))) (isW (f i))) (by kernel_rfl) (by simp only [h1] <;> simp only [*,Ar] <;> rfl)
end
def Mt (n:Nat) (_:Nat->E6) (l:Nat->Int) (_:Int) (_:Nat) (_:Int->Int) (_:Nat):Nat->V:=lkV A8 [(0,(.sl 1 n (fun k=>iV (l k)))),(3,.und),(4,.und),(5,.und),(9,.und),(10,.und),(11,.und),(12,.und),(13,.und),(14,.und),(15,.und),(16,.und),(17,.und),(18,.und),(19,.und),(20,.und),(21,.und),(22,.und),(23,.und),(24,.und),(25,.und),(26,.und),(27,.und),(28,.und),(32,.und),(33,.und),(34,.und),(35,.und),(36,.und),(37,.und),(38,.und),(39,.und),(40,.und),(41,.und),(42,.und),(43,.und),(44,.und),(45,.und),(46,.und),(47,.und)]
section
variable (L:LT) (p0:PT) (p2:PT) (n:Nat) (f:Nat->E6) (l:Nat->Int) (q:Int) (t:Nat) (g:Int->Int) (i m:Nat)
include L p0 p2 n f l q t g i m
theorem AcC  (hp0:p0 (Gn (onP 0 p0 (FB n f l q t g i) (onP 2 p2 (GP n f l q t g m) L))) (LK n f l q 0 (fun _=>0) 0 (Vf n f l q )) = true) (hp2:p2 (Dv (onP 0 p0 (FB n f l q t g i) (onP 2 p2 (GP n f l q t g m) L))) (Fe n f l q t g 0 (Mt n f l q t g i)) = true):(As (Aj tab ⟨Ao KL,onP 0 p0 (FB n f l q t g i) (onP 2 p2 (GP n f l q t g m) L),Gl⟩ Try.f86 [Cg n l,.fn 85 [.pp (.agg [A2 n f])],iV q] [])).sem = some ((.tup [iV 0,bV false]),[]):=Aa [true,true] [p0 (Gn (onP 0 p0 (FB n f l q t g i) (onP 2 p2 (GP n f l q t g m) L))) (LK n f l q 0 (fun _=>0) 0 (Vf n f l q )),p2 (Dv (onP 0 p0 (FB n f l q t g i) (onP 2 p2 (GP n f l q t g m) L))) (Fe n f l q t g 0 (Mt n f l q t g i))] (by kernel_rfl) (by simp only [hp0,hp2] <;> rfl)
theorem AcB  (hp0:p0 (Gn (onP 0 p0 (FB n f l q t g i) (onP 2 p2 (GO n f l q t g m) L))) (LK n f l q 0 (fun _=>0) 0 (Vf n f l q )) = true) (hp2:p2 (Dv (onP 0 p0 (FB n f l q t g i) (onP 2 p2 (GO n f l q t g m) L))) (Fe n f l q t g 0 (Mt n f l q t g i)) = true):(As (Aj tab ⟨Ao KL,onP 0 p0 (FB n f l q t g i) (onP 2 p2 (GO n f l q t g m) L),Gl⟩ Try.f86 [Cg n l,.fn 85 [.pp (.agg [A2 n f])],iV q] [])).sem = some ((.tup [nV m,bV true]),[]):=Aa [true,true] [p0 (Gn (onP 0 p0 (FB n f l q t g i) (onP 2 p2 (GO n f l q t g m) L))) (LK n f l q 0 (fun _=>0) 0 (Vf n f l q )),p2 (Dv (onP 0 p0 (FB n f l q t g i) (onP 2 p2 (GO n f l q t g m) L))) (Fe n f l q t g 0 (Mt n f l q t g i))] (by kernel_rfl) (by simp only [hp0,hp2] <;> rfl)
end
theorem T2 (L:LT) (n:Nat) (f:Nat->E6) (l:Nat->Int) (q:Int) (hn:n <= 4611686018427387904) (ho:okP n l = true):∀ (d i:Nat) (j:Nat->V) (p:Nat),n = i+d->d < p ->
    (A7 (Gn L) (LW n f l q) p (LK n f l q (Ak (fun i=>isW (f i)) i) (gK l (fun i=>isW (f i)) i) i j)).sem = some (FB n f l q (Ak (fun i=>isW (f i)) n) (gK l (fun i=>isW (f i)) n) n)
  | 0,i,j,p+1,h,_=>by
    have:n = i:=by omega
    subst this
    exact Ac (AeT L n f l q (Ak (fun i=>isW (f i)) n) (gK l (fun i=>isW (f i)) n) n j (AA (Nat.le_refl _)))
  | d+1,i,j,p+1,h,h2=>by
    have hl:i < n:=by omega
    have hc:=Be (fun i=>isW (f i)) i
    have hc2:=Be (C3 l (fun i=>isW (f i)) (l i)) i
    have ht:nlt (Ak (fun i=>isW (f i)) i) 4611686018427387904 = true:=by simp only [nlt,decide_eq_true_eq]; omega
    have hf:Do (wr .i64 (Af (gK l (fun i=>isW (f i)) i (l i)) 1)) = true:=by
      show Do (wr .i64 (Af (ofNat (Ak (C3 l (fun i=>isW (f i)) (l i)) i)) 1)) = true
      rw [Aq (show Ak (C3 l (fun i=>isW (f i)) (l i)) i < n by omega) hn]
      exact Q0 (by omega)
    cases cw:isW (f i) with
    | false =>
      rw [Ac (AeS L n f l q (Ak (fun i=>isW (f i)) i) (gK l (fun i=>isW (f i)) i) i j (ofNat_lt hl) (Ax hl) cw),Av,Aq hl hn,<- AiD (l:=l) (c:=(fun i=>isW (f i))) cw,<- Bv (p:=(fun i=>isW (f i))) cw]
      exact T2 L n f l q hn ho d (i+1) (fun _=>.und) p (by omega) (by omega)
    | true =>
      rw [Ac (AeR L n f l q (Ak (fun i=>isW (f i)) i) (gK l (fun i=>isW (f i)) i) i j (ofNat_lt hl) (Ax hl) cw (A4.1 ho i hl) ht hf),Av,Aq hl hn,YP (l:=l) (c:=(fun i=>isW (f i))) (i:=i) cw hl hn,show Bj (Ak (fun i=>isW (f i)) i) 1 = Ak (fun i=>isW (f i)) (i+1) from (Bg (p:=(fun i=>isW (f i))) cw).symm]
      exact T2 L n f l q hn ho d (i+1) (fun _=>.und) p (by omega) (by omega)
theorem PR (L:LT) (n:Nat) (f:Nat->E6) (l:Nat->Int) (q:Int) (t:Nat) (hn:n <= 4611686018427387904) (ho:okP n l = true):∀ (d i:Nat) (j:Nat->V) (p:Nat),n = i+d->d < p ->
    (A7 (Dv L) (Fh n f l q) p (Fe n f l q t (gK l (fun i=>isW (f i)) n) i j)).sem = some (match Bf (AK n l (fun i=>isW (f i)) q) d i with
      | none=>GP n f l q t (gK l (fun i=>isW (f i)) n) 0
      | some m=>GO n f l q t (gK l (fun i=>isW (f i)) n) m)
  | 0,i,j,p+1,h,_=>by
    have:n = i:=by omega
    subst this
    exact Ac (Ae3 L n f l q t (gK l (fun i=>isW (f i)) n) n j (AA (Nat.le_refl _)))
  | d+1,i,j,p+1,h,h2=>by
    have hl:i < n:=by omega
    cases cw:isW (f i) with
    | false =>
      rw [Bz (show AK n l (fun i=>isW (f i)) q i = false by unfold AK; rw [show (fun i=>isW (f i)) i = false from cw]; rfl),Ac (Ae6 L n f l q t (gK l (fun i=>isW (f i)) n) i j (ofNat_lt hl) (Ax hl) cw),Av,Aq hl hn]
      exact PR L n f l q t hn ho d (i+1) (fun _=>.und) p (by omega) (by omega)
    | true =>
      cases cg:ilt q (gK l (fun i=>isW (f i)) n (l i)) with
      | false =>
        rw [Bz (show AK n l (fun i=>isW (f i)) q i = false by unfold AK; rw [show ilt q (Eh n l (fun i=>isW (f i)) (l i)) = false from cg]; cases (fun i=>isW (f i)) i <;> rfl),Ac (Ae5 L n f l q t (gK l (fun i=>isW (f i)) n) i j (ofNat_lt hl) (Ax hl) cw (A4.1 ho i hl) cg),Av,Aq hl hn]
        exact PR L n f l q t hn ho d (i+1) (fun _=>.und) p (by omega) (by omega)
      | true =>
        rw [BX (show AK n l (fun i=>isW (f i)) q i = true by unfold AK; rw [show ilt q (Eh n l (fun i=>isW (f i)) (l i)) = true from cg,show (fun i=>isW (f i)) i = true from cw]; rfl)]
        exact Ac (Ae4 L n f l q t (gK l (fun i=>isW (f i)) n) i j (ofNat_lt hl) (Ax hl) cw (A4.1 ho i hl) cg)
theorem ZI (n:Nat) (f:Nat->E6) (l:Nat->Int) (q:Int) (hn:n <= 4611686018427387904) (ho:okP n l = true) :
    (As (Aj tab (AI Gl KL [(0,LW n f l q),(2,Fh n f l q)]) Try.f86 [Cg n l,.fn 85 [.pp (.agg [A2 n f])],iV q] [])).sem = some (.tup [iV (crR n l (fun i=>isW (f i)) q).1,bV (crR n l (fun i=>isW (f i)) q).2],[]):=by
  have hL:=AD [(0,LW n f l q),(2,Fh n f l q)]
  have h0:=fun L j=>T2 L n f l q hn ho n 0 j (n+1) (by omega) (by omega)
  have h2:=fun L j=>PR L n f l q (Ak (fun i=>isW (f i)) n) hn ho n 0 j (n+1) (by omega) (by omega)
  rw [AiE] at h0
  unfold crR
  cases c1:Bf (AK n l (fun i=>isW (f i)) q) n 0 with
  | some m =>
    rw [c1] at h2
    exact A3 (Aw (Aw hL hL) hL) _ (AcB _ _ _ n f l q (Ak (fun i=>isW (f i)) n) (gK l (fun i=>isW (f i)) n) n m (An (h0 _ _)) (An (h2 _ _)))
  | none =>
    rw [c1] at h2
    exact A3 (Aw (Aw hL hL) hL) _ (AcC _ _ _ n f l q (Ak (fun i=>isW (f i)) n) (gK l (fun i=>isW (f i)) n) n 0 (An (h0 _ _)) (An (h2 _ _)))
def N0 (n:Nat) (_:Nat->Int) (_:Int):Lp:=⟨(bmK 48 0 [0,1,2,6,7,8,14,15,16]),1,bmK 48 0 [0,1,2,6,7,8],1,n+1⟩
def MP (n:Nat) (l:Nat->Int) (q:Int) (t:Nat) (g:Int->Int) (i:Nat) (j:Nat->V):St:=⟨(jsV 48 0 j [(0,.sl 1 n (fun k=>iV (l k))),(1,.fn 88 []),(2,iV q),(6,iV 0),(7,bV false),(8,.ref 0),(14,.sl 1 n (fun k=>iV (l k))),(15,nV n),(16,nV i)]),[.imap 76 t g]⟩
def FC (n:Nat) (l:Nat->Int) (q:Int) (t:Nat) (g:Int->Int) (_:Nat):Ex × St:=(.ex 0,⟨(jsV 48 0 (fun _=>.und) [(0,.sl 1 n (fun k=>iV (l k))),(1,.fn 88 []),(2,iV q),(6,iV 0),(7,bV false),(8,.ref 0)]),[.imap 76 t g]⟩)
noncomputable def HA (L:LT):St->T (Ex × St):=fun st=>AE tab ⟨Ao KL,L,Gl⟩ (Az Try.f86 0) 0 st
section
variable (L:LT) (n:Nat) (l:Nat->Int) (q:Int) (t:Nat) (g:Int->Int) (i:Nat)  (j:Nat->V)
include L n l q t g i j
theorem AeV (h0:ilt (ofNat i) (ofNat n) = false):Al (HA L) (N0 n l q) (MP n l q t g i j) = some ((.ex 0),⟨(jsV 48 0 (fun _=>.und) [(0,(.sl 1 n (fun k=>iV (l k)))),(1,(.fn 88 [])),(2,(iV q)),(6,(iV 0)),(7,(bV false)),(8,(.ref 0))]),[.imap 76 t g]⟩):=Aa [false] [ilt (ofNat i) (ofNat n)] (by kernel_rfl) (by simp only [h0] <;> rfl)
theorem AeU (h0:ilt (ofNat i) (ofNat n) = true) (h1:Ag (ile 0 (ofNat i)) (ilt (ofNat i) (ofNat n)) = true) (h3:Do (l i) = true) (h2:nlt t 4611686018427387904 = true) (h4:Do (wr .i64 (Af (g (l i)) 1)) = true):Al (HA L) (N0 n l q) (MP n l q t g i j) = some (.nm,⟨(jsV 48 0 (fun _=>.und) [(0,(.sl 1 n (fun k=>iV (l k)))),(1,(.fn 88 [])),(2,(iV q)),(6,(iV 0)),(7,(bV false)),(8,(.ref 0)),(14,(.sl 1 n (fun k=>iV (l k)))),(15,(nV n)),(16,(iV (wr .i64 (Af (ofNat i) 1))))]),[.imap 76 (Bj t 1) (fun z=>sel (ieq z (l i)) (wr .i64 (Af (g (l i)) 1)) (g z))]⟩):=Aa (bbK 7 127) [ilt (ofNat i) (ofNat n),Ag (ile 0 (ofNat i)) (ilt (ofNat i) (ofNat n)),true,Do (l i),nlt t 4611686018427387904,Do (l i),Do (wr .i64 (Af (g (l i)) 1))] (by kernel_rfl) (by simp only [h1] <;> simp only [*] <;> rfl)
end
def Vg (_:Nat) (_:Nat->Int) (_:Int) :Nat->V:=lkV A8 [(13,(.ref 0))]
def FY (n:Nat) (_:Nat->Int) (_:Int):Lp:=⟨(bmK 48 0 [1,2,6,7,8,29,30,31]),1,bmK 48 0 [6,7],0,n+1⟩
def FM (n:Nat) (l:Nat->Int) (q:Int) (t:Nat) (g:Int->Int) (i:Nat) (j:Nat->V):St:=⟨(jsV 48 0 j [(1,.fn 88 []),(2,iV q),(6,iV 0),(7,bV false),(8,.ref 0),(29,.sl 1 n (fun k=>iV (l k))),(30,nV n),(31,nV i)]),[.imap 76 t g]⟩
def GR (_:Nat) (_:Nat->Int) (_:Int) (_:Nat) (_:Int->Int) (_:Nat):Ex × St:=(.ex 2,⟨(jsV 48 0 (fun _=>.und) [(6,iV 0),(7,bV false)]),[]⟩)
def GQ (_:Nat) (_:Nat->Int) (_:Int) (_:Nat) (_:Int->Int) (i:Nat):Ex × St:=(.rt,⟨(jsV 48 0 (fun _=>.und) [(6,nV i),(7,bV true)]),[]⟩)
noncomputable def DT (L:LT):St->T (Ex × St):=fun st=>AE tab ⟨Ao KL,L,Gl⟩ (Az Try.f86 2) 2 st
section
variable (L:LT) (n:Nat) (l:Nat->Int) (q:Int) (t:Nat) (g:Int->Int) (i:Nat)  (j:Nat->V)
include L n l q t g i j
theorem Ae7 (h0:ilt (ofNat i) (ofNat n) = false):Al (DT L) (FY n l q) (FM n l q t g i j) = some ((.ex 2),⟨(jsV 48 0 (fun _=>.und) [(6,(iV 0)),(7,(bV false))]),[]⟩):=Aa [false] [ilt (ofNat i) (ofNat n)] (by kernel_rfl) (by simp only [h0] <;> rfl)
theorem Ae9 (h0:ilt (ofNat i) (ofNat n) = true) (h1:Ag (ile 0 (ofNat i)) (ilt (ofNat i) (ofNat n)) = true) (h2:Do (l i) = true) (h3:ilt q (g (l i)) = false):Al (DT L) (FY n l q) (FM n l q t g i j) = some (.nm,⟨(jsV 48 0 (fun _=>.und) [(1,(.fn 88 [])),(2,(iV q)),(6,(iV 0)),(7,(bV false)),(8,(.ref 0)),(29,(.sl 1 n (fun k=>iV (l k)))),(30,(nV n)),(31,(iV (wr .i64 (Af (ofNat i) 1))))]),[.imap 76 t g]⟩):=Aa (bbK 10 511) [ilt (ofNat i) (ofNat n),Ag (ile 0 (ofNat i)) (ilt (ofNat i) (ofNat n)),true,true,true,Do (l i),true,true,true,ilt q (g (l i))] (by kernel_rfl) (by simp only [h1] <;> simp only [*] <;> rfl)
theorem Ae8 (h0:ilt (ofNat i) (ofNat n) = true) (h1:Ag (ile 0 (ofNat i)) (ilt (ofNat i) (ofNat n)) = true) (h2:Do (l i) = true) (h3:ilt q (g (l i)) = true):Al (DT L) (FY n l q) (FM n l q t g i j) = some (.rt,⟨(jsV 48 0 (fun _=>.und) [(6,(nV i)),(7,(bV true))]),[]⟩):=Aa (bbK 10 1023) [ilt (ofNat i) (ofNat n),Ag (ile 0 (ofNat i)) (ilt (ofNat i) (ofNat n)),true,true,true,Do (l i),true,true,true,ilt q (g (l i))] (by kernel_rfl) (by simp only [h1] <;> simp only [*] <;> rfl)
end
def Mu (n:Nat) (l:Nat->Int) (_:Int) (_:Nat) (_:Int->Int) (_:Nat):Nat->V:=lkV A8 [(0,(.sl 1 n (fun k=>iV (l k)))),(3,.und),(4,.und),(5,.und),(9,.und),(10,.und),(11,.und),(12,.und),(13,.und),(14,.und),(15,.und),(16,.und),(17,.und),(18,.und),(19,.und),(20,.und),(21,.und),(22,.und),(23,.und),(24,.und),(25,.und),(26,.und),(27,.und),(28,.und),(32,.und),(33,.und),(34,.und),(35,.und),(36,.und),(37,.und),(38,.und),(39,.und),(40,.und),(41,.und),(42,.und),(43,.und),(44,.und),(45,.und),(46,.und),(47,.und)]
section
variable (L:LT) (p0:PT) (p2:PT) (n:Nat) (l:Nat->Int) (q:Int) (t:Nat) (g:Int->Int) (i m:Nat)
include L p0 p2 n l q t g i m
theorem AcE  (hp0:p0 (HA (onP 0 p0 (FC n l q t g i) (onP 2 p2 (GR n l q t g m) L))) (MP n l q 0 (fun _=>0) 0 (Vg n l q )) = true) (hp2:p2 (DT (onP 0 p0 (FC n l q t g i) (onP 2 p2 (GR n l q t g m) L))) (FM n l q t g 0 (Mu n l q t g i)) = true):(As (Aj tab ⟨Ao KL,onP 0 p0 (FC n l q t g i) (onP 2 p2 (GR n l q t g m) L),Gl⟩ Try.f86 [Cg n l,.fn 88 [],iV q] [])).sem = some ((.tup [iV 0,bV false]),[]):=Aa [true,true] [p0 (HA (onP 0 p0 (FC n l q t g i) (onP 2 p2 (GR n l q t g m) L))) (MP n l q 0 (fun _=>0) 0 (Vg n l q )),p2 (DT (onP 0 p0 (FC n l q t g i) (onP 2 p2 (GR n l q t g m) L))) (FM n l q t g 0 (Mu n l q t g i))] (by kernel_rfl) (by simp only [hp0,hp2] <;> rfl)
theorem AcD  (hp0:p0 (HA (onP 0 p0 (FC n l q t g i) (onP 2 p2 (GQ n l q t g m) L))) (MP n l q 0 (fun _=>0) 0 (Vg n l q )) = true) (hp2:p2 (DT (onP 0 p0 (FC n l q t g i) (onP 2 p2 (GQ n l q t g m) L))) (FM n l q t g 0 (Mu n l q t g i)) = true):(As (Aj tab ⟨Ao KL,onP 0 p0 (FC n l q t g i) (onP 2 p2 (GQ n l q t g m) L),Gl⟩ Try.f86 [Cg n l,.fn 88 [],iV q] [])).sem = some ((.tup [nV m,bV true]),[]):=Aa [true,true] [p0 (HA (onP 0 p0 (FC n l q t g i) (onP 2 p2 (GQ n l q t g m) L))) (MP n l q 0 (fun _=>0) 0 (Vg n l q )),p2 (DT (onP 0 p0 (FC n l q t g i) (onP 2 p2 (GQ n l q t g m) L))) (FM n l q t g 0 (Mu n l q t g i))] (by kernel_rfl) (by simp only [hp0,hp2] <;> rfl)
end
theorem XC (L:LT) (n:Nat) (l:Nat->Int) (q:Int) (hn:n <= 4611686018427387904) (ho:okP n l = true):∀ (d i:Nat) (j:Nat->V) (p:Nat),n = i+d->d < p ->
    (A7 (HA L) (N0 n l q) p (MP n l q (Ak (fun _=>true) i) (gK l (fun _=>true) i) i j)).sem = some (FC n l q (Ak (fun _=>true) n) (gK l (fun _=>true) n) n)
  | 0,i,j,p+1,h,_=>by
    have:n = i:=by omega
    subst this
    exact Ac (AeV L n l q (Ak (fun _=>true) n) (gK l (fun _=>true) n) n j (AA (Nat.le_refl _)))
  | d+1,i,j,p+1,h,h2=>by
    have hl:i < n:=by omega
    have hc:=Be (fun _=>true) i
    have hc2:=Be (C3 l (fun _=>true) (l i)) i
    have ht:nlt (Ak (fun _=>true) i) 4611686018427387904 = true:=by simp only [nlt,decide_eq_true_eq]; omega
    have hf:Do (wr .i64 (Af (gK l (fun _=>true) i (l i)) 1)) = true:=by
      show Do (wr .i64 (Af (ofNat (Ak (C3 l (fun _=>true) (l i)) i)) 1)) = true
      rw [Aq (show Ak (C3 l (fun _=>true) (l i)) i < n by omega) hn]
      exact Q0 (by omega)
    rw [Ac (AeU L n l q (Ak (fun _=>true) i) (gK l (fun _=>true) i) i j (ofNat_lt hl) (Ax hl) (A4.1 ho i hl) ht hf),Av,Aq hl hn,YP (l:=l) (c:=(fun _=>true)) (i:=i) rfl hl hn,show Bj (Ak (fun _=>true) i) 1 = Ak (fun _=>true) (i+1) from (Bg (p:=(fun _=>true)) rfl).symm]
    exact XC L n l q hn ho d (i+1) (fun _=>.und) p (by omega) (by omega)
theorem U4 (L:LT) (n:Nat) (l:Nat->Int) (q:Int) (t:Nat) (hn:n <= 4611686018427387904) (ho:okP n l = true):∀ (d i:Nat) (j:Nat->V) (p:Nat),n = i+d->d < p ->
    (A7 (DT L) (FY n l q) p (FM n l q t (gK l (fun _=>true) n) i j)).sem = some (match Bf (AK n l (fun _=>true) q) d i with
      | none=>GR n l q t (gK l (fun _=>true) n) 0
      | some m=>GQ n l q t (gK l (fun _=>true) n) m)
  | 0,i,j,p+1,h,_=>by
    have:n = i:=by omega
    subst this
    exact Ac (Ae7 L n l q t (gK l (fun _=>true) n) n j (AA (Nat.le_refl _)))
  | d+1,i,j,p+1,h,h2=>by
    have hl:i < n:=by omega
    cases cg:ilt q (gK l (fun _=>true) n (l i)) with
    | false =>
      rw [Bz (show AK n l (fun _=>true) q i = false by unfold AK; rw [show ilt q (Eh n l (fun _=>true) (l i)) = false from cg]; cases (fun _=>true) i <;> rfl),Ac (Ae9 L n l q t (gK l (fun _=>true) n) i j (ofNat_lt hl) (Ax hl) (A4.1 ho i hl) cg),Av,Aq hl hn]
      exact U4 L n l q t hn ho d (i+1) (fun _=>.und) p (by omega) (by omega)
    | true =>
      rw [BX (show AK n l (fun _=>true) q i = true by unfold AK; rw [show ilt q (Eh n l (fun _=>true) (l i)) = true from cg,show (fun _=>true) i = true from rfl]; rfl)]
      exact Ac (Ae8 L n l q t (gK l (fun _=>true) n) i j (ofNat_lt hl) (Ax hl) (A4.1 ho i hl) cg)
theorem ZJ (n:Nat) (l:Nat->Int) (q:Int) (hn:n <= 4611686018427387904) (ho:okP n l = true) :
    (As (Aj tab (AI Gl KL [(0,N0 n l q),(2,FY n l q)]) Try.f86 [Cg n l,.fn 88 [],iV q] [])).sem = some (.tup [iV (crR n l (fun _=>true) q).1,bV (crR n l (fun _=>true) q).2],[]):=by
  have hL:=AD [(0,N0 n l q),(2,FY n l q)]
  have h0:=fun L j=>XC L n l q hn ho n 0 j (n+1) (by omega) (by omega)
  have h2:=fun L j=>U4 L n l q (Ak (fun _=>true) n) hn ho n 0 j (n+1) (by omega) (by omega)
  rw [AiE] at h0
  unfold crR
  cases c1:Bf (AK n l (fun _=>true) q) n 0 with
  | some m =>
    rw [c1] at h2
    exact A3 (Aw (Aw hL hL) hL) _ (AcD _ _ _ n l q (Ak (fun _=>true) n) (gK l (fun _=>true) n) n m (An (h0 _ _)) (An (h2 _ _)))
  | none =>
    rw [c1] at h2
    exact A3 (Aw (Aw hL hL) hL) _ (AcE _ _ _ n l q (Ak (fun _=>true) n) (gK l (fun _=>true) n) n 0 (An (h0 _ _)) (An (h2 _ _)))
def Uf:List V->T (V × List Blk)
  | [u,.fn 85 [.pp (.agg [v])],.val (.int .i64 q)]=>apI u fun m l=>apL v fun n f=>.br (AV n m) (.br (Ab n) (.br (okP m l) (out (.tup [iV (crR m l (fun i=>isW (f i)) q).1,bV (crR m l (fun i=>isW (f i)) q).2])) .fail) .fail) .fail
  | [u,.fn 88 [],.val (.int .i64 q)]=>apI u fun m l=>.br (Ab m) (.br (okP m l) (out (.tup [iV (crR m l (fun _=>true) q).1,bV (crR m l (fun _=>true) q).2])) .fail) .fail
  | _=>.fail
theorem p91:AB Try.prog Gl 86 Uf:=by
  refine A1 AQ AR Try.func86 (by kernel_rfl) (by kernel_rfl) fun vs v h' h=>?_
  unfold Uf at h
  split at h
  · rename_i u1 v1 q
    obtain ⟨m,l,ha,h1⟩:=EM h
    obtain ⟨n,f,hb,h2⟩:=Cj h1
    obtain ⟨hm,h3⟩:=Ah h2
    obtain ⟨hn,h4⟩:=Ah h3
    obtain ⟨ho,hq⟩:=Ah h4
    have hm:n = m:=Nat.eq_of_beq_eq_true hm
    subst hm
    have:=Ad hq
    simp only [Prod.mk.injEq] at this
    obtain ⟨rfl,rfl⟩:=this
    have hn:n <= 4611686018427387904:=of_decide_eq_true hn
    have hA:Bw [u1,.fn 85 [.pp (.agg [v1])],.val (.int .i64 q)] [Cg n l,.fn 85 [.pp (.agg [A2 n f])],iV q]:=fun S w cs hv=>by
      obtain ⟨c,l1,rfl,q1,c2,l2,rfl,⟨ca,q4,c5,l5,q5,q6,q7⟩,q3⟩:=hv
      exact ⟨c,_,rfl,ha S w c q1,c2,l2,rfl,⟨ca,q4,c5,l5,q5,Ack hb S w noK c5 q6,q7⟩,q3⟩
    have hx:=AP Uw [(0,LW n f l q),(2,Fh n f l q)]
    exact ⟨_,AI Gl KL [(0,LW n f l q),(2,Fh n f l q)],_,hA,rfl,hx.1,hx.2,ZI n f l q hn ho,A6.refl _⟩
  · rename_i u1 q
    obtain ⟨n,l,ha,h1⟩:=EM h
    obtain ⟨hn,h4⟩:=Ah h1
    obtain ⟨ho,hq⟩:=Ah h4
    have:=Ad hq
    simp only [Prod.mk.injEq] at this
    obtain ⟨rfl,rfl⟩:=this
    have hn:n <= 4611686018427387904:=of_decide_eq_true hn
    have hA:Bw [u1,.fn 88 [],.val (.int .i64 q)] [Cg n l,.fn 88 [],iV q]:=fun S w cs hv=>by
      obtain ⟨c,l1,rfl,q1,q3⟩:=hv
      exact ⟨c,_,rfl,ha S w c q1,q3⟩
    have hx:=AP Uw [(0,N0 n l q),(2,FY n l q)]
    exact ⟨_,AI Gl KL [(0,N0 n l q),(2,FY n l q)],_,hA,rfl,hx.1,hx.2,ZJ n l q hn ho,A6.refl _⟩
  · cases h
end Go.Proofs.Ytjhnfomefcngfaa.Ed
