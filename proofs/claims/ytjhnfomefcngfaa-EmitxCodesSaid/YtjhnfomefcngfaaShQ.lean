/-
  Layer 7: the copy of a shape (function 32). No conditions.
-/
import Derived.Test.YtjhnfomefcngfaaShT
import Derived.Test.YtjhnfomefcngfaaShW
import Derived.Test.YtjhnfomefcngfaaShA
namespace Go.Proofs.Ytjhnfomefcngfaa.Sh
open Go.Sy Ed
open Int (ofNat)
set_option maxHeartbeats 1000000
set_option maxRecDepth 4000
def AlK (s:Sh7):V:=.agg [iV s.arch,.ref 0,.ref 1,iV s.tt,iV s.kk,.ref 2,.jref 3]
def AlL (s:Sh7):List Blk:=[.row 44 6 s.ne (λi=>eV (s.E i)),.row 40 5 s.nx (λi=>evV (s.X i)),.row 3 1 s.nr (λi=>iV (s.R i)),
 .jag ⟨25,1,s.nc,λ_=>.und,0,3,1,λ_=>true,λi=>(s.C i).1,λi j=>iV ((s.C i).2 j)⟩]
def Rs (s:Sh7):Bool:=Ak (AY 0 s.ne 40) (Ak (AY 0 s.nx 40) (Ak (AY 0 s.nr 8) (Ak (AY 0 s.nc 24) (A5 s.nc λi=>AY 0 (s.C i).1 8))))
def AaX:List V->T (V × List Blk)
 | [v]=>apS v λs=>.br (Rs s) (.leaf (AlK s,AlL s)) .fail
 | _=>.fail
theorem MM {n i:Nat} {gx g:Nat->V} (h:i < n):Bt 0 n gx g i = g i:=by
 unfold Bt
 split
 ·rw [Bq,show i = 0 by omega]
  rfl
 ·rw [LW]
  have:Nat.blt i 0 = false:=by cases hb:Nat.blt i 0 with
   | false=>rfl
   | true=>exact absurd (Nat.le_of_ble_eq_true hb) (by omega)
  rw [this]
  rfl
theorem Z7 (b:Nat):A1 b (λ_=>V.und) .und = λ_=>.und:=by
 funext i
 rw [Bq]
 cases Nat.beq i b <;> rfl
def LL (ln:Nat->Nat) (b:Nat):Nat->Nat:=λi=>if i < b then ln i else 0
noncomputable def CC (ln:Nat->Nat) (co:Nat->Nat->Int) (b:Nat):Nat->Nat->V:=λi=>if i < b then Bt 0 (ln i) (λ_=>.und) (λw=>iV (co i w)) else λ_=>.und
theorem An5 (ln:Nat->Nat):LL ln 0 = λ_=>0:=by
 funext i
 exact if_neg (by omega)
theorem An6 (ln:Nat->Nat) (co:Nat->Nat->Int):CC ln co 0 = λ_ _=>.und:=by
 funext i
 exact if_neg (by omega)
theorem AdM (ln:Nat->Nat) (b:Nat):(λi=>sel (AD i b) (AQ 0 (ln b)) (LL ln b i)) = LL ln (b+1):=by
 funext i
 by_cases h:i = b
 ·subst h
  rw [nbeq_self]
  show AQ 0 (ln i) = if i < i+1 then ln i else 0
  rw [if_pos (by omega)]
  exact Nat.zero_add _
 ·rw [Go.Sy.nbeq_ne h]
  show (if i < b then ln i else 0) = if i < b+1 then ln i else 0
  by_cases h2:i < b
  ·rw [if_pos h2,if_pos (by omega)]
  ·rw [if_neg h2,if_neg (by omega)]
theorem AdO (ln:Nat->Nat) (co:Nat->Nat->Int) (b:Nat):(λi j=>BX (λu w=>CC ln co b u w) b (Bt 0 (ln b) (λ_=>.und) (λi=>iV (co b i))) i j) = CC ln co (b+1):=by
 funext i j
 by_cases h:i = b
 ·subst h
  rw [Fm]
  unfold CC
  rw [if_pos (by omega)]
 ·rw [I6 h]
  show CC ln co b i j = _
  unfold CC
  by_cases h2:i < b
  ·rw [if_pos h2,if_pos (by omega)]
  ·rw [if_neg h2,if_neg (by omega)]
theorem AfT (b:Bool):sel b true true = true:=by cases b <;> rfl
def WG (a:Int) (n:Nat) (g:Nat->E6) (m:Nat) (x:Nat->Ev5) (t k:Int) (p:Nat) (r:Nat->Int) (q:Nat) (ln:Nat->Nat) (co:Nat->Nat->Int) :St:=⟨(jsV 50 0 (λ_=>A9) [(0,(.agg (shL a n g m x t k p r q ln co))),(1,(.ptr 0 0)),(2,(.ptr 1 0)),(3,(.ptr 2 0)),(4,(iV 0)),(6,(.agg (shL a n g m x t k p r q ln co))),(7,(.ptr 2 1)),(8,(.ptr 2 2)),(9,(.ptr 2 5)),(10,(.ptr 2 6)),(11,(.ptr 2 1)),(12,.und),(13,(.ptr 0 1)),(14,(.sl 6 n (λi=>eV (g i)))),(15,(.ref 3)),(16,(.ptr 2 1)),(17,(.ptr 2 2)),(18,.und),(19,(.ptr 0 2)),(20,(.sl 5 m (λi=>evV (x i)))),(21,(.ref 4)),(22,(.ptr 2 2)),(23,(.ptr 2 5)),(24,.und),(25,(.ptr 0 5)),(26,(.sl 1 p (λi=>iV (r i)))),(27,(.ref 5)),(28,(.ptr 2 5))]),[.cells (shL a n g m x t k p r q ln co),c7Z,.cells [iV a,.ref 3,.ref 4,iV t,iV k,.ref 5,.jref 6],.row 44 6 (AQ 0 n) (Bt 0 n (λ_=>.und) (λi=>eV (g i))),.row 40 5 (AQ 0 m) (Bt 0 m (λ_=>.und) (λi=>evV (x i))),.row 3 1 (AQ 0 p) (Bt 0 p (λ_=>.und) (λi=>iV (r i))),jgZ]⟩
def UN (a:Int) (n:Nat) (g:Nat->E6) (m:Nat) (x:Nat->Ev5) (t k:Int) (p:Nat) (r:Nat->Int) (q:Nat) (ln:Nat->Nat) (co:Nat->Nat->Int):Lp:=⟨(bmK 50 0 [1,2,3,4]),7,bmK 50 0 [2,3],7,q+1⟩
def Ach (a:Int) (n:Nat) (g:Nat->E6) (m:Nat) (x:Nat->Ev5) (t k:Int) (p:Nat) (r:Nat->Int) (q:Nat) (ln:Nat->Nat) (co:Nat->Nat->Int) (b:Nat) (y1 y2 y3:Nat->V) (l1:Nat->Nat) (c1:Nat->Nat->V) (j:Nat->V):St:=⟨(jsV 50 0 j [(1,.ptr 0 0),(2,.ptr 1 0),(3,.ptr 2 0),(4,nV b)]),[.cells [iV a,.sl 6 n (λi=>eV (g i)),.sl 5 m (λi=>evV (x i)),iV t,iV k,.sl 1 p (λi=>iV (r i)),.sl 1 q (λu=>.sl 1 (ln u) (λi=>iV (co u i)))],c7Z,.cells [iV a,.ref 3,.ref 4,iV t,iV k,.ref 5,.jref 6],.row 44 6 (AQ 0 n) y1,.row 40 5 (AQ 0 m) y2,.row 3 1 (AQ 0 p) y3,.jag (Jag.mk 25 1 b (λ_=>.und) 0 3 1 (λ_=>true) l1 c1)]⟩
def WQ (a:Int) (n:Nat) (g:Nat->E6) (m:Nat) (x:Nat->Ev5) (t k:Int) (p:Nat) (r:Nat->Int) (q:Nat) (ln:Nat->Nat) (co:Nat->Nat->Int) (b:Nat) (y1 y2 y3:Nat->V) (l1:Nat->Nat) (c1:Nat->Nat->V):Ex × St:=(.ex 0,⟨(jsV 50 0 (λ_=>.und) [(2,.ptr 1 0),(3,.ptr 2 0)]),[.cells [iV a,.sl 6 n (λi=>eV (g i)),.sl 5 m (λi=>evV (x i)),iV t,iV k,.sl 1 p (λi=>iV (r i)),.sl 1 q (λu=>.sl 1 (ln u) (λi=>iV (co u i)))],c7Z,.cells [iV a,.ref 3,.ref 4,iV t,iV k,.ref 5,.jref 6],.row 44 6 (AQ 0 n) y1,.row 40 5 (AQ 0 m) y2,.row 3 1 (AQ 0 p) y3,.jag (Jag.mk 25 1 b (λ_=>.und) 0 3 1 (λ_=>true) l1 c1)]⟩)
noncomputable def RB (L:LT):St->T (Ex × St):=λst=>AC tab ⟨Am tb0,L,Gl⟩ (Au Try.f32 0) 0 st
section
variable (L:LT) (a:Int) (n:Nat) (g:Nat->E6) (m:Nat) (x:Nat->Ev5) (t k:Int) (p:Nat) (r:Nat->Int) (q:Nat) (ln:Nat->Nat) (co:Nat->Nat->Int) (b:Nat) (y1 y2 y3:Nat->V) (l1:Nat->Nat) (c1:Nat->Nat->V)  (j:Nat->V)
include L a n g m x t k p r q ln co b y1 y2 y3 l1 c1 j
theorem Akd (h0:ilt (ofNat b) (ofNat q) = false):Ah (RB L) (UN a n g m x t k p r q ln co) (Ach a n g m x t k p r q ln co b y1 y2 y3 l1 c1 j) = some ((.ex 0),⟨(jsV 50 0 (λ_=>.und) [(2,(.ptr 1 0)),(3,(.ptr 2 0))]),[(.cells (shL a n g m x t k p r q ln co)),c7Z,(.cells [(iV a),(.ref 3),(.ref 4),(iV t),(iV k),(.ref 5),(.jref 6)]),(.row 44 6 (AQ 0 n) y1),(.row 40 5 (AQ 0 m) y2),(.row 3 1 (AQ 0 p) y3),(.jag (Jag.mk 25 1 b (λ_=>.und) 0 3 1 (λ_=>true) l1 (λi i_1=>(c1 i i_1))))]⟩):=by
 exact Aa (ks:=[kn h0]) (by kernel_rfl)
theorem Akc (h0:ilt (ofNat b) (ofNat q) = true) (h19:ile 0 (ofNat b) = true) (h20:AY 0 (ln b) 8 = true) (h21:AY b 1 24 = true):Ah (RB L) (UN a n g m x t k p r q ln co) (Ach a n g m x t k p r q ln co b y1 y2 y3 l1 c1 j) = some (.nm,⟨(jsV 50 0 (λ_=>.und) [(1,(.ptr 0 0)),(2,(.ptr 1 0)),(3,(.ptr 2 0)),(4,(iV (wr .i64 (Af (ofNat b) 1))))]),[(.cells (shL a n g m x t k p r q ln co)),c7Z,(.cells [(iV a),(.ref 3),(.ref 4),(iV t),(iV k),(.ref 5),(.jref 6)]),(.row 44 6 (AQ 0 n) y1),(.row 40 5 (AQ 0 m) y2),(.row 3 1 (AQ 0 p) y3),(.jag (Jag.mk 25 1 (AQ b 1) (A1 b (λ_=>.und) .und) 0 3 1 (λi=>(sel (AD i b) true true)) (λi=>(sel (AD i b) (AQ 0 (ln b)) (l1 i))) (λi i_1=>(BX (λi_2 i_3=>(c1 i_2 i_3)) b (Bt 0 (ln b) (λ_=>.und) (λi=>(iV (co b i)))) i i_1))))]⟩):=by
 exact Aa (ks:=[kn h0,kA (kn h19) (kn h0),kn h20,kT,kn h21]) (by kernel_rfl)
end
theorem AmG (L:LT) (p0:PT) (a:Int) (n:Nat) (g:Nat->E6) (m:Nat) (x:Nat->Ev5) (t k:Int) (p:Nat) (r:Nat->Int) (q:Nat) (ln:Nat->Nat) (co:Nat->Nat->Int) (y1 y2 y3:Nat->V) (l1:Nat->Nat) (c1:Nat->Nat->V) (h17:AY 0 n 40 = true) (h18:AY 0 m 40 = true) (h19:AY 0 p 8 = true) (hp0:p0 (RB (onP 0 p0 (WQ a n g m x t k p r q ln co q y1 y2 y3 l1 c1) L)) (WG a n g m x t k p r q ln co) = true):(Ar (Ai tab ⟨Am tb0,(onP 0 p0 (WQ a n g m x t k p r q ln co q y1 y2 y3 l1 c1) L),Gl⟩ Try.f32 [.agg (shL a n g m x t k p r q ln co)] [])).sem = some ((.agg [(iV a),(.ref 0),(.ref 1),(iV t),(iV k),(.ref 2),(.jref 3)]),[(.row 44 6 (AQ 0 n) y1),(.row 40 5 (AQ 0 m) y2),(.row 3 1 (AQ 0 p) y3),(.jag (Jag.mk 25 1 q (λ_=>.und) 0 3 1 (λ_=>true) l1 (λi i_1=>(c1 i i_1))))]):=by
 exact Aa (ks:=[kn h17,kn h18,kn h19,kn hp0]) (by kernel_rfl)
theorem AaA (a:Int) (n:Nat) (g:Nat->E6) (m:Nat) (x:Nat->Ev5) (t k:Int) (p:Nat) (r:Nat->Int) (q:Nat) (ln:Nat->Nat) (co:Nat->Nat->Int):WG a n g m x t k p r q ln co = Ach a n g m x t k p r q ln co 0 (Bt 0 n (λ_=>.und) (λi=>eV (g i))) (Bt 0 m (λ_=>.und) (λi=>evV (x i))) (Bt 0 p (λ_=>.und) (λi=>iV (r i))) (λ_=>0) (λ_ _=>.und) (λi=>nth (WG a n g m x t k p r q ln co).t i):=by kernel_rfl
theorem Aeg (L:LT) (a:Int) (n:Nat) (g:Nat->E6) (m:Nat) (x:Nat->Ev5) (t k:Int) (p:Nat) (r:Nat->Int) (q:Nat) (ln:Nat->Nat) (co:Nat->Nat->Int) (y1 y2 y3:Nat->V) (h1:AY 0 q 24 = true) (h2:∀ b,b < q->AY 0 (ln b) 8 = true):∀ (e b:Nat) (j:Nat->V) (u:Nat),q = b+e->e < u ->
  (A4 (RB L) (UN a n g m x t k p r q ln co) u (Ach a n g m x t k p r q ln co b y1 y2 y3 (LL ln b) (CC ln co b) j)).sem = some (WQ a n g m x t k p r q ln co q y1 y2 y3 (LL ln q) (CC ln co q))
 | 0,b,j,u+1,h,_=>by
  have:q = b:=by omega
  subst this
  exact Ab (Akd L a n g m x t k p r q ln co q y1 y2 y3 (LL ln q) (CC ln co q) j (A6 (Nat.le_refl _)))
 | e+1,b,j,u+1,h,h3=>by
  have hl:b < q:=by omega
  have h1':(0+q) * 24 <= 140737488355328:=of_decide_eq_true h1
  have hb:AY b 1 24 = true:=decide_eq_true (by omega)
  have next:=Aeg L a n g m x t k p r q ln co y1 y2 y3 h1 h2 e (b+1) (λ_=>.und) u (by omega) (by omega)
  have hr:=Akc L a n g m x t k p r q ln co b y1 y2 y3 (LL ln b) (CC ln co b) j (ofNat_lt hl) (AF b) (h2 b hl) hb
  rw [Ab hr,Aq,Ao hl (by omega),AdM,AdO,Z7]
  rw [show (λi=>sel (AD i b) true true) = λ_=>true from funext λi=>AfT _]
  exact next
theorem p32:A7 Try.prog Gl 32 AaX:=by
 refine Av AL AN Try.func32 (by kernel_rfl) (by kernel_rfl) λvs v h' h=>?_
 unfold AaX at h
 split at h
 ·rename_i v1
  obtain ⟨s,a1,h⟩:=BI h
  obtain ⟨hf,h⟩:=Ad h
  have:=Ac h
  simp only [Prod.mk.injEq] at this
  obtain ⟨rfl,rfl⟩:=this
  obtain ⟨a,n,g,m,x,t,k,p,r,q,C⟩:=s
  have hA:Bp [v1] [.agg [iV a,.sl 6 n (λi=>eV (g i)),.sl 5 m (λi=>evV (x i)),iV t,iV k,.sl 1 p (λi=>iV (r i)),.sl 1 q (λu=>.sl 1 (C u).1 (λi=>iV ((C u).2 i)))]]:=λS w cs hv=>by
   obtain ⟨c,l,rfl,q1,q2⟩:=hv
   exact ⟨c,_,rfl,a1 S w c q1,q2⟩
  have hf:AY 0 n 40 = true ∧ AY 0 m 40 = true ∧ AY 0 p 8 = true ∧ AY 0 q 24 = true ∧ (A5 q λi=>AY 0 (C i).1 8) = true:=by simpa [Rs,Ak] using hf
  obtain ⟨f1,f2,f3,f4,f5⟩:=hf
  have f5:=A3.1 f5
  have hx:=AO C9 [(0,UN a n g m x t k p r q (λu=>(C u).1) (λu=>(C u).2))] (G:=Gl)
  have hL:=AE [(0,UN a n g m x t k p r q (λu=>(C u).1) (λu=>(C u).2))]
  have hQ:=As (k:=0) (r:=WQ a n g m x t k p r q (λu=>(C u).1) (λu=>(C u).2) q (Bt 0 n (λ_=>.und) (λi=>eV (g i))) (Bt 0 m (λ_=>.und) (λi=>evV (x i))) (Bt 0 p (λ_=>.und) (λi=>iV (r i))) (LL (λu=>(C u).1) q) (CC (λu=>(C u).1) (λu=>(C u).2) q)) hL hL
  refine ⟨_,AI Gl tb0 [(0,UN a n g m x t k p r q (λu=>(C u).1) (λu=>(C u).2))],_,hA,rfl,hx.1,hx.2,A2 hQ _ (AmG _ _ a n g m x t k p r q (λu=>(C u).1) (λu=>(C u).2) _ _ _ _ _ f1 f2 f3 (Aj ?_)),?_⟩
  ·show (A4 _ (UN a n g m x t k p r q (λu=>(C u).1) (λu=>(C u).2)) (q+1) (WG a n g m x t k p r q (λu=>(C u).1) (λu=>(C u).2))).sem = _
   rw [AaA,<- An5 (λu=>(C u).1),<- An6 (λu=>(C u).1) (λu=>(C u).2)]
   exact Aeg _ a n g m x t k p r q (λu=>(C u).1) (λu=>(C u).2) _ _ _ f4 f5 q 0 _ (q+1) (by omega) (by omega)
  ·rw [show AQ 0 n = n from Nat.zero_add n,show AQ 0 m = m from Nat.zero_add m,show AQ 0 p = p from Nat.zero_add p]
   refine .cons (λi hi=>(MM (g:=λi=>eV (g i)) hi).symm) <| .cons (λi hi=>(MM (g:=λi=>evV (x i)) hi).symm) <| .cons (λi hi=>(MM (g:=λi=>iV (r i)) hi).symm) <| .consB ?_ (.refl [])
   refine SayB.jag (j:=Jag.mk 25 1 q (λ_=>.und) 0 3 1 (λ_=>true) (LL (λu=>(C u).1) q) (λi w=>CC (λu=>(C u).1) (λu=>(C u).2) q i w)) (λ_ _=>.inr rfl) (λ_ _=>rfl) (λi hi=>?_) (λi hi w hw=>?_)
   ·exact (if_pos hi).symm
   ·have hi:i < q:=hi
    have hw:w < LL (λu=>(C u).1) q i:=hw
    unfold LL at hw
    rw [if_pos hi] at hw
    show iV ((C i).2 w) = CC (λu=>(C u).1) (λu=>(C u).2) q i w
    unfold CC
    rw [if_pos hi,MM hw]
 ·cases h
end Go.Proofs.Ytjhnfomefcngfaa.Sh
namespace Go.Proofs.Ytjhnfomefcngfaa.Ed
open Go.Sy Go
open Int (ofNat)
def QW (n:Nat) (f:Nat->Int) (m:Nat) (g:Nat->Int):Lp:=⟨(bmK 46 0 [0,1,4,5]),0,bmK 46 0 [0,1,4],0,n+1⟩
def Nu (n:Nat) (f:Nat->Int) (m:Nat) (g:Nat->Int) (i:Nat) (j:Nat->V):St:=⟨(jsV 46 0 j [(0,.sl 1 n λk=>iV (f k)),(1,.sl 1 m λk=>iV (g k)),(4,iV 0),(5,nV i)]),[]⟩
def AaC (n:Nat) (f:Nat->Int) (m:Nat) (g:Nat->Int) (i:Nat):Ex × St:=(.rt,⟨(jsV 46 0 (λ_=>.und) [(0,.sl 1 n λk=>iV (f k)),(1,.sl 1 m λk=>iV (g k)),(4,iV (-1))]),[]⟩)
def AaD (n:Nat) (f:Nat->Int) (m:Nat) (g:Nat->Int) (i:Nat):Ex × St:=(.rt,⟨(jsV 46 0 (λ_=>.und) [(0,.sl 1 n λk=>iV (f k)),(1,.sl 1 m λk=>iV (g k)),(4,iV 1)]),[]⟩)
def O5 (n:Nat) (f:Nat->Int) (m:Nat) (g:Nat->Int) (i:Nat):Ex × St:=(.ex 0,⟨(jsV 46 0 (λ_=>.und) [(0,.sl 1 n λk=>iV (f k)),(1,.sl 1 m λk=>iV (g k)),(4,iV 0)]),[]⟩)
noncomputable def FE (L:LT):St->T (Ex × St):=λst=>AC tab ⟨Am tb0,L,Gl⟩ (Au Try.f73 0) 0 st
section
variable (L:LT) (n:Nat) (f:Nat->Int) (m:Nat) (g:Nat->Int) (i:Nat)  (j:Nat->V)
include L n f m g i j
theorem AkB (h0:ilt (ofNat i) (ofNat n) = false):Ah (FE L) (QW n f m g) (Nu n f m g i j) = some ((.ex 0),⟨(jsV 46 0 (λ_=>.und) [(0,(.sl 1 n (λk=>(iV (f k))))),(1,(.sl 1 m (λk=>(iV (g k))))),(4,(iV 0))]),[]⟩):=by
 exact Aa (ks:=[kn h0,kn h0,kn h0,kn h0,kn h0,kF]) (by kernel_rfl)
theorem Ak8 (h0:ilt (ofNat i) (ofNat n) = true) (h1:ilt (ofNat i) (ofNat m) = false):Ah (FE L) (QW n f m g) (Nu n f m g i j) = some ((.ex 0),⟨(jsV 46 0 (λ_=>.und) [(0,(.sl 1 n (λk=>(iV (f k))))),(1,(.sl 1 m (λk=>(iV (g k))))),(4,(iV 0))]),[]⟩):=by
 exact Aa (ks:=[kn h0,kn h0,kn h0,kn h0,kn h0,kn h1]) (by kernel_rfl)
theorem Ak9 (h0:ilt (ofNat i) (ofNat n) = true) (h1:ilt (ofNat i) (ofNat m) = true) (h12:ile 0 (ofNat i) = true) (h2:ilt (f i) (g i) = true):Ah (FE L) (QW n f m g) (Nu n f m g i j) = some (.rt,⟨(jsV 46 0 (λ_=>.und) [(0,(.sl 1 n (λk=>(iV (f k))))),(1,(.sl 1 m (λk=>(iV (g k))))),(4,(iV (-1)))]),[]⟩):=by
 exact Aa (ks:=[kn h0,kn h0,kn h0,kn h0,kn h0,kn h1,kA (kn h12) (kn h0),kA (kn h12) (kn h1),kn h2]) (by kernel_rfl)
theorem AkA (h0:ilt (ofNat i) (ofNat n) = true) (h1:ilt (ofNat i) (ofNat m) = true) (h13:ile 0 (ofNat i) = true) (h2:ilt (f i) (g i) = false) (h3:ilt (g i) (f i) = true):Ah (FE L) (QW n f m g) (Nu n f m g i j) = some (.rt,⟨(jsV 46 0 (λ_=>.und) [(0,(.sl 1 n (λk=>(iV (f k))))),(1,(.sl 1 m (λk=>(iV (g k))))),(4,(iV 1))]),[]⟩):=by
 exact Aa (ks:=[kn h0,kn h0,kn h0,kn h0,kn h0,kn h1,kA (kn h13) (kn h0),kA (kn h13) (kn h1),kn h2,kA (kn h13) (kn h0),kA (kn h13) (kn h1),kn h3]) (by kernel_rfl)
theorem Ak7 (h0:ilt (ofNat i) (ofNat n) = true) (h1:ilt (ofNat i) (ofNat m) = true) (h13:ile 0 (ofNat i) = true) (h2:ilt (f i) (g i) = false) (h3:ilt (g i) (f i) = false):Ah (FE L) (QW n f m g) (Nu n f m g i j) = some (.nm,⟨(jsV 46 0 (λ_=>.und) [(0,(.sl 1 n (λk=>(iV (f k))))),(1,(.sl 1 m (λk=>(iV (g k))))),(4,(iV 0)),(5,(iV (wr .i64 (Af (ofNat i) 1))))]),[]⟩):=by
 exact Aa (ks:=[kn h0,kn h0,kn h0,kn h0,kn h0,kn h1,kA (kn h13) (kn h0),kA (kn h13) (kn h1),kn h2,kA (kn h13) (kn h0),kA (kn h13) (kn h1),kn h3]) (by kernel_rfl)
end
def Aag (n:Nat) (f:Nat->Int) (m:Nat) (g:Nat->Int) :Nat->V:=lkV A9 []
section
variable (L:LT) (p0:PT) (n:Nat) (f:Nat->Int) (m:Nat) (g:Nat->Int) (i:Nat)
include L p0 n f m g i
theorem AiA  (hp0:p0 (FE (onP 0 p0 (AaC n f m g i) L)) (Nu n f m g 0 (Aag n f m g )) = true):(Ar (Ai tab ⟨Am tb0,(onP 0 p0 (AaC n f m g i) L),Gl⟩ Try.f73 [Cf n f,Cf m g] [])).sem = some ((iV (-1)),[]):=by
 exact Aa (ks:=[kn hp0]) (by kernel_rfl)
theorem AiB  (hp0:p0 (FE (onP 0 p0 (AaD n f m g i) L)) (Nu n f m g 0 (Aag n f m g )) = true):(Ar (Ai tab ⟨Am tb0,(onP 0 p0 (AaD n f m g i) L),Gl⟩ Try.f73 [Cf n f,Cf m g] [])).sem = some ((iV 1),[]):=by
 exact Aa (ks:=[kn hp0]) (by kernel_rfl)
theorem AiE (h0:ilt (ofNat n) (ofNat m) = true) (hp0:p0 (FE (onP 0 p0 (O5 n f m g i) L)) (Nu n f m g 0 (Aag n f m g )) = true):(Ar (Ai tab ⟨Am tb0,(onP 0 p0 (O5 n f m g i) L),Gl⟩ Try.f73 [Cf n f,Cf m g] [])).sem = some ((iV (-1)),[]):=by
 exact Aa (ks:=[kn hp0,kn h0]) (by kernel_rfl)
theorem AiD (h0:ilt (ofNat n) (ofNat m) = false) (h1:ilt (ofNat m) (ofNat n) = true) (hp0:p0 (FE (onP 0 p0 (O5 n f m g i) L)) (Nu n f m g 0 (Aag n f m g )) = true):(Ar (Ai tab ⟨Am tb0,(onP 0 p0 (O5 n f m g i) L),Gl⟩ Try.f73 [Cf n f,Cf m g] [])).sem = some ((iV 1),[]):=by
 exact Aa (ks:=[kn hp0,kn h0,kn h1]) (by kernel_rfl)
theorem AiC (h0:ilt (ofNat n) (ofNat m) = false) (h1:ilt (ofNat m) (ofNat n) = false) (hp0:p0 (FE (onP 0 p0 (O5 n f m g i) L)) (Nu n f m g 0 (Aag n f m g )) = true):(Ar (Ai tab ⟨Am tb0,(onP 0 p0 (O5 n f m g i) L),Gl⟩ Try.f73 [Cf n f,Cf m g] [])).sem = some ((iV 0),[]):=by
 exact Aa (ks:=[kn hp0,kn h0,kn h1]) (by kernel_rfl)
end
theorem AdV (L:LT) (n:Nat) (f:Nat->Int) (m:Nat) (g:Nat->Int) (hn:n <= 4611686018427387904) (hm:m <= 4611686018427387904):∀ (d i:Nat) (j:Nat->V) (q:Nat),min n m = i+d->d < q ->
  (A4 (FE L) (QW n f m g) q (Nu n f m g i j)).sem = some (match R4 f g d i with | .lt=>AaC n f m g 0 | .gt=>AaD n f m g 0 | .eq=>O5 n f m g 0)
 | 0,i,j,q+1,h,_=>by
  by_cases h3:i < n
  ·exact Ab (Ak8 L n f m g i j (ofNat_lt h3) (A6 (by omega)))
  ·exact Ab (AkB L n f m g i j (A6 (by omega)))
 | d+1,i,j,q+1,h,h2=>by
  have h3:i < n:=by omega
  have h4:i < m:=by omega
  unfold R4
  by_cases c1:f i < g i
  ·rw [if_pos c1]
   exact Ab (Ak9 L n f m g i j (ofNat_lt h3) (ofNat_lt h4) (Ol i) (by simp [ilt,c1]))
  ·have c1':ilt (f i) (g i) = false:=by simp only [ilt,decide_eq_false c1]
   rw [if_neg c1]
   by_cases c2:g i < f i
   ·rw [if_pos c2]
    exact Ab (AkA L n f m g i j (ofNat_lt h3) (ofNat_lt h4) (Ol i) c1' (by simp [ilt,c2]))
   ·have c2':ilt (g i) (f i) = false:=by simp only [ilt,decide_eq_false c2]
    rw [if_neg c2,Ab (Ak7 L n f m g i j (ofNat_lt h3) (ofNat_lt h4) (Ol i) c1' c2'),Aq,Ao h3 hn]
    exact AdV L n f m g hn hm d (i+1) (λ_=>.und) q (by omega) (by omega)
theorem p99:A7 Try.prog Gl 73 AeE:=by
 refine Av AL AN Try.func73 (by kernel_rfl) (by kernel_rfl) λvs v h' h=>?_
 obtain ⟨n,f,m,g,ha,h1⟩:=Qg h
 obtain ⟨hn,h2⟩:=Ad h1
 obtain ⟨hm,h3⟩:=Ad h2
 have:=Ac h3
 simp only [Prod.mk.injEq] at this
 obtain ⟨rfl,rfl⟩:=this
 have hn:n <= 4611686018427387904:=of_decide_eq_true hn
 have hm:m <= 4611686018427387904:=of_decide_eq_true hm
 have hx:=AO C9 [(0,QW n f m g)]
 have hL:=AE [(0,QW n f m g)]
 have hr:=λL j=>AdV L n f m g hn hm (min n m) 0 j (n+1) (by omega) (by omega)
 refine ⟨_,AI Gl tb0 [(0,QW n f m g)],_,ha,rfl,hx.1,hx.2,?_,A8.refl _⟩
 unfold R5
 cases hc:R4 f g (min n m) 0 with
 | lt =>
  rw [hc] at hr
  exact A2 (As hL hL) _ (AiA _ _ n f m g 0 (Aj (hr _ _)))
 | gt =>
  rw [hc] at hr
  exact A2 (As hL hL) _ (AiB _ _ n f m g 0 (Aj (hr _ _)))
 | eq =>
  rw [hc] at hr
  by_cases c1:n < m
  ·simp only [if_pos c1]
   exact A2 (As hL hL) _ (AiE _ _ n f m g 0 (by rw [Cs,decide_eq_true c1]) (Aj (hr _ _)))
  ·by_cases c2:m < n
   ·simp only [if_neg c1,if_pos c2]
    exact A2 (As hL hL) _ (AiD _ _ n f m g 0 (by rw [Cs,decide_eq_false c1]) (by rw [Cs,decide_eq_true c2]) (Aj (hr _ _)))
   ·simp only [if_neg c1,if_neg c2]
    exact A2 (As hL hL) _ (AiC _ _ n f m g 0 (by rw [Cs,decide_eq_false c1]) (by rw [Cs,decide_eq_false c2]) (Aj (hr _ _)))
noncomputable def tb55:List (Nat × (List V->T (V × List Blk))):=(73,AeE) :: []
theorem tb55_ok:AA Try.prog Gl tb55:=.cons p99 .nil
theorem Ame (L:LT) (n:Nat) (f:Nat->Int) (m:Nat) (g:Nat->Int) (h12:Ag n = true) (h13:Ag m = true):(Ar (Ai tab ⟨Am tb55,L,Gl⟩ Try.f40 [Cf n f,Cf m g] [])).sem = some ((bV (ieq (R5 n f m g) 0)),[]):=by
 exact Aa (ks:=[kL n,kL m,kn h12,kn h13]) (by kernel_rfl)
def Abw:List V->T (V × List Blk):=AdH λn f m g=>.br (Ag n) (.br (Ag m) (out (bV (ieq (R5 n f m g) 0))) .fail) .fail
theorem p55:A7 Try.prog Gl 40 Abw:=by
 refine Av AL AN Try.func40 (by kernel_rfl) (by kernel_rfl) λvs v h' h=>?_
 obtain ⟨n,f,m,g,ha,h1⟩:=Qg h
 obtain ⟨hn,h2⟩:=Ad h1
 obtain ⟨hm,h3⟩:=Ad h2
 have:=Ac h3
 simp only [Prod.mk.injEq] at this
 obtain ⟨rfl,rfl⟩:=this
 have hx:=AO tb55_ok []
 exact ⟨_,AI Gl tb55 [],_,ha,rfl,hx.1,hx.2,Ame _ n f m g hn hm,A8.refl _⟩
theorem TD {n:Nat} {f g:Nat->Int} (h:∀ i,i < n->f i = g i):ieq (R5 n f n g) 0 = true:=by
 rw [(Ya n f n g).2 ⟨rfl,h⟩]
 rfl
end Go.Proofs.Ytjhnfomefcngfaa.Ed
namespace Go.Proofs.Ytjhnfomefcngfaa.Sh
open Go.Sy Ed
set_option maxHeartbeats 1000000
set_option maxRecDepth 4000
theorem Nc {α β:Type} (c:Cod α) (n:Nat) (f:Nat->α) (F:Nat->(Nat->α)->T β) (h1:∀ x,c.ok (c.enc x) = true) (h2:∀ x,c.ed (c.enc x) = x):(apG c (HT c n f) F).sem = (F n f).sem:=by
 have h0:Rn c.size (HT c n f) = some (n,λi=>c.enc (f i)):=by
  show (match Nat.beq c.size c.size with
   | true=>some (n,λi=>c.enc (f i))
   | false=>match n with
    | 0=>some (0,λi=>c.enc (f i))
    | _=>none) = _
  rw [show Nat.beq c.size c.size = true from Nat.beq_refl _]
 unfold apG
 rw [h0]
 show sel (A5 n λi=>c.ok (c.enc (f i))) (F n λi=>c.ed (c.enc (f i))).sem none = _
 rw [show (A5 n λi=>c.ok (c.enc (f i))) = true from A3.2 λi _=>h1 _]
 rw [show (λi=>c.ed (c.enc (f i))) = f from funext λi=>h2 _]
 rfl
theorem AdG {β:Type} (s:Sh7) (F:Sh7->T β):(apS (Q5 s) F).sem = (F s).sem:=by
 obtain ⟨a,n,g,m,x,t,k,p,r,q,C⟩:=s
 show (apG R3 (HT R3 n g) λne E=>apG R0 (HT R0 m x) λnx X=>apG R2 (HT R2 p r) λnr R=>apG R1 (HT R1 q C) λnc C=>F ⟨a,ne,E,nx,X,t,k,nr,R,nc,C⟩).sem = _
 rw [Nc R3 n g _ (λ_=>rfl) (λ_=>rfl),Nc R0 m x _ (λ_=>rfl) (λ_=>rfl),Nc R2 p r _ (λ_=>rfl) (λ_=>rfl),Nc R1 q C _ (λx=>?_) (λ_=>rfl)]
 show (match Rn 1 (.sl 1 x.1 λi=>iV (x.2 i)) with
  | some (n,g)=>A5 n λi=>okI (g i)
  | none=>false) = true
 exact A3.2 λ_ _=>rfl
theorem AlA {s:Sh7} (h:Rs s = true):AY 0 s.ne 40 = true ∧ AY 0 s.nx 40 = true ∧ AY 0 s.nr 8 = true ∧ AY 0 s.nc 24 = true ∧ (A5 s.nc λi=>AY 0 (s.C i).1 8) = true:=by simpa [Rs,Ak] using h
theorem AlS {n b:Nat} (h:AY 0 n b = true):n * b <= 140737488355328:=by
 have h:(0+n) * b <= 140737488355328:=of_decide_eq_true h
 rwa [Nat.zero_add] at h
theorem Iv {n b:Nat} (h:AY 0 n b = true) (hb:0 < b):Ag n = true:=by
 have h:=AlS h
 have h2:n * 1 <= n * b:=Nat.mul_le_mul_left n hb
 exact decide_eq_true (by omega)
theorem AhZ {s:Sh7} (h1:s.ne * 40 <= 140737488355328) (h2:s.nx * 40 <= 140737488355328) (h3:s.nr * 8 <= 140737488355328) (h4:s.nc * 24 <= 140737488355328) (h5:∀ i,i < s.nc->(s.C i).1 * 8 <= 140737488355328):Rs s = true:=by
 have ap:∀ {n b:Nat},n * b <= 140737488355328->AY 0 n b = true:=fun {n b} h=>decide_eq_true (by rwa [Nat.zero_add])
 unfold Rs
 rw [Bg (ap h1),Bg (ap h2),Bg (ap h3),Bg (ap h4)]
 exact A3.2 λi hi=>ap (h5 i hi)
end Go.Proofs.Ytjhnfomefcngfaa.Sh
