/-
  Layer 7: the copy of a shape (function 32). No conditions.
-/
import Derived.Test.YtkgdhhieomndeaaGreatDoorShS
import Derived.Test.YtkgdhhieomndeaaGreatDoorCyZ
import Derived.Test.YtkgdhhieomndeaaGreatDoorShBa
import Derived.Test.YtkgdhhieomndeaaGreatDoorShAb
namespace Go.Proofs.YtkgdhhieomndeaaGreatDoor.Sh
open Go.Sy Ed
open Int (ofNat)
set_option maxHeartbeats 1000000
set_option maxRecDepth 4000
def AnY (s:Sh7):V:=.agg [iV s.arch,.ref 0,.ref 1,iV s.tt,iV s.kk,.ref 2,.jref 3]
def AnZ (s:Sh7):List Blk:=[.row 92 6 s.ne (λi=>eV (s.E i)),.row 80 5 s.nx (λi=>evV (s.X i)),.row 3 1 s.nr (λi=>iV (s.R i)),
 .jag ⟨24,1,s.nc,λ_=>.und,0,3,1,λ_=>true,λi=>(s.C i).1,λi j=>iV ((s.C i).2 j)⟩]
def AcQ (s:Sh7):Bool:=Ao (Bn 0 s.ne 40) (Ao (Bn 0 s.nx 40) (Ao (Bn 0 s.nr 8) (Ao (Bn 0 s.nc 24) (A4 s.nc λi=>Bn 0 (s.C i).1 8))))
def copyT:List V->AE
 | [v]=>apS v λs=>.br (AcQ s) (.leaf (AnY s,AnZ s)) .fail
 | _=>.fail
theorem N8 {n i:Nat} {gx g:Nat->V} (h:i<n):Bu 0 n gx g i=g i:=by
 unfold Bu;split
 ·rw [Bo,show i=0 by omega]
  rfl
 ·rw [M7]
  have:Nat.blt i 0=false:=by cases hb:Nat.blt i 0 with
   | false=>rfl
   | true=>exact absurd (Nat.le_of_ble_eq_true hb) (by omega)
  rw [this];rfl
theorem AbG (b:Nat):As b (λ_=>V.und) .und=λ_=>.und:=by
 funext i;rw [Bo];cases Nat.beq i b <;> rfl
def LL (ln:Nat->Nat) (b:Nat):Nat->Nat:=λi=>if i<b then ln i else 0
noncomputable def CC (ln:Nat->Nat) (co:Nat->Nat->Int) (b:Nat):Nat->Nat->V:=λi=>if i<b then Bu 0 (ln i) Aa (λw=>iV (co i w)) else λ_=>.und
theorem Aql (ln:Nat->Nat):LL ln 0=λ_=>0:=by
 funext i;exact if_neg (by omega)
theorem Aqq (ln:Nat->Nat) (co:Nat->Nat->Int):CC ln co 0=λ_ _=>.und:=by
 funext i;exact if_neg (by omega)
theorem Ag1 (ln:Nat->Nat) (b:Nat):(λi=>sel (AW i b) (AV 0 (ln b)) (LL ln b i))=LL ln (b+1):=by
 funext i;by_cases h:i=b
 ·subst h
  rw [nbeq_self];show AV 0 (ln i)=if i<i+1 then ln i else 0
  rw [if_pos (by omega)];exact Nat.zero_add _
 ·rw [Go.Sy.nbeq_ne h]
  show (if i<b then ln i else 0)=if i<b+1 then ln i else 0
  by_cases h2:i<b
  ·rw [if_pos h2,if_pos (by omega)]
  ·rw [if_neg h2,if_neg (by omega)]
theorem Ag2 (ln:Nat->Nat) (co:Nat->Nat->Int) (b:Nat):(λi j=>Cm (λu w=>CC ln co b u w) b (Bu 0 (ln b) Aa (λi=>iV (co b i))) i j)=CC ln co (b+1):=by
 funext i j;by_cases h:i=b
 ·subst h
  rw [F9];unfold CC;rw [if_pos (by omega)]
 ·rw [Jh h]
  show CC ln co b i j=_;unfold CC;by_cases h2:i<b
  ·rw [if_pos h2,if_pos (by omega)]
  ·rw [if_neg h2,if_neg (by omega)]
theorem AiD (b:Bool):sel b true true=true:=by cases b <;> rfl
abbrev c7Z:Blk:=.cells [iV 0,.nilS,.nilS,iV 0,iV 0,.nilS,.nilS]
def Y8 (a:Int) (n:Nat) (g:Nat->E6) (m:Nat) (x:Nat->Ev5) (t k:Int) (p:Nat) (r:Nat->Int) (q:Nat) (ln:Nat->Nat) (co:Nat->Nat->Int) :St:=⟨jsV 50 0 (λ_=>A9) [(0,.agg (shL a n g m x t k p r q ln co)),(1,.ptr 0 0),(2,.ptr 1 0),(3,.ptr 2 0),(4,iV 0),(6,.agg (shL a n g m x t k p r q ln co)),(7,.ptr 2 1),(8,.ptr 2 2),(9,.ptr 2 5),(10,.ptr 2 6),(11,.ptr 2 1),(12,.und),(13,.ptr 0 1),(14,.sl 6 n (λi=>eV (g i))),(15,.ref 3),(16,.ptr 2 1),(17,.ptr 2 2),(18,.und),(19,.ptr 0 2),(20,.sl 5 m (λi=>evV (x i))),(21,.ref 4),(22,.ptr 2 2),(23,.ptr 2 5),(24,.und),(25,.ptr 0 5),(26,.sl 1 p (λi=>iV (r i))),(27,.ref 5),(28,.ptr 2 5)],[.cells (shL a n g m x t k p r q ln co),c7Z,.cells [iV a,.ref 3,.ref 4,iV t,iV k,.ref 5,.jref 6],.row 92 6 (AV 0 n) (Bu 0 n Aa (λi=>eV (g i))),.row 80 5 (AV 0 m) (Bu 0 m Aa (λi=>evV (x i))),.row 3 1 (AV 0 p) (Bu 0 p Aa (λi=>iV (r i))),.jag (Jag.mk 24 1 0 Aa 0 3 1 (λ_=>true) (λ_=>0) (λ_ _=>.und))]⟩
def WA (a:Int) (n:Nat) (g:Nat->E6) (m:Nat) (x:Nat->Ev5) (t k:Int) (p:Nat) (r:Nat->Int) (q:Nat) (ln:Nat->Nat) (co:Nat->Nat->Int):Lp:=⟨bmK 50 0 [1,2,3,4],7,bmK 50 0 [2,3],7,q+1⟩
def AeG (a:Int) (n:Nat) (g:Nat->E6) (m:Nat) (x:Nat->Ev5) (t k:Int) (p:Nat) (r:Nat->Int) (q:Nat) (ln:Nat->Nat) (co:Nat->Nat->Int) (b:Nat) (y1 y2 y3:Nat->V) (l1:Nat->Nat) (c1:Nat->Nat->V) (j:Nat->V):St:=⟨jsV 50 0 j [(1,.ptr 0 0),(2,.ptr 1 0),(3,.ptr 2 0),(4,nV b)],[.cells [iV a,.sl 6 n (λi=>eV (g i)),.sl 5 m (λi=>evV (x i)),iV t,iV k,.sl 1 p (λi=>iV (r i)),.sl 1 q (λu=>.sl 1 (ln u) (λi=>iV (co u i)))],c7Z,.cells [iV a,.ref 3,.ref 4,iV t,iV k,.ref 5,.jref 6],.row 92 6 (AV 0 n) y1,.row 80 5 (AV 0 m) y2,.row 3 1 (AV 0 p) y3,.jag (Jag.mk 24 1 b Aa 0 3 1 (λ_=>true) l1 c1)]⟩
def YI (a:Int) (n:Nat) (g:Nat->E6) (m:Nat) (x:Nat->Ev5) (t k:Int) (p:Nat) (r:Nat->Int) (q:Nat) (ln:Nat->Nat) (co:Nat->Nat->Int) (b:Nat) (y1 y2 y3:Nat->V) (l1:Nat->Nat) (c1:Nat->Nat->V):Ex×St:=(.ex 0,⟨jsV 50 0 Aa [(2,.ptr 1 0),(3,.ptr 2 0)],[.cells [iV a,.sl 6 n (λi=>eV (g i)),.sl 5 m (λi=>evV (x i)),iV t,iV k,.sl 1 p (λi=>iV (r i)),.sl 1 q (λu=>.sl 1 (ln u) (λi=>iV (co u i)))],c7Z,.cells [iV a,.ref 3,.ref 4,iV t,iV k,.ref 5,.jref 6],.row 92 6 (AV 0 n) y1,.row 80 5 (AV 0 m) y2,.row 3 1 (AV 0 p) y3,.jag (Jag.mk 24 1 b Aa 0 3 1 (λ_=>true) l1 c1)]⟩)
noncomputable def Tb (L:LT):St->T (Ex×St):=λst=>AD tab ⟨Am tb0,L,Gl⟩ (Au Tryz.f5 0) 0 st
section
variable (L:LT) (a:Int) (n:Nat) (g:Nat->E6) (m:Nat) (x:Nat->Ev5) (t k:Int) (p:Nat) (r:Nat->Int) (q:Nat) (ln:Nat->Nat) (co:Nat->Nat->Int) (b:Nat) (y1 y2 y3:Nat->V) (l1:Nat->Nat) (c1:Nat->Nat->V)  (j:Nat->V)
include L a n g m x t k p r q ln co b y1 y2 y3 l1 c1 j
theorem Amc (h0:ilt (ofNat b) (ofNat q)=false):Al (Tb L) (WA a n g m x t k p r q ln co) (AeG a n g m x t k p r q ln co b y1 y2 y3 l1 c1 j)=some ((.ex 0),⟨jsV 50 0 Aa [(2,.ptr 1 0),(3,.ptr 2 0)],[.cells (shL a n g m x t k p r q ln co),c7Z,.cells [iV a,.ref 3,.ref 4,iV t,iV k,.ref 5,.jref 6],.row 92 6 (AV 0 n) y1,.row 80 5 (AV 0 m) y2,.row 3 1 (AV 0 p) y3,.jag (Jag.mk 24 1 b Aa 0 3 1 (λ_=>true) l1 (λi i_1=>c1 i i_1))]⟩):=by
 exact Ac (ks:=[kn h0]) (by kernel_rfl)
theorem Amb (h0:ilt (ofNat b) (ofNat q)=true) (h19:ile 0 (ofNat b)=true) (h20:Bn 0 (ln b) 8=true) (h21:Bn b 1 24=true):Al (Tb L) (WA a n g m x t k p r q ln co) (AeG a n g m x t k p r q ln co b y1 y2 y3 l1 c1 j)=some (.nm,⟨jsV 50 0 Aa [(1,.ptr 0 0),(2,.ptr 1 0),(3,.ptr 2 0),(4,iV (wr .i64 (Ak (ofNat b) 1)))],[.cells (shL a n g m x t k p r q ln co),c7Z,.cells [iV a,.ref 3,.ref 4,iV t,iV k,.ref 5,.jref 6],.row 92 6 (AV 0 n) y1,.row 80 5 (AV 0 m) y2,.row 3 1 (AV 0 p) y3,.jag (Jag.mk 24 1 (AV b 1) (As b Aa .und) 0 3 1 (λi=>sel (AW i b) true true) (λi=>sel (AW i b) (AV 0 (ln b)) (l1 i)) (λi i_1=>Cm (λi_2 i_3=>c1 i_2 i_3) b (Bu 0 (ln b) Aa (λi=>iV (co b i))) i i_1))]⟩):=by
 exact Ac (ks:=[kn h0,kA (kn h19) (kn h0),kn h20,kT,kn h21]) (by kernel_rfl)
end
theorem AoM (L:LT) (p0:PT) (a:Int) (n:Nat) (g:Nat->E6) (m:Nat) (x:Nat->Ev5) (t k:Int) (p:Nat) (r:Nat->Int) (q:Nat) (ln:Nat->Nat) (co:Nat->Nat->Int) (y1 y2 y3:Nat->V) (l1:Nat->Nat) (c1:Nat->Nat->V) (h17:Bn 0 n 40=true) (h18:Bn 0 m 40=true) (h19:Bn 0 p 8=true) (hp0:p0 (Tb (onP 0 p0 (YI a n g m x t k p r q ln co q y1 y2 y3 l1 c1) L)) (Y8 a n g m x t k p r q ln co)=true):(Ay (Ai tab ⟨Am tb0,onP 0 p0 (YI a n g m x t k p r q ln co q y1 y2 y3 l1 c1) L,Gl⟩ Tryz.f5 [.agg (shL a n g m x t k p r q ln co)] [])).sem=some ((.agg [iV a,.ref 0,.ref 1,iV t,iV k,.ref 2,.jref 3]),[.row 92 6 (AV 0 n) y1,.row 80 5 (AV 0 m) y2,.row 3 1 (AV 0 p) y3,.jag (Jag.mk 24 1 q Aa 0 3 1 (λ_=>true) l1 (λi i_1=>c1 i i_1))]):=by
 exact Ac (ks:=[kn h17,kn h18,kn h19,kn hp0]) (by kernel_rfl)
theorem Adb (a:Int) (n:Nat) (g:Nat->E6) (m:Nat) (x:Nat->Ev5) (t k:Int) (p:Nat) (r:Nat->Int) (q:Nat) (ln:Nat->Nat) (co:Nat->Nat->Int):Y8 a n g m x t k p r q ln co=AeG a n g m x t k p r q ln co 0 (Bu 0 n Aa (λi=>eV (g i))) (Bu 0 m Aa (λi=>evV (x i))) (Bu 0 p Aa (λi=>iV (r i))) (λ_=>0) (λ_ _=>.und) (λi=>nth (Y8 a n g m x t k p r q ln co).t i):=by kernel_rfl
theorem AgU (L:LT) (a:Int) (n:Nat) (g:Nat->E6) (m:Nat) (x:Nat->Ev5) (t k:Int) (p:Nat) (r:Nat->Int) (q:Nat) (ln:Nat->Nat) (co:Nat->Nat->Int) (y1 y2 y3:Nat->V) (h1:Bn 0 q 24=true) (h2:∀ b,b<q->Bn 0 (ln b) 8=true):∀ (e b:Nat) (j:Nat->V) (u:Nat),q=b+e->e<u ->
  (A3 (Tb L) (WA a n g m x t k p r q ln co) u (AeG a n g m x t k p r q ln co b y1 y2 y3 (LL ln b) (CC ln co b) j)).sem=some (YI a n g m x t k p r q ln co q y1 y2 y3 (LL ln q) (CC ln co q))
 | 0,b,j,u+1,h,_=>by
  have:q=b:=by omega
  subst this;exact Ae (Amc L a n g m x t k p r q ln co q y1 y2 y3 (LL ln q) (CC ln co q) j (Aw (Nat.le_refl _)))
 | e+1,b,j,u+1,h,h3=>by
  have hl:b<q:=by omega
  have h1':(0+q) * 24 <= 140737488355328:=of_decide_eq_true h1;have hb:Bn b 1 24=true:=decide_eq_true (by omega);have next:=AgU L a n g m x t k p r q ln co y1 y2 y3 h1 h2 e (b+1) Aa u (by omega) (by omega)
  have hr:=Amb L a n g m x t k p r q ln co b y1 y2 y3 (LL ln b) (CC ln co b) j (ofNat_lt hl) (AX b) (h2 b hl) hb;rw [Ae hr,A6,Ap hl (by omega),Ag1,Ag2,AbG];rw [show (λi=>sel (AW i b) true true)=λ_=>true from funext λi=>AiD _];exact next
theorem p32:Ax Tryz.prog Gl 5 copyT:=by
 refine Aj A7 mixed Tryz.func5 (by kernel_rfl) (by kernel_rfl) λvs v h' h=>?_;unfold copyT at h;split at h
 ·rename_i v1
  obtain ⟨s,a1,h⟩:=apS_some h;obtain ⟨hf,h⟩:=Ad h;have:=Ab h;simp only [Prod.mk.injEq] at this;obtain ⟨rfl,rfl⟩:=this;obtain ⟨a,n,g,m,x,t,k,p,r,q,C⟩:=s;have hA:Bj [v1] [.agg [iV a,.sl 6 n (λi=>eV (g i)),.sl 5 m (λi=>evV (x i)),iV t,iV k,.sl 1 p (λi=>iV (r i)),.sl 1 q (λu=>.sl 1 (C u).1 (λi=>iV ((C u).2 i)))]]:=λS w cs hv=>by
   obtain ⟨c,l,rfl,q1,q2⟩:=hv;exact ⟨c,_,rfl,a1 S w c q1,q2⟩
  have hf:Bn 0 n 40=true∧Bn 0 m 40=true∧Bn 0 p 8=true∧Bn 0 q 24=true∧(A4 q λi=>Bn 0 (C i).1 8)=true:=by simpa [AcQ,Ao] using hf
  obtain ⟨f1,f2,f3,f4,f5⟩:=hf;have f5:=A0.1 f5;have hx:=AH CS [(0,WA a n g m x t k p r q (λu=>(C u).1) (λu=>(C u).2))] (G:=Gl);have hL:=AQ [(0,WA a n g m x t k p r q (λu=>(C u).1) (λu=>(C u).2))];have hQ:=AI (k:=0) (r:=YI a n g m x t k p r q (λu=>(C u).1) (λu=>(C u).2) q (Bu 0 n Aa (λi=>eV (g i))) (Bu 0 m Aa (λi=>evV (x i))) (Bu 0 p Aa (λi=>iV (r i))) (LL (λu=>(C u).1) q) (CC (λu=>(C u).1) (λu=>(C u).2) q)) hL hL;refine ⟨_,AA Gl tb0 [(0,WA a n g m x t k p r q (λu=>(C u).1) (λu=>(C u).2))],_,hA,rfl,hx.1,hx.2,AP hQ _ (AoM _ _ a n g m x t k p r q (λu=>(C u).1) (λu=>(C u).2) _ _ _ _ _ f1 f2 f3 (Az ?_)),?_⟩
  ·show (A3 _ (WA a n g m x t k p r q (λu=>(C u).1) (λu=>(C u).2)) (q+1) (Y8 a n g m x t k p r q (λu=>(C u).1) (λu=>(C u).2))).sem=_
   rw [Adb,<- Aql (λu=>(C u).1),<- Aqq (λu=>(C u).1) (λu=>(C u).2)];exact AgU _ a n g m x t k p r q (λu=>(C u).1) (λu=>(C u).2) _ _ _ f4 f5 q 0 _ (q+1) (by omega) (by omega)
  ·rw [show AV 0 n=n from Nat.zero_add n,show AV 0 m=m from Nat.zero_add m,show AV 0 p=p from Nat.zero_add p]
   refine .cons (λi hi=>(N8 (g:=λi=>eV (g i)) hi).symm) <| .cons (λi hi=>(N8 (g:=λi=>evV (x i)) hi).symm) <| .cons (λi hi=>(N8 (g:=λi=>iV (r i)) hi).symm) <| .consB ?_ (.refl [])
   refine SayB.jag (j:=Jag.mk 24 1 q Aa 0 3 1 (λ_=>true) (LL (λu=>(C u).1) q) (λi w=>CC (λu=>(C u).1) (λu=>(C u).2) q i w)) (λ_ _=>.inr rfl) (λ_ _=>rfl) (λi hi=>?_) (λi hi w hw=>?_)
   ·exact (if_pos hi).symm
   ·have hi:i<q:=hi
    have hw:w<LL (λu=>(C u).1) q i:=hw;unfold LL at hw;rw [if_pos hi] at hw;show iV ((C i).2 w)=CC (λu=>(C u).1) (λu=>(C u).2) q i w;unfold CC;rw [if_pos hi,N8 hw]
 ·cases h
end Go.Proofs.YtkgdhhieomndeaaGreatDoor.Sh
namespace Go.Proofs.YtkgdhhieomndeaaGreatDoor.Ed
open Go.Sy Go
noncomputable def tb55:AK:=[]
theorem tb55_ok:Aq Tryz.prog Gl tb55:=.nil
end Go.Proofs.YtkgdhhieomndeaaGreatDoor.Ed
namespace Go.Proofs.YtkgdhhieomndeaaGreatDoor.Sh
open Go.Sy Ed
set_option maxHeartbeats 1000000
set_option maxRecDepth 4000
theorem AnH {s:Sh7} (h:AcQ s=true):Bn 0 s.ne 40=true∧Bn 0 s.nx 40=true∧Bn 0 s.nr 8=true∧Bn 0 s.nc 24=true∧(A4 s.nc λi=>Bn 0 (s.C i).1 8)=true:=by simpa [AcQ,Ao] using h
theorem Aqf {n b:Nat} (h:Bn 0 n b=true):n * b <= 140737488355328:=by
 have h:(0+n) * b <= 140737488355328:=of_decide_eq_true h;rwa [Nat.zero_add] at h
theorem IY {n b:Nat} (h:Bn 0 n b=true) (hb:0<b):Af n=true:=by
 have h:=Aqf h;have h2:n * 1 <= n * b:=Nat.mul_le_mul_left n hb;exact decide_eq_true (by omega)
end Go.Proofs.YtkgdhhieomndeaaGreatDoor.Sh
namespace Go.Proofs.YtkgdhhieomndeaaGreatDoor.Sh
open Go.Sy Ed
open Int (ofNat)
set_option maxHeartbeats 1000000
set_option maxRecDepth 4000
def AjO:V->Bool
 | .agg [.val (.int .i64 _),.val (.int .i64 _),.val (.int .i64 c),.val (.int .i64 d),.val (.int .i64 _),.str _,.str m,.val (.int .i64 f)]=>Ao (ieq c 0) (Ao (ieq d 0) (Ao (seq m []) (ieq f 0)))
 | _=>false
def AnM:V->In4
 | .agg [.val (.int .i64 a),.val (.int .i64 b),.val (.int .i64 _),.val (.int .i64 _),.val (.int .i64 e),.str l,.str _,.val (.int .i64 _)]=>⟨a,b,e,l⟩
 | _=>⟨0,0,0,[]⟩
theorem ZC {v:V} (h:AjO v=true):v=inV (AnM v):=by
 unfold AjO at h;split at h
 ·obtain ⟨h1,h⟩:=AO h
  obtain ⟨h2,h⟩:=AO h;obtain ⟨h3,h4⟩:=AO h;have h1:=BX h1;have h2:=BX h2;have h3:=eq_of_beq h3;have h4:=BX h4;subst h1 h2 h3 h4;rfl
 ·cases h
def okK (v:V):Bool:=match WN 8 v with
 | some (n,g)=>A4 n λi=>AjO (g i)
 | none=>false
def edK (v:V):Nat×(Nat->In4):=match WN 8 v with
 | some (n,g)=>(n,λi=>AnM (g i))
 | none=>(0,λ_=>⟨0,0,0,[]⟩)
def Ak6:Cod (Nat×(Nat->In4)):=⟨1,λp=>.sl 8 p.1 λi=>inV (p.2 i),okK,edK,λv h S w c hv=>by
 unfold okK at h;unfold edK;split at h
 ·rename_i n g hg
  have h:=A0.1 h;exact OW hg (λi hi S w cc hc=>by rw [<- ZC (h i hi)]; exact hc) hv
 ·cases h⟩
def ZW (a b:In4):Bool:=Ao (ieq a.op b.op) (Ao (ieq a.d b.d) (Ao (ieq a.imm b.imm) (seq a.loc b.loc)))
def R2 (n:Nat) (ln:Nat->Nat) (c:Nat->Nat->In4) (m:Nat) (ln':Nat->Nat) (c':Nat->Nat->In4):Bool:=Ao (ieq (ofNat n) (ofNat m)) (A4 n λk=>Ao (ieq (ofNat (ln k)) (ofNat (ln' k))) (A4 (ln k) λj=>ZW (c k j) (c' k j)))
def R9:List V->AE
 | [v,u]=>apG Ak6 v λn C=>apG Ak6 u λm D=>.br (Af n) (.br (A4 n λi=>nlt (C i).1 40) (.br (R2 n (λi=>(C i).1) (λi=>(C i).2) m (λi=>(D i).1) (λi=>(D i).2)) (.leaf (bV true,[])) .fail) .fail) .fail
 | _=>.fail
def ent47 (n:Nat) (ln:Nat->Nat) (c:Nat->Nat->In4) (m:Nat) (ln':Nat->Nat) (c':Nat->Nat->In4) :St:=⟨jsV 53 0 (λ_=>A9) [(0,.sl 1 n (λu=>.sl 8 (ln u) (λi=>.agg [iV (c u i).op,iV (c u i).d,iV 0,iV 0,iV (c u i).imm,.str (c u i).loc,.str [],iV 0]))),(1,.sl 1 m (λu=>.sl 8 (ln' u) (λi=>.agg [iV (c' u i).op,iV (c' u i).d,iV 0,iV 0,iV (c' u i).imm,.str (c' u i).loc,.str [],iV 0]))),(4,bV false),(5,iV 0),(7,.sl 1 n (λu=>.sl 8 (ln u) (λi=>.agg [iV (c u i).op,iV (c u i).d,iV 0,iV 0,iV (c u i).imm,.str (c u i).loc,.str [],iV 0]))),(8,nV n),(9,.sl 1 m (λu=>.sl 8 (ln' u) (λi=>.agg [iV (c' u i).op,iV (c' u i).d,iV 0,iV 0,iV (c' u i).imm,.str (c' u i).loc,.str [],iV 0]))),(10,nV m),(11,bV (A5 (ieq (ofNat n) (ofNat m))))],[]⟩
def lp47 (n:Nat) (ln:Nat->Nat) (c:Nat->Nat->In4) (m:Nat) (ln':Nat->Nat) (c':Nat->Nat->In4):Lp:=⟨bmK 53 0 [0,1,5],0,bmK 53 0 [0,1],0,n+1⟩
def st47 (n:Nat) (ln:Nat->Nat) (c:Nat->Nat->In4) (m:Nat) (ln':Nat->Nat) (c':Nat->Nat->In4) (b:Nat) (j:Nat->V):St:=⟨jsV 53 0 j [(0,.sl 1 n (λu=>.sl 8 (ln u) (λi=>inV (c u i)))),(1,.sl 1 m (λu=>.sl 8 (ln' u) (λi=>inV (c' u i)))),(5,nV b)],[]⟩
def en47e (n:Nat) (ln:Nat->Nat) (c:Nat->Nat->In4) (m:Nat) (ln':Nat->Nat) (c':Nat->Nat->In4) (b:Nat):Ex×St:=(.ex 0,⟨jsV 53 0 Aa [(0,.sl 1 n (λu=>.sl 8 (ln u) (λi=>inV (c u i)))),(1,.sl 1 m (λu=>.sl 8 (ln' u) (λi=>inV (c' u i))))],[]⟩)
noncomputable def P0 (L:LT):St->T (Ex×St):=λst=>AD tab ⟨Am tb0,L,Gl⟩ (Au Tryz.f27 0) 0 st
theorem AlV (L:LT) (n:Nat) (ln:Nat->Nat) (c:Nat->Nat->In4) (m:Nat) (ln':Nat->Nat) (c':Nat->Nat->In4) (b:Nat)  (j:Nat->V) (h0:ilt (ofNat b) (ofNat n)=false):Al (P0 L) (lp47 n ln c m ln' c') (st47 n ln c m ln' c' b j)=some ((.ex 0),⟨jsV 53 0 Aa [(0,.sl 1 n (λu=>.sl 8 (ln u) (λi=>.agg [iV (c u i).op,iV (c u i).d,iV 0,iV 0,iV (c u i).imm,.str (c u i).loc,.str [],iV 0]))),(1,.sl 1 m (λu=>.sl 8 (ln' u) (λi=>.agg [iV (c' u i).op,iV (c' u i).d,iV 0,iV 0,iV (c' u i).imm,.str (c' u i).loc,.str [],iV 0])))],[]⟩):=by
 exact Ac (ks:=[kn h0]) (by kernel_rfl)
def JW (n:Nat) (ln:Nat->Nat) (c:Nat->Nat->In4) (m:Nat) (ln':Nat->Nat) (c':Nat->Nat->In4):Lp:=⟨bmK 53 0 [0,1,5,6],0,bmK 53 0 [0,1,5],0,40⟩
def Ru (n:Nat) (ln:Nat->Nat) (c:Nat->Nat->In4) (m:Nat) (ln':Nat->Nat) (c':Nat->Nat->In4) (b d:Nat) (j:Nat->V):St:=⟨jsV 53 0 j [(0,.sl 1 n (λu=>.sl 8 (ln u) (λi=>inV (c u i)))),(1,.sl 1 m (λu=>.sl 8 (ln' u) (λi=>inV (c' u i)))),(5,nV b),(6,nV d)],[]⟩
def NH (n:Nat) (ln:Nat->Nat) (c:Nat->Nat->In4) (m:Nat) (ln':Nat->Nat) (c':Nat->Nat->In4) (b d:Nat):Ex×St:=(.ex 2,⟨jsV 53 0 Aa [(0,.sl 1 n (λu=>.sl 8 (ln u) (λi=>inV (c u i)))),(1,.sl 1 m (λu=>.sl 8 (ln' u) (λi=>inV (c' u i)))),(5,nV b)],[]⟩)
noncomputable def IR (L:LT):St->T (Ex×St):=λst=>AD tab ⟨Am tb0,L,Gl⟩ (Au Tryz.f27 2) 2 st
section
variable (L:LT) (n:Nat) (ln:Nat->Nat) (c:Nat->Nat->In4) (m:Nat) (ln':Nat->Nat) (c':Nat->Nat->In4) (b d:Nat)  (j:Nat->V)
include L n ln c m ln' c' b d j
theorem AlG (h24:Ao (ile 0 (ofNat b)) (ilt (ofNat b) (ofNat n))=true) (h0:ilt (ofNat d) (ofNat (ln b))=false):Al (IR L) (JW n ln c m ln' c') (Ru n ln c m ln' c' b d j)=some ((.ex 2),⟨jsV 53 0 Aa [(0,.sl 1 n (λu=>.sl 8 (ln u) (λi=>.agg [iV (c u i).op,iV (c u i).d,iV 0,iV 0,iV (c u i).imm,.str (c u i).loc,.str [],iV 0]))),(1,.sl 1 m (λu=>.sl 8 (ln' u) (λi=>.agg [iV (c' u i).op,iV (c' u i).d,iV 0,iV 0,iV (c' u i).imm,.str (c' u i).loc,.str [],iV 0]))),(5,nV b)],[]⟩):=by
 exact Ac (ks:=[kn h24,kn h0]) (by kernel_rfl)
theorem AlF (h24:Ao (ile 0 (ofNat b)) (ilt (ofNat b) (ofNat n))=true) (h0:ilt (ofNat d) (ofNat (ln b))=true) (h25:ile 0 (ofNat d)=true) (h26:Ao (ile 0 (ofNat b)) (ilt (ofNat b) (ofNat m))=true) (h27:Ao (ile 0 (ofNat d)) (ilt (ofNat d) (ofNat (ln' b)))=true) (h30:Ao (ieq (c b d).op (c' b d).op) (Ao (ieq (c b d).d (c' b d).d) (Ao (ieq 0 0) (Ao (ieq 0 0) (Ao (ieq (c b d).imm (c' b d).imm) (Ao (seq (c b d).loc (c' b d).loc) (Ao (seq [] []) (Ao (ieq 0 0) true)))))))=true):Al (IR L) (JW n ln c m ln' c') (Ru n ln c m ln' c' b d j)=some (.nm,⟨jsV 53 0 Aa [(0,.sl 1 n (λu=>.sl 8 (ln u) (λi=>.agg [iV (c u i).op,iV (c u i).d,iV 0,iV 0,iV (c u i).imm,.str (c u i).loc,.str [],iV 0]))),(1,.sl 1 m (λu=>.sl 8 (ln' u) (λi=>.agg [iV (c' u i).op,iV (c' u i).d,iV 0,iV 0,iV (c' u i).imm,.str (c' u i).loc,.str [],iV 0]))),(5,nV b),(6,iV (wr .i64 (Ak (ofNat d) 1)))],[]⟩):=by
 exact Ac (ks:=[kn h24,kn h0,kn h24,kA (kn h25) (kn h0),kn h26,kn h27,kN (kn h30)]) (by kernel_rfl)
end
def NC (n:Nat) (ln:Nat->Nat) (c:Nat->Nat->In4) (m:Nat) (ln':Nat->Nat) (c':Nat->Nat->In4) (b:Nat) (j:Nat->V):St:=⟨jsV 53 0 j [(0,.sl 1 n (λu=>.sl 8 (ln u) (λi=>.agg [iV (c u i).op,iV (c u i).d,iV 0,iV 0,iV (c u i).imm,.str (c u i).loc,.str [],iV 0]))),(1,.sl 1 m (λu=>.sl 8 (ln' u) (λi=>.agg [iV (c' u i).op,iV (c' u i).d,iV 0,iV 0,iV (c' u i).imm,.str (c' u i).loc,.str [],iV 0]))),(5,nV b),(6,iV 0),(12,nV b),(13,.sl 1 n (λu=>.sl 8 (ln u) (λi=>.agg [iV (c u i).op,iV (c u i).d,iV 0,iV 0,iV (c u i).imm,.str (c u i).loc,.str [],iV 0]))),(14,nV n),(15,bV (ilt (ofNat b) (ofNat n))),(18,.sl 1 n (λu=>.sl 8 (ln u) (λi=>.agg [iV (c u i).op,iV (c u i).d,iV 0,iV 0,iV (c u i).imm,.str (c u i).loc,.str [],iV 0]))),(19,nV b),(20,.pp (.sl 8 (ln b) (λi=>.agg [iV (c b i).op,iV (c b i).d,iV 0,iV 0,iV (c b i).imm,.str (c b i).loc,.str [],iV 0]))),(21,.sl 8 (ln b) (λi=>.agg [iV (c b i).op,iV (c b i).d,iV 0,iV 0,iV (c b i).imm,.str (c b i).loc,.str [],iV 0])),(22,iV (ofNat (ln b))),(23,.sl 1 m (λu=>.sl 8 (ln' u) (λi=>.agg [iV (c' u i).op,iV (c' u i).d,iV 0,iV 0,iV (c' u i).imm,.str (c' u i).loc,.str [],iV 0]))),(24,nV b),(25,.pp (.sl 8 (ln' b) (λi=>.agg [iV (c' b i).op,iV (c' b i).d,iV 0,iV 0,iV (c' b i).imm,.str (c' b i).loc,.str [],iV 0]))),(26,.sl 8 (ln' b) (λi=>.agg [iV (c' b i).op,iV (c' b i).d,iV 0,iV 0,iV (c' b i).imm,.str (c' b i).loc,.str [],iV 0])),(27,iV (ofNat (ln' b))),(28,bV (A5 (ieq (ofNat (ln b)) (ofNat (ln' b)))))],[]⟩
theorem AlU (L:LT) (p2:PT) (n:Nat) (ln:Nat->Nat) (c:Nat->Nat->In4) (m:Nat) (ln':Nat->Nat) (c':Nat->Nat->In4) (b:Nat) (j:Nat->V) (h0:ilt (ofNat b) (ofNat n)=true) (h24:ile 0 (ofNat b)=true) (h25:Ao (ile 0 (ofNat b)) (ilt (ofNat b) (ofNat m))=true) (h1:ieq (ofNat (ln b)) (ofNat (ln' b))=true) (hp2:p2 (IR (onP 2 p2 (NH n ln c m ln' c' b 0) L)) (NC n ln c m ln' c' b j)=true):Al (P0 (onP 2 p2 (NH n ln c m ln' c' b 0) L)) (lp47 n ln c m ln' c') (st47 n ln c m ln' c' b j)=some (.nm,⟨jsV 53 0 Aa [(0,.sl 1 n (λu=>.sl 8 (ln u) (λi=>.agg [iV (c u i).op,iV (c u i).d,iV 0,iV 0,iV (c u i).imm,.str (c u i).loc,.str [],iV 0]))),(1,.sl 1 m (λu=>.sl 8 (ln' u) (λi=>.agg [iV (c' u i).op,iV (c' u i).d,iV 0,iV 0,iV (c' u i).imm,.str (c' u i).loc,.str [],iV 0]))),(5,iV (wr .i64 (Ak (ofNat b) 1)))],[]⟩):=by
 exact Ac (ks:=[kn h0,kA (kn h24) (kn h0),kn h25,kN (kn h1),kn hp2]) (by kernel_rfl)
theorem AoA (L:LT) (p0:PT) (n:Nat) (ln:Nat->Nat) (c:Nat->Nat->In4) (m:Nat) (ln':Nat->Nat) (c':Nat->Nat->In4) (h0:ieq (ofNat n) (ofNat m)=true) (hp0:p0 (P0 (onP 0 p0 (en47e n ln c m ln' c' 0) L)) (ent47 n ln c m ln' c')=true):(Ay (Ai tab ⟨Am tb0,onP 0 p0 (en47e n ln c m ln' c' 0) L,Gl⟩ Tryz.f27 [.sl 1 n (λu=>.sl 8 (ln u) (λi=>inV (c u i))),.sl 1 m (λu=>.sl 8 (ln' u) (λi=>inV (c' u i)))] [])).sem=some ((bV true),[]):=by
 exact Ac (ks:=[kN (kn h0),kn hp0]) (by kernel_rfl)
theorem WW (n:Nat) (ln:Nat->Nat) (c:Nat->Nat->In4) (m:Nat) (ln':Nat->Nat) (c':Nat->Nat->In4) (b:Nat) (j:Nat->V):NC n ln c m ln' c' b j=Ru n ln c m ln' c' b 0 (λi=>nth (NC n ln c m ln' c' b j).t i):=by kernel_rfl
theorem ent47_eq (n:Nat) (ln:Nat->Nat) (c:Nat->Nat->In4) (m:Nat) (ln':Nat->Nat) (c':Nat->Nat->In4):ent47 n ln c m ln' c'=st47 n ln c m ln' c' 0 (λi=>nth (ent47 n ln c m ln' c').t i):=by kernel_rfl
theorem Abz (L:LT) (n:Nat) (ln:Nat->Nat) (c:Nat->Nat->In4) (m:Nat) (ln':Nat->Nat) (c':Nat->Nat->In4) {b:Nat} (hb:b<n) (hbm:b<m) (h40:ln b<40) (hl:ln b=ln' b) (he:∀ j,j<ln b->ZW (c b j) (c' b j)=true):∀ (e d:Nat) (j:Nat->V) (u:Nat),ln b=d+e->e<u ->
  (A3 (IR L) (JW n ln c m ln' c') u (Ru n ln c m ln' c' b d j)).sem=some (NH n ln c m ln' c' b 0)
 | 0,d,j,u+1,h,_=>by
  have:d=ln b:=by omega
  subst this;exact Ae (AlG L n ln c m ln' c' b (ln b) j (Ag hb) (Aw (Nat.le_refl _)))
 | e+1,d,j,u+1,h,h2=>by
  have hd:d<ln b:=by omega
  have next:=Abz L n ln c m ln' c' hb hbm h40 hl he e (d+1) Aa u (by omega) (by omega)
  have hx:=he d hd;have hq:Ao (ieq (c b d).op (c' b d).op) (Ao (ieq (c b d).d (c' b d).d) (Ao (ieq 0 0) (Ao (ieq 0 0) (Ao (ieq (c b d).imm (c' b d).imm) (Ao (seq (c b d).loc (c' b d).loc) (Ao (seq [] []) (Ao (ieq 0 0) true)))))))=true:=by
   unfold ZW at hx;obtain ⟨q1,hx⟩:=AO hx;obtain ⟨q2,hx⟩:=AO hx;obtain ⟨q3,q4⟩:=AO hx;rw [q1,q2,q3,q4];rfl
  rw [Ae (AlF L n ln c m ln' c' b d j (Ag hb) (ofNat_lt hd) (AX _) (Ag hbm) (by rw [<- hl]; exact Ag hd) hq),A6,Ap hd (by omega)];exact next
theorem AgR (M:LT) (hMM:LLe M M) (n:Nat) (ln:Nat->Nat) (c:Nat->Nat->In4) (m:Nat) (ln':Nat->Nat) (c':Nat->Nat->In4) (m2:∀ g' st,M 2 g' st=A3 g' (JW n ln c m ln' c') 40 st) (hn:n <= 4611686018427387904) (hnm:n=m) (hs:∀ b,b<n->ln b<40∧ln b=ln' b∧∀ j,j<ln b->ZW (c b j) (c' b j)=true):∀ (e b:Nat) (j:Nat->V) (u:Nat),n=b+e->e<u ->
  (A3 (P0 M) (lp47 n ln c m ln' c') u (st47 n ln c m ln' c' b j)).sem=some (en47e n ln c m ln' c' 0)
 | 0,b,j,u+1,h,_=>by
  have:b=n:=by omega
  subst this;exact Ae (AlV M b ln c m ln' c' b j (Aw (Nat.le_refl _)))
 | e+1,b,j,u+1,h,h2=>by
  have hb:b<n:=by omega
  obtain ⟨h40,hl,he⟩:=hs b hb;have next:=AgR M hMM n ln c m ln' c' m2 hn hnm hs e (b+1) Aa u (by omega) (by omega)
  have hi:∀ M',(M 2 (IR M') (NC n ln c m ln' c' b j)).sem=some (NH n ln c m ln' c' b 0):=λM'=>by
   rw [m2,WW];exact Abz M' n ln c m ln' c' hb (by omega) h40 hl he (ln b) 0 _ 40 (by omega) (by omega)
  have h3:=AlU M _ n ln c m ln' c' b j (ofNat_lt hb) (AX _) (Ag (by omega)) (Akm (congrArg ofNat hl)) (Az (hi _));have h4:Al (P0 M) (lp47 n ln c m ln' c') (st47 n ln c m ln' c' b j)=_:=Hi (l:=lp47 n ln c m ln' c') (Gd (Γ:=⟨Am tb0,M,Gl⟩) (AI hMM hMM) (Au Tryz.f27 0) 0 (st47 n ln c m ln' c' b j)) h3;rw [Ae h4,A6,Ap hb hn];exact next
theorem Ap3:Ax Tryz.prog Gl 27 R9:=by
 refine Aj A7 mixed Tryz.func27 (by kernel_rfl) (by kernel_rfl) λvs v h' h=>?_;unfold R9 at h;split at h
 ·rename_i v1 u1
  obtain ⟨n,C,a1,h⟩:=Bz h;obtain ⟨m,D,a2,h⟩:=Bz h;obtain ⟨hn,h⟩:=Ad h;obtain ⟨h40,h⟩:=Ad h;obtain ⟨hsm,h⟩:=Ad h;have:=Ab h;simp only [Prod.mk.injEq] at this;obtain ⟨rfl,rfl⟩:=this;obtain ⟨ln,c,hC⟩:∃ (ln:Nat->Nat) (c:Nat->Nat->In4),C=λu=>(ln u,c u):=⟨λu=>(C u).1,λu=>(C u).2,rfl⟩;subst hC;obtain ⟨ln',c',hD⟩:∃ (ln:Nat->Nat) (c:Nat->Nat->In4),D=λu=>(ln u,c u):=⟨λu=>(D u).1,λu=>(D u).2,rfl⟩;subst hD;have hA:Bj [v1,u1] [.sl 1 n (λu=>.sl 8 (ln u) (λi=>inV (c u i))),.sl 1 m (λu=>.sl 8 (ln' u) (λi=>inV (c' u i)))]:=λS w cs hv=>by
   obtain ⟨c1,l,rfl,q1,c2,l2,rfl,q2,q3⟩:=hv;exact ⟨c1,_,rfl,a1 S w c1 q1,c2,_,rfl,a2 S w c2 q2,q3⟩
  obtain ⟨e1,e2⟩:=AO hsm;have hnm:n=m:=Int.ofNat.inj (BX e1);have hs:∀ b,b<n->ln b<40∧ln b=ln' b∧∀ j,j<ln b->ZW (c b j) (c' b j)=true:=λb hb=>by
   obtain ⟨f1,f2⟩:=AO (A0.1 e2 b hb);exact ⟨of_decide_eq_true (A0.1 h40 b hb),Int.ofNat.inj (BX f1),λj hj=>A0.1 f2 j hj⟩
  have hx:=AH CS [(0,lp47 n ln c m ln' c'),(2,JW n ln c m ln' c')] (G:=Gl);have hL:=AQ [(0,lp47 n ln c m ln' c'),(2,JW n ln c m ln' c')];refine ⟨_,AA Gl tb0 [(0,lp47 n ln c m ln' c'),(2,JW n ln c m ln' c')],_,hA,rfl,hx.1,hx.2,?_,Av.refl _⟩;have hQ:=AI (k:=0) (r:=en47e n ln c m ln' c' 0) hL hL;refine AP hQ _ (AoA _ _ n ln c m ln' c' e1 (Az ?_));show (A3 _ (lp47 n ln c m ln' c') (n+1) (ent47 n ln c m ln' c')).sem=_;rw [ent47_eq];exact AgR _ (Sw hL hL 0 _) n ln c m ln' c' (λg st=>rfl) (of_decide_eq_true hn) hnm hs n 0 _ (n+1) (by omega) (by omega)
 ·cases h
end Go.Proofs.YtkgdhhieomndeaaGreatDoor.Sh
