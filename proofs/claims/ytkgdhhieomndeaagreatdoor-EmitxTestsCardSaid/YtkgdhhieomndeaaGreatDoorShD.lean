/-
  Layer 7: the program's shape of a cycle. No conditions.
-/
import Derived.Test.YtkgdhhieomndeaaGreatDoorCyT
import Derived.Test.YtkgdhhieomndeaaGreatDoorCyU
namespace Go.Proofs.YtkgdhhieomndeaaGreatDoor.Sh
open Go.Sy Ed
open Int (ofNat)
set_option maxHeartbeats 1000000
set_option maxRecDepth 4000
noncomputable def Ak7:AP:=(84,MM)::(17,H7)::(85,BI λe=>bV (AK e))::(86,AiW)::(87,BI λe=>bV (AJ e))::[]
theorem AdH:Av Tryz.prog Gl Ak7:=.cons p48 <| .cons p65 <| .cons p52 <| .cons p53 <| .cons p54 .nil
def Js:List (Nat×Lp):=[(0,⟨bmK 84 0 [0,1,4,5,6,7,23,24],9,bmK 84 0 [],9,17⟩)]
noncomputable def Dy:FuncId->List V->St->T (V×Res):=KX [(88,K4 tab (AC Gl tb55 Js) Tryz.f88)] (Ap Ak7)
theorem Zk:Bo Tryz.prog ⟨Dy,Gl⟩:=GY mixed (.cons rfl A8 (AI tb55_ok Js).1 (AI tb55_ok Js).2 Tryz.func88 (by kernel_rfl) (by kernel_rfl) .nil) (D3 rfl AdH)
def Abj (a:Int) (n:Nat) (f:Nat->E6):Lp:=⟨bmK 164 0 [0,4,5,6,9,11,12,39,40],2,bmK 164 0 [0,4,5,6,9,11,12],2,n+1⟩
def AdN (a:Int) (n:Nat) (f:Nat->E6) (b:Nat) (j:Nat->V):St:=⟨jsV 164 0 j [(0,iV a),(4,.ptr 0 0),(5,iV 0),(6,iV 0),(9,.ref 1),(11,nV n),(12,iV 0),(39,nV n),(40,nV b)],[c7Z,.row 92 6 n (λi=>eV (AV n f i))]⟩
def Q0 (a:Int) (n:Nat) (f:Nat->E6) (b:Nat):Ex×St:=(.ex 0,⟨jsV 164 0 Aa [(0,iV a),(4,.ptr 0 0),(5,iV 0),(6,iV 0),(9,.ref 1),(11,nV n),(12,nV b)],[c7Z,.row 92 6 n (λi=>eV (AV n f i))]⟩)
noncomputable def Sm (L:LT):St->T (Ex×St):=λst=>A7 tab ⟨Dy,L,Gl⟩ (Ar Tryz.f57 0) 0 st
section
variable (L:LT) (a:Int) (n:Nat) (f:Nat->E6) (b:Nat)  (j:Nat->V)
include L a n f b j
theorem Al5 (h0:ilt (ofNat b) (ofNat n)=true) (h13:ile 0 (ofNat b)=true) (h1:nlt b n=true) (h2:AK (AV n f b)=false):Ah (Sm L) (Abj a n f) (AdN a n f b j)=some (.nm,⟨jsV 164 0 Aa [(0,iV a),(4,.ptr 0 0),(5,iV 0),(6,iV 0),(9,.ref 1),(11,nV n),(12,iV 0),(39,nV n),(40,iV (wr .i64 (Af (ofNat b) 1)))],[c7Z,.row 92 6 n (λi=>eV (AV n f i))]⟩):=by
 exact Ab (ks:=[kn h0,kA (kn h13) (kn h0),kn h1,kn h2]) (by kernel_rfl)
theorem Al4 (h0:ilt (ofNat b) (ofNat n)=true) (h14:ile 0 (ofNat b)=true) (h1:nlt b n=true) (h2:AK (AV n f b)=true) (h3:ieq (ofNat n) 0=false):Ah (Sm L) (Abj a n f) (AdN a n f b j)=some ((.ex 0),⟨jsV 164 0 Aa [(0,iV a),(4,.ptr 0 0),(5,iV 0),(6,iV 0),(9,.ref 1),(11,nV n),(12,iV (Ag (wr .i64 (Af (ofNat b) 1)) (ofNat n)))],[c7Z,.row 92 6 n (λi=>eV (AV n f i))]⟩):=by
 exact Ab (ks:=[kn h0,kA (kn h14) (kn h0),kn h1,kn h2,kn h3]) (by kernel_rfl)
end
def AoG (a:Int) (n:Nat) (f:Nat->E6) :Nat->V:=lkV A9 [(1,.sl 6 n (λi=>eV (f i))),(7,iV (B6 a n f)),(8,iV (Da a n f)),(10,iV 0),(21,.tup [iV (B6 a n f),iV (Da a n f)]),(22,iV a),(23,.sl 6 n (λi=>eV (f i))),(24,.tup [iV (B6 a n f),iV (Da a n f)]),(25,iV (B6 a n f)),(26,iV (Da a n f)),(27,iV (B6 a n f)),(28,bV (A6 (ieq (B6 a n f) 0))),(32,.tup [.ref 1,iV 0]),(33,.sl 6 n (λi=>eV (f i))),(34,.tup [.ref 1,iV 0]),(35,.ref 1),(36,iV 0),(37,.ref 1),(38,nV n)]
def Oo (a:Int) (n:Nat) (f:Nat->E6):Lp:=⟨bmK 164 0 [0,4,5,6,9,11,12,14,55,56],7,bmK 164 0 [0,4,5,6,11,14],7,n+1⟩
def L2 (a:Int) (n:Nat) (f:Nat->E6) (q b:Nat) (y:Nat->V) (j:Nat->V):St:=⟨jsV 164 0 j [(0,iV a),(4,.ptr 0 0),(5,iV 0),(6,iV 0),(9,.ref 1),(11,nV n),(12,nV q),(14,.ptr 2 0),(55,nV n),(56,nV b)],[c7Z,.row 92 6 n (λi=>eV (AV n f i)),.cells [iV a,.ref 3,.ref 4,iV 0,iV 0,.ref 5,.jref 6],.row 92 6 b y,.row 80 5 0 Aa,.row 3 1 0 Aa,.jag (Jag.mk 24 1 0 Aa 0 3 1 (λ_=>true) (λ_=>0) (λ_ _=>.und))]⟩
def IY (a:Int) (n:Nat) (f:Nat->E6) (q b:Nat) (y:Nat->V):Ex×St:=(.ex 2,⟨jsV 164 0 Aa [(0,iV a),(4,.ptr 0 0),(5,iV 0),(6,iV 0),(11,nV n),(14,.ptr 2 0)],[c7Z,.row 92 6 n (λi=>eV (AV n f i)),.cells [iV a,.ref 3,.ref 4,iV 0,iV 0,.ref 5,.jref 6],.row 92 6 b y,.row 80 5 0 Aa,.row 3 1 0 Aa,.jag (Jag.mk 24 1 0 Aa 0 3 1 (λ_=>true) (λ_=>0) (λ_ _=>.und))]⟩)
noncomputable def Ld (L:LT):St->T (Ex×St):=λst=>A7 tab ⟨Dy,L,Gl⟩ (Ar Tryz.f57 2) 2 st
section
variable (L:LT) (a:Int) (n:Nat) (f:Nat->E6) (q b:Nat) (y:Nat->V)  (j:Nat->V)
include L a n f q b y j
theorem Al1 (h0:ilt (ofNat b) (ofNat n)=false):Ah (Ld L) (Oo a n f) (L2 a n f q b y j)=some ((.ex 2),⟨jsV 164 0 Aa [(0,iV a),(4,.ptr 0 0),(5,iV 0),(6,iV 0),(11,nV n),(14,.ptr 2 0)],[c7Z,.row 92 6 n (λi=>eV (AV n f i)),.cells [iV a,.ref 3,.ref 4,iV 0,iV 0,.ref 5,.jref 6],.row 92 6 b y,.row 80 5 0 Aa,.row 3 1 0 Aa,.jag (Jag.mk 24 1 0 Aa 0 3 1 (λ_=>true) (λ_=>0) (λ_ _=>.und))]⟩):=by
 exact Ab (ks:=[kn h0]) (by kernel_rfl)
theorem Al0 (h0:ilt (ofNat b) (ofNat n)=true) (h1:ieq (ofNat n) 0=false) (h13:Al (ile 0 (Ag (wr .i64 (Af (ofNat q) (ofNat b))) (ofNat n))) (ilt (Ag (wr .i64 (Af (ofNat q) (ofNat b))) (ofNat n)) (ofNat n))=true) (h14:nlt (toN (Ag (wr .i64 (Af (ofNat q) (ofNat b))) (ofNat n))) n=true) (h15:Ba b 1 40=true):Ah (Ld L) (Oo a n f) (L2 a n f q b y j)=some (.nm,⟨jsV 164 0 Aa [(0,iV a),(4,.ptr 0 0),(5,iV 0),(6,iV 0),(9,.ref 1),(11,nV n),(12,nV q),(14,.ptr 2 0),(55,nV n),(56,iV (wr .i64 (Af (ofNat b) 1)))],[c7Z,.row 92 6 n (λi=>eV (AV n f i)),.cells [iV a,.ref 3,.ref 4,iV 0,iV 0,.ref 5,.jref 6],.row 92 6 (AS b 1) (As b y (eV (AV n f (toN (Ag (wr .i64 (Af (ofNat q) (ofNat b))) (ofNat n)))))),.row 80 5 0 Aa,.row 3 1 0 Aa,.jag (Jag.mk 24 1 0 Aa 0 3 1 (λ_=>true) (λ_=>0) (λ_ _=>.und))]⟩):=by
 exact Ab (ks:=[kn h0,kn h1,kn h13,kn h14,kn h15]) (by kernel_rfl)
end
def Ajh (a:Int) (n:Nat) (f:Nat->E6) (q:Nat):Nat->V:=lkU 23384026197294446691258957323460393206506099549582 [(53,iV a),(54,.agg [iV a,.nilS,.nilS,iV 0,iV 0,.nilS,.nilS])]
def On (a:Int) (n:Nat) (f:Nat->E6):Lp:=⟨bmK 164 0 [0,4,5,6,11,14,16,17,18,80,81],10,bmK 164 0 [4,5,6,11,14],7,n+1⟩
def QU (a:Int) (n:Nat) (f:Nat->E6) (b m:Nat) (tt kk:Int) (g:Nat->E6) (th lo r:Nat->Int) (x:Nat->V) (pl:Int->Int) (j:Nat->V):St:=⟨jsV 164 0 j [(0,iV a),(4,.ptr 0 0),(5,iV 0),(6,iV 0),(11,nV n),(14,.ptr 2 0),(16,.ref 7),(17,.ref 8),(18,.ref 9),(80,nV n),(81,nV b)],[c7Z,.row 92 6 n (λi=>eV (AV n f i)),.cells [iV a,.ref 3,.ref 4,iV tt,iV kk,.ref 5,.jref 6],.row 92 6 n (λi=>eV (g i)),.row 80 5 b x,.row 3 1 b (λi=>iV (r i)),.jag (Jag.mk 24 1 0 Aa 0 3 1 (λ_=>true) (λ_=>0) (λ_ _=>.und)),.row 3 1 n (λk=>iV (th k)),.row 3 1 n (λk=>iV (lo k)),.imap 139 m pl]⟩
def IX (a:Int) (n:Nat) (f:Nat->E6) (b m:Nat) (tt kk:Int) (g:Nat->E6) (th lo r:Nat->Int) (x:Nat->V) (pl:Int->Int):Ex×St:=(.ex 4,⟨jsV 164 0 Aa [(4,.ptr 0 0),(5,iV 0),(6,iV 0),(11,nV n),(14,.ptr 2 0)],[c7Z,.row 92 6 n (λi=>eV (AV n f i)),.cells [iV a,.ref 3,.ref 4,iV tt,iV kk,.ref 5,.jref 6],.row 92 6 n (λi=>eV (g i)),.row 80 5 b x,.row 3 1 b (λi=>iV (r i)),.jag (Jag.mk 24 1 0 Aa 0 3 1 (λ_=>true) (λ_=>0) (λ_ _=>.und))]⟩)
noncomputable def Lc (L:LT):St->T (Ex×St):=λst=>A7 tab ⟨Dy,L,Gl⟩ (Ar Tryz.f57 4) 4 st
section
variable (L:LT) (a:Int) (n:Nat) (f:Nat->E6) (b m:Nat) (tt kk:Int) (g:Nat->E6) (th lo r:Nat->Int) (x:Nat->V) (pl:Int->Int)  (j:Nat->V)
include L a n f b m tt kk g th lo r x pl j
theorem Alz (h0:ilt (ofNat b) (ofNat n)=false):Ah (Lc L) (On a n f) (QU a n f b m tt kk g th lo r x pl j)=some ((.ex 4),⟨jsV 164 0 Aa [(4,.ptr 0 0),(5,iV 0),(6,iV 0),(11,nV n),(14,.ptr 2 0)],[c7Z,.row 92 6 n (λi=>eV (AV n f i)),.cells [iV a,.ref 3,.ref 4,iV tt,iV kk,.ref 5,.jref 6],.row 92 6 n (λi=>eV (g i)),.row 80 5 b x,.row 3 1 b (λi=>iV (r i)),.jag (Jag.mk 24 1 0 Aa 0 3 1 (λ_=>true) (λ_=>0) (λ_ _=>.und))]⟩):=by
 exact Ab (ks:=[kn h0]) (by kernel_rfl)
theorem Aly (h0:ilt (ofNat b) (ofNat n)=true) (h13:ile 0 (ofNat b)=true) (h1:nlt b n=true) (h2:Fr (th b)=true) (h14:Ba b 1 40=true) (h15:nlt m 4611686018427387904=true) (h16:Fr (wr .i64 (Af (pl (th b)) 1))=true) (h17:Ba b 1 8=true):Ah (Lc L) (On a n f) (QU a n f b m tt kk g th lo r x pl j)=some (.nm,⟨jsV 164 0 Aa [(0,iV a),(4,.ptr 0 0),(5,iV 0),(6,iV 0),(11,nV n),(14,.ptr 2 0),(16,.ref 7),(17,.ref 8),(18,.ref 9),(80,nV n),(81,iV (wr .i64 (Af (ofNat b) 1)))],[c7Z,.row 92 6 n (λi=>eV (AV n f i)),.cells [iV a,.ref 3,.ref 4,iV (sel (ilt tt (wr .i64 (Af (th b) 1))) (wr .i64 (Af (th b) 1)) tt),iV (sel (ilt kk (wr .i64 (Af (lo b) 1))) (wr .i64 (Af (lo b) 1)) kk),.ref 5,.jref 6],.row 92 6 n (λi=>eV (g i)),.row 80 5 (AS b 1) (As b x (.agg [iV (th b),iV (pl (th b)),iV (g b).src,iV (lo b),iV 0])),.row 3 1 (AS b 1) (As b (λi=>iV (r i)) (iV (-1))),.jag (Jag.mk 24 1 0 Aa 0 3 1 (λ_=>true) (λ_=>0) (λ_ _=>.und)),.row 3 1 n (λk=>iV (th k)),.row 3 1 n (λk=>iV (lo k)),.imap 139 (AS m 1) (λi=>sel (ieq i (th b)) (wr .i64 (Af (pl (th b)) 1)) (pl i))]⟩):=by
 exact Ab (ks:=[kn h0,kA (kn h13) (kn h0),kn h1,kA (kn h13) (kn h0),kn h1,kn h2,kA (kn h13) (kn h0),kn h1,kA (kn h13) (kn h0),kn h1,kn h14,kA (kn h13) (kn h0),kn h1,kn h2,kn h15,kn h2,kn h16,kA (kn h13) (kn h0),kn h1,kA (kn h13) (kn h0),kn h1,kn h17]) (by kernel_rfl)
end
def J7 (a:Int) (n:Nat) (f:Nat->E6):Lp:=⟨bmK 164 0 [4,11,14,145,146],8,bmK 164 0 [4,14],8,n+1⟩
def L1 (a:Int) (n:Nat) (f:Nat->E6) (b kk:Nat) (tt:Int) (g:Nat->E6) (x:Nat->Ev5) (r:Nat->Int) (ln:Nat->Nat) (co:Nat->Nat->Int) (j:Nat->V):St:=⟨jsV 164 0 j [(4,.ptr 0 0),(11,nV n),(14,.ptr 2 0),(145,nV n),(146,nV b)],[c7Z,.row 92 6 n (λi=>eV (AV n f i)),.cells [iV a,.ref 3,.ref 4,iV tt,nV kk,.ref 5,.jref 7],.row 92 6 n (λi=>eV (g i)),.row 80 5 n (λi=>evV (x i)),.row 3 1 n (λi=>iV (r i)),.jag (Jag.mk 24 1 0 Aa 0 3 1 (λ_=>true) (λ_=>0) (λ_ _=>.und)),.jag (Jag.mk 24 1 kk (λ_=>.nilS) 0 3 1 (λ_=>true) ln (λi k=>iV (co i k)))]⟩
def IW (a:Int) (n:Nat) (f:Nat->E6) (b kk:Nat) (tt:Int) (g:Nat->E6) (x:Nat->Ev5) (r:Nat->Int) (ln:Nat->Nat) (co:Nat->Nat->Int):Ex×St:=(.ex 6,⟨jsV 164 0 Aa [(4,.ptr 0 0),(14,.ptr 2 0)],[c7Z,.row 92 6 n (λi=>eV (AV n f i)),.cells [iV a,.ref 3,.ref 4,iV tt,nV kk,.ref 5,.jref 7],.row 92 6 n (λi=>eV (g i)),.row 80 5 n (λi=>evV (x i)),.row 3 1 n (λi=>iV (r i)),.jag (Jag.mk 24 1 0 Aa 0 3 1 (λ_=>true) (λ_=>0) (λ_ _=>.und)),.jag (Jag.mk 24 1 kk (λ_=>.nilS) 0 3 1 (λ_=>true) ln (λi k=>iV (co i k)))]⟩)
def UW (n b:Nat) (u:Nat->V):List V:=(jsV 164 0 u [(4,.ptr 0 0),(11,nV n),(14,.ptr 2 0),(145,nV n),(146,nV b)])
noncomputable def Iz (L:LT):St->T (Ex×St):=λst=>A7 tab ⟨Dy,L,Gl⟩ (Ar Tryz.f57 6) 6 st
section
variable (L:LT) (a:Int) (n:Nat) (f:Nat->E6) (b kk:Nat) (tt:Int) (g:Nat->E6) (x:Nat->Ev5) (r:Nat->Int) (ln:Nat->Nat) (co:Nat->Nat->Int)  (j:Nat->V)
include L a n f b kk tt g x r ln co j
theorem Alo (h0:ilt (ofNat b) (ofNat n)=false):((A7 tab ⟨Dy,L,Gl⟩ (Ar Tryz.f57 6) 6 (L1 a n f b kk tt g x r ln co j)).bind λr=>T.leaf (MK (J7 a n f) r)).sem=some ((.ex 6),⟨jsV 164 0 Aa [(4,.ptr 0 0),(14,.ptr 2 0)],[c7Z,.row 92 6 n (λi=>eV (AV n f i)),.cells [iV a,.ref 3,.ref 4,iV tt,nV kk,.ref 5,.jref 7],.row 92 6 n (λi=>eV (g i)),.row 80 5 n (λi=>evV (x i)),.row 3 1 n (λi=>iV (r i)),.jag (Jag.mk 24 1 0 Aa 0 3 1 (λ_=>true) (λ_=>0) (λ_ _=>.und)),.jag (Jag.mk 24 1 kk (λ_=>.nilS) 0 3 1 (λ_=>true) ln (λi k=>iV (co i k)))]⟩):=by
 exact Ab (ks:=[kn h0]) (by kernel_rfl)
theorem Aln (h0:ilt (ofNat b) (ofNat n)=true) (h1:ieq (ofNat n) 0=false) (h14:Al (ile 0 (Ag (wr .i64 (A5 (wr .i64 (Af (ofNat b) (ofNat n))) 1)) (ofNat n))) (ilt (Ag (wr .i64 (A5 (wr .i64 (Af (ofNat b) (ofNat n))) 1)) (ofNat n)) (ofNat n))=true) (h15:nlt (toN (Ag (wr .i64 (A5 (wr .i64 (Af (ofNat b) (ofNat n))) 1)) (ofNat n))) n=true) (h2:AJ (g (toN (Ag (wr .i64 (A5 (wr .i64 (Af (ofNat b) (ofNat n))) 1)) (ofNat n))))=false):((A7 tab ⟨Dy,L,Gl⟩ (Ar Tryz.f57 6) 6 (L1 a n f b kk tt g x r ln co j)).bind λr=>T.leaf (MK (J7 a n f) r)).sem=some (.nm,⟨jsV 164 0 Aa [(4,.ptr 0 0),(11,nV n),(14,.ptr 2 0),(145,nV n),(146,iV (wr .i64 (Af (ofNat b) 1)))],[c7Z,.row 92 6 n (λi=>eV (AV n f i)),.cells [iV a,.ref 3,.ref 4,iV tt,nV kk,.ref 5,.jref 7],.row 92 6 n (λi=>eV (g i)),.row 80 5 n (λi=>evV (x i)),.row 3 1 n (λi=>iV (r i)),.jag (Jag.mk 24 1 0 Aa 0 3 1 (λ_=>true) (λ_=>0) (λ_ _=>.und)),.jag (Jag.mk 24 1 kk (λ_=>.nilS) 0 3 1 (λ_=>true) ln (λi k=>iV (co i k)))]⟩):=by
 exact Ab (ks:=[kn h0,kn h1,kn h14,kn h15,kn h2]) (by kernel_rfl)
end
theorem Alm (L:LT) (a:Int) (n:Nat) (f:Nat->E6) (b kk:Nat) (tt:Int) (g:Nat->E6) (x:Nat->Ev5) (r:Nat->Int) (ln:Nat->Nat) (co:Nat->Nat->Int) (u:Nat->V) (x':Nat->Ev5) (r':Nat->Int) (ln':Nat->Nat) (co':Nat->Nat->Int) (q55:List V->St->Bool) (j:Nat->V) (h0:ilt (ofNat b) (ofNat n)=true) (h1:ieq (ofNat n) 0=false) (h14:Al (ile 0 (Ag (wr .i64 (A5 (wr .i64 (Af (ofNat b) (ofNat n))) 1)) (ofNat n))) (ilt (Ag (wr .i64 (A5 (wr .i64 (Af (ofNat b) (ofNat n))) 1)) (ofNat n)) (ofNat n))=true) (h15:nlt (toN (Ag (wr .i64 (A5 (wr .i64 (Af (ofNat b) (ofNat n))) 1)) (ofNat n))) n=true) (h2:AJ (g (toN (Ag (wr .i64 (A5 (wr .i64 (Af (ofNat b) (ofNat n))) 1)) (ofNat n))))=true) (hq55:(q55 [.ptr 2 0,nV b] ⟨jsV 164 0 j [(4,.ptr 0 0),(11,nV n),(14,.ptr 2 0),(20,nV b),(145,nV n),(146,nV b),(147,bV (ilt (ofNat b) (ofNat n))),(148,nV b),(149,.ptr 2 1),(150,.ref 3),(151,nV b),(152,nV n),(153,iV (wr .i64 (Af (ofNat b) (ofNat n)))),(154,iV (wr .i64 (A5 (wr .i64 (Af (ofNat b) (ofNat n))) 1))),(155,nV n),(156,iV (Ag (wr .i64 (A5 (wr .i64 (Af (ofNat b) (ofNat n))) 1)) (ofNat n))),(157,.ept 3 6 (toN (Ag (wr .i64 (A5 (wr .i64 (Af (ofNat b) (ofNat n))) 1)) (ofNat n))) 0),(158,eV (g (toN (Ag (wr .i64 (A5 (wr .i64 (Af (ofNat b) (ofNat n))) 1)) (ofNat n))))),(159,bV (AJ (g (toN (Ag (wr .i64 (A5 (wr .i64 (Af (ofNat b) (ofNat n))) 1)) (ofNat n)))))),(160,nV b)],[c7Z,.row 92 6 n (λi=>eV (AV n f i)),.cells [iV a,.ref 3,.ref 4,iV tt,nV kk,.ref 5,.jref 7],.row 92 6 n (λi=>eV (g i)),.row 80 5 n (λi=>evV (x i)),.row 3 1 n (λi=>iV (r i)),.jag (Jag.mk 24 1 0 Aa 0 3 1 (λ_=>true) (λ_=>0) (λ_ _=>.und)),.jag (Jag.mk 24 1 kk (λ_=>.nilS) 0 3 1 (λ_=>true) ln (λi k=>iV (co i k)))]⟩)=true):((A7 tab ⟨onC 88 q55 (.tup [],.all ⟨UW n b u,[c7Z,.row 92 6 n (λi=>eV (AV n f i)),.cells [iV a,.ref 3,.ref 4,iV tt,nV kk,.ref 5,.jref 7],.row 92 6 n (λi=>eV (g i)),.row 80 5 n (λi=>evV (x' i)),.row 3 1 n (λi=>iV (r' i)),.jag (Jag.mk 24 1 0 Aa 0 3 1 (λ_=>true) (λ_=>0) (λ_ _=>.und)),.jag (Jag.mk 24 1 kk (λ_=>.nilS) 0 3 1 (λ_=>true) ln' (λi k=>iV (co' i k)))]++[.dead]⟩) (Dy),L,Gl⟩ (Ar Tryz.f57 6) 6 (L1 a n f b kk tt g x r ln co j)).bind λr=>T.leaf (MK (J7 a n f) r)).sem=some (.nm,⟨jsV 164 0 Aa [(4,.ptr 0 0),(11,nV n),(14,.ptr 2 0),(145,nV n),(146,iV (wr .i64 (Af (ofNat b) 1)))],[c7Z,.row 92 6 n (λi=>eV (AV n f i)),.cells [iV a,.ref 3,.ref 4,iV tt,nV kk,.ref 5,.jref 7],.row 92 6 n (λi=>eV (g i)),.row 80 5 n (λi=>evV (x' i)),.row 3 1 n (λi=>iV (r' i)),.jag (Jag.mk 24 1 0 Aa 0 3 1 (λ_=>true) (λ_=>0) (λ_ _=>.und)),.jag (Jag.mk 24 1 kk (λ_=>.nilS) 0 3 1 (λ_=>true) ln' (λi k=>iV (co' i k)))]⟩):=by
 exact Ab (ks:=[kn h0,kn h1,kn h14,kn h15,kn h2,kn hq55]) (by kernel_rfl)
def RY (a:Int) (n:Nat) (f:Nat->E6) (q:Nat) (g:Nat->E6):St:=⟨jsV 164 0 Aa [(0,iV a),(4,.ptr 0 0),(5,iV 0),(6,iV 0),(11,nV n),(14,.ptr 2 0),(16,.ref 7),(17,.ref 8),(18,.ref 9),(73,.ptr 2 1),(74,.ref 3),(75,.ref 7),(76,.ptr 2 1),(77,.ref 3),(78,.ref 8),(79,.ref 9),(80,nV n),(81,iV 0)],[c7Z,.row 92 6 n (λi=>eV (AV n f i)),.cells [iV a,.ref 3,.ref 4,iV 0,iV 0,.ref 5,.jref 6],.row 92 6 n (λi=>eV (g i)),.row 80 5 0 Aa,.row 3 1 0 Aa,.jag (Jag.mk 24 1 0 Aa 0 3 1 (λ_=>true) (λ_=>0) (λ_ _=>.und)),.row 3 1 n (λk=>iV (AG (λk=>AK (g k)) n k)),.row 3 1 n (λk=>iV (AG (λk=>AJ (g k)) n k)),.imap 139 0 (λ_=>0)]⟩
def RX (a:Int) (n:Nat) (f:Nat->E6) (q m kk:Nat) (tt:Int) (g:Nat->E6) (th lo r:Nat->Int) (x:Nat->Ev5) (pl:Int->Int):St:=⟨jsV 164 0 Aa [(4,.ptr 0 0),(5,iV 0),(6,iV 0),(11,nV n),(14,.ptr 2 0),(141,.ptr 2 4),(142,nV kk),(143,.jref 7),(144,.ptr 2 6),(145,nV n),(146,iV 0)],[c7Z,.row 92 6 n (λi=>eV (AV n f i)),.cells [iV a,.ref 3,.ref 4,iV tt,nV kk,.ref 5,.jref 7],.row 92 6 n (λi=>eV (g i)),.row 80 5 n (λi=>evV (x i)),.row 3 1 n (λi=>iV (r i)),.jag (Jag.mk 24 1 0 Aa 0 3 1 (λ_=>true) (λ_=>0) (λ_ _=>.und)),.jag (Jag.mk 24 1 kk (λ_=>.nilS) 0 3 1 (λ_=>true) (λ_=>0) (λ_ _=>.und))]⟩
theorem AnJ (L:LT) (p0:PT) (p2:PT) (p4:PT) (p6:PT) (a:Int) (n:Nat) (f:Nat->E6) (q m kk:Nat) (tt:Int) (g:Nat->E6) (th lo r:Nat->Int) (x:Nat->Ev5) (pl:Int->Int) (x':Nat->Ev5) (r':Nat->Int) (ln':Nat->Nat) (co':Nat->Nat->Int) (h0:BF n=true) (h1:ieq (B6 a n f) 0=true) (h2:Co n f=true) (h3:Al (ilt 0 (ofNat n)) (Al (Ea n) (DA 8 (ofNat n) (ofNat n)))=true) (h15:BC [.row 3 1 n (λ_=>iV 0)]=true) (h4:DA 24 (ofNat kk) (ofNat kk)=true) (hp0:p0 (Sm (onP 0 p0 (Q0 a n f q) (onP 2 p2 (IY a n f q n (λi=>eV (g i))) (onP 4 p4 (IX a n f n m tt (ofNat kk) g th lo r (λi=>evV (x i)) pl) (onP 6 p6 (IW a n f n kk tt g x' r' ln' co') L))))) (AdN a n f 0 (AoG a n f ))=true) (hp2:p2 (Ld (onP 0 p0 (Q0 a n f q) (onP 2 p2 (IY a n f q n (λi=>eV (g i))) (onP 4 p4 (IX a n f n m tt (ofNat kk) g th lo r (λi=>evV (x i)) pl) (onP 6 p6 (IW a n f n kk tt g x' r' ln' co') L))))) (L2 a n f q 0 Aa (Ajh a n f q))=true) (hp4:p4 (Lc (onP 0 p0 (Q0 a n f q) (onP 2 p2 (IY a n f q n (λi=>eV (g i))) (onP 4 p4 (IX a n f n m tt (ofNat kk) g th lo r (λi=>evV (x i)) pl) (onP 6 p6 (IW a n f n kk tt g x' r' ln' co') L))))) (RY a n f q g)=true) (hp6:p6 (Iz (onP 0 p0 (Q0 a n f q) (onP 2 p2 (IY a n f q n (λi=>eV (g i))) (onP 4 p4 (IX a n f n m tt (ofNat kk) g th lo r (λi=>evV (x i)) pl) (onP 6 p6 (IW a n f n kk tt g x' r' ln' co') L))))) (RX a n f q m kk tt g th lo r x pl)=true):(Az (Ak tab ⟨Dy,onP 0 p0 (Q0 a n f q) (onP 2 p2 (IY a n f q n (λi=>eV (g i))) (onP 4 p4 (IX a n f n m tt (ofNat kk) g th lo r (λi=>evV (x i)) pl) (onP 6 p6 (IW a n f n kk tt g x' r' ln' co') L))),Gl⟩ Tryz.f57 [iV a,.sl 6 n λi=>eV (f i)] [])).sem=some ((.tup [.agg [iV a,.ref 0,.ref 1,iV tt,nV kk,.ref 2,.jref 3],iV 0,iV 0]),[.row 92 6 n (λi=>eV (g i)),.row 80 5 n (λi=>evV (x' i)),.row 3 1 n (λi=>iV (r' i)),.jag (Jag.mk 24 1 kk (λ_=>.nilS) 0 3 1 (λ_=>true) ln' (λi k=>iV (co' i k)))]):=by
 exact Ab (ks:=[kL n,kn h0,kN (kn h1),kL n,kn h0,kn h2,kn hp0,kn hp2,kT,kL n,kn h3,kn h15,kT,kL n,kn h3,kn h15,kn hp4,kn h4,kn hp6]) (by kernel_rfl)
def Ael:LT:=λ_ _ _=>.fail
theorem Xg (L:LT):LLe Ael L:=λ_ _ _ _ _ _ h=>by cases h
def zE:E6:=⟨0,false,false,0,0,0⟩
def AmS (n:Nat) (G:Nat->E6) (i:Nat):E6:=bif decide (i<n) then G i else zE
def shQ (n:Nat) (f:Nat->E6):Nat:=(Eh (λi=>AK (AV n f i)) n+1) % n
def shG (n:Nat) (f:Nat->E6):Nat->E6:=AmS n λi=>AV n f ((shQ n f+i) % n)
theorem AfZ (L:LT) (a:Int) (n:Nat) (f:Nat->E6) (hn:n <= 4611686018427387903) (k:Nat) (hk:k<n) (ht:AK (AV n f k)=true) (hb:∀ i,i<k->AK (AV n f i)=false):∀ (e b:Nat) (j:Nat->V) (q:Nat),k=b+e->e<q ->
  (A3 (Sm L) (Abj a n f) q (AdN a n f b j)).sem=some (Q0 a n f ((k+1) % n))
 | 0,b,j,q+1,h,_=>by
  have:k=b:=by omega
  subst this;rw [Ae (Al4 L a n f k j (ofNat_lt hk) (AF k) (decide_eq_true hk) ht (LQ (by omega))),RJ,Aq hk (by omega),CO];rfl
 | e+1,b,j,q+1,h,h2=>by
  have hl:b<n:=by omega
  rw [Ae (Al5 L a n f b j (ofNat_lt hl) (AF b) (decide_eq_true hl) (hb b (by omega))),Ay,Aq hl (by omega)];exact AfZ L a n f hn k hk ht hb e (b+1) Aa q (by omega) (by omega)
def upE (b:Nat) (G:Nat->E6) (i:Nat):E6:=bif decide (i<b) then G i else zE
theorem Z8 (b:Nat) (G:Nat->E6):As b (λi=>eV (upE b G i)) (eV (G b))=λi=>eV (upE (b+1) G i):=by
 funext k;rw [Bi,show Nat.beq k b=decide (k=b) by rw [Bool.eq_iff_iff]; simp];unfold upE;by_cases h:k=b
 ·subst h; simp
 ·by_cases h2:k<b
  ·have:k<b+1:=by omega
   simp [h,h2,this]
  ·have:¬ k<b+1:=by omega
   simp [h,h2,this]
theorem Aa6 (L:LT) (a:Int) (n:Nat) (f:Nat->E6) (hn:n <= 16) (z:Nat) (hz:z<n):∀ (e b:Nat) (j:Nat->V) (q:Nat),n=b+e->e<q ->
  (A3 (Ld L) (Oo a n f) q (L2 a n f z b (λi=>eV (upE b (λi=>AV n f ((z+i) % n)) i)) j)).sem=some (IY a n f z n (λi=>eV (upE n (λi=>AV n f ((z+i) % n)) i)))
 | 0,b,j,q+1,h,_=>by
  have:n=b:=by omega
  subst this;exact Ae (Al1 L a n f z n _ j (A1 (Nat.le_refl _)))
 | e+1,b,j,q+1,h,h2=>by
  have hl:b<n:=by omega
  have hI:Ag (wr .i64 (Af (ofNat z) (ofNat b))) (ofNat n)=ofNat ((z+b) % n):=by rw [D8 (by omega),CO]
  have hlt:(z+b) % n<n:=Nat.mod_lt _ (by omega);rw [Ae (Al0 L a n f z b _ j (ofNat_lt hl) (LQ (by omega)) (by rw [hI]; exact Ao hlt) (by rw [hI]; exact decide_eq_true hlt) (BS (by omega))),Ay,hI,Aq hl (by omega),show toN (ofNat ((z+b) % n))=(z+b) % n from rfl,
   show AV n f ((z+b) % n)=(λi=>AV n f ((z+i) % n)) b from rfl,Z8]
  exact Aa6 L a n f hn z hz e (b+1) Aa q (by omega) (by omega)
def upX (n:Nat) (g:Nat->E6) (b i:Nat):Ev5:=bif decide (i<b) then evF n g (λ_=>false) i else ⟨0,0,0,0,0⟩
theorem S3 (n:Nat) (g:Nat->E6) (b:Nat):As b (λi=>evV (upX n g b i)) (evV (evF n g (λ_=>false) b))=λi=>evV (upX n g (b+1) i):=by
 funext k;rw [Bi,show Nat.beq k b=decide (k=b) by rw [Bool.eq_iff_iff]; simp];unfold upX;by_cases h:k=b
 ·subst h; simp
 ·by_cases h2:k<b
  ·have:k<b+1:=by omega
   simp [h,h2,this]
  ·have:¬ k<b+1:=by omega
   simp [h,h2,this]
theorem Ep (b:Nat) (v:V):As b (λ_=>v) v=λ_=>v:=by
 funext k;rw [Bi];cases Nat.beq k b <;> rfl
def plM (n:Nat) (g:Nat->E6) (b:Nat) (x:Int):Int:=ofNat (An (λk=>ieq x (thF n g k)) b)
theorem AiL (n:Nat) (g:Nat->E6) {b:Nat} (hb:b<n) (hn:n <= 16):(λi=>sel (ieq i (thF n g b)) (wr .i64 (Af (plM n g b (thF n g b)) 1)) (plM n g b i))=plM n g (b+1):=by
 funext i;have hc:=Be (λk=>ieq (thF n g b) (thF n g k)) b;unfold plM;rw [Aq (n:=n) (by omega) (by omega)];cases h:ieq i (thF n g b) with
 | true =>have:=BN h;subst this;rw [Bx h];rfl
 | false =>rw [BU h];rfl
theorem Ago {p:Nat->Bool} {n b:Nat} (hb:b<n) (hn:n <= 16):sel (ilt (ofNat (rN p n b)) (wr .i64 (Af (AG p n b) 1))) (wr .i64 (Af (AG p n b) 1)) (ofNat (rN p n b))=ofNat (rN p n (b+1)):=by
 have h1:=MZ p n b hb;have h2:=WU p n b;rw [Fn hb,Aq (n:=n) (by omega) (by omega),BV,rN];by_cases h:AX p n b<rN p n b
 ·rw [if_pos h,decide_eq_false (by omega)]; rfl
 ·rw [if_neg h,decide_eq_true (by omega)]
  show ofNat (AX p n b+1)=_;rw [show AX p n b=rN p n b by omega]
theorem Aa5 (L:LT) (a:Int) (n:Nat) (f:Nat->E6) (hn:n <= 16) (g:Nat->E6):∀ (e b:Nat) (j:Nat->V) (q:Nat),n=b+e->e<q ->
  (A3 (Lc L) (On a n f) q (QU a n f b b (ofNat (rN (obF g) n b)) (ofNat (rN (mbF g) n b)) g (thF n g) (loF n g) (λ_=>-1) (λi=>evV (upX n g b i)) (plM n g b) j)).sem=some (IX a n f n n (ofNat (rN (obF g) n n)) (ofNat (rN (mbF g) n n)) g (thF n g) (loF n g) (λ_=>-1) (λi=>evV (upX n g n i)) (plM n g n))
 | 0,b,j,q+1,h,_=>by
  have:n=b:=by omega
  subst this;exact Ae (Alz L a n f n n _ _ g _ _ _ _ _ j (A1 (Nat.le_refl _)))
 | e+1,b,j,q+1,h,h2=>by
  have hl:b<n:=by omega
  have hth:thF n g b=ofNat (AX (obF g) n b):=Fn hl;have hpn:=NU (p:=obF g) (n:=n) (k:=b) (by omega);have hcn:=Be (obF g) n;have hc:=Be (λk=>ieq (thF n g b) (thF n g k)) b;have fit:∀ k:Nat,k <= 100->Fr (ofNat k)=true:=λk hk=>by
   unfold Fr;rw [decide_eq_true (by simp only [Int.ofNat_eq_natCast]; omega),decide_eq_true (by simp only [Int.ofNat_eq_natCast]; omega)];rfl
  rw [Ae (Aly L a n f b b _ _ g _ _ _ _ _ j (ofNat_lt hl) (AF b) (decide_eq_true hl) (by rw [hth]; exact fit _ (by omega)) (BS (by omega)) (decide_eq_true (by omega)) (by unfold plM; rw [Aq (n:=n) (by omega) (by omega)]; exact fit _ (by omega)) (BS (by omega))),Ay,Aq hl (by omega)];have hx:=S3 n g b;rw [show evV (evF n g (λ_=>false) b) = .agg [iV (thF n g b),iV (plM n g b (thF n g b)),iV (g b).src,iV (loF n g b),iV 0] by rw [Cg hl]; rfl] at hx;rw [hx,Ep,AiL n g hl hn];have m1:=Ago (p:=obF g) hl hn;have m2:=Ago (p:=mbF g) hl hn;have m1:sel (ilt (ofNat (rN (obF g) n b)) (wr .i64 (Af (thF n g b) 1))) (wr .i64 (Af (thF n g b) 1)) (ofNat (rN (obF g) n b))=ofNat (rN (obF g) n (b+1)):=m1;have m2:sel (ilt (ofNat (rN (mbF g) n b)) (wr .i64 (Af (loF n g b) 1))) (wr .i64 (Af (loF n g b) 1)) (ofNat (rN (mbF g) n b))=ofNat (rN (mbF g) n (b+1)):=m2;rw [m1,m2];exact Aa5 L a n f hn g e (b+1) Aa q (by omega) (by omega)
def slW (w4 w11 w14 w145 w146:V) (u:Nat->V):List V:=(jsV 164 0 u [(4,w4),(11,w11),(14,w14),(145,w145),(146,w146)])
def Pp (n b:Nat) (g:Nat->E6) (j:Nat->V):List V:=(jsV 164 0 j [(4,.ptr 0 0),(11,nV n),(14,.ptr 2 0),(20,nV b),(145,nV n),(146,nV b),(147,bV (ilt (ofNat b) (ofNat n))),(148,nV b),(149,.ptr 2 1),(150,.ref 3),(151,nV b),(152,nV n),(153,iV (wr .i64 (Af (ofNat b) (ofNat n)))),(154,iV (wr .i64 (A5 (wr .i64 (Af (ofNat b) (ofNat n))) 1))),(155,nV n),(156,iV (Ag (wr .i64 (A5 (wr .i64 (Af (ofNat b) (ofNat n))) 1)) (ofNat n))),(157,.ept 3 6 (toN (Ag (wr .i64 (A5 (wr .i64 (Af (ofNat b) (ofNat n))) 1)) (ofNat n))) 0),(158,eV (g (toN (Ag (wr .i64 (A5 (wr .i64 (Af (ofNat b) (ofNat n))) 1)) (ofNat n))))),(159,bV (AJ (g (toN (Ag (wr .i64 (A5 (wr .i64 (Af (ofNat b) (ofNat n))) 1)) (ofNat n)))))),(160,nV b)])
theorem Adh (n b:Nat) (g:Nat->E6) (j:Nat->V):(jsV 164 0 j [(4,.ptr 0 0),(11,nV n),(14,.ptr 2 0),(20,nV b),(145,nV n),(146,nV b),(147,bV (ilt (ofNat b) (ofNat n))),(148,nV b),(149,.ptr 2 1),(150,.ref 3),(151,nV b),(152,nV n),(153,iV (wr .i64 (Af (ofNat b) (ofNat n)))),(154,iV (wr .i64 (A5 (wr .i64 (Af (ofNat b) (ofNat n))) 1))),(155,nV n),(156,iV (Ag (wr .i64 (A5 (wr .i64 (Af (ofNat b) (ofNat n))) 1)) (ofNat n))),(157,.ept 3 6 (toN (Ag (wr .i64 (A5 (wr .i64 (Af (ofNat b) (ofNat n))) 1)) (ofNat n))) 0),(158,eV (g (toN (Ag (wr .i64 (A5 (wr .i64 (Af (ofNat b) (ofNat n))) 1)) (ofNat n))))),(159,bV (AJ (g (toN (Ag (wr .i64 (A5 (wr .i64 (Af (ofNat b) (ofNat n))) 1)) (ofNat n)))))),(160,nV b)])=Pp n b g j:=rfl
theorem ZC (n b:Nat) (g:Nat->E6) (j:Nat->V) (F:V->V):(Pp n b g j).map F=slW (F (.ptr 0 0)) (F (nV n)) (F (.ptr 2 0)) (F (nV n)) (F (nV b)) (λi=>F (nth (Pp n b g j) i)):=by kernel_rfl
def hpD (a:Int) (n:Nat) (f:Nat->E6) (g:Nat->E6) (tt:Int) (b:Nat):List Blk:=[c7Z,.row 92 6 n (λi=>eV (AV n f i)),.cells [iV a,.ref 3,.ref 4,iV tt,iV (ofNat (kkN n g)),.ref 5,.jref 7],.row 92 6 n (λi=>eV (g i)),.row 80 5 n (λi=>evV (evF n g (dnF n g (B8 (mbF g) n) b 0) i)),.row 3 1 n (λi=>iV (rfF n g (dnF n g (B8 (mbF g) n) b 0) i)),.jag (Jag.mk 24 1 0 Aa 0 3 1 (λ_=>true) (λ_=>0) (λ_ _=>.und)),.jag (Jag.mk 24 1 (kkN n g) (λ_=>.nilS) 0 3 1 (λ_=>true) (lnP n g b 0) (λi k=>iV (coP n g b 0 i k)))]
theorem Zl (vs:List V) (st:St):Dy 88 vs st=K4 tab (AC Gl tb55 Js) Tryz.f88 vs st:=by kernel_rfl
theorem TE {τ:List Ty} {Γ:Cx} {fn:Func} {vs:List V} {st:St} {p:V×List Blk} {t:List V} (h:(Ak τ Γ fn vs (st.h++[.saved st.t])).sem=some p) (hp:p.2[st.h.length]? = some (.saved t)) :
  (K4 τ Γ fn vs st).sem=some (p.1,.all ⟨t,p.2.set st.h.length .dead⟩):=by
 unfold K4;rw [Cu,h];show (match p.2[st.h.length]? with | some (.saved t)=>T.leaf (p.1,Res.all ⟨t,p.2.set st.h.length .dead⟩) | _=>.fail).sem=_
 rw [hp];rfl
theorem Aj8 (a:Int) (n:Nat) (f:Nat->E6) (hn:n <= 16) (b:Nat) (g:Nat->E6) (tt:Int) (ts:List V) (hb:b<n) (hst:CQ (mbF g) n b=true):∃ F,GH F ∧
  (Dy 88 [.ptr 2 0,nV b] ⟨ts,hpD a n f g tt b⟩).sem=some (.tup [],.all ⟨ts.map F,(hpD a n f g tt (b+1))++[Blk.dead]⟩):=by
 obtain ⟨l1,l2,l3,l4⟩:=DY hb hst;have hL:=AL Js;have h1:∃ F,GH F∧(A3 (JQ (AW Js)) (Kx a n (kkN n g) b (λi=>AV n f i) g tt (λ_=>.nilS) (evF n g (dnF n g (B8 (mbF g) n) b 0)) (rfF n g (dnF n g (B8 (mbF g) n) b 0)) (lnP n g b 0) (coP n g b 0) ts) 17 (UP a n (kkN n g) b (λi=>AV n f i) g tt (λ_=>.nilS) (evF n g (dnF n g (B8 (mbF g) n) b 0)) (rfF n g (dnF n g (B8 (mbF g) n) b 0)) (lnP n g b 0) (coP n g b 0) ts 0 (loF n g b) (-1) 0 (evF n g (dnF n g (B8 (mbF g) n) b 0)) (rfF n g (dnF n g (B8 (mbF g) n) b 0)) (lnP n g b 0) (coP n g b 0) (Amy a n (kkN n g) b (λi=>AV n f i) g tt (λ_=>.nilS) (evF n g (dnF n g (B8 (mbF g) n) b 0)) (rfF n g (dnF n g (B8 (mbF g) n) b 0)) (lnP n g b 0) (coP n g b 0) ts))).sem=_ :=
  AkR (AW Js) a n b (λi=>AV n f i) g tt (λ_=>.nilS) (evF n g (dnF n g (B8 (mbF g) n) b 0)) (rfF n g (dnF n g (B8 (mbF g) n) b 0)) (lnP n g b 0) (coP n g b 0) ts hb hst (by omega) (Ck (mbF g) n b-1) 0 ts _ 17 (by omega) (by omega)
 obtain ⟨F,hF,h1⟩:=h1;refine ⟨F,hF,?_⟩;have hin:Al (ile 0 (ofNat b)) (ilt (ofNat b) (ofNat n))=true:=Ao hb;have hlc:(evF n g (dnF n g (B8 (mbF g) n) b 0) b).loc=loF n g b:=by rw [Cg hb]
 have hw:=Anq (AW Js) (isP (AW Js) 0 (XK a n (kkN n g) b (λi=>AV n f i) g tt (λ_=>.nilS) (evF n g (dnF n g (B8 (mbF g) n) b 0)) (rfF n g (dnF n g (B8 (mbF g) n) b 0)) (lnP n g b 0) (coP n g b 0) (ts.map F) 0 0 0 0 (evF n g (dnF n g (B8 (mbF g) n) (b+1) 0)) (rfF n g (dnF n g (B8 (mbF g) n) (b+1) 0)) (lnP n g (b+1) 0) (coP n g (b+1) 0))) a n (kkN n g) b (λi=>AV n f i) g tt (λ_=>.nilS) (evF n g (dnF n g (B8 (mbF g) n) b 0)) (rfF n g (dnF n g (B8 (mbF g) n) b 0)) (lnP n g b 0) (coP n g b 0) ts (ts.map F) 0 0 0 0 (evF n g (dnF n g (B8 (mbF g) n) (b+1) 0)) (rfF n g (dnF n g (B8 (mbF g) n) (b+1) 0)) (lnP n g (b+1) 0) (coP n g (b+1) 0) hin (decide_eq_true hb);rw [hlc] at hw;have hw:=hw (Au h1);have e:=Qw (τ:=tab) (G:=Gl) (fn:=Tryz.f88) (CLe.refl (Ap tb55)) (AA (k:=0) hL hL) _ hw;rw [Zl];exact TE (st:=⟨ts,hpD a n f g tt b⟩) (Γ:=AC Gl tb55 Js) e rfl
theorem Aa4 (L:LT) (a:Int) (n:Nat) (f:Nat->E6) (hn:n <= 16) (g:Nat->E6) (tt:Int) (hk:∃ k,k<n∧mbF g k=true):∀ (e b:Nat) (j:Nat->V) (q:Nat),n=b+e->e<q ->
  (A3 (Iz L) (J7 a n f) q (L1 a n f b (kkN n g) tt g (evF n g (dnF n g (B8 (mbF g) n) b 0)) (rfF n g (dnF n g (B8 (mbF g) n) b 0)) (lnP n g b 0) (coP n g b 0) j)).sem=some (IW a n f n (kkN n g) tt g (evF n g (dnF n g (B8 (mbF g) n) n 0)) (rfF n g (dnF n g (B8 (mbF g) n) n 0)) (lnP n g n 0) (coP n g n 0))
 | 0,b,j,q+1,h,_=>by
  have:n=b:=by omega
  subst this;rw [show Iz L=A7 tab ⟨Dy,L,Gl⟩ (Ar Tryz.f57 6) 6 from rfl];exact Ae (Alo L a n f n _ _ g _ _ _ _ j (A1 (Nat.le_refl _)))
 | e+1,b,j,q+1,h,h2=>by
  have hl:b<n:=by omega
  have hx:=Lh (a:=b) (n:=n) (by omega) (by omega);have hlt:(b+(n-1)) % n<n:=Nat.mod_lt _ (by omega);have hin:Al (ile 0 (Ag (wr .i64 (A5 (wr .i64 (Af (ofNat b) (ofNat n))) 1)) (ofNat n))) (ilt (Ag (wr .i64 (A5 (wr .i64 (Af (ofNat b) (ofNat n))) 1)) (ofNat n)) (ofNat n))=true:=by rw [hx]; exact Ao hlt
  have hnl:nlt (toN (Ag (wr .i64 (A5 (wr .i64 (Af (ofNat b) (ofNat n))) 1)) (ofNat n))) n=true:=by rw [hx]; exact decide_eq_true hlt
  have next:=λj=>Aa4 L a n f hn g tt hk e (b+1) j q (by omega) (by omega)
  cases hst:CQ (mbF g) n b with
  | false =>
   have hm:AJ (g (toN (Ag (wr .i64 (A5 (wr .i64 (Af (ofNat b) (ofNat n))) 1)) (ofNat n))))=false:=by rw [hx]; exact hst
   rw [show Iz L=A7 tab ⟨Dy,L,Gl⟩ (Ar Tryz.f57 6) 6 from rfl,Ae (Aln L a n f b (kkN n g) tt g (evF n g (dnF n g (B8 (mbF g) n) b 0)) (rfF n g (dnF n g (B8 (mbF g) n) b 0)) (lnP n g b 0) (coP n g b 0) j (ofNat_lt hl) (LQ (by omega)) hin hnl hm),Ay,Aq hl (by omega)];have hd:dnF n g (B8 (mbF g) n) b 0=dnF n g (B8 (mbF g) n) (b+1) 0:=by
    funext i;unfold dnF;by_cases hi:i<n
    ·rw [Za hi hk hst]
    ·rw [decide_eq_false hi]; rfl
   rw [hd,T1 hst,AcD (T1 hst)];exact next Aa
  | true =>
   have hm:AJ (g (toN (Ag (wr .i64 (A5 (wr .i64 (Af (ofNat b) (ofNat n))) 1)) (ofNat n))))=true:=by rw [hx]; exact hst
   obtain ⟨F,hF,hc⟩:=Aj8 a n f hn b g tt (Pp n b g j) hl hst;have hts:(Pp n b g j).map F=UW n b (λi=>F (nth (Pp n b g j) i)):=by
    have:(Pp n b g j).map F=slW (F (.ptr 0 0)) (F (nV n)) (F (.ptr 2 0)) (F (nV n)) (F (nV b)) (λi=>F (nth (Pp n b g j) i)):=ZC n b g j F;rw [this,hF.2 0 0 (by omega),hF.2 2 0 (by omega)];unfold nV iV;rw [hF.1,hF.1];rfl
   rw [hts] at hc;have hr:=λq55=>Alm Ael a n f b (kkN n g) tt g (evF n g (dnF n g (B8 (mbF g) n) b 0)) (rfF n g (dnF n g (B8 (mbF g) n) b 0)) (lnP n g b 0) (coP n g b 0) (λi=>F (nth (Pp n b g j) i)) (evF n g (dnF n g (B8 (mbF g) n) (b+1) 0)) (rfF n g (dnF n g (B8 (mbF g) n) (b+1) 0)) (lnP n g (b+1) 0) (coP n g (b+1) 0) q55 j (ofNat_lt hl) (LQ (by omega)) hin hnl hm;rw [Adh] at hr;have hr:=hr (isC Dy 88 (.tup [],.all ⟨UW n b (λi=>F (nth (Pp n b g j) i)),(hpD a n f g tt (b+1))++[Blk.dead]⟩)) (TC hc);have hr':=CB (f':=Iz L) (l:=J7 a n f) (LW (τ:=tab) (G:=Gl) (AaR (CLe.refl Dy)) (Xg L) (Ar Tryz.f57 6) 6 (L1 a n f b (kkN n g) tt g (evF n g (dnF n g (B8 (mbF g) n) b 0)) (rfF n g (dnF n g (B8 (mbF g) n) b 0)) (lnP n g b 0) (coP n g b 0) j)) hr;rw [Ae hr',Ay,Aq hl (by omega)];exact next Aa
def ttN (n:Nat) (g:Nat->E6):Nat:=An (obF g) n
def UX (a:Int) (n:Nat) (g:Nat->E6):V:=.agg [iV a,.ref 0,.ref 1,iV (ofNat (ttN n g)),iV (ofNat (kkN n g)),.ref 2,.jref 3]
def UY (n:Nat) (g:Nat->E6):List Blk:=[.row 92 6 n (λi=>eV (g i)),.row 80 5 n (λi=>evV (evF n g (λ_=>true) i)),.row 3 1 n (λi=>iV (rfF n g (λ_=>true) i)),
 .jag ⟨24,1,kkN n g,λ_=>.und,0,3,1,λ_=>true,lnN (mbF g) (wrF g) n,λk i=>iV (ofNat (coN (mbF g) (wrF g) n k i))⟩]
def noV:V:=.agg [iV 0,.ref 0,.ref 1,iV 0,iV 0,.ref 2,.jref 3]
def noH:List Blk:=[.row 92 6 0 Aa,.row 80 5 0 Aa,.row 3 1 0 Aa,.jag ⟨24,1,0,λ_=>.und,0,3,1,λ_=>true,λ_=>0,λ_ _=>.und⟩]
def ofT:List V->AR
 | [.val (.int .i64 a),v]=>apL v λn f=>.br (BF n) (.br (ieq (B6 a n f) 0) (.leaf (.tup [UX a n (shG n f),iV 0,iV 0],UY n (shG n f))) (.leaf (.tup [noV,iV (B6 a n f),iV (Da a n f)],noH))) .fail
 | _=>.fail
theorem QY {n i:Nat} {f:Nat->E6} (h:i<n):shG n f i=AV n f ((shQ n f+i) % n):=by
 unfold shG AmS;rw [decide_eq_true h];rfl
theorem Pw {a:Int} {n:Nat} {f g:Nat->E6} (h:IsCycle a n f) (he:∀ i,i<n->g i=f i):IsCycle a n g:=by
 have c1:∀ (p:E6->Bool) k,k <= n->An (λi=>p (g i)) k=An (λi=>p (f i)) k:=λp k hk=>GW λi hi=>by rw [he i (by omega)]
 have c2:∀ (p:E6->Bool) i,i<n->AG (λk=>p (g k)) n i=AG (λk=>p (f k)) n i:=λp i hi=>by
  rw [Fn hi,Fn hi];unfold AX;rw [c1 p i (by omega),c1 p n (Nat.le_refl _)]
 have hlo:=h.lo;refine ⟨h.arch,h.lo,h.hi,λi hi=>?_,λi hi=>?_,?_,?_,λi hi=>?_,λi hi=>?_⟩
 ·have:=h.legal i hi
  unfold Du at this ⊢;rw [he i hi];exact this
 ·have:=h.meets i hi
  unfold GF at this ⊢;rw [he i hi,he _ (Nat.mod_lt _ (by omega))];exact this
 ·rw [c1 AK n (Nat.le_refl _)]; exact h.outer
 ·rw [c1 AJ n (Nat.le_refl _)]; exact h.moves
 ·have:=h.writes i hi
  unfold Bd OT at this ⊢;have e:(λi=>isW (g i)) i=(λi=>isW (f i)) i:=by show isW (g i)=isW (f i); rw [he i hi]
  rw [e,c2 AJ i hi,GW (q:=C4 (AG (λk=>AJ (f k)) n) (λi=>isW (f i)) (AG (λk=>AJ (f k)) n i)) λk hk=>by
   unfold C4;rw [c2 AJ k hk];show Al _ (isW (g k))=Al _ (isW (f k));rw [he k hk]]
  exact this
 ·have:=h.crowd i hi
  unfold Bd OT at this ⊢;rw [c2 AK i hi,GW (q:=C4 (AG (λk=>AK (f k)) n) (λ_=>true) (AG (λk=>AK (f k)) n i)) λk hk=>by
   unfold C4;rw [c2 AK k hk]]
  exact this
theorem IZ {p:Nat->Bool}:∀ {n:Nat},0<An p n->∃ k,k<n∧p k=true
 | 0,h=>by simp [An] at h
 | n+1,h=>by
  cases hp:p n with
  | true=>exact ⟨n,Nat.lt_succ_self n,hp⟩
  | false =>rw [BU hp] at h;obtain ⟨k,h1,h2⟩:=IZ h;exact ⟨k,by omega,h2⟩
theorem Q2 {a:Int} {n:Nat} {f:Nat->E6} (h:IsCycle a n f):IsCycle a n (λi=>AV n f i):=by
 have h1:=Qj n (λi=>BJ (f i));have h2:=h.lo;exact h.turned (show CZ n (λi=>BJ (f i))<n by omega)
theorem QX {a:Int} {n:Nat} {f:Nat->E6} (h:IsCycle a n f):Eh (λi=>AK (AV n f i)) n<n∧AK (AV n f (Eh (λi=>AK (AV n f i)) n))=true∧(∀ i,i<Eh (λi=>AK (AV n f i)) n->AK (AV n f i)=false)∧shQ n f<n:=by
 have h2:=h.lo;have h3:=(Q2 h).outer;obtain ⟨k,h4,h5⟩:=IZ (p:=λi=>AK (AV n f i)) (n:=n) (by omega);obtain ⟨h6,h7,h8⟩:=DN (p:=λi=>AK (AV n f i)) h4 h5;exact ⟨by omega,h7,h8,Nat.mod_lt _ (by omega)⟩
theorem Fu {a:Int} {n:Nat} {f:Nat->E6} (h:IsCycle a n f):IsCycle a n (shG n f) :=
 Pw ((Q2 h).turned (QX h).2.2.2) λi hi=>QY hi
theorem Rk {p:Nat->Bool} {n:Nat} (h:2 <= An p n):rN p n n=An p n:=by
 have hn:0<n:=by
  rcases Nat.eq_zero_or_pos n with h0 | h0
  ·subst h0; simp [An] at h
  ·exact h0
 have h1:=AaJ p n (n-1) (by omega);rw [show n-1+1=n by omega] at h1;rw [h1];have h2:=Mc p (n-1);rw [show n-1+1=n by omega] at h2;split <;> omega
theorem Tx {Γ:Cx} {zs:List (Nat×List (Nat×V))} {loops:List (Nat×Lp)} (h:Γ.loop=Cb zs loops):BQ Γ:=λid f st r hr=>by
 rw [h] at hr;have by':∀ st,(AW loops id f st).sem=some r->∃ l m,(A3 f l m st).sem=some r:=λst hr=>by
  unfold AW at hr;split at hr
  ·exact ⟨_,_,hr⟩
  ·cases hr
 unfold Cb at hr;split at hr
 ·obtain ⟨l,m,h1⟩:=by' _ hr
  exact .weak (Nx _ _) (Es h1)
 ·obtain ⟨l,m,h1⟩:=by' _ hr
  exact Es h1
def AjK:List (Nat×List (Nat×V)):=[(2,[(3,eV zE)]),(4,[(4,evV ⟨0,0,0,0,0⟩),(5,iV (-1))]),(6,[(7,iV 0)])]
def Agq (a:Int) (n:Nat) (f:Nat->E6):List (Nat×Lp):=[(0,Abj a n f),(2,Oo a n f),(4,On a n f),(6,J7 a n f)]
noncomputable def Zf (a:Int) (n:Nat) (f:Nat->E6):Cx:=⟨Dy,Cb AjK (Agq a n f),Gl⟩
theorem AbT (a:Int) (n:Nat) (f:Nat->E6) (z:Nat) (j:Nat->V):CE (L2 a n f z 0 Aa j) [(3,eV zE)]=L2 a n f z 0 (λ_=>eV zE) j:=by kernel_rfl
theorem AbS (a:Int) (n:Nat) (f:Nat->E6) (z:Nat) (g:Nat->E6):CE (RY a n f z g) [(4,evV ⟨0,0,0,0,0⟩),(5,iV (-1))]=QU a n f 0 0 0 0 g (thF n g) (loF n g) (λ_=>-1) (λ_=>evV ⟨0,0,0,0,0⟩) (λ_=>0) (λi=>nth (RY a n f z g).t i):=by kernel_rfl
theorem AbR (a:Int) (n:Nat) (f:Nat->E6) (q m kk:Nat) (tt:Int) (g:Nat->E6) (th lo r:Nat->Int) (x:Nat->Ev5) (pl:Int->Int):CE (RX a n f q m kk tt g th lo r x pl) [(7,iV 0)]=L1 a n f 0 kk tt g x r (λ_=>0) (λ_ _=>0) (λi=>nth (RX a n f q m kk tt g th lo r x pl).t i):=by kernel_rfl
theorem Ak0 (G:Nat->E6):upE 0 G=λ_=>zE:=by funext i; simp [upE]
theorem AfF (n:Nat) (g:Nat->E6):upX n g 0=λ_=>⟨0,0,0,0,0⟩:=by funext i; simp [upX]
theorem Amb (n:Nat) (g:Nat->E6):plM n g 0=λ_=>0:=rfl
theorem Acy (n:Nat) (g:Nat->E6):dnF n g (B8 (mbF g) n) 0 0=λ_=>false:=by
 funext j;unfold dnF;rw [Acx];simp
theorem W9 (n:Nat) (g:Nat->E6):upX n g n=evF n g (dnF n g (B8 (mbF g) n) 0 0):=by
 rw [Acy];funext i;unfold upX;by_cases hi:i<n
 ·rw [decide_eq_true hi]; rfl
 ·rw [decide_eq_false hi]
  unfold evF;rw [decide_eq_false hi];rfl
theorem Al2 (n:Nat) (g:Nat->E6):rfF n g (dnF n g (B8 (mbF g) n) 0 0)=λ_=>-1:=by
 rw [Acy];rfl
def AlZ (n:Nat) (g:Nat->E6):List Blk:=[.row 92 6 n (λi=>eV (g i)),.row 80 5 n (λi=>evV (evF n g (dnF n g (B8 (mbF g) n) n 0) i)),.row 3 1 n (λi=>iV (rfF n g (dnF n g (B8 (mbF g) n) n 0) i)),
 .jag ⟨24,1,kkN n g,λ_=>.nilS,0,3,1,λ_=>true,lnP n g n 0,λk i=>iV (coP n g n 0 k i)⟩]
theorem AiC {n:Nat} {g:Nat->E6} (hk:0<kkN n g):Aw (AlZ n g) (UY n g):=by
 have hn:0<n:=by
  rcases Nat.eq_zero_or_pos n with h0 | h0
  ·subst h0; simp [kkN,An] at hk
  ·exact h0
 obtain ⟨k0,hk0,hm⟩:=IZ hk;have hd:∀ i,i<n->dnF n g (B8 (mbF g) n) n 0 i=true:=λi hi=>by
  unfold dnF;rw [decide_eq_true hi,Uk]
  ·rfl
  ·exact G0 hn
 refine .cons (λ_ _=>rfl) (.cons (λi hi=>?_) (.cons (λi hi=>?_) (.consB (.jag (λ_ _=>.inr rfl) (λ_ _=>rfl) (λk hk'=>?_) (λk hk' q hq=>?_)) (.refl []))))
 ·rw [Cg hi,Cg hi,hd i hi]
 ·unfold rfF
  rw [hd i hi]
 ·have hk':k<kkN n g:=hk'
  have:=(GJ hk').1;show lnN _ _ n k=lnP n g n 0 k;unfold lnP;rw [if_pos hk',if_pos this]
 ·have hk':k<kkN n g:=hk'
  have hq:q<lnP n g n 0 k:=hq;show iV _=iV _;unfold coP;rw [if_pos hq]
theorem Ahz {a:Int} {n:Nat} {f:Nat->E6} (h8:BF n=true) (hc:ieq (B6 a n f) 0=true) :
  (Az (Ak tab (Zf a n f) Tryz.f57 [iV a,AQ n f] [])).sem=some (.tup [UX a n (shG n f),iV 0,iV 0],AlZ n (shG n f)):=by
 have hy:=Et hc;have hlo:=hy.lo;have hhi:=hy.hi;have hL:=DO AjK (Agq a n f);obtain ⟨z1,z2,z3,z4⟩:=QX hy;have hg:=Fu hy;have hko:rN (obF (shG n f)) n n=ttN n (shG n f):=Rk hg.outer;have hkm:rN (mbF (shG n f)) n n=kkN n (shG n f):=Rk hg.moves;have hkl:kkN n (shG n f) <= n:=Be _ _;have c1:Al (ilt 0 (ofNat n)) (Al (Ea n) (DA 8 (ofNat n) (ofNat n)))=true:=by
  unfold Al ilt Ea DA;simp only [Int.ofNat_eq_natCast,Bool.and_eq_true,decide_eq_true_eq];omega
 have c2:DA 24 (ofNat (kkN n (shG n f))) (ofNat (kkN n (shG n f)))=true:=by
  unfold DA;simp only [Int.ofNat_eq_natCast,Bool.and_eq_true,decide_eq_true_eq];omega
 have hm:∃ k,k<n∧mbF (shG n f) k=true:=IZ (p:=mbF (shG n f)) (by have:=hg.moves; show 0<An (λk=>AJ (shG n f k)) n; omega);unfold Zf;refine AH (AA (AA (AA (AA hL hL) hL) hL) hL) _ (AnJ _ _ _ _ _ a n f (shQ n f) n (kkN n (shG n f)) (ofNat (ttN n (shG n f))) (shG n f) (thF n (shG n f)) (loF n (shG n f)) (λ_=>-1) (upX n (shG n f) n) (plM n (shG n f) n)
  (evF n (shG n f) (dnF n (shG n f) (B8 (mbF (shG n f)) n) n 0)) (rfF n (shG n f) (dnF n (shG n f) (B8 (mbF (shG n f)) n) n 0)) (lnP n (shG n f) n 0) (coP n (shG n f) n 0) h8 hc hy.may c1 ED c2 (Au ?_) (Au ?_) (Au ?_) (Au ?_))
 ·show (A3 _ (Abj a n f) (n+1) _).sem=_
  exact AfZ _ a n f (by omega) _ z1 z2 z3 _ 0 _ (n+1) (Nat.zero_add _).symm (by omega)
 ·show (A3 _ (Oo a n f) (n+1) (CE _ [(3,eV zE)])).sem=_
  rw [AbT];have h:=λL j=>Aa6 L a n f hhi (shQ n f) z4 n 0 j (n+1) (by omega) (by omega);rw [Ak0] at h;exact h _ _
 ·show (A3 _ (On a n f) (n+1) (CE _ [(4,evV ⟨0,0,0,0,0⟩),(5,iV (-1))])).sem=_
  rw [AbS];have h:=λL j=>Aa5 L a n f hhi (shG n f) n 0 j (n+1) (by omega) (by omega);rw [AfF,Amb,hko,hkm] at h;exact h _ _
 ·show (A3 _ (J7 a n f) (n+1) (CE _ [(7,iV 0)])).sem=_
  rw [AbR];have h:=λL j=>Aa4 L a n f hhi (shG n f) (ofNat (ttN n (shG n f))) hm n 0 j (n+1) (by omega) (by omega);rw [<- W9,Al2,Agu,AmZ] at h;exact h _ _
theorem p14:Ax Tryz.prog Gl 57 ofT:=by
 refine Am A8 mixed Tryz.func57 (by kernel_rfl) (by kernel_rfl) λvs v h' h=>?_;unfold ofT at h;split at h
 ·rename_i a u
  obtain ⟨n,f,ha,h1⟩:=Cl h;obtain ⟨h8,hq⟩:=Ad h1;have hA:Bf [iV a,u] [iV a,AQ n f]:=λS w cs hv=>by
   obtain ⟨c,l,rfl,q1,d,l',rfl,q2,q3⟩:=hv;exact ⟨c,_,rfl,q1,d,l',rfl,ha S w d q2,q3⟩
  have hx:Bo Tryz.prog (Zf a n f).base∧BQ (Zf a n f):=⟨Zk,Tx rfl⟩;cases hc:ieq (B6 a n f) 0 with
  | true =>rw [hc] at hq;have:=Ac hq;simp only [Prod.mk.injEq] at this;obtain ⟨rfl,rfl⟩:=this;have hg:=Fu (Et hc);have hm:=hg.moves;exact ⟨_,Zf a n f,_,hA,rfl,hx.1,hx.2,Ahz h8 hc,AiC (by show 0<An (λk=>AJ (shG n f k)) n; omega)⟩
  | false =>rw [hc] at hq;have:=Ac hq;simp only [Prod.mk.injEq] at this;obtain ⟨rfl,rfl⟩:=this;exact ⟨_,Zf a n f,_,hA,rfl,hx.1,hx.2,Ab (ks:=[kL n,kn h8,kN (kn hc)]) (by kernel_rfl),Aw.refl _⟩
 ·cases h
theorem SR {a:Int} {n:Nat} {f:Nat->E6} (h:IsCycle a n f):obF (shG n f) (n-1)=true:=by
 obtain ⟨h1,h2,h3,h4⟩:=QX h;have hlo:=h.lo;unfold obF;rw [QY (by omega)];have:(shQ n f+(n-1)) % n=Eh (λi=>AK (AV n f i)) n:=by
  unfold shQ;rw [Nat.mod_add_mod,show Eh (λi=>AK (AV n f i)) n+1+(n-1)=Eh (λi=>AK (AV n f i)) n+n by omega,Nat.add_mod_right,Nat.mod_eq_of_lt h1]
 rw [this];exact h2
end Go.Proofs.YtkgdhhieomndeaaGreatDoor.Sh
