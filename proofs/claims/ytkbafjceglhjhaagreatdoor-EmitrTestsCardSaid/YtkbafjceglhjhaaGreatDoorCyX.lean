/-
  Layer 12: a shape's condition, on both sides. No conditions.
-/
import Derived.Test.YtkbafjceglhjhaaGreatDoorEtA
import Derived.Test.YtkbafjceglhjhaaGreatDoorShL
import Derived.Test.YtkbafjceglhjhaaGreatDoorErW
namespace Go.Proofs.YtkbafjceglhjhaaGreatDoor.Er
open Go.Sy Go Go.Proofs.YtkbafjceglhjhaaGreatDoor.Ed Go.Proofs.YtkbafjceglhjhaaGreatDoor.Sh Go.Proofs.YtkbafjceglhjhaaGreatDoor.Em
open Int (ofNat)
set_option maxRecDepth 100000
set_option maxHeartbeats 1000000
def gT (l:List (Tg×Int)) (i:Nat):Tg:=(l.getD i (⟨0,0,[]⟩,0)).1
def gW (l:List (Tg×Int)) (i:Nat):Int:=(l.getD i (⟨0,0,[]⟩,0)).2
theorem Aa4 {α:Type} (l:List α) (e d:α) (i:Nat):(l++[e]).getD i d=if i=l.length then e else l.getD i d:=by
 simp only [List.getD];by_cases h:i<l.length
 ·rw [List.getElem?_append_left h,if_neg (by omega)]
 ·by_cases h2:i=l.length
  ·subst h2; simp
  ·rw [List.getElem?_append_right (by omega),if_neg h2,List.getElem?_eq_none (by simp; omega),List.getElem?_eq_none (by omega)]
theorem Acm {γ:Type} (l:List (Tg×Int)) (e:Tg×Int) (q:Tg×Int->γ) (w:γ->V):AD l.length (λi=>w (q (l.getD i (⟨0,0,[]⟩,0)))) (w (q e))=λi=>w (q ((l++[e]).getD i (⟨0,0,[]⟩,0))):=by
 funext i;rw [Br,Aa4];by_cases h:i=l.length
 ·subst h; simp
 ·rw [if_neg h]
  cases hb:Nat.beq i l.length with
  | true=>exact absurd (Nat.eq_of_beq_eq_true hb) h
  | false=>rfl
def bT (l:List (Tg×Int)):Blk:=.row 43 3 l.length λk=>tgV (gT l k)
def bW (l:List (Tg×Int)):Blk:=.row 3 1 l.length λk=>iV (gW l k)
theorem NP (l:List (Tg×Int)) (e:Tg×Int):Blk.row 43 3 (AE l.length 1) (AD l.length (λk=>tgV (gT l k)) (tgV e.1))=bT (l++[e]):=by
 unfold bT;rw [List.length_append];exact congrArg (Blk.row 43 3 _) (Acm l e (·.1) tgV)
theorem NN (l:List (Tg×Int)) (e:Tg×Int):Blk.row 3 1 (AE l.length 1) (AD l.length (λk=>iV (gW l k)) (iV e.2))=bW (l++[e]):=by
 unfold bW;rw [List.length_append];exact congrArg (Blk.row 3 1 _) (Acm l e (·.2) iV)
theorem aT {m:Nat} (h:m <= 2046):Bs m 1 32=true:=decide_eq_true (by omega)
theorem aW {m:Nat} (h:m <= 2046):Bs m 1 8=true:=decide_eq_true (by omega)
def evL (x:Nat->Ev5) (rg:Nat->Int):Nat->List (Tg×Int)
 | 0=>[]
 | i+1=>bif ieq (x i).dir 1 then evL x rg i++[(⟨(x i).th,rg i,[]⟩,(x i).val)] else evL x rg i
def loL (l:List (Tg×Int)) (ln s1:Nat->Nat):Nat->List (Tg×Int)
 | 0=>l
 | b+1=>loL l ln s1 b++[(⟨-1,0,Cb (ofNat (s1 b))⟩,ofNat (ln (s1 b)))]
def coG (l:List (Tg×Int)) (ln:Nat->Nat):Nat->List (Tg×Int)
 | 0=>l
 | k+1=>bif ieq (ofNat (ln k)) 2 then coG l ln k++[(⟨-1,0,Cb (ofNat k)⟩,2)] else coG l ln k
def RL (s:Sh7) (k:Nat):Bool:=ieq (ofNat (s.C k).1) 2
def Mi (s:Sh7):Nat:=Ak (λk=>ieq (ofNat (s.C k).1) 2) s.nc
def Gu (s:Sh7) (k:Nat):Nat:=Wu (λk=>ieq (ofNat (s.C k).1) 2) s.nc k
def lnS (s:Sh7) (k:Nat):Nat:=(s.C k).1
theorem Ajz (l:List (Tg×Int)) (s:Sh7):∀ k,k <= s.nc->coG l (lnS s) k=loL l (lnS s) (Gu s) (Ak (RL s) k)
 | 0,_=>rfl
 | k+1,h=>by
  have ih:=Ajz l s k (by omega);cases hp:RL s k with
  | true =>
   have hs:Gu s (Ak (RL s) k)=k:=Sc (P:=RL s) (by omega) hp;have h2:ofNat (lnS s k)=2:=by simpa [RL,ieq,lnS] using hp
   rw [coG,show ieq (ofNat (lnS s k)) 2=true from hp,cond_true,By hp,loL,ih,hs,h2]
  | false =>rw [coG,show ieq (ofNat (lnS s k)) 2=false from hp,cond_false,BQ hp,ih]
theorem M9 (x:Nat->Ev5) (rg:Nat->Int):∀ i,(evL x rg i).length <= i
 | 0=>Nat.le_refl _
 | i+1=>by
  have:=M9 x rg i;rw [evL];cases ieq (x i).dir 1 with
  | true=>show (_++[_]).length <= _; rw [List.length_append]; simp only [List.length_cons,List.length_nil]; omega
  | false=>show (evL x rg i).length <= _; omega
theorem SN (l:List (Tg×Int)) (ln s1:Nat->Nat):∀ b,(loL l ln s1 b).length=l.length+b
 | 0=>rfl
 | b+1=>by rw [loL,List.length_append,SN l ln s1 b]; rfl
theorem Ae0 (l:List (Tg×Int)) (ln:Nat->Nat):∀ b,(coG l ln b).length <= l.length+b
 | 0=>Nat.le_refl _
 | b+1=>by
  have:=Ae0 l ln b;rw [coG];cases ieq (ofNat (ln b)) 2 with
  | true=>show (_++[_]).length <= _; rw [List.length_append]; simp only [List.length_cons,List.length_nil]; omega
  | false=>show (coG l ln b).length <= _; omega
def evA (s:Sh7) (rg:Nat->Int):List (Tg×Int):=evL s.X rg s.nx
def axR (s:Sh7) (rg:Nat->Int):List (Tg×Int):=loL (evA s rg) (lnS s) (Gu s) (Mi s)
section
variable (s:Sh7)
def T53 (s:Sh7) (z:Nat) (rg:Nat->Int) (c:Int) (b1 b2:Blk):St:=⟨jsV 78 0 Aa [(1,.sl 1 z (λk=>iV (rg k))),(2,.ptr 0 0),(4,.ptr 1 0),(5,.ref 2),(6,.ref 3),(7,iV c)],[.cells [iV s.arch,.sl 6 s.ne (λi=>eV (s.E i)),.sl 5 s.nx (λi=>evV (s.X i)),iV s.tt,iV s.kk,.sl 1 s.nr (λi=>iV (s.R i)),.sl 1 s.nc (λu=>.sl 1 (s.C u).1 (λi=>iV ((s.C u).2 i)))],.cells [iV 0,iV 0,iV 0,iV 0,.str [],iV 0,.nilS],b1,b2]⟩
def X53 (s:Sh7) (b1 b2:Blk):Ex×St:=(.ex 0,⟨jsV 78 0 Aa [(2,.ptr 0 0),(4,.ptr 1 0),(5,.ref 2),(6,.ref 3)],[.cells [iV s.arch,.sl 6 s.ne (λi=>eV (s.E i)),.sl 5 s.nx (λi=>evV (s.X i)),iV s.tt,iV s.kk,.sl 1 s.nr (λi=>iV (s.R i)),.sl 1 s.nc (λu=>.sl 1 (s.C u).1 (λi=>iV ((s.C u).2 i)))],.cells [iV 0,iV 0,iV 0,iV 0,.str [],iV 0,.nilS],b1,b2]⟩)
def VO (s:Sh7) (c:Int) (b1 b2:Blk):St:=⟨jsV 78 0 Aa [(2,.ptr 0 0),(4,.ptr 1 0),(5,.ref 2),(6,.ref 3),(8,iV c)],[.cells [iV s.arch,.sl 6 s.ne (λi=>eV (s.E i)),.sl 5 s.nx (λi=>evV (s.X i)),iV s.tt,iV s.kk,.sl 1 s.nr (λi=>iV (s.R i)),.sl 1 s.nc (λu=>.sl 1 (s.C u).1 (λi=>iV ((s.C u).2 i)))],.cells [iV 0,iV 0,iV 0,iV 0,.str [],iV 0,.nilS],b1,b2]⟩
def Ate (s:Sh7) (b1 b2:Blk):Ex×St:=(.ex 2,⟨jsV 78 0 Aa [(4,.ptr 1 0),(5,.ref 2),(6,.ref 3)],[.cells [iV s.arch,.sl 6 s.ne (λi=>eV (s.E i)),.sl 5 s.nx (λi=>evV (s.X i)),iV s.tt,iV s.kk,.sl 1 s.nr (λi=>iV (s.R i)),.sl 1 s.nc (λu=>.sl 1 (s.C u).1 (λi=>iV ((s.C u).2 i)))],.cells [iV 0,iV 0,iV 0,iV 0,.str [],iV 0,.nilS],b1,b2]⟩)
def T47 (s:Sh7) (c:Int) (b1 b2:Blk):St:=⟨jsV 92 0 Aa [(1,.ptr 0 0),(2,.ptr 1 0),(3,.ref 2),(5,.ref 3),(6,.ref 4),(25,.sl 5 s.nx (λk=>evV (s.X k))),(26,iV (ofNat s.nx)),(27,iV c)],[.cells [iV s.arch,.sl 6 s.ne (λi=>eV (s.E i)),.sl 5 s.nx (λi=>evV (s.X i)),iV s.tt,iV s.kk,.sl 1 s.nr (λi=>iV (s.R i)),.sl 1 s.nc (λu=>.sl 1 (s.C u).1 (λi=>iV ((s.C u).2 i)))],.cells [iV 0,iV 0,iV 0,iV 0,.str [],iV 0,.nilS],.row 3 1 s.nx (λk=>iV (rg9 s k)),b1,b2]⟩
def X47 (s:Sh7) (b1 b2:Blk):Ex×St:=(.ex 0,⟨jsV 92 0 Aa [(1,.ptr 0 0),(2,.ptr 1 0),(5,.ref 3),(6,.ref 4)],[.cells [iV s.arch,.sl 6 s.ne (λi=>eV (s.E i)),.sl 5 s.nx (λi=>evV (s.X i)),iV s.tt,iV s.kk,.sl 1 s.nr (λi=>iV (s.R i)),.sl 1 s.nc (λu=>.sl 1 (s.C u).1 (λi=>iV ((s.C u).2 i)))],.cells [iV 0,iV 0,iV 0,iV 0,.str [],iV 0,.nilS],.row 3 1 s.nx (λk=>iV (rg9 s k)),b1,b2]⟩)
def AeP (s:Sh7) (c:Int) (b1 b2:Blk):St:=⟨jsV 92 0 Aa [(2,.ptr 1 0),(5,.ref 3),(6,.ref 4),(9,.ref 5),(61,.ref 6),(62,iV (ofNat (Mi s))),(63,iV c)],[.cells [iV s.arch,.sl 6 s.ne (λi=>eV (s.E i)),.sl 5 s.nx (λi=>evV (s.X i)),iV s.tt,iV s.kk,.sl 1 s.nr (λi=>iV (s.R i)),.sl 1 s.nc (λu=>.sl 1 (s.C u).1 (λi=>iV ((s.C u).2 i)))],.cells [iV 0,iV 0,iV 0,iV 0,.str [],iV 0,.nilS],.row 3 1 s.nx (λk=>iV (rg9 s k)),b1,b2,.row 3 1 s.nc (λk=>iV (ofNat (s.C k).1)),.row 3 1 (Mi s) (λk=>iV (ofNat (Gu s k)))]⟩
def Atf (s:Sh7) (b1 b2:Blk):Ex×St:=(.ex 2,⟨jsV 92 0 Aa [(2,.ptr 1 0),(5,.ref 3),(6,.ref 4)],[.cells [iV s.arch,.sl 6 s.ne (λi=>eV (s.E i)),.sl 5 s.nx (λi=>evV (s.X i)),iV s.tt,iV s.kk,.sl 1 s.nr (λi=>iV (s.R i)),.sl 1 s.nc (λu=>.sl 1 (s.C u).1 (λi=>iV ((s.C u).2 i)))],.cells [iV 0,iV 0,iV 0,iV 0,.str [],iV 0,.nilS],.row 3 1 s.nx (λk=>iV (rg9 s k)),b1,b2,.row 3 1 s.nc (λk=>iV (ofNat (s.C k).1)),.row 3 1 (Mi s) (λk=>iV (ofNat (Gu s k)))]⟩)
end
def lp53:Lp:=⟨bmK 78 0 [1,2,4,5,6,7],4,bmK 78 0 [2,4,5,6],4,4611686018427387905⟩
def Y3:Lp:=⟨bmK 78 0 [2,4,5,6,8],4,bmK 78 0 [4,5,6],4,4611686018427387905⟩
def lp47:Lp:=⟨bmK 92 0 [1,2,3,5,6,25,26,27],5,bmK 92 0 [1,2,5,6],5,4611686018427387905⟩
def AcP:Lp:=⟨bmK 92 0 [2,5,6,9,61,62,63],7,bmK 92 0 [2,5,6],7,4611686018427387905⟩
def ls53:List (Nat×Lp×List (Nat×(Nat->V))):=[(0,lp53,[(2,λk=>tgV (gT [] k)),(3,λk=>iV (gW [] k))]),(2,Y3,[])]
def WX:List (Nat×Lp×List (Nat×(Nat->V))):=[(0,lp47,[(3,λk=>tgV (gT [] k)),(4,λk=>iV (gW [] k))]),(2,AcP,[])]
noncomputable def tb53:A7:=(81,Em.allT)::(41,Ac7)::[]
theorem tb53_ok:Ao Tryz.prog Gl tb53:=.cons ArO <| .cons AlK .nil
noncomputable def tb47:A7:=(71,Em.allT)::(39,SL)::(11,shT rgC)::(69,Ad0)::(70,XH)::[]
theorem tb47_ok:Ao Tryz.prog Gl tb47:=.cons Em.p46 <| .cons Sh.p37 <| .cons p11 <| .cons Sh.p27 <| .cons Sh.p34 .nil
noncomputable def B53 (id:Nat) (L:LT):St->T (Ex×St):=λst=>AA tab ⟨Aw tb53,L,Gl⟩ (As Tryz.f53 id) id st
noncomputable def B47 (id:Nat) (L:LT):St->T (Ex×St):=λst=>AA tab ⟨Aw tb47,L,Gl⟩ (As Tryz.f47 id) id st
theorem Am1 {x:Nat->Ev5} {rg:Nat->Int} {i:Nat} (h:ieq (x i).dir 1=true):evL x rg (i+1)=evL x rg i++[(⟨(x i).th,rg i,[]⟩,(x i).val)]:=by rw [evL,h]; rfl
theorem Am2 {x:Nat->Ev5} {rg:Nat->Int} {i:Nat} (h:ieq (x i).dir 1=false):evL x rg (i+1)=evL x rg i:=by rw [evL,h]; rfl
theorem AsV {l:List (Tg×Int)} {ln:Nat->Nat} {i:Nat} (h:ieq (ofNat (ln i)) 2=true):coG l ln (i+1)=coG l ln i++[(⟨-1,0,Cb (ofNat i)⟩,2)]:=by rw [coG,h]; rfl
theorem AsW {l:List (Tg×Int)} {ln:Nat->Nat} {i:Nat} (h:ieq (ofNat (ln i)) 2=false):coG l ln (i+1)=coG l ln i:=by rw [coG,h]; rfl
theorem ArH {s:Sh7} {z:Nat} {rg:Nat->Int} {i:Nat} {l:List (Tg×Int)} (hi:i<s.nx) (hb:i <= 1023) (hz:s.nx <= z) (hl:l.length <= 2046) (hd:ieq (s.X i).dir 1=true):Au (B53 0 (Go.Sy.askL ls53)) lp53 (T53 s z rg (ofNat i) (bT l) (bW l))=some (.nm,T53 s z rg (ofNat (i+1)) (bT (l++[(⟨(s.X i).th,rg i,[]⟩,(s.X i).val)])) (bW (l++[(⟨(s.X i).th,rg i,[]⟩,(s.X i).val)]))) :=
 DW.rd (.k (ofNat_lt hi) <| .k (Ad hi) <| .k hd <| .k (Ad hi) <| .k (Ad (Nat.lt_of_lt_of_le hi hz)) <| .k (aT hl) <| .k (Ad hi) <| .k (aW hl) <| .e (nm3 (f:=T53 s z rg) (D6 (by omega)) (NP l (⟨(s.X i).th,rg i,[]⟩,(s.X i).val)) (NN l (⟨(s.X i).th,rg i,[]⟩,(s.X i).val)))) (by kernel_rfl)
theorem ArI {s:Sh7} {z:Nat} {rg:Nat->Int} {i:Nat} {l:List (Tg×Int)} (hi:i<s.nx) (hb:i <= 1023) (hz:s.nx <= z) (hd:ieq (s.X i).dir 1=false):Au (B53 0 (Go.Sy.askL ls53)) lp53 (T53 s z rg (ofNat i) (bT l) (bW l))=some (.nm,T53 s z rg (ofNat (i+1)) (bT l) (bW l)) :=
 DW.rd (.k (ofNat_lt hi) <| .k (Ad hi) <| .k hd <| .e (nm3 (f:=T53 s z rg) (D6 (by omega)) rfl rfl)) (by kernel_rfl)
theorem Apc {s:Sh7} {i:Nat} {l:List (Tg×Int)} (hi:i<s.nc) (hb:i <= 1023) (hl:l.length <= 2046) (hd:ieq (ofNat (s.C i).1) 2=true):Au (B53 2 (Go.Sy.askL ls53)) Y3 (VO s (ofNat i) (bT l) (bW l))=some (.nm,VO s (ofNat (i+1)) (bT (l++[(⟨-1,0,Cb (ofNat i)⟩,2)])) (bW (l++[(⟨-1,0,Cb (ofNat i)⟩,2)]))) :=
 DW.rd (.k (ofNat_lt hi) <| .k (Ad hi) <| .k hd <| .k (aT hl) <| .k (aW hl) <| .e (nm3 (f:=VO s) (D6 (by omega)) (NP l (⟨-1,0,Cb (ofNat i)⟩,2)) (NN l (⟨-1,0,Cb (ofNat i)⟩,2)))) (by kernel_rfl)
theorem Apd {s:Sh7} {i:Nat} {l:List (Tg×Int)} (hi:i<s.nc) (hb:i <= 1023) (hd:ieq (ofNat (s.C i).1) 2=false):Au (B53 2 (Go.Sy.askL ls53)) Y3 (VO s (ofNat i) (bT l) (bW l))=some (.nm,VO s (ofNat (i+1)) (bT l) (bW l)) :=
 DW.rd (.k (ofNat_lt hi) <| .k (Ad hi) <| .k hd <| .e (nm3 (f:=VO s) (D6 (by omega)) rfl rfl)) (by kernel_rfl)
theorem ArJ {s:Sh7} {i:Nat} {l:List (Tg×Int)} (hi:i<s.nx) (hb:i <= 1023) (hl:l.length <= 2046) (hd:ieq (s.X i).dir 1=true):Au (B47 0 (Go.Sy.askL WX)) lp47 (T47 s (ofNat i) (bT l) (bW l))=some (.nm,T47 s (ofNat (i+1)) (bT (l++[(⟨(s.X i).th,rg9 s i,[]⟩,(s.X i).val)])) (bW (l++[(⟨(s.X i).th,rg9 s i,[]⟩,(s.X i).val)]))) :=
 DW.rd (.k (ofNat_lt hi) <| .k (Ad hi) <| .k hd <| .k (Ad hi) <| .k (decide_eq_true hi) <| .k (aT hl) <| .k (aW hl) <| .e (nm3 (f:=T47 s) (D6 (by omega)) (NP l (⟨(s.X i).th,rg9 s i,[]⟩,(s.X i).val)) (NN l (⟨(s.X i).th,rg9 s i,[]⟩,(s.X i).val)))) (by kernel_rfl)
theorem ArL {s:Sh7} {i:Nat} {l:List (Tg×Int)} (hi:i<s.nx) (hb:i <= 1023) (hd:ieq (s.X i).dir 1=false):Au (B47 0 (Go.Sy.askL WX)) lp47 (T47 s (ofNat i) (bT l) (bW l))=some (.nm,T47 s (ofNat (i+1)) (bT l) (bW l)) :=
 DW.rd (.k (ofNat_lt hi) <| .k (Ad hi) <| .k hd <| .e (nm3 (f:=T47 s) (D6 (by omega)) rfl rfl)) (by kernel_rfl)
theorem ArK {s:Sh7} {i:Nat} {l:List (Tg×Int)} (hi:i<Mi s) (hb:i <= 1023) (hx:Gu s i<s.nc) (hl:l.length <= 2046):Au (B47 2 (Go.Sy.askL WX)) AcP (AeP s (ofNat i) (bT l) (bW l))=some (.nm,AeP s (ofNat (i+1)) (bT (l++[(⟨-1,0,Cb (ofNat (Gu s i))⟩,ofNat (s.C (Gu s i)).1)])) (bW (l++[(⟨-1,0,Cb (ofNat (Gu s i))⟩,ofNat (s.C (Gu s i)).1)]))) :=
 DW.rd (.k (ofNat_lt hi) <| .k (Ad hi) <| .k (decide_eq_true hi) <| .k (aT hl) <| .k (Ad hx) <| .k (decide_eq_true hx) <| .k (aW hl) <| .e (nm3 (f:=AeP s) (D6 (by omega)) (NP l (⟨-1,0,Cb (ofNat (Gu s i))⟩,ofNat (s.C (Gu s i)).1)) (NN l (⟨-1,0,Cb (ofNat (Gu s i))⟩,ofNat (s.C (Gu s i)).1)))) (by kernel_rfl)
theorem r53 {s:Sh7} {z:Nat} {rg:Nat->Int} (hm:s.nx <= 1023) (hz:s.nx <= z):(Av (B53 0 (Go.Sy.askL ls53)) lp53 4611686018427387905 (T53 s z rg 0 (bT []) (bW []))).sem=some (X53 s (bT (evA s rg)) (bW (evA s rg))) :=
 Bv (S:=λi=>T53 s z rg (ofNat i) (bT (evL s.X rg i)) (bW (evL s.X rg i))) (m:=s.nx) (show (Ex.ex 0) ≠ .nm from nofun) (λi hi=>by
  have hl:=M9 s.X rg i;cases hd:ieq (s.X i).dir 1 with
  | true=>rw [Am1 hd]; exact ArH hi (by omega) hz (by omega) hd
  | false=>rw [Am2 hd]; exact ArI hi (by omega) hz hd) (DW.rd (.k (DY s.nx) .l) (by kernel_rfl)) (by omega)
theorem Ar7 {s:Sh7} {l:List (Tg×Int)} (hm:s.nc <= 1023) (hl:l.length <= 1023):(Av (B53 2 (Go.Sy.askL ls53)) Y3 4611686018427387905 (VO s 0 (bT l) (bW l))).sem=some (Ate s (bT (coG l (lnS s) s.nc)) (bW (coG l (lnS s) s.nc))) :=
 Bv (S:=λi=>VO s (ofNat i) (bT (coG l (lnS s) i)) (bW (coG l (lnS s) i))) (m:=s.nc) (show (Ex.ex 2) ≠ .nm from nofun) (λi hi=>by
  have hl:=Ae0 l (lnS s) i;cases hd:ieq (ofNat (s.C i).1) 2 with
  | true=>rw [AsV (ln:=lnS s) hd]; exact Apc hi (by omega) (by omega) hd
  | false=>rw [AsW (ln:=lnS s) hd]; exact Apd hi (by omega) hd) (DW.rd (.k (DY s.nc) .l) (by kernel_rfl)) (by omega)
theorem r47 {s:Sh7} (hm:s.nx <= 1023):(Av (B47 0 (Go.Sy.askL WX)) lp47 4611686018427387905 (T47 s 0 (bT []) (bW []))).sem=some (X47 s (bT (evA s (rg9 s))) (bW (evA s (rg9 s)))) :=
 Bv (S:=λi=>T47 s (ofNat i) (bT (evL s.X (rg9 s) i)) (bW (evL s.X (rg9 s) i))) (m:=s.nx) (show (Ex.ex 0) ≠ .nm from nofun) (λi hi=>by
  have hl:=M9 s.X (rg9 s) i;cases hd:ieq (s.X i).dir 1 with
  | true=>rw [Am1 hd]; exact ArJ hi (by omega) (by omega) hd
  | false=>rw [Am2 hd]; exact ArL hi (by omega) hd) (DW.rd (.k (DY s.nx) .l) (by kernel_rfl)) (by omega)
theorem Ar8 {s:Sh7} {l:List (Tg×Int)} (hm:s.nc <= 1023) (hl:l.length <= 1023):(Av (B47 2 (Go.Sy.askL WX)) AcP 4611686018427387905 (AeP s 0 (bT l) (bW l))).sem=some (Atf s (bT (loL l (lnS s) (Gu s) (Mi s))) (bW (loL l (lnS s) (Gu s) (Mi s)))) :=
 have ha:Mi s <= s.nc:=B2 (RL s) s.nc
 Bv (S:=λi=>AeP s (ofNat i) (bT (loL l (lnS s) (Gu s) i)) (bW (loL l (lnS s) (Gu s) i))) (m:=Mi s) (show (Ex.ex 2) ≠ .nm from nofun) (λi hi=>by
  have hl:=SN l (lnS s) (Gu s) i;exact ArK hi (by omega) (HA (P:=RL s) hi).1 (by omega)) (DW.rd (.k (DY (Mi s)) .l) (by kernel_rfl)) (by omega)
def UD (l:List (Tg×Int)):Bool:=Nat.ble l.length 1023 && (AV l.length (λi=>tgB (gT l i).th (gT l i).rg (gT l i).lc) && AV l.length (λi=>HH (gW l i)))
def AqS (l:List (Tg×Int)):V×List Blk:=(.agg [iV 1,iV (XJ l.length),iV (I7 l.length (gT l)).th,iV (I7 l.length (gT l)).rg,.str (I7 l.length (gT l)).lc,iV (XK l.length (gW l)),.ref 0],[.row 46 6 (LV l.length) (ED (gT l) (gW l))])
theorem PR (n:Nat) (X:Nat->Tg) (f:Nat->Int):Cj [.row 46 6 n (λi=>.agg [iV 2,iV (X i).th,iV (X i).rg,.str (X i).lc,iV (f i),.nilS])]=true:=by
 simp only [Cj,Bool.and_true,List.all_eq_true];exact λi _=>rfl
def AmD:List V->A5
 | [v,w]=>apS v λs=>apG LF w λz rg=>.br (Nat.ble s.nx 1023) (.br (Nat.ble s.nc 1023) (.br (Nat.ble s.nx z) (.br (UD (axR s rg)) (.leaf (AqS (axR s rg))) .fail) .fail) .fail) .fail
 | _=>.fail
theorem ArT:Ap Tryz.prog Gl 53 AmD:=by
 refine Ah A2 mixed Tryz.func53 (by kernel_rfl) (by kernel_rfl) λvs v h' h=>?_;unfold AmD at h;split at h
 ·rename_i u1 u2
  obtain ⟨s,a1,h⟩:=apS_some h;obtain ⟨z,rg,a2,h⟩:=B0 h;obtain ⟨h1,h⟩:=Ac h;obtain ⟨h2,h⟩:=Ac h;obtain ⟨h3,h⟩:=Ac h;obtain ⟨h4,h⟩:=Ac h;cases Ab h;have h1:=Nat.le_of_ble_eq_true h1;have h2:=Nat.le_of_ble_eq_true h2;have h3:=Nat.le_of_ble_eq_true h3;have hx:=AS tb53_ok ls53 (G:=Gl);have hl:=M9 s.X rg s.nx;have r0:=r53 (rg:=rg) h1 h3;have r2:=Ar7 (s:=s) (l:=evA s rg) h2 (Nat.le_trans hl h1);rw [show coG (evA s rg) (lnS s) s.nc=axR s rg from Ajz _ s s.nc (Nat.le_refl _)] at r2;unfold UD at h4;simp only [Bool.and_eq_true] at h4;obtain ⟨h4,h5,h6⟩:=h4;generalize axR s rg=l at r2 h4 h5 h6 ⊢;have hA:Ba [u1,u2] [EC s,Ei LF z rg]:=λS w cs hq=>by
   obtain ⟨c,l,rfl,q1,c2,l2,rfl,q2,q3⟩:=hq;exact ⟨c,_,rfl,a1 S w c q1,c2,_,rfl,a2 S w c2 q2,q3⟩
  exact ⟨_,cxA Gl tb53 ls53,_,hA,rfl,hx.1,hx.2,DW.ok (.a r0 <| .a r2 <| .k (eL l.length) <| .k (eL l.length) <| .k (Ge l.length) <| .k h4 <| .k h5 <| .k h6 <| .k (PR (LV l.length) (gT l) (gW l)) <| .l) (by kernel_rfl),Am.refl _⟩
 ·cases h
def AmJ (s:Sh7):A5:=.br (Ct s.ne) (.br (Fa s.nc) (.br (D7 s) (.br (BU s) (.br (ieq (CQ s) 0) (.br (plB s) (.br (Nat.ble s.nx 1023) (.br (Nat.ble s.nc 1023) (.br (UD (axR s (rg9 s))) (.leaf (AqS (axR s (rg9 s)))) .fail) .fail) .fail) .fail) .fail) .fail) .fail) .fail) .fail
theorem p47:Ap Tryz.prog Gl 47 (shT AmJ):=KY Tryz.func47 (by kernel_rfl) (by kernel_rfl) (Γ:=λ_=>cxA Gl tb47 WX) (λ_=>rfl) (λ_=>AS tb47_ok WX) λs r h=>by
 unfold AmJ at h;obtain ⟨k1,h⟩:=Ac h;obtain ⟨k2,h⟩:=Ac h;obtain ⟨k3,h⟩:=Ac h;obtain ⟨k4,h⟩:=Ac h;obtain ⟨k5,h⟩:=Ac h;obtain ⟨k6,h⟩:=Ac h;obtain ⟨h1,h⟩:=Ac h;obtain ⟨h2,h⟩:=Ac h;obtain ⟨h4,h⟩:=Ac h;cases Ab h;have h1:=Nat.le_of_ble_eq_true h1;have h2:=Nat.le_of_ble_eq_true h2;have hl:=M9 s.X (rg9 s) s.nx;have r0:=r47 h1;have r2:=Ar8 (s:=s) (l:=evA s (rg9 s)) h2 (Nat.le_trans hl h1);rw [show loL (evA s (rg9 s)) (lnS s) (Gu s) (Mi s)=axR s (rg9 s) from rfl] at r2;unfold UD at h4;simp only [Bool.and_eq_true] at h4;obtain ⟨h4,h5,h6⟩:=h4;generalize axR s (rg9 s)=l at r2 h4 h5 h6 ⊢;have k3':=k3;exact DW.ok (.k (eL s.ne) <| .k (eL s.nx) <| .k (eL s.nr) <| .k (eL2 s.nc s.C) <| .k k1 <| .k k3 <| .k k5 <| .k k6 <| .a r0 <| .k (eL s.ne) <| .k (eL s.nx) <| .k (eL s.nr) <| .k (eL2 s.nc s.C) <| .k k1 <| .k k2 <| .k k3 <| .k k4 <| .k (eL s.ne) <| .k (eL s.nx) <| .k (eL s.nr) <| .k (eL2 s.nc s.C) <| .k k1 <| .k k2 <| .k k3 <| .k k4 <| .a r2 <| .k (eL l.length) <| .k (eL l.length) <| .k (Ge l.length) <| .k h4 <| .k h5 <| .k h6 <| .k (PR (LV l.length) (gT l) (gW l)) <| .l) (by kernel_rfl)
end Go.Proofs.YtkbafjceglhjhaaGreatDoor.Er
namespace Go.Proofs.YtkbafjceglhjhaaGreatDoor.Ed
open Go.Sy
open Int (ofNat)
theorem Aah:(List.range 112).all (λk=>decide ((IV k).length <= 32))=true:=by kernel_rfl
theorem Ld (e:E6):(Cc e).length <= 32:=by
 rcases Dk e with ⟨k,hk,_,_,_,h⟩ | ⟨_,_,h,_⟩
 ·rw [h]
  exact of_decide_eq_true (List.all_eq_true.1 Aah k (List.mem_range.2 hk))
 ·rw [h]; exact Nat.zero_le _
def nm (f:Nat->E6) (i:Nat):List UInt8:=Cc (f i)
def Dc (f:Nat->E6):Nat->List UInt8
 | 0=>[]
 | i+1=>bif decide (0<i) then BK (BK (Dc f i) [32]) (Cc (f i)) else BK (Dc f i) (Cc (f i))
theorem Oz {f:Nat->E6} {i:Nat} (h:¬ 0<i):Dc f (i+1)=BK (Dc f i) (Cc (f i)):=by rw [Dc,decide_eq_false h]; rfl
theorem O0 {f:Nat->E6} {i:Nat} (h:0<i):Dc f (i+1)=BK (BK (Dc f i) [32]) (Cc (f i)):=by rw [Dc,decide_eq_true h]; rfl
theorem QK (f:Nat->E6):∀ {i k:Nat},i <= k->(Dc f i).length <= (Dc f k).length
 | i,0,h=>by
  have:i=0:=by omega
  subst this;exact Nat.le_refl _
 | i,k+1,h=>by
  by_cases e:i=k+1
  ·subst e; exact Nat.le_refl _
  ·have:=QK f (show i <= k by omega)
   by_cases hk:0<k
   ·rw [O0 hk]
    simp only [BK,List.length_append];omega
   ·rw [Oz hk]
    simp only [BK,List.length_append];omega
theorem Yr (f:Nat->E6):∀ i,(Dc f i).length <= 33 * i
 | 0=>Nat.le_refl _
 | i+1=>by
  have h1:=Yr f i;have h2:=Ld (f i);by_cases hk:0<i
  ·rw [O0 hk]
   simp only [BK,List.length_append,List.length_cons,List.length_nil];omega
  ·rw [Oz hk]
   simp only [BK,List.length_append];omega
def H7 (f:Nat->E6):Nat->Nat
 | 0=>0
 | i+1=>H7 f i+((Cc (f i)).length+1)
theorem RZ (f:Nat->E6):∀ i,H7 f i <= 33 * i
 | 0=>Nat.le_refl _
 | i+1=>by
  have h1:=RZ f i;have h2:=Ld (f i);unfold H7;omega
theorem Uq (f:Nat->E6):∀ i,H7 f (i+1)=(Dc f (i+1)).length+1
 | 0=>by
  rw [Oz (Nat.lt_irrefl 0)];simp [H7,Dc,BK]
 | i+1=>by
  have ih:=Uq f i;rw [H7,ih,O0 (f:=f) (i:=i+1) (by omega)];simp only [BK,List.length_append,List.length_cons,List.length_nil];omega
theorem Aaw (x y:List UInt8) (r:List (List UInt8)) (sep:List UInt8):Lib.join ((x::r)++[y]) sep=Lib.join (x::r) sep++sep++y:=by
 rw [List.cons_append,Lib.join_cons,Lib.join_cons];simp [Lib.joinTail,List.append_assoc]
theorem UT (f:Nat->E6) (g:Nat->List UInt8) (n:Nat) (hg:∀ k,k<n->g k=Cc (f k)):∀ i,i <= n->Lib.join ((List.range i).map g) [32]=Dc f i
 | 0,_=>rfl
 | i+1,h=>by
  have ih:=UT f g n hg i (by omega);rw [List.range_succ,List.map_append,List.map_cons,List.map_nil,hg i (by omega)];by_cases hi:0<i
  ·obtain ⟨m,rfl⟩:∃ m,i=m+1:=⟨i-1,by omega⟩
   rw [O0 hi,<- ih];rw [List.range_succ_eq_map,List.map_cons,Aaw];rfl
  ·have:i=0:=by omega
   subst this;rw [Oz hi];show Lib.join [Cc (f 0)] [32]=_;rw [Lib.join_one];rfl
def HC (f:Nat->E6) (i k:Nat):List UInt8:=bif decide (k<i) then Cc (f k) else []
theorem AkI (f:Nat->E6):HC f 0=λ_=>[]:=by
 funext k;simp [HC]
theorem ZU (f:Nat->E6) (i:Nat):AD i (λk=>.str (HC f i k)) (.str (Cc (f i)))=λk=>.str (HC f (i+1) k):=by
 funext k;rw [Br,show Nat.beq k i=decide (k=i) by rw [Bool.eq_iff_iff]; simp];unfold HC;by_cases h:k=i
 ·subst h; simp
 ·by_cases h2:k<i
  ·have:k<i+1:=by omega
   simp [h,h2,this]
  ·have:¬ k<i+1:=by omega
   simp [h,h2,this]
theorem Rh (f:Nat->E6) (n:Nat):Ri n (HC f n) [32]=Dc f n :=
 UT f (HC f n) n (λk hk=>by rw [HC,decide_eq_true hk]; rfl) n (Nat.le_refl n)
theorem Aco {D:Nat} (h:0<D) (hn:D <= 9223372036854775807):wr .i64 (Bz (ofNat D) 1)=ofNat (D-1):=by
 unfold wr Bz IntKind.wrap;simp [IntKind.bits,IntKind.signed];omega
def AaO (n:Nat) (f:Nat->E6):Bool:=decide (262144<(Dc f n).length)
def Oy (n:Nat) (f:Nat->E6):List UInt8:=bif Di n f then (bif AaO n f then [] else Dc f n) else []
def Ss (n:Nat) (f:Nat->E6):Int:=bif Di n f then (bif AaO n f then 2 else 0) else 30
def Sr:List V->A5:=Hy λn f=>.br (Ct n) (out (.tup [.str (Oy n f),iV (Ss n f)])) .fail
noncomputable def tb63:A7:=(74,BX JZ)::(75,YB)::[]
theorem tb63_ok:Ao Tryz.prog Gl tb63:=.cons p26 <| .cons Apo .nil
def Lh (n:Nat) (f:Nat->E6):Lp:=⟨bmK 38 0 [2,3,4,5,10,11,12],1,bmK 38 0 [2,3,4,5],1,n+1⟩
def Wm (n:Nat) (f:Nat->E6) (s:Int) (i:Nat) (h:Nat->List UInt8) (j:Nat->V):St:=⟨jsV 38 0 j [(2,.str []),(3,iV 0),(4,.ref 0),(5,iV s),(10,.sl 6 n (λi=>eV (f i))),(11,nV n),(12,nV i)],[.row 9 1 i (λk=>.str (h k))]⟩
def Vy (n:Nat) (f:Nat->E6) (s:Int) (i:Nat) (h:Nat->List UInt8):Ex×St:=(.ex 0,⟨jsV 38 0 Aa [(2,.str []),(3,iV 0),(4,.ref 0),(5,iV s)],[.row 9 1 i (λk=>.str (h k))]⟩)
def Aeh (n:Nat) (f:Nat->E6) (s:Int) (i:Nat) (h:Nat->List UInt8):Ex×St:=(.rt,⟨jsV 38 0 Aa [(2,.str []),(3,iV 30),(4,.ref 0),(5,iV s)],[.row 9 1 i (λk=>.str (h k))]⟩)
noncomputable def Fe (L:LT):St->T (Ex×St):=λst=>AA tab ⟨Aw tb63,L,Gl⟩ (As Tryz.f49 0) 0 st
section
variable (L:LT) (n:Nat) (f:Nat->E6) (s:Int) (i:Nat) (h:Nat->List UInt8)  (j:Nat->V)
include L n f s i h j
theorem AoH (h0:ilt (ofNat i) (ofNat n)=false):Au (Fe L) (Lh n f) (Wm n f s i h j)=some ((.ex 0),⟨jsV 38 0 Aa [(2,.str []),(3,iV 0),(4,.ref 0),(5,iV s)],[.row 9 1 i (λk=>.str (h k))]⟩):=by
 exact Ae (ks:=[kn h0]) (by kernel_rfl)
theorem AoG (h0:ilt (ofNat i) (ofNat n)=true) (h1:Al (ile 0 (ofNat i)) (ilt (ofNat i) (ofNat n))=true) (h2:ieq (Be (f i)) 0=false):Au (Fe L) (Lh n f) (Wm n f s i h j)=some (.rt,⟨jsV 38 0 Aa [(2,.str []),(3,iV 30),(4,.ref 0),(5,iV s)],[.row 9 1 i (λk=>.str (h k))]⟩):=by
 exact Ae (ks:=[kn h0,kn h1,kN (kn h2)]) (by kernel_rfl)
theorem AoF (h0:ilt (ofNat i) (ofNat n)=true) (h1:Al (ile 0 (ofNat i)) (ilt (ofNat i) (ofNat n))=true) (h2:ieq (Be (f i)) 0=true) (h3:Bs i 1 16=true):Au (Fe L) (Lh n f) (Wm n f s i h j)=some (.nm,⟨jsV 38 0 Aa [(2,.str []),(3,iV 0),(4,.ref 0),(5,iV (wr .i64 (Ai s (wr .i64 (Ai (ofNat (Bq (Cc (f i)))) 1))))),(10,.sl 6 n (λi=>eV (f i))),(11,nV n),(12,iV (wr .i64 (Ai (ofNat i) 1)))],[.row 9 1 (AE i 1) (AD i (λk=>.str (h k)) (.str (Cc (f i))))]⟩):=by
 exact Ae (ks:=[kn h0,kn h1,kN (kn h2),kn h3]) (by kernel_rfl)
end
def Kf (n:Nat) (f:Nat->E6) :St:=⟨jsV 38 0 (λ_=>AK) [(0,.sl 6 n (λi=>eV (f i))),(2,.str []),(3,iV 0),(4,.ref 0),(5,iV 0),(10,.sl 6 n (λi=>eV (f i))),(11,nV n),(12,iV 0)],[.row 9 1 0 Aa]⟩
theorem An4 (L:LT) (p0:PT) (n:Nat) (f:Nat->E6) (s:Int) (i:Nat) (h:Nat->List UInt8)  (hp0:p0 (Fe (onP 0 p0 (Aeh n f s i h) L)) (Kf n f)=true):(A0 (Aj tab ⟨Aw tb63,onP 0 p0 (Aeh n f s i h) L,Gl⟩ Tryz.f49 [AI n f] [])).sem=some ((.tup [.str [],iV 30]),[]):=by
 exact Ae (ks:=[kn hp0]) (by kernel_rfl)
section
variable (L:LT) (p0:PT) (n:Nat) (f:Nat->E6) (s:Int) (h:Nat->List UInt8)
include L p0 n f s h
theorem An3 (h0:ilt 262144 (wr .i64 (Bz s 1))=true) (hp0:p0 (Fe (onP 0 p0 (Vy n f s n h) L)) (Kf n f)=true):(A0 (Aj tab ⟨Aw tb63,onP 0 p0 (Vy n f s n h) L,Gl⟩ Tryz.f49 [AI n f] [])).sem=some ((.tup [.str [],iV 2]),[]):=by
 exact Ae (ks:=[kn hp0,kn h0]) (by kernel_rfl)
theorem An2 (h0:ilt 262144 (wr .i64 (Bz s 1))=false) (h1:Ph n h [32]=true) (hp0:p0 (Fe (onP 0 p0 (Vy n f s n h) L)) (Kf n f)=true):(A0 (Aj tab ⟨Aw tb63,onP 0 p0 (Vy n f s n h) L,Gl⟩ Tryz.f49 [AI n f] [])).sem=some ((.tup [.str (Ri n h [32]),iV 0]),[]):=by
 exact Ae (ks:=[kn hp0,kn h0,kL n,kn h1]) (by kernel_rfl)
end
theorem Ai6 (L:LT) (n:Nat) (f:Nat->E6) (h8:n * 40 <= 140737488355328) (e:Nat) (he:e <= n) (ho:∀ k,k<e->Be (f k)=0):∀ (d i:Nat) (j:Nat->V) (q:Nat),e=i+d->n-i<q ->
  (Av (Fe L) (Lh n f) q (Wm n f (ofNat (H7 f i)) i (HC f i) j)).sem=(Av (Fe L) (Lh n f) (q-d) (Wm n f (ofNat (H7 f e)) e (HC f e) (match d with | 0=>j | _+1=>λ_=>.und))).sem
 | 0,i,j,q,h,_=>by
  have:e=i:=by omega
  subst this;rfl
 | d+1,i,j,q+1,h,h2=>by
  have hl:i<n:=by omega
  have hz:=RZ f i;have hz2:=Ld (f i);have h9:(i+1) * 16 <= 140737488355328:=by omega
  have ha:Bs i 1 16=true:=decide_eq_true h9;have c1:ieq (Be (f i)) 0=true:=by rw [ho i (by omega)]; rfl
  have e3:wr .i64 (Ai (ofNat (H7 f i)) (wr .i64 (Ai (ofNat (Bq (Cc (f i)))) 1)))=(ofNat (H7 f (i+1))):=by
   have hs:Bq (Cc (f i))=(Cc (f i)).length:=rfl;rw [Ma (by omega),FB (by omega)];rfl
  rw [Af (AoF L n f (ofNat (H7 f i)) i (HC f i) j (ofNat_lt hl) (Ad hl) c1 ha),AT,A3 hl (by omega),e3,ZU];have:=Ai6 L n f h8 e he ho d (i+1) Aa q (by omega) (by omega);rw [show q+1-(d+1)=q-d by omega];refine Eq.trans this ?_;cases d <;> rfl
theorem Aeb (n:Nat) (f:Nat->E6):Jd (Kf n f) [(0,.str [])]=Wm n f 0 0 (λ_=>[]) (λi=>nth (Kf n f).t i):=by kernel_rfl
def VW:List (Nat×List (Nat×V)):=[(0,[(0,.str [])])]
theorem Ak1 (n:Nat) (f:Nat->E6) (hF:Ct n=true) :
  (A0 (Aj tab (cxZ Gl tb63 VW [(0,Lh n f)]) Tryz.f49 [AI n f] [])).sem=some (.tup [.str (Oy n f),iV (Ss n f)],[]):=by
 have h8:n * 40 <= 140737488355328:=of_decide_eq_true hF;have hL:=J7 VW [(0,Lh n f)];have start:∀ L e,e <= n->(∀ k,k<e->Be (f k)=0)->∃ j,(FK VW [(0,Lh n f)] 0 (Fe L) (Kf n f)).sem=(Av (Fe L) (Lh n f) (n+1-e) (Wm n f (ofNat (H7 f e)) e (HC f e) j)).sem:=λL e he ho=>by
  have h:=Ai6 L n f h8 e he ho e 0 (λi=>nth (Kf n f).t i) (n+1) (by omega) (by omega);refine ⟨_,Eq.trans ?_ h⟩;show (Av (Fe L) (Lh n f) (n+1) (Jd (Kf n f) [(0,.str [])])).sem=_;rw [Aeb,<- AkI f];rfl
 unfold Oy Ss;cases hm:Di n f with
 | false =>
  obtain ⟨e,he,hb,ho⟩:=WU hm;have h0:∀ L,(FK VW [(0,Lh n f)] 0 (Fe L) (Kf n f)).sem=some (Aeh n f (ofNat (H7 f e)) e (HC f e)):=λL=>by
   obtain ⟨j,h⟩:=start L e (Nat.le_of_lt he) ho;rw [h,show n+1-e=(n-e)+1 by omega];have c1:ieq (Be (f e)) 0=false:=by rw [hb]; rfl
   exact Af (AoG L n f (ofNat (H7 f e)) e (HC f e) j (ofNat_lt he) (Ad he) c1)
  exact AW (AX hL hL) _ (An4 _ _ n f (ofNat (H7 f e)) e (HC f e) (A4 (h0 _)))
 | true =>
  have h0:∀ L,(FK VW [(0,Lh n f)] 0 (Fe L) (Kf n f)).sem=some (Vy n f (ofNat (H7 f n)) n (HC f n)):=λL=>by
   obtain ⟨j,h⟩:=start L n (Nat.le_refl n) (D9.1 hm);rw [h,show n+1-n=0+1 by omega];exact Af (AoH L n f (ofNat (H7 f n)) n (HC f n) j (A1 (Nat.le_refl _)))
  have hg:ilt 262144 (wr .i64 (Bz (ofNat (H7 f n)) 1))=AaO n f:=by
   cases n with
   | zero=>rfl
   | succ m =>have h1:=Uq f m;have h2:=RZ f (m+1);rw [Aco (by omega) (by omega),show (262144:Int)=ofNat 262144 from rfl,Cw,h1];rfl
  cases hb:AaO n f with
  | true =>rw [hb] at hg;exact AW (AX hL hL) _ (An3 _ _ n f (ofNat (H7 f n)) (HC f n) hg (A4 (h0 _)))
  | false =>
   rw [hb] at hg;have hlen:(Dc f n).length <= 262144:=by
    have:=of_decide_eq_false hb;omega
   have hj:Ph n (HC f n) [32]=true:=by
    simp only [Ph,Rh,Bool.and_eq_true,decide_eq_true_eq];omega
   have hw:=AW (AX hL hL) _ (An2 _ _ n f (ofNat (H7 f n)) (HC f n) hg hj (A4 (h0 _)));rw [Rh] at hw;exact hw
theorem p63:Ap Tryz.prog Gl 49 Sr:=by
 refine Ah A2 mixed Tryz.func49 (by kernel_rfl) (by kernel_rfl) λvs v h' h=>?_;obtain ⟨n,f,ha,h1⟩:=CM h;obtain ⟨hn,hq⟩:=Ac h1;have:=Ab hq;simp only [Prod.mk.injEq] at this;obtain ⟨rfl,rfl⟩:=this;have hx:=Tz tb63_ok VW [(0,Lh n f)];exact ⟨_,cxZ Gl tb63 VW [(0,Lh n f)],_,ha,rfl,hx.1,hx.2,Ak1 n f hn,Am.refl _⟩
end Go.Proofs.YtkbafjceglhjhaaGreatDoor.Ed
