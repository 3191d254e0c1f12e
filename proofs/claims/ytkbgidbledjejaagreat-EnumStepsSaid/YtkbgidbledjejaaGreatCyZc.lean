/-
  Layer 6: the cycles handed out one by one, gathered: the program's Cycles. Conditions: as before.
-/
import Derived.Test.YtkbgidbledjejaaGreatEnWt
import Derived.Test.YtkbgidbledjejaaGreatCyTc
import Derived.Test.YtkbgidbledjejaaGreatEnE
namespace Go.Proofs.YtkbgidbledjejaaGreat.En
open Go.Sy Go Go.Proofs.YtkbgidbledjejaaGreat.Ed
set_option maxRecDepth 100000
theorem CS {E:List V->List Blk->A3} {vs:List V} {h:List Blk} {r:V×List Blk} (he:(E vs h).sem=some r):((E vs h).sem.map λr=>(Ex.rt,(⟨[r.1],r.2⟩:St)))=some (.rt,⟨[r.1],r.2⟩):=by rw [he]; rfl
def rcd:Code->Option RngCode
 | .seq a b=>match rcd a with
  | some c=>some c
  | none=>rcd b
 | .block _ c=>rcd c
 | .cond _ a b=>match rcd a with
  | some c=>some c
  | none=>rcd b
 | .rangeFunc _ ps a b=>some ⟨ps,a,b⟩
 | _=>none
noncomputable def cd9:RngCode:=match Tryz.f9.body with
 | some c=>match rcd c with
  | some c=>c
  | none=>⟨#[],.skip,.skip⟩
 | none=>⟨#[],.skip,.skip⟩
noncomputable def ts9 (A n q:Int) (k:Nat) (w:Nat->E6):List V:=(jsV 43 0 (λ_=>A7) [(0,iV A),(1,.sl 6 k (λi=>eV (w i))),(2,iV n),(3,iV q),(7,.ptr 0 0),(8,.ptr 1 0),(9,.ptr 2 0),(10,iV (Dl A k w n)),(11,.ptr 3 0),(13,iV A),(14,.sl 6 k (λi=>eV (w i))),(15,iV n),(16,iV (Dl A k w n)),(17,iV (Dl A k w n)),(18,bV (AI (ieq (Dl A k w n) 0))),(20,iV q),(21,bV (ilt q 0)),(22,bV (ilt q 0)),(23,iV q),(24,bV (ilt 65536 q)),(25,bV (ilt 65536 q)),(26,.sl 6 k (λi=>eV (w i))),(27,iV n),(28,bV (Gv k w n)),(29,iV A),(30,.sl 6 k (λi=>eV (w i))),(31,iV n),(32,.fn 41 [.ptr 4 0,.ptr 7 0,.ptr 5 0])])
noncomputable def tb19:AD:=(40,Aea)::[]
theorem tb19_ok:Al Tryz.prog Gl tb19:=.cons p40 <| .nil
noncomputable def tb9:AD:=(32,Tm)::(33,NA)::[]
theorem AhY:Al Tryz.prog Gl tb9:=.cons Af1 <| .cons p33 <| .nil
noncomputable def tb41:AD:=(32,Tm)::(33,NA)::(44,Uc)::[]
theorem tb41_ok:Al Tryz.prog Gl tb41:=.cons Af1 <| .cons p33 <| .cons p44 <| .nil
noncomputable def E19:List V->List Blk->A3:=Au tab (cxA Gl tb19 []) Tryz.f19
noncomputable abbrev cx9:Cx:=⟨My [(19,E19)] (A9 tb9),C3 [],Gl⟩
def lp41:Lp:=⟨bmK 27 0 [0,5],18,bmK 27 0 [],21,10000000000000000000000000000000000000000000000000000⟩
noncomputable abbrev AdO:Cx:=⟨My [(42,QI E42),(43,QI E43)] (A9 tb41),C3 [(0,lp41,[(11,λ_=>iV 0)])],Gl⟩
noncomputable abbrev rN:Rg:=rgI [] Y1
noncomputable abbrev R41:Rg:=rgI [] (AbW tab cx9 rN)
noncomputable def E41:List V->List Blk->A3:=Nt tab AdO R41 Tryz.f41
noncomputable abbrev R9:Rg:=rgI [(41,E41)] Y1
noncomputable def F9 (vs:List V):A3:=AM (Nt tab cx9 R9 Tryz.f9 vs [])
noncomputable def B41:St->T (Ex×St):=λst=>Gy tab AdO R41 none (A1 Tryz.f41 0) 0 st
def AkV:List V:=jsV 27 0 Ac [(0,.ref 8),(5,.ptr 12 0)]
def ZW:List V:=jsV 27 0 Ac []
noncomputable def S41 (A n q:Int) (k:Nat) (w:Nat->E6) (m:Nat) (v:Nat->E6) (L:Nat) (x:Nat->Int) (hs:Key->Bool) (gt:Key->V):St:=⟨AkV,[.cells [iV q],.cells [.nilS],.cells [iV 0],.cells [.nilS],.cells [iV A],.cells [iV n],.row 46 6 k (λi=>eV (w i)),.cells [.und],.rng cd9 (ts9 A n q k w) .ready,.saved (.ref 8::ts9 A n q k w),.row 46 6 m (λi=>eV (v i)),.row 3 1 L (λi=>iV (x i)),.cells [iV A,iV n,.ref 10,.ref 11],.gmap 86 [] hs gt]⟩
noncomputable def U1 (A n q:Int) (k:Nat) (w:Nat->E6) (m:Nat) (v:Nat->E6) (L:Nat) (x:Nat->Int) (hs:Key->Bool) (gt:Key->V) (c:Nat) (g:Nat->V) (lv:Nat->Bool) (ln:Nat->Nat) (me:Nat->Nat->V):St:=⟨AkV,[.cells [iV q],.cells [.nilS],.cells [iV 0],.cells [.jref 17],.cells [iV A],.cells [iV n],.row 46 6 k (λi=>eV (w i)),.cells [.und],.rng cd9 (ts9 A n q k w) .ready,.saved (.ref 8::ts9 A n q k w),.row 46 6 m (λi=>eV (v i)),.row 3 1 L (λi=>iV (x i)),.cells [iV A,iV n,.ref 10,.ref 11],.gmap 86 [] hs gt,.dead,.dead,.dead,.jag ⟨22,1,c,g,0,46,6,lv,ln,me,none⟩]⟩
noncomputable def Akc (A n q:Int) (k:Nat) (w:Nat->E6) (m:Nat) (v:Nat->E6) (L:Nat) (x:Nat->Int) (hs:Key->Bool) (gt:Key->V):Ex×St:=(.ex 0,⟨ZW,[.cells [iV q],.cells [.nilS],.cells [iV 0],.cells [.nilS],.cells [iV A],.cells [iV n],.row 46 6 k (λi=>eV (w i)),.cells [.und],.rng cd9 (ts9 A n q k w) .ready,.saved (.ref 8::ts9 A n q k w),.row 46 6 m (λi=>eV (v i)),.row 3 1 L (λi=>iV (x i)),.cells [iV A,iV n,.ref 10,.ref 11],.gmap 86 [] hs gt]⟩)
noncomputable def Akd (A n q:Int) (k:Nat) (w:Nat->E6) (m:Nat) (v:Nat->E6) (L:Nat) (x:Nat->Int) (hs:Key->Bool) (gt:Key->V):Ex×St:=(.rt,⟨ZW,[.cells [iV q],.cells [.jref 16],.cells [iV 3],.cells [.nilS],.cells [iV A],.cells [iV n],.row 46 6 k (λi=>eV (w i)),.cells [.und],.rng cd9 (ts9 A n q k w) (.done .rt),.saved (.ref 8::ts9 A n q k w),.row 46 6 m (λi=>eV (v i)),.row 3 1 L (λi=>iV (x i)),.cells [iV A,iV n,.ref 10,.ref 11],.gmap 86 [] hs gt,.row 46 6 L (λk=>eV (v (toN (x k)))),.dead,.jag ⟨22,1,0,λ_=>.und,0,46,6,λ_=>true,λ_=>0,λ_ _=>.und,none⟩]⟩)
noncomputable def AaX (A n q:Int) (k:Nat) (w:Nat->E6) (m:Nat) (v:Nat->E6) (L:Nat) (x:Nat->Int) (hs:Key->Bool) (gt:Key->V) (c:Nat) (g:Nat->V) (lv:Nat->Bool) (ln:Nat->Nat) (me:Nat->Nat->V):Ex×St:=(.ex 0,⟨ZW,[.cells [iV q],.cells [.nilS],.cells [iV 0],.cells [.jref 17],.cells [iV A],.cells [iV n],.row 46 6 k (λi=>eV (w i)),.cells [.und],.rng cd9 (ts9 A n q k w) .ready,.saved (.ref 8::ts9 A n q k w),.row 46 6 m (λi=>eV (v i)),.row 3 1 L (λi=>iV (x i)),.cells [iV A,iV n,.ref 10,.ref 11],.gmap 86 [] hs gt,.dead,.dead,.dead,.jag ⟨22,1,c,g,0,46,6,lv,ln,me,none⟩]⟩)
noncomputable def AaY (A n q:Int) (k:Nat) (w:Nat->E6) (m:Nat) (v:Nat->E6) (L:Nat) (x:Nat->Int) (hs:Key->Bool) (gt:Key->V) (c:Nat) (g:Nat->V) (lv:Nat->Bool) (ln:Nat->Nat) (me:Nat->Nat->V):Ex×St:=(.rt,⟨ZW,[.cells [iV q],.cells [.jref 20],.cells [iV 3],.cells [.jref 17],.cells [iV A],.cells [iV n],.row 46 6 k (λi=>eV (w i)),.cells [.und],.rng cd9 (ts9 A n q k w) (.done .rt),.saved (.ref 8::ts9 A n q k w),.row 46 6 m (λi=>eV (v i)),.row 3 1 L (λi=>iV (x i)),.cells [iV A,iV n,.ref 10,.ref 11],.gmap 86 [] hs gt,.dead,.dead,.dead,.jag ⟨22,1,c,g,0,46,6,lv,ln,me,none⟩,.row 46 6 L (λk=>eV (v (toN (x k)))),.dead,.jag ⟨22,1,0,λ_=>.und,0,46,6,λ_=>true,λ_=>0,λ_ _=>.und,none⟩]⟩)
theorem Amk (A n q:Int) (k:Nat) (w:Nat->E6) (m:Nat) (v:Nat->E6) (L:Nat) (x:Nat->Int) (hs:Key->Bool) (gt:Key->V) (c:Nat) (g:Nat->V) (lv:Nat->Bool) (ln:Nat->Nat) (me:Nat->Nat->V) (h:∀ i,i<c->lv i=true):BB (U1 A n q k w m v L x hs gt c g lv ln me).h=true:=by
 simp only [U1,BB,Bool.and_true,Bool.true_and,List.all_eq_true,List.mem_range];exact h
section
variable {A n q:Int} {k:Nat} {w:Nat->E6} {m:Nat} {v:Nat->E6} {L:Nat} {x:Nat->Int} {L2:Nat} {x2:Nat->Int} {hs:Key->Bool} {gt:Key->V}
section
variable (hE:(E43 [.ptr 0 0] (HI A n m v L x)).sem=some (bV true,HI A n m v L2 x2)) (hsr:srG m L2 x2=true) (hk:G2 40 (Int.ofNat L2) (Int.ofNat L2)=true)
include hE hsr hk
theorem An4 (hq:ieq 0 q=true):Ap B41 lp41 (S41 A n q k w m v L x hs gt)=some (Akd A n q k w m v L2 x2 hs gt):=DW.rd (.a (CS hE) <| .k eT <| .k (eL m) <| .k (eL L2) <| .k hsr <| .k hk <| .k (rbE L2 λk=>v (toN (x2 k))) <| .k hq <| .k (eN eF) <| .l) (by kernel_rfl)
theorem An2 (hq:ieq 0 q=false):Ap B41 lp41 (S41 A n q k w m v L x hs gt)=some (.nm,U1 A n q k w m v L2 x2 hs gt 1 (AE 0 Ac .und) (CW (λ_=>true) 0 true) (Dj (λ_=>0) 0 L2) (DN (λ_ _=>.und) 0 λi=>eV (v (toN (x2 i))))):=DW.rd (.a (CS hE) <| .k eT <| .k (eL m) <| .k (eL L2) <| .k hsr <| .k hk <| .k (rbE L2 λk=>v (toN (x2 k))) <| .k hq <| .k eT <| .k (show CJ 0 1 24=true from by decide) <| .k (eN eT) <| .l) (by kernel_rfl)
variable {c:Nat} {g:Nat->V} {lv:Nat->Bool} {ln:Nat->Nat} {me:Nat->Nat->V} (hlv:∀ i,i<c->lv i=true)
include hlv
theorem Anz (hq:ieq (Int.ofNat c) q=true):Ap B41 lp41 (U1 A n q k w m v L x hs gt c g lv ln me)=some (AaY A n q k w m v L2 x2 hs gt c g lv ln me):=DW.rd (.a (CS hE) <| .k eT <| .k (Amk A n q k w m v L2 x2 hs gt c g lv ln me hlv) <| .k (eL m) <| .k (eL L2) <| .k hsr <| .k hk <| .k (rbE L2 λk=>v (toN (x2 k))) <| .k hq <| .k (eN eF) <| .l) (by kernel_rfl)
theorem Anx (hq:ieq (Int.ofNat c) q=false) (hc:CJ c 1 24=true):Ap B41 lp41 (U1 A n q k w m v L x hs gt c g lv ln me)=some (.nm,U1 A n q k w m v L2 x2 hs gt (c+1) (AE c g .und) (CW lv c true) (Dj ln c L2) (DN me c λi=>eV (v (toN (x2 i))))):=DW.rd (.a (CS hE) <| .k eT <| .k (Amk A n q k w m v L2 x2 hs gt c g lv ln me hlv) <| .k (eL m) <| .k (eL L2) <| .k hsr <| .k hk <| .k (rbE L2 λk=>v (toN (x2 k))) <| .k hq <| .k eT <| .k hc <| .k (eN eT) <| .l) (by kernel_rfl)
end
variable (hE:(E43 [.ptr 0 0] (HI A n m v L x)).sem=some (bV false,HI A n m v L2 x2))
include hE
theorem An3:Ap B41 lp41 (S41 A n q k w m v L x hs gt)=some (Akc A n q k w m v L2 x2 hs gt):=DW.rd (.a (CS hE) <| .k eF <| .l) (by kernel_rfl)
theorem Any {c:Nat} {g:Nat->V} {lv:Nat->Bool} {ln:Nat->Nat} {me:Nat->Nat->V}:Ap B41 lp41 (U1 A n q k w m v L x hs gt c g lv ln me)=some (AaX A n q k w m v L2 x2 hs gt c g lv ln me):=DW.rd (.a (CS hE) <| .k eF <| .l) (by kernel_rfl)
end
end Go.Proofs.YtkbgidbledjejaaGreat.En
namespace Go.Proofs.YtkbgidbledjejaaGreat.Ed
open Go.Sy Go
open Int (ofNat)
def inN (n:Nat) (a:Int):Bool:=Av (ile 0 a) (ilt a (ofNat n))
theorem O9 {n a:Nat} (h:a<n):inN n (ofNat a)=true:=Af h
theorem V3 {n:Nat} {a:Int} (h:inN n a=true):a=ofNat (toN a)∧toN a<n:=by
 simp only [inN,Av,ile,ilt,Bool.and_eq_true,decide_eq_true_eq,Int.ofNat_eq_natCast] at h;simp only [toN,Int.ofNat_eq_natCast];omega
def Lf (n:Nat) (h:Nat->Int) (a b:Nat):Nat->Nat->Option Bool
 | 0,_=>none
 | d+1,i=>if h ((a+i) % n)=h ((b+i) % n) then Lf n h a b d (i+1) else some (decide (h ((a+i) % n)<h ((b+i) % n)))
def JC (n:Nat) (h:Nat->Int) (a b:Nat):Bool:=(Lf n h a b n 0).getD false
theorem QO {n:Nat} {h:Nat->Int} {a b:Nat}:∀ d i,n=i+d->(∀ t,t<i->Fw n h a t=Fw n h b t)->((Lf n h a b d i).getD false=true↔K2 n h a b)
 | 0,i,hd,hi=>by
  refine ⟨λh1=>(by cases h1),λ⟨s,h1,_,h3⟩=>?_⟩;rw [hi s (by omega)] at h3;omega
 | d+1,i,hd,hi=>by
  unfold Lf;by_cases he:h ((a+i) % n)=h ((b+i) % n)
  ·rw [if_pos he]
   refine QO d (i+1) (by omega) λt ht=>?_;by_cases hti:t=i
   ·rw [hti]; exact he
   ·exact hi t (by omega)
  ·rw [if_neg he]
   refine ⟨λh1=>⟨i,by omega,hi,of_decide_eq_true h1⟩,λ⟨s,h1,h2,h3⟩=>decide_eq_true ?_⟩;rcases Nat.lt_trichotomy s i with hs | hs | hs
   ·rw [hi s hs] at h3; omega
   ·rw [hs] at h3; exact h3
   ·exact absurd (h2 i hs) he
theorem QP {n:Nat} {h:Nat->Int} {a b:Nat}:JC n h a b=true↔K2 n h a b:=QO n 0 (by omega) λt ht=>absurd ht (Nat.not_lt_zero _)
def X6 (_:Nat) (_:Nat->Int) (_ _:Nat) (v:Bool):Ex×St:=(.rt,⟨jsV 40 0 Ac [(6,bV v)],[]⟩)
def PI (n:Nat) (_:Nat->Int) (_ _:Nat):Lp:=⟨bmK 40 0 [0,1,2,6,7,8],0,bmK 40 0 [6],0,n+1⟩
def RD (n:Nat) (h:Nat->Int) (a b:Nat) (i:Nat) (j:Nat->V):St:=⟨jsV 40 0 j [(0,.sl 1 n λk=>iV (h k)),(1,nV a),(2,nV b),(6,bV false),(7,nV n),(8,nV i)],[]⟩
def X7 (_:Nat) (_:Nat->Int) (_ _:Nat) (_:Nat):Ex×St:=(.ex 0,⟨jsV 40 0 Ac [(6,bV false)],[]⟩)
noncomputable def Kj (L:LT):St->T (Ex×St):=λst=>A8 tab ⟨A9 tb0,L,Gl⟩ (A1 Tryz.f79 0) 0 st
section
variable (L:LT) (n:Nat) (h:Nat->Int) (a b:Nat) (i:Nat)  (j:Nat->V)
include L n h a b i j
theorem AiA (h0:ilt (ofNat i) (ofNat n)=false):Ap (Kj L) (PI n h a b) (RD n h a b i j)=some ((.ex 0),⟨jsV 40 0 Ac [(6,bV false)],[]⟩):=by
 exact Ag (ks:=[kn h0]) (by kernel_rfl)
theorem Ai9 (h0:ilt (ofNat i) (ofNat n)=true) (h1:ieq (ofNat n) 0=false) (h20:Av (ile 0 (Aw (wr .i64 (Am (ofNat a) (ofNat i))) (ofNat n))) (ilt (Aw (wr .i64 (Am (ofNat a) (ofNat i))) (ofNat n)) (ofNat n))=true) (h22:Av (ile 0 (Aw (wr .i64 (Am (ofNat b) (ofNat i))) (ofNat n))) (ilt (Aw (wr .i64 (Am (ofNat b) (ofNat i))) (ofNat n)) (ofNat n))=true) (h2:ieq (h (toN (Aw (wr .i64 (Am (ofNat a) (ofNat i))) (ofNat n)))) (h (toN (Aw (wr .i64 (Am (ofNat b) (ofNat i))) (ofNat n))))=true):Ap (Kj L) (PI n h a b) (RD n h a b i j)=some (.nm,⟨jsV 40 0 Ac [(0,.sl 1 n (λk=>iV (h k))),(1,nV a),(2,nV b),(6,bV false),(7,nV n),(8,iV (wr .i64 (Am (ofNat i) 1)))],[]⟩):=by
 exact Ag (ks:=[kn h0,kn h1,kn h20,kn h1,kn h22,kN (kn h2)]) (by kernel_rfl)
theorem Ai8 (h0:ilt (ofNat i) (ofNat n)=true) (h1:ieq (ofNat n) 0=false) (h20:Av (ile 0 (Aw (wr .i64 (Am (ofNat a) (ofNat i))) (ofNat n))) (ilt (Aw (wr .i64 (Am (ofNat a) (ofNat i))) (ofNat n)) (ofNat n))=true) (h22:Av (ile 0 (Aw (wr .i64 (Am (ofNat b) (ofNat i))) (ofNat n))) (ilt (Aw (wr .i64 (Am (ofNat b) (ofNat i))) (ofNat n)) (ofNat n))=true) (h2:ieq (h (toN (Aw (wr .i64 (Am (ofNat a) (ofNat i))) (ofNat n)))) (h (toN (Aw (wr .i64 (Am (ofNat b) (ofNat i))) (ofNat n))))=false):Ap (Kj L) (PI n h a b) (RD n h a b i j)=some (.rt,⟨jsV 40 0 Ac [(6,bV (ilt (h (toN (Aw (wr .i64 (Am (ofNat a) (ofNat i))) (ofNat n)))) (h (toN (Aw (wr .i64 (Am (ofNat b) (ofNat i))) (ofNat n))))))],[]⟩):=by
 exact Ag (ks:=[kn h0,kn h1,kn h20,kn h1,kn h22,kN (kn h2)]) (by kernel_rfl)
end
def Adi (n:Nat) (h:Nat->Int) (_ _:Nat) :Nat->V:=lkV A7 [(11,.sl 1 n (λi=>iV (h i))),(12,nV n)]
theorem AhF (L:LT) (p0:PT) (n:Nat) (h:Nat->Int) (a b:Nat) (i:Nat)  (hp0:p0 (Kj (onP 0 p0 (X7 n h a b i) L)) (RD n h a b 0 (Adi n h a b ))=true):(AM (Au tab ⟨A9 tb0,onP 0 p0 (X7 n h a b i) L,Gl⟩ Tryz.f79 [Co n h,nV a,nV b] [])).sem=some ((bV false),[]):=by
 exact Ag (ks:=[kn hp0]) (by kernel_rfl)
theorem AhE (L:LT) (p0:PT) (n:Nat) (h:Nat->Int) (a b:Nat) (v:Bool)  (hp0:p0 (Kj (onP 0 p0 (X6 n h a b v) L)) (RD n h a b 0 (Adi n h a b ))=true):(AM (Au tab ⟨A9 tb0,onP 0 p0 (X6 n h a b v) L,Gl⟩ Tryz.f79 [Co n h,nV a,nV b] [])).sem=some ((bV v),[]):=by
 exact Ag (ks:=[kn hp0]) (by kernel_rfl)
theorem Ael (n a i:Nat) (ha:a<n) (hn:n <= 4611686018427387904) (hi:i<n):Aw (wr .i64 (Am (ofNat a) (ofNat i))) (ofNat n)=ofNat ((a+i) % n)∧(a+i) % n<n:=by
 rw [KA (by omega),Ka];exact ⟨rfl,Nat.mod_lt _ (by omega)⟩
theorem YK (n a i:Nat) (ha:a<n) (hn:n <= 4611686018427387904) (hi:i<n):Av (ile 0 (Aw (wr .i64 (Am (ofNat a) (ofNat i))) (ofNat n))) (ilt (Aw (wr .i64 (Am (ofNat a) (ofNat i))) (ofNat n)) (ofNat n))=true:=by
 obtain ⟨e1,l1⟩:=Ael n a i ha hn hi;rw [e1];exact Af l1
theorem AgX (n i:Nat) (hi:i<n):ieq (ofNat n) 0=false:=by rw [show (0:Int)=ofNat 0 from rfl,FO,decide_eq_false (by omega)]
theorem AbS (L:LT) (n:Nat) (h:Nat->Int) (a b:Nat) (hn:n <= 4611686018427387904) (ha:a<n) (hb:b<n):∀ (d i:Nat) (j:Nat->V) (q:Nat),n=i+d->d<q ->
  (Ay (Kj L) (PI n h a b) q (RD n h a b i j)).sem=some (match Lf n h a b d i with | none=>X7 n h a b 0 | some v=>X6 n h a b v)
 | 0,i,j,q+1,h1,_=>by
  have:n=i:=by omega
  subst this;exact Ae (AiA L n h a b n j (A4 (Nat.le_refl _)))
 | d+1,i,j,q+1,h1,h2=>by
  have hi:i<n:=by omega
  obtain ⟨e1,l1⟩:=Ael n a i ha hn hi;obtain ⟨e2,l2⟩:=Ael n b i hb hn hi;unfold Lf;by_cases he:h ((a+i) % n)=h ((b+i) % n)
  ·have hq:ieq (h (toN (Aw (wr .i64 (Am (ofNat a) (ofNat i))) (ofNat n)))) (h (toN (Aw (wr .i64 (Am (ofNat b) (ofNat i))) (ofNat n))))=true:=by
    rw [e1,e2];show ieq (h ((a+i) % n)) (h ((b+i) % n))=true;rw [he];exact AfV _
   rw [if_pos he,Ae (Ai9 L n h a b i j (ofNat_lt hi) (AgX n i hi) (YK n a i ha hn hi) (YK n b i hb hn hi) hq),AS,Bc hi hn];exact AbS L n h a b hn ha hb d (i+1) Ac q (by omega) (by omega)
  ·have hq:ieq (h (toN (Aw (wr .i64 (Am (ofNat a) (ofNat i))) (ofNat n)))) (h (toN (Aw (wr .i64 (Am (ofNat b) (ofNat i))) (ofNat n))))=false:=by
    rw [e1,e2];show ieq (h ((a+i) % n)) (h ((b+i) % n))=false;simp [ieq,he]
   have hr:=Ai8 L n h a b i j (ofNat_lt hi) (AgX n i hi) (YK n a i ha hn hi) (YK n b i hb hn hi) hq;rw [e1,e2] at hr;rw [if_neg he];exact Ae hr
def XX:List V->A3
 | [v,.val (.int .i64 a),.val (.int .i64 b)]=>apI v λn h=>.br (Nr n) (.br (Av (inN n a) (inN n b)) (out (bV (JC n h (toN a) (toN b)))) .fail) .fail
 | _=>.fail
theorem AaC {a b:Bool} (h:Av a b=true):a=true∧b=true:=by simpa [Av] using h
theorem p113:Ar Tryz.prog Gl 79 XX:=by
 refine Ah A0 mixed Tryz.func79 (by kernel_rfl) (by kernel_rfl) λvs v h' hh=>?_;unfold XX at hh;split at hh
 ·rename_i u a b
  obtain ⟨n,h,hv,h1⟩:=Gf hh;obtain ⟨h8,h2⟩:=Ab h1;obtain ⟨hab,h3⟩:=Ab h2;have:=Aa h3;simp only [Prod.mk.injEq] at this;obtain ⟨rfl,rfl⟩:=this;obtain ⟨ha,hb⟩:=AaC hab;obtain ⟨ea,la⟩:=V3 ha;obtain ⟨eb,lb⟩:=V3 hb;have hA:B2 [u,iV a,iV b] [Co n h,iV (ofNat (toN a)),iV (ofNat (toN b))]:=λS w cs q=>by
   rw [<- ea,<- eb];obtain ⟨c,l,rfl,q1,q2⟩:=q;exact ⟨c,l,rfl,hv S w c q1,q2⟩
  have hx:=Bu H3 [(0,PI n h (toN a) (toN b))];have hL:=Bd [(0,PI n h (toN a) (toN b))];have hr:=λL=>AbS L n h (toN a) (toN b) (Ee h8) la lb n 0 (Adi n h (toN a) (toN b)) (n+1) (by omega) (by omega);refine ⟨_,BQ Gl tb0 [(0,PI n h (toN a) (toN b))],_,hA,rfl,hx.1,hx.2,?_,As.refl _⟩;unfold JC;cases hc:Lf n h (toN a) (toN b) n 0 with
  | none =>rw [hc] at hr;exact Bw (B9 hL hL) _ (AhF _ _ n h (toN a) (toN b) 0 (AW (hr _)))
  | some v =>rw [hc] at hr;exact Bw (B9 hL hL) _ (AhE _ _ n h (toN a) (toN b) v (AW (hr _)))
 ·cases hh
noncomputable def Yg:AD:=(79,XX)::[]
theorem Ab1:Al Tryz.prog Gl Yg:=.cons p113 .nil
def WU (n:Nat) (h:Nat->Int):Nat->Nat->Nat->Nat
 | 0,_,b=>b
 | d+1,i,b=>if JC n h i b=true then WU n h d (i+1) i else WU n h d (i+1) b
def refL (n:Nat) (h:Nat->Int):Nat:=WU n h (n-1) 1 0
theorem Pq {n:Nat} {h:Nat->Int}:∀ d i b,n=i+d->b<i->(∀ q,q<i->¬ K2 n h q b)->FZ n h (WU n h d i b)
 | 0,i,b,hd,hb,hq=>⟨by show b<n; omega,λq hq'=>hq q (by omega)⟩
 | d+1,i,b,hd,hb,hq=>by
  unfold WU;by_cases ha:JC n h i b=true
  ·rw [if_pos ha]
   have hl:=QP.1 ha;refine Pq d (i+1) i (by omega) (by omega) λq hq' hlt=>?_;by_cases hqi:q=i
   ·rw [hqi] at hlt; exact G4 hlt
   ·exact hq q (by omega) (NQ hlt hl)
  ·rw [if_neg ha]
   refine Pq d (i+1) b (by omega) (by omega) λq hq' hlt=>?_;by_cases hqi:q=i
   ·rw [hqi] at hlt; exact ha (QP.2 hlt)
   ·exact hq q (by omega) hlt
theorem Aca {n:Nat} (h:Nat->Int) (hn:0<n):FZ n h (refL n h):=Pq (n-1) 1 0 (by omega) (by omega) λq hq=>by
 have:q=0:=by omega
 subst this;exact G4
def PK (n:Nat) (_:Nat->Int):Lp:=⟨bmK 17 0 [0,2,3,4],0,bmK 17 0 [2,3],0,n+1⟩
def UG (n:Nat) (h:Nat->Int) (b i:Nat) (j:Nat->V):St:=⟨jsV 17 0 j [(0,.sl 1 n λk=>iV (h k)),(2,iV 0),(3,nV b),(4,nV i)],[]⟩
def X8 (_:Nat) (_:Nat->Int) (b _:Nat):Ex×St:=(.ex 0,⟨jsV 17 0 Ac [(2,iV 0),(3,nV b)],[]⟩)
noncomputable def M5 (L:LT):St->T (Ex×St):=λst=>A8 tab ⟨A9 Yg,L,Gl⟩ (A1 Tryz.f53 0) 0 st
section
variable (L:LT) (n:Nat) (h:Nat->Int) (b i:Nat)  (j:Nat->V)
include L n h b i j
theorem Acd (h0:ilt (ofNat i) (ofNat n)=false):Ap (M5 L) (PK n h) (UG n h b i j)=some ((.ex 0),⟨jsV 17 0 Ac [(2,iV 0),(3,nV b)],[]⟩):=by
 exact Ag (ks:=[kn h0]) (by kernel_rfl)
theorem AiE (h0:ilt (ofNat i) (ofNat n)=true) (h18:Nr n=true) (h19:inN n (ofNat i)=true) (h20:inN n (ofNat b)=true) (h1:JC n h i b=true):Ap (M5 L) (PK n h) (UG n h b i j)=some (.nm,⟨jsV 17 0 Ac [(0,.sl 1 n (λk=>iV (h k))),(2,iV 0),(3,nV i),(4,iV (wr .i64 (Am (ofNat i) 1)))],[]⟩):=by
 exact Ag (ks:=[kn h0,kL n,kn h18,kA (kn h19) (kn h20),kn h1]) (by kernel_rfl)
theorem AiF (h0:ilt (ofNat i) (ofNat n)=true) (h18:Nr n=true) (h19:inN n (ofNat i)=true) (h20:inN n (ofNat b)=true) (h1:JC n h i b=false):Ap (M5 L) (PK n h) (UG n h b i j)=some (.nm,⟨jsV 17 0 Ac [(0,.sl 1 n (λk=>iV (h k))),(2,iV 0),(3,nV b),(4,iV (wr .i64 (Am (ofNat i) 1)))],[]⟩):=by
 exact Ag (ks:=[kn h0,kL n,kn h18,kA (kn h19) (kn h20),kn h1]) (by kernel_rfl)
end
def Adj (_:Nat) (_:Nat->Int) :Nat->V:=lkV A7 []
theorem AgD (L:LT) (p0:PT) (n:Nat) (h:Nat->Int) (b i:Nat)  (hp0:p0 (M5 (onP 0 p0 (X8 n h b i) L)) (UG n h 0 1 (Adj n h ))=true):(AM (Au tab ⟨A9 Yg,onP 0 p0 (X8 n h b i) L,Gl⟩ Tryz.f53 [Co n h] [])).sem=some ((nV b),[]):=by
 exact Ag (ks:=[kn hp0]) (by kernel_rfl)
theorem WQ (L:LT) (n:Nat) (h:Nat->Int) (h8:Nr n=true):∀ (d i b:Nat) (j:Nat->V) (q:Nat),n=i+d->b<i->d<q ->
  (Ay (M5 L) (PK n h) q (UG n h b i j)).sem=some (X8 n h (WU n h d i b) n)
 | 0,i,b,j,q+1,h1,_,_=>by
  have:n=i:=by omega
  subst this;exact Ae (Acd L n h b n j (A4 (Nat.le_refl _)))
 | d+1,i,b,j,q+1,h1,hb,h2=>by
  have hi:i<n:=by omega
  unfold WU;cases ha:JC n h i b with
  | true =>rw [if_pos rfl,Ae (AiE L n h b i j (ofNat_lt hi) h8 (O9 hi) (O9 (by omega)) ha),AS,Bc hi (Ee h8)];exact WQ L n h h8 d (i+1) i Ac q (by omega) (by omega) (by omega)
  | false =>rw [if_neg (by decide),Ae (AiF L n h b i j (ofNat_lt hi) h8 (O9 hi) (O9 (by omega)) ha),AS,Bc hi (Ee h8)];exact WQ L n h h8 d (i+1) b Ac q (by omega) (by omega) (by omega)
def AgN:List V->A3:=Agw λn h=>.br (Nr n) (out (iV (ofNat (refL n h)))) .fail
theorem Aoe:Ar Tryz.prog Gl 53 AgN:=by
 refine Ah A0 mixed Tryz.func53 (by kernel_rfl) (by kernel_rfl) λvs v h' hh=>?_;obtain ⟨n,h,hA,h1⟩:=SE hh;obtain ⟨h8,h3⟩:=Ab h1;have:=Aa h3;simp only [Prod.mk.injEq] at this;obtain ⟨rfl,rfl⟩:=this;have hx:=Bu Ab1 [(0,PK n h)];have hL:=Bd [(0,PK n h)];refine ⟨_,BQ Gl Yg [(0,PK n h)],_,hA,rfl,hx.1,hx.2,?_,As.refl _⟩;unfold refL;rcases Nat.eq_zero_or_pos n with rfl | hn
 ·exact Bw (B9 hL hL) _ (AgD _ _ 0 h 0 0 (AW (Ae (Acd _ 0 h 0 1 (Adj 0 h) (A4 (by omega))))))
 ·exact Bw (B9 hL hL) _ (AgD _ _ n h _ n (AW (WQ _ n h h8 (n-1) 1 0 (Adj n h) (n+1) (by omega) (by omega) (by omega))))
def lp116 (n:Nat) (_:Nat->Int) (_ _:Nat) (_:Nat->Int):Lp:=⟨bmK 29 0 [0,1,2,6,7,8],0,bmK 29 0 [6],0,n+1⟩
noncomputable def tb106:AD:=[]
theorem tb106_ok:Al Tryz.prog Gl tb106:=.nil
noncomputable def R1:AD:=(54,Cj K7)::[]
theorem Ab2:Al Tryz.prog Gl R1:=.cons p25 .nil
def Ub (_:Nat) (_:Nat->E6) (k:Nat) (x:Nat->V):Ex×St:=(.rt,⟨jsV 31 0 Ac [(2,.ref 2),(3,bV false),(4,.ref 1)],[.row 3 1 0 λ_=>.und,.row 3 1 k x,.row 3 1 0 λ_=>.und]⟩)
def K1 (n:Nat) (_:Nat->E6):Lp:=⟨bmK 31 0 [0,2,3,4,5],2,bmK 31 0 [2,3,4],3,n+1⟩
def NE (n:Nat) (f:Nat->E6) (i k:Nat) (x:Nat->V) (j:Nat->V):St:=⟨jsV 31 0 j [(0,.sl 6 n λi=>eV (f i)),(2,.ref 0),(3,bV false),(4,.ref 1),(5,nV i)],[.row 3 1 0 λ_=>.und,.row 3 1 k x]⟩
def X9 (_:Nat) (_:Nat->E6) (_ k:Nat) (x:Nat->V):Ex×St:=(.ex 0,⟨jsV 31 0 Ac [(2,.ref 0),(3,bV false),(4,.ref 1)],[.row 3 1 0 λ_=>.und,.row 3 1 k x]⟩)
noncomputable def Hz (L:LT):St->T (Ex×St):=λst=>A8 tab ⟨A9 R1,L,Gl⟩ (A1 Tryz.f52 0) 0 st
section
variable (L:LT) (n:Nat) (f:Nat->E6) (i k:Nat) (x:Nat->V)  (j:Nat->V)
include L n f i k x j
theorem AiG (h0:ilt (ofNat i) (ofNat n)=false):Ap (Hz L) (K1 n f) (NE n f i k x j)=some ((.ex 0),⟨jsV 31 0 Ac [(2,.ref 0),(3,bV false),(4,.ref 1)],[.row 3 1 0 Ac,.row 3 1 k x]⟩):=by
 exact Ag (ks:=[kn h0]) (by kernel_rfl)
theorem Ace (h0:ilt (ofNat i) (ofNat n)=true) (h20:ile 0 (ofNat i)=true) (h1:ieq (AA (f i)) 0=true) (h21:CJ k 1 8=true):Ap (Hz L) (K1 n f) (NE n f i k x j)=some (.nm,⟨jsV 31 0 Ac [(0,.sl 6 n (λi=>eV (f i))),(2,.ref 0),(3,bV false),(4,.ref 1),(5,iV (wr .i64 (Am (ofNat i) 1)))],[.row 3 1 0 Ac,.row 3 1 (Cd k 1) (AE k x (iV (Aj (f i))))]⟩):=by
 exact Ag (ks:=[kn h0,kA (kn h20) (kn h0),kN (kn h1),kn h21]) (by kernel_rfl)
theorem Acf (h0:ilt (ofNat i) (ofNat n)=true) (h20:ile 0 (ofNat i)=true) (h1:ieq (AA (f i)) 0=false):Ap (Hz L) (K1 n f) (NE n f i k x j)=some (.rt,⟨jsV 31 0 Ac [(2,.ref 2),(3,bV false),(4,.ref 1)],[.row 3 1 0 Ac,.row 3 1 k x,.row 3 1 0 Ac]⟩):=by
 exact Ag (ks:=[kn h0,kA (kn h20) (kn h0),kN (kn h1)]) (by kernel_rfl)
end
def YH (_:Nat) (_:Nat->E6) :Nat->V:=lkV A7 []
theorem AhL (L:LT) (p0:PT) (n:Nat) (f:Nat->E6) (i k:Nat) (x:Nat->V)  (hp0:p0 (Hz (onP 0 p0 (X9 n f i k x) L)) (NE n f 0 0 Ac (YH n f ))=true):(AM (Au tab ⟨A9 R1,onP 0 p0 (X9 n f i k x) L,Gl⟩ Tryz.f52 [Ao n f] [])).sem=some ((.tup [.ref 0,bV true]),[.row 3 1 k x]):=by
 exact Ag (ks:=[kn hp0]) (by kernel_rfl)
theorem AhK (L:LT) (p0:PT) (n:Nat) (f:Nat->E6) (k:Nat) (x:Nat->V)  (hp0:p0 (Hz (onP 0 p0 (Ub n f k x) L)) (NE n f 0 0 Ac (YH n f ))=true):(AM (Au tab ⟨A9 R1,onP 0 p0 (Ub n f k x) L,Gl⟩ Tryz.f52 [Ao n f] [])).sem=some ((.tup [.ref 0,bV false]),[.row 3 1 0 Ac]):=by
 exact Ag (ks:=[kn hp0]) (by kernel_rfl)
theorem Ym (L:LT) (n:Nat) (f:Nat->E6) (hn:BZ n=true) (e:Nat) (he:e<n) (hb:AA (f e)=30) (ho:∀ t,t<e->AA (f t)=0):∀ (d i:Nat) (j:Nat->V) (q:Nat),e=i+d->d<q ->
  (Ay (Hz L) (K1 n f) q (NE n f i i (BL (cdV f) i) j)).sem=some (Ub n f e (BL (cdV f) e))
 | 0,i,j,q+1,h1,_=>by
  have:e=i:=by omega
  subst this;exact Ae (Acf L n f e e (BL (cdV f) e) j (ofNat_lt he) (NX e) (by rw [hb]; rfl))
 | d+1,i,j,q+1,h1,h2=>by
  have hi:i<n:=by omega
  have hr:=Ace L n f i i (BL (cdV f) i) j (ofNat_lt hi) (NX i) (by rw [ho i (by omega)]; rfl) (N5 hi (by decide) (of_decide_eq_true hn));rw [Ae hr,AS,Bc hi (Eu hn)];exact Ym L n f hn e he hb ho d (i+1) Ac q (by omega) (by omega)
theorem AbT (L:LT) (n:Nat) (f:Nat->E6) (hn:BZ n=true):∀ (d i:Nat) (j:Nat->V) (q:Nat),n=i+d->d<q->(∀ t,t<i->AA (f t)=0) ->
  (Bv n f=true∧(Ay (Hz L) (K1 n f) q (NE n f i i (BL (cdV f) i) j)).sem=some (X9 n f n n (BL (cdV f) n))) ∨ (Bv n f=false∧∃ e,(Ay (Hz L) (K1 n f) q (NE n f i i (BL (cdV f) i) j)).sem=some (Ub n f e (BL (cdV f) e)))
 | 0,i,j,q+1,h1,_,ho=>by
  have:n=i:=by omega
  subst this;exact .inl ⟨Bh.2 ho,Ae (AiG L n f n n _ j (A4 (Nat.le_refl _)))⟩
 | d+1,i,j,q+1,h1,h2,ho=>by
  have hi:i<n:=by omega
  by_cases hc:AA (f i)=0
  ·have hr:=Ace L n f i i (BL (cdV f) i) j (ofNat_lt hi) (NX i) (by rw [hc]; rfl) (N5 hi (by decide) (of_decide_eq_true hn))
   have ih:=AbT L n f hn d (i+1) Ac q (by omega) (by omega) λt ht=>by
    by_cases hti:t=i
    ·rw [hti]; exact hc
    ·exact ho t (by omega)
   rw [Ae hr,AS,Bc hi (Eu hn)];exact ih
  ·refine .inr ⟨?_,i,Ae (Acf L n f i i (BL (cdV f) i) j (ofNat_lt hi) (NX i) (by simp [ieq,hc]))⟩
   cases hm:Bv n f with
   | false=>rfl
   | true=>exact absurd (Bh.1 hm i hi) hc
def Uj:List V->A3:=QJ λn f=>.br (BZ n) (.br (Bv n f) (.leaf (.tup [.ref 0,bV true],[.row 3 1 n λi=>iV (Aj (f i))])) (.leaf (.tup [.ref 0,bV false],[.row 3 1 0 λ_=>.und]))) .fail
theorem AlL:Ar Tryz.prog Gl 52 Uj:=by
 refine Ah A0 mixed Tryz.func52 (by kernel_rfl) (by kernel_rfl) λvs v h' h=>?_;obtain ⟨n,f,ha,h⟩:=D7 h;obtain ⟨hn,h⟩:=Ab h;have hx:=Bu Ab2 [(0,K1 n f)];have hL:=Bd [(0,K1 n f)];have hr:=λL=>AbT L n f hn n 0 (YH n f) (n+1) (by omega) (by omega) λt ht=>absurd ht (Nat.not_lt_zero _);cases hm:Bv n f with
 | true =>rw [hm] at h;have:=Aa h;simp only [Prod.mk.injEq] at this;obtain ⟨rfl,rfl⟩:=this;exact ⟨_,BQ Gl R1 [(0,K1 n f)],_,ha,rfl,hx.1,hx.2,Bw (B9 hL hL) _ (AhL _ _ n f n n _ (AW ((hr _).elim (λq=>q.2) λq=>by rw [hm] at q; cases q.1))),As.one λj hj=>(HY (cdV f) n j hj).symm⟩
 | false =>rw [hm] at h;have:=Aa h;simp only [Prod.mk.injEq] at this;obtain ⟨rfl,rfl⟩:=this;obtain ⟨e,h1,h2,h3⟩:=P8 hm;exact ⟨_,BQ Gl R1 [(0,K1 n f)],_,ha,rfl,hx.1,hx.2,Bw (B9 hL hL) _ (AhK _ _ n f e (BL (cdV f) e) (AW (Ym _ n f hn e h1 h2 h3 e 0 (YH n f) (n+1) (by omega) (by omega)))),As.refl _⟩
noncomputable def AeT:AD:=(52,Uj)::(53,AgN)::(39,JF)::[]
theorem AeS:Al Tryz.prog Gl AeT:=.cons AlL <| .cons Aoe <| .cons p69 .nil
theorem Akz (L:LT) (n:Nat) (f:Nat->E6) (h19:BZ n=true) (h0:Bv n f=true) (h20:Nr n=true):(AM (Au tab ⟨A9 AeT,L,Gl⟩ Tryz.f23 [Ao n f] [])).sem=some ((.tup [.ref 0,iV 0]),[.row 46 6 n (λi=>eV (BV n f (ofNat (refL n (λi=>Aj (f i)))) i))]):=by
 exact Ag (ks:=[kL n,kn h19,kn h0,kN kT,kL n,kn h20,kL n,kn h19]) (by kernel_rfl)
def Yr:List V->A3:=QJ λn f=>.br (BZ n) (.br (Bv n f) (.leaf (.tup [.ref 0,iV 0],[.row 46 6 n λi=>eV (BV n f (ofNat (refL n λk=>Aj (f k))) i)])) (.leaf (.tup [.ref 0,iV 30],[.row 46 6 0 λ_=>.und]))) .fail
theorem p66:Ar Tryz.prog Gl 23 Yr:=by
 refine Ah A0 mixed Tryz.func23 (by kernel_rfl) (by kernel_rfl) λvs v h' h=>?_;obtain ⟨n,f,ha,h⟩:=D7 h;obtain ⟨hn,h⟩:=Ab h;have hx:=Bu AeS [];cases hm:Bv n f with
 | true =>rw [hm] at h;have:=Aa h;simp only [Prod.mk.injEq] at this;obtain ⟨rfl,rfl⟩:=this;exact ⟨_,BQ Gl AeT [],_,ha,rfl,hx.1,hx.2,Akz _ n f hn hm (HJ hn),As.refl _⟩
 | false =>rw [hm] at h;have:=Aa h;simp only [Prod.mk.injEq] at this;obtain ⟨rfl,rfl⟩:=this;exact ⟨_,BQ Gl AeT [],_,ha,rfl,hx.1,hx.2,Ag (ks:=[kL n,kn hn,kn hm,kN kF]) (by kernel_rfl)/-W:wc66n-/,As.refl _⟩
noncomputable def tb68:AD:=(52,Uj)::[]
theorem tb68_ok:Al Tryz.prog Gl tb68:=.cons AlL <| .nil
theorem I3 {n:Nat} {h g:Nat->Int} (hg:∀ i,i<n->g i=h i) (p i:Nat) (hn:0<n):Fw n g p i=Fw n h p i:=hg _ (Nat.mod_lt _ hn)
theorem V0 {n:Nat} {h g:Nat->Int} (hg:∀ i,i<n->g i=h i) {p:Nat} (hp:FZ n g p):FZ n h p:=by
 have hn:0<n:=by have:=hp.1; omega
 refine ⟨hp.1,λq hq hl=>hp.2 q hq ?_⟩;obtain ⟨s,h1,h2,h3⟩:=hl;exact ⟨s,h1,λt ht=>by rw [I3 hg _ _ hn,I3 hg _ _ hn]; exact h2 t ht,by rw [I3 hg _ _ hn,I3 hg _ _ hn]; exact h3⟩
theorem Zl {n:Nat} {f l:Nat->E6} (hm:Bv n f=true) (hl:∀ i,i<n->l i=f i):∀ i,i<n->Mx n l i=BV n f (ofNat (refL n λk=>Aj (f k))) i:=λi hi=>by
 have hn:0<n:=by omega
 have h1:FZ n (λk=>Aj (f k)) (D9 n λk=>Aj (l k)):=V0 (g:=λk=>Aj (l k)) (λt ht=>by show Aj (l t)=Aj (f t); rw [hl t ht]) (PN n _ hn);have h2:=Aca (λk=>Aj (f k)) hn;have h3:=Ado h1 h2 i hi;unfold Mx BV;rw [Z4 h2.1,hl _ (Nat.mod_lt _ hn)];exact Agn (Bh.1 hm _ (Nat.mod_lt _ hn)) (Bh.1 hm _ (Nat.mod_lt _ hn)) h3
end Go.Proofs.YtkbgidbledjejaaGreat.Ed
