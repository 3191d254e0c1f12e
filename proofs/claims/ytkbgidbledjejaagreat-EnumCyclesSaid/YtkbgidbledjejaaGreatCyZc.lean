/-
  Layer 6: the cycles handed out one by one, gathered: the program's Cycles. Conditions: as before.
-/
import Derived.Test.YtkbgidbledjejaaGreatEnWt
import Derived.Test.YtkbgidbledjejaaGreatCyTc
import Derived.Test.YtkbgidbledjejaaGreatEnE
namespace Go.Proofs.YtkbgidbledjejaaGreat.En
open Go.Sy Go Go.Proofs.YtkbgidbledjejaaGreat.Ed
set_option maxRecDepth 100000
theorem E7 {E:List V->List Blk->A3} {vs:List V} {h:List Blk} {r:V×List Blk} (he:(E vs h).sem=some r):((E vs h).sem.map λr=>(Ex.rt,(⟨[r.1],r.2⟩:St)))=some (.rt,⟨[r.1],r.2⟩):=by rw [he]; rfl
def rcd:Code->Option RngCode
 | .seq a b=>match rcd a with
  | some c=>some c
  | none=>rcd b
 | .block _ c=>rcd c
 | .cond _ a b=>match rcd a with
  | some c=>some c
  | none=>rcd b
 | .rangeFunc _ ps a b=>some ⟨ps,a,b⟩
 | _=>none
noncomputable def cd9:RngCode:=match Tryz.f9.body with
 | some c=>match rcd c with
  | some c=>c
  | none=>⟨#[],.skip,.skip⟩
 | none=>⟨#[],.skip,.skip⟩
noncomputable def ts9 (A n q:Int) (k:Nat) (w:Nat->E6):List V:=(jsV 43 0 (λ_=>A7) [(0,iV A),(1,.sl 6 k (λi=>eV (w i))),(2,iV n),(3,iV q),(7,.ptr 0 0),(8,.ptr 1 0),(9,.ptr 2 0),(10,iV (E3 A k w n)),(11,.ptr 3 0),(13,iV A),(14,.sl 6 k (λi=>eV (w i))),(15,iV n),(16,iV (E3 A k w n)),(17,iV (E3 A k w n)),(18,bV (AN (ieq (E3 A k w n) 0))),(20,iV q),(21,bV (ilt q 0)),(22,bV (ilt q 0)),(23,iV q),(24,bV (ilt 65536 q)),(25,bV (ilt 65536 q)),(26,.sl 6 k (λi=>eV (w i))),(27,iV n),(28,bV (HS k w n)),(29,iV A),(30,.sl 6 k (λi=>eV (w i))),(31,iV n),(32,.fn 41 [.ptr 4 0,.ptr 7 0,.ptr 5 0])])
noncomputable def tb19:AG:=(40,AeF)::[]
theorem tb19_ok:Al Tryz.prog Gl tb19:=.cons p40 <| .nil
noncomputable def tb9:AG:=(32,Vi)::(33,OZ)::[]
theorem Aja:Al Tryz.prog Gl tb9:=.cons Akh <| .cons p33 <| .nil
noncomputable def tb41:AG:=(32,Vi)::(33,OZ)::(44,Us)::[]
theorem tb41_ok:Al Tryz.prog Gl tb41:=.cons Akh <| .cons p33 <| .cons p44 <| .nil
noncomputable def E19:List V->List Blk->A3:=Ar tab (cxA Gl tb19 []) Tryz.f19
noncomputable abbrev cx9:Cx:=⟨QT [(19,E19)] (A5 tb9),Cp [],Gl⟩
def lp41:Lp:=⟨bmK 27 0 [0,5],18,bmK 27 0 [],21,10000000000000000000000000000000000000000000000000000⟩
noncomputable abbrev Ae6:Cx:=⟨QT [(42,UD E42),(43,UD E43)] (A5 tb41),Cp [(0,lp41,[(11,λ_=>iV 0)])],Gl⟩
noncomputable abbrev rN:Rg:=rgI [] Adg
noncomputable abbrev R41:Rg:=rgI [] (Agq tab cx9 rN)
noncomputable def E41:List V->List Blk->A3:=Up tab Ae6 R41 Tryz.f41
noncomputable abbrev R9:Rg:=rgI [(41,E41)] Adg
noncomputable def F9 (vs:List V):A3:=AL (Up tab cx9 R9 Tryz.f9 vs [])
noncomputable def B41:St->T (Ex×St):=λst=>Hd tab Ae6 R41 none (Aw Tryz.f41 0) 0 st
def Amh:List V:=jsV 27 0 Ac [(0,.ref 8),(5,.ptr 12 0)]
def Ag1:List V:=jsV 27 0 Ac []
noncomputable def S41 (A n q:Int) (k:Nat) (w:Nat->E6) (m:Nat) (v:Nat->E6) (L:Nat) (x:Nat->Int) (hs:Key->Bool) (gt:Key->V):St:=⟨Amh,[.cells [iV q],.cells [.nilS],.cells [iV 0],.cells [.nilS],.cells [iV A],.cells [iV n],.row 46 6 k (λi=>eV (w i)),.cells [.und],.rng cd9 (ts9 A n q k w) .ready,.saved (.ref 8::ts9 A n q k w),.row 46 6 m (λi=>eV (v i)),.row 3 1 L (λi=>iV (x i)),.cells [iV A,iV n,.ref 10,.ref 11],.gmap 86 [] hs gt]⟩
noncomputable def UI (A n q:Int) (k:Nat) (w:Nat->E6) (m:Nat) (v:Nat->E6) (L:Nat) (x:Nat->Int) (hs:Key->Bool) (gt:Key->V) (c:Nat) (g:Nat->V) (lv:Nat->Bool) (ln:Nat->Nat) (me:Nat->Nat->V):St:=⟨Amh,[.cells [iV q],.cells [.nilS],.cells [iV 0],.cells [.jref 17],.cells [iV A],.cells [iV n],.row 46 6 k (λi=>eV (w i)),.cells [.und],.rng cd9 (ts9 A n q k w) .ready,.saved (.ref 8::ts9 A n q k w),.row 46 6 m (λi=>eV (v i)),.row 3 1 L (λi=>iV (x i)),.cells [iV A,iV n,.ref 10,.ref 11],.gmap 86 [] hs gt,.dead,.dead,.dead,.jag ⟨22,1,c,g,0,46,6,lv,ln,me,none⟩]⟩
noncomputable def Alq (A n q:Int) (k:Nat) (w:Nat->E6) (m:Nat) (v:Nat->E6) (L:Nat) (x:Nat->Int) (hs:Key->Bool) (gt:Key->V):Ex×St:=(.ex 0,⟨Ag1,[.cells [iV q],.cells [.nilS],.cells [iV 0],.cells [.nilS],.cells [iV A],.cells [iV n],.row 46 6 k (λi=>eV (w i)),.cells [.und],.rng cd9 (ts9 A n q k w) .ready,.saved (.ref 8::ts9 A n q k w),.row 46 6 m (λi=>eV (v i)),.row 3 1 L (λi=>iV (x i)),.cells [iV A,iV n,.ref 10,.ref 11],.gmap 86 [] hs gt]⟩)
noncomputable def Alr (A n q:Int) (k:Nat) (w:Nat->E6) (m:Nat) (v:Nat->E6) (L:Nat) (x:Nat->Int) (hs:Key->Bool) (gt:Key->V):Ex×St:=(.rt,⟨Ag1,[.cells [iV q],.cells [.jref 16],.cells [iV 3],.cells [.nilS],.cells [iV A],.cells [iV n],.row 46 6 k (λi=>eV (w i)),.cells [.und],.rng cd9 (ts9 A n q k w) (.done .rt),.saved (.ref 8::ts9 A n q k w),.row 46 6 m (λi=>eV (v i)),.row 3 1 L (λi=>iV (x i)),.cells [iV A,iV n,.ref 10,.ref 11],.gmap 86 [] hs gt,.row 46 6 L (λk=>eV (v (toN (x k)))),.dead,.jag ⟨22,1,0,λ_=>.und,0,46,6,λ_=>true,λ_=>0,λ_ _=>.und,none⟩]⟩)
noncomputable def Ab6 (A n q:Int) (k:Nat) (w:Nat->E6) (m:Nat) (v:Nat->E6) (L:Nat) (x:Nat->Int) (hs:Key->Bool) (gt:Key->V) (c:Nat) (g:Nat->V) (lv:Nat->Bool) (ln:Nat->Nat) (me:Nat->Nat->V):Ex×St:=(.ex 0,⟨Ag1,[.cells [iV q],.cells [.nilS],.cells [iV 0],.cells [.jref 17],.cells [iV A],.cells [iV n],.row 46 6 k (λi=>eV (w i)),.cells [.und],.rng cd9 (ts9 A n q k w) .ready,.saved (.ref 8::ts9 A n q k w),.row 46 6 m (λi=>eV (v i)),.row 3 1 L (λi=>iV (x i)),.cells [iV A,iV n,.ref 10,.ref 11],.gmap 86 [] hs gt,.dead,.dead,.dead,.jag ⟨22,1,c,g,0,46,6,lv,ln,me,none⟩]⟩)
noncomputable def Ab7 (A n q:Int) (k:Nat) (w:Nat->E6) (m:Nat) (v:Nat->E6) (L:Nat) (x:Nat->Int) (hs:Key->Bool) (gt:Key->V) (c:Nat) (g:Nat->V) (lv:Nat->Bool) (ln:Nat->Nat) (me:Nat->Nat->V):Ex×St:=(.rt,⟨Ag1,[.cells [iV q],.cells [.jref 20],.cells [iV 3],.cells [.jref 17],.cells [iV A],.cells [iV n],.row 46 6 k (λi=>eV (w i)),.cells [.und],.rng cd9 (ts9 A n q k w) (.done .rt),.saved (.ref 8::ts9 A n q k w),.row 46 6 m (λi=>eV (v i)),.row 3 1 L (λi=>iV (x i)),.cells [iV A,iV n,.ref 10,.ref 11],.gmap 86 [] hs gt,.dead,.dead,.dead,.jag ⟨22,1,c,g,0,46,6,lv,ln,me,none⟩,.row 46 6 L (λk=>eV (v (toN (x k)))),.dead,.jag ⟨22,1,0,λ_=>.und,0,46,6,λ_=>true,λ_=>0,λ_ _=>.und,none⟩]⟩)
theorem An2 (A n q:Int) (k:Nat) (w:Nat->E6) (m:Nat) (v:Nat->E6) (L:Nat) (x:Nat->Int) (hs:Key->Bool) (gt:Key->V) (c:Nat) (g:Nat->V) (lv:Nat->Bool) (ln:Nat->Nat) (me:Nat->Nat->V) (h:∀ i,i<c->lv i=true):Ci (UI A n q k w m v L x hs gt c g lv ln me).h=true:=by
 simp only [UI,Ci,Bool.and_true,Bool.true_and,List.all_eq_true,List.mem_range];exact h
section
variable {A n q:Int} {k:Nat} {w:Nat->E6} {m:Nat} {v:Nat->E6} {L:Nat} {x:Nat->Int} {L2:Nat} {x2:Nat->Int} {hs:Key->Bool} {gt:Key->V}
section
variable (hE:(E43 [.ptr 0 0] (HE A n m v L x)).sem=some (bV true,HE A n m v L2 x2)) (hsr:srG m L2 x2=true) (hk:Fy 40 (Int.ofNat L2) (Int.ofNat L2)=true)
include hE hsr hk
theorem AoR (hq:ieq 0 q=true):Am B41 lp41 (S41 A n q k w m v L x hs gt)=some (Alr A n q k w m v L2 x2 hs gt):=DW.rd (.a (E7 hE) <| .k eT <| .k (eL m) <| .k (eL L2) <| .k hsr <| .k hk <| .k (rbE L2 λk=>v (toN (x2 k))) <| .k hq <| .k (eN eF) <| .l) (by kernel_rfl)
theorem AoP (hq:ieq 0 q=false):Am B41 lp41 (S41 A n q k w m v L x hs gt)=some (.nm,UI A n q k w m v L2 x2 hs gt 1 (AC 0 Ac .und) (CU (λ_=>true) 0 true) (Dn (λ_=>0) 0 L2) (Dj (λ_ _=>.und) 0 λi=>eV (v (toN (x2 i))))):=DW.rd (.a (E7 hE) <| .k eT <| .k (eL m) <| .k (eL L2) <| .k hsr <| .k hk <| .k (rbE L2 λk=>v (toN (x2 k))) <| .k hq <| .k eT <| .k (show Ck 0 1 24=true from by decide) <| .k (eN eT) <| .l) (by kernel_rfl)
variable {c:Nat} {g:Nat->V} {lv:Nat->Bool} {ln:Nat->Nat} {me:Nat->Nat->V} (hlv:∀ i,i<c->lv i=true)
include hlv
theorem AoM (hq:ieq (Int.ofNat c) q=true):Am B41 lp41 (UI A n q k w m v L x hs gt c g lv ln me)=some (Ab7 A n q k w m v L2 x2 hs gt c g lv ln me):=DW.rd (.a (E7 hE) <| .k eT <| .k (An2 A n q k w m v L2 x2 hs gt c g lv ln me hlv) <| .k (eL m) <| .k (eL L2) <| .k hsr <| .k hk <| .k (rbE L2 λk=>v (toN (x2 k))) <| .k hq <| .k (eN eF) <| .l) (by kernel_rfl)
theorem AoK (hq:ieq (Int.ofNat c) q=false) (hc:Ck c 1 24=true):Am B41 lp41 (UI A n q k w m v L x hs gt c g lv ln me)=some (.nm,UI A n q k w m v L2 x2 hs gt (c+1) (AC c g .und) (CU lv c true) (Dn ln c L2) (Dj me c λi=>eV (v (toN (x2 i))))):=DW.rd (.a (E7 hE) <| .k eT <| .k (An2 A n q k w m v L2 x2 hs gt c g lv ln me hlv) <| .k (eL m) <| .k (eL L2) <| .k hsr <| .k hk <| .k (rbE L2 λk=>v (toN (x2 k))) <| .k hq <| .k eT <| .k hc <| .k (eN eT) <| .l) (by kernel_rfl)
end
variable (hE:(E43 [.ptr 0 0] (HE A n m v L x)).sem=some (bV false,HE A n m v L2 x2))
include hE
theorem AoQ:Am B41 lp41 (S41 A n q k w m v L x hs gt)=some (Alq A n q k w m v L2 x2 hs gt):=DW.rd (.a (E7 hE) <| .k eF <| .l) (by kernel_rfl)
theorem AoL {c:Nat} {g:Nat->V} {lv:Nat->Bool} {ln:Nat->Nat} {me:Nat->Nat->V}:Am B41 lp41 (UI A n q k w m v L x hs gt c g lv ln me)=some (Ab6 A n q k w m v L2 x2 hs gt c g lv ln me):=DW.rd (.a (E7 hE) <| .k eF <| .l) (by kernel_rfl)
end
end Go.Proofs.YtkbgidbledjejaaGreat.En
namespace Go.Proofs.YtkbgidbledjejaaGreat.Ed
open Go.Sy Go
open Int (ofNat)
def inN (n:Nat) (a:Int):Bool:=Av (ile 0 a) (ilt a (ofNat n))
theorem OJ {n a:Nat} (h:a<n):inN n (ofNat a)=true:=Af h
theorem VO {n:Nat} {a:Int} (h:inN n a=true):a=ofNat (toN a)∧toN a<n:=by
 simp only [inN,Av,ile,ilt,Bool.and_eq_true,decide_eq_true_eq,Int.ofNat_eq_natCast] at h;simp only [toN,Int.ofNat_eq_natCast];omega
def Lh (n:Nat) (h:Nat->Int) (a b:Nat):Nat->Nat->Option Bool
 | 0,_=>none
 | d+1,i=>if h ((a+i) % n)=h ((b+i) % n) then Lh n h a b d (i+1) else some (decide (h ((a+i) % n)<h ((b+i) % n)))
def JG (n:Nat) (h:Nat->Int) (a b:Nat):Bool:=(Lh n h a b n 0).getD false
theorem Rf {n:Nat} {h:Nat->Int} {a b:Nat}:∀ d i,n=i+d->(∀ t,t<i->Fw n h a t=Fw n h b t)->((Lh n h a b d i).getD false=true↔K5 n h a b)
 | 0,i,hd,hi=>by
  refine ⟨λh1=>(by cases h1),λ⟨s,h1,_,h3⟩=>?_⟩;rw [hi s (by omega)] at h3;omega
 | d+1,i,hd,hi=>by
  unfold Lh;by_cases he:h ((a+i) % n)=h ((b+i) % n)
  ·rw [if_pos he]
   refine Rf d (i+1) (by omega) λt ht=>?_;by_cases hti:t=i
   ·rw [hti]; exact he
   ·exact hi t (by omega)
  ·rw [if_neg he]
   refine ⟨λh1=>⟨i,by omega,hi,of_decide_eq_true h1⟩,λ⟨s,h1,h2,h3⟩=>decide_eq_true ?_⟩;rcases Nat.lt_trichotomy s i with hs | hs | hs
   ·rw [hi s hs] at h3; omega
   ·rw [hs] at h3; exact h3
   ·exact absurd (h2 i hs) he
theorem Rh {n:Nat} {h:Nat->Int} {a b:Nat}:JG n h a b=true↔K5 n h a b:=Rf n 0 (by omega) λt ht=>absurd ht (Nat.not_lt_zero _)
def XY (_:Nat) (_:Nat->Int) (_ _:Nat) (v:Bool):Ex×St:=(.rt,⟨jsV 40 0 Ac [(6,bV v)],[]⟩)
def Qb (n:Nat) (_:Nat->Int) (_ _:Nat):Lp:=⟨bmK 40 0 [0,1,2,6,7,8],0,bmK 40 0 [6],0,n+1⟩
def RV (n:Nat) (h:Nat->Int) (a b:Nat) (i:Nat) (j:Nat->V):St:=⟨jsV 40 0 j [(0,.sl 1 n λk=>iV (h k)),(1,nV a),(2,nV b),(6,bV false),(7,nV n),(8,nV i)],[]⟩
def XZ (_:Nat) (_:Nat->Int) (_ _:Nat) (_:Nat):Ex×St:=(.ex 0,⟨jsV 40 0 Ac [(6,bV false)],[]⟩)
noncomputable def Kp (L:LT):St->T (Ex×St):=λst=>A6 tab ⟨A5 tb0,L,Gl⟩ (Aw Tryz.f79 0) 0 st
section
variable (L:LT) (n:Nat) (h:Nat->Int) (a b:Nat) (i:Nat)  (j:Nat->V)
include L n h a b i j
theorem AjS (h0:ilt (ofNat i) (ofNat n)=false):Am (Kp L) (Qb n h a b) (RV n h a b i j)=some ((.ex 0),⟨jsV 40 0 Ac [(6,bV false)],[]⟩):=by
 exact Ag (ks:=[kn h0]) (by kernel_rfl)
theorem AjR (h0:ilt (ofNat i) (ofNat n)=true) (h1:ieq (ofNat n) 0=false) (h20:Av (ile 0 (Ay (wr .i64 (Ai (ofNat a) (ofNat i))) (ofNat n))) (ilt (Ay (wr .i64 (Ai (ofNat a) (ofNat i))) (ofNat n)) (ofNat n))=true) (h22:Av (ile 0 (Ay (wr .i64 (Ai (ofNat b) (ofNat i))) (ofNat n))) (ilt (Ay (wr .i64 (Ai (ofNat b) (ofNat i))) (ofNat n)) (ofNat n))=true) (h2:ieq (h (toN (Ay (wr .i64 (Ai (ofNat a) (ofNat i))) (ofNat n)))) (h (toN (Ay (wr .i64 (Ai (ofNat b) (ofNat i))) (ofNat n))))=true):Am (Kp L) (Qb n h a b) (RV n h a b i j)=some (.nm,⟨jsV 40 0 Ac [(0,.sl 1 n (λk=>iV (h k))),(1,nV a),(2,nV b),(6,bV false),(7,nV n),(8,iV (wr .i64 (Ai (ofNat i) 1)))],[]⟩):=by
 exact Ag (ks:=[kn h0,kn h1,kn h20,kn h1,kn h22,kN (kn h2)]) (by kernel_rfl)
theorem AjQ (h0:ilt (ofNat i) (ofNat n)=true) (h1:ieq (ofNat n) 0=false) (h20:Av (ile 0 (Ay (wr .i64 (Ai (ofNat a) (ofNat i))) (ofNat n))) (ilt (Ay (wr .i64 (Ai (ofNat a) (ofNat i))) (ofNat n)) (ofNat n))=true) (h22:Av (ile 0 (Ay (wr .i64 (Ai (ofNat b) (ofNat i))) (ofNat n))) (ilt (Ay (wr .i64 (Ai (ofNat b) (ofNat i))) (ofNat n)) (ofNat n))=true) (h2:ieq (h (toN (Ay (wr .i64 (Ai (ofNat a) (ofNat i))) (ofNat n)))) (h (toN (Ay (wr .i64 (Ai (ofNat b) (ofNat i))) (ofNat n))))=false):Am (Kp L) (Qb n h a b) (RV n h a b i j)=some (.rt,⟨jsV 40 0 Ac [(6,bV (ilt (h (toN (Ay (wr .i64 (Ai (ofNat a) (ofNat i))) (ofNat n)))) (h (toN (Ay (wr .i64 (Ai (ofNat b) (ofNat i))) (ofNat n))))))],[]⟩):=by
 exact Ag (ks:=[kn h0,kn h1,kn h20,kn h1,kn h22,kN (kn h2)]) (by kernel_rfl)
end
def AdM (n:Nat) (h:Nat->Int) (_ _:Nat) :Nat->V:=lkV A7 [(11,.sl 1 n (λi=>iV (h i))),(12,nV n)]
theorem AiI (L:LT) (p0:PT) (n:Nat) (h:Nat->Int) (a b:Nat) (i:Nat)  (hp0:p0 (Kp (onP 0 p0 (XZ n h a b i) L)) (RV n h a b 0 (AdM n h a b ))=true):(AL (Ar tab ⟨A5 tb0,onP 0 p0 (XZ n h a b i) L,Gl⟩ Tryz.f79 [CH n h,nV a,nV b] [])).sem=some ((bV false),[]):=by
 exact Ag (ks:=[kn hp0]) (by kernel_rfl)
theorem AiH (L:LT) (p0:PT) (n:Nat) (h:Nat->Int) (a b:Nat) (v:Bool)  (hp0:p0 (Kp (onP 0 p0 (XY n h a b v) L)) (RV n h a b 0 (AdM n h a b ))=true):(AL (Ar tab ⟨A5 tb0,onP 0 p0 (XY n h a b v) L,Gl⟩ Tryz.f79 [CH n h,nV a,nV b] [])).sem=some ((bV v),[]):=by
 exact Ag (ks:=[kn hp0]) (by kernel_rfl)
theorem AeS (n a i:Nat) (ha:a<n) (hn:n <= 4611686018427387904) (hi:i<n):Ay (wr .i64 (Ai (ofNat a) (ofNat i))) (ofNat n)=ofNat ((a+i) % n)∧(a+i) % n<n:=by
 rw [GL (by omega),Kf];exact ⟨rfl,Nat.mod_lt _ (by omega)⟩
theorem Zp (n a i:Nat) (ha:a<n) (hn:n <= 4611686018427387904) (hi:i<n):Av (ile 0 (Ay (wr .i64 (Ai (ofNat a) (ofNat i))) (ofNat n))) (ilt (Ay (wr .i64 (Ai (ofNat a) (ofNat i))) (ofNat n)) (ofNat n))=true:=by
 obtain ⟨e1,l1⟩:=AeS n a i ha hn hi;rw [e1];exact Af l1
theorem AhT (n i:Nat) (hi:i<n):ieq (ofNat n) 0=false:=by rw [show (0:Int)=ofNat 0 from rfl,FO,decide_eq_false (by omega)]
theorem Ac5 (L:LT) (n:Nat) (h:Nat->Int) (a b:Nat) (hn:n <= 4611686018427387904) (ha:a<n) (hb:b<n):∀ (d i:Nat) (j:Nat->V) (q:Nat),n=i+d->d<q ->
  (Ax (Kp L) (Qb n h a b) q (RV n h a b i j)).sem=some (match Lh n h a b d i with | none=>XZ n h a b 0 | some v=>XY n h a b v)
 | 0,i,j,q+1,h1,_=>by
  have:n=i:=by omega
  subst this;exact Ae (AjS L n h a b n j (A1 (Nat.le_refl _)))
 | d+1,i,j,q+1,h1,h2=>by
  have hi:i<n:=by omega
  obtain ⟨e1,l1⟩:=AeS n a i ha hn hi;obtain ⟨e2,l2⟩:=AeS n b i hb hn hi;unfold Lh;by_cases he:h ((a+i) % n)=h ((b+i) % n)
  ·have hq:ieq (h (toN (Ay (wr .i64 (Ai (ofNat a) (ofNat i))) (ofNat n)))) (h (toN (Ay (wr .i64 (Ai (ofNat b) (ofNat i))) (ofNat n))))=true:=by
    rw [e1,e2];show ieq (h ((a+i) % n)) (h ((b+i) % n))=true;rw [he];exact AgP _
   rw [if_pos he,Ae (AjR L n h a b i j (ofNat_lt hi) (AhT n i hi) (Zp n a i ha hn hi) (Zp n b i hb hn hi) hq),AK,AT hi hn];exact Ac5 L n h a b hn ha hb d (i+1) Ac q (by omega) (by omega)
  ·have hq:ieq (h (toN (Ay (wr .i64 (Ai (ofNat a) (ofNat i))) (ofNat n)))) (h (toN (Ay (wr .i64 (Ai (ofNat b) (ofNat i))) (ofNat n))))=false:=by
    rw [e1,e2];show ieq (h ((a+i) % n)) (h ((b+i) % n))=false;simp [ieq,he]
   have hr:=AjQ L n h a b i j (ofNat_lt hi) (AhT n i hi) (Zp n a i ha hn hi) (Zp n b i hb hn hi) hq;rw [e1,e2] at hr;rw [if_neg he];exact Ae hr
def Yy:List V->A3
 | [v,.val (.int .i64 a),.val (.int .i64 b)]=>apI v λn h=>.br (N6 n) (.br (Av (inN n a) (inN n b)) (out (bV (JG n h (toN a) (toN b)))) .fail) .fail
 | _=>.fail
theorem Abo {a b:Bool} (h:Av a b=true):a=true∧b=true:=by simpa [Av] using h
theorem p113:As Tryz.prog Gl 79 Yy:=by
 refine Ah A2 mixed Tryz.func79 (by kernel_rfl) (by kernel_rfl) λvs v h' hh=>?_;unfold Yy at hh;split at hh
 ·rename_i u a b
  obtain ⟨n,h,hv,h1⟩:=Ge hh;obtain ⟨h8,h2⟩:=Ab h1;obtain ⟨hab,h3⟩:=Ab h2;have:=Aa h3;simp only [Prod.mk.injEq] at this;obtain ⟨rfl,rfl⟩:=this;obtain ⟨ha,hb⟩:=Abo hab;obtain ⟨ea,la⟩:=VO ha;obtain ⟨eb,lb⟩:=VO hb;have hA:By [u,iV a,iV b] [CH n h,iV (ofNat (toN a)),iV (ofNat (toN b))]:=λS w cs q=>by
   rw [<- ea,<- eb];obtain ⟨c,l,rfl,q1,q2⟩:=q;exact ⟨c,l,rfl,hv S w c q1,q2⟩
  have hx:=Bi H2 [(0,Qb n h (toN a) (toN b))];have hL:=AV [(0,Qb n h (toN a) (toN b))];have hr:=λL=>Ac5 L n h (toN a) (toN b) (Ee h8) la lb n 0 (AdM n h (toN a) (toN b)) (n+1) (by omega) (by omega);refine ⟨_,B7 Gl tb0 [(0,Qb n h (toN a) (toN b))],_,hA,rfl,hx.1,hx.2,?_,Au.refl _⟩;unfold JG;cases hc:Lh n h (toN a) (toN b) n 0 with
  | none =>rw [hc] at hr;exact Bh (Bg hL hL) _ (AiI _ _ n h (toN a) (toN b) 0 (AB (hr _)))
  | some v =>rw [hc] at hr;exact Bh (Bg hL hL) _ (AiH _ _ n h (toN a) (toN b) v (AB (hr _)))
 ·cases hh
noncomputable def Y6:AG:=(79,Yy)::[]
theorem Acc:Al Tryz.prog Gl Y6:=.cons p113 .nil
def Xs (n:Nat) (h:Nat->Int):Nat->Nat->Nat->Nat
 | 0,_,b=>b
 | d+1,i,b=>if JG n h i b=true then Xs n h d (i+1) i else Xs n h d (i+1) b
def refL (n:Nat) (h:Nat->Int):Nat:=Xs n h (n-1) 1 0
theorem P8 {n:Nat} {h:Nat->Int}:∀ d i b,n=i+d->b<i->(∀ q,q<i->¬ K5 n h q b)->Gb n h (Xs n h d i b)
 | 0,i,b,hd,hb,hq=>⟨by show b<n; omega,λq hq'=>hq q (by omega)⟩
 | d+1,i,b,hd,hb,hq=>by
  unfold Xs;by_cases ha:JG n h i b=true
  ·rw [if_pos ha]
   have hl:=Rh.1 ha;refine P8 d (i+1) i (by omega) (by omega) λq hq' hlt=>?_;by_cases hqi:q=i
   ·rw [hqi] at hlt; exact G3 hlt
   ·exact hq q (by omega) (Oa hlt hl)
  ·rw [if_neg ha]
   refine P8 d (i+1) b (by omega) (by omega) λq hq' hlt=>?_;by_cases hqi:q=i
   ·rw [hqi] at hlt; exact ha (Rh.2 hlt)
   ·exact hq q (by omega) hlt
theorem AcB {n:Nat} (h:Nat->Int) (hn:0<n):Gb n h (refL n h):=P8 (n-1) 1 0 (by omega) (by omega) λq hq=>by
 have:q=0:=by omega
 subst this;exact G3
def Qc (n:Nat) (_:Nat->Int):Lp:=⟨bmK 17 0 [0,2,3,4],0,bmK 17 0 [2,3],0,n+1⟩
def UV (n:Nat) (h:Nat->Int) (b i:Nat) (j:Nat->V):St:=⟨jsV 17 0 j [(0,.sl 1 n λk=>iV (h k)),(2,iV 0),(3,nV b),(4,nV i)],[]⟩
def Ya (_:Nat) (_:Nat->Int) (b _:Nat):Ex×St:=(.ex 0,⟨jsV 17 0 Ac [(2,iV 0),(3,nV b)],[]⟩)
noncomputable def MA (L:LT):St->T (Ex×St):=λst=>A6 tab ⟨A5 Y6,L,Gl⟩ (Aw Tryz.f53 0) 0 st
section
variable (L:LT) (n:Nat) (h:Nat->Int) (b i:Nat)  (j:Nat->V)
include L n h b i j
theorem AcE (h0:ilt (ofNat i) (ofNat n)=false):Am (MA L) (Qc n h) (UV n h b i j)=some ((.ex 0),⟨jsV 17 0 Ac [(2,iV 0),(3,nV b)],[]⟩):=by
 exact Ag (ks:=[kn h0]) (by kernel_rfl)
theorem AjW (h0:ilt (ofNat i) (ofNat n)=true) (h18:N6 n=true) (h19:inN n (ofNat i)=true) (h20:inN n (ofNat b)=true) (h1:JG n h i b=true):Am (MA L) (Qc n h) (UV n h b i j)=some (.nm,⟨jsV 17 0 Ac [(0,.sl 1 n (λk=>iV (h k))),(2,iV 0),(3,nV i),(4,iV (wr .i64 (Ai (ofNat i) 1)))],[]⟩):=by
 exact Ag (ks:=[kn h0,kL n,kn h18,kA (kn h19) (kn h20),kn h1]) (by kernel_rfl)
theorem AjX (h0:ilt (ofNat i) (ofNat n)=true) (h18:N6 n=true) (h19:inN n (ofNat i)=true) (h20:inN n (ofNat b)=true) (h1:JG n h i b=false):Am (MA L) (Qc n h) (UV n h b i j)=some (.nm,⟨jsV 17 0 Ac [(0,.sl 1 n (λk=>iV (h k))),(2,iV 0),(3,nV b),(4,iV (wr .i64 (Ai (ofNat i) 1)))],[]⟩):=by
 exact Ag (ks:=[kn h0,kL n,kn h18,kA (kn h19) (kn h20),kn h1]) (by kernel_rfl)
end
def AdN (_:Nat) (_:Nat->Int) :Nat->V:=lkV A7 []
theorem Ah6 (L:LT) (p0:PT) (n:Nat) (h:Nat->Int) (b i:Nat)  (hp0:p0 (MA (onP 0 p0 (Ya n h b i) L)) (UV n h 0 1 (AdN n h ))=true):(AL (Ar tab ⟨A5 Y6,onP 0 p0 (Ya n h b i) L,Gl⟩ Tryz.f53 [CH n h] [])).sem=some ((nV b),[]):=by
 exact Ag (ks:=[kn hp0]) (by kernel_rfl)
theorem Xp (L:LT) (n:Nat) (h:Nat->Int) (h8:N6 n=true):∀ (d i b:Nat) (j:Nat->V) (q:Nat),n=i+d->b<i->d<q ->
  (Ax (MA L) (Qc n h) q (UV n h b i j)).sem=some (Ya n h (Xs n h d i b) n)
 | 0,i,b,j,q+1,h1,_,_=>by
  have:n=i:=by omega
  subst this;exact Ae (AcE L n h b n j (A1 (Nat.le_refl _)))
 | d+1,i,b,j,q+1,h1,hb,h2=>by
  have hi:i<n:=by omega
  unfold Xs;cases ha:JG n h i b with
  | true =>rw [if_pos rfl,Ae (AjW L n h b i j (ofNat_lt hi) h8 (OJ hi) (OJ (by omega)) ha),AK,AT hi (Ee h8)];exact Xp L n h h8 d (i+1) i Ac q (by omega) (by omega) (by omega)
  | false =>rw [if_neg (by decide),Ae (AjX L n h b i j (ofNat_lt hi) h8 (OJ hi) (OJ (by omega)) ha),AK,AT hi (Ee h8)];exact Xp L n h h8 d (i+1) b Ac q (by omega) (by omega) (by omega)
def AhK:List V->A3:=Ahq λn h=>.br (N6 n) (out (iV (ofNat (refL n h)))) .fail
theorem Ap3:As Tryz.prog Gl 53 AhK:=by
 refine Ah A2 mixed Tryz.func53 (by kernel_rfl) (by kernel_rfl) λvs v h' hh=>?_;obtain ⟨n,h,hA,h1⟩:=Tb hh;obtain ⟨h8,h3⟩:=Ab h1;have:=Aa h3;simp only [Prod.mk.injEq] at this;obtain ⟨rfl,rfl⟩:=this;have hx:=Bi Acc [(0,Qc n h)];have hL:=AV [(0,Qc n h)];refine ⟨_,B7 Gl Y6 [(0,Qc n h)],_,hA,rfl,hx.1,hx.2,?_,Au.refl _⟩;unfold refL;rcases Nat.eq_zero_or_pos n with rfl | hn
 ·exact Bh (Bg hL hL) _ (Ah6 _ _ 0 h 0 0 (AB (Ae (AcE _ 0 h 0 1 (AdN 0 h) (A1 (by omega))))))
 ·exact Bh (Bg hL hL) _ (Ah6 _ _ n h _ n (AB (Xp _ n h h8 (n-1) 1 0 (AdN n h) (n+1) (by omega) (by omega) (by omega))))
def lp116 (n:Nat) (_:Nat->Int) (_ _:Nat) (_:Nat->Int):Lp:=⟨bmK 29 0 [0,1,2,6,7,8],0,bmK 29 0 [6],0,n+1⟩
noncomputable def tb106:AG:=[]
theorem tb106_ok:Al Tryz.prog Gl tb106:=.nil
noncomputable def RO:AG:=(54,Cm K9)::[]
theorem Acd:Al Tryz.prog Gl RO:=.cons p25 .nil
def Ur (_:Nat) (_:Nat->E6) (k:Nat) (x:Nat->V):Ex×St:=(.rt,⟨jsV 31 0 Ac [(2,.ref 2),(3,bV false),(4,.ref 1)],[.row 3 1 0 λ_=>.und,.row 3 1 k x,.row 3 1 0 λ_=>.und]⟩)
def K4 (n:Nat) (_:Nat->E6):Lp:=⟨bmK 31 0 [0,2,3,4,5],2,bmK 31 0 [2,3,4],3,n+1⟩
def NM (n:Nat) (f:Nat->E6) (i k:Nat) (x:Nat->V) (j:Nat->V):St:=⟨jsV 31 0 j [(0,.sl 6 n λi=>eV (f i)),(2,.ref 0),(3,bV false),(4,.ref 1),(5,nV i)],[.row 3 1 0 λ_=>.und,.row 3 1 k x]⟩
def Yb (_:Nat) (_:Nat->E6) (_ k:Nat) (x:Nat->V):Ex×St:=(.ex 0,⟨jsV 31 0 Ac [(2,.ref 0),(3,bV false),(4,.ref 1)],[.row 3 1 0 λ_=>.und,.row 3 1 k x]⟩)
noncomputable def Hx (L:LT):St->T (Ex×St):=λst=>A6 tab ⟨A5 RO,L,Gl⟩ (Aw Tryz.f52 0) 0 st
section
variable (L:LT) (n:Nat) (f:Nat->E6) (i k:Nat) (x:Nat->V)  (j:Nat->V)
include L n f i k x j
theorem AjY (h0:ilt (ofNat i) (ofNat n)=false):Am (Hx L) (K4 n f) (NM n f i k x j)=some ((.ex 0),⟨jsV 31 0 Ac [(2,.ref 0),(3,bV false),(4,.ref 1)],[.row 3 1 0 Ac,.row 3 1 k x]⟩):=by
 exact Ag (ks:=[kn h0]) (by kernel_rfl)
theorem AcF (h0:ilt (ofNat i) (ofNat n)=true) (h20:ile 0 (ofNat i)=true) (h1:ieq (AE (f i)) 0=true) (h21:Ck k 1 8=true):Am (Hx L) (K4 n f) (NM n f i k x j)=some (.nm,⟨jsV 31 0 Ac [(0,.sl 6 n (λi=>eV (f i))),(2,.ref 0),(3,bV false),(4,.ref 1),(5,iV (wr .i64 (Ai (ofNat i) 1)))],[.row 3 1 0 Ac,.row 3 1 (Bv k 1) (AC k x (iV (Ao (f i))))]⟩):=by
 exact Ag (ks:=[kn h0,kA (kn h20) (kn h0),kN (kn h1),kn h21]) (by kernel_rfl)
theorem AcG (h0:ilt (ofNat i) (ofNat n)=true) (h20:ile 0 (ofNat i)=true) (h1:ieq (AE (f i)) 0=false):Am (Hx L) (K4 n f) (NM n f i k x j)=some (.rt,⟨jsV 31 0 Ac [(2,.ref 2),(3,bV false),(4,.ref 1)],[.row 3 1 0 Ac,.row 3 1 k x,.row 3 1 0 Ac]⟩):=by
 exact Ag (ks:=[kn h0,kA (kn h20) (kn h0),kN (kn h1)]) (by kernel_rfl)
end
def Zm (_:Nat) (_:Nat->E6) :Nat->V:=lkV A7 []
theorem AiO (L:LT) (p0:PT) (n:Nat) (f:Nat->E6) (i k:Nat) (x:Nat->V)  (hp0:p0 (Hx (onP 0 p0 (Yb n f i k x) L)) (NM n f 0 0 Ac (Zm n f ))=true):(AL (Ar tab ⟨A5 RO,onP 0 p0 (Yb n f i k x) L,Gl⟩ Tryz.f52 [Ap n f] [])).sem=some ((.tup [.ref 0,bV true]),[.row 3 1 k x]):=by
 exact Ag (ks:=[kn hp0]) (by kernel_rfl)
theorem AiN (L:LT) (p0:PT) (n:Nat) (f:Nat->E6) (k:Nat) (x:Nat->V)  (hp0:p0 (Hx (onP 0 p0 (Ur n f k x) L)) (NM n f 0 0 Ac (Zm n f ))=true):(AL (Ar tab ⟨A5 RO,onP 0 p0 (Ur n f k x) L,Gl⟩ Tryz.f52 [Ap n f] [])).sem=some ((.tup [.ref 0,bV false]),[.row 3 1 0 Ac]):=by
 exact Ag (ks:=[kn hp0]) (by kernel_rfl)
theorem YD (L:LT) (n:Nat) (f:Nat->E6) (hn:Cl n=true) (e:Nat) (he:e<n) (hb:AE (f e)=30) (ho:∀ t,t<e->AE (f t)=0):∀ (d i:Nat) (j:Nat->V) (q:Nat),e=i+d->d<q ->
  (Ax (Hx L) (K4 n f) q (NM n f i i (BJ (cdV f) i) j)).sem=some (Ur n f e (BJ (cdV f) e))
 | 0,i,j,q+1,h1,_=>by
  have:e=i:=by omega
  subst this;exact Ae (AcG L n f e e (BJ (cdV f) e) j (ofNat_lt he) (Mc e) (by rw [hb]; rfl))
 | d+1,i,j,q+1,h1,h2=>by
  have hi:i<n:=by omega
  have hr:=AcF L n f i i (BJ (cdV f) i) j (ofNat_lt hi) (Mc i) (by rw [ho i (by omega)]; rfl) (NE hi (by decide) (of_decide_eq_true hn));rw [Ae hr,AK,AT hi (Et hn)];exact YD L n f hn e he hb ho d (i+1) Ac q (by omega) (by omega)
theorem Ac6 (L:LT) (n:Nat) (f:Nat->E6) (hn:Cl n=true):∀ (d i:Nat) (j:Nat->V) (q:Nat),n=i+d->d<q->(∀ t,t<i->AE (f t)=0) ->
  (BF n f=true∧(Ax (Hx L) (K4 n f) q (NM n f i i (BJ (cdV f) i) j)).sem=some (Yb n f n n (BJ (cdV f) n))) ∨ (BF n f=false∧∃ e,(Ax (Hx L) (K4 n f) q (NM n f i i (BJ (cdV f) i) j)).sem=some (Ur n f e (BJ (cdV f) e)))
 | 0,i,j,q+1,h1,_,ho=>by
  have:n=i:=by omega
  subst this;exact .inl ⟨BO.2 ho,Ae (AjY L n f n n _ j (A1 (Nat.le_refl _)))⟩
 | d+1,i,j,q+1,h1,h2,ho=>by
  have hi:i<n:=by omega
  by_cases hc:AE (f i)=0
  ·have hr:=AcF L n f i i (BJ (cdV f) i) j (ofNat_lt hi) (Mc i) (by rw [hc]; rfl) (NE hi (by decide) (of_decide_eq_true hn))
   have ih:=Ac6 L n f hn d (i+1) Ac q (by omega) (by omega) λt ht=>by
    by_cases hti:t=i
    ·rw [hti]; exact hc
    ·exact ho t (by omega)
   rw [Ae hr,AK,AT hi (Et hn)];exact ih
  ·refine .inr ⟨?_,i,Ae (AcG L n f i i (BJ (cdV f) i) j (ofNat_lt hi) (Mc i) (by simp [ieq,hc]))⟩
   cases hm:BF n f with
   | false=>rfl
   | true=>exact absurd (BO.1 hm i hi) hc
def Ux:List V->A3:=Oy λn f=>.br (Cl n) (.br (BF n f) (.leaf (.tup [.ref 0,bV true],[.row 3 1 n λi=>iV (Ao (f i))])) (.leaf (.tup [.ref 0,bV false],[.row 3 1 0 λ_=>.und]))) .fail
theorem Anc:As Tryz.prog Gl 52 Ux:=by
 refine Ah A2 mixed Tryz.func52 (by kernel_rfl) (by kernel_rfl) λvs v h' h=>?_;obtain ⟨n,f,ha,h⟩:=Dg h;obtain ⟨hn,h⟩:=Ab h;have hx:=Bi Acd [(0,K4 n f)];have hL:=AV [(0,K4 n f)];have hr:=λL=>Ac6 L n f hn n 0 (Zm n f) (n+1) (by omega) (by omega) λt ht=>absurd ht (Nat.not_lt_zero _);cases hm:BF n f with
 | true =>rw [hm] at h;have:=Aa h;simp only [Prod.mk.injEq] at this;obtain ⟨rfl,rfl⟩:=this;exact ⟨_,B7 Gl RO [(0,K4 n f)],_,ha,rfl,hx.1,hx.2,Bh (Bg hL hL) _ (AiO _ _ n f n n _ (AB ((hr _).elim (λq=>q.2) λq=>by rw [hm] at q; cases q.1))),Au.one λj hj=>(HY (cdV f) n j hj).symm⟩
 | false =>rw [hm] at h;have:=Aa h;simp only [Prod.mk.injEq] at this;obtain ⟨rfl,rfl⟩:=this;obtain ⟨e,h1,h2,h3⟩:=PS hm;exact ⟨_,B7 Gl RO [(0,K4 n f)],_,ha,rfl,hx.1,hx.2,Bh (Bg hL hL) _ (AiN _ _ n f e (BJ (cdV f) e) (AB (YD _ n f hn e h1 h2 h3 e 0 (Zm n f) (n+1) (by omega) (by omega)))),Au.refl _⟩
noncomputable def AfD:AG:=(52,Ux)::(53,AhK)::(39,JJ)::[]
theorem AfC:Al Tryz.prog Gl AfD:=.cons Anc <| .cons Ap3 <| .cons p69 .nil
theorem AlD (L:LT) (n:Nat) (f:Nat->E6) (h19:Cl n=true) (h0:BF n f=true) (h20:N6 n=true):(AL (Ar tab ⟨A5 AfD,L,Gl⟩ Tryz.f23 [Ap n f] [])).sem=some ((.tup [.ref 0,iV 0]),[.row 46 6 n (λi=>eV (BV n f (ofNat (refL n (λi=>Ao (f i)))) i))]):=by
 exact Ag (ks:=[kL n,kn h19,kn h0,kN kT,kL n,kn h20,kL n,kn h19]) (by kernel_rfl)
def YI:List V->A3:=Oy λn f=>.br (Cl n) (.br (BF n f) (.leaf (.tup [.ref 0,iV 0],[.row 46 6 n λi=>eV (BV n f (ofNat (refL n λk=>Ao (f k))) i)])) (.leaf (.tup [.ref 0,iV 30],[.row 46 6 0 λ_=>.und]))) .fail
theorem p66:As Tryz.prog Gl 23 YI:=by
 refine Ah A2 mixed Tryz.func23 (by kernel_rfl) (by kernel_rfl) λvs v h' h=>?_;obtain ⟨n,f,ha,h⟩:=Dg h;obtain ⟨hn,h⟩:=Ab h;have hx:=Bi AfC [];cases hm:BF n f with
 | true =>rw [hm] at h;have:=Aa h;simp only [Prod.mk.injEq] at this;obtain ⟨rfl,rfl⟩:=this;exact ⟨_,B7 Gl AfD [],_,ha,rfl,hx.1,hx.2,AlD _ n f hn hm (HF hn),Au.refl _⟩
 | false =>rw [hm] at h;have:=Aa h;simp only [Prod.mk.injEq] at this;obtain ⟨rfl,rfl⟩:=this;exact ⟨_,B7 Gl AfD [],_,ha,rfl,hx.1,hx.2,Ag (ks:=[kL n,kn hn,kn hm,kN kF]) (by kernel_rfl)/-W:wc66n-/,Au.refl _⟩
noncomputable def tb68:AG:=(52,Ux)::[]
theorem tb68_ok:Al Tryz.prog Gl tb68:=.cons Anc <| .nil
theorem I5 {n:Nat} {h g:Nat->Int} (hg:∀ i,i<n->g i=h i) (p i:Nat) (hn:0<n):Fw n g p i=Fw n h p i:=hg _ (Nat.mod_lt _ hn)
theorem VL {n:Nat} {h g:Nat->Int} (hg:∀ i,i<n->g i=h i) {p:Nat} (hp:Gb n g p):Gb n h p:=by
 have hn:0<n:=by have:=hp.1; omega
 refine ⟨hp.1,λq hq hl=>hp.2 q hq ?_⟩;obtain ⟨s,h1,h2,h3⟩:=hl;exact ⟨s,h1,λt ht=>by rw [I5 hg _ _ hn,I5 hg _ _ hn]; exact h2 t ht,by rw [I5 hg _ _ hn,I5 hg _ _ hn]; exact h3⟩
theorem ZK {n:Nat} {f l:Nat->E6} (hm:BF n f=true) (hl:∀ i,i<n->l i=f i):∀ i,i<n->M3 n l i=BV n f (ofNat (refL n λk=>Ao (f k))) i:=λi hi=>by
 have hn:0<n:=by omega
 have h1:Gb n (λk=>Ao (f k)) (DI n λk=>Ao (l k)):=VL (g:=λk=>Ao (l k)) (λt ht=>by show Ao (l t)=Ao (f t); rw [hl t ht]) (Qg n _ hn);have h2:=AcB (λk=>Ao (f k)) hn;have h3:=AdQ h1 h2 i hi;unfold M3 BV;rw [Aac h2.1,hl _ (Nat.mod_lt _ hn)];exact Ahj (BO.1 hm _ (Nat.mod_lt _ hn)) (BO.1 hm _ (Nat.mod_lt _ hn)) h3
end Go.Proofs.YtkbgidbledjejaaGreat.Ed
