/-
  Layer 6: the beginning of a search: the vocabulary by its codes. Conditions: edges have codes.
-/
import Derived.Test.YtkbgidbledjejaaGreatEnJ
import Derived.Test.YtkbgidbledjejaaGreatSyOc
import Derived.Test.YtkbgidbledjejaaGreatEnG
namespace Go.Proofs.YtkbgidbledjejaaGreat.En
open Go.Sy Go Go.Proofs.YtkbgidbledjejaaGreat.Ed
open Int (ofNat)
set_option maxRecDepth 100000
theorem AiL (g:Key->E6) (k:Key) (x:E6):Rh (λy=>eV (g y)) k (eV x)=λy=>eV (bif keq y k then x else g y):=by
 funext y;unfold Rh;rw [Ep];cases keq y k <;> rfl
def hsC (e:Nat->E6):Nat->Key->Bool
 | 0=>λ_=>false
 | i+1=>Tc (hsC e i) (.i (Aj (e i)))
def gtC (e:Nat->E6):Nat->Key->E6
 | 0=>λ_=>Ba
 | i+1=>λy=>bif keq y (.i (Aj (e i))) then e i else gtC e i y
theorem EG.dep {P:Program} {G:Nat->V} {f:FuncId} {E:List V->List Blk->A3} (he:HQ P f) (h:∀ vs hp r,(E vs hp).sem=some r->∃ E',EG P G f E'∧(E' vs hp).sem=some r):EG P G f E :=
 ⟨he,λvs cs κ S hp w v h' h1 h2 h3 h4=>by
  obtain ⟨E',q1,q2⟩:=h vs hp _ h4;exact q1.2 vs cs κ S hp w v h' h1 h2 h3 q2⟩
def F5 (hs:Key->Bool):Nat->List Nat
 | 0=>[]
 | c+1=>bif hs (.i (ofNat c)) then F5 hs c++[c] else F5 hs c
def KC (gt:Key->E6) (l:List Nat) (i:Nat):E6:=gt (.i (ofNat (l.getD i 0)))
theorem SQ (hs:Key->Bool):∀ c,(F5 hs c).length <= c
 | 0=>Nat.le_refl 0
 | c+1=>by
  have:=SQ hs c;unfold F5;cases hs (.i (ofNat c)) with
  | true=>simp; omega
  | false=>exact Nat.le_succ_of_le this
theorem Qb {b:Nat} (h:b<112):ilt (ofNat b) 112=true:=decide_eq_true (by show (b:Int)<112; omega)
theorem TY {b:Nat} (h:b<112):IM (ofNat b)=true:=by
 simp only [IM,Bool.and_eq_true,decide_eq_true_eq,Int.ofNat_eq_natCast];omega
theorem AiN {gt:Key->E6} {hs:Key->Bool} {l:List Nat} {b:Nat} (h:hs (.i (ofNat b))=true):AE l.length (λi=>eV (KC gt l i)) (Ct 1 [Re (hs (.i (ofNat b))) (eV (gt (.i (ofNat b)))) (eV Ba)] 0)=λi=>eV (KC gt (l++[b]) i):=by
 funext i;rw [Ca,h];unfold KC;rcases Nat.lt_trichotomy i l.length with hi | hi | hi
 ·rw [Hg (by omega),List.getD_eq_getElem?_getD,List.getD_eq_getElem?_getD,List.getElem?_append_left hi]
  rfl
 ·subst hi
  rw [Nat.beq_refl];show eV (gt (.i (ofNat b)))=eV (gt (.i (ofNat ((l++[b]).getD l.length 0))));rw [List.getD_eq_getElem?_getD,List.getElem?_append_right (Nat.le_refl _),Nat.sub_self];rfl
 ·rw [Hg (by omega),List.getD_eq_getElem?_getD,List.getD_eq_getElem?_getD,List.getElem?_eq_none (by omega),List.getElem?_eq_none (by simp; omega)]
  rfl
def Ahh:Lp:=⟨bmK 58 0 [6,7,8,21,22,23],6,bmK 58 0 [6,7,8],6,4611686018427387905⟩
def Y8:Lp:=⟨bmK 58 0 [6,7,8,36],6,bmK 58 0 [6,7,8],6,4611686018427387905⟩
noncomputable def AkK:AD:=(71,Cj K7)::[]
theorem AeZ:Al Tryz.prog Gl AkK:=.cons p24 <| .nil
def AlX (z:E6):List (Nat×Lp×List (Nat×(Nat->V))):=[(0,Ahh,[]),(2,Y8,[(2,λ_=>eV z)])]
noncomputable abbrev AdN (z:E6):Cx:=cxA Gl AkK (AlX z)
def z42 (e:Nat->E6) (k:Nat):E6:=gtC e k (.i (ofNat 0))
noncomputable def E42 (vs:List V) (h:List Blk):A3:=match h with
 | .row _ _ k g::_=>Au tab (AdN (z42 (λi=>edE (g i)) k)) Tryz.f42 vs h
 | _=>.fail
theorem AlI:EG Tryz.prog Gl 42 (QI E42):=by
 have hz:=λz=>by
  have hx:=AZ AeZ (AlX z) (G:=Gl);exact (Ii (P:=Tryz.prog) A0 (Γ:=AdN z) mixed hx.1 hx.2 Tryz.func42 (by kernel_rfl) (by kernel_rfl))
 exact (EG.dep (hz Ba).1 (E:=E42) λvs h r hr=>by
  unfold E42 at hr;split at hr
  ·exact ⟨_,hz _,hr⟩
  ·cases hr).ask
def T0 (a n:Int) (k:Nat) (e:Nat->E6) (c:Int) (hs:Key->Bool) (gt:Key->V):St:=⟨jsV 58 0 Ac [(6,.val (.pointer none)),(7,.ptr 4 0),(8,.ref 5),(21,.ref 0),(22,nV k),(23,iV c)],[.row 46 6 k (λi=>eV (e i)),.saved [.und],.row 46 6 0 Ac,.row 3 1 0 Ac,.cells [iV a,iV n,.ref 2,.ref 3],.gmap 86 [] hs gt]⟩
def T2 (a n:Int) (k:Nat) (e:Nat->E6) (hs:Key->Bool) (gt:Key->E6) (c:Int) (q:Nat) (w:Nat->V):St:=⟨jsV 58 0 Ac [(6,.val (.pointer none)),(7,.ptr 4 0),(8,.ref 5),(36,iV c)],[.row 46 6 k (λi=>eV (e i)),.saved [.und],.row 46 6 q w,.row 3 1 0 Ac,.cells [iV a,iV n,.ref 2,.ref 3],.gmap 86 [] hs (λx=>eV (gt x))]⟩
noncomputable def AoB (z:E6):St->T (Ex×St):=λst=>A8 tab (AdN z) (A1 Tryz.f42 0) 0 st
noncomputable def Aka (z:E6):St->T (Ex×St):=λst=>A8 tab (AdN z) (A1 Tryz.f42 2) 2 st
section
variable {a n:Int} {k:Nat} {e:Nat->E6} {z:E6}
theorem An7 (hk:k <= 4611686018427387904) (hf:∀ i,i<k->IM (Aj (e i))=true):(Ay (AoB z) Ahh 4611686018427387905 (T0 a n k e 0 (hsC e 0) (λy=>eV (gtC e 0 y)))).sem=some (.ex 0,⟨jsV 58 0 Ac [(6,.val (.pointer none)),(7,.ptr 4 0),(8,.ref 5)],[.row 46 6 k (λi=>eV (e i)),.saved [.und],.row 46 6 0 Ac,.row 3 1 0 Ac,.cells [iV a,iV n,.ref 2,.ref 3],.gmap 86 [] (hsC e k) (λy=>eV (gtC e k y))]⟩) :=
 C0 (S:=λb=>T0 a n k e (ofNat b) (hsC e b) (λy=>eV (gtC e b y))) (by intro h; cases h) (λb hb=>have hf:=hf b hb; DW.rd (.k (ofNat_lt hb) <| .k (Af hb) <| .k (decide_eq_true hb) <| .k hf <| .e (nm3 (f:=λc hs gt=>T0 a n k e c hs gt) (C2 (by omega)) rfl (AiL (gtC e b) (.i (Aj (e b))) (e b)))) (by kernel_rfl)) (DW.rd (.k (A4 (Nat.le_refl k)) <| .l) (by kernel_rfl)) (by omega)
theorem AlC (k:Nat) (e:Nat->E6) (hs:Key->Bool) (gt:Key->E6):∀ d b m,b+d=112->d<m->(Ay (Aka z) Y8 m (T2 a n k e hs gt (ofNat b) (F5 hs b).length (λi=>eV (KC gt (F5 hs b) i)))).sem=some (.ex 2,⟨jsV 58 0 Ac [(6,.val (.pointer none)),(7,.ptr 4 0),(8,.ref 5)],[.row 46 6 k (λi=>eV (e i)),.saved [.und],.row 46 6 (F5 hs 112).length (λi=>eV (KC gt (F5 hs 112) i)),.row 3 1 0 Ac,.cells [iV a,iV n,.ref 2,.ref 3],.gmap 86 [] hs (λx=>eV (gt x))]⟩)
 | 0,b,m,h,hm=>by
  obtain ⟨m,rfl⟩:∃ o,m=o+1:=⟨m-1,by omega⟩;obtain rfl:b=112:=by omega
  have hb:ilt (ofNat 112) 112=false:=rfl;generalize hq:(F5 hs 112).length=q;generalize KC gt (F5 hs 112)=w;exact Ae (t:=some (.ex 2,_)) (DW.rd (.k hb .l) (by kernel_rfl))
 | d+1,b,m,h,hm=>by
  obtain ⟨m,rfl⟩:∃ o,m=o+1:=⟨m-1,by omega⟩;have hb:b<112:=by omega
  have hl:=SQ hs b;have ih:=AlC k e hs gt d (b+1) m (by omega) (by omega);cases h1:hs (.i (ofNat b)) with
  | true =>
   have e1:F5 hs (b+1)=F5 hs b++[b]:=by rw [F5,h1]; rfl
   rw [e1] at ih;generalize F5 hs b=l at ih hl;have hr:Ap (Aka z) Y8 (T2 a n k e hs gt (ofNat b) l.length (λi=>eV (KC gt l i)))=some (.nm,T2 a n k e hs gt (ofNat (b+1)) (l.length+1) (λi=>eV (KC gt (l++[b]) i))):=by
    have hp:=AiN (gt:=gt) (hs:=hs) (l:=l) h1;have hq:l.length<112:=by omega
    generalize hL:l.length=q at hp hq;generalize hw:KC gt l=w at hp;exact DW.rd (.k (Qb hb) <| .k (TY hb) <| .k h1 <| .k (show CJ q 1 40=true from decide_eq_true (by omega)) <| .e (nm3 (f:=λc q w=>T2 a n k e hs gt c q w) (C2 (by omega)) rfl hp)) (by kernel_rfl)
   rw [Ae hr];rw [List.length_append] at ih;exact ih
  | false =>
   have e1:F5 hs (b+1)=F5 hs b:=by rw [F5,h1]; rfl
   rw [e1] at ih;generalize F5 hs b=l at ih hl;have hr:Ap (Aka z) Y8 (T2 a n k e hs gt (ofNat b) l.length (λi=>eV (KC gt l i)))=some (.nm,T2 a n k e hs gt (ofNat (b+1)) l.length (λi=>eV (KC gt l i))):=by
    generalize l.length=q;generalize KC gt l=w;exact DW.rd (.k (Qb hb) <| .k (TY hb) <| .k h1 <| .e (nm1 (f:=λc=>T2 a n k e hs gt c q (λi=>eV (w i))) (C2 (by omega)))) (by kernel_rfl)
   rw [Ae hr];exact ih
theorem Wj (hk:k <= 4611686018427387904) (hf:∀ i,i<k->IM (Aj (e i))=true):(E42 [iV a,.ref 0,iV n] [.row 46 6 k (λi=>eV (e i)),.saved [.und]]).sem=some (.ptr 4 0,[.row 46 6 k (λi=>eV (e i)),.saved [.und],.row 46 6 (F5 (hsC e k) 112).length (λi=>eV (KC (gtC e k) (F5 (hsC e k) 112) i)),.row 3 1 0 Ac,.cells [iV a,iV n,.ref 2,.ref 3],.gmap 86 [] (hsC e k) (λy=>eV (gtC e k y))]):=by
 have h0:=An7 (z:=z42 e k) (a:=a) (n:=n) hk hf;have h2:=AlC (z:=z42 e k) (a:=a) (n:=n) k e (hsC e k) (gtC e k) 112 0 4611686018427387905 rfl (by omega);generalize hL:(F5 (hsC e k) 112).length=q at h2;generalize hw:KC (gtC e k) (F5 (hsC e k) 112)=w at h2;exact (DW.ok (.a h0 <| .a h2 <| .l) (by kernel_rfl):(Au tab (AdN (z42 e k)) Tryz.f42 [iV a,.ref 0,iV n] [.row 46 6 k (λi=>eV (e i)),.saved [.und]]).sem=some _)
end
end Go.Proofs.YtkbgidbledjejaaGreat.En
namespace Go.Proofs.YtkbgidbledjejaaGreat.En
open Go.Sy Go Go.Proofs.YtkbgidbledjejaaGreat.Ed
open Int (ofNat)
set_option maxRecDepth 100000
theorem I1 (z:Nat->Bool) (i:Nat) (e:Bool):BJ (λk=>bV (z k)) i (bV e)=λk=>bV (bif Nat.beq k i then e else z k):=by
 funext k;rw [D1];cases Nat.beq k i <;> rfl
def oS (o:Bool) (e:E6) (p r:Int):Bool:=sel o true (sel (ieq e.src p) (ieq e.dst r) false)
def oC (w:Nat->E6) (p r:Int):Nat->Bool
 | 0=>false
 | i+1=>oS (oC w p r i) (w i) p r
def thC (w:Nat->E6):Nat->Nat->Bool
 | 0=>λ_=>false
 | i+1=>λx=>bif Nat.beq x (toN (Aj (w i))) then true else thC w i x
def GX (th:Nat->Bool) (o c:Bool) (b:Nat):Bool:=sel (th b) (sel (ieq (B6 b).src (B6 b).dst) true (sel o c false)) false
def Cc (th:Nat->Bool) (o c:Bool):Nat->List Nat
 | 0=>[]
 | b+1=>bif GX th o c b then Cc th o c b++[b] else Cc th o c b
def mkE (l:List Nat) (i:Nat):E6:=B6 (l.getD i 0)
theorem TF (th:Nat->Bool) (o c:Bool):∀ b,(Cc th o c b).length <= b
 | 0=>Nat.le_refl 0
 | b+1=>by
  have:=TF th o c b;unfold Cc;cases GX th o c b with
  | true=>simp; omega
  | false=>exact Nat.le_succ_of_le this
theorem V2 {b:Nat} (h:b<112):inR (ofNat b)=true:=by
 unfold inR;simp only [Bool.and_eq_true,decide_eq_true_eq,Int.ofNat_eq_natCast];omega
theorem Np {b:Nat} (h:b<112):Av (ile 0 (ofNat b)) (ilt (ofNat b) 112)=true:=Af (n:=112) h
theorem AiM (l:List Nat) (b:Nat):AE l.length (λi=>eV (mkE l i)) (Ct 1 [eV (B6 b)] 0)=λi=>eV (mkE (l++[b]) i):=by
 funext i;rw [Ca];unfold mkE;rcases Nat.lt_trichotomy i l.length with hi | hi | hi
 ·rw [Hg (by omega),List.getD_eq_getElem?_getD,List.getD_eq_getElem?_getD,List.getElem?_append_left hi]
  rfl
 ·subst hi
  rw [Nat.beq_refl];show eV (B6 b)=eV (B6 ((l++[b]).getD l.length 0));rw [List.getD_eq_getElem?_getD,List.getElem?_append_right (Nat.le_refl _),Nat.sub_self];rfl
 ·rw [Hg (by omega),List.getD_eq_getElem?_getD,List.getD_eq_getElem?_getD,List.getElem?_eq_none (by omega),List.getElem?_eq_none (by simp; omega)]
  rfl
noncomputable def AkN:AD:=(54,Cj K7)::(69,ofT)::[]
theorem Afc:Al Tryz.prog Gl AkN:=.cons p25 <| .cons p31 <| .nil
def AcN:Lp:=⟨bmK 98 0 [0,2,3,4,5,6],2,bmK 98 0 [2,3,4,5],2,4611686018427387905⟩
def Y9:Lp:=⟨bmK 98 0 [2,3,4,5,9,10],3,bmK 98 0 [9],3,4611686018427387905⟩
def AlY:List (Nat×Lp×List (Nat×(Nat->V))):=[(0,AcN,[]),(2,Y9,[(2,λ_=>eV (B6 0))])]
noncomputable abbrev AjB:Cx:=cxA Gl AkN AlY
def U0 (k:Nat) (w:Nat->E6) (n:Int) (o c:Bool) (th:Nat->V):St:=⟨jsV 98 0 Ac [(0,Ao k w),(2,.ref 0),(3,.ref 1),(4,bV o),(5,bV c),(6,iV n)],[.row 46 6 0 Ac,.row 4 1 112 th]⟩
def U2 (o c:Bool) (th:Nat->Bool) (n:Int) (q:Nat) (v:Nat->V):St:=⟨jsV 98 0 Ac [(2,.ref 0),(3,.ref 1),(4,bV o),(5,bV c),(9,.ref 2),(10,iV n)],[.row 46 6 0 Ac,.row 4 1 112 (λi=>bV (th i)),.row 46 6 q v]⟩
noncomputable def Ank:St->T (Ex×St):=λst=>A8 tab AjB (A1 Tryz.f36 0) 0 st
noncomputable def Akb:St->T (Ex×St):=λst=>A8 tab AjB (A1 Tryz.f36 2) 2 st
section
variable {k:Nat} {w:Nat->E6}
theorem An1 {b:Nat} (hk:k <= 4611686018427387904) (hb:b<k) (hf:ieq (AA (w b)) 0=true) (hr:Av (ile 0 (Aj (w b))) (ilt (Aj (w b)) 112)=true) (hn:nlt (toN (Aj (w b))) 112=true) (o c:Bool) (th:Nat->Bool):Ap Ank AcN (U0 k w (ofNat b) o c (λi=>bV (th i)))=some (.nm,U0 k w (ofNat (b+1)) (oS o (w b) 1 2) (oS c (w b) 2 1) (λi=>bV (bif Nat.beq i (toN (Aj (w b))) then true else th i))):=DW.rd (.k (ofNat_lt hb) <| .k (Af hb) <| .k hf <| .k hr <| .k hn <| .c o (λh1=>.r 9 h1 <| .c c (λh2=>.r 9 h2 <| .e (nm4 (f:=λn o c th=>U0 k w n o c th) (C2 (by omega)) (show true=oS o (w b) 1 2 from by unfold oS; rw [h1] <;> rfl) (show true=oS c (w b) 2 1 from by unfold oS; rw [h2] <;> rfl) (I1 th (toN (Aj (w b))) true))) λh2=>.r 3 h2 <| .k (Af hb) <| .r 4 h2 <| .c (ieq (w b).src 2) (λh3=>.r 3 h3 <| .k (Af hb) <| .r 3 h3 <| .k h2 <| .k h3 <| .k h2 <| .e (nm4 (f:=λn o c th=>U0 k w n o c th) (C2 (by omega)) (show true=oS o (w b) 1 2 from by unfold oS; rw [h1] <;> rfl) (show ieq (w b).dst 1=oS c (w b) 2 1 from by unfold oS; rw [h2,h3] <;> rfl) (I1 th (toN (Aj (w b))) true))) λh3=>.r 6 h3 <| .k h2 <| .k h3 <| .k h2 <| .e (nm4 (f:=λn o c th=>U0 k w n o c th) (C2 (by omega)) (show true=oS o (w b) 1 2 from by unfold oS; rw [h1] <;> rfl) (show false=oS c (w b) 2 1 from by unfold oS; rw [h2,h3] <;> rfl) (I1 th (toN (Aj (w b))) true))) λh1=>.r 3 h1 <| .k (Af hb) <| .r 4 h1 <| .c (ieq (w b).src 1) (λh4=>.r 3 h4 <| .k (Af hb) <| .r 3 h4 <| .k h1 <| .k h4 <| .k h1 <| .c c (λh5=>.r 9 h5 <| .e (nm4 (f:=λn o c th=>U0 k w n o c th) (C2 (by omega)) (show ieq (w b).dst 2=oS o (w b) 1 2 from by unfold oS; rw [h1,h4] <;> rfl) (show true=oS c (w b) 2 1 from by unfold oS; rw [h5] <;> rfl) (I1 th (toN (Aj (w b))) true))) λh5=>.r 3 h5 <| .k (Af hb) <| .r 4 h5 <| .c (ieq (w b).src 2) (λh6=>.r 3 h6 <| .k (Af hb) <| .r 3 h6 <| .k h5 <| .k h6 <| .k h5 <| .e (nm4 (f:=λn o c th=>U0 k w n o c th) (C2 (by omega)) (show ieq (w b).dst 2=oS o (w b) 1 2 from by unfold oS; rw [h1,h4] <;> rfl) (show ieq (w b).dst 1=oS c (w b) 2 1 from by unfold oS; rw [h5,h6] <;> rfl) (I1 th (toN (Aj (w b))) true))) λh6=>.r 6 h6 <| .k h5 <| .k h6 <| .k h5 <| .e (nm4 (f:=λn o c th=>U0 k w n o c th) (C2 (by omega)) (show ieq (w b).dst 2=oS o (w b) 1 2 from by unfold oS; rw [h1,h4] <;> rfl) (show false=oS c (w b) 2 1 from by unfold oS; rw [h5,h6] <;> rfl) (I1 th (toN (Aj (w b))) true))) λh4=>.r 6 h4 <| .k h1 <| .k h4 <| .k h1 <| .c c (λh7=>.r 9 h7 <| .e (nm4 (f:=λn o c th=>U0 k w n o c th) (C2 (by omega)) (show false=oS o (w b) 1 2 from by unfold oS; rw [h1,h4] <;> rfl) (show true=oS c (w b) 2 1 from by unfold oS; rw [h7] <;> rfl) (I1 th (toN (Aj (w b))) true))) λh7=>.r 3 h7 <| .k (Af hb) <| .r 4 h7 <| .c (ieq (w b).src 2) (λh8=>.r 3 h8 <| .k (Af hb) <| .r 3 h8 <| .k h7 <| .k h8 <| .k h7 <| .e (nm4 (f:=λn o c th=>U0 k w n o c th) (C2 (by omega)) (show false=oS o (w b) 1 2 from by unfold oS; rw [h1,h4] <;> rfl) (show ieq (w b).dst 1=oS c (w b) 2 1 from by unfold oS; rw [h7,h8] <;> rfl) (I1 th (toN (Aj (w b))) true))) λh8=>.r 6 h8 <| .k h7 <| .k h8 <| .k h7 <| .e (nm4 (f:=λn o c th=>U0 k w n o c th) (C2 (by omega)) (show false=oS o (w b) 1 2 from by unfold oS; rw [h1,h4] <;> rfl) (show false=oS c (w b) 2 1 from by unfold oS; rw [h7,h8] <;> rfl) (I1 th (toN (Aj (w b))) true))) (by kernel_rfl)
theorem An8 (hk:k <= 4611686018427387904) (hf:Bv k w=true):(Ay Ank AcN 4611686018427387905 (U0 k w 0 (oC w 1 2 0) (oC w 2 1 0) (λi=>bV (thC w 0 i)))).sem=some (.ex 0,⟨jsV 98 0 Ac [(2,.ref 0),(3,.ref 1),(4,bV (oC w 1 2 k)),(5,bV (oC w 2 1 k))],[.row 46 6 0 Ac,.row 4 1 112 (λi=>bV (thC w k i))]⟩) :=
 C0 (S:=λb=>U0 k w (ofNat b) (oC w 1 2 b) (oC w 2 1 b) (λi=>bV (thC w b i))) (by intro h; cases h) (λb hb=>by
  have h1:=Bh.1 hf b hb;rcases BH (w b) with ⟨c,hc,_,hn,_⟩ | ⟨hb,_⟩
  ·exact An1 hk hb (by rw [h1]; rfl) (by rw [hn]; exact Np hc) (by rw [hn]; exact decide_eq_true hc) _ _ _
  ·rw [h1] at hb; cases hb) (by
  generalize oC w 1 2 k=o;generalize oC w 2 1 k=c;generalize thC w k=th;exact DW.rd (.k (A4 (Nat.le_refl k)) <| .l) (by kernel_rfl)) (by omega)
theorem Als {o c:Bool} {th:Nat->Bool} {b:Nat} (hb:b<112) {q:Nat} {v:Nat->E6} {v':Nat->V} (hq:q<112) (hp:AE q (λi=>eV (v i)) (Ct 1 [eV (B6 b)] 0)=v') (h:GX th o c b=true):Ap Akb Y9 (U2 o c th (ofNat b) q (λi=>eV (v i)))=some (.nm,U2 o c th (ofNat (b+1)) (q+1) v'):=by
 unfold GX at h;cases h1:th b with
 | false=>rw [h1] at h; cases h
 | true =>
  cases h2:ieq (B6 b).src (B6 b).dst with
  | true=>exact DW.rd (.k (Qb hb) <| .k (V2 hb) <| .k (Np hb) <| .k (decide_eq_true hb) <| .r 6 h1 <| .r 3 h2 <| .k h1 <| .k h2 <| .k h1 <| .k eT <| .k (show CJ q 1 40=true from decide_eq_true (by omega)) <| .e (nm3 (f:=λn q v=>U2 o c th n q v) (C2 (by omega)) rfl hp)) (by kernel_rfl)
  | false =>
   by_cases h3:o=true
   ·by_cases h4:c=true
    ·exact DW.rd (.k (Qb hb) <| .k (V2 hb) <| .k (Np hb) <| .k (decide_eq_true hb) <| .r 6 h1 <| .r 2 h2 <| .k h3 <| .k h2 <| .k h3 <| .k h1 <| .k h2 <| .k h1 <| .k h4 <| .k (show CJ q 1 40=true from decide_eq_true (by omega)) <| .e (nm3 (f:=λn q v=>U2 o c th n q v) (C2 (by omega)) rfl hp)) (by kernel_rfl)
    ·have h4:c=false:=by simpa using h4
     rw [h1,h2,h3,h4] at h; cases h
   ·have h3:o=false:=by simpa using h3
    rw [h1,h2,h3] at h; cases h
theorem Alt {o c:Bool} {th:Nat->Bool} {b:Nat} (hb:b<112) {q:Nat} {v:Nat->E6} (h:GX th o c b=false):Ap Akb Y9 (U2 o c th (ofNat b) q (λi=>eV (v i)))=some (.nm,U2 o c th (ofNat (b+1)) q (λi=>eV (v i))):=by
 unfold GX at h;cases h1:th b with
 | false=>exact DW.rd (.k (Qb hb) <| .k (V2 hb) <| .k (Np hb) <| .k (decide_eq_true hb) <| .r 8 h1 <| .k eF <| .e (nm1 (f:=λn=>U2 o c th n q (λi=>eV (v i))) (C2 (by omega)))) (by kernel_rfl)
 | true =>
  cases h2:ieq (B6 b).src (B6 b).dst with
  | true=>rw [h1,h2] at h; cases h
  | false =>
   by_cases h3:o=true
   ·by_cases h4:c=true
    ·rw [h1,h2,h3,h4] at h; cases h
    ·have h4:c=false:=by simpa using h4
     exact DW.rd (.k (Qb hb) <| .k (V2 hb) <| .k (Np hb) <| .k (decide_eq_true hb) <| .r 6 h1 <| .r 2 h2 <| .k h3 <| .k h2 <| .k h3 <| .k h1 <| .k h2 <| .k h1 <| .k h4 <| .e (nm1 (f:=λn=>U2 o c th n q (λi=>eV (v i))) (C2 (by omega)))) (by kernel_rfl)
   ·have h3:o=false:=by simpa using h3
    exact DW.rd (.k (Qb hb) <| .k (V2 hb) <| .k (Np hb) <| .k (decide_eq_true hb) <| .r 6 h1 <| .r 2 h2 <| .k h3 <| .k h2 <| .k h3 <| .k h1 <| .k h2 <| .k h1 <| .k eF <| .e (nm1 (f:=λn=>U2 o c th n q (λi=>eV (v i))) (C2 (by omega)))) (by kernel_rfl)
theorem AlD (o c:Bool) (th:Nat->Bool):∀ d b m,b+d=112->d<m->(Ay Akb Y9 m (U2 o c th (ofNat b) (Cc th o c b).length (λi=>eV (mkE (Cc th o c b) i)))).sem=some (.ex 2,⟨jsV 98 0 Ac [(9,.ref 2)],[.row 46 6 0 Ac,.row 4 1 112 (λi=>bV (th i)),.row 46 6 (Cc th o c 112).length (λi=>eV (mkE (Cc th o c 112) i))]⟩)
 | 0,b,m,h,hm=>by
  obtain ⟨m,rfl⟩:∃ o,m=o+1:=⟨m-1,by omega⟩;obtain rfl:b=112:=by omega
  have hb:ilt (ofNat 112) 112=false:=rfl;generalize (Cc th o c 112).length=q;generalize mkE (Cc th o c 112)=v;exact Ae (t:=some (.ex 2,_)) (DW.rd (.k hb .l) (by kernel_rfl))
 | d+1,b,m,h,hm=>by
  obtain ⟨m,rfl⟩:∃ o,m=o+1:=⟨m-1,by omega⟩;have hb:b<112:=by omega
  have hl:=TF th o c b;have ih:=AlD o c th d (b+1) m (by omega) (by omega);cases h1:GX th o c b with
  | true =>
   have e1:Cc th o c (b+1)=Cc th o c b++[b]:=by rw [Cc,h1]; rfl
   rw [e1,List.length_append] at ih;rw [Ae (Als hb (by omega) (AiM _ b) h1)];exact ih
  | false =>
   have e1:Cc th o c (b+1)=Cc th o c b:=by rw [Cc,h1]; rfl
   rw [e1] at ih;rw [Ae (Alt hb h1)];exact ih
def DR (k:Nat) (w:Nat->E6):List Nat:=Cc (thC w k) (oC w 1 2 k) (oC w 2 1 k) 112
end
def Ak8:List V->A3:=QJ λk w=>.br (Bv k w) (.br (decide (k <= 128)) (.leaf (.ref 0,[.row 46 6 (DR k w).length λi=>eV (mkE (DR k w) i)])) .fail) .fail
theorem AnK:Ar Tryz.prog Gl 36 Ak8:=by
 refine Ah A0 mixed Tryz.func36 (by kernel_rfl) (by kernel_rfl) λvs u h' h=>?_;obtain ⟨k,w,ha,h⟩:=D7 h;obtain ⟨g1,h⟩:=Ab h;obtain ⟨g2,h⟩:=Ab h;have:=Aa h;simp only [Prod.mk.injEq] at this;obtain ⟨rfl,rfl⟩:=this;have g2:k <= 128:=of_decide_eq_true g2;have hx:=AZ Afc AlY (G:=Gl);refine ⟨[Ao k w],AjB,_,ha,rfl,hx.1,hx.2,?_,As.refl _⟩;have h0:=An8 (k:=k) (w:=w) (by omega) g1;have h2:=AlD (oC w 1 2 k) (oC w 2 1 k) (thC w k) 112 0 4611686018427387905 rfl (by omega);unfold DR;generalize (Cc (thC w k) (oC w 1 2 k) (oC w 2 1 k) 112).length=q at h2;generalize mkE (Cc (thC w k) (oC w 1 2 k) (oC w 2 1 k) 112)=v at h2;exact DW.ok (.k (show G2 1 112 112=true from by decide) <| .a h0 <| .a h2 <| .l) (by kernel_rfl)
end Go.Proofs.YtkbgidbledjejaaGreat.En
namespace Go.Sy
theorem Aa0 {P:Program} {w:World} {t e:TypeId} (hd:P.underlying t=some (.slice e)) (q:Option Addr) (n cap:Nat):(binOp .eql t (.slice q n cap) (.slice none 0 0)).run P w = .ok (.bool q.isNone) w:=by
 show ((Op.equalIn 10000 t (.slice q n cap) (.slice none 0 0)) >>= λr=>pure (.bool r):Sem Value).run P w=_;have:(Op.equalIn 10000 t (.slice q n cap) (.slice none 0 0)).run P w = .ok q.isNone w:=by
  rw [show (10000:Nat)=9999+1 from rfl,Op.equalIn];rw [Sem.run_bind,run_underlying hd w];cases q <;> rfl
 rw [Sem.run_bind,this];rfl
end Go.Sy
namespace Go.Proofs.YtkbgidbledjejaaGreat.En
open Go.Sy Go Go.Proofs.YtkbgidbledjejaaGreat.Ed
noncomputable def A40:Code:=match Tryz.f40.body with
 | some (.seq a _)=>a
 | _=>.skip
noncomputable def LN:Array Oper:=match Tryz.f40.body with
 | some (.seq _ (.seq (.seq (.region _ ops _) _) _))=>ops
 | _=>#[]
noncomputable def Aop:Nat:=match Tryz.f40.body with
 | some (.seq _ (.seq (.seq (.region i _ _) _) _))=>i
 | _=>0
noncomputable def C40:Code:=match Tryz.f40.body with
 | some (.seq _ (.seq (.seq _ c) _))=>c
 | _=>.skip
noncomputable def D40:Code:=match Tryz.f40.body with
 | some (.seq _ (.seq _ d))=>d
 | _=>.skip
theorem AjK:Tryz.f40.body=some (.seq A40 (.seq (.seq (.region Aop LN false) C40) D40)):=by kernel_rfl
theorem Aim:LN.size=2:=by kernel_rfl
theorem AiQ:(LN[0]?.map λo=>(o.op,o.dst,o.guard))=some (.move (.tmp 0),some 3,none):=by kernel_rfl
def Adp:Op->Bool
 | .binOp .eql 22 (.tmp 3) (.const (.slice none 0 0)) _=>true
 | _=>false
theorem AiP:(LN[1]?.map λo=>(Adp o.op,o.dst,o.guard))=some (true,some 4,none):=by kernel_rfl
noncomputable abbrev Rp:Cx:=cxA Gl tbZ []
abbrev sl0:V:=.sl 6 0 λ_=>.und
def s40 (x y:V):St:=⟨[sl0,A7,.ref 0,x,y,A7,A7,A7],[.row 46 6 0 λ_=>.und]⟩
theorem AjR:(A8 tab Rp A40 0 ⟨sl0::F6 7,[]⟩).sem=some (.nm,s40 A7 A7):=by kernel_rfl
theorem AmN:(A8 tab Rp C40 0 (s40 sl0 (bV true))).sem=some (.rt,⟨[sl0,A7,.ref 1,sl0,bV true,A7,A7,A7],[.row 46 6 0 Ac,.row 46 6 0 λ_=>.und]⟩):=by kernel_rfl
theorem AmO:(A8 tab Rp C40 0 (s40 sl0 (bV false))).sem=some (.nm,s40 sl0 (bV false)):=by kernel_rfl
abbrev g40:Nat->V:=Cq 0 0 (Ct 0 []) λ_=>.und
theorem AmA:(A8 tab Rp D40 0 (s40 sl0 (bV false))).sem=some (.rt,⟨[sl0,A7,.ref 1,sl0,bV false,.und,sl0,.ref 1],[.row 46 6 0 Ac,.row 46 6 0 g40]⟩):=by
 have h:CJ 0 0 40=true:=by decide
 exact DW.ok (.k h .l) (by kernel_rfl)
theorem Aiw {κ:Ai} {S:Nat->Prop} {a:Act} {w:World} {b:Bool} {Q:Exit->Act->World->Prop} (hr:Rel [] Rp.base κ S (s40 sl0 (bV b)) a w)
  (hw:∀ κ' S' a' w' g ts,Rel [] Rp.base κ' S' ⟨ts,[.row 46 6 0 Ac,.row 46 6 0 g]⟩ a' w'->nth ts 2 = .ref 1->Ext κ S [.row 46 6 0 Ac] w κ' S' [.row 46 6 0 Ac,.row 46 6 0 g] w'->Q .ret a' w'):C40.wp Tryz.prog (Exit.then (D40.wp Tryz.prog Q) Q) a w:=by
 have hx:=AZ Ix [] (G:=Gl);cases b with
 | true =>refine wpIn_wide.1 (Ez (P:=Tryz.prog) (ro:=none) A0 mixed hx.1 hx.2 C40 0 _ _ κ S a w _ hr AmN (.inl rfl) ?_);intro κ' S' a' w' hr' he;exact hw κ' S' a' w' _ _ hr' rfl he
 | false =>refine wpIn_wide.1 (Ez (P:=Tryz.prog) (ro:=none) A0 mixed hx.1 hx.2 C40 0 _ _ κ S a w _ hr AmO (.inl rfl) ?_);intro κ1 S1 a1 w1 hr1 he1;refine wpIn_wide.1 (Ez (P:=Tryz.prog) (ro:=none) A0 mixed hx.1 hx.2 D40 0 _ _ κ1 S1 a1 w1 _ hr1 AmA (.inl rfl) ?_);intro κ' S' a' w' hr' he;exact hw κ' S' a' w' _ _ hr' rfl (he1.trans he)
theorem Ant:∃ e,Tryz.prog.underlying 22=some (.slice e):=by
 have h:(tab[22]?.map λt=>t.k)=some (.sl 46):=by kernel_rfl
 cases ht:tab[22]? with
 | none=>rw [ht] at h; cases h
 | some ty =>rw [ht] at h;obtain ⟨_,d,_,hd,hk,_⟩:=(A0:TabOK Tryz.prog tab).info ht;simp only [Option.map_some,Option.some.injEq] at h;rw [h] at hk;exact ⟨_,(Eb hk.symm) ▸ hd⟩
theorem AnI (g0:Nat->V) {S:Nat->Prop} {W:World} {q:Option Addr} {cap:Nat} (hS:∀ b,S b->b<W.heap.size) (hE:MF Gl S W):Calls Tryz.prog 40 #[.slice q 0 cap] W λe w'=>∃ c κ' S',e = .returned c∧Sy.Good κ' S' [.row 46 6 0 g0] w'∧VR S' w' (.ref 0) κ' c∧Ext noK S [] W κ' S' [.row 46 6 0 g0] w':=by
 have hx:=AZ Ix [] (G:=Gl);refine calls_of_wp Tryz.func40 AjK ?_;have hsl:VR S W sl0 noK (.slice q 0 cap):=⟨q,cap,rfl,Nat.zero_le _,.inl rfl⟩;have hr:Rel [] Rp.base noK S ⟨sl0::F6 7,[]⟩ { tmps:=#[.slice q 0 cap]++Array.replicate (Tryz.f40.ntmps-#[Value.slice q 0 cap].size) undef,defers:=[] } W:=by
  refine ⟨Good.empty hS,hE,?_,rfl⟩;have hn:Tryz.f40.ntmps=8:=by kernel_rfl
  rw [hn];exact ⟨_,_,rfl,hsl,by simpa using G8 (S:=S) (w:=W) (κ:=noK) 7⟩
 refine wp_seq (wpIn_wide.1 (Ez (P:=Tryz.prog) (ro:=none) A0 mixed hx.1 hx.2 A40 0 _ _ noK S _ W _ hr AjR (.inl rfl) ?_));intro κ1 S1 a1 w1 hr1 he1;obtain ⟨o0,h0,hop0,hd0,hg0⟩:∃ o,LN[0]? = some o∧o.op = .move (.tmp 0)∧o.dst=some 3∧o.guard=none:=by
  have h:=AiQ;cases ho:LN[0]? with
  | none=>rw [ho] at h; cases h
  | some o =>rw [ho] at h;simp only [Option.map_some,Option.some.injEq,Prod.mk.injEq] at h;exact ⟨o,rfl,h.1,h.2.1,h.2.2⟩
 obtain ⟨o1,h1,⟨z,hop1⟩,hd1,hg1⟩:∃ o,LN[1]? = some o∧(∃ z,o.op = .binOp .eql 22 (.tmp 3) (.const (.slice none 0 0)) z)∧o.dst=some 4∧o.guard=none:=by
  have h:=AiP;cases ho:LN[1]? with
  | none=>rw [ho] at h; cases h
  | some o =>
   rw [ho] at h;simp only [Option.map_some,Option.some.injEq,Prod.mk.injEq] at h;obtain ⟨h1,h2,h3⟩:=h;unfold Adp at h1;split at h1
   ·rename_i z hz
    exact ⟨o,rfl,⟨z,hz⟩,h2,h3⟩
   ·cases h1
 obtain ⟨q1,cap1,hc1,_⟩:VR S1 w1 sl0 κ1 (a1.eval (.tmp 0)):=AP hr1.env hr1.tmps (.tmp 0);have hsz:a1.tmps.size=8:=by
  have:=hr1.tmps.length;simpa [s40] using this
 refine wp_seq (wp_seq (wpIn_wide.1 (wpIn_region (n:=0) ?_)));rw [show List.range LN.size=[0,1] by rw [Aim]; rfl];simp only [wpOpsIn,h0,h1];rw [if_pos (by unfold Region.wanted; rw [hg0])];refine HT (ro:=none) (.inl rfl) ?_;have hrun0:(execOp a1.eval o0).run Tryz.prog w1 = .ok (.value (.slice q1 0 cap1)) w1:=by
  unfold execOp;rw [hop0];show Result.ok (Next.value (a1.eval (.tmp 0))) w1=_;rw [hc1]
 unfold Oper.wp;rw [hrun0,Oper.upon_value,hd0];rw [if_pos (by unfold Region.wanted; rw [hg1])];refine HT (ro:=none) (.inl rfl) ?_;obtain ⟨e,hty⟩:=Ant;have hev:(a1.put (some 3) (.slice q1 0 cap1)).eval (.tmp 3) = .slice q1 0 cap1:=by
  show (a1.put (some 3) (.slice q1 0 cap1)).tmps.getD 3 undef=_;rw [Fb a1 (some 3) _ 3 (by omega)];rfl
 have hrun1:(execOp (a1.put (some 3) (.slice q1 0 cap1)).eval o1).run Tryz.prog w1 = .ok (.value (.bool q1.isNone)) w1:=by
  unfold execOp;rw [hop1];simp only [hev];show ((do eqGuard .eql 22 (.tmp 3) (.const (.slice none 0 0)) (.slice q1 0 cap1) (.slice none 0 0); binOp .eql 22 (.slice q1 0 cap1) (.slice none 0 0):Sem Value) >>= λx=>pure (Next.value x)).run Tryz.prog w1=_
  rw [Sem.run_bind,Sem.run_bind,show (eqGuard .eql 22 (.tmp 3) (.const (.slice none 0 0)) (.slice q1 0 cap1) (.slice none 0 0)).run Tryz.prog w1 = .ok () w1 from rfl,Result.andThen_ok,Aa0 hty];rfl
 unfold Oper.wp;rw [hrun1,Oper.upon_value,hd1];have hr3:Rel [] Rp.base κ1 S1 (s40 sl0 (bV q1.isNone)) ((a1.put (some 3) (.slice q1 0 cap1)).put (some 4) (.bool q1.isNone)) w1:=by
  refine ⟨hr1.good,hr1.env,?_,by rw [B8,B8]; exact hr1.defers⟩;exact Db (st:=s40 sl0 A7) (d:=some 4) (v:=bV q1.isNone) (Db (st:=s40 A7 A7) (d:=some 3) (v:=sl0) hr1.tmps (by rw [<- hc1]; exact AP hr1.env hr1.tmps (.tmp 0))) rfl
 refine Aiw hr3 λκ' S' a' w' g ts hr' h2 he=>?_;have hres:DI tab Tryz.f40 ⟨ts,[.row 46 6 0 Ac,.row 46 6 0 g]⟩=some (.ref 1):=by
  rw [<- h2]
  kernel_rfl
 obtain ⟨c,p1,p2⟩:=HW (P:=Tryz.prog) (Γ:=Rp) A0 hr' hres;have hp:ZR (.ref 1) [.row 46 6 0 Ac,.row 46 6 0 g]=some (.ref 0,[.row 46 6 0 g]):=by kernel_rfl
 obtain ⟨κ2,z1,z2,z3⟩:=Oz hr'.good p2 hp;have h5:As [.row 46 6 0 g] [.row 46 6 0 g0]:=As.one λ_ h=>absurd h (Nat.not_lt_zero _);obtain ⟨y1,y2⟩:=h5.good z1;have g3:=he1.trans he;refine ⟨hr'.defers,c,p1,c,κ2,S',rfl,y1,z2,Ext.ofNil g3.os g3.tape g3.output g3.size g3.keep (λi b hb=>?_) g3.sub g3.sup (h5.rows (FB hp))⟩;rw [y2] at hb;obtain ⟨j,hj⟩:=z3 i b hb;exact g3.own j b hj
def Aea:List V->A3:=QJ λk w=>.br (CJ 0 k 40) (.leaf (.ref 0,[.row 46 6 k λi=>eV (w i)])) .fail
def Aeb:List V->A3
 | [.sl 6 k g]=>.br (Rk 0 k) (.br (CJ 0 k 40) (.leaf (.ref 0,[.row 46 6 k g])) .fail) .fail
 | _=>.fail
theorem Ajw (k:Nat) (g:Nat->V) (hk:0<k):∀ j,j<k->g j=Cq 0 k (Ct 0 []) g j:=λj hj=>by
 unfold Cq;split
 ·obtain rfl:j=0:=by omega
  rw [Ca];rfl
 ·rw [N3]
  rfl
theorem AlJ:Ar Tryz.prog Gl 40 Aeb:=by
 refine Ah A0 mixed Tryz.func40 (by kernel_rfl) (by kernel_rfl) λvs u h' h=>?_;unfold Aeb at h;split at h
 ·rename_i k g
  obtain ⟨h1,h⟩:=Ab h;obtain ⟨h2,h⟩:=Ab h;have:=Aa h;simp only [Prod.mk.injEq] at this;obtain ⟨rfl,rfl⟩:=this;have hx:=AZ Ix [] (G:=Gl);exact ⟨[.sl 6 k g],Rp,[.row 46 6 (Cd 0 k) (Cq 0 k (Ct 0 []) g)],B2.refl _,rfl,hx.1,hx.2,DW.ok (.k h1 <| .k eF <| .k h2 .l) (by kernel_rfl),by
   rw [show Cd 0 k=k from Nat.zero_add k];exact As.one (Ajw k g (Nat.le_of_ble_eq_true h1))⟩
 ·cases h
theorem p40:Ar Tryz.prog Gl 40 Aea:=by
 refine ⟨AlJ.1,λvs cs S W v h' hS hE hv he=>?_⟩;obtain ⟨k,w,ha,h⟩:=D7 he;obtain ⟨h2,h⟩:=Ab h;have:=Aa h;simp only [Prod.mk.injEq] at this;obtain ⟨rfl,rfl⟩:=this;have hv:=ha S W cs hv;rcases Nat.eq_zero_or_pos k with rfl | hk
 ·obtain ⟨c,l,rfl,⟨q,cap,rfl,_⟩,hl⟩:=hv
  have hl:l=[]:=hl;subst hl;refine ⟨λi b hb=>?_,AnI _ hS hE⟩;cases i with
  | zero =>simp only [List.getElem?_cons_zero,Option.some.injEq] at hb;subst hb;exact .inl ⟨_,_,_,_,rfl⟩
  | succ i=>simp at hb
 ·exact AlJ.2 [Ao k w] cs S W _ _ hS hE hv (by
   show (T.br (Rk 0 k) (T.br (CJ 0 k 40) _ .fail) .fail).sem=_;rw [show Rk 0 k=true from Nat.ble_eq_true_of_le hk,h2];rfl)
end Go.Proofs.YtkbgidbledjejaaGreat.En
namespace Go.Proofs.YtkbgidbledjejaaGreat.En
open Go.Sy Go Go.Proofs.YtkbgidbledjejaaGreat.Ed
set_option maxRecDepth 100000
structure N4 where
 a:Nat
 b:Nat
 c:Nat
 d:Nat
def N4.mul (m k:N4):N4:=⟨m.a * k.a+m.b * k.c,m.a * k.b+m.b * k.d,m.c * k.a+m.d * k.c,m.c * k.b+m.d * k.d⟩
def N4.one:N4:=⟨1,0,0,1⟩
def N4.pow (m:N4):Nat->N4
 | 0=>N4.one
 | k+1=>(m.pow k).mul m
def N4.tr (m:N4):Nat:=m.a+m.d
def trI (m:N4) (k:Nat):Int:=Int.ofNat (m.pow k).tr
def getE:List E6->Nat->E6
 | []=>λ_=>Ba
 | x::l=>λi=>bif Nat.beq i l.length then x else getE l i
def N6 (g:Nat->E6) (e:E6):Nat->Nat->Bool
 | 0,_=>false
 | d+1,i=>bor (eqE (g i) e) (N6 g e d (i+1))
def AK (f:Nat->E6):Nat->List E6
 | 0=>[]
 | i+1=>match N6 (getE (AK f i)) (f i) (AK f i).length 0 with
  | true=>AK f i
  | false=>f i::AK f i
def cls (e:E6):Nat:=(if e.src=1 then 0 else 2)+(if e.dst=1 then 0 else 1)
def CX:List E6->Nat->Nat
 | [],_=>0
 | e::l,q=>if cls e=q then CX l q+1 else CX l q
def Oi (n:Nat) (f:Nat->E6):N4:=⟨CX (AK f n) 0,CX (AK f n) 1,CX (AK f n) 2,CX (AK f n) 3⟩
def CQ (n:Nat) (f:Nat->E6) (t:Nat):Int:=trI (Oi n f) t
def Ln (k:Nat) (w:Nat->E6) (j:Int):Bool:=Av (Bv k w) (Av (ile 1 j) (Av (ile j 16) (decide (k <= 128))))
def Rx:List V->A3
 | [u,.val (.int .i64 j)]=>apL u λk w=>.br (Ln k w j) (.br (ilt (CQ k w (toN j)) 9223372036854775808) (.leaf (.tup [iV (CQ k w (toN j)),iV 0],[])) (.leaf (.tup [iV 0,iV 3],[]))) .fail
 | _=>.fail
end Go.Proofs.YtkbgidbledjejaaGreat.En
namespace Go.Proofs.YtkbgidbledjejaaGreat.En
open Go.Sy Go Go.Proofs.YtkbgidbledjejaaGreat.Ed
set_option maxRecDepth 100000
def BY (x y:Int):Int:=if 9223372036854775808 <= x+y then 9223372036854775808 else x+y
end Go.Proofs.YtkbgidbledjejaaGreat.En
namespace Go.Proofs.YtkbgidbledjejaaGreat.En
open Go.Sy Go Go.Proofs.YtkbgidbledjejaaGreat.Ed
set_option maxRecDepth 100000
theorem Ae8 {x:Int} (h:0 <= x) (h2:x<9223372036854775808):wr .i64 x=x:=by
 unfold wr IntKind.wrap;simp [IntKind.bits,IntKind.signed];omega
end Go.Proofs.YtkbgidbledjejaaGreat.En
