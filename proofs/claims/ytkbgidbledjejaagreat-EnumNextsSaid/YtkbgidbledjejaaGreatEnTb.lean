/-
  Layer 6: Count; lists of lists of edges, are they alike. No conditions.
-/
import Derived.Test.YtkbgidbledjejaaGreatEnU
import Derived.Test.YtkbgidbledjejaaGreatEnE
namespace Go.Proofs.YtkbgidbledjejaaGreat.En
open Go.Sy Go Go.Proofs.YtkbgidbledjejaaGreat.Ed
set_option maxRecDepth 100000
def lenV:V->Nat
 | .sl _ k _=>k
 | _=>0
def Ap5:V->Nat->E6
 | .sl _ _ h=>λj=>edE (h j)
 | _=>λ_=>Bv
def okR:V->Bool
 | .sl 6 k h=>CQ k λj=>okE (h j)
 | _=>false
def Aol {α:Type} (v:V) (F:Nat->(Nat->Nat)->(Nat->Nat->E6)->T α):T α:=match v with
 | .sl 1 n g=>.br (CQ n λi=>okR (g i)) (F n (λi=>lenV (g i)) λi=>Ap5 (g i)) .fail
 | _=>.fail
def Any (l1 l2:Nat->Nat) (x y:Nat->Nat->E6) (i:Nat):Bool:=EB (l1 i) (x i) (l2 i) (y i)
def Anz (n m:Nat) (l1 l2:Nat->Nat) (x y:Nat->Nat->E6):Bool:=sel (ieq (Int.ofNat n) (Int.ofNat m)) (CQ n (Any l1 l2 x y)) false
def likeT:List V->A2
 | [u,v]=>Aol u λn l1 x=>Aol v λm l2 y=>.br (Cr n) (.br (CQ n λi=>Cr (l1 i)) (.leaf (bV (Anz n m l1 l2 x y),[])) .fail) .fail
 | _=>.fail
noncomputable def AkO:List V->A2
 | [.val (.int .i64 A),u,.val (.int .i64 n),.val (.int .i64 q)]=>apL u λk w=>.leaf (.tup [iV (Int.ofNat (F3 A k w n q).length),iV (Jf A k w n q)],[])
 | _=>.fail
noncomputable def Amd:AH:=(9,Ahc)::[]
theorem Agb:Ao Tryz.prog Gl Amd:=.cons p9 .nil
theorem p11:As Tryz.prog Gl 11 AkO:=by
 refine Ah Az mixed Tryz.func11 (by kernel_rfl) (by kernel_rfl) λvs r h' h=>?_;unfold AkO at h;split at h
 ·rename_i A u n q
  obtain ⟨k,w,ha,h⟩:=AQ h;have:=Aa h;simp only [Prod.mk.injEq] at this;obtain ⟨rfl,rfl⟩:=this;have hx:=Ba Agb [] (G:=Gl);refine ⟨[iV A,Am k w,iV n,iV q],cxA Gl Amd [],_,λS W cs hq=>by
   obtain ⟨c,l,rfl,q1,c2,l2,rfl,q2,q3⟩:=hq;exact ⟨c,_,rfl,q1,c2,_,rfl,ha S W c2 q2,q3⟩,rfl,hx.1,hx.2,?_,Au.refl _⟩
  generalize F3 A k w n q=rows;exact DW.ok (.k (eL k) .l) (by kernel_rfl)
 ·cases h
end Go.Proofs.YtkbgidbledjejaaGreat.En
namespace Go.Proofs.YtkbgidbledjejaaGreat.En
open Go.Sy Go Go.Proofs.YtkbgidbledjejaaGreat.Ed
section
variable {w w':Nat->E6}
theorem Nz:∀ {k:Nat},(∀ i,i<k->w' i=w i)->hsC w' k=hsC w k
 | 0,_=>rfl
 | k+1,h=>by
  show P0 (hsC w' k) (.i (Al (w' k)))=P0 (hsC w k) (.i (Al (w k)));rw [Nz λi hi=>h i (by omega),h k (by omega)]
theorem SG:∀ {k:Nat},(∀ i,i<k->w' i=w i)->gtC w' k=gtC w k
 | 0,_=>rfl
 | k+1,h=>by
  show (λy=>bif keq y (.i (Al (w' k))) then w' k else gtC w' k y)=λy=>bif keq y (.i (Al (w k))) then w k else gtC w k y;rw [SG λi hi=>h i (by omega),h k (by omega)]
theorem Oa:∀ {k:Nat},(∀ i,i<k->w' i=w i)->AG w' k=AG w k
 | 0,_=>rfl
 | k+1,h=>by
  rw [AG,AG,Oa λi hi=>h i (by omega),h k (by omega)]
theorem WF {k:Nat} (h:∀ i,i<k->w' i=w i) {n:Int}:FT k w' n=FT k w n:=by
 have e:∀ t,C5 k w' t=C5 k w t:=λt=>by
  unfold C5 Nl;rw [Oa h]
 have r:∀ d b l,Gu k w' d b l=Gu k w d b l:=by
  intro d
  induction d with
  | zero=>intro b l; rfl
  | succ d ih =>intro b l;rw [Gu,Gu,e,ih]
 exact r _ _ _
theorem PD {k:Nat} (h:∀ i,i<k->w' i=w i) {A n:Int}:Dt A k w' n=Dt A k w n:=by
 have e:A1 (G4 A w') k 0=A1 (G4 A w) k 0:=CP k 0 λi _ hi=>by
  unfold G4;rw [h i (by omega)]
 have r:refL A k w'=refL A k w:=by
  unfold refL tO Vh;rw [e];cases hq:A1 (G4 A w) k 0 with
  | none=>rfl
  | some t =>have:=Eh hq;show sel false 0 (sel (ieq (AB (w' t)) 0) 5 30)=sel false 0 (sel (ieq (AB (w t)) 0) 5 30);rw [h t (by omega)]
 unfold Dt;rw [r]
end
end Go.Proofs.YtkbgidbledjejaaGreat.En
namespace Go.Proofs.YtkbgidbledjejaaGreat.Ed
open Go.Sy Go
def HD (c:UInt8):Bool:=c == 32 || c == 9 || c == 10 || c == 13
def Gr (x:Int):Bool:=bor (ieq x 32) (bor (ieq x 9) (bor (ieq x 10) (ieq x 13)))
theorem OT (c:UInt8) (n:Nat) (hn:n<256):ieq ((c.toNat:Nat):Int) (n:Int)=(c == UInt8.ofNat n):=by
 rw [Bool.eq_iff_iff];simp only [ieq,beq_iff_eq];constructor
 ·intro h
  apply UInt8.toNat_inj.1;rw [UInt8.toNat_ofNat_of_lt' (by simpa using hn)];omega
 ·intro h
  rw [h,UInt8.toNat_ofNat_of_lt' (by simpa using hn)]
theorem AeM (c:UInt8):Gr ((c.toNat:Nat):Int)=HD c:=by
 unfold Gr HD bor;have h1:=OT c 32 (by decide);have h2:=OT c 9 (by decide);have h3:=OT c 10 (by decide);have h4:=OT c 13 (by decide);have h1:ieq ((c.toNat:Nat):Int) 32=(c == 32):=h1;have h2:ieq ((c.toNat:Nat):Int) 9=(c == 9):=h2;have h3:ieq ((c.toNat:Nat):Int) 10=(c == 10):=h3;have h4:ieq ((c.toNat:Nat):Int) 13=(c == 13):=h4;rw [h1,h2,h3,h4];cases (c == 32) <;> cases (c == 9) <;> cases (c == 10) <;> rfl
def BB (l:List UInt8):List UInt8:=l.takeWhile λc=>!HD c
def Dh:Nat->List UInt8->Nat->List E6->List E6×Int×Nat
 | 0,_,_,acc=>(acc,0,0)
 | _+1,[],_,acc=>(acc,0,0)
 | q+1,c::l,a,acc =>
  if HD c=true then Dh q l (a+1) acc
  else if Gi (BB (c::l))=0 then Dh q ((c::l).drop (BB (c::l)).length) (a+(BB (c::l)).length) (acc++[Gj (BB (c::l))])
  else ([],30,a)
theorem Vr {b:UInt8} (hb:HD b=true) (l:List UInt8) (q a:Nat) (acc:List E6):Dh (q+1) (b::l) a acc=Dh q l (a+1) acc:=by
 rw [Dh,if_pos hb]
theorem Ab8 (l:List UInt8):(BB l).length <= l.length:=by
 induction l with
 | nil=>exact Nat.le_refl _
 | cons c l ih =>
  unfold BB at ih ⊢;cases hc:HD c with
  | true=>rw [List.takeWhile_cons_of_neg (by simp [hc])]; exact Nat.zero_le _
  | false =>rw [List.takeWhile_cons_of_pos (by simp [hc])];simp only [List.length_cons];omega
section
variable (L:LT) (x:Int)
include L x
theorem Al3 (h0:ieq x 32=true):(AK (Ar tab ⟨A6 tb0,L,Gl⟩ Tryz.f102 [.val (.int .u8 x)] [])).sem=some ((bV true),[]):=by
 exact Ag (ks:=[kn h0,kn h0,kn h0,kT,kT,kT,kT,kT,kT]) (by kernel_rfl)
theorem Al2 (h0:ieq x 32=false) (h1:ieq x 9=true):(AK (Ar tab ⟨A6 tb0,L,Gl⟩ Tryz.f102 [.val (.int .u8 x)] [])).sem=some ((bV true),[]):=by
 exact Ag (ks:=[kn h0,kn h0,kn h0,kn h1,kn h1,kn h1,kT,kT,kT]) (by kernel_rfl)
theorem Al1 (h0:ieq x 32=false) (h1:ieq x 9=false) (h2:ieq x 10=true):(AK (Ar tab ⟨A6 tb0,L,Gl⟩ Tryz.f102 [.val (.int .u8 x)] [])).sem=some ((bV true),[]):=by
 exact Ag (ks:=[kn h0,kn h0,kn h0,kn h1,kn h1,kn h1,kn h2,kn h2,kn h2]) (by kernel_rfl)
theorem Al0 (h0:ieq x 32=false) (h1:ieq x 9=false) (h2:ieq x 10=false):(AK (Ar tab ⟨A6 tb0,L,Gl⟩ Tryz.f102 [.val (.int .u8 x)] [])).sem=some ((bV (ieq x 13)),[]):=by
 exact Ag (ks:=[kn h0,kn h0,kn h0,kn h1,kn h1,kn h1,kn h2,kn h2,kn h2]) (by kernel_rfl)
end
def Yu:List V->A2
 | [.val (.int .u8 x)]=>out (bV (Gr x))
 | _=>.fail
theorem AgU {α:Type} {l:List α} {i:Nat} {d:α} (h:i<l.length):l.getD i d=l[i]:=by simp [List.getD,h]
theorem GG {s:List UInt8} {a:Nat} (h:a<s.length):s.drop a=s[a]::s.drop (a+1):=List.drop_eq_getElem_cons h
theorem O4 {s:List UInt8} {a:Nat} (h:a<s.length):Gr (Ov s a)=HD s[a]:=by
 unfold Ov;rw [AgU h];exact AeM _
def getE (l:List E6) (i:Nat):E6:=l.getD i Bv
theorem VY {l:List E6} {e:E6} {i:Nat} (h:i<l.length+1):getE (l++[e]) i=if i=l.length then e else getE l i:=by
 unfold getE;by_cases hi:i=l.length
 ·rw [if_pos hi,hi]; simp
 ·rw [if_neg hi]
  simp only [List.getD,List.getElem?_append_left (show i<l.length by omega)]
def FB (acc:List E6):Nat->V:=BN (λi=>eV (getE acc i)) acc.length
theorem NW {g g':Nat->V}:∀ n,(∀ i,i<n->g i=g' i)->BN g n=BN g' n
 | 0,_=>rfl
 | n+1,h=>by
  show AA n (BN g n) (g n)=AA n (BN g' n) (g' n);rw [h n (Nat.lt_succ_self n),NW n λi hi=>h i (by omega)]
theorem Aaq (acc:List E6) (e:E6):AA acc.length (FB acc) (eV e)=FB (acc++[e]):=by
 have h1:FB (acc++[e])=BN (λi=>eV (getE (acc++[e]) i)) (acc.length+1):=by
  unfold FB;rw [List.length_append];rfl
 rw [h1];show _=AA acc.length (BN (λi=>eV (getE (acc++[e]) i)) acc.length) (eV (getE (acc++[e]) acc.length));rw [VY (Nat.lt_succ_self _),if_pos rfl];unfold FB;rw [NW (g:=λi=>eV (getE (acc++[e]) i)) (g':=λi=>eV (getE acc i)) acc.length λi hi=>by
  show eV (getE (acc++[e]) i)=eV (getE acc i);rw [VY (by omega),if_neg (by omega)]]
def Ku:Nat->List UInt8->List E6->List E6×E6
 | 0,_,acc=>(acc,Bv)
 | _+1,[],acc=>(acc,Bv)
 | q+1,c::l,acc =>
  if HD c=true then Ku q l acc
  else if Gi (BB (c::l))=0 then Ku q ((c::l).drop (BB (c::l)).length) (acc++[Gj (BB (c::l))])
  else (acc,Gj (BB (c::l)))
def AeN (s:List UInt8):Bool:=ilt 262144 (Int.ofNat (CU s))
def psR (s:List UInt8):List E6×Int×Nat:=Dh (s.length+1) s 0 []
def psL (s:List UInt8):List E6:=bif AeN s then [] else (psR s).1
def psE (s:List UInt8):Int:=bif AeN s then 2 else (psR s).2.1
def psI (s:List UInt8):Int:=bif AeN s then 0 else Int.ofNat (psR s).2.2
def psN (s:List UInt8):Nat:=(psL s).length
def psG (s:List UInt8) (i:Nat):E6:=getE (psL s) i
def psT:List V->A2
 | [.str s]=>.leaf (.tup [.ref 0,iV (psE s),iV (psI s)],[.row 46 6 (psN s) λi=>eV (psG s i)])
 | _=>.fail
theorem PM:∀ (q:Nat) (l:List UInt8) (a:Nat) (acc:List E6),(Dh q l a acc).2.1=0->(Dh q l a acc).2.2=0
 | 0,_,_,_,_=>rfl
 | q+1,[],_,_,_=>rfl
 | q+1,c::l,a,acc,h=>by
  rw [Dh] at h ⊢;split
  ·rename_i hc
   rw [if_pos hc] at h;exact PM q _ _ _ h
  ·rename_i hc
   rw [if_neg hc] at h;split
   ·rename_i hp
    rw [if_pos hp] at h;exact PM q _ _ _ h
   ·rename_i hp
    rw [if_neg hp] at h;cases h
theorem Akv {L:LT} (hL:LLe L L) (k:Nat) (r:Ex×St):LLe (onP k (isP L k r) r L) (onP k (isP L k r) r L):=λid f f' st hf r' hr=>by
 unfold onP at hr ⊢;cases hk:Nat.beq id k with
 | true =>rw [hk] at hr;obtain ⟨h1,h2⟩:=Ab hr;unfold isP at h1;have h1:=@of_decide_eq_true _ (Classical.propDecidable _) h1;have h3:isP L k r f' st=true:=AP (hL k f f' st hf _ h1);show sel (isP L k r f' st) _ _=_;rw [h3];exact h2
 | false =>rw [hk] at hr;exact hL id f f' st hf _ hr
end Go.Proofs.YtkbgidbledjejaaGreat.Ed
namespace Go.Proofs.YtkbgidbledjejaaGreat.Ed
open Go.Sy Go
open Int (ofNat)
theorem e84 (Γ:Cx) (vs:List V) (h:List Blk):Ar tab Γ Tryz.f102 vs h=Ar tab Γ Tryz.f102 vs h:=by kernel_rfl
theorem p84:As Tryz.prog Gl 102 Yu:=by
 refine Ah Az mixed Tryz.func102 (by kernel_rfl) (by kernel_rfl) λvs v h' h=>?_;unfold Yu at h;split at h
 ·rename_i x
  have:=Aa h;simp only [Prod.mk.injEq] at this;obtain ⟨rfl,rfl⟩:=this;have hx:=Bm Hy [];refine ⟨_,BP Gl tb0 [],_,B0.refl _,rfl,hx.1,hx.2,?_,Au.refl _⟩;rw [e84];unfold Gr;cases c1:ieq x 32 with
  | true=>exact Al3 _ x c1
  | false =>
   cases c2:ieq x 9 with
   | true=>exact Al2 _ x c1 c2
   | false =>
    cases c3:ieq x 10 with
    | true=>exact Al1 _ x c1 c2 c3
    | false=>exact Al0 _ x c1 c2 c3
 ·cases h
noncomputable def tb41:AH:=(102,Yu)::(103,UN Xv)::[]
theorem tb41_ok:Ao Tryz.prog Gl tb41:=.cons p84 <| .cons p22 .nil
def Wq (s:List UInt8) (a k:Nat) (x:Nat->V):Ex×St:=(.rt,⟨jsV 56 0 Ac [(2,.ref 1),(3,iV 30),(4,nV a),(6,.ref 2)],[.row 46 6 0 Ac,.row 46 6 0 Ac,.row 46 6 k x]⟩)
def Ec (s:List UInt8):Lp:=⟨bmK 56 0 [0,2,3,4,5,6,7,8],3,bmK 56 0 [0,2,3,4,5,6,7,8],3,CU s+1⟩
def Py (s:List UInt8) (a k:Nat) (x:Nat->V) (e:Nat) (j:Nat->V):St:=⟨jsV 56 0 j [(0,.str s),(2,.ref 0),(3,iV 0),(4,iV 0),(5,.ref 1),(6,.ref 2),(7,nV e),(8,nV a)],[.row 46 6 0 Ac,.row 46 6 0 Ac,.row 46 6 k x]⟩
def Ko (s:List UInt8) (a k:Nat) (x:Nat->V) (e:Nat):Ex×St:=(.ex 2,⟨jsV 56 0 Ac [(0,.str s),(2,.ref 0),(3,iV 0),(4,iV 0),(5,.ref 1),(6,.ref 2),(7,nV e),(8,nV a)],[.row 46 6 0 Ac,.row 46 6 0 Ac,.row 46 6 k x]⟩)
noncomputable def Hd (L:LT):St->T (Ex×St):=λst=>A8 tab ⟨A6 tb41,L,Gl⟩ (A0 Tryz.f70 2) 2 st
section
variable (L:LT) (s:List UInt8) (a k:Nat) (x:Nat->V) (e:Nat)  (j:Nat->V)
include L s a k x e j
theorem Amv (h0:ilt (ofNat e) (ofNat (CU s))=false):Ap (Hd L) (Ec s) (Py s a k x e j)=some ((.ex 2),⟨jsV 56 0 Ac [(0,.str s),(2,.ref 0),(3,iV 0),(4,iV 0),(5,.ref 1),(6,.ref 2),(7,nV e),(8,nV a)],[.row 46 6 0 Ac,.row 46 6 0 Ac,.row 46 6 k x]⟩):=by
 exact Ag (ks:=[kn h0,kn h0,kn h0,kn h0,kn h0,kn h0,kF]) (by kernel_rfl)
theorem Amw (h0:ilt (ofNat e) (ofNat (CU s))=true) (h1:Av (ile 0 (ofNat e)) (ilt (ofNat e) (ofNat (CU s)))=true) (h2:Gr (Ov s e)=true):Ap (Hd L) (Ec s) (Py s a k x e j)=some ((.ex 2),⟨jsV 56 0 Ac [(0,.str s),(2,.ref 0),(3,iV 0),(4,iV 0),(5,.ref 1),(6,.ref 2),(7,nV e),(8,nV a)],[.row 46 6 0 Ac,.row 46 6 0 Ac,.row 46 6 k x]⟩):=by
 exact Ag (ks:=[kn h0,kn h0,kn h0,kn h1,kn h0,kn h0,kn h0,kN (kn h2)]) (by kernel_rfl)
theorem Amu (h0:ilt (ofNat e) (ofNat (CU s))=true) (h1:Av (ile 0 (ofNat e)) (ilt (ofNat e) (ofNat (CU s)))=true) (h2:Gr (Ov s e)=false):Ap (Hd L) (Ec s) (Py s a k x e j)=some (.nm,⟨jsV 56 0 Ac [(0,.str s),(2,.ref 0),(3,iV 0),(4,iV 0),(5,.ref 1),(6,.ref 2),(7,iV (wr .i64 (Aj (ofNat e) 1))),(8,nV a)],[.row 46 6 0 Ac,.row 46 6 0 Ac,.row 46 6 k x]⟩):=by
 exact Ag (ks:=[kn h0,kn h0,kn h0,kn h1,kn h0,kn h0,kn h0,kN (kn h2)]) (by kernel_rfl)
end
def lp41 (s:List UInt8):Lp:=⟨bmK 56 0 [0,2,3,4,5,6,7],3,bmK 56 0 [2,3,4,6],3,CU s+1⟩
def Pz (s:List UInt8) (a k:Nat) (x:Nat->V) (j:Nat->V):St:=⟨jsV 56 0 j [(0,.str s),(2,.ref 0),(3,iV 0),(4,iV 0),(5,.ref 1),(6,.ref 2),(7,nV a)],[.row 46 6 0 Ac,.row 46 6 0 Ac,.row 46 6 k x]⟩
def SS (s:List UInt8) (a k:Nat) (x:Nat->V):Ex×St:=(.ex 0,⟨jsV 56 0 Ac [(2,.ref 0),(3,iV 0),(4,iV 0),(6,.ref 2)],[.row 46 6 0 Ac,.row 46 6 0 Ac,.row 46 6 k x]⟩)
noncomputable def Gq (L:LT):St->T (Ex×St):=λst=>A8 tab ⟨A6 tb41,L,Gl⟩ (A0 Tryz.f70 0) 0 st
section
variable (L:LT) (s:List UInt8) (a k:Nat) (x:Nat->V)  (j:Nat->V)
include L s a k x j
theorem Ams (h0:ilt (ofNat a) (ofNat (CU s))=false):Ap (Gq L) (lp41 s) (Pz s a k x j)=some ((.ex 0),⟨jsV 56 0 Ac [(2,.ref 0),(3,iV 0),(4,iV 0),(6,.ref 2)],[.row 46 6 0 Ac,.row 46 6 0 Ac,.row 46 6 k x]⟩):=by
 exact Ag (ks:=[kn h0]) (by kernel_rfl)
theorem Amt (h0:ilt (ofNat a) (ofNat (CU s))=true) (h1:Av (ile 0 (ofNat a)) (ilt (ofNat a) (ofNat (CU s)))=true) (h2:Gr (Ov s a)=true):Ap (Gq L) (lp41 s) (Pz s a k x j)=some (.nm,⟨jsV 56 0 Ac [(0,.str s),(2,.ref 0),(3,iV 0),(4,iV 0),(5,.ref 1),(6,.ref 2),(7,iV (wr .i64 (Aj (ofNat a) 1)))],[.row 46 6 0 Ac,.row 46 6 0 Ac,.row 46 6 k x]⟩):=by
 exact Ag (ks:=[kn h0,kn h1,kn h2]) (by kernel_rfl)
end
def Mr (s:List UInt8) (a k:Nat) (x:Nat->V) (j:Nat->V):St:=⟨jsV 56 0 j [(0,.str s),(2,.ref 0),(3,iV 0),(4,iV 0),(5,.ref 1),(6,.ref 2),(7,nV a),(8,nV a),(15,nV a),(16,.str s),(17,iV (ofNat (CU s))),(18,bV (ilt (ofNat a) (ofNat (CU s)))),(19,.str s),(20,nV a),(21,.val (Value.int IntKind.u8 (Ov s a))),(22,bV (Gr (Ov s a))),(25,nV a)],[.row 46 6 0 Ac,.row 46 6 0 Ac,.row 46 6 k x]⟩
section
variable (L:LT) (p2:PT) (s:List UInt8) (a k:Nat) (x:Nat->V) (e:Nat) (j:Nat->V)
include L p2 s a k x e j
theorem Amq (h0:ilt (ofNat a) (ofNat (CU s))=true) (h1:Av (ile 0 (ofNat a)) (ilt (ofNat a) (ofNat (CU s)))=true) (h2:Gr (Ov s a)=false) (h3:Av (ile 0 (ofNat a)) (Av (ile (ofNat a) (ofNat e)) (ile (ofNat e) (ofNat (CU s))))=true) (h4:ieq (Gi (K2 a (K0 e s))) 0=true) (h5:Ci k 1 40=true) (hp2:p2 (Hd (onP 2 p2 (Ko s a k x e) L)) (Mr s a k x j)=true):Ap (Gq (onP 2 p2 (Ko s a k x e) L)) (lp41 s) (Pz s a k x j)=some (.nm,⟨jsV 56 0 Ac [(0,.str s),(2,.ref 0),(3,iV 0),(4,iV 0),(5,.ref 1),(6,.ref 2),(7,nV e)],[.row 46 6 0 Ac,.row 46 6 0 Ac,.row 46 6 (Bh k 1) (AA k x (eV (Gj (K2 a (K0 e s)))))]⟩):=by
 exact Ag (ks:=[kn h0,kn h1,kn h2,kn hp2,kn h3,kN (kn h4),kn h5]) (by kernel_rfl)
theorem Amr (h0:ilt (ofNat a) (ofNat (CU s))=true) (h1:Av (ile 0 (ofNat a)) (ilt (ofNat a) (ofNat (CU s)))=true) (h2:Gr (Ov s a)=false) (h3:Av (ile 0 (ofNat a)) (Av (ile (ofNat a) (ofNat e)) (ile (ofNat e) (ofNat (CU s))))=true) (h4:ieq (Gi (K2 a (K0 e s))) 0=false) (hp2:p2 (Hd (onP 2 p2 (Ko s a k x e) L)) (Mr s a k x j)=true):Ap (Gq (onP 2 p2 (Ko s a k x e) L)) (lp41 s) (Pz s a k x j)=some (.rt,⟨jsV 56 0 Ac [(2,.ref 1),(3,iV 30),(4,nV a),(6,.ref 2)],[.row 46 6 0 Ac,.row 46 6 0 Ac,.row 46 6 k x]⟩):=by
 exact Ag (ks:=[kn h0,kn h1,kn h2,kn hp2,kn h3,kN (kn h4)]) (by kernel_rfl)
end
def QH (s:List UInt8) :St:=⟨jsV 56 0 (λ_=>A5) [(0,.str s),(2,.ref 0),(3,iV 0),(4,iV 0),(5,.ref 1),(6,.ref 2),(7,iV 0),(11,.str s),(12,iV (ofNat (CU s))),(13,bV (ilt 262144 (ofNat (CU s))))],[.row 46 6 0 Ac,.row 46 6 0 Ac,.row 46 6 0 Ac]⟩
theorem AlA (L:LT) (s:List UInt8) (h0:ilt 262144 (ofNat (CU s))=true):(AK (Ar tab ⟨A6 tb41,L,Gl⟩ Tryz.f70 [.str s] [])).sem=some ((.tup [.ref 0,iV 2,iV 0]),[.row 46 6 0 Ac]):=by
 exact Ag (ks:=[kn h0]) (by kernel_rfl)
section
variable (L:LT) (p0:PT) (s:List UInt8) (a k:Nat) (x:Nat->V)
include L p0 s a k x
theorem Al9 (h0:ilt 262144 (ofNat (CU s))=false) (hp0:p0 (Gq (onP 0 p0 (SS s a k x) L)) (QH s)=true):(AK (Ar tab ⟨A6 tb41,onP 0 p0 (SS s a k x) L,Gl⟩ Tryz.f70 [.str s] [])).sem=some ((.tup [.ref 0,iV 0,iV 0]),[.row 46 6 k x]):=by
 exact Ag (ks:=[kn h0,kn hp0]) (by kernel_rfl)
theorem AlB (h0:ilt 262144 (ofNat (CU s))=false) (hp0:p0 (Gq (onP 0 p0 (Wq s a k x) L)) (QH s)=true):(AK (Ar tab ⟨A6 tb41,onP 0 p0 (Wq s a k x) L,Gl⟩ Tryz.f70 [.str s] [])).sem=some ((.tup [.ref 0,iV 30,nV a]),[.row 46 6 0 Ac]):=by
 exact Ag (ks:=[kn h0,kn hp0]) (by kernel_rfl)
end
theorem Ac3 (L:LT) (s:List UInt8) (hs:s.length <= 262144) (a k:Nat) (x:Nat->V):∀ (q e:Nat) (j:Nat->V),s.length-e<q ->
  (Ax (Hd L) (Ec s) q (Py s a k x e j)).sem=some (Ko s a k x (e+(BB (s.drop e)).length))
 | 0,e,j,h=>absurd h (Nat.not_lt_zero _)
 | q+1,e,j,h=>by
  have hsl:CU s=s.length:=rfl;rcases Nat.lt_or_ge e s.length with he | he
  ·have c0:ilt (ofNat e) (ofNat (CU s))=true:=ofNat_lt he
   have c1:Av (ile 0 (ofNat e)) (ilt (ofNat e) (ofNat (CU s)))=true:=Af he;rw [GG he];cases hb:HD s[e] with
   | true =>rw [show BB (s[e]::s.drop (e+1))=[] by unfold BB; rw [List.takeWhile_cons_of_neg (by simp [hb])]];exact Ae (Amw L s a k x e j c0 c1 (by rw [O4 he]; exact hb))
   | false =>rw [Ae (Amu L s a k x e j c0 c1 (by rw [O4 he]; exact hb)),AN,AY (n:=s.length) he (by omega)];have:=Ac3 L s hs a k x q (e+1) Ac (by omega);rw [show BB (s[e]::s.drop (e+1))=s[e]::BB (s.drop (e+1)) by unfold BB; rw [List.takeWhile_cons_of_pos (by simp [hb])],List.length_cons,show e+((BB (s.drop (e+1))).length+1)=e+1+(BB (s.drop (e+1))).length by omega];exact this
  ·rw [List.drop_eq_nil_of_le he]
   exact Ae (Amv L s a k x e j (A4 he))
theorem XT (s:List UInt8) (a k:Nat) (x:Nat->V) (j:Nat->V):Mr s a k x j=Py s a k x a (λi=>nth (Mr s a k x j).t i):=by kernel_rfl
theorem Ac4 (M:LT) (hMM:LLe M M) (s:List UInt8) (hs:s.length <= 262144) (m2:∀ f st,M 2 f st=Ax f (Ec s) (CU s+1) st):∀ (q a:Nat) (acc:List E6) (j:Nat->V),s.length-a<q->a <= s.length->acc.length <= a ->
  ((Dh q (s.drop a) a acc).2.1=0∧(Ax (Gq M) (lp41 s) q (Pz s a acc.length (FB acc) j)).sem=some (SS s 0 (Dh q (s.drop a) a acc).1.length (FB (Dh q (s.drop a) a acc).1))) ∨
  ((Dh q (s.drop a) a acc).2.1=30∧(Dh q (s.drop a) a acc).1=[]∧(Ax (Gq M) (lp41 s) q (Pz s a acc.length (FB acc) j)).sem=some (Wq s (Dh q (s.drop a) a acc).2.2 (Ku q (s.drop a) acc).1.length (FB (Ku q (s.drop a) acc).1)))
 | 0,a,acc,j,h,_,_=>absurd h (Nat.not_lt_zero _)
 | q+1,a,acc,j,h,ha,hk=>by
  have hsl:CU s=s.length:=rfl;rcases Nat.lt_or_ge a s.length with he | he
  ·have c0:ilt (ofNat a) (ofNat (CU s))=true:=ofNat_lt he
   have c1:Av (ile 0 (ofNat a)) (ilt (ofNat a) (ofNat (CU s)))=true:=Af he;cases hb:HD s[a] with
   | true =>
    have e1:Dh (q+1) (s.drop a) a acc=Dh q (s.drop (a+1)) (a+1) acc:=by rw [GG he,Vr hb]
    have e2:Ku (q+1) (s.drop a) acc=Ku q (s.drop (a+1)) acc:=by rw [GG he,Ku,if_pos hb]
    rw [e1,e2,Ae (Amt M s a acc.length (FB acc) j c0 c1 (by rw [O4 he]; exact hb)),AN,AY (n:=s.length) he (by omega)];exact Ac4 M hMM s hs m2 q (a+1) acc Ac (by omega) (by omega) (by omega)
   | false =>
    have c2:Gr (Ov s a)=false:=by rw [O4 he]; exact hb
    have hw0:0<(BB (s.drop a)).length:=by
     rw [GG he];unfold BB;rw [List.takeWhile_cons_of_pos (by simp [hb])];exact Nat.succ_pos _
    have hwl:=Ab8 (s.drop a);rw [List.length_drop] at hwl;have hi:∀ M',(M 2 (Hd M') (Mr s a acc.length (FB acc) j)).sem=some (Ko s a acc.length (FB acc) (a+(BB (s.drop a)).length)):=λM'=>by
     rw [m2,XT];exact Ac3 M' s hs a acc.length (FB acc) (CU s+1) a _ (by omega)
    have hsub:K2 a (K0 (a+(BB (s.drop a)).length) s)=BB (s.drop a):=by
     show (s.take (a+(BB (s.drop a)).length)).drop a=_;rw [List.drop_take,show a+(BB (s.drop a)).length-a=(BB (s.drop a)).length by omega];exact (List.prefix_iff_eq_take.1 (List.takeWhile_prefix _)).symm
    have c3:Av (ile 0 (ofNat a)) (Av (ile (ofNat a) (ofNat (a+(BB (s.drop a)).length))) (ile (ofNat (a+(BB (s.drop a)).length)) (ofNat (CU s))))=true:=by
     rw [FN,EM,EM,decide_eq_true (by omega),decide_eq_true (by omega)];rfl
    have e0:Dh (q+1) (s.drop a) a acc=if Gi (BB (s.drop a))=0 then Dh q ((s.drop a).drop (BB (s.drop a)).length) (a+(BB (s.drop a)).length) (acc++[Gj (BB (s.drop a))]) else ([],30,a):=by
     rw [GG he,Dh,if_neg (by rw [hb]; decide)]
    have e5:Ku (q+1) (s.drop a) acc=if Gi (BB (s.drop a))=0 then Ku q ((s.drop a).drop (BB (s.drop a)).length) (acc++[Gj (BB (s.drop a))]) else (acc,Gj (BB (s.drop a))):=by
     rw [GG he,Ku,if_neg (by rw [hb]; decide)]
    by_cases hp:Gi (BB (s.drop a))=0
    ·have c4:ieq (Gi (K2 a (K0 (a+(BB (s.drop a)).length) s))) 0=true:=by rw [hsub,hp]; rfl
     have h9:(acc.length+1) * 40 <= 140737488355328:=by omega
     have h3:=Amq M _ s a acc.length (FB acc) (a+(BB (s.drop a)).length) j c0 c1 c2 c3 c4 (decide_eq_true h9) (AP (hi _));have h4:Ap (Gq M) (lp41 s) (Pz s a acc.length (FB acc) j)=_:=Sg (l:=lp41 s) (Mq (Γ:=⟨A6 tb41,M,Gl⟩) (Bn hMM hMM) (A0 Tryz.f70 0) 0 (Pz s a acc.length (FB acc) j)) h3;rw [if_pos hp,List.drop_drop] at e0 e5;rw [e0,e5,Ae h4,AN,hsub,Aaq];have ih:=Ac4 M hMM s hs m2 q (a+(BB (s.drop a)).length) (acc++[Gj (BB (s.drop a))]) Ac (by omega) (by omega) (by rw [List.length_append]; simp only [List.length_cons,List.length_nil]; omega);rw [show (acc++[Gj (BB (s.drop a))]).length=acc.length+1 from List.length_append] at ih;exact ih
    ·have c4:ieq (Gi (K2 a (K0 (a+(BB (s.drop a)).length) s))) 0=false:=by rw [hsub]; simp [ieq,hp]
     have h3:=Amr M _ s a acc.length (FB acc) (a+(BB (s.drop a)).length) j c0 c1 c2 c3 c4 (AP (hi _));have h4:Ap (Gq M) (lp41 s) (Pz s a acc.length (FB acc) j)=_:=Sg (l:=lp41 s) (Mq (Γ:=⟨A6 tb41,M,Gl⟩) (Bn hMM hMM) (A0 Tryz.f70 0) 0 (Pz s a acc.length (FB acc) j)) h3;rw [if_neg hp] at e0 e5;rw [e0,e5];refine .inr ⟨rfl,rfl,?_⟩;rw [Ae h4];rfl
  ·rw [List.drop_eq_nil_of_le he]
   exact .inl ⟨rfl,Ae (Ams M s a acc.length (FB acc) j (A4 he))⟩
theorem Aet (s:List UInt8):QH s=Pz s 0 0 Ac (λi=>nth (QH s).t i):=by kernel_rfl
theorem p41:As Tryz.prog Gl 70 psT:=by
 refine Ah Az mixed Tryz.func70 (by kernel_rfl) (by kernel_rfl) λvs v h' h=>?_;unfold psT at h;split at h
 ·rename_i s
  have:=Aa h;simp only [Prod.mk.injEq] at this;obtain ⟨rfl,rfl⟩:=this;have hx:=Bm tb41_ok [(0,lp41 s),(2,Ec s)];have hL:=AW [(0,lp41 s),(2,Ec s)];cases hb:AeN s with
  | true =>
   have e1:psN s=0:=by unfold psN psL; rw [hb]; rfl
   have e2:psE s=2:=by unfold psE; rw [hb]; rfl
   have e3:psI s=0:=by unfold psI; rw [hb]; rfl
   rw [e1,e2,e3];exact ⟨_,BP Gl tb41 [(0,lp41 s),(2,Ec s)],_,B0.refl _,rfl,hx.1,hx.2,AlA _ s hb,Au.one λj hj=>absurd hj (Nat.not_lt_zero _)⟩
  | false =>
   have hs:s.length <= 262144:=by
    unfold AeN at hb;rw [show (262144:Int)=ofNat 262144 from rfl,EL] at hb;have:=of_decide_eq_false hb;have hsl:CU s=s.length:=rfl;omega
   have e0:psL s=(psR s).1:=by unfold psL; rw [hb]; rfl
   have e2:psE s=(psR s).2.1:=by unfold psE; rw [hb]; rfl
   have e3:psI s=ofNat (psR s).2.2:=by unfold psI; rw [hb]; rfl
   have hg:ilt 262144 (ofNat (CU s))=false:=hb;have key:∀ M,LLe M M->(∀ f st,M 2 f st=Ax f (Ec s) (CU s+1) st)->((psR s).2.1=0∧(Ax (Gq M) (lp41 s) (CU s+1) (QH s)).sem=some (SS s 0 (psR s).1.length (FB (psR s).1))) ∨
     ((psR s).2.1=30∧(psR s).1=[]∧(Ax (Gq M) (lp41 s) (CU s+1) (QH s)).sem=some (Wq s (psR s).2.2 (Ku (s.length+1) s []).1.length (FB (Ku (s.length+1) s []).1))):=λM h1 h2=>by
    rw [Aet];exact Ac4 M h1 s hs h2 (s.length+1) 0 [] (λi=>nth (QH s).t i) (by omega) (by omega) (Nat.le_refl _)
   have mm:∀ r,LLe (onP 0 (isP (B9 [(0,lp41 s),(2,Ec s)]) 0 r) r (B9 [(0,lp41 s),(2,Ec s)])) (onP 0 (isP (B9 [(0,lp41 s),(2,Ec s)]) 0 r) r (B9 [(0,lp41 s),(2,Ec s)])):=λr=>Akv hL 0 r;rw [e2,e3];unfold psN psG;rw [e0];by_cases hok:(psR s).2.1=0
   ·have hat:(psR s).2.2=0:=PM _ _ _ _ hok
    have hw:=Bp (Bn hL hL) _ (Al9 (B9 [(0,lp41 s),(2,Ec s)]) _ s 0 (psR s).1.length (FB (psR s).1) hg (AP (by
     rcases key _ (mm (SS s 0 (psR s).1.length (FB (psR s).1))) (λ_ _=>rfl) with ⟨_,h2⟩ | ⟨h1,_⟩
     ·exact h2
     ·rw [hok] at h1; cases h1)))
    rw [hok,hat];exact ⟨_,BP Gl tb41 [(0,lp41 s),(2,Ec s)],_,B0.refl _,rfl,hx.1,hx.2,hw,Au.one λj hj=>(HQ (λi=>eV (getE (psR s).1 i)) (psR s).1.length j hj).symm⟩
   ·have hno:(psR s).2.1=30∧(psR s).1=[]:=by
     rcases key _ (mm (SS s 0 0 (FB []))) (λ_ _=>rfl) with ⟨h1,_⟩ | ⟨h1,h2,_⟩
     ·exact absurd h1 hok
     ·exact ⟨h1,h2⟩
    have hw:=Bp (Bn hL hL) _ (AlB (B9 [(0,lp41 s),(2,Ec s)]) _ s (psR s).2.2 (Ku (s.length+1) s []).1.length (FB (Ku (s.length+1) s []).1) hg (AP (by
     rcases key _ (mm (Wq s (psR s).2.2 (Ku (s.length+1) s []).1.length (FB (Ku (s.length+1) s []).1))) (λ_ _=>rfl) with ⟨h1,_⟩ | ⟨_,_,h3⟩
     ·exact absurd h1 hok
     ·exact h3)))
    rw [hno.1,hno.2];exact ⟨_,BP Gl tb41 [(0,lp41 s),(2,Ec s)],_,B0.refl _,rfl,hx.1,hx.2,hw,Au.one λj hj=>absurd hj (Nat.not_lt_zero _)⟩
 ·cases h
end Go.Proofs.YtkbgidbledjejaaGreat.Ed
namespace Go.Proofs.YtkbgidbledjejaaGreat.En
open Go.Sy Go Go.Proofs.YtkbgidbledjejaaGreat.Ed
set_option maxRecDepth 100000
def sbS:List UInt8:=[80,111,100,87,82,32,70,114,101]
def sbT:List V->A2
 | []=>.leaf (.ref 0,[.row 46 6 2 λi=>eV (psG sbS i)])
 | _=>.fail
noncomputable def AlU:AH:=(70,psT)::[]
theorem AfN:Ao Tryz.prog Gl AlU:=.cons p41 .nil
theorem p38:As Tryz.prog Gl 38 sbT:=by
 refine Ah Az mixed Tryz.func38 (by kernel_rfl) (by kernel_rfl) λvs r h' h=>?_;unfold sbT at h;split at h
 rotate_left
 ·cases h
 cases Aa h;have hx:=Ba AfN [] (G:=Gl);exact ⟨[],cxA Gl AlU [],_,B0.refl _,rfl,hx.1,hx.2,DW.ok (.l) (by kernel_rfl),Au.refl _⟩
end Go.Proofs.YtkbgidbledjejaaGreat.En
namespace Go.Proofs.YtkbgidbledjejaaGreat.En
open Go.Sy Go Go.Proofs.YtkbgidbledjejaaGreat.Ed
set_option maxRecDepth 100000
theorem Ajs:Dt 1 2 (psG sbS) 4=0:=by kernel_rfl
theorem Amm:(Ih 1 2 (psG sbS) 4).length=1:=by kernel_rfl
theorem Aml:(((Ih 1 2 (psG sbS) 4).getD 0 []).length)=4:=by kernel_rfl
theorem AoI:FT 2 (psG sbS) 4=false:=by kernel_rfl
theorem Amk:Jf 1 2 (psG sbS) 4 9=0:=by
 unfold Jf;rw [Ajs,AoI,Amm];rfl
theorem Agm:(F3 1 2 (psG sbS) 4 9).length=1∧((F3 1 2 (psG sbS) 4 9).getD 0 []).length=4:=by
 unfold F3;rw [Amk];show (Fb _ _).length=1∧((Fb _ _).getD 0 []).length=4;rw [Vd,TE,List.length_map,List.length_range];exact ⟨Amm,Aml⟩
end Go.Proofs.YtkbgidbledjejaaGreat.En
namespace Go.Proofs.YtkbgidbledjejaaGreat.En
open Go.Sy Go Go.Proofs.YtkbgidbledjejaaGreat.Ed
set_option maxRecDepth 100000
abbrev eqQ (v:Nat->E6) (d:E6) (i:Nat):Bool:=eqE d (v i)
def ixT:List V->A2
 | [u,b]=>apL u λn v=>.br (okE b) (.br (Cr n) (.br (isN (A1 (eqQ v (edE b)) n 0)) (.leaf (iV (-1),[])) (.leaf (nO (eqQ v (edE b)) n,[]))) .fail) .fail
 | _=>.fail
noncomputable def AiY:AH:=[]
def Ant:Lp:=⟨bmK 19 0 [0,1,3,4,6,7,8],1,bmK 19 0 [4],1,4611686018427387905⟩
def S84 (n:Nat) (v:Nat->E6) (d:E6) (c:Int) (a:Unit) (j:Nat->V):St:=⟨jsV 19 0 j [(0,.sl 6 n (λi=>eV (v i))),(1,eV d),(3,.ptr 0 0),(4,iV 0),(6,.sl 6 n (λi=>eV (v i))),(7,nV n),(8,iV c)],[.cells [iV d.kind,bV d.ext,bV d.same,iV d.src,iV d.dst,iV d.fence]]⟩
noncomputable def B84 (L:LT):St->T (Ex×St):=λst=>A8 tab ⟨A6 AiY,L,Gl⟩ (A0 Tryz.f84 0) 0 st
def Y0 (n:Nat) (v:Nat->E6) (d:E6) (i:Nat) (a:Unit):Ex×St:=(.rt,⟨jsV 19 0 Ac [(4,nV i)],[.cells [iV d.kind,bV d.ext,bV d.same,iV d.src,iV d.dst,iV d.fence]]⟩)
def g84 (n:Nat) (v:Nat->E6) (d:E6) (i:Nat) (a:Unit):T ((Unit) ⊕ (Ex×St)):=.br (eqE d (v i)) (.leaf (.inr (Y0 n v d i a))) (.leaf (.inl ()))
def AnE (n:Nat) (v:Nat->E6) (d:E6) (a:Unit):Ex×St:=(.ex 0,⟨jsV 19 0 Ac [(4,iV 0)],[.cells [iV d.kind,bV d.ext,bV d.same,iV d.src,iV d.dst,iV d.fence]]⟩)
theorem r84 (L:LT) (n:Nat) (v:Nat->E6) (d:E6)  (hn:n <= 4611686018427387904) {e:Ex×St} {a:Unit} {j:Nat->V} (h:DO (g84 n v d) (AnE n v d) n 0 a=some e):(Ax (B84 L) Ant 4611686018427387905 (S84 n v d 0 a j)).sem=some (exR e) :=
 Ef Ha hn (λi a j r hi h=>DK.ok (L:=goR (S84 n v d) exR i) (.k (ofNat_lt hi) <| .k (Af hi) <| .c (λh1=>.k h1 <| .l) λh1=>.k h1 <| .l) (by kernel_rfl) h) (λa j=>DK.ok (C:=.leaf (AnE n v d a)) (L:=exR) (.k (A4 (Nat.le_refl n)) .l) (by kernel_rfl) rfl) (Nat.zero_add _).symm (Nat.lt_succ_of_le hn) h
def Ag8:List (Nat×Lp×List (Nat×(Nat->V))):=[(0,Ant,[])]
theorem p84:As Tryz.prog Gl 84 ixT:=by
 refine Ah Az mixed Tryz.func84 (by kernel_rfl) (by kernel_rfl) λvs v h' h=>?_;unfold ixT at h;split at h
 ·rename_i u b
  obtain ⟨n,v,ha,h⟩:=AQ h;obtain ⟨g2,h⟩:=Ab h;obtain ⟨hn,h⟩:=Ab h;have hn:n <= 4611686018427387904:=of_decide_eq_true hn;have hx:=Ba (Ao.nil:Ao Tryz.prog Gl AiY) Ag8 (G:=Gl);refine ⟨[Am n v,b],cxA Gl AiY Ag8,_,λS w cs hq=>by
   obtain ⟨c,l,rfl,q1,q2⟩:=hq;exact ⟨c,_,rfl,ha S w c q1,q2⟩,rfl,hx.1,hx.2,?_,Au.refl _⟩
  rw [Di g2];generalize edE b=d at h;have go:∀ i,(g84 n v d i ()).sem=sel (eqQ v d i) (some (.inr (Y0 n v d i ()))) (some (.inl ())):=λi=>rfl;exact DK.ok (L:=λa=>a) (.c (λh1=>.a (r84 (C6 Ag8) n v d hn (j:=λ_=>.und) (IO (acc:=λ_=>()) (x:=λi=>Y0 n v d i ()) (λi _ hq=>by rw [go,hq]; rfl) (λi _ hq=>by rw [go,hq]; rfl) h1)) .l) λh1=>.a (r84 (C6 Ag8) n v d hn (j:=λ_=>.und) (IN (acc:=λ_=>()) (x:=λi=>Y0 n v d i ()) (λi _ hq=>by rw [go,hq]; rfl) (λi _ hq=>by rw [go,hq]; rfl) h1)) .l) (by kernel_rfl) h
 ·cases h
end Go.Proofs.YtkbgidbledjejaaGreat.En
namespace Go.Proofs.YtkbgidbledjejaaGreat.En
open Go.Sy Go Go.Proofs.YtkbgidbledjejaaGreat.Ed
set_option maxRecDepth 100000
def Ib (n:Nat) (v:Nat->E6) (d:E6):Bool:=AL (isN (A1 (eqQ v d) n 0))
def Akz:List V->A2
 | [u,b]=>apL u λn v=>.br (okE b) (.br (Cr n) (.leaf (bV (Ib n v (edE b)),[])) .fail) .fail
 | _=>.fail
noncomputable def Ajd:AH:=(84,ixT)::[]
theorem AfE:Ao Tryz.prog Gl Ajd:=.cons p84 .nil
theorem Apb:As Tryz.prog Gl 60 Akz:=by
 refine Ah Az mixed Tryz.func60 (by kernel_rfl) (by kernel_rfl) λvs v h' h=>?_;unfold Akz at h;split at h
 ·rename_i u b
  obtain ⟨n,v,ha,h⟩:=AQ h;obtain ⟨g2,h⟩:=Ab h;obtain ⟨hn,h⟩:=Ab h;cases Aa h;have hx:=Ba AfE [] (G:=Gl);refine ⟨[Am n v,b],cxA Gl Ajd [],_,λS w cs hq=>by
   obtain ⟨c,l,rfl,q1,q2⟩:=hq;exact ⟨c,_,rfl,ha S w c q1,q2⟩,rfl,hx.1,hx.2,?_,Au.refl _⟩
  rw [Di g2];show (AK (Ar tab (cxA Gl Ajd []) Tryz.f60 [Am n v,eV (edE b)] [])).sem=some (bV (Ib n v (edE b)),[]);generalize edE b=d;unfold Ib;cases h1:isN (A1 (eqQ v d) n 0) with
  | true=>exact DW.ok (.k (eL n) <| .k eT <| .k hn <| .k h1 <| .e (congrArg (λb=>(bV b,([]:List Blk))) (show ile 0 (-1)=false from rfl))) (by kernel_rfl)
  | false=>exact DW.ok (.k (eL n) <| .k eT <| .k hn <| .k h1 <| .e (congrArg (λb=>(bV b,([]:List Blk))) (Mc (tO (eqQ v d) n)))) (by kernel_rfl)
 ·cases h
end Go.Proofs.YtkbgidbledjejaaGreat.En
