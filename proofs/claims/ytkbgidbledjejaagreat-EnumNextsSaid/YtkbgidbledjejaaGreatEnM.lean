/-
  Layer 5: the closed lists of a vocabulary: the document's. No conditions.
-/
import Derived.Test.YtkbgidbledjejaaGreatEnWj
import Derived.Test.YtkbgidbledjejaaGreatSyOc
import Derived.Test.YtkbgidbledjejaaGreatEnK
import Derived.Test.YtkbgidbledjejaaGreatEnWd
import Derived.Test.YtkbgidbledjejaaGreatCyU
namespace Go.Proofs.YtkbgidbledjejaaGreat.En
open Go.Sy Go Go.Proofs.YtkbgidbledjejaaGreat.Ed
open Int (ofNat)
set_option maxRecDepth 100000
noncomputable def AlR:AH:=[(45,Co λe=>iV (AB e))]
theorem AfF:Ao Tryz.prog Gl AlR:=.cons p29 .nil
def Akn:Lp:=⟨bmK 19 0 [0,2,3],0,bmK 19 0 [2],0,1000⟩
noncomputable abbrev AnX:Cx:=cxA Gl AlR [(0,Akn,[])]
noncomputable def B56:St->T (Ex×St):=λst=>A8 tab AnX (A0 Tryz.f56 0) 0 st
def S56 (n:Nat) (v:Nat->E6) (i:Int):St:=⟨jsV 19 0 Ac [(0,Am n v),(2,iV 0),(3,iV i)],[]⟩
theorem r56 {n:Nat} {v:Nat->E6} (hn:n <= 128) (hm:By n v=true):(Ax B56 Akn 1000 (S56 n v 0)).sem=some (.ex 0,⟨jsV 19 0 Ac [(2,iV 0)],[]⟩):=by
 refine Cj (S:=λi=>S56 n v (ofNat i)) (m:=n) (λh=>by cases h) (λi hi=>?_) ?_ (by omega)
 ·have c0:ieq (AB (v i)) 0=true:=decide_eq_true (Bw.1 hm i hi)
  exact DW.rd (.k (ofNat_lt hi) <| .k (Af hi) <| .k (eN c0) <| .e (nm1 (f:=S56 n v) (Cu (by omega)))) (by kernel_rfl)
 ·exact DW.rd (.k (A4 (Nat.le_refl n)) <| .l) (by kernel_rfl)
def AlF:List V->A2
 | [u]=>apL u λk w=>.br (Av (By k w) (decide (k <= 128))) (.leaf (iV 0,[])) .fail
 | _=>.fail
theorem Vv {F:Nat->(Nat->E6)->V×List Blk} {vs:List V} {r:V×List Blk} (h:((match vs with | [u]=>apL u λk w=>.br (Av (By k w) (decide (k <= 128))) (.leaf (F k w)) .fail | _=>.fail):A2).sem=some r):∃ k w,B0 vs [Am k w]∧By k w=true∧k <= 128∧r=F k w:=by
 split at h
 ·obtain ⟨k,w,ha,h⟩:=AQ h
  obtain ⟨hg,h⟩:=Ab h;obtain ⟨h1,h2⟩:=Bf hg;exact ⟨k,w,Abk ha,h1,of_decide_eq_true h2,Aa h⟩
 ·cases h
theorem Adm {k:Nat} {w:Nat->E6} (hm:By k w=true) (hk:k <= 128):Av (By k w) (decide (k <= 128))=true:=by rw [hm,decide_eq_true hk]; rfl
theorem p56:As Tryz.prog Gl 56 AlF:=by
 refine Ah Az mixed Tryz.func56 (by kernel_rfl) (by kernel_rfl) λvs v h' h=>?_;obtain ⟨k,w,ha,hm,hk,h⟩:=Vv (F:=λ_ _=>(iV 0,[])) h;cases h;have hx:=Ba AfF [(0,Akn,[])] (G:=Gl);have h1:ilt 128 (ofNat k)=false:=decide_eq_false (by show ¬ (128:Int)<(k:Int); omega);exact ⟨[Am k w],AnX,_,ha,rfl,hx.1,hx.2,DW.ok (.k h1 <| .a (r56 hk hm) <| .l) (by kernel_rfl),Au.refl _⟩
def Aik:Lp:=⟨bmK 41 0 [0,2,3,4],2,bmK 41 0 [3],2,1000⟩
def OE:Lp:=⟨bmK 41 0 [0,2,3,4,5,6],2,bmK 41 0 [0,2,3,4,5],2,1000⟩
def Aie:List (Nat×Lp×List (Nat×(Nat->V))):=[(0,Aik,[(1,λ_=>eV Bv)]),(2,OE,[])]
noncomputable abbrev Ai3:Cx:=cxA Gl [] Aie
noncomputable def Ah7 (id:Nat):St->T (Ex×St):=λst=>A8 tab Ai3 (A0 Tryz.f108 id) id st
def Rt (l:List (Nat×V)) (n:Nat) (v:Nat->E6) (m:Nat) (g:Nat->V) (i:Int):St:=⟨jsV 41 0 Ac ([(0,Am n v),(2,.ref 0),(3,.ref 1),(4,iV i)]++l),[.row 46 6 0 Ac,.row 46 6 m g]⟩
theorem Xr {n q m:Nat} {v g:Nat->E6} (hq:q<n) (hn:n <= 128) (hm:m <= 128):∀ (d b:Nat) (t:Bool) (M:Nat),m=b+d->d<M->(Ax (Ah7 2) OE M (Rt [(5,bV t),(6,nV b)] n v m (λk=>eV (g k)) (ofNat q))).sem=some (.ex 2,Rt [(5,bV (bor t (Kw g (v q) d b)))] n v m (λk=>eV (g k)) (ofNat q))
 | 0,b,t,M,h,hM=>by
  obtain ⟨M,rfl⟩:∃ o,M=o+1:=⟨M-1,by omega⟩;have hb:bor t (Kw g (v q) 0 b)=t:=by cases t <;> rfl
  rw [hb];exact Ae (t:=some (.ex 2,_)) (DW.rd (.k (A4 (i:=b) (n:=m) (by omega)) <| .l) (by kernel_rfl))
 | d+1,b,t,M,h,hM=>by
  obtain ⟨M,rfl⟩:∃ o,M=o+1:=⟨M-1,by omega⟩;have hb:b<m:=by omega
  cases t with
  | true =>
   have hr:Ap (Ah7 2) OE (Rt [(5,bV true),(6,nV b)] n v m (λk=>eV (g k)) (ofNat q))=some (.nm,Rt [(5,bV true),(6,iV (ofNat (b+1)))] n v m (λk=>eV (g k)) (ofNat q)):=DW.rd (.k (ofNat_lt hb) <| .r 10 eT <| .e (nm1 (f:=λz=>Rt [(5,bV true),(6,iV z)] n v m (λk=>eV (g k)) (ofNat q)) (Cu (by omega)))) (by kernel_rfl)
   rw [Ae hr,AN];exact Xr hq hn hm d (b+1) true M (by omega) (by omega)
  | false =>
   have hr:Ap (Ah7 2) OE (Rt [(5,bV false),(6,nV b)] n v m (λk=>eV (g k)) (ofNat q))=some (.nm,Rt [(5,bV (eqE (g b) (v q))),(6,iV (ofNat (b+1)))] n v m (λk=>eV (g k)) (ofNat q)):=DW.rd (.k (ofNat_lt hb) <| .r 3 eF <| .k (Af hb) <| .k eF <| .k (decide_eq_true hb) <| .r 3 eF <| .k (Af hq) <| .r 3 eF <| .e (nm1 (f:=λz=>Rt [(5,bV (eqE (g b) (v q))),(6,iV z)] n v m (λk=>eV (g k)) (ofNat q)) (Cu (by omega)))) (by kernel_rfl)
   rw [Ae hr,AN];exact Xr hq hn hm d (b+1) (eqE (g b) (v q)) M (by omega) (by omega)
theorem AcR (l:List E6) (x:E6):AA l.length (λj=>eV (getE l j)) (eV x)=λj=>eV (getE (x::l) j):=by
 funext j;rw [BS];show (bif Nat.beq j l.length then eV x else eV (getE l j))=eV (bif Nat.beq j l.length then x else getE l j);cases Nat.beq j l.length <;> rfl
def Abt (n:Nat) (v:Nat->E6) (i:Nat):St:=Rt [] n v (AG v i).length (λk=>eV (getE (AG v i) k)) (ofNat i)
theorem AoY {n:Nat} {v:Nat->E6} (hn:n <= 128):(Ax (Ah7 0) Aik 1000 (Abt n v 0)).sem=some (.ex 0,⟨jsV 41 0 Ac [(3,.ref 1)],[.row 46 6 0 Ac,.row 46 6 (AG v n).length λk=>eV (getE (AG v n) k)]⟩):=by
 refine Cj (S:=Abt n v) (m:=n) (λh=>by cases h) (λi hi=>?_) ?_ (by omega)
 ·have hl:=G9 v i
  have h2:=Xr (g:=getE (AG v i)) (v:=v) hi hn (m:=(AG v i).length) (by omega) (AG v i).length 0 false 1000 (by omega) (by omega);have ha:Ci (AG v i).length 1 40=true:=decide_eq_true (by show ((AG v i).length+1) * 40 <= (140737488355328:Nat); omega);cases hb:Kw (getE (AG v i)) (v i) (AG v i).length 0 with
  | true =>
   rw [hb] at h2;have e:(Ex.nm,Rt [] n v (AG v i).length (λk=>eV (getE (AG v i) k)) (wr .i64 (Aj (ofNat i) 1)))=(Ex.nm,Abt n v (i+1)):=by
    unfold Abt;rw [KJ hb,Cu (by omega)]
   exact DW.rd (.k (ofNat_lt hi) <| .a h2 <| .k (eN eT) <| .e e) (by kernel_rfl)
  | false =>
   rw [hb] at h2;have e:(Ex.nm,Rt [] n v ((AG v i).length+1) (AA (AG v i).length (λk=>eV (getE (AG v i) k)) (eV (v i))) (wr .i64 (Aj (ofNat i) 1)))=(Ex.nm,Abt n v (i+1)):=by
    unfold Abt;rw [Jv hb,Cu (by omega),AcR];rfl
   exact DW.rd (.k (ofNat_lt hi) <| .a h2 <| .k (eN eF) <| .k (Af hi) <| .k ha <| .e e) (by kernel_rfl)
 ·exact DW.rd (.k (A4 (Nat.le_refl n)) <| .l) (by kernel_rfl)
def AhV:List V->A2
 | [u]=>apL u λk w=>.br (Av (By k w) (decide (k <= 128))) (.leaf (.ref 0,[.row 46 6 (AG w k).length λi=>eV (getE (AG w k) i)])) .fail
 | _=>.fail
theorem p108:As Tryz.prog Gl 108 AhV:=by
 refine Ah Az mixed Tryz.func108 (by kernel_rfl) (by kernel_rfl) λvs v h' h=>?_;obtain ⟨k,w,ha,hm,hk,h⟩:=Vv (F:=λk w=>(.ref 0,[.row 46 6 (AG w k).length λi=>eV (getE (AG w k) i)])) h;cases h;have hx:=Ba (Ao.nil:Ao Tryz.prog Gl []) Aie (G:=Gl);exact ⟨[Am k w],Ai3,_,ha,rfl,hx.1,hx.2,DW.ok (.a (AoY (v:=w) hk) <| .l) (by kernel_rfl),Au.refl _⟩
def ES (g:Nat->E6):Nat->Nat->Nat
 | 0,_=>0
 | i+1,q=>if cls (g i)=q then ES g i q+1 else ES g i q
theorem ZD (g:Nat->E6) (q:Nat):∀ i,ES g i q <= i
 | 0=>Nat.le_refl _
 | i+1=>by
  have:=ZD g q i;unfold ES;split <;> omega
theorem QP {g g':Nat->E6} (q:Nat):∀ i,(∀ j,j<i->g j=g' j)->ES g i q=ES g' i q
 | 0,_=>rfl
 | i+1,h=>by
  unfold ES;rw [h i (by omega),QP q i λj hj=>h j (by omega)]
theorem J9 (q:Nat):∀ l:List E6,ES (getE l) l.length q=Db l q
 | []=>rfl
 | x::l=>by
  have e1:getE (x::l) l.length=x:=by
   show (bif Nat.beq l.length l.length then x else getE l l.length)=x;rw [Nat.beq_refl];rfl
  have e2:ES (getE (x::l)) l.length q=ES (getE l) l.length q:=QP q _ λj hj=>by
   show (bif Nat.beq j l.length then x else getE l j)=getE l j;rw [show Nat.beq j l.length=false from Bool.eq_false_iff.2 λh=>by have:=Nat.eq_of_beq_eq_true h; omega];rfl
  show (if cls (getE (x::l) l.length)=q then ES (getE (x::l)) l.length q+1 else ES (getE (x::l)) l.length q)=_
  rw [e1,e2,J9 q l];rfl
noncomputable def AlM:AH:=[(56,AlF),(108,AhV)]
theorem Af4:Ao Tryz.prog Gl AlM:=.cons p56 <| .cons p108 .nil
def Akm:Lp:=⟨bmK 41 0 [2,3,4,6,7],3,bmK 41 0 [2,3,4],2,1000⟩
noncomputable abbrev AnU:Cx:=cxA Gl AlM [(0,Akm,[])]
noncomputable def B80:St->T (Ex×St):=λst=>A8 tab AnU (A0 Tryz.f80 0) 0 st
def S80 (m:Nat) (g:Nat->E6) (c0 c1 c2 c3 i:Int):St:=⟨jsV 41 0 Ac [(2,.ptr 0 0),(3,iV 0),(4,.ptr 1 0),(6,.ref 2),(7,iV i)],[.cells [iV 0,iV 0,iV 0,iV 0],.cells [iV c0,iV c1,iV c2,iV c3],.row 46 6 m λk=>eV (g k)]⟩
def T80 (m:Nat) (g:Nat->E6) (i:Nat):St:=S80 m g (ofNat (ES g i 0)) (ofNat (ES g i 1)) (ofNat (ES g i 2)) (ofNat (ES g i 3)) (ofNat i)
theorem r80 {m:Nat} {g:Nat->E6} (hm:m <= 128) (ho:∀ i,i<m->AB (g i)=0):(Ax B80 Akm 1000 (T80 m g 0)).sem=some (.ex 0,⟨jsV 41 0 Ac [(2,.ptr 0 0),(3,iV 0),(4,.ptr 1 0)],[.cells [iV 0,iV 0,iV 0,iV 0],.cells [iV (ofNat (ES g m 0)),iV (ofNat (ES g m 1)),iV (ofNat (ES g m 2)),iV (ofNat (ES g m 3))]]⟩):=by
 refine Cj (S:=T80 m g) (m:=m) (λh=>by cases h) (λi hi=>?_) ?_ (by omega)
 ·have hw:=λq=>Cu (i:=ES g i q) (by have:=ZD g q i; omega)
  have e:∀ {c0 c1 c2 c3:Int},c0=ofNat (ES g (i+1) 0)->c1=ofNat (ES g (i+1) 1)->c2=ofNat (ES g (i+1) 2)->c3=ofNat (ES g (i+1) 3)->(Ex.nm,S80 m g c0 c1 c2 c3 (wr .i64 (Aj (ofNat i) 1)))=(Ex.nm,T80 m g (i+1)):=by
   intro c0 c1 c2 c3 h0 h1 h2 h3;unfold T80;rw [Cu (by omega),h0,h1,h2,h3]
  have no:∀ {q},cls (g i) ≠ q->ofNat (ES g i q)=ofNat (ES g (i+1) q):=λh=>by rw [ES,if_neg h]
  have yes:∀ {q},cls (g i)=q->wr .i64 (Aj (ofNat (ES g i q)) 1)=ofNat (ES g (i+1) q):=λh=>by rw [ES,if_pos h,hw]
  have b1:=Af hi;have b2:nlt i m=true:=decide_eq_true hi;rcases AnC (ho i hi) with ⟨h1,h2,h3⟩ | ⟨h1,h2,h3⟩ | ⟨h1,h2,h3⟩ | ⟨h1,h2,h3⟩
  ·have a:ieq (wr .i64 (Ay (g i).src 1)) 0=true:=by rw [h1]; rfl
   have b:ieq (wr .i64 (Ay (g i).dst 1)) 0=true:=by rw [h2]; rfl
   exact DW.rd (.k (ofNat_lt hi) <| .k b1 <| .k b2 <| .k b1 <| .k b2 <| .k a <| .k b <| .k a <| .k b <| .e (e (yes h3) (no (by omega)) (no (by omega)) (no (by omega)))) (by kernel_rfl)
  ·have a:ieq (wr .i64 (Ay (g i).src 1)) 0=true:=by rw [h1]; rfl
   have b:ieq (wr .i64 (Ay (g i).dst 1)) 0=false:=by rw [h2]; rfl
   have c:ieq (wr .i64 (Ay (g i).dst 1)) 1=true:=by rw [h2]; rfl
   exact DW.rd (.k (ofNat_lt hi) <| .k b1 <| .k b2 <| .k b1 <| .k b2 <| .k a <| .k b <| .k c <| .k a <| .k b <| .k c <| .e (e (no (by omega)) (yes h3) (no (by omega)) (no (by omega)))) (by kernel_rfl)
  ·have a:ieq (wr .i64 (Ay (g i).src 1)) 0=false:=by rw [h1]; rfl
   have b:ieq (wr .i64 (Ay (g i).src 1)) 1=true:=by rw [h1]; rfl
   have c:ieq (wr .i64 (Ay (g i).dst 1)) 0=true:=by rw [h2]; rfl
   exact DW.rd (.k (ofNat_lt hi) <| .k b1 <| .k b2 <| .k b1 <| .k b2 <| .k a <| .k b <| .k c <| .k a <| .k b <| .k c <| .e (e (no (by omega)) (no (by omega)) (yes h3) (no (by omega)))) (by kernel_rfl)
  ·have a:ieq (wr .i64 (Ay (g i).src 1)) 0=false:=by rw [h1]; rfl
   have b:ieq (wr .i64 (Ay (g i).src 1)) 1=true:=by rw [h1]; rfl
   have c:ieq (wr .i64 (Ay (g i).dst 1)) 0=false:=by rw [h2]; rfl
   have d:ieq (wr .i64 (Ay (g i).dst 1)) 1=true:=by rw [h2]; rfl
   exact DW.rd (.k (ofNat_lt hi) <| .k b1 <| .k b2 <| .k b1 <| .k b2 <| .k a <| .k b <| .k c <| .k d <| .k a <| .k b <| .k c <| .k d <| .e (e (no (by omega)) (no (by omega)) (no (by omega)) (yes h3))) (by kernel_rfl)
 ·exact DW.rd (.k (A4 (Nat.le_refl m)) <| .l) (by kernel_rfl)
theorem p80:As Tryz.prog Gl 80 Aa5:=by
 refine Ah Az mixed Tryz.func80 (by kernel_rfl) (by kernel_rfl) λvs v h' h=>?_;obtain ⟨k,w,ha,hm,hk,h⟩:=S7 h;cases h;have hx:=Ba Af4 [(0,Akm,[])] (G:=Gl);have hl:=G9 w k;have hr:=r80 (m:=(AG w k).length) (g:=getE (AG w k)) (by omega) λi hi=>by
  obtain ⟨t,ht,he⟩:=Ka w k _ ((Q0 _ _).1 ⟨i,hi,rfl⟩);rw [he];exact Bw.1 hm t ht
 rw [J9,J9,J9,J9] at hr;have hg:=Adm hm hk;exact ⟨[Am k w],AnU,_,ha,rfl,hx.1,hx.2,DW.ok (.k (eL k) <| .k hg <| .k (eN (eI 0)) <| .k (eL k) <| .k hg <| .a hr <| .l) (by kernel_rfl),Au.refl _⟩
noncomputable def Ajb:AH:=[(80,Aa5),(98,AbD)]
theorem Af8:Ao Tryz.prog Gl Ajb:=.cons p80 <| .cons p98 .nil
theorem p68:As Tryz.prog Gl 68 RQ:=by
 refine Ah Az mixed Tryz.func68 (by kernel_rfl) (by kernel_rfl) λvs v h' h=>?_;obtain ⟨k,w,j,hA,hg,h⟩:=Pe h;obtain ⟨hm,hk,N,rfl,h1,h16⟩:=Pf hg;have hx:=Ba Af8 [] (G:=Gl);have g0:=Adm hm hk;have g1:ilt (ofNat N) 1=false:=decide_eq_false (by show ¬ (N:Int)<(1:Int); omega);have g2:ilt 16 (ofNat N)=false:=decide_eq_false (by show ¬ (16:Int)<(N:Int); omega);have g3:ile 1 (ofNat N)=true:=decide_eq_true (by show (1:Int) <= (N:Int); omega);have g4:ile (ofNat N) 16=true:=decide_eq_true (by show (N:Int) <= (16:Int); omega);have hG:∀ q,okG (ofNat (Db (AG w k) q))=true:=λq=>by
  have:=OR (AG w k) q;have:=G9 w k;exact EK.2 ⟨Int.natCast_nonneg _,by show ((Db (AG w k) q:Nat):Int) <= _; omega⟩
 have hN:okN (Nl k w)=true:=by
  unfold okN Nl;rw [hG 0,hG 1,hG 2,hG 3];rfl
 obtain ⟨e2,e1⟩:=AbC (Nl k w) hN N;have h:(T.br (ilt (trI (Nl k w) N) 9223372036854775808) (.leaf (.tup [iV (trI (Nl k w) N),iV 0],([]:List Blk))) (.leaf (.tup [iV 0,iV 3],[]))).sem=some (v,h'):=h;cases hc:ilt (trI (Nl k w) N) 9223372036854775808 with
 | true =>rw [hc] at h;cases h;have ht:okT (trI (Nl k w) N)=true:=decide_eq_true (by have:=of_decide_eq_true hc; omega);exact ⟨_,cxA Gl Ajb [],_,hA,rfl,hx.1,hx.2,DW.ok (.k (eL k) <| .k g0 <| .k (eN (eI 0)) <| .r 3 g1 <| .k g2 <| .k (hG 0) <| .k (hG 1) <| .k (hG 2) <| .k (hG 3) <| .k g3 <| .k g4 <| .k (eN (e2.trans ht)) <| .e (congrArg (λz=>(V.tup [iV z,iV 0],([]:List Blk))) (e1 ht))) (by kernel_rfl),Au.refl _⟩
 | false =>rw [hc] at h;cases h;have ht:okT (trI (Nl k w) N)=false:=decide_eq_false (by have:=of_decide_eq_false hc; omega);exact ⟨_,cxA Gl Ajb [],_,hA,rfl,hx.1,hx.2,DW.ok (.k (eL k) <| .k g0 <| .k (eN (eI 0)) <| .r 3 g1 <| .k g2 <| .k (hG 0) <| .k (hG 1) <| .k (hG 2) <| .k (hG 3) <| .k g3 <| .k g4 <| .k (eN (e2.trans ht)) <| .l) (by kernel_rfl),Au.refl _⟩
end Go.Proofs.YtkbgidbledjejaaGreat.En
namespace Go.Proofs.YtkbgidbledjejaaGreat.En
open Go.Sy Go Go.Proofs.YtkbgidbledjejaaGreat.Ed
open Int (ofNat)
set_option maxRecDepth 100000
theorem OX {x:Int} (h:-9223372036854775808 <= x) (h2:x <= 9223372036854775807):wr .i64 x=x:=by
 unfold wr IntKind.wrap;simp [IntKind.bits,IntKind.signed];omega
theorem ZF (k:Nat) (w:Nat->E6) (t:Nat):0 <= C5 k w t:=Int.natCast_nonneg _
def Gu (k:Nat) (w:Nat->E6):Nat->Nat->Int->Bool
 | 0,_,_=>false
 | d+1,b,l=>sel (ilt (C5 k w b) 9223372036854775808) (sel (ilt l (C5 k w b)) true (Gu k w d (b+1) (l-C5 k w b))) true
def FT (k:Nat) (w:Nat->E6) (n:Int):Bool:=Gu k w (toN n-1) 2 262144
def Pb (k:Nat) (w:Nat->E6) (n:Int):Bool:=Av (By k w) (Av (ile 2 n) (Av (ile n 16) (decide (k <= 128))))
def Ll:List V->A2
 | [u,.val (.int .i64 n)]=>apL u λk w=>.br (Pb k w n) (.leaf (bV (FT k w n),[])) .fail
 | _=>.fail
theorem Pa {vs:List V} {r:V×List Blk} (h:(Ll vs).sem=some r):∃ k w n,B0 vs [Am k w,iV n]∧Pb k w n=true∧(T.leaf (bV (FT k w n),([]:List Blk))).sem=some r:=by
 unfold Ll at h;split at h
 ·rename_i u n
  obtain ⟨k,w,ha,h⟩:=AQ h;obtain ⟨hg,h⟩:=Ab h;refine ⟨k,w,n,λS W cs hq=>?_,hg,h⟩;obtain ⟨c,l,rfl,q1,q2⟩:=hq;exact ⟨c,_,rfl,ha S W c q1,q2⟩
 ·cases h
theorem UM {k:Nat} {w:Nat->E6} {n:Int} (h:Pb k w n=true):By k w=true∧k <= 128∧∃ N:Nat,n=ofNat N∧2 <= N∧N <= 16:=by
 obtain ⟨h1,h⟩:=Bf h;obtain ⟨h2,h⟩:=Bf h;obtain ⟨h3,h4⟩:=Bf h;have h2:(2:Int) <= n:=of_decide_eq_true h2;have h3:n <= (16:Int):=of_decide_eq_true h3;refine ⟨h1,of_decide_eq_true h4,n.toNat,(Int.toNat_of_nonneg (by omega)).symm,by omega,by omega⟩
noncomputable def AlY:AH:=(67,RQ)::[]
theorem AfS:Ao Tryz.prog Gl AlY:=.cons p67 <| .nil
def AgA:Lp:=⟨bmK 30 0 [0,1,4,5,6],0,bmK 30 0 [4],0,4611686018427387905⟩
def Anr:List (Nat×Lp×List (Nat×(Nat->V))):=[(0,AgA,[])]
noncomputable abbrev AnZ:Cx:=cxA Gl AlY Anr
def S33 (n:Int) (k:Nat) (w:Nat->E6) (l i:Int):St:=⟨jsV 30 0 Ac [(0,Am k w),(1,iV n),(4,bV false),(5,iV l),(6,iV i)],[]⟩
def e33 (b:Bool):Ex×St:=match b with
 | false=>(.ex 0,⟨jsV 30 0 Ac [(4,bV false)],[]⟩)
 | true=>(.rt,⟨jsV 30 0 Ac [(4,bV true)],[]⟩)
noncomputable def B33:St->T (Ex×St):=λst=>A8 tab AnZ (A0 Tryz.f33 0) 0 st
theorem r33 {n:Int} {N k:Nat} {w:Nat->E6} (hn:n=ofNat N) (hN:N <= 16) (hm:By k w=true) (hk:k <= 128):∀ (d b:Nat) (l:Int) (M:Nat),2 <= b->b+d=N+1->0 <= l∧l <= 262144->d<M->(Ax B33 AgA M (S33 n k w l (ofNat b))).sem=some (e33 (Gu k w d b l))
 | 0,b,l,M,h2,h,hl,hM=>by
  obtain ⟨M,rfl⟩:∃ o,M=o+1:=⟨M-1,by omega⟩;have hb:ile (ofNat b) n=false:=decide_eq_false (by rw [hn]; show ¬ ((b:Int) <= (N:Int)); omega);exact Ae (t:=some (.ex 0,_)) (DW.rd (.k hb <| .l) (by kernel_rfl))
 | d+1,b,l,M,h2,h,hl,hM=>by
  obtain ⟨M,rfl⟩:∃ o,M=o+1:=⟨M-1,by omega⟩;have hb:ile (ofNat b) n=true:=decide_eq_true (by rw [hn]; show (b:Int) <= (N:Int); omega);have hG:Lm k w (ofNat b)=true:=by
   unfold Lm;rw [hm,decide_eq_true hk,show ile 1 (ofNat b)=true from decide_eq_true (by show (1:Int) <= (b:Int); omega),show ile (ofNat b) 16=true from decide_eq_true (by show (b:Int) <= 16; omega)];rfl
  have h0:=ZF k w b;unfold Gu;cases h1:ilt (C5 k w b) 9223372036854775808 with
  | false=>exact Ae (t:=some (.rt,_)) (DW.rd (.k hb <| .k (eL k) <| .k hG <| .k h1 <| .r 4 (eN (show ieq 3 0=false from rfl)) <| .k eT <| .l) (by kernel_rfl))
  | true =>
   skip
   cases h2':ilt l (C5 k w b) with
   | true=>exact Ae (t:=some (.rt,_)) (DW.rd (.k hb <| .k (eL k) <| .k hG <| .k h1 <| .r 4 (eN (eI 0)) <| .k h2' <| .l) (by kernel_rfl))
   | false =>
    have h3:¬ (l<C5 k w b):=of_decide_eq_false h2';have hw:wr .i64 (Ay l (C5 k w b))=l-C5 k w b:=OX (x:=l-C5 k w b) (by omega) (by omega);refine (Ae (DW.rd (.k hb <| .k (eL k) <| .k hG <| .k h1 <| .r 4 (eN (eI 0)) <| .k h2' <| .e (nm2 (f:=λl i=>S33 n k w l i) hw (Cu (by omega)))) (by kernel_rfl):Ap B33 AgA (S33 n k w l (ofNat b))=some (.nm,S33 n k w (l-C5 k w b) (ofNat (b+1))))).trans ?_
    show (Ax B33 AgA M (S33 n k w (l-C5 k w b) (ofNat (b+1)))).sem=_;rw [r33 hn hN hm hk d (b+1) (l-C5 k w b) M (by omega) (by omega) (by omega) (by omega)];show some (e33 (Gu k w d (b+1) (l-C5 k w b)))=some (e33 (Gu k w d (b+1) (l-C5 k w b)));rfl
theorem p33:As Tryz.prog Gl 33 Ll:=by
 refine Ah Az mixed Tryz.func33 (by kernel_rfl) (by kernel_rfl) λvs v h' h=>?_;obtain ⟨k,w,n,ha,hg,h⟩:=Pa h;have:=Aa h;simp only [Prod.mk.injEq] at this;obtain ⟨rfl,rfl⟩:=this;have hx:=Ba AfS Anr (G:=Gl);refine ⟨[Am k w,iV n],AnZ,_,ha,rfl,hx.1,hx.2,?_,Au.refl _⟩;obtain ⟨hm,hk,N,hn,h2,hN⟩:=UM hg;have hr:=r33 hn hN hm hk (N-1) 2 262144 4611686018427387905 (by omega) (by omega) (by omega) (by omega);unfold FT;rw [show toN n=N by rw [hn]; rfl];have e0:(262144:Int)=262144:=rfl;rw [e0] at hr;cases hb:Gu k w (N-1) 2 262144 with
 | true =>rw [hb] at hr;exact DW.ok (.a hr .l) (by kernel_rfl)
 | false =>rw [hb] at hr;exact DW.ok (.a hr .l) (by kernel_rfl)
noncomputable def AlX:AH:=(68,RQ)::[]
theorem AfQ:Ao Tryz.prog Gl AlX:=.cons p68 <| .nil
def Ag9:Lp:=⟨bmK 31 0 [0,1,4,5,6],0,bmK 31 0 [4],0,4611686018427387905⟩
def Anq:List (Nat×Lp×List (Nat×(Nat->V))):=[(0,Ag9,[])]
noncomputable abbrev AnY:Cx:=cxA Gl AlX Anq
def S35 (n:Int) (k:Nat) (w:Nat->E6) (l i:Int):St:=⟨jsV 31 0 Ac [(0,Am k w),(1,iV n),(4,bV false),(5,iV l),(6,iV i)],[]⟩
def e35 (b:Bool):Ex×St:=match b with
 | false=>(.ex 0,⟨jsV 31 0 Ac [(4,bV false)],[]⟩)
 | true=>(.rt,⟨jsV 31 0 Ac [(4,bV true)],[]⟩)
noncomputable def B35:St->T (Ex×St):=λst=>A8 tab AnY (A0 Tryz.f35 0) 0 st
theorem r35 {n:Int} {N k:Nat} {w:Nat->E6} (hn:n=ofNat N) (hN:N <= 16) (hm:By k w=true) (hk:k <= 128):∀ (d b:Nat) (l:Int) (M:Nat),2 <= b->b+d=N+1->0 <= l∧l <= 262144->d<M->(Ax B35 Ag9 M (S35 n k w l (ofNat b))).sem=some (e35 (Gu k w d b (262144-l)))
 | 0,b,l,M,h2,h,hl,hM=>by
  obtain ⟨M,rfl⟩:∃ o,M=o+1:=⟨M-1,by omega⟩;have hb:ile (ofNat b) n=false:=decide_eq_false (by rw [hn]; show ¬ ((b:Int) <= (N:Int)); omega);exact Ae (t:=some (.ex 0,_)) (DW.rd (.k hb <| .l) (by kernel_rfl))
 | d+1,b,l,M,h2,h,hl,hM=>by
  obtain ⟨M,rfl⟩:∃ o,M=o+1:=⟨M-1,by omega⟩;have hb:ile (ofNat b) n=true:=decide_eq_true (by rw [hn]; show (b:Int) <= (N:Int); omega);have hG:Lm k w (ofNat b)=true:=by
   unfold Lm;rw [hm,decide_eq_true hk,show ile 1 (ofNat b)=true from decide_eq_true (by show (1:Int) <= (b:Int); omega),show ile (ofNat b) 16=true from decide_eq_true (by show (b:Int) <= 16; omega)];rfl
  have h0:=ZF k w b;unfold Gu;cases h1:ilt (C5 k w b) 9223372036854775808 with
  | false=>exact Ae (t:=some (.rt,_)) (DW.rd (.k hb <| .k (eL k) <| .k hG <| .k h1 <| .r 5 (eN (show ieq 3 0=false from rfl)) <| .k eT <| .l) (by kernel_rfl))
  | true =>
   have hs:wr .i64 (Ay 262144 l)=Ay 262144 l:=OX (x:=262144-l) (by omega) (by omega);cases h2':ilt (262144-l) (C5 k w b) with
   | true=>exact Ae (t:=some (.rt,_)) (DW.rd (.k hb <| .k (eL k) <| .k hG <| .k h1 <| .r 5 (eN (eI 0)) <| .k (cg1 (λzz0=>ilt zz0 (C5 k w b)) hs h2') <| .l) (by kernel_rfl))
   | false =>
    have h3:¬ ((262144-l)<C5 k w b):=of_decide_eq_false h2';have hw:wr .i64 (Aj l (C5 k w b))=l+C5 k w b:=OX (x:=l+C5 k w b) (by omega) (by omega);refine (Ae (DW.rd (.k hb <| .k (eL k) <| .k hG <| .k h1 <| .r 5 (eN (eI 0)) <| .k (cg1 (λzz0=>ilt zz0 (C5 k w b)) hs h2') <| .e (nm2 (f:=λl i=>S35 n k w l i) hw (Cu (by omega)))) (by kernel_rfl):Ap B35 Ag9 (S35 n k w l (ofNat b))=some (.nm,S35 n k w (l+C5 k w b) (ofNat (b+1))))).trans ?_
    show (Ax B35 Ag9 M (S35 n k w (l+C5 k w b) (ofNat (b+1)))).sem=_;rw [r35 hn hN hm hk d (b+1) (l+C5 k w b) M (by omega) (by omega) (by omega) (by omega)];show some (e35 (Gu k w d (b+1) (262144-(l+C5 k w b))))=some (e35 (Gu k w d (b+1) ((262144-l)-C5 k w b)));rw [show 262144-(l+C5 k w b)=262144-l-C5 k w b by omega]
theorem p35:As Tryz.prog Gl 35 Ll:=by
 refine Ah Az mixed Tryz.func35 (by kernel_rfl) (by kernel_rfl) λvs v h' h=>?_;obtain ⟨k,w,n,ha,hg,h⟩:=Pa h;have:=Aa h;simp only [Prod.mk.injEq] at this;obtain ⟨rfl,rfl⟩:=this;have hx:=Ba AfQ Anq (G:=Gl);refine ⟨[Am k w,iV n],AnY,_,ha,rfl,hx.1,hx.2,?_,Au.refl _⟩;obtain ⟨hm,hk,N,hn,h2,hN⟩:=UM hg;have hr:=r35 hn hN hm hk (N-1) 2 0 4611686018427387905 (by omega) (by omega) (by omega) (by omega);unfold FT;rw [show toN n=N by rw [hn]; rfl];have e0:(262144:Int)-0=262144:=rfl;rw [e0] at hr;cases hb:Gu k w (N-1) 2 262144 with
 | true =>rw [hb] at hr;exact DW.ok (.a hr .l) (by kernel_rfl)
 | false =>rw [hb] at hr;exact DW.ok (.a hr .l) (by kernel_rfl)
end Go.Proofs.YtkbgidbledjejaaGreat.En

namespace Go.Proofs.YtkbgidbledjejaaGreat.En
open Go.Sy Go Go.Proofs.YtkbgidbledjejaaGreat.Ed
set_option maxRecDepth 100000
theorem CX {E:List V->List Blk->A2} {vs:List V} {h:List Blk} {r:V×List Blk} (he:(E vs h).sem=some r):((E vs h).sem.map λr=>(Ex.rt,(⟨[r.1],r.2⟩:St)))=some (.rt,⟨[r.1],r.2⟩):=by rw [he]; rfl
def rcd:Code->Option RngCode
 | .seq a b=>match rcd a with
  | some c=>some c
  | none=>rcd b
 | .block _ c=>rcd c
 | .cond _ a b=>match rcd a with
  | some c=>some c
  | none=>rcd b
 | .rangeFunc _ ps a b=>some ⟨ps,a,b⟩
 | _=>none
noncomputable def cd9:RngCode:=match Tryz.f9.body with
 | some c=>match rcd c with
  | some c=>c
  | none=>⟨#[],.skip,.skip⟩
 | none=>⟨#[],.skip,.skip⟩
noncomputable def ts9 (A n q:Int) (k:Nat) (w:Nat->E6):List V:=(jsV 43 0 (λ_=>A5) [(0,iV A),(1,.sl 6 k (λi=>eV (w i))),(2,iV n),(3,iV q),(7,.ptr 0 0),(8,.ptr 1 0),(9,.ptr 2 0),(10,iV (Dt A k w n)),(11,.ptr 3 0),(13,iV A),(14,.sl 6 k (λi=>eV (w i))),(15,iV n),(16,iV (Dt A k w n)),(17,iV (Dt A k w n)),(18,bV (AL (ieq (Dt A k w n) 0))),(20,iV q),(21,bV (ilt q 0)),(22,bV (ilt q 0)),(23,iV q),(24,bV (ilt 65536 q)),(25,bV (ilt 65536 q)),(26,.sl 6 k (λi=>eV (w i))),(27,iV n),(28,bV (FT k w n)),(29,iV A),(30,.sl 6 k (λi=>eV (w i))),(31,iV n),(32,.fn 41 [.ptr 4 0,.ptr 7 0,.ptr 5 0])])
noncomputable def Ajj:AH:=(40,AeD)::[]
theorem AfZ:Ao Tryz.prog Gl Ajj:=.cons p40 <| .nil
noncomputable def tb9:AH:=(32,P9)::(33,Ll)::[]
theorem AiW:Ao Tryz.prog Gl tb9:=.cons Agw <| .cons p33 <| .nil
noncomputable def tb41:AH:=(32,P9)::(33,Ll)::(44,Uw)::[]
theorem tb41_ok:Ao Tryz.prog Gl tb41:=.cons Agw <| .cons p33 <| .cons p44 <| .nil
noncomputable def E19:List V->List Blk->A2:=Ar tab (cxA Gl Ajj []) Tryz.f19
noncomputable abbrev cx9:Cx:=⟨M5 [(19,E19)] (A6 tb9),C6 [],Gl⟩
def lp41:Lp:=⟨bmK 27 0 [0,5],18,bmK 27 0 [],21,10000000000000000000000000000000000000000000000000000⟩
noncomputable abbrev Ae2:Cx:=⟨M5 [(42,Ra E42),(43,Ra E43)] (A6 tb41),C6 [(0,lp41,[(11,λ_=>iV 0)])],Gl⟩
noncomputable abbrev rN:Rg:=rgI [] YR
noncomputable abbrev R41:Rg:=rgI [] (Ac9 tab cx9 rN)
noncomputable def E41:List V->List Blk->A2:=N7 tab Ae2 R41 Tryz.f41
noncomputable abbrev R9:Rg:=rgI [(41,E41)] YR
noncomputable def F9 (vs:List V):A2:=AK (N7 tab cx9 R9 Tryz.f9 vs [])
noncomputable def B41:St->T (Ex×St):=λst=>Gw tab Ae2 R41 none (A0 Tryz.f41 0) 0 st
def Amg:List V:=jsV 27 0 Ac [(0,.ref 8),(5,.ptr 12 0)]
def Aa1:List V:=jsV 27 0 Ac []
noncomputable def S41 (A n q:Int) (k:Nat) (w:Nat->E6) (m:Nat) (v:Nat->E6) (L:Nat) (x:Nat->Int) (hs:Key->Bool) (gt:Key->V):St:=⟨Amg,[.cells [iV q],.cells [.nilS],.cells [iV 0],.cells [.nilS],.cells [iV A],.cells [iV n],.row 46 6 k (λi=>eV (w i)),.cells [.und],.rng cd9 (ts9 A n q k w) .ready,.saved (.ref 8::ts9 A n q k w),.row 46 6 m (λi=>eV (v i)),.row 3 1 L (λi=>iV (x i)),.cells [iV A,iV n,.ref 10,.ref 11],.gmap 86 [] hs gt]⟩
noncomputable def UI (A n q:Int) (k:Nat) (w:Nat->E6) (m:Nat) (v:Nat->E6) (L:Nat) (x:Nat->Int) (hs:Key->Bool) (gt:Key->V) (c:Nat) (g:Nat->V) (lv:Nat->Bool) (ln:Nat->Nat) (me:Nat->Nat->V):St:=⟨Amg,[.cells [iV q],.cells [.nilS],.cells [iV 0],.cells [.jref 17],.cells [iV A],.cells [iV n],.row 46 6 k (λi=>eV (w i)),.cells [.und],.rng cd9 (ts9 A n q k w) .ready,.saved (.ref 8::ts9 A n q k w),.row 46 6 m (λi=>eV (v i)),.row 3 1 L (λi=>iV (x i)),.cells [iV A,iV n,.ref 10,.ref 11],.gmap 86 [] hs gt,.dead,.dead,.dead,.jag ⟨22,1,c,g,0,46,6,lv,ln,me,none⟩]⟩
noncomputable def Alk (A n q:Int) (k:Nat) (w:Nat->E6) (m:Nat) (v:Nat->E6) (L:Nat) (x:Nat->Int) (hs:Key->Bool) (gt:Key->V):Ex×St:=(.ex 0,⟨Aa1,[.cells [iV q],.cells [.nilS],.cells [iV 0],.cells [.nilS],.cells [iV A],.cells [iV n],.row 46 6 k (λi=>eV (w i)),.cells [.und],.rng cd9 (ts9 A n q k w) .ready,.saved (.ref 8::ts9 A n q k w),.row 46 6 m (λi=>eV (v i)),.row 3 1 L (λi=>iV (x i)),.cells [iV A,iV n,.ref 10,.ref 11],.gmap 86 [] hs gt]⟩)
noncomputable def All (A n q:Int) (k:Nat) (w:Nat->E6) (m:Nat) (v:Nat->E6) (L:Nat) (x:Nat->Int) (hs:Key->Bool) (gt:Key->V):Ex×St:=(.rt,⟨Aa1,[.cells [iV q],.cells [.jref 16],.cells [iV 3],.cells [.nilS],.cells [iV A],.cells [iV n],.row 46 6 k (λi=>eV (w i)),.cells [.und],.rng cd9 (ts9 A n q k w) (.done .rt),.saved (.ref 8::ts9 A n q k w),.row 46 6 m (λi=>eV (v i)),.row 3 1 L (λi=>iV (x i)),.cells [iV A,iV n,.ref 10,.ref 11],.gmap 86 [] hs gt,.row 46 6 L (λk=>eV (v (toN (x k)))),.dead,.jag ⟨22,1,0,λ_=>.und,0,46,6,λ_=>true,λ_=>0,λ_ _=>.und,none⟩]⟩)
noncomputable def Ab3 (A n q:Int) (k:Nat) (w:Nat->E6) (m:Nat) (v:Nat->E6) (L:Nat) (x:Nat->Int) (hs:Key->Bool) (gt:Key->V) (c:Nat) (g:Nat->V) (lv:Nat->Bool) (ln:Nat->Nat) (me:Nat->Nat->V):Ex×St:=(.ex 0,⟨Aa1,[.cells [iV q],.cells [.nilS],.cells [iV 0],.cells [.jref 17],.cells [iV A],.cells [iV n],.row 46 6 k (λi=>eV (w i)),.cells [.und],.rng cd9 (ts9 A n q k w) .ready,.saved (.ref 8::ts9 A n q k w),.row 46 6 m (λi=>eV (v i)),.row 3 1 L (λi=>iV (x i)),.cells [iV A,iV n,.ref 10,.ref 11],.gmap 86 [] hs gt,.dead,.dead,.dead,.jag ⟨22,1,c,g,0,46,6,lv,ln,me,none⟩]⟩)
noncomputable def Ab4 (A n q:Int) (k:Nat) (w:Nat->E6) (m:Nat) (v:Nat->E6) (L:Nat) (x:Nat->Int) (hs:Key->Bool) (gt:Key->V) (c:Nat) (g:Nat->V) (lv:Nat->Bool) (ln:Nat->Nat) (me:Nat->Nat->V):Ex×St:=(.rt,⟨Aa1,[.cells [iV q],.cells [.jref 20],.cells [iV 3],.cells [.jref 17],.cells [iV A],.cells [iV n],.row 46 6 k (λi=>eV (w i)),.cells [.und],.rng cd9 (ts9 A n q k w) (.done .rt),.saved (.ref 8::ts9 A n q k w),.row 46 6 m (λi=>eV (v i)),.row 3 1 L (λi=>iV (x i)),.cells [iV A,iV n,.ref 10,.ref 11],.gmap 86 [] hs gt,.dead,.dead,.dead,.jag ⟨22,1,c,g,0,46,6,lv,ln,me,none⟩,.row 46 6 L (λk=>eV (v (toN (x k)))),.dead,.jag ⟨22,1,0,λ_=>.und,0,46,6,λ_=>true,λ_=>0,λ_ _=>.und,none⟩]⟩)
theorem An2 (A n q:Int) (k:Nat) (w:Nat->E6) (m:Nat) (v:Nat->E6) (L:Nat) (x:Nat->Int) (hs:Key->Bool) (gt:Key->V) (c:Nat) (g:Nat->V) (lv:Nat->Bool) (ln:Nat->Nat) (me:Nat->Nat->V) (h:∀ i,i<c->lv i=true):Cg (UI A n q k w m v L x hs gt c g lv ln me).h=true:=by
 simp only [UI,Cg,Bool.and_true,Bool.true_and,List.all_eq_true,List.mem_range];exact h
section
variable {A n q:Int} {k:Nat} {w:Nat->E6} {m:Nat} {v:Nat->E6} {L:Nat} {x:Nat->Int} {L2:Nat} {x2:Nat->Int} {hs:Key->Bool} {gt:Key->V}
section
variable (hE:(E43 [.ptr 0 0] (HA A n m v L x)).sem=some (bV true,HA A n m v L2 x2)) (hsr:srG m L2 x2=true) (hk:F2 40 (Int.ofNat L2) (Int.ofNat L2)=true)
include hE hsr hk
theorem AoR (hq:ieq 0 q=true):Ap B41 lp41 (S41 A n q k w m v L x hs gt)=some (All A n q k w m v L2 x2 hs gt):=DW.rd (.a (CX hE) <| .k eT <| .k (eL m) <| .k (eL L2) <| .k hsr <| .k hk <| .k (rbE L2 λk=>v (toN (x2 k))) <| .k hq <| .k (eN eF) <| .l) (by kernel_rfl)
theorem AoP (hq:ieq 0 q=false):Ap B41 lp41 (S41 A n q k w m v L x hs gt)=some (.nm,UI A n q k w m v L2 x2 hs gt 1 (AA 0 Ac .und) (Da (λ_=>true) 0 true) (Dq (λ_=>0) 0 L2) (Dz (λ_ _=>.und) 0 λi=>eV (v (toN (x2 i))))):=DW.rd (.a (CX hE) <| .k eT <| .k (eL m) <| .k (eL L2) <| .k hsr <| .k hk <| .k (rbE L2 λk=>v (toN (x2 k))) <| .k hq <| .k eT <| .k (show Ci 0 1 24=true from by decide) <| .k (eN eT) <| .l) (by kernel_rfl)
variable {c:Nat} {g:Nat->V} {lv:Nat->Bool} {ln:Nat->Nat} {me:Nat->Nat->V} (hlv:∀ i,i<c->lv i=true)
include hlv
theorem AoM (hq:ieq (Int.ofNat c) q=true):Ap B41 lp41 (UI A n q k w m v L x hs gt c g lv ln me)=some (Ab4 A n q k w m v L2 x2 hs gt c g lv ln me):=DW.rd (.a (CX hE) <| .k eT <| .k (An2 A n q k w m v L2 x2 hs gt c g lv ln me hlv) <| .k (eL m) <| .k (eL L2) <| .k hsr <| .k hk <| .k (rbE L2 λk=>v (toN (x2 k))) <| .k hq <| .k (eN eF) <| .l) (by kernel_rfl)
theorem AoK (hq:ieq (Int.ofNat c) q=false) (hc:Ci c 1 24=true):Ap B41 lp41 (UI A n q k w m v L x hs gt c g lv ln me)=some (.nm,UI A n q k w m v L2 x2 hs gt (c+1) (AA c g .und) (Da lv c true) (Dq ln c L2) (Dz me c λi=>eV (v (toN (x2 i))))):=DW.rd (.a (CX hE) <| .k eT <| .k (An2 A n q k w m v L2 x2 hs gt c g lv ln me hlv) <| .k (eL m) <| .k (eL L2) <| .k hsr <| .k hk <| .k (rbE L2 λk=>v (toN (x2 k))) <| .k hq <| .k eT <| .k hc <| .k (eN eT) <| .l) (by kernel_rfl)
end
variable (hE:(E43 [.ptr 0 0] (HA A n m v L x)).sem=some (bV false,HA A n m v L2 x2))
include hE
theorem AoQ:Ap B41 lp41 (S41 A n q k w m v L x hs gt)=some (Alk A n q k w m v L2 x2 hs gt):=DW.rd (.a (CX hE) <| .k eF <| .l) (by kernel_rfl)
theorem AoL {c:Nat} {g:Nat->V} {lv:Nat->Bool} {ln:Nat->Nat} {me:Nat->Nat->V}:Ap B41 lp41 (UI A n q k w m v L x hs gt c g lv ln me)=some (Ab3 A n q k w m v L2 x2 hs gt c g lv ln me):=DW.rd (.a (CX hE) <| .k eF <| .l) (by kernel_rfl)
end
end Go.Proofs.YtkbgidbledjejaaGreat.En
