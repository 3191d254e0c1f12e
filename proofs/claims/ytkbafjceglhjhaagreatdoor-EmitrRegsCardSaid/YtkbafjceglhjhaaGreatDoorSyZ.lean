/-
  Layer 12: the law EmitrHangs, the walk: a thread's code gone through, instruction by instruction. No conditions.
-/
import Derived.Test.YtkbafjceglhjhaaGreatDoorErD
import Derived.Test.YtkbafjceglhjhaaGreatDoorShH
import Derived.Test.YtkbafjceglhjhaaGreatDoorEdX
namespace Go.Proofs.YtkbafjceglhjhaaGreatDoor.Er
open Go.Sy Go Go.Proofs.YtkbafjceglhjhaaGreatDoor.Ed Go.Proofs.YtkbafjceglhjhaaGreatDoor.Sh
open Int (ofNat)
set_option maxRecDepth 100000
set_option maxHeartbeats 1000000
structure A6 where
 c:Int
 m:Int
 b:Int
 q:Int
section
variable (s:Sh7)
def x1 (q:Int):Int:=wr .i64 (Ah q (ofNat s.nx))
def x2 (q:Int):Int:=wr .i64 (Bw (x1 s q) 1)
def x3 (q:Int):Int:=An (x2 s q) (ofNat s.nx)
def pe6 (q:Int):E6:=s.E (toN (x3 s q))
def pr6 (q:Int):Int:=rg9 s (toN (x3 s q))
def I6 (u i:Nat):In8:=JW (cdL s s.nx u) i
end
noncomputable def tb6:AM:=(9,shT XD)::(11,shT rgC)::(10,shT rcC)::(25,AbZ)::[]
inductive Md6 (s:Sh7) (a:A6):Prop where
 | n (k8:ieq (pe6 s a.q).kind 8=false) (k6:ieq (pe6 s a.q).kind 6=false) (k7:ieq (pe6 s a.q).kind 7=false) (hc:ile 0 a.c=false) (hm:ile 0 a.m=false)
 | c (k8:ieq (pe6 s a.q).kind 8=true) (k6:ieq (pe6 s a.q).kind 6=false) (k7:ieq (pe6 s a.q).kind 7=false) (hc:ile 0 a.c=true) (hm:ile 0 a.m=false) (hr:ieq a.c (pr6 s a.q)=true)
 | a (k8:ieq (pe6 s a.q).kind 8=false) (k6:ieq (pe6 s a.q).kind 6=true) (hc:ile 0 a.c=false) (hm:ile 0 a.m=true) (hr:ieq a.m (pr6 s a.q)=true)
 | d (k8:ieq (pe6 s a.q).kind 8=false) (k6:ieq (pe6 s a.q).kind 6=false) (k7:ieq (pe6 s a.q).kind 7=true) (hc:ile 0 a.c=false) (hm:ile 0 a.m=true) (hr:ieq a.m (pr6 s a.q)=true)
structure Gd6 (s:Sh7) (a:A6):Prop where
 n0:ieq (ofNat s.nx) 0=false
 hq:ile (ofNat s.nx) a.q=false
 hE:Aj (ile 0 (x3 s a.q)) (ilt (x3 s a.q) (ofNat s.ne))=true
 hX:Aj (ile 0 (x3 s a.q)) (ilt (x3 s a.q) (ofNat s.nx))=true
 hN:nlt (toN (x3 s a.q)) s.nx=true
inductive Stp6 (s:Sh7) (I:In8) (a:A6):A6->Prop where
 | b (h:I.op=11):Stp6 s I a ⟨I.a,a.m,wr .i64 (Ah a.b 1),a.q⟩
 | x (h:I.op=9) (hab:I.a=I.b):Stp6 s I a ⟨a.c,I.a,a.b,a.q⟩
 | o (h:I.op=13 ∨ I.op=12 ∨ I.op=10 ∨ I.op=8):Stp6 s I a a
 | m (h:I.op=6 ∨ I.op=7) (g:Gd6 s a) (w:Md6 s a):Stp6 s I a ⟨-1,-1,a.b,wr .i64 (Ah a.q 1)⟩
theorem Akg {x:Int} {k j:Int} (h:x=k) (hk:k ≠ j:=by decide):ieq x j=false:=by
 subst h;unfold ieq;simpa using hk
inductive Run6 (s:Sh7):List In8->A6->A6->Prop where
 | nil (a:A6):Run6 s [] a a
 | cons {I:In8} {l:List In8} {a b c:A6} (h:Stp6 s I a b) (t:Run6 s l b c):Run6 s (I::l) a c
theorem Run6.app {s:Sh7} {l m:List In8} {a b c:A6} (h:Run6 s l a b) (t:Run6 s m b c):Run6 s (l++m) a c:=by
 induction h with
 | nil a=>exact t
 | cons h _ ih=>exact .cons h (ih t)
end Go.Proofs.YtkbafjceglhjhaaGreatDoor.Er
namespace Go.Proofs.YtkbafjceglhjhaaGreatDoor.Er
open Go.Sy Go Go.Proofs.YtkbafjceglhjhaaGreatDoor.Ed Go.Proofs.YtkbafjceglhjhaaGreatDoor.Sh
open Int (ofNat)
set_option maxRecDepth 100000
set_option maxHeartbeats 1000000
def Adm (e:E6):Bool:=(ieq e.src 1 || ieq e.src 2) && ((!(ieq e.kind 6 || (ieq e.kind 7 || ieq e.kind 8)) || (ieq e.src 1 && !A2 e)) && (!(ieq e.kind 7) || ieq e.dst 2))
theorem X8:(List.range 112).all (λk=>Adm (Df k))=true:=by kernel_rfl
theorem Adl {e:E6} (h:Bc e=0):Adm e=true:=by
 rcases Ec e with ⟨k,hk,_,_,he,_⟩ | ⟨h2,_⟩
 ·rw [<- he]
  exact List.all_eq_true.1 X8 k (by simpa using hk)
 ·rw [h2] at h
  cases h
theorem before {o:Nat->Bool} {n i:Nat} (hi:i<n) (h:o (n-1)=true):Ai o i<Ai o n:=by
 have h1:=AO o (show i <= n-1 by omega);have h2:=Bp h;rw [show n-1+1=n by omega] at h2;omega
def obE (s:Sh7) (k:Nat):Bool:=A2 (s.E k)
structure Gs (s:Sh7):Prop where
 ne:s.ne=s.nx
 lo:2 <= s.nx
 hi:s.nx <= 16
 tt:s.tt=ofNat (Ai (obE s) s.nx)
 ok:∀ i,i<s.nx->Adm (s.E i)=true
 meets:∀ i,i<s.nx->(s.E i).dst=(s.E ((i+1) % s.nx)).src
 last:obE s (s.nx-1)=true
 th:∀ i,i<s.nx->(s.X i).th=ofNat (Ai (obE s) i)
 pl:∀ i,i<s.nx->(s.X i).pl=ofNat (Ai (λk=>ieq (s.X i).th (s.X k).th) i)
 dir:∀ i,i<s.nx->(s.X i).dir=(s.E i).src
theorem RB {e e':Ev5} (h:H3 e e'=true):e=e':=by
 unfold H3 at h;obtain ⟨h1,h⟩:=AS h;obtain ⟨h2,h⟩:=AS h;obtain ⟨h3,h⟩:=AS h;obtain ⟨h4,h⟩:=AS h;obtain ⟨h5,_⟩:=AS h;obtain ⟨a,b,c,d,f⟩:=e;obtain ⟨a',b',c',d',f'⟩:=e'
 replace h1:=Cc h1
 replace h2:=Cc h2
 replace h3:=Cc h3
 replace h4:=Cc h4
 replace h5:=Cc h5
 simp only at h1 h2 h3 h4 h5;rw [h1,h2,h3,h4,h5]
theorem good {s:Sh7} (h:ieq (G2 s) 0=true):Gs s:=by
 have hc:Dn s=true:=by
  cases hc:Dn s with
  | true=>rfl
  | false =>unfold G2 at h;rw [hc] at h;cases h
 unfold Dn at hc;obtain ⟨h1,hc⟩:=AS hc;unfold IK at hc;obtain ⟨_,hc⟩:=AS hc;obtain ⟨htt,hc⟩:=AS hc;obtain ⟨_,hc⟩:=AS hc;obtain ⟨hE,hc⟩:=AS hc;obtain ⟨hnx,hc⟩:=AS hc;obtain ⟨_,hc⟩:=AS hc;obtain ⟨_,hX⟩:=AS hc;have hy:=Bj h1;have hG:=Ev hy;have hl:=Yy hy;have hnx:s.nx=s.ne:=Int.ofNat.inj (Cc hnx);have hE:∀ i,i<s.ne->s.E i=shG s.ne s.E i:=(JD.1 hE).2;have hX:∀ i,i<s.nx->s.X i=evF s.ne (shG s.ne s.E) (λ_=>true) i:=λi hi=>RB (AE.1 hX i hi);have hob:∀ k,k <= s.ne->Ai (obE s) k=Ai (obF (shG s.ne s.E)) k:=λk hk=>BZ k λi hi=>by
  unfold obE;rw [hE i (by omega)];rfl
 have hth:∀ i,i<s.nx->(s.X i).th=ofNat (Ai (obE s) i):=λi hi=>by
  rw [hX i hi,Cz (by omega),hob i (by omega)];show Az (obF (shG s.ne s.E)) s.ne i=_;rw [Fe (by omega)];unfold AX;rw [if_neg (by have:=before (show i<s.ne by omega) hl; omega)]
 refine ⟨hnx.symm,by rw [hnx]; exact hy.lo,by rw [hnx]; exact hy.hi,?_,λi hi=>?_,λi hi=>?_,?_,hth,λi hi=>?_,λi hi=>?_⟩
 ·rw [hnx,hob _ (Nat.le_refl _)]
  exact Cc htt
 ·rw [hE i (by omega)]
  exact Adl (F6.1 hG.may i (by omega))
 ·have hlo:=hy.lo
  have:=hG.meets i (by omega);unfold FH AN at this;rw [hnx,hE i (by omega),hE ((i+1) % s.ne) (Nat.mod_lt _ (by omega))];exact Cc (by simpa using this)
 ·rw [hnx]
  unfold obE;have:=hy.lo;rw [hE _ (by omega)];exact hl
 ·have e1:=hX i hi
  rw [e1,Cz (by omega)];show ofNat (plF s.ne (shG s.ne s.E) i)=_;unfold plF;congr 1;refine BZ i λk hk=>?_;rw [hX k (by omega),Cz (by omega)]
 ·rw [hX i hi,Cz (by omega),hE i (by omega)]
section
variable {s:Sh7} (hg:Gs s) {i:Nat}
def tN (s:Sh7) (i:Nat):Nat:=Ai (obE s) i
include hg
theorem Aiy (hi:i<s.nx):(toN (s.X i).th)=tN s i:=by rw [hg.th i hi]; rfl
theorem Ai6 (hi:i<s.nx):tN s i<toN s.tt:=by
 rw [hg.tt];exact before hi hg.last
theorem AgU (h0:i=0 ∨ obE s (i-1)=true) (hi:i<s.nx):ilt 0 (s.X i).pl=false:=by
 rw [hg.pl i hi];have:Ai (λk=>ieq (s.X i).th (s.X k).th) i=0:=by
  rcases h0 with rfl | h0
  ·rfl
  ·have hb:∀ k,k<i->(λk=>ieq (s.X i).th (s.X k).th) k=(λ_=>false) k:=λk hk=>by
    have h1:=AO (obE s) (show k <= i-1 by omega);have h2:=Bp h0;rw [show i-1+1=i by omega] at h2;simp only [hg.th i hi,hg.th k (by omega)];simp [ieq];omega
   rw [BZ (p:=λ_=>false) i hb];clear hb hi h0
   induction i with
   | zero=>rfl
   | succ i ih=>rw [B6 rfl,ih]
 rw [this];rfl
theorem JV:plB s=true:=by
 have htt:toN s.tt=Ai (obE s) s.nx:=by rw [hg.tt]; rfl
 have h1:=By (obE s) s.nx;have h2:=hg.hi;unfold plB;simp only [Bool.and_eq_true];refine ⟨Nat.ble_eq_true_of_le h2,Nat.ble_eq_true_of_le (by omega),?_,AE.2 λi hi=>?_⟩
 ·rw [htt,hg.tt]
  exact eI _
 ·rw [hg.th i hi]
  exact Ae (Ai6 hg hi)
theorem AcY:cdB s=true:=by
 unfold cdB;rw [JV hg,bTA];refine AE.2 λi hi=>?_;by_cases h0:i=0
 ·rw [AgU hg (.inl h0) hi]
  rfl
 ·have:Aj (Nat.blt 0 i) (Nat.ble i s.ne)=true:=by
   have:=hg.ne;exact (Js (Nat.ble_eq_true_of_le (show 0<i by omega))).trans (Nat.ble_eq_true_of_le (by omega))
  rw [this];exact Bool.or_true _
theorem Ai8 (h0:0<i) (hi:i<s.nx):wr .i64 (Bw (ofNat i) 1)=ofNat (i-1):=by
 have:=hg.hi;obtain ⟨k,rfl⟩:∃ k,i=k+1:=⟨i-1,by omega⟩;rw [show Bw (ofNat (k+1)) 1=ofNat k from by unfold Bw; simp];exact K6 (by omega)
end
end Go.Proofs.YtkbafjceglhjhaaGreatDoor.Er
namespace Go.Proofs.YtkbafjceglhjhaaGreatDoor.Er
open Go.Sy Go Go.Proofs.YtkbafjceglhjhaaGreatDoor.Ed Go.Proofs.YtkbafjceglhjhaaGreatDoor.Sh
open Int (ofNat)
set_option maxRecDepth 100000
set_option maxHeartbeats 1000000
structure Nt where
 th:Int
 rg:Int
 nm:List UInt8
def ntV (e:Nt):V:=.agg [iV e.th,iV e.rg,.str [],.str e.nm,iV 0]
def zT:Nt:=⟨0,0,[]⟩
def ID (l:List Nt) (k:Nat):Nt:=l.getD k zT
def Dy (l:List Nt):Nat:=l.length
def Ja (l:List Nt):Nat->V:=λk=>ntV (ID l k)
theorem Xj (l:List Nt) (x:Nt):Bb (Dy l) (Ja l) (ntV x)=Ja (l++[x]):=by
 funext k;rw [BB];unfold Ja ID Dy;cases hk:Nat.beq k l.length with
 | true =>have hk:=Nat.eq_of_beq_eq_true hk;subst hk;simp
 | false =>
  have hk:=Nat.ne_of_beq_eq_false hk;simp only [cond_false,List.getD_eq_getElem?_getD,List.getElem?_append];split
  ·rfl
  ·rename_i h
   rw [List.getElem?_eq_none (by omega),List.getElem?_eq_none (by simp; omega)]
section
variable (s:Sh7)
def ntI (t j:Nat):Nt:=⟨ofNat t,ofNat (7+j),E1 (E3 (locL s s.nx t) j)⟩
def inT (t k:Nat):List Nt:=(List.range k).map (ntI s t)
def inL:Nat->List Nt
 | 0=>[]
 | t+1=>inL t++inT s t (Bn (locL s s.nx t))
def ntL (t k:Nat):List Nt:=inL s t++inT s t k
theorem Zf (t k:Nat):ntL s t (k+1)=ntL s t k++[ntI s t k]:=by
 unfold ntL inT;rw [List.range_succ,List.map_append,List.append_assoc];rfl
theorem Aj3 (t:Nat):ntL s t 0=inL s t:=by
 unfold ntL inT;simp
theorem Qu:∀ t,(inL s t).length <= t * s.nx
 | 0=>Nat.zero_le _
 | t+1=>by
  have:=Qu t;have:=FT (s:=s) t s.nx;unfold Bn at this;rw [inL,List.length_append];unfold inT Bn;rw [List.length_map,List.length_range,Nat.succ_mul];omega
def W6 (t:Nat) (c:Int) (n:Nat) (g:Nat->V):St:=⟨jsV 50 0 Ab [(1,.ptr 0 0),(5,.ref 2),(6,nV t),(18,.jref 3),(19,iV (ofNat (toN s.tt))),(20,nV t),(26,.mref 3 t),(27,iV (ofNat (Bn (locL s s.nx t)))),(28,iV c)],[.cells [iV s.arch,.sl 6 s.ne (λi=>eV (s.E i)),.sl 5 s.nx (λi=>evV (s.X i)),iV s.tt,iV s.kk,.sl 1 s.nr (λi=>iV (s.R i)),.sl 1 s.nc (λu=>.sl 1 (s.C u).1 (λi=>iV ((s.C u).2 i)))],.row 68 5 0 Ab,.row 68 5 n g,IM s,.cells [.mref 3 t,.mmap 3 t]]⟩
def Py (t:Nat) (c:Int) (_:Unit):St:=W6 s t c (Dy (ntL s t (toN c))) (Ja (ntL s t (toN c)))
def N6 (t:Nat):Ex×St:=(.ex 2,⟨jsV 50 0 Ab [(1,.ptr 0 0),(5,.ref 2),(18,.jref 3),(19,iV (ofNat (toN s.tt))),(20,nV t)],[.cells [iV s.arch,.sl 6 s.ne (λi=>eV (s.E i)),.sl 5 s.nx (λi=>evV (s.X i)),iV s.tt,iV s.kk,.sl 1 s.nr (λi=>iV (s.R i)),.sl 1 s.nc (λu=>.sl 1 (s.C u).1 (λi=>iV ((s.C u).2 i)))],.row 68 5 0 Ab,.row 68 5 (Dy (inL s (t+1))) (Ja (inL s (t+1))),IM s]⟩)
def T13 (c:Int) (l:List Nt):St:=⟨jsV 50 0 Ab [(1,.ptr 0 0),(5,.ref 2),(18,.jref 3),(19,iV (ofNat (toN s.tt))),(20,iV c)],[.cells [iV s.arch,.sl 6 s.ne (λi=>eV (s.E i)),.sl 5 s.nx (λi=>evV (s.X i)),iV s.tt,iV s.kk,.sl 1 s.nr (λi=>iV (s.R i)),.sl 1 s.nc (λu=>.sl 1 (s.C u).1 (λi=>iV ((s.C u).2 i)))],.row 68 5 0 Ab,.row 68 5 (Dy l) (Ja l),IM s]⟩
def S13 (c:Int) (_:Unit):St:=T13 s c (inL s (toN c))
def Adf:Ex×St:=(.ex 0,⟨jsV 50 0 Ab [(5,.ref 2)],[.cells [iV s.arch,.sl 6 s.ne (λi=>eV (s.E i)),.sl 5 s.nx (λi=>evV (s.X i)),iV s.tt,iV s.kk,.sl 1 s.nr (λi=>iV (s.R i)),.sl 1 s.nc (λu=>.sl 1 (s.C u).1 (λi=>iV ((s.C u).2 i)))],.row 68 5 0 Ab,.row 68 5 (Dy (inL s (toN s.tt))) (Ja (inL s (toN s.tt))),IM s]⟩)
def g13 (_:Nat) (_:Unit):T (Unit ⊕ (Ex×St)):=.leaf (.inl ())
end
noncomputable def AfU:AM:=(33,shT Rj)::(34,shT MF)::(39,Ahj)::[]
theorem Ab6:Ar Tryz.prog Gl AfU:=.cons p33 <| .cons p34 <| .cons p37 .nil
def AjQ:Lp:=⟨bmK 50 0 [1,5,18,19,20],4,bmK 50 0 [5],4,4611686018427387905⟩
def Us:Lp:=⟨bmK 50 0 [1,5,6,18,19,20,26,27,28],5,bmK 50 0 [1,5,18,19,20],4,4611686018427387905⟩
noncomputable def B13 (id:Nat) (L:LT):St->T (Ex×St):=λst=>AL tab ⟨A0 AfU,L,Gl⟩ (A3 Tryz.f13 id) id st
theorem V3 {s:Sh7} (hF:plB s=true) (t:Nat):Bn (locL s s.nx t) <= 16:=by
 have:=FT (s:=s) t s.nx;have:=(B0 hF).1;omega
theorem AlX {s:Sh7} (hF:plB s=true) {t i:Nat} (ht:t<toN s.tt) (hi:i<Bn (locL s s.nx t)):Cp (Dy (ntL s t i)) 1 56=true:=decide_eq_true (by
 have h1:=Qu s t;have h2:=V3 hF t;have h3:=(B0 hF).1;have h4:=(B0 hF).2.1;have h5:t * s.nx <= 16 * 16:=Nat.mul_le_mul (by omega) h3;unfold Dy ntL inT;rw [List.length_append,List.length_map,List.length_range];omega)
theorem Al8 {s:Sh7} (hF:plB s=true) {t i:Nat} (hi:i<Bn (locL s s.nx t)):(Ex.nm,W6 s t (wr .i64 (Ah (ofNat i) 1)) (B1 (Dy (ntL s t i)) 1) (Bb (Dy (ntL s t i)) (Ja (ntL s t i)) (.agg [nV t,iV (wr .i64 (Ah 7 (ofNat i))),.str [],.str (E1 (E3 (locL s s.nx t) i)),iV 0])))=(Ex.nm,Py s t (wr .i64 (Ah (ofNat i) 1)) ()):=by
 have h16:=V3 hF t;unfold Py;rw [C6 hi (by omega),show toN (ofNat (i+1))=i+1 from rfl,Zf,show wr .i64 (Ah 7 (ofNat i))=ofNat (7+i) from K6 (k:=7+i) (by omega),<- Xj];show _=(Ex.nm,W6 s t (ofNat (i+1)) (Dy (ntL s t i++[ntI s t i])) (Bb (Dy (ntL s t i)) (Ja (ntL s t i)) (ntV (ntI s t i))));rw [show Dy (ntL s t i++[ntI s t i])=B1 (Dy (ntL s t i)) 1 from by unfold Dy B1; simp];rfl
theorem Ajp (L:LT) {s:Sh7} (hF:plB s=true) {t:Nat} (ht:t<toN s.tt):(A4 (B13 2 L) Us 4611686018427387905 (W6 s t 0 (Dy (inL s t)) (Ja (inL s t)))).sem=some (N6 s t):=by
 have h:(A4 (B13 2 L) Us 4611686018427387905 (Py s t 0 ())).sem=some (N6 s t) :=
  AD (R:=exR) Bq (S:=λc a _=>Py s t c a) (j:=λ_=>.und) (g:=g13) (fin:=λ_=>N6 s t) (e:=N6 s t) (n:=Bn (locL s s.nx t)) (by have:=V3 hF t; omega)
   (λi a j r hi he=>DK.ok (L:=goR (λc a _=>Py s t c a) exR i) (.k (ofNat_lt hi) <| .k eT <| .k (Ae hi) <| .k eT <| .k (show nlt i (Bn (locL s s.nx t))=true from decide_eq_true hi) <| .k (AlX hF ht hi) <| .e (Al8 hF hi)) (by kernel_rfl) he)
   (λa j=>DK.ok (C:=.leaf (N6 s t)) (L:=exR) (.k (Au (Nat.le_refl (Bn (locL s s.nx t)))) .l) (by kernel_rfl) rfl) (Nat.zero_add _).symm (by have:=V3 hF t; omega)
   (BE (acc:=λ_=>()) (λ_ _=>rfl) _ _ (Nat.zero_add _))
 unfold Py at h;rw [show toN 0=0 from rfl,Aj3] at h;exact h
def Acz:List (Nat×Lp×List (Nat×(Nat->V))):=[(0,AjQ,[(2,λ_=>ntV zT)]),(2,Us,[])]
theorem r13 {s:Sh7} (hF:plB s=true):(A4 (B13 0 (Go.Sy.askL Acz)) AjQ 4611686018427387905 (S13 s 0 ())).sem=some (Adf s) :=
 AD (R:=exR) Bq (S:=λc a _=>S13 s c a) (j:=λ_=>.und) (g:=g13) (fin:=λ_=>Adf s) (e:=Adf s) (n:=toN s.tt) (by have:=(B0 hF).2.1; omega)
  (λi a j r hi he=>DK.ok (L:=goR (λc a _=>S13 s c a) exR i) (.k (ofNat_lt hi) <| .k (Ae hi) <| .k (show nlt i (toN s.tt)=true from decide_eq_true hi) <| .r 2 eT <| .a (Ajp (Go.Sy.askL Acz) hF hi) <|
   .e (show (Ex.nm,T13 s (wr .i64 (Ah (ofNat i) 1)) (inL s (i+1)))=(Ex.nm,S13 s (wr .i64 (Ah (ofNat i) 1)) ()) from by unfold S13; rw [C6 hi (by have:=(B0 hF).2.1; omega)]; rfl)) (by kernel_rfl) he)
  (λa j=>DK.ok (C:=.leaf (Adf s)) (L:=exR) (.k (Au (Nat.le_refl (toN s.tt))) .l) (by kernel_rfl) rfl) (Nat.zero_add _).symm (by have:=(B0 hF).2.1; omega)
  (BE (acc:=λ_=>()) (λ_ _=>rfl) _ _ (Nat.zero_add _))
def Ae5 (s:Sh7):A9:=.br (CJ s.ne) (.br (Aj (Ao s.ne) (Aj (Ao s.nx) (Aj (Ao s.nr) (Aj (Ao s.nc) (Be s.nc (λi=>Ao (s.C i).1)))))) (.br (ieq (G2 s) 0) (.br (plB s) (.leaf (.tup [.ref 0,iV 0],[.row 68 5 (Dy (inL s (toN s.tt))) (Ja (inL s (toN s.tt)))])) .fail) (.leaf (.tup [.ref 0,iV (G2 s)],[.row 68 5 0 λ_=>.und]))) .fail) .fail
theorem p13:As Tryz.prog Gl 13 (shT Ae5):=MD Tryz.func13 (by kernel_rfl) (by kernel_rfl) (Γ:=λ_=>cxA Gl AfU Acz) (λ_=>rfl) (λ_=>Bs Ab6 Acz)
 λs r h=>DK.of h (.k (eL s.ne) <| .k (eL s.nx) <| .k (eL s.nr) <| .k (eL2 s.nc s.C) <| .g λh1=>.k h1 <| .g λh2=>.k h2 <| .c (λh3=>.g λhF=>.k (eN h3) <| .k (eL s.ne) <| .k (eL s.nx) <| .k (eL s.nr) <| .k (eL2 s.nc s.C) <| .k hF <| .a (r13 hF) <| .l) λh3=>.k (eN h3) <| .l) (by kernel_rfl)
end Go.Proofs.YtkbafjceglhjhaaGreatDoor.Er
namespace Go.Sy
def Zv (f:St->T (Ex×St)):Nat->St->T (Ex×St)
 | 0,_=>.fail
 | m+1,st=>(f st).bind λr=>match r.1 with
  | .nm=>Zv f m r.2
  | .ex i=>.leaf (.ex i,r.2)
  | .rt=>.leaf (.rt,r.2)
theorem OT {Γ:Cx0} {f:St->T (Ex×St)}:∀ {m:Nat} {st:St} {r:Ex×St},(Zv f m st).sem=some r->LRun Γ f st r
 | 0,_,_,h=>by cases h
 | m+1,st,r,h=>by
  obtain ⟨⟨e,st1⟩,h1,h2⟩:=Af h;cases e with
  | nm=>exact .next h1 (LE.refl _) (OT h2)
  | ex i =>have:=Aa h2;subst this;exact .stop h1 (by simp) (LE.refl _)
  | rt =>have:=Aa h2;subst this;exact .stop h1 (by simp) (LE.refl _)
def cxC (G:Nat->V) (tbl:AM):Cx:=⟨A0 tbl,λ_ f st=>Zv f 500 st,G⟩
theorem QH {P:Program} {G:Nat->V} {tbl:AM} (h:Ar P G tbl):Bl P (cxC G tbl).base∧Ce (cxC G tbl):=⟨FA rfl h,λ_ _ _ _ hr=>OT hr⟩
def Jq (τ:List Ty) (G:Nat->V) (tb:AM):List (Nat×Func)->AM
 | []=>tb
 | p::l=>(p.1,λvs=>Ax (Ak τ (cxC G (Jq τ G tb l)) p.2 vs []))::Jq τ G tb l
def AhD (fn:Func):Bool:=fn.body.isSome && !(fn.name == "runtime.NumGoroutine")
inductive AllBody (P:Program):List (Nat×Func)->Prop where
 | nil:AllBody P []
 | cons {k:Nat} {fn:Func} {l:List (Nat×Func)} (hf:P.funcs[k]? = some fn) (hb:AhD fn=true) (h:AllBody P l):AllBody P ((k,fn)::l)
theorem Pp {P:Program} {τ:List Ty} (hτ:TabOK P τ) (hm:P.follows .mixedOrders=true) {G:Nat->V} {tb:AM} (ht:Ar P G tb) {l:List (Nat×Func)} (h:AllBody P l):Ar P G (Jq τ G tb l):=by
 induction h with
 | nil=>exact ht
 | cons hf hb h ih =>rename_i k fn l;have hb:=Bool.and_eq_true_iff.1 hb;exact .cons (AG hτ hm hf hb.1 (by simpa using hb.2) (QH ih)) ih
def AeK (m:List Bool):V->V
 | .tup vs=>.tup (V9 m vs)
 | v=>v
def QA (m:List Bool) (t:A9):A9:=t.bind λp=>T.ofOpt (Xc (AeK m p.1) p.2)
theorem ME {P:Program} {τ:List Ty} (hτ:TabOK P τ) (hm:P.follows .mixedOrders=true) {f:FuncId} {fn:Func} (hf:P.funcs[f]? = some fn)
  (hb:fn.body.isSome=true) (hn:(fn.name == "runtime.NumGoroutine")=false) {G:Nat->V} {F:List V->A9} (m:List Bool)
  (h:∀ vs v h',(F vs).sem=some (v,h')->∃ vs' Γ,BC vs vs'∧Γ.glob=G∧Bl P Γ.base∧Ce Γ∧(QA m (Ak τ Γ fn vs' [])).sem=some (v,h')):As P G f F:=by
 obtain ⟨c,hb⟩:=Option.isSome_iff_exists.1 hb;have hn:fn.name ≠ "runtime.NumGoroutine":=by simpa using hn
 refine ⟨⟨fn,hf,hn,by rw [hb]; rfl⟩,λvs cs S w v h' hS hE hv he=>?_⟩;obtain ⟨vs',Γ,h1,h2,h3,hΛ,h4⟩:=h vs v h' he;subst h2;obtain ⟨⟨v1,g1⟩,q1,q2⟩:=Af h4;have q2:=Dq q2;refine ⟨Fo q2,(NC (P:=P) hτ hm h3 hΛ hf hb (Good.empty hS) hE (h1 S w cs hv) q1).mono ?_⟩
 rintro e w' ⟨u,κ',S',rfl,p1,p2,p3⟩
 have p2':VR S' w' (AeK m v1) κ' u:=by
  cases v1 with
  | tup vs =>obtain ⟨ca,e,hvs⟩:=p2;exact ⟨ca,e,Oc m _ _ hvs⟩
  | _=>exact p2
 obtain ⟨κ2,r1,r2,r3⟩:=PY p1 p2' q2;refine ⟨u,κ2,S',rfl,r1,r2,Ext.ofNil p3.os p3.tape p3.output p3.size p3.keep (λi b hb=>?_) p3.sub p3.sup (Fo q2)⟩;obtain ⟨j,hj⟩:=r3 i b hb;exact p3.own j b hj
end Go.Sy
