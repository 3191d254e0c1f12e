/-
  Layer 12: the law EmitrHangs, the walk: a thread's code gone through, instruction by instruction. No conditions.
-/
import Derived.Test.YtkbafjceglhjhaaGreatDoorErD
import Derived.Test.YtkbafjceglhjhaaGreatDoorShI
import Derived.Test.YtkbafjceglhjhaaGreatDoorSyY
namespace Go.Proofs.YtkbafjceglhjhaaGreatDoor.Er
open Go.Sy Go Go.Proofs.YtkbafjceglhjhaaGreatDoor.Ed Go.Proofs.YtkbafjceglhjhaaGreatDoor.Sh
open Int (ofNat)
set_option maxRecDepth 100000
set_option maxHeartbeats 1000000
structure A6 where
 c:Int
 m:Int
 b:Int
 q:Int
section
variable (s:Sh7)
def x1 (q:Int):Int:=wr .i64 (Ai q (ofNat s.nx))
def x2 (q:Int):Int:=wr .i64 (Bz (x1 s q) 1)
def x3 (q:Int):Int:=Ay (x2 s q) (ofNat s.nx)
def pe6 (q:Int):E6:=s.E (toN (x3 s q))
def pr6 (q:Int):Int:=rg9 s (toN (x3 s q))
end
noncomputable def tb6:A7:=(9,shT V9)::(11,shT rgC)::(10,shT rcC)::(25,Acw)::[]
inductive Md6 (s:Sh7) (a:A6):Prop where
 | n (k8:ieq (pe6 s a.q).kind 8=false) (k6:ieq (pe6 s a.q).kind 6=false) (k7:ieq (pe6 s a.q).kind 7=false) (hc:ile 0 a.c=false) (hm:ile 0 a.m=false)
 | c (k8:ieq (pe6 s a.q).kind 8=true) (k6:ieq (pe6 s a.q).kind 6=false) (k7:ieq (pe6 s a.q).kind 7=false) (hc:ile 0 a.c=true) (hm:ile 0 a.m=false) (hr:ieq a.c (pr6 s a.q)=true)
 | a (k8:ieq (pe6 s a.q).kind 8=false) (k6:ieq (pe6 s a.q).kind 6=true) (hc:ile 0 a.c=false) (hm:ile 0 a.m=true) (hr:ieq a.m (pr6 s a.q)=true)
 | d (k8:ieq (pe6 s a.q).kind 8=false) (k6:ieq (pe6 s a.q).kind 6=false) (k7:ieq (pe6 s a.q).kind 7=true) (hc:ile 0 a.c=false) (hm:ile 0 a.m=true) (hr:ieq a.m (pr6 s a.q)=true)
structure Gd6 (s:Sh7) (a:A6):Prop where
 n0:ieq (ofNat s.nx) 0=false
 hq:ile (ofNat s.nx) a.q=false
 hE:Al (ile 0 (x3 s a.q)) (ilt (x3 s a.q) (ofNat s.ne))=true
 hX:Al (ile 0 (x3 s a.q)) (ilt (x3 s a.q) (ofNat s.nx))=true
 hN:nlt (toN (x3 s a.q)) s.nx=true
inductive Stp6 (s:Sh7) (I:In8) (a:A6):A6->Prop where
 | b (h:I.op=11):Stp6 s I a ⟨I.a,a.m,wr .i64 (Ai a.b 1),a.q⟩
 | x (h:I.op=9) (hab:I.a=I.b):Stp6 s I a ⟨a.c,I.a,a.b,a.q⟩
 | o (h:I.op=13 ∨ I.op=12 ∨ I.op=10 ∨ I.op=8):Stp6 s I a a
 | m (h:I.op=6 ∨ I.op=7) (g:Gd6 s a) (w:Md6 s a):Stp6 s I a ⟨-1,-1,a.b,wr .i64 (Ai a.q 1)⟩
theorem Aa1 {x:Int} {k j:Int} (h:x=k) (hk:k ≠ j:=by decide):ieq x j=false:=by
 subst h;unfold ieq;simpa using hk
inductive Run6 (s:Sh7):List In8->A6->A6->Prop where
 | nil (a:A6):Run6 s [] a a
 | cons {I:In8} {l:List In8} {a b c:A6} (h:Stp6 s I a b) (t:Run6 s l b c):Run6 s (I::l) a c
theorem Run6.app {s:Sh7} {l m:List In8} {a b c:A6} (h:Run6 s l a b) (t:Run6 s m b c):Run6 s (l++m) a c:=by
 induction h with
 | nil a=>exact t
 | cons h _ ih=>exact .cons h (ih t)
end Go.Proofs.YtkbafjceglhjhaaGreatDoor.Er
namespace Go.Proofs.YtkbafjceglhjhaaGreatDoor.Er
open Go.Sy Go Go.Proofs.YtkbafjceglhjhaaGreatDoor.Ed Go.Proofs.YtkbafjceglhjhaaGreatDoor.Sh
open Int (ofNat)
set_option maxRecDepth 100000
set_option maxHeartbeats 1000000
def Aek (e:E6):Bool:=(ieq e.src 1 || ieq e.src 2) && ((!(ieq e.kind 6 || (ieq e.kind 7 || ieq e.kind 8)) || (ieq e.src 1 && !AB e)) && (!(ieq e.kind 7) || ieq e.dst 2))
theorem AaG:(List.range 112).all (λk=>Aek (Du k))=true:=by kernel_rfl
theorem AhI {e:E6} (h:Be e=0):Aek e=true:=by
 rcases Dk e with ⟨k,hk,_,_,he,_⟩ | ⟨h2,_⟩
 ·rw [<- he]
  exact List.all_eq_true.1 AaG k (by simpa using hk)
 ·rw [h2] at h
  cases h
theorem before {o:Nat->Bool} {n i:Nat} (hi:i<n) (h:o (n-1)=true):Ak o i<Ak o n:=by
 have h1:=Bc o (show i <= n-1 by omega);have h2:=By h;rw [show n-1+1=n by omega] at h2;omega
def obE (s:Sh7) (k:Nat):Bool:=AB (s.E k)
structure Gs (s:Sh7):Prop where
 ne:s.ne=s.nx
 lo:2 <= s.nx
 hi:s.nx <= 16
 tt:s.tt=ofNat (Ak (obE s) s.nx)
 ok:∀ i,i<s.nx->Aek (s.E i)=true
 meets:∀ i,i<s.nx->(s.E i).dst=(s.E ((i+1) % s.nx)).src
 last:obE s (s.nx-1)=true
 th:∀ i,i<s.nx->(s.X i).th=ofNat (Ak (obE s) i)
 pl:∀ i,i<s.nx->(s.X i).pl=ofNat (Ak (λk=>ieq (s.X i).th (s.X k).th) i)
 dir:∀ i,i<s.nx->(s.X i).dir=(s.E i).src
theorem Ut {e e':Ev5} (h:IE e e'=true):e=e':=by
 unfold IE at h;obtain ⟨h1,h⟩:=A9 h;obtain ⟨h2,h⟩:=A9 h;obtain ⟨h3,h⟩:=A9 h;obtain ⟨h4,h⟩:=A9 h;obtain ⟨h5,_⟩:=A9 h;obtain ⟨a,b,c,d,f⟩:=e;obtain ⟨a',b',c',d',f'⟩:=e'
 replace h1:=BP h1
 replace h2:=BP h2
 replace h3:=BP h3
 replace h4:=BP h4
 replace h5:=BP h5
 simp only at h1 h2 h3 h4 h5;rw [h1,h2,h3,h4,h5]
theorem good {s:Sh7} (h:ieq (CQ s) 0=true):Gs s:=by
 have hc:BU s=true:=by
  cases hc:BU s with
  | true=>rfl
  | false =>unfold CQ at h;rw [hc] at h;cases h
 unfold BU at hc;obtain ⟨h1,hc⟩:=A9 hc;unfold IF at hc;obtain ⟨_,hc⟩:=A9 hc;obtain ⟨htt,hc⟩:=A9 hc;obtain ⟨_,hc⟩:=A9 hc;obtain ⟨hE,hc⟩:=A9 hc;obtain ⟨hnx,hc⟩:=A9 hc;obtain ⟨_,hc⟩:=A9 hc;obtain ⟨_,hX⟩:=A9 hc;have hy:=Bt h1;have hG:=DN hy;have hl:=AbF hy;have hnx:s.nx=s.ne:=Int.ofNat.inj (BP hnx);have hE:∀ i,i<s.ne->s.E i=shG s.ne s.E i:=(HB.1 hE).2;have hX:∀ i,i<s.nx->s.X i=evF s.ne (shG s.ne s.E) (λ_=>true) i:=λi hi=>Ut (A8.1 hX i hi);have hob:∀ k,k <= s.ne->Ak (obE s) k=Ak (obF (shG s.ne s.E)) k:=λk hk=>CB k λi hi=>by
  unfold obE;rw [hE i (by omega)];rfl
 have hth:∀ i,i<s.nx->(s.X i).th=ofNat (Ak (obE s) i):=λi hi=>by
  rw [hX i hi,CV (by omega),hob i (by omega)];show AC (obF (shG s.ne s.E)) s.ne i=_;rw [FX (by omega)];unfold Bl;rw [if_neg (by have:=before (show i<s.ne by omega) hl; omega)]
 refine ⟨hnx.symm,by rw [hnx]; exact hy.lo,by rw [hnx]; exact hy.hi,?_,λi hi=>?_,λi hi=>?_,?_,hth,λi hi=>?_,λi hi=>?_⟩
 ·rw [hnx,hob _ (Nat.le_refl _)]
  exact BP htt
 ·rw [hE i (by omega)]
  exact AhI (D9.1 hG.may i (by omega))
 ·have hlo:=hy.lo
  have:=hG.meets i (by omega);unfold GH AQ at this;rw [hnx,hE i (by omega),hE ((i+1) % s.ne) (Nat.mod_lt _ (by omega))];exact BP (by simpa using this)
 ·rw [hnx]
  unfold obE;have:=hy.lo;rw [hE _ (by omega)];exact hl
 ·have e1:=hX i hi
  rw [e1,CV (by omega)];show ofNat (plF s.ne (shG s.ne s.E) i)=_;unfold plF;congr 1;refine CB i λk hk=>?_;rw [hX k (by omega),CV (by omega)]
 ·rw [hX i hi,CV (by omega),hE i (by omega)]
section
variable {s:Sh7} (hg:Gs s) {i:Nat}
def tN (s:Sh7) (i:Nat):Nat:=Ak (obE s) i
include hg
theorem Ak2 (hi:i<s.nx):(toN (s.X i).th)=tN s i:=by rw [hg.th i hi]; rfl
theorem AnX (hi:i<s.nx):tN s i<toN s.tt:=by
 rw [hg.tt];exact before hi hg.last
theorem AlH (h0:i=0 ∨ obE s (i-1)=true) (hi:i<s.nx):ilt 0 (s.X i).pl=false:=by
 rw [hg.pl i hi];have:Ak (λk=>ieq (s.X i).th (s.X k).th) i=0:=by
  rcases h0 with rfl | h0
  ·rfl
  ·have hb:∀ k,k<i->(λk=>ieq (s.X i).th (s.X k).th) k=(λ_=>false) k:=λk hk=>by
    have h1:=Bc (obE s) (show k <= i-1 by omega);have h2:=By h0;rw [show i-1+1=i by omega] at h2;simp only [hg.th i hi,hg.th k (by omega)];simp [ieq];omega
   rw [CB (p:=λ_=>false) i hb];clear hb hi h0
   induction i with
   | zero=>rfl
   | succ i ih=>rw [BQ rfl,ih]
 rw [this];rfl
theorem Apg (h0:0<i) (h:obE s (i-1)=false) (hi:i<s.nx):ilt 0 (s.X i).pl=true:=by
 rw [hg.pl i hi];have h2:=BQ h;rw [show i-1+1=i by omega] at h2;have h3:=By (p:=λk=>ieq (s.X i).th (s.X k).th) (i:=i-1) (by
  simp only [hg.th i hi,hg.th (i-1) (by omega),h2];exact eI _)
 rw [show i-1+1=i by omega] at h3;rw [h3];exact decide_eq_true (by show (0:Int)<((_+1:Nat):Int); omega)
theorem Cy:plB s=true:=by
 have htt:toN s.tt=Ak (obE s) s.nx:=by rw [hg.tt]; rfl
 have h1:=B2 (obE s) s.nx;have h2:=hg.hi;unfold plB;simp only [Bool.and_eq_true];refine ⟨Nat.ble_eq_true_of_le h2,Nat.ble_eq_true_of_le (by omega),?_,A8.2 λi hi=>?_⟩
 ·rw [htt,hg.tt]
  exact eI _
 ·rw [hg.th i hi]
  exact Ad (AnX hg hi)
theorem Ah5:cdB s=true:=by
 unfold cdB;rw [Cy hg,bTA];refine A8.2 λi hi=>?_;by_cases h0:i=0
 ·rw [AlH hg (.inl h0) hi]
  rfl
 ·have:Al (Nat.blt 0 i) (Nat.ble i s.ne)=true:=by
   have:=hg.ne;exact (FP (Nat.ble_eq_true_of_le (show 0<i by omega))).trans (Nat.ble_eq_true_of_le (by omega))
  rw [this];exact Bool.or_true _
def pvN (s:Sh7) (i:Nat):Nat:=(i+s.nx-1) % s.nx
theorem TX (hi:i<s.nx):x3 s (ofNat i)=ofNat (pvN s i):=by
 have h1:=hg.hi;have h2:=hg.lo;unfold x3 x2 x1 pvN;rw [show Ai (ofNat i) (ofNat s.nx)=ofNat (i+s.nx) from rfl,He (by omega),show Bz (ofNat (i+s.nx)) 1=ofNat (i+s.nx-1) from by unfold Bz; simp; omega,He (by omega)];rfl
theorem Yp:pvN s i<s.nx:=Nat.mod_lt _ (by have:=hg.lo; omega)
omit hg in
theorem Ov (h0:0<i) (hi:i<s.nx):pvN s i=i-1:=by
 unfold pvN;rw [show i+s.nx-1=i-1+s.nx by omega,Nat.add_mod_right,Nat.mod_eq_of_lt (by omega)]
theorem Acs (hi:i<s.nx):pe6 s (ofNat i)=s.E (pvN s i):=by
 unfold pe6;rw [TX hg hi];rfl
theorem Ape (hi:i<s.nx):pr6 s (ofNat i)=rg9 s (pvN s i):=by
 unfold pr6;rw [TX hg hi];rfl
theorem AdL (hi:i<s.nx) (c m b:Int):Gd6 s ⟨c,m,b,ofNat i⟩:=by
 have h1:=Yp hg (i:=i);refine ⟨?_,?_,?_,?_,?_⟩
 ·have:=hg.lo
  simp [ieq];omega
 ·exact decide_eq_false (by show ¬ ((s.nx:Int) <= (i:Int)); omega)
 ·show Al (ile 0 (x3 s (ofNat i))) (ilt (x3 s (ofNat i)) (ofNat s.ne))=true
  rw [TX hg hi,hg.ne];exact Ad h1
 ·show Al (ile 0 (x3 s (ofNat i))) (ilt (x3 s (ofNat i)) (ofNat s.nx))=true
  rw [TX hg hi];exact Ad h1
 ·show nlt (toN (x3 s (ofNat i))) s.nx=true
  rw [TX hg hi];exact decide_eq_true h1
theorem AnY (h0:0<i) (hi:i<s.nx):wr .i64 (Bz (ofNat i) 1)=ofNat (i-1):=by
 have:=hg.hi;obtain ⟨k,rfl⟩:∃ k,i=k+1:=⟨i-1,by omega⟩;rw [show Bz (ofNat (k+1)) 1=ofNat k from by unfold Bz; simp];exact He (by omega)
theorem Ajt (h0:0<i) (hi:i<s.nx):ed9 s i=pe6 s (ofNat i):=by
 rw [Acs hg hi,Ov h0 hi];unfold ed9;rw [AnY hg h0 hi];rfl
theorem Aof (h0:0<i) (h:obE s (i-1)=false) (hi:i<s.nx) (hr:(s.E (i-1)).src=1):rP9 s i=pr6 s (ofNat i)∧ile 0 (rP9 s i)=true:=by
 have hi1:i-1<s.nx:=by omega
 have ht:tN s i=tN s (i-1):=by
  have h2:=BQ h;rw [show i-1+1=i by omega] at h2;exact h2
 have hh:hsF s s.nx (tN s (i-1)) (ofNat (i-1))=true:=by
  rw [G6];unfold hsX isT isR;rw [show toN (ofNat (i-1))=i-1 from rfl,Ak2 hg hi1,Nat.beq_refl,hg.dir _ hi1,hr,show ilt (ofNat (i-1)) (ofNat s.nx)=true from ofNat_lt hi1];simp [ile,ieq]
 have e1:rP9 s i=gtF s s.nx (tN s (i-1)) (ofNat (i-1)):=by
  unfold rP9;rw [Ak2 hg hi,ht,AnY hg h0 hi]
 have e2:pr6 s (ofNat i)=gtF s s.nx (tN s (i-1)) (ofNat (i-1)):=by
  rw [Ape hg hi,Ov h0 hi];unfold rg9 rI9;rw [Ak2 hg hi1,hh];rfl
 refine ⟨e1.trans e2.symm,?_⟩;rw [e1];unfold gtF;rw [hh];exact decide_eq_true (Int.natCast_nonneg _)
end
end Go.Proofs.YtkbafjceglhjhaaGreatDoor.Er
namespace Go.Proofs.YtkbafjceglhjhaaGreatDoor.Er
open Go.Sy Go Go.Proofs.YtkbafjceglhjhaaGreatDoor.Ed Go.Proofs.YtkbafjceglhjhaaGreatDoor.Sh
open Int (ofNat)
set_option maxRecDepth 100000
set_option maxHeartbeats 1000000
structure Nt where
 th:Int
 rg:Int
 nm:List UInt8
def ntV (e:Nt):V:=.agg [iV e.th,iV e.rg,.str [],.str e.nm,iV 0]
def zT:Nt:=⟨0,0,[]⟩
def Amt (l:List Nt) (k:Nat):Nt:=l.getD k zT
def Dw (l:List Nt):Nat:=l.length
def Hm (l:List Nt):Nat->V:=λk=>ntV (Amt l k)
theorem QT (l:List Nt) (x:Nt):AD (Dw l) (Hm l) (ntV x)=Hm (l++[x]):=by
 funext k;rw [Br];unfold Hm Amt Dw;cases hk:Nat.beq k l.length with
 | true =>have hk:=Nat.eq_of_beq_eq_true hk;subst hk;simp
 | false =>
  have hk:=Nat.ne_of_beq_eq_false hk;simp only [cond_false,List.getD_eq_getElem?_getD,List.getElem?_append];split
  ·rfl
  ·rename_i h
   rw [List.getElem?_eq_none (by omega),List.getElem?_eq_none (by simp; omega)]
section
variable (s:Sh7)
def ntI (t j:Nat):Nt:=⟨ofNat t,ofNat (7+j),Cb (Ec (locL s s.nx t) j)⟩
def inT (t k:Nat):List Nt:=(List.range k).map (ntI s t)
def inL:Nat->List Nt
 | 0=>[]
 | t+1=>inL t++inT s t (Bm (locL s s.nx t))
def ntL (t k:Nat):List Nt:=inL s t++inT s t k
theorem OG (t k:Nat):ntL s t (k+1)=ntL s t k++[ntI s t k]:=by
 unfold ntL inT;rw [List.range_succ,List.map_append,List.append_assoc];rfl
theorem AiO (t:Nat):ntL s t 0=inL s t:=by
 unfold ntL inT;simp
theorem SZ:∀ t,(inL s t).length <= t * s.nx
 | 0=>Nat.zero_le _
 | t+1=>by
  have:=SZ t;have:=Fj (s:=s) t s.nx;unfold Bm at this;rw [inL,List.length_append];unfold inT Bm;rw [List.length_map,List.length_range,Nat.succ_mul];omega
def Zv (t:Nat) (c:Int) (n:Nat) (g:Nat->V):St:=⟨jsV 50 0 Aa [(1,.ptr 0 0),(5,.ref 2),(6,nV t),(18,.jref 3),(19,iV (ofNat (toN s.tt))),(20,nV t),(26,.mref 3 t),(27,iV (ofNat (Bm (locL s s.nx t)))),(28,iV c)],[.cells [iV s.arch,.sl 6 s.ne (λi=>eV (s.E i)),.sl 5 s.nx (λi=>evV (s.X i)),iV s.tt,iV s.kk,.sl 1 s.nr (λi=>iV (s.R i)),.sl 1 s.nc (λu=>.sl 1 (s.C u).1 (λi=>iV ((s.C u).2 i)))],.row 68 5 0 Aa,.row 68 5 n g,JY s,.cells [.mref 3 t,.mmap 3 t]]⟩
def RE (t:Nat) (c:Int) (_:Unit):St:=Zv s t c (Dw (ntL s t (toN c))) (Hm (ntL s t (toN c)))
def Pv (t:Nat):Ex×St:=(.ex 2,⟨jsV 50 0 Aa [(1,.ptr 0 0),(5,.ref 2),(18,.jref 3),(19,iV (ofNat (toN s.tt))),(20,nV t)],[.cells [iV s.arch,.sl 6 s.ne (λi=>eV (s.E i)),.sl 5 s.nx (λi=>evV (s.X i)),iV s.tt,iV s.kk,.sl 1 s.nr (λi=>iV (s.R i)),.sl 1 s.nc (λu=>.sl 1 (s.C u).1 (λi=>iV ((s.C u).2 i)))],.row 68 5 0 Aa,.row 68 5 (Dw (inL s (t+1))) (Hm (inL s (t+1))),JY s]⟩)
def T13 (c:Int) (l:List Nt):St:=⟨jsV 50 0 Aa [(1,.ptr 0 0),(5,.ref 2),(18,.jref 3),(19,iV (ofNat (toN s.tt))),(20,iV c)],[.cells [iV s.arch,.sl 6 s.ne (λi=>eV (s.E i)),.sl 5 s.nx (λi=>evV (s.X i)),iV s.tt,iV s.kk,.sl 1 s.nr (λi=>iV (s.R i)),.sl 1 s.nc (λu=>.sl 1 (s.C u).1 (λi=>iV ((s.C u).2 i)))],.row 68 5 0 Aa,.row 68 5 (Dw l) (Hm l),JY s]⟩
def S13 (c:Int) (_:Unit):St:=T13 s c (inL s (toN c))
def AhD:Ex×St:=(.ex 0,⟨jsV 50 0 Aa [(5,.ref 2)],[.cells [iV s.arch,.sl 6 s.ne (λi=>eV (s.E i)),.sl 5 s.nx (λi=>evV (s.X i)),iV s.tt,iV s.kk,.sl 1 s.nr (λi=>iV (s.R i)),.sl 1 s.nc (λu=>.sl 1 (s.C u).1 (λi=>iV ((s.C u).2 i)))],.row 68 5 0 Aa,.row 68 5 (Dw (inL s (toN s.tt))) (Hm (inL s (toN s.tt))),JY s]⟩)
def g13 (_:Nat) (_:Unit):T (Unit ⊕ (Ex×St)):=.leaf (.inl ())
end
noncomputable def AkD:A7:=(33,shT Qi)::(34,shT O1)::(39,SL)::[]
theorem AfM:Ao Tryz.prog Gl AkD:=.cons p33 <| .cons p34 <| .cons p37 .nil
def ApS:Lp:=⟨bmK 50 0 [1,5,18,19,20],4,bmK 50 0 [5],4,4611686018427387905⟩
def Xa:Lp:=⟨bmK 50 0 [1,5,6,18,19,20,26,27,28],5,bmK 50 0 [1,5,18,19,20],4,4611686018427387905⟩
noncomputable def B13 (id:Nat) (L:LT):St->T (Ex×St):=λst=>AA tab ⟨Aw AkD,L,Gl⟩ (As Tryz.f13 id) id st
theorem QM {s:Sh7} (hF:plB s=true) (t:Nat):Bm (locL s s.nx t) <= 16:=by
 have:=Fj (s:=s) t s.nx;have:=(Bw hF).1;omega
theorem AqQ {s:Sh7} (hF:plB s=true) {t i:Nat} (ht:t<toN s.tt) (hi:i<Bm (locL s s.nx t)):Bs (Dw (ntL s t i)) 1 56=true:=decide_eq_true (by
 have h1:=SZ s t;have h2:=QM hF t;have h3:=(Bw hF).1;have h4:=(Bw hF).2.1;have h5:t * s.nx <= 16 * 16:=Nat.mul_le_mul (by omega) h3;unfold Dw ntL inT;rw [List.length_append,List.length_map,List.length_range];omega)
theorem AsB {s:Sh7} (hF:plB s=true) {t i:Nat} (hi:i<Bm (locL s s.nx t)):(Ex.nm,Zv s t (wr .i64 (Ai (ofNat i) 1)) (AE (Dw (ntL s t i)) 1) (AD (Dw (ntL s t i)) (Hm (ntL s t i)) (.agg [nV t,iV (wr .i64 (Ai 7 (ofNat i))),.str [],.str (Cb (Ec (locL s s.nx t) i)),iV 0])))=(Ex.nm,RE s t (wr .i64 (Ai (ofNat i) 1)) ()):=by
 have h16:=QM hF t;unfold RE;rw [EF hi (by omega),show toN (ofNat (i+1))=i+1 from rfl,OG,show wr .i64 (Ai 7 (ofNat i))=ofNat (7+i) from He (k:=7+i) (by omega),<- QT];show _=(Ex.nm,Zv s t (ofNat (i+1)) (Dw (ntL s t i++[ntI s t i])) (AD (Dw (ntL s t i)) (Hm (ntL s t i)) (ntV (ntI s t i))));rw [show Dw (ntL s t i++[ntI s t i])=AE (Dw (ntL s t i)) 1 from by unfold Dw AE; simp];rfl
theorem Apb (L:LT) {s:Sh7} (hF:plB s=true) {t:Nat} (ht:t<toN s.tt):(Av (B13 2 L) Xa 4611686018427387905 (Zv s t 0 (Dw (inL s t)) (Hm (inL s t)))).sem=some (Pv s t):=by
 have h:(Av (B13 2 L) Xa 4611686018427387905 (RE s t 0 ())).sem=some (Pv s t) :=
  AZ (R:=exR) BF (S:=λc a _=>RE s t c a) (j:=λ_=>.und) (g:=g13) (fin:=λ_=>Pv s t) (e:=Pv s t) (n:=Bm (locL s s.nx t)) (by have:=QM hF t; omega)
   (λi a j r hi he=>DK.ok (L:=goR (λc a _=>RE s t c a) exR i) (.k (ofNat_lt hi) <| .k eT <| .k (Ad hi) <| .k eT <| .k (show nlt i (Bm (locL s s.nx t))=true from decide_eq_true hi) <| .k (AqQ hF ht hi) <| .e (AsB hF hi)) (by kernel_rfl) he)
   (λa j=>DK.ok (C:=.leaf (Pv s t)) (L:=exR) (.k (A1 (Nat.le_refl (Bm (locL s s.nx t)))) .l) (by kernel_rfl) rfl) (Nat.zero_add _).symm (by have:=QM hF t; omega)
   (Cv (acc:=λ_=>()) (λ_ _=>rfl) _ _ (Nat.zero_add _))
 unfold RE at h;rw [show toN 0=0 from rfl,AiO] at h;exact h
def AgO:List (Nat×Lp×List (Nat×(Nat->V))):=[(0,ApS,[(2,λ_=>ntV zT)]),(2,Xa,[])]
theorem r13 {s:Sh7} (hF:plB s=true):(Av (B13 0 (Go.Sy.askL AgO)) ApS 4611686018427387905 (S13 s 0 ())).sem=some (AhD s) :=
 AZ (R:=exR) BF (S:=λc a _=>S13 s c a) (j:=λ_=>.und) (g:=g13) (fin:=λ_=>AhD s) (e:=AhD s) (n:=toN s.tt) (by have:=(Bw hF).2.1; omega)
  (λi a j r hi he=>DK.ok (L:=goR (λc a _=>S13 s c a) exR i) (.k (ofNat_lt hi) <| .k (Ad hi) <| .k (show nlt i (toN s.tt)=true from decide_eq_true hi) <| .r 2 eT <| .a (Apb (Go.Sy.askL AgO) hF hi) <|
   .e (show (Ex.nm,T13 s (wr .i64 (Ai (ofNat i) 1)) (inL s (i+1)))=(Ex.nm,S13 s (wr .i64 (Ai (ofNat i) 1)) ()) from by unfold S13; rw [EF hi (by have:=(Bw hF).2.1; omega)]; rfl)) (by kernel_rfl) he)
  (λa j=>DK.ok (C:=.leaf (AhD s)) (L:=exR) (.k (A1 (Nat.le_refl (toN s.tt))) .l) (by kernel_rfl) rfl) (Nat.zero_add _).symm (by have:=(Bw hF).2.1; omega)
  (Cv (acc:=λ_=>()) (λ_ _=>rfl) _ _ (Nat.zero_add _))
def UZ (s:Sh7):A5:=.br (Ct s.ne) (.br (Al (Aq s.ne) (Al (Aq s.nx) (Al (Aq s.nr) (Al (Aq s.nc) (AV s.nc (λi=>Aq (s.C i).1)))))) (.br (ieq (CQ s) 0) (.br (plB s) (.leaf (.tup [.ref 0,iV 0],[.row 68 5 (Dw (inL s (toN s.tt))) (Hm (inL s (toN s.tt)))])) .fail) (.leaf (.tup [.ref 0,iV (CQ s)],[.row 68 5 0 λ_=>.und]))) .fail) .fail
theorem p13:Ap Tryz.prog Gl 13 (shT UZ):=KY Tryz.func13 (by kernel_rfl) (by kernel_rfl) (Γ:=λ_=>cxA Gl AkD AgO) (λ_=>rfl) (λ_=>AS AfM AgO)
 λs r h=>DK.of h (.k (eL s.ne) <| .k (eL s.nx) <| .k (eL s.nr) <| .k (eL2 s.nc s.C) <| .g λh1=>.k h1 <| .g λh2=>.k h2 <| .c (λh3=>.g λhF=>.k (eN h3) <| .k (eL s.ne) <| .k (eL s.nx) <| .k (eL s.nr) <| .k (eL2 s.nc s.C) <| .k hF <| .a (r13 hF) <| .l) λh3=>.k (eN h3) <| .l) (by kernel_rfl)
end Go.Proofs.YtkbafjceglhjhaaGreatDoor.Er
namespace Go.Sy
def Adc (f:St->T (Ex×St)):Nat->St->T (Ex×St)
 | 0,_=>.fail
 | m+1,st=>(f st).bind λr=>match r.1 with
  | .nm=>Adc f m r.2
  | .ex i=>.leaf (.ex i,r.2)
  | .rt=>.leaf (.rt,r.2)
theorem Ra {Γ:Cx0} {f:St->T (Ex×St)}:∀ {m:Nat} {st:St} {r:Ex×St},(Adc f m st).sem=some r->LRun Γ f st r
 | 0,_,_,h=>by cases h
 | m+1,st,r,h=>by
  obtain ⟨⟨e,st1⟩,h1,h2⟩:=Ag h;cases e with
  | nm=>exact .next h1 (LE.refl _) (Ra h2)
  | ex i =>have:=Ab h2;subst this;exact .stop h1 (by simp) (LE.refl _)
  | rt =>have:=Ab h2;subst this;exact .stop h1 (by simp) (LE.refl _)
def cxC (G:Nat->V) (tbl:A7):Cx:=⟨Aw tbl,λ_ f st=>Adc f 500 st,G⟩
theorem Jg {P:Program} {G:Nat->V} {tbl:A7} (h:Ao P G tbl):Bu P (cxC G tbl).base∧Cr (cxC G tbl):=⟨Ek rfl h,λ_ _ _ _ hr=>.run (Ra hr)⟩
def Jk (τ:List Ty) (G:Nat->V) (tb:A7):List (Nat×Func)->A7
 | []=>tb
 | p::l=>(p.1,λvs=>A0 (Aj τ (cxC G (Jk τ G tb l)) p.2 vs []))::Jk τ G tb l
def AmG (fn:Func):Bool:=fn.body.isSome && !(fn.name == "runtime.NumGoroutine")
inductive AllBody (P:Program):List (Nat×Func)->Prop where
 | nil:AllBody P []
 | cons {k:Nat} {fn:Func} {l:List (Nat×Func)} (hf:P.funcs[k]? = some fn) (hb:AmG fn=true) (h:AllBody P l):AllBody P ((k,fn)::l)
theorem MH {P:Program} {τ:List Ty} (hτ:TabOK P τ) (hm:P.follows .mixedOrders=true) {G:Nat->V} {tb:A7} (ht:Ao P G tb) {l:List (Nat×Func)} (h:AllBody P l):Ao P G (Jk τ G tb l):=by
 induction h with
 | nil=>exact ht
 | cons hf hb h ih =>rename_i k fn l;have hb:=Bool.and_eq_true_iff.1 hb;exact .cons (AM hτ hm hf hb.1 (by simpa using hb.2) (Jg ih)) ih
def Aju (m:List Bool):V->V
 | .tup vs=>.tup (Yy m vs)
 | v=>v
def Tt (m:List Bool) (t:A5):A5:=t.bind λp=>T.ofOpt (ZY (Aju m p.1) p.2)
theorem Ox {P:Program} {τ:List Ty} (hτ:TabOK P τ) (hm:P.follows .mixedOrders=true) {f:FuncId} {fn:Func} (hf:P.funcs[f]? = some fn)
  (hb:fn.body.isSome=true) (hn:(fn.name == "runtime.NumGoroutine")=false) {G:Nat->V} {F:List V->A5} (m:List Bool)
  (h:∀ vs v h',(F vs).sem=some (v,h')->∃ vs' Γ,Ba vs vs'∧Γ.glob=G∧Bu P Γ.base∧Cr Γ∧(Tt m (Aj τ Γ fn vs' [])).sem=some (v,h')):Ap P G f F:=by
 obtain ⟨c,hb⟩:=Option.isSome_iff_exists.1 hb;have hn:fn.name ≠ "runtime.NumGoroutine":=by simpa using hn
 refine ⟨⟨fn,hf,hn,by rw [hb]; rfl⟩,λvs cs S w v h' hS hE hv he=>?_⟩;obtain ⟨vs',Γ,h1,h2,h3,hΛ,h4⟩:=h vs v h' he;subst h2;obtain ⟨⟨v1,g1⟩,q1,q2⟩:=Ag h4;have q2:=DR q2;refine ⟨Gd q2,(P1 (P:=P) hτ hm h3 hΛ hf hb (Good.empty hS) hE (h1 S w cs hv) q1).mono ?_⟩
 rintro e w' ⟨u,κ',S',rfl,p1,p2,p3⟩
 have p2':VR S' w' (Aju m v1) κ' u:=by
  cases v1 with
  | tup vs =>obtain ⟨ca,e,hvs⟩:=p2;exact ⟨ca,e,Qc m _ _ hvs⟩
  | _=>exact p2
 obtain ⟨κ2,r1,r2,r3⟩:=Sz p1 p2' q2;refine ⟨u,κ2,S',rfl,r1,r2,Ext.ofNil p3.os p3.tape p3.output p3.size p3.keep (λi b hb=>?_) p3.sub p3.sup (Gd q2)⟩;obtain ⟨j,hj⟩:=r3 i b hb;exact p3.own j b hj
end Go.Sy
