/-
  Layer 12: the law EmitrHangs, the walk: a thread's code gone through, instruction by instruction. No conditions.
-/
import Derived.Test.YtkbafjceglhjhaaGreatDoorErD
import Derived.Test.YtkbafjceglhjhaaGreatDoorShI
import Derived.Test.YtkbafjceglhjhaaGreatDoorSyY
namespace Go.Proofs.YtkbafjceglhjhaaGreatDoor.Er
open Go.Sy Go Go.Proofs.YtkbafjceglhjhaaGreatDoor.Ed Go.Proofs.YtkbafjceglhjhaaGreatDoor.Sh
open Int (ofNat)
set_option maxRecDepth 100000
set_option maxHeartbeats 1000000
structure A6 where
 c:Int
 m:Int
 b:Int
 q:Int
section
variable (s:Sh7)
def x1 (q:Int):Int:=wr .i64 (Ah q (ofNat s.nx))
def x2 (q:Int):Int:=wr .i64 (AZ (x1 s q) 1)
def x3 (q:Int):Int:=Aq (x2 s q) (ofNat s.nx)
def pe6 (q:Int):E6:=s.E (toN (x3 s q))
def pr6 (q:Int):Int:=rg9 s (toN (x3 s q))
end
noncomputable def tb6:A9:=(9,shT Sr)::(11,shT rgC)::(10,shT rcC)::(25,AaJ)::[]
inductive Md6 (s:Sh7) (a:A6):Prop where
 | n (k8:ieq (pe6 s a.q).kind 8=false) (k6:ieq (pe6 s a.q).kind 6=false) (k7:ieq (pe6 s a.q).kind 7=false) (hc:ile 0 a.c=false) (hm:ile 0 a.m=false)
 | c (k8:ieq (pe6 s a.q).kind 8=true) (k6:ieq (pe6 s a.q).kind 6=false) (k7:ieq (pe6 s a.q).kind 7=false) (hc:ile 0 a.c=true) (hm:ile 0 a.m=false) (hr:ieq a.c (pr6 s a.q)=true)
 | a (k8:ieq (pe6 s a.q).kind 8=false) (k6:ieq (pe6 s a.q).kind 6=true) (hc:ile 0 a.c=false) (hm:ile 0 a.m=true) (hr:ieq a.m (pr6 s a.q)=true)
 | d (k8:ieq (pe6 s a.q).kind 8=false) (k6:ieq (pe6 s a.q).kind 6=false) (k7:ieq (pe6 s a.q).kind 7=true) (hc:ile 0 a.c=false) (hm:ile 0 a.m=true) (hr:ieq a.m (pr6 s a.q)=true)
structure Gd6 (s:Sh7) (a:A6):Prop where
 n0:ieq (ofNat s.nx) 0=false
 hq:ile (ofNat s.nx) a.q=false
 hE:Aj (ile 0 (x3 s a.q)) (ilt (x3 s a.q) (ofNat s.ne))=true
 hX:Aj (ile 0 (x3 s a.q)) (ilt (x3 s a.q) (ofNat s.nx))=true
 hN:nlt (toN (x3 s a.q)) s.nx=true
inductive Stp6 (s:Sh7) (I:In8) (a:A6):A6->Prop where
 | b (h:I.op=11):Stp6 s I a ⟨I.a,a.m,wr .i64 (Ah a.b 1),a.q⟩
 | x (h:I.op=9) (hab:I.a=I.b):Stp6 s I a ⟨a.c,I.a,a.b,a.q⟩
 | o (h:I.op=13 ∨ I.op=12 ∨ I.op=10 ∨ I.op=8):Stp6 s I a a
 | m (h:I.op=6 ∨ I.op=7) (g:Gd6 s a) (w:Md6 s a):Stp6 s I a ⟨-1,-1,a.b,wr .i64 (Ah a.q 1)⟩
theorem Af9 {x:Int} {k j:Int} (h:x=k) (hk:k ≠ j:=by decide):ieq x j=false:=by
 subst h;unfold ieq;simpa using hk
inductive Run6 (s:Sh7):List In8->A6->A6->Prop where
 | nil (a:A6):Run6 s [] a a
 | cons {I:In8} {l:List In8} {a b c:A6} (h:Stp6 s I a b) (t:Run6 s l b c):Run6 s (I::l) a c
theorem Run6.app {s:Sh7} {l m:List In8} {a b c:A6} (h:Run6 s l a b) (t:Run6 s m b c):Run6 s (l++m) a c:=by
 induction h with
 | nil a=>exact t
 | cons h _ ih=>exact .cons h (ih t)
end Go.Proofs.YtkbafjceglhjhaaGreatDoor.Er
namespace Go.Proofs.YtkbafjceglhjhaaGreatDoor.Er
open Go.Sy Go Go.Proofs.YtkbafjceglhjhaaGreatDoor.Ed Go.Proofs.YtkbafjceglhjhaaGreatDoor.Sh
open Int (ofNat)
set_option maxRecDepth 100000
set_option maxHeartbeats 1000000
def Ac0 (e:E6):Bool:=(ieq e.src 1 || ieq e.src 2) && ((!(ieq e.kind 6 || (ieq e.kind 7 || ieq e.kind 8)) || (ieq e.src 1 && !A4 e)) && (!(ieq e.kind 7) || ieq e.dst 2))
theorem Zl:(List.range 112).all (λk=>Ac0 (Ds k))=true:=by kernel_rfl
theorem AfO {e:E6} (h:Bg e=0):Ac0 e=true:=by
 rcases Eo e with ⟨k,hk,_,_,he,_⟩ | ⟨h2,_⟩
 ·rw [<- he]
  exact List.all_eq_true.1 Zl k (by simpa using hk)
 ·rw [h2] at h
  cases h
theorem before {o:Nat->Bool} {n i:Nat} (hi:i<n) (h:o (n-1)=true):Ak o i<Ak o n:=by
 have h1:=Bf o (show i <= n-1 by omega);have h2:=BH h;rw [show n-1+1=n by omega] at h2;omega
def obE (s:Sh7) (k:Nat):Bool:=A4 (s.E k)
structure Gs (s:Sh7):Prop where
 ne:s.ne=s.nx
 lo:2 <= s.nx
 hi:s.nx <= 16
 tt:s.tt=ofNat (Ak (obE s) s.nx)
 ok:∀ i,i<s.nx->Ac0 (s.E i)=true
 meets:∀ i,i<s.nx->(s.E i).dst=(s.E ((i+1) % s.nx)).src
 last:obE s (s.nx-1)=true
 th:∀ i,i<s.nx->(s.X i).th=ofNat (Ak (obE s) i)
 pl:∀ i,i<s.nx->(s.X i).pl=ofNat (Ak (λk=>ieq (s.X i).th (s.X k).th) i)
 dir:∀ i,i<s.nx->(s.X i).dir=(s.E i).src
theorem Aam {e e':Ev5} (h:Im e e'=true):e=e':=by
 unfold Im at h;obtain ⟨h1,h⟩:=AM h;obtain ⟨h2,h⟩:=AM h;obtain ⟨h3,h⟩:=AM h;obtain ⟨h4,h⟩:=AM h;obtain ⟨h5,_⟩:=AM h;obtain ⟨a,b,c,d,f⟩:=e;obtain ⟨a',b',c',d',f'⟩:=e'
 replace h1:=Cj h1
 replace h2:=Cj h2
 replace h3:=Cj h3
 replace h4:=Cj h4
 replace h5:=Cj h5
 simp only at h1 h2 h3 h4 h5;rw [h1,h2,h3,h4,h5]
theorem good {s:Sh7} (h:ieq (B0 s) 0=true):Gs s:=by
 have hc:D1 s=true:=by
  cases hc:D1 s with
  | true=>rfl
  | false =>unfold B0 at h;rw [hc] at h;cases h
 unfold D1 at hc;obtain ⟨h1,hc⟩:=AM hc;unfold J5 at hc;obtain ⟨_,hc⟩:=AM hc;obtain ⟨htt,hc⟩:=AM hc;obtain ⟨_,hc⟩:=AM hc;obtain ⟨hE,hc⟩:=AM hc;obtain ⟨hnx,hc⟩:=AM hc;obtain ⟨_,hc⟩:=AM hc;obtain ⟨_,hX⟩:=AM hc;have hy:=Bs h1;have hG:=ED hy;have hl:=Aac hy;have hnx:s.nx=s.ne:=Int.ofNat.inj (Cj hnx);have hE:∀ i,i<s.ne->s.E i=shG s.ne s.E i:=(Kw.1 hE).2;have hX:∀ i,i<s.nx->s.X i=evF s.ne (shG s.ne s.E) (λ_=>true) i:=λi hi=>Aam (AE.1 hX i hi);have hob:∀ k,k <= s.ne->Ak (obE s) k=Ak (obF (shG s.ne s.E)) k:=λk hk=>Cy k λi hi=>by
  unfold obE;rw [hE i (by omega)];rfl
 have hth:∀ i,i<s.nx->(s.X i).th=ofNat (Ak (obE s) i):=λi hi=>by
  rw [hX i hi,Dq (by omega),hob i (by omega)];show A7 (obF (shG s.ne s.E)) s.ne i=_;rw [FC (by omega)];unfold Bc;rw [if_neg (by have:=before (show i<s.ne by omega) hl; omega)]
 refine ⟨hnx.symm,by rw [hnx]; exact hy.lo,by rw [hnx]; exact hy.hi,?_,λi hi=>?_,λi hi=>?_,?_,hth,λi hi=>?_,λi hi=>?_⟩
 ·rw [hnx,hob _ (Nat.le_refl _)]
  exact Cj htt
 ·rw [hE i (by omega)]
  exact AfO (Fb.1 hG.may i (by omega))
 ·have hlo:=hy.lo
  have:=hG.meets i (by omega);unfold Gw AQ at this;rw [hnx,hE i (by omega),hE ((i+1) % s.ne) (Nat.mod_lt _ (by omega))];exact Cj (by simpa using this)
 ·rw [hnx]
  unfold obE;have:=hy.lo;rw [hE _ (by omega)];exact hl
 ·have e1:=hX i hi
  rw [e1,Dq (by omega)];show ofNat (plF s.ne (shG s.ne s.E) i)=_;unfold plF;congr 1;refine Cy i λk hk=>?_;rw [hX k (by omega),Dq (by omega)]
 ·rw [hX i hi,Dq (by omega),hE i (by omega)]
section
variable {s:Sh7} (hg:Gs s) {i:Nat}
def tN (s:Sh7) (i:Nat):Nat:=Ak (obE s) i
include hg
theorem Aiv (hi:i<s.nx):(toN (s.X i).th)=tN s i:=by rw [hg.th i hi]; rfl
theorem Alw (hi:i<s.nx):tN s i<toN s.tt:=by
 rw [hg.tt];exact before hi hg.last
theorem Aj4 (h0:i=0 ∨ obE s (i-1)=true) (hi:i<s.nx):ilt 0 (s.X i).pl=false:=by
 rw [hg.pl i hi];have:Ak (λk=>ieq (s.X i).th (s.X k).th) i=0:=by
  rcases h0 with rfl | h0
  ·rfl
  ·have hb:∀ k,k<i->(λk=>ieq (s.X i).th (s.X k).th) k=(λ_=>false) k:=λk hk=>by
    have h1:=Bf (obE s) (show k <= i-1 by omega);have h2:=BH h0;rw [show i-1+1=i by omega] at h2;simp only [hg.th i hi,hg.th k (by omega)];simp [ieq];omega
   rw [Cy (p:=λ_=>false) i hb];clear hb hi h0
   induction i with
   | zero=>rfl
   | succ i ih=>rw [BZ rfl,ih]
 rw [this];rfl
theorem Am3 (h0:0<i) (h:obE s (i-1)=false) (hi:i<s.nx):ilt 0 (s.X i).pl=true:=by
 rw [hg.pl i hi];have h2:=BZ h;rw [show i-1+1=i by omega] at h2;have h3:=BH (p:=λk=>ieq (s.X i).th (s.X k).th) (i:=i-1) (by
  simp only [hg.th i hi,hg.th (i-1) (by omega),h2];exact eI _)
 rw [show i-1+1=i by omega] at h3;rw [h3];exact decide_eq_true (by show (0:Int)<((_+1:Nat):Int); omega)
theorem C7:plB s=true:=by
 have htt:toN s.tt=Ak (obE s) s.nx:=by rw [hg.tt]; rfl
 have h1:=BK (obE s) s.nx;have h2:=hg.hi;unfold plB;simp only [Bool.and_eq_true];refine ⟨Nat.ble_eq_true_of_le h2,Nat.ble_eq_true_of_le (by omega),?_,AE.2 λi hi=>?_⟩
 ·rw [htt,hg.tt]
  exact eI _
 ·rw [hg.th i hi]
  exact Ae (Alw hg hi)
theorem AfA:cdB s=true:=by
 unfold cdB;rw [C7 hg,bTA];refine AE.2 λi hi=>?_;by_cases h0:i=0
 ·rw [Aj4 hg (.inl h0) hi]
  rfl
 ·have:Aj (Nat.blt 0 i) (Nat.ble i s.ne)=true:=by
   have:=hg.ne;exact (F6 (Nat.ble_eq_true_of_le (show 0<i by omega))).trans (Nat.ble_eq_true_of_le (by omega))
  rw [this];exact Bool.or_true _
def pvN (s:Sh7) (i:Nat):Nat:=(i+s.nx-1) % s.nx
theorem SI (hi:i<s.nx):x3 s (ofNat i)=ofNat (pvN s i):=by
 have h1:=hg.hi;have h2:=hg.lo;unfold x3 x2 x1 pvN;rw [show Ah (ofNat i) (ofNat s.nx)=ofNat (i+s.nx) from rfl,GL (by omega),show AZ (ofNat (i+s.nx)) 1=ofNat (i+s.nx-1) from by unfold AZ; simp; omega,GL (by omega)];rfl
theorem WY:pvN s i<s.nx:=Nat.mod_lt _ (by have:=hg.lo; omega)
omit hg in
theorem NH (h0:0<i) (hi:i<s.nx):pvN s i=i-1:=by
 unfold pvN;rw [show i+s.nx-1=i-1+s.nx by omega,Nat.add_mod_right,Nat.mod_eq_of_lt (by omega)]
theorem AaD (hi:i<s.nx):pe6 s (ofNat i)=s.E (pvN s i):=by
 unfold pe6;rw [SI hg hi];rfl
theorem Am2 (hi:i<s.nx):pr6 s (ofNat i)=rg9 s (pvN s i):=by
 unfold pr6;rw [SI hg hi];rfl
theorem Acd (hi:i<s.nx) (c m b:Int):Gd6 s ⟨c,m,b,ofNat i⟩:=by
 have h1:=WY hg (i:=i);refine ⟨?_,?_,?_,?_,?_⟩
 ·have:=hg.lo
  simp [ieq];omega
 ·exact decide_eq_false (by show ¬ ((s.nx:Int) <= (i:Int)); omega)
 ·show Aj (ile 0 (x3 s (ofNat i))) (ilt (x3 s (ofNat i)) (ofNat s.ne))=true
  rw [SI hg hi,hg.ne];exact Ae h1
 ·show Aj (ile 0 (x3 s (ofNat i))) (ilt (x3 s (ofNat i)) (ofNat s.nx))=true
  rw [SI hg hi];exact Ae h1
 ·show nlt (toN (x3 s (ofNat i))) s.nx=true
  rw [SI hg hi];exact decide_eq_true h1
theorem Aly (h0:0<i) (hi:i<s.nx):wr .i64 (AZ (ofNat i) 1)=ofNat (i-1):=by
 have:=hg.hi;obtain ⟨k,rfl⟩:∃ k,i=k+1:=⟨i-1,by omega⟩;rw [show AZ (ofNat (k+1)) 1=ofNat k from by unfold AZ; simp];exact GL (by omega)
theorem Ahu (h0:0<i) (hi:i<s.nx):ed9 s i=pe6 s (ofNat i):=by
 rw [AaD hg hi,NH h0 hi];unfold ed9;rw [Aly hg h0 hi];rfl
theorem Al4 (h0:0<i) (h:obE s (i-1)=false) (hi:i<s.nx) (hr:(s.E (i-1)).src=1):rP9 s i=pr6 s (ofNat i)∧ile 0 (rP9 s i)=true:=by
 have hi1:i-1<s.nx:=by omega
 have ht:tN s i=tN s (i-1):=by
  have h2:=BZ h;rw [show i-1+1=i by omega] at h2;exact h2
 have hh:hsF s s.nx (tN s (i-1)) (ofNat (i-1))=true:=by
  rw [Ha];unfold hsX isT isR;rw [show toN (ofNat (i-1))=i-1 from rfl,Aiv hg hi1,Nat.beq_refl,hg.dir _ hi1,hr,show ilt (ofNat (i-1)) (ofNat s.nx)=true from ofNat_lt hi1];simp [ile,ieq]
 have e1:rP9 s i=gtF s s.nx (tN s (i-1)) (ofNat (i-1)):=by
  unfold rP9;rw [Aiv hg hi,ht,Aly hg h0 hi]
 have e2:pr6 s (ofNat i)=gtF s s.nx (tN s (i-1)) (ofNat (i-1)):=by
  rw [Am2 hg hi,NH h0 hi];unfold rg9 rI9;rw [Aiv hg hi1,hh];rfl
 refine ⟨e1.trans e2.symm,?_⟩;rw [e1];unfold gtF;rw [hh];exact decide_eq_true (Int.natCast_nonneg _)
end
end Go.Proofs.YtkbafjceglhjhaaGreatDoor.Er
namespace Go.Proofs.YtkbafjceglhjhaaGreatDoor.Er
open Go.Sy Go Go.Proofs.YtkbafjceglhjhaaGreatDoor.Ed Go.Proofs.YtkbafjceglhjhaaGreatDoor.Sh
open Int (ofNat)
set_option maxRecDepth 100000
set_option maxHeartbeats 1000000
structure Nt where
 th:Int
 rg:Int
 nm:List UInt8
def ntV (e:Nt):V:=.agg [iV e.th,iV e.rg,.str [],.str e.nm,iV 0]
def zT:Nt:=⟨0,0,[]⟩
def Acc (l:List Nt) (k:Nat):Nt:=l.getD k zT
def Cn (l:List Nt):Nat:=l.length
def Gt (l:List Nt):Nat->V:=λk=>ntV (Acc l k)
theorem Qn (l:List Nt) (x:Nt):AG (Cn l) (Gt l) (ntV x)=Gt (l++[x]):=by
 funext k;rw [Bu];unfold Gt Acc Cn;cases hk:Nat.beq k l.length with
 | true =>have hk:=Nat.eq_of_beq_eq_true hk;subst hk;simp
 | false =>
  have hk:=Nat.ne_of_beq_eq_false hk;simp only [cond_false,List.getD_eq_getElem?_getD,List.getElem?_append];split
  ·rfl
  ·rename_i h
   rw [List.getElem?_eq_none (by omega),List.getElem?_eq_none (by simp; omega)]
section
variable (s:Sh7)
def ntI (t j:Nat):Nt:=⟨ofNat t,ofNat (7+j),Cw (DO (locL s s.nx t) j)⟩
def inT (t k:Nat):List Nt:=(List.range k).map (ntI s t)
def inL:Nat->List Nt
 | 0=>[]
 | t+1=>inL t++inT s t (Bm (locL s s.nx t))
def ntL (t k:Nat):List Nt:=inL s t++inT s t k
theorem NY (t k:Nat):ntL s t (k+1)=ntL s t k++[ntI s t k]:=by
 unfold ntL inT;rw [List.range_succ,List.map_append,List.append_assoc];rfl
theorem AgR (t:Nat):ntL s t 0=inL s t:=by
 unfold ntL inT;simp
theorem RO:∀ t,(inL s t).length <= t * s.nx
 | 0=>Nat.zero_le _
 | t+1=>by
  have:=RO t;have:=ES (s:=s) t s.nx;unfold Bm at this;rw [inL,List.length_append];unfold inT Bm;rw [List.length_map,List.length_range,Nat.succ_mul];omega
def Ya (t:Nat) (c:Int) (n:Nat) (g:Nat->V):St:=⟨jsV 50 0 Ab [(1,.ptr 0 0),(5,.ref 2),(6,nV t),(18,.jref 3),(19,iV (ofNat (toN s.tt))),(20,nV t),(26,.mref 3 t),(27,iV (ofNat (Bm (locL s s.nx t)))),(28,iV c)],[.cells [iV s.arch,.sl 6 s.ne (λi=>eV (s.E i)),.sl 5 s.nx (λi=>evV (s.X i)),iV s.tt,iV s.kk,.sl 1 s.nr (λi=>iV (s.R i)),.sl 1 s.nc (λu=>.sl 1 (s.C u).1 (λi=>iV ((s.C u).2 i)))],.row 68 5 0 Ab,.row 68 5 n g,J7 s,.cells [.mref 3 t,.mmap 3 t]]⟩
def QO (t:Nat) (c:Int) (_:Unit):St:=Ya s t c (Cn (ntL s t (toN c))) (Gt (ntL s t (toN c)))
def OG (t:Nat):Ex×St:=(.ex 2,⟨jsV 50 0 Ab [(1,.ptr 0 0),(5,.ref 2),(18,.jref 3),(19,iV (ofNat (toN s.tt))),(20,nV t)],[.cells [iV s.arch,.sl 6 s.ne (λi=>eV (s.E i)),.sl 5 s.nx (λi=>evV (s.X i)),iV s.tt,iV s.kk,.sl 1 s.nr (λi=>iV (s.R i)),.sl 1 s.nc (λu=>.sl 1 (s.C u).1 (λi=>iV ((s.C u).2 i)))],.row 68 5 0 Ab,.row 68 5 (Cn (inL s (t+1))) (Gt (inL s (t+1))),J7 s]⟩)
def T13 (c:Int) (l:List Nt):St:=⟨jsV 50 0 Ab [(1,.ptr 0 0),(5,.ref 2),(18,.jref 3),(19,iV (ofNat (toN s.tt))),(20,iV c)],[.cells [iV s.arch,.sl 6 s.ne (λi=>eV (s.E i)),.sl 5 s.nx (λi=>evV (s.X i)),iV s.tt,iV s.kk,.sl 1 s.nr (λi=>iV (s.R i)),.sl 1 s.nc (λu=>.sl 1 (s.C u).1 (λi=>iV ((s.C u).2 i)))],.row 68 5 0 Ab,.row 68 5 (Cn l) (Gt l),J7 s]⟩
def S13 (c:Int) (_:Unit):St:=T13 s c (inL s (toN c))
def AfI:Ex×St:=(.ex 0,⟨jsV 50 0 Ab [(5,.ref 2)],[.cells [iV s.arch,.sl 6 s.ne (λi=>eV (s.E i)),.sl 5 s.nx (λi=>evV (s.X i)),iV s.tt,iV s.kk,.sl 1 s.nr (λi=>iV (s.R i)),.sl 1 s.nc (λu=>.sl 1 (s.C u).1 (λi=>iV ((s.C u).2 i)))],.row 68 5 0 Ab,.row 68 5 (Cn (inL s (toN s.tt))) (Gt (inL s (toN s.tt))),J7 s]⟩)
def g13 (_:Nat) (_:Unit):T (Unit ⊕ (Ex×St)):=.leaf (.inl ())
end
noncomputable def Ai5:A9:=(33,shT Pz)::(34,shT NK)::(39,VL)::[]
theorem AdU:Ao Tryz.prog Gl Ai5:=.cons p33 <| .cons p34 <| .cons p37 .nil
def Ano:Lp:=⟨bmK 50 0 [1,5,18,19,20],4,bmK 50 0 [5],4,4611686018427387905⟩
def VI:Lp:=⟨bmK 50 0 [1,5,6,18,19,20,26,27,28],5,bmK 50 0 [1,5,18,19,20],4,4611686018427387905⟩
noncomputable def B13 (id:Nat) (L:LT):St->T (Ex×St):=λst=>A8 tab ⟨Ax Ai5,L,Gl⟩ (As Tryz.f13 id) id st
theorem Qf {s:Sh7} (hF:plB s=true) (t:Nat):Bm (locL s s.nx t) <= 16:=by
 have:=ES (s:=s) t s.nx;have:=(Br hF).1;omega
theorem Aoo {s:Sh7} (hF:plB s=true) {t i:Nat} (ht:t<toN s.tt) (hi:i<Bm (locL s s.nx t)):Bp (Cn (ntL s t i)) 1 56=true:=decide_eq_true (by
 have h1:=RO s t;have h2:=Qf hF t;have h3:=(Br hF).1;have h4:=(Br hF).2.1;have h5:t * s.nx <= 16 * 16:=Nat.mul_le_mul (by omega) h3;unfold Cn ntL inT;rw [List.length_append,List.length_map,List.length_range];omega)
theorem Apx {s:Sh7} (hF:plB s=true) {t i:Nat} (hi:i<Bm (locL s s.nx t)):(Ex.nm,Ya s t (wr .i64 (Ah (ofNat i) 1)) (AD (Cn (ntL s t i)) 1) (AG (Cn (ntL s t i)) (Gt (ntL s t i)) (.agg [nV t,iV (wr .i64 (Ah 7 (ofNat i))),.str [],.str (Cw (DO (locL s s.nx t) i)),iV 0])))=(Ex.nm,QO s t (wr .i64 (Ah (ofNat i) 1)) ()):=by
 have h16:=Qf hF t;unfold QO;rw [Eu hi (by omega),show toN (ofNat (i+1))=i+1 from rfl,NY,show wr .i64 (Ah 7 (ofNat i))=ofNat (7+i) from GL (k:=7+i) (by omega),<- Qn];show _=(Ex.nm,Ya s t (ofNat (i+1)) (Cn (ntL s t i++[ntI s t i])) (AG (Cn (ntL s t i)) (Gt (ntL s t i)) (ntV (ntI s t i))));rw [show Cn (ntL s t i++[ntI s t i])=AD (Cn (ntL s t i)) 1 from by unfold Cn AD; simp];rfl
theorem Am1 (L:LT) {s:Sh7} (hF:plB s=true) {t:Nat} (ht:t<toN s.tt):(Au (B13 2 L) VI 4611686018427387905 (Ya s t 0 (Cn (inL s t)) (Gt (inL s t)))).sem=some (OG s t):=by
 have h:(Au (B13 2 L) VI 4611686018427387905 (QO s t 0 ())).sem=some (OG s t) :=
  AT (R:=exR) BA (S:=λc a _=>QO s t c a) (j:=λ_=>.und) (g:=g13) (fin:=λ_=>OG s t) (e:=OG s t) (n:=Bm (locL s s.nx t)) (by have:=Qf hF t; omega)
   (λi a j r hi he=>DK.ok (L:=goR (λc a _=>QO s t c a) exR i) (.k (ofNat_lt hi) <| .k eT <| .k (Ae hi) <| .k eT <| .k (show nlt i (Bm (locL s s.nx t))=true from decide_eq_true hi) <| .k (Aoo hF ht hi) <| .e (Apx hF hi)) (by kernel_rfl) he)
   (λa j=>DK.ok (C:=.leaf (OG s t)) (L:=exR) (.k (Az (Nat.le_refl (Bm (locL s s.nx t)))) .l) (by kernel_rfl) rfl) (Nat.zero_add _).symm (by have:=Qf hF t; omega)
   (Co (acc:=λ_=>()) (λ_ _=>rfl) _ _ (Nat.zero_add _))
 unfold QO at h;rw [show toN 0=0 from rfl,AgR] at h;exact h
def AeS:List (Nat×Lp×List (Nat×(Nat->V))):=[(0,Ano,[(2,λ_=>ntV zT)]),(2,VI,[])]
theorem r13 {s:Sh7} (hF:plB s=true):(Au (B13 0 (Go.Sy.askL AeS)) Ano 4611686018427387905 (S13 s 0 ())).sem=some (AfI s) :=
 AT (R:=exR) BA (S:=λc a _=>S13 s c a) (j:=λ_=>.und) (g:=g13) (fin:=λ_=>AfI s) (e:=AfI s) (n:=toN s.tt) (by have:=(Br hF).2.1; omega)
  (λi a j r hi he=>DK.ok (L:=goR (λc a _=>S13 s c a) exR i) (.k (ofNat_lt hi) <| .k (Ae hi) <| .k (show nlt i (toN s.tt)=true from decide_eq_true hi) <| .r 2 eT <| .a (Am1 (Go.Sy.askL AeS) hF hi) <|
   .e (show (Ex.nm,T13 s (wr .i64 (Ah (ofNat i) 1)) (inL s (i+1)))=(Ex.nm,S13 s (wr .i64 (Ah (ofNat i) 1)) ()) from by unfold S13; rw [Eu hi (by have:=(Br hF).2.1; omega)]; rfl)) (by kernel_rfl) he)
  (λa j=>DK.ok (C:=.leaf (AfI s)) (L:=exR) (.k (Az (Nat.le_refl (toN s.tt))) .l) (by kernel_rfl) rfl) (Nat.zero_add _).symm (by have:=(Br hF).2.1; omega)
  (Co (acc:=λ_=>()) (λ_ _=>rfl) _ _ (Nat.zero_add _))
def TU (s:Sh7):A3:=.br (CU s.ne) (.br (Aj (Av s.ne) (Aj (Av s.nx) (Aj (Av s.nr) (Aj (Av s.nc) (Bi s.nc (λi=>Av (s.C i).1)))))) (.br (ieq (B0 s) 0) (.br (plB s) (.leaf (.tup [.ref 0,iV 0],[.row 68 5 (Cn (inL s (toN s.tt))) (Gt (inL s (toN s.tt)))])) .fail) (.leaf (.tup [.ref 0,iV (B0 s)],[.row 68 5 0 λ_=>.und]))) .fail) .fail
theorem p13:An Tryz.prog Gl 13 (shT TU):=I4 Tryz.func13 (by kernel_rfl) (by kernel_rfl) (Γ:=λ_=>cxA Gl Ai5 AeS) (λ_=>rfl) (λ_=>AU AdU AeS)
 λs r h=>DK.of h (.k (eL s.ne) <| .k (eL s.nx) <| .k (eL s.nr) <| .k (eL2 s.nc s.C) <| .g λh1=>.k h1 <| .g λh2=>.k h2 <| .c (λh3=>.g λhF=>.k (eN h3) <| .k (eL s.ne) <| .k (eL s.nx) <| .k (eL s.nr) <| .k (eL2 s.nc s.C) <| .k hF <| .a (r13 hF) <| .l) λh3=>.k (eN h3) <| .l) (by kernel_rfl)
end Go.Proofs.YtkbafjceglhjhaaGreatDoor.Er
namespace Go.Proofs.YtkbafjceglhjhaaGreatDoor.Er
open Go.Sy Go Go.Proofs.YtkbafjceglhjhaaGreatDoor.Ed Go.Proofs.YtkbafjceglhjhaaGreatDoor.Sh
set_option maxRecDepth 100000
set_option maxHeartbeats 1000000
theorem AcZ {n:Nat} {f:Nat->Int} {lc:Int} (hn:n <= 1000) (h:∃ k,k<n∧f k=lc):∃ k,k<n∧F7 n f lc=Int.ofNat (7+k)∧f k=lc:=by
 unfold F7 tO;cases hq:AO (λk=>ieq (f k) lc) n 0 with
 | none =>obtain ⟨k,hk,hf⟩:=h;have:=CY.1 hq k (Nat.zero_le _) (by omega);rw [hf,eI] at this;cases this
 | some k =>
  obtain ⟨_,h2,h3⟩:=IG hq;exact ⟨k,by omega,by
   show wr .i64 (Ah 7 (Int.ofNat k))=_;exact GL (k:=7+k) (by omega),Cj h3⟩
theorem UC {n:Nat} {f:Nat->Int} {lc:Int} (hn:n <= 1000) (h:ieq (F7 n f lc) 0=false):∃ k,k<n∧f k=lc:=by
 unfold F7 at h;cases hq:AO (λk=>ieq (f k) lc) n 0 with
 | none=>rw [hq] at h; cases h
 | some k =>obtain ⟨_,h2,h3⟩:=IG hq;exact ⟨k,by omega,Cj h3⟩
theorem Akj {l:List Int} {x:Int} {k:Nat} (h:k<Bm l):DO (l++[x]) k=DO l k:=by
 unfold DO Bm at *;simp only [List.getD_eq_getElem?_getD];rw [List.getElem?_append_left h]
theorem Aki {l:List Int} {x:Int}:DO (l++[x]) (Bm l)=x:=by
 unfold DO Bm;simp
theorem loc_in (s:Sh7) (u:Nat):∀ m,m <= 16->∀ i,i<m->isT s u i=true->∃ k,k<Bm (locL s m u)∧DO (locL s m u) k=(s.X i).loc
 | 0,_,_,hi,_=>absurd hi (Nat.not_lt_zero _)
 | m+1,hm,i,hi,hT=>by
  have hl:=ES (s:=s) u m;have hc:isT s u m=true->ieq (F7 (Bm (locL s m u)) (DO (locL s m u)) (s.X m).loc) 0=false->∃ k,k<Bm (locL s m u)∧DO (locL s m u) k=(s.X m).loc:=λ_ h2=>UC (by omega) h2;have hlen:∀ l:List Int,∀ x,Bm (l++[x])=Bm l+1:=λl x=>by unfold Bm; simp
  rw [locL];by_cases him:i=m
  ·subst him
   unfold isT at hT;rw [hT,bTA];cases h2:ieq (F7 (Bm (locL s i u)) (DO (locL s i u)) (s.X i).loc) 0 with
   | true=>exact ⟨Bm (locL s i u),by rw [cond_true,hlen]; omega,by rw [cond_true]; exact Aki⟩
   | false=>exact hc (by unfold isT; exact hT) h2
  ·obtain ⟨k,hk,he⟩:=loc_in s u m (by omega) i (by omega) hT
   cases Nat.beq u (toN (s.X m).th) && ieq (F7 (Bm (locL s m u)) (DO (locL s m u)) (s.X m).loc) 0 with
   | true=>exact ⟨k,by rw [cond_true,hlen]; omega,by rw [cond_true,Akj hk]; exact he⟩
   | false=>exact ⟨k,hk,he⟩
end Go.Proofs.YtkbafjceglhjhaaGreatDoor.Er
namespace Go.Sy
def Abw (f:St->T (Ex×St)):Nat->St->T (Ex×St)
 | 0,_=>.fail
 | m+1,st=>(f st).bind λr=>match r.1 with
  | .nm=>Abw f m r.2
  | .ex i=>.leaf (.ex i,r.2)
  | .rt=>.leaf (.rt,r.2)
theorem Qt {Γ:Cx0} {f:St->T (Ex×St)}:∀ {m:Nat} {st:St} {r:Ex×St},(Abw f m st).sem=some r->LRun Γ f st r
 | 0,_,_,h=>by cases h
 | m+1,st,r,h=>by
  obtain ⟨⟨e,st1⟩,h1,h2⟩:=Af h;cases e with
  | nm=>exact .next h1 (LE.refl _) (Qt h2)
  | ex i =>have:=Aa h2;subst this;exact .stop h1 (by simp) (LE.refl _)
  | rt =>have:=Aa h2;subst this;exact .stop h1 (by simp) (LE.refl _)
def cxC (G:Nat->V) (tbl:A9):Cx:=⟨Ax tbl,λ_ f st=>Abw f 500 st,G⟩
theorem LX {P:Program} {G:Nat->V} {tbl:A9} (h:Ao P G tbl):Bj P (cxC G tbl).base∧Ca (cxC G tbl):=⟨E7 rfl h,λ_ _ _ _ hr=>.run (Qt hr)⟩
def Ka (τ:List Ty) (G:Nat->V) (tb:A9):List (Nat×Func)->A9
 | []=>tb
 | p::l=>(p.1,λvs=>A0 (Ai τ (cxC G (Ka τ G tb l)) p.2 vs []))::Ka τ G tb l
def Akw (fn:Func):Bool:=fn.body.isSome && !(fn.name == "runtime.NumGoroutine")
inductive AllBody (P:Program):List (Nat×Func)->Prop where
 | nil:AllBody P []
 | cons {k:Nat} {fn:Func} {l:List (Nat×Func)} (hf:P.funcs[k]? = some fn) (hb:Akw fn=true) (h:AllBody P l):AllBody P ((k,fn)::l)
theorem QH {P:Program} {τ:List Ty} (hτ:TabOK P τ) (hm:P.follows .mixedOrders=true) {G:Nat->V} {tb:A9} (ht:Ao P G tb) {l:List (Nat×Func)} (h:AllBody P l):Ao P G (Ka τ G tb l):=by
 induction h with
 | nil=>exact ht
 | cons hf hb h ih =>rename_i k fn l;have hb:=Bool.and_eq_true_iff.1 hb;exact .cons (AK hτ hm hf hb.1 (by simpa using hb.2) (LX ih)) ih
def Ahv (m:List Bool):V->V
 | .tup vs=>.tup (Xg m vs)
 | v=>v
def Si (m:List Bool) (t:A3):A3:=t.bind λp=>T.ofOpt (Y8 (Ahv m p.1) p.2)
theorem NJ {P:Program} {τ:List Ty} (hτ:TabOK P τ) (hm:P.follows .mixedOrders=true) {f:FuncId} {fn:Func} (hf:P.funcs[f]? = some fn)
  (hb:fn.body.isSome=true) (hn:(fn.name == "runtime.NumGoroutine")=false) {G:Nat->V} {F:List V->A3} (m:List Bool)
  (h:∀ vs v h',(F vs).sem=some (v,h')->∃ vs' Γ,Bz vs vs'∧Γ.glob=G∧Bj P Γ.base∧Ca Γ∧(Si m (Ai τ Γ fn vs' [])).sem=some (v,h')):An P G f F:=by
 obtain ⟨c,hb⟩:=Option.isSome_iff_exists.1 hb;have hn:fn.name ≠ "runtime.NumGoroutine":=by simpa using hn
 refine ⟨⟨fn,hf,hn,by rw [hb]; rfl⟩,λvs cs S w v h' hS hE hv he=>?_⟩;obtain ⟨vs',Γ,h1,h2,h3,hΛ,h4⟩:=h vs v h' he;subst h2;obtain ⟨⟨v1,g1⟩,q1,q2⟩:=Af h4;have q2:=D5 q2;refine ⟨FL q2,(Gi (P:=P) hτ hm h3 hΛ hf hb (Good.empty hS) hE (h1 S w cs hv) q1).mono ?_⟩
 rintro e w' ⟨u,κ',S',rfl,p1,p2,p3⟩
 have p2':VR S' w' (Ahv m v1) κ' u:=by
  cases v1 with
  | tup vs =>obtain ⟨ca,e,hvs⟩:=p2;exact ⟨ca,e,Pt m _ _ hvs⟩
  | _=>exact p2
 obtain ⟨κ2,r1,r2,r3⟩:=Rt p1 p2' q2;refine ⟨u,κ2,S',rfl,r1,r2,Ext.ofNil p3.os p3.tape p3.output p3.size p3.keep (λi b hb=>?_) p3.sub p3.sup (FL q2)⟩;obtain ⟨j,hj⟩:=r3 i b hb;exact p3.own j b hj
end Go.Sy
namespace Go.Sy
inductive DW {α:Type} (r:α):DT α->Prop where
 | e {a:α} (h:a=r):DW r (.lf a)
 | k {b c:Bool} {d:DT α} (h:b=c) (w:DW r d):DW r (.kn b c d)
 | a {o:Option (Ex×St)} {q:Ex×St} {d:DT α} (h:o=some q) (w:DW r d):DW r (.ak o q d)
 | c {d e:DT α} (b:Bool) (w:b=true->DW r d) (u:b=false->DW r e):DW r (.sp d e)
theorem DW.l {α:Type} {r:α}:DW r (.lf r):=.e rfl
theorem DW.r {α:Type} {r:α} {b c:Bool} {d:DT α} (n:Nat) (h:b=c) (w:DW r d):DW r (DT.knR n b c d):=by
 induction n with
 | zero=>exact w
 | succ n ih=>exact .k h ih
theorem DW.ok {α:Type} {r:α} {d:DT α} (w:DW r d):∀ {t:T α},d.run t=some (d.cs,d.os,d.ls)->t.sem=some r:=by
 induction w with
 | e hab =>
  intro t h;cases t with
  | leaf b =>simp only [DT.run,DT.cs,DT.os,DT.ls,Option.some.injEq,Prod.mk.injEq,List.cons.injEq,and_true,true_and] at h;subst h;rw [hab];rfl
  | _=>cases h
 | k hb w ih =>
  rename_i b c d;intro t h;cases t with
  | br b' x y =>
   simp only [DT.run] at h;split at h
   ·rename_i hx
    simp only [DT.cs,DT.os,DT.ls,Option.some.injEq,Prod.mk.injEq,List.cons.injEq] at h;obtain ⟨⟨rfl,rfl⟩,rfl,rfl⟩:=h;subst hb;cases b' with
    | true=>exact (show x.sem=_ from ih hx)
    | false=>exact (show y.sem=_ from ih hx)
   ·cases h
  | _=>cases h
 | a ho w ih =>
  rename_i o q d;intro t h;cases t with
  | ask o' k =>
   simp only [DT.run] at h;split at h
   ·rename_i hx
    simp only [DT.cs,DT.os,DT.ls,Option.some.injEq,Prod.mk.injEq,List.cons.injEq] at h;obtain ⟨rfl,⟨rfl,rfl⟩,rfl⟩:=h;subst ho;exact (show (k q).sem=_ from ih hx)
   ·cases h
  | _=>cases h
 | c b w u ih ih' =>
  rename_i d e;intro t h;simp only [DT.run] at h;split at h
  ·rename_i hx hy
   simp only [DT.cs,DT.os,DT.ls,Option.some.injEq,Prod.mk.injEq] at h;obtain ⟨hc,ho,hl⟩:=h;obtain ⟨e1,e2,e3⟩:=DT.run_len hx;obtain ⟨rfl,rfl⟩:=List.append_inj hc e1;obtain ⟨rfl,rfl⟩:=List.append_inj ho e2;obtain ⟨rfl,rfl⟩:=List.append_inj hl e3;cases hb:b with
   | true=>exact ih hb hx
   | false=>exact ih' hb hy
  ·cases h
theorem DW.rd {f:St->T (Ex×St)} {lp:Lp} {st:St} {r:Ex×St} {d:DT (Ex×St)} (w:DW r d) (h:d.run ((f st).bind λr=>T.leaf (Aod lp r))=some (d.cs,d.os,d.ls)):Ay f lp st=some r:=w.ok h
theorem B6 {f:St->T (Ex×St)} {lp:Lp} {S:Nat->St} {m:Nat} {x:Ex×St} (hx:x.1 ≠ .nm) (h:∀ i,i<m->Ay f lp (S i)=some (.nm,S (i+1))) (h0:Ay f lp (S m)=some x) {q:Nat} (hq:m<q):(Au f lp q (S 0)).sem=some x:=by
 have stop:∀ {o:Nat},YZ f lp o (some x)=some x:=fun {o}=>by
  cases x with
  | mk e s=>cases e <;> first | exact absurd rfl hx | rfl
 have key:∀ d i q,i+d=m->d<q->(Au f lp q (S i)).sem=some x:=λd=>by
  induction d with
  | zero =>
   intro i q hi hq;obtain ⟨q,rfl⟩:∃ o,q=o+1:=⟨q-1,by omega⟩;obtain rfl:i=m:=by omega
   rw [Ag h0,stop]
  | succ d ih =>intro i q hi hq;obtain ⟨q,rfl⟩:∃ o,q=o+1:=⟨q-1,by omega⟩;rw [Ag (h i (by omega))];exact ih (i+1) q (by omega) (by omega)
 exact key m 0 q (Nat.zero_add m) hq
theorem nm1 {α:Type} {f:α->St} {a a':α} (h:a=a'):(Ex.nm,f a)=(Ex.nm,f a'):=by rw [h]
theorem nm2 {α β:Type} {f:α->β->St} {a a':α} {b b':β} (h:a=a') (h2:b=b'):(Ex.nm,f a b)=(Ex.nm,f a' b'):=by rw [h,h2]
theorem nm3 {α β γ:Type} {f:α->β->γ->St} {a a':α} {b b':β} {c c':γ} (h:a=a') (h2:b=b') (h3:c=c'):(Ex.nm,f a b c)=(Ex.nm,f a' b' c'):=by rw [h,h2,h3]
theorem Gp {i:Nat} (h:i <= 4611686018427387904):wr .i64 (Ah (Int.ofNat i) 1)=Int.ofNat (i+1):=by
 unfold wr Ah IntKind.wrap;simp [IntKind.bits,IntKind.signed];omega
end Go.Sy
