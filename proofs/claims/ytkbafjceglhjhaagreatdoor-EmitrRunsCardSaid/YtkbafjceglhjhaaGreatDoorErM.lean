/-
  Layer 11: the law's event: what an instruction asked for is what the document's event says. Conditions: EvOK.
-/
import Derived.Test.YtkbafjceglhjhaaGreatDoorEuC
import Derived.Test.YtkbafjceglhjhaaGreatDoorSyZa
import Derived.Test.YtkbafjceglhjhaaGreatDoorErD
import Derived.Test.YtkbafjceglhjhaaGreatDoorShI
import Derived.Shelf.Strings.OnBuilder
import Derived.Test.YtkbafjceglhjhaaGreatDoorCyT
namespace Go.Proofs.YtkbafjceglhjhaaGreatDoor.Er
open Go.Sy Go Go.Proofs.YtkbafjceglhjhaaGreatDoor.Ed Go.Proofs.YtkbafjceglhjhaaGreatDoor.Sh
open Int (ofNat)
set_option maxRecDepth 100000
set_option maxHeartbeats 1000000
def Alc:List V->AA
 | [.val (.int .i64 y)]=>.leaf (.str (BA y),[])
 | _=>.fail
noncomputable def tb41:AE:=(66,ZL)::[]
theorem tb41_ok:Ar Tryz.prog Gl tb41:=.cons Sh.p38 .nil
theorem p41:As Tryz.prog Gl 41 Alc:=by
 refine Am A0 mixed Tryz.func41 (by kernel_rfl) (by kernel_rfl) λvs v h' h=>?_;unfold Alc at h;split at h
 ·cases Aa h
  have hx:=Bd tb41_ok [] (G:=Gl);exact ⟨_,cxA Gl tb41 [],_,Bw.refl _,rfl,hx.1,hx.2,DW.ok .l (by kernel_rfl),Aw.refl _⟩
 ·cases h
noncomputable def Zn:AE:=(41,Alc)::[]
theorem AeN:Ar Tryz.prog Gl Zn:=.cons p41 .nil
theorem lfb {b:Bool} (h:b=true):((bV b,[]):V×List Blk)=(bV true,[]):=by rw [h]
theorem Ajx {s:Sh7} {q u:Nat} {a:Ac} {fe:Int} (hq:q<s.nx) (n0:ieq (ofNat s.nx) 0=false) (hE:Ak (ile 0 (x3 s (ofNat q))) (ilt (x3 s (ofNat q)) (ofNat s.ne))=true) (ht:ieq (s.X q).th (ofNat u)=true) (hl:seq a.lc (BA (s.X q).loc)=true) (h5:ieq (pe6 s (ofNat q)).kind 5=false) (hf:ieq fe 0=true) (hd:ieq (s.X q).dir 1=true) (hk:ieq a.k 2=true) :
  (Ay (Aj tab (cxA Gl Zn []) Tryz.f32 [E2 s,nV q,nV u,acV a,iV fe] [])).sem=some (bV true,[]) :=
 DW.ok (.k (Ae hq) <| .k n0 <| .k hE <| .k (eI (ofNat q)) <| .k (eI (ofNat s.nx)) <| .k (eI (x1 s (ofNat q))) <| .k (eI (x2 s (ofNat q))) <| .k (eI (ofNat s.nx)) <| .k n0 <| .k (eI (x3 s (ofNat q))) <| .k (eI (pe6 s (ofNat q)).kind) <| .k (eQ (pe6 s (ofNat q)).ext) <| .k (eQ (pe6 s (ofNat q)).same) <| .k (eI (pe6 s (ofNat q)).src) <| .k (eI (pe6 s (ofNat q)).dst) <| .k (eI (pe6 s (ofNat q)).fence) <| .k (eI (ofNat q)) <| .k (eI (ofNat s.nx)) <| .k (eI (x1 s (ofNat q))) <| .k (eI (x2 s (ofNat q))) <| .k (eI (ofNat s.nx)) <| .k n0 <| .k (eI (x3 s (ofNat q))) <| .k (eI (pe6 s (ofNat q)).kind) <| .k (eQ (pe6 s (ofNat q)).ext) <| .k (eQ (pe6 s (ofNat q)).same) <| .k (eI (pe6 s (ofNat q)).src) <| .k (eI (pe6 s (ofNat q)).dst) <| .k (eI (pe6 s (ofNat q)).fence) <| .r 3 (eN h5) <| .r 4 (eN hf) <| .r 4 h5 <| .k (eN hf) <| .k h5 <| .k (eN hf) <| .k eF <| .r 7 (eN ht) <| .k (eN hl) <| .k hd <| .e (lfb hk)) (by kernel_rfl)
theorem Ajw {s:Sh7} {q u:Nat} {a:Ac} {fe:Int} (hq:q<s.nx) (n0:ieq (ofNat s.nx) 0=false) (hE:Ak (ile 0 (x3 s (ofNat q))) (ilt (x3 s (ofNat q)) (ofNat s.ne))=true) (ht:ieq (s.X q).th (ofNat u)=true) (hl:seq a.lc (BA (s.X q).loc)=true) (h5:ieq (pe6 s (ofNat q)).kind 5=false) (hf:ieq fe 0=true) (hd:ieq (s.X q).dir 1=false) (hk:ieq a.k 3=true) (hv:ieq a.v (s.X q).val=true) :
  (Ay (Aj tab (cxA Gl Zn []) Tryz.f32 [E2 s,nV q,nV u,acV a,iV fe] [])).sem=some (bV true,[]) :=
 DW.ok (.k (Ae hq) <| .k n0 <| .k hE <| .k (eI (ofNat q)) <| .k (eI (ofNat s.nx)) <| .k (eI (x1 s (ofNat q))) <| .k (eI (x2 s (ofNat q))) <| .k (eI (ofNat s.nx)) <| .k n0 <| .k (eI (x3 s (ofNat q))) <| .k (eI (pe6 s (ofNat q)).kind) <| .k (eQ (pe6 s (ofNat q)).ext) <| .k (eQ (pe6 s (ofNat q)).same) <| .k (eI (pe6 s (ofNat q)).src) <| .k (eI (pe6 s (ofNat q)).dst) <| .k (eI (pe6 s (ofNat q)).fence) <| .k (eI (ofNat q)) <| .k (eI (ofNat s.nx)) <| .k (eI (x1 s (ofNat q))) <| .k (eI (x2 s (ofNat q))) <| .k (eI (ofNat s.nx)) <| .k n0 <| .k (eI (x3 s (ofNat q))) <| .k (eI (pe6 s (ofNat q)).kind) <| .k (eQ (pe6 s (ofNat q)).ext) <| .k (eQ (pe6 s (ofNat q)).same) <| .k (eI (pe6 s (ofNat q)).src) <| .k (eI (pe6 s (ofNat q)).dst) <| .k (eI (pe6 s (ofNat q)).fence) <| .r 3 (eN h5) <| .r 4 (eN hf) <| .r 4 h5 <| .k (eN hf) <| .k h5 <| .k (eN hf) <| .k eF <| .r 7 (eN ht) <| .k (eN hl) <| .k hd <| .r 6 hk <| .e (lfb hv)) (by kernel_rfl)
theorem Ajz {s:Sh7} {q u:Nat} {a:Ac} {fe:Int} (hq:q<s.nx) (n0:ieq (ofNat s.nx) 0=false) (hE:Ak (ile 0 (x3 s (ofNat q))) (ilt (x3 s (ofNat q)) (ofNat s.ne))=true) (ht:ieq (s.X q).th (ofNat u)=true) (hl:seq a.lc (BA (s.X q).loc)=true) (h5:ieq (pe6 s (ofNat q)).kind 5=true) (hf:ieq fe (pe6 s (ofNat q)).fence=true) (hd:ieq (s.X q).dir 1=true) (hk:ieq a.k 2=true) :
  (Ay (Aj tab (cxA Gl Zn []) Tryz.f32 [E2 s,nV q,nV u,acV a,iV fe] [])).sem=some (bV true,[]) :=
 DW.ok (.k (Ae hq) <| .k n0 <| .k hE <| .k (eI (ofNat q)) <| .k (eI (ofNat s.nx)) <| .k (eI (x1 s (ofNat q))) <| .k (eI (x2 s (ofNat q))) <| .k (eI (ofNat s.nx)) <| .k n0 <| .k (eI (x3 s (ofNat q))) <| .k (eI (pe6 s (ofNat q)).kind) <| .k (eQ (pe6 s (ofNat q)).ext) <| .k (eQ (pe6 s (ofNat q)).same) <| .k (eI (pe6 s (ofNat q)).src) <| .k (eI (pe6 s (ofNat q)).dst) <| .k (eI (pe6 s (ofNat q)).fence) <| .k (eI (ofNat q)) <| .k (eI (ofNat s.nx)) <| .k (eI (x1 s (ofNat q))) <| .k (eI (x2 s (ofNat q))) <| .k (eI (ofNat s.nx)) <| .k n0 <| .k (eI (x3 s (ofNat q))) <| .k (eI (pe6 s (ofNat q)).kind) <| .k (eQ (pe6 s (ofNat q)).ext) <| .k (eQ (pe6 s (ofNat q)).same) <| .k (eI (pe6 s (ofNat q)).src) <| .k (eI (pe6 s (ofNat q)).dst) <| .k (eI (pe6 s (ofNat q)).fence) <| .r 3 (eN h5) <| .r 4 eF <| .r 4 h5 <| .k eF <| .k h5 <| .k eF <| .k (eN hf) <| .r 7 (eN ht) <| .k (eN hl) <| .k hd <| .e (lfb hk)) (by kernel_rfl)
theorem Ajy {s:Sh7} {q u:Nat} {a:Ac} {fe:Int} (hq:q<s.nx) (n0:ieq (ofNat s.nx) 0=false) (hE:Ak (ile 0 (x3 s (ofNat q))) (ilt (x3 s (ofNat q)) (ofNat s.ne))=true) (ht:ieq (s.X q).th (ofNat u)=true) (hl:seq a.lc (BA (s.X q).loc)=true) (h5:ieq (pe6 s (ofNat q)).kind 5=true) (hf:ieq fe (pe6 s (ofNat q)).fence=true) (hd:ieq (s.X q).dir 1=false) (hk:ieq a.k 3=true) (hv:ieq a.v (s.X q).val=true) :
  (Ay (Aj tab (cxA Gl Zn []) Tryz.f32 [E2 s,nV q,nV u,acV a,iV fe] [])).sem=some (bV true,[]) :=
 DW.ok (.k (Ae hq) <| .k n0 <| .k hE <| .k (eI (ofNat q)) <| .k (eI (ofNat s.nx)) <| .k (eI (x1 s (ofNat q))) <| .k (eI (x2 s (ofNat q))) <| .k (eI (ofNat s.nx)) <| .k n0 <| .k (eI (x3 s (ofNat q))) <| .k (eI (pe6 s (ofNat q)).kind) <| .k (eQ (pe6 s (ofNat q)).ext) <| .k (eQ (pe6 s (ofNat q)).same) <| .k (eI (pe6 s (ofNat q)).src) <| .k (eI (pe6 s (ofNat q)).dst) <| .k (eI (pe6 s (ofNat q)).fence) <| .k (eI (ofNat q)) <| .k (eI (ofNat s.nx)) <| .k (eI (x1 s (ofNat q))) <| .k (eI (x2 s (ofNat q))) <| .k (eI (ofNat s.nx)) <| .k n0 <| .k (eI (x3 s (ofNat q))) <| .k (eI (pe6 s (ofNat q)).kind) <| .k (eQ (pe6 s (ofNat q)).ext) <| .k (eQ (pe6 s (ofNat q)).same) <| .k (eI (pe6 s (ofNat q)).src) <| .k (eI (pe6 s (ofNat q)).dst) <| .k (eI (pe6 s (ofNat q)).fence) <| .r 3 (eN h5) <| .r 4 eF <| .r 4 h5 <| .k eF <| .k h5 <| .k eF <| .k (eN hf) <| .r 7 (eN ht) <| .k (eN hl) <| .k hd <| .r 6 hk <| .e (lfb hv)) (by kernel_rfl)
def Ae0:V->Option Ac
 | .agg [.val (.int .i64 a),.str b,.val (.int .i64 c),.val (.int .i64 d),.val (.int .i64 e)]=>some ⟨a,b,c,d,e⟩
 | _=>none
def Ala (v:V):Bool:=match Ae0 v with
 | some _=>true
 | none=>false
def Ad3 (v:V):Ac:=match Ae0 v with
 | some e=>e
 | none=>⟨0,[],0,0,0⟩
theorem Ap3 {v:V} (h:Ala v=true):v=acV (Ad3 v):=by
 unfold Ala at h;cases h2:Ae0 v with
 | none=>rw [h2] at h; cases h
 | some e =>
  unfold Ad3;rw [h2];unfold Ae0 at h2;split at h2
  ·cases h2
   rfl
  ·cases h2
structure EvOK (s:Sh7) (q u:Int) (a:Ac) (fe:Int):Prop where
 hq:∃ k:Nat,q=ofNat k∧k<s.nx
 hu:∃ n:Nat,u=ofNat n
 hE:Ak (ile 0 (x3 s q)) (ilt (x3 s q) (ofNat s.ne))=true
 hf:(ieq (pe6 s q).kind 5=false∧fe=0) ∨ (ieq (pe6 s q).kind 5=true∧fe=(pe6 s q).fence)
 ht:ieq (s.X (toN q)).th u=true
 hl:a.lc=BA (s.X (toN q)).loc
 hd:(ieq (s.X (toN q)).dir 1=true∧a.k=2) ∨ (ieq (s.X (toN q)).dir 1=false∧a.k=3∧a.v=(s.X (toN q)).val)
noncomputable def evT:List V->AA
 | [v,.val (.int .i64 q),.val (.int .i64 u),av,.val (.int .i64 fe)]=>apS v λs=>.br (Ala av) (.br (pB (EvOK s q u (Ad3 av) fe)) (.leaf (bV true,[])) .fail) .fail
 | _=>.fail
theorem p32:As Tryz.prog Gl 32 evT:=by
 refine Am A0 mixed Tryz.func32 (by kernel_rfl) (by kernel_rfl) λvs v h' h=>?_;unfold evT at h;split at h
 ·rename_i sv q u av fe
  obtain ⟨s,a1,h⟩:=apS_some h;obtain ⟨h1,h⟩:=Ad h;obtain ⟨h2,h⟩:=Ad h;cases Aa h;have hx:=Bd AeN [] (G:=Gl);obtain ⟨⟨q,rfl,hq⟩,⟨u,rfl⟩,hE,hf,ht,hl,hd⟩:=Li h2;have n0:ieq (ofNat s.nx) 0=false:=by
   cases h0:s.nx with
   | zero=>omega
   | succ n=>rfl
  have hl:seq (Ad3 av).lc (BA (s.X q).loc)=true:=by rw [hl]; exact eSq _
  refine ⟨[E2 s,nV q,nV u,acV (Ad3 av),iV fe],cxA Gl Zn [],_,λS w cs hc=>?_,rfl,hx.1,hx.2,?_,Aw.refl _⟩
  ·obtain ⟨c,l,rfl,q1,q2⟩:=hc
   rw [Ap3 h1] at q2;exact ⟨c,_,rfl,a1 S w c q1,q2⟩
  ·rcases hf with ⟨h5,hf⟩ | ⟨h5,hf⟩ <;> rcases hd with ⟨hd,hk⟩ | ⟨hd,hk,hv⟩
   ·exact Ajx hq n0 hE ht hl h5 (E8 hf) hd (E8 hk)
   ·exact Ajw hq n0 hE ht hl h5 (E8 hf) hd (E8 hk) (E8 hv)
   ·exact Ajz hq n0 hE ht hl h5 (E8 hf) hd (E8 hk)
   ·exact Ajy hq n0 hE ht hl h5 (E8 hf) hd (E8 hk) (E8 hv)
 ·cases h
end Go.Proofs.YtkbafjceglhjhaaGreatDoor.Er
namespace Go.Proofs.YtkbafjceglhjhaaGreatDoor.Er
open Go.Sy Go Go.Proofs.YtkbafjceglhjhaaGreatDoor.Ed Go.Proofs.YtkbafjceglhjhaaGreatDoor.Sh
open Int (ofNat)
set_option maxRecDepth 100000
set_option maxHeartbeats 1000000
def AgK (e:E6):Bool:=(ieq e.src 1 || ieq e.src 2) && ((!(ieq e.kind 6 || (ieq e.kind 7 || ieq e.kind 8)) || (ieq e.src 1 && !A9 e)) && (!(ieq e.kind 7) || ieq e.dst 2))
theorem Aaj:(List.range 112).all (λk=>AgK (Dw k))=true:=by kernel_rfl
theorem AgJ {e:E6} (h:Bl e=0):AgK e=true:=by
 rcases DY e with ⟨k,hk,_,_,he,_⟩ | ⟨h2,_⟩
 ·rw [<- he]
  exact List.all_eq_true.1 Aaj k (by simpa using hk)
 ·rw [h2] at h
  cases h
theorem before {o:Nat->Bool} {n i:Nat} (hi:i<n) (h:o (n-1)=true):Al o i<Al o n:=by
 have h1:=Ba o (show i <= n-1 by omega);have h2:=Bz h;rw [show n-1+1=n by omega] at h2;omega
def obE (s:Sh7) (k:Nat):Bool:=A9 (s.E k)
structure Gs (s:Sh7):Prop where
 ne:s.ne=s.nx
 lo:2 <= s.nx
 hi:s.nx <= 16
 tt:s.tt=ofNat (Al (obE s) s.nx)
 ok:∀ i,i<s.nx->AgK (s.E i)=true
 meets:∀ i,i<s.nx->(s.E i).dst=(s.E ((i+1) % s.nx)).src
 last:obE s (s.nx-1)=true
 th:∀ i,i<s.nx->(s.X i).th=ofNat (Al (obE s) i)
 pl:∀ i,i<s.nx->(s.X i).pl=ofNat (Al (λk=>ieq (s.X i).th (s.X k).th) i)
 dir:∀ i,i<s.nx->(s.X i).dir=(s.E i).src
theorem Ui {e e':Ev5} (h:I3 e e'=true):e=e':=by
 unfold I3 at h;obtain ⟨h1,h⟩:=AI h;obtain ⟨h2,h⟩:=AI h;obtain ⟨h3,h⟩:=AI h;obtain ⟨h4,h⟩:=AI h;obtain ⟨h5,_⟩:=AI h;obtain ⟨a,b,c,d,f⟩:=e;obtain ⟨a',b',c',d',f'⟩:=e'
 replace h1:=Cg h1
 replace h2:=Cg h2
 replace h3:=Cg h3
 replace h4:=Cg h4
 replace h5:=Cg h5
 simp only at h1 h2 h3 h4 h5;rw [h1,h2,h3,h4,h5]
theorem good {s:Sh7} (h:ieq (FK s) 0=true):Gs s:=by
 have hc:Dl s=true:=by
  cases hc:Dl s with
  | true=>rfl
  | false =>unfold FK at h;rw [hc] at h;cases h
 unfold Dl at hc;obtain ⟨h1,hc⟩:=AI hc;unfold IK at hc;obtain ⟨_,hc⟩:=AI hc;obtain ⟨htt,hc⟩:=AI hc;obtain ⟨_,hc⟩:=AI hc;obtain ⟨hE,hc⟩:=AI hc;obtain ⟨hnx,hc⟩:=AI hc;obtain ⟨_,hc⟩:=AI hc;obtain ⟨_,hX⟩:=AI hc;have hy:=Bt h1;have hG:=EF hy;have hl:=Abd hy;have hnx:s.nx=s.ne:=Int.ofNat.inj (Cg hnx);have hE:∀ i,i<s.ne->s.E i=shG s.ne s.E i:=(IN.1 hE).2;have hX:∀ i,i<s.nx->s.X i=evF s.ne (shG s.ne s.E) (λ_=>true) i:=λi hi=>Ui (AO.1 hX i hi);have hob:∀ k,k <= s.ne->Al (obE s) k=Al (obF (shG s.ne s.E)) k:=λk hk=>CE k λi hi=>by
  unfold obE;rw [hE i (by omega)];rfl
 have hth:∀ i,i<s.nx->(s.X i).th=ofNat (Al (obE s) i):=λi hi=>by
  rw [hX i hi,Db (by omega),hob i (by omega)];show A8 (obF (shG s.ne s.E)) s.ne i=_;rw [FZ (by omega)];unfold Bg;rw [if_neg (by have:=before (show i<s.ne by omega) hl; omega)]
 refine ⟨hnx.symm,by rw [hnx]; exact hy.lo,by rw [hnx]; exact hy.hi,?_,λi hi=>?_,λi hi=>?_,?_,hth,λi hi=>?_,λi hi=>?_⟩
 ·rw [hnx,hob _ (Nat.le_refl _)]
  exact Cg htt
 ·rw [hE i (by omega)]
  exact AgJ (F2.1 hG.may i (by omega))
 ·have hlo:=hy.lo
  have:=hG.meets i (by omega);unfold GK AV at this;rw [hnx,hE i (by omega),hE ((i+1) % s.ne) (Nat.mod_lt _ (by omega))];exact Cg (by simpa using this)
 ·rw [hnx]
  unfold obE;have:=hy.lo;rw [hE _ (by omega)];exact hl
 ·have e1:=hX i hi
  rw [e1,Db (by omega)];show ofNat (plF s.ne (shG s.ne s.E) i)=_;unfold plF;congr 1;refine CE i λk hk=>?_;rw [hX k (by omega),Db (by omega)]
 ·rw [hX i hi,Db (by omega),hE i (by omega)]
section
variable {s:Sh7} (hg:Gs s) {i:Nat}
def tN (s:Sh7) (i:Nat):Nat:=Al (obE s) i
include hg
theorem Ae2 (hi:i<s.nx):(toN (s.X i).th)=tN s i:=by rw [hg.th i hi]; rfl
theorem Ah2 (hi:i<s.nx):tN s i<toN s.tt:=by
 rw [hg.tt];exact before hi hg.last
theorem AkT (h0:i=0 ∨ obE s (i-1)=true) (hi:i<s.nx):ilt 0 (s.X i).pl=false:=by
 rw [hg.pl i hi];have:Al (λk=>ieq (s.X i).th (s.X k).th) i=0:=by
  rcases h0 with rfl | h0
  ·rfl
  ·have hb:∀ k,k<i->(λk=>ieq (s.X i).th (s.X k).th) k=(λ_=>false) k:=λk hk=>by
    have h1:=Ba (obE s) (show k <= i-1 by omega);have h2:=Bz h0;rw [show i-1+1=i by omega] at h2;simp only [hg.th i hi,hg.th k (by omega)];simp [ieq];omega
   rw [CE (p:=λ_=>false) i hb];clear hb hi h0
   induction i with
   | zero=>rfl
   | succ i ih=>rw [BL rfl,ih]
 rw [this];rfl
theorem Aqj (h0:0<i) (h:obE s (i-1)=false) (hi:i<s.nx):ilt 0 (s.X i).pl=true:=by
 rw [hg.pl i hi];have h2:=BL h;rw [show i-1+1=i by omega] at h2;have h3:=Bz (p:=λk=>ieq (s.X i).th (s.X k).th) (i:=i-1) (by
  simp only [hg.th i hi,hg.th (i-1) (by omega),h2];exact eI _)
 rw [show i-1+1=i by omega] at h3;rw [h3];exact decide_eq_true (by show (0:Int)<((_+1:Nat):Int); omega)
theorem NR:plB s=true:=by
 have htt:toN s.tt=Al (obE s) s.nx:=by rw [hg.tt]; rfl
 have h1:=BI (obE s) s.nx;have h2:=hg.hi;unfold plB;simp only [Bool.and_eq_true];refine ⟨Nat.ble_eq_true_of_le h2,Nat.ble_eq_true_of_le (by omega),?_,AO.2 λi hi=>?_⟩
 ·rw [htt,hg.tt]
  exact eI _
 ·rw [hg.th i hi]
  exact Ae (Ah2 hg hi)
theorem Ag6:cdB s=true:=by
 unfold cdB;rw [NR hg,bTA];refine AO.2 λi hi=>?_;by_cases h0:i=0
 ·rw [AkT hg (.inl h0) hi]
  rfl
 ·have:Ak (Nat.blt 0 i) (Nat.ble i s.ne)=true:=by
   have:=hg.ne;exact (EA (Nat.ble_eq_true_of_le (show 0<i by omega))).trans (Nat.ble_eq_true_of_le (by omega))
  rw [this];exact Bool.or_true _
def pvN (s:Sh7) (i:Nat):Nat:=(i+s.nx-1) % s.nx
theorem Xy (hi:i<s.nx):x3 s (ofNat i)=ofNat (pvN s i):=by
 have h1:=hg.hi;have h2:=hg.lo;unfold x3 x2 x1 pvN;rw [show Ai (ofNat i) (ofNat s.nx)=ofNat (i+s.nx) from rfl,IB (by omega),show By (ofNat (i+s.nx)) 1=ofNat (i+s.nx-1) from by unfold By; simp; omega,IB (by omega)];rfl
theorem AhH:pvN s i<s.nx:=Nat.mod_lt _ (by have:=hg.lo; omega)
omit hg in
theorem Ab9 (h0:0<i) (hi:i<s.nx):pvN s i=i-1:=by
 unfold pvN;rw [show i+s.nx-1=i-1+s.nx by omega,Nat.add_mod_right,Nat.mod_eq_of_lt (by omega)]
theorem AhK (hi:i<s.nx):pe6 s (ofNat i)=s.E (pvN s i):=by
 unfold pe6;rw [Xy hg hi];rfl
theorem AoM (hi:i<s.nx) (c m b:Int):Gd6 s ⟨c,m,b,ofNat i⟩:=by
 have h1:=AhH hg (i:=i);refine ⟨?_,?_,?_,?_,?_⟩
 ·have:=hg.lo
  simp [ieq];omega
 ·exact decide_eq_false (by show ¬ ((s.nx:Int) <= (i:Int)); omega)
 ·show Ak (ile 0 (x3 s (ofNat i))) (ilt (x3 s (ofNat i)) (ofNat s.ne))=true
  rw [Xy hg hi,hg.ne];exact Ae h1
 ·show Ak (ile 0 (x3 s (ofNat i))) (ilt (x3 s (ofNat i)) (ofNat s.nx))=true
  rw [Xy hg hi];exact Ae h1
 ·show nlt (toN (x3 s (ofNat i))) s.nx=true
  rw [Xy hg hi];exact decide_eq_true h1
theorem AjU (h0:0<i) (hi:i<s.nx):wr .i64 (By (ofNat i) 1)=ofNat (i-1):=by
 have:=hg.hi;obtain ⟨k,rfl⟩:∃ k,i=k+1:=⟨i-1,by omega⟩;rw [show By (ofNat (k+1)) 1=ofNat k from by unfold By; simp];exact IB (by omega)
theorem Apd (h0:0<i) (hi:i<s.nx):ed9 s i=pe6 s (ofNat i):=by
 rw [AhK hg hi,Ab9 h0 hi];unfold ed9;rw [AjU hg h0 hi];rfl
end
end Go.Proofs.YtkbafjceglhjhaaGreatDoor.Er
namespace Go.Proofs.YtkbafjceglhjhaaGreatDoor.Er
open Go.Sy Go Go.Proofs.YtkbafjceglhjhaaGreatDoor.Ed Go.Proofs.YtkbafjceglhjhaaGreatDoor.Sh
open Int (ofNat)
set_option maxRecDepth 100000
set_option maxHeartbeats 1000000
structure Nt where
 th:Int
 rg:Int
 nm:List UInt8
def ntV (e:Nt):V:=.agg [iV e.th,iV e.rg,.str [],.str e.nm,iV 0]
def zT:Nt:=⟨0,0,[]⟩
def M9 (l:List Nt) (k:Nat):Nt:=l.getD k zT
def Dz (l:List Nt):Nat:=l.length
def IV (l:List Nt):Nat->V:=λk=>ntV (M9 l k)
theorem ZF (l:List Nt) (x:Nt):AX (Dz l) (IV l) (ntV x)=IV (l++[x]):=by
 funext k;rw [BK];unfold IV M9 Dz;cases hk:Nat.beq k l.length with
 | true =>have hk:=Nat.eq_of_beq_eq_true hk;subst hk;simp
 | false =>
  have hk:=Nat.ne_of_beq_eq_false hk;simp only [cond_false,List.getD_eq_getElem?_getD,List.getElem?_append];split
  ·rfl
  ·rename_i h
   rw [List.getElem?_eq_none (by omega),List.getElem?_eq_none (by simp; omega)]
section
variable (s:Sh7)
def ntI (t j:Nat):Nt:=⟨ofNat t,ofNat (7+j),BA (Ew (locL s s.nx t) j)⟩
def inT (t k:Nat):List Nt:=(List.range k).map (ntI s t)
def inL:Nat->List Nt
 | 0=>[]
 | t+1=>inL t++inT s t (B5 (locL s s.nx t))
def ntL (t k:Nat):List Nt:=inL s t++inT s t k
theorem AbV (t k:Nat):ntL s t (k+1)=ntL s t k++[ntI s t k]:=by
 unfold ntL inT;rw [List.range_succ,List.map_append,List.append_assoc];rfl
theorem Aoa (t:Nat):ntL s t 0=inL s t:=by
 unfold ntL inT;simp
theorem SK:∀ t,(inL s t).length <= t * s.nx
 | 0=>Nat.zero_le _
 | t+1=>by
  have:=SK t;have:=GV (s:=s) t s.nx;unfold B5 at this;rw [inL,List.length_append];unfold inT B5;rw [List.length_map,List.length_range,Nat.succ_mul];omega
def YV (t:Nat) (c:Int) (n:Nat) (g:Nat->V):St:=⟨jsV 50 0 Ab [(1,.ptr 0 0),(5,.ref 2),(6,nV t),(18,.jref 3),(19,iV (ofNat (toN s.tt))),(20,nV t),(26,.mref 3 t),(27,iV (ofNat (B5 (locL s s.nx t)))),(28,iV c)],[.cells [iV s.arch,.sl 6 s.ne (λi=>eV (s.E i)),.sl 5 s.nx (λi=>evV (s.X i)),iV s.tt,iV s.kk,.sl 1 s.nr (λi=>iV (s.R i)),.sl 1 s.nc (λu=>.sl 1 (s.C u).1 (λi=>iV ((s.C u).2 i)))],.row 68 5 0 Ab,.row 68 5 n g,Kg s,.cells [.mref 3 t,.mmap 3 t]]⟩
def RE (t:Nat) (c:Int) (_:Unit):St:=YV s t c (Dz (ntL s t (toN c))) (IV (ntL s t (toN c)))
def Pw (t:Nat):Ex×St:=(.ex 2,⟨jsV 50 0 Ab [(1,.ptr 0 0),(5,.ref 2),(18,.jref 3),(19,iV (ofNat (toN s.tt))),(20,nV t)],[.cells [iV s.arch,.sl 6 s.ne (λi=>eV (s.E i)),.sl 5 s.nx (λi=>evV (s.X i)),iV s.tt,iV s.kk,.sl 1 s.nr (λi=>iV (s.R i)),.sl 1 s.nc (λu=>.sl 1 (s.C u).1 (λi=>iV ((s.C u).2 i)))],.row 68 5 0 Ab,.row 68 5 (Dz (inL s (t+1))) (IV (inL s (t+1))),Kg s]⟩)
def T13 (c:Int) (l:List Nt):St:=⟨jsV 50 0 Ab [(1,.ptr 0 0),(5,.ref 2),(18,.jref 3),(19,iV (ofNat (toN s.tt))),(20,iV c)],[.cells [iV s.arch,.sl 6 s.ne (λi=>eV (s.E i)),.sl 5 s.nx (λi=>evV (s.X i)),iV s.tt,iV s.kk,.sl 1 s.nr (λi=>iV (s.R i)),.sl 1 s.nc (λu=>.sl 1 (s.C u).1 (λi=>iV ((s.C u).2 i)))],.row 68 5 0 Ab,.row 68 5 (Dz l) (IV l),Kg s]⟩
def S13 (c:Int) (_:Unit):St:=T13 s c (inL s (toN c))
def AgD:Ex×St:=(.ex 0,⟨jsV 50 0 Ab [(5,.ref 2)],[.cells [iV s.arch,.sl 6 s.ne (λi=>eV (s.E i)),.sl 5 s.nx (λi=>evV (s.X i)),iV s.tt,iV s.kk,.sl 1 s.nr (λi=>iV (s.R i)),.sl 1 s.nc (λu=>.sl 1 (s.C u).1 (λi=>iV ((s.C u).2 i)))],.row 68 5 0 Ab,.row 68 5 (Dz (inL s (toN s.tt))) (IV (inL s (toN s.tt))),Kg s]⟩)
def g13 (_:Nat) (_:Unit):T (Unit ⊕ (Ex×St)):=.leaf (.inl ())
end
noncomputable def AjQ:AE:=(33,shT TL)::(34,shT O5)::(39,ZL)::[]
theorem AeV:Ar Tryz.prog Gl AjQ:=.cons p33 <| .cons p34 <| .cons p37 .nil
def Aow:Lp:=⟨bmK 50 0 [1,5,18,19,20],4,bmK 50 0 [5],4,4611686018427387905⟩
def W9:Lp:=⟨bmK 50 0 [1,5,6,18,19,20,26,27,28],5,bmK 50 0 [1,5,18,19,20],4,4611686018427387905⟩
noncomputable def B13 (id:Nat) (L:LT):St->T (Ex×St):=λst=>AK tab ⟨A2 AjQ,L,Gl⟩ (A3 Tryz.f13 id) id st
theorem XP {s:Sh7} (hF:plB s=true) (t:Nat):B5 (locL s s.nx t) <= 16:=by
 have:=GV (s:=s) t s.nx;have:=(BO hF).1;omega
theorem Arb {s:Sh7} (hF:plB s=true) {t i:Nat} (ht:t<toN s.tt) (hi:i<B5 (locL s s.nx t)):C4 (Dz (ntL s t i)) 1 56=true:=decide_eq_true (by
 have h1:=SK s t;have h2:=XP hF t;have h3:=(BO hF).1;have h4:=(BO hF).2.1;have h5:t * s.nx <= 16 * 16:=Nat.mul_le_mul (by omega) h3;unfold Dz ntL inT;rw [List.length_append,List.length_map,List.length_range];omega)
theorem AqB {s:Sh7} (hF:plB s=true) {t i:Nat} (hi:i<B5 (locL s s.nx t)):(Ex.nm,YV s t (wr .i64 (Ai (ofNat i) 1)) (BC (Dz (ntL s t i)) 1) (AX (Dz (ntL s t i)) (IV (ntL s t i)) (.agg [nV t,iV (wr .i64 (Ai 7 (ofNat i))),.str [],.str (BA (Ew (locL s s.nx t) i)),iV 0])))=(Ex.nm,RE s t (wr .i64 (Ai (ofNat i) 1)) ()):=by
 have h16:=XP hF t;unfold RE;rw [CU hi (by omega),show toN (ofNat (i+1))=i+1 from rfl,AbV,show wr .i64 (Ai 7 (ofNat i))=ofNat (7+i) from IB (k:=7+i) (by omega),<- ZF];show _=(Ex.nm,YV s t (ofNat (i+1)) (Dz (ntL s t i++[ntI s t i])) (AX (Dz (ntL s t i)) (IV (ntL s t i)) (ntV (ntI s t i))));rw [show Dz (ntL s t i++[ntI s t i])=BC (Dz (ntL s t i)) 1 from by unfold Dz BC; simp];rfl
theorem AnJ (L:LT) {s:Sh7} (hF:plB s=true) {t:Nat} (ht:t<toN s.tt):(A4 (B13 2 L) W9 4611686018427387905 (YV s t 0 (Dz (inL s t)) (IV (inL s t)))).sem=some (Pw s t):=by
 have h:(A4 (B13 2 L) W9 4611686018427387905 (RE s t 0 ())).sem=some (Pw s t) :=
  AW (R:=exR) BG (S:=λc a _=>RE s t c a) (j:=λ_=>.und) (g:=g13) (fin:=λ_=>Pw s t) (e:=Pw s t) (n:=B5 (locL s s.nx t)) (by have:=XP hF t; omega)
   (λi a j r hi he=>DK.ok (L:=goR (λc a _=>RE s t c a) exR i) (.k (ofNat_lt hi) <| .k eT <| .k (Ae hi) <| .k eT <| .k (show nlt i (B5 (locL s s.nx t))=true from decide_eq_true hi) <| .k (Arb hF ht hi) <| .e (AqB hF hi)) (by kernel_rfl) he)
   (λa j=>DK.ok (C:=.leaf (Pw s t)) (L:=exR) (.k (Az (Nat.le_refl (B5 (locL s s.nx t)))) .l) (by kernel_rfl) rfl) (Nat.zero_add _).symm (by have:=XP hF t; omega)
   (Cv (acc:=λ_=>()) (λ_ _=>rfl) _ _ (Nat.zero_add _))
 unfold RE at h;rw [show toN 0=0 from rfl,Aoa] at h;exact h
def AfP:List (Nat×Lp×List (Nat×(Nat->V))):=[(0,Aow,[(2,λ_=>ntV zT)]),(2,W9,[])]
theorem r13 {s:Sh7} (hF:plB s=true):(A4 (B13 0 (Go.Sy.askL AfP)) Aow 4611686018427387905 (S13 s 0 ())).sem=some (AgD s) :=
 AW (R:=exR) BG (S:=λc a _=>S13 s c a) (j:=λ_=>.und) (g:=g13) (fin:=λ_=>AgD s) (e:=AgD s) (n:=toN s.tt) (by have:=(BO hF).2.1; omega)
  (λi a j r hi he=>DK.ok (L:=goR (λc a _=>S13 s c a) exR i) (.k (ofNat_lt hi) <| .k (Ae hi) <| .k (show nlt i (toN s.tt)=true from decide_eq_true hi) <| .r 2 eT <| .a (AnJ (Go.Sy.askL AfP) hF hi) <|
   .e (show (Ex.nm,T13 s (wr .i64 (Ai (ofNat i) 1)) (inL s (i+1)))=(Ex.nm,S13 s (wr .i64 (Ai (ofNat i) 1)) ()) from by unfold S13; rw [CU hi (by have:=(BO hF).2.1; omega)]; rfl)) (by kernel_rfl) he)
  (λa j=>DK.ok (C:=.leaf (AgD s)) (L:=exR) (.k (Az (Nat.le_refl (toN s.tt))) .l) (by kernel_rfl) rfl) (Nat.zero_add _).symm (by have:=(BO hF).2.1; omega)
  (Cv (acc:=λ_=>()) (λ_ _=>rfl) _ _ (Nat.zero_add _))
def AcW (s:Sh7):AA:=.br (Dg s.ne) (.br (Ak (Au s.ne) (Ak (Au s.nx) (Ak (Au s.nr) (Ak (Au s.nc) (Bo s.nc (λi=>Au (s.C i).1)))))) (.br (ieq (FK s) 0) (.br (plB s) (.leaf (.tup [.ref 0,iV 0],[.row 68 5 (Dz (inL s (toN s.tt))) (IV (inL s (toN s.tt)))])) .fail) (.leaf (.tup [.ref 0,iV (FK s)],[.row 68 5 0 λ_=>.und]))) .fail) .fail
theorem p13:As Tryz.prog Gl 13 (shT AcW):=QK Tryz.func13 (by kernel_rfl) (by kernel_rfl) (Γ:=λ_=>cxA Gl AjQ AfP) (λ_=>rfl) (λ_=>Bd AeV AfP)
 λs r h=>DK.of h (.k (eL s.ne) <| .k (eL s.nx) <| .k (eL s.nr) <| .k (eL2 s.nc s.C) <| .g λh1=>.k h1 <| .g λh2=>.k h2 <| .c (λh3=>.g λhF=>.k (eN h3) <| .k (eL s.ne) <| .k (eL s.nx) <| .k (eL s.nr) <| .k (eL2 s.nc s.C) <| .k hF <| .a (r13 hF) <| .l) λh3=>.k (eN h3) <| .l) (by kernel_rfl)
end Go.Proofs.YtkbafjceglhjhaaGreatDoor.Er
namespace Go.Proofs.YtkbafjceglhjhaaGreatDoor.Ed
open Go.Sy Go.Shelf Go.Proofs Go.RowKit
def Yl:Go.Shelf.Ren:=⟨λ| 156=>75 | 165=>116 | 166=>117 | 169=>118 | 240=>161 | 241=>162 | 276=>188 | 277=>189 | n=>n,λ| 31=>140 | 9=>9 | 3=>3 | 4=>4 | 0=>0 | 20=>20 | 72=>169 | 76=>173 | 70=>166 | 37=>167 | 75=>172 | 127=>201 | 164=>212 | 5=>5 | 80=>154 | n=>n,λ| n=>n⟩
theorem UI:Go.Proofs.Lays.n156 Tryz.prog Yl:={
 mixed:=by kernel_rfl
 f156:=Tryz.func75.trans (congrArg some (by kernel_rfl))
 f165:=Tryz.func116.trans (congrArg some (by kernel_rfl))
 f166:=Tryz.func117.trans (congrArg some (by kernel_rfl))
 f169:=Tryz.func118.trans (congrArg some (by kernel_rfl))
 f240:=Tryz.func161.trans (congrArg some (by kernel_rfl))
 f241:=Tryz.func162.trans (congrArg some (by kernel_rfl))
 f276:=Tryz.func188.trans (congrArg some (by kernel_rfl))
 f277:=Tryz.func189.trans (congrArg some (by kernel_rfl))
 t0:=Tryz.underlying0
 a0:=Tryz.isAgg0
 z0:=Tryz.sizeOf0
 v0:=Tryz.zeroValue0
 t3:=Tryz.underlying3
 a3:=Tryz.isAgg3
 z3:=Tryz.sizeOf3
 v3:=Tryz.zeroValue3
 t4:=Tryz.underlying4
 a4:=Tryz.isAgg4
 z4:=Tryz.sizeOf4
 v4:=Tryz.zeroValue4
 t9:=Tryz.underlying9
 a9:=Tryz.isAgg9
 z9:=Tryz.sizeOf9
 v9:=Tryz.zeroValue9
 t20:=Tryz.underlying20
 a20:=Tryz.isAgg20
 z20:=Tryz.sizeOf20
 v20:=Tryz.zeroValue20
 t31:=Tryz.underlying140
 a31:=Tryz.isAgg140
 z31:=Tryz.sizeOf140
 v31:=Tryz.zeroValue140
 t37:=Tryz.underlying167
 a37:=Tryz.isAgg167
 z37:=Tryz.sizeOf167
 v37:=Tryz.zeroValue167
 t70:=Tryz.underlying166
 a70:=Tryz.isAgg166
 z70:=Tryz.sizeOf166
 v70:=Tryz.zeroValue166
 t72:=Tryz.underlying169
 a72:=Tryz.isAgg169
 z72:=Tryz.sizeOf169
 v72:=Tryz.zeroValue169
 t75:=Tryz.underlying172
 a75:=Tryz.isAgg172
 z75:=Tryz.sizeOf172
 v75:=Tryz.zeroValue172
 t76:=Tryz.underlying173
 a76:=Tryz.isAgg173
 z76:=Tryz.sizeOf173
 v76:=Tryz.zeroValue173
 t127:=Tryz.underlying201
 a127:=Tryz.isAgg201
 z127:=Tryz.sizeOf201
 v127:=Tryz.zeroValue201
 t164:=Tryz.underlying212
 a164:=Tryz.isAgg212
 z164:=Tryz.sizeOf212
 v164:=Tryz.zeroValue212 }
theorem Rf:Builder.Extra Tryz.prog Yl:={
 sizeBuilder:=by kernel_rfl
 liesBuilder:=by kernel_rfl
 t5:=Tryz.underlying5
 a5:=Tryz.isAgg5
 z5:=Tryz.sizeOf5
 v5:=Tryz.zeroValue5
 infoByte:=by kernel_rfl
 cellsByte:=by kernel_rfl
 sizeByte:=by kernel_rfl
 neB5:=by decide }
open Go.RowKit in
theorem strings_Join_none (a:Option Addr) (c:Nat) (sep:ByteArray) (w:World) :
  Calls Tryz.prog 75 #[.slice a 0 c,.string sep] w λe w'=>e = .returned (.string ⟨#[]⟩)∧w'=w:=Any.strings_Join_none UI Rf a c sep w
open Go.RowKit in
theorem strings_Join (bk o c:Nat) (xs:List ByteArray) (sep:ByteArray) (w:World) (hcells:∀ (j:Nat) x,xs[j]? = some x->w.cell? ⟨bk,o+j,none⟩=some (.string x)) (hbk:bk<w.heap.size) (hN:xs.length <= 140737488355328) (hcap:xs.length <= c) (hlen:(Lib.join (xs.map (·.data.toList)) sep.data.toList).length <= 140737488355328) :
  Calls Tryz.prog 75 #[.slice (some ⟨bk,o,none⟩) xs.length c,.string sep] w λe w'=>e = .returned (.string ⟨(Lib.join (xs.map (·.data.toList)) sep.data.toList).toArray⟩)∧Below w.heap.size w w':=Any.strings_Join UI Rf bk o c xs sep w hcells hbk hN hcap hlen
def okS (v:V):Bool:=match gS v with
 | some _=>true
 | none=>false
def edS (v:V):List UInt8:=match gS v with
 | some e=>e
 | none=>[]
theorem AbQ {v:V} (h:okS v=true):v = .str (edS v):=by
 unfold okS at h;unfold edS;split at h
 ·rename_i e he
  exact Y2 he
 ·cases h
def AmS (n:Nat) (f:Nat->List UInt8):V:=.sl 1 n λi=>.str (f i)
def apS {α:Type} (v:V) (F:Nat->(Nat->List UInt8)->T α):T α :=
 match ZZ v with
 | some (n,g)=>.br (Bo n λi=>okS (g i)) (F n λi=>edS (g i)) .fail
 | none=>.fail
theorem apS_some {α:Type} {v:V} {F:Nat->(Nat->List UInt8)->T α} {r:α} (h:(apS v F).sem=some r) :
  ∃ n f,(∀ (S:Nat->Prop) (w:World) (c:Value),VR S w v noK c->VR S w (AmS n f) noK c)∧(F n f).sem=some r:=by
 unfold apS at h;split at h
 ·rename_i n g hg
  obtain ⟨h1,h2⟩:=Ad h;have h1:=AO.1 h1;refine ⟨n,_,λS w c hv=>?_,h2⟩;unfold ZZ at hg;split at hg
  ·rename_i s n' g'
   split at hg
   ·rename_i hs
    simp only [Option.some.injEq,Prod.mk.injEq] at hg;obtain ⟨rfl,rfl⟩:=hg;have hs:s=1:=Nat.eq_of_beq_eq_true hs;subst hs;obtain ⟨a,cap,e,hc,hb⟩:=hv;refine ⟨a,cap,e,hc,hb.imp id ?_⟩
    rintro ⟨b,o,ea,hel⟩
    refine ⟨b,o,ea,λi hi=>?_⟩;have:=hel i hi;rw [AbQ (h1 i hi)] at this;exact this
   ·cases hg
  ·cases hg
 ·cases h
def Ym (n:Nat) (g:Nat->List UInt8) (sep:List UInt8):List UInt8:=Lib.join ((List.range n).map g) sep
def AcM (n:Nat) (g:Nat->List UInt8) (sep:List UInt8):Bool:=decide (n <= 140737488355328) && decide ((Ym n g sep).length <= 140737488355328)
def AcL:List V->AA
 | [v,.str sep]=>apS v λn g=>.br (AcM n g sep) (out (.str (Ym n g sep))) .fail
 | _=>.fail
theorem Aac {S:Nat->Prop} {w w':World} (h:Below w.heap.size w w'):Ext noK S [] w noK S [] w' :=
 Ext.ofNil h.os h.tape h.output h.size (λb hb _=>h.block b hb) (λi b hb=>absurd hb (DL _ _ _)) (λ_ hb=>.inl hb) (λ_ hb=>hb) λ_ _ hb=>by simp at hb
theorem Aqz:As Tryz.prog Gl 75 AcL:=by
 refine ⟨⟨Tryz.f75,Tryz.func75,by decide,by kernel_rfl⟩,λvs cs S w v h' hS hE hv he=>?_⟩;unfold AcL at he;split at he
 ·rename_i u sep
  obtain ⟨n,g,ha,h1⟩:=apS_some he;obtain ⟨hk,hq⟩:=Ad h1;have:=Aa hq;simp only [Prod.mk.injEq] at this;obtain ⟨rfl,rfl⟩:=this;simp only [AcM,Bool.and_eq_true,decide_eq_true_eq] at hk;obtain ⟨hn,hlen⟩:=hk;obtain ⟨c,l,rfl,q1,c2,l2,rfl,q2,q3⟩:=hv;have q3:l2=[]:=q3;subst q3;have q2:c2 = .string ⟨sep.toArray⟩:=q2;subst q2;obtain ⟨a,cap,rfl,hcap,hel⟩:=ha S w c q1;refine ⟨λi b hb=>by simp at hb,?_⟩;cases n with
  | zero =>
   refine (strings_Join_none a cap ⟨sep.toArray⟩ w).mono ?_
   rintro e w' ⟨he,rfl⟩
   exact ⟨_,noK,S,he,Good.empty hS,rfl,Ext.refl _ _ _ _⟩
  | succ m =>
   rcases hel with h0 | ⟨b,o,rfl,hel⟩
   ·cases h0
   ·have hl:((List.range (m+1)).map λi=>(⟨(g i).toArray⟩:ByteArray)).length=m+1:=by simp
    have hd:((List.range (m+1)).map λi=>(⟨(g i).toArray⟩:ByteArray)).map (·.data.toList)=(List.range (m+1)).map g:=by
     rw [List.map_map];apply List.map_congr_left;intro i _;simp
    have hcell:∀ j,j<m+1->S b∧w.cell? ⟨b,o+j,none⟩=some (.string ⟨(g j).toArray⟩):=λj hj=>by
     obtain ⟨ci,r1,_,_,r4⟩:=hel j hj;have r1:ci = .string ⟨(g j).toArray⟩:=r1;subst r1;have:=r4 0 (.string ⟨(g j).toArray⟩) rfl;rw [Nat.mul_one,Nat.add_zero] at this;exact this
    have hJ:=strings_Join b o cap ((List.range (m+1)).map λi=>(⟨(g i).toArray⟩:ByteArray)) ⟨sep.toArray⟩ w (λj x hx=>by
     rw [List.getElem?_map] at hx;rcases Nat.lt_or_ge j (m+1) with hj | hj
     ·rw [List.getElem?_range hj] at hx
      simp at hx;rw [<- hx];exact (hcell j hj).2
     ·rw [List.getElem?_eq_none (by simpa using hj)] at hx
      cases hx) (hS b (hcell 0 (Nat.succ_pos m)).1) (by rw [hl]; exact hn) (by rw [hl]; exact hcap) (by rw [hd]; simpa [Ym] using hlen)
    rw [hl,hd] at hJ;refine hJ.mono ?_
    rintro e w' ⟨he,hb⟩
    refine ⟨_,noK,S,he,Good.empty (λk hk=>Nat.lt_of_lt_of_le (hS k hk) hb.size),?_,Aac hb⟩;show _=_;simp [Ym]
 ·cases he
end Go.Proofs.YtkbafjceglhjhaaGreatDoor.Ed
namespace Go.Proofs.YtkbafjceglhjhaaGreatDoor.Er
open Go.Sy Go Go.Proofs.YtkbafjceglhjhaaGreatDoor.Ed Go.Proofs.YtkbafjceglhjhaaGreatDoor.Sh
set_option maxRecDepth 100000
set_option maxHeartbeats 1000000
noncomputable def AmH:AE:=(9,shT Xl)::(11,shT rgC)::(33,shT TL)::(34,shT O5)::(60,K9)::(48,KB)::(74,Cc Nk)::(75,AcL)::(106,Oj OD)::(68,Sh.ofT)::[]
theorem Ae3:Ar Tryz.prog Gl AmH:=.cons p9 <| .cons p11 <| .cons p33 <| .cons p34 <| .cons p25 <| .cons p65 <| .cons p26 <| .cons Aqz <| .cons p22 <| .cons p15 .nil
noncomputable def lW:List (Nat×Func):=[(26,Tryz.f26),(13,Tryz.f13),(47,Tryz.f47),(46,Tryz.f46),(69,Tryz.f69),(70,Tryz.f70),(71,Tryz.f71),(112,Tryz.f112),(113,Tryz.f113),(158,Tryz.f158),(159,Tryz.f159),(186,Tryz.f186),(187,Tryz.f187),(39,Tryz.f39),(45,Tryz.f45),(49,Tryz.f49),(67,Tryz.f67),(105,Tryz.f105)]
theorem Ao7:AllBody Tryz.prog lW:=.cons Tryz.func26 (by kernel_rfl) <| .cons Tryz.func13 (by kernel_rfl) <| .cons Tryz.func47 (by kernel_rfl) <| .cons Tryz.func46 (by kernel_rfl) <| .cons Tryz.func69 (by kernel_rfl) <| .cons Tryz.func70 (by kernel_rfl) <| .cons Tryz.func71 (by kernel_rfl) <| .cons Tryz.func112 (by kernel_rfl) <| .cons Tryz.func113 (by kernel_rfl) <| .cons Tryz.func158 (by kernel_rfl) <| .cons Tryz.func159 (by kernel_rfl) <| .cons Tryz.func186 (by kernel_rfl) <| .cons Tryz.func187 (by kernel_rfl) <| .cons Tryz.func39 (by kernel_rfl) <| .cons Tryz.func45 (by kernel_rfl) <| .cons Tryz.func49 (by kernel_rfl) <| .cons Tryz.func67 (by kernel_rfl) <| .cons Tryz.func105 (by kernel_rfl) .nil
noncomputable def tbW:AE:=Jm tab Gl AmH lW
theorem AaK:Ar Tryz.prog Gl tbW:=MN A0 mixed Ae3 Ao7
theorem AqX:(Ay (Aj tab (cxC Gl tbW) Tryz.f25 [] [])).sem=some (bV true,[]):=by kernel_rfl
theorem p18:As Tryz.prog Gl 25 AbL:=by
 refine Am A0 mixed Tryz.func25 (by kernel_rfl) (by kernel_rfl) λvs v h' h=>?_;unfold AbL at h;split at h
 ·have:=Aa h
  simp only [Prod.mk.injEq] at this;obtain ⟨rfl,rfl⟩:=this;exact ⟨[],cxC Gl tbW,[],Bw.refl _,rfl,(P9 AaK).1,(P9 AaK).2,AqX,Aw.refl _⟩
 ·cases h
end Go.Proofs.YtkbafjceglhjhaaGreatDoor.Er
namespace Go.Proofs.YtkbafjceglhjhaaGreatDoor.Er
open Go.Sy Go Go.Proofs.YtkbafjceglhjhaaGreatDoor.Ed Go.Proofs.YtkbafjceglhjhaaGreatDoor.Sh
set_option maxRecDepth 100000
set_option maxHeartbeats 1000000
section
variable (s:Sh7) (u:Nat)
def g5 (_:Nat) (_:Unit):T (Unit ⊕ (Ex×St)):=.leaf (.inl ())
end
noncomputable def tb5:AE:=(9,shT Xl)::(11,shT rgC)::(13,shT AcW)::(10,shT rcC)::(29,lkT)::(30,AaB)::(25,AbL)::[]
theorem tb5_ok:Ar Tryz.prog Gl tb5:=.cons p9 <| .cons p11 <| .cons p13 <| .cons p10 <| .cons p29 <| .cons p30 <| .cons p18 .nil
end Go.Proofs.YtkbafjceglhjhaaGreatDoor.Er
