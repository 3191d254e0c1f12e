/-
  Layer 11: the law EmitrRuns, the walk: one instruction a round. No conditions.
-/
import Derived.Test.YtkbafjceglhjhaaGreatDoorErM
namespace Go.Proofs.YtkbafjceglhjhaaGreatDoor.Er
open Go.Sy Go Go.Proofs.YtkbafjceglhjhaaGreatDoor.Ed Go.Proofs.YtkbafjceglhjhaaGreatDoor.Sh
open Int (ofNat)
set_option maxRecDepth 100000
set_option maxHeartbeats 1000000
structure A7 where
 q:Int
 fe:Int
 r:Nat->Vl
section
variable (s:Sh7) (nt:Nat) (td:Nat->Int)
def MQ (u:Nat) (c:Int) (a:A7):St:=⟨jsV 202 0 Ab [(1,.sl 1 nt (λi=>iV (td i))),(2,.ptr 0 0),(5,.jref 1),(7,.ref 2),(11,iV a.q),(12,nV u),(13,.ptr 4 0),(15,iV a.fe)],[.cells [iV s.arch,.sl 6 s.ne (λi=>eV (s.E i)),.sl 5 s.nx (λi=>evV (s.X i)),iV s.tt,iV s.kk,.sl 1 s.nr (λi=>iV (s.R i)),.sl 1 s.nc (λu=>.sl 1 (s.C u).1 (λi=>iV ((s.C u).2 i)))],codJ s,.row 68 5 (Dz (inL s (toN s.tt))) (IV (inL s (toN s.tt))),Wp a.r,.cells [.ref 3,iV c]]⟩
def Ama (u:Nat) (a:A7):Ex×St:=(.ex 4,⟨jsV 202 0 Ab [(1,.sl 1 nt (λi=>iV (td i))),(2,.ptr 0 0),(5,.jref 1),(7,.ref 2),(11,iV a.q),(12,nV u)],[.cells [iV s.arch,.sl 6 s.ne (λi=>eV (s.E i)),.sl 5 s.nx (λi=>evV (s.X i)),iV s.tt,iV s.kk,.sl 1 s.nr (λi=>iV (s.R i)),.sl 1 s.nc (λu=>.sl 1 (s.C u).1 (λi=>iV ((s.C u).2 i)))],codJ s,.row 68 5 (Dz (inL s (toN s.tt))) (IV (inL s (toN s.tt)))]⟩)
end
def Nq:Lp:=⟨bmK 202 0 [1,2,5,7,11,12,13,15],6,bmK 202 0 [1,2,5,7,11,12],3,4611686018427387905⟩
noncomputable def tb7:AE:=(9,shT Xl)::(13,shT AcW)::(10,shT rcC)::(25,AbL)::(31,doT)::(32,evT)::[]
theorem tb7_ok:Ar Tryz.prog Gl tb7:=.cons p9 <| .cons p13 <| .cons p10 <| .cons p18 <| .cons p31 <| .cons p32 .nil
noncomputable def B7 (id:Nat) (L:LT):St->T (Ex×St):=λst=>AK tab ⟨A2 tb7,L,Gl⟩ (A3 Tryz.f7 id) id st
theorem rbV (g:Nat->Vl):Ct [.row 66 2 32 (λk=>vlV (g k))]=true:=by
 simp only [Ct,Bool.and_true,List.all_eq_true,List.mem_range];intro k _;rfl
def tdN (nt:Nat) (td:Nat->Int) (q:Int):Int:=bif ilt q (ofNat nt) then bif ile (-2147483648) (td (toN q)) then bif ile (td (toN q)) 2147483647 then td (toN q) else 0 else 0 else 0
section
variable {nt:Nat} {td:Nat->Int} {q:Int}
theorem tdT (h1:ilt q (ofNat nt)=true) (h2:ile (-2147483648) (td (toN q))=true) (h3:ile (td (toN q)) 2147483647=true):td (toN q)=tdN nt td q:=by
 unfold tdN;rw [h1,h2,h3];rfl
theorem ApX (h1:ilt q (ofNat nt)=false):0=tdN nt td q:=by
 unfold tdN;rw [h1];rfl
theorem ApW (h2:ile (-2147483648) (td (toN q))=false):0=tdN nt td q:=by
 unfold tdN;rw [h2];cases ilt q (ofNat nt) <;> rfl
theorem ApV (h3:ile (td (toN q)) 2147483647=false):0=tdN nt td q:=by
 unfold tdN;rw [h3];cases ilt q (ofNat nt) <;> cases ile (-2147483648) (td (toN q)) <;> rfl
end
theorem O4 {z:Int} (h:ilt 0 z=true):ile 0 z=true:=decide_eq_true (by have:=of_decide_eq_true h; omega)
theorem TO {z:Int} (h:ilt 0 z=true) (h2:ilt z 32=true):nlt (toN z) 32=true:=by
 have h:=of_decide_eq_true h;have h2:=of_decide_eq_true h2;obtain ⟨k,rfl⟩:=Int.eq_ofNat_of_zero_le (show 0 <= z by omega);exact decide_eq_true (by show k<32; omega)
def Ard (s:Sh7) (nt:Nat) (td:Nat->Int) (u:Nat) (c q fe:Int) (g:Nat->V):St:=⟨jsV 202 0 Ab [(1,.sl 1 nt (λi=>iV (td i))),(2,.ptr 0 0),(5,.jref 1),(7,.ref 2),(11,iV q),(12,nV u),(13,.ptr 4 0),(15,iV fe)],[.cells [iV s.arch,.sl 6 s.ne (λi=>eV (s.E i)),.sl 5 s.nx (λi=>evV (s.X i)),iV s.tt,iV s.kk,.sl 1 s.nr (λi=>iV (s.R i)),.sl 1 s.nc (λu=>.sl 1 (s.C u).1 (λi=>iV ((s.C u).2 i)))],codJ s,.row 68 5 (Dz (inL s (toN s.tt))) (IV (inL s (toN s.tt))),.row 66 2 32 g,.cells [.ref 3,iV c]]⟩
theorem rdE {s:Sh7} {nt u k:Nat} {td:Nat->Int} {c q fe x y:Int} {r:Nat->Vl} (h:x=y):(Ex.nm,Ard s nt td u c q fe (B1 (λk=>vlV (r k)) k (.agg [.str [],iV x])))=(Ex.nm,MQ s nt td u c ⟨q,fe,Fb r k ⟨[],y⟩⟩):=by
 subst h;rw [show (V.agg [.str [],iV x])=vlV ⟨[],x⟩ from rfl,Ue];rfl
section
variable (L:LT)
include L
theorem ApO {s:Sh7} {nt u i:Nat} {td:Nat->Int} {a:A7} (hu:u<toN s.tt) (hi:i<Cr (cdL s s.nx u)) (hw:ile (wr .i64 (Ai (ofNat i) 1)) (ofNat i)=false) (hD:DoOK (Cr (cdL s s.nx u)) (I6 s u) 32 a.r (ofNat i)) (hk:(doA (I6 s u i) a.r).k=1)  :
  IP (B7 4 L) Nq [0,1,2,5,4] (MQ s nt td u (ofNat i) a)=some (Ex.nm,MQ s nt td u (wr .i64 (Ai (ofNat i) 1)) ⟨a.q,a.fe,doR (I6 s u i) a.r⟩) :=
 DW.rn (.k (Ae hu) <| .k (decide_eq_true hu) <| .r 2 eT <| .k (ofNat_lt hi) <| .k (Ae hu) <| .k (decide_eq_true hu) <| .k eT <| .k (eI (ofNat u)) <| .k (Ae hu) <| .k (eJ u) <| .k (decide_eq_true hu) <| .k eT <| .k (eJ u) <| .k (eI (ofNat i)) <| .k (eG [toN s.tt]) <| .k (eL (Cr (cdL s s.nx u))) <| .k (eL 32) <| .k (Ek hD) <| .k (rbV (doR (I6 s u i) a.r)) <| .k (eI (ofNat u)) <| .k (Ae hu) <| .k (eJ u) <| .k (decide_eq_true hu) <| .k eT <| .k (eJ u) <| .k (eI (ofNat i)) <| .k (eI (ofNat u)) <| .k (Ae hu) <| .k (eJ u) <| .k (decide_eq_true hu) <| .k eT <| .k (eJ u) <| .k (eI (ofNat i)) <| .r 6 (eN (eI 0)) <| .r 5 hw <| .k (eN (eI 32)) <| .k (Cp (j:=4) hk) <| .k (Cp (j:=2) hk) <| .k (Cp (j:=3) hk) <| .l) (by kernel_rfl)
theorem ApP {s:Sh7} {nt u i:Nat} {td:Nat->Int} {a:A7} (hu:u<toN s.tt) (hi:i<Cr (cdL s s.nx u)) (hw:ile (wr .i64 (Ai (ofNat i) 1)) (ofNat i)=false) (hD:DoOK (Cr (cdL s s.nx u)) (I6 s u) 32 a.r (ofNat i)) (hk:(doA (I6 s u i) a.r).k=4)  :
  IP (B7 4 L) Nq [0,1,2,5,4] (MQ s nt td u (ofNat i) a)=some (Ex.nm,MQ s nt td u (wr .i64 (Ai (ofNat i) 1)) ⟨a.q,(doA (I6 s u i) a.r).fc,doR (I6 s u i) a.r⟩) :=
 DW.rn (.k (Ae hu) <| .k (decide_eq_true hu) <| .r 2 eT <| .k (ofNat_lt hi) <| .k (Ae hu) <| .k (decide_eq_true hu) <| .k eT <| .k (eI (ofNat u)) <| .k (Ae hu) <| .k (eJ u) <| .k (decide_eq_true hu) <| .k eT <| .k (eJ u) <| .k (eI (ofNat i)) <| .k (eG [toN s.tt]) <| .k (eL (Cr (cdL s s.nx u))) <| .k (eL 32) <| .k (Ek hD) <| .k (rbV (doR (I6 s u i) a.r)) <| .k (eI (ofNat u)) <| .k (Ae hu) <| .k (eJ u) <| .k (decide_eq_true hu) <| .k eT <| .k (eJ u) <| .k (eI (ofNat i)) <| .k (eI (ofNat u)) <| .k (Ae hu) <| .k (eJ u) <| .k (decide_eq_true hu) <| .k eT <| .k (eJ u) <| .k (eI (ofNat i)) <| .r 6 (eN (eI 0)) <| .r 5 hw <| .k (eN (eI 32)) <| .k (E8 hk) <| .l) (by kernel_rfl)
theorem ApM {s:Sh7} {nt u i:Nat} {td:Nat->Int} {a:A7} (hu:u<toN s.tt) (hi:i<Cr (cdL s s.nx u)) (hw:ile (wr .i64 (Ai (ofNat i) 1)) (ofNat i)=false) (hD:DoOK (Cr (cdL s s.nx u)) (I6 s u) 32 a.r (ofNat i)) (hk:(doA (I6 s u i) a.r).k=3) (hq:ile (ofNat s.nx) a.q=false) (hE:EvOK s a.q (ofNat u) (doA (I6 s u i) a.r) a.fe) :
  IP (B7 4 L) Nq [0,1,2,5,4] (MQ s nt td u (ofNat i) a)=some (Ex.nm,MQ s nt td u (wr .i64 (Ai (ofNat i) 1)) ⟨wr .i64 (Ai a.q 1),0,doR (I6 s u i) a.r⟩) :=
 DW.rn (.k (Ae hu) <| .k (decide_eq_true hu) <| .r 2 eT <| .k (ofNat_lt hi) <| .k (Ae hu) <| .k (decide_eq_true hu) <| .k eT <| .k (eI (ofNat u)) <| .k (Ae hu) <| .k (eJ u) <| .k (decide_eq_true hu) <| .k eT <| .k (eJ u) <| .k (eI (ofNat i)) <| .k (eG [toN s.tt]) <| .k (eL (Cr (cdL s s.nx u))) <| .k (eL 32) <| .k (Ek hD) <| .k (rbV (doR (I6 s u i) a.r)) <| .k (eI (ofNat u)) <| .k (Ae hu) <| .k (eJ u) <| .k (decide_eq_true hu) <| .k eT <| .k (eJ u) <| .k (eI (ofNat i)) <| .k (eI (ofNat u)) <| .k (Ae hu) <| .k (eJ u) <| .k (decide_eq_true hu) <| .k eT <| .k (eJ u) <| .k (eI (ofNat i)) <| .r 6 (eN (eI 0)) <| .r 5 hw <| .k (eN (eI 32)) <| .k (Cp (j:=4) hk) <| .k (Cp (j:=2) hk) <| .k (E8 hk) <| .r 6 hq <| .k (eL s.ne) <| .k (eL s.nx) <| .k (eL s.nr) <| .k (eL2 s.nc s.C) <| .k eT <| .k (Ek hE) <| .r 2 hq <| .k (eN eT) <| .r 4 (Cp (j:=2) hk) <| .r 5 eF <| .l) (by kernel_rfl)
theorem ApN {s:Sh7} {nt u i:Nat} {td:Nat->Int} {a:A7} (hu:u<toN s.tt) (hi:i<Cr (cdL s s.nx u)) (hw:ile (wr .i64 (Ai (ofNat i) 1)) (ofNat i)=false) (hD:DoOK (Cr (cdL s s.nx u)) (I6 s u) 32 a.r (ofNat i)) (hk:(doA (I6 s u i) a.r).k=2) (hq:ile (ofNat s.nx) a.q=false) (hE:EvOK s a.q (ofNat u) (doA (I6 s u i) a.r) a.fe) (hq0:ile 0 a.q=true) (hr0:ilt 0 (doA (I6 s u i) a.r).rg=true) (hr1:ilt (doA (I6 s u i) a.r).rg 32=true) :
  IP (B7 4 L) Nq [0,1,2,5,4] (MQ s nt td u (ofNat i) a)=some (Ex.nm,MQ s nt td u (wr .i64 (Ai (ofNat i) 1)) ⟨wr .i64 (Ai a.q 1),0,Fb (doR (I6 s u i) a.r) (toN (doA (I6 s u i) a.r).rg) ⟨[],tdN nt td a.q⟩⟩) :=
 DW.rn (.k (Ae hu) <| .k (decide_eq_true hu) <| .r 2 eT <| .k (ofNat_lt hi) <| .k (Ae hu) <| .k (decide_eq_true hu) <| .k eT <| .k (eI (ofNat u)) <| .k (Ae hu) <| .k (eJ u) <| .k (decide_eq_true hu) <| .k eT <| .k (eJ u) <| .k (eI (ofNat i)) <| .k (eG [toN s.tt]) <| .k (eL (Cr (cdL s s.nx u))) <| .k (eL 32) <| .k (Ek hD) <| .k (rbV (doR (I6 s u i) a.r)) <| .k (eI (ofNat u)) <| .k (Ae hu) <| .k (eJ u) <| .k (decide_eq_true hu) <| .k eT <| .k (eJ u) <| .k (eI (ofNat i)) <| .k (eI (ofNat u)) <| .k (Ae hu) <| .k (eJ u) <| .k (decide_eq_true hu) <| .k eT <| .k (eJ u) <| .k (eI (ofNat i)) <| .r 6 (eN (eI 0)) <| .r 5 hw <| .k (eN (eI 32)) <| .k (Cp (j:=4) hk) <| .r 2 (E8 hk) <| .r 6 hq <| .k (eL s.ne) <| .k (eL s.nx) <| .k (eL s.nr) <| .k (eL2 s.nc s.C) <| .k eT <| .k (Ek hE) <| .r 2 hq <| .k (eN eT) <| .r 4 (E8 hk) <| .r 4 hr0 <| .k hr1 <| .c (ilt a.q (ofNat nt)) (λh1=>.r 3 h1 <| .k ((EA hq0).trans h1) <| .r 3 h1 <| .c (ile (-2147483648) (td (toN a.q))) (λh2=>.r 3 h2 <| .k ((EA hq0).trans h1) <| .r 3 h2 <| .c (ile (td (toN a.q)) 2147483647) (λh3=>.k h3 <| .k ((EA hq0).trans h1) <| .k ((EA (O4 hr0)).trans hr1) <| .k (TO hr0 hr1) <| .e (rdE (tdT h1 h2 h3))) λh3=>.k h3 <| .k ((EA (O4 hr0)).trans hr1) <| .k (TO hr0 hr1) <| .e (rdE (ApV h3))) λh2=>.r 6 h2 <| .k eF <| .k ((EA (O4 hr0)).trans hr1) <| .k (TO hr0 hr1) <| .e (rdE (ApW h2))) λh1=>.r 6 h1 <| .r 7 eF <| .k ((EA (O4 hr0)).trans hr1) <| .k (TO hr0 hr1) <| .e (rdE (ApX h1))) (by kernel_rfl)
end
end Go.Proofs.YtkbafjceglhjhaaGreatDoor.Er
namespace Go.Proofs.YtkbafjceglhjhaaGreatDoor.Er
open Go.Sy Go Go.Proofs.YtkbafjceglhjhaaGreatDoor.Ed Go.Proofs.YtkbafjceglhjhaaGreatDoor.Sh
open Int (ofNat)
set_option maxRecDepth 100000
set_option maxHeartbeats 1000000
def AgI (e:E6):Bool:=!ieq e.kind 5 || (ile 2 e.fence && ile e.fence 11)
theorem Ads:(List.range 112).all (λk=>!FR 2 (ofNat k) || AgI (Dw k))=true:=by kernel_rfl
theorem AlE {e:E6} (h:Kz 2 e=true):AgI e=true:=by
 rcases DY e with ⟨k,hk,h0,hn,he,_⟩ | ⟨h2,_⟩
 ·have:=List.all_eq_true.1 Ads k (by simpa using hk)
  unfold Kz at h;rw [h0,hn] at h;rw [show FR 2 (ofNat k)=true from h,he] at this;simpa using this
 ·unfold Kz at h
  rw [h2] at h;cases h
theorem YL {p q:Nat->Bool} (n:Nat) (h:∀ i,i<n->p i=true->q i=true):Al p n <= Al q n:=by
 induction n with
 | zero=>exact Nat.le_refl _
 | succ n ih =>
  have ih:=ih λi hi=>h i (by omega);cases hp:p n with
  | true=>rw [Bz hp,Bz (h n (by omega) hp)]; omega
  | false =>rw [BL hp];have:=HF q n;omega
structure Gx (s:Sh7):Prop where
 crowd:∀ u,Al (isT s u) s.nx <= 12
 val:∀ i,i<s.nx->ile (-2048) (s.X i).val=true∧ile (s.X i).val 2047=true
 loc:∀ i,i<s.nx->∃ k,k<16∧(s.X i).loc=ofNat k
 fen:∀ i,i<s.nx->AgI (s.E i)=true
theorem Aiq {s:Sh7} (h:ieq (FK s) 0=true):Gx s:=by
 have hg:=good h;have hc:Dl s=true:=by
  cases hc:Dl s with
  | true=>rfl
  | false =>unfold FK at h;rw [hc] at h;cases h
 have ha:s.arch=2:=by
  unfold FK at h;rw [hc,cond_true] at h;cases ha:ieq s.arch 2 with
  | true=>exact Cg ha
  | false=>rw [ha] at h; cases h
 unfold Dl at hc;obtain ⟨h1,hc⟩:=AI hc;unfold IK at hc;obtain ⟨_,hc⟩:=AI hc;obtain ⟨htt,hc⟩:=AI hc;obtain ⟨_,hc⟩:=AI hc;obtain ⟨hE,hc⟩:=AI hc;obtain ⟨hnx,hc⟩:=AI hc;obtain ⟨_,hc⟩:=AI hc;obtain ⟨_,hX⟩:=AI hc;have hy:=Bt h1;have hG:=EF hy;have hnx:s.nx=s.ne:=Int.ofNat.inj (Cg hnx);have hE:∀ i,i<s.ne->s.E i=shG s.ne s.E i:=(IN.1 hE).2;have hX:∀ i,i<s.nx->s.X i=evF s.ne (shG s.ne s.E) (λ_=>true) i:=λi hi=>Ui (AO.1 hX i hi);have hn16:s.ne <= 16:=hnx ▸ hg.hi;have hth:∀ i,i<s.nx->(s.X i).th=A8 (obF (shG s.ne s.E)) s.ne i:=λi hi=>by
  rw [hX i hi,Db (by omega)];rfl
 refine ⟨λu=>?_,λi hi=>?_,λi hi=>?_,λi hi=>?_⟩
 ·by_cases hu:∃ k,k<s.nx∧isT s u k=true
  ·obtain ⟨k,hk,hku⟩:=hu
   have hcr:=hG.crowd k (by omega)
   replace hcr:ilt 12 (MJ s.ne (A8 (λk=>A9 (shG s.ne s.E k)) s.ne) (λ_=>true) (A8 (λk=>A9 (shG s.ne s.E k)) s.ne k))=false:=hcr
   have hcr:=of_decide_eq_false hcr;have:Al (isT s u) s.nx <= Al (CP (A8 (λk=>A9 (shG s.ne s.E k)) s.ne) (λ_=>true) (A8 (λk=>A9 (shG s.ne s.E k)) s.ne k)) s.nx:=by
    refine YL s.nx λi hi hiu=>?_;unfold CP;unfold isT at hiu hku;have e1:=hth i hi;have e2:=hth k hk;have e3:=Nat.eq_of_beq_eq_true hiu;have e4:=Nat.eq_of_beq_eq_true hku;rw [hg.th i hi] at e1 e3;rw [hg.th k hk] at e2 e4;have e5:Al (obE s) i=Al (obE s) k:=e3.symm.trans e4;show Ak (ieq (A8 (obF (shG s.ne s.E)) s.ne i) (A8 (obF (shG s.ne s.E)) s.ne k)) true=true;rw [<- e1,<- e2,e5,eI];rfl
   unfold MJ at hcr;rw [<- hnx] at hcr this;have hcr:¬ ((12:Int)<((Al (CP (A8 (λk=>A9 (shG s.nx s.E k)) s.nx) (λ_=>true) (A8 (λk=>A9 (shG s.nx s.E k)) s.nx k)) s.nx:Nat):Int)):=hcr;omega
  ·rw [Gm λi hi=>by
    cases hb:isT s u i with
    | false=>rfl
    | true=>exact absurd ⟨i,hi,hb⟩ hu]
   omega
 ·rw [hX i hi,Db (by omega)]
  show ile (-2048) (ofNat (RL _ _ _ _))=true∧ile (ofNat (RL _ _ _ _)) 2047=true;have h2:=BI (λt=>wrF (shG s.ne s.E) (rnd s.ne (FY (mbF (shG s.ne s.E)) s.ne i) t)) (GI (mbF (shG s.ne s.E)) s.ne i+1);have h3:GI (mbF (shG s.ne s.E)) s.ne i <= s.ne:=by
   unfold GI;exact AfG _ _
  unfold RL wcN;generalize Al (λt=>wrF (shG s.ne s.E) (rnd s.ne (FY (mbF (shG s.ne s.E)) s.ne i) t)) (GI (mbF (shG s.ne s.E)) s.ne i+1)=v at h2 ⊢;exact ⟨decide_eq_true (by show (-2048:Int) <= (v:Int); omega),decide_eq_true (by show (v:Int) <= 2047; omega)⟩
 ·rw [hX i hi,Db (by omega)]
  show ∃ k,k<16∧loF s.ne (shG s.ne s.E) i=ofNat k;refine ⟨_,?_,Ac8 (by omega)⟩;have:=Lh (p:=mbF (shG s.ne s.E)) (n:=s.ne) (k:=i) (by omega);have:=BI (mbF (shG s.ne s.E)) s.ne;unfold loN;omega
 ·rw [hE i (by omega)]
  have:=hG.legal i (by omega);unfold Ea AV at this;rw [ha] at this;have:=(AI (by simpa using this)).2;exact AlE this
end Go.Proofs.YtkbafjceglhjhaaGreatDoor.Er
namespace Go.Proofs.YtkbafjceglhjhaaGreatDoor.Er
open Go.Sy Go Go.Proofs.YtkbafjceglhjhaaGreatDoor.Ed Go.Proofs.YtkbafjceglhjhaaGreatDoor.Sh
open Int (ofNat)
set_option maxRecDepth 100000
set_option maxHeartbeats 1000000
theorem XJ {k:Nat} (h:k <= 31):rgB (ofNat k)=true:=by
 unfold rgB;rw [show ile 0 (ofNat k)=true from decide_eq_true (Int.natCast_nonneg _),show ile (ofNat k) 31=true from decide_eq_true (by show (k:Int) <= 31; omega)];rfl
theorem Yb (s:Sh7) (u:Nat):∀ m,B5 (locL s m u) <= Al (isT s u) m
 | 0=>Nat.le_refl _
 | m+1=>by
  have:=Yb s u m;rw [locL];cases h:Nat.beq u (toN (s.X m).th) with
  | false =>rw [bFA,cond_false];have:=HF (isT s u) m;omega
  | true =>
   rw [Bz (show isT s u m=true from h)];cases ieq (Iz (B5 (locL s m u)) (Ew (locL s m u)) (s.X m).loc) 0 with
   | true =>unfold B5 at this ⊢;simp only [bTA,cond_true,List.length_append,List.length_singleton];omega
   | false=>simp only [bTA,cond_false]; omega
theorem V2 {n:Nat} {f:Nat->Int} {lc:Int} (hn:n <= 1000) (h:∃ k,k<n∧f k=lc):∃ k,k<n∧Iz n f lc=ofNat (7+k)∧f k=lc:=by
 unfold Iz tO;cases hq:AZ (λk=>ieq (f k) lc) n 0 with
 | none =>obtain ⟨k,hk,hf⟩:=h;have:=Dm.1 hq k (Nat.zero_le _) (by omega);rw [hf,eI] at this;cases this
 | some k =>
  obtain ⟨_,h2,h3⟩:=Jg hq;exact ⟨k,by omega,by
   show wr .i64 (Ai 7 (ofNat k))=_;exact IB (k:=7+k) (by omega),Cg h3⟩
theorem Aeb {n:Nat} {f:Nat->Int} {lc:Int} (hn:n <= 1000) (h:ieq (Iz n f lc) 0=false):∃ k,k<n∧f k=lc:=by
 unfold Iz at h;cases hq:AZ (λk=>ieq (f k) lc) n 0 with
 | none=>rw [hq] at h; cases h
 | some k =>obtain ⟨_,h2,h3⟩:=Jg hq;exact ⟨k,by omega,Cg h3⟩
theorem Al8 {l:List Int} {x:Int} {k:Nat} (h:k<B5 l):Ew (l++[x]) k=Ew l k:=by
 unfold Ew B5 at *;simp only [List.getD_eq_getElem?_getD];rw [List.getElem?_append_left h]
theorem Al7 {l:List Int} {x:Int}:Ew (l++[x]) (B5 l)=x:=by
 unfold Ew B5;simp
theorem loc_in (s:Sh7) (u:Nat):∀ m,m <= 16->∀ i,i<m->isT s u i=true->∃ k,k<B5 (locL s m u)∧Ew (locL s m u) k=(s.X i).loc
 | 0,_,_,hi,_=>absurd hi (Nat.not_lt_zero _)
 | m+1,hm,i,hi,hT=>by
  have hl:=GV (s:=s) u m;have hc:isT s u m=true->ieq (Iz (B5 (locL s m u)) (Ew (locL s m u)) (s.X m).loc) 0=false->∃ k,k<B5 (locL s m u)∧Ew (locL s m u) k=(s.X m).loc:=λ_ h2=>Aeb (by omega) h2;have hlen:∀ l:List Int,∀ x,B5 (l++[x])=B5 l+1:=λl x=>by unfold B5; simp
  rw [locL];by_cases him:i=m
  ·subst him
   unfold isT at hT;rw [hT,bTA];cases h2:ieq (Iz (B5 (locL s i u)) (Ew (locL s i u)) (s.X i).loc) 0 with
   | true=>exact ⟨B5 (locL s i u),by rw [cond_true,hlen]; omega,by rw [cond_true]; exact Al7⟩
   | false=>exact hc (by unfold isT; exact hT) h2
  ·obtain ⟨k,hk,he⟩:=loc_in s u m (by omega) i (by omega) hT
   cases Nat.beq u (toN (s.X m).th) && ieq (Iz (B5 (locL s m u)) (Ew (locL s m u)) (s.X m).loc) 0 with
   | true=>exact ⟨k,by rw [cond_true,hlen]; omega,by rw [cond_true,Al8 hk]; exact he⟩
   | false=>exact ⟨k,hk,he⟩
section
variable {s:Sh7} (hg:Gs s) (hx:Gx s)
include hg hx
theorem Ky (u:Nat):B5 (locL s s.nx u) <= 12 :=
 have _:=hg
 Nat.le_trans (Yb s u s.nx) (hx.crowd u)
theorem Apz {i:Nat} (hi:i<s.nx):∃ k,k<B5 (locL s s.nx (toN (s.X i).th))∧at9 s i=ofNat (7+k):=by
 have h12:=Ky hg hx (toN (s.X i).th);obtain ⟨k,h1,h2,_⟩:=V2 (f:=Ew (locL s s.nx (toN (s.X i).th))) (lc:=(s.X i).loc) (by omega) (loc_in s (toN (s.X i).th) s.nx hg.hi i hi (Nat.beq_refl _));exact ⟨k,h1,h2⟩
theorem AhN {u j:Nat} (hj:j<s.nx) (hT:isT s u j=true):nrF s j u <= 11:=by
 have _:=hg;have h1:=hx.crowd u;have h2:=Ba (isT s u) (show j+1 <= s.nx by omega);rw [Bz hT] at h2;have h3:nrF s j u <= Al (isT s u) j:=YL j λk _ hk=>by
  simp only [Bool.and_eq_true] at hk;exact hk.1
 omega
theorem Aip (u:Nat) (z:Int):gtF s s.nx u z=0 ∨ ∃ k,7 <= k∧k <= 30∧gtF s s.nx u z=ofNat k:=by
 unfold gtF;cases h:hsF s s.nx u z with
 | false=>exact .inl rfl
 | true =>
  rw [Im] at h;unfold hsX at h;simp only [Bool.and_eq_true] at h;obtain ⟨h0,h1,h2,_⟩:=h;have h0:=of_decide_eq_true h0;have h1:=of_decide_eq_true h1;obtain ⟨j,rfl⟩:=Int.eq_ofNat_of_zero_le h0;have hj:j<s.nx:=by
   have:(j:Int)<(s.nx:Int):=h1;omega
  have:=AhN hg hx hj h2;have:=Ky hg hx u;exact .inr ⟨7+B5 (locL s s.nx u)+nrF s j u,by omega,by omega,rfl⟩
theorem Aio (u:Nat) (z:Int):rgB (gtF s s.nx u z)=true:=by
 rcases Aip hg hx u z with h | ⟨k,_,h2,h⟩
 ·rw [h]; rfl
 ·rw [h]; exact XJ (by omega)
theorem Apy {i:Nat} (hi:i<s.nx):rgB (at9 s i)=true∧ilt 5 (at9 s i)=true∧ilt 6 (at9 s i)=true:=by
 obtain ⟨k,h1,h2⟩:=Apz hg hx hi;have:=Ky hg hx (toN (s.X i).th);rw [h2];exact ⟨XJ (by omega),decide_eq_true (by show (5:Int)<((7+k:Nat):Int); omega),decide_eq_true (by show (6:Int)<((7+k:Nat):Int); omega)⟩
end
end Go.Proofs.YtkbafjceglhjhaaGreatDoor.Er
namespace Go.Proofs.YtkbafjceglhjhaaGreatDoor.Er
open Go.Sy Go Go.Proofs.YtkbafjceglhjhaaGreatDoor.Ed Go.Proofs.YtkbafjceglhjhaaGreatDoor.Sh
open Int (ofNat)
set_option maxRecDepth 100000
set_option maxHeartbeats 1000000
section
variable {s:Sh7} (hg:Gs s) (hx:Gx s) {i:Nat}
theorem AbG (hg:Gs s) (hi:i<s.nx) (h:ilt 0 (s.X i).pl=true):0<i∧obE s (i-1)=false:=by
 rcases Nat.eq_zero_or_pos i with h0 | h0
 ·rw [AkT hg (.inl h0) hi] at h
  cases h
 ·refine ⟨h0,?_⟩
  cases hb:obE s (i-1) with
  | false=>rfl
  | true =>rw [AkT hg (.inr hb) hi] at h;cases h
theorem Ad2 (hg:Gs s) (hi:i<s.nx) (h0:0<i):ed9 s i=s.E (i-1):=by
 unfold ed9;rw [AjU hg h0 hi];rfl
include hg hx
theorem Aqa (hi:i<s.nx) (h:ilt 0 (s.X i).pl=true) (hk:ieq (ed9 s i).kind 8=true):ilt 0 (rP9 s i)=true:=by
 obtain ⟨h0,hb⟩:=AbG hg hi h;have hi1:i-1<s.nx:=by omega
 have he:=hg.ok (i-1) hi1;rw [Ad2 hg hi h0] at hk;unfold AgK at he;rw [hk] at he;simp only [Bool.or_true,Bool.not_true,Bool.and_eq_true,Bool.or_eq_true] at he;have hr:(s.E (i-1)).src=1:=by
  rcases he.2.1 with h | h
  ·cases h
  ·exact Cg h.1
 have ht:tN s i=tN s (i-1):=by
  have h2:=BL hb;rw [show i-1+1=i by omega] at h2;exact h2
 have hh:hsF s s.nx (tN s (i-1)) (ofNat (i-1))=true:=by
  rw [Im];unfold hsX isT isR;rw [show toN (ofNat (i-1))=i-1 from rfl,Ae2 hg hi1,Nat.beq_refl,hg.dir _ hi1,hr,show ilt (ofNat (i-1)) (ofNat s.nx)=true from ofNat_lt hi1];simp [ile,ieq]
 unfold rP9;rw [Ae2 hg hi,ht,AjU hg h0 hi];rcases Aip hg hx (tN s (i-1)) (ofNat (i-1)) with h | ⟨k,h1,_,h2⟩
 ·unfold gtF at h
  rw [hh,cond_true] at h;have:=Int.ofNat.inj (h.trans (show (0:Int)=ofNat 0 from rfl));omega
 ·rw [h2]
  exact decide_eq_true (by show (0:Int)<(k:Int); omega)
theorem Ahy (hi:i<s.nx) {a:Int} (ha:rgB a=true) (h5:ilt 5 a=true):∀ I,I ∈ (tl9 s i a).flatten->IsI I:=by
 have hr:=Aio hg hx (toN (s.X i).th);have hv:=hx.val i hi;intro I hI;unfold tl9 at hI;cases h1:ieq (s.X i).dir 1 with
 | true =>rw [h1] at hI;simp at hI;subst hI;exact .lw (hr _) ha
 | false =>
  rw [h1] at hI;cases h7:ieq (ed9 s i).kind 7 with
  | true =>
   rw [h7] at hI;simp at hI;rcases hI with rfl | rfl | rfl
   ·exact .xor rfl (hr _)
   ·exact .ori rfl hv.1 hv.2
   ·exact .sw ha h5
  | false =>
   rw [h7] at hI;simp at hI;rcases hI with rfl | rfl
   ·exact .ori rfl hv.1 hv.2
   ·exact .sw ha h5
theorem AcF (hi:i<s.nx):nmB (GG (lbN s i))=true :=
 have _:=hx
 Ald (by
 have:=UB s i;have:=hg.hi;omega)
omit hg hx in
theorem RY:Es s i=bif ilt 0 (s.X i).pl then
  (bif ieq (ed9 s i).kind 5 then [fcI s i]::tl9 s i (at9 s i)
  else bif ieq (ed9 s i).kind 8 then [bnI s i (GG (lbN s i)),lbI (GG (lbN s i))]::tl9 s i (at9 s i)
  else bif ieq (ed9 s i).kind 6 then [xr6 s i,ad6 s i]::tl9 s i 6
  else tl9 s i (at9 s i))
 else bif ieq (s.X i).dir 1 then [[lwI s i (at9 s i)]] else [[or0 s i],[swI (at9 s i)]]:=by
 unfold Es GG;cases ieq (ofNat (Cl (D4 (ofNat (lbN s i))))) 1 <;> rfl
theorem AjW (hi:i<s.nx):∀ I,I ∈ (Es s i).flatten->IsI I:=by
 obtain ⟨ha,h5,h6⟩:=Apy hg hx hi;have hr:=Aio hg hx (toN (s.X i).th);have hv:=hx.val i hi;have ht:=Ahy hg hx hi ha h5;intro I hI;rw [RY] at hI;cases hp:ilt 0 (s.X i).pl with
 | false =>
  rw [hp,cond_false] at hI;cases h1:ieq (s.X i).dir 1 with
  | true =>rw [h1] at hI;simp at hI;subst hI;exact .lw (hr _) ha
  | false =>
   rw [h1] at hI;simp at hI;rcases hI with rfl | rfl
   ·exact .ori rfl hv.1 hv.2
   ·exact .sw ha h5
 | true =>
  obtain ⟨h0,hb⟩:=AbG hg hi hp;rw [hp,cond_true] at hI;cases k5:ieq (ed9 s i).kind 5 with
  | true =>
   rw [k5,cond_true,List.flatten_cons] at hI;rcases List.mem_append.1 hI with h | h
   ·simp at h
    subst h;have hf:=hx.fen (i-1) (by omega);rw [Ad2 hg hi h0] at k5;unfold AgI at hf;rw [k5] at hf;simp only [Bool.not_true,Bool.or_eq_true,Bool.and_eq_true] at hf;unfold fcI;rw [Ad2 hg hi h0];rcases hf with h | h
    ·cases h
    ·exact .fen h.1 h.2
   ·exact ht I h
  | false =>
   rw [k5,cond_false] at hI;cases k8:ieq (ed9 s i).kind 8 with
   | true =>
    rw [k8,cond_true,List.flatten_cons] at hI;rcases List.mem_append.1 hI with h | h
    ·simp at h
     rcases h with rfl | rfl
     ·exact .bne (hr _) (Aqa hg hx hi hp k8) (AcF hg hx hi)
     ·exact .lab (AcF hg hx hi)
    ·exact ht I h
   | false =>
    rw [k8,cond_false] at hI;cases k6:ieq (ed9 s i).kind 6 with
    | true =>
     rw [k6,cond_true,List.flatten_cons] at hI;rcases List.mem_append.1 hI with h | h
     ·simp at h
      rcases h with rfl | rfl
      ·exact .xor rfl (hr _)
      ·exact .add ha h6
     ·exact Ahy hg hx hi rfl rfl I h
    | false =>rw [k6,cond_false] at hI;exact ht I hI
theorem YN (u:Nat):∀ m,m <= s.nx->∀ I,I ∈ cdL s m u->IsI I
 | 0,_,I,hI=>by cases hI
 | m+1,hm,I,hI=>by
  rw [cdL] at hI;cases h:Nat.beq u (toN (s.X m).th) with
  | true =>
   rw [h,cond_true] at hI;rcases List.mem_append.1 hI with h | h
   ·exact YN u m (by omega) I h
   ·exact AjW hg hx (by omega) I h
  | false =>rw [h,cond_false] at hI;exact YN u m (by omega) I hI
end
end Go.Proofs.YtkbafjceglhjhaaGreatDoor.Er
namespace Go.Proofs.YtkbafjceglhjhaaGreatDoor.Er
open Go.Sy Go Go.Proofs.YtkbafjceglhjhaaGreatDoor.Ed Go.Proofs.YtkbafjceglhjhaaGreatDoor.Sh
set_option maxRecDepth 100000
set_option maxHeartbeats 1000000
def nxB (I:In8):List In8->Bool
 | J::_=>ieq J.op 12 && seq J.lab I.lab
 | []=>false
def bnB:List In8->Bool
 | []=>true
 | I::l=>(!ieq I.op 11 || nxB I l) && bnB l
theorem LX:∀ {l m:List In8},bnB l=true->bnB m=true->bnB (l++m)=true
 | [],_,_,hm=>hm
 | [I],m,hl,hm=>by
  unfold bnB nxB at hl;simp only [Bool.or_false,Bool.and_eq_true] at hl;show ((!ieq I.op 11 || nxB I m) && bnB m)=true
  rw [hl.1,hm];rfl
 | I::J::l,m,hl,hm=>by
  have h1:(!ieq I.op 11 || nxB I (J::l))=true∧bnB (J::l)=true:=by
   unfold bnB at hl;simpa only [Bool.and_eq_true] using hl
  have h2:=LX (l:=J::l) h1.2 hm;show ((!ieq I.op 11 || nxB I (J::l)) && bnB (J::l++m))=true
  rw [h1.1,h2];rfl
theorem AlA (I:In8) (l:List In8):K3 (I::l) 0=I:=rfl
theorem Al9 (I:In8) (l:List In8) (k:Nat):K3 (I::l) (k+1)=K3 l k:=rfl
theorem AdU:∀ {l:List In8},bnB l=true->∀ i,i<Cr l->ieq (K3 l i).op 11=true->i+1<Cr l∧ieq (K3 l (i+1)).op 12=true∧seq (K3 l (i+1)).lab (K3 l i).lab=true
 | [],_,_,hi,_=>absurd hi (Nat.not_lt_zero _)
 | I::l,hl,i,hi,h11=>by
  unfold bnB at hl;simp only [Bool.and_eq_true] at hl;cases i with
  | zero =>
   rw [AlA] at h11;rw [h11] at hl;have:=hl.1;cases l with
   | nil=>cases this
   | cons J l =>have:(ieq J.op 12 && seq J.lab I.lab)=true:=this;simp only [Bool.and_eq_true] at this;exact ⟨by unfold Cr; simp,this.1,this.2⟩
  | succ i =>have:=AdU hl.2 i (by unfold Cr at hi ⊢; simp at hi; exact hi) h11;refine ⟨?_,this.2⟩;have h1:=this.1;unfold Cr at h1 ⊢;simp only [List.length_cons];omega
theorem Agv:(List.range 32).all (λi=>(List.range 32).all λj=>Nat.beq i j || !seq (GG i) (GG j))=true:=by kernel_rfl
theorem Aly {i j:Nat} (hi:i<32) (hj:j<32) (h:i ≠ j):seq (GG i) (GG j)=false:=by
 have:=List.all_eq_true.1 (List.all_eq_true.1 Agv i (by simpa using hi)) j (by simpa using hj);rw [show Nat.beq i j=false by cases hb:Nat.beq i j with
  | false=>rfl
  | true=>exact absurd (Nat.eq_of_beq_eq_true hb) h] at this
 simpa using this
def Ap (I J:In8):Prop:=ieq I.op 12=true->ieq J.op 12=true->seq I.lab J.lab=false
theorem AiB:∀ {l:List In8},l.Pairwise Ap->∀ i,i<Cr l->∀ k,k<i->Ap (K3 l k) (K3 l i)
 | [],_,_,hi,_,_=>absurd hi (Nat.not_lt_zero _)
 | I::l,hl,0,_,k,hk=>absurd hk (Nat.not_lt_zero _)
 | I::l,hl,i+1,hi,k,hk=>by
  obtain ⟨h1,h2⟩:=List.pairwise_cons.1 hl;have hi:i<Cr l:=by unfold Cr at hi ⊢; simpa using hi
  cases k with
  | zero =>refine h1 _ ?_;rw [Al9];unfold K3;rw [List.getD_eq_getElem?_getD,List.getElem?_eq_getElem hi];exact List.getElem_mem hi
  | succ k=>exact AiB h2 i hi k (by omega)
section
variable {s:Sh7}
theorem X1 (i:Nat) (a:Int):bnB (tl9 s i a).flatten=true:=by
 unfold tl9;cases ieq (s.X i).dir 1 <;> cases ieq (ed9 s i).kind 7 <;> rfl
theorem AjX (i:Nat):bnB (Es s i).flatten=true:=by
 rw [RY];cases ilt 0 (s.X i).pl with
 | false=>cases ieq (s.X i).dir 1 <;> rfl
 | true =>
  cases ieq (ed9 s i).kind 5 with
  | true=>exact LX (l:=[fcI s i]) rfl (X1 i _)
  | false =>
   cases ieq (ed9 s i).kind 8 with
   | true =>refine LX (l:=[bnI s i (GG (lbN s i)),lbI (GG (lbN s i))]) ?_ (X1 i _);show ((ieq 12 12 && seq (GG (lbN s i)) (GG (lbN s i))) && true)=true;rw [eSq];rfl
   | false =>
    cases ieq (ed9 s i).kind 6 with
    | true=>exact LX (l:=[xr6 s i,ad6 s i]) rfl (X1 i _)
    | false=>exact X1 i _
theorem AdO (u:Nat):∀ m,bnB (cdL s m u)=true
 | 0=>rfl
 | m+1=>by
  rw [cdL];cases Nat.beq u (toN (s.X m).th) with
  | true=>exact LX (AdO u m) (AjX m)
  | false=>exact AdO u m
theorem AaI (i:Nat) (a:Int):∀ I,I ∈ (tl9 s i a).flatten->ieq I.op 12=false:=by
 intro I;unfold tl9;cases ieq (s.X i).dir 1 <;> cases ieq (ed9 s i).kind 7 <;> intro h <;> simp at h
 ·rcases h with rfl | rfl <;> rfl
 ·rcases h with rfl | rfl | rfl <;> rfl
 ·subst h; rfl
 ·subst h; rfl
theorem AiA {l:List In8} (h:∀ I,I ∈ l->ieq I.op 12=false):l.Pairwise Ap:=by
 induction l with
 | nil=>exact .nil
 | cons I l ih =>refine .cons (λJ _ h1 _=>?_) (ih λJ hJ=>h J (List.mem_cons_of_mem _ hJ));rw [h I List.mem_cons_self] at h1;cases h1
theorem AjY (i:Nat):(Es s i).flatten.Pairwise Ap∧lbN s i <= lbN s (i+1)∧∀ I,I ∈ (Es s i).flatten->ieq I.op 12=true->I.lab=GG (lbN s i)∧lbN s (i+1)=lbN s i+1:=by
 have no:∀ (l:List In8) (q:Nat),lbN s i <= q->(∀ I,I ∈ l->ieq I.op 12=false)->l.Pairwise Ap∧lbN s i <= q∧∀ I,I ∈ l->ieq I.op 12=true->I.lab=GG (lbN s i)∧q=lbN s i+1 :=
  λl q hl h=>⟨AiA h,hl,λI hI h12=>by rw [h I hI] at h12; cases h12⟩
 have two:∀ (x:List In8) (a:Int),(∀ I,I ∈ x->ieq I.op 12=false)->∀ I,I ∈ (x::tl9 s i a).flatten->ieq I.op 12=false:=λx a h I hI=>by
  rw [List.flatten_cons] at hI;rcases List.mem_append.1 hI with h1 | h1
  ·exact h I h1
  ·exact AaI i a I h1
 rw [RY];rw [lbN];cases ilt 0 (s.X i).pl with
 | false =>
  refine no _ _ (Nat.le_refl _) ?_;intro I;cases ieq (s.X i).dir 1 <;> intro h <;> simp at h
  ·rcases h with rfl | rfl <;> rfl
  ·subst h; rfl
 | true =>
  rw [cond_true,cond_true];cases ieq (ed9 s i).kind 5 with
  | true =>refine no _ _ (Nat.le_refl _) (two _ _ λI h=>?_);simp at h;subst h;rfl
  | false =>
   rw [cond_false,cond_false];cases ieq (ed9 s i).kind 8 with
   | true =>
    rw [cond_true,cond_true,List.flatten_cons];have h2:=AaI (s:=s) i (at9 s i);refine ⟨.cons (λJ _ h1 _=>by cases h1) (.cons (λJ hJ _ h12=>?_) (AiA h2)),Nat.le_succ _,λI hI h12=>?_⟩
    ·have hJ:J ∈ (tl9 s i (at9 s i)).flatten:=hJ
     rw [h2 J hJ] at h12;cases h12
    ·rcases List.mem_append.1 hI with h | h
     ·simp at h
      rcases h with rfl | rfl
      ·cases h12
      ·exact ⟨rfl,rfl⟩
     ·rw [h2 I h] at h12
      cases h12
   | false =>
    rw [cond_false,cond_false];cases ieq (ed9 s i).kind 6 with
    | true =>refine no _ _ (Nat.le_refl _) (two _ _ λI h=>?_);simp at h;rcases h with rfl | rfl <;> rfl
    | false=>exact no _ _ (Nat.le_refl _) (AaI i _)
theorem Ai7 (u:Nat):∀ m,m <= 16->(cdL s m u).Pairwise Ap∧∀ I,I ∈ cdL s m u->ieq I.op 12=true->∃ k,k<lbN s m∧I.lab=GG k
 | 0,_=>⟨.nil,λI h=>by cases h⟩
 | m+1,hm=>by
  obtain ⟨h1,h2⟩:=Ai7 u m (by omega);obtain ⟨h3,h4,h5⟩:=AjY (s:=s) m;have hl:=UB s m;rw [cdL];cases Nat.beq u (toN (s.X m).th) with
  | true =>
   rw [cond_true];refine ⟨List.pairwise_append.2 ⟨h1,h3,λI hI J hJ hI2 hJ2=>?_⟩,λI hI h12=>?_⟩
   ·obtain ⟨k,hk,he⟩:=h2 I hI hI2
    rw [he,(h5 J hJ hJ2).1];exact Aly (by omega) (by omega) (by omega)
   ·rcases List.mem_append.1 hI with h | h
    ·obtain ⟨k,hk,he⟩:=h2 I h h12
     exact ⟨k,by omega,he⟩
    ·obtain ⟨he,hk⟩:=h5 I h h12
     exact ⟨lbN s m,by omega,he⟩
  | false =>
   rw [cond_false];exact ⟨h1,λI hI h12=>by
    obtain ⟨k,hk,he⟩:=h2 I hI h12;exact ⟨k,by omega,he⟩⟩
theorem UV {l:List In8} {i:Nat} (hi:i<Cr l):K3 l i ∈ l:=by
 unfold K3;rw [List.getD_eq_getElem?_getD,List.getElem?_eq_getElem hi];exact List.getElem_mem hi
theorem Ao0 (hg:Gs s) (hx:Gx s) (u:Nat):LkOK (Cr (cdL s s.nx u)) (I6 s u):=by
 obtain ⟨h1,h2⟩:=Ai7 (s:=s) u s.nx hg.hi;refine ⟨?_,λi hi=>YN hg hx u s.nx (Nat.le_refl _) _ (UV hi),λi hi h12 k hk hk12=>?_,λi hi h11=>AdU (AdO u s.nx) i hi h11⟩
 ·have:=MK s u s.nx
  have:=hg.hi;omega
 ·exact AiB h1 i hi k hk hk12 h12
end
end Go.Proofs.YtkbafjceglhjhaaGreatDoor.Er
namespace Go.Proofs.YtkbafjceglhjhaaGreatDoor.Er
open Go.Sy Go Go.Proofs.YtkbafjceglhjhaaGreatDoor.Ed Go.Proofs.YtkbafjceglhjhaaGreatDoor.Sh
open Int (ofNat)
set_option maxRecDepth 100000
set_option maxHeartbeats 1000000
section
variable (s:Sh7) (u r:Nat)
theorem Alb (a b:Nat):ieq (ofNat a) (ofNat b)=Nat.beq a b:=by
 cases h:Nat.beq a b with
 | true=>rw [Nat.eq_of_beq_eq_true h]; exact eI _
 | false=>exact decide_eq_false λe=>Nat.ne_of_beq_eq_false h (Int.ofNat.inj e)
end
section
variable {s:Sh7} {u r:Nat}
theorem An8 {k:Nat} (hk:k<s.nx) (hT:isT s u k=true) (hR:isR s k=true):rI9 s k=ofNat (7+B5 (locL s s.nx u)+nrF s k u)∧hsF s s.nx u (ofNat k)=true:=by
 have hu:u=toN (s.X k).th:=Nat.eq_of_beq_eq_true hT;have hh:hsF s s.nx u (ofNat k)=true:=by
  rw [Im];unfold hsX;rw [show toN (ofNat k)=k from rfl,hT,hR,show ilt (ofNat k) (ofNat s.nx)=true from ofNat_lt hk];simp [ile]
 refine ⟨?_,hh⟩;unfold rI9;rw [<- hu];unfold gtF;rw [hh];rfl
end
end Go.Proofs.YtkbafjceglhjhaaGreatDoor.Er
namespace Go.Proofs.YtkbafjceglhjhaaGreatDoor.Er
open Go.Sy Go Go.Proofs.YtkbafjceglhjhaaGreatDoor.Ed Go.Proofs.YtkbafjceglhjhaaGreatDoor.Sh
set_option maxRecDepth 100000
set_option maxHeartbeats 1000000
theorem AfS:(List.range 16).all (λk=>!seq (BA (Int.ofNat k)) [])=true:=by kernel_rfl
theorem Yc {k:Nat} (h:k<16):seq (BA (Int.ofNat k)) []=false:=by
 have:=List.all_eq_true.1 AfS k (by simpa using h);simpa using this
section
variable {s:Sh7}
theorem S8 (hx:Gx s) (u:Nat):∀ m,m <= s.nx->∀ x,x ∈ locL s m u->∃ k,k<16∧x=Int.ofNat k
 | 0,_,x,h=>by cases h
 | m+1,hm,x,h=>by
  rw [locL] at h;cases hc:Nat.beq u (toN (s.X m).th) && ieq (Iz (B5 (locL s m u)) (Ew (locL s m u)) (s.X m).loc) 0 with
  | true =>
   rw [hc,cond_true] at h;rcases List.mem_append.1 h with h | h
   ·exact S8 hx u m (by omega) x h
   ·simp at h
    subst h;exact hx.loc m (by omega)
  | false =>rw [hc,cond_false] at h;exact S8 hx u m (by omega) x h
theorem Yw:∀ t,∀ e,e ∈ inL s t->∃ u j,j<B5 (locL s s.nx u)∧e=ntI s u j
 | 0,e,h=>by cases h
 | t+1,e,h=>by
  rw [inL] at h;rcases List.mem_append.1 h with h | h
  ·exact Yw t e h
  ·unfold inT at h
   obtain ⟨j,hj,rfl⟩:=List.mem_map.1 h;exact ⟨t,j,by simpa using hj,rfl⟩
end
end Go.Proofs.YtkbafjceglhjhaaGreatDoor.Er
