/-
  Layer 12: what is asked may be asked; a shape's test, of any shape and any name, on both sides. No conditions.
-/
import Derived.Test.YtkbafjceglhjhaaGreatDoorEtD
import Derived.Test.YtkbafjceglhjhaaGreatDoorErW
namespace Go.Proofs.YtkbafjceglhjhaaGreatDoor.Er
open Go.Sy Go Go.Proofs.YtkbafjceglhjhaaGreatDoor.Ed Go.Proofs.YtkbafjceglhjhaaGreatDoor.Sh Go.Proofs.YtkbafjceglhjhaaGreatDoor.Em
open Int (ofNat)
set_option maxRecDepth 100000
set_option maxHeartbeats 1000000
theorem AgR {k:Nat} (hk:k<16):UY (Cb (ofNat k))=true:=by
 have:k=0 ∨ k=1 ∨ k=2 ∨ k=3 ∨ k=4 ∨ k=5 ∨ k=6 ∨ k=7 ∨ k=8 ∨ k=9 ∨ k=10 ∨ k=11 ∨ k=12 ∨ k=13 ∨ k=14 ∨ k=15:=by omega
 rcases this with rfl | rfl | rfl | rfl | rfl | rfl | rfl | rfl | rfl | rfl | rfl | rfl | rfl | rfl | rfl | rfl <;> rfl
def XP (p:Tg×Int):Prop:=tgB p.1.th p.1.rg p.1.lc=true∧HH p.2=true
theorem AhT {l:List (Tg×Int)} (h:∀ p,p ∈ l->XP p):(AV l.length λi=>tgB (gT l i).th (gT l i).rg (gT l i).lc)=true∧(AV l.length λi=>HH (gW l i))=true:=by
 have key:∀ i,i<l.length->XP (l.getD i (⟨0,0,[]⟩,0)):=λi hi=>h _ (by simp [List.getD,hi]);exact ⟨A8.2 λi hi=>(key i hi).1,A8.2 λi hi=>(key i hi).2⟩
theorem Xs {x:Nat->Ev5} {rg:Nat->Int} {m:Nat} (h:∀ i,i<m->ieq (x i).dir 1=true->XP (⟨(x i).th,rg i,[]⟩,(x i).val)):∀ i,i <= m->∀ p,p ∈ evL x rg i->XP p
 | 0,_,p,hp=>by cases hp
 | i+1,hi,p,hp=>by
  cases hc:ieq (x i).dir 1 with
  | true =>
   rw [Am1 hc] at hp;rcases List.mem_append.1 hp with hp | hp
   ·exact Xs h i (by omega) p hp
   ·simp only [List.mem_cons,List.not_mem_nil,or_false] at hp
    subst hp;exact h i (by omega) hc
  | false =>rw [Am2 hc] at hp;exact Xs h i (by omega) p hp
theorem Ads {l:List (Tg×Int)} {ln s1:Nat->Nat} {A:Nat} (hl:∀ p,p ∈ l->XP p) (h:∀ i,i<A->s1 i<16∧ln (s1 i) <= 1000):∀ b,b <= A->∀ p,p ∈ loL l ln s1 b->XP p
 | 0,_,p,hp=>hl p hp
 | b+1,hb,p,hp=>by
  rw [loL] at hp;rcases List.mem_append.1 hp with hp | hp
  ·exact Ads hl h b (by omega) p hp
  ·simp only [List.mem_cons,List.not_mem_nil,or_false] at hp
   subst hp;obtain ⟨h1,h2⟩:=h b (by omega);refine ⟨?_,?_⟩
   ·show (bif ieq (-1) (-1) then (ieq 0 0 && UY (Cb (ofNat (s1 b)))) else _)=true
    rw [AgR h1];rfl
   ·unfold HH
    rw [show ile (-2147483648) (ofNat (ln (s1 b)))=true from decide_eq_true (by simp only [Int.ofNat_eq_natCast]; omega)];exact decide_eq_true (by simp only [Int.ofNat_eq_natCast]; omega)
theorem AkP {s:Sh7} (hg:Gs s) (hx:Gx s) {i:Nat} (hi:i<s.nx) (hr:ieq (s.X i).dir 1=true):0 <= rg9 s i∧rg9 s i<32:=by
 have hT:isT s (toN (s.X i).th) i=true:=Nat.beq_refl _;have hh:hsF s s.nx (toN (s.X i).th) (ofNat i)=true:=by
  rw [G6];unfold hsX isT;rw [show toN (ofNat i)=i from rfl,Nat.beq_refl,show isR s i=true from hr,ofNat_lt hi,show ile 0 (ofNat i)=true from decide_eq_true (Int.natCast_nonneg _)];rfl
 have h1:=Amf hg hx (toN (s.X i).th);have h2:=Ap0 hg hx hi hT;have e:rg9 s i=((7+Bm (locL s s.nx (toN (s.X i).th))+nrF s i (toN (s.X i).th):Nat):Int):=by
  unfold rg9;rw [hh];show rI9 s i=_;unfold rI9 gtF;rw [hh];rfl
 rw [e];omega
theorem Abo {s:Sh7} (h:ieq (CQ s) 0=true):ZA s=true:=by
 have hg:=good h;have hx:=Aqq h;have hp:=Bw (Cy hg);have hc:BU s=true:=by
  cases hc:BU s with
  | true=>rfl
  | false =>unfold CQ at h;rw [hc] at h;cases h
 have hc0:=hc;unfold BU at hc;obtain ⟨h1,hc⟩:=A9 hc;unfold IF at hc;obtain ⟨_,hc⟩:=A9 hc;obtain ⟨_,hc⟩:=A9 hc;obtain ⟨hkk,hc⟩:=A9 hc;obtain ⟨hE,hc⟩:=A9 hc;obtain ⟨_,hc⟩:=A9 hc;obtain ⟨_,hc⟩:=A9 hc;obtain ⟨hJ,_⟩:=A9 hc;have hy:=Bt h1;have hG:=DN hy;have hE:∀ i,i<s.ne->s.E i=shG s.ne s.E i:=(HB.1 hE).2;have hle:kkN s.ne (shG s.ne s.E) <= s.ne:=B2 _ _;have hne:=hg.ne;have hhi:=hg.hi;have hkk:s.kk=ofNat (kkN s.ne (shG s.ne s.E)):=BP hkk;unfold FS at hJ;obtain ⟨hnc,_⟩:=A9 hJ;have hnc:s.nc=kkN s.ne (shG s.ne s.E):=Int.ofNat.inj (BP hnc);have hkt:toN s.kk=kkN s.ne (shG s.ne s.E):=by rw [hkk]; rfl
 have hL:=AqU s;have hA:∀ p,p ∈ axR s (rg9 s)->XP p:=Ads (Xs (λi hi hr=>?_) s.nx (Nat.le_refl _)) (λi hi=>?_) _ (Nat.le_refl _)
 rotate_left
 ·have hu:=hp.2.2.2 i hi
  obtain ⟨hu1,hu2⟩:=A9 hu;have hu1:0 <= (s.X i).th:=of_decide_eq_true hu1;have hu2:(s.X i).th<ofNat (toN s.tt):=of_decide_eq_true hu2;have hu2:(s.X i).th<(toN s.tt:Int):=hu2;have ht:=hp.2.1;obtain ⟨r1,r2⟩:=AkP hg hx hi hr;refine ⟨?_,?_⟩
  ·show tgB (s.X i).th (rg9 s i) []=true
   unfold tgB;rw [show ieq (s.X i).th (-1)=false from decide_eq_false (by omega)];simp only [cond_false,Bool.and_eq_true];exact ⟨decide_eq_true hu1,decide_eq_true (by omega),decide_eq_true (by omega),decide_eq_true (by omega),rfl⟩
  ·obtain ⟨v1,v2⟩:=hx.val i hi
   have v1:(-2048:Int) <= (s.X i).val:=of_decide_eq_true v1;have v2:(s.X i).val <= 2047:=of_decide_eq_true v2;show HH (s.X i).val=true;unfold HH;rw [show ile (-2147483648) (s.X i).val=true from decide_eq_true (by omega)];exact decide_eq_true (by omega)
 ·obtain ⟨q1,q2,_⟩:=HA (P:=RL s) (show i<Ak (RL s) s.nc from hi)
  have q2:ofNat (lnS s (Gu s i))=ofNat 2:=BP (show ieq (ofNat (lnS s (Gu s i))) 2=true from q2);have:=Int.ofNat.inj q2;exact ⟨Nat.lt_of_lt_of_le q1 (by omega),by omega⟩
 obtain ⟨a1,a2⟩:=AhT hA;have hev:=M9 s.X (rg9 s) s.nx;have hsel:Mi s <= s.nc:=B2 _ _;have hlen:(axR s (rg9 s)).length <= 1023:=by
  show (loL (evL s.X (rg9 s) s.nx) (lnS s) (Gu s) (Mi s)).length <= 1023;rw [SN];omega
 unfold ZA UD;simp only [Bool.and_eq_true];refine ⟨decide_eq_true (by omega),hc0,Nat.ble_eq_true_of_le (by omega),Nat.ble_eq_true_of_le (by omega),?_,?_,Nat.ble_eq_true_of_le (by omega),Nat.ble_eq_true_of_le (by omega),Nat.ble_eq_true_of_le hlen,a1,a2⟩
 ·exact D9.2 λi hi=>by rw [hE i hi]; exact D9.1 hG.may i hi
 ·rw [hkt,hkk]
  exact eI _
def okT (s:Sh7) (nm:List UInt8):Bool:=ieq (CQ s) 0 && Qk nm
def erT (s:Sh7) (nm:List UInt8):Int:=bif ieq (CQ s) 0 then (bif Qk nm then 0 else 130) else CQ s
def Ary (s:Sh7) (nm:List UInt8) (l:List (Tg×Int)):Te:=⟨s.arch,nm,cyS s,AE (toN s.kk) (Dw (LA s)),teI s,ntA s,KA s,1,XJ l.length,(I7 l.length (gT l)).th,(I7 l.length (gT l)).rg,(I7 l.length (gT l)).lc,XK l.length (gW l),LV l.length,gT l,gW l⟩
def teG (s:Sh7) (nm:List UInt8):Te:=Ary s nm (axR s (rg9 s))
def teE:Te:=⟨0,[],[],0,λ_=>⟨0,0,[],[],0⟩,0,λ_=>[],0,0,0,0,[],0,0,λ_=>⟨0,0,[]⟩,λ_=>0⟩
def teT (s:Sh7) (nm:List UInt8):Te:=bif okT s nm then teG s nm else teE
def teJ (z:Te):Blk:=.jag ⟨63,1,z.t,λ_=>.nilS,0,72,8,λ_=>true,λu=>BI (z.K u),λu=>WT (z.K u),none⟩
def teV (z:Te) (e:Int):V×List Blk:=(.tup [.agg [iV z.a,.str z.nm,.str z.cy,.ref 0,.jref 1,iV z.q,iV z.kd,iV z.th,iV z.rg,.str z.lc,iV z.v,.ref 2],iV e],[.row 68 5 z.m (λk=>i5V (z.I k)),teJ z,.row 46 6 z.n (ED z.X z.f)])
def Z9:List V->A5
 | [v,.str nm]=>apS v λs=>.br (g3S s) (.br (Aq (Bq nm)) (.leaf (teV (teT s nm) (erT s nm))) .fail) .fail
 | _=>.fail
def noJ:Blk:=.row 46 6 0 (ED teE.X teE.f)
def Abr (e:Int):V×List Blk:=(.tup [.agg [iV 0,.str [],.str [],.ref 0,.jref 1,iV 0,iV 0,iV 0,iV 0,.str [],iV 0,.ref 2],iV e],[.row 68 5 0 Aa,jE,noJ])
def Aks:List V->A5
 | [v,.str nm]=>apS v λs=>.br (g3S s) (.br (Aq (Bq nm)) (.br (okT s nm) (.leaf (teV (teG s nm) 0)) (.leaf (Abr (erT s nm)))) .fail) .fail
 | _=>.fail
theorem Ac6 (e:Int):Ups (Ql e).1 (Ql e).2 (Abr e).1 (Abr e).2 :=
 .up (v:=(Ql e).1) (h:=(Ql e).2) (b:=noJ) (.row (by decide)) (λS w κ d hk=>VR.tupUp [] [iV e] (VR.aggUp [iV 0,.str [],.str [],.ref 0,.jref 1,iV 0,iV 0,iV 0,iV 0,.str [],iV 0] [] (VR.nilRef hk)) d) (.refl _ _)
theorem Afk {k:Nat} (h:Ap Tryz.prog Gl k VZ):Ap Tryz.prog Gl k Aks:=h.ups λvs v h' hv=>by
 unfold Aks at hv;unfold VZ;split at hv
 ·rename_i u nm
  obtain ⟨⟨v0,h0⟩,e1,e2⟩:=TM (F':=λs=>.br (g3S s) (.br (ieq (CQ s) 0) (.br (Aq (Bq nm)) (.br (Qk nm) (.br (ZA s) (.leaf (Ak3 s nm (axR s (rg9 s)))) .fail) (.leaf (Ql 130))) .fail) (.leaf (Ql (CQ s)))) .fail) (Q:=λr=>Ups r.1 r.2 v h') (λs hs=>by
   obtain ⟨hg,hs⟩:=Ac hs;obtain ⟨hn,hs⟩:=Ac hs;unfold okT erT at hs;cases hw:ieq (CQ s) 0 with
   | false =>rw [hw] at hs;cases Ab (show (T.leaf _).sem=_ from hs);exact ⟨Ql (CQ s),by rw [hg]; rfl,Ac6 _⟩
   | true =>
    cases ht:Qk nm with
    | false =>rw [hw,ht] at hs;cases Ab (show (T.leaf _).sem=_ from hs);exact ⟨Ql 130,by rw [hg,hn]; rfl,Ac6 _⟩
    | true =>rw [hw,ht] at hs;cases Ab (show (T.leaf _).sem=_ from hs);exact ⟨Ak3 s nm (axR s (rg9 s)),by rw [hg,hn,Abo hw]; rfl,.refl _ _⟩) hv
  exact ⟨v0,h0,e1,e2⟩
 ·cases hv
theorem XS {k:Nat} (h:Ap Tryz.prog Gl k VZ):Ap Tryz.prog Gl k Z9:=Mm (Afk h) λvs v h' hv=>by
 unfold Z9 at hv;unfold Aks;split at hv
 ·rename_i u nm
  obtain ⟨⟨v0,h0⟩,e1,e2,e3⟩:=TM (F':=λs=>.br (g3S s) (.br (Aq (Bq nm)) (.br (okT s nm) (.leaf (teV (teG s nm) 0)) (.leaf (Abr (erT s nm)))) .fail) .fail) (Q:=λr=>r.1=v∧Am r.2 h') (λs hs=>by
   obtain ⟨hg,hs⟩:=Ac hs;obtain ⟨hn,hs⟩:=Ac hs;cases ho:okT s nm with
   | false =>unfold teT at hs;rw [ho] at hs;cases Ab (show (T.leaf _).sem=_ from hs);exact ⟨Abr (erT s nm),by rw [hg,hn]; rfl,rfl,.cons (λj hj=>absurd hj (Nat.not_lt_zero j)) (.consB (.jag (λk hk=>absurd hk (Nat.not_lt_zero k)) (λ_ _=>rfl) (λ_ _=>rfl) λk hk=>absurd hk (Nat.not_lt_zero k)) (Am.refl _))⟩
   | true =>
    have he:erT s nm=0:=by
     unfold okT at ho;obtain ⟨o1,o2⟩:=Bool.and_eq_true_iff.1 ho;unfold erT;rw [o1,o2];rfl
    unfold teT at hs;rw [ho,he] at hs;cases Ab (show (T.leaf _).sem=_ from hs);exact ⟨teV (teG s nm) 0,by rw [hg,hn]; rfl,rfl,Am.refl _⟩) hv
  dsimp only at e2;subst e2;exact ⟨h0,e1,e3⟩
 ·cases hv
theorem Asd:Ap Tryz.prog Gl 26 Z9:=XS Asb
theorem Asa:Ap Tryz.prog Gl 27 Z9:=XS ArZ
end Go.Proofs.YtkbafjceglhjhaaGreatDoor.Er
namespace Go.Proofs.YtkbafjceglhjhaaGreatDoor.Er
open Go.Sy Go Go.Proofs.YtkbafjceglhjhaaGreatDoor.Ed Go.Proofs.YtkbafjceglhjhaaGreatDoor.Sh Go.Proofs.YtkbafjceglhjhaaGreatDoor.Em
open Int (ofNat)
set_option maxRecDepth 100000
set_option maxHeartbeats 1000000
structure C4 where
 s:Sh7
 nm:List UInt8
 z:Te
 e:Int
 g:Nat->V
def tsW (z:Te) (r:Nat):V:=.agg [iV z.a,.str z.nm,.str z.cy,.ref r,.jref (r+1),iV z.q,iV z.kd,iV z.th,iV z.rg,.str z.lc,iV z.v,.ref (r+2)]
def vs4 (s:C4):List V:=jsV 78 0 (λ_=>AK) [(0,shL s.s),(1,.str s.nm),(2,.ptr 0 0),(4,bV false),(5,.ptr 5 0),(6,.ptr 9 0),(7,iV s.e),(8,.ptr 13 0),(9,iV s.e),(10,.ptr 17 0),(11,iV s.e),(14,shL s.s),(15,twL s.s),(16,.tup [tsW s.z 6,iV s.e]),(17,twL s.s),(18,.str s.nm),(19,.tup [tsW s.z 6,iV s.e]),(20,tsW s.z 6),(21,iV s.e),(22,.tup [tsW s.z 10,iV s.e]),(23,twL s.s),(24,.str s.nm),(25,.tup [tsW s.z 10,iV s.e]),(26,tsW s.z 10),(27,iV s.e),(28,.tup [tsW s.z 14,iV s.e]),(29,shL s.s),(30,.str s.nm),(31,.tup [tsW s.z 14,iV s.e]),(32,tsW s.z 14),(33,iV s.e),(34,iV s.e),(35,iV s.e),(36,bV (AQ (ieq s.e s.e))),(37,bV (AQ (ieq s.e s.e))),(38,tsW s.z 6),(39,tsW s.z 14),(40,bV true),(41,bV (AQ true)),(42,bV (AQ true)),(43,bV (AQ true)),(44,tsW s.z 10),(45,tsW s.z 14),(46,bV true),(47,bV (AQ true)),(48,bV (AQ true)),(49,bV (AQ true)),(50,twL s.s),(51,shL s.s),(52,bV true),(53,bV (AQ true)),(54,bV (AQ true)),(55,tsW s.z 6)]
def H4 (s:C4) (n:Nat) (ln:Nat->Nat) (K:Nat->Nat->In8) (m:Nat) (f:Nat->Ini5):List Blk:=[cl7 s.s,.row 76 6 s.s.ne (λi=>eV (s.s.E i)),.row 74 5 s.s.nx (λi=>evV (s.s.X i)),.row 3 1 s.s.nr (λi=>iV (s.s.R i)),.jag ⟨24,1,s.s.nc,λ_=>.und,0,3,1,λ_=>true,λu=>(s.s.C u).1,λu k=>iV ((s.s.C u).2 k),none⟩,.cells [iV s.s.arch,.ref 1,.ref 2,iV s.s.tt,iV s.s.kk,.ref 3,.jref 4],
 .row 68 5 m (λk=>i5V (f k)),.jag ⟨63,1,n,λ_=>.nilS,0,72,8,λ_=>true,ln,λw k=>i8V (K w k),none⟩,.row 46 6 s.z.n s.g,.cells [iV s.z.a,.str s.z.nm,.str s.z.cy,.ref 6,.jref 7,iV s.z.q,iV s.z.kd,iV s.z.th,iV s.z.rg,.str s.z.lc,iV s.z.v,.ref 8],.row 68 5 s.z.m (λk=>i5V (s.z.I k)),teJ s.z,.row 46 6 s.z.n (ED s.z.X s.z.f),.cells [iV s.z.a,.str s.z.nm,.str s.z.cy,.ref 10,.jref 11,iV s.z.q,iV s.z.kd,iV s.z.th,iV s.z.rg,.str s.z.lc,iV s.z.v,.ref 12],.row 68 5 s.z.m (λk=>i5V (s.z.I k)),teJ s.z,.row 46 6 s.z.n (ED s.z.X s.z.f),.cells [iV s.z.a,.str s.z.nm,.str s.z.cy,.ref 14,.jref 15,iV s.z.q,iV s.z.kd,iV s.z.th,iV s.z.rg,.str s.z.lc,iV s.z.v,.ref 16],.saved (vs4 s),.cells [iV s.z.a,.str s.z.nm,.str s.z.cy,.ref 6,.jref 7,iV s.z.q,iV s.z.kd,iV s.z.th,iV s.z.rg,.str s.z.lc,iV s.z.v,.ref 8]]
def H4X (s:C4) (n:Nat) (ln:Nat->Nat) (mem:Nat->Nat->V) (m:Nat) (g:Nat->V):List Blk:=[cl7 s.s,.row 76 6 s.s.ne (λi=>eV (s.s.E i)),.row 74 5 s.s.nx (λi=>evV (s.s.X i)),.row 3 1 s.s.nr (λi=>iV (s.s.R i)),.jag ⟨24,1,s.s.nc,λ_=>.und,0,3,1,λ_=>true,λu=>(s.s.C u).1,λu k=>iV ((s.s.C u).2 k),none⟩,.cells [iV s.s.arch,.ref 1,.ref 2,iV s.s.tt,iV s.s.kk,.ref 3,.jref 4],
 .row 68 5 m (g),.jag ⟨63,1,n,λ_=>.nilS,0,72,8,λ_=>true,ln,mem,none⟩,.row 46 6 s.z.n s.g,.cells [iV s.z.a,.str s.z.nm,.str s.z.cy,.ref 6,.jref 7,iV s.z.q,iV s.z.kd,iV s.z.th,iV s.z.rg,.str s.z.lc,iV s.z.v,.ref 8],.row 68 5 s.z.m (λk=>i5V (s.z.I k)),teJ s.z,.row 46 6 s.z.n (ED s.z.X s.z.f),.cells [iV s.z.a,.str s.z.nm,.str s.z.cy,.ref 10,.jref 11,iV s.z.q,iV s.z.kd,iV s.z.th,iV s.z.rg,.str s.z.lc,iV s.z.v,.ref 12],.row 68 5 s.z.m (λk=>i5V (s.z.I k)),teJ s.z,.row 46 6 s.z.n (ED s.z.X s.z.f),.cells [iV s.z.a,.str s.z.nm,.str s.z.cy,.ref 14,.jref 15,iV s.z.q,iV s.z.kd,iV s.z.th,iV s.z.rg,.str s.z.lc,iV s.z.v,.ref 16],.saved (vs4 s),.cells [iV s.z.a,.str s.z.nm,.str s.z.cy,.ref 6,.jref 7,iV s.z.q,iV s.z.kd,iV s.z.th,iV s.z.rg,.str s.z.lc,iV s.z.v,.ref 8]]
def Agq:List Blk:=[.saved C3,.saved C3,.saved C3,.saved C3,.saved C3,.saved C3,.saved C3,.saved C3,.saved C3,.saved C3,.saved C3,.saved C3,.saved C3,.saved C3,.saved C3,.saved C3,.saved C3,.saved C3,.saved C3,.saved C3]
def Aj4 (s:C4) (n:Nat) (ln:Nat->Nat) (m:Nat) (f:Nat->Ini5) (u:Nat) (K:Nat->Nat->In8) (c:Int):St:=⟨jsV 85 0 Aa [(1,.ptr 19 0),(2,nV u),(3,iV c)],H4 s n ln K m f⟩
def U19 (s:C4) (n:Nat) (ln:Nat->Nat) (m:Nat) (f:Nat->Ini5) (q:Nat) (K:Nat->Nat->In8) (c:Int):St:=⟨jsV 85 0 Aa [(1,.ptr 19 0),(q,iV c)],H4 s n ln K m f⟩
def Aj3 (s:C4) (n:Nat) (ln:Nat->Nat) (K:Nat->Nat->In8) (m:Nat) (f:Nat->Ini5) (c:Int):St:=⟨jsV 85 0 Aa [(1,.ptr 19 0),(4,iV c)],H4 s n ln K m f⟩
def y19 (s:C4) (n:Nat) (ln:Nat->Nat) (m:Nat) (K:Nat->Nat->In8) (f:Nat->Ini5):St:=⟨jsV 85 0 Aa [(1,.ptr 19 0)],H4 s n ln K m f⟩
def AeN (ln:Nat->Nat) (K:Nat->Nat->In8) (i j:Nat) (c:Int):St:=⟨jsV 85 0 Aa [(1,.ptr 19 0),(5,nV i),(6,.ref 20),(7,iV c)],Agq++[.xrow true 72 8 (ln i+j) (G19 (ln i) (λk=>i8V (K i k)) (i8V ⟨wr .i64 (Bz (-100) (ofNat i)),0,0,0,0,[],[],0⟩) j)]⟩
def XM (m:Nat) (f:Nat->Ini5) (j:Nat) (c:Int):St:=⟨jsV 85 0 Aa [(1,.ptr 19 0),(8,.ref 20),(9,iV c)],Agq++[.xrow true 68 5 (m+j) (G19 m (λk=>i5V (f k)) (i5V ⟨-10,0,[],[],0⟩) j)]⟩
def AcA:Lp:=⟨bmK 85 0 [1,2,3],20,bmK 85 0 [1,2],20,4611686018427387905⟩
def Ap7:Lp:=⟨bmK 85 0 [1,2],20,bmK 85 0 [1],20,4611686018427387905⟩
def Ac9:Lp:=⟨bmK 85 0 [1,4],20,bmK 85 0 [1],20,4611686018427387905⟩
def Ac8:Lp:=⟨bmK 85 0 [1,5],20,bmK 85 0 [1],20,4611686018427387905⟩
def As7:Lp:=⟨bmK 85 0 [1,5,6,7],20,bmK 85 0 [],0,4611686018427387905⟩
def OJ:Lp:=⟨bmK 85 0 [1,5,6,7],21,bmK 85 0 [1,5],21,4611686018427387905⟩
def Ap8:Lp:=⟨bmK 85 0 [1,8,9],20,bmK 85 0 [],0,4611686018427387905⟩
def Le:Lp:=⟨bmK 85 0 [1,8,9],21,bmK 85 0 [1],21,4611686018427387905⟩
def Ap6:List (Nat×Lp×List (Nat×(Nat->V))):=[(0,Ap7,[]),(2,AcA,[]),(4,Ac9,[]),(6,Ac8,[])]
def Aqn:List (Nat×Nat×Lp×Lp):=[(8,6,As7,OJ),(10,8,Ap8,Le)]
def lp44:Lp:=⟨bmK 41 0 [1,2],22,bmK 41 0 [1],22,4611686018427387905⟩
def AcQ:Lp:=⟨bmK 41 0 [1,3],22,bmK 41 0 [1],22,4611686018427387905⟩
def Aqd:Lp:=⟨bmK 41 0 [1,4,5],22,bmK 41 0 [],0,4611686018427387905⟩
def OT:Lp:=⟨bmK 41 0 [1,4,5],23,bmK 41 0 [1],23,4611686018427387905⟩
def ApA:List (Nat×Lp×List (Nat×(Nat->V))):=[(0,lp44,[]),(2,AcQ,[])]
def Aqv:List (Nat×Nat×Lp×Lp):=[(4,4,Aqd,OT)]
noncomputable def d44:FuncId->List V->St->T (V×Res):=Ji [(44,M3 tab ⟨c44,Go.Sy.askF Aqv ApA,Gl⟩ Tryz.f44)] (Aw [])
theorem Am6:Bu Tryz.prog ⟨d44,Gl⟩:=F6 mixed (.cons rfl A2 AmF (Zs _ _ _ _) Tryz.func44 (by kernel_rfl) (by kernel_rfl) .nil) (Ek (Γ:=⟨Aw [],Gl⟩) rfl .nil)
theorem AmM {n i b:Nat} (hn:n <= 1500) (hi:i<20) (hb:b <= 1000:=by decide):Bs (n+i) 1 b=true:=decide_eq_true (by
 have:(n+i+1) * b <= 1600 * 1000:=Nat.mul_le_mul (by omega) hb;omega)
noncomputable def C19 (id:Nat):St->T (Ex×St):=λst=>AA tab ⟨d44,Go.Sy.askF Aqn Ap6,Gl⟩ (As Tryz.f19 id) id st
section
variable (s:C4) {n:Nat} {ln:Nat->Nat} (K:Nat->Nat->In8) (m:Nat) (f:Nat->Ini5)
theorem AnK {u:Nat} (hu:u<n) (hn:ln u <= 80):(Av (C19 2) AcA 4611686018427387905 (Aj4 s n ln m f u (spM ln K u 0) 0)).sem=some (.ex 2,U19 s n ln m f 2 (spM ln K u (ln u)) (ofNat u)) :=
 Bv (S:=λi=>Aj4 s n ln m f u (spM ln K u i) (ofNat i)) (m:=ln u) (show (Ex.ex 2) ≠ .nm from nofun) (λi hi=>DW.rd (.k (Ad hu) <| .k (decide_eq_true hu) <| .r 2 eT <| .k (ofNat_lt hi) <| .k (Ad hu) <| .k (decide_eq_true hu) <| .r 2 eT <| .k (Ad hi) <| .k eT <| .k (decide_eq_true hi) <| .e (show (Ex.nm,(⟨jsV 85 0 Aa [(1,.ptr 19 0),(2,nV u),(3,iV (wr .i64 (Ai (ofNat i) 1)))],H4X s n ln (Dn (λw k=>i8V (spM ln K u i w k)) u (BD (λk=>i8V (spM ln K u i u k)) i (i8V (spC u)))) m (λk=>i5V (f k))⟩:St))=_ from by rw [AfV,D6 (i:=i) (by omega)]; rfl)) (by kernel_rfl)) (DW.rd (.k (Ad hu) <| .k (decide_eq_true hu) <| .r 2 eT <| .k (DY (ln u)) .l) (by kernel_rfl)) (by omega)
theorem v19 (hn:n <= 16) (hs:∀ i,i<n->ln i <= 80):(Av (C19 0) Ap7 4611686018427387905 (U19 s n ln m f 2 (spM ln K 0 0) 0)).sem=some (.ex 0,y19 s n ln m (spM ln K n 0) f) :=
 Bv (S:=λi=>U19 s n ln m f 2 (spM ln K i 0) (ofNat i)) (m:=n) (show (Ex.ex 0) ≠ .nm from nofun) (λi hi=>DW.rd (.k (ofNat_lt hi) <| .a (AnK s K m f hi (hs i hi)) <| .e (nm2 (f:=U19 s n ln m f 2) (AmU K ln i) (D6 (by omega)))) (by kernel_rfl)) (DW.rd (.k (DY n) .l) (by kernel_rfl)) (by omega)
theorem AnJ (n:Nat) (ln:Nat->Nat) (hm:m <= 1500):(Av (C19 4) Ac9 4611686018427387905 (Aj3 s n ln K m (spN f 0) 0)).sem=some (.ex 4,y19 s n ln m K (spN f m)) :=
 Bv (S:=λi=>Aj3 s n ln K m (spN f i) (ofNat i)) (m:=m) (show (Ex.ex 4) ≠ .nm from nofun) (λi hi=>DW.rd (.k (ofNat_lt hi) <| .k (Ad hi) <| .k (decide_eq_true hi) <| .e (show (Ex.nm,(⟨jsV 85 0 Aa [(1,.ptr 19 0),(4,iV (wr .i64 (Ai (ofNat i) 1)))],H4X s n ln (λw k=>i8V (K w k)) m (BD (λk=>i5V (spN f i k)) i (i5V spI))⟩:St))=_ from by rw [AfU,D6 (i:=i) (by omega)]; rfl)) (by kernel_rfl)) (DW.rd (.k (DY m) .l) (by kernel_rfl)) (by omega)
def su8 (s:C4) (n:Nat) (ln:Nat->Nat) (K:Nat->Nat->In8) (m:Nat) (f:Nat->Ini5) (i:Nat):St:=⟨jsV 85 0 Aa [(1,.ptr 19 0),(5,nV i),(6,.mref 7 i),(7,iV 0)],H4 s n ln K m f⟩
def Aoa (s:C4) (n:Nat) (ln:Nat->Nat) (K:Nat->Nat->In8) (m:Nat) (f:Nat->Ini5):St:=⟨jsV 85 0 Aa [(1,.ptr 19 0),(8,.ref 6),(9,iV 0)],H4 s n ln K m f⟩
theorem AnH (i:Nat) (hs:ln i <= 80):(Av (C19 8) OJ 4611686018427387905 (AeN ln K i 0 0)).sem=some (.ex 8,⟨jsV 85 0 Aa [(1,.ptr 19 0),(5,nV i)],Agq++[.xrow true 72 8 (ln i+20) (G19 (ln i) (λk=>i8V (K i k)) (i8V ⟨wr .i64 (Bz (-100) (ofNat i)),0,0,0,0,[],[],0⟩) 20)]⟩) :=
 Bv (S:=λj=>AeN ln K i j (ofNat j)) (m:=20) (show (Ex.ex 8) ≠ .nm from nofun) (λj hj=>DW.rd (.k (ofNat_lt (n:=20) hj) <| .k (AmM (n:=ln i) (i:=j) (b:=80) (by omega) hj) <| .e (nm1 (f:=AeN ln K i (j+1)) (D6 (i:=j) (by omega)))) (by kernel_rfl))
  (DW.rd (.k (show ilt (ofNat 20) 20=false from rfl) .l) (by kernel_rfl)) (by omega)
theorem AnE (n:Nat) (i:Nat) (hs:ln i <= 80):Lj (C19 8) OJ 6 (su8 s n ln K m f i) (72,8,ln i,λk=>i8V (K i k))=some (.ex 8,U19 s n ln m f 5 K (ofNat i)):=by
 unfold Lj;rw [show (Av (C19 8) OJ OJ.fuel (O3 (su8 s n ln K m f i) 6 (72,8,ln i,λk=>i8V (K i k)))).sem=some _ from AnH K i hs];rfl
theorem AnI (hn:n <= 16) (hs:∀ i,i<n->ln i <= 80):(Av (C19 6) Ac8 4611686018427387905 (U19 s n ln m f 5 K 0)).sem=some (.ex 6,y19 s n ln m K f) :=
 Bv (S:=λi=>U19 s n ln m f 5 K (ofNat i)) (m:=n) (show (Ex.ex 6) ≠ .nm from nofun) (λi hi=>DW.rd (.k (ofNat_lt hi) <| .k (Ad hi) <| .k (decide_eq_true hi) <| .k eT <| .k eT <| .a (AnE s K m f n i (hs i hi)) <| .e (nm1 (f:=U19 s n ln m f 5 K) (D6 (by omega)))) (by kernel_rfl)) (DW.rd (.k (DY n) .l) (by kernel_rfl)) (by omega)
theorem Akp (hm:m <= 1500):(Av (C19 10) Le 4611686018427387905 (XM m f 0 0)).sem=some (.ex 10,⟨jsV 85 0 Aa [(1,.ptr 19 0)],Agq++[.xrow true 68 5 (m+20) (G19 m (λk=>i5V (f k)) (i5V ⟨-10,0,[],[],0⟩) 20)]⟩) :=
 Bv (S:=λj=>XM m f j (ofNat j)) (m:=20) (show (Ex.ex 10) ≠ .nm from nofun) (λj hj=>DW.rd (.k (ofNat_lt (n:=20) hj) <| .k (AmM (n:=m) (i:=j) (b:=56) hm hj) <| .e (nm1 (f:=XM m f (j+1)) (D6 (i:=j) (by omega)))) (by kernel_rfl))
  (DW.rd (.k (show ilt (ofNat 20) 20=false from rfl) .l) (by kernel_rfl)) (by omega)
theorem Ako (n:Nat) (ln:Nat->Nat) (hm:m <= 1500):Lj (C19 10) Le 8 (Aoa s n ln K m f) (68,5,m,λk=>i5V (f k))=some (.ex 10,y19 s n ln m K f):=by
 unfold Lj;rw [show (Av (C19 10) Le Le.fuel (O3 (Aoa s n ln K m f) 8 (68,5,m,λk=>i5V (f k)))).sem=some _ from Akp m f hm];rfl
end
end Go.Proofs.YtkbafjceglhjhaaGreatDoor.Er
namespace Go.Proofs.YtkbafjceglhjhaaGreatDoor.Er
open Go.Sy Go Go.Proofs.YtkbafjceglhjhaaGreatDoor.Ed Go.Proofs.YtkbafjceglhjhaaGreatDoor.Sh Go.Proofs.YtkbafjceglhjhaaGreatDoor.Em
set_option maxRecDepth 100000
set_option maxHeartbeats 1000000
structure Kd where
 kd:Int
 th:Int
 rg:Int
 lc:List UInt8
 v:Int
def kdR (e:Kd):V:=.agg [iV e.kd,iV e.th,iV e.rg,.str e.lc,iV e.v,.nilS]
def kdO (z:Te) (k:Nat):Kd:=⟨2,(z.X k).th,(z.X k).rg,(z.X k).lc,z.f k⟩
def spE:Kd:=⟨-9,0,0,[],77⟩
def enK:V:=kdR ⟨-8,0,0,[],0⟩
def spG (g:Nat->Kd) (i k:Nat):Kd:=bif Nat.blt k i then spE else g k
theorem AfW (g:Nat->Kd) (i:Nat):BD (λk=>kdR (spG g i k)) i (kdR spE)=λk=>kdR (spG g (i+1) k):=by
 funext k;rw [DO];unfold spG;by_cases hk:k=i
 ·subst hk
  rw [show Nat.beq k k=true from Nat.beq_refl k,HY];rfl
 ·rw [Hx hk,HZ hk]
  rfl
def gC (s:C4) (g:Nat->V):C4:=⟨s.s,s.nm,s.z,s.e,g⟩
def t44 (s:C4):List Blk:=[.saved (jsV 85 0 Aa [(1,.ptr 19 0),(81,.ptr 19 5),(82,.ptr 19 6),(83,.agg [iV s.z.kd,iV s.z.th,iV s.z.rg,.str s.z.lc,iV s.z.v,.ref 8])]),.cells [iV s.z.kd,iV s.z.th,iV s.z.rg,.str s.z.lc,iV s.z.v,.ref 8]]
def H44 (s:C4) (n:Nat) (ln:Nat->Nat) (K:Nat->Nat->In8) (m:Nat) (f:Nat->Ini5) (g:Nat->V):List Blk:=H4 (gC s g) n ln K m f++t44 s
def U44 (s:C4) (n:Nat) (ln:Nat->Nat) (K:Nat->Nat->In8) (m:Nat) (f:Nat->Ini5) (c:Int):St:=⟨jsV 41 0 Aa [(1,.ptr 21 0),(2,iV c)],H44 s n ln K m f (ED s.z.X s.z.f)⟩
def AeM (s:C4) (n:Nat) (ln:Nat->Nat) (K:Nat->Nat->In8) (m:Nat) (f:Nat->Ini5) (g:Nat->V) (c:Int):St:=⟨jsV 41 0 Aa [(1,.ptr 21 0),(3,iV c)],H44 s n ln K m f g⟩
def y44 (s:C4) (n:Nat) (ln:Nat->Nat) (K:Nat->Nat->In8) (m:Nat) (f:Nat->Ini5) (g:Nat->V):St:=⟨jsV 41 0 Aa [(1,.ptr 21 0)],H44 s n ln K m f g⟩
def AnZ (s:C4) (n:Nat) (ln:Nat->Nat) (K:Nat->Nat->In8) (m:Nat) (f:Nat->Ini5) (g:Nat->V):St:=⟨jsV 41 0 Aa [(1,.ptr 21 0),(4,.ref 8),(5,iV 0)],H44 s n ln K m f g⟩
def Apf:List Blk:=[.saved C3,.saved C3,.saved C3,.saved C3,.saved C3,.saved C3,.saved C3,.saved C3,.saved C3,.saved C3,.saved C3,.saved C3,.saved C3,.saved C3,.saved C3,.saved C3,.saved C3,.saved C3,.saved C3,.saved C3,.saved C3,.saved C3]
def AeL (n:Nat) (g:Nat->V) (j:Nat) (c:Int):St:=⟨jsV 41 0 Aa [(1,.ptr 21 0),(4,.ref 22),(5,iV c)],Apf++[.xrow true 46 6 (n+j) (G19 n g enK j)]⟩
noncomputable def B44 (id:Nat):St->T (Ex×St):=λst=>AA tab ⟨c44,Go.Sy.askF Aqv ApA,Gl⟩ (As Tryz.f44 id) id st
section
variable (s:C4) (n:Nat) (ln:Nat->Nat) (K:Nat->Nat->In8) (m:Nat) (f:Nat->Ini5)
theorem v44 (hn:s.z.n <= 1023):(Av (B44 0) lp44 4611686018427387905 (U44 s n ln K m f 0)).sem=some (.ex 0,y44 s n ln K m f (ED s.z.X s.z.f)) :=
 Bv (S:=λi=>U44 s n ln K m f (Int.ofNat i)) (m:=s.z.n) (show (Ex.ex 0) ≠ .nm from nofun) (λi hi=>DW.rd (.k (ofNat_lt hi) <| .k (Ad hi) <| .k (show nlt i s.z.n=true from decide_eq_true hi) <| .r 2 eF <| .r 18 eT <| .k eF <| .e (nm1 (f:=U44 s n ln K m f) (D6 (by omega)))) (by kernel_rfl)) (DW.rd (.k (DY s.z.n) .l) (by kernel_rfl)) (by omega)
theorem AnG (g:Nat->Kd) (hn:s.z.n <= 1023):(Av (B44 2) AcQ 4611686018427387905 (AeM s n ln K m f (λk=>kdR (spG g 0 k)) 0)).sem=some (.ex 2,y44 s n ln K m f (λk=>kdR (spG g s.z.n k))) :=
 Bv (S:=λi=>AeM s n ln K m f (λk=>kdR (spG g i k)) (Int.ofNat i)) (m:=s.z.n) (show (Ex.ex 2) ≠ .nm from nofun) (λi hi=>DW.rd (.k (ofNat_lt hi) <| .k (Ad hi) <| .k (show nlt i s.z.n=true from decide_eq_true hi) <| .e (nm2 (f:=AeM s n ln K m f) (AfW g i) (D6 (by omega)))) (by kernel_rfl)) (DW.rd (.k (DY s.z.n) .l) (by kernel_rfl)) (by omega)
theorem AnF (n:Nat) (g:Nat->V) (hn:n <= 1500):(Av (B44 4) OT 4611686018427387905 (AeL n g 0 0)).sem=some (.ex 4,⟨jsV 41 0 Aa [(1,.ptr 21 0)],Apf++[.xrow true 46 6 (n+9) (G19 n g enK 9)]⟩) :=
 Bv (S:=λj=>AeL n g j (Int.ofNat j)) (m:=9) (show (Ex.ex 4) ≠ .nm from nofun) (λj hj=>DW.rd (.k (ofNat_lt (n:=9) hj) <| .k (AmM (n:=n) (i:=j) (b:=72) hn (by omega)) <| .e (nm1 (f:=AeL n g (j+1)) (D6 (i:=j) (by omega)))) (by kernel_rfl))
  (DW.rd (.k (show ilt (Int.ofNat 9) 9=false from rfl) .l) (by kernel_rfl)) (by omega)
theorem AnB (g:Nat->V) (hn:s.z.n <= 1500):Lj (B44 4) OT 4 (AnZ s n ln K m f g) (46,6,s.z.n,g)=some (.ex 4,y44 s n ln K m f g):=by
 unfold Lj;rw [show (Av (B44 4) OT OT.fuel (O3 (AnZ s n ln K m f g) 4 (46,6,s.z.n,g))).sem=some _ from AnF s.z.n g hn];rfl
end
end Go.Proofs.YtkbafjceglhjhaaGreatDoor.Er
namespace Go.Proofs.YtkbafjceglhjhaaGreatDoor.Er
open Go.Sy Go Go.Proofs.YtkbafjceglhjhaaGreatDoor.Ed Go.Proofs.YtkbafjceglhjhaaGreatDoor.Sh Go.Proofs.YtkbafjceglhjhaaGreatDoor.Em
set_option maxRecDepth 100000
set_option maxHeartbeats 2000000
section
variable (s:Sh7) (nm:List UInt8)
def c4S:C4:=⟨s,nm,teT s nm,erT s nm,ED (teT s nm).X (teT s nm).f⟩
def kT (u k:Nat):In8:=Ah7 ((teT s nm).K u) k
def K4:Nat->Nat->In8:=spM (λu=>BI ((teT s nm).K u)) (kT s nm) (teT s nm).t 0
def teB:Prop:=(teT s nm).t <= 16∧(∀ i,BI ((teT s nm).K i) <= 80)∧(teT s nm).m <= 1500∧(teT s nm).n <= 1023
end
theorem Arx (s:Sh7) (nm:List UInt8):teB s nm:=by
 unfold teB teT;cases ho:okT s nm with
 | false=>exact ⟨Nat.zero_le _,λ_=>Nat.zero_le _,Nat.zero_le _,Nat.zero_le _⟩
 | true =>
  have hw:ieq (CQ s) 0=true:=(Bool.and_eq_true_iff.1 ho).1;obtain ⟨_,_,_,_,_,_,k10,_,k7⟩:=RN (Abo hw);have k10:=Nat.le_of_ble_eq_true k10;have hL:=AqU s;unfold UD at k7;have k7:=Nat.le_of_ble_eq_true (Bool.and_eq_true_iff.1 k7).1;refine ⟨Apy s,Ati s,?_,?_⟩
  ·show toN s.kk+Dw (LA s) <= 1500
   omega
  ·show LV (axR s (rg9 s)).length <= 1023
   unfold LV;cases Nat.ble (axR s (rg9 s)).length 1 with
   | true=>exact Nat.zero_le _
   | false=>exact k7
theorem Afw {s:Sh7} {nm:List UInt8} (h:teB s nm):teZ (teT s nm):=⟨Nat.le_trans h.2.2.1 (by decide),Nat.le_trans h.1 (by decide),λi _=>Nat.le_trans (h.2.1 i) (by decide),Nat.le_trans h.2.2.2 (by decide)⟩
theorem Asf {s:Sh7} {nm:List UInt8} (h:teB s nm):(teT s nm).m <= 4611686018427387904∧(teT s nm).t <= 4611686018427387904∧(∀ i,i<(teT s nm).m->spN (teT s nm).I (teT s nm).m i=spI)∧∀ i,i<(teT s nm).t->(BI ((teT s nm).K i),K4 s nm i).1 <= 4611686018427387904∧∀ k,k<(BI ((teT s nm).K i),K4 s nm i).1->(BI ((teT s nm).K i),K4 s nm i).2 k=spC i:=by
 refine ⟨Nat.le_trans h.2.2.1 (by decide),Nat.le_trans h.1 (by decide),λi hi=>?_,λi hi=>⟨Nat.le_trans (h.2.1 i) (by decide),λk hk=>?_⟩⟩
 ·unfold spN
  rw [show Nat.blt i (teT s nm).m=true from Nat.ble_eq_true_of_le hi];rfl
 ·show K4 s nm i k=spC i
  unfold K4 spM;rw [show Nat.blt i (teT s nm).t=true from Nat.ble_eq_true_of_le hi,show Nat.blt k (BI ((teT s nm).K i))=true from Nat.ble_eq_true_of_le hk];rfl
noncomputable def tb4:A7:=(8,shT twC)::(26,Z9)::(27,Z9)::(28,teS)::(18,W4)::(23,AeB)::(25,Acw)::[]
theorem tb4_ok:Ao Tryz.prog Gl tb4:=.cons p8d <| .cons Asd <| .cons Asa <| .cons ArY <| .cons Asi <| .cons Ase <| .cons p18 .nil
noncomputable def c4:FuncId->List V->St->T (V×Res):=Ji [(19,M3 tab ⟨d44,Go.Sy.askF Aqn Ap6,Gl⟩ Tryz.f19)] (Aw tb4)
theorem AqO:Bu Tryz.prog ⟨c4,Gl⟩:=F6 mixed (.cons rfl A2 Am6 (Zs _ _ _ _) Tryz.func19 (by kernel_rfl) (by kernel_rfl) .nil) (Ek (Γ:=⟨Aw tb4,Gl⟩) rfl tb4_ok)
def Aht:List V->A5
 | [v,.str nm]=>apS v λs=>.br (twS s) (.br (g3S s) (.br (Aq (Bq nm)) (.leaf (bV true,[])) .fail) .fail) .fail
 | _=>.fail
theorem p4:Ap Tryz.prog Gl 4 Aht:=by
 refine Ah A2 mixed Tryz.func4 (by kernel_rfl) (by kernel_rfl) λvs v h' h=>?_;unfold Aht at h;split at h
 ·rename_i u nm
  obtain ⟨s,a1,h⟩:=apS_some h;obtain ⟨ht,h⟩:=Ac h;obtain ⟨hg,h⟩:=Ac h;obtain ⟨hn,h⟩:=Ac h;cases Ab h;have hT:=Arx s nm;have hA:Ba [u,.str nm] [EC s,.str nm]:=λS w cs hq=>by
   obtain ⟨c,l,rfl,q1,q2⟩:=hq;exact ⟨c,_,rfl,a1 S w c q1,q2⟩
  exact ⟨_,⟨c4,Go.Sy.askL [],Gl⟩,_,hA,rfl,AqO,Fp _ _ _,DW.ok (.k (eL s.ne) <| .k (eL s.nx) <| .k (eL s.nr) <| .k (eL2 s.nc s.C) <| .k ht <| .k (eG [s.nc]) <| .k (eL s.ne) <| .k (eL s.nx) <| .k (eL s.nr) <| .k (eL2 s.nc s.C) <| .k hg <| .k hn <| .k (eR [((teT s nm).m,none),((teT s nm).t,some (λu=>BI ((teT s nm).K u))),((teT s nm).n,none)]) <| .k (eG [s.nc,(teT s nm).t]) <| .k (eL s.ne) <| .k (eL s.nx) <| .k (eL s.nr) <| .k (eL2 s.nc s.C) <| .k hg <| .k hn <| .k (eR [((teT s nm).m,none),((teT s nm).t,some (λu=>BI ((teT s nm).K u))),((teT s nm).n,none)]) <| .k (eL s.ne) <| .k (eL s.nx) <| .k (eL s.nr) <| .k (eL2 s.nc s.C) <| .k hg <| .k hn <| .r 3 (eN (eI (erT s nm))) <| .k (eG [s.nc,(teT s nm).t,(teT s nm).t,(teT s nm).t]) <| .k (sT (Afw hT)) <| .r 2 (eN (eI (erT s nm))) <| .r 3 (eN eT) <| .k (eG [s.nc,(teT s nm).t,(teT s nm).t,(teT s nm).t]) <| .k (sT (Afw hT)) <| .r 5 (eN eT) <| .k (eG [s.nc,(teT s nm).t,(teT s nm).t,(teT s nm).t]) <| .k (eL s.ne) <| .k (eL s.nx) <| .k (eL s.nr) <| .k (eL2 s.nc s.C) <| .k (eL s.ne) <| .k (eL s.nx) <| .k (eL s.nr) <| .k (eL2 s.nc s.C) <| .k (Ik (P18.self (A9 hg).2)) <| .r 3 (eN eT) <| .a (v19 (c4S s nm) (kT s nm) (teT s nm).m (teT s nm).I hT.1 λi _=>hT.2.1 i) <| .a (AnJ (c4S s nm) (K4 s nm) (teT s nm).m (teT s nm).I (teT s nm).t (λu=>BI ((teT s nm).K u)) hT.2.2.1) <| .a (AnI (c4S s nm) (K4 s nm) (teT s nm).m (spN (teT s nm).I (teT s nm).m) hT.1 λi _=>hT.2.1 i) <| .a (Ako (c4S s nm) (K4 s nm) (teT s nm).m (spN (teT s nm).I (teT s nm).m) (teT s nm).t (λu=>BI ((teT s nm).K u)) hT.2.2.1) <| .a (v44 (c4S s nm) (teT s nm).t (λu=>BI ((teT s nm).K u)) (K4 s nm) (teT s nm).m (spN (teT s nm).I (teT s nm).m) hT.2.2.2) <| .a (AnG (c4S s nm) (teT s nm).t (λu=>BI ((teT s nm).K u)) (K4 s nm) (teT s nm).m (spN (teT s nm).I (teT s nm).m) (kdO (teT s nm)) hT.2.2.2) <| .a (AnB (c4S s nm) (teT s nm).t (λu=>BI ((teT s nm).K u)) (K4 s nm) (teT s nm).m (spN (teT s nm).I (teT s nm).m) (λk=>kdR (spG (kdO (teT s nm)) (teT s nm).n k)) (Nat.le_trans hT.2.2.2 (by decide))) <| .k (eG [s.nc,(teT s nm).t,(teT s nm).t,(teT s nm).t]) <| .k (eL s.ne) <| .k (eL s.nx) <| .k (eL s.nr) <| .k (eL2 s.nc s.C) <| .k hg <| .k hn <| .k (eR [((teT s nm).m,none),((teT s nm).t,some (λu=>BI ((teT s nm).K u))),((teT s nm).n,none)]) <| .k (eG [s.nc,(teT s nm).t,(teT s nm).t,(teT s nm).t,(teT s nm).t]) <| .k (eL (teT s nm).m) <| .k (eLL (teT s nm).t (teT s nm).K) <| .k (Ik (Asf hT)) <| .r 3 eT <| .k (eG [s.nc,(teT s nm).t,(teT s nm).t,(teT s nm).t,(teT s nm).t]) <| .k (sT (Afw hT)) <| .r 4 eT <| .k (eG [s.nc,(teT s nm).t,(teT s nm).t,(teT s nm).t,(teT s nm).t]) <| .k (sT (Afw hT)) <| .r 3 eT <| .l) (by kernel_rfl),Am.refl _⟩
 ·cases h
end Go.Proofs.YtkbafjceglhjhaaGreatDoor.Er
namespace Go.Proofs.YtkbafjceglhjhaaGreatDoor.Sh
open Go.Sy Go Go.Proofs.YtkbafjceglhjhaaGreatDoor.Ed
theorem NQ {α β:Type} (c:Cod α) (n:Nat) (f:Nat->α) (F:Nat->(Nat->α)->T β) (h1:∀ x,c.ok (c.enc x)=true) (h2:∀ x,c.ed (c.enc x)=x):(apG c (Ei c n f) F).sem=(F n f).sem:=by
 have h0:Qt c.size (Ei c n f)=some (n,λi=>c.enc (f i)):=by
  show (match Nat.beq c.size c.size with
   | true=>some (n,λi=>c.enc (f i))
   | false=>match n with
    | 0=>some (0,λi=>c.enc (f i))
    | _=>none)=_
  rw [show Nat.beq c.size c.size=true from Nat.beq_refl _]
 unfold apG;rw [h0];show sel (AV n λi=>c.ok (c.enc (f i))) (F n λi=>c.ed (c.enc (f i))).sem none=_;rw [show (AV n λi=>c.ok (c.enc (f i)))=true from A8.2 λi _=>h1 _];rw [show (λi=>c.ed (c.enc (f i)))=f from funext λi=>h2 _];rfl
theorem apS_sem {β:Type} (s:Sh7) (F:Sh7->T β):(apS (EC s) F).sem=(F s).sem:=by
 obtain ⟨a,n,g,m,x,t,k,p,r,q,C⟩:=s;show (apG codE (Ei codE n g) λne E=>apG TB (Ei TB m x) λnx X=>apG LF (Ei LF p r) λnr R=>apG codJ (Ei codJ q C) λnc C=>F ⟨a,ne,E,nx,X,t,k,nr,R,nc,C⟩).sem=_;rw [NQ codE n g _ (λ_=>rfl) (λ_=>rfl),NQ TB m x _ (λ_=>rfl) (λ_=>rfl),NQ LF p r _ (λ_=>rfl) (λ_=>rfl),NQ codJ q C _ (λx=>?_) (λ_=>rfl)];show (match Qt 1 (.sl 1 x.1 λi=>iV (x.2 i)) with
  | some (n,g)=>AV n λi=>okI (g i)
  | none=>false)=true
 exact A8.2 λ_ _=>rfl
end Go.Proofs.YtkbafjceglhjhaaGreatDoor.Sh
namespace Go.Proofs.YtkbafjceglhjhaaGreatDoor.Er
open Go.Sy Go Go.Proofs.YtkbafjceglhjhaaGreatDoor.Ed Go.Proofs.YtkbafjceglhjhaaGreatDoor.Sh
theorem Ady {s:Sh7} {nm:List UInt8} (hm:nm.length <= 4611686018427387904) (h1:s.ne * 40 <= 140737488355328) (h2:s.nx * 40 <= 140737488355328) (h3:s.nr * 8 <= 140737488355328) (h4:s.nc * 24 <= 140737488355328) (h5:∀ i,i<s.nc->(s.C i).1 * 8 <= 140737488355328):(Aht [EC s,.str nm]).sem=some (bV true,[]):=by
 show (Sh.apS (EC s) λs=>.br (twS s) (.br (g3S s) (.br (Aq (Bq nm)) (.leaf (bV true,[])) .fail) .fail) .fail).sem=_;rw [Sh.apS_sem];have hs:∀ n:Nat,n * 8 <= 140737488355328->Aq n=true:=λn h=>decide_eq_true (by omega);have hb:D7 s=true :=
  (FP (hs _ (by omega))).trans<|(FP (hs _ (by omega))).trans<|(FP (hs _ (by omega))).trans<|(FP (hs _ (by omega))).trans<|A8.2 λi hi=>hs _ (h5 i hi)
 have ha:∀ n b:Nat,n * b <= 140737488355328->Bs 0 n b=true:=λn b h=>decide_eq_true (by rw [Nat.zero_add]; exact h);have ht:twS s=true:=(FP (ha _ _ h1)).trans<|(FP (ha _ _ h2)).trans<|(FP (ha _ _ h3)).trans<|(FP (ha _ _ h4)).trans<|A8.2 λi hi=>ha _ _ (h5 i hi)
 have hg:g3S s=true:=(FP (show Ct s.ne=true from decide_eq_true h1)).trans hb;rw [ht,hg,show Aq (Bq nm)=true from decide_eq_true hm];rfl
end Go.Proofs.YtkbafjceglhjhaaGreatDoor.Er
