/-
  The document's Parse. No conditions.
-/
import Derived.Test.YtkbafjceglhjhaaGreatDoorCyYp
import Derived.Test.YtkbafjceglhjhaaGreatDoorCyZ
namespace Go.Proofs.YtkbafjceglhjhaaGreatDoor.Ed
open Go.Sy Go
open Int (ofNat)
theorem e84 (Γ:Cx) (vs:List V) (h:List Blk):Aj tab Γ Tryz.f105 vs h=Aj tab Γ Tryz.f105 vs h:=by kernel_rfl
theorem p84:Ap Tryz.prog Gl 105 PN:=by
 refine Ah A2 mixed Tryz.func105 (by kernel_rfl) (by kernel_rfl) λvs v h' h=>?_;unfold PN at h;split at h
 ·rename_i x
  have:=Ab h;simp only [Prod.mk.injEq] at this;obtain ⟨rfl,rfl⟩:=this;have hx:=Bh Ca [];refine ⟨_,AO Gl tb0 [],_,Ba.refl _,rfl,hx.1,hx.2,?_,Am.refl _⟩;rw [e84];unfold Ff;cases c1:ieq x 32 with
  | true=>exact Ait _ x c1
  | false =>
   cases c2:ieq x 9 with
   | true=>exact Ais _ x c1 c2
   | false =>
    cases c3:ieq x 10 with
    | true=>exact Air _ x c1 c2 c3
    | false=>exact Aiq _ x c1 c2 c3
 ·cases h
noncomputable def tb41:A7:=(105,PN)::(106,NZ OA)::[]
theorem tb41_ok:Ao Tryz.prog Gl tb41:=.cons p84 <| .cons p22 .nil
def Vz (s:List UInt8) (a k:Nat) (x:Nat->V):Ex×St:=(.rt,⟨jsV 56 0 Aa [(2,.ref 1),(3,iV 30),(4,nV a),(6,.ref 2)],[.row 76 6 0 Aa,.row 76 6 0 Aa,.row 76 6 k x]⟩)
def DD (s:List UInt8):Lp:=⟨bmK 56 0 [0,2,3,4,5,6,7,8],3,bmK 56 0 [0,2,3,4,5,6,7,8],3,Bq s+1⟩
def Oi (s:List UInt8) (a k:Nat) (x:Nat->V) (e:Nat) (j:Nat->V):St:=⟨jsV 56 0 j [(0,.str s),(2,.ref 0),(3,iV 0),(4,iV 0),(5,.ref 1),(6,.ref 2),(7,nV e),(8,nV a)],[.row 76 6 0 Aa,.row 76 6 0 Aa,.row 76 6 k x]⟩
def JD (s:List UInt8) (a k:Nat) (x:Nat->V) (e:Nat):Ex×St:=(.ex 2,⟨jsV 56 0 Aa [(0,.str s),(2,.ref 0),(3,iV 0),(4,iV 0),(5,.ref 1),(6,.ref 2),(7,nV e),(8,nV a)],[.row 76 6 0 Aa,.row 76 6 0 Aa,.row 76 6 k x]⟩)
noncomputable def GE (L:LT):St->T (Ex×St):=λst=>AA tab ⟨Aw tb41,L,Gl⟩ (As Tryz.f67 2) 2 st
section
variable (L:LT) (s:List UInt8) (a k:Nat) (x:Nat->V) (e:Nat)  (j:Nat->V)
include L s a k x e j
theorem Aoo (h0:ilt (ofNat e) (ofNat (Bq s))=false):Au (GE L) (DD s) (Oi s a k x e j)=some ((.ex 2),⟨jsV 56 0 Aa [(0,.str s),(2,.ref 0),(3,iV 0),(4,iV 0),(5,.ref 1),(6,.ref 2),(7,nV e),(8,nV a)],[.row 76 6 0 Aa,.row 76 6 0 Aa,.row 76 6 k x]⟩):=by
 exact Ae (ks:=[kn h0,kn h0,kn h0,kn h0,kn h0,kn h0,kF]) (by kernel_rfl)
theorem Aop (h0:ilt (ofNat e) (ofNat (Bq s))=true) (h1:Al (ile 0 (ofNat e)) (ilt (ofNat e) (ofNat (Bq s)))=true) (h2:Ff (ER s e)=true):Au (GE L) (DD s) (Oi s a k x e j)=some ((.ex 2),⟨jsV 56 0 Aa [(0,.str s),(2,.ref 0),(3,iV 0),(4,iV 0),(5,.ref 1),(6,.ref 2),(7,nV e),(8,nV a)],[.row 76 6 0 Aa,.row 76 6 0 Aa,.row 76 6 k x]⟩):=by
 exact Ae (ks:=[kn h0,kn h0,kn h0,kn h1,kn h0,kn h0,kn h0,kN (kn h2)]) (by kernel_rfl)
theorem Aon (h0:ilt (ofNat e) (ofNat (Bq s))=true) (h1:Al (ile 0 (ofNat e)) (ilt (ofNat e) (ofNat (Bq s)))=true) (h2:Ff (ER s e)=false):Au (GE L) (DD s) (Oi s a k x e j)=some (.nm,⟨jsV 56 0 Aa [(0,.str s),(2,.ref 0),(3,iV 0),(4,iV 0),(5,.ref 1),(6,.ref 2),(7,iV (wr .i64 (Ai (ofNat e) 1))),(8,nV a)],[.row 76 6 0 Aa,.row 76 6 0 Aa,.row 76 6 k x]⟩):=by
 exact Ae (ks:=[kn h0,kn h0,kn h0,kn h1,kn h0,kn h0,kn h0,kN (kn h2)]) (by kernel_rfl)
end
def G5 (s:List UInt8):Lp:=⟨bmK 56 0 [0,2,3,4,5,6,7],3,bmK 56 0 [2,3,4,6],3,Bq s+1⟩
def Oj (s:List UInt8) (a k:Nat) (x:Nat->V) (j:Nat->V):St:=⟨jsV 56 0 j [(0,.str s),(2,.ref 0),(3,iV 0),(4,iV 0),(5,.ref 1),(6,.ref 2),(7,nV a)],[.row 76 6 0 Aa,.row 76 6 0 Aa,.row 76 6 k x]⟩
def Rp (s:List UInt8) (a k:Nat) (x:Nat->V):Ex×St:=(.ex 0,⟨jsV 56 0 Aa [(2,.ref 0),(3,iV 0),(4,iV 0),(6,.ref 2)],[.row 76 6 0 Aa,.row 76 6 0 Aa,.row 76 6 k x]⟩)
noncomputable def FN (L:LT):St->T (Ex×St):=λst=>AA tab ⟨Aw tb41,L,Gl⟩ (As Tryz.f67 0) 0 st
section
variable (L:LT) (s:List UInt8) (a k:Nat) (x:Nat->V)  (j:Nat->V)
include L s a k x j
theorem Aoi (h0:ilt (ofNat a) (ofNat (Bq s))=false):Au (FN L) (G5 s) (Oj s a k x j)=some ((.ex 0),⟨jsV 56 0 Aa [(2,.ref 0),(3,iV 0),(4,iV 0),(6,.ref 2)],[.row 76 6 0 Aa,.row 76 6 0 Aa,.row 76 6 k x]⟩):=by
 exact Ae (ks:=[kn h0]) (by kernel_rfl)
theorem Aoj (h0:ilt (ofNat a) (ofNat (Bq s))=true) (h1:Al (ile 0 (ofNat a)) (ilt (ofNat a) (ofNat (Bq s)))=true) (h2:Ff (ER s a)=true):Au (FN L) (G5 s) (Oj s a k x j)=some (.nm,⟨jsV 56 0 Aa [(0,.str s),(2,.ref 0),(3,iV 0),(4,iV 0),(5,.ref 1),(6,.ref 2),(7,iV (wr .i64 (Ai (ofNat a) 1)))],[.row 76 6 0 Aa,.row 76 6 0 Aa,.row 76 6 k x]⟩):=by
 exact Ae (ks:=[kn h0,kn h1,kn h2]) (by kernel_rfl)
end
def Lx (s:List UInt8) (a k:Nat) (x:Nat->V) (j:Nat->V):St:=⟨jsV 56 0 j [(0,.str s),(2,.ref 0),(3,iV 0),(4,iV 0),(5,.ref 1),(6,.ref 2),(7,nV a),(8,nV a),(15,nV a),(16,.str s),(17,iV (ofNat (Bq s))),(18,bV (ilt (ofNat a) (ofNat (Bq s)))),(19,.str s),(20,nV a),(21,.val (Value.int IntKind.u8 (ER s a))),(22,bV (Ff (ER s a))),(25,nV a)],[.row 76 6 0 Aa,.row 76 6 0 Aa,.row 76 6 k x]⟩
section
variable (L:LT) (p2:PT) (s:List UInt8) (a k:Nat) (x:Nat->V) (e:Nat) (j:Nat->V)
include L p2 s a k x e j
theorem Aog (h0:ilt (ofNat a) (ofNat (Bq s))=true) (h1:Al (ile 0 (ofNat a)) (ilt (ofNat a) (ofNat (Bq s)))=true) (h2:Ff (ER s a)=false) (h3:Al (ile 0 (ofNat a)) (Al (ile (ofNat a) (ofNat e)) (ile (ofNat e) (ofNat (Bq s))))=true) (h4:ieq (FF (Gv a (Gr e s))) 0=true) (h5:Bs k 1 40=true) (hp2:p2 (GE (onP 2 p2 (JD s a k x e) L)) (Lx s a k x j)=true):Au (FN (onP 2 p2 (JD s a k x e) L)) (G5 s) (Oj s a k x j)=some (.nm,⟨jsV 56 0 Aa [(0,.str s),(2,.ref 0),(3,iV 0),(4,iV 0),(5,.ref 1),(6,.ref 2),(7,nV e)],[.row 76 6 0 Aa,.row 76 6 0 Aa,.row 76 6 (AE k 1) (AD k x (eV (FG (Gv a (Gr e s)))))]⟩):=by
 exact Ae (ks:=[kn h0,kn h1,kn h2,kn hp2,kn h3,kN (kn h4),kn h5]) (by kernel_rfl)
theorem Aoh (h0:ilt (ofNat a) (ofNat (Bq s))=true) (h1:Al (ile 0 (ofNat a)) (ilt (ofNat a) (ofNat (Bq s)))=true) (h2:Ff (ER s a)=false) (h3:Al (ile 0 (ofNat a)) (Al (ile (ofNat a) (ofNat e)) (ile (ofNat e) (ofNat (Bq s))))=true) (h4:ieq (FF (Gv a (Gr e s))) 0=false) (hp2:p2 (GE (onP 2 p2 (JD s a k x e) L)) (Lx s a k x j)=true):Au (FN (onP 2 p2 (JD s a k x e) L)) (G5 s) (Oj s a k x j)=some (.rt,⟨jsV 56 0 Aa [(2,.ref 1),(3,iV 30),(4,nV a),(6,.ref 2)],[.row 76 6 0 Aa,.row 76 6 0 Aa,.row 76 6 k x]⟩):=by
 exact Ae (ks:=[kn h0,kn h1,kn h2,kn hp2,kn h3,kN (kn h4)]) (by kernel_rfl)
end
def P7 (s:List UInt8) :St:=⟨jsV 56 0 (λ_=>AK) [(0,.str s),(2,.ref 0),(3,iV 0),(4,iV 0),(5,.ref 1),(6,.ref 2),(7,iV 0),(11,.str s),(12,iV (ofNat (Bq s))),(13,bV (ilt 262144 (ofNat (Bq s))))],[.row 76 6 0 Aa,.row 76 6 0 Aa,.row 76 6 0 Aa]⟩
theorem An6 (L:LT) (s:List UInt8) (h0:ilt 262144 (ofNat (Bq s))=true):(A0 (Aj tab ⟨Aw tb41,L,Gl⟩ Tryz.f67 [.str s] [])).sem=some ((.tup [.ref 0,iV 2,iV 0]),[.row 76 6 0 Aa]):=by
 exact Ae (ks:=[kn h0]) (by kernel_rfl)
section
variable (L:LT) (p0:PT) (s:List UInt8) (a k:Nat) (x:Nat->V)
include L p0 s a k x
theorem An5 (h0:ilt 262144 (ofNat (Bq s))=false) (hp0:p0 (FN (onP 0 p0 (Rp s a k x) L)) (P7 s)=true):(A0 (Aj tab ⟨Aw tb41,onP 0 p0 (Rp s a k x) L,Gl⟩ Tryz.f67 [.str s] [])).sem=some ((.tup [.ref 0,iV 0,iV 0]),[.row 76 6 k x]):=by
 exact Ae (ks:=[kn h0,kn hp0]) (by kernel_rfl)
theorem An7 (h0:ilt 262144 (ofNat (Bq s))=false) (hp0:p0 (FN (onP 0 p0 (Vz s a k x) L)) (P7 s)=true):(A0 (Aj tab ⟨Aw tb41,onP 0 p0 (Vz s a k x) L,Gl⟩ Tryz.f67 [.str s] [])).sem=some ((.tup [.ref 0,iV 30,nV a]),[.row 76 6 0 Aa]):=by
 exact Ae (ks:=[kn h0,kn hp0]) (by kernel_rfl)
end
theorem AbW (L:LT) (s:List UInt8) (hs:s.length <= 262144) (a k:Nat) (x:Nat->V):∀ (q e:Nat) (j:Nat->V),s.length-e<q ->
  (Av (GE L) (DD s) q (Oi s a k x e j)).sem=some (JD s a k x (e+(BL (s.drop e)).length))
 | 0,e,j,h=>absurd h (Nat.not_lt_zero _)
 | q+1,e,j,h=>by
  have hsl:Bq s=s.length:=rfl;rcases Nat.lt_or_ge e s.length with he | he
  ·have c0:ilt (ofNat e) (ofNat (Bq s))=true:=ofNat_lt he
   have c1:Al (ile 0 (ofNat e)) (ilt (ofNat e) (ofNat (Bq s)))=true:=Ad he;rw [Gh he];cases hb:Hw s[e] with
   | true =>rw [show BL (s[e]::s.drop (e+1))=[] by unfold BL; rw [List.takeWhile_cons_of_neg (by simp [hb])]];exact Af (Aop L s a k x e j c0 c1 (by rw [N6 he]; exact hb))
   | false =>rw [Af (Aon L s a k x e j c0 c1 (by rw [N6 he]; exact hb)),AT,A3 (n:=s.length) he (by omega)];have:=AbW L s hs a k x q (e+1) Aa (by omega);rw [show BL (s[e]::s.drop (e+1))=s[e]::BL (s.drop (e+1)) by unfold BL; rw [List.takeWhile_cons_of_pos (by simp [hb])],List.length_cons,show e+((BL (s.drop (e+1))).length+1)=e+1+(BL (s.drop (e+1))).length by omega];exact this
  ·rw [List.drop_eq_nil_of_le he]
   exact Af (Aoo L s a k x e j (A1 he))
theorem Xu (s:List UInt8) (a k:Nat) (x:Nat->V) (j:Nat->V):Lx s a k x j=Oi s a k x a (λi=>nth (Lx s a k x j).t i):=by kernel_rfl
theorem AbX (M:LT) (hMM:LLe M M) (s:List UInt8) (hs:s.length <= 262144) (m2:∀ f st,M 2 f st=Av f (DD s) (Bq s+1) st):∀ (q a:Nat) (acc:List E6) (j:Nat->V),s.length-a<q->a <= s.length->acc.length <= a ->
  ((Dd q (s.drop a) a acc).2.1=0∧(Av (FN M) (G5 s) q (Oj s a acc.length (EU acc) j)).sem=some (Rp s 0 (Dd q (s.drop a) a acc).1.length (EU (Dd q (s.drop a) a acc).1))) ∨
  ((Dd q (s.drop a) a acc).2.1=30∧(Dd q (s.drop a) a acc).1=[]∧(Av (FN M) (G5 s) q (Oj s a acc.length (EU acc) j)).sem=some (Vz s (Dd q (s.drop a) a acc).2.2 (JQ q (s.drop a) acc).1.length (EU (JQ q (s.drop a) acc).1)))
 | 0,a,acc,j,h,_,_=>absurd h (Nat.not_lt_zero _)
 | q+1,a,acc,j,h,ha,hk=>by
  have hsl:Bq s=s.length:=rfl;rcases Nat.lt_or_ge a s.length with he | he
  ·have c0:ilt (ofNat a) (ofNat (Bq s))=true:=ofNat_lt he
   have c1:Al (ile 0 (ofNat a)) (ilt (ofNat a) (ofNat (Bq s)))=true:=Ad he;cases hb:Hw s[a] with
   | true =>
    have e1:Dd (q+1) (s.drop a) a acc=Dd q (s.drop (a+1)) (a+1) acc:=by rw [Gh he,U9 hb]
    have e2:JQ (q+1) (s.drop a) acc=JQ q (s.drop (a+1)) acc:=by rw [Gh he,JQ,if_pos hb]
    rw [e1,e2,Af (Aoj M s a acc.length (EU acc) j c0 c1 (by rw [N6 he]; exact hb)),AT,A3 (n:=s.length) he (by omega)];exact AbX M hMM s hs m2 q (a+1) acc Aa (by omega) (by omega) (by omega)
   | false =>
    have c2:Ff (ER s a)=false:=by rw [N6 he]; exact hb
    have hw0:0<(BL (s.drop a)).length:=by
     rw [Gh he];unfold BL;rw [List.takeWhile_cons_of_pos (by simp [hb])];exact Nat.succ_pos _
    have hwl:=Abe (s.drop a);rw [List.length_drop] at hwl;have hi:∀ M',(M 2 (GE M') (Lx s a acc.length (EU acc) j)).sem=some (JD s a acc.length (EU acc) (a+(BL (s.drop a)).length)):=λM'=>by
     rw [m2,Xu];exact AbW M' s hs a acc.length (EU acc) (Bq s+1) a _ (by omega)
    have hsub:Gv a (Gr (a+(BL (s.drop a)).length) s)=BL (s.drop a):=by
     show (s.take (a+(BL (s.drop a)).length)).drop a=_;rw [List.drop_take,show a+(BL (s.drop a)).length-a=(BL (s.drop a)).length by omega];exact (List.prefix_iff_eq_take.1 (List.takeWhile_prefix _)).symm
    have c3:Al (ile 0 (ofNat a)) (Al (ile (ofNat a) (ofNat (a+(BL (s.drop a)).length))) (ile (ofNat (a+(BL (s.drop a)).length)) (ofNat (Bq s))))=true:=by
     rw [Cf,ile_nat,ile_nat,decide_eq_true (by omega),decide_eq_true (by omega)];rfl
    have e0:Dd (q+1) (s.drop a) a acc=if FF (BL (s.drop a))=0 then Dd q ((s.drop a).drop (BL (s.drop a)).length) (a+(BL (s.drop a)).length) (acc++[FG (BL (s.drop a))]) else ([],30,a):=by
     rw [Gh he,Dd,if_neg (by rw [hb]; decide)]
    have e5:JQ (q+1) (s.drop a) acc=if FF (BL (s.drop a))=0 then JQ q ((s.drop a).drop (BL (s.drop a)).length) (acc++[FG (BL (s.drop a))]) else (acc,FG (BL (s.drop a))):=by
     rw [Gh he,JQ,if_neg (by rw [hb]; decide)]
    by_cases hp:FF (BL (s.drop a))=0
    ·have c4:ieq (FF (Gv a (Gr (a+(BL (s.drop a)).length) s))) 0=true:=by rw [hsub,hp]; rfl
     have h9:(acc.length+1) * 40 <= 140737488355328:=by omega
     have h3:=Aog M _ s a acc.length (EU acc) (a+(BL (s.drop a)).length) j c0 c1 c2 c3 c4 (decide_eq_true h9) (A4 (hi _));have h4:Au (FN M) (G5 s) (Oj s a acc.length (EU acc) j)=_:=QE (l:=G5 s) (P2 (Γ:=⟨Aw tb41,M,Gl⟩) (AX hMM hMM) (As Tryz.f67 0) 0 (Oj s a acc.length (EU acc) j)) h3;rw [if_pos hp,List.drop_drop] at e0 e5;rw [e0,e5,Af h4,AT,hsub,ZP];have ih:=AbX M hMM s hs m2 q (a+(BL (s.drop a)).length) (acc++[FG (BL (s.drop a))]) Aa (by omega) (by omega) (by rw [List.length_append]; simp only [List.length_cons,List.length_nil]; omega);rw [show (acc++[FG (BL (s.drop a))]).length=acc.length+1 from List.length_append] at ih;exact ih
    ·have c4:ieq (FF (Gv a (Gr (a+(BL (s.drop a)).length) s))) 0=false:=by rw [hsub]; simp [ieq,hp]
     have h3:=Aoh M _ s a acc.length (EU acc) (a+(BL (s.drop a)).length) j c0 c1 c2 c3 c4 (A4 (hi _));have h4:Au (FN M) (G5 s) (Oj s a acc.length (EU acc) j)=_:=QE (l:=G5 s) (P2 (Γ:=⟨Aw tb41,M,Gl⟩) (AX hMM hMM) (As Tryz.f67 0) 0 (Oj s a acc.length (EU acc) j)) h3;rw [if_neg hp] at e0 e5;rw [e0,e5];refine .inr ⟨rfl,rfl,?_⟩;rw [Af h4];rfl
  ·rw [List.drop_eq_nil_of_le he]
   exact .inl ⟨rfl,Af (Aoi M s a acc.length (EU acc) j (A1 he))⟩
theorem Aec (s:List UInt8):P7 s=Oj s 0 0 Aa (λi=>nth (P7 s).t i):=by kernel_rfl
theorem p41:Ap Tryz.prog Gl 67 psT:=by
 refine Ah A2 mixed Tryz.func67 (by kernel_rfl) (by kernel_rfl) λvs v h' h=>?_;unfold psT at h;split at h
 ·rename_i s
  have:=Ab h;simp only [Prod.mk.injEq] at this;obtain ⟨rfl,rfl⟩:=this;have hx:=Bh tb41_ok [(0,G5 s),(2,DD s)];have hL:=Bb [(0,G5 s),(2,DD s)];cases hb:AeE s with
  | true =>
   have e1:psN s=0:=by unfold psN psL; rw [hb]; rfl
   have e2:psE s=2:=by unfold psE; rw [hb]; rfl
   have e3:psI s=0:=by unfold psI; rw [hb]; rfl
   rw [e1,e2,e3];exact ⟨_,AO Gl tb41 [(0,G5 s),(2,DD s)],_,Ba.refl _,rfl,hx.1,hx.2,An6 _ s hb,Am.one λj hj=>absurd hj (Nat.not_lt_zero _)⟩
  | false =>
   have hs:s.length <= 262144:=by
    unfold AeE at hb;rw [show (262144:Int)=ofNat 262144 from rfl,Cw] at hb;have:=of_decide_eq_false hb;have hsl:Bq s=s.length:=rfl;omega
   have e0:psL s=(psR s).1:=by unfold psL; rw [hb]; rfl
   have e2:psE s=(psR s).2.1:=by unfold psE; rw [hb]; rfl
   have e3:psI s=ofNat (psR s).2.2:=by unfold psI; rw [hb]; rfl
   have hg:ilt 262144 (ofNat (Bq s))=false:=hb;have key:∀ M,LLe M M->(∀ f st,M 2 f st=Av f (DD s) (Bq s+1) st)->((psR s).2.1=0∧(Av (FN M) (G5 s) (Bq s+1) (P7 s)).sem=some (Rp s 0 (psR s).1.length (EU (psR s).1))) ∨
     ((psR s).2.1=30∧(psR s).1=[]∧(Av (FN M) (G5 s) (Bq s+1) (P7 s)).sem=some (Vz s (psR s).2.2 (JQ (s.length+1) s []).1.length (EU (JQ (s.length+1) s []).1))):=λM h1 h2=>by
    rw [Aec];exact AbX M h1 s hs h2 (s.length+1) 0 [] (λi=>nth (P7 s).t i) (by omega) (by omega) (Nat.le_refl _)
   have mm:∀ r,LLe (onP 0 (isP (BC [(0,G5 s),(2,DD s)]) 0 r) r (BC [(0,G5 s),(2,DD s)])) (onP 0 (isP (BC [(0,G5 s),(2,DD s)]) 0 r) r (BC [(0,G5 s),(2,DD s)])):=λr=>Amr hL 0 r;rw [e2,e3];unfold psN psG;rw [e0];by_cases hok:(psR s).2.1=0
   ·have hat:(psR s).2.2=0:=O8 _ _ _ _ hok
    have hw:=AW (AX hL hL) _ (An5 (BC [(0,G5 s),(2,DD s)]) _ s 0 (psR s).1.length (EU (psR s).1) hg (A4 (by
     rcases key _ (mm (Rp s 0 (psR s).1.length (EU (psR s).1))) (λ_ _=>rfl) with ⟨_,h2⟩ | ⟨h1,_⟩
     ·exact h2
     ·rw [hok] at h1; cases h1)))
    rw [hok,hat];exact ⟨_,AO Gl tb41 [(0,G5 s),(2,DD s)],_,Ba.refl _,rfl,hx.1,hx.2,hw,Am.one λj hj=>(HE (λi=>eV (M5 (psR s).1 i)) (psR s).1.length j hj).symm⟩
   ·have hno:(psR s).2.1=30∧(psR s).1=[]:=by
     rcases key _ (mm (Rp s 0 0 (EU []))) (λ_ _=>rfl) with ⟨h1,_⟩ | ⟨h1,h2,_⟩
     ·exact absurd h1 hok
     ·exact ⟨h1,h2⟩
    have hw:=AW (AX hL hL) _ (An7 (BC [(0,G5 s),(2,DD s)]) _ s (psR s).2.2 (JQ (s.length+1) s []).1.length (EU (JQ (s.length+1) s []).1) hg (A4 (by
     rcases key _ (mm (Vz s (psR s).2.2 (JQ (s.length+1) s []).1.length (EU (JQ (s.length+1) s []).1))) (λ_ _=>rfl) with ⟨h1,_⟩ | ⟨_,_,h3⟩
     ·exact absurd h1 hok
     ·exact h3)))
    rw [hno.1,hno.2];exact ⟨_,AO Gl tb41 [(0,G5 s),(2,DD s)],_,Ba.refl _,rfl,hx.1,hx.2,hw,Am.one λj hj=>absurd hj (Nat.not_lt_zero _)⟩
 ·cases h
end Go.Proofs.YtkbafjceglhjhaaGreatDoor.Ed
namespace Go.Proofs.YtkbafjceglhjhaaGreatDoor.Sh
open Go.Sy Ed
open Int (ofNat)
set_option maxRecDepth 4000
def locL:List UInt8:=[120,121,122,97,98,99,100,101,102,103,104,105,106,107,108,109]
def CS (x:Int):Int:=bif bor (ilt x 0) (ile 16 x) then 4 else 0
def Cb (x:Int):List UInt8:=bif bor (ilt x 0) (ile 16 x) then [] else [locL.getD x.toNat 0]
def SL:List V->A5
 | [.val (.int .i64 x)]=>.leaf (.tup [.str (Cb x),iV (CS x)],[])
 | _=>.fail
theorem Ahl:(A0 (Aj tab (AO Gl tb0 []) Tryz.f39 [nV 0] [])).sem=some (.tup [.str (Cb (ofNat 0)),iV (CS (ofNat 0))],[]):=by kernel_rfl
theorem Ahk:(A0 (Aj tab (AO Gl tb0 []) Tryz.f39 [nV 1] [])).sem=some (.tup [.str (Cb (ofNat 1)),iV (CS (ofNat 1))],[]):=by kernel_rfl
theorem Ahj:(A0 (Aj tab (AO Gl tb0 []) Tryz.f39 [nV 2] [])).sem=some (.tup [.str (Cb (ofNat 2)),iV (CS (ofNat 2))],[]):=by kernel_rfl
theorem Ahi:(A0 (Aj tab (AO Gl tb0 []) Tryz.f39 [nV 3] [])).sem=some (.tup [.str (Cb (ofNat 3)),iV (CS (ofNat 3))],[]):=by kernel_rfl
theorem Ahh:(A0 (Aj tab (AO Gl tb0 []) Tryz.f39 [nV 4] [])).sem=some (.tup [.str (Cb (ofNat 4)),iV (CS (ofNat 4))],[]):=by kernel_rfl
theorem Ahg:(A0 (Aj tab (AO Gl tb0 []) Tryz.f39 [nV 5] [])).sem=some (.tup [.str (Cb (ofNat 5)),iV (CS (ofNat 5))],[]):=by kernel_rfl
theorem Ahf:(A0 (Aj tab (AO Gl tb0 []) Tryz.f39 [nV 6] [])).sem=some (.tup [.str (Cb (ofNat 6)),iV (CS (ofNat 6))],[]):=by kernel_rfl
theorem Ahe:(A0 (Aj tab (AO Gl tb0 []) Tryz.f39 [nV 7] [])).sem=some (.tup [.str (Cb (ofNat 7)),iV (CS (ofNat 7))],[]):=by kernel_rfl
theorem Ahd:(A0 (Aj tab (AO Gl tb0 []) Tryz.f39 [nV 8] [])).sem=some (.tup [.str (Cb (ofNat 8)),iV (CS (ofNat 8))],[]):=by kernel_rfl
theorem Ahc:(A0 (Aj tab (AO Gl tb0 []) Tryz.f39 [nV 9] [])).sem=some (.tup [.str (Cb (ofNat 9)),iV (CS (ofNat 9))],[]):=by kernel_rfl
theorem Adq:(A0 (Aj tab (AO Gl tb0 []) Tryz.f39 [nV 10] [])).sem=some (.tup [.str (Cb (ofNat 10)),iV (CS (ofNat 10))],[]):=by kernel_rfl
theorem Adp:(A0 (Aj tab (AO Gl tb0 []) Tryz.f39 [nV 11] [])).sem=some (.tup [.str (Cb (ofNat 11)),iV (CS (ofNat 11))],[]):=by kernel_rfl
theorem Ado:(A0 (Aj tab (AO Gl tb0 []) Tryz.f39 [nV 12] [])).sem=some (.tup [.str (Cb (ofNat 12)),iV (CS (ofNat 12))],[]):=by kernel_rfl
theorem Adn:(A0 (Aj tab (AO Gl tb0 []) Tryz.f39 [nV 13] [])).sem=some (.tup [.str (Cb (ofNat 13)),iV (CS (ofNat 13))],[]):=by kernel_rfl
theorem Adm:(A0 (Aj tab (AO Gl tb0 []) Tryz.f39 [nV 14] [])).sem=some (.tup [.str (Cb (ofNat 14)),iV (CS (ofNat 14))],[]):=by kernel_rfl
theorem Adl:(A0 (Aj tab (AO Gl tb0 []) Tryz.f39 [nV 15] [])).sem=some (.tup [.str (Cb (ofNat 15)),iV (CS (ofNat 15))],[]):=by kernel_rfl
theorem ApV (k:Nat) (hk:k<16):(A0 (Aj tab (AO Gl tb0 []) Tryz.f39 [nV k] [])).sem=some (.tup [.str (Cb (ofNat k)),iV (CS (ofNat k))],[]):=by
 have:k=0 ∨ k=1 ∨ k=2 ∨ k=3 ∨ k=4 ∨ k=5 ∨ k=6 ∨ k=7 ∨ k=8 ∨ k=9 ∨ k=10 ∨ k=11 ∨ k=12 ∨ k=13 ∨ k=14 ∨ k=15:=by omega
 rcases this with rfl | rfl | rfl | rfl | rfl | rfl | rfl | rfl | rfl | rfl | rfl | rfl | rfl | rfl | rfl | rfl
 ·exact Ahl
 ·exact Ahk
 ·exact Ahj
 ·exact Ahi
 ·exact Ahh
 ·exact Ahg
 ·exact Ahf
 ·exact Ahe
 ·exact Ahd
 ·exact Ahc
 ·exact Adq
 ·exact Adp
 ·exact Ado
 ·exact Adn
 ·exact Adm
 ·exact Adl
theorem p37:Ap Tryz.prog Gl 39 SL:=by
 refine Ap.congr (AM A2 mixed Tryz.func39 (by kernel_rfl) (by kernel_rfl) (Γ:=AO Gl tb0 []) (Bh Ca [])) λvs r h=>?_;unfold SL at h;split at h
 ·rename_i x
  rw [Ab h];show (A0 (Aj tab (AO Gl tb0 []) Tryz.f39 [iV x] [])).sem=_;cases c0:ilt x 0 with
  | true =>rw [show Cb x=[] by unfold Cb bor; rw [c0]; rfl,show CS x=4 by unfold CS bor; rw [c0]; rfl];exact Ae (ks:=[kn c0,kn c0,kn c0,kT]) (by kernel_rfl)/-W:w37n-/
  | false =>
   cases c1:ile 16 x with
   | true =>rw [show Cb x=[] by unfold Cb bor; rw [c0,c1]; rfl,show CS x=4 by unfold CS bor; rw [c0,c1]; rfl];exact Ae (ks:=[kn c0,kn c0,kn c0,kn c1]) (by kernel_rfl)/-W:w37g-/
   | false =>have h1:¬ x<0:=of_decide_eq_false c0;have h2:¬ (16:Int) <= x:=of_decide_eq_false c1;obtain ⟨k,rfl⟩:∃ k:Nat,x=ofNat k:=⟨x.toNat,by simp only [Int.ofNat_eq_natCast]; omega⟩;exact ApV k (by simp only [Int.ofNat_eq_natCast] at h2; omega)
 ·cases h
theorem Ahb:(A0 (Aj tab (AO Gl tb0 []) Tryz.f66 [nV 0] [])).sem=some (.tup [.str (Cb (ofNat 0)),iV (CS (ofNat 0))],[]):=by kernel_rfl
theorem Aha:(A0 (Aj tab (AO Gl tb0 []) Tryz.f66 [nV 1] [])).sem=some (.tup [.str (Cb (ofNat 1)),iV (CS (ofNat 1))],[]):=by kernel_rfl
theorem AgZ:(A0 (Aj tab (AO Gl tb0 []) Tryz.f66 [nV 2] [])).sem=some (.tup [.str (Cb (ofNat 2)),iV (CS (ofNat 2))],[]):=by kernel_rfl
theorem AgY:(A0 (Aj tab (AO Gl tb0 []) Tryz.f66 [nV 3] [])).sem=some (.tup [.str (Cb (ofNat 3)),iV (CS (ofNat 3))],[]):=by kernel_rfl
theorem AgX:(A0 (Aj tab (AO Gl tb0 []) Tryz.f66 [nV 4] [])).sem=some (.tup [.str (Cb (ofNat 4)),iV (CS (ofNat 4))],[]):=by kernel_rfl
theorem AgW:(A0 (Aj tab (AO Gl tb0 []) Tryz.f66 [nV 5] [])).sem=some (.tup [.str (Cb (ofNat 5)),iV (CS (ofNat 5))],[]):=by kernel_rfl
theorem AgV:(A0 (Aj tab (AO Gl tb0 []) Tryz.f66 [nV 6] [])).sem=some (.tup [.str (Cb (ofNat 6)),iV (CS (ofNat 6))],[]):=by kernel_rfl
theorem AgU:(A0 (Aj tab (AO Gl tb0 []) Tryz.f66 [nV 7] [])).sem=some (.tup [.str (Cb (ofNat 7)),iV (CS (ofNat 7))],[]):=by kernel_rfl
theorem AgT:(A0 (Aj tab (AO Gl tb0 []) Tryz.f66 [nV 8] [])).sem=some (.tup [.str (Cb (ofNat 8)),iV (CS (ofNat 8))],[]):=by kernel_rfl
theorem AgS:(A0 (Aj tab (AO Gl tb0 []) Tryz.f66 [nV 9] [])).sem=some (.tup [.str (Cb (ofNat 9)),iV (CS (ofNat 9))],[]):=by kernel_rfl
theorem Adk:(A0 (Aj tab (AO Gl tb0 []) Tryz.f66 [nV 10] [])).sem=some (.tup [.str (Cb (ofNat 10)),iV (CS (ofNat 10))],[]):=by kernel_rfl
theorem Adj:(A0 (Aj tab (AO Gl tb0 []) Tryz.f66 [nV 11] [])).sem=some (.tup [.str (Cb (ofNat 11)),iV (CS (ofNat 11))],[]):=by kernel_rfl
theorem Adi:(A0 (Aj tab (AO Gl tb0 []) Tryz.f66 [nV 12] [])).sem=some (.tup [.str (Cb (ofNat 12)),iV (CS (ofNat 12))],[]):=by kernel_rfl
theorem Adh:(A0 (Aj tab (AO Gl tb0 []) Tryz.f66 [nV 13] [])).sem=some (.tup [.str (Cb (ofNat 13)),iV (CS (ofNat 13))],[]):=by kernel_rfl
theorem Adg:(A0 (Aj tab (AO Gl tb0 []) Tryz.f66 [nV 14] [])).sem=some (.tup [.str (Cb (ofNat 14)),iV (CS (ofNat 14))],[]):=by kernel_rfl
theorem Adf:(A0 (Aj tab (AO Gl tb0 []) Tryz.f66 [nV 15] [])).sem=some (.tup [.str (Cb (ofNat 15)),iV (CS (ofNat 15))],[]):=by kernel_rfl
theorem ApU (k:Nat) (hk:k<16):(A0 (Aj tab (AO Gl tb0 []) Tryz.f66 [nV k] [])).sem=some (.tup [.str (Cb (ofNat k)),iV (CS (ofNat k))],[]):=by
 have:k=0 ∨ k=1 ∨ k=2 ∨ k=3 ∨ k=4 ∨ k=5 ∨ k=6 ∨ k=7 ∨ k=8 ∨ k=9 ∨ k=10 ∨ k=11 ∨ k=12 ∨ k=13 ∨ k=14 ∨ k=15:=by omega
 rcases this with rfl | rfl | rfl | rfl | rfl | rfl | rfl | rfl | rfl | rfl | rfl | rfl | rfl | rfl | rfl | rfl
 ·exact Ahb
 ·exact Aha
 ·exact AgZ
 ·exact AgY
 ·exact AgX
 ·exact AgW
 ·exact AgV
 ·exact AgU
 ·exact AgT
 ·exact AgS
 ·exact Adk
 ·exact Adj
 ·exact Adi
 ·exact Adh
 ·exact Adg
 ·exact Adf
theorem p38:Ap Tryz.prog Gl 66 SL:=by
 refine Ap.congr (AM A2 mixed Tryz.func66 (by kernel_rfl) (by kernel_rfl) (Γ:=AO Gl tb0 []) (Bh Ca [])) λvs r h=>?_;unfold SL at h;split at h
 ·rename_i x
  rw [Ab h];show (A0 (Aj tab (AO Gl tb0 []) Tryz.f66 [iV x] [])).sem=_;cases c0:ilt x 0 with
  | true =>rw [show Cb x=[] by unfold Cb bor; rw [c0]; rfl,show CS x=4 by unfold CS bor; rw [c0]; rfl];exact Ae (ks:=[kn c0,kn c0,kn c0,kn c0,kn c0,kT]) (by kernel_rfl)/-W:w38n-/
  | false =>
   cases c1:ile 16 x with
   | true =>rw [show Cb x=[] by unfold Cb bor; rw [c0,c1]; rfl,show CS x=4 by unfold CS bor; rw [c0,c1]; rfl];exact Ae (ks:=[kn c0,kn c0,kn c0,kn c0,kn c0,kn c1]) (by kernel_rfl)/-W:w38g-/
   | false =>have h1:¬ x<0:=of_decide_eq_false c0;have h2:¬ (16:Int) <= x:=of_decide_eq_false c1;obtain ⟨k,rfl⟩:∃ k:Nat,x=ofNat k:=⟨x.toNat,by simp only [Int.ofNat_eq_natCast]; omega⟩;exact ApU k (by simp only [Int.ofNat_eq_natCast] at h2; omega)
 ·cases h
noncomputable def tb18:A7:=(67,psT)::(99,ofT)::(39,SL)::[]
theorem tb18_ok:Ao Tryz.prog Gl tb18:=.cons p41 <| .cons p14 <| .cons p37 .nil
end Go.Proofs.YtkbafjceglhjhaaGreatDoor.Sh
namespace Go.Proofs.YtkbafjceglhjhaaGreatDoor.Sh
open Go.Sy Ed
set_option maxHeartbeats 1000000
set_option maxRecDepth 4000
noncomputable def tb3:A7:=(99,ofT)::(68,ofT)::(102,Kl)::[]
theorem tb3_ok:Ao Tryz.prog Gl tb3:=.cons p14 <| .cons p15 <| .cons p16 <| .nil
end Go.Proofs.YtkbafjceglhjhaaGreatDoor.Sh
