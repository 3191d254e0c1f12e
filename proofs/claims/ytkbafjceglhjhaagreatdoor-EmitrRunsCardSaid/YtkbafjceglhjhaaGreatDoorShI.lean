/-
  The document's Parse. No conditions.
-/
import Derived.Test.YtkbafjceglhjhaaGreatDoorCyYp
import Derived.Test.YtkbafjceglhjhaaGreatDoorCyZ
namespace Go.Proofs.YtkbafjceglhjhaaGreatDoor.Ed
open Go.Sy Go
open Int (ofNat)
theorem e84 (Γ:Cx) (vs:List V) (h:List Blk):Aj tab Γ Tryz.f105 vs h=Aj tab Γ Tryz.f105 vs h:=by kernel_rfl
theorem p84:As Tryz.prog Gl 105 PR:=by
 refine Am A0 mixed Tryz.func105 (by kernel_rfl) (by kernel_rfl) λvs v h' h=>?_;unfold PR at h;split at h
 ·rename_i x
  have:=Aa h;simp only [Prod.mk.injEq] at this;obtain ⟨rfl,rfl⟩:=this;have hx:=Bs C5 [];refine ⟨_,AT Gl tb0 [],_,Bw.refl _,rfl,hx.1,hx.2,?_,Aw.refl _⟩;rw [e84];unfold Fj;cases c1:ieq x 32 with
  | true=>exact Ahu _ x c1
  | false =>
   cases c2:ieq x 9 with
   | true=>exact Aht _ x c1 c2
   | false =>
    cases c3:ieq x 10 with
    | true=>exact Ahs _ x c1 c2 c3
    | false=>exact Ahr _ x c1 c2 c3
 ·cases h
noncomputable def tb41:AE:=(105,PR)::(106,Oj OD)::[]
theorem tb41_ok:Ar Tryz.prog Gl tb41:=.cons p84 <| .cons p22 .nil
def Vk (s:List UInt8) (a k:Nat) (x:Nat->V):Ex×St:=(.rt,⟨jsV 56 0 Ab [(2,.ref 1),(3,iV 30),(4,nV a),(6,.ref 2)],[.row 76 6 0 Ab,.row 76 6 0 Ab,.row 76 6 k x]⟩)
def DR (s:List UInt8):Lp:=⟨bmK 56 0 [0,2,3,4,5,6,7,8],3,bmK 56 0 [0,2,3,4,5,6,7,8],3,Cl s+1⟩
def Ou (s:List UInt8) (a k:Nat) (x:Nat->V) (e:Nat) (j:Nat->V):St:=⟨jsV 56 0 j [(0,.str s),(2,.ref 0),(3,iV 0),(4,iV 0),(5,.ref 1),(6,.ref 2),(7,nV e),(8,nV a)],[.row 76 6 0 Ab,.row 76 6 0 Ab,.row 76 6 k x]⟩
def JI (s:List UInt8) (a k:Nat) (x:Nat->V) (e:Nat):Ex×St:=(.ex 2,⟨jsV 56 0 Ab [(0,.str s),(2,.ref 0),(3,iV 0),(4,iV 0),(5,.ref 1),(6,.ref 2),(7,nV e),(8,nV a)],[.row 76 6 0 Ab,.row 76 6 0 Ab,.row 76 6 k x]⟩)
noncomputable def GB (L:LT):St->T (Ex×St):=λst=>AK tab ⟨A2 tb41,L,Gl⟩ (A3 Tryz.f67 2) 2 st
section
variable (L:LT) (s:List UInt8) (a k:Nat) (x:Nat->V) (e:Nat)  (j:Nat->V)
include L s a k x e j
theorem Ane (h0:ilt (ofNat e) (ofNat (Cl s))=false):A1 (GB L) (DR s) (Ou s a k x e j)=some ((.ex 2),⟨jsV 56 0 Ab [(0,.str s),(2,.ref 0),(3,iV 0),(4,iV 0),(5,.ref 1),(6,.ref 2),(7,nV e),(8,nV a)],[.row 76 6 0 Ab,.row 76 6 0 Ab,.row 76 6 k x]⟩):=by
 exact Af (ks:=[kn h0,kn h0,kn h0,kn h0,kn h0,kn h0,kF]) (by kernel_rfl)
theorem Anf (h0:ilt (ofNat e) (ofNat (Cl s))=true) (h1:Ak (ile 0 (ofNat e)) (ilt (ofNat e) (ofNat (Cl s)))=true) (h2:Fj (N4 s e)=true):A1 (GB L) (DR s) (Ou s a k x e j)=some ((.ex 2),⟨jsV 56 0 Ab [(0,.str s),(2,.ref 0),(3,iV 0),(4,iV 0),(5,.ref 1),(6,.ref 2),(7,nV e),(8,nV a)],[.row 76 6 0 Ab,.row 76 6 0 Ab,.row 76 6 k x]⟩):=by
 exact Af (ks:=[kn h0,kn h0,kn h0,kn h1,kn h0,kn h0,kn h0,kN (kn h2)]) (by kernel_rfl)
theorem And (h0:ilt (ofNat e) (ofNat (Cl s))=true) (h1:Ak (ile 0 (ofNat e)) (ilt (ofNat e) (ofNat (Cl s)))=true) (h2:Fj (N4 s e)=false):A1 (GB L) (DR s) (Ou s a k x e j)=some (.nm,⟨jsV 56 0 Ab [(0,.str s),(2,.ref 0),(3,iV 0),(4,iV 0),(5,.ref 1),(6,.ref 2),(7,iV (wr .i64 (Ai (ofNat e) 1))),(8,nV a)],[.row 76 6 0 Ab,.row 76 6 0 Ab,.row 76 6 k x]⟩):=by
 exact Af (ks:=[kn h0,kn h0,kn h0,kn h1,kn h0,kn h0,kn h0,kN (kn h2)]) (by kernel_rfl)
end
def G7 (s:List UInt8):Lp:=⟨bmK 56 0 [0,2,3,4,5,6,7],3,bmK 56 0 [2,3,4,6],3,Cl s+1⟩
def Ov (s:List UInt8) (a k:Nat) (x:Nat->V) (j:Nat->V):St:=⟨jsV 56 0 j [(0,.str s),(2,.ref 0),(3,iV 0),(4,iV 0),(5,.ref 1),(6,.ref 2),(7,nV a)],[.row 76 6 0 Ab,.row 76 6 0 Ab,.row 76 6 k x]⟩
def Rn (s:List UInt8) (a k:Nat) (x:Nat->V):Ex×St:=(.ex 0,⟨jsV 56 0 Ab [(2,.ref 0),(3,iV 0),(4,iV 0),(6,.ref 2)],[.row 76 6 0 Ab,.row 76 6 0 Ab,.row 76 6 k x]⟩)
noncomputable def FT (L:LT):St->T (Ex×St):=λst=>AK tab ⟨A2 tb41,L,Gl⟩ (A3 Tryz.f67 0) 0 st
section
variable (L:LT) (s:List UInt8) (a k:Nat) (x:Nat->V)  (j:Nat->V)
include L s a k x j
theorem AmY (h0:ilt (ofNat a) (ofNat (Cl s))=false):A1 (FT L) (G7 s) (Ov s a k x j)=some ((.ex 0),⟨jsV 56 0 Ab [(2,.ref 0),(3,iV 0),(4,iV 0),(6,.ref 2)],[.row 76 6 0 Ab,.row 76 6 0 Ab,.row 76 6 k x]⟩):=by
 exact Af (ks:=[kn h0]) (by kernel_rfl)
theorem AmZ (h0:ilt (ofNat a) (ofNat (Cl s))=true) (h1:Ak (ile 0 (ofNat a)) (ilt (ofNat a) (ofNat (Cl s)))=true) (h2:Fj (N4 s a)=true):A1 (FT L) (G7 s) (Ov s a k x j)=some (.nm,⟨jsV 56 0 Ab [(0,.str s),(2,.ref 0),(3,iV 0),(4,iV 0),(5,.ref 1),(6,.ref 2),(7,iV (wr .i64 (Ai (ofNat a) 1)))],[.row 76 6 0 Ab,.row 76 6 0 Ab,.row 76 6 k x]⟩):=by
 exact Af (ks:=[kn h0,kn h1,kn h2]) (by kernel_rfl)
end
def LC (s:List UInt8) (a k:Nat) (x:Nat->V) (j:Nat->V):St:=⟨jsV 56 0 j [(0,.str s),(2,.ref 0),(3,iV 0),(4,iV 0),(5,.ref 1),(6,.ref 2),(7,nV a),(8,nV a),(15,nV a),(16,.str s),(17,iV (ofNat (Cl s))),(18,bV (ilt (ofNat a) (ofNat (Cl s)))),(19,.str s),(20,nV a),(21,.val (Value.int IntKind.u8 (N4 s a))),(22,bV (Fj (N4 s a))),(25,nV a)],[.row 76 6 0 Ab,.row 76 6 0 Ab,.row 76 6 k x]⟩
section
variable (L:LT) (p2:PT) (s:List UInt8) (a k:Nat) (x:Nat->V) (e:Nat) (j:Nat->V)
include L p2 s a k x e j
theorem AmW (h0:ilt (ofNat a) (ofNat (Cl s))=true) (h1:Ak (ile 0 (ofNat a)) (ilt (ofNat a) (ofNat (Cl s)))=true) (h2:Fj (N4 s a)=false) (h3:Ak (ile 0 (ofNat a)) (Ak (ile (ofNat a) (ofNat e)) (ile (ofNat e) (ofNat (Cl s))))=true) (h4:ieq (FN (G0 a (Gw e s))) 0=true) (h5:C4 k 1 40=true) (hp2:p2 (GB (onP 2 p2 (JI s a k x e) L)) (LC s a k x j)=true):A1 (FT (onP 2 p2 (JI s a k x e) L)) (G7 s) (Ov s a k x j)=some (.nm,⟨jsV 56 0 Ab [(0,.str s),(2,.ref 0),(3,iV 0),(4,iV 0),(5,.ref 1),(6,.ref 2),(7,nV e)],[.row 76 6 0 Ab,.row 76 6 0 Ab,.row 76 6 (BC k 1) (AX k x (eV (FO (G0 a (Gw e s)))))]⟩):=by
 exact Af (ks:=[kn h0,kn h1,kn h2,kn hp2,kn h3,kN (kn h4),kn h5]) (by kernel_rfl)
theorem AmX (h0:ilt (ofNat a) (ofNat (Cl s))=true) (h1:Ak (ile 0 (ofNat a)) (ilt (ofNat a) (ofNat (Cl s)))=true) (h2:Fj (N4 s a)=false) (h3:Ak (ile 0 (ofNat a)) (Ak (ile (ofNat a) (ofNat e)) (ile (ofNat e) (ofNat (Cl s))))=true) (h4:ieq (FN (G0 a (Gw e s))) 0=false) (hp2:p2 (GB (onP 2 p2 (JI s a k x e) L)) (LC s a k x j)=true):A1 (FT (onP 2 p2 (JI s a k x e) L)) (G7 s) (Ov s a k x j)=some (.rt,⟨jsV 56 0 Ab [(2,.ref 1),(3,iV 30),(4,nV a),(6,.ref 2)],[.row 76 6 0 Ab,.row 76 6 0 Ab,.row 76 6 k x]⟩):=by
 exact Af (ks:=[kn h0,kn h1,kn h2,kn hp2,kn h3,kN (kn h4)]) (by kernel_rfl)
end
def P6 (s:List UInt8) :St:=⟨jsV 56 0 (λ_=>AH) [(0,.str s),(2,.ref 0),(3,iV 0),(4,iV 0),(5,.ref 1),(6,.ref 2),(7,iV 0),(11,.str s),(12,iV (ofNat (Cl s))),(13,bV (ilt 262144 (ofNat (Cl s))))],[.row 76 6 0 Ab,.row 76 6 0 Ab,.row 76 6 0 Ab]⟩
theorem Am3 (L:LT) (s:List UInt8) (h0:ilt 262144 (ofNat (Cl s))=true):(Ay (Aj tab ⟨A2 tb41,L,Gl⟩ Tryz.f67 [.str s] [])).sem=some ((.tup [.ref 0,iV 2,iV 0]),[.row 76 6 0 Ab]):=by
 exact Af (ks:=[kn h0]) (by kernel_rfl)
section
variable (L:LT) (p0:PT) (s:List UInt8) (a k:Nat) (x:Nat->V)
include L p0 s a k x
theorem Am2 (h0:ilt 262144 (ofNat (Cl s))=false) (hp0:p0 (FT (onP 0 p0 (Rn s a k x) L)) (P6 s)=true):(Ay (Aj tab ⟨A2 tb41,onP 0 p0 (Rn s a k x) L,Gl⟩ Tryz.f67 [.str s] [])).sem=some ((.tup [.ref 0,iV 0,iV 0]),[.row 76 6 k x]):=by
 exact Af (ks:=[kn h0,kn hp0]) (by kernel_rfl)
theorem Am4 (h0:ilt 262144 (ofNat (Cl s))=false) (hp0:p0 (FT (onP 0 p0 (Vk s a k x) L)) (P6 s)=true):(Ay (Aj tab ⟨A2 tb41,onP 0 p0 (Vk s a k x) L,Gl⟩ Tryz.f67 [.str s] [])).sem=some ((.tup [.ref 0,iV 30,nV a]),[.row 76 6 0 Ab]):=by
 exact Af (ks:=[kn h0,kn hp0]) (by kernel_rfl)
end
theorem Abx (L:LT) (s:List UInt8) (hs:s.length <= 262144) (a k:Nat) (x:Nat->V):∀ (q e:Nat) (j:Nat->V),s.length-e<q ->
  (A4 (GB L) (DR s) q (Ou s a k x e j)).sem=some (JI s a k x (e+(BM (s.drop e)).length))
 | 0,e,j,h=>absurd h (Nat.not_lt_zero _)
 | q+1,e,j,h=>by
  have hsl:Cl s=s.length:=rfl;rcases Nat.lt_or_ge e s.length with he | he
  ·have c0:ilt (ofNat e) (ofNat (Cl s))=true:=ofNat_lt he
   have c1:Ak (ile 0 (ofNat e)) (ilt (ofNat e) (ofNat (Cl s)))=true:=Ae he;rw [Gk he];cases hb:Hx s[e] with
   | true =>rw [show BM (s[e]::s.drop (e+1))=[] by unfold BM; rw [List.takeWhile_cons_of_neg (by simp [hb])]];exact Ah (Anf L s a k x e j c0 c1 (by rw [NE he]; exact hb))
   | false =>rw [Ah (And L s a k x e j c0 c1 (by rw [NE he]; exact hb)),AY,A5 (n:=s.length) he (by omega)];have:=Abx L s hs a k x q (e+1) Ab (by omega);rw [show BM (s[e]::s.drop (e+1))=s[e]::BM (s.drop (e+1)) by unfold BM; rw [List.takeWhile_cons_of_pos (by simp [hb])],List.length_cons,show e+((BM (s.drop (e+1))).length+1)=e+1+(BM (s.drop (e+1))).length by omega];exact this
  ·rw [List.drop_eq_nil_of_le he]
   exact Ah (Ane L s a k x e j (Az he))
theorem WV (s:List UInt8) (a k:Nat) (x:Nat->V) (j:Nat->V):LC s a k x j=Ou s a k x a (λi=>nth (LC s a k x j).t i):=by kernel_rfl
theorem Aby (M:LT) (hMM:LLe M M) (s:List UInt8) (hs:s.length <= 262144) (m2:∀ f st,M 2 f st=A4 f (DR s) (Cl s+1) st):∀ (q a:Nat) (acc:List E6) (j:Nat->V),s.length-a<q->a <= s.length->acc.length <= a ->
  ((Dk q (s.drop a) a acc).2.1=0∧(A4 (FT M) (G7 s) q (Ov s a acc.length (Fe acc) j)).sem=some (Rn s 0 (Dk q (s.drop a) a acc).1.length (Fe (Dk q (s.drop a) a acc).1))) ∨
  ((Dk q (s.drop a) a acc).2.1=30∧(Dk q (s.drop a) a acc).1=[]∧(A4 (FT M) (G7 s) q (Ov s a acc.length (Fe acc) j)).sem=some (Vk s (Dk q (s.drop a) a acc).2.2 (JY q (s.drop a) acc).1.length (Fe (JY q (s.drop a) acc).1)))
 | 0,a,acc,j,h,_,_=>absurd h (Nat.not_lt_zero _)
 | q+1,a,acc,j,h,ha,hk=>by
  have hsl:Cl s=s.length:=rfl;rcases Nat.lt_or_ge a s.length with he | he
  ·have c0:ilt (ofNat a) (ofNat (Cl s))=true:=ofNat_lt he
   have c1:Ak (ile 0 (ofNat a)) (ilt (ofNat a) (ofNat (Cl s)))=true:=Ae he;cases hb:Hx s[a] with
   | true =>
    have e1:Dk (q+1) (s.drop a) a acc=Dk q (s.drop (a+1)) (a+1) acc:=by rw [Gk he,Uz hb]
    have e2:JY (q+1) (s.drop a) acc=JY q (s.drop (a+1)) acc:=by rw [Gk he,JY,if_pos hb]
    rw [e1,e2,Ah (AmZ M s a acc.length (Fe acc) j c0 c1 (by rw [NE he]; exact hb)),AY,A5 (n:=s.length) he (by omega)];exact Aby M hMM s hs m2 q (a+1) acc Ab (by omega) (by omega) (by omega)
   | false =>
    have c2:Fj (N4 s a)=false:=by rw [NE he]; exact hb
    have hw0:0<(BM (s.drop a)).length:=by
     rw [Gk he];unfold BM;rw [List.takeWhile_cons_of_pos (by simp [hb])];exact Nat.succ_pos _
    have hwl:=Aa6 (s.drop a);rw [List.length_drop] at hwl;have hi:∀ M',(M 2 (GB M') (LC s a acc.length (Fe acc) j)).sem=some (JI s a acc.length (Fe acc) (a+(BM (s.drop a)).length)):=λM'=>by
     rw [m2,WV];exact Abx M' s hs a acc.length (Fe acc) (Cl s+1) a _ (by omega)
    have hsub:G0 a (Gw (a+(BM (s.drop a)).length) s)=BM (s.drop a):=by
     show (s.take (a+(BM (s.drop a)).length)).drop a=_;rw [List.drop_take,show a+(BM (s.drop a)).length-a=(BM (s.drop a)).length by omega];exact (List.prefix_iff_eq_take.1 (List.takeWhile_prefix _)).symm
    have c3:Ak (ile 0 (ofNat a)) (Ak (ile (ofNat a) (ofNat (a+(BM (s.drop a)).length))) (ile (ofNat (a+(BM (s.drop a)).length)) (ofNat (Cl s))))=true:=by
     rw [Cy,ile_nat,ile_nat,decide_eq_true (by omega),decide_eq_true (by omega)];rfl
    have e0:Dk (q+1) (s.drop a) a acc=if FN (BM (s.drop a))=0 then Dk q ((s.drop a).drop (BM (s.drop a)).length) (a+(BM (s.drop a)).length) (acc++[FO (BM (s.drop a))]) else ([],30,a):=by
     rw [Gk he,Dk,if_neg (by rw [hb]; decide)]
    have e5:JY (q+1) (s.drop a) acc=if FN (BM (s.drop a))=0 then JY q ((s.drop a).drop (BM (s.drop a)).length) (acc++[FO (BM (s.drop a))]) else (acc,FO (BM (s.drop a))):=by
     rw [Gk he,JY,if_neg (by rw [hb]; decide)]
    by_cases hp:FN (BM (s.drop a))=0
    ·have c4:ieq (FN (G0 a (Gw (a+(BM (s.drop a)).length) s))) 0=true:=by rw [hsub,hp]; rfl
     have h9:(acc.length+1) * 40 <= 140737488355328:=by omega
     have h3:=AmW M _ s a acc.length (Fe acc) (a+(BM (s.drop a)).length) j c0 c1 c2 c3 c4 (decide_eq_true h9) (AB (hi _));have h4:A1 (FT M) (G7 s) (Ov s a acc.length (Fe acc) j)=_:=QC (l:=G7 s) (P2 (Γ:=⟨A2 tb41,M,Gl⟩) (Bm hMM hMM) (A3 Tryz.f67 0) 0 (Ov s a acc.length (Fe acc) j)) h3;rw [if_pos hp,List.drop_drop] at e0 e5;rw [e0,e5,Ah h4,AY,hsub,Zy];have ih:=Aby M hMM s hs m2 q (a+(BM (s.drop a)).length) (acc++[FO (BM (s.drop a))]) Ab (by omega) (by omega) (by rw [List.length_append]; simp only [List.length_cons,List.length_nil]; omega);rw [show (acc++[FO (BM (s.drop a))]).length=acc.length+1 from List.length_append] at ih;exact ih
    ·have c4:ieq (FN (G0 a (Gw (a+(BM (s.drop a)).length) s))) 0=false:=by rw [hsub]; simp [ieq,hp]
     have h3:=AmX M _ s a acc.length (Fe acc) (a+(BM (s.drop a)).length) j c0 c1 c2 c3 c4 (AB (hi _));have h4:A1 (FT M) (G7 s) (Ov s a acc.length (Fe acc) j)=_:=QC (l:=G7 s) (P2 (Γ:=⟨A2 tb41,M,Gl⟩) (Bm hMM hMM) (A3 Tryz.f67 0) 0 (Ov s a acc.length (Fe acc) j)) h3;rw [if_neg hp] at e0 e5;rw [e0,e5];refine .inr ⟨rfl,rfl,?_⟩;rw [Ah h4];rfl
  ·rw [List.drop_eq_nil_of_le he]
   exact .inl ⟨rfl,Ah (AmY M s a acc.length (Fe acc) j (Az he))⟩
theorem Ady (s:List UInt8):P6 s=Ov s 0 0 Ab (λi=>nth (P6 s).t i):=by kernel_rfl
theorem p41:As Tryz.prog Gl 67 psT:=by
 refine Am A0 mixed Tryz.func67 (by kernel_rfl) (by kernel_rfl) λvs v h' h=>?_;unfold psT at h;split at h
 ·rename_i s
  have:=Aa h;simp only [Prod.mk.injEq] at this;obtain ⟨rfl,rfl⟩:=this;have hx:=Bs tb41_ok [(0,G7 s),(2,DR s)];have hL:=Bq [(0,G7 s),(2,DR s)];cases hb:AdW s with
  | true =>
   have e1:psN s=0:=by unfold psN psL; rw [hb]; rfl
   have e2:psE s=2:=by unfold psE; rw [hb]; rfl
   have e3:psI s=0:=by unfold psI; rw [hb]; rfl
   rw [e1,e2,e3];exact ⟨_,AT Gl tb41 [(0,G7 s),(2,DR s)],_,Bw.refl _,rfl,hx.1,hx.2,Am3 _ s hb,Aw.one λj hj=>absurd hj (Nat.not_lt_zero _)⟩
  | false =>
   have hs:s.length <= 262144:=by
    unfold AdW at hb;rw [show (262144:Int)=ofNat 262144 from rfl,DI] at hb;have:=of_decide_eq_false hb;have hsl:Cl s=s.length:=rfl;omega
   have e0:psL s=(psR s).1:=by unfold psL; rw [hb]; rfl
   have e2:psE s=(psR s).2.1:=by unfold psE; rw [hb]; rfl
   have e3:psI s=ofNat (psR s).2.2:=by unfold psI; rw [hb]; rfl
   have hg:ilt 262144 (ofNat (Cl s))=false:=hb;have key:∀ M,LLe M M->(∀ f st,M 2 f st=A4 f (DR s) (Cl s+1) st)->((psR s).2.1=0∧(A4 (FT M) (G7 s) (Cl s+1) (P6 s)).sem=some (Rn s 0 (psR s).1.length (Fe (psR s).1))) ∨
     ((psR s).2.1=30∧(psR s).1=[]∧(A4 (FT M) (G7 s) (Cl s+1) (P6 s)).sem=some (Vk s (psR s).2.2 (JY (s.length+1) s []).1.length (Fe (JY (s.length+1) s []).1))):=λM h1 h2=>by
    rw [Ady];exact Aby M h1 s hs h2 (s.length+1) 0 [] (λi=>nth (P6 s).t i) (by omega) (by omega) (Nat.le_refl _)
   have mm:∀ r,LLe (onP 0 (isP (Cb [(0,G7 s),(2,DR s)]) 0 r) r (Cb [(0,G7 s),(2,DR s)])) (onP 0 (isP (Cb [(0,G7 s),(2,DR s)]) 0 r) r (Cb [(0,G7 s),(2,DR s)])):=λr=>Al4 hL 0 r;rw [e2,e3];unfold psN psG;rw [e0];by_cases hok:(psR s).2.1=0
   ·have hat:(psR s).2.2=0:=OB _ _ _ _ hok
    have hw:=Bp (Bm hL hL) _ (Am2 (Cb [(0,G7 s),(2,DR s)]) _ s 0 (psR s).1.length (Fe (psR s).1) hg (AB (by
     rcases key _ (mm (Rn s 0 (psR s).1.length (Fe (psR s).1))) (λ_ _=>rfl) with ⟨_,h2⟩ | ⟨h1,_⟩
     ·exact h2
     ·rw [hok] at h1; cases h1)))
    rw [hok,hat];exact ⟨_,AT Gl tb41 [(0,G7 s),(2,DR s)],_,Bw.refl _,rfl,hx.1,hx.2,hw,Aw.one λj hj=>(IS (λi=>eV (MA (psR s).1 i)) (psR s).1.length j hj).symm⟩
   ·have hno:(psR s).2.1=30∧(psR s).1=[]:=by
     rcases key _ (mm (Rn s 0 0 (Fe []))) (λ_ _=>rfl) with ⟨h1,_⟩ | ⟨h1,h2,_⟩
     ·exact absurd h1 hok
     ·exact ⟨h1,h2⟩
    have hw:=Bp (Bm hL hL) _ (Am4 (Cb [(0,G7 s),(2,DR s)]) _ s (psR s).2.2 (JY (s.length+1) s []).1.length (Fe (JY (s.length+1) s []).1) hg (AB (by
     rcases key _ (mm (Vk s (psR s).2.2 (JY (s.length+1) s []).1.length (Fe (JY (s.length+1) s []).1))) (λ_ _=>rfl) with ⟨h1,_⟩ | ⟨_,_,h3⟩
     ·exact absurd h1 hok
     ·exact h3)))
    rw [hno.1,hno.2];exact ⟨_,AT Gl tb41 [(0,G7 s),(2,DR s)],_,Bw.refl _,rfl,hx.1,hx.2,hw,Aw.one λj hj=>absurd hj (Nat.not_lt_zero _)⟩
 ·cases h
end Go.Proofs.YtkbafjceglhjhaaGreatDoor.Ed
namespace Go.Proofs.YtkbafjceglhjhaaGreatDoor.Sh
open Go.Sy Ed
open Int (ofNat)
set_option maxRecDepth 4000
def locL:List UInt8:=[120,121,122,97,98,99,100,101,102,103,104,105,106,107,108,109]
def CZ (x:Int):Int:=bif bor (ilt x 0) (ile 16 x) then 4 else 0
def BA (x:Int):List UInt8:=bif bor (ilt x 0) (ile 16 x) then [] else [locL.getD x.toNat 0]
def ZL:List V->AA
 | [.val (.int .i64 x)]=>.leaf (.tup [.str (BA x),iV (CZ x)],[])
 | _=>.fail
theorem Agm:(Ay (Aj tab (AT Gl tb0 []) Tryz.f39 [nV 0] [])).sem=some (.tup [.str (BA (ofNat 0)),iV (CZ (ofNat 0))],[]):=by kernel_rfl
theorem Agl:(Ay (Aj tab (AT Gl tb0 []) Tryz.f39 [nV 1] [])).sem=some (.tup [.str (BA (ofNat 1)),iV (CZ (ofNat 1))],[]):=by kernel_rfl
theorem Agk:(Ay (Aj tab (AT Gl tb0 []) Tryz.f39 [nV 2] [])).sem=some (.tup [.str (BA (ofNat 2)),iV (CZ (ofNat 2))],[]):=by kernel_rfl
theorem Agj:(Ay (Aj tab (AT Gl tb0 []) Tryz.f39 [nV 3] [])).sem=some (.tup [.str (BA (ofNat 3)),iV (CZ (ofNat 3))],[]):=by kernel_rfl
theorem Agi:(Ay (Aj tab (AT Gl tb0 []) Tryz.f39 [nV 4] [])).sem=some (.tup [.str (BA (ofNat 4)),iV (CZ (ofNat 4))],[]):=by kernel_rfl
theorem Agh:(Ay (Aj tab (AT Gl tb0 []) Tryz.f39 [nV 5] [])).sem=some (.tup [.str (BA (ofNat 5)),iV (CZ (ofNat 5))],[]):=by kernel_rfl
theorem Agg:(Ay (Aj tab (AT Gl tb0 []) Tryz.f39 [nV 6] [])).sem=some (.tup [.str (BA (ofNat 6)),iV (CZ (ofNat 6))],[]):=by kernel_rfl
theorem Agf:(Ay (Aj tab (AT Gl tb0 []) Tryz.f39 [nV 7] [])).sem=some (.tup [.str (BA (ofNat 7)),iV (CZ (ofNat 7))],[]):=by kernel_rfl
theorem Age:(Ay (Aj tab (AT Gl tb0 []) Tryz.f39 [nV 8] [])).sem=some (.tup [.str (BA (ofNat 8)),iV (CZ (ofNat 8))],[]):=by kernel_rfl
theorem Agd:(Ay (Aj tab (AT Gl tb0 []) Tryz.f39 [nV 9] [])).sem=some (.tup [.str (BA (ofNat 9)),iV (CZ (ofNat 9))],[]):=by kernel_rfl
theorem Ac6:(Ay (Aj tab (AT Gl tb0 []) Tryz.f39 [nV 10] [])).sem=some (.tup [.str (BA (ofNat 10)),iV (CZ (ofNat 10))],[]):=by kernel_rfl
theorem Ac5:(Ay (Aj tab (AT Gl tb0 []) Tryz.f39 [nV 11] [])).sem=some (.tup [.str (BA (ofNat 11)),iV (CZ (ofNat 11))],[]):=by kernel_rfl
theorem Ac4:(Ay (Aj tab (AT Gl tb0 []) Tryz.f39 [nV 12] [])).sem=some (.tup [.str (BA (ofNat 12)),iV (CZ (ofNat 12))],[]):=by kernel_rfl
theorem Ac3:(Ay (Aj tab (AT Gl tb0 []) Tryz.f39 [nV 13] [])).sem=some (.tup [.str (BA (ofNat 13)),iV (CZ (ofNat 13))],[]):=by kernel_rfl
theorem Ac2:(Ay (Aj tab (AT Gl tb0 []) Tryz.f39 [nV 14] [])).sem=some (.tup [.str (BA (ofNat 14)),iV (CZ (ofNat 14))],[]):=by kernel_rfl
theorem Ac1:(Ay (Aj tab (AT Gl tb0 []) Tryz.f39 [nV 15] [])).sem=some (.tup [.str (BA (ofNat 15)),iV (CZ (ofNat 15))],[]):=by kernel_rfl
theorem Aoz (k:Nat) (hk:k<16):(Ay (Aj tab (AT Gl tb0 []) Tryz.f39 [nV k] [])).sem=some (.tup [.str (BA (ofNat k)),iV (CZ (ofNat k))],[]):=by
 have:k=0 ∨ k=1 ∨ k=2 ∨ k=3 ∨ k=4 ∨ k=5 ∨ k=6 ∨ k=7 ∨ k=8 ∨ k=9 ∨ k=10 ∨ k=11 ∨ k=12 ∨ k=13 ∨ k=14 ∨ k=15:=by omega
 rcases this with rfl | rfl | rfl | rfl | rfl | rfl | rfl | rfl | rfl | rfl | rfl | rfl | rfl | rfl | rfl | rfl
 ·exact Agm
 ·exact Agl
 ·exact Agk
 ·exact Agj
 ·exact Agi
 ·exact Agh
 ·exact Agg
 ·exact Agf
 ·exact Age
 ·exact Agd
 ·exact Ac6
 ·exact Ac5
 ·exact Ac4
 ·exact Ac3
 ·exact Ac2
 ·exact Ac1
theorem p37:As Tryz.prog Gl 39 ZL:=by
 refine As.congr (AM A0 mixed Tryz.func39 (by kernel_rfl) (by kernel_rfl) (Γ:=AT Gl tb0 []) (Bs C5 [])) λvs r h=>?_;unfold ZL at h;split at h
 ·rename_i x
  rw [Aa h];show (Ay (Aj tab (AT Gl tb0 []) Tryz.f39 [iV x] [])).sem=_;cases c0:ilt x 0 with
  | true =>rw [show BA x=[] by unfold BA bor; rw [c0]; rfl,show CZ x=4 by unfold CZ bor; rw [c0]; rfl];exact Af (ks:=[kn c0,kn c0,kn c0,kT]) (by kernel_rfl)/-W:w37n-/
  | false =>
   cases c1:ile 16 x with
   | true =>rw [show BA x=[] by unfold BA bor; rw [c0,c1]; rfl,show CZ x=4 by unfold CZ bor; rw [c0,c1]; rfl];exact Af (ks:=[kn c0,kn c0,kn c0,kn c1]) (by kernel_rfl)/-W:w37g-/
   | false =>have h1:¬ x<0:=of_decide_eq_false c0;have h2:¬ (16:Int) <= x:=of_decide_eq_false c1;obtain ⟨k,rfl⟩:∃ k:Nat,x=ofNat k:=⟨x.toNat,by simp only [Int.ofNat_eq_natCast]; omega⟩;exact Aoz k (by simp only [Int.ofNat_eq_natCast] at h2; omega)
 ·cases h
theorem Agc:(Ay (Aj tab (AT Gl tb0 []) Tryz.f66 [nV 0] [])).sem=some (.tup [.str (BA (ofNat 0)),iV (CZ (ofNat 0))],[]):=by kernel_rfl
theorem Agb:(Ay (Aj tab (AT Gl tb0 []) Tryz.f66 [nV 1] [])).sem=some (.tup [.str (BA (ofNat 1)),iV (CZ (ofNat 1))],[]):=by kernel_rfl
theorem Aga:(Ay (Aj tab (AT Gl tb0 []) Tryz.f66 [nV 2] [])).sem=some (.tup [.str (BA (ofNat 2)),iV (CZ (ofNat 2))],[]):=by kernel_rfl
theorem AfZ:(Ay (Aj tab (AT Gl tb0 []) Tryz.f66 [nV 3] [])).sem=some (.tup [.str (BA (ofNat 3)),iV (CZ (ofNat 3))],[]):=by kernel_rfl
theorem AfY:(Ay (Aj tab (AT Gl tb0 []) Tryz.f66 [nV 4] [])).sem=some (.tup [.str (BA (ofNat 4)),iV (CZ (ofNat 4))],[]):=by kernel_rfl
theorem AfX:(Ay (Aj tab (AT Gl tb0 []) Tryz.f66 [nV 5] [])).sem=some (.tup [.str (BA (ofNat 5)),iV (CZ (ofNat 5))],[]):=by kernel_rfl
theorem AfW:(Ay (Aj tab (AT Gl tb0 []) Tryz.f66 [nV 6] [])).sem=some (.tup [.str (BA (ofNat 6)),iV (CZ (ofNat 6))],[]):=by kernel_rfl
theorem AfV:(Ay (Aj tab (AT Gl tb0 []) Tryz.f66 [nV 7] [])).sem=some (.tup [.str (BA (ofNat 7)),iV (CZ (ofNat 7))],[]):=by kernel_rfl
theorem AfU:(Ay (Aj tab (AT Gl tb0 []) Tryz.f66 [nV 8] [])).sem=some (.tup [.str (BA (ofNat 8)),iV (CZ (ofNat 8))],[]):=by kernel_rfl
theorem AfT:(Ay (Aj tab (AT Gl tb0 []) Tryz.f66 [nV 9] [])).sem=some (.tup [.str (BA (ofNat 9)),iV (CZ (ofNat 9))],[]):=by kernel_rfl
theorem Ac0:(Ay (Aj tab (AT Gl tb0 []) Tryz.f66 [nV 10] [])).sem=some (.tup [.str (BA (ofNat 10)),iV (CZ (ofNat 10))],[]):=by kernel_rfl
theorem Acz:(Ay (Aj tab (AT Gl tb0 []) Tryz.f66 [nV 11] [])).sem=some (.tup [.str (BA (ofNat 11)),iV (CZ (ofNat 11))],[]):=by kernel_rfl
theorem Acy:(Ay (Aj tab (AT Gl tb0 []) Tryz.f66 [nV 12] [])).sem=some (.tup [.str (BA (ofNat 12)),iV (CZ (ofNat 12))],[]):=by kernel_rfl
theorem Acx:(Ay (Aj tab (AT Gl tb0 []) Tryz.f66 [nV 13] [])).sem=some (.tup [.str (BA (ofNat 13)),iV (CZ (ofNat 13))],[]):=by kernel_rfl
theorem Acw:(Ay (Aj tab (AT Gl tb0 []) Tryz.f66 [nV 14] [])).sem=some (.tup [.str (BA (ofNat 14)),iV (CZ (ofNat 14))],[]):=by kernel_rfl
theorem Acv:(Ay (Aj tab (AT Gl tb0 []) Tryz.f66 [nV 15] [])).sem=some (.tup [.str (BA (ofNat 15)),iV (CZ (ofNat 15))],[]):=by kernel_rfl
theorem Aoy (k:Nat) (hk:k<16):(Ay (Aj tab (AT Gl tb0 []) Tryz.f66 [nV k] [])).sem=some (.tup [.str (BA (ofNat k)),iV (CZ (ofNat k))],[]):=by
 have:k=0 ∨ k=1 ∨ k=2 ∨ k=3 ∨ k=4 ∨ k=5 ∨ k=6 ∨ k=7 ∨ k=8 ∨ k=9 ∨ k=10 ∨ k=11 ∨ k=12 ∨ k=13 ∨ k=14 ∨ k=15:=by omega
 rcases this with rfl | rfl | rfl | rfl | rfl | rfl | rfl | rfl | rfl | rfl | rfl | rfl | rfl | rfl | rfl | rfl
 ·exact Agc
 ·exact Agb
 ·exact Aga
 ·exact AfZ
 ·exact AfY
 ·exact AfX
 ·exact AfW
 ·exact AfV
 ·exact AfU
 ·exact AfT
 ·exact Ac0
 ·exact Acz
 ·exact Acy
 ·exact Acx
 ·exact Acw
 ·exact Acv
theorem p38:As Tryz.prog Gl 66 ZL:=by
 refine As.congr (AM A0 mixed Tryz.func66 (by kernel_rfl) (by kernel_rfl) (Γ:=AT Gl tb0 []) (Bs C5 [])) λvs r h=>?_;unfold ZL at h;split at h
 ·rename_i x
  rw [Aa h];show (Ay (Aj tab (AT Gl tb0 []) Tryz.f66 [iV x] [])).sem=_;cases c0:ilt x 0 with
  | true =>rw [show BA x=[] by unfold BA bor; rw [c0]; rfl,show CZ x=4 by unfold CZ bor; rw [c0]; rfl];exact Af (ks:=[kn c0,kn c0,kn c0,kn c0,kn c0,kT]) (by kernel_rfl)/-W:w38n-/
  | false =>
   cases c1:ile 16 x with
   | true =>rw [show BA x=[] by unfold BA bor; rw [c0,c1]; rfl,show CZ x=4 by unfold CZ bor; rw [c0,c1]; rfl];exact Af (ks:=[kn c0,kn c0,kn c0,kn c0,kn c0,kn c1]) (by kernel_rfl)/-W:w38g-/
   | false =>have h1:¬ x<0:=of_decide_eq_false c0;have h2:¬ (16:Int) <= x:=of_decide_eq_false c1;obtain ⟨k,rfl⟩:∃ k:Nat,x=ofNat k:=⟨x.toNat,by simp only [Int.ofNat_eq_natCast]; omega⟩;exact Aoy k (by simp only [Int.ofNat_eq_natCast] at h2; omega)
 ·cases h
end Go.Proofs.YtkbafjceglhjhaaGreatDoor.Sh
namespace Go.Proofs.YtkbafjceglhjhaaGreatDoor.Sh
open Go.Sy Ed
set_option maxHeartbeats 1000000
set_option maxRecDepth 4000
noncomputable def tb3:AE:=(99,ofT)::(68,ofT)::(102,Kr)::[]
theorem tb3_ok:Ar Tryz.prog Gl tb3:=.cons p14 <| .cons p15 <| .cons p16 <| .nil
end Go.Proofs.YtkbafjceglhjhaaGreatDoor.Sh
