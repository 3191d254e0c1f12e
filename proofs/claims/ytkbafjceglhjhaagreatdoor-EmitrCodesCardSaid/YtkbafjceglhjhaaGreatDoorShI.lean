/-
  The document's Parse. No conditions.
-/
import Derived.Test.YtkbafjceglhjhaaGreatDoorCyYp
import Derived.Test.YtkbafjceglhjhaaGreatDoorCyZ
namespace Go.Proofs.YtkbafjceglhjhaaGreatDoor.Ed
open Go.Sy Go
open Int (ofNat)
theorem e84 (Γ:Cx) (vs:List V) (h:List Blk):Ai tab Γ Tryz.f105 vs h=Ai tab Γ Tryz.f105 vs h:=by kernel_rfl
theorem p84:An Tryz.prog Gl 105 Pe:=by
 refine Al A2 mixed Tryz.func105 (by kernel_rfl) (by kernel_rfl) λvs v h' h=>?_;unfold Pe at h;split at h
 ·rename_i x
  have:=Aa h;simp only [Prod.mk.injEq] at this;obtain ⟨rfl,rfl⟩:=this;have hx:=Bq BS [];refine ⟨_,AP Gl tb0 [],_,Bz.refl _,rfl,hx.1,hx.2,?_,Ap.refl _⟩;rw [e84];unfold EO;cases c1:ieq x 32 with
  | true=>exact Ag1 _ x c1
  | false =>
   cases c2:ieq x 9 with
   | true=>exact Ag0 _ x c1 c2
   | false =>
    cases c3:ieq x 10 with
    | true=>exact Agz _ x c1 c2 c3
    | false=>exact Agy _ x c1 c2 c3
 ·cases h
noncomputable def tb41:A9:=(105,Pe)::(106,Ny NU)::[]
theorem tb41_ok:Ao Tryz.prog Gl tb41:=.cons p84 <| .cons p22 .nil
def Ut (s:List UInt8) (a k:Nat) (x:Nat->V):Ex×St:=(.rt,⟨jsV 56 0 Ab [(2,.ref 1),(3,iV 30),(4,nV a),(6,.ref 2)],[.row 76 6 0 Ab,.row 76 6 0 Ab,.row 76 6 k x]⟩)
def Dw (s:List UInt8):Lp:=⟨bmK 56 0 [0,2,3,4,5,6,7,8],3,bmK 56 0 [0,2,3,4,5,6,7,8],3,Cb s+1⟩
def N8 (s:List UInt8) (a k:Nat) (x:Nat->V) (e:Nat) (j:Nat->V):St:=⟨jsV 56 0 j [(0,.str s),(2,.ref 0),(3,iV 0),(4,iV 0),(5,.ref 1),(6,.ref 2),(7,nV e),(8,nV a)],[.row 76 6 0 Ab,.row 76 6 0 Ab,.row 76 6 k x]⟩
def Jo (s:List UInt8) (a k:Nat) (x:Nat->V) (e:Nat):Ex×St:=(.ex 2,⟨jsV 56 0 Ab [(0,.str s),(2,.ref 0),(3,iV 0),(4,iV 0),(5,.ref 1),(6,.ref 2),(7,nV e),(8,nV a)],[.row 76 6 0 Ab,.row 76 6 0 Ab,.row 76 6 k x]⟩)
noncomputable def Gn (L:LT):St->T (Ex×St):=λst=>A8 tab ⟨Ax tb41,L,Gl⟩ (As Tryz.f67 2) 2 st
section
variable (L:LT) (s:List UInt8) (a k:Nat) (x:Nat->V) (e:Nat)  (j:Nat->V)
include L s a k x e j
theorem AlD (h0:ilt (ofNat e) (ofNat (Cb s))=false):Ay (Gn L) (Dw s) (N8 s a k x e j)=some ((.ex 2),⟨jsV 56 0 Ab [(0,.str s),(2,.ref 0),(3,iV 0),(4,iV 0),(5,.ref 1),(6,.ref 2),(7,nV e),(8,nV a)],[.row 76 6 0 Ab,.row 76 6 0 Ab,.row 76 6 k x]⟩):=by
 exact Ad (ks:=[kn h0,kn h0,kn h0,kn h0,kn h0,kn h0,kF]) (by kernel_rfl)
theorem AlE (h0:ilt (ofNat e) (ofNat (Cb s))=true) (h1:Aj (ile 0 (ofNat e)) (ilt (ofNat e) (ofNat (Cb s)))=true) (h2:EO (MF s e)=true):Ay (Gn L) (Dw s) (N8 s a k x e j)=some ((.ex 2),⟨jsV 56 0 Ab [(0,.str s),(2,.ref 0),(3,iV 0),(4,iV 0),(5,.ref 1),(6,.ref 2),(7,nV e),(8,nV a)],[.row 76 6 0 Ab,.row 76 6 0 Ab,.row 76 6 k x]⟩):=by
 exact Ad (ks:=[kn h0,kn h0,kn h0,kn h1,kn h0,kn h0,kn h0,kN (kn h2)]) (by kernel_rfl)
theorem AlC (h0:ilt (ofNat e) (ofNat (Cb s))=true) (h1:Aj (ile 0 (ofNat e)) (ilt (ofNat e) (ofNat (Cb s)))=true) (h2:EO (MF s e)=false):Ay (Gn L) (Dw s) (N8 s a k x e j)=some (.nm,⟨jsV 56 0 Ab [(0,.str s),(2,.ref 0),(3,iV 0),(4,iV 0),(5,.ref 1),(6,.ref 2),(7,iV (wr .i64 (Ah (ofNat e) 1))),(8,nV a)],[.row 76 6 0 Ab,.row 76 6 0 Ab,.row 76 6 k x]⟩):=by
 exact Ad (ks:=[kn h0,kn h0,kn h0,kn h1,kn h0,kn h0,kn h0,kN (kn h2)]) (by kernel_rfl)
end
def Gg (s:List UInt8):Lp:=⟨bmK 56 0 [0,2,3,4,5,6,7],3,bmK 56 0 [2,3,4,6],3,Cb s+1⟩
def N9 (s:List UInt8) (a k:Nat) (x:Nat->V) (j:Nat->V):St:=⟨jsV 56 0 j [(0,.str s),(2,.ref 0),(3,iV 0),(4,iV 0),(5,.ref 1),(6,.ref 2),(7,nV a)],[.row 76 6 0 Ab,.row 76 6 0 Ab,.row 76 6 k x]⟩
def Q5 (s:List UInt8) (a k:Nat) (x:Nat->V):Ex×St:=(.ex 0,⟨jsV 56 0 Ab [(2,.ref 0),(3,iV 0),(4,iV 0),(6,.ref 2)],[.row 76 6 0 Ab,.row 76 6 0 Ab,.row 76 6 k x]⟩)
noncomputable def F4 (L:LT):St->T (Ex×St):=λst=>A8 tab ⟨Ax tb41,L,Gl⟩ (As Tryz.f67 0) 0 st
section
variable (L:LT) (s:List UInt8) (a k:Nat) (x:Nat->V)  (j:Nat->V)
include L s a k x j
theorem Al7 (h0:ilt (ofNat a) (ofNat (Cb s))=false):Ay (F4 L) (Gg s) (N9 s a k x j)=some ((.ex 0),⟨jsV 56 0 Ab [(2,.ref 0),(3,iV 0),(4,iV 0),(6,.ref 2)],[.row 76 6 0 Ab,.row 76 6 0 Ab,.row 76 6 k x]⟩):=by
 exact Ad (ks:=[kn h0]) (by kernel_rfl)
theorem Al8 (h0:ilt (ofNat a) (ofNat (Cb s))=true) (h1:Aj (ile 0 (ofNat a)) (ilt (ofNat a) (ofNat (Cb s)))=true) (h2:EO (MF s a)=true):Ay (F4 L) (Gg s) (N9 s a k x j)=some (.nm,⟨jsV 56 0 Ab [(0,.str s),(2,.ref 0),(3,iV 0),(4,iV 0),(5,.ref 1),(6,.ref 2),(7,iV (wr .i64 (Ah (ofNat a) 1)))],[.row 76 6 0 Ab,.row 76 6 0 Ab,.row 76 6 k x]⟩):=by
 exact Ad (ks:=[kn h0,kn h1,kn h2]) (by kernel_rfl)
end
def KO (s:List UInt8) (a k:Nat) (x:Nat->V) (j:Nat->V):St:=⟨jsV 56 0 j [(0,.str s),(2,.ref 0),(3,iV 0),(4,iV 0),(5,.ref 1),(6,.ref 2),(7,nV a),(8,nV a),(15,nV a),(16,.str s),(17,iV (ofNat (Cb s))),(18,bV (ilt (ofNat a) (ofNat (Cb s)))),(19,.str s),(20,nV a),(21,.val (Value.int IntKind.u8 (MF s a))),(22,bV (EO (MF s a))),(25,nV a)],[.row 76 6 0 Ab,.row 76 6 0 Ab,.row 76 6 k x]⟩
section
variable (L:LT) (p2:PT) (s:List UInt8) (a k:Nat) (x:Nat->V) (e:Nat) (j:Nat->V)
include L p2 s a k x e j
theorem Al5 (h0:ilt (ofNat a) (ofNat (Cb s))=true) (h1:Aj (ile 0 (ofNat a)) (ilt (ofNat a) (ofNat (Cb s)))=true) (h2:EO (MF s a)=false) (h3:Aj (ile 0 (ofNat a)) (Aj (ile (ofNat a) (ofNat e)) (ile (ofNat e) (ofNat (Cb s))))=true) (h4:ieq (Fw (FY a (FW e s))) 0=true) (h5:Bp k 1 40=true) (hp2:p2 (Gn (onP 2 p2 (Jo s a k x e) L)) (KO s a k x j)=true):Ay (F4 (onP 2 p2 (Jo s a k x e) L)) (Gg s) (N9 s a k x j)=some (.nm,⟨jsV 56 0 Ab [(0,.str s),(2,.ref 0),(3,iV 0),(4,iV 0),(5,.ref 1),(6,.ref 2),(7,nV e)],[.row 76 6 0 Ab,.row 76 6 0 Ab,.row 76 6 (AD k 1) (AG k x (eV (Fx (FY a (FW e s)))))]⟩):=by
 exact Ad (ks:=[kn h0,kn h1,kn h2,kn hp2,kn h3,kN (kn h4),kn h5]) (by kernel_rfl)
theorem Al6 (h0:ilt (ofNat a) (ofNat (Cb s))=true) (h1:Aj (ile 0 (ofNat a)) (ilt (ofNat a) (ofNat (Cb s)))=true) (h2:EO (MF s a)=false) (h3:Aj (ile 0 (ofNat a)) (Aj (ile (ofNat a) (ofNat e)) (ile (ofNat e) (ofNat (Cb s))))=true) (h4:ieq (Fw (FY a (FW e s))) 0=false) (hp2:p2 (Gn (onP 2 p2 (Jo s a k x e) L)) (KO s a k x j)=true):Ay (F4 (onP 2 p2 (Jo s a k x e) L)) (Gg s) (N9 s a k x j)=some (.rt,⟨jsV 56 0 Ab [(2,.ref 1),(3,iV 30),(4,nV a),(6,.ref 2)],[.row 76 6 0 Ab,.row 76 6 0 Ab,.row 76 6 k x]⟩):=by
 exact Ad (ks:=[kn h0,kn h1,kn h2,kn hp2,kn h3,kN (kn h4)]) (by kernel_rfl)
end
def OO (s:List UInt8) :St:=⟨jsV 56 0 (λ_=>AI) [(0,.str s),(2,.ref 0),(3,iV 0),(4,iV 0),(5,.ref 1),(6,.ref 2),(7,iV 0),(11,.str s),(12,iV (ofNat (Cb s))),(13,bV (ilt 262144 (ofNat (Cb s))))],[.row 76 6 0 Ab,.row 76 6 0 Ab,.row 76 6 0 Ab]⟩
theorem Ale (L:LT) (s:List UInt8) (h0:ilt 262144 (ofNat (Cb s))=true):(A0 (Ai tab ⟨Ax tb41,L,Gl⟩ Tryz.f67 [.str s] [])).sem=some ((.tup [.ref 0,iV 2,iV 0]),[.row 76 6 0 Ab]):=by
 exact Ad (ks:=[kn h0]) (by kernel_rfl)
section
variable (L:LT) (p0:PT) (s:List UInt8) (a k:Nat) (x:Nat->V)
include L p0 s a k x
theorem Ald (h0:ilt 262144 (ofNat (Cb s))=false) (hp0:p0 (F4 (onP 0 p0 (Q5 s a k x) L)) (OO s)=true):(A0 (Ai tab ⟨Ax tb41,onP 0 p0 (Q5 s a k x) L,Gl⟩ Tryz.f67 [.str s] [])).sem=some ((.tup [.ref 0,iV 0,iV 0]),[.row 76 6 k x]):=by
 exact Ad (ks:=[kn h0,kn hp0]) (by kernel_rfl)
theorem Alf (h0:ilt 262144 (ofNat (Cb s))=false) (hp0:p0 (F4 (onP 0 p0 (Ut s a k x) L)) (OO s)=true):(A0 (Ai tab ⟨Ax tb41,onP 0 p0 (Ut s a k x) L,Gl⟩ Tryz.f67 [.str s] [])).sem=some ((.tup [.ref 0,iV 30,nV a]),[.row 76 6 0 Ab]):=by
 exact Ad (ks:=[kn h0,kn hp0]) (by kernel_rfl)
end
theorem Aat (L:LT) (s:List UInt8) (hs:s.length <= 262144) (a k:Nat) (x:Nat->V):∀ (q e:Nat) (j:Nat->V),s.length-e<q ->
  (Au (Gn L) (Dw s) q (N8 s a k x e j)).sem=some (Jo s a k x (e+(BF (s.drop e)).length))
 | 0,e,j,h=>absurd h (Nat.not_lt_zero _)
 | q+1,e,j,h=>by
  have hsl:Cb s=s.length:=rfl;rcases Nat.lt_or_ge e s.length with he | he
  ·have c0:ilt (ofNat e) (ofNat (Cb s))=true:=ofNat_lt he
   have c1:Aj (ile 0 (ofNat e)) (ilt (ofNat e) (ofNat (Cb s)))=true:=Ae he;rw [FO he];cases hb:Hf s[e] with
   | true =>rw [show BF (s[e]::s.drop (e+1))=[] by unfold BF; rw [List.takeWhile_cons_of_neg (by simp [hb])]];exact Ag (AlE L s a k x e j c0 c1 (by rw [MR he]; exact hb))
   | false =>rw [Ag (AlC L s a k x e j c0 c1 (by rw [MR he]; exact hb)),AV,A1 (n:=s.length) he (by omega)];have:=Aat L s hs a k x q (e+1) Ab (by omega);rw [show BF (s[e]::s.drop (e+1))=s[e]::BF (s.drop (e+1)) by unfold BF; rw [List.takeWhile_cons_of_pos (by simp [hb])],List.length_cons,show e+((BF (s.drop (e+1))).length+1)=e+1+(BF (s.drop (e+1))).length by omega];exact this
  ·rw [List.drop_eq_nil_of_le he]
   exact Ag (AlD L s a k x e j (Az he))
theorem Wd (s:List UInt8) (a k:Nat) (x:Nat->V) (j:Nat->V):KO s a k x j=N8 s a k x a (λi=>nth (KO s a k x j).t i):=by kernel_rfl
theorem Aau (M:LT) (hMM:LLe M M) (s:List UInt8) (hs:s.length <= 262144) (m2:∀ f st,M 2 f st=Au f (Dw s) (Cb s+1) st):∀ (q a:Nat) (acc:List E6) (j:Nat->V),s.length-a<q->a <= s.length->acc.length <= a ->
  ((CS q (s.drop a) a acc).2.1=0∧(Au (F4 M) (Gg s) q (N9 s a acc.length (EG acc) j)).sem=some (Q5 s 0 (CS q (s.drop a) a acc).1.length (EG (CS q (s.drop a) a acc).1))) ∨
  ((CS q (s.drop a) a acc).2.1=30∧(CS q (s.drop a) a acc).1=[]∧(Au (F4 M) (Gg s) q (N9 s a acc.length (EG acc) j)).sem=some (Ut s (CS q (s.drop a) a acc).2.2 (Jz q (s.drop a) acc).1.length (EG (Jz q (s.drop a) acc).1)))
 | 0,a,acc,j,h,_,_=>absurd h (Nat.not_lt_zero _)
 | q+1,a,acc,j,h,ha,hk=>by
  have hsl:Cb s=s.length:=rfl;rcases Nat.lt_or_ge a s.length with he | he
  ·have c0:ilt (ofNat a) (ofNat (Cb s))=true:=ofNat_lt he
   have c1:Aj (ile 0 (ofNat a)) (ilt (ofNat a) (ofNat (Cb s)))=true:=Ae he;cases hb:Hf s[a] with
   | true =>
    have e1:CS (q+1) (s.drop a) a acc=CS q (s.drop (a+1)) (a+1) acc:=by rw [FO he,Tw hb]
    have e2:Jz (q+1) (s.drop a) acc=Jz q (s.drop (a+1)) acc:=by rw [FO he,Jz,if_pos hb]
    rw [e1,e2,Ag (Al8 M s a acc.length (EG acc) j c0 c1 (by rw [MR he]; exact hb)),AV,A1 (n:=s.length) he (by omega)];exact Aau M hMM s hs m2 q (a+1) acc Ab (by omega) (by omega) (by omega)
   | false =>
    have c2:EO (MF s a)=false:=by rw [MR he]; exact hb
    have hw0:0<(BF (s.drop a)).length:=by
     rw [FO he];unfold BF;rw [List.takeWhile_cons_of_pos (by simp [hb])];exact Nat.succ_pos _
    have hwl:=Z8 (s.drop a);rw [List.length_drop] at hwl;have hi:∀ M',(M 2 (Gn M') (KO s a acc.length (EG acc) j)).sem=some (Jo s a acc.length (EG acc) (a+(BF (s.drop a)).length)):=λM'=>by
     rw [m2,Wd];exact Aat M' s hs a acc.length (EG acc) (Cb s+1) a _ (by omega)
    have hsub:FY a (FW (a+(BF (s.drop a)).length) s)=BF (s.drop a):=by
     show (s.take (a+(BF (s.drop a)).length)).drop a=_;rw [List.drop_take,show a+(BF (s.drop a)).length-a=(BF (s.drop a)).length by omega];exact (List.prefix_iff_eq_take.1 (List.takeWhile_prefix _)).symm
    have c3:Aj (ile 0 (ofNat a)) (Aj (ile (ofNat a) (ofNat (a+(BF (s.drop a)).length))) (ile (ofNat (a+(BF (s.drop a)).length)) (ofNat (Cb s))))=true:=by
     rw [Cp,ile_nat,ile_nat,decide_eq_true (by omega),decide_eq_true (by omega)];rfl
    have e0:CS (q+1) (s.drop a) a acc=if Fw (BF (s.drop a))=0 then CS q ((s.drop a).drop (BF (s.drop a)).length) (a+(BF (s.drop a)).length) (acc++[Fx (BF (s.drop a))]) else ([],30,a):=by
     rw [FO he,CS,if_neg (by rw [hb]; decide)]
    have e5:Jz (q+1) (s.drop a) acc=if Fw (BF (s.drop a))=0 then Jz q ((s.drop a).drop (BF (s.drop a)).length) (acc++[Fx (BF (s.drop a))]) else (acc,Fx (BF (s.drop a))):=by
     rw [FO he,Jz,if_neg (by rw [hb]; decide)]
    by_cases hp:Fw (BF (s.drop a))=0
    ·have c4:ieq (Fw (FY a (FW (a+(BF (s.drop a)).length) s))) 0=true:=by rw [hsub,hp]; rfl
     have h9:(acc.length+1) * 40 <= 140737488355328:=by omega
     have h3:=Al5 M _ s a acc.length (EG acc) (a+(BF (s.drop a)).length) j c0 c1 c2 c3 c4 (decide_eq_true h9) (A5 (hi _));have h4:Ay (F4 M) (Gg s) (N9 s a acc.length (EG acc) j)=_:=PY (l:=Gg s) (KN (Γ:=⟨Ax tb41,M,Gl⟩) (Be hMM hMM) (As Tryz.f67 0) 0 (N9 s a acc.length (EG acc) j)) h3;rw [if_pos hp,List.drop_drop] at e0 e5;rw [e0,e5,Ag h4,AV,hsub,Y1];have ih:=Aau M hMM s hs m2 q (a+(BF (s.drop a)).length) (acc++[Fx (BF (s.drop a))]) Ab (by omega) (by omega) (by rw [List.length_append]; simp only [List.length_cons,List.length_nil]; omega);rw [show (acc++[Fx (BF (s.drop a))]).length=acc.length+1 from List.length_append] at ih;exact ih
    ·have c4:ieq (Fw (FY a (FW (a+(BF (s.drop a)).length) s))) 0=false:=by rw [hsub]; simp [ieq,hp]
     have h3:=Al6 M _ s a acc.length (EG acc) (a+(BF (s.drop a)).length) j c0 c1 c2 c3 c4 (A5 (hi _));have h4:Ay (F4 M) (Gg s) (N9 s a acc.length (EG acc) j)=_:=PY (l:=Gg s) (KN (Γ:=⟨Ax tb41,M,Gl⟩) (Be hMM hMM) (As Tryz.f67 0) 0 (N9 s a acc.length (EG acc) j)) h3;rw [if_neg hp] at e0 e5;rw [e0,e5];refine .inr ⟨rfl,rfl,?_⟩;rw [Ag h4];rfl
  ·rw [List.drop_eq_nil_of_le he]
   exact .inl ⟨rfl,Ag (Al7 M s a acc.length (EG acc) j (Az he))⟩
theorem Acw (s:List UInt8):OO s=N9 s 0 0 Ab (λi=>nth (OO s).t i):=by kernel_rfl
theorem p41:An Tryz.prog Gl 67 psT:=by
 refine Al A2 mixed Tryz.func67 (by kernel_rfl) (by kernel_rfl) λvs v h' h=>?_;unfold psT at h;split at h
 ·rename_i s
  have:=Aa h;simp only [Prod.mk.injEq] at this;obtain ⟨rfl,rfl⟩:=this;have hx:=Bq tb41_ok [(0,Gg s),(2,Dw s)];have hL:=Bh [(0,Gg s),(2,Dw s)];cases hb:AcT s with
  | true =>
   have e1:psN s=0:=by unfold psN psL; rw [hb]; rfl
   have e2:psE s=2:=by unfold psE; rw [hb]; rfl
   have e3:psI s=0:=by unfold psI; rw [hb]; rfl
   rw [e1,e2,e3];exact ⟨_,AP Gl tb41 [(0,Gg s),(2,Dw s)],_,Bz.refl _,rfl,hx.1,hx.2,Ale _ s hb,Ap.one λj hj=>absurd hj (Nat.not_lt_zero _)⟩
  | false =>
   have hs:s.length <= 262144:=by
    unfold AcT at hb;rw [show (262144:Int)=ofNat 262144 from rfl,Dt] at hb;have:=of_decide_eq_false hb;have hsl:Cb s=s.length:=rfl;omega
   have e0:psL s=(psR s).1:=by unfold psL; rw [hb]; rfl
   have e2:psE s=(psR s).2.1:=by unfold psE; rw [hb]; rfl
   have e3:psI s=ofNat (psR s).2.2:=by unfold psI; rw [hb]; rfl
   have hg:ilt 262144 (ofNat (Cb s))=false:=hb;have key:∀ M,LLe M M->(∀ f st,M 2 f st=Au f (Dw s) (Cb s+1) st)->((psR s).2.1=0∧(Au (F4 M) (Gg s) (Cb s+1) (OO s)).sem=some (Q5 s 0 (psR s).1.length (EG (psR s).1))) ∨
     ((psR s).2.1=30∧(psR s).1=[]∧(Au (F4 M) (Gg s) (Cb s+1) (OO s)).sem=some (Ut s (psR s).2.2 (Jz (s.length+1) s []).1.length (EG (Jz (s.length+1) s []).1))):=λM h1 h2=>by
    rw [Acw];exact Aau M h1 s hs h2 (s.length+1) 0 [] (λi=>nth (OO s).t i) (by omega) (by omega) (Nat.le_refl _)
   have mm:∀ r,LLe (onP 0 (isP (BO [(0,Gg s),(2,Dw s)]) 0 r) r (BO [(0,Gg s),(2,Dw s)])) (onP 0 (isP (BO [(0,Gg s),(2,Dw s)]) 0 r) r (BO [(0,Gg s),(2,Dw s)])):=λr=>Akg hL 0 r;rw [e2,e3];unfold psN psG;rw [e0];by_cases hok:(psR s).2.1=0
   ·have hat:(psR s).2.2=0:=NS _ _ _ _ hok
    have hw:=Bn (Be hL hL) _ (Ald (BO [(0,Gg s),(2,Dw s)]) _ s 0 (psR s).1.length (EG (psR s).1) hg (A5 (by
     rcases key _ (mm (Q5 s 0 (psR s).1.length (EG (psR s).1))) (λ_ _=>rfl) with ⟨_,h2⟩ | ⟨h1,_⟩
     ·exact h2
     ·rw [hok] at h1; cases h1)))
    rw [hok,hat];exact ⟨_,AP Gl tb41 [(0,Gg s),(2,Dw s)],_,Bz.refl _,rfl,hx.1,hx.2,hw,Ap.one λj hj=>(I3 (λi=>eV (LP (psR s).1 i)) (psR s).1.length j hj).symm⟩
   ·have hno:(psR s).2.1=30∧(psR s).1=[]:=by
     rcases key _ (mm (Q5 s 0 0 (EG []))) (λ_ _=>rfl) with ⟨h1,_⟩ | ⟨h1,h2,_⟩
     ·exact absurd h1 hok
     ·exact ⟨h1,h2⟩
    have hw:=Bn (Be hL hL) _ (Alf (BO [(0,Gg s),(2,Dw s)]) _ s (psR s).2.2 (Jz (s.length+1) s []).1.length (EG (Jz (s.length+1) s []).1) hg (A5 (by
     rcases key _ (mm (Ut s (psR s).2.2 (Jz (s.length+1) s []).1.length (EG (Jz (s.length+1) s []).1))) (λ_ _=>rfl) with ⟨h1,_⟩ | ⟨_,_,h3⟩
     ·exact absurd h1 hok
     ·exact h3)))
    rw [hno.1,hno.2];exact ⟨_,AP Gl tb41 [(0,Gg s),(2,Dw s)],_,Bz.refl _,rfl,hx.1,hx.2,hw,Ap.one λj hj=>absurd hj (Nat.not_lt_zero _)⟩
 ·cases h
end Go.Proofs.YtkbafjceglhjhaaGreatDoor.Ed
namespace Go.Proofs.YtkbafjceglhjhaaGreatDoor.Sh
open Go.Sy Ed
open Int (ofNat)
set_option maxRecDepth 4000
def locL:List UInt8:=[120,121,122,97,98,99,100,101,102,103,104,105,106,107,108,109]
def CC (x:Int):Int:=bif bor (ilt x 0) (ile 16 x) then 4 else 0
def Cw (x:Int):List UInt8:=bif bor (ilt x 0) (ile 16 x) then [] else [locL.getD x.toNat 0]
def VL:List V->A3
 | [.val (.int .i64 x)]=>.leaf (.tup [.str (Cw x),iV (CC x)],[])
 | _=>.fail
theorem Afo:(A0 (Ai tab (AP Gl tb0 []) Tryz.f39 [nV 0] [])).sem=some (.tup [.str (Cw (ofNat 0)),iV (CC (ofNat 0))],[]):=by kernel_rfl
theorem Afn:(A0 (Ai tab (AP Gl tb0 []) Tryz.f39 [nV 1] [])).sem=some (.tup [.str (Cw (ofNat 1)),iV (CC (ofNat 1))],[]):=by kernel_rfl
theorem Afm:(A0 (Ai tab (AP Gl tb0 []) Tryz.f39 [nV 2] [])).sem=some (.tup [.str (Cw (ofNat 2)),iV (CC (ofNat 2))],[]):=by kernel_rfl
theorem Afl:(A0 (Ai tab (AP Gl tb0 []) Tryz.f39 [nV 3] [])).sem=some (.tup [.str (Cw (ofNat 3)),iV (CC (ofNat 3))],[]):=by kernel_rfl
theorem Afk:(A0 (Ai tab (AP Gl tb0 []) Tryz.f39 [nV 4] [])).sem=some (.tup [.str (Cw (ofNat 4)),iV (CC (ofNat 4))],[]):=by kernel_rfl
theorem Afj:(A0 (Ai tab (AP Gl tb0 []) Tryz.f39 [nV 5] [])).sem=some (.tup [.str (Cw (ofNat 5)),iV (CC (ofNat 5))],[]):=by kernel_rfl
theorem Afi:(A0 (Ai tab (AP Gl tb0 []) Tryz.f39 [nV 6] [])).sem=some (.tup [.str (Cw (ofNat 6)),iV (CC (ofNat 6))],[]):=by kernel_rfl
theorem Afh:(A0 (Ai tab (AP Gl tb0 []) Tryz.f39 [nV 7] [])).sem=some (.tup [.str (Cw (ofNat 7)),iV (CC (ofNat 7))],[]):=by kernel_rfl
theorem Afg:(A0 (Ai tab (AP Gl tb0 []) Tryz.f39 [nV 8] [])).sem=some (.tup [.str (Cw (ofNat 8)),iV (CC (ofNat 8))],[]):=by kernel_rfl
theorem Aff:(A0 (Ai tab (AP Gl tb0 []) Tryz.f39 [nV 9] [])).sem=some (.tup [.str (Cw (ofNat 9)),iV (CC (ofNat 9))],[]):=by kernel_rfl
theorem Ab8:(A0 (Ai tab (AP Gl tb0 []) Tryz.f39 [nV 10] [])).sem=some (.tup [.str (Cw (ofNat 10)),iV (CC (ofNat 10))],[]):=by kernel_rfl
theorem Ab7:(A0 (Ai tab (AP Gl tb0 []) Tryz.f39 [nV 11] [])).sem=some (.tup [.str (Cw (ofNat 11)),iV (CC (ofNat 11))],[]):=by kernel_rfl
theorem Ab6:(A0 (Ai tab (AP Gl tb0 []) Tryz.f39 [nV 12] [])).sem=some (.tup [.str (Cw (ofNat 12)),iV (CC (ofNat 12))],[]):=by kernel_rfl
theorem Ab5:(A0 (Ai tab (AP Gl tb0 []) Tryz.f39 [nV 13] [])).sem=some (.tup [.str (Cw (ofNat 13)),iV (CC (ofNat 13))],[]):=by kernel_rfl
theorem Ab4:(A0 (Ai tab (AP Gl tb0 []) Tryz.f39 [nV 14] [])).sem=some (.tup [.str (Cw (ofNat 14)),iV (CC (ofNat 14))],[]):=by kernel_rfl
theorem Ab3:(A0 (Ai tab (AP Gl tb0 []) Tryz.f39 [nV 15] [])).sem=some (.tup [.str (Cw (ofNat 15)),iV (CC (ofNat 15))],[]):=by kernel_rfl
theorem Anr (k:Nat) (hk:k<16):(A0 (Ai tab (AP Gl tb0 []) Tryz.f39 [nV k] [])).sem=some (.tup [.str (Cw (ofNat k)),iV (CC (ofNat k))],[]):=by
 have:k=0 ∨ k=1 ∨ k=2 ∨ k=3 ∨ k=4 ∨ k=5 ∨ k=6 ∨ k=7 ∨ k=8 ∨ k=9 ∨ k=10 ∨ k=11 ∨ k=12 ∨ k=13 ∨ k=14 ∨ k=15:=by omega
 rcases this with rfl | rfl | rfl | rfl | rfl | rfl | rfl | rfl | rfl | rfl | rfl | rfl | rfl | rfl | rfl | rfl
 ·exact Afo
 ·exact Afn
 ·exact Afm
 ·exact Afl
 ·exact Afk
 ·exact Afj
 ·exact Afi
 ·exact Afh
 ·exact Afg
 ·exact Aff
 ·exact Ab8
 ·exact Ab7
 ·exact Ab6
 ·exact Ab5
 ·exact Ab4
 ·exact Ab3
theorem p37:An Tryz.prog Gl 39 VL:=by
 refine An.congr (AK A2 mixed Tryz.func39 (by kernel_rfl) (by kernel_rfl) (Γ:=AP Gl tb0 []) (Bq BS [])) λvs r h=>?_;unfold VL at h;split at h
 ·rename_i x
  rw [Aa h];show (A0 (Ai tab (AP Gl tb0 []) Tryz.f39 [iV x] [])).sem=_;cases c0:ilt x 0 with
  | true =>rw [show Cw x=[] by unfold Cw bor; rw [c0]; rfl,show CC x=4 by unfold CC bor; rw [c0]; rfl];exact Ad (ks:=[kn c0,kn c0,kn c0,kT]) (by kernel_rfl)/-W:w37n-/
  | false =>
   cases c1:ile 16 x with
   | true =>rw [show Cw x=[] by unfold Cw bor; rw [c0,c1]; rfl,show CC x=4 by unfold CC bor; rw [c0,c1]; rfl];exact Ad (ks:=[kn c0,kn c0,kn c0,kn c1]) (by kernel_rfl)/-W:w37g-/
   | false =>have h1:¬ x<0:=of_decide_eq_false c0;have h2:¬ (16:Int) <= x:=of_decide_eq_false c1;obtain ⟨k,rfl⟩:∃ k:Nat,x=ofNat k:=⟨x.toNat,by simp only [Int.ofNat_eq_natCast]; omega⟩;exact Anr k (by simp only [Int.ofNat_eq_natCast] at h2; omega)
 ·cases h
theorem Afe:(A0 (Ai tab (AP Gl tb0 []) Tryz.f66 [nV 0] [])).sem=some (.tup [.str (Cw (ofNat 0)),iV (CC (ofNat 0))],[]):=by kernel_rfl
theorem Afd:(A0 (Ai tab (AP Gl tb0 []) Tryz.f66 [nV 1] [])).sem=some (.tup [.str (Cw (ofNat 1)),iV (CC (ofNat 1))],[]):=by kernel_rfl
theorem Afc:(A0 (Ai tab (AP Gl tb0 []) Tryz.f66 [nV 2] [])).sem=some (.tup [.str (Cw (ofNat 2)),iV (CC (ofNat 2))],[]):=by kernel_rfl
theorem Afb:(A0 (Ai tab (AP Gl tb0 []) Tryz.f66 [nV 3] [])).sem=some (.tup [.str (Cw (ofNat 3)),iV (CC (ofNat 3))],[]):=by kernel_rfl
theorem Afa:(A0 (Ai tab (AP Gl tb0 []) Tryz.f66 [nV 4] [])).sem=some (.tup [.str (Cw (ofNat 4)),iV (CC (ofNat 4))],[]):=by kernel_rfl
theorem AeZ:(A0 (Ai tab (AP Gl tb0 []) Tryz.f66 [nV 5] [])).sem=some (.tup [.str (Cw (ofNat 5)),iV (CC (ofNat 5))],[]):=by kernel_rfl
theorem AeY:(A0 (Ai tab (AP Gl tb0 []) Tryz.f66 [nV 6] [])).sem=some (.tup [.str (Cw (ofNat 6)),iV (CC (ofNat 6))],[]):=by kernel_rfl
theorem AeX:(A0 (Ai tab (AP Gl tb0 []) Tryz.f66 [nV 7] [])).sem=some (.tup [.str (Cw (ofNat 7)),iV (CC (ofNat 7))],[]):=by kernel_rfl
theorem AeW:(A0 (Ai tab (AP Gl tb0 []) Tryz.f66 [nV 8] [])).sem=some (.tup [.str (Cw (ofNat 8)),iV (CC (ofNat 8))],[]):=by kernel_rfl
theorem AeV:(A0 (Ai tab (AP Gl tb0 []) Tryz.f66 [nV 9] [])).sem=some (.tup [.str (Cw (ofNat 9)),iV (CC (ofNat 9))],[]):=by kernel_rfl
theorem Ab2:(A0 (Ai tab (AP Gl tb0 []) Tryz.f66 [nV 10] [])).sem=some (.tup [.str (Cw (ofNat 10)),iV (CC (ofNat 10))],[]):=by kernel_rfl
theorem Ab1:(A0 (Ai tab (AP Gl tb0 []) Tryz.f66 [nV 11] [])).sem=some (.tup [.str (Cw (ofNat 11)),iV (CC (ofNat 11))],[]):=by kernel_rfl
theorem Ab0:(A0 (Ai tab (AP Gl tb0 []) Tryz.f66 [nV 12] [])).sem=some (.tup [.str (Cw (ofNat 12)),iV (CC (ofNat 12))],[]):=by kernel_rfl
theorem Abz:(A0 (Ai tab (AP Gl tb0 []) Tryz.f66 [nV 13] [])).sem=some (.tup [.str (Cw (ofNat 13)),iV (CC (ofNat 13))],[]):=by kernel_rfl
theorem Aby:(A0 (Ai tab (AP Gl tb0 []) Tryz.f66 [nV 14] [])).sem=some (.tup [.str (Cw (ofNat 14)),iV (CC (ofNat 14))],[]):=by kernel_rfl
theorem Abx:(A0 (Ai tab (AP Gl tb0 []) Tryz.f66 [nV 15] [])).sem=some (.tup [.str (Cw (ofNat 15)),iV (CC (ofNat 15))],[]):=by kernel_rfl
theorem Anq (k:Nat) (hk:k<16):(A0 (Ai tab (AP Gl tb0 []) Tryz.f66 [nV k] [])).sem=some (.tup [.str (Cw (ofNat k)),iV (CC (ofNat k))],[]):=by
 have:k=0 ∨ k=1 ∨ k=2 ∨ k=3 ∨ k=4 ∨ k=5 ∨ k=6 ∨ k=7 ∨ k=8 ∨ k=9 ∨ k=10 ∨ k=11 ∨ k=12 ∨ k=13 ∨ k=14 ∨ k=15:=by omega
 rcases this with rfl | rfl | rfl | rfl | rfl | rfl | rfl | rfl | rfl | rfl | rfl | rfl | rfl | rfl | rfl | rfl
 ·exact Afe
 ·exact Afd
 ·exact Afc
 ·exact Afb
 ·exact Afa
 ·exact AeZ
 ·exact AeY
 ·exact AeX
 ·exact AeW
 ·exact AeV
 ·exact Ab2
 ·exact Ab1
 ·exact Ab0
 ·exact Abz
 ·exact Aby
 ·exact Abx
theorem p38:An Tryz.prog Gl 66 VL:=by
 refine An.congr (AK A2 mixed Tryz.func66 (by kernel_rfl) (by kernel_rfl) (Γ:=AP Gl tb0 []) (Bq BS [])) λvs r h=>?_;unfold VL at h;split at h
 ·rename_i x
  rw [Aa h];show (A0 (Ai tab (AP Gl tb0 []) Tryz.f66 [iV x] [])).sem=_;cases c0:ilt x 0 with
  | true =>rw [show Cw x=[] by unfold Cw bor; rw [c0]; rfl,show CC x=4 by unfold CC bor; rw [c0]; rfl];exact Ad (ks:=[kn c0,kn c0,kn c0,kn c0,kn c0,kT]) (by kernel_rfl)/-W:w38n-/
  | false =>
   cases c1:ile 16 x with
   | true =>rw [show Cw x=[] by unfold Cw bor; rw [c0,c1]; rfl,show CC x=4 by unfold CC bor; rw [c0,c1]; rfl];exact Ad (ks:=[kn c0,kn c0,kn c0,kn c0,kn c0,kn c1]) (by kernel_rfl)/-W:w38g-/
   | false =>have h1:¬ x<0:=of_decide_eq_false c0;have h2:¬ (16:Int) <= x:=of_decide_eq_false c1;obtain ⟨k,rfl⟩:∃ k:Nat,x=ofNat k:=⟨x.toNat,by simp only [Int.ofNat_eq_natCast]; omega⟩;exact Anq k (by simp only [Int.ofNat_eq_natCast] at h2; omega)
 ·cases h
noncomputable def tb18:A9:=(67,psT)::(99,ofT)::(39,VL)::[]
theorem tb18_ok:Ao Tryz.prog Gl tb18:=.cons p41 <| .cons p14 <| .cons p37 .nil
end Go.Proofs.YtkbafjceglhjhaaGreatDoor.Sh
namespace Go.Proofs.YtkbafjceglhjhaaGreatDoor.Sh
open Go.Sy Ed
set_option maxHeartbeats 1000000
set_option maxRecDepth 4000
noncomputable def tb3:A9:=(99,ofT)::(68,ofT)::(102,JH)::[]
theorem tb3_ok:Ao Tryz.prog Gl tb3:=.cons p14 <| .cons p15 <| .cons p16 <| .nil
end Go.Proofs.YtkbafjceglhjhaaGreatDoor.Sh
