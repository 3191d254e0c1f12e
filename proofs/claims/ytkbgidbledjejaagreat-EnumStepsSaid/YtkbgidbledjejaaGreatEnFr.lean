/-
  The document's Parse. No conditions.
-/
import Derived.Test.YtkbgidbledjejaaGreatCyYp
import Derived.Test.YtkbgidbledjejaaGreatEnE
import Derived.Test.YtkbgidbledjejaaGreatEnG
import Derived.Test.YtkbgidbledjejaaGreatCyTc
import Derived.Test.YtkbgidbledjejaaGreatChecked
import Derived.ProofKit
import Derived.OpenShut
import Derived.Deep.DeepHandedRow
namespace Go.Proofs.YtkbgidbledjejaaGreat.Ed
open Go.Sy Go
open Int (ofNat)
theorem e84 (Γ:Cx) (vs:List V) (h:List Blk):Au tab Γ Tryz.f102 vs h=Au tab Γ Tryz.f102 vs h:=by kernel_rfl
theorem p84:Ar Tryz.prog Gl 102 XU:=by
 refine Ah A0 mixed Tryz.func102 (by kernel_rfl) (by kernel_rfl) λvs v h' h=>?_;unfold XU at h;split at h
 ·rename_i x
  have:=Aa h;simp only [Prod.mk.injEq] at this;obtain ⟨rfl,rfl⟩:=this;have hx:=Bu H3 [];refine ⟨_,BQ Gl tb0 [],_,B2.refl _,rfl,hx.1,hx.2,?_,As.refl _⟩;rw [e84];unfold Gt;cases c1:ieq x 32 with
  | true=>exact Akv _ x c1
  | false =>
   cases c2:ieq x 9 with
   | true=>exact Aku _ x c1 c2
   | false =>
    cases c3:ieq x 10 with
    | true=>exact Akt _ x c1 c2 c3
    | false=>exact Aks _ x c1 c2 c3
 ·cases h
noncomputable def tb41:AD:=(102,XU)::(103,Rz To)::[]
theorem tb41_ok:Al Tryz.prog Gl tb41:=.cons p84 <| .cons p22 .nil
def VW (s:List UInt8) (a k:Nat) (x:Nat->V):Ex×St:=(.rt,⟨jsV 56 0 Ac [(2,.ref 1),(3,iV 30),(4,nV a),(6,.ref 2)],[.row 46 6 0 Ac,.row 46 6 0 Ac,.row 46 6 k x]⟩)
def Ea (s:List UInt8):Lp:=⟨bmK 56 0 [0,2,3,4,5,6,7,8],3,bmK 56 0 [0,2,3,4,5,6,7,8],3,CM s+1⟩
def Pi (s:List UInt8) (a k:Nat) (x:Nat->V) (e:Nat) (j:Nat->V):St:=⟨jsV 56 0 j [(0,.str s),(2,.ref 0),(3,iV 0),(4,iV 0),(5,.ref 1),(6,.ref 2),(7,nV e),(8,nV a)],[.row 46 6 0 Ac,.row 46 6 0 Ac,.row 46 6 k x]⟩
def Ki (s:List UInt8) (a k:Nat) (x:Nat->V) (e:Nat):Ex×St:=(.ex 2,⟨jsV 56 0 Ac [(0,.str s),(2,.ref 0),(3,iV 0),(4,iV 0),(5,.ref 1),(6,.ref 2),(7,nV e),(8,nV a)],[.row 46 6 0 Ac,.row 46 6 0 Ac,.row 46 6 k x]⟩)
noncomputable def Hf (L:LT):St->T (Ex×St):=λst=>A8 tab ⟨A9 tb41,L,Gl⟩ (A1 Tryz.f70 2) 2 st
section
variable (L:LT) (s:List UInt8) (a k:Nat) (x:Nat->V) (e:Nat)  (j:Nat->V)
include L s a k x e j
theorem Alk (h0:ilt (ofNat e) (ofNat (CM s))=false):Ap (Hf L) (Ea s) (Pi s a k x e j)=some ((.ex 2),⟨jsV 56 0 Ac [(0,.str s),(2,.ref 0),(3,iV 0),(4,iV 0),(5,.ref 1),(6,.ref 2),(7,nV e),(8,nV a)],[.row 46 6 0 Ac,.row 46 6 0 Ac,.row 46 6 k x]⟩):=by
 exact Ag (ks:=[kn h0,kn h0,kn h0,kn h0,kn h0,kn h0,kF]) (by kernel_rfl)
theorem All (h0:ilt (ofNat e) (ofNat (CM s))=true) (h1:Av (ile 0 (ofNat e)) (ilt (ofNat e) (ofNat (CM s)))=true) (h2:Gt (Of s e)=true):Ap (Hf L) (Ea s) (Pi s a k x e j)=some ((.ex 2),⟨jsV 56 0 Ac [(0,.str s),(2,.ref 0),(3,iV 0),(4,iV 0),(5,.ref 1),(6,.ref 2),(7,nV e),(8,nV a)],[.row 46 6 0 Ac,.row 46 6 0 Ac,.row 46 6 k x]⟩):=by
 exact Ag (ks:=[kn h0,kn h0,kn h0,kn h1,kn h0,kn h0,kn h0,kN (kn h2)]) (by kernel_rfl)
theorem Alj (h0:ilt (ofNat e) (ofNat (CM s))=true) (h1:Av (ile 0 (ofNat e)) (ilt (ofNat e) (ofNat (CM s)))=true) (h2:Gt (Of s e)=false):Ap (Hf L) (Ea s) (Pi s a k x e j)=some (.nm,⟨jsV 56 0 Ac [(0,.str s),(2,.ref 0),(3,iV 0),(4,iV 0),(5,.ref 1),(6,.ref 2),(7,iV (wr .i64 (Am (ofNat e) 1))),(8,nV a)],[.row 46 6 0 Ac,.row 46 6 0 Ac,.row 46 6 k x]⟩):=by
 exact Ag (ks:=[kn h0,kn h0,kn h0,kn h1,kn h0,kn h0,kn h0,kN (kn h2)]) (by kernel_rfl)
end
def lp41 (s:List UInt8):Lp:=⟨bmK 56 0 [0,2,3,4,5,6,7],3,bmK 56 0 [2,3,4,6],3,CM s+1⟩
def Pj (s:List UInt8) (a k:Nat) (x:Nat->V) (j:Nat->V):St:=⟨jsV 56 0 j [(0,.str s),(2,.ref 0),(3,iV 0),(4,iV 0),(5,.ref 1),(6,.ref 2),(7,nV a)],[.row 46 6 0 Ac,.row 46 6 0 Ac,.row 46 6 k x]⟩
def Sw (s:List UInt8) (a k:Nat) (x:Nat->V):Ex×St:=(.ex 0,⟨jsV 56 0 Ac [(2,.ref 0),(3,iV 0),(4,iV 0),(6,.ref 2)],[.row 46 6 0 Ac,.row 46 6 0 Ac,.row 46 6 k x]⟩)
noncomputable def Gs (L:LT):St->T (Ex×St):=λst=>A8 tab ⟨A9 tb41,L,Gl⟩ (A1 Tryz.f70 0) 0 st
section
variable (L:LT) (s:List UInt8) (a k:Nat) (x:Nat->V)  (j:Nat->V)
include L s a k x j
theorem Alh (h0:ilt (ofNat a) (ofNat (CM s))=false):Ap (Gs L) (lp41 s) (Pj s a k x j)=some ((.ex 0),⟨jsV 56 0 Ac [(2,.ref 0),(3,iV 0),(4,iV 0),(6,.ref 2)],[.row 46 6 0 Ac,.row 46 6 0 Ac,.row 46 6 k x]⟩):=by
 exact Ag (ks:=[kn h0]) (by kernel_rfl)
theorem Ali (h0:ilt (ofNat a) (ofNat (CM s))=true) (h1:Av (ile 0 (ofNat a)) (ilt (ofNat a) (ofNat (CM s)))=true) (h2:Gt (Of s a)=true):Ap (Gs L) (lp41 s) (Pj s a k x j)=some (.nm,⟨jsV 56 0 Ac [(0,.str s),(2,.ref 0),(3,iV 0),(4,iV 0),(5,.ref 1),(6,.ref 2),(7,iV (wr .i64 (Am (ofNat a) 1)))],[.row 46 6 0 Ac,.row 46 6 0 Ac,.row 46 6 k x]⟩):=by
 exact Ag (ks:=[kn h0,kn h1,kn h2]) (by kernel_rfl)
end
def Mn (s:List UInt8) (a k:Nat) (x:Nat->V) (j:Nat->V):St:=⟨jsV 56 0 j [(0,.str s),(2,.ref 0),(3,iV 0),(4,iV 0),(5,.ref 1),(6,.ref 2),(7,nV a),(8,nV a),(15,nV a),(16,.str s),(17,iV (ofNat (CM s))),(18,bV (ilt (ofNat a) (ofNat (CM s)))),(19,.str s),(20,nV a),(21,.val (Value.int IntKind.u8 (Of s a))),(22,bV (Gt (Of s a))),(25,nV a)],[.row 46 6 0 Ac,.row 46 6 0 Ac,.row 46 6 k x]⟩
section
variable (L:LT) (p2:PT) (s:List UInt8) (a k:Nat) (x:Nat->V) (e:Nat) (j:Nat->V)
include L p2 s a k x e j
theorem Alf (h0:ilt (ofNat a) (ofNat (CM s))=true) (h1:Av (ile 0 (ofNat a)) (ilt (ofNat a) (ofNat (CM s)))=true) (h2:Gt (Of s a)=false) (h3:Av (ile 0 (ofNat a)) (Av (ile (ofNat a) (ofNat e)) (ile (ofNat e) (ofNat (CM s))))=true) (h4:ieq (Gj (Kw a (Ku e s))) 0=true) (h5:CJ k 1 40=true) (hp2:p2 (Hf (onP 2 p2 (Ki s a k x e) L)) (Mn s a k x j)=true):Ap (Gs (onP 2 p2 (Ki s a k x e) L)) (lp41 s) (Pj s a k x j)=some (.nm,⟨jsV 56 0 Ac [(0,.str s),(2,.ref 0),(3,iV 0),(4,iV 0),(5,.ref 1),(6,.ref 2),(7,nV e)],[.row 46 6 0 Ac,.row 46 6 0 Ac,.row 46 6 (Cd k 1) (AE k x (eV (Gk (Kw a (Ku e s)))))]⟩):=by
 exact Ag (ks:=[kn h0,kn h1,kn h2,kn hp2,kn h3,kN (kn h4),kn h5]) (by kernel_rfl)
theorem Alg (h0:ilt (ofNat a) (ofNat (CM s))=true) (h1:Av (ile 0 (ofNat a)) (ilt (ofNat a) (ofNat (CM s)))=true) (h2:Gt (Of s a)=false) (h3:Av (ile 0 (ofNat a)) (Av (ile (ofNat a) (ofNat e)) (ile (ofNat e) (ofNat (CM s))))=true) (h4:ieq (Gj (Kw a (Ku e s))) 0=false) (hp2:p2 (Hf (onP 2 p2 (Ki s a k x e) L)) (Mn s a k x j)=true):Ap (Gs (onP 2 p2 (Ki s a k x e) L)) (lp41 s) (Pj s a k x j)=some (.rt,⟨jsV 56 0 Ac [(2,.ref 1),(3,iV 30),(4,nV a),(6,.ref 2)],[.row 46 6 0 Ac,.row 46 6 0 Ac,.row 46 6 k x]⟩):=by
 exact Ag (ks:=[kn h0,kn h1,kn h2,kn hp2,kn h3,kN (kn h4)]) (by kernel_rfl)
end
def Qz (s:List UInt8) :St:=⟨jsV 56 0 (λ_=>A7) [(0,.str s),(2,.ref 0),(3,iV 0),(4,iV 0),(5,.ref 1),(6,.ref 2),(7,iV 0),(11,.str s),(12,iV (ofNat (CM s))),(13,bV (ilt 262144 (ofNat (CM s))))],[.row 46 6 0 Ac,.row 46 6 0 Ac,.row 46 6 0 Ac]⟩
theorem Ak2 (L:LT) (s:List UInt8) (h0:ilt 262144 (ofNat (CM s))=true):(AM (Au tab ⟨A9 tb41,L,Gl⟩ Tryz.f70 [.str s] [])).sem=some ((.tup [.ref 0,iV 2,iV 0]),[.row 46 6 0 Ac]):=by
 exact Ag (ks:=[kn h0]) (by kernel_rfl)
section
variable (L:LT) (p0:PT) (s:List UInt8) (a k:Nat) (x:Nat->V)
include L p0 s a k x
theorem Ak1 (h0:ilt 262144 (ofNat (CM s))=false) (hp0:p0 (Gs (onP 0 p0 (Sw s a k x) L)) (Qz s)=true):(AM (Au tab ⟨A9 tb41,onP 0 p0 (Sw s a k x) L,Gl⟩ Tryz.f70 [.str s] [])).sem=some ((.tup [.ref 0,iV 0,iV 0]),[.row 46 6 k x]):=by
 exact Ag (ks:=[kn h0,kn hp0]) (by kernel_rfl)
theorem Ak3 (h0:ilt 262144 (ofNat (CM s))=false) (hp0:p0 (Gs (onP 0 p0 (VW s a k x) L)) (Qz s)=true):(AM (Au tab ⟨A9 tb41,onP 0 p0 (VW s a k x) L,Gl⟩ Tryz.f70 [.str s] [])).sem=some ((.tup [.ref 0,iV 30,nV a]),[.row 46 6 0 Ac]):=by
 exact Ag (ks:=[kn h0,kn hp0]) (by kernel_rfl)
end
theorem AbQ (L:LT) (s:List UInt8) (hs:s.length <= 262144) (a k:Nat) (x:Nat->V):∀ (q e:Nat) (j:Nat->V),s.length-e<q ->
  (Ay (Hf L) (Ea s) q (Pi s a k x e j)).sem=some (Ki s a k x (e+(BA (s.drop e)).length))
 | 0,e,j,h=>absurd h (Nat.not_lt_zero _)
 | q+1,e,j,h=>by
  have hsl:CM s=s.length:=rfl;rcases Nat.lt_or_ge e s.length with he | he
  ·have c0:ilt (ofNat e) (ofNat (CM s))=true:=ofNat_lt he
   have c1:Av (ile 0 (ofNat e)) (ilt (ofNat e) (ofNat (CM s)))=true:=Af he;rw [GH he];cases hb:HL s[e] with
   | true =>rw [show BA (s[e]::s.drop (e+1))=[] by unfold BA; rw [List.takeWhile_cons_of_neg (by simp [hb])]];exact Ae (All L s a k x e j c0 c1 (by rw [Oq he]; exact hb))
   | false =>rw [Ae (Alj L s a k x e j c0 c1 (by rw [Oq he]; exact hb)),AS,Bc (n:=s.length) he (by omega)];have:=AbQ L s hs a k x q (e+1) Ac (by omega);rw [show BA (s[e]::s.drop (e+1))=s[e]::BA (s.drop (e+1)) by unfold BA; rw [List.takeWhile_cons_of_pos (by simp [hb])],List.length_cons,show e+((BA (s.drop (e+1))).length+1)=e+1+(BA (s.drop (e+1))).length by omega];exact this
  ·rw [List.drop_eq_nil_of_le he]
   exact Ae (Alk L s a k x e j (A4 he))
theorem X3 (s:List UInt8) (a k:Nat) (x:Nat->V) (j:Nat->V):Mn s a k x j=Pi s a k x a (λi=>nth (Mn s a k x j).t i):=by kernel_rfl
theorem AbR (M:LT) (hMM:LLe M M) (s:List UInt8) (hs:s.length <= 262144) (m2:∀ f st,M 2 f st=Ay f (Ea s) (CM s+1) st):∀ (q a:Nat) (acc:List E6) (j:Nat->V),s.length-a<q->a <= s.length->acc.length <= a ->
  ((Dc q (s.drop a) a acc).2.1=0∧(Ay (Gs M) (lp41 s) q (Pj s a acc.length (F8 acc) j)).sem=some (Sw s 0 (Dc q (s.drop a) a acc).1.length (F8 (Dc q (s.drop a) a acc).1))) ∨
  ((Dc q (s.drop a) a acc).2.1=30∧(Dc q (s.drop a) a acc).1=[]∧(Ay (Gs M) (lp41 s) q (Pj s a acc.length (F8 acc) j)).sem=some (VW s (Dc q (s.drop a) a acc).2.2 (Kq q (s.drop a) acc).1.length (F8 (Kq q (s.drop a) acc).1)))
 | 0,a,acc,j,h,_,_=>absurd h (Nat.not_lt_zero _)
 | q+1,a,acc,j,h,ha,hk=>by
  have hsl:CM s=s.length:=rfl;rcases Nat.lt_or_ge a s.length with he | he
  ·have c0:ilt (ofNat a) (ofNat (CM s))=true:=ofNat_lt he
   have c1:Av (ile 0 (ofNat a)) (ilt (ofNat a) (ofNat (CM s)))=true:=Af he;cases hb:HL s[a] with
   | true =>
    have e1:Dc (q+1) (s.drop a) a acc=Dc q (s.drop (a+1)) (a+1) acc:=by rw [GH he,Va hb]
    have e2:Kq (q+1) (s.drop a) acc=Kq q (s.drop (a+1)) acc:=by rw [GH he,Kq,if_pos hb]
    rw [e1,e2,Ae (Ali M s a acc.length (F8 acc) j c0 c1 (by rw [Oq he]; exact hb)),AS,Bc (n:=s.length) he (by omega)];exact AbR M hMM s hs m2 q (a+1) acc Ac (by omega) (by omega) (by omega)
   | false =>
    have c2:Gt (Of s a)=false:=by rw [Oq he]; exact hb
    have hw0:0<(BA (s.drop a)).length:=by
     rw [GH he];unfold BA;rw [List.takeWhile_cons_of_pos (by simp [hb])];exact Nat.succ_pos _
    have hwl:=Abc (s.drop a);rw [List.length_drop] at hwl;have hi:∀ M',(M 2 (Hf M') (Mn s a acc.length (F8 acc) j)).sem=some (Ki s a acc.length (F8 acc) (a+(BA (s.drop a)).length)):=λM'=>by
     rw [m2,X3];exact AbQ M' s hs a acc.length (F8 acc) (CM s+1) a _ (by omega)
    have hsub:Kw a (Ku (a+(BA (s.drop a)).length) s)=BA (s.drop a):=by
     show (s.take (a+(BA (s.drop a)).length)).drop a=_;rw [List.drop_take,show a+(BA (s.drop a)).length-a=(BA (s.drop a)).length by omega];exact (List.prefix_iff_eq_take.1 (List.takeWhile_prefix _)).symm
    have c3:Av (ile 0 (ofNat a)) (Av (ile (ofNat a) (ofNat (a+(BA (s.drop a)).length))) (ile (ofNat (a+(BA (s.drop a)).length)) (ofNat (CM s))))=true:=by
     rw [Hu,FN,FN,decide_eq_true (by omega),decide_eq_true (by omega)];rfl
    have e0:Dc (q+1) (s.drop a) a acc=if Gj (BA (s.drop a))=0 then Dc q ((s.drop a).drop (BA (s.drop a)).length) (a+(BA (s.drop a)).length) (acc++[Gk (BA (s.drop a))]) else ([],30,a):=by
     rw [GH he,Dc,if_neg (by rw [hb]; decide)]
    have e5:Kq (q+1) (s.drop a) acc=if Gj (BA (s.drop a))=0 then Kq q ((s.drop a).drop (BA (s.drop a)).length) (acc++[Gk (BA (s.drop a))]) else (acc,Gk (BA (s.drop a))):=by
     rw [GH he,Kq,if_neg (by rw [hb]; decide)]
    by_cases hp:Gj (BA (s.drop a))=0
    ·have c4:ieq (Gj (Kw a (Ku (a+(BA (s.drop a)).length) s))) 0=true:=by rw [hsub,hp]; rfl
     have h9:(acc.length+1) * 40 <= 140737488355328:=by omega
     have h3:=Alf M _ s a acc.length (F8 acc) (a+(BA (s.drop a)).length) j c0 c1 c2 c3 c4 (decide_eq_true h9) (AW (hi _));have h4:Ap (Gs M) (lp41 s) (Pj s a acc.length (F8 acc) j)=_:=RJ (l:=lp41 s) (Qw (Γ:=⟨A9 tb41,M,Gl⟩) (B9 hMM hMM) (A1 Tryz.f70 0) 0 (Pj s a acc.length (F8 acc) j)) h3;rw [if_pos hp,List.drop_drop] at e0 e5;rw [e0,e5,Ae h4,AS,hsub,ZM];have ih:=AbR M hMM s hs m2 q (a+(BA (s.drop a)).length) (acc++[Gk (BA (s.drop a))]) Ac (by omega) (by omega) (by rw [List.length_append]; simp only [List.length_cons,List.length_nil]; omega);rw [show (acc++[Gk (BA (s.drop a))]).length=acc.length+1 from List.length_append] at ih;exact ih
    ·have c4:ieq (Gj (Kw a (Ku (a+(BA (s.drop a)).length) s))) 0=false:=by rw [hsub]; simp [ieq,hp]
     have h3:=Alg M _ s a acc.length (F8 acc) (a+(BA (s.drop a)).length) j c0 c1 c2 c3 c4 (AW (hi _));have h4:Ap (Gs M) (lp41 s) (Pj s a acc.length (F8 acc) j)=_:=RJ (l:=lp41 s) (Qw (Γ:=⟨A9 tb41,M,Gl⟩) (B9 hMM hMM) (A1 Tryz.f70 0) 0 (Pj s a acc.length (F8 acc) j)) h3;rw [if_neg hp] at e0 e5;rw [e0,e5];refine .inr ⟨rfl,rfl,?_⟩;rw [Ae h4];rfl
  ·rw [List.drop_eq_nil_of_le he]
   exact .inl ⟨rfl,Ae (Alh M s a acc.length (F8 acc) j (A4 he))⟩
theorem AdE (s:List UInt8):Qz s=Pj s 0 0 Ac (λi=>nth (Qz s).t i):=by kernel_rfl
theorem p41:Ar Tryz.prog Gl 70 psT:=by
 refine Ah A0 mixed Tryz.func70 (by kernel_rfl) (by kernel_rfl) λvs v h' h=>?_;unfold psT at h;split at h
 ·rename_i s
  have:=Aa h;simp only [Prod.mk.injEq] at this;obtain ⟨rfl,rfl⟩:=this;have hx:=Bu tb41_ok [(0,lp41 s),(2,Ea s)];have hL:=Bd [(0,lp41 s),(2,Ea s)];cases hb:Aei s with
  | true =>
   have e1:psN s=0:=by unfold psN psL; rw [hb]; rfl
   have e2:psE s=2:=by unfold psE; rw [hb]; rfl
   have e3:psI s=0:=by unfold psI; rw [hb]; rfl
   rw [e1,e2,e3];exact ⟨_,BQ Gl tb41 [(0,lp41 s),(2,Ea s)],_,B2.refl _,rfl,hx.1,hx.2,Ak2 _ s hb,As.one λj hj=>absurd hj (Nat.not_lt_zero _)⟩
  | false =>
   have hs:s.length <= 262144:=by
    unfold Aei at hb;rw [show (262144:Int)=ofNat 262144 from rfl,FM] at hb;have:=of_decide_eq_false hb;have hsl:CM s=s.length:=rfl;omega
   have e0:psL s=(psR s).1:=by unfold psL; rw [hb]; rfl
   have e2:psE s=(psR s).2.1:=by unfold psE; rw [hb]; rfl
   have e3:psI s=ofNat (psR s).2.2:=by unfold psI; rw [hb]; rfl
   have hg:ilt 262144 (ofNat (CM s))=false:=hb;have key:∀ M,LLe M M->(∀ f st,M 2 f st=Ay f (Ea s) (CM s+1) st)->((psR s).2.1=0∧(Ay (Gs M) (lp41 s) (CM s+1) (Qz s)).sem=some (Sw s 0 (psR s).1.length (F8 (psR s).1))) ∨
     ((psR s).2.1=30∧(psR s).1=[]∧(Ay (Gs M) (lp41 s) (CM s+1) (Qz s)).sem=some (VW s (psR s).2.2 (Kq (s.length+1) s []).1.length (F8 (Kq (s.length+1) s []).1))):=λM h1 h2=>by
    rw [AdE];exact AbR M h1 s hs h2 (s.length+1) 0 [] (λi=>nth (Qz s).t i) (by omega) (by omega) (Nat.le_refl _)
   have mm:∀ r,LLe (onP 0 (isP (BO [(0,lp41 s),(2,Ea s)]) 0 r) r (BO [(0,lp41 s),(2,Ea s)])) (onP 0 (isP (BO [(0,lp41 s),(2,Ea s)]) 0 r) r (BO [(0,lp41 s),(2,Ea s)])):=λr=>Ajn hL 0 r;rw [e2,e3];unfold psN psG;rw [e0];by_cases hok:(psR s).2.1=0
   ·have hat:(psR s).2.2=0:=Pz _ _ _ _ hok
    have hw:=Bw (B9 hL hL) _ (Ak1 (BO [(0,lp41 s),(2,Ea s)]) _ s 0 (psR s).1.length (F8 (psR s).1) hg (AW (by
     rcases key _ (mm (Sw s 0 (psR s).1.length (F8 (psR s).1))) (λ_ _=>rfl) with ⟨_,h2⟩ | ⟨h1,_⟩
     ·exact h2
     ·rw [hok] at h1; cases h1)))
    rw [hok,hat];exact ⟨_,BQ Gl tb41 [(0,lp41 s),(2,Ea s)],_,B2.refl _,rfl,hx.1,hx.2,hw,As.one λj hj=>(HY (λi=>eV (getE (psR s).1 i)) (psR s).1.length j hj).symm⟩
   ·have hno:(psR s).2.1=30∧(psR s).1=[]:=by
     rcases key _ (mm (Sw s 0 0 (F8 []))) (λ_ _=>rfl) with ⟨h1,_⟩ | ⟨h1,h2,_⟩
     ·exact absurd h1 hok
     ·exact ⟨h1,h2⟩
    have hw:=Bw (B9 hL hL) _ (Ak3 (BO [(0,lp41 s),(2,Ea s)]) _ s (psR s).2.2 (Kq (s.length+1) s []).1.length (F8 (Kq (s.length+1) s []).1) hg (AW (by
     rcases key _ (mm (VW s (psR s).2.2 (Kq (s.length+1) s []).1.length (F8 (Kq (s.length+1) s []).1))) (λ_ _=>rfl) with ⟨h1,_⟩ | ⟨_,_,h3⟩
     ·exact absurd h1 hok
     ·exact h3)))
    rw [hno.1,hno.2];exact ⟨_,BQ Gl tb41 [(0,lp41 s),(2,Ea s)],_,B2.refl _,rfl,hx.1,hx.2,hw,As.one λj hj=>absurd hj (Nat.not_lt_zero _)⟩
 ·cases h
end Go.Proofs.YtkbgidbledjejaaGreat.Ed
namespace Go.Proofs.YtkbgidbledjejaaGreat.En
open Go.Sy Go Go.Proofs.YtkbgidbledjejaaGreat.Ed
set_option maxRecDepth 100000
def sbS:List UInt8:=[80,111,100,87,82,32,70,114,101]
def sbT:List V->A3
 | []=>.leaf (.ref 0,[.row 46 6 2 λi=>eV (psG sbS i)])
 | _=>.fail
noncomputable def AkL:AD:=(70,psT)::[]
theorem Afa:Al Tryz.prog Gl AkL:=.cons p41 .nil
theorem p38:Ar Tryz.prog Gl 38 sbT:=by
 refine Ah A0 mixed Tryz.func38 (by kernel_rfl) (by kernel_rfl) λvs r h' h=>?_;unfold sbT at h;split at h
 rotate_left
 ·cases h
 cases Aa h;have hx:=AZ Afa [] (G:=Gl);exact ⟨[],cxA Gl AkL [],_,B2.refl _,rfl,hx.1,hx.2,DW.ok (.l) (by kernel_rfl),As.refl _⟩
end Go.Proofs.YtkbgidbledjejaaGreat.En
namespace Go.Proofs.YtkbgidbledjejaaGreat.En
open Go.Sy Go Go.Proofs.YtkbgidbledjejaaGreat.Ed
set_option maxRecDepth 100000
theorem Aip:Dl 1 2 (psG sbS) 4=0:=by kernel_rfl
theorem Alb:(Ds 1 2 (psG sbS) 4).length=1:=by kernel_rfl
theorem Ala:(((Ds 1 2 (psG sbS) 4).getD 0 []).length)=4:=by kernel_rfl
theorem Anv:Gv 2 (psG sbS) 4=false:=by kernel_rfl
theorem AkZ:EP 1 2 (psG sbS) 4 9=0:=by
 unfold EP;rw [Aip,Anv,Alb];rfl
theorem Afr:(CP 1 2 (psG sbS) 4 9).length=1∧((CP 1 2 (psG sbS) 4 9).getD 0 []).length=4:=by
 unfold CP;rw [AkZ];show (DO _ _).length=1∧((DO _ _).getD 0 []).length=4;rw [LD,JQ,List.length_map,List.length_range];exact ⟨Alb,Ala⟩
end Go.Proofs.YtkbgidbledjejaaGreat.En
namespace Go.Proofs.YtkbgidbledjejaaGreat.En
open Go.Sy Go Go.Proofs.YtkbgidbledjejaaGreat.Ed
set_option maxRecDepth 100000
abbrev eqQ (v:Nat->E6) (d:E6) (i:Nat):Bool:=eqE d (v i)
def ixT:List V->A3
 | [u,b]=>apL u λn v=>.br (okE b) (.br (C7 n) (.br (isN (Az (eqQ v (edE b)) n 0)) (.leaf (iV (-1),[])) (.leaf (nO (eqQ v (edE b)) n,[]))) .fail) .fail
 | _=>.fail
noncomputable def Aia:AD:=[]
def Amb:Lp:=⟨bmK 19 0 [0,1,3,4,6,7,8],1,bmK 19 0 [4],1,4611686018427387905⟩
def S84 (n:Nat) (v:Nat->E6) (d:E6) (c:Int) (a:Unit) (j:Nat->V):St:=⟨jsV 19 0 j [(0,.sl 6 n (λi=>eV (v i))),(1,eV d),(3,.ptr 0 0),(4,iV 0),(6,.sl 6 n (λi=>eV (v i))),(7,nV n),(8,iV c)],[.cells [iV d.kind,bV d.ext,bV d.same,iV d.src,iV d.dst,iV d.fence]]⟩
noncomputable def B84 (L:LT):St->T (Ex×St):=λst=>A8 tab ⟨A9 Aia,L,Gl⟩ (A1 Tryz.f84 0) 0 st
def Ya (n:Nat) (v:Nat->E6) (d:E6) (i:Nat) (a:Unit):Ex×St:=(.rt,⟨jsV 19 0 Ac [(4,nV i)],[.cells [iV d.kind,bV d.ext,bV d.same,iV d.src,iV d.dst,iV d.fence]]⟩)
def g84 (n:Nat) (v:Nat->E6) (d:E6) (i:Nat) (a:Unit):T ((Unit) ⊕ (Ex×St)):=.br (eqE d (v i)) (.leaf (.inr (Ya n v d i a))) (.leaf (.inl ()))
def Amx (n:Nat) (v:Nat->E6) (d:E6) (a:Unit):Ex×St:=(.ex 0,⟨jsV 19 0 Ac [(4,iV 0)],[.cells [iV d.kind,bV d.ext,bV d.same,iV d.src,iV d.dst,iV d.fence]]⟩)
theorem r84 (L:LT) (n:Nat) (v:Nat->E6) (d:E6)  (hn:n <= 4611686018427387904) {e:Ex×St} {a:Unit} {j:Nat->V} (h:DF (g84 n v d) (Amx n v d) n 0 a=some e):(Ay (B84 L) Amb 4611686018427387905 (S84 n v d 0 a j)).sem=some (exR e) :=
 Ec Hd hn (λi a j r hi h=>DK.ok (L:=goR (S84 n v d) exR i) (.k (ofNat_lt hi) <| .k (Af hi) <| .c (λh1=>.k h1 <| .l) λh1=>.k h1 <| .l) (by kernel_rfl) h) (λa j=>DK.ok (C:=.leaf (Amx n v d a)) (L:=exR) (.k (A4 (Nat.le_refl n)) .l) (by kernel_rfl) rfl) (Nat.zero_add _).symm (Nat.lt_succ_of_le hn) h
def AfD:List (Nat×Lp×List (Nat×(Nat->V))):=[(0,Amb,[])]
theorem p84:Ar Tryz.prog Gl 84 ixT:=by
 refine Ah A0 mixed Tryz.func84 (by kernel_rfl) (by kernel_rfl) λvs v h' h=>?_;unfold ixT at h;split at h
 ·rename_i u b
  obtain ⟨n,v,ha,h⟩:=Bb h;obtain ⟨g2,h⟩:=Ab h;obtain ⟨hn,h⟩:=Ab h;have hn:n <= 4611686018427387904:=of_decide_eq_true hn;have hx:=AZ (Al.nil:Al Tryz.prog Gl Aia) AfD (G:=Gl);refine ⟨[Ao n v,b],cxA Gl Aia AfD,_,λS w cs hq=>by
   obtain ⟨c,l,rfl,q1,q2⟩:=hq;exact ⟨c,_,rfl,ha S w c q1,q2⟩,rfl,hx.1,hx.2,?_,As.refl _⟩
  rw [DV g2];generalize edE b=d at h;have go:∀ i,(g84 n v d i ()).sem=sel (eqQ v d i) (some (.inr (Ya n v d i ()))) (some (.inl ())):=λi=>rfl;exact DK.ok (L:=λa=>a) (.c (λh1=>.a (r84 (C3 AfD) n v d hn (j:=λ_=>.und) (IO (acc:=λ_=>()) (x:=λi=>Ya n v d i ()) (λi _ hq=>by rw [go,hq]; rfl) (λi _ hq=>by rw [go,hq]; rfl) h1)) .l) λh1=>.a (r84 (C3 AfD) n v d hn (j:=λ_=>.und) (IN (acc:=λ_=>()) (x:=λi=>Ya n v d i ()) (λi _ hq=>by rw [go,hq]; rfl) (λi _ hq=>by rw [go,hq]; rfl) h1)) .l) (by kernel_rfl) h
 ·cases h
end Go.Proofs.YtkbgidbledjejaaGreat.En
namespace Go.Proofs.YtkbgidbledjejaaGreat.En
open Go.Sy Go Go.Proofs.YtkbgidbledjejaaGreat.Ed
set_option maxRecDepth 100000
def Xs (n:Nat) (v:Nat->E6) (d:E6):Bool:=AI (isN (Az (eqQ v d) n 0))
def Ajq:List V->A3
 | [u,b]=>apL u λn v=>.br (okE b) (.br (C7 n) (.leaf (bV (Xs n v (edE b)),[])) .fail) .fail
 | _=>.fail
noncomputable def Aic:AD:=(84,ixT)::[]
theorem AeV:Al Tryz.prog Gl Aic:=.cons p84 .nil
theorem AnF:Ar Tryz.prog Gl 60 Ajq:=by
 refine Ah A0 mixed Tryz.func60 (by kernel_rfl) (by kernel_rfl) λvs v h' h=>?_;unfold Ajq at h;split at h
 ·rename_i u b
  obtain ⟨n,v,ha,h⟩:=Bb h;obtain ⟨g2,h⟩:=Ab h;obtain ⟨hn,h⟩:=Ab h;cases Aa h;have hx:=AZ AeV [] (G:=Gl);refine ⟨[Ao n v,b],cxA Gl Aic [],_,λS w cs hq=>by
   obtain ⟨c,l,rfl,q1,q2⟩:=hq;exact ⟨c,_,rfl,ha S w c q1,q2⟩,rfl,hx.1,hx.2,?_,As.refl _⟩
  rw [DV g2];show (AM (Au tab (cxA Gl Aic []) Tryz.f60 [Ao n v,eV (edE b)] [])).sem=some (bV (Xs n v (edE b)),[]);generalize edE b=d;unfold Xs;cases h1:isN (Az (eqQ v d) n 0) with
  | true=>exact DW.ok (.k (eL n) <| .k eT <| .k hn <| .k h1 <| .e (congrArg (λb=>(bV b,([]:List Blk))) (show ile 0 (-1)=false from rfl))) (by kernel_rfl)
  | false=>exact DW.ok (.k (eL n) <| .k eT <| .k hn <| .k h1 <| .e (congrArg (λb=>(bV b,([]:List Blk))) (NX (tO (eqQ v d) n)))) (by kernel_rfl)
 ·cases h
end Go.Proofs.YtkbgidbledjejaaGreat.En
namespace Go.Proofs.YtkbgidbledjejaaGreat.En
open Go.Sy Go Go.Proofs.YtkbgidbledjejaaGreat.Ed
set_option maxRecDepth 100000
noncomputable def Aig:AD:=(32,Tm)::(59,QC)::(60,Ajq)::(61,Um)::(62,Kx)::[]
theorem Afi:Al Tryz.prog Gl Aig:=.cons Af1 <| .cons p65 <| .cons AnF <| .cons p48 <| .cons p62 <| .nil
def Amf:Lp:=⟨bmK 61 0 [0,1,2,3,8,9,11,31,32,33],1,bmK 61 0 [0,2,3,8,9,11],1,4611686018427387905⟩
def S27 (A n:Int) (k m:Nat) (w d:Nat->E6) (c:Int) (a:Unit) (j:Nat->V):St:=⟨jsV 61 0 j [(0,iV A),(1,.sl 6 k (λi=>eV (w i))),(2,iV n),(3,.sl 6 m (λi=>eV (d i))),(8,bV false),(9,iV 0),(11,.ref 0),(31,.sl 6 m (λi=>eV (d i))),(32,nV m),(33,iV c)],[.row 46 6 m (λi=>eV (Mx m d i))]⟩
noncomputable def B27 (L:LT):St->T (Ex×St):=λst=>A8 tab ⟨A9 Aig,L,Gl⟩ (A1 Tryz.f27 0) 0 st
def Aba (A n:Int) (k m:Nat) (w d:Nat->E6) (i:Nat) (a:Unit):Ex×St:=(.rt,⟨jsV 61 0 Ac [(0,iV A),(2,iV n),(3,.sl 6 m (λi=>eV (d i))),(8,bV false),(9,iV 0),(11,.ref 0)],[.row 46 6 m (λi=>eV (Mx m d i))]⟩)
def g27 (A n:Int) (k m:Nat) (w d:Nat->E6) (i:Nat) (a:Unit):T ((Unit) ⊕ (Ex×St)):=.br (Xs k w (d i)) (.leaf (.inl ())) (.leaf (.inr (Aba A n k m w d i a)))
def Amz (A n:Int) (k m:Nat) (w d:Nat->E6) (a:Unit):Ex×St:=(.ex 0,⟨jsV 61 0 Ac [(0,iV A),(2,iV n),(3,.sl 6 m (λi=>eV (d i))),(8,bV false),(9,iV 0),(11,.ref 0)],[.row 46 6 m (λi=>eV (Mx m d i))]⟩)
theorem r27 (L:LT) (A n:Int) (k m:Nat) (w d:Nat->E6) (hk:C7 k=true) (hn:m <= 4611686018427387904) {e:Ex×St} {a:Unit} {j:Nat->V} (h:DF (g27 A n k m w d) (Amz A n k m w d) m 0 a=some e):(Ay (B27 L) Amf 4611686018427387905 (S27 A n k m w d 0 a j)).sem=some (exR e) :=
 Ec Hd hn (λi a j r hi h=>DK.ok (L:=goR (S27 A n k m w d) exR i) (.k (ofNat_lt hi) <| .k (Af hi) <| .k (eL k) <| .k eT <| .k hk <| .c (λh1=>.k (eN h1) <| .l) λh1=>.k (eN h1) <| .l) (by kernel_rfl) h) (λa j=>DK.ok (C:=.leaf (Amz A n k m w d a)) (L:=exR) (.k (A4 (Nat.le_refl m)) .l) (by kernel_rfl) rfl) (Nat.zero_add _).symm (Nat.lt_succ_of_le hn) h
def Aah:List (Nat×Lp×List (Nat×(Nat->V))):=[(0,Amf,[])]
def Adv (A n:Int) (k m:Nat) (w d:Nat->E6):Int:=sel (ieq (Dl A k w n) 0) (sel (Bv m d) 0 30) (Dl A k w n)
def Adw (A n:Int) (k m:Nat) (w d:Nat->E6):Bool:=sel (ieq (Dl A k w n) 0) (sel (Bv m d) (sel (DL m λi=>Xs k w (d i)) (sel (ieq (Gr A m d).1 0) (sel (ile (Int.ofNat m) n) (Gx m (λi=>Mx m d i) m d) false) false) false) false) false
def Adu:List V->A3
 | [.val (.int .i64 A),u,.val (.int .i64 n),c]=>apL u λk w=>apL c λm d=>.br (C7 k) (.br (BZ m) (.leaf (.tup [bV (Adw A n k m w d),iV (Adv A n k m w d)],[])) .fail) .fail
 | _=>.fail
theorem AnN:Ar Tryz.prog Gl 27 Adu:=by
 refine Ah A0 mixed Tryz.func27 (by kernel_rfl) (by kernel_rfl) λvs v h' h=>?_;unfold Adu at h;split at h
 rotate_left
 ·cases h
 rename_i A u n c;obtain ⟨k,w,ha,h⟩:=Bb h;obtain ⟨m,d,hb,h⟩:=Bb h;obtain ⟨hk,h⟩:=Ab h;obtain ⟨hf,h⟩:=Ab h;cases Aa h;have hf':m * 40 <= 140737488355328:=of_decide_eq_true hf;have hm:C7 m=true:=decide_eq_true (by omega);have hn:m <= 4611686018427387904:=by omega
 have hx:=AZ Afi Aah (G:=Gl);refine ⟨[iV A,Ao k w,iV n,Ao m d],cxA Gl Aig Aah,_,λS W cs hq=>by
  obtain ⟨c,l,rfl,q1,c2,l2,rfl,q2,c3,l3,rfl,q3,c4,l4,rfl,q4,q5⟩:=hq;exact ⟨c,_,rfl,q1,c2,_,rfl,ha S W c2 q2,c3,_,rfl,q3,c4,_,rfl,hb S W c4 q4,q5⟩,rfl,hx.1,hx.2,?_,As.refl _⟩
 have go:∀ i,i<m->(g27 A n k m w d i ()).sem=sel (Xs k w (d i)) (some (.inl ())) (some (.inr (Aba A n k m w d i ()))):=λi _=>rfl;unfold Adw Adv;cases h1:ieq (Dl A k w n) 0 with
 | false=>exact DW.ok (.k (eL k) <| .k (eN h1) <| .l) (by kernel_rfl)
 | true =>
  cases h2:Bv m d with
  | false=>exact DW.ok (.k (eL k) <| .k (eN h1) <| .k (eL m) <| .k hf <| .k h2 <| .k (show AI (ieq 30 0)=true from rfl) <| .l) (by kernel_rfl)
  | true =>
   cases h3:DL m λi=>Xs k w (d i) with
   | false=>exact DW.ok (.k (eL k) <| .k (eN h1) <| .k (eL m) <| .k hf <| .k h2 <| .k (eN (eI 0)) <| .a (r27 (C3 Aah) A n k m w d hk hn (j:=λ_=>.und) (Ah5 (x:=Aba A n k m w d 0 ()) go h3)) <| .l) (by kernel_rfl)
   | true =>
    cases h4:ieq (Gr A m d).1 0 with
    | false=>exact DW.ok (.k (eL k) <| .k (eN h1) <| .k (eL m) <| .k hf <| .k h2 <| .k (eN (eI 0)) <| .a (r27 (C3 Aah) A n k m w d hk hn (j:=λ_=>.und) (Zs go h3)) <| .k (eL m) <| .k hf <| .r 5 h4 <| .r 4 eF <| .l) (by kernel_rfl)
    | true =>
     cases h5:ile (Int.ofNat m) n with
     | false=>exact DW.ok (.k (eL k) <| .k (eN h1) <| .k (eL m) <| .k hf <| .k h2 <| .k (eN (eI 0)) <| .a (r27 (C3 Aah) A n k m w d hk hn (j:=λ_=>.und) (Zs go h3)) <| .k (eL m) <| .k hf <| .r 5 h4 <| .r 4 h5 <| .l) (by kernel_rfl)
     | true=>exact DW.ok (.k (eL k) <| .k (eN h1) <| .k (eL m) <| .k hf <| .k h2 <| .k (eN (eI 0)) <| .a (r27 (C3 Aah) A n k m w d hk hn (j:=λ_=>.und) (Zs go h3)) <| .k (eL m) <| .k hf <| .r 5 h4 <| .r 3 h5 <| .r 2 (eL m) <| .k hm <| .k h5 <| .l) (by kernel_rfl)
end Go.Proofs.YtkbgidbledjejaaGreat.En
namespace Go.Proofs.YtkbgidbledjejaaGreat.En
open Go.Sy Go Go.Proofs.YtkbgidbledjejaaGreat.Ed
set_option maxRecDepth 100000
noncomputable def tb18:AD:=(38,sbT)::(9,Ug)::(11,AjH)::(39,JF)::(27,Adu)::[]
theorem tb18_ok:Al Tryz.prog Gl tb18:=.cons p38 <| .cons p9 <| .cons p11 <| .cons p69 <| .cons AnN <| .nil
theorem eRr (n:Nat) (x:Nat->E6):Cf [.row 46 6 n λi=>eV (x i)]=true:=by
 simp only [Cf,Bool.and_true,List.all_eq_true];exact λ_ _=>rfl
theorem eRJ (n:Nat) (l:Nat->Nat) (x:Nat->Nat->E6):Cf [.jag ⟨22,1,n,λ_=>.und,0,46,6,λ_=>true,l,λi j=>eV (x i j),none⟩]=true:=by
 simp only [Cf,Bool.and_true,List.all_eq_true,Bool.and_eq_true];exact λ_ _=>⟨rfl,λ_ _=>rfl⟩
def awT:List V->A3
 | []=>.leaf (bV true,[])
 | _=>.fail
theorem p18:Ar Tryz.prog Gl 18 awT:=by
 refine Ah A0 mixed Tryz.func18 (by kernel_rfl) (by kernel_rfl) λvs r h' h=>?_;unfold awT at h;split at h
 rotate_left
 ·cases h
 cases Aa h;have hx:=AZ tb18_ok [] (G:=Gl);have w1:BZ 2=true:=by decide
 have w2:C7 2=true:=by decide
 have v1:ieq (EP 1 2 (psG sbS) 4 9) 0=true:=by rw [AkZ]; rfl
 have v2:ieq (Int.ofNat (CP 1 2 (psG sbS) 4 9).length) 1=true:=by rw [Afr.1]; rfl
 have v3:ieq (Int.ofNat ((CP 1 2 (psG sbS) 4 9).getD 0 []).length) 4=true:=by rw [Afr.2]; rfl
 have v4:Av (ile 0 0) (ilt 0 (Int.ofNat (CP 1 2 (psG sbS) 4 9).length))=true:=by rw [Afr.1]; rfl
 have v5:nlt 0 (CP 1 2 (psG sbS) 4 9).length=true:=by rw [Afr.1]; rfl
 have v6:Adw 1 4 2 2 (psG sbS) (BV 2 (psG sbS) 1)=false:=by kernel_rfl
 have v7:ieq (Adv 1 4 2 2 (psG sbS) (BV 2 (psG sbS) 1)) 0=true:=by kernel_rfl
 exact ⟨[],cxA Gl tb18 [],_,B2.refl _,rfl,hx.1,hx.2,DW.ok (.k (eL 2) <| .k (eRJ (CP 1 2 (psG sbS) 4 9).length (λi=>((CP 1 2 (psG sbS) 4 9).getD i []).length) (λi t=>((CP 1 2 (psG sbS) 4 9).getD i []).getD t Ba)) <| .k (eG [(CP 1 2 (psG sbS) 4 9).length]) <| .k (eL 2) <| .k (eG [(CP 1 2 (psG sbS) 4 9).length]) <| .k (eL 2) <| .k w1 <| .k (eRr 2 (BV 2 (psG sbS) 1)) <| .k (eG [(CP 1 2 (psG sbS) 4 9).length]) <| .r 2 (eL 2) <| .k w2 <| .k w1 <| .r 4 v1 <| .r 2 v2 <| .k v4 <| .k v2 <| .k v5 <| .k eT <| .k v2 <| .k eT <| .r 2 v2 <| .r 3 v3 <| .r 3 v2 <| .r 3 v1 <| .r 3 (eN v6) <| .e (congrArg (λb=>(bV b,([]:List Blk))) v7)) (by kernel_rfl),As.refl _⟩
end Go.Proofs.YtkbgidbledjejaaGreat.En
namespace Go.Proofs.YtkbgidbledjejaaGreat.En
open Go.Sy Go.Proofs.YtkbgidbledjejaaGreat.Ed
set_option maxRecDepth 100000
theorem own:ownKnob Tryz.prog.godebug=none:=by kernel_rfl
theorem TC:laidOutB Tryz.prog=true:=by kernel_rfl
def Up (e:E6):List Value:=[.int .i64 e.kind,.bool e.ext,.bool e.same,.int .i64 e.src,.int .i64 e.dst,.int .i64 e.fence]
section
variable {H:Type} {enc:TypeId×Value->H} {W:World} {sp:Nat->Bool} {held:Bool} {r:Reach} {b0:Nat} {v:Value} {d:DataW H} {ps:List MemPlace}
theorem Ia {c d:Value} {cs:List Value} (h:cs=[d]) (hc:[c]=cs):c=d:=by
 subst h;simpa using hc
theorem XC (fuel:Nat) (cs:List Value) (x:DataW H×List MemPlace) (h:DataW.trod enc Tryz.prog W 0 sp held fuel 46 cs=some x):∃ e:E6,cs=Up e:=by
 obtain ⟨xs,n,_,_,hl,hx,hf⟩:=DataW.trod_struct Tryz.underlying46 h;have hl:cs.length=6:=hl.trans (by kernel_rfl);have hx:xs.length=6:=hx;obtain ⟨c0,c1,c2,c3,c4,c5,rfl⟩:∃ a b c d e f,cs=[a,b,c,d,e,f]:=by
  match cs,hl with
  | [a,b,c,d,e,f],_=>exact ⟨a,b,c,d,e,f,rfl⟩
 have get:∀ (i:Nat) (f:Field),#[({ name := "Kind",type:=3,offset:=0,embedded:=false,tag := "",pkgPath := "",byteOffset:=0 }:Field),
    { name := "Ext",type:=4,offset:=1,embedded:=false,tag := "",pkgPath := "",byteOffset:=8 },
    { name := "Same",type:=4,offset:=2,embedded:=false,tag := "",pkgPath := "",byteOffset:=9 },
    { name := "Src",type:=3,offset:=3,embedded:=false,tag := "",pkgPath := "",byteOffset:=16 },
    { name := "Dst",type:=3,offset:=4,embedded:=false,tag := "",pkgPath := "",byteOffset:=24 },
    { name := "Fence",type:=3,offset:=5,embedded:=false,tag := "",pkgPath := "",byteOffset:=32 }][i]? = some f->i<6 ->
   ∃ y,DataW.trod enc Tryz.prog W 0 sp held n f.type (([c0,c1,c2,c3,c4,c5].drop f.offset).take (Tryz.prog.cellsOf f.type))=some y:=by
  intro i f hi hlt;have:=hf i f hi;rw [List.getElem?_eq_getElem (by omega)] at this;exact ⟨_,this⟩
 have n3:Tryz.prog.cellsOf 3=1:=by kernel_rfl
 have n4:Tryz.prog.cellsOf 4=1:=by kernel_rfl
 obtain ⟨y0,g0⟩:=get 0 _ rfl (by omega);obtain ⟨y1,g1⟩:=get 1 _ rfl (by omega);obtain ⟨y2,g2⟩:=get 2 _ rfl (by omega);obtain ⟨y3,g3⟩:=get 3 _ rfl (by omega);obtain ⟨y4,g4⟩:=get 4 _ rfl (by omega);obtain ⟨y5,g5⟩:=get 5 _ rfl (by omega);have g0:DataW.trod enc Tryz.prog W 0 sp held n 3 (([c0,c1,c2,c3,c4,c5].drop 0).take (Tryz.prog.cellsOf 3))=some y0:=g0;rw [n3] at g0;have g1:DataW.trod enc Tryz.prog W 0 sp held n 4 (([c0,c1,c2,c3,c4,c5].drop 1).take (Tryz.prog.cellsOf 4))=some y1:=g1;rw [n4] at g1;have g2:DataW.trod enc Tryz.prog W 0 sp held n 4 (([c0,c1,c2,c3,c4,c5].drop 2).take (Tryz.prog.cellsOf 4))=some y2:=g2;rw [n4] at g2;have g3:DataW.trod enc Tryz.prog W 0 sp held n 3 (([c0,c1,c2,c3,c4,c5].drop 3).take (Tryz.prog.cellsOf 3))=some y3:=g3;rw [n3] at g3;have g4:DataW.trod enc Tryz.prog W 0 sp held n 3 (([c0,c1,c2,c3,c4,c5].drop 4).take (Tryz.prog.cellsOf 3))=some y4:=g4;rw [n3] at g4;have g5:DataW.trod enc Tryz.prog W 0 sp held n 3 (([c0,c1,c2,c3,c4,c5].drop 5).take (Tryz.prog.cellsOf 3))=some y5:=g5;rw [n3] at g5;obtain ⟨a0,e0,_⟩:=DataW.trod_int Tryz.underlying3 g0;obtain ⟨a1,e1,_⟩:=DataW.trod_bool Tryz.underlying4 g1;obtain ⟨a2,e2,_⟩:=DataW.trod_bool Tryz.underlying4 g2;obtain ⟨a3,e3,_⟩:=DataW.trod_int Tryz.underlying3 g3;obtain ⟨a4,e4,_⟩:=DataW.trod_int Tryz.underlying3 g4;obtain ⟨a5,e5,_⟩:=DataW.trod_int Tryz.underlying3 g5;have e0:c0 = .int .i64 a0:=Ia e0 rfl;have e1:c1 = .bool a1:=Ia e1 rfl;have e2:c2 = .bool a2:=Ia e2 rfl;have e3:c3 = .int .i64 a3:=Ia e3 rfl;have e4:c4 = .int .i64 a4:=Ia e4 rfl;have e5:c5 = .int .i64 a5:=Ia e5 rfl;exact ⟨⟨a0,a1,a2,a3,a4,a5⟩,by rw [e0,e1,e2,e3,e4,e5]; rfl⟩
theorem Ag6 (S:Nat->Prop) (w:World) (κ:Ai) (e:E6):VR S w (eV e) κ (.agg (Up e).toArray) :=
 ⟨_,rfl,_,_,rfl,rfl,_,_,rfl,rfl,_,_,rfl,rfl,_,_,rfl,rfl,_,_,rfl,rfl,_,_,rfl,rfl,rfl⟩
def AhA (W:World) (v:Value) (u:V):Prop:=VR (Ws W) W u noK v
theorem RO (hval:Value.okWide Tryz.prog W r b0 3 v) (h:DataW.Trod enc Tryz.prog W 0 sp held 3 v d ps):∃ n:Int,AhA W v (iV n):=by
 obtain ⟨n,rfl,_⟩:=ChangeShapes.open_int Tryz.underlying3 hval h;exact ⟨n,rfl⟩
instance:Inhabited E6:=⟨Ba⟩
theorem UQ (hval:Value.okWide Tryz.prog W r b0 22 v) (h:DataW.Trod enc Tryz.prog W 0 sp held 22 v d ps) :
  ∃ (n:Nat) (xs:Nat->E6),AhA W v (.sl 6 n λi=>eV (xs i))∧(n=0 ∨ ∃ els rest,d = .slice els rest∧els.length=n) :=
 WV (f:=Up) (g:=eV) (s:=6) Tryz.underlying22 (by kernel_rfl) (by omega) (λe u hu=>by simp [Up] at hu; rcases hu with rfl | rfl | rfl | rfl | rfl | rfl <;> rfl)
  (λS w e=>⟨_,Ag6 S w noK e,rfl⟩) XC hval h
end
theorem Ao0 {S:Nat->Prop} {W:World}:MF Gl S W:=λ_=>trivial
noncomputable def Nk (os:Os):World:=World.holding Tryz.prog os ⟨#[],#[],[]⟩
end Go.Proofs.YtkbgidbledjejaaGreat.En
