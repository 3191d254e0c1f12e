/-
  The document's Parse. No conditions.
-/
import Derived.Test.YtkgdhhieomndeaaGreatDoorCyYp
import Derived.Test.YtkgdhhieomndeaaGreatDoorCyZ
namespace Go.Proofs.YtkgdhhieomndeaaGreatDoor.Ed
open Go.Sy Go
open Int (ofNat)
theorem e84 (Γ:Cx) (vs:List V) (h:List Blk):Ai tab Γ Tryz.f50 vs h=Ai tab Γ Tryz.f50 vs h:=by kernel_rfl
theorem p84:Ax Tryz.prog Gl 50 Xt:=by
 refine Aj A7 mixed Tryz.func50 (by kernel_rfl) (by kernel_rfl) λvs v h' h=>?_;unfold Xt at h;split at h
 ·rename_i x
  have:=Ab h;simp only [Prod.mk.injEq] at this;obtain ⟨rfl,rfl⟩:=this;have hx:=AH CS [];refine ⟨_,AA Gl tb0 [],_,Bj.refl _,rfl,hx.1,hx.2,?_,Av.refl _⟩;rw [e84];unfold Fp;cases c1:ieq x 32 with
  | true=>exact Alm _ x c1
  | false =>
   cases c2:ieq x 9 with
   | true=>exact Alk _ x c1 c2
   | false =>
    cases c3:ieq x 10 with
    | true=>exact Alj _ x c1 c2 c3
    | false=>exact Ali _ x c1 c2 c3
 ·cases h
noncomputable def tb41:AK:=(50,Xt)::(51,Qb RY)::[]
theorem tb41_ok:Aq Tryz.prog Gl tb41:=.cons p84 <| .cons p22 .nil
def Vb (s:List UInt8) (a k:Nat) (x:Nat->V):Ex×St:=(.rt,⟨jsV 56 0 Aa [(2,.ref 1),(3,iV 30),(4,nV a),(6,.ref 2)],[.row 92 6 0 Aa,.row 92 6 0 Aa,.row 92 6 k x]⟩)
def Dw (s:List UInt8):Lp:=⟨bmK 56 0 [0,2,3,4,5,6,7,8],3,bmK 56 0 [0,2,3,4,5,6,7,8],3,B5 s+1⟩
def Od (s:List UInt8) (a k:Nat) (x:Nat->V) (e:Nat) (j:Nat->V):St:=⟨jsV 56 0 j [(0,.str s),(2,.ref 0),(3,iV 0),(4,iV 0),(5,.ref 1),(6,.ref 2),(7,nV e),(8,nV a)],[.row 92 6 0 Aa,.row 92 6 0 Aa,.row 92 6 k x]⟩
def Jy (s:List UInt8) (a k:Nat) (x:Nat->V) (e:Nat):Ex×St:=(.ex 2,⟨jsV 56 0 Aa [(0,.str s),(2,.ref 0),(3,iV 0),(4,iV 0),(5,.ref 1),(6,.ref 2),(7,nV e),(8,nV a)],[.row 92 6 0 Aa,.row 92 6 0 Aa,.row 92 6 k x]⟩)
noncomputable def Gi (L:LT):St->T (Ex×St):=λst=>AD tab ⟨Am tb41,L,Gl⟩ (Au Tryz.f32 2) 2 st
section
variable (L:LT) (s:List UInt8) (a k:Nat) (x:Nat->V) (e:Nat)  (j:Nat->V)
include L s a k x e j
theorem Aml (h0:ilt (ofNat e) (ofNat (B5 s))=false):Al (Gi L) (Dw s) (Od s a k x e j)=some ((.ex 2),⟨jsV 56 0 Aa [(0,.str s),(2,.ref 0),(3,iV 0),(4,iV 0),(5,.ref 1),(6,.ref 2),(7,nV e),(8,nV a)],[.row 92 6 0 Aa,.row 92 6 0 Aa,.row 92 6 k x]⟩):=by
 exact Ac (ks:=[kn h0,kn h0,kn h0,kn h0,kn h0,kn h0,kF]) (by kernel_rfl)
theorem Amm (h0:ilt (ofNat e) (ofNat (B5 s))=true) (h1:Ao (ile 0 (ofNat e)) (ilt (ofNat e) (ofNat (B5 s)))=true) (h2:Fp (ED s e)=true):Al (Gi L) (Dw s) (Od s a k x e j)=some ((.ex 2),⟨jsV 56 0 Aa [(0,.str s),(2,.ref 0),(3,iV 0),(4,iV 0),(5,.ref 1),(6,.ref 2),(7,nV e),(8,nV a)],[.row 92 6 0 Aa,.row 92 6 0 Aa,.row 92 6 k x]⟩):=by
 exact Ac (ks:=[kn h0,kn h0,kn h0,kn h1,kn h0,kn h0,kn h0,kN (kn h2)]) (by kernel_rfl)
theorem Amk (h0:ilt (ofNat e) (ofNat (B5 s))=true) (h1:Ao (ile 0 (ofNat e)) (ilt (ofNat e) (ofNat (B5 s)))=true) (h2:Fp (ED s e)=false):Al (Gi L) (Dw s) (Od s a k x e j)=some (.nm,⟨jsV 56 0 Aa [(0,.str s),(2,.ref 0),(3,iV 0),(4,iV 0),(5,.ref 1),(6,.ref 2),(7,iV (wr .i64 (Ak (ofNat e) 1))),(8,nV a)],[.row 92 6 0 Aa,.row 92 6 0 Aa,.row 92 6 k x]⟩):=by
 exact Ac (ks:=[kn h0,kn h0,kn h0,kn h1,kn h0,kn h0,kn h0,kN (kn h2)]) (by kernel_rfl)
end
def FX (s:List UInt8):Lp:=⟨bmK 56 0 [0,2,3,4,5,6,7],3,bmK 56 0 [2,3,4,6],3,B5 s+1⟩
def Oe (s:List UInt8) (a k:Nat) (x:Nat->V) (j:Nat->V):St:=⟨jsV 56 0 j [(0,.str s),(2,.ref 0),(3,iV 0),(4,iV 0),(5,.ref 1),(6,.ref 2),(7,nV a)],[.row 92 6 0 Aa,.row 92 6 0 Aa,.row 92 6 k x]⟩
def QL (s:List UInt8) (a k:Nat) (x:Nat->V):Ex×St:=(.ex 0,⟨jsV 56 0 Aa [(2,.ref 0),(3,iV 0),(4,iV 0),(6,.ref 2)],[.row 92 6 0 Aa,.row 92 6 0 Aa,.row 92 6 k x]⟩)
noncomputable def Fo (L:LT):St->T (Ex×St):=λst=>AD tab ⟨Am tb41,L,Gl⟩ (Au Tryz.f32 0) 0 st
section
variable (L:LT) (s:List UInt8) (a k:Nat) (x:Nat->V)  (j:Nat->V)
include L s a k x j
theorem Amf (h0:ilt (ofNat a) (ofNat (B5 s))=false):Al (Fo L) (FX s) (Oe s a k x j)=some ((.ex 0),⟨jsV 56 0 Aa [(2,.ref 0),(3,iV 0),(4,iV 0),(6,.ref 2)],[.row 92 6 0 Aa,.row 92 6 0 Aa,.row 92 6 k x]⟩):=by
 exact Ac (ks:=[kn h0]) (by kernel_rfl)
theorem Amg (h0:ilt (ofNat a) (ofNat (B5 s))=true) (h1:Ao (ile 0 (ofNat a)) (ilt (ofNat a) (ofNat (B5 s)))=true) (h2:Fp (ED s a)=true):Al (Fo L) (FX s) (Oe s a k x j)=some (.nm,⟨jsV 56 0 Aa [(0,.str s),(2,.ref 0),(3,iV 0),(4,iV 0),(5,.ref 1),(6,.ref 2),(7,iV (wr .i64 (Ak (ofNat a) 1)))],[.row 92 6 0 Aa,.row 92 6 0 Aa,.row 92 6 k x]⟩):=by
 exact Ac (ks:=[kn h0,kn h1,kn h2]) (by kernel_rfl)
end
def Lb (s:List UInt8) (a k:Nat) (x:Nat->V) (j:Nat->V):St:=⟨jsV 56 0 j [(0,.str s),(2,.ref 0),(3,iV 0),(4,iV 0),(5,.ref 1),(6,.ref 2),(7,nV a),(8,nV a),(15,nV a),(16,.str s),(17,iV (ofNat (B5 s))),(18,bV (ilt (ofNat a) (ofNat (B5 s)))),(19,.str s),(20,nV a),(21,.val (Value.int IntKind.u8 (ED s a))),(22,bV (Fp (ED s a))),(25,nV a)],[.row 92 6 0 Aa,.row 92 6 0 Aa,.row 92 6 k x]⟩
section
variable (L:LT) (p2:PT) (s:List UInt8) (a k:Nat) (x:Nat->V) (e:Nat) (j:Nat->V)
include L p2 s a k x e j
theorem Amd (h0:ilt (ofNat a) (ofNat (B5 s))=true) (h1:Ao (ile 0 (ofNat a)) (ilt (ofNat a) (ofNat (B5 s)))=true) (h2:Fp (ED s a)=false) (h3:Ao (ile 0 (ofNat a)) (Ao (ile (ofNat a) (ofNat e)) (ile (ofNat e) (ofNat (B5 s))))=true) (h4:ieq (Fg (JH a (JE e s))) 0=true) (h5:Bn k 1 40=true) (hp2:p2 (Gi (onP 2 p2 (Jy s a k x e) L)) (Lb s a k x j)=true):Al (Fo (onP 2 p2 (Jy s a k x e) L)) (FX s) (Oe s a k x j)=some (.nm,⟨jsV 56 0 Aa [(0,.str s),(2,.ref 0),(3,iV 0),(4,iV 0),(5,.ref 1),(6,.ref 2),(7,nV e)],[.row 92 6 0 Aa,.row 92 6 0 Aa,.row 92 6 (AV k 1) (As k x (eV (Fh (JH a (JE e s)))))]⟩):=by
 exact Ac (ks:=[kn h0,kn h1,kn h2,kn hp2,kn h3,kN (kn h4),kn h5]) (by kernel_rfl)
theorem Ame (h0:ilt (ofNat a) (ofNat (B5 s))=true) (h1:Ao (ile 0 (ofNat a)) (ilt (ofNat a) (ofNat (B5 s)))=true) (h2:Fp (ED s a)=false) (h3:Ao (ile 0 (ofNat a)) (Ao (ile (ofNat a) (ofNat e)) (ile (ofNat e) (ofNat (B5 s))))=true) (h4:ieq (Fg (JH a (JE e s))) 0=false) (hp2:p2 (Gi (onP 2 p2 (Jy s a k x e) L)) (Lb s a k x j)=true):Al (Fo (onP 2 p2 (Jy s a k x e) L)) (FX s) (Oe s a k x j)=some (.rt,⟨jsV 56 0 Aa [(2,.ref 1),(3,iV 30),(4,nV a),(6,.ref 2)],[.row 92 6 0 Aa,.row 92 6 0 Aa,.row 92 6 k x]⟩):=by
 exact Ac (ks:=[kn h0,kn h1,kn h2,kn hp2,kn h3,kN (kn h4)]) (by kernel_rfl)
end
def Pm (s:List UInt8) :St:=⟨jsV 56 0 (λ_=>A9) [(0,.str s),(2,.ref 0),(3,iV 0),(4,iV 0),(5,.ref 1),(6,.ref 2),(7,iV 0),(11,.str s),(12,iV (ofNat (B5 s))),(13,bV (ilt 262144 (ofNat (B5 s))))],[.row 92 6 0 Aa,.row 92 6 0 Aa,.row 92 6 0 Aa]⟩
theorem Aly (L:LT) (s:List UInt8) (h0:ilt 262144 (ofNat (B5 s))=true):(Ay (Ai tab ⟨Am tb41,L,Gl⟩ Tryz.f32 [.str s] [])).sem=some ((.tup [.ref 0,iV 2,iV 0]),[.row 92 6 0 Aa]):=by
 exact Ac (ks:=[kn h0]) (by kernel_rfl)
section
variable (L:LT) (p0:PT) (s:List UInt8) (a k:Nat) (x:Nat->V)
include L p0 s a k x
theorem Alx (h0:ilt 262144 (ofNat (B5 s))=false) (hp0:p0 (Fo (onP 0 p0 (QL s a k x) L)) (Pm s)=true):(Ay (Ai tab ⟨Am tb41,onP 0 p0 (QL s a k x) L,Gl⟩ Tryz.f32 [.str s] [])).sem=some ((.tup [.ref 0,iV 0,iV 0]),[.row 92 6 k x]):=by
 exact Ac (ks:=[kn h0,kn hp0]) (by kernel_rfl)
theorem Alz (h0:ilt 262144 (ofNat (B5 s))=false) (hp0:p0 (Fo (onP 0 p0 (Vb s a k x) L)) (Pm s)=true):(Ay (Ai tab ⟨Am tb41,onP 0 p0 (Vb s a k x) L,Gl⟩ Tryz.f32 [.str s] [])).sem=some ((.tup [.ref 0,iV 30,nV a]),[.row 92 6 0 Aa]):=by
 exact Ac (ks:=[kn h0,kn hp0]) (by kernel_rfl)
end
theorem Ab2 (L:LT) (s:List UInt8) (hs:s.length <= 262144) (a k:Nat) (x:Nat->V):∀ (q e:Nat) (j:Nat->V),s.length-e<q ->
  (A3 (Gi L) (Dw s) q (Od s a k x e j)).sem=some (Jy s a k x (e+(BO (s.drop e)).length))
 | 0,e,j,h=>absurd h (Nat.not_lt_zero _)
 | q+1,e,j,h=>by
  have hsl:B5 s=s.length:=rfl;rcases Nat.lt_or_ge e s.length with he | he
  ·have c0:ilt (ofNat e) (ofNat (B5 s))=true:=ofNat_lt he
   have c1:Ao (ile 0 (ofNat e)) (ilt (ofNat e) (ofNat (B5 s)))=true:=Ag he;rw [FC he];cases hb:Ha s[e] with
   | true =>rw [show BO (s[e]::s.drop (e+1))=[] by unfold BO; rw [List.takeWhile_cons_of_neg (by simp [hb])]];exact Ae (Amm L s a k x e j c0 c1 (by rw [Nw he]; exact hb))
   | false =>rw [Ae (Amk L s a k x e j c0 c1 (by rw [Nw he]; exact hb)),A6,Ap (n:=s.length) he (by omega)];have:=Ab2 L s hs a k x q (e+1) Aa (by omega);rw [show BO (s[e]::s.drop (e+1))=s[e]::BO (s.drop (e+1)) by unfold BO; rw [List.takeWhile_cons_of_pos (by simp [hb])],List.length_cons,show e+((BO (s.drop (e+1))).length+1)=e+1+(BO (s.drop (e+1))).length by omega];exact this
  ·rw [List.drop_eq_nil_of_le he]
   exact Ae (Aml L s a k x e j (Aw he))
theorem WZ (s:List UInt8) (a k:Nat) (x:Nat->V) (j:Nat->V):Lb s a k x j=Od s a k x a (λi=>nth (Lb s a k x j).t i):=by kernel_rfl
theorem Ab3 (M:LT) (hMM:LLe M M) (s:List UInt8) (hs:s.length <= 262144) (m2:∀ f st,M 2 f st=A3 f (Dw s) (B5 s+1) st):∀ (q a:Nat) (acc:List E6) (j:Nat->V),s.length-a<q->a <= s.length->acc.length <= a ->
  ((CX q (s.drop a) a acc).2.1=0∧(A3 (Fo M) (FX s) q (Oe s a acc.length (EF acc) j)).sem=some (QL s 0 (CX q (s.drop a) a acc).1.length (EF (CX q (s.drop a) a acc).1))) ∨
  ((CX q (s.drop a) a acc).2.1=30∧(CX q (s.drop a) a acc).1=[]∧(A3 (Fo M) (FX s) q (Oe s a acc.length (EF acc) j)).sem=some (Vb s (CX q (s.drop a) a acc).2.2 (JB q (s.drop a) acc).1.length (EF (JB q (s.drop a) acc).1)))
 | 0,a,acc,j,h,_,_=>absurd h (Nat.not_lt_zero _)
 | q+1,a,acc,j,h,ha,hk=>by
  have hsl:B5 s=s.length:=rfl;rcases Nat.lt_or_ge a s.length with he | he
  ·have c0:ilt (ofNat a) (ofNat (B5 s))=true:=ofNat_lt he
   have c1:Ao (ile 0 (ofNat a)) (ilt (ofNat a) (ofNat (B5 s)))=true:=Ag he;cases hb:Ha s[a] with
   | true =>
    have e1:CX (q+1) (s.drop a) a acc=CX q (s.drop (a+1)) (a+1) acc:=by rw [FC he,Uj hb]
    have e2:JB (q+1) (s.drop a) acc=JB q (s.drop (a+1)) acc:=by rw [FC he,JB,if_pos hb]
    rw [e1,e2,Ae (Amg M s a acc.length (EF acc) j c0 c1 (by rw [Nw he]; exact hb)),A6,Ap (n:=s.length) he (by omega)];exact Ab3 M hMM s hs m2 q (a+1) acc Aa (by omega) (by omega) (by omega)
   | false =>
    have c2:Fp (ED s a)=false:=by rw [Nw he]; exact hb
    have hw0:0<(BO (s.drop a)).length:=by
     rw [FC he];unfold BO;rw [List.takeWhile_cons_of_pos (by simp [hb])];exact Nat.succ_pos _
    have hwl:=Aa2 (s.drop a);rw [List.length_drop] at hwl;have hi:∀ M',(M 2 (Gi M') (Lb s a acc.length (EF acc) j)).sem=some (Jy s a acc.length (EF acc) (a+(BO (s.drop a)).length)):=λM'=>by
     rw [m2,WZ];exact Ab2 M' s hs a acc.length (EF acc) (B5 s+1) a _ (by omega)
    have hsub:JH a (JE (a+(BO (s.drop a)).length) s)=BO (s.drop a):=by
     show (s.take (a+(BO (s.drop a)).length)).drop a=_;rw [List.drop_take,show a+(BO (s.drop a)).length-a=(BO (s.drop a)).length by omega];exact (List.prefix_iff_eq_take.1 (List.takeWhile_prefix _)).symm
    have c3:Ao (ile 0 (ofNat a)) (Ao (ile (ofNat a) (ofNat (a+(BO (s.drop a)).length))) (ile (ofNat (a+(BO (s.drop a)).length)) (ofNat (B5 s))))=true:=by
     rw [AX,ile_nat,ile_nat,decide_eq_true (by omega),decide_eq_true (by omega)];rfl
    have e0:CX (q+1) (s.drop a) a acc=if Fg (BO (s.drop a))=0 then CX q ((s.drop a).drop (BO (s.drop a)).length) (a+(BO (s.drop a)).length) (acc++[Fh (BO (s.drop a))]) else ([],30,a):=by
     rw [FC he,CX,if_neg (by rw [hb]; decide)]
    have e5:JB (q+1) (s.drop a) acc=if Fg (BO (s.drop a))=0 then JB q ((s.drop a).drop (BO (s.drop a)).length) (acc++[Fh (BO (s.drop a))]) else (acc,Fh (BO (s.drop a))):=by
     rw [FC he,JB,if_neg (by rw [hb]; decide)]
    by_cases hp:Fg (BO (s.drop a))=0
    ·have c4:ieq (Fg (JH a (JE (a+(BO (s.drop a)).length) s))) 0=true:=by rw [hsub,hp]; rfl
     have h9:(acc.length+1) * 40 <= 140737488355328:=by omega
     have h3:=Amd M _ s a acc.length (EF acc) (a+(BO (s.drop a)).length) j c0 c1 c2 c3 c4 (decide_eq_true h9) (Az (hi _));have h4:Al (Fo M) (FX s) (Oe s a acc.length (EF acc) j)=_:=Hi (l:=FX s) (Gd (Γ:=⟨Am tb41,M,Gl⟩) (AI hMM hMM) (Au Tryz.f32 0) 0 (Oe s a acc.length (EF acc) j)) h3;rw [if_pos hp,List.drop_drop] at e0 e5;rw [e0,e5,Ae h4,A6,hsub,Zy];have ih:=Ab3 M hMM s hs m2 q (a+(BO (s.drop a)).length) (acc++[Fh (BO (s.drop a))]) Aa (by omega) (by omega) (by rw [List.length_append]; simp only [List.length_cons,List.length_nil]; omega);rw [show (acc++[Fh (BO (s.drop a))]).length=acc.length+1 from List.length_append] at ih;exact ih
    ·have c4:ieq (Fg (JH a (JE (a+(BO (s.drop a)).length) s))) 0=false:=by rw [hsub]; simp [ieq,hp]
     have h3:=Ame M _ s a acc.length (EF acc) (a+(BO (s.drop a)).length) j c0 c1 c2 c3 c4 (Az (hi _));have h4:Al (Fo M) (FX s) (Oe s a acc.length (EF acc) j)=_:=Hi (l:=FX s) (Gd (Γ:=⟨Am tb41,M,Gl⟩) (AI hMM hMM) (Au Tryz.f32 0) 0 (Oe s a acc.length (EF acc) j)) h3;rw [if_neg hp] at e0 e5;rw [e0,e5];refine .inr ⟨rfl,rfl,?_⟩;rw [Ae h4];rfl
  ·rw [List.drop_eq_nil_of_le he]
   exact .inl ⟨rfl,Ae (Amf M s a acc.length (EF acc) j (Aw he))⟩
theorem Ada (s:List UInt8):Pm s=Oe s 0 0 Aa (λi=>nth (Pm s).t i):=by kernel_rfl
theorem p41:Ax Tryz.prog Gl 32 psT:=by
 refine Aj A7 mixed Tryz.func32 (by kernel_rfl) (by kernel_rfl) λvs v h' h=>?_;unfold psT at h;split at h
 ·rename_i s
  have:=Ab h;simp only [Prod.mk.injEq] at this;obtain ⟨rfl,rfl⟩:=this;have hx:=AH tb41_ok [(0,FX s),(2,Dw s)];have hL:=AQ [(0,FX s),(2,Dw s)];cases hb:AdJ s with
  | true =>
   have e1:psN s=0:=by unfold psN psL; rw [hb]; rfl
   have e2:psE s=2:=by unfold psE; rw [hb]; rfl
   have e3:psI s=0:=by unfold psI; rw [hb]; rfl
   rw [e1,e2,e3];exact ⟨_,AA Gl tb41 [(0,FX s),(2,Dw s)],_,Bj.refl _,rfl,hx.1,hx.2,Aly _ s hb,Av.one λj hj=>absurd hj (Nat.not_lt_zero _)⟩
  | false =>
   have hs:s.length <= 262144:=by
    unfold AdJ at hb;rw [show (262144:Int)=ofNat 262144 from rfl,BP] at hb;have:=of_decide_eq_false hb;have hsl:B5 s=s.length:=rfl;omega
   have e0:psL s=(psR s).1:=by unfold psL; rw [hb]; rfl
   have e2:psE s=(psR s).2.1:=by unfold psE; rw [hb]; rfl
   have e3:psI s=ofNat (psR s).2.2:=by unfold psI; rw [hb]; rfl
   have hg:ilt 262144 (ofNat (B5 s))=false:=hb;have key:∀ M,LLe M M->(∀ f st,M 2 f st=A3 f (Dw s) (B5 s+1) st)->((psR s).2.1=0∧(A3 (Fo M) (FX s) (B5 s+1) (Pm s)).sem=some (QL s 0 (psR s).1.length (EF (psR s).1))) ∨
     ((psR s).2.1=30∧(psR s).1=[]∧(A3 (Fo M) (FX s) (B5 s+1) (Pm s)).sem=some (Vb s (psR s).2.2 (JB (s.length+1) s []).1.length (EF (JB (s.length+1) s []).1))):=λM h1 h2=>by
    rw [Ada];exact Ab3 M h1 s hs h2 (s.length+1) 0 [] (λi=>nth (Pm s).t i) (by omega) (by omega) (Nat.le_refl _)
   have mm:∀ r,LLe (onP 0 (isP (Ba [(0,FX s),(2,Dw s)]) 0 r) r (Ba [(0,FX s),(2,Dw s)])) (onP 0 (isP (Ba [(0,FX s),(2,Dw s)]) 0 r) r (Ba [(0,FX s),(2,Dw s)])):=λr=>Akk hL 0 r;rw [e2,e3];unfold psN psG;rw [e0];by_cases hok:(psR s).2.1=0
   ·have hat:(psR s).2.2=0:=Oz _ _ _ _ hok
    have hw:=AP (AI hL hL) _ (Alx (Ba [(0,FX s),(2,Dw s)]) _ s 0 (psR s).1.length (EF (psR s).1) hg (Az (by
     rcases key _ (mm (QL s 0 (psR s).1.length (EF (psR s).1))) (λ_ _=>rfl) with ⟨_,h2⟩ | ⟨h1,_⟩
     ·exact h2
     ·rw [hok] at h1; cases h1)))
    rw [hok,hat];exact ⟨_,AA Gl tb41 [(0,FX s),(2,Dw s)],_,Bj.refl _,rfl,hx.1,hx.2,hw,Av.one λj hj=>(FQ (λi=>eV (Ml (psR s).1 i)) (psR s).1.length j hj).symm⟩
   ·have hno:(psR s).2.1=30∧(psR s).1=[]:=by
     rcases key _ (mm (QL s 0 0 (EF []))) (λ_ _=>rfl) with ⟨h1,_⟩ | ⟨h1,h2,_⟩
     ·exact absurd h1 hok
     ·exact ⟨h1,h2⟩
    have hw:=AP (AI hL hL) _ (Alz (Ba [(0,FX s),(2,Dw s)]) _ s (psR s).2.2 (JB (s.length+1) s []).1.length (EF (JB (s.length+1) s []).1) hg (Az (by
     rcases key _ (mm (Vb s (psR s).2.2 (JB (s.length+1) s []).1.length (EF (JB (s.length+1) s []).1))) (λ_ _=>rfl) with ⟨h1,_⟩ | ⟨_,_,h3⟩
     ·exact absurd h1 hok
     ·exact h3)))
    rw [hno.1,hno.2];exact ⟨_,AA Gl tb41 [(0,FX s),(2,Dw s)],_,Bj.refl _,rfl,hx.1,hx.2,hw,Av.one λj hj=>absurd hj (Nat.not_lt_zero _)⟩
 ·cases h
end Go.Proofs.YtkgdhhieomndeaaGreatDoor.Ed
namespace Go.Proofs.YtkgdhhieomndeaaGreatDoor.Sh
open Go.Sy Ed
open Int (ofNat)
set_option maxRecDepth 4000
def ApI:List UInt8:=[120,121,122,97,98,99,100,101,102,103,104,105,106,107,108,109]
def CG (x:Int):Int:=bif bor (ilt x 0) (ile 16 x) then 4 else 0
def BB (x:Int):List UInt8:=bif bor (ilt x 0) (ile 16 x) then [] else [ApI.getD x.toNat 0]
def OK:List V->AE
 | [.val (.int .i64 x)]=>.leaf (.tup [.str (BB x),iV (CG x)],[])
 | _=>.fail
theorem AfM:(Ay (Ai tab (AA Gl tb0 []) Tryz.f20 [nV 0] [])).sem=some (.tup [.str (BB (ofNat 0)),iV (CG (ofNat 0))],[]):=by kernel_rfl
theorem AfL:(Ay (Ai tab (AA Gl tb0 []) Tryz.f20 [nV 1] [])).sem=some (.tup [.str (BB (ofNat 1)),iV (CG (ofNat 1))],[]):=by kernel_rfl
theorem AfK:(Ay (Ai tab (AA Gl tb0 []) Tryz.f20 [nV 2] [])).sem=some (.tup [.str (BB (ofNat 2)),iV (CG (ofNat 2))],[]):=by kernel_rfl
theorem AfJ:(Ay (Ai tab (AA Gl tb0 []) Tryz.f20 [nV 3] [])).sem=some (.tup [.str (BB (ofNat 3)),iV (CG (ofNat 3))],[]):=by kernel_rfl
theorem AfI:(Ay (Ai tab (AA Gl tb0 []) Tryz.f20 [nV 4] [])).sem=some (.tup [.str (BB (ofNat 4)),iV (CG (ofNat 4))],[]):=by kernel_rfl
theorem AfH:(Ay (Ai tab (AA Gl tb0 []) Tryz.f20 [nV 5] [])).sem=some (.tup [.str (BB (ofNat 5)),iV (CG (ofNat 5))],[]):=by kernel_rfl
theorem AfG:(Ay (Ai tab (AA Gl tb0 []) Tryz.f20 [nV 6] [])).sem=some (.tup [.str (BB (ofNat 6)),iV (CG (ofNat 6))],[]):=by kernel_rfl
theorem AfF:(Ay (Ai tab (AA Gl tb0 []) Tryz.f20 [nV 7] [])).sem=some (.tup [.str (BB (ofNat 7)),iV (CG (ofNat 7))],[]):=by kernel_rfl
theorem AfE:(Ay (Ai tab (AA Gl tb0 []) Tryz.f20 [nV 8] [])).sem=some (.tup [.str (BB (ofNat 8)),iV (CG (ofNat 8))],[]):=by kernel_rfl
theorem AfD:(Ay (Ai tab (AA Gl tb0 []) Tryz.f20 [nV 9] [])).sem=some (.tup [.str (BB (ofNat 9)),iV (CG (ofNat 9))],[]):=by kernel_rfl
theorem Acv:(Ay (Ai tab (AA Gl tb0 []) Tryz.f20 [nV 10] [])).sem=some (.tup [.str (BB (ofNat 10)),iV (CG (ofNat 10))],[]):=by kernel_rfl
theorem Acu:(Ay (Ai tab (AA Gl tb0 []) Tryz.f20 [nV 11] [])).sem=some (.tup [.str (BB (ofNat 11)),iV (CG (ofNat 11))],[]):=by kernel_rfl
theorem Acs:(Ay (Ai tab (AA Gl tb0 []) Tryz.f20 [nV 12] [])).sem=some (.tup [.str (BB (ofNat 12)),iV (CG (ofNat 12))],[]):=by kernel_rfl
theorem Acr:(Ay (Ai tab (AA Gl tb0 []) Tryz.f20 [nV 13] [])).sem=some (.tup [.str (BB (ofNat 13)),iV (CG (ofNat 13))],[]):=by kernel_rfl
theorem Acp:(Ay (Ai tab (AA Gl tb0 []) Tryz.f20 [nV 14] [])).sem=some (.tup [.str (BB (ofNat 14)),iV (CG (ofNat 14))],[]):=by kernel_rfl
theorem Aco:(Ay (Ai tab (AA Gl tb0 []) Tryz.f20 [nV 15] [])).sem=some (.tup [.str (BB (ofNat 15)),iV (CG (ofNat 15))],[]):=by kernel_rfl
theorem Ano (k:Nat) (hk:k<16):(Ay (Ai tab (AA Gl tb0 []) Tryz.f20 [nV k] [])).sem=some (.tup [.str (BB (ofNat k)),iV (CG (ofNat k))],[]):=by
 have:k=0 ∨ k=1 ∨ k=2 ∨ k=3 ∨ k=4 ∨ k=5 ∨ k=6 ∨ k=7 ∨ k=8 ∨ k=9 ∨ k=10 ∨ k=11 ∨ k=12 ∨ k=13 ∨ k=14 ∨ k=15:=by omega
 rcases this with rfl | rfl | rfl | rfl | rfl | rfl | rfl | rfl | rfl | rfl | rfl | rfl | rfl | rfl | rfl | rfl
 ·exact AfM
 ·exact AfL
 ·exact AfK
 ·exact AfJ
 ·exact AfI
 ·exact AfH
 ·exact AfG
 ·exact AfF
 ·exact AfE
 ·exact AfD
 ·exact Acv
 ·exact Acu
 ·exact Acs
 ·exact Acr
 ·exact Acp
 ·exact Aco
theorem p37:Ax Tryz.prog Gl 20 OK:=by
 refine Ax.congr (AM A7 mixed Tryz.func20 (by kernel_rfl) (by kernel_rfl) (Γ:=AA Gl tb0 []) (AH CS [])) λvs r h=>?_;unfold OK at h;split at h
 ·rename_i x
  rw [Ab h];show (Ay (Ai tab (AA Gl tb0 []) Tryz.f20 [iV x] [])).sem=_;cases c0:ilt x 0 with
  | true =>rw [show BB x=[] by unfold BB bor; rw [c0]; rfl,show CG x=4 by unfold CG bor; rw [c0]; rfl];exact Ac (ks:=[kn c0,kn c0,kn c0,kT]) (by kernel_rfl)/-W:w37n-/
  | false =>
   cases c1:ile 16 x with
   | true =>rw [show BB x=[] by unfold BB bor; rw [c0,c1]; rfl,show CG x=4 by unfold CG bor; rw [c0,c1]; rfl];exact Ac (ks:=[kn c0,kn c0,kn c0,kn c1]) (by kernel_rfl)/-W:w37g-/
   | false =>have h1:¬ x<0:=of_decide_eq_false c0;have h2:¬ (16:Int) <= x:=of_decide_eq_false c1;obtain ⟨k,rfl⟩:∃ k:Nat,x=ofNat k:=⟨x.toNat,by simp only [Int.ofNat_eq_natCast]; omega⟩;exact Ano k (by simp only [Int.ofNat_eq_natCast] at h2; omega)
 ·cases h
theorem AfC:(Ay (Ai tab (AA Gl tb0 []) Tryz.f45 [nV 0] [])).sem=some (.tup [.str (BB (ofNat 0)),iV (CG (ofNat 0))],[]):=by kernel_rfl
theorem AfB:(Ay (Ai tab (AA Gl tb0 []) Tryz.f45 [nV 1] [])).sem=some (.tup [.str (BB (ofNat 1)),iV (CG (ofNat 1))],[]):=by kernel_rfl
theorem AfA:(Ay (Ai tab (AA Gl tb0 []) Tryz.f45 [nV 2] [])).sem=some (.tup [.str (BB (ofNat 2)),iV (CG (ofNat 2))],[]):=by kernel_rfl
theorem Af9:(Ay (Ai tab (AA Gl tb0 []) Tryz.f45 [nV 3] [])).sem=some (.tup [.str (BB (ofNat 3)),iV (CG (ofNat 3))],[]):=by kernel_rfl
theorem Af8:(Ay (Ai tab (AA Gl tb0 []) Tryz.f45 [nV 4] [])).sem=some (.tup [.str (BB (ofNat 4)),iV (CG (ofNat 4))],[]):=by kernel_rfl
theorem Af7:(Ay (Ai tab (AA Gl tb0 []) Tryz.f45 [nV 5] [])).sem=some (.tup [.str (BB (ofNat 5)),iV (CG (ofNat 5))],[]):=by kernel_rfl
theorem Af6:(Ay (Ai tab (AA Gl tb0 []) Tryz.f45 [nV 6] [])).sem=some (.tup [.str (BB (ofNat 6)),iV (CG (ofNat 6))],[]):=by kernel_rfl
theorem Af5:(Ay (Ai tab (AA Gl tb0 []) Tryz.f45 [nV 7] [])).sem=some (.tup [.str (BB (ofNat 7)),iV (CG (ofNat 7))],[]):=by kernel_rfl
theorem Af4:(Ay (Ai tab (AA Gl tb0 []) Tryz.f45 [nV 8] [])).sem=some (.tup [.str (BB (ofNat 8)),iV (CG (ofNat 8))],[]):=by kernel_rfl
theorem Af3:(Ay (Ai tab (AA Gl tb0 []) Tryz.f45 [nV 9] [])).sem=some (.tup [.str (BB (ofNat 9)),iV (CG (ofNat 9))],[]):=by kernel_rfl
theorem Acn:(Ay (Ai tab (AA Gl tb0 []) Tryz.f45 [nV 10] [])).sem=some (.tup [.str (BB (ofNat 10)),iV (CG (ofNat 10))],[]):=by kernel_rfl
theorem Acm:(Ay (Ai tab (AA Gl tb0 []) Tryz.f45 [nV 11] [])).sem=some (.tup [.str (BB (ofNat 11)),iV (CG (ofNat 11))],[]):=by kernel_rfl
theorem Acl:(Ay (Ai tab (AA Gl tb0 []) Tryz.f45 [nV 12] [])).sem=some (.tup [.str (BB (ofNat 12)),iV (CG (ofNat 12))],[]):=by kernel_rfl
theorem Ack:(Ay (Ai tab (AA Gl tb0 []) Tryz.f45 [nV 13] [])).sem=some (.tup [.str (BB (ofNat 13)),iV (CG (ofNat 13))],[]):=by kernel_rfl
theorem Acj:(Ay (Ai tab (AA Gl tb0 []) Tryz.f45 [nV 14] [])).sem=some (.tup [.str (BB (ofNat 14)),iV (CG (ofNat 14))],[]):=by kernel_rfl
theorem Aci:(Ay (Ai tab (AA Gl tb0 []) Tryz.f45 [nV 15] [])).sem=some (.tup [.str (BB (ofNat 15)),iV (CG (ofNat 15))],[]):=by kernel_rfl
theorem Ann (k:Nat) (hk:k<16):(Ay (Ai tab (AA Gl tb0 []) Tryz.f45 [nV k] [])).sem=some (.tup [.str (BB (ofNat k)),iV (CG (ofNat k))],[]):=by
 have:k=0 ∨ k=1 ∨ k=2 ∨ k=3 ∨ k=4 ∨ k=5 ∨ k=6 ∨ k=7 ∨ k=8 ∨ k=9 ∨ k=10 ∨ k=11 ∨ k=12 ∨ k=13 ∨ k=14 ∨ k=15:=by omega
 rcases this with rfl | rfl | rfl | rfl | rfl | rfl | rfl | rfl | rfl | rfl | rfl | rfl | rfl | rfl | rfl | rfl
 ·exact AfC
 ·exact AfB
 ·exact AfA
 ·exact Af9
 ·exact Af8
 ·exact Af7
 ·exact Af6
 ·exact Af5
 ·exact Af4
 ·exact Af3
 ·exact Acn
 ·exact Acm
 ·exact Acl
 ·exact Ack
 ·exact Acj
 ·exact Aci
theorem p38:Ax Tryz.prog Gl 45 OK:=by
 refine Ax.congr (AM A7 mixed Tryz.func45 (by kernel_rfl) (by kernel_rfl) (Γ:=AA Gl tb0 []) (AH CS [])) λvs r h=>?_;unfold OK at h;split at h
 ·rename_i x
  rw [Ab h];show (Ay (Ai tab (AA Gl tb0 []) Tryz.f45 [iV x] [])).sem=_;cases c0:ilt x 0 with
  | true =>rw [show BB x=[] by unfold BB bor; rw [c0]; rfl,show CG x=4 by unfold CG bor; rw [c0]; rfl];exact Ac (ks:=[kn c0,kn c0,kn c0,kn c0,kn c0,kT]) (by kernel_rfl)/-W:w38n-/
  | false =>
   cases c1:ile 16 x with
   | true =>rw [show BB x=[] by unfold BB bor; rw [c0,c1]; rfl,show CG x=4 by unfold CG bor; rw [c0,c1]; rfl];exact Ac (ks:=[kn c0,kn c0,kn c0,kn c0,kn c0,kn c1]) (by kernel_rfl)/-W:w38g-/
   | false =>have h1:¬ x<0:=of_decide_eq_false c0;have h2:¬ (16:Int) <= x:=of_decide_eq_false c1;obtain ⟨k,rfl⟩:∃ k:Nat,x=ofNat k:=⟨x.toNat,by simp only [Int.ofNat_eq_natCast]; omega⟩;exact Ann k (by simp only [Int.ofNat_eq_natCast] at h2; omega)
 ·cases h
noncomputable def tb18:AK:=(32,psT)::(57,ofT)::(20,OK)::[]
theorem tb18_ok:Aq Tryz.prog Gl tb18:=.cons p41 <| .cons p14 <| .cons p37 .nil
end Go.Proofs.YtkgdhhieomndeaaGreatDoor.Sh
namespace Go.Proofs.YtkgdhhieomndeaaGreatDoor.Sh
open Go.Sy Ed
set_option maxHeartbeats 1000000
set_option maxRecDepth 4000
theorem canF_congr {n:Nat} {f l:Nat->E6} (hm:Cp n f=true) (hl:∀ i,i<n->l i=f i) {i:Nat} (hi:i<n):AY n l i=AY n f i:=by
 rw [Lv hm hl i hi,Lv hm (λ_ _=>rfl) i hi]
theorem shG_congr {n:Nat} {f l:Nat->E6} (hm:Cp n f=true) (hl:∀ i,i<n->l i=f i):shG n l=shG n f:=by
 have hq:shQ n l=shQ n f:=by
  unfold shQ;rw [FU (p:=λi=>AB (AY n l i)) (q:=λi=>AB (AY n f i)) λi hi=>by rw [canF_congr hm hl hi]]
 funext i;unfold shG Aae;by_cases hi:i<n
 ·rw [decide_eq_true hi,hq]
  exact canF_congr hm hl (Nat.mod_lt _ (by omega))
 ·rw [decide_eq_false hi]
  rfl
theorem small_16 {k:Nat} (h:k <= 16):Af k=true:=decide_eq_true (by omega)
theorem sameB_rfl (n:Nat) (f:Nat->E6):CB n f n f=true:=I7.2 ⟨rfl,λ_ _=>rfl⟩
theorem sameI_rfl (n:Nat) (f:Nat->Int):Da n f n f=true:=by
 unfold Da;rw [Bp (Br _)];exact A0.2 λ_ _=>Br _
theorem sameJ_rfl (n:Nat) (ln:Nat->Nat) (co:Nat->Nat->Int):El n ln co n ln co=true:=by
 unfold El;rw [Bp (Br _)];exact A0.2 λ_ _=>sameI_rfl _ _
theorem sameX_rfl (e:Ev5):FM e e=true:=by
 unfold FM;rw [Bp (Br _),Bp (Br _),Bp (Br _),Bp (Br _),Bp (Br _)]
theorem ln_le (m w:Nat->Bool) (n k:Nat) (h:Cl m n (stN m n k) <= n+1):lnN m w n k <= n+1:=Nat.le_trans (Bm _ _) h
noncomputable def tb3:AK:=(57,ofT)::(33,ofT)::(9,I5)::[]
theorem tb3_ok:Aq Tryz.prog Gl tb3:=.cons p14 <| .cons p15 <| .cons p16 <| .nil
end Go.Proofs.YtkgdhhieomndeaaGreatDoor.Sh
