/-
  The document's Parse. No conditions.
-/
import Derived.Test.YtkbgidbledjejaaGreatCyYp
import Derived.Test.YtkbgidbledjejaaGreatEnE
import Derived.Test.YtkbgidbledjejaaGreatCyT
import Derived.Test.YtkbgidbledjejaaGreatEnG
import Derived.Test.YtkbgidbledjejaaGreatCyTc
namespace Go.Proofs.YtkbgidbledjejaaGreat.Ed
open Go.Sy Go
open Int (ofNat)
theorem e84 (Γ:Cx) (vs:List V) (h:List Blk):Ar tab Γ Tryz.f102 vs h=Ar tab Γ Tryz.f102 vs h:=by kernel_rfl
theorem p84:As Tryz.prog Gl 102 Yu:=by
 refine Ah A2 mixed Tryz.func102 (by kernel_rfl) (by kernel_rfl) λvs v h' h=>?_;unfold Yu at h;split at h
 ·rename_i x
  have:=Aa h;simp only [Prod.mk.injEq] at this;obtain ⟨rfl,rfl⟩:=this;have hx:=Bi H2 [];refine ⟨_,B7 Gl tb0 [],_,By.refl _,rfl,hx.1,hx.2,?_,Au.refl _⟩;rw [e84];unfold Gt;cases c1:ieq x 32 with
  | true=>exact Al9 _ x c1
  | false =>
   cases c2:ieq x 9 with
   | true=>exact Al8 _ x c1 c2
   | false =>
    cases c3:ieq x 10 with
    | true=>exact Al7 _ x c1 c2 c3
    | false=>exact Al6 _ x c1 c2 c3
 ·cases h
noncomputable def tb41:AG:=(102,Yu)::(103,RN TG)::[]
theorem tb41_ok:Al Tryz.prog Gl tb41:=.cons p84 <| .cons p22 .nil
def Wt (s:List UInt8) (a k:Nat) (x:Nat->V):Ex×St:=(.rt,⟨jsV 56 0 Ac [(2,.ref 1),(3,iV 30),(4,nV a),(6,.ref 2)],[.row 46 6 0 Ac,.row 46 6 0 Ac,.row 46 6 k x]⟩)
def Eb (s:List UInt8):Lp:=⟨bmK 56 0 [0,2,3,4,5,6,7,8],3,bmK 56 0 [0,2,3,4,5,6,7,8],3,CN s+1⟩
def Py (s:List UInt8) (a k:Nat) (x:Nat->V) (e:Nat) (j:Nat->V):St:=⟨jsV 56 0 j [(0,.str s),(2,.ref 0),(3,iV 0),(4,iV 0),(5,.ref 1),(6,.ref 2),(7,nV e),(8,nV a)],[.row 46 6 0 Ac,.row 46 6 0 Ac,.row 46 6 k x]⟩
def Km (s:List UInt8) (a k:Nat) (x:Nat->V) (e:Nat):Ex×St:=(.ex 2,⟨jsV 56 0 Ac [(0,.str s),(2,.ref 0),(3,iV 0),(4,iV 0),(5,.ref 1),(6,.ref 2),(7,nV e),(8,nV a)],[.row 46 6 0 Ac,.row 46 6 0 Ac,.row 46 6 k x]⟩)
noncomputable def Hf (L:LT):St->T (Ex×St):=λst=>A6 tab ⟨A5 tb41,L,Gl⟩ (Aw Tryz.f70 2) 2 st
section
variable (L:LT) (s:List UInt8) (a k:Nat) (x:Nat->V) (e:Nat)  (j:Nat->V)
include L s a k x e j
theorem Amw (h0:ilt (ofNat e) (ofNat (CN s))=false):Am (Hf L) (Eb s) (Py s a k x e j)=some ((.ex 2),⟨jsV 56 0 Ac [(0,.str s),(2,.ref 0),(3,iV 0),(4,iV 0),(5,.ref 1),(6,.ref 2),(7,nV e),(8,nV a)],[.row 46 6 0 Ac,.row 46 6 0 Ac,.row 46 6 k x]⟩):=by
 exact Ag (ks:=[kn h0,kn h0,kn h0,kn h0,kn h0,kn h0,kF]) (by kernel_rfl)
theorem Amx (h0:ilt (ofNat e) (ofNat (CN s))=true) (h1:Av (ile 0 (ofNat e)) (ilt (ofNat e) (ofNat (CN s)))=true) (h2:Gt (Oq s e)=true):Am (Hf L) (Eb s) (Py s a k x e j)=some ((.ex 2),⟨jsV 56 0 Ac [(0,.str s),(2,.ref 0),(3,iV 0),(4,iV 0),(5,.ref 1),(6,.ref 2),(7,nV e),(8,nV a)],[.row 46 6 0 Ac,.row 46 6 0 Ac,.row 46 6 k x]⟩):=by
 exact Ag (ks:=[kn h0,kn h0,kn h0,kn h1,kn h0,kn h0,kn h0,kN (kn h2)]) (by kernel_rfl)
theorem Amv (h0:ilt (ofNat e) (ofNat (CN s))=true) (h1:Av (ile 0 (ofNat e)) (ilt (ofNat e) (ofNat (CN s)))=true) (h2:Gt (Oq s e)=false):Am (Hf L) (Eb s) (Py s a k x e j)=some (.nm,⟨jsV 56 0 Ac [(0,.str s),(2,.ref 0),(3,iV 0),(4,iV 0),(5,.ref 1),(6,.ref 2),(7,iV (wr .i64 (Ai (ofNat e) 1))),(8,nV a)],[.row 46 6 0 Ac,.row 46 6 0 Ac,.row 46 6 k x]⟩):=by
 exact Ag (ks:=[kn h0,kn h0,kn h0,kn h1,kn h0,kn h0,kn h0,kN (kn h2)]) (by kernel_rfl)
end
def lp41 (s:List UInt8):Lp:=⟨bmK 56 0 [0,2,3,4,5,6,7],3,bmK 56 0 [2,3,4,6],3,CN s+1⟩
def Pz (s:List UInt8) (a k:Nat) (x:Nat->V) (j:Nat->V):St:=⟨jsV 56 0 j [(0,.str s),(2,.ref 0),(3,iV 0),(4,iV 0),(5,.ref 1),(6,.ref 2),(7,nV a)],[.row 46 6 0 Ac,.row 46 6 0 Ac,.row 46 6 k x]⟩
def SK (s:List UInt8) (a k:Nat) (x:Nat->V):Ex×St:=(.ex 0,⟨jsV 56 0 Ac [(2,.ref 0),(3,iV 0),(4,iV 0),(6,.ref 2)],[.row 46 6 0 Ac,.row 46 6 0 Ac,.row 46 6 k x]⟩)
noncomputable def Gs (L:LT):St->T (Ex×St):=λst=>A6 tab ⟨A5 tb41,L,Gl⟩ (Aw Tryz.f70 0) 0 st
section
variable (L:LT) (s:List UInt8) (a k:Nat) (x:Nat->V)  (j:Nat->V)
include L s a k x j
theorem Amt (h0:ilt (ofNat a) (ofNat (CN s))=false):Am (Gs L) (lp41 s) (Pz s a k x j)=some ((.ex 0),⟨jsV 56 0 Ac [(2,.ref 0),(3,iV 0),(4,iV 0),(6,.ref 2)],[.row 46 6 0 Ac,.row 46 6 0 Ac,.row 46 6 k x]⟩):=by
 exact Ag (ks:=[kn h0]) (by kernel_rfl)
theorem Amu (h0:ilt (ofNat a) (ofNat (CN s))=true) (h1:Av (ile 0 (ofNat a)) (ilt (ofNat a) (ofNat (CN s)))=true) (h2:Gt (Oq s a)=true):Am (Gs L) (lp41 s) (Pz s a k x j)=some (.nm,⟨jsV 56 0 Ac [(0,.str s),(2,.ref 0),(3,iV 0),(4,iV 0),(5,.ref 1),(6,.ref 2),(7,iV (wr .i64 (Ai (ofNat a) 1)))],[.row 46 6 0 Ac,.row 46 6 0 Ac,.row 46 6 k x]⟩):=by
 exact Ag (ks:=[kn h0,kn h1,kn h2]) (by kernel_rfl)
end
def Mn (s:List UInt8) (a k:Nat) (x:Nat->V) (j:Nat->V):St:=⟨jsV 56 0 j [(0,.str s),(2,.ref 0),(3,iV 0),(4,iV 0),(5,.ref 1),(6,.ref 2),(7,nV a),(8,nV a),(15,nV a),(16,.str s),(17,iV (ofNat (CN s))),(18,bV (ilt (ofNat a) (ofNat (CN s)))),(19,.str s),(20,nV a),(21,.val (Value.int IntKind.u8 (Oq s a))),(22,bV (Gt (Oq s a))),(25,nV a)],[.row 46 6 0 Ac,.row 46 6 0 Ac,.row 46 6 k x]⟩
section
variable (L:LT) (p2:PT) (s:List UInt8) (a k:Nat) (x:Nat->V) (e:Nat) (j:Nat->V)
include L p2 s a k x e j
theorem Amr (h0:ilt (ofNat a) (ofNat (CN s))=true) (h1:Av (ile 0 (ofNat a)) (ilt (ofNat a) (ofNat (CN s)))=true) (h2:Gt (Oq s a)=false) (h3:Av (ile 0 (ofNat a)) (Av (ile (ofNat a) (ofNat e)) (ile (ofNat e) (ofNat (CN s))))=true) (h4:ieq (Gj (K0 a (Ky e s))) 0=true) (h5:Ck k 1 40=true) (hp2:p2 (Hf (onP 2 p2 (Km s a k x e) L)) (Mn s a k x j)=true):Am (Gs (onP 2 p2 (Km s a k x e) L)) (lp41 s) (Pz s a k x j)=some (.nm,⟨jsV 56 0 Ac [(0,.str s),(2,.ref 0),(3,iV 0),(4,iV 0),(5,.ref 1),(6,.ref 2),(7,nV e)],[.row 46 6 0 Ac,.row 46 6 0 Ac,.row 46 6 (Bv k 1) (AC k x (eV (Gk (K0 a (Ky e s)))))]⟩):=by
 exact Ag (ks:=[kn h0,kn h1,kn h2,kn hp2,kn h3,kN (kn h4),kn h5]) (by kernel_rfl)
theorem Ams (h0:ilt (ofNat a) (ofNat (CN s))=true) (h1:Av (ile 0 (ofNat a)) (ilt (ofNat a) (ofNat (CN s)))=true) (h2:Gt (Oq s a)=false) (h3:Av (ile 0 (ofNat a)) (Av (ile (ofNat a) (ofNat e)) (ile (ofNat e) (ofNat (CN s))))=true) (h4:ieq (Gj (K0 a (Ky e s))) 0=false) (hp2:p2 (Hf (onP 2 p2 (Km s a k x e) L)) (Mn s a k x j)=true):Am (Gs (onP 2 p2 (Km s a k x e) L)) (lp41 s) (Pz s a k x j)=some (.rt,⟨jsV 56 0 Ac [(2,.ref 1),(3,iV 30),(4,nV a),(6,.ref 2)],[.row 46 6 0 Ac,.row 46 6 0 Ac,.row 46 6 k x]⟩):=by
 exact Ag (ks:=[kn h0,kn h1,kn h2,kn hp2,kn h3,kN (kn h4)]) (by kernel_rfl)
end
def QF (s:List UInt8) :St:=⟨jsV 56 0 (λ_=>A7) [(0,.str s),(2,.ref 0),(3,iV 0),(4,iV 0),(5,.ref 1),(6,.ref 2),(7,iV 0),(11,.str s),(12,iV (ofNat (CN s))),(13,bV (ilt 262144 (ofNat (CN s))))],[.row 46 6 0 Ac,.row 46 6 0 Ac,.row 46 6 0 Ac]⟩
theorem AlG (L:LT) (s:List UInt8) (h0:ilt 262144 (ofNat (CN s))=true):(AL (Ar tab ⟨A5 tb41,L,Gl⟩ Tryz.f70 [.str s] [])).sem=some ((.tup [.ref 0,iV 2,iV 0]),[.row 46 6 0 Ac]):=by
 exact Ag (ks:=[kn h0]) (by kernel_rfl)
section
variable (L:LT) (p0:PT) (s:List UInt8) (a k:Nat) (x:Nat->V)
include L p0 s a k x
theorem AlF (h0:ilt 262144 (ofNat (CN s))=false) (hp0:p0 (Gs (onP 0 p0 (SK s a k x) L)) (QF s)=true):(AL (Ar tab ⟨A5 tb41,onP 0 p0 (SK s a k x) L,Gl⟩ Tryz.f70 [.str s] [])).sem=some ((.tup [.ref 0,iV 0,iV 0]),[.row 46 6 k x]):=by
 exact Ag (ks:=[kn h0,kn hp0]) (by kernel_rfl)
theorem AlH (h0:ilt 262144 (ofNat (CN s))=false) (hp0:p0 (Gs (onP 0 p0 (Wt s a k x) L)) (QF s)=true):(AL (Ar tab ⟨A5 tb41,onP 0 p0 (Wt s a k x) L,Gl⟩ Tryz.f70 [.str s] [])).sem=some ((.tup [.ref 0,iV 30,nV a]),[.row 46 6 0 Ac]):=by
 exact Ag (ks:=[kn h0,kn hp0]) (by kernel_rfl)
end
theorem Ac3 (L:LT) (s:List UInt8) (hs:s.length <= 262144) (a k:Nat) (x:Nat->V):∀ (q e:Nat) (j:Nat->V),s.length-e<q ->
  (Ax (Hf L) (Eb s) q (Py s a k x e j)).sem=some (Km s a k x (e+(BA (s.drop e)).length))
 | 0,e,j,h=>absurd h (Nat.not_lt_zero _)
 | q+1,e,j,h=>by
  have hsl:CN s=s.length:=rfl;rcases Nat.lt_or_ge e s.length with he | he
  ·have c0:ilt (ofNat e) (ofNat (CN s))=true:=ofNat_lt he
   have c1:Av (ile 0 (ofNat e)) (ilt (ofNat e) (ofNat (CN s)))=true:=Af he;rw [GH he];cases hb:HI s[e] with
   | true =>rw [show BA (s[e]::s.drop (e+1))=[] by unfold BA; rw [List.takeWhile_cons_of_neg (by simp [hb])]];exact Ae (Amx L s a k x e j c0 c1 (by rw [O2 he]; exact hb))
   | false =>rw [Ae (Amv L s a k x e j c0 c1 (by rw [O2 he]; exact hb)),AK,AT (n:=s.length) he (by omega)];have:=Ac3 L s hs a k x q (e+1) Ac (by omega);rw [show BA (s[e]::s.drop (e+1))=s[e]::BA (s.drop (e+1)) by unfold BA; rw [List.takeWhile_cons_of_pos (by simp [hb])],List.length_cons,show e+((BA (s.drop (e+1))).length+1)=e+1+(BA (s.drop (e+1))).length by omega];exact this
  ·rw [List.drop_eq_nil_of_le he]
   exact Ae (Amw L s a k x e j (A1 he))
theorem XV (s:List UInt8) (a k:Nat) (x:Nat->V) (j:Nat->V):Mn s a k x j=Py s a k x a (λi=>nth (Mn s a k x j).t i):=by kernel_rfl
theorem Ac4 (M:LT) (hMM:LLe M M) (s:List UInt8) (hs:s.length <= 262144) (m2:∀ f st,M 2 f st=Ax f (Eb s) (CN s+1) st):∀ (q a:Nat) (acc:List E6) (j:Nat->V),s.length-a<q->a <= s.length->acc.length <= a ->
  ((Db q (s.drop a) a acc).2.1=0∧(Ax (Gs M) (lp41 s) q (Pz s a acc.length (F7 acc) j)).sem=some (SK s 0 (Db q (s.drop a) a acc).1.length (F7 (Db q (s.drop a) a acc).1))) ∨
  ((Db q (s.drop a) a acc).2.1=30∧(Db q (s.drop a) a acc).1=[]∧(Ax (Gs M) (lp41 s) q (Pz s a acc.length (F7 acc) j)).sem=some (Wt s (Db q (s.drop a) a acc).2.2 (Ku q (s.drop a) acc).1.length (F7 (Ku q (s.drop a) acc).1)))
 | 0,a,acc,j,h,_,_=>absurd h (Nat.not_lt_zero _)
 | q+1,a,acc,j,h,ha,hk=>by
  have hsl:CN s=s.length:=rfl;rcases Nat.lt_or_ge a s.length with he | he
  ·have c0:ilt (ofNat a) (ofNat (CN s))=true:=ofNat_lt he
   have c1:Av (ile 0 (ofNat a)) (ilt (ofNat a) (ofNat (CN s)))=true:=Af he;cases hb:HI s[a] with
   | true =>
    have e1:Db (q+1) (s.drop a) a acc=Db q (s.drop (a+1)) (a+1) acc:=by rw [GH he,Vu hb]
    have e2:Ku (q+1) (s.drop a) acc=Ku q (s.drop (a+1)) acc:=by rw [GH he,Ku,if_pos hb]
    rw [e1,e2,Ae (Amu M s a acc.length (F7 acc) j c0 c1 (by rw [O2 he]; exact hb)),AK,AT (n:=s.length) he (by omega)];exact Ac4 M hMM s hs m2 q (a+1) acc Ac (by omega) (by omega) (by omega)
   | false =>
    have c2:Gt (Oq s a)=false:=by rw [O2 he]; exact hb
    have hw0:0<(BA (s.drop a)).length:=by
     rw [GH he];unfold BA;rw [List.takeWhile_cons_of_pos (by simp [hb])];exact Nat.succ_pos _
    have hwl:=AbD (s.drop a);rw [List.length_drop] at hwl;have hi:∀ M',(M 2 (Hf M') (Mn s a acc.length (F7 acc) j)).sem=some (Km s a acc.length (F7 acc) (a+(BA (s.drop a)).length)):=λM'=>by
     rw [m2,XV];exact Ac3 M' s hs a acc.length (F7 acc) (CN s+1) a _ (by omega)
    have hsub:K0 a (Ky (a+(BA (s.drop a)).length) s)=BA (s.drop a):=by
     show (s.take (a+(BA (s.drop a)).length)).drop a=_;rw [List.drop_take,show a+(BA (s.drop a)).length-a=(BA (s.drop a)).length by omega];exact (List.prefix_iff_eq_take.1 (List.takeWhile_prefix _)).symm
    have c3:Av (ile 0 (ofNat a)) (Av (ile (ofNat a) (ofNat (a+(BA (s.drop a)).length))) (ile (ofNat (a+(BA (s.drop a)).length)) (ofNat (CN s))))=true:=by
     rw [FM,EK,EK,decide_eq_true (by omega),decide_eq_true (by omega)];rfl
    have e0:Db (q+1) (s.drop a) a acc=if Gj (BA (s.drop a))=0 then Db q ((s.drop a).drop (BA (s.drop a)).length) (a+(BA (s.drop a)).length) (acc++[Gk (BA (s.drop a))]) else ([],30,a):=by
     rw [GH he,Db,if_neg (by rw [hb]; decide)]
    have e5:Ku (q+1) (s.drop a) acc=if Gj (BA (s.drop a))=0 then Ku q ((s.drop a).drop (BA (s.drop a)).length) (acc++[Gk (BA (s.drop a))]) else (acc,Gk (BA (s.drop a))):=by
     rw [GH he,Ku,if_neg (by rw [hb]; decide)]
    by_cases hp:Gj (BA (s.drop a))=0
    ·have c4:ieq (Gj (K0 a (Ky (a+(BA (s.drop a)).length) s))) 0=true:=by rw [hsub,hp]; rfl
     have h9:(acc.length+1) * 40 <= 140737488355328:=by omega
     have h3:=Amr M _ s a acc.length (F7 acc) (a+(BA (s.drop a)).length) j c0 c1 c2 c3 c4 (decide_eq_true h9) (AB (hi _));have h4:Am (Gs M) (lp41 s) (Pz s a acc.length (F7 acc) j)=_:=Sc (l:=lp41 s) (Mm (Γ:=⟨A5 tb41,M,Gl⟩) (Bg hMM hMM) (Aw Tryz.f70 0) 0 (Pz s a acc.length (F7 acc) j)) h3;rw [if_pos hp,List.drop_drop] at e0 e5;rw [e0,e5,Ae h4,AK,hsub,Aat];have ih:=Ac4 M hMM s hs m2 q (a+(BA (s.drop a)).length) (acc++[Gk (BA (s.drop a))]) Ac (by omega) (by omega) (by rw [List.length_append]; simp only [List.length_cons,List.length_nil]; omega);rw [show (acc++[Gk (BA (s.drop a))]).length=acc.length+1 from List.length_append] at ih;exact ih
    ·have c4:ieq (Gj (K0 a (Ky (a+(BA (s.drop a)).length) s))) 0=false:=by rw [hsub]; simp [ieq,hp]
     have h3:=Ams M _ s a acc.length (F7 acc) (a+(BA (s.drop a)).length) j c0 c1 c2 c3 c4 (AB (hi _));have h4:Am (Gs M) (lp41 s) (Pz s a acc.length (F7 acc) j)=_:=Sc (l:=lp41 s) (Mm (Γ:=⟨A5 tb41,M,Gl⟩) (Bg hMM hMM) (Aw Tryz.f70 0) 0 (Pz s a acc.length (F7 acc) j)) h3;rw [if_neg hp] at e0 e5;rw [e0,e5];refine .inr ⟨rfl,rfl,?_⟩;rw [Ae h4];rfl
  ·rw [List.drop_eq_nil_of_le he]
   exact .inl ⟨rfl,Ae (Amt M s a acc.length (F7 acc) j (A1 he))⟩
theorem Aew (s:List UInt8):QF s=Pz s 0 0 Ac (λi=>nth (QF s).t i):=by kernel_rfl
theorem p41:As Tryz.prog Gl 70 psT:=by
 refine Ah A2 mixed Tryz.func70 (by kernel_rfl) (by kernel_rfl) λvs v h' h=>?_;unfold psT at h;split at h
 ·rename_i s
  have:=Aa h;simp only [Prod.mk.injEq] at this;obtain ⟨rfl,rfl⟩:=this;have hx:=Bi tb41_ok [(0,lp41 s),(2,Eb s)];have hL:=AV [(0,lp41 s),(2,Eb s)];cases hb:AeN s with
  | true =>
   have e1:psN s=0:=by unfold psN psL; rw [hb]; rfl
   have e2:psE s=2:=by unfold psE; rw [hb]; rfl
   have e3:psI s=0:=by unfold psI; rw [hb]; rfl
   rw [e1,e2,e3];exact ⟨_,B7 Gl tb41 [(0,lp41 s),(2,Eb s)],_,By.refl _,rfl,hx.1,hx.2,AlG _ s hb,Au.one λj hj=>absurd hj (Nat.not_lt_zero _)⟩
  | false =>
   have hs:s.length <= 262144:=by
    unfold AeN at hb;rw [show (262144:Int)=ofNat 262144 from rfl,CX] at hb;have:=of_decide_eq_false hb;have hsl:CN s=s.length:=rfl;omega
   have e0:psL s=(psR s).1:=by unfold psL; rw [hb]; rfl
   have e2:psE s=(psR s).2.1:=by unfold psE; rw [hb]; rfl
   have e3:psI s=ofNat (psR s).2.2:=by unfold psI; rw [hb]; rfl
   have hg:ilt 262144 (ofNat (CN s))=false:=hb;have key:∀ M,LLe M M->(∀ f st,M 2 f st=Ax f (Eb s) (CN s+1) st)->((psR s).2.1=0∧(Ax (Gs M) (lp41 s) (CN s+1) (QF s)).sem=some (SK s 0 (psR s).1.length (F7 (psR s).1))) ∨
     ((psR s).2.1=30∧(psR s).1=[]∧(Ax (Gs M) (lp41 s) (CN s+1) (QF s)).sem=some (Wt s (psR s).2.2 (Ku (s.length+1) s []).1.length (F7 (Ku (s.length+1) s []).1))):=λM h1 h2=>by
    rw [Aew];exact Ac4 M h1 s hs h2 (s.length+1) 0 [] (λi=>nth (QF s).t i) (by omega) (by omega) (Nat.le_refl _)
   have mm:∀ r,LLe (onP 0 (isP (B6 [(0,lp41 s),(2,Eb s)]) 0 r) r (B6 [(0,lp41 s),(2,Eb s)])) (onP 0 (isP (B6 [(0,lp41 s),(2,Eb s)]) 0 r) r (B6 [(0,lp41 s),(2,Eb s)])):=λr=>Ak6 hL 0 r;rw [e2,e3];unfold psN psG;rw [e0];by_cases hok:(psR s).2.1=0
   ·have hat:(psR s).2.2=0:=PI _ _ _ _ hok
    have hw:=Bh (Bg hL hL) _ (AlF (B6 [(0,lp41 s),(2,Eb s)]) _ s 0 (psR s).1.length (F7 (psR s).1) hg (AB (by
     rcases key _ (mm (SK s 0 (psR s).1.length (F7 (psR s).1))) (λ_ _=>rfl) with ⟨_,h2⟩ | ⟨h1,_⟩
     ·exact h2
     ·rw [hok] at h1; cases h1)))
    rw [hok,hat];exact ⟨_,B7 Gl tb41 [(0,lp41 s),(2,Eb s)],_,By.refl _,rfl,hx.1,hx.2,hw,Au.one λj hj=>(HY (λi=>eV (getE (psR s).1 i)) (psR s).1.length j hj).symm⟩
   ·have hno:(psR s).2.1=30∧(psR s).1=[]:=by
     rcases key _ (mm (SK s 0 0 (F7 []))) (λ_ _=>rfl) with ⟨h1,_⟩ | ⟨h1,h2,_⟩
     ·exact absurd h1 hok
     ·exact ⟨h1,h2⟩
    have hw:=Bh (Bg hL hL) _ (AlH (B6 [(0,lp41 s),(2,Eb s)]) _ s (psR s).2.2 (Ku (s.length+1) s []).1.length (F7 (Ku (s.length+1) s []).1) hg (AB (by
     rcases key _ (mm (Wt s (psR s).2.2 (Ku (s.length+1) s []).1.length (F7 (Ku (s.length+1) s []).1))) (λ_ _=>rfl) with ⟨h1,_⟩ | ⟨_,_,h3⟩
     ·exact absurd h1 hok
     ·exact h3)))
    rw [hno.1,hno.2];exact ⟨_,B7 Gl tb41 [(0,lp41 s),(2,Eb s)],_,By.refl _,rfl,hx.1,hx.2,hw,Au.one λj hj=>absurd hj (Nat.not_lt_zero _)⟩
 ·cases h
end Go.Proofs.YtkbgidbledjejaaGreat.Ed
namespace Go.Proofs.YtkbgidbledjejaaGreat.En
open Go.Sy Go Go.Proofs.YtkbgidbledjejaaGreat.Ed
set_option maxRecDepth 100000
def sbS:List UInt8:=[80,111,100,87,82,32,70,114,101]
def sbT:List V->A3
 | []=>.leaf (.ref 0,[.row 46 6 2 λi=>eV (psG sbS i)])
 | _=>.fail
noncomputable def AlY:AG:=(70,psT)::[]
theorem AfO:Al Tryz.prog Gl AlY:=.cons p41 .nil
theorem p38:As Tryz.prog Gl 38 sbT:=by
 refine Ah A2 mixed Tryz.func38 (by kernel_rfl) (by kernel_rfl) λvs r h' h=>?_;unfold sbT at h;split at h
 rotate_left
 ·cases h
 cases Aa h;have hx:=Be AfO [] (G:=Gl);exact ⟨[],cxA Gl AlY [],_,By.refl _,rfl,hx.1,hx.2,DW.ok (.l) (by kernel_rfl),Au.refl _⟩
end Go.Proofs.YtkbgidbledjejaaGreat.En
namespace Go.Proofs.YtkbgidbledjejaaGreat.En
open Go.Sy Go Go.Proofs.YtkbgidbledjejaaGreat.Ed
set_option maxRecDepth 100000
theorem Ajt:E3 1 2 (psG sbS) 4=0:=by kernel_rfl
theorem Amn:(HH 1 2 (psG sbS) 4).length=1:=by kernel_rfl
theorem Amm:(((HH 1 2 (psG sbS) 4).getD 0 []).length)=4:=by kernel_rfl
theorem AoI:HS 2 (psG sbS) 4=false:=by kernel_rfl
theorem Aml:Ew 1 2 (psG sbS) 4 9=0:=by
 unfold Ew;rw [Ajt,AoI,Amn];rfl
theorem Agl:(CL 1 2 (psG sbS) 4 9).length=1∧((CL 1 2 (psG sbS) 4 9).getD 0 []).length=4:=by
 unfold CL;rw [Aml];show (FY _ _).length=1∧((FY _ _).getD 0 []).length=4;rw [P3,O7,List.length_map,List.length_range];exact ⟨Amn,Amm⟩
end Go.Proofs.YtkbgidbledjejaaGreat.En
namespace Go.Proofs.YtkbgidbledjejaaGreat.En
open Go.Sy Go Go.Proofs.YtkbgidbledjejaaGreat.Ed
set_option maxRecDepth 100000
abbrev eqQ (v:Nat->E6) (d:E6) (i:Nat):Bool:=eqE d (v i)
def ixT:List V->A3
 | [u,b]=>apL u λn v=>.br (okE b) (.br (BX n) (.br (isN (A0 (eqQ v (edE b)) n 0)) (.leaf (iV (-1),[])) (.leaf (nO (eqQ v (edE b)) n,[]))) .fail) .fail
 | _=>.fail
noncomputable def Ajc:AG:=[]
def Ant:Lp:=⟨bmK 19 0 [0,1,3,4,6,7,8],1,bmK 19 0 [4],1,4611686018427387905⟩
def S84 (n:Nat) (v:Nat->E6) (d:E6) (c:Int) (a:Unit) (j:Nat->V):St:=⟨jsV 19 0 j [(0,.sl 6 n (λi=>eV (v i))),(1,eV d),(3,.ptr 0 0),(4,iV 0),(6,.sl 6 n (λi=>eV (v i))),(7,nV n),(8,iV c)],[.cells [iV d.kind,bV d.ext,bV d.same,iV d.src,iV d.dst,iV d.fence]]⟩
noncomputable def B84 (L:LT):St->T (Ex×St):=λst=>A6 tab ⟨A5 Ajc,L,Gl⟩ (Aw Tryz.f84 0) 0 st
def Y0 (n:Nat) (v:Nat->E6) (d:E6) (i:Nat) (a:Unit):Ex×St:=(.rt,⟨jsV 19 0 Ac [(4,nV i)],[.cells [iV d.kind,bV d.ext,bV d.same,iV d.src,iV d.dst,iV d.fence]]⟩)
def g84 (n:Nat) (v:Nat->E6) (d:E6) (i:Nat) (a:Unit):T ((Unit) ⊕ (Ex×St)):=.br (eqE d (v i)) (.leaf (.inr (Y0 n v d i a))) (.leaf (.inl ()))
def AnG (n:Nat) (v:Nat->E6) (d:E6) (a:Unit):Ex×St:=(.ex 0,⟨jsV 19 0 Ac [(4,iV 0)],[.cells [iV d.kind,bV d.ext,bV d.same,iV d.src,iV d.dst,iV d.fence]]⟩)
theorem r84 (L:LT) (n:Nat) (v:Nat->E6) (d:E6)  (hn:n <= 4611686018427387904) {e:Ex×St} {a:Unit} {j:Nat->V} (h:Ds (g84 n v d) (AnG n v d) n 0 a=some e):(Ax (B84 L) Ant 4611686018427387905 (S84 n v d 0 a j)).sem=some (exR e) :=
 De FF hn (λi a j r hi h=>DK.ok (L:=goR (S84 n v d) exR i) (.k (ofNat_lt hi) <| .k (Af hi) <| .c (λh1=>.k h1 <| .l) λh1=>.k h1 <| .l) (by kernel_rfl) h) (λa j=>DK.ok (C:=.leaf (AnG n v d a)) (L:=exR) (.k (A1 (Nat.le_refl n)) .l) (by kernel_rfl) rfl) (Nat.zero_add _).symm (Nat.lt_succ_of_le hn) h
def Ag8:List (Nat×Lp×List (Nat×(Nat->V))):=[(0,Ant,[])]
theorem p84:As Tryz.prog Gl 84 ixT:=by
 refine Ah A2 mixed Tryz.func84 (by kernel_rfl) (by kernel_rfl) λvs v h' h=>?_;unfold ixT at h;split at h
 ·rename_i u b
  obtain ⟨n,v,ha,h⟩:=Bd h;obtain ⟨g2,h⟩:=Ab h;obtain ⟨hn,h⟩:=Ab h;have hn:n <= 4611686018427387904:=of_decide_eq_true hn;have hx:=Be (Al.nil:Al Tryz.prog Gl Ajc) Ag8 (G:=Gl);refine ⟨[Ap n v,b],cxA Gl Ajc Ag8,_,λS w cs hq=>by
   obtain ⟨c,l,rfl,q1,q2⟩:=hq;exact ⟨c,_,rfl,ha S w c q1,q2⟩,rfl,hx.1,hx.2,?_,Au.refl _⟩
  rw [CG g2];generalize edE b=d at h;have go:∀ i,(g84 n v d i ()).sem=sel (eqQ v d i) (some (.inr (Y0 n v d i ()))) (some (.inl ())):=λi=>rfl;exact DK.ok (L:=λa=>a) (.c (λh1=>.a (r84 (Cp Ag8) n v d hn (j:=λ_=>.und) (IQ (acc:=λ_=>()) (x:=λi=>Y0 n v d i ()) (λi _ hq=>by rw [go,hq]; rfl) (λi _ hq=>by rw [go,hq]; rfl) h1)) .l) λh1=>.a (r84 (Cp Ag8) n v d hn (j:=λ_=>.und) (IP (acc:=λ_=>()) (x:=λi=>Y0 n v d i ()) (λi _ hq=>by rw [go,hq]; rfl) (λi _ hq=>by rw [go,hq]; rfl) h1)) .l) (by kernel_rfl) h
 ·cases h
end Go.Proofs.YtkbgidbledjejaaGreat.En
namespace Go.Proofs.YtkbgidbledjejaaGreat.En
open Go.Sy Go Go.Proofs.YtkbgidbledjejaaGreat.Ed
set_option maxRecDepth 100000
def XJ (n:Nat) (v:Nat->E6) (d:E6):Bool:=AN (isN (A0 (eqQ v d) n 0))
def Ak9:List V->A3
 | [u,b]=>apL u λn v=>.br (okE b) (.br (BX n) (.leaf (bV (XJ n v (edE b)),[])) .fail) .fail
 | _=>.fail
noncomputable def Ajf:AG:=(84,ixT)::[]
theorem AfF:Al Tryz.prog Gl Ajf:=.cons p84 .nil
theorem Apf:As Tryz.prog Gl 60 Ak9:=by
 refine Ah A2 mixed Tryz.func60 (by kernel_rfl) (by kernel_rfl) λvs v h' h=>?_;unfold Ak9 at h;split at h
 ·rename_i u b
  obtain ⟨n,v,ha,h⟩:=Bd h;obtain ⟨g2,h⟩:=Ab h;obtain ⟨hn,h⟩:=Ab h;cases Aa h;have hx:=Be AfF [] (G:=Gl);refine ⟨[Ap n v,b],cxA Gl Ajf [],_,λS w cs hq=>by
   obtain ⟨c,l,rfl,q1,q2⟩:=hq;exact ⟨c,_,rfl,ha S w c q1,q2⟩,rfl,hx.1,hx.2,?_,Au.refl _⟩
  rw [CG g2];show (AL (Ar tab (cxA Gl Ajf []) Tryz.f60 [Ap n v,eV (edE b)] [])).sem=some (bV (XJ n v (edE b)),[]);generalize edE b=d;unfold XJ;cases h1:isN (A0 (eqQ v d) n 0) with
  | true=>exact DW.ok (.k (eL n) <| .k eT <| .k hn <| .k h1 <| .e (congrArg (λb=>(bV b,([]:List Blk))) (show ile 0 (-1)=false from rfl))) (by kernel_rfl)
  | false=>exact DW.ok (.k (eL n) <| .k eT <| .k hn <| .k h1 <| .e (congrArg (λb=>(bV b,([]:List Blk))) (Mc (tO (eqQ v d) n)))) (by kernel_rfl)
 ·cases h
end Go.Proofs.YtkbgidbledjejaaGreat.En
namespace Go.Proofs.YtkbgidbledjejaaGreat.En
open Go.Sy Go Go.Proofs.YtkbgidbledjejaaGreat.Ed
set_option maxRecDepth 100000
noncomputable def Ajj:AG:=(32,Vi)::(59,QR)::(60,Ak9)::(61,U3)::(62,Jq)::[]
theorem AfV:Al Tryz.prog Gl Ajj:=.cons Akh <| .cons p65 <| .cons Apf <| .cons p48 <| .cons p62 <| .nil
def Anx:Lp:=⟨bmK 61 0 [0,1,2,3,8,9,11,31,32,33],1,bmK 61 0 [0,2,3,8,9,11],1,4611686018427387905⟩
def S27 (A n:Int) (k m:Nat) (w d:Nat->E6) (c:Int) (a:Unit) (j:Nat->V):St:=⟨jsV 61 0 j [(0,iV A),(1,.sl 6 k (λi=>eV (w i))),(2,iV n),(3,.sl 6 m (λi=>eV (d i))),(8,bV false),(9,iV 0),(11,.ref 0),(31,.sl 6 m (λi=>eV (d i))),(32,nV m),(33,iV c)],[.row 46 6 m (λi=>eV (M3 m d i))]⟩
noncomputable def B27 (L:LT):St->T (Ex×St):=λst=>A6 tab ⟨A5 Ajj,L,Gl⟩ (Aw Tryz.f27 0) 0 st
def Ab9 (A n:Int) (k m:Nat) (w d:Nat->E6) (i:Nat) (a:Unit):Ex×St:=(.rt,⟨jsV 61 0 Ac [(0,iV A),(2,iV n),(3,.sl 6 m (λi=>eV (d i))),(8,bV false),(9,iV 0),(11,.ref 0)],[.row 46 6 m (λi=>eV (M3 m d i))]⟩)
def g27 (A n:Int) (k m:Nat) (w d:Nat->E6) (i:Nat) (a:Unit):T ((Unit) ⊕ (Ex×St)):=.br (XJ k w (d i)) (.leaf (.inl ())) (.leaf (.inr (Ab9 A n k m w d i a)))
def AnI (A n:Int) (k m:Nat) (w d:Nat->E6) (a:Unit):Ex×St:=(.ex 0,⟨jsV 61 0 Ac [(0,iV A),(2,iV n),(3,.sl 6 m (λi=>eV (d i))),(8,bV false),(9,iV 0),(11,.ref 0)],[.row 46 6 m (λi=>eV (M3 m d i))]⟩)
theorem r27 (L:LT) (A n:Int) (k m:Nat) (w d:Nat->E6) (hk:BX k=true) (hn:m <= 4611686018427387904) {e:Ex×St} {a:Unit} {j:Nat->V} (h:Ds (g27 A n k m w d) (AnI A n k m w d) m 0 a=some e):(Ax (B27 L) Anx 4611686018427387905 (S27 A n k m w d 0 a j)).sem=some (exR e) :=
 De FF hn (λi a j r hi h=>DK.ok (L:=goR (S27 A n k m w d) exR i) (.k (ofNat_lt hi) <| .k (Af hi) <| .k (eL k) <| .k eT <| .k hk <| .c (λh1=>.k (eN h1) <| .l) λh1=>.k (eN h1) <| .l) (by kernel_rfl) h) (λa j=>DK.ok (C:=.leaf (AnI A n k m w d a)) (L:=exR) (.k (A1 (Nat.le_refl m)) .l) (by kernel_rfl) rfl) (Nat.zero_add _).symm (Nat.lt_succ_of_le hn) h
def AaF:List (Nat×Lp×List (Nat×(Nat->V))):=[(0,Anx,[])]
def AdX (A n:Int) (k m:Nat) (w d:Nat->E6):Int:=sel (ieq (E3 A k w n) 0) (sel (BF m d) 0 30) (E3 A k w n)
def AdY (A n:Int) (k m:Nat) (w d:Nat->E6):Bool:=sel (ieq (E3 A k w n) 0) (sel (BF m d) (sel (Dl m λi=>XJ k w (d i)) (sel (ieq (Gr A m d).1 0) (sel (ile (Int.ofNat m) n) (FW m (λi=>M3 m d i) m d) false) false) false) false) false
def AdW:List V->A3
 | [.val (.int .i64 A),u,.val (.int .i64 n),c]=>apL u λk w=>apL c λm d=>.br (BX k) (.br (Cl m) (.leaf (.tup [bV (AdY A n k m w d),iV (AdX A n k m w d)],[])) .fail) .fail
 | _=>.fail
theorem Apm:As Tryz.prog Gl 27 AdW:=by
 refine Ah A2 mixed Tryz.func27 (by kernel_rfl) (by kernel_rfl) λvs v h' h=>?_;unfold AdW at h;split at h
 rotate_left
 ·cases h
 rename_i A u n c;obtain ⟨k,w,ha,h⟩:=Bd h;obtain ⟨m,d,hb,h⟩:=Bd h;obtain ⟨hk,h⟩:=Ab h;obtain ⟨hf,h⟩:=Ab h;cases Aa h;have hf':m * 40 <= 140737488355328:=of_decide_eq_true hf;have hm:BX m=true:=decide_eq_true (by omega);have hn:m <= 4611686018427387904:=by omega
 have hx:=Be AfV AaF (G:=Gl);refine ⟨[iV A,Ap k w,iV n,Ap m d],cxA Gl Ajj AaF,_,λS W cs hq=>by
  obtain ⟨c,l,rfl,q1,c2,l2,rfl,q2,c3,l3,rfl,q3,c4,l4,rfl,q4,q5⟩:=hq;exact ⟨c,_,rfl,q1,c2,_,rfl,ha S W c2 q2,c3,_,rfl,q3,c4,_,rfl,hb S W c4 q4,q5⟩,rfl,hx.1,hx.2,?_,Au.refl _⟩
 have go:∀ i,i<m->(g27 A n k m w d i ()).sem=sel (XJ k w (d i)) (some (.inl ())) (some (.inr (Ab9 A n k m w d i ()))):=λi _=>rfl;unfold AdY AdX;cases h1:ieq (E3 A k w n) 0 with
 | false=>exact DW.ok (.k (eL k) <| .k (eN h1) <| .l) (by kernel_rfl)
 | true =>
  cases h2:BF m d with
  | false=>exact DW.ok (.k (eL k) <| .k (eN h1) <| .k (eL m) <| .k hf <| .k h2 <| .k (show AN (ieq 30 0)=true from rfl) <| .l) (by kernel_rfl)
  | true =>
   cases h3:Dl m λi=>XJ k w (d i) with
   | false=>exact DW.ok (.k (eL k) <| .k (eN h1) <| .k (eL m) <| .k hf <| .k h2 <| .k (eN (eI 0)) <| .a (r27 (Cp AaF) A n k m w d hk hn (j:=λ_=>.und) (AeY (x:=Ab9 A n k m w d 0 ()) go h3)) <| .l) (by kernel_rfl)
   | true =>
    cases h4:ieq (Gr A m d).1 0 with
    | false=>exact DW.ok (.k (eL k) <| .k (eN h1) <| .k (eL m) <| .k hf <| .k h2 <| .k (eN (eI 0)) <| .a (r27 (Cp AaF) A n k m w d hk hn (j:=λ_=>.und) (Tc go h3)) <| .k (eL m) <| .k hf <| .r 5 h4 <| .r 4 eF <| .l) (by kernel_rfl)
    | true =>
     cases h5:ile (Int.ofNat m) n with
     | false=>exact DW.ok (.k (eL k) <| .k (eN h1) <| .k (eL m) <| .k hf <| .k h2 <| .k (eN (eI 0)) <| .a (r27 (Cp AaF) A n k m w d hk hn (j:=λ_=>.und) (Tc go h3)) <| .k (eL m) <| .k hf <| .r 5 h4 <| .r 4 h5 <| .l) (by kernel_rfl)
     | true=>exact DW.ok (.k (eL k) <| .k (eN h1) <| .k (eL m) <| .k hf <| .k h2 <| .k (eN (eI 0)) <| .a (r27 (Cp AaF) A n k m w d hk hn (j:=λ_=>.und) (Tc go h3)) <| .k (eL m) <| .k hf <| .r 5 h4 <| .r 3 h5 <| .r 2 (eL m) <| .k hm <| .k h5 <| .l) (by kernel_rfl)
end Go.Proofs.YtkbgidbledjejaaGreat.En
namespace Go.Proofs.YtkbgidbledjejaaGreat.En
open Go.Sy Go Go.Proofs.YtkbgidbledjejaaGreat.Ed
set_option maxRecDepth 100000
noncomputable def tb18:AG:=(38,sbT)::(9,Uv)::(11,Ahd)::(39,JJ)::(27,AdW)::[]
theorem tb18_ok:Al Tryz.prog Gl tb18:=.cons p38 <| .cons p9 <| .cons p11 <| .cons p69 <| .cons Apm <| .nil
theorem eRr (n:Nat) (x:Nat->E6):BM [.row 46 6 n λi=>eV (x i)]=true:=by
 simp only [BM,Bool.and_true,List.all_eq_true];exact λ_ _=>rfl
theorem eRJ (n:Nat) (l:Nat->Nat) (x:Nat->Nat->E6):BM [.jag ⟨22,1,n,λ_=>.und,0,46,6,λ_=>true,l,λi j=>eV (x i j),none⟩]=true:=by
 simp only [BM,Bool.and_true,List.all_eq_true,Bool.and_eq_true];exact λ_ _=>⟨rfl,λ_ _=>rfl⟩
def awT:List V->A3
 | []=>.leaf (bV true,[])
 | _=>.fail
theorem p18:As Tryz.prog Gl 18 awT:=by
 refine Ah A2 mixed Tryz.func18 (by kernel_rfl) (by kernel_rfl) λvs r h' h=>?_;unfold awT at h;split at h
 rotate_left
 ·cases h
 cases Aa h;have hx:=Be tb18_ok [] (G:=Gl);have w1:Cl 2=true:=by decide
 have w2:BX 2=true:=by decide
 have v1:ieq (Ew 1 2 (psG sbS) 4 9) 0=true:=by rw [Aml]; rfl
 have v2:ieq (Int.ofNat (CL 1 2 (psG sbS) 4 9).length) 1=true:=by rw [Agl.1]; rfl
 have v3:ieq (Int.ofNat ((CL 1 2 (psG sbS) 4 9).getD 0 []).length) 4=true:=by rw [Agl.2]; rfl
 have v4:Av (ile 0 0) (ilt 0 (Int.ofNat (CL 1 2 (psG sbS) 4 9).length))=true:=by rw [Agl.1]; rfl
 have v5:nlt 0 (CL 1 2 (psG sbS) 4 9).length=true:=by rw [Agl.1]; rfl
 have v6:AdY 1 4 2 2 (psG sbS) (BV 2 (psG sbS) 1)=false:=by kernel_rfl
 have v7:ieq (AdX 1 4 2 2 (psG sbS) (BV 2 (psG sbS) 1)) 0=true:=by kernel_rfl
 exact ⟨[],cxA Gl tb18 [],_,By.refl _,rfl,hx.1,hx.2,DW.ok (.k (eL 2) <| .k (eRJ (CL 1 2 (psG sbS) 4 9).length (λi=>((CL 1 2 (psG sbS) 4 9).getD i []).length) (λi t=>((CL 1 2 (psG sbS) 4 9).getD i []).getD t Ca)) <| .k (eG [(CL 1 2 (psG sbS) 4 9).length]) <| .k (eL 2) <| .k (eG [(CL 1 2 (psG sbS) 4 9).length]) <| .k (eL 2) <| .k w1 <| .k (eRr 2 (BV 2 (psG sbS) 1)) <| .k (eG [(CL 1 2 (psG sbS) 4 9).length]) <| .r 2 (eL 2) <| .k w2 <| .k w1 <| .r 4 v1 <| .r 2 v2 <| .k v4 <| .k v2 <| .k v5 <| .k eT <| .k v2 <| .k eT <| .r 2 v2 <| .r 3 v3 <| .r 3 v2 <| .r 3 v1 <| .r 3 (eN v6) <| .e (congrArg (λb=>(bV b,([]:List Blk))) v7)) (by kernel_rfl),Au.refl _⟩
end Go.Proofs.YtkbgidbledjejaaGreat.En
