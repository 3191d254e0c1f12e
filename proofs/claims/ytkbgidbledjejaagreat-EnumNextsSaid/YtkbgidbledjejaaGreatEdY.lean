/-
  Least: where the least turned list begins, as the program walks. No conditions.
-/
import Derived.Test.YtkbgidbledjejaaGreatCyI
import Derived.Test.YtkbgidbledjejaaGreatSyZ
namespace Go.Proofs.YtkbgidbledjejaaGreat.Ed
open Go.Sy
open Int (ofNat)
def XO (r:Nat):Ex×St:=(.rt,⟨jsV 67 0 Ac [(2,nV r)],[]⟩)
def Jz (n:Nat) (h:Nat->Int):Lp:=⟨bmK 67 0 [0,3,4,5,6],1,bmK 67 0 [2],1,3 * n+4⟩
def K1 (n:Nat) (h:Nat->Int) (i t s:Nat) (j:Nat->V):St:=⟨jsV 67 0 j [(0,.sl 1 n (λk=>iV (h k))),(3,nV n),(4,nV i),(5,nV t),(6,nV s)],[]⟩
noncomputable def FR (L:LT):St->T (Ex×St):=λst=>A8 tab ⟨A6 tb0,L,Gl⟩ (A0 (VV 0 900 Tryz.f83) 0) 0 st
section
variable (L:LT) (n:Nat) (h:Nat->Int) (i t s:Nat)  (j:Nat->V)
include L n h i t s j
theorem Ajx (h0:ile (ofNat n) (ofNat i)=true):Ap (FR L) (Jz n h) (K1 n h i t s j)=some (.rt,⟨jsV 67 0 Ac [(2,iV (sel (ilt (sel (ilt (wr .i64 (Ay (ofNat n) 1)) 0) 0 (wr .i64 (Ay (ofNat n) 1))) (sel (ilt (ofNat t) (ofNat i)) (ofNat t) (ofNat i))) (sel (ilt (wr .i64 (Ay (ofNat n) 1)) 0) 0 (wr .i64 (Ay (ofNat n) 1))) (sel (ilt (ofNat t) (ofNat i)) (ofNat t) (ofNat i))))],[]⟩):=by
 exact Ag (ks:=[kn h0,kn h0,kn h0,kn h0,kT,kT,kT,kT,kT]) (by kernel_rfl)
theorem Ajw (h0:ile (ofNat n) (ofNat i)=false) (h1:ile (ofNat n) (ofNat t)=true):Ap (FR L) (Jz n h) (K1 n h i t s j)=some (.rt,⟨jsV 67 0 Ac [(2,iV (sel (ilt (sel (ilt (wr .i64 (Ay (ofNat n) 1)) 0) 0 (wr .i64 (Ay (ofNat n) 1))) (sel (ilt (ofNat t) (ofNat i)) (ofNat t) (ofNat i))) (sel (ilt (wr .i64 (Ay (ofNat n) 1)) 0) 0 (wr .i64 (Ay (ofNat n) 1))) (sel (ilt (ofNat t) (ofNat i)) (ofNat t) (ofNat i))))],[]⟩):=by
 exact Ag (ks:=[kn h0,kn h0,kn h0,kn h0,kn h1,kn h1,kn h1,kn h1,kT]) (by kernel_rfl)
theorem Aju (h0:ile (ofNat n) (ofNat i)=false) (h1:ile (ofNat n) (ofNat t)=false) (h2:ile (ofNat n) (ofNat s)=true):Ap (FR L) (Jz n h) (K1 n h i t s j)=some (.rt,⟨jsV 67 0 Ac [(2,iV (sel (ilt (sel (ilt (wr .i64 (Ay (ofNat n) 1)) 0) 0 (wr .i64 (Ay (ofNat n) 1))) (sel (ilt (ofNat t) (ofNat i)) (ofNat t) (ofNat i))) (sel (ilt (wr .i64 (Ay (ofNat n) 1)) 0) 0 (wr .i64 (Ay (ofNat n) 1))) (sel (ilt (ofNat t) (ofNat i)) (ofNat t) (ofNat i))))],[]⟩):=by
 exact Ag (ks:=[kn h0,kn h0,kn h0,kn h0,kn h1,kn h1,kn h1,kn h1,kn h2]) (by kernel_rfl)
theorem Ajz (h0:ile (ofNat n) (ofNat i)=false) (h1:ile (ofNat n) (ofNat t)=false) (h2:ile (ofNat n) (ofNat s)=false) (h3:ieq (ofNat n) 0=false) (h4:Av (ile 0 (Aw (wr .i64 (Aj (ofNat i) (ofNat s))) (ofNat n))) (ilt (Aw (wr .i64 (Aj (ofNat i) (ofNat s))) (ofNat n)) (ofNat n))=true) (h5:Av (ile 0 (Aw (wr .i64 (Aj (ofNat t) (ofNat s))) (ofNat n))) (ilt (Aw (wr .i64 (Aj (ofNat t) (ofNat s))) (ofNat n)) (ofNat n))=true) (h6:ieq (h (toN (Aw (wr .i64 (Aj (ofNat i) (ofNat s))) (ofNat n)))) (h (toN (Aw (wr .i64 (Aj (ofNat t) (ofNat s))) (ofNat n))))=true):Ap (FR L) (Jz n h) (K1 n h i t s j)=some (.nm,⟨jsV 67 0 Ac [(0,.sl 1 n (λk=>iV (h k))),(3,nV n),(4,nV i),(5,nV t),(6,iV (wr .i64 (Aj (ofNat s) 1)))],[]⟩):=by
 exact Ag (ks:=[kn h0,kn h0,kn h0,kn h0,kn h1,kn h1,kn h1,kn h1,kn h2,kn h3,kn h4,kn h3,kn h5,kn h6]) (by kernel_rfl)
theorem Ajy (h0:ile (ofNat n) (ofNat i)=false) (h1:ile (ofNat n) (ofNat t)=false) (h2:ile (ofNat n) (ofNat s)=false) (h3:ieq (ofNat n) 0=false) (h4:Av (ile 0 (Aw (wr .i64 (Aj (ofNat i) (ofNat s))) (ofNat n))) (ilt (Aw (wr .i64 (Aj (ofNat i) (ofNat s))) (ofNat n)) (ofNat n))=true) (h5:Av (ile 0 (Aw (wr .i64 (Aj (ofNat t) (ofNat s))) (ofNat n))) (ilt (Aw (wr .i64 (Aj (ofNat t) (ofNat s))) (ofNat n)) (ofNat n))=true) (h6:ieq (h (toN (Aw (wr .i64 (Aj (ofNat i) (ofNat s))) (ofNat n)))) (h (toN (Aw (wr .i64 (Aj (ofNat t) (ofNat s))) (ofNat n))))=false) (h7:ilt (h (toN (Aw (wr .i64 (Aj (ofNat t) (ofNat s))) (ofNat n)))) (h (toN (Aw (wr .i64 (Aj (ofNat i) (ofNat s))) (ofNat n))))=true) (h8:ieq (wr .i64 (Aj (ofNat i) (wr .i64 (Aj (ofNat s) 1)))) (ofNat t)=false):Ap (FR L) (Jz n h) (K1 n h i t s j)=some (.nm,⟨jsV 67 0 Ac [(0,.sl 1 n (λk=>iV (h k))),(3,nV n),(4,iV (wr .i64 (Aj (ofNat i) (wr .i64 (Aj (ofNat s) 1))))),(5,nV t),(6,iV 0)],[]⟩):=by
 exact Ag (ks:=[kn h0,kn h0,kn h0,kn h0,kn h1,kn h1,kn h1,kn h1,kn h2,kn h3,kn h4,kn h3,kn h5,kn h6,kn h7,kn h8]) (by kernel_rfl)
theorem Ags (h0:ile (ofNat n) (ofNat i)=false) (h1:ile (ofNat n) (ofNat t)=false) (h2:ile (ofNat n) (ofNat s)=false) (h3:ieq (ofNat n) 0=false) (h4:Av (ile 0 (Aw (wr .i64 (Aj (ofNat i) (ofNat s))) (ofNat n))) (ilt (Aw (wr .i64 (Aj (ofNat i) (ofNat s))) (ofNat n)) (ofNat n))=true) (h5:Av (ile 0 (Aw (wr .i64 (Aj (ofNat t) (ofNat s))) (ofNat n))) (ilt (Aw (wr .i64 (Aj (ofNat t) (ofNat s))) (ofNat n)) (ofNat n))=true) (h6:ieq (h (toN (Aw (wr .i64 (Aj (ofNat i) (ofNat s))) (ofNat n)))) (h (toN (Aw (wr .i64 (Aj (ofNat t) (ofNat s))) (ofNat n))))=false) (h7:ilt (h (toN (Aw (wr .i64 (Aj (ofNat t) (ofNat s))) (ofNat n)))) (h (toN (Aw (wr .i64 (Aj (ofNat i) (ofNat s))) (ofNat n))))=true) (h8:ieq (wr .i64 (Aj (ofNat i) (wr .i64 (Aj (ofNat s) 1)))) (ofNat t)=true):Ap (FR L) (Jz n h) (K1 n h i t s j)=some (.nm,⟨jsV 67 0 Ac [(0,.sl 1 n (λk=>iV (h k))),(3,nV n),(4,iV (wr .i64 (Aj (ofNat i) (wr .i64 (Aj (ofNat s) 1))))),(5,iV (wr .i64 (Aj (ofNat t) 1))),(6,iV 0)],[]⟩):=by
 exact Ag (ks:=[kn h0,kn h0,kn h0,kn h0,kn h1,kn h1,kn h1,kn h1,kn h2,kn h3,kn h4,kn h3,kn h5,kn h6,kn h7,kn h8]) (by kernel_rfl)
theorem Ajv (h0:ile (ofNat n) (ofNat i)=false) (h1:ile (ofNat n) (ofNat t)=false) (h2:ile (ofNat n) (ofNat s)=false) (h3:ieq (ofNat n) 0=false) (h4:Av (ile 0 (Aw (wr .i64 (Aj (ofNat i) (ofNat s))) (ofNat n))) (ilt (Aw (wr .i64 (Aj (ofNat i) (ofNat s))) (ofNat n)) (ofNat n))=true) (h5:Av (ile 0 (Aw (wr .i64 (Aj (ofNat t) (ofNat s))) (ofNat n))) (ilt (Aw (wr .i64 (Aj (ofNat t) (ofNat s))) (ofNat n)) (ofNat n))=true) (h6:ieq (h (toN (Aw (wr .i64 (Aj (ofNat i) (ofNat s))) (ofNat n)))) (h (toN (Aw (wr .i64 (Aj (ofNat t) (ofNat s))) (ofNat n))))=false) (h7:ilt (h (toN (Aw (wr .i64 (Aj (ofNat t) (ofNat s))) (ofNat n)))) (h (toN (Aw (wr .i64 (Aj (ofNat i) (ofNat s))) (ofNat n))))=false) (h8:ieq (ofNat i) (wr .i64 (Aj (ofNat t) (wr .i64 (Aj (ofNat s) 1))))=false):Ap (FR L) (Jz n h) (K1 n h i t s j)=some (.nm,⟨jsV 67 0 Ac [(0,.sl 1 n (λk=>iV (h k))),(3,nV n),(4,nV i),(5,iV (wr .i64 (Aj (ofNat t) (wr .i64 (Aj (ofNat s) 1))))),(6,iV 0)],[]⟩):=by
 exact Ag (ks:=[kn h0,kn h0,kn h0,kn h0,kn h1,kn h1,kn h1,kn h1,kn h2,kn h3,kn h4,kn h3,kn h5,kn h6,kn h7,kn h8]) (by kernel_rfl)
theorem Agr (h0:ile (ofNat n) (ofNat i)=false) (h1:ile (ofNat n) (ofNat t)=false) (h2:ile (ofNat n) (ofNat s)=false) (h3:ieq (ofNat n) 0=false) (h4:Av (ile 0 (Aw (wr .i64 (Aj (ofNat i) (ofNat s))) (ofNat n))) (ilt (Aw (wr .i64 (Aj (ofNat i) (ofNat s))) (ofNat n)) (ofNat n))=true) (h5:Av (ile 0 (Aw (wr .i64 (Aj (ofNat t) (ofNat s))) (ofNat n))) (ilt (Aw (wr .i64 (Aj (ofNat t) (ofNat s))) (ofNat n)) (ofNat n))=true) (h6:ieq (h (toN (Aw (wr .i64 (Aj (ofNat i) (ofNat s))) (ofNat n)))) (h (toN (Aw (wr .i64 (Aj (ofNat t) (ofNat s))) (ofNat n))))=false) (h7:ilt (h (toN (Aw (wr .i64 (Aj (ofNat t) (ofNat s))) (ofNat n)))) (h (toN (Aw (wr .i64 (Aj (ofNat i) (ofNat s))) (ofNat n))))=false) (h8:ieq (ofNat i) (wr .i64 (Aj (ofNat t) (wr .i64 (Aj (ofNat s) 1))))=true):Ap (FR L) (Jz n h) (K1 n h i t s j)=some (.nm,⟨jsV 67 0 Ac [(0,.sl 1 n (λk=>iV (h k))),(3,nV n),(4,nV i),(5,iV (wr .i64 (Aj (wr .i64 (Aj (ofNat t) (wr .i64 (Aj (ofNat s) 1)))) 1))),(6,iV 0)],[]⟩):=by
 exact Ag (ks:=[kn h0,kn h0,kn h0,kn h0,kn h1,kn h1,kn h1,kn h1,kn h2,kn h3,kn h4,kn h3,kn h5,kn h6,kn h7,kn h8]) (by kernel_rfl)
end
def Ain (n:Nat) (h:Nat->Int) :Nat->V:=lkV A5 [(2,iV 0),(9,.sl 1 n (λk=>iV (h k))),(10,nV n)]
theorem AlC (L:LT) (p0:PT) (n:Nat) (h:Nat->Int) (r:Nat)  (hp0:p0 (FR (onP 0 p0 (XO r) L)) (K1 n h 0 1 0 (Ain n h ))=true):(AK (Ar tab ⟨A6 tb0,onP 0 p0 (XO r) L,Gl⟩ (VV 0 900 Tryz.f83) [.sl 1 n (λk=>iV (h k))] [])).sem=some ((nV r),[]):=by
 exact Ag (ks:=[kn hp0]) (by kernel_rfl)
def E8 (n:Nat) (h:Nat->Int):Nat->Nat->Nat->Nat->Nat
 | 0,_,_,_=>0
 | q+1,i,t,s =>
  if n <= i ∨ n <= t ∨ n <= s then min (min i t) (n-1)
  else if h ((i+s) % n)=h ((t+s) % n) then E8 n h q i t (s+1)
  else if h ((t+s) % n)<h ((i+s) % n) then E8 n h q (i+s+1) (if i+s+1=t then t+1 else t) 0
  else E8 n h q i (if i=t+s+1 then t+s+2 else t+s+1) 0
def DI (n:Nat) (h:Nat->Int):Nat:=E8 n h (3 * n+4) 0 1 0
theorem GI {a b:Nat} (h:a+b <= 9223372036854775807):wr .i64 (Aj (ofNat a) (ofNat b))=ofNat (a+b):=by
 unfold wr Aj IntKind.wrap;simp [IntKind.bits,IntKind.signed];omega
theorem OY {a:Nat} (h:a+1 <= 9223372036854775807):wr .i64 (Aj (ofNat a) 1)=ofNat (a+1):=GI (b:=1) h
theorem Ke (a n:Nat):Aw (ofNat a) (ofNat n)=ofNat (a % n):=rfl
theorem FP (a b:Nat):ieq (ofNat a) (ofNat b)=decide (a=b):=by
 simp only [ieq,Int.ofNat_eq_natCast];by_cases h:a=b
 ·simp [h]
 ·rw [decide_eq_false h]
  simp;omega
theorem EM (a b:Nat):ile (ofNat a) (ofNat b)=decide (a <= b):=by
 simp [ile]
theorem EL (a b:Nat):ilt (ofNat a) (ofNat b)=decide (a<b):=by
 simp [ilt]
theorem Akh (n i t:Nat) (hn:n <= 1152921504606846976):sel (ilt (sel (ilt (wr .i64 (Ay (ofNat n) 1)) 0) 0 (wr .i64 (Ay (ofNat n) 1))) (sel (ilt (ofNat t) (ofNat i)) (ofNat t) (ofNat i))) (sel (ilt (wr .i64 (Ay (ofNat n) 1)) 0) 0 (wr .i64 (Ay (ofNat n) 1))) (sel (ilt (ofNat t) (ofNat i)) (ofNat t) (ofNat i))=ofNat (min (min i t) (n-1)):=by
 have h1:wr .i64 (Ay (ofNat n) 1)=(n:Int)-1:=by
  unfold wr Ay IntKind.wrap;simp [IntKind.bits,IntKind.signed];omega
 rw [h1];simp only [sel,ilt,Bool.cond_decide,Int.ofNat_eq_natCast];omega
theorem MW (L:LT) (n:Nat) (h:Nat->Int) (hn:n <= 1152921504606846976):∀ (q i t s:Nat) (j:Nat->V),i <= 2 * n->t <= 2 * n+1->s <= n->3 * n+1-(i+t+s)<q ->
  (Ax (FR L) (Jz n h) q (K1 n h i t s j)).sem=some (XO (E8 n h q i t s))
 | 0,_,_,_,_,_,_,_,h4=>absurd h4 (Nat.not_lt_zero _)
 | q+1,i,t,s,j,hi,ht,hs,h4=>by
  by_cases ci:n <= i
  ·rw [Ae (Ajx L n h i t s j (by rw [EM,decide_eq_true ci])),Un,Akh n i t hn,E8,if_pos (.inl ci)]
   rfl
  ·have ci0:ile (ofNat n) (ofNat i)=false:=by rw [EM,decide_eq_false ci]
   by_cases ct:n <= t
   ·rw [Ae (Ajw L n h i t s j ci0 (by rw [EM,decide_eq_true ct])),Un,Akh n i t hn,E8,if_pos (.inr (.inl ct))]
    rfl
   ·have ct0:ile (ofNat n) (ofNat t)=false:=by rw [EM,decide_eq_false ct]
    by_cases cs:n <= s
    ·rw [Ae (Aju L n h i t s j ci0 ct0 (by rw [EM,decide_eq_true cs])),Un,Akh n i t hn,E8,if_pos (.inr (.inr cs))]
     rfl
    ·have cs0:ile (ofNat n) (ofNat s)=false:=by rw [EM,decide_eq_false cs]
     have cn0:ieq (ofNat n) 0=false:=by
      rw [show (0:Int)=ofNat 0 from rfl,FP,decide_eq_false (by omega)]
     have e1:Aw (wr .i64 (Aj (ofNat i) (ofNat s))) (ofNat n)=ofNat ((i+s) % n):=by rw [GI (by omega),Ke]
     have e2:Aw (wr .i64 (Aj (ofNat t) (ofNat s))) (ofNat n)=ofNat ((t+s) % n):=by rw [GI (by omega),Ke]
     have b1:Av (ile 0 (Aw (wr .i64 (Aj (ofNat i) (ofNat s))) (ofNat n))) (ilt (Aw (wr .i64 (Aj (ofNat i) (ofNat s))) (ofNat n)) (ofNat n))=true:=by
      rw [e1]; exact Af (Nat.mod_lt _ (by omega))
     have b2:Av (ile 0 (Aw (wr .i64 (Aj (ofNat t) (ofNat s))) (ofNat n))) (ilt (Aw (wr .i64 (Aj (ofNat t) (ofNat s))) (ofNat n)) (ofNat n))=true:=by
      rw [e2]; exact Af (Nat.mod_lt _ (by omega))
     have t1:∀ a:Nat,toN (ofNat a)=a:=λ_=>rfl;have u1:wr .i64 (Aj (ofNat i) (wr .i64 (Aj (ofNat s) 1)))=ofNat (i+s+1):=by rw [OY (by omega),GI (by omega)]; rfl
     have u2:wr .i64 (Aj (ofNat t) (wr .i64 (Aj (ofNat s) 1)))=ofNat (t+s+1):=by rw [OY (by omega),GI (by omega)]; rfl
     rw [E8,if_neg (by omega)];by_cases ce:h ((i+s) % n)=h ((t+s) % n)
     ·rw [if_pos ce,Ae (Ajz L n h i t s j ci0 ct0 cs0 cn0 b1 b2 (by rw [e1,e2,t1,t1]; simp [ieq,ce])),AN,OY (by omega)]
      exact MW L n h hn q i t (s+1) Ac hi ht (by omega) (by omega)
     ·have ce0:ieq (h (toN (Aw (wr .i64 (Aj (ofNat i) (ofNat s))) (ofNat n)))) (h (toN (Aw (wr .i64 (Aj (ofNat t) (ofNat s))) (ofNat n))))=false:=by
       rw [e1,e2,t1,t1]; simp [ieq,ce]
      rw [if_neg ce];by_cases cg:h ((t+s) % n)<h ((i+s) % n)
      ·have cg0:ilt (h (toN (Aw (wr .i64 (Aj (ofNat t) (ofNat s))) (ofNat n)))) (h (toN (Aw (wr .i64 (Aj (ofNat i) (ofNat s))) (ofNat n))))=true:=by
        rw [e1,e2,t1,t1]; simp [ilt,cg]
       rw [if_pos cg];by_cases cq:i+s+1=t
       ·rw [if_pos cq,Ae (Ags L n h i t s j ci0 ct0 cs0 cn0 b1 b2 ce0 cg0 (by rw [u1,FP,decide_eq_true cq])),AN,u1,OY (by omega)]
        exact MW L n h hn q (i+s+1) (t+1) 0 Ac (by omega) (by omega) (by omega) (by omega)
       ·rw [if_neg cq,Ae (Ajy L n h i t s j ci0 ct0 cs0 cn0 b1 b2 ce0 cg0 (by rw [u1,FP,decide_eq_false cq])),AN,u1]
        exact MW L n h hn q (i+s+1) t 0 Ac (by omega) (by omega) (by omega) (by omega)
      ·have cg0:ilt (h (toN (Aw (wr .i64 (Aj (ofNat t) (ofNat s))) (ofNat n)))) (h (toN (Aw (wr .i64 (Aj (ofNat i) (ofNat s))) (ofNat n))))=false:=by
        rw [e1,e2,t1,t1]; simp [ilt]; omega
       rw [if_neg cg];by_cases cq:i=t+s+1
       ·rw [if_pos cq,Ae (Agr L n h i t s j ci0 ct0 cs0 cn0 b1 b2 ce0 cg0 (by rw [u2,FP,decide_eq_true cq])),AN,u2,OY (by omega)]
        exact MW L n h hn q i (t+s+2) 0 Ac (by omega) (by omega) (by omega) (by omega)
       ·rw [if_neg cq,Ae (Ajv L n h i t s j ci0 ct0 cs0 cn0 b1 b2 ce0 cg0 (by rw [u2,FP,decide_eq_false cq])),AN,u2]
        exact MW L n h hn q i (t+s+1) 0 Ac (by omega) (by omega) (by omega) (by omega)
def AgY (n:Nat):Bool:=decide (n <= 1152921504606846976)
def leastT:List V->A2:=Ahq λn h=>.br (AgY n) (out (iV (ofNat (DI n h)))) .fail
theorem Apy:As Tryz.prog Gl 83 leastT:=by
 refine Vm (p:=match Tryz.f83.body with | some (.seq p _)=>p | _=>.skip) (c:=match Tryz.f83.body with | some (.seq _ (.scope c))=>c | _=>.skip) (d:=match (match Tryz.f83.body with | some (.seq _ (.scope c))=>G3 0 c | _=>none) with | some d=>d | none=>.skip) Az mixed Tryz.func83 0 900 (by kernel_rfl) (by kernel_rfl) (by kernel_rfl) (by kernel_rfl) λvs v h' h=>?_
 obtain ⟨n,f,ha,h1⟩:=Tg h;obtain ⟨hn,hq⟩:=Ab h1;have:=Aa hq;simp only [Prod.mk.injEq] at this;obtain ⟨rfl,rfl⟩:=this;have hn:n <= 1152921504606846976:=by simpa [AgY] using hn
 have hx:=Bm Hy [(0,Jz n f)];exact ⟨_,BP Gl tb0 [(0,Jz n f)],_,ha,rfl,hx.1,hx.2,Bp (Bn (AW _) (AW _)) _ (AlC _ _ n f _ (AP (MW _ n f hn (3 * n+4) 0 1 0 (Ain n f) (by omega) (by omega) (by omega) (by omega)))),Au.refl _⟩
end Go.Proofs.YtkbgidbledjejaaGreat.Ed
namespace Go.Proofs.YtkbgidbledjejaaGreat.Ed
open Go.Sy
open Int (ofNat)
theorem KV (n m:Nat) (gx g:Nat->V) (i:Nat) (h:i<n+m):BY n m gx g i=bif Nat.blt i n then gx i else g (i-n):=by
 cases hb:Nat.blt i n with
 | true=>exact Qy n m gx g i (Nat.blt_eq ▸ hb)
 | false =>
  have h1:n <= i:=by
   rcases Nat.lt_or_ge i n with h2 | h2
   ·rw [show Nat.blt i n=true from Nat.blt_eq ▸ h2] at hb; cases hb
   ·exact h2
  have:=Qz n m gx g (i-n) (by omega);rw [show n+(i-n)=i by omega] at this;exact this
theorem WJ {α:Type} (n k:Nat) (z:Nat->V) (h:Nat->α) (e:α->V) (hk:k<n ∨ n=0∧k=0):Bh (Bh 0 (FF n k)) k=n∧∀ j,j<n ->
  BY (Bh 0 (FF n k)) k (BY 0 (FF n k) z (λi=>e (h (Bh k i)))) (λi=>e (h i)) j=e (h ((k+j) % n)):=by
 have h1:Bh 0 (FF n k)=n-k:=by simp [Bh,FF]
 have h2:FF n k=n-k:=rfl;refine ⟨by rw [h1]; show n-k+k=n; omega,λj hj=>?_⟩;rw [h1,h2,KV _ _ _ _ j (by omega)];cases hb:Nat.blt j (n-k) with
 | true =>have hb:j<n-k:=Nat.blt_eq ▸ hb;show BY 0 (n-k) z (λi=>e (h (Bh k i))) j=_;rw [KV _ _ _ _ j (by omega)];show e (h (k+(j-0)))=_;rw [Nat.mod_eq_of_lt (by omega),Nat.sub_zero]
 | false =>
  have hb:n-k <= j:=by
   rcases Nat.lt_or_ge j (n-k) with h3 | h3
   ·rw [show Nat.blt j (n-k)=true from Nat.blt_eq ▸ h3] at hb; cases hb
   ·exact h3
  show e (h (j-(n-k)))=_;rw [show k+j=j-(n-k)+n by omega,Nat.add_mod_right,Nat.mod_eq_of_lt (by omega)]
def N5 (n:Nat):Bool:=decide (n * 8 <= 140737488355328)
theorem Eg {n:Nat} (h:N5 n=true):n <= 4611686018427387904:=by
 have h:n * 8 <= 140737488355328:=of_decide_eq_true h;omega
theorem Ak8 {n:Nat} (h:N5 n=true):AgY n=true:=by
 have h:n * 8 <= 140737488355328:=of_decide_eq_true h;exact decide_eq_true (by omega)
theorem HB {n:Nat} (h:BG n=true):N5 n=true:=by
 have h:n * 40 <= 140737488355328:=of_decide_eq_true h;exact decide_eq_true (by omega)
theorem Ns (n:Nat) (h:Nat->Int):∀ q i t s,E8 n h q i t s <= n-1
 | 0,_,_,_=>Nat.zero_le _
 | q+1,i,t,s=>by
  unfold E8;split
  ·omega
  ·split
   ·exact Ns n h q _ _ _
   ·split <;> exact Ns n h q _ _ _
theorem AaI (n:Nat) (h:Nat->Int):DI n h <= n-1:=Ns n h _ _ _ _
theorem AaH (n:Nat) (h:Nat->Int):DI n h<n ∨ n=0∧DI n h=0:=by
 have:=AaI n h;omega
def Qg (n:Nat) (f:Nat->E6):Lp:=⟨bmK 28 0 [0,2,3,4,9,10,11],2,bmK 28 0 [2,3,4],4,n+1⟩
def UW (n:Nat) (f:Nat->E6) (i k:Nat) (x:Nat->V) (j:Nat->V):St:=⟨jsV 28 0 j [(0,.sl 6 n λi=>eV (f i)),(2,.ref 0),(3,iV 0),(4,.ref 1),(9,.sl 6 n λi=>eV (f i)),(10,nV n),(11,nV i)],[.row 3 1 0 λ_=>.und,.row 3 1 k x]⟩
def Yb (n:Nat) (f:Nat->E6) (i k:Nat) (x:Nat->V):Ex×St:=(.ex 0,⟨jsV 28 0 Ac [(2,.ref 0),(3,iV 0),(4,.ref 1)],[.row 3 1 0 λ_=>.und,.row 3 1 k x]⟩)
def Ya (n:Nat) (f:Nat->E6) (i k:Nat) (x:Nat->V):Ex×St:=(.rt,⟨jsV 28 0 Ac [(2,.ref 3),(3,iV 30),(4,.ref 1)],[.row 3 1 0 λ_=>.und,.row 3 1 k x,.cells [iV (f i).kind,bV (f i).ext,bV (f i).same,iV (f i).src,iV (f i).dst,iV (f i).fence],.row 3 1 0 λ_=>.und]⟩)
noncomputable def MA (L:LT):St->T (Ex×St):=λst=>A8 tab ⟨A6 tb8,L,Gl⟩ (A0 Tryz.f82 0) 0 st
theorem LF (L:LT) (n:Nat) (f:Nat->E6) (i k:Nat) (x:Nat->V) (j:Nat->V):Ap (MA L) (Qg n f) (UW n f i k x j)
 = (sel (ilt (ofNat i) (ofNat n)) (sel (Av (ile 0 (ofNat i)) (ilt (ofNat i) (ofNat n))) (sel (AL (ieq (AB (f i)) 0)) (some (.rt,⟨[.und,.und,.ref 3,iV 30,.ref 1,.und,.und,.und,.und,.und,.und,.und,.und,.und,.und,.und,.und,.und,.und,.und,.und,.und,.und,.und,.und,.und,.und,.und],[.row 3 1 0 Ac,.row 3 1 k x,.cells [iV (f i).kind,bV (f i).ext,bV (f i).same,iV (f i).src,iV (f i).dst,iV (f i).fence],.row 3 1 0 Ac]⟩)) (sel (Ci k 1 8) (some (.nm,⟨[.sl 6 n (λi=>eV (f i)),.und,.ref 0,iV 0,.ref 1,.und,.und,.und,.und,.sl 6 n (λi=>eV (f i)),nV n,iV (wr .i64 (Aj (ofNat i) 1)),.und,.und,.und,.und,.und,.und,.und,.und,.und,.und,.und,.und,.und,.und,.und,.und],[.row 3 1 0 Ac,.row 3 1 (Bh k 1) (AA k x (iV (Al (f i))))]⟩)) none)) none) (some ((.ex 0),⟨[.und,.und,.ref 0,iV 0,.ref 1,.und,.und,.und,.und,.und,.und,.und,.und,.und,.und,.und,.und,.und,.und,.und,.und,.und,.und,.und,.und,.und,.und,.und],[.row 3 1 0 Ac,.row 3 1 k x]⟩))):=by kernel_rfl
def Zj (n:Nat) (f:Nat->E6) :Nat->V:=lkV A5 []
section
variable (L:LT) (p0:PT) (n:Nat) (f:Nat->E6) (i k:Nat) (x:Nat->V)
include L p0 n f i k x
theorem AiM  (hp0:p0 (MA (onP 0 p0 (Yb n f i k x) L)) (UW n f 0 0 Ac (Zj n f ))=true):(AK (Ar tab ⟨A6 tb8,onP 0 p0 (Yb n f i k x) L,Gl⟩ Tryz.f82 [Am n f] [])).sem=some ((.tup [.ref 0,iV 0]),[.row 3 1 k x]):=by
 exact Ag (ks:=[kn hp0]) (by kernel_rfl)
theorem AiL  (hp0:p0 (MA (onP 0 p0 (Ya n f i k x) L)) (UW n f 0 0 Ac (Zj n f ))=true):(AK (Ar tab ⟨A6 tb8,onP 0 p0 (Ya n f i k x) L,Gl⟩ Tryz.f82 [Am n f] [])).sem=some ((.tup [.ref 0,iV 30]),[.row 3 1 0 Ac]):=by
 exact Ag (ks:=[kn hp0]) (by kernel_rfl)
end
theorem YE (L:LT) (n:Nat) (f:Nat->E6) (hn:BG n=true) (ho:∀ t,t<n->AB (f t)=0):∀ (d i:Nat) (j:Nat->V) (q:Nat),n=i+d->d<q ->
  (Ax (MA L) (Qg n f) q (UW n f i i (BN (cdV f) i) j)).sem=some (Yb n f 0 n (BN (cdV f) n))
 | 0,i,j,q+1,h1,_=>by
  have hi:i=n:=by omega
  subst hi;rw [Ae (LF L i f i i _ j),A4 (Nat.le_refl i)];rfl
 | d+1,i,j,q+1,h1,h2=>by
  have hi:i<n:=by omega
  rw [Ae (LF L n f i i _ j),Af hi,ofNat_lt hi,NG hi (by decide) (of_decide_eq_true hn),AY hi (Ey hn),ho i hi];exact YE L n f hn ho d (i+1) Ac q (by omega) (by omega)
theorem YD (L:LT) (n:Nat) (f:Nat->E6) (hn:BG n=true) (e:Nat) (he:e<n) (hb:AB (f e)=30) (ho:∀ t,t<e->AB (f t)=0):∀ (d i:Nat) (j:Nat->V) (q:Nat),e=i+d->d<q ->
  (Ax (MA L) (Qg n f) q (UW n f i i (BN (cdV f) i) j)).sem=some (Ya n f e e (BN (cdV f) e))
 | 0,i,j,q+1,h1,_=>by
  have hi:i=e:=by omega
  subst hi;rw [Ae (LF L n f i i _ j),Af he,ofNat_lt he,hb];rfl
 | d+1,i,j,q+1,h1,h2=>by
  have hi:i<n:=by omega
  rw [Ae (LF L n f i i _ j),Af hi,ofNat_lt hi,NG hi (by decide) (of_decide_eq_true hn),AY hi (Ey hn),ho i (by omega)];exact YD L n f hn e he hb ho d (i+1) Ac q (by omega) (by omega)
theorem Apz:As Tryz.prog Gl 82 U1:=by
 refine Ah Az mixed Tryz.func82 (by kernel_rfl) (by kernel_rfl) λvs v h' h=>?_;obtain ⟨n,f,ha,h⟩:=CH h;obtain ⟨hn,h⟩:=Ab h;have hx:=Bm Po [(0,Qg n f)];cases hm:By n f with
 | true =>
  rw [hm] at h;have:=Aa h;simp only [Prod.mk.injEq] at this;obtain ⟨rfl,rfl⟩:=this;exact ⟨_,cx9 [(0,Qg n f)],_,ha,rfl,hx.1,hx.2,Bp (Bn (AW _) (AW _)) _ (AiM _ _ n f 0 n _ (AP (YE _ n f hn (Bw.1 hm) n 0 (Zj n f) (n+1) (by omega) (by omega)))),
   Au.one λj hj=>(HQ (cdV f) n j hj).symm⟩
 | false =>rw [hm] at h;have:=Aa h;simp only [Prod.mk.injEq] at this;obtain ⟨rfl,rfl⟩:=this;obtain ⟨e,h1,h2,h3⟩:=PW hm;have hw:=Bp (Bn (AW _) (AW _)) _ (AiL (B9 [(0,Qg n f)]) _ n f e e _ (AP (YD _ n f hn e h1 h2 h3 e 0 (Zj n f) (n+1) (by omega) (by omega))));exact ⟨_,cx9 [(0,Qg n f)],_,ha,rfl,hx.1,hx.2,hw,Au.refl _⟩
theorem Tf {n m b:Nat} (h:(n+m) * b <= 140737488355328):Ci n m b=true:=decide_eq_true h
noncomputable def tb65:AH:=(82,U1)::(83,leastT)::[]
theorem tb65_ok:Ao Tryz.prog Gl tb65:=.cons Apz <| .cons Apy .nil
def AhM (n:Nat) (f:Nat->E6) (k:Nat):Blk:=.row 46 6 (Bh (Bh 0 (FF n k)) k) (BY (Bh 0 (FF n k)) k (BY 0 (FF n k) (λ_=>eV Bv) (λi=>eV (f (Bh k i)))) (λi=>eV (f i)))
theorem Al8 (L:LT) (n:Nat) (f:Nat->E6) (h0:BG n=true) (h1:By n f=true) (h2:AgY n=true) (h3:F2 40 0 (ofNat n)=true) (h13:Av (ile 0 (ofNat (DI n (λi=>Al (f i))))) (ile (ofNat (DI n (λi=>Al (f i)))) (ofNat n))=true) (h14:Ci 0 (FF n (DI n (λi=>Al (f i)))) 40=true) (h15:Ci (Bh 0 (FF n (DI n (λi=>Al (f i))))) (DI n (λi=>Al (f i))) 40=true):(AK (Ar tab ⟨A6 tb65,L,Gl⟩ Tryz.f59 [Am n f] [])).sem=some ((.tup [.ref 0,iV 0]),[AhM n f (DI n (λi=>Al (f i)))]):=by
 exact Ag (ks:=[kL n,kn h0,kn h1,kN (kI 0),kL n,kn h2,kn h3,kn h13,kn h14,kn h13,kn h15]) (by kernel_rfl)
def JB (n:Nat) (f:Nat->E6) (i:Nat):E6:=f ((DI n (λi=>Al (f i))+i) % n)
def Yq:List V->A2:=NI λn f=>.br (BG n) (.br (By n f) (.leaf (.tup [.ref 0,iV 0],[.row 46 6 n λi=>eV (JB n f i)])) (.leaf (.tup [.ref 0,iV 30],[.row 46 6 0 λ_=>.und]))) .fail
theorem p65:As Tryz.prog Gl 59 Yq:=by
 refine Ah Az mixed Tryz.func59 (by kernel_rfl) (by kernel_rfl) λvs v h' h=>?_;obtain ⟨n,f,ha,h⟩:=CH h;obtain ⟨hn,h⟩:=Ab h;have hx:=Bm tb65_ok [];cases hm:By n f with
 | true =>
  rw [hm] at h;have:=Aa h;simp only [Prod.mk.injEq] at this;obtain ⟨rfl,rfl⟩:=this;have hn':n * 40 <= 140737488355328:=of_decide_eq_true hn;have hk:=AaH n (λi=>Al (f i));have e3:∀ k,Bh 0 (FF n k)=n-k:=λk=>by simp [Bh,FF]
  have hw:=Al8 (B9 []) n f hn hm (Ak8 (HB hn)) (by
    simp only [F2,Bool.and_eq_true,decide_eq_true_eq,Int.ofNat_eq_natCast]; omega) (by
    rw [EM,show (0:Int)=ofNat 0 from rfl,EM]; simp [Av]; omega) (by
    exact Tf (by show (0+(n-DI n (λi=>Al (f i)))) * 40 <= _; omega)) (by
    rw [e3]; exact Tf (by omega))
  obtain ⟨r1,r2⟩:=WJ n (DI n (λi=>Al (f i))) (λ_=>eV Bv) f eV hk;unfold AhM at hw;rw [r1] at hw;exact ⟨_,BP Gl tb65 [],_,ha,rfl,hx.1,hx.2,hw,Au.one λj hj=>(r2 j hj).symm⟩
 | false =>rw [hm] at h;have:=Aa h;simp only [Prod.mk.injEq] at this;obtain ⟨rfl,rfl⟩:=this;exact ⟨_,BP Gl tb65 [],_,ha,rfl,hx.1,hx.2,Ag (ks:=[kL n,kn hn,kn hm,kN (⟨ieq 30 0,false,rfl⟩)]) (by kernel_rfl)/-W:wc65n-/,Au.refl _⟩
theorem e42 (Γ:Cx) (vs:List V) (h:List Blk):Ar tab Γ Tryz.f21 vs h=Ar tab Γ Tryz.f21 vs h:=by kernel_rfl
theorem p42:As Tryz.prog Gl 21 P3:=by
 refine Ah Az mixed Tryz.func21 (by kernel_rfl) (by kernel_rfl) λvs v h' h=>?_;obtain ⟨n,f,m,g,ha,h⟩:=NH h;obtain ⟨hn,h⟩:=Ab h;have:=Aa h;simp only [Prod.mk.injEq] at this;obtain ⟨rfl,rfl⟩:=this;have hx:=Bm Po [(0,Qd n)];exact ⟨_,cx9 [(0,Qd n)],_,ha,rfl,hx.1,hx.2,by rw [e42]; exact Ajt n m f g (of_decide_eq_true hn),Au.refl _⟩
theorem Ahj {a b:E6} (ha:AB a=0) (hb:AB b=0) (h:Al a=Al b):a=b:=by
 rcases BK a with ⟨k,_,_,h1,h2,_⟩ | ⟨h1,_⟩
 ·rcases BK b with ⟨l,_,_,h3,h4,_⟩ | ⟨h3,_⟩
  ·rw [h1,h3] at h
   have:=Int.ofNat.inj h;rw [<- h2,<- h4,this]
  ·rw [hb] at h3; cases h3
 ·rw [ha] at h1; cases h1
theorem CM {n:Nat} {f:Nat->E6} {m:Nat} {g:Nat->E6}:EB n f m g=true↔n=m∧∀ i,i<n->f i=g i:=by
 unfold EB;rw [FP];by_cases h:n=m
 ·rw [decide_eq_true h]
  show FI f g n 0=true↔_;rw [IP];exact ⟨λh1=>⟨h,λi hi=>h1 i (Nat.zero_le _) (by omega)⟩,λh1 j _ h3=>h1.2 j (by omega)⟩
 ·rw [decide_eq_false h]
  exact ⟨λh=>(by cases h),λh1=>absurd h1.1 h⟩
def A1 (q:Nat->Bool):Nat->Nat->Option Nat
 | 0,_=>none
 | d+1,i=>match q i with
  | true=>some i
  | false=>A1 q d (i+1)
theorem Fl {q:Nat->Bool} {d i:Nat} (h:q i=true):A1 q (d+1) i=some i:=by rw [A1,h]
theorem Gc {q:Nat->Bool} {d i:Nat} (h:q i=false):A1 q (d+1) i=A1 q d (i+1):=by rw [A1,h]
theorem CP {q p:Nat->Bool}:∀ d i,(∀ k,i <= k->k<i+d->q k=p k)->A1 q d i=A1 p d i
 | 0,_,_=>rfl
 | d+1,i,h=>by
  rw [A1,A1,h i (Nat.le_refl _) (by omega),CP d (i+1) λk h1 h2=>h k (by omega) (by omega)]
theorem Eh {q:Nat->Bool}:∀ {d i t:Nat},A1 q d i=some t->i <= t∧t<i+d∧q t=true
 | 0,_,_,h=>by cases h
 | d+1,i,t,h=>by
  cases hq:q i with
  | true =>rw [Fl hq] at h;simp only [Option.some.injEq] at h;subst h;exact ⟨Nat.le_refl _,by omega,hq⟩
  | false =>rw [Gc hq] at h;have:=Eh h;exact ⟨by omega,by omega,this.2.2⟩
theorem Cz {a b:Int} (h:ieq a b=true):a=b:=by simpa [ieq] using h
end Go.Proofs.YtkbgidbledjejaaGreat.Ed
namespace Go.Proofs.YtkbgidbledjejaaGreat.Ed
open Go.Sy Go
theorem N1 {σ ρ:Type} {g:Nat->σ->T (σ ⊕ ρ)} {fin:σ->ρ} {q:Nat->Bool} {acc:Nat->σ} {x:Nat->ρ} {n:Nat} (hc:∀ i,i<n->q i=false->(g i (acc i)).sem=some (.inl (acc (i+1))))
  (hx:∀ i,i<n->q i=true->(g i (acc i)).sem=some (.inr (x i))):∀ d i,i+d=n->DO g fin d i (acc i)=some (match A1 q d i with
   | none=>fin (acc n)
   | some t=>x t)
 | 0,i,h=>by rw [<- h]; rfl
 | d+1,i,h=>by
  rw [DO];cases hq:q i with
  | false =>rw [hc i (by omega) hq,Gc hq];exact N1 hc hx d (i+1) (by omega)
  | true=>rw [hx i (by omega) hq,Fl hq]
def isN (o:Option Nat):Bool:=match o with
 | none=>true
 | some _=>false
def tO (q:Nat->Bool) (n:Nat):Nat:=match A1 q n 0 with
 | some t=>t
 | none=>0
def nO (q:Nat->Bool) (n:Nat):V:=iV (Int.ofNat (tO q n))
section
variable {σ ρ:Type} {g:Nat->σ->T (σ ⊕ ρ)} {fin:σ->ρ} {q:Nat->Bool} {acc:Nat->σ} {x:Nat->ρ} {n:Nat} (hc:∀ i,i<n->q i=false->(g i (acc i)).sem=some (.inl (acc (i+1))))
  (hx:∀ i,i<n->q i=true->(g i (acc i)).sem=some (.inr (x i)))
include hc hx
theorem IO (h:isN (A1 q n 0)=true):DO g fin n 0 (acc 0)=some (fin (acc n)):=by
 rw [N1 hc hx n 0 (Nat.zero_add n)];cases hq:A1 q n 0 with
 | none=>rfl
 | some t=>rw [hq] at h; cases h
theorem IN (h:isN (A1 q n 0)=false):DO g fin n 0 (acc 0)=some (x (tO q n)):=by
 rw [N1 hc hx n 0 (Nat.zero_add n)];unfold tO;cases hq:A1 q n 0 with
 | none=>rw [hq] at h; cases h
 | some t=>rfl
end
end Go.Proofs.YtkbgidbledjejaaGreat.Ed
