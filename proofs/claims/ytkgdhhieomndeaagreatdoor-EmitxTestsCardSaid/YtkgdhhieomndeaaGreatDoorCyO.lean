/-
  Least: where the least turned list begins, as the program walks. No conditions.
-/
import Derived.Test.YtkgdhhieomndeaaGreatDoorCyI
namespace Go.Proofs.YtkgdhhieomndeaaGreatDoor.Ed
open Go.Sy
open Int (ofNat)
def VT (r:Nat):Ex×St:=(.rt,⟨jsV 67 0 Aa [(2,nV r)],[]⟩)
def If (n:Nat) (h:Nat->Int):Lp:=⟨bmK 67 0 [0,3,4,5,6],1,bmK 67 0 [2],1,3 * n+4⟩
def Jo (n:Nat) (h:Nat->Int) (i t s:Nat) (j:Nat->V):St:=⟨jsV 67 0 j [(0,.sl 1 n (λk=>iV (h k))),(3,nV n),(4,nV i),(5,nV t),(6,nV s)],[]⟩
noncomputable def E7 (L:LT):St->T (Ex×St):=λst=>A7 tab ⟨Ap tb0,L,Gl⟩ (Ar (TN 0 900 Tryz.f38) 0) 0 st
section
variable (L:LT) (n:Nat) (h:Nat->Int) (i t s:Nat)  (j:Nat->V)
include L n h i t s j
theorem AhK (h0:ile (ofNat n) (ofNat i)=true):Ah (E7 L) (If n h) (Jo n h i t s j)=some (.rt,⟨jsV 67 0 Aa [(2,iV (sel (ilt (sel (ilt (wr .i64 (A5 (ofNat n) 1)) 0) 0 (wr .i64 (A5 (ofNat n) 1))) (sel (ilt (ofNat t) (ofNat i)) (ofNat t) (ofNat i))) (sel (ilt (wr .i64 (A5 (ofNat n) 1)) 0) 0 (wr .i64 (A5 (ofNat n) 1))) (sel (ilt (ofNat t) (ofNat i)) (ofNat t) (ofNat i))))],[]⟩):=by
 exact Ab (ks:=[kn h0,kn h0,kn h0,kn h0,kT,kT,kT,kT,kT]) (by kernel_rfl)
theorem AhJ (h0:ile (ofNat n) (ofNat i)=false) (h1:ile (ofNat n) (ofNat t)=true):Ah (E7 L) (If n h) (Jo n h i t s j)=some (.rt,⟨jsV 67 0 Aa [(2,iV (sel (ilt (sel (ilt (wr .i64 (A5 (ofNat n) 1)) 0) 0 (wr .i64 (A5 (ofNat n) 1))) (sel (ilt (ofNat t) (ofNat i)) (ofNat t) (ofNat i))) (sel (ilt (wr .i64 (A5 (ofNat n) 1)) 0) 0 (wr .i64 (A5 (ofNat n) 1))) (sel (ilt (ofNat t) (ofNat i)) (ofNat t) (ofNat i))))],[]⟩):=by
 exact Ab (ks:=[kn h0,kn h0,kn h0,kn h0,kn h1,kn h1,kn h1,kn h1,kT]) (by kernel_rfl)
theorem AhH (h0:ile (ofNat n) (ofNat i)=false) (h1:ile (ofNat n) (ofNat t)=false) (h2:ile (ofNat n) (ofNat s)=true):Ah (E7 L) (If n h) (Jo n h i t s j)=some (.rt,⟨jsV 67 0 Aa [(2,iV (sel (ilt (sel (ilt (wr .i64 (A5 (ofNat n) 1)) 0) 0 (wr .i64 (A5 (ofNat n) 1))) (sel (ilt (ofNat t) (ofNat i)) (ofNat t) (ofNat i))) (sel (ilt (wr .i64 (A5 (ofNat n) 1)) 0) 0 (wr .i64 (A5 (ofNat n) 1))) (sel (ilt (ofNat t) (ofNat i)) (ofNat t) (ofNat i))))],[]⟩):=by
 exact Ab (ks:=[kn h0,kn h0,kn h0,kn h0,kn h1,kn h1,kn h1,kn h1,kn h2]) (by kernel_rfl)
theorem AhM (h0:ile (ofNat n) (ofNat i)=false) (h1:ile (ofNat n) (ofNat t)=false) (h2:ile (ofNat n) (ofNat s)=false) (h3:ieq (ofNat n) 0=false) (h4:Al (ile 0 (Ag (wr .i64 (Af (ofNat i) (ofNat s))) (ofNat n))) (ilt (Ag (wr .i64 (Af (ofNat i) (ofNat s))) (ofNat n)) (ofNat n))=true) (h5:Al (ile 0 (Ag (wr .i64 (Af (ofNat t) (ofNat s))) (ofNat n))) (ilt (Ag (wr .i64 (Af (ofNat t) (ofNat s))) (ofNat n)) (ofNat n))=true) (h6:ieq (h (toN (Ag (wr .i64 (Af (ofNat i) (ofNat s))) (ofNat n)))) (h (toN (Ag (wr .i64 (Af (ofNat t) (ofNat s))) (ofNat n))))=true):Ah (E7 L) (If n h) (Jo n h i t s j)=some (.nm,⟨jsV 67 0 Aa [(0,.sl 1 n (λk=>iV (h k))),(3,nV n),(4,nV i),(5,nV t),(6,iV (wr .i64 (Af (ofNat s) 1)))],[]⟩):=by
 exact Ab (ks:=[kn h0,kn h0,kn h0,kn h0,kn h1,kn h1,kn h1,kn h1,kn h2,kn h3,kn h4,kn h3,kn h5,kn h6]) (by kernel_rfl)
theorem AhL (h0:ile (ofNat n) (ofNat i)=false) (h1:ile (ofNat n) (ofNat t)=false) (h2:ile (ofNat n) (ofNat s)=false) (h3:ieq (ofNat n) 0=false) (h4:Al (ile 0 (Ag (wr .i64 (Af (ofNat i) (ofNat s))) (ofNat n))) (ilt (Ag (wr .i64 (Af (ofNat i) (ofNat s))) (ofNat n)) (ofNat n))=true) (h5:Al (ile 0 (Ag (wr .i64 (Af (ofNat t) (ofNat s))) (ofNat n))) (ilt (Ag (wr .i64 (Af (ofNat t) (ofNat s))) (ofNat n)) (ofNat n))=true) (h6:ieq (h (toN (Ag (wr .i64 (Af (ofNat i) (ofNat s))) (ofNat n)))) (h (toN (Ag (wr .i64 (Af (ofNat t) (ofNat s))) (ofNat n))))=false) (h7:ilt (h (toN (Ag (wr .i64 (Af (ofNat t) (ofNat s))) (ofNat n)))) (h (toN (Ag (wr .i64 (Af (ofNat i) (ofNat s))) (ofNat n))))=true) (h8:ieq (wr .i64 (Af (ofNat i) (wr .i64 (Af (ofNat s) 1)))) (ofNat t)=false):Ah (E7 L) (If n h) (Jo n h i t s j)=some (.nm,⟨jsV 67 0 Aa [(0,.sl 1 n (λk=>iV (h k))),(3,nV n),(4,iV (wr .i64 (Af (ofNat i) (wr .i64 (Af (ofNat s) 1))))),(5,nV t),(6,iV 0)],[]⟩):=by
 exact Ab (ks:=[kn h0,kn h0,kn h0,kn h0,kn h1,kn h1,kn h1,kn h1,kn h2,kn h3,kn h4,kn h3,kn h5,kn h6,kn h7,kn h8]) (by kernel_rfl)
theorem AdZ (h0:ile (ofNat n) (ofNat i)=false) (h1:ile (ofNat n) (ofNat t)=false) (h2:ile (ofNat n) (ofNat s)=false) (h3:ieq (ofNat n) 0=false) (h4:Al (ile 0 (Ag (wr .i64 (Af (ofNat i) (ofNat s))) (ofNat n))) (ilt (Ag (wr .i64 (Af (ofNat i) (ofNat s))) (ofNat n)) (ofNat n))=true) (h5:Al (ile 0 (Ag (wr .i64 (Af (ofNat t) (ofNat s))) (ofNat n))) (ilt (Ag (wr .i64 (Af (ofNat t) (ofNat s))) (ofNat n)) (ofNat n))=true) (h6:ieq (h (toN (Ag (wr .i64 (Af (ofNat i) (ofNat s))) (ofNat n)))) (h (toN (Ag (wr .i64 (Af (ofNat t) (ofNat s))) (ofNat n))))=false) (h7:ilt (h (toN (Ag (wr .i64 (Af (ofNat t) (ofNat s))) (ofNat n)))) (h (toN (Ag (wr .i64 (Af (ofNat i) (ofNat s))) (ofNat n))))=true) (h8:ieq (wr .i64 (Af (ofNat i) (wr .i64 (Af (ofNat s) 1)))) (ofNat t)=true):Ah (E7 L) (If n h) (Jo n h i t s j)=some (.nm,⟨jsV 67 0 Aa [(0,.sl 1 n (λk=>iV (h k))),(3,nV n),(4,iV (wr .i64 (Af (ofNat i) (wr .i64 (Af (ofNat s) 1))))),(5,iV (wr .i64 (Af (ofNat t) 1))),(6,iV 0)],[]⟩):=by
 exact Ab (ks:=[kn h0,kn h0,kn h0,kn h0,kn h1,kn h1,kn h1,kn h1,kn h2,kn h3,kn h4,kn h3,kn h5,kn h6,kn h7,kn h8]) (by kernel_rfl)
theorem AhI (h0:ile (ofNat n) (ofNat i)=false) (h1:ile (ofNat n) (ofNat t)=false) (h2:ile (ofNat n) (ofNat s)=false) (h3:ieq (ofNat n) 0=false) (h4:Al (ile 0 (Ag (wr .i64 (Af (ofNat i) (ofNat s))) (ofNat n))) (ilt (Ag (wr .i64 (Af (ofNat i) (ofNat s))) (ofNat n)) (ofNat n))=true) (h5:Al (ile 0 (Ag (wr .i64 (Af (ofNat t) (ofNat s))) (ofNat n))) (ilt (Ag (wr .i64 (Af (ofNat t) (ofNat s))) (ofNat n)) (ofNat n))=true) (h6:ieq (h (toN (Ag (wr .i64 (Af (ofNat i) (ofNat s))) (ofNat n)))) (h (toN (Ag (wr .i64 (Af (ofNat t) (ofNat s))) (ofNat n))))=false) (h7:ilt (h (toN (Ag (wr .i64 (Af (ofNat t) (ofNat s))) (ofNat n)))) (h (toN (Ag (wr .i64 (Af (ofNat i) (ofNat s))) (ofNat n))))=false) (h8:ieq (ofNat i) (wr .i64 (Af (ofNat t) (wr .i64 (Af (ofNat s) 1))))=false):Ah (E7 L) (If n h) (Jo n h i t s j)=some (.nm,⟨jsV 67 0 Aa [(0,.sl 1 n (λk=>iV (h k))),(3,nV n),(4,nV i),(5,iV (wr .i64 (Af (ofNat t) (wr .i64 (Af (ofNat s) 1))))),(6,iV 0)],[]⟩):=by
 exact Ab (ks:=[kn h0,kn h0,kn h0,kn h0,kn h1,kn h1,kn h1,kn h1,kn h2,kn h3,kn h4,kn h3,kn h5,kn h6,kn h7,kn h8]) (by kernel_rfl)
theorem AdY (h0:ile (ofNat n) (ofNat i)=false) (h1:ile (ofNat n) (ofNat t)=false) (h2:ile (ofNat n) (ofNat s)=false) (h3:ieq (ofNat n) 0=false) (h4:Al (ile 0 (Ag (wr .i64 (Af (ofNat i) (ofNat s))) (ofNat n))) (ilt (Ag (wr .i64 (Af (ofNat i) (ofNat s))) (ofNat n)) (ofNat n))=true) (h5:Al (ile 0 (Ag (wr .i64 (Af (ofNat t) (ofNat s))) (ofNat n))) (ilt (Ag (wr .i64 (Af (ofNat t) (ofNat s))) (ofNat n)) (ofNat n))=true) (h6:ieq (h (toN (Ag (wr .i64 (Af (ofNat i) (ofNat s))) (ofNat n)))) (h (toN (Ag (wr .i64 (Af (ofNat t) (ofNat s))) (ofNat n))))=false) (h7:ilt (h (toN (Ag (wr .i64 (Af (ofNat t) (ofNat s))) (ofNat n)))) (h (toN (Ag (wr .i64 (Af (ofNat i) (ofNat s))) (ofNat n))))=false) (h8:ieq (ofNat i) (wr .i64 (Af (ofNat t) (wr .i64 (Af (ofNat s) 1))))=true):Ah (E7 L) (If n h) (Jo n h i t s j)=some (.nm,⟨jsV 67 0 Aa [(0,.sl 1 n (λk=>iV (h k))),(3,nV n),(4,nV i),(5,iV (wr .i64 (Af (wr .i64 (Af (ofNat t) (wr .i64 (Af (ofNat s) 1)))) 1))),(6,iV 0)],[]⟩):=by
 exact Ab (ks:=[kn h0,kn h0,kn h0,kn h0,kn h1,kn h1,kn h1,kn h1,kn h2,kn h3,kn h4,kn h3,kn h5,kn h6,kn h7,kn h8]) (by kernel_rfl)
end
def Ag4 (n:Nat) (h:Nat->Int) :Nat->V:=lkV A9 [(2,iV 0),(9,.sl 1 n (λk=>iV (h k))),(10,nV n)]
theorem Akv (L:LT) (p0:PT) (n:Nat) (h:Nat->Int) (r:Nat)  (hp0:p0 (E7 (onP 0 p0 (VT r) L)) (Jo n h 0 1 0 (Ag4 n h ))=true):(Az (Ak tab ⟨Ap tb0,onP 0 p0 (VT r) L,Gl⟩ (TN 0 900 Tryz.f38) [.sl 1 n (λk=>iV (h k))] [])).sem=some ((nV r),[]):=by
 exact Ab (ks:=[kn hp0]) (by kernel_rfl)
def Er (n:Nat) (h:Nat->Int):Nat->Nat->Nat->Nat->Nat
 | 0,_,_,_=>0
 | q+1,i,t,s =>
  if n <= i ∨ n <= t ∨ n <= s then min (min i t) (n-1)
  else if h ((i+s) % n)=h ((t+s) % n) then Er n h q i t (s+1)
  else if h ((t+s) % n)<h ((i+s) % n) then Er n h q (i+s+1) (if i+s+1=t then t+1 else t) 0
  else Er n h q i (if i=t+s+1 then t+s+2 else t+s+1) 0
def CZ (n:Nat) (h:Nat->Int):Nat:=Er n h (3 * n+4) 0 1 0
theorem D8 {a b:Nat} (h:a+b <= 9223372036854775807):wr .i64 (Af (ofNat a) (ofNat b))=ofNat (a+b):=by
 unfold wr Af IntKind.wrap;simp [IntKind.bits,IntKind.signed];omega
theorem Lu {a:Nat} (h:a+1 <= 9223372036854775807):wr .i64 (Af (ofNat a) 1)=ofNat (a+1):=D8 (b:=1) h
theorem CO (a n:Nat):Ag (ofNat a) (ofNat n)=ofNat (a % n):=rfl
theorem Ds (a b:Nat):ieq (ofNat a) (ofNat b)=decide (a=b):=by
 simp only [ieq,Int.ofNat_eq_natCast];by_cases h:a=b
 ·simp [h]
 ·rw [decide_eq_false h]
  simp;omega
theorem ile_nat (a b:Nat):ile (ofNat a) (ofNat b)=decide (a <= b):=by
 simp [ile]
theorem BV (a b:Nat):ilt (ofNat a) (ofNat b)=decide (a<b):=by
 simp [ilt]
theorem AiV (n i t:Nat) (hn:n <= 1152921504606846976):sel (ilt (sel (ilt (wr .i64 (A5 (ofNat n) 1)) 0) 0 (wr .i64 (A5 (ofNat n) 1))) (sel (ilt (ofNat t) (ofNat i)) (ofNat t) (ofNat i))) (sel (ilt (wr .i64 (A5 (ofNat n) 1)) 0) 0 (wr .i64 (A5 (ofNat n) 1))) (sel (ilt (ofNat t) (ofNat i)) (ofNat t) (ofNat i))=ofNat (min (min i t) (n-1)):=by
 have h1:wr .i64 (A5 (ofNat n) 1)=(n:Int)-1:=by
  unfold wr A5 IntKind.wrap;simp [IntKind.bits,IntKind.signed];omega
 rw [h1];simp only [sel,ilt,Bool.cond_decide,Int.ofNat_eq_natCast];omega
theorem L8 (L:LT) (n:Nat) (h:Nat->Int) (hn:n <= 1152921504606846976):∀ (q i t s:Nat) (j:Nat->V),i <= 2 * n->t <= 2 * n+1->s <= n->3 * n+1-(i+t+s)<q ->
  (A3 (E7 L) (If n h) q (Jo n h i t s j)).sem=some (VT (Er n h q i t s))
 | 0,_,_,_,_,_,_,_,h4=>absurd h4 (Nat.not_lt_zero _)
 | q+1,i,t,s,j,hi,ht,hs,h4=>by
  by_cases ci:n <= i
  ·rw [Ae (AhK L n h i t s j (by rw [ile_nat,decide_eq_true ci])),IR,AiV n i t hn,Er,if_pos (.inl ci)]
   rfl
  ·have ci0:ile (ofNat n) (ofNat i)=false:=by rw [ile_nat,decide_eq_false ci]
   by_cases ct:n <= t
   ·rw [Ae (AhJ L n h i t s j ci0 (by rw [ile_nat,decide_eq_true ct])),IR,AiV n i t hn,Er,if_pos (.inr (.inl ct))]
    rfl
   ·have ct0:ile (ofNat n) (ofNat t)=false:=by rw [ile_nat,decide_eq_false ct]
    by_cases cs:n <= s
    ·rw [Ae (AhH L n h i t s j ci0 ct0 (by rw [ile_nat,decide_eq_true cs])),IR,AiV n i t hn,Er,if_pos (.inr (.inr cs))]
     rfl
    ·have cs0:ile (ofNat n) (ofNat s)=false:=by rw [ile_nat,decide_eq_false cs]
     have cn0:ieq (ofNat n) 0=false:=by
      rw [show (0:Int)=ofNat 0 from rfl,Ds,decide_eq_false (by omega)]
     have e1:Ag (wr .i64 (Af (ofNat i) (ofNat s))) (ofNat n)=ofNat ((i+s) % n):=by rw [D8 (by omega),CO]
     have e2:Ag (wr .i64 (Af (ofNat t) (ofNat s))) (ofNat n)=ofNat ((t+s) % n):=by rw [D8 (by omega),CO]
     have b1:Al (ile 0 (Ag (wr .i64 (Af (ofNat i) (ofNat s))) (ofNat n))) (ilt (Ag (wr .i64 (Af (ofNat i) (ofNat s))) (ofNat n)) (ofNat n))=true:=by
      rw [e1]; exact Ao (Nat.mod_lt _ (by omega))
     have b2:Al (ile 0 (Ag (wr .i64 (Af (ofNat t) (ofNat s))) (ofNat n))) (ilt (Ag (wr .i64 (Af (ofNat t) (ofNat s))) (ofNat n)) (ofNat n))=true:=by
      rw [e2]; exact Ao (Nat.mod_lt _ (by omega))
     have t1:∀ a:Nat,toN (ofNat a)=a:=λ_=>rfl;have u1:wr .i64 (Af (ofNat i) (wr .i64 (Af (ofNat s) 1)))=ofNat (i+s+1):=by rw [Lu (by omega),D8 (by omega)]; rfl
     have u2:wr .i64 (Af (ofNat t) (wr .i64 (Af (ofNat s) 1)))=ofNat (t+s+1):=by rw [Lu (by omega),D8 (by omega)]; rfl
     rw [Er,if_neg (by omega)];by_cases ce:h ((i+s) % n)=h ((t+s) % n)
     ·rw [if_pos ce,Ae (AhM L n h i t s j ci0 ct0 cs0 cn0 b1 b2 (by rw [e1,e2,t1,t1]; simp [ieq,ce])),Ay,Lu (by omega)]
      exact L8 L n h hn q i t (s+1) Aa hi ht (by omega) (by omega)
     ·have ce0:ieq (h (toN (Ag (wr .i64 (Af (ofNat i) (ofNat s))) (ofNat n)))) (h (toN (Ag (wr .i64 (Af (ofNat t) (ofNat s))) (ofNat n))))=false:=by
       rw [e1,e2,t1,t1]; simp [ieq,ce]
      rw [if_neg ce];by_cases cg:h ((t+s) % n)<h ((i+s) % n)
      ·have cg0:ilt (h (toN (Ag (wr .i64 (Af (ofNat t) (ofNat s))) (ofNat n)))) (h (toN (Ag (wr .i64 (Af (ofNat i) (ofNat s))) (ofNat n))))=true:=by
        rw [e1,e2,t1,t1]; simp [ilt,cg]
       rw [if_pos cg];by_cases cq:i+s+1=t
       ·rw [if_pos cq,Ae (AdZ L n h i t s j ci0 ct0 cs0 cn0 b1 b2 ce0 cg0 (by rw [u1,Ds,decide_eq_true cq])),Ay,u1,Lu (by omega)]
        exact L8 L n h hn q (i+s+1) (t+1) 0 Aa (by omega) (by omega) (by omega) (by omega)
       ·rw [if_neg cq,Ae (AhL L n h i t s j ci0 ct0 cs0 cn0 b1 b2 ce0 cg0 (by rw [u1,Ds,decide_eq_false cq])),Ay,u1]
        exact L8 L n h hn q (i+s+1) t 0 Aa (by omega) (by omega) (by omega) (by omega)
      ·have cg0:ilt (h (toN (Ag (wr .i64 (Af (ofNat t) (ofNat s))) (ofNat n)))) (h (toN (Ag (wr .i64 (Af (ofNat i) (ofNat s))) (ofNat n))))=false:=by
        rw [e1,e2,t1,t1]; simp [ilt]; omega
       rw [if_neg cg];by_cases cq:i=t+s+1
       ·rw [if_pos cq,Ae (AdY L n h i t s j ci0 ct0 cs0 cn0 b1 b2 ce0 cg0 (by rw [u2,Ds,decide_eq_true cq])),Ay,u2,Lu (by omega)]
        exact L8 L n h hn q i (t+s+2) 0 Aa (by omega) (by omega) (by omega) (by omega)
       ·rw [if_neg cq,Ae (AhI L n h i t s j ci0 ct0 cs0 cn0 b1 b2 ce0 cg0 (by rw [u2,Ds,decide_eq_false cq])),Ay,u2]
        exact L8 L n h hn q i (t+s+1) 0 Aa (by omega) (by omega) (by omega) (by omega)
def Afi (n:Nat):Bool:=decide (n <= 1152921504606846976)
def Ab2:List V->AR:=Aft λn h=>.br (Afi n) (out (iV (ofNat (CZ n h)))) .fail
theorem p102:Ax Tryz.prog Gl 38 Ab2:=by
 refine Tl (p:=match Tryz.f38.body with | some (.seq p _)=>p | _=>.skip) (c:=match Tryz.f38.body with | some (.seq _ (.scope c))=>c | _=>.skip) (d:=match (match Tryz.f38.body with | some (.seq _ (.scope c))=>Fs 0 c | _=>none) with | some d=>d | none=>.skip) A8 mixed Tryz.func38 0 900 (by kernel_rfl) (by kernel_rfl) (by kernel_rfl) (by kernel_rfl) λvs v h' h=>?_
 obtain ⟨n,f,ha,h1⟩:=QD h;obtain ⟨hn,hq⟩:=Ad h1;have:=Ac hq;simp only [Prod.mk.injEq] at this;obtain ⟨rfl,rfl⟩:=this;have hn:n <= 1152921504606846976:=by simpa [Afi] using hn
 have hx:=AI C8 [(0,If n f)];exact ⟨_,AC Gl tb0 [(0,If n f)],_,ha,rfl,hx.1,hx.2,AH (AA (AL _) (AL _)) _ (Akv _ _ n f _ (Au (L8 _ n f hn (3 * n+4) 0 1 0 (Ag4 n f) (by omega) (by omega) (by omega) (by omega)))),Aw.refl _⟩
end Go.Proofs.YtkgdhhieomndeaaGreatDoor.Ed
namespace Go.Proofs.YtkgdhhieomndeaaGreatDoor.Ed
open Go.Sy
open Int (ofNat)
theorem O4 (n m:Nat) (gx g:Nat->V) (i:Nat) (h:i<n+m):Bn n m gx g i=bif Nat.blt i n then gx i else g (i-n):=by
 cases hb:Nat.blt i n with
 | true=>exact Hz n m gx g i (Nat.blt_eq ▸ hb)
 | false =>
  have h1:n <= i:=by
   rcases Nat.lt_or_ge i n with h2 | h2
   ·rw [show Nat.blt i n=true from Nat.blt_eq ▸ h2] at hb; cases hb
   ·exact h2
  have:=JC n m gx g (i-n) (by omega);rw [show n+(i-n)=i by omega] at this;exact this
theorem U9 {α:Type} (n k:Nat) (z:Nat->V) (h:Nat->α) (e:α->V) (hk:k<n ∨ n=0∧k=0):AS (AS 0 (Ic n k)) k=n∧∀ j,j<n ->
  Bn (AS 0 (Ic n k)) k (Bn 0 (Ic n k) z (λi=>e (h (AS k i)))) (λi=>e (h i)) j=e (h ((k+j) % n)):=by
 have h1:AS 0 (Ic n k)=n-k:=by simp [AS,Ic]
 have h2:Ic n k=n-k:=rfl;refine ⟨by rw [h1]; show n-k+k=n; omega,λj hj=>?_⟩;rw [h1,h2,O4 _ _ _ _ j (by omega)];cases hb:Nat.blt j (n-k) with
 | true =>have hb:j<n-k:=Nat.blt_eq ▸ hb;show Bn 0 (n-k) z (λi=>e (h (AS k i))) j=_;rw [O4 _ _ _ _ j (by omega)];show e (h (k+(j-0)))=_;rw [Nat.mod_eq_of_lt (by omega),Nat.sub_zero]
 | false =>
  have hb:n-k <= j:=by
   rcases Nat.lt_or_ge j (n-k) with h3 | h3
   ·rw [show Nat.blt j (n-k)=true from Nat.blt_eq ▸ h3] at hb; cases hb
   ·exact h3
  show e (h (j-(n-k)))=_;rw [show k+j=j-(n-k)+n by omega,Nat.add_mod_right,Nat.mod_eq_of_lt (by omega)]
def Ea (n:Nat):Bool:=decide (n * 8 <= 140737488355328)
theorem DE {n:Nat} (h:Ea n=true):n <= 4611686018427387904:=by
 have h:n * 8 <= 140737488355328:=of_decide_eq_true h;omega
theorem VQ {n:Nat} (h:Ea n=true):Aj n=true:=decide_eq_true (DE h)
theorem Ajo {n:Nat} (h:Ea n=true):Afi n=true:=by
 have h:n * 8 <= 140737488355328:=of_decide_eq_true h;exact decide_eq_true (by omega)
theorem FG {n:Nat} (h:BF n=true):Ea n=true:=by
 have h:n * 40 <= 140737488355328:=of_decide_eq_true h;exact decide_eq_true (by omega)
theorem LK (n:Nat) (h:Nat->Int):∀ q i t s,Er n h q i t s <= n-1
 | 0,_,_,_=>Nat.zero_le _
 | q+1,i,t,s=>by
  unfold Er;split
  ·omega
  ·split
   ·exact LK n h q _ _ _
   ·split <;> exact LK n h q _ _ _
theorem YH (n:Nat) (h:Nat->Int):CZ n h <= n-1:=LK n h _ _ _ _
theorem Qj (n:Nat) (h:Nat->Int):CZ n h<n ∨ n=0∧CZ n h=0:=by
 have:=YH n h;omega
def Ou (n:Nat) (f:Nat->E6):Lp:=⟨bmK 28 0 [0,2,3,4,9,10,11],2,bmK 28 0 [2,3,4],4,n+1⟩
def SO (n:Nat) (f:Nat->E6) (i k:Nat) (x:Nat->V) (j:Nat->V):St:=⟨jsV 28 0 j [(0,.sl 6 n λi=>eV (f i)),(2,.ref 0),(3,iV 0),(4,.ref 1),(9,.sl 6 n λi=>eV (f i)),(10,nV n),(11,nV i)],[.row 3 1 0 λ_=>.und,.row 3 1 k x]⟩
def Wn (n:Nat) (f:Nat->E6) (i k:Nat) (x:Nat->V):Ex×St:=(.ex 0,⟨jsV 28 0 Aa [(2,.ref 0),(3,iV 0),(4,.ref 1)],[.row 3 1 0 λ_=>.und,.row 3 1 k x]⟩)
def Wm (n:Nat) (f:Nat->E6) (i k:Nat) (x:Nat->V):Ex×St:=(.rt,⟨jsV 28 0 Aa [(2,.ref 3),(3,iV 30),(4,.ref 1)],[.row 3 1 0 λ_=>.und,.row 3 1 k x,.cells [iV (f i).kind,bV (f i).ext,bV (f i).same,iV (f i).src,iV (f i).dst,iV (f i).fence],.row 3 1 0 λ_=>.und]⟩)
noncomputable def Lf (L:LT):St->T (Ex×St):=λst=>A7 tab ⟨Ap tb8,L,Gl⟩ (Ar Tryz.f37 0) 0 st
theorem Kl (L:LT) (n:Nat) (f:Nat->E6) (i k:Nat) (x:Nat->V) (j:Nat->V):Ah (Lf L) (Ou n f) (SO n f i k x j)
 = (sel (ilt (ofNat i) (ofNat n)) (sel (Al (ile 0 (ofNat i)) (ilt (ofNat i) (ofNat n))) (sel (A6 (ieq (Bc (f i)) 0)) (some (.rt,⟨[.und,.und,.ref 3,iV 30,.ref 1,.und,.und,.und,.und,.und,.und,.und,.und,.und,.und,.und,.und,.und,.und,.und,.und,.und,.und,.und,.und,.und,.und,.und],[.row 3 1 0 Aa,.row 3 1 k x,.cells [iV (f i).kind,bV (f i).ext,bV (f i).same,iV (f i).src,iV (f i).dst,iV (f i).fence],.row 3 1 0 Aa]⟩)) (sel (Ba k 1 8) (some (.nm,⟨[.sl 6 n (λi=>eV (f i)),.und,.ref 0,iV 0,.ref 1,.und,.und,.und,.und,.sl 6 n (λi=>eV (f i)),nV n,iV (wr .i64 (Af (ofNat i) 1)),.und,.und,.und,.und,.und,.und,.und,.und,.und,.und,.und,.und,.und,.und,.und,.und],[.row 3 1 0 Aa,.row 3 1 (AS k 1) (As k x (iV (BJ (f i))))]⟩)) none)) none) (some ((.ex 0),⟨[.und,.und,.ref 0,iV 0,.ref 1,.und,.und,.und,.und,.und,.und,.und,.und,.und,.und,.und,.und,.und,.und,.und,.und,.und,.und,.und,.und,.und,.und,.und],[.row 3 1 0 Aa,.row 3 1 k x]⟩))):=by kernel_rfl
def Xu (n:Nat) (f:Nat->E6) :Nat->V:=lkV A9 []
section
variable (L:LT) (p0:PT) (n:Nat) (f:Nat->E6) (i k:Nat) (x:Nat->V)
include L p0 n f i k x
theorem Ahl  (hp0:p0 (Lf (onP 0 p0 (Wn n f i k x) L)) (SO n f 0 0 Aa (Xu n f ))=true):(Az (Ak tab ⟨Ap tb8,onP 0 p0 (Wn n f i k x) L,Gl⟩ Tryz.f37 [AQ n f] [])).sem=some ((.tup [.ref 0,iV 0]),[.row 3 1 k x]):=by
 exact Ab (ks:=[kn hp0]) (by kernel_rfl)
theorem Ahk  (hp0:p0 (Lf (onP 0 p0 (Wm n f i k x) L)) (SO n f 0 0 Aa (Xu n f ))=true):(Az (Ak tab ⟨Ap tb8,onP 0 p0 (Wm n f i k x) L,Gl⟩ Tryz.f37 [AQ n f] [])).sem=some ((.tup [.ref 0,iV 30]),[.row 3 1 0 Aa]):=by
 exact Ab (ks:=[kn hp0]) (by kernel_rfl)
end
theorem WR (L:LT) (n:Nat) (f:Nat->E6) (hn:BF n=true) (ho:∀ t,t<n->Bc (f t)=0):∀ (d i:Nat) (j:Nat->V) (q:Nat),n=i+d->d<q ->
  (A3 (Lf L) (Ou n f) q (SO n f i i (Br (cdV f) i) j)).sem=some (Wn n f 0 n (Br (cdV f) n))
 | 0,i,j,q+1,h1,_=>by
  have hi:i=n:=by omega
  subst hi;rw [Ae (Kl L i f i i _ j),A1 (Nat.le_refl i)];rfl
 | d+1,i,j,q+1,h1,h2=>by
  have hi:i<n:=by omega
  rw [Ae (Kl L n f i i _ j),Ao hi,ofNat_lt hi,Sq hi (by decide) (of_decide_eq_true hn),Aq hi (IS hn),ho i hi];exact WR L n f hn ho d (i+1) Aa q (by omega) (by omega)
theorem WQ (L:LT) (n:Nat) (f:Nat->E6) (hn:BF n=true) (e:Nat) (he:e<n) (hb:Bc (f e)=30) (ho:∀ t,t<e->Bc (f t)=0):∀ (d i:Nat) (j:Nat->V) (q:Nat),e=i+d->d<q ->
  (A3 (Lf L) (Ou n f) q (SO n f i i (Br (cdV f) i) j)).sem=some (Wm n f e e (Br (cdV f) e))
 | 0,i,j,q+1,h1,_=>by
  have hi:i=e:=by omega
  subst hi;rw [Ae (Kl L n f i i _ j),Ao he,ofNat_lt he,hb];rfl
 | d+1,i,j,q+1,h1,h2=>by
  have hi:i<n:=by omega
  rw [Ae (Kl L n f i i _ j),Ao hi,ofNat_lt hi,Sq hi (by decide) (of_decide_eq_true hn),Aq hi (IS hn),ho i (by omega)];exact WQ L n f hn e he hb ho d (i+1) Aa q (by omega) (by omega)
theorem Ao5:Ax Tryz.prog Gl 37 Ac9:=by
 refine Am A8 mixed Tryz.func37 (by kernel_rfl) (by kernel_rfl) λvs v h' h=>?_;obtain ⟨n,f,ha,h⟩:=Ct h;obtain ⟨hn,h⟩:=Ad h;have hx:=AI QK [(0,Ou n f)];cases hm:Co n f with
 | true =>
  rw [hm] at h;have:=Ac h;simp only [Prod.mk.injEq] at this;obtain ⟨rfl,rfl⟩:=this;exact ⟨_,cx9 [(0,Ou n f)],_,ha,rfl,hx.1,hx.2,AH (AA (AL _) (AL _)) _ (Ahl _ _ n f 0 n _ (Au (WR _ n f hn (EF.1 hm) n 0 (Xu n f) (n+1) (by omega) (by omega)))),
   Aw.one λj hj=>(F9 (cdV f) n j hj).symm⟩
 | false =>rw [hm] at h;have:=Ac h;simp only [Prod.mk.injEq] at this;obtain ⟨rfl,rfl⟩:=this;obtain ⟨e,h1,h2,h3⟩:=V8 hm;have hw:=AH (AA (AL _) (AL _)) _ (Ahk (AW [(0,Ou n f)]) _ n f e e _ (Au (WQ _ n f hn e h1 h2 h3 e 0 (Xu n f) (n+1) (by omega) (by omega))));exact ⟨_,cx9 [(0,Ou n f)],_,ha,rfl,hx.1,hx.2,hw,Aw.refl _⟩
def AfG (n:Nat) (h:Nat->Int) (k i:Nat):Int:=h ((k+i) % n)
theorem BS {n m b:Nat} (h:(n+m) * b <= 140737488355328):Ba n m b=true:=decide_eq_true h
def Ana (f g:Nat->Int):Nat->Nat->Ordering
 | 0,_=>.eq
 | d+1,i=>if f i<g i then .lt else if g i<f i then .gt else Ana f g d (i+1)
def AoX (n:Nat) (f:Nat->Int) (m:Nat) (g:Nat->Int):Int :=
 match Ana f g (min n m) 0 with
 | .lt=>-1
 | .gt=>1
 | .eq=>if n<m then -1 else if m<n then 1 else 0
def Aaq (n:Nat) (f:Nat->Int) (m:Nat) (g:Nat->Int):Bool:=sel (ieq (ofNat n) (ofNat m)) (ieq (AoX n (AfG n f (CZ n f)) m (AfG m g (CZ m g))) 0) false
def sameTT:List V->AR:=AoY λn f m g=>.br (Ea n) (.br (Ea m) (out (bV (Aaq n f m g))) .fail) .fail
noncomputable def Adz:AP:=(37,Ac9)::(38,Ab2)::[]
theorem Ady:Av Tryz.prog Gl Adz:=.cons Ao5 <| .cons p102 .nil
def Agb (n:Nat) (f:Nat->E6) (k:Nat):Blk:=.row 92 6 (AS (AS 0 (Ic n k)) k) (Bn (AS 0 (Ic n k)) k (Bn 0 (Ic n k) (λ_=>eV E8) (λi=>eV (f (AS k i)))) (λi=>eV (f i)))
theorem Akn (L:LT) (n:Nat) (f:Nat->E6) (h0:BF n=true) (h1:Co n f=true) (h2:Afi n=true) (h3:DA 40 0 (ofNat n)=true) (h13:Al (ile 0 (ofNat (CZ n (λi=>BJ (f i))))) (ile (ofNat (CZ n (λi=>BJ (f i)))) (ofNat n))=true) (h14:Ba 0 (Ic n (CZ n (λi=>BJ (f i)))) 40=true) (h15:Ba (AS 0 (Ic n (CZ n (λi=>BJ (f i))))) (CZ n (λi=>BJ (f i))) 40=true):(Az (Ak tab ⟨Ap Adz,L,Gl⟩ Tryz.f17 [AQ n f] [])).sem=some ((.tup [.ref 0,iV 0]),[Agb n f (CZ n (λi=>BJ (f i)))]):=by
 exact Ab (ks:=[kL n,kn h0,kn h1,kN (kI 0),kL n,kn h2,kn h3,kn h13,kn h14,kn h13,kn h15]) (by kernel_rfl)
def AV (n:Nat) (f:Nat->E6) (i:Nat):E6:=f ((CZ n (λi=>BJ (f i))+i) % n)
def H7:List V->AR:=FT λn f=>.br (BF n) (.br (Co n f) (.leaf (.tup [.ref 0,iV 0],[.row 92 6 n λi=>eV (AV n f i)])) (.leaf (.tup [.ref 0,iV 30],[.row 92 6 0 λ_=>.und]))) .fail
theorem p65:Ax Tryz.prog Gl 17 H7:=by
 refine Am A8 mixed Tryz.func17 (by kernel_rfl) (by kernel_rfl) λvs v h' h=>?_;obtain ⟨n,f,ha,h⟩:=Ct h;obtain ⟨hn,h⟩:=Ad h;have hx:=AI Ady [];cases hm:Co n f with
 | true =>
  rw [hm] at h;have:=Ac h;simp only [Prod.mk.injEq] at this;obtain ⟨rfl,rfl⟩:=this;have hn':n * 40 <= 140737488355328:=of_decide_eq_true hn;have hk:=Qj n (λi=>BJ (f i));have e3:∀ k,AS 0 (Ic n k)=n-k:=λk=>by simp [AS,Ic]
  have hw:=Akn (AW []) n f hn hm (Ajo (FG hn)) (by
    simp only [DA,Bool.and_eq_true,decide_eq_true_eq,Int.ofNat_eq_natCast]; omega) (by
    rw [ile_nat,show (0:Int)=ofNat 0 from rfl,ile_nat]; simp [Al]; omega) (by
    exact BS (by show (0+(n-CZ n (λi=>BJ (f i)))) * 40 <= _; omega)) (by
    rw [e3]; exact BS (by omega))
  obtain ⟨r1,r2⟩:=U9 n (CZ n (λi=>BJ (f i))) (λ_=>eV E8) f eV hk;unfold Agb at hw;rw [r1] at hw;exact ⟨_,AC Gl Adz [],_,ha,rfl,hx.1,hx.2,hw,Aw.one λj hj=>(r2 j hj).symm⟩
 | false =>rw [hm] at h;have:=Ac h;simp only [Prod.mk.injEq] at this;obtain ⟨rfl,rfl⟩:=this;exact ⟨_,AC Gl Adz [],_,ha,rfl,hx.1,hx.2,Ab (ks:=[kL n,kn hn,kn hm,kN (⟨ieq 30 0,false,rfl⟩)]) (by kernel_rfl),Aw.refl _⟩
def Ms (n:Nat) (f:Nat->E6) (m:Nat) (g:Nat->E6):Bool:=Aaq n (λi=>BJ (f i)) m (λi=>BJ (g i))
theorem e42 (Γ:Cx) (vs:List V) (h:List Blk):Ak tab Γ Tryz.f29 vs h=Ak tab Γ Tryz.f29 vs h:=by kernel_rfl
theorem p42:Ax Tryz.prog Gl 29 WK:=by
 refine Am A8 mixed Tryz.func29 (by kernel_rfl) (by kernel_rfl) λvs v h' h=>?_;obtain ⟨n,f,m,g,ha,h⟩:=Zq h;obtain ⟨hn,h⟩:=Ad h;have:=Ac h;simp only [Prod.mk.injEq] at this;obtain ⟨rfl,rfl⟩:=this;have hx:=AI QK [(0,lp36 n)];exact ⟨_,cx9 [(0,lp36 n)],_,ha,rfl,hx.1,hx.2,by rw [e42]; exact Ah7 n m f g (of_decide_eq_true hn),Aw.refl _⟩
theorem Afo {a b:E6} (ha:Bc a=0) (hb:Bc b=0) (h:BJ a=BJ b):a=b:=by
 rcases DP a with ⟨k,_,_,h1,h2,_⟩ | ⟨h1,_⟩
 ·rcases DP b with ⟨l,_,_,h3,h4,_⟩ | ⟨h3,_⟩
  ·rw [h1,h3] at h
   have:=Int.ofNat.inj h;rw [<- h2,<- h4,this]
  ·rw [hb] at h3; cases h3
 ·rw [ha] at h1; cases h1
theorem HZ {n:Nat} {f:Nat->E6} {m:Nat} {g:Nat->E6}:Cv n f m g=true↔n=m∧∀ i,i<n->f i=g i:=by
 unfold Cv;rw [Ds];by_cases h:n=m
 ·rw [decide_eq_true h]
  show FI f g n 0=true↔_;rw [OH];exact ⟨λh1=>⟨h,λi hi=>h1 i (Nat.zero_le _) (by omega)⟩,λh1 j _ h3=>h1.2 j (by omega)⟩
 ·rw [decide_eq_false h]
  exact ⟨λh=>(by cases h),λh1=>absurd h1.1 h⟩
def Bg (q:Nat->Bool):Nat->Nat->Option Nat
 | 0,_=>none
 | d+1,i=>match q i with
  | true=>some i
  | false=>Bg q d (i+1)
theorem Dj {q:Nat->Bool} {d i:Nat} (h:q i=true):Bg q (d+1) i=some i:=by rw [Bg,h]
theorem Dk {q:Nat->Bool} {d i:Nat} (h:q i=false):Bg q (d+1) i=Bg q d (i+1):=by rw [Bg,h]
theorem MA {q:Nat->Bool}:∀ {d i t:Nat},Bg q d i=some t->i <= t∧t<i+d∧q t=true
 | 0,_,_,h=>by cases h
 | d+1,i,t,h=>by
  cases hq:q i with
  | true =>rw [Dj hq] at h;simp only [Option.some.injEq] at h;subst h;exact ⟨Nat.le_refl _,by omega,hq⟩
  | false =>rw [Dk hq] at h;have:=MA h;exact ⟨by omega,by omega,this.2.2⟩
theorem BN {a b:Int} (h:ieq a b=true):a=b:=by simpa [ieq] using h
end Go.Proofs.YtkgdhhieomndeaaGreatDoor.Ed
