/-
  Least: where the least turned list begins, as the program walks. No conditions.
-/
import Derived.Test.YthlojajaenfidaaGreatDoorCyI
namespace Go.Proofs.YthlojajaenfidaaGreatDoor.Ed
open Go.Sy
open Int (ofNat)
def Vq (r:Nat):Ex × St:=(.rt,⟨(jsV 67 0 (λ_=>.und) [(2,nV r)]),[]⟩)
def HU (n:Nat) (h:Nat->Int):Lp:=⟨(bmK 67 0 [0,3,4,5,6]),1,bmK 67 0 [2],1,3 * n+4⟩
def Jj (n:Nat) (h:Nat->Int) (i t s:Nat) (j:Nat->V):St:=⟨(jsV 67 0 j [(0,.sl 1 n (λk=>iV (h k))),(3,nV n),(4,nV i),(5,nV t),(6,nV s)]),[]⟩
noncomputable def Eu (L:LT):St->T (Ex × St):=λst=>AD tab ⟨Ak tb0,L,Gl⟩ (As (Tm 0 900 Tryz.f37) 0) 0 st
section
variable (L:LT) (n:Nat) (h:Nat->Int) (i t s:Nat)  (j:Nat->V)
include L n h i t s j
theorem AgF (h0:ile (ofNat n) (ofNat i) = true):Ag (Eu L) (HU n h) (Jj n h i t s j) = some (.rt,⟨(jsV 67 0 (λ_=>.und) [(2,(iV (sel (ilt (sel (ilt (wr .i64 (Az (ofNat n) 1)) 0) 0 (wr .i64 (Az (ofNat n) 1))) (sel (ilt (ofNat t) (ofNat i)) (ofNat t) (ofNat i))) (sel (ilt (wr .i64 (Az (ofNat n) 1)) 0) 0 (wr .i64 (Az (ofNat n) 1))) (sel (ilt (ofNat t) (ofNat i)) (ofNat t) (ofNat i)))))]),[]⟩):=by
 exact Aa (ks:=[kn h0,kn h0,kn h0,kn h0,kT,kT,kT,kT,kT]) (by kernel_rfl)
theorem AgE (h0:ile (ofNat n) (ofNat i) = false) (h1:ile (ofNat n) (ofNat t) = true):Ag (Eu L) (HU n h) (Jj n h i t s j) = some (.rt,⟨(jsV 67 0 (λ_=>.und) [(2,(iV (sel (ilt (sel (ilt (wr .i64 (Az (ofNat n) 1)) 0) 0 (wr .i64 (Az (ofNat n) 1))) (sel (ilt (ofNat t) (ofNat i)) (ofNat t) (ofNat i))) (sel (ilt (wr .i64 (Az (ofNat n) 1)) 0) 0 (wr .i64 (Az (ofNat n) 1))) (sel (ilt (ofNat t) (ofNat i)) (ofNat t) (ofNat i)))))]),[]⟩):=by
 exact Aa (ks:=[kn h0,kn h0,kn h0,kn h0,kn h1,kn h1,kn h1,kn h1,kT]) (by kernel_rfl)
theorem AgC (h0:ile (ofNat n) (ofNat i) = false) (h1:ile (ofNat n) (ofNat t) = false) (h2:ile (ofNat n) (ofNat s) = true):Ag (Eu L) (HU n h) (Jj n h i t s j) = some (.rt,⟨(jsV 67 0 (λ_=>.und) [(2,(iV (sel (ilt (sel (ilt (wr .i64 (Az (ofNat n) 1)) 0) 0 (wr .i64 (Az (ofNat n) 1))) (sel (ilt (ofNat t) (ofNat i)) (ofNat t) (ofNat i))) (sel (ilt (wr .i64 (Az (ofNat n) 1)) 0) 0 (wr .i64 (Az (ofNat n) 1))) (sel (ilt (ofNat t) (ofNat i)) (ofNat t) (ofNat i)))))]),[]⟩):=by
 exact Aa (ks:=[kn h0,kn h0,kn h0,kn h0,kn h1,kn h1,kn h1,kn h1,kn h2]) (by kernel_rfl)
theorem AgH (h0:ile (ofNat n) (ofNat i) = false) (h1:ile (ofNat n) (ofNat t) = false) (h2:ile (ofNat n) (ofNat s) = false) (h3:ieq (ofNat n) 0 = false) (h4:Al (ile 0 (Ae (wr .i64 (Af (ofNat i) (ofNat s))) (ofNat n))) (ilt (Ae (wr .i64 (Af (ofNat i) (ofNat s))) (ofNat n)) (ofNat n)) = true) (h5:Al (ile 0 (Ae (wr .i64 (Af (ofNat t) (ofNat s))) (ofNat n))) (ilt (Ae (wr .i64 (Af (ofNat t) (ofNat s))) (ofNat n)) (ofNat n)) = true) (h6:ieq (h (toN (Ae (wr .i64 (Af (ofNat i) (ofNat s))) (ofNat n)))) (h (toN (Ae (wr .i64 (Af (ofNat t) (ofNat s))) (ofNat n)))) = true):Ag (Eu L) (HU n h) (Jj n h i t s j) = some (.nm,⟨(jsV 67 0 (λ_=>.und) [(0,(.sl 1 n (λk=>(iV (h k))))),(3,(nV n)),(4,(nV i)),(5,(nV t)),(6,(iV (wr .i64 (Af (ofNat s) 1))))]),[]⟩):=by
 exact Aa (ks:=[kn h0,kn h0,kn h0,kn h0,kn h1,kn h1,kn h1,kn h1,kn h2,kn h3,kn h4,kn h3,kn h5,kn h6]) (by kernel_rfl)
theorem AgG (h0:ile (ofNat n) (ofNat i) = false) (h1:ile (ofNat n) (ofNat t) = false) (h2:ile (ofNat n) (ofNat s) = false) (h3:ieq (ofNat n) 0 = false) (h4:Al (ile 0 (Ae (wr .i64 (Af (ofNat i) (ofNat s))) (ofNat n))) (ilt (Ae (wr .i64 (Af (ofNat i) (ofNat s))) (ofNat n)) (ofNat n)) = true) (h5:Al (ile 0 (Ae (wr .i64 (Af (ofNat t) (ofNat s))) (ofNat n))) (ilt (Ae (wr .i64 (Af (ofNat t) (ofNat s))) (ofNat n)) (ofNat n)) = true) (h6:ieq (h (toN (Ae (wr .i64 (Af (ofNat i) (ofNat s))) (ofNat n)))) (h (toN (Ae (wr .i64 (Af (ofNat t) (ofNat s))) (ofNat n)))) = false) (h7:ilt (h (toN (Ae (wr .i64 (Af (ofNat t) (ofNat s))) (ofNat n)))) (h (toN (Ae (wr .i64 (Af (ofNat i) (ofNat s))) (ofNat n)))) = true) (h8:ieq (wr .i64 (Af (ofNat i) (wr .i64 (Af (ofNat s) 1)))) (ofNat t) = false):Ag (Eu L) (HU n h) (Jj n h i t s j) = some (.nm,⟨(jsV 67 0 (λ_=>.und) [(0,(.sl 1 n (λk=>(iV (h k))))),(3,(nV n)),(4,(iV (wr .i64 (Af (ofNat i) (wr .i64 (Af (ofNat s) 1)))))),(5,(nV t)),(6,(iV 0))]),[]⟩):=by
 exact Aa (ks:=[kn h0,kn h0,kn h0,kn h0,kn h1,kn h1,kn h1,kn h1,kn h2,kn h3,kn h4,kn h3,kn h5,kn h6,kn h7,kn h8]) (by kernel_rfl)
theorem AcL (h0:ile (ofNat n) (ofNat i) = false) (h1:ile (ofNat n) (ofNat t) = false) (h2:ile (ofNat n) (ofNat s) = false) (h3:ieq (ofNat n) 0 = false) (h4:Al (ile 0 (Ae (wr .i64 (Af (ofNat i) (ofNat s))) (ofNat n))) (ilt (Ae (wr .i64 (Af (ofNat i) (ofNat s))) (ofNat n)) (ofNat n)) = true) (h5:Al (ile 0 (Ae (wr .i64 (Af (ofNat t) (ofNat s))) (ofNat n))) (ilt (Ae (wr .i64 (Af (ofNat t) (ofNat s))) (ofNat n)) (ofNat n)) = true) (h6:ieq (h (toN (Ae (wr .i64 (Af (ofNat i) (ofNat s))) (ofNat n)))) (h (toN (Ae (wr .i64 (Af (ofNat t) (ofNat s))) (ofNat n)))) = false) (h7:ilt (h (toN (Ae (wr .i64 (Af (ofNat t) (ofNat s))) (ofNat n)))) (h (toN (Ae (wr .i64 (Af (ofNat i) (ofNat s))) (ofNat n)))) = true) (h8:ieq (wr .i64 (Af (ofNat i) (wr .i64 (Af (ofNat s) 1)))) (ofNat t) = true):Ag (Eu L) (HU n h) (Jj n h i t s j) = some (.nm,⟨(jsV 67 0 (λ_=>.und) [(0,(.sl 1 n (λk=>(iV (h k))))),(3,(nV n)),(4,(iV (wr .i64 (Af (ofNat i) (wr .i64 (Af (ofNat s) 1)))))),(5,(iV (wr .i64 (Af (ofNat t) 1)))),(6,(iV 0))]),[]⟩):=by
 exact Aa (ks:=[kn h0,kn h0,kn h0,kn h0,kn h1,kn h1,kn h1,kn h1,kn h2,kn h3,kn h4,kn h3,kn h5,kn h6,kn h7,kn h8]) (by kernel_rfl)
theorem AgD (h0:ile (ofNat n) (ofNat i) = false) (h1:ile (ofNat n) (ofNat t) = false) (h2:ile (ofNat n) (ofNat s) = false) (h3:ieq (ofNat n) 0 = false) (h4:Al (ile 0 (Ae (wr .i64 (Af (ofNat i) (ofNat s))) (ofNat n))) (ilt (Ae (wr .i64 (Af (ofNat i) (ofNat s))) (ofNat n)) (ofNat n)) = true) (h5:Al (ile 0 (Ae (wr .i64 (Af (ofNat t) (ofNat s))) (ofNat n))) (ilt (Ae (wr .i64 (Af (ofNat t) (ofNat s))) (ofNat n)) (ofNat n)) = true) (h6:ieq (h (toN (Ae (wr .i64 (Af (ofNat i) (ofNat s))) (ofNat n)))) (h (toN (Ae (wr .i64 (Af (ofNat t) (ofNat s))) (ofNat n)))) = false) (h7:ilt (h (toN (Ae (wr .i64 (Af (ofNat t) (ofNat s))) (ofNat n)))) (h (toN (Ae (wr .i64 (Af (ofNat i) (ofNat s))) (ofNat n)))) = false) (h8:ieq (ofNat i) (wr .i64 (Af (ofNat t) (wr .i64 (Af (ofNat s) 1)))) = false):Ag (Eu L) (HU n h) (Jj n h i t s j) = some (.nm,⟨(jsV 67 0 (λ_=>.und) [(0,(.sl 1 n (λk=>(iV (h k))))),(3,(nV n)),(4,(nV i)),(5,(iV (wr .i64 (Af (ofNat t) (wr .i64 (Af (ofNat s) 1)))))),(6,(iV 0))]),[]⟩):=by
 exact Aa (ks:=[kn h0,kn h0,kn h0,kn h0,kn h1,kn h1,kn h1,kn h1,kn h2,kn h3,kn h4,kn h3,kn h5,kn h6,kn h7,kn h8]) (by kernel_rfl)
theorem AcK (h0:ile (ofNat n) (ofNat i) = false) (h1:ile (ofNat n) (ofNat t) = false) (h2:ile (ofNat n) (ofNat s) = false) (h3:ieq (ofNat n) 0 = false) (h4:Al (ile 0 (Ae (wr .i64 (Af (ofNat i) (ofNat s))) (ofNat n))) (ilt (Ae (wr .i64 (Af (ofNat i) (ofNat s))) (ofNat n)) (ofNat n)) = true) (h5:Al (ile 0 (Ae (wr .i64 (Af (ofNat t) (ofNat s))) (ofNat n))) (ilt (Ae (wr .i64 (Af (ofNat t) (ofNat s))) (ofNat n)) (ofNat n)) = true) (h6:ieq (h (toN (Ae (wr .i64 (Af (ofNat i) (ofNat s))) (ofNat n)))) (h (toN (Ae (wr .i64 (Af (ofNat t) (ofNat s))) (ofNat n)))) = false) (h7:ilt (h (toN (Ae (wr .i64 (Af (ofNat t) (ofNat s))) (ofNat n)))) (h (toN (Ae (wr .i64 (Af (ofNat i) (ofNat s))) (ofNat n)))) = false) (h8:ieq (ofNat i) (wr .i64 (Af (ofNat t) (wr .i64 (Af (ofNat s) 1)))) = true):Ag (Eu L) (HU n h) (Jj n h i t s j) = some (.nm,⟨(jsV 67 0 (λ_=>.und) [(0,(.sl 1 n (λk=>(iV (h k))))),(3,(nV n)),(4,(nV i)),(5,(iV (wr .i64 (Af (wr .i64 (Af (ofNat t) (wr .i64 (Af (ofNat s) 1)))) 1)))),(6,(iV 0))]),[]⟩):=by
 exact Aa (ks:=[kn h0,kn h0,kn h0,kn h0,kn h1,kn h1,kn h1,kn h1,kn h2,kn h3,kn h4,kn h3,kn h5,kn h6,kn h7,kn h8]) (by kernel_rfl)
end
def AeR (n:Nat) (h:Nat->Int) :Nat->V:=lkV A7 [(2,(iV 0)),(9,(.sl 1 n (λk=>iV (h k)))),(10,(nV n))]
theorem Ajs (L:LT) (p0:PT) (n:Nat) (h:Nat->Int) (r:Nat)  (hp0:p0 (Eu (onP 0 p0 (Vq r) L)) (Jj n h 0 1 0 (AeR n h )) = true):(Au (Ah tab ⟨Ak tb0,(onP 0 p0 (Vq r) L),Gl⟩ (Tm 0 900 Tryz.f37) [.sl 1 n (λk=>iV (h k))] [])).sem = some ((nV r),[]):=by
 exact Aa (ks:=[kn hp0]) (by kernel_rfl)
def Ec (n:Nat) (h:Nat->Int):Nat->Nat->Nat->Nat->Nat
 | 0,_,_,_=>0
 | q+1,i,t,s =>
  if n <= i ∨ n <= t ∨ n <= s then min (min i t) (n - 1)
  else if h ((i+s) % n) = h ((t+s) % n) then Ec n h q i t (s+1)
  else if h ((t+s) % n) < h ((i+s) % n) then Ec n h q (i+s+1) (if i+s+1 = t then t+1 else t) 0
  else Ec n h q i (if i = t+s+1 then t+s+2 else t+s+1) 0
def Co (n:Nat) (h:Nat->Int):Nat:=Ec n h (3 * n+4) 0 1 0
theorem Dm {a b:Nat} (h:a+b <= 9223372036854775807):wr .i64 (Af (ofNat a) (ofNat b)) = ofNat (a+b):=by
 unfold wr Af IntKind.wrap
 simp [IntKind.bits,IntKind.signed]
 omega
theorem Lt {a:Nat} (h:a+1 <= 9223372036854775807):wr .i64 (Af (ofNat a) 1) = ofNat (a+1):=Dm (b:=1) h
theorem Cu (a n:Nat):Ae (ofNat a) (ofNat n) = ofNat (a % n):=rfl
theorem Df (a b:Nat):ieq (ofNat a) (ofNat b) = decide (a = b):=by
 simp only [ieq,Int.ofNat_eq_natCast]
 by_cases h:a = b
 ·simp [h]
 ·rw [decide_eq_false h]
  simp
  omega
theorem ile_nat (a b:Nat):ile (ofNat a) (ofNat b) = decide (a <= b):=by
 simp [ile]
theorem Cf (a b:Nat):ilt (ofNat a) (ofNat b) = decide (a < b):=by
 simp [ilt]
theorem Aig (n i t:Nat) (hn:n <= 1152921504606846976):sel (ilt (sel (ilt (wr .i64 (Az (ofNat n) 1)) 0) 0 (wr .i64 (Az (ofNat n) 1))) (sel (ilt (ofNat t) (ofNat i)) (ofNat t) (ofNat i))) (sel (ilt (wr .i64 (Az (ofNat n) 1)) 0) 0 (wr .i64 (Az (ofNat n) 1))) (sel (ilt (ofNat t) (ofNat i)) (ofNat t) (ofNat i)) = ofNat (min (min i t) (n - 1)):=by
 have h1:wr .i64 (Az (ofNat n) 1) = (n:Int) - 1:=by
  unfold wr Az IntKind.wrap
  simp [IntKind.bits,IntKind.signed]
  omega
 rw [h1]
 simp only [sel,ilt,Bool.cond_decide,Int.ofNat_eq_natCast]
 omega
theorem L8 (L:LT) (n:Nat) (h:Nat->Int) (hn:n <= 1152921504606846976):∀ (q i t s:Nat) (j:Nat->V),i <= 2 * n->t <= 2 * n+1->s <= n->3 * n+1 - (i+t+s) < q ->
  (AA (Eu L) (HU n h) q (Jj n h i t s j)).sem = some (Vq (Ec n h q i t s))
 | 0,_,_,_,_,_,_,_,h4=>absurd h4 (Nat.not_lt_zero _)
 | q+1,i,t,s,j,hi,ht,hs,h4=>by
  by_cases ci:n <= i
  ·rw [Ab (AgF L n h i t s j (by rw [ile_nat,decide_eq_true ci])),Er,Aig n i t hn,Ec,if_pos (.inl ci)]
   rfl
  ·have ci0:ile (ofNat n) (ofNat i) = false:=by rw [ile_nat,decide_eq_false ci]
   by_cases ct:n <= t
   ·rw [Ab (AgE L n h i t s j ci0 (by rw [ile_nat,decide_eq_true ct])),Er,Aig n i t hn,Ec,if_pos (.inr (.inl ct))]
    rfl
   ·have ct0:ile (ofNat n) (ofNat t) = false:=by rw [ile_nat,decide_eq_false ct]
    by_cases cs:n <= s
    ·rw [Ab (AgC L n h i t s j ci0 ct0 (by rw [ile_nat,decide_eq_true cs])),Er,Aig n i t hn,Ec,if_pos (.inr (.inr cs))]
     rfl
    ·have cs0:ile (ofNat n) (ofNat s) = false:=by rw [ile_nat,decide_eq_false cs]
     have cn0:ieq (ofNat n) 0 = false:=by
      rw [show (0:Int) = ofNat 0 from rfl,Df,decide_eq_false (by omega)]
     have e1:Ae (wr .i64 (Af (ofNat i) (ofNat s))) (ofNat n) = ofNat ((i+s) % n):=by rw [Dm (by omega),Cu]
     have e2:Ae (wr .i64 (Af (ofNat t) (ofNat s))) (ofNat n) = ofNat ((t+s) % n):=by rw [Dm (by omega),Cu]
     have b1:Al (ile 0 (Ae (wr .i64 (Af (ofNat i) (ofNat s))) (ofNat n))) (ilt (Ae (wr .i64 (Af (ofNat i) (ofNat s))) (ofNat n)) (ofNat n)) = true:=by
      rw [e1]; exact Ap (Nat.mod_lt _ (by omega))
     have b2:Al (ile 0 (Ae (wr .i64 (Af (ofNat t) (ofNat s))) (ofNat n))) (ilt (Ae (wr .i64 (Af (ofNat t) (ofNat s))) (ofNat n)) (ofNat n)) = true:=by
      rw [e2]; exact Ap (Nat.mod_lt _ (by omega))
     have t1:∀ a:Nat,toN (ofNat a) = a:=λ_=>rfl
     have u1:wr .i64 (Af (ofNat i) (wr .i64 (Af (ofNat s) 1))) = ofNat (i+s+1):=by rw [Lt (by omega),Dm (by omega)]; rfl
     have u2:wr .i64 (Af (ofNat t) (wr .i64 (Af (ofNat s) 1))) = ofNat (t+s+1):=by rw [Lt (by omega),Dm (by omega)]; rfl
     rw [Ec,if_neg (by omega)]
     by_cases ce:h ((i+s) % n) = h ((t+s) % n)
     ·rw [if_pos ce,Ab (AgH L n h i t s j ci0 ct0 cs0 cn0 b1 b2 (by rw [e1,e2,t1,t1]; simp [ieq,ce])),Aq,Lt (by omega)]
      exact L8 L n h hn q i t (s+1) (λ_=>.und) hi ht (by omega) (by omega)
     ·have ce0:ieq (h (toN (Ae (wr .i64 (Af (ofNat i) (ofNat s))) (ofNat n)))) (h (toN (Ae (wr .i64 (Af (ofNat t) (ofNat s))) (ofNat n)))) = false:=by
       rw [e1,e2,t1,t1]; simp [ieq,ce]
      rw [if_neg ce]
      by_cases cg:h ((t+s) % n) < h ((i+s) % n)
      ·have cg0:ilt (h (toN (Ae (wr .i64 (Af (ofNat t) (ofNat s))) (ofNat n)))) (h (toN (Ae (wr .i64 (Af (ofNat i) (ofNat s))) (ofNat n)))) = true:=by
        rw [e1,e2,t1,t1]; simp [ilt,cg]
       rw [if_pos cg]
       by_cases cq:i+s+1 = t
       ·rw [if_pos cq,Ab (AcL L n h i t s j ci0 ct0 cs0 cn0 b1 b2 ce0 cg0 (by rw [u1,Df,decide_eq_true cq])),Aq,u1,Lt (by omega)]
        exact L8 L n h hn q (i+s+1) (t+1) 0 (λ_=>.und) (by omega) (by omega) (by omega) (by omega)
       ·rw [if_neg cq,Ab (AgG L n h i t s j ci0 ct0 cs0 cn0 b1 b2 ce0 cg0 (by rw [u1,Df,decide_eq_false cq])),Aq,u1]
        exact L8 L n h hn q (i+s+1) t 0 (λ_=>.und) (by omega) (by omega) (by omega) (by omega)
      ·have cg0:ilt (h (toN (Ae (wr .i64 (Af (ofNat t) (ofNat s))) (ofNat n)))) (h (toN (Ae (wr .i64 (Af (ofNat i) (ofNat s))) (ofNat n)))) = false:=by
        rw [e1,e2,t1,t1]; simp [ilt]; omega
       rw [if_neg cg]
       by_cases cq:i = t+s+1
       ·rw [if_pos cq,Ab (AcK L n h i t s j ci0 ct0 cs0 cn0 b1 b2 ce0 cg0 (by rw [u2,Df,decide_eq_true cq])),Aq,u2,Lt (by omega)]
        exact L8 L n h hn q i (t+s+2) 0 (λ_=>.und) (by omega) (by omega) (by omega) (by omega)
       ·rw [if_neg cq,Ab (AgD L n h i t s j ci0 ct0 cs0 cn0 b1 b2 ce0 cg0 (by rw [u2,Df,decide_eq_false cq])),Aq,u2]
        exact L8 L n h hn q i (t+s+1) 0 (λ_=>.und) (by omega) (by omega) (by omega) (by omega)
def AdK (n:Nat):Bool:=decide (n <= 1152921504606846976)
def AaA:List V->T (V × List Blk):=Aea λn h=>.br (AdK n) (out (iV (ofNat (Co n h)))) .fail
theorem AmZ:A6 Tryz.prog Gl 37 AaA:=by
 refine SC (p:=match Tryz.f37.body with | some (.seq p _)=>p | _=>.skip) (c:=match Tryz.f37.body with | some (.seq _ (.scope c))=>c | _=>.skip) (d:=match (match Tryz.f37.body with | some (.seq _ (.scope c))=>Fg 0 c | _=>none) with | some d=>d | none=>.skip) AI mixed Tryz.func37 0 900 (by kernel_rfl) (by kernel_rfl) (by kernel_rfl) (by kernel_rfl) λvs v h' h=>?_
 obtain ⟨n,f,ha,h1⟩:=Qo h
 obtain ⟨hn,hq⟩:=Ad h1
 have:=Ac hq
 simp only [Prod.mk.injEq] at this
 obtain ⟨rfl,rfl⟩:=this
 have hn:n <= 1152921504606846976:=by simpa [AdK] using hn
 have hx:=AK Dn [(0,HU n f)]
 exact ⟨_,AN Gl tb0 [(0,HU n f)],_,ha,rfl,hx.1,hx.2,A1 (Ar (AF _) (AF _)) _ (Ajs _ _ n f _ (Ai (L8 _ n f hn (3 * n+4) 0 1 0 (AeR n f) (by omega) (by omega) (by omega) (by omega)))),A0.refl _⟩
end Go.Proofs.YthlojajaenfidaaGreatDoor.Ed
namespace Go.Proofs.YthlojajaenfidaaGreatDoor.Ed
open Go.Sy
open Int (ofNat)
theorem Ol (n m:Nat) (gx g:Nat->V) (i:Nat) (h:i < n+m):BO n m gx g i = bif Nat.blt i n then gx i else g (i - n):=by
 cases hb:Nat.blt i n with
 | true=>exact Hp n m gx g i (Nat.blt_eq ▸ hb)
 | false =>
  have h1:n <= i:=by
   rcases Nat.lt_or_ge i n with h2 | h2
   ·rw [show Nat.blt i n = true from Nat.blt_eq ▸ h2] at hb; cases hb
   ·exact h2
  have:=JB n m gx g (i - n) (by omega)
  rw [show n+(i - n) = i by omega] at this
  exact this
theorem Ua {α:Type} (n k:Nat) (z:Nat->V) (h:Nat->α) (e:α->V) (hk:k < n ∨ n = 0 ∧ k = 0):Bd (Bd 0 (HR n k)) k = n ∧ ∀ j,j < n ->
  BO (Bd 0 (HR n k)) k (BO 0 (HR n k) z (λi=>e (h (Bd k i)))) (λi=>e (h i)) j = e (h ((k+j) % n)):=by
 have h1:Bd 0 (HR n k) = n - k:=by simp [Bd,HR]
 have h2:HR n k = n - k:=rfl
 refine ⟨by rw [h1]; show n - k+k = n; omega,λj hj=>?_⟩
 rw [h1,h2,Ol _ _ _ _ j (by omega)]
 cases hb:Nat.blt j (n - k) with
 | true =>
  have hb:j < n - k:=Nat.blt_eq ▸ hb
  show BO 0 (n - k) z (λi=>e (h (Bd k i))) j = _
  rw [Ol _ _ _ _ j (by omega)]
  show e (h (k+(j - 0))) = _
  rw [Nat.mod_eq_of_lt (by omega),Nat.sub_zero]
 | false =>
  have hb:n - k <= j:=by
   rcases Nat.lt_or_ge j (n - k) with h3 | h3
   ·rw [show Nat.blt j (n - k) = true from Nat.blt_eq ▸ h3] at hb; cases hb
   ·exact h3
  show e (h (j - (n - k))) = _
  rw [show k+j = j - (n - k)+n by omega,Nat.add_mod_right,Nat.mod_eq_of_lt (by omega)]
def Dv (n:Nat):Bool:=decide (n * 8 <= 140737488355328)
theorem CE {n:Nat} (h:Dv n = true):n <= 4611686018427387904:=by
 have h:n * 8 <= 140737488355328:=of_decide_eq_true h
 omega
theorem AaV {n:Nat} (h:Dv n = true):Ao n = true:=decide_eq_true (CE h)
theorem Aiu {n:Nat} (h:Dv n = true):AdK n = true:=by
 have h:n * 8 <= 140737488355328:=of_decide_eq_true h
 exact decide_eq_true (by omega)
theorem EP {n:Nat} (h:Be n = true):Dv n = true:=by
 have h:n * 40 <= 140737488355328:=of_decide_eq_true h
 exact decide_eq_true (by omega)
theorem LI (n:Nat) (h:Nat->Int):∀ q i t s,Ec n h q i t s <= n - 1
 | 0,_,_,_=>Nat.zero_le _
 | q+1,i,t,s=>by
  unfold Ec
  split
  ·omega
  ·split
   ·exact LI n h q _ _ _
   ·split <;> exact LI n h q _ _ _
theorem Yg (n:Nat) (h:Nat->Int):Co n h <= n - 1:=LI n h _ _ _ _
theorem PH (n:Nat) (h:Nat->Int):Co n h < n ∨ n = 0 ∧ Co n h = 0:=by
 have:=Yg n h
 omega
def Ob (n:Nat) (f:Nat->E6):Lp:=⟨(bmK 28 0 [0,2,3,4,9,10,11]),2,bmK 28 0 [2,3,4],4,n+1⟩
def Sm (n:Nat) (f:Nat->E6) (i k:Nat) (x:Nat->V) (j:Nat->V):St:=⟨(jsV 28 0 j [(0,.sl 6 n λi=>eV (f i)),(2,.ref 0),(3,iV 0),(4,.ref 1),(9,.sl 6 n λi=>eV (f i)),(10,nV n),(11,nV i)]),[.row 3 1 0 λ_=>.und,.row 3 1 k x]⟩
def VF (n:Nat) (f:Nat->E6) (i k:Nat) (x:Nat->V):Ex × St:=(.ex 0,⟨(jsV 28 0 (λ_=>.und) [(2,.ref 0),(3,iV 0),(4,.ref 1)]),[.row 3 1 0 λ_=>.und,.row 3 1 k x]⟩)
def VE (n:Nat) (f:Nat->E6) (i k:Nat) (x:Nat->V):Ex × St:=(.rt,⟨(jsV 28 0 (λ_=>.und) [(2,.ref 3),(3,iV 30),(4,.ref 1)]),[.row 3 1 0 λ_=>.und,.row 3 1 k x,.cells [iV ((f i)).kind,bV ((f i)).ext,bV ((f i)).same,iV ((f i)).src,iV ((f i)).dst,iV ((f i)).fence],.row 3 1 0 λ_=>.und]⟩)
noncomputable def Lg (L:LT):St->T (Ex × St):=λst=>AD tab ⟨Ak tb8,L,Gl⟩ (As Tryz.f36 0) 0 st
theorem Kf (L:LT) (n:Nat) (f:Nat->E6) (i k:Nat) (x:Nat->V) (j:Nat->V):Ag (Lg L) (Ob n f) (Sm n f i k x j)
 = (sel (ilt (ofNat i) (ofNat n)) (sel (Al (ile 0 (ofNat i)) (ilt (ofNat i) (ofNat n))) (sel (AG (ieq (AQ (f i)) 0)) (some (.rt,⟨[.und,.und,(.ref 3),(iV 30),(.ref 1),.und,.und,.und,.und,.und,.und,.und,.und,.und,.und,.und,.und,.und,.und,.und,.und,.und,.und,.und,.und,.und,.und,.und],[r3Z,(.row 3 1 k x),(.cells [(iV ((f i)).kind),(bV ((f i)).ext),(bV ((f i)).same),(iV ((f i)).src),(iV ((f i)).dst),(iV ((f i)).fence)]),r3Z]⟩)) (sel (Bx k 1 8) (some (.nm,⟨[(.sl 6 n (λi=>(eV (f i)))),.und,(.ref 0),(iV 0),(.ref 1),.und,.und,.und,.und,(.sl 6 n (λi=>(eV (f i)))),(nV n),(iV (wr .i64 (Af (ofNat i) 1))),.und,.und,.und,.und,.und,.und,.und,.und,.und,.und,.und,.und,.und,.und,.und,.und],[r3Z,(.row 3 1 (Bd k 1) (A2 k x (iV (B2 (f i)))))]⟩)) none)) none) (some ((.ex 0),⟨[.und,.und,(.ref 0),(iV 0),(.ref 1),.und,.und,.und,.und,.und,.und,.und,.und,.und,.und,.und,.und,.und,.und,.und,.und,.und,.und,.und,.und,.und,.und,.und],[r3Z,(.row 3 1 k x)]⟩))):=by kernel_rfl
def WP (n:Nat) (f:Nat->E6) :Nat->V:=lkV A7 []
section
variable (L:LT) (p0:PT) (n:Nat) (f:Nat->E6) (i k:Nat) (x:Nat->V)
include L p0 n f i k x
theorem AfS  (hp0:p0 (Lg (onP 0 p0 (VF n f i k x) L)) (Sm n f 0 0 (λ_=>.und) (WP n f )) = true):(Au (Ah tab ⟨Ak tb8,(onP 0 p0 (VF n f i k x) L),Gl⟩ Tryz.f36 [A5 n f] [])).sem = some ((.tup [(.ref 0),(iV 0)]),[(.row 3 1 k x)]):=by
 exact Aa (ks:=[kn hp0]) (by kernel_rfl)
theorem AfR  (hp0:p0 (Lg (onP 0 p0 (VE n f i k x) L)) (Sm n f 0 0 (λ_=>.und) (WP n f )) = true):(Au (Ah tab ⟨Ak tb8,(onP 0 p0 (VE n f i k x) L),Gl⟩ Tryz.f36 [A5 n f] [])).sem = some ((.tup [(.ref 0),(iV 30)]),[r3Z]):=by
 exact Aa (ks:=[kn hp0]) (by kernel_rfl)
end
theorem Wz (L:LT) (n:Nat) (f:Nat->E6) (hn:Be n = true) (ho:∀ t,t < n->AQ (f t) = 0):∀ (d i:Nat) (j:Nat->V) (q:Nat),n = i+d->d < q ->
  (AA (Lg L) (Ob n f) q (Sm n f i i (BA (cdV f) i) j)).sem = some (VF n f 0 n (BA (cdV f) n))
 | 0,i,j,q+1,h1,_=>by
  have hi:i = n:=by omega
  subst hi
  rw [Ab (Kf L i f i i _ j),A9 (Nat.le_refl i)]
  rfl
 | d+1,i,j,q+1,h1,h2=>by
  have hi:i < n:=by omega
  rw [Ab (Kf L n f i i _ j),Ap hi,ofNat_lt hi,RK hi (by decide) (of_decide_eq_true hn),An hi (IN hn),ho i hi]
  exact Wz L n f hn ho d (i+1) (λ_=>.und) q (by omega) (by omega)
theorem Wy (L:LT) (n:Nat) (f:Nat->E6) (hn:Be n = true) (e:Nat) (he:e < n) (hb:AQ (f e) = 30) (ho:∀ t,t < e->AQ (f t) = 0):∀ (d i:Nat) (j:Nat->V) (q:Nat),e = i+d->d < q ->
  (AA (Lg L) (Ob n f) q (Sm n f i i (BA (cdV f) i) j)).sem = some (VE n f e e (BA (cdV f) e))
 | 0,i,j,q+1,h1,_=>by
  have hi:i = e:=by omega
  subst hi
  rw [Ab (Kf L n f i i _ j),Ap he,ofNat_lt he,hb]
  rfl
 | d+1,i,j,q+1,h1,h2=>by
  have hi:i < n:=by omega
  rw [Ab (Kf L n f i i _ j),Ap hi,ofNat_lt hi,RK hi (by decide) (of_decide_eq_true hn),An hi (IN hn),ho i (by omega)]
  exact Wy L n f hn e he hb ho d (i+1) (λ_=>.und) q (by omega) (by omega)
theorem Ana:A6 Tryz.prog Gl 36 AbB:=by
 refine Av AI mixed Tryz.func36 (by kernel_rfl) (by kernel_rfl) λvs v h' h=>?_
 obtain ⟨n,f,ha,h⟩:=C2 h
 obtain ⟨hn,h⟩:=Ad h
 have hx:=AK Uh [(0,Ob n f)]
 cases hm:BR n f with
 | true =>
  rw [hm] at h
  have:=Ac h
  simp only [Prod.mk.injEq] at this
  obtain ⟨rfl,rfl⟩:=this
  exact ⟨_,cx9 [(0,Ob n f)],_,ha,rfl,hx.1,hx.2,A1 (Ar (AF _) (AF _)) _ (AfS _ _ n f 0 n _ (Ai (Wz _ n f hn (Ds.1 hm) n 0 (WP n f) (n+1) (by omega) (by omega)))),
   A0.one λj hj=>(G5 (cdV f) n j hj).symm⟩
 | false =>
  rw [hm] at h
  have:=Ac h
  simp only [Prod.mk.injEq] at this
  obtain ⟨rfl,rfl⟩:=this
  obtain ⟨e,h1,h2,h3⟩:=UZ hm
  have hw:=A1 (Ar (AF _) (AF _)) _ (AfR (AP [(0,Ob n f)]) _ n f e e _ (Ai (Wy _ n f hn e h1 h2 h3 e 0 (WP n f) (n+1) (by omega) (by omega))))
  exact ⟨_,cx9 [(0,Ob n f)],_,ha,rfl,hx.1,hx.2,hw,A0.refl _⟩
theorem BM {n m b:Nat} (h:(n+m) * b <= 140737488355328):Bx n m b = true:=decide_eq_true h
noncomputable def Zf:List (Nat × (List V->T (V × List Blk))):=(36,AbB) :: (37,AaA) :: []
theorem Acy:A8 Tryz.prog Gl Zf:=.cons Ana <| .cons AmZ .nil
def Ae3 (n:Nat) (f:Nat->E6) (k:Nat):Blk:=.row 57 6 (Bd (Bd 0 (HR n k)) k) (BO (Bd 0 (HR n k)) k (BO 0 (HR n k) (λ_=>eV Ft) (λi=>eV (f (Bd k i)))) (λi=>eV (f i)))
section
variable (L:LT) (n:Nat) (f:Nat->E6)
include L n f
theorem Ajj (h0:Be n = true) (h1:BR n f = false):(Au (Ah tab ⟨Ak Zf,L,Gl⟩ Tryz.f12 [A5 n f] [])).sem = some ((.tup [(.ref 0),(iV 30)]),[(.row 57 6 0 (λ_=>.und))]):=by
 exact Aa (ks:=[kL n,kn h0,kn h1,kN (⟨ieq 30 0,false,rfl⟩)]) (by kernel_rfl)
theorem Aji (h0:Be n = true) (h1:BR n f = true) (h2:AdK n = true) (h3:C5 40 0 (ofNat n) = true) (h13:Al (ile 0 (ofNat (Co n (λi=>(B2 (f i)))))) (ile (ofNat (Co n (λi=>(B2 (f i))))) (ofNat n)) = true) (h14:Bx 0 (HR n (Co n (λi=>(B2 (f i))))) 40 = true) (h15:Bx (Bd 0 (HR n (Co n (λi=>(B2 (f i)))))) (Co n (λi=>(B2 (f i)))) 40 = true):(Au (Ah tab ⟨Ak Zf,L,Gl⟩ Tryz.f12 [A5 n f] [])).sem = some ((.tup [(.ref 0),(iV 0)]),[Ae3 n f (Co n (λi=>(B2 (f i))))]):=by
 exact Aa (ks:=[kL n,kn h0,kn h1,kN (kI 0),kL n,kn h2,kn h3,kn h13,kn h14,kn h13,kn h15]) (by kernel_rfl)
end
def Bc (n:Nat) (f:Nat->E6) (i:Nat):E6:=f ((Co n (λi=>B2 (f i))+i) % n)
def LX:List V->T (V × List Blk):=Gt λn f=>.br (Be n) (.br (BR n f) (.leaf (.tup [.ref 0,iV 0],[.row 57 6 n λi=>eV (Bc n f i)])) (.leaf (.tup [.ref 0,iV 30],[.row 57 6 0 λ_=>.und]))) .fail
theorem p65:A6 Tryz.prog Gl 12 LX:=by
 refine Av AI mixed Tryz.func12 (by kernel_rfl) (by kernel_rfl) λvs v h' h=>?_
 obtain ⟨n,f,ha,h⟩:=C2 h
 obtain ⟨hn,h⟩:=Ad h
 have hx:=AK Acy []
 cases hm:BR n f with
 | true =>
  rw [hm] at h
  have:=Ac h
  simp only [Prod.mk.injEq] at this
  obtain ⟨rfl,rfl⟩:=this
  have hn':n * 40 <= 140737488355328:=of_decide_eq_true hn
  have hk:=PH n (λi=>B2 (f i))
  have e3:∀ k,Bd 0 (HR n k) = n - k:=λk=>by simp [Bd,HR]
  have hw:=Aji (AP []) n f hn hm (Aiu (EP hn)) (by
    simp only [C5,Bool.and_eq_true,decide_eq_true_eq,Int.ofNat_eq_natCast]; omega) (by
    rw [ile_nat,show (0:Int) = ofNat 0 from rfl,ile_nat]; simp [Al]; omega) (by
    exact BM (by show (0+(n - Co n (λi=>B2 (f i)))) * 40 <= _; omega)) (by
    rw [e3]; exact BM (by omega))
  obtain ⟨r1,r2⟩:=Ua n (Co n (λi=>B2 (f i))) (λ_=>eV Ft) f eV hk
  unfold Ae3 at hw
  rw [r1] at hw
  exact ⟨_,AN Gl Zf [],_,ha,rfl,hx.1,hx.2,hw,A0.one λj hj=>(r2 j hj).symm⟩
 | false =>
  rw [hm] at h
  have:=Ac h
  simp only [Prod.mk.injEq] at this
  obtain ⟨rfl,rfl⟩:=this
  exact ⟨_,AN Gl Zf [],_,ha,rfl,hx.1,hx.2,Ajj _ n f hn hm,A0.refl _⟩
theorem Xt {a b:E6} (ha:AQ a = 0) (hb:AQ b = 0) (h:B2 a = B2 b):a = b:=by
 rcases E7 a with ⟨k,_,_,h1,h2,_⟩ | ⟨h1,_⟩
 ·rcases E7 b with ⟨l,_,_,h3,h4,_⟩ | ⟨h3,_⟩
  ·rw [h1,h3] at h
   have:=Int.ofNat.inj h
   rw [<- h2,<- h4,this]
  ·rw [hb] at h3; cases h3
 ·rw [ha] at h1; cases h1
theorem TH {n:Nat} {f:Nat->E6} (h:BR n f = true) {i:Nat} (hi:i < n):AQ (Bc n f i) = 0:=Ds.1 h _ (Nat.mod_lt _ (by omega))
theorem N4 {n:Nat} {f:Nat->E6} {m:Nat} {g:Nat->E6}:DT n f m g = true ↔ n = m ∧ ∀ i,i < n->f i = g i:=by
 unfold DT
 rw [Df]
 by_cases h:n = m
 ·rw [decide_eq_true h]
  show JD f g n 0 = true ↔ _
  rw [Ow]
  exact ⟨λh1=>⟨h,λi hi=>h1 i (Nat.zero_le _) (by omega)⟩,λh1 j _ h3=>h1.2 j (by omega)⟩
 ·rw [decide_eq_false h]
  exact ⟨λh=>(by cases h),λh1=>absurd h1.1 h⟩
def Ba (q:Nat->Bool):Nat->Nat->Option Nat
 | 0,_=>none
 | d+1,i=>match q i with
  | true=>some i
  | false=>Ba q d (i+1)
theorem BQ {q:Nat->Bool} {d i:Nat} (h:q i = true):Ba q (d+1) i = some i:=by rw [Ba,h]
theorem By {q:Nat->Bool} {d i:Nat} (h:q i = false):Ba q (d+1) i = Ba q d (i+1):=by rw [Ba,h]
theorem CC {a b:Int} (h:ieq a b = true):a = b:=by simpa [ieq] using h
end Go.Proofs.YthlojajaenfidaaGreatDoor.Ed
