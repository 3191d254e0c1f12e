/-
  Least: where the least turned list begins, as the program walks. No conditions.
-/
import Derived.Test.YtkbafjceglhjhaaGreatDoorCyI
namespace Go.Proofs.YtkbafjceglhjhaaGreatDoor.Ed
open Go.Sy
open Int (ofNat)
def TV (r:Nat):Ex×St:=(.rt,⟨jsV 67 0 Ac [(2,nV r)],[]⟩)
def HA (n:Nat) (h:Nat->Int):Lp:=⟨bmK 67 0 [0,3,4,5,6],1,bmK 67 0 [2],1,3 * n+4⟩
def I4 (n:Nat) (h:Nat->Int) (i t s:Nat) (j:Nat->V):St:=⟨jsV 67 0 j [(0,.sl 1 n (λk=>iV (h k))),(3,nV n),(4,nV i),(5,nV t),(6,nV s)],[]⟩
noncomputable def E4 (L:LT):St->T (Ex×St):=λst=>AI tab ⟨Az tb0,L,Gl⟩ (A0 (RH 0 900 Tryz.f73) 0) 0 st
section
variable (L:LT) (n:Nat) (h:Nat->Int) (i t s:Nat)  (j:Nat->V)
include L n h i t s j
theorem Aeb (h0:ile (ofNat n) (ofNat i)=true):Au (E4 L) (HA n h) (I4 n h i t s j)=some (.rt,⟨jsV 67 0 Ac [(2,iV (sel (ilt (sel (ilt (wr .i64 (Bn (ofNat n) 1)) 0) 0 (wr .i64 (Bn (ofNat n) 1))) (sel (ilt (ofNat t) (ofNat i)) (ofNat t) (ofNat i))) (sel (ilt (wr .i64 (Bn (ofNat n) 1)) 0) 0 (wr .i64 (Bn (ofNat n) 1))) (sel (ilt (ofNat t) (ofNat i)) (ofNat t) (ofNat i))))],[]⟩):=by
 exact Ad (ks:=[kn h0,kn h0,kn h0,kn h0,kT,kT,kT,kT,kT]) (by kernel_rfl)
theorem Aea (h0:ile (ofNat n) (ofNat i)=false) (h1:ile (ofNat n) (ofNat t)=true):Au (E4 L) (HA n h) (I4 n h i t s j)=some (.rt,⟨jsV 67 0 Ac [(2,iV (sel (ilt (sel (ilt (wr .i64 (Bn (ofNat n) 1)) 0) 0 (wr .i64 (Bn (ofNat n) 1))) (sel (ilt (ofNat t) (ofNat i)) (ofNat t) (ofNat i))) (sel (ilt (wr .i64 (Bn (ofNat n) 1)) 0) 0 (wr .i64 (Bn (ofNat n) 1))) (sel (ilt (ofNat t) (ofNat i)) (ofNat t) (ofNat i))))],[]⟩):=by
 exact Ad (ks:=[kn h0,kn h0,kn h0,kn h0,kn h1,kn h1,kn h1,kn h1,kT]) (by kernel_rfl)
theorem AdY (h0:ile (ofNat n) (ofNat i)=false) (h1:ile (ofNat n) (ofNat t)=false) (h2:ile (ofNat n) (ofNat s)=true):Au (E4 L) (HA n h) (I4 n h i t s j)=some (.rt,⟨jsV 67 0 Ac [(2,iV (sel (ilt (sel (ilt (wr .i64 (Bn (ofNat n) 1)) 0) 0 (wr .i64 (Bn (ofNat n) 1))) (sel (ilt (ofNat t) (ofNat i)) (ofNat t) (ofNat i))) (sel (ilt (wr .i64 (Bn (ofNat n) 1)) 0) 0 (wr .i64 (Bn (ofNat n) 1))) (sel (ilt (ofNat t) (ofNat i)) (ofNat t) (ofNat i))))],[]⟩):=by
 exact Ad (ks:=[kn h0,kn h0,kn h0,kn h0,kn h1,kn h1,kn h1,kn h1,kn h2]) (by kernel_rfl)
theorem Aed (h0:ile (ofNat n) (ofNat i)=false) (h1:ile (ofNat n) (ofNat t)=false) (h2:ile (ofNat n) (ofNat s)=false) (h3:ieq (ofNat n) 0=false) (h4:Aj (ile 0 (Al (wr .i64 (Ah (ofNat i) (ofNat s))) (ofNat n))) (ilt (Al (wr .i64 (Ah (ofNat i) (ofNat s))) (ofNat n)) (ofNat n))=true) (h5:Aj (ile 0 (Al (wr .i64 (Ah (ofNat t) (ofNat s))) (ofNat n))) (ilt (Al (wr .i64 (Ah (ofNat t) (ofNat s))) (ofNat n)) (ofNat n))=true) (h6:ieq (h (toN (Al (wr .i64 (Ah (ofNat i) (ofNat s))) (ofNat n)))) (h (toN (Al (wr .i64 (Ah (ofNat t) (ofNat s))) (ofNat n))))=true):Au (E4 L) (HA n h) (I4 n h i t s j)=some (.nm,⟨jsV 67 0 Ac [(0,.sl 1 n (λk=>iV (h k))),(3,nV n),(4,nV i),(5,nV t),(6,iV (wr .i64 (Ah (ofNat s) 1)))],[]⟩):=by
 exact Ad (ks:=[kn h0,kn h0,kn h0,kn h0,kn h1,kn h1,kn h1,kn h1,kn h2,kn h3,kn h4,kn h3,kn h5,kn h6]) (by kernel_rfl)
theorem Aec (h0:ile (ofNat n) (ofNat i)=false) (h1:ile (ofNat n) (ofNat t)=false) (h2:ile (ofNat n) (ofNat s)=false) (h3:ieq (ofNat n) 0=false) (h4:Aj (ile 0 (Al (wr .i64 (Ah (ofNat i) (ofNat s))) (ofNat n))) (ilt (Al (wr .i64 (Ah (ofNat i) (ofNat s))) (ofNat n)) (ofNat n))=true) (h5:Aj (ile 0 (Al (wr .i64 (Ah (ofNat t) (ofNat s))) (ofNat n))) (ilt (Al (wr .i64 (Ah (ofNat t) (ofNat s))) (ofNat n)) (ofNat n))=true) (h6:ieq (h (toN (Al (wr .i64 (Ah (ofNat i) (ofNat s))) (ofNat n)))) (h (toN (Al (wr .i64 (Ah (ofNat t) (ofNat s))) (ofNat n))))=false) (h7:ilt (h (toN (Al (wr .i64 (Ah (ofNat t) (ofNat s))) (ofNat n)))) (h (toN (Al (wr .i64 (Ah (ofNat i) (ofNat s))) (ofNat n))))=true) (h8:ieq (wr .i64 (Ah (ofNat i) (wr .i64 (Ah (ofNat s) 1)))) (ofNat t)=false):Au (E4 L) (HA n h) (I4 n h i t s j)=some (.nm,⟨jsV 67 0 Ac [(0,.sl 1 n (λk=>iV (h k))),(3,nV n),(4,iV (wr .i64 (Ah (ofNat i) (wr .i64 (Ah (ofNat s) 1))))),(5,nV t),(6,iV 0)],[]⟩):=by
 exact Ad (ks:=[kn h0,kn h0,kn h0,kn h0,kn h1,kn h1,kn h1,kn h1,kn h2,kn h3,kn h4,kn h3,kn h5,kn h6,kn h7,kn h8]) (by kernel_rfl)
theorem AaD (h0:ile (ofNat n) (ofNat i)=false) (h1:ile (ofNat n) (ofNat t)=false) (h2:ile (ofNat n) (ofNat s)=false) (h3:ieq (ofNat n) 0=false) (h4:Aj (ile 0 (Al (wr .i64 (Ah (ofNat i) (ofNat s))) (ofNat n))) (ilt (Al (wr .i64 (Ah (ofNat i) (ofNat s))) (ofNat n)) (ofNat n))=true) (h5:Aj (ile 0 (Al (wr .i64 (Ah (ofNat t) (ofNat s))) (ofNat n))) (ilt (Al (wr .i64 (Ah (ofNat t) (ofNat s))) (ofNat n)) (ofNat n))=true) (h6:ieq (h (toN (Al (wr .i64 (Ah (ofNat i) (ofNat s))) (ofNat n)))) (h (toN (Al (wr .i64 (Ah (ofNat t) (ofNat s))) (ofNat n))))=false) (h7:ilt (h (toN (Al (wr .i64 (Ah (ofNat t) (ofNat s))) (ofNat n)))) (h (toN (Al (wr .i64 (Ah (ofNat i) (ofNat s))) (ofNat n))))=true) (h8:ieq (wr .i64 (Ah (ofNat i) (wr .i64 (Ah (ofNat s) 1)))) (ofNat t)=true):Au (E4 L) (HA n h) (I4 n h i t s j)=some (.nm,⟨jsV 67 0 Ac [(0,.sl 1 n (λk=>iV (h k))),(3,nV n),(4,iV (wr .i64 (Ah (ofNat i) (wr .i64 (Ah (ofNat s) 1))))),(5,iV (wr .i64 (Ah (ofNat t) 1))),(6,iV 0)],[]⟩):=by
 exact Ad (ks:=[kn h0,kn h0,kn h0,kn h0,kn h1,kn h1,kn h1,kn h1,kn h2,kn h3,kn h4,kn h3,kn h5,kn h6,kn h7,kn h8]) (by kernel_rfl)
theorem AdZ (h0:ile (ofNat n) (ofNat i)=false) (h1:ile (ofNat n) (ofNat t)=false) (h2:ile (ofNat n) (ofNat s)=false) (h3:ieq (ofNat n) 0=false) (h4:Aj (ile 0 (Al (wr .i64 (Ah (ofNat i) (ofNat s))) (ofNat n))) (ilt (Al (wr .i64 (Ah (ofNat i) (ofNat s))) (ofNat n)) (ofNat n))=true) (h5:Aj (ile 0 (Al (wr .i64 (Ah (ofNat t) (ofNat s))) (ofNat n))) (ilt (Al (wr .i64 (Ah (ofNat t) (ofNat s))) (ofNat n)) (ofNat n))=true) (h6:ieq (h (toN (Al (wr .i64 (Ah (ofNat i) (ofNat s))) (ofNat n)))) (h (toN (Al (wr .i64 (Ah (ofNat t) (ofNat s))) (ofNat n))))=false) (h7:ilt (h (toN (Al (wr .i64 (Ah (ofNat t) (ofNat s))) (ofNat n)))) (h (toN (Al (wr .i64 (Ah (ofNat i) (ofNat s))) (ofNat n))))=false) (h8:ieq (ofNat i) (wr .i64 (Ah (ofNat t) (wr .i64 (Ah (ofNat s) 1))))=false):Au (E4 L) (HA n h) (I4 n h i t s j)=some (.nm,⟨jsV 67 0 Ac [(0,.sl 1 n (λk=>iV (h k))),(3,nV n),(4,nV i),(5,iV (wr .i64 (Ah (ofNat t) (wr .i64 (Ah (ofNat s) 1))))),(6,iV 0)],[]⟩):=by
 exact Ad (ks:=[kn h0,kn h0,kn h0,kn h0,kn h1,kn h1,kn h1,kn h1,kn h2,kn h3,kn h4,kn h3,kn h5,kn h6,kn h7,kn h8]) (by kernel_rfl)
theorem AaC (h0:ile (ofNat n) (ofNat i)=false) (h1:ile (ofNat n) (ofNat t)=false) (h2:ile (ofNat n) (ofNat s)=false) (h3:ieq (ofNat n) 0=false) (h4:Aj (ile 0 (Al (wr .i64 (Ah (ofNat i) (ofNat s))) (ofNat n))) (ilt (Al (wr .i64 (Ah (ofNat i) (ofNat s))) (ofNat n)) (ofNat n))=true) (h5:Aj (ile 0 (Al (wr .i64 (Ah (ofNat t) (ofNat s))) (ofNat n))) (ilt (Al (wr .i64 (Ah (ofNat t) (ofNat s))) (ofNat n)) (ofNat n))=true) (h6:ieq (h (toN (Al (wr .i64 (Ah (ofNat i) (ofNat s))) (ofNat n)))) (h (toN (Al (wr .i64 (Ah (ofNat t) (ofNat s))) (ofNat n))))=false) (h7:ilt (h (toN (Al (wr .i64 (Ah (ofNat t) (ofNat s))) (ofNat n)))) (h (toN (Al (wr .i64 (Ah (ofNat i) (ofNat s))) (ofNat n))))=false) (h8:ieq (ofNat i) (wr .i64 (Ah (ofNat t) (wr .i64 (Ah (ofNat s) 1))))=true):Au (E4 L) (HA n h) (I4 n h i t s j)=some (.nm,⟨jsV 67 0 Ac [(0,.sl 1 n (λk=>iV (h k))),(3,nV n),(4,nV i),(5,iV (wr .i64 (Ah (wr .i64 (Ah (ofNat t) (wr .i64 (Ah (ofNat s) 1)))) 1))),(6,iV 0)],[]⟩):=by
 exact Ad (ks:=[kn h0,kn h0,kn h0,kn h0,kn h1,kn h1,kn h1,kn h1,kn h2,kn h3,kn h4,kn h3,kn h5,kn h6,kn h7,kn h8]) (by kernel_rfl)
end
def AcS (n:Nat) (h:Nat->Int) :Nat->V:=lkV AD [(2,iV 0),(9,.sl 1 n (λk=>iV (h k))),(10,nV n)]
theorem AfY (L:LT) (p0:PT) (n:Nat) (h:Nat->Int) (r:Nat)  (hp0:p0 (E4 (onP 0 p0 (TV r) L)) (I4 n h 0 1 0 (AcS n h ))=true):(A7 (An tab ⟨Az tb0,onP 0 p0 (TV r) L,Gl⟩ (RH 0 900 Tryz.f73) [.sl 1 n (λk=>iV (h k))] [])).sem=some ((nV r),[]):=by
 exact Ad (ks:=[kn hp0]) (by kernel_rfl)
def Ew (n:Nat) (h:Nat->Int):Nat->Nat->Nat->Nat->Nat
 | 0,_,_,_=>0
 | q+1,i,t,s =>
  if n <= i ∨ n <= t ∨ n <= s then min (min i t) (n-1)
  else if h ((i+s) % n)=h ((t+s) % n) then Ew n h q i t (s+1)
  else if h ((t+s) % n)<h ((i+s) % n) then Ew n h q (i+s+1) (if i+s+1=t then t+1 else t) 0
  else Ew n h q i (if i=t+s+1 then t+s+2 else t+s+1) 0
def Du (n:Nat) (h:Nat->Int):Nat:=Ew n h (3 * n+4) 0 1 0
theorem Fj {a b:Nat} (h:a+b <= 9223372036854775807):wr .i64 (Ah (ofNat a) (ofNat b))=ofNat (a+b):=by
 unfold wr Ah IntKind.wrap;simp [IntKind.bits,IntKind.signed];omega
theorem LX {a:Nat} (h:a+1 <= 9223372036854775807):wr .i64 (Ah (ofNat a) 1)=ofNat (a+1):=Fj (b:=1) h
theorem D5 (a n:Nat):Al (ofNat a) (ofNat n)=ofNat (a % n):=rfl
theorem Dq (a b:Nat):ieq (ofNat a) (ofNat b)=decide (a=b):=by
 simp only [ieq,Int.ofNat_eq_natCast];by_cases h:a=b
 ·simp [h]
 ·rw [decide_eq_false h]
  simp;omega
theorem ile_nat (a b:Nat):ile (ofNat a) (ofNat b)=decide (a <= b):=by
 simp [ile]
theorem Dp (a b:Nat):ilt (ofNat a) (ofNat b)=decide (a<b):=by
 simp [ilt]
theorem AeZ (n i t:Nat) (hn:n <= 1152921504606846976):sel (ilt (sel (ilt (wr .i64 (Bn (ofNat n) 1)) 0) 0 (wr .i64 (Bn (ofNat n) 1))) (sel (ilt (ofNat t) (ofNat i)) (ofNat t) (ofNat i))) (sel (ilt (wr .i64 (Bn (ofNat n) 1)) 0) 0 (wr .i64 (Bn (ofNat n) 1))) (sel (ilt (ofNat t) (ofNat i)) (ofNat t) (ofNat i))=ofNat (min (min i t) (n-1)):=by
 have h1:wr .i64 (Bn (ofNat n) 1)=(n:Int)-1:=by
  unfold wr Bn IntKind.wrap;simp [IntKind.bits,IntKind.signed];omega
 rw [h1];simp only [sel,ilt,Bool.cond_decide,Int.ofNat_eq_natCast];omega
theorem Kz (L:LT) (n:Nat) (h:Nat->Int) (hn:n <= 1152921504606846976):∀ (q i t s:Nat) (j:Nat->V),i <= 2 * n->t <= 2 * n+1->s <= n->3 * n+1-(i+t+s)<q ->
  (A3 (E4 L) (HA n h) q (I4 n h i t s j)).sem=some (TV (Ew n h q i t s))
 | 0,_,_,_,_,_,_,_,h4=>absurd h4 (Nat.not_lt_zero _)
 | q+1,i,t,s,j,hi,ht,hs,h4=>by
  by_cases ci:n <= i
  ·rw [Ag (Aeb L n h i t s j (by rw [ile_nat,decide_eq_true ci])),PS,AeZ n i t hn,Ew,if_pos (.inl ci)]
   rfl
  ·have ci0:ile (ofNat n) (ofNat i)=false:=by rw [ile_nat,decide_eq_false ci]
   by_cases ct:n <= t
   ·rw [Ag (Aea L n h i t s j ci0 (by rw [ile_nat,decide_eq_true ct])),PS,AeZ n i t hn,Ew,if_pos (.inr (.inl ct))]
    rfl
   ·have ct0:ile (ofNat n) (ofNat t)=false:=by rw [ile_nat,decide_eq_false ct]
    by_cases cs:n <= s
    ·rw [Ag (AdY L n h i t s j ci0 ct0 (by rw [ile_nat,decide_eq_true cs])),PS,AeZ n i t hn,Ew,if_pos (.inr (.inr cs))]
     rfl
    ·have cs0:ile (ofNat n) (ofNat s)=false:=by rw [ile_nat,decide_eq_false cs]
     have cn0:ieq (ofNat n) 0=false:=by
      rw [show (0:Int)=ofNat 0 from rfl,Dq,decide_eq_false (by omega)]
     have e1:Al (wr .i64 (Ah (ofNat i) (ofNat s))) (ofNat n)=ofNat ((i+s) % n):=by rw [Fj (by omega),D5]
     have e2:Al (wr .i64 (Ah (ofNat t) (ofNat s))) (ofNat n)=ofNat ((t+s) % n):=by rw [Fj (by omega),D5]
     have b1:Aj (ile 0 (Al (wr .i64 (Ah (ofNat i) (ofNat s))) (ofNat n))) (ilt (Al (wr .i64 (Ah (ofNat i) (ofNat s))) (ofNat n)) (ofNat n))=true:=by
      rw [e1]; exact Ae (Nat.mod_lt _ (by omega))
     have b2:Aj (ile 0 (Al (wr .i64 (Ah (ofNat t) (ofNat s))) (ofNat n))) (ilt (Al (wr .i64 (Ah (ofNat t) (ofNat s))) (ofNat n)) (ofNat n))=true:=by
      rw [e2]; exact Ae (Nat.mod_lt _ (by omega))
     have t1:∀ a:Nat,toN (ofNat a)=a:=λ_=>rfl;have u1:wr .i64 (Ah (ofNat i) (wr .i64 (Ah (ofNat s) 1)))=ofNat (i+s+1):=by rw [LX (by omega),Fj (by omega)]; rfl
     have u2:wr .i64 (Ah (ofNat t) (wr .i64 (Ah (ofNat s) 1)))=ofNat (t+s+1):=by rw [LX (by omega),Fj (by omega)]; rfl
     rw [Ew,if_neg (by omega)];by_cases ce:h ((i+s) % n)=h ((t+s) % n)
     ·rw [if_pos ce,Ag (Aed L n h i t s j ci0 ct0 cs0 cn0 b1 b2 (by rw [e1,e2,t1,t1]; simp [ieq,ce])),AW,LX (by omega)]
      exact Kz L n h hn q i t (s+1) Ac hi ht (by omega) (by omega)
     ·have ce0:ieq (h (toN (Al (wr .i64 (Ah (ofNat i) (ofNat s))) (ofNat n)))) (h (toN (Al (wr .i64 (Ah (ofNat t) (ofNat s))) (ofNat n))))=false:=by
       rw [e1,e2,t1,t1]; simp [ieq,ce]
      rw [if_neg ce];by_cases cg:h ((t+s) % n)<h ((i+s) % n)
      ·have cg0:ilt (h (toN (Al (wr .i64 (Ah (ofNat t) (ofNat s))) (ofNat n)))) (h (toN (Al (wr .i64 (Ah (ofNat i) (ofNat s))) (ofNat n))))=true:=by
        rw [e1,e2,t1,t1]; simp [ilt,cg]
       rw [if_pos cg];by_cases cq:i+s+1=t
       ·rw [if_pos cq,Ag (AaD L n h i t s j ci0 ct0 cs0 cn0 b1 b2 ce0 cg0 (by rw [u1,Dq,decide_eq_true cq])),AW,u1,LX (by omega)]
        exact Kz L n h hn q (i+s+1) (t+1) 0 Ac (by omega) (by omega) (by omega) (by omega)
       ·rw [if_neg cq,Ag (Aec L n h i t s j ci0 ct0 cs0 cn0 b1 b2 ce0 cg0 (by rw [u1,Dq,decide_eq_false cq])),AW,u1]
        exact Kz L n h hn q (i+s+1) t 0 Ac (by omega) (by omega) (by omega) (by omega)
      ·have cg0:ilt (h (toN (Al (wr .i64 (Ah (ofNat t) (ofNat s))) (ofNat n)))) (h (toN (Al (wr .i64 (Ah (ofNat i) (ofNat s))) (ofNat n))))=false:=by
        rw [e1,e2,t1,t1]; simp [ilt]; omega
       rw [if_neg cg];by_cases cq:i=t+s+1
       ·rw [if_pos cq,Ag (AaC L n h i t s j ci0 ct0 cs0 cn0 b1 b2 ce0 cg0 (by rw [u2,Dq,decide_eq_true cq])),AW,u2,LX (by omega)]
        exact Kz L n h hn q i (t+s+2) 0 Ac (by omega) (by omega) (by omega) (by omega)
       ·rw [if_neg cq,Ag (AdZ L n h i t s j ci0 ct0 cs0 cn0 b1 b2 ce0 cg0 (by rw [u2,Dq,decide_eq_false cq])),AW,u2]
        exact Kz L n h hn q i (t+s+1) 0 Ac (by omega) (by omega) (by omega) (by omega)
def AbF (n:Nat):Bool:=decide (n <= 1152921504606846976)
def Y6:List V->AB:=AbQ λn h=>.br (AbF n) (out (iV (ofNat (Du n h)))) .fail
theorem AiM:As Tryz.prog Gl 73 Y6:=by
 refine Rh (p:=match Tryz.f73.body with | some (.seq p _)=>p | _=>.skip) (c:=match Tryz.f73.body with | some (.seq _ (.scope c))=>c | _=>.skip) (d:=match (match Tryz.f73.body with | some (.seq _ (.scope c))=>Fa 0 c | _=>none) with | some d=>d | none=>.skip) AA mixed Tryz.func73 0 900 (by kernel_rfl) (by kernel_rfl) (by kernel_rfl) (by kernel_rfl) λvs v h' h=>?_
 obtain ⟨n,f,ha,h1⟩:=OU h;obtain ⟨hn,hq⟩:=Ab h1;have:=Aa hq;simp only [Prod.mk.injEq] at this;obtain ⟨rfl,rfl⟩:=this;have hn:n <= 1152921504606846976:=by simpa [AbF] using hn
 have hx:=Bh D7 [(0,HA n f)];exact ⟨_,Br Gl tb0 [(0,HA n f)],_,ha,rfl,hx.1,hx.2,Bb (Bc (Bd _) (Bd _)) _ (AfY _ _ n f _ (A5 (Kz _ n f hn (3 * n+4) 0 1 0 (AcS n f) (by omega) (by omega) (by omega) (by omega)))),Aw.refl _⟩
end Go.Proofs.YtkbafjceglhjhaaGreatDoor.Ed
namespace Go.Proofs.YtkbafjceglhjhaaGreatDoor.Ed
open Go.Sy
open Int (ofNat)
theorem MZ (n m:Nat) (gx g:Nat->V) (i:Nat) (h:i<n+m):Cj n m gx g i=bif Nat.blt i n then gx i else g (i-n):=by
 cases hb:Nat.blt i n with
 | true=>exact MX n m gx g i (Nat.blt_eq ▸ hb)
 | false =>
  have h1:n <= i:=by
   rcases Nat.lt_or_ge i n with h2 | h2
   ·rw [show Nat.blt i n=true from Nat.blt_eq ▸ h2] at hb; cases hb
   ·exact h2
  have:=MY n m gx g (i-n) (by omega);rw [show n+(i-n)=i by omega] at this;exact this
theorem SC {α:Type} (n k:Nat) (z:Nat->V) (h:Nat->α) (e:α->V) (hk:k<n ∨ n=0∧k=0):B1 (B1 0 (H8 n k)) k=n∧∀ j,j<n ->
  Cj (B1 0 (H8 n k)) k (Cj 0 (H8 n k) z (λi=>e (h (B1 k i)))) (λi=>e (h i)) j=e (h ((k+j) % n)):=by
 have h1:B1 0 (H8 n k)=n-k:=by simp [B1,H8]
 have h2:H8 n k=n-k:=rfl;refine ⟨by rw [h1]; show n-k+k=n; omega,λj hj=>?_⟩;rw [h1,h2,MZ _ _ _ _ j (by omega)];cases hb:Nat.blt j (n-k) with
 | true =>have hb:j<n-k:=Nat.blt_eq ▸ hb;show Cj 0 (n-k) z (λi=>e (h (B1 k i))) j=_;rw [MZ _ _ _ _ j (by omega)];show e (h (k+(j-0)))=_;rw [Nat.mod_eq_of_lt (by omega),Nat.sub_zero]
 | false =>
  have hb:n-k <= j:=by
   rcases Nat.lt_or_ge j (n-k) with h3 | h3
   ·rw [show Nat.blt j (n-k)=true from Nat.blt_eq ▸ h3] at hb; cases hb
   ·exact h3
  show e (h (j-(n-k)))=_;rw [show k+j=j-(n-k)+n by omega,Nat.add_mod_right,Nat.mod_eq_of_lt (by omega)]
def F9 (n:Nat):Bool:=decide (n * 8 <= 140737488355328)
theorem DG {n:Nat} (h:F9 n=true):n <= 4611686018427387904:=by
 have h:n * 8 <= 140737488355328:=of_decide_eq_true h;omega
theorem Za {n:Nat} (h:F9 n=true):Ap n=true:=decide_eq_true (DG h)
theorem Afq {n:Nat} (h:F9 n=true):AbF n=true:=by
 have h:n * 8 <= 140737488355328:=of_decide_eq_true h;exact decide_eq_true (by omega)
theorem Gk {n:Nat} (h:CJ n=true):F9 n=true:=by
 have h:n * 40 <= 140737488355328:=of_decide_eq_true h;exact decide_eq_true (by omega)
theorem K8 (n:Nat) (h:Nat->Int):∀ q i t s,Ew n h q i t s <= n-1
 | 0,_,_,_=>Nat.zero_le _
 | q+1,i,t,s=>by
  unfold Ew;split
  ·omega
  ·split
   ·exact K8 n h q _ _ _
   ·split <;> exact K8 n h q _ _ _
theorem W0 (n:Nat) (h:Nat->Int):Du n h <= n-1:=K8 n h _ _ _ _
theorem O8 (n:Nat) (h:Nat->Int):Du n h<n ∨ n=0∧Du n h=0:=by
 have:=W0 n h;omega
def MK (n:Nat) (f:Nat->E6):Lp:=⟨bmK 28 0 [0,2,3,4,9,10,11],2,bmK 28 0 [2,3,4],4,n+1⟩
def QP (n:Nat) (f:Nat->E6) (i k:Nat) (x:Nat->V) (j:Nat->V):St:=⟨jsV 28 0 j [(0,.sl 6 n λi=>eV (f i)),(2,.ref 0),(3,iV 0),(4,.ref 1),(9,.sl 6 n λi=>eV (f i)),(10,nV n),(11,nV i)],[.row 3 1 0 λ_=>.und,.row 3 1 k x]⟩
def Ui (n:Nat) (f:Nat->E6) (i k:Nat) (x:Nat->V):Ex×St:=(.ex 0,⟨jsV 28 0 Ac [(2,.ref 0),(3,iV 0),(4,.ref 1)],[.row 3 1 0 λ_=>.und,.row 3 1 k x]⟩)
def Uh (n:Nat) (f:Nat->E6) (i k:Nat) (x:Nat->V):Ex×St:=(.rt,⟨jsV 28 0 Ac [(2,.ref 3),(3,iV 30),(4,.ref 1)],[.row 3 1 0 λ_=>.und,.row 3 1 k x,.cells [iV (f i).kind,bV (f i).ext,bV (f i).same,iV (f i).src,iV (f i).dst,iV (f i).fence],.row 3 1 0 λ_=>.und]⟩)
noncomputable def Kd (L:LT):St->T (Ex×St):=λst=>AI tab ⟨Az tb8,L,Gl⟩ (A0 Tryz.f72 0) 0 st
theorem Jy (L:LT) (n:Nat) (f:Nat->E6) (i k:Nat) (x:Nat->V) (j:Nat->V):Au (Kd L) (MK n f) (QP n f i k x j)
 = (sel (ilt (ofNat i) (ofNat n)) (sel (Aj (ile 0 (ofNat i)) (ilt (ofNat i) (ofNat n))) (sel (AL (ieq (AZ (f i)) 0)) (some (.rt,⟨[.und,.und,.ref 3,iV 30,.ref 1,.und,.und,.und,.und,.und,.und,.und,.und,.und,.und,.und,.und,.und,.und,.und,.und,.und,.und,.und,.und,.und,.und,.und],[.row 3 1 0 Ac,.row 3 1 k x,.cells [iV (f i).kind,bV (f i).ext,bV (f i).same,iV (f i).src,iV (f i).dst,iV (f i).fence],.row 3 1 0 Ac]⟩)) (sel (Dk k 1 8) (some (.nm,⟨[.sl 6 n (λi=>eV (f i)),.und,.ref 0,iV 0,.ref 1,.und,.und,.und,.und,.sl 6 n (λi=>eV (f i)),nV n,iV (wr .i64 (Ah (ofNat i) 1)),.und,.und,.und,.und,.und,.und,.und,.und,.und,.und,.und,.und,.und,.und,.und,.und],[.row 3 1 0 Ac,.row 3 1 (B1 k 1) (Be k x (iV (BG (f i))))]⟩)) none)) none) (some ((.ex 0),⟨[.und,.und,.ref 0,iV 0,.ref 1,.und,.und,.und,.und,.und,.und,.und,.und,.und,.und,.und,.und,.und,.und,.und,.und,.und,.und,.und,.und,.und,.und,.und],[.row 3 1 0 Ac,.row 3 1 k x]⟩))):=by kernel_rfl
def Vj (n:Nat) (f:Nat->E6) :Nat->V:=lkV AD []
section
variable (L:LT) (p0:PT) (n:Nat) (f:Nat->E6) (i k:Nat) (x:Nat->V)
include L p0 n f i k x
theorem AdC  (hp0:p0 (Kd (onP 0 p0 (Ui n f i k x) L)) (QP n f 0 0 Ac (Vj n f ))=true):(A7 (An tab ⟨Az tb8,onP 0 p0 (Ui n f i k x) L,Gl⟩ Tryz.f72 [A9 n f] [])).sem=some ((.tup [.ref 0,iV 0]),[.row 3 1 k x]):=by
 exact Ad (ks:=[kn hp0]) (by kernel_rfl)
theorem AdB  (hp0:p0 (Kd (onP 0 p0 (Uh n f i k x) L)) (QP n f 0 0 Ac (Vj n f ))=true):(A7 (An tab ⟨Az tb8,onP 0 p0 (Uh n f i k x) L,Gl⟩ Tryz.f72 [A9 n f] [])).sem=some ((.tup [.ref 0,iV 30]),[.row 3 1 0 Ac]):=by
 exact Ad (ks:=[kn hp0]) (by kernel_rfl)
end
theorem UK (L:LT) (n:Nat) (f:Nat->E6) (hn:CJ n=true) (ho:∀ t,t<n->AZ (f t)=0):∀ (d i:Nat) (j:Nat->V) (q:Nat),n=i+d->d<q ->
  (A3 (Kd L) (MK n f) q (QP n f i i (Cp (cdV f) i) j)).sem=some (Ui n f 0 n (Cp (cdV f) n))
 | 0,i,j,q+1,h1,_=>by
  have hi:i=n:=by omega
  subst hi;rw [Ag (Jy L i f i i _ j),Av (Nat.le_refl i)];rfl
 | d+1,i,j,q+1,h1,h2=>by
  have hi:i<n:=by omega
  rw [Ag (Jy L n f i i _ j),Ae hi,ofNat_lt hi,Qw hi (by decide) (of_decide_eq_true hn),Ax hi (Ip hn),ho i hi];exact UK L n f hn ho d (i+1) Ac q (by omega) (by omega)
theorem UJ (L:LT) (n:Nat) (f:Nat->E6) (hn:CJ n=true) (e:Nat) (he:e<n) (hb:AZ (f e)=30) (ho:∀ t,t<e->AZ (f t)=0):∀ (d i:Nat) (j:Nat->V) (q:Nat),e=i+d->d<q ->
  (A3 (Kd L) (MK n f) q (QP n f i i (Cp (cdV f) i) j)).sem=some (Uh n f e e (Cp (cdV f) e))
 | 0,i,j,q+1,h1,_=>by
  have hi:i=e:=by omega
  subst hi;rw [Ag (Jy L n f i i _ j),Ae he,ofNat_lt he,hb];rfl
 | d+1,i,j,q+1,h1,h2=>by
  have hi:i<n:=by omega
  rw [Ag (Jy L n f i i _ j),Ae hi,ofNat_lt hi,Qw hi (by decide) (of_decide_eq_true hn),Ax hi (Ip hn),ho i (by omega)];exact UJ L n f hn e he hb ho d (i+1) Ac q (by omega) (by omega)
theorem AiN:As Tryz.prog Gl 72 Zv:=by
 refine Am AA mixed Tryz.func72 (by kernel_rfl) (by kernel_rfl) λvs v h' h=>?_;obtain ⟨n,f,ha,h⟩:=CW h;obtain ⟨hn,h⟩:=Ab h;have hx:=Bh Kt [(0,MK n f)];cases hm:DX n f with
 | true =>
  rw [hm] at h;have:=Aa h;simp only [Prod.mk.injEq] at this;obtain ⟨rfl,rfl⟩:=this;exact ⟨_,cx9 [(0,MK n f)],_,ha,rfl,hx.1,hx.2,Bb (Bc (Bd _) (Bd _)) _ (AdC _ _ n f 0 n _ (A5 (UK _ n f hn (Fx.1 hm) n 0 (Vj n f) (n+1) (by omega) (by omega)))),
   Aw.one λj hj=>(J0 (cdV f) n j hj).symm⟩
 | false =>rw [hm] at h;have:=Aa h;simp only [Prod.mk.injEq] at this;obtain ⟨rfl,rfl⟩:=this;obtain ⟨e,h1,h2,h3⟩:=Yq hm;have hw:=Bb (Bc (Bd _) (Bd _)) _ (AdB (Cq [(0,MK n f)]) _ n f e e _ (A5 (UJ _ n f hn e h1 h2 h3 e 0 (Vj n f) (n+1) (by omega) (by omega))));exact ⟨_,cx9 [(0,MK n f)],_,ha,rfl,hx.1,hx.2,hw,Aw.refl _⟩
theorem FV {n m b:Nat} (h:(n+m) * b <= 140737488355328):Dk n m b=true:=decide_eq_true h
noncomputable def Aah:AK:=(72,Zv)::(73,Y6)::[]
theorem Aag:Ar Tryz.prog Gl Aah:=.cons AiN <| .cons AiM .nil
def Acx (n:Nat) (f:Nat->E6) (k:Nat):Blk:=.row 76 6 (B1 (B1 0 (H8 n k)) k) (Cj (B1 0 (H8 n k)) k (Cj 0 (H8 n k) (λ_=>eV Hn) (λi=>eV (f (B1 k i)))) (λi=>eV (f i)))
theorem AfX (L:LT) (n:Nat) (f:Nat->E6) (h0:CJ n=true) (h1:DX n f=true) (h2:AbF n=true) (h3:Eu 40 0 (ofNat n)=true) (h13:Aj (ile 0 (ofNat (Du n (λi=>BG (f i))))) (ile (ofNat (Du n (λi=>BG (f i)))) (ofNat n))=true) (h14:Dk 0 (H8 n (Du n (λi=>BG (f i)))) 40=true) (h15:Dk (B1 0 (H8 n (Du n (λi=>BG (f i))))) (Du n (λi=>BG (f i))) 40=true):(A7 (An tab ⟨Az Aah,L,Gl⟩ Tryz.f48 [A9 n f] [])).sem=some ((.tup [.ref 0,iV 0]),[Acx n f (Du n (λi=>BG (f i)))]):=by
 exact Ad (ks:=[kL n,kn h0,kn h1,kN (kI 0),kL n,kn h2,kn h3,kn h13,kn h14,kn h13,kn h15]) (by kernel_rfl)
def Cu (n:Nat) (f:Nat->E6) (i:Nat):E6:=f ((Du n (λi=>BG (f i))+i) % n)
def IY:List V->AB:=G8 λn f=>.br (CJ n) (.br (DX n f) (.leaf (.tup [.ref 0,iV 0],[.row 76 6 n λi=>eV (Cu n f i)])) (.leaf (.tup [.ref 0,iV 30],[.row 76 6 0 λ_=>.und]))) .fail
theorem p65:As Tryz.prog Gl 48 IY:=by
 refine Am AA mixed Tryz.func48 (by kernel_rfl) (by kernel_rfl) λvs v h' h=>?_;obtain ⟨n,f,ha,h⟩:=CW h;obtain ⟨hn,h⟩:=Ab h;have hx:=Bh Aag [];cases hm:DX n f with
 | true =>
  rw [hm] at h;have:=Aa h;simp only [Prod.mk.injEq] at this;obtain ⟨rfl,rfl⟩:=this;have hn':n * 40 <= 140737488355328:=of_decide_eq_true hn;have hk:=O8 n (λi=>BG (f i));have e3:∀ k,B1 0 (H8 n k)=n-k:=λk=>by simp [B1,H8]
  have hw:=AfX (Cq []) n f hn hm (Afq (Gk hn)) (by
    simp only [Eu,Bool.and_eq_true,decide_eq_true_eq,Int.ofNat_eq_natCast]; omega) (by
    rw [ile_nat,show (0:Int)=ofNat 0 from rfl,ile_nat]; simp [Aj]; omega) (by
    exact FV (by show (0+(n-Du n (λi=>BG (f i)))) * 40 <= _; omega)) (by
    rw [e3]; exact FV (by omega))
  obtain ⟨r1,r2⟩:=SC n (Du n (λi=>BG (f i))) (λ_=>eV Hn) f eV hk;unfold Acx at hw;rw [r1] at hw;exact ⟨_,Br Gl Aah [],_,ha,rfl,hx.1,hx.2,hw,Aw.one λj hj=>(r2 j hj).symm⟩
 | false =>rw [hm] at h;have:=Aa h;simp only [Prod.mk.injEq] at this;obtain ⟨rfl,rfl⟩:=this;exact ⟨_,Br Gl Aah [],_,ha,rfl,hx.1,hx.2,Ad (ks:=[kL n,kn hn,kn hm,kN (⟨ieq 30 0,false,rfl⟩)]) (by kernel_rfl)/-W:wc65n-/,Aw.refl _⟩
theorem e42 (Γ:Cx) (vs:List V) (h:List Blk):An tab Γ Tryz.f43 vs h=An tab Γ Tryz.f43 vs h:=by kernel_rfl
theorem p42:As Tryz.prog Gl 43 QU:=by
 refine Am AA mixed Tryz.func43 (by kernel_rfl) (by kernel_rfl) λvs v h' h=>?_;obtain ⟨n,f,m,g,ha,h⟩:=OT h;obtain ⟨hn,h⟩:=Ab h;have:=Aa h;simp only [Prod.mk.injEq] at this;obtain ⟨rfl,rfl⟩:=this;have hx:=Bh Kt [(0,K6 n)];exact ⟨_,cx9 [(0,K6 n)],_,ha,rfl,hx.1,hx.2,by rw [e42]; exact XJ n m f g (of_decide_eq_true hn),Aw.refl _⟩
theorem AbN {a b:E6} (ha:AZ a=0) (hb:AZ b=0) (h:BG a=BG b):a=b:=by
 rcases EI a with ⟨k,_,_,h1,h2,_⟩ | ⟨h1,_⟩
 ·rcases EI b with ⟨l,_,_,h3,h4,_⟩ | ⟨h3,_⟩
  ·rw [h1,h3] at h
   have:=Int.ofNat.inj h;rw [<- h2,<- h4,this]
  ·rw [hb] at h3; cases h3
 ·rw [ha] at h1; cases h1
theorem Mm {n:Nat} {f:Nat->E6} {m:Nat} {g:Nat->E6}:DR n f m g=true↔n=m∧∀ i,i<n->f i=g i:=by
 unfold DR;rw [Dq];by_cases h:n=m
 ·rw [decide_eq_true h]
  show F3 f g n 0=true↔_;rw [Nn];exact ⟨λh1=>⟨h,λi hi=>h1 i (Nat.zero_le _) (by omega)⟩,λh1 j _ h3=>h1.2 j (by omega)⟩
 ·rw [decide_eq_false h]
  exact ⟨λh=>(by cases h),λh1=>absurd h1.1 h⟩
def AU (q:Nat->Bool):Nat->Nat->Option Nat
 | 0,_=>none
 | d+1,i=>match q i with
  | true=>some i
  | false=>AU q d (i+1)
theorem Fz {q:Nat->Bool} {d i:Nat} (h:q i=true):AU q (d+1) i=some i:=by rw [AU,h]
theorem F2 {q:Nat->Bool} {d i:Nat} (h:q i=false):AU q (d+1) i=AU q d (i+1):=by rw [AU,h]
theorem Ck {a b:Int} (h:ieq a b=true):a=b:=by simpa [ieq] using h
end Go.Proofs.YtkbafjceglhjhaaGreatDoor.Ed
