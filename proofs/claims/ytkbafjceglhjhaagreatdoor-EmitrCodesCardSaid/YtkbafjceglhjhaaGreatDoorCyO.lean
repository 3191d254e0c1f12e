/-
  Least: where the least turned list begins, as the program walks. No conditions.
-/
import Derived.Test.YtkbafjceglhjhaaGreatDoorCyI
namespace Go.Proofs.YtkbafjceglhjhaaGreatDoor.Ed
open Go.Sy
open Int (ofNat)
def VZ (r:Nat):Ex×St:=(.rt,⟨jsV 67 0 Ab [(2,nV r)],[]⟩)
def I7 (n:Nat) (h:Nat->Int):Lp:=⟨bmK 67 0 [0,3,4,5,6],1,bmK 67 0 [2],1,3 * n+4⟩
def J3 (n:Nat) (h:Nat->Int) (i t s:Nat) (j:Nat->V):St:=⟨jsV 67 0 j [(0,.sl 1 n (λk=>iV (h k))),(3,nV n),(4,nV i),(5,nV t),(6,nV s)],[]⟩
noncomputable def EU (L:LT):St->T (Ex×St):=λst=>A8 tab ⟨Ax tb0,L,Gl⟩ (As (Ue 0 900 Tryz.f73) 0) 0 st
section
variable (L:LT) (n:Nat) (h:Nat->Int) (i t s:Nat)  (j:Nat->V)
include L n h i t s j
theorem AiE (h0:ile (ofNat n) (ofNat i)=true):Ay (EU L) (I7 n h) (J3 n h i t s j)=some (.rt,⟨jsV 67 0 Ab [(2,iV (sel (ilt (sel (ilt (wr .i64 (AZ (ofNat n) 1)) 0) 0 (wr .i64 (AZ (ofNat n) 1))) (sel (ilt (ofNat t) (ofNat i)) (ofNat t) (ofNat i))) (sel (ilt (wr .i64 (AZ (ofNat n) 1)) 0) 0 (wr .i64 (AZ (ofNat n) 1))) (sel (ilt (ofNat t) (ofNat i)) (ofNat t) (ofNat i))))],[]⟩):=by
 exact Ad (ks:=[kn h0,kn h0,kn h0,kn h0,kT,kT,kT,kT,kT]) (by kernel_rfl)
theorem AiD (h0:ile (ofNat n) (ofNat i)=false) (h1:ile (ofNat n) (ofNat t)=true):Ay (EU L) (I7 n h) (J3 n h i t s j)=some (.rt,⟨jsV 67 0 Ab [(2,iV (sel (ilt (sel (ilt (wr .i64 (AZ (ofNat n) 1)) 0) 0 (wr .i64 (AZ (ofNat n) 1))) (sel (ilt (ofNat t) (ofNat i)) (ofNat t) (ofNat i))) (sel (ilt (wr .i64 (AZ (ofNat n) 1)) 0) 0 (wr .i64 (AZ (ofNat n) 1))) (sel (ilt (ofNat t) (ofNat i)) (ofNat t) (ofNat i))))],[]⟩):=by
 exact Ad (ks:=[kn h0,kn h0,kn h0,kn h0,kn h1,kn h1,kn h1,kn h1,kT]) (by kernel_rfl)
theorem AiB (h0:ile (ofNat n) (ofNat i)=false) (h1:ile (ofNat n) (ofNat t)=false) (h2:ile (ofNat n) (ofNat s)=true):Ay (EU L) (I7 n h) (J3 n h i t s j)=some (.rt,⟨jsV 67 0 Ab [(2,iV (sel (ilt (sel (ilt (wr .i64 (AZ (ofNat n) 1)) 0) 0 (wr .i64 (AZ (ofNat n) 1))) (sel (ilt (ofNat t) (ofNat i)) (ofNat t) (ofNat i))) (sel (ilt (wr .i64 (AZ (ofNat n) 1)) 0) 0 (wr .i64 (AZ (ofNat n) 1))) (sel (ilt (ofNat t) (ofNat i)) (ofNat t) (ofNat i))))],[]⟩):=by
 exact Ad (ks:=[kn h0,kn h0,kn h0,kn h0,kn h1,kn h1,kn h1,kn h1,kn h2]) (by kernel_rfl)
theorem AiG (h0:ile (ofNat n) (ofNat i)=false) (h1:ile (ofNat n) (ofNat t)=false) (h2:ile (ofNat n) (ofNat s)=false) (h3:ieq (ofNat n) 0=false) (h4:Aj (ile 0 (Aq (wr .i64 (Ah (ofNat i) (ofNat s))) (ofNat n))) (ilt (Aq (wr .i64 (Ah (ofNat i) (ofNat s))) (ofNat n)) (ofNat n))=true) (h5:Aj (ile 0 (Aq (wr .i64 (Ah (ofNat t) (ofNat s))) (ofNat n))) (ilt (Aq (wr .i64 (Ah (ofNat t) (ofNat s))) (ofNat n)) (ofNat n))=true) (h6:ieq (h (toN (Aq (wr .i64 (Ah (ofNat i) (ofNat s))) (ofNat n)))) (h (toN (Aq (wr .i64 (Ah (ofNat t) (ofNat s))) (ofNat n))))=true):Ay (EU L) (I7 n h) (J3 n h i t s j)=some (.nm,⟨jsV 67 0 Ab [(0,.sl 1 n (λk=>iV (h k))),(3,nV n),(4,nV i),(5,nV t),(6,iV (wr .i64 (Ah (ofNat s) 1)))],[]⟩):=by
 exact Ad (ks:=[kn h0,kn h0,kn h0,kn h0,kn h1,kn h1,kn h1,kn h1,kn h2,kn h3,kn h4,kn h3,kn h5,kn h6]) (by kernel_rfl)
theorem AiF (h0:ile (ofNat n) (ofNat i)=false) (h1:ile (ofNat n) (ofNat t)=false) (h2:ile (ofNat n) (ofNat s)=false) (h3:ieq (ofNat n) 0=false) (h4:Aj (ile 0 (Aq (wr .i64 (Ah (ofNat i) (ofNat s))) (ofNat n))) (ilt (Aq (wr .i64 (Ah (ofNat i) (ofNat s))) (ofNat n)) (ofNat n))=true) (h5:Aj (ile 0 (Aq (wr .i64 (Ah (ofNat t) (ofNat s))) (ofNat n))) (ilt (Aq (wr .i64 (Ah (ofNat t) (ofNat s))) (ofNat n)) (ofNat n))=true) (h6:ieq (h (toN (Aq (wr .i64 (Ah (ofNat i) (ofNat s))) (ofNat n)))) (h (toN (Aq (wr .i64 (Ah (ofNat t) (ofNat s))) (ofNat n))))=false) (h7:ilt (h (toN (Aq (wr .i64 (Ah (ofNat t) (ofNat s))) (ofNat n)))) (h (toN (Aq (wr .i64 (Ah (ofNat i) (ofNat s))) (ofNat n))))=true) (h8:ieq (wr .i64 (Ah (ofNat i) (wr .i64 (Ah (ofNat s) 1)))) (ofNat t)=false):Ay (EU L) (I7 n h) (J3 n h i t s j)=some (.nm,⟨jsV 67 0 Ab [(0,.sl 1 n (λk=>iV (h k))),(3,nV n),(4,iV (wr .i64 (Ah (ofNat i) (wr .i64 (Ah (ofNat s) 1))))),(5,nV t),(6,iV 0)],[]⟩):=by
 exact Ad (ks:=[kn h0,kn h0,kn h0,kn h0,kn h1,kn h1,kn h1,kn h1,kn h2,kn h3,kn h4,kn h3,kn h5,kn h6,kn h7,kn h8]) (by kernel_rfl)
theorem Aes (h0:ile (ofNat n) (ofNat i)=false) (h1:ile (ofNat n) (ofNat t)=false) (h2:ile (ofNat n) (ofNat s)=false) (h3:ieq (ofNat n) 0=false) (h4:Aj (ile 0 (Aq (wr .i64 (Ah (ofNat i) (ofNat s))) (ofNat n))) (ilt (Aq (wr .i64 (Ah (ofNat i) (ofNat s))) (ofNat n)) (ofNat n))=true) (h5:Aj (ile 0 (Aq (wr .i64 (Ah (ofNat t) (ofNat s))) (ofNat n))) (ilt (Aq (wr .i64 (Ah (ofNat t) (ofNat s))) (ofNat n)) (ofNat n))=true) (h6:ieq (h (toN (Aq (wr .i64 (Ah (ofNat i) (ofNat s))) (ofNat n)))) (h (toN (Aq (wr .i64 (Ah (ofNat t) (ofNat s))) (ofNat n))))=false) (h7:ilt (h (toN (Aq (wr .i64 (Ah (ofNat t) (ofNat s))) (ofNat n)))) (h (toN (Aq (wr .i64 (Ah (ofNat i) (ofNat s))) (ofNat n))))=true) (h8:ieq (wr .i64 (Ah (ofNat i) (wr .i64 (Ah (ofNat s) 1)))) (ofNat t)=true):Ay (EU L) (I7 n h) (J3 n h i t s j)=some (.nm,⟨jsV 67 0 Ab [(0,.sl 1 n (λk=>iV (h k))),(3,nV n),(4,iV (wr .i64 (Ah (ofNat i) (wr .i64 (Ah (ofNat s) 1))))),(5,iV (wr .i64 (Ah (ofNat t) 1))),(6,iV 0)],[]⟩):=by
 exact Ad (ks:=[kn h0,kn h0,kn h0,kn h0,kn h1,kn h1,kn h1,kn h1,kn h2,kn h3,kn h4,kn h3,kn h5,kn h6,kn h7,kn h8]) (by kernel_rfl)
theorem AiC (h0:ile (ofNat n) (ofNat i)=false) (h1:ile (ofNat n) (ofNat t)=false) (h2:ile (ofNat n) (ofNat s)=false) (h3:ieq (ofNat n) 0=false) (h4:Aj (ile 0 (Aq (wr .i64 (Ah (ofNat i) (ofNat s))) (ofNat n))) (ilt (Aq (wr .i64 (Ah (ofNat i) (ofNat s))) (ofNat n)) (ofNat n))=true) (h5:Aj (ile 0 (Aq (wr .i64 (Ah (ofNat t) (ofNat s))) (ofNat n))) (ilt (Aq (wr .i64 (Ah (ofNat t) (ofNat s))) (ofNat n)) (ofNat n))=true) (h6:ieq (h (toN (Aq (wr .i64 (Ah (ofNat i) (ofNat s))) (ofNat n)))) (h (toN (Aq (wr .i64 (Ah (ofNat t) (ofNat s))) (ofNat n))))=false) (h7:ilt (h (toN (Aq (wr .i64 (Ah (ofNat t) (ofNat s))) (ofNat n)))) (h (toN (Aq (wr .i64 (Ah (ofNat i) (ofNat s))) (ofNat n))))=false) (h8:ieq (ofNat i) (wr .i64 (Ah (ofNat t) (wr .i64 (Ah (ofNat s) 1))))=false):Ay (EU L) (I7 n h) (J3 n h i t s j)=some (.nm,⟨jsV 67 0 Ab [(0,.sl 1 n (λk=>iV (h k))),(3,nV n),(4,nV i),(5,iV (wr .i64 (Ah (ofNat t) (wr .i64 (Ah (ofNat s) 1))))),(6,iV 0)],[]⟩):=by
 exact Ad (ks:=[kn h0,kn h0,kn h0,kn h0,kn h1,kn h1,kn h1,kn h1,kn h2,kn h3,kn h4,kn h3,kn h5,kn h6,kn h7,kn h8]) (by kernel_rfl)
theorem Aer (h0:ile (ofNat n) (ofNat i)=false) (h1:ile (ofNat n) (ofNat t)=false) (h2:ile (ofNat n) (ofNat s)=false) (h3:ieq (ofNat n) 0=false) (h4:Aj (ile 0 (Aq (wr .i64 (Ah (ofNat i) (ofNat s))) (ofNat n))) (ilt (Aq (wr .i64 (Ah (ofNat i) (ofNat s))) (ofNat n)) (ofNat n))=true) (h5:Aj (ile 0 (Aq (wr .i64 (Ah (ofNat t) (ofNat s))) (ofNat n))) (ilt (Aq (wr .i64 (Ah (ofNat t) (ofNat s))) (ofNat n)) (ofNat n))=true) (h6:ieq (h (toN (Aq (wr .i64 (Ah (ofNat i) (ofNat s))) (ofNat n)))) (h (toN (Aq (wr .i64 (Ah (ofNat t) (ofNat s))) (ofNat n))))=false) (h7:ilt (h (toN (Aq (wr .i64 (Ah (ofNat t) (ofNat s))) (ofNat n)))) (h (toN (Aq (wr .i64 (Ah (ofNat i) (ofNat s))) (ofNat n))))=false) (h8:ieq (ofNat i) (wr .i64 (Ah (ofNat t) (wr .i64 (Ah (ofNat s) 1))))=true):Ay (EU L) (I7 n h) (J3 n h i t s j)=some (.nm,⟨jsV 67 0 Ab [(0,.sl 1 n (λk=>iV (h k))),(3,nV n),(4,nV i),(5,iV (wr .i64 (Ah (wr .i64 (Ah (ofNat t) (wr .i64 (Ah (ofNat s) 1)))) 1))),(6,iV 0)],[]⟩):=by
 exact Ad (ks:=[kn h0,kn h0,kn h0,kn h0,kn h1,kn h1,kn h1,kn h1,kn h2,kn h3,kn h4,kn h3,kn h5,kn h6,kn h7,kn h8]) (by kernel_rfl)
end
def Ahi (n:Nat) (h:Nat->Int) :Nat->V:=lkV AI [(2,iV 0),(9,.sl 1 n (λk=>iV (h k))),(10,nV n)]
theorem Alg (L:LT) (p0:PT) (n:Nat) (h:Nat->Int) (r:Nat)  (hp0:p0 (EU (onP 0 p0 (VZ r) L)) (J3 n h 0 1 0 (Ahi n h ))=true):(A0 (Ai tab ⟨Ax tb0,onP 0 p0 (VZ r) L,Gl⟩ (Ue 0 900 Tryz.f73) [.sl 1 n (λk=>iV (h k))] [])).sem=some ((nV r),[]):=by
 exact Ad (ks:=[kn hp0]) (by kernel_rfl)
def EL (n:Nat) (h:Nat->Int):Nat->Nat->Nat->Nat->Nat
 | 0,_,_,_=>0
 | q+1,i,t,s =>
  if n <= i ∨ n <= t ∨ n <= s then min (min i t) (n-1)
  else if h ((i+s) % n)=h ((t+s) % n) then EL n h q i t (s+1)
  else if h ((t+s) % n)<h ((i+s) % n) then EL n h q (i+s+1) (if i+s+1=t then t+1 else t) 0
  else EL n h q i (if i=t+s+1 then t+s+2 else t+s+1) 0
def DG (n:Nat) (h:Nat->Int):Nat:=EL n h (3 * n+4) 0 1 0
theorem FT {a b:Nat} (h:a+b <= 9223372036854775807):wr .i64 (Ah (ofNat a) (ofNat b))=ofNat (a+b):=by
 unfold wr Ah IntKind.wrap;simp [IntKind.bits,IntKind.signed];omega
theorem Nr {a:Nat} (h:a+1 <= 9223372036854775807):wr .i64 (Ah (ofNat a) 1)=ofNat (a+1):=FT (b:=1) h
theorem DZ (a n:Nat):Aq (ofNat a) (ofNat n)=ofNat (a % n):=rfl
theorem D8 (a b:Nat):ieq (ofNat a) (ofNat b)=decide (a=b):=by
 simp only [ieq,Int.ofNat_eq_natCast];by_cases h:a=b
 ·simp [h]
 ·rw [decide_eq_false h]
  simp;omega
theorem ile_nat (a b:Nat):ile (ofNat a) (ofNat b)=decide (a <= b):=by
 simp [ile]
theorem Dt (a b:Nat):ilt (ofNat a) (ofNat b)=decide (a<b):=by
 simp [ilt]
theorem AjI (n i t:Nat) (hn:n <= 1152921504606846976):sel (ilt (sel (ilt (wr .i64 (AZ (ofNat n) 1)) 0) 0 (wr .i64 (AZ (ofNat n) 1))) (sel (ilt (ofNat t) (ofNat i)) (ofNat t) (ofNat i))) (sel (ilt (wr .i64 (AZ (ofNat n) 1)) 0) 0 (wr .i64 (AZ (ofNat n) 1))) (sel (ilt (ofNat t) (ofNat i)) (ofNat t) (ofNat i))=ofNat (min (min i t) (n-1)):=by
 have h1:wr .i64 (AZ (ofNat n) 1)=(n:Int)-1:=by
  unfold wr AZ IntKind.wrap;simp [IntKind.bits,IntKind.signed];omega
 rw [h1];simp only [sel,ilt,Bool.cond_decide,Int.ofNat_eq_natCast];omega
theorem L2 (L:LT) (n:Nat) (h:Nat->Int) (hn:n <= 1152921504606846976):∀ (q i t s:Nat) (j:Nat->V),i <= 2 * n->t <= 2 * n+1->s <= n->3 * n+1-(i+t+s)<q ->
  (Au (EU L) (I7 n h) q (J3 n h i t s j)).sem=some (VZ (EL n h q i t s))
 | 0,_,_,_,_,_,_,_,h4=>absurd h4 (Nat.not_lt_zero _)
 | q+1,i,t,s,j,hi,ht,hs,h4=>by
  by_cases ci:n <= i
  ·rw [Ag (AiE L n h i t s j (by rw [ile_nat,decide_eq_true ci])),RR,AjI n i t hn,EL,if_pos (.inl ci)]
   rfl
  ·have ci0:ile (ofNat n) (ofNat i)=false:=by rw [ile_nat,decide_eq_false ci]
   by_cases ct:n <= t
   ·rw [Ag (AiD L n h i t s j ci0 (by rw [ile_nat,decide_eq_true ct])),RR,AjI n i t hn,EL,if_pos (.inr (.inl ct))]
    rfl
   ·have ct0:ile (ofNat n) (ofNat t)=false:=by rw [ile_nat,decide_eq_false ct]
    by_cases cs:n <= s
    ·rw [Ag (AiB L n h i t s j ci0 ct0 (by rw [ile_nat,decide_eq_true cs])),RR,AjI n i t hn,EL,if_pos (.inr (.inr cs))]
     rfl
    ·have cs0:ile (ofNat n) (ofNat s)=false:=by rw [ile_nat,decide_eq_false cs]
     have cn0:ieq (ofNat n) 0=false:=by
      rw [show (0:Int)=ofNat 0 from rfl,D8,decide_eq_false (by omega)]
     have e1:Aq (wr .i64 (Ah (ofNat i) (ofNat s))) (ofNat n)=ofNat ((i+s) % n):=by rw [FT (by omega),DZ]
     have e2:Aq (wr .i64 (Ah (ofNat t) (ofNat s))) (ofNat n)=ofNat ((t+s) % n):=by rw [FT (by omega),DZ]
     have b1:Aj (ile 0 (Aq (wr .i64 (Ah (ofNat i) (ofNat s))) (ofNat n))) (ilt (Aq (wr .i64 (Ah (ofNat i) (ofNat s))) (ofNat n)) (ofNat n))=true:=by
      rw [e1]; exact Ae (Nat.mod_lt _ (by omega))
     have b2:Aj (ile 0 (Aq (wr .i64 (Ah (ofNat t) (ofNat s))) (ofNat n))) (ilt (Aq (wr .i64 (Ah (ofNat t) (ofNat s))) (ofNat n)) (ofNat n))=true:=by
      rw [e2]; exact Ae (Nat.mod_lt _ (by omega))
     have t1:∀ a:Nat,toN (ofNat a)=a:=λ_=>rfl;have u1:wr .i64 (Ah (ofNat i) (wr .i64 (Ah (ofNat s) 1)))=ofNat (i+s+1):=by rw [Nr (by omega),FT (by omega)]; rfl
     have u2:wr .i64 (Ah (ofNat t) (wr .i64 (Ah (ofNat s) 1)))=ofNat (t+s+1):=by rw [Nr (by omega),FT (by omega)]; rfl
     rw [EL,if_neg (by omega)];by_cases ce:h ((i+s) % n)=h ((t+s) % n)
     ·rw [if_pos ce,Ag (AiG L n h i t s j ci0 ct0 cs0 cn0 b1 b2 (by rw [e1,e2,t1,t1]; simp [ieq,ce])),AV,Nr (by omega)]
      exact L2 L n h hn q i t (s+1) Ab hi ht (by omega) (by omega)
     ·have ce0:ieq (h (toN (Aq (wr .i64 (Ah (ofNat i) (ofNat s))) (ofNat n)))) (h (toN (Aq (wr .i64 (Ah (ofNat t) (ofNat s))) (ofNat n))))=false:=by
       rw [e1,e2,t1,t1]; simp [ieq,ce]
      rw [if_neg ce];by_cases cg:h ((t+s) % n)<h ((i+s) % n)
      ·have cg0:ilt (h (toN (Aq (wr .i64 (Ah (ofNat t) (ofNat s))) (ofNat n)))) (h (toN (Aq (wr .i64 (Ah (ofNat i) (ofNat s))) (ofNat n))))=true:=by
        rw [e1,e2,t1,t1]; simp [ilt,cg]
       rw [if_pos cg];by_cases cq:i+s+1=t
       ·rw [if_pos cq,Ag (Aes L n h i t s j ci0 ct0 cs0 cn0 b1 b2 ce0 cg0 (by rw [u1,D8,decide_eq_true cq])),AV,u1,Nr (by omega)]
        exact L2 L n h hn q (i+s+1) (t+1) 0 Ab (by omega) (by omega) (by omega) (by omega)
       ·rw [if_neg cq,Ag (AiF L n h i t s j ci0 ct0 cs0 cn0 b1 b2 ce0 cg0 (by rw [u1,D8,decide_eq_false cq])),AV,u1]
        exact L2 L n h hn q (i+s+1) t 0 Ab (by omega) (by omega) (by omega) (by omega)
      ·have cg0:ilt (h (toN (Aq (wr .i64 (Ah (ofNat t) (ofNat s))) (ofNat n)))) (h (toN (Aq (wr .i64 (Ah (ofNat i) (ofNat s))) (ofNat n))))=false:=by
        rw [e1,e2,t1,t1]; simp [ilt]; omega
       rw [if_neg cg];by_cases cq:i=t+s+1
       ·rw [if_pos cq,Ag (Aer L n h i t s j ci0 ct0 cs0 cn0 b1 b2 ce0 cg0 (by rw [u2,D8,decide_eq_true cq])),AV,u2,Nr (by omega)]
        exact L2 L n h hn q i (t+s+2) 0 Ab (by omega) (by omega) (by omega) (by omega)
       ·rw [if_neg cq,Ag (AiC L n h i t s j ci0 ct0 cs0 cn0 b1 b2 ce0 cg0 (by rw [u2,D8,decide_eq_false cq])),AV,u2]
        exact L2 L n h hn q i (t+s+1) 0 Ab (by omega) (by omega) (by omega) (by omega)
def AfL (n:Nat):Bool:=decide (n <= 1152921504606846976)
def AbC:List V->A3:=AfZ λn h=>.br (AfL n) (out (iV (ofNat (DG n h)))) .fail
theorem Apk:An Tryz.prog Gl 73 AbC:=by
 refine Ts (p:=match Tryz.f73.body with | some (.seq p _)=>p | _=>.skip) (c:=match Tryz.f73.body with | some (.seq _ (.scope c))=>c | _=>.skip) (d:=match (match Tryz.f73.body with | some (.seq _ (.scope c))=>FH 0 c | _=>none) with | some d=>d | none=>.skip) A2 mixed Tryz.func73 0 900 (by kernel_rfl) (by kernel_rfl) (by kernel_rfl) (by kernel_rfl) λvs v h' h=>?_
 obtain ⟨n,f,ha,h1⟩:=QL h;obtain ⟨hn,hq⟩:=Ac h1;have:=Aa hq;simp only [Prod.mk.injEq] at this;obtain ⟨rfl,rfl⟩:=this;have hn:n <= 1152921504606846976:=by simpa [AfL] using hn
 have hx:=Bq BS [(0,I7 n f)];exact ⟨_,AP Gl tb0 [(0,I7 n f)],_,ha,rfl,hx.1,hx.2,Bn (Be (Bh _) (Bh _)) _ (Alg _ _ n f _ (A5 (L2 _ n f hn (3 * n+4) 0 1 0 (Ahi n f) (by omega) (by omega) (by omega) (by omega)))),Ap.refl _⟩
end Go.Proofs.YtkbafjceglhjhaaGreatDoor.Ed
namespace Go.Proofs.YtkbafjceglhjhaaGreatDoor.Ed
open Go.Sy
open Int (ofNat)
theorem O7 (n m:Nat) (gx g:Nat->V) (i:Nat) (h:i<n+m):Bo n m gx g i=bif Nat.blt i n then gx i else g (i-n):=by
 cases hb:Nat.blt i n with
 | true=>exact O5 n m gx g i (Nat.blt_eq ▸ hb)
 | false =>
  have h1:n <= i:=by
   rcases Nat.lt_or_ge i n with h2 | h2
   ·rw [show Nat.blt i n=true from Nat.blt_eq ▸ h2] at hb; cases hb
   ·exact h2
  have:=O6 n m gx g (i-n) (by omega);rw [show n+(i-n)=i by omega] at this;exact this
theorem UQ {α:Type} (n k:Nat) (z:Nat->V) (h:Nat->α) (e:α->V) (hk:k<n ∨ n=0∧k=0):AD (AD 0 (I6 n k)) k=n∧∀ j,j<n ->
  Bo (AD 0 (I6 n k)) k (Bo 0 (I6 n k) z (λi=>e (h (AD k i)))) (λi=>e (h i)) j=e (h ((k+j) % n)):=by
 have h1:AD 0 (I6 n k)=n-k:=by simp [AD,I6]
 have h2:I6 n k=n-k:=rfl;refine ⟨by rw [h1]; show n-k+k=n; omega,λj hj=>?_⟩;rw [h1,h2,O7 _ _ _ _ j (by omega)];cases hb:Nat.blt j (n-k) with
 | true =>have hb:j<n-k:=Nat.blt_eq ▸ hb;show Bo 0 (n-k) z (λi=>e (h (AD k i))) j=_;rw [O7 _ _ _ _ j (by omega)];show e (h (k+(j-0)))=_;rw [Nat.mod_eq_of_lt (by omega),Nat.sub_zero]
 | false =>
  have hb:n-k <= j:=by
   rcases Nat.lt_or_ge j (n-k) with h3 | h3
   ·rw [show Nat.blt j (n-k)=true from Nat.blt_eq ▸ h3] at hb; cases hb
   ·exact h3
  show e (h (j-(n-k)))=_;rw [show k+j=j-(n-k)+n by omega,Nat.add_mod_right,Nat.mod_eq_of_lt (by omega)]
def Gv (n:Nat):Bool:=decide (n * 8 <= 140737488355328)
theorem Eh {n:Nat} (h:Gv n=true):n <= 4611686018427387904:=by
 have h:n * 8 <= 140737488355328:=of_decide_eq_true h;omega
theorem Acn {n:Nat} (h:Gv n=true):Av n=true:=decide_eq_true (Eh h)
theorem Akk {n:Nat} (h:Gv n=true):AfL n=true:=by
 have h:n * 8 <= 140737488355328:=of_decide_eq_true h;exact decide_eq_true (by omega)
theorem Hb {n:Nat} (h:CU n=true):Gv n=true:=by
 have h:n * 40 <= 140737488355328:=of_decide_eq_true h;exact decide_eq_true (by omega)
theorem LJ (n:Nat) (h:Nat->Int):∀ q i t s,EL n h q i t s <= n-1
 | 0,_,_,_=>Nat.zero_le _
 | q+1,i,t,s=>by
  unfold EL;split
  ·omega
  ·split
   ·exact LJ n h q _ _ _
   ·split <;> exact LJ n h q _ _ _
theorem YQ (n:Nat) (h:Nat->Int):DG n h <= n-1:=LJ n h _ _ _ _
theorem Qv (n:Nat) (h:Nat->Int):DG n h<n ∨ n=0∧DG n h=0:=by
 have:=YQ n h;omega
def Oq (n:Nat) (f:Nat->E6):Lp:=⟨bmK 28 0 [0,2,3,4,9,10,11],2,bmK 28 0 [2,3,4],4,n+1⟩
def Td (n:Nat) (f:Nat->E6) (i k:Nat) (x:Nat->V) (j:Nat->V):St:=⟨jsV 28 0 j [(0,.sl 6 n λi=>eV (f i)),(2,.ref 0),(3,iV 0),(4,.ref 1),(9,.sl 6 n λi=>eV (f i)),(10,nV n),(11,nV i)],[.row 3 1 0 λ_=>.und,.row 3 1 k x]⟩
def Wo (n:Nat) (f:Nat->E6) (i k:Nat) (x:Nat->V):Ex×St:=(.ex 0,⟨jsV 28 0 Ab [(2,.ref 0),(3,iV 0),(4,.ref 1)],[.row 3 1 0 λ_=>.und,.row 3 1 k x]⟩)
def Wn (n:Nat) (f:Nat->E6) (i k:Nat) (x:Nat->V):Ex×St:=(.rt,⟨jsV 28 0 Ab [(2,.ref 3),(3,iV 30),(4,.ref 1)],[.row 3 1 0 λ_=>.und,.row 3 1 k x,.cells [iV (f i).kind,bV (f i).ext,bV (f i).same,iV (f i).src,iV (f i).dst,iV (f i).fence],.row 3 1 0 λ_=>.und]⟩)
noncomputable def Lh (L:LT):St->T (Ex×St):=λst=>A8 tab ⟨Ax tb8,L,Gl⟩ (As Tryz.f72 0) 0 st
theorem Kx (L:LT) (n:Nat) (f:Nat->E6) (i k:Nat) (x:Nat->V) (j:Nat->V):Ay (Lh L) (Oq n f) (Td n f i k x j)
 = (sel (ilt (ofNat i) (ofNat n)) (sel (Aj (ile 0 (ofNat i)) (ilt (ofNat i) (ofNat n))) (sel (AQ (ieq (Bg (f i)) 0)) (some (.rt,⟨[.und,.und,.ref 3,iV 30,.ref 1,.und,.und,.und,.und,.und,.und,.und,.und,.und,.und,.und,.und,.und,.und,.und,.und,.und,.und,.und,.und,.und,.und,.und],[.row 3 1 0 Ab,.row 3 1 k x,.cells [iV (f i).kind,bV (f i).ext,bV (f i).same,iV (f i).src,iV (f i).dst,iV (f i).fence],.row 3 1 0 Ab]⟩)) (sel (Bp k 1 8) (some (.nm,⟨[.sl 6 n (λi=>eV (f i)),.und,.ref 0,iV 0,.ref 1,.und,.und,.und,.und,.sl 6 n (λi=>eV (f i)),nV n,iV (wr .i64 (Ah (ofNat i) 1)),.und,.und,.und,.und,.und,.und,.und,.und,.und,.und,.und,.und,.und,.und,.und,.und],[.row 3 1 0 Ab,.row 3 1 (AD k 1) (AG k x (iV (BQ (f i))))]⟩)) none)) none) (some ((.ex 0),⟨[.und,.und,.ref 0,iV 0,.ref 1,.und,.und,.und,.und,.und,.und,.und,.und,.und,.und,.und,.und,.und,.und,.und,.und,.und,.und,.und,.und,.und,.und,.und],[.row 3 1 0 Ab,.row 3 1 k x]⟩))):=by kernel_rfl
def Xw (n:Nat) (f:Nat->E6) :Nat->V:=lkV AI []
section
variable (L:LT) (p0:PT) (n:Nat) (f:Nat->E6) (i k:Nat) (x:Nat->V)
include L p0 n f i k x
theorem AhX  (hp0:p0 (Lh (onP 0 p0 (Wo n f i k x) L)) (Td n f 0 0 Ab (Xw n f ))=true):(A0 (Ai tab ⟨Ax tb8,onP 0 p0 (Wo n f i k x) L,Gl⟩ Tryz.f72 [AL n f] [])).sem=some ((.tup [.ref 0,iV 0]),[.row 3 1 k x]):=by
 exact Ad (ks:=[kn hp0]) (by kernel_rfl)
theorem AhW  (hp0:p0 (Lh (onP 0 p0 (Wn n f i k x) L)) (Td n f 0 0 Ab (Xw n f ))=true):(A0 (Ai tab ⟨Ax tb8,onP 0 p0 (Wn n f i k x) L,Gl⟩ Tryz.f72 [AL n f] [])).sem=some ((.tup [.ref 0,iV 30]),[.row 3 1 0 Ab]):=by
 exact Ad (ks:=[kn hp0]) (by kernel_rfl)
end
theorem WS (L:LT) (n:Nat) (f:Nat->E6) (hn:CU n=true) (ho:∀ t,t<n->Bg (f t)=0):∀ (d i:Nat) (j:Nat->V) (q:Nat),n=i+d->d<q ->
  (Au (Lh L) (Oq n f) q (Td n f i i (Cg (cdV f) i) j)).sem=some (Wo n f 0 n (Cg (cdV f) n))
 | 0,i,j,q+1,h1,_=>by
  have hi:i=n:=by omega
  subst hi;rw [Ag (Kx L i f i i _ j),Az (Nat.le_refl i)];rfl
 | d+1,i,j,q+1,h1,h2=>by
  have hi:i<n:=by omega
  rw [Ag (Kx L n f i i _ j),Ae hi,ofNat_lt hi,S4 hi (by decide) (of_decide_eq_true hn),A1 hi (Jm hn),ho i hi];exact WS L n f hn ho d (i+1) Ab q (by omega) (by omega)
theorem WR (L:LT) (n:Nat) (f:Nat->E6) (hn:CU n=true) (e:Nat) (he:e<n) (hb:Bg (f e)=30) (ho:∀ t,t<e->Bg (f t)=0):∀ (d i:Nat) (j:Nat->V) (q:Nat),e=i+d->d<q ->
  (Au (Lh L) (Oq n f) q (Td n f i i (Cg (cdV f) i) j)).sem=some (Wn n f e e (Cg (cdV f) e))
 | 0,i,j,q+1,h1,_=>by
  have hi:i=e:=by omega
  subst hi;rw [Ag (Kx L n f i i _ j),Ae he,ofNat_lt he,hb];rfl
 | d+1,i,j,q+1,h1,h2=>by
  have hi:i<n:=by omega
  rw [Ag (Kx L n f i i _ j),Ae hi,ofNat_lt hi,S4 hi (by decide) (of_decide_eq_true hn),A1 hi (Jm hn),ho i (by omega)];exact WR L n f hn e he hb ho d (i+1) Ab q (by omega) (by omega)
theorem Apl:An Tryz.prog Gl 72 AcC:=by
 refine Al A2 mixed Tryz.func72 (by kernel_rfl) (by kernel_rfl) λvs v h' h=>?_;obtain ⟨n,f,ha,h⟩:=Do h;obtain ⟨hn,h⟩:=Ac h;have hx:=Bq Lx [(0,Oq n f)];cases hm:Es n f with
 | true =>
  rw [hm] at h;have:=Aa h;simp only [Prod.mk.injEq] at this;obtain ⟨rfl,rfl⟩:=this;exact ⟨_,cx9 [(0,Oq n f)],_,ha,rfl,hx.1,hx.2,Bn (Be (Bh _) (Bh _)) _ (AhX _ _ n f 0 n _ (A5 (WS _ n f hn (Fb.1 hm) n 0 (Xw n f) (n+1) (by omega) (by omega)))),
   Ap.one λj hj=>(I3 (cdV f) n j hj).symm⟩
 | false =>rw [hm] at h;have:=Aa h;simp only [Prod.mk.injEq] at this;obtain ⟨rfl,rfl⟩:=this;obtain ⟨e,h1,h2,h3⟩:=AaW hm;have hw:=Bn (Be (Bh _) (Bh _)) _ (AhW (BO [(0,Oq n f)]) _ n f e e _ (A5 (WR _ n f hn e h1 h2 h3 e 0 (Xw n f) (n+1) (by omega) (by omega))));exact ⟨_,cx9 [(0,Oq n f)],_,ha,rfl,hx.1,hx.2,hw,Ap.refl _⟩
theorem GH {n m b:Nat} (h:(n+m) * b <= 140737488355328):Bp n m b=true:=decide_eq_true h
noncomputable def tb65:A9:=(72,AcC)::(73,AbC)::[]
theorem tb65_ok:Ao Tryz.prog Gl tb65:=.cons Apl <| .cons Apk .nil
def AgD (n:Nat) (f:Nat->E6) (k:Nat):Blk:=.row 76 6 (AD (AD 0 (I6 n k)) k) (Bo (AD 0 (I6 n k)) k (Bo 0 (I6 n k) (λ_=>eV FS) (λi=>eV (f (AD k i)))) (λi=>eV (f i)))
theorem Alc (L:LT) (n:Nat) (f:Nat->E6) (h0:CU n=true) (h1:Es n f=true) (h2:AfL n=true) (h3:EA 40 0 (ofNat n)=true) (h13:Aj (ile 0 (ofNat (DG n (λi=>BQ (f i))))) (ile (ofNat (DG n (λi=>BQ (f i)))) (ofNat n))=true) (h14:Bp 0 (I6 n (DG n (λi=>BQ (f i)))) 40=true) (h15:Bp (AD 0 (I6 n (DG n (λi=>BQ (f i))))) (DG n (λi=>BQ (f i))) 40=true):(A0 (Ai tab ⟨Ax tb65,L,Gl⟩ Tryz.f48 [AL n f] [])).sem=some ((.tup [.ref 0,iV 0]),[AgD n f (DG n (λi=>BQ (f i)))]):=by
 exact Ad (ks:=[kL n,kn h0,kn h1,kN (kI 0),kL n,kn h2,kn h3,kn h13,kn h14,kn h13,kn h15]) (by kernel_rfl)
def CH (n:Nat) (f:Nat->E6) (i:Nat):E6:=f ((DG n (λi=>BQ (f i))+i) % n)
def IK:List V->A3:=H5 λn f=>.br (CU n) (.br (Es n f) (.leaf (.tup [.ref 0,iV 0],[.row 76 6 n λi=>eV (CH n f i)])) (.leaf (.tup [.ref 0,iV 30],[.row 76 6 0 λ_=>.und]))) .fail
theorem p65:An Tryz.prog Gl 48 IK:=by
 refine Al A2 mixed Tryz.func48 (by kernel_rfl) (by kernel_rfl) λvs v h' h=>?_;obtain ⟨n,f,ha,h⟩:=Do h;obtain ⟨hn,h⟩:=Ac h;have hx:=Bq tb65_ok [];cases hm:Es n f with
 | true =>
  rw [hm] at h;have:=Aa h;simp only [Prod.mk.injEq] at this;obtain ⟨rfl,rfl⟩:=this;have hn':n * 40 <= 140737488355328:=of_decide_eq_true hn;have hk:=Qv n (λi=>BQ (f i));have e3:∀ k,AD 0 (I6 n k)=n-k:=λk=>by simp [AD,I6]
  have hw:=Alc (BO []) n f hn hm (Akk (Hb hn)) (by
    simp only [EA,Bool.and_eq_true,decide_eq_true_eq,Int.ofNat_eq_natCast]; omega) (by
    rw [ile_nat,show (0:Int)=ofNat 0 from rfl,ile_nat]; simp [Aj]; omega) (by
    exact GH (by show (0+(n-DG n (λi=>BQ (f i)))) * 40 <= _; omega)) (by
    rw [e3]; exact GH (by omega))
  obtain ⟨r1,r2⟩:=UQ n (DG n (λi=>BQ (f i))) (λ_=>eV FS) f eV hk;unfold AgD at hw;rw [r1] at hw;exact ⟨_,AP Gl tb65 [],_,ha,rfl,hx.1,hx.2,hw,Ap.one λj hj=>(r2 j hj).symm⟩
 | false =>rw [hm] at h;have:=Aa h;simp only [Prod.mk.injEq] at this;obtain ⟨rfl,rfl⟩:=this;exact ⟨_,AP Gl tb65 [],_,ha,rfl,hx.1,hx.2,Ad (ks:=[kL n,kn hn,kn hm,kN (⟨ieq 30 0,false,rfl⟩)]) (by kernel_rfl)/-W:wc65n-/,Ap.refl _⟩
theorem e42 (Γ:Cx) (vs:List V) (h:List Blk):Ai tab Γ Tryz.f43 vs h=Ai tab Γ Tryz.f43 vs h:=by kernel_rfl
theorem p42:An Tryz.prog Gl 43 NC:=by
 refine Al A2 mixed Tryz.func43 (by kernel_rfl) (by kernel_rfl) λvs v h' h=>?_;obtain ⟨n,f,m,g,ha,h⟩:=QK h;obtain ⟨hn,h⟩:=Ac h;have:=Aa h;simp only [Prod.mk.injEq] at this;obtain ⟨rfl,rfl⟩:=this;have hx:=Bq Lx [(0,LH n)];exact ⟨_,cx9 [(0,LH n)],_,ha,rfl,hx.1,hx.2,by rw [e42]; exact Aan n m f g (of_decide_eq_true hn),Ap.refl _⟩
theorem AfT {a b:E6} (ha:Bg a=0) (hb:Bg b=0) (h:BQ a=BQ b):a=b:=by
 rcases Eo a with ⟨k,_,_,h1,h2,_⟩ | ⟨h1,_⟩
 ·rcases Eo b with ⟨l,_,_,h3,h4,_⟩ | ⟨h3,_⟩
  ·rw [h1,h3] at h
   have:=Int.ofNat.inj h;rw [<- h2,<- h4,this]
  ·rw [hb] at h3; cases h3
 ·rw [ha] at h1; cases h1
theorem Kw {n:Nat} {f:Nat->E6} {m:Nat} {g:Nat->E6}:DC n f m g=true↔n=m∧∀ i,i<n->f i=g i:=by
 unfold DC;rw [D8];by_cases h:n=m
 ·rw [decide_eq_true h]
  show Gj f g n 0=true↔_;rw [JQ];exact ⟨λh1=>⟨h,λi hi=>h1 i (Nat.zero_le _) (by omega)⟩,λh1 j _ h3=>h1.2 j (by omega)⟩
 ·rw [decide_eq_false h]
  exact ⟨λh=>(by cases h),λh1=>absurd h1.1 h⟩
def AO (q:Nat->Bool):Nat->Nat->Option Nat
 | 0,_=>none
 | d+1,i=>match q i with
  | true=>some i
  | false=>AO q d (i+1)
theorem E2 {q:Nat->Bool} {d i:Nat} (h:q i=true):AO q (d+1) i=some i:=by rw [AO,h]
theorem E3 {q:Nat->Bool} {d i:Nat} (h:q i=false):AO q (d+1) i=AO q d (i+1):=by rw [AO,h]
theorem IG {q:Nat->Bool}:∀ {d i t:Nat},AO q d i=some t->i <= t∧t<i+d∧q t=true
 | 0,_,_,h=>by cases h
 | d+1,i,t,h=>by
  cases hq:q i with
  | true =>rw [E2 hq] at h;simp only [Option.some.injEq] at h;subst h;exact ⟨Nat.le_refl _,by omega,hq⟩
  | false =>rw [E3 hq] at h;have:=IG h;exact ⟨by omega,by omega,this.2.2⟩
theorem Cj {a b:Int} (h:ieq a b=true):a=b:=by simpa [ieq] using h
end Go.Proofs.YtkbafjceglhjhaaGreatDoor.Ed
