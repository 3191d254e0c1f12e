/-
  Least: where the least turned list begins, as the program walks. No conditions.
-/
import Derived.Test.YtkgdhhieomndeaaGreatDoorCyI
namespace Go.Proofs.YtkgdhhieomndeaaGreatDoor.Ed
open Go.Sy
open Int (ofNat)
def WS (r:Nat):Ex×St:=(.rt,⟨jsV 67 0 Aa [(2,nV r)],[]⟩)
def IC (n:Nat) (h:Nat->Int):Lp:=⟨bmK 67 0 [0,3,4,5,6],1,bmK 67 0 [2],1,3 * n+4⟩
def JF (n:Nat) (h:Nat->Int) (i t s:Nat) (j:Nat->V):St:=⟨jsV 67 0 j [(0,.sl 1 n (λk=>iV (h k))),(3,nV n),(4,nV i),(5,nV t),(6,nV s)],[]⟩
noncomputable def ER (L:LT):St->T (Ex×St):=λst=>AD tab ⟨Am tb0,L,Gl⟩ (Au (UG 0 900 Tryz.f38) 0) 0 st
section
variable (L:LT) (n:Nat) (h:Nat->Int) (i t s:Nat)  (j:Nat->V)
include L n h i t s j
theorem AiN (h0:ile (ofNat n) (ofNat i)=true):Al (ER L) (IC n h) (JF n h i t s j)=some (.rt,⟨jsV 67 0 Aa [(2,iV (sel (ilt (sel (ilt (wr .i64 (AC (ofNat n) 1)) 0) 0 (wr .i64 (AC (ofNat n) 1))) (sel (ilt (ofNat t) (ofNat i)) (ofNat t) (ofNat i))) (sel (ilt (wr .i64 (AC (ofNat n) 1)) 0) 0 (wr .i64 (AC (ofNat n) 1))) (sel (ilt (ofNat t) (ofNat i)) (ofNat t) (ofNat i))))],[]⟩):=by
 exact Ac (ks:=[kn h0,kn h0,kn h0,kn h0,kT,kT,kT,kT,kT]) (by kernel_rfl)
theorem AiM (h0:ile (ofNat n) (ofNat i)=false) (h1:ile (ofNat n) (ofNat t)=true):Al (ER L) (IC n h) (JF n h i t s j)=some (.rt,⟨jsV 67 0 Aa [(2,iV (sel (ilt (sel (ilt (wr .i64 (AC (ofNat n) 1)) 0) 0 (wr .i64 (AC (ofNat n) 1))) (sel (ilt (ofNat t) (ofNat i)) (ofNat t) (ofNat i))) (sel (ilt (wr .i64 (AC (ofNat n) 1)) 0) 0 (wr .i64 (AC (ofNat n) 1))) (sel (ilt (ofNat t) (ofNat i)) (ofNat t) (ofNat i))))],[]⟩):=by
 exact Ac (ks:=[kn h0,kn h0,kn h0,kn h0,kn h1,kn h1,kn h1,kn h1,kT]) (by kernel_rfl)
theorem AiK (h0:ile (ofNat n) (ofNat i)=false) (h1:ile (ofNat n) (ofNat t)=false) (h2:ile (ofNat n) (ofNat s)=true):Al (ER L) (IC n h) (JF n h i t s j)=some (.rt,⟨jsV 67 0 Aa [(2,iV (sel (ilt (sel (ilt (wr .i64 (AC (ofNat n) 1)) 0) 0 (wr .i64 (AC (ofNat n) 1))) (sel (ilt (ofNat t) (ofNat i)) (ofNat t) (ofNat i))) (sel (ilt (wr .i64 (AC (ofNat n) 1)) 0) 0 (wr .i64 (AC (ofNat n) 1))) (sel (ilt (ofNat t) (ofNat i)) (ofNat t) (ofNat i))))],[]⟩):=by
 exact Ac (ks:=[kn h0,kn h0,kn h0,kn h0,kn h1,kn h1,kn h1,kn h1,kn h2]) (by kernel_rfl)
theorem AiP (h0:ile (ofNat n) (ofNat i)=false) (h1:ile (ofNat n) (ofNat t)=false) (h2:ile (ofNat n) (ofNat s)=false) (h3:ieq (ofNat n) 0=false) (h4:Ao (ile 0 (Ar (wr .i64 (Ak (ofNat i) (ofNat s))) (ofNat n))) (ilt (Ar (wr .i64 (Ak (ofNat i) (ofNat s))) (ofNat n)) (ofNat n))=true) (h5:Ao (ile 0 (Ar (wr .i64 (Ak (ofNat t) (ofNat s))) (ofNat n))) (ilt (Ar (wr .i64 (Ak (ofNat t) (ofNat s))) (ofNat n)) (ofNat n))=true) (h6:ieq (h (toN (Ar (wr .i64 (Ak (ofNat i) (ofNat s))) (ofNat n)))) (h (toN (Ar (wr .i64 (Ak (ofNat t) (ofNat s))) (ofNat n))))=true):Al (ER L) (IC n h) (JF n h i t s j)=some (.nm,⟨jsV 67 0 Aa [(0,.sl 1 n (λk=>iV (h k))),(3,nV n),(4,nV i),(5,nV t),(6,iV (wr .i64 (Ak (ofNat s) 1)))],[]⟩):=by
 exact Ac (ks:=[kn h0,kn h0,kn h0,kn h0,kn h1,kn h1,kn h1,kn h1,kn h2,kn h3,kn h4,kn h3,kn h5,kn h6]) (by kernel_rfl)
theorem AiO (h0:ile (ofNat n) (ofNat i)=false) (h1:ile (ofNat n) (ofNat t)=false) (h2:ile (ofNat n) (ofNat s)=false) (h3:ieq (ofNat n) 0=false) (h4:Ao (ile 0 (Ar (wr .i64 (Ak (ofNat i) (ofNat s))) (ofNat n))) (ilt (Ar (wr .i64 (Ak (ofNat i) (ofNat s))) (ofNat n)) (ofNat n))=true) (h5:Ao (ile 0 (Ar (wr .i64 (Ak (ofNat t) (ofNat s))) (ofNat n))) (ilt (Ar (wr .i64 (Ak (ofNat t) (ofNat s))) (ofNat n)) (ofNat n))=true) (h6:ieq (h (toN (Ar (wr .i64 (Ak (ofNat i) (ofNat s))) (ofNat n)))) (h (toN (Ar (wr .i64 (Ak (ofNat t) (ofNat s))) (ofNat n))))=false) (h7:ilt (h (toN (Ar (wr .i64 (Ak (ofNat t) (ofNat s))) (ofNat n)))) (h (toN (Ar (wr .i64 (Ak (ofNat i) (ofNat s))) (ofNat n))))=true) (h8:ieq (wr .i64 (Ak (ofNat i) (wr .i64 (Ak (ofNat s) 1)))) (ofNat t)=false):Al (ER L) (IC n h) (JF n h i t s j)=some (.nm,⟨jsV 67 0 Aa [(0,.sl 1 n (λk=>iV (h k))),(3,nV n),(4,iV (wr .i64 (Ak (ofNat i) (wr .i64 (Ak (ofNat s) 1))))),(5,nV t),(6,iV 0)],[]⟩):=by
 exact Ac (ks:=[kn h0,kn h0,kn h0,kn h0,kn h1,kn h1,kn h1,kn h1,kn h2,kn h3,kn h4,kn h3,kn h5,kn h6,kn h7,kn h8]) (by kernel_rfl)
theorem AeT (h0:ile (ofNat n) (ofNat i)=false) (h1:ile (ofNat n) (ofNat t)=false) (h2:ile (ofNat n) (ofNat s)=false) (h3:ieq (ofNat n) 0=false) (h4:Ao (ile 0 (Ar (wr .i64 (Ak (ofNat i) (ofNat s))) (ofNat n))) (ilt (Ar (wr .i64 (Ak (ofNat i) (ofNat s))) (ofNat n)) (ofNat n))=true) (h5:Ao (ile 0 (Ar (wr .i64 (Ak (ofNat t) (ofNat s))) (ofNat n))) (ilt (Ar (wr .i64 (Ak (ofNat t) (ofNat s))) (ofNat n)) (ofNat n))=true) (h6:ieq (h (toN (Ar (wr .i64 (Ak (ofNat i) (ofNat s))) (ofNat n)))) (h (toN (Ar (wr .i64 (Ak (ofNat t) (ofNat s))) (ofNat n))))=false) (h7:ilt (h (toN (Ar (wr .i64 (Ak (ofNat t) (ofNat s))) (ofNat n)))) (h (toN (Ar (wr .i64 (Ak (ofNat i) (ofNat s))) (ofNat n))))=true) (h8:ieq (wr .i64 (Ak (ofNat i) (wr .i64 (Ak (ofNat s) 1)))) (ofNat t)=true):Al (ER L) (IC n h) (JF n h i t s j)=some (.nm,⟨jsV 67 0 Aa [(0,.sl 1 n (λk=>iV (h k))),(3,nV n),(4,iV (wr .i64 (Ak (ofNat i) (wr .i64 (Ak (ofNat s) 1))))),(5,iV (wr .i64 (Ak (ofNat t) 1))),(6,iV 0)],[]⟩):=by
 exact Ac (ks:=[kn h0,kn h0,kn h0,kn h0,kn h1,kn h1,kn h1,kn h1,kn h2,kn h3,kn h4,kn h3,kn h5,kn h6,kn h7,kn h8]) (by kernel_rfl)
theorem AiL (h0:ile (ofNat n) (ofNat i)=false) (h1:ile (ofNat n) (ofNat t)=false) (h2:ile (ofNat n) (ofNat s)=false) (h3:ieq (ofNat n) 0=false) (h4:Ao (ile 0 (Ar (wr .i64 (Ak (ofNat i) (ofNat s))) (ofNat n))) (ilt (Ar (wr .i64 (Ak (ofNat i) (ofNat s))) (ofNat n)) (ofNat n))=true) (h5:Ao (ile 0 (Ar (wr .i64 (Ak (ofNat t) (ofNat s))) (ofNat n))) (ilt (Ar (wr .i64 (Ak (ofNat t) (ofNat s))) (ofNat n)) (ofNat n))=true) (h6:ieq (h (toN (Ar (wr .i64 (Ak (ofNat i) (ofNat s))) (ofNat n)))) (h (toN (Ar (wr .i64 (Ak (ofNat t) (ofNat s))) (ofNat n))))=false) (h7:ilt (h (toN (Ar (wr .i64 (Ak (ofNat t) (ofNat s))) (ofNat n)))) (h (toN (Ar (wr .i64 (Ak (ofNat i) (ofNat s))) (ofNat n))))=false) (h8:ieq (ofNat i) (wr .i64 (Ak (ofNat t) (wr .i64 (Ak (ofNat s) 1))))=false):Al (ER L) (IC n h) (JF n h i t s j)=some (.nm,⟨jsV 67 0 Aa [(0,.sl 1 n (λk=>iV (h k))),(3,nV n),(4,nV i),(5,iV (wr .i64 (Ak (ofNat t) (wr .i64 (Ak (ofNat s) 1))))),(6,iV 0)],[]⟩):=by
 exact Ac (ks:=[kn h0,kn h0,kn h0,kn h0,kn h1,kn h1,kn h1,kn h1,kn h2,kn h3,kn h4,kn h3,kn h5,kn h6,kn h7,kn h8]) (by kernel_rfl)
theorem AeS (h0:ile (ofNat n) (ofNat i)=false) (h1:ile (ofNat n) (ofNat t)=false) (h2:ile (ofNat n) (ofNat s)=false) (h3:ieq (ofNat n) 0=false) (h4:Ao (ile 0 (Ar (wr .i64 (Ak (ofNat i) (ofNat s))) (ofNat n))) (ilt (Ar (wr .i64 (Ak (ofNat i) (ofNat s))) (ofNat n)) (ofNat n))=true) (h5:Ao (ile 0 (Ar (wr .i64 (Ak (ofNat t) (ofNat s))) (ofNat n))) (ilt (Ar (wr .i64 (Ak (ofNat t) (ofNat s))) (ofNat n)) (ofNat n))=true) (h6:ieq (h (toN (Ar (wr .i64 (Ak (ofNat i) (ofNat s))) (ofNat n)))) (h (toN (Ar (wr .i64 (Ak (ofNat t) (ofNat s))) (ofNat n))))=false) (h7:ilt (h (toN (Ar (wr .i64 (Ak (ofNat t) (ofNat s))) (ofNat n)))) (h (toN (Ar (wr .i64 (Ak (ofNat i) (ofNat s))) (ofNat n))))=false) (h8:ieq (ofNat i) (wr .i64 (Ak (ofNat t) (wr .i64 (Ak (ofNat s) 1))))=true):Al (ER L) (IC n h) (JF n h i t s j)=some (.nm,⟨jsV 67 0 Aa [(0,.sl 1 n (λk=>iV (h k))),(3,nV n),(4,nV i),(5,iV (wr .i64 (Ak (wr .i64 (Ak (ofNat t) (wr .i64 (Ak (ofNat s) 1)))) 1))),(6,iV 0)],[]⟩):=by
 exact Ac (ks:=[kn h0,kn h0,kn h0,kn h0,kn h1,kn h1,kn h1,kn h1,kn h2,kn h3,kn h4,kn h3,kn h5,kn h6,kn h7,kn h8]) (by kernel_rfl)
end
def Ah7 (n:Nat) (h:Nat->Int) :Nat->V:=lkV A9 [(2,iV 0),(9,.sl 1 n (λk=>iV (h k))),(10,nV n)]
theorem Al0 (L:LT) (p0:PT) (n:Nat) (h:Nat->Int) (r:Nat)  (hp0:p0 (ER (onP 0 p0 (WS r) L)) (JF n h 0 1 0 (Ah7 n h ))=true):(Ay (Ai tab ⟨Am tb0,onP 0 p0 (WS r) L,Gl⟩ (UG 0 900 Tryz.f38) [.sl 1 n (λk=>iV (h k))] [])).sem=some ((nV r),[]):=by
 exact Ac (ks:=[kn hp0]) (by kernel_rfl)
def EI (n:Nat) (h:Nat->Int):Nat->Nat->Nat->Nat->Nat
 | 0,_,_,_=>0
 | q+1,i,t,s =>
  if n <= i ∨ n <= t ∨ n <= s then min (min i t) (n-1)
  else if h ((i+s) % n)=h ((t+s) % n) then EI n h q i t (s+1)
  else if h ((t+s) % n)<h ((i+s) % n) then EI n h q (i+s+1) (if i+s+1=t then t+1 else t) 0
  else EI n h q i (if i=t+s+1 then t+s+2 else t+s+1) 0
def Cs (n:Nat) (h:Nat->Int):Nat:=EI n h (3 * n+4) 0 1 0
theorem Fb {a b:Nat} (h:a+b <= 9223372036854775807):wr .i64 (Ak (ofNat a) (ofNat b))=ofNat (a+b):=by
 unfold wr Ak IntKind.wrap;simp [IntKind.bits,IntKind.signed];omega
theorem LK {a:Nat} (h:a+1 <= 9223372036854775807):wr .i64 (Ak (ofNat a) 1)=ofNat (a+1):=Fb (b:=1) h
theorem DW (a n:Nat):Ar (ofNat a) (ofNat n)=ofNat (a % n):=rfl
theorem DD (a b:Nat):ieq (ofNat a) (ofNat b)=decide (a=b):=by
 simp only [ieq,Int.ofNat_eq_natCast];by_cases h:a=b
 ·simp [h]
 ·rw [decide_eq_false h]
  simp;omega
theorem ile_nat (a b:Nat):ile (ofNat a) (ofNat b)=decide (a <= b):=by
 simp [ile]
theorem BP (a b:Nat):ilt (ofNat a) (ofNat b)=decide (a<b):=by
 simp [ilt]
theorem AjT (n i t:Nat) (hn:n <= 1152921504606846976):sel (ilt (sel (ilt (wr .i64 (AC (ofNat n) 1)) 0) 0 (wr .i64 (AC (ofNat n) 1))) (sel (ilt (ofNat t) (ofNat i)) (ofNat t) (ofNat i))) (sel (ilt (wr .i64 (AC (ofNat n) 1)) 0) 0 (wr .i64 (AC (ofNat n) 1))) (sel (ilt (ofNat t) (ofNat i)) (ofNat t) (ofNat i))=ofNat (min (min i t) (n-1)):=by
 have h1:wr .i64 (AC (ofNat n) 1)=(n:Int)-1:=by
  unfold wr AC IntKind.wrap;simp [IntKind.bits,IntKind.signed];omega
 rw [h1];simp only [sel,ilt,Bool.cond_decide,Int.ofNat_eq_natCast];omega
theorem LX (L:LT) (n:Nat) (h:Nat->Int) (hn:n <= 1152921504606846976):∀ (q i t s:Nat) (j:Nat->V),i <= 2 * n->t <= 2 * n+1->s <= n->3 * n+1-(i+t+s)<q ->
  (A3 (ER L) (IC n h) q (JF n h i t s j)).sem=some (WS (EI n h q i t s))
 | 0,_,_,_,_,_,_,_,h4=>absurd h4 (Nat.not_lt_zero _)
 | q+1,i,t,s,j,hi,ht,hs,h4=>by
  by_cases ci:n <= i
  ·rw [Ae (AiN L n h i t s j (by rw [ile_nat,decide_eq_true ci])),S5,AjT n i t hn,EI,if_pos (.inl ci)]
   rfl
  ·have ci0:ile (ofNat n) (ofNat i)=false:=by rw [ile_nat,decide_eq_false ci]
   by_cases ct:n <= t
   ·rw [Ae (AiM L n h i t s j ci0 (by rw [ile_nat,decide_eq_true ct])),S5,AjT n i t hn,EI,if_pos (.inr (.inl ct))]
    rfl
   ·have ct0:ile (ofNat n) (ofNat t)=false:=by rw [ile_nat,decide_eq_false ct]
    by_cases cs:n <= s
    ·rw [Ae (AiK L n h i t s j ci0 ct0 (by rw [ile_nat,decide_eq_true cs])),S5,AjT n i t hn,EI,if_pos (.inr (.inr cs))]
     rfl
    ·have cs0:ile (ofNat n) (ofNat s)=false:=by rw [ile_nat,decide_eq_false cs]
     have cn0:ieq (ofNat n) 0=false:=by
      rw [show (0:Int)=ofNat 0 from rfl,DD,decide_eq_false (by omega)]
     have e1:Ar (wr .i64 (Ak (ofNat i) (ofNat s))) (ofNat n)=ofNat ((i+s) % n):=by rw [Fb (by omega),DW]
     have e2:Ar (wr .i64 (Ak (ofNat t) (ofNat s))) (ofNat n)=ofNat ((t+s) % n):=by rw [Fb (by omega),DW]
     have b1:Ao (ile 0 (Ar (wr .i64 (Ak (ofNat i) (ofNat s))) (ofNat n))) (ilt (Ar (wr .i64 (Ak (ofNat i) (ofNat s))) (ofNat n)) (ofNat n))=true:=by
      rw [e1]; exact Ag (Nat.mod_lt _ (by omega))
     have b2:Ao (ile 0 (Ar (wr .i64 (Ak (ofNat t) (ofNat s))) (ofNat n))) (ilt (Ar (wr .i64 (Ak (ofNat t) (ofNat s))) (ofNat n)) (ofNat n))=true:=by
      rw [e2]; exact Ag (Nat.mod_lt _ (by omega))
     have t1:∀ a:Nat,toN (ofNat a)=a:=λ_=>rfl;have u1:wr .i64 (Ak (ofNat i) (wr .i64 (Ak (ofNat s) 1)))=ofNat (i+s+1):=by rw [LK (by omega),Fb (by omega)]; rfl
     have u2:wr .i64 (Ak (ofNat t) (wr .i64 (Ak (ofNat s) 1)))=ofNat (t+s+1):=by rw [LK (by omega),Fb (by omega)]; rfl
     rw [EI,if_neg (by omega)];by_cases ce:h ((i+s) % n)=h ((t+s) % n)
     ·rw [if_pos ce,Ae (AiP L n h i t s j ci0 ct0 cs0 cn0 b1 b2 (by rw [e1,e2,t1,t1]; simp [ieq,ce])),A6,LK (by omega)]
      exact LX L n h hn q i t (s+1) Aa hi ht (by omega) (by omega)
     ·have ce0:ieq (h (toN (Ar (wr .i64 (Ak (ofNat i) (ofNat s))) (ofNat n)))) (h (toN (Ar (wr .i64 (Ak (ofNat t) (ofNat s))) (ofNat n))))=false:=by
       rw [e1,e2,t1,t1]; simp [ieq,ce]
      rw [if_neg ce];by_cases cg:h ((t+s) % n)<h ((i+s) % n)
      ·have cg0:ilt (h (toN (Ar (wr .i64 (Ak (ofNat t) (ofNat s))) (ofNat n)))) (h (toN (Ar (wr .i64 (Ak (ofNat i) (ofNat s))) (ofNat n))))=true:=by
        rw [e1,e2,t1,t1]; simp [ilt,cg]
       rw [if_pos cg];by_cases cq:i+s+1=t
       ·rw [if_pos cq,Ae (AeT L n h i t s j ci0 ct0 cs0 cn0 b1 b2 ce0 cg0 (by rw [u1,DD,decide_eq_true cq])),A6,u1,LK (by omega)]
        exact LX L n h hn q (i+s+1) (t+1) 0 Aa (by omega) (by omega) (by omega) (by omega)
       ·rw [if_neg cq,Ae (AiO L n h i t s j ci0 ct0 cs0 cn0 b1 b2 ce0 cg0 (by rw [u1,DD,decide_eq_false cq])),A6,u1]
        exact LX L n h hn q (i+s+1) t 0 Aa (by omega) (by omega) (by omega) (by omega)
      ·have cg0:ilt (h (toN (Ar (wr .i64 (Ak (ofNat t) (ofNat s))) (ofNat n)))) (h (toN (Ar (wr .i64 (Ak (ofNat i) (ofNat s))) (ofNat n))))=false:=by
        rw [e1,e2,t1,t1]; simp [ilt]; omega
       rw [if_neg cg];by_cases cq:i=t+s+1
       ·rw [if_pos cq,Ae (AeS L n h i t s j ci0 ct0 cs0 cn0 b1 b2 ce0 cg0 (by rw [u2,DD,decide_eq_true cq])),A6,u2,LK (by omega)]
        exact LX L n h hn q i (t+s+2) 0 Aa (by omega) (by omega) (by omega) (by omega)
       ·rw [if_neg cq,Ae (AiL L n h i t s j ci0 ct0 cs0 cn0 b1 b2 ce0 cg0 (by rw [u2,DD,decide_eq_false cq])),A6,u2]
        exact LX L n h hn q i (t+s+1) 0 Aa (by omega) (by omega) (by omega) (by omega)
def Agl (n:Nat):Bool:=decide (n <= 1152921504606846976)
def Ac0:List V->AE:=Agu λn h=>.br (Agl n) (out (iV (ofNat (Cs n h)))) .fail
theorem p102:Ax Tryz.prog Gl 38 Ac0:=by
 refine Uf (p:=match Tryz.f38.body with | some (.seq p _)=>p | _=>.skip) (c:=match Tryz.f38.body with | some (.seq _ (.scope c))=>c | _=>.skip) (d:=match (match Tryz.f38.body with | some (.seq _ (.scope c))=>F7 0 c | _=>none) with | some d=>d | none=>.skip) A7 mixed Tryz.func38 0 900 (by kernel_rfl) (by kernel_rfl) (by kernel_rfl) (by kernel_rfl) λvs v h' h=>?_
 obtain ⟨n,f,ha,h1⟩:=Rb h;obtain ⟨hn,hq⟩:=Ad h1;have:=Ab hq;simp only [Prod.mk.injEq] at this;obtain ⟨rfl,rfl⟩:=this;have hn:n <= 1152921504606846976:=by simpa [Agl] using hn
 have hx:=AH CS [(0,IC n f)];exact ⟨_,AA Gl tb0 [(0,IC n f)],_,ha,rfl,hx.1,hx.2,AP (AI (AQ _) (AQ _)) _ (Al0 _ _ n f _ (Az (LX _ n f hn (3 * n+4) 0 1 0 (Ah7 n f) (by omega) (by omega) (by omega) (by omega)))),Av.refl _⟩
end Go.Proofs.YtkgdhhieomndeaaGreatDoor.Ed
namespace Go.Proofs.YtkgdhhieomndeaaGreatDoor.Ed
open Go.Sy
open Int (ofNat)
theorem OV (n m:Nat) (gx g:Nat->V) (i:Nat) (h:i<n+m):Bu n m gx g i=bif Nat.blt i n then gx i else g (i-n):=by
 cases hb:Nat.blt i n with
 | true=>exact HS n m gx g i (Nat.blt_eq ▸ hb)
 | false =>
  have h1:n <= i:=by
   rcases Nat.lt_or_ge i n with h2 | h2
   ·rw [show Nat.blt i n=true from Nat.blt_eq ▸ h2] at hb; cases hb
   ·exact h2
  have:=JZ n m gx g (i-n) (by omega);rw [show n+(i-n)=i by omega] at this;exact this
theorem V5 {α:Type} (n k:Nat) (z:Nat->V) (h:Nat->α) (e:α->V) (hk:k<n ∨ n=0∧k=0):AV (AV 0 (IA n k)) k=n∧∀ j,j<n ->
  Bu (AV 0 (IA n k)) k (Bu 0 (IA n k) z (λi=>e (h (AV k i)))) (λi=>e (h i)) j=e (h ((k+j) % n)):=by
 have h1:AV 0 (IA n k)=n-k:=by simp [AV,IA]
 have h2:IA n k=n-k:=rfl;refine ⟨by rw [h1]; show n-k+k=n; omega,λj hj=>?_⟩;rw [h1,h2,OV _ _ _ _ j (by omega)];cases hb:Nat.blt j (n-k) with
 | true =>have hb:j<n-k:=Nat.blt_eq ▸ hb;show Bu 0 (n-k) z (λi=>e (h (AV k i))) j=_;rw [OV _ _ _ _ j (by omega)];show e (h (k+(j-0)))=_;rw [Nat.mod_eq_of_lt (by omega),Nat.sub_zero]
 | false =>
  have hb:n-k <= j:=by
   rcases Nat.lt_or_ge j (n-k) with h3 | h3
   ·rw [show Nat.blt j (n-k)=true from Nat.blt_eq ▸ h3] at hb; cases hb
   ·exact h3
  show e (h (j-(n-k)))=_;rw [show k+j=j-(n-k)+n by omega,Nat.add_mod_right,Nat.mod_eq_of_lt (by omega)]
def E9 (n:Nat):Bool:=decide (n * 8 <= 140737488355328)
theorem Ef {n:Nat} (h:E9 n=true):n <= 4611686018427387904:=by
 have h:n * 8 <= 140737488355328:=of_decide_eq_true h;omega
theorem WQ {n:Nat} (h:E9 n=true):Af n=true:=decide_eq_true (Ef h)
theorem Ako {n:Nat} (h:E9 n=true):Agl n=true:=by
 have h:n * 8 <= 140737488355328:=of_decide_eq_true h;exact decide_eq_true (by omega)
theorem Ga {n:Nat} (h:BC n=true):E9 n=true:=by
 have h:n * 40 <= 140737488355328:=of_decide_eq_true h;exact decide_eq_true (by omega)
theorem Mf (n:Nat) (h:Nat->Int):∀ q i t s,EI n h q i t s <= n-1
 | 0,_,_,_=>Nat.zero_le _
 | q+1,i,t,s=>by
  unfold EI;split
  ·omega
  ·split
   ·exact Mf n h q _ _ _
   ·split <;> exact Mf n h q _ _ _
theorem ZK (n:Nat) (h:Nat->Int):Cs n h <= n-1:=Mf n h _ _ _ _
theorem Js (n:Nat) (h:Nat->Int):Cs n h<n ∨ n=0∧Cs n h=0:=by
 have:=ZK n h;omega
def OJ (n:Nat) (f:Nat->E6):Lp:=⟨bmK 28 0 [0,2,3,4,9,10,11],2,bmK 28 0 [2,3,4],4,n+1⟩
def TK (n:Nat) (f:Nat->E6) (i k:Nat) (x:Nat->V) (j:Nat->V):St:=⟨jsV 28 0 j [(0,.sl 6 n λi=>eV (f i)),(2,.ref 0),(3,iV 0),(4,.ref 1),(9,.sl 6 n λi=>eV (f i)),(10,nV n),(11,nV i)],[.row 3 1 0 λ_=>.und,.row 3 1 k x]⟩
def Xl (n:Nat) (f:Nat->E6) (i k:Nat) (x:Nat->V):Ex×St:=(.ex 0,⟨jsV 28 0 Aa [(2,.ref 0),(3,iV 0),(4,.ref 1)],[.row 3 1 0 λ_=>.und,.row 3 1 k x]⟩)
def Xk (n:Nat) (f:Nat->E6) (i k:Nat) (x:Nat->V):Ex×St:=(.rt,⟨jsV 28 0 Aa [(2,.ref 3),(3,iV 30),(4,.ref 1)],[.row 3 1 0 λ_=>.und,.row 3 1 k x,.cells [iV (f i).kind,bV (f i).ext,bV (f i).same,iV (f i).src,iV (f i).dst,iV (f i).fence],.row 3 1 0 λ_=>.und]⟩)
noncomputable def L2 (L:LT):St->T (Ex×St):=λst=>AD tab ⟨Am tb8,L,Gl⟩ (Au Tryz.f37 0) 0 st
theorem K4 (L:LT) (n:Nat) (f:Nat->E6) (i k:Nat) (x:Nat->V) (j:Nat->V):Al (L2 L) (OJ n f) (TK n f i k x j)
 = (sel (ilt (ofNat i) (ofNat n)) (sel (Ao (ile 0 (ofNat i)) (ilt (ofNat i) (ofNat n))) (sel (A5 (ieq (Bd (f i)) 0)) (some (.rt,⟨[.und,.und,.ref 3,iV 30,.ref 1,.und,.und,.und,.und,.und,.und,.und,.und,.und,.und,.und,.und,.und,.und,.und,.und,.und,.und,.und,.und,.und,.und,.und],[.row 3 1 0 Aa,.row 3 1 k x,.cells [iV (f i).kind,bV (f i).ext,bV (f i).same,iV (f i).src,iV (f i).dst,iV (f i).fence],.row 3 1 0 Aa]⟩)) (sel (Bn k 1 8) (some (.nm,⟨[.sl 6 n (λi=>eV (f i)),.und,.ref 0,iV 0,.ref 1,.und,.und,.und,.und,.sl 6 n (λi=>eV (f i)),nV n,iV (wr .i64 (Ak (ofNat i) 1)),.und,.und,.und,.und,.und,.und,.und,.und,.und,.und,.und,.und,.und,.und,.und,.und],[.row 3 1 0 Aa,.row 3 1 (AV k 1) (As k x (iV (BD (f i))))]⟩)) none)) none) (some ((.ex 0),⟨[.und,.und,.ref 0,iV 0,.ref 1,.und,.und,.und,.und,.und,.und,.und,.und,.und,.und,.und,.und,.und,.und,.und,.und,.und,.und,.und,.und,.und,.und,.und],[.row 3 1 0 Aa,.row 3 1 k x]⟩))):=by kernel_rfl
def Yl (n:Nat) (f:Nat->E6) :Nat->V:=lkV A9 []
section
variable (L:LT) (p0:PT) (n:Nat) (f:Nat->E6) (i k:Nat) (x:Nat->V)
include L p0 n f i k x
theorem Aiq  (hp0:p0 (L2 (onP 0 p0 (Xl n f i k x) L)) (TK n f 0 0 Aa (Yl n f ))=true):(Ay (Ai tab ⟨Am tb8,onP 0 p0 (Xl n f i k x) L,Gl⟩ Tryz.f37 [AS n f] [])).sem=some ((.tup [.ref 0,iV 0]),[.row 3 1 k x]):=by
 exact Ac (ks:=[kn hp0]) (by kernel_rfl)
theorem Aip  (hp0:p0 (L2 (onP 0 p0 (Xk n f i k x) L)) (TK n f 0 0 Aa (Yl n f ))=true):(Ay (Ai tab ⟨Am tb8,onP 0 p0 (Xk n f i k x) L,Gl⟩ Tryz.f37 [AS n f] [])).sem=some ((.tup [.ref 0,iV 30]),[.row 3 1 0 Aa]):=by
 exact Ac (ks:=[kn hp0]) (by kernel_rfl)
end
theorem XM (L:LT) (n:Nat) (f:Nat->E6) (hn:BC n=true) (ho:∀ t,t<n->Bd (f t)=0):∀ (d i:Nat) (j:Nat->V) (q:Nat),n=i+d->d<q ->
  (A3 (L2 L) (OJ n f) q (TK n f i i (By (cdV f) i) j)).sem=some (Xl n f 0 n (By (cdV f) n))
 | 0,i,j,q+1,h1,_=>by
  have hi:i=n:=by omega
  subst hi;rw [Ae (K4 L i f i i _ j),Aw (Nat.le_refl i)];rfl
 | d+1,i,j,q+1,h1,h2=>by
  have hi:i<n:=by omega
  rw [Ae (K4 L n f i i _ j),Ag hi,ofNat_lt hi,Ti hi (by decide) (of_decide_eq_true hn),Ap hi (Jv hn),ho i hi];exact XM L n f hn ho d (i+1) Aa q (by omega) (by omega)
theorem XL (L:LT) (n:Nat) (f:Nat->E6) (hn:BC n=true) (e:Nat) (he:e<n) (hb:Bd (f e)=30) (ho:∀ t,t<e->Bd (f t)=0):∀ (d i:Nat) (j:Nat->V) (q:Nat),e=i+d->d<q ->
  (A3 (L2 L) (OJ n f) q (TK n f i i (By (cdV f) i) j)).sem=some (Xk n f e e (By (cdV f) e))
 | 0,i,j,q+1,h1,_=>by
  have hi:i=e:=by omega
  subst hi;rw [Ae (K4 L n f i i _ j),Ag he,ofNat_lt he,hb];rfl
 | d+1,i,j,q+1,h1,h2=>by
  have hi:i<n:=by omega
  rw [Ae (K4 L n f i i _ j),Ag hi,ofNat_lt hi,Ti hi (by decide) (of_decide_eq_true hn),Ap hi (Jv hn),ho i (by omega)];exact XL L n f hn e he hb ho d (i+1) Aa q (by omega) (by omega)
theorem ApE:Ax Tryz.prog Gl 37 Ad3:=by
 refine Aj A7 mixed Tryz.func37 (by kernel_rfl) (by kernel_rfl) λvs v h' h=>?_;obtain ⟨n,f,ha,h⟩:=C7 h;obtain ⟨hn,h⟩:=Ad h;have hx:=AH Rl [(0,OJ n f)];cases hm:Cp n f with
 | true =>
  rw [hm] at h;have:=Ab h;simp only [Prod.mk.injEq] at this;obtain ⟨rfl,rfl⟩:=this;exact ⟨_,cx9 [(0,OJ n f)],_,ha,rfl,hx.1,hx.2,AP (AI (AQ _) (AQ _)) _ (Aiq _ _ n f 0 n _ (Az (XM _ n f hn (Dt.1 hm) n 0 (Yl n f) (n+1) (by omega) (by omega)))),
   Av.one λj hj=>(FQ (cdV f) n j hj).symm⟩
 | false =>rw [hm] at h;have:=Ab h;simp only [Prod.mk.injEq] at this;obtain ⟨rfl,rfl⟩:=this;obtain ⟨e,h1,h2,h3⟩:=W3 hm;have hw:=AP (AI (AQ _) (AQ _)) _ (Aip (Ba [(0,OJ n f)]) _ n f e e _ (Az (XL _ n f hn e h1 h2 h3 e 0 (Yl n f) (n+1) (by omega) (by omega))));exact ⟨_,cx9 [(0,OJ n f)],_,ha,rfl,hx.1,hx.2,hw,Av.refl _⟩
def AgF (n:Nat) (h:Nat->Int) (k i:Nat):Int:=h ((k+i) % n)
theorem C0 {n m b:Nat} (h:(n+m) * b <= 140737488355328):Bn n m b=true:=decide_eq_true h
def Aof (f g:Nat->Int):Nat->Nat->Ordering
 | 0,_=>.eq
 | d+1,i=>if f i<g i then .lt else if g i<f i then .gt else Aof f g d (i+1)
def Aqe (n:Nat) (f:Nat->Int) (m:Nat) (g:Nat->Int):Int :=
 match Aof f g (min n m) 0 with
 | .lt=>-1
 | .gt=>1
 | .eq=>if n<m then -1 else if m<n then 1 else 0
def Abr (n:Nat) (f:Nat->Int) (m:Nat) (g:Nat->Int):Bool:=sel (ieq (ofNat n) (ofNat m)) (ieq (Aqe n (AgF n f (Cs n f)) m (AgF m g (Cs m g))) 0) false
def sameTT:List V->AE:=Aqg λn f m g=>.br (E9 n) (.br (E9 m) (out (bV (Abr n f m g))) .fail) .fail
noncomputable def Aev:AK:=(37,Ad3)::(38,Ac0)::[]
theorem Aeu:Aq Tryz.prog Gl Aev:=.cons ApE <| .cons p102 .nil
def Aha (n:Nat) (f:Nat->E6) (k:Nat):Blk:=.row 92 6 (AV (AV 0 (IA n k)) k) (Bu (AV 0 (IA n k)) k (Bu 0 (IA n k) (λ_=>eV ES) (λi=>eV (f (AV k i)))) (λi=>eV (f i)))
theorem Alr (L:LT) (n:Nat) (f:Nat->E6) (h0:BC n=true) (h1:Cp n f=true) (h2:Agl n=true) (h3:E8 40 0 (ofNat n)=true) (h13:Ao (ile 0 (ofNat (Cs n (λi=>BD (f i))))) (ile (ofNat (Cs n (λi=>BD (f i)))) (ofNat n))=true) (h14:Bn 0 (IA n (Cs n (λi=>BD (f i)))) 40=true) (h15:Bn (AV 0 (IA n (Cs n (λi=>BD (f i))))) (Cs n (λi=>BD (f i))) 40=true):(Ay (Ai tab ⟨Am Aev,L,Gl⟩ Tryz.f17 [AS n f] [])).sem=some ((.tup [.ref 0,iV 0]),[Aha n f (Cs n (λi=>BD (f i)))]):=by
 exact Ac (ks:=[kL n,kn h0,kn h1,kN (kI 0),kL n,kn h2,kn h3,kn h13,kn h14,kn h13,kn h15]) (by kernel_rfl)
def AY (n:Nat) (f:Nat->E6) (i:Nat):E6:=f ((Cs n (λi=>BD (f i))+i) % n)
def Ib:List V->AE:=Gs λn f=>.br (BC n) (.br (Cp n f) (.leaf (.tup [.ref 0,iV 0],[.row 92 6 n λi=>eV (AY n f i)])) (.leaf (.tup [.ref 0,iV 30],[.row 92 6 0 λ_=>.und]))) .fail
theorem p65:Ax Tryz.prog Gl 17 Ib:=by
 refine Aj A7 mixed Tryz.func17 (by kernel_rfl) (by kernel_rfl) λvs v h' h=>?_;obtain ⟨n,f,ha,h⟩:=C7 h;obtain ⟨hn,h⟩:=Ad h;have hx:=AH Aeu [];cases hm:Cp n f with
 | true =>
  rw [hm] at h;have:=Ab h;simp only [Prod.mk.injEq] at this;obtain ⟨rfl,rfl⟩:=this;have hn':n * 40 <= 140737488355328:=of_decide_eq_true hn;have hk:=Js n (λi=>BD (f i));have e3:∀ k,AV 0 (IA n k)=n-k:=λk=>by simp [AV,IA]
  have hw:=Alr (Ba []) n f hn hm (Ako (Ga hn)) (by
    simp only [E8,Bool.and_eq_true,decide_eq_true_eq,Int.ofNat_eq_natCast]; omega) (by
    rw [ile_nat,show (0:Int)=ofNat 0 from rfl,ile_nat]; simp [Ao]; omega) (by
    exact C0 (by show (0+(n-Cs n (λi=>BD (f i)))) * 40 <= _; omega)) (by
    rw [e3]; exact C0 (by omega))
  obtain ⟨r1,r2⟩:=V5 n (Cs n (λi=>BD (f i))) (λ_=>eV ES) f eV hk;unfold Aha at hw;rw [r1] at hw;exact ⟨_,AA Gl Aev [],_,ha,rfl,hx.1,hx.2,hw,Av.one λj hj=>(r2 j hj).symm⟩
 | false =>rw [hm] at h;have:=Ab h;simp only [Prod.mk.injEq] at this;obtain ⟨rfl,rfl⟩:=this;exact ⟨_,AA Gl Aev [],_,ha,rfl,hx.1,hx.2,Ac (ks:=[kL n,kn hn,kn hm,kN (⟨ieq 30 0,false,rfl⟩)]) (by kernel_rfl)/-W:wc65n-/,Av.refl _⟩
def MJ (n:Nat) (f:Nat->E6) (m:Nat) (g:Nat->E6):Bool:=Abr n (λi=>BD (f i)) m (λi=>BD (g i))
theorem e42 (Γ:Cx) (vs:List V) (h:List Blk):Ai tab Γ Tryz.f29 vs h=Ai tab Γ Tryz.f29 vs h:=by kernel_rfl
theorem p42:Ax Tryz.prog Gl 29 XF:=by
 refine Aj A7 mixed Tryz.func29 (by kernel_rfl) (by kernel_rfl) λvs v h' h=>?_;obtain ⟨n,f,m,g,ha,h⟩:=Aao h;obtain ⟨hn,h⟩:=Ad h;have:=Ab h;simp only [Prod.mk.injEq] at this;obtain ⟨rfl,rfl⟩:=this;have hx:=AH Rl [(0,lp36 n)];exact ⟨_,cx9 [(0,lp36 n)],_,ha,rfl,hx.1,hx.2,by rw [e42]; exact AiE n m f g (of_decide_eq_true hn),Av.refl _⟩
theorem YP {a b:E6} (ha:Bd a=0) (hb:Bd b=0) (h:BD a=BD b):a=b:=by
 rcases Er a with ⟨k,_,_,h1,h2,_⟩ | ⟨h1,_⟩
 ·rcases Er b with ⟨l,_,_,h3,h4,_⟩ | ⟨h3,_⟩
  ·rw [h1,h3] at h
   have:=Int.ofNat.inj h;rw [<- h2,<- h4,this]
  ·rw [hb] at h3; cases h3
 ·rw [ha] at h1; cases h1
theorem Vp {n:Nat} {f:Nat->E6} (h:Cp n f=true) {i:Nat} (hi:i<n):Bd (AY n f i)=0:=Dt.1 h _ (Nat.mod_lt _ (by omega))
theorem I7 {n:Nat} {f:Nat->E6} {m:Nat} {g:Nat->E6}:CB n f m g=true↔n=m∧∀ i,i<n->f i=g i:=by
 unfold CB;rw [DD];by_cases h:n=m
 ·rw [decide_eq_true h]
  show Ge f g n 0=true↔_;rw [Pi];exact ⟨λh1=>⟨h,λi hi=>h1 i (Nat.zero_le _) (by omega)⟩,λh1 j _ h3=>h1.2 j (by omega)⟩
 ·rw [decide_eq_false h]
  exact ⟨λh=>(by cases h),λh1=>absurd h1.1 h⟩
def Bh (q:Nat->Bool):Nat->Nat->Option Nat
 | 0,_=>none
 | d+1,i=>match q i with
  | true=>some i
  | false=>Bh q d (i+1)
theorem Dz {q:Nat->Bool} {d i:Nat} (h:q i=true):Bh q (d+1) i=some i:=by rw [Bh,h]
theorem D1 {q:Nat->Bool} {d i:Nat} (h:q i=false):Bh q (d+1) i=Bh q d (i+1):=by rw [Bh,h]
theorem Nb {q:Nat->Bool}:∀ {d i t:Nat},Bh q d i=some t->i <= t∧t<i+d∧q t=true
 | 0,_,_,h=>by cases h
 | d+1,i,t,h=>by
  cases hq:q i with
  | true =>rw [Dz hq] at h;simp only [Option.some.injEq] at h;subst h;exact ⟨Nat.le_refl _,by omega,hq⟩
  | false =>rw [D1 hq] at h;have:=Nb h;exact ⟨by omega,by omega,this.2.2⟩
theorem BX {a b:Int} (h:ieq a b=true):a=b:=by simpa [ieq] using h
end Go.Proofs.YtkgdhhieomndeaaGreatDoor.Ed
