/-
  Least: where the least turned list begins, as the program walks. No conditions.
-/
import Derived.Test.YtkbafjceglhjhaaGreatDoorCyI
namespace Go.Proofs.YtkbafjceglhjhaaGreatDoor.Ed
open Go.Sy
open Int (ofNat)
def Xp (r:Nat):Ex×St:=(.rt,⟨jsV 67 0 Aa [(2,nV r)],[]⟩)
def IW (n:Nat) (h:Nat->Int):Lp:=⟨bmK 67 0 [0,3,4,5,6],1,bmK 67 0 [2],1,3 * n+4⟩
def JV (n:Nat) (h:Nat->Int) (i t s:Nat) (j:Nat->V):St:=⟨jsV 67 0 j [(0,.sl 1 n (λk=>iV (h k))),(3,nV n),(4,nV i),(5,nV t),(6,nV s)],[]⟩
noncomputable def Fo (L:LT):St->T (Ex×St):=λst=>AA tab ⟨Aw tb0,L,Gl⟩ (As (Vk 0 900 Tryz.f73) 0) 0 st
section
variable (L:LT) (n:Nat) (h:Nat->Int) (i t s:Nat)  (j:Nat->V)
include L n h i t s j
theorem AkM (h0:ile (ofNat n) (ofNat i)=true):Au (Fo L) (IW n h) (JV n h i t s j)=some (.rt,⟨jsV 67 0 Aa [(2,iV (sel (ilt (sel (ilt (wr .i64 (Bz (ofNat n) 1)) 0) 0 (wr .i64 (Bz (ofNat n) 1))) (sel (ilt (ofNat t) (ofNat i)) (ofNat t) (ofNat i))) (sel (ilt (wr .i64 (Bz (ofNat n) 1)) 0) 0 (wr .i64 (Bz (ofNat n) 1))) (sel (ilt (ofNat t) (ofNat i)) (ofNat t) (ofNat i))))],[]⟩):=by
 exact Ae (ks:=[kn h0,kn h0,kn h0,kn h0,kT,kT,kT,kT,kT]) (by kernel_rfl)
theorem AkL (h0:ile (ofNat n) (ofNat i)=false) (h1:ile (ofNat n) (ofNat t)=true):Au (Fo L) (IW n h) (JV n h i t s j)=some (.rt,⟨jsV 67 0 Aa [(2,iV (sel (ilt (sel (ilt (wr .i64 (Bz (ofNat n) 1)) 0) 0 (wr .i64 (Bz (ofNat n) 1))) (sel (ilt (ofNat t) (ofNat i)) (ofNat t) (ofNat i))) (sel (ilt (wr .i64 (Bz (ofNat n) 1)) 0) 0 (wr .i64 (Bz (ofNat n) 1))) (sel (ilt (ofNat t) (ofNat i)) (ofNat t) (ofNat i))))],[]⟩):=by
 exact Ae (ks:=[kn h0,kn h0,kn h0,kn h0,kn h1,kn h1,kn h1,kn h1,kT]) (by kernel_rfl)
theorem AkJ (h0:ile (ofNat n) (ofNat i)=false) (h1:ile (ofNat n) (ofNat t)=false) (h2:ile (ofNat n) (ofNat s)=true):Au (Fo L) (IW n h) (JV n h i t s j)=some (.rt,⟨jsV 67 0 Aa [(2,iV (sel (ilt (sel (ilt (wr .i64 (Bz (ofNat n) 1)) 0) 0 (wr .i64 (Bz (ofNat n) 1))) (sel (ilt (ofNat t) (ofNat i)) (ofNat t) (ofNat i))) (sel (ilt (wr .i64 (Bz (ofNat n) 1)) 0) 0 (wr .i64 (Bz (ofNat n) 1))) (sel (ilt (ofNat t) (ofNat i)) (ofNat t) (ofNat i))))],[]⟩):=by
 exact Ae (ks:=[kn h0,kn h0,kn h0,kn h0,kn h1,kn h1,kn h1,kn h1,kn h2]) (by kernel_rfl)
theorem AkO (h0:ile (ofNat n) (ofNat i)=false) (h1:ile (ofNat n) (ofNat t)=false) (h2:ile (ofNat n) (ofNat s)=false) (h3:ieq (ofNat n) 0=false) (h4:Al (ile 0 (Ay (wr .i64 (Ai (ofNat i) (ofNat s))) (ofNat n))) (ilt (Ay (wr .i64 (Ai (ofNat i) (ofNat s))) (ofNat n)) (ofNat n))=true) (h5:Al (ile 0 (Ay (wr .i64 (Ai (ofNat t) (ofNat s))) (ofNat n))) (ilt (Ay (wr .i64 (Ai (ofNat t) (ofNat s))) (ofNat n)) (ofNat n))=true) (h6:ieq (h (toN (Ay (wr .i64 (Ai (ofNat i) (ofNat s))) (ofNat n)))) (h (toN (Ay (wr .i64 (Ai (ofNat t) (ofNat s))) (ofNat n))))=true):Au (Fo L) (IW n h) (JV n h i t s j)=some (.nm,⟨jsV 67 0 Aa [(0,.sl 1 n (λk=>iV (h k))),(3,nV n),(4,nV i),(5,nV t),(6,iV (wr .i64 (Ai (ofNat s) 1)))],[]⟩):=by
 exact Ae (ks:=[kn h0,kn h0,kn h0,kn h0,kn h1,kn h1,kn h1,kn h1,kn h2,kn h3,kn h4,kn h3,kn h5,kn h6]) (by kernel_rfl)
theorem AkN (h0:ile (ofNat n) (ofNat i)=false) (h1:ile (ofNat n) (ofNat t)=false) (h2:ile (ofNat n) (ofNat s)=false) (h3:ieq (ofNat n) 0=false) (h4:Al (ile 0 (Ay (wr .i64 (Ai (ofNat i) (ofNat s))) (ofNat n))) (ilt (Ay (wr .i64 (Ai (ofNat i) (ofNat s))) (ofNat n)) (ofNat n))=true) (h5:Al (ile 0 (Ay (wr .i64 (Ai (ofNat t) (ofNat s))) (ofNat n))) (ilt (Ay (wr .i64 (Ai (ofNat t) (ofNat s))) (ofNat n)) (ofNat n))=true) (h6:ieq (h (toN (Ay (wr .i64 (Ai (ofNat i) (ofNat s))) (ofNat n)))) (h (toN (Ay (wr .i64 (Ai (ofNat t) (ofNat s))) (ofNat n))))=false) (h7:ilt (h (toN (Ay (wr .i64 (Ai (ofNat t) (ofNat s))) (ofNat n)))) (h (toN (Ay (wr .i64 (Ai (ofNat i) (ofNat s))) (ofNat n))))=true) (h8:ieq (wr .i64 (Ai (ofNat i) (wr .i64 (Ai (ofNat s) 1)))) (ofNat t)=false):Au (Fo L) (IW n h) (JV n h i t s j)=some (.nm,⟨jsV 67 0 Aa [(0,.sl 1 n (λk=>iV (h k))),(3,nV n),(4,iV (wr .i64 (Ai (ofNat i) (wr .i64 (Ai (ofNat s) 1))))),(5,nV t),(6,iV 0)],[]⟩):=by
 exact Ae (ks:=[kn h0,kn h0,kn h0,kn h0,kn h1,kn h1,kn h1,kn h1,kn h2,kn h3,kn h4,kn h3,kn h5,kn h6,kn h7,kn h8]) (by kernel_rfl)
theorem Agl (h0:ile (ofNat n) (ofNat i)=false) (h1:ile (ofNat n) (ofNat t)=false) (h2:ile (ofNat n) (ofNat s)=false) (h3:ieq (ofNat n) 0=false) (h4:Al (ile 0 (Ay (wr .i64 (Ai (ofNat i) (ofNat s))) (ofNat n))) (ilt (Ay (wr .i64 (Ai (ofNat i) (ofNat s))) (ofNat n)) (ofNat n))=true) (h5:Al (ile 0 (Ay (wr .i64 (Ai (ofNat t) (ofNat s))) (ofNat n))) (ilt (Ay (wr .i64 (Ai (ofNat t) (ofNat s))) (ofNat n)) (ofNat n))=true) (h6:ieq (h (toN (Ay (wr .i64 (Ai (ofNat i) (ofNat s))) (ofNat n)))) (h (toN (Ay (wr .i64 (Ai (ofNat t) (ofNat s))) (ofNat n))))=false) (h7:ilt (h (toN (Ay (wr .i64 (Ai (ofNat t) (ofNat s))) (ofNat n)))) (h (toN (Ay (wr .i64 (Ai (ofNat i) (ofNat s))) (ofNat n))))=true) (h8:ieq (wr .i64 (Ai (ofNat i) (wr .i64 (Ai (ofNat s) 1)))) (ofNat t)=true):Au (Fo L) (IW n h) (JV n h i t s j)=some (.nm,⟨jsV 67 0 Aa [(0,.sl 1 n (λk=>iV (h k))),(3,nV n),(4,iV (wr .i64 (Ai (ofNat i) (wr .i64 (Ai (ofNat s) 1))))),(5,iV (wr .i64 (Ai (ofNat t) 1))),(6,iV 0)],[]⟩):=by
 exact Ae (ks:=[kn h0,kn h0,kn h0,kn h0,kn h1,kn h1,kn h1,kn h1,kn h2,kn h3,kn h4,kn h3,kn h5,kn h6,kn h7,kn h8]) (by kernel_rfl)
theorem AkK (h0:ile (ofNat n) (ofNat i)=false) (h1:ile (ofNat n) (ofNat t)=false) (h2:ile (ofNat n) (ofNat s)=false) (h3:ieq (ofNat n) 0=false) (h4:Al (ile 0 (Ay (wr .i64 (Ai (ofNat i) (ofNat s))) (ofNat n))) (ilt (Ay (wr .i64 (Ai (ofNat i) (ofNat s))) (ofNat n)) (ofNat n))=true) (h5:Al (ile 0 (Ay (wr .i64 (Ai (ofNat t) (ofNat s))) (ofNat n))) (ilt (Ay (wr .i64 (Ai (ofNat t) (ofNat s))) (ofNat n)) (ofNat n))=true) (h6:ieq (h (toN (Ay (wr .i64 (Ai (ofNat i) (ofNat s))) (ofNat n)))) (h (toN (Ay (wr .i64 (Ai (ofNat t) (ofNat s))) (ofNat n))))=false) (h7:ilt (h (toN (Ay (wr .i64 (Ai (ofNat t) (ofNat s))) (ofNat n)))) (h (toN (Ay (wr .i64 (Ai (ofNat i) (ofNat s))) (ofNat n))))=false) (h8:ieq (ofNat i) (wr .i64 (Ai (ofNat t) (wr .i64 (Ai (ofNat s) 1))))=false):Au (Fo L) (IW n h) (JV n h i t s j)=some (.nm,⟨jsV 67 0 Aa [(0,.sl 1 n (λk=>iV (h k))),(3,nV n),(4,nV i),(5,iV (wr .i64 (Ai (ofNat t) (wr .i64 (Ai (ofNat s) 1))))),(6,iV 0)],[]⟩):=by
 exact Ae (ks:=[kn h0,kn h0,kn h0,kn h0,kn h1,kn h1,kn h1,kn h1,kn h2,kn h3,kn h4,kn h3,kn h5,kn h6,kn h7,kn h8]) (by kernel_rfl)
theorem Agk (h0:ile (ofNat n) (ofNat i)=false) (h1:ile (ofNat n) (ofNat t)=false) (h2:ile (ofNat n) (ofNat s)=false) (h3:ieq (ofNat n) 0=false) (h4:Al (ile 0 (Ay (wr .i64 (Ai (ofNat i) (ofNat s))) (ofNat n))) (ilt (Ay (wr .i64 (Ai (ofNat i) (ofNat s))) (ofNat n)) (ofNat n))=true) (h5:Al (ile 0 (Ay (wr .i64 (Ai (ofNat t) (ofNat s))) (ofNat n))) (ilt (Ay (wr .i64 (Ai (ofNat t) (ofNat s))) (ofNat n)) (ofNat n))=true) (h6:ieq (h (toN (Ay (wr .i64 (Ai (ofNat i) (ofNat s))) (ofNat n)))) (h (toN (Ay (wr .i64 (Ai (ofNat t) (ofNat s))) (ofNat n))))=false) (h7:ilt (h (toN (Ay (wr .i64 (Ai (ofNat t) (ofNat s))) (ofNat n)))) (h (toN (Ay (wr .i64 (Ai (ofNat i) (ofNat s))) (ofNat n))))=false) (h8:ieq (ofNat i) (wr .i64 (Ai (ofNat t) (wr .i64 (Ai (ofNat s) 1))))=true):Au (Fo L) (IW n h) (JV n h i t s j)=some (.nm,⟨jsV 67 0 Aa [(0,.sl 1 n (λk=>iV (h k))),(3,nV n),(4,nV i),(5,iV (wr .i64 (Ai (wr .i64 (Ai (ofNat t) (wr .i64 (Ai (ofNat s) 1)))) 1))),(6,iV 0)],[]⟩):=by
 exact Ae (ks:=[kn h0,kn h0,kn h0,kn h0,kn h1,kn h1,kn h1,kn h1,kn h2,kn h3,kn h4,kn h3,kn h5,kn h6,kn h7,kn h8]) (by kernel_rfl)
end
def Ajh (n:Nat) (h:Nat->Int) :Nat->V:=lkV AK [(2,iV 0),(9,.sl 1 n (λk=>iV (h k))),(10,nV n)]
theorem An8 (L:LT) (p0:PT) (n:Nat) (h:Nat->Int) (r:Nat)  (hp0:p0 (Fo (onP 0 p0 (Xp r) L)) (JV n h 0 1 0 (Ajh n h ))=true):(A0 (Aj tab ⟨Aw tb0,onP 0 p0 (Xp r) L,Gl⟩ (Vk 0 900 Tryz.f73) [.sl 1 n (λk=>iV (h k))] [])).sem=some ((nV r),[]):=by
 exact Ae (ks:=[kn hp0]) (by kernel_rfl)
def EZ (n:Nat) (h:Nat->Int):Nat->Nat->Nat->Nat->Nat
 | 0,_,_,_=>0
 | q+1,i,t,s =>
  if n <= i ∨ n <= t ∨ n <= s then min (min i t) (n-1)
  else if h ((i+s) % n)=h ((t+s) % n) then EZ n h q i t (s+1)
  else if h ((t+s) % n)<h ((i+s) % n) then EZ n h q (i+s+1) (if i+s+1=t then t+1 else t) 0
  else EZ n h q i (if i=t+s+1 then t+s+2 else t+s+1) 0
def Eb (n:Nat) (h:Nat->Int):Nat:=EZ n h (3 * n+4) 0 1 0
theorem FB {a b:Nat} (h:a+b <= 9223372036854775807):wr .i64 (Ai (ofNat a) (ofNat b))=ofNat (a+b):=by
 unfold wr Ai IntKind.wrap;simp [IntKind.bits,IntKind.signed];omega
theorem Ma {a:Nat} (h:a+1 <= 9223372036854775807):wr .i64 (Ai (ofNat a) 1)=ofNat (a+1):=FB (b:=1) h
theorem Et (a n:Nat):Ay (ofNat a) (ofNat n)=ofNat (a % n):=rfl
theorem DX (a b:Nat):ieq (ofNat a) (ofNat b)=decide (a=b):=by
 simp only [ieq,Int.ofNat_eq_natCast];by_cases h:a=b
 ·simp [h]
 ·rw [decide_eq_false h]
  simp;omega
theorem ile_nat (a b:Nat):ile (ofNat a) (ofNat b)=decide (a <= b):=by
 simp [ile]
theorem Cw (a b:Nat):ilt (ofNat a) (ofNat b)=decide (a<b):=by
 simp [ilt]
theorem AlW (n i t:Nat) (hn:n <= 1152921504606846976):sel (ilt (sel (ilt (wr .i64 (Bz (ofNat n) 1)) 0) 0 (wr .i64 (Bz (ofNat n) 1))) (sel (ilt (ofNat t) (ofNat i)) (ofNat t) (ofNat i))) (sel (ilt (wr .i64 (Bz (ofNat n) 1)) 0) 0 (wr .i64 (Bz (ofNat n) 1))) (sel (ilt (ofNat t) (ofNat i)) (ofNat t) (ofNat i))=ofNat (min (min i t) (n-1)):=by
 have h1:wr .i64 (Bz (ofNat n) 1)=(n:Int)-1:=by
  unfold wr Bz IntKind.wrap;simp [IntKind.bits,IntKind.signed];omega
 rw [h1];simp only [sel,ilt,Bool.cond_decide,Int.ofNat_eq_natCast];omega
theorem Ml (L:LT) (n:Nat) (h:Nat->Int) (hn:n <= 1152921504606846976):∀ (q i t s:Nat) (j:Nat->V),i <= 2 * n->t <= 2 * n+1->s <= n->3 * n+1-(i+t+s)<q ->
  (Av (Fo L) (IW n h) q (JV n h i t s j)).sem=some (Xp (EZ n h q i t s))
 | 0,_,_,_,_,_,_,_,h4=>absurd h4 (Nat.not_lt_zero _)
 | q+1,i,t,s,j,hi,ht,hs,h4=>by
  by_cases ci:n <= i
  ·rw [Af (AkM L n h i t s j (by rw [ile_nat,decide_eq_true ci])),Tc,AlW n i t hn,EZ,if_pos (.inl ci)]
   rfl
  ·have ci0:ile (ofNat n) (ofNat i)=false:=by rw [ile_nat,decide_eq_false ci]
   by_cases ct:n <= t
   ·rw [Af (AkL L n h i t s j ci0 (by rw [ile_nat,decide_eq_true ct])),Tc,AlW n i t hn,EZ,if_pos (.inr (.inl ct))]
    rfl
   ·have ct0:ile (ofNat n) (ofNat t)=false:=by rw [ile_nat,decide_eq_false ct]
    by_cases cs:n <= s
    ·rw [Af (AkJ L n h i t s j ci0 ct0 (by rw [ile_nat,decide_eq_true cs])),Tc,AlW n i t hn,EZ,if_pos (.inr (.inr cs))]
     rfl
    ·have cs0:ile (ofNat n) (ofNat s)=false:=by rw [ile_nat,decide_eq_false cs]
     have cn0:ieq (ofNat n) 0=false:=by
      rw [show (0:Int)=ofNat 0 from rfl,DX,decide_eq_false (by omega)]
     have e1:Ay (wr .i64 (Ai (ofNat i) (ofNat s))) (ofNat n)=ofNat ((i+s) % n):=by rw [FB (by omega),Et]
     have e2:Ay (wr .i64 (Ai (ofNat t) (ofNat s))) (ofNat n)=ofNat ((t+s) % n):=by rw [FB (by omega),Et]
     have b1:Al (ile 0 (Ay (wr .i64 (Ai (ofNat i) (ofNat s))) (ofNat n))) (ilt (Ay (wr .i64 (Ai (ofNat i) (ofNat s))) (ofNat n)) (ofNat n))=true:=by
      rw [e1]; exact Ad (Nat.mod_lt _ (by omega))
     have b2:Al (ile 0 (Ay (wr .i64 (Ai (ofNat t) (ofNat s))) (ofNat n))) (ilt (Ay (wr .i64 (Ai (ofNat t) (ofNat s))) (ofNat n)) (ofNat n))=true:=by
      rw [e2]; exact Ad (Nat.mod_lt _ (by omega))
     have t1:∀ a:Nat,toN (ofNat a)=a:=λ_=>rfl;have u1:wr .i64 (Ai (ofNat i) (wr .i64 (Ai (ofNat s) 1)))=ofNat (i+s+1):=by rw [Ma (by omega),FB (by omega)]; rfl
     have u2:wr .i64 (Ai (ofNat t) (wr .i64 (Ai (ofNat s) 1)))=ofNat (t+s+1):=by rw [Ma (by omega),FB (by omega)]; rfl
     rw [EZ,if_neg (by omega)];by_cases ce:h ((i+s) % n)=h ((t+s) % n)
     ·rw [if_pos ce,Af (AkO L n h i t s j ci0 ct0 cs0 cn0 b1 b2 (by rw [e1,e2,t1,t1]; simp [ieq,ce])),AT,Ma (by omega)]
      exact Ml L n h hn q i t (s+1) Aa hi ht (by omega) (by omega)
     ·have ce0:ieq (h (toN (Ay (wr .i64 (Ai (ofNat i) (ofNat s))) (ofNat n)))) (h (toN (Ay (wr .i64 (Ai (ofNat t) (ofNat s))) (ofNat n))))=false:=by
       rw [e1,e2,t1,t1]; simp [ieq,ce]
      rw [if_neg ce];by_cases cg:h ((t+s) % n)<h ((i+s) % n)
      ·have cg0:ilt (h (toN (Ay (wr .i64 (Ai (ofNat t) (ofNat s))) (ofNat n)))) (h (toN (Ay (wr .i64 (Ai (ofNat i) (ofNat s))) (ofNat n))))=true:=by
        rw [e1,e2,t1,t1]; simp [ilt,cg]
       rw [if_pos cg];by_cases cq:i+s+1=t
       ·rw [if_pos cq,Af (Agl L n h i t s j ci0 ct0 cs0 cn0 b1 b2 ce0 cg0 (by rw [u1,DX,decide_eq_true cq])),AT,u1,Ma (by omega)]
        exact Ml L n h hn q (i+s+1) (t+1) 0 Aa (by omega) (by omega) (by omega) (by omega)
       ·rw [if_neg cq,Af (AkN L n h i t s j ci0 ct0 cs0 cn0 b1 b2 ce0 cg0 (by rw [u1,DX,decide_eq_false cq])),AT,u1]
        exact Ml L n h hn q (i+s+1) t 0 Aa (by omega) (by omega) (by omega) (by omega)
      ·have cg0:ilt (h (toN (Ay (wr .i64 (Ai (ofNat t) (ofNat s))) (ofNat n)))) (h (toN (Ay (wr .i64 (Ai (ofNat i) (ofNat s))) (ofNat n))))=false:=by
        rw [e1,e2,t1,t1]; simp [ilt]; omega
       rw [if_neg cg];by_cases cq:i=t+s+1
       ·rw [if_pos cq,Af (Agk L n h i t s j ci0 ct0 cs0 cn0 b1 b2 ce0 cg0 (by rw [u2,DX,decide_eq_true cq])),AT,u2,Ma (by omega)]
        exact Ml L n h hn q i (t+s+2) 0 Aa (by omega) (by omega) (by omega) (by omega)
       ·rw [if_neg cq,Af (AkK L n h i t s j ci0 ct0 cs0 cn0 b1 b2 ce0 cg0 (by rw [u2,DX,decide_eq_false cq])),AT,u2]
        exact Ml L n h hn q i (t+s+1) 0 Aa (by omega) (by omega) (by omega) (by omega)
def AhF (n:Nat):Bool:=decide (n <= 1152921504606846976)
def Adw:List V->A5:=AhU λn h=>.br (AhF n) (out (iV (ofNat (Eb n h)))) .fail
theorem Asy:Ap Tryz.prog Gl 73 Adw:=by
 refine U5 (p:=match Tryz.f73.body with | some (.seq p _)=>p | _=>.skip) (c:=match Tryz.f73.body with | some (.seq _ (.scope c))=>c | _=>.skip) (d:=match (match Tryz.f73.body with | some (.seq _ (.scope c))=>Gb 0 c | _=>none) with | some d=>d | none=>.skip) A2 mixed Tryz.func73 0 900 (by kernel_rfl) (by kernel_rfl) (by kernel_rfl) (by kernel_rfl) λvs v h' h=>?_
 obtain ⟨n,f,ha,h1⟩:=RA h;obtain ⟨hn,hq⟩:=Ac h1;have:=Ab hq;simp only [Prod.mk.injEq] at this;obtain ⟨rfl,rfl⟩:=this;have hn:n <= 1152921504606846976:=by simpa [AhF] using hn
 have hx:=Bh Ca [(0,IW n f)];exact ⟨_,AO Gl tb0 [(0,IW n f)],_,ha,rfl,hx.1,hx.2,AW (AX (Bb _) (Bb _)) _ (An8 _ _ n f _ (A4 (Ml _ n f hn (3 * n+4) 0 1 0 (Ajh n f) (by omega) (by omega) (by omega) (by omega)))),Am.refl _⟩
end Go.Proofs.YtkbafjceglhjhaaGreatDoor.Ed
namespace Go.Proofs.YtkbafjceglhjhaaGreatDoor.Ed
open Go.Sy
open Int (ofNat)
theorem Ku (n m:Nat) (gx g:Nat->V) (i:Nat) (h:i<n+m):Bn n m gx g i=bif Nat.blt i n then gx i else g (i-n):=by
 cases hb:Nat.blt i n with
 | true=>exact Pk n m gx g i (Nat.blt_eq ▸ hb)
 | false =>
  have h1:n <= i:=by
   rcases Nat.lt_or_ge i n with h2 | h2
   ·rw [show Nat.blt i n=true from Nat.blt_eq ▸ h2] at hb; cases hb
   ·exact h2
  have:=Pl n m gx g (i-n) (by omega);rw [show n+(i-n)=i by omega] at this;exact this
theorem VY {α:Type} (n k:Nat) (z:Nat->V) (h:Nat->α) (e:α->V) (hk:k<n ∨ n=0∧k=0):AE (AE 0 (IU n k)) k=n∧∀ j,j<n ->
  Bn (AE 0 (IU n k)) k (Bn 0 (IU n k) z (λi=>e (h (AE k i)))) (λi=>e (h i)) j=e (h ((k+j) % n)):=by
 have h1:AE 0 (IU n k)=n-k:=by simp [AE,IU]
 have h2:IU n k=n-k:=rfl;refine ⟨by rw [h1]; show n-k+k=n; omega,λj hj=>?_⟩;rw [h1,h2,Ku _ _ _ _ j (by omega)];cases hb:Nat.blt j (n-k) with
 | true =>have hb:j<n-k:=Nat.blt_eq ▸ hb;show Bn 0 (n-k) z (λi=>e (h (AE k i))) j=_;rw [Ku _ _ _ _ j (by omega)];show e (h (k+(j-0)))=_;rw [Nat.mod_eq_of_lt (by omega),Nat.sub_zero]
 | false =>
  have hb:n-k <= j:=by
   rcases Nat.lt_or_ge j (n-k) with h3 | h3
   ·rw [show Nat.blt j (n-k)=true from Nat.blt_eq ▸ h3] at hb; cases hb
   ·exact h3
  show e (h (j-(n-k)))=_;rw [show k+j=j-(n-k)+n by omega,Nat.add_mod_right,Nat.mod_eq_of_lt (by omega)]
def Fa (n:Nat):Bool:=decide (n * 8 <= 140737488355328)
theorem E1 {n:Nat} (h:Fa n=true):n <= 4611686018427387904:=by
 have h:n * 8 <= 140737488355328:=of_decide_eq_true h;omega
theorem Xn {n:Nat} (h:Fa n=true):Aq n=true:=decide_eq_true (E1 h)
theorem Amw {n:Nat} (h:Fa n=true):AhF n=true:=by
 have h:n * 8 <= 140737488355328:=of_decide_eq_true h;exact decide_eq_true (by omega)
theorem G8 {n:Nat} (h:Ct n=true):Fa n=true:=by
 have h:n * 40 <= 140737488355328:=of_decide_eq_true h;exact decide_eq_true (by omega)
theorem Mv (n:Nat) (h:Nat->Int):∀ q i t s,EZ n h q i t s <= n-1
 | 0,_,_,_=>Nat.zero_le _
 | q+1,i,t,s=>by
  unfold EZ;split
  ·omega
  ·split
   ·exact Mv n h q _ _ _
   ·split <;> exact Mv n h q _ _ _
theorem Aat (n:Nat) (h:Nat->Int):Eb n h <= n-1:=Mv n h _ _ _ _
theorem Rc (n:Nat) (h:Nat->Int):Eb n h<n ∨ n=0∧Eb n h=0:=by
 have:=Aat n h;omega
def OW (n:Nat) (f:Nat->E6):Lp:=⟨bmK 28 0 [0,2,3,4,9,10,11],2,bmK 28 0 [2,3,4],4,n+1⟩
def Uo (n:Nat) (f:Nat->E6) (i k:Nat) (x:Nat->V) (j:Nat->V):St:=⟨jsV 28 0 j [(0,.sl 6 n λi=>eV (f i)),(2,.ref 0),(3,iV 0),(4,.ref 1),(9,.sl 6 n λi=>eV (f i)),(10,nV n),(11,nV i)],[.row 3 1 0 λ_=>.und,.row 3 1 k x]⟩
def X4 (n:Nat) (f:Nat->E6) (i k:Nat) (x:Nat->V):Ex×St:=(.ex 0,⟨jsV 28 0 Aa [(2,.ref 0),(3,iV 0),(4,.ref 1)],[.row 3 1 0 λ_=>.und,.row 3 1 k x]⟩)
def X3 (n:Nat) (f:Nat->E6) (i k:Nat) (x:Nat->V):Ex×St:=(.rt,⟨jsV 28 0 Aa [(2,.ref 3),(3,iV 30),(4,.ref 1)],[.row 3 1 0 λ_=>.und,.row 3 1 k x,.cells [iV (f i).kind,bV (f i).ext,bV (f i).same,iV (f i).src,iV (f i).dst,iV (f i).fence],.row 3 1 0 λ_=>.und]⟩)
noncomputable def LP (L:LT):St->T (Ex×St):=λst=>AA tab ⟨Aw tb8,L,Gl⟩ (As Tryz.f72 0) 0 st
theorem KV (L:LT) (n:Nat) (f:Nat->E6) (i k:Nat) (x:Nat->V) (j:Nat->V):Au (LP L) (OW n f) (Uo n f i k x j)
 = (sel (ilt (ofNat i) (ofNat n)) (sel (Al (ile 0 (ofNat i)) (ilt (ofNat i) (ofNat n))) (sel (AQ (ieq (Be (f i)) 0)) (some (.rt,⟨[.und,.und,.ref 3,iV 30,.ref 1,.und,.und,.und,.und,.und,.und,.und,.und,.und,.und,.und,.und,.und,.und,.und,.und,.und,.und,.und,.und,.und,.und,.und],[.row 3 1 0 Aa,.row 3 1 k x,.cells [iV (f i).kind,bV (f i).ext,bV (f i).same,iV (f i).src,iV (f i).dst,iV (f i).fence],.row 3 1 0 Aa]⟩)) (sel (Bs k 1 8) (some (.nm,⟨[.sl 6 n (λi=>eV (f i)),.und,.ref 0,iV 0,.ref 1,.und,.und,.und,.und,.sl 6 n (λi=>eV (f i)),nV n,iV (wr .i64 (Ai (ofNat i) 1)),.und,.und,.und,.und,.und,.und,.und,.und,.und,.und,.und,.und,.und,.und,.und,.und],[.row 3 1 0 Aa,.row 3 1 (AE k 1) (AD k x (iV (Cd (f i))))]⟩)) none)) none) (some ((.ex 0),⟨[.und,.und,.ref 0,iV 0,.ref 1,.und,.und,.und,.und,.und,.und,.und,.und,.und,.und,.und,.und,.und,.und,.und,.und,.und,.und,.und,.und,.und,.und,.und],[.row 3 1 0 Aa,.row 3 1 k x]⟩))):=by kernel_rfl
def YH (n:Nat) (f:Nat->E6) :Nat->V:=lkV AK []
section
variable (L:LT) (p0:PT) (n:Nat) (f:Nat->E6) (i k:Nat) (x:Nat->V)
include L p0 n f i k x
theorem Akb  (hp0:p0 (LP (onP 0 p0 (X4 n f i k x) L)) (Uo n f 0 0 Aa (YH n f ))=true):(A0 (Aj tab ⟨Aw tb8,onP 0 p0 (X4 n f i k x) L,Gl⟩ Tryz.f72 [AI n f] [])).sem=some ((.tup [.ref 0,iV 0]),[.row 3 1 k x]):=by
 exact Ae (ks:=[kn hp0]) (by kernel_rfl)
theorem Aka  (hp0:p0 (LP (onP 0 p0 (X3 n f i k x) L)) (Uo n f 0 0 Aa (YH n f ))=true):(A0 (Aj tab ⟨Aw tb8,onP 0 p0 (X3 n f i k x) L,Gl⟩ Tryz.f72 [AI n f] [])).sem=some ((.tup [.ref 0,iV 30]),[.row 3 1 0 Aa]):=by
 exact Ae (ks:=[kn hp0]) (by kernel_rfl)
end
theorem Yk (L:LT) (n:Nat) (f:Nat->E6) (hn:Ct n=true) (ho:∀ t,t<n->Be (f t)=0):∀ (d i:Nat) (j:Nat->V) (q:Nat),n=i+d->d<q ->
  (Av (LP L) (OW n f) q (Uo n f i i (BW (cdV f) i) j)).sem=some (X4 n f 0 n (BW (cdV f) n))
 | 0,i,j,q+1,h1,_=>by
  have hi:i=n:=by omega
  subst hi;rw [Af (KV L i f i i _ j),A1 (Nat.le_refl i)];rfl
 | d+1,i,j,q+1,h1,h2=>by
  have hi:i<n:=by omega
  rw [Af (KV L n f i i _ j),Ad hi,ofNat_lt hi,TL hi (by decide) (of_decide_eq_true hn),A3 hi (JA hn),ho i hi];exact Yk L n f hn ho d (i+1) Aa q (by omega) (by omega)
theorem Yj (L:LT) (n:Nat) (f:Nat->E6) (hn:Ct n=true) (e:Nat) (he:e<n) (hb:Be (f e)=30) (ho:∀ t,t<e->Be (f t)=0):∀ (d i:Nat) (j:Nat->V) (q:Nat),e=i+d->d<q ->
  (Av (LP L) (OW n f) q (Uo n f i i (BW (cdV f) i) j)).sem=some (X3 n f e e (BW (cdV f) e))
 | 0,i,j,q+1,h1,_=>by
  have hi:i=e:=by omega
  subst hi;rw [Af (KV L n f i i _ j),Ad he,ofNat_lt he,hb];rfl
 | d+1,i,j,q+1,h1,h2=>by
  have hi:i<n:=by omega
  rw [Af (KV L n f i i _ j),Ad hi,ofNat_lt hi,TL hi (by decide) (of_decide_eq_true hn),A3 hi (JA hn),ho i (by omega)];exact Yj L n f hn e he hb ho d (i+1) Aa q (by omega) (by omega)
theorem Asz:Ap Tryz.prog Gl 72 Aew:=by
 refine Ah A2 mixed Tryz.func72 (by kernel_rfl) (by kernel_rfl) λvs v h' h=>?_;obtain ⟨n,f,ha,h⟩:=CM h;obtain ⟨hn,h⟩:=Ac h;have hx:=Bh Mf [(0,OW n f)];cases hm:Di n f with
 | true =>
  rw [hm] at h;have:=Ab h;simp only [Prod.mk.injEq] at this;obtain ⟨rfl,rfl⟩:=this;exact ⟨_,cx9 [(0,OW n f)],_,ha,rfl,hx.1,hx.2,AW (AX (Bb _) (Bb _)) _ (Akb _ _ n f 0 n _ (A4 (Yk _ n f hn (D9.1 hm) n 0 (YH n f) (n+1) (by omega) (by omega)))),
   Am.one λj hj=>(HE (cdV f) n j hj).symm⟩
 | false =>rw [hm] at h;have:=Ab h;simp only [Prod.mk.injEq] at this;obtain ⟨rfl,rfl⟩:=this;obtain ⟨e,h1,h2,h3⟩:=WU hm;have hw:=AW (AX (Bb _) (Bb _)) _ (Aka (BC [(0,OW n f)]) _ n f e e _ (A4 (Yj _ n f hn e h1 h2 h3 e 0 (YH n f) (n+1) (by omega) (by omega))));exact ⟨_,cx9 [(0,OW n f)],_,ha,rfl,hx.1,hx.2,hw,Am.refl _⟩
theorem FT {n m b:Nat} (h:(n+m) * b <= 140737488355328):Bs n m b=true:=decide_eq_true h
noncomputable def tb65:A7:=(72,Aew)::(73,Adw)::[]
theorem tb65_ok:Ao Tryz.prog Gl tb65:=.cons Asz <| .cons Asy .nil
def AiA (n:Nat) (f:Nat->E6) (k:Nat):Blk:=.row 76 6 (AE (AE 0 (IU n k)) k) (Bn (AE 0 (IU n k)) k (Bn 0 (IU n k) (λ_=>eV Gn) (λi=>eV (f (AE k i)))) (λi=>eV (f i)))
theorem Anz (L:LT) (n:Nat) (f:Nat->E6) (h0:Ct n=true) (h1:Di n f=true) (h2:AhF n=true) (h3:EX 40 0 (ofNat n)=true) (h13:Al (ile 0 (ofNat (Eb n (λi=>Cd (f i))))) (ile (ofNat (Eb n (λi=>Cd (f i)))) (ofNat n))=true) (h14:Bs 0 (IU n (Eb n (λi=>Cd (f i)))) 40=true) (h15:Bs (AE 0 (IU n (Eb n (λi=>Cd (f i))))) (Eb n (λi=>Cd (f i))) 40=true):(A0 (Aj tab ⟨Aw tb65,L,Gl⟩ Tryz.f48 [AI n f] [])).sem=some ((.tup [.ref 0,iV 0]),[AiA n f (Eb n (λi=>Cd (f i)))]):=by
 exact Ae (ks:=[kL n,kn h0,kn h1,kN (kI 0),kL n,kn h2,kn h3,kn h13,kn h14,kn h13,kn h15]) (by kernel_rfl)
def C5 (n:Nat) (f:Nat->E6) (i:Nat):E6:=f ((Eb n (λi=>Cd (f i))+i) % n)
def Hv:List V->A5:=Hy λn f=>.br (Ct n) (.br (Di n f) (.leaf (.tup [.ref 0,iV 0],[.row 76 6 n λi=>eV (C5 n f i)])) (.leaf (.tup [.ref 0,iV 30],[.row 76 6 0 λ_=>.und]))) .fail
theorem p65:Ap Tryz.prog Gl 48 Hv:=by
 refine Ah A2 mixed Tryz.func48 (by kernel_rfl) (by kernel_rfl) λvs v h' h=>?_;obtain ⟨n,f,ha,h⟩:=CM h;obtain ⟨hn,h⟩:=Ac h;have hx:=Bh tb65_ok [];cases hm:Di n f with
 | true =>
  rw [hm] at h;have:=Ab h;simp only [Prod.mk.injEq] at this;obtain ⟨rfl,rfl⟩:=this;have hn':n * 40 <= 140737488355328:=of_decide_eq_true hn;have hk:=Rc n (λi=>Cd (f i));have e3:∀ k,AE 0 (IU n k)=n-k:=λk=>by simp [AE,IU]
  have hw:=Anz (BC []) n f hn hm (Amw (G8 hn)) (by
    simp only [EX,Bool.and_eq_true,decide_eq_true_eq,Int.ofNat_eq_natCast]; omega) (by
    rw [ile_nat,show (0:Int)=ofNat 0 from rfl,ile_nat]; simp [Al]; omega) (by
    exact FT (by show (0+(n-Eb n (λi=>Cd (f i)))) * 40 <= _; omega)) (by
    rw [e3]; exact FT (by omega))
  obtain ⟨r1,r2⟩:=VY n (Eb n (λi=>Cd (f i))) (λ_=>eV Gn) f eV hk;unfold AiA at hw;rw [r1] at hw;exact ⟨_,AO Gl tb65 [],_,ha,rfl,hx.1,hx.2,hw,Am.one λj hj=>(r2 j hj).symm⟩
 | false =>rw [hm] at h;have:=Ab h;simp only [Prod.mk.injEq] at this;obtain ⟨rfl,rfl⟩:=this;exact ⟨_,AO Gl tb65 [],_,ha,rfl,hx.1,hx.2,Ae (ks:=[kL n,kn hn,kn hm,kN (⟨ieq 30 0,false,rfl⟩)]) (by kernel_rfl)/-W:wc65n-/,Am.refl _⟩
theorem e42 (Γ:Cx) (vs:List V) (h:List Blk):Aj tab Γ Tryz.f43 vs h=Aj tab Γ Tryz.f43 vs h:=by kernel_rfl
theorem p42:Ap Tryz.prog Gl 43 On:=by
 refine Ah A2 mixed Tryz.func43 (by kernel_rfl) (by kernel_rfl) λvs v h' h=>?_;obtain ⟨n,f,m,g,ha,h⟩:=R9 h;obtain ⟨hn,h⟩:=Ac h;have:=Ab h;simp only [Prod.mk.injEq] at this;obtain ⟨rfl,rfl⟩:=this;have hx:=Bh Mf [(0,lp36 n)];exact ⟨_,cx9 [(0,lp36 n)],_,ha,rfl,hx.1,hx.2,by rw [e42]; exact AbP n m f g (of_decide_eq_true hn),Am.refl _⟩
theorem AhP {a b:E6} (ha:Be a=0) (hb:Be b=0) (h:Cd a=Cd b):a=b:=by
 rcases Dk a with ⟨k,_,_,h1,h2,_⟩ | ⟨h1,_⟩
 ·rcases Dk b with ⟨l,_,_,h3,h4,_⟩ | ⟨h3,_⟩
  ·rw [h1,h3] at h
   have:=Int.ofNat.inj h;rw [<- h2,<- h4,this]
  ·rw [hb] at h3; cases h3
 ·rw [ha] at h1; cases h1
theorem HB {n:Nat} {f:Nat->E6} {m:Nat} {g:Nat->E6}:DZ n f m g=true↔n=m∧∀ i,i<n->f i=g i:=by
 unfold DZ;rw [DX];by_cases h:n=m
 ·rw [decide_eq_true h]
  show G9 f g n 0=true↔_;rw [Kx];exact ⟨λh1=>⟨h,λi hi=>h1 i (Nat.zero_le _) (by omega)⟩,λh1 j _ h3=>h1.2 j (by omega)⟩
 ·rw [decide_eq_false h]
  exact ⟨λh=>(by cases h),λh1=>absurd h1.1 h⟩
def AN (q:Nat->Bool):Nat->Nat->Option Nat
 | 0,_=>none
 | d+1,i=>match q i with
  | true=>some i
  | false=>AN q d (i+1)
theorem Dy {q:Nat->Bool} {d i:Nat} (h:q i=true):AN q (d+1) i=some i:=by rw [AN,h]
theorem Dz {q:Nat->Bool} {d i:Nat} (h:q i=false):AN q (d+1) i=AN q d (i+1):=by rw [AN,h]
theorem GW {q:Nat->Bool}:∀ {d i t:Nat},AN q d i=some t->i <= t∧t<i+d∧q t=true
 | 0,_,_,h=>by cases h
 | d+1,i,t,h=>by
  cases hq:q i with
  | true =>rw [Dy hq] at h;simp only [Option.some.injEq] at h;subst h;exact ⟨Nat.le_refl _,by omega,hq⟩
  | false =>rw [Dz hq] at h;have:=GW h;exact ⟨by omega,by omega,this.2.2⟩
theorem BP {a b:Int} (h:ieq a b=true):a=b:=by simpa [ieq] using h
end Go.Proofs.YtkbafjceglhjhaaGreatDoor.Ed
