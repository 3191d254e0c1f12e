/-
  Least: where the least turned list begins, as the program walks. No conditions.
-/
import Derived.Test.YtkbafjceglhjhaaGreatDoorCyI
namespace Go.Proofs.YtkbafjceglhjhaaGreatDoor.Ed
open Go.Sy
open Int (ofNat)
def U6 (r:Nat):Ex×St:=(.rt,⟨jsV 67 0 Ab [(2,nV r)],[]⟩)
def HJ (n:Nat) (h:Nat->Int):Lp:=⟨bmK 67 0 [0,3,4,5,6],1,bmK 67 0 [2],1,3 * n+4⟩
def IH (n:Nat) (h:Nat->Int) (i t s:Nat) (j:Nat->V):St:=⟨jsV 67 0 j [(0,.sl 1 n (λk=>iV (h k))),(3,nV n),(4,nV i),(5,nV t),(6,nV s)],[]⟩
noncomputable def EA (L:LT):St->T (Ex×St):=λst=>AL tab ⟨A0 tb0,L,Gl⟩ (A3 (S5 0 900 Tryz.f73) 0) 0 st
section
variable (L:LT) (n:Nat) (h:Nat->Int) (i t s:Nat)  (j:Nat->V)
include L n h i t s j
theorem Agf (h0:ile (ofNat n) (ofNat i)=true):Ay (EA L) (HJ n h) (IH n h i t s j)=some (.rt,⟨jsV 67 0 Ab [(2,iV (sel (ilt (sel (ilt (wr .i64 (Bw (ofNat n) 1)) 0) 0 (wr .i64 (Bw (ofNat n) 1))) (sel (ilt (ofNat t) (ofNat i)) (ofNat t) (ofNat i))) (sel (ilt (wr .i64 (Bw (ofNat n) 1)) 0) 0 (wr .i64 (Bw (ofNat n) 1))) (sel (ilt (ofNat t) (ofNat i)) (ofNat t) (ofNat i))))],[]⟩):=by
 exact Ad (ks:=[kn h0,kn h0,kn h0,kn h0,kT,kT,kT,kT,kT]) (by kernel_rfl)
theorem Age (h0:ile (ofNat n) (ofNat i)=false) (h1:ile (ofNat n) (ofNat t)=true):Ay (EA L) (HJ n h) (IH n h i t s j)=some (.rt,⟨jsV 67 0 Ab [(2,iV (sel (ilt (sel (ilt (wr .i64 (Bw (ofNat n) 1)) 0) 0 (wr .i64 (Bw (ofNat n) 1))) (sel (ilt (ofNat t) (ofNat i)) (ofNat t) (ofNat i))) (sel (ilt (wr .i64 (Bw (ofNat n) 1)) 0) 0 (wr .i64 (Bw (ofNat n) 1))) (sel (ilt (ofNat t) (ofNat i)) (ofNat t) (ofNat i))))],[]⟩):=by
 exact Ad (ks:=[kn h0,kn h0,kn h0,kn h0,kn h1,kn h1,kn h1,kn h1,kT]) (by kernel_rfl)
theorem Agc (h0:ile (ofNat n) (ofNat i)=false) (h1:ile (ofNat n) (ofNat t)=false) (h2:ile (ofNat n) (ofNat s)=true):Ay (EA L) (HJ n h) (IH n h i t s j)=some (.rt,⟨jsV 67 0 Ab [(2,iV (sel (ilt (sel (ilt (wr .i64 (Bw (ofNat n) 1)) 0) 0 (wr .i64 (Bw (ofNat n) 1))) (sel (ilt (ofNat t) (ofNat i)) (ofNat t) (ofNat i))) (sel (ilt (wr .i64 (Bw (ofNat n) 1)) 0) 0 (wr .i64 (Bw (ofNat n) 1))) (sel (ilt (ofNat t) (ofNat i)) (ofNat t) (ofNat i))))],[]⟩):=by
 exact Ad (ks:=[kn h0,kn h0,kn h0,kn h0,kn h1,kn h1,kn h1,kn h1,kn h2]) (by kernel_rfl)
theorem Agh (h0:ile (ofNat n) (ofNat i)=false) (h1:ile (ofNat n) (ofNat t)=false) (h2:ile (ofNat n) (ofNat s)=false) (h3:ieq (ofNat n) 0=false) (h4:Aj (ile 0 (An (wr .i64 (Ah (ofNat i) (ofNat s))) (ofNat n))) (ilt (An (wr .i64 (Ah (ofNat i) (ofNat s))) (ofNat n)) (ofNat n))=true) (h5:Aj (ile 0 (An (wr .i64 (Ah (ofNat t) (ofNat s))) (ofNat n))) (ilt (An (wr .i64 (Ah (ofNat t) (ofNat s))) (ofNat n)) (ofNat n))=true) (h6:ieq (h (toN (An (wr .i64 (Ah (ofNat i) (ofNat s))) (ofNat n)))) (h (toN (An (wr .i64 (Ah (ofNat t) (ofNat s))) (ofNat n))))=true):Ay (EA L) (HJ n h) (IH n h i t s j)=some (.nm,⟨jsV 67 0 Ab [(0,.sl 1 n (λk=>iV (h k))),(3,nV n),(4,nV i),(5,nV t),(6,iV (wr .i64 (Ah (ofNat s) 1)))],[]⟩):=by
 exact Ad (ks:=[kn h0,kn h0,kn h0,kn h0,kn h1,kn h1,kn h1,kn h1,kn h2,kn h3,kn h4,kn h3,kn h5,kn h6]) (by kernel_rfl)
theorem Agg (h0:ile (ofNat n) (ofNat i)=false) (h1:ile (ofNat n) (ofNat t)=false) (h2:ile (ofNat n) (ofNat s)=false) (h3:ieq (ofNat n) 0=false) (h4:Aj (ile 0 (An (wr .i64 (Ah (ofNat i) (ofNat s))) (ofNat n))) (ilt (An (wr .i64 (Ah (ofNat i) (ofNat s))) (ofNat n)) (ofNat n))=true) (h5:Aj (ile 0 (An (wr .i64 (Ah (ofNat t) (ofNat s))) (ofNat n))) (ilt (An (wr .i64 (Ah (ofNat t) (ofNat s))) (ofNat n)) (ofNat n))=true) (h6:ieq (h (toN (An (wr .i64 (Ah (ofNat i) (ofNat s))) (ofNat n)))) (h (toN (An (wr .i64 (Ah (ofNat t) (ofNat s))) (ofNat n))))=false) (h7:ilt (h (toN (An (wr .i64 (Ah (ofNat t) (ofNat s))) (ofNat n)))) (h (toN (An (wr .i64 (Ah (ofNat i) (ofNat s))) (ofNat n))))=true) (h8:ieq (wr .i64 (Ah (ofNat i) (wr .i64 (Ah (ofNat s) 1)))) (ofNat t)=false):Ay (EA L) (HJ n h) (IH n h i t s j)=some (.nm,⟨jsV 67 0 Ab [(0,.sl 1 n (λk=>iV (h k))),(3,nV n),(4,iV (wr .i64 (Ah (ofNat i) (wr .i64 (Ah (ofNat s) 1))))),(5,nV t),(6,iV 0)],[]⟩):=by
 exact Ad (ks:=[kn h0,kn h0,kn h0,kn h0,kn h1,kn h1,kn h1,kn h1,kn h2,kn h3,kn h4,kn h3,kn h5,kn h6,kn h7,kn h8]) (by kernel_rfl)
theorem AbP (h0:ile (ofNat n) (ofNat i)=false) (h1:ile (ofNat n) (ofNat t)=false) (h2:ile (ofNat n) (ofNat s)=false) (h3:ieq (ofNat n) 0=false) (h4:Aj (ile 0 (An (wr .i64 (Ah (ofNat i) (ofNat s))) (ofNat n))) (ilt (An (wr .i64 (Ah (ofNat i) (ofNat s))) (ofNat n)) (ofNat n))=true) (h5:Aj (ile 0 (An (wr .i64 (Ah (ofNat t) (ofNat s))) (ofNat n))) (ilt (An (wr .i64 (Ah (ofNat t) (ofNat s))) (ofNat n)) (ofNat n))=true) (h6:ieq (h (toN (An (wr .i64 (Ah (ofNat i) (ofNat s))) (ofNat n)))) (h (toN (An (wr .i64 (Ah (ofNat t) (ofNat s))) (ofNat n))))=false) (h7:ilt (h (toN (An (wr .i64 (Ah (ofNat t) (ofNat s))) (ofNat n)))) (h (toN (An (wr .i64 (Ah (ofNat i) (ofNat s))) (ofNat n))))=true) (h8:ieq (wr .i64 (Ah (ofNat i) (wr .i64 (Ah (ofNat s) 1)))) (ofNat t)=true):Ay (EA L) (HJ n h) (IH n h i t s j)=some (.nm,⟨jsV 67 0 Ab [(0,.sl 1 n (λk=>iV (h k))),(3,nV n),(4,iV (wr .i64 (Ah (ofNat i) (wr .i64 (Ah (ofNat s) 1))))),(5,iV (wr .i64 (Ah (ofNat t) 1))),(6,iV 0)],[]⟩):=by
 exact Ad (ks:=[kn h0,kn h0,kn h0,kn h0,kn h1,kn h1,kn h1,kn h1,kn h2,kn h3,kn h4,kn h3,kn h5,kn h6,kn h7,kn h8]) (by kernel_rfl)
theorem Agd (h0:ile (ofNat n) (ofNat i)=false) (h1:ile (ofNat n) (ofNat t)=false) (h2:ile (ofNat n) (ofNat s)=false) (h3:ieq (ofNat n) 0=false) (h4:Aj (ile 0 (An (wr .i64 (Ah (ofNat i) (ofNat s))) (ofNat n))) (ilt (An (wr .i64 (Ah (ofNat i) (ofNat s))) (ofNat n)) (ofNat n))=true) (h5:Aj (ile 0 (An (wr .i64 (Ah (ofNat t) (ofNat s))) (ofNat n))) (ilt (An (wr .i64 (Ah (ofNat t) (ofNat s))) (ofNat n)) (ofNat n))=true) (h6:ieq (h (toN (An (wr .i64 (Ah (ofNat i) (ofNat s))) (ofNat n)))) (h (toN (An (wr .i64 (Ah (ofNat t) (ofNat s))) (ofNat n))))=false) (h7:ilt (h (toN (An (wr .i64 (Ah (ofNat t) (ofNat s))) (ofNat n)))) (h (toN (An (wr .i64 (Ah (ofNat i) (ofNat s))) (ofNat n))))=false) (h8:ieq (ofNat i) (wr .i64 (Ah (ofNat t) (wr .i64 (Ah (ofNat s) 1))))=false):Ay (EA L) (HJ n h) (IH n h i t s j)=some (.nm,⟨jsV 67 0 Ab [(0,.sl 1 n (λk=>iV (h k))),(3,nV n),(4,nV i),(5,iV (wr .i64 (Ah (ofNat t) (wr .i64 (Ah (ofNat s) 1))))),(6,iV 0)],[]⟩):=by
 exact Ad (ks:=[kn h0,kn h0,kn h0,kn h0,kn h1,kn h1,kn h1,kn h1,kn h2,kn h3,kn h4,kn h3,kn h5,kn h6,kn h7,kn h8]) (by kernel_rfl)
theorem AbO (h0:ile (ofNat n) (ofNat i)=false) (h1:ile (ofNat n) (ofNat t)=false) (h2:ile (ofNat n) (ofNat s)=false) (h3:ieq (ofNat n) 0=false) (h4:Aj (ile 0 (An (wr .i64 (Ah (ofNat i) (ofNat s))) (ofNat n))) (ilt (An (wr .i64 (Ah (ofNat i) (ofNat s))) (ofNat n)) (ofNat n))=true) (h5:Aj (ile 0 (An (wr .i64 (Ah (ofNat t) (ofNat s))) (ofNat n))) (ilt (An (wr .i64 (Ah (ofNat t) (ofNat s))) (ofNat n)) (ofNat n))=true) (h6:ieq (h (toN (An (wr .i64 (Ah (ofNat i) (ofNat s))) (ofNat n)))) (h (toN (An (wr .i64 (Ah (ofNat t) (ofNat s))) (ofNat n))))=false) (h7:ilt (h (toN (An (wr .i64 (Ah (ofNat t) (ofNat s))) (ofNat n)))) (h (toN (An (wr .i64 (Ah (ofNat i) (ofNat s))) (ofNat n))))=false) (h8:ieq (ofNat i) (wr .i64 (Ah (ofNat t) (wr .i64 (Ah (ofNat s) 1))))=true):Ay (EA L) (HJ n h) (IH n h i t s j)=some (.nm,⟨jsV 67 0 Ab [(0,.sl 1 n (λk=>iV (h k))),(3,nV n),(4,nV i),(5,iV (wr .i64 (Ah (wr .i64 (Ah (ofNat t) (wr .i64 (Ah (ofNat s) 1)))) 1))),(6,iV 0)],[]⟩):=by
 exact Ad (ks:=[kn h0,kn h0,kn h0,kn h0,kn h1,kn h1,kn h1,kn h1,kn h2,kn h3,kn h4,kn h3,kn h5,kn h6,kn h7,kn h8]) (by kernel_rfl)
end
def Ae4 (n:Nat) (h:Nat->Int) :Nat->V:=lkV AI [(2,iV 0),(9,.sl 1 n (λk=>iV (h k))),(10,nV n)]
theorem Aip (L:LT) (p0:PT) (n:Nat) (h:Nat->Int) (r:Nat)  (hp0:p0 (EA (onP 0 p0 (U6 r) L)) (IH n h 0 1 0 (Ae4 n h ))=true):(Ax (Ak tab ⟨A0 tb0,onP 0 p0 (U6 r) L,Gl⟩ (S5 0 900 Tryz.f73) [.sl 1 n (λk=>iV (h k))] [])).sem=some ((nV r),[]):=by
 exact Ad (ks:=[kn hp0]) (by kernel_rfl)
def E2 (n:Nat) (h:Nat->Int):Nat->Nat->Nat->Nat->Nat
 | 0,_,_,_=>0
 | q+1,i,t,s =>
  if n <= i ∨ n <= t ∨ n <= s then min (min i t) (n-1)
  else if h ((i+s) % n)=h ((t+s) % n) then E2 n h q i t (s+1)
  else if h ((t+s) % n)<h ((i+s) % n) then E2 n h q (i+s+1) (if i+s+1=t then t+1 else t) 0
  else E2 n h q i (if i=t+s+1 then t+s+2 else t+s+1) 0
def Dz (n:Nat) (h:Nat->Int):Nat:=E2 n h (3 * n+4) 0 1 0
theorem Fv {a b:Nat} (h:a+b <= 9223372036854775807):wr .i64 (Ah (ofNat a) (ofNat b))=ofNat (a+b):=by
 unfold wr Ah IntKind.wrap;simp [IntKind.bits,IntKind.signed];omega
theorem Mr {a:Nat} (h:a+1 <= 9223372036854775807):wr .i64 (Ah (ofNat a) 1)=ofNat (a+1):=Fv (b:=1) h
theorem DD (a n:Nat):An (ofNat a) (ofNat n)=ofNat (a % n):=rfl
theorem Dw (a b:Nat):ieq (ofNat a) (ofNat b)=decide (a=b):=by
 simp only [ieq,Int.ofNat_eq_natCast];by_cases h:a=b
 ·simp [h]
 ·rw [decide_eq_false h]
  simp;omega
theorem ile_nat (a b:Nat):ile (ofNat a) (ofNat b)=decide (a <= b):=by
 simp [ile]
theorem Dv (a b:Nat):ilt (ofNat a) (ofNat b)=decide (a<b):=by
 simp [ilt]
theorem Ahd (n i t:Nat) (hn:n <= 1152921504606846976):sel (ilt (sel (ilt (wr .i64 (Bw (ofNat n) 1)) 0) 0 (wr .i64 (Bw (ofNat n) 1))) (sel (ilt (ofNat t) (ofNat i)) (ofNat t) (ofNat i))) (sel (ilt (wr .i64 (Bw (ofNat n) 1)) 0) 0 (wr .i64 (Bw (ofNat n) 1))) (sel (ilt (ofNat t) (ofNat i)) (ofNat t) (ofNat i))=ofNat (min (min i t) (n-1)):=by
 have h1:wr .i64 (Bw (ofNat n) 1)=(n:Int)-1:=by
  unfold wr Bw IntKind.wrap;simp [IntKind.bits,IntKind.signed];omega
 rw [h1];simp only [sel,ilt,Bool.cond_decide,Int.ofNat_eq_natCast];omega
theorem KH (L:LT) (n:Nat) (h:Nat->Int) (hn:n <= 1152921504606846976):∀ (q i t s:Nat) (j:Nat->V),i <= 2 * n->t <= 2 * n+1->s <= n->3 * n+1-(i+t+s)<q ->
  (A4 (EA L) (HJ n h) q (IH n h i t s j)).sem=some (U6 (E2 n h q i t s))
 | 0,_,_,_,_,_,_,_,h4=>absurd h4 (Nat.not_lt_zero _)
 | q+1,i,t,s,j,hi,ht,hs,h4=>by
  by_cases ci:n <= i
  ·rw [Ag (Agf L n h i t s j (by rw [ile_nat,decide_eq_true ci])),Qx,Ahd n i t hn,E2,if_pos (.inl ci)]
   rfl
  ·have ci0:ile (ofNat n) (ofNat i)=false:=by rw [ile_nat,decide_eq_false ci]
   by_cases ct:n <= t
   ·rw [Ag (Age L n h i t s j ci0 (by rw [ile_nat,decide_eq_true ct])),Qx,Ahd n i t hn,E2,if_pos (.inr (.inl ct))]
    rfl
   ·have ct0:ile (ofNat n) (ofNat t)=false:=by rw [ile_nat,decide_eq_false ct]
    by_cases cs:n <= s
    ·rw [Ag (Agc L n h i t s j ci0 ct0 (by rw [ile_nat,decide_eq_true cs])),Qx,Ahd n i t hn,E2,if_pos (.inr (.inr cs))]
     rfl
    ·have cs0:ile (ofNat n) (ofNat s)=false:=by rw [ile_nat,decide_eq_false cs]
     have cn0:ieq (ofNat n) 0=false:=by
      rw [show (0:Int)=ofNat 0 from rfl,Dw,decide_eq_false (by omega)]
     have e1:An (wr .i64 (Ah (ofNat i) (ofNat s))) (ofNat n)=ofNat ((i+s) % n):=by rw [Fv (by omega),DD]
     have e2:An (wr .i64 (Ah (ofNat t) (ofNat s))) (ofNat n)=ofNat ((t+s) % n):=by rw [Fv (by omega),DD]
     have b1:Aj (ile 0 (An (wr .i64 (Ah (ofNat i) (ofNat s))) (ofNat n))) (ilt (An (wr .i64 (Ah (ofNat i) (ofNat s))) (ofNat n)) (ofNat n))=true:=by
      rw [e1]; exact Ae (Nat.mod_lt _ (by omega))
     have b2:Aj (ile 0 (An (wr .i64 (Ah (ofNat t) (ofNat s))) (ofNat n))) (ilt (An (wr .i64 (Ah (ofNat t) (ofNat s))) (ofNat n)) (ofNat n))=true:=by
      rw [e2]; exact Ae (Nat.mod_lt _ (by omega))
     have t1:∀ a:Nat,toN (ofNat a)=a:=λ_=>rfl;have u1:wr .i64 (Ah (ofNat i) (wr .i64 (Ah (ofNat s) 1)))=ofNat (i+s+1):=by rw [Mr (by omega),Fv (by omega)]; rfl
     have u2:wr .i64 (Ah (ofNat t) (wr .i64 (Ah (ofNat s) 1)))=ofNat (t+s+1):=by rw [Mr (by omega),Fv (by omega)]; rfl
     rw [E2,if_neg (by omega)];by_cases ce:h ((i+s) % n)=h ((t+s) % n)
     ·rw [if_pos ce,Ag (Agh L n h i t s j ci0 ct0 cs0 cn0 b1 b2 (by rw [e1,e2,t1,t1]; simp [ieq,ce])),AZ,Mr (by omega)]
      exact KH L n h hn q i t (s+1) Ab hi ht (by omega) (by omega)
     ·have ce0:ieq (h (toN (An (wr .i64 (Ah (ofNat i) (ofNat s))) (ofNat n)))) (h (toN (An (wr .i64 (Ah (ofNat t) (ofNat s))) (ofNat n))))=false:=by
       rw [e1,e2,t1,t1]; simp [ieq,ce]
      rw [if_neg ce];by_cases cg:h ((t+s) % n)<h ((i+s) % n)
      ·have cg0:ilt (h (toN (An (wr .i64 (Ah (ofNat t) (ofNat s))) (ofNat n)))) (h (toN (An (wr .i64 (Ah (ofNat i) (ofNat s))) (ofNat n))))=true:=by
        rw [e1,e2,t1,t1]; simp [ilt,cg]
       rw [if_pos cg];by_cases cq:i+s+1=t
       ·rw [if_pos cq,Ag (AbP L n h i t s j ci0 ct0 cs0 cn0 b1 b2 ce0 cg0 (by rw [u1,Dw,decide_eq_true cq])),AZ,u1,Mr (by omega)]
        exact KH L n h hn q (i+s+1) (t+1) 0 Ab (by omega) (by omega) (by omega) (by omega)
       ·rw [if_neg cq,Ag (Agg L n h i t s j ci0 ct0 cs0 cn0 b1 b2 ce0 cg0 (by rw [u1,Dw,decide_eq_false cq])),AZ,u1]
        exact KH L n h hn q (i+s+1) t 0 Ab (by omega) (by omega) (by omega) (by omega)
      ·have cg0:ilt (h (toN (An (wr .i64 (Ah (ofNat t) (ofNat s))) (ofNat n)))) (h (toN (An (wr .i64 (Ah (ofNat i) (ofNat s))) (ofNat n))))=false:=by
        rw [e1,e2,t1,t1]; simp [ilt]; omega
       rw [if_neg cg];by_cases cq:i=t+s+1
       ·rw [if_pos cq,Ag (AbO L n h i t s j ci0 ct0 cs0 cn0 b1 b2 ce0 cg0 (by rw [u2,Dw,decide_eq_true cq])),AZ,u2,Mr (by omega)]
        exact KH L n h hn q i (t+s+2) 0 Ab (by omega) (by omega) (by omega) (by omega)
       ·rw [if_neg cq,Ag (Agd L n h i t s j ci0 ct0 cs0 cn0 b1 b2 ce0 cg0 (by rw [u2,Dw,decide_eq_false cq])),AZ,u2]
        exact KH L n h hn q i (t+s+1) 0 Ab (by omega) (by omega) (by omega) (by omega)
def Adi (n:Nat):Bool:=decide (n <= 1152921504606846976)
def Z6:List V->A9:=Adu λn h=>.br (Adi n) (out (iV (ofNat (Dz n h)))) .fail
theorem Alz:As Tryz.prog Gl 73 Z6:=by
 refine RQ (p:=match Tryz.f73.body with | some (.seq p _)=>p | _=>.skip) (c:=match Tryz.f73.body with | some (.seq _ (.scope c))=>c | _=>.skip) (d:=match (match Tryz.f73.body with | some (.seq _ (.scope c))=>Fi 0 c | _=>none) with | some d=>d | none=>.skip) A8 mixed Tryz.func73 0 900 (by kernel_rfl) (by kernel_rfl) (by kernel_rfl) (by kernel_rfl) λvs v h' h=>?_
 obtain ⟨n,f,ha,h1⟩:=Pv h;obtain ⟨hn,hq⟩:=Ac h1;have:=Aa hq;simp only [Prod.mk.injEq] at this;obtain ⟨rfl,rfl⟩:=this;have hn:n <= 1152921504606846976:=by simpa [Adi] using hn
 have hx:=Bi CN [(0,HJ n f)];exact ⟨_,Bd Gl tb0 [(0,HJ n f)],_,ha,rfl,hx.1,hx.2,Bf (Bg (Bh _) (Bh _)) _ (Aip _ _ n f _ (AA (KH _ n f hn (3 * n+4) 0 1 0 (Ae4 n f) (by omega) (by omega) (by omega) (by omega)))),Aw.refl _⟩
end Go.Proofs.YtkbafjceglhjhaaGreatDoor.Ed
namespace Go.Proofs.YtkbafjceglhjhaaGreatDoor.Ed
open Go.Sy
open Int (ofNat)
theorem Nw (n m:Nat) (gx g:Nat->V) (i:Nat) (h:i<n+m):Cn n m gx g i=bif Nat.blt i n then gx i else g (i-n):=by
 cases hb:Nat.blt i n with
 | true=>exact Nu n m gx g i (Nat.blt_eq ▸ hb)
 | false =>
  have h1:n <= i:=by
   rcases Nat.lt_or_ge i n with h2 | h2
   ·rw [show Nat.blt i n=true from Nat.blt_eq ▸ h2] at hb; cases hb
   ·exact h2
  have:=Nv n m gx g (i-n) (by omega);rw [show n+(i-n)=i by omega] at this;exact this
theorem Ts {α:Type} (n k:Nat) (z:Nat->V) (h:Nat->α) (e:α->V) (hk:k<n ∨ n=0∧k=0):B1 (B1 0 (HH n k)) k=n∧∀ j,j<n ->
  Cn (B1 0 (HH n k)) k (Cn 0 (HH n k) z (λi=>e (h (B1 k i)))) (λi=>e (h i)) j=e (h ((k+j) % n)):=by
 have h1:B1 0 (HH n k)=n-k:=by simp [B1,HH]
 have h2:HH n k=n-k:=rfl;refine ⟨by rw [h1]; show n-k+k=n; omega,λj hj=>?_⟩;rw [h1,h2,Nw _ _ _ _ j (by omega)];cases hb:Nat.blt j (n-k) with
 | true =>have hb:j<n-k:=Nat.blt_eq ▸ hb;show Cn 0 (n-k) z (λi=>e (h (B1 k i))) j=_;rw [Nw _ _ _ _ j (by omega)];show e (h (k+(j-0)))=_;rw [Nat.mod_eq_of_lt (by omega),Nat.sub_zero]
 | false =>
  have hb:n-k <= j:=by
   rcases Nat.lt_or_ge j (n-k) with h3 | h3
   ·rw [show Nat.blt j (n-k)=true from Nat.blt_eq ▸ h3] at hb; cases hb
   ·exact h3
  show e (h (j-(n-k)))=_;rw [show k+j=j-(n-k)+n by omega,Nat.add_mod_right,Nat.mod_eq_of_lt (by omega)]
def FF (n:Nat):Bool:=decide (n * 8 <= 140737488355328)
theorem DR {n:Nat} (h:FF n=true):n <= 4611686018427387904:=by
 have h:n * 8 <= 140737488355328:=of_decide_eq_true h;omega
theorem ZZ {n:Nat} (h:FF n=true):Ao n=true:=decide_eq_true (DR h)
theorem Ah2 {n:Nat} (h:FF n=true):Adi n=true:=by
 have h:n * 8 <= 140737488355328:=of_decide_eq_true h;exact decide_eq_true (by omega)
theorem Gu {n:Nat} (h:CJ n=true):FF n=true:=by
 have h:n * 40 <= 140737488355328:=of_decide_eq_true h;exact decide_eq_true (by omega)
theorem KU (n:Nat) (h:Nat->Int):∀ q i t s,E2 n h q i t s <= n-1
 | 0,_,_,_=>Nat.zero_le _
 | q+1,i,t,s=>by
  unfold E2;split
  ·omega
  ·split
   ·exact KU n h q _ _ _
   ·split <;> exact KU n h q _ _ _
theorem Xr (n:Nat) (h:Nat->Int):Dz n h <= n-1:=KU n h _ _ _ _
theorem OV (n:Nat) (h:Nat->Int):Dz n h<n ∨ n=0∧Dz n h=0:=by
 have:=Xr n h;omega
def Ng (n:Nat) (f:Nat->E6):Lp:=⟨bmK 28 0 [0,2,3,4,9,10,11],2,bmK 28 0 [2,3,4],4,n+1⟩
def R1 (n:Nat) (f:Nat->E6) (i k:Nat) (x:Nat->V) (j:Nat->V):St:=⟨jsV 28 0 j [(0,.sl 6 n λi=>eV (f i)),(2,.ref 0),(3,iV 0),(4,.ref 1),(9,.sl 6 n λi=>eV (f i)),(10,nV n),(11,nV i)],[.row 3 1 0 λ_=>.und,.row 3 1 k x]⟩
def UJ (n:Nat) (f:Nat->E6) (i k:Nat) (x:Nat->V):Ex×St:=(.ex 0,⟨jsV 28 0 Ab [(2,.ref 0),(3,iV 0),(4,.ref 1)],[.row 3 1 0 λ_=>.und,.row 3 1 k x]⟩)
def UI (n:Nat) (f:Nat->E6) (i k:Nat) (x:Nat->V):Ex×St:=(.rt,⟨jsV 28 0 Ab [(2,.ref 3),(3,iV 30),(4,.ref 1)],[.row 3 1 0 λ_=>.und,.row 3 1 k x,.cells [iV (f i).kind,bV (f i).ext,bV (f i).same,iV (f i).src,iV (f i).dst,iV (f i).fence],.row 3 1 0 λ_=>.und]⟩)
noncomputable def Kv (L:LT):St->T (Ex×St):=λst=>AL tab ⟨A0 tb8,L,Gl⟩ (A3 Tryz.f72 0) 0 st
theorem JE (L:LT) (n:Nat) (f:Nat->E6) (i k:Nat) (x:Nat->V) (j:Nat->V):Ay (Kv L) (Ng n f) (R1 n f i k x j)
 = (sel (ilt (ofNat i) (ofNat n)) (sel (Aj (ile 0 (ofNat i)) (ilt (ofNat i) (ofNat n))) (sel (AN (ieq (Bc (f i)) 0)) (some (.rt,⟨[.und,.und,.ref 3,iV 30,.ref 1,.und,.und,.und,.und,.und,.und,.und,.und,.und,.und,.und,.und,.und,.und,.und,.und,.und,.und,.und,.und,.und,.und,.und],[.row 3 1 0 Ab,.row 3 1 k x,.cells [iV (f i).kind,bV (f i).ext,bV (f i).same,iV (f i).src,iV (f i).dst,iV (f i).fence],.row 3 1 0 Ab]⟩)) (sel (Cp k 1 8) (some (.nm,⟨[.sl 6 n (λi=>eV (f i)),.und,.ref 0,iV 0,.ref 1,.und,.und,.und,.und,.sl 6 n (λi=>eV (f i)),nV n,iV (wr .i64 (Ah (ofNat i) 1)),.und,.und,.und,.und,.und,.und,.und,.und,.und,.und,.und,.und,.und,.und,.und,.und],[.row 3 1 0 Ab,.row 3 1 (B1 k 1) (Bb k x (iV (BL (f i))))]⟩)) none)) none) (some ((.ex 0),⟨[.und,.und,.ref 0,iV 0,.ref 1,.und,.und,.und,.und,.und,.und,.und,.und,.und,.und,.und,.und,.und,.und,.und,.und,.und,.und,.und,.und,.und,.und,.und],[.row 3 1 0 Ab,.row 3 1 k x]⟩))):=by kernel_rfl
def VN (n:Nat) (f:Nat->E6) :Nat->V:=lkV AI []
section
variable (L:LT) (p0:PT) (n:Nat) (f:Nat->E6) (i k:Nat) (x:Nat->V)
include L p0 n f i k x
theorem Afy  (hp0:p0 (Kv (onP 0 p0 (UJ n f i k x) L)) (R1 n f 0 0 Ab (VN n f ))=true):(Ax (Ak tab ⟨A0 tb8,onP 0 p0 (UJ n f i k x) L,Gl⟩ Tryz.f72 [AC n f] [])).sem=some ((.tup [.ref 0,iV 0]),[.row 3 1 k x]):=by
 exact Ad (ks:=[kn hp0]) (by kernel_rfl)
theorem Afx  (hp0:p0 (Kv (onP 0 p0 (UI n f i k x) L)) (R1 n f 0 0 Ab (VN n f ))=true):(Ax (Ak tab ⟨A0 tb8,onP 0 p0 (UI n f i k x) L,Gl⟩ Tryz.f72 [AC n f] [])).sem=some ((.tup [.ref 0,iV 30]),[.row 3 1 0 Ab]):=by
 exact Ad (ks:=[kn hp0]) (by kernel_rfl)
end
theorem Vv (L:LT) (n:Nat) (f:Nat->E6) (hn:CJ n=true) (ho:∀ t,t<n->Bc (f t)=0):∀ (d i:Nat) (j:Nat->V) (q:Nat),n=i+d->d<q ->
  (A4 (Kv L) (Ng n f) q (R1 n f i i (Cu (cdV f) i) j)).sem=some (UJ n f 0 n (Cu (cdV f) n))
 | 0,i,j,q+1,h1,_=>by
  have hi:i=n:=by omega
  subst hi;rw [Ag (JE L i f i i _ j),Au (Nat.le_refl i)];rfl
 | d+1,i,j,q+1,h1,h2=>by
  have hi:i<n:=by omega
  rw [Ag (JE L n f i i _ j),Ae hi,ofNat_lt hi,QV hi (by decide) (of_decide_eq_true hn),A1 hi (I0 hn),ho i hi];exact Vv L n f hn ho d (i+1) Ab q (by omega) (by omega)
theorem Vu (L:LT) (n:Nat) (f:Nat->E6) (hn:CJ n=true) (e:Nat) (he:e<n) (hb:Bc (f e)=30) (ho:∀ t,t<e->Bc (f t)=0):∀ (d i:Nat) (j:Nat->V) (q:Nat),e=i+d->d<q ->
  (A4 (Kv L) (Ng n f) q (R1 n f i i (Cu (cdV f) i) j)).sem=some (UI n f e e (Cu (cdV f) e))
 | 0,i,j,q+1,h1,_=>by
  have hi:i=e:=by omega
  subst hi;rw [Ag (JE L n f i i _ j),Ae he,ofNat_lt he,hb];rfl
 | d+1,i,j,q+1,h1,h2=>by
  have hi:i<n:=by omega
  rw [Ag (JE L n f i i _ j),Ae hi,ofNat_lt hi,QV hi (by decide) (of_decide_eq_true hn),A1 hi (I0 hn),ho i (by omega)];exact Vu L n f hn e he hb ho d (i+1) Ab q (by omega) (by omega)
theorem Al0:As Tryz.prog Gl 72 Aaw:=by
 refine Am A8 mixed Tryz.func72 (by kernel_rfl) (by kernel_rfl) λvs v h' h=>?_;obtain ⟨n,f,ha,h⟩:=Dd h;obtain ⟨hn,h⟩:=Ac h;have hx:=Bi KB [(0,Ng n f)];cases hm:Ef n f with
 | true =>
  rw [hm] at h;have:=Aa h;simp only [Prod.mk.injEq] at this;obtain ⟨rfl,rfl⟩:=this;exact ⟨_,cx9 [(0,Ng n f)],_,ha,rfl,hx.1,hx.2,Bf (Bg (Bh _) (Bh _)) _ (Afy _ _ n f 0 n _ (AA (Vv _ n f hn (F6.1 hm) n 0 (VN n f) (n+1) (by omega) (by omega)))),
   Aw.one λj hj=>(JG (cdV f) n j hj).symm⟩
 | false =>rw [hm] at h;have:=Aa h;simp only [Prod.mk.injEq] at this;obtain ⟨rfl,rfl⟩:=this;obtain ⟨e,h1,h2,h3⟩:=Zh hm;have hw:=Bf (Bg (Bh _) (Bh _)) _ (Afx (Cv [(0,Ng n f)]) _ n f e e _ (AA (Vu _ n f hn e h1 h2 h3 e 0 (VN n f) (n+1) (by omega) (by omega))));exact ⟨_,cx9 [(0,Ng n f)],_,ha,rfl,hx.1,hx.2,hw,Aw.refl _⟩
theorem Gc {n m b:Nat} (h:(n+m) * b <= 140737488355328):Cp n m b=true:=decide_eq_true h
noncomputable def Abq:AM:=(72,Aaw)::(73,Z6)::[]
theorem Abp:Ar Tryz.prog Gl Abq:=.cons Al0 <| .cons Alz .nil
def AdT (n:Nat) (f:Nat->E6) (k:Nat):Blk:=.row 76 6 (B1 (B1 0 (HH n k)) k) (Cn (B1 0 (HH n k)) k (Cn 0 (HH n k) (λ_=>eV H2) (λi=>eV (f (B1 k i)))) (λi=>eV (f i)))
theorem Aio (L:LT) (n:Nat) (f:Nat->E6) (h0:CJ n=true) (h1:Ef n f=true) (h2:Adi n=true) (h3:E0 40 0 (ofNat n)=true) (h13:Aj (ile 0 (ofNat (Dz n (λi=>BL (f i))))) (ile (ofNat (Dz n (λi=>BL (f i)))) (ofNat n))=true) (h14:Cp 0 (HH n (Dz n (λi=>BL (f i)))) 40=true) (h15:Cp (B1 0 (HH n (Dz n (λi=>BL (f i))))) (Dz n (λi=>BL (f i))) 40=true):(Ax (Ak tab ⟨A0 Abq,L,Gl⟩ Tryz.f48 [AC n f] [])).sem=some ((.tup [.ref 0,iV 0]),[AdT n f (Dz n (λi=>BL (f i)))]):=by
 exact Ad (ks:=[kL n,kn h0,kn h1,kN (kI 0),kL n,kn h2,kn h3,kn h13,kn h14,kn h13,kn h15]) (by kernel_rfl)
def C0 (n:Nat) (f:Nat->E6) (i:Nat):E6:=f ((Dz n (λi=>BL (f i))+i) % n)
def Jn:List V->A9:=GK λn f=>.br (CJ n) (.br (Ef n f) (.leaf (.tup [.ref 0,iV 0],[.row 76 6 n λi=>eV (C0 n f i)])) (.leaf (.tup [.ref 0,iV 30],[.row 76 6 0 λ_=>.und]))) .fail
theorem p65:As Tryz.prog Gl 48 Jn:=by
 refine Am A8 mixed Tryz.func48 (by kernel_rfl) (by kernel_rfl) λvs v h' h=>?_;obtain ⟨n,f,ha,h⟩:=Dd h;obtain ⟨hn,h⟩:=Ac h;have hx:=Bi Abp [];cases hm:Ef n f with
 | true =>
  rw [hm] at h;have:=Aa h;simp only [Prod.mk.injEq] at this;obtain ⟨rfl,rfl⟩:=this;have hn':n * 40 <= 140737488355328:=of_decide_eq_true hn;have hk:=OV n (λi=>BL (f i));have e3:∀ k,B1 0 (HH n k)=n-k:=λk=>by simp [B1,HH]
  have hw:=Aio (Cv []) n f hn hm (Ah2 (Gu hn)) (by
    simp only [E0,Bool.and_eq_true,decide_eq_true_eq,Int.ofNat_eq_natCast]; omega) (by
    rw [ile_nat,show (0:Int)=ofNat 0 from rfl,ile_nat]; simp [Aj]; omega) (by
    exact Gc (by show (0+(n-Dz n (λi=>BL (f i)))) * 40 <= _; omega)) (by
    rw [e3]; exact Gc (by omega))
  obtain ⟨r1,r2⟩:=Ts n (Dz n (λi=>BL (f i))) (λ_=>eV H2) f eV hk;unfold AdT at hw;rw [r1] at hw;exact ⟨_,Bd Gl Abq [],_,ha,rfl,hx.1,hx.2,hw,Aw.one λj hj=>(r2 j hj).symm⟩
 | false =>rw [hm] at h;have:=Aa h;simp only [Prod.mk.injEq] at this;obtain ⟨rfl,rfl⟩:=this;exact ⟨_,Bd Gl Abq [],_,ha,rfl,hx.1,hx.2,Ad (ks:=[kL n,kn hn,kn hm,kN (⟨ieq 30 0,false,rfl⟩)]) (by kernel_rfl)/-W:wc65n-/,Aw.refl _⟩
theorem e42 (Γ:Cx) (vs:List V) (h:List Blk):Ak tab Γ Tryz.f43 vs h=Ak tab Γ Tryz.f43 vs h:=by kernel_rfl
theorem p42:As Tryz.prog Gl 43 RD:=by
 refine Am A8 mixed Tryz.func43 (by kernel_rfl) (by kernel_rfl) λvs v h' h=>?_;obtain ⟨n,f,m,g,ha,h⟩:=Pu h;obtain ⟨hn,h⟩:=Ac h;have:=Aa h;simp only [Prod.mk.injEq] at this;obtain ⟨rfl,rfl⟩:=this;have hx:=Bi KB [(0,KR n)];exact ⟨_,cx9 [(0,KR n)],_,ha,rfl,hx.1,hx.2,by rw [e42]; exact YA n m f g (of_decide_eq_true hn),Aw.refl _⟩
theorem Adr {a b:E6} (ha:Bc a=0) (hb:Bc b=0) (h:BL a=BL b):a=b:=by
 rcases Ec a with ⟨k,_,_,h1,h2,_⟩ | ⟨h1,_⟩
 ·rcases Ec b with ⟨l,_,_,h3,h4,_⟩ | ⟨h3,_⟩
  ·rw [h1,h3] at h
   have:=Int.ofNat.inj h;rw [<- h2,<- h4,this]
  ·rw [hb] at h3; cases h3
 ·rw [ha] at h1; cases h1
theorem JD {n:Nat} {f:Nat->E6} {m:Nat} {g:Nat->E6}:DY n f m g=true↔n=m∧∀ i,i<n->f i=g i:=by
 unfold DY;rw [Dw];by_cases h:n=m
 ·rw [decide_eq_true h]
  show F8 f g n 0=true↔_;rw [ND];exact ⟨λh1=>⟨h,λi hi=>h1 i (Nat.zero_le _) (by omega)⟩,λh1 j _ h3=>h1.2 j (by omega)⟩
 ·rw [decide_eq_false h]
  exact ⟨λh=>(by cases h),λh1=>absurd h1.1 h⟩
def AQ (q:Nat->Bool):Nat->Nat->Option Nat
 | 0,_=>none
 | d+1,i=>match q i with
  | true=>some i
  | false=>AQ q d (i+1)
theorem EN {q:Nat->Bool} {d i:Nat} (h:q i=true):AQ q (d+1) i=some i:=by rw [AQ,h]
theorem EO {q:Nat->Bool} {d i:Nat} (h:q i=false):AQ q (d+1) i=AQ q d (i+1):=by rw [AQ,h]
theorem HS {q:Nat->Bool}:∀ {d i t:Nat},AQ q d i=some t->i <= t∧t<i+d∧q t=true
 | 0,_,_,h=>by cases h
 | d+1,i,t,h=>by
  cases hq:q i with
  | true =>rw [EN hq] at h;simp only [Option.some.injEq] at h;subst h;exact ⟨Nat.le_refl _,by omega,hq⟩
  | false =>rw [EO hq] at h;have:=HS h;exact ⟨by omega,by omega,this.2.2⟩
theorem Cc {a b:Int} (h:ieq a b=true):a=b:=by simpa [ieq] using h
end Go.Proofs.YtkbafjceglhjhaaGreatDoor.Ed
