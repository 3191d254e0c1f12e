/-
  Least: where the least turned list begins, as the program walks. No conditions.
-/
import Derived.Test.YtkbafjceglhjhaaGreatDoorCyI
namespace Go.Proofs.YtkbafjceglhjhaaGreatDoor.Ed
open Go.Sy
open Int (ofNat)
def WR (r:Nat):Ex×St:=(.rt,⟨jsV 67 0 Ab [(2,nV r)],[]⟩)
def IX (n:Nat) (h:Nat->Int):Lp:=⟨bmK 67 0 [0,3,4,5,6],1,bmK 67 0 [2],1,3 * n+4⟩
def Kc (n:Nat) (h:Nat->Int) (i t s:Nat) (j:Nat->V):St:=⟨jsV 67 0 j [(0,.sl 1 n (λk=>iV (h k))),(3,nV n),(4,nV i),(5,nV t),(6,nV s)],[]⟩
noncomputable def Ft (L:LT):St->T (Ex×St):=λst=>AK tab ⟨A2 tb0,L,Gl⟩ (A3 (UT 0 900 Tryz.f73) 0) 0 st
section
variable (L:LT) (n:Nat) (h:Nat->Int) (i t s:Nat)  (j:Nat->V)
include L n h i t s j
theorem Akc (h0:ile (ofNat n) (ofNat i)=true):A1 (Ft L) (IX n h) (Kc n h i t s j)=some (.rt,⟨jsV 67 0 Ab [(2,iV (sel (ilt (sel (ilt (wr .i64 (By (ofNat n) 1)) 0) 0 (wr .i64 (By (ofNat n) 1))) (sel (ilt (ofNat t) (ofNat i)) (ofNat t) (ofNat i))) (sel (ilt (wr .i64 (By (ofNat n) 1)) 0) 0 (wr .i64 (By (ofNat n) 1))) (sel (ilt (ofNat t) (ofNat i)) (ofNat t) (ofNat i))))],[]⟩):=by
 exact Af (ks:=[kn h0,kn h0,kn h0,kn h0,kT,kT,kT,kT,kT]) (by kernel_rfl)
theorem Akb (h0:ile (ofNat n) (ofNat i)=false) (h1:ile (ofNat n) (ofNat t)=true):A1 (Ft L) (IX n h) (Kc n h i t s j)=some (.rt,⟨jsV 67 0 Ab [(2,iV (sel (ilt (sel (ilt (wr .i64 (By (ofNat n) 1)) 0) 0 (wr .i64 (By (ofNat n) 1))) (sel (ilt (ofNat t) (ofNat i)) (ofNat t) (ofNat i))) (sel (ilt (wr .i64 (By (ofNat n) 1)) 0) 0 (wr .i64 (By (ofNat n) 1))) (sel (ilt (ofNat t) (ofNat i)) (ofNat t) (ofNat i))))],[]⟩):=by
 exact Af (ks:=[kn h0,kn h0,kn h0,kn h0,kn h1,kn h1,kn h1,kn h1,kT]) (by kernel_rfl)
theorem AjZ (h0:ile (ofNat n) (ofNat i)=false) (h1:ile (ofNat n) (ofNat t)=false) (h2:ile (ofNat n) (ofNat s)=true):A1 (Ft L) (IX n h) (Kc n h i t s j)=some (.rt,⟨jsV 67 0 Ab [(2,iV (sel (ilt (sel (ilt (wr .i64 (By (ofNat n) 1)) 0) 0 (wr .i64 (By (ofNat n) 1))) (sel (ilt (ofNat t) (ofNat i)) (ofNat t) (ofNat i))) (sel (ilt (wr .i64 (By (ofNat n) 1)) 0) 0 (wr .i64 (By (ofNat n) 1))) (sel (ilt (ofNat t) (ofNat i)) (ofNat t) (ofNat i))))],[]⟩):=by
 exact Af (ks:=[kn h0,kn h0,kn h0,kn h0,kn h1,kn h1,kn h1,kn h1,kn h2]) (by kernel_rfl)
theorem Ake (h0:ile (ofNat n) (ofNat i)=false) (h1:ile (ofNat n) (ofNat t)=false) (h2:ile (ofNat n) (ofNat s)=false) (h3:ieq (ofNat n) 0=false) (h4:Ak (ile 0 (Av (wr .i64 (Ai (ofNat i) (ofNat s))) (ofNat n))) (ilt (Av (wr .i64 (Ai (ofNat i) (ofNat s))) (ofNat n)) (ofNat n))=true) (h5:Ak (ile 0 (Av (wr .i64 (Ai (ofNat t) (ofNat s))) (ofNat n))) (ilt (Av (wr .i64 (Ai (ofNat t) (ofNat s))) (ofNat n)) (ofNat n))=true) (h6:ieq (h (toN (Av (wr .i64 (Ai (ofNat i) (ofNat s))) (ofNat n)))) (h (toN (Av (wr .i64 (Ai (ofNat t) (ofNat s))) (ofNat n))))=true):A1 (Ft L) (IX n h) (Kc n h i t s j)=some (.nm,⟨jsV 67 0 Ab [(0,.sl 1 n (λk=>iV (h k))),(3,nV n),(4,nV i),(5,nV t),(6,iV (wr .i64 (Ai (ofNat s) 1)))],[]⟩):=by
 exact Af (ks:=[kn h0,kn h0,kn h0,kn h0,kn h1,kn h1,kn h1,kn h1,kn h2,kn h3,kn h4,kn h3,kn h5,kn h6]) (by kernel_rfl)
theorem Akd (h0:ile (ofNat n) (ofNat i)=false) (h1:ile (ofNat n) (ofNat t)=false) (h2:ile (ofNat n) (ofNat s)=false) (h3:ieq (ofNat n) 0=false) (h4:Ak (ile 0 (Av (wr .i64 (Ai (ofNat i) (ofNat s))) (ofNat n))) (ilt (Av (wr .i64 (Ai (ofNat i) (ofNat s))) (ofNat n)) (ofNat n))=true) (h5:Ak (ile 0 (Av (wr .i64 (Ai (ofNat t) (ofNat s))) (ofNat n))) (ilt (Av (wr .i64 (Ai (ofNat t) (ofNat s))) (ofNat n)) (ofNat n))=true) (h6:ieq (h (toN (Av (wr .i64 (Ai (ofNat i) (ofNat s))) (ofNat n)))) (h (toN (Av (wr .i64 (Ai (ofNat t) (ofNat s))) (ofNat n))))=false) (h7:ilt (h (toN (Av (wr .i64 (Ai (ofNat t) (ofNat s))) (ofNat n)))) (h (toN (Av (wr .i64 (Ai (ofNat i) (ofNat s))) (ofNat n))))=true) (h8:ieq (wr .i64 (Ai (ofNat i) (wr .i64 (Ai (ofNat s) 1)))) (ofNat t)=false):A1 (Ft L) (IX n h) (Kc n h i t s j)=some (.nm,⟨jsV 67 0 Ab [(0,.sl 1 n (λk=>iV (h k))),(3,nV n),(4,iV (wr .i64 (Ai (ofNat i) (wr .i64 (Ai (ofNat s) 1))))),(5,nV t),(6,iV 0)],[]⟩):=by
 exact Af (ks:=[kn h0,kn h0,kn h0,kn h0,kn h1,kn h1,kn h1,kn h1,kn h2,kn h3,kn h4,kn h3,kn h5,kn h6,kn h7,kn h8]) (by kernel_rfl)
theorem Afn (h0:ile (ofNat n) (ofNat i)=false) (h1:ile (ofNat n) (ofNat t)=false) (h2:ile (ofNat n) (ofNat s)=false) (h3:ieq (ofNat n) 0=false) (h4:Ak (ile 0 (Av (wr .i64 (Ai (ofNat i) (ofNat s))) (ofNat n))) (ilt (Av (wr .i64 (Ai (ofNat i) (ofNat s))) (ofNat n)) (ofNat n))=true) (h5:Ak (ile 0 (Av (wr .i64 (Ai (ofNat t) (ofNat s))) (ofNat n))) (ilt (Av (wr .i64 (Ai (ofNat t) (ofNat s))) (ofNat n)) (ofNat n))=true) (h6:ieq (h (toN (Av (wr .i64 (Ai (ofNat i) (ofNat s))) (ofNat n)))) (h (toN (Av (wr .i64 (Ai (ofNat t) (ofNat s))) (ofNat n))))=false) (h7:ilt (h (toN (Av (wr .i64 (Ai (ofNat t) (ofNat s))) (ofNat n)))) (h (toN (Av (wr .i64 (Ai (ofNat i) (ofNat s))) (ofNat n))))=true) (h8:ieq (wr .i64 (Ai (ofNat i) (wr .i64 (Ai (ofNat s) 1)))) (ofNat t)=true):A1 (Ft L) (IX n h) (Kc n h i t s j)=some (.nm,⟨jsV 67 0 Ab [(0,.sl 1 n (λk=>iV (h k))),(3,nV n),(4,iV (wr .i64 (Ai (ofNat i) (wr .i64 (Ai (ofNat s) 1))))),(5,iV (wr .i64 (Ai (ofNat t) 1))),(6,iV 0)],[]⟩):=by
 exact Af (ks:=[kn h0,kn h0,kn h0,kn h0,kn h1,kn h1,kn h1,kn h1,kn h2,kn h3,kn h4,kn h3,kn h5,kn h6,kn h7,kn h8]) (by kernel_rfl)
theorem Aka (h0:ile (ofNat n) (ofNat i)=false) (h1:ile (ofNat n) (ofNat t)=false) (h2:ile (ofNat n) (ofNat s)=false) (h3:ieq (ofNat n) 0=false) (h4:Ak (ile 0 (Av (wr .i64 (Ai (ofNat i) (ofNat s))) (ofNat n))) (ilt (Av (wr .i64 (Ai (ofNat i) (ofNat s))) (ofNat n)) (ofNat n))=true) (h5:Ak (ile 0 (Av (wr .i64 (Ai (ofNat t) (ofNat s))) (ofNat n))) (ilt (Av (wr .i64 (Ai (ofNat t) (ofNat s))) (ofNat n)) (ofNat n))=true) (h6:ieq (h (toN (Av (wr .i64 (Ai (ofNat i) (ofNat s))) (ofNat n)))) (h (toN (Av (wr .i64 (Ai (ofNat t) (ofNat s))) (ofNat n))))=false) (h7:ilt (h (toN (Av (wr .i64 (Ai (ofNat t) (ofNat s))) (ofNat n)))) (h (toN (Av (wr .i64 (Ai (ofNat i) (ofNat s))) (ofNat n))))=false) (h8:ieq (ofNat i) (wr .i64 (Ai (ofNat t) (wr .i64 (Ai (ofNat s) 1))))=false):A1 (Ft L) (IX n h) (Kc n h i t s j)=some (.nm,⟨jsV 67 0 Ab [(0,.sl 1 n (λk=>iV (h k))),(3,nV n),(4,nV i),(5,iV (wr .i64 (Ai (ofNat t) (wr .i64 (Ai (ofNat s) 1))))),(6,iV 0)],[]⟩):=by
 exact Af (ks:=[kn h0,kn h0,kn h0,kn h0,kn h1,kn h1,kn h1,kn h1,kn h2,kn h3,kn h4,kn h3,kn h5,kn h6,kn h7,kn h8]) (by kernel_rfl)
theorem Afm (h0:ile (ofNat n) (ofNat i)=false) (h1:ile (ofNat n) (ofNat t)=false) (h2:ile (ofNat n) (ofNat s)=false) (h3:ieq (ofNat n) 0=false) (h4:Ak (ile 0 (Av (wr .i64 (Ai (ofNat i) (ofNat s))) (ofNat n))) (ilt (Av (wr .i64 (Ai (ofNat i) (ofNat s))) (ofNat n)) (ofNat n))=true) (h5:Ak (ile 0 (Av (wr .i64 (Ai (ofNat t) (ofNat s))) (ofNat n))) (ilt (Av (wr .i64 (Ai (ofNat t) (ofNat s))) (ofNat n)) (ofNat n))=true) (h6:ieq (h (toN (Av (wr .i64 (Ai (ofNat i) (ofNat s))) (ofNat n)))) (h (toN (Av (wr .i64 (Ai (ofNat t) (ofNat s))) (ofNat n))))=false) (h7:ilt (h (toN (Av (wr .i64 (Ai (ofNat t) (ofNat s))) (ofNat n)))) (h (toN (Av (wr .i64 (Ai (ofNat i) (ofNat s))) (ofNat n))))=false) (h8:ieq (ofNat i) (wr .i64 (Ai (ofNat t) (wr .i64 (Ai (ofNat s) 1))))=true):A1 (Ft L) (IX n h) (Kc n h i t s j)=some (.nm,⟨jsV 67 0 Ab [(0,.sl 1 n (λk=>iV (h k))),(3,nV n),(4,nV i),(5,iV (wr .i64 (Ai (wr .i64 (Ai (ofNat t) (wr .i64 (Ai (ofNat s) 1)))) 1))),(6,iV 0)],[]⟩):=by
 exact Af (ks:=[kn h0,kn h0,kn h0,kn h0,kn h1,kn h1,kn h1,kn h1,kn h2,kn h3,kn h4,kn h3,kn h5,kn h6,kn h7,kn h8]) (by kernel_rfl)
end
def Ail (n:Nat) (h:Nat->Int) :Nat->V:=lkV AH [(2,iV 0),(9,.sl 1 n (λk=>iV (h k))),(10,nV n)]
theorem Am5 (L:LT) (p0:PT) (n:Nat) (h:Nat->Int) (r:Nat)  (hp0:p0 (Ft (onP 0 p0 (WR r) L)) (Kc n h 0 1 0 (Ail n h ))=true):(Ay (Aj tab ⟨A2 tb0,onP 0 p0 (WR r) L,Gl⟩ (UT 0 900 Tryz.f73) [.sl 1 n (λk=>iV (h k))] [])).sem=some ((nV r),[]):=by
 exact Af (ks:=[kn hp0]) (by kernel_rfl)
def Fg (n:Nat) (h:Nat->Int):Nat->Nat->Nat->Nat->Nat
 | 0,_,_,_=>0
 | q+1,i,t,s =>
  if n <= i ∨ n <= t ∨ n <= s then min (min i t) (n-1)
  else if h ((i+s) % n)=h ((t+s) % n) then Fg n h q i t (s+1)
  else if h ((t+s) % n)<h ((i+s) % n) then Fg n h q (i+s+1) (if i+s+1=t then t+1 else t) 0
  else Fg n h q i (if i=t+s+1 then t+s+2 else t+s+1) 0
def El (n:Nat) (h:Nat->Int):Nat:=Fg n h (3 * n+4) 0 1 0
theorem Gr {a b:Nat} (h:a+b <= 9223372036854775807):wr .i64 (Ai (ofNat a) (ofNat b))=ofNat (a+b):=by
 unfold wr Ai IntKind.wrap;simp [IntKind.bits,IntKind.signed];omega
theorem Ob {a:Nat} (h:a+1 <= 9223372036854775807):wr .i64 (Ai (ofNat a) 1)=ofNat (a+1):=Gr (b:=1) h
theorem E0 (a n:Nat):Av (ofNat a) (ofNat n)=ofNat (a % n):=rfl
theorem Eg (a b:Nat):ieq (ofNat a) (ofNat b)=decide (a=b):=by
 simp only [ieq,Int.ofNat_eq_natCast];by_cases h:a=b
 ·simp [h]
 ·rw [decide_eq_false h]
  simp;omega
theorem ile_nat (a b:Nat):ile (ofNat a) (ofNat b)=decide (a <= b):=by
 simp [ile]
theorem DI (a b:Nat):ilt (ofNat a) (ofNat b)=decide (a<b):=by
 simp [ilt]
theorem Ali (n i t:Nat) (hn:n <= 1152921504606846976):sel (ilt (sel (ilt (wr .i64 (By (ofNat n) 1)) 0) 0 (wr .i64 (By (ofNat n) 1))) (sel (ilt (ofNat t) (ofNat i)) (ofNat t) (ofNat i))) (sel (ilt (wr .i64 (By (ofNat n) 1)) 0) 0 (wr .i64 (By (ofNat n) 1))) (sel (ilt (ofNat t) (ofNat i)) (ofNat t) (ofNat i))=ofNat (min (min i t) (n-1)):=by
 have h1:wr .i64 (By (ofNat n) 1)=(n:Int)-1:=by
  unfold wr By IntKind.wrap;simp [IntKind.bits,IntKind.signed];omega
 rw [h1];simp only [sel,ilt,Bool.cond_decide,Int.ofNat_eq_natCast];omega
theorem Mt (L:LT) (n:Nat) (h:Nat->Int) (hn:n <= 1152921504606846976):∀ (q i t s:Nat) (j:Nat->V),i <= 2 * n->t <= 2 * n+1->s <= n->3 * n+1-(i+t+s)<q ->
  (A4 (Ft L) (IX n h) q (Kc n h i t s j)).sem=some (WR (Fg n h q i t s))
 | 0,_,_,_,_,_,_,_,h4=>absurd h4 (Nat.not_lt_zero _)
 | q+1,i,t,s,j,hi,ht,hs,h4=>by
  by_cases ci:n <= i
  ·rw [Ah (Akc L n h i t s j (by rw [ile_nat,decide_eq_true ci])),SO,Ali n i t hn,Fg,if_pos (.inl ci)]
   rfl
  ·have ci0:ile (ofNat n) (ofNat i)=false:=by rw [ile_nat,decide_eq_false ci]
   by_cases ct:n <= t
   ·rw [Ah (Akb L n h i t s j ci0 (by rw [ile_nat,decide_eq_true ct])),SO,Ali n i t hn,Fg,if_pos (.inr (.inl ct))]
    rfl
   ·have ct0:ile (ofNat n) (ofNat t)=false:=by rw [ile_nat,decide_eq_false ct]
    by_cases cs:n <= s
    ·rw [Ah (AjZ L n h i t s j ci0 ct0 (by rw [ile_nat,decide_eq_true cs])),SO,Ali n i t hn,Fg,if_pos (.inr (.inr cs))]
     rfl
    ·have cs0:ile (ofNat n) (ofNat s)=false:=by rw [ile_nat,decide_eq_false cs]
     have cn0:ieq (ofNat n) 0=false:=by
      rw [show (0:Int)=ofNat 0 from rfl,Eg,decide_eq_false (by omega)]
     have e1:Av (wr .i64 (Ai (ofNat i) (ofNat s))) (ofNat n)=ofNat ((i+s) % n):=by rw [Gr (by omega),E0]
     have e2:Av (wr .i64 (Ai (ofNat t) (ofNat s))) (ofNat n)=ofNat ((t+s) % n):=by rw [Gr (by omega),E0]
     have b1:Ak (ile 0 (Av (wr .i64 (Ai (ofNat i) (ofNat s))) (ofNat n))) (ilt (Av (wr .i64 (Ai (ofNat i) (ofNat s))) (ofNat n)) (ofNat n))=true:=by
      rw [e1]; exact Ae (Nat.mod_lt _ (by omega))
     have b2:Ak (ile 0 (Av (wr .i64 (Ai (ofNat t) (ofNat s))) (ofNat n))) (ilt (Av (wr .i64 (Ai (ofNat t) (ofNat s))) (ofNat n)) (ofNat n))=true:=by
      rw [e2]; exact Ae (Nat.mod_lt _ (by omega))
     have t1:∀ a:Nat,toN (ofNat a)=a:=λ_=>rfl;have u1:wr .i64 (Ai (ofNat i) (wr .i64 (Ai (ofNat s) 1)))=ofNat (i+s+1):=by rw [Ob (by omega),Gr (by omega)]; rfl
     have u2:wr .i64 (Ai (ofNat t) (wr .i64 (Ai (ofNat s) 1)))=ofNat (t+s+1):=by rw [Ob (by omega),Gr (by omega)]; rfl
     rw [Fg,if_neg (by omega)];by_cases ce:h ((i+s) % n)=h ((t+s) % n)
     ·rw [if_pos ce,Ah (Ake L n h i t s j ci0 ct0 cs0 cn0 b1 b2 (by rw [e1,e2,t1,t1]; simp [ieq,ce])),AY,Ob (by omega)]
      exact Mt L n h hn q i t (s+1) Ab hi ht (by omega) (by omega)
     ·have ce0:ieq (h (toN (Av (wr .i64 (Ai (ofNat i) (ofNat s))) (ofNat n)))) (h (toN (Av (wr .i64 (Ai (ofNat t) (ofNat s))) (ofNat n))))=false:=by
       rw [e1,e2,t1,t1]; simp [ieq,ce]
      rw [if_neg ce];by_cases cg:h ((t+s) % n)<h ((i+s) % n)
      ·have cg0:ilt (h (toN (Av (wr .i64 (Ai (ofNat t) (ofNat s))) (ofNat n)))) (h (toN (Av (wr .i64 (Ai (ofNat i) (ofNat s))) (ofNat n))))=true:=by
        rw [e1,e2,t1,t1]; simp [ilt,cg]
       rw [if_pos cg];by_cases cq:i+s+1=t
       ·rw [if_pos cq,Ah (Afn L n h i t s j ci0 ct0 cs0 cn0 b1 b2 ce0 cg0 (by rw [u1,Eg,decide_eq_true cq])),AY,u1,Ob (by omega)]
        exact Mt L n h hn q (i+s+1) (t+1) 0 Ab (by omega) (by omega) (by omega) (by omega)
       ·rw [if_neg cq,Ah (Akd L n h i t s j ci0 ct0 cs0 cn0 b1 b2 ce0 cg0 (by rw [u1,Eg,decide_eq_false cq])),AY,u1]
        exact Mt L n h hn q (i+s+1) t 0 Ab (by omega) (by omega) (by omega) (by omega)
      ·have cg0:ilt (h (toN (Av (wr .i64 (Ai (ofNat t) (ofNat s))) (ofNat n)))) (h (toN (Av (wr .i64 (Ai (ofNat i) (ofNat s))) (ofNat n))))=false:=by
        rw [e1,e2,t1,t1]; simp [ilt]; omega
       rw [if_neg cg];by_cases cq:i=t+s+1
       ·rw [if_pos cq,Ah (Afm L n h i t s j ci0 ct0 cs0 cn0 b1 b2 ce0 cg0 (by rw [u2,Eg,decide_eq_true cq])),AY,u2,Ob (by omega)]
        exact Mt L n h hn q i (t+s+2) 0 Ab (by omega) (by omega) (by omega) (by omega)
       ·rw [if_neg cq,Ah (Aka L n h i t s j ci0 ct0 cs0 cn0 b1 b2 ce0 cg0 (by rw [u2,Eg,decide_eq_false cq])),AY,u2]
        exact Mt L n h hn q i (t+s+1) 0 Ab (by omega) (by omega) (by omega) (by omega)
def AgG (n:Nat):Bool:=decide (n <= 1152921504606846976)
def AcC:List V->AA:=AgV λn h=>.br (AgG n) (out (iV (ofNat (El n h)))) .fail
theorem Aqx:As Tryz.prog Gl 73 AcC:=by
 refine Uu (p:=match Tryz.f73.body with | some (.seq p _)=>p | _=>.skip) (c:=match Tryz.f73.body with | some (.seq _ (.scope c))=>c | _=>.skip) (d:=match (match Tryz.f73.body with | some (.seq _ (.scope c))=>Gd 0 c | _=>none) with | some d=>d | none=>.skip) A0 mixed Tryz.func73 0 900 (by kernel_rfl) (by kernel_rfl) (by kernel_rfl) (by kernel_rfl) λvs v h' h=>?_
 obtain ⟨n,f,ha,h1⟩:=R9 h;obtain ⟨hn,hq⟩:=Ad h1;have:=Aa hq;simp only [Prod.mk.injEq] at this;obtain ⟨rfl,rfl⟩:=this;have hn:n <= 1152921504606846976:=by simpa [AgG] using hn
 have hx:=Bs C5 [(0,IX n f)];exact ⟨_,AT Gl tb0 [(0,IX n f)],_,ha,rfl,hx.1,hx.2,Bp (Bm (Bq _) (Bq _)) _ (Am5 _ _ n f _ (AB (Mt _ n f hn (3 * n+4) 0 1 0 (Ail n f) (by omega) (by omega) (by omega) (by omega)))),Aw.refl _⟩
end Go.Proofs.YtkbafjceglhjhaaGreatDoor.Ed
namespace Go.Proofs.YtkbafjceglhjhaaGreatDoor.Ed
open Go.Sy
open Int (ofNat)
theorem Pm (n m:Nat) (gx g:Nat->V) (i:Nat) (h:i<n+m):CO n m gx g i=bif Nat.blt i n then gx i else g (i-n):=by
 cases hb:Nat.blt i n with
 | true=>exact Pk n m gx g i (Nat.blt_eq ▸ hb)
 | false =>
  have h1:n <= i:=by
   rcases Nat.lt_or_ge i n with h2 | h2
   ·rw [show Nat.blt i n=true from Nat.blt_eq ▸ h2] at hb; cases hb
   ·exact h2
  have:=Pl n m gx g (i-n) (by omega);rw [show n+(i-n)=i by omega] at this;exact this
theorem VF {α:Type} (n k:Nat) (z:Nat->V) (h:Nat->α) (e:α->V) (hk:k<n ∨ n=0∧k=0):BC (BC 0 (If n k)) k=n∧∀ j,j<n ->
  CO (BC 0 (If n k)) k (CO 0 (If n k) z (λi=>e (h (BC k i)))) (λi=>e (h i)) j=e (h ((k+j) % n)):=by
 have h1:BC 0 (If n k)=n-k:=by simp [BC,If]
 have h2:If n k=n-k:=rfl;refine ⟨by rw [h1]; show n-k+k=n; omega,λj hj=>?_⟩;rw [h1,h2,Pm _ _ _ _ j (by omega)];cases hb:Nat.blt j (n-k) with
 | true =>have hb:j<n-k:=Nat.blt_eq ▸ hb;show CO 0 (n-k) z (λi=>e (h (BC k i))) j=_;rw [Pm _ _ _ _ j (by omega)];show e (h (k+(j-0)))=_;rw [Nat.mod_eq_of_lt (by omega),Nat.sub_zero]
 | false =>
  have hb:n-k <= j:=by
   rcases Nat.lt_or_ge j (n-k) with h3 | h3
   ·rw [show Nat.blt j (n-k)=true from Nat.blt_eq ▸ h3] at hb; cases hb
   ·exact h3
  show e (h (j-(n-k)))=_;rw [show k+j=j-(n-k)+n by omega,Nat.add_mod_right,Nat.mod_eq_of_lt (by omega)]
def GH (n:Nat):Bool:=decide (n * 8 <= 140737488355328)
theorem E9 {n:Nat} (h:GH n=true):n <= 4611686018427387904:=by
 have h:n * 8 <= 140737488355328:=of_decide_eq_true h;omega
theorem Adq {n:Nat} (h:GH n=true):Au n=true:=decide_eq_true (E9 h)
theorem AlB {n:Nat} (h:GH n=true):AgG n=true:=by
 have h:n * 8 <= 140737488355328:=of_decide_eq_true h;exact decide_eq_true (by omega)
theorem Ht {n:Nat} (h:Dg n=true):GH n=true:=by
 have h:n * 40 <= 140737488355328:=of_decide_eq_true h;exact decide_eq_true (by omega)
theorem M5 (n:Nat) (h:Nat->Int):∀ q i t s,Fg n h q i t s <= n-1
 | 0,_,_,_=>Nat.zero_le _
 | q+1,i,t,s=>by
  unfold Fg;split
  ·omega
  ·split
   ·exact M5 n h q _ _ _
   ·split <;> exact M5 n h q _ _ _
theorem ZO (n:Nat) (h:Nat->Int):El n h <= n-1:=M5 n h _ _ _ _
theorem Ra (n:Nat) (h:Nat->Int):El n h<n ∨ n=0∧El n h=0:=by
 have:=ZO n h;omega
def OX (n:Nat) (f:Nat->E6):Lp:=⟨bmK 28 0 [0,2,3,4,9,10,11],2,bmK 28 0 [2,3,4],4,n+1⟩
def Uc (n:Nat) (f:Nat->E6) (i k:Nat) (x:Nat->V) (j:Nat->V):St:=⟨jsV 28 0 j [(0,.sl 6 n λi=>eV (f i)),(2,.ref 0),(3,iV 0),(4,.ref 1),(9,.sl 6 n λi=>eV (f i)),(10,nV n),(11,nV i)],[.row 3 1 0 λ_=>.und,.row 3 1 k x]⟩
def Xf (n:Nat) (f:Nat->E6) (i k:Nat) (x:Nat->V):Ex×St:=(.ex 0,⟨jsV 28 0 Ab [(2,.ref 0),(3,iV 0),(4,.ref 1)],[.row 3 1 0 λ_=>.und,.row 3 1 k x]⟩)
def Xe (n:Nat) (f:Nat->E6) (i k:Nat) (x:Nat->V):Ex×St:=(.rt,⟨jsV 28 0 Ab [(2,.ref 3),(3,iV 30),(4,.ref 1)],[.row 3 1 0 λ_=>.und,.row 3 1 k x,.cells [iV (f i).kind,bV (f i).ext,bV (f i).same,iV (f i).src,iV (f i).dst,iV (f i).fence],.row 3 1 0 λ_=>.und]⟩)
noncomputable def LW (L:LT):St->T (Ex×St):=λst=>AK tab ⟨A2 tb8,L,Gl⟩ (A3 Tryz.f72 0) 0 st
theorem Lc (L:LT) (n:Nat) (f:Nat->E6) (i k:Nat) (x:Nat->V) (j:Nat->V):A1 (LW L) (OX n f) (Uc n f i k x j)
 = (sel (ilt (ofNat i) (ofNat n)) (sel (Ak (ile 0 (ofNat i)) (ilt (ofNat i) (ofNat n))) (sel (AV (ieq (Bl (f i)) 0)) (some (.rt,⟨[.und,.und,.ref 3,iV 30,.ref 1,.und,.und,.und,.und,.und,.und,.und,.und,.und,.und,.und,.und,.und,.und,.und,.und,.und,.und,.und,.und,.und,.und,.und],[.row 3 1 0 Ab,.row 3 1 k x,.cells [iV (f i).kind,bV (f i).ext,bV (f i).same,iV (f i).src,iV (f i).dst,iV (f i).fence],.row 3 1 0 Ab]⟩)) (sel (C4 k 1 8) (some (.nm,⟨[.sl 6 n (λi=>eV (f i)),.und,.ref 0,iV 0,.ref 1,.und,.und,.und,.und,.sl 6 n (λi=>eV (f i)),nV n,iV (wr .i64 (Ai (ofNat i) 1)),.und,.und,.und,.und,.und,.und,.und,.und,.und,.und,.und,.und,.und,.und,.und,.und],[.row 3 1 0 Ab,.row 3 1 (BC k 1) (AX k x (iV (BZ (f i))))]⟩)) none)) none) (some ((.ex 0),⟨[.und,.und,.ref 0,iV 0,.ref 1,.und,.und,.und,.und,.und,.und,.und,.und,.und,.und,.und,.und,.und,.und,.und,.und,.und,.und,.und,.und,.und,.und,.und],[.row 3 1 0 Ab,.row 3 1 k x]⟩))):=by kernel_rfl
def Yr (n:Nat) (f:Nat->E6) :Nat->V:=lkV AH []
section
variable (L:LT) (p0:PT) (n:Nat) (f:Nat->E6) (i k:Nat) (x:Nat->V)
include L p0 n f i k x
theorem Ajj  (hp0:p0 (LW (onP 0 p0 (Xf n f i k x) L)) (Uc n f 0 0 Ab (Yr n f ))=true):(Ay (Aj tab ⟨A2 tb8,onP 0 p0 (Xf n f i k x) L,Gl⟩ Tryz.f72 [AN n f] [])).sem=some ((.tup [.ref 0,iV 0]),[.row 3 1 k x]):=by
 exact Af (ks:=[kn hp0]) (by kernel_rfl)
theorem Aji  (hp0:p0 (LW (onP 0 p0 (Xe n f i k x) L)) (Uc n f 0 0 Ab (Yr n f ))=true):(Ay (Aj tab ⟨A2 tb8,onP 0 p0 (Xe n f i k x) L,Gl⟩ Tryz.f72 [AN n f] [])).sem=some ((.tup [.ref 0,iV 30]),[.row 3 1 0 Ab]):=by
 exact Af (ks:=[kn hp0]) (by kernel_rfl)
end
theorem XH (L:LT) (n:Nat) (f:Nat->E6) (hn:Dg n=true) (ho:∀ t,t<n->Bl (f t)=0):∀ (d i:Nat) (j:Nat->V) (q:Nat),n=i+d->d<q ->
  (A4 (LW L) (OX n f) q (Uc n f i i (Ck (cdV f) i) j)).sem=some (Xf n f 0 n (Ck (cdV f) n))
 | 0,i,j,q+1,h1,_=>by
  have hi:i=n:=by omega
  subst hi;rw [Ah (Lc L i f i i _ j),Az (Nat.le_refl i)];rfl
 | d+1,i,j,q+1,h1,h2=>by
  have hi:i<n:=by omega
  rw [Ah (Lc L n f i i _ j),Ae hi,ofNat_lt hi,T8 hi (by decide) (of_decide_eq_true hn),A5 hi (JG hn),ho i hi];exact XH L n f hn ho d (i+1) Ab q (by omega) (by omega)
theorem XG (L:LT) (n:Nat) (f:Nat->E6) (hn:Dg n=true) (e:Nat) (he:e<n) (hb:Bl (f e)=30) (ho:∀ t,t<e->Bl (f t)=0):∀ (d i:Nat) (j:Nat->V) (q:Nat),e=i+d->d<q ->
  (A4 (LW L) (OX n f) q (Uc n f i i (Ck (cdV f) i) j)).sem=some (Xe n f e e (Ck (cdV f) e))
 | 0,i,j,q+1,h1,_=>by
  have hi:i=e:=by omega
  subst hi;rw [Ah (Lc L n f i i _ j),Ae he,ofNat_lt he,hb];rfl
 | d+1,i,j,q+1,h1,h2=>by
  have hi:i<n:=by omega
  rw [Ah (Lc L n f i i _ j),Ae hi,ofNat_lt hi,T8 hi (by decide) (of_decide_eq_true hn),A5 hi (JG hn),ho i (by omega)];exact XG L n f hn e he hb ho d (i+1) Ab q (by omega) (by omega)
theorem Aqy:As Tryz.prog Gl 72 AdG:=by
 refine Am A0 mixed Tryz.func72 (by kernel_rfl) (by kernel_rfl) λvs v h' h=>?_;obtain ⟨n,f,ha,h⟩:=DC h;obtain ⟨hn,h⟩:=Ad h;have hx:=Bs Mm [(0,OX n f)];cases hm:EM n f with
 | true =>
  rw [hm] at h;have:=Aa h;simp only [Prod.mk.injEq] at this;obtain ⟨rfl,rfl⟩:=this;exact ⟨_,cx9 [(0,OX n f)],_,ha,rfl,hx.1,hx.2,Bp (Bm (Bq _) (Bq _)) _ (Ajj _ _ n f 0 n _ (AB (XH _ n f hn (F2.1 hm) n 0 (Yr n f) (n+1) (by omega) (by omega)))),
   Aw.one λj hj=>(IS (cdV f) n j hj).symm⟩
 | false =>rw [hm] at h;have:=Aa h;simp only [Prod.mk.injEq] at this;obtain ⟨rfl,rfl⟩:=this;obtain ⟨e,h1,h2,h3⟩:=Aca hm;have hw:=Bp (Bm (Bq _) (Bq _)) _ (Aji (Cb [(0,OX n f)]) _ n f e e _ (AB (XG _ n f hn e h1 h2 h3 e 0 (Yr n f) (n+1) (by omega) (by omega))));exact ⟨_,cx9 [(0,OX n f)],_,ha,rfl,hx.1,hx.2,hw,Aw.refl _⟩
theorem Hf {n m b:Nat} (h:(n+m) * b <= 140737488355328):C4 n m b=true:=decide_eq_true h
noncomputable def AeD:AE:=(72,AdG)::(73,AcC)::[]
theorem AeC:Ar Tryz.prog Gl AeD:=.cons Aqy <| .cons Aqx .nil
def Ah9 (n:Nat) (f:Nat->E6) (k:Nat):Blk:=.row 76 6 (BC (BC 0 (If n k)) k) (CO (BC 0 (If n k)) k (CO 0 (If n k) (λ_=>eV Gq) (λi=>eV (f (BC k i)))) (λi=>eV (f i)))
theorem Am1 (L:LT) (n:Nat) (f:Nat->E6) (h0:Dg n=true) (h1:EM n f=true) (h2:AgG n=true) (h3:EL 40 0 (ofNat n)=true) (h13:Ak (ile 0 (ofNat (El n (λi=>BZ (f i))))) (ile (ofNat (El n (λi=>BZ (f i)))) (ofNat n))=true) (h14:C4 0 (If n (El n (λi=>BZ (f i)))) 40=true) (h15:C4 (BC 0 (If n (El n (λi=>BZ (f i))))) (El n (λi=>BZ (f i))) 40=true):(Ay (Aj tab ⟨A2 AeD,L,Gl⟩ Tryz.f48 [AN n f] [])).sem=some ((.tup [.ref 0,iV 0]),[Ah9 n f (El n (λi=>BZ (f i)))]):=by
 exact Af (ks:=[kL n,kn h0,kn h1,kN (kI 0),kL n,kn h2,kn h3,kn h13,kn h14,kn h13,kn h15]) (by kernel_rfl)
def Dc (n:Nat) (f:Nat->E6) (i:Nat):E6:=f ((El n (λi=>BZ (f i))+i) % n)
def KB:List V->AA:=HL λn f=>.br (Dg n) (.br (EM n f) (.leaf (.tup [.ref 0,iV 0],[.row 76 6 n λi=>eV (Dc n f i)])) (.leaf (.tup [.ref 0,iV 30],[.row 76 6 0 λ_=>.und]))) .fail
theorem p65:As Tryz.prog Gl 48 KB:=by
 refine Am A0 mixed Tryz.func48 (by kernel_rfl) (by kernel_rfl) λvs v h' h=>?_;obtain ⟨n,f,ha,h⟩:=DC h;obtain ⟨hn,h⟩:=Ad h;have hx:=Bs AeC [];cases hm:EM n f with
 | true =>
  rw [hm] at h;have:=Aa h;simp only [Prod.mk.injEq] at this;obtain ⟨rfl,rfl⟩:=this;have hn':n * 40 <= 140737488355328:=of_decide_eq_true hn;have hk:=Ra n (λi=>BZ (f i));have e3:∀ k,BC 0 (If n k)=n-k:=λk=>by simp [BC,If]
  have hw:=Am1 (Cb []) n f hn hm (AlB (Ht hn)) (by
    simp only [EL,Bool.and_eq_true,decide_eq_true_eq,Int.ofNat_eq_natCast]; omega) (by
    rw [ile_nat,show (0:Int)=ofNat 0 from rfl,ile_nat]; simp [Ak]; omega) (by
    exact Hf (by show (0+(n-El n (λi=>BZ (f i)))) * 40 <= _; omega)) (by
    rw [e3]; exact Hf (by omega))
  obtain ⟨r1,r2⟩:=VF n (El n (λi=>BZ (f i))) (λ_=>eV Gq) f eV hk;unfold Ah9 at hw;rw [r1] at hw;exact ⟨_,AT Gl AeD [],_,ha,rfl,hx.1,hx.2,hw,Aw.one λj hj=>(r2 j hj).symm⟩
 | false =>rw [hm] at h;have:=Aa h;simp only [Prod.mk.injEq] at this;obtain ⟨rfl,rfl⟩:=this;exact ⟨_,AT Gl AeD [],_,ha,rfl,hx.1,hx.2,Af (ks:=[kL n,kn hn,kn hm,kN (⟨ieq 30 0,false,rfl⟩)]) (by kernel_rfl)/-W:wc65n-/,Aw.refl _⟩
theorem e42 (Γ:Cx) (vs:List V) (h:List Blk):Aj tab Γ Tryz.f43 vs h=Aj tab Γ Tryz.f43 vs h:=by kernel_rfl
theorem p42:As Tryz.prog Gl 43 Uj:=by
 refine Am A0 mixed Tryz.func43 (by kernel_rfl) (by kernel_rfl) λvs v h' h=>?_;obtain ⟨n,f,m,g,ha,h⟩:=R7 h;obtain ⟨hn,h⟩:=Ad h;have:=Aa h;simp only [Prod.mk.injEq] at this;obtain ⟨rfl,rfl⟩:=this;have hx:=Bs Mm [(0,M3 n)];exact ⟨_,cx9 [(0,M3 n)],_,ha,rfl,hx.1,hx.2,by rw [e42]; exact Abr n m f g (of_decide_eq_true hn),Aw.refl _⟩
theorem AgP {a b:E6} (ha:Bl a=0) (hb:Bl b=0) (h:BZ a=BZ b):a=b:=by
 rcases DY a with ⟨k,_,_,h1,h2,_⟩ | ⟨h1,_⟩
 ·rcases DY b with ⟨l,_,_,h3,h4,_⟩ | ⟨h3,_⟩
  ·rw [h1,h3] at h
   have:=Int.ofNat.inj h;rw [<- h2,<- h4,this]
  ·rw [hb] at h3; cases h3
 ·rw [ha] at h1; cases h1
theorem IN {n:Nat} {f:Nat->E6} {m:Nat} {g:Nat->E6}:EH n f m g=true↔n=m∧∀ i,i<n->f i=g i:=by
 unfold EH;rw [Eg];by_cases h:n=m
 ·rw [decide_eq_true h]
  show G9 f g n 0=true↔_;rw [P3];exact ⟨λh1=>⟨h,λi hi=>h1 i (Nat.zero_le _) (by omega)⟩,λh1 j _ h3=>h1.2 j (by omega)⟩
 ·rw [decide_eq_false h]
  exact ⟨λh=>(by cases h),λh1=>absurd h1.1 h⟩
def AZ (q:Nat->Bool):Nat->Nat->Option Nat
 | 0,_=>none
 | d+1,i=>match q i with
  | true=>some i
  | false=>AZ q d (i+1)
theorem FC {q:Nat->Bool} {d i:Nat} (h:q i=true):AZ q (d+1) i=some i:=by rw [AZ,h]
theorem FD {q:Nat->Bool} {d i:Nat} (h:q i=false):AZ q (d+1) i=AZ q d (i+1):=by rw [AZ,h]
theorem Jg {q:Nat->Bool}:∀ {d i t:Nat},AZ q d i=some t->i <= t∧t<i+d∧q t=true
 | 0,_,_,h=>by cases h
 | d+1,i,t,h=>by
  cases hq:q i with
  | true =>rw [FC hq] at h;simp only [Option.some.injEq] at h;subst h;exact ⟨Nat.le_refl _,by omega,hq⟩
  | false =>rw [FD hq] at h;have:=Jg h;exact ⟨by omega,by omega,this.2.2⟩
theorem Cg {a b:Int} (h:ieq a b=true):a=b:=by simpa [ieq] using h
end Go.Proofs.YtkbafjceglhjhaaGreatDoor.Ed
