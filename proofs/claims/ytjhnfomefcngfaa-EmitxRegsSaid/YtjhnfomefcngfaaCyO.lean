/-
  Least: where the least turned list begins, as the program walks. No conditions.
-/
import Derived.Test.YtjhnfomefcngfaaCyI
namespace Go.Proofs.Ytjhnfomefcngfaa.Ed
open Go.Sy
open Int (ofNat)
def QZ (r:Nat):Ex × St:=(.rt,⟨(jsV 67 0 (λ_=>.und) [(2,nV r)]),[]⟩)
def I3 (n:Nat) (h:Nat->Int):Lp:=⟨(bmK 67 0 [0,3,4,5,6]),1,bmK 67 0 [2],1,3 * n+4⟩
def Ir (n:Nat) (h:Nat->Int) (i t s:Nat) (j:Nat->V):St:=⟨(jsV 67 0 j [(0,.sl 1 n (λk=>iV (h k))),(3,nV n),(4,nV i),(5,nV t),(6,nV s)]),[]⟩
noncomputable def Er (L:LT):St->T (Ex × St):=λst=>AF tab ⟨Ap tb0,L,Gl⟩ (A1 (SW 0 900 Try.f90) 0) 0 st
section
variable (L:LT) (n:Nat) (h:Nat->Int) (i t s:Nat)  (j:Nat->V)
include L n h i t s j
theorem AeU (h0:ile (ofNat n) (ofNat i) = true):Ai (Er L) (I3 n h) (Ir n h i t s j) = some (.rt,⟨(jsV 67 0 (λ_=>.und) [(2,(iV (sel (ilt (sel (ilt (wr .i64 (A2 (ofNat n) 1)) 0) 0 (wr .i64 (A2 (ofNat n) 1))) (sel (ilt (ofNat t) (ofNat i)) (ofNat t) (ofNat i))) (sel (ilt (wr .i64 (A2 (ofNat n) 1)) 0) 0 (wr .i64 (A2 (ofNat n) 1))) (sel (ilt (ofNat t) (ofNat i)) (ofNat t) (ofNat i)))))]),[]⟩):=Aa (bbK 9 511) ((λc0 c1=>[c0,c0,c0,c0,c1,c1,c1,c1,c1]) (ile (ofNat n) (ofNat i)) (true)) (by kernel_rfl) (by simp only [h0] <;> rfl)
theorem AeT (h0:ile (ofNat n) (ofNat i) = false) (h1:ile (ofNat n) (ofNat t) = true):Ai (Er L) (I3 n h) (Ir n h i t s j) = some (.rt,⟨(jsV 67 0 (λ_=>.und) [(2,(iV (sel (ilt (sel (ilt (wr .i64 (A2 (ofNat n) 1)) 0) 0 (wr .i64 (A2 (ofNat n) 1))) (sel (ilt (ofNat t) (ofNat i)) (ofNat t) (ofNat i))) (sel (ilt (wr .i64 (A2 (ofNat n) 1)) 0) 0 (wr .i64 (A2 (ofNat n) 1))) (sel (ilt (ofNat t) (ofNat i)) (ofNat t) (ofNat i)))))]),[]⟩):=Aa (bbK 9 496) ((λc0 c1=>[c0,c0,c0,c0,c1,c1,c1,c1,true]) (ile (ofNat n) (ofNat i)) (ile (ofNat n) (ofNat t))) (by kernel_rfl) (by simp only [h0,h1] <;> rfl)
theorem AeR (h0:ile (ofNat n) (ofNat i) = false) (h1:ile (ofNat n) (ofNat t) = false) (h2:ile (ofNat n) (ofNat s) = true):Ai (Er L) (I3 n h) (Ir n h i t s j) = some (.rt,⟨(jsV 67 0 (λ_=>.und) [(2,(iV (sel (ilt (sel (ilt (wr .i64 (A2 (ofNat n) 1)) 0) 0 (wr .i64 (A2 (ofNat n) 1))) (sel (ilt (ofNat t) (ofNat i)) (ofNat t) (ofNat i))) (sel (ilt (wr .i64 (A2 (ofNat n) 1)) 0) 0 (wr .i64 (A2 (ofNat n) 1))) (sel (ilt (ofNat t) (ofNat i)) (ofNat t) (ofNat i)))))]),[]⟩):=Aa (bbK 9 256) ((λc0 c1=>[c0,c0,c0,c0,c1,c1,c1,c1,ile (ofNat n) (ofNat s)]) (ile (ofNat n) (ofNat i)) (ile (ofNat n) (ofNat t))) (by kernel_rfl) (by simp only [*] <;> rfl)
theorem AeW (h0:ile (ofNat n) (ofNat i) = false) (h1:ile (ofNat n) (ofNat t) = false) (h2:ile (ofNat n) (ofNat s) = false) (h3:ieq (ofNat n) 0 = false) (h4:Af (ile 0 (Ab (wr .i64 (Ae (ofNat i) (ofNat s))) (ofNat n))) (ilt (Ab (wr .i64 (Ae (ofNat i) (ofNat s))) (ofNat n)) (ofNat n)) = true) (h5:Af (ile 0 (Ab (wr .i64 (Ae (ofNat t) (ofNat s))) (ofNat n))) (ilt (Ab (wr .i64 (Ae (ofNat t) (ofNat s))) (ofNat n)) (ofNat n)) = true) (h6:ieq (h (toN (Ab (wr .i64 (Ae (ofNat i) (ofNat s))) (ofNat n)))) (h (toN (Ab (wr .i64 (Ae (ofNat t) (ofNat s))) (ofNat n)))) = true):Ai (Er L) (I3 n h) (Ir n h i t s j) = some (.nm,⟨(jsV 67 0 (λ_=>.und) [(0,(.sl 1 n (λk=>iV (h k)))),(3,(nV n)),(4,(nV i)),(5,(nV t)),(6,(iV (wr .i64 (Ae (ofNat s) 1))))]),[]⟩):=Aa (bbK 14 13312) ((λc0 c1 c2=>[c0,c0,c0,c0,c1,c1,c1,c1,ile (ofNat n) (ofNat s),c2,Af (ile 0 (Ab (wr .i64 (Ae (ofNat i) (ofNat s))) (ofNat n))) (ilt (Ab (wr .i64 (Ae (ofNat i) (ofNat s))) (ofNat n)) (ofNat n)),c2,Af (ile 0 (Ab (wr .i64 (Ae (ofNat t) (ofNat s))) (ofNat n))) (ilt (Ab (wr .i64 (Ae (ofNat t) (ofNat s))) (ofNat n)) (ofNat n)),ieq (h (toN (Ab (wr .i64 (Ae (ofNat i) (ofNat s))) (ofNat n)))) (h (toN (Ab (wr .i64 (Ae (ofNat t) (ofNat s))) (ofNat n))))]) (ile (ofNat n) (ofNat i)) (ile (ofNat n) (ofNat t)) (ieq (ofNat n) 0)) (by kernel_rfl) (by simp only [h4,h5] <;> simp only [*] <;> rfl)
theorem AeV (h0:ile (ofNat n) (ofNat i) = false) (h1:ile (ofNat n) (ofNat t) = false) (h2:ile (ofNat n) (ofNat s) = false) (h3:ieq (ofNat n) 0 = false) (h4:Af (ile 0 (Ab (wr .i64 (Ae (ofNat i) (ofNat s))) (ofNat n))) (ilt (Ab (wr .i64 (Ae (ofNat i) (ofNat s))) (ofNat n)) (ofNat n)) = true) (h5:Af (ile 0 (Ab (wr .i64 (Ae (ofNat t) (ofNat s))) (ofNat n))) (ilt (Ab (wr .i64 (Ae (ofNat t) (ofNat s))) (ofNat n)) (ofNat n)) = true) (h6:ieq (h (toN (Ab (wr .i64 (Ae (ofNat i) (ofNat s))) (ofNat n)))) (h (toN (Ab (wr .i64 (Ae (ofNat t) (ofNat s))) (ofNat n)))) = false) (h7:ilt (h (toN (Ab (wr .i64 (Ae (ofNat t) (ofNat s))) (ofNat n)))) (h (toN (Ab (wr .i64 (Ae (ofNat i) (ofNat s))) (ofNat n)))) = true) (h8:ieq (wr .i64 (Ae (ofNat i) (wr .i64 (Ae (ofNat s) 1)))) (ofNat t) = false):Ai (Er L) (I3 n h) (Ir n h i t s j) = some (.nm,⟨(jsV 67 0 (λ_=>.und) [(0,(.sl 1 n (λk=>iV (h k)))),(3,(nV n)),(4,(iV (wr .i64 (Ae (ofNat i) (wr .i64 (Ae (ofNat s) 1)))))),(5,(nV t)),(6,(iV 0))]),[]⟩):=Aa (bbK 16 21504) ((λc0 c1 c2=>[c0,c0,c0,c0,c1,c1,c1,c1,ile (ofNat n) (ofNat s),c2,Af (ile 0 (Ab (wr .i64 (Ae (ofNat i) (ofNat s))) (ofNat n))) (ilt (Ab (wr .i64 (Ae (ofNat i) (ofNat s))) (ofNat n)) (ofNat n)),c2,Af (ile 0 (Ab (wr .i64 (Ae (ofNat t) (ofNat s))) (ofNat n))) (ilt (Ab (wr .i64 (Ae (ofNat t) (ofNat s))) (ofNat n)) (ofNat n)),ieq (h (toN (Ab (wr .i64 (Ae (ofNat i) (ofNat s))) (ofNat n)))) (h (toN (Ab (wr .i64 (Ae (ofNat t) (ofNat s))) (ofNat n)))),ilt (h (toN (Ab (wr .i64 (Ae (ofNat t) (ofNat s))) (ofNat n)))) (h (toN (Ab (wr .i64 (Ae (ofNat i) (ofNat s))) (ofNat n)))),ieq (wr .i64 (Ae (ofNat i) (wr .i64 (Ae (ofNat s) 1)))) (ofNat t)]) (ile (ofNat n) (ofNat i)) (ile (ofNat n) (ofNat t)) (ieq (ofNat n) 0)) (by kernel_rfl) (by simp only [h4,h5] <;> simp only [*] <;> rfl)
theorem Abf (h0:ile (ofNat n) (ofNat i) = false) (h1:ile (ofNat n) (ofNat t) = false) (h2:ile (ofNat n) (ofNat s) = false) (h3:ieq (ofNat n) 0 = false) (h4:Af (ile 0 (Ab (wr .i64 (Ae (ofNat i) (ofNat s))) (ofNat n))) (ilt (Ab (wr .i64 (Ae (ofNat i) (ofNat s))) (ofNat n)) (ofNat n)) = true) (h5:Af (ile 0 (Ab (wr .i64 (Ae (ofNat t) (ofNat s))) (ofNat n))) (ilt (Ab (wr .i64 (Ae (ofNat t) (ofNat s))) (ofNat n)) (ofNat n)) = true) (h6:ieq (h (toN (Ab (wr .i64 (Ae (ofNat i) (ofNat s))) (ofNat n)))) (h (toN (Ab (wr .i64 (Ae (ofNat t) (ofNat s))) (ofNat n)))) = false) (h7:ilt (h (toN (Ab (wr .i64 (Ae (ofNat t) (ofNat s))) (ofNat n)))) (h (toN (Ab (wr .i64 (Ae (ofNat i) (ofNat s))) (ofNat n)))) = true) (h8:ieq (wr .i64 (Ae (ofNat i) (wr .i64 (Ae (ofNat s) 1)))) (ofNat t) = true):Ai (Er L) (I3 n h) (Ir n h i t s j) = some (.nm,⟨(jsV 67 0 (λ_=>.und) [(0,(.sl 1 n (λk=>iV (h k)))),(3,(nV n)),(4,(iV (wr .i64 (Ae (ofNat i) (wr .i64 (Ae (ofNat s) 1)))))),(5,(iV (wr .i64 (Ae (ofNat t) 1)))),(6,(iV 0))]),[]⟩):=Aa (bbK 16 54272) ((λc0 c1 c2=>[c0,c0,c0,c0,c1,c1,c1,c1,ile (ofNat n) (ofNat s),c2,Af (ile 0 (Ab (wr .i64 (Ae (ofNat i) (ofNat s))) (ofNat n))) (ilt (Ab (wr .i64 (Ae (ofNat i) (ofNat s))) (ofNat n)) (ofNat n)),c2,Af (ile 0 (Ab (wr .i64 (Ae (ofNat t) (ofNat s))) (ofNat n))) (ilt (Ab (wr .i64 (Ae (ofNat t) (ofNat s))) (ofNat n)) (ofNat n)),ieq (h (toN (Ab (wr .i64 (Ae (ofNat i) (ofNat s))) (ofNat n)))) (h (toN (Ab (wr .i64 (Ae (ofNat t) (ofNat s))) (ofNat n)))),ilt (h (toN (Ab (wr .i64 (Ae (ofNat t) (ofNat s))) (ofNat n)))) (h (toN (Ab (wr .i64 (Ae (ofNat i) (ofNat s))) (ofNat n)))),ieq (wr .i64 (Ae (ofNat i) (wr .i64 (Ae (ofNat s) 1)))) (ofNat t)]) (ile (ofNat n) (ofNat i)) (ile (ofNat n) (ofNat t)) (ieq (ofNat n) 0)) (by kernel_rfl) (by simp only [h4,h5] <;> simp only [*] <;> rfl)
theorem AeS (h0:ile (ofNat n) (ofNat i) = false) (h1:ile (ofNat n) (ofNat t) = false) (h2:ile (ofNat n) (ofNat s) = false) (h3:ieq (ofNat n) 0 = false) (h4:Af (ile 0 (Ab (wr .i64 (Ae (ofNat i) (ofNat s))) (ofNat n))) (ilt (Ab (wr .i64 (Ae (ofNat i) (ofNat s))) (ofNat n)) (ofNat n)) = true) (h5:Af (ile 0 (Ab (wr .i64 (Ae (ofNat t) (ofNat s))) (ofNat n))) (ilt (Ab (wr .i64 (Ae (ofNat t) (ofNat s))) (ofNat n)) (ofNat n)) = true) (h6:ieq (h (toN (Ab (wr .i64 (Ae (ofNat i) (ofNat s))) (ofNat n)))) (h (toN (Ab (wr .i64 (Ae (ofNat t) (ofNat s))) (ofNat n)))) = false) (h7:ilt (h (toN (Ab (wr .i64 (Ae (ofNat t) (ofNat s))) (ofNat n)))) (h (toN (Ab (wr .i64 (Ae (ofNat i) (ofNat s))) (ofNat n)))) = false) (h8:ieq (ofNat i) (wr .i64 (Ae (ofNat t) (wr .i64 (Ae (ofNat s) 1)))) = false):Ai (Er L) (I3 n h) (Ir n h i t s j) = some (.nm,⟨(jsV 67 0 (λ_=>.und) [(0,(.sl 1 n (λk=>iV (h k)))),(3,(nV n)),(4,(nV i)),(5,(iV (wr .i64 (Ae (ofNat t) (wr .i64 (Ae (ofNat s) 1)))))),(6,(iV 0))]),[]⟩):=Aa (bbK 16 5120) ((λc0 c1 c2=>[c0,c0,c0,c0,c1,c1,c1,c1,ile (ofNat n) (ofNat s),c2,Af (ile 0 (Ab (wr .i64 (Ae (ofNat i) (ofNat s))) (ofNat n))) (ilt (Ab (wr .i64 (Ae (ofNat i) (ofNat s))) (ofNat n)) (ofNat n)),c2,Af (ile 0 (Ab (wr .i64 (Ae (ofNat t) (ofNat s))) (ofNat n))) (ilt (Ab (wr .i64 (Ae (ofNat t) (ofNat s))) (ofNat n)) (ofNat n)),ieq (h (toN (Ab (wr .i64 (Ae (ofNat i) (ofNat s))) (ofNat n)))) (h (toN (Ab (wr .i64 (Ae (ofNat t) (ofNat s))) (ofNat n)))),ilt (h (toN (Ab (wr .i64 (Ae (ofNat t) (ofNat s))) (ofNat n)))) (h (toN (Ab (wr .i64 (Ae (ofNat i) (ofNat s))) (ofNat n)))),ieq (ofNat i) (wr .i64 (Ae (ofNat t) (wr .i64 (Ae (ofNat s) 1))))]) (ile (ofNat n) (ofNat i)) (ile (ofNat n) (ofNat t)) (ieq (ofNat n) 0)) (by kernel_rfl) (by simp only [h4,h5] <;> simp only [*] <;> rfl)
theorem Abe (h0:ile (ofNat n) (ofNat i) = false) (h1:ile (ofNat n) (ofNat t) = false) (h2:ile (ofNat n) (ofNat s) = false) (h3:ieq (ofNat n) 0 = false) (h4:Af (ile 0 (Ab (wr .i64 (Ae (ofNat i) (ofNat s))) (ofNat n))) (ilt (Ab (wr .i64 (Ae (ofNat i) (ofNat s))) (ofNat n)) (ofNat n)) = true) (h5:Af (ile 0 (Ab (wr .i64 (Ae (ofNat t) (ofNat s))) (ofNat n))) (ilt (Ab (wr .i64 (Ae (ofNat t) (ofNat s))) (ofNat n)) (ofNat n)) = true) (h6:ieq (h (toN (Ab (wr .i64 (Ae (ofNat i) (ofNat s))) (ofNat n)))) (h (toN (Ab (wr .i64 (Ae (ofNat t) (ofNat s))) (ofNat n)))) = false) (h7:ilt (h (toN (Ab (wr .i64 (Ae (ofNat t) (ofNat s))) (ofNat n)))) (h (toN (Ab (wr .i64 (Ae (ofNat i) (ofNat s))) (ofNat n)))) = false) (h8:ieq (ofNat i) (wr .i64 (Ae (ofNat t) (wr .i64 (Ae (ofNat s) 1)))) = true):Ai (Er L) (I3 n h) (Ir n h i t s j) = some (.nm,⟨(jsV 67 0 (λ_=>.und) [(0,(.sl 1 n (λk=>iV (h k)))),(3,(nV n)),(4,(nV i)),(5,(iV (wr .i64 (Ae (wr .i64 (Ae (ofNat t) (wr .i64 (Ae (ofNat s) 1)))) 1)))),(6,(iV 0))]),[]⟩):=Aa (bbK 16 37888) ((λc0 c1 c2=>[c0,c0,c0,c0,c1,c1,c1,c1,ile (ofNat n) (ofNat s),c2,Af (ile 0 (Ab (wr .i64 (Ae (ofNat i) (ofNat s))) (ofNat n))) (ilt (Ab (wr .i64 (Ae (ofNat i) (ofNat s))) (ofNat n)) (ofNat n)),c2,Af (ile 0 (Ab (wr .i64 (Ae (ofNat t) (ofNat s))) (ofNat n))) (ilt (Ab (wr .i64 (Ae (ofNat t) (ofNat s))) (ofNat n)) (ofNat n)),ieq (h (toN (Ab (wr .i64 (Ae (ofNat i) (ofNat s))) (ofNat n)))) (h (toN (Ab (wr .i64 (Ae (ofNat t) (ofNat s))) (ofNat n)))),ilt (h (toN (Ab (wr .i64 (Ae (ofNat t) (ofNat s))) (ofNat n)))) (h (toN (Ab (wr .i64 (Ae (ofNat i) (ofNat s))) (ofNat n)))),ieq (ofNat i) (wr .i64 (Ae (ofNat t) (wr .i64 (Ae (ofNat s) 1))))]) (ile (ofNat n) (ofNat i)) (ile (ofNat n) (ofNat t)) (ieq (ofNat n) 0)) (by kernel_rfl) (by simp only [h4,h5] <;> simp only [*] <;> rfl)
end
def Zu (n:Nat) (h:Nat->Int) :Nat->V:=lkV AA [(2,(iV 0)),(9,(.sl 1 n (λk=>iV (h k)))),(10,(nV n))]
theorem Ah1 (L:LT) (p0:PT) (n:Nat) (h:Nat->Int) (r:Nat)  (hp0:p0 (Er (onP 0 p0 (QZ r) L)) (Ir n h 0 1 0 (Zu n h )) = true):(Az (Ak tab ⟨Ap tb0,onP 0 p0 (QZ r) L,Gl⟩ (SW 0 900 Try.f90) [.sl 1 n (λk=>iV (h k))] [])).sem = some ((nV r),[]):=Aa [true] [p0 (Er (onP 0 p0 (QZ r) L)) (Ir n h 0 1 0 (Zu n h ))] (by kernel_rfl) (by simp only [hp0] <;> rfl)
def E3 (n:Nat) (h:Nat->Int):Nat->Nat->Nat->Nat->Nat
 | 0,_,_,_=>0
 | q+1,i,t,s =>
  if n <= i ∨ n <= t ∨ n <= s then min (min i t) (n - 1)
  else if h ((i+s) % n) = h ((t+s) % n) then E3 n h q i t (s+1)
  else if h ((t+s) % n) < h ((i+s) % n) then E3 n h q (i+s+1) (if i+s+1 = t then t+1 else t) 0
  else E3 n h q i (if i = t+s+1 then t+s+2 else t+s+1) 0
def BX (n:Nat) (h:Nat->Int):Nat:=E3 n h (3 * n+4) 0 1 0
theorem DF {a b:Nat} (h:a+b <= 9223372036854775807):wr .i64 (Ae (ofNat a) (ofNat b)) = ofNat (a+b):=by
 unfold wr Ae IntKind.wrap
 simp [IntKind.bits,IntKind.signed]
 omega
theorem MX {a:Nat} (h:a+1 <= 9223372036854775807):wr .i64 (Ae (ofNat a) 1) = ofNat (a+1):=DF (b:=1) h
theorem C5 (a n:Nat):Ab (ofNat a) (ofNat n) = ofNat (a % n):=rfl
theorem Dx (a b:Nat):ieq (ofNat a) (ofNat b) = decide (a = b):=by
 simp only [ieq,Int.ofNat_eq_natCast]
 by_cases h:a = b
 ·simp [h]
 ·rw [decide_eq_false h]
  simp
  omega
theorem ile_nat (a b:Nat):ile (ofNat a) (ofNat b) = decide (a <= b):=by
 simp [ile]
theorem CJ (a b:Nat):ilt (ofNat a) (ofNat b) = decide (a < b):=by
 simp [ilt]
theorem Agp (n i t:Nat) (hn:n <= 1152921504606846976):sel (ilt (sel (ilt (wr .i64 (A2 (ofNat n) 1)) 0) 0 (wr .i64 (A2 (ofNat n) 1))) (sel (ilt (ofNat t) (ofNat i)) (ofNat t) (ofNat i))) (sel (ilt (wr .i64 (A2 (ofNat n) 1)) 0) 0 (wr .i64 (A2 (ofNat n) 1))) (sel (ilt (ofNat t) (ofNat i)) (ofNat t) (ofNat i)) = ofNat (min (min i t) (n - 1)):=by
 have h1:wr .i64 (A2 (ofNat n) 1) = (n:Int) - 1:=by
  unfold wr A2 IntKind.wrap
  simp [IntKind.bits,IntKind.signed]
  omega
 rw [h1]
 simp only [sel,ilt,Bool.cond_decide,Int.ofNat_eq_natCast]
 omega
theorem Ll (L:LT) (n:Nat) (h:Nat->Int) (hn:n <= 1152921504606846976):∀ (q i t s:Nat) (j:Nat->V),i <= 2 * n->t <= 2 * n+1->s <= n->3 * n+1 - (i+t+s) < q ->
  (A9 (Er L) (I3 n h) q (Ir n h i t s j)).sem = some (QZ (E3 n h q i t s))
 | 0,_,_,_,_,_,_,_,h4=>absurd h4 (Nat.not_lt_zero _)
 | q+1,i,t,s,j,hi,ht,hs,h4=>by
  by_cases ci:n <= i
  ·rw [Ad (AeU L n h i t s j (by rw [ile_nat,decide_eq_true ci])),EK,Agp n i t hn,E3,if_pos (.inl ci)]
   rfl
  ·have ci0:ile (ofNat n) (ofNat i) = false:=by rw [ile_nat,decide_eq_false ci]
   by_cases ct:n <= t
   ·rw [Ad (AeT L n h i t s j ci0 (by rw [ile_nat,decide_eq_true ct])),EK,Agp n i t hn,E3,if_pos (.inr (.inl ct))]
    rfl
   ·have ct0:ile (ofNat n) (ofNat t) = false:=by rw [ile_nat,decide_eq_false ct]
    by_cases cs:n <= s
    ·rw [Ad (AeR L n h i t s j ci0 ct0 (by rw [ile_nat,decide_eq_true cs])),EK,Agp n i t hn,E3,if_pos (.inr (.inr cs))]
     rfl
    ·have cs0:ile (ofNat n) (ofNat s) = false:=by rw [ile_nat,decide_eq_false cs]
     have cn0:ieq (ofNat n) 0 = false:=by
      rw [show (0:Int) = ofNat 0 from rfl,Dx,decide_eq_false (by omega)]
     have e1:Ab (wr .i64 (Ae (ofNat i) (ofNat s))) (ofNat n) = ofNat ((i+s) % n):=by rw [DF (by omega),C5]
     have e2:Ab (wr .i64 (Ae (ofNat t) (ofNat s))) (ofNat n) = ofNat ((t+s) % n):=by rw [DF (by omega),C5]
     have b1:Af (ile 0 (Ab (wr .i64 (Ae (ofNat i) (ofNat s))) (ofNat n))) (ilt (Ab (wr .i64 (Ae (ofNat i) (ofNat s))) (ofNat n)) (ofNat n)) = true:=by
      rw [e1]; exact Aq (Nat.mod_lt _ (by omega))
     have b2:Af (ile 0 (Ab (wr .i64 (Ae (ofNat t) (ofNat s))) (ofNat n))) (ilt (Ab (wr .i64 (Ae (ofNat t) (ofNat s))) (ofNat n)) (ofNat n)) = true:=by
      rw [e2]; exact Aq (Nat.mod_lt _ (by omega))
     have t1:∀ a:Nat,toN (ofNat a) = a:=λ_=>rfl
     have u1:wr .i64 (Ae (ofNat i) (wr .i64 (Ae (ofNat s) 1))) = ofNat (i+s+1):=by rw [MX (by omega),DF (by omega)]; rfl
     have u2:wr .i64 (Ae (ofNat t) (wr .i64 (Ae (ofNat s) 1))) = ofNat (t+s+1):=by rw [MX (by omega),DF (by omega)]; rfl
     rw [E3,if_neg (by omega)]
     by_cases ce:h ((i+s) % n) = h ((t+s) % n)
     ·rw [if_pos ce,Ad (AeW L n h i t s j ci0 ct0 cs0 cn0 b1 b2 (by rw [e1,e2,t1,t1]; simp [ieq,ce])),Ax,MX (by omega)]
      exact Ll L n h hn q i t (s+1) (λ_=>.und) hi ht (by omega) (by omega)
     ·have ce0:ieq (h (toN (Ab (wr .i64 (Ae (ofNat i) (ofNat s))) (ofNat n)))) (h (toN (Ab (wr .i64 (Ae (ofNat t) (ofNat s))) (ofNat n)))) = false:=by
       rw [e1,e2,t1,t1]; simp [ieq,ce]
      rw [if_neg ce]
      by_cases cg:h ((t+s) % n) < h ((i+s) % n)
      ·have cg0:ilt (h (toN (Ab (wr .i64 (Ae (ofNat t) (ofNat s))) (ofNat n)))) (h (toN (Ab (wr .i64 (Ae (ofNat i) (ofNat s))) (ofNat n)))) = true:=by
        rw [e1,e2,t1,t1]; simp [ilt,cg]
       rw [if_pos cg]
       by_cases cq:i+s+1 = t
       ·rw [if_pos cq,Ad (Abf L n h i t s j ci0 ct0 cs0 cn0 b1 b2 ce0 cg0 (by rw [u1,Dx,decide_eq_true cq])),Ax,u1,MX (by omega)]
        exact Ll L n h hn q (i+s+1) (t+1) 0 (λ_=>.und) (by omega) (by omega) (by omega) (by omega)
       ·rw [if_neg cq,Ad (AeV L n h i t s j ci0 ct0 cs0 cn0 b1 b2 ce0 cg0 (by rw [u1,Dx,decide_eq_false cq])),Ax,u1]
        exact Ll L n h hn q (i+s+1) t 0 (λ_=>.und) (by omega) (by omega) (by omega) (by omega)
      ·have cg0:ilt (h (toN (Ab (wr .i64 (Ae (ofNat t) (ofNat s))) (ofNat n)))) (h (toN (Ab (wr .i64 (Ae (ofNat i) (ofNat s))) (ofNat n)))) = false:=by
        rw [e1,e2,t1,t1]; simp [ilt]; omega
       rw [if_neg cg]
       by_cases cq:i = t+s+1
       ·rw [if_pos cq,Ad (Abe L n h i t s j ci0 ct0 cs0 cn0 b1 b2 ce0 cg0 (by rw [u2,Dx,decide_eq_true cq])),Ax,u2,MX (by omega)]
        exact Ll L n h hn q i (t+s+2) 0 (λ_=>.und) (by omega) (by omega) (by omega) (by omega)
       ·rw [if_neg cq,Ad (AeS L n h i t s j ci0 ct0 cs0 cn0 b1 b2 ce0 cg0 (by rw [u2,Dx,decide_eq_false cq])),Ax,u2]
        exact Ll L n h hn q i (t+s+1) 0 (λ_=>.und) (by omega) (by omega) (by omega) (by omega)
def Z6 (n:Nat):Bool:=decide (n <= 1152921504606846976)
def Zn:List V->T (V × List Blk):=Acu λn h=>.br (Z6 n) (out (iV (ofNat (BX n h)))) .fail
theorem AkF:A6 Try.prog Gl 90 Zn:=by
 refine Sm (p:=match Try.f90.body with | some (.seq p _)=>p | _=>.skip) (c:=match Try.f90.body with | some (.seq _ (.scope c))=>c | _=>.skip) (d:=match (match Try.f90.body with | some (.seq _ (.scope c))=>F8 0 c | _=>none) with | some d=>d | none=>.skip) AO AP Try.func90 0 900 (by kernel_rfl) (by kernel_rfl) (by kernel_rfl) (by kernel_rfl) λvs v h' h=>?_
 obtain ⟨n,f,ha,h1⟩:=PZ h
 obtain ⟨hn,hq⟩:=Ag h1
 have:=Ac hq
 simp only [Prod.mk.injEq] at this
 obtain ⟨rfl,rfl⟩:=this
 have hn:n <= 1152921504606846976:=by simpa [Z6] using hn
 have hx:=AQ Dd [(0,I3 n f)]
 exact ⟨_,AS Gl tb0 [(0,I3 n f)],_,ha,rfl,hx.1,hx.2,A7 (Ay (AL _) (AL _)) _ (Ah1 _ _ n f _ (Am (Ll _ n f hn (3 * n+4) 0 1 0 (Zu n f) (by omega) (by omega) (by omega) (by omega)))),AC.refl _⟩
end Go.Proofs.Ytjhnfomefcngfaa.Ed
namespace Go.Proofs.Ytjhnfomefcngfaa.Ed
open Go.Sy
open Int (ofNat)
theorem Oe (n m:Nat) (gx g:Nat->V) (i:Nat) (h:i < n+m):CK n m gx g i = bif Nat.blt i n then gx i else g (i - n):=by
 cases hb:Nat.blt i n with
 | true=>exact Oc n m gx g i (Nat.blt_eq ▸ hb)
 | false =>
  have h1:n <= i:=by
   rcases Nat.lt_or_ge i n with h2 | h2
   ·rw [show Nat.blt i n = true from Nat.blt_eq ▸ h2] at hb; cases hb
   ·exact h2
  have:=Od n m gx g (i - n) (by omega)
  rw [show n+(i - n) = i by omega] at this
  exact this
theorem TF {α:Type} (n k:Nat) (z:Nat->V) (h:Nat->α) (e:α->V) (hk:k < n ∨ n = 0 ∧ k = 0):Bn (Bn 0 (H7 n k)) k = n ∧ ∀ j,j < n ->
  CK (Bn 0 (H7 n k)) k (CK 0 (H7 n k) z (λi=>e (h (Bn k i)))) (λi=>e (h i)) j = e (h ((k+j) % n)):=by
 have h1:Bn 0 (H7 n k) = n - k:=by simp [Bn,H7]
 have h2:H7 n k = n - k:=rfl
 refine ⟨by rw [h1]; show n - k+k = n; omega,λj hj=>?_⟩
 rw [h1,h2,Oe _ _ _ _ j (by omega)]
 cases hb:Nat.blt j (n - k) with
 | true =>
  have hb:j < n - k:=Nat.blt_eq ▸ hb
  show CK 0 (n - k) z (λi=>e (h (Bn k i))) j = _
  rw [Oe _ _ _ _ j (by omega)]
  show e (h (k+(j - 0))) = _
  rw [Nat.mod_eq_of_lt (by omega),Nat.sub_zero]
 | false =>
  have hb:n - k <= j:=by
   rcases Nat.lt_or_ge j (n - k) with h3 | h3
   ·rw [show Nat.blt j (n - k) = true from Nat.blt_eq ▸ h3] at hb; cases hb
   ·exact h3
  show e (h (j - (n - k))) = _
  rw [show k+j = j - (n - k)+n by omega,Nat.add_mod_right,Nat.mod_eq_of_lt (by omega)]
def CR (n:Nat):Bool:=decide (n * 8 <= 140737488355328)
theorem CM {n:Nat} (h:CR n = true):n <= 4611686018427387904:=by
 have h:n * 8 <= 140737488355328:=of_decide_eq_true h
 omega
theorem Z7 {n:Nat} (h:CR n = true):Ah n = true:=decide_eq_true (CM h)
theorem Ag7 {n:Nat} (h:CR n = true):Z6 n = true:=by
 have h:n * 8 <= 140737488355328:=of_decide_eq_true h
 exact decide_eq_true (by omega)
theorem Fm {n:Nat} (h:AN n = true):CR n = true:=by
 have h:n * 40 <= 140737488355328:=of_decide_eq_true h
 exact decide_eq_true (by omega)
theorem Lz (n:Nat) (h:Nat->Int):∀ q i t s,E3 n h q i t s <= n - 1
 | 0,_,_,_=>Nat.zero_le _
 | q+1,i,t,s=>by
  unfold E3
  split
  ·omega
  ·split
   ·exact Lz n h q _ _ _
   ·split <;> exact Lz n h q _ _ _
theorem Xd (n:Nat) (h:Nat->Int):BX n h <= n - 1:=Lz n h _ _ _ _
theorem Jo (n:Nat) (h:Nat->Int):BX n h < n ∨ n = 0 ∧ BX n h = 0:=by
 have:=Xd n h
 omega
def NU (n:Nat) (f:Nat->E6):Lp:=⟨(bmK 28 0 [0,2,3,4,9,10,11]),2,bmK 28 0 [2,3,4],4,n+1⟩
def Nr (n:Nat) (f:Nat->E6) (i k:Nat) (x:Nat->V) (j:Nat->V):St:=⟨(jsV 28 0 j [(0,.sl 6 n λi=>eV (f i)),(2,.ref 0),(3,iV 0),(4,.ref 1),(9,.sl 6 n λi=>eV (f i)),(10,nV n),(11,nV i)]),[.row 3 1 0 λ_=>.und,.row 3 1 k x]⟩
def Rw (n:Nat) (f:Nat->E6) (i k:Nat) (x:Nat->V):Ex × St:=(.ex 0,⟨(jsV 28 0 (λ_=>.und) [(2,.ref 0),(3,iV 0),(4,.ref 1)]),[.row 3 1 0 λ_=>.und,.row 3 1 k x]⟩)
def Rv (n:Nat) (f:Nat->E6) (i k:Nat) (x:Nat->V):Ex × St:=(.rt,⟨(jsV 28 0 (λ_=>.und) [(2,.ref 3),(3,iV 30),(4,.ref 1)]),[.row 3 1 0 λ_=>.und,.row 3 1 k x,.cells [iV ((f i)).kind,bV ((f i)).ext,bV ((f i)).same,iV ((f i)).src,iV ((f i)).dst,iV ((f i)).fence],.row 3 1 0 λ_=>.und]⟩)
noncomputable def HW (L:LT):St->T (Ex × St):=λst=>AF tab ⟨Ap tb8,L,Gl⟩ (A1 Try.f89 0) 0 st
theorem Kn (L:LT) (n:Nat) (f:Nat->E6) (i k:Nat) (x:Nat->V) (j:Nat->V):Ai (HW L) (NU n f) (Nr n f i k x j)
 = (sel (ilt (ofNat i) (ofNat n)) (sel (Af (ile 0 (ofNat i)) (ilt (ofNat i) (ofNat n))) (sel (An (ieq (AR (f i)) 0)) (some (.rt,⟨[.und,.und,(.ref 3),(iV 30),(.ref 1),.und,.und,.und,.und,.und,.und,.und,.und,.und,.und,.und,.und,.und,.und,.und,.und,.und,.und,.und,.und,.und,.und,.und],[r3Z,(.row 3 1 k x),(.cells [(iV ((f i)).kind),(bV ((f i)).ext),(bV ((f i)).same),(iV ((f i)).src),(iV ((f i)).dst),(iV ((f i)).fence)]),r3Z]⟩)) (sel (Bg k 1 8) (some (.nm,⟨[(.sl 6 n (λi=>(eV (f i)))),.und,(.ref 0),(iV 0),(.ref 1),.und,.und,.und,.und,(.sl 6 n (λi=>(eV (f i)))),(nV n),(iV (wr .i64 (Ae (ofNat i) 1))),.und,.und,.und,.und,.und,.und,.und,.und,.und,.und,.und,.und,.und,.und,.und,.und],[r3Z,(.row 3 1 (Bn k 1) (AE k x (iV (Bw (f i)))))]⟩)) none)) none) (some ((.ex 0),⟨[.und,.und,(.ref 0),(iV 0),(.ref 1),.und,.und,.und,.und,.und,.und,.und,.und,.und,.und,.und,.und,.und,.und,.und,.und,.und,.und,.und,.und,.und,.und,.und],[r3Z,(.row 3 1 k x)]⟩))):=by kernel_rfl
def PG (n:Nat) (f:Nat->E6) :Nat->V:=lkV AA []
section
variable (L:LT) (p0:PT) (n:Nat) (f:Nat->E6) (i k:Nat) (x:Nat->V)
include L p0 n f i k x
theorem Aea  (hp0:p0 (HW (onP 0 p0 (Rw n f i k x) L)) (Nr n f 0 0 (λ_=>.und) (PG n f )) = true):(Az (Ak tab ⟨Ap tb8,onP 0 p0 (Rw n f i k x) L,Gl⟩ Try.f89 [A4 n f] [])).sem = some ((.tup [.ref 0,iV 0]),[.row 3 1 k x]):=Aa [true] [p0 (HW (onP 0 p0 (Rw n f i k x) L)) (Nr n f 0 0 (λ_=>.und) (PG n f ))] (by kernel_rfl) (by simp only [hp0] <;> rfl)
theorem AdZ  (hp0:p0 (HW (onP 0 p0 (Rv n f i k x) L)) (Nr n f 0 0 (λ_=>.und) (PG n f )) = true):(Az (Ak tab ⟨Ap tb8,onP 0 p0 (Rv n f i k x) L,Gl⟩ Try.f89 [A4 n f] [])).sem = some ((.tup [.ref 0,iV 30]),[r3Z]):=Aa [true] [p0 (HW (onP 0 p0 (Rv n f i k x) L)) (Nr n f 0 0 (λ_=>.und) (PG n f ))] (by kernel_rfl) (by simp only [hp0] <;> rfl)
end
theorem V1 (L:LT) (n:Nat) (f:Nat->E6) (hn:AN n = true) (ho:∀ t,t < n->AR (f t) = 0):∀ (d i:Nat) (j:Nat->V) (q:Nat),n = i+d->d < q ->
  (A9 (HW L) (NU n f) q (Nr n f i i (BP (cdV f) i) j)).sem = some (Rw n f 0 n (BP (cdV f) n))
 | 0,i,j,q+1,h1,_=>by
  have hi:i = n:=by omega
  subst hi
  rw [Ad (Kn L i f i i _ j),AD (Nat.le_refl i)]
  rfl
 | d+1,i,j,q+1,h1,h2=>by
  have hi:i < n:=by omega
  rw [Ad (Kn L n f i i _ j),Aq hi,ofNat_lt hi,R7 hi (by decide) (of_decide_eq_true hn),Ao hi (Ju hn),ho i hi]
  exact V1 L n f hn ho d (i+1) (λ_=>.und) q (by omega) (by omega)
theorem V0 (L:LT) (n:Nat) (f:Nat->E6) (hn:AN n = true) (e:Nat) (he:e < n) (hb:AR (f e) = 30) (ho:∀ t,t < e->AR (f t) = 0):∀ (d i:Nat) (j:Nat->V) (q:Nat),e = i+d->d < q ->
  (A9 (HW L) (NU n f) q (Nr n f i i (BP (cdV f) i) j)).sem = some (Rv n f e e (BP (cdV f) e))
 | 0,i,j,q+1,h1,_=>by
  have hi:i = e:=by omega
  subst hi
  rw [Ad (Kn L n f i i _ j),Aq he,ofNat_lt he,hb]
  rfl
 | d+1,i,j,q+1,h1,h2=>by
  have hi:i < n:=by omega
  rw [Ad (Kn L n f i i _ j),Aq hi,ofNat_lt hi,R7 hi (by decide) (of_decide_eq_true hn),Ao hi (Ju hn),ho i (by omega)]
  exact V0 L n f hn e he hb ho d (i+1) (λ_=>.und) q (by omega) (by omega)
theorem AkG:A6 Try.prog Gl 89 ZY:=by
 refine A5 AO AP Try.func89 (by kernel_rfl) (by kernel_rfl) λvs v h' h=>?_
 obtain ⟨n,f,ha,h⟩:=CU h
 obtain ⟨hn,h⟩:=Ag h
 have hx:=AQ TL [(0,NU n f)]
 cases hm:BM n f with
 | true =>
  rw [hm] at h
  have:=Ac h
  simp only [Prod.mk.injEq] at this
  obtain ⟨rfl,rfl⟩:=this
  exact ⟨_,cx9 [(0,NU n f)],_,ha,rfl,hx.1,hx.2,A7 (Ay (AL _) (AL _)) _ (Aea _ _ n f 0 n _ (Am (V1 _ n f hn (D7.1 hm) n 0 (PG n f) (n+1) (by omega) (by omega)))),
   AC.one λj hj=>(I0 (cdV f) n j hj).symm⟩
 | false =>
  rw [hm] at h
  have:=Ac h
  simp only [Prod.mk.injEq] at this
  obtain ⟨rfl,rfl⟩:=this
  obtain ⟨e,h1,h2,h3⟩:=YW hm
  have hw:=A7 (Ay (AL _) (AL _)) _ (AdZ (Bb [(0,NU n f)]) _ n f e e _ (Am (V0 _ n f hn e h1 h2 h3 e 0 (PG n f) (n+1) (by omega) (by omega))))
  exact ⟨_,cx9 [(0,NU n f)],_,ha,rfl,hx.1,hx.2,hw,AC.refl _⟩
theorem Ca {n m b:Nat} (h:(n+m) * b <= 140737488355328):Bg n m b = true:=decide_eq_true h
noncomputable def XU:List (Nat × (List V->T (V × List Blk))):=(89,ZY) :: (90,Zn) :: []
theorem AaN:AB Try.prog Gl XU:=.cons AkG <| .cons AkF .nil
def AcE (n:Nat) (f:Nat->E6) (k:Nat):Blk:=.row 44 6 (Bn (Bn 0 (H7 n k)) k) (CK (Bn 0 (H7 n k)) k (CK 0 (H7 n k) (λ_=>eV Gc) (λi=>eV (f (Bn k i)))) (λi=>eV (f i)))
section
variable (L:LT) (n:Nat) (f:Nat->E6)
include L n f
theorem Ahv (h0:AN n = true) (h1:BM n f = false):(Az (Ak tab ⟨Ap XU,L,Gl⟩ Try.f51 [A4 n f] [])).sem = some ((.tup [.ref 0,iV 30]),[.row 44 6 0 (λ_=>.und)]):=Aa [true,true,false,true] [Au n (λ_=>true),AN n,BM n f,An (ieq 30 0)] (by kernel_rfl) (by simp only [h0,h1,Aw] <;> rfl)
theorem Ahu (h0:AN n = true) (h1:BM n f = true) (h2:Z6 n = true) (h3:BI 40 0 (ofNat n) = true) (h13:Af (ile 0 (ofNat (BX n (λi=>Bw (f i))))) (ile (ofNat (BX n (λi=>Bw (f i)))) (ofNat n)) = true) (h14:Bg 0 (H7 n (BX n (λi=>Bw (f i)))) 40 = true) (h15:Bg (Bn 0 (H7 n (BX n (λi=>Bw (f i))))) (BX n (λi=>Bw (f i))) 40 = true):(Az (Ak tab ⟨Ap XU,L,Gl⟩ Try.f51 [A4 n f] [])).sem = some ((.tup [.ref 0,iV 0]),[AcE n f (BX n (λi=>Bw (f i)))]):=Aa (bbK 11 2039) ((λc0 c1=>[c0,AN n,BM n f,An (ieq 0 0),c0,Z6 n,BI 40 0 (ofNat n),c1,Bg 0 (H7 n (BX n (λi=>Bw (f i)))) 40,c1,Bg (Bn 0 (H7 n (BX n (λi=>Bw (f i))))) (BX n (λi=>Bw (f i))) 40]) (Au n (λ_=>true)) (Af (ile 0 (ofNat (BX n (λi=>Bw (f i))))) (ile (ofNat (BX n (λi=>Bw (f i)))) (ofNat n)))) (by kernel_rfl) (by simp only [h13] <;> simp only [*,Aw] <;> rfl)
end
def Bk (n:Nat) (f:Nat->E6) (i:Nat):E6:=f ((BX n (λi=>Bw (f i))+i) % n)
def O8:List V->T (V × List Blk):=Hp λn f=>.br (AN n) (.br (BM n f) (.leaf (.tup [.ref 0,iV 0],[.row 44 6 n λi=>eV (Bk n f i)])) (.leaf (.tup [.ref 0,iV 30],[.row 44 6 0 λ_=>.und]))) .fail
theorem p65:A6 Try.prog Gl 51 O8:=by
 refine A5 AO AP Try.func51 (by kernel_rfl) (by kernel_rfl) λvs v h' h=>?_
 obtain ⟨n,f,ha,h⟩:=CU h
 obtain ⟨hn,h⟩:=Ag h
 have hx:=AQ AaN []
 cases hm:BM n f with
 | true =>
  rw [hm] at h
  have:=Ac h
  simp only [Prod.mk.injEq] at this
  obtain ⟨rfl,rfl⟩:=this
  have hn':n * 40 <= 140737488355328:=of_decide_eq_true hn
  have hk:=Jo n (λi=>Bw (f i))
  have e3:∀ k,Bn 0 (H7 n k) = n - k:=λk=>by simp [Bn,H7]
  have hw:=Ahu (Bb []) n f hn hm (Ag7 (Fm hn)) (by
    simp only [BI,Bool.and_eq_true,decide_eq_true_eq,Int.ofNat_eq_natCast]; omega) (by
    rw [ile_nat,show (0:Int) = ofNat 0 from rfl,ile_nat]; simp [Af]; omega) (by
    exact Ca (by show (0+(n - BX n (λi=>Bw (f i)))) * 40 <= _; omega)) (by
    rw [e3]; exact Ca (by omega))
  obtain ⟨r1,r2⟩:=TF n (BX n (λi=>Bw (f i))) (λ_=>eV Gc) f eV hk
  unfold AcE at hw
  rw [r1] at hw
  exact ⟨_,AS Gl XU [],_,ha,rfl,hx.1,hx.2,hw,AC.one λj hj=>(r2 j hj).symm⟩
 | false =>
  rw [hm] at h
  have:=Ac h
  simp only [Prod.mk.injEq] at this
  obtain ⟨rfl,rfl⟩:=this
  exact ⟨_,AS Gl XU [],_,ha,rfl,hx.1,hx.2,Ahv _ n f hn hm,AC.refl _⟩
theorem Wv {a b:E6} (ha:AR a = 0) (hb:AR b = 0) (h:Bw a = Bw b):a = b:=by
 rcases EU a with ⟨k,_,_,h1,h2,_⟩ | ⟨h1,_⟩
 ·rcases EU b with ⟨l,_,_,h3,h4,_⟩ | ⟨h3,_⟩
  ·rw [h1,h3] at h
   have:=Int.ofNat.inj h
   rw [<- h2,<- h4,this]
  ·rw [hb] at h3; cases h3
 ·rw [ha] at h1; cases h1
theorem Tw {n:Nat} {f:Nat->E6} (h:BM n f = true) {i:Nat} (hi:i < n):AR (Bk n f i) = 0:=D7.1 h _ (Nat.mod_lt _ (by omega))
theorem Nv {n:Nat} {f:Nat->E6} {m:Nat} {g:Nat->E6}:CY n f m g = true ↔ n = m ∧ ∀ i,i < n->f i = g i:=by
 unfold CY
 rw [Dx]
 by_cases h:n = m
 ·rw [decide_eq_true h]
  show JV f g n 0 = true ↔ _
  rw [Ol]
  exact ⟨λh1=>⟨h,λi hi=>h1 i (Nat.zero_le _) (by omega)⟩,λh1 j _ h3=>h1.2 j (by omega)⟩
 ·rw [decide_eq_false h]
  exact ⟨λh=>(by cases h),λh1=>absurd h1.1 h⟩
def Be (q:Nat->Bool):Nat->Nat->Option Nat
 | 0,_=>none
 | d+1,i=>match q i with
  | true=>some i
  | false=>Be q d (i+1)
theorem BZ {q:Nat->Bool} {d i:Nat} (h:q i = true):Be q (d+1) i = some i:=by rw [Be,h]
theorem Bz {q:Nat->Bool} {d i:Nat} (h:q i = false):Be q (d+1) i = Be q d (i+1):=by rw [Be,h]
theorem BF {a b:Int} (h:ieq a b = true):a = b:=by simpa [ieq] using h
end Go.Proofs.Ytjhnfomefcngfaa.Ed
