/-
  Least: where the least turned list begins, as the program walks. No conditions.
-/
import Derived.Test.YtjhnfomefcngfaaCyI
namespace Go.Proofs.Ytjhnfomefcngfaa.Ed
open Go.Sy
open Int (ofNat)
def QV (r:Nat):Ex × St:=(.rt,⟨(jsV 67 0 (λ_=>.und) [(2,nV r)]),[]⟩)
def I3 (n:Nat) (h:Nat->Int):Lp:=⟨(bmK 67 0 [0,3,4,5,6]),1,bmK 67 0 [2],1,3 * n+4⟩
def Ir (n:Nat) (h:Nat->Int) (i t s:Nat) (j:Nat->V):St:=⟨(jsV 67 0 j [(0,.sl 1 n (λk=>iV (h k))),(3,nV n),(4,nV i),(5,nV t),(6,nV s)]),[]⟩
noncomputable def Et (L:LT):St->T (Ex × St):=λst=>AG tab ⟨Aq tb0,L,Gl⟩ (A1 (SS 0 900 Try.f90) 0) 0 st
section
variable (L:LT) (n:Nat) (h:Nat->Int) (i t s:Nat)  (j:Nat->V)
include L n h i t s j
theorem AeN (h0:ile (ofNat n) (ofNat i) = true):Aj (Et L) (I3 n h) (Ir n h i t s j) = some (.rt,⟨(jsV 67 0 (λ_=>.und) [(2,(iV (sel (ilt (sel (ilt (wr .i64 (Au (ofNat n) 1)) 0) 0 (wr .i64 (Au (ofNat n) 1))) (sel (ilt (ofNat t) (ofNat i)) (ofNat t) (ofNat i))) (sel (ilt (wr .i64 (Au (ofNat n) 1)) 0) 0 (wr .i64 (Au (ofNat n) 1))) (sel (ilt (ofNat t) (ofNat i)) (ofNat t) (ofNat i)))))]),[]⟩):=Aa (bbK 9 511) ((λc0 c1=>[c0,c0,c0,c0,c1,c1,c1,c1,c1]) (ile (ofNat n) (ofNat i)) (true)) (by kernel_rfl) (by simp only [h0] <;> rfl)
theorem AeM (h0:ile (ofNat n) (ofNat i) = false) (h1:ile (ofNat n) (ofNat t) = true):Aj (Et L) (I3 n h) (Ir n h i t s j) = some (.rt,⟨(jsV 67 0 (λ_=>.und) [(2,(iV (sel (ilt (sel (ilt (wr .i64 (Au (ofNat n) 1)) 0) 0 (wr .i64 (Au (ofNat n) 1))) (sel (ilt (ofNat t) (ofNat i)) (ofNat t) (ofNat i))) (sel (ilt (wr .i64 (Au (ofNat n) 1)) 0) 0 (wr .i64 (Au (ofNat n) 1))) (sel (ilt (ofNat t) (ofNat i)) (ofNat t) (ofNat i)))))]),[]⟩):=Aa (bbK 9 496) ((λc0 c1=>[c0,c0,c0,c0,c1,c1,c1,c1,true]) (ile (ofNat n) (ofNat i)) (ile (ofNat n) (ofNat t))) (by kernel_rfl) (by simp only [h0,h1] <;> rfl)
theorem AeK (h0:ile (ofNat n) (ofNat i) = false) (h1:ile (ofNat n) (ofNat t) = false) (h2:ile (ofNat n) (ofNat s) = true):Aj (Et L) (I3 n h) (Ir n h i t s j) = some (.rt,⟨(jsV 67 0 (λ_=>.und) [(2,(iV (sel (ilt (sel (ilt (wr .i64 (Au (ofNat n) 1)) 0) 0 (wr .i64 (Au (ofNat n) 1))) (sel (ilt (ofNat t) (ofNat i)) (ofNat t) (ofNat i))) (sel (ilt (wr .i64 (Au (ofNat n) 1)) 0) 0 (wr .i64 (Au (ofNat n) 1))) (sel (ilt (ofNat t) (ofNat i)) (ofNat t) (ofNat i)))))]),[]⟩):=Aa (bbK 9 256) ((λc0 c1=>[c0,c0,c0,c0,c1,c1,c1,c1,ile (ofNat n) (ofNat s)]) (ile (ofNat n) (ofNat i)) (ile (ofNat n) (ofNat t))) (by kernel_rfl) (by simp only [*] <;> rfl)
theorem AeP (h0:ile (ofNat n) (ofNat i) = false) (h1:ile (ofNat n) (ofNat t) = false) (h2:ile (ofNat n) (ofNat s) = false) (h3:ieq (ofNat n) 0 = false) (h4:Af (ile 0 (Ab (wr .i64 (Ae (ofNat i) (ofNat s))) (ofNat n))) (ilt (Ab (wr .i64 (Ae (ofNat i) (ofNat s))) (ofNat n)) (ofNat n)) = true) (h5:Af (ile 0 (Ab (wr .i64 (Ae (ofNat t) (ofNat s))) (ofNat n))) (ilt (Ab (wr .i64 (Ae (ofNat t) (ofNat s))) (ofNat n)) (ofNat n)) = true) (h6:ieq (h (toN (Ab (wr .i64 (Ae (ofNat i) (ofNat s))) (ofNat n)))) (h (toN (Ab (wr .i64 (Ae (ofNat t) (ofNat s))) (ofNat n)))) = true):Aj (Et L) (I3 n h) (Ir n h i t s j) = some (.nm,⟨(jsV 67 0 (λ_=>.und) [(0,(.sl 1 n (λk=>iV (h k)))),(3,(nV n)),(4,(nV i)),(5,(nV t)),(6,(iV (wr .i64 (Ae (ofNat s) 1))))]),[]⟩):=Aa (bbK 14 13312) ((λc0 c1 c2=>[c0,c0,c0,c0,c1,c1,c1,c1,ile (ofNat n) (ofNat s),c2,Af (ile 0 (Ab (wr .i64 (Ae (ofNat i) (ofNat s))) (ofNat n))) (ilt (Ab (wr .i64 (Ae (ofNat i) (ofNat s))) (ofNat n)) (ofNat n)),c2,Af (ile 0 (Ab (wr .i64 (Ae (ofNat t) (ofNat s))) (ofNat n))) (ilt (Ab (wr .i64 (Ae (ofNat t) (ofNat s))) (ofNat n)) (ofNat n)),ieq (h (toN (Ab (wr .i64 (Ae (ofNat i) (ofNat s))) (ofNat n)))) (h (toN (Ab (wr .i64 (Ae (ofNat t) (ofNat s))) (ofNat n))))]) (ile (ofNat n) (ofNat i)) (ile (ofNat n) (ofNat t)) (ieq (ofNat n) 0)) (by kernel_rfl) (by simp only [h4,h5] <;> simp only [*] <;> rfl)
theorem AeO (h0:ile (ofNat n) (ofNat i) = false) (h1:ile (ofNat n) (ofNat t) = false) (h2:ile (ofNat n) (ofNat s) = false) (h3:ieq (ofNat n) 0 = false) (h4:Af (ile 0 (Ab (wr .i64 (Ae (ofNat i) (ofNat s))) (ofNat n))) (ilt (Ab (wr .i64 (Ae (ofNat i) (ofNat s))) (ofNat n)) (ofNat n)) = true) (h5:Af (ile 0 (Ab (wr .i64 (Ae (ofNat t) (ofNat s))) (ofNat n))) (ilt (Ab (wr .i64 (Ae (ofNat t) (ofNat s))) (ofNat n)) (ofNat n)) = true) (h6:ieq (h (toN (Ab (wr .i64 (Ae (ofNat i) (ofNat s))) (ofNat n)))) (h (toN (Ab (wr .i64 (Ae (ofNat t) (ofNat s))) (ofNat n)))) = false) (h7:ilt (h (toN (Ab (wr .i64 (Ae (ofNat t) (ofNat s))) (ofNat n)))) (h (toN (Ab (wr .i64 (Ae (ofNat i) (ofNat s))) (ofNat n)))) = true) (h8:ieq (wr .i64 (Ae (ofNat i) (wr .i64 (Ae (ofNat s) 1)))) (ofNat t) = false):Aj (Et L) (I3 n h) (Ir n h i t s j) = some (.nm,⟨(jsV 67 0 (λ_=>.und) [(0,(.sl 1 n (λk=>iV (h k)))),(3,(nV n)),(4,(iV (wr .i64 (Ae (ofNat i) (wr .i64 (Ae (ofNat s) 1)))))),(5,(nV t)),(6,(iV 0))]),[]⟩):=Aa (bbK 16 21504) ((λc0 c1 c2=>[c0,c0,c0,c0,c1,c1,c1,c1,ile (ofNat n) (ofNat s),c2,Af (ile 0 (Ab (wr .i64 (Ae (ofNat i) (ofNat s))) (ofNat n))) (ilt (Ab (wr .i64 (Ae (ofNat i) (ofNat s))) (ofNat n)) (ofNat n)),c2,Af (ile 0 (Ab (wr .i64 (Ae (ofNat t) (ofNat s))) (ofNat n))) (ilt (Ab (wr .i64 (Ae (ofNat t) (ofNat s))) (ofNat n)) (ofNat n)),ieq (h (toN (Ab (wr .i64 (Ae (ofNat i) (ofNat s))) (ofNat n)))) (h (toN (Ab (wr .i64 (Ae (ofNat t) (ofNat s))) (ofNat n)))),ilt (h (toN (Ab (wr .i64 (Ae (ofNat t) (ofNat s))) (ofNat n)))) (h (toN (Ab (wr .i64 (Ae (ofNat i) (ofNat s))) (ofNat n)))),ieq (wr .i64 (Ae (ofNat i) (wr .i64 (Ae (ofNat s) 1)))) (ofNat t)]) (ile (ofNat n) (ofNat i)) (ile (ofNat n) (ofNat t)) (ieq (ofNat n) 0)) (by kernel_rfl) (by simp only [h4,h5] <;> simp only [*] <;> rfl)
theorem Abb (h0:ile (ofNat n) (ofNat i) = false) (h1:ile (ofNat n) (ofNat t) = false) (h2:ile (ofNat n) (ofNat s) = false) (h3:ieq (ofNat n) 0 = false) (h4:Af (ile 0 (Ab (wr .i64 (Ae (ofNat i) (ofNat s))) (ofNat n))) (ilt (Ab (wr .i64 (Ae (ofNat i) (ofNat s))) (ofNat n)) (ofNat n)) = true) (h5:Af (ile 0 (Ab (wr .i64 (Ae (ofNat t) (ofNat s))) (ofNat n))) (ilt (Ab (wr .i64 (Ae (ofNat t) (ofNat s))) (ofNat n)) (ofNat n)) = true) (h6:ieq (h (toN (Ab (wr .i64 (Ae (ofNat i) (ofNat s))) (ofNat n)))) (h (toN (Ab (wr .i64 (Ae (ofNat t) (ofNat s))) (ofNat n)))) = false) (h7:ilt (h (toN (Ab (wr .i64 (Ae (ofNat t) (ofNat s))) (ofNat n)))) (h (toN (Ab (wr .i64 (Ae (ofNat i) (ofNat s))) (ofNat n)))) = true) (h8:ieq (wr .i64 (Ae (ofNat i) (wr .i64 (Ae (ofNat s) 1)))) (ofNat t) = true):Aj (Et L) (I3 n h) (Ir n h i t s j) = some (.nm,⟨(jsV 67 0 (λ_=>.und) [(0,(.sl 1 n (λk=>iV (h k)))),(3,(nV n)),(4,(iV (wr .i64 (Ae (ofNat i) (wr .i64 (Ae (ofNat s) 1)))))),(5,(iV (wr .i64 (Ae (ofNat t) 1)))),(6,(iV 0))]),[]⟩):=Aa (bbK 16 54272) ((λc0 c1 c2=>[c0,c0,c0,c0,c1,c1,c1,c1,ile (ofNat n) (ofNat s),c2,Af (ile 0 (Ab (wr .i64 (Ae (ofNat i) (ofNat s))) (ofNat n))) (ilt (Ab (wr .i64 (Ae (ofNat i) (ofNat s))) (ofNat n)) (ofNat n)),c2,Af (ile 0 (Ab (wr .i64 (Ae (ofNat t) (ofNat s))) (ofNat n))) (ilt (Ab (wr .i64 (Ae (ofNat t) (ofNat s))) (ofNat n)) (ofNat n)),ieq (h (toN (Ab (wr .i64 (Ae (ofNat i) (ofNat s))) (ofNat n)))) (h (toN (Ab (wr .i64 (Ae (ofNat t) (ofNat s))) (ofNat n)))),ilt (h (toN (Ab (wr .i64 (Ae (ofNat t) (ofNat s))) (ofNat n)))) (h (toN (Ab (wr .i64 (Ae (ofNat i) (ofNat s))) (ofNat n)))),ieq (wr .i64 (Ae (ofNat i) (wr .i64 (Ae (ofNat s) 1)))) (ofNat t)]) (ile (ofNat n) (ofNat i)) (ile (ofNat n) (ofNat t)) (ieq (ofNat n) 0)) (by kernel_rfl) (by simp only [h4,h5] <;> simp only [*] <;> rfl)
theorem AeL (h0:ile (ofNat n) (ofNat i) = false) (h1:ile (ofNat n) (ofNat t) = false) (h2:ile (ofNat n) (ofNat s) = false) (h3:ieq (ofNat n) 0 = false) (h4:Af (ile 0 (Ab (wr .i64 (Ae (ofNat i) (ofNat s))) (ofNat n))) (ilt (Ab (wr .i64 (Ae (ofNat i) (ofNat s))) (ofNat n)) (ofNat n)) = true) (h5:Af (ile 0 (Ab (wr .i64 (Ae (ofNat t) (ofNat s))) (ofNat n))) (ilt (Ab (wr .i64 (Ae (ofNat t) (ofNat s))) (ofNat n)) (ofNat n)) = true) (h6:ieq (h (toN (Ab (wr .i64 (Ae (ofNat i) (ofNat s))) (ofNat n)))) (h (toN (Ab (wr .i64 (Ae (ofNat t) (ofNat s))) (ofNat n)))) = false) (h7:ilt (h (toN (Ab (wr .i64 (Ae (ofNat t) (ofNat s))) (ofNat n)))) (h (toN (Ab (wr .i64 (Ae (ofNat i) (ofNat s))) (ofNat n)))) = false) (h8:ieq (ofNat i) (wr .i64 (Ae (ofNat t) (wr .i64 (Ae (ofNat s) 1)))) = false):Aj (Et L) (I3 n h) (Ir n h i t s j) = some (.nm,⟨(jsV 67 0 (λ_=>.und) [(0,(.sl 1 n (λk=>iV (h k)))),(3,(nV n)),(4,(nV i)),(5,(iV (wr .i64 (Ae (ofNat t) (wr .i64 (Ae (ofNat s) 1)))))),(6,(iV 0))]),[]⟩):=Aa (bbK 16 5120) ((λc0 c1 c2=>[c0,c0,c0,c0,c1,c1,c1,c1,ile (ofNat n) (ofNat s),c2,Af (ile 0 (Ab (wr .i64 (Ae (ofNat i) (ofNat s))) (ofNat n))) (ilt (Ab (wr .i64 (Ae (ofNat i) (ofNat s))) (ofNat n)) (ofNat n)),c2,Af (ile 0 (Ab (wr .i64 (Ae (ofNat t) (ofNat s))) (ofNat n))) (ilt (Ab (wr .i64 (Ae (ofNat t) (ofNat s))) (ofNat n)) (ofNat n)),ieq (h (toN (Ab (wr .i64 (Ae (ofNat i) (ofNat s))) (ofNat n)))) (h (toN (Ab (wr .i64 (Ae (ofNat t) (ofNat s))) (ofNat n)))),ilt (h (toN (Ab (wr .i64 (Ae (ofNat t) (ofNat s))) (ofNat n)))) (h (toN (Ab (wr .i64 (Ae (ofNat i) (ofNat s))) (ofNat n)))),ieq (ofNat i) (wr .i64 (Ae (ofNat t) (wr .i64 (Ae (ofNat s) 1))))]) (ile (ofNat n) (ofNat i)) (ile (ofNat n) (ofNat t)) (ieq (ofNat n) 0)) (by kernel_rfl) (by simp only [h4,h5] <;> simp only [*] <;> rfl)
theorem Aba (h0:ile (ofNat n) (ofNat i) = false) (h1:ile (ofNat n) (ofNat t) = false) (h2:ile (ofNat n) (ofNat s) = false) (h3:ieq (ofNat n) 0 = false) (h4:Af (ile 0 (Ab (wr .i64 (Ae (ofNat i) (ofNat s))) (ofNat n))) (ilt (Ab (wr .i64 (Ae (ofNat i) (ofNat s))) (ofNat n)) (ofNat n)) = true) (h5:Af (ile 0 (Ab (wr .i64 (Ae (ofNat t) (ofNat s))) (ofNat n))) (ilt (Ab (wr .i64 (Ae (ofNat t) (ofNat s))) (ofNat n)) (ofNat n)) = true) (h6:ieq (h (toN (Ab (wr .i64 (Ae (ofNat i) (ofNat s))) (ofNat n)))) (h (toN (Ab (wr .i64 (Ae (ofNat t) (ofNat s))) (ofNat n)))) = false) (h7:ilt (h (toN (Ab (wr .i64 (Ae (ofNat t) (ofNat s))) (ofNat n)))) (h (toN (Ab (wr .i64 (Ae (ofNat i) (ofNat s))) (ofNat n)))) = false) (h8:ieq (ofNat i) (wr .i64 (Ae (ofNat t) (wr .i64 (Ae (ofNat s) 1)))) = true):Aj (Et L) (I3 n h) (Ir n h i t s j) = some (.nm,⟨(jsV 67 0 (λ_=>.und) [(0,(.sl 1 n (λk=>iV (h k)))),(3,(nV n)),(4,(nV i)),(5,(iV (wr .i64 (Ae (wr .i64 (Ae (ofNat t) (wr .i64 (Ae (ofNat s) 1)))) 1)))),(6,(iV 0))]),[]⟩):=Aa (bbK 16 37888) ((λc0 c1 c2=>[c0,c0,c0,c0,c1,c1,c1,c1,ile (ofNat n) (ofNat s),c2,Af (ile 0 (Ab (wr .i64 (Ae (ofNat i) (ofNat s))) (ofNat n))) (ilt (Ab (wr .i64 (Ae (ofNat i) (ofNat s))) (ofNat n)) (ofNat n)),c2,Af (ile 0 (Ab (wr .i64 (Ae (ofNat t) (ofNat s))) (ofNat n))) (ilt (Ab (wr .i64 (Ae (ofNat t) (ofNat s))) (ofNat n)) (ofNat n)),ieq (h (toN (Ab (wr .i64 (Ae (ofNat i) (ofNat s))) (ofNat n)))) (h (toN (Ab (wr .i64 (Ae (ofNat t) (ofNat s))) (ofNat n)))),ilt (h (toN (Ab (wr .i64 (Ae (ofNat t) (ofNat s))) (ofNat n)))) (h (toN (Ab (wr .i64 (Ae (ofNat i) (ofNat s))) (ofNat n)))),ieq (ofNat i) (wr .i64 (Ae (ofNat t) (wr .i64 (Ae (ofNat s) 1))))]) (ile (ofNat n) (ofNat i)) (ile (ofNat n) (ofNat t)) (ieq (ofNat n) 0)) (by kernel_rfl) (by simp only [h4,h5] <;> simp only [*] <;> rfl)
end
def Zp (n:Nat) (h:Nat->Int) :Nat->V:=lkV A9 [(2,(iV 0)),(9,(.sl 1 n (λk=>iV (h k)))),(10,(nV n))]
theorem Ahk (L:LT) (p0:PT) (n:Nat) (h:Nat->Int) (r:Nat)  (hp0:p0 (Et (onP 0 p0 (QV r) L)) (Ir n h 0 1 0 (Zp n h )) = true):(A2 (An tab ⟨Aq tb0,onP 0 p0 (QV r) L,Gl⟩ (SS 0 900 Try.f90) [.sl 1 n (λk=>iV (h k))] [])).sem = some ((nV r),[]):=Aa [true] [p0 (Et (onP 0 p0 (QV r) L)) (Ir n h 0 1 0 (Zp n h ))] (by kernel_rfl) (by simp only [hp0] <;> rfl)
def E5 (n:Nat) (h:Nat->Int):Nat->Nat->Nat->Nat->Nat
 | 0,_,_,_=>0
 | q+1,i,t,s =>
  if n <= i ∨ n <= t ∨ n <= s then min (min i t) (n - 1)
  else if h ((i+s) % n) = h ((t+s) % n) then E5 n h q i t (s+1)
  else if h ((t+s) % n) < h ((i+s) % n) then E5 n h q (i+s+1) (if i+s+1 = t then t+1 else t) 0
  else E5 n h q i (if i = t+s+1 then t+s+2 else t+s+1) 0
def BZ (n:Nat) (h:Nat->Int):Nat:=E5 n h (3 * n+4) 0 1 0
theorem DI {a b:Nat} (h:a+b <= 9223372036854775807):wr .i64 (Ae (ofNat a) (ofNat b)) = ofNat (a+b):=by
 unfold wr Ae IntKind.wrap
 simp [IntKind.bits,IntKind.signed]
 omega
theorem MX {a:Nat} (h:a+1 <= 9223372036854775807):wr .i64 (Ae (ofNat a) 1) = ofNat (a+1):=DI (b:=1) h
theorem C9 (a n:Nat):Ab (ofNat a) (ofNat n) = ofNat (a % n):=rfl
theorem D1 (a b:Nat):ieq (ofNat a) (ofNat b) = decide (a = b):=by
 simp only [ieq,Int.ofNat_eq_natCast]
 by_cases h:a = b
 ·simp [h]
 ·rw [decide_eq_false h]
  simp
  omega
theorem ile_nat (a b:Nat):ile (ofNat a) (ofNat b) = decide (a <= b):=by
 simp [ile]
theorem CN (a b:Nat):ilt (ofNat a) (ofNat b) = decide (a < b):=by
 simp [ilt]
theorem Agg (n i t:Nat) (hn:n <= 1152921504606846976):sel (ilt (sel (ilt (wr .i64 (Au (ofNat n) 1)) 0) 0 (wr .i64 (Au (ofNat n) 1))) (sel (ilt (ofNat t) (ofNat i)) (ofNat t) (ofNat i))) (sel (ilt (wr .i64 (Au (ofNat n) 1)) 0) 0 (wr .i64 (Au (ofNat n) 1))) (sel (ilt (ofNat t) (ofNat i)) (ofNat t) (ofNat i)) = ofNat (min (min i t) (n - 1)):=by
 have h1:wr .i64 (Au (ofNat n) 1) = (n:Int) - 1:=by
  unfold wr Au IntKind.wrap
  simp [IntKind.bits,IntKind.signed]
  omega
 rw [h1]
 simp only [sel,ilt,Bool.cond_decide,Int.ofNat_eq_natCast]
 omega
theorem Lo (L:LT) (n:Nat) (h:Nat->Int) (hn:n <= 1152921504606846976):∀ (q i t s:Nat) (j:Nat->V),i <= 2 * n->t <= 2 * n+1->s <= n->3 * n+1 - (i+t+s) < q ->
  (A8 (Et L) (I3 n h) q (Ir n h i t s j)).sem = some (QV (E5 n h q i t s))
 | 0,_,_,_,_,_,_,_,h4=>absurd h4 (Nat.not_lt_zero _)
 | q+1,i,t,s,j,hi,ht,hs,h4=>by
  by_cases ci:n <= i
  ·rw [Ad (AeN L n h i t s j (by rw [ile_nat,decide_eq_true ci])),EM,Agg n i t hn,E5,if_pos (.inl ci)]
   rfl
  ·have ci0:ile (ofNat n) (ofNat i) = false:=by rw [ile_nat,decide_eq_false ci]
   by_cases ct:n <= t
   ·rw [Ad (AeM L n h i t s j ci0 (by rw [ile_nat,decide_eq_true ct])),EM,Agg n i t hn,E5,if_pos (.inr (.inl ct))]
    rfl
   ·have ct0:ile (ofNat n) (ofNat t) = false:=by rw [ile_nat,decide_eq_false ct]
    by_cases cs:n <= s
    ·rw [Ad (AeK L n h i t s j ci0 ct0 (by rw [ile_nat,decide_eq_true cs])),EM,Agg n i t hn,E5,if_pos (.inr (.inr cs))]
     rfl
    ·have cs0:ile (ofNat n) (ofNat s) = false:=by rw [ile_nat,decide_eq_false cs]
     have cn0:ieq (ofNat n) 0 = false:=by
      rw [show (0:Int) = ofNat 0 from rfl,D1,decide_eq_false (by omega)]
     have e1:Ab (wr .i64 (Ae (ofNat i) (ofNat s))) (ofNat n) = ofNat ((i+s) % n):=by rw [DI (by omega),C9]
     have e2:Ab (wr .i64 (Ae (ofNat t) (ofNat s))) (ofNat n) = ofNat ((t+s) % n):=by rw [DI (by omega),C9]
     have b1:Af (ile 0 (Ab (wr .i64 (Ae (ofNat i) (ofNat s))) (ofNat n))) (ilt (Ab (wr .i64 (Ae (ofNat i) (ofNat s))) (ofNat n)) (ofNat n)) = true:=by
      rw [e1]; exact Ap (Nat.mod_lt _ (by omega))
     have b2:Af (ile 0 (Ab (wr .i64 (Ae (ofNat t) (ofNat s))) (ofNat n))) (ilt (Ab (wr .i64 (Ae (ofNat t) (ofNat s))) (ofNat n)) (ofNat n)) = true:=by
      rw [e2]; exact Ap (Nat.mod_lt _ (by omega))
     have t1:∀ a:Nat,toN (ofNat a) = a:=λ_=>rfl
     have u1:wr .i64 (Ae (ofNat i) (wr .i64 (Ae (ofNat s) 1))) = ofNat (i+s+1):=by rw [MX (by omega),DI (by omega)]; rfl
     have u2:wr .i64 (Ae (ofNat t) (wr .i64 (Ae (ofNat s) 1))) = ofNat (t+s+1):=by rw [MX (by omega),DI (by omega)]; rfl
     rw [E5,if_neg (by omega)]
     by_cases ce:h ((i+s) % n) = h ((t+s) % n)
     ·rw [if_pos ce,Ad (AeP L n h i t s j ci0 ct0 cs0 cn0 b1 b2 (by rw [e1,e2,t1,t1]; simp [ieq,ce])),Aw,MX (by omega)]
      exact Lo L n h hn q i t (s+1) (λ_=>.und) hi ht (by omega) (by omega)
     ·have ce0:ieq (h (toN (Ab (wr .i64 (Ae (ofNat i) (ofNat s))) (ofNat n)))) (h (toN (Ab (wr .i64 (Ae (ofNat t) (ofNat s))) (ofNat n)))) = false:=by
       rw [e1,e2,t1,t1]; simp [ieq,ce]
      rw [if_neg ce]
      by_cases cg:h ((t+s) % n) < h ((i+s) % n)
      ·have cg0:ilt (h (toN (Ab (wr .i64 (Ae (ofNat t) (ofNat s))) (ofNat n)))) (h (toN (Ab (wr .i64 (Ae (ofNat i) (ofNat s))) (ofNat n)))) = true:=by
        rw [e1,e2,t1,t1]; simp [ilt,cg]
       rw [if_pos cg]
       by_cases cq:i+s+1 = t
       ·rw [if_pos cq,Ad (Abb L n h i t s j ci0 ct0 cs0 cn0 b1 b2 ce0 cg0 (by rw [u1,D1,decide_eq_true cq])),Aw,u1,MX (by omega)]
        exact Lo L n h hn q (i+s+1) (t+1) 0 (λ_=>.und) (by omega) (by omega) (by omega) (by omega)
       ·rw [if_neg cq,Ad (AeO L n h i t s j ci0 ct0 cs0 cn0 b1 b2 ce0 cg0 (by rw [u1,D1,decide_eq_false cq])),Aw,u1]
        exact Lo L n h hn q (i+s+1) t 0 (λ_=>.und) (by omega) (by omega) (by omega) (by omega)
      ·have cg0:ilt (h (toN (Ab (wr .i64 (Ae (ofNat t) (ofNat s))) (ofNat n)))) (h (toN (Ab (wr .i64 (Ae (ofNat i) (ofNat s))) (ofNat n)))) = false:=by
        rw [e1,e2,t1,t1]; simp [ilt]; omega
       rw [if_neg cg]
       by_cases cq:i = t+s+1
       ·rw [if_pos cq,Ad (Aba L n h i t s j ci0 ct0 cs0 cn0 b1 b2 ce0 cg0 (by rw [u2,D1,decide_eq_true cq])),Aw,u2,MX (by omega)]
        exact Lo L n h hn q i (t+s+2) 0 (λ_=>.und) (by omega) (by omega) (by omega) (by omega)
       ·rw [if_neg cq,Ad (AeL L n h i t s j ci0 ct0 cs0 cn0 b1 b2 ce0 cg0 (by rw [u2,D1,decide_eq_false cq])),Aw,u2]
        exact Lo L n h hn q i (t+s+1) 0 (λ_=>.und) (by omega) (by omega) (by omega) (by omega)
def Z2 (n:Nat):Bool:=decide (n <= 1152921504606846976)
def Zi:List V->T (V × List Blk):=Acp λn h=>.br (Z2 n) (out (iV (ofNat (BZ n h)))) .fail
theorem Ako:AA Try.prog Gl 90 Zi:=by
 refine Si (p:=match Try.f90.body with | some (.seq p _)=>p | _=>.skip) (c:=match Try.f90.body with | some (.seq _ (.scope c))=>c | _=>.skip) (d:=match (match Try.f90.body with | some (.seq _ (.scope c))=>F6 0 c | _=>none) with | some d=>d | none=>.skip) AQ AR Try.func90 0 900 (by kernel_rfl) (by kernel_rfl) (by kernel_rfl) (by kernel_rfl) λvs v h' h=>?_
 obtain ⟨n,f,ha,h1⟩:=PV h
 obtain ⟨hn,hq⟩:=Ag h1
 have:=Ac hq
 simp only [Prod.mk.injEq] at this
 obtain ⟨rfl,rfl⟩:=this
 have hn:n <= 1152921504606846976:=by simpa [Z2] using hn
 have hx:=AS Ee [(0,I3 n f)]
 exact ⟨_,AT Gl tb0 [(0,I3 n f)],_,ha,rfl,hx.1,hx.2,A6 (Az (AL _) (AL _)) _ (Ahk _ _ n f _ (Am (Lo _ n f hn (3 * n+4) 0 1 0 (Zp n f) (by omega) (by omega) (by omega) (by omega)))),AE.refl _⟩
end Go.Proofs.Ytjhnfomefcngfaa.Ed
namespace Go.Proofs.Ytjhnfomefcngfaa.Ed
open Go.Sy
open Int (ofNat)
theorem Od (n m:Nat) (gx g:Nat->V) (i:Nat) (h:i < n+m):CO n m gx g i = bif Nat.blt i n then gx i else g (i - n):=by
 cases hb:Nat.blt i n with
 | true=>exact Ob n m gx g i (Nat.blt_eq ▸ hb)
 | false =>
  have h1:n <= i:=by
   rcases Nat.lt_or_ge i n with h2 | h2
   ·rw [show Nat.blt i n = true from Nat.blt_eq ▸ h2] at hb; cases hb
   ·exact h2
  have:=Oc n m gx g (i - n) (by omega)
  rw [show n+(i - n) = i by omega] at this
  exact this
theorem TA {α:Type} (n k:Nat) (z:Nat->V) (h:Nat->α) (e:α->V) (hk:k < n ∨ n = 0 ∧ k = 0):Bp (Bp 0 (H8 n k)) k = n ∧ ∀ j,j < n ->
  CO (Bp 0 (H8 n k)) k (CO 0 (H8 n k) z (λi=>e (h (Bp k i)))) (λi=>e (h i)) j = e (h ((k+j) % n)):=by
 have h1:Bp 0 (H8 n k) = n - k:=by simp [Bp,H8]
 have h2:H8 n k = n - k:=rfl
 refine ⟨by rw [h1]; show n - k+k = n; omega,λj hj=>?_⟩
 rw [h1,h2,Od _ _ _ _ j (by omega)]
 cases hb:Nat.blt j (n - k) with
 | true =>
  have hb:j < n - k:=Nat.blt_eq ▸ hb
  show CO 0 (n - k) z (λi=>e (h (Bp k i))) j = _
  rw [Od _ _ _ _ j (by omega)]
  show e (h (k+(j - 0))) = _
  rw [Nat.mod_eq_of_lt (by omega),Nat.sub_zero]
 | false =>
  have hb:n - k <= j:=by
   rcases Nat.lt_or_ge j (n - k) with h3 | h3
   ·rw [show Nat.blt j (n - k) = true from Nat.blt_eq ▸ h3] at hb; cases hb
   ·exact h3
  show e (h (j - (n - k))) = _
  rw [show k+j = j - (n - k)+n by omega,Nat.add_mod_right,Nat.mod_eq_of_lt (by omega)]
def CV (n:Nat):Bool:=decide (n * 8 <= 140737488355328)
theorem CQ {n:Nat} (h:CV n = true):n <= 4611686018427387904:=by
 have h:n * 8 <= 140737488355328:=of_decide_eq_true h
 omega
theorem Z3 {n:Nat} (h:CV n = true):Ai n = true:=decide_eq_true (CQ h)
theorem Ags {n:Nat} (h:CV n = true):Z2 n = true:=by
 have h:n * 8 <= 140737488355328:=of_decide_eq_true h
 exact decide_eq_true (by omega)
theorem Fl {n:Nat} (h:AN n = true):CV n = true:=by
 have h:n * 40 <= 140737488355328:=of_decide_eq_true h
 exact decide_eq_true (by omega)
theorem L2 (n:Nat) (h:Nat->Int):∀ q i t s,E5 n h q i t s <= n - 1
 | 0,_,_,_=>Nat.zero_le _
 | q+1,i,t,s=>by
  unfold E5
  split
  ·omega
  ·split
   ·exact L2 n h q _ _ _
   ·split <;> exact L2 n h q _ _ _
theorem WU (n:Nat) (h:Nat->Int):BZ n h <= n - 1:=L2 n h _ _ _ _
theorem Jp (n:Nat) (h:Nat->Int):BZ n h < n ∨ n = 0 ∧ BZ n h = 0:=by
 have:=WU n h
 omega
def NT (n:Nat) (f:Nat->E6):Lp:=⟨(bmK 28 0 [0,2,3,4,9,10,11]),2,bmK 28 0 [2,3,4],4,n+1⟩
def Nq (n:Nat) (f:Nat->E6) (i k:Nat) (x:Nat->V) (j:Nat->V):St:=⟨(jsV 28 0 j [(0,.sl 6 n λi=>eV (f i)),(2,.ref 0),(3,iV 0),(4,.ref 1),(9,.sl 6 n λi=>eV (f i)),(10,nV n),(11,nV i)]),[.row 3 1 0 λ_=>.und,.row 3 1 k x]⟩
def Rs (n:Nat) (f:Nat->E6) (i k:Nat) (x:Nat->V):Ex × St:=(.ex 0,⟨(jsV 28 0 (λ_=>.und) [(2,.ref 0),(3,iV 0),(4,.ref 1)]),[.row 3 1 0 λ_=>.und,.row 3 1 k x]⟩)
def Rr (n:Nat) (f:Nat->E6) (i k:Nat) (x:Nat->V):Ex × St:=(.rt,⟨(jsV 28 0 (λ_=>.und) [(2,.ref 3),(3,iV 30),(4,.ref 1)]),[.row 3 1 0 λ_=>.und,.row 3 1 k x,.cells [iV ((f i)).kind,bV ((f i)).ext,bV ((f i)).same,iV ((f i)).src,iV ((f i)).dst,iV ((f i)).fence],.row 3 1 0 λ_=>.und]⟩)
noncomputable def HV (L:LT):St->T (Ex × St):=λst=>AG tab ⟨Aq tb8,L,Gl⟩ (A1 Try.f89 0) 0 st
theorem Kn (L:LT) (n:Nat) (f:Nat->E6) (i k:Nat) (x:Nat->V) (j:Nat->V):Aj (HV L) (NT n f) (Nq n f i k x j)
 = (sel (ilt (ofNat i) (ofNat n)) (sel (Af (ile 0 (ofNat i)) (ilt (ofNat i) (ofNat n))) (sel (Ah (ieq (AM (f i)) 0)) (some (.rt,⟨[.und,.und,(.ref 3),(iV 30),(.ref 1),.und,.und,.und,.und,.und,.und,.und,.und,.und,.und,.und,.und,.und,.und,.und,.und,.und,.und,.und,.und,.und,.und,.und],[r3Z,(.row 3 1 k x),(.cells [(iV ((f i)).kind),(bV ((f i)).ext),(bV ((f i)).same),(iV ((f i)).src),(iV ((f i)).dst),(iV ((f i)).fence)]),r3Z]⟩)) (sel (Bh k 1 8) (some (.nm,⟨[(.sl 6 n (λi=>(eV (f i)))),.und,(.ref 0),(iV 0),(.ref 1),.und,.und,.und,.und,(.sl 6 n (λi=>(eV (f i)))),(nV n),(iV (wr .i64 (Ae (ofNat i) 1))),.und,.und,.und,.und,.und,.und,.und,.und,.und,.und,.und,.und,.und,.und,.und,.und],[r3Z,(.row 3 1 (Bp k 1) (AB k x (iV (Bx (f i)))))]⟩)) none)) none) (some ((.ex 0),⟨[.und,.und,(.ref 0),(iV 0),(.ref 1),.und,.und,.und,.und,.und,.und,.und,.und,.und,.und,.und,.und,.und,.und,.und,.und,.und,.und,.und,.und,.und,.und,.und],[r3Z,(.row 3 1 k x)]⟩))):=by kernel_rfl
def PC (n:Nat) (f:Nat->E6) :Nat->V:=lkV A9 []
section
variable (L:LT) (p0:PT) (n:Nat) (f:Nat->E6) (i k:Nat) (x:Nat->V)
include L p0 n f i k x
theorem AdU  (hp0:p0 (HV (onP 0 p0 (Rs n f i k x) L)) (Nq n f 0 0 (λ_=>.und) (PC n f )) = true):(A2 (An tab ⟨Aq tb8,onP 0 p0 (Rs n f i k x) L,Gl⟩ Try.f89 [A3 n f] [])).sem = some ((.tup [.ref 0,iV 0]),[.row 3 1 k x]):=Aa [true] [p0 (HV (onP 0 p0 (Rs n f i k x) L)) (Nq n f 0 0 (λ_=>.und) (PC n f ))] (by kernel_rfl) (by simp only [hp0] <;> rfl)
theorem AdT  (hp0:p0 (HV (onP 0 p0 (Rr n f i k x) L)) (Nq n f 0 0 (λ_=>.und) (PC n f )) = true):(A2 (An tab ⟨Aq tb8,onP 0 p0 (Rr n f i k x) L,Gl⟩ Try.f89 [A3 n f] [])).sem = some ((.tup [.ref 0,iV 30]),[r3Z]):=Aa [true] [p0 (HV (onP 0 p0 (Rr n f i k x) L)) (Nq n f 0 0 (λ_=>.und) (PC n f ))] (by kernel_rfl) (by simp only [hp0] <;> rfl)
end
theorem Vs (L:LT) (n:Nat) (f:Nat->E6) (hn:AN n = true) (ho:∀ t,t < n->AM (f t) = 0):∀ (d i:Nat) (j:Nat->V) (q:Nat),n = i+d->d < q ->
  (A8 (HV L) (NT n f) q (Nq n f i i (BQ (cdV f) i) j)).sem = some (Rs n f 0 n (BQ (cdV f) n))
 | 0,i,j,q+1,h1,_=>by
  have hi:i = n:=by omega
  subst hi
  rw [Ad (Kn L i f i i _ j),AF (Nat.le_refl i)]
  rfl
 | d+1,i,j,q+1,h1,h2=>by
  have hi:i < n:=by omega
  rw [Ad (Kn L n f i i _ j),Ap hi,ofNat_lt hi,R3 hi (by decide) (of_decide_eq_true hn),Ao hi (Jv hn),ho i hi]
  exact Vs L n f hn ho d (i+1) (λ_=>.und) q (by omega) (by omega)
theorem Vr (L:LT) (n:Nat) (f:Nat->E6) (hn:AN n = true) (e:Nat) (he:e < n) (hb:AM (f e) = 30) (ho:∀ t,t < e->AM (f t) = 0):∀ (d i:Nat) (j:Nat->V) (q:Nat),e = i+d->d < q ->
  (A8 (HV L) (NT n f) q (Nq n f i i (BQ (cdV f) i) j)).sem = some (Rr n f e e (BQ (cdV f) e))
 | 0,i,j,q+1,h1,_=>by
  have hi:i = e:=by omega
  subst hi
  rw [Ad (Kn L n f i i _ j),Ap he,ofNat_lt he,hb]
  rfl
 | d+1,i,j,q+1,h1,h2=>by
  have hi:i < n:=by omega
  rw [Ad (Kn L n f i i _ j),Ap hi,ofNat_lt hi,R3 hi (by decide) (of_decide_eq_true hn),Ao hi (Jv hn),ho i (by omega)]
  exact Vr L n f hn e he hb ho d (i+1) (λ_=>.und) q (by omega) (by omega)
theorem Akp:AA Try.prog Gl 89 ZT:=by
 refine A5 AQ AR Try.func89 (by kernel_rfl) (by kernel_rfl) λvs v h' h=>?_
 obtain ⟨n,f,ha,h⟩:=CY h
 obtain ⟨hn,h⟩:=Ag h
 have hx:=AS TG [(0,NT n f)]
 cases hm:BN n f with
 | true =>
  rw [hm] at h
  have:=Ac h
  simp only [Prod.mk.injEq] at this
  obtain ⟨rfl,rfl⟩:=this
  exact ⟨_,cx9 [(0,NT n f)],_,ha,rfl,hx.1,hx.2,A6 (Az (AL _) (AL _)) _ (AdU _ _ n f 0 n _ (Am (Vs _ n f hn (DA.1 hm) n 0 (PC n f) (n+1) (by omega) (by omega)))),
   AE.one λj hj=>(I0 (cdV f) n j hj).symm⟩
 | false =>
  rw [hm] at h
  have:=Ac h
  simp only [Prod.mk.injEq] at this
  obtain ⟨rfl,rfl⟩:=this
  obtain ⟨e,h1,h2,h3⟩:=YS hm
  have hw:=A6 (Az (AL _) (AL _)) _ (AdT (AZ [(0,NT n f)]) _ n f e e _ (Am (Vr _ n f hn e h1 h2 h3 e 0 (PC n f) (n+1) (by omega) (by omega))))
  exact ⟨_,cx9 [(0,NT n f)],_,ha,rfl,hx.1,hx.2,hw,AE.refl _⟩
theorem Cc {n m b:Nat} (h:(n+m) * b <= 140737488355328):Bh n m b = true:=decide_eq_true h
noncomputable def XM:List (Nat × (List V->T (V × List Blk))):=(89,ZT) :: (90,Zi) :: []
theorem AaH:AC Try.prog Gl XM:=.cons Akp <| .cons Ako .nil
def AcA (n:Nat) (f:Nat->E6) (k:Nat):Blk:=.row 44 6 (Bp (Bp 0 (H8 n k)) k) (CO (Bp 0 (H8 n k)) k (CO 0 (H8 n k) (λ_=>eV Ga) (λi=>eV (f (Bp k i)))) (λi=>eV (f i)))
section
variable (L:LT) (n:Nat) (f:Nat->E6)
include L n f
theorem Ahe (h0:AN n = true) (h1:BN n f = false):(A2 (An tab ⟨Aq XM,L,Gl⟩ Try.f51 [A3 n f] [])).sem = some ((.tup [.ref 0,iV 30]),[.row 44 6 0 (λ_=>.und)]):=Aa [true,true,false,true] [Ay n (λ_=>true),AN n,BN n f,Ah (ieq 30 0)] (by kernel_rfl) (by simp only [h0,h1,Ax] <;> rfl)
theorem Ahd (h0:AN n = true) (h1:BN n f = true) (h2:Z2 n = true) (h3:BK 40 0 (ofNat n) = true) (h13:Af (ile 0 (ofNat (BZ n (λi=>Bx (f i))))) (ile (ofNat (BZ n (λi=>Bx (f i)))) (ofNat n)) = true) (h14:Bh 0 (H8 n (BZ n (λi=>Bx (f i)))) 40 = true) (h15:Bh (Bp 0 (H8 n (BZ n (λi=>Bx (f i))))) (BZ n (λi=>Bx (f i))) 40 = true):(A2 (An tab ⟨Aq XM,L,Gl⟩ Try.f51 [A3 n f] [])).sem = some ((.tup [.ref 0,iV 0]),[AcA n f (BZ n (λi=>Bx (f i)))]):=Aa (bbK 11 2039) ((λc0 c1=>[c0,AN n,BN n f,Ah (ieq 0 0),c0,Z2 n,BK 40 0 (ofNat n),c1,Bh 0 (H8 n (BZ n (λi=>Bx (f i)))) 40,c1,Bh (Bp 0 (H8 n (BZ n (λi=>Bx (f i))))) (BZ n (λi=>Bx (f i))) 40]) (Ay n (λ_=>true)) (Af (ile 0 (ofNat (BZ n (λi=>Bx (f i))))) (ile (ofNat (BZ n (λi=>Bx (f i)))) (ofNat n)))) (by kernel_rfl) (by simp only [h13] <;> simp only [*,Ax] <;> rfl)
end
def Bl (n:Nat) (f:Nat->E6) (i:Nat):E6:=f ((BZ n (λi=>Bx (f i))+i) % n)
def O7:List V->T (V × List Blk):=Hp λn f=>.br (AN n) (.br (BN n f) (.leaf (.tup [.ref 0,iV 0],[.row 44 6 n λi=>eV (Bl n f i)])) (.leaf (.tup [.ref 0,iV 30],[.row 44 6 0 λ_=>.und]))) .fail
theorem p65:AA Try.prog Gl 51 O7:=by
 refine A5 AQ AR Try.func51 (by kernel_rfl) (by kernel_rfl) λvs v h' h=>?_
 obtain ⟨n,f,ha,h⟩:=CY h
 obtain ⟨hn,h⟩:=Ag h
 have hx:=AS AaH []
 cases hm:BN n f with
 | true =>
  rw [hm] at h
  have:=Ac h
  simp only [Prod.mk.injEq] at this
  obtain ⟨rfl,rfl⟩:=this
  have hn':n * 40 <= 140737488355328:=of_decide_eq_true hn
  have hk:=Jp n (λi=>Bx (f i))
  have e3:∀ k,Bp 0 (H8 n k) = n - k:=λk=>by simp [Bp,H8]
  have hw:=Ahd (AZ []) n f hn hm (Ags (Fl hn)) (by
    simp only [BK,Bool.and_eq_true,decide_eq_true_eq,Int.ofNat_eq_natCast]; omega) (by
    rw [ile_nat,show (0:Int) = ofNat 0 from rfl,ile_nat]; simp [Af]; omega) (by
    exact Cc (by show (0+(n - BZ n (λi=>Bx (f i)))) * 40 <= _; omega)) (by
    rw [e3]; exact Cc (by omega))
  obtain ⟨r1,r2⟩:=TA n (BZ n (λi=>Bx (f i))) (λ_=>eV Ga) f eV hk
  unfold AcA at hw
  rw [r1] at hw
  exact ⟨_,AT Gl XM [],_,ha,rfl,hx.1,hx.2,hw,AE.one λj hj=>(r2 j hj).symm⟩
 | false =>
  rw [hm] at h
  have:=Ac h
  simp only [Prod.mk.injEq] at this
  obtain ⟨rfl,rfl⟩:=this
  exact ⟨_,AT Gl XM [],_,ha,rfl,hx.1,hx.2,Ahe _ n f hn hm,AE.refl _⟩
theorem Wm {a b:E6} (ha:AM a = 0) (hb:AM b = 0) (h:Bx a = Bx b):a = b:=by
 rcases EW a with ⟨k,_,_,h1,h2,_⟩ | ⟨h1,_⟩
 ·rcases EW b with ⟨l,_,_,h3,h4,_⟩ | ⟨h3,_⟩
  ·rw [h1,h3] at h
   have:=Int.ofNat.inj h
   rw [<- h2,<- h4,this]
  ·rw [hb] at h3; cases h3
 ·rw [ha] at h1; cases h1
theorem Ts {n:Nat} {f:Nat->E6} (h:BN n f = true) {i:Nat} (hi:i < n):AM (Bl n f i) = 0:=DA.1 h _ (Nat.mod_lt _ (by omega))
theorem Nu {n:Nat} {f:Nat->E6} {m:Nat} {g:Nat->E6}:Dd n f m g = true ↔ n = m ∧ ∀ i,i < n->f i = g i:=by
 unfold Dd
 rw [D1]
 by_cases h:n = m
 ·rw [decide_eq_true h]
  show JW f g n 0 = true ↔ _
  rw [Ok]
  exact ⟨λh1=>⟨h,λi hi=>h1 i (Nat.zero_le _) (by omega)⟩,λh1 j _ h3=>h1.2 j (by omega)⟩
 ·rw [decide_eq_false h]
  exact ⟨λh=>(by cases h),λh1=>absurd h1.1 h⟩
def Bc (q:Nat->Bool):Nat->Nat->Option Nat
 | 0,_=>none
 | d+1,i=>match q i with
  | true=>some i
  | false=>Bc q d (i+1)
theorem Cb {q:Nat->Bool} {d i:Nat} (h:q i = true):Bc q (d+1) i = some i:=by rw [Bc,h]
theorem B1 {q:Nat->Bool} {d i:Nat} (h:q i = false):Bc q (d+1) i = Bc q d (i+1):=by rw [Bc,h]
theorem CZ {a b:Int} (h:ieq a b = true):a = b:=by simpa [ieq] using h
end Go.Proofs.Ytjhnfomefcngfaa.Ed
