/-
  Least: where the least turned list begins, as the program walks. No conditions.
-/
import Derived.Test.YtjhnfomefcngfaaCyI
namespace Go.Proofs.Ytjhnfomefcngfaa.Ed
open Go.Sy
open Int (ofNat)
def Q2 (r:Nat):Ex × St:=(.rt,⟨(jsV 67 0 (fun _=>.und) [(2,nV r)]),[]⟩)
def Im (n:Nat) (h:Nat->Int):Lp:=⟨(bmK 67 0 [0,3,4,5,6]),1,bmK 67 0 [2],1,3 * n+4⟩
def HZ (n:Nat) (h:Nat->Int) (i t s:Nat) (j:Nat->V):St:=⟨(jsV 67 0 j [(0,.sl 1 n (fun k=>iV (h k))),(3,nV n),(4,nV i),(5,nV t),(6,nV s)]),[]⟩
noncomputable def Ek (L:LT):St->T (Ex × St):=fun st=>AE tab ⟨Ao tb0,L,Gl⟩ (Az (Sr 0 900 Try.f90) 0) 0 st
section
variable (L:LT) (n:Nat) (h:Nat->Int) (i t s:Nat)  (j:Nat->V)
include L n h i t s j
theorem Aej (h0:ile (ofNat n) (ofNat i) = true):Al (Ek L) (Im n h) (HZ n h i t s j) = some (.rt,⟨(jsV 67 0 (fun _=>.und) [(2,(iV (sel (ilt (sel (ilt (wr .i64 (AF (ofNat n) 1)) 0) 0 (wr .i64 (AF (ofNat n) 1))) (sel (ilt (ofNat t) (ofNat i)) (ofNat t) (ofNat i))) (sel (ilt (wr .i64 (AF (ofNat n) 1)) 0) 0 (wr .i64 (AF (ofNat n) 1))) (sel (ilt (ofNat t) (ofNat i)) (ofNat t) (ofNat i)))))]),[]⟩):=Aa (bbK 9 511) ((fun c0 c1=>[c0,c0,c0,c0,c1,c1,c1,c1,c1]) (ile (ofNat n) (ofNat i)) (true)) (by kernel_rfl) (by simp only [h0] <;> rfl)
theorem Aei (h0:ile (ofNat n) (ofNat i) = false) (h1:ile (ofNat n) (ofNat t) = true):Al (Ek L) (Im n h) (HZ n h i t s j) = some (.rt,⟨(jsV 67 0 (fun _=>.und) [(2,(iV (sel (ilt (sel (ilt (wr .i64 (AF (ofNat n) 1)) 0) 0 (wr .i64 (AF (ofNat n) 1))) (sel (ilt (ofNat t) (ofNat i)) (ofNat t) (ofNat i))) (sel (ilt (wr .i64 (AF (ofNat n) 1)) 0) 0 (wr .i64 (AF (ofNat n) 1))) (sel (ilt (ofNat t) (ofNat i)) (ofNat t) (ofNat i)))))]),[]⟩):=Aa (bbK 9 496) ((fun c0 c1=>[c0,c0,c0,c0,c1,c1,c1,c1,true]) (ile (ofNat n) (ofNat i)) (ile (ofNat n) (ofNat t))) (by kernel_rfl) (by simp only [h0,h1] <;> rfl)
theorem Aeg (h0:ile (ofNat n) (ofNat i) = false) (h1:ile (ofNat n) (ofNat t) = false) (h2:ile (ofNat n) (ofNat s) = true):Al (Ek L) (Im n h) (HZ n h i t s j) = some (.rt,⟨(jsV 67 0 (fun _=>.und) [(2,(iV (sel (ilt (sel (ilt (wr .i64 (AF (ofNat n) 1)) 0) 0 (wr .i64 (AF (ofNat n) 1))) (sel (ilt (ofNat t) (ofNat i)) (ofNat t) (ofNat i))) (sel (ilt (wr .i64 (AF (ofNat n) 1)) 0) 0 (wr .i64 (AF (ofNat n) 1))) (sel (ilt (ofNat t) (ofNat i)) (ofNat t) (ofNat i)))))]),[]⟩):=Aa (bbK 9 256) ((fun c0 c1=>[c0,c0,c0,c0,c1,c1,c1,c1,ile (ofNat n) (ofNat s)]) (ile (ofNat n) (ofNat i)) (ile (ofNat n) (ofNat t))) (by kernel_rfl) (by simp only [*] <;> rfl)
theorem Ael (h0:ile (ofNat n) (ofNat i) = false) (h1:ile (ofNat n) (ofNat t) = false) (h2:ile (ofNat n) (ofNat s) = false) (h3:ieq (ofNat n) 0 = false) (h4:Ag (ile 0 (Ae (wr .i64 (Af (ofNat i) (ofNat s))) (ofNat n))) (ilt (Ae (wr .i64 (Af (ofNat i) (ofNat s))) (ofNat n)) (ofNat n)) = true) (h5:Ag (ile 0 (Ae (wr .i64 (Af (ofNat t) (ofNat s))) (ofNat n))) (ilt (Ae (wr .i64 (Af (ofNat t) (ofNat s))) (ofNat n)) (ofNat n)) = true) (h6:ieq (h (toN (Ae (wr .i64 (Af (ofNat i) (ofNat s))) (ofNat n)))) (h (toN (Ae (wr .i64 (Af (ofNat t) (ofNat s))) (ofNat n)))) = true):Al (Ek L) (Im n h) (HZ n h i t s j) = some (.nm,⟨(jsV 67 0 (fun _=>.und) [(0,(.sl 1 n (fun k=>iV (h k)))),(3,(nV n)),(4,(nV i)),(5,(nV t)),(6,(iV (wr .i64 (Af (ofNat s) 1))))]),[]⟩):=Aa (bbK 14 13312) ((fun c0 c1 c2=>[c0,c0,c0,c0,c1,c1,c1,c1,ile (ofNat n) (ofNat s),c2,Ag (ile 0 (Ae (wr .i64 (Af (ofNat i) (ofNat s))) (ofNat n))) (ilt (Ae (wr .i64 (Af (ofNat i) (ofNat s))) (ofNat n)) (ofNat n)),c2,Ag (ile 0 (Ae (wr .i64 (Af (ofNat t) (ofNat s))) (ofNat n))) (ilt (Ae (wr .i64 (Af (ofNat t) (ofNat s))) (ofNat n)) (ofNat n)),ieq (h (toN (Ae (wr .i64 (Af (ofNat i) (ofNat s))) (ofNat n)))) (h (toN (Ae (wr .i64 (Af (ofNat t) (ofNat s))) (ofNat n))))]) (ile (ofNat n) (ofNat i)) (ile (ofNat n) (ofNat t)) (ieq (ofNat n) 0)) (by kernel_rfl) (by simp only [h4,h5] <;> simp only [*] <;> rfl)
theorem Aek (h0:ile (ofNat n) (ofNat i) = false) (h1:ile (ofNat n) (ofNat t) = false) (h2:ile (ofNat n) (ofNat s) = false) (h3:ieq (ofNat n) 0 = false) (h4:Ag (ile 0 (Ae (wr .i64 (Af (ofNat i) (ofNat s))) (ofNat n))) (ilt (Ae (wr .i64 (Af (ofNat i) (ofNat s))) (ofNat n)) (ofNat n)) = true) (h5:Ag (ile 0 (Ae (wr .i64 (Af (ofNat t) (ofNat s))) (ofNat n))) (ilt (Ae (wr .i64 (Af (ofNat t) (ofNat s))) (ofNat n)) (ofNat n)) = true) (h6:ieq (h (toN (Ae (wr .i64 (Af (ofNat i) (ofNat s))) (ofNat n)))) (h (toN (Ae (wr .i64 (Af (ofNat t) (ofNat s))) (ofNat n)))) = false) (h7:ilt (h (toN (Ae (wr .i64 (Af (ofNat t) (ofNat s))) (ofNat n)))) (h (toN (Ae (wr .i64 (Af (ofNat i) (ofNat s))) (ofNat n)))) = true) (h8:ieq (wr .i64 (Af (ofNat i) (wr .i64 (Af (ofNat s) 1)))) (ofNat t) = false):Al (Ek L) (Im n h) (HZ n h i t s j) = some (.nm,⟨(jsV 67 0 (fun _=>.und) [(0,(.sl 1 n (fun k=>iV (h k)))),(3,(nV n)),(4,(iV (wr .i64 (Af (ofNat i) (wr .i64 (Af (ofNat s) 1)))))),(5,(nV t)),(6,(iV 0))]),[]⟩):=Aa (bbK 16 21504) ((fun c0 c1 c2=>[c0,c0,c0,c0,c1,c1,c1,c1,ile (ofNat n) (ofNat s),c2,Ag (ile 0 (Ae (wr .i64 (Af (ofNat i) (ofNat s))) (ofNat n))) (ilt (Ae (wr .i64 (Af (ofNat i) (ofNat s))) (ofNat n)) (ofNat n)),c2,Ag (ile 0 (Ae (wr .i64 (Af (ofNat t) (ofNat s))) (ofNat n))) (ilt (Ae (wr .i64 (Af (ofNat t) (ofNat s))) (ofNat n)) (ofNat n)),ieq (h (toN (Ae (wr .i64 (Af (ofNat i) (ofNat s))) (ofNat n)))) (h (toN (Ae (wr .i64 (Af (ofNat t) (ofNat s))) (ofNat n)))),ilt (h (toN (Ae (wr .i64 (Af (ofNat t) (ofNat s))) (ofNat n)))) (h (toN (Ae (wr .i64 (Af (ofNat i) (ofNat s))) (ofNat n)))),ieq (wr .i64 (Af (ofNat i) (wr .i64 (Af (ofNat s) 1)))) (ofNat t)]) (ile (ofNat n) (ofNat i)) (ile (ofNat n) (ofNat t)) (ieq (ofNat n) 0)) (by kernel_rfl) (by simp only [h4,h5] <;> simp only [*] <;> rfl)
theorem Aay (h0:ile (ofNat n) (ofNat i) = false) (h1:ile (ofNat n) (ofNat t) = false) (h2:ile (ofNat n) (ofNat s) = false) (h3:ieq (ofNat n) 0 = false) (h4:Ag (ile 0 (Ae (wr .i64 (Af (ofNat i) (ofNat s))) (ofNat n))) (ilt (Ae (wr .i64 (Af (ofNat i) (ofNat s))) (ofNat n)) (ofNat n)) = true) (h5:Ag (ile 0 (Ae (wr .i64 (Af (ofNat t) (ofNat s))) (ofNat n))) (ilt (Ae (wr .i64 (Af (ofNat t) (ofNat s))) (ofNat n)) (ofNat n)) = true) (h6:ieq (h (toN (Ae (wr .i64 (Af (ofNat i) (ofNat s))) (ofNat n)))) (h (toN (Ae (wr .i64 (Af (ofNat t) (ofNat s))) (ofNat n)))) = false) (h7:ilt (h (toN (Ae (wr .i64 (Af (ofNat t) (ofNat s))) (ofNat n)))) (h (toN (Ae (wr .i64 (Af (ofNat i) (ofNat s))) (ofNat n)))) = true) (h8:ieq (wr .i64 (Af (ofNat i) (wr .i64 (Af (ofNat s) 1)))) (ofNat t) = true):Al (Ek L) (Im n h) (HZ n h i t s j) = some (.nm,⟨(jsV 67 0 (fun _=>.und) [(0,(.sl 1 n (fun k=>iV (h k)))),(3,(nV n)),(4,(iV (wr .i64 (Af (ofNat i) (wr .i64 (Af (ofNat s) 1)))))),(5,(iV (wr .i64 (Af (ofNat t) 1)))),(6,(iV 0))]),[]⟩):=Aa (bbK 16 54272) ((fun c0 c1 c2=>[c0,c0,c0,c0,c1,c1,c1,c1,ile (ofNat n) (ofNat s),c2,Ag (ile 0 (Ae (wr .i64 (Af (ofNat i) (ofNat s))) (ofNat n))) (ilt (Ae (wr .i64 (Af (ofNat i) (ofNat s))) (ofNat n)) (ofNat n)),c2,Ag (ile 0 (Ae (wr .i64 (Af (ofNat t) (ofNat s))) (ofNat n))) (ilt (Ae (wr .i64 (Af (ofNat t) (ofNat s))) (ofNat n)) (ofNat n)),ieq (h (toN (Ae (wr .i64 (Af (ofNat i) (ofNat s))) (ofNat n)))) (h (toN (Ae (wr .i64 (Af (ofNat t) (ofNat s))) (ofNat n)))),ilt (h (toN (Ae (wr .i64 (Af (ofNat t) (ofNat s))) (ofNat n)))) (h (toN (Ae (wr .i64 (Af (ofNat i) (ofNat s))) (ofNat n)))),ieq (wr .i64 (Af (ofNat i) (wr .i64 (Af (ofNat s) 1)))) (ofNat t)]) (ile (ofNat n) (ofNat i)) (ile (ofNat n) (ofNat t)) (ieq (ofNat n) 0)) (by kernel_rfl) (by simp only [h4,h5] <;> simp only [*] <;> rfl)
theorem Aeh (h0:ile (ofNat n) (ofNat i) = false) (h1:ile (ofNat n) (ofNat t) = false) (h2:ile (ofNat n) (ofNat s) = false) (h3:ieq (ofNat n) 0 = false) (h4:Ag (ile 0 (Ae (wr .i64 (Af (ofNat i) (ofNat s))) (ofNat n))) (ilt (Ae (wr .i64 (Af (ofNat i) (ofNat s))) (ofNat n)) (ofNat n)) = true) (h5:Ag (ile 0 (Ae (wr .i64 (Af (ofNat t) (ofNat s))) (ofNat n))) (ilt (Ae (wr .i64 (Af (ofNat t) (ofNat s))) (ofNat n)) (ofNat n)) = true) (h6:ieq (h (toN (Ae (wr .i64 (Af (ofNat i) (ofNat s))) (ofNat n)))) (h (toN (Ae (wr .i64 (Af (ofNat t) (ofNat s))) (ofNat n)))) = false) (h7:ilt (h (toN (Ae (wr .i64 (Af (ofNat t) (ofNat s))) (ofNat n)))) (h (toN (Ae (wr .i64 (Af (ofNat i) (ofNat s))) (ofNat n)))) = false) (h8:ieq (ofNat i) (wr .i64 (Af (ofNat t) (wr .i64 (Af (ofNat s) 1)))) = false):Al (Ek L) (Im n h) (HZ n h i t s j) = some (.nm,⟨(jsV 67 0 (fun _=>.und) [(0,(.sl 1 n (fun k=>iV (h k)))),(3,(nV n)),(4,(nV i)),(5,(iV (wr .i64 (Af (ofNat t) (wr .i64 (Af (ofNat s) 1)))))),(6,(iV 0))]),[]⟩):=Aa (bbK 16 5120) ((fun c0 c1 c2=>[c0,c0,c0,c0,c1,c1,c1,c1,ile (ofNat n) (ofNat s),c2,Ag (ile 0 (Ae (wr .i64 (Af (ofNat i) (ofNat s))) (ofNat n))) (ilt (Ae (wr .i64 (Af (ofNat i) (ofNat s))) (ofNat n)) (ofNat n)),c2,Ag (ile 0 (Ae (wr .i64 (Af (ofNat t) (ofNat s))) (ofNat n))) (ilt (Ae (wr .i64 (Af (ofNat t) (ofNat s))) (ofNat n)) (ofNat n)),ieq (h (toN (Ae (wr .i64 (Af (ofNat i) (ofNat s))) (ofNat n)))) (h (toN (Ae (wr .i64 (Af (ofNat t) (ofNat s))) (ofNat n)))),ilt (h (toN (Ae (wr .i64 (Af (ofNat t) (ofNat s))) (ofNat n)))) (h (toN (Ae (wr .i64 (Af (ofNat i) (ofNat s))) (ofNat n)))),ieq (ofNat i) (wr .i64 (Af (ofNat t) (wr .i64 (Af (ofNat s) 1))))]) (ile (ofNat n) (ofNat i)) (ile (ofNat n) (ofNat t)) (ieq (ofNat n) 0)) (by kernel_rfl) (by simp only [h4,h5] <;> simp only [*] <;> rfl)
theorem Aax (h0:ile (ofNat n) (ofNat i) = false) (h1:ile (ofNat n) (ofNat t) = false) (h2:ile (ofNat n) (ofNat s) = false) (h3:ieq (ofNat n) 0 = false) (h4:Ag (ile 0 (Ae (wr .i64 (Af (ofNat i) (ofNat s))) (ofNat n))) (ilt (Ae (wr .i64 (Af (ofNat i) (ofNat s))) (ofNat n)) (ofNat n)) = true) (h5:Ag (ile 0 (Ae (wr .i64 (Af (ofNat t) (ofNat s))) (ofNat n))) (ilt (Ae (wr .i64 (Af (ofNat t) (ofNat s))) (ofNat n)) (ofNat n)) = true) (h6:ieq (h (toN (Ae (wr .i64 (Af (ofNat i) (ofNat s))) (ofNat n)))) (h (toN (Ae (wr .i64 (Af (ofNat t) (ofNat s))) (ofNat n)))) = false) (h7:ilt (h (toN (Ae (wr .i64 (Af (ofNat t) (ofNat s))) (ofNat n)))) (h (toN (Ae (wr .i64 (Af (ofNat i) (ofNat s))) (ofNat n)))) = false) (h8:ieq (ofNat i) (wr .i64 (Af (ofNat t) (wr .i64 (Af (ofNat s) 1)))) = true):Al (Ek L) (Im n h) (HZ n h i t s j) = some (.nm,⟨(jsV 67 0 (fun _=>.und) [(0,(.sl 1 n (fun k=>iV (h k)))),(3,(nV n)),(4,(nV i)),(5,(iV (wr .i64 (Af (wr .i64 (Af (ofNat t) (wr .i64 (Af (ofNat s) 1)))) 1)))),(6,(iV 0))]),[]⟩):=Aa (bbK 16 37888) ((fun c0 c1 c2=>[c0,c0,c0,c0,c1,c1,c1,c1,ile (ofNat n) (ofNat s),c2,Ag (ile 0 (Ae (wr .i64 (Af (ofNat i) (ofNat s))) (ofNat n))) (ilt (Ae (wr .i64 (Af (ofNat i) (ofNat s))) (ofNat n)) (ofNat n)),c2,Ag (ile 0 (Ae (wr .i64 (Af (ofNat t) (ofNat s))) (ofNat n))) (ilt (Ae (wr .i64 (Af (ofNat t) (ofNat s))) (ofNat n)) (ofNat n)),ieq (h (toN (Ae (wr .i64 (Af (ofNat i) (ofNat s))) (ofNat n)))) (h (toN (Ae (wr .i64 (Af (ofNat t) (ofNat s))) (ofNat n)))),ilt (h (toN (Ae (wr .i64 (Af (ofNat t) (ofNat s))) (ofNat n)))) (h (toN (Ae (wr .i64 (Af (ofNat i) (ofNat s))) (ofNat n)))),ieq (ofNat i) (wr .i64 (Af (ofNat t) (wr .i64 (Af (ofNat s) 1))))]) (ile (ofNat n) (ofNat i)) (ile (ofNat n) (ofNat t)) (ieq (ofNat n) 0)) (by kernel_rfl) (by simp only [h4,h5] <;> simp only [*] <;> rfl)
end
def YD (n:Nat) (h:Nat->Int) :Nat->V:=lkV A8 [(2,(iV 0)),(9,(.sl 1 n (fun k=>iV (h k)))),(10,(nV n))]
theorem AgA (L:LT) (p0:PT) (n:Nat) (h:Nat->Int) (r:Nat)  (hp0:p0 (Ek (onP 0 p0 (Q2 r) L)) (HZ n h 0 1 0 (YD n h )) = true):(As (Aj tab ⟨Ao tb0,onP 0 p0 (Q2 r) L,Gl⟩ (Sr 0 900 Try.f90) [.sl 1 n (fun k=>iV (h k))] [])).sem = some ((nV r),[]):=Aa [true] [p0 (Ek (onP 0 p0 (Q2 r) L)) (HZ n h 0 1 0 (YD n h ))] (by kernel_rfl) (by simp only [hp0] <;> rfl)
def Es (n:Nat) (h:Nat->Int):Nat->Nat->Nat->Nat->Nat
  | 0,_,_,_=>0
  | q+1,i,t,s =>
    if n <= i ∨ n <= t ∨ n <= s then min (min i t) (n - 1)
    else if h ((i+s) % n) = h ((t+s) % n) then Es n h q i t (s+1)
    else if h ((t+s) % n) < h ((i+s) % n) then Es n h q (i+s+1) (if i+s+1 = t then t+1 else t) 0
    else Es n h q i (if i = t+s+1 then t+s+2 else t+s+1) 0
def C1 (n:Nat) (h:Nat->Int):Nat:=Es n h (3 * n+4) 0 1 0
theorem DD {a b:Nat} (h:a+b <= 9223372036854775807):wr .i64 (Af (ofNat a) (ofNat b)) = ofNat (a+b):=by
  unfold wr Af IntKind.wrap
  simp [IntKind.bits,IntKind.signed]
  omega
theorem MB {a:Nat} (h:a+1 <= 9223372036854775807):wr .i64 (Af (ofNat a) 1) = ofNat (a+1):=DD (b:=1) h
theorem CA (a n:Nat):Ae (ofNat a) (ofNat n) = ofNat (a % n):=rfl
theorem Dt (a b:Nat):ieq (ofNat a) (ofNat b) = decide (a = b):=by
  simp only [ieq,Int.ofNat_eq_natCast]
  by_cases h:a = b
  · simp [h]
  · rw [decide_eq_false h]
    simp
    omega
theorem ile_nat (a b:Nat):ile (ofNat a) (ofNat b) = decide (a <= b):=by
  simp [ile]
theorem CB (a b:Nat):ilt (ofNat a) (ofNat b) = decide (a < b):=by
  simp [ilt]
theorem Af4 (n i t:Nat) (hn:n <= 1152921504606846976):sel (ilt (sel (ilt (wr .i64 (AF (ofNat n) 1)) 0) 0 (wr .i64 (AF (ofNat n) 1))) (sel (ilt (ofNat t) (ofNat i)) (ofNat t) (ofNat i))) (sel (ilt (wr .i64 (AF (ofNat n) 1)) 0) 0 (wr .i64 (AF (ofNat n) 1))) (sel (ilt (ofNat t) (ofNat i)) (ofNat t) (ofNat i)) = ofNat (min (min i t) (n - 1)):=by
  have h1:wr .i64 (AF (ofNat n) 1) = (n:Int) - 1:=by
    unfold wr AF IntKind.wrap
    simp [IntKind.bits,IntKind.signed]
    omega
  rw [h1]
  simp only [sel,ilt,Bool.cond_decide,Int.ofNat_eq_natCast]
  omega
theorem KY (L:LT) (n:Nat) (h:Nat->Int) (hn:n <= 1152921504606846976):∀ (q i t s:Nat) (j:Nat->V),i <= 2 * n->t <= 2 * n+1->s <= n->3 * n+1 - (i+t+s) < q ->
    (A7 (Ek L) (Im n h) q (HZ n h i t s j)).sem = some (Q2 (Es n h q i t s))
  | 0,_,_,_,_,_,_,_,h4=>absurd h4 (Nat.not_lt_zero _)
  | q+1,i,t,s,j,hi,ht,hs,h4=>by
    by_cases ci:n <= i
    · rw [Ac (Aej L n h i t s j (by rw [ile_nat,decide_eq_true ci])),Du,Af4 n i t hn,Es,if_pos (.inl ci)]
      rfl
    · have ci0:ile (ofNat n) (ofNat i) = false:=by rw [ile_nat,decide_eq_false ci]
      by_cases ct:n <= t
      · rw [Ac (Aei L n h i t s j ci0 (by rw [ile_nat,decide_eq_true ct])),Du,Af4 n i t hn,Es,if_pos (.inr (.inl ct))]
        rfl
      · have ct0:ile (ofNat n) (ofNat t) = false:=by rw [ile_nat,decide_eq_false ct]
        by_cases cs:n <= s
        · rw [Ac (Aeg L n h i t s j ci0 ct0 (by rw [ile_nat,decide_eq_true cs])),Du,Af4 n i t hn,Es,if_pos (.inr (.inr cs))]
          rfl
        · have cs0:ile (ofNat n) (ofNat s) = false:=by rw [ile_nat,decide_eq_false cs]
          have cn0:ieq (ofNat n) 0 = false:=by
            rw [show (0:Int) = ofNat 0 from rfl,Dt,decide_eq_false (by omega)]
          have e1:Ae (wr .i64 (Af (ofNat i) (ofNat s))) (ofNat n) = ofNat ((i+s) % n):=by rw [DD (by omega),CA]
          have e2:Ae (wr .i64 (Af (ofNat t) (ofNat s))) (ofNat n) = ofNat ((t+s) % n):=by rw [DD (by omega),CA]
          have b1:Ag (ile 0 (Ae (wr .i64 (Af (ofNat i) (ofNat s))) (ofNat n))) (ilt (Ae (wr .i64 (Af (ofNat i) (ofNat s))) (ofNat n)) (ofNat n)) = true:=by
            rw [e1]; exact Ax (Nat.mod_lt _ (by omega))
          have b2:Ag (ile 0 (Ae (wr .i64 (Af (ofNat t) (ofNat s))) (ofNat n))) (ilt (Ae (wr .i64 (Af (ofNat t) (ofNat s))) (ofNat n)) (ofNat n)) = true:=by
            rw [e2]; exact Ax (Nat.mod_lt _ (by omega))
          have t1:∀ a:Nat,toN (ofNat a) = a:=fun _=>rfl
          have u1:wr .i64 (Af (ofNat i) (wr .i64 (Af (ofNat s) 1))) = ofNat (i+s+1):=by rw [MB (by omega),DD (by omega)]; rfl
          have u2:wr .i64 (Af (ofNat t) (wr .i64 (Af (ofNat s) 1))) = ofNat (t+s+1):=by rw [MB (by omega),DD (by omega)]; rfl
          rw [Es,if_neg (by omega)]
          by_cases ce:h ((i+s) % n) = h ((t+s) % n)
          · rw [if_pos ce,Ac (Ael L n h i t s j ci0 ct0 cs0 cn0 b1 b2 (by rw [e1,e2,t1,t1]; simp [ieq,ce])),Av,MB (by omega)]
            exact KY L n h hn q i t (s+1) (fun _=>.und) hi ht (by omega) (by omega)
          · have ce0:ieq (h (toN (Ae (wr .i64 (Af (ofNat i) (ofNat s))) (ofNat n)))) (h (toN (Ae (wr .i64 (Af (ofNat t) (ofNat s))) (ofNat n)))) = false:=by
              rw [e1,e2,t1,t1]; simp [ieq,ce]
            rw [if_neg ce]
            by_cases cg:h ((t+s) % n) < h ((i+s) % n)
            · have cg0:ilt (h (toN (Ae (wr .i64 (Af (ofNat t) (ofNat s))) (ofNat n)))) (h (toN (Ae (wr .i64 (Af (ofNat i) (ofNat s))) (ofNat n)))) = true:=by
                rw [e1,e2,t1,t1]; simp [ilt,cg]
              rw [if_pos cg]
              by_cases cq:i+s+1 = t
              · rw [if_pos cq,Ac (Aay L n h i t s j ci0 ct0 cs0 cn0 b1 b2 ce0 cg0 (by rw [u1,Dt,decide_eq_true cq])),Av,u1,MB (by omega)]
                exact KY L n h hn q (i+s+1) (t+1) 0 (fun _=>.und) (by omega) (by omega) (by omega) (by omega)
              · rw [if_neg cq,Ac (Aek L n h i t s j ci0 ct0 cs0 cn0 b1 b2 ce0 cg0 (by rw [u1,Dt,decide_eq_false cq])),Av,u1]
                exact KY L n h hn q (i+s+1) t 0 (fun _=>.und) (by omega) (by omega) (by omega) (by omega)
            · have cg0:ilt (h (toN (Ae (wr .i64 (Af (ofNat t) (ofNat s))) (ofNat n)))) (h (toN (Ae (wr .i64 (Af (ofNat i) (ofNat s))) (ofNat n)))) = false:=by
                rw [e1,e2,t1,t1]; simp [ilt]; omega
              rw [if_neg cg]
              by_cases cq:i = t+s+1
              · rw [if_pos cq,Ac (Aax L n h i t s j ci0 ct0 cs0 cn0 b1 b2 ce0 cg0 (by rw [u2,Dt,decide_eq_true cq])),Av,u2,MB (by omega)]
                exact KY L n h hn q i (t+s+2) 0 (fun _=>.und) (by omega) (by omega) (by omega) (by omega)
              · rw [if_neg cq,Ac (Aeh L n h i t s j ci0 ct0 cs0 cn0 b1 b2 ce0 cg0 (by rw [u2,Dt,decide_eq_false cq])),Av,u2]
                exact KY L n h hn q i (t+s+1) 0 (fun _=>.und) (by omega) (by omega) (by omega) (by omega)
def YQ (n:Nat):Bool:=decide (n <= 1152921504606846976)
def Y7:List V->T (V × List Blk):=AbE fun n h=>.br (YQ n) (out (iV (ofNat (C1 n h)))) .fail
theorem Ak0:AB Try.prog Gl 90 Y7:=by
  refine RB (p:=match Try.f90.body with | some (.seq p _)=>p | _=>.skip) (c:=match Try.f90.body with | some (.seq _ (.scope c))=>c | _=>.skip) (d:=match (match Try.f90.body with | some (.seq _ (.scope c))=>Fp 0 c | _=>none) with | some d=>d | none=>.skip) AQ AR Try.func90 0 900 (by kernel_rfl) (by kernel_rfl) (by kernel_rfl) (by kernel_rfl) fun vs v h' h=>?_
  obtain ⟨n,f,ha,h1⟩:=P8 h
  obtain ⟨hn,hq⟩:=Ah h1
  have:=Ad hq
  simp only [Prod.mk.injEq] at this
  obtain ⟨rfl,rfl⟩:=this
  have hn:n <= 1152921504606846976:=by simpa [YQ] using hn
  have hx:=AP CW [(0,Im n f)]
  exact ⟨_,AI Gl tb0 [(0,Im n f)],_,ha,rfl,hx.1,hx.2,A3 (Aw (AD _) (AD _)) _ (AgA _ _ n f _ (An (KY _ n f hn (3 * n+4) 0 1 0 (YD n f) (by omega) (by omega) (by omega) (by omega)))),A6.refl _⟩
end Go.Proofs.Ytjhnfomefcngfaa.Ed
