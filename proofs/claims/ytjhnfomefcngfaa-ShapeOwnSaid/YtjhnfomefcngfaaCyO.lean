/-
  Least: where the least turned list begins, as the program walks. No conditions.
-/
import Derived.Test.YtjhnfomefcngfaaCyI
namespace Go.Proofs.Ytjhnfomefcngfaa.Ed
open Go.Sy
open Int (ofNat)
def Q2 (r:Nat):Ex × St:=(.rt,⟨(jsV 67 0 (fun _=>.und) [(2,nV r)]),[]⟩)
def Id (n:Nat) (h:Nat->Int):Lp:=⟨(bmK 67 0 [0,3,4,5,6]),1,bmK 67 0 [2],1,3 * n+4⟩
def HS (n:Nat) (h:Nat->Int) (i t s:Nat) (j:Nat->V):St:=⟨(jsV 67 0 j [(0,.sl 1 n (fun k=>iV (h k))),(3,nV n),(4,nV i),(5,nV t),(6,nV s)]),[]⟩
noncomputable def Ee (L:LT):St->T (Ex × St):=fun st=>A9 tab ⟨Ao tb0,L,Gl⟩ (Av (So 0 900 Try.f90) 0) 0 st
section
variable (L:LT) (n:Nat) (h:Nat->Int) (i t s:Nat)  (j:Nat->V)
include L n h i t s j
theorem Aes (h0:ile (ofNat n) (ofNat i) = true):Ai (Ee L) (Id n h) (HS n h i t s j) = some (.rt,⟨(jsV 67 0 (fun _=>.und) [(2,(iV (sel (ilt (sel (ilt (wr .i64 (As (ofNat n) 1)) 0) 0 (wr .i64 (As (ofNat n) 1))) (sel (ilt (ofNat t) (ofNat i)) (ofNat t) (ofNat i))) (sel (ilt (wr .i64 (As (ofNat n) 1)) 0) 0 (wr .i64 (As (ofNat n) 1))) (sel (ilt (ofNat t) (ofNat i)) (ofNat t) (ofNat i)))))]),[]⟩):=Aa (bbK 9 511) ((fun c0 c1=>[c0,c0,c0,c0,c1,c1,c1,c1,c1]) (ile (ofNat n) (ofNat i)) (true)) (by kernel_rfl) (by simp only [h0] <;> rfl)
theorem Aer (h0:ile (ofNat n) (ofNat i) = false) (h1:ile (ofNat n) (ofNat t) = true):Ai (Ee L) (Id n h) (HS n h i t s j) = some (.rt,⟨(jsV 67 0 (fun _=>.und) [(2,(iV (sel (ilt (sel (ilt (wr .i64 (As (ofNat n) 1)) 0) 0 (wr .i64 (As (ofNat n) 1))) (sel (ilt (ofNat t) (ofNat i)) (ofNat t) (ofNat i))) (sel (ilt (wr .i64 (As (ofNat n) 1)) 0) 0 (wr .i64 (As (ofNat n) 1))) (sel (ilt (ofNat t) (ofNat i)) (ofNat t) (ofNat i)))))]),[]⟩):=Aa (bbK 9 496) ((fun c0 c1=>[c0,c0,c0,c0,c1,c1,c1,c1,true]) (ile (ofNat n) (ofNat i)) (ile (ofNat n) (ofNat t))) (by kernel_rfl) (by simp only [h0,h1] <;> rfl)
theorem Aep (h0:ile (ofNat n) (ofNat i) = false) (h1:ile (ofNat n) (ofNat t) = false) (h2:ile (ofNat n) (ofNat s) = true):Ai (Ee L) (Id n h) (HS n h i t s j) = some (.rt,⟨(jsV 67 0 (fun _=>.und) [(2,(iV (sel (ilt (sel (ilt (wr .i64 (As (ofNat n) 1)) 0) 0 (wr .i64 (As (ofNat n) 1))) (sel (ilt (ofNat t) (ofNat i)) (ofNat t) (ofNat i))) (sel (ilt (wr .i64 (As (ofNat n) 1)) 0) 0 (wr .i64 (As (ofNat n) 1))) (sel (ilt (ofNat t) (ofNat i)) (ofNat t) (ofNat i)))))]),[]⟩):=Aa (bbK 9 256) ((fun c0 c1=>[c0,c0,c0,c0,c1,c1,c1,c1,ile (ofNat n) (ofNat s)]) (ile (ofNat n) (ofNat i)) (ile (ofNat n) (ofNat t))) (by kernel_rfl) (by simp only [*] <;> rfl)
theorem Aeu (h0:ile (ofNat n) (ofNat i) = false) (h1:ile (ofNat n) (ofNat t) = false) (h2:ile (ofNat n) (ofNat s) = false) (h3:ieq (ofNat n) 0 = false) (h4:Af (ile 0 (Ad (wr .i64 (Ae (ofNat i) (ofNat s))) (ofNat n))) (ilt (Ad (wr .i64 (Ae (ofNat i) (ofNat s))) (ofNat n)) (ofNat n)) = true) (h5:Af (ile 0 (Ad (wr .i64 (Ae (ofNat t) (ofNat s))) (ofNat n))) (ilt (Ad (wr .i64 (Ae (ofNat t) (ofNat s))) (ofNat n)) (ofNat n)) = true) (h6:ieq (h (toN (Ad (wr .i64 (Ae (ofNat i) (ofNat s))) (ofNat n)))) (h (toN (Ad (wr .i64 (Ae (ofNat t) (ofNat s))) (ofNat n)))) = true):Ai (Ee L) (Id n h) (HS n h i t s j) = some (.nm,⟨(jsV 67 0 (fun _=>.und) [(0,(.sl 1 n (fun k=>iV (h k)))),(3,(nV n)),(4,(nV i)),(5,(nV t)),(6,(iV (wr .i64 (Ae (ofNat s) 1))))]),[]⟩):=Aa (bbK 14 13312) ((fun c0 c1 c2=>[c0,c0,c0,c0,c1,c1,c1,c1,ile (ofNat n) (ofNat s),c2,Af (ile 0 (Ad (wr .i64 (Ae (ofNat i) (ofNat s))) (ofNat n))) (ilt (Ad (wr .i64 (Ae (ofNat i) (ofNat s))) (ofNat n)) (ofNat n)),c2,Af (ile 0 (Ad (wr .i64 (Ae (ofNat t) (ofNat s))) (ofNat n))) (ilt (Ad (wr .i64 (Ae (ofNat t) (ofNat s))) (ofNat n)) (ofNat n)),ieq (h (toN (Ad (wr .i64 (Ae (ofNat i) (ofNat s))) (ofNat n)))) (h (toN (Ad (wr .i64 (Ae (ofNat t) (ofNat s))) (ofNat n))))]) (ile (ofNat n) (ofNat i)) (ile (ofNat n) (ofNat t)) (ieq (ofNat n) 0)) (by kernel_rfl) (by simp only [h4,h5] <;> simp only [*] <;> rfl)
theorem Aet (h0:ile (ofNat n) (ofNat i) = false) (h1:ile (ofNat n) (ofNat t) = false) (h2:ile (ofNat n) (ofNat s) = false) (h3:ieq (ofNat n) 0 = false) (h4:Af (ile 0 (Ad (wr .i64 (Ae (ofNat i) (ofNat s))) (ofNat n))) (ilt (Ad (wr .i64 (Ae (ofNat i) (ofNat s))) (ofNat n)) (ofNat n)) = true) (h5:Af (ile 0 (Ad (wr .i64 (Ae (ofNat t) (ofNat s))) (ofNat n))) (ilt (Ad (wr .i64 (Ae (ofNat t) (ofNat s))) (ofNat n)) (ofNat n)) = true) (h6:ieq (h (toN (Ad (wr .i64 (Ae (ofNat i) (ofNat s))) (ofNat n)))) (h (toN (Ad (wr .i64 (Ae (ofNat t) (ofNat s))) (ofNat n)))) = false) (h7:ilt (h (toN (Ad (wr .i64 (Ae (ofNat t) (ofNat s))) (ofNat n)))) (h (toN (Ad (wr .i64 (Ae (ofNat i) (ofNat s))) (ofNat n)))) = true) (h8:ieq (wr .i64 (Ae (ofNat i) (wr .i64 (Ae (ofNat s) 1)))) (ofNat t) = false):Ai (Ee L) (Id n h) (HS n h i t s j) = some (.nm,⟨(jsV 67 0 (fun _=>.und) [(0,(.sl 1 n (fun k=>iV (h k)))),(3,(nV n)),(4,(iV (wr .i64 (Ae (ofNat i) (wr .i64 (Ae (ofNat s) 1)))))),(5,(nV t)),(6,(iV 0))]),[]⟩):=Aa (bbK 16 21504) ((fun c0 c1 c2=>[c0,c0,c0,c0,c1,c1,c1,c1,ile (ofNat n) (ofNat s),c2,Af (ile 0 (Ad (wr .i64 (Ae (ofNat i) (ofNat s))) (ofNat n))) (ilt (Ad (wr .i64 (Ae (ofNat i) (ofNat s))) (ofNat n)) (ofNat n)),c2,Af (ile 0 (Ad (wr .i64 (Ae (ofNat t) (ofNat s))) (ofNat n))) (ilt (Ad (wr .i64 (Ae (ofNat t) (ofNat s))) (ofNat n)) (ofNat n)),ieq (h (toN (Ad (wr .i64 (Ae (ofNat i) (ofNat s))) (ofNat n)))) (h (toN (Ad (wr .i64 (Ae (ofNat t) (ofNat s))) (ofNat n)))),ilt (h (toN (Ad (wr .i64 (Ae (ofNat t) (ofNat s))) (ofNat n)))) (h (toN (Ad (wr .i64 (Ae (ofNat i) (ofNat s))) (ofNat n)))),ieq (wr .i64 (Ae (ofNat i) (wr .i64 (Ae (ofNat s) 1)))) (ofNat t)]) (ile (ofNat n) (ofNat i)) (ile (ofNat n) (ofNat t)) (ieq (ofNat n) 0)) (by kernel_rfl) (by simp only [h4,h5] <;> simp only [*] <;> rfl)
theorem AaL (h0:ile (ofNat n) (ofNat i) = false) (h1:ile (ofNat n) (ofNat t) = false) (h2:ile (ofNat n) (ofNat s) = false) (h3:ieq (ofNat n) 0 = false) (h4:Af (ile 0 (Ad (wr .i64 (Ae (ofNat i) (ofNat s))) (ofNat n))) (ilt (Ad (wr .i64 (Ae (ofNat i) (ofNat s))) (ofNat n)) (ofNat n)) = true) (h5:Af (ile 0 (Ad (wr .i64 (Ae (ofNat t) (ofNat s))) (ofNat n))) (ilt (Ad (wr .i64 (Ae (ofNat t) (ofNat s))) (ofNat n)) (ofNat n)) = true) (h6:ieq (h (toN (Ad (wr .i64 (Ae (ofNat i) (ofNat s))) (ofNat n)))) (h (toN (Ad (wr .i64 (Ae (ofNat t) (ofNat s))) (ofNat n)))) = false) (h7:ilt (h (toN (Ad (wr .i64 (Ae (ofNat t) (ofNat s))) (ofNat n)))) (h (toN (Ad (wr .i64 (Ae (ofNat i) (ofNat s))) (ofNat n)))) = true) (h8:ieq (wr .i64 (Ae (ofNat i) (wr .i64 (Ae (ofNat s) 1)))) (ofNat t) = true):Ai (Ee L) (Id n h) (HS n h i t s j) = some (.nm,⟨(jsV 67 0 (fun _=>.und) [(0,(.sl 1 n (fun k=>iV (h k)))),(3,(nV n)),(4,(iV (wr .i64 (Ae (ofNat i) (wr .i64 (Ae (ofNat s) 1)))))),(5,(iV (wr .i64 (Ae (ofNat t) 1)))),(6,(iV 0))]),[]⟩):=Aa (bbK 16 54272) ((fun c0 c1 c2=>[c0,c0,c0,c0,c1,c1,c1,c1,ile (ofNat n) (ofNat s),c2,Af (ile 0 (Ad (wr .i64 (Ae (ofNat i) (ofNat s))) (ofNat n))) (ilt (Ad (wr .i64 (Ae (ofNat i) (ofNat s))) (ofNat n)) (ofNat n)),c2,Af (ile 0 (Ad (wr .i64 (Ae (ofNat t) (ofNat s))) (ofNat n))) (ilt (Ad (wr .i64 (Ae (ofNat t) (ofNat s))) (ofNat n)) (ofNat n)),ieq (h (toN (Ad (wr .i64 (Ae (ofNat i) (ofNat s))) (ofNat n)))) (h (toN (Ad (wr .i64 (Ae (ofNat t) (ofNat s))) (ofNat n)))),ilt (h (toN (Ad (wr .i64 (Ae (ofNat t) (ofNat s))) (ofNat n)))) (h (toN (Ad (wr .i64 (Ae (ofNat i) (ofNat s))) (ofNat n)))),ieq (wr .i64 (Ae (ofNat i) (wr .i64 (Ae (ofNat s) 1)))) (ofNat t)]) (ile (ofNat n) (ofNat i)) (ile (ofNat n) (ofNat t)) (ieq (ofNat n) 0)) (by kernel_rfl) (by simp only [h4,h5] <;> simp only [*] <;> rfl)
theorem Aeq (h0:ile (ofNat n) (ofNat i) = false) (h1:ile (ofNat n) (ofNat t) = false) (h2:ile (ofNat n) (ofNat s) = false) (h3:ieq (ofNat n) 0 = false) (h4:Af (ile 0 (Ad (wr .i64 (Ae (ofNat i) (ofNat s))) (ofNat n))) (ilt (Ad (wr .i64 (Ae (ofNat i) (ofNat s))) (ofNat n)) (ofNat n)) = true) (h5:Af (ile 0 (Ad (wr .i64 (Ae (ofNat t) (ofNat s))) (ofNat n))) (ilt (Ad (wr .i64 (Ae (ofNat t) (ofNat s))) (ofNat n)) (ofNat n)) = true) (h6:ieq (h (toN (Ad (wr .i64 (Ae (ofNat i) (ofNat s))) (ofNat n)))) (h (toN (Ad (wr .i64 (Ae (ofNat t) (ofNat s))) (ofNat n)))) = false) (h7:ilt (h (toN (Ad (wr .i64 (Ae (ofNat t) (ofNat s))) (ofNat n)))) (h (toN (Ad (wr .i64 (Ae (ofNat i) (ofNat s))) (ofNat n)))) = false) (h8:ieq (ofNat i) (wr .i64 (Ae (ofNat t) (wr .i64 (Ae (ofNat s) 1)))) = false):Ai (Ee L) (Id n h) (HS n h i t s j) = some (.nm,⟨(jsV 67 0 (fun _=>.und) [(0,(.sl 1 n (fun k=>iV (h k)))),(3,(nV n)),(4,(nV i)),(5,(iV (wr .i64 (Ae (ofNat t) (wr .i64 (Ae (ofNat s) 1)))))),(6,(iV 0))]),[]⟩):=Aa (bbK 16 5120) ((fun c0 c1 c2=>[c0,c0,c0,c0,c1,c1,c1,c1,ile (ofNat n) (ofNat s),c2,Af (ile 0 (Ad (wr .i64 (Ae (ofNat i) (ofNat s))) (ofNat n))) (ilt (Ad (wr .i64 (Ae (ofNat i) (ofNat s))) (ofNat n)) (ofNat n)),c2,Af (ile 0 (Ad (wr .i64 (Ae (ofNat t) (ofNat s))) (ofNat n))) (ilt (Ad (wr .i64 (Ae (ofNat t) (ofNat s))) (ofNat n)) (ofNat n)),ieq (h (toN (Ad (wr .i64 (Ae (ofNat i) (ofNat s))) (ofNat n)))) (h (toN (Ad (wr .i64 (Ae (ofNat t) (ofNat s))) (ofNat n)))),ilt (h (toN (Ad (wr .i64 (Ae (ofNat t) (ofNat s))) (ofNat n)))) (h (toN (Ad (wr .i64 (Ae (ofNat i) (ofNat s))) (ofNat n)))),ieq (ofNat i) (wr .i64 (Ae (ofNat t) (wr .i64 (Ae (ofNat s) 1))))]) (ile (ofNat n) (ofNat i)) (ile (ofNat n) (ofNat t)) (ieq (ofNat n) 0)) (by kernel_rfl) (by simp only [h4,h5] <;> simp only [*] <;> rfl)
theorem AaK (h0:ile (ofNat n) (ofNat i) = false) (h1:ile (ofNat n) (ofNat t) = false) (h2:ile (ofNat n) (ofNat s) = false) (h3:ieq (ofNat n) 0 = false) (h4:Af (ile 0 (Ad (wr .i64 (Ae (ofNat i) (ofNat s))) (ofNat n))) (ilt (Ad (wr .i64 (Ae (ofNat i) (ofNat s))) (ofNat n)) (ofNat n)) = true) (h5:Af (ile 0 (Ad (wr .i64 (Ae (ofNat t) (ofNat s))) (ofNat n))) (ilt (Ad (wr .i64 (Ae (ofNat t) (ofNat s))) (ofNat n)) (ofNat n)) = true) (h6:ieq (h (toN (Ad (wr .i64 (Ae (ofNat i) (ofNat s))) (ofNat n)))) (h (toN (Ad (wr .i64 (Ae (ofNat t) (ofNat s))) (ofNat n)))) = false) (h7:ilt (h (toN (Ad (wr .i64 (Ae (ofNat t) (ofNat s))) (ofNat n)))) (h (toN (Ad (wr .i64 (Ae (ofNat i) (ofNat s))) (ofNat n)))) = false) (h8:ieq (ofNat i) (wr .i64 (Ae (ofNat t) (wr .i64 (Ae (ofNat s) 1)))) = true):Ai (Ee L) (Id n h) (HS n h i t s j) = some (.nm,⟨(jsV 67 0 (fun _=>.und) [(0,(.sl 1 n (fun k=>iV (h k)))),(3,(nV n)),(4,(nV i)),(5,(iV (wr .i64 (Ae (wr .i64 (Ae (ofNat t) (wr .i64 (Ae (ofNat s) 1)))) 1)))),(6,(iV 0))]),[]⟩):=Aa (bbK 16 37888) ((fun c0 c1 c2=>[c0,c0,c0,c0,c1,c1,c1,c1,ile (ofNat n) (ofNat s),c2,Af (ile 0 (Ad (wr .i64 (Ae (ofNat i) (ofNat s))) (ofNat n))) (ilt (Ad (wr .i64 (Ae (ofNat i) (ofNat s))) (ofNat n)) (ofNat n)),c2,Af (ile 0 (Ad (wr .i64 (Ae (ofNat t) (ofNat s))) (ofNat n))) (ilt (Ad (wr .i64 (Ae (ofNat t) (ofNat s))) (ofNat n)) (ofNat n)),ieq (h (toN (Ad (wr .i64 (Ae (ofNat i) (ofNat s))) (ofNat n)))) (h (toN (Ad (wr .i64 (Ae (ofNat t) (ofNat s))) (ofNat n)))),ilt (h (toN (Ad (wr .i64 (Ae (ofNat t) (ofNat s))) (ofNat n)))) (h (toN (Ad (wr .i64 (Ae (ofNat i) (ofNat s))) (ofNat n)))),ieq (ofNat i) (wr .i64 (Ae (ofNat t) (wr .i64 (Ae (ofNat s) 1))))]) (ile (ofNat n) (ofNat i)) (ile (ofNat n) (ofNat t)) (ieq (ofNat n) 0)) (by kernel_rfl) (by simp only [h4,h5] <;> simp only [*] <;> rfl)
end
def YS (n:Nat) (h:Nat->Int) :Nat->V:=lkV A7 [(2,(iV 0)),(9,(.sl 1 n (fun k=>iV (h k)))),(10,(nV n))]
theorem AgH (L:LT) (p0:PT) (n:Nat) (h:Nat->Int) (r:Nat)  (hp0:p0 (Ee (onP 0 p0 (Q2 r) L)) (HS n h 0 1 0 (YS n h )) = true):(A1 (Al tab ⟨Ao tb0,onP 0 p0 (Q2 r) L,Gl⟩ (So 0 900 Try.f90) [.sl 1 n (fun k=>iV (h k))] [])).sem = some ((nV r),[]):=Aa [true] [p0 (Ee (onP 0 p0 (Q2 r) L)) (HS n h 0 1 0 (YS n h ))] (by kernel_rfl) (by simp only [hp0] <;> rfl)
def Eo (n:Nat) (h:Nat->Int):Nat->Nat->Nat->Nat->Nat
  | 0,_,_,_=>0
  | q+1,i,t,s =>
    if n <= i ∨ n <= t ∨ n <= s then min (min i t) (n - 1)
    else if h ((i+s) % n) = h ((t+s) % n) then Eo n h q i t (s+1)
    else if h ((t+s) % n) < h ((i+s) % n) then Eo n h q (i+s+1) (if i+s+1 = t then t+1 else t) 0
    else Eo n h q i (if i = t+s+1 then t+s+2 else t+s+1) 0
def BR (n:Nat) (h:Nat->Int):Nat:=Eo n h (3 * n+4) 0 1 0
theorem D3 {a b:Nat} (h:a+b <= 9223372036854775807):wr .i64 (Ae (ofNat a) (ofNat b)) = ofNat (a+b):=by
  unfold wr Ae IntKind.wrap
  simp [IntKind.bits,IntKind.signed]
  omega
theorem M5 {a:Nat} (h:a+1 <= 9223372036854775807):wr .i64 (Ae (ofNat a) 1) = ofNat (a+1):=D3 (b:=1) h
theorem Cy (a n:Nat):Ad (ofNat a) (ofNat n) = ofNat (a % n):=rfl
theorem Dl (a b:Nat):ieq (ofNat a) (ofNat b) = decide (a = b):=by
  simp only [ieq,Int.ofNat_eq_natCast]
  by_cases h:a = b
  · simp [h]
  · rw [decide_eq_false h]
    simp
    omega
theorem ile_nat (a b:Nat):ile (ofNat a) (ofNat b) = decide (a <= b):=by
  simp [ile]
theorem Cz (a b:Nat):ilt (ofNat a) (ofNat b) = decide (a < b):=by
  simp [ilt]
theorem AfC (n i t:Nat) (hn:n <= 1152921504606846976):sel (ilt (sel (ilt (wr .i64 (As (ofNat n) 1)) 0) 0 (wr .i64 (As (ofNat n) 1))) (sel (ilt (ofNat t) (ofNat i)) (ofNat t) (ofNat i))) (sel (ilt (wr .i64 (As (ofNat n) 1)) 0) 0 (wr .i64 (As (ofNat n) 1))) (sel (ilt (ofNat t) (ofNat i)) (ofNat t) (ofNat i)) = ofNat (min (min i t) (n - 1)):=by
  have h1:wr .i64 (As (ofNat n) 1) = (n:Int) - 1:=by
    unfold wr As IntKind.wrap
    simp [IntKind.bits,IntKind.signed]
    omega
  rw [h1]
  simp only [sel,ilt,Bool.cond_decide,Int.ofNat_eq_natCast]
  omega
theorem KV (L:LT) (n:Nat) (h:Nat->Int) (hn:n <= 1152921504606846976):∀ (q i t s:Nat) (j:Nat->V),i <= 2 * n->t <= 2 * n+1->s <= n->3 * n+1 - (i+t+s) < q ->
    (A3 (Ee L) (Id n h) q (HS n h i t s j)).sem = some (Q2 (Eo n h q i t s))
  | 0,_,_,_,_,_,_,_,h4=>absurd h4 (Nat.not_lt_zero _)
  | q+1,i,t,s,j,hi,ht,hs,h4=>by
    by_cases ci:n <= i
    · rw [Ab (Aes L n h i t s j (by rw [ile_nat,decide_eq_true ci])),Dm,AfC n i t hn,Eo,if_pos (.inl ci)]
      rfl
    · have ci0:ile (ofNat n) (ofNat i) = false:=by rw [ile_nat,decide_eq_false ci]
      by_cases ct:n <= t
      · rw [Ab (Aer L n h i t s j ci0 (by rw [ile_nat,decide_eq_true ct])),Dm,AfC n i t hn,Eo,if_pos (.inr (.inl ct))]
        rfl
      · have ct0:ile (ofNat n) (ofNat t) = false:=by rw [ile_nat,decide_eq_false ct]
        by_cases cs:n <= s
        · rw [Ab (Aep L n h i t s j ci0 ct0 (by rw [ile_nat,decide_eq_true cs])),Dm,AfC n i t hn,Eo,if_pos (.inr (.inr cs))]
          rfl
        · have cs0:ile (ofNat n) (ofNat s) = false:=by rw [ile_nat,decide_eq_false cs]
          have cn0:ieq (ofNat n) 0 = false:=by
            rw [show (0:Int) = ofNat 0 from rfl,Dl,decide_eq_false (by omega)]
          have e1:Ad (wr .i64 (Ae (ofNat i) (ofNat s))) (ofNat n) = ofNat ((i+s) % n):=by rw [D3 (by omega),Cy]
          have e2:Ad (wr .i64 (Ae (ofNat t) (ofNat s))) (ofNat n) = ofNat ((t+s) % n):=by rw [D3 (by omega),Cy]
          have b1:Af (ile 0 (Ad (wr .i64 (Ae (ofNat i) (ofNat s))) (ofNat n))) (ilt (Ad (wr .i64 (Ae (ofNat i) (ofNat s))) (ofNat n)) (ofNat n)) = true:=by
            rw [e1]; exact Ay (Nat.mod_lt _ (by omega))
          have b2:Af (ile 0 (Ad (wr .i64 (Ae (ofNat t) (ofNat s))) (ofNat n))) (ilt (Ad (wr .i64 (Ae (ofNat t) (ofNat s))) (ofNat n)) (ofNat n)) = true:=by
            rw [e2]; exact Ay (Nat.mod_lt _ (by omega))
          have t1:∀ a:Nat,toN (ofNat a) = a:=fun _=>rfl
          have u1:wr .i64 (Ae (ofNat i) (wr .i64 (Ae (ofNat s) 1))) = ofNat (i+s+1):=by rw [M5 (by omega),D3 (by omega)]; rfl
          have u2:wr .i64 (Ae (ofNat t) (wr .i64 (Ae (ofNat s) 1))) = ofNat (t+s+1):=by rw [M5 (by omega),D3 (by omega)]; rfl
          rw [Eo,if_neg (by omega)]
          by_cases ce:h ((i+s) % n) = h ((t+s) % n)
          · rw [if_pos ce,Ab (Aeu L n h i t s j ci0 ct0 cs0 cn0 b1 b2 (by rw [e1,e2,t1,t1]; simp [ieq,ce])),Aw,M5 (by omega)]
            exact KV L n h hn q i t (s+1) (fun _=>.und) hi ht (by omega) (by omega)
          · have ce0:ieq (h (toN (Ad (wr .i64 (Ae (ofNat i) (ofNat s))) (ofNat n)))) (h (toN (Ad (wr .i64 (Ae (ofNat t) (ofNat s))) (ofNat n)))) = false:=by
              rw [e1,e2,t1,t1]; simp [ieq,ce]
            rw [if_neg ce]
            by_cases cg:h ((t+s) % n) < h ((i+s) % n)
            · have cg0:ilt (h (toN (Ad (wr .i64 (Ae (ofNat t) (ofNat s))) (ofNat n)))) (h (toN (Ad (wr .i64 (Ae (ofNat i) (ofNat s))) (ofNat n)))) = true:=by
                rw [e1,e2,t1,t1]; simp [ilt,cg]
              rw [if_pos cg]
              by_cases cq:i+s+1 = t
              · rw [if_pos cq,Ab (AaL L n h i t s j ci0 ct0 cs0 cn0 b1 b2 ce0 cg0 (by rw [u1,Dl,decide_eq_true cq])),Aw,u1,M5 (by omega)]
                exact KV L n h hn q (i+s+1) (t+1) 0 (fun _=>.und) (by omega) (by omega) (by omega) (by omega)
              · rw [if_neg cq,Ab (Aet L n h i t s j ci0 ct0 cs0 cn0 b1 b2 ce0 cg0 (by rw [u1,Dl,decide_eq_false cq])),Aw,u1]
                exact KV L n h hn q (i+s+1) t 0 (fun _=>.und) (by omega) (by omega) (by omega) (by omega)
            · have cg0:ilt (h (toN (Ad (wr .i64 (Ae (ofNat t) (ofNat s))) (ofNat n)))) (h (toN (Ad (wr .i64 (Ae (ofNat i) (ofNat s))) (ofNat n)))) = false:=by
                rw [e1,e2,t1,t1]; simp [ilt]; omega
              rw [if_neg cg]
              by_cases cq:i = t+s+1
              · rw [if_pos cq,Ab (AaK L n h i t s j ci0 ct0 cs0 cn0 b1 b2 ce0 cg0 (by rw [u2,Dl,decide_eq_true cq])),Aw,u2,M5 (by omega)]
                exact KV L n h hn q i (t+s+2) 0 (fun _=>.und) (by omega) (by omega) (by omega) (by omega)
              · rw [if_neg cq,Ab (Aeq L n h i t s j ci0 ct0 cs0 cn0 b1 b2 ce0 cg0 (by rw [u2,Dl,decide_eq_false cq])),Aw,u2]
                exact KV L n h hn q i (t+s+1) 0 (fun _=>.und) (by omega) (by omega) (by omega) (by omega)
def Zg (n:Nat):Bool:=decide (n <= 1152921504606846976)
def YM:List V->T (V × List Blk):=AbO fun n h=>.br (Zg n) (out (iV (ofNat (BR n h)))) .fail
theorem Akn:AD Try.prog Gl 90 YM:=by
  refine R7 (p:=match Try.f90.body with | some (.seq p _)=>p | _=>.skip) (c:=match Try.f90.body with | some (.seq _ (.scope c))=>c | _=>.skip) (d:=match (match Try.f90.body with | some (.seq _ (.scope c))=>Fm 0 c | _=>none) with | some d=>d | none=>.skip) AO AP Try.func90 0 900 (by kernel_rfl) (by kernel_rfl) (by kernel_rfl) (by kernel_rfl) fun vs v h' h=>?_
  obtain ⟨n,f,ha,h1⟩:=P9 h
  obtain ⟨hn,hq⟩:=Ag h1
  have:=Ac hq
  simp only [Prod.mk.injEq] at this
  obtain ⟨rfl,rfl⟩:=this
  have hn:n <= 1152921504606846976:=by simpa [Zg] using hn
  have hx:=AQ CU [(0,Id n f)]
  exact ⟨_,AR Gl tb0 [(0,Id n f)],_,ha,rfl,hx.1,hx.2,A6 (Ax (AC _) (AC _)) _ (AgH _ _ n f _ (Ak (KV _ n f hn (3 * n+4) 0 1 0 (YS n f) (by omega) (by omega) (by omega) (by omega)))),AB.refl _⟩
end Go.Proofs.Ytjhnfomefcngfaa.Ed
namespace Go.Proofs.Ytjhnfomefcngfaa.Ed
open Go.Sy
open Int (ofNat)
theorem NJ (n m:Nat) (gx g:Nat->V) (i:Nat) (h:i < n+m):CC n m gx g i = bif Nat.blt i n then gx i else g (i - n):=by
  cases hb:Nat.blt i n with
  | true=>exact NH n m gx g i (Nat.blt_eq ▸ hb)
  | false =>
    have h1:n <= i:=by
      rcases Nat.lt_or_ge i n with h2 | h2
      · rw [show Nat.blt i n = true from Nat.blt_eq ▸ h2] at hb; cases hb
      · exact h2
    have:=NI n m gx g (i - n) (by omega)
    rw [show n+(i - n) = i by omega] at this
    exact this
theorem Tg {α:Type} (n k:Nat) (z:Nat->V) (h:Nat->α) (e:α->V) (hk:k < n ∨ n = 0 ∧ k = 0):B4 (B4 0 (Hi n k)) k = n ∧ ∀ j,j < n ->
    CC (B4 0 (Hi n k)) k (CC 0 (Hi n k) z (fun i=>e (h (B4 k i)))) (fun i=>e (h i)) j = e (h ((k+j) % n)):=by
  have h1:B4 0 (Hi n k) = n - k:=by simp [B4,Hi]
  have h2:Hi n k = n - k:=rfl
  refine ⟨by rw [h1]; show n - k+k = n; omega,fun j hj=>?_⟩
  rw [h1,h2,NJ _ _ _ _ j (by omega)]
  cases hb:Nat.blt j (n - k) with
  | true =>
    have hb:j < n - k:=Nat.blt_eq ▸ hb
    show CC 0 (n - k) z (fun i=>e (h (B4 k i))) j = _
    rw [NJ _ _ _ _ j (by omega)]
    show e (h (k+(j - 0))) = _
    rw [Nat.mod_eq_of_lt (by omega),Nat.sub_zero]
  | false =>
    have hb:n - k <= j:=by
      rcases Nat.lt_or_ge j (n - k) with h3 | h3
      · rw [show Nat.blt j (n - k) = true from Nat.blt_eq ▸ h3] at hb; cases hb
      · exact h3
    show e (h (j - (n - k))) = _
    rw [show k+j = j - (n - k)+n by omega,Nat.add_mod_right,Nat.mod_eq_of_lt (by omega)]
def Ca (n:Nat):Bool:=decide (n * 8 <= 140737488355328)
theorem CE {n:Nat} (h:Ca n = true):n <= 4611686018427387904:=by
  have h:n * 8 <= 140737488355328:=of_decide_eq_true h
  omega
theorem Zh {n:Nat} (h:Ca n = true):Ah n = true:=decide_eq_true (CE h)
theorem AfO {n:Nat} (h:Ca n = true):Zg n = true:=by
  have h:n * 8 <= 140737488355328:=of_decide_eq_true h
  exact decide_eq_true (by omega)
theorem ET {n:Nat} (h:AL n = true):Ca n = true:=by
  have h:n * 40 <= 140737488355328:=of_decide_eq_true h
  exact decide_eq_true (by omega)
theorem Lg (n:Nat) (h:Nat->Int):∀ q i t s,Eo n h q i t s <= n - 1
  | 0,_,_,_=>Nat.zero_le _
  | q+1,i,t,s=>by
    unfold Eo
    split
    · omega
    · split
      · exact Lg n h q _ _ _
      · split <;> exact Lg n h q _ _ _
theorem W6 (n:Nat) (h:Nat->Int):BR n h <= n - 1:=Lg n h _ _ _ _
theorem IP (n:Nat) (h:Nat->Int):BR n h < n ∨ n = 0 ∧ BR n h = 0:=by
  have:=W6 n h
  omega
def N8 (n:Nat) (f:Nat->E6):Lp:=⟨(bmK 28 0 [0,2,3,4,9,10,11]),2,bmK 28 0 [2,3,4],4,n+1⟩
def MO (n:Nat) (f:Nat->E6) (i k:Nat) (x:Nat->V) (j:Nat->V):St:=⟨(jsV 28 0 j [(0,.sl 6 n fun i=>eV (f i)),(2,.ref 0),(3,iV 0),(4,.ref 1),(9,.sl 6 n fun i=>eV (f i)),(10,nV n),(11,nV i)]),[.row 3 1 0 fun _=>.und,.row 3 1 k x]⟩
def QP (n:Nat) (f:Nat->E6) (i k:Nat) (x:Nat->V):Ex × St:=(.ex 0,⟨(jsV 28 0 (fun _=>.und) [(2,.ref 0),(3,iV 0),(4,.ref 1)]),[.row 3 1 0 fun _=>.und,.row 3 1 k x]⟩)
def QO (n:Nat) (f:Nat->E6) (i k:Nat) (x:Nat->V):Ex × St:=(.rt,⟨(jsV 28 0 (fun _=>.und) [(2,.ref 3),(3,iV 30),(4,.ref 1)]),[.row 3 1 0 fun _=>.und,.row 3 1 k x,.cells [iV ((f i)).kind,bV ((f i)).ext,bV ((f i)).same,iV ((f i)).src,iV ((f i)).dst,iV ((f i)).fence],.row 3 1 0 fun _=>.und]⟩)
noncomputable def H6 (L:LT):St->T (Ex × St):=fun st=>A9 tab ⟨Ao tb8,L,Gl⟩ (Av Try.f89 0) 0 st
theorem JW (L:LT) (n:Nat) (f:Nat->E6) (i k:Nat) (x:Nat->V) (j:Nat->V):Ai (H6 L) (N8 n f) (MO n f i k x j)
 = (sel (ilt (ofNat i) (ofNat n)) (sel (Af (ile 0 (ofNat i)) (ilt (ofNat i) (ofNat n))) (sel (Am (ieq (AM (f i)) 0)) (some (.rt,⟨[.und,.und,(.ref 3),(iV 30),(.ref 1),.und,.und,.und,.und,.und,.und,.und,.und,.und,.und,.und,.und,.und,.und,.und,.und,.und,.und,.und,.und,.und,.und,.und],[r3Z,(.row 3 1 k x),(.cells [(iV ((f i)).kind),(bV ((f i)).ext),(bV ((f i)).same),(iV ((f i)).src),(iV ((f i)).dst),(iV ((f i)).fence)]),r3Z]⟩)) (sel (Bj k 1 8) (some (.nm,⟨[(.sl 6 n (fun i=>(eV (f i)))),.und,(.ref 0),(iV 0),(.ref 1),.und,.und,.und,.und,(.sl 6 n (fun i=>(eV (f i)))),(nV n),(iV (wr .i64 (Ae (ofNat i) 1))),.und,.und,.und,.und,.und,.und,.und,.und,.und,.und,.und,.und,.und,.und,.und,.und],[r3Z,(.row 3 1 (B4 k 1) (AK k x (iV (Bv (f i)))))]⟩)) none)) none) (some ((.ex 0),⟨[.und,.und,(.ref 0),(iV 0),(.ref 1),.und,.und,.und,.und,.und,.und,.und,.und,.und,.und,.und,.und,.und,.und,.und,.und,.und,.und,.und,.und,.und,.und,.und],[r3Z,(.row 3 1 k x)]⟩))):=by kernel_rfl
def Pq (n:Nat) (f:Nat->E6) :Nat->V:=lkV A7 []
section
variable (L:LT) (p0:PT) (n:Nat) (f:Nat->E6) (i k:Nat) (x:Nat->V)
include L p0 n f i k x
theorem Ad1  (hp0:p0 (H6 (onP 0 p0 (QP n f i k x) L)) (MO n f 0 0 (fun _=>.und) (Pq n f )) = true):(A1 (Al tab ⟨Ao tb8,onP 0 p0 (QP n f i k x) L,Gl⟩ Try.f89 [A2 n f] [])).sem = some ((.tup [.ref 0,iV 0]),[.row 3 1 k x]):=Aa [true] [p0 (H6 (onP 0 p0 (QP n f i k x) L)) (MO n f 0 0 (fun _=>.und) (Pq n f ))] (by kernel_rfl) (by simp only [hp0] <;> rfl)
theorem Ad0  (hp0:p0 (H6 (onP 0 p0 (QO n f i k x) L)) (MO n f 0 0 (fun _=>.und) (Pq n f )) = true):(A1 (Al tab ⟨Ao tb8,onP 0 p0 (QO n f i k x) L,Gl⟩ Try.f89 [A2 n f] [])).sem = some ((.tup [.ref 0,iV 30]),[r3Z]):=Aa [true] [p0 (H6 (onP 0 p0 (QO n f i k x) L)) (MO n f 0 0 (fun _=>.und) (Pq n f ))] (by kernel_rfl) (by simp only [hp0] <;> rfl)
end
theorem US (L:LT) (n:Nat) (f:Nat->E6) (hn:AL n = true) (ho:∀ t,t < n->AM (f t) = 0):∀ (d i:Nat) (j:Nat->V) (q:Nat),n = i+d->d < q ->
    (A3 (H6 L) (N8 n f) q (MO n f i i (BJ (cdV f) i) j)).sem = some (QP n f 0 n (BJ (cdV f) n))
  | 0,i,j,q+1,h1,_=>by
    have hi:i = n:=by omega
    subst hi
    rw [Ab (JW L i f i i _ j),A8 (Nat.le_refl i)]
    rfl
  | d+1,i,j,q+1,h1,h2=>by
    have hi:i < n:=by omega
    rw [Ab (JW L n f i i _ j),Ay hi,ofNat_lt hi,Rb hi (by decide) (of_decide_eq_true hn),Aq hi (IW hn),ho i hi]
    exact US L n f hn ho d (i+1) (fun _=>.und) q (by omega) (by omega)
theorem UR (L:LT) (n:Nat) (f:Nat->E6) (hn:AL n = true) (e:Nat) (he:e < n) (hb:AM (f e) = 30) (ho:∀ t,t < e->AM (f t) = 0):∀ (d i:Nat) (j:Nat->V) (q:Nat),e = i+d->d < q ->
    (A3 (H6 L) (N8 n f) q (MO n f i i (BJ (cdV f) i) j)).sem = some (QO n f e e (BJ (cdV f) e))
  | 0,i,j,q+1,h1,_=>by
    have hi:i = e:=by omega
    subst hi
    rw [Ab (JW L n f i i _ j),Ay he,ofNat_lt he,hb]
    rfl
  | d+1,i,j,q+1,h1,h2=>by
    have hi:i < n:=by omega
    rw [Ab (JW L n f i i _ j),Ay hi,ofNat_lt hi,Rb hi (by decide) (of_decide_eq_true hn),Aq hi (IW hn),ho i (by omega)]
    exact UR L n f hn e he hb ho d (i+1) (fun _=>.und) q (by omega) (by omega)
theorem Ako:AD Try.prog Gl 89 Z9:=by
  refine A5 AO AP Try.func89 (by kernel_rfl) (by kernel_rfl) fun vs v h' h=>?_
  obtain ⟨n,f,ha,h⟩:=CK h
  obtain ⟨hn,h⟩:=Ag h
  have hx:=AQ tb8_ok [(0,N8 n f)]
  cases hm:BI n f with
  | true =>
    rw [hm] at h
    have:=Ac h
    simp only [Prod.mk.injEq] at this
    obtain ⟨rfl,rfl⟩:=this
    exact ⟨_,cx9 [(0,N8 n f)],_,ha,rfl,hx.1,hx.2,A6 (Ax (AC _) (AC _)) _ (Ad1 _ _ n f 0 n _ (Ak (US _ n f hn (DV.1 hm) n 0 (Pq n f) (n+1) (by omega) (by omega)))),
      AB.one fun j hj=>(Ib (cdV f) n j hj).symm⟩
  | false =>
    rw [hm] at h
    have:=Ac h
    simp only [Prod.mk.injEq] at this
    obtain ⟨rfl,rfl⟩:=this
    obtain ⟨e,h1,h2,h3⟩:=Y3 hm
    have hw:=A6 (Ax (AC _) (AC _)) _ (Ad0 (Bc [(0,N8 n f)]) _ n f e e _ (Ak (UR _ n f hn e h1 h2 h3 e 0 (Pq n f) (n+1) (by omega) (by omega))))
    exact ⟨_,cx9 [(0,N8 n f)],_,ha,rfl,hx.1,hx.2,hw,AB.refl _⟩
theorem CS {n m b:Nat} (h:(n+m) * b <= 140737488355328):Bj n m b = true:=decide_eq_true h
noncomputable def Xx:List (Nat × (List V->T (V × List Blk))):=(89,Z9) :: (90,YM) :: []
theorem Aat:AF Try.prog Gl Xx:=.cons Ako <| .cons Akn .nil
def Acn (n:Nat) (f:Nat->E6) (k:Nat):Blk:=.row 44 6 (B4 (B4 0 (Hi n k)) k) (CC (B4 0 (Hi n k)) k (CC 0 (Hi n k) (fun _=>eV FF) (fun i=>eV (f (B4 k i)))) (fun i=>eV (f i)))
section
variable (L:LT) (n:Nat) (f:Nat->E6)
include L n f
theorem AgB (h0:AL n = true) (h1:BI n f = false):(A1 (Al tab ⟨Ao Xx,L,Gl⟩ Try.f51 [A2 n f] [])).sem = some ((.tup [.ref 0,iV 30]),[.row 44 6 0 (fun _=>.und)]):=Aa [true,true,false,true] [An n (fun _=>true),AL n,BI n f,Am (ieq 30 0)] (by kernel_rfl) (by simp only [h0,h1,Ar] <;> rfl)
theorem AgA (h0:AL n = true) (h1:BI n f = true) (h2:Zg n = true) (h3:BL 40 0 (ofNat n) = true) (h13:Af (ile 0 (ofNat (BR n (fun i=>Bv (f i))))) (ile (ofNat (BR n (fun i=>Bv (f i)))) (ofNat n)) = true) (h14:Bj 0 (Hi n (BR n (fun i=>Bv (f i)))) 40 = true) (h15:Bj (B4 0 (Hi n (BR n (fun i=>Bv (f i))))) (BR n (fun i=>Bv (f i))) 40 = true):(A1 (Al tab ⟨Ao Xx,L,Gl⟩ Try.f51 [A2 n f] [])).sem = some ((.tup [.ref 0,iV 0]),[Acn n f (BR n (fun i=>Bv (f i)))]):=Aa (bbK 11 2039) ((fun c0 c1=>[c0,AL n,BI n f,Am (ieq 0 0),c0,Zg n,BL 40 0 (ofNat n),c1,Bj 0 (Hi n (BR n (fun i=>Bv (f i)))) 40,c1,Bj (B4 0 (Hi n (BR n (fun i=>Bv (f i))))) (BR n (fun i=>Bv (f i))) 40]) (An n (fun _=>true)) (Af (ile 0 (ofNat (BR n (fun i=>Bv (f i))))) (ile (ofNat (BR n (fun i=>Bv (f i)))) (ofNat n)))) (by kernel_rfl) (by simp only [h13] <;> simp only [*,Ar] <;> rfl)
end
def Bk (n:Nat) (f:Nat->E6) (i:Nat):E6:=f ((BR n (fun i=>Bv (f i))+i) % n)
def Oj:List V->T (V × List Blk):=GS fun n f=>.br (AL n) (.br (BI n f) (.leaf (.tup [.ref 0,iV 0],[.row 44 6 n fun i=>eV (Bk n f i)])) (.leaf (.tup [.ref 0,iV 30],[.row 44 6 0 fun _=>.und]))) .fail
theorem p65:AD Try.prog Gl 51 Oj:=by
  refine A5 AO AP Try.func51 (by kernel_rfl) (by kernel_rfl) fun vs v h' h=>?_
  obtain ⟨n,f,ha,h⟩:=CK h
  obtain ⟨hn,h⟩:=Ag h
  have hx:=AQ Aat []
  cases hm:BI n f with
  | true =>
    rw [hm] at h
    have:=Ac h
    simp only [Prod.mk.injEq] at this
    obtain ⟨rfl,rfl⟩:=this
    have hn':n * 40 <= 140737488355328:=of_decide_eq_true hn
    have hk:=IP n (fun i=>Bv (f i))
    have e3:∀ k,B4 0 (Hi n k) = n - k:=fun k=>by simp [B4,Hi]
    have hw:=AgA (Bc []) n f hn hm (AfO (ET hn)) (by
        simp only [BL,Bool.and_eq_true,decide_eq_true_eq,Int.ofNat_eq_natCast]; omega) (by
        rw [ile_nat,show (0:Int) = ofNat 0 from rfl,ile_nat]; simp [Af]; omega) (by
        exact CS (by show (0+(n - BR n (fun i=>Bv (f i)))) * 40 <= _; omega)) (by
        rw [e3]; exact CS (by omega))
    obtain ⟨r1,r2⟩:=Tg n (BR n (fun i=>Bv (f i))) (fun _=>eV FF) f eV hk
    unfold Acn at hw
    rw [r1] at hw
    exact ⟨_,AR Gl Xx [],_,ha,rfl,hx.1,hx.2,hw,AB.one fun j hj=>(r2 j hj).symm⟩
  | false =>
    rw [hm] at h
    have:=Ac h
    simp only [Prod.mk.injEq] at this
    obtain ⟨rfl,rfl⟩:=this
    exact ⟨_,AR Gl Xx [],_,ha,rfl,hx.1,hx.2,AgB _ n f hn hm,AB.refl _⟩
theorem e42 (Γ:Cx) (vs:List V) (h:List Blk):Al tab Γ Try.f60 vs h = Al tab Γ Try.f60 vs h:=by kernel_rfl
theorem p42:AD Try.prog Gl 60 AbY:=by
  refine A5 AO AP Try.func60 (by kernel_rfl) (by kernel_rfl) fun vs v h' h=>?_
  obtain ⟨n,f,m,g,ha,h⟩:=Xa h
  obtain ⟨hn,h⟩:=Ag h
  have:=Ac h
  simp only [Prod.mk.injEq] at this
  obtain ⟨rfl,rfl⟩:=this
  have hx:=AQ tb8_ok [(0,N3 n)]
  exact ⟨_,cx9 [(0,N3 n)],_,ha,rfl,hx.1,hx.2,by rw [e42]; exact AdK n m f g (of_decide_eq_true hn),AB.refl _⟩
theorem VS {a b:E6} (ha:AM a = 0) (hb:AM b = 0) (h:Bv a = Bv b):a = b:=by
  rcases FZ a with ⟨k,_,_,h1,h2,_⟩ | ⟨h1,_⟩
  · rcases FZ b with ⟨l,_,_,h3,h4,_⟩ | ⟨h3,_⟩
    · rw [h1,h3] at h
      have:=Int.ofNat.inj h
      rw [<- h2,<- h4,this]
    · rw [hb] at h3; cases h3
  · rw [ha] at h1; cases h1
theorem SO {n:Nat} {f:Nat->E6} (h:BI n f = true) {i:Nat} (hi:i < n):AM (Bk n f i) = 0:=DV.1 h _ (Nat.mod_lt _ (by omega))
theorem MS {n:Nat} {f:Nat->E6} {m:Nat} {g:Nat->E6}:Bn n f m g = true ↔ n = m ∧ ∀ i,i < n->f i = g i:=by
  unfold Bn
  rw [Dl]
  by_cases h:n = m
  · rw [decide_eq_true h]
    show F4 f g n 0 = true ↔ _
    rw [NQ]
    exact ⟨fun h1=>⟨h,fun i hi=>h1 i (Nat.zero_le _) (by omega)⟩,fun h1 j _ h3=>h1.2 j (by omega)⟩
  · rw [decide_eq_false h]
    exact ⟨fun h=>(by cases h),fun h1=>absurd h1.1 h⟩
def Bb (q:Nat->Bool):Nat->Nat->Option Nat
  | 0,_=>none
  | d+1,i=>match q i with
    | true=>some i
    | false=>Bb q d (i+1)
theorem BT {q:Nat->Bool} {d i:Nat} (h:q i = true):Bb q (d+1) i = some i:=by rw [Bb,h]
theorem Bz {q:Nat->Bool} {d i:Nat} (h:q i = false):Bb q (d+1) i = Bb q d (i+1):=by rw [Bb,h]
theorem Gr {a b:Int} (h:ieq a b = true):a = b:=by simpa [ieq] using h
end Go.Proofs.Ytjhnfomefcngfaa.Ed
