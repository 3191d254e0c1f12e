/-
  Least: where the least turned list begins, as the program walks. No conditions.
-/
import Derived.Test.YtjhnfomefcngfaaCyI
namespace Go.Proofs.Ytjhnfomefcngfaa.Ed
open Go.Sy
open Int (ofNat)
def fin102 (r:Nat):Ex × St:=(.rt,⟨(jsV 67 0 (fun _=>.und) [(2,nV r)]),[]⟩)
def lp102 (n:Nat) (h:Nat->Int):Lp:=⟨(bmK 67 0 [0,3,4,5,6]),1,(bmK 67 0 [2]),1,3 * n+4⟩
def st102 (n:Nat) (h:Nat->Int) (i t s:Nat) (j:Nat->V):St:=⟨(jsV 67 0 j [(0,.sl 1 n (fun k=>iV (h k))),(3,nV n),(4,nV i),(5,nV t),(6,nV s)]),[]⟩
noncomputable def body102 (L:LT):St->T (Ex × St):=fun st=>evalC tab ⟨callT tb0,L,Gl⟩ (loopBody (gotoF 0 900 Try.f90) 0) 0 st
section
variable (L:LT) (n:Nat) (h:Nat->Int) (i t s:Nat)  (j:Nat->V)
include L n h i t s j
theorem rl102i (h0:ile (ofNat n) (ofNat i) = true):roundT (body102 L) (lp102 n h) (st102 n h i t s j) = some (.rt,⟨(jsV 67 0 (fun _=>.und) [(2,(iV (sel (ilt (sel (ilt (wr .i64 (isub (ofNat n) 1)) 0) 0 (wr .i64 (isub (ofNat n) 1))) (sel (ilt (ofNat t) (ofNat i)) (ofNat t) (ofNat i))) (sel (ilt (wr .i64 (isub (ofNat n) 1)) 0) 0 (wr .i64 (isub (ofNat n) 1))) (sel (ilt (ofNat t) (ofNat i)) (ofNat t) (ofNat i)))))]),[]⟩):=by
  exact sem_of_path (ds:=bbK 9 511) (cs:=((fun c0 c1=>[c0,c0,c0,c0,c1,c1,c1,c1,c1]) (ile (ofNat n) (ofNat i)) (true))) (by kernel_rfl) (by simp only [h0] <;> rfl)
theorem rl102j (h0:ile (ofNat n) (ofNat i) = false) (h1:ile (ofNat n) (ofNat t) = true):roundT (body102 L) (lp102 n h) (st102 n h i t s j) = some (.rt,⟨(jsV 67 0 (fun _=>.und) [(2,(iV (sel (ilt (sel (ilt (wr .i64 (isub (ofNat n) 1)) 0) 0 (wr .i64 (isub (ofNat n) 1))) (sel (ilt (ofNat t) (ofNat i)) (ofNat t) (ofNat i))) (sel (ilt (wr .i64 (isub (ofNat n) 1)) 0) 0 (wr .i64 (isub (ofNat n) 1))) (sel (ilt (ofNat t) (ofNat i)) (ofNat t) (ofNat i)))))]),[]⟩):=by
  exact sem_of_path (ds:=bbK 9 496) (cs:=((fun c0 c1=>[c0,c0,c0,c0,c1,c1,c1,c1,true]) (ile (ofNat n) (ofNat i)) (ile (ofNat n) (ofNat t)))) (by kernel_rfl) (by simp only [h0,h1] <;> rfl)
theorem rl102s (h0:ile (ofNat n) (ofNat i) = false) (h1:ile (ofNat n) (ofNat t) = false) (h2:ile (ofNat n) (ofNat s) = true):roundT (body102 L) (lp102 n h) (st102 n h i t s j) = some (.rt,⟨(jsV 67 0 (fun _=>.und) [(2,(iV (sel (ilt (sel (ilt (wr .i64 (isub (ofNat n) 1)) 0) 0 (wr .i64 (isub (ofNat n) 1))) (sel (ilt (ofNat t) (ofNat i)) (ofNat t) (ofNat i))) (sel (ilt (wr .i64 (isub (ofNat n) 1)) 0) 0 (wr .i64 (isub (ofNat n) 1))) (sel (ilt (ofNat t) (ofNat i)) (ofNat t) (ofNat i)))))]),[]⟩):=by
  exact sem_of_path (ds:=bbK 9 256) (cs:=((fun c0 c1=>[c0,c0,c0,c0,c1,c1,c1,c1,(ile (ofNat n) (ofNat s))]) (ile (ofNat n) (ofNat i)) (ile (ofNat n) (ofNat t)))) (by kernel_rfl) (by simp only [h0,h1,h2] <;> rfl)
theorem rl102e (h0:ile (ofNat n) (ofNat i) = false) (h1:ile (ofNat n) (ofNat t) = false) (h2:ile (ofNat n) (ofNat s) = false) (h3:ieq (ofNat n) 0 = false) (h4:band (ile 0 (itmod (wr .i64 (iadd (ofNat i) (ofNat s))) (ofNat n))) (ilt (itmod (wr .i64 (iadd (ofNat i) (ofNat s))) (ofNat n)) (ofNat n)) = true) (h5:band (ile 0 (itmod (wr .i64 (iadd (ofNat t) (ofNat s))) (ofNat n))) (ilt (itmod (wr .i64 (iadd (ofNat t) (ofNat s))) (ofNat n)) (ofNat n)) = true) (h6:ieq (h (toN (itmod (wr .i64 (iadd (ofNat i) (ofNat s))) (ofNat n)))) (h (toN (itmod (wr .i64 (iadd (ofNat t) (ofNat s))) (ofNat n)))) = true):roundT (body102 L) (lp102 n h) (st102 n h i t s j) = some (.nm,⟨(jsV 67 0 (fun _=>.und) [(0,(.sl 1 n (fun k=>(iV (h k))))),(3,(nV n)),(4,(nV i)),(5,(nV t)),(6,(iV (wr .i64 (iadd (ofNat s) 1))))]),[]⟩):=by
  exact sem_of_path (ds:=bbK 14 13312) (cs:=((fun c0 c1 c2=>[c0,c0,c0,c0,c1,c1,c1,c1,(ile (ofNat n) (ofNat s)),c2,(band (ile 0 (itmod (wr .i64 (iadd (ofNat i) (ofNat s))) (ofNat n))) (ilt (itmod (wr .i64 (iadd (ofNat i) (ofNat s))) (ofNat n)) (ofNat n))),c2,(band (ile 0 (itmod (wr .i64 (iadd (ofNat t) (ofNat s))) (ofNat n))) (ilt (itmod (wr .i64 (iadd (ofNat t) (ofNat s))) (ofNat n)) (ofNat n))),(ieq (h (toN (itmod (wr .i64 (iadd (ofNat i) (ofNat s))) (ofNat n)))) (h (toN (itmod (wr .i64 (iadd (ofNat t) (ofNat s))) (ofNat n)))))]) (ile (ofNat n) (ofNat i)) (ile (ofNat n) (ofNat t)) (ieq (ofNat n) 0))) (by kernel_rfl) (by simp only [h4,h5] <;> simp only [h0,h1,h2,h3,h6] <;> rfl)
theorem rl102g (h0:ile (ofNat n) (ofNat i) = false) (h1:ile (ofNat n) (ofNat t) = false) (h2:ile (ofNat n) (ofNat s) = false) (h3:ieq (ofNat n) 0 = false) (h4:band (ile 0 (itmod (wr .i64 (iadd (ofNat i) (ofNat s))) (ofNat n))) (ilt (itmod (wr .i64 (iadd (ofNat i) (ofNat s))) (ofNat n)) (ofNat n)) = true) (h5:band (ile 0 (itmod (wr .i64 (iadd (ofNat t) (ofNat s))) (ofNat n))) (ilt (itmod (wr .i64 (iadd (ofNat t) (ofNat s))) (ofNat n)) (ofNat n)) = true) (h6:ieq (h (toN (itmod (wr .i64 (iadd (ofNat i) (ofNat s))) (ofNat n)))) (h (toN (itmod (wr .i64 (iadd (ofNat t) (ofNat s))) (ofNat n)))) = false) (h7:ilt (h (toN (itmod (wr .i64 (iadd (ofNat t) (ofNat s))) (ofNat n)))) (h (toN (itmod (wr .i64 (iadd (ofNat i) (ofNat s))) (ofNat n)))) = true) (h8:ieq (wr .i64 (iadd (ofNat i) (wr .i64 (iadd (ofNat s) 1)))) (ofNat t) = false):roundT (body102 L) (lp102 n h) (st102 n h i t s j) = some (.nm,⟨(jsV 67 0 (fun _=>.und) [(0,(.sl 1 n (fun k=>(iV (h k))))),(3,(nV n)),(4,(iV (wr .i64 (iadd (ofNat i) (wr .i64 (iadd (ofNat s) 1)))))),(5,(nV t)),(6,(iV 0))]),[]⟩):=by
  exact sem_of_path (ds:=bbK 16 21504) (cs:=((fun c0 c1 c2=>[c0,c0,c0,c0,c1,c1,c1,c1,(ile (ofNat n) (ofNat s)),c2,(band (ile 0 (itmod (wr .i64 (iadd (ofNat i) (ofNat s))) (ofNat n))) (ilt (itmod (wr .i64 (iadd (ofNat i) (ofNat s))) (ofNat n)) (ofNat n))),c2,(band (ile 0 (itmod (wr .i64 (iadd (ofNat t) (ofNat s))) (ofNat n))) (ilt (itmod (wr .i64 (iadd (ofNat t) (ofNat s))) (ofNat n)) (ofNat n))),(ieq (h (toN (itmod (wr .i64 (iadd (ofNat i) (ofNat s))) (ofNat n)))) (h (toN (itmod (wr .i64 (iadd (ofNat t) (ofNat s))) (ofNat n))))),(ilt (h (toN (itmod (wr .i64 (iadd (ofNat t) (ofNat s))) (ofNat n)))) (h (toN (itmod (wr .i64 (iadd (ofNat i) (ofNat s))) (ofNat n))))),(ieq (wr .i64 (iadd (ofNat i) (wr .i64 (iadd (ofNat s) 1)))) (ofNat t))]) (ile (ofNat n) (ofNat i)) (ile (ofNat n) (ofNat t)) (ieq (ofNat n) 0))) (by kernel_rfl) (by simp only [h4,h5] <;> simp only [h0,h1,h2,h3,h6,h7,h8] <;> rfl)
theorem rl102gq (h0:ile (ofNat n) (ofNat i) = false) (h1:ile (ofNat n) (ofNat t) = false) (h2:ile (ofNat n) (ofNat s) = false) (h3:ieq (ofNat n) 0 = false) (h4:band (ile 0 (itmod (wr .i64 (iadd (ofNat i) (ofNat s))) (ofNat n))) (ilt (itmod (wr .i64 (iadd (ofNat i) (ofNat s))) (ofNat n)) (ofNat n)) = true) (h5:band (ile 0 (itmod (wr .i64 (iadd (ofNat t) (ofNat s))) (ofNat n))) (ilt (itmod (wr .i64 (iadd (ofNat t) (ofNat s))) (ofNat n)) (ofNat n)) = true) (h6:ieq (h (toN (itmod (wr .i64 (iadd (ofNat i) (ofNat s))) (ofNat n)))) (h (toN (itmod (wr .i64 (iadd (ofNat t) (ofNat s))) (ofNat n)))) = false) (h7:ilt (h (toN (itmod (wr .i64 (iadd (ofNat t) (ofNat s))) (ofNat n)))) (h (toN (itmod (wr .i64 (iadd (ofNat i) (ofNat s))) (ofNat n)))) = true) (h8:ieq (wr .i64 (iadd (ofNat i) (wr .i64 (iadd (ofNat s) 1)))) (ofNat t) = true):roundT (body102 L) (lp102 n h) (st102 n h i t s j) = some (.nm,⟨(jsV 67 0 (fun _=>.und) [(0,(.sl 1 n (fun k=>(iV (h k))))),(3,(nV n)),(4,(iV (wr .i64 (iadd (ofNat i) (wr .i64 (iadd (ofNat s) 1)))))),(5,(iV (wr .i64 (iadd (ofNat t) 1)))),(6,(iV 0))]),[]⟩):=by
  exact sem_of_path (ds:=bbK 16 54272) (cs:=((fun c0 c1 c2=>[c0,c0,c0,c0,c1,c1,c1,c1,(ile (ofNat n) (ofNat s)),c2,(band (ile 0 (itmod (wr .i64 (iadd (ofNat i) (ofNat s))) (ofNat n))) (ilt (itmod (wr .i64 (iadd (ofNat i) (ofNat s))) (ofNat n)) (ofNat n))),c2,(band (ile 0 (itmod (wr .i64 (iadd (ofNat t) (ofNat s))) (ofNat n))) (ilt (itmod (wr .i64 (iadd (ofNat t) (ofNat s))) (ofNat n)) (ofNat n))),(ieq (h (toN (itmod (wr .i64 (iadd (ofNat i) (ofNat s))) (ofNat n)))) (h (toN (itmod (wr .i64 (iadd (ofNat t) (ofNat s))) (ofNat n))))),(ilt (h (toN (itmod (wr .i64 (iadd (ofNat t) (ofNat s))) (ofNat n)))) (h (toN (itmod (wr .i64 (iadd (ofNat i) (ofNat s))) (ofNat n))))),(ieq (wr .i64 (iadd (ofNat i) (wr .i64 (iadd (ofNat s) 1)))) (ofNat t))]) (ile (ofNat n) (ofNat i)) (ile (ofNat n) (ofNat t)) (ieq (ofNat n) 0))) (by kernel_rfl) (by simp only [h4,h5] <;> simp only [h0,h1,h2,h3,h6,h7,h8] <;> rfl)
theorem rl102l (h0:ile (ofNat n) (ofNat i) = false) (h1:ile (ofNat n) (ofNat t) = false) (h2:ile (ofNat n) (ofNat s) = false) (h3:ieq (ofNat n) 0 = false) (h4:band (ile 0 (itmod (wr .i64 (iadd (ofNat i) (ofNat s))) (ofNat n))) (ilt (itmod (wr .i64 (iadd (ofNat i) (ofNat s))) (ofNat n)) (ofNat n)) = true) (h5:band (ile 0 (itmod (wr .i64 (iadd (ofNat t) (ofNat s))) (ofNat n))) (ilt (itmod (wr .i64 (iadd (ofNat t) (ofNat s))) (ofNat n)) (ofNat n)) = true) (h6:ieq (h (toN (itmod (wr .i64 (iadd (ofNat i) (ofNat s))) (ofNat n)))) (h (toN (itmod (wr .i64 (iadd (ofNat t) (ofNat s))) (ofNat n)))) = false) (h7:ilt (h (toN (itmod (wr .i64 (iadd (ofNat t) (ofNat s))) (ofNat n)))) (h (toN (itmod (wr .i64 (iadd (ofNat i) (ofNat s))) (ofNat n)))) = false) (h8:ieq (ofNat i) (wr .i64 (iadd (ofNat t) (wr .i64 (iadd (ofNat s) 1)))) = false):roundT (body102 L) (lp102 n h) (st102 n h i t s j) = some (.nm,⟨(jsV 67 0 (fun _=>.und) [(0,(.sl 1 n (fun k=>(iV (h k))))),(3,(nV n)),(4,(nV i)),(5,(iV (wr .i64 (iadd (ofNat t) (wr .i64 (iadd (ofNat s) 1)))))),(6,(iV 0))]),[]⟩):=by
  exact sem_of_path (ds:=bbK 16 5120) (cs:=((fun c0 c1 c2=>[c0,c0,c0,c0,c1,c1,c1,c1,(ile (ofNat n) (ofNat s)),c2,(band (ile 0 (itmod (wr .i64 (iadd (ofNat i) (ofNat s))) (ofNat n))) (ilt (itmod (wr .i64 (iadd (ofNat i) (ofNat s))) (ofNat n)) (ofNat n))),c2,(band (ile 0 (itmod (wr .i64 (iadd (ofNat t) (ofNat s))) (ofNat n))) (ilt (itmod (wr .i64 (iadd (ofNat t) (ofNat s))) (ofNat n)) (ofNat n))),(ieq (h (toN (itmod (wr .i64 (iadd (ofNat i) (ofNat s))) (ofNat n)))) (h (toN (itmod (wr .i64 (iadd (ofNat t) (ofNat s))) (ofNat n))))),(ilt (h (toN (itmod (wr .i64 (iadd (ofNat t) (ofNat s))) (ofNat n)))) (h (toN (itmod (wr .i64 (iadd (ofNat i) (ofNat s))) (ofNat n))))),(ieq (ofNat i) (wr .i64 (iadd (ofNat t) (wr .i64 (iadd (ofNat s) 1)))))]) (ile (ofNat n) (ofNat i)) (ile (ofNat n) (ofNat t)) (ieq (ofNat n) 0))) (by kernel_rfl) (by simp only [h4,h5] <;> simp only [h0,h1,h2,h3,h6,h7,h8] <;> rfl)
theorem rl102lq (h0:ile (ofNat n) (ofNat i) = false) (h1:ile (ofNat n) (ofNat t) = false) (h2:ile (ofNat n) (ofNat s) = false) (h3:ieq (ofNat n) 0 = false) (h4:band (ile 0 (itmod (wr .i64 (iadd (ofNat i) (ofNat s))) (ofNat n))) (ilt (itmod (wr .i64 (iadd (ofNat i) (ofNat s))) (ofNat n)) (ofNat n)) = true) (h5:band (ile 0 (itmod (wr .i64 (iadd (ofNat t) (ofNat s))) (ofNat n))) (ilt (itmod (wr .i64 (iadd (ofNat t) (ofNat s))) (ofNat n)) (ofNat n)) = true) (h6:ieq (h (toN (itmod (wr .i64 (iadd (ofNat i) (ofNat s))) (ofNat n)))) (h (toN (itmod (wr .i64 (iadd (ofNat t) (ofNat s))) (ofNat n)))) = false) (h7:ilt (h (toN (itmod (wr .i64 (iadd (ofNat t) (ofNat s))) (ofNat n)))) (h (toN (itmod (wr .i64 (iadd (ofNat i) (ofNat s))) (ofNat n)))) = false) (h8:ieq (ofNat i) (wr .i64 (iadd (ofNat t) (wr .i64 (iadd (ofNat s) 1)))) = true):roundT (body102 L) (lp102 n h) (st102 n h i t s j) = some (.nm,⟨(jsV 67 0 (fun _=>.und) [(0,(.sl 1 n (fun k=>(iV (h k))))),(3,(nV n)),(4,(nV i)),(5,(iV (wr .i64 (iadd (wr .i64 (iadd (ofNat t) (wr .i64 (iadd (ofNat s) 1)))) 1)))),(6,(iV 0))]),[]⟩):=by
  exact sem_of_path (ds:=bbK 16 37888) (cs:=((fun c0 c1 c2=>[c0,c0,c0,c0,c1,c1,c1,c1,(ile (ofNat n) (ofNat s)),c2,(band (ile 0 (itmod (wr .i64 (iadd (ofNat i) (ofNat s))) (ofNat n))) (ilt (itmod (wr .i64 (iadd (ofNat i) (ofNat s))) (ofNat n)) (ofNat n))),c2,(band (ile 0 (itmod (wr .i64 (iadd (ofNat t) (ofNat s))) (ofNat n))) (ilt (itmod (wr .i64 (iadd (ofNat t) (ofNat s))) (ofNat n)) (ofNat n))),(ieq (h (toN (itmod (wr .i64 (iadd (ofNat i) (ofNat s))) (ofNat n)))) (h (toN (itmod (wr .i64 (iadd (ofNat t) (ofNat s))) (ofNat n))))),(ilt (h (toN (itmod (wr .i64 (iadd (ofNat t) (ofNat s))) (ofNat n)))) (h (toN (itmod (wr .i64 (iadd (ofNat i) (ofNat s))) (ofNat n))))),(ieq (ofNat i) (wr .i64 (iadd (ofNat t) (wr .i64 (iadd (ofNat s) 1)))))]) (ile (ofNat n) (ofNat i)) (ile (ofNat n) (ofNat t)) (ieq (ofNat n) 0))) (by kernel_rfl) (by simp only [h4,h5] <;> simp only [h0,h1,h2,h3,h6,h7,h8] <;> rfl)
end
def jk102 (n:Nat) (h:Nat->Int) :Nat->V:=lkV undefV [(2,(iV 0)),(9,(.sl 1 n (fun k=>(iV (h k))))),(10,(nV n))]
theorem wc102 (L:LT) (p0:PT) (n:Nat) (h:Nat->Int) (r:Nat)  (hp0:p0 (body102 (onP 0 p0 (fin102 r) L)) (st102 n h 0 1 0 (jk102 n h )) = true):(finF (evalF tab ⟨callT tb0,(onP 0 p0 (fin102 r) L),Gl⟩ (gotoF 0 900 Try.f90) [.sl 1 n (fun k=>iV (h k))] [])).sem = some ((nV r),[]):=by
  exact sem_of_path (ds:=[true]) (cs:=[(p0 (body102 (onP 0 p0 (fin102 r) L)) (st102 n h 0 1 0 (jk102 n h )))]) (by kernel_rfl) (by simp only [hp0] <;> rfl)
def leastG (n:Nat) (h:Nat->Int):Nat->Nat->Nat->Nat->Nat
  | 0,_,_,_=>0
  | q+1,i,t,s =>
    if n <= i ∨ n <= t ∨ n <= s then min (min i t) (n - 1)
    else if h ((i+s) % n) = h ((t+s) % n) then leastG n h q i t (s+1)
    else if h ((t+s) % n) < h ((i+s) % n) then leastG n h q (i+s+1) (if i+s+1 = t then t+1 else t) 0
    else leastG n h q i (if i = t+s+1 then t+s+2 else t+s+1) 0
def leastN (n:Nat) (h:Nat->Int):Nat:=leastG n h (3 * n+4) 0 1 0
theorem wr_add {a b:Nat} (h:a+b <= 9223372036854775807):wr .i64 (iadd (ofNat a) (ofNat b)) = ofNat (a+b):=by
  unfold wr iadd IntKind.wrap
  simp [IntKind.bits,IntKind.signed]
  omega
theorem wr_one {a:Nat} (h:a+1 <= 9223372036854775807):wr .i64 (iadd (ofNat a) 1) = ofNat (a+1):=wr_add (b:=1) h
theorem mod_nat (a n:Nat):itmod (ofNat a) (ofNat n) = ofNat (a % n):=rfl
theorem ieq_nat (a b:Nat):ieq (ofNat a) (ofNat b) = decide (a = b):=by
  simp only [ieq,Int.ofNat_eq_natCast]
  by_cases h:a = b
  · simp [h]
  · rw [decide_eq_false h]
    simp
    omega
theorem ile_nat (a b:Nat):ile (ofNat a) (ofNat b) = decide (a <= b):=by
  simp [ile]
theorem ilt_nat (a b:Nat):ilt (ofNat a) (ofNat b) = decide (a < b):=by
  simp [ilt]
theorem min3 (n i t:Nat) (hn:n <= 1152921504606846976):sel (ilt (sel (ilt (wr .i64 (isub (ofNat n) 1)) 0) 0 (wr .i64 (isub (ofNat n) 1))) (sel (ilt (ofNat t) (ofNat i)) (ofNat t) (ofNat i))) (sel (ilt (wr .i64 (isub (ofNat n) 1)) 0) 0 (wr .i64 (isub (ofNat n) 1))) (sel (ilt (ofNat t) (ofNat i)) (ofNat t) (ofNat i)) = ofNat (min (min i t) (n - 1)):=by
  have h1:wr .i64 (isub (ofNat n) 1) = (n:Int) - 1:=by
    unfold wr isub IntKind.wrap
    simp [IntKind.bits,IntKind.signed]
    omega
  rw [h1]
  simp only [sel,ilt,Bool.cond_decide,Int.ofNat_eq_natCast]
  omega
theorem run102 (L:LT) (n:Nat) (h:Nat->Int) (hn:n <= 1152921504606846976):∀ (q i t s:Nat) (j:Nat->V),i <= 2 * n->t <= 2 * n+1->s <= n->3 * n+1 - (i+t+s) < q ->
    (iterT (body102 L) (lp102 n h) q (st102 n h i t s j)).sem = some (fin102 (leastG n h q i t s))
  | 0,_,_,_,_,_,_,_,h4=>absurd h4 (Nat.not_lt_zero _)
  | q+1,i,t,s,j,hi,ht,hs,h4=>by
    by_cases ci:n <= i
    · rw [iter_round (rl102i L n h i t s j (by rw [ile_nat,decide_eq_true ci])),goOn_rt,min3 n i t hn,leastG,if_pos (.inl ci)]
      rfl
    · have ci0:ile (ofNat n) (ofNat i) = false:=by rw [ile_nat,decide_eq_false ci]
      by_cases ct:n <= t
      · rw [iter_round (rl102j L n h i t s j ci0 (by rw [ile_nat,decide_eq_true ct])),goOn_rt,min3 n i t hn,leastG,if_pos (.inr (.inl ct))]
        rfl
      · have ct0:ile (ofNat n) (ofNat t) = false:=by rw [ile_nat,decide_eq_false ct]
        by_cases cs:n <= s
        · rw [iter_round (rl102s L n h i t s j ci0 ct0 (by rw [ile_nat,decide_eq_true cs])),goOn_rt,min3 n i t hn,leastG,if_pos (.inr (.inr cs))]
          rfl
        · have cs0:ile (ofNat n) (ofNat s) = false:=by rw [ile_nat,decide_eq_false cs]
          have cn0:ieq (ofNat n) 0 = false:=by
            rw [show (0:Int) = ofNat 0 from rfl,ieq_nat,decide_eq_false (by omega)]
          have e1:itmod (wr .i64 (iadd (ofNat i) (ofNat s))) (ofNat n) = ofNat ((i+s) % n):=by rw [wr_add (by omega),mod_nat]
          have e2:itmod (wr .i64 (iadd (ofNat t) (ofNat s))) (ofNat n) = ofNat ((t+s) % n):=by rw [wr_add (by omega),mod_nat]
          have b1:band (ile 0 (itmod (wr .i64 (iadd (ofNat i) (ofNat s))) (ofNat n))) (ilt (itmod (wr .i64 (iadd (ofNat i) (ofNat s))) (ofNat n)) (ofNat n)) = true:=by
            rw [e1]; exact ofNat_in (Nat.mod_lt _ (by omega))
          have b2:band (ile 0 (itmod (wr .i64 (iadd (ofNat t) (ofNat s))) (ofNat n))) (ilt (itmod (wr .i64 (iadd (ofNat t) (ofNat s))) (ofNat n)) (ofNat n)) = true:=by
            rw [e2]; exact ofNat_in (Nat.mod_lt _ (by omega))
          have t1:∀ a:Nat,toN (ofNat a) = a:=fun _=>rfl
          have u1:wr .i64 (iadd (ofNat i) (wr .i64 (iadd (ofNat s) 1))) = ofNat (i+s+1):=by rw [wr_one (by omega),wr_add (by omega)]; rfl
          have u2:wr .i64 (iadd (ofNat t) (wr .i64 (iadd (ofNat s) 1))) = ofNat (t+s+1):=by rw [wr_one (by omega),wr_add (by omega)]; rfl
          rw [leastG,if_neg (by omega)]
          by_cases ce:h ((i+s) % n) = h ((t+s) % n)
          · rw [if_pos ce,iter_round (rl102e L n h i t s j ci0 ct0 cs0 cn0 b1 b2 (by rw [e1,e2,t1,t1]; simp [ieq,ce])),goOn_nm,wr_one (by omega)]
            exact run102 L n h hn q i t (s+1) (fun _=>.und) hi ht (by omega) (by omega)
          · have ce0:ieq (h (toN (itmod (wr .i64 (iadd (ofNat i) (ofNat s))) (ofNat n)))) (h (toN (itmod (wr .i64 (iadd (ofNat t) (ofNat s))) (ofNat n)))) = false:=by
              rw [e1,e2,t1,t1]; simp [ieq,ce]
            rw [if_neg ce]
            by_cases cg:h ((t+s) % n) < h ((i+s) % n)
            · have cg0:ilt (h (toN (itmod (wr .i64 (iadd (ofNat t) (ofNat s))) (ofNat n)))) (h (toN (itmod (wr .i64 (iadd (ofNat i) (ofNat s))) (ofNat n)))) = true:=by
                rw [e1,e2,t1,t1]; simp [ilt,cg]
              rw [if_pos cg]
              by_cases cq:i+s+1 = t
              · rw [if_pos cq,iter_round (rl102gq L n h i t s j ci0 ct0 cs0 cn0 b1 b2 ce0 cg0 (by rw [u1,ieq_nat,decide_eq_true cq])),goOn_nm,u1,wr_one (by omega)]
                exact run102 L n h hn q (i+s+1) (t+1) 0 (fun _=>.und) (by omega) (by omega) (by omega) (by omega)
              · rw [if_neg cq,iter_round (rl102g L n h i t s j ci0 ct0 cs0 cn0 b1 b2 ce0 cg0 (by rw [u1,ieq_nat,decide_eq_false cq])),goOn_nm,u1]
                exact run102 L n h hn q (i+s+1) t 0 (fun _=>.und) (by omega) (by omega) (by omega) (by omega)
            · have cg0:ilt (h (toN (itmod (wr .i64 (iadd (ofNat t) (ofNat s))) (ofNat n)))) (h (toN (itmod (wr .i64 (iadd (ofNat i) (ofNat s))) (ofNat n)))) = false:=by
                rw [e1,e2,t1,t1]; simp [ilt]; omega
              rw [if_neg cg]
              by_cases cq:i = t+s+1
              · rw [if_pos cq,iter_round (rl102lq L n h i t s j ci0 ct0 cs0 cn0 b1 b2 ce0 cg0 (by rw [u2,ieq_nat,decide_eq_true cq])),goOn_nm,u2,wr_one (by omega)]
                exact run102 L n h hn q i (t+s+2) 0 (fun _=>.und) (by omega) (by omega) (by omega) (by omega)
              · rw [if_neg cq,iter_round (rl102l L n h i t s j ci0 ct0 cs0 cn0 b1 b2 ce0 cg0 (by rw [u2,ieq_nat,decide_eq_false cq])),goOn_nm,u2]
                exact run102 L n h hn q i (t+s+1) 0 (fun _=>.und) (by omega) (by omega) (by omega) (by omega)
def fitL (n:Nat):Bool:=decide (n <= 1152921504606846976)
def leastT:List V->T (V × List Blk):=apI1 fun n h=>.br (fitL n) (out (iV (ofNat (leastN n h)))) .fail
theorem p102:PureC Try.prog Gl 90 leastT:=by
  refine pureG_intro (p:=match Try.f90.body with | some (.seq p _)=>p | _=>.skip) (c:=match Try.f90.body with | some (.seq _ (.scope c))=>c | _=>.skip) (d:=match (match Try.f90.body with | some (.seq _ (.scope c))=>behindL 0 c | _=>none) with | some d=>d | none=>.skip) tabOK mixed Try.func90 0 900 (by kernel_rfl) (by kernel_rfl) (by kernel_rfl) (by kernel_rfl) fun vs v h' h=>?_
  obtain ⟨n,f,ha,h1⟩:=apI1_some h
  obtain ⟨hn,hq⟩:=sem_br_fail h1
  have:=sem_leaf hq
  simp only [Prod.mk.injEq] at this
  obtain ⟨rfl,rfl⟩:=this
  have hn:n <= 1152921504606846976:=by simpa [fitL] using hn
  have hx:=cx_ok tb0_ok [(0,lp102 n f)]
  exact ⟨_,cxOf Gl tb0 [(0,lp102 n f)],_,ha,rfl,hx.1,hx.2,told_le (onP_le (loopsBy_le _) (loopsBy_le _)) _ (wc102 _ _ n f _ (isP_true (run102 _ n f hn (3 * n+4) 0 1 0 (jk102 n f) (by omega) (by omega) (by omega) (by omega)))),RowsLE.refl _⟩
end Go.Proofs.Ytjhnfomefcngfaa.Ed
namespace Go.Proofs.Ytjhnfomefcngfaa.Ed
open Go.Sy
open Int (ofNat)
theorem growGet_eq (n m:Nat) (gx g:Nat->V) (i:Nat) (h:i < n+m):growGet n m gx g i = bif Nat.blt i n then gx i else g (i - n):=by
  cases hb:Nat.blt i n with
  | true=>exact growGet_lt n m gx g i (Nat.blt_eq ▸ hb)
  | false =>
    have h1:n <= i:=by
      rcases Nat.lt_or_ge i n with h2 | h2
      · rw [show Nat.blt i n = true from Nat.blt_eq ▸ h2] at hb; cases hb
      · exact h2
    have:=growGet_ge n m gx g (i - n) (by omega)
    rw [show n+(i - n) = i by omega] at this
    exact this
theorem turned_row {α:Type} (n k:Nat) (z:Nat->V) (h:Nat->α) (e:α->V) (hk:k < n ∨ n = 0 ∧ k = 0):nadd (nadd 0 (nsub n k)) k = n ∧ ∀ j,j < n ->
    growGet (nadd 0 (nsub n k)) k (growGet 0 (nsub n k) z (fun i=>e (h (nadd k i)))) (fun i=>e (h i)) j = e (h ((k+j) % n)):=by
  have h1:nadd 0 (nsub n k) = n - k:=by simp [nadd,nsub]
  have h2:nsub n k = n - k:=rfl
  refine ⟨by rw [h1]; show n - k+k = n; omega,fun j hj=>?_⟩
  rw [h1,h2,growGet_eq _ _ _ _ j (by omega)]
  cases hb:Nat.blt j (n - k) with
  | true =>
    have hb:j < n - k:=Nat.blt_eq ▸ hb
    show growGet 0 (n - k) z (fun i=>e (h (nadd k i))) j = _
    rw [growGet_eq _ _ _ _ j (by omega)]
    show e (h (k+(j - 0))) = _
    rw [Nat.mod_eq_of_lt (by omega),Nat.sub_zero]
  | false =>
    have hb:n - k <= j:=by
      rcases Nat.lt_or_ge j (n - k) with h3 | h3
      · rw [show Nat.blt j (n - k) = true from Nat.blt_eq ▸ h3] at hb; cases hb
      · exact h3
    show e (h (j - (n - k))) = _
    rw [show k+j = j - (n - k)+n by omega,Nat.add_mod_right,Nat.mod_eq_of_lt (by omega)]
def fit8 (n:Nat):Bool:=decide (n * 8 <= 140737488355328)
theorem fit8_small {n:Nat} (h:fit8 n = true):n <= 4611686018427387904:=by
  have h:n * 8 <= 140737488355328:=of_decide_eq_true h
  omega
theorem fit8_s {n:Nat} (h:fit8 n = true):smallN n = true:=decide_eq_true (fit8_small h)
theorem fit8_l {n:Nat} (h:fit8 n = true):fitL n = true:=by
  have h:n * 8 <= 140737488355328:=of_decide_eq_true h
  exact decide_eq_true (by omega)
theorem fitN_8 {n:Nat} (h:fitN n = true):fit8 n = true:=by
  have h:n * 40 <= 140737488355328:=of_decide_eq_true h
  exact decide_eq_true (by omega)
theorem leastG_le (n:Nat) (h:Nat->Int):∀ q i t s,leastG n h q i t s <= n - 1
  | 0,_,_,_=>Nat.zero_le _
  | q+1,i,t,s=>by
    unfold leastG
    split
    · omega
    · split
      · exact leastG_le n h q _ _ _
      · split <;> exact leastG_le n h q _ _ _
theorem leastN_le (n:Nat) (h:Nat->Int):leastN n h <= n - 1:=leastG_le n h _ _ _ _
theorem leastN_ok (n:Nat) (h:Nat->Int):leastN n h < n ∨ n = 0 ∧ leastN n h = 0:=by
  have:=leastN_le n h
  omega
def lp101 (n:Nat) (f:Nat->E6):Lp:=⟨(bmK 28 0 [0,2,3,4,9,10,11]),2,(bmK 28 0 [2,3,4]),4,n+1⟩
def st101 (n:Nat) (f:Nat->E6) (i k:Nat) (x:Nat->V) (j:Nat->V):St:=⟨(jsV 28 0 j [(0,.sl 6 n fun i=>eV (f i)),(2,.ref 0),(3,iV 0),(4,.ref 1),(9,.sl 6 n fun i=>eV (f i)),(10,nV n),(11,nV i)]),[.row 3 1 0 fun _=>.und,.row 3 1 k x]⟩
def en101a (n:Nat) (f:Nat->E6) (i k:Nat) (x:Nat->V):Ex × St:=(.ex 0,⟨(jsV 28 0 (fun _=>.und) [(2,.ref 0),(3,iV 0),(4,.ref 1)]),[.row 3 1 0 fun _=>.und,.row 3 1 k x]⟩)
def en101b (n:Nat) (f:Nat->E6) (i k:Nat) (x:Nat->V):Ex × St:=(.rt,⟨(jsV 28 0 (fun _=>.und) [(2,.ref 3),(3,iV 30),(4,.ref 1)]),[.row 3 1 0 fun _=>.und,.row 3 1 k x,.cells [(iV ((f i)).kind),(bV ((f i)).ext),(bV ((f i)).same),(iV ((f i)).src),(iV ((f i)).dst),(iV ((f i)).fence)],.row 3 1 0 fun _=>.und]⟩)
noncomputable def body101 (L:LT):St->T (Ex × St):=fun st=>evalC tab ⟨callT tb8,L,Gl⟩ (loopBody Try.f89 0) 0 st
theorem round101 (L:LT) (n:Nat) (f:Nat->E6) (i k:Nat) (x:Nat->V) (j:Nat->V):roundT (body101 L) (lp101 n f) (st101 n f i k x j)
 = (sel (ilt (ofNat i) (ofNat n)) (sel (band (ile 0 (ofNat i)) (ilt (ofNat i) (ofNat n))) (sel (bnot (ieq (codeF (f i)) 0)) (some (.rt,⟨[.und,.und,(.ref 3),(iV 30),(.ref 1),.und,.und,.und,.und,.und,.und,.und,.und,.und,.und,.und,.und,.und,.und,.und,.und,.und,.und,.und,.und,.und,.und,.und],[(.row 3 1 0 (fun _=>.und)),(.row 3 1 k x),(.cells [(iV ((f i)).kind),(bV ((f i)).ext),(bV ((f i)).same),(iV ((f i)).src),(iV ((f i)).dst),(iV ((f i)).fence)]),(.row 3 1 0 (fun _=>.und))]⟩)) (sel (apOK k 1 8) (some (.nm,⟨[(.sl 6 n (fun i=>(eV (f i)))),.und,(.ref 0),(iV 0),(.ref 1),.und,.und,.und,.und,(.sl 6 n (fun i=>(eV (f i)))),(nV n),(iV (wr .i64 (iadd (ofNat i) 1))),.und,.und,.und,.und,.und,.und,.und,.und,.und,.und,.und,.und,.und,.und,.und,.und],[(.row 3 1 0 (fun _=>.und)),(.row 3 1 (nadd k 1) (pushGet k x (iV (codeN (f i)))))]⟩)) none)) none) (some ((.ex 0),⟨[.und,.und,(.ref 0),(iV 0),(.ref 1),.und,.und,.und,.und,.und,.und,.und,.und,.und,.und,.und,.und,.und,.und,.und,.und,.und,.und,.und,.und,.und,.und,.und],[(.row 3 1 0 (fun _=>.und)),(.row 3 1 k x)]⟩))):=by kernel_rfl
def jk101 (n:Nat) (f:Nat->E6) :Nat->V:=lkV undefV []
section
variable (L:LT) (p0:PT) (n:Nat) (f:Nat->E6) (i k:Nat) (x:Nat->V)
include L p0 n f i k x
theorem wc101a  (hp0:p0 (body101 (onP 0 p0 (en101a n f i k x) L)) (st101 n f 0 0 (fun _=>.und) (jk101 n f )) = true):(finF (evalF tab ⟨callT tb8,(onP 0 p0 (en101a n f i k x) L),Gl⟩ Try.f89 [edgesV n f] [])).sem = some ((.tup [(.ref 0),(iV 0)]),[(.row 3 1 k x)]):=by
  exact sem_of_path (ds:=[true]) (cs:=[(p0 (body101 (onP 0 p0 (en101a n f i k x) L)) (st101 n f 0 0 (fun _=>.und) (jk101 n f )))]) (by kernel_rfl) (by simp only [hp0] <;> rfl)
theorem wc101b  (hp0:p0 (body101 (onP 0 p0 (en101b n f i k x) L)) (st101 n f 0 0 (fun _=>.und) (jk101 n f )) = true):(finF (evalF tab ⟨callT tb8,(onP 0 p0 (en101b n f i k x) L),Gl⟩ Try.f89 [edgesV n f] [])).sem = some ((.tup [(.ref 0),(iV 30)]),[(.row 3 1 0 (fun _=>.und))]):=by
  exact sem_of_path (ds:=[true]) (cs:=[(p0 (body101 (onP 0 p0 (en101b n f i k x) L)) (st101 n f 0 0 (fun _=>.und) (jk101 n f )))]) (by kernel_rfl) (by simp only [hp0] <;> rfl)
end
theorem run101a (L:LT) (n:Nat) (f:Nat->E6) (hn:fitN n = true) (ho:∀ t,t < n->codeF (f t) = 0):∀ (d i:Nat) (j:Nat->V) (q:Nat),n = i+d->d < q ->
    (iterT (body101 L) (lp101 n f) q (st101 n f i i (pushN (cdV f) i) j)).sem = some (en101a n f 0 n (pushN (cdV f) n))
  | 0,i,j,q+1,h1,_=>by
    have hi:i = n:=by omega
    subst hi
    rw [iter_round (round101 L i f i i _ j),ofNat_ge (Nat.le_refl i)]
    rfl
  | d+1,i,j,q+1,h1,h2=>by
    have hi:i < n:=by omega
    rw [iter_round (round101 L n f i i _ j),ofNat_in hi,ofNat_lt hi,ap_fit hi (by decide) (of_decide_eq_true hn),succ_wr hi (fit_small hn),ho i hi]
    exact run101a L n f hn ho d (i+1) (fun _=>.und) q (by omega) (by omega)
theorem run101b (L:LT) (n:Nat) (f:Nat->E6) (hn:fitN n = true) (e:Nat) (he:e < n) (hb:codeF (f e) = 30) (ho:∀ t,t < e->codeF (f t) = 0):∀ (d i:Nat) (j:Nat->V) (q:Nat),e = i+d->d < q ->
    (iterT (body101 L) (lp101 n f) q (st101 n f i i (pushN (cdV f) i) j)).sem = some (en101b n f e e (pushN (cdV f) e))
  | 0,i,j,q+1,h1,_=>by
    have hi:i = e:=by omega
    subst hi
    rw [iter_round (round101 L n f i i _ j),ofNat_in he,ofNat_lt he,hb]
    rfl
  | d+1,i,j,q+1,h1,h2=>by
    have hi:i < n:=by omega
    rw [iter_round (round101 L n f i i _ j),ofNat_in hi,ofNat_lt hi,ap_fit hi (by decide) (of_decide_eq_true hn),succ_wr hi (fit_small hn),ho i (by omega)]
    exact run101b L n f hn e he hb ho d (i+1) (fun _=>.und) q (by omega) (by omega)
theorem p101:PureC Try.prog Gl 89 codesT:=by
  refine pureC_intro tabOK mixed Try.func89 (by kernel_rfl) (by kernel_rfl) fun vs v h' h=>?_
  obtain ⟨n,f,ha,h⟩:=apL1_some h
  obtain ⟨hn,h⟩:=sem_br_fail h
  have hx:=cx_ok tb8_ok [(0,lp101 n f)]
  cases hm:mayN n f with
  | true =>
    rw [hm] at h
    have:=sem_leaf h
    simp only [Prod.mk.injEq] at this
    obtain ⟨rfl,rfl⟩:=this
    exact ⟨_,cx9 [(0,lp101 n f)],_,ha,rfl,hx.1,hx.2,told_le (onP_le (loopsBy_le _) (loopsBy_le _)) _ (wc101a _ _ n f 0 n _ (isP_true (run101a _ n f hn (mayN_iff.1 hm) n 0 (jk101 n f) (n+1) (by omega) (by omega)))),
      RowsLE.one fun j hj=>(pushN_eq (cdV f) n j hj).symm⟩
  | false =>
    rw [hm] at h
    have:=sem_leaf h
    simp only [Prod.mk.injEq] at this
    obtain ⟨rfl,rfl⟩:=this
    obtain ⟨e,h1,h2,h3⟩:=may_no hm
    have hw:=told_le (onP_le (loopsBy_le _) (loopsBy_le _)) _ (wc101b (loopsBy [(0,lp101 n f)]) _ n f e e _ (isP_true (run101b _ n f hn e h1 h2 h3 e 0 (jk101 n f) (n+1) (by omega) (by omega))))
    exact ⟨_,cx9 [(0,lp101 n f)],_,ha,rfl,hx.1,hx.2,hw,RowsLE.refl _⟩
theorem ap_ok {n m b:Nat} (h:(n+m) * b <= 140737488355328):apOK n m b = true:=decide_eq_true h
noncomputable def tb65:List (Nat × (List V->T (V × List Blk))):=(89,codesT) :: (90,leastT) :: []
theorem tb65_ok:AllPure Try.prog Gl tb65:=.cons p101 <| .cons p102 .nil
def row65 (n:Nat) (f:Nat->E6) (k:Nat):Blk:=.row 44 6 (nadd (nadd 0 (nsub n k)) k) (growGet (nadd 0 (nsub n k)) k (growGet 0 (nsub n k) (fun _=>eV zeroE) (fun i=>eV (f (nadd k i)))) (fun i=>eV (f i)))
section
variable (L:LT) (n:Nat) (f:Nat->E6)
include L n f
theorem wc65n (h0:fitN n = true) (h1:mayN n f = false):(finF (evalF tab ⟨callT tb65,L,Gl⟩ Try.f51 [edgesV n f] [])).sem = some ((.tup [(.ref 0),(iV 30)]),[(.row 44 6 0 (fun _=>.und))]):=by
  exact sem_of_path (ds:=[true,true,false,true]) (cs:=[(allN n (fun _=>true)),(fitN n),(mayN n f),(bnot (ieq 30 0))]) (by kernel_rfl) (by simp only [h0,h1,allN_true] <;> rfl)
theorem wc65y (h0:fitN n = true) (h1:mayN n f = true) (h2:fitL n = true) (h3:mkOK 40 0 (ofNat n) = true) (h13:band (ile 0 (ofNat (leastN n (fun i=>(codeN (f i)))))) (ile (ofNat (leastN n (fun i=>(codeN (f i))))) (ofNat n)) = true) (h14:apOK 0 (nsub n (leastN n (fun i=>(codeN (f i))))) 40 = true) (h15:apOK (nadd 0 (nsub n (leastN n (fun i=>(codeN (f i)))))) (leastN n (fun i=>(codeN (f i)))) 40 = true):(finF (evalF tab ⟨callT tb65,L,Gl⟩ Try.f51 [edgesV n f] [])).sem = some ((.tup [(.ref 0),(iV 0)]),[row65 n f (leastN n (fun i=>(codeN (f i))))]):=by
  exact sem_of_path (ds:=bbK 11 2039) (cs:=((fun c0 c1=>[c0,(fitN n),(mayN n f),(bnot (ieq 0 0)),c0,(fitL n),(mkOK 40 0 (ofNat n)),c1,(apOK 0 (nsub n (leastN n (fun i=>(codeN (f i))))) 40),c1,(apOK (nadd 0 (nsub n (leastN n (fun i=>(codeN (f i)))))) (leastN n (fun i=>(codeN (f i)))) 40)]) (allN n (fun _=>true)) (band (ile 0 (ofNat (leastN n (fun i=>(codeN (f i)))))) (ile (ofNat (leastN n (fun i=>(codeN (f i))))) (ofNat n))))) (by kernel_rfl) (by simp only [h13] <;> simp only [h0,h1,h2,h3,h14,h15,allN_true] <;> rfl)
end
def canF (n:Nat) (f:Nat->E6) (i:Nat):E6:=f ((leastN n (fun i=>codeN (f i))+i) % n)
def canonT:List V->T (V × List Blk):=apL1 fun n f=>.br (fitN n) (.br (mayN n f) (.leaf (.tup [.ref 0,iV 0],[.row 44 6 n fun i=>eV (canF n f i)])) (.leaf (.tup [.ref 0,iV 30],[.row 44 6 0 fun _=>.und]))) .fail
theorem p65:PureC Try.prog Gl 51 canonT:=by
  refine pureC_intro tabOK mixed Try.func51 (by kernel_rfl) (by kernel_rfl) fun vs v h' h=>?_
  obtain ⟨n,f,ha,h⟩:=apL1_some h
  obtain ⟨hn,h⟩:=sem_br_fail h
  have hx:=cx_ok tb65_ok []
  cases hm:mayN n f with
  | true =>
    rw [hm] at h
    have:=sem_leaf h
    simp only [Prod.mk.injEq] at this
    obtain ⟨rfl,rfl⟩:=this
    have hn':n * 40 <= 140737488355328:=of_decide_eq_true hn
    have hk:=leastN_ok n (fun i=>codeN (f i))
    have e3:∀ k,nadd 0 (nsub n k) = n - k:=fun k=>by simp [nadd,nsub]
    have hw:=wc65y (loopsBy []) n f hn hm (fit8_l (fitN_8 hn)) (by
        simp only [mkOK,Bool.and_eq_true,decide_eq_true_eq,Int.ofNat_eq_natCast]; omega) (by
        rw [ile_nat,show (0:Int) = ofNat 0 from rfl,ile_nat]; simp [band]; omega) (by
        exact ap_ok (by show (0+(n - leastN n (fun i=>codeN (f i)))) * 40 <= _; omega)) (by
        rw [e3]; exact ap_ok (by omega))
    obtain ⟨r1,r2⟩:=turned_row n (leastN n (fun i=>codeN (f i))) (fun _=>eV zeroE) f eV hk
    unfold row65 at hw
    rw [r1] at hw
    exact ⟨_,cxOf Gl tb65 [],_,ha,rfl,hx.1,hx.2,hw,RowsLE.one fun j hj=>(r2 j hj).symm⟩
  | false =>
    rw [hm] at h
    have:=sem_leaf h
    simp only [Prod.mk.injEq] at this
    obtain ⟨rfl,rfl⟩:=this
    exact ⟨_,cxOf Gl tb65 [],_,ha,rfl,hx.1,hx.2,wc65n _ n f hn hm,RowsLE.refl _⟩
theorem e42 (Γ:Cx) (vs:List V) (h:List Blk):evalF tab Γ Try.f60 vs h = evalF tab Γ Try.f60 vs h:=by kernel_rfl
theorem p42:PureC Try.prog Gl 60 sameT:=by
  refine pureC_intro tabOK mixed Try.func60 (by kernel_rfl) (by kernel_rfl) fun vs v h' h=>?_
  obtain ⟨n,f,m,g,ha,h⟩:=apL2_some h
  obtain ⟨hn,h⟩:=sem_br_fail h
  have:=sem_leaf h
  simp only [Prod.mk.injEq] at this
  obtain ⟨rfl,rfl⟩:=this
  have hx:=cx_ok tb8_ok [(0,lp36 n)]
  exact ⟨_,cx9 [(0,lp36 n)],_,ha,rfl,hx.1,hx.2,by rw [e42]; exact same36 n m f g (of_decide_eq_true hn),RowsLE.refl _⟩
theorem cdN_inj {a b:E6} (ha:codeF a = 0) (hb:codeF b = 0) (h:codeN a = codeN b):a = b:=by
  rcases codeF_cases a with ⟨k,_,_,h1,h2,_⟩ | ⟨h1,_⟩
  · rcases codeF_cases b with ⟨l,_,_,h3,h4,_⟩ | ⟨h3,_⟩
    · rw [h1,h3] at h
      have:=Int.ofNat.inj h
      rw [<- h2,<- h4,this]
    · rw [hb] at h3; cases h3
  · rw [ha] at h1; cases h1
theorem sameB_at {n:Nat} {f:Nat->E6} {m:Nat} {g:Nat->E6}:sameB n f m g = true ↔ n = m ∧ ∀ i,i < n->f i = g i:=by
  unfold sameB
  rw [ieq_nat]
  by_cases h:n = m
  · rw [decide_eq_true h]
    show eqFrom f g n 0 = true ↔ _
    rw [eqFrom_iff]
    exact ⟨fun h1=>⟨h,fun i hi=>h1 i (Nat.zero_le _) (by omega)⟩,fun h1 j _ h3=>h1.2 j (by omega)⟩
  · rw [decide_eq_false h]
    exact ⟨fun h=>(by cases h),fun h1=>absurd h1.1 h⟩
def firstQ (q:Nat->Bool):Nat->Nat->Option Nat
  | 0,_=>none
  | d+1,i=>match q i with
    | true=>some i
    | false=>firstQ q d (i+1)
theorem firstQ_t {q:Nat->Bool} {d i:Nat} (h:q i = true):firstQ q (d+1) i = some i:=by rw [firstQ,h]
theorem firstQ_f {q:Nat->Bool} {d i:Nat} (h:q i = false):firstQ q (d+1) i = firstQ q d (i+1):=by rw [firstQ,h]
theorem firstQ_congr {q p:Nat->Bool}:∀ d i,(∀ k,i <= k->k < i+d->q k = p k)->firstQ q d i = firstQ p d i
  | 0,_,_=>rfl
  | d+1,i,h=>by
    rw [firstQ,firstQ,h i (Nat.le_refl _) (by omega),firstQ_congr d (i+1) fun k h1 h2=>h k (by omega) (by omega)]
theorem firstQ_some {q:Nat->Bool}:∀ {d i t:Nat},firstQ q d i = some t->i <= t ∧ t < i+d ∧ q t = true
  | 0,_,_,h=>by cases h
  | d+1,i,t,h=>by
    cases hq:q i with
    | true =>
      rw [firstQ_t hq] at h
      simp only [Option.some.injEq] at h
      subst h
      exact ⟨Nat.le_refl _,by omega,hq⟩
    | false =>
      rw [firstQ_f hq] at h
      have:=firstQ_some h
      exact ⟨by omega,by omega,this.2.2⟩
theorem ieq_eq {a b:Int} (h:ieq a b = true):a = b:=by simpa [ieq] using h
end Go.Proofs.Ytjhnfomefcngfaa.Ed
