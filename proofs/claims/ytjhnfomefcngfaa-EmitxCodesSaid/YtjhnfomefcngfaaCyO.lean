/-
  Least: where the least turned list begins, as the program walks. No conditions.
-/
import Derived.Test.YtjhnfomefcngfaaCyI
namespace Go.Proofs.Ytjhnfomefcngfaa.Ed
open Go.Sy
open Int (ofNat)
def Va (r:Nat):Ex × St:=(.rt,⟨(jsV 67 0 (λ_=>.und) [(2,nV r)]),[]⟩)
def HU (n:Nat) (h:Nat->Int):Lp:=⟨(bmK 67 0 [0,3,4,5,6]),1,bmK 67 0 [2],1,3 * n+4⟩
def Jl (n:Nat) (h:Nat->Int) (i t s:Nat) (j:Nat->V):St:=⟨(jsV 67 0 j [(0,.sl 1 n (λk=>iV (h k))),(3,nV n),(4,nV i),(5,nV t),(6,nV s)]),[]⟩
noncomputable def E0 (L:LT):St->T (Ex × St):=λst=>AC tab ⟨Am tb0,L,Gl⟩ (Au (Tn 0 900 Try.f90) 0) 0 st
section
variable (L:LT) (n:Nat) (h:Nat->Int) (i t s:Nat)  (j:Nat->V)
include L n h i t s j
theorem Ag0 (h0:ile (ofNat n) (ofNat i) = true):Ah (E0 L) (HU n h) (Jl n h i t s j) = some (.rt,⟨(jsV 67 0 (λ_=>.und) [(2,(iV (sel (ilt (sel (ilt (wr .i64 (AK (ofNat n) 1)) 0) 0 (wr .i64 (AK (ofNat n) 1))) (sel (ilt (ofNat t) (ofNat i)) (ofNat t) (ofNat i))) (sel (ilt (wr .i64 (AK (ofNat n) 1)) 0) 0 (wr .i64 (AK (ofNat n) 1))) (sel (ilt (ofNat t) (ofNat i)) (ofNat t) (ofNat i)))))]),[]⟩):=by
 exact Aa (ks:=[kn h0,kn h0,kn h0,kn h0,kT,kT,kT,kT,kT]) (by kernel_rfl)
theorem Agz (h0:ile (ofNat n) (ofNat i) = false) (h1:ile (ofNat n) (ofNat t) = true):Ah (E0 L) (HU n h) (Jl n h i t s j) = some (.rt,⟨(jsV 67 0 (λ_=>.und) [(2,(iV (sel (ilt (sel (ilt (wr .i64 (AK (ofNat n) 1)) 0) 0 (wr .i64 (AK (ofNat n) 1))) (sel (ilt (ofNat t) (ofNat i)) (ofNat t) (ofNat i))) (sel (ilt (wr .i64 (AK (ofNat n) 1)) 0) 0 (wr .i64 (AK (ofNat n) 1))) (sel (ilt (ofNat t) (ofNat i)) (ofNat t) (ofNat i)))))]),[]⟩):=by
 exact Aa (ks:=[kn h0,kn h0,kn h0,kn h0,kn h1,kn h1,kn h1,kn h1,kT]) (by kernel_rfl)
theorem Agx (h0:ile (ofNat n) (ofNat i) = false) (h1:ile (ofNat n) (ofNat t) = false) (h2:ile (ofNat n) (ofNat s) = true):Ah (E0 L) (HU n h) (Jl n h i t s j) = some (.rt,⟨(jsV 67 0 (λ_=>.und) [(2,(iV (sel (ilt (sel (ilt (wr .i64 (AK (ofNat n) 1)) 0) 0 (wr .i64 (AK (ofNat n) 1))) (sel (ilt (ofNat t) (ofNat i)) (ofNat t) (ofNat i))) (sel (ilt (wr .i64 (AK (ofNat n) 1)) 0) 0 (wr .i64 (AK (ofNat n) 1))) (sel (ilt (ofNat t) (ofNat i)) (ofNat t) (ofNat i)))))]),[]⟩):=by
 exact Aa (ks:=[kn h0,kn h0,kn h0,kn h0,kn h1,kn h1,kn h1,kn h1,kn h2]) (by kernel_rfl)
theorem Ag2 (h0:ile (ofNat n) (ofNat i) = false) (h1:ile (ofNat n) (ofNat t) = false) (h2:ile (ofNat n) (ofNat s) = false) (h3:ieq (ofNat n) 0 = false) (h4:Ak (ile 0 (Ae (wr .i64 (Af (ofNat i) (ofNat s))) (ofNat n))) (ilt (Ae (wr .i64 (Af (ofNat i) (ofNat s))) (ofNat n)) (ofNat n)) = true) (h5:Ak (ile 0 (Ae (wr .i64 (Af (ofNat t) (ofNat s))) (ofNat n))) (ilt (Ae (wr .i64 (Af (ofNat t) (ofNat s))) (ofNat n)) (ofNat n)) = true) (h6:ieq (h (toN (Ae (wr .i64 (Af (ofNat i) (ofNat s))) (ofNat n)))) (h (toN (Ae (wr .i64 (Af (ofNat t) (ofNat s))) (ofNat n)))) = true):Ah (E0 L) (HU n h) (Jl n h i t s j) = some (.nm,⟨(jsV 67 0 (λ_=>.und) [(0,(.sl 1 n (λk=>(iV (h k))))),(3,(nV n)),(4,(nV i)),(5,(nV t)),(6,(iV (wr .i64 (Af (ofNat s) 1))))]),[]⟩):=by
 exact Aa (ks:=[kn h0,kn h0,kn h0,kn h0,kn h1,kn h1,kn h1,kn h1,kn h2,kn h3,kn h4,kn h3,kn h5,kn h6]) (by kernel_rfl)
theorem Ag1 (h0:ile (ofNat n) (ofNat i) = false) (h1:ile (ofNat n) (ofNat t) = false) (h2:ile (ofNat n) (ofNat s) = false) (h3:ieq (ofNat n) 0 = false) (h4:Ak (ile 0 (Ae (wr .i64 (Af (ofNat i) (ofNat s))) (ofNat n))) (ilt (Ae (wr .i64 (Af (ofNat i) (ofNat s))) (ofNat n)) (ofNat n)) = true) (h5:Ak (ile 0 (Ae (wr .i64 (Af (ofNat t) (ofNat s))) (ofNat n))) (ilt (Ae (wr .i64 (Af (ofNat t) (ofNat s))) (ofNat n)) (ofNat n)) = true) (h6:ieq (h (toN (Ae (wr .i64 (Af (ofNat i) (ofNat s))) (ofNat n)))) (h (toN (Ae (wr .i64 (Af (ofNat t) (ofNat s))) (ofNat n)))) = false) (h7:ilt (h (toN (Ae (wr .i64 (Af (ofNat t) (ofNat s))) (ofNat n)))) (h (toN (Ae (wr .i64 (Af (ofNat i) (ofNat s))) (ofNat n)))) = true) (h8:ieq (wr .i64 (Af (ofNat i) (wr .i64 (Af (ofNat s) 1)))) (ofNat t) = false):Ah (E0 L) (HU n h) (Jl n h i t s j) = some (.nm,⟨(jsV 67 0 (λ_=>.und) [(0,(.sl 1 n (λk=>(iV (h k))))),(3,(nV n)),(4,(iV (wr .i64 (Af (ofNat i) (wr .i64 (Af (ofNat s) 1)))))),(5,(nV t)),(6,(iV 0))]),[]⟩):=by
 exact Aa (ks:=[kn h0,kn h0,kn h0,kn h0,kn h1,kn h1,kn h1,kn h1,kn h2,kn h3,kn h4,kn h3,kn h5,kn h6,kn h7,kn h8]) (by kernel_rfl)
theorem Acs (h0:ile (ofNat n) (ofNat i) = false) (h1:ile (ofNat n) (ofNat t) = false) (h2:ile (ofNat n) (ofNat s) = false) (h3:ieq (ofNat n) 0 = false) (h4:Ak (ile 0 (Ae (wr .i64 (Af (ofNat i) (ofNat s))) (ofNat n))) (ilt (Ae (wr .i64 (Af (ofNat i) (ofNat s))) (ofNat n)) (ofNat n)) = true) (h5:Ak (ile 0 (Ae (wr .i64 (Af (ofNat t) (ofNat s))) (ofNat n))) (ilt (Ae (wr .i64 (Af (ofNat t) (ofNat s))) (ofNat n)) (ofNat n)) = true) (h6:ieq (h (toN (Ae (wr .i64 (Af (ofNat i) (ofNat s))) (ofNat n)))) (h (toN (Ae (wr .i64 (Af (ofNat t) (ofNat s))) (ofNat n)))) = false) (h7:ilt (h (toN (Ae (wr .i64 (Af (ofNat t) (ofNat s))) (ofNat n)))) (h (toN (Ae (wr .i64 (Af (ofNat i) (ofNat s))) (ofNat n)))) = true) (h8:ieq (wr .i64 (Af (ofNat i) (wr .i64 (Af (ofNat s) 1)))) (ofNat t) = true):Ah (E0 L) (HU n h) (Jl n h i t s j) = some (.nm,⟨(jsV 67 0 (λ_=>.und) [(0,(.sl 1 n (λk=>(iV (h k))))),(3,(nV n)),(4,(iV (wr .i64 (Af (ofNat i) (wr .i64 (Af (ofNat s) 1)))))),(5,(iV (wr .i64 (Af (ofNat t) 1)))),(6,(iV 0))]),[]⟩):=by
 exact Aa (ks:=[kn h0,kn h0,kn h0,kn h0,kn h1,kn h1,kn h1,kn h1,kn h2,kn h3,kn h4,kn h3,kn h5,kn h6,kn h7,kn h8]) (by kernel_rfl)
theorem Agy (h0:ile (ofNat n) (ofNat i) = false) (h1:ile (ofNat n) (ofNat t) = false) (h2:ile (ofNat n) (ofNat s) = false) (h3:ieq (ofNat n) 0 = false) (h4:Ak (ile 0 (Ae (wr .i64 (Af (ofNat i) (ofNat s))) (ofNat n))) (ilt (Ae (wr .i64 (Af (ofNat i) (ofNat s))) (ofNat n)) (ofNat n)) = true) (h5:Ak (ile 0 (Ae (wr .i64 (Af (ofNat t) (ofNat s))) (ofNat n))) (ilt (Ae (wr .i64 (Af (ofNat t) (ofNat s))) (ofNat n)) (ofNat n)) = true) (h6:ieq (h (toN (Ae (wr .i64 (Af (ofNat i) (ofNat s))) (ofNat n)))) (h (toN (Ae (wr .i64 (Af (ofNat t) (ofNat s))) (ofNat n)))) = false) (h7:ilt (h (toN (Ae (wr .i64 (Af (ofNat t) (ofNat s))) (ofNat n)))) (h (toN (Ae (wr .i64 (Af (ofNat i) (ofNat s))) (ofNat n)))) = false) (h8:ieq (ofNat i) (wr .i64 (Af (ofNat t) (wr .i64 (Af (ofNat s) 1)))) = false):Ah (E0 L) (HU n h) (Jl n h i t s j) = some (.nm,⟨(jsV 67 0 (λ_=>.und) [(0,(.sl 1 n (λk=>(iV (h k))))),(3,(nV n)),(4,(nV i)),(5,(iV (wr .i64 (Af (ofNat t) (wr .i64 (Af (ofNat s) 1)))))),(6,(iV 0))]),[]⟩):=by
 exact Aa (ks:=[kn h0,kn h0,kn h0,kn h0,kn h1,kn h1,kn h1,kn h1,kn h2,kn h3,kn h4,kn h3,kn h5,kn h6,kn h7,kn h8]) (by kernel_rfl)
theorem Acr (h0:ile (ofNat n) (ofNat i) = false) (h1:ile (ofNat n) (ofNat t) = false) (h2:ile (ofNat n) (ofNat s) = false) (h3:ieq (ofNat n) 0 = false) (h4:Ak (ile 0 (Ae (wr .i64 (Af (ofNat i) (ofNat s))) (ofNat n))) (ilt (Ae (wr .i64 (Af (ofNat i) (ofNat s))) (ofNat n)) (ofNat n)) = true) (h5:Ak (ile 0 (Ae (wr .i64 (Af (ofNat t) (ofNat s))) (ofNat n))) (ilt (Ae (wr .i64 (Af (ofNat t) (ofNat s))) (ofNat n)) (ofNat n)) = true) (h6:ieq (h (toN (Ae (wr .i64 (Af (ofNat i) (ofNat s))) (ofNat n)))) (h (toN (Ae (wr .i64 (Af (ofNat t) (ofNat s))) (ofNat n)))) = false) (h7:ilt (h (toN (Ae (wr .i64 (Af (ofNat t) (ofNat s))) (ofNat n)))) (h (toN (Ae (wr .i64 (Af (ofNat i) (ofNat s))) (ofNat n)))) = false) (h8:ieq (ofNat i) (wr .i64 (Af (ofNat t) (wr .i64 (Af (ofNat s) 1)))) = true):Ah (E0 L) (HU n h) (Jl n h i t s j) = some (.nm,⟨(jsV 67 0 (λ_=>.und) [(0,(.sl 1 n (λk=>(iV (h k))))),(3,(nV n)),(4,(nV i)),(5,(iV (wr .i64 (Af (wr .i64 (Af (ofNat t) (wr .i64 (Af (ofNat s) 1)))) 1)))),(6,(iV 0))]),[]⟩):=by
 exact Aa (ks:=[kn h0,kn h0,kn h0,kn h0,kn h1,kn h1,kn h1,kn h1,kn h2,kn h3,kn h4,kn h3,kn h5,kn h6,kn h7,kn h8]) (by kernel_rfl)
end
def Ae8 (n:Nat) (h:Nat->Int) :Nat->V:=lkV A9 [(2,(iV 0)),(9,(.sl 1 n (λk=>iV (h k)))),(10,(nV n))]
theorem Ajd (L:LT) (p0:PT) (n:Nat) (h:Nat->Int) (r:Nat)  (hp0:p0 (E0 (onP 0 p0 (Va r) L)) (Jl n h 0 1 0 (Ae8 n h )) = true):(Ar (Ai tab ⟨Am tb0,(onP 0 p0 (Va r) L),Gl⟩ (Tn 0 900 Try.f90) [.sl 1 n (λk=>iV (h k))] [])).sem = some ((nV r),[]):=by
 exact Aa (ks:=[kn hp0]) (by kernel_rfl)
def Eh (n:Nat) (h:Nat->Int):Nat->Nat->Nat->Nat->Nat
 | 0,_,_,_=>0
 | q+1,i,t,s =>
  if n <= i ∨ n <= t ∨ n <= s then min (min i t) (n - 1)
  else if h ((i+s) % n) = h ((t+s) % n) then Eh n h q i t (s+1)
  else if h ((t+s) % n) < h ((i+s) % n) then Eh n h q (i+s+1) (if i+s+1 = t then t+1 else t) 0
  else Eh n h q i (if i = t+s+1 then t+s+2 else t+s+1) 0
def D0 (n:Nat) (h:Nat->Int):Nat:=Eh n h (3 * n+4) 0 1 0
theorem D9 {a b:Nat} (h:a+b <= 9223372036854775807):wr .i64 (Af (ofNat a) (ofNat b)) = ofNat (a+b):=by
 unfold wr Af IntKind.wrap
 simp [IntKind.bits,IntKind.signed]
 omega
theorem Nh {a:Nat} (h:a+1 <= 9223372036854775807):wr .i64 (Af (ofNat a) 1) = ofNat (a+1):=D9 (b:=1) h
theorem C5 (a n:Nat):Ae (ofNat a) (ofNat n) = ofNat (a % n):=rfl
theorem Dv (a b:Nat):ieq (ofNat a) (ofNat b) = decide (a = b):=by
 simp only [ieq,Int.ofNat_eq_natCast]
 by_cases h:a = b
 ·simp [h]
 ·rw [decide_eq_false h]
  simp
  omega
theorem ile_nat (a b:Nat):ile (ofNat a) (ofNat b) = decide (a <= b):=by
 simp [ile]
theorem Cs (a b:Nat):ilt (ofNat a) (ofNat b) = decide (a < b):=by
 simp [ilt]
theorem AhK (n i t:Nat) (hn:n <= 1152921504606846976):sel (ilt (sel (ilt (wr .i64 (AK (ofNat n) 1)) 0) 0 (wr .i64 (AK (ofNat n) 1))) (sel (ilt (ofNat t) (ofNat i)) (ofNat t) (ofNat i))) (sel (ilt (wr .i64 (AK (ofNat n) 1)) 0) 0 (wr .i64 (AK (ofNat n) 1))) (sel (ilt (ofNat t) (ofNat i)) (ofNat t) (ofNat i)) = ofNat (min (min i t) (n - 1)):=by
 have h1:wr .i64 (AK (ofNat n) 1) = (n:Int) - 1:=by
  unfold wr AK IntKind.wrap
  simp [IntKind.bits,IntKind.signed]
  omega
 rw [h1]
 simp only [sel,ilt,Bool.cond_decide,Int.ofNat_eq_natCast]
 omega
theorem Ly (L:LT) (n:Nat) (h:Nat->Int) (hn:n <= 1152921504606846976):∀ (q i t s:Nat) (j:Nat->V),i <= 2 * n->t <= 2 * n+1->s <= n->3 * n+1 - (i+t+s) < q ->
  (A4 (E0 L) (HU n h) q (Jl n h i t s j)).sem = some (Va (Eh n h q i t s))
 | 0,_,_,_,_,_,_,_,h4=>absurd h4 (Nat.not_lt_zero _)
 | q+1,i,t,s,j,hi,ht,hs,h4=>by
  by_cases ci:n <= i
  ·rw [Ab (Ag0 L n h i t s j (by rw [ile_nat,decide_eq_true ci])),Dw,AhK n i t hn,Eh,if_pos (.inl ci)]
   rfl
  ·have ci0:ile (ofNat n) (ofNat i) = false:=by rw [ile_nat,decide_eq_false ci]
   by_cases ct:n <= t
   ·rw [Ab (Agz L n h i t s j ci0 (by rw [ile_nat,decide_eq_true ct])),Dw,AhK n i t hn,Eh,if_pos (.inr (.inl ct))]
    rfl
   ·have ct0:ile (ofNat n) (ofNat t) = false:=by rw [ile_nat,decide_eq_false ct]
    by_cases cs:n <= s
    ·rw [Ab (Agx L n h i t s j ci0 ct0 (by rw [ile_nat,decide_eq_true cs])),Dw,AhK n i t hn,Eh,if_pos (.inr (.inr cs))]
     rfl
    ·have cs0:ile (ofNat n) (ofNat s) = false:=by rw [ile_nat,decide_eq_false cs]
     have cn0:ieq (ofNat n) 0 = false:=by
      rw [show (0:Int) = ofNat 0 from rfl,Dv,decide_eq_false (by omega)]
     have e1:Ae (wr .i64 (Af (ofNat i) (ofNat s))) (ofNat n) = ofNat ((i+s) % n):=by rw [D9 (by omega),C5]
     have e2:Ae (wr .i64 (Af (ofNat t) (ofNat s))) (ofNat n) = ofNat ((t+s) % n):=by rw [D9 (by omega),C5]
     have b1:Ak (ile 0 (Ae (wr .i64 (Af (ofNat i) (ofNat s))) (ofNat n))) (ilt (Ae (wr .i64 (Af (ofNat i) (ofNat s))) (ofNat n)) (ofNat n)) = true:=by
      rw [e1]; exact Ap (Nat.mod_lt _ (by omega))
     have b2:Ak (ile 0 (Ae (wr .i64 (Af (ofNat t) (ofNat s))) (ofNat n))) (ilt (Ae (wr .i64 (Af (ofNat t) (ofNat s))) (ofNat n)) (ofNat n)) = true:=by
      rw [e2]; exact Ap (Nat.mod_lt _ (by omega))
     have t1:∀ a:Nat,toN (ofNat a) = a:=λ_=>rfl
     have u1:wr .i64 (Af (ofNat i) (wr .i64 (Af (ofNat s) 1))) = ofNat (i+s+1):=by rw [Nh (by omega),D9 (by omega)]; rfl
     have u2:wr .i64 (Af (ofNat t) (wr .i64 (Af (ofNat s) 1))) = ofNat (t+s+1):=by rw [Nh (by omega),D9 (by omega)]; rfl
     rw [Eh,if_neg (by omega)]
     by_cases ce:h ((i+s) % n) = h ((t+s) % n)
     ·rw [if_pos ce,Ab (Ag2 L n h i t s j ci0 ct0 cs0 cn0 b1 b2 (by rw [e1,e2,t1,t1]; simp [ieq,ce])),Aq,Nh (by omega)]
      exact Ly L n h hn q i t (s+1) (λ_=>.und) hi ht (by omega) (by omega)
     ·have ce0:ieq (h (toN (Ae (wr .i64 (Af (ofNat i) (ofNat s))) (ofNat n)))) (h (toN (Ae (wr .i64 (Af (ofNat t) (ofNat s))) (ofNat n)))) = false:=by
       rw [e1,e2,t1,t1]; simp [ieq,ce]
      rw [if_neg ce]
      by_cases cg:h ((t+s) % n) < h ((i+s) % n)
      ·have cg0:ilt (h (toN (Ae (wr .i64 (Af (ofNat t) (ofNat s))) (ofNat n)))) (h (toN (Ae (wr .i64 (Af (ofNat i) (ofNat s))) (ofNat n)))) = true:=by
        rw [e1,e2,t1,t1]; simp [ilt,cg]
       rw [if_pos cg]
       by_cases cq:i+s+1 = t
       ·rw [if_pos cq,Ab (Acs L n h i t s j ci0 ct0 cs0 cn0 b1 b2 ce0 cg0 (by rw [u1,Dv,decide_eq_true cq])),Aq,u1,Nh (by omega)]
        exact Ly L n h hn q (i+s+1) (t+1) 0 (λ_=>.und) (by omega) (by omega) (by omega) (by omega)
       ·rw [if_neg cq,Ab (Ag1 L n h i t s j ci0 ct0 cs0 cn0 b1 b2 ce0 cg0 (by rw [u1,Dv,decide_eq_false cq])),Aq,u1]
        exact Ly L n h hn q (i+s+1) t 0 (λ_=>.und) (by omega) (by omega) (by omega) (by omega)
      ·have cg0:ilt (h (toN (Ae (wr .i64 (Af (ofNat t) (ofNat s))) (ofNat n)))) (h (toN (Ae (wr .i64 (Af (ofNat i) (ofNat s))) (ofNat n)))) = false:=by
        rw [e1,e2,t1,t1]; simp [ilt]; omega
       rw [if_neg cg]
       by_cases cq:i = t+s+1
       ·rw [if_pos cq,Ab (Acr L n h i t s j ci0 ct0 cs0 cn0 b1 b2 ce0 cg0 (by rw [u2,Dv,decide_eq_true cq])),Aq,u2,Nh (by omega)]
        exact Ly L n h hn q i (t+s+2) 0 (λ_=>.und) (by omega) (by omega) (by omega) (by omega)
       ·rw [if_neg cq,Ab (Agy L n h i t s j ci0 ct0 cs0 cn0 b1 b2 ce0 cg0 (by rw [u2,Dv,decide_eq_false cq])),Aq,u2]
        exact Ly L n h hn q i (t+s+1) 0 (λ_=>.und) (by omega) (by omega) (by omega) (by omega)
def Ad4 (n:Nat):Bool:=decide (n <= 1152921504606846976)
def Aad:List V->T (V × List Blk):=AdI λn h=>.br (Ad4 n) (out (iV (ofNat (D0 n h)))) .fail
theorem Ant:A7 Try.prog Gl 90 Aad:=by
 refine S8 (p:=match Try.f90.body with | some (.seq p _)=>p | _=>.skip) (c:=match Try.f90.body with | some (.seq _ (.scope c))=>c | _=>.skip) (d:=match (match Try.f90.body with | some (.seq _ (.scope c))=>Fk 0 c | _=>none) with | some d=>d | none=>.skip) AL AN Try.func90 0 900 (by kernel_rfl) (by kernel_rfl) (by kernel_rfl) (by kernel_rfl) λvs v h' h=>?_
 obtain ⟨n,f,ha,h1⟩:=Qh h
 obtain ⟨hn,hq⟩:=Ad h1
 have:=Ac hq
 simp only [Prod.mk.injEq] at this
 obtain ⟨rfl,rfl⟩:=this
 have hn:n <= 1152921504606846976:=by simpa [Ad4] using hn
 have hx:=AO C9 [(0,HU n f)]
 exact ⟨_,AI Gl tb0 [(0,HU n f)],_,ha,rfl,hx.1,hx.2,A2 (As (AE _) (AE _)) _ (Ajd _ _ n f _ (Aj (Ly _ n f hn (3 * n+4) 0 1 0 (Ae8 n f) (by omega) (by omega) (by omega) (by omega)))),A8.refl _⟩
end Go.Proofs.Ytjhnfomefcngfaa.Ed
namespace Go.Proofs.Ytjhnfomefcngfaa.Ed
open Go.Sy
open Int (ofNat)
theorem Oq (n m:Nat) (gx g:Nat->V) (i:Nat) (h:i < n+m):Bt n m gx g i = bif Nat.blt i n then gx i else g (i - n):=by
 cases hb:Nat.blt i n with
 | true=>exact On n m gx g i (Nat.blt_eq ▸ hb)
 | false =>
  have h1:n <= i:=by
   rcases Nat.lt_or_ge i n with h2 | h2
   ·rw [show Nat.blt i n = true from Nat.blt_eq ▸ h2] at hb; cases hb
   ·exact h2
  have:=Oo n m gx g (i - n) (by omega)
  rw [show n+(i - n) = i by omega] at this
  exact this
theorem TV {α:Type} (n k:Nat) (z:Nat->V) (h:Nat->α) (e:α->V) (hk:k < n ∨ n = 0 ∧ k = 0):AQ (AQ 0 (HS n k)) k = n ∧ ∀ j,j < n ->
  Bt (AQ 0 (HS n k)) k (Bt 0 (HS n k) z (λi=>e (h (AQ k i)))) (λi=>e (h i)) j = e (h ((k+j) % n)):=by
 have h1:AQ 0 (HS n k) = n - k:=by simp [AQ,HS]
 have h2:HS n k = n - k:=rfl
 refine ⟨by rw [h1]; show n - k+k = n; omega,λj hj=>?_⟩
 rw [h1,h2,Oq _ _ _ _ j (by omega)]
 cases hb:Nat.blt j (n - k) with
 | true =>
  have hb:j < n - k:=Nat.blt_eq ▸ hb
  show Bt 0 (n - k) z (λi=>e (h (AQ k i))) j = _
  rw [Oq _ _ _ _ j (by omega)]
  show e (h (k+(j - 0))) = _
  rw [Nat.mod_eq_of_lt (by omega),Nat.sub_zero]
 | false =>
  have hb:n - k <= j:=by
   rcases Nat.lt_or_ge j (n - k) with h3 | h3
   ·rw [show Nat.blt j (n - k) = true from Nat.blt_eq ▸ h3] at hb; cases hb
   ·exact h3
  show e (h (j - (n - k))) = _
  rw [show k+j = j - (n - k)+n by omega,Nat.add_mod_right,Nat.mod_eq_of_lt (by omega)]
def DZ (n:Nat):Bool:=decide (n * 8 <= 140737488355328)
theorem CO {n:Nat} (h:DZ n = true):n <= 4611686018427387904:=by
 have h:n * 8 <= 140737488355328:=of_decide_eq_true h
 omega
theorem Aav {n:Nat} (h:DZ n = true):Ag n = true:=decide_eq_true (CO h)
theorem Aia {n:Nat} (h:DZ n = true):Ad4 n = true:=by
 have h:n * 8 <= 140737488355328:=of_decide_eq_true h
 exact decide_eq_true (by omega)
theorem ET {n:Nat} (h:Bj n = true):DZ n = true:=by
 have h:n * 40 <= 140737488355328:=of_decide_eq_true h
 exact decide_eq_true (by omega)
theorem L7 (n:Nat) (h:Nat->Int):∀ q i t s,Eh n h q i t s <= n - 1
 | 0,_,_,_=>Nat.zero_le _
 | q+1,i,t,s=>by
  unfold Eh
  split
  ·omega
  ·split
   ·exact L7 n h q _ _ _
   ·split <;> exact L7 n h q _ _ _
theorem XF (n:Nat) (h:Nat->Int):D0 n h <= n - 1:=L7 n h _ _ _ _
theorem PN (n:Nat) (h:Nat->Int):D0 n h < n ∨ n = 0 ∧ D0 n h = 0:=by
 have:=XF n h
 omega
def Oe (n:Nat) (f:Nat->E6):Lp:=⟨(bmK 28 0 [0,2,3,4,9,10,11]),2,bmK 28 0 [2,3,4],4,n+1⟩
def Sl (n:Nat) (f:Nat->E6) (i k:Nat) (x:Nat->V) (j:Nat->V):St:=⟨(jsV 28 0 j [(0,.sl 6 n λi=>eV (f i)),(2,.ref 0),(3,iV 0),(4,.ref 1),(9,.sl 6 n λi=>eV (f i)),(10,nV n),(11,nV i)]),[.row 3 1 0 λ_=>.und,.row 3 1 k x]⟩
def Vy (n:Nat) (f:Nat->E6) (i k:Nat) (x:Nat->V):Ex × St:=(.ex 0,⟨(jsV 28 0 (λ_=>.und) [(2,.ref 0),(3,iV 0),(4,.ref 1)]),[.row 3 1 0 λ_=>.und,.row 3 1 k x]⟩)
def Vx (n:Nat) (f:Nat->E6) (i k:Nat) (x:Nat->V):Ex × St:=(.rt,⟨(jsV 28 0 (λ_=>.und) [(2,.ref 3),(3,iV 30),(4,.ref 1)]),[.row 3 1 0 λ_=>.und,.row 3 1 k x,.cells [iV ((f i)).kind,bV ((f i)).ext,bV ((f i)).same,iV ((f i)).src,iV ((f i)).dst,iV ((f i)).fence],.row 3 1 0 λ_=>.und]⟩)
noncomputable def Lb (L:LT):St->T (Ex × St):=λst=>AC tab ⟨Am tb8,L,Gl⟩ (Au Try.f89 0) 0 st
theorem Kb (L:LT) (n:Nat) (f:Nat->E6) (i k:Nat) (x:Nat->V) (j:Nat->V):Ah (Lb L) (Oe n f) (Sl n f i k x j)
 = (sel (ilt (ofNat i) (ofNat n)) (sel (Ak (ile 0 (ofNat i)) (ilt (ofNat i) (ofNat n))) (sel (AG (ieq (Bb (f i)) 0)) (some (.rt,⟨[.und,.und,(.ref 3),(iV 30),(.ref 1),.und,.und,.und,.und,.und,.und,.und,.und,.und,.und,.und,.und,.und,.und,.und,.und,.und,.und,.und,.und,.und,.und,.und],[r3Z,(.row 3 1 k x),(.cells [(iV ((f i)).kind),(bV ((f i)).ext),(bV ((f i)).same),(iV ((f i)).src),(iV ((f i)).dst),(iV ((f i)).fence)]),r3Z]⟩)) (sel (AY k 1 8) (some (.nm,⟨[(.sl 6 n (λi=>(eV (f i)))),.und,(.ref 0),(iV 0),(.ref 1),.und,.und,.und,.und,(.sl 6 n (λi=>(eV (f i)))),(nV n),(iV (wr .i64 (Af (ofNat i) 1))),.und,.und,.und,.und,.und,.und,.und,.und,.und,.und,.und,.und,.und,.und,.und,.und],[r3Z,(.row 3 1 (AQ k 1) (A1 k x (iV (BP (f i)))))]⟩)) none)) none) (some ((.ex 0),⟨[.und,.und,(.ref 0),(iV 0),(.ref 1),.und,.und,.und,.und,.und,.und,.und,.und,.und,.und,.und,.und,.und,.und,.und,.und,.und,.und,.und,.und,.und,.und,.und],[r3Z,(.row 3 1 k x)]⟩))):=by kernel_rfl
def W4 (n:Nat) (f:Nat->E6) :Nat->V:=lkV A9 []
section
variable (L:LT) (p0:PT) (n:Nat) (f:Nat->E6) (i k:Nat) (x:Nat->V)
include L p0 n f i k x
theorem AfC  (hp0:p0 (Lb (onP 0 p0 (Vy n f i k x) L)) (Sl n f 0 0 (λ_=>.und) (W4 n f )) = true):(Ar (Ai tab ⟨Am tb8,(onP 0 p0 (Vy n f i k x) L),Gl⟩ Try.f89 [Az n f] [])).sem = some ((.tup [(.ref 0),(iV 0)]),[(.row 3 1 k x)]):=by
 exact Aa (ks:=[kn hp0]) (by kernel_rfl)
theorem AfB  (hp0:p0 (Lb (onP 0 p0 (Vx n f i k x) L)) (Sl n f 0 0 (λ_=>.und) (W4 n f )) = true):(Ar (Ai tab ⟨Am tb8,(onP 0 p0 (Vx n f i k x) L),Gl⟩ Try.f89 [Az n f] [])).sem = some ((.tup [(.ref 0),(iV 30)]),[r3Z]):=by
 exact Aa (ks:=[kn hp0]) (by kernel_rfl)
end
theorem We (L:LT) (n:Nat) (f:Nat->E6) (hn:Bj n = true) (ho:∀ t,t < n->Bb (f t) = 0):∀ (d i:Nat) (j:Nat->V) (q:Nat),n = i+d->d < q ->
  (A4 (Lb L) (Oe n f) q (Sl n f i i (BN (cdV f) i) j)).sem = some (Vy n f 0 n (BN (cdV f) n))
 | 0,i,j,q+1,h1,_=>by
  have hi:i = n:=by omega
  subst hi
  rw [Ab (Kb L i f i i _ j),A6 (Nat.le_refl i)]
  rfl
 | d+1,i,j,q+1,h1,h2=>by
  have hi:i < n:=by omega
  rw [Ab (Kb L n f i i _ j),Ap hi,ofNat_lt hi,RF hi (by decide) (of_decide_eq_true hn),Ao hi (IQ hn),ho i hi]
  exact We L n f hn ho d (i+1) (λ_=>.und) q (by omega) (by omega)
theorem Wd (L:LT) (n:Nat) (f:Nat->E6) (hn:Bj n = true) (e:Nat) (he:e < n) (hb:Bb (f e) = 30) (ho:∀ t,t < e->Bb (f t) = 0):∀ (d i:Nat) (j:Nat->V) (q:Nat),e = i+d->d < q ->
  (A4 (Lb L) (Oe n f) q (Sl n f i i (BN (cdV f) i) j)).sem = some (Vx n f e e (BN (cdV f) e))
 | 0,i,j,q+1,h1,_=>by
  have hi:i = e:=by omega
  subst hi
  rw [Ab (Kb L n f i i _ j),Ap he,ofNat_lt he,hb]
  rfl
 | d+1,i,j,q+1,h1,h2=>by
  have hi:i < n:=by omega
  rw [Ab (Kb L n f i i _ j),Ap hi,ofNat_lt hi,RF hi (by decide) (of_decide_eq_true hn),Ao hi (IQ hn),ho i (by omega)]
  exact Wd L n f hn e he hb ho d (i+1) (λ_=>.und) q (by omega) (by omega)
theorem Anu:A7 Try.prog Gl 89 Abd:=by
 refine Av AL AN Try.func89 (by kernel_rfl) (by kernel_rfl) λvs v h' h=>?_
 obtain ⟨n,f,ha,h⟩:=CZ h
 obtain ⟨hn,h⟩:=Ad h
 have hx:=AO Qn [(0,Oe n f)]
 cases hm:CJ n f with
 | true =>
  rw [hm] at h
  have:=Ac h
  simp only [Prod.mk.injEq] at this
  obtain ⟨rfl,rfl⟩:=this
  exact ⟨_,cx9 [(0,Oe n f)],_,ha,rfl,hx.1,hx.2,A2 (As (AE _) (AE _)) _ (AfC _ _ n f 0 n _ (Aj (We _ n f hn (F4.1 hm) n 0 (W4 n f) (n+1) (by omega) (by omega)))),
   A8.one λj hj=>(HP (cdV f) n j hj).symm⟩
 | false =>
  rw [hm] at h
  have:=Ac h
  simp only [Prod.mk.injEq] at this
  obtain ⟨rfl,rfl⟩:=this
  obtain ⟨e,h1,h2,h3⟩:=ZH hm
  have hw:=A2 (As (AE _) (AE _)) _ (AfB (AV [(0,Oe n f)]) _ n f e e _ (Aj (Wd _ n f hn e h1 h2 h3 e 0 (W4 n f) (n+1) (by omega) (by omega))))
  exact ⟨_,cx9 [(0,Oe n f)],_,ha,rfl,hx.1,hx.2,hw,A8.refl _⟩
theorem BH {n m b:Nat} (h:(n+m) * b <= 140737488355328):AY n m b = true:=decide_eq_true h
def R4 (f g:Nat->Int):Nat->Nat->Ordering
 | 0,_=>.eq
 | d+1,i=>if f i < g i then .lt else if g i < f i then .gt else R4 f g d (i+1)
theorem WV (f g:Nat->Int):∀ d i,R4 f g d i = .eq ↔ ∀ j,i <= j->j < i+d->f j = g j
 | 0,i=>by simp [R4]; intro j h1 h2; omega
 | d+1,i=>by
  unfold R4
  split
  ·rename_i h
   refine ⟨λh=>(by cases h),λh1=>?_⟩
   have:=h1 i (Nat.le_refl _) (by omega)
   omega
  ·split
   ·rename_i h
    refine ⟨λh=>(by cases h),λh1=>?_⟩
    have:=h1 i (Nat.le_refl _) (by omega)
    omega
   ·rw [WV f g d (i+1)]
    refine ⟨λh1 j h2 h3=>?_,λh1 j h2 h3=>h1 j (by omega) (by omega)⟩
    by_cases hj:j = i
    ·subst hj; omega
    ·exact h1 j (by omega) (by omega)
def R5 (n:Nat) (f:Nat->Int) (m:Nat) (g:Nat->Int):Int :=
 match R4 f g (min n m) 0 with
 | .lt=>-1
 | .gt=>1
 | .eq=>if n < m then -1 else if m < n then 1 else 0
theorem Ya (n:Nat) (f:Nat->Int) (m:Nat) (g:Nat->Int):R5 n f m g = 0 ↔ n = m ∧ ∀ i,i < n->f i = g i:=by
 unfold R5
 have hk:=WV f g (min n m) 0
 cases hc:R4 f g (min n m) 0 with
 | lt =>
  refine ⟨λh=>by simp at h,λh=>?_⟩
  have:=hk.2 λj _ h2=>h.2 j (by omega)
  rw [hc] at this; cases this
 | gt =>
  refine ⟨λh=>by simp at h,λh=>?_⟩
  have:=hk.2 λj _ h2=>h.2 j (by omega)
  rw [hc] at this; cases this
 | eq =>
  have h1:=hk.1 hc
  by_cases h2:n < m
  ·simp only [if_pos h2]
   exact ⟨λh=>by simp at h,λh=>by omega⟩
  ·by_cases h3:m < n
   ·simp only [if_neg h2,if_pos h3]
    exact ⟨λh=>by simp at h,λh=>by omega⟩
   ·simp only [if_neg h2,if_neg h3]
    exact ⟨λ_=>⟨by omega,λi hi=>h1 i (Nat.zero_le _) (by omega)⟩,λ_=>trivial⟩
def AeE:List V->T (V × List Blk):=AdH λn f m g=>.br (Ag n) (.br (Ag m) (out (iV (R5 n f m g))) .fail) .fail
noncomputable def YD:List (Nat × (List V->T (V × List Blk))):=(89,Abd) :: (90,Aad) :: []
theorem AbR:AA Try.prog Gl YD:=.cons Anu <| .cons Ant .nil
def Aek (n:Nat) (f:Nat->E6) (k:Nat):Blk:=.row 44 6 (AQ (AQ 0 (HS n k)) k) (Bt (AQ 0 (HS n k)) k (Bt 0 (HS n k) (λ_=>eV FK) (λi=>eV (f (AQ k i)))) (λi=>eV (f i)))
section
variable (L:LT) (n:Nat) (f:Nat->E6)
include L n f
theorem AiX (h0:Bj n = true) (h1:CJ n f = false):(Ar (Ai tab ⟨Am YD,L,Gl⟩ Try.f51 [Az n f] [])).sem = some ((.tup [(.ref 0),(iV 30)]),[(.row 44 6 0 (λ_=>.und))]):=by
 exact Aa (ks:=[kL n,kn h0,kn h1,kN (⟨ieq 30 0,false,rfl⟩)]) (by kernel_rfl)
theorem AiW (h0:Bj n = true) (h1:CJ n f = true) (h2:Ad4 n = true) (h3:CG 40 0 (ofNat n) = true) (h13:Ak (ile 0 (ofNat (D0 n (λi=>(BP (f i)))))) (ile (ofNat (D0 n (λi=>(BP (f i))))) (ofNat n)) = true) (h14:AY 0 (HS n (D0 n (λi=>(BP (f i))))) 40 = true) (h15:AY (AQ 0 (HS n (D0 n (λi=>(BP (f i)))))) (D0 n (λi=>(BP (f i)))) 40 = true):(Ar (Ai tab ⟨Am YD,L,Gl⟩ Try.f51 [Az n f] [])).sem = some ((.tup [(.ref 0),(iV 0)]),[Aek n f (D0 n (λi=>(BP (f i))))]):=by
 exact Aa (ks:=[kL n,kn h0,kn h1,kN (kI 0),kL n,kn h2,kn h3,kn h13,kn h14,kn h13,kn h15]) (by kernel_rfl)
end
def B4 (n:Nat) (f:Nat->E6) (i:Nat):E6:=f ((D0 n (λi=>BP (f i))+i) % n)
def OF:List V->T (V × List Blk):=GS λn f=>.br (Bj n) (.br (CJ n f) (.leaf (.tup [.ref 0,iV 0],[.row 44 6 n λi=>eV (B4 n f i)])) (.leaf (.tup [.ref 0,iV 30],[.row 44 6 0 λ_=>.und]))) .fail
theorem p65:A7 Try.prog Gl 51 OF:=by
 refine Av AL AN Try.func51 (by kernel_rfl) (by kernel_rfl) λvs v h' h=>?_
 obtain ⟨n,f,ha,h⟩:=CZ h
 obtain ⟨hn,h⟩:=Ad h
 have hx:=AO AbR []
 cases hm:CJ n f with
 | true =>
  rw [hm] at h
  have:=Ac h
  simp only [Prod.mk.injEq] at this
  obtain ⟨rfl,rfl⟩:=this
  have hn':n * 40 <= 140737488355328:=of_decide_eq_true hn
  have hk:=PN n (λi=>BP (f i))
  have e3:∀ k,AQ 0 (HS n k) = n - k:=λk=>by simp [AQ,HS]
  have hw:=AiW (AV []) n f hn hm (Aia (ET hn)) (by
    simp only [CG,Bool.and_eq_true,decide_eq_true_eq,Int.ofNat_eq_natCast]; omega) (by
    rw [ile_nat,show (0:Int) = ofNat 0 from rfl,ile_nat]; simp [Ak]; omega) (by
    exact BH (by show (0+(n - D0 n (λi=>BP (f i)))) * 40 <= _; omega)) (by
    rw [e3]; exact BH (by omega))
  obtain ⟨r1,r2⟩:=TV n (D0 n (λi=>BP (f i))) (λ_=>eV FK) f eV hk
  unfold Aek at hw
  rw [r1] at hw
  exact ⟨_,AI Gl YD [],_,ha,rfl,hx.1,hx.2,hw,A8.one λj hj=>(r2 j hj).symm⟩
 | false =>
  rw [hm] at h
  have:=Ac h
  simp only [Prod.mk.injEq] at this
  obtain ⟨rfl,rfl⟩:=this
  exact ⟨_,AI Gl YD [],_,ha,rfl,hx.1,hx.2,AiX _ n f hn hm,A8.refl _⟩
theorem e42 (Γ:Cx) (vs:List V) (h:List Blk):Ai tab Γ Try.f60 vs h = Ai tab Γ Try.f60 vs h:=by kernel_rfl
theorem p42:A7 Try.prog Gl 60 AdU:=by
 refine Av AL AN Try.func60 (by kernel_rfl) (by kernel_rfl) λvs v h' h=>?_
 obtain ⟨n,f,m,g,ha,h⟩:=Yk h
 obtain ⟨hn,h⟩:=Ad h
 have:=Ac h
 simp only [Prod.mk.injEq] at this
 obtain ⟨rfl,rfl⟩:=this
 have hx:=AO Qn [(0,Oa n)]
 exact ⟨_,cx9 [(0,Oa n)],_,ha,rfl,hx.1,hx.2,by rw [e42]; exact AfU n m f g (of_decide_eq_true hn),A8.refl _⟩
theorem AdD {a b:E6} (ha:Bb a = 0) (hb:Bb b = 0) (h:BP a = BP b):a = b:=by
 rcases EC a with ⟨k,_,_,h1,h2,_⟩ | ⟨h1,_⟩
 ·rcases EC b with ⟨l,_,_,h3,h4,_⟩ | ⟨h3,_⟩
  ·rw [h1,h3] at h
   have:=Int.ofNat.inj h
   rw [<- h2,<- h4,this]
  ·rw [hb] at h3; cases h3
 ·rw [ha] at h1; cases h1
theorem Ka {n:Nat} {f:Nat->E6} {m:Nat} {g:Nat->E6}:BG n f m g = true ↔ n = m ∧ ∀ i,i < n->f i = g i:=by
 unfold BG
 rw [Dv]
 by_cases h:n = m
 ·rw [decide_eq_true h]
  show FA f g n 0 = true ↔ _
  rw [O1]
  exact ⟨λh1=>⟨h,λi hi=>h1 i (Nat.zero_le _) (by omega)⟩,λh1 j _ h3=>h1.2 j (by omega)⟩
 ·rw [decide_eq_false h]
  exact ⟨λh=>(by cases h),λh1=>absurd h1.1 h⟩
def Bd (q:Nat->Bool):Nat->Nat->Option Nat
 | 0,_=>none
 | d+1,i=>match q i with
  | true=>some i
  | false=>Bd q d (i+1)
theorem BV {q:Nat->Bool} {d i:Nat} (h:q i = true):Bd q (d+1) i = some i:=by rw [Bd,h]
theorem B1 {q:Nat->Bool} {d i:Nat} (h:q i = false):Bd q (d+1) i = Bd q d (i+1):=by rw [Bd,h]
theorem BB {a b:Int} (h:ieq a b = true):a = b:=by simpa [ieq] using h
end Go.Proofs.Ytjhnfomefcngfaa.Ed
