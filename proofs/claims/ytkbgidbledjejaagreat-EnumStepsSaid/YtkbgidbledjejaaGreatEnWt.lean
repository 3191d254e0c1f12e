/-
  Layer 5, the document's side, plain: its closed lists are the trace of a power. No conditions.
-/
import Derived.Test.YtkbgidbledjejaaGreatEnWi
import Derived.Test.YtkbgidbledjejaaGreatSyOc
import Derived.Test.YtkbgidbledjejaaGreatEnWb
namespace Go.Proofs.YtkbgidbledjejaaGreat.En
open Go.Sy Go Go.Proofs.YtkbgidbledjejaaGreat.Ed
open Int (ofNat)
set_option maxRecDepth 100000
theorem N4.mul_assoc (m k l:N4):(m.mul k).mul l=m.mul (k.mul l):=by
 simp only [N4.mul,N4.mk.injEq];refine ⟨?_,?_,?_,?_⟩ <;> grind
theorem N4.mul_one (m:N4):m.mul N4.one=m:=by simp [N4.mul,N4.one]
theorem N4.pow_add (m:N4) (i:Nat):∀ j,m.pow (i+j)=(m.pow i).mul (m.pow j)
 | 0=>(N4.mul_one _).symm
 | j+1=>by
  show (m.pow (i+j)).mul m=(m.pow i).mul ((m.pow j).mul m);rw [N4.pow_add m i j,N4.mul_assoc]
def N4.at (m:N4) (i j:Nat):Nat :=
 match i,j with
 | 0,0=>m.a
 | 0,_=>m.b
 | _,0=>m.c
 | _,_=>m.d
def okN (m:N4):Bool:=okG (ofNat m.a) && (okG (ofNat m.b) && (okG (ofNat m.c) && okG (ofNat m.d)))
theorem Zp (u v x y:Nat):bor (Av (decide (0<u)) (ilt 0 (ofNat x))) (Av (decide (0<v)) (ilt 0 (ofNat y)))=decide (0<u * x+v * y):=by
 have hx:ilt 0 (ofNat x)=decide (0<x):=by unfold ilt; simp
 have hy:ilt 0 (ofNat y)=decide (0<y):=by unfold ilt; simp
 rw [hx,hy];unfold bor Av;rw [Bool.eq_iff_iff];simp only [Bool.or_eq_true,Bool.and_eq_true,decide_eq_true_eq];constructor
 ·rintro (⟨h1,h2⟩ | ⟨h1,h2⟩)
  ·have:=Nat.mul_pos h1 h2; omega
  ·have:=Nat.mul_pos h1 h2; omega
 ·intro h
  by_cases h1:0<u * x
  ·exact .inl ⟨Nat.pos_of_mul_pos_right h1,Nat.pos_of_mul_pos_left h1⟩
  ·have h2:0<v * y:=by omega
   exact .inr ⟨Nat.pos_of_mul_pos_right h2,Nat.pos_of_mul_pos_left h2⟩
theorem RS (m:N4) (e:Nat):m.pow (e+1)=m.mul (m.pow e):=by
 rw [Nat.add_comm,N4.pow_add,N4.pow_one]
theorem MU (m:N4):∀ (e u v:Nat),RP (ofNat m.a) (ofNat m.b) (ofNat m.c) (ofNat m.d) e (decide (0<u),decide (0<v)) =
  (decide (0<u * (m.pow e).a+v * (m.pow e).c),decide (0<u * (m.pow e).b+v * (m.pow e).d))
 | 0,u,v=>by
  show (decide (0<u),decide (0<v))=(decide (0<u * 1+v * 0),decide (0<u * 0+v * 1));simp
 | e+1,u,v=>by
  show RP _ _ _ _ e (bor (Av (decide (0<u)) (ilt 0 (ofNat m.a))) (Av (decide (0<v)) (ilt 0 (ofNat m.c))),bor (Av (decide (0<u)) (ilt 0 (ofNat m.b))) (Av (decide (0<v)) (ilt 0 (ofNat m.d))))=_;rw [Zp,Zp,MU m e,RS];simp only [N4.mul];have e1:(u * m.a+v * m.c) * (m.pow e).a+(u * m.b+v * m.d) * (m.pow e).c=u * (m.a * (m.pow e).a+m.b * (m.pow e).c)+v * (m.c * (m.pow e).a+m.d * (m.pow e).c):=by grind
  have e2:(u * m.a+v * m.c) * (m.pow e).b+(u * m.b+v * m.d) * (m.pow e).d=u * (m.a * (m.pow e).b+m.b * (m.pow e).d)+v * (m.c * (m.pow e).b+m.d * (m.pow e).d):=by grind
  exact Prod.ext (decide_eq_decide.2 (by rw [e1])) (decide_eq_decide.2 (by rw [e2]))
theorem Sz (m:N4) (s t e:Nat) (hs:s <= 1) (ht:t <= 1):Cw (ofNat m.a) (ofNat m.b) (ofNat m.c) (ofNat m.d) s t e=decide (0<(m.pow e).at s t):=by
 have hs:s=0 ∨ s=1:=by omega
 have ht:t=0 ∨ t=1:=by omega
 unfold Cw;rcases hs with rfl | rfl
 ·have h:=MU m e 1 0
  rw [show (Nat.beq 0 0,Nat.beq 0 1)=(decide (0<1),decide (0<0)) from rfl,h];rcases ht with rfl | rfl <;> simp [N4.at]
 ·have h:=MU m e 0 1
  rw [show (Nat.beq 1 0,Nat.beq 1 1)=(decide (0<0),decide (0<1)) from rfl,h];rcases ht with rfl | rfl <;> simp [N4.at]
theorem Lr (p q:Int) (hp:0 <= p) (hq:0 <= q):(okT p && (okT (Am 0 (B5 p)) && (okT q && okT (Am (B5 (Am 0 (B5 p))) (B5 q)))))=okT (p+q)∧(okT (p+q)=true->B5 (Am (B5 (Am 0 (B5 p))) (B5 q))=p+q):=by
 unfold okT Am B5;by_cases h1:p <= 9223372036854775807
 ·by_cases h2:q <= 9223372036854775807
  ·rw [if_pos h1,if_pos h2,decide_eq_true h1,decide_eq_true h2,if_pos (show 0+p <= 9223372036854775807 by omega),decide_eq_true (show 0+p <= 9223372036854775807 by omega),Int.zero_add]
   refine ⟨rfl,λh=>if_pos (of_decide_eq_true h)⟩
  ·rw [decide_eq_false h2,decide_eq_false (show ¬ p+q <= 9223372036854775807 by omega)]
   simp
 ·rw [decide_eq_false h1,decide_eq_false (show ¬ p+q <= 9223372036854775807 by omega)]
  simp
def nxt (u v x y:Int):Int:=B5 (Am (B5 (Am 0 (B5 (Bp x u)))) (B5 (Bp y v)))
theorem Ail {a b c d x y:Int} (C D F:Bool) (ga:okG a=true) (gb:okG b=true) (gc:okG c=true) (gd:okG d=true) (gx:okG x=true) (gy:okG y=true) :
  stp a b c d C D (x,y,F)=(sel C (nxt a c x y) 0,sel D (nxt b d x y) 0,F && (sel C (okT (Bp x a+Bp y c)) true && sel D (okT (Bp x b+Bp y d)) true)):=by
 rw [<- (Lr (Bp x a) (Bp y c) (FD gx ga) (FD gy gc)).1,<- (Lr (Bp x b) (Bp y d) (FD gx gb) (FD gy gd)).1];refine Prod.ext ?_ (Prod.ext ?_ ?_)
 ·cases C <;> cases D <;> rfl
 ·cases C <;> cases D <;> rfl
 ·cases C <;> cases D <;> simp only [stp,st1,GM,JK,nxt,Bool.and_true,Bool.true_and] <;> ac_rfl
def QY (m:N4) (s n k:Nat) (p:Int×Int×Bool):Prop :=
 okG p.1=true∧okG p.2.1=true∧(p.2.2=true->(0<(m.pow (n-k)).at 0 s->p.1=ofNat ((m.pow k).at s 0))∧(0<(m.pow (n-k)).at 1 s->p.2.1=ofNat ((m.pow k).at s 1)))∧(p.2.2=false->(9223372036854775807:Int)<ofNat ((m.pow n).at s s))
theorem Ut (m k:N4) (i j:Nat) (hi:i <= 1) (hj:j <= 1):(m.mul k).at i j=m.at i 0 * k.at 0 j+m.at i 1 * k.at 1 j:=by
 have hi:i=0 ∨ i=1:=by omega
 have hj:j=0 ∨ j=1:=by omega
 rcases hi with rfl | rfl <;> rcases hj with rfl | rfl <;> rfl
theorem Wd (m:N4) (s n k:Nat) (hs:s <= 1) (hk:k+1 <= n) (t:Nat) (ht:t <= 1) (x y:Int) (hx:0<(m.pow (n-k)).at 0 s->x=ofNat ((m.pow k).at s 0)) (hy:0<(m.pow (n-k)).at 1 s->y=ofNat ((m.pow k).at s 1))
  (hc:0<(m.pow (n-(k+1))).at t s):x * ofNat (m.at 0 t)+y * ofNat (m.at 1 t)=ofNat ((m.pow (k+1)).at s t)∧ofNat ((m.pow (k+1)).at s t) <= ofNat ((m.pow n).at s s):=by
 have e1:m.pow (n-k)=m.mul (m.pow (n-(k+1))):=by rw [<- RS]; congr 1; omega
 have e2:(m.pow (k+1)).at s t=(m.pow k).at s 0 * m.at 0 t+(m.pow k).at s 1 * m.at 1 t:=Ut (m.pow k) m s t hs ht;have e3:m.pow n=(m.pow (k+1)).mul (m.pow (n-(k+1))):=by rw [<- N4.pow_add]; congr 1; omega
 have fx:x * ofNat (m.at 0 t)=ofNat ((m.pow k).at s 0 * m.at 0 t):=by
  rcases Nat.eq_zero_or_pos (m.at 0 t) with hz | hz
  ·rw [hz]; simp
  ·have:0<(m.pow (n-k)).at 0 s:=by
    rw [e1,Ut _ _ 0 s (by omega) hs];have hp:=Nat.mul_pos hz hc;have ht:t=0 ∨ t=1:=by omega
    rcases ht with rfl | rfl <;> omega
   rw [hx this];simp
 have fy:y * ofNat (m.at 1 t)=ofNat ((m.pow k).at s 1 * m.at 1 t):=by
  rcases Nat.eq_zero_or_pos (m.at 1 t) with hz | hz
  ·rw [hz]; simp
  ·have:0<(m.pow (n-k)).at 1 s:=by
    rw [e1,Ut _ _ 1 s (by omega) hs];have hp:=Nat.mul_pos hz hc;have ht:t=0 ∨ t=1:=by omega
    rcases ht with rfl | rfl <;> omega
   rw [hy this];simp
 refine ⟨by rw [fx,fy,e2]; simp,?_⟩;rw [e3,Ut _ _ s s hs hs];have hp:=Nat.mul_le_mul_left ((m.pow (k+1)).at s t) hc;have ht:t=0 ∨ t=1:=by omega
 refine Int.ofNat_le.2 ?_;rcases ht with rfl | rfl <;> omega
theorem UP (m:N4) (hm:okN m=true) (s n k:Nat) (hs:s <= 1) (hk:k+1 <= n) (p:Int×Int×Bool) (h:QY m s n k p) :
  QY m s n (k+1) (LF (ofNat m.a) (ofNat m.b) (ofNat m.c) (ofNat m.d) s n (k+1) p):=by
 simp only [okN,Bool.and_eq_true] at hm;obtain ⟨ga,gb,gc,gd⟩:=hm;obtain ⟨h1,h2,h3,h4⟩:=h;have hk1:=W9 (C:=Cw (ofNat m.a) (ofNat m.b) (ofNat m.c) (ofNat m.d) 0 s (n-(k+1))) (D:=Cw (ofNat m.a) (ofNat m.b) (ofNat m.c) (ofNat m.d) 1 s (n-(k+1))) ga gb gc gd h1 h2;refine ⟨hk1.1,hk1.2,?_⟩;obtain ⟨x,y,F⟩:=p;unfold LF;rw [Ail _ _ _ ga gb gc gd h1 h2,Sz m 0 s _ (by omega) hs,Sz m 1 s _ (by omega) hs];simp only at h1 h2 h3 h4 ⊢;have q0:=Lr (Bp x (ofNat m.a)) (Bp y (ofNat m.c)) (FD h1 ga) (FD h2 gc);have q1:=Lr (Bp x (ofNat m.b)) (Bp y (ofNat m.d)) (FD h1 gb) (FD h2 gd);cases F with
 | false =>refine ⟨λhf=>by simp at hf,λ_=>h4 rfl⟩
 | true =>
  obtain ⟨hx,hy⟩:=h3 rfl;have s0:=Wd m s n k hs hk 0 (by omega) x y hx hy;have s1:=Wd m s n k hs hk 1 (by omega) x y hx hy;have d0:m.at 0 0=m.a:=rfl;have d1:m.at 1 0=m.c:=rfl;have d2:m.at 0 1=m.b:=rfl;have d3:m.at 1 1=m.d:=rfl;rw [d0,d1] at s0;rw [d2,d3] at s1;have i0:Bp x (ofNat m.a)+Bp y (ofNat m.c)=x * ofNat m.a+y * ofNat m.c:=rfl;have i1:Bp x (ofNat m.b)+Bp y (ofNat m.d)=x * ofNat m.b+y * ofNat m.d:=rfl;rw [i0] at q0 ⊢;rw [i1] at q1 ⊢;constructor
  ·intro hf
   simp only [Bool.true_and,Bool.and_eq_true] at hf;obtain ⟨f0,f1⟩:=hf;constructor
   ·intro hc
    rw [decide_eq_true hc] at f0 ⊢;rw [GM] at f0 ⊢;rw [<- (s0 hc).1];exact q0.2 f0
   ·intro hc
    rw [decide_eq_true hc] at f1 ⊢;rw [GM] at f1 ⊢;rw [<- (s1 hc).1];exact q1.2 f1
  ·intro hf
   simp only [Bool.true_and] at hf;by_cases hc0:0<(m.pow (n-(k+1))).at 0 s
   ·rw [decide_eq_true hc0,GM] at hf
    cases ht:okT (x * ofNat m.a+y * ofNat m.c) with
    | false =>have:=of_decide_eq_false ht;have:=s0 hc0;omega
    | true =>
     rw [ht,Bool.true_and] at hf;by_cases hc1:0<(m.pow (n-(k+1))).at 1 s
     ·rw [decide_eq_true hc1,GM] at hf
      have:=of_decide_eq_false hf;have:=s1 hc1;omega
     ·rw [decide_eq_false hc1,JK] at hf
      cases hf
   ·rw [decide_eq_false hc0,JK,Bool.true_and] at hf
    by_cases hc1:0<(m.pow (n-(k+1))).at 1 s
    ·rw [decide_eq_true hc1,GM] at hf
     have:=of_decide_eq_false hf;have:=s1 hc1;omega
    ·rw [decide_eq_false hc1,JK] at hf
     cases hf
theorem KG (m:N4) (hm:okN m=true) (s n:Nat) (hs:s <= 1):∀ (e k:Nat) (p:Int×Int×Bool),n=k+e->QY m s n k p ->
  QY m s n n (Dk (ofNat m.a) (ofNat m.b) (ofNat m.c) (ofNat m.d) s n e (k+1) p)
 | 0,k,p,h,hp=>by
  have:n=k:=by omega
  subst this;exact hp
 | e+1,k,p,h,hp=>KG m hm s n hs e (k+1) _ (by omega) (UP m hm s n k hs (by omega) p hp)
theorem LG (a b c d:Int) (s n:Nat):∀ (e k:Nat) (p:Int×Int×Bool),p.2.2=false->(Dk a b c d s n e k p).2.2=false
 | 0,_,_,h=>h
 | e+1,k,p,h=>LG a b c d s n e (k+1) _ (by
  obtain ⟨x,y,F⟩:=p;obtain rfl:F=false:=h;unfold LF;generalize Cw a b c d 0 s (n-k)=C;generalize Cw a b c d 1 s (n-k)=D;cases C <;> cases D <;> rfl)
theorem Abq {x:Int} (h:okG x=true):B5 (Am 0 x)=x∧okT (Am 0 x)=true:=by
 have h:=EI.1 h;unfold B5 okT Am;rw [Int.zero_add,if_pos h.2,decide_eq_true h.2];exact ⟨rfl,rfl⟩
theorem Abg (m:N4) (hm:okN m=true) (n:Nat) :
  (OO (ofNat m.a) (ofNat m.b) (ofNat m.c) (ofNat m.d) n).2=okT (trI m n)∧(okT (trI m n)=true->(OO (ofNat m.a) (ofNat m.b) (ofNat m.c) (ofNat m.d) n).1=trI m n):=by
 have hA:=KG m hm 0 n (by omega) n 0 (1,0,true) (by omega) ⟨rfl,rfl,λ_=>⟨λ_=>rfl,λ_=>rfl⟩,λh=>by cases h⟩;have e0:(m.pow (n-n)).at 0 0=1:=by rw [Nat.sub_self]; rfl
 have e1:(m.pow (n-n)).at 1 1=1:=by rw [Nat.sub_self]; rfl
 have et:trI m n=ofNat ((m.pow n).at 0 0)+ofNat ((m.pow n).at 1 1):=rfl;have z0:(0:Int) <= ofNat ((m.pow n).at 0 0):=by simp
 have z1:(0:Int) <= ofNat ((m.pow n).at 1 1):=by simp
 have hB:∀ F,(F=true ∨ F=false)->(F=true->QY m 1 n n (Dk (ofNat m.a) (ofNat m.b) (ofNat m.c) (ofNat m.d) 1 n n 1 (0,1,F))):=by
  intro F _ hF;subst hF;exact KG m hm 1 n (by omega) n 0 (0,1,true) (by omega) ⟨rfl,rfl,λ_=>⟨λ_=>rfl,λ_=>rfl⟩,λh=>by cases h⟩
 unfold OO;obtain ⟨a1,a2,a3,a4⟩:=hA;rw [Nat.zero_add] at a1 a2 a3 a4;have wA:Ho (ofNat m.a) (ofNat m.b) (ofNat m.c) (ofNat m.d) n=((Dk (ofNat m.a) (ofNat m.b) (ofNat m.c) (ofNat m.d) 0 n n 1 (1,0,true)).1,(Dk (ofNat m.a) (ofNat m.b) (ofNat m.c) (ofNat m.d) 0 n n 1 (1,0,true)).2.2):=by
  unfold Ho;rw [(Abq a1).1,(Abq a1).2,Bool.and_true]
 rw [wA];generalize Dk (ofNat m.a) (ofNat m.b) (ofNat m.c) (ofNat m.d) 0 n n 1 (1,0,true)=P at *;obtain ⟨x,y,F⟩:=P;simp only at a1 a2 a3 a4 ⊢;cases F with
 | false =>have:=a4 rfl;have hf:=LG (ofNat m.a) (ofNat m.b) (ofNat m.c) (ofNat m.d) 1 n n 1 (0,1,false) rfl;have ht:okT (trI m n)=false:=decide_eq_false (by omega);rw [hf,ht];exact ⟨rfl,λh=>by cases h⟩
 | true =>
  have hx:=(a3 rfl).1 (by rw [e0]; omega);obtain ⟨b1,b2,b3,b4⟩:=hB true (.inl rfl) rfl;generalize Dk (ofNat m.a) (ofNat m.b) (ofNat m.c) (ofNat m.d) 1 n n 1 (0,1,true)=Q at *;obtain ⟨u,v,G⟩:=Q;simp only at b1 b2 b3 b4 ⊢;cases G with
  | false =>have:=b4 rfl;have ht:okT (trI m n)=false:=decide_eq_false (by omega);rw [ht];exact ⟨rfl,λh=>by cases h⟩
  | true =>
   have hy:=(b3 rfl).2 (by rw [e1]; omega);have es:Am x v=trI m n:=by rw [et,hx,hy]; rfl
   rw [es];refine ⟨rfl,λh=>?_⟩;unfold B5;rw [if_pos (of_decide_eq_true h)]
end Go.Proofs.YtkbgidbledjejaaGreat.En
namespace Go.Proofs.YtkbgidbledjejaaGreat.En
open Go.Sy Go Go.Proofs.YtkbgidbledjejaaGreat.Ed
open Int (ofNat)
set_option maxRecDepth 100000
noncomputable def AkI:AD:=[(45,Cj λe=>iV (AA e))]
theorem AeW:Al Tryz.prog Gl AkI:=.cons p29 .nil
def lp56:Lp:=⟨bmK 19 0 [0,2,3],0,bmK 19 0 [2],0,1000⟩
noncomputable abbrev AmF:Cx:=cxA Gl AkI [(0,lp56,[])]
noncomputable def B56:St->T (Ex×St):=λst=>A8 tab AmF (A1 Tryz.f56 0) 0 st
def S56 (n:Nat) (v:Nat->E6) (i:Int):St:=⟨jsV 19 0 Ac [(0,Ao n v),(2,iV 0),(3,iV i)],[]⟩
theorem r56 {n:Nat} {v:Nat->E6} (hn:n <= 128) (hm:Bv n v=true):(Ay B56 lp56 1000 (S56 n v 0)).sem=some (.ex 0,⟨jsV 19 0 Ac [(2,iV 0)],[]⟩):=by
 refine C0 (S:=λi=>S56 n v (ofNat i)) (m:=n) (λh=>by cases h) (λi hi=>?_) ?_ (by omega)
 ·have c0:ieq (AA (v i)) 0=true:=decide_eq_true (Bh.1 hm i hi)
  exact DW.rd (.k (ofNat_lt hi) <| .k (Af hi) <| .k (eN c0) <| .e (nm1 (f:=S56 n v) (C2 (by omega)))) (by kernel_rfl)
 ·exact DW.rd (.k (A4 (Nat.le_refl n)) <| .l) (by kernel_rfl)
def Ak7:List V->A3
 | [u]=>apL u λk w=>.br (Av (Bv k w) (decide (k <= 128))) (.leaf (iV 0,[])) .fail
 | _=>.fail
theorem Vf {F:Nat->(Nat->E6)->V×List Blk} {vs:List V} {r:V×List Blk} (h:((match vs with | [u]=>apL u λk w=>.br (Av (Bv k w) (decide (k <= 128))) (.leaf (F k w)) .fail | _=>.fail):A3).sem=some r):∃ k w,B2 vs [Ao k w]∧Bv k w=true∧k <= 128∧r=F k w:=by
 split at h
 ·obtain ⟨k,w,ha,h⟩:=Bb h
  obtain ⟨hg,h⟩:=Ab h;obtain ⟨h1,h2⟩:=Bf hg;exact ⟨k,w,AaD ha,h1,of_decide_eq_true h2,Aa h⟩
 ·cases h
theorem AcA {k:Nat} {w:Nat->E6} (hm:Bv k w=true) (hk:k <= 128):Av (Bv k w) (decide (k <= 128))=true:=by rw [hm,decide_eq_true hk]; rfl
theorem p56:Ar Tryz.prog Gl 56 Ak7:=by
 refine Ah A0 mixed Tryz.func56 (by kernel_rfl) (by kernel_rfl) λvs v h' h=>?_;obtain ⟨k,w,ha,hm,hk,h⟩:=Vf (F:=λ_ _=>(iV 0,[])) h;cases h;have hx:=AZ AeW [(0,lp56,[])] (G:=Gl);have h1:ilt 128 (ofNat k)=false:=decide_eq_false (by show ¬ (128:Int)<(k:Int); omega);exact ⟨[Ao k w],AmF,_,ha,rfl,hx.1,hx.2,DW.ok (.k h1 <| .a (r56 hk hm) <| .l) (by kernel_rfl),As.refl _⟩
def Ahk:Lp:=⟨bmK 41 0 [0,2,3,4],2,bmK 41 0 [3],2,1000⟩
def O4:Lp:=⟨bmK 41 0 [0,2,3,4,5,6],2,bmK 41 0 [0,2,3,4,5],2,1000⟩
def Ahf:List (Nat×Lp×List (Nat×(Nat->V))):=[(0,Ahk,[(1,λ_=>eV Ba)]),(2,O4,[])]
noncomputable abbrev Ah2:Cx:=cxA Gl [] Ahf
noncomputable def B108 (id:Nat):St->T (Ex×St):=λst=>A8 tab Ah2 (A1 Tryz.f108 id) id st
def QX (l:List (Nat×V)) (n:Nat) (v:Nat->E6) (m:Nat) (g:Nat->V) (i:Int):St:=⟨jsV 41 0 Ac ([(0,Ao n v),(2,.ref 0),(3,.ref 1),(4,iV i)]++l),[.row 46 6 0 Ac,.row 46 6 m g]⟩
theorem WX {n q m:Nat} {v g:Nat->E6} (hq:q<n) (hn:n <= 128) (hm:m <= 128):∀ (d b:Nat) (t:Bool) (M:Nat),m=b+d->d<M->(Ay (B108 2) O4 M (QX [(5,bV t),(6,nV b)] n v m (λk=>eV (g k)) (ofNat q))).sem=some (.ex 2,QX [(5,bV (bor t (N6 g (v q) d b)))] n v m (λk=>eV (g k)) (ofNat q))
 | 0,b,t,M,h,hM=>by
  obtain ⟨M,rfl⟩:∃ o,M=o+1:=⟨M-1,by omega⟩;have hb:bor t (N6 g (v q) 0 b)=t:=by cases t <;> rfl
  rw [hb];exact Ae (t:=some (.ex 2,_)) (DW.rd (.k (A4 (i:=b) (n:=m) (by omega)) <| .l) (by kernel_rfl))
 | d+1,b,t,M,h,hM=>by
  obtain ⟨M,rfl⟩:∃ o,M=o+1:=⟨M-1,by omega⟩;have hb:b<m:=by omega
  cases t with
  | true =>
   have hr:Ap (B108 2) O4 (QX [(5,bV true),(6,nV b)] n v m (λk=>eV (g k)) (ofNat q))=some (.nm,QX [(5,bV true),(6,iV (ofNat (b+1)))] n v m (λk=>eV (g k)) (ofNat q)):=DW.rd (.k (ofNat_lt hb) <| .r 10 eT <| .e (nm1 (f:=λz=>QX [(5,bV true),(6,iV z)] n v m (λk=>eV (g k)) (ofNat q)) (C2 (by omega)))) (by kernel_rfl)
   rw [Ae hr,AS];exact WX hq hn hm d (b+1) true M (by omega) (by omega)
  | false =>
   have hr:Ap (B108 2) O4 (QX [(5,bV false),(6,nV b)] n v m (λk=>eV (g k)) (ofNat q))=some (.nm,QX [(5,bV (eqE (g b) (v q))),(6,iV (ofNat (b+1)))] n v m (λk=>eV (g k)) (ofNat q)):=DW.rd (.k (ofNat_lt hb) <| .r 3 eF <| .k (Af hb) <| .k eF <| .k (decide_eq_true hb) <| .r 3 eF <| .k (Af hq) <| .r 3 eF <| .e (nm1 (f:=λz=>QX [(5,bV (eqE (g b) (v q))),(6,iV z)] n v m (λk=>eV (g k)) (ofNat q)) (C2 (by omega)))) (by kernel_rfl)
   rw [Ae hr,AS];exact WX hq hn hm d (b+1) (eqE (g b) (v q)) M (by omega) (by omega)
theorem Acn (l:List E6) (x:E6):AE l.length (λj=>eV (getE l j)) (eV x)=λj=>eV (getE (x::l) j):=by
 funext j;rw [Ca];show (bif Nat.beq j l.length then eV x else eV (getE l j))=eV (bif Nat.beq j l.length then x else getE l j);cases Nat.beq j l.length <;> rfl
def AaM (n:Nat) (v:Nat->E6) (i:Nat):St:=QX [] n v (AK v i).length (λk=>eV (getE (AK v i) k)) (ofNat i)
theorem AnB {n:Nat} {v:Nat->E6} (hn:n <= 128):(Ay (B108 0) Ahk 1000 (AaM n v 0)).sem=some (.ex 0,⟨jsV 41 0 Ac [(3,.ref 1)],[.row 46 6 0 Ac,.row 46 6 (AK v n).length λk=>eV (getE (AK v n) k)]⟩):=by
 refine C0 (S:=AaM n v) (m:=n) (λh=>by cases h) (λi hi=>?_) ?_ (by omega)
 ·have hl:=GB v i
  have h2:=WX (g:=getE (AK v i)) (v:=v) hi hn (m:=(AK v i).length) (by omega) (AK v i).length 0 false 1000 (by omega) (by omega);have ha:CJ (AK v i).length 1 40=true:=decide_eq_true (by show ((AK v i).length+1) * 40 <= (140737488355328:Nat); omega);cases hb:N6 (getE (AK v i)) (v i) (AK v i).length 0 with
  | true =>
   rw [hb] at h2;have e:(Ex.nm,QX [] n v (AK v i).length (λk=>eV (getE (AK v i) k)) (wr .i64 (Am (ofNat i) 1)))=(Ex.nm,AaM n v (i+1)):=by
    unfold AaM;rw [KO hb,C2 (by omega)]
   exact DW.rd (.k (ofNat_lt hi) <| .a h2 <| .k (eN eT) <| .e e) (by kernel_rfl)
  | false =>
   rw [hb] at h2;have e:(Ex.nm,QX [] n v ((AK v i).length+1) (AE (AK v i).length (λk=>eV (getE (AK v i) k)) (eV (v i))) (wr .i64 (Am (ofNat i) 1)))=(Ex.nm,AaM n v (i+1)):=by
    unfold AaM;rw [Ju hb,C2 (by omega),Acn];rfl
   exact DW.rd (.k (ofNat_lt hi) <| .a h2 <| .k (eN eF) <| .k (Af hi) <| .k ha <| .e e) (by kernel_rfl)
 ·exact DW.rd (.k (A4 (Nat.le_refl n)) <| .l) (by kernel_rfl)
def AgV:List V->A3
 | [u]=>apL u λk w=>.br (Av (Bv k w) (decide (k <= 128))) (.leaf (.ref 0,[.row 46 6 (AK w k).length λi=>eV (getE (AK w k) i)])) .fail
 | _=>.fail
theorem p108:Ar Tryz.prog Gl 108 AgV:=by
 refine Ah A0 mixed Tryz.func108 (by kernel_rfl) (by kernel_rfl) λvs v h' h=>?_;obtain ⟨k,w,ha,hm,hk,h⟩:=Vf (F:=λk w=>(.ref 0,[.row 46 6 (AK w k).length λi=>eV (getE (AK w k) i)])) h;cases h;have hx:=AZ (Al.nil:Al Tryz.prog Gl []) Ahf (G:=Gl);exact ⟨[Ao k w],Ah2,_,ha,rfl,hx.1,hx.2,DW.ok (.a (AnB (v:=w) hk) <| .l) (by kernel_rfl),As.refl _⟩
def EQ (g:Nat->E6):Nat->Nat->Nat
 | 0,_=>0
 | i+1,q=>if cls (g i)=q then EQ g i q+1 else EQ g i q
theorem Zg (g:Nat->E6) (q:Nat):∀ i,EQ g i q <= i
 | 0=>Nat.le_refl _
 | i+1=>by
  have:=Zg g q i;unfold EQ;split <;> omega
theorem Q8 {g g':Nat->E6} (q:Nat):∀ i,(∀ j,j<i->g j=g' j)->EQ g i q=EQ g' i q
 | 0,_=>rfl
 | i+1,h=>by
  unfold EQ;rw [h i (by omega),Q8 q i λj hj=>h j (by omega)]
theorem J6 (q:Nat):∀ l:List E6,EQ (getE l) l.length q=CX l q
 | []=>rfl
 | x::l=>by
  have e1:getE (x::l) l.length=x:=by
   show (bif Nat.beq l.length l.length then x else getE l l.length)=x;rw [Nat.beq_refl];rfl
  have e2:EQ (getE (x::l)) l.length q=EQ (getE l) l.length q:=Q8 q _ λj hj=>by
   show (bif Nat.beq j l.length then x else getE l j)=getE l j;rw [show Nat.beq j l.length=false from Bool.eq_false_iff.2 λh=>by have:=Nat.eq_of_beq_eq_true h; omega];rfl
  show (if cls (getE (x::l) l.length)=q then EQ (getE (x::l)) l.length q+1 else EQ (getE (x::l)) l.length q)=_
  rw [e1,e2,J6 q l];rfl
noncomputable def AkE:AD:=[(56,Ak7),(108,AgV)]
theorem AeO:Al Tryz.prog Gl AkE:=.cons p56 <| .cons p108 .nil
def Ajf:Lp:=⟨bmK 41 0 [2,3,4,6,7],3,bmK 41 0 [2,3,4],2,1000⟩
noncomputable abbrev AmD:Cx:=cxA Gl AkE [(0,Ajf,[])]
noncomputable def B80:St->T (Ex×St):=λst=>A8 tab AmD (A1 Tryz.f80 0) 0 st
def S80 (m:Nat) (g:Nat->E6) (c0 c1 c2 c3 i:Int):St:=⟨jsV 41 0 Ac [(2,.ptr 0 0),(3,iV 0),(4,.ptr 1 0),(6,.ref 2),(7,iV i)],[.cells [iV 0,iV 0,iV 0,iV 0],.cells [iV c0,iV c1,iV c2,iV c3],.row 46 6 m λk=>eV (g k)]⟩
def T80 (m:Nat) (g:Nat->E6) (i:Nat):St:=S80 m g (ofNat (EQ g i 0)) (ofNat (EQ g i 1)) (ofNat (EQ g i 2)) (ofNat (EQ g i 3)) (ofNat i)
theorem r80 {m:Nat} {g:Nat->E6} (hm:m <= 128) (ho:∀ i,i<m->AA (g i)=0):(Ay B80 Ajf 1000 (T80 m g 0)).sem=some (.ex 0,⟨jsV 41 0 Ac [(2,.ptr 0 0),(3,iV 0),(4,.ptr 1 0)],[.cells [iV 0,iV 0,iV 0,iV 0],.cells [iV (ofNat (EQ g m 0)),iV (ofNat (EQ g m 1)),iV (ofNat (EQ g m 2)),iV (ofNat (EQ g m 3))]]⟩):=by
 refine C0 (S:=T80 m g) (m:=m) (λh=>by cases h) (λi hi=>?_) ?_ (by omega)
 ·have hw:=λq=>C2 (i:=EQ g i q) (by have:=Zg g q i; omega)
  have e:∀ {c0 c1 c2 c3:Int},c0=ofNat (EQ g (i+1) 0)->c1=ofNat (EQ g (i+1) 1)->c2=ofNat (EQ g (i+1) 2)->c3=ofNat (EQ g (i+1) 3)->(Ex.nm,S80 m g c0 c1 c2 c3 (wr .i64 (Am (ofNat i) 1)))=(Ex.nm,T80 m g (i+1)):=by
   intro c0 c1 c2 c3 h0 h1 h2 h3;unfold T80;rw [C2 (by omega),h0,h1,h2,h3]
  have no:∀ {q},cls (g i) ≠ q->ofNat (EQ g i q)=ofNat (EQ g (i+1) q):=λh=>by rw [EQ,if_neg h]
  have yes:∀ {q},cls (g i)=q->wr .i64 (Am (ofNat (EQ g i q)) 1)=ofNat (EQ g (i+1) q):=λh=>by rw [EQ,if_pos h,hw]
  have b1:=Af hi;have b2:nlt i m=true:=decide_eq_true hi;rcases Amv (ho i hi) with ⟨h1,h2,h3⟩ | ⟨h1,h2,h3⟩ | ⟨h1,h2,h3⟩ | ⟨h1,h2,h3⟩
  ·have a:ieq (wr .i64 (Ax (g i).src 1)) 0=true:=by rw [h1]; rfl
   have b:ieq (wr .i64 (Ax (g i).dst 1)) 0=true:=by rw [h2]; rfl
   exact DW.rd (.k (ofNat_lt hi) <| .k b1 <| .k b2 <| .k b1 <| .k b2 <| .k a <| .k b <| .k a <| .k b <| .e (e (yes h3) (no (by omega)) (no (by omega)) (no (by omega)))) (by kernel_rfl)
  ·have a:ieq (wr .i64 (Ax (g i).src 1)) 0=true:=by rw [h1]; rfl
   have b:ieq (wr .i64 (Ax (g i).dst 1)) 0=false:=by rw [h2]; rfl
   have c:ieq (wr .i64 (Ax (g i).dst 1)) 1=true:=by rw [h2]; rfl
   exact DW.rd (.k (ofNat_lt hi) <| .k b1 <| .k b2 <| .k b1 <| .k b2 <| .k a <| .k b <| .k c <| .k a <| .k b <| .k c <| .e (e (no (by omega)) (yes h3) (no (by omega)) (no (by omega)))) (by kernel_rfl)
  ·have a:ieq (wr .i64 (Ax (g i).src 1)) 0=false:=by rw [h1]; rfl
   have b:ieq (wr .i64 (Ax (g i).src 1)) 1=true:=by rw [h1]; rfl
   have c:ieq (wr .i64 (Ax (g i).dst 1)) 0=true:=by rw [h2]; rfl
   exact DW.rd (.k (ofNat_lt hi) <| .k b1 <| .k b2 <| .k b1 <| .k b2 <| .k a <| .k b <| .k c <| .k a <| .k b <| .k c <| .e (e (no (by omega)) (no (by omega)) (yes h3) (no (by omega)))) (by kernel_rfl)
  ·have a:ieq (wr .i64 (Ax (g i).src 1)) 0=false:=by rw [h1]; rfl
   have b:ieq (wr .i64 (Ax (g i).src 1)) 1=true:=by rw [h1]; rfl
   have c:ieq (wr .i64 (Ax (g i).dst 1)) 0=false:=by rw [h2]; rfl
   have d:ieq (wr .i64 (Ax (g i).dst 1)) 1=true:=by rw [h2]; rfl
   exact DW.rd (.k (ofNat_lt hi) <| .k b1 <| .k b2 <| .k b1 <| .k b2 <| .k a <| .k b <| .k c <| .k d <| .k a <| .k b <| .k c <| .k d <| .e (e (no (by omega)) (no (by omega)) (no (by omega)) (yes h3))) (by kernel_rfl)
 ·exact DW.rd (.k (A4 (Nat.le_refl m)) <| .l) (by kernel_rfl)
theorem p80:Ar Tryz.prog Gl 80 Aaa:=by
 refine Ah A0 mixed Tryz.func80 (by kernel_rfl) (by kernel_rfl) λvs v h' h=>?_;obtain ⟨k,w,ha,hm,hk,h⟩:=Se h;cases h;have hx:=AZ AeO [(0,Ajf,[])] (G:=Gl);have hl:=GB w k;have hr:=r80 (m:=(AK w k).length) (g:=getE (AK w k)) (by omega) λi hi=>by
  obtain ⟨t,ht,he⟩:=JW w k _ ((Qg _ _).1 ⟨i,hi,rfl⟩);rw [he];exact Bh.1 hm t ht
 rw [J6,J6,J6,J6] at hr;have hg:=AcA hm hk;exact ⟨[Ao k w],AmD,_,ha,rfl,hx.1,hx.2,DW.ok (.k (eL k) <| .k hg <| .k (eN (eI 0)) <| .k (eL k) <| .k hg <| .a hr <| .l) (by kernel_rfl),As.refl _⟩
noncomputable def tb68:AD:=[(80,Aaa),(98,Abh)]
theorem tb68_ok:Al Tryz.prog Gl tb68:=.cons p80 <| .cons p98 .nil
theorem p68:Ar Tryz.prog Gl 68 Rx:=by
 refine Ah A0 mixed Tryz.func68 (by kernel_rfl) (by kernel_rfl) λvs v h' h=>?_;obtain ⟨k,w,j,hA,hg,h⟩:=OP h;obtain ⟨hm,hk,N,rfl,h1,h16⟩:=OQ hg;have hx:=AZ tb68_ok [] (G:=Gl);have g0:=AcA hm hk;have g1:ilt (ofNat N) 1=false:=decide_eq_false (by show ¬ (N:Int)<(1:Int); omega);have g2:ilt 16 (ofNat N)=false:=decide_eq_false (by show ¬ (16:Int)<(N:Int); omega);have g3:ile 1 (ofNat N)=true:=decide_eq_true (by show (1:Int) <= (N:Int); omega);have g4:ile (ofNat N) 16=true:=decide_eq_true (by show (N:Int) <= (16:Int); omega);have hG:∀ q,okG (ofNat (CX (AK w k) q))=true:=λq=>by
  have:=OG (AK w k) q;have:=GB w k;exact EI.2 ⟨Int.natCast_nonneg _,by show ((CX (AK w k) q:Nat):Int) <= _; omega⟩
 have hN:okN (Oi k w)=true:=by
  unfold okN Oi;rw [hG 0,hG 1,hG 2,hG 3];rfl
 obtain ⟨e2,e1⟩:=Abg (Oi k w) hN N;have h:(T.br (ilt (trI (Oi k w) N) 9223372036854775808) (.leaf (.tup [iV (trI (Oi k w) N),iV 0],([]:List Blk))) (.leaf (.tup [iV 0,iV 3],[]))).sem=some (v,h'):=h;cases hc:ilt (trI (Oi k w) N) 9223372036854775808 with
 | true =>rw [hc] at h;cases h;have ht:okT (trI (Oi k w) N)=true:=decide_eq_true (by have:=of_decide_eq_true hc; omega);exact ⟨_,cxA Gl tb68 [],_,hA,rfl,hx.1,hx.2,DW.ok (.k (eL k) <| .k g0 <| .k (eN (eI 0)) <| .r 3 g1 <| .k g2 <| .k (hG 0) <| .k (hG 1) <| .k (hG 2) <| .k (hG 3) <| .k g3 <| .k g4 <| .k (eN (e2.trans ht)) <| .e (congrArg (λz=>(V.tup [iV z,iV 0],([]:List Blk))) (e1 ht))) (by kernel_rfl),As.refl _⟩
 | false =>rw [hc] at h;cases h;have ht:okT (trI (Oi k w) N)=false:=decide_eq_false (by have:=of_decide_eq_false hc; omega);exact ⟨_,cxA Gl tb68 [],_,hA,rfl,hx.1,hx.2,DW.ok (.k (eL k) <| .k g0 <| .k (eN (eI 0)) <| .r 3 g1 <| .k g2 <| .k (hG 0) <| .k (hG 1) <| .k (hG 2) <| .k (hG 3) <| .k g3 <| .k g4 <| .k (eN (e2.trans ht)) <| .l) (by kernel_rfl),As.refl _⟩
end Go.Proofs.YtkbgidbledjejaaGreat.En
namespace Go.Proofs.YtkbgidbledjejaaGreat.En
open Go.Sy Go Go.Proofs.YtkbgidbledjejaaGreat.Ed
open Int (ofNat)
set_option maxRecDepth 100000
theorem OK {x:Int} (h:-9223372036854775808 <= x) (h2:x <= 9223372036854775807):wr .i64 x=x:=by
 unfold wr IntKind.wrap;simp [IntKind.bits,IntKind.signed];omega
theorem Zj (k:Nat) (w:Nat->E6) (t:Nat):0 <= CQ k w t:=Int.natCast_nonneg _
def IY (k:Nat) (w:Nat->E6):Nat->Nat->Int->Bool
 | 0,_,_=>false
 | d+1,b,l=>sel (ilt (CQ k w b) 9223372036854775808) (sel (ilt l (CQ k w b)) true (IY k w d (b+1) (l-CQ k w b))) true
def Gv (k:Nat) (w:Nat->E6) (n:Int):Bool:=IY k w (toN n-1) 2 262144
def Lm (k:Nat) (w:Nat->E6) (n:Int):Bool:=Av (Bv k w) (Av (ile 2 n) (Av (ile n 16) (decide (k <= 128))))
def NA:List V->A3
 | [u,.val (.int .i64 n)]=>apL u λk w=>.br (Lm k w n) (.leaf (bV (Gv k w n),[])) .fail
 | _=>.fail
theorem ON {vs:List V} {r:V×List Blk} (h:(NA vs).sem=some r):∃ k w n,B2 vs [Ao k w,iV n]∧Lm k w n=true∧(T.leaf (bV (Gv k w n),([]:List Blk))).sem=some r:=by
 unfold NA at h;split at h
 ·rename_i u n
  obtain ⟨k,w,ha,h⟩:=Bb h;obtain ⟨hg,h⟩:=Ab h;refine ⟨k,w,n,λS W cs hq=>?_,hg,h⟩;obtain ⟨c,l,rfl,q1,q2⟩:=hq;exact ⟨c,_,rfl,ha S W c q1,q2⟩
 ·cases h
theorem U6 {k:Nat} {w:Nat->E6} {n:Int} (h:Lm k w n=true):Bv k w=true∧k <= 128∧∃ N:Nat,n=ofNat N∧2 <= N∧N <= 16:=by
 obtain ⟨h1,h⟩:=Bf h;obtain ⟨h2,h⟩:=Bf h;obtain ⟨h3,h4⟩:=Bf h;have h2:(2:Int) <= n:=of_decide_eq_true h2;have h3:n <= (16:Int):=of_decide_eq_true h3;refine ⟨h1,of_decide_eq_true h4,n.toNat,(Int.toNat_of_nonneg (by omega)).symm,by omega,by omega⟩
noncomputable def AkP:AD:=(67,Rx)::[]
theorem Aff:Al Tryz.prog Gl AkP:=.cons p67 <| .nil
def AfF:Lp:=⟨bmK 30 0 [0,1,4,5,6],0,bmK 30 0 [4],0,4611686018427387905⟩
def Ama:List (Nat×Lp×List (Nat×(Nat->V))):=[(0,AfF,[])]
noncomputable abbrev AmH:Cx:=cxA Gl AkP Ama
def S33 (n:Int) (k:Nat) (w:Nat->E6) (l i:Int):St:=⟨jsV 30 0 Ac [(0,Ao k w),(1,iV n),(4,bV false),(5,iV l),(6,iV i)],[]⟩
def e33 (b:Bool):Ex×St:=match b with
 | false=>(.ex 0,⟨jsV 30 0 Ac [(4,bV false)],[]⟩)
 | true=>(.rt,⟨jsV 30 0 Ac [(4,bV true)],[]⟩)
noncomputable def B33:St->T (Ex×St):=λst=>A8 tab AmH (A1 Tryz.f33 0) 0 st
theorem r33 {n:Int} {N k:Nat} {w:Nat->E6} (hn:n=ofNat N) (hN:N <= 16) (hm:Bv k w=true) (hk:k <= 128):∀ (d b:Nat) (l:Int) (M:Nat),2 <= b->b+d=N+1->0 <= l∧l <= 262144->d<M->(Ay B33 AfF M (S33 n k w l (ofNat b))).sem=some (e33 (IY k w d b l))
 | 0,b,l,M,h2,h,hl,hM=>by
  obtain ⟨M,rfl⟩:∃ o,M=o+1:=⟨M-1,by omega⟩;have hb:ile (ofNat b) n=false:=decide_eq_false (by rw [hn]; show ¬ ((b:Int) <= (N:Int)); omega);exact Ae (t:=some (.ex 0,_)) (DW.rd (.k hb <| .l) (by kernel_rfl))
 | d+1,b,l,M,h2,h,hl,hM=>by
  obtain ⟨M,rfl⟩:∃ o,M=o+1:=⟨M-1,by omega⟩;have hb:ile (ofNat b) n=true:=decide_eq_true (by rw [hn]; show (b:Int) <= (N:Int); omega);have hG:Ln k w (ofNat b)=true:=by
   unfold Ln;rw [hm,decide_eq_true hk,show ile 1 (ofNat b)=true from decide_eq_true (by show (1:Int) <= (b:Int); omega),show ile (ofNat b) 16=true from decide_eq_true (by show (b:Int) <= 16; omega)];rfl
  have h0:=Zj k w b;unfold IY;cases h1:ilt (CQ k w b) 9223372036854775808 with
  | false=>exact Ae (t:=some (.rt,_)) (DW.rd (.k hb <| .k (eL k) <| .k hG <| .k h1 <| .r 4 (eN (show ieq 3 0=false from rfl)) <| .k eT <| .l) (by kernel_rfl))
  | true =>
   skip
   cases h2':ilt l (CQ k w b) with
   | true=>exact Ae (t:=some (.rt,_)) (DW.rd (.k hb <| .k (eL k) <| .k hG <| .k h1 <| .r 4 (eN (eI 0)) <| .k h2' <| .l) (by kernel_rfl))
   | false =>
    have h3:¬ (l<CQ k w b):=of_decide_eq_false h2';have hw:wr .i64 (Ax l (CQ k w b))=l-CQ k w b:=OK (x:=l-CQ k w b) (by omega) (by omega);refine (Ae (DW.rd (.k hb <| .k (eL k) <| .k hG <| .k h1 <| .r 4 (eN (eI 0)) <| .k h2' <| .e (nm2 (f:=λl i=>S33 n k w l i) hw (C2 (by omega)))) (by kernel_rfl):Ap B33 AfF (S33 n k w l (ofNat b))=some (.nm,S33 n k w (l-CQ k w b) (ofNat (b+1))))).trans ?_
    show (Ay B33 AfF M (S33 n k w (l-CQ k w b) (ofNat (b+1)))).sem=_;rw [r33 hn hN hm hk d (b+1) (l-CQ k w b) M (by omega) (by omega) (by omega) (by omega)];show some (e33 (IY k w d (b+1) (l-CQ k w b)))=some (e33 (IY k w d (b+1) (l-CQ k w b)));rfl
theorem p33:Ar Tryz.prog Gl 33 NA:=by
 refine Ah A0 mixed Tryz.func33 (by kernel_rfl) (by kernel_rfl) λvs v h' h=>?_;obtain ⟨k,w,n,ha,hg,h⟩:=ON h;have:=Aa h;simp only [Prod.mk.injEq] at this;obtain ⟨rfl,rfl⟩:=this;have hx:=AZ Aff Ama (G:=Gl);refine ⟨[Ao k w,iV n],AmH,_,ha,rfl,hx.1,hx.2,?_,As.refl _⟩;obtain ⟨hm,hk,N,hn,h2,hN⟩:=U6 hg;have hr:=r33 hn hN hm hk (N-1) 2 262144 4611686018427387905 (by omega) (by omega) (by omega) (by omega);unfold Gv;rw [show toN n=N by rw [hn]; rfl];have e0:(262144:Int)=262144:=rfl;rw [e0] at hr;cases hb:IY k w (N-1) 2 262144 with
 | true =>rw [hb] at hr;exact DW.ok (.a hr .l) (by kernel_rfl)
 | false =>rw [hb] at hr;exact DW.ok (.a hr .l) (by kernel_rfl)
noncomputable def AkO:AD:=(68,Rx)::[]
theorem Afd:Al Tryz.prog Gl AkO:=.cons p68 <| .nil
def AfE:Lp:=⟨bmK 31 0 [0,1,4,5,6],0,bmK 31 0 [4],0,4611686018427387905⟩
def AlZ:List (Nat×Lp×List (Nat×(Nat->V))):=[(0,AfE,[])]
noncomputable abbrev AmG:Cx:=cxA Gl AkO AlZ
def S35 (n:Int) (k:Nat) (w:Nat->E6) (l i:Int):St:=⟨jsV 31 0 Ac [(0,Ao k w),(1,iV n),(4,bV false),(5,iV l),(6,iV i)],[]⟩
def e35 (b:Bool):Ex×St:=match b with
 | false=>(.ex 0,⟨jsV 31 0 Ac [(4,bV false)],[]⟩)
 | true=>(.rt,⟨jsV 31 0 Ac [(4,bV true)],[]⟩)
noncomputable def B35:St->T (Ex×St):=λst=>A8 tab AmG (A1 Tryz.f35 0) 0 st
theorem r35 {n:Int} {N k:Nat} {w:Nat->E6} (hn:n=ofNat N) (hN:N <= 16) (hm:Bv k w=true) (hk:k <= 128):∀ (d b:Nat) (l:Int) (M:Nat),2 <= b->b+d=N+1->0 <= l∧l <= 262144->d<M->(Ay B35 AfE M (S35 n k w l (ofNat b))).sem=some (e35 (IY k w d b (262144-l)))
 | 0,b,l,M,h2,h,hl,hM=>by
  obtain ⟨M,rfl⟩:∃ o,M=o+1:=⟨M-1,by omega⟩;have hb:ile (ofNat b) n=false:=decide_eq_false (by rw [hn]; show ¬ ((b:Int) <= (N:Int)); omega);exact Ae (t:=some (.ex 0,_)) (DW.rd (.k hb <| .l) (by kernel_rfl))
 | d+1,b,l,M,h2,h,hl,hM=>by
  obtain ⟨M,rfl⟩:∃ o,M=o+1:=⟨M-1,by omega⟩;have hb:ile (ofNat b) n=true:=decide_eq_true (by rw [hn]; show (b:Int) <= (N:Int); omega);have hG:Ln k w (ofNat b)=true:=by
   unfold Ln;rw [hm,decide_eq_true hk,show ile 1 (ofNat b)=true from decide_eq_true (by show (1:Int) <= (b:Int); omega),show ile (ofNat b) 16=true from decide_eq_true (by show (b:Int) <= 16; omega)];rfl
  have h0:=Zj k w b;unfold IY;cases h1:ilt (CQ k w b) 9223372036854775808 with
  | false=>exact Ae (t:=some (.rt,_)) (DW.rd (.k hb <| .k (eL k) <| .k hG <| .k h1 <| .r 5 (eN (show ieq 3 0=false from rfl)) <| .k eT <| .l) (by kernel_rfl))
  | true =>
   have hs:wr .i64 (Ax 262144 l)=Ax 262144 l:=OK (x:=262144-l) (by omega) (by omega);cases h2':ilt (262144-l) (CQ k w b) with
   | true=>exact Ae (t:=some (.rt,_)) (DW.rd (.k hb <| .k (eL k) <| .k hG <| .k h1 <| .r 5 (eN (eI 0)) <| .k (cg1 (λzz0=>ilt zz0 (CQ k w b)) hs h2') <| .l) (by kernel_rfl))
   | false =>
    have h3:¬ ((262144-l)<CQ k w b):=of_decide_eq_false h2';have hw:wr .i64 (Am l (CQ k w b))=l+CQ k w b:=OK (x:=l+CQ k w b) (by omega) (by omega);refine (Ae (DW.rd (.k hb <| .k (eL k) <| .k hG <| .k h1 <| .r 5 (eN (eI 0)) <| .k (cg1 (λzz0=>ilt zz0 (CQ k w b)) hs h2') <| .e (nm2 (f:=λl i=>S35 n k w l i) hw (C2 (by omega)))) (by kernel_rfl):Ap B35 AfE (S35 n k w l (ofNat b))=some (.nm,S35 n k w (l+CQ k w b) (ofNat (b+1))))).trans ?_
    show (Ay B35 AfE M (S35 n k w (l+CQ k w b) (ofNat (b+1)))).sem=_;rw [r35 hn hN hm hk d (b+1) (l+CQ k w b) M (by omega) (by omega) (by omega) (by omega)];show some (e35 (IY k w d (b+1) (262144-(l+CQ k w b))))=some (e35 (IY k w d (b+1) ((262144-l)-CQ k w b)));rw [show 262144-(l+CQ k w b)=262144-l-CQ k w b by omega]
theorem p35:Ar Tryz.prog Gl 35 NA:=by
 refine Ah A0 mixed Tryz.func35 (by kernel_rfl) (by kernel_rfl) λvs v h' h=>?_;obtain ⟨k,w,n,ha,hg,h⟩:=ON h;have:=Aa h;simp only [Prod.mk.injEq] at this;obtain ⟨rfl,rfl⟩:=this;have hx:=AZ Afd AlZ (G:=Gl);refine ⟨[Ao k w,iV n],AmG,_,ha,rfl,hx.1,hx.2,?_,As.refl _⟩;obtain ⟨hm,hk,N,hn,h2,hN⟩:=U6 hg;have hr:=r35 hn hN hm hk (N-1) 2 0 4611686018427387905 (by omega) (by omega) (by omega) (by omega);unfold Gv;rw [show toN n=N by rw [hn]; rfl];have e0:(262144:Int)-0=262144:=rfl;rw [e0] at hr;cases hb:IY k w (N-1) 2 262144 with
 | true =>rw [hb] at hr;exact DW.ok (.a hr .l) (by kernel_rfl)
 | false =>rw [hb] at hr;exact DW.ok (.a hr .l) (by kernel_rfl)
end Go.Proofs.YtkbgidbledjejaaGreat.En

