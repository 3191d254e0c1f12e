/-
  Layer 5, the document's side, plain: its closed lists are the trace of a power. No conditions.
-/
import Derived.Test.YtkbgidbledjejaaGreatEnWi
import Derived.Test.YtkbgidbledjejaaGreatSyOc
import Derived.Test.YtkbgidbledjejaaGreatEnWb
namespace Go.Proofs.YtkbgidbledjejaaGreat.En
open Go.Sy Go Go.Proofs.YtkbgidbledjejaaGreat.Ed
open Int (ofNat)
set_option maxRecDepth 100000
theorem N4.mul_assoc (m k l:N4):(m.mul k).mul l=m.mul (k.mul l):=by
 simp only [N4.mul,N4.mk.injEq];refine ⟨?_,?_,?_,?_⟩ <;> grind
theorem N4.mul_one (m:N4):m.mul N4.one=m:=by simp [N4.mul,N4.one]
theorem N4.pow_add (m:N4) (i:Nat):∀ j,m.pow (i+j)=(m.pow i).mul (m.pow j)
 | 0=>(N4.mul_one _).symm
 | j+1=>by
  show (m.pow (i+j)).mul m=(m.pow i).mul ((m.pow j).mul m);rw [N4.pow_add m i j,N4.mul_assoc]
def N4.at (m:N4) (i j:Nat):Nat :=
 match i,j with
 | 0,0=>m.a
 | 0,_=>m.b
 | _,0=>m.c
 | _,_=>m.d
def okN (m:N4):Bool:=okG (ofNat m.a) && (okG (ofNat m.b) && (okG (ofNat m.c) && okG (ofNat m.d)))
theorem ZO (u v x y:Nat):bor (Av (decide (0<u)) (ilt 0 (ofNat x))) (Av (decide (0<v)) (ilt 0 (ofNat y)))=decide (0<u * x+v * y):=by
 have hx:ilt 0 (ofNat x)=decide (0<x):=by unfold ilt; simp
 have hy:ilt 0 (ofNat y)=decide (0<y):=by unfold ilt; simp
 rw [hx,hy];unfold bor Av;rw [Bool.eq_iff_iff];simp only [Bool.or_eq_true,Bool.and_eq_true,decide_eq_true_eq];constructor
 ·rintro (⟨h1,h2⟩ | ⟨h1,h2⟩)
  ·have:=Nat.mul_pos h1 h2; omega
  ·have:=Nat.mul_pos h1 h2; omega
 ·intro h
  by_cases h1:0<u * x
  ·exact .inl ⟨Nat.pos_of_mul_pos_right h1,Nat.pos_of_mul_pos_left h1⟩
  ·have h2:0<v * y:=by omega
   exact .inr ⟨Nat.pos_of_mul_pos_right h2,Nat.pos_of_mul_pos_left h2⟩
theorem Sl (m:N4) (e:Nat):m.pow (e+1)=m.mul (m.pow e):=by
 rw [Nat.add_comm,N4.pow_add,N4.pow_one]
theorem Nf (m:N4):∀ (e u v:Nat),Sg (ofNat m.a) (ofNat m.b) (ofNat m.c) (ofNat m.d) e (decide (0<u),decide (0<v)) =
  (decide (0<u * (m.pow e).a+v * (m.pow e).c),decide (0<u * (m.pow e).b+v * (m.pow e).d))
 | 0,u,v=>by
  show (decide (0<u),decide (0<v))=(decide (0<u * 1+v * 0),decide (0<u * 0+v * 1));simp
 | e+1,u,v=>by
  show Sg _ _ _ _ e (bor (Av (decide (0<u)) (ilt 0 (ofNat m.a))) (Av (decide (0<v)) (ilt 0 (ofNat m.c))),bor (Av (decide (0<u)) (ilt 0 (ofNat m.b))) (Av (decide (0<v)) (ilt 0 (ofNat m.d))))=_;rw [ZO,ZO,Nf m e,Sl];simp only [N4.mul];have e1:(u * m.a+v * m.c) * (m.pow e).a+(u * m.b+v * m.d) * (m.pow e).c=u * (m.a * (m.pow e).a+m.b * (m.pow e).c)+v * (m.c * (m.pow e).a+m.d * (m.pow e).c):=by grind
  have e2:(u * m.a+v * m.c) * (m.pow e).b+(u * m.b+v * m.d) * (m.pow e).d=u * (m.a * (m.pow e).b+m.b * (m.pow e).d)+v * (m.c * (m.pow e).b+m.d * (m.pow e).d):=by grind
  exact Prod.ext (decide_eq_decide.2 (by rw [e1])) (decide_eq_decide.2 (by rw [e2]))
theorem SN (m:N4) (s t e:Nat) (hs:s <= 1) (ht:t <= 1):Cz (ofNat m.a) (ofNat m.b) (ofNat m.c) (ofNat m.d) s t e=decide (0<(m.pow e).at s t):=by
 have hs:s=0 ∨ s=1:=by omega
 have ht:t=0 ∨ t=1:=by omega
 unfold Cz;rcases hs with rfl | rfl
 ·have h:=Nf m e 1 0
  rw [show (Nat.beq 0 0,Nat.beq 0 1)=(decide (0<1),decide (0<0)) from rfl,h];rcases ht with rfl | rfl <;> simp [N4.at]
 ·have h:=Nf m e 0 1
  rw [show (Nat.beq 1 0,Nat.beq 1 1)=(decide (0<0),decide (0<1)) from rfl,h];rcases ht with rfl | rfl <;> simp [N4.at]
theorem Lt (p q:Int) (hp:0 <= p) (hq:0 <= q):(okT p && (okT (Ai 0 (B5 p)) && (okT q && okT (Ai (B5 (Ai 0 (B5 p))) (B5 q)))))=okT (p+q)∧(okT (p+q)=true->B5 (Ai (B5 (Ai 0 (B5 p))) (B5 q))=p+q):=by
 unfold okT Ai B5;by_cases h1:p <= 9223372036854775807
 ·by_cases h2:q <= 9223372036854775807
  ·rw [if_pos h1,if_pos h2,decide_eq_true h1,decide_eq_true h2,if_pos (show 0+p <= 9223372036854775807 by omega),decide_eq_true (show 0+p <= 9223372036854775807 by omega),Int.zero_add]
   refine ⟨rfl,λh=>if_pos (of_decide_eq_true h)⟩
  ·rw [decide_eq_false h2,decide_eq_false (show ¬ p+q <= 9223372036854775807 by omega)]
   simp
 ·rw [decide_eq_false h1,decide_eq_false (show ¬ p+q <= 9223372036854775807 by omega)]
  simp
def nxt (u v x y:Int):Int:=B5 (Ai (B5 (Ai 0 (B5 (Bs x u)))) (B5 (Bs y v)))
theorem Ajp {a b c d x y:Int} (C D F:Bool) (ga:okG a=true) (gb:okG b=true) (gc:okG c=true) (gd:okG d=true) (gx:okG x=true) (gy:okG y=true) :
  stp a b c d C D (x,y,F)=(sel C (nxt a c x y) 0,sel D (nxt b d x y) 0,F && (sel C (okT (Bs x a+Bs y c)) true && sel D (okT (Bs x b+Bs y d)) true)):=by
 rw [<- (Lt (Bs x a) (Bs y c) (FC gx ga) (FC gy gc)).1,<- (Lt (Bs x b) (Bs y d) (FC gx gb) (FC gy gd)).1];refine Prod.ext ?_ (Prod.ext ?_ ?_)
 ·cases C <;> cases D <;> rfl
 ·cases C <;> cases D <;> rfl
 ·cases C <;> cases D <;> simp only [stp,st1,GO,JR,nxt,Bool.and_true,Bool.true_and] <;> ac_rfl
def Rq (m:N4) (s n k:Nat) (p:Int×Int×Bool):Prop :=
 okG p.1=true∧okG p.2.1=true∧(p.2.2=true->(0<(m.pow (n-k)).at 0 s->p.1=ofNat ((m.pow k).at s 0))∧(0<(m.pow (n-k)).at 1 s->p.2.1=ofNat ((m.pow k).at s 1)))∧(p.2.2=false->(9223372036854775807:Int)<ofNat ((m.pow n).at s s))
theorem UA (m k:N4) (i j:Nat) (hi:i <= 1) (hj:j <= 1):(m.mul k).at i j=m.at i 0 * k.at 0 j+m.at i 1 * k.at 1 j:=by
 have hi:i=0 ∨ i=1:=by omega
 have hj:j=0 ∨ j=1:=by omega
 rcases hi with rfl | rfl <;> rcases hj with rfl | rfl <;> rfl
theorem W0 (m:N4) (s n k:Nat) (hs:s <= 1) (hk:k+1 <= n) (t:Nat) (ht:t <= 1) (x y:Int) (hx:0<(m.pow (n-k)).at 0 s->x=ofNat ((m.pow k).at s 0)) (hy:0<(m.pow (n-k)).at 1 s->y=ofNat ((m.pow k).at s 1))
  (hc:0<(m.pow (n-(k+1))).at t s):x * ofNat (m.at 0 t)+y * ofNat (m.at 1 t)=ofNat ((m.pow (k+1)).at s t)∧ofNat ((m.pow (k+1)).at s t) <= ofNat ((m.pow n).at s s):=by
 have e1:m.pow (n-k)=m.mul (m.pow (n-(k+1))):=by rw [<- Sl]; congr 1; omega
 have e2:(m.pow (k+1)).at s t=(m.pow k).at s 0 * m.at 0 t+(m.pow k).at s 1 * m.at 1 t:=UA (m.pow k) m s t hs ht;have e3:m.pow n=(m.pow (k+1)).mul (m.pow (n-(k+1))):=by rw [<- N4.pow_add]; congr 1; omega
 have fx:x * ofNat (m.at 0 t)=ofNat ((m.pow k).at s 0 * m.at 0 t):=by
  rcases Nat.eq_zero_or_pos (m.at 0 t) with hz | hz
  ·rw [hz]; simp
  ·have:0<(m.pow (n-k)).at 0 s:=by
    rw [e1,UA _ _ 0 s (by omega) hs];have hp:=Nat.mul_pos hz hc;have ht:t=0 ∨ t=1:=by omega
    rcases ht with rfl | rfl <;> omega
   rw [hx this];simp
 have fy:y * ofNat (m.at 1 t)=ofNat ((m.pow k).at s 1 * m.at 1 t):=by
  rcases Nat.eq_zero_or_pos (m.at 1 t) with hz | hz
  ·rw [hz]; simp
  ·have:0<(m.pow (n-k)).at 1 s:=by
    rw [e1,UA _ _ 1 s (by omega) hs];have hp:=Nat.mul_pos hz hc;have ht:t=0 ∨ t=1:=by omega
    rcases ht with rfl | rfl <;> omega
   rw [hy this];simp
 refine ⟨by rw [fx,fy,e2]; simp,?_⟩;rw [e3,UA _ _ s s hs hs];have hp:=Nat.mul_le_mul_left ((m.pow (k+1)).at s t) hc;have ht:t=0 ∨ t=1:=by omega
 refine Int.ofNat_le.2 ?_;rcases ht with rfl | rfl <;> omega
theorem Vg (m:N4) (hm:okN m=true) (s n k:Nat) (hs:s <= 1) (hk:k+1 <= n) (p:Int×Int×Bool) (h:Rq m s n k p) :
  Rq m s n (k+1) (LF (ofNat m.a) (ofNat m.b) (ofNat m.c) (ofNat m.d) s n (k+1) p):=by
 simp only [okN,Bool.and_eq_true] at hm;obtain ⟨ga,gb,gc,gd⟩:=hm;obtain ⟨h1,h2,h3,h4⟩:=h;have hk1:=WY (C:=Cz (ofNat m.a) (ofNat m.b) (ofNat m.c) (ofNat m.d) 0 s (n-(k+1))) (D:=Cz (ofNat m.a) (ofNat m.b) (ofNat m.c) (ofNat m.d) 1 s (n-(k+1))) ga gb gc gd h1 h2;refine ⟨hk1.1,hk1.2,?_⟩;obtain ⟨x,y,F⟩:=p;unfold LF;rw [Ajp _ _ _ ga gb gc gd h1 h2,SN m 0 s _ (by omega) hs,SN m 1 s _ (by omega) hs];simp only at h1 h2 h3 h4 ⊢;have q0:=Lt (Bs x (ofNat m.a)) (Bs y (ofNat m.c)) (FC h1 ga) (FC h2 gc);have q1:=Lt (Bs x (ofNat m.b)) (Bs y (ofNat m.d)) (FC h1 gb) (FC h2 gd);cases F with
 | false =>refine ⟨λhf=>by simp at hf,λ_=>h4 rfl⟩
 | true =>
  obtain ⟨hx,hy⟩:=h3 rfl;have s0:=W0 m s n k hs hk 0 (by omega) x y hx hy;have s1:=W0 m s n k hs hk 1 (by omega) x y hx hy;have d0:m.at 0 0=m.a:=rfl;have d1:m.at 1 0=m.c:=rfl;have d2:m.at 0 1=m.b:=rfl;have d3:m.at 1 1=m.d:=rfl;rw [d0,d1] at s0;rw [d2,d3] at s1;have i0:Bs x (ofNat m.a)+Bs y (ofNat m.c)=x * ofNat m.a+y * ofNat m.c:=rfl;have i1:Bs x (ofNat m.b)+Bs y (ofNat m.d)=x * ofNat m.b+y * ofNat m.d:=rfl;rw [i0] at q0 ⊢;rw [i1] at q1 ⊢;constructor
  ·intro hf
   simp only [Bool.true_and,Bool.and_eq_true] at hf;obtain ⟨f0,f1⟩:=hf;constructor
   ·intro hc
    rw [decide_eq_true hc] at f0 ⊢;rw [GO] at f0 ⊢;rw [<- (s0 hc).1];exact q0.2 f0
   ·intro hc
    rw [decide_eq_true hc] at f1 ⊢;rw [GO] at f1 ⊢;rw [<- (s1 hc).1];exact q1.2 f1
  ·intro hf
   simp only [Bool.true_and] at hf;by_cases hc0:0<(m.pow (n-(k+1))).at 0 s
   ·rw [decide_eq_true hc0,GO] at hf
    cases ht:okT (x * ofNat m.a+y * ofNat m.c) with
    | false =>have:=of_decide_eq_false ht;have:=s0 hc0;omega
    | true =>
     rw [ht,Bool.true_and] at hf;by_cases hc1:0<(m.pow (n-(k+1))).at 1 s
     ·rw [decide_eq_true hc1,GO] at hf
      have:=of_decide_eq_false hf;have:=s1 hc1;omega
     ·rw [decide_eq_false hc1,JR] at hf
      cases hf
   ·rw [decide_eq_false hc0,JR,Bool.true_and] at hf
    by_cases hc1:0<(m.pow (n-(k+1))).at 1 s
    ·rw [decide_eq_true hc1,GO] at hf
     have:=of_decide_eq_false hf;have:=s1 hc1;omega
    ·rw [decide_eq_false hc1,JR] at hf
     cases hf
theorem KG (m:N4) (hm:okN m=true) (s n:Nat) (hs:s <= 1):∀ (e k:Nat) (p:Int×Int×Bool),n=k+e->Rq m s n k p ->
  Rq m s n n (Do (ofNat m.a) (ofNat m.b) (ofNat m.c) (ofNat m.d) s n e (k+1) p)
 | 0,k,p,h,hp=>by
  have:n=k:=by omega
  subst this;exact hp
 | e+1,k,p,h,hp=>KG m hm s n hs e (k+1) _ (by omega) (Vg m hm s n k hs (by omega) p hp)
theorem LG (a b c d:Int) (s n:Nat):∀ (e k:Nat) (p:Int×Int×Bool),p.2.2=false->(Do a b c d s n e k p).2.2=false
 | 0,_,_,h=>h
 | e+1,k,p,h=>LG a b c d s n e (k+1) _ (by
  obtain ⟨x,y,F⟩:=p;obtain rfl:F=false:=h;unfold LF;generalize Cz a b c d 0 s (n-k)=C;generalize Cz a b c d 1 s (n-k)=D;cases C <;> cases D <;> rfl)
theorem AbT {x:Int} (h:okG x=true):B5 (Ai 0 x)=x∧okT (Ai 0 x)=true:=by
 have h:=EJ.1 h;unfold B5 okT Ai;rw [Int.zero_add,if_pos h.2,decide_eq_true h.2];exact ⟨rfl,rfl⟩
theorem AbH (m:N4) (hm:okN m=true) (n:Nat) :
  (Pb (ofNat m.a) (ofNat m.b) (ofNat m.c) (ofNat m.d) n).2=okT (trI m n)∧(okT (trI m n)=true->(Pb (ofNat m.a) (ofNat m.b) (ofNat m.c) (ofNat m.d) n).1=trI m n):=by
 have hA:=KG m hm 0 n (by omega) n 0 (1,0,true) (by omega) ⟨rfl,rfl,λ_=>⟨λ_=>rfl,λ_=>rfl⟩,λh=>by cases h⟩;have e0:(m.pow (n-n)).at 0 0=1:=by rw [Nat.sub_self]; rfl
 have e1:(m.pow (n-n)).at 1 1=1:=by rw [Nat.sub_self]; rfl
 have et:trI m n=ofNat ((m.pow n).at 0 0)+ofNat ((m.pow n).at 1 1):=rfl;have z0:(0:Int) <= ofNat ((m.pow n).at 0 0):=by simp
 have z1:(0:Int) <= ofNat ((m.pow n).at 1 1):=by simp
 have hB:∀ F,(F=true ∨ F=false)->(F=true->Rq m 1 n n (Do (ofNat m.a) (ofNat m.b) (ofNat m.c) (ofNat m.d) 1 n n 1 (0,1,F))):=by
  intro F _ hF;subst hF;exact KG m hm 1 n (by omega) n 0 (0,1,true) (by omega) ⟨rfl,rfl,λ_=>⟨λ_=>rfl,λ_=>rfl⟩,λh=>by cases h⟩
 unfold Pb;obtain ⟨a1,a2,a3,a4⟩:=hA;rw [Nat.zero_add] at a1 a2 a3 a4;have wA:Hn (ofNat m.a) (ofNat m.b) (ofNat m.c) (ofNat m.d) n=((Do (ofNat m.a) (ofNat m.b) (ofNat m.c) (ofNat m.d) 0 n n 1 (1,0,true)).1,(Do (ofNat m.a) (ofNat m.b) (ofNat m.c) (ofNat m.d) 0 n n 1 (1,0,true)).2.2):=by
  unfold Hn;rw [(AbT a1).1,(AbT a1).2,Bool.and_true]
 rw [wA];generalize Do (ofNat m.a) (ofNat m.b) (ofNat m.c) (ofNat m.d) 0 n n 1 (1,0,true)=P at *;obtain ⟨x,y,F⟩:=P;simp only at a1 a2 a3 a4 ⊢;cases F with
 | false =>have:=a4 rfl;have hf:=LG (ofNat m.a) (ofNat m.b) (ofNat m.c) (ofNat m.d) 1 n n 1 (0,1,false) rfl;have ht:okT (trI m n)=false:=decide_eq_false (by omega);rw [hf,ht];exact ⟨rfl,λh=>by cases h⟩
 | true =>
  have hx:=(a3 rfl).1 (by rw [e0]; omega);obtain ⟨b1,b2,b3,b4⟩:=hB true (.inl rfl) rfl;generalize Do (ofNat m.a) (ofNat m.b) (ofNat m.c) (ofNat m.d) 1 n n 1 (0,1,true)=Q at *;obtain ⟨u,v,G⟩:=Q;simp only at b1 b2 b3 b4 ⊢;cases G with
  | false =>have:=b4 rfl;have ht:okT (trI m n)=false:=decide_eq_false (by omega);rw [ht];exact ⟨rfl,λh=>by cases h⟩
  | true =>
   have hy:=(b3 rfl).2 (by rw [e1]; omega);have es:Ai x v=trI m n:=by rw [et,hx,hy]; rfl
   rw [es];refine ⟨rfl,λh=>?_⟩;unfold B5;rw [if_pos (of_decide_eq_true h)]
end Go.Proofs.YtkbgidbledjejaaGreat.En
namespace Go.Proofs.YtkbgidbledjejaaGreat.En
open Go.Sy Go Go.Proofs.YtkbgidbledjejaaGreat.Ed
open Int (ofNat)
set_option maxRecDepth 100000
noncomputable def AlV:AG:=[(45,Cm λe=>iV (AE e))]
theorem AfG:Al Tryz.prog Gl AlV:=.cons p29 .nil
def lp56:Lp:=⟨bmK 19 0 [0,2,3],0,bmK 19 0 [2],0,1000⟩
noncomputable abbrev Aoa:Cx:=cxA Gl AlV [(0,lp56,[])]
noncomputable def B56:St->T (Ex×St):=λst=>A6 tab Aoa (Aw Tryz.f56 0) 0 st
def S56 (n:Nat) (v:Nat->E6) (i:Int):St:=⟨jsV 19 0 Ac [(0,Ap n v),(2,iV 0),(3,iV i)],[]⟩
theorem r56 {n:Nat} {v:Nat->E6} (hn:n <= 128) (hm:BF n v=true):(Ax B56 lp56 1000 (S56 n v 0)).sem=some (.ex 0,⟨jsV 19 0 Ac [(2,iV 0)],[]⟩):=by
 refine Cf (S:=λi=>S56 n v (ofNat i)) (m:=n) (λh=>by cases h) (λi hi=>?_) ?_ (by omega)
 ·have c0:ieq (AE (v i)) 0=true:=decide_eq_true (BO.1 hm i hi)
  exact DW.rd (.k (ofNat_lt hi) <| .k (Af hi) <| .k (eN c0) <| .e (nm1 (f:=S56 n v) (Cs (by omega)))) (by kernel_rfl)
 ·exact DW.rd (.k (A1 (Nat.le_refl n)) <| .l) (by kernel_rfl)
def AlL:List V->A3
 | [u]=>apL u λk w=>.br (Av (BF k w) (decide (k <= 128))) (.leaf (iV 0,[])) .fail
 | _=>.fail
theorem Vy {F:Nat->(Nat->E6)->V×List Blk} {vs:List V} {r:V×List Blk} (h:((match vs with | [u]=>apL u λk w=>.br (Av (BF k w) (decide (k <= 128))) (.leaf (F k w)) .fail | _=>.fail):A3).sem=some r):∃ k w,By vs [Ap k w]∧BF k w=true∧k <= 128∧r=F k w:=by
 split at h
 ·obtain ⟨k,w,ha,h⟩:=Bd h
  obtain ⟨hg,h⟩:=Ab h;obtain ⟨h1,h2⟩:=Bl hg;exact ⟨k,w,Abp ha,h1,of_decide_eq_true h2,Aa h⟩
 ·cases h
theorem Adl {k:Nat} {w:Nat->E6} (hm:BF k w=true) (hk:k <= 128):Av (BF k w) (decide (k <= 128))=true:=by rw [hm,decide_eq_true hk]; rfl
theorem p56:As Tryz.prog Gl 56 AlL:=by
 refine Ah A2 mixed Tryz.func56 (by kernel_rfl) (by kernel_rfl) λvs v h' h=>?_;obtain ⟨k,w,ha,hm,hk,h⟩:=Vy (F:=λ_ _=>(iV 0,[])) h;cases h;have hx:=Be AfG [(0,lp56,[])] (G:=Gl);have h1:ilt 128 (ofNat k)=false:=decide_eq_false (by show ¬ (128:Int)<(k:Int); omega);exact ⟨[Ap k w],Aoa,_,ha,rfl,hx.1,hx.2,DW.ok (.k h1 <| .a (r56 hk hm) <| .l) (by kernel_rfl),Au.refl _⟩
def Aij:Lp:=⟨bmK 41 0 [0,2,3,4],2,bmK 41 0 [3],2,1000⟩
def OD:Lp:=⟨bmK 41 0 [0,2,3,4,5,6],2,bmK 41 0 [0,2,3,4,5],2,1000⟩
def Aib:List (Nat×Lp×List (Nat×(Nat->V))):=[(0,Aij,[(1,λ_=>eV Ca)]),(2,OD,[])]
noncomputable abbrev Ai4:Cx:=cxA Gl [] Aib
noncomputable def B108 (id:Nat):St->T (Ex×St):=λst=>A6 tab Ai4 (Aw Tryz.f108 id) id st
def Rp (l:List (Nat×V)) (n:Nat) (v:Nat->E6) (m:Nat) (g:Nat->V) (i:Int):St:=⟨jsV 41 0 Ac ([(0,Ap n v),(2,.ref 0),(3,.ref 1),(4,iV i)]++l),[.row 46 6 0 Ac,.row 46 6 m g]⟩
theorem Xw {n q m:Nat} {v g:Nat->E6} (hq:q<n) (hn:n <= 128) (hm:m <= 128):∀ (d b:Nat) (t:Bool) (M:Nat),m=b+d->d<M->(Ax (B108 2) OD M (Rp [(5,bV t),(6,nV b)] n v m (λk=>eV (g k)) (ofNat q))).sem=some (.ex 2,Rp [(5,bV (bor t (NF g (v q) d b)))] n v m (λk=>eV (g k)) (ofNat q))
 | 0,b,t,M,h,hM=>by
  obtain ⟨M,rfl⟩:∃ o,M=o+1:=⟨M-1,by omega⟩;have hb:bor t (NF g (v q) 0 b)=t:=by cases t <;> rfl
  rw [hb];exact Ae (t:=some (.ex 2,_)) (DW.rd (.k (A1 (i:=b) (n:=m) (by omega)) <| .l) (by kernel_rfl))
 | d+1,b,t,M,h,hM=>by
  obtain ⟨M,rfl⟩:∃ o,M=o+1:=⟨M-1,by omega⟩;have hb:b<m:=by omega
  cases t with
  | true =>
   have hr:Am (B108 2) OD (Rp [(5,bV true),(6,nV b)] n v m (λk=>eV (g k)) (ofNat q))=some (.nm,Rp [(5,bV true),(6,iV (ofNat (b+1)))] n v m (λk=>eV (g k)) (ofNat q)):=DW.rd (.k (ofNat_lt hb) <| .r 10 eT <| .e (nm1 (f:=λz=>Rp [(5,bV true),(6,iV z)] n v m (λk=>eV (g k)) (ofNat q)) (Cs (by omega)))) (by kernel_rfl)
   rw [Ae hr,AK];exact Xw hq hn hm d (b+1) true M (by omega) (by omega)
  | false =>
   have hr:Am (B108 2) OD (Rp [(5,bV false),(6,nV b)] n v m (λk=>eV (g k)) (ofNat q))=some (.nm,Rp [(5,bV (eqE (g b) (v q))),(6,iV (ofNat (b+1)))] n v m (λk=>eV (g k)) (ofNat q)):=DW.rd (.k (ofNat_lt hb) <| .r 3 eF <| .k (Af hb) <| .k eF <| .k (decide_eq_true hb) <| .r 3 eF <| .k (Af hq) <| .r 3 eF <| .e (nm1 (f:=λz=>Rp [(5,bV (eqE (g b) (v q))),(6,iV z)] n v m (λk=>eV (g k)) (ofNat q)) (Cs (by omega)))) (by kernel_rfl)
   rw [Ae hr,AK];exact Xw hq hn hm d (b+1) (eqE (g b) (v q)) M (by omega) (by omega)
theorem AcO (l:List E6) (x:E6):AC l.length (λj=>eV (getE l j)) (eV x)=λj=>eV (getE (x::l) j):=by
 funext j;rw [BN];show (bif Nat.beq j l.length then eV x else eV (getE l j))=eV (bif Nat.beq j l.length then x else getE l j);cases Nat.beq j l.length <;> rfl
def Abx (n:Nat) (v:Nat->E6) (i:Nat):St:=Rp [] n v (AI v i).length (λk=>eV (getE (AI v i) k)) (ofNat i)
theorem Apb {n:Nat} {v:Nat->E6} (hn:n <= 128):(Ax (B108 0) Aij 1000 (Abx n v 0)).sem=some (.ex 0,⟨jsV 41 0 Ac [(3,.ref 1)],[.row 46 6 0 Ac,.row 46 6 (AI v n).length λk=>eV (getE (AI v n) k)]⟩):=by
 refine Cf (S:=Abx n v) (m:=n) (λh=>by cases h) (λi hi=>?_) ?_ (by omega)
 ·have hl:=GB v i
  have h2:=Xw (g:=getE (AI v i)) (v:=v) hi hn (m:=(AI v i).length) (by omega) (AI v i).length 0 false 1000 (by omega) (by omega);have ha:Ck (AI v i).length 1 40=true:=decide_eq_true (by show ((AI v i).length+1) * 40 <= (140737488355328:Nat); omega);cases hb:NF (getE (AI v i)) (v i) (AI v i).length 0 with
  | true =>
   rw [hb] at h2;have e:(Ex.nm,Rp [] n v (AI v i).length (λk=>eV (getE (AI v i) k)) (wr .i64 (Ai (ofNat i) 1)))=(Ex.nm,Abx n v (i+1)):=by
    unfold Abx;rw [KL hb,Cs (by omega)]
   exact DW.rd (.k (ofNat_lt hi) <| .a h2 <| .k (eN eT) <| .e e) (by kernel_rfl)
  | false =>
   rw [hb] at h2;have e:(Ex.nm,Rp [] n v ((AI v i).length+1) (AC (AI v i).length (λk=>eV (getE (AI v i) k)) (eV (v i))) (wr .i64 (Ai (ofNat i) 1)))=(Ex.nm,Abx n v (i+1)):=by
    unfold Abx;rw [Jw hb,Cs (by omega),AcO];rfl
   exact DW.rd (.k (ofNat_lt hi) <| .a h2 <| .k (eN eF) <| .k (Af hi) <| .k ha <| .e e) (by kernel_rfl)
 ·exact DW.rd (.k (A1 (Nat.le_refl n)) <| .l) (by kernel_rfl)
def AhR:List V->A3
 | [u]=>apL u λk w=>.br (Av (BF k w) (decide (k <= 128))) (.leaf (.ref 0,[.row 46 6 (AI w k).length λi=>eV (getE (AI w k) i)])) .fail
 | _=>.fail
theorem p108:As Tryz.prog Gl 108 AhR:=by
 refine Ah A2 mixed Tryz.func108 (by kernel_rfl) (by kernel_rfl) λvs v h' h=>?_;obtain ⟨k,w,ha,hm,hk,h⟩:=Vy (F:=λk w=>(.ref 0,[.row 46 6 (AI w k).length λi=>eV (getE (AI w k) i)])) h;cases h;have hx:=Be (Al.nil:Al Tryz.prog Gl []) Aib (G:=Gl);exact ⟨[Ap k w],Ai4,_,ha,rfl,hx.1,hx.2,DW.ok (.a (Apb (v:=w) hk) <| .l) (by kernel_rfl),Au.refl _⟩
def EQ (g:Nat->E6):Nat->Nat->Nat
 | 0,_=>0
 | i+1,q=>if cls (g i)=q then EQ g i q+1 else EQ g i q
theorem ZG (g:Nat->E6) (q:Nat):∀ i,EQ g i q <= i
 | 0=>Nat.le_refl _
 | i+1=>by
  have:=ZG g q i;unfold EQ;split <;> omega
theorem QN {g g':Nat->E6} (q:Nat):∀ i,(∀ j,j<i->g j=g' j)->EQ g i q=EQ g' i q
 | 0,_=>rfl
 | i+1,h=>by
  unfold EQ;rw [h i (by omega),QN q i λj hj=>h j (by omega)]
theorem JA (q:Nat):∀ l:List E6,EQ (getE l) l.length q=CV l q
 | []=>rfl
 | x::l=>by
  have e1:getE (x::l) l.length=x:=by
   show (bif Nat.beq l.length l.length then x else getE l l.length)=x;rw [Nat.beq_refl];rfl
  have e2:EQ (getE (x::l)) l.length q=EQ (getE l) l.length q:=QN q _ λj hj=>by
   show (bif Nat.beq j l.length then x else getE l j)=getE l j;rw [show Nat.beq j l.length=false from Bool.eq_false_iff.2 λh=>by have:=Nat.eq_of_beq_eq_true h; omega];rfl
  show (if cls (getE (x::l) l.length)=q then EQ (getE (x::l)) l.length q+1 else EQ (getE (x::l)) l.length q)=_
  rw [e1,e2,JA q l];rfl
noncomputable def AlR:AG:=[(56,AlL),(108,AhR)]
theorem Af8:Al Tryz.prog Gl AlR:=.cons p56 <| .cons p108 .nil
def Aky:Lp:=⟨bmK 41 0 [2,3,4,6,7],3,bmK 41 0 [2,3,4],2,1000⟩
noncomputable abbrev AnY:Cx:=cxA Gl AlR [(0,Aky,[])]
noncomputable def B80:St->T (Ex×St):=λst=>A6 tab AnY (Aw Tryz.f80 0) 0 st
def S80 (m:Nat) (g:Nat->E6) (c0 c1 c2 c3 i:Int):St:=⟨jsV 41 0 Ac [(2,.ptr 0 0),(3,iV 0),(4,.ptr 1 0),(6,.ref 2),(7,iV i)],[.cells [iV 0,iV 0,iV 0,iV 0],.cells [iV c0,iV c1,iV c2,iV c3],.row 46 6 m λk=>eV (g k)]⟩
def T80 (m:Nat) (g:Nat->E6) (i:Nat):St:=S80 m g (ofNat (EQ g i 0)) (ofNat (EQ g i 1)) (ofNat (EQ g i 2)) (ofNat (EQ g i 3)) (ofNat i)
theorem r80 {m:Nat} {g:Nat->E6} (hm:m <= 128) (ho:∀ i,i<m->AE (g i)=0):(Ax B80 Aky 1000 (T80 m g 0)).sem=some (.ex 0,⟨jsV 41 0 Ac [(2,.ptr 0 0),(3,iV 0),(4,.ptr 1 0)],[.cells [iV 0,iV 0,iV 0,iV 0],.cells [iV (ofNat (EQ g m 0)),iV (ofNat (EQ g m 1)),iV (ofNat (EQ g m 2)),iV (ofNat (EQ g m 3))]]⟩):=by
 refine Cf (S:=T80 m g) (m:=m) (λh=>by cases h) (λi hi=>?_) ?_ (by omega)
 ·have hw:=λq=>Cs (i:=EQ g i q) (by have:=ZG g q i; omega)
  have e:∀ {c0 c1 c2 c3:Int},c0=ofNat (EQ g (i+1) 0)->c1=ofNat (EQ g (i+1) 1)->c2=ofNat (EQ g (i+1) 2)->c3=ofNat (EQ g (i+1) 3)->(Ex.nm,S80 m g c0 c1 c2 c3 (wr .i64 (Ai (ofNat i) 1)))=(Ex.nm,T80 m g (i+1)):=by
   intro c0 c1 c2 c3 h0 h1 h2 h3;unfold T80;rw [Cs (by omega),h0,h1,h2,h3]
  have no:∀ {q},cls (g i) ≠ q->ofNat (EQ g i q)=ofNat (EQ g (i+1) q):=λh=>by rw [EQ,if_neg h]
  have yes:∀ {q},cls (g i)=q->wr .i64 (Ai (ofNat (EQ g i q)) 1)=ofNat (EQ g (i+1) q):=λh=>by rw [EQ,if_pos h,hw]
  have b1:=Af hi;have b2:nlt i m=true:=decide_eq_true hi;rcases AnE (ho i hi) with ⟨h1,h2,h3⟩ | ⟨h1,h2,h3⟩ | ⟨h1,h2,h3⟩ | ⟨h1,h2,h3⟩
  ·have a:ieq (wr .i64 (Az (g i).src 1)) 0=true:=by rw [h1]; rfl
   have b:ieq (wr .i64 (Az (g i).dst 1)) 0=true:=by rw [h2]; rfl
   exact DW.rd (.k (ofNat_lt hi) <| .k b1 <| .k b2 <| .k b1 <| .k b2 <| .k a <| .k b <| .k a <| .k b <| .e (e (yes h3) (no (by omega)) (no (by omega)) (no (by omega)))) (by kernel_rfl)
  ·have a:ieq (wr .i64 (Az (g i).src 1)) 0=true:=by rw [h1]; rfl
   have b:ieq (wr .i64 (Az (g i).dst 1)) 0=false:=by rw [h2]; rfl
   have c:ieq (wr .i64 (Az (g i).dst 1)) 1=true:=by rw [h2]; rfl
   exact DW.rd (.k (ofNat_lt hi) <| .k b1 <| .k b2 <| .k b1 <| .k b2 <| .k a <| .k b <| .k c <| .k a <| .k b <| .k c <| .e (e (no (by omega)) (yes h3) (no (by omega)) (no (by omega)))) (by kernel_rfl)
  ·have a:ieq (wr .i64 (Az (g i).src 1)) 0=false:=by rw [h1]; rfl
   have b:ieq (wr .i64 (Az (g i).src 1)) 1=true:=by rw [h1]; rfl
   have c:ieq (wr .i64 (Az (g i).dst 1)) 0=true:=by rw [h2]; rfl
   exact DW.rd (.k (ofNat_lt hi) <| .k b1 <| .k b2 <| .k b1 <| .k b2 <| .k a <| .k b <| .k c <| .k a <| .k b <| .k c <| .e (e (no (by omega)) (no (by omega)) (yes h3) (no (by omega)))) (by kernel_rfl)
  ·have a:ieq (wr .i64 (Az (g i).src 1)) 0=false:=by rw [h1]; rfl
   have b:ieq (wr .i64 (Az (g i).src 1)) 1=true:=by rw [h1]; rfl
   have c:ieq (wr .i64 (Az (g i).dst 1)) 0=false:=by rw [h2]; rfl
   have d:ieq (wr .i64 (Az (g i).dst 1)) 1=true:=by rw [h2]; rfl
   exact DW.rd (.k (ofNat_lt hi) <| .k b1 <| .k b2 <| .k b1 <| .k b2 <| .k a <| .k b <| .k c <| .k d <| .k a <| .k b <| .k c <| .k d <| .e (e (no (by omega)) (no (by omega)) (no (by omega)) (yes h3))) (by kernel_rfl)
 ·exact DW.rd (.k (A1 (Nat.le_refl m)) <| .l) (by kernel_rfl)
theorem p80:As Tryz.prog Gl 80 Aa8:=by
 refine Ah A2 mixed Tryz.func80 (by kernel_rfl) (by kernel_rfl) λvs v h' h=>?_;obtain ⟨k,w,ha,hm,hk,h⟩:=Sw h;cases h;have hx:=Be Af8 [(0,Aky,[])] (G:=Gl);have hl:=GB w k;have hr:=r80 (m:=(AI w k).length) (g:=getE (AI w k)) (by omega) λi hi=>by
  obtain ⟨t,ht,he⟩:=Kb w k _ ((Qx _ _).1 ⟨i,hi,rfl⟩);rw [he];exact BO.1 hm t ht
 rw [JA,JA,JA,JA] at hr;have hg:=Adl hm hk;exact ⟨[Ap k w],AnY,_,ha,rfl,hx.1,hx.2,DW.ok (.k (eL k) <| .k hg <| .k (eN (eI 0)) <| .k (eL k) <| .k hg <| .a hr <| .l) (by kernel_rfl),Au.refl _⟩
noncomputable def tb68:AG:=[(80,Aa8),(98,AbI)]
theorem tb68_ok:Al Tryz.prog Gl tb68:=.cons p80 <| .cons p98 .nil
theorem p68:As Tryz.prog Gl 68 RJ:=by
 refine Ah A2 mixed Tryz.func68 (by kernel_rfl) (by kernel_rfl) λvs v h' h=>?_;obtain ⟨k,w,j,hA,hg,h⟩:=Pd h;obtain ⟨hm,hk,N,rfl,h1,h16⟩:=Pe hg;have hx:=Be tb68_ok [] (G:=Gl);have g0:=Adl hm hk;have g1:ilt (ofNat N) 1=false:=decide_eq_false (by show ¬ (N:Int)<(1:Int); omega);have g2:ilt 16 (ofNat N)=false:=decide_eq_false (by show ¬ (16:Int)<(N:Int); omega);have g3:ile 1 (ofNat N)=true:=decide_eq_true (by show (1:Int) <= (N:Int); omega);have g4:ile (ofNat N) 16=true:=decide_eq_true (by show (N:Int) <= (16:Int); omega);have hG:∀ q,okG (ofNat (CV (AI w k) q))=true:=λq=>by
  have:=OQ (AI w k) q;have:=GB w k;exact EJ.2 ⟨Int.natCast_nonneg _,by show ((CV (AI w k) q:Nat):Int) <= _; omega⟩
 have hN:okN (Nm k w)=true:=by
  unfold okN Nm;rw [hG 0,hG 1,hG 2,hG 3];rfl
 obtain ⟨e2,e1⟩:=AbH (Nm k w) hN N;have h:(T.br (ilt (trI (Nm k w) N) 9223372036854775808) (.leaf (.tup [iV (trI (Nm k w) N),iV 0],([]:List Blk))) (.leaf (.tup [iV 0,iV 3],[]))).sem=some (v,h'):=h;cases hc:ilt (trI (Nm k w) N) 9223372036854775808 with
 | true =>rw [hc] at h;cases h;have ht:okT (trI (Nm k w) N)=true:=decide_eq_true (by have:=of_decide_eq_true hc; omega);exact ⟨_,cxA Gl tb68 [],_,hA,rfl,hx.1,hx.2,DW.ok (.k (eL k) <| .k g0 <| .k (eN (eI 0)) <| .r 3 g1 <| .k g2 <| .k (hG 0) <| .k (hG 1) <| .k (hG 2) <| .k (hG 3) <| .k g3 <| .k g4 <| .k (eN (e2.trans ht)) <| .e (congrArg (λz=>(V.tup [iV z,iV 0],([]:List Blk))) (e1 ht))) (by kernel_rfl),Au.refl _⟩
 | false =>rw [hc] at h;cases h;have ht:okT (trI (Nm k w) N)=false:=decide_eq_false (by have:=of_decide_eq_false hc; omega);exact ⟨_,cxA Gl tb68 [],_,hA,rfl,hx.1,hx.2,DW.ok (.k (eL k) <| .k g0 <| .k (eN (eI 0)) <| .r 3 g1 <| .k g2 <| .k (hG 0) <| .k (hG 1) <| .k (hG 2) <| .k (hG 3) <| .k g3 <| .k g4 <| .k (eN (e2.trans ht)) <| .l) (by kernel_rfl),Au.refl _⟩
end Go.Proofs.YtkbgidbledjejaaGreat.En
namespace Go.Proofs.YtkbgidbledjejaaGreat.En
open Go.Sy Go Go.Proofs.YtkbgidbledjejaaGreat.Ed
open Int (ofNat)
set_option maxRecDepth 100000
theorem OV {x:Int} (h:-9223372036854775808 <= x) (h2:x <= 9223372036854775807):wr .i64 x=x:=by
 unfold wr IntKind.wrap;simp [IntKind.bits,IntKind.signed];omega
theorem ZI (k:Nat) (w:Nat->E6) (t:Nat):0 <= C3 k w t:=Int.natCast_nonneg _
def Gw (k:Nat) (w:Nat->E6):Nat->Nat->Int->Bool
 | 0,_,_=>false
 | d+1,b,l=>sel (ilt (C3 k w b) 9223372036854775808) (sel (ilt l (C3 k w b)) true (Gw k w d (b+1) (l-C3 k w b))) true
def HS (k:Nat) (w:Nat->E6) (n:Int):Bool:=Gw k w (toN n-1) 2 262144
def Pa (k:Nat) (w:Nat->E6) (n:Int):Bool:=Av (BF k w) (Av (ile 2 n) (Av (ile n 16) (decide (k <= 128))))
def OZ:List V->A3
 | [u,.val (.int .i64 n)]=>apL u λk w=>.br (Pa k w n) (.leaf (bV (HS k w n),[])) .fail
 | _=>.fail
theorem OY {vs:List V} {r:V×List Blk} (h:(OZ vs).sem=some r):∃ k w n,By vs [Ap k w,iV n]∧Pa k w n=true∧(T.leaf (bV (HS k w n),([]:List Blk))).sem=some r:=by
 unfold OZ at h;split at h
 ·rename_i u n
  obtain ⟨k,w,ha,h⟩:=Bd h;obtain ⟨hg,h⟩:=Ab h;refine ⟨k,w,n,λS W cs hq=>?_,hg,h⟩;obtain ⟨c,l,rfl,q1,q2⟩:=hq;exact ⟨c,_,rfl,ha S W c q1,q2⟩
 ·cases h
theorem UM {k:Nat} {w:Nat->E6} {n:Int} (h:Pa k w n=true):BF k w=true∧k <= 128∧∃ N:Nat,n=ofNat N∧2 <= N∧N <= 16:=by
 obtain ⟨h1,h⟩:=Bl h;obtain ⟨h2,h⟩:=Bl h;obtain ⟨h3,h4⟩:=Bl h;have h2:(2:Int) <= n:=of_decide_eq_true h2;have h3:n <= (16:Int):=of_decide_eq_true h3;refine ⟨h1,of_decide_eq_true h4,n.toNat,(Int.toNat_of_nonneg (by omega)).symm,by omega,by omega⟩
noncomputable def Amc:AG:=(67,RJ)::[]
theorem AfT:Al Tryz.prog Gl Amc:=.cons p67 <| .nil
def AgA:Lp:=⟨bmK 30 0 [0,1,4,5,6],0,bmK 30 0 [4],0,4611686018427387905⟩
def Ans:List (Nat×Lp×List (Nat×(Nat->V))):=[(0,AgA,[])]
noncomputable abbrev Aoc:Cx:=cxA Gl Amc Ans
def S33 (n:Int) (k:Nat) (w:Nat->E6) (l i:Int):St:=⟨jsV 30 0 Ac [(0,Ap k w),(1,iV n),(4,bV false),(5,iV l),(6,iV i)],[]⟩
def e33 (b:Bool):Ex×St:=match b with
 | false=>(.ex 0,⟨jsV 30 0 Ac [(4,bV false)],[]⟩)
 | true=>(.rt,⟨jsV 30 0 Ac [(4,bV true)],[]⟩)
noncomputable def B33:St->T (Ex×St):=λst=>A6 tab Aoc (Aw Tryz.f33 0) 0 st
theorem r33 {n:Int} {N k:Nat} {w:Nat->E6} (hn:n=ofNat N) (hN:N <= 16) (hm:BF k w=true) (hk:k <= 128):∀ (d b:Nat) (l:Int) (M:Nat),2 <= b->b+d=N+1->0 <= l∧l <= 262144->d<M->(Ax B33 AgA M (S33 n k w l (ofNat b))).sem=some (e33 (Gw k w d b l))
 | 0,b,l,M,h2,h,hl,hM=>by
  obtain ⟨M,rfl⟩:∃ o,M=o+1:=⟨M-1,by omega⟩;have hb:ile (ofNat b) n=false:=decide_eq_false (by rw [hn]; show ¬ ((b:Int) <= (N:Int)); omega);exact Ae (t:=some (.ex 0,_)) (DW.rd (.k hb <| .l) (by kernel_rfl))
 | d+1,b,l,M,h2,h,hl,hM=>by
  obtain ⟨M,rfl⟩:∃ o,M=o+1:=⟨M-1,by omega⟩;have hb:ile (ofNat b) n=true:=decide_eq_true (by rw [hn]; show (b:Int) <= (N:Int); omega);have hG:Lq k w (ofNat b)=true:=by
   unfold Lq;rw [hm,decide_eq_true hk,show ile 1 (ofNat b)=true from decide_eq_true (by show (1:Int) <= (b:Int); omega),show ile (ofNat b) 16=true from decide_eq_true (by show (b:Int) <= 16; omega)];rfl
  have h0:=ZI k w b;unfold Gw;cases h1:ilt (C3 k w b) 9223372036854775808 with
  | false=>exact Ae (t:=some (.rt,_)) (DW.rd (.k hb <| .k (eL k) <| .k hG <| .k h1 <| .r 4 (eN (show ieq 3 0=false from rfl)) <| .k eT <| .l) (by kernel_rfl))
  | true =>
   skip
   cases h2':ilt l (C3 k w b) with
   | true=>exact Ae (t:=some (.rt,_)) (DW.rd (.k hb <| .k (eL k) <| .k hG <| .k h1 <| .r 4 (eN (eI 0)) <| .k h2' <| .l) (by kernel_rfl))
   | false =>
    have h3:¬ (l<C3 k w b):=of_decide_eq_false h2';have hw:wr .i64 (Az l (C3 k w b))=l-C3 k w b:=OV (x:=l-C3 k w b) (by omega) (by omega);refine (Ae (DW.rd (.k hb <| .k (eL k) <| .k hG <| .k h1 <| .r 4 (eN (eI 0)) <| .k h2' <| .e (nm2 (f:=λl i=>S33 n k w l i) hw (Cs (by omega)))) (by kernel_rfl):Am B33 AgA (S33 n k w l (ofNat b))=some (.nm,S33 n k w (l-C3 k w b) (ofNat (b+1))))).trans ?_
    show (Ax B33 AgA M (S33 n k w (l-C3 k w b) (ofNat (b+1)))).sem=_;rw [r33 hn hN hm hk d (b+1) (l-C3 k w b) M (by omega) (by omega) (by omega) (by omega)];show some (e33 (Gw k w d (b+1) (l-C3 k w b)))=some (e33 (Gw k w d (b+1) (l-C3 k w b)));rfl
theorem p33:As Tryz.prog Gl 33 OZ:=by
 refine Ah A2 mixed Tryz.func33 (by kernel_rfl) (by kernel_rfl) λvs v h' h=>?_;obtain ⟨k,w,n,ha,hg,h⟩:=OY h;have:=Aa h;simp only [Prod.mk.injEq] at this;obtain ⟨rfl,rfl⟩:=this;have hx:=Be AfT Ans (G:=Gl);refine ⟨[Ap k w,iV n],Aoc,_,ha,rfl,hx.1,hx.2,?_,Au.refl _⟩;obtain ⟨hm,hk,N,hn,h2,hN⟩:=UM hg;have hr:=r33 hn hN hm hk (N-1) 2 262144 4611686018427387905 (by omega) (by omega) (by omega) (by omega);unfold HS;rw [show toN n=N by rw [hn]; rfl];have e0:(262144:Int)=262144:=rfl;rw [e0] at hr;cases hb:Gw k w (N-1) 2 262144 with
 | true =>rw [hb] at hr;exact DW.ok (.a hr .l) (by kernel_rfl)
 | false =>rw [hb] at hr;exact DW.ok (.a hr .l) (by kernel_rfl)
noncomputable def Amb:AG:=(68,RJ)::[]
theorem AfR:Al Tryz.prog Gl Amb:=.cons p68 <| .nil
def Ag9:Lp:=⟨bmK 31 0 [0,1,4,5,6],0,bmK 31 0 [4],0,4611686018427387905⟩
def Anr:List (Nat×Lp×List (Nat×(Nat->V))):=[(0,Ag9,[])]
noncomputable abbrev Aob:Cx:=cxA Gl Amb Anr
def S35 (n:Int) (k:Nat) (w:Nat->E6) (l i:Int):St:=⟨jsV 31 0 Ac [(0,Ap k w),(1,iV n),(4,bV false),(5,iV l),(6,iV i)],[]⟩
def e35 (b:Bool):Ex×St:=match b with
 | false=>(.ex 0,⟨jsV 31 0 Ac [(4,bV false)],[]⟩)
 | true=>(.rt,⟨jsV 31 0 Ac [(4,bV true)],[]⟩)
noncomputable def B35:St->T (Ex×St):=λst=>A6 tab Aob (Aw Tryz.f35 0) 0 st
theorem r35 {n:Int} {N k:Nat} {w:Nat->E6} (hn:n=ofNat N) (hN:N <= 16) (hm:BF k w=true) (hk:k <= 128):∀ (d b:Nat) (l:Int) (M:Nat),2 <= b->b+d=N+1->0 <= l∧l <= 262144->d<M->(Ax B35 Ag9 M (S35 n k w l (ofNat b))).sem=some (e35 (Gw k w d b (262144-l)))
 | 0,b,l,M,h2,h,hl,hM=>by
  obtain ⟨M,rfl⟩:∃ o,M=o+1:=⟨M-1,by omega⟩;have hb:ile (ofNat b) n=false:=decide_eq_false (by rw [hn]; show ¬ ((b:Int) <= (N:Int)); omega);exact Ae (t:=some (.ex 0,_)) (DW.rd (.k hb <| .l) (by kernel_rfl))
 | d+1,b,l,M,h2,h,hl,hM=>by
  obtain ⟨M,rfl⟩:∃ o,M=o+1:=⟨M-1,by omega⟩;have hb:ile (ofNat b) n=true:=decide_eq_true (by rw [hn]; show (b:Int) <= (N:Int); omega);have hG:Lq k w (ofNat b)=true:=by
   unfold Lq;rw [hm,decide_eq_true hk,show ile 1 (ofNat b)=true from decide_eq_true (by show (1:Int) <= (b:Int); omega),show ile (ofNat b) 16=true from decide_eq_true (by show (b:Int) <= 16; omega)];rfl
  have h0:=ZI k w b;unfold Gw;cases h1:ilt (C3 k w b) 9223372036854775808 with
  | false=>exact Ae (t:=some (.rt,_)) (DW.rd (.k hb <| .k (eL k) <| .k hG <| .k h1 <| .r 5 (eN (show ieq 3 0=false from rfl)) <| .k eT <| .l) (by kernel_rfl))
  | true =>
   have hs:wr .i64 (Az 262144 l)=Az 262144 l:=OV (x:=262144-l) (by omega) (by omega);cases h2':ilt (262144-l) (C3 k w b) with
   | true=>exact Ae (t:=some (.rt,_)) (DW.rd (.k hb <| .k (eL k) <| .k hG <| .k h1 <| .r 5 (eN (eI 0)) <| .k (cg1 (λzz0=>ilt zz0 (C3 k w b)) hs h2') <| .l) (by kernel_rfl))
   | false =>
    have h3:¬ ((262144-l)<C3 k w b):=of_decide_eq_false h2';have hw:wr .i64 (Ai l (C3 k w b))=l+C3 k w b:=OV (x:=l+C3 k w b) (by omega) (by omega);refine (Ae (DW.rd (.k hb <| .k (eL k) <| .k hG <| .k h1 <| .r 5 (eN (eI 0)) <| .k (cg1 (λzz0=>ilt zz0 (C3 k w b)) hs h2') <| .e (nm2 (f:=λl i=>S35 n k w l i) hw (Cs (by omega)))) (by kernel_rfl):Am B35 Ag9 (S35 n k w l (ofNat b))=some (.nm,S35 n k w (l+C3 k w b) (ofNat (b+1))))).trans ?_
    show (Ax B35 Ag9 M (S35 n k w (l+C3 k w b) (ofNat (b+1)))).sem=_;rw [r35 hn hN hm hk d (b+1) (l+C3 k w b) M (by omega) (by omega) (by omega) (by omega)];show some (e35 (Gw k w d (b+1) (262144-(l+C3 k w b))))=some (e35 (Gw k w d (b+1) ((262144-l)-C3 k w b)));rw [show 262144-(l+C3 k w b)=262144-l-C3 k w b by omega]
theorem p35:As Tryz.prog Gl 35 OZ:=by
 refine Ah A2 mixed Tryz.func35 (by kernel_rfl) (by kernel_rfl) λvs v h' h=>?_;obtain ⟨k,w,n,ha,hg,h⟩:=OY h;have:=Aa h;simp only [Prod.mk.injEq] at this;obtain ⟨rfl,rfl⟩:=this;have hx:=Be AfR Anr (G:=Gl);refine ⟨[Ap k w,iV n],Aob,_,ha,rfl,hx.1,hx.2,?_,Au.refl _⟩;obtain ⟨hm,hk,N,hn,h2,hN⟩:=UM hg;have hr:=r35 hn hN hm hk (N-1) 2 0 4611686018427387905 (by omega) (by omega) (by omega) (by omega);unfold HS;rw [show toN n=N by rw [hn]; rfl];have e0:(262144:Int)-0=262144:=rfl;rw [e0] at hr;cases hb:Gw k w (N-1) 2 262144 with
 | true =>rw [hb] at hr;exact DW.ok (.a hr .l) (by kernel_rfl)
 | false =>rw [hb] at hr;exact DW.ok (.a hr .l) (by kernel_rfl)
end Go.Proofs.YtkbgidbledjejaaGreat.En

