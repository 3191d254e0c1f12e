/-
  Layer 5: the closed lists of a vocabulary: the program's. No conditions.
-/
import Derived.Test.YtkbgidbledjejaaGreatEnWf
namespace Go.Proofs.YtkbgidbledjejaaGreat.En
open Go.Sy Go Go.Proofs.YtkbgidbledjejaaGreat.Ed
open Int (ofNat)
set_option maxRecDepth 100000
theorem Pe {k:Nat} {w:Nat->E6} {j:Int} (h:Lq k w j=true):BF k w=true∧k <= 128∧∃ N:Nat,j=ofNat N∧1 <= N∧N <= 16:=by
 obtain ⟨h1,h⟩:=Bl h;obtain ⟨h2,h⟩:=Bl h;obtain ⟨h3,h4⟩:=Bl h;have h2:(1:Int) <= j:=of_decide_eq_true h2;have h3:j <= (16:Int):=of_decide_eq_true h3;exact ⟨h1,of_decide_eq_true h4,j.toNat,(Int.toNat_of_nonneg (by omega)).symm,by omega,by omega⟩
def Alb (l0:Int):List V->A3
 | [u,.val (.int .i64 j),.val (.int .i64 l)]=>apL u λk w=>.br (Av (ieq l l0) (Lq k w j)) (.br (ile l j) (.leaf (.tup [.ref 0,iV 0],[.row 108 1 (Bv (toN j) 1) λi=>uV (wN (Nm k w) i)])) (.leaf (.tup [.ref 0,iV 40],[.row 108 1 0 λ_=>.und]))) .fail
 | _=>.fail
noncomputable def Ajb:AG:=[(110,Aa8),(111,WJ)]
theorem Af6:Al Tryz.prog Gl Ajb:=.cons Apw <| .cons Apv .nil
theorem Ahk {k:Nat} (w:Nat->E6) (hk:k <= 128) (q:Nat):Qr (ofNat (CV (AI w k) q))=true:=by
 have:=OQ (AI w k) q;have:=GB w k;unfold Qr Av;rw [show ile 0 (ofNat (CV (AI w k) q))=true from decide_eq_true (Int.natCast_nonneg _),show ile (ofNat (CV (AI w k) q)) 128=true from decide_eq_true (by show ((CV (AI w k) q:Nat):Int) <= (128:Int); omega)];rfl
theorem p96 (l0:Int):As Tryz.prog Gl 96 (Alb l0):=by
 refine Ah A2 mixed Tryz.func96 (by kernel_rfl) (by kernel_rfl) λvs v h' h=>?_;unfold Alb at h;split at h
 rotate_left
 ·cases h
 rename_i u j l;obtain ⟨k,w,ha,h⟩:=Bd h;obtain ⟨hg,h⟩:=Ab h;obtain ⟨hl,hg⟩:=Bl hg;obtain ⟨hm,hk,N,hj,h1,h16⟩:=Pe hg;have hx:=Be Af6 [] (G:=Gl);have hA:By [u,iV j,iV l] [Ap k w,iV j,iV l]:=λS W cs hq=>by
  obtain ⟨c,m,rfl,q1,c2,m2,rfl,q2,c3,m3,rfl,q3,q4⟩:=hq;exact ⟨c,_,rfl,ha S W c q1,c2,_,rfl,q2,c3,_,rfl,q3,q4⟩
 have hK:Av (BF k w) (decide (k <= 128))=true:=by rw [hm,decide_eq_true hk]; rfl
 have g1:ile 1 j=true:=decide_eq_true (by rw [hj]; show (1:Int) <= (N:Int); omega);have g2:ile j 16=true:=decide_eq_true (by rw [hj]; show (N:Int) <= 16; omega);have g3:ilt 16 j=false:=decide_eq_false (by rw [hj]; show ¬ (16:Int)<(N:Int); omega);have h:(T.br (ile l j) (.leaf (.tup [.ref 0,iV 0],[.row 108 1 (Bv (toN j) 1) λi=>uV (wN (Nm k w) i)])) (.leaf (.tup [.ref 0,iV 40],[.row 108 1 0 λ_=>.und]))).sem=some (v,h'):=h;cases hc:ile l j with
 | true =>rw [hc] at h;cases h;have g4:ilt j l=false:=decide_eq_false (by have:l <= j:=of_decide_eq_true hc; omega);exact ⟨_,cxA Gl Ajb [],_,hA,rfl,hx.1,hx.2,DW.ok (.k (eL k) <| .k hK <| .k (eN (eI 0)) <| .r 3 g4 <| .k g3 <| .k (Ahk w hk 0) <| .k (Ahk w hk 1) <| .k (Ahk w hk 2) <| .k (Ahk w hk 3) <| .k g1 <| .k g2 <| .l) (by kernel_rfl),Au.refl _⟩
 | false =>rw [hc] at h;cases h;have g4:ilt j l=true:=decide_eq_true (by have:¬ l <= j:=of_decide_eq_false hc; omega);exact ⟨_,cxA Gl Ajb [],_,hA,rfl,hx.1,hx.2,DW.ok (.k (eL k) <| .k hK <| .k (eN (eI 0)) <| .r 3 g4 <| .k eT <| .l) (by kernel_rfl),Au.refl _⟩
noncomputable def tb67:AG:=[(96,Alb 1),(97,Acl)]
theorem tb67_ok:Al Tryz.prog Gl tb67:=.cons (p96 1) <| .cons Apc .nil
theorem Pd {vs:List V} {r:V×List Blk} (h:(RJ vs).sem=some r):∃ k w j,By vs [Ap k w,iV j]∧Lq k w j=true∧(T.br (ilt (C3 k w (toN j)) 9223372036854775808) (.leaf (.tup [iV (C3 k w (toN j)),iV 0],([]:List Blk))) (.leaf (.tup [iV 0,iV 3],[]))).sem=some r:=by
 unfold RJ at h;split at h
 ·rename_i u j
  obtain ⟨k,w,ha,h⟩:=Bd h;obtain ⟨hg,h⟩:=Ab h;refine ⟨k,w,j,λS W cs hq=>?_,hg,h⟩;obtain ⟨c,l,rfl,q1,q2⟩:=hq;exact ⟨c,_,rfl,ha S W c q1,q2⟩
 ·cases h
theorem p67:As Tryz.prog Gl 67 RJ:=by
 refine Ah A2 mixed Tryz.func67 (by kernel_rfl) (by kernel_rfl) λvs v h' h=>?_;obtain ⟨k,w,j,hA,hg,h⟩:=Pd h;obtain ⟨hm,hk,N,rfl,h1,h16⟩:=Pe hg;have hx:=Be tb67_ok [] (G:=Gl);have hG:Av (ieq 1 1) (Lq k w (ofNat N))=true:=by rw [hg]; rfl
 have g1:ile 1 (ofNat N)=true:=decide_eq_true (by show (1:Int) <= (N:Int); omega);obtain ⟨M,rfl⟩:∃ M,N=M+1:=⟨N-1,by omega⟩;have e:wN (Nm k w) (M+1)=CC (C3 k w (M+1)):=rfl;have ho:okU (CC (C3 k w (M+1)))=true:=IB _;have h:(T.br (ilt (C3 k w (M+1)) 9223372036854775808) (.leaf (.tup [iV (C3 k w (M+1)),iV 0],([]:List Blk))) (.leaf (.tup [iV 0,iV 3],[]))).sem=some (v,h'):=h;have b1:Av (ile 0 (ofNat (M+1))) (ilt (ofNat (M+1)) (ofNat (M+1+1)))=true:=Af (Nat.lt_succ_self _);have b2:nlt (M+1) (M+1+1)=true:=decide_eq_true (Nat.lt_succ_self _);cases hc:ilt (C3 k w (M+1)) 9223372036854775808 with
 | true =>rw [hc] at h;cases h;have hc:C3 k w (M+1)<9223372036854775808:=of_decide_eq_true hc;have es:=JU hc;have g4:ile 9223372036854775808 (CC (C3 k w (M+1)))=false:=decide_eq_false (by rw [es]; omega);exact ⟨_,cxA Gl tb67 [],_,hA,rfl,hx.1,hx.2,DW.ok (.k (eL k) <| .k hG <| .k g1 <| .k (eN (eI 0)) <| .k b1 <| .k b2 <| .k ho <| .k g4 <| .e (congrArg (λz=>(V.tup [iV z,iV 0],([]:List Blk))) es)) (by kernel_rfl),Au.refl _⟩
 | false =>rw [hc] at h;cases h;have hc:¬ C3 k w (M+1)<9223372036854775808:=of_decide_eq_false hc;have g4:ile 9223372036854775808 (CC (C3 k w (M+1)))=true:=decide_eq_true (by unfold CC; rw [if_pos (by omega)]; omega);exact ⟨_,cxA Gl tb67 [],_,hA,rfl,hx.1,hx.2,DW.ok (.k (eL k) <| .k hG <| .k g1 <| .k (eN (eI 0)) <| .k b1 <| .k b2 <| .k ho <| .k g4 <| .l) (by kernel_rfl),Au.refl _⟩
end Go.Proofs.YtkbgidbledjejaaGreat.En
namespace Go.Proofs.YtkbgidbledjejaaGreat.En
open Go.Sy Go Go.Proofs.YtkbgidbledjejaaGreat.Ed
set_option maxRecDepth 100000
def B5 (x:Int):Int:=if x <= 9223372036854775807 then x else 9223372036854775807
def okT (x:Int):Bool:=decide (x <= 9223372036854775807)
def okG (x:Int):Bool:=decide (0 <= x) && decide (x <= 9223372036854775807)
theorem EJ {x:Int}:okG x=true↔0 <= x∧x <= 9223372036854775807:=by simp [okG]
theorem IC {x:Int} (h:0 <= x):okG (B5 x)=true:=by
 rw [EJ];unfold B5;split <;> omega
theorem WP {x:Int} (h:0 <= x):0 <= B5 x:=(EJ.1 (IC h)).1
theorem FC {x y:Int} (hx:okG x=true) (hy:okG y=true):0 <= Bs x y:=Int.mul_nonneg (EJ.1 hx).1 (EJ.1 hy).1
theorem Afa {x y:Int} (hx:0 <= x) (hy:0 <= y):0 <= Ai x y:=Int.add_nonneg hx hy
def ggT (F:Int->Int->Int):List V->A3
 | [.val (.int .i64 x),.val (.int .i64 y)]=>.br (okG x) (.br (okG y) (.leaf (.tup [iV (B5 (F x y)),bV (okT (F x y))],[])) .fail) .fail
 | _=>.fail
theorem Wa {F:Int->Int->Int} {vs:List V} {r:V×List Blk} (h:(ggT F vs).sem=some r):∃ x y,vs=[iV x,iV y]∧okG x=true∧okG y=true∧r=(.tup [iV (B5 (F x y)),bV (okT (F x y))],[]):=by
 unfold ggT at h;split at h
 ·obtain ⟨h1,h⟩:=Ab h
  obtain ⟨h2,h⟩:=Ab h;exact ⟨_,_,rfl,h1,h2,Aa h⟩
 ·cases h
theorem p58:As Tryz.prog Gl 58 (ggT Ai):=by
 refine Ah A2 mixed Tryz.func58 (by kernel_rfl) (by kernel_rfl) λvs v h' h=>?_;obtain ⟨x,y,rfl,h1,h2,h⟩:=Wa h;cases h;have h1:=EJ.1 h1;have h2:=EJ.1 h2;have hx:=Be (Al.nil:Al Tryz.prog Gl []) [] (G:=Gl);refine ⟨_,cxA Gl [] [],_,By.refl _,rfl,hx.1,hx.2,?_,Au.refl _⟩;have e1:wr .i64 (Az 9223372036854775807 y)=9223372036854775807-y:=Afq (by show 0 <= 9223372036854775807-y; omega) (by show 9223372036854775807-y<_; omega);unfold B5 okT;by_cases hc:Ai x y <= 9223372036854775807
 ·have hc':x+y <= 9223372036854775807:=hc
  have g:ilt (wr .i64 (Az 9223372036854775807 y)) x=false:=decide_eq_false (by rw [e1]; omega);rw [if_pos hc,decide_eq_true hc];exact DW.ok (.k g <| .e (congrArg (λz=>(V.tup [iV z,bV true],([]:List Blk))) (Afq (by show 0 <= x+y; omega) (by show x+y<_; omega)))) (by kernel_rfl)
 ·have hc':¬ x+y <= 9223372036854775807:=hc
  have g:ilt (wr .i64 (Az 9223372036854775807 y)) x=true:=decide_eq_true (by rw [e1]; omega);rw [if_neg hc,decide_eq_false hc];exact DW.ok (.k g <| .l) (by kernel_rfl)
theorem p113:As Tryz.prog Gl 113 (ggT Bs):=by
 refine Ah A2 mixed Tryz.func113 (by kernel_rfl) (by kernel_rfl) λvs v h' h=>?_;obtain ⟨x,y,rfl,h1,h2,h⟩:=Wa h;cases h;have h1:=EJ.1 h1;have h2:=EJ.1 h2;have hx:=Be (Al.nil:Al Tryz.prog Gl []) [] (G:=Gl);refine ⟨_,cxA Gl [] [],_,By.refl _,rfl,hx.1,hx.2,?_,Au.refl _⟩;have hp:0 <= x * y:=Int.mul_nonneg h1.1 h2.1;unfold B5 okT;by_cases hx0:0<x
 ·have hq:=Int.mul_ediv_add_emod 9223372036854775807 x
  have hr0:=Int.emod_nonneg 9223372036854775807 (show x ≠ 0 by omega);have hr1:=Int.emod_lt_of_pos 9223372036854775807 hx0;have hq0:0 <= 9223372036854775807 / x:=Int.ediv_nonneg (by omega) h1.1;have hq1:9223372036854775807 / x <= 9223372036854775807:=Int.ediv_le_self x (by omega);have e1:wr .i64 (Qp 9223372036854775807 x)=9223372036854775807 / x:=by
   unfold Qp;rw [Int.tdiv_eq_ediv_of_nonneg (by omega)];exact Afq hq0 (by omega)
  have g0:ilt 0 x=true:=decide_eq_true hx0;have gz:ieq x 0=false:=decide_eq_false (by omega);by_cases hc:9223372036854775807 / x<y
  ·have:x * (9223372036854775807 / x+1) <= x * y:=Int.mul_le_mul_of_nonneg_left (by omega) h1.1
   rw [Int.mul_add,Int.mul_one] at this;have g1:ilt (wr .i64 (Qp 9223372036854775807 x)) y=true:=decide_eq_true (by rw [e1]; exact hc);have hn:¬ Bs x y <= 9223372036854775807:=by show ¬ x * y <= _; omega
   rw [if_neg hn,decide_eq_false hn];exact DW.ok (.r 3 g0 <| .k gz <| .r 2 g0 <| .k g1 <| .l) (by kernel_rfl)
  ·have:x * y <= x * (9223372036854775807 / x):=Int.mul_le_mul_of_nonneg_left (by omega) h1.1
   have g1:ilt (wr .i64 (Qp 9223372036854775807 x)) y=false:=decide_eq_false (by rw [e1]; exact hc);have hn:Bs x y <= 9223372036854775807:=by show x * y <= _; omega
   rw [if_pos hn,decide_eq_true hn];exact DW.ok (.r 3 g0 <| .k gz <| .r 2 g0 <| .k g1 <| .e (congrArg (λz=>(V.tup [iV z,bV true],([]:List Blk))) (Afq hp (by show x * y<_; omega)))) (by kernel_rfl)
 ·obtain rfl:x=0:=by omega
  have hz:Bs 0 y=0:=Int.zero_mul y;rw [hz];exact DW.ok (.r 5 (show ilt 0 0=false from rfl) <| .k eF <| .e (congrArg (λz=>(V.tup [iV (wr .i64 z),bV true],([]:List Blk))) hz)) (by kernel_rfl)
def Sg (a b c d:Int):Nat->Bool×Bool->Bool×Bool
 | 0,p=>p
 | k+1,p=>Sg a b c d k (bor (Av p.1 (ilt 0 a)) (Av p.2 (ilt 0 c)),bor (Av p.1 (ilt 0 b)) (Av p.2 (ilt 0 d)))
def Ad2:Lp:=⟨bmK 53 0 [2,3,4,9,10],2,bmK 53 0 [2,9],2,1000⟩
def TP:Lp:=⟨bmK 53 0 [2,3,4,9,10,11,12,13],3,bmK 53 0 [2,3,4,9,10,11,12],3,3⟩
def Ah8:List (Nat×Lp):=[(2,AeZ 3)]
def AhY:List (Nat×Lp×List (Nat×(Nat->V))):=[(0,Ad2,[]),(4,TP,[])]
noncomputable abbrev Ai1:Cx:=cxU Gl [] Ah8 AhY
noncomputable def Ah5 (id:Nat):St->T (Ex×St):=λst=>A6 tab Ai1 (Aw Tryz.f112 id) id st
def Ahi (p:Bool×Bool):Blk:=.cells [bV p.1,bV p.2]
def Alj (a b c d t n:Int) (p:Bool×Bool) (i:Int):St:=⟨jsV 53 0 Ac [(2,iV t),(3,iV n),(4,.ptr 0 0),(9,.ptr 1 0),(10,iV i)],[.cells [iV a,iV b,iV c,iV d],Ahi p]⟩
def S4 (l:List (Nat×V)) (a b c d t n i k:Int) (p q:Bool×Bool):St:=⟨jsV 53 0 Ac ([(2,iV t),(3,iV n),(4,.ptr 0 0),(9,.ptr 1 0),(10,iV i),(11,.ptr 2 0),(12,iV k)]++l),[.cells [iV a,iV b,iV c,iV d],Ahi p,Ahi q]⟩
def Aqc (a b c d t:Int) (p:Bool×Bool):Ex×St:=(.ex 0,⟨jsV 53 0 Ac [(2,iV t),(9,.ptr 1 0)],[.cells [iV a,iV b,iV c,iV d],Ahi p]⟩)
def orS (x:Bool) (a b:Int) (q:Bool×Bool):Bool×Bool:=(bor q.1 (Av x (ilt 0 a)),bor q.2 (Av x (ilt 0 b)))
theorem Ak2 (a b c d t n i:Int) (x y u v:Bool):(Ax (Ah5 4) TP 3 (S4 [(13,iV 0)] a b c d t n i 0 (x,y) (u,v))).sem=some (.ex 4,S4 [] a b c d t n i 0 (x,y) (orS x a b (u,v))):=by
 cases x <;> cases u <;> cases v <;> kernel_rfl
theorem Ak1 (a b c d t n i:Int) (x y u v:Bool):(Ax (Ah5 4) TP 3 (S4 [(13,iV 0)] a b c d t n i 1 (x,y) (u,v))).sem=some (.ex 4,S4 [] a b c d t n i 1 (x,y) (orS y c d (u,v))):=by
 cases y <;> cases u <;> cases v <;> kernel_rfl
theorem Am5 {a b c d t n i:Int} {p:Bool×Bool} {x y:Bool} (hi:ilt i n=true) (hx:bor (Av p.1 (ilt 0 a)) (Av p.2 (ilt 0 c))=x) (hy:bor (Av p.1 (ilt 0 b)) (Av p.2 (ilt 0 d))=y):Am (Ah5 0) Ad2 (Alj a b c d t n p i)=some (.nm,Alj a b c d t n (x,y) (wr .i64 (Ai i 1))):=by
 obtain ⟨u,v⟩:=p;subst hx hy;exact DW.rd (.k hi <| .k (show ilt 0 2=true from rfl) <| .a (Ak2 a b c d t n i u v false false) <| .k (show ilt 1 2=true from rfl) <| .a (Ak1 a b c d t n i u v (orS u a b (false,false)).1 (orS u a b (false,false)).2) <| .k (show ilt 2 2=false from rfl) <| .l) (by kernel_rfl)
theorem AmY {a b c d t n:Int} {N:Nat} (hn:n=Int.ofNat N) (hN:N <= 100):∀ (e i:Nat) (p:Bool×Bool) (M:Nat),N=i+e->e<M->(Ax (Ah5 0) Ad2 M (Alj a b c d t n p (Int.ofNat i))).sem=some (Aqc a b c d t (Sg a b c d e p))
 | 0,i,p,M,h,hM=>by
  obtain ⟨M,rfl⟩:∃ o,M=o+1:=⟨M-1,by omega⟩;have hi:ilt (Int.ofNat i) n=false:=decide_eq_false (by rw [hn]; show ¬ (i:Int)<(N:Int); omega);exact Ae (t:=some (.ex 0,_)) (DW.rd (.k hi <| .l) (by kernel_rfl))
 | e+1,i,p,M,h,hM=>by
  obtain ⟨M,rfl⟩:∃ o,M=o+1:=⟨M-1,by omega⟩;have hi:ilt (Int.ofNat i) n=true:=decide_eq_true (by rw [hn]; show (i:Int)<(N:Int); omega);rw [Ae (Am5 (p:=p) (a:=a) (b:=b) (c:=c) (d:=d) (t:=t) hi rfl rfl),AK,Cs (by omega)];exact AmY hn hN e (i+1) (bor (Av p.1 (ilt 0 a)) (Av p.2 (ilt 0 c)),bor (Av p.1 (ilt 0 b)) (Av p.2 (ilt 0 d))) M (by omega) (by omega)
def Cz (a b c d:Int) (s t:Nat) (n:Nat):Bool :=
 match t with
 | 0=>(Sg a b c d n (Nat.beq s 0,Nat.beq s 1)).1
 | _=>(Sg a b c d n (Nat.beq s 0,Nat.beq s 1)).2
def Yk:List V->A3
 | [.agg [.val (.int .i64 a),.val (.int .i64 b),.val (.int .i64 c),.val (.int .i64 d)],.val (.int .i64 s),.val (.int .i64 t),.val (.int .i64 n)]=>.br (ile 0 s) (.br (ile s 1) (.br (ile 0 t) (.br (ile t 1) (.br (ile 0 n) (.br (ile n 100) (.leaf (bV (Cz a b c d (toN s) (toN t) (toN n)),[])) .fail) .fail) .fail) .fail) .fail) .fail
 | _=>.fail
theorem Apu:As Tryz.prog Gl 112 Yk:=by
 refine Ah A2 mixed Tryz.func112 (by kernel_rfl) (by kernel_rfl) λvs v h' h=>?_;unfold Yk at h;split at h
 rotate_left
 ·cases h
 rename_i a b c d s t n;obtain ⟨g1,h⟩:=Ab h;obtain ⟨g2,h⟩:=Ab h;obtain ⟨g3,h⟩:=Ab h;obtain ⟨g4,h⟩:=Ab h;obtain ⟨g5,h⟩:=Ab h;obtain ⟨g6,h⟩:=Ab h;cases Aa h;have g1:(0:Int) <= s:=of_decide_eq_true g1;have g2:s <= (1:Int):=of_decide_eq_true g2;have g3:(0:Int) <= t:=of_decide_eq_true g3;have g4:t <= (1:Int):=of_decide_eq_true g4;have g5:(0:Int) <= n:=of_decide_eq_true g5;have g6:n <= (100:Int):=of_decide_eq_true g6;obtain ⟨N,rfl⟩:=Int.eq_ofNat_of_zero_le g5;have hx:=Yh (Al.nil:Al Tryz.prog Gl []) Ah8 AhY (G:=Gl);refine ⟨_,Ai1,_,By.refl _,rfl,hx.1,hx.2,?_,Au.refl _⟩;have hr:=λt p=>AmY (a:=a) (b:=b) (c:=c) (d:=d) (t:=t) (n:=Int.ofNat N) rfl (by omega) N 0 p 1000 (Nat.zero_add N).symm (by omega);obtain rfl | rfl:s=0 ∨ s=1:=by omega
 ·obtain rfl | rfl:t=0 ∨ t=1:=by omega
  ·exact DW.ok (.k (eI 0) <| .a (hr 0 (true,false)) <| .k (eI 0) <| .l) (by kernel_rfl)
  ·exact DW.ok (.k (eI 0) <| .a (hr 1 (true,false)) <| .k (show ieq 1 0=false from rfl) <| .k (eI 1) <| .l) (by kernel_rfl)
 ·obtain rfl | rfl:t=0 ∨ t=1:=by omega
  ·exact DW.ok (.k (show ieq 1 0=false from rfl) <| .k (eI 1) <| .a (hr 0 (false,true)) <| .k (eI 0) <| .l) (by kernel_rfl)
  ·exact DW.ok (.k (show ieq 1 0=false from rfl) <| .k (eI 1) <| .a (hr 1 (false,true)) <| .k (show ieq 1 0=false from rfl) <| .k (eI 1) <| .l) (by kernel_rfl)
end Go.Proofs.YtkbgidbledjejaaGreat.En
namespace Go.Proofs.YtkbgidbledjejaaGreat.En
open Go.Sy Go Go.Proofs.YtkbgidbledjejaaGreat.Ed
open Int (ofNat)
set_option maxRecDepth 100000
noncomputable def AlQ:AG:=[(112,Yk),(113,ggT Bs),(58,ggT Ai)]
theorem Af5:Al Tryz.prog Gl AlQ:=.cons Apu <| .cons p113 <| .cons p58 .nil
def Adt:Lp:=⟨bmK 95 0 [1,2,6,7,8,9,10],2,bmK 95 0 [1,2,6,7,8,9],2,1000⟩
def KP:Lp:=⟨bmK 95 0 [1,2,6,7,8,9,10,11,12,13],3,bmK 95 0 [1,2,6,7,8,9,10,11,12],3,3⟩
def PX:Lp:=⟨bmK 95 0 [1,2,6,7,8],1,bmK 95 0 [6,7],1,3⟩
def AlN:List (Nat×Lp):=[(4,AeZ 3)]
def Ano:List (Nat×Lp×List (Nat×(Nat->V))):=[(0,PX,[]),(2,Adt,[]),(6,KP,[])]
noncomputable abbrev AnX:Cx:=cxU Gl AlQ AlN Ano
noncomputable def B98 (id:Nat):St->T (Ex×St):=λst=>A6 tab AnX (Aw Tryz.f98 id) id st
def st1 (c:Bool) (u m r:Int) (F:Bool):Int×Bool :=
 match c with
 | true=>(B5 (Ai r (B5 (Bs u m))),F && okT (Bs u m) && okT (Ai r (B5 (Bs u m))))
 | false=>(r,F)
theorem MU {c:Bool} {u m r:Int} {F:Bool} (hu:okG u=true) (hm:okG m=true) (hr:okG r=true):okG (st1 c u m r F).1=true:=by
 cases c with
 | true=>exact IC (Afa (EJ.1 hr).1 (WP (FC hu hm)))
 | false=>exact hr
section
variable (a b c d n w s k:Int)
def S98 (l:List (Nat×V)) (F:Bool) (x y p q:Int):St:=⟨jsV 95 0 Ac ([(1,iV n),(2,.ptr 0 0),(6,iV w),(7,bV F),(8,iV s),(9,.ptr 1 0),(10,iV k),(11,.ptr 2 0)]++l),[.cells [iV a,iV b,iV c,iV d],.cells [iV x,iV y],.cells [iV p,iV q]]⟩
def R98 (F:Bool) (x y k:Int):St:=⟨jsV 95 0 Ac [(1,iV n),(2,.ptr 0 0),(6,iV w),(7,bV F),(8,iV s),(9,.ptr 1 0),(10,iV k)],[.cells [iV a,iV b,iV c,iV d],.cells [iV x,iV y]]⟩
def E98 (F:Bool) (x y:Int):Ex×St:=(.ex 2,⟨jsV 95 0 Ac [(1,iV n),(2,.ptr 0 0),(6,iV w),(7,bV F),(8,iV s),(9,.ptr 1 0)],[.cells [iV a,iV b,iV c,iV d],.cells [iV x,iV y]]⟩)
abbrev nk (n k:Int):Int:=wr .i64 (Az n k)
variable {a b c d n w s k} (h0:ile 0 s=true) (h1:ile s 1=true) (h2:ile 0 (nk n k)=true) (h3:ile (nk n k) 100=true)
include h0 h1 h2 h3
theorem Akc {x y p q:Int} {F C:Bool} (gu:okG x=true) (gm:okG a=true) (gr:okG p=true) (hc:Cz a b c d 0 (toN s) (toN (nk n k))=C):Am (B98 6) KP (S98 a b c d n w s k [(12,iV 0),(13,iV 0)] F x y p q)=some (.nm,S98 a b c d n w s k [(12,iV 0),(13,iV 1)] (st1 C x a p F).2 x y (st1 C x a p F).1 q):=by
 have gt:okG (B5 (Bs x a))=true:=IC (FC gu gm);cases C with
 | false=>exact DW.rd (.k (show ilt 0 2=true from rfl) <| .k (show ile 0 0=true from rfl) <| .k (show ile 0 1=true from rfl) <| .k h0 <| .k h1 <| .k h2 <| .k h3 <| .k (eN hc) <| .l) (by kernel_rfl)
 | true =>
  cases F with
  | false=>exact DW.rd (.k (show ilt 0 2=true from rfl) <| .k (show ile 0 0=true from rfl) <| .k (show ile 0 1=true from rfl) <| .k h0 <| .k h1 <| .k h2 <| .k h3 <| .k (eN hc) <| .k (eI 0) <| .k (eI 0) <| .k (eI 0) <| .k gu <| .k gm <| .k (eI 0) <| .k gr <| .k gt <| .k (eI 0) <| .r 4 eF <| .e (congrArg (λF=>(Ex.nm,S98 a b c d n w s k [(12,iV 0),(13,iV 1)] F x y (B5 (Ai p (B5 (Bs x a)))) q)) (rfl))) (by kernel_rfl)
  | true =>
   cases ht:okT (Bs x a) with
   | true=>exact DW.rd (.k (show ilt 0 2=true from rfl) <| .k (show ile 0 0=true from rfl) <| .k (show ile 0 1=true from rfl) <| .k h0 <| .k h1 <| .k h2 <| .k h3 <| .k (eN hc) <| .k (eI 0) <| .k (eI 0) <| .k (eI 0) <| .k gu <| .k gm <| .k (eI 0) <| .k gr <| .k gt <| .k (eI 0) <| .r 2 eT <| .r 2 ht <| .e (congrArg (λF=>(Ex.nm,S98 a b c d n w s k [(12,iV 0),(13,iV 1)] F x y (B5 (Ai p (B5 (Bs x a)))) q)) (show okT (Ai p (B5 (Bs x a)))=(true && okT (Bs x a) && okT (Ai p (B5 (Bs x a)))) by rw [ht]; rfl))) (by kernel_rfl)
   | false=>exact DW.rd (.k (show ilt 0 2=true from rfl) <| .k (show ile 0 0=true from rfl) <| .k (show ile 0 1=true from rfl) <| .k h0 <| .k h1 <| .k h2 <| .k h3 <| .k (eN hc) <| .k (eI 0) <| .k (eI 0) <| .k (eI 0) <| .k gu <| .k gm <| .k (eI 0) <| .k gr <| .k gt <| .k (eI 0) <| .r 2 eT <| .r 2 ht <| .e (congrArg (λF=>(Ex.nm,S98 a b c d n w s k [(12,iV 0),(13,iV 1)] F x y (B5 (Ai p (B5 (Bs x a)))) q)) (show false=(true && okT (Bs x a) && okT (Ai p (B5 (Bs x a)))) by rw [ht]; rfl))) (by kernel_rfl)
theorem Akb {x y p q:Int} {F C:Bool} (gu:okG x=true) (gm:okG b=true) (gr:okG q=true) (hc:Cz a b c d 1 (toN s) (toN (nk n k))=C):Am (B98 6) KP (S98 a b c d n w s k [(12,iV 0),(13,iV 1)] F x y p q)=some (.nm,S98 a b c d n w s k [(12,iV 0),(13,iV 2)] (st1 C x b q F).2 x y p (st1 C x b q F).1):=by
 have gt:okG (B5 (Bs x b))=true:=IC (FC gu gm);cases C with
 | false=>exact DW.rd (.k (show ilt 1 2=true from rfl) <| .k (show ile 0 1=true from rfl) <| .k (show ile 1 1=true from rfl) <| .k h0 <| .k h1 <| .k h2 <| .k h3 <| .k (eN hc) <| .l) (by kernel_rfl)
 | true =>
  cases F with
  | false=>exact DW.rd (.k (show ilt 1 2=true from rfl) <| .k (show ile 0 1=true from rfl) <| .k (show ile 1 1=true from rfl) <| .k h0 <| .k h1 <| .k h2 <| .k h3 <| .k (eN hc) <| .k (eI 0) <| .k (eI 0) <| .k (show ieq 1 0=false from rfl) <| .k (eI 1) <| .k gu <| .k gm <| .k (show ieq 1 0=false from rfl) <| .k (eI 1) <| .k gr <| .k gt <| .k (show ieq 1 0=false from rfl) <| .k (eI 1) <| .r 4 eF <| .e (congrArg (λF=>(Ex.nm,S98 a b c d n w s k [(12,iV 0),(13,iV 2)] F x y p (B5 (Ai q (B5 (Bs x b)))))) (rfl))) (by kernel_rfl)
  | true =>
   cases ht:okT (Bs x b) with
   | true=>exact DW.rd (.k (show ilt 1 2=true from rfl) <| .k (show ile 0 1=true from rfl) <| .k (show ile 1 1=true from rfl) <| .k h0 <| .k h1 <| .k h2 <| .k h3 <| .k (eN hc) <| .k (eI 0) <| .k (eI 0) <| .k (show ieq 1 0=false from rfl) <| .k (eI 1) <| .k gu <| .k gm <| .k (show ieq 1 0=false from rfl) <| .k (eI 1) <| .k gr <| .k gt <| .k (show ieq 1 0=false from rfl) <| .k (eI 1) <| .r 2 eT <| .r 2 ht <| .e (congrArg (λF=>(Ex.nm,S98 a b c d n w s k [(12,iV 0),(13,iV 2)] F x y p (B5 (Ai q (B5 (Bs x b)))))) (show okT (Ai q (B5 (Bs x b)))=(true && okT (Bs x b) && okT (Ai q (B5 (Bs x b)))) by rw [ht]; rfl))) (by kernel_rfl)
   | false=>exact DW.rd (.k (show ilt 1 2=true from rfl) <| .k (show ile 0 1=true from rfl) <| .k (show ile 1 1=true from rfl) <| .k h0 <| .k h1 <| .k h2 <| .k h3 <| .k (eN hc) <| .k (eI 0) <| .k (eI 0) <| .k (show ieq 1 0=false from rfl) <| .k (eI 1) <| .k gu <| .k gm <| .k (show ieq 1 0=false from rfl) <| .k (eI 1) <| .k gr <| .k gt <| .k (show ieq 1 0=false from rfl) <| .k (eI 1) <| .r 2 eT <| .r 2 ht <| .e (congrArg (λF=>(Ex.nm,S98 a b c d n w s k [(12,iV 0),(13,iV 2)] F x y p (B5 (Ai q (B5 (Bs x b)))))) (show false=(true && okT (Bs x b) && okT (Ai q (B5 (Bs x b)))) by rw [ht]; rfl))) (by kernel_rfl)
theorem Aka {x y p q:Int} {F C:Bool} (gu:okG y=true) (gm:okG c=true) (gr:okG p=true) (hc:Cz a b c d 0 (toN s) (toN (nk n k))=C):Am (B98 6) KP (S98 a b c d n w s k [(12,iV 1),(13,iV 0)] F x y p q)=some (.nm,S98 a b c d n w s k [(12,iV 1),(13,iV 1)] (st1 C y c p F).2 x y (st1 C y c p F).1 q):=by
 have gt:okG (B5 (Bs y c))=true:=IC (FC gu gm);cases C with
 | false=>exact DW.rd (.k (show ilt 0 2=true from rfl) <| .k (show ile 0 0=true from rfl) <| .k (show ile 0 1=true from rfl) <| .k h0 <| .k h1 <| .k h2 <| .k h3 <| .k (eN hc) <| .l) (by kernel_rfl)
 | true =>
  cases F with
  | false=>exact DW.rd (.k (show ilt 0 2=true from rfl) <| .k (show ile 0 0=true from rfl) <| .k (show ile 0 1=true from rfl) <| .k h0 <| .k h1 <| .k h2 <| .k h3 <| .k (eN hc) <| .k (show ieq 1 0=false from rfl) <| .k (eI 1) <| .k (show ieq 1 0=false from rfl) <| .k (eI 1) <| .k (eI 0) <| .k gu <| .k gm <| .k (eI 0) <| .k gr <| .k gt <| .k (eI 0) <| .r 4 eF <| .e (congrArg (λF=>(Ex.nm,S98 a b c d n w s k [(12,iV 1),(13,iV 1)] F x y (B5 (Ai p (B5 (Bs y c)))) q)) (rfl))) (by kernel_rfl)
  | true =>
   cases ht:okT (Bs y c) with
   | true=>exact DW.rd (.k (show ilt 0 2=true from rfl) <| .k (show ile 0 0=true from rfl) <| .k (show ile 0 1=true from rfl) <| .k h0 <| .k h1 <| .k h2 <| .k h3 <| .k (eN hc) <| .k (show ieq 1 0=false from rfl) <| .k (eI 1) <| .k (show ieq 1 0=false from rfl) <| .k (eI 1) <| .k (eI 0) <| .k gu <| .k gm <| .k (eI 0) <| .k gr <| .k gt <| .k (eI 0) <| .r 2 eT <| .r 2 ht <| .e (congrArg (λF=>(Ex.nm,S98 a b c d n w s k [(12,iV 1),(13,iV 1)] F x y (B5 (Ai p (B5 (Bs y c)))) q)) (show okT (Ai p (B5 (Bs y c)))=(true && okT (Bs y c) && okT (Ai p (B5 (Bs y c)))) by rw [ht]; rfl))) (by kernel_rfl)
   | false=>exact DW.rd (.k (show ilt 0 2=true from rfl) <| .k (show ile 0 0=true from rfl) <| .k (show ile 0 1=true from rfl) <| .k h0 <| .k h1 <| .k h2 <| .k h3 <| .k (eN hc) <| .k (show ieq 1 0=false from rfl) <| .k (eI 1) <| .k (show ieq 1 0=false from rfl) <| .k (eI 1) <| .k (eI 0) <| .k gu <| .k gm <| .k (eI 0) <| .k gr <| .k gt <| .k (eI 0) <| .r 2 eT <| .r 2 ht <| .e (congrArg (λF=>(Ex.nm,S98 a b c d n w s k [(12,iV 1),(13,iV 1)] F x y (B5 (Ai p (B5 (Bs y c)))) q)) (show false=(true && okT (Bs y c) && okT (Ai p (B5 (Bs y c)))) by rw [ht]; rfl))) (by kernel_rfl)
theorem AjZ {x y p q:Int} {F C:Bool} (gu:okG y=true) (gm:okG d=true) (gr:okG q=true) (hc:Cz a b c d 1 (toN s) (toN (nk n k))=C):Am (B98 6) KP (S98 a b c d n w s k [(12,iV 1),(13,iV 1)] F x y p q)=some (.nm,S98 a b c d n w s k [(12,iV 1),(13,iV 2)] (st1 C y d q F).2 x y p (st1 C y d q F).1):=by
 have gt:okG (B5 (Bs y d))=true:=IC (FC gu gm);cases C with
 | false=>exact DW.rd (.k (show ilt 1 2=true from rfl) <| .k (show ile 0 1=true from rfl) <| .k (show ile 1 1=true from rfl) <| .k h0 <| .k h1 <| .k h2 <| .k h3 <| .k (eN hc) <| .l) (by kernel_rfl)
 | true =>
  cases F with
  | false=>exact DW.rd (.k (show ilt 1 2=true from rfl) <| .k (show ile 0 1=true from rfl) <| .k (show ile 1 1=true from rfl) <| .k h0 <| .k h1 <| .k h2 <| .k h3 <| .k (eN hc) <| .k (show ieq 1 0=false from rfl) <| .k (eI 1) <| .k (show ieq 1 0=false from rfl) <| .k (eI 1) <| .k (show ieq 1 0=false from rfl) <| .k (eI 1) <| .k gu <| .k gm <| .k (show ieq 1 0=false from rfl) <| .k (eI 1) <| .k gr <| .k gt <| .k (show ieq 1 0=false from rfl) <| .k (eI 1) <| .r 4 eF <| .e (congrArg (λF=>(Ex.nm,S98 a b c d n w s k [(12,iV 1),(13,iV 2)] F x y p (B5 (Ai q (B5 (Bs y d)))))) (rfl))) (by kernel_rfl)
  | true =>
   cases ht:okT (Bs y d) with
   | true=>exact DW.rd (.k (show ilt 1 2=true from rfl) <| .k (show ile 0 1=true from rfl) <| .k (show ile 1 1=true from rfl) <| .k h0 <| .k h1 <| .k h2 <| .k h3 <| .k (eN hc) <| .k (show ieq 1 0=false from rfl) <| .k (eI 1) <| .k (show ieq 1 0=false from rfl) <| .k (eI 1) <| .k (show ieq 1 0=false from rfl) <| .k (eI 1) <| .k gu <| .k gm <| .k (show ieq 1 0=false from rfl) <| .k (eI 1) <| .k gr <| .k gt <| .k (show ieq 1 0=false from rfl) <| .k (eI 1) <| .r 2 eT <| .r 2 ht <| .e (congrArg (λF=>(Ex.nm,S98 a b c d n w s k [(12,iV 1),(13,iV 2)] F x y p (B5 (Ai q (B5 (Bs y d)))))) (show okT (Ai q (B5 (Bs y d)))=(true && okT (Bs y d) && okT (Ai q (B5 (Bs y d)))) by rw [ht]; rfl))) (by kernel_rfl)
   | false=>exact DW.rd (.k (show ilt 1 2=true from rfl) <| .k (show ile 0 1=true from rfl) <| .k (show ile 1 1=true from rfl) <| .k h0 <| .k h1 <| .k h2 <| .k h3 <| .k (eN hc) <| .k (show ieq 1 0=false from rfl) <| .k (eI 1) <| .k (show ieq 1 0=false from rfl) <| .k (eI 1) <| .k (show ieq 1 0=false from rfl) <| .k (eI 1) <| .k gu <| .k gm <| .k (show ieq 1 0=false from rfl) <| .k (eI 1) <| .k gr <| .k gt <| .k (show ieq 1 0=false from rfl) <| .k (eI 1) <| .r 2 eT <| .r 2 ht <| .e (congrArg (λF=>(Ex.nm,S98 a b c d n w s k [(12,iV 1),(13,iV 2)] F x y p (B5 (Ai q (B5 (Bs y d)))))) (show false=(true && okT (Bs y d) && okT (Ai q (B5 (Bs y d)))) by rw [ht]; rfl))) (by kernel_rfl)
theorem An1 {x y p q:Int} {F C D:Bool} (gu:okG x=true) (gm:okG a=true) (gn:okG b=true) (gp:okG p=true) (gq:okG q=true) (hc:Cz a b c d 0 (toN s) (toN (nk n k))=C) (hd:Cz a b c d 1 (toN s) (toN (nk n k))=D):(Ax (B98 6) KP 3 (S98 a b c d n w s k [(12,iV 0),(13,iV 0)] F x y p q)).sem=some (.ex 6,S98 a b c d n w s k [(12,iV 0)] (st1 D x b q (st1 C x a p F).2).2 x y (st1 C x a p F).1 (st1 D x b q (st1 C x a p F).2).1):=by
 rw [Ae (Akc h0 h1 h2 h3 (x:=x) (y:=y) (p:=p) (q:=q) (F:=F) gu gm gp hc),AK,Ae (Akb h0 h1 h2 h3 (x:=x) (y:=y) (p:=(st1 C x a p F).1) (q:=q) (F:=(st1 C x a p F).2) gu gn gq hd),AK];exact Ae (t:=some (.ex 6,_)) (DW.rd (.k (show ilt 2 2=false from rfl) <| .l) (by kernel_rfl))
theorem An0 {x y p q:Int} {F C D:Bool} (gu:okG y=true) (gm:okG c=true) (gn:okG d=true) (gp:okG p=true) (gq:okG q=true) (hc:Cz a b c d 0 (toN s) (toN (nk n k))=C) (hd:Cz a b c d 1 (toN s) (toN (nk n k))=D):(Ax (B98 6) KP 3 (S98 a b c d n w s k [(12,iV 1),(13,iV 0)] F x y p q)).sem=some (.ex 6,S98 a b c d n w s k [(12,iV 1)] (st1 D y d q (st1 C y c p F).2).2 x y (st1 C y c p F).1 (st1 D y d q (st1 C y c p F).2).1):=by
 rw [Ae (Aka h0 h1 h2 h3 (x:=x) (y:=y) (p:=p) (q:=q) (F:=F) gu gm gp hc),AK,Ae (AjZ h0 h1 h2 h3 (x:=x) (y:=y) (p:=(st1 C y c p F).1) (q:=q) (F:=(st1 C y c p F).2) gu gn gq hd),AK];exact Ae (t:=some (.ex 6,_)) (DW.rd (.k (show ilt 2 2=false from rfl) <| .l) (by kernel_rfl))
def stp (a b c d:Int) (C D:Bool) (p:Int×Int×Bool):Int×Int×Bool :=
 ((st1 C p.2.1 c (st1 C p.1 a 0 p.2.2).1 (st1 D p.1 b 0 (st1 C p.1 a 0 p.2.2).2).2).1,(st1 D p.2.1 d (st1 D p.1 b 0 (st1 C p.1 a 0 p.2.2).2).1 (st1 C p.2.1 c (st1 C p.1 a 0 p.2.2).1 (st1 D p.1 b 0 (st1 C p.1 a 0 p.2.2).2).2).2).1,(st1 D p.2.1 d (st1 D p.1 b 0 (st1 C p.1 a 0 p.2.2).2).1 (st1 C p.2.1 c (st1 C p.1 a 0 p.2.2).1 (st1 D p.1 b 0 (st1 C p.1 a 0 p.2.2).2).2).2).2)
theorem AoN {x y:Int} {F C D:Bool} (hk:ile k n=true) (ga:okG a=true) (gb:okG b=true) (gc:okG c=true) (gd:okG d=true) (gx:okG x=true) (gy:okG y=true) (hc:Cz a b c d 0 (toN s) (toN (nk n k))=C) (hd:Cz a b c d 1 (toN s) (toN (nk n k))=D):Am (B98 2) Adt (R98 a b c d n w s F x y k)=some (.nm,R98 a b c d n w s (stp a b c d C D (x,y,F)).2.2 (stp a b c d C D (x,y,F)).1 (stp a b c d C D (x,y,F)).2.1 (wr .i64 (Ai k 1))):=by
 have z:okG 0=true:=rfl;have u:=MU (c:=C) (F:=F) gx ga z;have v:=MU (c:=D) (F:=(st1 C x a 0 F).2) gx gb z;exact DW.rd (.k hk <| .k (show ilt 0 2=true from rfl) <| .a (An1 h0 h1 h2 h3 (w:=w) (x:=x) (y:=y) (p:=0) (q:=0) (F:=F) gx ga gb z z hc hd) <| .k (show ilt 1 2=true from rfl) <| .a (An0 h0 h1 h2 h3 (w:=w) (x:=x) (y:=y) (F:=(st1 D x b 0 (st1 C x a 0 F).2).2) gy gc gd u v hc hd) <| .k (show ilt 2 2=false from rfl) <| .l) (by kernel_rfl)
end
theorem WY {a b c d:Int} {C D:Bool} {p:Int×Int×Bool} (ga:okG a=true) (gb:okG b=true) (gc:okG c=true) (gd:okG d=true) (gx:okG p.1=true) (gy:okG p.2.1=true):okG (stp a b c d C D p).1=true∧okG (stp a b c d C D p).2.1=true:=⟨MU gy gc (MU gx ga rfl),MU gy gd (MU gx gb rfl)⟩
def LF (a b c d:Int) (s n k:Nat) (p:Int×Int×Bool):Int×Int×Bool:=stp a b c d (Cz a b c d 0 s (n-k)) (Cz a b c d 1 s (n-k)) p
def Do (a b c d:Int) (s n:Nat):Nat->Nat->Int×Int×Bool->Int×Int×Bool
 | 0,_,p=>p
 | e+1,k,p=>Do a b c d s n e (k+1) (LF a b c d s n k p)
theorem MZ {a b c d:Int} (ga:okG a=true) (gb:okG b=true) (gc:okG c=true) (gd:okG d=true) (s n:Nat):∀ (e k:Nat) (p:Int×Int×Bool),okG p.1=true->okG p.2.1=true->okG (Do a b c d s n e k p).1=true∧okG (Do a b c d s n e k p).2.1=true
 | 0,_,_,hx,hy=>⟨hx,hy⟩
 | e+1,k,p,hx,hy=>by
  have h:=WY (C:=Cz a b c d 0 s (n-k)) (D:=Cz a b c d 1 s (n-k)) ga gb gc gd hx hy;exact MZ ga gb gc gd s n e (k+1) _ h.1 h.2
theorem Ajn {n k:Nat} (h:k <= n) (hn:n <= 1000):nk (ofNat n) (ofNat k)=ofNat (n-k):=by
 unfold nk wr Az IntKind.wrap;simp [IntKind.bits,IntKind.signed];omega
theorem Acx {a b c d w:Int} (ga:okG a=true) (gb:okG b=true) (gc:okG c=true) (gd:okG d=true) {n s:Nat} (hn:n <= 16) (hs:s <= 1):∀ (e k:Nat) (p:Int×Int×Bool) (M:Nat),n+1=k+e->e<M->okG p.1=true->okG p.2.1=true ->
  (Ax (B98 2) Adt M (R98 a b c d (ofNat n) w (ofNat s) p.2.2 p.1 p.2.1 (ofNat k))).sem=some (E98 a b c d (ofNat n) w (ofNat s) (Do a b c d s n e k p).2.2 (Do a b c d s n e k p).1 (Do a b c d s n e k p).2.1)
 | 0,k,p,M,h,hM,hx,hy=>by
  obtain ⟨M,rfl⟩:∃ o,M=o+1:=⟨M-1,by omega⟩;have hi:ile (ofNat k) (ofNat n)=false:=decide_eq_false (by show ¬ (k:Int) <= (n:Int); omega);exact Ae (t:=some (.ex 2,_)) (DW.rd (.k hi <| .l) (by kernel_rfl))
 | e+1,k,p,M,h,hM,hx,hy=>by
  obtain ⟨M,rfl⟩:∃ o,M=o+1:=⟨M-1,by omega⟩;have hi:ile (ofNat k) (ofNat n)=true:=decide_eq_true (by show (k:Int) <= (n:Int); omega);have hw:=Ajn (n:=n) (k:=k) (by omega) (by omega);have g:=WY (C:=Cz a b c d 0 s (n-k)) (D:=Cz a b c d 1 s (n-k)) ga gb gc gd hx hy;have hr:=AoN (w:=w) (F:=p.2.2) (n:=ofNat n) (k:=ofNat k) (s:=ofNat s) (decide_eq_true (Int.natCast_nonneg s)) (decide_eq_true (by show (s:Int) <= (1:Int); omega)) (by rw [hw]; exact decide_eq_true (Int.natCast_nonneg _)) (by rw [hw]; exact decide_eq_true (by show ((n-k:Nat):Int) <= (100:Int); omega)) hi ga gb gc gd hx hy rfl rfl;rw [Ae hr,AK,Cs (by omega),hw];exact Acx ga gb gc gd hn hs e (k+1) (LF a b c d s n k p) M (by omega) (by omega) g.1 g.2
def Hn (a b c d:Int) (n:Nat):Int×Bool :=
 (B5 (Ai 0 (Do a b c d 0 n n 1 (1,0,true)).1),(Do a b c d 0 n n 1 (1,0,true)).2.2 && okT (Ai 0 (Do a b c d 0 n n 1 (1,0,true)).1))
def Pb (a b c d:Int) (n:Nat):Int×Bool :=
 (B5 (Ai (Hn a b c d n).1 (Do a b c d 1 n n 1 (0,1,(Hn a b c d n).2)).2.1),(Do a b c d 1 n n 1 (0,1,(Hn a b c d n).2)).2.2 && okT (Ai (Hn a b c d n).1 (Do a b c d 1 n n 1 (0,1,(Hn a b c d n).2)).2.1))
def Te (a b c d n w:Int) (F:Bool) (s:Int):St:=⟨jsV 95 0 Ac [(1,iV n),(2,.ptr 0 0),(6,iV w),(7,bV F),(8,iV s)],[.cells [iV a,iV b,iV c,iV d]]⟩
def Ao1 (a b c d w:Int) (F:Bool):Ex×St:=(.ex 0,⟨jsV 95 0 Ac [(6,iV w),(7,bV F)],[.cells [iV a,iV b,iV c,iV d]]⟩)
theorem Amp {a b c d n w x y:Int} {F G:Bool} (hr:(Ax (B98 2) Adt 1000 (R98 a b c d n w 0 F 1 0 1)).sem=some (E98 a b c d n w 0 G x y)) (gw:okG w=true) (gx:okG x=true):Am (B98 0) PX (Te a b c d n w F 0)=some (.nm,Te a b c d n (B5 (Ai w x)) (G && okT (Ai w x)) 1):=by
 cases G with
 | true=>exact DW.rd (.k (show ilt 0 2=true from rfl) <| .k (eI 0) <| .a hr <| .k (eI 0) <| .k gw <| .k gx <| .r 2 eT <| .l) (by kernel_rfl)
 | false=>exact DW.rd (.k (show ilt 0 2=true from rfl) <| .k (eI 0) <| .a hr <| .k (eI 0) <| .k gw <| .k gx <| .r 2 eF <| .l) (by kernel_rfl)
theorem Amo {a b c d n w x y:Int} {F G:Bool} (hr:(Ax (B98 2) Adt 1000 (R98 a b c d n w 1 F 0 1 1)).sem=some (E98 a b c d n w 1 G x y)) (gw:okG w=true) (gy:okG y=true):Am (B98 0) PX (Te a b c d n w F 1)=some (.nm,Te a b c d n (B5 (Ai w y)) (G && okT (Ai w y)) 2):=by
 cases G with
 | true=>exact DW.rd (.k (show ilt 1 2=true from rfl) <| .k (show ieq 1 0=false from rfl) <| .k (eI 1) <| .a hr <| .k (show ieq 1 0=false from rfl) <| .k (eI 1) <| .k gw <| .k gy <| .r 2 eT <| .l) (by kernel_rfl)
 | false=>exact DW.rd (.k (show ilt 1 2=true from rfl) <| .k (show ieq 1 0=false from rfl) <| .k (eI 1) <| .a hr <| .k (show ieq 1 0=false from rfl) <| .k (eI 1) <| .k gw <| .k gy <| .r 2 eF <| .l) (by kernel_rfl)
def AbI:List V->A3
 | [.agg [.val (.int .i64 a),.val (.int .i64 b),.val (.int .i64 c),.val (.int .i64 d)],.val (.int .i64 n)]=>.br (okG a) (.br (okG b) (.br (okG c) (.br (okG d) (.br (ile 1 n) (.br (ile n 16) (.leaf (.tup [iV (Pb a b c d (toN n)).1,bV (Pb a b c d (toN n)).2],[])) .fail) .fail) .fail) .fail) .fail) .fail
 | _=>.fail
theorem p98:As Tryz.prog Gl 98 AbI:=by
 refine Ah A2 mixed Tryz.func98 (by kernel_rfl) (by kernel_rfl) λvs v h' h=>?_;unfold AbI at h;split at h
 rotate_left
 ·cases h
 rename_i a b c d n;obtain ⟨ga,h⟩:=Ab h;obtain ⟨gb,h⟩:=Ab h;obtain ⟨gc,h⟩:=Ab h;obtain ⟨gd,h⟩:=Ab h;obtain ⟨g5,h⟩:=Ab h;obtain ⟨g6,h⟩:=Ab h;cases Aa h;have g5:(1:Int) <= n:=of_decide_eq_true g5;have g6:n <= (16:Int):=of_decide_eq_true g6;obtain ⟨n,rfl⟩:=Int.eq_ofNat_of_zero_le (show (0:Int) <= n by omega);have hx:=Yh Af5 AlN Ano (G:=Gl);refine ⟨_,AnX,_,By.refl _,rfl,hx.1,hx.2,?_,Au.refl _⟩;have g1:okG 1=true:=rfl;have g0:okG 0=true:=rfl;have k0:=(MZ ga gb gc gd 0 n n 1 (1,0,true) g1 g0).1;have r0:=Acx (w:=0) ga gb gc gd (n:=n) (s:=0) (by omega) (by omega) n 1 (1,0,true) 1000 (by omega) (by omega) g1 g0;have v1:okG (Hn a b c d n).1=true:=IC (Afa (Int.le_refl 0) (EJ.1 k0).1);have k1:=(MZ ga gb gc gd 1 n n 1 (0,1,(Hn a b c d n).2) g0 g1).2;have r1:=Acx (w:=(Hn a b c d n).1) ga gb gc gd (n:=n) (s:=1) (by omega) (by omega) n 1 (0,1,(Hn a b c d n).2) 1000 (by omega) (by omega) g0 g1;have hl:(Ax (B98 0) PX 3 (Te a b c d (ofNat n) 0 true 0)).sem=some (Ao1 a b c d (Pb a b c d n).1 (Pb a b c d n).2):=by
  rw [Ae (Amp r0 g0 k0),AK];show (Ax (B98 0) PX 2 (Te a b c d (ofNat n) (Hn a b c d n).1 (Hn a b c d n).2 1)).sem=_;rw [Ae (Amo (F:=(Hn a b c d n).2) r1 v1 k1),AK];exact Ae (t:=some (.ex 0,_)) (DW.rd (.k (show ilt 2 2=false from rfl) <| .l) (by kernel_rfl))
 exact DW.ok (.a hl <| .l) (by kernel_rfl)
end Go.Proofs.YtkbgidbledjejaaGreat.En
