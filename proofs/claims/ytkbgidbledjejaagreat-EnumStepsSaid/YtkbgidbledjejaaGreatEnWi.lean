/-
  Layer 5: the closed lists of a vocabulary: the program's. No conditions.
-/
import Derived.Test.YtkbgidbledjejaaGreatEnWf
namespace Go.Proofs.YtkbgidbledjejaaGreat.En
open Go.Sy Go Go.Proofs.YtkbgidbledjejaaGreat.Ed
open Int (ofNat)
set_option maxRecDepth 100000
theorem OQ {k:Nat} {w:Nat->E6} {j:Int} (h:Ln k w j=true):Bv k w=true∧k <= 128∧∃ N:Nat,j=ofNat N∧1 <= N∧N <= 16:=by
 obtain ⟨h1,h⟩:=Bf h;obtain ⟨h2,h⟩:=Bf h;obtain ⟨h3,h4⟩:=Bf h;have h2:(1:Int) <= j:=of_decide_eq_true h2;have h3:j <= (16:Int):=of_decide_eq_true h3;exact ⟨h1,of_decide_eq_true h4,j.toNat,(Int.toNat_of_nonneg (by omega)).symm,by omega,by omega⟩
def AjN (l0:Int):List V->A3
 | [u,.val (.int .i64 j),.val (.int .i64 l)]=>apL u λk w=>.br (Av (ieq l l0) (Ln k w j)) (.br (ile l j) (.leaf (.tup [.ref 0,iV 0],[.row 108 1 (Cd (toN j) 1) λi=>uV (wN (Oi k w) i)])) (.leaf (.tup [.ref 0,iV 40],[.row 108 1 0 λ_=>.und]))) .fail
 | _=>.fail
noncomputable def AhZ:AD:=[(110,Aaa),(111,Wv)]
theorem AeM:Al Tryz.prog Gl AhZ:=.cons AnX <| .cons AnV .nil
theorem Agp {k:Nat} (w:Nat->E6) (hk:k <= 128) (q:Nat):Qa (ofNat (CX (AK w k) q))=true:=by
 have:=OG (AK w k) q;have:=GB w k;unfold Qa Av;rw [show ile 0 (ofNat (CX (AK w k) q))=true from decide_eq_true (Int.natCast_nonneg _),show ile (ofNat (CX (AK w k) q)) 128=true from decide_eq_true (by show ((CX (AK w k) q:Nat):Int) <= (128:Int); omega)];rfl
theorem p96 (l0:Int):Ar Tryz.prog Gl 96 (AjN l0):=by
 refine Ah A0 mixed Tryz.func96 (by kernel_rfl) (by kernel_rfl) λvs v h' h=>?_;unfold AjN at h;split at h
 rotate_left
 ·cases h
 rename_i u j l;obtain ⟨k,w,ha,h⟩:=Bb h;obtain ⟨hg,h⟩:=Ab h;obtain ⟨hl,hg⟩:=Bf hg;obtain ⟨hm,hk,N,hj,h1,h16⟩:=OQ hg;have hx:=AZ AeM [] (G:=Gl);have hA:B2 [u,iV j,iV l] [Ao k w,iV j,iV l]:=λS W cs hq=>by
  obtain ⟨c,m,rfl,q1,c2,m2,rfl,q2,c3,m3,rfl,q3,q4⟩:=hq;exact ⟨c,_,rfl,ha S W c q1,c2,_,rfl,q2,c3,_,rfl,q3,q4⟩
 have hK:Av (Bv k w) (decide (k <= 128))=true:=by rw [hm,decide_eq_true hk]; rfl
 have g1:ile 1 j=true:=decide_eq_true (by rw [hj]; show (1:Int) <= (N:Int); omega);have g2:ile j 16=true:=decide_eq_true (by rw [hj]; show (N:Int) <= 16; omega);have g3:ilt 16 j=false:=decide_eq_false (by rw [hj]; show ¬ (16:Int)<(N:Int); omega);have h:(T.br (ile l j) (.leaf (.tup [.ref 0,iV 0],[.row 108 1 (Cd (toN j) 1) λi=>uV (wN (Oi k w) i)])) (.leaf (.tup [.ref 0,iV 40],[.row 108 1 0 λ_=>.und]))).sem=some (v,h'):=h;cases hc:ile l j with
 | true =>rw [hc] at h;cases h;have g4:ilt j l=false:=decide_eq_false (by have:l <= j:=of_decide_eq_true hc; omega);exact ⟨_,cxA Gl AhZ [],_,hA,rfl,hx.1,hx.2,DW.ok (.k (eL k) <| .k hK <| .k (eN (eI 0)) <| .r 3 g4 <| .k g3 <| .k (Agp w hk 0) <| .k (Agp w hk 1) <| .k (Agp w hk 2) <| .k (Agp w hk 3) <| .k g1 <| .k g2 <| .l) (by kernel_rfl),As.refl _⟩
 | false =>rw [hc] at h;cases h;have g4:ilt j l=true:=decide_eq_true (by have:¬ l <= j:=of_decide_eq_false hc; omega);exact ⟨_,cxA Gl AhZ [],_,hA,rfl,hx.1,hx.2,DW.ok (.k (eL k) <| .k hK <| .k (eN (eI 0)) <| .r 3 g4 <| .k eT <| .l) (by kernel_rfl),As.refl _⟩
noncomputable def tb67:AD:=[(96,AjN 1),(97,AbA)]
theorem tb67_ok:Al Tryz.prog Gl tb67:=.cons (p96 1) <| .cons AnC .nil
theorem OP {vs:List V} {r:V×List Blk} (h:(Rx vs).sem=some r):∃ k w j,B2 vs [Ao k w,iV j]∧Ln k w j=true∧(T.br (ilt (CQ k w (toN j)) 9223372036854775808) (.leaf (.tup [iV (CQ k w (toN j)),iV 0],([]:List Blk))) (.leaf (.tup [iV 0,iV 3],[]))).sem=some r:=by
 unfold Rx at h;split at h
 ·rename_i u j
  obtain ⟨k,w,ha,h⟩:=Bb h;obtain ⟨hg,h⟩:=Ab h;refine ⟨k,w,j,λS W cs hq=>?_,hg,h⟩;obtain ⟨c,l,rfl,q1,q2⟩:=hq;exact ⟨c,_,rfl,ha S W c q1,q2⟩
 ·cases h
theorem p67:Ar Tryz.prog Gl 67 Rx:=by
 refine Ah A0 mixed Tryz.func67 (by kernel_rfl) (by kernel_rfl) λvs v h' h=>?_;obtain ⟨k,w,j,hA,hg,h⟩:=OP h;obtain ⟨hm,hk,N,rfl,h1,h16⟩:=OQ hg;have hx:=AZ tb67_ok [] (G:=Gl);have hG:Av (ieq 1 1) (Ln k w (ofNat N))=true:=by rw [hg]; rfl
 have g1:ile 1 (ofNat N)=true:=decide_eq_true (by show (1:Int) <= (N:Int); omega);obtain ⟨M,rfl⟩:∃ M,N=M+1:=⟨N-1,by omega⟩;have e:wN (Oi k w) (M+1)=CC (CQ k w (M+1)):=rfl;have ho:okU (CC (CQ k w (M+1)))=true:=I7 _;have h:(T.br (ilt (CQ k w (M+1)) 9223372036854775808) (.leaf (.tup [iV (CQ k w (M+1)),iV 0],([]:List Blk))) (.leaf (.tup [iV 0,iV 3],[]))).sem=some (v,h'):=h;have b1:Av (ile 0 (ofNat (M+1))) (ilt (ofNat (M+1)) (ofNat (M+1+1)))=true:=Af (Nat.lt_succ_self _);have b2:nlt (M+1) (M+1+1)=true:=decide_eq_true (Nat.lt_succ_self _);cases hc:ilt (CQ k w (M+1)) 9223372036854775808 with
 | true =>rw [hc] at h;cases h;have hc:CQ k w (M+1)<9223372036854775808:=of_decide_eq_true hc;have es:=JM hc;have g4:ile 9223372036854775808 (CC (CQ k w (M+1)))=false:=decide_eq_false (by rw [es]; omega);exact ⟨_,cxA Gl tb67 [],_,hA,rfl,hx.1,hx.2,DW.ok (.k (eL k) <| .k hG <| .k g1 <| .k (eN (eI 0)) <| .k b1 <| .k b2 <| .k ho <| .k g4 <| .e (congrArg (λz=>(V.tup [iV z,iV 0],([]:List Blk))) es)) (by kernel_rfl),As.refl _⟩
 | false =>rw [hc] at h;cases h;have hc:¬ CQ k w (M+1)<9223372036854775808:=of_decide_eq_false hc;have g4:ile 9223372036854775808 (CC (CQ k w (M+1)))=true:=decide_eq_true (by unfold CC; rw [if_pos (by omega)]; omega);exact ⟨_,cxA Gl tb67 [],_,hA,rfl,hx.1,hx.2,DW.ok (.k (eL k) <| .k hG <| .k g1 <| .k (eN (eI 0)) <| .k b1 <| .k b2 <| .k ho <| .k g4 <| .l) (by kernel_rfl),As.refl _⟩
end Go.Proofs.YtkbgidbledjejaaGreat.En
namespace Go.Proofs.YtkbgidbledjejaaGreat.En
open Go.Sy Go Go.Proofs.YtkbgidbledjejaaGreat.Ed
set_option maxRecDepth 100000
def B5 (x:Int):Int:=if x <= 9223372036854775807 then x else 9223372036854775807
def okT (x:Int):Bool:=decide (x <= 9223372036854775807)
def okG (x:Int):Bool:=decide (0 <= x) && decide (x <= 9223372036854775807)
theorem EI {x:Int}:okG x=true↔0 <= x∧x <= 9223372036854775807:=by simp [okG]
theorem I8 {x:Int} (h:0 <= x):okG (B5 x)=true:=by
 rw [EI];unfold B5;split <;> omega
theorem W0 {x:Int} (h:0 <= x):0 <= B5 x:=(EI.1 (I8 h)).1
theorem FD {x y:Int} (hx:okG x=true) (hy:okG y=true):0 <= Bp x y:=Int.mul_nonneg (EI.1 hx).1 (EI.1 hy).1
theorem Aes {x y:Int} (hx:0 <= x) (hy:0 <= y):0 <= Am x y:=Int.add_nonneg hx hy
def ggT (F:Int->Int->Int):List V->A3
 | [.val (.int .i64 x),.val (.int .i64 y)]=>.br (okG x) (.br (okG y) (.leaf (.tup [iV (B5 (F x y)),bV (okT (F x y))],[])) .fail) .fail
 | _=>.fail
theorem VE {F:Int->Int->Int} {vs:List V} {r:V×List Blk} (h:(ggT F vs).sem=some r):∃ x y,vs=[iV x,iV y]∧okG x=true∧okG y=true∧r=(.tup [iV (B5 (F x y)),bV (okT (F x y))],[]):=by
 unfold ggT at h;split at h
 ·obtain ⟨h1,h⟩:=Ab h
  obtain ⟨h2,h⟩:=Ab h;exact ⟨_,_,rfl,h1,h2,Aa h⟩
 ·cases h
theorem p58:Ar Tryz.prog Gl 58 (ggT Am):=by
 refine Ah A0 mixed Tryz.func58 (by kernel_rfl) (by kernel_rfl) λvs v h' h=>?_;obtain ⟨x,y,rfl,h1,h2,h⟩:=VE h;cases h;have h1:=EI.1 h1;have h2:=EI.1 h2;have hx:=AZ (Al.nil:Al Tryz.prog Gl []) [] (G:=Gl);refine ⟨_,cxA Gl [] [],_,B2.refl _,rfl,hx.1,hx.2,?_,As.refl _⟩;have e1:wr .i64 (Ax 9223372036854775807 y)=9223372036854775807-y:=Ae8 (by show 0 <= 9223372036854775807-y; omega) (by show 9223372036854775807-y<_; omega);unfold B5 okT;by_cases hc:Am x y <= 9223372036854775807
 ·have hc':x+y <= 9223372036854775807:=hc
  have g:ilt (wr .i64 (Ax 9223372036854775807 y)) x=false:=decide_eq_false (by rw [e1]; omega);rw [if_pos hc,decide_eq_true hc];exact DW.ok (.k g <| .e (congrArg (λz=>(V.tup [iV z,bV true],([]:List Blk))) (Ae8 (by show 0 <= x+y; omega) (by show x+y<_; omega)))) (by kernel_rfl)
 ·have hc':¬ x+y <= 9223372036854775807:=hc
  have g:ilt (wr .i64 (Ax 9223372036854775807 y)) x=true:=decide_eq_true (by rw [e1]; omega);rw [if_neg hc,decide_eq_false hc];exact DW.ok (.k g <| .l) (by kernel_rfl)
theorem p113:Ar Tryz.prog Gl 113 (ggT Bp):=by
 refine Ah A0 mixed Tryz.func113 (by kernel_rfl) (by kernel_rfl) λvs v h' h=>?_;obtain ⟨x,y,rfl,h1,h2,h⟩:=VE h;cases h;have h1:=EI.1 h1;have h2:=EI.1 h2;have hx:=AZ (Al.nil:Al Tryz.prog Gl []) [] (G:=Gl);refine ⟨_,cxA Gl [] [],_,B2.refl _,rfl,hx.1,hx.2,?_,As.refl _⟩;have hp:0 <= x * y:=Int.mul_nonneg h1.1 h2.1;unfold B5 okT;by_cases hx0:0<x
 ·have hq:=Int.mul_ediv_add_emod 9223372036854775807 x
  have hr0:=Int.emod_nonneg 9223372036854775807 (show x ≠ 0 by omega);have hr1:=Int.emod_lt_of_pos 9223372036854775807 hx0;have hq0:0 <= 9223372036854775807 / x:=Int.ediv_nonneg (by omega) h1.1;have hq1:9223372036854775807 / x <= 9223372036854775807:=Int.ediv_le_self x (by omega);have e1:wr .i64 (PY 9223372036854775807 x)=9223372036854775807 / x:=by
   unfold PY;rw [Int.tdiv_eq_ediv_of_nonneg (by omega)];exact Ae8 hq0 (by omega)
  have g0:ilt 0 x=true:=decide_eq_true hx0;have gz:ieq x 0=false:=decide_eq_false (by omega);by_cases hc:9223372036854775807 / x<y
  ·have:x * (9223372036854775807 / x+1) <= x * y:=Int.mul_le_mul_of_nonneg_left (by omega) h1.1
   rw [Int.mul_add,Int.mul_one] at this;have g1:ilt (wr .i64 (PY 9223372036854775807 x)) y=true:=decide_eq_true (by rw [e1]; exact hc);have hn:¬ Bp x y <= 9223372036854775807:=by show ¬ x * y <= _; omega
   rw [if_neg hn,decide_eq_false hn];exact DW.ok (.r 3 g0 <| .k gz <| .r 2 g0 <| .k g1 <| .l) (by kernel_rfl)
  ·have:x * y <= x * (9223372036854775807 / x):=Int.mul_le_mul_of_nonneg_left (by omega) h1.1
   have g1:ilt (wr .i64 (PY 9223372036854775807 x)) y=false:=decide_eq_false (by rw [e1]; exact hc);have hn:Bp x y <= 9223372036854775807:=by show x * y <= _; omega
   rw [if_pos hn,decide_eq_true hn];exact DW.ok (.r 3 g0 <| .k gz <| .r 2 g0 <| .k g1 <| .e (congrArg (λz=>(V.tup [iV z,bV true],([]:List Blk))) (Ae8 hp (by show x * y<_; omega)))) (by kernel_rfl)
 ·obtain rfl:x=0:=by omega
  have hz:Bp 0 y=0:=Int.zero_mul y;rw [hz];exact DW.ok (.r 5 (show ilt 0 0=false from rfl) <| .k eF <| .e (congrArg (λz=>(V.tup [iV (wr .i64 z),bV true],([]:List Blk))) hz)) (by kernel_rfl)
def RP (a b c d:Int):Nat->Bool×Bool->Bool×Bool
 | 0,p=>p
 | k+1,p=>RP a b c d k (bor (Av p.1 (ilt 0 a)) (Av p.2 (ilt 0 c)),bor (Av p.1 (ilt 0 b)) (Av p.2 (ilt 0 d)))
def AcP:Lp:=⟨bmK 53 0 [2,3,4,9,10],2,bmK 53 0 [2,9],2,1000⟩
def Tz:Lp:=⟨bmK 53 0 [2,3,4,9,10,11,12,13],3,bmK 53 0 [2,3,4,9,10,11,12],3,3⟩
def AgF:List (Nat×Lp):=[(2,Aer 3)]
def Ahc:List (Nat×Lp×List (Nat×(Nat->V))):=[(0,AcP,[]),(4,Tz,[])]
noncomputable abbrev Ahz:Cx:=cxU Gl [] AgF Ahc
noncomputable def AgC (id:Nat):St->T (Ex×St):=λst=>A8 tab Ahz (A1 Tryz.f112 id) id st
def Agm (p:Bool×Bool):Blk:=.cells [bV p.1,bV p.2]
def AjT (a b c d t n:Int) (p:Bool×Bool) (i:Int):St:=⟨jsV 53 0 Ac [(2,iV t),(3,iV n),(4,.ptr 0 0),(9,.ptr 1 0),(10,iV i)],[.cells [iV a,iV b,iV c,iV d],Agm p]⟩
def S4 (l:List (Nat×V)) (a b c d t n i k:Int) (p q:Bool×Bool):St:=⟨jsV 53 0 Ac ([(2,iV t),(3,iV n),(4,.ptr 0 0),(9,.ptr 1 0),(10,iV i),(11,.ptr 2 0),(12,iV k)]++l),[.cells [iV a,iV b,iV c,iV d],Agm p,Agm q]⟩
def Ao8 (a b c d t:Int) (p:Bool×Bool):Ex×St:=(.ex 0,⟨jsV 53 0 Ac [(2,iV t),(9,.ptr 1 0)],[.cells [iV a,iV b,iV c,iV d],Agm p]⟩)
def orS (x:Bool) (a b:Int) (q:Bool×Bool):Bool×Bool:=(bor q.1 (Av x (ilt 0 a)),bor q.2 (Av x (ilt 0 b)))
theorem Ajj (a b c d t n i:Int) (x y u v:Bool):(Ay (AgC 4) Tz 3 (S4 [(13,iV 0)] a b c d t n i 0 (x,y) (u,v))).sem=some (.ex 4,S4 [] a b c d t n i 0 (x,y) (orS x a b (u,v))):=by
 cases x <;> cases u <;> cases v <;> kernel_rfl
theorem Aji (a b c d t n i:Int) (x y u v:Bool):(Ay (AgC 4) Tz 3 (S4 [(13,iV 0)] a b c d t n i 1 (x,y) (u,v))).sem=some (.ex 4,S4 [] a b c d t n i 1 (x,y) (orS y c d (u,v))):=by
 cases y <;> cases u <;> cases v <;> kernel_rfl
theorem Alu {a b c d t n i:Int} {p:Bool×Bool} {x y:Bool} (hi:ilt i n=true) (hx:bor (Av p.1 (ilt 0 a)) (Av p.2 (ilt 0 c))=x) (hy:bor (Av p.1 (ilt 0 b)) (Av p.2 (ilt 0 d))=y):Ap (AgC 0) AcP (AjT a b c d t n p i)=some (.nm,AjT a b c d t n (x,y) (wr .i64 (Am i 1))):=by
 obtain ⟨u,v⟩:=p;subst hx hy;exact DW.rd (.k hi <| .k (show ilt 0 2=true from rfl) <| .a (Ajj a b c d t n i u v false false) <| .k (show ilt 1 2=true from rfl) <| .a (Aji a b c d t n i u v (orS u a b (false,false)).1 (orS u a b (false,false)).2) <| .k (show ilt 2 2=false from rfl) <| .l) (by kernel_rfl)
theorem AlF {a b c d t n:Int} {N:Nat} (hn:n=Int.ofNat N) (hN:N <= 100):∀ (e i:Nat) (p:Bool×Bool) (M:Nat),N=i+e->e<M->(Ay (AgC 0) AcP M (AjT a b c d t n p (Int.ofNat i))).sem=some (Ao8 a b c d t (RP a b c d e p))
 | 0,i,p,M,h,hM=>by
  obtain ⟨M,rfl⟩:∃ o,M=o+1:=⟨M-1,by omega⟩;have hi:ilt (Int.ofNat i) n=false:=decide_eq_false (by rw [hn]; show ¬ (i:Int)<(N:Int); omega);exact Ae (t:=some (.ex 0,_)) (DW.rd (.k hi <| .l) (by kernel_rfl))
 | e+1,i,p,M,h,hM=>by
  obtain ⟨M,rfl⟩:∃ o,M=o+1:=⟨M-1,by omega⟩;have hi:ilt (Int.ofNat i) n=true:=decide_eq_true (by rw [hn]; show (i:Int)<(N:Int); omega);rw [Ae (Alu (p:=p) (a:=a) (b:=b) (c:=c) (d:=d) (t:=t) hi rfl rfl),AS,C2 (by omega)];exact AlF hn hN e (i+1) (bor (Av p.1 (ilt 0 a)) (Av p.2 (ilt 0 c)),bor (Av p.1 (ilt 0 b)) (Av p.2 (ilt 0 d))) M (by omega) (by omega)
def Cw (a b c d:Int) (s t:Nat) (n:Nat):Bool :=
 match t with
 | 0=>(RP a b c d n (Nat.beq s 0,Nat.beq s 1)).1
 | _=>(RP a b c d n (Nat.beq s 0,Nat.beq s 1)).2
def XI:List V->A3
 | [.agg [.val (.int .i64 a),.val (.int .i64 b),.val (.int .i64 c),.val (.int .i64 d)],.val (.int .i64 s),.val (.int .i64 t),.val (.int .i64 n)]=>.br (ile 0 s) (.br (ile s 1) (.br (ile 0 t) (.br (ile t 1) (.br (ile 0 n) (.br (ile n 100) (.leaf (bV (Cw a b c d (toN s) (toN t) (toN n)),[])) .fail) .fail) .fail) .fail) .fail) .fail
 | _=>.fail
theorem AnU:Ar Tryz.prog Gl 112 XI:=by
 refine Ah A0 mixed Tryz.func112 (by kernel_rfl) (by kernel_rfl) λvs v h' h=>?_;unfold XI at h;split at h
 rotate_left
 ·cases h
 rename_i a b c d s t n;obtain ⟨g1,h⟩:=Ab h;obtain ⟨g2,h⟩:=Ab h;obtain ⟨g3,h⟩:=Ab h;obtain ⟨g4,h⟩:=Ab h;obtain ⟨g5,h⟩:=Ab h;obtain ⟨g6,h⟩:=Ab h;cases Aa h;have g1:(0:Int) <= s:=of_decide_eq_true g1;have g2:s <= (1:Int):=of_decide_eq_true g2;have g3:(0:Int) <= t:=of_decide_eq_true g3;have g4:t <= (1:Int):=of_decide_eq_true g4;have g5:(0:Int) <= n:=of_decide_eq_true g5;have g6:n <= (100:Int):=of_decide_eq_true g6;obtain ⟨N,rfl⟩:=Int.eq_ofNat_of_zero_le g5;have hx:=XF (Al.nil:Al Tryz.prog Gl []) AgF Ahc (G:=Gl);refine ⟨_,Ahz,_,B2.refl _,rfl,hx.1,hx.2,?_,As.refl _⟩;have hr:=λt p=>AlF (a:=a) (b:=b) (c:=c) (d:=d) (t:=t) (n:=Int.ofNat N) rfl (by omega) N 0 p 1000 (Nat.zero_add N).symm (by omega);obtain rfl | rfl:s=0 ∨ s=1:=by omega
 ·obtain rfl | rfl:t=0 ∨ t=1:=by omega
  ·exact DW.ok (.k (eI 0) <| .a (hr 0 (true,false)) <| .k (eI 0) <| .l) (by kernel_rfl)
  ·exact DW.ok (.k (eI 0) <| .a (hr 1 (true,false)) <| .k (show ieq 1 0=false from rfl) <| .k (eI 1) <| .l) (by kernel_rfl)
 ·obtain rfl | rfl:t=0 ∨ t=1:=by omega
  ·exact DW.ok (.k (show ieq 1 0=false from rfl) <| .k (eI 1) <| .a (hr 0 (false,true)) <| .k (eI 0) <| .l) (by kernel_rfl)
  ·exact DW.ok (.k (show ieq 1 0=false from rfl) <| .k (eI 1) <| .a (hr 1 (false,true)) <| .k (show ieq 1 0=false from rfl) <| .k (eI 1) <| .l) (by kernel_rfl)
end Go.Proofs.YtkbgidbledjejaaGreat.En
namespace Go.Proofs.YtkbgidbledjejaaGreat.En
open Go.Sy Go Go.Proofs.YtkbgidbledjejaaGreat.Ed
open Int (ofNat)
set_option maxRecDepth 100000
noncomputable def AkC:AD:=[(112,XI),(113,ggT Bp),(58,ggT Am)]
theorem AeL:Al Tryz.prog Gl AkC:=.cons AnU <| .cons p113 <| .cons p58 .nil
def AcG:Lp:=⟨bmK 95 0 [1,2,6,7,8,9,10],2,bmK 95 0 [1,2,6,7,8,9],2,1000⟩
def KR:Lp:=⟨bmK 95 0 [1,2,6,7,8,9,10,11,12,13],3,bmK 95 0 [1,2,6,7,8,9,10,11,12],3,3⟩
def PE:Lp:=⟨bmK 95 0 [1,2,6,7,8],1,bmK 95 0 [6,7],1,3⟩
def Ak9:List (Nat×Lp):=[(4,Aer 3)]
def AlW:List (Nat×Lp×List (Nat×(Nat->V))):=[(0,PE,[]),(2,AcG,[]),(6,KR,[])]
noncomputable abbrev AmC:Cx:=cxU Gl AkC Ak9 AlW
noncomputable def B98 (id:Nat):St->T (Ex×St):=λst=>A8 tab AmC (A1 Tryz.f98 id) id st
def st1 (c:Bool) (u m r:Int) (F:Bool):Int×Bool :=
 match c with
 | true=>(B5 (Am r (B5 (Bp u m))),F && okT (Bp u m) && okT (Am r (B5 (Bp u m))))
 | false=>(r,F)
theorem ML {c:Bool} {u m r:Int} {F:Bool} (hu:okG u=true) (hm:okG m=true) (hr:okG r=true):okG (st1 c u m r F).1=true:=by
 cases c with
 | true=>exact I8 (Aes (EI.1 hr).1 (W0 (FD hu hm)))
 | false=>exact hr
section
variable (a b c d n w s k:Int)
def S98 (l:List (Nat×V)) (F:Bool) (x y p q:Int):St:=⟨jsV 95 0 Ac ([(1,iV n),(2,.ptr 0 0),(6,iV w),(7,bV F),(8,iV s),(9,.ptr 1 0),(10,iV k),(11,.ptr 2 0)]++l),[.cells [iV a,iV b,iV c,iV d],.cells [iV x,iV y],.cells [iV p,iV q]]⟩
def R98 (F:Bool) (x y k:Int):St:=⟨jsV 95 0 Ac [(1,iV n),(2,.ptr 0 0),(6,iV w),(7,bV F),(8,iV s),(9,.ptr 1 0),(10,iV k)],[.cells [iV a,iV b,iV c,iV d],.cells [iV x,iV y]]⟩
def E98 (F:Bool) (x y:Int):Ex×St:=(.ex 2,⟨jsV 95 0 Ac [(1,iV n),(2,.ptr 0 0),(6,iV w),(7,bV F),(8,iV s),(9,.ptr 1 0)],[.cells [iV a,iV b,iV c,iV d],.cells [iV x,iV y]]⟩)
abbrev nk (n k:Int):Int:=wr .i64 (Ax n k)
variable {a b c d n w s k} (h0:ile 0 s=true) (h1:ile s 1=true) (h2:ile 0 (nk n k)=true) (h3:ile (nk n k) 100=true)
include h0 h1 h2 h3
theorem AiK {x y p q:Int} {F C:Bool} (gu:okG x=true) (gm:okG a=true) (gr:okG p=true) (hc:Cw a b c d 0 (toN s) (toN (nk n k))=C):Ap (B98 6) KR (S98 a b c d n w s k [(12,iV 0),(13,iV 0)] F x y p q)=some (.nm,S98 a b c d n w s k [(12,iV 0),(13,iV 1)] (st1 C x a p F).2 x y (st1 C x a p F).1 q):=by
 have gt:okG (B5 (Bp x a))=true:=I8 (FD gu gm);cases C with
 | false=>exact DW.rd (.k (show ilt 0 2=true from rfl) <| .k (show ile 0 0=true from rfl) <| .k (show ile 0 1=true from rfl) <| .k h0 <| .k h1 <| .k h2 <| .k h3 <| .k (eN hc) <| .l) (by kernel_rfl)
 | true =>
  cases F with
  | false=>exact DW.rd (.k (show ilt 0 2=true from rfl) <| .k (show ile 0 0=true from rfl) <| .k (show ile 0 1=true from rfl) <| .k h0 <| .k h1 <| .k h2 <| .k h3 <| .k (eN hc) <| .k (eI 0) <| .k (eI 0) <| .k (eI 0) <| .k gu <| .k gm <| .k (eI 0) <| .k gr <| .k gt <| .k (eI 0) <| .r 4 eF <| .e (congrArg (λF=>(Ex.nm,S98 a b c d n w s k [(12,iV 0),(13,iV 1)] F x y (B5 (Am p (B5 (Bp x a)))) q)) (rfl))) (by kernel_rfl)
  | true =>
   cases ht:okT (Bp x a) with
   | true=>exact DW.rd (.k (show ilt 0 2=true from rfl) <| .k (show ile 0 0=true from rfl) <| .k (show ile 0 1=true from rfl) <| .k h0 <| .k h1 <| .k h2 <| .k h3 <| .k (eN hc) <| .k (eI 0) <| .k (eI 0) <| .k (eI 0) <| .k gu <| .k gm <| .k (eI 0) <| .k gr <| .k gt <| .k (eI 0) <| .r 2 eT <| .r 2 ht <| .e (congrArg (λF=>(Ex.nm,S98 a b c d n w s k [(12,iV 0),(13,iV 1)] F x y (B5 (Am p (B5 (Bp x a)))) q)) (show okT (Am p (B5 (Bp x a)))=(true && okT (Bp x a) && okT (Am p (B5 (Bp x a)))) by rw [ht]; rfl))) (by kernel_rfl)
   | false=>exact DW.rd (.k (show ilt 0 2=true from rfl) <| .k (show ile 0 0=true from rfl) <| .k (show ile 0 1=true from rfl) <| .k h0 <| .k h1 <| .k h2 <| .k h3 <| .k (eN hc) <| .k (eI 0) <| .k (eI 0) <| .k (eI 0) <| .k gu <| .k gm <| .k (eI 0) <| .k gr <| .k gt <| .k (eI 0) <| .r 2 eT <| .r 2 ht <| .e (congrArg (λF=>(Ex.nm,S98 a b c d n w s k [(12,iV 0),(13,iV 1)] F x y (B5 (Am p (B5 (Bp x a)))) q)) (show false=(true && okT (Bp x a) && okT (Am p (B5 (Bp x a)))) by rw [ht]; rfl))) (by kernel_rfl)
theorem AiJ {x y p q:Int} {F C:Bool} (gu:okG x=true) (gm:okG b=true) (gr:okG q=true) (hc:Cw a b c d 1 (toN s) (toN (nk n k))=C):Ap (B98 6) KR (S98 a b c d n w s k [(12,iV 0),(13,iV 1)] F x y p q)=some (.nm,S98 a b c d n w s k [(12,iV 0),(13,iV 2)] (st1 C x b q F).2 x y p (st1 C x b q F).1):=by
 have gt:okG (B5 (Bp x b))=true:=I8 (FD gu gm);cases C with
 | false=>exact DW.rd (.k (show ilt 1 2=true from rfl) <| .k (show ile 0 1=true from rfl) <| .k (show ile 1 1=true from rfl) <| .k h0 <| .k h1 <| .k h2 <| .k h3 <| .k (eN hc) <| .l) (by kernel_rfl)
 | true =>
  cases F with
  | false=>exact DW.rd (.k (show ilt 1 2=true from rfl) <| .k (show ile 0 1=true from rfl) <| .k (show ile 1 1=true from rfl) <| .k h0 <| .k h1 <| .k h2 <| .k h3 <| .k (eN hc) <| .k (eI 0) <| .k (eI 0) <| .k (show ieq 1 0=false from rfl) <| .k (eI 1) <| .k gu <| .k gm <| .k (show ieq 1 0=false from rfl) <| .k (eI 1) <| .k gr <| .k gt <| .k (show ieq 1 0=false from rfl) <| .k (eI 1) <| .r 4 eF <| .e (congrArg (λF=>(Ex.nm,S98 a b c d n w s k [(12,iV 0),(13,iV 2)] F x y p (B5 (Am q (B5 (Bp x b)))))) (rfl))) (by kernel_rfl)
  | true =>
   cases ht:okT (Bp x b) with
   | true=>exact DW.rd (.k (show ilt 1 2=true from rfl) <| .k (show ile 0 1=true from rfl) <| .k (show ile 1 1=true from rfl) <| .k h0 <| .k h1 <| .k h2 <| .k h3 <| .k (eN hc) <| .k (eI 0) <| .k (eI 0) <| .k (show ieq 1 0=false from rfl) <| .k (eI 1) <| .k gu <| .k gm <| .k (show ieq 1 0=false from rfl) <| .k (eI 1) <| .k gr <| .k gt <| .k (show ieq 1 0=false from rfl) <| .k (eI 1) <| .r 2 eT <| .r 2 ht <| .e (congrArg (λF=>(Ex.nm,S98 a b c d n w s k [(12,iV 0),(13,iV 2)] F x y p (B5 (Am q (B5 (Bp x b)))))) (show okT (Am q (B5 (Bp x b)))=(true && okT (Bp x b) && okT (Am q (B5 (Bp x b)))) by rw [ht]; rfl))) (by kernel_rfl)
   | false=>exact DW.rd (.k (show ilt 1 2=true from rfl) <| .k (show ile 0 1=true from rfl) <| .k (show ile 1 1=true from rfl) <| .k h0 <| .k h1 <| .k h2 <| .k h3 <| .k (eN hc) <| .k (eI 0) <| .k (eI 0) <| .k (show ieq 1 0=false from rfl) <| .k (eI 1) <| .k gu <| .k gm <| .k (show ieq 1 0=false from rfl) <| .k (eI 1) <| .k gr <| .k gt <| .k (show ieq 1 0=false from rfl) <| .k (eI 1) <| .r 2 eT <| .r 2 ht <| .e (congrArg (λF=>(Ex.nm,S98 a b c d n w s k [(12,iV 0),(13,iV 2)] F x y p (B5 (Am q (B5 (Bp x b)))))) (show false=(true && okT (Bp x b) && okT (Am q (B5 (Bp x b)))) by rw [ht]; rfl))) (by kernel_rfl)
theorem AiI {x y p q:Int} {F C:Bool} (gu:okG y=true) (gm:okG c=true) (gr:okG p=true) (hc:Cw a b c d 0 (toN s) (toN (nk n k))=C):Ap (B98 6) KR (S98 a b c d n w s k [(12,iV 1),(13,iV 0)] F x y p q)=some (.nm,S98 a b c d n w s k [(12,iV 1),(13,iV 1)] (st1 C y c p F).2 x y (st1 C y c p F).1 q):=by
 have gt:okG (B5 (Bp y c))=true:=I8 (FD gu gm);cases C with
 | false=>exact DW.rd (.k (show ilt 0 2=true from rfl) <| .k (show ile 0 0=true from rfl) <| .k (show ile 0 1=true from rfl) <| .k h0 <| .k h1 <| .k h2 <| .k h3 <| .k (eN hc) <| .l) (by kernel_rfl)
 | true =>
  cases F with
  | false=>exact DW.rd (.k (show ilt 0 2=true from rfl) <| .k (show ile 0 0=true from rfl) <| .k (show ile 0 1=true from rfl) <| .k h0 <| .k h1 <| .k h2 <| .k h3 <| .k (eN hc) <| .k (show ieq 1 0=false from rfl) <| .k (eI 1) <| .k (show ieq 1 0=false from rfl) <| .k (eI 1) <| .k (eI 0) <| .k gu <| .k gm <| .k (eI 0) <| .k gr <| .k gt <| .k (eI 0) <| .r 4 eF <| .e (congrArg (λF=>(Ex.nm,S98 a b c d n w s k [(12,iV 1),(13,iV 1)] F x y (B5 (Am p (B5 (Bp y c)))) q)) (rfl))) (by kernel_rfl)
  | true =>
   cases ht:okT (Bp y c) with
   | true=>exact DW.rd (.k (show ilt 0 2=true from rfl) <| .k (show ile 0 0=true from rfl) <| .k (show ile 0 1=true from rfl) <| .k h0 <| .k h1 <| .k h2 <| .k h3 <| .k (eN hc) <| .k (show ieq 1 0=false from rfl) <| .k (eI 1) <| .k (show ieq 1 0=false from rfl) <| .k (eI 1) <| .k (eI 0) <| .k gu <| .k gm <| .k (eI 0) <| .k gr <| .k gt <| .k (eI 0) <| .r 2 eT <| .r 2 ht <| .e (congrArg (λF=>(Ex.nm,S98 a b c d n w s k [(12,iV 1),(13,iV 1)] F x y (B5 (Am p (B5 (Bp y c)))) q)) (show okT (Am p (B5 (Bp y c)))=(true && okT (Bp y c) && okT (Am p (B5 (Bp y c)))) by rw [ht]; rfl))) (by kernel_rfl)
   | false=>exact DW.rd (.k (show ilt 0 2=true from rfl) <| .k (show ile 0 0=true from rfl) <| .k (show ile 0 1=true from rfl) <| .k h0 <| .k h1 <| .k h2 <| .k h3 <| .k (eN hc) <| .k (show ieq 1 0=false from rfl) <| .k (eI 1) <| .k (show ieq 1 0=false from rfl) <| .k (eI 1) <| .k (eI 0) <| .k gu <| .k gm <| .k (eI 0) <| .k gr <| .k gt <| .k (eI 0) <| .r 2 eT <| .r 2 ht <| .e (congrArg (λF=>(Ex.nm,S98 a b c d n w s k [(12,iV 1),(13,iV 1)] F x y (B5 (Am p (B5 (Bp y c)))) q)) (show false=(true && okT (Bp y c) && okT (Am p (B5 (Bp y c)))) by rw [ht]; rfl))) (by kernel_rfl)
theorem AiH {x y p q:Int} {F C:Bool} (gu:okG y=true) (gm:okG d=true) (gr:okG q=true) (hc:Cw a b c d 1 (toN s) (toN (nk n k))=C):Ap (B98 6) KR (S98 a b c d n w s k [(12,iV 1),(13,iV 1)] F x y p q)=some (.nm,S98 a b c d n w s k [(12,iV 1),(13,iV 2)] (st1 C y d q F).2 x y p (st1 C y d q F).1):=by
 have gt:okG (B5 (Bp y d))=true:=I8 (FD gu gm);cases C with
 | false=>exact DW.rd (.k (show ilt 1 2=true from rfl) <| .k (show ile 0 1=true from rfl) <| .k (show ile 1 1=true from rfl) <| .k h0 <| .k h1 <| .k h2 <| .k h3 <| .k (eN hc) <| .l) (by kernel_rfl)
 | true =>
  cases F with
  | false=>exact DW.rd (.k (show ilt 1 2=true from rfl) <| .k (show ile 0 1=true from rfl) <| .k (show ile 1 1=true from rfl) <| .k h0 <| .k h1 <| .k h2 <| .k h3 <| .k (eN hc) <| .k (show ieq 1 0=false from rfl) <| .k (eI 1) <| .k (show ieq 1 0=false from rfl) <| .k (eI 1) <| .k (show ieq 1 0=false from rfl) <| .k (eI 1) <| .k gu <| .k gm <| .k (show ieq 1 0=false from rfl) <| .k (eI 1) <| .k gr <| .k gt <| .k (show ieq 1 0=false from rfl) <| .k (eI 1) <| .r 4 eF <| .e (congrArg (λF=>(Ex.nm,S98 a b c d n w s k [(12,iV 1),(13,iV 2)] F x y p (B5 (Am q (B5 (Bp y d)))))) (rfl))) (by kernel_rfl)
  | true =>
   cases ht:okT (Bp y d) with
   | true=>exact DW.rd (.k (show ilt 1 2=true from rfl) <| .k (show ile 0 1=true from rfl) <| .k (show ile 1 1=true from rfl) <| .k h0 <| .k h1 <| .k h2 <| .k h3 <| .k (eN hc) <| .k (show ieq 1 0=false from rfl) <| .k (eI 1) <| .k (show ieq 1 0=false from rfl) <| .k (eI 1) <| .k (show ieq 1 0=false from rfl) <| .k (eI 1) <| .k gu <| .k gm <| .k (show ieq 1 0=false from rfl) <| .k (eI 1) <| .k gr <| .k gt <| .k (show ieq 1 0=false from rfl) <| .k (eI 1) <| .r 2 eT <| .r 2 ht <| .e (congrArg (λF=>(Ex.nm,S98 a b c d n w s k [(12,iV 1),(13,iV 2)] F x y p (B5 (Am q (B5 (Bp y d)))))) (show okT (Am q (B5 (Bp y d)))=(true && okT (Bp y d) && okT (Am q (B5 (Bp y d)))) by rw [ht]; rfl))) (by kernel_rfl)
   | false=>exact DW.rd (.k (show ilt 1 2=true from rfl) <| .k (show ile 0 1=true from rfl) <| .k (show ile 1 1=true from rfl) <| .k h0 <| .k h1 <| .k h2 <| .k h3 <| .k (eN hc) <| .k (show ieq 1 0=false from rfl) <| .k (eI 1) <| .k (show ieq 1 0=false from rfl) <| .k (eI 1) <| .k (show ieq 1 0=false from rfl) <| .k (eI 1) <| .k gu <| .k gm <| .k (show ieq 1 0=false from rfl) <| .k (eI 1) <| .k gr <| .k gt <| .k (show ieq 1 0=false from rfl) <| .k (eI 1) <| .r 2 eT <| .r 2 ht <| .e (congrArg (λF=>(Ex.nm,S98 a b c d n w s k [(12,iV 1),(13,iV 2)] F x y p (B5 (Am q (B5 (Bp y d)))))) (show false=(true && okT (Bp y d) && okT (Am q (B5 (Bp y d)))) by rw [ht]; rfl))) (by kernel_rfl)
theorem Amj {x y p q:Int} {F C D:Bool} (gu:okG x=true) (gm:okG a=true) (gn:okG b=true) (gp:okG p=true) (gq:okG q=true) (hc:Cw a b c d 0 (toN s) (toN (nk n k))=C) (hd:Cw a b c d 1 (toN s) (toN (nk n k))=D):(Ay (B98 6) KR 3 (S98 a b c d n w s k [(12,iV 0),(13,iV 0)] F x y p q)).sem=some (.ex 6,S98 a b c d n w s k [(12,iV 0)] (st1 D x b q (st1 C x a p F).2).2 x y (st1 C x a p F).1 (st1 D x b q (st1 C x a p F).2).1):=by
 rw [Ae (AiK h0 h1 h2 h3 (x:=x) (y:=y) (p:=p) (q:=q) (F:=F) gu gm gp hc),AS,Ae (AiJ h0 h1 h2 h3 (x:=x) (y:=y) (p:=(st1 C x a p F).1) (q:=q) (F:=(st1 C x a p F).2) gu gn gq hd),AS];exact Ae (t:=some (.ex 6,_)) (DW.rd (.k (show ilt 2 2=false from rfl) <| .l) (by kernel_rfl))
theorem Ami {x y p q:Int} {F C D:Bool} (gu:okG y=true) (gm:okG c=true) (gn:okG d=true) (gp:okG p=true) (gq:okG q=true) (hc:Cw a b c d 0 (toN s) (toN (nk n k))=C) (hd:Cw a b c d 1 (toN s) (toN (nk n k))=D):(Ay (B98 6) KR 3 (S98 a b c d n w s k [(12,iV 1),(13,iV 0)] F x y p q)).sem=some (.ex 6,S98 a b c d n w s k [(12,iV 1)] (st1 D y d q (st1 C y c p F).2).2 x y (st1 C y c p F).1 (st1 D y d q (st1 C y c p F).2).1):=by
 rw [Ae (AiI h0 h1 h2 h3 (x:=x) (y:=y) (p:=p) (q:=q) (F:=F) gu gm gp hc),AS,Ae (AiH h0 h1 h2 h3 (x:=x) (y:=y) (p:=(st1 C y c p F).1) (q:=q) (F:=(st1 C y c p F).2) gu gn gq hd),AS];exact Ae (t:=some (.ex 6,_)) (DW.rd (.k (show ilt 2 2=false from rfl) <| .l) (by kernel_rfl))
def stp (a b c d:Int) (C D:Bool) (p:Int×Int×Bool):Int×Int×Bool :=
 ((st1 C p.2.1 c (st1 C p.1 a 0 p.2.2).1 (st1 D p.1 b 0 (st1 C p.1 a 0 p.2.2).2).2).1,(st1 D p.2.1 d (st1 D p.1 b 0 (st1 C p.1 a 0 p.2.2).2).1 (st1 C p.2.1 c (st1 C p.1 a 0 p.2.2).1 (st1 D p.1 b 0 (st1 C p.1 a 0 p.2.2).2).2).2).1,(st1 D p.2.1 d (st1 D p.1 b 0 (st1 C p.1 a 0 p.2.2).2).1 (st1 C p.2.1 c (st1 C p.1 a 0 p.2.2).1 (st1 D p.1 b 0 (st1 C p.1 a 0 p.2.2).2).2).2).2)
theorem An0 {x y:Int} {F C D:Bool} (hk:ile k n=true) (ga:okG a=true) (gb:okG b=true) (gc:okG c=true) (gd:okG d=true) (gx:okG x=true) (gy:okG y=true) (hc:Cw a b c d 0 (toN s) (toN (nk n k))=C) (hd:Cw a b c d 1 (toN s) (toN (nk n k))=D):Ap (B98 2) AcG (R98 a b c d n w s F x y k)=some (.nm,R98 a b c d n w s (stp a b c d C D (x,y,F)).2.2 (stp a b c d C D (x,y,F)).1 (stp a b c d C D (x,y,F)).2.1 (wr .i64 (Am k 1))):=by
 have z:okG 0=true:=rfl;have u:=ML (c:=C) (F:=F) gx ga z;have v:=ML (c:=D) (F:=(st1 C x a 0 F).2) gx gb z;exact DW.rd (.k hk <| .k (show ilt 0 2=true from rfl) <| .a (Amj h0 h1 h2 h3 (w:=w) (x:=x) (y:=y) (p:=0) (q:=0) (F:=F) gx ga gb z z hc hd) <| .k (show ilt 1 2=true from rfl) <| .a (Ami h0 h1 h2 h3 (w:=w) (x:=x) (y:=y) (F:=(st1 D x b 0 (st1 C x a 0 F).2).2) gy gc gd u v hc hd) <| .k (show ilt 2 2=false from rfl) <| .l) (by kernel_rfl)
end
theorem W9 {a b c d:Int} {C D:Bool} {p:Int×Int×Bool} (ga:okG a=true) (gb:okG b=true) (gc:okG c=true) (gd:okG d=true) (gx:okG p.1=true) (gy:okG p.2.1=true):okG (stp a b c d C D p).1=true∧okG (stp a b c d C D p).2.1=true:=⟨ML gy gc (ML gx ga rfl),ML gy gd (ML gx gb rfl)⟩
def LF (a b c d:Int) (s n k:Nat) (p:Int×Int×Bool):Int×Int×Bool:=stp a b c d (Cw a b c d 0 s (n-k)) (Cw a b c d 1 s (n-k)) p
def Dk (a b c d:Int) (s n:Nat):Nat->Nat->Int×Int×Bool->Int×Int×Bool
 | 0,_,p=>p
 | e+1,k,p=>Dk a b c d s n e (k+1) (LF a b c d s n k p)
theorem MQ {a b c d:Int} (ga:okG a=true) (gb:okG b=true) (gc:okG c=true) (gd:okG d=true) (s n:Nat):∀ (e k:Nat) (p:Int×Int×Bool),okG p.1=true->okG p.2.1=true->okG (Dk a b c d s n e k p).1=true∧okG (Dk a b c d s n e k p).2.1=true
 | 0,_,_,hx,hy=>⟨hx,hy⟩
 | e+1,k,p,hx,hy=>by
  have h:=W9 (C:=Cw a b c d 0 s (n-k)) (D:=Cw a b c d 1 s (n-k)) ga gb gc gd hx hy;exact MQ ga gb gc gd s n e (k+1) _ h.1 h.2
theorem Aij {n k:Nat} (h:k <= n) (hn:n <= 1000):nk (ofNat n) (ofNat k)=ofNat (n-k):=by
 unfold nk wr Ax IntKind.wrap;simp [IntKind.bits,IntKind.signed];omega
theorem AbL {a b c d w:Int} (ga:okG a=true) (gb:okG b=true) (gc:okG c=true) (gd:okG d=true) {n s:Nat} (hn:n <= 16) (hs:s <= 1):∀ (e k:Nat) (p:Int×Int×Bool) (M:Nat),n+1=k+e->e<M->okG p.1=true->okG p.2.1=true ->
  (Ay (B98 2) AcG M (R98 a b c d (ofNat n) w (ofNat s) p.2.2 p.1 p.2.1 (ofNat k))).sem=some (E98 a b c d (ofNat n) w (ofNat s) (Dk a b c d s n e k p).2.2 (Dk a b c d s n e k p).1 (Dk a b c d s n e k p).2.1)
 | 0,k,p,M,h,hM,hx,hy=>by
  obtain ⟨M,rfl⟩:∃ o,M=o+1:=⟨M-1,by omega⟩;have hi:ile (ofNat k) (ofNat n)=false:=decide_eq_false (by show ¬ (k:Int) <= (n:Int); omega);exact Ae (t:=some (.ex 2,_)) (DW.rd (.k hi <| .l) (by kernel_rfl))
 | e+1,k,p,M,h,hM,hx,hy=>by
  obtain ⟨M,rfl⟩:∃ o,M=o+1:=⟨M-1,by omega⟩;have hi:ile (ofNat k) (ofNat n)=true:=decide_eq_true (by show (k:Int) <= (n:Int); omega);have hw:=Aij (n:=n) (k:=k) (by omega) (by omega);have g:=W9 (C:=Cw a b c d 0 s (n-k)) (D:=Cw a b c d 1 s (n-k)) ga gb gc gd hx hy;have hr:=An0 (w:=w) (F:=p.2.2) (n:=ofNat n) (k:=ofNat k) (s:=ofNat s) (decide_eq_true (Int.natCast_nonneg s)) (decide_eq_true (by show (s:Int) <= (1:Int); omega)) (by rw [hw]; exact decide_eq_true (Int.natCast_nonneg _)) (by rw [hw]; exact decide_eq_true (by show ((n-k:Nat):Int) <= (100:Int); omega)) hi ga gb gc gd hx hy rfl rfl;rw [Ae hr,AS,C2 (by omega),hw];exact AbL ga gb gc gd hn hs e (k+1) (LF a b c d s n k p) M (by omega) (by omega) g.1 g.2
def Ho (a b c d:Int) (n:Nat):Int×Bool :=
 (B5 (Am 0 (Dk a b c d 0 n n 1 (1,0,true)).1),(Dk a b c d 0 n n 1 (1,0,true)).2.2 && okT (Am 0 (Dk a b c d 0 n n 1 (1,0,true)).1))
def OO (a b c d:Int) (n:Nat):Int×Bool :=
 (B5 (Am (Ho a b c d n).1 (Dk a b c d 1 n n 1 (0,1,(Ho a b c d n).2)).2.1),(Dk a b c d 1 n n 1 (0,1,(Ho a b c d n).2)).2.2 && okT (Am (Ho a b c d n).1 (Dk a b c d 1 n n 1 (0,1,(Ho a b c d n).2)).2.1))
def SH (a b c d n w:Int) (F:Bool) (s:Int):St:=⟨jsV 95 0 Ac [(1,iV n),(2,.ptr 0 0),(6,iV w),(7,bV F),(8,iV s)],[.cells [iV a,iV b,iV c,iV d]]⟩
def Ane (a b c d w:Int) (F:Bool):Ex×St:=(.ex 0,⟨jsV 95 0 Ac [(6,iV w),(7,bV F)],[.cells [iV a,iV b,iV c,iV d]]⟩)
theorem Ald {a b c d n w x y:Int} {F G:Bool} (hr:(Ay (B98 2) AcG 1000 (R98 a b c d n w 0 F 1 0 1)).sem=some (E98 a b c d n w 0 G x y)) (gw:okG w=true) (gx:okG x=true):Ap (B98 0) PE (SH a b c d n w F 0)=some (.nm,SH a b c d n (B5 (Am w x)) (G && okT (Am w x)) 1):=by
 cases G with
 | true=>exact DW.rd (.k (show ilt 0 2=true from rfl) <| .k (eI 0) <| .a hr <| .k (eI 0) <| .k gw <| .k gx <| .r 2 eT <| .l) (by kernel_rfl)
 | false=>exact DW.rd (.k (show ilt 0 2=true from rfl) <| .k (eI 0) <| .a hr <| .k (eI 0) <| .k gw <| .k gx <| .r 2 eF <| .l) (by kernel_rfl)
theorem Alc {a b c d n w x y:Int} {F G:Bool} (hr:(Ay (B98 2) AcG 1000 (R98 a b c d n w 1 F 0 1 1)).sem=some (E98 a b c d n w 1 G x y)) (gw:okG w=true) (gy:okG y=true):Ap (B98 0) PE (SH a b c d n w F 1)=some (.nm,SH a b c d n (B5 (Am w y)) (G && okT (Am w y)) 2):=by
 cases G with
 | true=>exact DW.rd (.k (show ilt 1 2=true from rfl) <| .k (show ieq 1 0=false from rfl) <| .k (eI 1) <| .a hr <| .k (show ieq 1 0=false from rfl) <| .k (eI 1) <| .k gw <| .k gy <| .r 2 eT <| .l) (by kernel_rfl)
 | false=>exact DW.rd (.k (show ilt 1 2=true from rfl) <| .k (show ieq 1 0=false from rfl) <| .k (eI 1) <| .a hr <| .k (show ieq 1 0=false from rfl) <| .k (eI 1) <| .k gw <| .k gy <| .r 2 eF <| .l) (by kernel_rfl)
def Abh:List V->A3
 | [.agg [.val (.int .i64 a),.val (.int .i64 b),.val (.int .i64 c),.val (.int .i64 d)],.val (.int .i64 n)]=>.br (okG a) (.br (okG b) (.br (okG c) (.br (okG d) (.br (ile 1 n) (.br (ile n 16) (.leaf (.tup [iV (OO a b c d (toN n)).1,bV (OO a b c d (toN n)).2],[])) .fail) .fail) .fail) .fail) .fail) .fail
 | _=>.fail
theorem p98:Ar Tryz.prog Gl 98 Abh:=by
 refine Ah A0 mixed Tryz.func98 (by kernel_rfl) (by kernel_rfl) λvs v h' h=>?_;unfold Abh at h;split at h
 rotate_left
 ·cases h
 rename_i a b c d n;obtain ⟨ga,h⟩:=Ab h;obtain ⟨gb,h⟩:=Ab h;obtain ⟨gc,h⟩:=Ab h;obtain ⟨gd,h⟩:=Ab h;obtain ⟨g5,h⟩:=Ab h;obtain ⟨g6,h⟩:=Ab h;cases Aa h;have g5:(1:Int) <= n:=of_decide_eq_true g5;have g6:n <= (16:Int):=of_decide_eq_true g6;obtain ⟨n,rfl⟩:=Int.eq_ofNat_of_zero_le (show (0:Int) <= n by omega);have hx:=XF AeL Ak9 AlW (G:=Gl);refine ⟨_,AmC,_,B2.refl _,rfl,hx.1,hx.2,?_,As.refl _⟩;have g1:okG 1=true:=rfl;have g0:okG 0=true:=rfl;have k0:=(MQ ga gb gc gd 0 n n 1 (1,0,true) g1 g0).1;have r0:=AbL (w:=0) ga gb gc gd (n:=n) (s:=0) (by omega) (by omega) n 1 (1,0,true) 1000 (by omega) (by omega) g1 g0;have v1:okG (Ho a b c d n).1=true:=I8 (Aes (Int.le_refl 0) (EI.1 k0).1);have k1:=(MQ ga gb gc gd 1 n n 1 (0,1,(Ho a b c d n).2) g0 g1).2;have r1:=AbL (w:=(Ho a b c d n).1) ga gb gc gd (n:=n) (s:=1) (by omega) (by omega) n 1 (0,1,(Ho a b c d n).2) 1000 (by omega) (by omega) g0 g1;have hl:(Ay (B98 0) PE 3 (SH a b c d (ofNat n) 0 true 0)).sem=some (Ane a b c d (OO a b c d n).1 (OO a b c d n).2):=by
  rw [Ae (Ald r0 g0 k0),AS];show (Ay (B98 0) PE 2 (SH a b c d (ofNat n) (Ho a b c d n).1 (Ho a b c d n).2 1)).sem=_;rw [Ae (Alc (F:=(Ho a b c d n).2) r1 v1 k1),AS];exact Ae (t:=some (.ex 0,_)) (DW.rd (.k (show ilt 2 2=false from rfl) <| .l) (by kernel_rfl))
 exact DW.ok (.a hl <| .l) (by kernel_rfl)
end Go.Proofs.YtkbgidbledjejaaGreat.En
