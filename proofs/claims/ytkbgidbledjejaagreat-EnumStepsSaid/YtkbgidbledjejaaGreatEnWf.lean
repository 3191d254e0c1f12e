/-
  Layer 5: numbers up to 2^63: sums, products, as an int. No conditions.
-/
import Derived.Test.YtkbgidbledjejaaGreatEnWb
import Derived.Laws.MathBits
namespace Go.Proofs.YtkbgidbledjejaaGreat.En
open Go.Sy Go Go.Proofs.YtkbgidbledjejaaGreat.Ed
set_option maxRecDepth 100000
def gU:V->Option Int
 | .val (.int .u64 n)=>some n
 | _=>none
theorem Mf {v:V} {n:Int} (h:gU v=some n):v = .val (.int .u64 n):=by
 unfold gU at h;split at h
 ·simp at h; subst h; rfl
 ·cases h
def uV (n:Int):V:=.val (.int .u64 n)
def t0:AD:=[]
theorem Ab5:Al Tryz.prog Gl t0:=.nil
def okU (x:Int):Bool:=decide (0 <= x) && decide (x <= 9223372036854775808)
def BM (x y:Int):Int:=if 9223372036854775808 <= x * y then 9223372036854775808 else x * y
def Jv (x y:Int):Int:=x * y / 18446744073709551616
def NN (x y:Int):Int:=x * y % 18446744073709551616
theorem DJ {x:Int}:okU x=true↔0 <= x∧x <= 9223372036854775808:=by simp [okU]
theorem Ae7 (x:Int):wr .u64 x=x % 18446744073709551616:=by
 unfold wr IntKind.wrap;simp [IntKind.bits,IntKind.signed]
theorem Ad2:∀ v a,gU v=some a->v=uV a:=λ_ _ h=>Mf h
def uuT (F:Int->Int->V):List V->A3:=ap2 gU gU λx y=>.br (okU x) (.br (okU y) (out (F x y)) .fail) .fail
theorem OS {F:Int->Int->V} {vs:List V} {r:V×List Blk} (h:(uuT F vs).sem=some r):∃ x y,vs=[uV x,uV y]∧okU x=true∧okU y=true∧r=(F x y,[]):=by
 obtain ⟨x,y,rfl,h⟩:=Hi Ad2 Ad2 h;obtain ⟨h1,h⟩:=Ab h;obtain ⟨h2,h⟩:=Ab h;exact ⟨x,y,rfl,h1,h2,Aa h⟩
theorem AeC (x y:Int):(AM (Au tab (BQ Gl t0 []) Tryz.f118 [uV x,uV y] [])).sem=sel (ile (wr IntKind.u64 (Ax 9223372036854775808 y)) x) (some (uV 9223372036854775808,[])) (some (uV (wr IntKind.u64 (Am x y)),[])):=by kernel_rfl
theorem Acr:Ar Tryz.prog Gl 118 (uuT λx y=>uV (BY x y)):=by
 refine Ar.congr (AN A0 mixed Tryz.func118 (by kernel_rfl) (by kernel_rfl) (Γ:=BQ Gl t0 []) (Bu Ab5 _)) λvs r h=>?_;obtain ⟨x,y,rfl,h1,h2,rfl⟩:=OS h;have h1:=DJ.1 h1;have h2:=DJ.1 h2;refine (AeC x y).trans ?_;have e1:wr IntKind.u64 (Ax 9223372036854775808 y)=9223372036854775808-y:=by rw [Ae7]; unfold Ax; omega
 rw [e1];unfold BY;by_cases hc:9223372036854775808 <= x+y
 ·rw [if_pos hc,O5 (by omega)]
  rfl
 ·rw [if_neg hc,Vq (by omega)]
  have e2:wr IntKind.u64 (Am x y)=x+y:=by rw [Ae7]; unfold Am; omega
  rw [e2];rfl
theorem AeA (x y:Int):(AM (Au tab (BQ Gl t0 []) Tryz.f124 [uV x,uV y] [])).sem=some (.tup [uV (wr IntKind.u64 (Am (wr IntKind.u64 (Am (wr IntKind.u64 (Bp (Nl IntKind.u64 x 32) (Nl IntKind.u64 y 32))) (Nl IntKind.u64 (wr IntKind.u64 (Am (wr IntKind.u64 (Bp (Nl IntKind.u64 x 32) (GY BinOp.and IntKind.u64 y 4294967295))) (Nl IntKind.u64 (wr IntKind.u64 (Bp (GY BinOp.and IntKind.u64 x 4294967295) (GY BinOp.and IntKind.u64 y 4294967295))) 32))) 32))) (Nl IntKind.u64 (wr IntKind.u64 (Am (GY BinOp.and IntKind.u64 (wr IntKind.u64 (Am (wr IntKind.u64 (Bp (Nl IntKind.u64 x 32) (GY BinOp.and IntKind.u64 y 4294967295))) (Nl IntKind.u64 (wr IntKind.u64 (Bp (GY BinOp.and IntKind.u64 x 4294967295) (GY BinOp.and IntKind.u64 y 4294967295))) 32))) 4294967295) (wr IntKind.u64 (Bp (GY BinOp.and IntKind.u64 x 4294967295) (Nl IntKind.u64 y 32))))) 32))),uV (wr IntKind.u64 (Bp x y))],[]):=by kernel_rfl
theorem AkW (x:Int):Nl IntKind.u64 x 32=x / 4294967296:=by
 have:Nl IntKind.u64 x 32=x.fdiv 4294967296:=rfl;rw [this,Int.fdiv_eq_ediv_of_nonneg x (by omega)]
theorem AnO:Ar Tryz.prog Gl 124 (uuT λx y=>.tup [uV (Jv x y),uV (NN x y)]):=by
 refine Ar.congr (AN A0 mixed Tryz.func124 (by kernel_rfl) (by kernel_rfl) (Γ:=BQ Gl t0 []) (Bu Ab5 _)) λvs r h=>?_;obtain ⟨x,y,rfl,h1,h2,rfl⟩:=OS h;have h1:=DJ.1 h1;have h2:=DJ.1 h2;refine (AeA x y).trans ?_;have a1:GY BinOp.and IntKind.u64 x 4294967295=x % 4294967296:=and_low32 x h1.1 (by omega);have a2:GY BinOp.and IntKind.u64 y 4294967295=y % 4294967296:=and_low32 y h2.1 (by omega);have a3:∀ z:Int,0 <= z->z<18446744073709551616->GY BinOp.and IntKind.u64 z 4294967295=z % 4294967296:=λz q1 q2=>and_low32 z q1 q2;have hm:=mul64_arith x y h1.1 (by omega) h2.1 (by omega);simp only [AkW,a1,a2,Ae7,Bp,Am];rw [a3 _ (Int.emod_nonneg _ (by omega)) (Int.emod_lt_of_pos _ (by omega)),hm];rfl
noncomputable def AhX:AD:=[(124,uuT λx y=>.tup [uV (Jv x y),uV (NN x y)]),(118,uuT λx y=>uV (BY x y))]
theorem AeK:Al Tryz.prog Gl AhX:=.cons AnO <| .cons Acr .nil
theorem AeB (x y:Int):(AM (Au tab (BQ Gl AhX []) Tryz.f122 [uV x,uV y] [])).sem=(sel (okU x) (sel (okU y) (sel (ilt 0 (Jv x y)) (sel (ilt 0 (Jv x y)) (sel (ilt 0 (Jv x y)) (some ((uV 9223372036854775808),[])) none) none) (sel (ilt 0 (Jv x y)) (sel (ilt 0 (Jv x y)) (some ((uV 9223372036854775808),[])) none) (sel (ilt 0 (Jv x y)) (some ((uV 9223372036854775808),[])) (sel (ilt 9223372036854775808 (NN x y)) (some ((uV 9223372036854775808),[])) (some ((uV (NN x y)),[])))))) none) none):=by kernel_rfl
theorem AnP:Ar Tryz.prog Gl 122 (uuT λx y=>uV (BM x y)):=by
 refine Ar.congr (AN A0 mixed Tryz.func122 (by kernel_rfl) (by kernel_rfl) (Γ:=BQ Gl AhX []) (Bu AeK _)) λvs r h=>?_;obtain ⟨x,y,rfl,h1,h2,rfl⟩:=OS h;refine (AeB x y).trans ?_;rw [h1,h2];have h1:=DJ.1 h1;have h2:=DJ.1 h2;have hp:0 <= x * y:=Int.mul_nonneg h1.1 h2.1;unfold BM;have hi:Jv x y=x * y / 18446744073709551616:=rfl;have lo:NN x y=x * y % 18446744073709551616:=rfl;generalize x * y=p at *;by_cases hc:18446744073709551616 <= p
 ·rw [IA (show 0<Jv x y by rw [hi]; omega),if_pos (by omega)]
  rfl
 ·rw [GV (show Jv x y <= 0 by rw [hi]; omega)]
  by_cases hd:9223372036854775808<p
  ·rw [IA (show 9223372036854775808<NN x y by rw [lo]; omega),if_pos (by omega)]
   rfl
  ·rw [GV (show NN x y <= 9223372036854775808 by rw [lo]; omega)]
   have e:NN x y=p:=by rw [lo]; omega
   rw [e];by_cases hz:9223372036854775808 <= p
   ·have:p=9223372036854775808:=by omega
    rw [if_pos hz,this];rfl
   ·rw [if_neg hz]
    rfl
theorem AhS (x:Int):(AM (Au tab (BQ Gl t0 []) Tryz.f97 [uV x] [])).sem=(sel (ile 9223372036854775808 x) (some ((.tup [iV 0,iV 3]),[])) (some ((.tup [iV (wr .i64 x),iV 0]),[]))):=by kernel_rfl
def AbA:List V->A3:=ap1 gU λx=>.br (okU x) (.br (ile 9223372036854775808 x) (out (.tup [iV 0,iV 3])) (out (.tup [iV x,iV 0]))) .fail
theorem AnC:Ar Tryz.prog Gl 97 AbA:=by
 refine Ar.congr (AN A0 mixed Tryz.func97 (by kernel_rfl) (by kernel_rfl) (Γ:=BQ Gl t0 []) (Bu Ab5 _)) λvs r h=>?_;obtain ⟨x,rfl,h⟩:=M9 Ad2 h;obtain ⟨h1,h⟩:=Ab h;have h1:=DJ.1 h1;refine (AhS x).trans ?_;by_cases hc:9223372036854775808 <= x
 ·rw [O5 hc] at h ⊢
  rw [Aa h];rfl
 ·rw [Vq (by omega)] at h ⊢
  rw [Aa h];have e:wr .i64 x=x:=by
   unfold wr IntKind.wrap;simp [IntKind.bits,IntKind.signed];omega
  rw [e];rfl
end Go.Proofs.YtkbgidbledjejaaGreat.En
namespace Go.Proofs.YtkbgidbledjejaaGreat.En
open Go.Sy Go Go.Proofs.YtkbgidbledjejaaGreat.Ed
set_option maxRecDepth 100000
def Di (n:Nat):List (Nat×Lp):=[(0,⟨[],1000,[],1000,n⟩),(1,⟨[],1000,[],1000,n⟩),(2,⟨[],1000,[],1000,n⟩),(3,⟨[],1000,[],1000,n⟩),(4,⟨[],1000,[],1000,n⟩),(5,⟨[],1000,[],1000,n⟩),(6,⟨[],1000,[],1000,n⟩),(7,⟨[],1000,[],1000,n⟩),(8,⟨[],1000,[],1000,n⟩)]
noncomputable def AeJ:AD:=[(122,uuT λx y=>uV (BM x y)),(118,uuT λx y=>uV (BY x y))]
theorem AeI:Al Tryz.prog Gl AeJ:=.cons AnP <| .cons Acr .nil
theorem AeD (a0 a1 a2 a3 b0 b1 b2 b3:Int):(AM (Au tab (BQ Gl AeJ (Di 10)) Tryz.f117 [.agg [uV a0,uV a1,uV a2,uV a3],.agg [uV b0,uV b1,uV b2,uV b3]] [])).sem =
 (sel (okU a0) (sel (okU b0) (sel (okU 0) (sel (okU (BM a0 b0)) (sel (okU a1) (sel (okU b2) (sel (okU (BY 0 (BM a0 b0))) (sel (okU (BM a1 b2)) (sel (okU a0) (sel (okU b1) (sel (okU 0) (sel (okU (BM a0 b1)) (sel (okU a1) (sel (okU b3) (sel (okU (BY 0 (BM a0 b1))) (sel (okU (BM a1 b3)) (sel (okU a2) (sel (okU b0) (sel (okU 0) (sel (okU (BM a2 b0)) (sel (okU a3) (sel (okU b2) (sel (okU (BY 0 (BM a2 b0))) (sel (okU (BM a3 b2)) (sel (okU a2) (sel (okU b1) (sel (okU 0) (sel (okU (BM a2 b1)) (sel (okU a3) (sel (okU b3) (sel (okU (BY 0 (BM a2 b1))) (sel (okU (BM a3 b3)) (some ((.agg [uV (BY (BY 0 (BM a0 b0)) (BM a1 b2)),uV (BY (BY 0 (BM a0 b1)) (BM a1 b3)),uV (BY (BY 0 (BM a2 b0)) (BM a3 b2)),uV (BY (BY 0 (BM a2 b1)) (BM a3 b3))]),[])) none) none) none) none) none) none) none) none) none) none) none) none) none) none) none) none) none) none) none) none) none) none) none) none) none) none) none) none) none) none) none) none):=by kernel_rfl
theorem DU {x y:Int} (hx:okU x=true) (hy:okU y=true):okU (BY x y)=true:=by
 have hx:=DJ.1 hx;have hy:=DJ.1 hy;refine DJ.2 ?_;unfold BY;split <;> omega
theorem EA {x y:Int} (hx:okU x=true) (hy:okU y=true):okU (BM x y)=true:=by
 have hx:=DJ.1 hx;have hy:=DJ.1 hy;have hp:0 <= x * y:=Int.mul_nonneg hx.1 hy.1;refine DJ.2 ?_;unfold BM;split <;> omega
structure M4 where
 a:Int
 b:Int
 c:Int
 d:Int
def M4.ok (m:M4):Bool:=okU m.a && (okU m.b && (okU m.c && okU m.d))
def M4.v (m:M4):V:=.agg [uV m.a,uV m.b,uV m.c,uV m.d]
def M4.mul (m k:M4):M4:=⟨BY (BY 0 (BM m.a k.a)) (BM m.b k.c),BY (BY 0 (BM m.a k.b)) (BM m.b k.d),BY (BY 0 (BM m.c k.a)) (BM m.d k.c),BY (BY 0 (BM m.c k.b)) (BM m.d k.d)⟩
theorem M4.ok_iff {m:M4}:m.ok=true↔okU m.a=true∧okU m.b=true∧okU m.c=true∧okU m.d=true:=by simp [M4.ok]
theorem M4.ok_mul {m k:M4} (hm:m.ok=true) (hk:k.ok=true):(m.mul k).ok=true:=by
 obtain ⟨a1,a2,a3,a4⟩:=M4.ok_iff.1 hm;obtain ⟨b1,b2,b3,b4⟩:=M4.ok_iff.1 hk;have z:okU 0=true:=rfl;exact M4.ok_iff.2 ⟨DU (DU z (EA a1 b1)) (EA a2 b3),DU (DU z (EA a1 b2)) (EA a2 b4),DU (DU z (EA a3 b1)) (EA a4 b3),DU (DU z (EA a3 b2)) (EA a4 b4)⟩
theorem Abs (m k:M4) (hm:m.ok=true) (hk:k.ok=true):(AM (Au tab (BQ Gl AeJ (Di 10)) Tryz.f117 [m.v,k.v] [])).sem=some ((m.mul k).v,[]):=by
 obtain ⟨a1,a2,a3,a4⟩:=M4.ok_iff.1 hm;obtain ⟨b1,b2,b3,b4⟩:=M4.ok_iff.1 hk;have z:okU 0=true:=rfl;have hP:=fun {x y:Int} (hx:okU x=true) (hy:okU y=true)=>EA hx hy;have hS:=fun {x y:Int} (hx:okU x=true) (hy:okU y=true)=>DU (DU z hx) hy;refine (AeD m.a m.b m.c m.d k.a k.b k.c k.d).trans ?_;simp only [a1,a2,a3,a4,b1,b2,b3,b4,z,EA,DU,GM];rfl
def gM:V->Option M4
 | .agg [a,b,c,d]=>match gU a,gU b,gU c,gU d with
  | some a,some b,some c,some d=>some ⟨a,b,c,d⟩
  | _,_,_,_=>none
 | _=>none
theorem Aho:∀ v m,gM v=some m->v=m.v:=by
 intro v m h;unfold gM at h;split at h
 ·split at h
  ·rename_i h1 h2 h3 h4
   simp only [Option.some.injEq] at h;subst h;rw [Mf h1,Mf h2,Mf h3,Mf h4];rfl
  ·cases h
 ·cases h
def AlT:List V->A3:=ap2 gM gM λm k=>.br m.ok (.br k.ok (out (m.mul k).v) .fail) .fail
theorem AnR:Ar Tryz.prog Gl 117 AlT:=by
 refine Ar.congr (AN A0 mixed Tryz.func117 (by kernel_rfl) (by kernel_rfl) (Γ:=BQ Gl AeJ (Di 10)) (Bu AeI _)) λvs r h=>?_;obtain ⟨m,k,rfl,h⟩:=Hi Aho Aho h;obtain ⟨h1,h⟩:=Ab h;obtain ⟨h2,h⟩:=Ab h;rw [Aa h];exact Abs m k h1 h2
end Go.Proofs.YtkbgidbledjejaaGreat.En
namespace Go.Proofs.YtkbgidbledjejaaGreat.En
open Go.Sy Go Go.Proofs.YtkbgidbledjejaaGreat.Ed
open Int (ofNat)
set_option maxRecDepth 100000
def Ags (us:List (Nat×Lp)) (ls:List (Nat×Lp×List (Nat×(Nat->V)))) (id:Nat) (f:St->T (Ex×St)) (st:St):T (Ex×St) :=
 match Jy id us with
 | some l=>Ay f l l.fuel st
 | none=>C3 ls id f st
theorem Agr (c:FuncId->List V->St->T (V×Res)) (G:Nat->V) (us:List (Nat×Lp)) (ls:List (Nat×Lp×List (Nat×(Nat->V)))):BX ⟨c,Ags us ls,G⟩:=λid f st r hr=>by
 have hr:(Ags us ls id f st).sem=some r:=hr;unfold Ags at hr;split at hr
 ·exact .run (GE hr)
 ·exact M8 c G ls id f st r hr
def cxU (G:Nat->V) (tbl:AD) (us:List (Nat×Lp)) (ls:List (Nat×Lp×List (Nat×(Nat->V)))):Cx:=⟨A9 tbl,Ags us ls,G⟩
theorem XF {P:Program} {G:Nat->V} {tbl:AD} (h:Al P G tbl) (us:List (Nat×Lp)) (ls:List (Nat×Lp×List (Nat×(Nat->V)))):AY P (cxU G tbl us ls).base∧BX (cxU G tbl us ls):=⟨Ek rfl h,Agr _ _ _ _⟩
def Aer (n:Nat):Lp:=⟨[],1000,[],1000,n⟩
theorem N4.one_mul (m:N4):N4.one.mul m=m:=by
 cases m;simp [N4.one,N4.mul]
theorem N4.pow_one (m:N4):m.pow 1=m:=N4.one_mul m
def CC (x:Int):Int:=if 9223372036854775808 <= x then 9223372036854775808 else x
theorem Pk {x y:Int} (hx:0 <= x) (hy:0 <= y):BY (CC x) (CC y)=CC (x+y):=by
 unfold BY CC;split <;> split <;> split <;> (try split) <;> omega
theorem JM {x:Int} (h:x<9223372036854775808):CC x=x:=by
 unfold CC;rw [if_neg (by omega)]
theorem UK {x y:Int} (hx:0 <= x) (hy:0 <= y):BM (CC x) (CC y)=CC (x * y):=by
 rcases Int.lt_or_le 0 x with hx1 | hx1
 ·rcases Int.lt_or_le 0 y with hy1 | hy1
  ·have e1:x <= x * y:=by
    have:=Int.mul_le_mul_of_nonneg_left (show 1 <= y by omega) hx;omega
   have e2:y <= x * y:=by
    have:=Int.mul_le_mul_of_nonneg_right (show 1 <= x by omega) hy;omega
   by_cases h1:9223372036854775808 <= x
   ·have p:CC x=9223372036854775808:=if_pos h1
    have q:CC (x * y)=9223372036854775808:=if_pos (by omega);have r:1 <= CC y:=by unfold CC; split <;> omega
    rw [p,q];unfold BM;rw [if_pos (by omega)]
   ·by_cases h2:9223372036854775808 <= y
    ·have p:CC y=9223372036854775808:=if_pos h2
     have q:CC (x * y)=9223372036854775808:=if_pos (by omega);have r:1 <= CC x:=by unfold CC; split <;> omega
     rw [p,q];unfold BM;rw [if_pos (by omega)]
    ·rw [JM (by omega),JM (by omega)]
     rfl
  ·have:y=0:=by omega
   subst this;rw [Int.mul_zero];unfold BM;rw [show CC 0=0 from rfl,Int.mul_zero];rfl
 ·have:x=0:=by omega
  subst this;rw [Int.zero_mul];unfold BM;rw [show CC 0=0 from rfl,Int.zero_mul];rfl
def N4.s (m:N4):M4:=⟨CC (ofNat m.a),CC (ofNat m.b),CC (ofNat m.c),CC (ofNat m.d)⟩
theorem N4.s_mul (m k:N4):m.s.mul k.s=(m.mul k).s:=by
 have h:∀ x y z u:Nat,BY (BY 0 (BM (CC (ofNat x)) (CC (ofNat y)))) (BM (CC (ofNat z)) (CC (ofNat u)))=CC (ofNat (x * y+z * u)):=λx y z u=>by
  have p1:(0:Int) <= ofNat x * ofNat y:=Int.mul_nonneg (by simp) (by simp);have p2:(0:Int) <= ofNat z * ofNat u:=Int.mul_nonneg (by simp) (by simp);have e:ofNat (x * y+z * u)=ofNat x * ofNat y+ofNat z * ofNat u:=by simp
  rw [e,UK (by simp) (by simp),UK (by simp) (by simp),show BY 0=BY (CC 0) from rfl,Pk (by omega) p1,Int.zero_add,Pk p1 p2]
 unfold M4.mul N4.s N4.mul;simp only [h]
theorem I7 (x:Nat):okU (CC (ofNat x))=true:=by
 rw [DJ];have:(0:Int) <= ofNat x:=by simp
 unfold CC;split <;> omega
theorem N4.s_ok (m:N4):m.s.ok=true:=M4.ok_iff.2 ⟨I7 _,I7 _,I7 _,I7 _⟩
theorem N4.s_tr (m:N4):BY m.s.a m.s.d=CC (ofNat m.tr):=by
 show BY (CC _) (CC _)=_;rw [Pk (by simp) (by simp)];unfold N4.tr;simp
def WS (m:N4):Nat->Nat->V
 | 0=>λi=>nth [uV 0] i
 | t+1=>AE (t+1) (WS m t) (uV (CC (trI m (t+1))))
def wN (m:N4):Nat->Int
 | 0=>0
 | t+1=>CC (trI m (t+1))
theorem UO (m:N4):∀ t i,i<t+1->WS m t i=uV (wN m i)
 | 0,i,h=>by
  obtain rfl:i=0:=by omega
  rfl
 | t+1,i,h=>by
  show AE (t+1) (WS m t) _ i=_;rw [Ca];by_cases hi:i=t+1
  ·subst hi
   rw [Nat.beq_refl];rfl
  ·rw [show Nat.beq i (t+1)=false from (Bool.eq_false_iff.2 λh=>hi (Nat.eq_of_beq_eq_true h))]
   exact UO m t i (by omega)
noncomputable def AkB:AD:=[(117,AlT),(118,uuT λx y=>uV (BY x y))]
theorem AeH:Al Tryz.prog Gl AkB:=.cons AnR <| .cons Acr .nil
def Ahi:Lp:=⟨bmK 52 0 [1,2,4,5,6,11],4,bmK 52 0 [1,2,4,5,6],4,3⟩
def YA:Lp:=⟨bmK 52 0 [1,2,4,5,6,9,10],5,bmK 52 0 [9],5,1000⟩
def AgG:List (Nat×Lp):=[(2,Aer 3)]
def Ahd:List (Nat×Lp×List (Nat×(Nat->V))):=[(0,Ahi,[]),(4,YA,[])]
noncomputable abbrev Ah0:Cx:=cxU Gl AkB AgG Ahd
noncomputable def Anm (id:Nat):St->T (Ex×St):=λst=>A8 tab Ah0 (A1 Tryz.f111 id) id st
def V6 (a b c d:Int) (m p:M4):List Blk:=[.cells [iV a,iV b,iV c,iV d],.row 108 1 0 Ac,.cells [uV m.a,uV m.b,uV m.c,uV m.d],.cells [uV p.a,uV p.b,uV p.c,uV p.d]]
def Ao4 (n:Int) (H:List Blk):St:=⟨jsV 52 0 Ac [(1,iV n),(2,.ptr 0 0),(4,.ref 1),(5,.ptr 2 0),(6,.ptr 3 0)],H⟩
def z4:M4:=⟨0,0,0,0⟩
theorem Aon (a b c d n:Int) {m:M4} (ha:wr .u64 a=m.a) (hb:wr .u64 b=m.b) (hc:wr .u64 c=m.c) (hd:wr .u64 d=m.d):(Ay (Anm 0) Ahi 3 ⟨jsV 52 0 Ac [(1,iV n),(2,.ptr 0 0),(4,.ref 1),(5,.ptr 2 0),(6,.ptr 3 0),(11,iV 0)],V6 a b c d z4 z4⟩).sem=some (.ex 0,Ao4 n (V6 a b c d m z4)):=by
 unfold V6;rw [<- ha,<- hb,<- hc,<- hd]
 kernel_rfl
def AjW (a b c d n:Int) (m p:M4) (k:Nat) (x:Nat->V) (i:Int):St:=⟨jsV 52 0 Ac [(1,iV n),(2,.ptr 0 0),(4,.ref 1),(5,.ptr 2 0),(6,.ptr 3 0),(9,.ref 4),(10,iV i)],V6 a b c d m p++[.row 108 1 k x]⟩
def Ao9 (a b c d:Int) (m p:M4) (k:Nat) (x:Nat->V):Ex×St:=(.ex 4,⟨jsV 52 0 Ac [(9,.ref 4)],V6 a b c d m p++[.row 108 1 k x]⟩)
def pwS (m:N4):Nat->M4
 | 0=>m.s
 | t+1=>(m.pow (t+1)).s
def AmU (a b c d n:Int) (m:N4) (t:Nat):St:=AjW a b c d n m.s (pwS m t) (t+1) (WS m t) (ofNat (t+1))
theorem An9 (a b c d:Int) (m:N4) {n:Int} {N:Nat} (hn:n=ofNat N) (hN:N <= 16):(Ay (Anm 4) YA 1000 (AmU a b c d n m 0)).sem=some (Ao9 a b c d m.s (pwS m N) (N+1) (WS m N)):=by
 refine C0 (S:=AmU a b c d n m) (m:=N) (λh=>by cases h) (λt ht=>?_) ?_ (by omega)
 ·have hi:ile (ofNat (t+1)) n=true:=decide_eq_true (by rw [hn]; show ((t+1:Nat):Int) <= (N:Int); omega)
  have ha:CJ (t+1) 1 8=true:=decide_eq_true (by show (t+1+1) * 8 <= (140737488355328:Nat); omega);cases t with
  | zero =>
   have hp:m.s=pwS m 1:=by show m.s=(m.pow 1).s; rw [N4.pow_one]
   have hx:BY m.s.a m.s.d=CC (trI m 1):=by rw [N4.s_tr]; unfold trI; rw [N4.pow_one]
   exact DW.rd (.k hi <| .k (show ilt 1 1=false from rfl) <| .k (I7 m.a) <| .k (I7 m.d) <| .k ha <| .e (nm3 (f:=λp x i=>AjW a b c d n m.s p 2 (AE 1 (WS m 0) (uV x)) i) hp hx (C2 (by omega)))) (by kernel_rfl)
  | succ t =>
   have h2:ilt 1 (ofNat (t+1+1))=true:=decide_eq_true (by show (1:Int)<((t+1+1:Nat):Int); omega);have hp:(m.pow (t+1)).s.mul m.s=pwS m (t+1+1):=N4.s_mul _ _;have hx:BY ((m.pow (t+1)).s.mul m.s).a ((m.pow (t+1)).s.mul m.s).d=CC (trI m (t+1+1)):=by rw [N4.s_mul,N4.s_tr]; rfl
   have ho:=M4.ok_iff.1 (M4.ok_mul (N4.s_ok (m.pow (t+1))) (N4.s_ok m));exact DW.rd (.k hi <| .k h2 <| .k (N4.s_ok (m.pow (t+1))) <| .k (N4.s_ok m) <| .k ho.1 <| .k ho.2.2.2 <| .k ha <| .e (nm3 (f:=λp x i=>AjW a b c d n m.s p (t+3) (AE (t+2) (WS m (t+1)) (uV x)) i) hp hx (C2 (by omega)))) (by kernel_rfl)
 ·have hi:ile (ofNat (N+1)) n=false:=decide_eq_false (by rw [hn]; show ¬ ((N+1:Nat):Int) <= (N:Int); omega)
  exact DW.rd (.k hi <| .l) (by kernel_rfl)
def Qa (x:Int):Bool:=Av (ile 0 x) (ile x 128)
theorem Mc {x:Int} (h:Qa x=true):∃ k:Nat,x=ofNat k∧toN x=k∧k <= 128:=by
 obtain ⟨h1,h2⟩:=Bf h;have h1:(0:Int) <= x:=of_decide_eq_true h1;have h2:x <= (128:Int):=of_decide_eq_true h2;obtain ⟨k,rfl⟩:=Int.eq_ofNat_of_zero_le h1;exact ⟨k,rfl,rfl,by omega⟩
theorem Tf {k:Nat} (h:k <= 128):wr .u64 (ofNat k)=CC (ofNat k):=by
 rw [JM (by show (k:Int)<_; omega),Ae7];show (k:Int) % _=(k:Int);omega
def Wv:List V->A3
 | [.agg [.val (.int .i64 a),.val (.int .i64 b),.val (.int .i64 c),.val (.int .i64 d)],.val (.int .i64 n)]=>.br (Qa a) (.br (Qa b) (.br (Qa c) (.br (Qa d) (.br (ile 1 n) (.br (ile n 16) (.leaf (.ref 0,[.row 108 1 (Cd (toN n) 1) λi=>uV (wN ⟨toN a,toN b,toN c,toN d⟩ i)])) .fail) .fail) .fail) .fail) .fail) .fail
 | _=>.fail
theorem AnV:Ar Tryz.prog Gl 111 Wv:=by
 refine Ah A0 mixed Tryz.func111 (by kernel_rfl) (by kernel_rfl) λvs v h' h=>?_;unfold Wv at h;split at h
 rotate_left
 ·cases h
 rename_i a b c d n;obtain ⟨g1,h⟩:=Ab h;obtain ⟨g2,h⟩:=Ab h;obtain ⟨g3,h⟩:=Ab h;obtain ⟨g4,h⟩:=Ab h;obtain ⟨g5,h⟩:=Ab h;obtain ⟨g6,h⟩:=Ab h;cases Aa h;obtain ⟨a,rfl,e1,q1⟩:=Mc g1;obtain ⟨b,rfl,e2,q2⟩:=Mc g2;obtain ⟨c,rfl,e3,q3⟩:=Mc g3;obtain ⟨d,rfl,e4,q4⟩:=Mc g4;have g5:(1:Int) <= n:=of_decide_eq_true g5;have g6:n <= (16:Int):=of_decide_eq_true g6;obtain ⟨k,rfl⟩:=Int.eq_ofNat_of_zero_le (show (0:Int) <= n by omega);have hx:=XF AeH AgG Ahd (G:=Gl);have h0:=Aon (ofNat a) (ofNat b) (ofNat c) (ofNat d) (ofNat k) (m:=(⟨a,b,c,d⟩:N4).s) (Tf q1) (Tf q2) (Tf q3) (Tf q4);have h4:=An9 (ofNat a) (ofNat b) (ofNat c) (ofNat d) ⟨a,b,c,d⟩ (n:=ofNat k) rfl (by omega);exact ⟨_,Ah0,_,B2.refl _,rfl,hx.1,hx.2,DW.ok (.a h0 <| .a h4 <| .l) (by kernel_rfl),As.one λi hi=>(UO ⟨a,b,c,d⟩ k i hi).symm⟩
end Go.Proofs.YtkbgidbledjejaaGreat.En
namespace Go.Proofs.YtkbgidbledjejaaGreat.En
open Go.Sy Go Go.Proofs.YtkbgidbledjejaaGreat.Ed
open Int (ofNat)
set_option maxRecDepth 100000
theorem OG:∀ (l:List E6) (q:Nat),CX l q <= l.length
 | [],_=>Nat.le_refl _
 | e::l,q=>by
  have:=OG l q;unfold CX;split <;> simp <;> omega
theorem Aae:(List.range 112).map (λk=>(decide ((B6 k).src=1) || decide ((B6 k).src=2)) && (decide ((B6 k).dst=1) || decide ((B6 k).dst=2)))=(List.range 112).map λ_=>true:=by kernel_rfl
theorem Agf {e:E6} (h:AA e=0):(e.src=1 ∨ e.src=2)∧(e.dst=1 ∨ e.dst=2):=by
 rcases BH e with ⟨k,hk,_,_,rfl,_⟩ | ⟨h1,_⟩
 ·have:=GI Aae k hk
  simpa using this
 ·rw [h1] at h; cases h
theorem Amv {e:E6} (h:AA e=0):(e.src=1∧e.dst=1∧cls e=0) ∨ (e.src=1∧e.dst=2∧cls e=1) ∨ (e.src=2∧e.dst=1∧cls e=2) ∨ (e.src=2∧e.dst=2∧cls e=3):=by
 obtain ⟨hs | hs,hd | hd⟩:=Agf h
 ·exact .inl ⟨hs,hd,by simp [cls,hs,hd]⟩
 ·exact .inr (.inl ⟨hs,hd,by simp [cls,hs,hd]⟩)
 ·exact .inr (.inr (.inl ⟨hs,hd,by simp [cls,hs,hd]⟩))
 ·exact .inr (.inr (.inr ⟨hs,hd,by simp [cls,hs,hd]⟩))
theorem Qg:∀ (l:List E6) (x:E6),(∃ j,j<l.length∧getE l j=x)↔x ∈ l
 | [],x=>by simp
 | y::l,x=>by
  have ih:=Qg l x;constructor
  ·rintro ⟨j,hj,he⟩
   have he:(bif Nat.beq j l.length then y else getE l j)=x:=he;cases hb:Nat.beq j l.length with
   | true =>rw [hb] at he;exact List.mem_cons.2 (.inl he.symm)
   | false =>rw [hb] at he;have:=Nat.ne_of_beq_eq_false hb;simp at hj;exact List.mem_cons.2 (.inr (ih.1 ⟨j,by omega,he⟩))
  ·intro h
   rcases List.mem_cons.1 h with rfl | h
   ·refine ⟨l.length,by simp,?_⟩
    show (bif Nat.beq l.length l.length then x else getE l l.length)=x;rw [Nat.beq_refl]; rfl
   ·obtain ⟨j,hj,he⟩:=ih.2 h
    refine ⟨j,by simp; omega,?_⟩;show (bif Nat.beq j l.length then y else getE l j)=x;have:Nat.beq j l.length=false:=by
     cases hb:Nat.beq j l.length with
     | false=>rfl
     | true=>have:=Nat.eq_of_beq_eq_true hb; omega
    rw [this]; exact he
theorem Wl (g:Nat->E6) (e:E6):∀ d i,N6 g e d i=true↔∃ j,i <= j∧j<i+d∧g j=e
 | 0,i=>by
  constructor
  ·intro h; cases h
  ·rintro ⟨j,h1,h2,_⟩; omega
 | d+1,i=>by
  have ih:=Wl g e d (i+1);simp only [N6,bor,Bool.or_eq_true,G6,ih];constructor
  ·rintro (h | ⟨j,h1,h2,h3⟩)
   ·exact ⟨i,Nat.le_refl _,by omega,h⟩
   ·exact ⟨j,by omega,by omega,h3⟩
  ·rintro ⟨j,h1,h2,h3⟩
   by_cases hj:j=i
   ·subst hj; exact .inl h3
   ·exact .inr ⟨j,by omega,by omega,h3⟩
theorem Aep (l:List E6) (x:E6):N6 (getE l) x l.length 0=true↔x ∈ l:=by
 rw [Wl,<- Qg];simp
theorem GB (f:Nat->E6):∀ i,(AK f i).length <= i
 | 0=>Nat.le_refl _
 | i+1=>by
  have:=GB f i;unfold AK;split
  ·omega
  ·simp; omega
theorem KO {f:Nat->E6} {i:Nat} (h:N6 (getE (AK f i)) (f i) (AK f i).length 0=true):AK f (i+1)=AK f i:=by rw [AK,h]
theorem Ju {f:Nat->E6} {i:Nat} (h:N6 (getE (AK f i)) (f i) (AK f i).length 0=false):AK f (i+1)=f i::AK f i:=by rw [AK,h]
theorem JW (f:Nat->E6):∀ (i:Nat) (e:E6),e ∈ AK f i->∃ t,t<i∧e=f t
 | 0,e,h=>by cases h
 | i+1,e,h=>by
  cases hb:N6 (getE (AK f i)) (f i) (AK f i).length 0 with
  | true =>rw [KO hb] at h;obtain ⟨t,h1,h2⟩:=JW f i e h;exact ⟨t,by omega,h2⟩
  | false =>
   rw [Ju hb] at h;rcases List.mem_cons.1 h with rfl | h
   ·exact ⟨i,by omega,rfl⟩
   ·obtain ⟨t,h1,h2⟩:=JW f i e h
    exact ⟨t,by omega,h2⟩
def IZ:List E6->Nat->Bool
 | []=>λ_=>false
 | e::l=>λj=>bif Nat.beq j (toN (Aj e)) then true else IZ l j
theorem RG:∀ (l:List E6) (k:Nat),IZ l k=true↔∃ e,e ∈ l∧toN (Aj e)=k
 | [],k=>by simp [IZ]
 | x::l,k=>by
  have ih:=RG l k;show (bif Nat.beq k (toN (Aj x)) then true else IZ l k)=true↔_;cases hb:Nat.beq k (toN (Aj x)) with
  | true =>have:=Nat.eq_of_beq_eq_true hb;simp;exact .inl this.symm
  | false =>
   have hne:=Nat.ne_of_beq_eq_false hb;simp only [cond_false,ih,List.mem_cons];constructor
   ·rintro ⟨e,he,hk⟩; exact ⟨e,.inr he,hk⟩
   ·rintro ⟨e,rfl | he,hk⟩
    ·exact absurd hk.symm hne
    ·exact ⟨e,he,hk⟩
theorem ZF (l:List E6) (x:E6):BJ (λj=>bV (IZ l j)) (toN (Aj x)) (bV true)=λj=>bV (IZ (x::l) j):=by
 funext j;rw [D1];show (bif Nat.beq j (toN (Aj x)) then bV true else bV (IZ l j))=bV (bif Nat.beq j (toN (Aj x)) then true else IZ l j);cases Nat.beq j (toN (Aj x)) <;> rfl
theorem Uk {e:E6} (h:AA e=0):∃ k:Nat,Aj e=ofNat k∧k<112:=by
 rcases BH e with ⟨k,hk,_,h2,_⟩ | ⟨h1,_⟩
 ·exact ⟨k,h2,hk⟩
 ·rw [h1] at h; cases h
theorem ZG {f:Nat->E6} {i:Nat} (ho:∀ t,t <= i->AA (f t)=0):IZ (AK f i) (toN (Aj (f i)))=N6 (getE (AK f i)) (f i) (AK f i).length 0:=by
 rw [Bool.eq_iff_iff,Aep,RG];constructor
 ·rintro ⟨e,he,hk⟩
  obtain ⟨t,ht,rfl⟩:=JW f i e he;obtain ⟨a,ha,_⟩:=Uk (ho t (by omega));obtain ⟨b,hb,_⟩:=Uk (ho i (Nat.le_refl _));have:f t=f i:=AaA (ho t (by omega)) (ho i (Nat.le_refl _)) (by
   rw [ha,hb] at hk ⊢;have hk:a=b:=hk;rw [hk])
  rw [<- this]; exact he
 ·intro h
  exact ⟨f i,h,rfl⟩
noncomputable def AgI:AD:=[(71,Cj K7)]
theorem Ab0:Al Tryz.prog Gl AgI:=.cons p24 .nil
def Ahj:Lp:=⟨bmK 48 0 [2,3,4,5,14,15,16],3,bmK 48 0 [2,3,4],2,1000⟩
def Ahe:List (Nat×Lp×List (Nat×(Nat->V))):=[(0,Ahj,[])]
noncomputable abbrev Ah1:Cx:=cxA Gl AgI Ahe
noncomputable def AoD:St->T (Ex×St):=λst=>A8 tab Ah1 (A1 Tryz.f110 0) 0 st
def c4V (l:List E6):List V:=[iV (ofNat (CX l 0)),iV (ofNat (CX l 1)),iV (ofNat (CX l 2)),iV (ofNat (CX l 3))]
def AjU (n:Nat) (v:Nat->E6) (c0 c1 c2 c3:Int) (s:Nat->V) (i:Int):St:=⟨jsV 48 0 Ac [(2,.ptr 0 0),(3,iV 0),(4,.ptr 1 0),(5,.ept 2 1 0 0),(14,Ao n v),(15,nV n),(16,iV i)],[.cells [iV 0,iV 0,iV 0,iV 0],.cells [iV c0,iV c1,iV c2,iV c3],.row 121 1 112 s]⟩
def AaL (n:Nat) (v:Nat->E6) (i:Nat):St:=AjU n v (ofNat (CX (AK v i) 0)) (ofNat (CX (AK v i) 1)) (ofNat (CX (AK v i) 2)) (ofNat (CX (AK v i) 3)) (λj=>bV (IZ (AK v i) j)) (ofNat i)
def AoA (l:List E6):Ex×St:=(.ex 0,⟨jsV 48 0 Ac [(2,.ptr 0 0),(3,iV 0),(4,.ptr 1 0)],[.cells [iV 0,iV 0,iV 0,iV 0],.cells (c4V l)]⟩)
theorem Agj {e:E6} {l:List E6} {q:Nat} (h:cls e=q):CX (e::l) q=CX l q+1:=by rw [CX,if_pos h]
theorem AjG {e:E6} {l:List E6} {q:Nat} (h:cls e ≠ q):CX (e::l) q=CX l q:=by rw [CX,if_neg h]
theorem AnA {n:Nat} {v:Nat->E6} (hn:n <= 128) (hm:Bv n v=true):(Ay AoD Ahj 1000 (AaL n v 0)).sem=some (AoA (AK v n)):=by
 have ho:=Bh.1 hm;refine C0 (S:=AaL n v) (m:=n) (λh=>by cases h) (λi hi=>?_) ?_ (by omega)
 ·have hc:=ho i hi
  obtain ⟨k,hk,hk'⟩:=Uk hc;have c0:ieq (AA (v i)) 0=true:=decide_eq_true hc;have c1:Av (ile 0 (Aj (v i))) (ilt (Aj (v i)) 112)=true:=by rw [hk]; exact Af hk'
  have c2:nlt (toN (Aj (v i))) 112=true:=by rw [hk]; exact decide_eq_true hk'
  have hs:=ZG (i:=i) λt ht=>ho t (by omega);have hl:=GB v i;have hw:=λq=>C2 (i:=CX (AK v i) q) (by have:=OG (AK v i) q; omega);have hiw:=C2 (i:=i) (by omega);cases hb:N6 (getE (AK v i)) (v i) (AK v i).length 0 with
  | true =>
   rw [hb] at hs;have e:(Ex.nm,AjU n v (ofNat (CX (AK v i) 0)) (ofNat (CX (AK v i) 1)) (ofNat (CX (AK v i) 2)) (ofNat (CX (AK v i) 3)) (λj=>bV (IZ (AK v i) j)) (wr .i64 (Am (ofNat i) 1)))=(Ex.nm,AaL n v (i+1)):=by
    unfold AaL;rw [KO hb,hiw]
   exact DW.rd (.k (ofNat_lt hi) <| .k (Af hi) <| .k (eN c0) <| .k c1 <| .k c2 <| .k (eN hs) <| .e e) (by kernel_rfl)
  | false =>
   rw [hb] at hs;have e:∀ {c0 c1 c2 c3:Int},c0=ofNat (CX (v i::AK v i) 0)->c1=ofNat (CX (v i::AK v i) 1)->c2=ofNat (CX (v i::AK v i) 2)->c3=ofNat (CX (v i::AK v i) 3)->(Ex.nm,AjU n v c0 c1 c2 c3 (BJ (λj=>bV (IZ (AK v i) j)) (toN (Aj (v i))) (bV true)) (wr .i64 (Am (ofNat i) 1)))=(Ex.nm,AaL n v (i+1)):=by
    intro c0 c1 c2 c3 h0 h1 h2 h3;unfold AaL;rw [Ju hb,hiw,h0,h1,h2,h3,ZF]
   have no:∀ {q},cls (v i) ≠ q->ofNat (CX (AK v i) q)=ofNat (CX (v i::AK v i) q):=λh=>by rw [AjG h]
   have yes:∀ {q},cls (v i)=q->wr .i64 (Am (ofNat (CX (AK v i) q)) 1)=ofNat (CX (v i::AK v i) q):=λh=>by rw [Agj h,hw]
   rcases Amv hc with ⟨h1,h2,h3⟩ | ⟨h1,h2,h3⟩ | ⟨h1,h2,h3⟩ | ⟨h1,h2,h3⟩
   ·have a:ieq (wr .i64 (Ax (v i).src 1)) 0=true:=by rw [h1]; rfl
    have b:ieq (wr .i64 (Ax (v i).dst 1)) 0=true:=by rw [h2]; rfl
    exact DW.rd (.k (ofNat_lt hi) <| .k (Af hi) <| .k (eN c0) <| .k c1 <| .k c2 <| .k (eN hs) <| .k c1 <| .k c2 <| .k a <| .k b <| .k a <| .k b <| .e (e (yes h3) (no (by omega)) (no (by omega)) (no (by omega)))) (by kernel_rfl)
   ·have a:ieq (wr .i64 (Ax (v i).src 1)) 0=true:=by rw [h1]; rfl
    have b:ieq (wr .i64 (Ax (v i).dst 1)) 0=false:=by rw [h2]; rfl
    have c:ieq (wr .i64 (Ax (v i).dst 1)) 1=true:=by rw [h2]; rfl
    exact DW.rd (.k (ofNat_lt hi) <| .k (Af hi) <| .k (eN c0) <| .k c1 <| .k c2 <| .k (eN hs) <| .k c1 <| .k c2 <| .k a <| .k b <| .k c <| .k a <| .k b <| .k c <| .e (e (no (by omega)) (yes h3) (no (by omega)) (no (by omega)))) (by kernel_rfl)
   ·have a:ieq (wr .i64 (Ax (v i).src 1)) 0=false:=by rw [h1]; rfl
    have b:ieq (wr .i64 (Ax (v i).src 1)) 1=true:=by rw [h1]; rfl
    have c:ieq (wr .i64 (Ax (v i).dst 1)) 0=true:=by rw [h2]; rfl
    exact DW.rd (.k (ofNat_lt hi) <| .k (Af hi) <| .k (eN c0) <| .k c1 <| .k c2 <| .k (eN hs) <| .k c1 <| .k c2 <| .k a <| .k b <| .k c <| .k a <| .k b <| .k c <| .e (e (no (by omega)) (no (by omega)) (yes h3) (no (by omega)))) (by kernel_rfl)
   ·have a:ieq (wr .i64 (Ax (v i).src 1)) 0=false:=by rw [h1]; rfl
    have b:ieq (wr .i64 (Ax (v i).src 1)) 1=true:=by rw [h1]; rfl
    have c:ieq (wr .i64 (Ax (v i).dst 1)) 0=false:=by rw [h2]; rfl
    have d:ieq (wr .i64 (Ax (v i).dst 1)) 1=true:=by rw [h2]; rfl
    exact DW.rd (.k (ofNat_lt hi) <| .k (Af hi) <| .k (eN c0) <| .k c1 <| .k c2 <| .k (eN hs) <| .k c1 <| .k c2 <| .k a <| .k b <| .k c <| .k d <| .k a <| .k b <| .k c <| .k d <| .e (e (no (by omega)) (no (by omega)) (no (by omega)) (yes h3))) (by kernel_rfl)
 ·exact DW.rd (.k (A4 (Nat.le_refl n)) <| .l) (by kernel_rfl)
def Aaa:List V->A3
 | [u]=>apL u λk w=>.br (Av (Bv k w) (decide (k <= 128))) (.leaf (.tup [.agg (c4V (AK w k)),iV 0],[])) .fail
 | _=>.fail
theorem Se {vs:List V} {r:V×List Blk} (h:(Aaa vs).sem=some r):∃ k w,B2 vs [Ao k w]∧Bv k w=true∧k <= 128∧r=(.tup [.agg (c4V (AK w k)),iV 0],[]):=by
 unfold Aaa at h;split at h
 ·obtain ⟨k,w,ha,h⟩:=Bb h
  obtain ⟨hg,h⟩:=Ab h;obtain ⟨h1,h2⟩:=Bf hg;exact ⟨k,w,AaD ha,h1,of_decide_eq_true h2,Aa h⟩
 ·cases h
theorem AnX:Ar Tryz.prog Gl 110 Aaa:=by
 refine Ah A0 mixed Tryz.func110 (by kernel_rfl) (by kernel_rfl) λvs v h' h=>?_;obtain ⟨k,w,ha,hm,hk,h⟩:=Se h;cases h;have hx:=AZ Ab0 Ahe (G:=Gl);have h1:ilt 128 (ofNat k)=false:=decide_eq_false (by show ¬ (128:Int)<(k:Int); omega);exact ⟨[Ao k w],Ah1,_,ha,rfl,hx.1,hx.2,DW.ok (.k h1 <| .a (AnA hk hm) <| .l) (by kernel_rfl),As.refl _⟩
end Go.Proofs.YtkbgidbledjejaaGreat.En
