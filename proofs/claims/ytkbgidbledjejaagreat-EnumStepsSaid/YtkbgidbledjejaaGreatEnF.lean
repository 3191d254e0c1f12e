/-
  Layer 6: the search's questions on the list at hand. Conditions: srG.
-/
import Derived.Test.YtkbgidbledjejaaGreatEnE
namespace Go.Proofs.YtkbgidbledjejaaGreat.En
open Go.Sy Go Go.Proofs.YtkbgidbledjejaaGreat.Ed
open Int (ofNat)
set_option maxRecDepth 100000
theorem cg1 {α β:Type} (F:α->β) {a a':α} (h:a=a') {c:β} (p:F a'=c):F a=c:=h ▸ p
theorem cg2 {α α' β:Type} (F:α->α'->β) {a a':α} {b b':α'} (h:a=a') (g:b=b') {c:β} (p:F a' b'=c):F a b=c:=h ▸ g ▸ p
theorem HS {L:Nat} (h:0<L) (hn:L <= 4611686018427387904):wr .i64 (Ax (ofNat L) 1)=ofNat (L-1):=by
 unfold wr Ax IntKind.wrap;simp [IntKind.bits,IntKind.signed];omega
theorem Akj {L b:Nat} (h:b <= L) (hn:L <= 4611686018427387904):wr .i64 (Ax (ofNat L) (ofNat b))=ofNat (FC L b):=by
 unfold wr Ax IntKind.wrap FC;simp [IntKind.bits,IntKind.signed];omega
theorem eBB (b:Bool):Kr b b=true:=by cases b <;> rfl
theorem Ic {i n:Nat} (h:i <= n):Av (ile 0 (ofNat i)) (ile (ofNat i) (ofNat n))=true:=by
 have h1:ile (ofNat i) (ofNat n)=true:=decide_eq_true (by show (i:Int) <= (n:Int); omega);rw [NX,h1];rfl
def apS {α:Type} (w:V) (F:Int->Int->Nat->(Nat->E6)->Nat->(Nat->Int)->T α):T α:=match w with
 | .pp (.agg [.val (.int .i64 a),.val (.int .i64 n),u,y])=>apL u λm v=>apI y λL x=>F a n m v L x
 | _=>.fail
theorem JB {α:Type} {u:V} {F:Int->Int->Nat->(Nat->E6)->Nat->(Nat->Int)->T α} {r:α} (h:(apS u F).sem=some r) :
  ∃ a n m v L x,(∀ (S:Nat->Prop) (w:World) (c:Value),VR S w u noK c->VR S w (.pp (.agg [iV a,iV n,Ao m v,Co L x])) noK c)∧(F a n m v L x).sem=some r:=by
 unfold apS at h;split at h
 ·rename_i a n u y
  obtain ⟨m,v,h1,h⟩:=Bb h;obtain ⟨L,x,h2,h⟩:=Gf h;refine ⟨a,n,m,v,L,x,λS w c hv=>?_,h⟩;obtain ⟨b,o,cv,e,⟨ca,rfl,c1,l1,rfl,q1,c2,l2,rfl,q2,c3,l3,rfl,q3,c4,l4,rfl,q4,q5⟩,hat⟩:=hv;exact ⟨b,o,_,e,⟨_,rfl,c1,_,rfl,q1,c2,_,rfl,q2,c3,_,rfl,h1 S w c3 q3,c4,_,rfl,h2 S w c4 q4,q5⟩,hat⟩
 ·cases h
def srG (m L:Nat) (x:Nat->Int):Bool:=Av (nlt 0 L) (Av (C7 L) (Av (C7 m) (DL L λi=>Av (ile 0 (x i)) (ilt (x i) (ofNat m)))))
theorem SZ {m L:Nat} {x:Nat->Int} (h:srG m L x=true):0<L∧L <= 4611686018427387904∧C7 m=true∧∀ i,i<L->Av (ile 0 (x i)) (ilt (x i) (ofNat m))=true:=by
 obtain ⟨h1,h⟩:=Bf h;obtain ⟨h2,h⟩:=Bf h;obtain ⟨h3,h⟩:=Bf h;exact ⟨of_decide_eq_true h1,of_decide_eq_true h2,h3,BR.1 h⟩
def srT (F:Int->Int->Nat->(Nat->E6)->Nat->(Nat->Int)->V×List Blk):List V->A3
 | [w]=>apS w λa n m v L x=>.br (srG m L x) (.leaf (F a n m v L x)) .fail
 | _=>.fail
def Qo (v:Nat->E6) (L:Nat) (x:Nat->Int):Bool:=sel (ieq (ofNat (L-1)) 0) true (sel (ieq (v (toN (x (L-2)))).dst (v (toN (x (L-1)))).src) (ile (x 0) (x (L-1))) false)
abbrev Ad5:List V->A3:=srT λ_ _ _ v L x=>(bV (Qo v L x),[])
theorem p74:Ar Tryz.prog Gl 74 Ad5:=by
 refine Ah A0 mixed Tryz.func74 (by kernel_rfl) (by kernel_rfl) λvs v0 h' h=>?_;unfold Ad5 srT at h;split at h
 rotate_left
 ·cases h
 rename_i w;obtain ⟨a,n,m,v,L,x,ha,h⟩:=JB h;obtain ⟨hg,h⟩:=Ab h;obtain ⟨hl0,hn,hm,hin⟩:=SZ hg;cases Aa h;have hx:=AZ Ix [] (G:=Gl);refine ⟨[.pp (.agg [iV a,iV n,Ao m v,Co L x])],cxA Gl tbZ [],_,AaD ha,rfl,hx.1,hx.2,?_,As.refl _⟩;have hl1:L-1<L:=by omega
 have hL:=HS hl0 hn;unfold Qo;cases h0:ieq (ofNat (L-1)) 0 with
 | true=>exact DW.ok (.k (cg1 (λzz1=>ieq zz1 0) hL h0) <| .l) (by kernel_rfl)
 | false =>
  have hl2:L-2<L:=by omega
  have hL2:wr .i64 (Ax (wr .i64 (Ax (ofNat L) 1)) 1)=ofNat (L-2):=by
   rw [hL,HS (Nat.pos_of_ne_zero λh=>by rw [h] at h0; cases h0) (by omega)];rfl
  cases h1:ieq (v (toN (x (L-2)))).dst (v (toN (x (L-1)))).src with
  | true=>exact DW.ok (.k (cg1 (λzz1=>ieq zz1 0) hL h0) <| .k (cg1 (λzz0=>Av (ile 0 zz0) (ilt zz0 (ofNat L))) hL2 (Af hl2)) <| .k (cg1 (λzz0=>Av (ile 0 (x (toN zz0))) (ilt (x (toN zz0)) (ofNat m))) hL2 (hin (L-2) hl2)) <| .k (cg1 (λzz1=>Av (ile 0 zz1) (ilt zz1 (ofNat L))) hL (Af hl1)) <| .k (cg1 (λzz1=>Av (ile 0 (x (toN zz1))) (ilt (x (toN zz1)) (ofNat m))) hL (hin (L-1) hl1)) <| .r 6 (cg2 (λzz0 zz1=>ieq (v (toN (x (toN zz0)))).dst (v (toN (x (toN zz1)))).src) hL2 hL h1) <| .k (cg1 (λzz1=>Av (ile 0 zz1) (ilt zz1 (ofNat L))) hL (Af hl1)) <| .r 6 (cg2 (λzz0 zz1=>ieq (v (toN (x (toN zz0)))).dst (v (toN (x (toN zz1)))).src) hL2 hL h1) <| .k (Af hl0) <| .r 3 (cg2 (λzz0 zz1=>ieq (v (toN (x (toN zz0)))).dst (v (toN (x (toN zz1)))).src) hL2 hL h1) <| .e (congrArg (λb=>(bV b,([]:List Blk))) (cg1 (λz=>ile (x 0) (x (toN z))) hL rfl))) (by kernel_rfl)
  | false=>exact DW.ok (.k (cg1 (λzz1=>ieq zz1 0) hL h0) <| .k (cg1 (λzz0=>Av (ile 0 zz0) (ilt zz0 (ofNat L))) hL2 (Af hl2)) <| .k (cg1 (λzz0=>Av (ile 0 (x (toN zz0))) (ilt (x (toN zz0)) (ofNat m))) hL2 (hin (L-2) hl2)) <| .k (cg1 (λzz1=>Av (ile 0 zz1) (ilt zz1 (ofNat L))) hL (Af hl1)) <| .k (cg1 (λzz1=>Av (ile 0 (x (toN zz1))) (ilt (x (toN zz1)) (ofNat m))) hL (hin (L-1) hl1)) <| .r 15 (cg2 (λzz0 zz1=>ieq (v (toN (x (toN zz0)))).dst (v (toN (x (toN zz1)))).src) hL2 hL h1) <| .l) (by kernel_rfl)
def J7 (n:Int) (m:Nat) (v:Nat->E6) (L:Nat) (x:Nat->Int):Bool:=sel (ieq (v (toN (x (L-1)))).dst (v (toN (x 0))).src) true (sel (ilt (ofNat L) n) (V8 m v (v (toN (x (L-1)))) (v (toN (x 0)))) false)
abbrev XN:List V->A3:=srT λ_ n m v L x=>(bV (J7 n m v L x),[])
noncomputable def AkG:AD:=(106,Ajv)::[]
theorem AeQ:Al Tryz.prog Gl AkG:=.cons Aoc <| .nil
theorem p73:Ar Tryz.prog Gl 73 XN:=by
 refine Ah A0 mixed Tryz.func73 (by kernel_rfl) (by kernel_rfl) λvs v0 h' h=>?_;unfold XN srT at h;split at h
 rotate_left
 ·cases h
 rename_i w;obtain ⟨a,n,m,v,L,x,ha,h⟩:=JB h;obtain ⟨hg,h⟩:=Ab h;obtain ⟨hl0,hn,hm,hin⟩:=SZ hg;cases Aa h;have hx:=AZ AeQ [] (G:=Gl);refine ⟨[.pp (.agg [iV a,iV n,Ao m v,Co L x])],cxA Gl AkG [],_,AaD ha,rfl,hx.1,hx.2,?_,As.refl _⟩;have hl1:L-1<L:=by omega
 have hL:=HS hl0 hn;unfold J7;cases h0:ieq (v (toN (x (L-1)))).dst (v (toN (x 0))).src with
 | true=>exact DW.ok (.k (Af hl0) <| .k (hin 0 hl0) <| .k (cg1 (λzz1=>Av (ile 0 zz1) (ilt zz1 (ofNat L))) hL (Af hl1)) <| .k (cg1 (λzz1=>Av (ile 0 (x (toN zz1))) (ilt (x (toN zz1)) (ofNat m))) hL (hin (L-1) hl1)) <| .k (eI (x 0)) <| .k (eI (v (toN (x 0))).kind) <| .k (eBB (v (toN (x 0))).ext) <| .k (eBB (v (toN (x 0))).same) <| .k (eI (v (toN (x 0))).src) <| .k (eI (v (toN (x 0))).dst) <| .k (eI (v (toN (x 0))).fence) <| .k (eI (ofNat L)) <| .k (eI (wr .i64 (Ax (ofNat L) 1))) <| .k (eI (x (toN (wr .i64 (Ax (ofNat L) 1))))) <| .k (eI (v (toN (x (toN (wr .i64 (Ax (ofNat L) 1)))))).kind) <| .k (eBB (v (toN (x (toN (wr .i64 (Ax (ofNat L) 1)))))).ext) <| .k (eBB (v (toN (x (toN (wr .i64 (Ax (ofNat L) 1)))))).same) <| .k (eI (v (toN (x (toN (wr .i64 (Ax (ofNat L) 1)))))).src) <| .k (eI (v (toN (x (toN (wr .i64 (Ax (ofNat L) 1)))))).dst) <| .k (eI (v (toN (x (toN (wr .i64 (Ax (ofNat L) 1)))))).fence) <| .k (eI (x 0)) <| .k (eI (v (toN (x 0))).kind) <| .k (eBB (v (toN (x 0))).ext) <| .k (eBB (v (toN (x 0))).same) <| .k (eI (v (toN (x 0))).src) <| .k (eI (v (toN (x 0))).dst) <| .k (eI (v (toN (x 0))).fence) <| .k (eI (ofNat L)) <| .k (eI (wr .i64 (Ax (ofNat L) 1))) <| .k (eI (x (toN (wr .i64 (Ax (ofNat L) 1))))) <| .k (eI (v (toN (x (toN (wr .i64 (Ax (ofNat L) 1)))))).kind) <| .k (eBB (v (toN (x (toN (wr .i64 (Ax (ofNat L) 1)))))).ext) <| .k (eBB (v (toN (x (toN (wr .i64 (Ax (ofNat L) 1)))))).same) <| .k (eI (v (toN (x (toN (wr .i64 (Ax (ofNat L) 1)))))).src) <| .k (eI (v (toN (x (toN (wr .i64 (Ax (ofNat L) 1)))))).dst) <| .k (eI (v (toN (x (toN (wr .i64 (Ax (ofNat L) 1)))))).fence) <| .k (eI (x 0)) <| .k (eI (v (toN (x 0))).kind) <| .k (eBB (v (toN (x 0))).ext) <| .k (eBB (v (toN (x 0))).same) <| .k (eI (v (toN (x 0))).src) <| .k (eI (v (toN (x 0))).dst) <| .k (eI (v (toN (x 0))).fence) <| .k (eI (ofNat L)) <| .k (eI (wr .i64 (Ax (ofNat L) 1))) <| .k (eI (x (toN (wr .i64 (Ax (ofNat L) 1))))) <| .k (eI (v (toN (x (toN (wr .i64 (Ax (ofNat L) 1)))))).kind) <| .k (eBB (v (toN (x (toN (wr .i64 (Ax (ofNat L) 1)))))).ext) <| .k (eBB (v (toN (x (toN (wr .i64 (Ax (ofNat L) 1)))))).same) <| .k (eI (v (toN (x (toN (wr .i64 (Ax (ofNat L) 1)))))).src) <| .k (eI (v (toN (x (toN (wr .i64 (Ax (ofNat L) 1)))))).dst) <| .k (eI (v (toN (x (toN (wr .i64 (Ax (ofNat L) 1)))))).fence) <| .k (eI (ofNat L)) <| .k (eI (wr .i64 (Ax (ofNat L) 1))) <| .k (eI (x (toN (wr .i64 (Ax (ofNat L) 1))))) <| .k (eI (v (toN (x (toN (wr .i64 (Ax (ofNat L) 1)))))).kind) <| .k (eBB (v (toN (x (toN (wr .i64 (Ax (ofNat L) 1)))))).ext) <| .k (eBB (v (toN (x (toN (wr .i64 (Ax (ofNat L) 1)))))).same) <| .k (eI (v (toN (x (toN (wr .i64 (Ax (ofNat L) 1)))))).src) <| .k (eI (v (toN (x (toN (wr .i64 (Ax (ofNat L) 1)))))).dst) <| .k (eI (v (toN (x (toN (wr .i64 (Ax (ofNat L) 1)))))).fence) <| .k (cg1 (λzz1=>ieq (v (toN (x (toN zz1)))).dst (v (toN (x 0))).src) hL h0) <| .l) (by kernel_rfl)
 | false =>
  cases h1:ilt (ofNat L) n with
  | true=>exact DW.ok (.k (Af hl0) <| .k (hin 0 hl0) <| .k (cg1 (λzz1=>Av (ile 0 zz1) (ilt zz1 (ofNat L))) hL (Af hl1)) <| .k (cg1 (λzz1=>Av (ile 0 (x (toN zz1))) (ilt (x (toN zz1)) (ofNat m))) hL (hin (L-1) hl1)) <| .k (eI (x 0)) <| .k (eI (v (toN (x 0))).kind) <| .k (eBB (v (toN (x 0))).ext) <| .k (eBB (v (toN (x 0))).same) <| .k (eI (v (toN (x 0))).src) <| .k (eI (v (toN (x 0))).dst) <| .k (eI (v (toN (x 0))).fence) <| .k (eI (ofNat L)) <| .k (eI (wr .i64 (Ax (ofNat L) 1))) <| .k (eI (x (toN (wr .i64 (Ax (ofNat L) 1))))) <| .k (eI (v (toN (x (toN (wr .i64 (Ax (ofNat L) 1)))))).kind) <| .k (eBB (v (toN (x (toN (wr .i64 (Ax (ofNat L) 1)))))).ext) <| .k (eBB (v (toN (x (toN (wr .i64 (Ax (ofNat L) 1)))))).same) <| .k (eI (v (toN (x (toN (wr .i64 (Ax (ofNat L) 1)))))).src) <| .k (eI (v (toN (x (toN (wr .i64 (Ax (ofNat L) 1)))))).dst) <| .k (eI (v (toN (x (toN (wr .i64 (Ax (ofNat L) 1)))))).fence) <| .k (eI (x 0)) <| .k (eI (v (toN (x 0))).kind) <| .k (eBB (v (toN (x 0))).ext) <| .k (eBB (v (toN (x 0))).same) <| .k (eI (v (toN (x 0))).src) <| .k (eI (v (toN (x 0))).dst) <| .k (eI (v (toN (x 0))).fence) <| .k (eI (ofNat L)) <| .k (eI (wr .i64 (Ax (ofNat L) 1))) <| .k (eI (x (toN (wr .i64 (Ax (ofNat L) 1))))) <| .k (eI (v (toN (x (toN (wr .i64 (Ax (ofNat L) 1)))))).kind) <| .k (eBB (v (toN (x (toN (wr .i64 (Ax (ofNat L) 1)))))).ext) <| .k (eBB (v (toN (x (toN (wr .i64 (Ax (ofNat L) 1)))))).same) <| .k (eI (v (toN (x (toN (wr .i64 (Ax (ofNat L) 1)))))).src) <| .k (eI (v (toN (x (toN (wr .i64 (Ax (ofNat L) 1)))))).dst) <| .k (eI (v (toN (x (toN (wr .i64 (Ax (ofNat L) 1)))))).fence) <| .k (eI (x 0)) <| .k (eI (v (toN (x 0))).kind) <| .k (eBB (v (toN (x 0))).ext) <| .k (eBB (v (toN (x 0))).same) <| .k (eI (v (toN (x 0))).src) <| .k (eI (v (toN (x 0))).dst) <| .k (eI (v (toN (x 0))).fence) <| .k (eI (ofNat L)) <| .k (eI (wr .i64 (Ax (ofNat L) 1))) <| .k (eI (x (toN (wr .i64 (Ax (ofNat L) 1))))) <| .k (eI (v (toN (x (toN (wr .i64 (Ax (ofNat L) 1)))))).kind) <| .k (eBB (v (toN (x (toN (wr .i64 (Ax (ofNat L) 1)))))).ext) <| .k (eBB (v (toN (x (toN (wr .i64 (Ax (ofNat L) 1)))))).same) <| .k (eI (v (toN (x (toN (wr .i64 (Ax (ofNat L) 1)))))).src) <| .k (eI (v (toN (x (toN (wr .i64 (Ax (ofNat L) 1)))))).dst) <| .k (eI (v (toN (x (toN (wr .i64 (Ax (ofNat L) 1)))))).fence) <| .k (eI (ofNat L)) <| .k (eI (wr .i64 (Ax (ofNat L) 1))) <| .k (eI (x (toN (wr .i64 (Ax (ofNat L) 1))))) <| .k (eI (v (toN (x (toN (wr .i64 (Ax (ofNat L) 1)))))).kind) <| .k (eBB (v (toN (x (toN (wr .i64 (Ax (ofNat L) 1)))))).ext) <| .k (eBB (v (toN (x (toN (wr .i64 (Ax (ofNat L) 1)))))).same) <| .k (eI (v (toN (x (toN (wr .i64 (Ax (ofNat L) 1)))))).src) <| .k (eI (v (toN (x (toN (wr .i64 (Ax (ofNat L) 1)))))).dst) <| .k (eI (v (toN (x (toN (wr .i64 (Ax (ofNat L) 1)))))).fence) <| .k (cg1 (λzz1=>ieq (v (toN (x (toN zz1)))).dst (v (toN (x 0))).src) hL h0) <| .r 6 h1 <| .k (eL m) <| .r 2 eT <| .k hm <| .k h1 <| .e (congrArg (λb=>(bV b,([]:List Blk))) (cg1 (λz=>V8 m v (v (toN (x (toN z)))) (v (toN (x 0)))) hL rfl))) (by kernel_rfl)
  | false=>exact DW.ok (.k (Af hl0) <| .k (hin 0 hl0) <| .k (cg1 (λzz1=>Av (ile 0 zz1) (ilt zz1 (ofNat L))) hL (Af hl1)) <| .k (cg1 (λzz1=>Av (ile 0 (x (toN zz1))) (ilt (x (toN zz1)) (ofNat m))) hL (hin (L-1) hl1)) <| .k (eI (x 0)) <| .k (eI (v (toN (x 0))).kind) <| .k (eBB (v (toN (x 0))).ext) <| .k (eBB (v (toN (x 0))).same) <| .k (eI (v (toN (x 0))).src) <| .k (eI (v (toN (x 0))).dst) <| .k (eI (v (toN (x 0))).fence) <| .k (eI (ofNat L)) <| .k (eI (wr .i64 (Ax (ofNat L) 1))) <| .k (eI (x (toN (wr .i64 (Ax (ofNat L) 1))))) <| .k (eI (v (toN (x (toN (wr .i64 (Ax (ofNat L) 1)))))).kind) <| .k (eBB (v (toN (x (toN (wr .i64 (Ax (ofNat L) 1)))))).ext) <| .k (eBB (v (toN (x (toN (wr .i64 (Ax (ofNat L) 1)))))).same) <| .k (eI (v (toN (x (toN (wr .i64 (Ax (ofNat L) 1)))))).src) <| .k (eI (v (toN (x (toN (wr .i64 (Ax (ofNat L) 1)))))).dst) <| .k (eI (v (toN (x (toN (wr .i64 (Ax (ofNat L) 1)))))).fence) <| .k (eI (x 0)) <| .k (eI (v (toN (x 0))).kind) <| .k (eBB (v (toN (x 0))).ext) <| .k (eBB (v (toN (x 0))).same) <| .k (eI (v (toN (x 0))).src) <| .k (eI (v (toN (x 0))).dst) <| .k (eI (v (toN (x 0))).fence) <| .k (eI (ofNat L)) <| .k (eI (wr .i64 (Ax (ofNat L) 1))) <| .k (eI (x (toN (wr .i64 (Ax (ofNat L) 1))))) <| .k (eI (v (toN (x (toN (wr .i64 (Ax (ofNat L) 1)))))).kind) <| .k (eBB (v (toN (x (toN (wr .i64 (Ax (ofNat L) 1)))))).ext) <| .k (eBB (v (toN (x (toN (wr .i64 (Ax (ofNat L) 1)))))).same) <| .k (eI (v (toN (x (toN (wr .i64 (Ax (ofNat L) 1)))))).src) <| .k (eI (v (toN (x (toN (wr .i64 (Ax (ofNat L) 1)))))).dst) <| .k (eI (v (toN (x (toN (wr .i64 (Ax (ofNat L) 1)))))).fence) <| .k (eI (x 0)) <| .k (eI (v (toN (x 0))).kind) <| .k (eBB (v (toN (x 0))).ext) <| .k (eBB (v (toN (x 0))).same) <| .k (eI (v (toN (x 0))).src) <| .k (eI (v (toN (x 0))).dst) <| .k (eI (v (toN (x 0))).fence) <| .k (eI (ofNat L)) <| .k (eI (wr .i64 (Ax (ofNat L) 1))) <| .k (eI (x (toN (wr .i64 (Ax (ofNat L) 1))))) <| .k (eI (v (toN (x (toN (wr .i64 (Ax (ofNat L) 1)))))).kind) <| .k (eBB (v (toN (x (toN (wr .i64 (Ax (ofNat L) 1)))))).ext) <| .k (eBB (v (toN (x (toN (wr .i64 (Ax (ofNat L) 1)))))).same) <| .k (eI (v (toN (x (toN (wr .i64 (Ax (ofNat L) 1)))))).src) <| .k (eI (v (toN (x (toN (wr .i64 (Ax (ofNat L) 1)))))).dst) <| .k (eI (v (toN (x (toN (wr .i64 (Ax (ofNat L) 1)))))).fence) <| .k (eI (ofNat L)) <| .k (eI (wr .i64 (Ax (ofNat L) 1))) <| .k (eI (x (toN (wr .i64 (Ax (ofNat L) 1))))) <| .k (eI (v (toN (x (toN (wr .i64 (Ax (ofNat L) 1)))))).kind) <| .k (eBB (v (toN (x (toN (wr .i64 (Ax (ofNat L) 1)))))).ext) <| .k (eBB (v (toN (x (toN (wr .i64 (Ax (ofNat L) 1)))))).same) <| .k (eI (v (toN (x (toN (wr .i64 (Ax (ofNat L) 1)))))).src) <| .k (eI (v (toN (x (toN (wr .i64 (Ax (ofNat L) 1)))))).dst) <| .k (eI (v (toN (x (toN (wr .i64 (Ax (ofNat L) 1)))))).fence) <| .k (cg1 (λzz1=>ieq (v (toN (x (toN zz1)))).dst (v (toN (x 0))).src) hL h0) <| .r 7 h1 <| .l) (by kernel_rfl)
def Ud (v:Nat->E6) (x:Nat->Int) (b k:Nat):E6:=bif Nat.blt k b then v (toN (x k)) else Ba
theorem Am5 (v:Nat->E6) (x:Nat->Int) (b:Nat):BJ (λk=>eV (Ud v x b k)) b (eV (v (toN (x b))))=λk=>eV (Ud v x (b+1) k):=by
 rw [AbD];funext i;unfold Ud SR;by_cases h:i=b
 ·subst h
  rw [Nat.beq_refl,show Nat.blt i (i+1)=true from Nat.ble_eq_true_of_le (Nat.le_refl _)];rfl
 ·rw [Hg h]
  have:Nat.blt i (b+1)=Nat.blt i b:=by
   rw [Bool.eq_iff_iff];simp only [Nat.blt,Nat.ble_eq];omega
  rw [this];rfl
def Y7:Lp:=⟨bmK 34 0 [0,3,15,16,17],2,bmK 34 0 [3],2,4611686018427387905⟩
def S44 (a n:Int) (m:Nat) (v:Nat->E6) (L:Nat) (x:Nat->Int) (c:Int) (g:Nat->V):St:=⟨jsV 34 0 Ac [(0,.pp (.agg [iV a,iV n,Ao m v,Co L x])),(3,.ref 1),(15,Co L x),(16,nV L),(17,iV c)],[.row 46 6 0 Ac,.row 46 6 L g]⟩
noncomputable def B44:St->T (Ex×St):=λst=>A8 tab ⟨A9 tbZ,C3 [(0,Y7,[])],Gl⟩ (A1 Tryz.f44 0) 0 st
theorem r44 {a n:Int} {m:Nat} {v:Nat->E6} {L:Nat} {x:Nat->Int} (hn:L <= 4611686018427387904) (hin:∀ i,i<L->Av (ile 0 (x i)) (ilt (x i) (ofNat m))=true):(Ay B44 Y7 4611686018427387905 (S44 a n m v L x 0 (λk=>eV (Ud v x 0 k)))).sem=some (.ex 0,⟨jsV 34 0 Ac [(3,.ref 1)],[.row 46 6 0 Ac,.row 46 6 L λk=>eV (Ud v x L k)]⟩) :=
 C0 (S:=λb=>S44 a n m v L x (ofNat b) (λk=>eV (Ud v x b k))) (by intro h; cases h) (λb hb=>DW.rd (.k (ofNat_lt hb) <| .k (Af hb) <| .k (hin b hb) <| .k (Af hb) <| .k (decide_eq_true hb) <| .e (nm2 (f:=λc g=>S44 a n m v L x c g) (C2 (by omega)) (Am5 v x b))) (by kernel_rfl)) (DW.rd (.k (A4 (Nat.le_refl L)) <| .l) (by kernel_rfl)) (by omega)
def Uc:List V->A3
 | [w]=>apS w λa n m v L x=>.br (srG m L x) (.br (G2 40 (ofNat L) (ofNat L)) (.leaf (.ref 0,[.row 46 6 L λk=>eV (v (toN (x k)))])) .fail) .fail
 | _=>.fail
theorem p44:Ar Tryz.prog Gl 44 Uc:=by
 refine Ah A0 mixed Tryz.func44 (by kernel_rfl) (by kernel_rfl) λvs v0 h' h=>?_;unfold Uc at h;split at h
 rotate_left
 ·cases h
 rename_i w;obtain ⟨a,n,m,v,L,x,ha,h⟩:=JB h;obtain ⟨hg,h⟩:=Ab h;obtain ⟨hk,h⟩:=Ab h;obtain ⟨hl0,hn,hm,hin⟩:=SZ hg;cases Aa h;have hx:=AZ Ix [(0,Y7,[])] (G:=Gl);exact ⟨[.pp (.agg [iV a,iV n,Ao m v,Co L x])],cxA Gl tbZ [(0,Y7,[])],[.row 46 6 L λk=>eV (Ud v x L k)],AaD ha,rfl,hx.1,hx.2,DW.ok (.k hk <| .a (r44 (a:=a) (n:=n) (v:=v) hn hin) <| .l) (by kernel_rfl),As.cons (λk hk=>by
  show eV (v (toN (x k)))=eV (Ud v x L k);unfold Ud;rw [show Nat.blt k L=true from Nat.ble_eq_true_of_le hk];rfl) (As.refl _)⟩
def TN (L:Nat) (x:Nat->Int) (b:Nat):Bool:=ilt (cmpI (FC L b) (λi=>x (Cd b i)) x) 0
def TO (L:Nat) (x:Nat->Int):Bool:=AI (isN (Az (TN L x) (L-1) 1))
abbrev Aju:List V->A3:=srT λ_ _ _ _ L x=>(bV (TO L x),[])
noncomputable def Aib:AD:=(105,cmT)::[]
theorem AeR:Al Tryz.prog Gl Aib:=.cons Aod <| .nil
def AcI:Lp:=⟨bmK 33 0 [0,2,3],0,bmK 33 0 [2],0,4611686018427387905⟩
def Aje:List (Nat×Lp×List (Nat×(Nat->V))):=[(0,AcI,[])]
def S72 (a n:Int) (m:Nat) (v:Nat->E6) (L:Nat) (x:Nat->Int) (c:Int):St:=⟨jsV 33 0 Ac [(0,.pp (.agg [iV a,iV n,Ao m v,Co L x])),(2,bV false),(3,iV c)],[]⟩
noncomputable def B72:St->T (Ex×St):=λst=>A8 tab ⟨A9 Aib,C3 Aje,Gl⟩ (A1 Tryz.f72 0) 0 st
def e72 (o:Option Nat):Ex×St:=match o with
 | none=>(.ex 0,⟨jsV 33 0 Ac [(2,bV false)],[]⟩)
 | some _=>(.rt,⟨jsV 33 0 Ac [(2,bV true)],[]⟩)
theorem r72 {a n:Int} {m:Nat} {v:Nat->E6} {L:Nat} {x:Nat->Int} (hn:L <= 4611686018427387904):∀ d b q,0<b->b+d=L->d<q->(Ay B72 AcI q (S72 a n m v L x (ofNat b))).sem=some (e72 (Az (TN L x) d b))
 | 0,b,q,h0,h,hq=>by
  obtain ⟨q,rfl⟩:∃ o,q=o+1:=⟨q-1,by omega⟩;obtain rfl:L=b:=by omega
  exact Ae (t:=some (.ex 0,_)) (DW.rd (.k (A4 (Nat.le_refl L)) <| .l) (by kernel_rfl))
 | d+1,b,q,h0,h,hq=>by
  obtain ⟨q,rfl⟩:∃ o,q=o+1:=⟨q-1,by omega⟩;have hb:b<L:=by omega
  have hLb:=Akj (Nat.le_of_lt hb) hn;cases hq:TN L x b with
  | true =>rw [Fj hq];exact Ae (t:=some (.rt,_)) (DW.rd (.k (ofNat_lt hb) <| .k (Ic (Nat.le_of_lt hb)) <| .k (cg1 (λzz2=>Av (ile 0 zz2) (ile zz2 (ofNat L))) hLb (Ic (Nat.sub_le L b))) <| .k (eL (FC L b)) <| .k (eL (toN (wr .i64 (Ax (ofNat L) (ofNat b))))) <| .k (cg1 (λzz2=>Fy (FC L b) (toN zz2)) hLb (eJ (FC L b))) <| .k (decide_eq_true (Nat.le_trans (Nat.sub_le L b) hn)) <| .k hq <| .l) (by kernel_rfl))
  | false =>
   rw [Gc hq,Ae (DW.rd (.k (ofNat_lt hb) <| .k (Ic (Nat.le_of_lt hb)) <| .k (cg1 (λzz2=>Av (ile 0 zz2) (ile zz2 (ofNat L))) hLb (Ic (Nat.sub_le L b))) <| .k (eL (FC L b)) <| .k (eL (toN (wr .i64 (Ax (ofNat L) (ofNat b))))) <| .k (cg1 (λzz2=>Fy (FC L b) (toN zz2)) hLb (eJ (FC L b))) <| .k (decide_eq_true (Nat.le_trans (Nat.sub_le L b) hn)) <| .k hq <| .e (nm1 (f:=λc=>S72 a n m v L x c) (C2 (by omega)))) (by kernel_rfl):Ap B72 AcI (S72 a n m v L x (ofNat b))=some (.nm,S72 a n m v L x (ofNat (b+1))))]
   exact r72 hn d (b+1) q (by omega) (by omega) (by omega)
theorem p72:Ar Tryz.prog Gl 72 Aju:=by
 refine Ah A0 mixed Tryz.func72 (by kernel_rfl) (by kernel_rfl) λvs v0 h' h=>?_;unfold Aju srT at h;split at h
 rotate_left
 ·cases h
 rename_i w;obtain ⟨a,n,m,v,L,x,ha,h⟩:=JB h;obtain ⟨hg,h⟩:=Ab h;obtain ⟨hl0,hn,hm,hin⟩:=SZ hg;cases Aa h;have hx:=AZ AeR Aje (G:=Gl);refine ⟨[.pp (.agg [iV a,iV n,Ao m v,Co L x])],cxA Gl Aib Aje,_,AaD ha,rfl,hx.1,hx.2,?_,As.refl _⟩;have hl1:L-1<L:=by omega
 have hL:=HS hl0 hn;have hr:=r72 (a:=a) (n:=n) (m:=m) (v:=v) (x:=x) hn (L-1) 1 4611686018427387905 (by omega) (by omega) (by omega);unfold TO;cases hf:Az (TN L x) (L-1) 1 with
 | none =>rw [hf] at hr;exact DW.ok (.a hr <| .l) (by kernel_rfl)
 | some t =>rw [hf] at hr;exact DW.ok (.a hr <| .l) (by kernel_rfl)
end Go.Proofs.YtkbgidbledjejaaGreat.En
