/-
  Layer 6: the search's questions on the list at hand. Conditions: srG.
-/
import Derived.Test.YtkbgidbledjejaaGreatEnE
namespace Go.Proofs.YtkbgidbledjejaaGreat.En
open Go.Sy Go Go.Proofs.YtkbgidbledjejaaGreat.Ed
open Int (ofNat)
set_option maxRecDepth 100000
theorem cg1 {α β:Type} (F:α->β) {a a':α} (h:a=a') {c:β} (p:F a'=c):F a=c:=h ▸ p
theorem cg2 {α α' β:Type} (F:α->α'->β) {a a':α} {b b':α'} (h:a=a') (g:b=b') {c:β} (p:F a' b'=c):F a b=c:=h ▸ g ▸ p
theorem HJ {L:Nat} (h:0<L) (hn:L <= 4611686018427387904):wr .i64 (Ay (ofNat L) 1)=ofNat (L-1):=by
 unfold wr Ay IntKind.wrap;simp [IntKind.bits,IntKind.signed];omega
theorem Alr {L b:Nat} (h:b <= L) (hn:L <= 4611686018427387904):wr .i64 (Ay (ofNat L) (ofNat b))=ofNat (FF L b):=by
 unfold wr Ay IntKind.wrap FF;simp [IntKind.bits,IntKind.signed];omega
theorem eBB (b:Bool):JD b b=true:=by cases b <;> rfl
theorem HW {i n:Nat} (h:i <= n):Av (ile 0 (ofNat i)) (ile (ofNat i) (ofNat n))=true:=by
 have h1:ile (ofNat i) (ofNat n)=true:=decide_eq_true (by show (i:Int) <= (n:Int); omega);rw [Mc,h1];rfl
def apS {α:Type} (w:V) (F:Int->Int->Nat->(Nat->E6)->Nat->(Nat->Int)->T α):T α:=match w with
 | .pp (.agg [.val (.int .i64 a),.val (.int .i64 n),u,y])=>apL u λm v=>apI y λL x=>F a n m v L x
 | _=>.fail
theorem JG {α:Type} {u:V} {F:Int->Int->Nat->(Nat->E6)->Nat->(Nat->Int)->T α} {r:α} (h:(apS u F).sem=some r) :
  ∃ a n m v L x,(∀ (S:Nat->Prop) (w:World) (c:Value),VR S w u noK c->VR S w (.pp (.agg [iV a,iV n,Am m v,Cn L x])) noK c)∧(F a n m v L x).sem=some r:=by
 unfold apS at h;split at h
 ·rename_i a n u y
  obtain ⟨m,v,h1,h⟩:=AQ h;obtain ⟨L,x,h2,h⟩:=Gd h;refine ⟨a,n,m,v,L,x,λS w c hv=>?_,h⟩;obtain ⟨b,o,cv,e,⟨ca,rfl,c1,l1,rfl,q1,c2,l2,rfl,q2,c3,l3,rfl,q3,c4,l4,rfl,q4,q5⟩,hat⟩:=hv;exact ⟨b,o,_,e,⟨_,rfl,c1,_,rfl,q1,c2,_,rfl,q2,c3,_,rfl,h1 S w c3 q3,c4,_,rfl,h2 S w c4 q4,q5⟩,hat⟩
 ·cases h
def srG (m L:Nat) (x:Nat->Int):Bool:=Av (nlt 0 L) (Av (Cr L) (Av (Cr m) (CQ L λi=>Av (ile 0 (x i)) (ilt (x i) (ofNat m)))))
theorem Tx {m L:Nat} {x:Nat->Int} (h:srG m L x=true):0<L∧L <= 4611686018427387904∧Cr m=true∧∀ i,i<L->Av (ile 0 (x i)) (ilt (x i) (ofNat m))=true:=by
 obtain ⟨h1,h⟩:=Bf h;obtain ⟨h2,h⟩:=Bf h;obtain ⟨h3,h⟩:=Bf h;exact ⟨of_decide_eq_true h1,of_decide_eq_true h2,h3,Bd.1 h⟩
def srT (F:Int->Int->Nat->(Nat->E6)->Nat->(Nat->Int)->V×List Blk):List V->A2
 | [w]=>apS w λa n m v L x=>.br (srG m L x) (.leaf (F a n m v L x)) .fail
 | _=>.fail
def Q8 (v:Nat->E6) (L:Nat) (x:Nat->Int):Bool:=sel (ieq (ofNat (L-1)) 0) true (sel (ieq (v (toN (x (L-2)))).dst (v (toN (x (L-1)))).src) (ile (x 0) (x (L-1))) false)
abbrev Aef:List V->A2:=srT λ_ _ _ v L x=>(bV (Q8 v L x),[])
theorem p74:As Tryz.prog Gl 74 Aef:=by
 refine Ah Az mixed Tryz.func74 (by kernel_rfl) (by kernel_rfl) λvs v0 h' h=>?_;unfold Aef srT at h;split at h
 rotate_left
 ·cases h
 rename_i w;obtain ⟨a,n,m,v,L,x,ha,h⟩:=JG h;obtain ⟨hg,h⟩:=Ab h;obtain ⟨hl0,hn,hm,hin⟩:=Tx hg;cases Aa h;have hx:=Ba It [] (G:=Gl);refine ⟨[.pp (.agg [iV a,iV n,Am m v,Cn L x])],cxA Gl tbZ [],_,Abk ha,rfl,hx.1,hx.2,?_,Au.refl _⟩;have hl1:L-1<L:=by omega
 have hL:=HJ hl0 hn;unfold Q8;cases h0:ieq (ofNat (L-1)) 0 with
 | true=>exact DW.ok (.k (cg1 (λzz1=>ieq zz1 0) hL h0) <| .l) (by kernel_rfl)
 | false =>
  have hl2:L-2<L:=by omega
  have hL2:wr .i64 (Ay (wr .i64 (Ay (ofNat L) 1)) 1)=ofNat (L-2):=by
   rw [hL,HJ (Nat.pos_of_ne_zero λh=>by rw [h] at h0; cases h0) (by omega)];rfl
  cases h1:ieq (v (toN (x (L-2)))).dst (v (toN (x (L-1)))).src with
  | true=>exact DW.ok (.k (cg1 (λzz1=>ieq zz1 0) hL h0) <| .k (cg1 (λzz0=>Av (ile 0 zz0) (ilt zz0 (ofNat L))) hL2 (Af hl2)) <| .k (cg1 (λzz0=>Av (ile 0 (x (toN zz0))) (ilt (x (toN zz0)) (ofNat m))) hL2 (hin (L-2) hl2)) <| .k (cg1 (λzz1=>Av (ile 0 zz1) (ilt zz1 (ofNat L))) hL (Af hl1)) <| .k (cg1 (λzz1=>Av (ile 0 (x (toN zz1))) (ilt (x (toN zz1)) (ofNat m))) hL (hin (L-1) hl1)) <| .r 6 (cg2 (λzz0 zz1=>ieq (v (toN (x (toN zz0)))).dst (v (toN (x (toN zz1)))).src) hL2 hL h1) <| .k (cg1 (λzz1=>Av (ile 0 zz1) (ilt zz1 (ofNat L))) hL (Af hl1)) <| .r 6 (cg2 (λzz0 zz1=>ieq (v (toN (x (toN zz0)))).dst (v (toN (x (toN zz1)))).src) hL2 hL h1) <| .k (Af hl0) <| .r 3 (cg2 (λzz0 zz1=>ieq (v (toN (x (toN zz0)))).dst (v (toN (x (toN zz1)))).src) hL2 hL h1) <| .e (congrArg (λb=>(bV b,([]:List Blk))) (cg1 (λz=>ile (x 0) (x (toN z))) hL rfl))) (by kernel_rfl)
  | false=>exact DW.ok (.k (cg1 (λzz1=>ieq zz1 0) hL h0) <| .k (cg1 (λzz0=>Av (ile 0 zz0) (ilt zz0 (ofNat L))) hL2 (Af hl2)) <| .k (cg1 (λzz0=>Av (ile 0 (x (toN zz0))) (ilt (x (toN zz0)) (ofNat m))) hL2 (hin (L-2) hl2)) <| .k (cg1 (λzz1=>Av (ile 0 zz1) (ilt zz1 (ofNat L))) hL (Af hl1)) <| .k (cg1 (λzz1=>Av (ile 0 (x (toN zz1))) (ilt (x (toN zz1)) (ofNat m))) hL (hin (L-1) hl1)) <| .r 15 (cg2 (λzz0 zz1=>ieq (v (toN (x (toN zz0)))).dst (v (toN (x (toN zz1)))).src) hL2 hL h1) <| .l) (by kernel_rfl)
def JA (n:Int) (m:Nat) (v:Nat->E6) (L:Nat) (x:Nat->Int):Bool:=sel (ieq (v (toN (x (L-1)))).dst (v (toN (x 0))).src) true (sel (ilt (ofNat L) n) (VP m v (v (toN (x (L-1)))) (v (toN (x 0)))) false)
abbrev Ym:List V->A2:=srT λ_ n m v L x=>(bV (JA n m v L x),[])
noncomputable def AlO:AH:=(106,Ak4)::[]
theorem Af6:Ao Tryz.prog Gl AlO:=.cons Apv <| .nil
theorem p73:As Tryz.prog Gl 73 Ym:=by
 refine Ah Az mixed Tryz.func73 (by kernel_rfl) (by kernel_rfl) λvs v0 h' h=>?_;unfold Ym srT at h;split at h
 rotate_left
 ·cases h
 rename_i w;obtain ⟨a,n,m,v,L,x,ha,h⟩:=JG h;obtain ⟨hg,h⟩:=Ab h;obtain ⟨hl0,hn,hm,hin⟩:=Tx hg;cases Aa h;have hx:=Ba Af6 [] (G:=Gl);refine ⟨[.pp (.agg [iV a,iV n,Am m v,Cn L x])],cxA Gl AlO [],_,Abk ha,rfl,hx.1,hx.2,?_,Au.refl _⟩;have hl1:L-1<L:=by omega
 have hL:=HJ hl0 hn;unfold JA;cases h0:ieq (v (toN (x (L-1)))).dst (v (toN (x 0))).src with
 | true=>exact DW.ok (.k (Af hl0) <| .k (hin 0 hl0) <| .k (cg1 (λzz1=>Av (ile 0 zz1) (ilt zz1 (ofNat L))) hL (Af hl1)) <| .k (cg1 (λzz1=>Av (ile 0 (x (toN zz1))) (ilt (x (toN zz1)) (ofNat m))) hL (hin (L-1) hl1)) <| .k (eI (x 0)) <| .k (eI (v (toN (x 0))).kind) <| .k (eBB (v (toN (x 0))).ext) <| .k (eBB (v (toN (x 0))).same) <| .k (eI (v (toN (x 0))).src) <| .k (eI (v (toN (x 0))).dst) <| .k (eI (v (toN (x 0))).fence) <| .k (eI (ofNat L)) <| .k (eI (wr .i64 (Ay (ofNat L) 1))) <| .k (eI (x (toN (wr .i64 (Ay (ofNat L) 1))))) <| .k (eI (v (toN (x (toN (wr .i64 (Ay (ofNat L) 1)))))).kind) <| .k (eBB (v (toN (x (toN (wr .i64 (Ay (ofNat L) 1)))))).ext) <| .k (eBB (v (toN (x (toN (wr .i64 (Ay (ofNat L) 1)))))).same) <| .k (eI (v (toN (x (toN (wr .i64 (Ay (ofNat L) 1)))))).src) <| .k (eI (v (toN (x (toN (wr .i64 (Ay (ofNat L) 1)))))).dst) <| .k (eI (v (toN (x (toN (wr .i64 (Ay (ofNat L) 1)))))).fence) <| .k (eI (x 0)) <| .k (eI (v (toN (x 0))).kind) <| .k (eBB (v (toN (x 0))).ext) <| .k (eBB (v (toN (x 0))).same) <| .k (eI (v (toN (x 0))).src) <| .k (eI (v (toN (x 0))).dst) <| .k (eI (v (toN (x 0))).fence) <| .k (eI (ofNat L)) <| .k (eI (wr .i64 (Ay (ofNat L) 1))) <| .k (eI (x (toN (wr .i64 (Ay (ofNat L) 1))))) <| .k (eI (v (toN (x (toN (wr .i64 (Ay (ofNat L) 1)))))).kind) <| .k (eBB (v (toN (x (toN (wr .i64 (Ay (ofNat L) 1)))))).ext) <| .k (eBB (v (toN (x (toN (wr .i64 (Ay (ofNat L) 1)))))).same) <| .k (eI (v (toN (x (toN (wr .i64 (Ay (ofNat L) 1)))))).src) <| .k (eI (v (toN (x (toN (wr .i64 (Ay (ofNat L) 1)))))).dst) <| .k (eI (v (toN (x (toN (wr .i64 (Ay (ofNat L) 1)))))).fence) <| .k (eI (x 0)) <| .k (eI (v (toN (x 0))).kind) <| .k (eBB (v (toN (x 0))).ext) <| .k (eBB (v (toN (x 0))).same) <| .k (eI (v (toN (x 0))).src) <| .k (eI (v (toN (x 0))).dst) <| .k (eI (v (toN (x 0))).fence) <| .k (eI (ofNat L)) <| .k (eI (wr .i64 (Ay (ofNat L) 1))) <| .k (eI (x (toN (wr .i64 (Ay (ofNat L) 1))))) <| .k (eI (v (toN (x (toN (wr .i64 (Ay (ofNat L) 1)))))).kind) <| .k (eBB (v (toN (x (toN (wr .i64 (Ay (ofNat L) 1)))))).ext) <| .k (eBB (v (toN (x (toN (wr .i64 (Ay (ofNat L) 1)))))).same) <| .k (eI (v (toN (x (toN (wr .i64 (Ay (ofNat L) 1)))))).src) <| .k (eI (v (toN (x (toN (wr .i64 (Ay (ofNat L) 1)))))).dst) <| .k (eI (v (toN (x (toN (wr .i64 (Ay (ofNat L) 1)))))).fence) <| .k (eI (ofNat L)) <| .k (eI (wr .i64 (Ay (ofNat L) 1))) <| .k (eI (x (toN (wr .i64 (Ay (ofNat L) 1))))) <| .k (eI (v (toN (x (toN (wr .i64 (Ay (ofNat L) 1)))))).kind) <| .k (eBB (v (toN (x (toN (wr .i64 (Ay (ofNat L) 1)))))).ext) <| .k (eBB (v (toN (x (toN (wr .i64 (Ay (ofNat L) 1)))))).same) <| .k (eI (v (toN (x (toN (wr .i64 (Ay (ofNat L) 1)))))).src) <| .k (eI (v (toN (x (toN (wr .i64 (Ay (ofNat L) 1)))))).dst) <| .k (eI (v (toN (x (toN (wr .i64 (Ay (ofNat L) 1)))))).fence) <| .k (cg1 (λzz1=>ieq (v (toN (x (toN zz1)))).dst (v (toN (x 0))).src) hL h0) <| .l) (by kernel_rfl)
 | false =>
  cases h1:ilt (ofNat L) n with
  | true=>exact DW.ok (.k (Af hl0) <| .k (hin 0 hl0) <| .k (cg1 (λzz1=>Av (ile 0 zz1) (ilt zz1 (ofNat L))) hL (Af hl1)) <| .k (cg1 (λzz1=>Av (ile 0 (x (toN zz1))) (ilt (x (toN zz1)) (ofNat m))) hL (hin (L-1) hl1)) <| .k (eI (x 0)) <| .k (eI (v (toN (x 0))).kind) <| .k (eBB (v (toN (x 0))).ext) <| .k (eBB (v (toN (x 0))).same) <| .k (eI (v (toN (x 0))).src) <| .k (eI (v (toN (x 0))).dst) <| .k (eI (v (toN (x 0))).fence) <| .k (eI (ofNat L)) <| .k (eI (wr .i64 (Ay (ofNat L) 1))) <| .k (eI (x (toN (wr .i64 (Ay (ofNat L) 1))))) <| .k (eI (v (toN (x (toN (wr .i64 (Ay (ofNat L) 1)))))).kind) <| .k (eBB (v (toN (x (toN (wr .i64 (Ay (ofNat L) 1)))))).ext) <| .k (eBB (v (toN (x (toN (wr .i64 (Ay (ofNat L) 1)))))).same) <| .k (eI (v (toN (x (toN (wr .i64 (Ay (ofNat L) 1)))))).src) <| .k (eI (v (toN (x (toN (wr .i64 (Ay (ofNat L) 1)))))).dst) <| .k (eI (v (toN (x (toN (wr .i64 (Ay (ofNat L) 1)))))).fence) <| .k (eI (x 0)) <| .k (eI (v (toN (x 0))).kind) <| .k (eBB (v (toN (x 0))).ext) <| .k (eBB (v (toN (x 0))).same) <| .k (eI (v (toN (x 0))).src) <| .k (eI (v (toN (x 0))).dst) <| .k (eI (v (toN (x 0))).fence) <| .k (eI (ofNat L)) <| .k (eI (wr .i64 (Ay (ofNat L) 1))) <| .k (eI (x (toN (wr .i64 (Ay (ofNat L) 1))))) <| .k (eI (v (toN (x (toN (wr .i64 (Ay (ofNat L) 1)))))).kind) <| .k (eBB (v (toN (x (toN (wr .i64 (Ay (ofNat L) 1)))))).ext) <| .k (eBB (v (toN (x (toN (wr .i64 (Ay (ofNat L) 1)))))).same) <| .k (eI (v (toN (x (toN (wr .i64 (Ay (ofNat L) 1)))))).src) <| .k (eI (v (toN (x (toN (wr .i64 (Ay (ofNat L) 1)))))).dst) <| .k (eI (v (toN (x (toN (wr .i64 (Ay (ofNat L) 1)))))).fence) <| .k (eI (x 0)) <| .k (eI (v (toN (x 0))).kind) <| .k (eBB (v (toN (x 0))).ext) <| .k (eBB (v (toN (x 0))).same) <| .k (eI (v (toN (x 0))).src) <| .k (eI (v (toN (x 0))).dst) <| .k (eI (v (toN (x 0))).fence) <| .k (eI (ofNat L)) <| .k (eI (wr .i64 (Ay (ofNat L) 1))) <| .k (eI (x (toN (wr .i64 (Ay (ofNat L) 1))))) <| .k (eI (v (toN (x (toN (wr .i64 (Ay (ofNat L) 1)))))).kind) <| .k (eBB (v (toN (x (toN (wr .i64 (Ay (ofNat L) 1)))))).ext) <| .k (eBB (v (toN (x (toN (wr .i64 (Ay (ofNat L) 1)))))).same) <| .k (eI (v (toN (x (toN (wr .i64 (Ay (ofNat L) 1)))))).src) <| .k (eI (v (toN (x (toN (wr .i64 (Ay (ofNat L) 1)))))).dst) <| .k (eI (v (toN (x (toN (wr .i64 (Ay (ofNat L) 1)))))).fence) <| .k (eI (ofNat L)) <| .k (eI (wr .i64 (Ay (ofNat L) 1))) <| .k (eI (x (toN (wr .i64 (Ay (ofNat L) 1))))) <| .k (eI (v (toN (x (toN (wr .i64 (Ay (ofNat L) 1)))))).kind) <| .k (eBB (v (toN (x (toN (wr .i64 (Ay (ofNat L) 1)))))).ext) <| .k (eBB (v (toN (x (toN (wr .i64 (Ay (ofNat L) 1)))))).same) <| .k (eI (v (toN (x (toN (wr .i64 (Ay (ofNat L) 1)))))).src) <| .k (eI (v (toN (x (toN (wr .i64 (Ay (ofNat L) 1)))))).dst) <| .k (eI (v (toN (x (toN (wr .i64 (Ay (ofNat L) 1)))))).fence) <| .k (cg1 (λzz1=>ieq (v (toN (x (toN zz1)))).dst (v (toN (x 0))).src) hL h0) <| .r 6 h1 <| .k (eL m) <| .r 2 eT <| .k hm <| .k h1 <| .e (congrArg (λb=>(bV b,([]:List Blk))) (cg1 (λz=>VP m v (v (toN (x (toN z)))) (v (toN (x 0)))) hL rfl))) (by kernel_rfl)
  | false=>exact DW.ok (.k (Af hl0) <| .k (hin 0 hl0) <| .k (cg1 (λzz1=>Av (ile 0 zz1) (ilt zz1 (ofNat L))) hL (Af hl1)) <| .k (cg1 (λzz1=>Av (ile 0 (x (toN zz1))) (ilt (x (toN zz1)) (ofNat m))) hL (hin (L-1) hl1)) <| .k (eI (x 0)) <| .k (eI (v (toN (x 0))).kind) <| .k (eBB (v (toN (x 0))).ext) <| .k (eBB (v (toN (x 0))).same) <| .k (eI (v (toN (x 0))).src) <| .k (eI (v (toN (x 0))).dst) <| .k (eI (v (toN (x 0))).fence) <| .k (eI (ofNat L)) <| .k (eI (wr .i64 (Ay (ofNat L) 1))) <| .k (eI (x (toN (wr .i64 (Ay (ofNat L) 1))))) <| .k (eI (v (toN (x (toN (wr .i64 (Ay (ofNat L) 1)))))).kind) <| .k (eBB (v (toN (x (toN (wr .i64 (Ay (ofNat L) 1)))))).ext) <| .k (eBB (v (toN (x (toN (wr .i64 (Ay (ofNat L) 1)))))).same) <| .k (eI (v (toN (x (toN (wr .i64 (Ay (ofNat L) 1)))))).src) <| .k (eI (v (toN (x (toN (wr .i64 (Ay (ofNat L) 1)))))).dst) <| .k (eI (v (toN (x (toN (wr .i64 (Ay (ofNat L) 1)))))).fence) <| .k (eI (x 0)) <| .k (eI (v (toN (x 0))).kind) <| .k (eBB (v (toN (x 0))).ext) <| .k (eBB (v (toN (x 0))).same) <| .k (eI (v (toN (x 0))).src) <| .k (eI (v (toN (x 0))).dst) <| .k (eI (v (toN (x 0))).fence) <| .k (eI (ofNat L)) <| .k (eI (wr .i64 (Ay (ofNat L) 1))) <| .k (eI (x (toN (wr .i64 (Ay (ofNat L) 1))))) <| .k (eI (v (toN (x (toN (wr .i64 (Ay (ofNat L) 1)))))).kind) <| .k (eBB (v (toN (x (toN (wr .i64 (Ay (ofNat L) 1)))))).ext) <| .k (eBB (v (toN (x (toN (wr .i64 (Ay (ofNat L) 1)))))).same) <| .k (eI (v (toN (x (toN (wr .i64 (Ay (ofNat L) 1)))))).src) <| .k (eI (v (toN (x (toN (wr .i64 (Ay (ofNat L) 1)))))).dst) <| .k (eI (v (toN (x (toN (wr .i64 (Ay (ofNat L) 1)))))).fence) <| .k (eI (x 0)) <| .k (eI (v (toN (x 0))).kind) <| .k (eBB (v (toN (x 0))).ext) <| .k (eBB (v (toN (x 0))).same) <| .k (eI (v (toN (x 0))).src) <| .k (eI (v (toN (x 0))).dst) <| .k (eI (v (toN (x 0))).fence) <| .k (eI (ofNat L)) <| .k (eI (wr .i64 (Ay (ofNat L) 1))) <| .k (eI (x (toN (wr .i64 (Ay (ofNat L) 1))))) <| .k (eI (v (toN (x (toN (wr .i64 (Ay (ofNat L) 1)))))).kind) <| .k (eBB (v (toN (x (toN (wr .i64 (Ay (ofNat L) 1)))))).ext) <| .k (eBB (v (toN (x (toN (wr .i64 (Ay (ofNat L) 1)))))).same) <| .k (eI (v (toN (x (toN (wr .i64 (Ay (ofNat L) 1)))))).src) <| .k (eI (v (toN (x (toN (wr .i64 (Ay (ofNat L) 1)))))).dst) <| .k (eI (v (toN (x (toN (wr .i64 (Ay (ofNat L) 1)))))).fence) <| .k (eI (ofNat L)) <| .k (eI (wr .i64 (Ay (ofNat L) 1))) <| .k (eI (x (toN (wr .i64 (Ay (ofNat L) 1))))) <| .k (eI (v (toN (x (toN (wr .i64 (Ay (ofNat L) 1)))))).kind) <| .k (eBB (v (toN (x (toN (wr .i64 (Ay (ofNat L) 1)))))).ext) <| .k (eBB (v (toN (x (toN (wr .i64 (Ay (ofNat L) 1)))))).same) <| .k (eI (v (toN (x (toN (wr .i64 (Ay (ofNat L) 1)))))).src) <| .k (eI (v (toN (x (toN (wr .i64 (Ay (ofNat L) 1)))))).dst) <| .k (eI (v (toN (x (toN (wr .i64 (Ay (ofNat L) 1)))))).fence) <| .k (cg1 (λzz1=>ieq (v (toN (x (toN zz1)))).dst (v (toN (x 0))).src) hL h0) <| .r 7 h1 <| .l) (by kernel_rfl)
def Ux (v:Nat->E6) (x:Nat->Int) (b k:Nat):E6:=bif Nat.blt k b then v (toN (x k)) else Bv
theorem AnM (v:Nat->E6) (x:Nat->Int) (b:Nat):BF (λk=>eV (Ux v x b k)) b (eV (v (toN (x b))))=λk=>eV (Ux v x (b+1) k):=by
 rw [Xb];funext i;unfold Ux Tr;by_cases h:i=b
 ·subst h
  rw [Nat.beq_refl,show Nat.blt i (i+1)=true from Nat.ble_eq_true_of_le (Nat.le_refl _)];rfl
 ·rw [Gs h]
  have:Nat.blt i (b+1)=Nat.blt i b:=by
   rw [Bool.eq_iff_iff];simp only [Nat.blt,Nat.ble_eq];omega
  rw [this];rfl
def YY:Lp:=⟨bmK 34 0 [0,3,15,16,17],2,bmK 34 0 [3],2,4611686018427387905⟩
def S44 (a n:Int) (m:Nat) (v:Nat->E6) (L:Nat) (x:Nat->Int) (c:Int) (g:Nat->V):St:=⟨jsV 34 0 Ac [(0,.pp (.agg [iV a,iV n,Am m v,Cn L x])),(3,.ref 1),(15,Cn L x),(16,nV L),(17,iV c)],[.row 46 6 0 Ac,.row 46 6 L g]⟩
noncomputable def B44:St->T (Ex×St):=λst=>A8 tab ⟨A6 tbZ,C6 [(0,YY,[])],Gl⟩ (A0 Tryz.f44 0) 0 st
theorem r44 {a n:Int} {m:Nat} {v:Nat->E6} {L:Nat} {x:Nat->Int} (hn:L <= 4611686018427387904) (hin:∀ i,i<L->Av (ile 0 (x i)) (ilt (x i) (ofNat m))=true):(Ax B44 YY 4611686018427387905 (S44 a n m v L x 0 (λk=>eV (Ux v x 0 k)))).sem=some (.ex 0,⟨jsV 34 0 Ac [(3,.ref 1)],[.row 46 6 0 Ac,.row 46 6 L λk=>eV (Ux v x L k)]⟩) :=
 Cj (S:=λb=>S44 a n m v L x (ofNat b) (λk=>eV (Ux v x b k))) (by intro h; cases h) (λb hb=>DW.rd (.k (ofNat_lt hb) <| .k (Af hb) <| .k (hin b hb) <| .k (Af hb) <| .k (decide_eq_true hb) <| .e (nm2 (f:=λc g=>S44 a n m v L x c g) (Cu (by omega)) (AnM v x b))) (by kernel_rfl)) (DW.rd (.k (A4 (Nat.le_refl L)) <| .l) (by kernel_rfl)) (by omega)
def Uw:List V->A2
 | [w]=>apS w λa n m v L x=>.br (srG m L x) (.br (F2 40 (ofNat L) (ofNat L)) (.leaf (.ref 0,[.row 46 6 L λk=>eV (v (toN (x k)))])) .fail) .fail
 | _=>.fail
theorem p44:As Tryz.prog Gl 44 Uw:=by
 refine Ah Az mixed Tryz.func44 (by kernel_rfl) (by kernel_rfl) λvs v0 h' h=>?_;unfold Uw at h;split at h
 rotate_left
 ·cases h
 rename_i w;obtain ⟨a,n,m,v,L,x,ha,h⟩:=JG h;obtain ⟨hg,h⟩:=Ab h;obtain ⟨hk,h⟩:=Ab h;obtain ⟨hl0,hn,hm,hin⟩:=Tx hg;cases Aa h;have hx:=Ba It [(0,YY,[])] (G:=Gl);exact ⟨[.pp (.agg [iV a,iV n,Am m v,Cn L x])],cxA Gl tbZ [(0,YY,[])],[.row 46 6 L λk=>eV (Ux v x L k)],Abk ha,rfl,hx.1,hx.2,DW.ok (.k hk <| .a (r44 (a:=a) (n:=n) (v:=v) hn hin) <| .l) (by kernel_rfl),Au.cons (λk hk=>by
  show eV (v (toN (x k)))=eV (Ux v x L k);unfold Ux;rw [show Nat.blt k L=true from Nat.ble_eq_true_of_le hk];rfl) (Au.refl _)⟩
def Ui (L:Nat) (x:Nat->Int) (b:Nat):Bool:=ilt (RJ (FF L b) (λi=>x (Bh b i)) x) 0
def Uj (L:Nat) (x:Nat->Int):Bool:=AL (isN (A1 (Ui L x) (L-1) 1))
abbrev Ak3:List V->A2:=srT λ_ _ _ _ L x=>(bV (Uj L x),[])
noncomputable def Aja:AH:=(105,cmT)::[]
theorem Af7:Ao Tryz.prog Gl Aja:=.cons Apw <| .nil
def Adv:Lp:=⟨bmK 33 0 [0,2,3],0,bmK 33 0 [2],0,4611686018427387905⟩
def Akl:List (Nat×Lp×List (Nat×(Nat->V))):=[(0,Adv,[])]
def S72 (a n:Int) (m:Nat) (v:Nat->E6) (L:Nat) (x:Nat->Int) (c:Int):St:=⟨jsV 33 0 Ac [(0,.pp (.agg [iV a,iV n,Am m v,Cn L x])),(2,bV false),(3,iV c)],[]⟩
noncomputable def B72:St->T (Ex×St):=λst=>A8 tab ⟨A6 Aja,C6 Akl,Gl⟩ (A0 Tryz.f72 0) 0 st
def e72 (o:Option Nat):Ex×St:=match o with
 | none=>(.ex 0,⟨jsV 33 0 Ac [(2,bV false)],[]⟩)
 | some _=>(.rt,⟨jsV 33 0 Ac [(2,bV true)],[]⟩)
theorem r72 {a n:Int} {m:Nat} {v:Nat->E6} {L:Nat} {x:Nat->Int} (hn:L <= 4611686018427387904):∀ d b q,0<b->b+d=L->d<q->(Ax B72 Adv q (S72 a n m v L x (ofNat b))).sem=some (e72 (A1 (Ui L x) d b))
 | 0,b,q,h0,h,hq=>by
  obtain ⟨q,rfl⟩:∃ o,q=o+1:=⟨q-1,by omega⟩;obtain rfl:L=b:=by omega
  exact Ae (t:=some (.ex 0,_)) (DW.rd (.k (A4 (Nat.le_refl L)) <| .l) (by kernel_rfl))
 | d+1,b,q,h0,h,hq=>by
  obtain ⟨q,rfl⟩:∃ o,q=o+1:=⟨q-1,by omega⟩;have hb:b<L:=by omega
  have hLb:=Alr (Nat.le_of_lt hb) hn;cases hq:Ui L x b with
  | true =>rw [Fl hq];exact Ae (t:=some (.rt,_)) (DW.rd (.k (ofNat_lt hb) <| .k (HW (Nat.le_of_lt hb)) <| .k (cg1 (λzz2=>Av (ile 0 zz2) (ile zz2 (ofNat L))) hLb (HW (Nat.sub_le L b))) <| .k (eL (FF L b)) <| .k (eL (toN (wr .i64 (Ay (ofNat L) (ofNat b))))) <| .k (cg1 (λzz2=>Fz (FF L b) (toN zz2)) hLb (eJ (FF L b))) <| .k (decide_eq_true (Nat.le_trans (Nat.sub_le L b) hn)) <| .k hq <| .l) (by kernel_rfl))
  | false =>
   rw [Gc hq,Ae (DW.rd (.k (ofNat_lt hb) <| .k (HW (Nat.le_of_lt hb)) <| .k (cg1 (λzz2=>Av (ile 0 zz2) (ile zz2 (ofNat L))) hLb (HW (Nat.sub_le L b))) <| .k (eL (FF L b)) <| .k (eL (toN (wr .i64 (Ay (ofNat L) (ofNat b))))) <| .k (cg1 (λzz2=>Fz (FF L b) (toN zz2)) hLb (eJ (FF L b))) <| .k (decide_eq_true (Nat.le_trans (Nat.sub_le L b) hn)) <| .k hq <| .e (nm1 (f:=λc=>S72 a n m v L x c) (Cu (by omega)))) (by kernel_rfl):Ap B72 Adv (S72 a n m v L x (ofNat b))=some (.nm,S72 a n m v L x (ofNat (b+1))))]
   exact r72 hn d (b+1) q (by omega) (by omega) (by omega)
theorem p72:As Tryz.prog Gl 72 Ak3:=by
 refine Ah Az mixed Tryz.func72 (by kernel_rfl) (by kernel_rfl) λvs v0 h' h=>?_;unfold Ak3 srT at h;split at h
 rotate_left
 ·cases h
 rename_i w;obtain ⟨a,n,m,v,L,x,ha,h⟩:=JG h;obtain ⟨hg,h⟩:=Ab h;obtain ⟨hl0,hn,hm,hin⟩:=Tx hg;cases Aa h;have hx:=Ba Af7 Akl (G:=Gl);refine ⟨[.pp (.agg [iV a,iV n,Am m v,Cn L x])],cxA Gl Aja Akl,_,Abk ha,rfl,hx.1,hx.2,?_,Au.refl _⟩;have hl1:L-1<L:=by omega
 have hL:=HJ hl0 hn;have hr:=r72 (a:=a) (n:=n) (m:=m) (v:=v) (x:=x) hn (L-1) 1 4611686018427387905 (by omega) (by omega) (by omega);unfold Uj;cases hf:A1 (Ui L x) (L-1) 1 with
 | none =>rw [hf] at hr;exact DW.ok (.a hr <| .l) (by kernel_rfl)
 | some t =>rw [hf] at hr;exact DW.ok (.a hr <| .l) (by kernel_rfl)
end Go.Proofs.YtkbgidbledjejaaGreat.En
