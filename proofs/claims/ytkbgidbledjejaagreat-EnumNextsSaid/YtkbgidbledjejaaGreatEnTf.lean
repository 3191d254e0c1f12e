/-
  Layer 6: the document's search behind a list, one list at a time. Conditions: short lists.
-/
import Derived.Test.YtkbgidbledjejaaGreatEnO
import Derived.Test.YtkbgidbledjejaaGreatEnNa
import Derived.Test.YtkbgidbledjejaaGreatEnU
namespace Go.Proofs.YtkbgidbledjejaaGreat.EnF
open Go.Sy Go Go.Proofs.YtkbgidbledjejaaGreat.En Go.Proofs.YtkbgidbledjejaaGreat.Ed
open Int (ofNat)
set_option maxRecDepth 100000
def Nq:Lp:=⟨bmK 134 0 [0,1,4,9],5,bmK 134 0 [4],5,4611686018427387905⟩
def Ap6:List (Nat×Lp×List (Nat×(Nat->V))):=[(0,Nq,[])]
noncomputable abbrev RI (E:List V->List Blk->A2):Cx:=⟨M5 [(37,Ra E)] (A6 AlV),C6 Ap6,Gl⟩
noncomputable def E37:Nat->List V->List Blk->A2
 | 0=>λ_ _=>.fail
 | d+1=>Uz (Ar tab (RI (E37 d)) Tryz.f37)
theorem AjT:∀ d,E4 Tryz.prog Gl 37 (E37 d)
 | 0=>by
  have hx:=Ba It [] (G:=Gl);exact E4.dep (GF (P:=Tryz.prog) Az (Γ:=cxA Gl tbZ []) mixed hx.1 hx.2 Tryz.func37 (by kernel_rfl) (by kernel_rfl)).1 λvs hp r hr=>by cases hr
 | d+1=>cut_ok (GF (P:=Tryz.prog) Az (Γ:=RI (E37 d)) mixed (Ij (.cons (AjT d).ask .nil) (Ep rfl AfO)) (MD _ _ _) Tryz.func37 (by kernel_rfl) (by kernel_rfl))
def E9 (a n q:Int) (k:Nat) (gf:Nat->V) (m:Nat) (v:Nat->E6) (z:Nat) (af:Nat->E6) (c:Nat) (g:Nat->V) (lv:Nat->Bool) (ln:Nat->Nat) (me:Nat->Nat->V) (fl:Bool):List Blk:=[.cells [iV a,.ref 2,iV n,iV q,Am z af,.jref 3,bV fl],.row 46 6 k gf,.row 46 6 m (λi=>eV (v i)),.jag ⟨22,1,c,g,0,46,6,lv,ln,me,none⟩,.saved [.ptr 0 0,.und,.und,.und]]
theorem DN (a n q:Int) (k:Nat) (gf:Nat->V) (m:Nat) (v:Nat->E6) (z:Nat) (af:Nat->E6) (c:Nat) (g:Nat->V) (lv:Nat->Bool) (ln:Nat->Nat) (me:Nat->Nat->V) (fl:Bool) (h:∀ i,i<c->lv i=true):Cg (E9 a n q k gf m v z af c g lv ln me fl)=true:=by
 simp only [E9,Cg,Bool.and_true,List.all_eq_true,List.mem_range];exact h
def S37 (a n q:Int) (k:Nat) (gf:Nat->V) (m:Nat) (v:Nat->E6) (z:Nat) (af:Nat->E6) (i:Int) (c:Nat) (g:Nat->V) (lv:Nat->Bool) (ln:Nat->Nat) (me:Nat->Nat->V):St:=⟨jsV 134 0 Ac [(0,.ptr 0 0),(1,.ref 1),(4,bV false),(9,iV i)],E9 a n q k gf m v z af c g lv ln me false⟩
def Afk (a n q:Int) (k:Nat) (gf:Nat->V) (m:Nat) (v:Nat->E6) (z:Nat) (af:Nat->E6) (c:Nat) (g:Nat->V) (lv:Nat->Bool) (ln:Nat->Nat) (me:Nat->Nat->V):Ex×St:=(.ex 0,⟨jsV 134 0 Ac [(4,bV false)],E9 a n q k gf m v z af c g lv ln me false⟩)
def Ab5 (a n q:Int) (k:Nat) (gf:Nat->V) (m:Nat) (v:Nat->E6) (z:Nat) (af:Nat->E6) (c:Nat) (g:Nat->V) (lv:Nat->Bool) (ln:Nat->Nat) (me:Nat->Nat->V):Ex×St:=(.rt,⟨jsV 134 0 Ac [(4,bV false)],E9 a n q k gf m v z af c g lv ln me true⟩)
noncomputable def B37 (E:List V->List Blk->A2):St->T (Ex×St):=λst=>A8 tab (RI E) (A0 Tryz.f37 0) 0 st
def good37 (a:Int) (k:Nat) (f:Nat->E6) (z:Nat) (af:Nat->E6):Bool:=sel (ile 2 (ofNat k)) (sel (ieq (Ft a k f).1 0) (sel (DJ k f) (ilt 0 (EG k f z af)) false) false) false
section
variable {a n q:Int} {k:Nat} {f:Nat->E6} {m:Nat} {v:Nat->E6} {z:Nat} {af:Nat->E6} {c:Nat} {g:Nat->V} {lv:Nat->Bool} {ln:Nat->Nat} {me:Nat->Nat->V} {E:List V->List Blk->A2}
theorem good_ok (h:good37 a k f z af=true):ile 2 (ofNat k)=true∧ieq (Ft a k f).1 0=true∧DJ k f=true∧ilt 0 (EG k f z af)=true:=by
 unfold good37 at h;cases h1:ile 2 (ofNat k) <;> cases h2:ieq (Ft a k f).1 0 <;> cases h3:DJ k f <;> cases h4:ilt 0 (EG k f z af) <;> rw [h1,h2,h3,h4] at h <;> first | exact ⟨rfl,rfl,rfl,rfl⟩ | cases h
variable (hk:BG k=true) (hz:BG z=true) (hlv:∀ i,i<c->lv i=true)
include hk hz hlv
theorem Aeh (hg:good37 a k f z af=true) (h5:ieq (ofNat c) q=true):(Uz (Ar tab (RI E) Tryz.f37) [.ptr 0 0,.ref 1] (E9 a n q k (λi=>eV (f i)) m v z af c g lv ln me false)).sem=some (bV false,E9 a n q k (λi=>eV (f i)) m v z af c g lv ln me true):=by
 obtain ⟨g1,g2,g3,g4⟩:=good_ok hg;exact DW.ok (.k g1 <| .k (DN a n q k (λi=>eV (f i)) m v z af c g lv ln me false hlv) <| .k (eL k) <| .k hk <| .r 2 g2 <| .k (DN a n q k (λi=>eV (f i)) m v z af c g lv ln me false hlv) <| .k (eL k) <| .k hk <| .k g2 <| .k g3 <| .k (DN a n q k (λi=>eV (f i)) m v z af c g lv ln me false hlv) <| .k (eL k) <| .k (eL z) <| .k hk <| .k hz <| .k g4 <| .k h5 <| .l) (by kernel_rfl)
section
variable (h6:ieq (ofNat k) n=true)
include h6
theorem Aei (hc:Ci c 1 24=true) (hg:good37 a k f z af=true) (h5:ieq (ofNat c) q=false):(Uz (Ar tab (RI E) Tryz.f37) [.ptr 0 0,.ref 1] (E9 a n q k (λi=>eV (f i)) m v z af c g lv ln me false)).sem=some (bV true,E9 a n q k (λi=>eV (f i)) m v z af (c+1) (AA c g .und) (Da lv c true) (Dq ln c k) (Dz me c λi=>eV (BR k f 0 i)) false):=by
 obtain ⟨g1,g2,g3,g4⟩:=good_ok hg;exact DW.ok (.k g1 <| .k (DN a n q k (λi=>eV (f i)) m v z af c g lv ln me false hlv) <| .k (eL k) <| .k hk <| .r 2 g2 <| .k (DN a n q k (λi=>eV (f i)) m v z af c g lv ln me false hlv) <| .k (eL k) <| .k hk <| .k g2 <| .k g3 <| .k (DN a n q k (λi=>eV (f i)) m v z af c g lv ln me false hlv) <| .k (eL k) <| .k (eL z) <| .k hk <| .k hz <| .k g4 <| .k h5 <| .k (DN a n q k (λi=>eV (f i)) m v z af c g lv ln me false hlv) <| .k (eL k) <| .k hk <| .k (rbE k λi=>BR k f 0 i) <| .k eT <| .k hc <| .k h6 <| .l) (by kernel_rfl)
theorem Aej (hg:good37 a k f z af=false):(Uz (Ar tab (RI E) Tryz.f37) [.ptr 0 0,.ref 1] (E9 a n q k (λi=>eV (f i)) m v z af c g lv ln me false)).sem=some (bV true,E9 a n q k (λi=>eV (f i)) m v z af c g lv ln me false):=by
 unfold good37 at hg;cases g1:ile 2 (ofNat k) with
 | false=>exact DW.ok (.k g1 <| .k h6 <| .l) (by kernel_rfl)
 | true =>
  cases g2:ieq (Ft a k f).1 0 with
  | false=>exact DW.ok (.k g1 <| .k (DN a n q k (λi=>eV (f i)) m v z af c g lv ln me false hlv) <| .k (eL k) <| .k hk <| .r 3 g2 <| .k eF <| .k h6 <| .l) (by kernel_rfl)
  | true =>
   cases g3:DJ k f with
   | false=>exact DW.ok (.k g1 <| .k (DN a n q k (λi=>eV (f i)) m v z af c g lv ln me false hlv) <| .k (eL k) <| .k hk <| .r 2 g2 <| .k (DN a n q k (λi=>eV (f i)) m v z af c g lv ln me false hlv) <| .k (eL k) <| .k hk <| .k g2 <| .k g3 <| .k h6 <| .l) (by kernel_rfl)
   | true =>
    cases g4:ilt 0 (EG k f z af) with
    | false=>exact DW.ok (.k g1 <| .k (DN a n q k (λi=>eV (f i)) m v z af c g lv ln me false hlv) <| .k (eL k) <| .k hk <| .r 2 g2 <| .k (DN a n q k (λi=>eV (f i)) m v z af c g lv ln me false hlv) <| .k (eL k) <| .k hk <| .k g2 <| .k g3 <| .k (DN a n q k (λi=>eV (f i)) m v z af c g lv ln me false hlv) <| .k (eL k) <| .k (eL z) <| .k hk <| .k hz <| .k g4 <| .k h6 <| .l) (by kernel_rfl)
    | true =>rw [g1,g2,g3,g4] at hg; cases hg
end
variable (h6:ieq (ofNat k) n=false) {c3:Nat} {g3:Nat->V} {lv3:Nat->Bool} {ln3:Nat->Nat} {me3:Nat->Nat->V}
include h6
theorem AkE (hc:Ci c 1 24=true) (hg:good37 a k f z af=true) (h5:ieq (ofNat c) q=false) (hr:(Ax (B37 E) Nq 4611686018427387905 (S37 a n q k (λi=>eV (f i)) m v z af 0 (c+1) (AA c g .und) (Da lv c true) (Dq ln c k) (Dz me c λi=>eV (BR k f 0 i)))).sem=some (Afk a n q k (λi=>eV (f i)) m v z af c3 g3 lv3 ln3 me3)):(Uz (Ar tab (RI E) Tryz.f37) [.ptr 0 0,.ref 1] (E9 a n q k (λi=>eV (f i)) m v z af c g lv ln me false)).sem=some (bV true,E9 a n q k (λi=>eV (f i)) m v z af c3 g3 lv3 ln3 me3 false):=by
 obtain ⟨g1,g2,g3,g4⟩:=good_ok hg;exact DW.ok (.k g1 <| .k (DN a n q k (λi=>eV (f i)) m v z af c g lv ln me false hlv) <| .k (eL k) <| .k hk <| .r 2 g2 <| .k (DN a n q k (λi=>eV (f i)) m v z af c g lv ln me false hlv) <| .k (eL k) <| .k hk <| .k g2 <| .k g3 <| .k (DN a n q k (λi=>eV (f i)) m v z af c g lv ln me false hlv) <| .k (eL k) <| .k (eL z) <| .k hk <| .k hz <| .k g4 <| .k h5 <| .k (DN a n q k (λi=>eV (f i)) m v z af c g lv ln me false hlv) <| .k (eL k) <| .k hk <| .k (rbE k λi=>BR k f 0 i) <| .k eT <| .k hc <| .k h6 <| .a hr <| .l) (by kernel_rfl)
theorem AkC (hc:Ci c 1 24=true) (hg:good37 a k f z af=true) (h5:ieq (ofNat c) q=false) (hr:(Ax (B37 E) Nq 4611686018427387905 (S37 a n q k (λi=>eV (f i)) m v z af 0 (c+1) (AA c g .und) (Da lv c true) (Dq ln c k) (Dz me c λi=>eV (BR k f 0 i)))).sem=some (Ab5 a n q k (λi=>eV (f i)) m v z af c3 g3 lv3 ln3 me3)):(Uz (Ar tab (RI E) Tryz.f37) [.ptr 0 0,.ref 1] (E9 a n q k (λi=>eV (f i)) m v z af c g lv ln me false)).sem=some (bV false,E9 a n q k (λi=>eV (f i)) m v z af c3 g3 lv3 ln3 me3 true):=by
 obtain ⟨g1,g2,g3,g4⟩:=good_ok hg;exact DW.ok (.k g1 <| .k (DN a n q k (λi=>eV (f i)) m v z af c g lv ln me false hlv) <| .k (eL k) <| .k hk <| .r 2 g2 <| .k (DN a n q k (λi=>eV (f i)) m v z af c g lv ln me false hlv) <| .k (eL k) <| .k hk <| .k g2 <| .k g3 <| .k (DN a n q k (λi=>eV (f i)) m v z af c g lv ln me false hlv) <| .k (eL k) <| .k (eL z) <| .k hk <| .k hz <| .k g4 <| .k h5 <| .k (DN a n q k (λi=>eV (f i)) m v z af c g lv ln me false hlv) <| .k (eL k) <| .k hk <| .k (rbE k λi=>BR k f 0 i) <| .k eT <| .k hc <| .k h6 <| .a hr <| .l) (by kernel_rfl)
theorem AkF (hg:good37 a k f z af=false) (hr:(Ax (B37 E) Nq 4611686018427387905 (S37 a n q k (λi=>eV (f i)) m v z af 0 c g lv ln me)).sem=some (Afk a n q k (λi=>eV (f i)) m v z af c3 g3 lv3 ln3 me3)):(Uz (Ar tab (RI E) Tryz.f37) [.ptr 0 0,.ref 1] (E9 a n q k (λi=>eV (f i)) m v z af c g lv ln me false)).sem=some (bV true,E9 a n q k (λi=>eV (f i)) m v z af c3 g3 lv3 ln3 me3 false):=by
 unfold good37 at hg;cases g1:ile 2 (ofNat k) with
 | false=>exact DW.ok (.k g1 <| .k h6 <| .a hr <| .l) (by kernel_rfl)
 | true =>
  cases g2:ieq (Ft a k f).1 0 with
  | false=>exact DW.ok (.k g1 <| .k (DN a n q k (λi=>eV (f i)) m v z af c g lv ln me false hlv) <| .k (eL k) <| .k hk <| .r 3 g2 <| .k eF <| .k h6 <| .a hr <| .l) (by kernel_rfl)
  | true =>
   cases g3:DJ k f with
   | false=>exact DW.ok (.k g1 <| .k (DN a n q k (λi=>eV (f i)) m v z af c g lv ln me false hlv) <| .k (eL k) <| .k hk <| .r 2 g2 <| .k (DN a n q k (λi=>eV (f i)) m v z af c g lv ln me false hlv) <| .k (eL k) <| .k hk <| .k g2 <| .k g3 <| .k h6 <| .a hr <| .l) (by kernel_rfl)
   | true =>
    cases g4:ilt 0 (EG k f z af) with
    | false=>exact DW.ok (.k g1 <| .k (DN a n q k (λi=>eV (f i)) m v z af c g lv ln me false hlv) <| .k (eL k) <| .k hk <| .r 2 g2 <| .k (DN a n q k (λi=>eV (f i)) m v z af c g lv ln me false hlv) <| .k (eL k) <| .k hk <| .k g2 <| .k g3 <| .k (DN a n q k (λi=>eV (f i)) m v z af c g lv ln me false hlv) <| .k (eL k) <| .k (eL z) <| .k hk <| .k hz <| .k g4 <| .k h6 <| .a hr <| .l) (by kernel_rfl)
    | true =>rw [g1,g2,g3,g4] at hg; cases hg
theorem AkD (hg:good37 a k f z af=false) (hr:(Ax (B37 E) Nq 4611686018427387905 (S37 a n q k (λi=>eV (f i)) m v z af 0 c g lv ln me)).sem=some (Ab5 a n q k (λi=>eV (f i)) m v z af c3 g3 lv3 ln3 me3)):(Uz (Ar tab (RI E) Tryz.f37) [.ptr 0 0,.ref 1] (E9 a n q k (λi=>eV (f i)) m v z af c g lv ln me false)).sem=some (bV false,E9 a n q k (λi=>eV (f i)) m v z af c3 g3 lv3 ln3 me3 true):=by
 unfold good37 at hg;cases g1:ile 2 (ofNat k) with
 | false=>exact DW.ok (.k g1 <| .k h6 <| .a hr <| .l) (by kernel_rfl)
 | true =>
  cases g2:ieq (Ft a k f).1 0 with
  | false=>exact DW.ok (.k g1 <| .k (DN a n q k (λi=>eV (f i)) m v z af c g lv ln me false hlv) <| .k (eL k) <| .k hk <| .r 3 g2 <| .k eF <| .k h6 <| .a hr <| .l) (by kernel_rfl)
  | true =>
   cases g3:DJ k f with
   | false=>exact DW.ok (.k g1 <| .k (DN a n q k (λi=>eV (f i)) m v z af c g lv ln me false hlv) <| .k (eL k) <| .k hk <| .r 2 g2 <| .k (DN a n q k (λi=>eV (f i)) m v z af c g lv ln me false hlv) <| .k (eL k) <| .k hk <| .k g2 <| .k g3 <| .k h6 <| .a hr <| .l) (by kernel_rfl)
   | true =>
    cases g4:ilt 0 (EG k f z af) with
    | false=>exact DW.ok (.k g1 <| .k (DN a n q k (λi=>eV (f i)) m v z af c g lv ln me false hlv) <| .k (eL k) <| .k hk <| .r 2 g2 <| .k (DN a n q k (λi=>eV (f i)) m v z af c g lv ln me false hlv) <| .k (eL k) <| .k hk <| .k g2 <| .k g3 <| .k (DN a n q k (λi=>eV (f i)) m v z af c g lv ln me false hlv) <| .k (eL k) <| .k (eL z) <| .k hk <| .k hz <| .k g4 <| .k h6 <| .a hr <| .l) (by kernel_rfl)
    | true =>rw [g1,g2,g3,g4] at hg; cases hg
end
section
variable {a n q:Int} {k:Nat} {f:Nat->E6} {m:Nat} {v:Nat->E6} {z:Nat} {af:Nat->E6} {c:Nat} {g:Nat->V} {lv:Nat->Bool} {ln:Nat->Nat} {me:Nat->Nat->V} {E:List V->List Blk->A2}
theorem Am1:Ap (B37 E) Nq (S37 a n q k (λi=>eV (f i)) m v z af (ofNat m) c g lv ln me)=some (Afk a n q k (λi=>eV (f i)) m v z af c g lv ln me):=DW.rd (.k (A4 (Nat.le_refl m)) <| .l) (by kernel_rfl)
variable {b:Nat} (hb:b<m) (hm:m <= 4611686018427387904)
include hb hm
section
variable (hk0:0<k) (hk4:k <= 4611686018427387904)
include hk0 hk4
theorem AhP (h:sel (ieq (f (k-1)).dst (v b).src) (ilt (Al (v b)) (Al (f 0))) true=true):Ap (B37 E) Nq (S37 a n q k (λi=>eV (f i)) m v z af (ofNat b) c g lv ln me)=some (.nm,S37 a n q k (λi=>eV (f i)) m v z af (ofNat (b+1)) c g lv ln me):=by
 have hL:=HJ hk0 hk4;have hk1:k-1<k:=by omega
 have h0:ilt 0 (ofNat k)=true:=decide_eq_true (by show (0:Int)<(k:Int); omega);cases h1:ieq (f (k-1)).dst (v b).src with
 | false=>exact DW.rd (.k (ofNat_lt hb) <| .k (Af hb) <| .k (decide_eq_true hb) <| .k h0 <| .k (cg1 (λzz0=>Av (ile 0 zz0) (ilt zz0 (ofNat k))) hL (Af hk1)) <| .k (cg1 (λzz0=>nlt (toN zz0) k) hL (decide_eq_true hk1)) <| .k (Af hk0) <| .k (decide_eq_true hk0) <| .r 4 (cg1 (λzz0=>AL (ieq (f (toN zz0)).dst (v b).src)) hL (eN h1)) <| .k eT <| .e (nm1 (f:=λi=>S37 a n q k (λi=>eV (f i)) m v z af i c g lv ln me) (Cu (by omega)))) (by kernel_rfl)
 | true =>rw [h1] at h;have h2:ilt (Al (v b)) (Al (f 0))=true:=h;exact DW.rd (.k (ofNat_lt hb) <| .k (Af hb) <| .k (decide_eq_true hb) <| .k h0 <| .k (cg1 (λzz0=>Av (ile 0 zz0) (ilt zz0 (ofNat k))) hL (Af hk1)) <| .k (cg1 (λzz0=>nlt (toN zz0) k) hL (decide_eq_true hk1)) <| .k (Af hk0) <| .k (decide_eq_true hk0) <| .r 4 (cg1 (λzz0=>AL (ieq (f (toN zz0)).dst (v b).src)) hL (eN h1)) <| .k h2 <| .e (nm1 (f:=λi=>S37 a n q k (λi=>eV (f i)) m v z af i c g lv ln me) (Cu (by omega)))) (by kernel_rfl)
end
variable (hk:BG k=true) (ha:Ci k 1 40=true) (hlv:∀ i,i<c->lv i=true) {c2:Nat} {g2:Nat->V} {lv2:Nat->Bool} {ln2:Nat->Nat} {me2:Nat->Nat->V}
include hk ha hlv
section
variable (hk0:0<k) (hk4:k <= 4611686018427387904) (h1:ieq (f (k-1)).dst (v b).src=true) (h2:ilt (Al (v b)) (Al (f 0))=false)
include hk0 hk4 h1 h2
theorem AhO (hE:(E [.ptr 0 0,.ref 1] (E9 a n q (Bh k 1) (AA k (λi=>eV (BR k f 0 i)) (Cy 1 [eV (v b)] 0)) m v z af c g lv ln me false)).sem=some (bV true,E9 a n q (Bh k 1) (AA k (λi=>eV (BR k f 0 i)) (Cy 1 [eV (v b)] 0)) m v z af c2 g2 lv2 ln2 me2 false)):Ap (B37 E) Nq (S37 a n q k (λi=>eV (f i)) m v z af (ofNat b) c g lv ln me)=some (.nm,S37 a n q k (λi=>eV (f i)) m v z af (ofNat (b+1)) c2 g2 lv2 ln2 me2):=by
 have hL:=HJ hk0 hk4;have hk1:k-1<k:=by omega
 have h0:ilt 0 (ofNat k)=true:=decide_eq_true (by show (0:Int)<(k:Int); omega);exact DW.rd (.k (ofNat_lt hb) <| .k (Af hb) <| .k (decide_eq_true hb) <| .k h0 <| .k (cg1 (λzz0=>Av (ile 0 zz0) (ilt zz0 (ofNat k))) hL (Af hk1)) <| .k (cg1 (λzz0=>nlt (toN zz0) k) hL (decide_eq_true hk1)) <| .k (Af hk0) <| .k (decide_eq_true hk0) <| .r 4 (cg1 (λzz0=>AL (ieq (f (toN zz0)).dst (v b).src)) hL (eN h1)) <| .k h2 <| .k (DN a n q k (λi=>eV (f i)) m v z af c g lv ln me false hlv) <| .k (eL k) <| .k hk <| .k (rbE k λi=>BR k f 0 i) <| .k ha <| .a (CX hE) <| .k (eN eT) <| .e (nm1 (f:=λi=>S37 a n q k (λi=>eV (f i)) m v z af i c2 g2 lv2 ln2 me2) (Cu (by omega)))) (by kernel_rfl)
theorem Am0 (hE:(E [.ptr 0 0,.ref 1] (E9 a n q (Bh k 1) (AA k (λi=>eV (BR k f 0 i)) (Cy 1 [eV (v b)] 0)) m v z af c g lv ln me false)).sem=some (bV false,E9 a n q (Bh k 1) (AA k (λi=>eV (BR k f 0 i)) (Cy 1 [eV (v b)] 0)) m v z af c2 g2 lv2 ln2 me2 true)):Ap (B37 E) Nq (S37 a n q k (λi=>eV (f i)) m v z af (ofNat b) c g lv ln me)=some (Ab5 a n q k (λi=>eV (f i)) m v z af c2 g2 lv2 ln2 me2):=by
 have _:=hm
 have hL:=HJ hk0 hk4;have hk1:k-1<k:=by omega
 have h0:ilt 0 (ofNat k)=true:=decide_eq_true (by show (0:Int)<(k:Int); omega);exact DW.rd (.k (ofNat_lt hb) <| .k (Af hb) <| .k (decide_eq_true hb) <| .k h0 <| .k (cg1 (λzz0=>Av (ile 0 zz0) (ilt zz0 (ofNat k))) hL (Af hk1)) <| .k (cg1 (λzz0=>nlt (toN zz0) k) hL (decide_eq_true hk1)) <| .k (Af hk0) <| .k (decide_eq_true hk0) <| .r 4 (cg1 (λzz0=>AL (ieq (f (toN zz0)).dst (v b).src)) hL (eN h1)) <| .k h2 <| .k (DN a n q k (λi=>eV (f i)) m v z af c g lv ln me false hlv) <| .k (eL k) <| .k hk <| .k (rbE k λi=>BR k f 0 i) <| .k ha <| .a (CX hE) <| .k (eN eF) <| .l) (by kernel_rfl)
end
variable (h0:ilt 0 (ofNat k)=false)
include h0
theorem AcF (hE:(E [.ptr 0 0,.ref 1] (E9 a n q (Bh k 1) (AA k (λi=>eV (BR k f 0 i)) (Cy 1 [eV (v b)] 0)) m v z af c g lv ln me false)).sem=some (bV true,E9 a n q (Bh k 1) (AA k (λi=>eV (BR k f 0 i)) (Cy 1 [eV (v b)] 0)) m v z af c2 g2 lv2 ln2 me2 false)):Ap (B37 E) Nq (S37 a n q k (λi=>eV (f i)) m v z af (ofNat b) c g lv ln me)=some (.nm,S37 a n q k (λi=>eV (f i)) m v z af (ofNat (b+1)) c2 g2 lv2 ln2 me2):=DW.rd (.k (ofNat_lt hb) <| .k (Af hb) <| .k (decide_eq_true hb) <| .k h0 <| .k (DN a n q k (λi=>eV (f i)) m v z af c g lv ln me false hlv) <| .k (eL k) <| .k hk <| .k (rbE k λi=>BR k f 0 i) <| .k ha <| .a (CX hE) <| .k (eN eT) <| .e (nm1 (f:=λi=>S37 a n q k (λi=>eV (f i)) m v z af i c2 g2 lv2 ln2 me2) (Cu (by omega)))) (by kernel_rfl)
theorem Aj2 (hE:(E [.ptr 0 0,.ref 1] (E9 a n q (Bh k 1) (AA k (λi=>eV (BR k f 0 i)) (Cy 1 [eV (v b)] 0)) m v z af c g lv ln me false)).sem=some (bV false,E9 a n q (Bh k 1) (AA k (λi=>eV (BR k f 0 i)) (Cy 1 [eV (v b)] 0)) m v z af c2 g2 lv2 ln2 me2 true)):Ap (B37 E) Nq (S37 a n q k (λi=>eV (f i)) m v z af (ofNat b) c g lv ln me)=some (Ab5 a n q k (λi=>eV (f i)) m v z af c2 g2 lv2 ln2 me2):=have _:=hm;DW.rd (.k (ofNat_lt hb) <| .k (Af hb) <| .k (decide_eq_true hb) <| .k h0 <| .k (DN a n q k (λi=>eV (f i)) m v z af c g lv ln me false hlv) <| .k (eL k) <| .k hk <| .k (rbE k λi=>BR k f 0 i) <| .k ha <| .a (CX hE) <| .k (eN eF) <| .l) (by kernel_rfl)
end
end Go.Proofs.YtkbgidbledjejaaGreat.EnF
namespace Go.Proofs.YtkbgidbledjejaaGreat.EnF
open Go.Sy Go Go.Proofs.YtkbgidbledjejaaGreat.En Go.Proofs.YtkbgidbledjejaaGreat.Ed
open Int (ofNat)
theorem Akx {a:Int} {k:Nat} {f:Nat->E6} (g2:ieq (Ft a k f).1 0=true) (g3:DJ k f=true):isB a k f=true:=by
 unfold DJ at g3;cases hm:By k f with
 | false=>rw [hm] at g3; cases g3
 | true =>rw [hm] at g3;have g3:=(CM.1 g3).2;unfold isB;rw [g2,hm];exact CM.2 ⟨rfl,λi hi=>(OS hm (λ_ _=>rfl) i hi).trans (g3 i hi).symm⟩
theorem good37_eq {a:Int} {k:Nat} {f:Nat->E6} {z:Nat} {af:Nat->E6}:good37 a k f z af=(isB a k f && ilt 0 (EG k f z af)):=by
 rw [Bool.eq_iff_iff,Bool.and_eq_true];constructor
 ·intro h
  obtain ⟨_,g2,g3,g4⟩:=good_ok h;exact ⟨Akx g2 g3,g4⟩
 ·rintro ⟨h,g4⟩
  rw [<- En.good37_eq (af:=af)] at h;obtain ⟨g1,g2,g3,_⟩:=En.good_ok h;unfold good37;rw [g1,g2,g3,g4];rfl
theorem Holds9.app {v:Nat->E6} {c:Nat} {ln me ln2 me2} {ws ws2:List (List Nat)} (h1:Holds9 v ws c ln me) (h2:Holds9 v ws2 (c+ws.length) ln2 me2) (h:∀ i,i<c+ws.length->ln2 i=ln i∧me2 i=me i):Holds9 v (ws++ws2) c ln2 me2:=by
 refine ⟨λj hj=>?_,λj hj t ht=>?_⟩
 ·rcases Nat.lt_or_ge j ws.length with hj1 | hj1
  ·rw [(h (c+j) (by omega)).1,h1.len j hj1,SN hj1]
  ·obtain ⟨i,rfl⟩:∃ i,j=ws.length+i:=⟨j-ws.length,by omega⟩
   rw [<- Nat.add_assoc,h2.len i (by rw [List.length_append] at hj; omega),SL]
 ·rcases Nat.lt_or_ge j ws.length with hj1 | hj1
  ·rw [SN hj1] at ht ⊢
   rw [(h (c+j) (by omega)).2,h1.el j hj1 t ht]
  ·obtain ⟨i,rfl⟩:∃ i,j=ws.length+i:=⟨j-ws.length,by omega⟩
   rw [SL] at ht ⊢;rw [<- Nat.add_assoc,h2.el i (by rw [List.length_append] at hj; omega) t ht]
theorem SE {v:Nat->E6} {c:Nat} {ln me}:Holds9 v [] c ln me:=⟨λj hj=>absurd hj (Nat.not_lt_zero _),λj hj=>absurd hj (Nat.not_lt_zero _)⟩
def JJ (q:Int) (v:Nat->E6) (c:Nat) (ln:Nat->Nat) (me:Nat->Nat->V) (ws:List (List Nat)) (G B:Alg):Prop :=
 ∃ p g' lv' ln' me',(∀ i,i<c+p->lv' i=true)∧(∀ i,i<c->ln' i=ln i∧me' i=me i)∧Holds9 v (ws.take p) c ln' me'∧((p=ws.length∧ofNat (c+p) <= q∧G (c+p) g' lv' ln' me') ∨ (p<ws.length∧ofNat (c+p)=q∧B (c+p) g' lv' ln' me'))
section
variable {q:Int} {v:Nat->E6} {c:Nat} {ln:Nat->Nat} {me:Nat->Nat->V} {ws ws2:List (List Nat)} {G1 B1 G B:Alg}
theorem JJ.app (h:JJ q v c ln me ws G1 B1) (hb:∀ c' g' lv' ln' me',B1 c' g' lv' ln' me'->B c' g' lv' ln' me') (hg:∀ g' lv' ln' me',G1 (c+ws.length) g' lv' ln' me'->(∀ i,i<c+ws.length->lv' i=true)->ofNat (c+ws.length) <= q->JJ q v (c+ws.length) ln' me' ws2 G B):JJ q v c ln me (ws++ws2) G B:=by
 obtain ⟨p,g',lv',ln',me',h3,h4,h5,⟨rfl,h6,h7⟩ | ⟨h6,h7,h8⟩⟩:=h
 ·obtain ⟨p2,g2,lv2,ln2,me2,k3,k4,k5,k6⟩:=hg g' lv' ln' me' h7 h3 h6
  rw [List.take_length] at h5;refine ⟨ws.length+p2,g2,lv2,ln2,me2,λi hi=>k3 i (by omega),λi hi=>?_,?_,?_⟩
  ·obtain ⟨p1,p2⟩:=k4 i (by omega)
   obtain ⟨p3,p4⟩:=h4 i hi;exact ⟨p1.trans p3,p2.trans p4⟩
  ·rw [List.take_length_add_append]
   exact EnF.Holds9.app h5 k5 k4
  ·rw [List.length_append,<- Nat.add_assoc]
   rcases k6 with ⟨e,k⟩ | ⟨e,k⟩
   ·exact .inl ⟨by omega,k⟩
   ·exact .inr ⟨by omega,k⟩
 ·exact ⟨p,g',lv',ln',me',h3,h4,by rw [List.take_append_of_le_length (by omega)]; exact h5,.inr ⟨by rw [List.length_append]; omega,h7,hb _ _ _ _ _ h8⟩⟩
theorem JJ.nil {g:Nat->V} {lv:Nat->Bool} (hq:ofNat c <= q) (h:G c g lv ln me) (hlv:∀ i,i<c->lv i=true):JJ q v c ln me [] G B :=
 ⟨0,g,lv,ln,me,hlv,λ_ _=>⟨rfl,rfl⟩,SE,.inl ⟨rfl,hq,h⟩⟩
theorem JJ.map (h:JJ q v c ln me ws G1 B1) (hg:∀ c' g' lv' ln' me',G1 c' g' lv' ln' me'->G c' g' lv' ln' me') (hb:∀ c' g' lv' ln' me',B1 c' g' lv' ln' me'->B c' g' lv' ln' me'):JJ q v c ln me ws G B:=by
 obtain ⟨p,g',lv',ln',me',h3,h4,h5,⟨h6,h7,h8⟩ | ⟨h6,h7,h8⟩⟩:=h
 ·exact ⟨p,g',lv',ln',me',h3,h4,h5,.inl ⟨h6,h7,hg _ _ _ _ _ h8⟩⟩
 ·exact ⟨p,g',lv',ln',me',h3,h4,h5,.inr ⟨h6,h7,hb _ _ _ _ _ h8⟩⟩
end
section
variable {a q:Int} {m N:Nat} {v:Nat->E6} {z:Nat} {af:Nat->E6} (hm:m <= 112) (hN:N <= 16) (hq2:q <= 65536) (hlt:∀ i j,i<m->j<m->ilt (Al (v i)) (Al (v j))=Nat.blt i j)
abbrev Zq (a:Int) (v:Nat->E6) (z:Nat) (af:Nat->E6) (r:List Nat):Bool:=BW a v r && MG v z af r
abbrev onF (a:Int) (m:Nat) (v:Nat->E6) (z:Nat) (af:Nat->E6) (d:Nat) (r:List Nat):List (List Nat):=onL m (okP v) (Zq a v z af) (λ_=>true) d r
def Aos (a q:Int) (m N:Nat) (v:Nat->E6) (z:Nat) (af:Nat->E6) (d:Nat):Prop:=∀ (r:List Nat) (k:Nat) (f:Nat->E6) (c:Nat) (g:Nat->V) (lv:Nat->Bool) (ln:Nat->Nat) (me:Nat->Nat->V),r.length=k->(∀ i,i<k->f i=v (wd r i))->(∀ e,e ∈ r->e<m)->k+d=N->c <= 65536->ofNat c <= q->(∀ i,i<c->lv i=true) ->
 JJ q v c ln me (onF a m v z af d r) (λc' g' lv' ln' me'=>(E37 (d+1) [.ptr 0 0,.ref 1] (E9 a (ofNat N) q k (λi=>eV (f i)) m v z af c g lv ln me false)).sem=some (bV true,E9 a (ofNat N) q k (λi=>eV (f i)) m v z af c' g' lv' ln' me' false))
  (λc' g' lv' ln' me'=>(E37 (d+1) [.ptr 0 0,.ref 1] (E9 a (ofNat N) q k (λi=>eV (f i)) m v z af c g lv ln me false)).sem=some (bV false,E9 a (ofNat N) q k (λi=>eV (f i)) m v z af c' g' lv' ln' me' true))
include hm hN hq2 hlt in
theorem XA {d:Nat} (ih:Aos a q m N v z af d) {r:List Nat} {k:Nat} {f:Nat->E6} (hk:r.length=k) (hf:∀ i,i<k->f i=v (wd r i)) (hr:∀ e,e ∈ r->e<m) (hd:k+(d+1)=N):∀ (dd b:Nat) (c:Nat) (g:Nat->V) (lv:Nat->Bool) (ln:Nat->Nat) (me:Nat->Nat->V) (M:Nat),b+dd=m->c <= 65536->ofNat c <= q->(∀ i,i<c->lv i=true)->dd<M ->
  JJ q v c ln me (((List.range m).drop b).flatMap λe=>bif okP v r e then onF a m v z af d (e::r) else []) (λc' g' lv' ln' me'=>(Ax (B37 (E37 (d+1))) Nq M (S37 a (ofNat N) q k (λi=>eV (f i)) m v z af (ofNat b) c g lv ln me)).sem=some (Afk a (ofNat N) q k (λi=>eV (f i)) m v z af c' g' lv' ln' me'))
   (λc' g' lv' ln' me'=>(Ax (B37 (E37 (d+1))) Nq M (S37 a (ofNat N) q k (λi=>eV (f i)) m v z af (ofNat b) c g lv ln me)).sem=some (Ab5 a (ofNat N) q k (λi=>eV (f i)) m v z af c' g' lv' ln' me'))
 | 0,b,c,g,lv,ln,me,M,hb,hc,hq,hlv,hM=>by
  obtain ⟨M,rfl⟩:∃ o,M=o+1:=⟨M-1,by omega⟩;obtain rfl:b=m:=by omega
  rw [List.drop_eq_nil_of_le (by simp),List.flatMap_nil];exact JJ.nil (g:=g) (lv:=lv) hq (Ae Am1) hlv
 | dd+1,b,c,g,lv,ln,me,M,hb,hc,hq,hlv,hM=>by
  obtain ⟨M,rfl⟩:∃ o,M=o+1:=⟨M-1,by omega⟩;have hbm:b<m:=by omega
  have hm4:m <= 4611686018427387904:=by omega
  have hfk:BG k=true:=decide_eq_true (by omega);have hak:Ci k 1 40=true:=decide_eq_true (by omega);rw [QL hbm,List.flatMap_cons];have next:=λc g lv ln me h1 h2 h3=>XA ih hk hf hr hd dd (b+1) c g lv ln me M (by omega) h1 h2 h3 (by omega)
  have hch:=ih (b::r) (k+1) (nxF k f (v b)) c g lv ln me (by rw [List.length_cons,hk]) (λi hi=>by
   unfold nxF;by_cases e:i=k
   ·subst e
    rw [Nat.beq_refl,<- hk,Gx];rfl
   ·rw [Gs e,O3 (y:=0) (by omega),<- hf i (by omega)]
    exact AhC (by omega)) (λe he=>by
   rcases List.mem_cons.1 he with rfl | he
   ·exact hbm
   ·exact hr e he) (by omega) hc hq hlv
  rw [<- Akb] at hch;rcases Nat.eq_zero_or_pos k with hk0 | hk0
  ·have hr0:r=[]:=List.length_eq_zero_iff.1 (by omega)
   have h0:ilt 0 (ofNat k)=false:=by rw [hk0]; rfl
   rw [show okP v r b=true by rw [hr0]; rfl];refine JJ.app hch (λc' g' lv' ln' me' hE=>?_) λg' lv' ln' me' hE hlv' hq'=>?_
   ·exact Ae (Aj2 hbm hm4 hfk hak hlv h0 hE)
   ·refine (next _ g' lv' ln' me' (by simp only [Int.ofNat_eq_natCast] at *; omega) hq' hlv').map (λc' g2 lv2 ln2 me2 h=>?_) λc' g2 lv2 ln2 me2 h=>?_
    ·rw [Ae (AcF hbm hm4 hfk hak hlv h0 hE)]; exact h
    ·rw [Ae (AcF hbm hm4 hfk hak hlv h0 hE)]; exact h
  ·have ho:=Ag1 hk hk0 hf hr hbm hlt
   have hk4:k <= 4611686018427387904:=by omega
   cases h1:okP v r b with
   | false =>
    rw [h1] at ho;have hs:sel (ieq (f (k-1)).dst (v b).src) (ilt (Al (v b)) (Al (f 0))) true=true:=by
     cases h2:ieq (f (k-1)).dst (v b).src with
     | false=>rfl
     | true =>
      rw [h2] at ho;cases h3:ilt (Al (v b)) (Al (f 0)) with
      | true=>rfl
      | false=>rw [h3] at ho; cases ho
    show JJ q v c ln me ([]++_) _ _;rw [List.nil_append];refine (next c g lv ln me hc hq hlv).map (λc' g2 lv2 ln2 me2 h=>?_) λc' g2 lv2 ln2 me2 h=>?_
    ·rw [Ae (AhP hbm hm4 hk0 hk4 hs)]; exact h
    ·rw [Ae (AhP hbm hm4 hk0 hk4 hs)]; exact h
   | true =>
    rw [h1] at ho;obtain ⟨t1,t2⟩:=Bf ho.symm;have t2:ilt (Al (v b)) (Al (f 0))=false:=by
     cases h3:ilt (Al (v b)) (Al (f 0)) with
     | false=>rfl
     | true=>rw [h3] at t2; cases t2
    refine JJ.app hch (λc' g' lv' ln' me' hE=>?_) λg' lv' ln' me' hE hlv' hq'=>?_
    ·exact Ae (Am0 hbm hm4 hfk hak hlv hk0 hk4 t1 t2 hE)
    ·refine (next _ g' lv' ln' me' (by simp only [Int.ofNat_eq_natCast] at *; omega) hq' hlv').map (λc' g2 lv2 ln2 me2 h=>?_) λc' g2 lv2 ln2 me2 h=>?_
     ·rw [Ae (AhO hbm hm4 hfk hak hlv hk0 hk4 t1 t2 hE)]; exact h
     ·rw [Ae (AhO hbm hm4 hfk hak hlv hk0 hk4 t1 t2 hE)]; exact h
include hm hN hq2 hlt in
theorem AcX (hz:BG z=true):∀ d,Aos a q m N v z af d
 | d,r,k,f,c,g,lv,ln,me,hk,hf,hr,hd,hc,hq,hlv=>by
  have hfk:BG k=true:=decide_eq_true (by omega);have hgd:good37 a k f z af=Zq a v z af r:=by
   rw [good37_eq];unfold Zq BW MG;rw [hk,Nx (f:=wE v r) λi hi=>hf i hi,KY (f':=wE v r) λi hi=>hf i hi]
  cases hg:Zq a v z af r with
  | true =>
   rw [hg] at hgd;cases hfull:ieq (ofNat c) q with
   | true =>
    have h5:=Cz hfull;have hlen:1 <= (onF a m v z af d r).length:=by
     unfold onF;cases d <;> (unfold onL; rw [hg]; simp)
    exact ⟨0,g,lv,ln,me,hlv,λ_ _=>⟨rfl,rfl⟩,SE,.inr ⟨by omega,h5,Aeh hfk hz hlv hgd hfull⟩⟩
   | false =>
    have hne:ofNat c ≠ q:=λh=>by rw [h,eI] at hfull; cases hfull
    have hc1:c+1 <= 65536:=by simp only [Int.ofNat_eq_natCast] at *; omega
    have hq1:ofNat (c+1) <= q:=by simp only [Int.ofNat_eq_natCast] at *; omega
    have hca:Ci c 1 24=true:=decide_eq_true (by omega);obtain ⟨e1,e2,e3⟩:=Abd (v:=v) (c:=c) (ln:=ln) (me:=me) (lv:=lv) hk hf hlv
    match d with
    | 0 =>
     have h6:ieq (ofNat k) (ofNat N)=true:=by rw [show k=N by omega]; exact eI _
     have hW:onF a m v z af 0 r=[r]:=by unfold onF onL; rw [hg]; rfl
     rw [hW];exact ⟨1,_,_,_,_,e1,e2,e3,.inl ⟨rfl,hq1,Aei hfk hz hlv h6 hca hgd hfull⟩⟩
    | d+1 =>
     have h6:ieq (ofNat k) (ofNat N)=false:=by
      cases h:ieq (ofNat k) (ofNat N) with
      | false=>rfl
      | true=>have:=Int.ofNat.inj (Cz h); omega
     have hW:onF a m v z af (d+1) r=[r]++((List.range m).drop 0).flatMap λe=>bif okP v r e then onF a m v z af d (e::r) else []:=by
      unfold onF;rw [onL,hg,List.filter_eq_self.2 λ_ _=>rfl,List.drop_zero];rfl
     rw [hW];refine JJ.app (G1:=λc' g' lv' ln' me'=>c'=c+1∧g'=AA c g .und∧lv'=Da lv c true∧ln'=Dq ln c k∧me'=Dz me c λi=>eV (BR k f 0 i)) (B1:=λ_ _ _ _ _=>False) ⟨1,_,_,_,_,e1,e2,e3,.inl ⟨rfl,hq1,⟨rfl,rfl,rfl,rfl,rfl⟩⟩⟩ (λ_ _ _ _ _ h=>h.elim) λg' lv' ln' me' he hlv' hq'=>?_;obtain ⟨_,rfl,rfl,rfl,rfl⟩:=he;refine (XA (a:=a) (z:=z) (af:=af) hm hN hq2 hlt (AcX hz d) hk hf hr hd m 0 (c+1) (AA c g .und) (Da lv c true) (Dq ln c k) (Dz me c λi=>eV (BR k f 0 i)) 4611686018427387905 (by omega) hc1 hq1 hlv' (by omega)).map (λc' g2 lv2 ln2 me2 h=>?_) λc' g2 lv2 ln2 me2 h=>?_
     ·exact AkE hfk hz hlv h6 hca hgd hfull h
     ·exact AkC hfk hz hlv h6 hca hgd hfull h
  | false =>
   rw [hg] at hgd
   match d with
   | 0 =>
    have h6:ieq (ofNat k) (ofNat N)=true:=by rw [show k=N by omega]; exact eI _
    have hW:onF a m v z af 0 r=[]:=by unfold onF onL; rw [hg]; rfl
    rw [hW];exact JJ.nil (g:=g) (lv:=lv) hq (Aej hfk hz hlv h6 hgd) hlv
   | d+1 =>
    have h6:ieq (ofNat k) (ofNat N)=false:=by
     cases h:ieq (ofNat k) (ofNat N) with
     | false=>rfl
     | true=>have:=Int.ofNat.inj (Cz h); omega
    have hW:onF a m v z af (d+1) r=((List.range m).drop 0).flatMap λe=>bif okP v r e then onF a m v z af d (e::r) else []:=by
     unfold onF;rw [onL,hg,List.filter_eq_self.2 λ_ _=>rfl,List.drop_zero];rfl
    rw [hW];refine (XA (a:=a) (z:=z) (af:=af) hm hN hq2 hlt (AcX hz d) hk hf hr hd m 0 c g lv ln me 4611686018427387905 (by omega) hc hq hlv (by omega)).map (λc' g2 lv2 ln2 me2 h=>?_) λc' g2 lv2 ln2 me2 h=>?_
    ·exact AkF hfk hz hlv h6 hgd h
    ·exact AkD hfk hz hlv h6 hgd h
end
end Go.Proofs.YtkbgidbledjejaaGreat.EnF
namespace Go.Proofs.YtkbgidbledjejaaGreat.EnF
open Go.Sy Go Go.Proofs.YtkbgidbledjejaaGreat.En Go.Proofs.YtkbgidbledjejaaGreat.Ed
open Int (ofNat)
set_option maxRecDepth 100000
def z37:List (Nat×(Nat->V)):=[(1,λ_=>eV Bv)]
noncomputable def Afh (vs:List V) (h:List Blk):A2:=match h with
 | .cells [_,_,.val (.int .i64 n),_,_,_,_]::_=>E37 (toN n+1) vs (K9 ⟨vs,h⟩ z37).h
 | _=>.fail
theorem Apf:E4 Tryz.prog Gl 37 Afh:=E4.dep (AjT 0).1 λvs hp r hr=>by
 unfold Afh at hr;split at hr
 ·exact ⟨_,fill_ok (AjT _) z37,hr⟩
 ·cases hr
noncomputable abbrev Aoc:Cx:=⟨M5 [(37,Ra Afh)] (A6 En.tb10),C6 [],Gl⟩
noncomputable def F20 (vs:List V):A2:=AK (Ar tab Aoc Tryz.f20 vs [])
theorem Apj:As Tryz.prog Gl 20 F20 :=
 (GF (P:=Tryz.prog) Az (Γ:=Aoc) mixed (Ij (.cons Apf.ask .nil) (Ep rfl En.tb10_ok)) (MD _ _ _) Tryz.func20 (by kernel_rfl) (by kernel_rfl)).pure
def O0 (A:Int) (k:Nat) (w:Nat->E6) (n:Int) (z:Nat) (d:Nat->E6):List (List Nat):=onF A (Dn k w).length (mkE (Dn k w)) z d (toN n) []
noncomputable def Kt (A:Int) (k:Nat) (w:Nat->E6) (n:Int) (z:Nat) (d:Nat->E6) (q:Int):List (List E6) :=
 sel (ieq (Dt A k w n) 0) (sel (FT k w n) [] (Fb (mkE (Dn k w)) ((O0 A k w n z d).take (toN q)))) []
noncomputable def XM:List V->A2
 | [.val (.int .i64 A),u,.val (.int .i64 n),c,.val (.int .i64 q)]=>apL u λk w=>apL c λz d=>.br (BG z) (.br (ile 0 q) (.br (ile q 65536) (.leaf (.jref 0,[AdN (Kt A k w n z d q)])) .fail) .fail) .fail
 | _=>.fail
theorem p20:As Tryz.prog Gl 20 XM:=by
 refine LH Apj λvs u h' h=>?_;unfold XM at h;split at h
 rotate_left
 ·cases h
 rename_i A u0 n c q;obtain ⟨k,w,ha,h⟩:=AQ h;obtain ⟨z,d,hb,h⟩:=AQ h;obtain ⟨hz,h⟩:=Ab h;obtain ⟨q0,h⟩:=Ab h;obtain ⟨q1,h⟩:=Ab h;cases Aa h;have q0:(0:Int) <= q:=of_decide_eq_true q0;have q1:q <= (65536:Int):=of_decide_eq_true q1;have hv:B0 [iV A,u0,iV n,c,iV q] [iV A,Am k w,iV n,Am z d,iV q]:=λS W cs hq=>by
  obtain ⟨c,l,rfl,q1,c2,l2,rfl,q2,c3,l3,rfl,q3,c4,l4,rfl,q4,q5⟩:=hq;exact ⟨c,_,rfl,q1,c2,_,rfl,ha S W c2 q2,c3,_,rfl,q3,c4,_,rfl,hb S W c4 q4,q5⟩
 cases h1:ieq (Dt A k w n) 0 with
 | false =>
  have hr:Kt A k w n z d q=[]:=by unfold Kt; rw [h1]; rfl
  exact ⟨_,_,hv,DW.ok (.k (eL k) <| .r 4 (eN h1) <| .k eT <| .l) (by kernel_rfl),Ff hr⟩
 | true =>
  obtain ⟨g1,g2,g3,g4⟩:=Na h1;have hG:=WG h1;cases h4:FT k w n with
  | true =>
   have hr:Kt A k w n z d q=[]:=by unfold Kt; rw [h1,h4]; rfl
   exact ⟨_,_,hv,DW.ok (.k (eL k) <| .r 3 (eN h1) <| .k (eL k) <| .k hG <| .k (eN h1) <| .k h4 <| .l) (by kernel_rfl),Ff hr⟩
  | false =>
   have g2':¬ n<2:=of_decide_eq_false g2;have g3':¬ 16<n:=of_decide_eq_false g3;obtain ⟨N,rfl⟩:∃ N:Nat,n=ofNat N:=⟨n.toNat,(Int.toNat_of_nonneg (by omega)).symm⟩;have hN:0<N∧N <= 16:=by simp only [Int.ofNat_eq_natCast] at *; omega
   have hm:(Dn k w).length <= 112:=Ub _ _ _ _;obtain ⟨p,g',lv',ln',me',e1,_,e3,e4⟩:=AcX (a:=A) (z:=z) (af:=d) hm hN.2 (q:=q) (by omega) (Anl k w) hz N [] 0 (λ_=>Bv) 0 Ac (λ_=>true) (λ_=>0) (λ_ _=>.und) rfl (λ_ h=>absurd h (Nat.not_lt_zero _)) (λ_ h=>by cases h) (by omega) (by omega) (by show (0:Int) <= q; omega) (λ_ _=>rfl);rw [Nat.zero_add] at e1 e4;have hr:Kt A k w (ofNat N) z d q=Fb (mkE (Dn k w)) ((O0 A k w (ofNat N) z d).take p):=by
    unfold Kt;rw [h1,h4];show Fb _ _=_;congr 1;rcases e4 with ⟨h5,h6,_⟩ | ⟨_,h6,_⟩
    ·have h5:p=(O0 A k w (ofNat N) z d).length:=h5
     rw [h5,List.take_length,List.take_of_length_le];rw [h5] at h6;have h6:(((O0 A k w (ofNat N) z d).length:Nat):Int) <= q:=h6;show (O0 A k w (ofNat N) z d).length <= q.toNat;omega
    ·rw [<- h6]
     rfl
   have hlen:((O0 A k w (ofNat N) z d).take p).length=p:=by
    rw [List.length_take];rcases e4 with ⟨h5,_⟩ | ⟨h5,_⟩
    ·have h5:p=(O0 A k w (ofNat N) z d).length:=h5
     omega
    ·have h5:p<(O0 A k w (ofNat N) z d).length:=h5
     omega
   rw [hr];have hJ:=VF (v:=mkE (Dn k w)) (D:=(O0 A k w (ofNat N) z d).take p) (g:=g') (lv:=lv') (ln:=ln') (me:=me') (by rw [hlen]; exact e1) e3;rw [hlen] at hJ;rcases e4 with ⟨_,_,hE⟩ | ⟨_,_,hE⟩
   ·have hE:(Afh [.ptr 0 0,.ref 1] (E9 A (ofNat N) q 0 Ac (Dn k w).length (mkE (Dn k w)) z d 0 Ac (λ_=>true) (λ_=>0) (λ_ _=>.und) false)).sem=_:=hE
    exact ⟨_,_,hv,DW.ok (.k (eL k) <| .r 3 (eN h1) <| .k (eL k) <| .k hG <| .k (eN h1) <| .k h4 <| .k (eL k) <| .k g1 <| .k (decide_eq_true g4) <| .a (CX hE) <| .l) (by kernel_rfl),hJ⟩
   ·have hE:(Afh [.ptr 0 0,.ref 1] (E9 A (ofNat N) q 0 Ac (Dn k w).length (mkE (Dn k w)) z d 0 Ac (λ_=>true) (λ_=>0) (λ_ _=>.und) false)).sem=_:=hE
    exact ⟨_,_,hv,DW.ok (.k (eL k) <| .r 3 (eN h1) <| .k (eL k) <| .k hG <| .k (eN h1) <| .k h4 <| .k (eL k) <| .k g1 <| .k (decide_eq_true g4) <| .a (CX hE) <| .l) (by kernel_rfl),hJ⟩
end Go.Proofs.YtkbgidbledjejaaGreat.EnF
