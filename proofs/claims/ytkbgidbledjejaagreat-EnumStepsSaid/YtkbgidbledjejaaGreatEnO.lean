/-
  Layer 6: the document's search, one list at a time. Conditions: short lists.
-/
import Derived.Test.YtkbgidbledjejaaGreatEnWb
import Derived.Test.YtkbgidbledjejaaGreatCyZc
import Derived.Test.YtkbgidbledjejaaGreatCyTc
import Derived.Test.YtkbgidbledjejaaGreatEdO
import Derived.Test.YtkbgidbledjejaaGreatEnJ
namespace Go.Proofs.YtkbgidbledjejaaGreat.En
open Go.Sy Go Go.Proofs.YtkbgidbledjejaaGreat.Ed
open Int (ofNat)
set_option maxRecDepth 100000
def HE (k:Nat) (f:Nat->E6):Bool:=sel (Bv k f) (Gx k f k λi=>BV k f (ofNat (Ed.refL k λk=>Aj (f k))) i) false
def leastT:List V->A3:=QJ λk f=>.br (BZ k) (.leaf (bV (HE k f),[])) .fail
noncomputable def tb65:AD:=(23,Yr)::(21,Kx)::[]
theorem tb65_ok:Al Tryz.prog Gl tb65:=.cons p66 <| .cons p42 <| .nil
theorem AnE:Ar Tryz.prog Gl 65 leastT:=by
 refine Ah A0 mixed Tryz.func65 (by kernel_rfl) (by kernel_rfl) λvs u h' h=>?_;obtain ⟨k,f,ha,h⟩:=D7 h;obtain ⟨hk,h⟩:=Ab h;cases Aa h;have hx:=AZ tb65_ok [] (G:=Gl);refine ⟨[Ao k f],cxA Gl tb65 [],_,ha,rfl,hx.1,hx.2,?_,As.refl _⟩;unfold HE;cases h1:Bv k f with
 | true=>exact DW.ok (.k (eL k) <| .k hk <| .k h1 <| .r 3 (eI 0) <| .r 2 (eL k) <| .k (decide_eq_true (Ee (HJ hk))) <| .k (eI 0) <| .l) (by kernel_rfl)
 | false=>exact DW.ok (.k (eL k) <| .k hk <| .k h1 <| .r 4 (show ieq 30 0=false from rfl) <| .l) (by kernel_rfl)
def Uh (E:List V->List Blk->A3) (vs:List V) (h:List Blk):A3:=(E vs h).bind λp=>match p.1 with
 | .val z=>.leaf (.val z,(EC [] h.length ⟨[],p.2⟩).h)
 | _=>.fail
theorem cut_ok {P:Program} {G:Nat->V} {f:FuncId} {E:List V->List Blk->A3} (h:EG P G f E):EG P G f (Uh E) :=
 ⟨h.1,λvs cs κ S hp w v h' h1 h2 h3 h4=>by
  obtain ⟨⟨v1,hp1⟩,q1,q2⟩:=Ad h4;simp only at q2;split at q2
  ·rename_i z
   have:=Aa q2;simp only [Prod.mk.injEq] at this;obtain ⟨rfl,rfl⟩:=this;refine (h.2 vs cs κ S hp w _ hp1 h1 h2 h3 q1).mono ?_
   rintro e w' ⟨c,κ',S',rfl,g1,g2,g3⟩
   have hE:MF G S' w':=C6.ext (Γ:=⟨λ_ _ _=>.fail,G⟩) h2 h1 g3;obtain ⟨κ2,S2,r1,r2⟩:=Fv (Γ:=⟨λ_ _ _=>.fail,G⟩) [] hp.length ⟨[],hp1⟩ [] κ' S' { tmps:=#[],defers:=[] } w' ⟨g1,hE,rfl,rfl⟩;exact ⟨c,κ2,S2,rfl,r1.good,g2,g3.trans r2⟩
  ·cases q2⟩
noncomputable def AkM:AD:=(22,Um)::(65,leastT)::(25,AdY)::(39,JF)::(54,Cj K7)::[]
theorem Afb:Al Tryz.prog Gl AkM:=.cons p49 <| .cons AnE <| .cons p39 <| .cons p69 <| .cons p25 <| .nil
def lp37:Lp:=⟨bmK 134 0 [0,1,4,9],6,bmK 134 0 [4],6,4611686018427387905⟩
def Aol:List (Nat×Lp×List (Nat×(Nat->V))):=[(0,lp37,[])]
noncomputable abbrev Rq (E:List V->List Blk->A3):Cx:=⟨My [(37,QI E)] (A9 AkM),C3 Aol,Gl⟩
noncomputable def E37:Nat->List V->List Blk->A3
 | 0=>λ_ _=>.fail
 | d+1=>Uh (Au tab (Rq (E37 d)) Tryz.f37)
theorem AiO:∀ d,EG Tryz.prog Gl 37 (E37 d)
 | 0=>by
  have hx:=AZ Ix [] (G:=Gl);exact EG.dep (Ii (P:=Tryz.prog) A0 (Γ:=cxA Gl tbZ []) mixed hx.1 hx.2 Tryz.func37 (by kernel_rfl) (by kernel_rfl)).1 λvs hp r hr=>by cases hr
 | d+1=>cut_ok (Ii (P:=Tryz.prog) A0 (Γ:=Rq (E37 d)) mixed (Io (.cons (AiO d).ask .nil) (Ek rfl Afb)) (M8 _ _ _) Tryz.func37 (by kernel_rfl) (by kernel_rfl))
def E4 (a n q:Int) (k:Nat) (gf:Nat->V) (m:Nat) (v af:Nat->E6) (c:Nat) (g:Nat->V) (lv:Nat->Bool) (ln:Nat->Nat) (me:Nat->Nat->V) (fl:Bool):List Blk:=[.cells [iV a,.ref 2,iV n,iV q,.ref 3,.jref 4,bV fl],.row 46 6 k gf,.row 46 6 m (λi=>eV (v i)),.row 46 6 0 (λi=>eV (af i)),.jag ⟨22,1,c,g,0,46,6,lv,ln,me,none⟩,.saved [.ptr 0 0,.und,.und,.und,.und]]
theorem DD (a n q:Int) (k:Nat) (gf:Nat->V) (m:Nat) (v af:Nat->E6) (c:Nat) (g:Nat->V) (lv:Nat->Bool) (ln:Nat->Nat) (me:Nat->Nat->V) (fl:Bool) (h:∀ i,i<c->lv i=true):BB (E4 a n q k gf m v af c g lv ln me fl)=true:=by
 simp only [E4,BB,Bool.and_true,List.all_eq_true,List.mem_range];exact h
def S37 (a n q:Int) (k:Nat) (gf:Nat->V) (m:Nat) (v af:Nat->E6) (i:Int) (c:Nat) (g:Nat->V) (lv:Nat->Bool) (ln:Nat->Nat) (me:Nat->Nat->V):St:=⟨jsV 134 0 Ac [(0,.ptr 0 0),(1,.ref 1),(4,bV false),(9,iV i)],E4 a n q k gf m v af c g lv ln me false⟩
def Ae4 (a n q:Int) (k:Nat) (gf:Nat->V) (m:Nat) (v af:Nat->E6) (c:Nat) (g:Nat->V) (lv:Nat->Bool) (ln:Nat->Nat) (me:Nat->Nat->V):Ex×St:=(.ex 0,⟨jsV 134 0 Ac [(4,bV false)],E4 a n q k gf m v af c g lv ln me false⟩)
def AaZ (a n q:Int) (k:Nat) (gf:Nat->V) (m:Nat) (v af:Nat->E6) (c:Nat) (g:Nat->V) (lv:Nat->Bool) (ln:Nat->Nat) (me:Nat->Nat->V):Ex×St:=(.rt,⟨jsV 134 0 Ac [(4,bV false)],E4 a n q k gf m v af c g lv ln me true⟩)
noncomputable def B37 (E:List V->List Blk->A3):St->T (Ex×St):=λst=>A8 tab (Rq E) (A1 Tryz.f37 0) 0 st
def EO (a:Int) (k:Nat) (f af:Nat->E6):Bool:=sel (ile 2 (ofNat k)) (sel (ieq (Gr a k f).1 0) (sel (HE k f) (ilt 0 (Ge k f 0 af)) false) false) false
section
variable {a n q:Int} {k:Nat} {f:Nat->E6} {m:Nat} {v af:Nat->E6} {c:Nat} {g:Nat->V} {lv:Nat->Bool} {ln:Nat->Nat} {me:Nat->Nat->V} {E:List V->List Blk->A3}
theorem Md (h:EO a k f af=true):ile 2 (ofNat k)=true∧ieq (Gr a k f).1 0=true∧HE k f=true∧ilt 0 (Ge k f 0 af)=true:=by
 unfold EO at h;cases h1:ile 2 (ofNat k) <;> cases h2:ieq (Gr a k f).1 0 <;> cases h3:HE k f <;> cases h4:ilt 0 (Ge k f 0 af) <;> rw [h1,h2,h3,h4] at h <;> first | exact ⟨rfl,rfl,rfl,rfl⟩ | cases h
variable (hk:BZ k=true) (hlv:∀ i,i<c->lv i=true)
include hk hlv
theorem Ad7 (hg:EO a k f af=true) (h5:ieq (ofNat c) q=true):(Uh (Au tab (Rq E) Tryz.f37) [.ptr 0 0,.ref 1] (E4 a n q k (λi=>eV (f i)) m v af c g lv ln me false)).sem=some (bV false,E4 a n q k (λi=>eV (f i)) m v af c g lv ln me true):=by
 obtain ⟨g1,g2,g3,g4⟩:=Md hg;exact DW.ok (.k g1 <| .k (DD a n q k (λi=>eV (f i)) m v af c g lv ln me false hlv) <| .k (eL k) <| .k hk <| .r 2 g2 <| .k (DD a n q k (λi=>eV (f i)) m v af c g lv ln me false hlv) <| .k (eL k) <| .k hk <| .k g2 <| .k g3 <| .k (DD a n q k (λi=>eV (f i)) m v af c g lv ln me false hlv) <| .k (eL k) <| .k (eL 0) <| .k hk <| .k (show BZ 0=true from rfl) <| .k g4 <| .k h5 <| .l) (by kernel_rfl)
section
variable (h6:ieq (ofNat k) n=true)
include h6
theorem Ad8 (hc:CJ c 1 24=true) (hg:EO a k f af=true) (h5:ieq (ofNat c) q=false):(Uh (Au tab (Rq E) Tryz.f37) [.ptr 0 0,.ref 1] (E4 a n q k (λi=>eV (f i)) m v af c g lv ln me false)).sem=some (bV true,E4 a n q k (λi=>eV (f i)) m v af (c+1) (AE c g .und) (CW lv c true) (Dj ln c k) (DN me c λi=>eV (BV k f 0 i)) false):=by
 obtain ⟨g1,g2,g3,g4⟩:=Md hg;exact DW.ok (.k g1 <| .k (DD a n q k (λi=>eV (f i)) m v af c g lv ln me false hlv) <| .k (eL k) <| .k hk <| .r 2 g2 <| .k (DD a n q k (λi=>eV (f i)) m v af c g lv ln me false hlv) <| .k (eL k) <| .k hk <| .k g2 <| .k g3 <| .k (DD a n q k (λi=>eV (f i)) m v af c g lv ln me false hlv) <| .k (eL k) <| .k (eL 0) <| .k hk <| .k (show BZ 0=true from rfl) <| .k g4 <| .k h5 <| .k (DD a n q k (λi=>eV (f i)) m v af c g lv ln me false hlv) <| .k (eL k) <| .k hk <| .k (rbE k λi=>BV k f 0 i) <| .k eT <| .k hc <| .k h6 <| .l) (by kernel_rfl)
theorem Ad9 (hg:EO a k f af=false):(Uh (Au tab (Rq E) Tryz.f37) [.ptr 0 0,.ref 1] (E4 a n q k (λi=>eV (f i)) m v af c g lv ln me false)).sem=some (bV true,E4 a n q k (λi=>eV (f i)) m v af c g lv ln me false):=by
 unfold EO at hg;cases g1:ile 2 (ofNat k) with
 | false=>exact DW.ok (.k g1 <| .k h6 <| .l) (by kernel_rfl)
 | true =>
  cases g2:ieq (Gr a k f).1 0 with
  | false=>exact DW.ok (.k g1 <| .k (DD a n q k (λi=>eV (f i)) m v af c g lv ln me false hlv) <| .k (eL k) <| .k hk <| .r 3 g2 <| .k eF <| .k h6 <| .l) (by kernel_rfl)
  | true =>
   cases g3:HE k f with
   | false=>exact DW.ok (.k g1 <| .k (DD a n q k (λi=>eV (f i)) m v af c g lv ln me false hlv) <| .k (eL k) <| .k hk <| .r 2 g2 <| .k (DD a n q k (λi=>eV (f i)) m v af c g lv ln me false hlv) <| .k (eL k) <| .k hk <| .k g2 <| .k g3 <| .k h6 <| .l) (by kernel_rfl)
   | true =>
    cases g4:ilt 0 (Ge k f 0 af) with
    | false=>exact DW.ok (.k g1 <| .k (DD a n q k (λi=>eV (f i)) m v af c g lv ln me false hlv) <| .k (eL k) <| .k hk <| .r 2 g2 <| .k (DD a n q k (λi=>eV (f i)) m v af c g lv ln me false hlv) <| .k (eL k) <| .k hk <| .k g2 <| .k g3 <| .k (DD a n q k (λi=>eV (f i)) m v af c g lv ln me false hlv) <| .k (eL k) <| .k (eL 0) <| .k hk <| .k (show BZ 0=true from rfl) <| .k g4 <| .k h6 <| .l) (by kernel_rfl)
    | true =>rw [g1,g2,g3,g4] at hg; cases hg
end
variable (h6:ieq (ofNat k) n=false) {c3:Nat} {g3:Nat->V} {lv3:Nat->Bool} {ln3:Nat->Nat} {me3:Nat->Nat->V}
include h6
theorem Aj5 (hc:CJ c 1 24=true) (hg:EO a k f af=true) (h5:ieq (ofNat c) q=false) (hr:(Ay (B37 E) lp37 4611686018427387905 (S37 a n q k (λi=>eV (f i)) m v af 0 (c+1) (AE c g .und) (CW lv c true) (Dj ln c k) (DN me c λi=>eV (BV k f 0 i)))).sem=some (Ae4 a n q k (λi=>eV (f i)) m v af c3 g3 lv3 ln3 me3)):(Uh (Au tab (Rq E) Tryz.f37) [.ptr 0 0,.ref 1] (E4 a n q k (λi=>eV (f i)) m v af c g lv ln me false)).sem=some (bV true,E4 a n q k (λi=>eV (f i)) m v af c3 g3 lv3 ln3 me3 false):=by
 obtain ⟨g1,g2,g3,g4⟩:=Md hg;exact DW.ok (.k g1 <| .k (DD a n q k (λi=>eV (f i)) m v af c g lv ln me false hlv) <| .k (eL k) <| .k hk <| .r 2 g2 <| .k (DD a n q k (λi=>eV (f i)) m v af c g lv ln me false hlv) <| .k (eL k) <| .k hk <| .k g2 <| .k g3 <| .k (DD a n q k (λi=>eV (f i)) m v af c g lv ln me false hlv) <| .k (eL k) <| .k (eL 0) <| .k hk <| .k (show BZ 0=true from rfl) <| .k g4 <| .k h5 <| .k (DD a n q k (λi=>eV (f i)) m v af c g lv ln me false hlv) <| .k (eL k) <| .k hk <| .k (rbE k λi=>BV k f 0 i) <| .k eT <| .k hc <| .k h6 <| .a hr <| .l) (by kernel_rfl)
theorem Aj3 (hc:CJ c 1 24=true) (hg:EO a k f af=true) (h5:ieq (ofNat c) q=false) (hr:(Ay (B37 E) lp37 4611686018427387905 (S37 a n q k (λi=>eV (f i)) m v af 0 (c+1) (AE c g .und) (CW lv c true) (Dj ln c k) (DN me c λi=>eV (BV k f 0 i)))).sem=some (AaZ a n q k (λi=>eV (f i)) m v af c3 g3 lv3 ln3 me3)):(Uh (Au tab (Rq E) Tryz.f37) [.ptr 0 0,.ref 1] (E4 a n q k (λi=>eV (f i)) m v af c g lv ln me false)).sem=some (bV false,E4 a n q k (λi=>eV (f i)) m v af c3 g3 lv3 ln3 me3 true):=by
 obtain ⟨g1,g2,g3,g4⟩:=Md hg;exact DW.ok (.k g1 <| .k (DD a n q k (λi=>eV (f i)) m v af c g lv ln me false hlv) <| .k (eL k) <| .k hk <| .r 2 g2 <| .k (DD a n q k (λi=>eV (f i)) m v af c g lv ln me false hlv) <| .k (eL k) <| .k hk <| .k g2 <| .k g3 <| .k (DD a n q k (λi=>eV (f i)) m v af c g lv ln me false hlv) <| .k (eL k) <| .k (eL 0) <| .k hk <| .k (show BZ 0=true from rfl) <| .k g4 <| .k h5 <| .k (DD a n q k (λi=>eV (f i)) m v af c g lv ln me false hlv) <| .k (eL k) <| .k hk <| .k (rbE k λi=>BV k f 0 i) <| .k eT <| .k hc <| .k h6 <| .a hr <| .l) (by kernel_rfl)
theorem Aj6 (hg:EO a k f af=false) (hr:(Ay (B37 E) lp37 4611686018427387905 (S37 a n q k (λi=>eV (f i)) m v af 0 c g lv ln me)).sem=some (Ae4 a n q k (λi=>eV (f i)) m v af c3 g3 lv3 ln3 me3)):(Uh (Au tab (Rq E) Tryz.f37) [.ptr 0 0,.ref 1] (E4 a n q k (λi=>eV (f i)) m v af c g lv ln me false)).sem=some (bV true,E4 a n q k (λi=>eV (f i)) m v af c3 g3 lv3 ln3 me3 false):=by
 unfold EO at hg;cases g1:ile 2 (ofNat k) with
 | false=>exact DW.ok (.k g1 <| .k h6 <| .a hr <| .l) (by kernel_rfl)
 | true =>
  cases g2:ieq (Gr a k f).1 0 with
  | false=>exact DW.ok (.k g1 <| .k (DD a n q k (λi=>eV (f i)) m v af c g lv ln me false hlv) <| .k (eL k) <| .k hk <| .r 3 g2 <| .k eF <| .k h6 <| .a hr <| .l) (by kernel_rfl)
  | true =>
   cases g3:HE k f with
   | false=>exact DW.ok (.k g1 <| .k (DD a n q k (λi=>eV (f i)) m v af c g lv ln me false hlv) <| .k (eL k) <| .k hk <| .r 2 g2 <| .k (DD a n q k (λi=>eV (f i)) m v af c g lv ln me false hlv) <| .k (eL k) <| .k hk <| .k g2 <| .k g3 <| .k h6 <| .a hr <| .l) (by kernel_rfl)
   | true =>
    cases g4:ilt 0 (Ge k f 0 af) with
    | false=>exact DW.ok (.k g1 <| .k (DD a n q k (λi=>eV (f i)) m v af c g lv ln me false hlv) <| .k (eL k) <| .k hk <| .r 2 g2 <| .k (DD a n q k (λi=>eV (f i)) m v af c g lv ln me false hlv) <| .k (eL k) <| .k hk <| .k g2 <| .k g3 <| .k (DD a n q k (λi=>eV (f i)) m v af c g lv ln me false hlv) <| .k (eL k) <| .k (eL 0) <| .k hk <| .k (show BZ 0=true from rfl) <| .k g4 <| .k h6 <| .a hr <| .l) (by kernel_rfl)
    | true =>rw [g1,g2,g3,g4] at hg; cases hg
theorem Aj4 (hg:EO a k f af=false) (hr:(Ay (B37 E) lp37 4611686018427387905 (S37 a n q k (λi=>eV (f i)) m v af 0 c g lv ln me)).sem=some (AaZ a n q k (λi=>eV (f i)) m v af c3 g3 lv3 ln3 me3)):(Uh (Au tab (Rq E) Tryz.f37) [.ptr 0 0,.ref 1] (E4 a n q k (λi=>eV (f i)) m v af c g lv ln me false)).sem=some (bV false,E4 a n q k (λi=>eV (f i)) m v af c3 g3 lv3 ln3 me3 true):=by
 unfold EO at hg;cases g1:ile 2 (ofNat k) with
 | false=>exact DW.ok (.k g1 <| .k h6 <| .a hr <| .l) (by kernel_rfl)
 | true =>
  cases g2:ieq (Gr a k f).1 0 with
  | false=>exact DW.ok (.k g1 <| .k (DD a n q k (λi=>eV (f i)) m v af c g lv ln me false hlv) <| .k (eL k) <| .k hk <| .r 3 g2 <| .k eF <| .k h6 <| .a hr <| .l) (by kernel_rfl)
  | true =>
   cases g3:HE k f with
   | false=>exact DW.ok (.k g1 <| .k (DD a n q k (λi=>eV (f i)) m v af c g lv ln me false hlv) <| .k (eL k) <| .k hk <| .r 2 g2 <| .k (DD a n q k (λi=>eV (f i)) m v af c g lv ln me false hlv) <| .k (eL k) <| .k hk <| .k g2 <| .k g3 <| .k h6 <| .a hr <| .l) (by kernel_rfl)
   | true =>
    cases g4:ilt 0 (Ge k f 0 af) with
    | false=>exact DW.ok (.k g1 <| .k (DD a n q k (λi=>eV (f i)) m v af c g lv ln me false hlv) <| .k (eL k) <| .k hk <| .r 2 g2 <| .k (DD a n q k (λi=>eV (f i)) m v af c g lv ln me false hlv) <| .k (eL k) <| .k hk <| .k g2 <| .k g3 <| .k (DD a n q k (λi=>eV (f i)) m v af c g lv ln me false hlv) <| .k (eL k) <| .k (eL 0) <| .k hk <| .k (show BZ 0=true from rfl) <| .k g4 <| .k h6 <| .a hr <| .l) (by kernel_rfl)
    | true =>rw [g1,g2,g3,g4] at hg; cases hg
end
section
variable {a n q:Int} {k:Nat} {f:Nat->E6} {m:Nat} {v af:Nat->E6} {c:Nat} {g:Nat->V} {lv:Nat->Bool} {ln:Nat->Nat} {me:Nat->Nat->V} {E:List V->List Blk->A3}
theorem Alr:Ap (B37 E) lp37 (S37 a n q k (λi=>eV (f i)) m v af (ofNat m) c g lv ln me)=some (Ae4 a n q k (λi=>eV (f i)) m v af c g lv ln me):=DW.rd (.k (A4 (Nat.le_refl m)) <| .l) (by kernel_rfl)
variable {b:Nat} (hb:b<m) (hm:m <= 4611686018427387904)
include hb hm
section
variable (hk0:0<k) (hk4:k <= 4611686018427387904)
include hk0 hk4
theorem AgP (h:sel (ieq (f (k-1)).dst (v b).src) (ilt (Aj (v b)) (Aj (f 0))) true=true):Ap (B37 E) lp37 (S37 a n q k (λi=>eV (f i)) m v af (ofNat b) c g lv ln me)=some (.nm,S37 a n q k (λi=>eV (f i)) m v af (ofNat (b+1)) c g lv ln me):=by
 have hL:=HS hk0 hk4;have hk1:k-1<k:=by omega
 have h0:ilt 0 (ofNat k)=true:=decide_eq_true (by show (0:Int)<(k:Int); omega);cases h1:ieq (f (k-1)).dst (v b).src with
 | false=>exact DW.rd (.k (ofNat_lt hb) <| .k (Af hb) <| .k (decide_eq_true hb) <| .k h0 <| .k (cg1 (λzz0=>Av (ile 0 zz0) (ilt zz0 (ofNat k))) hL (Af hk1)) <| .k (cg1 (λzz0=>nlt (toN zz0) k) hL (decide_eq_true hk1)) <| .k (Af hk0) <| .k (decide_eq_true hk0) <| .r 4 (cg1 (λzz0=>AI (ieq (f (toN zz0)).dst (v b).src)) hL (eN h1)) <| .k eT <| .e (nm1 (f:=λi=>S37 a n q k (λi=>eV (f i)) m v af i c g lv ln me) (C2 (by omega)))) (by kernel_rfl)
 | true =>rw [h1] at h;have h2:ilt (Aj (v b)) (Aj (f 0))=true:=h;exact DW.rd (.k (ofNat_lt hb) <| .k (Af hb) <| .k (decide_eq_true hb) <| .k h0 <| .k (cg1 (λzz0=>Av (ile 0 zz0) (ilt zz0 (ofNat k))) hL (Af hk1)) <| .k (cg1 (λzz0=>nlt (toN zz0) k) hL (decide_eq_true hk1)) <| .k (Af hk0) <| .k (decide_eq_true hk0) <| .r 4 (cg1 (λzz0=>AI (ieq (f (toN zz0)).dst (v b).src)) hL (eN h1)) <| .k h2 <| .e (nm1 (f:=λi=>S37 a n q k (λi=>eV (f i)) m v af i c g lv ln me) (C2 (by omega)))) (by kernel_rfl)
end
variable (hk:BZ k=true) (ha:CJ k 1 40=true) (hlv:∀ i,i<c->lv i=true) {c2:Nat} {g2:Nat->V} {lv2:Nat->Bool} {ln2:Nat->Nat} {me2:Nat->Nat->V}
include hk ha hlv
section
variable (hk0:0<k) (hk4:k <= 4611686018427387904) (h1:ieq (f (k-1)).dst (v b).src=true) (h2:ilt (Aj (v b)) (Aj (f 0))=false)
include hk0 hk4 h1 h2
theorem AgO (hE:(E [.ptr 0 0,.ref 1] (E4 a n q (Cd k 1) (AE k (λi=>eV (BV k f 0 i)) (Ct 1 [eV (v b)] 0)) m v af c g lv ln me false)).sem=some (bV true,E4 a n q (Cd k 1) (AE k (λi=>eV (BV k f 0 i)) (Ct 1 [eV (v b)] 0)) m v af c2 g2 lv2 ln2 me2 false)):Ap (B37 E) lp37 (S37 a n q k (λi=>eV (f i)) m v af (ofNat b) c g lv ln me)=some (.nm,S37 a n q k (λi=>eV (f i)) m v af (ofNat (b+1)) c2 g2 lv2 ln2 me2):=by
 have hL:=HS hk0 hk4;have hk1:k-1<k:=by omega
 have h0:ilt 0 (ofNat k)=true:=decide_eq_true (by show (0:Int)<(k:Int); omega);exact DW.rd (.k (ofNat_lt hb) <| .k (Af hb) <| .k (decide_eq_true hb) <| .k h0 <| .k (cg1 (λzz0=>Av (ile 0 zz0) (ilt zz0 (ofNat k))) hL (Af hk1)) <| .k (cg1 (λzz0=>nlt (toN zz0) k) hL (decide_eq_true hk1)) <| .k (Af hk0) <| .k (decide_eq_true hk0) <| .r 4 (cg1 (λzz0=>AI (ieq (f (toN zz0)).dst (v b).src)) hL (eN h1)) <| .k h2 <| .k (DD a n q k (λi=>eV (f i)) m v af c g lv ln me false hlv) <| .k (eL k) <| .k hk <| .k (rbE k λi=>BV k f 0 i) <| .k ha <| .a (CS hE) <| .k (eN eT) <| .e (nm1 (f:=λi=>S37 a n q k (λi=>eV (f i)) m v af i c2 g2 lv2 ln2 me2) (C2 (by omega)))) (by kernel_rfl)
theorem Alq (hE:(E [.ptr 0 0,.ref 1] (E4 a n q (Cd k 1) (AE k (λi=>eV (BV k f 0 i)) (Ct 1 [eV (v b)] 0)) m v af c g lv ln me false)).sem=some (bV false,E4 a n q (Cd k 1) (AE k (λi=>eV (BV k f 0 i)) (Ct 1 [eV (v b)] 0)) m v af c2 g2 lv2 ln2 me2 true)):Ap (B37 E) lp37 (S37 a n q k (λi=>eV (f i)) m v af (ofNat b) c g lv ln me)=some (AaZ a n q k (λi=>eV (f i)) m v af c2 g2 lv2 ln2 me2):=by
 have _:=hm
 have hL:=HS hk0 hk4;have hk1:k-1<k:=by omega
 have h0:ilt 0 (ofNat k)=true:=decide_eq_true (by show (0:Int)<(k:Int); omega);exact DW.rd (.k (ofNat_lt hb) <| .k (Af hb) <| .k (decide_eq_true hb) <| .k h0 <| .k (cg1 (λzz0=>Av (ile 0 zz0) (ilt zz0 (ofNat k))) hL (Af hk1)) <| .k (cg1 (λzz0=>nlt (toN zz0) k) hL (decide_eq_true hk1)) <| .k (Af hk0) <| .k (decide_eq_true hk0) <| .r 4 (cg1 (λzz0=>AI (ieq (f (toN zz0)).dst (v b).src)) hL (eN h1)) <| .k h2 <| .k (DD a n q k (λi=>eV (f i)) m v af c g lv ln me false hlv) <| .k (eL k) <| .k hk <| .k (rbE k λi=>BV k f 0 i) <| .k ha <| .a (CS hE) <| .k (eN eF) <| .l) (by kernel_rfl)
end
variable (h0:ilt 0 (ofNat k)=false)
include h0
theorem Acc (hE:(E [.ptr 0 0,.ref 1] (E4 a n q (Cd k 1) (AE k (λi=>eV (BV k f 0 i)) (Ct 1 [eV (v b)] 0)) m v af c g lv ln me false)).sem=some (bV true,E4 a n q (Cd k 1) (AE k (λi=>eV (BV k f 0 i)) (Ct 1 [eV (v b)] 0)) m v af c2 g2 lv2 ln2 me2 false)):Ap (B37 E) lp37 (S37 a n q k (λi=>eV (f i)) m v af (ofNat b) c g lv ln me)=some (.nm,S37 a n q k (λi=>eV (f i)) m v af (ofNat (b+1)) c2 g2 lv2 ln2 me2):=DW.rd (.k (ofNat_lt hb) <| .k (Af hb) <| .k (decide_eq_true hb) <| .k h0 <| .k (DD a n q k (λi=>eV (f i)) m v af c g lv ln me false hlv) <| .k (eL k) <| .k hk <| .k (rbE k λi=>BV k f 0 i) <| .k ha <| .a (CS hE) <| .k (eN eT) <| .e (nm1 (f:=λi=>S37 a n q k (λi=>eV (f i)) m v af i c2 g2 lv2 ln2 me2) (C2 (by omega)))) (by kernel_rfl)
theorem Aiy (hE:(E [.ptr 0 0,.ref 1] (E4 a n q (Cd k 1) (AE k (λi=>eV (BV k f 0 i)) (Ct 1 [eV (v b)] 0)) m v af c g lv ln me false)).sem=some (bV false,E4 a n q (Cd k 1) (AE k (λi=>eV (BV k f 0 i)) (Ct 1 [eV (v b)] 0)) m v af c2 g2 lv2 ln2 me2 true)):Ap (B37 E) lp37 (S37 a n q k (λi=>eV (f i)) m v af (ofNat b) c g lv ln me)=some (AaZ a n q k (λi=>eV (f i)) m v af c2 g2 lv2 ln2 me2):=have _:=hm;DW.rd (.k (ofNat_lt hb) <| .k (Af hb) <| .k (decide_eq_true hb) <| .k h0 <| .k (DD a n q k (λi=>eV (f i)) m v af c g lv ln me false hlv) <| .k (eL k) <| .k hk <| .k (rbE k λi=>BV k f 0 i) <| .k ha <| .a (CS hE) <| .k (eN eF) <| .l) (by kernel_rfl)
end
end Go.Proofs.YtkbgidbledjejaaGreat.En
namespace Go.Proofs.YtkbgidbledjejaaGreat.En
open Go.Sy Go Go.Proofs.YtkbgidbledjejaaGreat.Ed
theorem Qn {α β:Type} {f:α->List β} {c:Nat}:∀ l:List α,(∀ a,a ∈ l->(f a).length <= c)->(l.flatMap f).length <= l.length * c
 | [],_=>by simp
 | a::l,h=>by
  rw [List.flatMap_cons,List.length_append,List.length_cons,Nat.succ_mul];have:=Qn l λb hb=>h b (List.mem_cons_of_mem _ hb);have:=h a (List.mem_cons_self ..);omega
theorem Yb {m:Nat} {fits opn:List Nat->Bool} (hm:m <= 112):∀ k r,(EX m fits opn k r).length <= 113 ^ k
 | 0,r=>by simp [EX]
 | k+1,r=>by
  unfold EX;have h1:1 <= 113 ^ k:=Nat.pow_pos (by omega);have h2:113 ^ (k+1)=113 ^ k * 113:=Nat.pow_succ ..;rw [List.length_cons];cases fits r && opn r with
  | false=>simp; omega
  | true =>
   have h3:=Qn ((List.range m).drop (Ci r)) (f:=λe=>EX m fits opn k (e::r)) (c:=113 ^ k) λe _=>Yb hm k _;have h4:((List.range m).drop (Ci r)).length <= 112:=by simp; omega
   have h5:=Nat.mul_le_mul_right (113 ^ k) h4;simp only [cond_true];omega
abbrev Me (a:Int) (v:Nat->E6) (d:List Nat):Bool:=Dh v d && BP a v d
def Ru (n:Int) (m:Nat) (v:Nat->E6) (N:Nat):List (List Nat):=(List.range m).flatMap λe=>EX m (Dh v) (Fx n m v) (N-1) [e]
theorem QM {n:Int} {m:Nat} {v:Nat->E6} {N:Nat} (hm:m <= 112) (hN:N <= 16):2 * (Ru n m v N).length+4<F43-1:=by
 have h1:=Qn (List.range m) (f:=λe=>EX m (Dh v) (Fx n m v) (N-1) [e]) (c:=113 ^ 15) λe _=>Nat.le_trans (Yb hm _ _) (Nat.pow_le_pow_right (by omega) (by omega));rw [List.length_range] at h1;have h2:=Nat.mul_le_mul_right (113 ^ 15) hm;have h3:2 * (112 * 113 ^ 15)+4<F43-1:=by unfold F43; decide
 unfold Ru;omega
section
variable {a n:Int} {m N:Nat} {v:Nat->E6}
def Rem (a n:Int) (m:Nat) (v:Nat->E6) (N:Nat):List (List Nat)->Nat->(Nat->Int)->Prop
 | [],L,x=>∃ x',(E43 [.ptr 0 0] (HI a n m v L x)).sem=some (bV false,HI a n m v 0 x')
 | d::ds,L,x=>∃ L2 x2,(E43 [.ptr 0 0] (HI a n m v L x)).sem=some (bV true,HI a n m v L2 x2)∧Rep d L2 x2∧Inv m N d∧Rem a n m v N ds L2 x2
theorem KN (hn:n=Int.ofNat N) {r:List Nat} (h:Fx n m v r=true):r.length<N:=by
 unfold Fx P3 at h;cases h1:ilt (Int.ofNat r.length) n with
 | false=>rw [h1] at h; cases h
 | true =>have:(r.length:Int)<n:=of_decide_eq_true h1;rw [hn] at this;exact Int.ofNat_lt.1 this
theorem AbZ (hn:n=Int.ofNat N) (hN:N <= 16) (hm:m <= 112):∀ (c:Nat) {l2:List (List Nat)} {d:List Nat} {L:Nat} {x:Nat->Int},l2.length <= c->Rep d L x->Inv m N d->Dh v d=true->2 * l2.length+2<F43-1->((l2=[]∧E2 m (Dh v) (Fx n m v) d=none) ∨ ∃ r',E2 m (Dh v) (Fx n m v) d=some r'∧GoL m (Dh v) (Fx n m v) r' l2 none)->Rem a n m v N (l2.filter (Me a v)) L x
 | c,l2,d,L,x,hc,hR,hI,hf,hF,h=>by
  rcases h with ⟨rfl,h⟩ | ⟨r',hr,hg⟩
  ·exact ⟨x,Af3 hR hI (by omega) (by omega) hf h⟩
  ·obtain ⟨hi,L',x',hR',M,hM,hE⟩:=Af4 (a:=a) hR hI (by omega) (by omega) (λr h=>KN hn h) hf hr
   rcases Qp (p:=Me a v) l2 with h0 | ⟨l1,d',l2',e1,e2,e3,e4⟩
   ·obtain ⟨x2,hx⟩:=TP (a:=a) (M:=M) (by omega) (by omega) (λr h=>KN hn h) l2 hg h0 hR' hi (by omega)
    rw [h0];exact ⟨x2,hE _ _ _ hx⟩
   ·rw [e4]
    subst e1;rw [List.length_append,List.length_cons] at hc hF;obtain ⟨hi',L2,x2,hR2,hx⟩:=TR (a:=a) (M:=M) (by omega) (by omega) (λr h=>KN hn h) e3 l1 hg e2 hR' hi (by omega);have hf':Dh v d'=true:=(Bool.and_eq_true _ _ ▸ e3:_∧_).1;obtain ⟨c,rfl⟩:∃ q,c=q+1:=⟨c-1,by omega⟩;exact ⟨L2,x2,hE _ _ _ hx,hR2,hi',AbZ hn hN hm c (by omega) hR2 hi' hf' (by omega) (GoL.at l1 hg)⟩
theorem RL (hn:n=Int.ofNat N) (hN0:0<N) (hN:N <= 16) (hm:m <= 112) {x:Nat->Int}:Rem a n m v N ((Ru n m v N).filter (Me a v)) 0 x:=by
 have hF:=QM (n:=n) (v:=v) hm hN;rcases Nat.eq_zero_or_pos m with rfl | hm0
 ·exact ⟨x,Xf⟩
 ·have hg:=Ajx (m:=m) (fits:=Dh v) (opn:=Fx n m v) N hN0 (λr _ h=>KN hn h) hm0
  have hR:Rep [0] 1 (Ky 0 x 0):=⟨rfl,λi (hi:i<1)=>by
   obtain rfl:i=0:=Nat.lt_one_iff.1 hi;rfl⟩
  have hI:Inv m N [0]:=⟨by simp,λe he=>by simp at he; omega,by simp; omega⟩;rcases Qp (p:=Me a v) (Ru n m v N) with h0 | ⟨l1,d',l2',e1,e2,e3,e4⟩
  ·obtain ⟨x2,hx⟩:=TP (a:=a) (M:=F43-1) (by omega) (by omega) (λr h=>KN hn h) _ hg h0 hR hI (by show 2 * (Ru n m v N).length<_; omega)
   rw [h0];exact ⟨x2,SC hm0 hx⟩
  ·rw [e4]
   rw [show ((List.range m).flatMap λe=>EX m (Dh v) (Fx n m v) (N-1) [e])=l1++d'::l2' from e1] at hg;rw [e1,List.length_append,List.length_cons] at hF;obtain ⟨hi',L2,x2,hR2,hx⟩:=TR (a:=a) (M:=F43-1) (by omega) (by omega) (λr h=>KN hn h) e3 l1 hg e2 hR hI (by omega);have hf':Dh v d'=true:=(Bool.and_eq_true _ _ ▸ e3:_∧_).1;exact ⟨L2,x2,SC hm0 hx,hR2,hi',AbZ hn hN hm _ (Nat.le_refl _) hR2 hi' hf' (by omega) (GoL.at l1 hg)⟩
end
end Go.Proofs.YtkbgidbledjejaaGreat.En
namespace Go.Proofs.YtkbgidbledjejaaGreat.En
open Go.Sy Go Go.Proofs.YtkbgidbledjejaaGreat.Ed
open Int (ofNat)
set_option maxRecDepth 100000
def lnV (v:Nat->E6) (d:List Nat) (i:Nat):V:=eV (v (wd d i))
section
variable {A n q:Int} {k:Nat} {w:Nat->E6} {m N:Nat} {v:Nat->E6} {hs:Key->Bool} {gt:Key->V}
theorem Ac9 {L:Nat} (h:L <= 64):G2 40 (ofNat L) (ofNat L)=true:=by
 simp only [G2,Bool.and_eq_true,decide_eq_true_eq,Int.ofNat_eq_natCast];omega
structure Holds9 (v:Nat->E6) (ds:List (List Nat)) (c:Nat) (ln:Nat->Nat) (me:Nat->Nat->V):Prop where
 len:∀ j,j<ds.length->ln (c+j)=(ds.getD j []).length
 el:∀ j,j<ds.length->∀ t,t<(ds.getD j []).length->me (c+j) t=lnV v (ds.getD j []) t
theorem Lz (f:Nat->Nat) (c x i:Nat):Dj f c x i=if i=c then x else f i:=by
 unfold Dj;by_cases h:i=c
 ·subst h
  rw [show Fy i i=true from Nat.beq_refl i,if_pos rfl];rfl
 ·rw [show Fy i c=false from Hg h,if_neg h]
  rfl
theorem Td (f:Nat->Bool) (c:Nat) (x:Bool) (i:Nat):CW f c x i=if i=c then x else f i:=by
 unfold CW;by_cases h:i=c
 ·subst h
  rw [show Fy i i=true from Nat.beq_refl i,if_pos rfl];rfl
 ·rw [show Fy i c=false from Hg h,if_neg h]
  rfl
theorem L1 (f:Nat->Nat->V) (c:Nat) (x:Nat->V) (i:Nat):DN f c x i=if i=c then x else f i:=by
 unfold DN;funext j;by_cases h:i=c
 ·subst h
  rw [show Fy i i=true from Nat.beq_refl i,if_pos rfl,Ep];rfl
 ·rw [show Fy i c=false from Hg h,if_neg h,Ep]
  rfl
theorem AcR (hN:N <= 16) (hm:m <= 112):∀ (ds:List (List Nat)) (c:Nat) (g:Nat->V) (lv:Nat->Bool) (ln:Nat->Nat) (me:Nat->Nat->V) (L:Nat) (x:Nat->Int) (M:Nat),Rem A n m v N ds L x->(∀ i,i<c->lv i=true)->c <= 65536->(ofNat c <= q)->q <= 65536->ds.length<M ->
  (q<ofNat (c+ds.length)∧∃ L' x' c' g' lv' ln' me',(Ay B41 lp41 M (U1 A n q k w m v L x hs gt c g lv ln me)).sem=some (AaY A n q k w m v L' x' hs gt c' g' lv' ln' me')) ∨
  (ofNat (c+ds.length) <= q∧∃ L' x' g' lv' ln' me',(Ay B41 lp41 M (U1 A n q k w m v L x hs gt c g lv ln me)).sem=some (AaX A n q k w m v L' x' hs gt (c+ds.length) g' lv' ln' me')∧(∀ i,i<c+ds.length->lv' i=true)∧(∀ i,i<c->ln' i=ln i∧me' i=me i)∧Holds9 v ds c ln' me')
 | [],c,g,lv,ln,me,L,x,M,hR,hlv,hc,hq,hq2,hM=>by
  obtain ⟨M,rfl⟩:∃ o,M=o+1:=⟨M-1,by omega⟩;obtain ⟨x',hE⟩:=hR;exact .inr ⟨by simpa using hq,0,x',g,lv,ln,me,Ae (Any hE),hlv,λ_ _=>⟨rfl,rfl⟩,⟨λj hj=>absurd hj (Nat.not_lt_zero _),λj hj=>absurd hj (Nat.not_lt_zero _)⟩⟩
 | d::ds,c,g,lv,ln,me,L,x,M,hR,hlv,hc,hq,hq2,hM=>by
  obtain ⟨M,rfl⟩:∃ o,M=o+1:=⟨M-1,by omega⟩;obtain ⟨L2,x2,hE,hr,hi,hR⟩:=hR;have hsr:=hr.sr hi (by omega) (by omega);have hk:=Ac9 (L:=L2) (by have:=hr.len; have:=hi.le; omega);have hl:(d::ds).length=ds.length+1:=rfl;cases he:ieq (ofNat c) q with
  | true =>have:=Cu he;exact .inl ⟨by rw [<- this,hl]; simp only [Int.ofNat_eq_natCast]; omega,L2,x2,c,g,lv,ln,me,Ae (Anz hE hsr hk hlv he)⟩
  | false =>
   have hne:ofNat c ≠ q:=λh=>by rw [h,eI] at he; cases he
   have hlt:ofNat (c+1) <= q:=by simp only [Int.ofNat_eq_natCast] at *; omega
   have hc1:c+1 <= 65536:=by simp only [Int.ofNat_eq_natCast] at *; omega
   rw [hl,Ae (Anx hE hsr hk hlv he (decide_eq_true (by omega)))];have e1:c+(ds.length+1)=c+1+ds.length:=by omega
   rw [e1];rcases AcR hN hm ds (c+1) (AE c g .und) (CW lv c true) (Dj ln c L2) (DN me c λi=>eV (v (toN (x2 i)))) L2 x2 M hR (λi hi=>by rw [Td]; split; rfl; exact hlv i (by omega)) hc1 hlt hq2 (by omega) with ⟨h1,h2⟩ | ⟨h1,L',x',g',lv',ln',me',h2,h3,h4,h5⟩
   ·exact .inl ⟨h1,h2⟩
   ·refine .inr ⟨h1,L',x',g',lv',ln',me',h2,h3,λi hi=>?_,⟨λj hj=>?_,λj hj t ht=>?_⟩⟩
    ·obtain ⟨p1,p2⟩:=h4 i (by omega)
     rw [p1,p2,Lz,L1,if_neg (by omega),if_neg (by omega)];exact ⟨rfl,rfl⟩
    ·cases j with
     | zero =>rw [Nat.add_zero,(h4 c (by omega)).1,Lz,if_pos rfl];exact hr.len
     | succ j =>rw [show c+(j+1)=c+1+j by omega];exact h5.len j (by rw [hl] at hj; omega)
    ·cases j with
     | zero =>rw [Nat.add_zero,(h4 c (by omega)).2,L1,if_pos rfl];show eV (v (toN (x2 t)))=_;rw [hr.at_ t (by rw [hr.len]; exact ht)];rfl
     | succ j =>rw [show c+(j+1)=c+1+j by omega];exact h5.el j (by rw [hl] at hj; omega) t ht
theorem Ajg (hN:N <= 16) (hm:m <= 112) {ds:List (List Nat)} {x:Nat->Int} (hR:Rem A n m v N ds 0 x) (hq:0 <= q) (hq2:q <= 65536) {M:Nat} (hM:ds.length<M) :
  (q<ofNat ds.length∧((∃ L' x',(Ay B41 lp41 M (S41 A n q k w m v 0 x hs gt)).sem=some (Akd A n q k w m v L' x' hs gt)) ∨ ∃ L' x' c' g' lv' ln' me',(Ay B41 lp41 M (S41 A n q k w m v 0 x hs gt)).sem=some (AaY A n q k w m v L' x' hs gt c' g' lv' ln' me'))) ∨
  (ofNat ds.length <= q∧((ds=[]∧∃ x',(Ay B41 lp41 M (S41 A n q k w m v 0 x hs gt)).sem=some (Akc A n q k w m v 0 x' hs gt)) ∨ ∃ L' x' g' lv' ln' me',(Ay B41 lp41 M (S41 A n q k w m v 0 x hs gt)).sem=some (AaX A n q k w m v L' x' hs gt ds.length g' lv' ln' me')∧(∀ i,i<ds.length->lv' i=true)∧Holds9 v ds 0 ln' me')):=by
 cases ds with
 | nil =>obtain ⟨M,rfl⟩:∃ o,M=o+1:=⟨M-1,by omega⟩;obtain ⟨x',hE⟩:=hR;exact .inr ⟨hq,.inl ⟨rfl,x',Ae (An3 hE)⟩⟩
 | cons d ds =>
  have hl:(d::ds).length=ds.length+1:=rfl;rw [hl] at hM ⊢;obtain ⟨M,rfl⟩:∃ o,M=o+1:=⟨M-1,by omega⟩;obtain ⟨L2,x2,hE,hr,hi,hR⟩:=hR;have hsr:=hr.sr hi (by omega) (by omega);have hk:=Ac9 (L:=L2) (by have:=hr.len; have:=hi.le; omega);cases he:ieq 0 q with
  | true =>have:=Cu he;exact .inl ⟨by rw [<- this]; simp only [Int.ofNat_eq_natCast]; omega,.inl ⟨L2,x2,Ae (An4 hE hsr hk he)⟩⟩
  | false =>
   have hne:(0:Int) ≠ q:=λh=>by rw [h,eI] at he; cases he
   rw [Ae (An2 hE hsr hk he)];have hlt:ofNat 1 <= q:=by show (1:Int) <= q; omega
   rcases AcR hN hm ds 1 (AE 0 Ac .und) (CW (λ_=>true) 0 true) (Dj (λ_=>0) 0 L2) (DN (λ_ _=>.und) 0 λi=>eV (v (toN (x2 i)))) L2 x2 M hR (λi hi=>by rw [Td]; split <;> rfl) (by omega) hlt hq2 (by omega) with ⟨h1,h2⟩ | ⟨h1,L',x',g',lv',ln',me',h2,h3,h4,h5⟩
   ·rw [Nat.add_comm] at h1
    exact .inl ⟨h1,.inr h2⟩
   ·rw [Nat.add_comm] at h1 h2 h3
    refine .inr ⟨h1,.inr ⟨L',x',g',lv',ln',me',h2,h3,⟨λj hj=>?_,λj hj t ht=>?_⟩⟩⟩
    ·cases j with
     | zero =>rw [Nat.add_zero,(h4 0 (by omega)).1,Lz,if_pos rfl];exact hr.len
     | succ j =>rw [show 0+(j+1)=1+j by omega];exact h5.len j (by rw [hl] at hj; omega)
    ·cases j with
     | zero =>rw [Nat.add_zero,(h4 0 (by omega)).2,L1,if_pos rfl];show eV (v (toN (x2 t)))=_;rw [hr.at_ t (by rw [hr.len]; exact ht)];rfl
     | succ j =>rw [show 0+(j+1)=1+j by omega];exact h5.el j (by rw [hl] at hj; omega) t ht
end
end Go.Proofs.YtkbgidbledjejaaGreat.En
