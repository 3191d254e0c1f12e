/-
  Layer 12: the law EmitrRuns as a function. No conditions.
-/
import Derived.Test.YtkbafjceglhjhaaGreatDoorEuG
namespace Go.Proofs.YtkbafjceglhjhaaGreatDoor.Er
open Go.Sy Go Go.Proofs.YtkbafjceglhjhaaGreatDoor.Ed Go.Proofs.YtkbafjceglhjhaaGreatDoor.Sh
set_option maxRecDepth 100000
set_option maxHeartbeats 1000000
noncomputable def Γ7:Cx:=⟨A2 tb7,Lq7,Gl⟩
theorem Aiu:Bi Tryz.prog Γ7.base∧BU Γ7:=⟨(Bd tb7_ok []).1,AgS _ _ _ _ _ rfl _⟩
theorem r7' {s:Sh7} {nt:Nat} {td:Nat->Int} (h:ieq (FK s) 0=true):(A4 (B7 0 Lq7) lp7 4611686018427387905 (T7 s nt td 0 0)).sem=some (F7 s (Int.ofNat (q0 s (toN s.tt)))):=by
 have:=r7 (nt:=nt) (td:=td) (good h) (Aiq h) (AjJ (good h) (Aiq h) (AoK h));rw [Aqi] at this;exact this
theorem w7t {s:Sh7} {nt:Nat} {td:Nat->Int} (h1:Dg s.ne=true) (h2:Ak (Au s.ne) (Ak (Au s.nx) (Ak (Au s.nr) (Ak (Au s.nc) (Bo s.nc (λi=>Au (s.C i).1)))))=true) (h3:ieq (FK s) 0=true):(Ay (Aj tab Γ7 Tryz.f7 [E2 s,.sl 1 nt (λi=>iV (td i))] [])).sem=some (bV true,[]) :=
 DW.ok (.k (eL s.ne) <| .k (eL s.nx) <| .k (eL s.nr) <| .k (eL2 s.nc s.C) <| .k h1 <| .k h2 <| .k h3 <| .k (Ag6 (good h3)) <| .k (eL s.ne) <| .k (eL s.nx) <| .k (eL s.nr) <| .k (eL2 s.nc s.C) <| .k h1 <| .k h2 <| .k h3 <| .k (NR (good h3)) <| .k (eN (eI 0)) <| .a (r7' (nt:=nt) (td:=td) h3) <| .r 2 (AnK (good h3)) <| .l) (by kernel_rfl)
theorem w7f {s:Sh7} {nt:Nat} {td:Nat->Int} (h1:Dg s.ne=true) (h2:Ak (Au s.ne) (Ak (Au s.nx) (Ak (Au s.nr) (Ak (Au s.nc) (Bo s.nc (λi=>Au (s.C i).1)))))=true) (h3:ieq (FK s) 0=false):(Ay (Aj tab Γ7 Tryz.f7 [E2 s,.sl 1 nt (λi=>iV (td i))] [])).sem=some (bV true,[]) :=
 DW.ok (.k (eL s.ne) <| .k (eL s.nx) <| .k (eL s.nr) <| .k (eL2 s.nc s.C) <| .k h1 <| .k h2 <| .k h3 <| .k (eL s.ne) <| .k (eL s.nx) <| .k (eL s.nr) <| .k (eL2 s.nc s.C) <| .k h1 <| .k h2 <| .k h3 <| .k (eN h3) <| .k (eL s.ne) <| .k (eL s.nx) <| .k (eL s.nr) <| .k (eL2 s.nc s.C) <| .k h1 <| .k h2 <| .k h3 <| .r 2 (eI (FK s)) <| .l) (by kernel_rfl)
noncomputable def Yh:List V->AA
 | [v,w]=>apS v λs=>apI w λ_ _=>UC s
 | _=>.fail
theorem p7:As Tryz.prog Gl 7 Yh:=by
 refine Am A0 mixed Tryz.func7 (by kernel_rfl) (by kernel_rfl) λvs v h' h=>?_;unfold Yh at h;split at h
 ·obtain ⟨s,a1,h⟩:=apS_some h
  obtain ⟨nt,td,a2,h⟩:=FG h;unfold UC at h;obtain ⟨h1,h⟩:=Ad h;obtain ⟨h2,h⟩:=Ad h;refine ⟨[E2 s,.sl 1 nt (λi=>iV (td i))],Γ7,h',λS w cs hc=>?_,rfl,Aiu.1,Aiu.2,?_,Aw.refl _⟩
  ·obtain ⟨c,l,rfl,q1,hc⟩:=hc
   obtain ⟨d,l,rfl,q2,q3⟩:=hc;exact ⟨c,_,rfl,a1 S w c q1,d,_,rfl,a2 S w d q2,q3⟩
  ·cases h3:ieq (FK s) 0 with
   | true =>rw [h3] at h;cases Aa h;exact w7t h1 h2 h3
   | false =>rw [h3] at h;cases Aa h;exact w7f h1 h2 h3
 ·cases h
theorem AgU {β:Type} (n:Nat) (f:Nat->Int) (F:Nat->(Nat->Int)->T β):(apI (.sl 1 n λi=>iV (f i)) F).sem=(F n f).sem:=by
 show (T.br (Bo n λi=>okI (iV (f i))) (F n λi=>edI (iV (f i))) .fail).sem=_;rw [show (Bo n λi=>okI (iV (f i)))=true from AO.2 λi _=>rfl];rfl
theorem ZQ {s:Sh7} {nt:Nat} {td:Nat->Int} (h1:s.ne * 40 <= 140737488355328) (h2:s.nx * 40 <= 140737488355328) (h3:s.nr * 8 <= 140737488355328) (h4:s.nc * 24 <= 140737488355328) (h5:∀ i,i<s.nc->(s.C i).1 * 8 <= 140737488355328):(Yh [E2 s,.sl 1 nt (λi=>iV (td i))]).sem=some (bV true,[]):=by
 show (Sh.apS (E2 s) λs=>apI (.sl 1 nt (λi=>iV (td i))) λ_ _=>UC s).sem=_;rw [Sh.apS_sem,AgU];have h:=Agu h1 h2 h3 h4 h5;rw [show shT UC [E2 s]=Sh.apS (E2 s) UC from rfl,Sh.apS_sem] at h;exact h
end Go.Proofs.YtkbafjceglhjhaaGreatDoor.Er
