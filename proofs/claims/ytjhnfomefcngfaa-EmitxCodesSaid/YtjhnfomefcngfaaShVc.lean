/-
  Layer 11: the code of a shape (functions 42, 74), as it is called; what must come (function 43). No conditions.
-/
import Derived.Test.YtjhnfomefcngfaaShU
import Derived.Test.YtjhnfomefcngfaaShT
namespace Go.Proofs.Ytjhnfomefcngfaa.Sh
open Go.Sy Ed
set_option maxHeartbeats 1000000
set_option maxRecDepth 4000
noncomputable def AfP:List (Nat × (List V->T (V × List Blk))):=[(25,KP),(75,Ng)]
theorem Qo:AA Try.prog Gl AfP:=.cons Alj <| .cons p75 .nil
noncomputable def Ail:Cx:=⟨KS [(74,Kz tab (AI Gl AfP []) Try.f74)] (Am AfP),AV [],Gl⟩
theorem WS:Bk Try.prog Ail.base ∧ BM Ail :=
 ⟨GL AN (.cons rfl AL (AO Qo []).1 (AO Qo []).2 Try.func74 (by kernel_rfl) (by kernel_rfl) .nil) (DW rfl Qo),
  λid f st r hr=>by
   have hr:(AV [] id f st).sem = some r:=hr
   cases hr⟩
noncomputable def Aj6:List (Nat × (List V->T (V × List Blk))):=[(63,psT),(15,ofT)]
theorem AbV:AA Try.prog Gl Aj6:=.cons p41 <| .cons p15 .nil
noncomputable def AdA:Cx:=⟨KS [(42,Kz tab Ail Try.f42)] (Am Aj6),AV [],Gl⟩
theorem Ad9:Bk Try.prog AdA.base ∧ BM AdA :=
 ⟨GL AN (.cons rfl AL WS.1 WS.2 Try.func42 (by kernel_rfl) (by kernel_rfl) .nil) (DW rfl AbV),
  λid f st r hr=>by
   have hr:(AV [] id f st).sem = some r:=hr
   cases hr⟩
theorem AlR:(Ar (Ai tab AdA Try.f43 [] [])).sem = some (bV true,[]):=by kernel_rfl
theorem p43:A7 Try.prog Gl 43 (Yz (bV true)):=by
 refine A7.congr (AP AL AN Try.func43 (by kernel_rfl) (by kernel_rfl) (Γ:=AdA) Ad9) λvs r h=>?_
 unfold Yz at h
 split at h
 ·rw [Ac h]
  exact AlR
 ·cases h
end Go.Proofs.Ytjhnfomefcngfaa.Sh
namespace Go.Proofs.Ytjhnfomefcngfaa.Sh
open Go.Sy Ed
set_option maxHeartbeats 1000000
set_option maxRecDepth 4000
def AaU (e:E6):Bool:=ieq e.src 1 || ieq e.src 2
theorem XV:(List.range 112).all (λk=>AaU (Dy k)) = true:=by kernel_rfl
theorem An3 {e:E6} (h:Bb e = 0):AaU e = true:=by
 rcases EC e with ⟨k,hk,_,_,he,_⟩ | ⟨h2,_⟩
 ·rw [<- he]
  exact List.all_eq_true.1 XV k (by simpa using hk)
 ·rw [h2] at h
  cases h
theorem Wi {lw:Nat->Nat} {u i:Nat} (h:i ≠ u):G2 lw u i = lw i:=by unfold G2; rw [Go.Sy.nbeq_ne h]; rfl
theorem IA (lw:Nat->Nat) (u:Nat):G2 lw u u = lw u+1:=by unfold G2; rw [nbeq_self]; rfl
theorem Wj {lw:Nat->Nat} {cw:Nat->Nat->In4} {v:In4} {u i:Nat} (h:i ≠ u):J0 lw cw u v i = cw i:=by funext j; unfold J0; rw [Go.Sy.nbeq_ne h]; rfl
theorem WC (fe:Bool) (x:Ev5) (b:Nat) (W:Wr4):(evW fe x b W).lw = G2 (bif fe then G2 W.lw (toN x.th) else W.lw) (toN x.th):=by
 unfold evW; cases fe <;> cases ieq x.dir 2 <;> rfl
theorem WD (fe:Bool) (x:Ev5) (b:Nat) (W:Wr4) :
  (evW fe x b W).cw = J0 (bif fe then G2 W.lw (toN x.th) else W.lw) (bif fe then J0 W.lw W.cw (toN x.th) F9 else W.cw) (toN x.th) (Rj x W):=by
 unfold evW; cases fe <;> cases ieq x.dir 2 <;> rfl
theorem AlC {fe:Bool} {x:Ev5} {b:Nat} {W:Wr4} {u:Nat} (h:toN x.th ≠ u):(evW fe x b W).lw u = W.lw u ∧ (evW fe x b W).cw u = W.cw u:=by
 have h:=Ne.symm h
 rw [WC,WD,Wi h,Wj h]
 cases fe
 ·exact ⟨rfl,rfl⟩
 ·exact ⟨Wi h,Wj h⟩
theorem Y5 {n:Nat} {g:Nat->E6} {d:Nat->Bool} (hl:obF g (n - 1) = true) {i:Nat} (hi:i < n):(evF n g d i).th = Int.ofNat (Al (obF g) i):=by
 rw [Cg hi]
 show A0 (obF g) n i = _
 rw [FS hi]
 unfold AZ
 rw [if_neg (by have:=before hi hl; omega)]
theorem Tt {e:E6} (h:Ax e = true):ieq e.kind 5 = false:=by
 cases hc:ieq e.kind 5 with
 | false=>rfl
 | true =>
  have hk:=BB hc
  have:=AcE (Abc (e:=e) (by rw [hk]; rfl) (by rw [hk]; rfl) (by rw [hk]; rfl))
  rw [this] at h
  cases h
end Go.Proofs.Ytjhnfomefcngfaa.Sh
namespace Go.Proofs.Ytjhnfomefcngfaa.Sh
open Go.Sy Ed
set_option maxHeartbeats 1000000
set_option maxRecDepth 4000
def Bf (a:Int) (n:Nat) (g:Nat->E6) (m:Nat) (x:Nat->Ev5) (t k:Int) (p:Nat) (r:Nat->Int) (q:Nat) (ln:Nat->Nat) (co:Nat->Nat->Int):Int:=bif ieq (EU a n g m x t k p r q ln co) 0 then (bif ieq a 1 then 0 else 5) else 70
def U6:List V->T (V × List Blk)
 | [v]=>apS v λs=>.br (Bj s.ne) (.br (CH s) (.leaf (iV (Bf s.arch s.ne s.E s.nx s.X s.tt s.kk s.nr s.R s.nc (λi=>(s.C i).1) (λi=>(s.C i).2)),[])) .fail) .fail
 | _=>.fail
def lwX (a:Int) (n:Nat) (g:Nat->E6) (m:Nat) (x:Nat->Ev5) (t k:Int) (p:Nat) (r:Nat->Int) (q:Nat) (ln:Nat->Nat) (co:Nat->Nat->Int):Nat->Nat:=(wsS ⟨a,n,g,m,x,t,k,p,r,q,λu=>(ln u,co u)⟩).lw
def cwX (a:Int) (n:Nat) (g:Nat->E6) (m:Nat) (x:Nat->Ev5) (t k:Int) (p:Nat) (r:Nat->Int) (q:Nat) (ln:Nat->Nat) (co:Nat->Nat->Int):Nat->Nat->In4:=(wsS ⟨a,n,g,m,x,t,k,p,r,q,λu=>(ln u,co u)⟩).cw
def yyX (a:Int) (n:Nat) (g:Nat->E6) (m:Nat) (x:Nat->Ev5) (t k:Int) (p:Nat) (r:Nat->Int) (q:Nat) (ln:Nat->Nat) (co:Nat->Nat->Int):Nat->Int:=(wsS ⟨a,n,g,m,x,t,k,p,r,q,λu=>(ln u,co u)⟩).y
def wrX (a:Int) (n:Nat) (g:Nat->E6) (m:Nat) (x:Nat->Ev5) (t k:Int) (p:Nat) (r:Nat->Int) (q:Nat) (ln:Nat->Nat) (co:Nat->Nat->Int):Bool:=wrB ⟨a,n,g,m,x,t,k,p,r,q,λu=>(ln u,co u)⟩
def Pi:List V->T (V × List Blk)
 | [v]=>apS v λs=>.br (wrX s.arch s.ne s.E s.nx s.X s.tt s.kk s.nr s.R s.nc (λi=>(s.C i).1) (λi=>(s.C i).2)) (.leaf (.tup [.jref 0,.ref 1],[.jag ⟨64,1,toN s.tt,λ_=>.und,0,66,8,λ_=>true,lwX s.arch s.ne s.E s.nx s.X s.tt s.kk s.nr s.R s.nc (λi=>(s.C i).1) (λi=>(s.C i).2),λu j=>inV (cwX s.arch s.ne s.E s.nx s.X s.tt s.kk s.nr s.R s.nc (λi=>(s.C i).1) (λi=>(s.C i).2) u j)⟩,.row 3 1 s.nx (λi=>iV (yyX s.arch s.ne s.E s.nx s.X s.tt s.kk s.nr s.R s.nc (λi=>(s.C i).1) (λi=>(s.C i).2) i))])) .fail
 | _=>.fail
theorem Ank:A7 Try.prog Gl 75 Pi:=p75
def codeT:List V->T (V × List Blk)
 | [v]=>apS v λs=>.br (Bj s.ne) (.br (CH s) (.br (ieq (Bf s.arch s.ne s.E s.nx s.X s.tt s.kk s.nr s.R s.nc (λi=>(s.C i).1) (λi=>(s.C i).2)) 0) (.br (wrX s.arch s.ne s.E s.nx s.X s.tt s.kk s.nr s.R s.nc (λi=>(s.C i).1) (λi=>(s.C i).2)) (.leaf (.tup [.jref 0,iV 0],[.jag ⟨64,1,toN s.tt,λ_=>.und,0,66,8,λ_=>true,lwX s.arch s.ne s.E s.nx s.X s.tt s.kk s.nr s.R s.nc (λi=>(s.C i).1) (λi=>(s.C i).2),λu j=>inV (cwX s.arch s.ne s.E s.nx s.X s.tt s.kk s.nr s.R s.nc (λi=>(s.C i).1) (λi=>(s.C i).2) u j)⟩])) .fail)
  (.leaf (.tup [.jref 0,iV (Bf s.arch s.ne s.E s.nx s.X s.tt s.kk s.nr s.R s.nc (λi=>(s.C i).1) (λi=>(s.C i).2))],[.jag ⟨64,1,0,λ_=>.und,0,66,8,λ_=>true,λ_=>0,λ_ _=>.und⟩]))) .fail) .fail
 | _=>.fail
def P4:List V->T (V × List Blk)
 | [v]=>apS v λs=>.br (Bj s.ne) (.br (CH s) (.br (ieq (Bf s.arch s.ne s.E s.nx s.X s.tt s.kk s.nr s.R s.nc (λi=>(s.C i).1) (λi=>(s.C i).2)) 0) (.br (wrX s.arch s.ne s.E s.nx s.X s.tt s.kk s.nr s.R s.nc (λi=>(s.C i).1) (λi=>(s.C i).2)) (.leaf (.tup [.ref 0,iV 0],[.row 3 1 s.nx λi=>iV (yyX s.arch s.ne s.E s.nx s.X s.tt s.kk s.nr s.R s.nc (λi=>(s.C i).1) (λi=>(s.C i).2) i)])) .fail)
  (.leaf (.tup [.ref 0,iV (Bf s.arch s.ne s.E s.nx s.X s.tt s.kk s.nr s.R s.nc (λi=>(s.C i).1) (λi=>(s.C i).2))],[.row 3 1 0 λ_=>.und]))) .fail) .fail
 | _=>.fail
noncomputable def RV:List (Nat × (List V->T (V × List Blk))):=[(25,KP)]
theorem YB:AA Try.prog Gl RV:=.cons Alj .nil
noncomputable def Qs:List (Nat × (List V->T (V × List Blk))):=[(74,U6),(75,Pi)]
section
variable (L:LT) (a:Int) (n:Nat) (g:Nat->E6) (m:Nat) (x:Nat->Ev5) (t k:Int) (p:Nat) (r:Nat->Int) (q:Nat) (ln:Nat->Nat) (co:Nat->Nat->Int)
include L a n g m x t k p r q ln co
theorem Amo (h21:A5 q (λi=>(A5 (ln i) (λ_=>true))) = true) (h22:Bj n = true) (h23:Ag n = true) (h24:Ag m = true) (h25:Ag p = true) (h26:Ag q = true) (h27:A5 q (λi=>(Ag (ln i))) = true) (h28:ieq (EU a n g m x t k p r q ln (λi i_1=>(co i i_1))) 0 = false):(Ar (Ai tab ⟨Am RV,L,Gl⟩ Try.f74 [.agg (shL a n g m x t k p r q ln co)] [])).sem = some ((iV 70),[]):=by
 exact Aa (ks:=[kL n,kL m,kL p,kn h21,kn h22,kA (kn h23) (kA (kn h24) (kA (kn h25) (kA (kn h26) (kn h27)))),kN (kn h28)]) (by kernel_rfl)
theorem Amp (h22:A5 q (λi=>(A5 (ln i) (λ_=>true))) = true) (h23:Bj n = true) (h24:Ag n = true) (h25:Ag m = true) (h26:Ag p = true) (h27:Ag q = true) (h28:A5 q (λi=>(Ag (ln i))) = true) (h29:ieq (EU a n g m x t k p r q ln (λi i_1=>(co i i_1))) 0 = true) (h0:ieq a 1 = false):(Ar (Ai tab ⟨Am RV,L,Gl⟩ Try.f74 [.agg (shL a n g m x t k p r q ln co)] [])).sem = some ((iV 5),[]):=by
 exact Aa (ks:=[kL n,kL m,kL p,kn h22,kn h23,kA (kn h24) (kA (kn h25) (kA (kn h26) (kA (kn h27) (kn h28)))),kN (kn h29),kN (kn h0)]) (by kernel_rfl)
theorem Amn (h22:A5 q (λi=>(A5 (ln i) (λ_=>true))) = true) (h23:Bj n = true) (h24:Ag n = true) (h25:Ag m = true) (h26:Ag p = true) (h27:Ag q = true) (h28:A5 q (λi=>(Ag (ln i))) = true) (h29:ieq (EU a n g m x t k p r q ln (λi i_1=>(co i i_1))) 0 = true) (h0:ieq a 1 = true):(Ar (Ai tab ⟨Am RV,L,Gl⟩ Try.f74 [.agg (shL a n g m x t k p r q ln co)] [])).sem = some ((iV 0),[]):=by
 exact Aa (ks:=[kL n,kL m,kL p,kn h22,kn h23,kA (kn h24) (kA (kn h25) (kA (kn h26) (kA (kn h27) (kn h28)))),kN (kn h29),kN (kn h0)]) (by kernel_rfl)
end
theorem p74:A7 Try.prog Gl 74 U6:=by
 refine Av AL AN Try.func74 (by kernel_rfl) (by kernel_rfl) λvs v h' h=>?_
 unfold U6 at h
 split at h
 ·rename_i v1
  obtain ⟨s,a1,h⟩:=BI h
  obtain ⟨hf,h⟩:=Ad h
  obtain ⟨hn,h⟩:=Ad h
  obtain ⟨a,n,g,m,x,t,k,p,r,q,C⟩:=s
  obtain ⟨ln,co,hC⟩:∃ (ln:Nat->Nat) (co:Nat->Nat->Int),C = λu=>(ln u,co u):=⟨λu=>(C u).1,λu=>(C u).2,rfl⟩
  subst hC
  have hA:Bp [v1] [.agg (shL a n g m x t k p r q ln co)]:=λS w cs hv=>by
   obtain ⟨c,l,rfl,q1,q2⟩:=hv
   exact ⟨c,_,rfl,a1 S w c q1,q2⟩
  have hn:Ag n = true ∧ Ag m = true ∧ Ag p = true ∧ Ag q = true ∧ (A5 q λi=>Ag (ln i)) = true:=by simpa [CH,Ak] using hn
  obtain ⟨n1,n2,n3,n4,n5⟩:=hn
  have:=Ac h
  simp only [Prod.mk.injEq] at this
  obtain ⟨rfl,rfl⟩:=this
  have hx:=AO YB [] (G:=Gl)
  refine ⟨_,AI Gl RV [],_,hA,rfl,hx.1,hx.2,?_,A8.refl _⟩
  show _ = some (iV (Bf a n g m x t k p r q ln co),_)
  unfold Bf
  cases hc:ieq (EU a n g m x t k p r q ln co) 0 with
  | false=>exact Amo _ a n g m x t k p r q ln co (C4 () ()) hf n1 n2 n3 n4 n5 hc
  | true =>
   cases ha:ieq a 1 with
   | false=>exact Amp _ a n g m x t k p r q ln co (C4 () ()) hf n1 n2 n3 n4 n5 hc ha
   | true=>exact Amn _ a n g m x t k p r q ln co (C4 () ()) hf n1 n2 n3 n4 n5 hc ha
 ·cases h
theorem VO:AA Try.prog Gl Qs:=.cons p74 <| .cons Ank .nil
section
variable (L:LT) (a:Int) (n:Nat) (g:Nat->E6) (m:Nat) (x:Nat->Ev5) (t k:Int) (p:Nat) (r:Nat->Int) (q:Nat) (ln:Nat->Nat) (co:Nat->Nat->Int)
include L a n g m x t k p r q ln co
theorem Am7 (h21:A5 q (λi=>(A5 (ln i) (λ_=>true))) = true) (h22:Bj n = true) (h23:Ag n = true) (h24:Ag m = true) (h25:Ag p = true) (h26:Ag q = true) (h27:A5 q (λi=>(Ag (ln i))) = true) (h28:ieq (Bf a n g m x t k p r q ln (λi i_1=>(co i i_1))) 0 = false):(Ar (Ai tab ⟨Am Qs,L,Gl⟩ Try.f42 [.agg (shL a n g m x t k p r q ln co)] [])).sem = some ((.tup [(.jref 0),(iV (Bf a n g m x t k p r q ln (λi i_1=>(co i i_1))))]),[(.jag (Jag.mk 64 1 0 (λ_=>.und) 0 66 8 (λ_=>true) (λ_=>0) (λ_ _=>.und)))]):=by
 exact Aa (ks:=[kL n,kL m,kL p,kn h21,kn h22,kA (kn h23) (kA (kn h24) (kA (kn h25) (kA (kn h26) (kn h27)))),kN (kn h28)]) (by kernel_rfl)
theorem Am6 (h21:A5 q (λi=>(A5 (ln i) (λ_=>true))) = true) (h22:Bj n = true) (h23:Ag n = true) (h24:Ag m = true) (h25:Ag p = true) (h26:Ag q = true) (h27:A5 q (λi=>(Ag (ln i))) = true) (h28:ieq (Bf a n g m x t k p r q ln (λi i_1=>(co i i_1))) 0 = true) (h29:wrX a n g m x t k p r q ln (λi i_1=>(co i i_1)) = true):(Ar (Ai tab ⟨Am Qs,L,Gl⟩ Try.f42 [.agg (shL a n g m x t k p r q ln co)] [])).sem = some ((.tup [(.jref 0),(iV 0)]),[(.jag (Jag.mk 64 1 (toN t) (λ_=>.und) 0 66 8 (λ_=>true) (lwX a n g m x t k p r q ln (λi i_1=>(co i i_1))) (λu j=>(.agg [(iV ((cwX a n g m x t k p r q ln (λi i_1=>(co i i_1)) u j)).op),(iV ((cwX a n g m x t k p r q ln (λi i_1=>(co i i_1)) u j)).d),(iV 0),(iV 0),(iV ((cwX a n g m x t k p r q ln (λi i_1=>(co i i_1)) u j)).imm),(.str ((cwX a n g m x t k p r q ln (λi i_1=>(co i i_1)) u j)).loc),(.str []),(iV 0)]))))]):=by
 exact Aa (ks:=[kL n,kL m,kL p,kn h21,kn h22,kA (kn h23) (kA (kn h24) (kA (kn h25) (kA (kn h26) (kn h27)))),kN (kn h28),kL n,kL m,kL p,kn h21,kn h29]) (by kernel_rfl)
theorem Am3 (h21:A5 q (λi=>(A5 (ln i) (λ_=>true))) = true) (h22:Bj n = true) (h23:Ag n = true) (h24:Ag m = true) (h25:Ag p = true) (h26:Ag q = true) (h27:A5 q (λi=>(Ag (ln i))) = true) (h28:ieq (Bf a n g m x t k p r q ln (λi i_1=>(co i i_1))) 0 = false):(Ar (Ai tab ⟨Am Qs,L,Gl⟩ Try.f45 [.agg (shL a n g m x t k p r q ln co)] [])).sem = some ((.tup [(.ref 0),(iV (Bf a n g m x t k p r q ln (λi i_1=>(co i i_1))))]),[r3Z]):=by
 exact Aa (ks:=[kL n,kL m,kL p,kn h21,kn h22,kA (kn h23) (kA (kn h24) (kA (kn h25) (kA (kn h26) (kn h27)))),kN (kn h28)]) (by kernel_rfl)
theorem Am2 (h21:A5 q (λi=>(A5 (ln i) (λ_=>true))) = true) (h22:Bj n = true) (h23:Ag n = true) (h24:Ag m = true) (h25:Ag p = true) (h26:Ag q = true) (h27:A5 q (λi=>(Ag (ln i))) = true) (h28:ieq (Bf a n g m x t k p r q ln (λi i_1=>(co i i_1))) 0 = true) (h29:wrX a n g m x t k p r q ln (λi i_1=>(co i i_1)) = true):(Ar (Ai tab ⟨Am Qs,L,Gl⟩ Try.f45 [.agg (shL a n g m x t k p r q ln co)] [])).sem = some ((.tup [(.ref 0),(iV 0)]),[(.row 3 1 m (λi=>(iV (yyX a n g m x t k p r q ln (λi i_1=>(co i i_1)) i))))]):=by
 exact Aa (ks:=[kL n,kL m,kL p,kn h21,kn h22,kA (kn h23) (kA (kn h24) (kA (kn h25) (kA (kn h26) (kn h27)))),kN (kn h28),kL n,kL m,kL p,kn h21,kn h29]) (by kernel_rfl)
end
theorem p42:A7 Try.prog Gl 42 codeT:=by
 refine Av AL AN Try.func42 (by kernel_rfl) (by kernel_rfl) λvs v h' h=>?_
 unfold codeT at h
 split at h
 ·rename_i v1
  obtain ⟨s,a1,h⟩:=BI h
  obtain ⟨hf,h⟩:=Ad h
  obtain ⟨hn,h⟩:=Ad h
  obtain ⟨a,n,g,m,x,t,k,p,r,q,C⟩:=s
  obtain ⟨ln,co,hC⟩:∃ (ln:Nat->Nat) (co:Nat->Nat->Int),C = λu=>(ln u,co u):=⟨λu=>(C u).1,λu=>(C u).2,rfl⟩
  subst hC
  have hA:Bp [v1] [.agg (shL a n g m x t k p r q ln co)]:=λS w cs hv=>by
   obtain ⟨c,l,rfl,q1,q2⟩:=hv
   exact ⟨c,_,rfl,a1 S w c q1,q2⟩
  have hn:Ag n = true ∧ Ag m = true ∧ Ag p = true ∧ Ag q = true ∧ (A5 q λi=>Ag (ln i)) = true:=by simpa [CH,Ak] using hn
  obtain ⟨n1,n2,n3,n4,n5⟩:=hn
  have hx:=AO VO [] (G:=Gl)
  cases hc:ieq (Bf a n g m x t k p r q ln co) 0 with
  | false =>
   simp only [hc,T.sem,sel,cond_false,Option.some.injEq,Prod.mk.injEq] at h
   obtain ⟨rfl,rfl⟩:=h
   exact ⟨_,AI Gl Qs [],_,hA,rfl,hx.1,hx.2,Am7 _ a n g m x t k p r q ln co (C4 () ()) hf n1 n2 n3 n4 n5 hc,A8.refl _⟩
  | true =>
   simp only [hc] at h
   obtain ⟨hw,h⟩:=Ad h
   have:=Ac h
   simp only [Prod.mk.injEq] at this
   obtain ⟨rfl,rfl⟩:=this
   exact ⟨_,AI Gl Qs [],_,hA,rfl,hx.1,hx.2,Am6 _ a n g m x t k p r q ln co (C4 () ()) hf n1 n2 n3 n4 n5 hc hw,A8.refl _⟩
 ·cases h
theorem p45:A7 Try.prog Gl 45 P4:=by
 refine Av AL AN Try.func45 (by kernel_rfl) (by kernel_rfl) λvs v h' h=>?_
 unfold P4 at h
 split at h
 ·rename_i v1
  obtain ⟨s,a1,h⟩:=BI h
  obtain ⟨hf,h⟩:=Ad h
  obtain ⟨hn,h⟩:=Ad h
  obtain ⟨a,n,g,m,x,t,k,p,r,q,C⟩:=s
  obtain ⟨ln,co,hC⟩:∃ (ln:Nat->Nat) (co:Nat->Nat->Int),C = λu=>(ln u,co u):=⟨λu=>(C u).1,λu=>(C u).2,rfl⟩
  subst hC
  have hA:Bp [v1] [.agg (shL a n g m x t k p r q ln co)]:=λS w cs hv=>by
   obtain ⟨c,l,rfl,q1,q2⟩:=hv
   exact ⟨c,_,rfl,a1 S w c q1,q2⟩
  have hn:Ag n = true ∧ Ag m = true ∧ Ag p = true ∧ Ag q = true ∧ (A5 q λi=>Ag (ln i)) = true:=by simpa [CH,Ak] using hn
  obtain ⟨n1,n2,n3,n4,n5⟩:=hn
  have hx:=AO VO [] (G:=Gl)
  cases hc:ieq (Bf a n g m x t k p r q ln co) 0 with
  | false =>
   simp only [hc,T.sem,sel,cond_false,Option.some.injEq,Prod.mk.injEq] at h
   obtain ⟨rfl,rfl⟩:=h
   exact ⟨_,AI Gl Qs [],_,hA,rfl,hx.1,hx.2,Am3 _ a n g m x t k p r q ln co (C4 () ()) hf n1 n2 n3 n4 n5 hc,A8.refl _⟩
  | true =>
   simp only [hc] at h
   obtain ⟨hw,h⟩:=Ad h
   have:=Ac h
   simp only [Prod.mk.injEq] at this
   obtain ⟨rfl,rfl⟩:=this
   exact ⟨_,AI Gl Qs [],_,hA,rfl,hx.1,hx.2,Am2 _ a n g m x t k p r q ln co (C4 () ()) hf n1 n2 n3 n4 n5 hc hw,A8.refl _⟩
 ·cases h
end Go.Proofs.Ytjhnfomefcngfaa.Sh
namespace Go.Proofs.Ytjhnfomefcngfaa.Sh
open Go.Sy Ed
set_option maxHeartbeats 1000000
set_option maxRecDepth 4000
theorem Yh:Bn [.jag (Jag.mk 64 1 0 (λ_=>.und) 0 66 8 (λ_=>true) (λ_=>0) (λ_ _=>.und))] = true:=by
 simp [Bn]
theorem Abr (t:Nat) (lw:Nat->Nat) (cw:Nat->Nat->In4):Bn [.jag (Jag.mk 64 1 t (λ_=>.und) 0 66 8 (λ_=>true) lw (λu j=>inV (cw u j)))] = true:=by
 simp only [Bn,Bool.and_eq_true,List.all_eq_true]
 exact ⟨λ_ _=>⟨rfl,λ_ _=>rfl⟩,trivial⟩
end Go.Proofs.Ytjhnfomefcngfaa.Sh
