/-
  Layer 11: the document's code of a shape (function 44): what the program writes; the registers (46) likewise. No conditions.
-/
import Derived.Test.YtjhnfomefcngfaaShYb
namespace Go.Proofs.Ytjhnfomefcngfaa.Sh
open Go.Sy Ed
open Int (ofNat)
set_option maxHeartbeats 1000000
set_option maxRecDepth 4000
theorem Wl {i:Nat} (h:0 < i):ilt 0 (ofNat i) = true:=ofNat_lt h
theorem Aif {s:Sh7} (H:IsSh s) {i:Nat} (hi:i < s.nx):feF s.E s.nx i = K7 s.E s.X i:=by
 have hnx:=H.nx
 have hlo:=H.cyc.lo
 have hl:=Sn H.cyc
 have hE:s.E = λi=>s.E i:=rfl
 unfold feF K7
 cases i with
 | zero =>
  rw [show (0+s.nx - 1) % s.nx = s.ne - 1 by rw [hnx,Nat.zero_add]; exact Nat.mod_eq_of_lt (by omega),H.E _ (by omega)]
  exact Tt hl
 | succ k =>
  rw [show (k+1+s.nx - 1) % s.nx = k by rw [show k+1+s.nx - 1 = k+s.nx by omega,Nat.add_mod_right]; exact Nat.mod_eq_of_lt (by omega),show k+1 - 1 = k from rfl,Wl (Nat.succ_pos k),cond_true,H.E k (by omega),H.X (k+1) (by omega),Cg (show k+1 < s.ne by omega)]
  cases hp:ilt 0 (ofNat (plF s.ne (shG s.ne s.E) (k+1))) with
  | true=>rfl
  | false =>
   cases hk:ieq (shG s.ne s.E k).kind 5 with
   | false=>rfl
   | true =>
    have ho:obF (shG s.ne s.E) k = false:=by
     cases ho:obF (shG s.ne s.E) k with
     | false=>rfl
     | true=>rw [Tt ho] at hk; cases hk
    have hth:ieq (thF s.ne (shG s.ne s.E) (k+1)) (thF s.ne (shG s.ne s.E) k) = true:=by
     have h1:=Y5 (d:=λ_=>true) hl (show k+1 < s.ne by omega)
     have h2:=Y5 (d:=λ_=>true) hl (show k < s.ne by omega)
     rw [Cg (show k+1 < s.ne by omega)] at h1
     rw [Cg (show k < s.ne by omega)] at h2
     have h1:thF s.ne (shG s.ne s.E) (k+1) = _:=h1
     have h2:thF s.ne (shG s.ne s.E) k = _:=h2
     rw [h1,h2,By ho]
     exact CM _
    have h3:plF s.ne (shG s.ne s.E) (k+1) = Al (λj=>ieq (thF s.ne (shG s.ne s.E) (k+1)) (thF s.ne (shG s.ne s.E) j)) k+1:=Bl (p:=λj=>ieq (thF s.ne (shG s.ne s.E) (k+1)) (thF s.ne (shG s.ne s.E) j)) hth
    rw [h3,Wl (Nat.succ_pos _)] at hp
    cases hp
theorem AaT {s:Sh7} (H:IsSh s) {i:Nat} (hi:i < s.nx):ieq (s.X i).dir 1 = AG (ieq (s.X i).dir 2):=by
 have hnx:=H.nx
 have hg:=Gy H.cyc
 rw [H.X i (by omega),Cg (show i < s.ne by omega)]
 have h:=An3 (F4.1 hg.may i (by omega))
 show ieq (shG s.ne s.E i).src 1 = AG (ieq (shG s.ne s.E i).src 2)
 unfold AaU at h
 cases h2:ieq (shG s.ne s.E i).src 2 with
 | true=>rw [BB h2]; rfl
 | false =>
  rw [h2,Bool.or_false] at h
  exact h
theorem Qm {s:Sh7} (H:IsSh s) {i:Nat} (hi:i < s.nx):(s.X i).th = ofNat (toN (s.X i).th) ∧ toN (s.X i).th < ttN s.ne (shG s.ne s.E):=by
 have hnx:=H.nx
 have hl:=Sn H.cyc
 rw [H.X i (by omega),Y5 hl (show i < s.ne by omega)]
 exact ⟨rfl,before (by omega) hl⟩
def rdP (x:Nat->Ev5) (u k:Nat):Bool:=Ak (AD (toN (x k).th) u) (AG (ieq (x k).dir 2))
theorem Nf (fe:Nat->Bool) (x:Nat->Ev5) (u:Nat):∀ i,i <= 16->(wsF fe x i).nx u = ofNat (Al (rdP x u) i)
 | 0,_=>rfl
 | i+1,h=>by
  have ih:=Nf fe x u i (by omega)
  have ih2:=Nf fe x (toN (x i).th) i (by omega)
  have hle:Al (rdP x u) i <= i:=Be _ _
  refine (Aig (fe i) (x i) i (wsF fe x i) u).trans ?_
  cases hd:ieq (x i).dir 2 with
  | true =>
   rw [By (p:=rdP x u) (show rdP x u i = false by unfold rdP; rw [hd]; cases AD (toN (x i).th) u <;> rfl)]
   exact ih
  | false =>
   by_cases hu:u = toN (x i).th
   ·subst hu
    rw [Bl (p:=rdP x (toN (x i).th)) (show rdP x (toN (x i).th) i = true by unfold rdP; rw [hd,Go.Sy.nbeq_self]; rfl),Go.Sy.nbeq_self,ih2]
    exact Ao (n:=16) (by omega) (by omega)
   ·rw [By (p:=rdP x u) (show rdP x u i = false by unfold rdP; rw [Go.Sy.nbeq_ne (λh=>hu h.symm)]; rfl),Go.Sy.nbeq_ne hu]
    exact ih
theorem Ael {s:Sh7} (H:IsSh s) (fe:Nat->Bool) {i:Nat} (hi:i < s.nx):rgI s.X i = bif ieq (s.X i).dir 2 then -1 else (wsF fe s.X i).nx (toN (s.X i).th):=by
 have hnx:=H.nx
 have hhi:=H.cyc.hi
 unfold rgI
 rw [AaT H hi,Nf fe s.X _ i (by omega)]
 cases ieq (s.X i).dir 2 with
 | true=>rfl
 | false =>
  show ofNat _ = ofNat _
  rw [Do i λk hk=>?_]
  unfold rdP rgP
  have h1:=(Qm H hi).1
  have h2:=(Qm H (show k < s.nx by omega)).1
  rw [AaT H (show k < s.nx by omega)]
  by_cases he:toN (s.X k).th = toN (s.X i).th
  ·rw [h2.trans ((congrArg ofNat he).trans h1.symm),Go.Sy.nbeq_self,CM]
  ·rw [Go.Sy.nbeq_ne he,show ieq (s.X k).th (s.X i).th = false by rw [h1,h2]; exact K1 he]
theorem AmT {s:Sh7} (H:IsSh s) {i:Nat} (hi:i < s.nx):rgI s.X i = (wsS s).y i:=by
 have hnx:=H.nx
 have hhi:=H.cyc.hi
 have hy:=Ai2 (feF s.E s.nx) s.X (c:=i) (s.nx - (i+1))
 rw [show i+1+(s.nx - (i+1)) = s.nx by omega] at hy
 show _ = (wsF (feF s.E s.nx) s.X s.nx).y i
 have hle:Al (rdP s.X (toN (s.X i).th)) i <= i:=Be _ _
 rw [hy,Ael H (feF s.E s.nx) hi,Ai0 (show Al (rdP s.X (toN (s.X i).th)) i < 16 by omega) (Nf _ _ _ i (by omega)),Nf _ _ _ i (by omega)]
theorem Ann:A7 Try.prog Gl 46 P4:=by
 refine Av AL AN Try.func46 (by kernel_rfl) (by kernel_rfl) λvs v h' h=>?_
 unfold P4 at h
 split at h
 ·rename_i v1
  obtain ⟨s,a1,h⟩:=BI h
  obtain ⟨hf,h⟩:=Ad h
  obtain ⟨hn,h⟩:=Ad h
  obtain ⟨a,n,g,m,x,t,k,p,r,q,C⟩:=s
  obtain ⟨ln,co,hC⟩:∃ (ln:Nat->Nat) (co:Nat->Nat->Int),C = λu=>(ln u,co u):=⟨λu=>(C u).1,λu=>(C u).2,rfl⟩
  subst hC
  have hA:Bp [v1] [.agg (shL a n g m x t k p r q ln co)]:=λS w cs hv=>by
   obtain ⟨c,l,rfl,q1,q2⟩:=hv
   exact ⟨c,_,rfl,a1 S w c q1,q2⟩
  have hn:Ag n = true ∧ Ag m = true ∧ Ag p = true ∧ Ag q = true ∧ (A5 q λi=>Ag (ln i)) = true:=by simpa [CH,Ak] using hn
  obtain ⟨n1,n2,n3,n4,n5⟩:=hn
  have hx:=AO VM [(0,Jf a n g m x t k p r q ln co),(2,DS a n g m x t k p r q ln co)] (G:=Gl)
  have hL:=AE [(0,Jf a n g m x t k p r q ln co),(2,DS a n g m x t k p r q ln co)]
  cases hc:ieq (Bf a n g m x t k p r q ln co) 0 with
  | false =>
   simp only [hc,T.sem,sel,cond_false,Option.some.injEq,Prod.mk.injEq] at h
   obtain ⟨rfl,rfl⟩:=h
   exact ⟨_,AI Gl OW [(0,Jf a n g m x t k p r q ln co),(2,DS a n g m x t k p r q ln co)],_,hA,rfl,hx.1,hx.2,Ajl _ a n g m x t k p r q ln co (C4 () ()) hf n1 n2 n3 n4 n5 hc,A8.refl _⟩
  | true =>
   simp only [hc] at h
   obtain ⟨_,h⟩:=Ad h
   have:=Ac h
   simp only [Prod.mk.injEq] at this
   obtain ⟨rfl,rfl⟩:=this
   have hs:=Kc a n g m x t k p r q ln co hc
   have hm:m = n:=hs.nx
   have m16:m <= 16:=by rw [hm]; exact hs.cyc.hi
   refine ⟨_,AI Gl OW [(0,Jf a n g m x t k p r q ln co),(2,DS a n g m x t k p r q ln co)],[.row 3 1 m (yG x m)],hA,rfl,hx.1,hx.2,?_,?_⟩
   ·have hQ:=As (k:=0) (r:=T3 a n g m x t k p r q ln co m (yG x m)) hL hL
    refine A2 hQ _ (Ajk _ _ a n g m x t k p r q ln co (yG x m) (C4 () ()) hf n1 n2 n3 n4 n5 hc (Aj ?_))
    show (A4 _ (Jf a n g m x t k p r q ln co) (m+1) (T1 a n g m x t k p r q ln co)).sem = _
    rw [T0]
    exact Zl _ (LD hL hL 0 _) a n g m x t k p r q ln co (λg st=>rfl) m16 m 0 _ (m+1) (by omega) (by omega)
   ·refine .one λi hi=>?_
    rw [Yp x m i hi]
    exact congrArg iV (AmT hs hi).symm
 ·cases h
def Td (x:Nat->Ev5) (i:Nat):In4:=bif ieq (x i).dir 2 then YM (x i) else Aev (rgI x i) (x i)
def cdL (g:Nat->E6) (x:Nat->Ev5) (u:Nat):Nat->Nat
 | 0=>0
 | i+1=>bif ieq (x i).th (ofNat u) then (bif K7 g x i then AQ (AQ (cdL g x u i) 1) 1 else AQ (cdL g x u i) 1) else cdL g x u i
def cdV (g:Nat->E6) (x:Nat->Ev5) (u:Nat):Nat->Nat->V
 | 0=>λ_=>.und
 | i+1=>bif ieq (x i).th (ofNat u) then (bif K7 g x i then A1 (AQ (cdL g x u i) 1) (A1 (cdL g x u i) (cdV g x u i) (inV F9)) (inV (Td x i)) else A1 (cdL g x u i) (cdV g x u i) (inV (Td x i))) else cdV g x u i
theorem AhX {s:Sh7} (H:IsSh s) {i:Nat} (hi:i < s.nx) (fe:Nat->Bool):Rj (s.X i) (wsF fe s.X i) = Td s.X i:=by
 unfold Rj Td
 cases hd:ieq (s.X i).dir 2 with
 | true=>rfl
 | false =>
  rw [Ael H fe hi,hd]
  rfl
theorem QH {l:Nat} {c:Nat->V} {d:Nat->In4} (h:∀ j,j < l->c j = inV (d j)) (v:In4):∀ j,j < l+1->A1 l c (inV v) j = inV (bif AD j l then v else d j):=λj hj=>by
 rw [Bq]
 show (bif Nat.beq j l then _ else _) = inV (bif Nat.beq j l then _ else _)
 cases hb:Nat.beq j l with
 | true=>rfl
 | false=>exact h j (by have:=Nat.ne_of_beq_eq_false hb; omega)
theorem Ac4 (lw:Nat->Nat) (cw:Nat->Nat->In4) (u:Nat) (v:In4) (j:Nat):J0 lw cw u v u j = bif AD j (lw u) then v else cw u j:=by
 unfold J0
 rw [Go.Sy.nbeq_self]
 rfl
theorem Ys {s:Sh7} (H:IsSh s) (u:Nat):∀ i,i <= s.nx->(wsF (feF s.E s.nx) s.X i).lw u = cdL s.E s.X u i ∧ ∀ j,j < cdL s.E s.X u i->cdV s.E s.X u i j = inV ((wsF (feF s.E s.nx) s.X i).cw u j)
 | 0,_=>⟨rfl,λ_ h=>(by cases h)⟩
 | i+1,h=>by
  obtain ⟨ih1,ih2⟩:=Ys H u i (by omega)
  have hi:i < s.nx:=by omega
  have hin:=AhX H hi (feF s.E s.nx)
  have hfe:=Aif H hi
  have hth:=(Qm H hi).1
  by_cases hu:toN (s.X i).th = u
  ·have ht:ieq (s.X i).th (ofNat u) = true:=by rw [hth,hu]; exact CM _
   unfold cdL cdV
   rw [ht]
   simp only [cond_true]
   have e1:=WC (feF s.E s.nx i) (s.X i) i (wsF (feF s.E s.nx) s.X i)
   have e2:=WD (feF s.E s.nx i) (s.X i) i (wsF (feF s.E s.nx) s.X i)
   rw [hu,hin] at e2
   rw [hu] at e1
   have e1:(wsF (feF s.E s.nx) s.X (i+1)).lw = _:=e1
   have e2:(wsF (feF s.E s.nx) s.X (i+1)).cw = _:=e2
   rw [e1,e2,hfe]
   cases K7 s.E s.X i with
   | false =>
    refine ⟨?_,λj hj=>?_⟩
    ·show G2 (wsF (feF s.E s.nx) s.X i).lw u u = _
     rw [IA,ih1]; rfl
    ·show A1 _ _ _ j = inV (J0 (wsF (feF s.E s.nx) s.X i).lw (wsF (feF s.E s.nx) s.X i).cw u (Td s.X i) u j)
     unfold J0
     rw [Go.Sy.nbeq_self,ih1]
     exact QH ih2 _ j hj
   | true =>
    refine ⟨?_,λj hj=>?_⟩
    ·show G2 (G2 (wsF (feF s.E s.nx) s.X i).lw u) u u = _
     rw [IA,IA,ih1]; rfl
    ·show A1 _ _ _ j = inV (J0 (G2 (wsF (feF s.E s.nx) s.X i).lw u) (J0 (wsF (feF s.E s.nx) s.X i).lw (wsF (feF s.E s.nx) s.X i).cw u F9) u (Td s.X i) u j)
     have h1:∀ j,j < cdL s.E s.X u i+1->A1 (cdL s.E s.X u i) (cdV s.E s.X u i) (inV F9) j = inV (J0 (wsF (feF s.E s.nx) s.X i).lw (wsF (feF s.E s.nx) s.X i).cw u F9 u j):=λj hj=>by
      unfold J0
      rw [Go.Sy.nbeq_self,ih1]
      exact QH ih2 _ j hj
     refine (QH h1 (Td s.X i) j hj).trans ?_
     rw [Ac4 (G2 (wsF (feF s.E s.nx) s.X i).lw u),IA,ih1]
  ·have ht:ieq (s.X i).th (ofNat u) = false:=by rw [hth]; exact K1 hu
   obtain ⟨h3,h4⟩:=AlC (fe:=feF s.E s.nx i) (b:=i) (W:=wsF (feF s.E s.nx) s.X i) hu
   unfold cdL cdV
   rw [ht]
   refine ⟨h3.trans ih1,λj hj=>?_⟩
   rw [show (wsF (feF s.E s.nx) s.X (i+1)).cw u = (wsF (feF s.E s.nx) s.X i).cw u from h4]
   exact ih2 j hj
noncomputable def RW:List (Nat × (List V->T (V × List Blk))):=[(46,U9),(76,Aie),(38,XD)]
theorem VN:AA Try.prog Gl RW:=.cons p46 <| .cons p76 <| .cons p38 .nil
theorem Am5 (L:LT) (a:Int) (n:Nat) (g:Nat->E6) (m:Nat) (x:Nat->Ev5) (t k:Int) (p:Nat) (r:Nat->Int) (q:Nat) (ln:Nat->Nat) (co:Nat->Nat->Int) (h21:A5 q (λi=>(A5 (ln i) (λ_=>true))) = true) (h22:Bj n = true) (h23:Ag n = true) (h24:Ag m = true) (h25:Ag p = true) (h26:Ag q = true) (h27:A5 q (λi=>(Ag (ln i))) = true) (h28:ieq (Bf a n g m x t k p r q ln (λi i_1=>(co i i_1))) 0 = false):(Ar (Ai tab ⟨Am RW,L,Gl⟩ Try.f44 [.agg (shL a n g m x t k p r q ln co)] [])).sem = some ((.tup [(.jref 0),(iV (Bf a n g m x t k p r q ln (λi i_1=>(co i i_1))))]),[(.jag (Jag.mk 64 1 0 (λ_=>.und) 0 66 8 (λ_=>true) (λ_=>0) (λ_ _=>.und)))]):=by
 exact Aa (ks:=[kL n,kL m,kL p,kn h21,kn h22,kA (kn h23) (kA (kn h24) (kA (kn h25) (kA (kn h26) (kn h27)))),kn h28,kN (kn h28)]) (by kernel_rfl)
def WF (a:Int) (n:Nat) (g:Nat->E6) (m:Nat) (x:Nat->Ev5) (t:Nat) (k:Int) (p:Nat) (r:Nat->Int) (q:Nat) (ln:Nat->Nat) (co:Nat->Nat->Int) :St:=⟨(jsV 80 0 (λ_=>A9) [(0,(.agg [iV a,.sl 6 n (λi=>eV (g i)),.sl 5 m (λi=>evV (x i)),nV t,iV k,.sl 1 p (λi=>iV (r i)),.sl 1 q (λu=>.sl 1 (ln u) (λi=>iV (co u i)))])),(1,(.ptr 0 0)),(2,(.jref 1)),(3,(iV 0)),(4,(.ref 2)),(5,(iV 0)),(6,(.jref 3)),(7,(iV 0)),(13,(.tup [.ref 2,iV 0])),(14,(.agg [iV a,.sl 6 n (λi=>eV (g i)),.sl 5 m (λi=>evV (x i)),nV t,iV k,.sl 1 p (λi=>iV (r i)),.sl 1 q (λu=>.sl 1 (ln u) (λi=>iV (co u i)))])),(15,(.tup [.ref 2,iV 0])),(16,(.ref 2)),(17,(iV 0)),(18,(iV 0)),(19,(bV (AG (ieq 0 0))))]),[.cells [iV a,.sl 6 n (λi=>eV (g i)),.sl 5 m (λi=>evV (x i)),nV t,iV k,.sl 1 p (λi=>iV (r i)),.sl 1 q (λu=>.sl 1 (ln u) (λi=>iV (co u i)))],.jag (Jag.mk 64 1 0 (λ_=>.und) 0 66 8 (λ_=>true) (λ_=>0) (λ_ _=>.und)),.row 3 1 m (λi=>iV (rgI x i)),.jag (Jag.mk 64 1 0 (λ_=>.und) 0 66 8 (λ_=>true) (λ_=>0) (λ_ _=>.und))]⟩
def Ra (a:Int) (n:Nat) (g:Nat->E6) (m:Nat) (x:Nat->Ev5) (t:Nat) (k:Int) (p:Nat) (r:Nat->Int) (q:Nat) (ln:Nat->Nat) (co:Nat->Nat->Int):Lp:=⟨(bmK 80 0 [1,4,6,7]),4,bmK 80 0 [1,4,6],4,t+1⟩
def Xl (a:Int) (n:Nat) (g:Nat->E6) (m:Nat) (x:Nat->Ev5) (t:Nat) (k:Int) (p:Nat) (r:Nat->Int) (q:Nat) (ln:Nat->Nat) (co:Nat->Nat->Int) (b:Nat) (gz:Nat->V) (lo:Nat->Nat) (mo:Nat->Nat->V) (j:Nat->V):St:=⟨(jsV 80 0 j [(1,.ptr 0 0),(4,.ref 2),(6,.jref 3),(7,nV b)]),[.cells [iV a,.sl 6 n (λi=>eV (g i)),.sl 5 m (λi=>evV (x i)),nV t,iV k,.sl 1 p (λi=>iV (r i)),.sl 1 q (λu=>.sl 1 (ln u) (λi=>iV (co u i)))],.jag (Jag.mk 64 1 0 (λ_=>.und) 0 66 8 (λ_=>true) (λ_=>0) (λ_ _=>.und)),.row 3 1 m (λi=>iV (rgI x i)),.jag (Jag.mk 64 1 b gz 0 66 8 (λ_=>true) lo mo)]⟩
def WP (a:Int) (n:Nat) (g:Nat->E6) (m:Nat) (x:Nat->Ev5) (t:Nat) (k:Int) (p:Nat) (r:Nat->Int) (q:Nat) (ln:Nat->Nat) (co:Nat->Nat->Int) (b:Nat) (gz:Nat->V) (lo:Nat->Nat) (mo:Nat->Nat->V):Ex × St:=(.ex 0,⟨(jsV 80 0 (λ_=>.und) [(1,.ptr 0 0),(4,.ref 2),(6,.jref 3)]),[.cells [iV a,.sl 6 n (λi=>eV (g i)),.sl 5 m (λi=>evV (x i)),nV t,iV k,.sl 1 p (λi=>iV (r i)),.sl 1 q (λu=>.sl 1 (ln u) (λi=>iV (co u i)))],.jag (Jag.mk 64 1 0 (λ_=>.und) 0 66 8 (λ_=>true) (λ_=>0) (λ_ _=>.und)),.row 3 1 m (λi=>iV (rgI x i)),.jag (Jag.mk 64 1 b gz 0 66 8 (λ_=>true) lo mo)]⟩)
noncomputable def OI (L:LT):St->T (Ex × St):=λst=>AC tab ⟨Am RW,L,Gl⟩ (Au Try.f44 0) 0 st
theorem Akb (L:LT) (a:Int) (n:Nat) (g:Nat->E6) (m:Nat) (x:Nat->Ev5) (t:Nat) (k:Int) (p:Nat) (r:Nat->Int) (q:Nat) (ln:Nat->Nat) (co:Nat->Nat->Int) (b:Nat) (gz:Nat->V) (lo:Nat->Nat) (mo:Nat->Nat->V)  (j:Nat->V) (h0:ilt (ofNat b) (ofNat t) = false):Ah (OI L) (Ra a n g m x t k p r q ln co) (Xl a n g m x t k p r q ln co b gz lo mo j) = some ((.ex 0),⟨(jsV 80 0 (λ_=>.und) [(1,(.ptr 0 0)),(4,(.ref 2)),(6,(.jref 3))]),[(.cells [(iV a),(.sl 6 n (λi=>(eV (g i)))),(.sl 5 m (λi=>(evV (x i)))),(nV t),(iV k),(.sl 1 p (λi=>(iV (r i)))),(.sl 1 q (λu=>(.sl 1 (ln u) (λi=>(iV (co u i))))))]),(.jag (Jag.mk 64 1 0 (λ_=>.und) 0 66 8 (λ_=>true) (λ_=>0) (λ_ _=>.und))),(.row 3 1 m (λi=>(iV (rgI x i)))),(.jag (Jag.mk 64 1 b gz 0 66 8 (λ_=>true) lo (λi i_1=>(mo i i_1))))]⟩):=by
 exact Aa (ks:=[kn h0]) (by kernel_rfl)
def F5 (a:Int) (n:Nat) (g:Nat->E6) (m:Nat) (x:Nat->Ev5) (t:Nat) (k:Int) (p:Nat) (r:Nat->Int) (q:Nat) (ln:Nat->Nat) (co:Nat->Nat->Int):Lp:=⟨(bmK 80 0 [1,4,6,7,8,9]),5,bmK 80 0 [1,4,6,7,8],5,m+1⟩
def HM (a:Int) (n:Nat) (g:Nat->E6) (m:Nat) (x:Nat->Ev5) (t:Nat) (k:Int) (p:Nat) (r:Nat->Int) (q:Nat) (ln:Nat->Nat) (co:Nat->Nat->Int) (b:Nat) (gz:Nat->V) (lo:Nat->Nat) (mo:Nat->Nat->V) (l:Nat) (c:Nat->V) (i:Nat) (j:Nat->V):St:=⟨(jsV 80 0 j [(1,.ptr 0 0),(4,.ref 2),(6,.jref 3),(7,nV b),(8,.ref 4),(9,nV i)]),[.cells [iV a,.sl 6 n (λi=>eV (g i)),.sl 5 m (λi=>evV (x i)),nV t,iV k,.sl 1 p (λi=>iV (r i)),.sl 1 q (λu=>.sl 1 (ln u) (λi=>iV (co u i)))],.jag (Jag.mk 64 1 0 (λ_=>.und) 0 66 8 (λ_=>true) (λ_=>0) (λ_ _=>.und)),.row 3 1 m (λi=>iV (rgI x i)),.jag (Jag.mk 64 1 b gz 0 66 8 (λ_=>true) lo mo),.row 66 8 l c]⟩
def MX (a:Int) (n:Nat) (g:Nat->E6) (m:Nat) (x:Nat->Ev5) (t:Nat) (k:Int) (p:Nat) (r:Nat->Int) (q:Nat) (ln:Nat->Nat) (co:Nat->Nat->Int) (b:Nat) (gz:Nat->V) (lo:Nat->Nat) (mo:Nat->Nat->V) (l:Nat) (c:Nat->V) (i:Nat):Ex × St:=(.ex 2,⟨(jsV 80 0 (λ_=>.und) [(1,.ptr 0 0),(4,.ref 2),(6,.jref 3),(7,nV b),(8,.ref 4)]),[.cells [iV a,.sl 6 n (λi=>eV (g i)),.sl 5 m (λi=>evV (x i)),nV t,iV k,.sl 1 p (λi=>iV (r i)),.sl 1 q (λu=>.sl 1 (ln u) (λi=>iV (co u i)))],.jag (Jag.mk 64 1 0 (λ_=>.und) 0 66 8 (λ_=>true) (λ_=>0) (λ_ _=>.und)),.row 3 1 m (λi=>iV (rgI x i)),.jag (Jag.mk 64 1 b gz 0 66 8 (λ_=>true) lo mo),.row 66 8 l c]⟩)
noncomputable def DX (L:LT):St->T (Ex × St):=λst=>AC tab ⟨Am RW,L,Gl⟩ (Au Try.f44 2) 2 st
section
variable (L:LT) (a:Int) (n:Nat) (g:Nat->E6) (m:Nat) (x:Nat->Ev5) (t:Nat) (k:Int) (p:Nat) (r:Nat->Int) (q:Nat) (ln:Nat->Nat) (co:Nat->Nat->Int) (b:Nat) (gz:Nat->V) (lo:Nat->Nat) (mo:Nat->Nat->V) (l:Nat) (c:Nat->V) (i:Nat)  (j:Nat->V)
include L a n g m x t k p r q ln co b gz lo mo l c i j
theorem AjP (h0:ilt (ofNat i) (ofNat m) = false):Ah (DX L) (F5 a n g m x t k p r q ln co) (HM a n g m x t k p r q ln co b gz lo mo l c i j) = some ((.ex 2),⟨(jsV 80 0 (λ_=>.und) [(1,(.ptr 0 0)),(4,(.ref 2)),(6,(.jref 3)),(7,(nV b)),(8,(.ref 4))]),[(.cells [(iV a),(.sl 6 n (λi=>(eV (g i)))),(.sl 5 m (λi=>(evV (x i)))),(nV t),(iV k),(.sl 1 p (λi=>(iV (r i)))),(.sl 1 q (λu=>(.sl 1 (ln u) (λi=>(iV (co u i))))))]),(.jag (Jag.mk 64 1 0 (λ_=>.und) 0 66 8 (λ_=>true) (λ_=>0) (λ_ _=>.und))),(.row 3 1 m (λi=>(iV (rgI x i)))),(.jag (Jag.mk 64 1 b gz 0 66 8 (λ_=>true) lo (λi_1 i_2=>(mo i_1 i_2)))),(.row 66 8 l c)]⟩):=by
 exact Aa (ks:=[kn h0]) (by kernel_rfl)
theorem AjO (h0:ilt (ofNat i) (ofNat m) = true) (h26:ile 0 (ofNat i) = true) (h1:ieq ((x i)).th (ofNat b) = false):Ah (DX L) (F5 a n g m x t k p r q ln co) (HM a n g m x t k p r q ln co b gz lo mo l c i j) = some (.nm,⟨(jsV 80 0 (λ_=>.und) [(1,(.ptr 0 0)),(4,(.ref 2)),(6,(.jref 3)),(7,(nV b)),(8,(.ref 4)),(9,(iV (wr .i64 (Af (ofNat i) 1))))]),[(.cells [(iV a),(.sl 6 n (λi=>(eV (g i)))),(.sl 5 m (λi=>(evV (x i)))),(nV t),(iV k),(.sl 1 p (λi=>(iV (r i)))),(.sl 1 q (λu=>(.sl 1 (ln u) (λi=>(iV (co u i))))))]),(.jag (Jag.mk 64 1 0 (λ_=>.und) 0 66 8 (λ_=>true) (λ_=>0) (λ_ _=>.und))),(.row 3 1 m (λi=>(iV (rgI x i)))),(.jag (Jag.mk 64 1 b gz 0 66 8 (λ_=>true) lo (λi_1 i_2=>(mo i_1 i_2)))),(.row 66 8 l c)]⟩):=by
 exact Aa (ks:=[kn h0,kA (kn h26) (kn h0),kN (kn h1)]) (by kernel_rfl)
theorem AjM (h0:ilt (ofNat i) (ofNat m) = true) (h28:ile 0 (ofNat i) = true) (h1:ieq ((x i)).th (ofNat b) = true) (h29:A5 q (λi=>(A5 (ln i) (λ_=>true))) = true) (h30:Ox n m (ofNat i) = true) (h2:K7 g x i = false) (h3:ieq ((x i)).dir 2 = true) (h31:AY l 1 80 = true):Ah (DX L) (F5 a n g m x t k p r q ln co) (HM a n g m x t k p r q ln co b gz lo mo l c i j) = some (.nm,⟨(jsV 80 0 (λ_=>.und) [(1,(.ptr 0 0)),(4,(.ref 2)),(6,(.jref 3)),(7,(nV b)),(8,(.ref 4)),(9,(iV (wr .i64 (Af (ofNat i) 1))))]),[(.cells [(iV a),(.sl 6 n (λi=>(eV (g i)))),(.sl 5 m (λi=>(evV (x i)))),(nV t),(iV k),(.sl 1 p (λi=>(iV (r i)))),(.sl 1 q (λu=>(.sl 1 (ln u) (λi=>(iV (co u i))))))]),(.jag (Jag.mk 64 1 0 (λ_=>.und) 0 66 8 (λ_=>true) (λ_=>0) (λ_ _=>.und))),(.row 3 1 m (λi=>(iV (rgI x i)))),(.jag (Jag.mk 64 1 b gz 0 66 8 (λ_=>true) lo (λi_1 i_2=>(mo i_1 i_2)))),(.row 66 8 (AQ l 1) (A1 l c (.agg [(iV 1),(iV 0),(iV 0),(iV 0),(iV ((x i)).val),(.str (BQ ((x i)).loc)),(.str []),(iV 0)])))]⟩):=by
 exact Aa (ks:=[kn h0,kA (kn h28) (kn h0),kN (kn h1),kL n,kL m,kL p,kn h29,kn h30,kn h2,kn h3,kn h31]) (by kernel_rfl)
theorem AjN (h0:ilt (ofNat i) (ofNat m) = true) (h28:ile 0 (ofNat i) = true) (h1:ieq ((x i)).th (ofNat b) = true) (h29:A5 q (λi=>(A5 (ln i) (λ_=>true))) = true) (h30:Ox n m (ofNat i) = true) (h2:K7 g x i = false) (h3:ieq ((x i)).dir 2 = false) (h31:nlt i m = true) (h32:AY l 1 80 = true):Ah (DX L) (F5 a n g m x t k p r q ln co) (HM a n g m x t k p r q ln co b gz lo mo l c i j) = some (.nm,⟨(jsV 80 0 (λ_=>.und) [(1,(.ptr 0 0)),(4,(.ref 2)),(6,(.jref 3)),(7,(nV b)),(8,(.ref 4)),(9,(iV (wr .i64 (Af (ofNat i) 1))))]),[(.cells [(iV a),(.sl 6 n (λi=>(eV (g i)))),(.sl 5 m (λi=>(evV (x i)))),(nV t),(iV k),(.sl 1 p (λi=>(iV (r i)))),(.sl 1 q (λu=>(.sl 1 (ln u) (λi=>(iV (co u i))))))]),(.jag (Jag.mk 64 1 0 (λ_=>.und) 0 66 8 (λ_=>true) (λ_=>0) (λ_ _=>.und))),(.row 3 1 m (λi=>(iV (rgI x i)))),(.jag (Jag.mk 64 1 b gz 0 66 8 (λ_=>true) lo (λi_1 i_2=>(mo i_1 i_2)))),(.row 66 8 (AQ l 1) (A1 l c (.agg [(iV 3),(iV (rgI x i)),(iV 0),(iV 0),(iV 0),(.str (BQ ((x i)).loc)),(.str []),(iV 0)])))]⟩):=by
 exact Aa (ks:=[kn h0,kA (kn h28) (kn h0),kN (kn h1),kL n,kL m,kL p,kn h29,kn h30,kn h2,kn h3,kA (kn h28) (kn h0),kn h31,kn h32]) (by kernel_rfl)
theorem AfZ (h0:ilt (ofNat i) (ofNat m) = true) (h28:ile 0 (ofNat i) = true) (h1:ieq ((x i)).th (ofNat b) = true) (h29:A5 q (λi=>(A5 (ln i) (λ_=>true))) = true) (h30:Ox n m (ofNat i) = true) (h2:K7 g x i = true) (h31:AY l 1 80 = true) (h3:ieq ((x i)).dir 2 = true) (h32:AY (AQ l 1) 1 80 = true):Ah (DX L) (F5 a n g m x t k p r q ln co) (HM a n g m x t k p r q ln co b gz lo mo l c i j) = some (.nm,⟨(jsV 80 0 (λ_=>.und) [(1,(.ptr 0 0)),(4,(.ref 2)),(6,(.jref 3)),(7,(nV b)),(8,(.ref 4)),(9,(iV (wr .i64 (Af (ofNat i) 1))))]),[(.cells [(iV a),(.sl 6 n (λi=>(eV (g i)))),(.sl 5 m (λi=>(evV (x i)))),(nV t),(iV k),(.sl 1 p (λi=>(iV (r i)))),(.sl 1 q (λu=>(.sl 1 (ln u) (λi=>(iV (co u i))))))]),(.jag (Jag.mk 64 1 0 (λ_=>.und) 0 66 8 (λ_=>true) (λ_=>0) (λ_ _=>.und))),(.row 3 1 m (λi=>(iV (rgI x i)))),(.jag (Jag.mk 64 1 b gz 0 66 8 (λ_=>true) lo (λi_1 i_2=>(mo i_1 i_2)))),(.row 66 8 (AQ (AQ l 1) 1) (A1 (AQ l 1) (A1 l c (.agg [(iV 5),(iV 0),(iV 0),(iV 0),(iV 0),(.str []),(.str []),(iV 0)])) (.agg [(iV 1),(iV 0),(iV 0),(iV 0),(iV ((x i)).val),(.str (BQ ((x i)).loc)),(.str []),(iV 0)])))]⟩):=by
 exact Aa (ks:=[kn h0,kA (kn h28) (kn h0),kN (kn h1),kL n,kL m,kL p,kn h29,kn h30,kn h2,kn h31,kn h3,kn h32]) (by kernel_rfl)
theorem Aga (h0:ilt (ofNat i) (ofNat m) = true) (h28:ile 0 (ofNat i) = true) (h1:ieq ((x i)).th (ofNat b) = true) (h29:A5 q (λi=>(A5 (ln i) (λ_=>true))) = true) (h30:Ox n m (ofNat i) = true) (h2:K7 g x i = true) (h31:AY l 1 80 = true) (h3:ieq ((x i)).dir 2 = false) (h32:nlt i m = true) (h33:AY (AQ l 1) 1 80 = true):Ah (DX L) (F5 a n g m x t k p r q ln co) (HM a n g m x t k p r q ln co b gz lo mo l c i j) = some (.nm,⟨(jsV 80 0 (λ_=>.und) [(1,(.ptr 0 0)),(4,(.ref 2)),(6,(.jref 3)),(7,(nV b)),(8,(.ref 4)),(9,(iV (wr .i64 (Af (ofNat i) 1))))]),[(.cells [(iV a),(.sl 6 n (λi=>(eV (g i)))),(.sl 5 m (λi=>(evV (x i)))),(nV t),(iV k),(.sl 1 p (λi=>(iV (r i)))),(.sl 1 q (λu=>(.sl 1 (ln u) (λi=>(iV (co u i))))))]),(.jag (Jag.mk 64 1 0 (λ_=>.und) 0 66 8 (λ_=>true) (λ_=>0) (λ_ _=>.und))),(.row 3 1 m (λi=>(iV (rgI x i)))),(.jag (Jag.mk 64 1 b gz 0 66 8 (λ_=>true) lo (λi_1 i_2=>(mo i_1 i_2)))),(.row 66 8 (AQ (AQ l 1) 1) (A1 (AQ l 1) (A1 l c (.agg [(iV 5),(iV 0),(iV 0),(iV 0),(iV 0),(.str []),(.str []),(iV 0)])) (.agg [(iV 3),(iV (rgI x i)),(iV 0),(iV 0),(iV 0),(.str (BQ ((x i)).loc)),(.str []),(iV 0)])))]⟩):=by
 exact Aa (ks:=[kn h0,kA (kn h28) (kn h0),kN (kn h1),kL n,kL m,kL p,kn h29,kn h30,kn h2,kn h31,kn h3,kA (kn h28) (kn h0),kn h32,kn h33]) (by kernel_rfl)
end
def MS (a:Int) (n:Nat) (g:Nat->E6) (m:Nat) (x:Nat->Ev5) (t:Nat) (k:Int) (p:Nat) (r:Nat->Int) (q:Nat) (ln:Nat->Nat) (co:Nat->Nat->Int) (b:Nat) (gz:Nat->V) (lo:Nat->Nat) (mo:Nat->Nat->V) (j:Nat->V):St:=⟨(jsV 80 0 j [(1,(.ptr 0 0)),(4,(.ref 2)),(6,(.jref 3)),(7,(nV b)),(8,(.ref 4)),(9,(iV 0)),(21,(nV b)),(22,(.ptr 0 3)),(23,(nV t)),(24,(bV (ilt (ofNat b) (ofNat t))))]),[.cells [iV a,.sl 6 n (λi=>eV (g i)),.sl 5 m (λi=>evV (x i)),nV t,iV k,.sl 1 p (λi=>iV (r i)),.sl 1 q (λu=>.sl 1 (ln u) (λi=>iV (co u i)))],.jag (Jag.mk 64 1 0 (λ_=>.und) 0 66 8 (λ_=>true) (λ_=>0) (λ_ _=>.und)),.row 3 1 m (λi=>iV (rgI x i)),.jag (Jag.mk 64 1 b gz 0 66 8 (λ_=>true) lo (λi i_1=>mo i i_1)),.row 66 8 0 (λ_=>.und)]⟩
theorem Aka (L:LT) (p2:PT) (a:Int) (n:Nat) (g:Nat->E6) (m:Nat) (x:Nat->Ev5) (t:Nat) (k:Int) (p:Nat) (r:Nat->Int) (q:Nat) (ln:Nat->Nat) (co:Nat->Nat->Int) (b:Nat) (gz:Nat->V) (lo:Nat->Nat) (mo:Nat->Nat->V) (l:Nat) (c:Nat->V) (j:Nat->V) (h0:ilt (ofNat b) (ofNat t) = true) (h25:AY b 1 24 = true) (hp2:p2 (DX (onP 2 p2 (MX a n g m x t k p r q ln co b gz lo mo l c 0) L)) (MS a n g m x t k p r q ln co b gz lo mo j) = true):Ah (OI (onP 2 p2 (MX a n g m x t k p r q ln co b gz lo mo l c 0) L)) (Ra a n g m x t k p r q ln co) (Xl a n g m x t k p r q ln co b gz lo mo j) = some (.nm,⟨(jsV 80 0 (λ_=>.und) [(1,(.ptr 0 0)),(4,(.ref 2)),(6,(.jref 3)),(7,(iV (wr .i64 (Af (ofNat b) 1))))]),[(.cells [(iV a),(.sl 6 n (λi=>(eV (g i)))),(.sl 5 m (λi=>(evV (x i)))),(nV t),(iV k),(.sl 1 p (λi=>(iV (r i)))),(.sl 1 q (λu=>(.sl 1 (ln u) (λi=>(iV (co u i))))))]),(.jag (Jag.mk 64 1 0 (λ_=>.und) 0 66 8 (λ_=>true) (λ_=>0) (λ_ _=>.und))),(.row 3 1 m (λi=>(iV (rgI x i)))),(.jag (Jag.mk 64 1 (AQ b 1) (A1 b gz .und) 0 66 8 (λi=>(sel (AD i b) true true)) (λi=>(sel (AD i b) l (lo i))) (λi i_1=>(BX (λi_2 i_3=>(mo i_2 i_3)) b c i i_1))))]⟩):=by
 exact Aa (ks:=[kn h0,kn hp2,kT,kn h25]) (by kernel_rfl)
theorem Am4 (L:LT) (p0:PT) (a:Int) (n:Nat) (g:Nat->E6) (m:Nat) (x:Nat->Ev5) (t:Nat) (k:Int) (p:Nat) (r:Nat->Int) (q:Nat) (ln:Nat->Nat) (co:Nat->Nat->Int) (gz:Nat->V) (lo:Nat->Nat) (mo:Nat->Nat->V) (h24:A5 q (λi=>(A5 (ln i) (λ_=>true))) = true) (h25:Bj n = true) (h26:Ag n = true) (h27:Ag m = true) (h28:Ag p = true) (h29:Ag q = true) (h30:A5 q (λi=>(Ag (ln i))) = true) (h31:ieq (Bf a n g m x (ofNat t) k p r q ln (λi i_1=>(co i i_1))) 0 = true) (hp0:p0 (OI (onP 0 p0 (WP a n g m x t k p r q ln co t gz lo mo) L)) (WF a n g m x t k p r q ln co) = true):(Ar (Ai tab ⟨Am RW,(onP 0 p0 (WP a n g m x t k p r q ln co t gz lo mo) L),Gl⟩ Try.f44 [.agg [iV a,.sl 6 n (λi=>eV (g i)),.sl 5 m (λi=>evV (x i)),nV t,iV k,.sl 1 p (λi=>iV (r i)),.sl 1 q (λu=>.sl 1 (ln u) (λi=>iV (co u i)))]] [])).sem = some ((.tup [(.jref 0),(iV 0)]),[(.jag (Jag.mk 64 1 t gz 0 66 8 (λ_=>true) lo (λi i_1=>(mo i i_1))))]):=by
 exact Aa (ks:=[kL n,kL m,kL p,kn h24,kn h25,kA (kn h26) (kA (kn h27) (kA (kn h28) (kA (kn h29) (kn h30)))),kn h31,kN (kI 0),kn hp0]) (by kernel_rfl)
theorem Vf (a:Int) (n:Nat) (g:Nat->E6) (m:Nat) (x:Nat->Ev5) (t:Nat) (k:Int) (p:Nat) (r:Nat->Int) (q:Nat) (ln:Nat->Nat) (co:Nat->Nat->Int) (b:Nat) (gz:Nat->V) (lo:Nat->Nat) (mo:Nat->Nat->V) (j:Nat->V):MS a n g m x t k p r q ln co b gz lo mo j = HM a n g m x t k p r q ln co b gz lo mo 0 (λ_=>.und) 0 (λi=>nth (MS a n g m x t k p r q ln co b gz lo mo j).t i):=by kernel_rfl
theorem Aa8 (a:Int) (n:Nat) (g:Nat->E6) (m:Nat) (x:Nat->Ev5) (t:Nat) (k:Int) (p:Nat) (r:Nat->Int) (q:Nat) (ln:Nat->Nat) (co:Nat->Nat->Int):WF a n g m x t k p r q ln co = Xl a n g m x t k p r q ln co 0 (λ_=>.und) (λ_=>0) (λ_ _=>.und) (λi=>nth (WF a n g m x t k p r q ln co).t i):=by kernel_rfl
theorem Abk (g:Nat->E6) (x:Nat->Ev5) (u:Nat):∀ i,cdL g x u i <= 2 * i
 | 0=>Nat.le_refl _
 | i+1=>by
  have:=Abk g x u i
  unfold cdL
  cases ieq (x i).th (ofNat u)
  ·exact Nat.le_trans this (by omega)
  ·cases K7 g x i
   ·show cdL g x u i+1 <= _
    omega
   ·show cdL g x u i+1+1 <= _
    omega
theorem Zm (L:LT) (a:Int) (n:Nat) (g:Nat->E6) (m:Nat) (x:Nat->Ev5) (t:Nat) (k:Int) (p:Nat) (r:Nat->Int) (q:Nat) (ln:Nat->Nat) (co:Nat->Nat->Int) (m16:m <= 16) (hmn:m <= n) (b:Nat) (gz:Nat->V) (lo:Nat->Nat) (mo:Nat->Nat->V):∀ (e i:Nat) (j:Nat->V) (u:Nat),m = i+e->e < u ->
  (A4 (DX L) (F5 a n g m x t k p r q ln co) u (HM a n g m x t k p r q ln co b gz lo mo (cdL g x b i) (cdV g x b i) i j)).sem = some (MX a n g m x t k p r q ln co b gz lo mo (cdL g x b m) (cdV g x b m) 0)
 | 0,i,j,u+1,h,_=>by
  have:m = i:=by omega
  subst this
  exact Ab (AjP L a n g m x t k p r q ln co b gz lo mo _ _ m j (A6 (Nat.le_refl _)))
 | e+1,i,j,u+1,h,h2=>by
  have hi:i < m:=by omega
  have hle:=Abk g x b i
  have hok:Ox n m (ofNat i) = true:=by
   unfold Ox
   rw [AF,show nlt (toN (ofNat i)) m = true from decide_eq_true hi,Nat.ble_eq_true_of_le hmn,Nat.ble_eq_true_of_le (show m <= 4611686018427387904 by omega)]
   rfl
  have ha1:AY (cdL g x b i) 1 80 = true:=BH (by omega)
  have ha2:AY (AQ (cdL g x b i) 1) 1 80 = true:=BH (by show (cdL g x b i+1+1) * 80 <= _; omega)
  have hn:nlt i m = true:=decide_eq_true hi
  have next:=Zm L a n g m x t k p r q ln co m16 hmn b gz lo mo e (i+1) (λ_=>.und) u (by omega) (by omega)
  rw [cdL,cdV] at next
  unfold Td at next
  cases hth:ieq (x i).th (ofNat b) with
  | false =>
   rw [hth] at next
   rw [Ab (AjO L a n g m x t k p r q ln co b gz lo mo (cdL g x b i) (cdV g x b i) i j (ofNat_lt hi) (AF _) hth),Aq,Ao hi (by omega)]
   exact next
  | true =>
   rw [hth] at next
   cases hf:K7 g x i <;> cases hd:ieq (x i).dir 2 <;> rw [hf,hd] at next
   ·rw [Ab (AjN L a n g m x t k p r q ln co b gz lo mo (cdL g x b i) (cdV g x b i) i j (ofNat_lt hi) (AF _) hth (C4 () ()) hok hf hd hn ha1),Aq,Ao hi (by omega)]
    exact next
   ·rw [Ab (AjM L a n g m x t k p r q ln co b gz lo mo (cdL g x b i) (cdV g x b i) i j (ofNat_lt hi) (AF _) hth (C4 () ()) hok hf hd ha1),Aq,Ao hi (by omega)]
    exact next
   ·rw [Ab (Aga L a n g m x t k p r q ln co b gz lo mo (cdL g x b i) (cdV g x b i) i j (ofNat_lt hi) (AF _) hth (C4 () ()) hok hf ha1 hd hn ha2),Aq,Ao hi (by omega)]
    exact next
   ·rw [Ab (AfZ L a n g m x t k p r q ln co b gz lo mo (cdL g x b i) (cdV g x b i) i j (ofNat_lt hi) (AF _) hth (C4 () ()) hok hf ha1 hd ha2),Aq,Ao hi (by omega)]
    exact next
theorem Aef (M:LT) (hMM:LLe M M) (a:Int) (n:Nat) (g:Nat->E6) (m:Nat) (x:Nat->Ev5) (t:Nat) (k:Int) (p:Nat) (r:Nat->Int) (q:Nat) (ln:Nat->Nat) (co:Nat->Nat->Int) (m2:∀ g' st,M 2 g' st = A4 g' (F5 a n g m x t k p r q ln co) (m+1) st) (m16:m <= 16) (hmn:m <= n) (t16:t <= 16):∀ (e b:Nat) (j:Nat->V) (u:Nat),t = b+e->e < u ->
  (A4 (OI M) (Ra a n g m x t k p r q ln co) u (Xl a n g m x t k p r q ln co b (Jh b) (FJ (λu=>cdL g x u m) b) (G5 (λu=>cdV g x u m) b) j)).sem = some (WP a n g m x t k p r q ln co t (Jh t) (FJ (λu=>cdL g x u m) t) (G5 (λu=>cdV g x u m) t))
 | 0,b,j,u+1,h,_=>by
  have:t = b:=by omega
  subst this
  exact Ab (Akb M a n g m x t k p r q ln co t _ _ _ j (A6 (Nat.le_refl _)))
 | e+1,b,j,u+1,h,h2=>by
  have hb:b < t:=by omega
  have next:=Aef M hMM a n g m x t k p r q ln co m2 m16 hmn t16 e (b+1) (λ_=>.und) u (by omega) (by omega)
  have hi:∀ M',(M 2 (DX M') (MS a n g m x t k p r q ln co b (Jh b) (FJ (λu=>cdL g x u m) b) (G5 (λu=>cdV g x u m) b) j)).sem = some (MX a n g m x t k p r q ln co b (Jh b) (FJ (λu=>cdL g x u m) b) (G5 (λu=>cdV g x u m) b) (cdL g x b m) (cdV g x b m) 0):=λM'=>by
   rw [m2,Vf]
   exact Zm M' a n g m x t k p r q ln co m16 hmn b _ _ _ m 0 _ (m+1) (by omega) (by omega)
  have h3:=Aka M _ a n g m x t k p r q ln co b (Jh b) (FJ (λu=>cdL g x u m) b) (G5 (λu=>cdV g x u m) b) (cdL g x b m) (cdV g x b m) j (ofNat_lt hb) (BH (by omega)) (Aj (hi _))
  have h4:Ah (OI M) (Ra a n g m x t k p r q ln co) (Xl a n g m x t k p r q ln co b (Jh b) (FJ (λu=>cdL g x u m) b) (G5 (λu=>cdV g x u m) b) j) = _:=CB (l:=Ra a n g m x t k p r q ln co) (D5 (Γ:=⟨Am RW,M,Gl⟩) (As hMM hMM) (Au Try.f44 0) 0 (Xl a n g m x t k p r q ln co b (Jh b) (FJ (λu=>cdL g x u m) b) (G5 (λu=>cdV g x u m) b) j)) h3
  rw [Ab h4,Aq,Ao hb (by omega),Aey]
  exact next
theorem p44:A7 Try.prog Gl 44 codeT:=by
 refine Av AL AN Try.func44 (by kernel_rfl) (by kernel_rfl) λvs v h' h=>?_
 unfold codeT at h
 split at h
 ·rename_i v1
  obtain ⟨s,a1,h⟩:=BI h
  obtain ⟨hf,h⟩:=Ad h
  obtain ⟨hn,h⟩:=Ad h
  obtain ⟨a,n,g,m,x,t,k,p,r,q,C⟩:=s
  obtain ⟨ln,co,hC⟩:∃ (ln:Nat->Nat) (co:Nat->Nat->Int),C = λu=>(ln u,co u):=⟨λu=>(C u).1,λu=>(C u).2,rfl⟩
  subst hC
  have hA:Bp [v1] [.agg (shL a n g m x t k p r q ln co)]:=λS w cs hv=>by
   obtain ⟨c,l,rfl,q1,q2⟩:=hv
   exact ⟨c,_,rfl,a1 S w c q1,q2⟩
  have hn:Ag n = true ∧ Ag m = true ∧ Ag p = true ∧ Ag q = true ∧ (A5 q λi=>Ag (ln i)) = true:=by simpa [CH,Ak] using hn
  obtain ⟨n1,n2,n3,n4,n5⟩:=hn
  cases hc:ieq (Bf a n g m x t k p r q ln co) 0 with
  | false =>
   simp only [hc,T.sem,sel,cond_false,Option.some.injEq,Prod.mk.injEq] at h
   obtain ⟨rfl,rfl⟩:=h
   have hx:=AO VN [] (G:=Gl)
   exact ⟨_,AI Gl RW [],_,hA,rfl,hx.1,hx.2,Am5 _ a n g m x t k p r q ln co (C4 () ()) hf n1 n2 n3 n4 n5 hc,A8.refl _⟩
  | true =>
   simp only [hc] at h
   obtain ⟨_,h⟩:=Ad h
   have:=Ac h
   simp only [Prod.mk.injEq] at this
   obtain ⟨rfl,rfl⟩:=this
   have hs:=Kc a n g m x t k p r q ln co hc
   have hm:m = n:=hs.nx
   have m16:m <= 16:=by rw [hm]; exact hs.cyc.hi
   obtain ⟨w,rfl,hw⟩:∃ w,t = ofNat w ∧ w <= 16:=⟨_,hs.tt,by
    have h1:ttN n (shG n g) <= n:=Be _ _
    exact Nat.le_trans h1 (by omega)⟩
   have hx:=AO VN [(0,Ra a n g m x w k p r q ln co),(2,F5 a n g m x w k p r q ln co)] (G:=Gl)
   have hL:=AE [(0,Ra a n g m x w k p r q ln co),(2,F5 a n g m x w k p r q ln co)]
   refine ⟨_,AI Gl RW [(0,Ra a n g m x w k p r q ln co),(2,F5 a n g m x w k p r q ln co)],[.jag (Jag.mk 64 1 w (Jh w) 0 66 8 (λ_=>true) (FJ (λu=>cdL g x u m) w) (G5 (λu=>cdV g x u m) w))],hA,rfl,hx.1,hx.2,?_,?_⟩
   ·have hQ:=As (k:=0) (r:=WP a n g m x w k p r q ln co w (Jh w) (FJ (λu=>cdL g x u m) w) (G5 (λu=>cdV g x u m) w)) hL hL
    refine A2 hQ _ (Am4 _ _ a n g m x w k p r q ln co (Jh w) (FJ (λu=>cdL g x u m) w) (G5 (λu=>cdV g x u m) w) (C4 () ()) hf n1 n2 n3 n4 n5 hc (Aj ?_))
    show (A4 _ (Ra a n g m x w k p r q ln co) (w+1) (WF a n g m x w k p r q ln co)).sem = _
    rw [Aa8]
    exact Aef _ (LD hL hL 0 _) a n g m x w k p r q ln co (λg st=>rfl) m16 (by omega) hw w 0 _ (w+1) (by omega) (by omega)
   ·refine .consB (.jag (λ_ _=>.inr rfl) (λ_ _=>rfl) (λu hu=>?_) (λu hu j hj=>?_)) (A8.refl _)
    ·have hu:u < w:=hu
     show (wsS _).lw u = FJ (λu=>cdL g x u m) w u
     rw [Kv _ _ _ hu]
     exact (Ys hs u m (Nat.le_refl _)).1
    ·have hu:u < w:=hu
     have hj:j < FJ (λu=>cdL g x u m) w u:=hj
     rw [Kv _ _ _ hu] at hj
     show inV ((wsS _).cw u j) = G5 (λu=>cdV g x u m) w u j
     rw [QQ _ _ _ hu]
     exact ((Ys hs u m (Nat.le_refl _)).2 j hj).symm
 ·cases h
end Go.Proofs.Ytjhnfomefcngfaa.Sh
