/-
  Layer 11: the code of a shape (functions 42, 74), as it is called; what must come (function 43). No conditions.
-/
import Derived.Test.YtjhnfomefcngfaaShU
import Derived.Test.YtjhnfomefcngfaaShT
namespace Go.Proofs.Ytjhnfomefcngfaa.Sh
open Go.Sy Ed
set_option maxHeartbeats 1000000
set_option maxRecDepth 4000
noncomputable def Aeq:List (Nat × (List V->T (V × List Blk))):=[(25,Rz),(75,MW)]
theorem Qg:AB Try.prog Gl Aeq:=.cons Ajf <| .cons p75 .nil
noncomputable def AgF:Cx:=⟨KP [(74,KA tab (AS Gl Aeq []) Try.f74)] (Ap Aeq),Bb [],Gl⟩
theorem Wr:Bj Try.prog AgF.base ∧ BO AgF :=
 ⟨Hm AP (.cons rfl AO (AQ Qg []).1 (AQ Qg []).2 Try.func74 (by kernel_rfl) (by kernel_rfl) .nil) (En rfl Qg),
  λid f st r hr=>by
   have hr:(Bb [] id f st).sem = some r:=hr
   cases hr⟩
noncomputable def AhM:List (Nat × (List V->T (V × List Blk))):=[(63,psT),(15,ofT)]
theorem AaQ:AB Try.prog Gl AhM:=.cons p41 <| .cons p15 .nil
noncomputable def Acn:Cx:=⟨KP [(42,KA tab AgF Try.f42)] (Ap AhM),Bb [],Gl⟩
theorem Acm:Bj Try.prog Acn.base ∧ BO Acn :=
 ⟨Hm AP (.cons rfl AO Wr.1 Wr.2 Try.func42 (by kernel_rfl) (by kernel_rfl) .nil) (En rfl AaQ),
  λid f st r hr=>by
   have hr:(Bb [] id f st).sem = some r:=hr
   cases hr⟩
theorem AjD:(Az (Ak tab Acn Try.f43 [] [])).sem = some (bV true,[]):=by kernel_rfl
theorem p43:A6 Try.prog Gl 43 (XI (bV true)):=by
 refine A6.congr (AK AO AP Try.func43 (by kernel_rfl) (by kernel_rfl) (Γ:=Acn) Acm) λvs r h=>?_
 unfold XI at h
 split at h
 ·rw [Ac h]
  exact AjD
 ·cases h
end Go.Proofs.Ytjhnfomefcngfaa.Sh
namespace Go.Proofs.Ytjhnfomefcngfaa.Sh
open Go.Sy Ed
set_option maxHeartbeats 1000000
set_option maxRecDepth 4000
def ZP (e:E6):Bool:=ieq e.src 1 || ieq e.src 2
theorem Xr:(List.range 112).all (λk=>ZP (D1 k)) = true:=by kernel_rfl
theorem AkK {e:E6} (h:AR e = 0):ZP e = true:=by
 rcases EU e with ⟨k,hk,_,_,he,_⟩ | ⟨h2,_⟩
 ·rw [<- he]
  exact List.all_eq_true.1 Xr k (by simpa using hk)
 ·rw [h2] at h
  cases h
structure IsIns (v:In4) (y:Ev5):Prop where
 nf:ieq v.op 5 = false
 st:JZ (ieq v.op 1) (ieq y.dir 2) = true
 ld:JZ (ieq v.op 3) (ieq y.dir 1) = true
 im:ieq v.op 1 = true->v.imm = y.val
 lc:v.loc = D3 y.loc
theorem Acb {y:Ev5} (h':ieq y.dir 1 = true ∨ ieq y.dir 2 = true) (W:Wr4):IsIns (JQ y W) y:=by
 unfold JQ
 cases h2:ieq y.dir 2 with
 | true =>
  have h1:ieq y.dir 1 = false:=by rw [BF h2]; rfl
  exact ⟨rfl,by rw [h2]; rfl,by rw [h1]; rfl,λ_=>rfl,rfl⟩
 | false =>
  have h1:ieq y.dir 1 = true:=by
   rcases h' with h' | h'
   ·exact h'
   ·rw [h'] at h2; cases h2
  exact ⟨rfl,by rw [h2]; rfl,by rw [h1]; rfl,λh=>(by cases h),rfl⟩
theorem V6 {lw:Nat->Nat} {u i:Nat} (h:i ≠ u):H4 lw u i = lw i:=by unfold H4; rw [Go.Sy.nbeq_ne h]; rfl
theorem DS (lw:Nat->Nat) (u:Nat):H4 lw u u = lw u+1:=by unfold H4; rw [nbeq_self]; rfl
theorem V7 {lw:Nat->Nat} {cw:Nat->Nat->In4} {v:In4} {u i:Nat} (h:i ≠ u):M3 lw cw u v i = cw i:=by funext j; unfold M3; rw [Go.Sy.nbeq_ne h]; rfl
theorem Ls (lw:Nat->Nat) (cw:Nat->Nat->In4) (v:In4) (u:Nat):M3 lw cw u v u (lw u) = v:=by unfold M3; rw [nbeq_self,nbeq_self]; rfl
theorem Kq {lw:Nat->Nat} {cw:Nat->Nat->In4} {v:In4} {u j:Nat} (h:j ≠ lw u):M3 lw cw u v u j = cw u j:=by unfold M3; rw [nbeq_self,Go.Sy.nbeq_ne h]; rfl
theorem MN (fe:Bool) (x:Ev5) (b:Nat) (W:Wr4):(evW fe x b W).lw = H4 (bif fe then H4 W.lw (toN x.th) else W.lw) (toN x.th):=by
 unfold evW; cases fe <;> cases ieq x.dir 2 <;> rfl
theorem MO (fe:Bool) (x:Ev5) (b:Nat) (W:Wr4) :
  (evW fe x b W).cw = M3 (bif fe then H4 W.lw (toN x.th) else W.lw) (bif fe then M3 W.lw W.cw (toN x.th) Eh else W.cw) (toN x.th) (JQ x W):=by
 unfold evW; cases fe <;> cases ieq x.dir 2 <;> rfl
theorem AcZ {fe:Bool} {x:Ev5} {b:Nat} {W:Wr4} {u:Nat} (h:toN x.th ≠ u):(evW fe x b W).lw u = W.lw u ∧ (evW fe x b W).cw u = W.cw u:=by
 have h:=Ne.symm h
 rw [MN,MO,V6 h,V7 h]
 cases fe
 ·exact ⟨rfl,rfl⟩
 ·exact ⟨V6 h,V7 h⟩
theorem Acl (fe:Bool) (x:Ev5) (b:Nat) (W:Wr4) (u:Nat):W.lw u <= (evW fe x b W).lw u ∧ ∀ j,j < W.lw u->(evW fe x b W).cw u j = W.cw u j:=by
 by_cases h:toN x.th = u
 ·subst h
  rw [MN,MO,DS]
  cases fe
  ·exact ⟨Nat.le_succ _,λj hj=>Kq (show j ≠ W.lw _ by omega)⟩
  ·refine ⟨?_,λj hj=>?_⟩
   ·show W.lw _ <= H4 W.lw _ _+1
    rw [DS]; omega
   ·refine (Kq (show j ≠ H4 W.lw _ _ by rw [DS]; omega)).trans (Kq (by omega))
 ·obtain ⟨h1,h2⟩:=AcZ (fe:=fe) (b:=b) (W:=W) h
  rw [h1,h2]
  exact ⟨Nat.le_refl _,λ_ _=>rfl⟩
theorem Aj3 (x:Ev5) (b:Nat) (W:Wr4):(evW false x b W).lw (toN x.th) = W.lw (toN x.th)+1 ∧ (evW false x b W).cw (toN x.th) (W.lw (toN x.th)) = JQ x W:=by
 rw [MN,MO,DS]
 exact ⟨rfl,Ls _ _ _ _⟩
theorem Aj2 (x:Ev5) (b:Nat) (W:Wr4):(evW true x b W).lw (toN x.th) = W.lw (toN x.th)+2 ∧ (evW true x b W).cw (toN x.th) (W.lw (toN x.th)) = Eh ∧ (evW true x b W).cw (toN x.th) (W.lw (toN x.th)+1) = JQ x W:=by
 rw [MN,MO,DS]
 refine ⟨congrArg (·+1) (DS _ _),?_,?_⟩
 ·refine (Kq (show W.lw _ ≠ H4 W.lw _ _ by rw [DS]; omega)).trans (Ls _ _ _ _)
 ·have h:=Ls (H4 W.lw (toN x.th)) (M3 W.lw W.cw (toN x.th) Eh) (JQ x W) (toN x.th)
  rw [DS] at h
  exact h
theorem Qa {fe:Nat->Bool} {x:Nat->Ev5} {u c:Nat}:∀ e,(∀ i,c <= i->i < c+e->toN (x i).th ≠ u)->(wsF fe x (c+e)).lw u = (wsF fe x c).lw u ∧ (wsF fe x (c+e)).cw u = (wsF fe x c).cw u
 | 0,_=>⟨rfl,rfl⟩
 | e+1,h=>by
  obtain ⟨h1,h2⟩:=Qa e (λi a b=>h i a (by omega))
  obtain ⟨h3,h4⟩:=AcZ (fe:=fe (c+e)) (b:=c+e) (W:=wsF fe x (c+e)) (h (c+e) (by omega) (by omega))
  exact ⟨h3.trans h1,h4.trans h2⟩
theorem Vb (fe:Nat->Bool) (x:Nat->Ev5) (u c:Nat):∀ e,(wsF fe x c).lw u <= (wsF fe x (c+e)).lw u ∧ ∀ j,j < (wsF fe x c).lw u->(wsF fe x (c+e)).cw u j = (wsF fe x c).cw u j
 | 0=>⟨Nat.le_refl _,λ_ _=>rfl⟩
 | e+1=>by
  obtain ⟨h1,h2⟩:=Vb fe x u c e
  obtain ⟨h3,h4⟩:=Acl (fe (c+e)) (x (c+e)) (c+e) (wsF fe x (c+e)) u
  exact ⟨Nat.le_trans h1 h3,λj hj=>(h4 j (by omega)).trans (h2 j hj)⟩
def feE (g:Nat->E6) (c:Nat):Nat->Bool
 | 0=>false
 | d+1=>ieq (g (c+d)).kind 5
structure ThrB (n:Nat) (g:Nat->E6) (x:Nat->Ev5) (l:Nat) (w:Nat->In4) (b c m:Nat) (P:Nat->Nat) (I:Nat->In4):Prop where
 p0:P 0 = 0
 pm:P m = l
 cm:c+m <= n
 mono:∀ d,d < m->P d < P (d+1) ∧ P (d+1) <= l
 st:∀ d,d < m->(x (c+d)).th = Int.ofNat b ∧ (x (c+d)).pl = Int.ofNat d ∧ IsIns (I d) (x (c+d)) ∧
  ((feE g c d = false ∧ P (d+1) = P d+1 ∧ w (P d) = I d) ∨ (feE g c d = true ∧ P (d+1) = P d+2 ∧ w (P d) = Eh ∧ w (P d+1) = I d))
theorem Ve {n:Nat} {g:Nat->E6} {d:Nat->Bool} (hl:obF g (n - 1) = true) {i:Nat} (hi:i < n):(evF n g d i).th = Int.ofNat (Aj (obF g) i):=by
 rw [BK hi]
 show Av (obF g) n i = _
 rw [F0 hi]
 unfold Bc
 rw [if_neg (by have:=before hi hl; omega)]
theorem ZD {e:E6} (h:As e = true):ieq e.kind 5 = false:=by
 cases hc:ieq e.kind 5 with
 | false=>rfl
 | true =>
  have hk:=BF hc
  have:=Ab3 (ZX (e:=e) (by rw [hk]; rfl) (by rw [hk]; rfl) (by rw [hk]; rfl))
  rw [this] at h
  cases h
theorem Aeo {a:Int} {n:Nat} {g:Nat->E6} (h:IsCycle a n g) (hl:obF g (n - 1) = true) {b:Nat} (hb:b < ttN n g) :
  ∃ m,0 < m ∧ m <= 12 ∧ sT (obF g) n (b+1) = sT (obF g) n b+m ∧ ThrB n g (evF n g (λ_=>true)) ((wsF (feF g n) (evF n g (λ_=>true)) n).lw b) ((wsF (feF g n) (evF n g (λ_=>true)) n).cw b) b (sT (obF g) n b) m (λd=>(wsF (feF g n) (evF n g (λ_=>true)) (sT (obF g) n b+d)).lw b)
   (λd=>JQ (evF n g (λ_=>true) (sT (obF g) n b+d)) (wsF (feF g n) (evF n g (λ_=>true)) (sT (obF g) n b+d))):=by
 obtain ⟨m,_,m0,m12,hs,hm⟩:=W8 h hl hb
 have hle:=Yq (obF g) n (b+1)
 have hth:=fun {i:Nat} (hi:i < n)=>Ve (d:=λ_=>true) hl hi
 have hs1:=fun {i:Nat} (hi:i < n)=>Md (o:=obF g) (n:=n) (k:=b) hi
 have hs2:=fun {i:Nat} (hi:i < n)=>Md (o:=obF g) (n:=n) (k:=b+1) hi
 have hdir:∀ i,i < n->ieq (evF n g (λ_=>true) i).dir 1 = true ∨ ieq (evF n g (λ_=>true) i).dir 2 = true:=λi hi=>by
  have:=AkK (D7.1 h.may i hi)
  rw [BK hi]
  unfold ZP at this
  simpa using this
 have hfe:∀ d,d < m->feF g n (sT (obF g) n b+d) = feE g (sT (obF g) n b) d:=λd hd=>by
  unfold feF
  cases d with
  | succ d =>
   rw [show sT (obF g) n b+(d+1)+n - 1 = sT (obF g) n b+d+n by omega,Nat.add_mod_right,Nat.mod_eq_of_lt (by omega)]
   rfl
  | zero =>
   refine ZD ?_
   show obF g _ = true
   by_cases hc:sT (obF g) n b = 0
   ·rw [hc,show 0+0+n - 1 = n - 1 by omega,Nat.mod_eq_of_lt (by omega)]
    exact hl
   ·rw [show sT (obF g) n b+0+n - 1 = sT (obF g) n b - 1+n by omega,Nat.add_mod_right,Nat.mod_eq_of_lt (by omega)]
    have h1:=(hs1 (i:=sT (obF g) n b - 1) (by omega)).1 (by omega)
    have h2:=λhh=>Nat.lt_irrefl _ ((hs1 (i:=sT (obF g) n b) (by omega)).2 hh)
    cases ho:obF g (sT (obF g) n b - 1) with
    | true=>rfl
    | false =>
     have h3:=Br ho
     rw [show sT (obF g) n b - 1+1 = sT (obF g) n b by omega] at h3
     exact absurd (by rw [h3]; exact h1) h2
 revert hth hdir hfe hm
 generalize evF n g (λ_=>true) = x
 generalize feF g n = fe
 intro hm hth hdir hfe
 generalize hc:sT (obF g) n b = c at hs hm hfe hs1 ⊢
 have hend:(wsF fe x n).lw b = (wsF fe x (c+m)).lw b ∧ (wsF fe x n).cw b = (wsF fe x (c+m)).cw b:=by
  have:=Qa (fe:=fe) (x:=x) (u:=b) (c:=c+m) (n - (c+m)) λi h1 h2=>by
   rw [hth (by omega)]
   have:=(hs2 (i:=i) (by omega))
   show Aj (obF g) i ≠ b
   omega
  rw [show c+m+(n - (c+m)) = n by omega] at this
  exact this
 have hbeg:(wsF fe x c).lw b = 0:=by
  have:=(Qa (fe:=fe) (x:=x) (u:=b) (c:=0) c λi h1 h2=>by
   rw [hth (by omega)]
   have:=(hs1 (i:=i) (by omega))
   show Aj (obF g) i ≠ b
   omega).1
  rw [Nat.zero_add] at this
  exact this
 have hst:∀ d,d < m->(wsF fe x (c+(d+1))).lw b <= (wsF fe x n).lw b ∧ ∀ j,j < (wsF fe x (c+(d+1))).lw b->(wsF fe x n).cw b j = (wsF fe x (c+(d+1))).cw b j:=λd hd=>by
  have:=Vb fe x b (c+(d+1)) (n - (c+(d+1)))
  rw [show c+(d+1)+(n - (c+(d+1))) = n by omega] at this
  exact this
 refine ⟨m,m0,m12,hs,hbeg,hend.1.symm,by omega,λd hd=>?_,λd hd=>?_⟩
 ·refine ⟨?_,(hst d hd).1⟩
  have h1:toN (x (c+d)).th = b:=by rw [(hm d hd).2.1]; rfl
  show (wsF fe x (c+d)).lw b < (evW (fe (c+d)) (x (c+d)) (c+d) (wsF fe x (c+d))).lw b
  cases fe (c+d) with
  | false=>have:=(Aj3 (x (c+d)) (c+d) (wsF fe x (c+d))).1; rw [h1] at this; omega
  | true=>have:=(Aj2 (x (c+d)) (c+d) (wsF fe x (c+d))).1; rw [h1] at this; omega
 ·have h1:toN (x (c+d)).th = b:=by rw [(hm d hd).2.1]; rfl
  obtain ⟨k1,k2⟩:=hst d hd
  refine ⟨(hm d hd).2.1,(hm d hd).2.2,Acb (hdir (c+d) (by omega)) (wsF fe x (c+d)),?_⟩
  rw [<- hfe d hd]
  rw [show wsF fe x (c+(d+1)) = evW (fe (c+d)) (x (c+d)) (c+d) (wsF fe x (c+d)) from rfl] at k1 k2 ⊢
  generalize fe (c+d) = F at k1 k2 ⊢
  cases F with
  | false =>
   have hh:=Aj3 (x (c+d)) (c+d) (wsF fe x (c+d))
   rw [h1] at hh
   refine .inl ⟨rfl,hh.1,?_⟩
   rw [k2 _ (by rw [hh.1]; exact Nat.lt_succ_self _),hh.2]
  | true =>
   have hh:=Aj2 (x (c+d)) (c+d) (wsF fe x (c+d))
   rw [h1] at hh
   refine .inr ⟨rfl,hh.1,?_,?_⟩
   ·rw [k2 _ (by rw [hh.1]; omega),hh.2.1]
   ·rw [k2 _ (by rw [hh.1]; omega),hh.2.2]
end Go.Proofs.Ytjhnfomefcngfaa.Sh
namespace Go.Proofs.Ytjhnfomefcngfaa.Sh
open Go.Sy Ed
set_option maxHeartbeats 1000000
set_option maxRecDepth 4000
def BB (a:Int) (n:Nat) (g:Nat->E6) (m:Nat) (x:Nat->Ev5) (t k:Int) (p:Nat) (r:Nat->Int) (q:Nat) (ln:Nat->Nat) (co:Nat->Nat->Int):Int:=bif ieq (Fp a n g m x t k p r q ln co) 0 then (bif ieq a 1 then 0 else 5) else 70
def Uk:List V->T (V × List Blk)
 | [v]=>apS v λs=>.br (AN s.ne) (.br (FJ s) (.leaf (iV (BB s.arch s.ne s.E s.nx s.X s.tt s.kk s.nr s.R s.nc (λi=>(s.C i).1) (λi=>(s.C i).2)),[])) .fail) .fail
 | _=>.fail
def lwX (a:Int) (n:Nat) (g:Nat->E6) (m:Nat) (x:Nat->Ev5) (t k:Int) (p:Nat) (r:Nat->Int) (q:Nat) (ln:Nat->Nat) (co:Nat->Nat->Int):Nat->Nat:=(wsS ⟨a,n,g,m,x,t,k,p,r,q,λu=>(ln u,co u)⟩).lw
def cwX (a:Int) (n:Nat) (g:Nat->E6) (m:Nat) (x:Nat->Ev5) (t k:Int) (p:Nat) (r:Nat->Int) (q:Nat) (ln:Nat->Nat) (co:Nat->Nat->Int):Nat->Nat->In4:=(wsS ⟨a,n,g,m,x,t,k,p,r,q,λu=>(ln u,co u)⟩).cw
def yyX (a:Int) (n:Nat) (g:Nat->E6) (m:Nat) (x:Nat->Ev5) (t k:Int) (p:Nat) (r:Nat->Int) (q:Nat) (ln:Nat->Nat) (co:Nat->Nat->Int):Nat->Int:=(wsS ⟨a,n,g,m,x,t,k,p,r,q,λu=>(ln u,co u)⟩).y
def wrX (a:Int) (n:Nat) (g:Nat->E6) (m:Nat) (x:Nat->Ev5) (t k:Int) (p:Nat) (r:Nat->Int) (q:Nat) (ln:Nat->Nat) (co:Nat->Nat->Int):Bool:=wrB ⟨a,n,g,m,x,t,k,p,r,q,λu=>(ln u,co u)⟩
def Pe:List V->T (V × List Blk)
 | [v]=>apS v λs=>.br (wrX s.arch s.ne s.E s.nx s.X s.tt s.kk s.nr s.R s.nc (λi=>(s.C i).1) (λi=>(s.C i).2)) (.leaf (.tup [.jref 0,.ref 1],[.jag ⟨64,1,toN s.tt,λ_=>.und,0,66,8,λ_=>true,lwX s.arch s.ne s.E s.nx s.X s.tt s.kk s.nr s.R s.nc (λi=>(s.C i).1) (λi=>(s.C i).2),λu j=>inV (cwX s.arch s.ne s.E s.nx s.X s.tt s.kk s.nr s.R s.nc (λi=>(s.C i).1) (λi=>(s.C i).2) u j)⟩,.row 3 1 s.nx (λi=>iV (yyX s.arch s.ne s.E s.nx s.X s.tt s.kk s.nr s.R s.nc (λi=>(s.C i).1) (λi=>(s.C i).2) i))])) .fail
 | _=>.fail
theorem Ak8:A6 Try.prog Gl 75 Pe:=p75
def codeT:List V->T (V × List Blk)
 | [v]=>apS v λs=>.br (AN s.ne) (.br (FJ s) (.br (ieq (BB s.arch s.ne s.E s.nx s.X s.tt s.kk s.nr s.R s.nc (λi=>(s.C i).1) (λi=>(s.C i).2)) 0) (.br (wrX s.arch s.ne s.E s.nx s.X s.tt s.kk s.nr s.R s.nc (λi=>(s.C i).1) (λi=>(s.C i).2)) (.leaf (.tup [.jref 0,iV 0],[.jag ⟨64,1,toN s.tt,λ_=>.und,0,66,8,λ_=>true,lwX s.arch s.ne s.E s.nx s.X s.tt s.kk s.nr s.R s.nc (λi=>(s.C i).1) (λi=>(s.C i).2),λu j=>inV (cwX s.arch s.ne s.E s.nx s.X s.tt s.kk s.nr s.R s.nc (λi=>(s.C i).1) (λi=>(s.C i).2) u j)⟩])) .fail)
  (.leaf (.tup [.jref 0,iV (BB s.arch s.ne s.E s.nx s.X s.tt s.kk s.nr s.R s.nc (λi=>(s.C i).1) (λi=>(s.C i).2))],[.jag ⟨64,1,0,λ_=>.und,0,66,8,λ_=>true,λ_=>0,λ_ _=>.und⟩]))) .fail) .fail
 | _=>.fail
def YC:List V->T (V × List Blk)
 | [v]=>apS v λs=>.br (AN s.ne) (.br (FJ s) (.br (ieq (BB s.arch s.ne s.E s.nx s.X s.tt s.kk s.nr s.R s.nc (λi=>(s.C i).1) (λi=>(s.C i).2)) 0) (.br (wrX s.arch s.ne s.E s.nx s.X s.tt s.kk s.nr s.R s.nc (λi=>(s.C i).1) (λi=>(s.C i).2)) (.leaf (.tup [.ref 0,iV 0],[.row 3 1 s.nx λi=>iV (yyX s.arch s.ne s.E s.nx s.X s.tt s.kk s.nr s.R s.nc (λi=>(s.C i).1) (λi=>(s.C i).2) i)])) .fail)
  (.leaf (.tup [.ref 0,iV (BB s.arch s.ne s.E s.nx s.X s.tt s.kk s.nr s.R s.nc (λi=>(s.C i).1) (λi=>(s.C i).2))],[.row 3 1 0 λ_=>.und]))) .fail) .fail
 | _=>.fail
def Z1:List V->T (V × List Blk)
 | [v]=>apL v λn f=>.br (AN n) (.br (ieq (BR 1 n f) 0) (.leaf (.tup [Qs 1 n (shG n f),bV true],Qt n (shG n f))) (.leaf (.tup [noV,bV false],noH))) .fail
 | _=>.fail
noncomputable def RJ:List (Nat × (List V->T (V × List Blk))):=[(25,Rz)]
theorem XS:AB Try.prog Gl RJ:=.cons Ajf .nil
noncomputable def Qj:List (Nat × (List V->T (V × List Blk))):=[(74,Uk),(75,Pe)]
noncomputable def tb41:List (Nat × (List V->T (V × List Blk))):=[(15,ofT)]
theorem tb41_ok:AB Try.prog Gl tb41:=.cons p15 .nil
section
variable (L:LT) (a:Int) (n:Nat) (g:Nat->E6) (m:Nat) (x:Nat->Ev5) (t k:Int) (p:Nat) (r:Nat->Int) (q:Nat) (ln:Nat->Nat) (co:Nat->Nat->Int)
include L a n g m x t k p r q ln co
theorem AjW (h21:Au q (λi=>Au (ln i) (λ_=>true)) = true) (h22:AN n = true) (h23:Ah n = true) (h24:Ah m = true) (h25:Ah p = true) (h26:Ah q = true) (h27:Au q (λi=>Ah (ln i)) = true) (h28:ieq (Fp a n g m x t k p r q ln (λi i_1=>co i i_1)) 0 = false):(Az (Ak tab ⟨Ap RJ,L,Gl⟩ Try.f74 [.agg (shL a n g m x t k p r q ln co)] [])).sem = some ((iV 70),[]):=Aa (bbK 7 127) [Au n (λ_=>true),Au m (λ_=>true),Au p (λ_=>true),Au q (λi=>Au (ln i) (λ_=>true)),AN n,Af (Ah n) (Af (Ah m) (Af (Ah p) (Af (Ah q) (Au q (λi=>Ah (ln i)))))),An (ieq (Fp a n g m x t k p r q ln (λi i_1=>co i i_1)) 0)] (by kernel_rfl) (by simp only [*,Aw] <;> rfl)
theorem AjX (h22:Au q (λi=>Au (ln i) (λ_=>true)) = true) (h23:AN n = true) (h24:Ah n = true) (h25:Ah m = true) (h26:Ah p = true) (h27:Ah q = true) (h28:Au q (λi=>Ah (ln i)) = true) (h29:ieq (Fp a n g m x t k p r q ln (λi i_1=>co i i_1)) 0 = true) (h0:ieq a 1 = false):(Az (Ak tab ⟨Ap RJ,L,Gl⟩ Try.f74 [.agg (shL a n g m x t k p r q ln co)] [])).sem = some ((iV 5),[]):=Aa (bbK 8 191) [Au n (λ_=>true),Au m (λ_=>true),Au p (λ_=>true),Au q (λi=>Au (ln i) (λ_=>true)),AN n,Af (Ah n) (Af (Ah m) (Af (Ah p) (Af (Ah q) (Au q (λi=>Ah (ln i)))))),An (ieq (Fp a n g m x t k p r q ln (λi i_1=>co i i_1)) 0),An (ieq a 1)] (by kernel_rfl) (by simp only [*,Aw] <;> rfl)
theorem AjV (h22:Au q (λi=>Au (ln i) (λ_=>true)) = true) (h23:AN n = true) (h24:Ah n = true) (h25:Ah m = true) (h26:Ah p = true) (h27:Ah q = true) (h28:Au q (λi=>Ah (ln i)) = true) (h29:ieq (Fp a n g m x t k p r q ln (λi i_1=>co i i_1)) 0 = true) (h0:ieq a 1 = true):(Az (Ak tab ⟨Ap RJ,L,Gl⟩ Try.f74 [.agg (shL a n g m x t k p r q ln co)] [])).sem = some ((iV 0),[]):=Aa (bbK 8 63) [Au n (λ_=>true),Au m (λ_=>true),Au p (λ_=>true),Au q (λi=>Au (ln i) (λ_=>true)),AN n,Af (Ah n) (Af (Ah m) (Af (Ah p) (Af (Ah q) (Au q (λi=>Ah (ln i)))))),An (ieq (Fp a n g m x t k p r q ln (λi i_1=>co i i_1)) 0),An (ieq a 1)] (by kernel_rfl) (by simp only [*,Aw] <;> rfl)
end
theorem p74:A6 Try.prog Gl 74 Uk:=by
 refine A5 AO AP Try.func74 (by kernel_rfl) (by kernel_rfl) λvs v h' h=>?_
 unfold Uk at h
 split at h
 ·rename_i v1
  obtain ⟨s,a1,h⟩:=EX h
  obtain ⟨hf,h⟩:=Ag h
  obtain ⟨hn,h⟩:=Ag h
  obtain ⟨a,n,g,m,x,t,k,p,r,q,C⟩:=s
  obtain ⟨ln,co,hC⟩:∃ (ln:Nat->Nat) (co:Nat->Nat->Int),C = λu=>(ln u,co u):=⟨λu=>(C u).1,λu=>(C u).2,rfl⟩
  subst hC
  have hA:BJ [v1] [.agg (shL a n g m x t k p r q ln co)]:=λS w cs hv=>by
   obtain ⟨c,l,rfl,q1,q2⟩:=hv
   exact ⟨c,_,rfl,a1 S w c q1,q2⟩
  have hn:Ah n = true ∧ Ah m = true ∧ Ah p = true ∧ Ah q = true ∧ (Au q λi=>Ah (ln i)) = true:=by simpa [FJ,Af] using hn
  obtain ⟨n1,n2,n3,n4,n5⟩:=hn
  have:=Ac h
  simp only [Prod.mk.injEq] at this
  obtain ⟨rfl,rfl⟩:=this
  have hx:=AQ XS [] (G:=Gl)
  refine ⟨_,AS Gl RJ [],_,hA,rfl,hx.1,hx.2,?_,AC.refl _⟩
  show _ = some (iV (BB a n g m x t k p r q ln co),_)
  unfold BB
  cases hc:ieq (Fp a n g m x t k p r q ln co) 0 with
  | false=>exact AjW _ a n g m x t k p r q ln co (J8 () ()) hf n1 n2 n3 n4 n5 hc
  | true =>
   cases ha:ieq a 1 with
   | false=>exact AjX _ a n g m x t k p r q ln co (J8 () ()) hf n1 n2 n3 n4 n5 hc ha
   | true=>exact AjV _ a n g m x t k p r q ln co (J8 () ()) hf n1 n2 n3 n4 n5 hc ha
 ·cases h
theorem Vl:AB Try.prog Gl Qj:=.cons p74 <| .cons Ak8 .nil
section
variable (L:LT) (a:Int) (n:Nat) (g:Nat->E6) (m:Nat) (x:Nat->Ev5) (t k:Int) (p:Nat) (r:Nat->Int) (q:Nat) (ln:Nat->Nat) (co:Nat->Nat->Int)
include L a n g m x t k p r q ln co
theorem Akj (h21:Au q (λi=>Au (ln i) (λ_=>true)) = true) (h22:AN n = true) (h23:Ah n = true) (h24:Ah m = true) (h25:Ah p = true) (h26:Ah q = true) (h27:Au q (λi=>Ah (ln i)) = true) (h28:ieq (BB a n g m x t k p r q ln (λi i_1=>co i i_1)) 0 = false):(Az (Ak tab ⟨Ap Qj,L,Gl⟩ Try.f42 [.agg (shL a n g m x t k p r q ln co)] [])).sem = some ((.tup [.jref 0,iV (BB a n g m x t k p r q ln (λi i_1=>co i i_1))]),[.jag (Jag.mk 64 1 0 (λ_=>.und) 0 66 8 (λ_=>true) (λ_=>0) (λ_ _=>.und))]):=Aa (bbK 7 127) [Au n (λ_=>true),Au m (λ_=>true),Au p (λ_=>true),Au q (λi=>Au (ln i) (λ_=>true)),AN n,Af (Ah n) (Af (Ah m) (Af (Ah p) (Af (Ah q) (Au q (λi=>Ah (ln i)))))),An (ieq (BB a n g m x t k p r q ln (λi i_1=>co i i_1)) 0)] (by kernel_rfl) (by simp only [*,Aw] <;> rfl)
theorem Aki (h21:Au q (λi=>Au (ln i) (λ_=>true)) = true) (h22:AN n = true) (h23:Ah n = true) (h24:Ah m = true) (h25:Ah p = true) (h26:Ah q = true) (h27:Au q (λi=>Ah (ln i)) = true) (h28:ieq (BB a n g m x t k p r q ln (λi i_1=>co i i_1)) 0 = true) (h29:wrX a n g m x t k p r q ln (λi i_1=>co i i_1) = true):(Az (Ak tab ⟨Ap Qj,L,Gl⟩ Try.f42 [.agg (shL a n g m x t k p r q ln co)] [])).sem = some ((.tup [.jref 0,iV 0]),[.jag (Jag.mk 64 1 (toN t) (λ_=>.und) 0 66 8 (λ_=>true) (lwX a n g m x t k p r q ln (λi i_1=>co i i_1)) (λu j=>.agg [iV ((cwX a n g m x t k p r q ln (λi i_1=>co i i_1) u j)).op,iV ((cwX a n g m x t k p r q ln (λi i_1=>co i i_1) u j)).d,iV 0,iV 0,iV ((cwX a n g m x t k p r q ln (λi i_1=>co i i_1) u j)).imm,.str ((cwX a n g m x t k p r q ln (λi i_1=>co i i_1) u j)).loc,.str [],iV 0]))]):=Aa (bbK 12 4031) ((λc0 c1 c2 c3=>[c0,c1,c2,c3,AN n,Af (Ah n) (Af (Ah m) (Af (Ah p) (Af (Ah q) (Au q (λi=>Ah (ln i)))))),An (ieq (BB a n g m x t k p r q ln (λi i_1=>co i i_1)) 0),c0,c1,c2,c3,wrX a n g m x t k p r q ln (λi i_1=>co i i_1)]) (Au n (λ_=>true)) (Au m (λ_=>true)) (Au p (λ_=>true)) (Au q (λi=>Au (ln i) (λ_=>true)))) (by kernel_rfl) (by simp only [*,Aw] <;> rfl)
theorem Akh (h21:Au q (λi=>Au (ln i) (λ_=>true)) = true) (h22:AN n = true) (h23:Ah n = true) (h24:Ah m = true) (h25:Ah p = true) (h26:Ah q = true) (h27:Au q (λi=>Ah (ln i)) = true) (h28:ieq (BB a n g m x t k p r q ln (λi i_1=>co i i_1)) 0 = false):(Az (Ak tab ⟨Ap Qj,L,Gl⟩ Try.f45 [.agg (shL a n g m x t k p r q ln co)] [])).sem = some ((.tup [.ref 0,iV (BB a n g m x t k p r q ln (λi i_1=>co i i_1))]),[r3Z]):=Aa (bbK 7 127) [Au n (λ_=>true),Au m (λ_=>true),Au p (λ_=>true),Au q (λi=>Au (ln i) (λ_=>true)),AN n,Af (Ah n) (Af (Ah m) (Af (Ah p) (Af (Ah q) (Au q (λi=>Ah (ln i)))))),An (ieq (BB a n g m x t k p r q ln (λi i_1=>co i i_1)) 0)] (by kernel_rfl) (by simp only [*,Aw] <;> rfl)
theorem Akg (h21:Au q (λi=>Au (ln i) (λ_=>true)) = true) (h22:AN n = true) (h23:Ah n = true) (h24:Ah m = true) (h25:Ah p = true) (h26:Ah q = true) (h27:Au q (λi=>Ah (ln i)) = true) (h28:ieq (BB a n g m x t k p r q ln (λi i_1=>co i i_1)) 0 = true) (h29:wrX a n g m x t k p r q ln (λi i_1=>co i i_1) = true):(Az (Ak tab ⟨Ap Qj,L,Gl⟩ Try.f45 [.agg (shL a n g m x t k p r q ln co)] [])).sem = some ((.tup [.ref 0,iV 0]),[.row 3 1 m (λi=>iV (yyX a n g m x t k p r q ln (λi i_1=>co i i_1) i))]):=Aa (bbK 12 4031) ((λc0 c1 c2 c3=>[c0,c1,c2,c3,AN n,Af (Ah n) (Af (Ah m) (Af (Ah p) (Af (Ah q) (Au q (λi=>Ah (ln i)))))),An (ieq (BB a n g m x t k p r q ln (λi i_1=>co i i_1)) 0),c0,c1,c2,c3,wrX a n g m x t k p r q ln (λi i_1=>co i i_1)]) (Au n (λ_=>true)) (Au m (λ_=>true)) (Au p (λ_=>true)) (Au q (λi=>Au (ln i) (λ_=>true)))) (by kernel_rfl) (by simp only [*,Aw] <;> rfl)
end
theorem p42:A6 Try.prog Gl 42 codeT:=by
 refine A5 AO AP Try.func42 (by kernel_rfl) (by kernel_rfl) λvs v h' h=>?_
 unfold codeT at h
 split at h
 ·rename_i v1
  obtain ⟨s,a1,h⟩:=EX h
  obtain ⟨hf,h⟩:=Ag h
  obtain ⟨hn,h⟩:=Ag h
  obtain ⟨a,n,g,m,x,t,k,p,r,q,C⟩:=s
  obtain ⟨ln,co,hC⟩:∃ (ln:Nat->Nat) (co:Nat->Nat->Int),C = λu=>(ln u,co u):=⟨λu=>(C u).1,λu=>(C u).2,rfl⟩
  subst hC
  have hA:BJ [v1] [.agg (shL a n g m x t k p r q ln co)]:=λS w cs hv=>by
   obtain ⟨c,l,rfl,q1,q2⟩:=hv
   exact ⟨c,_,rfl,a1 S w c q1,q2⟩
  have hn:Ah n = true ∧ Ah m = true ∧ Ah p = true ∧ Ah q = true ∧ (Au q λi=>Ah (ln i)) = true:=by simpa [FJ,Af] using hn
  obtain ⟨n1,n2,n3,n4,n5⟩:=hn
  have hx:=AQ Vl [] (G:=Gl)
  cases hc:ieq (BB a n g m x t k p r q ln co) 0 with
  | false =>
   simp only [hc,T.sem,sel,cond_false,Option.some.injEq,Prod.mk.injEq] at h
   obtain ⟨rfl,rfl⟩:=h
   exact ⟨_,AS Gl Qj [],_,hA,rfl,hx.1,hx.2,Akj _ a n g m x t k p r q ln co (J8 () ()) hf n1 n2 n3 n4 n5 hc,AC.refl _⟩
  | true =>
   simp only [hc] at h
   obtain ⟨hw,h⟩:=Ag h
   have:=Ac h
   simp only [Prod.mk.injEq] at this
   obtain ⟨rfl,rfl⟩:=this
   exact ⟨_,AS Gl Qj [],_,hA,rfl,hx.1,hx.2,Aki _ a n g m x t k p r q ln co (J8 () ()) hf n1 n2 n3 n4 n5 hc hw,AC.refl _⟩
 ·cases h
theorem p45:A6 Try.prog Gl 45 YC:=by
 refine A5 AO AP Try.func45 (by kernel_rfl) (by kernel_rfl) λvs v h' h=>?_
 unfold YC at h
 split at h
 ·rename_i v1
  obtain ⟨s,a1,h⟩:=EX h
  obtain ⟨hf,h⟩:=Ag h
  obtain ⟨hn,h⟩:=Ag h
  obtain ⟨a,n,g,m,x,t,k,p,r,q,C⟩:=s
  obtain ⟨ln,co,hC⟩:∃ (ln:Nat->Nat) (co:Nat->Nat->Int),C = λu=>(ln u,co u):=⟨λu=>(C u).1,λu=>(C u).2,rfl⟩
  subst hC
  have hA:BJ [v1] [.agg (shL a n g m x t k p r q ln co)]:=λS w cs hv=>by
   obtain ⟨c,l,rfl,q1,q2⟩:=hv
   exact ⟨c,_,rfl,a1 S w c q1,q2⟩
  have hn:Ah n = true ∧ Ah m = true ∧ Ah p = true ∧ Ah q = true ∧ (Au q λi=>Ah (ln i)) = true:=by simpa [FJ,Af] using hn
  obtain ⟨n1,n2,n3,n4,n5⟩:=hn
  have hx:=AQ Vl [] (G:=Gl)
  cases hc:ieq (BB a n g m x t k p r q ln co) 0 with
  | false =>
   simp only [hc,T.sem,sel,cond_false,Option.some.injEq,Prod.mk.injEq] at h
   obtain ⟨rfl,rfl⟩:=h
   exact ⟨_,AS Gl Qj [],_,hA,rfl,hx.1,hx.2,Akh _ a n g m x t k p r q ln co (J8 () ()) hf n1 n2 n3 n4 n5 hc,AC.refl _⟩
  | true =>
   simp only [hc] at h
   obtain ⟨hw,h⟩:=Ag h
   have:=Ac h
   simp only [Prod.mk.injEq] at this
   obtain ⟨rfl,rfl⟩:=this
   exact ⟨_,AS Gl Qj [],_,hA,rfl,hx.1,hx.2,Akg _ a n g m x t k p r q ln co (J8 () ()) hf n1 n2 n3 n4 n5 hc hw,AC.refl _⟩
 ·cases h
section
variable (L:LT) (n:Nat) (f:Nat->E6)
include L n f
theorem Akl (h21:AN n = true) (h0:ieq (BR 1 n f) 0 = false):(Az (Ak tab ⟨Ap tb41,L,Gl⟩ Try.f41 [.sl 6 n λi=>eV (f i)] [])).sem = some ((.tup [.agg [iV 0,.ref 0,.ref 1,iV 0,iV 0,.ref 2,.jref 3],bV (ieq (BR 1 n f) 0)]),[.row 44 6 0 (λ_=>.und),.row 40 5 0 (λ_=>.und),r3Z,jgZ]):=Aa [true,true,false] [Au n (λ_=>true),AN n,ieq (BR 1 n f) 0] (by kernel_rfl) (by simp only [h21,h0,Aw] <;> rfl)
theorem Akk (h21:AN n = true) (h0:ieq (BR 1 n f) 0 = true):(Az (Ak tab ⟨Ap tb41,L,Gl⟩ Try.f41 [.sl 6 n λi=>eV (f i)] [])).sem = some ((.tup [.agg [iV 1,.ref 0,.ref 1,iV (Int.ofNat (ttN n (shG n f))),iV (Int.ofNat (kkN n (shG n f))),.ref 2,.jref 3],bV (ieq 0 0)]),[.row 44 6 n (λi=>eV (shG n f i)),.row 40 5 n (λi=>evV (evF n (shG n f) (λ_=>true) i)),.row 3 1 n (λi=>iV (rfF n (shG n f) (λ_=>true) i)),.jag (Jag.mk 25 1 (kkN n (shG n f)) (λ_=>.und) 0 3 1 (λ_=>true) (lnN (mbF (shG n f)) (wrF (shG n f)) n) (λk i=>iV (Int.ofNat (coN (mbF (shG n f)) (wrF (shG n f)) n k i))))]):=Aa [true,true,true] [Au n (λ_=>true),AN n,ieq (BR 1 n f) 0] (by kernel_rfl) (by simp only [h21,h0,Aw] <;> rfl)
end
theorem AkB:A6 Try.prog Gl 41 Z1:=by
 refine A5 AO AP Try.func41 (by kernel_rfl) (by kernel_rfl) λvs v h' h=>?_
 unfold Z1 at h
 split at h
 ·rename_i u
  obtain ⟨n,f,ha,h1⟩:=Cj h
  obtain ⟨hf,h1⟩:=Ag h1
  have hA:BJ [u] [.sl 6 n λi=>eV (f i)]:=λS w cs hv=>by
   obtain ⟨c,l,rfl,q1,q2⟩:=hv
   exact ⟨c,_,rfl,ha S w c q1,q2⟩
  have hx:=AQ tb41_ok [] (G:=Gl)
  refine ⟨_,AS Gl tb41 [],_,hA,rfl,hx.1,hx.2,?_,AC.refl _⟩
  cases hc:ieq (BR 1 n f) 0 with
  | false =>
   simp only [hc,T.sem,sel,cond_false,Option.some.injEq,Prod.mk.injEq] at h1
   obtain ⟨rfl,rfl⟩:=h1
   have:=Akl (Bb []) n f hf hc
   rw [hc] at this
   exact this
  | true =>
   simp only [hc,T.sem,sel,cond_true,Option.some.injEq,Prod.mk.injEq] at h1
   obtain ⟨rfl,rfl⟩:=h1
   exact Akk _ n f hf hc
 ·cases h
end Go.Proofs.Ytjhnfomefcngfaa.Sh
namespace Go.Proofs.Ytjhnfomefcngfaa.Sh
open Go.Sy Ed
open Int (ofNat)
set_option maxHeartbeats 1000000
set_option maxRecDepth 4000
theorem XC {n:Nat} {f:Nat->E6} {a:Int} (h:IsCycle a n f):wrX 1 n (shG n f) n (evF n (shG n f) (λ_=>true)) (ofNat (ttN n (shG n f))) (ofNat (kkN n (shG n f))) n (rfF n (shG n f) (λ_=>true)) (kkN n (shG n f)) (lnN (mbF (shG n f)) (wrF (shG n f)) n) (λk i=>ofNat (coN (mbF (shG n f)) (wrF (shG n f)) n k i)) = true:=by
 have hhi:=h.hi
 have ht:ttN n (shG n f) <= n:=AX _ _
 have hlast:=RU h
 have hg:=Ew h
 unfold wrX wrB
 refine (B5 (Nat.ble_eq_true_of_le hhi)).trans <| (B5 (Nat.ble_eq_true_of_le (show toN (ofNat (ttN n (shG n f))) <= 16 from Nat.le_trans ht hhi))).trans <| (B5 (F4 _)).trans <| (B5 (AJ.2 λb hb=>?_)).trans (AJ.2 λb hb=>?_)
 ·show Af (ile 0 (evF n (shG n f) (λ_=>true) b).th) (ilt (evF n (shG n f) (λ_=>true) b).th (ofNat (ttN n (shG n f)))) = true
  rw [Ve hlast hb]
  exact Aq (before hb hlast)
 ·exact decide_eq_true (Nat.mod_lt _ (by omega))
theorem X4:AW [.jag (Jag.mk 64 1 0 (λ_=>.und) 0 66 8 (λ_=>true) (λ_=>0) (λ_ _=>.und))] = true:=by
 simp [AW]
theorem Aao (t:Nat) (lw:Nat->Nat) (cw:Nat->Nat->In4):AW [.jag (Jag.mk 64 1 t (λ_=>.und) 0 66 8 (λ_=>true) lw (λu j=>inV (cw u j)))] = true:=by
 simp only [AW,Bool.and_eq_true,List.all_eq_true]
 exact ⟨λ_ _=>⟨rfl,λ_ _=>rfl⟩,trivial⟩
theorem Acp {n:Nat} {f:Nat->E6} {a:Int} (h:IsCycle a n f):ieq (Fp a n (shG n f) n (evF n (shG n f) (λ_=>true)) (ofNat (ttN n (shG n f))) (ofNat (kkN n (shG n f))) n (rfF n (shG n f) (λ_=>true)) (kkN n (shG n f)) (lnN (mbF (shG n f)) (wrF (shG n f)) n) (λk i=>ofNat (coN (mbF (shG n f)) (wrF (shG n f)) n k i))) 0 = true:=by
 show ieq (sel (GE (ofS a n f)) 0 70) 0 = true
 rw [Aae h]
 rfl
theorem Acq:ieq (Fp 0 0 (λ_=>E6.mk 0 false false 0 0 0) 0 (λ_=>Ev5.mk 0 0 0 0 0) 0 0 0 (λ_=>0) 0 (λ_=>0) (λ_ _=>0)) 0 = false:=by
 unfold Fp
 cases hc:GE ⟨0,0,λ_=>E6.mk 0 false false 0 0 0,0,λ_=>Ev5.mk 0 0 0 0 0,0,0,0,λ_=>0,0,λ_=>(0,λ_=>0)⟩ with
 | false=>rfl
 | true =>
  unfold GE at hc
  have h2:2 <= 0:=(E7 (B3 hc).1).lo
  omega
theorem Abg {n:Nat} {f:Nat->E6} (h:IsCycle 1 n f):ieq (BB 1 n (shG n f) n (evF n (shG n f) (λ_=>true)) (ofNat (ttN n (shG n f))) (ofNat (kkN n (shG n f))) n (rfF n (shG n f) (λ_=>true)) (kkN n (shG n f)) (lnN (mbF (shG n f)) (wrF (shG n f)) n) (λk i=>ofNat (coN (mbF (shG n f)) (wrF (shG n f)) n k i))) 0 = true:=by
 unfold BB
 rw [Acp h]
 rfl
theorem V2:BB 0 0 (λ_=>E6.mk 0 false false 0 0 0) 0 (λ_=>Ev5.mk 0 0 0 0 0) 0 0 0 (λ_=>0) 0 (λ_=>0) (λ_ _=>0) = 70:=by
 unfold BB
 rw [Acq]
 rfl
def AbT:List V->T (V × List Blk)
 | [v]=>apL v λn _=>.br (AN n) (out (bV true)) .fail
 | _=>.fail
theorem Zo {n:Nat} (f:Nat->E6) (hn:n * 40 <= 140737488351232):(AbT [A4 n f]).sem = some (bV true,[]):=by
 show (apL (A4 n f) λn f=>T.br (AN n) (out (bV true)) .fail).sem = _
 rw [AgO]
 have hn:AN n = true:=decide_eq_true (by omega)
 simp only [hn]
 rfl
end Go.Proofs.Ytjhnfomefcngfaa.Sh
