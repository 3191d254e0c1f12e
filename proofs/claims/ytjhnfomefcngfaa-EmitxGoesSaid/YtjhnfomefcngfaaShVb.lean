/-
  Layer 11: the code of a shape (functions 42, 74), as it is called; what must come (function 43). No conditions.
-/
import Derived.Test.YtjhnfomefcngfaaShU
import Derived.Test.YtjhnfomefcngfaaShT
namespace Go.Proofs.Ytjhnfomefcngfaa.Sh
open Go.Sy Ed
set_option maxHeartbeats 1000000
set_option maxRecDepth 4000
noncomputable def Aei:List (Nat × (List V->T (V × List Blk))):=[(25,Rv),(75,MW)]
theorem Qb:AC Try.prog Gl Aei:=.cons AiN <| .cons p75 .nil
noncomputable def Ag0:Cx:=⟨KQ [(74,KB tab (AT Gl Aei []) Try.f74)] (Aq Aei),AZ [],Gl⟩
theorem Wi:Bj Try.prog Ag0.base ∧ BP Ag0 :=
 ⟨Hm AR (.cons rfl AQ (AS Qb []).1 (AS Qb []).2 Try.func74 (by kernel_rfl) (by kernel_rfl) .nil) (Ep rfl Qb),
  λid f st r hr=>by
   have hr:(AZ [] id f st).sem = some r:=hr
   cases hr⟩
noncomputable def Ah4:List (Nat × (List V->T (V × List Blk))):=[(63,psT),(15,ofT)]
theorem AaK:AC Try.prog Gl Ah4:=.cons p41 <| .cons p15 .nil
noncomputable def Ack:Cx:=⟨KQ [(42,KB tab Ag0 Try.f42)] (Aq Ah4),AZ [],Gl⟩
theorem Acj:Bj Try.prog Ack.base ∧ BP Ack :=
 ⟨Hm AR (.cons rfl AQ Wi.1 Wi.2 Try.func42 (by kernel_rfl) (by kernel_rfl) .nil) (Ep rfl AaK),
  λid f st r hr=>by
   have hr:(AZ [] id f st).sem = some r:=hr
   cases hr⟩
theorem Ajw:(A2 (An tab Ack Try.f43 [] [])).sem = some (bV true,[]):=by kernel_rfl
theorem p43:AA Try.prog Gl 43 (XA (bV true)):=by
 refine AA.congr (AO AQ AR Try.func43 (by kernel_rfl) (by kernel_rfl) (Γ:=Ack) Acj) λvs r h=>?_
 unfold XA at h
 split at h
 ·rw [Ac h]
  exact Ajw
 ·cases h
end Go.Proofs.Ytjhnfomefcngfaa.Sh
namespace Go.Proofs.Ytjhnfomefcngfaa.Sh
open Go.Sy Ed
set_option maxHeartbeats 1000000
set_option maxRecDepth 4000
def ZK (e:E6):Bool:=ieq e.src 1 || ieq e.src 2
theorem Xi:(List.range 112).all (λk=>ZK (D5 k)) = true:=by kernel_rfl
theorem Aku {e:E6} (h:AM e = 0):ZK e = true:=by
 rcases EW e with ⟨k,hk,_,_,he,_⟩ | ⟨h2,_⟩
 ·rw [<- he]
  exact List.all_eq_true.1 Xi k (by simpa using hk)
 ·rw [h2] at h
  cases h
structure IsIns (v:In4) (y:Ev5):Prop where
 nf:ieq v.op 5 = false
 st:AP (ieq v.op 1) (ieq y.dir 2) = true
 ld:AP (ieq v.op 3) (ieq y.dir 1) = true
 im:ieq v.op 1 = true->v.imm = y.val
 lc:v.loc = Bn y.loc
theorem AbY {y:Ev5} (h':ieq y.dir 1 = true ∨ ieq y.dir 2 = true) (W:Wr4):IsIns (L8 y W) y:=by
 unfold L8
 cases h2:ieq y.dir 2 with
 | true =>
  have h1:ieq y.dir 1 = false:=by rw [CZ h2]; rfl
  exact ⟨rfl,by rw [h2]; rfl,by rw [h1]; rfl,λ_=>rfl,rfl⟩
 | false =>
  have h1:ieq y.dir 1 = true:=by
   rcases h' with h' | h'
   ·exact h'
   ·rw [h'] at h2; cases h2
  exact ⟨rfl,by rw [h2]; rfl,by rw [h1]; rfl,λh=>(by cases h),rfl⟩
theorem Vw {lw:Nat->Nat} {u i:Nat} (h:i ≠ u):H5 lw u i = lw i:=by unfold H5; rw [Go.Sy.nbeq_ne h]; rfl
theorem DU (lw:Nat->Nat) (u:Nat):H5 lw u u = lw u+1:=by unfold H5; rw [Bg]; rfl
theorem Vx {lw:Nat->Nat} {cw:Nat->Nat->In4} {v:In4} {u i:Nat} (h:i ≠ u):M5 lw cw u v i = cw i:=by funext j; unfold M5; rw [Go.Sy.nbeq_ne h]; rfl
theorem Lv (lw:Nat->Nat) (cw:Nat->Nat->In4) (v:In4) (u:Nat):M5 lw cw u v u (lw u) = v:=by unfold M5; rw [Bg,Bg]; rfl
theorem Kq {lw:Nat->Nat} {cw:Nat->Nat->In4} {v:In4} {u j:Nat} (h:j ≠ lw u):M5 lw cw u v u j = cw u j:=by unfold M5; rw [Bg,Go.Sy.nbeq_ne h]; rfl
theorem MN (fe:Bool) (x:Ev5) (b:Nat) (W:Wr4):(evW fe x b W).lw = H5 (bif fe then H5 W.lw (toN x.th) else W.lw) (toN x.th):=by
 unfold evW; cases fe <;> cases ieq x.dir 2 <;> rfl
theorem MO (fe:Bool) (x:Ev5) (b:Nat) (W:Wr4) :
  (evW fe x b W).cw = M5 (bif fe then H5 W.lw (toN x.th) else W.lw) (bif fe then M5 W.lw W.cw (toN x.th) GD else W.cw) (toN x.th) (L8 x W):=by
 unfold evW; cases fe <;> cases ieq x.dir 2 <;> rfl
theorem AcV {fe:Bool} {x:Ev5} {b:Nat} {W:Wr4} {u:Nat} (h:toN x.th ≠ u):(evW fe x b W).lw u = W.lw u ∧ (evW fe x b W).cw u = W.cw u:=by
 have h:=Ne.symm h
 rw [MN,MO,Vw h,Vx h]
 cases fe
 ·exact ⟨rfl,rfl⟩
 ·exact ⟨Vw h,Vx h⟩
theorem Aci (fe:Bool) (x:Ev5) (b:Nat) (W:Wr4) (u:Nat):W.lw u <= (evW fe x b W).lw u ∧ ∀ j,j < W.lw u->(evW fe x b W).cw u j = W.cw u j:=by
 by_cases h:toN x.th = u
 ·subst h
  rw [MN,MO,DU]
  cases fe
  ·exact ⟨Nat.le_succ _,λj hj=>Kq (show j ≠ W.lw _ by omega)⟩
  ·refine ⟨?_,λj hj=>?_⟩
   ·show W.lw _ <= H5 W.lw _ _+1
    rw [DU]; omega
   ·refine (Kq (show j ≠ H5 W.lw _ _ by rw [DU]; omega)).trans (Kq (by omega))
 ·obtain ⟨h1,h2⟩:=AcV (fe:=fe) (b:=b) (W:=W) h
  rw [h1,h2]
  exact ⟨Nat.le_refl _,λ_ _=>rfl⟩
theorem Ajm (x:Ev5) (b:Nat) (W:Wr4):(evW false x b W).lw (toN x.th) = W.lw (toN x.th)+1 ∧ (evW false x b W).cw (toN x.th) (W.lw (toN x.th)) = L8 x W:=by
 rw [MN,MO,DU]
 exact ⟨rfl,Lv _ _ _ _⟩
theorem Ajl (x:Ev5) (b:Nat) (W:Wr4):(evW true x b W).lw (toN x.th) = W.lw (toN x.th)+2 ∧ (evW true x b W).cw (toN x.th) (W.lw (toN x.th)) = GD ∧ (evW true x b W).cw (toN x.th) (W.lw (toN x.th)+1) = L8 x W:=by
 rw [MN,MO,DU]
 refine ⟨congrArg (·+1) (DU _ _),?_,?_⟩
 ·refine (Kq (show W.lw _ ≠ H5 W.lw _ _ by rw [DU]; omega)).trans (Lv _ _ _ _)
 ·have h:=Lv (H5 W.lw (toN x.th)) (M5 W.lw W.cw (toN x.th) GD) (L8 x W) (toN x.th)
  rw [DU] at h
  exact h
theorem PW {fe:Nat->Bool} {x:Nat->Ev5} {u c:Nat}:∀ e,(∀ i,c <= i->i < c+e->toN (x i).th ≠ u)->(wsF fe x (c+e)).lw u = (wsF fe x c).lw u ∧ (wsF fe x (c+e)).cw u = (wsF fe x c).cw u
 | 0,_=>⟨rfl,rfl⟩
 | e+1,h=>by
  obtain ⟨h1,h2⟩:=PW e (λi a b=>h i a (by omega))
  obtain ⟨h3,h4⟩:=AcV (fe:=fe (c+e)) (b:=c+e) (W:=wsF fe x (c+e)) (h (c+e) (by omega) (by omega))
  exact ⟨h3.trans h1,h4.trans h2⟩
theorem UU (fe:Nat->Bool) (x:Nat->Ev5) (u c:Nat):∀ e,(wsF fe x c).lw u <= (wsF fe x (c+e)).lw u ∧ ∀ j,j < (wsF fe x c).lw u->(wsF fe x (c+e)).cw u j = (wsF fe x c).cw u j
 | 0=>⟨Nat.le_refl _,λ_ _=>rfl⟩
 | e+1=>by
  obtain ⟨h1,h2⟩:=UU fe x u c e
  obtain ⟨h3,h4⟩:=Aci (fe (c+e)) (x (c+e)) (c+e) (wsF fe x (c+e)) u
  exact ⟨Nat.le_trans h1 h3,λj hj=>(h4 j (by omega)).trans (h2 j hj)⟩
def feE (g:Nat->E6) (c:Nat):Nat->Bool
 | 0=>false
 | d+1=>ieq (g (c+d)).kind 5
structure ThrB (n:Nat) (g:Nat->E6) (x:Nat->Ev5) (l:Nat) (w:Nat->In4) (b c m:Nat) (P:Nat->Nat) (I:Nat->In4):Prop where
 p0:P 0 = 0
 pm:P m = l
 cm:c+m <= n
 mono:∀ d,d < m->P d < P (d+1) ∧ P (d+1) <= l
 st:∀ d,d < m->(x (c+d)).th = Int.ofNat b ∧ (x (c+d)).pl = Int.ofNat d ∧ IsIns (I d) (x (c+d)) ∧
  ((feE g c d = false ∧ P (d+1) = P d+1 ∧ w (P d) = I d) ∨ (feE g c d = true ∧ P (d+1) = P d+2 ∧ w (P d) = GD ∧ w (P d+1) = I d))
theorem Acz {n:Nat} {g:Nat->E6} {d:Nat->Bool} (hl:obF g (n - 1) = true) {i:Nat} (hi:i < n):(evF n g d i).th = Int.ofNat (Ak (obF g) i):=by
 rw [BU hi]
 show Av (obF g) n i = _
 rw [Fz hi]
 unfold Ba
 rw [if_neg (by have:=before hi hl; omega)]
theorem Z9 {e:E6} (h:As e = true):ieq e.kind 5 = false:=by
 cases hc:ieq e.kind 5 with
 | false=>rfl
 | true =>
  have hk:=CZ hc
  have:=Abz (ZS (e:=e) (by rw [hk]; rfl) (by rw [hk]; rfl) (by rw [hk]; rfl))
  rw [this] at h
  cases h
theorem Aeg {a:Int} {n:Nat} {g:Nat->E6} (h:IsCycle a n g) (hl:obF g (n - 1) = true) {b:Nat} (hb:b < ttN n g) :
  ∃ m,0 < m ∧ m <= 12 ∧ sT (obF g) n (b+1) = sT (obF g) n b+m ∧ ThrB n g (evF n g (λ_=>true)) ((wsF (feF g n) (evF n g (λ_=>true)) n).lw b) ((wsF (feF g n) (evF n g (λ_=>true)) n).cw b) b (sT (obF g) n b) m (λd=>(wsF (feF g n) (evF n g (λ_=>true)) (sT (obF g) n b+d)).lw b)
   (λd=>L8 (evF n g (λ_=>true) (sT (obF g) n b+d)) (wsF (feF g n) (evF n g (λ_=>true)) (sT (obF g) n b+d))):=by
 obtain ⟨m,_,m0,m12,hs,hm⟩:=Wy h hl hb
 have hle:=Yj (obF g) n (b+1)
 have hth:=fun {i:Nat} (hi:i < n)=>Acz (d:=λ_=>true) hl hi
 have hs1:=fun {i:Nat} (hi:i < n)=>Pq (o:=obF g) (n:=n) (k:=b) hi
 have hs2:=fun {i:Nat} (hi:i < n)=>Pq (o:=obF g) (n:=n) (k:=b+1) hi
 have hdir:∀ i,i < n->ieq (evF n g (λ_=>true) i).dir 1 = true ∨ ieq (evF n g (λ_=>true) i).dir 2 = true:=λi hi=>by
  have:=Aku (DA.1 h.may i hi)
  rw [BU hi]
  unfold ZK at this
  simpa using this
 have hfe:∀ d,d < m->feF g n (sT (obF g) n b+d) = feE g (sT (obF g) n b) d:=λd hd=>by
  unfold feF
  cases d with
  | succ d =>
   rw [show sT (obF g) n b+(d+1)+n - 1 = sT (obF g) n b+d+n by omega,Nat.add_mod_right,Nat.mod_eq_of_lt (by omega)]
   rfl
  | zero =>
   refine Z9 ?_
   show obF g _ = true
   by_cases hc:sT (obF g) n b = 0
   ·rw [hc,show 0+0+n - 1 = n - 1 by omega,Nat.mod_eq_of_lt (by omega)]
    exact hl
   ·rw [show sT (obF g) n b+0+n - 1 = sT (obF g) n b - 1+n by omega,Nat.add_mod_right,Nat.mod_eq_of_lt (by omega)]
    have h1:=(hs1 (i:=sT (obF g) n b - 1) (by omega)).1 (by omega)
    have h2:=λhh=>Nat.lt_irrefl _ ((hs1 (i:=sT (obF g) n b) (by omega)).2 hh)
    cases ho:obF g (sT (obF g) n b - 1) with
    | true=>rfl
    | false =>
     have h3:=B0 ho
     rw [show sT (obF g) n b - 1+1 = sT (obF g) n b by omega] at h3
     exact absurd (by rw [h3]; exact h1) h2
 revert hth hdir hfe hm
 generalize evF n g (λ_=>true) = x
 generalize feF g n = fe
 intro hm hth hdir hfe
 generalize hc:sT (obF g) n b = c at hs hm hfe hs1 ⊢
 have hend:(wsF fe x n).lw b = (wsF fe x (c+m)).lw b ∧ (wsF fe x n).cw b = (wsF fe x (c+m)).cw b:=by
  have:=PW (fe:=fe) (x:=x) (u:=b) (c:=c+m) (n - (c+m)) λi h1 h2=>by
   rw [hth (by omega)]
   have:=(hs2 (i:=i) (by omega))
   show Ak (obF g) i ≠ b
   omega
  rw [show c+m+(n - (c+m)) = n by omega] at this
  exact this
 have hbeg:(wsF fe x c).lw b = 0:=by
  have:=(PW (fe:=fe) (x:=x) (u:=b) (c:=0) c λi h1 h2=>by
   rw [hth (by omega)]
   have:=(hs1 (i:=i) (by omega))
   show Ak (obF g) i ≠ b
   omega).1
  rw [Nat.zero_add] at this
  exact this
 have hst:∀ d,d < m->(wsF fe x (c+(d+1))).lw b <= (wsF fe x n).lw b ∧ ∀ j,j < (wsF fe x (c+(d+1))).lw b->(wsF fe x n).cw b j = (wsF fe x (c+(d+1))).cw b j:=λd hd=>by
  have:=UU fe x b (c+(d+1)) (n - (c+(d+1)))
  rw [show c+(d+1)+(n - (c+(d+1))) = n by omega] at this
  exact this
 refine ⟨m,m0,m12,hs,hbeg,hend.1.symm,by omega,λd hd=>?_,λd hd=>?_⟩
 ·refine ⟨?_,(hst d hd).1⟩
  have h1:toN (x (c+d)).th = b:=by rw [(hm d hd).2.1]; rfl
  show (wsF fe x (c+d)).lw b < (evW (fe (c+d)) (x (c+d)) (c+d) (wsF fe x (c+d))).lw b
  cases fe (c+d) with
  | false=>have:=(Ajm (x (c+d)) (c+d) (wsF fe x (c+d))).1; rw [h1] at this; omega
  | true=>have:=(Ajl (x (c+d)) (c+d) (wsF fe x (c+d))).1; rw [h1] at this; omega
 ·have h1:toN (x (c+d)).th = b:=by rw [(hm d hd).2.1]; rfl
  obtain ⟨k1,k2⟩:=hst d hd
  refine ⟨(hm d hd).2.1,(hm d hd).2.2,AbY (hdir (c+d) (by omega)) (wsF fe x (c+d)),?_⟩
  rw [<- hfe d hd]
  rw [show wsF fe x (c+(d+1)) = evW (fe (c+d)) (x (c+d)) (c+d) (wsF fe x (c+d)) from rfl] at k1 k2 ⊢
  generalize fe (c+d) = F at k1 k2 ⊢
  cases F with
  | false =>
   have hh:=Ajm (x (c+d)) (c+d) (wsF fe x (c+d))
   rw [h1] at hh
   refine .inl ⟨rfl,hh.1,?_⟩
   rw [k2 _ (by rw [hh.1]; exact Nat.lt_succ_self _),hh.2]
  | true =>
   have hh:=Ajl (x (c+d)) (c+d) (wsF fe x (c+d))
   rw [h1] at hh
   refine .inr ⟨rfl,hh.1,?_,?_⟩
   ·rw [k2 _ (by rw [hh.1]; omega),hh.2.1]
   ·rw [k2 _ (by rw [hh.1]; omega),hh.2.2]
end Go.Proofs.Ytjhnfomefcngfaa.Sh
namespace Go.Proofs.Ytjhnfomefcngfaa.Sh
open Go.Sy Ed
set_option maxHeartbeats 1000000
set_option maxRecDepth 4000
def C1 (a:Int) (n:Nat) (g:Nat->E6) (m:Nat) (x:Nat->Ev5) (t k:Int) (p:Nat) (r:Nat->Int) (q:Nat) (ln:Nat->Nat) (co:Nat->Nat->Int):Int:=bif ieq (Fo a n g m x t k p r q ln co) 0 then (bif ieq a 1 then 0 else 5) else 70
def Uf:List V->T (V × List Blk)
 | [v]=>apS v λs=>.br (AN s.ne) (.br (Hw s) (.leaf (iV (C1 s.arch s.ne s.E s.nx s.X s.tt s.kk s.nr s.R s.nc (λi=>(s.C i).1) (λi=>(s.C i).2)),[])) .fail) .fail
 | _=>.fail
def lwX (a:Int) (n:Nat) (g:Nat->E6) (m:Nat) (x:Nat->Ev5) (t k:Int) (p:Nat) (r:Nat->Int) (q:Nat) (ln:Nat->Nat) (co:Nat->Nat->Int):Nat->Nat:=(wsS ⟨a,n,g,m,x,t,k,p,r,q,λu=>(ln u,co u)⟩).lw
def cwX (a:Int) (n:Nat) (g:Nat->E6) (m:Nat) (x:Nat->Ev5) (t k:Int) (p:Nat) (r:Nat->Int) (q:Nat) (ln:Nat->Nat) (co:Nat->Nat->Int):Nat->Nat->In4:=(wsS ⟨a,n,g,m,x,t,k,p,r,q,λu=>(ln u,co u)⟩).cw
def yyX (a:Int) (n:Nat) (g:Nat->E6) (m:Nat) (x:Nat->Ev5) (t k:Int) (p:Nat) (r:Nat->Int) (q:Nat) (ln:Nat->Nat) (co:Nat->Nat->Int):Nat->Int:=(wsS ⟨a,n,g,m,x,t,k,p,r,q,λu=>(ln u,co u)⟩).y
def wrX (a:Int) (n:Nat) (g:Nat->E6) (m:Nat) (x:Nat->Ev5) (t k:Int) (p:Nat) (r:Nat->Int) (q:Nat) (ln:Nat->Nat) (co:Nat->Nat->Int):Bool:=wrB ⟨a,n,g,m,x,t,k,p,r,q,λu=>(ln u,co u)⟩
def Pa:List V->T (V × List Blk)
 | [v]=>apS v λs=>.br (wrX s.arch s.ne s.E s.nx s.X s.tt s.kk s.nr s.R s.nc (λi=>(s.C i).1) (λi=>(s.C i).2)) (.leaf (.tup [.jref 0,.ref 1],[.jag ⟨64,1,toN s.tt,λ_=>.und,0,66,8,λ_=>true,lwX s.arch s.ne s.E s.nx s.X s.tt s.kk s.nr s.R s.nc (λi=>(s.C i).1) (λi=>(s.C i).2),λu j=>inV (cwX s.arch s.ne s.E s.nx s.X s.tt s.kk s.nr s.R s.nc (λi=>(s.C i).1) (λi=>(s.C i).2) u j)⟩,.row 3 1 s.nx (λi=>iV (yyX s.arch s.ne s.E s.nx s.X s.tt s.kk s.nr s.R s.nc (λi=>(s.C i).1) (λi=>(s.C i).2) i))])) .fail
 | _=>.fail
theorem Akh:AA Try.prog Gl 75 Pa:=p75
def codeT:List V->T (V × List Blk)
 | [v]=>apS v λs=>.br (AN s.ne) (.br (Hw s) (.br (ieq (C1 s.arch s.ne s.E s.nx s.X s.tt s.kk s.nr s.R s.nc (λi=>(s.C i).1) (λi=>(s.C i).2)) 0) (.br (wrX s.arch s.ne s.E s.nx s.X s.tt s.kk s.nr s.R s.nc (λi=>(s.C i).1) (λi=>(s.C i).2)) (.leaf (.tup [.jref 0,iV 0],[.jag ⟨64,1,toN s.tt,λ_=>.und,0,66,8,λ_=>true,lwX s.arch s.ne s.E s.nx s.X s.tt s.kk s.nr s.R s.nc (λi=>(s.C i).1) (λi=>(s.C i).2),λu j=>inV (cwX s.arch s.ne s.E s.nx s.X s.tt s.kk s.nr s.R s.nc (λi=>(s.C i).1) (λi=>(s.C i).2) u j)⟩])) .fail)
  (.leaf (.tup [.jref 0,iV (C1 s.arch s.ne s.E s.nx s.X s.tt s.kk s.nr s.R s.nc (λi=>(s.C i).1) (λi=>(s.C i).2))],[.jag ⟨64,1,0,λ_=>.und,0,66,8,λ_=>true,λ_=>0,λ_ _=>.und⟩]))) .fail) .fail
 | _=>.fail
def Zx:List V->T (V × List Blk)
 | [v]=>apL v λn f=>.br (AN n) (.br (ieq (BS 1 n f) 0) (.leaf (.tup [Qn 1 n (shG n f),bV true],Qo n (shG n f))) (.leaf (.tup [noV,bV false],noH))) .fail
 | _=>.fail
noncomputable def RG:List (Nat × (List V->T (V × List Blk))):=[(25,Rv)]
theorem XK:AC Try.prog Gl RG:=.cons AiN .nil
noncomputable def XP:List (Nat × (List V->T (V × List Blk))):=[(74,Uf),(75,Pa)]
noncomputable def tb41:List (Nat × (List V->T (V × List Blk))):=[(15,ofT)]
theorem tb41_ok:AC Try.prog Gl tb41:=.cons p15 .nil
section
variable (L:LT) (a:Int) (n:Nat) (g:Nat->E6) (m:Nat) (x:Nat->Ev5) (t k:Int) (p:Nat) (r:Nat->Int) (q:Nat) (ln:Nat->Nat) (co:Nat->Nat->Int)
include L a n g m x t k p r q ln co
theorem AjB (h21:Ay q (λi=>Ay (ln i) (λ_=>true)) = true) (h22:AN n = true) (h23:Ai n = true) (h24:Ai m = true) (h25:Ai p = true) (h26:Ai q = true) (h27:Ay q (λi=>Ai (ln i)) = true) (h28:ieq (Fo a n g m x t k p r q ln (λi i_1=>co i i_1)) 0 = false):(A2 (An tab ⟨Aq RG,L,Gl⟩ Try.f74 [.agg (shL a n g m x t k p r q ln co)] [])).sem = some ((iV 70),[]):=Aa (bbK 7 127) [Ay n (λ_=>true),Ay m (λ_=>true),Ay p (λ_=>true),Ay q (λi=>Ay (ln i) (λ_=>true)),AN n,Af (Ai n) (Af (Ai m) (Af (Ai p) (Af (Ai q) (Ay q (λi=>Ai (ln i)))))),Ah (ieq (Fo a n g m x t k p r q ln (λi i_1=>co i i_1)) 0)] (by kernel_rfl) (by simp only [*,Ax] <;> rfl)
theorem AjC (h22:Ay q (λi=>Ay (ln i) (λ_=>true)) = true) (h23:AN n = true) (h24:Ai n = true) (h25:Ai m = true) (h26:Ai p = true) (h27:Ai q = true) (h28:Ay q (λi=>Ai (ln i)) = true) (h29:ieq (Fo a n g m x t k p r q ln (λi i_1=>co i i_1)) 0 = true) (h0:ieq a 1 = false):(A2 (An tab ⟨Aq RG,L,Gl⟩ Try.f74 [.agg (shL a n g m x t k p r q ln co)] [])).sem = some ((iV 5),[]):=Aa (bbK 8 191) [Ay n (λ_=>true),Ay m (λ_=>true),Ay p (λ_=>true),Ay q (λi=>Ay (ln i) (λ_=>true)),AN n,Af (Ai n) (Af (Ai m) (Af (Ai p) (Af (Ai q) (Ay q (λi=>Ai (ln i)))))),Ah (ieq (Fo a n g m x t k p r q ln (λi i_1=>co i i_1)) 0),Ah (ieq a 1)] (by kernel_rfl) (by simp only [*,Ax] <;> rfl)
theorem AjA (h22:Ay q (λi=>Ay (ln i) (λ_=>true)) = true) (h23:AN n = true) (h24:Ai n = true) (h25:Ai m = true) (h26:Ai p = true) (h27:Ai q = true) (h28:Ay q (λi=>Ai (ln i)) = true) (h29:ieq (Fo a n g m x t k p r q ln (λi i_1=>co i i_1)) 0 = true) (h0:ieq a 1 = true):(A2 (An tab ⟨Aq RG,L,Gl⟩ Try.f74 [.agg (shL a n g m x t k p r q ln co)] [])).sem = some ((iV 0),[]):=Aa (bbK 8 63) [Ay n (λ_=>true),Ay m (λ_=>true),Ay p (λ_=>true),Ay q (λi=>Ay (ln i) (λ_=>true)),AN n,Af (Ai n) (Af (Ai m) (Af (Ai p) (Af (Ai q) (Ay q (λi=>Ai (ln i)))))),Ah (ieq (Fo a n g m x t k p r q ln (λi i_1=>co i i_1)) 0),Ah (ieq a 1)] (by kernel_rfl) (by simp only [*,Ax] <;> rfl)
end
theorem p74:AA Try.prog Gl 74 Uf:=by
 refine A5 AQ AR Try.func74 (by kernel_rfl) (by kernel_rfl) λvs v h' h=>?_
 unfold Uf at h
 split at h
 ·rename_i v1
  obtain ⟨s,a1,h⟩:=FX h
  obtain ⟨hf,h⟩:=Ag h
  obtain ⟨hn,h⟩:=Ag h
  obtain ⟨a,n,g,m,x,t,k,p,r,q,C⟩:=s
  obtain ⟨ln,co,hC⟩:∃ (ln:Nat->Nat) (co:Nat->Nat->Int),C = λu=>(ln u,co u):=⟨λu=>(C u).1,λu=>(C u).2,rfl⟩
  subst hC
  have hA:BL [v1] [.agg (shL a n g m x t k p r q ln co)]:=λS w cs hv=>by
   obtain ⟨c,l,rfl,q1,q2⟩:=hv
   exact ⟨c,_,rfl,a1 S w c q1,q2⟩
  have hn:Ai n = true ∧ Ai m = true ∧ Ai p = true ∧ Ai q = true ∧ (Ay q λi=>Ai (ln i)) = true:=by simpa [Hw,Af] using hn
  obtain ⟨n1,n2,n3,n4,n5⟩:=hn
  have:=Ac h
  simp only [Prod.mk.injEq] at this
  obtain ⟨rfl,rfl⟩:=this
  have hx:=AS XK [] (G:=Gl)
  refine ⟨_,AT Gl RG [],_,hA,rfl,hx.1,hx.2,?_,AE.refl _⟩
  show _ = some (iV (C1 a n g m x t k p r q ln co),_)
  unfold C1
  cases hc:ieq (Fo a n g m x t k p r q ln co) 0 with
  | false=>exact AjB _ a n g m x t k p r q ln co (KU () ()) hf n1 n2 n3 n4 n5 hc
  | true =>
   cases ha:ieq a 1 with
   | false=>exact AjC _ a n g m x t k p r q ln co (KU () ()) hf n1 n2 n3 n4 n5 hc ha
   | true=>exact AjA _ a n g m x t k p r q ln co (KU () ()) hf n1 n2 n3 n4 n5 hc ha
 ·cases h
theorem AaL:AC Try.prog Gl XP:=.cons p74 <| .cons Akh .nil
section
variable (L:LT) (a:Int) (n:Nat) (g:Nat->E6) (m:Nat) (x:Nat->Ev5) (t k:Int) (p:Nat) (r:Nat->Int) (q:Nat) (ln:Nat->Nat) (co:Nat->Nat->Int)
include L a n g m x t k p r q ln co
theorem AjJ (h21:Ay q (λi=>Ay (ln i) (λ_=>true)) = true) (h22:AN n = true) (h23:Ai n = true) (h24:Ai m = true) (h25:Ai p = true) (h26:Ai q = true) (h27:Ay q (λi=>Ai (ln i)) = true) (h28:ieq (C1 a n g m x t k p r q ln (λi i_1=>co i i_1)) 0 = false):(A2 (An tab ⟨Aq XP,L,Gl⟩ Try.f42 [.agg (shL a n g m x t k p r q ln co)] [])).sem = some ((.tup [.jref 0,iV (C1 a n g m x t k p r q ln (λi i_1=>co i i_1))]),[.jag (Jag.mk 64 1 0 (λ_=>.und) 0 66 8 (λ_=>true) (λ_=>0) (λ_ _=>.und))]):=Aa (bbK 7 127) [Ay n (λ_=>true),Ay m (λ_=>true),Ay p (λ_=>true),Ay q (λi=>Ay (ln i) (λ_=>true)),AN n,Af (Ai n) (Af (Ai m) (Af (Ai p) (Af (Ai q) (Ay q (λi=>Ai (ln i)))))),Ah (ieq (C1 a n g m x t k p r q ln (λi i_1=>co i i_1)) 0)] (by kernel_rfl) (by simp only [*,Ax] <;> rfl)
theorem AjI (h21:Ay q (λi=>Ay (ln i) (λ_=>true)) = true) (h22:AN n = true) (h23:Ai n = true) (h24:Ai m = true) (h25:Ai p = true) (h26:Ai q = true) (h27:Ay q (λi=>Ai (ln i)) = true) (h28:ieq (C1 a n g m x t k p r q ln (λi i_1=>co i i_1)) 0 = true) (h29:wrX a n g m x t k p r q ln (λi i_1=>co i i_1) = true):(A2 (An tab ⟨Aq XP,L,Gl⟩ Try.f42 [.agg (shL a n g m x t k p r q ln co)] [])).sem = some ((.tup [.jref 0,iV 0]),[.jag (Jag.mk 64 1 (toN t) (λ_=>.und) 0 66 8 (λ_=>true) (lwX a n g m x t k p r q ln (λi i_1=>co i i_1)) (λu j=>.agg [iV ((cwX a n g m x t k p r q ln (λi i_1=>co i i_1) u j)).op,iV ((cwX a n g m x t k p r q ln (λi i_1=>co i i_1) u j)).d,iV 0,iV 0,iV ((cwX a n g m x t k p r q ln (λi i_1=>co i i_1) u j)).imm,.str ((cwX a n g m x t k p r q ln (λi i_1=>co i i_1) u j)).loc,.str [],iV 0]))]):=Aa (bbK 12 4031) ((λc0 c1 c2 c3=>[c0,c1,c2,c3,AN n,Af (Ai n) (Af (Ai m) (Af (Ai p) (Af (Ai q) (Ay q (λi=>Ai (ln i)))))),Ah (ieq (C1 a n g m x t k p r q ln (λi i_1=>co i i_1)) 0),c0,c1,c2,c3,wrX a n g m x t k p r q ln (λi i_1=>co i i_1)]) (Ay n (λ_=>true)) (Ay m (λ_=>true)) (Ay p (λ_=>true)) (Ay q (λi=>Ay (ln i) (λ_=>true)))) (by kernel_rfl) (by simp only [*,Ax] <;> rfl)
end
theorem p42:AA Try.prog Gl 42 codeT:=by
 refine A5 AQ AR Try.func42 (by kernel_rfl) (by kernel_rfl) λvs v h' h=>?_
 unfold codeT at h
 split at h
 ·rename_i v1
  obtain ⟨s,a1,h⟩:=FX h
  obtain ⟨hf,h⟩:=Ag h
  obtain ⟨hn,h⟩:=Ag h
  obtain ⟨a,n,g,m,x,t,k,p,r,q,C⟩:=s
  obtain ⟨ln,co,hC⟩:∃ (ln:Nat->Nat) (co:Nat->Nat->Int),C = λu=>(ln u,co u):=⟨λu=>(C u).1,λu=>(C u).2,rfl⟩
  subst hC
  have hA:BL [v1] [.agg (shL a n g m x t k p r q ln co)]:=λS w cs hv=>by
   obtain ⟨c,l,rfl,q1,q2⟩:=hv
   exact ⟨c,_,rfl,a1 S w c q1,q2⟩
  have hn:Ai n = true ∧ Ai m = true ∧ Ai p = true ∧ Ai q = true ∧ (Ay q λi=>Ai (ln i)) = true:=by simpa [Hw,Af] using hn
  obtain ⟨n1,n2,n3,n4,n5⟩:=hn
  have hx:=AS AaL [] (G:=Gl)
  cases hc:ieq (C1 a n g m x t k p r q ln co) 0 with
  | false =>
   simp only [hc,T.sem,sel,cond_false,Option.some.injEq,Prod.mk.injEq] at h
   obtain ⟨rfl,rfl⟩:=h
   exact ⟨_,AT Gl XP [],_,hA,rfl,hx.1,hx.2,AjJ _ a n g m x t k p r q ln co (KU () ()) hf n1 n2 n3 n4 n5 hc,AE.refl _⟩
  | true =>
   simp only [hc] at h
   obtain ⟨hw,h⟩:=Ag h
   have:=Ac h
   simp only [Prod.mk.injEq] at this
   obtain ⟨rfl,rfl⟩:=this
   exact ⟨_,AT Gl XP [],_,hA,rfl,hx.1,hx.2,AjI _ a n g m x t k p r q ln co (KU () ()) hf n1 n2 n3 n4 n5 hc hw,AE.refl _⟩
 ·cases h
section
variable (L:LT) (n:Nat) (f:Nat->E6)
include L n f
theorem AjL (h21:AN n = true) (h0:ieq (BS 1 n f) 0 = false):(A2 (An tab ⟨Aq tb41,L,Gl⟩ Try.f41 [.sl 6 n λi=>eV (f i)] [])).sem = some ((.tup [.agg [iV 0,.ref 0,.ref 1,iV 0,iV 0,.ref 2,.jref 3],bV (ieq (BS 1 n f) 0)]),[.row 44 6 0 (λ_=>.und),.row 40 5 0 (λ_=>.und),r3Z,jgZ]):=Aa [true,true,false] [Ay n (λ_=>true),AN n,ieq (BS 1 n f) 0] (by kernel_rfl) (by simp only [h21,h0,Ax] <;> rfl)
theorem AjK (h21:AN n = true) (h0:ieq (BS 1 n f) 0 = true):(A2 (An tab ⟨Aq tb41,L,Gl⟩ Try.f41 [.sl 6 n λi=>eV (f i)] [])).sem = some ((.tup [.agg [iV 1,.ref 0,.ref 1,iV (Int.ofNat (ttN n (shG n f))),iV (Int.ofNat (kkN n (shG n f))),.ref 2,.jref 3],bV (ieq 0 0)]),[.row 44 6 n (λi=>eV (shG n f i)),.row 40 5 n (λi=>evV (evF n (shG n f) (λ_=>true) i)),.row 3 1 n (λi=>iV (rfF n (shG n f) (λ_=>true) i)),.jag (Jag.mk 25 1 (kkN n (shG n f)) (λ_=>.und) 0 3 1 (λ_=>true) (lnN (mbF (shG n f)) (wrF (shG n f)) n) (λk i=>iV (Int.ofNat (coN (mbF (shG n f)) (wrF (shG n f)) n k i))))]):=Aa [true,true,true] [Ay n (λ_=>true),AN n,ieq (BS 1 n f) 0] (by kernel_rfl) (by simp only [h21,h0,Ax] <;> rfl)
end
theorem Akj:AA Try.prog Gl 41 Zx:=by
 refine A5 AQ AR Try.func41 (by kernel_rfl) (by kernel_rfl) λvs v h' h=>?_
 unfold Zx at h
 split at h
 ·rename_i u
  obtain ⟨n,f,ha,h1⟩:=Cl h
  obtain ⟨hf,h1⟩:=Ag h1
  have hA:BL [u] [.sl 6 n λi=>eV (f i)]:=λS w cs hv=>by
   obtain ⟨c,l,rfl,q1,q2⟩:=hv
   exact ⟨c,_,rfl,ha S w c q1,q2⟩
  have hx:=AS tb41_ok [] (G:=Gl)
  refine ⟨_,AT Gl tb41 [],_,hA,rfl,hx.1,hx.2,?_,AE.refl _⟩
  cases hc:ieq (BS 1 n f) 0 with
  | false =>
   simp only [hc,T.sem,sel,cond_false,Option.some.injEq,Prod.mk.injEq] at h1
   obtain ⟨rfl,rfl⟩:=h1
   have:=AjL (AZ []) n f hf hc
   rw [hc] at this
   exact this
  | true =>
   simp only [hc,T.sem,sel,cond_true,Option.some.injEq,Prod.mk.injEq] at h1
   obtain ⟨rfl,rfl⟩:=h1
   exact AjK _ n f hf hc
 ·cases h
end Go.Proofs.Ytjhnfomefcngfaa.Sh
