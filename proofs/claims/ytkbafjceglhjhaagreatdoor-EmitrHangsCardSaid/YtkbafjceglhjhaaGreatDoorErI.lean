/-
  Layer 12, plain: the law EmitrHangs: each event's code takes one on to the next event; a thread's code, all threads'. No program here, no conditions.
-/
import Derived.Test.YtkbafjceglhjhaaGreatDoorErF
import Derived.Test.YtkbafjceglhjhaaGreatDoorEdX
import Derived.Shelf.Strings.OnBuilder
import Derived.Test.YtkbafjceglhjhaaGreatDoorCyT
import Derived.Test.YtkbafjceglhjhaaGreatDoorErD
namespace Go.Proofs.YtkbafjceglhjhaaGreatDoor.Er
open Go.Sy Go Go.Proofs.YtkbafjceglhjhaaGreatDoor.Ed Go.Proofs.YtkbafjceglhjhaaGreatDoor.Sh
open Int (ofNat)
set_option maxRecDepth 100000
set_option maxHeartbeats 1000000
section
variable {s:Sh7} (hg:Gs s) {i:Nat} (hi:i<s.nx)
def aS (s:Sh7) (b i:Nat):A6:=⟨-1,-1,ofNat b,ofNat i⟩
theorem m1:ile 0 (-1)=false:=rfl
include hg hi
theorem nxt:wr .i64 (Ah (ofNat i) 1)=ofNat (i+1):=E2 hi (by have:=hg.hi; omega)
theorem Qg {c m:Int} {b:Nat} (w:Md6 s ⟨c,m,ofNat b,ofNat i⟩) (a:Int):Run6 s [lwI s i a] ⟨c,m,ofNat b,ofNat i⟩ (aS s b (i+1))∧Run6 s [or0 s i,swI a] ⟨c,m,ofNat b,ofNat i⟩ (aS s b (i+1)):=by
 have h:=Stp6.m (s:=s) (I:=lwI s i a) (.inl rfl) (YQ hg hi c m (ofNat b)) w;have h':=Stp6.m (s:=s) (I:=swI a) (.inr rfl) (YQ hg hi c m (ofNat b)) w;rw [nxt hg hi] at h h';exact ⟨.cons h (.nil _),.cons (.o (.inr (.inr (.inr rfl)))) (.cons h' (.nil _))⟩
theorem Pb {c m:Int} {b:Nat} (w:Md6 s ⟨c,m,ofNat b,ofNat i⟩) (h7:ieq (ed9 s i).kind 7=false) (a:Int):Run6 s (tl9 s i a).flatten ⟨c,m,ofNat b,ofNat i⟩ (aS s b (i+1)):=by
 unfold tl9;rw [h7];cases ieq (s.X i).dir 1 with
 | true=>exact (Qg hg hi w a).1
 | false=>exact (Qg hg hi w a).2
theorem Aa0:Run6 s (El s i).flatten (aS s (lbN s i) i) (aS s (lbN s (i+1)) (i+1)):=by
 have hok:=hg.ok _ (Ya hg (i:=i));unfold AbI at hok;simp only [Bool.and_eq_true] at hok;obtain ⟨_,hk,hd⟩:=hok;have hn:∀ {k:Bool},(ieq (s.E (pvN s i)).kind 6 || (ieq (s.E (pvN s i)).kind 7 || ieq (s.E (pvN s i)).kind 8))=k->k=true->(s.E (pvN s i)).src=1∧obE s (pvN s i)=false:=λh h'=>by
  subst h';rw [h] at hk;simp only [Bool.not_true,bFO,Bool.and_eq_true,Bool.not_eq_true'] at hk;exact ⟨Ck hk.1,hk.2⟩
 have hP:=Ac8 hg hi;by_cases h0:0<i∧obE s (i-1)=false
 ·obtain ⟨h0,hob⟩:=h0
  have hpl:=AiB hg h0 hob hi;have hpv:=Ms h0 hi;have hed:=AhV hg h0 hi;have hmt:=hg.meets _ (Ya hg (i:=i));rw [AaG hg hi,<- hg.dir i hi] at hmt;have hE:ed9 s i=s.E (pvN s i):=hed.trans hP;have pk:∀ j,ieq (pe6 s (ofNat i)).kind j=ieq (ed9 s i).kind j:=λj=>by rw [hed]
  unfold El;rw [hpl];cases k5:ieq (ed9 s i).kind 5 with
  | true =>
   have hk5:=Ck k5;have hl:lbN s (i+1)=lbN s i:=by rw [lbN,hpl,k5]; rfl
   have w:Md6 s (aS s (lbN s i) i):=.n ((pk 8).trans (CG hk5)) ((pk 6).trans (CG hk5)) ((pk 7).trans (CG hk5)) m1 m1;rw [hl];exact .cons (.o (.inl rfl)) (Pb hg hi w (CG hk5) _)
  | false =>
   cases k8:ieq (ed9 s i).kind 8 with
   | true =>
    have hk8:=Ck k8;obtain ⟨hs,_⟩:=hn (k:=true) (by rw [<- hE,hk8]; rfl) rfl;rw [hpv] at hs;obtain ⟨r1,r2⟩:=XR hg h0 hob hi hs;have hl:lbN s (i+1)=lbN s i+1:=by rw [lbN,hpl,k5,k8]; rfl
    have hb:wr .i64 (Ah (ofNat (lbN s i)) 1)=ofNat (lbN s i+1):=E2 (n:=100) (by have:=Vb s i; have:=hg.hi; omega) (by decide);have w:Md6 s ⟨rP9 s i,-1,ofNat (lbN s i+1),ofNat i⟩:=.c ((pk 8).trans (k8)) ((pk 6).trans (CG hk8)) ((pk 7).trans (CG hk8)) r2 m1 (by rw [r1]; exact eI _);have key:∀ t,Run6 s ([bnI s i t,lbI t]::tl9 s i (at9 s i)).flatten (aS s (lbN s i) i) (aS s (lbN s (i+1)) (i+1)):=λt=>by
     have hB:=Stp6.b (s:=s) (I:=bnI s i t) (a:=aS s (lbN s i) i) rfl;rw [show (aS s (lbN s i) i).b=ofNat (lbN s i) from rfl,hb] at hB;rw [hl];exact .cons hB (.cons (.o (.inr (.inl rfl))) (Pb hg hi w (CG hk8) _))
    show Run6 s (bif ieq (ofNat (Iz (Da (ofNat (lbN s i))))) 1 then _ else _:List (List In8)).flatten _ _;cases ieq (ofNat (Iz (Da (ofNat (lbN s i))))) 1 with
    | true=>exact key _
    | false=>exact key _
   | false =>
    have hl:lbN s (i+1)=lbN s i:=by rw [lbN,hpl,k5,k8]; rfl
    rw [hl];cases k6:ieq (ed9 s i).kind 6 with
    | true =>have hk6:=Ck k6;obtain ⟨hs,_⟩:=hn (k:=true) (by rw [<- hE,hk6]; rfl) rfl;rw [hpv] at hs;obtain ⟨r1,r2⟩:=XR hg h0 hob hi hs;have w:Md6 s ⟨-1,rP9 s i,ofNat (lbN s i),ofNat i⟩:=.a ((pk 8).trans (k8)) ((pk 6).trans (k6)) m1 r2 (by rw [r1]; exact eI _);exact .cons (.x rfl rfl) (.cons (.o (.inr (.inr (.inl rfl)))) (Pb hg hi w (CG hk6) _))
    | false =>
     cases k7:ieq (ed9 s i).kind 7 with
     | false =>have w:Md6 s (aS s (lbN s i) i):=.n ((pk 8).trans (k8)) ((pk 6).trans (k6)) ((pk 7).trans (k7)) m1 m1;exact Pb hg hi w k7 _
     | true =>
      have hk7:=Ck k7;obtain ⟨hs,_⟩:=hn (k:=true) (by rw [<- hE,hk7]; rfl) rfl;rw [hpv] at hs;obtain ⟨r1,r2⟩:=XR hg h0 hob hi hs;have w:Md6 s ⟨-1,rP9 s i,ofNat (lbN s i),ofNat i⟩:=.d ((pk 8).trans (k8)) ((pk 6).trans (k6)) ((pk 7).trans (k7)) m1 r2 (by rw [r1]; exact eI _);rw [<- hE,k7] at hd;simp only [Bool.not_true,bFO] at hd;have hdst:(s.X i).dir=2:=by
       rw [<- hmt,<- hE];exact Ck hd
      have hd1:ieq (s.X i).dir 1=false:=CG hdst;have h':=Stp6.m (s:=s) (I:=swI (at9 s i)) (.inr rfl) (YQ hg hi (-1) (rP9 s i) (ofNat (lbN s i))) w;rw [nxt hg hi] at h';show Run6 s (tl9 s i (at9 s i)).flatten _ _;unfold tl9;rw [hd1,k7];exact .cons (.x rfl rfl) (.cons (.o (.inr (.inr (.inr rfl)))) (.cons h' (.nil _)))
 ·have hpl:ilt 0 (s.X i).pl=false:=AgU hg (by
   by_cases h1:i=0
   ·exact .inl h1
   ·refine .inr ?_
    cases hob:obE s (i-1) with
    | true=>rfl
    | false=>exact absurd ⟨by omega,hob⟩ h0) hi
  have hob:obE s (pvN s i)=true:=by
   by_cases h1:i=0
   ·subst h1
    have:=hg.lo;have e:pvN s 0=s.nx-1:=by
     unfold pvN;rw [show 0+s.nx-1=s.nx-1 by omega,Nat.mod_eq_of_lt (by omega)]
    rw [e];exact hg.last
   ·rw [Ms (by omega) hi]
    cases hob:obE s (i-1) with
    | true=>rfl
    | false=>exact absurd ⟨by omega,hob⟩ h0
  have hk:(ieq (s.E (pvN s i)).kind 6 || (ieq (s.E (pvN s i)).kind 7 || ieq (s.E (pvN s i)).kind 8))=false:=by
   cases hc:(ieq (s.E (pvN s i)).kind 6 || (ieq (s.E (pvN s i)).kind 7 || ieq (s.E (pvN s i)).kind 8)) with
   | false=>rfl
   | true =>have:=(hn hc rfl).2;rw [hob] at this;cases this
  simp only [Bool.or_eq_false_iff] at hk;have hl:lbN s (i+1)=lbN s i:=by rw [lbN,hpl]; rfl
  have w:Md6 s (aS s (lbN s i) i):=.n (by rw [show (aS s (lbN s i) i).q=ofNat i from rfl,hP]; exact hk.2.2) (by rw [show (aS s (lbN s i) i).q=ofNat i from rfl,hP]; exact hk.1) (by rw [show (aS s (lbN s i) i).q=ofNat i from rfl,hP]; exact hk.2.1) m1 m1;unfold El;rw [hpl,hl];show Run6 s (bif ieq (s.X i).dir 1 then [[lwI s i (at9 s i)]] else [[or0 s i],[swI (at9 s i)]]:List (List In8)).flatten _ _;cases ieq (s.X i).dir 1 with
  | true=>exact (Qg hg hi w _).1
  | false=>exact (Qg hg hi w _).2
end
section
variable {s:Sh7} (hg:Gs s)
def ltT (s:Sh7) (u k:Nat):Bool:=Nat.blt (tN s k) u
def eqT (s:Sh7) (u k:Nat):Bool:=Nat.beq u (tN s k)
def q0 (s:Sh7) (u:Nat):Nat:=Ai (ltT s u) s.nx
theorem UB (s:Sh7) {i k:Nat} (h:i <= k):tN s i <= tN s k:=AT _ h
theorem V8 (s:Sh7) (u:Nat):∀ m,(∀ k,k<m->tN s k <= u)->Ai (ltT s u) m+Ai (eqT s u) m=m
 | 0,_=>rfl
 | m+1,h=>by
  have ih:=V8 s u m λk hk=>h k (by omega);have hm:=h m (by omega);by_cases e:tN s m=u
  ·rw [B0 (p:=ltT s u) (i:=m) (by
    unfold ltT;cases hb:Nat.blt (tN s m) u with
    | false=>rfl
    | true=>have:=Nat.le_of_ble_eq_true hb; omega),Bs (p:=eqT s u) (i:=m) (by unfold eqT; rw [e]; exact Nat.beq_refl u)]
   omega
  ·rw [Bs (p:=ltT s u) (i:=m) (Nat.ble_eq_true_of_le (by show tN s m+1 <= u; omega)),B0 (p:=eqT s u) (i:=m) (by
    unfold eqT;cases hb:Nat.beq u (tN s m) with
    | false=>rfl
    | true=>have:=Nat.eq_of_beq_eq_true hb; omega)]
   omega
theorem Nw {p:Nat->Bool} {m:Nat}:∀ n,m <= n->(∀ k,m <= k->k<n->p k=false)->Ai p n=Ai p m
 | 0,h,_=>by rw [Nat.le_zero.1 h]
 | n+1,h,hp=>by
  by_cases e:m=n+1
  ·rw [e]
  ·rw [B0 (hp n (by omega) (by omega))]
   exact Nw n (by omega) λk h1 h2=>hp k h1 (by omega)
theorem AgS {u m:Nat} (hm:m<s.nx) (h:tN s m=u):q0 s u+Ai (eqT s u) m=m:=by
 have h1:q0 s u=Ai (ltT s u) m:=Nw _ (by omega) λk h1 h2=>by
  have:=UB s h1;unfold ltT;cases hb:Nat.blt (tN s k) u with
  | false=>rfl
  | true=>have:=Nat.le_of_ble_eq_true hb; omega
 rw [h1];exact V8 s u m λk hk=>by
  have:=UB s (show k <= m by omega);omega
theorem Sl (s:Sh7) (u:Nat):∀ n,Ai (ltT s (u+1)) n=Ai (ltT s u) n+Ai (eqT s u) n
 | 0=>rfl
 | n+1=>by
  have ih:=Sl s u n;have e:∀ p:Nat->Bool,Ai p (n+1)=Ai p n+(bif p n then 1 else 0):=λp=>by
   cases h:p n with
   | true=>rw [Bs h]; rfl
   | false=>rw [B0 h]; rfl
  rw [e,e,e,ih];have:(bif ltT s (u+1) n then 1 else 0)=(bif ltT s u n then 1 else 0)+(bif eqT s u n then 1 else 0):=by
   unfold ltT eqT;rcases Nat.lt_trichotomy (tN s n) u with h | h | h
   ·rw [show Nat.blt (tN s n) (u+1)=true from Nat.ble_eq_true_of_le (by omega),show Nat.blt (tN s n) u=true from Nat.ble_eq_true_of_le h,show Nat.beq u (tN s n)=false from by
     cases hb:Nat.beq u (tN s n) with
     | false=>rfl
     | true=>have:=Nat.eq_of_beq_eq_true hb; omega]
    rfl
   ·rw [h,show Nat.blt u (u+1)=true from Nat.ble_eq_true_of_le (by omega),Nat.beq_refl,show Nat.blt u u=false from by
     cases hb:Nat.blt u u with
     | false=>rfl
     | true=>have:=Nat.le_of_ble_eq_true hb; omega]
    rfl
   ·rw [show Nat.blt (tN s n) (u+1)=false from by
     cases hb:Nat.blt (tN s n) (u+1) with
     | false=>rfl
     | true=>have:=Nat.le_of_ble_eq_true hb; omega,show Nat.blt (tN s n) u=false from by
     cases hb:Nat.blt (tN s n) u with
     | false=>rfl
     | true=>have:=Nat.le_of_ble_eq_true hb; omega,show Nat.beq u (tN s n)=false from by
     cases hb:Nat.beq u (tN s n) with
     | false=>rfl
     | true=>have:=Nat.eq_of_beq_eq_true hb; omega]
    rfl
  omega
theorem AaF (s:Sh7) (u:Nat):q0 s (u+1)=q0 s u+Ai (eqT s u) s.nx:=Sl s u s.nx
theorem AiA (s:Sh7):q0 s 0=0:=by
 unfold q0;rw [Nw (m:=0) _ (Nat.zero_le _) λk _ _=>by
  unfold ltT;cases hb:Nat.blt (tN s k) 0 with
  | false=>rfl
  | true=>have:=Nat.le_of_ble_eq_true hb; omega]
 rfl
include hg
theorem AeO:q0 s (toN s.tt)=s.nx:=by
 unfold q0;have:∀ m,m <= s.nx->Ai (ltT s (toN s.tt)) m=m:=λm=>by
  induction m with
  | zero=>intro _; rfl
  | succ m ih =>intro h;rw [Bs (p:=ltT s (toN s.tt)) (i:=m) (Nat.ble_eq_true_of_le (Acp hg (i:=m) (by omega))),ih (by omega)]
 exact this _ (Nat.le_refl _)
theorem Mc {u:Nat}:∀ m,m <= s.nx->Run6 s (cdL s m u) (aS s (lbN s (q0 s u)) (q0 s u)) (aS s (lbN s (q0 s u+Ai (eqT s u) m)) (q0 s u+Ai (eqT s u) m))
 | 0,_=>.nil _
 | m+1,h=>by
  have ih:=Mc (u:=u) m (by omega);rw [cdL,ZZ hg (by omega)];by_cases e:tN s m=u
  ·rw [show Nat.beq u (tN s m)=true from by rw [e]; exact Nat.beq_refl u,Bs (p:=eqT s u) (i:=m) (by unfold eqT; rw [e]; exact Nat.beq_refl u)]
   have hq:=AgS (s:=s) (show m<s.nx by omega) e;rw [hq] at ih;rw [show q0 s u+(Ai (eqT s u) m+1)=m+1 by omega];exact ih.app (Aa0 hg (by omega))
  ·have hb:Nat.beq u (tN s m)=false:=by
    cases hb:Nat.beq u (tN s m) with
    | false=>rfl
    | true=>have:=Nat.eq_of_beq_eq_true hb; omega
   rw [hb,B0 (p:=eqT s u) (i:=m) hb];exact ih
theorem Ti (u:Nat):Run6 s (cdL s s.nx u) (aS s (lbN s (q0 s u)) (q0 s u)) (aS s (lbN s (q0 s (u+1))) (q0 s (u+1))):=by
 have:=Mc hg (u:=u) s.nx (Nat.le_refl _);rw [<- AaF] at this;exact this
end
end Go.Proofs.YtkbafjceglhjhaaGreatDoor.Er
namespace Go.Sy
def Y2 (f:St->T (Ex×St)):Nat->St->T (Ex×St)
 | 0,_=>.fail
 | m+1,st=>(f st).bind λr=>match r.1 with
  | .nm=>Y2 f m r.2
  | .ex i=>.leaf (.ex i,r.2)
  | .rt=>.leaf (.rt,r.2)
theorem O6 {Γ:Cx0} {f:St->T (Ex×St)}:∀ {m:Nat} {st:St} {r:Ex×St},(Y2 f m st).sem=some r->LRun Γ f st r
 | 0,_,_,h=>by cases h
 | m+1,st,r,h=>by
  obtain ⟨⟨e,st1⟩,h1,h2⟩:=Af h;cases e with
  | nm=>exact .next h1 (LE.refl _) (O6 h2)
  | ex i =>have:=Aa h2;subst this;exact .stop h1 (by simp) (LE.refl _)
  | rt =>have:=Aa h2;subst this;exact .stop h1 (by simp) (LE.refl _)
def cxC (G:Nat->V) (tbl:AK):Cx:=⟨Az tbl,λ_ f st=>Y2 f 500 st,G⟩
theorem Um {P:Program} {G:Nat->V} {tbl:AK} (h:Ar P G tbl):Bg P (cxC G tbl).base∧Cg (cxC G tbl):=⟨F5 rfl h,λ_ _ _ _ hr=>O6 hr⟩
def KQ (τ:List Ty) (G:Nat->V) (tb:AK):List (Nat×Func)->AK
 | []=>tb
 | p::l=>(p.1,λvs=>A7 (An τ (cxC G (KQ τ G tb l)) p.2 vs []))::KQ τ G tb l
def Af0 (fn:Func):Bool:=fn.body.isSome && !(fn.name == "runtime.NumGoroutine")
inductive AllBody (P:Program):List (Nat×Func)->Prop where
 | nil:AllBody P []
 | cons {k:Nat} {fn:Func} {l:List (Nat×Func)} (hf:P.funcs[k]? = some fn) (hb:Af0 fn=true) (h:AllBody P l):AllBody P ((k,fn)::l)
theorem WP {P:Program} {τ:List Ty} (hτ:TabOK P τ) (hm:P.follows .mixedOrders=true) {G:Nat->V} {tb:AK} (ht:Ar P G tb) {l:List (Nat×Func)} (h:AllBody P l):Ar P G (KQ τ G tb l):=by
 induction h with
 | nil=>exact ht
 | cons hf hb h ih =>rename_i k fn l;have hb:=Bool.and_eq_true_iff.1 hb;exact .cons (AH hτ hm hf hb.1 (by simpa using hb.2) (Um ih)) ih
end Go.Sy
namespace Go.Proofs.YtkbafjceglhjhaaGreatDoor.Ed
open Go.Sy Go.Shelf Go.Proofs Go.RowKit
def Vd:Go.Shelf.Ren:=⟨λ| 156=>75 | 165=>116 | 166=>117 | 169=>118 | 240=>161 | 241=>162 | 276=>188 | 277=>189 | n=>n,λ| 31=>140 | 9=>9 | 3=>3 | 4=>4 | 0=>0 | 20=>20 | 72=>169 | 76=>173 | 70=>166 | 37=>167 | 75=>172 | 127=>201 | 164=>212 | 5=>5 | 80=>154 | n=>n,λ| n=>n⟩
theorem Rz:Go.Proofs.Lays.n156 Tryz.prog Vd:={
 mixed:=by kernel_rfl
 f156:=Tryz.func75.trans (congrArg some (by kernel_rfl))
 f165:=Tryz.func116.trans (congrArg some (by kernel_rfl))
 f166:=Tryz.func117.trans (congrArg some (by kernel_rfl))
 f169:=Tryz.func118.trans (congrArg some (by kernel_rfl))
 f240:=Tryz.func161.trans (congrArg some (by kernel_rfl))
 f241:=Tryz.func162.trans (congrArg some (by kernel_rfl))
 f276:=Tryz.func188.trans (congrArg some (by kernel_rfl))
 f277:=Tryz.func189.trans (congrArg some (by kernel_rfl))
 t0:=Tryz.underlying0
 a0:=Tryz.isAgg0
 z0:=Tryz.sizeOf0
 v0:=Tryz.zeroValue0
 t3:=Tryz.underlying3
 a3:=Tryz.isAgg3
 z3:=Tryz.sizeOf3
 v3:=Tryz.zeroValue3
 t4:=Tryz.underlying4
 a4:=Tryz.isAgg4
 z4:=Tryz.sizeOf4
 v4:=Tryz.zeroValue4
 t9:=Tryz.underlying9
 a9:=Tryz.isAgg9
 z9:=Tryz.sizeOf9
 v9:=Tryz.zeroValue9
 t20:=Tryz.underlying20
 a20:=Tryz.isAgg20
 z20:=Tryz.sizeOf20
 v20:=Tryz.zeroValue20
 t31:=Tryz.underlying140
 a31:=Tryz.isAgg140
 z31:=Tryz.sizeOf140
 v31:=Tryz.zeroValue140
 t37:=Tryz.underlying167
 a37:=Tryz.isAgg167
 z37:=Tryz.sizeOf167
 v37:=Tryz.zeroValue167
 t70:=Tryz.underlying166
 a70:=Tryz.isAgg166
 z70:=Tryz.sizeOf166
 v70:=Tryz.zeroValue166
 t72:=Tryz.underlying169
 a72:=Tryz.isAgg169
 z72:=Tryz.sizeOf169
 v72:=Tryz.zeroValue169
 t75:=Tryz.underlying172
 a75:=Tryz.isAgg172
 z75:=Tryz.sizeOf172
 v75:=Tryz.zeroValue172
 t76:=Tryz.underlying173
 a76:=Tryz.isAgg173
 z76:=Tryz.sizeOf173
 v76:=Tryz.zeroValue173
 t127:=Tryz.underlying201
 a127:=Tryz.isAgg201
 z127:=Tryz.sizeOf201
 v127:=Tryz.zeroValue201
 t164:=Tryz.underlying212
 a164:=Tryz.isAgg212
 z164:=Tryz.sizeOf212
 v164:=Tryz.zeroValue212 }
theorem OA:Builder.Extra Tryz.prog Vd:={
 sizeBuilder:=by kernel_rfl
 liesBuilder:=by kernel_rfl
 t5:=Tryz.underlying5
 a5:=Tryz.isAgg5
 z5:=Tryz.sizeOf5
 v5:=Tryz.zeroValue5
 infoByte:=by kernel_rfl
 cellsByte:=by kernel_rfl
 sizeByte:=by kernel_rfl
 neB5:=by decide }
open Go.RowKit in
theorem strings_Join_none (a:Option Addr) (c:Nat) (sep:ByteArray) (w:World) :
  Calls Tryz.prog 75 #[.slice a 0 c,.string sep] w λe w'=>e = .returned (.string ⟨#[]⟩)∧w'=w:=Any.strings_Join_none Rz OA a c sep w
open Go.RowKit in
theorem strings_Join (bk o c:Nat) (xs:List ByteArray) (sep:ByteArray) (w:World) (hcells:∀ (j:Nat) x,xs[j]? = some x->w.cell? ⟨bk,o+j,none⟩=some (.string x)) (hbk:bk<w.heap.size) (hN:xs.length <= 140737488355328) (hcap:xs.length <= c) (hlen:(Lib.join (xs.map (·.data.toList)) sep.data.toList).length <= 140737488355328) :
  Calls Tryz.prog 75 #[.slice (some ⟨bk,o,none⟩) xs.length c,.string sep] w λe w'=>e = .returned (.string ⟨(Lib.join (xs.map (·.data.toList)) sep.data.toList).toArray⟩)∧Below w.heap.size w w':=Any.strings_Join Rz OA bk o c xs sep w hcells hbk hN hcap hlen
def okS (v:V):Bool:=match gS v with
 | some _=>true
 | none=>false
def edS (v:V):List UInt8:=match gS v with
 | some e=>e
 | none=>[]
theorem Yl {v:V} (h:okS v=true):v = .str (edS v):=by
 unfold okS at h;unfold edS;split at h
 ·rename_i e he
  exact Vs he
 ·cases h
def Agp (n:Nat) (f:Nat->List UInt8):V:=.sl 1 n λi=>.str (f i)
def apS {α:Type} (v:V) (F:Nat->(Nat->List UInt8)->T α):T α :=
 match W7 v with
 | some (n,g)=>.br (Ba n λi=>okS (g i)) (F n λi=>edS (g i)) .fail
 | none=>.fail
theorem apS_some {α:Type} {v:V} {F:Nat->(Nat->List UInt8)->T α} {r:α} (h:(apS v F).sem=some r) :
  ∃ n f,(∀ (S:Nat->Prop) (w:World) (c:Value),VR S w v noK c->VR S w (Agp n f) noK c)∧(F n f).sem=some r:=by
 unfold apS at h;split at h
 ·rename_i n g hg
  obtain ⟨h1,h2⟩:=Ab h;have h1:=AG.1 h1;refine ⟨n,_,λS w c hv=>?_,h2⟩;unfold W7 at hg;split at hg
  ·rename_i s n' g'
   split at hg
   ·rename_i hs
    simp only [Option.some.injEq,Prod.mk.injEq] at hg;obtain ⟨rfl,rfl⟩:=hg;have hs:s=1:=Nat.eq_of_beq_eq_true hs;subst hs;obtain ⟨a,cap,e,hc,hb⟩:=hv;refine ⟨a,cap,e,hc,hb.imp id ?_⟩
    rintro ⟨b,o,ea,hel⟩
    refine ⟨b,o,ea,λi hi=>?_⟩;have:=hel i hi;rw [Yl (h1 i hi)] at this;exact this
   ·cases hg
  ·cases hg
 ·cases h
def Ve (n:Nat) (g:Nat->List UInt8) (sep:List UInt8):List UInt8:=Lib.join ((List.range n).map g) sep
def YD (n:Nat) (g:Nat->List UInt8) (sep:List UInt8):Bool:=decide (n <= 140737488355328) && decide ((Ve n g sep).length <= 140737488355328)
def YC:List V->AB
 | [v,.str sep]=>apS v λn g=>.br (YD n g sep) (out (.str (Ve n g sep))) .fail
 | _=>.fail
theorem WA {S:Nat->Prop} {w w':World} (h:Below w.heap.size w w'):Ext noK S [] w noK S [] w' :=
 Ext.ofNil h.os h.tape h.output h.size (λb hb _=>h.block b hb) (λi b hb=>absurd hb (Dc _ _ _)) (λ_ hb=>.inl hb) (λ_ hb=>hb) λ_ _ hb=>by simp at hb
theorem AiO:As Tryz.prog Gl 75 YC:=by
 refine ⟨⟨Tryz.f75,Tryz.func75,by decide,by kernel_rfl⟩,λvs cs S w v h' hS hE hv he=>?_⟩;unfold YC at he;split at he
 ·rename_i u sep
  obtain ⟨n,g,ha,h1⟩:=apS_some he;obtain ⟨hk,hq⟩:=Ab h1;have:=Aa hq;simp only [Prod.mk.injEq] at this;obtain ⟨rfl,rfl⟩:=this;simp only [YD,Bool.and_eq_true,decide_eq_true_eq] at hk;obtain ⟨hn,hlen⟩:=hk;obtain ⟨c,l,rfl,q1,c2,l2,rfl,q2,q3⟩:=hv;have q3:l2=[]:=q3;subst q3;have q2:c2 = .string ⟨sep.toArray⟩:=q2;subst q2;obtain ⟨a,cap,rfl,hcap,hel⟩:=ha S w c q1;refine ⟨λi b hb=>by simp at hb,?_⟩;cases n with
  | zero =>
   refine (strings_Join_none a cap ⟨sep.toArray⟩ w).mono ?_
   rintro e w' ⟨he,rfl⟩
   exact ⟨_,noK,S,he,Good.empty hS,rfl,Ext.refl _ _ _ _⟩
  | succ m =>
   rcases hel with h0 | ⟨b,o,rfl,hel⟩
   ·cases h0
   ·have hl:((List.range (m+1)).map λi=>(⟨(g i).toArray⟩:ByteArray)).length=m+1:=by simp
    have hd:((List.range (m+1)).map λi=>(⟨(g i).toArray⟩:ByteArray)).map (·.data.toList)=(List.range (m+1)).map g:=by
     rw [List.map_map];apply List.map_congr_left;intro i _;simp
    have hcell:∀ j,j<m+1->S b∧w.cell? ⟨b,o+j,none⟩=some (.string ⟨(g j).toArray⟩):=λj hj=>by
     obtain ⟨ci,r1,_,_,r4⟩:=hel j hj;have r1:ci = .string ⟨(g j).toArray⟩:=r1;subst r1;have:=r4 0 (.string ⟨(g j).toArray⟩) rfl;rw [Nat.mul_one,Nat.add_zero] at this;exact this
    have hJ:=strings_Join b o cap ((List.range (m+1)).map λi=>(⟨(g i).toArray⟩:ByteArray)) ⟨sep.toArray⟩ w (λj x hx=>by
     rw [List.getElem?_map] at hx;rcases Nat.lt_or_ge j (m+1) with hj | hj
     ·rw [List.getElem?_range hj] at hx
      simp at hx;rw [<- hx];exact (hcell j hj).2
     ·rw [List.getElem?_eq_none (by simpa using hj)] at hx
      cases hx) (hS b (hcell 0 (Nat.succ_pos m)).1) (by rw [hl]; exact hn) (by rw [hl]; exact hcap) (by rw [hd]; simpa [Ve] using hlen)
    rw [hl,hd] at hJ;refine hJ.mono ?_
    rintro e w' ⟨he,hb⟩
    refine ⟨_,noK,S,he,Good.empty (λk hk=>Nat.lt_of_lt_of_le (hS k hk) hb.size),?_,WA hb⟩;show _=_;simp [Ve]
 ·cases he
end Go.Proofs.YtkbafjceglhjhaaGreatDoor.Ed
namespace Go.Proofs.YtkbafjceglhjhaaGreatDoor.Er
open Go.Sy Go Go.Proofs.YtkbafjceglhjhaaGreatDoor.Ed Go.Proofs.YtkbafjceglhjhaaGreatDoor.Sh
set_option maxRecDepth 100000
set_option maxHeartbeats 1000000
noncomputable def Agh:AK:=(9,shT Zx)::(11,shT rgC)::(33,shT SA)::(34,shT Pw)::(60,IW)::(48,IY)::(74,BI Li)::(75,YC)::(106,NV P1)::(68,Sh.ofT)::[]
theorem Aaa:Ar Tryz.prog Gl Agh:=.cons p9 <| .cons p11 <| .cons p33 <| .cons p34 <| .cons p25 <| .cons p65 <| .cons p26 <| .cons AiO <| .cons p22 <| .cons p15 .nil
noncomputable def lW:List (Nat×Func):=[(26,Tryz.f26),(13,Tryz.f13),(47,Tryz.f47),(46,Tryz.f46),(69,Tryz.f69),(70,Tryz.f70),(71,Tryz.f71),(112,Tryz.f112),(113,Tryz.f113),(158,Tryz.f158),(159,Tryz.f159),(186,Tryz.f186),(187,Tryz.f187),(39,Tryz.f39),(45,Tryz.f45),(49,Tryz.f49),(67,Tryz.f67),(105,Tryz.f105)]
theorem Ah5:AllBody Tryz.prog lW:=.cons Tryz.func26 (by kernel_rfl) <| .cons Tryz.func13 (by kernel_rfl) <| .cons Tryz.func47 (by kernel_rfl) <| .cons Tryz.func46 (by kernel_rfl) <| .cons Tryz.func69 (by kernel_rfl) <| .cons Tryz.func70 (by kernel_rfl) <| .cons Tryz.func71 (by kernel_rfl) <| .cons Tryz.func112 (by kernel_rfl) <| .cons Tryz.func113 (by kernel_rfl) <| .cons Tryz.func158 (by kernel_rfl) <| .cons Tryz.func159 (by kernel_rfl) <| .cons Tryz.func186 (by kernel_rfl) <| .cons Tryz.func187 (by kernel_rfl) <| .cons Tryz.func39 (by kernel_rfl) <| .cons Tryz.func45 (by kernel_rfl) <| .cons Tryz.func49 (by kernel_rfl) <| .cons Tryz.func67 (by kernel_rfl) <| .cons Tryz.func105 (by kernel_rfl) .nil
noncomputable def tbW:AK:=KQ tab Gl Agh lW
theorem Xp:Ar Tryz.prog Gl tbW:=WP AA mixed Aaa Ah5
theorem Ajn:(A7 (An tab (cxC Gl tbW) Tryz.f25 [] [])).sem=some (bV true,[]):=by kernel_rfl
theorem p18:As Tryz.prog Gl 25 AeT:=by
 refine Am AA mixed Tryz.func25 (by kernel_rfl) (by kernel_rfl) λvs v h' h=>?_;unfold AeT at h;split at h
 ·have:=Aa h
  simp only [Prod.mk.injEq] at this;obtain ⟨rfl,rfl⟩:=this;exact ⟨[],cxC Gl tbW,[],BK.refl _,rfl,(Um Xp).1,(Um Xp).2,Ajn,Aw.refl _⟩
 ·cases h
end Go.Proofs.YtkbafjceglhjhaaGreatDoor.Er
namespace Go.Proofs.YtkbafjceglhjhaaGreatDoor.Er
open Go.Sy Go Go.Proofs.YtkbafjceglhjhaaGreatDoor.Ed Go.Proofs.YtkbafjceglhjhaaGreatDoor.Sh
open Int (ofNat)
set_option maxRecDepth 100000
set_option maxHeartbeats 1000000
section
variable (s:Sh7)
def T6 (c:Int) (b q:Nat):St:=⟨jsV 163 0 Ac [(1,.ptr 0 0),(3,.jref 1),(5,.ref 2),(9,iV (ofNat s.nx)),(10,nV b),(11,nV q),(12,iV c)],[.cells [iV s.arch,.sl 6 s.ne (λi=>eV (s.E i)),.sl 5 s.nx (λi=>evV (s.X i)),iV s.tt,iV s.kk,.sl 1 s.nr (λi=>iV (s.R i)),.sl 1 s.nc (λu=>.sl 1 (s.C u).1 (λi=>iV ((s.C u).2 i)))],codJ s,.row 3 1 s.nx (λk=>iV (rg9 s k))]⟩
def S6 (c:Int) (_:Unit):St:=T6 s c (lbN s (q0 s (toN c))) (q0 s (toN c))
def fn6:Ex×St:=(.ex 0,⟨jsV 163 0 Ac [(9,iV (ofNat s.nx)),(11,iV (ofNat (q0 s (toN s.tt))))],[]⟩)
def g6 (_:Nat) (_:Unit):T (Unit ⊕ (Ex×St)):=.leaf (.inl ())
end
def lp6:Lp:=⟨bmK 163 0 [1,3,5,9,10,11,12],3,bmK 163 0 [9,11],0,4611686018427387905⟩
def ls6:List (Nat×Lp×List (Nat×(Nat->V))):=[(0,lp6,[]),(2,ET,[])]
theorem Xl {s:Sh7} (hg:Gs s):toN s.tt <= 16:=(BU (PR hg)).2.1
theorem AbM {s:Sh7} (hg:Gs s) (u:Nat):Cz (cdL s s.nx u) <= 1000:=by
 have:=N1 s u s.nx;have:=hg.hi;omega
theorem r6 {s:Sh7} (hg:Gs s):(A3 (B6 0 (Go.Sy.askL ls6)) lp6 4611686018427387905 (S6 s 0 ())).sem=some (fn6 s) :=
 AY (R:=exR) BB (S:=λc a _=>S6 s c a) (j:=λ_=>.und) (g:=g6) (fin:=λ_=>fn6 s) (e:=fn6 s) (n:=toN s.tt) (by have:=Xl hg; omega)
  (λi a j r hi he=>DK.ok (L:=goR (λc a _=>S6 s c a) exR i) (.k (ofNat_lt hi) <| .a (Ai9 (Go.Sy.askL ls6) hi (AbM hg i) (Ti hg i)) <|
   .e (show (Ex.nm,T6 s (wr .i64 (Ah (ofNat i) 1)) (lbN s (q0 s (i+1))) (q0 s (i+1)))=(Ex.nm,S6 s (wr .i64 (Ah (ofNat i) 1)) ()) from by unfold S6; rw [E2 (n:=16) (by have:=Xl hg; omega) (by decide)]; rfl)) (by kernel_rfl) he)
  (λa j=>DK.ok (C:=.leaf (fn6 s)) (L:=exR) (.k (Av (Nat.le_refl (toN s.tt))) .l) (by kernel_rfl) rfl) (Nat.zero_add _).symm (by have:=Xl hg; omega)
  (CP (acc:=λ_=>()) (λ_ _=>rfl) _ _ (Nat.zero_add _))
theorem tb6_ok:Ar Tryz.prog Gl tb6:=.cons p9 <| .cons p11 <| .cons p10 <| .cons p18 .nil
theorem r6' {s:Sh7} (hg:Gs s):(A3 (B6 0 (Go.Sy.askL ls6)) lp6 4611686018427387905 (T6 s 0 0 0)).sem=some (fn6 s):=by
 have h:=r6 hg;unfold S6 at h;rw [show toN 0=0 from rfl,AiA] at h;exact h
def Y8 (s:Sh7):AB:=.br (CJ s.ne) (.br (Aj (Ap s.ne) (Aj (Ap s.nx) (Aj (Ap s.nr) (Aj (Ap s.nc) (Ba s.nc (λi=>Ap (s.C i).1)))))) (.br (ieq (Jj s) 0) (.leaf (bV true,[])) (.leaf (bV true,[]))) .fail) .fail
theorem AgR {s:Sh7} (hg:Gs s):ieq (ofNat (q0 s (toN s.tt))) (ofNat s.nx)=true:=by
 rw [AeO hg];exact eI _
theorem p6:As Tryz.prog Gl 6 (shT Y8):=Ou Tryz.func6 (by kernel_rfl) (by kernel_rfl) (Γ:=λ_=>cxA Gl tb6 ls6) (λ_=>rfl) (λ_=>Bz tb6_ok ls6)
 λs r h=>DK.of h (.k (eL s.ne) <| .k (eL s.nx) <| .k (eL s.nr) <| .k (eL2 s.nc s.C) <| .g λh1=>.k h1 <| .g λh2=>.k h2 <|
  .c (λh3=>.k h3 <| .k (Ab7 (good h3)) <| .k (eL s.ne) <| .k (eL s.nx) <| .k (eL s.nr) <| .k (eL2 s.nc s.C) <| .k h1 <| .k h2 <| .k h3 <| .k (PR (good h3)) <| .k (eN (eI 0)) <| .k (eN (eI (ofNat s.nx))) <| .a (r6' (good h3)) <| .r 2 (AgR (good h3)) <| .l)
   λh3=>.k h3 <| .k (eL s.ne) <| .k (eL s.nx) <| .k (eL s.nr) <| .k (eL2 s.nc s.C) <| .k h1 <| .k h2 <| .k h3 <| .k (eN h3) <| .k (eL s.ne) <| .k (eL s.nx) <| .k (eL s.nr) <| .k (eL2 s.nc s.C) <| .k h1 <| .k h2 <| .k h3 <| .r 2 (eI (Jj s)) <| .l) (by kernel_rfl)
end Go.Proofs.YtkbafjceglhjhaaGreatDoor.Er
namespace Go.Proofs.YtkbafjceglhjhaaGreatDoor.Sh
open Go.Sy Go Go.Proofs.YtkbafjceglhjhaaGreatDoor.Ed
theorem LV {α β:Type} (c:Cod α) (n:Nat) (f:Nat->α) (F:Nat->(Nat->α)->T β) (h1:∀ x,c.ok (c.enc x)=true) (h2:∀ x,c.ed (c.enc x)=x):(apG c (H9 c n f) F).sem=(F n f).sem:=by
 have h0:TR c.size (H9 c n f)=some (n,λi=>c.enc (f i)):=by
  show (match Nat.beq c.size c.size with
   | true=>some (n,λi=>c.enc (f i))
   | false=>match n with
    | 0=>some (0,λi=>c.enc (f i))
    | _=>none)=_
  rw [show Nat.beq c.size c.size=true from Nat.beq_refl _]
 unfold apG;rw [h0];show sel (Ba n λi=>c.ok (c.enc (f i))) (F n λi=>c.ed (c.enc (f i))).sem none=_;rw [show (Ba n λi=>c.ok (c.enc (f i)))=true from AG.2 λi _=>h1 _];rw [show (λi=>c.ed (c.enc (f i)))=f from funext λi=>h2 _];rfl
theorem apS_sem {β:Type} (s:Sh7) (F:Sh7->T β):(apS (GF s) F).sem=(F s).sem:=by
 obtain ⟨a,n,g,m,x,t,k,p,r,q,C⟩:=s;show (apG codE (H9 codE n g) λne E=>apG Qn (H9 Qn m x) λnx X=>apG Qo (H9 Qo p r) λnr R=>apG codJ (H9 codJ q C) λnc C=>F ⟨a,ne,E,nx,X,t,k,nr,R,nc,C⟩).sem=_;rw [LV codE n g _ (λ_=>rfl) (λ_=>rfl),LV Qn m x _ (λ_=>rfl) (λ_=>rfl),LV Qo p r _ (λ_=>rfl) (λ_=>rfl),LV codJ q C _ (λx=>?_) (λ_=>rfl)];show (match TR 1 (.sl 1 x.1 λi=>iV (x.2 i)) with
  | some (n,g)=>Ba n λi=>okI (g i)
  | none=>false)=true
 exact AG.2 λ_ _=>rfl
end Go.Proofs.YtkbafjceglhjhaaGreatDoor.Sh
namespace Go.Proofs.YtkbafjceglhjhaaGreatDoor.Er
open Go.Sy Go Go.Proofs.YtkbafjceglhjhaaGreatDoor.Ed Go.Proofs.YtkbafjceglhjhaaGreatDoor.Sh
theorem Abv {s:Sh7} (h1:s.ne * 40 <= 140737488355328) (h2:s.nx * 40 <= 140737488355328) (h3:s.nr * 8 <= 140737488355328) (h4:s.nc * 24 <= 140737488355328) (h5:∀ i,i<s.nc->(s.C i).1 * 8 <= 140737488355328):(shT Y8 [GF s]).sem=some (bV true,[]):=by
 show (Sh.apS (GF s) Y8).sem=_;rw [Sh.apS_sem];have hs:∀ n:Nat,n * 8 <= 140737488355328->Ap n=true:=λn h=>decide_eq_true (by omega);have hb:Aj (Ap s.ne) (Aj (Ap s.nx) (Aj (Ap s.nr) (Aj (Ap s.nc) (Ba s.nc (λi=>Ap (s.C i).1)))))=true :=
  (Jb (hs _ (by omega))).trans<|(Jb (hs _ (by omega))).trans<|(Jb (hs _ (by omega))).trans<|(Jb (hs _ (by omega))).trans<|AG.2 λi hi=>hs _ (h5 i hi)
 unfold Y8;rw [show CJ s.ne=true from decide_eq_true h1,hb];cases ieq (Jj s) 0 <;> rfl
end Go.Proofs.YtkbafjceglhjhaaGreatDoor.Er
