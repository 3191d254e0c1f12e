/-
  Layer 12: the law EmitrRegs as a function. Conditions: RgOK.
-/
import Derived.Test.YtkbafjceglhjhaaGreatDoorSyZ
import Derived.Test.YtkbafjceglhjhaaGreatDoorErW
namespace Go.Proofs.YtkbafjceglhjhaaGreatDoor.Er
open Go.Sy Go Go.Proofs.YtkbafjceglhjhaaGreatDoor.Ed Go.Proofs.YtkbafjceglhjhaaGreatDoor.Sh
set_option maxRecDepth 100000
set_option maxHeartbeats 1000000
section
variable (s:Sh7) (u:Nat)
def g5 (_:Nat) (_:Unit):T (Unit ⊕ (Ex×St)):=.leaf (.inl ())
end
noncomputable def tb5:A7:=(9,shT V9)::(11,shT rgC)::(13,shT UZ)::(10,shT rcC)::(29,lkT)::(30,Abk)::(25,Acw)::[]
theorem tb5_ok:Ao Tryz.prog Gl tb5:=.cons p9 <| .cons p11 <| .cons p13 <| .cons p10 <| .cons p29 <| .cons p30 <| .cons p18 .nil
end Go.Proofs.YtkbafjceglhjhaaGreatDoor.Er
namespace Go.Proofs.YtkbafjceglhjhaaGreatDoor.Er
open Go.Sy Go Go.Proofs.YtkbafjceglhjhaaGreatDoor.Ed Go.Proofs.YtkbafjceglhjhaaGreatDoor.Sh
open Int (ofNat)
set_option maxRecDepth 100000
set_option maxHeartbeats 1000000
def Am0 (e:E6):Bool:=!ieq e.kind 5 || (ile 2 e.fence && ile e.fence 11)
theorem AdW:(List.range 112).all (λk=>!FM 2 (ofNat k) || Am0 (Du k))=true:=by kernel_rfl
theorem Amz {e:E6} (h:Ks 2 e=true):Am0 e=true:=by
 rcases Dk e with ⟨k,hk,h0,hn,he,_⟩ | ⟨h2,_⟩
 ·have:=List.all_eq_true.1 AdW k (by simpa using hk)
  unfold Ks at h;rw [h0,hn] at h;rw [show FM 2 (ofNat k)=true from h,he] at this;simpa using this
 ·unfold Ks at h
  rw [h2] at h;cases h
theorem Zj {p q:Nat->Bool} (n:Nat) (h:∀ i,i<n->p i=true->q i=true):Ak p n <= Ak q n:=by
 induction n with
 | zero=>exact Nat.le_refl _
 | succ n ih =>
  have ih:=ih λi hi=>h i (by omega);cases hp:p n with
  | true=>rw [By hp,By (h n (by omega) hp)]; omega
  | false =>rw [BQ hp];have:=HQ q n;omega
structure Gx (s:Sh7):Prop where
 crowd:∀ u,Ak (isT s u) s.nx <= 12
 val:∀ i,i<s.nx->ile (-2048) (s.X i).val=true∧ile (s.X i).val 2047=true
 loc:∀ i,i<s.nx->∃ k,k<16∧(s.X i).loc=ofNat k
 fen:∀ i,i<s.nx->Am0 (s.E i)=true
theorem Aqq {s:Sh7} (h:ieq (CQ s) 0=true):Gx s:=by
 have hg:=good h;have hc:BU s=true:=by
  cases hc:BU s with
  | true=>rfl
  | false =>unfold CQ at h;rw [hc] at h;cases h
 have ha:s.arch=2:=by
  unfold CQ at h;rw [hc,cond_true] at h;cases ha:ieq s.arch 2 with
  | true=>exact BP ha
  | false=>rw [ha] at h; cases h
 unfold BU at hc;obtain ⟨h1,hc⟩:=A9 hc;unfold IF at hc;obtain ⟨_,hc⟩:=A9 hc;obtain ⟨htt,hc⟩:=A9 hc;obtain ⟨_,hc⟩:=A9 hc;obtain ⟨hE,hc⟩:=A9 hc;obtain ⟨hnx,hc⟩:=A9 hc;obtain ⟨_,hc⟩:=A9 hc;obtain ⟨_,hX⟩:=A9 hc;have hy:=Bt h1;have hG:=DN hy;have hnx:s.nx=s.ne:=Int.ofNat.inj (BP hnx);have hE:∀ i,i<s.ne->s.E i=shG s.ne s.E i:=(HB.1 hE).2;have hX:∀ i,i<s.nx->s.X i=evF s.ne (shG s.ne s.E) (λ_=>true) i:=λi hi=>Ut (A8.1 hX i hi);have hn16:s.ne <= 16:=hnx ▸ hg.hi;have hth:∀ i,i<s.nx->(s.X i).th=AC (obF (shG s.ne s.E)) s.ne i:=λi hi=>by
  rw [hX i hi,CV (by omega)];rfl
 refine ⟨λu=>?_,λi hi=>?_,λi hi=>?_,λi hi=>?_⟩
 ·by_cases hu:∃ k,k<s.nx∧isT s u k=true
  ·obtain ⟨k,hk,hku⟩:=hu
   have hcr:=hG.crowd k (by omega)
   replace hcr:ilt 12 (MD s.ne (AC (λk=>AB (shG s.ne s.E k)) s.ne) (λ_=>true) (AC (λk=>AB (shG s.ne s.E k)) s.ne k))=false:=hcr
   have hcr:=of_decide_eq_false hcr;have:Ak (isT s u) s.nx <= Ak (CH (AC (λk=>AB (shG s.ne s.E k)) s.ne) (λ_=>true) (AC (λk=>AB (shG s.ne s.E k)) s.ne k)) s.nx:=by
    refine Zj s.nx λi hi hiu=>?_;unfold CH;unfold isT at hiu hku;have e1:=hth i hi;have e2:=hth k hk;have e3:=Nat.eq_of_beq_eq_true hiu;have e4:=Nat.eq_of_beq_eq_true hku;rw [hg.th i hi] at e1 e3;rw [hg.th k hk] at e2 e4;have e5:Ak (obE s) i=Ak (obE s) k:=e3.symm.trans e4;show Al (ieq (AC (obF (shG s.ne s.E)) s.ne i) (AC (obF (shG s.ne s.E)) s.ne k)) true=true;rw [<- e1,<- e2,e5,eI];rfl
   unfold MD at hcr;rw [<- hnx] at hcr this;have hcr:¬ ((12:Int)<((Ak (CH (AC (λk=>AB (shG s.nx s.E k)) s.nx) (λ_=>true) (AC (λk=>AB (shG s.nx s.E k)) s.nx k)) s.nx:Nat):Int)):=hcr;omega
  ·rw [Gi λi hi=>by
    cases hb:isT s u i with
    | false=>rfl
    | true=>exact absurd ⟨i,hi,hb⟩ hu]
   omega
 ·rw [hX i hi,CV (by omega)]
  show ile (-2048) (ofNat (RJ _ _ _ _))=true∧ile (ofNat (RJ _ _ _ _)) 2047=true;have h2:=B2 (λt=>wrF (shG s.ne s.E) (rnd s.ne (FW (mbF (shG s.ne s.E)) s.ne i) t)) (GG (mbF (shG s.ne s.E)) s.ne i+1);have h3:GG (mbF (shG s.ne s.E)) s.ne i <= s.ne:=by
   unfold GG;exact Ag9 _ _
  unfold RJ wcN;generalize Ak (λt=>wrF (shG s.ne s.E) (rnd s.ne (FW (mbF (shG s.ne s.E)) s.ne i) t)) (GG (mbF (shG s.ne s.E)) s.ne i+1)=v at h2 ⊢;exact ⟨decide_eq_true (by show (-2048:Int) <= (v:Int); omega),decide_eq_true (by show (v:Int) <= 2047; omega)⟩
 ·rw [hX i hi,CV (by omega)]
  show ∃ k,k<16∧loF s.ne (shG s.ne s.E) i=ofNat k;refine ⟨_,?_,Adt (by omega)⟩;have:=Lb (p:=mbF (shG s.ne s.E)) (n:=s.ne) (k:=i) (by omega);have:=B2 (mbF (shG s.ne s.E)) s.ne;unfold loN;omega
 ·rw [hE i (by omega)]
  have:=hG.legal i (by omega);unfold DJ AQ at this;rw [ha] at this;have:=(A9 (by simpa using this)).2;exact Amz this
end Go.Proofs.YtkbafjceglhjhaaGreatDoor.Er
namespace Go.Proofs.YtkbafjceglhjhaaGreatDoor.Er
open Go.Sy Go Go.Proofs.YtkbafjceglhjhaaGreatDoor.Ed Go.Proofs.YtkbafjceglhjhaaGreatDoor.Sh
set_option maxRecDepth 100000
set_option maxHeartbeats 1000000
theorem Y5 (s:Sh7) (u:Nat):∀ m,Bm (locL s m u) <= Ak (isT s u) m
 | 0=>Nat.le_refl _
 | m+1=>by
  have:=Y5 s u m;rw [locL];cases h:Nat.beq u (toN (s.X m).th) with
  | false =>rw [bFA,cond_false];have:=HQ (isT s u) m;omega
  | true =>
   rw [By (show isT s u m=true from h)];cases ieq (F7 (Bm (locL s m u)) (Ec (locL s m u)) (s.X m).loc) 0 with
   | true =>unfold Bm at this ⊢;simp only [bTA,cond_true,List.length_append,List.length_singleton];omega
   | false=>simp only [bTA,cond_false]; omega
theorem AeJ {n:Nat} {f:Nat->Int} {lc:Int} (hn:n <= 1000) (h:∃ k,k<n∧f k=lc):∃ k,k<n∧F7 n f lc=Int.ofNat (7+k)∧f k=lc:=by
 unfold F7 tO;cases hq:AN (λk=>ieq (f k) lc) n 0 with
 | none =>obtain ⟨k,hk,hf⟩:=h;have:=Dj.1 hq k (Nat.zero_le _) (by omega);rw [hf,eI] at this;cases this
 | some k =>
  obtain ⟨_,h2,h3⟩:=GW hq;exact ⟨k,by omega,by
   show wr .i64 (Ai 7 (Int.ofNat k))=_;exact He (k:=7+k) (by omega),BP h3⟩
theorem VI {n:Nat} {f:Nat->Int} {lc:Int} (hn:n <= 1000) (h:ieq (F7 n f lc) 0=false):∃ k,k<n∧f k=lc:=by
 unfold F7 at h;cases hq:AN (λk=>ieq (f k) lc) n 0 with
 | none=>rw [hq] at h; cases h
 | some k =>obtain ⟨_,h2,h3⟩:=GW hq;exact ⟨k,by omega,BP h3⟩
theorem Amv {l:List Int} {x:Int} {k:Nat} (h:k<Bm l):Ec (l++[x]) k=Ec l k:=by
 unfold Ec Bm at *;simp only [List.getD_eq_getElem?_getD];rw [List.getElem?_append_left h]
theorem Amu {l:List Int} {x:Int}:Ec (l++[x]) (Bm l)=x:=by
 unfold Ec Bm;simp
theorem loc_in (s:Sh7) (u:Nat):∀ m,m <= 16->∀ i,i<m->isT s u i=true->∃ k,k<Bm (locL s m u)∧Ec (locL s m u) k=(s.X i).loc
 | 0,_,_,hi,_=>absurd hi (Nat.not_lt_zero _)
 | m+1,hm,i,hi,hT=>by
  have hl:=Fj (s:=s) u m;have hc:isT s u m=true->ieq (F7 (Bm (locL s m u)) (Ec (locL s m u)) (s.X m).loc) 0=false->∃ k,k<Bm (locL s m u)∧Ec (locL s m u) k=(s.X m).loc:=λ_ h2=>VI (by omega) h2;have hlen:∀ l:List Int,∀ x,Bm (l++[x])=Bm l+1:=λl x=>by unfold Bm; simp
  rw [locL];by_cases him:i=m
  ·subst him
   unfold isT at hT;rw [hT,bTA];cases h2:ieq (F7 (Bm (locL s i u)) (Ec (locL s i u)) (s.X i).loc) 0 with
   | true=>exact ⟨Bm (locL s i u),by rw [cond_true,hlen]; omega,by rw [cond_true]; exact Amu⟩
   | false=>exact hc (by unfold isT; exact hT) h2
  ·obtain ⟨k,hk,he⟩:=loc_in s u m (by omega) i (by omega) hT
   cases Nat.beq u (toN (s.X m).th) && ieq (F7 (Bm (locL s m u)) (Ec (locL s m u)) (s.X m).loc) 0 with
   | true=>exact ⟨k,by rw [cond_true,hlen]; omega,by rw [cond_true,Amv hk]; exact he⟩
   | false=>exact ⟨k,hk,he⟩
section
variable {s:Sh7} (hg:Gs s) (hx:Gx s)
include hg hx
theorem Amf (u:Nat):Bm (locL s s.nx u) <= 12 :=
 have _:=hg
 Nat.le_trans (Y5 s u s.nx) (hx.crowd u)
theorem Ap0 {u j:Nat} (hj:j<s.nx) (hT:isT s u j=true):nrF s j u <= 11:=by
 have _:=hg;have h1:=hx.crowd u;have h2:=Bc (isT s u) (show j+1 <= s.nx by omega);rw [By hT] at h2;have h3:nrF s j u <= Ak (isT s u) j:=Zj j λk _ hk=>by
  simp only [Bool.and_eq_true] at hk;exact hk.1
 omega
end
end Go.Proofs.YtkbafjceglhjhaaGreatDoor.Er
namespace Go.Sy
inductive DW {α:Type} (r:α):DT α->Prop where
 | e {a:α} (h:a=r):DW r (.lf a)
 | k {b c:Bool} {d:DT α} (h:b=c) (w:DW r d):DW r (.kn b c d)
 | a {o:Option (Ex×St)} {q:Ex×St} {d:DT α} (h:o=some q) (w:DW r d):DW r (.ak o q d)
 | c {d e:DT α} (b:Bool) (w:b=true->DW r d) (u:b=false->DW r e):DW r (.sp d e)
theorem DW.l {α:Type} {r:α}:DW r (.lf r):=.e rfl
theorem DW.r {α:Type} {r:α} {b c:Bool} {d:DT α} (n:Nat) (h:b=c) (w:DW r d):DW r (DT.knR n b c d):=by
 induction n with
 | zero=>exact w
 | succ n ih=>exact .k h ih
theorem DW.ok {α:Type} {r:α} {d:DT α} (w:DW r d):∀ {t:T α},d.run t=some (d.cs,d.os,d.ls)->t.sem=some r:=by
 induction w with
 | e hab =>
  intro t h;cases t with
  | leaf b =>simp only [DT.run,DT.cs,DT.os,DT.ls,Option.some.injEq,Prod.mk.injEq,List.cons.injEq,and_true,true_and] at h;subst h;rw [hab];rfl
  | _=>cases h
 | k hb w ih =>
  rename_i b c d;intro t h;cases t with
  | br b' x y =>
   simp only [DT.run] at h;split at h
   ·rename_i hx
    simp only [DT.cs,DT.os,DT.ls,Option.some.injEq,Prod.mk.injEq,List.cons.injEq] at h;obtain ⟨⟨rfl,rfl⟩,rfl,rfl⟩:=h;subst hb;cases b' with
    | true=>exact (show x.sem=_ from ih hx)
    | false=>exact (show y.sem=_ from ih hx)
   ·cases h
  | _=>cases h
 | a ho w ih =>
  rename_i o q d;intro t h;cases t with
  | ask o' k =>
   simp only [DT.run] at h;split at h
   ·rename_i hx
    simp only [DT.cs,DT.os,DT.ls,Option.some.injEq,Prod.mk.injEq,List.cons.injEq] at h;obtain ⟨rfl,⟨rfl,rfl⟩,rfl⟩:=h;subst ho;exact (show (k q).sem=_ from ih hx)
   ·cases h
  | _=>cases h
 | c b w u ih ih' =>
  rename_i d e;intro t h;simp only [DT.run] at h;split at h
  ·rename_i hx hy
   simp only [DT.cs,DT.os,DT.ls,Option.some.injEq,Prod.mk.injEq] at h;obtain ⟨hc,ho,hl⟩:=h;obtain ⟨e1,e2,e3⟩:=DT.run_len hx;obtain ⟨rfl,rfl⟩:=List.append_inj hc e1;obtain ⟨rfl,rfl⟩:=List.append_inj ho e2;obtain ⟨rfl,rfl⟩:=List.append_inj hl e3;cases hb:b with
   | true=>exact ih hb hx
   | false=>exact ih' hb hy
  ·cases h
theorem DW.rd {f:St->T (Ex×St)} {lp:Lp} {st:St} {r:Ex×St} {d:DT (Ex×St)} (w:DW r d) (h:d.run ((f st).bind λr=>T.leaf (AqH lp r))=some (d.cs,d.os,d.ls)):Au f lp st=some r:=w.ok h
theorem Bv {f:St->T (Ex×St)} {lp:Lp} {S:Nat->St} {m:Nat} {x:Ex×St} (hx:x.1 ≠ .nm) (h:∀ i,i<m->Au f lp (S i)=some (.nm,S (i+1))) (h0:Au f lp (S m)=some x) {q:Nat} (hq:m<q):(Av f lp q (S 0)).sem=some x:=by
 have stop:∀ {o:Nat},Aa3 f lp o (some x)=some x:=fun {o}=>by
  cases x with
  | mk e s=>cases e <;> first | exact absurd rfl hx | rfl
 have key:∀ d i q,i+d=m->d<q->(Av f lp q (S i)).sem=some x:=λd=>by
  induction d with
  | zero =>
   intro i q hi hq;obtain ⟨q,rfl⟩:∃ o,q=o+1:=⟨q-1,by omega⟩;obtain rfl:i=m:=by omega
   rw [Af h0,stop]
  | succ d ih =>intro i q hi hq;obtain ⟨q,rfl⟩:∃ o,q=o+1:=⟨q-1,by omega⟩;rw [Af (h i (by omega))];exact ih (i+1) q (by omega) (by omega)
 exact key m 0 q (Nat.zero_add m) hq
theorem nm1 {α:Type} {f:α->St} {a a':α} (h:a=a'):(Ex.nm,f a)=(Ex.nm,f a'):=by rw [h]
theorem nm2 {α β:Type} {f:α->β->St} {a a':α} {b b':β} (h:a=a') (h2:b=b'):(Ex.nm,f a b)=(Ex.nm,f a' b'):=by rw [h,h2]
theorem nm3 {α β γ:Type} {f:α->β->γ->St} {a a':α} {b b':β} {c c':γ} (h:a=a') (h2:b=b') (h3:c=c'):(Ex.nm,f a b c)=(Ex.nm,f a' b' c'):=by rw [h,h2,h3]
theorem D6 {i:Nat} (h:i <= 4611686018427387904):wr .i64 (Ai (Int.ofNat i) 1)=Int.ofNat (i+1):=by
 unfold wr Ai IntKind.wrap;simp [IntKind.bits,IntKind.signed];omega
end Go.Sy
namespace Go.Proofs.YtkbafjceglhjhaaGreatDoor.Er
open Go.Sy Go Go.Proofs.YtkbafjceglhjhaaGreatDoor.Ed Go.Proofs.YtkbafjceglhjhaaGreatDoor.Sh
open Int (ofNat)
set_option maxRecDepth 100000
set_option maxHeartbeats 1000000
def UF:List V->Option (List Int)
 | []=>some []
 | .val (.int .i64 x)::l=>match UF l with
  | some r=>some (x::r)
  | none=>none
 | _=>none
theorem UE:∀ {vs:List V} {l:List Int},UF vs=some l->vs=l.map iV
 | [],l,h=>by
  simp only [UF,Option.some.injEq] at h;subst h;rfl
 | v::vs,l,h=>by
  unfold UF at h;split at h
  ·rename_i e
   cases e
  ·rename_i x l' hv
   cases hv;split at h
   ·rename_i r hr
    simp only [Option.some.injEq] at h;subst h;rw [UE hr];rfl
   ·cases h
  ·cases h
def shI (C:Sh7->List Int->A5):List V->A5
 | v::is=>match UF is with
  | some l=>apS v λs=>C s l
  | none=>.fail
 | _=>.fail
theorem Acn {k:FuncId} {fn:Func} (hf:Tryz.prog.funcs[k]? = some fn) (hb:fn.body.isSome=true) (hn:(fn.name == "runtime.NumGoroutine")=false) {Γ:Sh7->List Int->Cx} (hG:∀ s l,(Γ s l).glob=Gl) (hc:∀ s l,Bu Tryz.prog (Γ s l).base∧Cr (Γ s l))
  {C:Sh7->List Int->A5} (h:∀ s l v h',(C s l).sem=some (v,h')->∃ h'',(A0 (Aj tab (Γ s l) fn (EC s::l.map iV) [])).sem=some (v,h'')∧Am h'' h'):Ap Tryz.prog Gl k (shI C):=by
 refine Ah A2 mixed hf hb hn λvs v h' hv=>?_;unfold shI at hv;split at hv
 ·split at hv
  ·rename_i l hl
   obtain rfl:=UE hl;obtain ⟨s,a1,hv⟩:=apS_some hv;obtain ⟨h'',h1,h2⟩:=h s l v h' hv;exact ⟨EC s::l.map iV,Γ s l,h'',λS w cs hq=>by
    obtain ⟨c,r,rfl,q1,q2⟩:=hq;exact ⟨c,_,rfl,a1 S w c q1,q2⟩,hG s l,(hc s l).1,(hc s l).2,h1,h2⟩
  ·cases hv
 ·cases hv
def Jp (p:Nat->Bool):Nat->Bool
 | 0=>false
 | k+1=>Jp p k || p k
theorem AmN {p:Nat->Bool} {k:Nat} (h:Jp p k=true):true=Jp p (k+1):=by rw [Jp,h]; rfl
theorem AmO {p:Nat->Bool} {k:Nat} (h:Jp p k=false):p k=Jp p (k+1):=by rw [Jp,h]; rfl
theorem PV {p:Nat->Bool}:∀ {n:Nat},Jp p n=true↔∃ k,k<n∧p k=true
 | 0=>⟨λh=>(by cases h),λ⟨k,hk,_⟩=>absurd hk (Nat.not_lt_zero _)⟩
 | n+1=>by
  rw [Jp,Bool.or_eq_true,PV (n:=n)];constructor
  ·intro h
   rcases h with ⟨k,h1,h2⟩ | h
   ·exact ⟨k,by omega,h2⟩
   ·exact ⟨n,by omega,h⟩
  ·intro ⟨k,h1,h2⟩
   by_cases e:k=n
   ·subst e; exact .inr h2
   ·exact .inl ⟨k,by omega,h2⟩
def cl7 (s:Sh7):Blk:=.cells [iV s.arch,.sl 6 s.ne (λi=>eV (s.E i)),.sl 5 s.nx (λi=>evV (s.X i)),iV s.tt,iV s.kk,.sl 1 s.nr (λi=>iV (s.R i)),.sl 1 s.nc (λu=>.sl 1 (s.C u).1 (λi=>iV ((s.C u).2 i)))]
theorem DY (n:Nat):ilt (ofNat n) (ofNat n)=false:=A1 (Nat.le_refl n)
theorem w16 {i n:Nat} (hi:i<n) (hn:n <= 1000):wr .i64 (Ai (ofNat i) 1)=ofNat (i+1):=D6 (by omega)
section
variable (s:Sh7) (t:Int)
def q40 (u k:Nat):Bool:=ieq (Ec (locL s u (toN t)) k) (s.X u).loc
def Aj6 (u:Nat) (b:Bool) (c:Int):St:=⟨jsV 56 0 Aa [(1,iV t),(2,.ptr 0 0),(5,.ref 2),(6,nV u),(7,bV b),(8,iV c)],[cl7 s,.row 3 1 0 Aa,.row 3 1 (Bm (locL s u (toN t))) (HI (locL s u (toN t)))]⟩
def And (u:Nat):Ex×St:=(.ex 2,⟨jsV 56 0 Aa [(1,iV t),(2,.ptr 0 0),(5,.ref 2),(6,nV u),(7,bV (Jp (q40 s t u) (Bm (locL s u (toN t)))))],[cl7 s,.row 3 1 0 Aa,.row 3 1 (Bm (locL s u (toN t))) (HI (locL s u (toN t)))]⟩)
def T40 (c:Int) (n:Nat) (g:Nat->V):St:=⟨jsV 56 0 Aa [(1,iV t),(2,.ptr 0 0),(5,.ref 2),(6,iV c)],[cl7 s,.row 3 1 0 Aa,.row 3 1 n g]⟩
def S40 (i:Nat):St:=T40 s t (ofNat i) (Bm (locL s i (toN t))) (HI (locL s i (toN t)))
def x40:Ex×St:=(.ex 0,⟨jsV 56 0 Aa [(5,.ref 2)],[cl7 s,.row 3 1 0 Aa,.row 3 1 (Bm (locL s s.nx (toN t))) (HI (locL s s.nx (toN t)))]⟩)
def AcC:List Int->A5
 | [t]=>.br (plB s) (.br (ile 0 t) (.leaf (.ref 0,[.row 3 1 (Bm (locL s s.nx (toN t))) (HI (locL s s.nx (toN t)))])) .fail) .fail
 | _=>.fail
end
def lp40_2:Lp:=⟨bmK 56 0 [1,2,5,6,7,8],3,bmK 56 0 [1,2,5,6,7],3,4611686018427387905⟩
def lp40:Lp:=⟨bmK 56 0 [1,2,5,6],3,bmK 56 0 [5],3,4611686018427387905⟩
def AgI:List (Nat×Lp×List (Nat×(Nat->V))):=[(0,lp40,[(2,λ_=>iV 0)]),(2,lp40_2,[])]
noncomputable def B40 (id:Nat) (L:LT):St->T (Ex×St):=λst=>AA tab ⟨Aw tb0,L,Gl⟩ (As Tryz.f40 id) id st
section
variable {s:Sh7} (hF:plB s=true) {t:Int} {i:Nat}
include hF
theorem Ahm {u:Nat} (hu:u<s.nx):Bm (locL s u (toN t)) <= 1000:=by
 have:=Fj (s:=s) (toN t) u;have:=(Bw hF).1;omega
theorem AoN (L:LT) {u:Nat} (hu:u<s.nx):(Av (B40 2 L) lp40_2 4611686018427387905 (Aj6 s t u false 0)).sem=some (And s t u) :=
 Bv (S:=λi=>Aj6 s t u (Jp (q40 s t u) i) (ofNat i)) (m:=Bm (locL s u (toN t))) (show (Ex.ex 2) ≠ .nm from nofun) (λi hi=>DW.rd (.k (ofNat_lt hi) <| .c (Jp (q40 s t u) i) (λh1=>.r 12 h1 <| .e (nm2 (AmN h1) (w16 hi (Ahm hF hu)))) λh1=>.r 3 h1 <| .k (Ad hi) <| .k h1 <| .k (decide_eq_true hi) <| .r 4 h1 <| .k (Ad hu) <| .r 4 h1 <| .e (nm2 (AmO h1) (w16 hi (Ahm hF hu)))) (by kernel_rfl))
  (DW.rd (.k (DY (Bm (locL s u (toN t)))) .l) (by kernel_rfl)) (by have:=Ahm hF (t:=t) hu; omega)
theorem XT (hi:i<s.nx):Jp (q40 s t i) (Bm (locL s i (toN t)))=AQ (ieq (F7 (Bm (locL s i (toN t))) (Ec (locL s i (toN t))) (s.X i).loc) 0):=by
 have hl:=Ahm hF (t:=t) hi;cases hb:Jp (q40 s t i) (Bm (locL s i (toN t))) with
 | true =>obtain ⟨k,h1,h2⟩:=PV.1 hb;obtain ⟨j,_,h4,_⟩:=AeJ hl ⟨k,h1,BP h2⟩;rw [h4,Aa1 (show ofNat (7+j)=((7+j:Nat):Int) from rfl) (by omega)];rfl
 | false =>
  cases ha:ieq (F7 (Bm (locL s i (toN t))) (Ec (locL s i (toN t))) (s.X i).loc) 0 with
  | true=>rfl
  | false =>obtain ⟨k,h1,h2⟩:=VI hl ha;have:=PV.2 ⟨k,h1,show q40 s t i k=true from by unfold q40; rw [h2]; exact eI _⟩;rw [hb] at this;cases this
theorem XU (ht:ile 0 t=true) (hi:i<s.nx):Nat.beq (toN t) (toN (s.X i).th)=ieq (s.X i).th t:=by
 have h1:=(Bw hF).2.2.2 i hi;simp only [Al,ile,ilt,Bool.and_eq_true,decide_eq_true_eq] at h1;have ht:0 <= t:=of_decide_eq_true ht;unfold toN ieq;by_cases e:(s.X i).th=t
 ·rw [e]; simp
 ·have:t.toNat ≠ (s.X i).th.toNat:=by omega
  have h2:Nat.beq t.toNat (s.X i).th.toNat=false:=by
   cases hb:Nat.beq t.toNat (s.X i).th.toNat with
   | false=>rfl
   | true=>exact absurd (Nat.eq_of_beq_eq_true hb) this
  rw [h2];simpa using e
theorem As6 (ht:ile 0 t=true) (hi:i<s.nx) (h1:ieq (s.X i).th t=true) (h2:Jp (q40 s t i) (Bm (locL s i (toN t)))=false) :
  (Ex.nm,T40 s t (wr .i64 (Ai (ofNat i) 1)) (AE (Bm (locL s i (toN t))) 1) (AD (Bm (locL s i (toN t))) (HI (locL s i (toN t))) (iV (s.X i).loc)))=(Ex.nm,S40 s t (i+1)):=by
 have e:locL s (i+1) (toN t)=locL s i (toN t)++[(s.X i).loc]:=by
  have:=XT hF (t:=t) hi;rw [h2] at this;have h3:ieq (F7 (Bm (locL s i (toN t))) (Ec (locL s i (toN t))) (s.X i).loc) 0=true:=by
   revert this;cases ieq (F7 (Bm (locL s i (toN t))) (Ec (locL s i (toN t))) (s.X i).loc) 0 <;> intro h <;> first | rfl | cases h
  rw [locL,XU hF ht hi,h1,h3];rfl
 unfold S40;exact nm3 (MZ hF hi) (by rw [e]; unfold Bm; simp [AE]) (by rw [e]; exact QV _ _)
theorem Aoe (ht:ile 0 t=true) (hi:i<s.nx) (h:ieq (s.X i).th t=false ∨ Jp (q40 s t i) (Bm (locL s i (toN t)))=true) :
  (Ex.nm,T40 s t (wr .i64 (Ai (ofNat i) 1)) (Bm (locL s i (toN t))) (HI (locL s i (toN t))))=(Ex.nm,S40 s t (i+1)):=by
 have e:locL s (i+1) (toN t)=locL s i (toN t):=by
  rw [locL,XU hF ht hi];rcases h with h | h
  ·rw [h]; rfl
  ·have:=XT hF (t:=t) hi
   rw [h] at this;have h3:ieq (F7 (Bm (locL s i (toN t))) (Ec (locL s i (toN t))) (s.X i).loc) 0=false:=by
    revert this;cases ieq (F7 (Bm (locL s i (toN t))) (Ec (locL s i (toN t))) (s.X i).loc) 0 <;> intro h <;> first | rfl | cases h
   rw [h3,Bool.and_false];rfl
 unfold S40;exact nm3 (MZ hF hi) (by rw [e]) (by rw [e])
theorem r40 (ht:ile 0 t=true):(Av (B40 0 (Go.Sy.askL AgI)) lp40 4611686018427387905 (S40 s t 0)).sem=some (x40 s t) :=
 Bv (S:=S40 s t) (m:=s.nx) (show (Ex.ex 0) ≠ .nm from nofun) (λi hi=>DW.rd (.k (ofNat_lt hi) <| .k (Ad hi) <| .c (ieq (s.X i).th t) (λh1=>.k (eN h1) <| .a (AoN (t:=t) hF (Go.Sy.askL AgI) hi) <| .c (Jp (q40 s t i) (Bm (locL s i (toN t)))) (λh2=>.k (eN h2) <| .e (Aoe hF ht hi (.inr h2))) λh2=>.k (eN h2) <| .k (Ad hi) <| .k (AiM hF hi (toN t)) <| .e (As6 hF ht hi h1 h2)) λh1=>.k (eN h1) <| .e (Aoe hF ht hi (.inl h1))) (by kernel_rfl)) (DW.rd (.k (DY s.nx) .l) (by kernel_rfl)) (by have:=(Bw hF).1; omega)
end
theorem AlL:Ap Tryz.prog Gl 40 (shI AcC):=Acn Tryz.func40 (by kernel_rfl) (by kernel_rfl) (Γ:=λ_ _=>cxA Gl tb0 AgI) (λ_ _=>rfl) (λ_ _=>AS Ca AgI) λs l v h' h=>by
 unfold AcC at h;split at h
 ·rename_i t
  obtain ⟨hF,h⟩:=Ac h;obtain ⟨ht,h⟩:=Ac h;cases Ab h;exact ⟨_,DW.ok (.a (r40 hF ht) <| .l) (by kernel_rfl),Am.refl _⟩
 ·cases h
theorem Mz {f:St->T (Ex×St)} {lp:Lp} {S:Nat->St} {q:Nat->Bool} {n:Nat} {fin:Ex×St} {x:Nat->Ex×St} (hfin:fin.1 ≠ .nm) (hx:∀ k,(x k).1 ≠ .nm) (h:∀ i,i<n->q i=false->Au f lp (S i)=some (.nm,S (i+1)))
  (ht:∀ i,i<n->q i=true->Au f lp (S i)=some (x i)) (h0:Au f lp (S n)=some fin) {o:Nat} (ho:n<o):(Av f lp o (S 0)).sem=some (match AN q n 0 with
   | none=>fin
   | some k=>x k):=by
 have stop:∀ {r:Ex×St} {o:Nat},r.1 ≠ .nm->Aa3 f lp o (some r)=some r:=fun {r o} hr=>by
  cases r with
  | mk e s=>cases e <;> first | exact absurd rfl hr | rfl
 have key:∀ d i o,i+d=n->d<o->(Av f lp o (S i)).sem=some (match AN q d i with
   | none=>fin
   | some k=>x k):=λd=>by
  induction d with
  | zero =>
   intro i o hi ho;obtain ⟨o,rfl⟩:∃ p,o=p+1:=⟨o-1,by omega⟩;obtain rfl:i=n:=by omega
   rw [Af h0,stop hfin];rfl
  | succ d ih =>
   intro i o hi ho;obtain ⟨o,rfl⟩:∃ p,o=p+1:=⟨o-1,by omega⟩;cases hq:q i with
   | true=>rw [Af (ht i (by omega) hq),stop (hx i),Dy hq]
   | false =>rw [Af (h i (by omega) hq),Dz hq];exact ih (i+1) o (by omega) (by omega)
 exact key n 0 o (Nat.zero_add n) ho
section
variable (s:Sh7) (t lc:Int)
def AmP:List Int->A5
 | [t,lc]=>.br (plB s) (.br (ile 0 t) (.leaf (iV (F7 (Bm (locL s s.nx (toN t))) (Ec (locL s s.nx (toN t))) lc),[])) .fail) .fail
 | _=>.fail
def AmR (c:Int):St:=⟨jsV 26 0 Aa [(2,iV lc),(7,.ref 1),(8,iV c)],[cl7 s,.row 3 1 (Bm (locL s s.nx (toN t))) (HI (locL s s.nx (toN t)))]⟩
def f103:Ex×St:=(.ex 0,⟨jsV 26 0 Aa [],[]⟩)
def Are (k:Nat):Ex×St:=(.rt,⟨jsV 26 0 Aa [(6,iV (wr .i64 (Ai 7 (ofNat k))))],[]⟩)
end
def lp103:Lp:=⟨bmK 26 0 [2,7,8],2,bmK 26 0 [6],0,4611686018427387905⟩
noncomputable def tb103:A7:=(40,shI AcC)::[]
theorem tb103_ok:Ao Tryz.prog Gl tb103:=.cons AlL .nil
noncomputable def Atp (id:Nat) (L:LT):St->T (Ex×St):=λst=>AA tab ⟨Aw tb103,L,Gl⟩ (As Tryz.f103 id) id st
def AcI:List (Nat×Lp×List (Nat×(Nat->V))):=[(0,lp103,[])]
section
variable {s:Sh7} (hF:plB s=true) (t lc:Int)
include hF
theorem l16:Bm (locL s s.nx (toN t)) <= 1000:=by
 have:=Fj (s:=s) (toN t) s.nx;have:=(Bw hF).1;omega
theorem ArG:(Av (Atp 0 (Go.Sy.askL AcI)) lp103 4611686018427387905 (AmR s t lc 0)).sem=some (match AN (λk=>ieq (Ec (locL s s.nx (toN t)) k) lc) (Bm (locL s s.nx (toN t))) 0 with
  | none=>f103
  | some k=>Are k) :=
 Mz (S:=λi=>AmR s t lc (ofNat i)) (show (Ex.ex 0) ≠ .nm from nofun) (λ_=>(show Ex.rt ≠ .nm from nofun))
  (λi hi h=>DW.rd (.k (ofNat_lt hi) <| .k (Ad hi) <| .k (decide_eq_true hi) <| .k h <| .e (nm1 (f:=AmR s t lc) (w16 hi (l16 hF t)))) (by kernel_rfl)) (λi hi h=>DW.rd (.k (ofNat_lt hi) <| .k (Ad hi) <| .k (decide_eq_true hi) <| .k h <| .l) (by kernel_rfl)) (DW.rd (.k (DY (Bm (locL s s.nx (toN t)))) .l) (by kernel_rfl)) (by have:=l16 hF t; omega)
end
theorem Apn:Ap Tryz.prog Gl 103 (shI AmP):=Acn Tryz.func103 (by kernel_rfl) (by kernel_rfl) (Γ:=λ_ _=>cxA Gl tb103 AcI) (λ_ _=>rfl) (λ_ _=>AS tb103_ok AcI) λs l v h' h=>by
 unfold AmP at h;split at h
 ·rename_i t lc
  obtain ⟨hF,h⟩:=Ac h;obtain ⟨ht,h⟩:=Ac h;cases Ab h;have hr:=ArG hF t lc;unfold F7 tO;cases hq:AN (λk=>ieq (Ec (locL s s.nx (toN t)) k) lc) (Bm (locL s s.nx (toN t))) 0 with
  | none =>rw [hq] at hr;exact ⟨_,DW.ok (.k (eL s.ne) <| .k (eL s.nx) <| .k (eL s.nr) <| .k (eL2 s.nc s.C) <| .k hF <| .k ht <| .a hr <| .l) (by kernel_rfl),Am.refl _⟩
  | some k =>rw [hq] at hr;exact ⟨_,DW.ok (.k (eL s.ne) <| .k (eL s.nx) <| .k (eL s.nr) <| .k (eL2 s.nc s.C) <| .k hF <| .k ht <| .a hr <| .l) (by kernel_rfl),Am.refl _⟩
 ·cases h
section
variable (s:Sh7) (u:Nat)
def KX:Nat->Int
 | 0=>wr .i64 (Ai 7 (ofNat (Bm (locL s s.nx (toN (s.X u).th)))))
 | i+1=>bif isT s (toN (s.X u).th) i && isR s i then wr .i64 (Ai (KX i) 1) else KX i
def VP (r c:Int):St:=⟨jsV 59 0 Aa [(1,.ptr 0 0),(3,.ref 2),(4,nV u),(5,.ptr 3 0),(6,iV r),(7,iV c)],[cl7 s,.row 3 1 0 Aa,.row 3 1 u (λk=>iV (rg9 s k)),.cells [iV (s.X u).th,iV (s.X u).pl,iV (s.X u).dir,iV (s.X u).loc,iV (s.X u).val]]⟩
def Ane:Ex×St:=(.ex 2,⟨jsV 59 0 Aa [(1,.ptr 0 0),(3,.ref 2),(4,nV u),(6,iV (KX s u u))],[cl7 s,.row 3 1 0 Aa,.row 3 1 u (λk=>iV (rg9 s k))]⟩)
def T38 (c:Int) (n:Nat) (g:Nat->V):St:=⟨jsV 59 0 Aa [(1,.ptr 0 0),(3,.ref 2),(4,iV c)],[cl7 s,.row 3 1 0 Aa,.row 3 1 n g]⟩
def S38 (i:Nat):St:=T38 s (ofNat i) i (λk=>iV (rg9 s k))
def x38:Ex×St:=(.ex 0,⟨jsV 59 0 Aa [(3,.ref 2)],[cl7 s,.row 3 1 0 Aa,.row 3 1 s.nx (λk=>iV (rg9 s k))]⟩)
def AkR:A5:=.br (plB s) (.leaf (.ref 0,[.row 3 1 s.nx λk=>iV (rg9 s k)])) .fail
end
def AcR:Lp:=⟨bmK 59 0 [1,3,4,5,6,7],4,bmK 59 0 [1,3,4,6],3,4611686018427387905⟩
def ApL:Lp:=⟨bmK 59 0 [1,3,4],3,bmK 59 0 [3],3,4611686018427387905⟩
noncomputable def AnS:A7:=(40,shI AcC)::[]
noncomputable def B38 (id:Nat) (L:LT):St->T (Ex×St):=λst=>AA tab ⟨Aw AnS,L,Gl⟩ (As Tryz.f38 id) id st
def AgJ (s:Sh7):List (Nat×Lp×List (Nat×(Nat->V))):=[(0,ApL,[(2,λk=>iV (rg9 s k))]),(2,AcR,[])]
section
variable {s:Sh7} (hF:plB s=true) {u i:Nat}
include hF
theorem n16 (hu:u<s.nx):u <= 1000:=by
 have:=(Bw hF).1;omega
theorem Afv (hu:u<s.nx):ile 0 (s.X u).th=true:=by
 have h1:=(Bw hF).2.2.2 u hu;simp only [Al,Bool.and_eq_true] at h1;exact h1.1
theorem Ar2 (hi:i<u) (hu:u<s.nx) (h1:ieq (s.X i).th (s.X u).th=true) (h2:ieq (s.X i).dir 1=true):wr .i64 (Ai (KX s u i) 1)=KX s u (i+1):=by
 rw [KX,show isT s (toN (s.X u).th) i=true from (XU hF (Afv hF hu) (Nat.lt_trans hi hu)).trans h1,show isR s i=true from h2];rfl
theorem Aos (hi:i<u) (hu:u<s.nx) (h:ieq (s.X i).th (s.X u).th=false ∨ ieq (s.X i).dir 1=false):KX s u i=KX s u (i+1):=by
 rw [KX,show isT s (toN (s.X u).th) i=ieq (s.X i).th (s.X u).th from XU hF (Afv hF hu) (Nat.lt_trans hi hu)];rcases h with h | h
 ·rw [h]; rfl
 ·rw [show isR s i=false from h,Bool.and_false]; rfl
theorem AiD (hu:u<s.nx):∀ i,i <= u->KX s u i=ofNat (7+Bm (locL s s.nx (toN (s.X u).th))+nrF s i (toN (s.X u).th))
 | 0,_=>by
  have:=l16 hF (s.X u).th;exact He (k:=7+Bm (locL s s.nx (toN (s.X u).th))) (by omega)
 | i+1,hi=>by
  have hl:=l16 hF (s.X u).th;have hn:=Ac5 s i (toN (s.X u).th);have:=(Bw hF).1;rw [KX,AiD hu i (by omega)];unfold nrF at hn ⊢;cases hb:isT s (toN (s.X u).th) i && isR s i with
  | true =>rw [By (p:=λk=>isT s (toN (s.X u).th) k && isR s k) hb];exact D6 (by omega)
  | false=>rw [BQ (p:=λk=>isT s (toN (s.X u).th) k && isR s k) hb]; rfl
theorem Ar0 (hu:u<s.nx) (h:ieq (s.X u).dir 1=true):KX s u u=rg9 s u:=by
 rw [AiD hF hu u (Nat.le_refl u)];have hh:hsF s s.nx (toN (s.X u).th) (ofNat u)=true:=by
  rw [G6];unfold hsX isT;rw [show toN (ofNat u)=u from rfl,Nat.beq_refl,show isR s u=true from h,ofNat_lt hu,show ile 0 (ofNat u)=true from decide_eq_true (Int.natCast_nonneg _)];rfl
 unfold rg9 rI9 gtF;rw [hh];rfl
omit hF in
theorem Arz (hu:u<s.nx) (h:ieq (s.X u).dir 1=false):-1=rg9 s u:=by
 have hh:hsF s s.nx (toN (s.X u).th) (ofNat u)=false:=by
  rw [G6];unfold hsX isT;rw [show toN (ofNat u)=u from rfl,show isR s u=false from h,Bool.and_false,Bool.and_false,Bool.and_false]
 have _:=hu;unfold rg9;rw [hh];rfl
theorem ApW (hi:i<s.nx) {x:Int} (h:x=rg9 s i):(Ex.nm,T38 s (wr .i64 (Ai (ofNat i) 1)) (AE i 1) (AD i (λk=>iV (rg9 s k)) (iV x)))=(Ex.nm,S38 s (i+1)):=by
 unfold S38;exact nm3 (MZ hF hi) rfl (Sp _ _ _ (by rw [h]))
theorem AoO (hu:u<s.nx):(Av (B38 2 (Go.Sy.askL (AgJ s))) AcR 4611686018427387905 (VP s u (KX s u 0) 0)).sem=some (Ane s u) :=
 Bv (S:=λi=>VP s u (KX s u i) (ofNat i)) (m:=u) (show (Ex.ex 2) ≠ .nm from nofun) (λi hi=>DW.rd (.k (ofNat_lt hi) <| .k (Ad (Nat.lt_trans hi hu)) <| .c (ieq (s.X i).th (s.X u).th) (λh1=>.r 4 h1 <| .k (Ad (Nat.lt_trans hi hu)) <| .r 4 h1 <| .c (ieq (s.X i).dir 1) (λh2=>.k h2 <| .e (nm2 (f:=VP s u) (Ar2 hF (i:=i) hi hu h1 h2) (w16 hi (n16 hF hu)))) λh2=>.k h2 <| .e (nm2 (f:=VP s u) (Aos hF (i:=i) hi hu (.inr h2)) (w16 hi (n16 hF hu)))) λh1=>.r 8 h1 <| .k eF <| .e (nm2 (f:=VP s u) (Aos hF (i:=i) hi hu (.inl h1)) (w16 hi (n16 hF hu)))) (by kernel_rfl)) (DW.rd (.k (DY u) .l) (by kernel_rfl)) (by have:=n16 hF hu; omega)
theorem r38:(Av (B38 0 (Go.Sy.askL (AgJ s))) ApL 4611686018427387905 (S38 s 0)).sem=some (x38 s) :=
 Bv (S:=S38 s) (m:=s.nx) (show (Ex.ex 0) ≠ .nm from nofun) (λi hi=>DW.rd (.k (ofNat_lt hi) <| .k (Ad hi) <| .c (ieq (s.X i).dir 1) (λh1=>.k h1 <| .k (eL s.ne) <| .k (eL s.nx) <| .k (eL s.nr) <| .k (eL2 s.nc s.C) <| .k hF <| .k (Afv hF hi) <| .a (AoO hF hi) <| .k (AhW hF hi) <| .e (ApW hF hi (Ar0 hF hi h1))) λh1=>.k h1 <| .k (AhW hF hi) <| .e (ApW hF hi (Arz hi h1))) (by kernel_rfl)) (DW.rd (.k (DY s.nx) .l) (by kernel_rfl)) (by have:=(Bw hF).1; omega)
end
theorem Apj:Ap Tryz.prog Gl 38 (shT AkR):=KY Tryz.func38 (by kernel_rfl) (by kernel_rfl) (Γ:=λs=>cxA Gl AnS (AgJ s)) (λ_=>rfl) (λs=>AS (.cons AlL .nil) (AgJ s)) λs r h=>by
 obtain ⟨hF,h⟩:=Ac h;cases Ab h;exact DW.ok (.a (r38 hF) <| .l) (by kernel_rfl)
def lbC (y:Int):List UInt8:=bif ilt y 10 then BK [76,67,48] (Df y) else BK [76,67] (Df y)
def lbT:List V->A5
 | [.val (.int .i64 y)]=>.br (Al (ile 0 y) (ilt y 100)) (.leaf (.str (lbC y),[])) .fail
 | _=>.fail
noncomputable def tb104:A7:=(147,Qv)::[]
theorem tb104_ok:Ao Tryz.prog Gl tb104:=.cons Apk .nil
theorem Apm:Ap Tryz.prog Gl 104 lbT:=by
 refine Ah A2 mixed Tryz.func104 (by kernel_rfl) (by kernel_rfl) λvs v h' h=>?_;unfold lbT at h;split at h
 ·rename_i y
  have hx:=AS tb104_ok [] (G:=Gl);obtain ⟨hy,h⟩:=Ac h;cases Ab h;have hs:∀ l:List UInt8,l.length <= 100->H6 l (Df y)=true:=λl hl=>RR hl (NK y);exact ⟨_,cxA Gl tb104 [],_,Ba.refl _,rfl,hx.1,hx.2,DW.ok (.c (ilt y 10) (λh1=>.k h1 <| .k hy <| .k (hs [76,67,48] (by decide)) <| .e (by unfold lbC; rw [h1,cond_true])) λh1=>.k h1 <| .k hy <| .k (hs [76,67] (by decide)) <| .e (by unfold lbC; rw [h1,cond_false])) (by kernel_rfl),Am.refl _⟩
 ·cases h
end Go.Proofs.YtkbafjceglhjhaaGreatDoor.Er
