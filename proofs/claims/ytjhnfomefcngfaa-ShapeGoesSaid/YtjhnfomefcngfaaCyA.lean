/-
  Layer 3: architectures: what is known, what is legal, all edges of one. No conditions.
-/
import Derived.Test.YtjhnfomefcngfaaEdD
import Derived.Test.YtjhnfomefcngfaaSyQ
namespace Go.Proofs.Ytjhnfomefcngfaa.Ed
open Go.Sy
def ap1 {α:Type} (d:V->Option α) (F:α->T (V × List Blk)):List V->T (V × List Blk)
  | [v]=>match d v with
    | some a=>F a
    | none=>.fail
  | _=>.fail
def ap2 {α β:Type} (d:V->Option α) (e:V->Option β) (F:α->β->T (V × List Blk)):List V->T (V × List Blk)
  | [v,u]=>match d v,e u with
    | some a,some b=>F a b
    | _,_=>.fail
  | _=>.fail
theorem ap1_some {α:Type} {d:V->Option α} {c:α->V} (hd:∀ v a,d v = some a->v = c a) {F:α->T (V × List Blk)} {vs:List V} {r:V × List Blk} (h:(ap1 d F vs).sem = some r) :
    ∃ a,vs = [c a] ∧ (F a).sem = some r:=by
  unfold ap1 at h
  split at h
  · split at h
    · rename_i v _ a ha
      exact ⟨a,by rw [hd v a ha],h⟩
    · cases h
  · cases h
theorem ap2_some {α β:Type} {d:V->Option α} {e:V->Option β} {c:α->V} {c':β->V} (hd:∀ v a,d v = some a->v = c a) (he:∀ v b,e v = some b->v = c' b) {F:α->β->T (V × List Blk)}
    {vs:List V} {r:V × List Blk} (h:(ap2 d e F vs).sem = some r):∃ a b,vs = [c a,c' b] ∧ (F a b).sem = some r:=by
  unfold ap2 at h
  split at h
  · split at h
    · rename_i v u _ _ a b ha hb
      exact ⟨a,b,by rw [hd v a ha,he u b hb],h⟩
    · cases h
  · cases h
theorem gI_ok:∀ v a,gI v = some a->v = iV a:=fun _ _ h=>gI_some h
theorem toE_ok:∀ v a,toE v = some a->v = eV a:=fun _ _ h=>toE_some h
def out (v:V):T (V × List Blk):=.leaf (v,[])
def knownB (a:Int):Bool:=bor (ieq a 1) (ieq a 2)
def legalB (a n:Int):Bool:=bor (ilt n 14) (beqB (ilt n 22) (ieq a 1))
def hasB (a:Int) (e:E6):Bool :=
  bor (ieq e.kind 1) (bor (ieq e.kind 2) (bor (ieq e.kind 3) (bor (ieq e.kind 4) (sel (ieq e.kind 5) (beqB (ieq e.fence 1) (ieq a 1)) (ieq a 2)))))
theorem known77 (a:Int):(finF (evalF tab cx6 Try.f117 [iV a] [])).sem = some (bV (knownB a),[]):=by
  have h1:(finF (evalF tab cx6 Try.f117 [iV a] [])).path [true,true,true] = some ([ieq a 1,ieq a 1,ieq a 1],(bV true,[])):=by kernel_rfl
  have h2:(finF (evalF tab cx6 Try.f117 [iV a] [])).path [false,false,false] = some ([ieq a 1,ieq a 1,ieq a 1],(bV (ieq a 2),[])):=by kernel_rfl
  unfold knownB
  cases h:ieq a 1 with
  | true=>exact sem_of_path h1 (by rw [h])
  | false=>exact sem_of_path h2 (by rw [h])
theorem known79 (a:Int):(finF (evalF tab cx6 Try.f99 [iV a] [])).sem = some (bV (knownB a),[]):=by
  have h1:(finF (evalF tab cx6 Try.f99 [iV a] [])).path [true,true,true] = some ([ieq a 1,ieq a 1,ieq a 1],(bV true,[])):=by kernel_rfl
  have h2:(finF (evalF tab cx6 Try.f99 [iV a] [])).path [false,false,false] = some ([ieq a 1,ieq a 1,ieq a 1],(bV (ieq a 2),[])):=by kernel_rfl
  unfold knownB
  cases h:ieq a 1 with
  | true=>exact sem_of_path h1 (by rw [h])
  | false=>exact sem_of_path h2 (by rw [h])
theorem legal78 (a n:Int):(finF (evalF tab cx6 Try.f118 [iV a,iV n] [])).sem = some (bV (legalB a n),[]):=by
  have h1:(finF (evalF tab cx6 Try.f118 [iV a,iV n] [])).path [true] = some ([ilt n 14],(bV true,[])):=by kernel_rfl
  have h2:(finF (evalF tab cx6 Try.f118 [iV a,iV n] [])).path [false] = some ([ilt n 14],(bV (beqB (ilt n 22) (ieq a 1)),[])):=by kernel_rfl
  unfold legalB
  cases h:ilt n 14 with
  | true=>exact sem_of_path h1 (by rw [h])
  | false=>exact sem_of_path h2 (by rw [h])
theorem has80 (a:Int) (e:E6):(finF (evalF tab cx6 Try.f100 [iV a,eV e] [])).sem = some (bV (hasB a e),[]):=by
  have h1:(finF (evalF tab cx6 Try.f100 [iV a,eV e] [])).path [true,true] = some ([ieq e.kind 1,ieq e.kind 1],(bV true,[])):=by kernel_rfl
  have h2:(finF (evalF tab cx6 Try.f100 [iV a,eV e] [])).path [false,true,true] = some ([ieq e.kind 1,ieq e.kind 2,ieq e.kind 2],(bV true,[])):=by kernel_rfl
  have h3:(finF (evalF tab cx6 Try.f100 [iV a,eV e] [])).path [false,false,true,true] = some ([ieq e.kind 1,ieq e.kind 2,ieq e.kind 3,ieq e.kind 3],(bV true,[])):=by kernel_rfl
  have h4:(finF (evalF tab cx6 Try.f100 [iV a,eV e] [])).path [false,false,false,true] = some ([ieq e.kind 1,ieq e.kind 2,ieq e.kind 3,ieq e.kind 4],(bV true,[])):=by kernel_rfl
  have h5:(finF (evalF tab cx6 Try.f100 [iV a,eV e] [])).path [false,false,false,false,true] = some ([ieq e.kind 1,ieq e.kind 2,ieq e.kind 3,ieq e.kind 4,ieq e.kind 5],(bV (beqB (ieq e.fence 1) (ieq a 1)),[])):=by kernel_rfl
  have h6:(finF (evalF tab cx6 Try.f100 [iV a,eV e] [])).path [false,false,false,false,false] = some ([ieq e.kind 1,ieq e.kind 2,ieq e.kind 3,ieq e.kind 4,ieq e.kind 5],(bV (ieq a 2),[])):=by kernel_rfl
  unfold hasB
  cases c1:ieq e.kind 1 with
  | true=>exact sem_of_path h1 (by rw [c1])
  | false =>
  cases c2:ieq e.kind 2 with
  | true=>exact sem_of_path h2 (by rw [c1,c2])
  | false =>
  cases c3:ieq e.kind 3 with
  | true=>exact sem_of_path h3 (by rw [c1,c2,c3])
  | false =>
  cases c4:ieq e.kind 4 with
  | true=>exact sem_of_path h4 (by rw [c1,c2,c3,c4])
  | false =>
  cases c5:ieq e.kind 5 with
  | true=>exact sem_of_path h5 (by rw [c1,c2,c3,c4,c5])
  | false=>exact sem_of_path h6 (by rw [c1,c2,c3,c4,c5])
theorem p77:PureC Try.prog Gl 117 (ap1 gI fun a=>out (bV (knownB a))):=by
  refine PureC.congr (pureC_body tabOK mixed Try.func117 (by kernel_rfl) (by kernel_rfl) (Γ:=cx6) (cx_ok tb6_ok _)) fun vs r h=>?_
  obtain ⟨a,rfl,h⟩:=ap1_some gI_ok h
  rw [sem_leaf h]
  exact known77 a
theorem p79:PureC Try.prog Gl 99 (ap1 gI fun a=>out (bV (knownB a))):=by
  refine PureC.congr (pureC_body tabOK mixed Try.func99 (by kernel_rfl) (by kernel_rfl) (Γ:=cx6) (cx_ok tb6_ok _)) fun vs r h=>?_
  obtain ⟨a,rfl,h⟩:=ap1_some gI_ok h
  rw [sem_leaf h]
  exact known79 a
theorem p78:PureC Try.prog Gl 118 (ap2 gI gI fun a n=>out (bV (legalB a n))):=by
  refine PureC.congr (pureC_body tabOK mixed Try.func118 (by kernel_rfl) (by kernel_rfl) (Γ:=cx6) (cx_ok tb6_ok _)) fun vs r h=>?_
  obtain ⟨a,n,rfl,h⟩:=ap2_some gI_ok gI_ok h
  rw [sem_leaf h]
  exact legal78 a n
theorem p80:PureC Try.prog Gl 100 (ap2 gI toE fun a e=>out (bV (hasB a e))):=by
  refine PureC.congr (pureC_body tabOK mixed Try.func100 (by kernel_rfl) (by kernel_rfl) (Γ:=cx6) (cx_ok tb6_ok _)) fun vs r h=>?_
  obtain ⟨a,e,rfl,h⟩:=ap2_some gI_ok toE_ok h
  rw [sem_leaf h]
  exact has80 a e
theorem has_legal (k:Nat) (hk:k < 112) (a:Int) (ha:knownB a = true):hasB a (madeE k) = legalB a (Int.ofNat k):=by
  have h1:(List.range 112).map (fun k:Nat=>hasB 1 (madeE k)) = (List.range 112).map fun k:Nat=>legalB 1 (Int.ofNat k):=by kernel_rfl
  have h2:(List.range 112).map (fun k:Nat=>hasB 2 (madeE k)) = (List.range 112).map fun k:Nat=>legalB 2 (Int.ofNat k):=by kernel_rfl
  simp only [knownB,bor,ieq,Bool.or_eq_true,beq_iff_eq] at ha
  rcases ha with rfl | rfl
  · exact all_below h1 k hk
  · exact all_below h2 k hk
noncomputable def tb8:List (Nat × (List V->T (V × List Blk))):=(117,ap1 gI fun a=>out (bV (knownB a))) :: (99,ap1 gI fun a=>out (bV (knownB a))) :: (118,ap2 gI gI fun a n=>out (bV (legalB a n))) :: (100,ap2 gI toE fun a e=>out (bV (hasB a e))) :: tb7
theorem tb8_ok:AllPure Try.prog Gl tb8:=.cons p77 <| .cons p79 <| .cons p78 <| .cons p80 tb7_ok
noncomputable def cx8:Cx:=cxOf Gl tb8 [(0,⟨[],2,[],2,113⟩)]
def legR (a:Int) (e:E6):Bool:=sel (bnot (knownB a)) false (sel (bnot (ieq (codeF e) 0)) false (legalB a (codeN e)))
def legF (a:Int) (e:E6):Int:=sel (bnot (knownB a)) 1 (codeF e)
def legP (a:Int) (e:E6):V:=.tup [bV (legR a e),iV (legF a e)]
theorem legal32 (a:Int) (e:E6):(finF (evalF tab cx8 Try.f110 [iV a,eV e] [])).sem = some (legP a e,[]):=by
  have h1:(finF (evalF tab cx8 Try.f110 [iV a,eV e] [])).path [true] = some ([bnot (knownB a)],(.tup [bV false,iV 1],[])):=by kernel_rfl
  have h2:(finF (evalF tab cx8 Try.f110 [iV a,eV e] [])).path [false,true] = some ([bnot (knownB a),bnot (ieq (codeF e) 0)],(.tup [bV false,iV (codeF e)],[])):=by kernel_rfl
  have h3:(finF (evalF tab cx8 Try.f110 [iV a,eV e] [])).path [false,false] = some ([bnot (knownB a),bnot (ieq (codeF e) 0)],(.tup [bV (legalB a (codeN e)),iV 0],[])):=by kernel_rfl
  unfold legP legR legF
  cases c1:bnot (knownB a) with
  | true=>exact sem_of_path h1 (by rw [c1])
  | false =>
  cases c2:bnot (ieq (codeF e) 0) with
  | true=>exact sem_of_path h2 (by rw [c1,c2])
  | false =>
    have:codeF e = 0:=by simpa [bnot,ieq] using c2
    rw [this]
    exact sem_of_path h3 (by rw [c1,c2])
theorem codeF_cases (e:E6):(∃ k:Nat,k < 112 ∧ codeF e = 0 ∧ codeN e = Int.ofNat k ∧ madeE k = e ∧ nameF e = nameS k) ∨ (codeF e = 30 ∧ codeN e = 0 ∧ nameF e = [] ∧ ∀ k,k < 112->madeE k ≠ e):=by
  unfold codeF codeN nameF
  cases h:findE e 112 0 with
  | some k =>
    obtain ⟨_,h2,h3⟩:=findE_spec e 112 0 k h
    exact .inl ⟨k,by omega,rfl,rfl,h3,rfl⟩
  | none =>
    refine .inr ⟨rfl,rfl,rfl,?_⟩
    have:∀ m k,findE e m k = none->∀ j,k <= j->j < k+m->madeE j ≠ e:=by
      intro m
      induction m with
      | zero=>intro k _ j h1 h2; omega
      | succ m ih =>
        intro k hn j h1 h2
        simp only [findE] at hn
        split at hn
        · cases hn
        · rename_i hne
          by_cases hj:j = k
          · subst hj
            intro he
            rw [(eqE_iff _ _).2 he] at hne
            cases hne
          · exact ih _ hn j (by omega) (by omega)
    exact fun k hk=>this 112 0 h k (by omega) (by omega)
theorem legal33 (a:Int) (e:E6):(finF (evalF tab cx8 Try.f65 [iV a,eV e] [])).sem = some (legP a e,[]):=by
  have h1:(finF (evalF tab cx8 Try.f65 [iV a,eV e] [])).path [true] = some ([bnot (knownB a)],(.tup [bV false,iV 1],[])):=by kernel_rfl
  have h2:(finF (evalF tab cx8 Try.f65 [iV a,eV e] [])).path [false,true] = some ([bnot (knownB a),bnot (ieq (codeF e) 0)],(.tup [bV false,iV 30],[])):=by kernel_rfl
  have h3:(finF (evalF tab cx8 Try.f65 [iV a,eV e] [])).path [false,false] = some ([bnot (knownB a),bnot (ieq (codeF e) 0)],(.tup [bV (hasB a e),iV 0],[])):=by kernel_rfl
  unfold legP legR legF
  cases c1:bnot (knownB a) with
  | true=>exact sem_of_path h1 (by rw [c1])
  | false =>
  rcases codeF_cases e with ⟨k,hk,hf,hn,he,_⟩ | ⟨hf,_⟩
  · have c2:bnot (ieq (codeF e) 0) = false:=by rw [hf]; rfl
    have ha:knownB a = true:=by simpa [bnot] using c1
    rw [c2,hf,hn,<- has_legal k hk a ha,he]
    exact sem_of_path h3 (by rw [c1,c2])
  · have c2:bnot (ieq (codeF e) 0) = true:=by rw [hf]; rfl
    rw [c2,hf]
    exact sem_of_path h2 (by rw [c1,c2])
theorem p32:PureC Try.prog Gl 110 (ap2 gI toE fun a e=>out (legP a e)):=by
  refine PureC.congr (pureC_body tabOK mixed Try.func110 (by kernel_rfl) (by kernel_rfl) (Γ:=cx8) (cx_ok tb8_ok _)) fun vs r h=>?_
  obtain ⟨a,e,rfl,h⟩:=ap2_some gI_ok toE_ok h
  rw [sem_leaf h]
  exact legal32 a e
theorem p33:PureC Try.prog Gl 65 (ap2 gI toE fun a e=>out (legP a e)):=by
  refine PureC.congr (pureC_body tabOK mixed Try.func65 (by kernel_rfl) (by kernel_rfl) (Γ:=cx8) (cx_ok tb8_ok _)) fun vs r h=>?_
  obtain ⟨a,e,rfl,h⟩:=ap2_some gI_ok toE_ok h
  rw [sem_leaf h]
  exact legal33 a e
end Go.Proofs.Ytjhnfomefcngfaa.Ed
namespace Go.Proofs.Ytjhnfomefcngfaa.Ed
open Go.Sy
open Int (ofNat)
def okE (v:V):Bool:=match toE v with
  | some _=>true
  | none=>false
def edE (v:V):E6:=match toE v with
  | some e=>e
  | none=>zeroE
def allN (n:Nat) (p:Nat->Bool):Bool:=(List.range n).all p
theorem allN_iff {n:Nat} {p:Nat->Bool}:allN n p = true ↔ ∀ i,i < n->p i = true:=by simp [allN]
theorem allN_ok (n:Nat) (f:Nat->E6):allN n (fun i=>okE (eV (f i))) = true:=allN_iff.2 fun _ _=>rfl
theorem okE_spec {v:V} (h:okE v = true):v = eV (edE v):=by
  unfold okE at h
  unfold edE
  split at h
  · rename_i e he
    exact toE_some he
  · cases h
def gSl:V->Option (Nat × (Nat->V))
  | .sl s n g=>match Nat.beq s 6 with
    | true=>some (n,g)
    | false=>match n with
      | 0=>some (0,g)
      | _=>none
  | .slr s n _ g=>match Nat.beq s 6 with
    | true=>some (n,g)
    | false=>none
  | _=>none
def apL {α:Type} (v:V) (F:Nat->(Nat->E6)->T α):T α :=
  match gSl v with
  | some (n,g)=>.br (allN n fun i=>okE (g i)) (F n fun i=>edE (g i)) .fail
  | none=>.fail
def edgesV (n:Nat) (f:Nat->E6):V:=.sl 6 n fun i=>eV (f i)
theorem apL_some {α:Type} {v:V} {F:Nat->(Nat->E6)->T α} {r:α} (h:(apL v F).sem = some r) :
    ∃ n f,(∀ (S:Nat->Prop) (w:World) (c:Value),VR S w v noK c->VR S w (edgesV n f) noK c) ∧ (F n f).sem = some r:=by
  unfold apL at h
  split at h
  · rename_i n g hg
    obtain ⟨h1,h2⟩:=sem_br_fail h
    have h1:=allN_iff.1 h1
    refine ⟨n,_,fun S w c hv=>?_,h2⟩
    unfold gSl at hg
    split at hg
    · rename_i s n' g'
      split at hg
      · rename_i hs
        simp only [Option.some.injEq,Prod.mk.injEq] at hg
        obtain ⟨rfl,rfl⟩:=hg
        have hs:s = 6:=Nat.eq_of_beq_eq_true hs
        subst hs
        obtain ⟨a,cap,e,hc,hb⟩:=hv
        refine ⟨a,cap,e,hc,hb.imp id ?_⟩
        rintro ⟨b,o,ea,hel⟩
        refine ⟨b,o,ea,fun i hi=>?_⟩
        have:=hel i hi
        rw [okE_spec (h1 i hi)] at this
        exact this
      · split at hg
        · simp only [Option.some.injEq,Prod.mk.injEq] at hg
          obtain ⟨rfl,rfl⟩:=hg
          obtain ⟨a,cap,e,hc,_⟩:=hv
          exact ⟨a,cap,e,hc,.inl rfl⟩
        · cases hg
    · rename_i s n' m' g'
      split at hg
      · rename_i hs
        simp only [Option.some.injEq,Prod.mk.injEq] at hg
        obtain ⟨rfl,rfl⟩:=hg
        have hs:s = 6:=Nat.eq_of_beq_eq_true hs
        subst hs
        obtain ⟨a,cap,e,hc,hm,hb⟩:=hv
        refine ⟨a,cap,e,Nat.le_trans hc hm,?_⟩
        rcases hb with h0 | ⟨b,o,ea,hel⟩
        · exact .inl (by omega)
        · refine .inr ⟨b,o,ea,fun i hi=>?_⟩
          have:=hel i (by omega)
          rw [okE_spec (h1 i hi)] at this
          exact this
      · cases hg
    · cases hg
  · cases h
def apL1 (F:Nat->(Nat->E6)->T (V × List Blk)):List V->T (V × List Blk)
  | [v]=>apL v F
  | _=>.fail
theorem apL1_some {F:Nat->(Nat->E6)->T (V × List Blk)} {vs:List V} {r:V × List Blk} (h:(apL1 F vs).sem = some r):∃ n f,ArgLE vs [edgesV n f] ∧ (F n f).sem = some r:=by
  unfold apL1 at h
  split at h
  · obtain ⟨n,f,h1,h2⟩:=apL_some h
    refine ⟨n,f,fun S w cs hv=>?_,h2⟩
    obtain ⟨c,l,rfl,q1,q2⟩:=hv
    exact ⟨c,l,rfl,h1 S w c q1,q2⟩
  · cases h
theorem succ_wr {i n:Nat} (h:i < n) (hn:n <= 4611686018427387904):wr .i64 (iadd (ofNat i) 1) = ofNat (i+1):=by
  unfold wr iadd IntKind.wrap
  simp [IntKind.bits,IntKind.signed]
  omega
theorem ofNat_lt {i n:Nat} (h:i < n):ilt (ofNat i) (ofNat n) = true:=by simp [ilt]; omega
theorem ofNat_ge {i n:Nat} (h:n <= i):ilt (ofNat i) (ofNat n) = false:=by simp [ilt]; omega
theorem ofNat_in {i n:Nat} (h:i < n):band (ile 0 (ofNat i)) (ilt (ofNat i) (ofNat n)) = true:=by rw [ofNat_lt h]; simp [band,ile]
noncomputable def cx9 (l:List (Nat × Lp)):Cx:=cxOf Gl tb8 l
def smallN (n:Nat):Bool:=decide (n <= 4611686018427387904)
end Go.Proofs.Ytjhnfomefcngfaa.Ed
namespace Go.Proofs.Ytjhnfomefcngfaa.Ed
open Go.Sy
def fitN (n:Nat):Bool:=decide (n * 40 <= 140737488355328)
section
variable (L:LT)
end
end Go.Proofs.Ytjhnfomefcngfaa.Ed
namespace Go.Proofs.Ytjhnfomefcngfaa.Ed
open Go.Sy
end Go.Proofs.Ytjhnfomefcngfaa.Ed
namespace Go.Proofs.Ytjhnfomefcngfaa.Ed
open Go.Sy
end Go.Proofs.Ytjhnfomefcngfaa.Ed
namespace Go.Sy
def cutR (l:Lp) (r:Ex × St):Ex × St :=
  match r.1 with
  | .nm=>(.nm,cutS l.ks l.n r.2)
  | .ex i=>(.ex i,cutS l.ke l.ne r.2)
  | .rt=>(.rt,cutS l.ke l.ne r.2)
def roundT (f:St->T (Ex × St)) (l:Lp) (st:St):Option (Ex × St):=((f st).bind fun r=>T.leaf (cutR l r)).sem
def goOn (f:St->T (Ex × St)) (l:Lp) (m:Nat):Option (Ex × St)->Option (Ex × St)
  | some (.nm,st)=>(iterT f l m st).sem
  | some (e,st)=>some (e,st)
  | none=>none
theorem iter_round {f:St->T (Ex × St)} {l:Lp} {m:Nat} {st:St} {t:Option (Ex × St)} (h:roundT f l st = t):(iterT f l (m+1) st).sem = goOn f l m t:=by
  subst h
  show ((f st).bind _).sem = _
  unfold roundT
  rw [sem_bind,sem_bind]
  cases (f st).sem with
  | none=>rfl
  | some r =>
    obtain ⟨e,s⟩:=r
    cases e <;> rfl
theorem goOn_nm {f:St->T (Ex × St)} {l:Lp} {m:Nat} {st:St}:goOn f l m (some (.nm,st)) = (iterT f l m st).sem:=rfl
theorem goOn_ex {f:St->T (Ex × St)} {l:Lp} {m:Nat} {i:Nat} {st:St}:goOn f l m (some (.ex i,st)) = some (.ex i,st):=rfl
theorem goOn_rt {f:St->T (Ex × St)} {l:Lp} {m:Nat} {st:St}:goOn f l m (some (.rt,st)) = some (.rt,st):=rfl
theorem sel_true {α:Type} (x y:α):sel true x y = x:=rfl
theorem sel_false {α:Type} (x y:α):sel false x y = y:=rfl
def TLe {α:Type} (t t':T α):Prop:=∀ r,t.sem = some r->t'.sem = some r
theorem TLe.refl {α:Type} (t:T α):TLe t t:=fun _ h=>h
theorem TLe.bind {α β:Type} {t t':T α} {f f':α->T β} (h:TLe t t') (hf:∀ a,TLe (f a) (f' a)):TLe (t.bind f) (t'.bind f'):=fun r hr=>by
  obtain ⟨a,h1,h2⟩:=sem_bind_some hr
  rw [sem_bind,h a h1]
  exact hf a r h2
def LLe (M L:Nat->(St->T (Ex × St))->St->T (Ex × St)):Prop:=∀ id f f' st,(∀ st,TLe (f st) (f' st))->TLe (M id f st) (L id f' st)
theorem iterT_le {f f':St->T (Ex × St)} (h:∀ st,TLe (f st) (f' st)) (l:Lp):∀ (m:Nat) (st:St),TLe (iterT f l m st) (iterT f' l m st)
  | 0,_=>TLe.refl _
  | m+1,st=>by
    refine TLe.bind (h st) fun r=>?_
    cases r.1 with
    | nm=>exact iterT_le h l m _
    | ex i=>exact TLe.refl _
    | rt=>exact TLe.refl _
theorem loopsBy_le (ls:List (Nat × Lp)):LLe (loopsBy ls) (loopsBy ls):=fun id f f' st h=>by
  unfold loopsBy
  split
  · exact iterT_le h _ _ _
  · exact TLe.refl _
def onP (k:Nat) (p:(St->T (Ex × St))->St->Bool) (r:Ex × St) (L:Nat->(St->T (Ex × St))->St->T (Ex × St)):Nat->(St->T (Ex × St))->St->T (Ex × St) :=
  fun id f st=>match Nat.beq id k with
    | true=>.br (p f st) (.leaf r) .fail
    | false=>L id f st
noncomputable def isP (L:Nat->(St->T (Ex × St))->St->T (Ex × St)) (k:Nat) (r:Ex × St):(St->T (Ex × St))->St->Bool :=
  fun f st=>@decide ((L k f st).sem = some r) (Classical.propDecidable _)
theorem isP_true {L:Nat->(St->T (Ex × St))->St->T (Ex × St)} {k:Nat} {r:Ex × St} {f:St->T (Ex × St)} {st:St} (h:(L k f st).sem = some r):isP L k r f st = true:=by
  unfold isP
  exact @decide_eq_true _ (Classical.propDecidable _) h
theorem onP_le {M L:Nat->(St->T (Ex × St))->St->T (Ex × St)} {k:Nat} {r:Ex × St} (hM:LLe M L) (hL:LLe L L):LLe (onP k (isP L k r) r M) L:=fun id f f' st hf r' hr=>by
  unfold onP at hr
  cases hk:Nat.beq id k with
  | true =>
    rw [hk] at hr
    obtain ⟨h1,h2⟩:=sem_br_fail hr
    rw [sem_leaf h2]
    unfold isP at h1
    have h1:=@of_decide_eq_true _ (Classical.propDecidable _) h1
    rw [Nat.eq_of_beq_eq_true hk]
    exact hL k f f' st hf _ h1
  | false =>
    rw [hk] at hr
    exact hM id f f' st hf _ hr
theorem evalC_le {τ:List Ty} {Γ:Cx} {L L':Nat->(St->T (Ex × St))->St->T (Ex × St)} (h:LLe L L') :
    ∀ (c:Code) (id:Nat) (st:St),TLe (evalC τ { Γ with loop:=L } c id st) (evalC τ { Γ with loop:=L' } c id st):=by
  intro c
  induction c with
  | skip=>intro id st; exact TLe.refl _
  | region i ops draw=>intro id st; exact TLe.refl _
  | seq a b iha ihb =>
    intro id st
    refine TLe.bind (iha id st) fun r=>?_
    cases r.1 with
    | nm=>exact ihb id r.2
    | ex j=>exact TLe.refl _
    | rt=>exact TLe.refl _
  | cond x a b iha ihb =>
    intro id st
    show TLe (match ev ⟨Γ.call,Γ.glob⟩ st x with | .val (.bool q)=>T.br q (evalC τ { Γ with loop:=L } a id st) (evalC τ { Γ with loop:=L } b id st) | _=>.fail) (match ev ⟨Γ.call,Γ.glob⟩ st x with | .val (.bool q)=>T.br q (evalC τ { Γ with loop:=L' } a id st) (evalC τ { Γ with loop:=L' } b id st) | _=>.fail)
    split
    · rename_i q _
      cases q with
      | true=>exact iha id st
      | false=>exact ihb id st
    · exact TLe.refl _
  | block i c ih =>
    intro id st
    refine TLe.bind (ih i st) fun r=>?_
    cases r.1 with
    | nm=>exact TLe.refl _
    | ex j=>exact TLe.refl _
    | rt=>exact TLe.refl _
  | loop c ih =>
    intro id st
    exact h id _ _ st (ih id)
  | exit i=>intro id st; exact TLe.refl _
  | ret=>intro id st; exact TLe.refl _
  | _=>intro id st; exact TLe.refl _
theorem told_le {τ:List Ty} {call:FuncId->List V->St->T (V × Res)} {G:Nat->V} {fn:Func} {vs:List V} {L L':Nat->(St->T (Ex × St))->St->T (Ex × St)}
    (h:LLe L L'):TLe (finF (evalF τ ⟨call,L,G⟩ fn vs [])) (finF (evalF τ ⟨call,L',G⟩ fn vs [])):=by
  refine TLe.bind ?_ fun _=>TLe.refl _
  unfold evalF
  cases fn.body with
  | none=>exact TLe.refl _
  | some c=>exact TLe.bind (evalC_le (Γ:=⟨call,L,G⟩) h c 0 _) fun _=>TLe.refl _
theorem roundT_le {f f':St->T (Ex × St)} {l:Lp} {st:St} {r:Ex × St} (h:TLe (f st) (f' st)) (hr:roundT f l st = some r):roundT f' l st = some r:=TLe.bind h (fun _=>TLe.refl _) r hr
def fillB (v:V):Blk->Blk
  | .row e s 0 _=>.row e s 0 fun _=>v
  | .jag j=>.jag { j with mem:=fun i k=>vifS (nblt k (j.len i)) (j.mem i k) v }
  | b=>b
def fillH (h:List Blk) (id:Nat) (v:V):List Blk :=
  match h[id]? with
  | some b=>h.set id (fillB v b)
  | none=>h
def fillS (st:St):List (Nat × V)->St
  | []=>st
  | (id,v) :: l=>fillS ⟨st.t,fillH st.h id v⟩ l
theorem LE_fill {Γ:Cx0}:∀ (l:List (Nat × V)) (st:St),LE Γ st (fillS st l)
  | [],st=>LE.refl st
  | (id,v) :: l,st=>by
    refine LE.trans ?_ (LE_fill l _)
    unfold fillH
    cases hb:st.h[id]? with
    | none=>exact LE.refl st
    | some b =>
      have same:st.h.set id b = st.h:=by
        have hl:=(List.getElem?_eq_some_iff.1 hb).1
        have:=(List.getElem?_eq_some_iff.1 hb).2
        rw [<- this,List.set_getElem_self]
      cases b with
      | row e s n g =>
        cases n with
        | zero=>exact LE_row hb fun j hj=>by omega
        | succ n =>
          show LE Γ st ⟨st.t,st.h.set id (.row e s (n+1) g)⟩
          rw [same]
          exact LE.refl st
      | cells cs =>
        show LE Γ st ⟨st.t,st.h.set id (.cells cs)⟩
        rw [same]
        exact LE.refl st
      | imap t n get =>
        show LE Γ st ⟨st.t,st.h.set id (.imap t n get)⟩
        rw [same]
        exact LE.refl st
      | xrow lk e s n g =>
        show LE Γ st ⟨st.t,st.h.set id (.xrow lk e s n g)⟩
        rw [same]
        exact LE.refl st
      | jag j =>
        refine LE_jag hb (fun _ _=>rfl) (fun _ _=>rfl) (fun _ _=>rfl) fun k _ q hq=>?_
        have:nblt q (j.len k) = true:=by
          unfold nblt
          simpa using hq
        rw [this,vifS_eq]
        rfl
      | saved vs =>
        show LE Γ st ⟨st.t,st.h.set id (.saved vs)⟩
        rw [same]
        exact LE.refl st
      | dead =>
        show LE Γ st ⟨st.t,st.h.set id .dead⟩
        rw [same]
        exact LE.refl st
def loopsZ (zs:List (Nat × List (Nat × V))) (loops:List (Nat × Lp)) (id:Nat) (f:St->T (Ex × St)) (st:St):T (Ex × St) :=
  match lookN id zs with
  | some l=>loopsBy loops id f (fillS st l)
  | none=>loopsBy loops id f st
theorem loopsZ_le (zs:List (Nat × List (Nat × V))) (ls:List (Nat × Lp)):LLe (loopsZ zs ls) (loopsZ zs ls):=fun id f f' st h=>by
  unfold loopsZ
  split
  · exact loopsBy_le ls id f f' _ h
  · exact loopsBy_le ls id f f' _ h
def cxZ (G:Nat->V) (tbl:List (Nat × (List V->T (V × List Blk)))) (zs:List (Nat × List (Nat × V))) (loops:List (Nat × Lp)):Cx:=⟨callT tbl,loopsZ zs loops,G⟩
theorem cxZ_ok {P:Program} {G:Nat->V} {tbl:List (Nat × (List V->T (V × List Blk)))} (h:AllPure P G tbl) (zs:List (Nat × List (Nat × V))) (loops:List (Nat × Lp)):CallOK P (cxZ G tbl zs loops).base ∧ LoopOK (cxZ G tbl zs loops):=by
  refine ⟨callT_ok rfl h,fun id f st r hr=>?_⟩
  have hr:(loopsZ zs loops id f st).sem = some r:=hr
  have by':∀ st,(loopsBy loops id f st).sem = some r->∃ l m,(iterT f l m st).sem = some r:=fun st hr=>by
    unfold loopsBy at hr
    split at hr
    · exact ⟨_,_,hr⟩
    · cases hr
  unfold loopsZ at hr
  split at hr
  · obtain ⟨l,m,h1⟩:=by' _ hr
    exact ⟨_,l,m,LE_fill _ _,h1⟩
  · obtain ⟨l,m,h1⟩:=by' _ hr
    exact ⟨_,l,m,LE.refl _,h1⟩
end Go.Sy
namespace Go.Proofs.Ytjhnfomefcngfaa.Ed
open Go.Sy
def mayN (n:Nat) (f:Nat->E6):Bool:=allN n fun i=>ieq (codeF (f i)) 0
theorem mayN_iff {n:Nat} {f:Nat->E6}:mayN n f = true ↔ ∀ i,i < n->codeF (f i) = 0:=by
  unfold mayN
  rw [allN_iff]
  simp [ieq]
end Go.Proofs.Ytjhnfomefcngfaa.Ed
namespace Go.Proofs.Ytjhnfomefcngfaa.Ed
open Go.Sy
theorem allN_true {n:Nat}:allN n (fun _=>true) = true:=allN_iff.2 fun _ _=>rfl
def pushN (g:Nat->V):Nat->Nat->V
  | 0=>fun _=>.und
  | i+1=>pushGet i (pushN g i) (g i)
theorem pushN_eq (g:Nat->V):∀ n j,j < n->pushN g n j = g j
  | 0,j,h=>by omega
  | n+1,j,h=>by
    rw [show pushN g (n+1) j = pushGet n (pushN g n) (g n) j from rfl,pushGet_eq]
    show (bif Nat.beq j n then g n else pushN g n j) = _
    cases hb:Nat.beq j n with
    | true =>
      rw [Nat.eq_of_beq_eq_true hb]
      rfl
    | false =>
      have:=Nat.ne_of_beq_eq_false hb
      exact pushN_eq g n j (by omega)
theorem ap_fit {i n b c:Nat} (h:i < n) (hb:b <= c) (hn:n * c <= 140737488355328):apOK i 1 b = true:=by
  refine decide_eq_true ?_
  have h1:(i+1) * b <= n * b:=Nat.mul_le_mul_right b (by omega)
  have h2:n * b <= n * c:=Nat.mul_le_mul_left n hb
  omega
theorem fit_small {n:Nat} (hn:fitN n = true):n <= 4611686018427387904:=by
  have hn:n * 40 <= 140737488355328:=of_decide_eq_true hn
  omega
def cdV (f:Nat->E6):Nat->V:=fun i=>iV (codeN (f i))
theorem firstNot (p:Nat->Bool):∀ n,allN n p = false->∃ e,e < n ∧ p e = false ∧ ∀ t,t < e->p t = true
  | 0,h=>by cases h
  | n+1,h=>by
    cases hn:allN n p with
    | false =>
      obtain ⟨e,h1,h2,h3⟩:=firstNot p n hn
      exact ⟨e,by omega,h2,h3⟩
    | true =>
      refine ⟨n,by omega,?_,fun t ht=>allN_iff.1 hn t ht⟩
      cases hp:p n with
      | false=>rfl
      | true =>
        have:allN (n+1) p = true:=allN_iff.2 fun i hi=>by
          by_cases hi':i = n
          · rw [hi',hp]
          · exact allN_iff.1 hn i (by omega)
        rw [this] at h; cases h
theorem codeF_30 {e:E6} (h:codeF e ≠ 0):codeF e = 30:=by
  rcases codeF_cases e with ⟨_,_,h1,_⟩ | ⟨h1,_⟩
  · exact absurd h1 h
  · exact h1
theorem may_no {n:Nat} {f:Nat->E6} (h:mayN n f = false):∃ e,e < n ∧ codeF (f e) = 30 ∧ ∀ t,t < e->codeF (f t) = 0:=by
  obtain ⟨e,h1,h2,h3⟩:=firstNot _ n h
  refine ⟨e,h1,codeF_30 fun h0=>?_,fun t ht=>by simpa [ieq] using h3 t ht⟩
  rw [h0] at h2
  cases h2
def codesT:List V->T (V × List Blk):=apL1 fun n f=>.br (fitN n) (.br (mayN n f) (.leaf (.tup [.ref 0,iV 0],[.row 3 1 n fun i=>iV (codeN (f i))])) (.leaf (.tup [.ref 0,iV 30],[.row 3 1 0 fun _=>.und]))) .fail
end Go.Proofs.Ytjhnfomefcngfaa.Ed
namespace Go.Proofs.Ytjhnfomefcngfaa.Ed
open Go.Sy
end Go.Proofs.Ytjhnfomefcngfaa.Ed
