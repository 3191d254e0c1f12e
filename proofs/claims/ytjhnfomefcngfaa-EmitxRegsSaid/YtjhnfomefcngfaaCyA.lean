/-
  Layer 3: architectures: what is known, what is legal, all edges of one. No conditions.
-/
import Derived.Test.YtjhnfomefcngfaaEdD
import Derived.Test.YtjhnfomefcngfaaSyQ
namespace Go.Proofs.Ytjhnfomefcngfaa.Ed
open Go.Sy
def ap1 {α:Type} (d:V->Option α) (F:α->T (V × List Blk)):List V->T (V × List Blk)
 | [v]=>match d v with
  | some a=>F a
  | none=>.fail
 | _=>.fail
def ap2 {α β:Type} (d:V->Option α) (e:V->Option β) (F:α->β->T (V × List Blk)):List V->T (V × List Blk)
 | [v,u]=>match d v,e u with
  | some a,some b=>F a b
  | _,_=>.fail
 | _=>.fail
theorem T2 {α:Type} {d:V->Option α} {c:α->V} (hd:∀ v a,d v = some a->v = c a) {F:α->T (V × List Blk)} {vs:List V} {r:V × List Blk} (h:(ap1 d F vs).sem = some r) :
  ∃ a,vs = [c a] ∧ (F a).sem = some r:=by
 unfold ap1 at h
 split at h
 ·split at h
  ·rename_i v _ a ha
   exact ⟨a,by rw [hd v a ha],h⟩
  ·cases h
 ·cases h
theorem KR {α β:Type} {d:V->Option α} {e:V->Option β} {c:α->V} {c':β->V} (hd:∀ v a,d v = some a->v = c a) (he:∀ v b,e v = some b->v = c' b) {F:α->β->T (V × List Blk)}
  {vs:List V} {r:V × List Blk} (h:(ap2 d e F vs).sem = some r):∃ a b,vs = [c a,c' b] ∧ (F a b).sem = some r:=by
 unfold ap2 at h
 split at h
 ·split at h
  ·rename_i v u _ _ a b ha hb
   exact ⟨a,b,by rw [hd v a ha,he u b hb],h⟩
  ·cases h
 ·cases h
theorem Of:∀ v a,gI v = some a->v = iV a:=λ_ _ h=>Gt h
theorem TG:∀ v a,toE v = some a->v = eV a:=λ_ _ h=>Nc h
def out (v:V):T (V × List Blk):=.leaf (v,[])
def Cz (a:Int):Bool:=bor (ieq a 1) (ieq a 2)
def HB (a n:Int):Bool:=bor (ilt n 14) (JZ (ilt n 22) (ieq a 1))
def ST (a:Int) (e:E6):Bool :=
 bor (ieq e.kind 1) (bor (ieq e.kind 2) (bor (ieq e.kind 3) (bor (ieq e.kind 4) (sel (ieq e.kind 5) (JZ (ieq e.fence 1) (ieq a 1)) (ieq a 2)))))
theorem AbW (a:Int):(Az (Ak tab cx6 Try.f117 [iV a] [])).sem = some (bV (Cz a),[]):=by
 have h1:(Az (Ak tab cx6 Try.f117 [iV a] [])).path [true,true,true] = some ([ieq a 1,ieq a 1,ieq a 1],(bV true,[])):=by kernel_rfl
 have h2:(Az (Ak tab cx6 Try.f117 [iV a] [])).path [false,false,false] = some ([ieq a 1,ieq a 1,ieq a 1],(bV (ieq a 2),[])):=by kernel_rfl
 unfold Cz
 cases h:ieq a 1 with
 | true=>exact AM h1 (by rw [h])
 | false=>exact AM h2 (by rw [h])
theorem AbV (a:Int):(Az (Ak tab cx6 Try.f99 [iV a] [])).sem = some (bV (Cz a),[]):=by
 have h1:(Az (Ak tab cx6 Try.f99 [iV a] [])).path [true,true,true] = some ([ieq a 1,ieq a 1,ieq a 1],(bV true,[])):=by kernel_rfl
 have h2:(Az (Ak tab cx6 Try.f99 [iV a] [])).path [false,false,false] = some ([ieq a 1,ieq a 1,ieq a 1],(bV (ieq a 2),[])):=by kernel_rfl
 unfold Cz
 cases h:ieq a 1 with
 | true=>exact AM h1 (by rw [h])
 | false=>exact AM h2 (by rw [h])
theorem AbQ (a n:Int):(Az (Ak tab cx6 Try.f118 [iV a,iV n] [])).sem = some (bV (HB a n),[]):=by
 have h1:(Az (Ak tab cx6 Try.f118 [iV a,iV n] [])).path [true] = some ([ilt n 14],(bV true,[])):=by kernel_rfl
 have h2:(Az (Ak tab cx6 Try.f118 [iV a,iV n] [])).path [false] = some ([ilt n 14],(bV (JZ (ilt n 22) (ieq a 1)),[])):=by kernel_rfl
 unfold HB
 cases h:ilt n 14 with
 | true=>exact AM h1 (by rw [h])
 | false=>exact AM h2 (by rw [h])
theorem Ajw (a:Int) (e:E6):(Az (Ak tab cx6 Try.f100 [iV a,eV e] [])).sem = some (bV (ST a e),[]):=by
 have h1:(Az (Ak tab cx6 Try.f100 [iV a,eV e] [])).path [true,true] = some ([ieq e.kind 1,ieq e.kind 1],(bV true,[])):=by kernel_rfl
 have h2:(Az (Ak tab cx6 Try.f100 [iV a,eV e] [])).path [false,true,true] = some ([ieq e.kind 1,ieq e.kind 2,ieq e.kind 2],(bV true,[])):=by kernel_rfl
 have h3:(Az (Ak tab cx6 Try.f100 [iV a,eV e] [])).path [false,false,true,true] = some ([ieq e.kind 1,ieq e.kind 2,ieq e.kind 3,ieq e.kind 3],(bV true,[])):=by kernel_rfl
 have h4:(Az (Ak tab cx6 Try.f100 [iV a,eV e] [])).path [false,false,false,true] = some ([ieq e.kind 1,ieq e.kind 2,ieq e.kind 3,ieq e.kind 4],(bV true,[])):=by kernel_rfl
 have h5:(Az (Ak tab cx6 Try.f100 [iV a,eV e] [])).path [false,false,false,false,true] = some ([ieq e.kind 1,ieq e.kind 2,ieq e.kind 3,ieq e.kind 4,ieq e.kind 5],(bV (JZ (ieq e.fence 1) (ieq a 1)),[])):=by kernel_rfl
 have h6:(Az (Ak tab cx6 Try.f100 [iV a,eV e] [])).path [false,false,false,false,false] = some ([ieq e.kind 1,ieq e.kind 2,ieq e.kind 3,ieq e.kind 4,ieq e.kind 5],(bV (ieq a 2),[])):=by kernel_rfl
 unfold ST
 cases c1:ieq e.kind 1 with
 | true=>exact AM h1 (by rw [c1])
 | false =>
 cases c2:ieq e.kind 2 with
 | true=>exact AM h2 (by rw [c1,c2])
 | false =>
 cases c3:ieq e.kind 3 with
 | true=>exact AM h3 (by rw [c1,c2,c3])
 | false =>
 cases c4:ieq e.kind 4 with
 | true=>exact AM h4 (by rw [c1,c2,c3,c4])
 | false =>
 cases c5:ieq e.kind 5 with
 | true=>exact AM h5 (by rw [c1,c2,c3,c4,c5])
 | false=>exact AM h6 (by rw [c1,c2,c3,c4,c5])
theorem p77:A6 Try.prog Gl 117 (ap1 gI λa=>out (bV (Cz a))):=by
 refine A6.congr (AK AO AP Try.func117 (by kernel_rfl) (by kernel_rfl) (Γ:=cx6) (AQ Nf _)) λvs r h=>?_
 obtain ⟨a,rfl,h⟩:=T2 Of h
 rw [Ac h]
 exact AbW a
theorem p79:A6 Try.prog Gl 99 (ap1 gI λa=>out (bV (Cz a))):=by
 refine A6.congr (AK AO AP Try.func99 (by kernel_rfl) (by kernel_rfl) (Γ:=cx6) (AQ Nf _)) λvs r h=>?_
 obtain ⟨a,rfl,h⟩:=T2 Of h
 rw [Ac h]
 exact AbV a
theorem p78:A6 Try.prog Gl 118 (ap2 gI gI λa n=>out (bV (HB a n))):=by
 refine A6.congr (AK AO AP Try.func118 (by kernel_rfl) (by kernel_rfl) (Γ:=cx6) (AQ Nf _)) λvs r h=>?_
 obtain ⟨a,n,rfl,h⟩:=KR Of Of h
 rw [Ac h]
 exact AbQ a n
theorem p80:A6 Try.prog Gl 100 (ap2 gI toE λa e=>out (bV (ST a e))):=by
 refine A6.congr (AK AO AP Try.func100 (by kernel_rfl) (by kernel_rfl) (Γ:=cx6) (AQ Nf _)) λvs r h=>?_
 obtain ⟨a,e,rfl,h⟩:=KR Of TG h
 rw [Ac h]
 exact Ajw a e
theorem Xh (k:Nat) (hk:k < 112) (a:Int) (ha:Cz a = true):ST a (D1 k) = HB a (Int.ofNat k):=by
 have h1:(List.range 112).map (λk:Nat=>ST 1 (D1 k)) = (List.range 112).map λk:Nat=>HB 1 (Int.ofNat k):=by kernel_rfl
 have h2:(List.range 112).map (λk:Nat=>ST 2 (D1 k)) = (List.range 112).map λk:Nat=>HB 2 (Int.ofNat k):=by kernel_rfl
 simp only [Cz,bor,ieq,Bool.or_eq_true,beq_iff_eq] at ha
 rcases ha with rfl | rfl
 ·exact Hr h1 k hk
 ·exact Hr h2 k hk
noncomputable def tb8:List (Nat × (List V->T (V × List Blk))):=(117,ap1 gI λa=>out (bV (Cz a))) :: (99,ap1 gI λa=>out (bV (Cz a))) :: (118,ap2 gI gI λa n=>out (bV (HB a n))) :: (100,ap2 gI toE λa e=>out (bV (ST a e))) :: tb7
theorem TL:AB Try.prog Gl tb8:=.cons p77 <| .cons p79 <| .cons p78 <| .cons p80 Aep
noncomputable def cx8:Cx:=AS Gl tb8 [(0,⟨[],2,[],2,113⟩)]
def DJ (a:Int) (e:E6):Bool:=sel (An (Cz a)) false (sel (An (ieq (AR e) 0)) false (HB a (Bw e)))
def D9 (a:Int) (e:E6):Int:=sel (An (Cz a)) 1 (AR e)
def SB (a:Int) (e:E6):V:=.tup [bV (DJ a e),iV (D9 a e)]
theorem AbS (a:Int) (e:E6):(Az (Ak tab cx8 Try.f110 [iV a,eV e] [])).sem = some (SB a e,[]):=by
 have h1:(Az (Ak tab cx8 Try.f110 [iV a,eV e] [])).path [true] = some ([An (Cz a)],(.tup [bV false,iV 1],[])):=by kernel_rfl
 have h2:(Az (Ak tab cx8 Try.f110 [iV a,eV e] [])).path [false,true] = some ([An (Cz a),An (ieq (AR e) 0)],(.tup [bV false,iV (AR e)],[])):=by kernel_rfl
 have h3:(Az (Ak tab cx8 Try.f110 [iV a,eV e] [])).path [false,false] = some ([An (Cz a),An (ieq (AR e) 0)],(.tup [bV (HB a (Bw e)),iV 0],[])):=by kernel_rfl
 unfold SB DJ D9
 cases c1:An (Cz a) with
 | true=>exact AM h1 (by rw [c1])
 | false =>
 cases c2:An (ieq (AR e) 0) with
 | true=>exact AM h2 (by rw [c1,c2])
 | false =>
  have:AR e = 0:=by simpa [An,ieq] using c2
  rw [this]
  exact AM h3 (by rw [c1,c2])
theorem EU (e:E6):(∃ k:Nat,k < 112 ∧ AR e = 0 ∧ Bw e = Int.ofNat k ∧ D1 k = e ∧ S4 e = P7 k) ∨ (AR e = 30 ∧ Bw e = 0 ∧ S4 e = [] ∧ ∀ k,k < 112->D1 k ≠ e):=by
 unfold AR Bw S4
 cases h:GX e 112 0 with
 | some k =>
  obtain ⟨_,h2,h3⟩:=JS e 112 0 k h
  exact .inl ⟨k,by omega,rfl,rfl,h3,rfl⟩
 | none =>
  refine .inr ⟨rfl,rfl,rfl,?_⟩
  have:∀ m k,GX e m k = none->∀ j,k <= j->j < k+m->D1 j ≠ e:=by
   intro m
   induction m with
   | zero=>intro k _ j h1 h2; omega
   | succ m ih =>
    intro k hn j h1 h2
    simp only [GX] at hn
    split at hn
    ·cases hn
    ·rename_i hne
     by_cases hj:j = k
     ·subst hj
      intro he
      rw [(Jv _ _).2 he] at hne
      cases hne
     ·exact ih _ hn j (by omega) (by omega)
  exact λk hk=>this 112 0 h k (by omega) (by omega)
theorem AbR (a:Int) (e:E6):(Az (Ak tab cx8 Try.f65 [iV a,eV e] [])).sem = some (SB a e,[]):=by
 have h1:(Az (Ak tab cx8 Try.f65 [iV a,eV e] [])).path [true] = some ([An (Cz a)],(.tup [bV false,iV 1],[])):=by kernel_rfl
 have h2:(Az (Ak tab cx8 Try.f65 [iV a,eV e] [])).path [false,true] = some ([An (Cz a),An (ieq (AR e) 0)],(.tup [bV false,iV 30],[])):=by kernel_rfl
 have h3:(Az (Ak tab cx8 Try.f65 [iV a,eV e] [])).path [false,false] = some ([An (Cz a),An (ieq (AR e) 0)],(.tup [bV (ST a e),iV 0],[])):=by kernel_rfl
 unfold SB DJ D9
 cases c1:An (Cz a) with
 | true=>exact AM h1 (by rw [c1])
 | false =>
 rcases EU e with ⟨k,hk,hf,hn,he,_⟩ | ⟨hf,_⟩
 ·have c2:An (ieq (AR e) 0) = false:=by rw [hf]; rfl
  have ha:Cz a = true:=by simpa [An] using c1
  rw [c2,hf,hn,<- Xh k hk a ha,he]
  exact AM h3 (by rw [c1,c2])
 ·have c2:An (ieq (AR e) 0) = true:=by rw [hf]; rfl
  rw [c2,hf]
  exact AM h2 (by rw [c1,c2])
theorem p32:A6 Try.prog Gl 110 (ap2 gI toE λa e=>out (SB a e)):=by
 refine A6.congr (AK AO AP Try.func110 (by kernel_rfl) (by kernel_rfl) (Γ:=cx8) (AQ TL _)) λvs r h=>?_
 obtain ⟨a,e,rfl,h⟩:=KR Of TG h
 rw [Ac h]
 exact AbS a e
theorem p33:A6 Try.prog Gl 65 (ap2 gI toE λa e=>out (SB a e)):=by
 refine A6.congr (AK AO AP Try.func65 (by kernel_rfl) (by kernel_rfl) (Γ:=cx8) (AQ TL _)) λvs r h=>?_
 obtain ⟨a,e,rfl,h⟩:=KR Of TG h
 rw [Ac h]
 exact AbR a e
end Go.Proofs.Ytjhnfomefcngfaa.Ed
namespace Go.Proofs.Ytjhnfomefcngfaa.Ed
open Go.Sy
open Int (ofNat)
def okE (v:V):Bool:=match toE v with
 | some _=>true
 | none=>false
def edE (v:V):E6:=match toE v with
 | some e=>e
 | none=>Gc
def Au (n:Nat) (p:Nat->Bool):Bool:=(List.range n).all p
theorem AJ {n:Nat} {p:Nat->Bool}:Au n p = true ↔ ∀ i,i < n->p i = true:=by simp [Au]
theorem Acv (n:Nat) (f:Nat->E6):Au n (λi=>okE (eV (f i))) = true:=AJ.2 λ_ _=>rfl
theorem NC {v:V} (h:okE v = true):v = eV (edE v):=by
 unfold okE at h
 unfold edE
 split at h
 ·rename_i e he
  exact Nc he
 ·cases h
def gSl:V->Option (Nat × (Nat->V))
 | .sl s n g=>match Nat.beq s 6 with
  | true=>some (n,g)
  | false=>match n with
   | 0=>some (0,g)
   | _=>none
 | .slr s n _ g=>match Nat.beq s 6 with
  | true=>some (n,g)
  | false=>none
 | _=>none
def apL {α:Type} (v:V) (F:Nat->(Nat->E6)->T α):T α :=
 match gSl v with
 | some (n,g)=>.br (Au n λi=>okE (g i)) (F n λi=>edE (g i)) .fail
 | none=>.fail
def A4 (n:Nat) (f:Nat->E6):V:=.sl 6 n λi=>eV (f i)
theorem Cj {α:Type} {v:V} {F:Nat->(Nat->E6)->T α} {r:α} (h:(apL v F).sem = some r) :
  ∃ n f,(∀ (S:Nat->Prop) (w:World) (c:Value),VR S w v noK c->VR S w (A4 n f) noK c) ∧ (F n f).sem = some r:=by
 unfold apL at h
 split at h
 ·rename_i n g hg
  obtain ⟨h1,h2⟩:=Ag h
  have h1:=AJ.1 h1
  refine ⟨n,_,λS w c hv=>?_,h2⟩
  unfold gSl at hg
  split at hg
  ·rename_i s n' g'
   split at hg
   ·rename_i hs
    simp only [Option.some.injEq,Prod.mk.injEq] at hg
    obtain ⟨rfl,rfl⟩:=hg
    have hs:s = 6:=Nat.eq_of_beq_eq_true hs
    subst hs
    obtain ⟨a,cap,e,hc,hb⟩:=hv
    refine ⟨a,cap,e,hc,hb.imp id ?_⟩
    rintro ⟨b,o,ea,hel⟩
    refine ⟨b,o,ea,λi hi=>?_⟩
    have:=hel i hi
    rw [NC (h1 i hi)] at this
    exact this
   ·split at hg
    ·simp only [Option.some.injEq,Prod.mk.injEq] at hg
     obtain ⟨rfl,rfl⟩:=hg
     obtain ⟨a,cap,e,hc,_⟩:=hv
     exact ⟨a,cap,e,hc,.inl rfl⟩
    ·cases hg
  ·rename_i s n' m' g'
   split at hg
   ·rename_i hs
    simp only [Option.some.injEq,Prod.mk.injEq] at hg
    obtain ⟨rfl,rfl⟩:=hg
    have hs:s = 6:=Nat.eq_of_beq_eq_true hs
    subst hs
    obtain ⟨a,cap,e,hc,hm,hb⟩:=hv
    refine ⟨a,cap,e,Nat.le_trans hc hm,?_⟩
    rcases hb with h0 | ⟨b,o,ea,hel⟩
    ·exact .inl (by omega)
    ·refine .inr ⟨b,o,ea,λi hi=>?_⟩
     have:=hel i (by omega)
     rw [NC (h1 i hi)] at this
     exact this
   ·cases hg
  ·cases hg
 ·cases h
def Hp (F:Nat->(Nat->E6)->T (V × List Blk)):List V->T (V × List Blk)
 | [v]=>apL v F
 | _=>.fail
theorem CU {F:Nat->(Nat->E6)->T (V × List Blk)} {vs:List V} {r:V × List Blk} (h:(Hp F vs).sem = some r):∃ n f,BJ vs [A4 n f] ∧ (F n f).sem = some r:=by
 unfold Hp at h
 split at h
 ·obtain ⟨n,f,h1,h2⟩:=Cj h
  refine ⟨n,f,λS w cs hv=>?_,h2⟩
  obtain ⟨c,l,rfl,q1,q2⟩:=hv
  exact ⟨c,l,rfl,h1 S w c q1,q2⟩
 ·cases h
theorem Ao {i n:Nat} (h:i < n) (hn:n <= 4611686018427387904):wr .i64 (Ae (ofNat i) 1) = ofNat (i+1):=by
 unfold wr Ae IntKind.wrap
 simp [IntKind.bits,IntKind.signed]
 omega
theorem ofNat_lt {i n:Nat} (h:i < n):ilt (ofNat i) (ofNat n) = true:=by simp [ilt]; omega
theorem AD {i n:Nat} (h:n <= i):ilt (ofNat i) (ofNat n) = false:=by simp [ilt]; omega
theorem Aq {i n:Nat} (h:i < n):Af (ile 0 (ofNat i)) (ilt (ofNat i) (ofNat n)) = true:=by rw [ofNat_lt h]; simp [Af,ile]
noncomputable def cx9 (l:List (Nat × Lp)):Cx:=AS Gl tb8 l
def JV (f g:Nat->E6):Nat->Nat->Bool
 | 0,_=>true
 | d+1,i=>match eqE (f i) (g i) with
  | true=>JV f g d (i+1)
  | false=>false
def CY (n:Nat) (f:Nat->E6) (m:Nat) (g:Nat->E6):Bool:=sel (ieq (ofNat n) (ofNat m)) (JV f g n 0) false
def Ah (n:Nat):Bool:=decide (n <= 4611686018427387904)
end Go.Proofs.Ytjhnfomefcngfaa.Ed
namespace Go.Proofs.Ytjhnfomefcngfaa.Ed
open Go.Sy
def AN (n:Nat):Bool:=decide (n * 40 <= 140737488355328)
section
variable (L:LT)
end
end Go.Proofs.Ytjhnfomefcngfaa.Ed
namespace Go.Proofs.Ytjhnfomefcngfaa.Ed
open Go.Sy
end Go.Proofs.Ytjhnfomefcngfaa.Ed
namespace Go.Proofs.Ytjhnfomefcngfaa.Ed
open Go.Sy
end Go.Proofs.Ytjhnfomefcngfaa.Ed
namespace Go.Sy
def Pa (l:Lp) (r:Ex × St):Ex × St :=
 match r.1 with
 | .nm=>(.nm,O5 l.ks l.n r.2)
 | .ex i=>(.ex i,O5 l.ke l.ne r.2)
 | .rt=>(.rt,O5 l.ke l.ne r.2)
def Ai (f:St->T (Ex × St)) (l:Lp) (st:St):Option (Ex × St):=((f st).bind λr=>T.leaf (Pa l r)).sem
def Acd (f:St->T (Ex × St)) (l:Lp) (m:Nat):Option (Ex × St)->Option (Ex × St)
 | some (.nm,st)=>(A9 f l m st).sem
 | some (e,st)=>some (e,st)
 | none=>none
theorem Ad {f:St->T (Ex × St)} {l:Lp} {m:Nat} {st:St} {t:Option (Ex × St)} (h:Ai f l st = t):(A9 f l (m+1) st).sem = Acd f l m t:=by
 subst h
 show ((f st).bind _).sem = _
 unfold Ai
 rw [Df,Df]
 cases (f st).sem with
 | none=>rfl
 | some r =>
  obtain ⟨e,s⟩:=r
  cases e <;> rfl
theorem Ax {f:St->T (Ex × St)} {l:Lp} {m:Nat} {st:St}:Acd f l m (some (.nm,st)) = (A9 f l m st).sem:=rfl
theorem QU {f:St->T (Ex × St)} {l:Lp} {m:Nat} {i:Nat} {st:St}:Acd f l m (some (.ex i,st)) = some (.ex i,st):=rfl
theorem EK {f:St->T (Ex × St)} {l:Lp} {m:Nat} {st:St}:Acd f l m (some (.rt,st)) = some (.rt,st):=rfl
theorem Yn {α:Type} (x y:α):sel true x y = x:=rfl
theorem WE {α:Type} (x y:α):sel false x y = y:=rfl
def TLe {α:Type} (t t':T α):Prop:=∀ r,t.sem = some r->t'.sem = some r
theorem TLe.refl {α:Type} (t:T α):TLe t t:=λ_ h=>h
theorem TLe.bind {α β:Type} {t t':T α} {f f':α->T β} (h:TLe t t') (hf:∀ a,TLe (f a) (f' a)):TLe (t.bind f) (t'.bind f'):=λr hr=>by
 obtain ⟨a,h1,h2⟩:=Al hr
 rw [Df,h a h1]
 exact hf a r h2
def LLe (M L:Nat->(St->T (Ex × St))->St->T (Ex × St)):Prop:=∀ id f f' st,(∀ st,TLe (f st) (f' st))->TLe (M id f st) (L id f' st)
theorem SH {f f':St->T (Ex × St)} (h:∀ st,TLe (f st) (f' st)) (l:Lp):∀ (m:Nat) (st:St),TLe (A9 f l m st) (A9 f' l m st)
 | 0,_=>TLe.refl _
 | m+1,st=>by
  refine TLe.bind (h st) λr=>?_
  cases r.1 with
  | nm=>exact SH h l m _
  | ex i=>exact TLe.refl _
  | rt=>exact TLe.refl _
theorem AL (ls:List (Nat × Lp)):LLe (Bb ls) (Bb ls):=λid f f' st h=>by
 unfold Bb
 split
 ·exact SH h _ _ _
 ·exact TLe.refl _
def onP (k:Nat) (p:(St->T (Ex × St))->St->Bool) (r:Ex × St) (L:Nat->(St->T (Ex × St))->St->T (Ex × St)):Nat->(St->T (Ex × St))->St->T (Ex × St) :=
 λid f st=>match Nat.beq id k with
  | true=>.br (p f st) (.leaf r) .fail
  | false=>L id f st
noncomputable def isP (L:Nat->(St->T (Ex × St))->St->T (Ex × St)) (k:Nat) (r:Ex × St):(St->T (Ex × St))->St->Bool :=
 λf st=>@decide ((L k f st).sem = some r) (Classical.propDecidable _)
theorem Am {L:Nat->(St->T (Ex × St))->St->T (Ex × St)} {k:Nat} {r:Ex × St} {f:St->T (Ex × St)} {st:St} (h:(L k f st).sem = some r):isP L k r f st = true:=by
 unfold isP
 exact @decide_eq_true _ (Classical.propDecidable _) h
theorem Ay {M L:Nat->(St->T (Ex × St))->St->T (Ex × St)} {k:Nat} {r:Ex × St} (hM:LLe M L) (hL:LLe L L):LLe (onP k (isP L k r) r M) L:=λid f f' st hf r' hr=>by
 unfold onP at hr
 cases hk:Nat.beq id k with
 | true =>
  rw [hk] at hr
  obtain ⟨h1,h2⟩:=Ag hr
  rw [Ac h2]
  unfold isP at h1
  have h1:=@of_decide_eq_true _ (Classical.propDecidable _) h1
  rw [Nat.eq_of_beq_eq_true hk]
  exact hL k f f' st hf _ h1
 | false =>
  rw [hk] at hr
  exact hM id f f' st hf _ hr
theorem ES {τ:List Ty} {Γ:Cx} {L L':Nat->(St->T (Ex × St))->St->T (Ex × St)} (h:LLe L L') :
  ∀ (c:Code) (id:Nat) (st:St),TLe (AF τ { Γ with loop:=L } c id st) (AF τ { Γ with loop:=L' } c id st):=by
 intro c
 induction c with
 | skip=>intro id st; exact TLe.refl _
 | region i ops draw=>intro id st; exact TLe.refl _
 | seq a b iha ihb =>
  intro id st
  refine TLe.bind (iha id st) λr=>?_
  cases r.1 with
  | nm=>exact ihb id r.2
  | ex j=>exact TLe.refl _
  | rt=>exact TLe.refl _
 | cond x a b iha ihb =>
  intro id st
  show TLe (match ev ⟨Γ.call,Γ.glob⟩ st x with | .val (.bool q)=>T.br q (AF τ { Γ with loop:=L } a id st) (AF τ { Γ with loop:=L } b id st) | _=>.fail) (match ev ⟨Γ.call,Γ.glob⟩ st x with | .val (.bool q)=>T.br q (AF τ { Γ with loop:=L' } a id st) (AF τ { Γ with loop:=L' } b id st) | _=>.fail)
  split
  ·rename_i q _
   cases q with
   | true=>exact iha id st
   | false=>exact ihb id st
  ·exact TLe.refl _
 | block i c ih =>
  intro id st
  refine TLe.bind (ih i st) λr=>?_
  cases r.1 with
  | nm=>exact TLe.refl _
  | ex j=>exact TLe.refl _
  | rt=>exact TLe.refl _
 | loop c ih =>
  intro id st
  exact h id _ _ st (ih id)
 | exit i=>intro id st; exact TLe.refl _
 | ret=>intro id st; exact TLe.refl _
 | _=>intro id st; exact TLe.refl _
theorem A7 {τ:List Ty} {call:FuncId->List V->St->T (V × Res)} {G:Nat->V} {fn:Func} {vs:List V} {L L':Nat->(St->T (Ex × St))->St->T (Ex × St)}
  (h:LLe L L'):TLe (Az (Ak τ ⟨call,L,G⟩ fn vs [])) (Az (Ak τ ⟨call,L',G⟩ fn vs [])):=by
 refine TLe.bind ?_ λ_=>TLe.refl _
 unfold Ak
 cases fn.body with
 | none=>exact TLe.refl _
 | some c=>exact TLe.bind (ES (Γ:=⟨call,L,G⟩) h c 0 _) λ_=>TLe.refl _
theorem Du {f f':St->T (Ex × St)} {l:Lp} {st:St} {r:Ex × St} (h:TLe (f st) (f' st)) (hr:Ai f l st = some r):Ai f' l st = some r:=TLe.bind h (λ_=>TLe.refl _) r hr
def Aj1 (v:V):Blk->Blk
 | .row e s 0 _=>.row e s 0 λ_=>v
 | .jag j=>.jag { j with mem:=λi k=>XF (Ab7 k (j.len i)) (j.mem i k) v }
 | b=>b
def AcY (h:List Blk) (id:Nat) (v:V):List Blk :=
 match h[id]? with
 | some b=>h.set id (Aj1 v b)
 | none=>h
def CS (st:St):List (Nat × V)->St
 | []=>st
 | (id,v) :: l=>CS ⟨st.t,AcY st.h id v⟩ l
theorem RA {Γ:Cx0}:∀ (l:List (Nat × V)) (st:St),LE Γ st (CS st l)
 | [],st=>LE.refl st
 | (id,v) :: l,st=>by
   refine LE.trans ?_ (RA l _)
   unfold AcY
   cases hb:st.h[id]? with
   | none=>exact LE.refl st
   | some b =>
    have same:st.h.set id b = st.h:=by
     have hl:=(List.getElem?_eq_some_iff.1 hb).1
     have:=(List.getElem?_eq_some_iff.1 hb).2
     rw [<- this,List.set_getElem_self]
    cases b with
    | row e s n g =>
     cases n with
     | zero=>exact AgQ hb λj hj=>by omega
     | succ n =>
      show LE Γ st ⟨st.t,st.h.set id (.row e s (n+1) g)⟩
      rw [same]
      exact LE.refl st
    | cells cs =>
     show LE Γ st ⟨st.t,st.h.set id (.cells cs)⟩
     rw [same]
     exact LE.refl st
    | imap t n get =>
     show LE Γ st ⟨st.t,st.h.set id (.imap t n get)⟩
     rw [same]
     exact LE.refl st
    | xrow lk e s n g =>
     show LE Γ st ⟨st.t,st.h.set id (.xrow lk e s n g)⟩
     rw [same]
     exact LE.refl st
    | jag j =>
     refine AgR hb (λ_ _=>rfl) (λ_ _=>rfl) (λ_ _=>rfl) λk _ q hq=>?_
     have:Ab7 q (j.len k) = true:=by
      unfold Ab7
      simpa using hq
     rw [this,Fv]
     rfl
    | saved vs =>
     show LE Γ st ⟨st.t,st.h.set id (.saved vs)⟩
     rw [same]
     exact LE.refl st
    | dead =>
     show LE Γ st ⟨st.t,st.h.set id .dead⟩
     rw [same]
     exact LE.refl st
def C8 (zs:List (Nat × List (Nat × V))) (loops:List (Nat × Lp)) (id:Nat) (f:St->T (Ex × St)) (st:St):T (Ex × St) :=
 match K6 id zs with
 | some l=>Bb loops id f (CS st l)
 | none=>Bb loops id f st
theorem DU (zs:List (Nat × List (Nat × V))) (ls:List (Nat × Lp)):LLe (C8 zs ls) (C8 zs ls):=λid f f' st h=>by
 unfold C8
 split
 ·exact AL ls id f f' _ h
 ·exact AL ls id f f' _ h
def cxZ (G:Nat->V) (tbl:List (Nat × (List V->T (V × List Blk)))) (zs:List (Nat × List (Nat × V))) (loops:List (Nat × Lp)):Cx:=⟨Ap tbl,C8 zs loops,G⟩
theorem JW {P:Program} {G:Nat->V} {tbl:List (Nat × (List V->T (V × List Blk)))} (h:AB P G tbl) (zs:List (Nat × List (Nat × V))) (loops:List (Nat × Lp)):Bj P (cxZ G tbl zs loops).base ∧ BO (cxZ G tbl zs loops):=by
 refine ⟨En rfl h,λid f st r hr=>?_⟩
 have hr:(C8 zs loops id f st).sem = some r:=hr
 have by':∀ st,(Bb loops id f st).sem = some r->∃ l m,(A9 f l m st).sem = some r:=λst hr=>by
  unfold Bb at hr
  split at hr
  ·exact ⟨_,_,hr⟩
  ·cases hr
 unfold C8 at hr
 split at hr
 ·obtain ⟨l,m,h1⟩:=by' _ hr
  exact ⟨_,l,m,RA _ _,h1⟩
 ·obtain ⟨l,m,h1⟩:=by' _ hr
  exact ⟨_,l,m,LE.refl _,h1⟩
end Go.Sy
namespace Go.Proofs.Ytjhnfomefcngfaa.Ed
open Go.Sy
def BM (n:Nat) (f:Nat->E6):Bool:=Au n λi=>ieq (AR (f i)) 0
theorem D7 {n:Nat} {f:Nat->E6}:BM n f = true ↔ ∀ i,i < n->AR (f i) = 0:=by
 unfold BM
 rw [AJ]
 simp [ieq]
theorem Ol (f g:Nat->E6):∀ d i,JV f g d i = true ↔ ∀ j,i <= j->j < i+d->f j = g j
 | 0,i=>by
  simp only [JV,true_iff]
  intro j h1 h2; omega
 | d+1,i=>by
  unfold JV
  cases h:eqE (f i) (g i) with
  | true =>
   have h0:=(Jv _ _).1 h
   show JV f g d (i+1) = true ↔ _
   rw [Ol f g d (i+1)]
   constructor
   ·intro q j h1 h2
    by_cases hj:j = i
    ·subst hj; exact h0
    ·exact q j (by omega) (by omega)
   ·intro q j h1 h2; exact q j (by omega) (by omega)
  | false =>
   constructor
   ·intro q; cases q
   ·intro q
    have:=(Jv _ _).2 (q i (Nat.le_refl _) (by omega))
    rw [this] at h; cases h
end Go.Proofs.Ytjhnfomefcngfaa.Ed
namespace Go.Proofs.Ytjhnfomefcngfaa.Ed
open Go.Sy
theorem Aw {n:Nat}:Au n (λ_=>true) = true:=AJ.2 λ_ _=>rfl
def BP (g:Nat->V):Nat->Nat->V
 | 0=>λ_=>.und
 | i+1=>AE i (BP g i) (g i)
theorem I0 (g:Nat->V):∀ n j,j < n->BP g n j = g j
 | 0,j,h=>by omega
 | n+1,j,h=>by
  rw [show BP g (n+1) j = AE n (BP g n) (g n) j from rfl,BC]
  show (bif Nat.beq j n then g n else BP g n j) = _
  cases hb:Nat.beq j n with
  | true =>
   rw [Nat.eq_of_beq_eq_true hb]
   rfl
  | false =>
   have:=Nat.ne_of_beq_eq_false hb
   exact I0 g n j (by omega)
theorem R7 {i n b c:Nat} (h:i < n) (hb:b <= c) (hn:n * c <= 140737488355328):Bg i 1 b = true:=by
 refine decide_eq_true ?_
 have h1:(i+1) * b <= n * b:=Nat.mul_le_mul_right b (by omega)
 have h2:n * b <= n * c:=Nat.mul_le_mul_left n hb
 omega
theorem Ju {n:Nat} (hn:AN n = true):n <= 4611686018427387904:=by
 have hn:n * 40 <= 140737488355328:=of_decide_eq_true hn
 omega
def cdV (f:Nat->E6):Nat->V:=λi=>iV (Bw (f i))
theorem Tb (p:Nat->Bool):∀ n,Au n p = false->∃ e,e < n ∧ p e = false ∧ ∀ t,t < e->p t = true
 | 0,h=>by cases h
 | n+1,h=>by
  cases hn:Au n p with
  | false =>
   obtain ⟨e,h1,h2,h3⟩:=Tb p n hn
   exact ⟨e,by omega,h2,h3⟩
  | true =>
   refine ⟨n,by omega,?_,λt ht=>AJ.1 hn t ht⟩
   cases hp:p n with
   | false=>rfl
   | true =>
    have:Au (n+1) p = true:=AJ.2 λi hi=>by
     by_cases hi':i = n
     ·rw [hi',hp]
     ·exact AJ.1 hn i (by omega)
    rw [this] at h; cases h
theorem ZZ {e:E6} (h:AR e ≠ 0):AR e = 30:=by
 rcases EU e with ⟨_,_,h1,_⟩ | ⟨h1,_⟩
 ·exact absurd h1 h
 ·exact h1
theorem YW {n:Nat} {f:Nat->E6} (h:BM n f = false):∃ e,e < n ∧ AR (f e) = 30 ∧ ∀ t,t < e->AR (f t) = 0:=by
 obtain ⟨e,h1,h2,h3⟩:=Tb _ n h
 refine ⟨e,h1,ZZ λh0=>?_,λt ht=>by simpa [ieq] using h3 t ht⟩
 rw [h0] at h2
 cases h2
def ZY:List V->T (V × List Blk):=Hp λn f=>.br (AN n) (.br (BM n f) (.leaf (.tup [.ref 0,iV 0],[.row 3 1 n λi=>iV (Bw (f i))])) (.leaf (.tup [.ref 0,iV 30],[.row 3 1 0 λ_=>.und]))) .fail
end Go.Proofs.Ytjhnfomefcngfaa.Ed
namespace Go.Proofs.Ytjhnfomefcngfaa.Ed
open Go.Sy
end Go.Proofs.Ytjhnfomefcngfaa.Ed
