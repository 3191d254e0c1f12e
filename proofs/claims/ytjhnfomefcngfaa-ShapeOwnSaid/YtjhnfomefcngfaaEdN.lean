/-
  Layer 3: architectures: what is known, what is legal, all edges of one. No conditions.
-/
import Derived.Test.YtjhnfomefcngfaaEdD
import Derived.Test.YtjhnfomefcngfaaSyQ
namespace Go.Proofs.Ytjhnfomefcngfaa.Ed
open Go.Sy
def ap1 {α:Type} (d:V->Option α) (F:α->T (V × List Blk)):List V->T (V × List Blk)
  | [v]=>match d v with
    | some a=>F a
    | none=>.fail
  | _=>.fail
def ap2 {α β:Type} (d:V->Option α) (e:V->Option β) (F:α->β->T (V × List Blk)):List V->T (V × List Blk)
  | [v,u]=>match d v,e u with
    | some a,some b=>F a b
    | _,_=>.fail
  | _=>.fail
theorem SV {α:Type} {d:V->Option α} {c:α->V} (hd:∀ v a,d v = some a->v = c a) {F:α->T (V × List Blk)} {vs:List V} {r:V × List Blk} (h:(ap1 d F vs).sem = some r) :
    ∃ a,vs = [c a] ∧ (F a).sem = some r:=by
  unfold ap1 at h
  split at h
  · split at h
    · rename_i v _ a ha
      exact ⟨a,by rw [hd v a ha],h⟩
    · cases h
  · cases h
theorem KA {α β:Type} {d:V->Option α} {e:V->Option β} {c:α->V} {c':β->V} (hd:∀ v a,d v = some a->v = c a) (he:∀ v b,e v = some b->v = c' b) {F:α->β->T (V × List Blk)}
    {vs:List V} {r:V × List Blk} (h:(ap2 d e F vs).sem = some r):∃ a b,vs = [c a,c' b] ∧ (F a b).sem = some r:=by
  unfold ap2 at h
  split at h
  · split at h
    · rename_i v u _ _ a b ha hb
      exact ⟨a,b,by rw [hd v a ha,he u b hb],h⟩
    · cases h
  · cases h
theorem NK:∀ v a,gI v = some a->v = iV a:=fun _ _ h=>FU h
theorem Th:∀ v a,toE v = some a->v = eV a:=fun _ _ h=>MB h
def out (v:V):T (V × List Blk):=.leaf (v,[])
def Cr (a:Int):Bool:=bor (ieq a 1) (ieq a 2)
def Hm (a n:Int):Bool:=bor (ilt n 14) (L4 (ilt n 22) (ieq a 1))
def Sl (a:Int) (e:E6):Bool :=
  bor (ieq e.kind 1) (bor (ieq e.kind 2) (bor (ieq e.kind 3) (bor (ieq e.kind 4) (sel (ieq e.kind 5) (L4 (ieq e.fence 1) (ieq a 1)) (ieq a 2)))))
theorem Ab6 (a:Int):(A1 (Al tab cx6 Try.f117 [iV a] [])).sem = some (bV (Cr a),[]):=by
  have h1:(A1 (Al tab cx6 Try.f117 [iV a] [])).path [true,true,true] = some ([ieq a 1,ieq a 1,ieq a 1],(bV true,[])):=by kernel_rfl
  have h2:(A1 (Al tab cx6 Try.f117 [iV a] [])).path [false,false,false] = some ([ieq a 1,ieq a 1,ieq a 1],(bV (ieq a 2),[])):=by kernel_rfl
  unfold Cr
  cases h:ieq a 1 with
  | true=>exact AH h1 (by rw [h])
  | false=>exact AH h2 (by rw [h])
theorem Ab5 (a:Int):(A1 (Al tab cx6 Try.f99 [iV a] [])).sem = some (bV (Cr a),[]):=by
  have h1:(A1 (Al tab cx6 Try.f99 [iV a] [])).path [true,true,true] = some ([ieq a 1,ieq a 1,ieq a 1],(bV true,[])):=by kernel_rfl
  have h2:(A1 (Al tab cx6 Try.f99 [iV a] [])).path [false,false,false] = some ([ieq a 1,ieq a 1,ieq a 1],(bV (ieq a 2),[])):=by kernel_rfl
  unfold Cr
  cases h:ieq a 1 with
  | true=>exact AH h1 (by rw [h])
  | false=>exact AH h2 (by rw [h])
theorem Ab0 (a n:Int):(A1 (Al tab cx6 Try.f118 [iV a,iV n] [])).sem = some (bV (Hm a n),[]):=by
  have h1:(A1 (Al tab cx6 Try.f118 [iV a,iV n] [])).path [true] = some ([ilt n 14],(bV true,[])):=by kernel_rfl
  have h2:(A1 (Al tab cx6 Try.f118 [iV a,iV n] [])).path [false] = some ([ilt n 14],(bV (L4 (ilt n 22) (ieq a 1)),[])):=by kernel_rfl
  unfold Hm
  cases h:ilt n 14 with
  | true=>exact AH h1 (by rw [h])
  | false=>exact AH h2 (by rw [h])
theorem AiK (a:Int) (e:E6):(A1 (Al tab cx6 Try.f100 [iV a,eV e] [])).sem = some (bV (Sl a e),[]):=by
  have h1:(A1 (Al tab cx6 Try.f100 [iV a,eV e] [])).path [true,true] = some ([ieq e.kind 1,ieq e.kind 1],(bV true,[])):=by kernel_rfl
  have h2:(A1 (Al tab cx6 Try.f100 [iV a,eV e] [])).path [false,true,true] = some ([ieq e.kind 1,ieq e.kind 2,ieq e.kind 2],(bV true,[])):=by kernel_rfl
  have h3:(A1 (Al tab cx6 Try.f100 [iV a,eV e] [])).path [false,false,true,true] = some ([ieq e.kind 1,ieq e.kind 2,ieq e.kind 3,ieq e.kind 3],(bV true,[])):=by kernel_rfl
  have h4:(A1 (Al tab cx6 Try.f100 [iV a,eV e] [])).path [false,false,false,true] = some ([ieq e.kind 1,ieq e.kind 2,ieq e.kind 3,ieq e.kind 4],(bV true,[])):=by kernel_rfl
  have h5:(A1 (Al tab cx6 Try.f100 [iV a,eV e] [])).path [false,false,false,false,true] = some ([ieq e.kind 1,ieq e.kind 2,ieq e.kind 3,ieq e.kind 4,ieq e.kind 5],(bV (L4 (ieq e.fence 1) (ieq a 1)),[])):=by kernel_rfl
  have h6:(A1 (Al tab cx6 Try.f100 [iV a,eV e] [])).path [false,false,false,false,false] = some ([ieq e.kind 1,ieq e.kind 2,ieq e.kind 3,ieq e.kind 4,ieq e.kind 5],(bV (ieq a 2),[])):=by kernel_rfl
  unfold Sl
  cases c1:ieq e.kind 1 with
  | true=>exact AH h1 (by rw [c1])
  | false =>
  cases c2:ieq e.kind 2 with
  | true=>exact AH h2 (by rw [c1,c2])
  | false =>
  cases c3:ieq e.kind 3 with
  | true=>exact AH h3 (by rw [c1,c2,c3])
  | false =>
  cases c4:ieq e.kind 4 with
  | true=>exact AH h4 (by rw [c1,c2,c3,c4])
  | false =>
  cases c5:ieq e.kind 5 with
  | true=>exact AH h5 (by rw [c1,c2,c3,c4,c5])
  | false=>exact AH h6 (by rw [c1,c2,c3,c4,c5])
theorem p77:AD Try.prog Gl 117 (ap1 gI fun a=>out (bV (Cr a))):=by
  refine AD.congr (AS AO AP Try.func117 (by kernel_rfl) (by kernel_rfl) (Γ:=cx6) (AQ MD _)) fun vs r h=>?_
  obtain ⟨a,rfl,h⟩:=SV NK h
  rw [Ac h]
  exact Ab6 a
theorem p79:AD Try.prog Gl 99 (ap1 gI fun a=>out (bV (Cr a))):=by
  refine AD.congr (AS AO AP Try.func99 (by kernel_rfl) (by kernel_rfl) (Γ:=cx6) (AQ MD _)) fun vs r h=>?_
  obtain ⟨a,rfl,h⟩:=SV NK h
  rw [Ac h]
  exact Ab5 a
theorem p78:AD Try.prog Gl 118 (ap2 gI gI fun a n=>out (bV (Hm a n))):=by
  refine AD.congr (AS AO AP Try.func118 (by kernel_rfl) (by kernel_rfl) (Γ:=cx6) (AQ MD _)) fun vs r h=>?_
  obtain ⟨a,n,rfl,h⟩:=KA NK NK h
  rw [Ac h]
  exact Ab0 a n
theorem p80:AD Try.prog Gl 100 (ap2 gI toE fun a e=>out (bV (Sl a e))):=by
  refine AD.congr (AS AO AP Try.func100 (by kernel_rfl) (by kernel_rfl) (Γ:=cx6) (AQ MD _)) fun vs r h=>?_
  obtain ⟨a,e,rfl,h⟩:=KA NK Th h
  rw [Ac h]
  exact AiK a e
theorem WB (k:Nat) (hk:k < 112) (a:Int) (ha:Cr a = true):Sl a (Du k) = Hm a (Int.ofNat k):=by
  have h1:(List.range 112).map (fun k:Nat=>Sl 1 (Du k)) = (List.range 112).map fun k:Nat=>Hm 1 (Int.ofNat k):=by kernel_rfl
  have h2:(List.range 112).map (fun k:Nat=>Sl 2 (Du k)) = (List.range 112).map fun k:Nat=>Hm 2 (Int.ofNat k):=by kernel_rfl
  simp only [Cr,bor,ieq,Bool.or_eq_true,beq_iff_eq] at ha
  rcases ha with rfl | rfl
  · exact GT h1 k hk
  · exact GT h2 k hk
noncomputable def tb8:List (Nat × (List V->T (V × List Blk))):=(117,ap1 gI fun a=>out (bV (Cr a))) :: (99,ap1 gI fun a=>out (bV (Cr a))) :: (118,ap2 gI gI fun a n=>out (bV (Hm a n))) :: (100,ap2 gI toE fun a e=>out (bV (Sl a e))) :: tb7
theorem tb8_ok:AF Try.prog Gl tb8:=.cons p77 <| .cons p79 <| .cons p78 <| .cons p80 AdD
noncomputable def cx8:Cx:=AR Gl tb8 [(0,⟨[],2,[],2,113⟩)]
def D7 (a:Int) (e:E6):Bool:=sel (Am (Cr a)) false (sel (Am (ieq (AM e) 0)) false (Hm a (Bv e)))
def Dw (a:Int) (e:E6):Int:=sel (Am (Cr a)) 1 (AM e)
def RS (a:Int) (e:E6):V:=.tup [bV (D7 a e),iV (Dw a e)]
theorem Ab2 (a:Int) (e:E6):(A1 (Al tab cx8 Try.f110 [iV a,eV e] [])).sem = some (RS a e,[]):=by
  have h1:(A1 (Al tab cx8 Try.f110 [iV a,eV e] [])).path [true] = some ([Am (Cr a)],(.tup [bV false,iV 1],[])):=by kernel_rfl
  have h2:(A1 (Al tab cx8 Try.f110 [iV a,eV e] [])).path [false,true] = some ([Am (Cr a),Am (ieq (AM e) 0)],(.tup [bV false,iV (AM e)],[])):=by kernel_rfl
  have h3:(A1 (Al tab cx8 Try.f110 [iV a,eV e] [])).path [false,false] = some ([Am (Cr a),Am (ieq (AM e) 0)],(.tup [bV (Hm a (Bv e)),iV 0],[])):=by kernel_rfl
  unfold RS D7 Dw
  cases c1:Am (Cr a) with
  | true=>exact AH h1 (by rw [c1])
  | false =>
  cases c2:Am (ieq (AM e) 0) with
  | true=>exact AH h2 (by rw [c1,c2])
  | false =>
    have:AM e = 0:=by simpa [Am,ieq] using c2
    rw [this]
    exact AH h3 (by rw [c1,c2])
theorem FZ (e:E6):(∃ k:Nat,k < 112 ∧ AM e = 0 ∧ Bv e = Int.ofNat k ∧ Du k = e ∧ RH e = Ph k) ∨ (AM e = 30 ∧ Bv e = 0 ∧ RH e = [] ∧ ∀ k,k < 112->Du k ≠ e):=by
  unfold AM Bv RH
  cases h:GB e 112 0 with
  | some k =>
    obtain ⟨_,h2,h3⟩:=JE e 112 0 k h
    exact .inl ⟨k,by omega,rfl,rfl,h3,rfl⟩
  | none =>
    refine .inr ⟨rfl,rfl,rfl,?_⟩
    have:∀ m k,GB e m k = none->∀ j,k <= j->j < k+m->Du j ≠ e:=by
      intro m
      induction m with
      | zero=>intro k _ j h1 h2; omega
      | succ m ih =>
        intro k hn j h1 h2
        simp only [GB] at hn
        split at hn
        · cases hn
        · rename_i hne
          by_cases hj:j = k
          · subst hj
            intro he
            rw [(IX _ _).2 he] at hne
            cases hne
          · exact ih _ hn j (by omega) (by omega)
    exact fun k hk=>this 112 0 h k (by omega) (by omega)
theorem Ab1 (a:Int) (e:E6):(A1 (Al tab cx8 Try.f65 [iV a,eV e] [])).sem = some (RS a e,[]):=by
  have h1:(A1 (Al tab cx8 Try.f65 [iV a,eV e] [])).path [true] = some ([Am (Cr a)],(.tup [bV false,iV 1],[])):=by kernel_rfl
  have h2:(A1 (Al tab cx8 Try.f65 [iV a,eV e] [])).path [false,true] = some ([Am (Cr a),Am (ieq (AM e) 0)],(.tup [bV false,iV 30],[])):=by kernel_rfl
  have h3:(A1 (Al tab cx8 Try.f65 [iV a,eV e] [])).path [false,false] = some ([Am (Cr a),Am (ieq (AM e) 0)],(.tup [bV (Sl a e),iV 0],[])):=by kernel_rfl
  unfold RS D7 Dw
  cases c1:Am (Cr a) with
  | true=>exact AH h1 (by rw [c1])
  | false =>
  rcases FZ e with ⟨k,hk,hf,hn,he,_⟩ | ⟨hf,_⟩
  · have c2:Am (ieq (AM e) 0) = false:=by rw [hf]; rfl
    have ha:Cr a = true:=by simpa [Am] using c1
    rw [c2,hf,hn,<- WB k hk a ha,he]
    exact AH h3 (by rw [c1,c2])
  · have c2:Am (ieq (AM e) 0) = true:=by rw [hf]; rfl
    rw [c2,hf]
    exact AH h2 (by rw [c1,c2])
theorem p32:AD Try.prog Gl 110 (ap2 gI toE fun a e=>out (RS a e)):=by
  refine AD.congr (AS AO AP Try.func110 (by kernel_rfl) (by kernel_rfl) (Γ:=cx8) (AQ tb8_ok _)) fun vs r h=>?_
  obtain ⟨a,e,rfl,h⟩:=KA NK Th h
  rw [Ac h]
  exact Ab2 a e
theorem p33:AD Try.prog Gl 65 (ap2 gI toE fun a e=>out (RS a e)):=by
  refine AD.congr (AS AO AP Try.func65 (by kernel_rfl) (by kernel_rfl) (Γ:=cx8) (AQ tb8_ok _)) fun vs r h=>?_
  obtain ⟨a,e,rfl,h⟩:=KA NK Th h
  rw [Ac h]
  exact Ab1 a e
end Go.Proofs.Ytjhnfomefcngfaa.Ed
namespace Go.Proofs.Ytjhnfomefcngfaa.Ed
open Go.Sy
open Int (ofNat)
def okE (v:V):Bool:=match toE v with
  | some _=>true
  | none=>false
def edE (v:V):E6:=match toE v with
  | some e=>e
  | none=>FF
def An (n:Nat) (p:Nat->Bool):Bool:=(List.range n).all p
theorem AA {n:Nat} {p:Nat->Bool}:An n p = true ↔ ∀ i,i < n->p i = true:=by simp [An]
theorem AbP (n:Nat) (f:Nat->E6):An n (fun i=>okE (eV (f i))) = true:=AA.2 fun _ _=>rfl
theorem Kd {v:V} (h:okE v = true):v = eV (edE v):=by
  unfold okE at h
  unfold edE
  split at h
  · rename_i e he
    exact MB he
  · cases h
def gSl:V->Option (Nat × (Nat->V))
  | .sl s n g=>match Nat.beq s 6 with
    | true=>some (n,g)
    | false=>match n with
      | 0=>some (0,g)
      | _=>none
  | .slr s n _ g=>match Nat.beq s 6 with
    | true=>some (n,g)
    | false=>none
  | _=>none
def apL {α:Type} (v:V) (F:Nat->(Nat->E6)->T α):T α :=
  match gSl v with
  | some (n,g)=>.br (An n fun i=>okE (g i)) (F n fun i=>edE (g i)) .fail
  | none=>.fail
def A2 (n:Nat) (f:Nat->E6):V:=.sl 6 n fun i=>eV (f i)
theorem BU {α:Type} {v:V} {F:Nat->(Nat->E6)->T α} {r:α} (h:(apL v F).sem = some r) :
    ∃ n f,(∀ (S:Nat->Prop) (w:World) (c:Value),VR S w v noK c->VR S w (A2 n f) noK c) ∧ (F n f).sem = some r:=by
  unfold apL at h
  split at h
  · rename_i n g hg
    obtain ⟨h1,h2⟩:=Ag h
    have h1:=AA.1 h1
    refine ⟨n,_,fun S w c hv=>?_,h2⟩
    unfold gSl at hg
    split at hg
    · rename_i s n' g'
      split at hg
      · rename_i hs
        simp only [Option.some.injEq,Prod.mk.injEq] at hg
        obtain ⟨rfl,rfl⟩:=hg
        have hs:s = 6:=Nat.eq_of_beq_eq_true hs
        subst hs
        obtain ⟨a,cap,e,hc,hb⟩:=hv
        refine ⟨a,cap,e,hc,hb.imp id ?_⟩
        rintro ⟨b,o,ea,hel⟩
        refine ⟨b,o,ea,fun i hi=>?_⟩
        have:=hel i hi
        rw [Kd (h1 i hi)] at this
        exact this
      · split at hg
        · simp only [Option.some.injEq,Prod.mk.injEq] at hg
          obtain ⟨rfl,rfl⟩:=hg
          obtain ⟨a,cap,e,hc,_⟩:=hv
          exact ⟨a,cap,e,hc,.inl rfl⟩
        · cases hg
    · rename_i s n' m' g'
      split at hg
      · rename_i hs
        simp only [Option.some.injEq,Prod.mk.injEq] at hg
        obtain ⟨rfl,rfl⟩:=hg
        have hs:s = 6:=Nat.eq_of_beq_eq_true hs
        subst hs
        obtain ⟨a,cap,e,hc,hm,hb⟩:=hv
        refine ⟨a,cap,e,Nat.le_trans hc hm,?_⟩
        rcases hb with h0 | ⟨b,o,ea,hel⟩
        · exact .inl (by omega)
        · refine .inr ⟨b,o,ea,fun i hi=>?_⟩
          have:=hel i (by omega)
          rw [Kd (h1 i hi)] at this
          exact this
      · cases hg
    · cases hg
  · cases h
def GS (F:Nat->(Nat->E6)->T (V × List Blk)):List V->T (V × List Blk)
  | [v]=>apL v F
  | _=>.fail
def Agg (F:Nat->(Nat->E6)->Nat->(Nat->E6)->T (V × List Blk)):List V->T (V × List Blk)
  | [v,u]=>apL v fun n f=>apL u fun m g=>F n f m g
  | _=>.fail
theorem CK {F:Nat->(Nat->E6)->T (V × List Blk)} {vs:List V} {r:V × List Blk} (h:(GS F vs).sem = some r):∃ n f,BA vs [A2 n f] ∧ (F n f).sem = some r:=by
  unfold GS at h
  split at h
  · obtain ⟨n,f,h1,h2⟩:=BU h
    refine ⟨n,f,fun S w cs hv=>?_,h2⟩
    obtain ⟨c,l,rfl,q1,q2⟩:=hv
    exact ⟨c,l,rfl,h1 S w c q1,q2⟩
  · cases h
theorem Xa {F:Nat->(Nat->E6)->Nat->(Nat->E6)->T (V × List Blk)} {vs:List V} {r:V × List Blk} (h:(Agg F vs).sem = some r) :
    ∃ n f m g,BA vs [A2 n f,A2 m g] ∧ (F n f m g).sem = some r:=by
  unfold Agg at h
  split at h
  · obtain ⟨n,f,h1,h2⟩:=BU h
    obtain ⟨m,g,h3,h4⟩:=BU h2
    refine ⟨n,f,m,g,fun S w cs hv=>?_,h4⟩
    obtain ⟨c,l,rfl,q1,c',l',rfl,q2,q3⟩:=hv
    exact ⟨c,_,rfl,h1 S w c q1,c',l',rfl,h3 S w c' q2,q3⟩
  · cases h
theorem Aq {i n:Nat} (h:i < n) (hn:n <= 4611686018427387904):wr .i64 (Ae (ofNat i) 1) = ofNat (i+1):=by
  unfold wr Ae IntKind.wrap
  simp [IntKind.bits,IntKind.signed]
  omega
theorem ofNat_lt {i n:Nat} (h:i < n):ilt (ofNat i) (ofNat n) = true:=by simp [ilt]; omega
theorem A8 {i n:Nat} (h:n <= i):ilt (ofNat i) (ofNat n) = false:=by simp [ilt]; omega
theorem Ay {i n:Nat} (h:i < n):Af (ile 0 (ofNat i)) (ilt (ofNat i) (ofNat n)) = true:=by rw [ofNat_lt h]; simp [Af,ile]
noncomputable def cx9 (l:List (Nat × Lp)):Cx:=AR Gl tb8 l
def N3 (n:Nat):Lp:=⟨(bmK 26 0 [0,1,4,5]),0,(bmK 26 0 [0,1,4]),0,n+1⟩
def O5 (n m:Nat) (i:Int) (f g:Nat->E6) (j:Nat->V):St:=⟨(jsV 26 0 j [(0,.sl 6 n fun i=>eV (f i)),(1,.sl 6 m fun i=>eV (g i)),(4,bV false),(5,iV i)]),[]⟩
def SH (n m:Nat) (f g:Nat->E6):St:=⟨(jsV 26 0 (fun _=>.und) [(0,.sl 6 n fun i=>eV (f i)),(1,.sl 6 m fun i=>eV (g i)),(4,bV false)]),[]⟩
noncomputable def H4 (L:LT):St->T (Ex × St):=fun st=>A9 tab ⟨Ao tb8,L,Gl⟩ (Av Try.f60 0) 0 st
section
variable (L:LT) (n m i:Nat) (f g:Nat->E6) (j:Nat->V)
include L n m i f g j
theorem XN:((H4 L (O5 n m (ofNat i) f g j)).bind fun r=>T.leaf (r.1,K1 [true,true,false,false,true,false,false,false,false,false,false,false,false,false,false,false,false,false,false,false,false,false,false,false,false,false] 0 r.2)).path [false] = some ([ilt (ofNat i) (ofNat n)],(.ex 0,SH n m f g)):=by kernel_rfl
theorem XM:((H4 L (O5 n m (ofNat i) f g j)).bind fun r=>T.leaf (r.1,K1 [true,true,false,false,true,false,false,false,false,false,false,false,false,false,false,false,false,false,false,false,false,false,false,false,false,false] 0 r.2)).path [true,true,true,true] =
    some ([ilt (ofNat i) (ofNat n),Af (ile 0 (ofNat i)) (ilt (ofNat i) (ofNat n)),Af (ile 0 (ofNat i)) (ilt (ofNat i) (ofNat m)),Am (eqE (f i) (g i))],(.rt,SH n m f g)):=by kernel_rfl
theorem Wm:((H4 L (O5 n m (ofNat i) f g j)).bind fun r=>T.leaf (r.1,K1 [true,true,false,false,true,true,false,false,false,false,false,false,false,false,false,false,false,false,false,false,false,false,false,false,false,false] 0 r.2)).path [true,true,true,false] =
    some ([ilt (ofNat i) (ofNat n),Af (ile 0 (ofNat i)) (ilt (ofNat i) (ofNat n)),Af (ile 0 (ofNat i)) (ilt (ofNat i) (ofNat m)),Am (eqE (f i) (g i))],
      (.nm,O5 n m (wr .i64 (Ae (ofNat i) 1)) f g fun _=>.und)):=by kernel_rfl
end
def F4 (f g:Nat->E6):Nat->Nat->Bool
  | 0,_=>true
  | d+1,i=>match eqE (f i) (g i) with
    | true=>F4 f g d (i+1)
    | false=>false
theorem Ru (L:LT) (n m:Nat) (f g:Nat->E6) (hm:n = m) (hn:n <= 4611686018427387904):∀ (d i:Nat) (j:Nat->V) (q:Nat),n = i+d->d < q ->
    (A3 (H4 L) (N3 n) q (O5 n m (ofNat i) f g j)).sem = some (match F4 f g d i with | true=>.ex 0 | false=>.rt,SH n m f g)
  | 0,i,j,q+1,h1,_=>by
    have h3:(A3 (H4 L) (N3 n) (q+1) (O5 n m (ofNat i) f g j)).sem = some (.ex 0,SH n m f g):=RY (XN L n m i f g j) (by rw [A8 (by omega)]) (fun h=>by cases h)
    exact h3
  | d+1,i,j,q+1,h1,h2=>by
    have hi:i < n:=by omega
    have hi':i < m:=by omega
    unfold F4
    cases hc:eqE (f i) (g i) with
    | true =>
      have h3:(A3 (H4 L) (N3 n) (q+1) (O5 n m (ofNat i) f g j)).sem = (A3 (H4 L) (N3 n) q (O5 n m (wr .i64 (Ae (ofNat i) 1)) f g fun _=>.und)).sem :=
        W9 (Wm L n m i f g j) (by rw [Ay hi,Ay hi',ofNat_lt hi,hc]; rfl)
      rw [h3,Aq hi hn]
      exact Ru L n m f g hm hn d (i+1) (fun _=>.und) q (by omega) (by omega)
    | false =>
      have h3:(A3 (H4 L) (N3 n) (q+1) (O5 n m (ofNat i) f g j)).sem = some (.rt,SH n m f g):=RY (XM L n m i f g j) (by rw [Ay hi,Ay hi',ofNat_lt hi,hc]; rfl) (fun h=>by cases h)
      exact h3
def Bn (n:Nat) (f:Nat->E6) (m:Nat) (g:Nat->E6):Bool:=sel (ieq (ofNat n) (ofNat m)) (F4 f g n 0) false
def AiD (n m:Nat) (f g:Nat->E6):Nat->V:=lkV A7 [(6,A2 n f),(7,nV n),(8,A2 m g),(9,nV m),(10,bV (Am (ieq (ofNat n) (ofNat m))))]
theorem XO (n m:Nat) (f g:Nat->E6) (L:LT):A1 (Al tab ⟨Ao tb8,L,Gl⟩ Try.f60 [A2 n f,A2 m g] []) =
    A1 (Al tab ⟨Ao tb8,fun _ _ _=>L 0 (H4 L) (O5 n m 0 f g (AiD n m f g)),Gl⟩ Try.f60 [A2 n f,A2 m g] []):=by kernel_rfl
theorem AaB (n m:Nat) (f g:Nat->E6) (L:LT):(A1 (Al tab ⟨Ao tb8,L,Gl⟩ Try.f60 [A2 n f,A2 m g] [])).path [true] =
    some ([Am (ieq (ofNat n) (ofNat m))],(bV false,[])):=by kernel_rfl
theorem AaC (n m:Nat) (f g:Nat->E6):(A1 (Al tab ⟨Ao tb8,fun _ _ _=>.leaf (.ex 0,SH n m f g),Gl⟩ Try.f60 [A2 n f,A2 m g] [])).path [false] =
    some ([Am (ieq (ofNat n) (ofNat m))],(bV true,[])):=by kernel_rfl
theorem AaA (n m:Nat) (f g:Nat->E6):(A1 (Al tab ⟨Ao tb8,fun _ _ _=>.leaf (.rt,SH n m f g),Gl⟩ Try.f60 [A2 n f,A2 m g] [])).path [false] =
    some ([Am (ieq (ofNat n) (ofNat m))],(bV false,[])):=by kernel_rfl
theorem AdK (n m:Nat) (f g:Nat->E6) (hn:n <= 4611686018427387904):(A1 (Al tab (cx9 [(0,N3 n)]) Try.f60 [A2 n f,A2 m g] [])).sem = some (bV (Bn n f m g),[]):=by
  unfold Bn
  cases hc:ieq (ofNat n) (ofNat m) with
  | false=>exact AH (AaB n m f g _) (by rw [hc]; rfl)
  | true =>
    have h0:ofNat n = ofNat m:=by simpa only [ieq,beq_iff_eq] using hc
    have hm:n = m:=Int.ofNat.inj h0
    have h1:=Ru (Bc [(0,N3 n)]) n m f g hm hn n 0 (AiD n m f g) (n+1) (by omega) (by omega)
    have h2:=XO n m f g (Bc [(0,N3 n)])
    have h3:(A1 (Al tab (cx9 [(0,N3 n)]) Try.f60 [A2 n f,A2 m g] [])).sem = (A1 (Al tab ⟨Ao tb8,fun _ _ _=>.leaf (match F4 f g n 0 with | true=>.ex 0 | false=>.rt,SH n m f g),Gl⟩ Try.f60 [A2 n f,A2 m g] [])).sem:=by
      refine (congrArg T.sem h2).trans (PC fun id _ _ _ _=>?_)
      exact h1
    rw [h3]
    cases F4 f g n 0 with
    | true=>exact AH (AaC n m f g) (by rw [hc]; rfl)
    | false=>exact AH (AaA n m f g) (by rw [hc]; rfl)
def Ah (n:Nat):Bool:=decide (n <= 4611686018427387904)
def AbY:List V->T (V × List Blk):=Agg fun n f m g=>.br (Ah n) (out (bV (Bn n f m g))) .fail
end Go.Proofs.Ytjhnfomefcngfaa.Ed
namespace Go.Proofs.Ytjhnfomefcngfaa.Ed
open Go.Sy
def AL (n:Nat):Bool:=decide (n * 40 <= 140737488355328)
section
variable (L:LT)
end
end Go.Proofs.Ytjhnfomefcngfaa.Ed
namespace Go.Proofs.Ytjhnfomefcngfaa.Ed
open Go.Sy
end Go.Proofs.Ytjhnfomefcngfaa.Ed
namespace Go.Proofs.Ytjhnfomefcngfaa.Ed
open Go.Sy
end Go.Proofs.Ytjhnfomefcngfaa.Ed
namespace Go.Sy
def QQ (l:Lp) (r:Ex × St):Ex × St :=
  match r.1 with
  | .nm=>(.nm,K1 l.ks l.n r.2)
  | .ex i=>(.ex i,K1 l.ke l.ne r.2)
  | .rt=>(.rt,K1 l.ke l.ne r.2)
def Ai (f:St->T (Ex × St)) (l:Lp) (st:St):Option (Ex × St):=((f st).bind fun r=>T.leaf (QQ l r)).sem
def AbF (f:St->T (Ex × St)) (l:Lp) (m:Nat):Option (Ex × St)->Option (Ex × St)
  | some (.nm,st)=>(A3 f l m st).sem
  | some (e,st)=>some (e,st)
  | none=>none
theorem Ab {f:St->T (Ex × St)} {l:Lp} {m:Nat} {st:St} {t:Option (Ex × St)} (h:Ai f l st = t):(A3 f l (m+1) st).sem = AbF f l m t:=by
  subst h
  show ((f st).bind _).sem = _
  unfold Ai
  rw [CW,CW]
  cases (f st).sem with
  | none=>rfl
  | some r =>
    obtain ⟨e,s⟩:=r
    cases e <;> rfl
theorem Aw {f:St->T (Ex × St)} {l:Lp} {m:Nat} {st:St}:AbF f l m (some (.nm,st)) = (A3 f l m st).sem:=rfl
theorem Qx {f:St->T (Ex × St)} {l:Lp} {m:Nat} {i:Nat} {st:St}:AbF f l m (some (.ex i,st)) = some (.ex i,st):=rfl
theorem Dm {f:St->T (Ex × St)} {l:Lp} {m:Nat} {st:St}:AbF f l m (some (.rt,st)) = some (.rt,st):=rfl
theorem XJ {α:Type} (x y:α):sel true x y = x:=rfl
theorem Wl {α:Type} (x y:α):sel false x y = y:=rfl
def TLe {α:Type} (t t':T α):Prop:=∀ r,t.sem = some r->t'.sem = some r
theorem TLe.refl {α:Type} (t:T α):TLe t t:=fun _ h=>h
theorem TLe.bind {α β:Type} {t t':T α} {f f':α->T β} (h:TLe t t') (hf:∀ a,TLe (f a) (f' a)):TLe (t.bind f) (t'.bind f'):=fun r hr=>by
  obtain ⟨a,h1,h2⟩:=Ap hr
  rw [CW,h a h1]
  exact hf a r h2
def LLe (M L:Nat->(St->T (Ex × St))->St->T (Ex × St)):Prop:=∀ id f f' st,(∀ st,TLe (f st) (f' st))->TLe (M id f st) (L id f' st)
theorem RZ {f f':St->T (Ex × St)} (h:∀ st,TLe (f st) (f' st)) (l:Lp):∀ (m:Nat) (st:St),TLe (A3 f l m st) (A3 f' l m st)
  | 0,_=>TLe.refl _
  | m+1,st=>by
    refine TLe.bind (h st) fun r=>?_
    cases r.1 with
    | nm=>exact RZ h l m _
    | ex i=>exact TLe.refl _
    | rt=>exact TLe.refl _
theorem AC (ls:List (Nat × Lp)):LLe (Bc ls) (Bc ls):=fun id f f' st h=>by
  unfold Bc
  split
  · exact RZ h _ _ _
  · exact TLe.refl _
def onP (k:Nat) (p:(St->T (Ex × St))->St->Bool) (r:Ex × St) (L:Nat->(St->T (Ex × St))->St->T (Ex × St)):Nat->(St->T (Ex × St))->St->T (Ex × St) :=
  fun id f st=>match Nat.beq id k with
    | true=>.br (p f st) (.leaf r) .fail
    | false=>L id f st
noncomputable def isP (L:Nat->(St->T (Ex × St))->St->T (Ex × St)) (k:Nat) (r:Ex × St):(St->T (Ex × St))->St->Bool :=
  fun f st=>@decide ((L k f st).sem = some r) (Classical.propDecidable _)
theorem Ak {L:Nat->(St->T (Ex × St))->St->T (Ex × St)} {k:Nat} {r:Ex × St} {f:St->T (Ex × St)} {st:St} (h:(L k f st).sem = some r):isP L k r f st = true:=by
  unfold isP
  exact @decide_eq_true _ (Classical.propDecidable _) h
theorem Ax {M L:Nat->(St->T (Ex × St))->St->T (Ex × St)} {k:Nat} {r:Ex × St} (hM:LLe M L) (hL:LLe L L):LLe (onP k (isP L k r) r M) L:=fun id f f' st hf r' hr=>by
  unfold onP at hr
  cases hk:Nat.beq id k with
  | true =>
    rw [hk] at hr
    obtain ⟨h1,h2⟩:=Ag hr
    rw [Ac h2]
    unfold isP at h1
    have h1:=@of_decide_eq_true _ (Classical.propDecidable _) h1
    rw [Nat.eq_of_beq_eq_true hk]
    exact hL k f f' st hf _ h1
  | false =>
    rw [hk] at hr
    exact hM id f f' st hf _ hr
theorem Dx {τ:List Ty} {Γ:Cx} {L L':Nat->(St->T (Ex × St))->St->T (Ex × St)} (h:LLe L L') :
    ∀ (c:Code) (id:Nat) (st:St),TLe (A9 τ { Γ with loop:=L } c id st) (A9 τ { Γ with loop:=L' } c id st):=by
  intro c
  induction c with
  | skip=>intro id st; exact TLe.refl _
  | region i ops draw=>intro id st; exact TLe.refl _
  | seq a b iha ihb =>
    intro id st
    refine TLe.bind (iha id st) fun r=>?_
    cases r.1 with
    | nm=>exact ihb id r.2
    | ex j=>exact TLe.refl _
    | rt=>exact TLe.refl _
  | cond x a b iha ihb =>
    intro id st
    show TLe (match ev ⟨Γ.call,Γ.glob⟩ st x with | .val (.bool q)=>T.br q (A9 τ { Γ with loop:=L } a id st) (A9 τ { Γ with loop:=L } b id st) | _=>.fail) (match ev ⟨Γ.call,Γ.glob⟩ st x with | .val (.bool q)=>T.br q (A9 τ { Γ with loop:=L' } a id st) (A9 τ { Γ with loop:=L' } b id st) | _=>.fail)
    split
    · rename_i q _
      cases q with
      | true=>exact iha id st
      | false=>exact ihb id st
    · exact TLe.refl _
  | block i c ih =>
    intro id st
    refine TLe.bind (ih i st) fun r=>?_
    cases r.1 with
    | nm=>exact TLe.refl _
    | ex j=>exact TLe.refl _
    | rt=>exact TLe.refl _
  | loop c ih =>
    intro id st
    exact h id _ _ st (ih id)
  | exit i=>intro id st; exact TLe.refl _
  | ret=>intro id st; exact TLe.refl _
  | _=>intro id st; exact TLe.refl _
theorem A6 {τ:List Ty} {call:FuncId->List V->St->T (V × Res)} {G:Nat->V} {fn:Func} {vs:List V} {L L':Nat->(St->T (Ex × St))->St->T (Ex × St)}
    (h:LLe L L'):TLe (A1 (Al τ ⟨call,L,G⟩ fn vs [])) (A1 (Al τ ⟨call,L',G⟩ fn vs [])):=by
  refine TLe.bind ?_ fun _=>TLe.refl _
  unfold Al
  cases fn.body with
  | none=>exact TLe.refl _
  | some c=>exact TLe.bind (Dx (Γ:=⟨call,L,G⟩) h c 0 _) fun _=>TLe.refl _
theorem CJ {f f':St->T (Ex × St)} {l:Lp} {st:St} {r:Ex × St} (h:TLe (f st) (f' st)) (hr:Ai f l st = some r):Ai f' l st = some r:=TLe.bind h (fun _=>TLe.refl _) r hr
def AiQ (v:V):Blk->Blk
  | .row e s 0 _=>.row e s 0 fun _=>v
  | .jag j=>.jag { j with mem:=fun i k=>Xh (Abg k (j.len i)) (j.mem i k) v }
  | b=>b
def Ac4 (h:List Blk) (id:Nat) (v:V):List Blk :=
  match h[id]? with
  | some b=>h.set id (AiQ v b)
  | none=>h
def CI (st:St):List (Nat × V)->St
  | []=>st
  | (id,v) :: l=>CI ⟨st.t,Ac4 st.h id v⟩ l
theorem Rd {Γ:Cx0}:∀ (l:List (Nat × V)) (st:St),LE Γ st (CI st l)
  | [],st=>LE.refl st
  | (id,v) :: l,st=>by
    refine LE.trans ?_ (Rd l _)
    unfold Ac4
    cases hb:st.h[id]? with
    | none=>exact LE.refl st
    | some b =>
      have same:st.h.set id b = st.h:=by
        have hl:=(List.getElem?_eq_some_iff.1 hb).1
        have:=(List.getElem?_eq_some_iff.1 hb).2
        rw [<- this,List.set_getElem_self]
      cases b with
      | row e s n g =>
        cases n with
        | zero=>exact Agi hb fun j hj=>by omega
        | succ n =>
          show LE Γ st ⟨st.t,st.h.set id (.row e s (n+1) g)⟩
          rw [same]
          exact LE.refl st
      | cells cs =>
        show LE Γ st ⟨st.t,st.h.set id (.cells cs)⟩
        rw [same]
        exact LE.refl st
      | imap t n get =>
        show LE Γ st ⟨st.t,st.h.set id (.imap t n get)⟩
        rw [same]
        exact LE.refl st
      | xrow lk e s n g =>
        show LE Γ st ⟨st.t,st.h.set id (.xrow lk e s n g)⟩
        rw [same]
        exact LE.refl st
      | jag j =>
        refine Agj hb (fun _ _=>rfl) (fun _ _=>rfl) (fun _ _=>rfl) fun k _ q hq=>?_
        have:Abg q (j.len k) = true:=by
          unfold Abg
          simpa using hq
        rw [this,FG]
        rfl
      | saved vs =>
        show LE Γ st ⟨st.t,st.h.set id (.saved vs)⟩
        rw [same]
        exact LE.refl st
      | dead =>
        show LE Γ st ⟨st.t,st.h.set id .dead⟩
        rw [same]
        exact LE.refl st
def C2 (zs:List (Nat × List (Nat × V))) (loops:List (Nat × Lp)) (id:Nat) (f:St->T (Ex × St)) (st:St):T (Ex × St) :=
  match Kp id zs with
  | some l=>Bc loops id f (CI st l)
  | none=>Bc loops id f st
theorem DI (zs:List (Nat × List (Nat × V))) (ls:List (Nat × Lp)):LLe (C2 zs ls) (C2 zs ls):=fun id f f' st h=>by
  unfold C2
  split
  · exact AC ls id f f' _ h
  · exact AC ls id f f' _ h
def cxZ (G:Nat->V) (tbl:List (Nat × (List V->T (V × List Blk)))) (zs:List (Nat × List (Nat × V))) (loops:List (Nat × Lp)):Cx:=⟨Ao tbl,C2 zs loops,G⟩
theorem JH {P:Program} {G:Nat->V} {tbl:List (Nat × (List V->T (V × List Blk)))} (h:AF P G tbl) (zs:List (Nat × List (Nat × V))) (loops:List (Nat × Lp)):Bm P (cxZ G tbl zs loops).base ∧ BX (cxZ G tbl zs loops):=by
  refine ⟨It rfl h,fun id f st r hr=>?_⟩
  have hr:(C2 zs loops id f st).sem = some r:=hr
  have by':∀ st,(Bc loops id f st).sem = some r->∃ l m,(A3 f l m st).sem = some r:=fun st hr=>by
    unfold Bc at hr
    split at hr
    · exact ⟨_,_,hr⟩
    · cases hr
  unfold C2 at hr
  split at hr
  · obtain ⟨l,m,h1⟩:=by' _ hr
    exact ⟨_,l,m,Rd _ _,h1⟩
  · obtain ⟨l,m,h1⟩:=by' _ hr
    exact ⟨_,l,m,LE.refl _,h1⟩
end Go.Sy
namespace Go.Proofs.Ytjhnfomefcngfaa.Ed
open Go.Sy
def BI (n:Nat) (f:Nat->E6):Bool:=An n fun i=>ieq (AM (f i)) 0
theorem DV {n:Nat} {f:Nat->E6}:BI n f = true ↔ ∀ i,i < n->AM (f i) = 0:=by
  unfold BI
  rw [AA]
  simp [ieq]
theorem NQ (f g:Nat->E6):∀ d i,F4 f g d i = true ↔ ∀ j,i <= j->j < i+d->f j = g j
  | 0,i=>by
    simp only [F4,true_iff]
    intro j h1 h2; omega
  | d+1,i=>by
    unfold F4
    cases h:eqE (f i) (g i) with
    | true =>
      have h0:=(IX _ _).1 h
      show F4 f g d (i+1) = true ↔ _
      rw [NQ f g d (i+1)]
      constructor
      · intro q j h1 h2
        by_cases hj:j = i
        · subst hj; exact h0
        · exact q j (by omega) (by omega)
      · intro q j h1 h2; exact q j (by omega) (by omega)
    | false =>
      constructor
      · intro q; cases q
      · intro q
        have:=(IX _ _).2 (q i (Nat.le_refl _) (by omega))
        rw [this] at h; cases h
end Go.Proofs.Ytjhnfomefcngfaa.Ed
