/-
  Layer 3: architectures: what is known, what is legal, all edges of one. No conditions.
-/
import Derived.Test.YtkbgidbledjejaaGreatEdD
import Derived.Test.YtkbgidbledjejaaGreatSyU
namespace Go.Proofs.YtkbgidbledjejaaGreat.Ed
open Go.Sy
def ap1 {α:Type} (d:V->Option α) (F:α->A3):List V->A3
 | [v]=>match d v with
  | some a=>F a
  | none=>.fail
 | _=>.fail
def ap2 {α β:Type} (d:V->Option α) (e:V->Option β) (F:α->β->A3):List V->A3
 | [v,u]=>match d v,e u with
  | some a,some b=>F a b
  | _,_=>.fail
 | _=>.fail
theorem M9 {α:Type} {d:V->Option α} {c:α->V} (hd:∀ v a,d v=some a->v=c a) {F:α->A3} {vs:List V} {r:V×List Blk} (h:(ap1 d F vs).sem=some r) :
  ∃ a,vs=[c a]∧(F a).sem=some r:=by
 unfold ap1 at h;split at h
 ·split at h
  ·rename_i v _ a ha
   exact ⟨a,by rw [hd v a ha],h⟩
  ·cases h
 ·cases h
theorem Hi {α β:Type} {d:V->Option α} {e:V->Option β} {c:α->V} {c':β->V} (hd:∀ v a,d v=some a->v=c a) (he:∀ v b,e v=some b->v=c' b) {F:α->β->A3}
  {vs:List V} {r:V×List Blk} (h:(ap2 d e F vs).sem=some r):∃ a b,vs=[c a,c' b]∧(F a b).sem=some r:=by
 unfold ap2 at h;split at h
 ·split at h
  ·rename_i v u _ _ a b ha hb
   exact ⟨a,b,by rw [hd v a ha,he u b hb],h⟩
  ·cases h
 ·cases h
theorem K4:∀ v a,gI v=some a->v=iV a:=λ_ _ h=>Hy h
theorem W1:∀ v a,toE v=some a->v=eV a:=λ_ _ h=>OW h
def out (v:V):A3:=.leaf (v,[])
def Bg (a:Int):Bool:=bor (ieq a 1) (ieq a 2)
def HD (a n:Int):Bool:=bor (ilt n 14) (Kr (ilt n 22) (ieq a 1))
def V9 (a:Int) (e:E6):Bool :=
 bor (ieq e.kind 1) (bor (ieq e.kind 2) (bor (ieq e.kind 3) (bor (ieq e.kind 4) (sel (ieq e.kind 5) (Kr (ieq e.fence 1) (ieq a 1)) (ieq a 2)))))
theorem AfM (a:Int):(AM (Au tab cx6 Tryz.f94 [iV a] [])).sem=some (bV (Bg a),[]):=by
 have h1:(AM (Au tab cx6 Tryz.f94 [iV a] [])).path [true,true,true]=some ([ieq a 1,ieq a 1,ieq a 1],(bV true,[])):=by kernel_rfl
 have h2:(AM (Au tab cx6 Tryz.f94 [iV a] [])).path [false,false,false]=some ([ieq a 1,ieq a 1,ieq a 1],(bV (ieq a 2),[])):=by kernel_rfl
 unfold Bg;cases h:ieq a 1 with
 | true=>exact A6 h1 (by rw [h])
 | false=>exact A6 h2 (by rw [h])
theorem AfL (a:Int):(AM (Au tab cx6 Tryz.f76 [iV a] [])).sem=some (bV (Bg a),[]):=by
 have h1:(AM (Au tab cx6 Tryz.f76 [iV a] [])).path [true,true,true]=some ([ieq a 1,ieq a 1,ieq a 1],(bV true,[])):=by kernel_rfl
 have h2:(AM (Au tab cx6 Tryz.f76 [iV a] [])).path [false,false,false]=some ([ieq a 1,ieq a 1,ieq a 1],(bV (ieq a 2),[])):=by kernel_rfl
 unfold Bg;cases h:ieq a 1 with
 | true=>exact A6 h1 (by rw [h])
 | false=>exact A6 h2 (by rw [h])
theorem AfI (a n:Int):(AM (Au tab cx6 Tryz.f95 [iV a,iV n] [])).sem=some (bV (HD a n),[]):=by
 have h1:(AM (Au tab cx6 Tryz.f95 [iV a,iV n] [])).path [true]=some ([ilt n 14],(bV true,[])):=by kernel_rfl
 have h2:(AM (Au tab cx6 Tryz.f95 [iV a,iV n] [])).path [false]=some ([ilt n 14],(bV (Kr (ilt n 22) (ieq a 1)),[])):=by kernel_rfl
 unfold HD;cases h:ilt n 14 with
 | true=>exact A6 h1 (by rw [h])
 | false=>exact A6 h2 (by rw [h])
theorem Amr (a:Int) (e:E6):(AM (Au tab cx6 Tryz.f77 [iV a,eV e] [])).sem=some (bV (V9 a e),[]):=by
 have h1:(AM (Au tab cx6 Tryz.f77 [iV a,eV e] [])).path [true,true]=some ([ieq e.kind 1,ieq e.kind 1],(bV true,[])):=by kernel_rfl
 have h2:(AM (Au tab cx6 Tryz.f77 [iV a,eV e] [])).path [false,true,true]=some ([ieq e.kind 1,ieq e.kind 2,ieq e.kind 2],(bV true,[])):=by kernel_rfl
 have h3:(AM (Au tab cx6 Tryz.f77 [iV a,eV e] [])).path [false,false,true,true]=some ([ieq e.kind 1,ieq e.kind 2,ieq e.kind 3,ieq e.kind 3],(bV true,[])):=by kernel_rfl
 have h4:(AM (Au tab cx6 Tryz.f77 [iV a,eV e] [])).path [false,false,false,true]=some ([ieq e.kind 1,ieq e.kind 2,ieq e.kind 3,ieq e.kind 4],(bV true,[])):=by kernel_rfl
 have h5:(AM (Au tab cx6 Tryz.f77 [iV a,eV e] [])).path [false,false,false,false,true]=some ([ieq e.kind 1,ieq e.kind 2,ieq e.kind 3,ieq e.kind 4,ieq e.kind 5],(bV (Kr (ieq e.fence 1) (ieq a 1)),[])):=by kernel_rfl
 have h6:(AM (Au tab cx6 Tryz.f77 [iV a,eV e] [])).path [false,false,false,false,false]=some ([ieq e.kind 1,ieq e.kind 2,ieq e.kind 3,ieq e.kind 4,ieq e.kind 5],(bV (ieq a 2),[])):=by kernel_rfl
 unfold V9;cases c1:ieq e.kind 1 with
 | true=>exact A6 h1 (by rw [c1])
 | false =>
 cases c2:ieq e.kind 2 with
 | true=>exact A6 h2 (by rw [c1,c2])
 | false =>
 cases c3:ieq e.kind 3 with
 | true=>exact A6 h3 (by rw [c1,c2,c3])
 | false =>
 cases c4:ieq e.kind 4 with
 | true=>exact A6 h4 (by rw [c1,c2,c3,c4])
 | false =>
 cases c5:ieq e.kind 5 with
 | true=>exact A6 h5 (by rw [c1,c2,c3,c4,c5])
 | false=>exact A6 h6 (by rw [c1,c2,c3,c4,c5])
theorem p77:Ar Tryz.prog Gl 94 (ap1 gI λa=>out (bV (Bg a))):=by
 refine Ar.congr (AN A0 mixed Tryz.func94 (by kernel_rfl) (by kernel_rfl) (Γ:=cx6) (Bu OY _)) λvs r h=>?_;obtain ⟨a,rfl,h⟩:=M9 K4 h;rw [Aa h];exact AfM a
theorem p79:Ar Tryz.prog Gl 76 (ap1 gI λa=>out (bV (Bg a))):=by
 refine Ar.congr (AN A0 mixed Tryz.func76 (by kernel_rfl) (by kernel_rfl) (Γ:=cx6) (Bu OY _)) λvs r h=>?_;obtain ⟨a,rfl,h⟩:=M9 K4 h;rw [Aa h];exact AfL a
theorem p78:Ar Tryz.prog Gl 95 (ap2 gI gI λa n=>out (bV (HD a n))):=by
 refine Ar.congr (AN A0 mixed Tryz.func95 (by kernel_rfl) (by kernel_rfl) (Γ:=cx6) (Bu OY _)) λvs r h=>?_;obtain ⟨a,n,rfl,h⟩:=Hi K4 K4 h;rw [Aa h];exact AfI a n
theorem p80:Ar Tryz.prog Gl 77 (ap2 gI toE λa e=>out (bV (V9 a e))):=by
 refine Ar.congr (AN A0 mixed Tryz.func77 (by kernel_rfl) (by kernel_rfl) (Γ:=cx6) (Bu OY _)) λvs r h=>?_;obtain ⟨a,e,rfl,h⟩:=Hi K4 W1 h;rw [Aa h];exact Amr a e
theorem Aau (k:Nat) (hk:k<112) (a:Int) (ha:Bg a=true):V9 a (B6 k)=HD a (Int.ofNat k):=by
 have h1:(List.range 112).map (λk:Nat=>V9 1 (B6 k))=(List.range 112).map λk:Nat=>HD 1 (Int.ofNat k):=by kernel_rfl
 have h2:(List.range 112).map (λk:Nat=>V9 2 (B6 k))=(List.range 112).map λk:Nat=>HD 2 (Int.ofNat k):=by kernel_rfl
 simp only [Bg,bor,ieq,Bool.or_eq_true,beq_iff_eq] at ha;rcases ha with rfl | rfl
 ·exact GI h1 k hk
 ·exact GI h2 k hk
noncomputable def tb8:AD:=(94,ap1 gI λa=>out (bV (Bg a)))::(76,ap1 gI λa=>out (bV (Bg a)))::(95,ap2 gI gI λa n=>out (bV (HD a n)))::(77,ap2 gI toE λa e=>out (bV (V9 a e)))::tb7
theorem KD:Al Tryz.prog Gl tb8:=.cons p77 <| .cons p79 <| .cons p78 <| .cons p80 tb7_ok
noncomputable def cx8:Cx:=BQ Gl tb8 [(0,⟨[],2,[],2,113⟩)]
def ID (a:Int) (e:E6):Bool:=sel (AI (Bg a)) false (sel (AI (ieq (AA e) 0)) false (HD a (Aj e)))
def Hn (a:Int) (e:E6):Int:=sel (AI (Bg a)) 1 (AA e)
def Nh (a:Int) (e:E6):V:=.tup [bV (ID a e),iV (Hn a e)]
theorem AfK (a:Int) (e:E6):(AM (Au tab cx8 Tryz.f66 [iV a,eV e] [])).sem=some (Nh a e,[]):=by
 have h1:(AM (Au tab cx8 Tryz.f66 [iV a,eV e] [])).path [true]=some ([AI (Bg a)],(.tup [bV false,iV 1],[])):=by kernel_rfl
 have h2:(AM (Au tab cx8 Tryz.f66 [iV a,eV e] [])).path [false,true]=some ([AI (Bg a),AI (ieq (AA e) 0)],(.tup [bV false,iV (AA e)],[])):=by kernel_rfl
 have h3:(AM (Au tab cx8 Tryz.f66 [iV a,eV e] [])).path [false,false]=some ([AI (Bg a),AI (ieq (AA e) 0)],(.tup [bV (HD a (Aj e)),iV 0],[])):=by kernel_rfl
 unfold Nh ID Hn;cases c1:AI (Bg a) with
 | true=>exact A6 h1 (by rw [c1])
 | false =>
 cases c2:AI (ieq (AA e) 0) with
 | true=>exact A6 h2 (by rw [c1,c2])
 | false =>
  have:AA e=0:=by simpa [AI,ieq] using c2
  rw [this];exact A6 h3 (by rw [c1,c2])
theorem BH (e:E6):(∃ k:Nat,k<112∧AA e=0∧Aj e=Int.ofNat k∧B6 k=e∧Vh e=Sc k) ∨ (AA e=30∧Aj e=0∧Vh e=[]∧∀ k,k<112->B6 k ≠ e):=by
 unfold AA Aj Vh;cases h:Ih e 112 0 with
 | some k =>obtain ⟨_,h2,h3⟩:=KZ e 112 0 k h;exact .inl ⟨k,by omega,rfl,rfl,h3,rfl⟩
 | none =>
  refine .inr ⟨rfl,rfl,rfl,?_⟩;have:∀ m k,Ih e m k=none->∀ j,k <= j->j<k+m->B6 j ≠ e:=by
   intro m
   induction m with
   | zero=>intro k _ j h1 h2; omega
   | succ m ih =>
    intro k hn j h1 h2;simp only [Ih] at hn;split at hn
    ·cases hn
    ·rename_i hne
     by_cases hj:j=k
     ·subst hj
      intro he;rw [(G6 _ _).2 he] at hne;cases hne
     ·exact ih _ hn j (by omega) (by omega)
  exact λk hk=>this 112 0 h k (by omega) (by omega)
theorem AfJ (a:Int) (e:E6):(AM (Au tab cx8 Tryz.f46 [iV a,eV e] [])).sem=some (Nh a e,[]):=by
 have h1:(AM (Au tab cx8 Tryz.f46 [iV a,eV e] [])).path [true]=some ([AI (Bg a)],(.tup [bV false,iV 1],[])):=by kernel_rfl
 have h2:(AM (Au tab cx8 Tryz.f46 [iV a,eV e] [])).path [false,true]=some ([AI (Bg a),AI (ieq (AA e) 0)],(.tup [bV false,iV 30],[])):=by kernel_rfl
 have h3:(AM (Au tab cx8 Tryz.f46 [iV a,eV e] [])).path [false,false]=some ([AI (Bg a),AI (ieq (AA e) 0)],(.tup [bV (V9 a e),iV 0],[])):=by kernel_rfl
 unfold Nh ID Hn;cases c1:AI (Bg a) with
 | true=>exact A6 h1 (by rw [c1])
 | false =>
 rcases BH e with ⟨k,hk,hf,hn,he,_⟩ | ⟨hf,_⟩
 ·have c2:AI (ieq (AA e) 0)=false:=by rw [hf]; rfl
  have ha:Bg a=true:=by simpa [AI] using c1
  rw [c2,hf,hn,<- Aau k hk a ha,he];exact A6 h3 (by rw [c1,c2])
 ·have c2:AI (ieq (AA e) 0)=true:=by rw [hf]; rfl
  rw [c2,hf];exact A6 h2 (by rw [c1,c2])
theorem p32:Ar Tryz.prog Gl 66 (ap2 gI toE λa e=>out (Nh a e)):=by
 refine Ar.congr (AN A0 mixed Tryz.func66 (by kernel_rfl) (by kernel_rfl) (Γ:=cx8) (Bu KD _)) λvs r h=>?_;obtain ⟨a,e,rfl,h⟩:=Hi K4 W1 h;rw [Aa h];exact AfK a e
theorem p33:Ar Tryz.prog Gl 46 (ap2 gI toE λa e=>out (Nh a e)):=by
 refine Ar.congr (AN A0 mixed Tryz.func46 (by kernel_rfl) (by kernel_rfl) (Γ:=cx8) (Bu KD _)) λvs r h=>?_;obtain ⟨a,e,rfl,h⟩:=Hi K4 W1 h;rw [Aa h];exact AfJ a e
def allL (a:Int):List E6:=((List.range 112).filter λk=>HD a (Int.ofNat k)).map B6
def Ag1 (a:Int) (i:Nat):E6:=(allL a).getD i Ba
def allT:List V->A3:=ap1 gI λa =>
 .br (ieq a 1) (.leaf (.tup [.ref 0,iV 0],[.row 46 6 22 λi=>eV (Ag1 1 i)])) <|
 .br (ieq a 2) (.leaf (.tup [.ref 0,iV 0],[.row 46 6 104 λi=>eV (Ag1 2 i)])) (.leaf (.tup [.ref 0,iV 1],[.row 46 6 0 λ_=>.und]))
end Go.Proofs.YtkbgidbledjejaaGreat.Ed
namespace Go.Proofs.YtkbgidbledjejaaGreat.Ed
open Go.Sy
open Int (ofNat)
def okE (v:V):Bool:=match toE v with
 | some _=>true
 | none=>false
def edE (v:V):E6:=match toE v with
 | some e=>e
 | none=>Ba
def DL (n:Nat) (p:Nat->Bool):Bool:=(List.range n).all p
theorem BR {n:Nat} {p:Nat->Bool}:DL n p=true↔∀ i,i<n->p i=true:=by simp [DL]
theorem Ag0 (n:Nat) (f:Nat->E6):DL n (λi=>okE (eV (f i)))=true:=BR.2 λ_ _=>rfl
theorem DV {v:V} (h:okE v=true):v=eV (edE v):=by
 unfold okE at h;unfold edE;split at h
 ·rename_i e he
  exact OW he
 ·cases h
def gSl:V->Option (Nat×(Nat->V))
 | .sl s n g=>match Nat.beq s 6 with
  | true=>some (n,g)
  | false=>match n with
   | 0=>some (0,g)
   | _=>none
 | .slr s n _ g=>match Nat.beq s 6 with
  | true=>some (n,g)
  | false=>none
 | _=>none
def apL {α:Type} (v:V) (F:Nat->(Nat->E6)->T α):T α :=
 match gSl v with
 | some (n,g)=>.br (DL n λi=>okE (g i)) (F n λi=>edE (g i)) .fail
 | none=>.fail
def Ao (n:Nat) (f:Nat->E6):V:=.sl 6 n λi=>eV (f i)
theorem Bb {α:Type} {v:V} {F:Nat->(Nat->E6)->T α} {r:α} (h:(apL v F).sem=some r) :
  ∃ n f,(∀ (S:Nat->Prop) (w:World) (c:Value),VR S w v noK c->VR S w (Ao n f) noK c)∧(F n f).sem=some r:=by
 unfold apL at h;split at h
 ·rename_i n g hg
  obtain ⟨h1,h2⟩:=Ab h;have h1:=BR.1 h1;refine ⟨n,_,λS w c hv=>?_,h2⟩;unfold gSl at hg;split at hg
  ·rename_i s n' g'
   split at hg
   ·rename_i hs
    simp only [Option.some.injEq,Prod.mk.injEq] at hg;obtain ⟨rfl,rfl⟩:=hg;have hs:s=6:=Nat.eq_of_beq_eq_true hs;subst hs;obtain ⟨a,cap,e,hc,hb⟩:=hv;refine ⟨a,cap,e,hc,hb.imp id ?_⟩
    rintro ⟨b,o,ea,hel⟩
    refine ⟨b,o,ea,λi hi=>?_⟩;have:=hel i hi;rw [DV (h1 i hi)] at this;exact this
   ·split at hg
    ·simp only [Option.some.injEq,Prod.mk.injEq] at hg
     obtain ⟨rfl,rfl⟩:=hg;obtain ⟨a,cap,e,hc,_⟩:=hv;exact ⟨a,cap,e,hc,.inl rfl⟩
    ·cases hg
  ·rename_i s n' m' g'
   split at hg
   ·rename_i hs
    simp only [Option.some.injEq,Prod.mk.injEq] at hg;obtain ⟨rfl,rfl⟩:=hg;have hs:s=6:=Nat.eq_of_beq_eq_true hs;subst hs;obtain ⟨a,cap,e,hc,hm,hb⟩:=hv;refine ⟨a,cap,e,Nat.le_trans hc hm,?_⟩;rcases hb with h0 | ⟨b,o,ea,hel⟩
    ·exact .inl (by omega)
    ·refine .inr ⟨b,o,ea,λi hi=>?_⟩
     have:=hel i (by omega);rw [DV (h1 i hi)] at this;exact this
   ·cases hg
  ·cases hg
 ·cases h
def QJ (F:Nat->(Nat->E6)->A3):List V->A3
 | [v]=>apL v F
 | _=>.fail
def Agv (F:Nat->(Nat->E6)->Nat->(Nat->E6)->A3):List V->A3
 | [v,u]=>apL v λn f=>apL u λm g=>F n f m g
 | _=>.fail
theorem D7 {F:Nat->(Nat->E6)->A3} {vs:List V} {r:V×List Blk} (h:(QJ F vs).sem=some r):∃ n f,B2 vs [Ao n f]∧(F n f).sem=some r:=by
 unfold QJ at h;split at h
 ·obtain ⟨n,f,h1,h2⟩:=Bb h
  refine ⟨n,f,λS w cs hv=>?_,h2⟩;obtain ⟨c,l,rfl,q1,q2⟩:=hv;exact ⟨c,l,rfl,h1 S w c q1,q2⟩
 ·cases h
theorem Kl {F:Nat->(Nat->E6)->Nat->(Nat->E6)->A3} {vs:List V} {r:V×List Blk} (h:(Agv F vs).sem=some r) :
  ∃ n f m g,B2 vs [Ao n f,Ao m g]∧(F n f m g).sem=some r:=by
 unfold Agv at h;split at h
 ·obtain ⟨n,f,h1,h2⟩:=Bb h
  obtain ⟨m,g,h3,h4⟩:=Bb h2;refine ⟨n,f,m,g,λS w cs hv=>?_,h4⟩;obtain ⟨c,l,rfl,q1,c',l',rfl,q2,q3⟩:=hv;exact ⟨c,_,rfl,h1 S w c q1,c',l',rfl,h3 S w c' q2,q3⟩
 ·cases h
theorem Bc {i n:Nat} (h:i<n) (hn:n <= 4611686018427387904):wr .i64 (Am (ofNat i) 1)=ofNat (i+1):=by
 unfold wr Am IntKind.wrap;simp [IntKind.bits,IntKind.signed];omega
theorem ofNat_lt {i n:Nat} (h:i<n):ilt (ofNat i) (ofNat n)=true:=by simp [ilt]; omega
theorem A4 {i n:Nat} (h:n <= i):ilt (ofNat i) (ofNat n)=false:=by simp [ilt]; omega
theorem Af {i n:Nat} (h:i<n):Av (ile 0 (ofNat i)) (ilt (ofNat i) (ofNat n))=true:=by rw [ofNat_lt h]; simp [Av,ile]
noncomputable def cx9 (l:List (Nat×Lp)):Cx:=BQ Gl tb8 l
def Nf (n:Nat):Lp:=⟨bmK 26 0 [0,1,4,5],0,bmK 26 0 [0,1,4],0,n+1⟩
def Rf (n m:Nat) (i:Int) (f g:Nat->E6) (j:Nat->V):St:=⟨jsV 26 0 j [(0,.sl 6 n λi=>eV (f i)),(1,.sl 6 m λi=>eV (g i)),(4,bV false),(5,iV i)],[]⟩
def VX (n m:Nat) (f g:Nat->E6):St:=⟨jsV 26 0 Ac [(0,.sl 6 n λi=>eV (f i)),(1,.sl 6 m λi=>eV (g i)),(4,bV false)],[]⟩
noncomputable def IU (L:LT):St->T (Ex×St):=λst=>A8 tab ⟨A9 tb8,L,Gl⟩ (A1 Tryz.f21 0) 0 st
section
variable (L:LT) (n m i:Nat) (f g:Nat->E6) (j:Nat->V)
include L n m i f g j
theorem AbI:((IU L (Rf n m (ofNat i) f g j)).bind λr=>T.leaf (r.1,EC [true,true,false,false,true,false,false,false,false,false,false,false,false,false,false,false,false,false,false,false,false,false,false,false,false,false] 0 r.2)).path [false]=some ([ilt (ofNat i) (ofNat n)],(.ex 0,VX n m f g)):=by kernel_rfl
theorem AbH:((IU L (Rf n m (ofNat i) f g j)).bind λr=>T.leaf (r.1,EC [true,true,false,false,true,false,false,false,false,false,false,false,false,false,false,false,false,false,false,false,false,false,false,false,false,false] 0 r.2)).path [true,true,true,true] =
  some ([ilt (ofNat i) (ofNat n),Av (ile 0 (ofNat i)) (ilt (ofNat i) (ofNat n)),Av (ile 0 (ofNat i)) (ilt (ofNat i) (ofNat m)),AI (eqE (f i) (g i))],(.rt,VX n m f g)):=by kernel_rfl
theorem ZK:((IU L (Rf n m (ofNat i) f g j)).bind λr=>T.leaf (r.1,EC [true,true,false,false,true,true,false,false,false,false,false,false,false,false,false,false,false,false,false,false,false,false,false,false,false,false] 0 r.2)).path [true,true,true,false] =
  some ([ilt (ofNat i) (ofNat n),Av (ile 0 (ofNat i)) (ilt (ofNat i) (ofNat n)),Av (ile 0 (ofNat i)) (ilt (ofNat i) (ofNat m)),AI (eqE (f i) (g i))],
   (.nm,Rf n m (wr .i64 (Am (ofNat i) 1)) f g λ_=>.und)):=by kernel_rfl
end
def FG (f g:Nat->E6):Nat->Nat->Bool
 | 0,_=>true
 | d+1,i=>match eqE (f i) (g i) with
  | true=>FG f g d (i+1)
  | false=>false
theorem UL (L:LT) (n m:Nat) (f g:Nat->E6) (hm:n=m) (hn:n <= 4611686018427387904):∀ (d i:Nat) (j:Nat->V) (q:Nat),n=i+d->d<q ->
  (Ay (IU L) (Nf n) q (Rf n m (ofNat i) f g j)).sem=some (match FG f g d i with | true=>.ex 0 | false=>.rt,VX n m f g)
 | 0,i,j,q+1,h1,_=>by
  have h3:(Ay (IU L) (Nf n) (q+1) (Rf n m (ofNat i) f g j)).sem=some (.ex 0,VX n m f g):=Vy (AbI L n m i f g j) (by rw [A4 (by omega)]) (λh=>by cases h);exact h3
 | d+1,i,j,q+1,h1,h2=>by
  have hi:i<n:=by omega
  have hi':i<m:=by omega
  unfold FG;cases hc:eqE (f i) (g i) with
  | true =>
   have h3:(Ay (IU L) (Nf n) (q+1) (Rf n m (ofNat i) f g j)).sem=(Ay (IU L) (Nf n) q (Rf n m (wr .i64 (Am (ofNat i) 1)) f g λ_=>.und)).sem :=
    Aas (ZK L n m i f g j) (by rw [Af hi,Af hi',ofNat_lt hi,hc]; rfl)
   rw [h3,Bc hi hn];exact UL L n m f g hm hn d (i+1) Ac q (by omega) (by omega)
  | false =>have h3:(Ay (IU L) (Nf n) (q+1) (Rf n m (ofNat i) f g j)).sem=some (.rt,VX n m f g):=Vy (AbH L n m i f g j) (by rw [Af hi,Af hi',ofNat_lt hi,hc]; rfl) (λh=>by cases h);exact h3
def Gx (n:Nat) (f:Nat->E6) (m:Nat) (g:Nat->E6):Bool:=sel (ieq (ofNat n) (ofNat m)) (FG f g n 0) false
def Amn (n m:Nat) (f g:Nat->E6):Nat->V:=lkV A7 [(6,Ao n f),(7,nV n),(8,Ao m g),(9,nV m),(10,bV (AI (ieq (ofNat n) (ofNat m))))]
theorem AbJ (n m:Nat) (f g:Nat->E6) (L:LT):AM (Au tab ⟨A9 tb8,L,Gl⟩ Tryz.f21 [Ao n f,Ao m g] []) =
  AM (Au tab ⟨A9 tb8,λ_ _ _=>L 0 (IU L) (Rf n m 0 f g (Amn n m f g)),Gl⟩ Tryz.f21 [Ao n f,Ao m g] []):=by kernel_rfl
theorem Aft (n m:Nat) (f g:Nat->E6) (L:LT):(AM (Au tab ⟨A9 tb8,L,Gl⟩ Tryz.f21 [Ao n f,Ao m g] [])).path [true] =
  some ([AI (ieq (ofNat n) (ofNat m))],(bV false,[])):=by kernel_rfl
theorem Afu (n m:Nat) (f g:Nat->E6):(AM (Au tab ⟨A9 tb8,λ_ _ _=>.leaf (.ex 0,VX n m f g),Gl⟩ Tryz.f21 [Ao n f,Ao m g] [])).path [false] =
  some ([AI (ieq (ofNat n) (ofNat m))],(bV true,[])):=by kernel_rfl
theorem Afs (n m:Nat) (f g:Nat->E6):(AM (Au tab ⟨A9 tb8,λ_ _ _=>.leaf (.rt,VX n m f g),Gl⟩ Tryz.f21 [Ao n f,Ao m g] [])).path [false] =
  some ([AI (ieq (ofNat n) (ofNat m))],(bV false,[])):=by kernel_rfl
theorem AbK (n m:Nat) (f g:Nat->E6) (hn:n <= 4611686018427387904):(AM (Au tab (cx9 [(0,Nf n)]) Tryz.f21 [Ao n f,Ao m g] [])).sem=some (bV (Gx n f m g),[]):=by
 unfold Gx;cases hc:ieq (ofNat n) (ofNat m) with
 | false=>exact A6 (Aft n m f g _) (by rw [hc]; rfl)
 | true =>
  have h0:ofNat n=ofNat m:=by simpa only [ieq,beq_iff_eq] using hc
  have hm:n=m:=Int.ofNat.inj h0;have h1:=UL (BO [(0,Nf n)]) n m f g hm hn n 0 (Amn n m f g) (n+1) (by omega) (by omega);have h2:=AbJ n m f g (BO [(0,Nf n)]);have h3:(AM (Au tab (cx9 [(0,Nf n)]) Tryz.f21 [Ao n f,Ao m g] [])).sem=(AM (Au tab ⟨A9 tb8,λ_ _ _=>.leaf (match FG f g n 0 with | true=>.ex 0 | false=>.rt,VX n m f g),Gl⟩ Tryz.f21 [Ao n f,Ao m g] [])).sem:=by
   refine (congrArg T.sem h2).trans (OV λid _ _ _ _=>?_);exact h1
  rw [h3];cases FG f g n 0 with
  | true=>exact A6 (Afu n m f g) (by rw [hc]; rfl)
  | false=>exact A6 (Afs n m f g) (by rw [hc]; rfl)
def C7 (n:Nat):Bool:=decide (n <= 4611686018427387904)
def Kx:List V->A3:=Agv λn f m g=>.br (C7 n) (out (bV (Gx n f m g))) .fail
theorem p36:Ar Tryz.prog Gl 21 Kx:=by
 refine Ah A0 mixed Tryz.func21 (by kernel_rfl) (by kernel_rfl) λvs v h' h=>?_;obtain ⟨n,f,m,g,ha,h⟩:=Kl h;obtain ⟨hn,h⟩:=Ab h;have:=Aa h;simp only [Prod.mk.injEq] at this;obtain ⟨rfl,rfl⟩:=this;have hx:=Bu KD [(0,Nf n)];exact ⟨_,cx9 [(0,Nf n)],_,ha,rfl,hx.1,hx.2,AbK n m f g (of_decide_eq_true hn),As.refl _⟩
end Go.Proofs.YtkbgidbledjejaaGreat.Ed
namespace Go.Sy
def AmJ (l:Lp) (r:Ex×St):Ex×St :=
 match r.1 with
 | .nm=>(.nm,EC l.ks l.n r.2)
 | .ex i=>(.ex i,EC l.ke l.ne r.2)
 | .rt=>(.rt,EC l.ke l.ne r.2)
def Ap (f:St->T (Ex×St)) (l:Lp) (st:St):Option (Ex×St):=((f st).bind λr=>T.leaf (AmJ l r)).sem
def Adz (f:St->T (Ex×St)) (l:Lp) (m:Nat):Option (Ex×St)->Option (Ex×St)
 | some (.nm,st)=>(Ay f l m st).sem
 | some (e,st)=>some (e,st)
 | none=>none
theorem Ae {f:St->T (Ex×St)} {l:Lp} {m:Nat} {st:St} {t:Option (Ex×St)} (h:Ap f l st=t):(Ay f l (m+1) st).sem=Adz f l m t:=by
 subst h;show ((f st).bind _).sem=_;unfold Ap;rw [Cm,Cm];cases (f st).sem with
 | none=>rfl
 | some r =>obtain ⟨e,s⟩:=r;cases e <;> rfl
theorem AS {f:St->T (Ex×St)} {l:Lp} {m:Nat} {st:St}:Adz f l m (some (.nm,st))=(Ay f l m st).sem:=rfl
theorem TS {f:St->T (Ex×St)} {l:Lp} {m:Nat} {st:St}:Adz f l m (some (.rt,st))=some (.rt,st):=rfl
theorem GM {α:Type} (x y:α):sel true x y=x:=rfl
theorem JK {α:Type} (x y:α):sel false x y=y:=rfl
def TLe {α:Type} (t t':T α):Prop:=∀ r,t.sem=some r->t'.sem=some r
theorem TLe.refl {α:Type} (t:T α):TLe t t:=λ_ h=>h
theorem TLe.bind {α β:Type} {t t':T α} {f f':α->T β} (h:TLe t t') (hf:∀ a,TLe (f a) (f' a)):TLe (t.bind f) (t'.bind f'):=λr hr=>by
 obtain ⟨a,h1,h2⟩:=Ad hr;rw [Cm,h a h1];exact hf a r h2
def LLe (M L:Nat->(St->T (Ex×St))->St->T (Ex×St)):Prop:=∀ id f f' st,(∀ st,TLe (f st) (f' st))->TLe (M id f st) (L id f' st)
theorem Vz {f f':St->T (Ex×St)} (h:∀ st,TLe (f st) (f' st)) (l:Lp):∀ (m:Nat) (st:St),TLe (Ay f l m st) (Ay f' l m st)
 | 0,_=>TLe.refl _
 | m+1,st=>by
  refine TLe.bind (h st) λr=>?_;cases r.1 with
  | nm=>exact Vz h l m _
  | ex i=>exact TLe.refl _
  | rt=>exact TLe.refl _
theorem Bd (ls:List (Nat×Lp)):LLe (BO ls) (BO ls):=λid f f' st h=>by
 unfold BO;split
 ·exact Vz h _ _ _
 ·exact TLe.refl _
def onP (k:Nat) (p:(St->T (Ex×St))->St->Bool) (r:Ex×St) (L:Nat->(St->T (Ex×St))->St->T (Ex×St)):Nat->(St->T (Ex×St))->St->T (Ex×St) :=
 λid f st=>match Nat.beq id k with
  | true=>.br (p f st) (.leaf r) .fail
  | false=>L id f st
noncomputable def isP (L:Nat->(St->T (Ex×St))->St->T (Ex×St)) (k:Nat) (r:Ex×St):(St->T (Ex×St))->St->Bool :=
 λf st=>@decide ((L k f st).sem=some r) (Classical.propDecidable _)
theorem AW {L:Nat->(St->T (Ex×St))->St->T (Ex×St)} {k:Nat} {r:Ex×St} {f:St->T (Ex×St)} {st:St} (h:(L k f st).sem=some r):isP L k r f st=true:=by
 unfold isP;exact @decide_eq_true _ (Classical.propDecidable _) h
theorem B9 {M L:Nat->(St->T (Ex×St))->St->T (Ex×St)} {k:Nat} {r:Ex×St} (hM:LLe M L) (hL:LLe L L):LLe (onP k (isP L k r) r M) L:=λid f f' st hf r' hr=>by
 unfold onP at hr;cases hk:Nat.beq id k with
 | true =>rw [hk] at hr;obtain ⟨h1,h2⟩:=Ab hr;rw [Aa h2];unfold isP at h1;have h1:=@of_decide_eq_true _ (Classical.propDecidable _) h1;rw [Nat.eq_of_beq_eq_true hk];exact hL k f f' st hf _ h1
 | false =>rw [hk] at hr;exact hM id f f' st hf _ hr
theorem Qw {τ:List Ty} {Γ:Cx} {L L':Nat->(St->T (Ex×St))->St->T (Ex×St)} (h:LLe L L') :
  ∀ (c:Code) (id:Nat) (st:St),TLe (A8 τ { Γ with loop:=L } c id st) (A8 τ { Γ with loop:=L' } c id st):=by
 intro c
 induction c with
 | skip=>intro id st; exact TLe.refl _
 | region i ops draw=>intro id st; exact TLe.refl _
 | seq a b iha ihb =>
  intro id st;refine TLe.bind (iha id st) λr=>?_;cases r.1 with
  | nm=>exact ihb id r.2
  | ex j=>exact TLe.refl _
  | rt=>exact TLe.refl _
 | cond x a b iha ihb =>
  intro id st;show TLe (match ev ⟨Γ.call,Γ.glob⟩ st x with | .val (.bool q)=>T.br q (A8 τ { Γ with loop:=L } a id st) (A8 τ { Γ with loop:=L } b id st) | _=>.fail) (match ev ⟨Γ.call,Γ.glob⟩ st x with | .val (.bool q)=>T.br q (A8 τ { Γ with loop:=L' } a id st) (A8 τ { Γ with loop:=L' } b id st) | _=>.fail)
  split
  ·rename_i q _
   cases q with
   | true=>exact iha id st
   | false=>exact ihb id st
  ·exact TLe.refl _
 | block i c ih =>
  intro id st;refine TLe.bind (ih i st) λr=>?_;cases r.1 with
  | nm=>exact TLe.refl _
  | ex j=>exact TLe.refl _
  | rt=>exact TLe.refl _
 | loop c ih =>intro id st;exact h id _ _ st (ih id)
 | exit i=>intro id st; exact TLe.refl _
 | ret=>intro id st; exact TLe.refl _
 | _=>intro id st; exact TLe.refl _
theorem Bw {τ:List Ty} {call:FuncId->List V->St->T (V×Res)} {G:Nat->V} {fn:Func} {vs:List V} {L L':Nat->(St->T (Ex×St))->St->T (Ex×St)}
  (h:LLe L L'):TLe (AM (Au τ ⟨call,L,G⟩ fn vs [])) (AM (Au τ ⟨call,L',G⟩ fn vs [])):=by
 refine TLe.bind ?_ λ_=>TLe.refl _;unfold Au;cases fn.body with
 | none=>exact TLe.refl _
 | some c=>exact TLe.bind (Qw (Γ:=⟨call,L,G⟩) h c 0 _) λ_=>TLe.refl _
theorem RJ {f f':St->T (Ex×St)} {l:Lp} {st:St} {r:Ex×St} (h:TLe (f st) (f' st)) (hr:Ap f l st=some r):Ap f' l st=some r:=TLe.bind h (λ_=>TLe.refl _) r hr
def Am0 (v:V):Blk->Blk
 | .row e s 0 _=>.row e s 0 λ_=>v
 | .jag j=>.jag { j with mem:=λi k=>Re (Rk k (j.len i)) (j.mem i k) v }
 | b=>b
def Ahy (h:List Blk) (id:Nat) (v:V):List Blk :=
 match h[id]? with
 | some b=>h.set id (Am0 v b)
 | none=>h
def Mk (st:St):List (Nat×V)->St
 | []=>st
 | (id,v)::l=>Mk ⟨st.t,Ahy st.h id v⟩ l
theorem Zx {Γ:Cx0}:∀ (l:List (Nat×V)) (st:St),LE Γ st (Mk st l)
 | [],st=>LE.refl st
 | (id,v)::l,st=>by
   refine LE.trans ?_ (Zx l _);unfold Ahy;cases hb:st.h[id]? with
   | none=>exact LE.refl st
   | some b =>
    have same:st.h.set id b=st.h:=by
     have hl:=(List.getElem?_eq_some_iff.1 hb).1;have:=(List.getElem?_eq_some_iff.1 hb).2;rw [<- this,List.set_getElem_self]
    cases b with
    | row e s n g =>
     cases n with
     | zero=>exact Aex hb λj hj=>by omega
     | succ n =>show LE Γ st ⟨st.t,st.h.set id (.row e s (n+1) g)⟩;rw [same];exact LE.refl st
    | cells cs =>show LE Γ st ⟨st.t,st.h.set id (.cells cs)⟩;rw [same];exact LE.refl st
    | imap t n get =>show LE Γ st ⟨st.t,st.h.set id (.imap t n get)⟩;rw [same];exact LE.refl st
    | gmap t ks hs get =>show LE Γ st ⟨st.t,st.h.set id (.gmap t ks hs get)⟩;rw [same];exact LE.refl st
    | xrow lk e s n g =>show LE Γ st ⟨st.t,st.h.set id (.xrow lk e s n g)⟩;rw [same];exact LE.refl st
    | jag j =>
     refine Aey hb (λ_ _=>rfl) (λ_ _=>rfl) (λ_ _=>rfl) λk _ q hq=>?_;have:Rk q (j.len k)=true:=by
      unfold Rk;simpa using hq
     rw [this,Ep];rfl
    | saved vs =>show LE Γ st ⟨st.t,st.h.set id (.saved vs)⟩;rw [same];exact LE.refl st
    | rng cd ts q =>show LE Γ st ⟨st.t,st.h.set id (.rng cd ts q)⟩;rw [same];exact LE.refl st
    | dead =>show LE Γ st ⟨st.t,st.h.set id .dead⟩;rw [same];exact LE.refl st
def IB (zs:List (Nat×List (Nat×V))) (Di:List (Nat×Lp)) (id:Nat) (f:St->T (Ex×St)) (st:St):T (Ex×St) :=
 match Jy id zs with
 | some l=>BO Di id f (Mk st l)
 | none=>BO Di id f st
theorem Ng (zs:List (Nat×List (Nat×V))) (ls:List (Nat×Lp)):LLe (IB zs ls) (IB zs ls):=λid f f' st h=>by
 unfold IB;split
 ·exact Bd ls id f f' _ h
 ·exact Bd ls id f f' _ h
def cxZ (G:Nat->V) (tbl:AD) (zs:List (Nat×List (Nat×V))) (Di:List (Nat×Lp)):Cx:=⟨A9 tbl,IB zs Di,G⟩
theorem XE {P:Program} {G:Nat->V} {tbl:AD} (h:Al P G tbl) (zs:List (Nat×List (Nat×V))) (Di:List (Nat×Lp)):AY P (cxZ G tbl zs Di).base∧BX (cxZ G tbl zs Di):=by
 refine ⟨Ek rfl h,λid f st r hr=>?_⟩;have hr:(IB zs Di id f st).sem=some r:=hr;have by':∀ st,(BO Di id f st).sem=some r->LRun (cxZ G tbl zs Di).base f st r:=λst hr=>by
  unfold BO at hr;split at hr
  ·exact GE hr
  ·cases hr
 unfold IB at hr;split at hr
 ·exact .run (.weak (Zx _ _) (by' _ hr))
 ·exact .run (by' _ hr)
end Go.Sy
