/-
  Layer 3: architectures: what is known, what is legal, all edges of one. No conditions.
-/
import Derived.Test.YtkgdhhieomndeaaGreatDoorEdV
import Derived.Test.YtkgdhhieomndeaaGreatDoorSyU
namespace Go.Proofs.YtkgdhhieomndeaaGreatDoor.Ed
open Go.Sy
def ap1 {α:Type} (d:V->Option α) (F:α->AR):List V->AR
 | [v]=>match d v with
  | some a=>F a
  | none=>.fail
 | _=>.fail
def ap2 {α β:Type} (d:V->Option α) (e:V->Option β) (F:α->β->AR):List V->AR
 | [v,u]=>match d v,e u with
  | some a,some b=>F a b
  | _,_=>.fail
 | _=>.fail
theorem Pd {α:Type} {d:V->Option α} {c:α->V} (hd:∀ v a,d v=some a->v=c a) {F:α->AR} {vs:List V} {r:V×List Blk} (h:(ap1 d F vs).sem=some r) :
  ∃ a,vs=[c a]∧(F a).sem=some r:=by
 unfold ap1 at h;split at h
 ·split at h
  ·rename_i v _ a ha
   exact ⟨a,by rw [hd v a ha],h⟩
  ·cases h
 ·cases h
theorem Lj {α β:Type} {d:V->Option α} {e:V->Option β} {c:α->V} {c':β->V} (hd:∀ v a,d v=some a->v=c a) (he:∀ v b,e v=some b->v=c' b) {F:α->β->AR}
  {vs:List V} {r:V×List Blk} (h:(ap2 d e F vs).sem=some r):∃ a b,vs=[c a,c' b]∧(F a b).sem=some r:=by
 unfold ap2 at h;split at h
 ·split at h
  ·rename_i v u _ _ a b ha hb
   exact ⟨a,b,by rw [hd v a ha,he u b hb],h⟩
  ·cases h
 ·cases h
theorem M8:∀ v a,gI v=some a->v=iV a:=λ_ _ h=>Gk h
theorem UB:∀ v a,toE v=some a->v=eV a:=λ_ _ h=>N3 h
def out (v:V):AR:=.leaf (v,[])
def B4 (a:Int):Bool:=bor (ieq a 1) (ieq a 2)
def G7 (a n:Int):Bool:=bor (ilt n 14) (JS (ilt n 22) (ieq a 1))
def TL (a:Int) (e:E6):Bool :=
 bor (ieq e.kind 1) (bor (ieq e.kind 2) (bor (ieq e.kind 3) (bor (ieq e.kind 4) (sel (ieq e.kind 5) (JS (ieq e.fence 1) (ieq a 1)) (ieq a 2)))))
theorem AeU (a:Int):(Az (Ak tab cx6 Tryz.f129 [iV a] [])).sem=some (bV (B4 a),[]):=by
 have h1:(Az (Ak tab cx6 Tryz.f129 [iV a] [])).path [true,true,true]=some ([ieq a 1,ieq a 1,ieq a 1],(bV true,[])):=by kernel_rfl
 have h2:(Az (Ak tab cx6 Tryz.f129 [iV a] [])).path [false,false,false]=some ([ieq a 1,ieq a 1,ieq a 1],(bV (ieq a 2),[])):=by kernel_rfl
 unfold B4;cases h:ieq a 1 with
 | true=>exact AM h1 (by rw [h])
 | false=>exact AM h2 (by rw [h])
theorem AeT (a:Int):(Az (Ak tab cx6 Tryz.f107 [iV a] [])).sem=some (bV (B4 a),[]):=by
 have h1:(Az (Ak tab cx6 Tryz.f107 [iV a] [])).path [true,true,true]=some ([ieq a 1,ieq a 1,ieq a 1],(bV true,[])):=by kernel_rfl
 have h2:(Az (Ak tab cx6 Tryz.f107 [iV a] [])).path [false,false,false]=some ([ieq a 1,ieq a 1,ieq a 1],(bV (ieq a 2),[])):=by kernel_rfl
 unfold B4;cases h:ieq a 1 with
 | true=>exact AM h1 (by rw [h])
 | false=>exact AM h2 (by rw [h])
theorem AeQ (a n:Int):(Az (Ak tab cx6 Tryz.f130 [iV a,iV n] [])).sem=some (bV (G7 a n),[]):=by
 have h1:(Az (Ak tab cx6 Tryz.f130 [iV a,iV n] [])).path [true]=some ([ilt n 14],(bV true,[])):=by kernel_rfl
 have h2:(Az (Ak tab cx6 Tryz.f130 [iV a,iV n] [])).path [false]=some ([ilt n 14],(bV (JS (ilt n 22) (ieq a 1)),[])):=by kernel_rfl
 unfold G7;cases h:ilt n 14 with
 | true=>exact AM h1 (by rw [h])
 | false=>exact AM h2 (by rw [h])
theorem Am2 (a:Int) (e:E6):(Az (Ak tab cx6 Tryz.f108 [iV a,eV e] [])).sem=some (bV (TL a e),[]):=by
 have h1:(Az (Ak tab cx6 Tryz.f108 [iV a,eV e] [])).path [true,true]=some ([ieq e.kind 1,ieq e.kind 1],(bV true,[])):=by kernel_rfl
 have h2:(Az (Ak tab cx6 Tryz.f108 [iV a,eV e] [])).path [false,true,true]=some ([ieq e.kind 1,ieq e.kind 2,ieq e.kind 2],(bV true,[])):=by kernel_rfl
 have h3:(Az (Ak tab cx6 Tryz.f108 [iV a,eV e] [])).path [false,false,true,true]=some ([ieq e.kind 1,ieq e.kind 2,ieq e.kind 3,ieq e.kind 3],(bV true,[])):=by kernel_rfl
 have h4:(Az (Ak tab cx6 Tryz.f108 [iV a,eV e] [])).path [false,false,false,true]=some ([ieq e.kind 1,ieq e.kind 2,ieq e.kind 3,ieq e.kind 4],(bV true,[])):=by kernel_rfl
 have h5:(Az (Ak tab cx6 Tryz.f108 [iV a,eV e] [])).path [false,false,false,false,true]=some ([ieq e.kind 1,ieq e.kind 2,ieq e.kind 3,ieq e.kind 4,ieq e.kind 5],(bV (JS (ieq e.fence 1) (ieq a 1)),[])):=by kernel_rfl
 have h6:(Az (Ak tab cx6 Tryz.f108 [iV a,eV e] [])).path [false,false,false,false,false]=some ([ieq e.kind 1,ieq e.kind 2,ieq e.kind 3,ieq e.kind 4,ieq e.kind 5],(bV (ieq a 2),[])):=by kernel_rfl
 unfold TL;cases c1:ieq e.kind 1 with
 | true=>exact AM h1 (by rw [c1])
 | false =>
 cases c2:ieq e.kind 2 with
 | true=>exact AM h2 (by rw [c1,c2])
 | false =>
 cases c3:ieq e.kind 3 with
 | true=>exact AM h3 (by rw [c1,c2,c3])
 | false =>
 cases c4:ieq e.kind 4 with
 | true=>exact AM h4 (by rw [c1,c2,c3,c4])
 | false =>
 cases c5:ieq e.kind 5 with
 | true=>exact AM h5 (by rw [c1,c2,c3,c4,c5])
 | false=>exact AM h6 (by rw [c1,c2,c3,c4,c5])
theorem p77:Ax Tryz.prog Gl 129 (ap1 gI λa=>out (bV (B4 a))):=by
 refine Ax.congr (AN A8 mixed Tryz.func129 (by kernel_rfl) (by kernel_rfl) (Γ:=cx6) (AI tb6_ok _)) λvs r h=>?_;obtain ⟨a,rfl,h⟩:=Pd M8 h;rw [Ac h];exact AeU a
theorem p79:Ax Tryz.prog Gl 107 (ap1 gI λa=>out (bV (B4 a))):=by
 refine Ax.congr (AN A8 mixed Tryz.func107 (by kernel_rfl) (by kernel_rfl) (Γ:=cx6) (AI tb6_ok _)) λvs r h=>?_;obtain ⟨a,rfl,h⟩:=Pd M8 h;rw [Ac h];exact AeT a
theorem p78:Ax Tryz.prog Gl 130 (ap2 gI gI λa n=>out (bV (G7 a n))):=by
 refine Ax.congr (AN A8 mixed Tryz.func130 (by kernel_rfl) (by kernel_rfl) (Γ:=cx6) (AI tb6_ok _)) λvs r h=>?_;obtain ⟨a,n,rfl,h⟩:=Lj M8 M8 h;rw [Ac h];exact AeQ a n
theorem p80:Ax Tryz.prog Gl 108 (ap2 gI toE λa e=>out (bV (TL a e))):=by
 refine Ax.congr (AN A8 mixed Tryz.func108 (by kernel_rfl) (by kernel_rfl) (Γ:=cx6) (AI tb6_ok _)) λvs r h=>?_;obtain ⟨a,e,rfl,h⟩:=Lj M8 UB h;rw [Ac h];exact Am2 a e
theorem YP (k:Nat) (hk:k<112) (a:Int) (ha:B4 a=true):TL a (Df k)=G7 a (Int.ofNat k):=by
 have h1:(List.range 112).map (λk:Nat=>TL 1 (Df k))=(List.range 112).map λk:Nat=>G7 1 (Int.ofNat k):=by kernel_rfl
 have h2:(List.range 112).map (λk:Nat=>TL 2 (Df k))=(List.range 112).map λk:Nat=>G7 2 (Int.ofNat k):=by kernel_rfl
 simp only [B4,bor,ieq,Bool.or_eq_true,beq_iff_eq] at ha;rcases ha with rfl | rfl
 ·exact F1 h1 k hk
 ·exact F1 h2 k hk
noncomputable def tb8:AP:=(129,ap1 gI λa=>out (bV (B4 a)))::(107,ap1 gI λa=>out (bV (B4 a)))::(130,ap2 gI gI λa n=>out (bV (G7 a n)))::(108,ap2 gI toE λa e=>out (bV (TL a e)))::tb7
theorem QK:Av Tryz.prog Gl tb8:=.cons p77 <| .cons p79 <| .cons p78 <| .cons p80 tb7_ok
noncomputable def cx8:Cx:=AC Gl tb8 [(0,⟨[],2,[],2,113⟩)]
def MI (a:Int) (e:E6):Bool:=sel (A6 (B4 a)) false (sel (A6 (ieq (Bc e) 0)) false (G7 a (BJ e)))
def G8 (a:Int) (e:E6):Int:=sel (A6 (B4 a)) 1 (Bc e)
def RA (a:Int) (e:E6):V:=.tup [bV (MI a e),iV (G8 a e)]
theorem AeS (a:Int) (e:E6):(Az (Ak tab cx8 Tryz.f127 [iV a,eV e] [])).sem=some (RA a e,[]):=by
 have h1:(Az (Ak tab cx8 Tryz.f127 [iV a,eV e] [])).path [true]=some ([A6 (B4 a)],(.tup [bV false,iV 1],[])):=by kernel_rfl
 have h2:(Az (Ak tab cx8 Tryz.f127 [iV a,eV e] [])).path [false,true]=some ([A6 (B4 a),A6 (ieq (Bc e) 0)],(.tup [bV false,iV (Bc e)],[])):=by kernel_rfl
 have h3:(Az (Ak tab cx8 Tryz.f127 [iV a,eV e] [])).path [false,false]=some ([A6 (B4 a),A6 (ieq (Bc e) 0)],(.tup [bV (G7 a (BJ e)),iV 0],[])):=by kernel_rfl
 unfold RA MI G8;cases c1:A6 (B4 a) with
 | true=>exact AM h1 (by rw [c1])
 | false =>
 cases c2:A6 (ieq (Bc e) 0) with
 | true=>exact AM h2 (by rw [c1,c2])
 | false =>
  have:Bc e=0:=by simpa [A6,ieq] using c2
  rw [this];exact AM h3 (by rw [c1,c2])
theorem DP (e:E6):(∃ k:Nat,k<112∧Bc e=0∧BJ e=Int.ofNat k∧Df k=e∧BO e=Id k) ∨ (Bc e=30∧BJ e=0∧BO e=[]∧∀ k,k<112->Df k ≠ e):=by
 unfold Bc BJ BO;cases h:Gp e 112 0 with
 | some k =>obtain ⟨_,h2,h3⟩:=H4 e 112 0 k h;exact .inl ⟨k,by omega,rfl,rfl,h3,rfl⟩
 | none =>
  refine .inr ⟨rfl,rfl,rfl,?_⟩;have:∀ m k,Gp e m k=none->∀ j,k <= j->j<k+m->Df j ≠ e:=by
   intro m
   induction m with
   | zero=>intro k _ j h1 h2; omega
   | succ m ih =>
    intro k hn j h1 h2;simp only [Gp] at hn;split at hn
    ·cases hn
    ·rename_i hne
     by_cases hj:j=k
     ·subst hj
      intro he;rw [(IT _ _).2 he] at hne;cases hne
     ·exact ih _ hn j (by omega) (by omega)
  exact λk hk=>this 112 0 h k (by omega) (by omega)
theorem AeR (a:Int) (e:E6):(Az (Ak tab cx8 Tryz.f77 [iV a,eV e] [])).sem=some (RA a e,[]):=by
 have h1:(Az (Ak tab cx8 Tryz.f77 [iV a,eV e] [])).path [true]=some ([A6 (B4 a)],(.tup [bV false,iV 1],[])):=by kernel_rfl
 have h2:(Az (Ak tab cx8 Tryz.f77 [iV a,eV e] [])).path [false,true]=some ([A6 (B4 a),A6 (ieq (Bc e) 0)],(.tup [bV false,iV 30],[])):=by kernel_rfl
 have h3:(Az (Ak tab cx8 Tryz.f77 [iV a,eV e] [])).path [false,false]=some ([A6 (B4 a),A6 (ieq (Bc e) 0)],(.tup [bV (TL a e),iV 0],[])):=by kernel_rfl
 unfold RA MI G8;cases c1:A6 (B4 a) with
 | true=>exact AM h1 (by rw [c1])
 | false =>
 rcases DP e with ⟨k,hk,hf,hn,he,_⟩ | ⟨hf,_⟩
 ·have c2:A6 (ieq (Bc e) 0)=false:=by rw [hf]; rfl
  have ha:B4 a=true:=by simpa [A6] using c1
  rw [c2,hf,hn,<- YP k hk a ha,he];exact AM h3 (by rw [c1,c2])
 ·have c2:A6 (ieq (Bc e) 0)=true:=by rw [hf]; rfl
  rw [c2,hf];exact AM h2 (by rw [c1,c2])
theorem p32:Ax Tryz.prog Gl 127 (ap2 gI toE λa e=>out (RA a e)):=by
 refine Ax.congr (AN A8 mixed Tryz.func127 (by kernel_rfl) (by kernel_rfl) (Γ:=cx8) (AI QK _)) λvs r h=>?_;obtain ⟨a,e,rfl,h⟩:=Lj M8 UB h;rw [Ac h];exact AeS a e
theorem p33:Ax Tryz.prog Gl 77 (ap2 gI toE λa e=>out (RA a e)):=by
 refine Ax.congr (AN A8 mixed Tryz.func77 (by kernel_rfl) (by kernel_rfl) (Γ:=cx8) (AI QK _)) λvs r h=>?_;obtain ⟨a,e,rfl,h⟩:=Lj M8 UB h;rw [Ac h];exact AeR a e
def AoZ (a:Int):List E6:=((List.range 112).filter λk=>G7 a (Int.ofNat k)).map Df
def Afv (a:Int) (i:Nat):E6:=(AoZ a).getD i E8
def allT:List V->AR:=ap1 gI λa =>
 .br (ieq a 1) (.leaf (.tup [.ref 0,iV 0],[.row 92 6 22 λi=>eV (Afv 1 i)])) <|
 .br (ieq a 2) (.leaf (.tup [.ref 0,iV 0],[.row 92 6 104 λi=>eV (Afv 2 i)])) (.leaf (.tup [.ref 0,iV 1],[.row 92 6 0 λ_=>.und]))
end Go.Proofs.YtkgdhhieomndeaaGreatDoor.Ed
namespace Go.Proofs.YtkgdhhieomndeaaGreatDoor.Ed
open Go.Sy
open Int (ofNat)
def okE (v:V):Bool:=match toE v with
 | some _=>true
 | none=>false
def edE (v:V):E6:=match toE v with
 | some e=>e
 | none=>E8
def AB (n:Nat) (p:Nat->Bool):Bool:=(List.range n).all p
theorem A0 {n:Nat} {p:Nat->Bool}:AB n p=true↔∀ i,i<n->p i=true:=by simp [AB]
theorem Oa {v:V} (h:okE v=true):v=eV (edE v):=by
 unfold okE at h;unfold edE;split at h
 ·rename_i e he
  exact N3 he
 ·cases h
def gSl:V->Option (Nat×(Nat->V))
 | .sl s n g=>match Nat.beq s 6 with
  | true=>some (n,g)
  | false=>match n with
   | 0=>some (0,g)
   | _=>none
 | .slr s n _ g=>match Nat.beq s 6 with
  | true=>some (n,g)
  | false=>none
 | _=>none
def apL {α:Type} (v:V) (F:Nat->(Nat->E6)->T α):T α :=
 match gSl v with
 | some (n,g)=>.br (AB n λi=>okE (g i)) (F n λi=>edE (g i)) .fail
 | none=>.fail
def AQ (n:Nat) (f:Nat->E6):V:=.sl 6 n λi=>eV (f i)
theorem Cl {α:Type} {v:V} {F:Nat->(Nat->E6)->T α} {r:α} (h:(apL v F).sem=some r) :
  ∃ n f,(∀ (S:Nat->Prop) (w:World) (c:Value),VR S w v noK c->VR S w (AQ n f) noK c)∧(F n f).sem=some r:=by
 unfold apL at h;split at h
 ·rename_i n g hg
  obtain ⟨h1,h2⟩:=Ad h;have h1:=A0.1 h1;refine ⟨n,_,λS w c hv=>?_,h2⟩;unfold gSl at hg;split at hg
  ·rename_i s n' g'
   split at hg
   ·rename_i hs
    simp only [Option.some.injEq,Prod.mk.injEq] at hg;obtain ⟨rfl,rfl⟩:=hg;have hs:s=6:=Nat.eq_of_beq_eq_true hs;subst hs;obtain ⟨a,cap,e,hc,hb⟩:=hv;refine ⟨a,cap,e,hc,hb.imp id ?_⟩
    rintro ⟨b,o,ea,hel⟩
    refine ⟨b,o,ea,λi hi=>?_⟩;have:=hel i hi;rw [Oa (h1 i hi)] at this;exact this
   ·split at hg
    ·simp only [Option.some.injEq,Prod.mk.injEq] at hg
     obtain ⟨rfl,rfl⟩:=hg;obtain ⟨a,cap,e,hc,_⟩:=hv;exact ⟨a,cap,e,hc,.inl rfl⟩
    ·cases hg
  ·rename_i s n' m' g'
   split at hg
   ·rename_i hs
    simp only [Option.some.injEq,Prod.mk.injEq] at hg;obtain ⟨rfl,rfl⟩:=hg;have hs:s=6:=Nat.eq_of_beq_eq_true hs;subst hs;obtain ⟨a,cap,e,hc,hm,hb⟩:=hv;refine ⟨a,cap,e,Nat.le_trans hc hm,?_⟩;rcases hb with h0 | ⟨b,o,ea,hel⟩
    ·exact .inl (by omega)
    ·refine .inr ⟨b,o,ea,λi hi=>?_⟩
     have:=hel i (by omega);rw [Oa (h1 i hi)] at this;exact this
   ·cases hg
  ·cases hg
 ·cases h
def FT (F:Nat->(Nat->E6)->AR):List V->AR
 | [v]=>apL v F
 | _=>.fail
def AjC (F:Nat->(Nat->E6)->Nat->(Nat->E6)->AR):List V->AR
 | [v,u]=>apL v λn f=>apL u λm g=>F n f m g
 | _=>.fail
theorem Ct {F:Nat->(Nat->E6)->AR} {vs:List V} {r:V×List Blk} (h:(FT F vs).sem=some r):∃ n f,Bf vs [AQ n f]∧(F n f).sem=some r:=by
 unfold FT at h;split at h
 ·obtain ⟨n,f,h1,h2⟩:=Cl h
  refine ⟨n,f,λS w cs hv=>?_,h2⟩;obtain ⟨c,l,rfl,q1,q2⟩:=hv;exact ⟨c,l,rfl,h1 S w c q1,q2⟩
 ·cases h
theorem Zq {F:Nat->(Nat->E6)->Nat->(Nat->E6)->AR} {vs:List V} {r:V×List Blk} (h:(AjC F vs).sem=some r) :
  ∃ n f m g,Bf vs [AQ n f,AQ m g]∧(F n f m g).sem=some r:=by
 unfold AjC at h;split at h
 ·obtain ⟨n,f,h1,h2⟩:=Cl h
  obtain ⟨m,g,h3,h4⟩:=Cl h2;refine ⟨n,f,m,g,λS w cs hv=>?_,h4⟩;obtain ⟨c,l,rfl,q1,c',l',rfl,q2,q3⟩:=hv;exact ⟨c,_,rfl,h1 S w c q1,c',l',rfl,h3 S w c' q2,q3⟩
 ·cases h
theorem Aq {i n:Nat} (h:i<n) (hn:n <= 4611686018427387904):wr .i64 (Af (ofNat i) 1)=ofNat (i+1):=by
 unfold wr Af IntKind.wrap;simp [IntKind.bits,IntKind.signed];omega
theorem ofNat_lt {i n:Nat} (h:i<n):ilt (ofNat i) (ofNat n)=true:=by simp [ilt]; omega
theorem A1 {i n:Nat} (h:n <= i):ilt (ofNat i) (ofNat n)=false:=by simp [ilt]; omega
theorem Ao {i n:Nat} (h:i<n):Al (ile 0 (ofNat i)) (ilt (ofNat i) (ofNat n))=true:=by rw [ofNat_lt h]; simp [Al,ile]
noncomputable def cx9 (l:List (Nat×Lp)):Cx:=AC Gl tb8 l
def lp36 (n:Nat):Lp:=⟨bmK 26 0 [0,1,4,5],0,bmK 26 0 [0,1,4],0,n+1⟩
def st36 (n m:Nat) (i:Int) (f g:Nat->E6) (j:Nat->V):St:=⟨jsV 26 0 j [(0,.sl 6 n λi=>eV (f i)),(1,.sl 6 m λi=>eV (g i)),(4,bV false),(5,iV i)],[]⟩
def Ug (n m:Nat) (f g:Nat->E6):St:=⟨jsV 26 0 Aa [(0,.sl 6 n λi=>eV (f i)),(1,.sl 6 m λi=>eV (g i)),(4,bV false)],[]⟩
noncomputable def HB (L:LT):St->T (Ex×St):=λst=>A7 tab ⟨Ap tb8,L,Gl⟩ (Ar Tryz.f29 0) 0 st
section
variable (L:LT) (n m i:Nat) (f g:Nat->E6) (j:Nat->V)
include L n m i f g j
theorem Aao:((HB L (st36 n m (ofNat i) f g j)).bind λr=>T.leaf (r.1,Jk [true,true,false,false,true,false,false,false,false,false,false,false,false,false,false,false,false,false,false,false,false,false,false,false,false,false] 0 r.2)).path [false]=some ([ilt (ofNat i) (ofNat n)],(.ex 0,Ug n m f g)):=by kernel_rfl
theorem Aan:((HB L (st36 n m (ofNat i) f g j)).bind λr=>T.leaf (r.1,Jk [true,true,false,false,true,false,false,false,false,false,false,false,false,false,false,false,false,false,false,false,false,false,false,false,false,false] 0 r.2)).path [true,true,true,true] =
  some ([ilt (ofNat i) (ofNat n),Al (ile 0 (ofNat i)) (ilt (ofNat i) (ofNat n)),Al (ile 0 (ofNat i)) (ilt (ofNat i) (ofNat m)),A6 (eqE (f i) (g i))],(.rt,Ug n m f g)):=by kernel_rfl
theorem Yt:((HB L (st36 n m (ofNat i) f g j)).bind λr=>T.leaf (r.1,Jk [true,true,false,false,true,true,false,false,false,false,false,false,false,false,false,false,false,false,false,false,false,false,false,false,false,false] 0 r.2)).path [true,true,true,false] =
  some ([ilt (ofNat i) (ofNat n),Al (ile 0 (ofNat i)) (ilt (ofNat i) (ofNat n)),Al (ile 0 (ofNat i)) (ilt (ofNat i) (ofNat m)),A6 (eqE (f i) (g i))],
   (.nm,st36 n m (wr .i64 (Af (ofNat i) 1)) f g λ_=>.und)):=by kernel_rfl
end
def FI (f g:Nat->E6):Nat->Nat->Bool
 | 0,_=>true
 | d+1,i=>match eqE (f i) (g i) with
  | true=>FI f g d (i+1)
  | false=>false
theorem SV (L:LT) (n m:Nat) (f g:Nat->E6) (hm:n=m) (hn:n <= 4611686018427387904):∀ (d i:Nat) (j:Nat->V) (q:Nat),n=i+d->d<q ->
  (A3 (HB L) (lp36 n) q (st36 n m (ofNat i) f g j)).sem=some (match FI f g d i with | true=>.ex 0 | false=>.rt,Ug n m f g)
 | 0,i,j,q+1,h1,_=>by
  have h3:(A3 (HB L) (lp36 n) (q+1) (st36 n m (ofNat i) f g j)).sem=some (.ex 0,Ug n m f g):=T8 (Aao L n m i f g j) (by rw [A1 (by omega)]) (λh=>by cases h);exact h3
 | d+1,i,j,q+1,h1,h2=>by
  have hi:i<n:=by omega
  have hi':i<m:=by omega
  unfold FI;cases hc:eqE (f i) (g i) with
  | true =>
   have h3:(A3 (HB L) (lp36 n) (q+1) (st36 n m (ofNat i) f g j)).sem=(A3 (HB L) (lp36 n) q (st36 n m (wr .i64 (Af (ofNat i) 1)) f g λ_=>.und)).sem :=
    YN (Yt L n m i f g j) (by rw [Ao hi,Ao hi',ofNat_lt hi,hc]; rfl)
   rw [h3,Aq hi hn];exact SV L n m f g hm hn d (i+1) Aa q (by omega) (by omega)
  | false =>have h3:(A3 (HB L) (lp36 n) (q+1) (st36 n m (ofNat i) f g j)).sem=some (.rt,Ug n m f g):=T8 (Aan L n m i f g j) (by rw [Ao hi,Ao hi',ofNat_lt hi,hc]; rfl) (λh=>by cases h);exact h3
def Cv (n:Nat) (f:Nat->E6) (m:Nat) (g:Nat->E6):Bool:=sel (ieq (ofNat n) (ofNat m)) (FI f g n 0) false
def jk36 (n m:Nat) (f g:Nat->E6):Nat->V:=lkV A9 [(6,AQ n f),(7,nV n),(8,AQ m g),(9,nV m),(10,bV (A6 (ieq (ofNat n) (ofNat m))))]
theorem Aap (n m:Nat) (f g:Nat->E6) (L:LT):Az (Ak tab ⟨Ap tb8,L,Gl⟩ Tryz.f29 [AQ n f,AQ m g] []) =
  Az (Ak tab ⟨Ap tb8,λ_ _ _=>L 0 (HB L) (st36 n m 0 f g (jk36 n m f g)),Gl⟩ Tryz.f29 [AQ n f,AQ m g] []):=by kernel_rfl
theorem AdS (n m:Nat) (f g:Nat->E6) (L:LT):(Az (Ak tab ⟨Ap tb8,L,Gl⟩ Tryz.f29 [AQ n f,AQ m g] [])).path [true] =
  some ([A6 (ieq (ofNat n) (ofNat m))],(bV false,[])):=by kernel_rfl
theorem AdT (n m:Nat) (f g:Nat->E6):(Az (Ak tab ⟨Ap tb8,λ_ _ _=>.leaf (.ex 0,Ug n m f g),Gl⟩ Tryz.f29 [AQ n f,AQ m g] [])).path [false] =
  some ([A6 (ieq (ofNat n) (ofNat m))],(bV true,[])):=by kernel_rfl
theorem AdR (n m:Nat) (f g:Nat->E6):(Az (Ak tab ⟨Ap tb8,λ_ _ _=>.leaf (.rt,Ug n m f g),Gl⟩ Tryz.f29 [AQ n f,AQ m g] [])).path [false] =
  some ([A6 (ieq (ofNat n) (ofNat m))],(bV false,[])):=by kernel_rfl
theorem Ah7 (n m:Nat) (f g:Nat->E6) (hn:n <= 4611686018427387904):(Az (Ak tab (cx9 [(0,lp36 n)]) Tryz.f29 [AQ n f,AQ m g] [])).sem=some (bV (Cv n f m g),[]):=by
 unfold Cv;cases hc:ieq (ofNat n) (ofNat m) with
 | false=>exact AM (AdS n m f g _) (by rw [hc]; rfl)
 | true =>
  have h0:ofNat n=ofNat m:=by simpa only [ieq,beq_iff_eq] using hc
  have hm:n=m:=Int.ofNat.inj h0;have h1:=SV (AW [(0,lp36 n)]) n m f g hm hn n 0 (jk36 n m f g) (n+1) (by omega) (by omega);have h2:=Aap n m f g (AW [(0,lp36 n)]);have h3:(Az (Ak tab (cx9 [(0,lp36 n)]) Tryz.f29 [AQ n f,AQ m g] [])).sem=(Az (Ak tab ⟨Ap tb8,λ_ _ _=>.leaf (match FI f g n 0 with | true=>.ex 0 | false=>.rt,Ug n m f g),Gl⟩ Tryz.f29 [AQ n f,AQ m g] [])).sem:=by
   refine (congrArg T.sem h2).trans (Pq λid _ _ _ _=>?_);exact h1
  rw [h3];cases FI f g n 0 with
  | true=>exact AM (AdT n m f g) (by rw [hc]; rfl)
  | false=>exact AM (AdR n m f g) (by rw [hc]; rfl)
def Aj (n:Nat):Bool:=decide (n <= 4611686018427387904)
def WK:List V->AR:=AjC λn f m g=>.br (Aj n) (out (bV (Cv n f m g))) .fail
end Go.Proofs.YtkgdhhieomndeaaGreatDoor.Ed
namespace Go.Proofs.YtkgdhhieomndeaaGreatDoor.Ed
open Go.Sy
def BF (n:Nat):Bool:=decide (n * 40 <= 140737488355328)
section
variable (L:LT)
end
def copyT:List V->AR:=FT λn f=>.br (BF n) (.leaf (.ref 0,[.row 92 6 n λi=>eV (f i)])) .fail
end Go.Proofs.YtkgdhhieomndeaaGreatDoor.Ed
namespace Go.Proofs.YtkgdhhieomndeaaGreatDoor.Ed
open Go.Sy
theorem allT_some {vs:List V} {r:V×List Blk} (h:(allT vs).sem=some r):∃ a,vs=[iV a]∧((a=1∧r=(.tup [.ref 0,iV 0],[.row 92 6 22 λi=>eV (Afv 1 i)])) ∨ (a=2∧r=(.tup [.ref 0,iV 0],[.row 92 6 104 λi=>eV (Afv 2 i)])) ∨
  (A6 (B4 a)=true∧r=(.tup [.ref 0,iV 1],[.row 92 6 0 λ_=>.und]))):=by
 obtain ⟨a,rfl,h⟩:=Pd M8 h;refine ⟨a,rfl,?_⟩;have h:sel (ieq a 1) (some _) (sel (ieq a 2) (some _) (some _))=some r:=h;cases h1:ieq a 1 with
 | true =>rw [h1] at h;have h:some _=some r:=h;exact .inl ⟨by simpa [ieq] using h1,(Option.some.inj h).symm⟩
 | false =>
  rw [h1] at h;cases h2:ieq a 2 with
  | true =>rw [h2] at h;have h:some _=some r:=h;exact .inr (.inl ⟨by simpa [ieq] using h2,(Option.some.inj h).symm⟩)
  | false =>rw [h2] at h;have h:some _=some r:=h;exact .inr (.inr ⟨by simp [B4,h1,h2,A6,bor],(Option.some.inj h).symm⟩)
end Go.Proofs.YtkgdhhieomndeaaGreatDoor.Ed
namespace Go.Proofs.YtkgdhhieomndeaaGreatDoor.Ed
open Go.Sy
end Go.Proofs.YtkgdhhieomndeaaGreatDoor.Ed
namespace Go.Sy
def MK (l:Lp) (r:Ex×St):Ex×St :=
 match r.1 with
 | .nm=>(.nm,Jk l.ks l.n r.2)
 | .ex i=>(.ex i,Jk l.ke l.ne r.2)
 | .rt=>(.rt,Jk l.ke l.ne r.2)
def Ah (f:St->T (Ex×St)) (l:Lp) (st:St):Option (Ex×St):=((f st).bind λr=>T.leaf (MK l r)).sem
def AbK (f:St->T (Ex×St)) (l:Lp) (m:Nat):Option (Ex×St)->Option (Ex×St)
 | some (.nm,st)=>(A3 f l m st).sem
 | some (e,st)=>some (e,st)
 | none=>none
theorem Ae {f:St->T (Ex×St)} {l:Lp} {m:Nat} {st:St} {t:Option (Ex×St)} (h:Ah f l st=t):(A3 f l (m+1) st).sem=AbK f l m t:=by
 subst h;show ((f st).bind _).sem=_;unfold Ah;rw [Cu,Cu];cases (f st).sem with
 | none=>rfl
 | some r =>obtain ⟨e,s⟩:=r;cases e <;> rfl
theorem Ay {f:St->T (Ex×St)} {l:Lp} {m:Nat} {st:St}:AbK f l m (some (.nm,st))=(A3 f l m st).sem:=rfl
theorem RJ {f:St->T (Ex×St)} {l:Lp} {m:Nat} {i:Nat} {st:St}:AbK f l m (some (.ex i,st))=some (.ex i,st):=rfl
theorem IR {f:St->T (Ex×St)} {l:Lp} {m:Nat} {st:St}:AbK f l m (some (.rt,st))=some (.rt,st):=rfl
theorem Aai {α:Type} (x y:α):sel true x y=x:=rfl
theorem Yr {α:Type} (x y:α):sel false x y=y:=rfl
def TLe {α:Type} (t t':T α):Prop:=∀ r,t.sem=some r->t'.sem=some r
theorem TLe.refl {α:Type} (t:T α):TLe t t:=λ_ h=>h
theorem TLe.bind {α β:Type} {t t':T α} {f f':α->T β} (h:TLe t t') (hf:∀ a,TLe (f a) (f' a)):TLe (t.bind f) (t'.bind f'):=λr hr=>by
 obtain ⟨a,h1,h2⟩:=Ai hr;rw [Cu,h a h1];exact hf a r h2
def LLe (M L:Nat->(St->T (Ex×St))->St->T (Ex×St)):Prop:=∀ id f f' st,(∀ st,TLe (f st) (f' st))->TLe (M id f st) (L id f' st)
theorem T9 {f f':St->T (Ex×St)} (h:∀ st,TLe (f st) (f' st)) (l:Lp):∀ (m:Nat) (st:St),TLe (A3 f l m st) (A3 f' l m st)
 | 0,_=>TLe.refl _
 | m+1,st=>by
  refine TLe.bind (h st) λr=>?_;cases r.1 with
  | nm=>exact T9 h l m _
  | ex i=>exact TLe.refl _
  | rt=>exact TLe.refl _
theorem AL (ls:List (Nat×Lp)):LLe (AW ls) (AW ls):=λid f f' st h=>by
 unfold AW;split
 ·exact T9 h _ _ _
 ·exact TLe.refl _
def onP (k:Nat) (p:(St->T (Ex×St))->St->Bool) (r:Ex×St) (L:Nat->(St->T (Ex×St))->St->T (Ex×St)):Nat->(St->T (Ex×St))->St->T (Ex×St) :=
 λid f st=>match Nat.beq id k with
  | true=>.br (p f st) (.leaf r) .fail
  | false=>L id f st
noncomputable def isP (L:Nat->(St->T (Ex×St))->St->T (Ex×St)) (k:Nat) (r:Ex×St):(St->T (Ex×St))->St->Bool :=
 λf st=>@decide ((L k f st).sem=some r) (Classical.propDecidable _)
theorem Au {L:Nat->(St->T (Ex×St))->St->T (Ex×St)} {k:Nat} {r:Ex×St} {f:St->T (Ex×St)} {st:St} (h:(L k f st).sem=some r):isP L k r f st=true:=by
 unfold isP;exact @decide_eq_true _ (Classical.propDecidable _) h
theorem AA {M L:Nat->(St->T (Ex×St))->St->T (Ex×St)} {k:Nat} {r:Ex×St} (hM:LLe M L) (hL:LLe L L):LLe (onP k (isP L k r) r M) L:=λid f f' st hf r' hr=>by
 unfold onP at hr;cases hk:Nat.beq id k with
 | true =>rw [hk] at hr;obtain ⟨h1,h2⟩:=Ad hr;rw [Ac h2];unfold isP at h1;have h1:=@of_decide_eq_true _ (Classical.propDecidable _) h1;rw [Nat.eq_of_beq_eq_true hk];exact hL k f f' st hf _ h1
 | false =>rw [hk] at hr;exact hM id f f' st hf _ hr
theorem D2 {τ:List Ty} {Γ:Cx} {L L':Nat->(St->T (Ex×St))->St->T (Ex×St)} (h:LLe L L') :
  ∀ (c:Code) (id:Nat) (st:St),TLe (A7 τ { Γ with loop:=L } c id st) (A7 τ { Γ with loop:=L' } c id st):=by
 intro c
 induction c with
 | skip=>intro id st; exact TLe.refl _
 | region i ops draw=>intro id st; exact TLe.refl _
 | seq a b iha ihb =>
  intro id st;refine TLe.bind (iha id st) λr=>?_;cases r.1 with
  | nm=>exact ihb id r.2
  | ex j=>exact TLe.refl _
  | rt=>exact TLe.refl _
 | cond x a b iha ihb =>
  intro id st;show TLe (match ev ⟨Γ.call,Γ.glob⟩ st x with | .val (.bool q)=>T.br q (A7 τ { Γ with loop:=L } a id st) (A7 τ { Γ with loop:=L } b id st) | _=>.fail) (match ev ⟨Γ.call,Γ.glob⟩ st x with | .val (.bool q)=>T.br q (A7 τ { Γ with loop:=L' } a id st) (A7 τ { Γ with loop:=L' } b id st) | _=>.fail)
  split
  ·rename_i q _
   cases q with
   | true=>exact iha id st
   | false=>exact ihb id st
  ·exact TLe.refl _
 | block i c ih =>
  intro id st;refine TLe.bind (ih i st) λr=>?_;cases r.1 with
  | nm=>exact TLe.refl _
  | ex j=>exact TLe.refl _
  | rt=>exact TLe.refl _
 | loop c ih =>intro id st;exact h id _ _ st (ih id)
 | exit i=>intro id st; exact TLe.refl _
 | ret=>intro id st; exact TLe.refl _
 | _=>intro id st; exact TLe.refl _
theorem AH {τ:List Ty} {call:FuncId->List V->St->T (V×Res)} {G:Nat->V} {fn:Func} {vs:List V} {L L':Nat->(St->T (Ex×St))->St->T (Ex×St)}
  (h:LLe L L'):TLe (Az (Ak τ ⟨call,L,G⟩ fn vs [])) (Az (Ak τ ⟨call,L',G⟩ fn vs [])):=by
 refine TLe.bind ?_ λ_=>TLe.refl _;unfold Ak;cases fn.body with
 | none=>exact TLe.refl _
 | some c=>exact TLe.bind (D2 (Γ:=⟨call,L,G⟩) h c 0 _) λ_=>TLe.refl _
theorem CB {f f':St->T (Ex×St)} {l:Lp} {st:St} {r:Ex×St} (h:TLe (f st) (f' st)) (hr:Ah f l st=some r):Ah f' l st=some r:=TLe.bind h (λ_=>TLe.refl _) r hr
def AmE (v:V):Blk->Blk
 | .row e s 0 _=>.row e s 0 λ_=>v
 | .jag j=>.jag { j with mem:=λi k=>Z5 (Aem k (j.len i)) (j.mem i k) v }
 | b=>b
def Ag7 (h:List Blk) (id:Nat) (v:V):List Blk :=
 match h[id]? with
 | some b=>h.set id (AmE v b)
 | none=>h
def CE (st:St):List (Nat×V)->St
 | []=>st
 | (id,v)::l=>CE ⟨st.t,Ag7 st.h id v⟩ l
theorem Nx {Γ:Cx0}:∀ (l:List (Nat×V)) (st:St),LE Γ st (CE st l)
 | [],st=>LE.refl st
 | (id,v)::l,st=>by
   refine LE.trans ?_ (Nx l _);unfold Ag7;cases hb:st.h[id]? with
   | none=>exact LE.refl st
   | some b =>
    have same:st.h.set id b=st.h:=by
     have hl:=(List.getElem?_eq_some_iff.1 hb).1;have:=(List.getElem?_eq_some_iff.1 hb).2;rw [<- this,List.set_getElem_self]
    cases b with
    | row e s n g =>
     cases n with
     | zero=>exact Fe hb λj hj=>by omega
     | succ n =>show LE Γ st ⟨st.t,st.h.set id (.row e s (n+1) g)⟩;rw [same];exact LE.refl st
    | cells cs =>show LE Γ st ⟨st.t,st.h.set id (.cells cs)⟩;rw [same];exact LE.refl st
    | imap t n get =>show LE Γ st ⟨st.t,st.h.set id (.imap t n get)⟩;rw [same];exact LE.refl st
    | xrow lk e s n g =>show LE Γ st ⟨st.t,st.h.set id (.xrow lk e s n g)⟩;rw [same];exact LE.refl st
    | jag j =>
     refine AjF hb (λ_ _=>rfl) (λ_ _=>rfl) (λ_ _=>rfl) λk _ q hq=>?_;have:Aem q (j.len k)=true:=by
      unfold Aem;simpa using hq
     rw [this,Fi];rfl
    | saved vs =>show LE Γ st ⟨st.t,st.h.set id (.saved vs)⟩;rw [same];exact LE.refl st
    | dead =>show LE Γ st ⟨st.t,st.h.set id .dead⟩;rw [same];exact LE.refl st
def Cb (zs:List (Nat×List (Nat×V))) (loops:List (Nat×Lp)) (id:Nat) (f:St->T (Ex×St)) (st:St):T (Ex×St) :=
 match Kz id zs with
 | some l=>AW loops id f (CE st l)
 | none=>AW loops id f st
theorem DO (zs:List (Nat×List (Nat×V))) (ls:List (Nat×Lp)):LLe (Cb zs ls) (Cb zs ls):=λid f f' st h=>by
 unfold Cb;split
 ·exact AL ls id f f' _ h
 ·exact AL ls id f f' _ h
def cxZ (G:Nat->V) (tbl:AP) (zs:List (Nat×List (Nat×V))) (loops:List (Nat×Lp)):Cx:=⟨Ap tbl,Cb zs loops,G⟩
theorem JI {P:Program} {G:Nat->V} {tbl:AP} (h:Av P G tbl) (zs:List (Nat×List (Nat×V))) (loops:List (Nat×Lp)):Bo P (cxZ G tbl zs loops).base∧BQ (cxZ G tbl zs loops):=by
 refine ⟨D3 rfl h,λid f st r hr=>?_⟩;have hr:(Cb zs loops id f st).sem=some r:=hr;have by':∀ st,(AW loops id f st).sem=some r->LRun (cxZ G tbl zs loops).base f st r:=λst hr=>by
  unfold AW at hr;split at hr
  ·exact Es hr
  ·cases hr
 unfold Cb at hr;split at hr
 ·exact .weak (Nx _ _) (by' _ hr)
 ·exact by' _ hr
noncomputable def isR (Γ:Cx0) (r:Ex×St):(St->T (Ex×St))->St->Bool:=λf st=>@decide (LRun Γ f st r) (Classical.propDecidable _)
theorem DZ {Γ:Cx0} {r:Ex×St} {f:St->T (Ex×St)} {st:St} (h:LRun Γ f st r):isR Γ r f st=true:=@decide_eq_true _ (Classical.propDecidable _) h
def noL:Nat->(St->T (Ex×St))->St->T (Ex×St):=λ_ _ _=>.fail
theorem G2 {c:FuncId->List V->St->T (V×Res)} {G:Nat->V}:BQ ⟨c,noL,G⟩:=λ_ _ _ _ h=>by cases h
theorem Hp {c:FuncId->List V->St->T (V×Res)} {G:Nat->V} {M:Nat->(St->T (Ex×St))->St->T (Ex×St)} {k:Nat} {r:Ex×St} (h:BQ ⟨c,M,G⟩):BQ ⟨c,onP k (isR ⟨c,G⟩ r) r M,G⟩:=λid f st r' hr=>by
 have hr:(onP k (isR ⟨c,G⟩ r) r M id f st).sem=some r':=hr;unfold onP at hr;split at hr
 ·obtain ⟨h1,h2⟩:=Ad hr
  have:=Ac h2;subst this;exact @of_decide_eq_true _ (Classical.propDecidable _) h1
 ·exact h id f st r' hr
end Go.Sy
namespace Go.Proofs.YtkgdhhieomndeaaGreatDoor.Ed
open Go.Sy
def Co (n:Nat) (f:Nat->E6):Bool:=AB n λi=>ieq (Bc (f i)) 0
theorem EF {n:Nat} {f:Nat->E6}:Co n f=true↔∀ i,i<n->Bc (f i)=0:=by
 unfold Co;rw [A0];simp [ieq]
theorem OH (f g:Nat->E6):∀ d i,FI f g d i=true↔∀ j,i <= j->j<i+d->f j=g j
 | 0,i=>by
  simp only [FI,true_iff];intro j h1 h2; omega
 | d+1,i=>by
  unfold FI;cases h:eqE (f i) (g i) with
  | true =>
   have h0:=(IT _ _).1 h;show FI f g d (i+1)=true↔_;rw [OH f g d (i+1)];constructor
   ·intro q j h1 h2
    by_cases hj:j=i
    ·subst hj; exact h0
    ·exact q j (by omega) (by omega)
   ·intro q j h1 h2; exact q j (by omega) (by omega)
  | false =>
   constructor
   ·intro q; cases q
   ·intro q
    have:=(IT _ _).2 (q i (Nat.le_refl _) (by omega));rw [this] at h; cases h
end Go.Proofs.YtkgdhhieomndeaaGreatDoor.Ed
namespace Go.Proofs.YtkgdhhieomndeaaGreatDoor.Ed
open Go.Sy
theorem QE {n:Nat}:AB n (λ_=>true)=true:=A0.2 λ_ _=>rfl
def kL (n:Nat):Kn:=⟨AB n λ_=>true,true,QE⟩
def Br (g:Nat->V):Nat->Nat->V
 | 0=>λ_=>.und
 | i+1=>As i (Br g i) (g i)
theorem F9 (g:Nat->V):∀ n j,j<n->Br g n j=g j
 | 0,j,h=>by omega
 | n+1,j,h=>by
  rw [show Br g (n+1) j=As n (Br g n) (g n) j from rfl,Bi];show (bif Nat.beq j n then g n else Br g n j)=_;cases hb:Nat.beq j n with
  | true =>rw [Nat.eq_of_beq_eq_true hb];rfl
  | false =>have:=Nat.ne_of_beq_eq_false hb;exact F9 g n j (by omega)
theorem Sq {i n b c:Nat} (h:i<n) (hb:b <= c) (hn:n * c <= 140737488355328):Ba i 1 b=true:=by
 refine decide_eq_true ?_;have h1:(i+1) * b <= n * b:=Nat.mul_le_mul_right b (by omega);have h2:n * b <= n * c:=Nat.mul_le_mul_left n hb;omega
theorem IS {n:Nat} (hn:BF n=true):n <= 4611686018427387904:=by
 have hn:n * 40 <= 140737488355328:=of_decide_eq_true hn;omega
def cdV (f:Nat->E6):Nat->V:=λi=>iV (BJ (f i))
theorem TS (p:Nat->Bool):∀ n,AB n p=false->∃ e,e<n∧p e=false∧∀ t,t<e->p t=true
 | 0,h=>by cases h
 | n+1,h=>by
  cases hn:AB n p with
  | false =>obtain ⟨e,h1,h2,h3⟩:=TS p n hn;exact ⟨e,by omega,h2,h3⟩
  | true =>
   refine ⟨n,by omega,?_,λt ht=>A0.1 hn t ht⟩;cases hp:p n with
   | false=>rfl
   | true =>
    have:AB (n+1) p=true:=A0.2 λi hi=>by
     by_cases hi':i=n
     ·rw [hi',hp]
     ·exact A0.1 hn i (by omega)
    rw [this] at h; cases h
theorem AcA {e:E6} (h:Bc e ≠ 0):Bc e=30:=by
 rcases DP e with ⟨_,_,h1,_⟩ | ⟨h1,_⟩
 ·exact absurd h1 h
 ·exact h1
theorem V8 {n:Nat} {f:Nat->E6} (h:Co n f=false):∃ e,e<n∧Bc (f e)=30∧∀ t,t<e->Bc (f t)=0:=by
 obtain ⟨e,h1,h2,h3⟩:=TS _ n h;refine ⟨e,h1,AcA λh0=>?_,λt ht=>by simpa [ieq] using h3 t ht⟩;rw [h0] at h2;cases h2
def Ac9:List V->AR:=FT λn f=>.br (BF n) (.br (Co n f) (.leaf (.tup [.ref 0,iV 0],[.row 3 1 n λi=>iV (BJ (f i))])) (.leaf (.tup [.ref 0,iV 30],[.row 3 1 0 λ_=>.und]))) .fail
end Go.Proofs.YtkgdhhieomndeaaGreatDoor.Ed
namespace Go.Proofs.YtkgdhhieomndeaaGreatDoor.Ed
open Go.Sy
def G5 (n:Nat):List (Nat×Lp):=[(0,⟨[],1000,[],1000,n⟩),(1,⟨[],1000,[],1000,n⟩),(2,⟨[],1000,[],1000,n⟩),(3,⟨[],1000,[],1000,n⟩),(4,⟨[],1000,[],1000,n⟩),(5,⟨[],1000,[],1000,n⟩),(6,⟨[],1000,[],1000,n⟩)]
noncomputable def cy0:AP:=[(21,P5 Rv),(32,ap2 gI toE λa e=>out (RA a e)),(28,BI λe=>iV (Bc e))]
noncomputable def B83:List V->AR:=λvs=>Az (Ak tab (AC Gl cy0 (G5 30)) Tryz.f50 vs [])
noncomputable def AmQ:AP:=(83,B83)::cy0
noncomputable def Api:List V->AR:=λvs=>Az (Ak tab (AC Gl AmQ (G5 30)) Tryz.f128 vs [])
noncomputable def AgD:AP:=(108,Api)::AmQ
noncomputable def B88:List V->AR:=λvs=>Az (Ak tab (AC Gl AgD (G5 30)) Tryz.f112 vs [])
noncomputable def AmO:AP:=(88,B88)::AgD
noncomputable def B89:List V->AR:=λvs=>Az (Ak tab (AC Gl AmO (G5 30)) Tryz.f113 vs [])
noncomputable def AmN:AP:=(89,B89)::AmO
noncomputable def B90:List V->AR:=λvs=>Az (Ak tab (AC Gl AmN (G5 30)) Tryz.f114 vs [])
noncomputable def AmM:AP:=(90,B90)::AmN
noncomputable def B93:List V->AR:=λvs=>Az (Ak tab (AC Gl AmM (G5 30)) Tryz.f117 vs [])
noncomputable def AmK:AP:=(93,B93)::AmM
noncomputable def B87:List V->AR:=λvs=>Az (Ak tab (AC Gl AmK (G5 30)) Tryz.f111 vs [])
noncomputable def AmP:AP:=(87,B87)::AmK
noncomputable def B92:List V->AR:=λvs=>Az (Ak tab (AC Gl AmP (G5 30)) Tryz.f116 vs [])
noncomputable def AmL:AP:=(92,B92)::AmP
noncomputable def B91:List V->AR:=λvs=>Az (Ak tab (AC Gl AmL (G5 30)) Tryz.f115 vs [])
noncomputable def AoW:AP:=(91,B91)::AmL
noncomputable def B86:List V->AR:=λvs=>Az (Ak tab (AC Gl AoW (G5 30)) Tryz.f110 vs [])
end Go.Proofs.YtkgdhhieomndeaaGreatDoor.Ed
