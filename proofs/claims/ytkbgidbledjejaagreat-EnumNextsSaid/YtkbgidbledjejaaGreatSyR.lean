/-
  Layer 3: texts, architectures, what must come. No conditions.
-/
import Derived.Test.YtkbgidbledjejaaGreatEdC
import Derived.Test.YtkbgidbledjejaaGreatSyS
namespace Go.Proofs.YtkbgidbledjejaaGreat.Ed
open Go.Sy
noncomputable def tb5:AH:=(114,Co YT)::tb3
theorem AbT:Ao Tryz.prog Gl tb5:=.cons p27<|AbU
noncomputable def cx5:Cx:=BP Gl tb5 [(0,⟨[],1,[],1,113⟩)]
def SQ (s:List UInt8):Nat->Nat->Option Nat
 | 0,_=>none
 | m+1,k=>match seq (S6 k) s with
  | true=>some k
  | false=>SQ s m (Nat.succ k)
def Gj (s:List UInt8):E6:=match SQ s 112 0 with
 | some k=>BC k
 | none=>Bv
def Gi (s:List UInt8):Int:=match SQ s 112 0 with
 | some _=>0
 | none=>30
def PN (s:List UInt8):Nat->Nat->Option (V×List Blk)
 | 0,_=>some (.tup [eV Bv,iV 30],[])
 | m+1,k=>sel (seq (S6 k) s) (some (.tup [eV (BC k),iV 0],[])) (PN s m (Nat.succ k))
theorem Sz (s:List UInt8):∀ m k,PN s m k=match SQ s m k with
  | some j=>some (.tup [eV (BC j),iV 0],[])
  | none=>some (.tup [eV Bv,iV 30],[])
 | 0,k=>rfl
 | m+1,k=>by
  simp only [PN,SQ];cases h:seq (S6 k) s with
  | true=>rfl
  | false=>exact Sz s m (Nat.succ k)
theorem Xu (s:List UInt8):PN s 112 0=some (.tup [eV (Gj s),iV (Gi s)],[]):=by
 rw [Sz];unfold Gj Gi;cases SQ s 112 0 <;> rfl
theorem Agv (s:List UInt8):(AK (Ar tab cx5 Tryz.f103 [.str s] [])).sem=PN s 112 0:=by kernel_rfl
def UN (f:List UInt8->V):List V->A2
 | [v]=>match gS v with
  | some e=>.leaf (f e,[])
  | none=>.fail
 | _=>.fail
theorem WO {f:List UInt8->V} {vs:List V} {r:V×List Blk} (h:(UN f vs).sem=some r):∃ e,vs=[.str e]∧r=(f e,[]):=by
 unfold UN at h;split at h
 ·split at h
  ·rename_i v e hn
   exact ⟨e,by rw [AgW hn],Aa h⟩
  ·cases h
 ·cases h
def Xv (s:List UInt8):V:=.tup [eV (Gj s),iV (Gi s)]
theorem p22:As Tryz.prog Gl 103 (UN Xv):=by
 refine As.congr (AO Az mixed Tryz.func103 (by kernel_rfl) (by kernel_rfl) (Γ:=cx5) (Bm AbT _)) λvs r h=>?_;obtain ⟨e,rfl,rfl⟩:=WO h;exact (Agv e).trans (Xu e)
noncomputable def tb6:AH:=(103,UN Xv)::tb5
theorem tb6_ok:Ao Tryz.prog Gl tb6:=.cons p22 AbT
noncomputable def cx6:Cx:=BP Gl tb6 []
noncomputable def tb7:AH:=tb6
theorem AiZ:Ao Tryz.prog Gl tb7:=tb6_ok
theorem AdV (a:Int):ieq a a=true:=by simp [ieq]
end Go.Proofs.YtkbgidbledjejaaGreat.Ed
namespace Go.Proofs.YtkbgidbledjejaaGreat.Ed
open Go.Sy
def ap1 {α:Type} (d:V->Option α) (F:α->A2):List V->A2
 | [v]=>match d v with
  | some a=>F a
  | none=>.fail
 | _=>.fail
def ap2 {α β:Type} (d:V->Option α) (e:V->Option β) (F:α->β->A2):List V->A2
 | [v,u]=>match d v,e u with
  | some a,some b=>F a b
  | _,_=>.fail
 | _=>.fail
theorem Rb {α:Type} {d:V->Option α} {c:α->V} (hd:∀ v a,d v=some a->v=c a) {F:α->A2} {vs:List V} {r:V×List Blk} (h:(ap1 d F vs).sem=some r) :
  ∃ a,vs=[c a]∧(F a).sem=some r:=by
 unfold ap1 at h;split at h
 ·split at h
  ·rename_i v _ a ha
   exact ⟨a,by rw [hd v a ha],h⟩
  ·cases h
 ·cases h
theorem He {α β:Type} {d:V->Option α} {e:V->Option β} {c:α->V} {c':β->V} (hd:∀ v a,d v=some a->v=c a) (he:∀ v b,e v=some b->v=c' b) {F:α->β->A2}
  {vs:List V} {r:V×List Blk} (h:(ap2 d e F vs).sem=some r):∃ a b,vs=[c a,c' b]∧(F a b).sem=some r:=by
 unfold ap2 at h;split at h
 ·split at h
  ·rename_i v u _ _ a b ha hb
   exact ⟨a,b,by rw [hd v a ha,he u b hb],h⟩
  ·cases h
 ·cases h
theorem Mg:∀ v a,gI v=some a->v=iV a:=λ_ _ h=>Hu h
theorem WN:∀ v a,toE v=some a->v=eV a:=λ_ _ h=>Pm h
def out (v:V):A2:=.leaf (v,[])
def Bi (a:Int):Bool:=bor (ieq a 1) (ieq a 2)
def IC (a n:Int):Bool:=bor (ilt n 14) (JD (ilt n 22) (ieq a 1))
def VQ (a:Int) (e:E6):Bool :=
 bor (ieq e.kind 1) (bor (ieq e.kind 2) (bor (ieq e.kind 3) (bor (ieq e.kind 4) (sel (ieq e.kind 5) (JD (ieq e.fence 1) (ieq a 1)) (ieq a 2)))))
theorem AgH (a:Int):(AK (Ar tab cx6 Tryz.f94 [iV a] [])).sem=some (bV (Bi a),[]):=by
 have h1:(AK (Ar tab cx6 Tryz.f94 [iV a] [])).path [true,true,true]=some ([ieq a 1,ieq a 1,ieq a 1],(bV true,[])):=by kernel_rfl
 have h2:(AK (Ar tab cx6 Tryz.f94 [iV a] [])).path [false,false,false]=some ([ieq a 1,ieq a 1,ieq a 1],(bV (ieq a 2),[])):=by kernel_rfl
 unfold Bi;cases h:ieq a 1 with
 | true=>exact A9 h1 (by rw [h])
 | false=>exact A9 h2 (by rw [h])
theorem AgG (a:Int):(AK (Ar tab cx6 Tryz.f76 [iV a] [])).sem=some (bV (Bi a),[]):=by
 have h1:(AK (Ar tab cx6 Tryz.f76 [iV a] [])).path [true,true,true]=some ([ieq a 1,ieq a 1,ieq a 1],(bV true,[])):=by kernel_rfl
 have h2:(AK (Ar tab cx6 Tryz.f76 [iV a] [])).path [false,false,false]=some ([ieq a 1,ieq a 1,ieq a 1],(bV (ieq a 2),[])):=by kernel_rfl
 unfold Bi;cases h:ieq a 1 with
 | true=>exact A9 h1 (by rw [h])
 | false=>exact A9 h2 (by rw [h])
theorem AgD (a n:Int):(AK (Ar tab cx6 Tryz.f95 [iV a,iV n] [])).sem=some (bV (IC a n),[]):=by
 have h1:(AK (Ar tab cx6 Tryz.f95 [iV a,iV n] [])).path [true]=some ([ilt n 14],(bV true,[])):=by kernel_rfl
 have h2:(AK (Ar tab cx6 Tryz.f95 [iV a,iV n] [])).path [false]=some ([ilt n 14],(bV (JD (ilt n 22) (ieq a 1)),[])):=by kernel_rfl
 unfold IC;cases h:ilt n 14 with
 | true=>exact A9 h1 (by rw [h])
 | false=>exact A9 h2 (by rw [h])
theorem An8 (a:Int) (e:E6):(AK (Ar tab cx6 Tryz.f77 [iV a,eV e] [])).sem=some (bV (VQ a e),[]):=by
 have h1:(AK (Ar tab cx6 Tryz.f77 [iV a,eV e] [])).path [true,true]=some ([ieq e.kind 1,ieq e.kind 1],(bV true,[])):=by kernel_rfl
 have h2:(AK (Ar tab cx6 Tryz.f77 [iV a,eV e] [])).path [false,true,true]=some ([ieq e.kind 1,ieq e.kind 2,ieq e.kind 2],(bV true,[])):=by kernel_rfl
 have h3:(AK (Ar tab cx6 Tryz.f77 [iV a,eV e] [])).path [false,false,true,true]=some ([ieq e.kind 1,ieq e.kind 2,ieq e.kind 3,ieq e.kind 3],(bV true,[])):=by kernel_rfl
 have h4:(AK (Ar tab cx6 Tryz.f77 [iV a,eV e] [])).path [false,false,false,true]=some ([ieq e.kind 1,ieq e.kind 2,ieq e.kind 3,ieq e.kind 4],(bV true,[])):=by kernel_rfl
 have h5:(AK (Ar tab cx6 Tryz.f77 [iV a,eV e] [])).path [false,false,false,false,true]=some ([ieq e.kind 1,ieq e.kind 2,ieq e.kind 3,ieq e.kind 4,ieq e.kind 5],(bV (JD (ieq e.fence 1) (ieq a 1)),[])):=by kernel_rfl
 have h6:(AK (Ar tab cx6 Tryz.f77 [iV a,eV e] [])).path [false,false,false,false,false]=some ([ieq e.kind 1,ieq e.kind 2,ieq e.kind 3,ieq e.kind 4,ieq e.kind 5],(bV (ieq a 2),[])):=by kernel_rfl
 unfold VQ;cases c1:ieq e.kind 1 with
 | true=>exact A9 h1 (by rw [c1])
 | false =>
 cases c2:ieq e.kind 2 with
 | true=>exact A9 h2 (by rw [c1,c2])
 | false =>
 cases c3:ieq e.kind 3 with
 | true=>exact A9 h3 (by rw [c1,c2,c3])
 | false =>
 cases c4:ieq e.kind 4 with
 | true=>exact A9 h4 (by rw [c1,c2,c3,c4])
 | false =>
 cases c5:ieq e.kind 5 with
 | true=>exact A9 h5 (by rw [c1,c2,c3,c4,c5])
 | false=>exact A9 h6 (by rw [c1,c2,c3,c4,c5])
theorem p77:As Tryz.prog Gl 94 (ap1 gI λa=>out (bV (Bi a))):=by
 refine As.congr (AO Az mixed Tryz.func94 (by kernel_rfl) (by kernel_rfl) (Γ:=cx6) (Bm tb6_ok _)) λvs r h=>?_;obtain ⟨a,rfl,h⟩:=Rb Mg h;rw [Aa h];exact AgH a
theorem p79:As Tryz.prog Gl 76 (ap1 gI λa=>out (bV (Bi a))):=by
 refine As.congr (AO Az mixed Tryz.func76 (by kernel_rfl) (by kernel_rfl) (Γ:=cx6) (Bm tb6_ok _)) λvs r h=>?_;obtain ⟨a,rfl,h⟩:=Rb Mg h;rw [Aa h];exact AgG a
theorem p78:As Tryz.prog Gl 95 (ap2 gI gI λa n=>out (bV (IC a n))):=by
 refine As.congr (AO Az mixed Tryz.func95 (by kernel_rfl) (by kernel_rfl) (Γ:=cx6) (Bm tb6_ok _)) λvs r h=>?_;obtain ⟨a,n,rfl,h⟩:=He Mg Mg h;rw [Aa h];exact AgD a n
theorem p80:As Tryz.prog Gl 77 (ap2 gI toE λa e=>out (bV (VQ a e))):=by
 refine As.congr (AO Az mixed Tryz.func77 (by kernel_rfl) (by kernel_rfl) (Γ:=cx6) (Bm tb6_ok _)) λvs r h=>?_;obtain ⟨a,e,rfl,h⟩:=He Mg WN h;rw [Aa h];exact An8 a e
theorem AaQ (k:Nat) (hk:k<112) (a:Int) (ha:Bi a=true):VQ a (BC k)=IC a (Int.ofNat k):=by
 have h1:(List.range 112).map (λk:Nat=>VQ 1 (BC k))=(List.range 112).map λk:Nat=>IC 1 (Int.ofNat k):=by kernel_rfl
 have h2:(List.range 112).map (λk:Nat=>VQ 2 (BC k))=(List.range 112).map λk:Nat=>IC 2 (Int.ofNat k):=by kernel_rfl
 simp only [Bi,bor,ieq,Bool.or_eq_true,beq_iff_eq] at ha;rcases ha with rfl | rfl
 ·exact GH h1 k hk
 ·exact GH h2 k hk
noncomputable def tb8:AH:=(94,ap1 gI λa=>out (bV (Bi a)))::(76,ap1 gI λa=>out (bV (Bi a)))::(95,ap2 gI gI λa n=>out (bV (IC a n)))::(77,ap2 gI toE λa e=>out (bV (VQ a e)))::tb7
theorem Po:Ao Tryz.prog Gl tb8:=.cons p77 <| .cons p79 <| .cons p78 <| .cons p80 AiZ
noncomputable def cx8:Cx:=BP Gl tb8 [(0,⟨[],2,[],2,113⟩)]
def ID (a:Int) (e:E6):Bool:=sel (AL (Bi a)) false (sel (AL (ieq (AB e) 0)) false (IC a (Al e)))
def Hj (a:Int) (e:E6):Int:=sel (AL (Bi a)) 1 (AB e)
def RE (a:Int) (e:E6):V:=.tup [bV (ID a e),iV (Hj a e)]
theorem AgF (a:Int) (e:E6):(AK (Ar tab cx8 Tryz.f66 [iV a,eV e] [])).sem=some (RE a e,[]):=by
 have h1:(AK (Ar tab cx8 Tryz.f66 [iV a,eV e] [])).path [true]=some ([AL (Bi a)],(.tup [bV false,iV 1],[])):=by kernel_rfl
 have h2:(AK (Ar tab cx8 Tryz.f66 [iV a,eV e] [])).path [false,true]=some ([AL (Bi a),AL (ieq (AB e) 0)],(.tup [bV false,iV (AB e)],[])):=by kernel_rfl
 have h3:(AK (Ar tab cx8 Tryz.f66 [iV a,eV e] [])).path [false,false]=some ([AL (Bi a),AL (ieq (AB e) 0)],(.tup [bV (IC a (Al e)),iV 0],[])):=by kernel_rfl
 unfold RE ID Hj;cases c1:AL (Bi a) with
 | true=>exact A9 h1 (by rw [c1])
 | false =>
 cases c2:AL (ieq (AB e) 0) with
 | true=>exact A9 h2 (by rw [c1,c2])
 | false =>
  have:AB e=0:=by simpa [AL,ieq] using c2
  rw [this];exact A9 h3 (by rw [c1,c2])
theorem BK (e:E6):(∃ k:Nat,k<112∧AB e=0∧Al e=Int.ofNat k∧BC k=e∧Vx e=S6 k) ∨ (AB e=30∧Al e=0∧Vx e=[]∧∀ k,k<112->BC k ≠ e):=by
 unfold AB Al Vx;cases h:Ic e 112 0 with
 | some k =>obtain ⟨_,h2,h3⟩:=KX e 112 0 k h;exact .inl ⟨k,by omega,rfl,rfl,h3,rfl⟩
 | none =>
  refine .inr ⟨rfl,rfl,rfl,?_⟩;have:∀ m k,Ic e m k=none->∀ j,k <= j->j<k+m->BC j ≠ e:=by
   intro m
   induction m with
   | zero=>intro k _ j h1 h2; omega
   | succ m ih =>
    intro k hn j h1 h2;simp only [Ic] at hn;split at hn
    ·cases hn
    ·rename_i hne
     by_cases hj:j=k
     ·subst hj
      intro he;rw [(Dd _ _).2 he] at hne;cases hne
     ·exact ih _ hn j (by omega) (by omega)
  exact λk hk=>this 112 0 h k (by omega) (by omega)
theorem AgE (a:Int) (e:E6):(AK (Ar tab cx8 Tryz.f46 [iV a,eV e] [])).sem=some (RE a e,[]):=by
 have h1:(AK (Ar tab cx8 Tryz.f46 [iV a,eV e] [])).path [true]=some ([AL (Bi a)],(.tup [bV false,iV 1],[])):=by kernel_rfl
 have h2:(AK (Ar tab cx8 Tryz.f46 [iV a,eV e] [])).path [false,true]=some ([AL (Bi a),AL (ieq (AB e) 0)],(.tup [bV false,iV 30],[])):=by kernel_rfl
 have h3:(AK (Ar tab cx8 Tryz.f46 [iV a,eV e] [])).path [false,false]=some ([AL (Bi a),AL (ieq (AB e) 0)],(.tup [bV (VQ a e),iV 0],[])):=by kernel_rfl
 unfold RE ID Hj;cases c1:AL (Bi a) with
 | true=>exact A9 h1 (by rw [c1])
 | false =>
 rcases BK e with ⟨k,hk,hf,hn,he,_⟩ | ⟨hf,_⟩
 ·have c2:AL (ieq (AB e) 0)=false:=by rw [hf]; rfl
  have ha:Bi a=true:=by simpa [AL] using c1
  rw [c2,hf,hn,<- AaQ k hk a ha,he];exact A9 h3 (by rw [c1,c2])
 ·have c2:AL (ieq (AB e) 0)=true:=by rw [hf]; rfl
  rw [c2,hf];exact A9 h2 (by rw [c1,c2])
theorem p32:As Tryz.prog Gl 66 (ap2 gI toE λa e=>out (RE a e)):=by
 refine As.congr (AO Az mixed Tryz.func66 (by kernel_rfl) (by kernel_rfl) (Γ:=cx8) (Bm Po _)) λvs r h=>?_;obtain ⟨a,e,rfl,h⟩:=He Mg WN h;rw [Aa h];exact AgF a e
theorem p33:As Tryz.prog Gl 46 (ap2 gI toE λa e=>out (RE a e)):=by
 refine As.congr (AO Az mixed Tryz.func46 (by kernel_rfl) (by kernel_rfl) (Γ:=cx8) (Bm Po _)) λvs r h=>?_;obtain ⟨a,e,rfl,h⟩:=He Mg WN h;rw [Aa h];exact AgE a e
end Go.Proofs.YtkbgidbledjejaaGreat.Ed
namespace Go.Proofs.YtkbgidbledjejaaGreat.Ed
open Go.Sy
open Int (ofNat)
def okE (v:V):Bool:=match toE v with
 | some _=>true
 | none=>false
def edE (v:V):E6:=match toE v with
 | some e=>e
 | none=>Bv
def CQ (n:Nat) (p:Nat->Bool):Bool:=(List.range n).all p
theorem Bd {n:Nat} {p:Nat->Bool}:CQ n p=true↔∀ i,i<n->p i=true:=by simp [CQ]
theorem Ahu (n:Nat) (f:Nat->E6):CQ n (λi=>okE (eV (f i)))=true:=Bd.2 λ_ _=>rfl
theorem Di {v:V} (h:okE v=true):v=eV (edE v):=by
 unfold okE at h;unfold edE;split at h
 ·rename_i e he
  exact Pm he
 ·cases h
def gSl:V->Option (Nat×(Nat->V))
 | .sl s n g=>match Nat.beq s 6 with
  | true=>some (n,g)
  | false=>match n with
   | 0=>some (0,g)
   | _=>none
 | .slr s n _ g=>match Nat.beq s 6 with
  | true=>some (n,g)
  | false=>none
 | _=>none
def apL {α:Type} (v:V) (F:Nat->(Nat->E6)->T α):T α :=
 match gSl v with
 | some (n,g)=>.br (CQ n λi=>okE (g i)) (F n λi=>edE (g i)) .fail
 | none=>.fail
def Am (n:Nat) (f:Nat->E6):V:=.sl 6 n λi=>eV (f i)
theorem AQ {α:Type} {v:V} {F:Nat->(Nat->E6)->T α} {r:α} (h:(apL v F).sem=some r) :
  ∃ n f,(∀ (S:Nat->Prop) (w:World) (c:Value),VR S w v noK c->VR S w (Am n f) noK c)∧(F n f).sem=some r:=by
 unfold apL at h;split at h
 ·rename_i n g hg
  obtain ⟨h1,h2⟩:=Ab h;have h1:=Bd.1 h1;refine ⟨n,_,λS w c hv=>?_,h2⟩;unfold gSl at hg;split at hg
  ·rename_i s n' g'
   split at hg
   ·rename_i hs
    simp only [Option.some.injEq,Prod.mk.injEq] at hg;obtain ⟨rfl,rfl⟩:=hg;have hs:s=6:=Nat.eq_of_beq_eq_true hs;subst hs;obtain ⟨a,cap,e,hc,hb⟩:=hv;refine ⟨a,cap,e,hc,hb.imp id ?_⟩
    rintro ⟨b,o,ea,hel⟩
    refine ⟨b,o,ea,λi hi=>?_⟩;have:=hel i hi;rw [Di (h1 i hi)] at this;exact this
   ·split at hg
    ·simp only [Option.some.injEq,Prod.mk.injEq] at hg
     obtain ⟨rfl,rfl⟩:=hg;obtain ⟨a,cap,e,hc,_⟩:=hv;exact ⟨a,cap,e,hc,.inl rfl⟩
    ·cases hg
  ·rename_i s n' m' g'
   split at hg
   ·rename_i hs
    simp only [Option.some.injEq,Prod.mk.injEq] at hg;obtain ⟨rfl,rfl⟩:=hg;have hs:s=6:=Nat.eq_of_beq_eq_true hs;subst hs;obtain ⟨a,cap,e,hc,hm,hb⟩:=hv;refine ⟨a,cap,e,Nat.le_trans hc hm,?_⟩;rcases hb with h0 | ⟨b,o,ea,hel⟩
    ·exact .inl (by omega)
    ·refine .inr ⟨b,o,ea,λi hi=>?_⟩
     have:=hel i (by omega);rw [Di (h1 i hi)] at this;exact this
   ·cases hg
  ·cases hg
 ·cases h
def NI (F:Nat->(Nat->E6)->A2):List V->A2
 | [v]=>apL v F
 | _=>.fail
def Ahp (F:Nat->(Nat->E6)->Nat->(Nat->E6)->A2):List V->A2
 | [v,u]=>apL v λn f=>apL u λm g=>F n f m g
 | _=>.fail
theorem CH {F:Nat->(Nat->E6)->A2} {vs:List V} {r:V×List Blk} (h:(NI F vs).sem=some r):∃ n f,B0 vs [Am n f]∧(F n f).sem=some r:=by
 unfold NI at h;split at h
 ·obtain ⟨n,f,h1,h2⟩:=AQ h
  refine ⟨n,f,λS w cs hv=>?_,h2⟩;obtain ⟨c,l,rfl,q1,q2⟩:=hv;exact ⟨c,l,rfl,h1 S w c q1,q2⟩
 ·cases h
theorem NH {F:Nat->(Nat->E6)->Nat->(Nat->E6)->A2} {vs:List V} {r:V×List Blk} (h:(Ahp F vs).sem=some r) :
  ∃ n f m g,B0 vs [Am n f,Am m g]∧(F n f m g).sem=some r:=by
 unfold Ahp at h;split at h
 ·obtain ⟨n,f,h1,h2⟩:=AQ h
  obtain ⟨m,g,h3,h4⟩:=AQ h2;refine ⟨n,f,m,g,λS w cs hv=>?_,h4⟩;obtain ⟨c,l,rfl,q1,c',l',rfl,q2,q3⟩:=hv;exact ⟨c,_,rfl,h1 S w c q1,c',l',rfl,h3 S w c' q2,q3⟩
 ·cases h
theorem AY {i n:Nat} (h:i<n) (hn:n <= 4611686018427387904):wr .i64 (Aj (ofNat i) 1)=ofNat (i+1):=by
 unfold wr Aj IntKind.wrap;simp [IntKind.bits,IntKind.signed];omega
theorem ofNat_lt {i n:Nat} (h:i<n):ilt (ofNat i) (ofNat n)=true:=by simp [ilt]; omega
theorem A4 {i n:Nat} (h:n <= i):ilt (ofNat i) (ofNat n)=false:=by simp [ilt]; omega
theorem Af {i n:Nat} (h:i<n):Av (ile 0 (ofNat i)) (ilt (ofNat i) (ofNat n))=true:=by rw [ofNat_lt h]; simp [Av,ile]
noncomputable def cx9 (l:List (Nat×Lp)):Cx:=BP Gl tb8 l
def Qd (n:Nat):Lp:=⟨bmK 26 0 [0,1,4,5],0,bmK 26 0 [0,1,4],0,n+1⟩
def Rz (n m:Nat) (i:Int) (f g:Nat->E6) (j:Nat->V):St:=⟨jsV 26 0 j [(0,.sl 6 n λi=>eV (f i)),(1,.sl 6 m λi=>eV (g i)),(4,bV false),(5,iV i)],[]⟩
def Wr (n m:Nat) (f g:Nat->E6):St:=⟨jsV 26 0 Ac [(0,.sl 6 n λi=>eV (f i)),(1,.sl 6 m λi=>eV (g i)),(4,bV false)],[]⟩
noncomputable def IV (L:LT):St->T (Ex×St):=λst=>A8 tab ⟨A6 tb8,L,Gl⟩ (A0 Tryz.f21 0) 0 st
section
variable (L:LT) (n m i:Nat) (f g:Nat->E6) (j:Nat->V)
include L n m i f g j
theorem Acw:((IV L (Rz n m (ofNat i) f g j)).bind λr=>T.leaf (r.1,FK [true,true,false,false,true,false,false,false,false,false,false,false,false,false,false,false,false,false,false,false,false,false,false,false,false,false] 0 r.2)).path [false]=some ([ilt (ofNat i) (ofNat n)],(.ex 0,Wr n m f g)):=by kernel_rfl
theorem Acv:((IV L (Rz n m (ofNat i) f g j)).bind λr=>T.leaf (r.1,FK [true,true,false,false,true,false,false,false,false,false,false,false,false,false,false,false,false,false,false,false,false,false,false,false,false,false] 0 r.2)).path [true,true,true,true] =
  some ([ilt (ofNat i) (ofNat n),Av (ile 0 (ofNat i)) (ilt (ofNat i) (ofNat n)),Av (ile 0 (ofNat i)) (ilt (ofNat i) (ofNat m)),AL (eqE (f i) (g i))],(.rt,Wr n m f g)):=by kernel_rfl
theorem Aao:((IV L (Rz n m (ofNat i) f g j)).bind λr=>T.leaf (r.1,FK [true,true,false,false,true,true,false,false,false,false,false,false,false,false,false,false,false,false,false,false,false,false,false,false,false,false] 0 r.2)).path [true,true,true,false] =
  some ([ilt (ofNat i) (ofNat n),Av (ile 0 (ofNat i)) (ilt (ofNat i) (ofNat n)),Av (ile 0 (ofNat i)) (ilt (ofNat i) (ofNat m)),AL (eqE (f i) (g i))],
   (.nm,Rz n m (wr .i64 (Aj (ofNat i) 1)) f g λ_=>.und)):=by kernel_rfl
end
def FI (f g:Nat->E6):Nat->Nat->Bool
 | 0,_=>true
 | d+1,i=>match eqE (f i) (g i) with
  | true=>FI f g d (i+1)
  | false=>false
theorem Va (L:LT) (n m:Nat) (f g:Nat->E6) (hm:n=m) (hn:n <= 4611686018427387904):∀ (d i:Nat) (j:Nat->V) (q:Nat),n=i+d->d<q ->
  (Ax (IV L) (Qd n) q (Rz n m (ofNat i) f g j)).sem=some (match FI f g d i with | true=>.ex 0 | false=>.rt,Wr n m f g)
 | 0,i,j,q+1,h1,_=>by
  have h3:(Ax (IV L) (Qd n) (q+1) (Rz n m (ofNat i) f g j)).sem=some (.ex 0,Wr n m f g):=VG (Acw L n m i f g j) (by rw [A4 (by omega)]) (λh=>by cases h);exact h3
 | d+1,i,j,q+1,h1,h2=>by
  have hi:i<n:=by omega
  have hi':i<m:=by omega
  unfold FI;cases hc:eqE (f i) (g i) with
  | true =>
   have h3:(Ax (IV L) (Qd n) (q+1) (Rz n m (ofNat i) f g j)).sem=(Ax (IV L) (Qd n) q (Rz n m (wr .i64 (Aj (ofNat i) 1)) f g λ_=>.und)).sem :=
    AaO (Aao L n m i f g j) (by rw [Af hi,Af hi',ofNat_lt hi,hc]; rfl)
   rw [h3,AY hi hn];exact Va L n m f g hm hn d (i+1) Ac q (by omega) (by omega)
  | false =>have h3:(Ax (IV L) (Qd n) (q+1) (Rz n m (ofNat i) f g j)).sem=some (.rt,Wr n m f g):=VG (Acv L n m i f g j) (by rw [Af hi,Af hi',ofNat_lt hi,hc]; rfl) (λh=>by cases h);exact h3
def EB (n:Nat) (f:Nat->E6) (m:Nat) (g:Nat->E6):Bool:=sel (ieq (ofNat n) (ofNat m)) (FI f g n 0) false
def An5 (n m:Nat) (f g:Nat->E6):Nat->V:=lkV A5 [(6,Am n f),(7,nV n),(8,Am m g),(9,nV m),(10,bV (AL (ieq (ofNat n) (ofNat m))))]
theorem Acx (n m:Nat) (f g:Nat->E6) (L:LT):AK (Ar tab ⟨A6 tb8,L,Gl⟩ Tryz.f21 [Am n f,Am m g] []) =
  AK (Ar tab ⟨A6 tb8,λ_ _ _=>L 0 (IV L) (Rz n m 0 f g (An5 n m f g)),Gl⟩ Tryz.f21 [Am n f,Am m g] []):=by kernel_rfl
theorem Ago (n m:Nat) (f g:Nat->E6) (L:LT):(AK (Ar tab ⟨A6 tb8,L,Gl⟩ Tryz.f21 [Am n f,Am m g] [])).path [true] =
  some ([AL (ieq (ofNat n) (ofNat m))],(bV false,[])):=by kernel_rfl
theorem Agp (n m:Nat) (f g:Nat->E6):(AK (Ar tab ⟨A6 tb8,λ_ _ _=>.leaf (.ex 0,Wr n m f g),Gl⟩ Tryz.f21 [Am n f,Am m g] [])).path [false] =
  some ([AL (ieq (ofNat n) (ofNat m))],(bV true,[])):=by kernel_rfl
theorem Agn (n m:Nat) (f g:Nat->E6):(AK (Ar tab ⟨A6 tb8,λ_ _ _=>.leaf (.rt,Wr n m f g),Gl⟩ Tryz.f21 [Am n f,Am m g] [])).path [false] =
  some ([AL (ieq (ofNat n) (ofNat m))],(bV false,[])):=by kernel_rfl
theorem Ajt (n m:Nat) (f g:Nat->E6) (hn:n <= 4611686018427387904):(AK (Ar tab (cx9 [(0,Qd n)]) Tryz.f21 [Am n f,Am m g] [])).sem=some (bV (EB n f m g),[]):=by
 unfold EB;cases hc:ieq (ofNat n) (ofNat m) with
 | false=>exact A9 (Ago n m f g _) (by rw [hc]; rfl)
 | true =>
  have h0:ofNat n=ofNat m:=by simpa only [ieq,beq_iff_eq] using hc
  have hm:n=m:=Int.ofNat.inj h0;have h1:=Va (B9 [(0,Qd n)]) n m f g hm hn n 0 (An5 n m f g) (n+1) (by omega) (by omega);have h2:=Acx n m f g (B9 [(0,Qd n)]);have h3:(AK (Ar tab (cx9 [(0,Qd n)]) Tryz.f21 [Am n f,Am m g] [])).sem=(AK (Ar tab ⟨A6 tb8,λ_ _ _=>.leaf (match FI f g n 0 with | true=>.ex 0 | false=>.rt,Wr n m f g),Gl⟩ Tryz.f21 [Am n f,Am m g] [])).sem:=by
   refine (congrArg T.sem h2).trans (Pl λid _ _ _ _=>?_);exact h1
  rw [h3];cases FI f g n 0 with
  | true=>exact A9 (Agp n m f g) (by rw [hc]; rfl)
  | false=>exact A9 (Agn n m f g) (by rw [hc]; rfl)
def Cr (n:Nat):Bool:=decide (n <= 4611686018427387904)
def P3:List V->A2:=Ahp λn f m g=>.br (Cr n) (out (bV (EB n f m g))) .fail
end Go.Proofs.YtkbgidbledjejaaGreat.Ed
namespace Go.Sy
def Aod (l:Lp) (r:Ex×St):Ex×St :=
 match r.1 with
 | .nm=>(.nm,FK l.ks l.n r.2)
 | .ex i=>(.ex i,FK l.ke l.ne r.2)
 | .rt=>(.rt,FK l.ke l.ne r.2)
def Ap (f:St->T (Ex×St)) (l:Lp) (st:St):Option (Ex×St):=((f st).bind λr=>T.leaf (Aod l r)).sem
def AdZ (f:St->T (Ex×St)) (l:Lp) (m:Nat):Option (Ex×St)->Option (Ex×St)
 | some (.nm,st)=>(Ax f l m st).sem
 | some (e,st)=>some (e,st)
 | none=>none
theorem Ae {f:St->T (Ex×St)} {l:Lp} {m:Nat} {st:St} {t:Option (Ex×St)} (h:Ap f l st=t):(Ax f l (m+1) st).sem=AdZ f l m t:=by
 subst h;show ((f st).bind _).sem=_;unfold Ap;rw [CJ,CJ];cases (f st).sem with
 | none=>rfl
 | some r =>obtain ⟨e,s⟩:=r;cases e <;> rfl
theorem AN {f:St->T (Ex×St)} {l:Lp} {m:Nat} {st:St}:AdZ f l m (some (.nm,st))=(Ax f l m st).sem:=rfl
theorem Un {f:St->T (Ex×St)} {l:Lp} {m:Nat} {st:St}:AdZ f l m (some (.rt,st))=some (.rt,st):=rfl
theorem GM {α:Type} (x y:α):sel true x y=x:=rfl
theorem JQ {α:Type} (x y:α):sel false x y=y:=rfl
def TLe {α:Type} (t t':T α):Prop:=∀ r,t.sem=some r->t'.sem=some r
theorem TLe.refl {α:Type} (t:T α):TLe t t:=λ_ h=>h
theorem TLe.bind {α β:Type} {t t':T α} {f f':α->T β} (h:TLe t t') (hf:∀ a,TLe (f a) (f' a)):TLe (t.bind f) (t'.bind f'):=λr hr=>by
 obtain ⟨a,h1,h2⟩:=Ad hr;rw [CJ,h a h1];exact hf a r h2
def LLe (M L:Nat->(St->T (Ex×St))->St->T (Ex×St)):Prop:=∀ id f f' st,(∀ st,TLe (f st) (f' st))->TLe (M id f st) (L id f' st)
theorem VH {f f':St->T (Ex×St)} (h:∀ st,TLe (f st) (f' st)) (l:Lp):∀ (m:Nat) (st:St),TLe (Ax f l m st) (Ax f' l m st)
 | 0,_=>TLe.refl _
 | m+1,st=>by
  refine TLe.bind (h st) λr=>?_;cases r.1 with
  | nm=>exact VH h l m _
  | ex i=>exact TLe.refl _
  | rt=>exact TLe.refl _
theorem AW (ls:List (Nat×Lp)):LLe (B9 ls) (B9 ls):=λid f f' st h=>by
 unfold B9;split
 ·exact VH h _ _ _
 ·exact TLe.refl _
def onP (k:Nat) (p:(St->T (Ex×St))->St->Bool) (r:Ex×St) (L:Nat->(St->T (Ex×St))->St->T (Ex×St)):Nat->(St->T (Ex×St))->St->T (Ex×St) :=
 λid f st=>match Nat.beq id k with
  | true=>.br (p f st) (.leaf r) .fail
  | false=>L id f st
noncomputable def isP (L:Nat->(St->T (Ex×St))->St->T (Ex×St)) (k:Nat) (r:Ex×St):(St->T (Ex×St))->St->Bool :=
 λf st=>@decide ((L k f st).sem=some r) (Classical.propDecidable _)
theorem AP {L:Nat->(St->T (Ex×St))->St->T (Ex×St)} {k:Nat} {r:Ex×St} {f:St->T (Ex×St)} {st:St} (h:(L k f st).sem=some r):isP L k r f st=true:=by
 unfold isP;exact @decide_eq_true _ (Classical.propDecidable _) h
theorem Bn {M L:Nat->(St->T (Ex×St))->St->T (Ex×St)} {k:Nat} {r:Ex×St} (hM:LLe M L) (hL:LLe L L):LLe (onP k (isP L k r) r M) L:=λid f f' st hf r' hr=>by
 unfold onP at hr;cases hk:Nat.beq id k with
 | true =>rw [hk] at hr;obtain ⟨h1,h2⟩:=Ab hr;rw [Aa h2];unfold isP at h1;have h1:=@of_decide_eq_true _ (Classical.propDecidable _) h1;rw [Nat.eq_of_beq_eq_true hk];exact hL k f f' st hf _ h1
 | false =>rw [hk] at hr;exact hM id f f' st hf _ hr
theorem Mq {τ:List Ty} {Γ:Cx} {L L':Nat->(St->T (Ex×St))->St->T (Ex×St)} (h:LLe L L') :
  ∀ (c:Code) (id:Nat) (st:St),TLe (A8 τ { Γ with loop:=L } c id st) (A8 τ { Γ with loop:=L' } c id st):=by
 intro c
 induction c with
 | skip=>intro id st; exact TLe.refl _
 | region i ops draw=>intro id st; exact TLe.refl _
 | seq a b iha ihb =>
  intro id st;refine TLe.bind (iha id st) λr=>?_;cases r.1 with
  | nm=>exact ihb id r.2
  | ex j=>exact TLe.refl _
  | rt=>exact TLe.refl _
 | cond x a b iha ihb =>
  intro id st;show TLe (match ev ⟨Γ.call,Γ.glob⟩ st x with | .val (.bool q)=>T.br q (A8 τ { Γ with loop:=L } a id st) (A8 τ { Γ with loop:=L } b id st) | _=>.fail) (match ev ⟨Γ.call,Γ.glob⟩ st x with | .val (.bool q)=>T.br q (A8 τ { Γ with loop:=L' } a id st) (A8 τ { Γ with loop:=L' } b id st) | _=>.fail)
  split
  ·rename_i q _
   cases q with
   | true=>exact iha id st
   | false=>exact ihb id st
  ·exact TLe.refl _
 | block i c ih =>
  intro id st;refine TLe.bind (ih i st) λr=>?_;cases r.1 with
  | nm=>exact TLe.refl _
  | ex j=>exact TLe.refl _
  | rt=>exact TLe.refl _
 | loop c ih =>intro id st;exact h id _ _ st (ih id)
 | exit i=>intro id st; exact TLe.refl _
 | ret=>intro id st; exact TLe.refl _
 | _=>intro id st; exact TLe.refl _
theorem Bp {τ:List Ty} {call:FuncId->List V->St->T (V×Res)} {G:Nat->V} {fn:Func} {vs:List V} {L L':Nat->(St->T (Ex×St))->St->T (Ex×St)}
  (h:LLe L L'):TLe (AK (Ar τ ⟨call,L,G⟩ fn vs [])) (AK (Ar τ ⟨call,L',G⟩ fn vs [])):=by
 refine TLe.bind ?_ λ_=>TLe.refl _;unfold Ar;cases fn.body with
 | none=>exact TLe.refl _
 | some c=>exact TLe.bind (Mq (Γ:=⟨call,L,G⟩) h c 0 _) λ_=>TLe.refl _
theorem Sg {f f':St->T (Ex×St)} {l:Lp} {st:St} {r:Ex×St} (h:TLe (f st) (f' st)) (hr:Ap f l st=some r):Ap f' l st=some r:=TLe.bind h (λ_=>TLe.refl _) r hr
def AnI (v:V):Blk->Blk
 | .row e s 0 _=>.row e s 0 λ_=>v
 | .jag j=>.jag { j with mem:=λi k=>Ry (RA k (j.len i)) (j.mem i k) v }
 | b=>b
def Aiz (h:List Blk) (id:Nat) (v:V):List Blk :=
 match h[id]? with
 | some b=>h.set id (AnI v b)
 | none=>h
def Mm (st:St):List (Nat×V)->St
 | []=>st
 | (id,v)::l=>Mm ⟨st.t,Aiz st.h id v⟩ l
theorem ZR {Γ:Cx0}:∀ (l:List (Nat×V)) (st:St),LE Γ st (Mm st l)
 | [],st=>LE.refl st
 | (id,v)::l,st=>by
   refine LE.trans ?_ (ZR l _);unfold Aiz;cases hb:st.h[id]? with
   | none=>exact LE.refl st
   | some b =>
    have same:st.h.set id b=st.h:=by
     have hl:=(List.getElem?_eq_some_iff.1 hb).1;have:=(List.getElem?_eq_some_iff.1 hb).2;rw [<- this,List.set_getElem_self]
    cases b with
    | row e s n g =>
     cases n with
     | zero=>exact Afd hb λj hj=>by omega
     | succ n =>show LE Γ st ⟨st.t,st.h.set id (.row e s (n+1) g)⟩;rw [same];exact LE.refl st
    | cells cs =>show LE Γ st ⟨st.t,st.h.set id (.cells cs)⟩;rw [same];exact LE.refl st
    | imap t n get =>show LE Γ st ⟨st.t,st.h.set id (.imap t n get)⟩;rw [same];exact LE.refl st
    | gmap t ks hs get =>show LE Γ st ⟨st.t,st.h.set id (.gmap t ks hs get)⟩;rw [same];exact LE.refl st
    | xrow lk e s n g =>show LE Γ st ⟨st.t,st.h.set id (.xrow lk e s n g)⟩;rw [same];exact LE.refl st
    | jag j =>
     refine Afe hb (λ_ _=>rfl) (λ_ _=>rfl) (λ_ _=>rfl) λk _ q hq=>?_;have:RA q (j.len k)=true:=by
      unfold RA;simpa using hq
     rw [this,Et];rfl
    | saved vs =>show LE Γ st ⟨st.t,st.h.set id (.saved vs)⟩;rw [same];exact LE.refl st
    | rng cd ts q =>show LE Γ st ⟨st.t,st.h.set id (.rng cd ts q)⟩;rw [same];exact LE.refl st
    | dead =>show LE Γ st ⟨st.t,st.h.set id .dead⟩;rw [same];exact LE.refl st
def IB (zs:List (Nat×List (Nat×V))) (Dp:List (Nat×Lp)) (id:Nat) (f:St->T (Ex×St)) (st:St):T (Ex×St) :=
 match Jb id zs with
 | some l=>B9 Dp id f (Mm st l)
 | none=>B9 Dp id f st
theorem Nr (zs:List (Nat×List (Nat×V))) (ls:List (Nat×Lp)):LLe (IB zs ls) (IB zs ls):=λid f f' st h=>by
 unfold IB;split
 ·exact AW ls id f f' _ h
 ·exact AW ls id f f' _ h
def cxZ (G:Nat->V) (tbl:AH) (zs:List (Nat×List (Nat×V))) (Dp:List (Nat×Lp)):Cx:=⟨A6 tbl,IB zs Dp,G⟩
theorem Ye {P:Program} {G:Nat->V} {tbl:AH} (h:Ao P G tbl) (zs:List (Nat×List (Nat×V))) (Dp:List (Nat×Lp)):Bb P (cxZ G tbl zs Dp).base∧Cb (cxZ G tbl zs Dp):=by
 refine ⟨Ep rfl h,λid f st r hr=>?_⟩;have hr:(IB zs Dp id f st).sem=some r:=hr;have by':∀ st,(B9 Dp id f st).sem=some r->LRun (cxZ G tbl zs Dp).base f st r:=λst hr=>by
  unfold B9 at hr;split at hr
  ·exact GA hr
  ·cases hr
 unfold IB at hr;split at hr
 ·exact .run (.weak (ZR _ _) (by' _ hr))
 ·exact .run (by' _ hr)
end Go.Sy
