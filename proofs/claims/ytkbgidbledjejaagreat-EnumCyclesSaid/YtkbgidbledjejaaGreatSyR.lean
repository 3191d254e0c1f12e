/-
  Layer 3: texts, architectures, what must come. No conditions.
-/
import Derived.Test.YtkbgidbledjejaaGreatEdC
import Derived.Test.YtkbgidbledjejaaGreatSyS
namespace Go.Proofs.YtkbgidbledjejaaGreat.Ed
open Go.Sy
noncomputable def tb5:AG:=(114,Cm YT)::tb3
theorem AbX:Al Tryz.prog Gl tb5:=.cons p27<|tb3_ok
noncomputable def cx5:Cx:=B7 Gl tb5 [(0,⟨[],1,[],1,113⟩)]
def SH (s:List UInt8):Nat->Nat->Option Nat
 | 0,_=>none
 | m+1,k=>match seq (Sv k) s with
  | true=>some k
  | false=>SH s m (Nat.succ k)
def Gk (s:List UInt8):E6:=match SH s 112 0 with
 | some k=>B8 k
 | none=>Ca
def Gj (s:List UInt8):Int:=match SH s 112 0 with
 | some _=>0
 | none=>30
def PK (s:List UInt8):Nat->Nat->Option (V×List Blk)
 | 0,_=>some (.tup [eV Ca,iV 30],[])
 | m+1,k=>sel (seq (Sv k) s) (some (.tup [eV (B8 k),iV 0],[])) (PK s m (Nat.succ k))
theorem Ss (s:List UInt8):∀ m k,PK s m k=match SH s m k with
  | some j=>some (.tup [eV (B8 j),iV 0],[])
  | none=>some (.tup [eV Ca,iV 30],[])
 | 0,k=>rfl
 | m+1,k=>by
  simp only [PK,SH];cases h:seq (Sv k) s with
  | true=>rfl
  | false=>exact Ss s m (Nat.succ k)
theorem Xz (s:List UInt8):PK s 112 0=some (.tup [eV (Gk s),iV (Gj s)],[]):=by
 rw [Ss];unfold Gk Gj;cases SH s 112 0 <;> rfl
theorem Agv (s:List UInt8):(AL (Ar tab cx5 Tryz.f103 [.str s] [])).sem=PK s 112 0:=by kernel_rfl
def RN (f:List UInt8->V):List V->A3
 | [v]=>match gS v with
  | some e=>.leaf (f e,[])
  | none=>.fail
 | _=>.fail
theorem WR {f:List UInt8->V} {vs:List V} {r:V×List Blk} (h:(RN f vs).sem=some r):∃ e,vs=[.str e]∧r=(f e,[]):=by
 unfold RN at h;split at h
 ·split at h
  ·rename_i v e hn
   exact ⟨e,by rw [AgV hn],Aa h⟩
  ·cases h
 ·cases h
def TG (s:List UInt8):V:=.tup [eV (Gk s),iV (Gj s)]
theorem p22:As Tryz.prog Gl 103 (RN TG):=by
 refine As.congr (AQ A2 mixed Tryz.func103 (by kernel_rfl) (by kernel_rfl) (Γ:=cx5) (Bi AbX _)) λvs r h=>?_;obtain ⟨e,rfl,rfl⟩:=WR h;exact (Agv e).trans (Xz e)
noncomputable def tb6:AG:=(103,RN TG)::tb5
theorem Po:Al Tryz.prog Gl tb6:=.cons p22 AbX
noncomputable def cx6:Cx:=B7 Gl tb6 []
noncomputable def tb7:AG:=tb6
theorem Ajd:Al Tryz.prog Gl tb7:=Po
theorem AdU (a:Int):ieq a a=true:=by simp [ieq]
end Go.Proofs.YtkbgidbledjejaaGreat.Ed
namespace Go.Proofs.YtkbgidbledjejaaGreat.Ed
open Go.Sy
def ap1 {α:Type} (d:V->Option α) (F:α->A3):List V->A3
 | [v]=>match d v with
  | some a=>F a
  | none=>.fail
 | _=>.fail
def ap2 {α β:Type} (d:V->Option α) (e:V->Option β) (F:α->β->A3):List V->A3
 | [v,u]=>match d v,e u with
  | some a,some b=>F a b
  | _,_=>.fail
 | _=>.fail
theorem MF {α:Type} {d:V->Option α} {c:α->V} (hd:∀ v a,d v=some a->v=c a) {F:α->A3} {vs:List V} {r:V×List Blk} (h:(ap1 d F vs).sem=some r) :
  ∃ a,vs=[c a]∧(F a).sem=some r:=by
 unfold ap1 at h;split at h
 ·split at h
  ·rename_i v _ a ha
   exact ⟨a,by rw [hd v a ha],h⟩
  ·cases h
 ·cases h
theorem Hh {α β:Type} {d:V->Option α} {e:V->Option β} {c:α->V} {c':β->V} (hd:∀ v a,d v=some a->v=c a) (he:∀ v b,e v=some b->v=c' b) {F:α->β->A3}
  {vs:List V} {r:V×List Blk} (h:(ap2 d e F vs).sem=some r):∃ a b,vs=[c a,c' b]∧(F a b).sem=some r:=by
 unfold ap2 at h;split at h
 ·split at h
  ·rename_i v u _ _ a b ha hb
   exact ⟨a,b,by rw [hd v a ha,he u b hb],h⟩
  ·cases h
 ·cases h
theorem K6:∀ v a,gI v=some a->v=iV a:=λ_ _ h=>Hw h
theorem WQ:∀ v a,toE v=some a->v=eV a:=λ_ _ h=>Pm h
def out (v:V):A3:=.leaf (v,[])
def Bm (a:Int):Bool:=bor (ieq a 1) (ieq a 2)
def H9 (a n:Int):Bool:=bor (ilt n 14) (Kv (ilt n 22) (ieq a 1))
def VU (a:Int) (e:E6):Bool :=
 bor (ieq e.kind 1) (bor (ieq e.kind 2) (bor (ieq e.kind 3) (bor (ieq e.kind 4) (sel (ieq e.kind 5) (Kv (ieq e.fence 1) (ieq a 1)) (ieq a 2)))))
theorem AgG (a:Int):(AL (Ar tab cx6 Tryz.f94 [iV a] [])).sem=some (bV (Bm a),[]):=by
 have h1:(AL (Ar tab cx6 Tryz.f94 [iV a] [])).path [true,true,true]=some ([ieq a 1,ieq a 1,ieq a 1],(bV true,[])):=by kernel_rfl
 have h2:(AL (Ar tab cx6 Tryz.f94 [iV a] [])).path [false,false,false]=some ([ieq a 1,ieq a 1,ieq a 1],(bV (ieq a 2),[])):=by kernel_rfl
 unfold Bm;cases h:ieq a 1 with
 | true=>exact A9 h1 (by rw [h])
 | false=>exact A9 h2 (by rw [h])
theorem AgF (a:Int):(AL (Ar tab cx6 Tryz.f76 [iV a] [])).sem=some (bV (Bm a),[]):=by
 have h1:(AL (Ar tab cx6 Tryz.f76 [iV a] [])).path [true,true,true]=some ([ieq a 1,ieq a 1,ieq a 1],(bV true,[])):=by kernel_rfl
 have h2:(AL (Ar tab cx6 Tryz.f76 [iV a] [])).path [false,false,false]=some ([ieq a 1,ieq a 1,ieq a 1],(bV (ieq a 2),[])):=by kernel_rfl
 unfold Bm;cases h:ieq a 1 with
 | true=>exact A9 h1 (by rw [h])
 | false=>exact A9 h2 (by rw [h])
theorem AgC (a n:Int):(AL (Ar tab cx6 Tryz.f95 [iV a,iV n] [])).sem=some (bV (H9 a n),[]):=by
 have h1:(AL (Ar tab cx6 Tryz.f95 [iV a,iV n] [])).path [true]=some ([ilt n 14],(bV true,[])):=by kernel_rfl
 have h2:(AL (Ar tab cx6 Tryz.f95 [iV a,iV n] [])).path [false]=some ([ilt n 14],(bV (Kv (ilt n 22) (ieq a 1)),[])):=by kernel_rfl
 unfold H9;cases h:ilt n 14 with
 | true=>exact A9 h1 (by rw [h])
 | false=>exact A9 h2 (by rw [h])
theorem An9 (a:Int) (e:E6):(AL (Ar tab cx6 Tryz.f77 [iV a,eV e] [])).sem=some (bV (VU a e),[]):=by
 have h1:(AL (Ar tab cx6 Tryz.f77 [iV a,eV e] [])).path [true,true]=some ([ieq e.kind 1,ieq e.kind 1],(bV true,[])):=by kernel_rfl
 have h2:(AL (Ar tab cx6 Tryz.f77 [iV a,eV e] [])).path [false,true,true]=some ([ieq e.kind 1,ieq e.kind 2,ieq e.kind 2],(bV true,[])):=by kernel_rfl
 have h3:(AL (Ar tab cx6 Tryz.f77 [iV a,eV e] [])).path [false,false,true,true]=some ([ieq e.kind 1,ieq e.kind 2,ieq e.kind 3,ieq e.kind 3],(bV true,[])):=by kernel_rfl
 have h4:(AL (Ar tab cx6 Tryz.f77 [iV a,eV e] [])).path [false,false,false,true]=some ([ieq e.kind 1,ieq e.kind 2,ieq e.kind 3,ieq e.kind 4],(bV true,[])):=by kernel_rfl
 have h5:(AL (Ar tab cx6 Tryz.f77 [iV a,eV e] [])).path [false,false,false,false,true]=some ([ieq e.kind 1,ieq e.kind 2,ieq e.kind 3,ieq e.kind 4,ieq e.kind 5],(bV (Kv (ieq e.fence 1) (ieq a 1)),[])):=by kernel_rfl
 have h6:(AL (Ar tab cx6 Tryz.f77 [iV a,eV e] [])).path [false,false,false,false,false]=some ([ieq e.kind 1,ieq e.kind 2,ieq e.kind 3,ieq e.kind 4,ieq e.kind 5],(bV (ieq a 2),[])):=by kernel_rfl
 unfold VU;cases c1:ieq e.kind 1 with
 | true=>exact A9 h1 (by rw [c1])
 | false =>
 cases c2:ieq e.kind 2 with
 | true=>exact A9 h2 (by rw [c1,c2])
 | false =>
 cases c3:ieq e.kind 3 with
 | true=>exact A9 h3 (by rw [c1,c2,c3])
 | false =>
 cases c4:ieq e.kind 4 with
 | true=>exact A9 h4 (by rw [c1,c2,c3,c4])
 | false =>
 cases c5:ieq e.kind 5 with
 | true=>exact A9 h5 (by rw [c1,c2,c3,c4,c5])
 | false=>exact A9 h6 (by rw [c1,c2,c3,c4,c5])
theorem p77:As Tryz.prog Gl 94 (ap1 gI λa=>out (bV (Bm a))):=by
 refine As.congr (AQ A2 mixed Tryz.func94 (by kernel_rfl) (by kernel_rfl) (Γ:=cx6) (Bi Po _)) λvs r h=>?_;obtain ⟨a,rfl,h⟩:=MF K6 h;rw [Aa h];exact AgG a
theorem p79:As Tryz.prog Gl 76 (ap1 gI λa=>out (bV (Bm a))):=by
 refine As.congr (AQ A2 mixed Tryz.func76 (by kernel_rfl) (by kernel_rfl) (Γ:=cx6) (Bi Po _)) λvs r h=>?_;obtain ⟨a,rfl,h⟩:=MF K6 h;rw [Aa h];exact AgF a
theorem p78:As Tryz.prog Gl 95 (ap2 gI gI λa n=>out (bV (H9 a n))):=by
 refine As.congr (AQ A2 mixed Tryz.func95 (by kernel_rfl) (by kernel_rfl) (Γ:=cx6) (Bi Po _)) λvs r h=>?_;obtain ⟨a,n,rfl,h⟩:=Hh K6 K6 h;rw [Aa h];exact AgC a n
theorem p80:As Tryz.prog Gl 77 (ap2 gI toE λa e=>out (bV (VU a e))):=by
 refine As.congr (AQ A2 mixed Tryz.func77 (by kernel_rfl) (by kernel_rfl) (Γ:=cx6) (Bi Po _)) λvs r h=>?_;obtain ⟨a,e,rfl,h⟩:=Hh K6 WQ h;rw [Aa h];exact An9 a e
theorem AaV (k:Nat) (hk:k<112) (a:Int) (ha:Bm a=true):VU a (B8 k)=H9 a (Int.ofNat k):=by
 have h1:(List.range 112).map (λk:Nat=>VU 1 (B8 k))=(List.range 112).map λk:Nat=>H9 1 (Int.ofNat k):=by kernel_rfl
 have h2:(List.range 112).map (λk:Nat=>VU 2 (B8 k))=(List.range 112).map λk:Nat=>H9 2 (Int.ofNat k):=by kernel_rfl
 simp only [Bm,bor,ieq,Bool.or_eq_true,beq_iff_eq] at ha;rcases ha with rfl | rfl
 ·exact GK h1 k hk
 ·exact GK h2 k hk
noncomputable def tb8:AG:=(94,ap1 gI λa=>out (bV (Bm a)))::(76,ap1 gI λa=>out (bV (Bm a)))::(95,ap2 gI gI λa n=>out (bV (H9 a n)))::(77,ap2 gI toE λa e=>out (bV (VU a e)))::tb7
theorem KD:Al Tryz.prog Gl tb8:=.cons p77 <| .cons p79 <| .cons p78 <| .cons p80 Ajd
noncomputable def cx8:Cx:=B7 Gl tb8 [(0,⟨[],2,[],2,113⟩)]
def IG (a:Int) (e:E6):Bool:=sel (AN (Bm a)) false (sel (AN (ieq (AE e) 0)) false (H9 a (Ao e)))
def Hm (a:Int) (e:E6):Int:=sel (AN (Bm a)) 1 (AE e)
def Ns (a:Int) (e:E6):V:=.tup [bV (IG a e),iV (Hm a e)]
theorem AgE (a:Int) (e:E6):(AL (Ar tab cx8 Tryz.f66 [iV a,eV e] [])).sem=some (Ns a e,[]):=by
 have h1:(AL (Ar tab cx8 Tryz.f66 [iV a,eV e] [])).path [true]=some ([AN (Bm a)],(.tup [bV false,iV 1],[])):=by kernel_rfl
 have h2:(AL (Ar tab cx8 Tryz.f66 [iV a,eV e] [])).path [false,true]=some ([AN (Bm a),AN (ieq (AE e) 0)],(.tup [bV false,iV (AE e)],[])):=by kernel_rfl
 have h3:(AL (Ar tab cx8 Tryz.f66 [iV a,eV e] [])).path [false,false]=some ([AN (Bm a),AN (ieq (AE e) 0)],(.tup [bV (H9 a (Ao e)),iV 0],[])):=by kernel_rfl
 unfold Ns IG Hm;cases c1:AN (Bm a) with
 | true=>exact A9 h1 (by rw [c1])
 | false =>
 cases c2:AN (ieq (AE e) 0) with
 | true=>exact A9 h2 (by rw [c1,c2])
 | false =>
  have:AE e=0:=by simpa [AN,ieq] using c2
  rw [this];exact A9 h3 (by rw [c1,c2])
theorem BW (e:E6):(∃ k:Nat,k<112∧AE e=0∧Ao e=Int.ofNat k∧B8 k=e∧V0 e=Sv k) ∨ (AE e=30∧Ao e=0∧V0 e=[]∧∀ k,k<112->B8 k ≠ e):=by
 unfold AE Ao V0;cases h:Ii e 112 0 with
 | some k =>obtain ⟨_,h2,h3⟩:=KY e 112 0 k h;exact .inl ⟨k,by omega,rfl,rfl,h3,rfl⟩
 | none =>
  refine .inr ⟨rfl,rfl,rfl,?_⟩;have:∀ m k,Ii e m k=none->∀ j,k <= j->j<k+m->B8 j ≠ e:=by
   intro m
   induction m with
   | zero=>intro k _ j h1 h2; omega
   | succ m ih =>
    intro k hn j h1 h2;simp only [Ii] at hn;split at hn
    ·cases hn
    ·rename_i hne
     by_cases hj:j=k
     ·subst hj
      intro he;rw [(Dw _ _).2 he] at hne;cases hne
     ·exact ih _ hn j (by omega) (by omega)
  exact λk hk=>this 112 0 h k (by omega) (by omega)
theorem AgD (a:Int) (e:E6):(AL (Ar tab cx8 Tryz.f46 [iV a,eV e] [])).sem=some (Ns a e,[]):=by
 have h1:(AL (Ar tab cx8 Tryz.f46 [iV a,eV e] [])).path [true]=some ([AN (Bm a)],(.tup [bV false,iV 1],[])):=by kernel_rfl
 have h2:(AL (Ar tab cx8 Tryz.f46 [iV a,eV e] [])).path [false,true]=some ([AN (Bm a),AN (ieq (AE e) 0)],(.tup [bV false,iV 30],[])):=by kernel_rfl
 have h3:(AL (Ar tab cx8 Tryz.f46 [iV a,eV e] [])).path [false,false]=some ([AN (Bm a),AN (ieq (AE e) 0)],(.tup [bV (VU a e),iV 0],[])):=by kernel_rfl
 unfold Ns IG Hm;cases c1:AN (Bm a) with
 | true=>exact A9 h1 (by rw [c1])
 | false =>
 rcases BW e with ⟨k,hk,hf,hn,he,_⟩ | ⟨hf,_⟩
 ·have c2:AN (ieq (AE e) 0)=false:=by rw [hf]; rfl
  have ha:Bm a=true:=by simpa [AN] using c1
  rw [c2,hf,hn,<- AaV k hk a ha,he];exact A9 h3 (by rw [c1,c2])
 ·have c2:AN (ieq (AE e) 0)=true:=by rw [hf]; rfl
  rw [c2,hf];exact A9 h2 (by rw [c1,c2])
theorem p32:As Tryz.prog Gl 66 (ap2 gI toE λa e=>out (Ns a e)):=by
 refine As.congr (AQ A2 mixed Tryz.func66 (by kernel_rfl) (by kernel_rfl) (Γ:=cx8) (Bi KD _)) λvs r h=>?_;obtain ⟨a,e,rfl,h⟩:=Hh K6 WQ h;rw [Aa h];exact AgE a e
theorem p33:As Tryz.prog Gl 46 (ap2 gI toE λa e=>out (Ns a e)):=by
 refine As.congr (AQ A2 mixed Tryz.func46 (by kernel_rfl) (by kernel_rfl) (Γ:=cx8) (Bi KD _)) λvs r h=>?_;obtain ⟨a,e,rfl,h⟩:=Hh K6 WQ h;rw [Aa h];exact AgD a e
def allL (a:Int):List E6:=((List.range 112).filter λk=>H9 a (Int.ofNat k)).map B8
def Ahv (a:Int) (i:Nat):E6:=(allL a).getD i Ca
def allT:List V->A3:=ap1 gI λa =>
 .br (ieq a 1) (.leaf (.tup [.ref 0,iV 0],[.row 46 6 22 λi=>eV (Ahv 1 i)])) <|
 .br (ieq a 2) (.leaf (.tup [.ref 0,iV 0],[.row 46 6 104 λi=>eV (Ahv 2 i)])) (.leaf (.tup [.ref 0,iV 1],[.row 46 6 0 λ_=>.und]))
end Go.Proofs.YtkbgidbledjejaaGreat.Ed
namespace Go.Proofs.YtkbgidbledjejaaGreat.Ed
open Go.Sy
open Int (ofNat)
def okE (v:V):Bool:=match toE v with
 | some _=>true
 | none=>false
def edE (v:V):E6:=match toE v with
 | some e=>e
 | none=>Ca
def Dl (n:Nat) (p:Nat->Bool):Bool:=(List.range n).all p
theorem AS {n:Nat} {p:Nat->Bool}:Dl n p=true↔∀ i,i<n->p i=true:=by simp [Dl]
theorem Ahu (n:Nat) (f:Nat->E6):Dl n (λi=>okE (eV (f i)))=true:=AS.2 λ_ _=>rfl
theorem CG {v:V} (h:okE v=true):v=eV (edE v):=by
 unfold okE at h;unfold edE;split at h
 ·rename_i e he
  exact Pm he
 ·cases h
def gSl:V->Option (Nat×(Nat->V))
 | .sl s n g=>match Nat.beq s 6 with
  | true=>some (n,g)
  | false=>match n with
   | 0=>some (0,g)
   | _=>none
 | .slr s n _ g=>match Nat.beq s 6 with
  | true=>some (n,g)
  | false=>none
 | _=>none
def apL {α:Type} (v:V) (F:Nat->(Nat->E6)->T α):T α :=
 match gSl v with
 | some (n,g)=>.br (Dl n λi=>okE (g i)) (F n λi=>edE (g i)) .fail
 | none=>.fail
def Ap (n:Nat) (f:Nat->E6):V:=.sl 6 n λi=>eV (f i)
theorem Bd {α:Type} {v:V} {F:Nat->(Nat->E6)->T α} {r:α} (h:(apL v F).sem=some r) :
  ∃ n f,(∀ (S:Nat->Prop) (w:World) (c:Value),VR S w v noK c->VR S w (Ap n f) noK c)∧(F n f).sem=some r:=by
 unfold apL at h;split at h
 ·rename_i n g hg
  obtain ⟨h1,h2⟩:=Ab h;have h1:=AS.1 h1;refine ⟨n,_,λS w c hv=>?_,h2⟩;unfold gSl at hg;split at hg
  ·rename_i s n' g'
   split at hg
   ·rename_i hs
    simp only [Option.some.injEq,Prod.mk.injEq] at hg;obtain ⟨rfl,rfl⟩:=hg;have hs:s=6:=Nat.eq_of_beq_eq_true hs;subst hs;obtain ⟨a,cap,e,hc,hb⟩:=hv;refine ⟨a,cap,e,hc,hb.imp id ?_⟩
    rintro ⟨b,o,ea,hel⟩
    refine ⟨b,o,ea,λi hi=>?_⟩;have:=hel i hi;rw [CG (h1 i hi)] at this;exact this
   ·split at hg
    ·simp only [Option.some.injEq,Prod.mk.injEq] at hg
     obtain ⟨rfl,rfl⟩:=hg;obtain ⟨a,cap,e,hc,_⟩:=hv;exact ⟨a,cap,e,hc,.inl rfl⟩
    ·cases hg
  ·rename_i s n' m' g'
   split at hg
   ·rename_i hs
    simp only [Option.some.injEq,Prod.mk.injEq] at hg;obtain ⟨rfl,rfl⟩:=hg;have hs:s=6:=Nat.eq_of_beq_eq_true hs;subst hs;obtain ⟨a,cap,e,hc,hm,hb⟩:=hv;refine ⟨a,cap,e,Nat.le_trans hc hm,?_⟩;rcases hb with h0 | ⟨b,o,ea,hel⟩
    ·exact .inl (by omega)
    ·refine .inr ⟨b,o,ea,λi hi=>?_⟩
     have:=hel i (by omega);rw [CG (h1 i hi)] at this;exact this
   ·cases hg
  ·cases hg
 ·cases h
def Oy (F:Nat->(Nat->E6)->A3):List V->A3
 | [v]=>apL v F
 | _=>.fail
def Ahp (F:Nat->(Nat->E6)->Nat->(Nat->E6)->A3):List V->A3
 | [v,u]=>apL v λn f=>apL u λm g=>F n f m g
 | _=>.fail
theorem Dg {F:Nat->(Nat->E6)->A3} {vs:List V} {r:V×List Blk} (h:(Oy F vs).sem=some r):∃ n f,By vs [Ap n f]∧(F n f).sem=some r:=by
 unfold Oy at h;split at h
 ·obtain ⟨n,f,h1,h2⟩:=Bd h
  refine ⟨n,f,λS w cs hv=>?_,h2⟩;obtain ⟨c,l,rfl,q1,q2⟩:=hv;exact ⟨c,l,rfl,h1 S w c q1,q2⟩
 ·cases h
theorem Kr {F:Nat->(Nat->E6)->Nat->(Nat->E6)->A3} {vs:List V} {r:V×List Blk} (h:(Ahp F vs).sem=some r) :
  ∃ n f m g,By vs [Ap n f,Ap m g]∧(F n f m g).sem=some r:=by
 unfold Ahp at h;split at h
 ·obtain ⟨n,f,h1,h2⟩:=Bd h
  obtain ⟨m,g,h3,h4⟩:=Bd h2;refine ⟨n,f,m,g,λS w cs hv=>?_,h4⟩;obtain ⟨c,l,rfl,q1,c',l',rfl,q2,q3⟩:=hv;exact ⟨c,_,rfl,h1 S w c q1,c',l',rfl,h3 S w c' q2,q3⟩
 ·cases h
theorem AT {i n:Nat} (h:i<n) (hn:n <= 4611686018427387904):wr .i64 (Ai (ofNat i) 1)=ofNat (i+1):=by
 unfold wr Ai IntKind.wrap;simp [IntKind.bits,IntKind.signed];omega
theorem ofNat_lt {i n:Nat} (h:i<n):ilt (ofNat i) (ofNat n)=true:=by simp [ilt]; omega
theorem A1 {i n:Nat} (h:n <= i):ilt (ofNat i) (ofNat n)=false:=by simp [ilt]; omega
theorem Af {i n:Nat} (h:i<n):Av (ile 0 (ofNat i)) (ilt (ofNat i) (ofNat n))=true:=by rw [ofNat_lt h]; simp [Av,ile]
noncomputable def cx9 (l:List (Nat×Lp)):Cx:=B7 Gl tb8 l
def Nq (n:Nat):Lp:=⟨bmK 26 0 [0,1,4,5],0,bmK 26 0 [0,1,4],0,n+1⟩
def Rw (n m:Nat) (i:Int) (f g:Nat->E6) (j:Nat->V):St:=⟨jsV 26 0 j [(0,.sl 6 n λi=>eV (f i)),(1,.sl 6 m λi=>eV (g i)),(4,bV false),(5,iV i)],[]⟩
def Wu (n m:Nat) (f g:Nat->E6):St:=⟨jsV 26 0 Ac [(0,.sl 6 n λi=>eV (f i)),(1,.sl 6 m λi=>eV (g i)),(4,bV false)],[]⟩
noncomputable def IW (L:LT):St->T (Ex×St):=λst=>A6 tab ⟨A5 tb8,L,Gl⟩ (Aw Tryz.f21 0) 0 st
section
variable (L:LT) (n m i:Nat) (f g:Nat->E6) (j:Nat->V)
include L n m i f g j
theorem Acu:((IW L (Rw n m (ofNat i) f g j)).bind λr=>T.leaf (r.1,FH [true,true,false,false,true,false,false,false,false,false,false,false,false,false,false,false,false,false,false,false,false,false,false,false,false,false] 0 r.2)).path [false]=some ([ilt (ofNat i) (ofNat n)],(.ex 0,Wu n m f g)):=by kernel_rfl
theorem Acs:((IW L (Rw n m (ofNat i) f g j)).bind λr=>T.leaf (r.1,FH [true,true,false,false,true,false,false,false,false,false,false,false,false,false,false,false,false,false,false,false,false,false,false,false,false,false] 0 r.2)).path [true,true,true,true] =
  some ([ilt (ofNat i) (ofNat n),Av (ile 0 (ofNat i)) (ilt (ofNat i) (ofNat n)),Av (ile 0 (ofNat i)) (ilt (ofNat i) (ofNat m)),AN (eqE (f i) (g i))],(.rt,Wu n m f g)):=by kernel_rfl
theorem Aar:((IW L (Rw n m (ofNat i) f g j)).bind λr=>T.leaf (r.1,FH [true,true,false,false,true,true,false,false,false,false,false,false,false,false,false,false,false,false,false,false,false,false,false,false,false,false] 0 r.2)).path [true,true,true,false] =
  some ([ilt (ofNat i) (ofNat n),Av (ile 0 (ofNat i)) (ilt (ofNat i) (ofNat n)),Av (ile 0 (ofNat i)) (ilt (ofNat i) (ofNat m)),AN (eqE (f i) (g i))],
   (.nm,Rw n m (wr .i64 (Ai (ofNat i) 1)) f g λ_=>.und)):=by kernel_rfl
end
def FG (f g:Nat->E6):Nat->Nat->Bool
 | 0,_=>true
 | d+1,i=>match eqE (f i) (g i) with
  | true=>FG f g d (i+1)
  | false=>false
theorem Va (L:LT) (n m:Nat) (f g:Nat->E6) (hm:n=m) (hn:n <= 4611686018427387904):∀ (d i:Nat) (j:Nat->V) (q:Nat),n=i+d->d<q ->
  (Ax (IW L) (Nq n) q (Rw n m (ofNat i) f g j)).sem=some (match FG f g d i with | true=>.ex 0 | false=>.rt,Wu n m f g)
 | 0,i,j,q+1,h1,_=>by
  have h3:(Ax (IW L) (Nq n) (q+1) (Rw n m (ofNat i) f g j)).sem=some (.ex 0,Wu n m f g):=VJ (Acu L n m i f g j) (by rw [A1 (by omega)]) (λh=>by cases h);exact h3
 | d+1,i,j,q+1,h1,h2=>by
  have hi:i<n:=by omega
  have hi':i<m:=by omega
  unfold FG;cases hc:eqE (f i) (g i) with
  | true =>
   have h3:(Ax (IW L) (Nq n) (q+1) (Rw n m (ofNat i) f g j)).sem=(Ax (IW L) (Nq n) q (Rw n m (wr .i64 (Ai (ofNat i) 1)) f g λ_=>.und)).sem :=
    AaT (Aar L n m i f g j) (by rw [Af hi,Af hi',ofNat_lt hi,hc]; rfl)
   rw [h3,AT hi hn];exact Va L n m f g hm hn d (i+1) Ac q (by omega) (by omega)
  | false =>have h3:(Ax (IW L) (Nq n) (q+1) (Rw n m (ofNat i) f g j)).sem=some (.rt,Wu n m f g):=VJ (Acs L n m i f g j) (by rw [Af hi,Af hi',ofNat_lt hi,hc]; rfl) (λh=>by cases h);exact h3
def FW (n:Nat) (f:Nat->E6) (m:Nat) (g:Nat->E6):Bool:=sel (ieq (ofNat n) (ofNat m)) (FG f g n 0) false
def An5 (n m:Nat) (f g:Nat->E6):Nat->V:=lkV A7 [(6,Ap n f),(7,nV n),(8,Ap m g),(9,nV m),(10,bV (AN (ieq (ofNat n) (ofNat m))))]
theorem Acv (n m:Nat) (f g:Nat->E6) (L:LT):AL (Ar tab ⟨A5 tb8,L,Gl⟩ Tryz.f21 [Ap n f,Ap m g] []) =
  AL (Ar tab ⟨A5 tb8,λ_ _ _=>L 0 (IW L) (Rw n m 0 f g (An5 n m f g)),Gl⟩ Tryz.f21 [Ap n f,Ap m g] []):=by kernel_rfl
theorem Agn (n m:Nat) (f g:Nat->E6) (L:LT):(AL (Ar tab ⟨A5 tb8,L,Gl⟩ Tryz.f21 [Ap n f,Ap m g] [])).path [true] =
  some ([AN (ieq (ofNat n) (ofNat m))],(bV false,[])):=by kernel_rfl
theorem Ago (n m:Nat) (f g:Nat->E6):(AL (Ar tab ⟨A5 tb8,λ_ _ _=>.leaf (.ex 0,Wu n m f g),Gl⟩ Tryz.f21 [Ap n f,Ap m g] [])).path [false] =
  some ([AN (ieq (ofNat n) (ofNat m))],(bV true,[])):=by kernel_rfl
theorem Agm (n m:Nat) (f g:Nat->E6):(AL (Ar tab ⟨A5 tb8,λ_ _ _=>.leaf (.rt,Wu n m f g),Gl⟩ Tryz.f21 [Ap n f,Ap m g] [])).path [false] =
  some ([AN (ieq (ofNat n) (ofNat m))],(bV false,[])):=by kernel_rfl
theorem Acw (n m:Nat) (f g:Nat->E6) (hn:n <= 4611686018427387904):(AL (Ar tab (cx9 [(0,Nq n)]) Tryz.f21 [Ap n f,Ap m g] [])).sem=some (bV (FW n f m g),[]):=by
 unfold FW;cases hc:ieq (ofNat n) (ofNat m) with
 | false=>exact A9 (Agn n m f g _) (by rw [hc]; rfl)
 | true =>
  have h0:ofNat n=ofNat m:=by simpa only [ieq,beq_iff_eq] using hc
  have hm:n=m:=Int.ofNat.inj h0;have h1:=Va (B6 [(0,Nq n)]) n m f g hm hn n 0 (An5 n m f g) (n+1) (by omega) (by omega);have h2:=Acv n m f g (B6 [(0,Nq n)]);have h3:(AL (Ar tab (cx9 [(0,Nq n)]) Tryz.f21 [Ap n f,Ap m g] [])).sem=(AL (Ar tab ⟨A5 tb8,λ_ _ _=>.leaf (match FG f g n 0 with | true=>.ex 0 | false=>.rt,Wu n m f g),Gl⟩ Tryz.f21 [Ap n f,Ap m g] [])).sem:=by
   refine (congrArg T.sem h2).trans (Pl λid _ _ _ _=>?_);exact h1
  rw [h3];cases FG f g n 0 with
  | true=>exact A9 (Ago n m f g) (by rw [hc]; rfl)
  | false=>exact A9 (Agm n m f g) (by rw [hc]; rfl)
def BX (n:Nat):Bool:=decide (n <= 4611686018427387904)
def Jq:List V->A3:=Ahp λn f m g=>.br (BX n) (out (bV (FW n f m g))) .fail
theorem p36:As Tryz.prog Gl 21 Jq:=by
 refine Ah A2 mixed Tryz.func21 (by kernel_rfl) (by kernel_rfl) λvs v h' h=>?_;obtain ⟨n,f,m,g,ha,h⟩:=Kr h;obtain ⟨hn,h⟩:=Ab h;have:=Aa h;simp only [Prod.mk.injEq] at this;obtain ⟨rfl,rfl⟩:=this;have hx:=Bi KD [(0,Nq n)];exact ⟨_,cx9 [(0,Nq n)],_,ha,rfl,hx.1,hx.2,Acw n m f g (of_decide_eq_true hn),Au.refl _⟩
end Go.Proofs.YtkbgidbledjejaaGreat.Ed
namespace Go.Sy
def Aoe (l:Lp) (r:Ex×St):Ex×St :=
 match r.1 with
 | .nm=>(.nm,FH l.ks l.n r.2)
 | .ex i=>(.ex i,FH l.ke l.ne r.2)
 | .rt=>(.rt,FH l.ke l.ne r.2)
def Am (f:St->T (Ex×St)) (l:Lp) (st:St):Option (Ex×St):=((f st).bind λr=>T.leaf (Aoe l r)).sem
def Aeb (f:St->T (Ex×St)) (l:Lp) (m:Nat):Option (Ex×St)->Option (Ex×St)
 | some (.nm,st)=>(Ax f l m st).sem
 | some (e,st)=>some (e,st)
 | none=>none
theorem Ae {f:St->T (Ex×St)} {l:Lp} {m:Nat} {st:St} {t:Option (Ex×St)} (h:Am f l st=t):(Ax f l (m+1) st).sem=Aeb f l m t:=by
 subst h;show ((f st).bind _).sem=_;unfold Am;rw [CB,CB];cases (f st).sem with
 | none=>rfl
 | some r =>obtain ⟨e,s⟩:=r;cases e <;> rfl
theorem AK {f:St->T (Ex×St)} {l:Lp} {m:Nat} {st:St}:Aeb f l m (some (.nm,st))=(Ax f l m st).sem:=rfl
theorem Ui {f:St->T (Ex×St)} {l:Lp} {m:Nat} {st:St}:Aeb f l m (some (.rt,st))=some (.rt,st):=rfl
theorem GO {α:Type} (x y:α):sel true x y=x:=rfl
theorem JR {α:Type} (x y:α):sel false x y=y:=rfl
def TLe {α:Type} (t t':T α):Prop:=∀ r,t.sem=some r->t'.sem=some r
theorem TLe.refl {α:Type} (t:T α):TLe t t:=λ_ h=>h
theorem TLe.bind {α β:Type} {t t':T α} {f f':α->T β} (h:TLe t t') (hf:∀ a,TLe (f a) (f' a)):TLe (t.bind f) (t'.bind f'):=λr hr=>by
 obtain ⟨a,h1,h2⟩:=Ad hr;rw [CB,h a h1];exact hf a r h2
def LLe (M L:Nat->(St->T (Ex×St))->St->T (Ex×St)):Prop:=∀ id f f' st,(∀ st,TLe (f st) (f' st))->TLe (M id f st) (L id f' st)
theorem VK {f f':St->T (Ex×St)} (h:∀ st,TLe (f st) (f' st)) (l:Lp):∀ (m:Nat) (st:St),TLe (Ax f l m st) (Ax f' l m st)
 | 0,_=>TLe.refl _
 | m+1,st=>by
  refine TLe.bind (h st) λr=>?_;cases r.1 with
  | nm=>exact VK h l m _
  | ex i=>exact TLe.refl _
  | rt=>exact TLe.refl _
theorem AV (ls:List (Nat×Lp)):LLe (B6 ls) (B6 ls):=λid f f' st h=>by
 unfold B6;split
 ·exact VK h _ _ _
 ·exact TLe.refl _
def onP (k:Nat) (p:(St->T (Ex×St))->St->Bool) (r:Ex×St) (L:Nat->(St->T (Ex×St))->St->T (Ex×St)):Nat->(St->T (Ex×St))->St->T (Ex×St) :=
 λid f st=>match Nat.beq id k with
  | true=>.br (p f st) (.leaf r) .fail
  | false=>L id f st
noncomputable def isP (L:Nat->(St->T (Ex×St))->St->T (Ex×St)) (k:Nat) (r:Ex×St):(St->T (Ex×St))->St->Bool :=
 λf st=>@decide ((L k f st).sem=some r) (Classical.propDecidable _)
theorem AB {L:Nat->(St->T (Ex×St))->St->T (Ex×St)} {k:Nat} {r:Ex×St} {f:St->T (Ex×St)} {st:St} (h:(L k f st).sem=some r):isP L k r f st=true:=by
 unfold isP;exact @decide_eq_true _ (Classical.propDecidable _) h
theorem Bg {M L:Nat->(St->T (Ex×St))->St->T (Ex×St)} {k:Nat} {r:Ex×St} (hM:LLe M L) (hL:LLe L L):LLe (onP k (isP L k r) r M) L:=λid f f' st hf r' hr=>by
 unfold onP at hr;cases hk:Nat.beq id k with
 | true =>rw [hk] at hr;obtain ⟨h1,h2⟩:=Ab hr;rw [Aa h2];unfold isP at h1;have h1:=@of_decide_eq_true _ (Classical.propDecidable _) h1;rw [Nat.eq_of_beq_eq_true hk];exact hL k f f' st hf _ h1
 | false =>rw [hk] at hr;exact hM id f f' st hf _ hr
theorem Mm {τ:List Ty} {Γ:Cx} {L L':Nat->(St->T (Ex×St))->St->T (Ex×St)} (h:LLe L L') :
  ∀ (c:Code) (id:Nat) (st:St),TLe (A6 τ { Γ with loop:=L } c id st) (A6 τ { Γ with loop:=L' } c id st):=by
 intro c
 induction c with
 | skip=>intro id st; exact TLe.refl _
 | region i ops draw=>intro id st; exact TLe.refl _
 | seq a b iha ihb =>
  intro id st;refine TLe.bind (iha id st) λr=>?_;cases r.1 with
  | nm=>exact ihb id r.2
  | ex j=>exact TLe.refl _
  | rt=>exact TLe.refl _
 | cond x a b iha ihb =>
  intro id st;show TLe (match ev ⟨Γ.call,Γ.glob⟩ st x with | .val (.bool q)=>T.br q (A6 τ { Γ with loop:=L } a id st) (A6 τ { Γ with loop:=L } b id st) | _=>.fail) (match ev ⟨Γ.call,Γ.glob⟩ st x with | .val (.bool q)=>T.br q (A6 τ { Γ with loop:=L' } a id st) (A6 τ { Γ with loop:=L' } b id st) | _=>.fail)
  split
  ·rename_i q _
   cases q with
   | true=>exact iha id st
   | false=>exact ihb id st
  ·exact TLe.refl _
 | block i c ih =>
  intro id st;refine TLe.bind (ih i st) λr=>?_;cases r.1 with
  | nm=>exact TLe.refl _
  | ex j=>exact TLe.refl _
  | rt=>exact TLe.refl _
 | loop c ih =>intro id st;exact h id _ _ st (ih id)
 | exit i=>intro id st; exact TLe.refl _
 | ret=>intro id st; exact TLe.refl _
 | _=>intro id st; exact TLe.refl _
theorem Bh {τ:List Ty} {call:FuncId->List V->St->T (V×Res)} {G:Nat->V} {fn:Func} {vs:List V} {L L':Nat->(St->T (Ex×St))->St->T (Ex×St)}
  (h:LLe L L'):TLe (AL (Ar τ ⟨call,L,G⟩ fn vs [])) (AL (Ar τ ⟨call,L',G⟩ fn vs [])):=by
 refine TLe.bind ?_ λ_=>TLe.refl _;unfold Ar;cases fn.body with
 | none=>exact TLe.refl _
 | some c=>exact TLe.bind (Mm (Γ:=⟨call,L,G⟩) h c 0 _) λ_=>TLe.refl _
theorem Sc {f f':St->T (Ex×St)} {l:Lp} {st:St} {r:Ex×St} (h:TLe (f st) (f' st)) (hr:Am f l st=some r):Am f' l st=some r:=TLe.bind h (λ_=>TLe.refl _) r hr
def AnL (v:V):Blk->Blk
 | .row e s 0 _=>.row e s 0 λ_=>v
 | .jag j=>.jag { j with mem:=λi k=>Pg (R1 k (j.len i)) (j.mem i k) v }
 | b=>b
def Ai0 (h:List Blk) (id:Nat) (v:V):List Blk :=
 match h[id]? with
 | some b=>h.set id (AnL v b)
 | none=>h
def Mj (st:St):List (Nat×V)->St
 | []=>st
 | (id,v)::l=>Mj ⟨st.t,Ai0 st.h id v⟩ l
theorem ZV {Γ:Cx0}:∀ (l:List (Nat×V)) (st:St),LE Γ st (Mj st l)
 | [],st=>LE.refl st
 | (id,v)::l,st=>by
   refine LE.trans ?_ (ZV l _);unfold Ai0;cases hb:st.h[id]? with
   | none=>exact LE.refl st
   | some b =>
    have same:st.h.set id b=st.h:=by
     have hl:=(List.getElem?_eq_some_iff.1 hb).1;have:=(List.getElem?_eq_some_iff.1 hb).2;rw [<- this,List.set_getElem_self]
    cases b with
    | row e s n g =>
     cases n with
     | zero=>exact Aff hb λj hj=>by omega
     | succ n =>show LE Γ st ⟨st.t,st.h.set id (.row e s (n+1) g)⟩;rw [same];exact LE.refl st
    | cells cs =>show LE Γ st ⟨st.t,st.h.set id (.cells cs)⟩;rw [same];exact LE.refl st
    | imap t n get =>show LE Γ st ⟨st.t,st.h.set id (.imap t n get)⟩;rw [same];exact LE.refl st
    | gmap t ks hs get =>show LE Γ st ⟨st.t,st.h.set id (.gmap t ks hs get)⟩;rw [same];exact LE.refl st
    | xrow lk e s n g =>show LE Γ st ⟨st.t,st.h.set id (.xrow lk e s n g)⟩;rw [same];exact LE.refl st
    | jag j =>
     refine Afg hb (λ_ _=>rfl) (λ_ _=>rfl) (λ_ _=>rfl) λk _ q hq=>?_;have:R1 q (j.len k)=true:=by
      unfold R1;simpa using hq
     rw [this,Em];rfl
    | saved vs =>show LE Γ st ⟨st.t,st.h.set id (.saved vs)⟩;rw [same];exact LE.refl st
    | rng cd ts q =>show LE Γ st ⟨st.t,st.h.set id (.rng cd ts q)⟩;rw [same];exact LE.refl st
    | dead =>show LE Γ st ⟨st.t,st.h.set id .dead⟩;rw [same];exact LE.refl st
def IF (zs:List (Nat×List (Nat×V))) (Dm:List (Nat×Lp)) (id:Nat) (f:St->T (Ex×St)) (st:St):T (Ex×St) :=
 match Jc id zs with
 | some l=>B6 Dm id f (Mj st l)
 | none=>B6 Dm id f st
theorem Nr (zs:List (Nat×List (Nat×V))) (ls:List (Nat×Lp)):LLe (IF zs ls) (IF zs ls):=λid f f' st h=>by
 unfold IF;split
 ·exact AV ls id f f' _ h
 ·exact AV ls id f f' _ h
def cxZ (G:Nat->V) (tbl:AG) (zs:List (Nat×List (Nat×V))) (Dm:List (Nat×Lp)):Cx:=⟨A5 tbl,IF zs Dm,G⟩
theorem Yg {P:Program} {G:Nat->V} {tbl:AG} (h:Al P G tbl) (zs:List (Nat×List (Nat×V))) (Dm:List (Nat×Lp)):Bb P (cxZ G tbl zs Dm).base∧BR (cxZ G tbl zs Dm):=by
 refine ⟨Fq rfl h,λid f st r hr=>?_⟩;have hr:(IF zs Dm id f st).sem=some r:=hr;have by':∀ st,(B6 Dm id f st).sem=some r->LRun (cxZ G tbl zs Dm).base f st r:=λst hr=>by
  unfold B6 at hr;split at hr
  ·exact GE hr
  ·cases hr
 unfold IF at hr;split at hr
 ·exact .run (.weak (ZV _ _) (by' _ hr))
 ·exact .run (by' _ hr)
end Go.Sy
