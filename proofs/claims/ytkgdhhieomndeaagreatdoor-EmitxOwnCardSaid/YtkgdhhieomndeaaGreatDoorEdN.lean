/-
  Layer 3: checks, names, texts, architectures. No conditions.
-/
import Derived.Test.YtkgdhhieomndeaaGreatDoorEdB
import Derived.Test.YtkgdhhieomndeaaGreatDoorSyS
namespace Go.Proofs.YtkgdhhieomndeaaGreatDoor.Ed
open Go.Sy
noncomputable def tb2:AK:=(60,BW Vn)::(98,BW Vn)::tb1
theorem AaT:Aq Tryz.prog Gl tb2:=.cons p24 <| .cons p25 VF
noncomputable def cx2:Cx:=AA Gl tb2 []
theorem Agr (e:E6):(Ay (Ai tab cx2 Tryz.f76 [eV e] [])).sem=some (iV (Bd e),[]):=by kernel_rfl
theorem p29:Ax Tryz.prog Gl 76 (BW λe=>iV (Bd e)):=by
 refine Ax.congr (AM A7 mixed Tryz.func76 (by kernel_rfl) (by kernel_rfl) (Γ:=cx2) (AH AaT _)) λvs r h=>?_;obtain ⟨e,rfl,rfl⟩:=Ci h;exact Agr e
theorem HW (e:E6):∀ m k j,G8 e m k=some j->k <= j∧j<k+m∧Dv j=e
 | 0,k,j,h=>by cases h
 | m+1,k,j,h=>by
  simp only [G8] at h;split at h
  ·rename_i he
   simp only [Option.some.injEq] at h;subst h;exact ⟨Nat.le_refl _,by omega,(Jw _ _).1 he⟩
  ·obtain ⟨h1,h2,h3⟩:=HW e m _ j h
   exact ⟨by omega,by omega,h3⟩
def Ca (e:E6):List UInt8:=match G8 e 112 0 with
 | some k=>IB k
 | none=>[]
def KD (e:E6):V:=.tup [.str (Ca e),iV (Bd e)]
noncomputable def tb3:AK:=(76,BW λe=>iV (Bd e))::tb2
theorem tb3_ok:Aq Tryz.prog Gl tb3:=.cons p29 AaT
noncomputable def tbn:AK:=(100,λvs=>Ay (Ai tab cx0 Tryz.f100 vs []))::(124,λvs=>Ay (Ai tab cx0 Tryz.f124 vs []))::[]
theorem AaM:Aq Tryz.prog Gl tbn :=
 .cons (AM A7 mixed Tryz.func100 (by kernel_rfl) (by kernel_rfl) (Γ:=cx0) (AH .nil _)) <|
 .cons (AM A7 mixed Tryz.func124 (by kernel_rfl) (by kernel_rfl) (Γ:=cx0) (AH .nil _)) .nil
noncomputable def cxn:Cx:=AA Gl tbn []
noncomputable def tb4:AK:=(101,λvs=>Ay (Ai tab cxn Tryz.f101 vs []))::(tbn++tb3)
theorem Aq.append {P:Program} {G:Nat->V} {a b:AK} (ha:Aq P G a) (hb:Aq P G b):Aq P G (a++b):=λp hp=>(List.mem_append.1 hp).elim (ha p) (hb p)
theorem tb4_ok:Aq Tryz.prog Gl tb4 :=
 .cons (AM A7 mixed Tryz.func101 (by kernel_rfl) (by kernel_rfl) (Γ:=cxn) (AH AaM _)) (Aq.append AaM tb3_ok)
noncomputable def cx4:Cx:=AA Gl tb4 []
theorem AjP:(List.range 112).map (λk:Nat=>(Ay (Ai tab cx4 Tryz.f72 [eV (Dv k)] [])).sem)=(List.range 112).map λk=>some (.tup [.str (IB k),iV 0],[]):=by kernel_rfl
theorem Afk (e:E6):(Ay (Ai tab cx4 Tryz.f72 [eV e] [])).path [true]=some ([A5 (ieq (Bd e) 0)],(.tup [.str [],iV 30],[])):=by kernel_rfl
theorem Afm (e:E6):(Ay (Ai tab cx4 Tryz.f39 [eV e] [])).path [true]=some ([A5 (ieq (Bd e) 0)],(.tup [.str [],iV (Bd e)],[])):=by kernel_rfl
theorem Afl (e:E6):(Ay (Ai tab cx4 Tryz.f39 [eV e] [])).path [false,true]=some ([A5 (ieq (Bd e) 0),inR (BD e)],(.tup [.str (IB (BD e).toNat),iV 0],[])):=by kernel_rfl
theorem AjQ (e:E6):(Ay (Ai tab cx4 Tryz.f39 [eV e] [])).sem=some (KD e,[]):=by
 unfold KD Ca;cases h:G8 e 112 0 with
 | none =>
  have hf:Bd e=30:=by unfold Bd; rw [h]
  exact AL (Afm e) (by rw [hf]; rfl)
 | some k =>
  have hf:Bd e=0:=by unfold Bd; rw [h]
  have hn:BD e=Int.ofNat k:=by unfold BD; rw [h]
  have hk:=(HW e 112 0 k h).2.1;have:=AL (Afl e) (by rw [hf,hn,show inR (Int.ofNat k)=true by simp [inR]; omega]; rfl);rw [this,hn,hf];rfl
theorem Afj (e:E6):(Ay (Ai tab cx4 Tryz.f72 [eV e] [])).sem=some (KD e,[]):=by
 unfold KD Ca;cases h:G8 e 112 0 with
 | none =>
  have hf:Bd e=30:=by unfold Bd; rw [h]
  rw [hf];exact AL (Afk e) (by rw [hf]; rfl)
 | some k =>
  have hf:Bd e=0:=by unfold Bd; rw [h]
  obtain ⟨_,hk,rfl⟩:=HW e 112 0 k h;rw [hf];exact FF AjP k (by omega)
theorem p26:Ax Tryz.prog Gl 39 (BW KD):=by
 refine Ax.congr (AM A7 mixed Tryz.func39 (by kernel_rfl) (by kernel_rfl) (Γ:=cx4) (AH tb4_ok _)) λvs r h=>?_;obtain ⟨e,rfl,rfl⟩:=Ci h;exact AjQ e
theorem p27:Ax Tryz.prog Gl 72 (BW KD):=by
 refine Ax.congr (AM A7 mixed Tryz.func72 (by kernel_rfl) (by kernel_rfl) (Γ:=cx4) (AH tb4_ok _)) λvs r h=>?_;obtain ⟨e,rfl,rfl⟩:=Ci h;exact Afj e
end Go.Proofs.YtkgdhhieomndeaaGreatDoor.Ed
namespace Go.Proofs.YtkgdhhieomndeaaGreatDoor.Ed
open Go.Sy
noncomputable def tb5:AK:=(72,BW KD)::tb3
theorem tb5_ok:Aq Tryz.prog Gl tb5:=.cons p27<|tb3_ok
noncomputable def cx5:Cx:=AA Gl tb5 [(0,⟨[],1,[],1,113⟩)]
def QI (s:List UInt8):Nat->Nat->Option Nat
 | 0,_=>none
 | m+1,k=>match seq (IB k) s with
  | true=>some k
  | false=>QI s m (Nat.succ k)
def Fh (s:List UInt8):E6:=match QI s 112 0 with
 | some k=>Dv k
 | none=>ES
def Fg (s:List UInt8):Int:=match QI s 112 0 with
 | some _=>0
 | none=>30
def O0 (s:List UInt8):Nat->Nat->Option (V×List Blk)
 | 0,_=>some (.tup [eV ES,iV 30],[])
 | m+1,k=>sel (seq (IB k) s) (some (.tup [eV (Dv k),iV 0],[])) (O0 s m (Nat.succ k))
theorem Q2 (s:List UInt8):∀ m k,O0 s m k=match QI s m k with
  | some j=>some (.tup [eV (Dv j),iV 0],[])
  | none=>some (.tup [eV ES,iV 30],[])
 | 0,k=>rfl
 | m+1,k=>by
  simp only [O0,QI];cases h:seq (IB k) s with
  | true=>rfl
  | false=>exact Q2 s m (Nat.succ k)
theorem Wu (s:List UInt8):O0 s 112 0=some (.tup [eV (Fh s),iV (Fg s)],[]):=by
 rw [Q2];unfold Fh Fg;cases QI s 112 0 <;> rfl
theorem Afa (s:List UInt8):(Ay (Ai tab cx5 Tryz.f51 [.str s] [])).sem=O0 s 112 0:=by kernel_rfl
def Qb (f:List UInt8->V):List V->AE
 | [v]=>match gS v with
  | some e=>.leaf (f e,[])
  | none=>.fail
 | _=>.fail
theorem VB {f:List UInt8->V} {vs:List V} {r:V×List Blk} (h:(Qb f vs).sem=some r):∃ e,vs=[.str e]∧r=(f e,[]):=by
 unfold Qb at h;split at h
 ·split at h
  ·rename_i v e hn
   exact ⟨e,by rw [Yt hn],Ab h⟩
  ·cases h
 ·cases h
def RY (s:List UInt8):V:=.tup [eV (Fh s),iV (Fg s)]
theorem p22:Ax Tryz.prog Gl 51 (Qb RY):=by
 refine Ax.congr (AM A7 mixed Tryz.func51 (by kernel_rfl) (by kernel_rfl) (Γ:=cx5) (AH tb5_ok _)) λvs r h=>?_;obtain ⟨e,rfl,rfl⟩:=VB h;exact (Afa e).trans (Wu e)
noncomputable def tb6:AK:=(51,Qb RY)::tb5
theorem tb6_ok:Aq Tryz.prog Gl tb6:=.cons p22 tb5_ok
noncomputable def cx6:Cx:=AA Gl tb6 []
def AaB (f:V):List V->AE
 | []=>.leaf (f,[])
 | _=>.fail
noncomputable def tb7:AK:=tb6
theorem tb7_ok:Aq Tryz.prog Gl tb7:=tb6_ok
theorem Dh (a:List UInt8):seq a a=true:=by simp [seq]
theorem Br (a:Int):ieq a a=true:=by simp [ieq]
end Go.Proofs.YtkgdhhieomndeaaGreatDoor.Ed
namespace Go.Proofs.YtkgdhhieomndeaaGreatDoor.Ed
open Go.Sy
def ap1 {α:Type} (d:V->Option α) (F:α->AE):List V->AE
 | [v]=>match d v with
  | some a=>F a
  | none=>.fail
 | _=>.fail
def ap2 {α β:Type} (d:V->Option α) (e:V->Option β) (F:α->β->AE):List V->AE
 | [v,u]=>match d v,e u with
  | some a,some b=>F a b
  | _,_=>.fail
 | _=>.fail
theorem P8 {α:Type} {d:V->Option α} {c:α->V} (hd:∀ v a,d v=some a->v=c a) {F:α->AE} {vs:List V} {r:V×List Blk} (h:(ap1 d F vs).sem=some r) :
  ∃ a,vs=[c a]∧(F a).sem=some r:=by
 unfold ap1 at h;split at h
 ·split at h
  ·rename_i v _ a ha
   exact ⟨a,by rw [hd v a ha],h⟩
  ·cases h
 ·cases h
theorem L9 {α β:Type} {d:V->Option α} {e:V->Option β} {c:α->V} {c':β->V} (hd:∀ v a,d v=some a->v=c a) (he:∀ v b,e v=some b->v=c' b) {F:α->β->AE}
  {vs:List V} {r:V×List Blk} (h:(ap2 d e F vs).sem=some r):∃ a b,vs=[c a,c' b]∧(F a b).sem=some r:=by
 unfold ap2 at h;split at h
 ·split at h
  ·rename_i v u _ _ a b ha hb
   exact ⟨a,b,by rw [hd v a ha,he u b hb],h⟩
  ·cases h
 ·cases h
theorem Na:∀ v a,gI v=some a->v=iV a:=λ_ _ h=>G6 h
theorem V7:∀ v a,toE v=some a->v=eV a:=λ_ _ h=>NT h
def out (v:V):AE:=.leaf (v,[])
def BI (a:Int):Bool:=bor (ieq a 1) (ieq a 2)
def GT (a n:Int):Bool:=bor (ilt n 14) (Kk (ilt n 22) (ieq a 1))
def UE (a:Int) (e:E6):Bool :=
 bor (ieq e.kind 1) (bor (ieq e.kind 2) (bor (ieq e.kind 3) (bor (ieq e.kind 4) (sel (ieq e.kind 5) (Kk (ieq e.fence 1) (ieq a 1)) (ieq a 2)))))
theorem AfW (a:Int):(Ay (Ai tab cx6 Tryz.f129 [iV a] [])).sem=some (bV (BI a),[]):=by
 have h1:(Ay (Ai tab cx6 Tryz.f129 [iV a] [])).path [true,true,true]=some ([ieq a 1,ieq a 1,ieq a 1],(bV true,[])):=by kernel_rfl
 have h2:(Ay (Ai tab cx6 Tryz.f129 [iV a] [])).path [false,false,false]=some ([ieq a 1,ieq a 1,ieq a 1],(bV (ieq a 2),[])):=by kernel_rfl
 unfold BI;cases h:ieq a 1 with
 | true=>exact AL h1 (by rw [h])
 | false=>exact AL h2 (by rw [h])
theorem AfV (a:Int):(Ay (Ai tab cx6 Tryz.f107 [iV a] [])).sem=some (bV (BI a),[]):=by
 have h1:(Ay (Ai tab cx6 Tryz.f107 [iV a] [])).path [true,true,true]=some ([ieq a 1,ieq a 1,ieq a 1],(bV true,[])):=by kernel_rfl
 have h2:(Ay (Ai tab cx6 Tryz.f107 [iV a] [])).path [false,false,false]=some ([ieq a 1,ieq a 1,ieq a 1],(bV (ieq a 2),[])):=by kernel_rfl
 unfold BI;cases h:ieq a 1 with
 | true=>exact AL h1 (by rw [h])
 | false=>exact AL h2 (by rw [h])
theorem AfQ (a n:Int):(Ay (Ai tab cx6 Tryz.f130 [iV a,iV n] [])).sem=some (bV (GT a n),[]):=by
 have h1:(Ay (Ai tab cx6 Tryz.f130 [iV a,iV n] [])).path [true]=some ([ilt n 14],(bV true,[])):=by kernel_rfl
 have h2:(Ay (Ai tab cx6 Tryz.f130 [iV a,iV n] [])).path [false]=some ([ilt n 14],(bV (Kk (ilt n 22) (ieq a 1)),[])):=by kernel_rfl
 unfold GT;cases h:ilt n 14 with
 | true=>exact AL h1 (by rw [h])
 | false=>exact AL h2 (by rw [h])
theorem Anw (a:Int) (e:E6):(Ay (Ai tab cx6 Tryz.f108 [iV a,eV e] [])).sem=some (bV (UE a e),[]):=by
 have h1:(Ay (Ai tab cx6 Tryz.f108 [iV a,eV e] [])).path [true,true]=some ([ieq e.kind 1,ieq e.kind 1],(bV true,[])):=by kernel_rfl
 have h2:(Ay (Ai tab cx6 Tryz.f108 [iV a,eV e] [])).path [false,true,true]=some ([ieq e.kind 1,ieq e.kind 2,ieq e.kind 2],(bV true,[])):=by kernel_rfl
 have h3:(Ay (Ai tab cx6 Tryz.f108 [iV a,eV e] [])).path [false,false,true,true]=some ([ieq e.kind 1,ieq e.kind 2,ieq e.kind 3,ieq e.kind 3],(bV true,[])):=by kernel_rfl
 have h4:(Ay (Ai tab cx6 Tryz.f108 [iV a,eV e] [])).path [false,false,false,true]=some ([ieq e.kind 1,ieq e.kind 2,ieq e.kind 3,ieq e.kind 4],(bV true,[])):=by kernel_rfl
 have h5:(Ay (Ai tab cx6 Tryz.f108 [iV a,eV e] [])).path [false,false,false,false,true]=some ([ieq e.kind 1,ieq e.kind 2,ieq e.kind 3,ieq e.kind 4,ieq e.kind 5],(bV (Kk (ieq e.fence 1) (ieq a 1)),[])):=by kernel_rfl
 have h6:(Ay (Ai tab cx6 Tryz.f108 [iV a,eV e] [])).path [false,false,false,false,false]=some ([ieq e.kind 1,ieq e.kind 2,ieq e.kind 3,ieq e.kind 4,ieq e.kind 5],(bV (ieq a 2),[])):=by kernel_rfl
 unfold UE;cases c1:ieq e.kind 1 with
 | true=>exact AL h1 (by rw [c1])
 | false =>
 cases c2:ieq e.kind 2 with
 | true=>exact AL h2 (by rw [c1,c2])
 | false =>
 cases c3:ieq e.kind 3 with
 | true=>exact AL h3 (by rw [c1,c2,c3])
 | false =>
 cases c4:ieq e.kind 4 with
 | true=>exact AL h4 (by rw [c1,c2,c3,c4])
 | false =>
 cases c5:ieq e.kind 5 with
 | true=>exact AL h5 (by rw [c1,c2,c3,c4,c5])
 | false=>exact AL h6 (by rw [c1,c2,c3,c4,c5])
theorem p77:Ax Tryz.prog Gl 129 (ap1 gI λa=>out (bV (BI a))):=by
 refine Ax.congr (AM A7 mixed Tryz.func129 (by kernel_rfl) (by kernel_rfl) (Γ:=cx6) (AH tb6_ok _)) λvs r h=>?_;obtain ⟨a,rfl,h⟩:=P8 Na h;rw [Ab h];exact AfW a
theorem p79:Ax Tryz.prog Gl 107 (ap1 gI λa=>out (bV (BI a))):=by
 refine Ax.congr (AM A7 mixed Tryz.func107 (by kernel_rfl) (by kernel_rfl) (Γ:=cx6) (AH tb6_ok _)) λvs r h=>?_;obtain ⟨a,rfl,h⟩:=P8 Na h;rw [Ab h];exact AfV a
theorem p78:Ax Tryz.prog Gl 130 (ap2 gI gI λa n=>out (bV (GT a n))):=by
 refine Ax.congr (AM A7 mixed Tryz.func130 (by kernel_rfl) (by kernel_rfl) (Γ:=cx6) (AH tb6_ok _)) λvs r h=>?_;obtain ⟨a,n,rfl,h⟩:=L9 Na Na h;rw [Ab h];exact AfQ a n
theorem p80:Ax Tryz.prog Gl 108 (ap2 gI toE λa e=>out (bV (UE a e))):=by
 refine Ax.congr (AM A7 mixed Tryz.func108 (by kernel_rfl) (by kernel_rfl) (Γ:=cx6) (AH tb6_ok _)) λvs r h=>?_;obtain ⟨a,e,rfl,h⟩:=L9 Na V7 h;rw [Ab h];exact Anw a e
theorem ZQ (k:Nat) (hk:k<112) (a:Int) (ha:BI a=true):UE a (Dv k)=GT a (Int.ofNat k):=by
 have h1:(List.range 112).map (λk:Nat=>UE 1 (Dv k))=(List.range 112).map λk:Nat=>GT 1 (Int.ofNat k):=by kernel_rfl
 have h2:(List.range 112).map (λk:Nat=>UE 2 (Dv k))=(List.range 112).map λk:Nat=>GT 2 (Int.ofNat k):=by kernel_rfl
 simp only [BI,bor,ieq,Bool.or_eq_true,beq_iff_eq] at ha;rcases ha with rfl | rfl
 ·exact FF h1 k hk
 ·exact FF h2 k hk
noncomputable def tb8:AK:=(129,ap1 gI λa=>out (bV (BI a)))::(107,ap1 gI λa=>out (bV (BI a)))::(130,ap2 gI gI λa n=>out (bV (GT a n)))::(108,ap2 gI toE λa e=>out (bV (UE a e)))::tb7
theorem Rl:Aq Tryz.prog Gl tb8:=.cons p77 <| .cons p79 <| .cons p78 <| .cons p80 tb7_ok
noncomputable def cx8:Cx:=AA Gl tb8 [(0,⟨[],2,[],2,113⟩)]
def Np (a:Int) (e:E6):Bool:=sel (A5 (BI a)) false (sel (A5 (ieq (Bd e) 0)) false (GT a (BD e)))
def GU (a:Int) (e:E6):Int:=sel (A5 (BI a)) 1 (Bd e)
def Sp (a:Int) (e:E6):V:=.tup [bV (Np a e),iV (GU a e)]
theorem AfS (a:Int) (e:E6):(Ay (Ai tab cx8 Tryz.f127 [iV a,eV e] [])).sem=some (Sp a e,[]):=by
 have h1:(Ay (Ai tab cx8 Tryz.f127 [iV a,eV e] [])).path [true]=some ([A5 (BI a)],(.tup [bV false,iV 1],[])):=by kernel_rfl
 have h2:(Ay (Ai tab cx8 Tryz.f127 [iV a,eV e] [])).path [false,true]=some ([A5 (BI a),A5 (ieq (Bd e) 0)],(.tup [bV false,iV (Bd e)],[])):=by kernel_rfl
 have h3:(Ay (Ai tab cx8 Tryz.f127 [iV a,eV e] [])).path [false,false]=some ([A5 (BI a),A5 (ieq (Bd e) 0)],(.tup [bV (GT a (BD e)),iV 0],[])):=by kernel_rfl
 unfold Sp Np GU;cases c1:A5 (BI a) with
 | true=>exact AL h1 (by rw [c1])
 | false =>
 cases c2:A5 (ieq (Bd e) 0) with
 | true=>exact AL h2 (by rw [c1,c2])
 | false =>
  have:Bd e=0:=by simpa [A5,ieq] using c2
  rw [this];exact AL h3 (by rw [c1,c2])
theorem Er (e:E6):(∃ k:Nat,k<112∧Bd e=0∧BD e=Int.ofNat k∧Dv k=e∧Ca e=IB k) ∨ (Bd e=30∧BD e=0∧Ca e=[]∧∀ k,k<112->Dv k ≠ e):=by
 unfold Bd BD Ca;cases h:G8 e 112 0 with
 | some k =>obtain ⟨_,h2,h3⟩:=HW e 112 0 k h;exact .inl ⟨k,by omega,rfl,rfl,h3,rfl⟩
 | none =>
  refine .inr ⟨rfl,rfl,rfl,?_⟩;have:∀ m k,G8 e m k=none->∀ j,k <= j->j<k+m->Dv j ≠ e:=by
   intro m
   induction m with
   | zero=>intro k _ j h1 h2; omega
   | succ m ih =>
    intro k hn j h1 h2;simp only [G8] at hn;split at hn
    ·cases hn
    ·rename_i hne
     by_cases hj:j=k
     ·subst hj
      intro he;rw [(Jw _ _).2 he] at hne;cases hne
     ·exact ih _ hn j (by omega) (by omega)
  exact λk hk=>this 112 0 h k (by omega) (by omega)
theorem AfR (a:Int) (e:E6):(Ay (Ai tab cx8 Tryz.f77 [iV a,eV e] [])).sem=some (Sp a e,[]):=by
 have h1:(Ay (Ai tab cx8 Tryz.f77 [iV a,eV e] [])).path [true]=some ([A5 (BI a)],(.tup [bV false,iV 1],[])):=by kernel_rfl
 have h2:(Ay (Ai tab cx8 Tryz.f77 [iV a,eV e] [])).path [false,true]=some ([A5 (BI a),A5 (ieq (Bd e) 0)],(.tup [bV false,iV 30],[])):=by kernel_rfl
 have h3:(Ay (Ai tab cx8 Tryz.f77 [iV a,eV e] [])).path [false,false]=some ([A5 (BI a),A5 (ieq (Bd e) 0)],(.tup [bV (UE a e),iV 0],[])):=by kernel_rfl
 unfold Sp Np GU;cases c1:A5 (BI a) with
 | true=>exact AL h1 (by rw [c1])
 | false =>
 rcases Er e with ⟨k,hk,hf,hn,he,_⟩ | ⟨hf,_⟩
 ·have c2:A5 (ieq (Bd e) 0)=false:=by rw [hf]; rfl
  have ha:BI a=true:=by simpa [A5] using c1
  rw [c2,hf,hn,<- ZQ k hk a ha,he];exact AL h3 (by rw [c1,c2])
 ·have c2:A5 (ieq (Bd e) 0)=true:=by rw [hf]; rfl
  rw [c2,hf];exact AL h2 (by rw [c1,c2])
theorem p32:Ax Tryz.prog Gl 127 (ap2 gI toE λa e=>out (Sp a e)):=by
 refine Ax.congr (AM A7 mixed Tryz.func127 (by kernel_rfl) (by kernel_rfl) (Γ:=cx8) (AH Rl _)) λvs r h=>?_;obtain ⟨a,e,rfl,h⟩:=L9 Na V7 h;rw [Ab h];exact AfS a e
theorem p33:Ax Tryz.prog Gl 77 (ap2 gI toE λa e=>out (Sp a e)):=by
 refine Ax.congr (AM A7 mixed Tryz.func77 (by kernel_rfl) (by kernel_rfl) (Γ:=cx8) (AH Rl _)) λvs r h=>?_;obtain ⟨a,e,rfl,h⟩:=L9 Na V7 h;rw [Ab h];exact AfR a e
def Aqj (a:Int):List E6:=((List.range 112).filter λk=>GT a (Int.ofNat k)).map Dv
def Agw (a:Int) (i:Nat):E6:=(Aqj a).getD i ES
def allT:List V->AE:=ap1 gI λa =>
 .br (ieq a 1) (.leaf (.tup [.ref 0,iV 0],[.row 92 6 22 λi=>eV (Agw 1 i)])) <|
 .br (ieq a 2) (.leaf (.tup [.ref 0,iV 0],[.row 92 6 104 λi=>eV (Agw 2 i)])) (.leaf (.tup [.ref 0,iV 1],[.row 92 6 0 λ_=>.und]))
end Go.Proofs.YtkgdhhieomndeaaGreatDoor.Ed
namespace Go.Proofs.YtkgdhhieomndeaaGreatDoor.Ed
open Go.Sy
open Int (ofNat)
def okE (v:V):Bool:=match toE v with
 | some _=>true
 | none=>false
def edE (v:V):E6:=match toE v with
 | some e=>e
 | none=>ES
def A4 (n:Nat) (p:Nat->Bool):Bool:=(List.range n).all p
theorem A0 {n:Nat} {p:Nat->Bool}:A4 n p=true↔∀ i,i<n->p i=true:=by simp [A4]
theorem O2 {v:V} (h:okE v=true):v=eV (edE v):=by
 unfold okE at h;unfold edE;split at h
 ·rename_i e he
  exact NT he
 ·cases h
def gSl:V->Option (Nat×(Nat->V))
 | .sl s n g=>match Nat.beq s 6 with
  | true=>some (n,g)
  | false=>match n with
   | 0=>some (0,g)
   | _=>none
 | .slr s n _ g=>match Nat.beq s 6 with
  | true=>some (n,g)
  | false=>none
 | _=>none
def apL {α:Type} (v:V) (F:Nat->(Nat->E6)->T α):T α :=
 match gSl v with
 | some (n,g)=>.br (A4 n λi=>okE (g i)) (F n λi=>edE (g i)) .fail
 | none=>.fail
def AS (n:Nat) (f:Nat->E6):V:=.sl 6 n λi=>eV (f i)
theorem Co {α:Type} {v:V} {F:Nat->(Nat->E6)->T α} {r:α} (h:(apL v F).sem=some r) :
  ∃ n f,(∀ (S:Nat->Prop) (w:World) (c:Value),VR S w v noK c->VR S w (AS n f) noK c)∧(F n f).sem=some r:=by
 unfold apL at h;split at h
 ·rename_i n g hg
  obtain ⟨h1,h2⟩:=Ad h;have h1:=A0.1 h1;refine ⟨n,_,λS w c hv=>?_,h2⟩;unfold gSl at hg;split at hg
  ·rename_i s n' g'
   split at hg
   ·rename_i hs
    simp only [Option.some.injEq,Prod.mk.injEq] at hg;obtain ⟨rfl,rfl⟩:=hg;have hs:s=6:=Nat.eq_of_beq_eq_true hs;subst hs;obtain ⟨a,cap,e,hc,hb⟩:=hv;refine ⟨a,cap,e,hc,hb.imp id ?_⟩
    rintro ⟨b,o,ea,hel⟩
    refine ⟨b,o,ea,λi hi=>?_⟩;have:=hel i hi;rw [O2 (h1 i hi)] at this;exact this
   ·split at hg
    ·simp only [Option.some.injEq,Prod.mk.injEq] at hg
     obtain ⟨rfl,rfl⟩:=hg;obtain ⟨a,cap,e,hc,_⟩:=hv;exact ⟨a,cap,e,hc,.inl rfl⟩
    ·cases hg
  ·rename_i s n' m' g'
   split at hg
   ·rename_i hs
    simp only [Option.some.injEq,Prod.mk.injEq] at hg;obtain ⟨rfl,rfl⟩:=hg;have hs:s=6:=Nat.eq_of_beq_eq_true hs;subst hs;obtain ⟨a,cap,e,hc,hm,hb⟩:=hv;refine ⟨a,cap,e,Nat.le_trans hc hm,?_⟩;rcases hb with h0 | ⟨b,o,ea,hel⟩
    ·exact .inl (by omega)
    ·refine .inr ⟨b,o,ea,λi hi=>?_⟩
     have:=hel i (by omega);rw [O2 (h1 i hi)] at this;exact this
   ·cases hg
  ·cases hg
 ·cases h
def Gs (F:Nat->(Nat->E6)->AE):List V->AE
 | [v]=>apL v F
 | _=>.fail
def AkC (F:Nat->(Nat->E6)->Nat->(Nat->E6)->AE):List V->AE
 | [v,u]=>apL v λn f=>apL u λm g=>F n f m g
 | _=>.fail
theorem C7 {F:Nat->(Nat->E6)->AE} {vs:List V} {r:V×List Blk} (h:(Gs F vs).sem=some r):∃ n f,Bj vs [AS n f]∧(F n f).sem=some r:=by
 unfold Gs at h;split at h
 ·obtain ⟨n,f,h1,h2⟩:=Co h
  refine ⟨n,f,λS w cs hv=>?_,h2⟩;obtain ⟨c,l,rfl,q1,q2⟩:=hv;exact ⟨c,l,rfl,h1 S w c q1,q2⟩
 ·cases h
theorem Aao {F:Nat->(Nat->E6)->Nat->(Nat->E6)->AE} {vs:List V} {r:V×List Blk} (h:(AkC F vs).sem=some r) :
  ∃ n f m g,Bj vs [AS n f,AS m g]∧(F n f m g).sem=some r:=by
 unfold AkC at h;split at h
 ·obtain ⟨n,f,h1,h2⟩:=Co h
  obtain ⟨m,g,h3,h4⟩:=Co h2;refine ⟨n,f,m,g,λS w cs hv=>?_,h4⟩;obtain ⟨c,l,rfl,q1,c',l',rfl,q2,q3⟩:=hv;exact ⟨c,_,rfl,h1 S w c q1,c',l',rfl,h3 S w c' q2,q3⟩
 ·cases h
theorem Ap {i n:Nat} (h:i<n) (hn:n <= 4611686018427387904):wr .i64 (Ak (ofNat i) 1)=ofNat (i+1):=by
 unfold wr Ak IntKind.wrap;simp [IntKind.bits,IntKind.signed];omega
theorem ofNat_lt {i n:Nat} (h:i<n):ilt (ofNat i) (ofNat n)=true:=by simp [ilt]; omega
theorem Aw {i n:Nat} (h:n <= i):ilt (ofNat i) (ofNat n)=false:=by simp [ilt]; omega
theorem Ag {i n:Nat} (h:i<n):Ao (ile 0 (ofNat i)) (ilt (ofNat i) (ofNat n))=true:=by rw [ofNat_lt h]; simp [Ao,ile]
noncomputable def cx9 (l:List (Nat×Lp)):Cx:=AA Gl tb8 l
def lp36 (n:Nat):Lp:=⟨bmK 26 0 [0,1,4,5],0,bmK 26 0 [0,1,4],0,n+1⟩
def st36 (n m:Nat) (i:Int) (f g:Nat->E6) (j:Nat->V):St:=⟨jsV 26 0 j [(0,.sl 6 n λi=>eV (f i)),(1,.sl 6 m λi=>eV (g i)),(4,bV false),(5,iV i)],[]⟩
def Vd (n m:Nat) (f g:Nat->E6):St:=⟨jsV 26 0 Aa [(0,.sl 6 n λi=>eV (f i)),(1,.sl 6 m λi=>eV (g i)),(4,bV false)],[]⟩
noncomputable def Ig (L:LT):St->T (Ex×St):=λst=>AD tab ⟨Am tb8,L,Gl⟩ (Au Tryz.f29 0) 0 st
section
variable (L:LT) (n m i:Nat) (f g:Nat->E6) (j:Nat->V)
include L n m i f g j
theorem Abp:((Ig L (st36 n m (ofNat i) f g j)).bind λr=>T.leaf (r.1,JC [true,true,false,false,true,false,false,false,false,false,false,false,false,false,false,false,false,false,false,false,false,false,false,false,false,false] 0 r.2)).path [false]=some ([ilt (ofNat i) (ofNat n)],(.ex 0,Vd n m f g)):=by kernel_rfl
theorem Abo:((Ig L (st36 n m (ofNat i) f g j)).bind λr=>T.leaf (r.1,JC [true,true,false,false,true,false,false,false,false,false,false,false,false,false,false,false,false,false,false,false,false,false,false,false,false,false] 0 r.2)).path [true,true,true,true] =
  some ([ilt (ofNat i) (ofNat n),Ao (ile 0 (ofNat i)) (ilt (ofNat i) (ofNat n)),Ao (ile 0 (ofNat i)) (ilt (ofNat i) (ofNat m)),A5 (eqE (f i) (g i))],(.rt,Vd n m f g)):=by kernel_rfl
theorem Zw:((Ig L (st36 n m (ofNat i) f g j)).bind λr=>T.leaf (r.1,JC [true,true,false,false,true,true,false,false,false,false,false,false,false,false,false,false,false,false,false,false,false,false,false,false,false,false] 0 r.2)).path [true,true,true,false] =
  some ([ilt (ofNat i) (ofNat n),Ao (ile 0 (ofNat i)) (ilt (ofNat i) (ofNat n)),Ao (ile 0 (ofNat i)) (ilt (ofNat i) (ofNat m)),A5 (eqE (f i) (g i))],
   (.nm,st36 n m (wr .i64 (Ak (ofNat i) 1)) f g λ_=>.und)):=by kernel_rfl
end
def Ge (f g:Nat->E6):Nat->Nat->Bool
 | 0,_=>true
 | d+1,i=>match eqE (f i) (g i) with
  | true=>Ge f g d (i+1)
  | false=>false
theorem TQ (L:LT) (n m:Nat) (f g:Nat->E6) (hm:n=m) (hn:n <= 4611686018427387904):∀ (d i:Nat) (j:Nat->V) (q:Nat),n=i+d->d<q ->
  (A3 (Ig L) (lp36 n) q (st36 n m (ofNat i) f g j)).sem=some (match Ge f g d i with | true=>.ex 0 | false=>.rt,Vd n m f g)
 | 0,i,j,q+1,h1,_=>by
  have h3:(A3 (Ig L) (lp36 n) (q+1) (st36 n m (ofNat i) f g j)).sem=some (.ex 0,Vd n m f g):=U0 (Abp L n m i f g j) (by rw [Aw (by omega)]) (λh=>by cases h);exact h3
 | d+1,i,j,q+1,h1,h2=>by
  have hi:i<n:=by omega
  have hi':i<m:=by omega
  unfold Ge;cases hc:eqE (f i) (g i) with
  | true =>
   have h3:(A3 (Ig L) (lp36 n) (q+1) (st36 n m (ofNat i) f g j)).sem=(A3 (Ig L) (lp36 n) q (st36 n m (wr .i64 (Ak (ofNat i) 1)) f g λ_=>.und)).sem :=
    ZO (Zw L n m i f g j) (by rw [Ag hi,Ag hi',ofNat_lt hi,hc]; rfl)
   rw [h3,Ap hi hn];exact TQ L n m f g hm hn d (i+1) Aa q (by omega) (by omega)
  | false =>have h3:(A3 (Ig L) (lp36 n) (q+1) (st36 n m (ofNat i) f g j)).sem=some (.rt,Vd n m f g):=U0 (Abo L n m i f g j) (by rw [Ag hi,Ag hi',ofNat_lt hi,hc]; rfl) (λh=>by cases h);exact h3
def CB (n:Nat) (f:Nat->E6) (m:Nat) (g:Nat->E6):Bool:=sel (ieq (ofNat n) (ofNat m)) (Ge f g n 0) false
def jk36 (n m:Nat) (f g:Nat->E6):Nat->V:=lkV A9 [(6,AS n f),(7,nV n),(8,AS m g),(9,nV m),(10,bV (A5 (ieq (ofNat n) (ofNat m))))]
theorem Abq (n m:Nat) (f g:Nat->E6) (L:LT):Ay (Ai tab ⟨Am tb8,L,Gl⟩ Tryz.f29 [AS n f,AS m g] []) =
  Ay (Ai tab ⟨Am tb8,λ_ _ _=>L 0 (Ig L) (st36 n m 0 f g (jk36 n m f g)),Gl⟩ Tryz.f29 [AS n f,AS m g] []):=by kernel_rfl
theorem AeM (n m:Nat) (f g:Nat->E6) (L:LT):(Ay (Ai tab ⟨Am tb8,L,Gl⟩ Tryz.f29 [AS n f,AS m g] [])).path [true] =
  some ([A5 (ieq (ofNat n) (ofNat m))],(bV false,[])):=by kernel_rfl
theorem AeN (n m:Nat) (f g:Nat->E6):(Ay (Ai tab ⟨Am tb8,λ_ _ _=>.leaf (.ex 0,Vd n m f g),Gl⟩ Tryz.f29 [AS n f,AS m g] [])).path [false] =
  some ([A5 (ieq (ofNat n) (ofNat m))],(bV true,[])):=by kernel_rfl
theorem AeL (n m:Nat) (f g:Nat->E6):(Ay (Ai tab ⟨Am tb8,λ_ _ _=>.leaf (.rt,Vd n m f g),Gl⟩ Tryz.f29 [AS n f,AS m g] [])).path [false] =
  some ([A5 (ieq (ofNat n) (ofNat m))],(bV false,[])):=by kernel_rfl
theorem AiE (n m:Nat) (f g:Nat->E6) (hn:n <= 4611686018427387904):(Ay (Ai tab (cx9 [(0,lp36 n)]) Tryz.f29 [AS n f,AS m g] [])).sem=some (bV (CB n f m g),[]):=by
 unfold CB;cases hc:ieq (ofNat n) (ofNat m) with
 | false=>exact AL (AeM n m f g _) (by rw [hc]; rfl)
 | true =>
  have h0:ofNat n=ofNat m:=by simpa only [ieq,beq_iff_eq] using hc
  have hm:n=m:=Int.ofNat.inj h0;have h1:=TQ (Ba [(0,lp36 n)]) n m f g hm hn n 0 (jk36 n m f g) (n+1) (by omega) (by omega);have h2:=Abq n m f g (Ba [(0,lp36 n)]);have h3:(Ay (Ai tab (cx9 [(0,lp36 n)]) Tryz.f29 [AS n f,AS m g] [])).sem=(Ay (Ai tab ⟨Am tb8,λ_ _ _=>.leaf (match Ge f g n 0 with | true=>.ex 0 | false=>.rt,Vd n m f g),Gl⟩ Tryz.f29 [AS n f,AS m g] [])).sem:=by
   refine (congrArg T.sem h2).trans (Tu λid _ _ _ _=>?_);exact h1
  rw [h3];cases Ge f g n 0 with
  | true=>exact AL (AeN n m f g) (by rw [hc]; rfl)
  | false=>exact AL (AeL n m f g) (by rw [hc]; rfl)
def Af (n:Nat):Bool:=decide (n <= 4611686018427387904)
def XF:List V->AE:=AkC λn f m g=>.br (Af n) (out (bV (CB n f m g))) .fail
end Go.Proofs.YtkgdhhieomndeaaGreatDoor.Ed
namespace Go.Proofs.YtkgdhhieomndeaaGreatDoor.Ed
open Go.Sy
def BC (n:Nat):Bool:=decide (n * 40 <= 140737488355328)
section
variable (L:LT)
end
def copyT:List V->AE:=Gs λn f=>.br (BC n) (.leaf (.ref 0,[.row 92 6 n λi=>eV (f i)])) .fail
end Go.Proofs.YtkgdhhieomndeaaGreatDoor.Ed
namespace Go.Proofs.YtkgdhhieomndeaaGreatDoor.Ed
open Go.Sy
theorem allT_some {vs:List V} {r:V×List Blk} (h:(allT vs).sem=some r):∃ a,vs=[iV a]∧((a=1∧r=(.tup [.ref 0,iV 0],[.row 92 6 22 λi=>eV (Agw 1 i)])) ∨ (a=2∧r=(.tup [.ref 0,iV 0],[.row 92 6 104 λi=>eV (Agw 2 i)])) ∨
  (A5 (BI a)=true∧r=(.tup [.ref 0,iV 1],[.row 92 6 0 λ_=>.und]))):=by
 obtain ⟨a,rfl,h⟩:=P8 Na h;refine ⟨a,rfl,?_⟩;have h:sel (ieq a 1) (some _) (sel (ieq a 2) (some _) (some _))=some r:=h;cases h1:ieq a 1 with
 | true =>rw [h1] at h;have h:some _=some r:=h;exact .inl ⟨by simpa [ieq] using h1,(Option.some.inj h).symm⟩
 | false =>
  rw [h1] at h;cases h2:ieq a 2 with
  | true =>rw [h2] at h;have h:some _=some r:=h;exact .inr (.inl ⟨by simpa [ieq] using h2,(Option.some.inj h).symm⟩)
  | false =>rw [h2] at h;have h:some _=some r:=h;exact .inr (.inr ⟨by simp [BI,h1,h2,A5,bor],(Option.some.inj h).symm⟩)
end Go.Proofs.YtkgdhhieomndeaaGreatDoor.Ed
namespace Go.Proofs.YtkgdhhieomndeaaGreatDoor.Ed
open Go.Sy
end Go.Proofs.YtkgdhhieomndeaaGreatDoor.Ed
namespace Go.Sy
def Xn (l:Lp) (r:Ex×St):Ex×St :=
 match r.1 with
 | .nm=>(.nm,JC l.ks l.n r.2)
 | .ex i=>(.ex i,JC l.ke l.ne r.2)
 | .rt=>(.rt,JC l.ke l.ne r.2)
def Al (f:St->T (Ex×St)) (l:Lp) (st:St):Option (Ex×St):=((f st).bind λr=>T.leaf (Xn l r)).sem
def Agf (f:St->T (Ex×St)) (l:Lp) (m:Nat):Option (Ex×St)->Option (Ex×St)
 | some (.nm,st)=>(A3 f l m st).sem
 | some (e,st)=>some (e,st)
 | none=>none
theorem Ae {f:St->T (Ex×St)} {l:Lp} {m:Nat} {st:St} {t:Option (Ex×St)} (h:Al f l st=t):(A3 f l (m+1) st).sem=Agf f l m t:=by
 subst h;show ((f st).bind _).sem=_;unfold Al;rw [CV,CV];cases (f st).sem with
 | none=>rfl
 | some r =>obtain ⟨e,s⟩:=r;cases e <;> rfl
theorem A6 {f:St->T (Ex×St)} {l:Lp} {m:Nat} {st:St}:Agf f l m (some (.nm,st))=(A3 f l m st).sem:=rfl
theorem S5 {f:St->T (Ex×St)} {l:Lp} {m:Nat} {st:St}:Agf f l m (some (.rt,st))=some (.rt,st):=rfl
theorem Abj {α:Type} (x y:α):sel true x y=x:=rfl
theorem Zu {α:Type} (x y:α):sel false x y=y:=rfl
def TLe {α:Type} (t t':T α):Prop:=∀ r,t.sem=some r->t'.sem=some r
theorem TLe.refl {α:Type} (t:T α):TLe t t:=λ_ h=>h
theorem TLe.bind {α β:Type} {t t':T α} {f f':α->T β} (h:TLe t t') (hf:∀ a,TLe (f a) (f' a)):TLe (t.bind f) (t'.bind f'):=λr hr=>by
 obtain ⟨a,h1,h2⟩:=Ah hr;rw [CV,h a h1];exact hf a r h2
def LLe (M L:Nat->(St->T (Ex×St))->St->T (Ex×St)):Prop:=∀ id f f' st,(∀ st,TLe (f st) (f' st))->TLe (M id f st) (L id f' st)
theorem U1 {f f':St->T (Ex×St)} (h:∀ st,TLe (f st) (f' st)) (l:Lp):∀ (m:Nat) (st:St),TLe (A3 f l m st) (A3 f' l m st)
 | 0,_=>TLe.refl _
 | m+1,st=>by
  refine TLe.bind (h st) λr=>?_;cases r.1 with
  | nm=>exact U1 h l m _
  | ex i=>exact TLe.refl _
  | rt=>exact TLe.refl _
theorem AQ (ls:List (Nat×Lp)):LLe (Ba ls) (Ba ls):=λid f f' st h=>by
 unfold Ba;split
 ·exact U1 h _ _ _
 ·exact TLe.refl _
def onP (k:Nat) (p:(St->T (Ex×St))->St->Bool) (r:Ex×St) (L:Nat->(St->T (Ex×St))->St->T (Ex×St)):Nat->(St->T (Ex×St))->St->T (Ex×St) :=
 λid f st=>match Nat.beq id k with
  | true=>.br (p f st) (.leaf r) .fail
  | false=>L id f st
noncomputable def isP (L:Nat->(St->T (Ex×St))->St->T (Ex×St)) (k:Nat) (r:Ex×St):(St->T (Ex×St))->St->Bool :=
 λf st=>@decide ((L k f st).sem=some r) (Classical.propDecidable _)
theorem Az {L:Nat->(St->T (Ex×St))->St->T (Ex×St)} {k:Nat} {r:Ex×St} {f:St->T (Ex×St)} {st:St} (h:(L k f st).sem=some r):isP L k r f st=true:=by
 unfold isP;exact @decide_eq_true _ (Classical.propDecidable _) h
theorem AI {M L:Nat->(St->T (Ex×St))->St->T (Ex×St)} {k:Nat} {r:Ex×St} (hM:LLe M L) (hL:LLe L L):LLe (onP k (isP L k r) r M) L:=λid f f' st hf r' hr=>by
 unfold onP at hr;cases hk:Nat.beq id k with
 | true =>rw [hk] at hr;obtain ⟨h1,h2⟩:=Ad hr;rw [Ab h2];unfold isP at h1;have h1:=@of_decide_eq_true _ (Classical.propDecidable _) h1;rw [Nat.eq_of_beq_eq_true hk];exact hL k f f' st hf _ h1
 | false =>rw [hk] at hr;exact hM id f f' st hf _ hr
theorem Gd {τ:List Ty} {Γ:Cx} {L L':Nat->(St->T (Ex×St))->St->T (Ex×St)} (h:LLe L L') :
  ∀ (c:Code) (id:Nat) (st:St),TLe (AD τ { Γ with loop:=L } c id st) (AD τ { Γ with loop:=L' } c id st):=by
 intro c
 induction c with
 | skip=>intro id st; exact TLe.refl _
 | region i ops draw=>intro id st; exact TLe.refl _
 | seq a b iha ihb =>
  intro id st;refine TLe.bind (iha id st) λr=>?_;cases r.1 with
  | nm=>exact ihb id r.2
  | ex j=>exact TLe.refl _
  | rt=>exact TLe.refl _
 | cond x a b iha ihb =>
  intro id st;show TLe (match ev ⟨Γ.call,Γ.glob⟩ st x with | .val (.bool q)=>T.br q (AD τ { Γ with loop:=L } a id st) (AD τ { Γ with loop:=L } b id st) | _=>.fail) (match ev ⟨Γ.call,Γ.glob⟩ st x with | .val (.bool q)=>T.br q (AD τ { Γ with loop:=L' } a id st) (AD τ { Γ with loop:=L' } b id st) | _=>.fail)
  split
  ·rename_i q _
   cases q with
   | true=>exact iha id st
   | false=>exact ihb id st
  ·exact TLe.refl _
 | block i c ih =>
  intro id st;refine TLe.bind (ih i st) λr=>?_;cases r.1 with
  | nm=>exact TLe.refl _
  | ex j=>exact TLe.refl _
  | rt=>exact TLe.refl _
 | loop c ih =>intro id st;exact h id _ _ st (ih id)
 | exit i=>intro id st; exact TLe.refl _
 | ret=>intro id st; exact TLe.refl _
 | _=>intro id st; exact TLe.refl _
theorem AP {τ:List Ty} {call:FuncId->List V->St->T (V×Res)} {G:Nat->V} {fn:Func} {vs:List V} {L L':Nat->(St->T (Ex×St))->St->T (Ex×St)}
  (h:LLe L L'):TLe (Ay (Ai τ ⟨call,L,G⟩ fn vs [])) (Ay (Ai τ ⟨call,L',G⟩ fn vs [])):=by
 refine TLe.bind ?_ λ_=>TLe.refl _;unfold Ai;cases fn.body with
 | none=>exact TLe.refl _
 | some c=>exact TLe.bind (Gd (Γ:=⟨call,L,G⟩) h c 0 _) λ_=>TLe.refl _
theorem Hi {f f':St->T (Ex×St)} {l:Lp} {st:St} {r:Ex×St} (h:TLe (f st) (f' st)) (hr:Al f l st=some r):Al f' l st=some r:=TLe.bind h (λ_=>TLe.refl _) r hr
def AnI (v:V):Blk->Blk
 | .row e s 0 _=>.row e s 0 λ_=>v
 | .jag j=>.jag { j with mem:=λi k=>Aa6 (Afh k (j.len i)) (j.mem i k) v }
 | b=>b
def AhD (h:List Blk) (id:Nat) (v:V):List Blk :=
 match h[id]? with
 | some b=>h.set id (AnI v b)
 | none=>h
def Gb (st:St):List (Nat×V)->St
 | []=>st
 | (id,v)::l=>Gb ⟨st.t,AhD st.h id v⟩ l
theorem Tl {Γ:Cx0}:∀ (l:List (Nat×V)) (st:St),LE Γ st (Gb st l)
 | [],st=>LE.refl st
 | (id,v)::l,st=>by
   refine LE.trans ?_ (Tl l _);unfold AhD;cases hb:st.h[id]? with
   | none=>exact LE.refl st
   | some b =>
    have same:st.h.set id b=st.h:=by
     have hl:=(List.getElem?_eq_some_iff.1 hb).1;have:=(List.getElem?_eq_some_iff.1 hb).2;rw [<- this,List.set_getElem_self]
    cases b with
    | row e s n g =>
     cases n with
     | zero=>exact Ft hb λj hj=>by omega
     | succ n =>show LE Γ st ⟨st.t,st.h.set id (.row e s (n+1) g)⟩;rw [same];exact LE.refl st
    | cells cs =>show LE Γ st ⟨st.t,st.h.set id (.cells cs)⟩;rw [same];exact LE.refl st
    | imap t n get =>show LE Γ st ⟨st.t,st.h.set id (.imap t n get)⟩;rw [same];exact LE.refl st
    | xrow lk e s n g =>show LE Γ st ⟨st.t,st.h.set id (.xrow lk e s n g)⟩;rw [same];exact LE.refl st
    | jag j =>
     refine AkI hb (λ_ _=>rfl) (λ_ _=>rfl) (λ_ _=>rfl) λk _ q hq=>?_;have:Afh q (j.len k)=true:=by
      unfold Afh;simpa using hq
     rw [this,Fy];rfl
    | saved vs =>show LE Γ st ⟨st.t,st.h.set id (.saved vs)⟩;rw [same];exact LE.refl st
    | dead =>show LE Γ st ⟨st.t,st.h.set id .dead⟩;rw [same];exact LE.refl st
def Eb (zs:List (Nat×List (Nat×V))) (loops:List (Nat×Lp)) (id:Nat) (f:St->T (Ex×St)) (st:St):T (Ex×St) :=
 match JK id zs with
 | some l=>Ba loops id f (Gb st l)
 | none=>Ba loops id f st
theorem Ho (zs:List (Nat×List (Nat×V))) (ls:List (Nat×Lp)):LLe (Eb zs ls) (Eb zs ls):=λid f f' st h=>by
 unfold Eb;split
 ·exact AQ ls id f f' _ h
 ·exact AQ ls id f f' _ h
def cxZ (G:Nat->V) (tbl:AK) (zs:List (Nat×List (Nat×V))) (loops:List (Nat×Lp)):Cx:=⟨Am tbl,Eb zs loops,G⟩
theorem Pp {P:Program} {G:Nat->V} {tbl:AK} (h:Aq P G tbl) (zs:List (Nat×List (Nat×V))) (loops:List (Nat×Lp)):Bv P (cxZ G tbl zs loops).base∧Cd (cxZ G tbl zs loops):=by
 refine ⟨D5 rfl h,λid f st r hr=>?_⟩;have hr:(Eb zs loops id f st).sem=some r:=hr;have by':∀ st,(Ba loops id f st).sem=some r->LRun (cxZ G tbl zs loops).base f st r:=λst hr=>by
  unfold Ba at hr;split at hr
  ·exact Hr hr
  ·cases hr
 unfold Eb at hr;split at hr
 ·exact .weak (Tl _ _) (by' _ hr)
 ·exact by' _ hr
noncomputable def isR (Γ:Cx0) (r:Ex×St):(St->T (Ex×St))->St->Bool:=λf st=>@decide (LRun Γ f st r) (Classical.propDecidable _)
theorem E1 {Γ:Cx0} {r:Ex×St} {f:St->T (Ex×St)} {st:St} (h:LRun Γ f st r):isR Γ r f st=true:=@decide_eq_true _ (Classical.propDecidable _) h
def noL:Nat->(St->T (Ex×St))->St->T (Ex×St):=λ_ _ _=>.fail
theorem GO {c:FuncId->List V->St->T (V×Res)} {G:Nat->V}:Cd ⟨c,noL,G⟩:=λ_ _ _ _ h=>by cases h
theorem HH {c:FuncId->List V->St->T (V×Res)} {G:Nat->V} {M:Nat->(St->T (Ex×St))->St->T (Ex×St)} {k:Nat} {r:Ex×St} (h:Cd ⟨c,M,G⟩):Cd ⟨c,onP k (isR ⟨c,G⟩ r) r M,G⟩:=λid f st r' hr=>by
 have hr:(onP k (isR ⟨c,G⟩ r) r M id f st).sem=some r':=hr;unfold onP at hr;split at hr
 ·obtain ⟨h1,h2⟩:=Ad hr
  have:=Ab h2;subst this;exact @of_decide_eq_true _ (Classical.propDecidable _) h1
 ·exact h id f st r' hr
end Go.Sy
namespace Go.Proofs.YtkgdhhieomndeaaGreatDoor.Ed
open Go.Sy
def Cp (n:Nat) (f:Nat->E6):Bool:=A4 n λi=>ieq (Bd (f i)) 0
theorem Dt {n:Nat} {f:Nat->E6}:Cp n f=true↔∀ i,i<n->Bd (f i)=0:=by
 unfold Cp;rw [A0];simp [ieq]
theorem Pi (f g:Nat->E6):∀ d i,Ge f g d i=true↔∀ j,i <= j->j<i+d->f j=g j
 | 0,i=>by
  simp only [Ge,true_iff];intro j h1 h2; omega
 | d+1,i=>by
  unfold Ge;cases h:eqE (f i) (g i) with
  | true =>
   have h0:=(Jw _ _).1 h;show Ge f g d (i+1)=true↔_;rw [Pi f g d (i+1)];constructor
   ·intro q j h1 h2
    by_cases hj:j=i
    ·subst hj; exact h0
    ·exact q j (by omega) (by omega)
   ·intro q j h1 h2; exact q j (by omega) (by omega)
  | false =>
   constructor
   ·intro q; cases q
   ·intro q
    have:=(Jw _ _).2 (q i (Nat.le_refl _) (by omega));rw [this] at h; cases h
end Go.Proofs.YtkgdhhieomndeaaGreatDoor.Ed
