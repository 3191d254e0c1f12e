/-
  Layer 3, the functions of one edge: what they answer. No conditions.
-/
import Derived.Test.YtkbafjceglhjhaaGreatDoorEdG
import Derived.Test.YtkbafjceglhjhaaGreatDoorCards
import Derived.Test.YtkbafjceglhjhaaGreatDoorTie
import Derived.ProofKit
import Derived.OpenShut
import Derived.Deep.DeepHandedRow
namespace Go.Proofs.YtkbafjceglhjhaaGreatDoor.Ed
open Go.Sy
structure E6 where
 kind:Int
 ext:Bool
 same:Bool
 src:Int
 dst:Int
 fence:Int
 deriving DecidableEq
def eV (e:E6):V:=.agg [iV e.kind,bV e.ext,bV e.same,iV e.src,iV e.dst,iV e.fence]
def toE:V->Option E6
 | .agg [a,b,c,d,e,f]=>match gI a,gB b,gB c,gI d,gI e,gI f with
  | some a,some b,some c,some d,some e,some f=>some ⟨a,b,c,d,e,f⟩
  | _,_,_,_,_,_=>none
 | _=>none
theorem Nw {v:V} {e:E6} (h:toE v=some e):v=eV e:=by
 unfold toE at h;split at h
 ·split at h
  ·rename_i h1 h2 h3 h4 h5 h6
   simp only [Option.some.injEq] at h;subst h;rw [G9 h1,RS h2,RS h3,G9 h4,G9 h5,G9 h6];rfl
  ·cases h
 ·cases h
def eqE (a b:E6):Bool:=Aj (ieq a.kind b.kind) (Aj (J0 a.ext b.ext) (Aj (J0 a.same b.same) (Aj (ieq a.src b.src) (Aj (ieq a.dst b.dst) (Aj (ieq a.fence b.fence) true)))))
theorem Jn (a b:E6):eqE a b=true↔a=b:=by
 cases a; cases b;simp [eqE,Aj,ieq,J0]
theorem Acu (a b:E6):eqE a b=eqE b a:=by
 rw [Bool.eq_iff_iff,Jn,Jn];exact eq_comm
def Ds (c:Nat):E6 :=
 if c<6 then ⟨c / 2+1,c % 2 == 0,false,if c / 2 == 1 then 1 else 2,if c / 2 == 0 then 1 else 2,0⟩
 else if c<102 then ⟨if (c-6) / 8 == 0 then 4 else 5,false,decide (4 <= (c-6) % 8),1+((c-6) % 4 / 2:Nat),1+((c-6) % 2:Nat),((c-6) / 8:Nat)⟩
 else if c<106 then ⟨6,false,decide (2 <= c-102),1,1+((c-102) % 2:Nat),0⟩
 else if c<108 then ⟨7,false,c-102 == 5,1,2,0⟩
 else ⟨8,false,decide (8 <= c-102),1,1+((c-102) % 2:Nat),0⟩
def FS:E6:=⟨0,false,false,0,0,0⟩
def inR (n:Int):Bool:=decide (0 <= n) && decide (n<112)
theorem TV {n:Int} (h:inR n=true):∃ k:Nat,n=(k:Int)∧k<112:=by
 simp [inR] at h;exact ⟨n.toNat,by omega,by omega⟩
theorem AbX {n:Int} (h:inR n=false):n<0 ∨ 0 <= n∧112 <= n:=by
 simp [inR] at h;omega
def cx0:Cx:=AP Gl [] []
noncomputable def Aos:List V->A3:=λvs=>A0 (Ai tab cx0 Tryz.f160 vs [])
theorem AoJ:An Tryz.prog Gl 160 Aos:=AK A2 mixed Tryz.func160 (by kernel_rfl) (by kernel_rfl) (Bq Ao.nil _)
noncomputable def Ak9:List V->A3:=λvs=>A0 (Ai tab cx0 Tryz.f115 vs [])
theorem AoK:An Tryz.prog Gl 115 Ak9:=AK A2 mixed Tryz.func115 (by kernel_rfl) (by kernel_rfl) (Bq Ao.nil _)
noncomputable def AhC:List V->A3:=λvs=>A0 (Ai tab cx0 Tryz.f180 vs [])
theorem p74:An Tryz.prog Gl 180 AhC:=AK A2 mixed Tryz.func180 (by kernel_rfl) (by kernel_rfl) (Bq Ao.nil _)
noncomputable def Adq:List V->A3:=λvs=>A0 (Ai tab cx0 Tryz.f181 vs [])
theorem p75:An Tryz.prog Gl 181 Adq:=AK A2 mixed Tryz.func181 (by kernel_rfl) (by kernel_rfl) (Bq Ao.nil _)
noncomputable def Aot:List V->A3:=λvs=>A0 (Ai tab cx0 Tryz.f182 vs [])
theorem p76:An Tryz.prog Gl 182 Aot:=AK A2 mixed Tryz.func182 (by kernel_rfl) (by kernel_rfl) (Bq Ao.nil _)
noncomputable def tb0:A9:=(180,AhC)::(181,Adq)::(182,Aot)::[]
theorem BS:Ao Tryz.prog Gl tb0:=.cons p74 <| .cons p75 <| .cons p76 .nil
noncomputable def Akq:Cx:=AP Gl tb0 []
def J8 (c:Nat):List UInt8 :=
 if c<6 then So.getD c []
 else if 102 <= c then XM.getD (c-102) []
 else (if (c-6) / 8=0 then [80,111] else if (c-6) / 8=1 then [77,70,101,110,99,101] else if (c-6) / 8=2 then [70,101,110,99,101,46,116,115,111]
  else [70,101,110,99,101,46]++WL.getD ((c-6) / 8-3) [])++((if 4 <= (c-6) % 8 then [115] else [100])++XE.getD ((c-6) % 4) [])
end Go.Proofs.YtkbafjceglhjhaaGreatDoor.Ed
namespace Go.Proofs.YtkbafjceglhjhaaGreatDoor.Ed
open Go.Sy
theorem AjL:(List.range 112).map (λk:Nat=>(A0 (Ai tab cx0 Tryz.f160 [nV k] [])).sem)=(List.range 112).map λk=>some (eV (Ds k),[]):=by kernel_rfl
theorem Ae5:(List.range 112).map (λk:Nat=>(A0 (Ai tab cx0 Tryz.f115 [nV k] [])).sem)=(List.range 112).map λk=>some (.str (J8 k),[]):=by kernel_rfl
theorem Apn:(List.range 112).map (λk:Nat=>(A0 (Ai tab Akq Tryz.f150 [nV k] [])).sem)=(List.range 112).map λk=>some (.tup [eV (Ds k),iV 0],[]):=by kernel_rfl
theorem AmC (n:Int):(A0 (Ai tab Akq Tryz.f150 [iV n] [])).path [true,true,true,true]=some ([ilt n 0,ilt n 0,ilt n 0,true],(.tup [eV FS,iV 30],[])):=by kernel_rfl
theorem AmB (n:Int):(A0 (Ai tab Akq Tryz.f150 [iV n] [])).path [false,false,false,true]=some ([ilt n 0,ilt n 0,ilt n 0,ile 112 n],(.tup [eV FS,iV 30],[])):=by kernel_rfl
end Go.Proofs.YtkbafjceglhjhaaGreatDoor.Ed
namespace Go.Proofs.YtkbafjceglhjhaaGreatDoor.Ed
open Go.Sy
def Q9 (f:Nat->V):List V->A3
 | [v]=>match gI v with
  | some n=>.br (inR n) (.leaf (f n.toNat,[])) .fail
  | none=>.fail
 | _=>.fail
theorem OS {f:Nat->V} {vs:List V} {r:V×List Blk} (h:(Q9 f vs).sem=some r):∃ k:Nat,k<112∧vs=[nV k]∧r=(f k,[]):=by
 unfold Q9 at h;split at h
 ·split at h
  ·rename_i v n hn
   obtain ⟨h1,h2⟩:=Ac h;obtain ⟨k,rfl,hk⟩:=TV h1;exact ⟨k,hk,by rw [G9 hn]; rfl,by rw [Aa h2]; rfl⟩
  ·cases h
 ·cases h
theorem p71:An Tryz.prog Gl 160 (Q9 λk=>eV (Ds k)):=by
 refine AoJ.congr λvs r h=>?_;obtain ⟨k,hk,rfl,rfl⟩:=OS h;exact FR AjL k hk
theorem p70:An Tryz.prog Gl 115 (Q9 λk=>.str (J8 k)):=by
 refine AoK.congr λvs r h=>?_;obtain ⟨k,hk,rfl,rfl⟩:=OS h;exact FR Ae5 k hk
def ofT:List V->A3
 | [v]=>match gI v with
  | some n=>.br (inR n) (.leaf (.tup [eV (Ds n.toNat),iV 0],[])) (.leaf (.tup [eV FS,iV 30],[]))
  | none=>.fail
 | _=>.fail
theorem AaR {vs:List V} {r:V×List Blk} (h:(ofT vs).sem=some r):∃ n,vs=[iV n]∧((∃ k:Nat,n=Int.ofNat k∧k<112∧r=(.tup [eV (Ds k),iV 0],[])) ∨ ((n<0 ∨ 0 <= n∧112 <= n)∧r=(.tup [eV FS,iV 30],[]))):=by
 unfold ofT at h;split at h
 ·split at h
  ·rename_i v n hn
   refine ⟨n,by rw [G9 hn],?_⟩;cases hi:inR n with
   | true =>obtain ⟨k,rfl,hk⟩:=TV hi;simp only [T.sem,hi,sel,cond_true,Option.some.injEq] at h;exact .inl ⟨k,rfl,hk,h.symm⟩
   | false =>simp only [T.sem,hi,sel,cond_false,Option.some.injEq] at h;exact .inr ⟨AbX hi,h.symm⟩
  ·cases h
 ·cases h
theorem AeF {a b:Int} (h:a<b):ilt a b=true:=by simpa [ilt] using h
theorem AaZ {a b:Int} (h:b <= a):ilt a b=false:=by simp [ilt]; omega
theorem Xo {a b:Int} (h:a <= b):ile a b=true:=by simpa [ile] using h
theorem p31:An Tryz.prog Gl 150 ofT:=by
 refine An.congr (AK A2 mixed Tryz.func150 (by kernel_rfl) (by kernel_rfl) (Bq BS [])) λvs r h=>?_;obtain ⟨n,rfl,⟨k,rfl,hk,rfl⟩ | ⟨hn,rfl⟩⟩:=AaR h
 ·exact FR Apn k hk
 ·rcases hn with hn | ⟨h0,hn⟩
  ·exact AA (AmC n) (by rw [AeF hn])
  ·exact AA (AmB n) (by rw [AaZ h0,Xo hn])
noncomputable def tb1:A9:=(160,Q9 λk=>eV (Ds k))::(115,Q9 λk=>.str (J8 k))::(150,ofT)::[]
theorem UX:Ao Tryz.prog Gl tb1:=.cons p71 <| .cons p70 <| .cons p31 .nil
noncomputable def cx1:Cx:=AP Gl tb1 [(0,⟨[],1,[],1,113⟩)]
def GA (e:E6):Nat->Nat->Option Nat
 | 0,_=>none
 | m+1,k=>match eqE (Ds k) e with
  | true=>some k
  | false=>GA e m (Nat.succ k)
def BQ (e:E6):Int:=match GA e 112 0 with
 | some k=>Int.ofNat k
 | none=>0
def Bg (e:E6):Int:=match GA e 112 0 with
 | some _=>0
 | none=>30
def OT (e:E6):Nat->Nat->Option (V×List Blk)
 | 0,_=>some (.tup [iV 0,iV 30],[])
 | m+1,k=>sel (eqE (Ds k) e) (some (.tup [nV k,iV 0],[])) (OT e m (Nat.succ k))
def Sp (e:E6):Nat->Nat->Option (V×List Blk)
 | 0,_=>some (.tup [iV 0,iV 30],[])
 | m+1,k=>sel (eqE e (Ds k)) (some (.tup [nV k,iV 0],[])) (Sp e m (Nat.succ k))
theorem U1 (e:E6):∀ m k,OT e m k=match GA e m k with
  | some j=>some (.tup [nV j,iV 0],[])
  | none=>some (.tup [iV 0,iV 30],[])
 | 0,k=>rfl
 | m+1,k=>by
  simp only [OT,GA];cases h:eqE (Ds k) e with
  | true=>rfl
  | false=>exact U1 e m (Nat.succ k)
theorem QB (e:E6):∀ m k,Sp e m k=OT e m k
 | 0,_=>rfl
 | m+1,k=>by
  simp only [OT,Sp,QB e m,Acu e]
theorem QA (e:E6):OT e 112 0=some (.tup [iV (BQ e),iV (Bg e)],[]):=by
 rw [U1];unfold BQ Bg;cases GA e 112 0 <;> rfl
theorem Akt (e:E6):(A0 (Ai tab cx1 Tryz.f114 [eV e] [])).sem=OT e 112 0:=by kernel_rfl
theorem Aks (e:E6):(A0 (Ai tab cx1 Tryz.f119 [eV e] [])).sem=Sp e 112 0:=by kernel_rfl
def BV (f:E6->V):List V->A3
 | [v]=>match toE v with
  | some e=>.leaf (f e,[])
  | none=>.fail
 | _=>.fail
theorem Cf {f:E6->V} {vs:List V} {r:V×List Blk} (h:(BV f vs).sem=some r):∃ e,vs=[eV e]∧r=(f e,[]):=by
 unfold BV at h;split at h
 ·split at h
  ·rename_i v e hn
   exact ⟨e,by rw [Nw hn],Aa h⟩
  ·cases h
 ·cases h
def U2 (e:E6):V:=.tup [iV (BQ e),iV (Bg e)]
theorem p24:An Tryz.prog Gl 114 (BV U2):=by
 refine An.congr (AK A2 mixed Tryz.func114 (by kernel_rfl) (by kernel_rfl) (Γ:=cx1) (Bq UX _)) λvs r h=>?_;obtain ⟨e,rfl,rfl⟩:=Cf h;exact (Akt e).trans (QA e)
theorem p25:An Tryz.prog Gl 119 (BV U2):=by
 refine An.congr (AK A2 mixed Tryz.func119 (by kernel_rfl) (by kernel_rfl) (Γ:=cx1) (Bq UX _)) λvs r h=>?_;obtain ⟨e,rfl,rfl⟩:=Cf h;exact (Aks e).trans ((QB e 112 0).trans (QA e))
end Go.Proofs.YtkbafjceglhjhaaGreatDoor.Ed
namespace Go.Proofs.YtkbafjceglhjhaaGreatDoor.Ed
open Go.Sy
noncomputable def tb2:A9:=(114,BV U2)::(119,BV U2)::tb1
theorem ZQ:Ao Tryz.prog Gl tb2:=.cons p24 <| .cons p25 UX
noncomputable def cx2:Cx:=AP Gl tb2 []
theorem AfS (e:E6):(A0 (Ai tab cx2 Tryz.f121 [eV e] [])).sem=some (iV (Bg e),[]):=by kernel_rfl
theorem p29:An Tryz.prog Gl 121 (BV λe=>iV (Bg e)):=by
 refine An.congr (AK A2 mixed Tryz.func121 (by kernel_rfl) (by kernel_rfl) (Γ:=cx2) (Bq ZQ _)) λvs r h=>?_;obtain ⟨e,rfl,rfl⟩:=Cf h;exact AfS e
theorem HZ (e:E6):∀ m k j,GA e m k=some j->k <= j∧j<k+m∧Ds j=e
 | 0,k,j,h=>by cases h
 | m+1,k,j,h=>by
  simp only [GA] at h;split at h
  ·rename_i he
   simp only [Option.some.injEq] at h;subst h;exact ⟨Nat.le_refl _,by omega,(Jn _ _).1 he⟩
  ·obtain ⟨h1,h2,h3⟩:=HZ e m _ j h
   exact ⟨by omega,by omega,h3⟩
def Qm (e:E6):List UInt8:=match GA e 112 0 with
 | some k=>J8 k
 | none=>[]
def Mw (e:E6):V:=.tup [.str (Qm e),iV (Bg e)]
noncomputable def tb3:A9:=(121,BV λe=>iV (Bg e))::tb2
theorem tb3_ok:Ao Tryz.prog Gl tb3:=.cons p29 ZQ
noncomputable def tbn:A9:=(122,λvs=>A0 (Ai tab cx0 Tryz.f122 vs []))::(163,λvs=>A0 (Ai tab cx0 Tryz.f163 vs []))::[]
theorem ZL:Ao Tryz.prog Gl tbn :=
 .cons (AK A2 mixed Tryz.func122 (by kernel_rfl) (by kernel_rfl) (Γ:=cx0) (Bq .nil _)) <|
 .cons (AK A2 mixed Tryz.func163 (by kernel_rfl) (by kernel_rfl) (Γ:=cx0) (Bq .nil _)) .nil
noncomputable def cxn:Cx:=AP Gl tbn []
noncomputable def tb4:A9:=(123,λvs=>A0 (Ai tab cxn Tryz.f123 vs []))::(tbn++tb3)
theorem Ao.append {P:Program} {G:Nat->V} {a b:A9} (ha:Ao P G a) (hb:Ao P G b):Ao P G (a++b):=λp hp=>(List.mem_append.1 hp).elim (ha p) (hb p)
theorem ZP:Ao Tryz.prog Gl tb4 :=
 .cons (AK A2 mixed Tryz.func123 (by kernel_rfl) (by kernel_rfl) (Γ:=cxn) (Bq ZL _)) (Ao.append ZL tb3_ok)
noncomputable def cx4:Cx:=AP Gl tb4 []
theorem AjD:(List.range 112).map (λk:Nat=>(A0 (Ai tab cx4 Tryz.f80 [eV (Ds k)] [])).sem)=(List.range 112).map λk=>some (.tup [.str (J8 k),iV 0],[]):=by kernel_rfl
theorem Ae7 (e:E6):(A0 (Ai tab cx4 Tryz.f80 [eV e] [])).path [true]=some ([AQ (ieq (Bg e) 0)],(.tup [.str [],iV 30],[])):=by kernel_rfl
theorem Ae9 (e:E6):(A0 (Ai tab cx4 Tryz.f74 [eV e] [])).path [true]=some ([AQ (ieq (Bg e) 0)],(.tup [.str [],iV (Bg e)],[])):=by kernel_rfl
theorem Ae8 (e:E6):(A0 (Ai tab cx4 Tryz.f74 [eV e] [])).path [false,true]=some ([AQ (ieq (Bg e) 0),inR (BQ e)],(.tup [.str (J8 (BQ e).toNat),iV 0],[])):=by kernel_rfl
theorem AjE (e:E6):(A0 (Ai tab cx4 Tryz.f74 [eV e] [])).sem=some (Mw e,[]):=by
 unfold Mw Qm;cases h:GA e 112 0 with
 | none =>
  have hf:Bg e=30:=by unfold Bg; rw [h]
  exact AA (Ae9 e) (by rw [hf]; rfl)
 | some k =>
  have hf:Bg e=0:=by unfold Bg; rw [h]
  have hn:BQ e=Int.ofNat k:=by unfold BQ; rw [h]
  have hk:=(HZ e 112 0 k h).2.1;have:=AA (Ae8 e) (by rw [hf,hn,show inR (Int.ofNat k)=true by simp [inR]; omega]; rfl);rw [this,hn,hf];rfl
theorem Ae6 (e:E6):(A0 (Ai tab cx4 Tryz.f80 [eV e] [])).sem=some (Mw e,[]):=by
 unfold Mw Qm;cases h:GA e 112 0 with
 | none =>
  have hf:Bg e=30:=by unfold Bg; rw [h]
  rw [hf];exact AA (Ae7 e) (by rw [hf]; rfl)
 | some k =>
  have hf:Bg e=0:=by unfold Bg; rw [h]
  obtain ⟨_,hk,rfl⟩:=HZ e 112 0 k h;rw [hf];exact FR AjD k (by omega)
theorem p26:An Tryz.prog Gl 74 (BV Mw):=by
 refine An.congr (AK A2 mixed Tryz.func74 (by kernel_rfl) (by kernel_rfl) (Γ:=cx4) (Bq ZP _)) λvs r h=>?_;obtain ⟨e,rfl,rfl⟩:=Cf h;exact AjE e
theorem p27:An Tryz.prog Gl 80 (BV Mw):=by
 refine An.congr (AK A2 mixed Tryz.func80 (by kernel_rfl) (by kernel_rfl) (Γ:=cx4) (Bq ZP _)) λvs r h=>?_;obtain ⟨e,rfl,rfl⟩:=Cf h;exact Ae6 e
end Go.Proofs.YtkbafjceglhjhaaGreatDoor.Ed
namespace Go.Proofs.YtkbafjceglhjhaaGreatDoor.Ed
open Go.Sy
noncomputable def tb5:A9:=(80,BV Mw)::tb3
theorem tb5_ok:Ao Tryz.prog Gl tb5:=.cons p27<|tb3_ok
noncomputable def cx5:Cx:=AP Gl tb5 [(0,⟨[],1,[],1,113⟩)]
def Q3 (s:List UInt8):Nat->Nat->Option Nat
 | 0,_=>none
 | m+1,k=>match seq (J8 k) s with
  | true=>some k
  | false=>Q3 s m (Nat.succ k)
def Fx (s:List UInt8):E6:=match Q3 s 112 0 with
 | some k=>Ds k
 | none=>FS
def Fw (s:List UInt8):Int:=match Q3 s 112 0 with
 | some _=>0
 | none=>30
def NT (s:List UInt8):Nat->Nat->Option (V×List Blk)
 | 0,_=>some (.tup [eV FS,iV 30],[])
 | m+1,k=>sel (seq (J8 k) s) (some (.tup [eV (Ds k),iV 0],[])) (NT s m (Nat.succ k))
theorem Qj (s:List UInt8):∀ m k,NT s m k=match Q3 s m k with
  | some j=>some (.tup [eV (Ds j),iV 0],[])
  | none=>some (.tup [eV FS,iV 30],[])
 | 0,k=>rfl
 | m+1,k=>by
  simp only [NT,Q3];cases h:seq (J8 k) s with
  | true=>rfl
  | false=>exact Qj s m (Nat.succ k)
theorem V9 (s:List UInt8):NT s 112 0=some (.tup [eV (Fx s),iV (Fw s)],[]):=by
 rw [Qj];unfold Fx Fw;cases Q3 s 112 0 <;> rfl
theorem Ae0 (s:List UInt8):(A0 (Ai tab cx5 Tryz.f106 [.str s] [])).sem=NT s 112 0:=by kernel_rfl
def Ny (f:List UInt8->V):List V->A3
 | [v]=>match gS v with
  | some e=>.leaf (f e,[])
  | none=>.fail
 | _=>.fail
theorem UU {f:List UInt8->V} {vs:List V} {r:V×List Blk} (h:(Ny f vs).sem=some r):∃ e,vs=[.str e]∧r=(f e,[]):=by
 unfold Ny at h;split at h
 ·split at h
  ·rename_i v e hn
   exact ⟨e,by rw [X6 hn],Aa h⟩
  ·cases h
 ·cases h
def NU (s:List UInt8):V:=.tup [eV (Fx s),iV (Fw s)]
theorem p22:An Tryz.prog Gl 106 (Ny NU):=by
 refine An.congr (AK A2 mixed Tryz.func106 (by kernel_rfl) (by kernel_rfl) (Γ:=cx5) (Bq tb5_ok _)) λvs r h=>?_;obtain ⟨e,rfl,rfl⟩:=UU h;exact (Ae0 e).trans (V9 e)
noncomputable def tb6:A9:=(106,Ny NU)::tb5
theorem N3:Ao Tryz.prog Gl tb6:=.cons p22 tb5_ok
noncomputable def cx6:Cx:=AP Gl tb6 []
noncomputable def tb7:A9:=tb6
theorem Aiy:Ao Tryz.prog Gl tb7:=N3
theorem AbY (a:Int):ieq a a=true:=by simp [ieq]
end Go.Proofs.YtkbafjceglhjhaaGreatDoor.Ed
namespace Go.Proofs.YtkbafjceglhjhaaGreatDoor.Ed
open Go.Sy
set_option maxRecDepth 100000
theorem own:ownKnob Tryz.prog.godebug=none:=by kernel_rfl
theorem Afx:laidOutB Tryz.prog=true:=by kernel_rfl
def Wv (e:E6):List Value:=[.int .i64 e.kind,.bool e.ext,.bool e.same,.int .i64 e.src,.int .i64 e.dst,.int .i64 e.fence]
section
variable {H:Type} {enc:TypeId×Value->H} {W:World} {sp:Nat->Bool} {held:Bool} {r:Reach} {b0:Nat} {v:Value} {d:DataW H} {ps:List MemPlace}
theorem Ho {c d:Value} {cs:List Value} (h:cs=[d]) (hc:[c]=cs):c=d:=by
 subst h;simpa using hc
theorem Wp (fuel:Nat) (cs:List Value) (x:DataW H×List MemPlace) (h:DataW.trod enc Tryz.prog W 0 sp held fuel 76 cs=some x):∃ e:E6,cs=Wv e:=by
 obtain ⟨xs,n,_,_,hl,hx,hf⟩:=DataW.trod_struct Tryz.underlying76 h;have hl:cs.length=6:=hl.trans (by kernel_rfl);have hx:xs.length=6:=hx;obtain ⟨c0,c1,c2,c3,c4,c5,rfl⟩:∃ a b c d e f,cs=[a,b,c,d,e,f]:=by
  match cs,hl with
  | [a,b,c,d,e,f],_=>exact ⟨a,b,c,d,e,f,rfl⟩
 have get:∀ (i:Nat) (f:Field),#[({ name := "Kind",type:=3,offset:=0,embedded:=false,tag := "",pkgPath := "",byteOffset:=0 }:Field),
    { name := "Ext",type:=4,offset:=1,embedded:=false,tag := "",pkgPath := "",byteOffset:=8 },
    { name := "Same",type:=4,offset:=2,embedded:=false,tag := "",pkgPath := "",byteOffset:=9 },
    { name := "Src",type:=3,offset:=3,embedded:=false,tag := "",pkgPath := "",byteOffset:=16 },
    { name := "Dst",type:=3,offset:=4,embedded:=false,tag := "",pkgPath := "",byteOffset:=24 },
    { name := "Fence",type:=3,offset:=5,embedded:=false,tag := "",pkgPath := "",byteOffset:=32 }][i]? = some f->i<6 ->
   ∃ y,DataW.trod enc Tryz.prog W 0 sp held n f.type (([c0,c1,c2,c3,c4,c5].drop f.offset).take (Tryz.prog.cellsOf f.type))=some y:=by
  intro i f hi hlt;have:=hf i f hi;rw [List.getElem?_eq_getElem (by omega)] at this;exact ⟨_,this⟩
 have n3:Tryz.prog.cellsOf 3=1:=by kernel_rfl
 have n4:Tryz.prog.cellsOf 4=1:=by kernel_rfl
 obtain ⟨y0,g0⟩:=get 0 _ rfl (by omega);obtain ⟨y1,g1⟩:=get 1 _ rfl (by omega);obtain ⟨y2,g2⟩:=get 2 _ rfl (by omega);obtain ⟨y3,g3⟩:=get 3 _ rfl (by omega);obtain ⟨y4,g4⟩:=get 4 _ rfl (by omega);obtain ⟨y5,g5⟩:=get 5 _ rfl (by omega);have g0:DataW.trod enc Tryz.prog W 0 sp held n 3 (([c0,c1,c2,c3,c4,c5].drop 0).take (Tryz.prog.cellsOf 3))=some y0:=g0;rw [n3] at g0;have g1:DataW.trod enc Tryz.prog W 0 sp held n 4 (([c0,c1,c2,c3,c4,c5].drop 1).take (Tryz.prog.cellsOf 4))=some y1:=g1;rw [n4] at g1;have g2:DataW.trod enc Tryz.prog W 0 sp held n 4 (([c0,c1,c2,c3,c4,c5].drop 2).take (Tryz.prog.cellsOf 4))=some y2:=g2;rw [n4] at g2;have g3:DataW.trod enc Tryz.prog W 0 sp held n 3 (([c0,c1,c2,c3,c4,c5].drop 3).take (Tryz.prog.cellsOf 3))=some y3:=g3;rw [n3] at g3;have g4:DataW.trod enc Tryz.prog W 0 sp held n 3 (([c0,c1,c2,c3,c4,c5].drop 4).take (Tryz.prog.cellsOf 3))=some y4:=g4;rw [n3] at g4;have g5:DataW.trod enc Tryz.prog W 0 sp held n 3 (([c0,c1,c2,c3,c4,c5].drop 5).take (Tryz.prog.cellsOf 3))=some y5:=g5;rw [n3] at g5;obtain ⟨a0,e0,_⟩:=DataW.trod_int Tryz.underlying3 g0;obtain ⟨a1,e1,_⟩:=DataW.trod_bool Tryz.underlying4 g1;obtain ⟨a2,e2,_⟩:=DataW.trod_bool Tryz.underlying4 g2;obtain ⟨a3,e3,_⟩:=DataW.trod_int Tryz.underlying3 g3;obtain ⟨a4,e4,_⟩:=DataW.trod_int Tryz.underlying3 g4;obtain ⟨a5,e5,_⟩:=DataW.trod_int Tryz.underlying3 g5;have e0:c0 = .int .i64 a0:=Ho e0 rfl;have e1:c1 = .bool a1:=Ho e1 rfl;have e2:c2 = .bool a2:=Ho e2 rfl;have e3:c3 = .int .i64 a3:=Ho e3 rfl;have e4:c4 = .int .i64 a4:=Ho e4 rfl;have e5:c5 = .int .i64 a5:=Ho e5 rfl;exact ⟨⟨a0,a1,a2,a3,a4,a5⟩,by rw [e0,e1,e2,e3,e4,e5]; rfl⟩
theorem Agh (S:Nat->Prop) (w:World) (κ:Ar) (e:E6):VR S w (eV e) κ (.agg (Wv e).toArray) :=
 ⟨_,rfl,_,_,rfl,rfl,_,_,rfl,rfl,_,_,rfl,rfl,_,_,rfl,rfl,_,_,rfl,rfl,_,_,rfl,rfl,rfl⟩
def Aor (W:World) (v:Value) (u:V):Prop:=VR (MP W) W u noK v
instance:Inhabited E6:=⟨FS⟩
end
noncomputable def LM (os:Os):World :=
 { World.holding Tryz.prog os ⟨#[],#[],[]⟩ with heap:=(World.holding Tryz.prog os ⟨#[],#[],[]⟩).heap.mapIdx λi o=>match o with
   | .cells cs t frozen=>.cells (match i with
    | 0=>(So.map λz=>Value.string ⟨z.toArray⟩).toArray
    | 1=>(XM.map λz=>Value.string ⟨z.toArray⟩).toArray
    | 2=>(WL.map λz=>Value.string ⟨z.toArray⟩).toArray
    | 3=>(XE.map λz=>Value.string ⟨z.toArray⟩).toArray
    | 5=>((List.range 20).map λk=>Value.int .u64 ((10 ^ k:Nat):Int)).toArray
    | 6=>([0,1,28,2,29,14,24,3,30,22,20,15,25,17,4,8,31,27,13,23,21,19,16,7,26,12,18,6,11,5,10,9].map λz:Nat=>Value.int .u8 (z:Int)).toArray
    | 7=>([0,1,56,2,57,49,28,3,61,58,42,50,38,29,17,4,62,47,59,36,45,43,51,22,53,39,33,30,24,18,12,5,63,55,48,27,60,41,37,16,46,35,44,21,52,32,23,11,54,26,40,15,34,20,31,10,25,14,19,9,13,8,7,6].map λz:Nat=>Value.int .u8 (z:Int)).toArray
    | _=>cs) t frozen
   | o=>o }
end Go.Proofs.YtkbafjceglhjhaaGreatDoor.Ed
namespace Go.Proofs.YtkbafjceglhjhaaGreatDoor.Ed
open Go.Sy
set_option maxRecDepth 100000
theorem ApC {W:World} (hL:laidMetH Tryz.prog Rows.emitrHangsRow.laid W):SA Gl (MP W) W:=by
 have hL:laidMet Tryz.prog [("alembic/edge.comms",.agg (So.map λz=>.lit (.string z))),("alembic/edge.ends",.agg (XE.map λz=>.lit (.string z))),("alembic/edge.sets",.agg (WL.map λz=>.lit (.string z))),("alembic/edge.deps",.agg (XM.map λz=>.lit (.string z))),("math/bits.deBruijn32tab",Rows.laid_math_bits_deBruijn32tab),("math/bits.deBruijn64tab",Rows.laid_math_bits_deBruijn64tab),("internal/strconv.uint64pow10",Rows.laid_internal_strconv_uint64pow10)] W:=hL;obtain ⟨ps,hv,_,_⟩:=hL;obtain ⟨h0,q0,hv⟩:=Km (g:=0) (t:=197) (e:=9) (n:=6) (by kernel_rfl) (by kernel_rfl) (by kernel_rfl) (by kernel_rfl) (by kernel_rfl) (by kernel_rfl) hv;obtain ⟨h3,q3,hv⟩:=Km (g:=3) (t:=200) (e:=9) (n:=4) (by kernel_rfl) (by kernel_rfl) (by kernel_rfl) (by kernel_rfl) (by kernel_rfl) (by kernel_rfl) hv;obtain ⟨h2,q2,hv⟩:=Km (g:=2) (t:=199) (e:=9) (n:=9) (by kernel_rfl) (by kernel_rfl) (by kernel_rfl) (by kernel_rfl) (by kernel_rfl) (by kernel_rfl) hv;obtain ⟨h1,q1,hv⟩:=Km (g:=1) (t:=198) (e:=9) (n:=10) (by kernel_rfl) (by kernel_rfl) (by kernel_rfl) (by kernel_rfl) (by kernel_rfl) (by kernel_rfl) hv;intro g
 match g with
 | 0=>exact h0
 | 1=>exact h1
 | 2=>exact h2
 | 3=>exact h3
 | n+4=>trivial
end Go.Proofs.YtkbafjceglhjhaaGreatDoor.Ed
namespace Go.Proofs.YtkbafjceglhjhaaGreatDoor.Ed
open Go.Sy
def ap1 {α:Type} (d:V->Option α) (F:α->A3):List V->A3
 | [v]=>match d v with
  | some a=>F a
  | none=>.fail
 | _=>.fail
def ap2 {α β:Type} (d:V->Option α) (e:V->Option β) (F:α->β->A3):List V->A3
 | [v,u]=>match d v,e u with
  | some a,some b=>F a b
  | _,_=>.fail
 | _=>.fail
theorem Pk {α:Type} {d:V->Option α} {c:α->V} (hd:∀ v a,d v=some a->v=c a) {F:α->A3} {vs:List V} {r:V×List Blk} (h:(ap1 d F vs).sem=some r) :
  ∃ a,vs=[c a]∧(F a).sem=some r:=by
 unfold ap1 at h;split at h
 ·split at h
  ·rename_i v _ a ha
   exact ⟨a,by rw [hd v a ha],h⟩
  ·cases h
 ·cases h
theorem Ll {α β:Type} {d:V->Option α} {e:V->Option β} {c:α->V} {c':β->V} (hd:∀ v a,d v=some a->v=c a) (he:∀ v b,e v=some b->v=c' b) {F:α->β->A3}
  {vs:List V} {r:V×List Blk} (h:(ap2 d e F vs).sem=some r):∃ a b,vs=[c a,c' b]∧(F a b).sem=some r:=by
 unfold ap2 at h;split at h
 ·split at h
  ·rename_i v u _ _ a b ha hb
   exact ⟨a,b,by rw [hd v a ha,he u b hb],h⟩
  ·cases h
 ·cases h
theorem M9:∀ v a,gI v=some a->v=iV a:=λ_ _ h=>G9 h
theorem US:∀ v a,toE v=some a->v=eV a:=λ_ _ h=>Nw h
def out (v:V):A3:=.leaf (v,[])
def B7 (a:Int):Bool:=bor (ieq a 1) (ieq a 2)
def GV (a n:Int):Bool:=bor (ilt n 14) (J0 (ilt n 22) (ieq a 1))
def Ub (a:Int) (e:E6):Bool :=
 bor (ieq e.kind 1) (bor (ieq e.kind 2) (bor (ieq e.kind 3) (bor (ieq e.kind 4) (sel (ieq e.kind 5) (J0 (ieq e.fence 1) (ieq a 1)) (ieq a 2)))))
theorem Af0 (a:Int):(A0 (Ai tab cx6 Tryz.f195 [iV a] [])).sem=some (bV (B7 a),[]):=by
 have h1:(A0 (Ai tab cx6 Tryz.f195 [iV a] [])).path [true,true,true]=some ([ieq a 1,ieq a 1,ieq a 1],(bV true,[])):=by kernel_rfl
 have h2:(A0 (Ai tab cx6 Tryz.f195 [iV a] [])).path [false,false,false]=some ([ieq a 1,ieq a 1,ieq a 1],(bV (ieq a 2),[])):=by kernel_rfl
 unfold B7;cases h:ieq a 1 with
 | true=>exact AA h1 (by rw [h])
 | false=>exact AA h2 (by rw [h])
theorem Afz (a:Int):(A0 (Ai tab cx6 Tryz.f183 [iV a] [])).sem=some (bV (B7 a),[]):=by
 have h1:(A0 (Ai tab cx6 Tryz.f183 [iV a] [])).path [true,true,true]=some ([ieq a 1,ieq a 1,ieq a 1],(bV true,[])):=by kernel_rfl
 have h2:(A0 (Ai tab cx6 Tryz.f183 [iV a] [])).path [false,false,false]=some ([ieq a 1,ieq a 1,ieq a 1],(bV (ieq a 2),[])):=by kernel_rfl
 unfold B7;cases h:ieq a 1 with
 | true=>exact AA h1 (by rw [h])
 | false=>exact AA h2 (by rw [h])
theorem Aft (a n:Int):(A0 (Ai tab cx6 Tryz.f196 [iV a,iV n] [])).sem=some (bV (GV a n),[]):=by
 have h1:(A0 (Ai tab cx6 Tryz.f196 [iV a,iV n] [])).path [true]=some ([ilt n 14],(bV true,[])):=by kernel_rfl
 have h2:(A0 (Ai tab cx6 Tryz.f196 [iV a,iV n] [])).path [false]=some ([ilt n 14],(bV (J0 (ilt n 22) (ieq a 1)),[])):=by kernel_rfl
 unfold GV;cases h:ilt n 14 with
 | true=>exact AA h1 (by rw [h])
 | false=>exact AA h2 (by rw [h])
theorem An9 (a:Int) (e:E6):(A0 (Ai tab cx6 Tryz.f184 [iV a,eV e] [])).sem=some (bV (Ub a e),[]):=by
 have h1:(A0 (Ai tab cx6 Tryz.f184 [iV a,eV e] [])).path [true,true]=some ([ieq e.kind 1,ieq e.kind 1],(bV true,[])):=by kernel_rfl
 have h2:(A0 (Ai tab cx6 Tryz.f184 [iV a,eV e] [])).path [false,true,true]=some ([ieq e.kind 1,ieq e.kind 2,ieq e.kind 2],(bV true,[])):=by kernel_rfl
 have h3:(A0 (Ai tab cx6 Tryz.f184 [iV a,eV e] [])).path [false,false,true,true]=some ([ieq e.kind 1,ieq e.kind 2,ieq e.kind 3,ieq e.kind 3],(bV true,[])):=by kernel_rfl
 have h4:(A0 (Ai tab cx6 Tryz.f184 [iV a,eV e] [])).path [false,false,false,true]=some ([ieq e.kind 1,ieq e.kind 2,ieq e.kind 3,ieq e.kind 4],(bV true,[])):=by kernel_rfl
 have h5:(A0 (Ai tab cx6 Tryz.f184 [iV a,eV e] [])).path [false,false,false,false,true]=some ([ieq e.kind 1,ieq e.kind 2,ieq e.kind 3,ieq e.kind 4,ieq e.kind 5],(bV (J0 (ieq e.fence 1) (ieq a 1)),[])):=by kernel_rfl
 have h6:(A0 (Ai tab cx6 Tryz.f184 [iV a,eV e] [])).path [false,false,false,false,false]=some ([ieq e.kind 1,ieq e.kind 2,ieq e.kind 3,ieq e.kind 4,ieq e.kind 5],(bV (ieq a 2),[])):=by kernel_rfl
 unfold Ub;cases c1:ieq e.kind 1 with
 | true=>exact AA h1 (by rw [c1])
 | false =>
 cases c2:ieq e.kind 2 with
 | true=>exact AA h2 (by rw [c1,c2])
 | false =>
 cases c3:ieq e.kind 3 with
 | true=>exact AA h3 (by rw [c1,c2,c3])
 | false =>
 cases c4:ieq e.kind 4 with
 | true=>exact AA h4 (by rw [c1,c2,c3,c4])
 | false =>
 cases c5:ieq e.kind 5 with
 | true=>exact AA h5 (by rw [c1,c2,c3,c4,c5])
 | false=>exact AA h6 (by rw [c1,c2,c3,c4,c5])
theorem p77:An Tryz.prog Gl 195 (ap1 gI λa=>out (bV (B7 a))):=by
 refine An.congr (AK A2 mixed Tryz.func195 (by kernel_rfl) (by kernel_rfl) (Γ:=cx6) (Bq N3 _)) λvs r h=>?_;obtain ⟨a,rfl,h⟩:=Pk M9 h;rw [Aa h];exact Af0 a
theorem p79:An Tryz.prog Gl 183 (ap1 gI λa=>out (bV (B7 a))):=by
 refine An.congr (AK A2 mixed Tryz.func183 (by kernel_rfl) (by kernel_rfl) (Γ:=cx6) (Bq N3 _)) λvs r h=>?_;obtain ⟨a,rfl,h⟩:=Pk M9 h;rw [Aa h];exact Afz a
theorem p78:An Tryz.prog Gl 196 (ap2 gI gI λa n=>out (bV (GV a n))):=by
 refine An.congr (AK A2 mixed Tryz.func196 (by kernel_rfl) (by kernel_rfl) (Γ:=cx6) (Bq N3 _)) λvs r h=>?_;obtain ⟨a,n,rfl,h⟩:=Ll M9 M9 h;rw [Aa h];exact Aft a n
theorem p80:An Tryz.prog Gl 184 (ap2 gI toE λa e=>out (bV (Ub a e))):=by
 refine An.congr (AK A2 mixed Tryz.func184 (by kernel_rfl) (by kernel_rfl) (Γ:=cx6) (Bq N3 _)) λvs r h=>?_;obtain ⟨a,e,rfl,h⟩:=Ll M9 US h;rw [Aa h];exact An9 a e
theorem YY (k:Nat) (hk:k<112) (a:Int) (ha:B7 a=true):Ub a (Ds k)=GV a (Int.ofNat k):=by
 have h1:(List.range 112).map (λk:Nat=>Ub 1 (Ds k))=(List.range 112).map λk:Nat=>GV 1 (Int.ofNat k):=by kernel_rfl
 have h2:(List.range 112).map (λk:Nat=>Ub 2 (Ds k))=(List.range 112).map λk:Nat=>GV 2 (Int.ofNat k):=by kernel_rfl
 simp only [B7,bor,ieq,Bool.or_eq_true,beq_iff_eq] at ha;rcases ha with rfl | rfl
 ·exact FR h1 k hk
 ·exact FR h2 k hk
noncomputable def tb8:A9:=(195,ap1 gI λa=>out (bV (B7 a)))::(183,ap1 gI λa=>out (bV (B7 a)))::(196,ap2 gI gI λa n=>out (bV (GV a n)))::(184,ap2 gI toE λa e=>out (bV (Ub a e)))::tb7
theorem Lx:Ao Tryz.prog Gl tb8:=.cons p77 <| .cons p79 <| .cons p78 <| .cons p80 Aiy
noncomputable def cx8:Cx:=AP Gl tb8 [(0,⟨[],2,[],2,113⟩)]
def MK (a:Int) (e:E6):Bool:=sel (AQ (B7 a)) false (sel (AQ (ieq (Bg e) 0)) false (GV a (BQ e)))
def GW (a:Int) (e:E6):Int:=sel (AQ (B7 a)) 1 (Bg e)
def Ov (a:Int) (e:E6):V:=.tup [bV (MK a e),iV (GW a e)]
theorem Afv (a:Int) (e:E6):(A0 (Ai tab cx8 Tryz.f192 [iV a,eV e] [])).sem=some (Ov a e,[]):=by
 have h1:(A0 (Ai tab cx8 Tryz.f192 [iV a,eV e] [])).path [true]=some ([AQ (B7 a)],(.tup [bV false,iV 1],[])):=by kernel_rfl
 have h2:(A0 (Ai tab cx8 Tryz.f192 [iV a,eV e] [])).path [false,true]=some ([AQ (B7 a),AQ (ieq (Bg e) 0)],(.tup [bV false,iV (Bg e)],[])):=by kernel_rfl
 have h3:(A0 (Ai tab cx8 Tryz.f192 [iV a,eV e] [])).path [false,false]=some ([AQ (B7 a),AQ (ieq (Bg e) 0)],(.tup [bV (GV a (BQ e)),iV 0],[])):=by kernel_rfl
 unfold Ov MK GW;cases c1:AQ (B7 a) with
 | true=>exact AA h1 (by rw [c1])
 | false =>
 cases c2:AQ (ieq (Bg e) 0) with
 | true=>exact AA h2 (by rw [c1,c2])
 | false =>
  have:Bg e=0:=by simpa [AQ,ieq] using c2
  rw [this];exact AA h3 (by rw [c1,c2])
theorem Eo (e:E6):(∃ k:Nat,k<112∧Bg e=0∧BQ e=Int.ofNat k∧Ds k=e∧Qm e=J8 k) ∨ (Bg e=30∧BQ e=0∧Qm e=[]∧∀ k,k<112->Ds k ≠ e):=by
 unfold Bg BQ Qm;cases h:GA e 112 0 with
 | some k =>obtain ⟨_,h2,h3⟩:=HZ e 112 0 k h;exact .inl ⟨k,by omega,rfl,rfl,h3,rfl⟩
 | none =>
  refine .inr ⟨rfl,rfl,rfl,?_⟩;have:∀ m k,GA e m k=none->∀ j,k <= j->j<k+m->Ds j ≠ e:=by
   intro m
   induction m with
   | zero=>intro k _ j h1 h2; omega
   | succ m ih =>
    intro k hn j h1 h2;simp only [GA] at hn;split at hn
    ·cases hn
    ·rename_i hne
     by_cases hj:j=k
     ·subst hj
      intro he;rw [(Jn _ _).2 he] at hne;cases hne
     ·exact ih _ hn j (by omega) (by omega)
  exact λk hk=>this 112 0 h k (by omega) (by omega)
theorem Afu (a:Int) (e:E6):(A0 (Ai tab cx8 Tryz.f151 [iV a,eV e] [])).sem=some (Ov a e,[]):=by
 have h1:(A0 (Ai tab cx8 Tryz.f151 [iV a,eV e] [])).path [true]=some ([AQ (B7 a)],(.tup [bV false,iV 1],[])):=by kernel_rfl
 have h2:(A0 (Ai tab cx8 Tryz.f151 [iV a,eV e] [])).path [false,true]=some ([AQ (B7 a),AQ (ieq (Bg e) 0)],(.tup [bV false,iV 30],[])):=by kernel_rfl
 have h3:(A0 (Ai tab cx8 Tryz.f151 [iV a,eV e] [])).path [false,false]=some ([AQ (B7 a),AQ (ieq (Bg e) 0)],(.tup [bV (Ub a e),iV 0],[])):=by kernel_rfl
 unfold Ov MK GW;cases c1:AQ (B7 a) with
 | true=>exact AA h1 (by rw [c1])
 | false =>
 rcases Eo e with ⟨k,hk,hf,hn,he,_⟩ | ⟨hf,_⟩
 ·have c2:AQ (ieq (Bg e) 0)=false:=by rw [hf]; rfl
  have ha:B7 a=true:=by simpa [AQ] using c1
  rw [c2,hf,hn,<- YY k hk a ha,he];exact AA h3 (by rw [c1,c2])
 ·have c2:AQ (ieq (Bg e) 0)=true:=by rw [hf]; rfl
  rw [c2,hf];exact AA h2 (by rw [c1,c2])
theorem p32:An Tryz.prog Gl 192 (ap2 gI toE λa e=>out (Ov a e)):=by
 refine An.congr (AK A2 mixed Tryz.func192 (by kernel_rfl) (by kernel_rfl) (Γ:=cx8) (Bq Lx _)) λvs r h=>?_;obtain ⟨a,e,rfl,h⟩:=Ll M9 US h;rw [Aa h];exact Afv a e
theorem p33:An Tryz.prog Gl 151 (ap2 gI toE λa e=>out (Ov a e)):=by
 refine An.congr (AK A2 mixed Tryz.func151 (by kernel_rfl) (by kernel_rfl) (Γ:=cx8) (Bq Lx _)) λvs r h=>?_;obtain ⟨a,e,rfl,h⟩:=Ll M9 US h;rw [Aa h];exact Afu a e
def ApL (a:Int):List E6:=((List.range 112).filter λk=>GV a (Int.ofNat k)).map Ds
def Agc (a:Int) (i:Nat):E6:=(ApL a).getD i FS
def allT:List V->A3:=ap1 gI λa =>
 .br (ieq a 1) (.leaf (.tup [.ref 0,iV 0],[.row 76 6 22 λi=>eV (Agc 1 i)])) <|
 .br (ieq a 2) (.leaf (.tup [.ref 0,iV 0],[.row 76 6 104 λi=>eV (Agc 2 i)])) (.leaf (.tup [.ref 0,iV 1],[.row 76 6 0 λ_=>.und]))
end Go.Proofs.YtkbafjceglhjhaaGreatDoor.Ed
