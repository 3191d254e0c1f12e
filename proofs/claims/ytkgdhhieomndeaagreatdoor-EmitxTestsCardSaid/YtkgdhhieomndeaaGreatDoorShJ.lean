/-
  Layer 7: a location's name; what must come, whatever the arguments are. No conditions.
-/
import Derived.Test.YtkgdhhieomndeaaGreatDoorCyZp
import Derived.Test.YtkgdhhieomndeaaGreatDoorEdX
namespace Go.Proofs.YtkgdhhieomndeaaGreatDoor.Sh
open Go.Sy Ed
open Int (ofNat)
set_option maxRecDepth 4000
def Ao9:List UInt8:=[120,121,122,97,98,99,100,101,102,103,104,105,106,107,108,109]
def C2 (x:Int):Int:=bif bor (ilt x 0) (ile 16 x) then 4 else 0
def B1 (x:Int):List UInt8:=bif bor (ilt x 0) (ile 16 x) then [] else [Ao9.getD x.toNat 0]
def Ov:List V->AR
 | [.val (.int .i64 x)]=>.leaf (.tup [.str (B1 x),iV (C2 x)],[])
 | _=>.fail
theorem AeO:(Az (Ak tab (AC Gl tb0 []) Tryz.f20 [nV 0] [])).sem=some (.tup [.str (B1 (ofNat 0)),iV (C2 (ofNat 0))],[]):=by kernel_rfl
theorem AeN:(Az (Ak tab (AC Gl tb0 []) Tryz.f20 [nV 1] [])).sem=some (.tup [.str (B1 (ofNat 1)),iV (C2 (ofNat 1))],[]):=by kernel_rfl
theorem AeM:(Az (Ak tab (AC Gl tb0 []) Tryz.f20 [nV 2] [])).sem=some (.tup [.str (B1 (ofNat 2)),iV (C2 (ofNat 2))],[]):=by kernel_rfl
theorem AeL:(Az (Ak tab (AC Gl tb0 []) Tryz.f20 [nV 3] [])).sem=some (.tup [.str (B1 (ofNat 3)),iV (C2 (ofNat 3))],[]):=by kernel_rfl
theorem AeK:(Az (Ak tab (AC Gl tb0 []) Tryz.f20 [nV 4] [])).sem=some (.tup [.str (B1 (ofNat 4)),iV (C2 (ofNat 4))],[]):=by kernel_rfl
theorem AeJ:(Az (Ak tab (AC Gl tb0 []) Tryz.f20 [nV 5] [])).sem=some (.tup [.str (B1 (ofNat 5)),iV (C2 (ofNat 5))],[]):=by kernel_rfl
theorem AeI:(Az (Ak tab (AC Gl tb0 []) Tryz.f20 [nV 6] [])).sem=some (.tup [.str (B1 (ofNat 6)),iV (C2 (ofNat 6))],[]):=by kernel_rfl
theorem AeH:(Az (Ak tab (AC Gl tb0 []) Tryz.f20 [nV 7] [])).sem=some (.tup [.str (B1 (ofNat 7)),iV (C2 (ofNat 7))],[]):=by kernel_rfl
theorem AeG:(Az (Ak tab (AC Gl tb0 []) Tryz.f20 [nV 8] [])).sem=some (.tup [.str (B1 (ofNat 8)),iV (C2 (ofNat 8))],[]):=by kernel_rfl
theorem AeF:(Az (Ak tab (AC Gl tb0 []) Tryz.f20 [nV 9] [])).sem=some (.tup [.str (B1 (ofNat 9)),iV (C2 (ofNat 9))],[]):=by kernel_rfl
theorem Abv:(Az (Ak tab (AC Gl tb0 []) Tryz.f20 [nV 10] [])).sem=some (.tup [.str (B1 (ofNat 10)),iV (C2 (ofNat 10))],[]):=by kernel_rfl
theorem Abu:(Az (Ak tab (AC Gl tb0 []) Tryz.f20 [nV 11] [])).sem=some (.tup [.str (B1 (ofNat 11)),iV (C2 (ofNat 11))],[]):=by kernel_rfl
theorem Abt:(Az (Ak tab (AC Gl tb0 []) Tryz.f20 [nV 12] [])).sem=some (.tup [.str (B1 (ofNat 12)),iV (C2 (ofNat 12))],[]):=by kernel_rfl
theorem Abs:(Az (Ak tab (AC Gl tb0 []) Tryz.f20 [nV 13] [])).sem=some (.tup [.str (B1 (ofNat 13)),iV (C2 (ofNat 13))],[]):=by kernel_rfl
theorem Abr:(Az (Ak tab (AC Gl tb0 []) Tryz.f20 [nV 14] [])).sem=some (.tup [.str (B1 (ofNat 14)),iV (C2 (ofNat 14))],[]):=by kernel_rfl
theorem Abq:(Az (Ak tab (AC Gl tb0 []) Tryz.f20 [nV 15] [])).sem=some (.tup [.str (B1 (ofNat 15)),iV (C2 (ofNat 15))],[]):=by kernel_rfl
theorem Amt (k:Nat) (hk:k<16):(Az (Ak tab (AC Gl tb0 []) Tryz.f20 [nV k] [])).sem=some (.tup [.str (B1 (ofNat k)),iV (C2 (ofNat k))],[]):=by
 have:k=0 ∨ k=1 ∨ k=2 ∨ k=3 ∨ k=4 ∨ k=5 ∨ k=6 ∨ k=7 ∨ k=8 ∨ k=9 ∨ k=10 ∨ k=11 ∨ k=12 ∨ k=13 ∨ k=14 ∨ k=15:=by omega
 rcases this with rfl | rfl | rfl | rfl | rfl | rfl | rfl | rfl | rfl | rfl | rfl | rfl | rfl | rfl | rfl | rfl
 ·exact AeO
 ·exact AeN
 ·exact AeM
 ·exact AeL
 ·exact AeK
 ·exact AeJ
 ·exact AeI
 ·exact AeH
 ·exact AeG
 ·exact AeF
 ·exact Abv
 ·exact Abu
 ·exact Abt
 ·exact Abs
 ·exact Abr
 ·exact Abq
theorem p37:Ax Tryz.prog Gl 20 Ov:=by
 refine Ax.congr (AN A8 mixed Tryz.func20 (by kernel_rfl) (by kernel_rfl) (Γ:=AC Gl tb0 []) (AI C8 [])) λvs r h=>?_;unfold Ov at h;split at h
 ·rename_i x
  rw [Ac h];show (Az (Ak tab (AC Gl tb0 []) Tryz.f20 [iV x] [])).sem=_;cases c0:ilt x 0 with
  | true =>rw [show B1 x=[] by unfold B1 bor; rw [c0]; rfl,show C2 x=4 by unfold C2 bor; rw [c0]; rfl];exact Ab (ks:=[kn c0,kn c0,kn c0,kT]) (by kernel_rfl)
  | false =>
   cases c1:ile 16 x with
   | true =>rw [show B1 x=[] by unfold B1 bor; rw [c0,c1]; rfl,show C2 x=4 by unfold C2 bor; rw [c0,c1]; rfl];exact Ab (ks:=[kn c0,kn c0,kn c0,kn c1]) (by kernel_rfl)
   | false =>have h1:¬ x<0:=of_decide_eq_false c0;have h2:¬ (16:Int) <= x:=of_decide_eq_false c1;obtain ⟨k,rfl⟩:∃ k:Nat,x=ofNat k:=⟨x.toNat,by simp only [Int.ofNat_eq_natCast]; omega⟩;exact Amt k (by simp only [Int.ofNat_eq_natCast] at h2; omega)
 ·cases h
theorem AeE:(Az (Ak tab (AC Gl tb0 []) Tryz.f45 [nV 0] [])).sem=some (.tup [.str (B1 (ofNat 0)),iV (C2 (ofNat 0))],[]):=by kernel_rfl
theorem AeD:(Az (Ak tab (AC Gl tb0 []) Tryz.f45 [nV 1] [])).sem=some (.tup [.str (B1 (ofNat 1)),iV (C2 (ofNat 1))],[]):=by kernel_rfl
theorem AeC:(Az (Ak tab (AC Gl tb0 []) Tryz.f45 [nV 2] [])).sem=some (.tup [.str (B1 (ofNat 2)),iV (C2 (ofNat 2))],[]):=by kernel_rfl
theorem AeB:(Az (Ak tab (AC Gl tb0 []) Tryz.f45 [nV 3] [])).sem=some (.tup [.str (B1 (ofNat 3)),iV (C2 (ofNat 3))],[]):=by kernel_rfl
theorem AeA:(Az (Ak tab (AC Gl tb0 []) Tryz.f45 [nV 4] [])).sem=some (.tup [.str (B1 (ofNat 4)),iV (C2 (ofNat 4))],[]):=by kernel_rfl
theorem Ae9:(Az (Ak tab (AC Gl tb0 []) Tryz.f45 [nV 5] [])).sem=some (.tup [.str (B1 (ofNat 5)),iV (C2 (ofNat 5))],[]):=by kernel_rfl
theorem Ae8:(Az (Ak tab (AC Gl tb0 []) Tryz.f45 [nV 6] [])).sem=some (.tup [.str (B1 (ofNat 6)),iV (C2 (ofNat 6))],[]):=by kernel_rfl
theorem Ae7:(Az (Ak tab (AC Gl tb0 []) Tryz.f45 [nV 7] [])).sem=some (.tup [.str (B1 (ofNat 7)),iV (C2 (ofNat 7))],[]):=by kernel_rfl
theorem Ae6:(Az (Ak tab (AC Gl tb0 []) Tryz.f45 [nV 8] [])).sem=some (.tup [.str (B1 (ofNat 8)),iV (C2 (ofNat 8))],[]):=by kernel_rfl
theorem Ae5:(Az (Ak tab (AC Gl tb0 []) Tryz.f45 [nV 9] [])).sem=some (.tup [.str (B1 (ofNat 9)),iV (C2 (ofNat 9))],[]):=by kernel_rfl
theorem Abp:(Az (Ak tab (AC Gl tb0 []) Tryz.f45 [nV 10] [])).sem=some (.tup [.str (B1 (ofNat 10)),iV (C2 (ofNat 10))],[]):=by kernel_rfl
theorem Abo:(Az (Ak tab (AC Gl tb0 []) Tryz.f45 [nV 11] [])).sem=some (.tup [.str (B1 (ofNat 11)),iV (C2 (ofNat 11))],[]):=by kernel_rfl
theorem Abn:(Az (Ak tab (AC Gl tb0 []) Tryz.f45 [nV 12] [])).sem=some (.tup [.str (B1 (ofNat 12)),iV (C2 (ofNat 12))],[]):=by kernel_rfl
theorem Abm:(Az (Ak tab (AC Gl tb0 []) Tryz.f45 [nV 13] [])).sem=some (.tup [.str (B1 (ofNat 13)),iV (C2 (ofNat 13))],[]):=by kernel_rfl
theorem Abl:(Az (Ak tab (AC Gl tb0 []) Tryz.f45 [nV 14] [])).sem=some (.tup [.str (B1 (ofNat 14)),iV (C2 (ofNat 14))],[]):=by kernel_rfl
theorem Abk:(Az (Ak tab (AC Gl tb0 []) Tryz.f45 [nV 15] [])).sem=some (.tup [.str (B1 (ofNat 15)),iV (C2 (ofNat 15))],[]):=by kernel_rfl
theorem Ams (k:Nat) (hk:k<16):(Az (Ak tab (AC Gl tb0 []) Tryz.f45 [nV k] [])).sem=some (.tup [.str (B1 (ofNat k)),iV (C2 (ofNat k))],[]):=by
 have:k=0 ∨ k=1 ∨ k=2 ∨ k=3 ∨ k=4 ∨ k=5 ∨ k=6 ∨ k=7 ∨ k=8 ∨ k=9 ∨ k=10 ∨ k=11 ∨ k=12 ∨ k=13 ∨ k=14 ∨ k=15:=by omega
 rcases this with rfl | rfl | rfl | rfl | rfl | rfl | rfl | rfl | rfl | rfl | rfl | rfl | rfl | rfl | rfl | rfl
 ·exact AeE
 ·exact AeD
 ·exact AeC
 ·exact AeB
 ·exact AeA
 ·exact Ae9
 ·exact Ae8
 ·exact Ae7
 ·exact Ae6
 ·exact Ae5
 ·exact Abp
 ·exact Abo
 ·exact Abn
 ·exact Abm
 ·exact Abl
 ·exact Abk
theorem p38:Ax Tryz.prog Gl 45 Ov:=by
 refine Ax.congr (AN A8 mixed Tryz.func45 (by kernel_rfl) (by kernel_rfl) (Γ:=AC Gl tb0 []) (AI C8 [])) λvs r h=>?_;unfold Ov at h;split at h
 ·rename_i x
  rw [Ac h];show (Az (Ak tab (AC Gl tb0 []) Tryz.f45 [iV x] [])).sem=_;cases c0:ilt x 0 with
  | true =>rw [show B1 x=[] by unfold B1 bor; rw [c0]; rfl,show C2 x=4 by unfold C2 bor; rw [c0]; rfl];exact Ab (ks:=[kn c0,kn c0,kn c0,kn c0,kn c0,kT]) (by kernel_rfl)
  | false =>
   cases c1:ile 16 x with
   | true =>rw [show B1 x=[] by unfold B1 bor; rw [c0,c1]; rfl,show C2 x=4 by unfold C2 bor; rw [c0,c1]; rfl];exact Ab (ks:=[kn c0,kn c0,kn c0,kn c0,kn c0,kn c1]) (by kernel_rfl)
   | false =>have h1:¬ x<0:=of_decide_eq_false c0;have h2:¬ (16:Int) <= x:=of_decide_eq_false c1;obtain ⟨k,rfl⟩:∃ k:Nat,x=ofNat k:=⟨x.toNat,by simp only [Int.ofNat_eq_natCast]; omega⟩;exact Ams k (by simp only [Int.ofNat_eq_natCast] at h2; omega)
 ·cases h
noncomputable def tb18:AP:=(32,psT)::(57,ofT)::(20,Ov)::[]
theorem tb18_ok:Av Tryz.prog Gl tb18:=.cons p41 <| .cons p14 <| .cons p37 .nil
end Go.Proofs.YtkgdhhieomndeaaGreatDoor.Sh
namespace Go.Proofs.YtkgdhhieomndeaaGreatDoor.Sh
open Go.Sy Ed
set_option maxHeartbeats 1000000
set_option maxRecDepth 4000
theorem small_16 {k:Nat} (h:k <= 16):Aj k=true:=decide_eq_true (by omega)
theorem sameB_rfl (n:Nat) (f:Nat->E6):Cv n f n f=true:=HZ.2 ⟨rfl,λ_ _=>rfl⟩
theorem sameI_rfl (n:Nat) (f:Nat->Int):CJ n f n f=true:=by
 unfold CJ;rw [Bq (Bm _)];exact A0.2 λ_ _=>Bm _
theorem sameJ_rfl (n:Nat) (ln:Nat->Nat) (co:Nat->Nat->Int):DJ n ln co n ln co=true:=by
 unfold DJ;rw [Bq (Bm _)];exact A0.2 λ_ _=>sameI_rfl _ _
theorem sameX_rfl (e:Ev5):F6 e e=true:=by
 unfold F6;rw [Bq (Bm _),Bq (Bm _),Bq (Bm _),Bq (Bm _),Bq (Bm _)]
theorem ln_le (m w:Nat->Bool) (n k:Nat) (h:Ck m n (stN m n k) <= n+1):lnN m w n k <= n+1:=Nat.le_trans (Be _ _) h
noncomputable def tb3:AP:=(57,ofT)::(33,ofT)::(9,Hh)::[]
theorem tb3_ok:Av Tryz.prog Gl tb3:=.cons p14 <| .cons p15 <| .cons p16 <| .nil
end Go.Proofs.YtkgdhhieomndeaaGreatDoor.Sh
namespace Go.Proofs.YtkgdhhieomndeaaGreatDoor.Sh
open Go.Sy Ed
open Int (ofNat)
set_option maxHeartbeats 1000000
set_option maxRecDepth 4000
theorem AdW {n:Nat} {f:Nat->E6} {m:Nat} {g:Nat->E6} (h:ieq (ofNat n) (ofNat m)=false):Cv n f m g=false:=by
 unfold Cv;rw [h];rfl
theorem AbX {a b:E6}:eqE a b=true↔a=b:=by
 have h:=@HZ 1 (λ_=>a) 1 (λ_=>b);have e:Cv 1 (λ_=>a) 1 (λ_=>b)=eqE a b:=by
  show sel (eqE a b) true false=_;cases eqE a b <;> rfl
 rw [e] at h;exact ⟨λhh=>(h.1 hh).2 0 (by omega),λhh=>h.2 ⟨rfl,λ_ _=>hh⟩⟩
theorem AdV {n:Nat} {f:Nat->E6} {m:Nat} {g:Nat->E6} (h:ieq (ofNat n) (ofNat m)=true):Cv n f m g=AB n λk=>eqE (f k) (g k):=by
 rw [Bool.eq_iff_iff,HZ,A0];exact ⟨λhh k hk=>AbX.2 (hh.2 k hk),λhh=>⟨BX h,λk hk=>AbX.1 (hh k hk)⟩⟩
def PO (n:Nat) (f:Nat->Ev5) (m:Nat) (g:Nat->Ev5):Bool:=Al (ieq (ofNat n) (ofNat m)) (AB n λk=>F6 (f k) (g k))
def Vg:List V->AR
 | [v,u]=>apG Se v λn f=>apG Se u λm g=>.br (Aj n) (.leaf (bV (Cv n f m g),[])) .fail
 | _=>.fail
def Vf:List V->AR
 | [v,u]=>apG Sc v λn f=>apG Sc u λm g=>.br (Aj n) (.leaf (bV (PO n f m g),[])) .fail
 | _=>.fail
def Rc:List V->AR
 | [v,u,.fn 91 []]=>apG Sd v λn C=>apG Sd u λm D=>.br (Aj n) (.br (AB n λi=>Aj (C i).1) (.leaf (bV (DJ n (λi=>(C i).1) (λi=>(C i).2) m (λi=>(D i).1) (λi=>(D i).2)),[])) .fail) .fail
 | _=>.fail
def Aml:Lp:=⟨bmK 26 0 [0,1,4,12,13],0,bmK 26 0 [4],0,4611686018427387905⟩
def S89 (n:Nat) (f:Nat->E6) (m:Nat) (g:Nat->E6) (c:Int) (a:Unit) (j:Nat->V):St:=⟨jsV 26 0 j [(0,.sl 6 n (λi=>eV (f i))),(1,.sl 6 m (λi=>eV (g i))),(4,bV false),(12,nV n),(13,iV c)],[]⟩
noncomputable def B89 (L:LT):St->T (Ex×St):=λst=>A7 tab ⟨Ap tb0,L,Gl⟩ (Ar Tryz.f89 0) 0 st
def AjO (n:Nat) (f:Nat->E6) (m:Nat) (g:Nat->E6) (i:Nat) (a:Unit):Ex×St:=(.rt,⟨jsV 26 0 Aa [(4,bV false)],[]⟩)
def g89 (n:Nat) (f:Nat->E6) (m:Nat) (g:Nat->E6) (i:Nat) (a:Unit):T ((Unit) ⊕ (Ex×St)):=.br (eqE (f i) (g i)) (.leaf (.inl ())) (.leaf (.inr (AjO n f m g i a)))
def AmB (n:Nat) (f:Nat->E6) (m:Nat) (g:Nat->E6) (a:Unit):Ex×St:=(.ex 0,⟨jsV 26 0 Aa [(4,bV false)],[]⟩)
theorem r89 (L:LT) (n:Nat) (f:Nat->E6) (m:Nat) (g:Nat->E6) (hm:n=m) (hn:n <= 4611686018427387904) {e:Ex×St} {a:Unit} {j:Nat->V} (h:Cy (g89 n f m g) (AmB n f m g) n 0 a=some e):(A3 (B89 L) Aml 4611686018427387905 (S89 n f m g 0 a j)).sem=some (exR e) :=
 Cd Dx hn (λi a j r hi h=>DK.ok (L:=goR (S89 n f m g) exR i) (.k (ofNat_lt hi) <| .k (Ao hi) <| .k (Ao (hm ▸ hi)) <| .c (λh1=>.k (eN h1) <| .l) λh1=>.k (eN h1) <| .l) (by kernel_rfl) h) (λa j=>DK.ok (C:=.leaf (AmB n f m g a)) (L:=exR) (.k (A1 (Nat.le_refl n)) .l) (by kernel_rfl) rfl) (Nat.zero_add _).symm (Nat.lt_succ_of_le hn) h
def Ae0:List (Nat×Lp×List (Nat×(Nat->V))):=[(0,Aml,[])]
def C89 (n:Nat) (f:Nat->E6) (m:Nat) (g:Nat->E6):AR:=.br (ieq (ofNat n) (ofNat m)) (.br (AB n λk=>eqE (f k) (g k)) (.leaf ((bV true),[])) (.leaf ((bV false),[]))) (.leaf ((bV false),[]))
theorem Af5 (n:Nat) (f:Nat->E6) (m:Nat) (g:Nat->E6):(C89 n f m g).sem=some (bV (Cv n f m g),[]):=by
 unfold C89;cases h:ieq (ofNat n) (ofNat m)
 ·rw [AdW h]; rfl
 rw [AdV h];cases AB n λk=>eqE (f k) (g k) <;> rfl
theorem p103:Ax Tryz.prog Gl 89 Vg:=by
 refine Am A8 mixed Tryz.func89 (by kernel_rfl) (by kernel_rfl) λvs v h' h=>?_;unfold Vg at h;split at h
 ·rename_i v1 u1
  obtain ⟨n,f,a1,h⟩:=Bs h;obtain ⟨m,g,a2,h⟩:=Bs h;obtain ⟨hn,h⟩:=Ad h;have:=Ac h;simp only [Prod.mk.injEq] at this;obtain ⟨rfl,rfl⟩:=this;have w:DK (λa=>a) (C89 n f m g) _:=.c (λh1=>.k (eN h1) <| .c (λh2=>.a (r89 (askL Ae0) n f m g (BX h1) (CA hn) (j:=λ_=>.und) (Pe (λ_ _=>rfl) h2)) <| .l) λh2=>.a (r89 (askL Ae0) n f m g (BX h1) (CA hn) (j:=λ_=>.und) (Pf (λ_ _=>rfl) h2)) <| .l) λh1=>.k (eN h1) <| .l
  have hx:=FK C8 Ae0 (G:=Gl);exact ⟨_,cxA Gl tb0 Ae0,_,(show Bf [v1,u1] [Ie Se n f,Ie Se m g] from λS w cs hv=>by
   obtain ⟨c,l,rfl,q1,c',l',rfl,q2,q3⟩:=hv;exact ⟨c,_,rfl,a1 S w c q1,c',l',rfl,a2 S w c' q2,q3⟩),rfl,hx.1,hx.2,DK.of (Af5 n f m g) w (by kernel_rfl),Aw.refl _⟩
 ·cases h
def Amk:Lp:=⟨bmK 26 0 [0,1,4,12,13],0,bmK 26 0 [4],0,4611686018427387905⟩
def S90 (n:Nat) (f:Nat->Ev5) (m:Nat) (g:Nat->Ev5) (c:Int) (a:Unit) (j:Nat->V):St:=⟨jsV 26 0 j [(0,.sl 5 n (λi=>evV (f i))),(1,.sl 5 m (λi=>evV (g i))),(4,bV false),(12,nV n),(13,iV c)],[]⟩
noncomputable def B90 (L:LT):St->T (Ex×St):=λst=>A7 tab ⟨Ap tb0,L,Gl⟩ (Ar Tryz.f90 0) 0 st
def AjN (n:Nat) (f:Nat->Ev5) (m:Nat) (g:Nat->Ev5) (i:Nat) (a:Unit):Ex×St:=(.rt,⟨jsV 26 0 Aa [(4,bV false)],[]⟩)
def g90 (n:Nat) (f:Nat->Ev5) (m:Nat) (g:Nat->Ev5) (i:Nat) (a:Unit):T ((Unit) ⊕ (Ex×St)):=.br (Al (ieq (f i).th (g i).th) (Al (ieq (f i).pl (g i).pl) (Al (ieq (f i).dir (g i).dir) (Al (ieq (f i).loc (g i).loc) (Al (ieq (f i).val (g i).val) true))))) (.leaf (.inl ())) (.leaf (.inr (AjN n f m g i a)))
def AmA (n:Nat) (f:Nat->Ev5) (m:Nat) (g:Nat->Ev5) (a:Unit):Ex×St:=(.ex 0,⟨jsV 26 0 Aa [(4,bV false)],[]⟩)
theorem r90 (L:LT) (n:Nat) (f:Nat->Ev5) (m:Nat) (g:Nat->Ev5) (hm:n=m) (hn:n <= 4611686018427387904) {e:Ex×St} {a:Unit} {j:Nat->V} (h:Cy (g90 n f m g) (AmA n f m g) n 0 a=some e):(A3 (B90 L) Amk 4611686018427387905 (S90 n f m g 0 a j)).sem=some (exR e) :=
 Cd Dx hn (λi a j r hi h=>DK.ok (L:=goR (S90 n f m g) exR i) (.k (ofNat_lt hi) <| .k (Ao hi) <| .k (Ao (hm ▸ hi)) <| .c (λh1=>.k (eN h1) <| .l) λh1=>.k (eN h1) <| .l) (by kernel_rfl) h) (λa j=>DK.ok (C:=.leaf (AmA n f m g a)) (L:=exR) (.k (A1 (Nat.le_refl n)) .l) (by kernel_rfl) rfl) (Nat.zero_add _).symm (Nat.lt_succ_of_le hn) h
def Aez:List (Nat×Lp×List (Nat×(Nat->V))):=[(0,Amk,[])]
def C90 (n:Nat) (f:Nat->Ev5) (m:Nat) (g:Nat->Ev5):AR:=.br (ieq (ofNat n) (ofNat m)) (.br (AB n λk=>F6 (f k) (g k)) (.leaf ((bV true),[])) (.leaf ((bV false),[]))) (.leaf ((bV false),[]))
theorem Af4 (n:Nat) (f:Nat->Ev5) (m:Nat) (g:Nat->Ev5):(C90 n f m g).sem=some (bV (PO n f m g),[]):=by
 unfold C90;unfold PO;cases ieq (ofNat n) (ofNat m)
 ·rfl
 cases AB n λk=>F6 (f k) (g k) <;> rfl
theorem p104:Ax Tryz.prog Gl 90 Vf:=by
 refine Am A8 mixed Tryz.func90 (by kernel_rfl) (by kernel_rfl) λvs v h' h=>?_;unfold Vf at h;split at h
 ·rename_i v1 u1
  obtain ⟨n,f,a1,h⟩:=Bs h;obtain ⟨m,g,a2,h⟩:=Bs h;obtain ⟨hn,h⟩:=Ad h;have:=Ac h;simp only [Prod.mk.injEq] at this;obtain ⟨rfl,rfl⟩:=this;have w:DK (λa=>a) (C90 n f m g) _:=.c (λh1=>.k (eN h1) <| .c (λh2=>.a (r90 (askL Aez) n f m g (BX h1) (CA hn) (j:=λ_=>.und) (Pe (λ_ _=>rfl) h2)) <| .l) λh2=>.a (r90 (askL Aez) n f m g (BX h1) (CA hn) (j:=λ_=>.und) (Pf (λ_ _=>rfl) h2)) <| .l) λh1=>.k (eN h1) <| .l
  have hx:=FK C8 Aez (G:=Gl);exact ⟨_,cxA Gl tb0 Aez,_,(show Bf [v1,u1] [Ie Sc n f,Ie Sc m g] from λS w cs hv=>by
   obtain ⟨c,l,rfl,q1,c',l',rfl,q2,q3⟩:=hv;exact ⟨c,_,rfl,a1 S w c q1,c',l',rfl,a2 S w c' q2,q3⟩),rfl,hx.1,hx.2,DK.of (Af4 n f m g) w (by kernel_rfl),Aw.refl _⟩
 ·cases h
def Amj:Lp:=⟨bmK 26 0 [0,1,4,12,13],0,bmK 26 0 [4],0,4611686018427387905⟩
def S91 (n:Nat) (f:Nat->Int) (m:Nat) (g:Nat->Int) (c:Int) (a:Unit) (j:Nat->V):St:=⟨jsV 26 0 j [(0,.sl 1 n (λi=>iV (f i))),(1,.sl 1 m (λi=>iV (g i))),(4,bV false),(12,nV n),(13,iV c)],[]⟩
noncomputable def B91 (L:LT):St->T (Ex×St):=λst=>A7 tab ⟨Ap tb0,L,Gl⟩ (Ar Tryz.f91 0) 0 st
def AjM (n:Nat) (f:Nat->Int) (m:Nat) (g:Nat->Int) (i:Nat) (a:Unit):Ex×St:=(.rt,⟨jsV 26 0 Aa [(4,bV false)],[]⟩)
def g91 (n:Nat) (f:Nat->Int) (m:Nat) (g:Nat->Int) (i:Nat) (a:Unit):T ((Unit) ⊕ (Ex×St)):=.br (ieq (f i) (g i)) (.leaf (.inl ())) (.leaf (.inr (AjM n f m g i a)))
def Am9 (n:Nat) (f:Nat->Int) (m:Nat) (g:Nat->Int) (a:Unit):Ex×St:=(.ex 0,⟨jsV 26 0 Aa [(4,bV false)],[]⟩)
theorem r91 (L:LT) (n:Nat) (f:Nat->Int) (m:Nat) (g:Nat->Int) (hm:n=m) (hn:n <= 4611686018427387904) {e:Ex×St} {a:Unit} {j:Nat->V} (h:Cy (g91 n f m g) (Am9 n f m g) n 0 a=some e):(A3 (B91 L) Amj 4611686018427387905 (S91 n f m g 0 a j)).sem=some (exR e) :=
 Cd Dx hn (λi a j r hi h=>DK.ok (L:=goR (S91 n f m g) exR i) (.k (ofNat_lt hi) <| .k (Ao hi) <| .k (Ao (hm ▸ hi)) <| .c (λh1=>.k (eN h1) <| .l) λh1=>.k (eN h1) <| .l) (by kernel_rfl) h) (λa j=>DK.ok (C:=.leaf (Am9 n f m g a)) (L:=exR) (.k (A1 (Nat.le_refl n)) .l) (by kernel_rfl) rfl) (Nat.zero_add _).symm (Nat.lt_succ_of_le hn) h
def Aey:List (Nat×Lp×List (Nat×(Nat->V))):=[(0,Amj,[])]
def C91 (n:Nat) (f:Nat->Int) (m:Nat) (g:Nat->Int):AR:=.br (ieq (ofNat n) (ofNat m)) (.br (AB n λk=>ieq (f k) (g k)) (.leaf ((bV true),[])) (.leaf ((bV false),[]))) (.leaf ((bV false),[]))
theorem Af3 (n:Nat) (f:Nat->Int) (m:Nat) (g:Nat->Int):(C91 n f m g).sem=some (bV (CJ n f m g),[]):=by
 unfold C91;unfold CJ;cases ieq (ofNat n) (ofNat m)
 ·rfl
 cases AB n λk=>ieq (f k) (g k) <;> rfl
theorem Amd:Ax Tryz.prog Gl 91 HY:=by
 refine Am A8 mixed Tryz.func91 (by kernel_rfl) (by kernel_rfl) λvs v h' h=>?_;unfold HY at h;split at h
 ·rename_i v1 u1
  obtain ⟨n,f,a1,h⟩:=Bs h;obtain ⟨m,g,a2,h⟩:=Bs h;obtain ⟨hn,h⟩:=Ad h;have:=Ac h;simp only [Prod.mk.injEq] at this;obtain ⟨rfl,rfl⟩:=this;have w:DK (λa=>a) (C91 n f m g) _:=.c (λh1=>.k (eN h1) <| .c (λh2=>.a (r91 (askL Aey) n f m g (BX h1) (CA hn) (j:=λ_=>.und) (Pe (λ_ _=>rfl) h2)) <| .l) λh2=>.a (r91 (askL Aey) n f m g (BX h1) (CA hn) (j:=λ_=>.und) (Pf (λ_ _=>rfl) h2)) <| .l) λh1=>.k (eN h1) <| .l
  have hx:=FK C8 Aey (G:=Gl);exact ⟨_,cxA Gl tb0 Aey,_,(show Bf [v1,u1] [Ie ML n f,Ie ML m g] from λS w cs hv=>by
   obtain ⟨c,l,rfl,q1,c',l',rfl,q2,q3⟩:=hv;exact ⟨c,_,rfl,a1 S w c q1,c',l',rfl,a2 S w c' q2,q3⟩),rfl,hx.1,hx.2,DK.of (Af3 n f m g) w (by kernel_rfl),Aw.refl _⟩
 ·cases h
noncomputable def tb106:AP:=(91,HY)::[]
theorem tb106_ok:Av Tryz.prog Gl tb106:=.cons Amd .nil
def Agr:Lp:=⟨bmK 32 0 [0,1,2,6,15,16,17],0,bmK 32 0 [6],0,4611686018427387905⟩
def Ang (n:Nat) (C:Nat->Nat×(Nat->Int)) (m:Nat) (D:Nat->Nat×(Nat->Int)) (c:Int) (a:Unit) (j:Nat->V):St:=⟨jsV 32 0 j [(0,.sl 1 n (λu=>.sl 1 (C u).1 (λi=>iV ((C u).2 i)))),(1,.sl 1 m (λu=>.sl 1 (D u).1 (λi=>iV ((D u).2 i)))),(2,.fn 91 []),(6,bV false),(15,.sl 1 n (λu=>.sl 1 (C u).1 (λi=>iV ((C u).2 i)))),(16,nV n),(17,iV c)],[]⟩
noncomputable def Aph (L:LT):St->T (Ex×St):=λst=>A7 tab ⟨Ap tb106,L,Gl⟩ (Ar Tryz.f92 0) 0 st
def AgQ (n:Nat) (C:Nat->Nat×(Nat->Int)) (m:Nat) (D:Nat->Nat×(Nat->Int)) (i:Nat) (a:Unit):Ex×St:=(.rt,⟨jsV 32 0 Aa [(6,bV false)],[]⟩)
def AoJ (n:Nat) (C:Nat->Nat×(Nat->Int)) (m:Nat) (D:Nat->Nat×(Nat->Int)) (i:Nat) (a:Unit):T ((Unit) ⊕ (Ex×St)):=.br (CJ (C i).1 (C i).2 (D i).1 (D i).2) (.leaf (.inl ())) (.leaf (.inr (AgQ n C m D i a)))
def Ag5 (n:Nat) (C:Nat->Nat×(Nat->Int)) (m:Nat) (D:Nat->Nat×(Nat->Int)) (a:Unit):Ex×St:=(.ex 0,⟨jsV 32 0 Aa [(6,bV false)],[]⟩)
theorem Ama (L:LT) (n:Nat) (C:Nat->Nat×(Nat->Int)) (m:Nat) (D:Nat->Nat×(Nat->Int)) (hm:n=m) (hs:(AB n λk=>Aj (C k).1)=true) (hn:n <= 4611686018427387904) {e:Ex×St} {a:Unit} {j:Nat->V} (h:Cy (AoJ n C m D) (Ag5 n C m D) n 0 a=some e):(A3 (Aph L) Agr 4611686018427387905 (Ang n C m D 0 a j)).sem=some (exR e) :=
 Cd Dx hn (λi a j r hi h=>DK.ok (L:=goR (Ang n C m D) exR i) (.k (ofNat_lt hi) <| .k (Ao hi) <| .k (Ao (hm ▸ hi)) <| .k (eL (C i).1) <| .k (eL (D i).1) <| .k (A0.1 hs i hi) <| .c (λh1=>.k (eN h1) <| .l) λh1=>.k (eN h1) <| .l) (by kernel_rfl) h) (λa j=>DK.ok (C:=.leaf (Ag5 n C m D a)) (L:=exR) (.k (A1 (Nat.le_refl n)) .l) (by kernel_rfl) rfl) (Nat.zero_add _).symm (Nat.lt_succ_of_le hn) h
def Xi:List (Nat×Lp×List (Nat×(Nat->V))):=[(0,Agr,[])]
def AjI (n:Nat) (C:Nat->Nat×(Nat->Int)) (m:Nat) (D:Nat->Nat×(Nat->Int)):AR:=.br (ieq (ofNat n) (ofNat m)) (.br (AB n λk=>CJ (C k).1 (C k).2 (D k).1 (D k).2) (.leaf ((bV true),[])) (.leaf ((bV false),[]))) (.leaf ((bV false),[]))
theorem Add (n:Nat) (C:Nat->Nat×(Nat->Int)) (m:Nat) (D:Nat->Nat×(Nat->Int)):(AjI n C m D).sem=some (bV (DJ n (λi=>(C i).1) (λi=>(C i).2) m (λi=>(D i).1) (λi=>(D i).2)),[]):=by
 unfold AjI DJ;cases ieq (ofNat n) (ofNat m)
 ·rfl
 cases AB n λk=>CJ (C k).1 (C k).2 (D k).1 (D k).2 <;> rfl
theorem Ao4:Ax Tryz.prog Gl 92 Rc:=by
 refine Am A8 mixed Tryz.func92 (by kernel_rfl) (by kernel_rfl) λvs v h' h=>?_;unfold Rc at h;split at h
 ·rename_i v1 u1
  obtain ⟨n,C,a1,h⟩:=Bs h;obtain ⟨m,D,a2,h⟩:=Bs h;obtain ⟨hn,h⟩:=Ad h;obtain ⟨hs,h⟩:=Ad h;have:=Ac h;simp only [Prod.mk.injEq] at this;obtain ⟨rfl,rfl⟩:=this;have w:DK (λa=>a) (AjI n C m D) _:=.c (λh1=>.k (eN h1) <| .c (λh2=>.a (Ama (askL Xi) n C m D (BX h1) hs (CA hn) (j:=λ_=>.und) (Pe (λ_ _=>rfl) h2)) <| .l) λh2=>.a (Ama (askL Xi) n C m D (BX h1) hs (CA hn) (j:=λ_=>.und) (Pf (λ_ _=>rfl) h2)) <| .l) λh1=>.k (eN h1) <| .l
  have hx:=FK tb106_ok Xi (G:=Gl);exact ⟨_,cxA Gl tb106 Xi,_,(show Bf [v1,u1,.fn 91 []] [.sl 1 n (λu=>.sl 1 (C u).1 (λi=>iV ((C u).2 i))),.sl 1 m (λu=>.sl 1 (D u).1 (λi=>iV ((D u).2 i))),.fn 91 []] from λS w cs hv=>by
   obtain ⟨c,l,rfl,q1,c',l',rfl,q2,q3⟩:=hv;exact ⟨c,_,rfl,a1 S w c q1,c',l',rfl,a2 S w c' q2,q3⟩),rfl,hx.1,hx.2,DK.of (Add n C m D) w (by kernel_rfl),Aw.refl _⟩
 ·cases h
noncomputable def Ak2:AP:=(89,Vg)::(90,Vf)::(91,HY)::(92,Rc)::[]
theorem Adu:Av Tryz.prog Gl Ak2:=.cons p103 <| .cons p104 <| .cons Amd <| .cons Ao4 .nil
theorem AdU (a b c d e i j k:Bool):Al a (Al b (Al c (Al d (Al e (Al i (Al j k))))))=Al a (Al b (Al c (Al d (Al (Al e k) (Al i (Al j true)))))):=by
 cases a <;> cases b <;> cases c <;> cases d <;> cases e <;> cases i <;> cases j <;> cases k <;> rfl
def C58 (s s':Sh7):AR:=.br (ieq s.arch s'.arch) (.br (ieq s.tt s'.tt) (.br (ieq s.kk s'.kk) (.br (Cv s.ne (λi=>s.E i) s'.ne (λi=>s'.E i)) (.br (PO s.nx (λi=>s.X i) s'.nx (λi=>s'.X i)) (.br (CJ s.nr s.R s'.nr s'.R) (.leaf ((bV (DJ s.nc (λi=>(s.C i).1) (λi i_1=>(s.C i).2 i_1) s'.nc (λi=>(s'.C i).1) (λi i_1=>(s'.C i).2 i_1))),[])) (.leaf ((bV false),[]))) (.leaf ((bV false),[]))) (.leaf ((bV false),[]))) (.leaf ((bV false),[]))) (.leaf ((bV false),[]))) (.leaf ((bV false),[]))
theorem Af7 (s s':Sh7):(C58 s s').sem=some (bV (FZ s s'),[]):=by
 unfold C58 FZ;rw [AdU];show _=some (bV (Al _ (Al _ (Al _ (Al _ (Al (PO s.nx s.X s'.nx s'.X) _))))),[]);cases ieq s.arch s'.arch
 ·rfl
 cases ieq s.tt s'.tt
 ·rfl
 cases ieq s.kk s'.kk
 ·rfl
 cases Cv s.ne s.E s'.ne s'.E
 ·rfl
 cases PO s.nx s.X s'.nx s'.X
 ·rfl
 cases CJ s.nr s.R s'.nr s'.R
 ·rfl
 cases DJ s.nc (λi=>(s.C i).1) (λi=>(s.C i).2) s'.nc (λi=>(s'.C i).1) (λi=>(s'.C i).2) <;> rfl
theorem p72:Ax Tryz.prog Gl 58 Hh:=by
 refine Am A8 mixed Tryz.func58 (by kernel_rfl) (by kernel_rfl) λvs v h' h=>?_;unfold Hh at h;split at h
 ·rename_i v1 u1
  obtain ⟨s,a1,h⟩:=apS_some h;obtain ⟨s',a2,h⟩:=apS_some h;obtain ⟨hn,h⟩:=Ad h;have:=Ac h;simp only [Prod.mk.injEq] at this;obtain ⟨rfl,rfl⟩:=this;have hn:Aj s.ne=true∧Aj s.nx=true∧Aj s.nr=true∧Aj s.nc=true∧(AB s.nc λi=>Aj (s.C i).1)=true:=by simpa [BM,Al] using hn
  obtain ⟨n1,n2,n3,n4,n5⟩:=hn;have w:DK (λa=>a) (C58 s s') _:=.c (λh1=>.r 6 h1 <| .c (λh2=>.r 6 h2 <| .c (λh3=>.r 5 h3 <| .k (eL s.ne) <| .k (eL s'.ne) <| .k n1 <| .k h3 <| .c (λh4=>.r 5 h4 <| .k (eL s.nx) <| .k (eL s'.nx) <| .k n2 <| .k h4 <| .c (λh5=>.r 5 h5 <| .k (eL s.nr) <| .k (eL s'.nr) <| .k n3 <| .k h5 <| .c (λh6=>.r 5 h6 <| .k (eL2 s.nc s.C) <| .k (eL2 s'.nc s'.C) <| .k n4 <| .k n5 <| .k h6 <| .l) λh6=>.r 6 h6 <| .l) λh5=>.r 6 h5 <| .r 6 eF <| .l) λh4=>.r 6 h4 <| .r 12 eF <| .l) λh3=>.r 6 h3 <| .r 18 eF <| .l) λh2=>.r 6 h2 <| .r 24 eF <| .l) λh1=>.r 6 h1 <| .r 30 eF <| .l
  have hx:=FK Adu [] (G:=Gl);exact ⟨_,cxA Gl Ak2 [],_,(show Bf [v1,u1] [L4 s,L4 s'] from λS w cs hv=>by
   obtain ⟨c,l,rfl,q1,c',l',rfl,q2,q3⟩:=hv;exact ⟨c,_,rfl,a1 S w c q1,c',l',rfl,a2 S w c' q2,q3⟩),rfl,hx.1,hx.2,DK.of (Af7 s s') w (by kernel_rfl),Aw.refl _⟩
 ·cases h
end Go.Proofs.YtkgdhhieomndeaaGreatDoor.Sh
