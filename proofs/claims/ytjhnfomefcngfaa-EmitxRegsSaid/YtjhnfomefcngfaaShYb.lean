/-
  Layer 11: the law EmitxRegs, as a function (12): each instruction may be; no register is written twice in a thread; each read's register is told. No conditions.
-/
import Derived.Test.YtjhnfomefcngfaaShVc
import Derived.Test.YtjhnfomefcngfaaShYa
namespace Go.Proofs.Ytjhnfomefcngfaa.Sh
open Go.Sy Ed
open Int (ofNat)
set_option maxHeartbeats 1000000
set_option maxRecDepth 4000
theorem ZF (fe:Bool) (x:Ev5) (b:Nat) (W:Wr4) (i:Nat):(evW fe x b W).nx i = bif ieq x.dir 2 then W.nx i else sel (A3 i (toN x.th)) (wr .i64 (Ae (W.nx (toN x.th)) 1)) (W.nx i):=by
 unfold evW; cases fe <;> cases ieq x.dir 2 <;> rfl
theorem Ada (fe:Bool) (x:Ev5) (b:Nat) (W:Wr4) (i:Nat):(evW fe x b W).y i = bif A3 i b then yvW x W else W.y i:=by
 unfold evW; cases fe <;> cases ieq x.dir 2 <;> rfl
theorem AgW (fe:Nat->Bool) (x:Nat->Ev5) {c:Nat}:∀ e,(wsF fe x (c+1+e)).y c = yvW (x c) (wsF fe x c)
 | 0=>by
  refine (Ada _ _ _ _ _).trans ?_
  rw [Go.Sy.nbeq_self]
  rfl
 | e+1=>by
  refine (Ada (fe (c+1+e)) (x (c+1+e)) (c+1+e) (wsF fe x (c+1+e)) c).trans ?_
  rw [Go.Sy.nbeq_ne (show c ≠ c+1+e by omega)]
  exact AgW fe x e
theorem Adg (fe:Nat->Bool) (x:Nat->Ev5) {u c:Nat}:(∀ i,i < c->toN (x i).th ≠ u)->(wsF fe x c).nx u = 0:=by
 induction c with
 | zero=>exact λ_=>rfl
 | succ c ih =>
  intro h
  refine (ZF (fe c) (x c) c (wsF fe x c) u).trans ?_
  rw [Go.Sy.nbeq_ne (Ne.symm (h c (Nat.lt_succ_self c))),ih λi hi=>h i (by omega)]
  cases ieq (x c).dir 2 <;> rfl
def rdN (x:Nat->Ev5) (c:Nat):Nat->Nat:=Aj λe=>An (ieq (x (c+e)).dir 2)
theorem Ac0 (fe:Nat->Bool) (x:Nat->Ev5) {b c m:Nat} (h0:∀ i,i < c->toN (x i).th ≠ b) (hm:∀ d,d < m->toN (x (c+d)).th = b) (m16:m <= 16):∀ d,d <= m->(wsF fe x (c+d)).nx b = ofNat (rdN x c d)
 | 0,_=>Adg fe x h0
 | d+1,h=>by
  have ih:=Ac0 fe x h0 hm m16 d (by omega)
  refine (ZF (fe (c+d)) (x (c+d)) (c+d) (wsF fe x (c+d)) b).trans ?_
  rw [hm d (by omega),Go.Sy.nbeq_self,ih]
  have hle:rdN x c d <= d:=AX _ _
  cases hd:ieq (x (c+d)).dir 2 with
  | true =>
   have:rdN x c (d+1) = rdN x c d:=Br (p:=λe=>An (ieq (x (c+e)).dir 2)) (by rw [hd]; rfl)
   rw [this]
   rfl
  | false =>
   have:rdN x c (d+1) = rdN x c d+1:=Bi (p:=λe=>An (ieq (x (c+e)).dir 2)) (by rw [hd]; rfl)
   rw [this]
   exact Ao (n:=16) (by omega) (by omega)
theorem AgU {x:Ev5} {W:Wr4} {k:Nat} (hk:k < 16) (h:W.nx (toN x.th) = ofNat k):yvW x W = bif ieq x.dir 2 then -1 else ofNat k:=by
 unfold yvW
 rw [Go.Sy.nbeq_self,h]
 cases ieq x.dir 2 with
 | true=>rfl
 | false =>
  show wr .i64 (A2 (wr .i64 (Ae (ofNat k) 1)) 1) = ofNat k
  rw [Ao (n:=16) hk (by omega)]
  exact MB (by omega)
structure InsOK (v:In4) (x:Ev5) (yc:Int) (k:Nat):Prop where
 ok:Fk v.op v.d 0 0 v.imm v.loc [] 0 = true
 st:ieq x.dir 2 = true->ieq v.op 1 = true ∧ ieq v.op 3 = false ∧ ieq yc (-1) = true
 ld:ieq x.dir 2 = false->ieq v.op 3 = true ∧ ieq v.op 1 = false ∧ v.d = ofNat k ∧ ieq yc v.d = true
 nf:ieq v.op 5 = false
theorem Sx {k:Nat} (h:k < 16):OT (D3 (ofNat k)) = true:=by
 have h2:(List.range 16).all (λk=>OT (D3 (ofNat k))) = true:=by kernel_rfl
 exact List.all_eq_true.1 h2 k (by simpa using h)
theorem YQ:Fk Eh.op Eh.d 0 0 Eh.imm Eh.loc [] 0 = true:=by kernel_rfl
theorem YP {x:Ev5} {k v:Nat} (hl:x.loc = ofNat k) (hk:k < 16) (hv:x.val = ofNat v) (hv2:v <= 32):Fk (Nh x).op (Nh x).d 0 0 (Nh x).imm (Nh x).loc [] 0 = true:=by
 have h1:Uy (ofNat v) = true:=by
  unfold Uy
  rw [show ile (-2147483648) (ofNat v) = true from decide_eq_true (by show (-2147483648:Int) <= (v:Int); omega)]
  exact decide_eq_true (by show (v:Int) <= 2147483647; omega)
 show Fk 1 0 0 0 x.val (D3 x.loc) [] 0 = true
 rw [hl,hv]
 unfold Fk
 rw [h1,Sx hk]
 rfl
theorem Ab5 {x:Ev5} {k d:Nat} (hl:x.loc = ofNat k) (hk:k < 16) (hd:d < 15):Fk (S8 (ofNat d) x).op (S8 (ofNat d) x).d 0 0 (S8 (ofNat d) x).imm (S8 (ofNat d) x).loc [] 0 = true:=by
 have h1:Um (ofNat d) = true:=by
  unfold Um
  rw [AI]
  exact decide_eq_true (by show (d:Int) < 15; omega)
 show Fk 3 (ofNat d) 0 0 0 (D3 x.loc) [] 0 = true
 rw [hl]
 unfold Fk
 rw [h1,Sx hk]
 rfl
theorem Ag5 {x:Ev5} {W:Wr4} {k lo v:Nat} (hl:x.loc = ofNat lo) (hlo:lo < 16) (hv:x.val = ofNat v) (hv2:v <= 32) (hk:k < 15) (h:W.nx (toN x.th) = ofNat k):InsOK (JQ x W) x (yvW x W) k:=by
 rw [AgU (by omega) h]
 unfold JQ
 cases hd:ieq x.dir 2 with
 | true=>exact ⟨YP hl hlo hv hv2,λ_=>⟨rfl,rfl,rfl⟩,λh=>(by rw [hd] at h; cases h),rfl⟩
 | false =>
  rw [h]
  exact ⟨Ab5 hl hlo hk,λh=>(by rw [hd] at h; cases h),λ_=>⟨rfl,rfl,rfl,F4 _⟩,rfl⟩
noncomputable def RK:List (Nat × (List V->T (V × List Blk))):=[(41,Z1),(42,codeT),(45,YC),(48,Ag6),(43,XI (bV true))]
theorem AaU:AB Try.prog Gl RK:=.cons AkB <| .cons p42 <| .cons p45 <| .cons AkA <| .cons p43 .nil
theorem Akw (L:LT) (n:Nat) (f:Nat->E6) (h24:AN n = true) (h0:ieq (BR 1 n f) 0 = false) (h25:AT [.row 44 6 0 (λ_=>.und),.row 40 5 0 (λ_=>.und),r3Z,jgZ,.cells [iV 0,.ref 0,.ref 1,iV 0,iV 0,.ref 2,.jref 3]] = true) (h26:Au 0 (λ_=>false) = true) (h27:Au 0 (λ_=>Au 0 (λ_=>false)) = true) (h28:AN 0 = true) (h29:Ah 0 = true) (h30:Au 0 (λ_=>Ah 0) = true) (h31:ieq (BB 0 0 (λ_=>E6.mk 0 false false 0 0 0) 0 (λ_=>Ev5.mk 0 0 0 0 0) 0 0 0 (λ_=>0) 0 (λ_=>0) (λ_ _=>0)) 0 = false) (h32:AW [.jag (Jag.mk 64 1 0 (λ_=>.und) 0 66 8 (λ_=>true) (λ_=>0) (λ_ _=>.und))] = true) (h33:AT [.row 44 6 0 (λ_=>.und),.row 40 5 0 (λ_=>.und),r3Z,jgZ,.cells [iV 0,.ref 0,.ref 1,iV 0,iV 0,.ref 2,.jref 3],.jag (Jag.mk 64 1 0 (λ_=>.und) 0 66 8 (λ_=>true) (λ_=>0) (λ_ _=>.und))] = true) (h34:AW [r3Z] = true) (h35:ieq (BB 0 0 (λ_=>E6.mk 0 false false 0 0 0) 0 (λ_=>Ev5.mk 0 0 0 0 0) 0 0 0 (λ_=>0) 0 (λ_=>0) (λ_ _=>0)) 70 = true):(Az (Ak tab ⟨Ap RK,L,Gl⟩ Try.f12 [.sl 6 n λi=>eV (f i)] [])).sem = some ((bV true),[]):=Aa (bbK 27 133692411) ((λc0 c1 c2 c3 c4 c5=>[Au n (λ_=>true),AN n,ieq (BR 1 n f) 0,AT [.row 44 6 0 (λ_=>.und),.row 40 5 0 (λ_=>.und),r3Z,jgZ,.cells [iV 0,.ref 0,.ref 1,iV 0,iV 0,.ref 2,.jref 3]],c0,c0,c0,c1,c2,c3,c4,AW [.jag (Jag.mk 64 1 0 (λ_=>.und) 0 66 8 (λ_=>true) (λ_=>0) (λ_ _=>.und))],AT [.row 44 6 0 (λ_=>.und),.row 40 5 0 (λ_=>.und),r3Z,jgZ,.cells [iV 0,.ref 0,.ref 1,iV 0,iV 0,.ref 2,.jref 3],.jag (Jag.mk 64 1 0 (λ_=>.und) 0 66 8 (λ_=>true) (λ_=>0) (λ_ _=>.und))],c0,c0,c0,c1,c2,c3,c4,AW [r3Z],An false,c5,c5,c5,c5,c5]) (Au 0 (λ_=>false)) (Au 0 (λ_=>Au 0 (λ_=>false))) (AN 0) (Af (Ah 0) (Af (Ah 0) (Af (Ah 0) (Af (Ah 0) (Au 0 (λ_=>Ah 0)))))) (ieq (BB 0 0 (λ_=>E6.mk 0 false false 0 0 0) 0 (λ_=>Ev5.mk 0 0 0 0 0) 0 0 0 (λ_=>0) 0 (λ_=>0) (λ_ _=>0)) 0) (ieq (BB 0 0 (λ_=>E6.mk 0 false false 0 0 0) 0 (λ_=>Ev5.mk 0 0 0 0 0) 0 0 0 (λ_=>0) 0 (λ_=>0) (λ_ _=>0)) 70)) (by kernel_rfl) (by simp only [*,Aw,Bv] <;> rfl)
def Tg (n:Nat) (f:Nat->E6) :St:=⟨(jsV 150 0 (λ_=>AA) [(0,(.sl 6 n (λi=>eV (f i)))),(2,(bV false)),(3,(.ptr 4 0)),(4,(bV true)),(5,(.jref 5)),(6,(iV 0)),(7,(.ref 6)),(8,(iV 0)),(9,(iV 0)),(10,(iV 0)),(14,(.tup [.agg [iV 1,.ref 0,.ref 1,iV (ofNat (ttN n (shG n f))),iV (ofNat (kkN n (shG n f))),.ref 2,.jref 3],bV true])),(15,(.sl 6 n (λi=>eV (f i)))),(16,(.tup [.agg [iV 1,.ref 0,.ref 1,iV (ofNat (ttN n (shG n f))),iV (ofNat (kkN n (shG n f))),.ref 2,.jref 3],bV true])),(17,(.agg [iV 1,.ref 0,.ref 1,iV (ofNat (ttN n (shG n f))),iV (ofNat (kkN n (shG n f))),.ref 2,.jref 3])),(18,(bV true)),(19,(.tup [.jref 5,iV 0])),(20,(.agg [iV 1,.ref 0,.ref 1,iV (ofNat (ttN n (shG n f))),iV (ofNat (kkN n (shG n f))),.ref 2,.jref 3])),(21,(.tup [.jref 5,iV 0])),(22,(.jref 5)),(23,(iV 0)),(24,(.tup [.ref 6,iV 0])),(25,(.agg [iV 1,.ref 0,.ref 1,iV (ofNat (ttN n (shG n f))),iV (ofNat (kkN n (shG n f))),.ref 2,.jref 3])),(26,(.tup [.ref 6,iV 0])),(27,(.ref 6)),(28,(iV 0)),(29,(bV true)),(30,(bV (An true))),(40,(iV 0)),(41,(bV (An (ieq 0 0)))),(42,(bV (An (ieq 0 0)))),(43,(iV 0)),(44,(bV (An (ieq 0 0)))),(45,(bV (An (ieq 0 0)))),(46,(bV (An (ieq 0 0)))),(47,(.ref 6)),(48,(nV n)),(49,(.ptr 4 2)),(50,(.ref 1)),(51,(nV n)),(52,(bV (An (ieq (ofNat n) (ofNat n))))),(53,(bV (An (ieq (ofNat n) (ofNat n)))))]),[.row 44 6 n (λi=>eV (shG n f i)),.row 40 5 n (λi=>evV (evF n (shG n f) (λ_=>true) i)),.row 3 1 n (λi=>iV (rfF n (shG n f) (λ_=>true) i)),.jag (Jag.mk 25 1 (kkN n (shG n f)) (λ_=>.und) 0 3 1 (λ_=>true) (lnN (mbF (shG n f)) (wrF (shG n f)) n) (λk i=>iV (ofNat (coN (mbF (shG n f)) (wrF (shG n f)) n k i)))),.cells [iV 1,.ref 0,.ref 1,iV (ofNat (ttN n (shG n f))),iV (ofNat (kkN n (shG n f))),.ref 2,.jref 3],.jag (Jag.mk 64 1 (ttN n (shG n f)) (λ_=>.und) 0 66 8 (λ_=>true) (lwX 1 n (λi_1=>shG n f i_1) n (λi_1=>evF n (shG n f) (λ_=>true) i_1) (ofNat (ttN n (shG n f))) (ofNat (kkN n (shG n f))) n (rfF n (shG n f) (λ_=>true)) (kkN n (shG n f)) (lnN (mbF (shG n f)) (wrF (shG n f)) n) (λi i_1=>ofNat (coN (mbF (shG n f)) (wrF (shG n f)) n i i_1))) (λu j=>.agg [iV ((cwX 1 n (λi=>shG n f i) n (λi=>evF n (shG n f) (λ_=>true) i) (ofNat (ttN n (shG n f))) (ofNat (kkN n (shG n f))) n (rfF n (shG n f) (λ_=>true)) (kkN n (shG n f)) (lnN (mbF (shG n f)) (wrF (shG n f)) n) (λi i_1=>ofNat (coN (mbF (shG n f)) (wrF (shG n f)) n i i_1)) u j)).op,iV ((cwX 1 n (λi=>shG n f i) n (λi=>evF n (shG n f) (λ_=>true) i) (ofNat (ttN n (shG n f))) (ofNat (kkN n (shG n f))) n (rfF n (shG n f) (λ_=>true)) (kkN n (shG n f)) (lnN (mbF (shG n f)) (wrF (shG n f)) n) (λi i_1=>ofNat (coN (mbF (shG n f)) (wrF (shG n f)) n i i_1)) u j)).d,iV 0,iV 0,iV ((cwX 1 n (λi=>shG n f i) n (λi=>evF n (shG n f) (λ_=>true) i) (ofNat (ttN n (shG n f))) (ofNat (kkN n (shG n f))) n (rfF n (shG n f) (λ_=>true)) (kkN n (shG n f)) (lnN (mbF (shG n f)) (wrF (shG n f)) n) (λi i_1=>ofNat (coN (mbF (shG n f)) (wrF (shG n f)) n i i_1)) u j)).imm,.str ((cwX 1 n (λi=>shG n f i) n (λi=>evF n (shG n f) (λ_=>true) i) (ofNat (ttN n (shG n f))) (ofNat (kkN n (shG n f))) n (rfF n (shG n f) (λ_=>true)) (kkN n (shG n f)) (lnN (mbF (shG n f)) (wrF (shG n f)) n) (λi i_1=>ofNat (coN (mbF (shG n f)) (wrF (shG n f)) n i i_1)) u j)).loc,.str [],iV 0])),.row 3 1 n (λi=>iV (yyX 1 n (λi_1=>shG n f i_1) n (λi_1=>evF n (shG n f) (λ_=>true) i_1) (ofNat (ttN n (shG n f))) (ofNat (kkN n (shG n f))) n (rfF n (shG n f) (λ_=>true)) (kkN n (shG n f)) (lnN (mbF (shG n f)) (wrF (shG n f)) n) (λi i_1=>ofNat (coN (mbF (shG n f)) (wrF (shG n f)) n i i_1)) i))]⟩
def OV (n:Nat) (f:Nat->E6):Lp:=⟨(bmK 150 0 [3,5,7,9,10]),7,bmK 150 0 [3,5,7,9],7,18⟩
def WB (n:Nat) (f:Nat->E6) (t q:Nat) (g:Nat->E6) (x:Nat->Ev5) (r:Nat->Int) (ln:Nat->Nat) (co:Nat->Nat->Int) (lw:Nat->Nat) (cw:Nat->Nat->In4) (y:Nat->Int) (b c:Nat) (j:Nat->V):St:=⟨(jsV 150 0 j [(3,.ptr 4 0),(5,.jref 5),(7,.ref 6),(9,nV c),(10,nV b)]),[.row 44 6 n (λi=>eV (g i)),.row 40 5 n (λi=>evV (x i)),.row 3 1 n (λi=>iV (r i)),.jag (Jag.mk 25 1 q (λ_=>.und) 0 3 1 (λ_=>true) ln (λk i=>iV (co k i))),.cells [iV 1,.ref 0,.ref 1,nV t,nV q,.ref 2,.jref 3],.jag (Jag.mk 64 1 t (λ_=>.und) 0 66 8 (λ_=>true) lw (λu j=>inV (cw u j))),.row 3 1 n (λi=>iV (y i))]⟩
def Wn (n:Nat) (f:Nat->E6) (t q:Nat) (g:Nat->E6) (x:Nat->Ev5) (r:Nat->Int) (ln:Nat->Nat) (co:Nat->Nat->Int) (lw:Nat->Nat) (cw:Nat->Nat->In4) (y:Nat->Int) (b c:Nat):Ex × St:=(.ex 0,⟨(jsV 150 0 (λ_=>.und) [(3,.ptr 4 0),(5,.jref 5),(7,.ref 6),(9,nV c)]),[.row 44 6 n (λi=>eV (g i)),.row 40 5 n (λi=>evV (x i)),.row 3 1 n (λi=>iV (r i)),.jag (Jag.mk 25 1 q (λ_=>.und) 0 3 1 (λ_=>true) ln (λk i=>iV (co k i))),.cells [iV 1,.ref 0,.ref 1,nV t,nV q,.ref 2,.jref 3],.jag (Jag.mk 64 1 t (λ_=>.und) 0 66 8 (λ_=>true) lw (λu j=>inV (cw u j))),.row 3 1 n (λi=>iV (y i))]⟩)
noncomputable def LJ (L:LT):St->T (Ex × St):=λst=>AF tab ⟨Ap RK,L,Gl⟩ (A1 Try.f12 0) 0 st
theorem Aie (L:LT) (n:Nat) (f:Nat->E6) (t q:Nat) (g:Nat->E6) (x:Nat->Ev5) (r:Nat->Int) (ln:Nat->Nat) (co:Nat->Nat->Int) (lw:Nat->Nat) (cw:Nat->Nat->In4) (y:Nat->Int) (b c:Nat)  (j:Nat->V) (h0:ilt (ofNat b) (ofNat t) = false):Ai (LJ L) (OV n f) (WB n f t q g x r ln co lw cw y b c j) = some ((.ex 0),⟨(jsV 150 0 (λ_=>.und) [(3,(.ptr 4 0)),(5,(.jref 5)),(7,(.ref 6)),(9,(nV c))]),[.row 44 6 n (λi=>eV (g i)),.row 40 5 n (λi=>evV (x i)),.row 3 1 n (λi=>iV (r i)),.jag (Jag.mk 25 1 q (λ_=>.und) 0 3 1 (λ_=>true) ln (λk i=>iV (co k i))),.cells [iV 1,.ref 0,.ref 1,nV t,nV q,.ref 2,.jref 3],.jag (Jag.mk 64 1 t (λ_=>.und) 0 66 8 (λ_=>true) lw (λu j=>.agg [iV ((cw u j)).op,iV ((cw u j)).d,iV 0,iV 0,iV ((cw u j)).imm,.str ((cw u j)).loc,.str [],iV 0])),.row 3 1 n (λi=>iV (y i))]⟩):=Aa [false] [ilt (ofNat b) (ofNat t)] (by kernel_rfl) (by simp only [h0] <;> rfl)
def DI (n:Nat) (f:Nat->E6):Lp:=⟨(bmK 150 0 [3,5,7,9,10,11,12]),8,bmK 150 0 [3,5,7,9,10],7,40⟩
def Fe (n:Nat) (f:Nat->E6) (t q:Nat) (g:Nat->E6) (x:Nat->Ev5) (r:Nat->Int) (ln:Nat->Nat) (co:Nat->Nat->Int) (lw:Nat->Nat) (cw:Nat->Nat->In4) (y:Nat->Int) (b c:Nat) (ud:Nat->Bool) (i:Nat) (j:Nat->V):St:=⟨(jsV 150 0 j [(3,.ptr 4 0),(5,.jref 5),(7,.ref 6),(9,nV c),(10,nV b),(11,.ept 7 1 0 0),(12,nV i)]),[.row 44 6 n (λi=>eV (g i)),.row 40 5 n (λi=>evV (x i)),.row 3 1 n (λi=>iV (r i)),.jag (Jag.mk 25 1 q (λ_=>.und) 0 3 1 (λ_=>true) ln (λk i=>iV (co k i))),.cells [iV 1,.ref 0,.ref 1,nV t,nV q,.ref 2,.jref 3],.jag (Jag.mk 64 1 t (λ_=>.und) 0 66 8 (λ_=>true) lw (λu j=>inV (cw u j))),.row 3 1 n (λi=>iV (y i)),.row 70 1 15 (λi=>bV (ud i))]⟩
def KL (n:Nat) (f:Nat->E6) (t q:Nat) (g:Nat->E6) (x:Nat->Ev5) (r:Nat->Int) (ln:Nat->Nat) (co:Nat->Nat->Int) (lw:Nat->Nat) (cw:Nat->Nat->In4) (y:Nat->Int) (b c:Nat) (ud:Nat->Bool) (i:Nat):Ex × St:=(.ex 2,⟨(jsV 150 0 (λ_=>.und) [(3,.ptr 4 0),(5,.jref 5),(7,.ref 6),(9,nV c),(10,nV b)]),[.row 44 6 n (λi=>eV (g i)),.row 40 5 n (λi=>evV (x i)),.row 3 1 n (λi=>iV (r i)),.jag (Jag.mk 25 1 q (λ_=>.und) 0 3 1 (λ_=>true) ln (λk i=>iV (co k i))),.cells [iV 1,.ref 0,.ref 1,nV t,nV q,.ref 2,.jref 3],.jag (Jag.mk 64 1 t (λ_=>.und) 0 66 8 (λ_=>true) lw (λu j=>inV (cw u j))),.row 3 1 n (λi=>iV (y i))]⟩)
noncomputable def CD (L:LT):St->T (Ex × St):=λst=>AF tab ⟨Ap RK,L,Gl⟩ (A1 Try.f12 2) 2 st
section
variable (L:LT) (n:Nat) (f:Nat->E6) (t q:Nat) (g:Nat->E6) (x:Nat->Ev5) (r:Nat->Int) (ln:Nat->Nat) (co:Nat->Nat->Int) (lw:Nat->Nat) (cw:Nat->Nat->In4) (y:Nat->Int) (b c:Nat) (ud:Nat->Bool) (i:Nat)  (j:Nat->V)
include L n f t q g x r ln co lw cw y b c ud i j
theorem AhX (h25:Af (ile 0 (ofNat b)) (ilt (ofNat b) (ofNat t)) = true) (h26:nlt b t = true) (h0:ilt (ofNat i) (ofNat (lw b)) = false):Ai (CD L) (DI n f) (Fe n f t q g x r ln co lw cw y b c ud i j) = some ((.ex 2),⟨(jsV 150 0 (λ_=>.und) [(3,(.ptr 4 0)),(5,(.jref 5)),(7,(.ref 6)),(9,(nV c)),(10,(nV b))]),[.row 44 6 n (λi=>eV (g i)),.row 40 5 n (λi=>evV (x i)),.row 3 1 n (λi=>iV (r i)),.jag (Jag.mk 25 1 q (λ_=>.und) 0 3 1 (λ_=>true) ln (λk i=>iV (co k i))),.cells [iV 1,.ref 0,.ref 1,nV t,nV q,.ref 2,.jref 3],.jag (Jag.mk 64 1 t (λ_=>.und) 0 66 8 (λ_=>true) lw (λu j=>.agg [iV ((cw u j)).op,iV ((cw u j)).d,iV 0,iV 0,iV ((cw u j)).imm,.str ((cw u j)).loc,.str [],iV 0])),.row 3 1 n (λi=>iV (y i))]⟩):=Aa [true,true,true,true,false] [Af (ile 0 (ofNat b)) (ilt (ofNat b) (ofNat t)),nlt b t,true,true,ilt (ofNat i) (ofNat (lw b))] (by kernel_rfl) (by simp only [h25] <;> simp only [h26,h0] <;> rfl)
theorem AhW (h33:Af (ile 0 (ofNat b)) (ilt (ofNat b) (ofNat t)) = true) (h1:nlt b t = true) (h0:ilt (ofNat i) (ofNat (lw b)) = true) (h34:ile 0 (ofNat i) = true) (h2:nlt i (lw b) = true) (h35:Fk ((cw b i)).op ((cw b i)).d 0 0 ((cw b i)).imm ((cw b i)).loc [] 0 = true) (h3:ile (ofNat n) (ofNat c) = false) (h4:ieq ((cw b i)).op 3 = false) (h5:ieq ((cw b i)).op 1 = false) (h6:ieq ((cw b i)).op 5 = true) (h7:ilt (ofNat c) (ofNat n) = true) (h8:ieq (ofNat i) (wr .i64 (A2 (ofNat (lw b)) 1)) = false):Ai (CD L) (DI n f) (Fe n f t q g x r ln co lw cw y b c ud i j) = some (.nm,⟨(jsV 150 0 (λ_=>.und) [(3,(.ptr 4 0)),(5,(.jref 5)),(7,(.ref 6)),(9,(nV c)),(10,(nV b)),(11,(.ept 7 1 0 0)),(12,(iV (wr .i64 (Ae (ofNat i) 1))))]),[.row 44 6 n (λi=>eV (g i)),.row 40 5 n (λi=>evV (x i)),.row 3 1 n (λi=>iV (r i)),.jag (Jag.mk 25 1 q (λ_=>.und) 0 3 1 (λ_=>true) ln (λk i=>iV (co k i))),.cells [iV 1,.ref 0,.ref 1,nV t,nV q,.ref 2,.jref 3],.jag (Jag.mk 64 1 t (λ_=>.und) 0 66 8 (λ_=>true) lw (λu j=>.agg [iV ((cw u j)).op,iV ((cw u j)).d,iV 0,iV 0,iV ((cw u j)).imm,.str ((cw u j)).loc,.str [],iV 0])),.row 3 1 n (λi=>iV (y i)),.row 70 1 15 (λi=>bV (ud i))]⟩):=Aa (bbK 51 2198754828287) ((λc0 c1 c2 c3 c4 c5 c6 c7=>[c0,c1,c2,c2,ilt (ofNat i) (ofNat (lw b)),c0,c1,c2,c2,Af (ile 0 (ofNat i)) (ilt (ofNat i) (ofNat (lw b))),c2,nlt i (lw b),Fk ((cw b i)).op ((cw b i)).d 0 0 ((cw b i)).imm ((cw b i)).loc [] 0,c3,c3,c3,c3,c3,ile (ofNat n) (ofNat c),ieq ((cw b i)).op 3,c4,c4,c4,c4,c4,c4,c5,An (ieq ((cw b i)).op 5),c6,c6,c6,c6,c0,c6,c1,c2,c6,c2,c6,c6,c6,c7,c7,c7,c7,c7,c7,c7,c7,c7,c5]) (Af (ile 0 (ofNat b)) (ilt (ofNat b) (ofNat t))) (nlt b t) (true) (An (ieq 0 0)) (ieq ((cw b i)).op 1) (false) (ilt (ofNat c) (ofNat n)) (ieq (ofNat i) (wr .i64 (A2 (ofNat (lw b)) 1)))) (by kernel_rfl) (by simp only [h33] <;> simp only [*] <;> rfl)
theorem Ae1 (h33:Af (ile 0 (ofNat b)) (ilt (ofNat b) (ofNat t)) = true) (h1:nlt b t = true) (h0:ilt (ofNat i) (ofNat (lw b)) = true) (h34:ile 0 (ofNat i) = true) (h2:nlt i (lw b) = true) (h35:Fk ((cw b i)).op ((cw b i)).d 0 0 ((cw b i)).imm ((cw b i)).loc [] 0 = true) (h3:ile (ofNat n) (ofNat c) = false) (h4:ieq ((cw b i)).op 3 = false) (h5:ieq ((cw b i)).op 1 = true) (h37:Af (ile 0 (ofNat c)) (ilt (ofNat c) (ofNat n)) = true) (h38:nlt c n = true) (h6:ieq (y c) (-1) = true) (h7:ieq ((cw b i)).op 5 = false) (h8:ilt (wr .i64 (Ae (ofNat c) 1)) (ofNat n) = false):Ai (CD L) (DI n f) (Fe n f t q g x r ln co lw cw y b c ud i j) = some (.nm,⟨(jsV 150 0 (λ_=>.und) [(3,(.ptr 4 0)),(5,(.jref 5)),(7,(.ref 6)),(9,(iV (wr .i64 (Ae (ofNat c) 1)))),(10,(nV b)),(11,(.ept 7 1 0 0)),(12,(iV (wr .i64 (Ae (ofNat i) 1))))]),[.row 44 6 n (λi=>eV (g i)),.row 40 5 n (λi=>evV (x i)),.row 3 1 n (λi=>iV (r i)),.jag (Jag.mk 25 1 q (λ_=>.und) 0 3 1 (λ_=>true) ln (λk i=>iV (co k i))),.cells [iV 1,.ref 0,.ref 1,nV t,nV q,.ref 2,.jref 3],.jag (Jag.mk 64 1 t (λ_=>.und) 0 66 8 (λ_=>true) lw (λu j=>.agg [iV ((cw u j)).op,iV ((cw u j)).d,iV 0,iV 0,iV ((cw u j)).imm,.str ((cw u j)).loc,.str [],iV 0])),.row 3 1 n (λi=>iV (y i)),.row 70 1 15 (λi=>bV (ud i))]⟩):=Aa (bbK 49 804265983) ((λc0 c1 c2 c3 c4 c5 c6=>[c0,c1,c2,c2,ilt (ofNat i) (ofNat (lw b)),c0,c1,c2,c2,Af (ile 0 (ofNat i)) (ilt (ofNat i) (ofNat (lw b))),c2,nlt i (lw b),Fk ((cw b i)).op ((cw b i)).d 0 0 ((cw b i)).imm ((cw b i)).loc [] 0,c3,c3,c3,c3,c3,ile (ofNat n) (ofNat c),ieq ((cw b i)).op 3,c4,c4,c4,Af (ile 0 (ofNat c)) (ilt (ofNat c) (ofNat n)),c4,nlt c n,c4,c4,An (ieq (y c) (-1)),An (ieq ((cw b i)).op 5),c5,c5,c5,c5,c5,c5,c5,c5,c5,c6,c6,c6,c6,c6,c6,c6,c6,c6,c6]) (Af (ile 0 (ofNat b)) (ilt (ofNat b) (ofNat t))) (nlt b t) (true) (An (ieq 0 0)) (ieq ((cw b i)).op 1) (ilt (wr .i64 (Ae (ofNat c) 1)) (ofNat n)) (false)) (by kernel_rfl) (by simp only [h33,h37] <;> simp only [*] <;> rfl)
theorem Ae4 (h34:Af (ile 0 (ofNat b)) (ilt (ofNat b) (ofNat t)) = true) (h1:nlt b t = true) (h0:ilt (ofNat i) (ofNat (lw b)) = true) (h35:ile 0 (ofNat i) = true) (h2:nlt i (lw b) = true) (h36:Fk ((cw b i)).op ((cw b i)).d 0 0 ((cw b i)).imm ((cw b i)).loc [] 0 = true) (h3:ile (ofNat n) (ofNat c) = false) (h4:ieq ((cw b i)).op 3 = true) (h38:Af (ile 0 ((cw b i)).d) (ilt ((cw b i)).d 15) = true) (h39:nlt (toN ((cw b i)).d) 15 = true) (h6:ud (toN ((cw b i)).d) = false) (h41:Af (ile 0 (ofNat c)) (ilt (ofNat c) (ofNat n)) = true) (h42:nlt c n = true) (h7:ieq (y c) ((cw b i)).d = true) (h5:ieq ((cw b i)).op 1 = false) (h8:ieq ((cw b i)).op 5 = false) (h9:ilt (wr .i64 (Ae (ofNat c) 1)) (ofNat n) = false):Ai (CD L) (DI n f) (Fe n f t q g x r ln co lw cw y b c ud i j) = some (.nm,⟨(jsV 150 0 (λ_=>.und) [(3,(.ptr 4 0)),(5,(.jref 5)),(7,(.ref 6)),(9,(iV (wr .i64 (Ae (ofNat c) 1)))),(10,(nV b)),(11,(.ept 7 1 0 0)),(12,(iV (wr .i64 (Ae (ofNat i) 1))))]),[.row 44 6 n (λi=>eV (g i)),.row 40 5 n (λi=>evV (x i)),.row 3 1 n (λi=>iV (r i)),.jag (Jag.mk 25 1 q (λ_=>.und) 0 3 1 (λ_=>true) ln (λk i=>iV (co k i))),.cells [iV 1,.ref 0,.ref 1,nV t,nV q,.ref 2,.jref 3],.jag (Jag.mk 64 1 t (λ_=>.und) 0 66 8 (λ_=>true) lw (λu j=>.agg [iV ((cw u j)).op,iV ((cw u j)).d,iV 0,iV 0,iV ((cw u j)).imm,.str ((cw u j)).loc,.str [],iV 0])),.row 3 1 n (λi=>iV (y i)),.row 70 1 15 (Bl (λi=>bV (ud i)) (toN ((cw b i)).d) (bV true))]⟩):=Aa (bbK 62 4423987765247) ((λc0 c1 c2 c3 c4 c5 c6 c7 c8 c9=>[c0,c1,c2,c2,ilt (ofNat i) (ofNat (lw b)),c0,c1,c2,c2,Af (ile 0 (ofNat i)) (ilt (ofNat i) (ofNat (lw b))),c2,nlt i (lw b),Fk ((cw b i)).op ((cw b i)).d 0 0 ((cw b i)).imm ((cw b i)).loc [] 0,c3,c3,c3,c3,c3,ile (ofNat n) (ofNat c),ieq ((cw b i)).op 3,c4,c5,c6,c6,c6,Af (ile 0 (ofNat c)) (ilt (ofNat c) (ofNat n)),c6,nlt c n,c6,c6,c6,c6,An (ieq (y c) ((cw b i)).d),c4,c5,c7,c7,c7,c7,c7,c7,c8,An (ieq ((cw b i)).op 5),c9,c9,c9,c9,c9,c9,c9,c9,c9,c8,c8,c8,c8,c8,c8,c8,c8,c8,c8]) (Af (ile 0 (ofNat b)) (ilt (ofNat b) (ofNat t))) (nlt b t) (true) (An (ieq 0 0)) (Af (ile 0 ((cw b i)).d) (ilt ((cw b i)).d 15)) (nlt (toN ((cw b i)).d) 15) (ud (toN ((cw b i)).d)) (ieq ((cw b i)).op 1) (false) (ilt (wr .i64 (Ae (ofNat c) 1)) (ofNat n))) (by kernel_rfl) (by simp only [h34,h38,h41] <;> simp only [*] <;> rfl)
theorem Ae0 (h34:Af (ile 0 (ofNat b)) (ilt (ofNat b) (ofNat t)) = true) (h1:nlt b t = true) (h0:ilt (ofNat i) (ofNat (lw b)) = true) (h35:ile 0 (ofNat i) = true) (h2:nlt i (lw b) = true) (h36:Fk ((cw b i)).op ((cw b i)).d 0 0 ((cw b i)).imm ((cw b i)).loc [] 0 = true) (h3:ile (ofNat n) (ofNat c) = false) (h4:ieq ((cw b i)).op 3 = false) (h5:ieq ((cw b i)).op 1 = true) (h38:Af (ile 0 (ofNat c)) (ilt (ofNat c) (ofNat n)) = true) (h39:nlt c n = true) (h6:ieq (y c) (-1) = true) (h7:ieq ((cw b i)).op 5 = false) (h8:ilt (wr .i64 (Ae (ofNat c) 1)) (ofNat n) = true) (h9:ieq (ofNat i) (wr .i64 (A2 (ofNat (lw b)) 1)) = false):Ai (CD L) (DI n f) (Fe n f t q g x r ln co lw cw y b c ud i j) = some (.nm,⟨(jsV 150 0 (λ_=>.und) [(3,(.ptr 4 0)),(5,(.jref 5)),(7,(.ref 6)),(9,(iV (wr .i64 (Ae (ofNat c) 1)))),(10,(nV b)),(11,(.ept 7 1 0 0)),(12,(iV (wr .i64 (Ae (ofNat i) 1))))]),[.row 44 6 n (λi=>eV (g i)),.row 40 5 n (λi=>evV (x i)),.row 3 1 n (λi=>iV (r i)),.jag (Jag.mk 25 1 q (λ_=>.und) 0 3 1 (λ_=>true) ln (λk i=>iV (co k i))),.cells [iV 1,.ref 0,.ref 1,nV t,nV q,.ref 2,.jref 3],.jag (Jag.mk 64 1 t (λ_=>.und) 0 66 8 (λ_=>true) lw (λu j=>.agg [iV ((cw u j)).op,iV ((cw u j)).d,iV 0,iV 0,iV ((cw u j)).imm,.str ((cw u j)).loc,.str [],iV 0])),.row 3 1 n (λi=>iV (y i)),.row 70 1 15 (λi=>bV (ud i))]⟩):=Aa (bbK 53 8795823546367) ((λc0 c1 c2 c3 c4 c5 c6=>[c0,c1,c2,c2,ilt (ofNat i) (ofNat (lw b)),c0,c1,c2,c2,Af (ile 0 (ofNat i)) (ilt (ofNat i) (ofNat (lw b))),c2,nlt i (lw b),Fk ((cw b i)).op ((cw b i)).d 0 0 ((cw b i)).imm ((cw b i)).loc [] 0,c3,c3,c3,c3,c3,ile (ofNat n) (ofNat c),ieq ((cw b i)).op 3,c4,c4,c4,Af (ile 0 (ofNat c)) (ilt (ofNat c) (ofNat n)),c4,nlt c n,c4,c4,An (ieq (y c) (-1)),An (ieq ((cw b i)).op 5),c5,c5,c5,c5,c0,c5,c1,c2,c5,c2,c5,c5,c5,c6,c6,c6,c6,c6,c6,c6,c6,c6,false]) (Af (ile 0 (ofNat b)) (ilt (ofNat b) (ofNat t))) (nlt b t) (true) (An (ieq 0 0)) (ieq ((cw b i)).op 1) (ilt (wr .i64 (Ae (ofNat c) 1)) (ofNat n)) (ieq (ofNat i) (wr .i64 (A2 (ofNat (lw b)) 1)))) (by kernel_rfl) (by simp only [h34,h38] <;> simp only [*] <;> rfl)
theorem Ae3 (h35:Af (ile 0 (ofNat b)) (ilt (ofNat b) (ofNat t)) = true) (h1:nlt b t = true) (h0:ilt (ofNat i) (ofNat (lw b)) = true) (h36:ile 0 (ofNat i) = true) (h2:nlt i (lw b) = true) (h37:Fk ((cw b i)).op ((cw b i)).d 0 0 ((cw b i)).imm ((cw b i)).loc [] 0 = true) (h3:ile (ofNat n) (ofNat c) = false) (h4:ieq ((cw b i)).op 3 = true) (h39:Af (ile 0 ((cw b i)).d) (ilt ((cw b i)).d 15) = true) (h40:nlt (toN ((cw b i)).d) 15 = true) (h6:ud (toN ((cw b i)).d) = false) (h42:Af (ile 0 (ofNat c)) (ilt (ofNat c) (ofNat n)) = true) (h43:nlt c n = true) (h7:ieq (y c) ((cw b i)).d = true) (h5:ieq ((cw b i)).op 1 = false) (h8:ieq ((cw b i)).op 5 = false) (h9:ilt (wr .i64 (Ae (ofNat c) 1)) (ofNat n) = true) (h10:ieq (ofNat i) (wr .i64 (A2 (ofNat (lw b)) 1)) = false):Ai (CD L) (DI n f) (Fe n f t q g x r ln co lw cw y b c ud i j) = some (.nm,⟨(jsV 150 0 (λ_=>.und) [(3,(.ptr 4 0)),(5,(.jref 5)),(7,(.ref 6)),(9,(iV (wr .i64 (Ae (ofNat c) 1)))),(10,(nV b)),(11,(.ept 7 1 0 0)),(12,(iV (wr .i64 (Ae (ofNat i) 1))))]),[.row 44 6 n (λi=>eV (g i)),.row 40 5 n (λi=>evV (x i)),.row 3 1 n (λi=>iV (r i)),.jag (Jag.mk 25 1 q (λ_=>.und) 0 3 1 (λ_=>true) ln (λk i=>iV (co k i))),.cells [iV 1,.ref 0,.ref 1,nV t,nV q,.ref 2,.jref 3],.jag (Jag.mk 64 1 t (λ_=>.und) 0 66 8 (λ_=>true) lw (λu j=>.agg [iV ((cw u j)).op,iV ((cw u j)).d,iV 0,iV 0,iV ((cw u j)).imm,.str ((cw u j)).loc,.str [],iV 0])),.row 3 1 n (λi=>iV (y i)),.row 70 1 15 (Bl (λi=>bV (ud i)) (toN ((cw b i)).d) (bV true))]⟩):=Aa (bbK 66 72053221932670975) ((λc0 c1 c2 c3 c4 c5 c6 c7 c8 c9 c10=>[c0,c1,c2,c2,ilt (ofNat i) (ofNat (lw b)),c0,c1,c2,c2,Af (ile 0 (ofNat i)) (ilt (ofNat i) (ofNat (lw b))),c2,nlt i (lw b),Fk ((cw b i)).op ((cw b i)).d 0 0 ((cw b i)).imm ((cw b i)).loc [] 0,c3,c3,c3,c3,c3,ile (ofNat n) (ofNat c),ieq ((cw b i)).op 3,c4,c5,c6,c6,c6,Af (ile 0 (ofNat c)) (ilt (ofNat c) (ofNat n)),c6,nlt c n,c6,c6,c6,c6,An (ieq (y c) ((cw b i)).d),c4,c5,c7,c7,c7,c7,c7,c7,c8,An (ieq ((cw b i)).op 5),c9,c9,c9,c9,c0,c9,c1,c2,c9,c2,c9,c9,c9,c10,c10,c10,c10,c10,c10,c10,c10,c10,c8]) (Af (ile 0 (ofNat b)) (ilt (ofNat b) (ofNat t))) (nlt b t) (true) (An (ieq 0 0)) (Af (ile 0 ((cw b i)).d) (ilt ((cw b i)).d 15)) (nlt (toN ((cw b i)).d) 15) (ud (toN ((cw b i)).d)) (ieq ((cw b i)).op 1) (false) (ilt (wr .i64 (Ae (ofNat c) 1)) (ofNat n)) (ieq (ofNat i) (wr .i64 (A2 (ofNat (lw b)) 1)))) (by kernel_rfl) (by simp only [h35,h39,h42] <;> simp only [*] <;> rfl)
theorem Aez (h35:Af (ile 0 (ofNat b)) (ilt (ofNat b) (ofNat t)) = true) (h1:nlt b t = true) (h0:ilt (ofNat i) (ofNat (lw b)) = true) (h36:ile 0 (ofNat i) = true) (h2:nlt i (lw b) = true) (h37:Fk ((cw b i)).op ((cw b i)).d 0 0 ((cw b i)).imm ((cw b i)).loc [] 0 = true) (h3:ile (ofNat n) (ofNat c) = false) (h4:ieq ((cw b i)).op 3 = false) (h5:ieq ((cw b i)).op 1 = true) (h39:Af (ile 0 (ofNat c)) (ilt (ofNat c) (ofNat n)) = true) (h40:nlt c n = true) (h6:ieq (y c) (-1) = true) (h7:ieq ((cw b i)).op 5 = false) (h8:ilt (wr .i64 (Ae (ofNat c) 1)) (ofNat n) = true) (h9:ieq (ofNat i) (wr .i64 (A2 (ofNat (lw b)) 1)) = true) (h41:ile 0 (wr .i64 (Ae (ofNat c) 1)) = true) (h42:nlt (toN (wr .i64 (Ae (ofNat c) 1))) n = true) (h10:ieq ((x (toN (wr .i64 (Ae (ofNat c) 1))))).th (ofNat b) = false):Ai (CD L) (DI n f) (Fe n f t q g x r ln co lw cw y b c ud i j) = some (.nm,⟨(jsV 150 0 (λ_=>.und) [(3,(.ptr 4 0)),(5,(.jref 5)),(7,(.ref 6)),(9,(iV (wr .i64 (Ae (ofNat c) 1)))),(10,(nV b)),(11,(.ept 7 1 0 0)),(12,(iV (wr .i64 (Ae (ofNat i) 1))))]),[.row 44 6 n (λi=>eV (g i)),.row 40 5 n (λi=>evV (x i)),.row 3 1 n (λi=>iV (r i)),.jag (Jag.mk 25 1 q (λ_=>.und) 0 3 1 (λ_=>true) ln (λk i=>iV (co k i))),.cells [iV 1,.ref 0,.ref 1,nV t,nV q,.ref 2,.jref 3],.jag (Jag.mk 64 1 t (λ_=>.und) 0 66 8 (λ_=>true) lw (λu j=>.agg [iV ((cw u j)).op,iV ((cw u j)).d,iV 0,iV 0,iV ((cw u j)).imm,.str ((cw u j)).loc,.str [],iV 0])),.row 3 1 n (λi=>iV (y i)),.row 70 1 15 (λi=>bV (ud i))]⟩):=Aa (bbK 55 18014398240006143) ((λc0 c1 c2 c3 c4 c5 c6=>[c0,c1,c2,c2,ilt (ofNat i) (ofNat (lw b)),c0,c1,c2,c2,Af (ile 0 (ofNat i)) (ilt (ofNat i) (ofNat (lw b))),c2,nlt i (lw b),Fk ((cw b i)).op ((cw b i)).d 0 0 ((cw b i)).imm ((cw b i)).loc [] 0,c3,c3,c3,c3,c3,ile (ofNat n) (ofNat c),ieq ((cw b i)).op 3,c4,c4,c4,Af (ile 0 (ofNat c)) (ilt (ofNat c) (ofNat n)),c4,nlt c n,c4,c4,An (ieq (y c) (-1)),An (ieq ((cw b i)).op 5),c5,c5,c5,c5,c0,c5,c1,c2,c5,c2,c5,c5,c5,c6,c6,c6,c6,Af (ile 0 (wr .i64 (Ae (ofNat c) 1))) (ilt (wr .i64 (Ae (ofNat c) 1)) (ofNat n)),c6,c6,nlt (toN (wr .i64 (Ae (ofNat c) 1))) n,c6,c6,c6,ieq ((x (toN (wr .i64 (Ae (ofNat c) 1))))).th (ofNat b)]) (Af (ile 0 (ofNat b)) (ilt (ofNat b) (ofNat t))) (nlt b t) (true) (An (ieq 0 0)) (ieq ((cw b i)).op 1) (ilt (wr .i64 (Ae (ofNat c) 1)) (ofNat n)) (ieq (ofNat i) (wr .i64 (A2 (ofNat (lw b)) 1)))) (by kernel_rfl) (by simp only [h35,h39] <;> simp only [*] <;> rfl)
theorem Ae2 (h36:Af (ile 0 (ofNat b)) (ilt (ofNat b) (ofNat t)) = true) (h1:nlt b t = true) (h0:ilt (ofNat i) (ofNat (lw b)) = true) (h37:ile 0 (ofNat i) = true) (h2:nlt i (lw b) = true) (h38:Fk ((cw b i)).op ((cw b i)).d 0 0 ((cw b i)).imm ((cw b i)).loc [] 0 = true) (h3:ile (ofNat n) (ofNat c) = false) (h4:ieq ((cw b i)).op 3 = true) (h40:Af (ile 0 ((cw b i)).d) (ilt ((cw b i)).d 15) = true) (h41:nlt (toN ((cw b i)).d) 15 = true) (h6:ud (toN ((cw b i)).d) = false) (h43:Af (ile 0 (ofNat c)) (ilt (ofNat c) (ofNat n)) = true) (h44:nlt c n = true) (h7:ieq (y c) ((cw b i)).d = true) (h5:ieq ((cw b i)).op 1 = false) (h8:ieq ((cw b i)).op 5 = false) (h9:ilt (wr .i64 (Ae (ofNat c) 1)) (ofNat n) = true) (h10:ieq (ofNat i) (wr .i64 (A2 (ofNat (lw b)) 1)) = true) (h45:ile 0 (wr .i64 (Ae (ofNat c) 1)) = true) (h46:nlt (toN (wr .i64 (Ae (ofNat c) 1))) n = true) (h11:ieq ((x (toN (wr .i64 (Ae (ofNat c) 1))))).th (ofNat b) = false):Ai (CD L) (DI n f) (Fe n f t q g x r ln co lw cw y b c ud i j) = some (.nm,⟨(jsV 150 0 (λ_=>.und) [(3,(.ptr 4 0)),(5,(.jref 5)),(7,(.ref 6)),(9,(iV (wr .i64 (Ae (ofNat c) 1)))),(10,(nV b)),(11,(.ept 7 1 0 0)),(12,(iV (wr .i64 (Ae (ofNat i) 1))))]),[.row 44 6 n (λi=>eV (g i)),.row 40 5 n (λi=>evV (x i)),.row 3 1 n (λi=>iV (r i)),.jag (Jag.mk 25 1 q (λ_=>.und) 0 3 1 (λ_=>true) ln (λk i=>iV (co k i))),.cells [iV 1,.ref 0,.ref 1,nV t,nV q,.ref 2,.jref 3],.jag (Jag.mk 64 1 t (λ_=>.und) 0 66 8 (λ_=>true) lw (λu j=>.agg [iV ((cw u j)).op,iV ((cw u j)).d,iV 0,iV 0,iV ((cw u j)).imm,.str ((cw u j)).loc,.str [],iV 0])),.row 3 1 n (λi=>iV (y i)),.row 70 1 15 (Bl (λi=>bV (ud i)) (toN ((cw b i)).d) (bV true))]⟩):=Aa (bbK 68 147573948217571155967) ((λc0 c1 c2 c3 c4 c5 c6 c7 c8 c9=>[c0,c1,c2,c2,ilt (ofNat i) (ofNat (lw b)),c0,c1,c2,c2,Af (ile 0 (ofNat i)) (ilt (ofNat i) (ofNat (lw b))),c2,nlt i (lw b),Fk ((cw b i)).op ((cw b i)).d 0 0 ((cw b i)).imm ((cw b i)).loc [] 0,c3,c3,c3,c3,c3,ile (ofNat n) (ofNat c),ieq ((cw b i)).op 3,c4,c5,c6,c6,c6,Af (ile 0 (ofNat c)) (ilt (ofNat c) (ofNat n)),c6,nlt c n,c6,c6,c6,c6,An (ieq (y c) ((cw b i)).d),c4,c5,c7,c7,c7,c7,c7,c7,false,An (ieq ((cw b i)).op 5),c8,c8,c8,c8,c0,c8,c1,c2,c8,c2,c8,c8,c8,c9,c9,c9,c9,Af (ile 0 (wr .i64 (Ae (ofNat c) 1))) (ilt (wr .i64 (Ae (ofNat c) 1)) (ofNat n)),c9,c9,nlt (toN (wr .i64 (Ae (ofNat c) 1))) n,c9,c9,c9,ieq ((x (toN (wr .i64 (Ae (ofNat c) 1))))).th (ofNat b)]) (Af (ile 0 (ofNat b)) (ilt (ofNat b) (ofNat t))) (nlt b t) (true) (An (ieq 0 0)) (Af (ile 0 ((cw b i)).d) (ilt ((cw b i)).d 15)) (nlt (toN ((cw b i)).d) 15) (ud (toN ((cw b i)).d)) (ieq ((cw b i)).op 1) (ilt (wr .i64 (Ae (ofNat c) 1)) (ofNat n)) (ieq (ofNat i) (wr .i64 (A2 (ofNat (lw b)) 1)))) (by kernel_rfl) (by simp only [h36,h40,h43] <;> simp only [*] <;> rfl)
end
def KJ (n:Nat) (f:Nat->E6) (t q:Nat) (g:Nat->E6) (x:Nat->Ev5) (r:Nat->Int) (ln:Nat->Nat) (co:Nat->Nat->Int) (lw:Nat->Nat) (cw:Nat->Nat->In4) (y:Nat->Int) (b c:Nat) (j:Nat->V):St:=⟨(jsV 150 0 j [(3,(.ptr 4 0)),(5,(.jref 5)),(7,(.ref 6)),(9,(nV c)),(10,(nV b)),(11,(.ept 7 1 0 0)),(12,(iV 0)),(54,(nV b)),(55,(.jref 5)),(56,(nV t)),(57,(bV (ilt (ofNat b) (ofNat t))))]),[.row 44 6 n (λi=>eV (g i)),.row 40 5 n (λi=>evV (x i)),.row 3 1 n (λi=>iV (r i)),.jag (Jag.mk 25 1 q (λ_=>.und) 0 3 1 (λ_=>true) ln (λk i=>iV (co k i))),.cells [iV 1,.ref 0,.ref 1,nV t,nV q,.ref 2,.jref 3],.jag (Jag.mk 64 1 t (λ_=>.und) 0 66 8 (λ_=>true) lw (λu j=>.agg [iV ((cw u j)).op,iV ((cw u j)).d,iV 0,iV 0,iV ((cw u j)).imm,.str ((cw u j)).loc,.str [],iV 0])),.row 3 1 n (λi=>iV (y i)),.row 70 1 15 (λ_=>bV false)]⟩
theorem Aid (L:LT) (p2:PT) (n:Nat) (f:Nat->E6) (t q:Nat) (g:Nat->E6) (x:Nat->Ev5) (r:Nat->Int) (ln:Nat->Nat) (co:Nat->Nat->Int) (lw:Nat->Nat) (cw:Nat->Nat->In4) (y:Nat->Int) (b c:Nat) (e:Nat) (j:Nat->V) (h0:ilt (ofNat b) (ofNat t) = true) (hp2:p2 (CD (onP 2 p2 (KL n f t q g x r ln co lw cw y b e (λ_=>false) 0) L)) (KJ n f t q g x r ln co lw cw y b c j) = true):Ai (LJ (onP 2 p2 (KL n f t q g x r ln co lw cw y b e (λ_=>false) 0) L)) (OV n f) (WB n f t q g x r ln co lw cw y b c j) = some (.nm,⟨(jsV 150 0 (λ_=>.und) [(3,(.ptr 4 0)),(5,(.jref 5)),(7,(.ref 6)),(9,(nV e)),(10,(iV (wr .i64 (Ae (ofNat b) 1))))]),[.row 44 6 n (λi=>eV (g i)),.row 40 5 n (λi=>evV (x i)),.row 3 1 n (λi=>iV (r i)),.jag (Jag.mk 25 1 q (λ_=>.und) 0 3 1 (λ_=>true) ln (λk i=>iV (co k i))),.cells [iV 1,.ref 0,.ref 1,nV t,nV q,.ref 2,.jref 3],.jag (Jag.mk 64 1 t (λ_=>.und) 0 66 8 (λ_=>true) lw (λu j=>.agg [iV ((cw u j)).op,iV ((cw u j)).d,iV 0,iV 0,iV ((cw u j)).imm,.str ((cw u j)).loc,.str [],iV 0])),.row 3 1 n (λi=>iV (y i))]⟩):=Aa [true,true] [ilt (ofNat b) (ofNat t),p2 (CD (onP 2 p2 (KL n f t q g x r ln co lw cw y b e (λ_=>false) 0) L)) (KJ n f t q g x r ln co lw cw y b c j)] (by kernel_rfl) (by simp only [hp2] <;> simp only [h0] <;> rfl)
noncomputable abbrev V5 (L:LT) (p0:PT) (n:Nat) (f:Nat->E6) (b:Nat) (c:Nat):LT:=onP 0 p0 (Wn n f (ttN n (shG n f)) (kkN n (shG n f)) (shG n f) (evF n (shG n f) (λ_=>true)) (rfF n (shG n f) (λ_=>true)) (lnN (mbF (shG n f)) (wrF (shG n f)) n) (λk i=>ofNat (coN (mbF (shG n f)) (wrF (shG n f)) n k i)) (lwX 1 n (shG n f) n (evF n (shG n f) (λ_=>true)) (ofNat (ttN n (shG n f))) (ofNat (kkN n (shG n f))) n (rfF n (shG n f) (λ_=>true)) (kkN n (shG n f)) (lnN (mbF (shG n f)) (wrF (shG n f)) n) (λk i=>ofNat (coN (mbF (shG n f)) (wrF (shG n f)) n k i))) (cwX 1 n (shG n f) n (evF n (shG n f) (λ_=>true)) (ofNat (ttN n (shG n f))) (ofNat (kkN n (shG n f))) n (rfF n (shG n f) (λ_=>true)) (kkN n (shG n f)) (lnN (mbF (shG n f)) (wrF (shG n f)) n) (λk i=>ofNat (coN (mbF (shG n f)) (wrF (shG n f)) n k i))) (yyX 1 n (shG n f) n (evF n (shG n f) (λ_=>true)) (ofNat (ttN n (shG n f))) (ofNat (kkN n (shG n f))) n (rfF n (shG n f) (λ_=>true)) (kkN n (shG n f)) (lnN (mbF (shG n f)) (wrF (shG n f)) n) (λk i=>ofNat (coN (mbF (shG n f)) (wrF (shG n f)) n k i))) b c) L
theorem Akv (L:LT) (p0:PT) (n:Nat) (f:Nat->E6) (b c:Nat) (h25:AN n = true) (h0:ieq (BR 1 n f) 0 = true) (h26:AT [.row 44 6 n (λi=>eV (shG n f i)),.row 40 5 n (λi=>evV (evF n (shG n f) (λ_=>true) i)),.row 3 1 n (λi=>iV (rfF n (shG n f) (λ_=>true) i)),.jag (Jag.mk 25 1 (kkN n (shG n f)) (λ_=>.und) 0 3 1 (λ_=>true) (lnN (mbF (shG n f)) (wrF (shG n f)) n) (λk i=>iV (ofNat (coN (mbF (shG n f)) (wrF (shG n f)) n k i)))),.cells [iV 1,.ref 0,.ref 1,iV (ofNat (ttN n (shG n f))),iV (ofNat (kkN n (shG n f))),.ref 2,.jref 3]] = true) (h27:Au (kkN n (shG n f)) (λi=>Au (lnN (mbF (shG n f)) (wrF (shG n f)) n i) (λ_=>true)) = true) (h28:Ah n = true) (h29:Ah (kkN n (shG n f)) = true) (h30:Au (kkN n (shG n f)) (λi=>Ah (lnN (mbF (shG n f)) (wrF (shG n f)) n i)) = true) (h31:ieq (BB 1 n (λi=>shG n f i) n (λi=>evF n (shG n f) (λ_=>true) i) (ofNat (ttN n (shG n f))) (ofNat (kkN n (shG n f))) n (rfF n (shG n f) (λ_=>true)) (kkN n (shG n f)) (lnN (mbF (shG n f)) (wrF (shG n f)) n) (λi i_1=>ofNat (coN (mbF (shG n f)) (wrF (shG n f)) n i i_1))) 0 = true) (h32:wrX 1 n (λi=>shG n f i) n (λi=>evF n (shG n f) (λ_=>true) i) (ofNat (ttN n (shG n f))) (ofNat (kkN n (shG n f))) n (rfF n (shG n f) (λ_=>true)) (kkN n (shG n f)) (lnN (mbF (shG n f)) (wrF (shG n f)) n) (λi i_1=>ofNat (coN (mbF (shG n f)) (wrF (shG n f)) n i i_1)) = true) (h33:AW [.jag (Jag.mk 64 1 (ttN n (shG n f)) (λ_=>.und) 0 66 8 (λ_=>true) (lwX 1 n (λi_1=>shG n f i_1) n (λi_1=>evF n (shG n f) (λ_=>true) i_1) (ofNat (ttN n (shG n f))) (ofNat (kkN n (shG n f))) n (rfF n (shG n f) (λ_=>true)) (kkN n (shG n f)) (lnN (mbF (shG n f)) (wrF (shG n f)) n) (λi i_1=>ofNat (coN (mbF (shG n f)) (wrF (shG n f)) n i i_1))) (λu j=>.agg [iV ((cwX 1 n (λi=>shG n f i) n (λi=>evF n (shG n f) (λ_=>true) i) (ofNat (ttN n (shG n f))) (ofNat (kkN n (shG n f))) n (rfF n (shG n f) (λ_=>true)) (kkN n (shG n f)) (lnN (mbF (shG n f)) (wrF (shG n f)) n) (λi i_1=>ofNat (coN (mbF (shG n f)) (wrF (shG n f)) n i i_1)) u j)).op,iV ((cwX 1 n (λi=>shG n f i) n (λi=>evF n (shG n f) (λ_=>true) i) (ofNat (ttN n (shG n f))) (ofNat (kkN n (shG n f))) n (rfF n (shG n f) (λ_=>true)) (kkN n (shG n f)) (lnN (mbF (shG n f)) (wrF (shG n f)) n) (λi i_1=>ofNat (coN (mbF (shG n f)) (wrF (shG n f)) n i i_1)) u j)).d,iV 0,iV 0,iV ((cwX 1 n (λi=>shG n f i) n (λi=>evF n (shG n f) (λ_=>true) i) (ofNat (ttN n (shG n f))) (ofNat (kkN n (shG n f))) n (rfF n (shG n f) (λ_=>true)) (kkN n (shG n f)) (lnN (mbF (shG n f)) (wrF (shG n f)) n) (λi i_1=>ofNat (coN (mbF (shG n f)) (wrF (shG n f)) n i i_1)) u j)).imm,.str ((cwX 1 n (λi=>shG n f i) n (λi=>evF n (shG n f) (λ_=>true) i) (ofNat (ttN n (shG n f))) (ofNat (kkN n (shG n f))) n (rfF n (shG n f) (λ_=>true)) (kkN n (shG n f)) (lnN (mbF (shG n f)) (wrF (shG n f)) n) (λi i_1=>ofNat (coN (mbF (shG n f)) (wrF (shG n f)) n i i_1)) u j)).loc,.str [],iV 0]))] = true) (h34:AT [.row 44 6 n (λi=>eV (shG n f i)),.row 40 5 n (λi=>evV (evF n (shG n f) (λ_=>true) i)),.row 3 1 n (λi=>iV (rfF n (shG n f) (λ_=>true) i)),.jag (Jag.mk 25 1 (kkN n (shG n f)) (λ_=>.und) 0 3 1 (λ_=>true) (lnN (mbF (shG n f)) (wrF (shG n f)) n) (λk i=>iV (ofNat (coN (mbF (shG n f)) (wrF (shG n f)) n k i)))),.cells [iV 1,.ref 0,.ref 1,iV (ofNat (ttN n (shG n f))),iV (ofNat (kkN n (shG n f))),.ref 2,.jref 3],.jag (Jag.mk 64 1 (ttN n (shG n f)) (λ_=>.und) 0 66 8 (λ_=>true) (lwX 1 n (λi_1=>shG n f i_1) n (λi_1=>evF n (shG n f) (λ_=>true) i_1) (ofNat (ttN n (shG n f))) (ofNat (kkN n (shG n f))) n (rfF n (shG n f) (λ_=>true)) (kkN n (shG n f)) (lnN (mbF (shG n f)) (wrF (shG n f)) n) (λi i_1=>ofNat (coN (mbF (shG n f)) (wrF (shG n f)) n i i_1))) (λu j=>.agg [iV ((cwX 1 n (λi=>shG n f i) n (λi=>evF n (shG n f) (λ_=>true) i) (ofNat (ttN n (shG n f))) (ofNat (kkN n (shG n f))) n (rfF n (shG n f) (λ_=>true)) (kkN n (shG n f)) (lnN (mbF (shG n f)) (wrF (shG n f)) n) (λi i_1=>ofNat (coN (mbF (shG n f)) (wrF (shG n f)) n i i_1)) u j)).op,iV ((cwX 1 n (λi=>shG n f i) n (λi=>evF n (shG n f) (λ_=>true) i) (ofNat (ttN n (shG n f))) (ofNat (kkN n (shG n f))) n (rfF n (shG n f) (λ_=>true)) (kkN n (shG n f)) (lnN (mbF (shG n f)) (wrF (shG n f)) n) (λi i_1=>ofNat (coN (mbF (shG n f)) (wrF (shG n f)) n i i_1)) u j)).d,iV 0,iV 0,iV ((cwX 1 n (λi=>shG n f i) n (λi=>evF n (shG n f) (λ_=>true) i) (ofNat (ttN n (shG n f))) (ofNat (kkN n (shG n f))) n (rfF n (shG n f) (λ_=>true)) (kkN n (shG n f)) (lnN (mbF (shG n f)) (wrF (shG n f)) n) (λi i_1=>ofNat (coN (mbF (shG n f)) (wrF (shG n f)) n i i_1)) u j)).imm,.str ((cwX 1 n (λi=>shG n f i) n (λi=>evF n (shG n f) (λ_=>true) i) (ofNat (ttN n (shG n f))) (ofNat (kkN n (shG n f))) n (rfF n (shG n f) (λ_=>true)) (kkN n (shG n f)) (lnN (mbF (shG n f)) (wrF (shG n f)) n) (λi i_1=>ofNat (coN (mbF (shG n f)) (wrF (shG n f)) n i i_1)) u j)).loc,.str [],iV 0]))] = true) (h35:AW [.row 3 1 n (λi=>iV (yyX 1 n (λi_1=>shG n f i_1) n (λi_1=>evF n (shG n f) (λ_=>true) i_1) (ofNat (ttN n (shG n f))) (ofNat (kkN n (shG n f))) n (rfF n (shG n f) (λ_=>true)) (kkN n (shG n f)) (lnN (mbF (shG n f)) (wrF (shG n f)) n) (λi i_1=>ofNat (coN (mbF (shG n f)) (wrF (shG n f)) n i i_1)) i))] = true) (h1:ieq (ofNat c) (ofNat n) = true) (hp0:p0 (LJ (V5 L p0 n f b c)) (Tg n f) = true):(Az (Ak tab ⟨Ap RK,onP 0 p0 (Wn n f (ttN n (shG n f)) (kkN n (shG n f)) (shG n f) (evF n (shG n f) (λ_=>true)) (rfF n (shG n f) (λ_=>true)) (lnN (mbF (shG n f)) (wrF (shG n f)) n) (λk i=>ofNat (coN (mbF (shG n f)) (wrF (shG n f)) n k i)) (lwX 1 n (shG n f) n (evF n (shG n f) (λ_=>true)) (ofNat (ttN n (shG n f))) (ofNat (kkN n (shG n f))) n (rfF n (shG n f) (λ_=>true)) (kkN n (shG n f)) (lnN (mbF (shG n f)) (wrF (shG n f)) n) (λk i=>ofNat (coN (mbF (shG n f)) (wrF (shG n f)) n k i))) (cwX 1 n (shG n f) n (evF n (shG n f) (λ_=>true)) (ofNat (ttN n (shG n f))) (ofNat (kkN n (shG n f))) n (rfF n (shG n f) (λ_=>true)) (kkN n (shG n f)) (lnN (mbF (shG n f)) (wrF (shG n f)) n) (λk i=>ofNat (coN (mbF (shG n f)) (wrF (shG n f)) n k i))) (yyX 1 n (shG n f) n (evF n (shG n f) (λ_=>true)) (ofNat (ttN n (shG n f))) (ofNat (kkN n (shG n f))) n (rfF n (shG n f) (λ_=>true)) (kkN n (shG n f)) (lnN (mbF (shG n f)) (wrF (shG n f)) n) (λk i=>ofNat (coN (mbF (shG n f)) (wrF (shG n f)) n k i))) b c) L,Gl⟩ Try.f12 [.sl 6 n λi=>eV (f i)] [])).sem = some ((bV true),[]):=Aa (bbK 38 240526557183) ((λc0 c1 c2 c3 c4 c5 c6 c7=>[c0,c1,ieq (BR 1 n f) 0,AT [.row 44 6 n (λi=>eV (shG n f i)),.row 40 5 n (λi=>evV (evF n (shG n f) (λ_=>true) i)),.row 3 1 n (λi=>iV (rfF n (shG n f) (λ_=>true) i)),.jag (Jag.mk 25 1 (kkN n (shG n f)) (λ_=>.und) 0 3 1 (λ_=>true) (lnN (mbF (shG n f)) (wrF (shG n f)) n) (λk i=>iV (ofNat (coN (mbF (shG n f)) (wrF (shG n f)) n k i)))),.cells [iV 1,.ref 0,.ref 1,iV (ofNat (ttN n (shG n f))),iV (ofNat (kkN n (shG n f))),.ref 2,.jref 3]],c0,c0,c0,c2,c1,c3,c4,c5,AW [.jag (Jag.mk 64 1 (ttN n (shG n f)) (λ_=>.und) 0 66 8 (λ_=>true) (lwX 1 n (λi_1=>shG n f i_1) n (λi_1=>evF n (shG n f) (λ_=>true) i_1) (ofNat (ttN n (shG n f))) (ofNat (kkN n (shG n f))) n (rfF n (shG n f) (λ_=>true)) (kkN n (shG n f)) (lnN (mbF (shG n f)) (wrF (shG n f)) n) (λi i_1=>ofNat (coN (mbF (shG n f)) (wrF (shG n f)) n i i_1))) (λu j=>.agg [iV ((cwX 1 n (λi=>shG n f i) n (λi=>evF n (shG n f) (λ_=>true) i) (ofNat (ttN n (shG n f))) (ofNat (kkN n (shG n f))) n (rfF n (shG n f) (λ_=>true)) (kkN n (shG n f)) (lnN (mbF (shG n f)) (wrF (shG n f)) n) (λi i_1=>ofNat (coN (mbF (shG n f)) (wrF (shG n f)) n i i_1)) u j)).op,iV ((cwX 1 n (λi=>shG n f i) n (λi=>evF n (shG n f) (λ_=>true) i) (ofNat (ttN n (shG n f))) (ofNat (kkN n (shG n f))) n (rfF n (shG n f) (λ_=>true)) (kkN n (shG n f)) (lnN (mbF (shG n f)) (wrF (shG n f)) n) (λi i_1=>ofNat (coN (mbF (shG n f)) (wrF (shG n f)) n i i_1)) u j)).d,iV 0,iV 0,iV ((cwX 1 n (λi=>shG n f i) n (λi=>evF n (shG n f) (λ_=>true) i) (ofNat (ttN n (shG n f))) (ofNat (kkN n (shG n f))) n (rfF n (shG n f) (λ_=>true)) (kkN n (shG n f)) (lnN (mbF (shG n f)) (wrF (shG n f)) n) (λi i_1=>ofNat (coN (mbF (shG n f)) (wrF (shG n f)) n i i_1)) u j)).imm,.str ((cwX 1 n (λi=>shG n f i) n (λi=>evF n (shG n f) (λ_=>true) i) (ofNat (ttN n (shG n f))) (ofNat (kkN n (shG n f))) n (rfF n (shG n f) (λ_=>true)) (kkN n (shG n f)) (lnN (mbF (shG n f)) (wrF (shG n f)) n) (λi i_1=>ofNat (coN (mbF (shG n f)) (wrF (shG n f)) n i i_1)) u j)).loc,.str [],iV 0]))],AT [.row 44 6 n (λi=>eV (shG n f i)),.row 40 5 n (λi=>evV (evF n (shG n f) (λ_=>true) i)),.row 3 1 n (λi=>iV (rfF n (shG n f) (λ_=>true) i)),.jag (Jag.mk 25 1 (kkN n (shG n f)) (λ_=>.und) 0 3 1 (λ_=>true) (lnN (mbF (shG n f)) (wrF (shG n f)) n) (λk i=>iV (ofNat (coN (mbF (shG n f)) (wrF (shG n f)) n k i)))),.cells [iV 1,.ref 0,.ref 1,iV (ofNat (ttN n (shG n f))),iV (ofNat (kkN n (shG n f))),.ref 2,.jref 3],.jag (Jag.mk 64 1 (ttN n (shG n f)) (λ_=>.und) 0 66 8 (λ_=>true) (lwX 1 n (λi_1=>shG n f i_1) n (λi_1=>evF n (shG n f) (λ_=>true) i_1) (ofNat (ttN n (shG n f))) (ofNat (kkN n (shG n f))) n (rfF n (shG n f) (λ_=>true)) (kkN n (shG n f)) (lnN (mbF (shG n f)) (wrF (shG n f)) n) (λi i_1=>ofNat (coN (mbF (shG n f)) (wrF (shG n f)) n i i_1))) (λu j=>.agg [iV ((cwX 1 n (λi=>shG n f i) n (λi=>evF n (shG n f) (λ_=>true) i) (ofNat (ttN n (shG n f))) (ofNat (kkN n (shG n f))) n (rfF n (shG n f) (λ_=>true)) (kkN n (shG n f)) (lnN (mbF (shG n f)) (wrF (shG n f)) n) (λi i_1=>ofNat (coN (mbF (shG n f)) (wrF (shG n f)) n i i_1)) u j)).op,iV ((cwX 1 n (λi=>shG n f i) n (λi=>evF n (shG n f) (λ_=>true) i) (ofNat (ttN n (shG n f))) (ofNat (kkN n (shG n f))) n (rfF n (shG n f) (λ_=>true)) (kkN n (shG n f)) (lnN (mbF (shG n f)) (wrF (shG n f)) n) (λi i_1=>ofNat (coN (mbF (shG n f)) (wrF (shG n f)) n i i_1)) u j)).d,iV 0,iV 0,iV ((cwX 1 n (λi=>shG n f i) n (λi=>evF n (shG n f) (λ_=>true) i) (ofNat (ttN n (shG n f))) (ofNat (kkN n (shG n f))) n (rfF n (shG n f) (λ_=>true)) (kkN n (shG n f)) (lnN (mbF (shG n f)) (wrF (shG n f)) n) (λi i_1=>ofNat (coN (mbF (shG n f)) (wrF (shG n f)) n i i_1)) u j)).imm,.str ((cwX 1 n (λi=>shG n f i) n (λi=>evF n (shG n f) (λ_=>true) i) (ofNat (ttN n (shG n f))) (ofNat (kkN n (shG n f))) n (rfF n (shG n f) (λ_=>true)) (kkN n (shG n f)) (lnN (mbF (shG n f)) (wrF (shG n f)) n) (λi i_1=>ofNat (coN (mbF (shG n f)) (wrF (shG n f)) n i i_1)) u j)).loc,.str [],iV 0]))],c0,c0,c0,c2,c1,c3,c4,c5,AW [.row 3 1 n (λi=>iV (yyX 1 n (λi_1=>shG n f i_1) n (λi_1=>evF n (shG n f) (λ_=>true) i_1) (ofNat (ttN n (shG n f))) (ofNat (kkN n (shG n f))) n (rfF n (shG n f) (λ_=>true)) (kkN n (shG n f)) (lnN (mbF (shG n f)) (wrF (shG n f)) n) (λi i_1=>ofNat (coN (mbF (shG n f)) (wrF (shG n f)) n i i_1)) i))],An true,c6,c6,c6,c6,c6,c6,c6,c6,c6,c6,An (ieq (ofNat n) (ofNat n)),p0 (LJ (V5 L p0 n f b c)) (Tg n f),c7,c7]) (Au n (λ_=>true)) (AN n) (Au (kkN n (shG n f)) (λi=>Au (lnN (mbF (shG n f)) (wrF (shG n f)) n i) (λ_=>true))) (Af (Ah n) (Af (Ah n) (Af (Ah n) (Af (Ah (kkN n (shG n f))) (Au (kkN n (shG n f)) (λi=>Ah (lnN (mbF (shG n f)) (wrF (shG n f)) n i))))))) (ieq (BB 1 n (λi=>shG n f i) n (λi=>evF n (shG n f) (λ_=>true) i) (ofNat (ttN n (shG n f))) (ofNat (kkN n (shG n f))) n (rfF n (shG n f) (λ_=>true)) (kkN n (shG n f)) (lnN (mbF (shG n f)) (wrF (shG n f)) n) (λi i_1=>ofNat (coN (mbF (shG n f)) (wrF (shG n f)) n i i_1))) 0) (wrX 1 n (λi=>shG n f i) n (λi=>evF n (shG n f) (λ_=>true) i) (ofNat (ttN n (shG n f))) (ofNat (kkN n (shG n f))) n (rfF n (shG n f) (λ_=>true)) (kkN n (shG n f)) (lnN (mbF (shG n f)) (wrF (shG n f)) n) (λi i_1=>ofNat (coN (mbF (shG n f)) (wrF (shG n f)) n i i_1))) (An (ieq 0 0)) (ieq (ofNat c) (ofNat n))) (by kernel_rfl) (by simp only [hp0] <;> simp only [*,Aw,Bv] <;> rfl)
theorem UI (n:Nat) (f:Nat->E6) (t q:Nat) (g:Nat->E6) (x:Nat->Ev5) (r:Nat->Int) (ln:Nat->Nat) (co:Nat->Nat->Int) (lw:Nat->Nat) (cw:Nat->Nat->In4) (y:Nat->Int) (b c:Nat) (j:Nat->V):KJ n f t q g x r ln co lw cw y b c j = Fe n f t q g x r ln co lw cw y b c (λ_=>false) 0 (λi=>nth (KJ n f t q g x r ln co lw cw y b c j).t i):=by kernel_rfl
theorem ZK (n:Nat) (f:Nat->E6):Tg n f = WB n f (ttN n (shG n f)) (kkN n (shG n f)) (shG n f) (evF n (shG n f) (λ_=>true)) (rfF n (shG n f) (λ_=>true)) (lnN (mbF (shG n f)) (wrF (shG n f)) n) (λk i=>ofNat (coN (mbF (shG n f)) (wrF (shG n f)) n k i)) (lwX 1 n (shG n f) n (evF n (shG n f) (λ_=>true)) (ofNat (ttN n (shG n f))) (ofNat (kkN n (shG n f))) n (rfF n (shG n f) (λ_=>true)) (kkN n (shG n f)) (lnN (mbF (shG n f)) (wrF (shG n f)) n) (λk i=>ofNat (coN (mbF (shG n f)) (wrF (shG n f)) n k i))) (cwX 1 n (shG n f) n (evF n (shG n f) (λ_=>true)) (ofNat (ttN n (shG n f))) (ofNat (kkN n (shG n f))) n (rfF n (shG n f) (λ_=>true)) (kkN n (shG n f)) (lnN (mbF (shG n f)) (wrF (shG n f)) n) (λk i=>ofNat (coN (mbF (shG n f)) (wrF (shG n f)) n k i))) (yyX 1 n (shG n f) n (evF n (shG n f) (λ_=>true)) (ofNat (ttN n (shG n f))) (ofNat (kkN n (shG n f))) n (rfF n (shG n f) (λ_=>true)) (kkN n (shG n f)) (lnN (mbF (shG n f)) (wrF (shG n f)) n) (λk i=>ofNat (coN (mbF (shG n f)) (wrF (shG n f)) n k i))) 0 0 (λi=>nth (Tg n f).t i):=by kernel_rfl
def udN (k:Nat):Nat->Bool:=λi=>decide (i < k)
theorem Aee (k:Nat):Bl (λi=>bV (udN k i)) k (bV true) = λi=>bV (udN (k+1) i):=by
 funext i
 rw [F9]
 unfold udN
 by_cases h:i = k
 ·subst h
  rw [Nat.beq_refl,decide_eq_true (Nat.lt_succ_self i)]
  rfl
 ·rw [show Nat.beq i k = false from Go.Sy.nbeq_ne h,show decide (i < k+1) = decide (i < k) from decide_eq_decide.2 (by omega)]
  rfl
theorem AcW (L:LT) (n:Nat) (f:Nat->E6) (t q:Nat) (g:Nat->E6) (x:Nat->Ev5) (r:Nat->Int) (ln:Nat->Nat) (co:Nat->Nat->Int) (lw:Nat->Nat) (cw:Nat->Nat->In4) (y:Nat->Int) (n16:n <= 16) {b c:Nat} (l32:lw b <= 32) (hb:b < t) {i k:Nat} (hil:i < lw b) (hcn:c < n) (hk:k < 15) (hI:InsOK (cw b i) (x c) (y c) k)
  (hlast:c+1 < n->i+1 = lw b->ieq (x (c+1)).th (ofNat b) = false) (j:Nat->V) :
  Ai (CD L) (DI n f) (Fe n f t q g x r ln co lw cw y b c (udN k) i j) = some (.nm,Fe n f t q g x r ln co lw cw y b (c+1) (udN (bif ieq (x c).dir 2 then k else k+1)) (i+1) (λ_=>.und)):=by
 have hb2:nlt b t = true:=decide_eq_true hb
 have hil1:=ofNat_lt hil
 have hil2:nlt i (lw b) = true:=decide_eq_true hil
 have hok:=hI.ok
 have h5:=hI.nf
 have hnc:=Mh hcn
 have hcb:=Aq hcn
 have hcn2:nlt c n = true:=decide_eq_true hcn
 have e1:wr .i64 (Ae (ofNat c) 1) = ofNat (c+1):=Ao hcn (by omega)
 have e2:wr .i64 (Ae (ofNat i) 1) = ofNat (i+1):=Ao hil (by omega)
 have e3:wr .i64 (A2 (ofNat (lw b)) 1) = ofNat (lw b - 1):=by
  obtain ⟨w,hw⟩:∃ w,lw b = w+1:=⟨lw b - 1,by omega⟩
  rw [hw]
  exact MB (by omega)
 have h45:ile 0 (wr .i64 (Ae (ofNat c) 1)) = true:=by rw [e1]; exact AI _
 have h9':ilt (wr .i64 (Ae (ofNat c) 1)) (ofNat n) = decide (c+1 < n):=by
  rw [e1]
  by_cases h:c+1 < n
  ·rw [ofNat_lt h,decide_eq_true h]
  ·rw [AD (by omega),decide_eq_false h]
 have h10':ieq (ofNat i) (wr .i64 (A2 (ofNat (lw b)) 1)) = decide (i+1 = lw b):=by
  rw [e3]
  by_cases h:i+1 = lw b
  ·rw [show lw b - 1 = i by omega,F4,decide_eq_true h]
  ·rw [HF (show i ≠ lw b - 1 by omega),decide_eq_false h]
 have h11':c+1 < n->i+1 = lw b->nlt (toN (wr .i64 (Ae (ofNat c) 1))) n = true ∧ ieq (x (toN (wr .i64 (Ae (ofNat c) 1)))).th (ofNat b) = false:=λp q=>by
  rw [e1]
  exact ⟨decide_eq_true p,hlast p q⟩
 cases hd:ieq (x c).dir 2 with
 | true =>
  obtain ⟨h1,h3,hy⟩:=hI.st hd
  by_cases p:c+1 < n
  ·rw [decide_eq_true p] at h9'
   by_cases q':i+1 = lw b
   ·rw [decide_eq_true q'] at h10'
    obtain ⟨h46,h11⟩:=h11' p q'
    have h9:=h9'
    have h10:=h10'
    rw [Aez L n f t q g x r ln co lw cw y b c (udN k) i j (Aq hb) hb2 hil1 (AI _) hil2 hok hnc h3 h1 hcb hcn2 hy h5 h9 h10 h45 h46 h11,e1,e2]; rfl
   ·rw [decide_eq_false q'] at h10'
    have h9:=h9'
    have h10:=h10'
    rw [Ae0 L n f t q g x r ln co lw cw y b c (udN k) i j (Aq hb) hb2 hil1 (AI _) hil2 hok hnc h3 h1 hcb hcn2 hy h5 h9 h10,e1,e2]; rfl
  ·rw [decide_eq_false p] at h9'
   have h9:=h9'
   rw [Ae1 L n f t q g x r ln co lw cw y b c (udN k) i j (Aq hb) hb2 hil1 (AI _) hil2 hok hnc h3 h1 hcb hcn2 hy h5 h9,e1,e2]; rfl
 | false =>
  obtain ⟨h3,h1,hD,hy⟩:=hI.ld hd
  have hd1:Af (ile 0 (cw b i).d) (ilt (cw b i).d 15) = true:=by rw [hD]; exact Aq hk
  have hd2:nlt (toN (cw b i).d) 15 = true:=by rw [hD]; exact decide_eq_true hk
  have hud:udN k (toN (cw b i).d) = false:=by rw [hD]; exact decide_eq_false (Nat.lt_irrefl k)
  have hput:Bl (λi=>bV (udN k i)) (toN (cw b i).d) (bV true) = λi=>bV (udN (k+1) i):=by rw [hD]; exact Aee k
  by_cases p:c+1 < n
  ·rw [decide_eq_true p] at h9'
   by_cases q':i+1 = lw b
   ·rw [decide_eq_true q'] at h10'
    obtain ⟨h46,h11⟩:=h11' p q'
    have h9:=h9'
    have h10:=h10'
    rw [Ae2 L n f t q g x r ln co lw cw y b c (udN k) i j (Aq hb) hb2 hil1 (AI _) hil2 hok hnc h3 hd1 hd2 hud hcb hcn2 hy h1 h5 h9 h10 h45 h46 h11,e1,e2,hput]; rfl
   ·rw [decide_eq_false q'] at h10'
    have h9:=h9'
    have h10:=h10'
    rw [Ae3 L n f t q g x r ln co lw cw y b c (udN k) i j (Aq hb) hb2 hil1 (AI _) hil2 hok hnc h3 hd1 hd2 hud hcb hcn2 hy h1 h5 h9 h10,e1,e2,hput]; rfl
  ·rw [decide_eq_false p] at h9'
   have h9:=h9'
   rw [Ae4 L n f t q g x r ln co lw cw y b c (udN k) i j (Aq hb) hb2 hil1 (AI _) hil2 hok hnc h3 hd1 hd2 hud hcb hcn2 hy h1 h5 h9,e1,e2,hput]; rfl
theorem Uh (L:LT) (n:Nat) (f:Nat->E6) (t q:Nat) (g:Nat->E6) (x:Nat->Ev5) (r:Nat->Int) (ln:Nat->Nat) (co:Nat->Nat->Int) (lw:Nat->Nat) (cw:Nat->Nat->In4) (y:Nat->Int) (n16:n <= 16) {b c m:Nat} {P:Nat->Nat} {I:Nat->In4} (l32:lw b <= 32) (hb:b < t) (H:ThrB n g x (lw b) (cw b) b c m P I) (m12:m <= 12)
  (hI:∀ d,d < m->InsOK (I d) (x (c+d)) (y (c+d)) (rdN x c d)) (hend:c+m < n->ieq (x (c+m)).th (ofNat b) = false):∀ (e d i:Nat) (j:Nat->V) (u:Nat),m = d+e->i = P d->lw b < u+i ->
  (A9 (CD L) (DI n f) u (Fe n f t q g x r ln co lw cw y b (c+d) (udN (rdN x c d)) i j)).sem = some (KL n f t q g x r ln co lw cw y b (c+m) (λ_=>false) 0)
 | 0,d,i,j,u,h,hi,hu=>by
  have hb2:nlt b t = true:=decide_eq_true hb
  have:d = m:=by omega
  subst this
  have hi2:i = lw b:=hi.trans H.pm
  obtain ⟨v,rfl⟩:∃ v,u = v+1:=⟨u - 1,by omega⟩
  exact Ad (AhX L n f t q g x r ln co lw cw y b (c+d) _ i j (Aq hb) hb2 (by rw [hi2]; exact AD (Nat.le_refl _)))
 | e+1,d,i,j,u,h,hi,hu=>by
  have hb2:nlt b t = true:=decide_eq_true hb
  have hd:d < m:=by omega
  have hcm:=H.cm
  obtain ⟨q1,q2⟩:=H.mono d hd
  obtain ⟨h1,h2,_,h3⟩:=H.st d hd
  rw [<- hi] at q1 h3
  obtain ⟨v,rfl⟩:∃ v,u = v+1:=⟨u - 1,by omega⟩
  have hrd:rdN x c d <= d:=AX _ _
  have hid:=hI d hd
  have hrs:rdN x c (d+1) = bif ieq (x (c+d)).dir 2 then rdN x c d else rdN x c d+1:=by
   cases hq:ieq (x (c+d)).dir 2 with
   | true=>exact Br (p:=λe=>An (ieq (x (c+e)).dir 2)) (by rw [hq]; rfl)
   | false=>exact Bi (p:=λe=>An (ieq (x (c+e)).dir 2)) (by rw [hq]; rfl)
  have hnext:∀ z,z = P (d+1)->c+d+1 < n->z = lw b->ieq (x (c+d+1)).th (ofNat b) = false:=λz hz hc hl=>by
   by_cases hdm:d+1 < m
   ·have:=(H.mono (d+1) hdm)
    omega
   ·have:d+1 = m:=by omega
    rw [show c+d+1 = c+m by omega]
    exact hend (by omega)
  rcases h3 with ⟨_,e1,hi1⟩ | ⟨hf,e1,hi0',hi1⟩ <;> rw [<- hi1] at hid
  ·have next:=Uh L n f t q g x r ln co lw cw y n16 l32 hb H m12 hI hend e (d+1) (i+1) (λ_=>.und) v (by omega) e1.symm (by omega)
   rw [hrs] at next
   rw [Ad (AcW L n f t q g x r ln co lw cw y n16 l32 hb (by omega) (by omega) (by omega) hid (λhc hl=>hnext (i+1) e1.symm hc hl) j),Ax]
   exact next
  ·obtain ⟨v,rfl⟩:∃ v',v = v'+1:=⟨v - 1,by omega⟩
   have next:=Uh L n f t q g x r ln co lw cw y n16 l32 hb H m12 hI hend e (d+1) (i+1+1) (λ_=>.und) v (by omega) e1.symm (by omega)
   rw [hrs] at next
   have hil:i < lw b:=by omega
   have hil1:=ofNat_lt hil
   have hil2:nlt i (lw b) = true:=decide_eq_true hil
   have hcn:c+d < n:=by omega
   have hcn1:=ofNat_lt hcn
   have hnc:=Mh hcn
   have hok:Fk (cw b i).op (cw b i).d 0 0 (cw b i).imm (cw b i).loc [] 0 = true:=by rw [hi0']; exact YQ
   have h5:ieq (cw b i).op 5 = true:=by rw [hi0']; rfl
   have h1:ieq (cw b i).op 1 = false:=by rw [hi0']; rfl
   have h3:ieq (cw b i).op 3 = false:=by rw [hi0']; rfl
   have h10:ieq (ofNat i) (wr .i64 (A2 (ofNat (lw b)) 1)) = false:=by
    obtain ⟨w,hw⟩:∃ w,lw b = w+1:=⟨lw b - 1,by omega⟩
    rw [hw,MB (by omega)]
    exact HF (by omega)
   rw [Ad (AhW L n f t q g x r ln co lw cw y b (c+d) _ i j (Aq hb) hb2 hil1 (AI _) hil2 hok hnc h3 h1 h5 hcn1 h10),Ax,Ao (n:=64) (show i < 64 by omega) (by omega)]
   refine Eq.trans (Ad (AcW L n f t q g x r ln co lw cw y n16 l32 hb (i:=i+1) (by omega) (by omega) (by omega) hid (λhc hl=>hnext (i+1+1) e1.symm hc hl) (λ_=>.und))) ?_
   rw [Ax]
   exact next
theorem AcD (M:LT) (hMM:LLe M M) (n:Nat) (f:Nat->E6) (t q:Nat) (g:Nat->E6) (x:Nat->Ev5) (r:Nat->Int) (ln:Nat->Nat) (co:Nat->Nat->Int) (lw:Nat->Nat) (cw:Nat->Nat->In4) (y:Nat->Int)
  (m2:∀ g st,M 2 g st = A9 g (DI n f) 40 st) (n16:n <= 16) (l32:∀ b,lw b <= 32) (s:Nat->Nat)
  (hm:∀ b,b < t->∃ m P I,s (b+1) = s b+m ∧ ThrB n g x (lw b) (cw b) b (s b) m P I ∧ m <= 12 ∧ (∀ d,d < m->InsOK (I d) (x (s b+d)) (y (s b+d)) (rdN x (s b) d)) ∧ (s b+m < n->ieq (x (s b+m)).th (ofNat b) = false)):∀ (e b:Nat) (j:Nat->V) (u:Nat),t = b+e->e < u->t <= 16 ->
  (A9 (LJ M) (OV n f) u (WB n f t q g x r ln co lw cw y b (s b) j)).sem = some (Wn n f t q g x r ln co lw cw y t (s t))
 | 0,b,j,u+1,h,_,_=>by
  have:t = b:=by omega
  subst this
  exact Ad (Aie M n f t q g x r ln co lw cw y t (s t) j (AD (Nat.le_refl _)))
 | e+1,b,j,u+1,h,h2,t16=>by
  have hl:b < t:=by omega
  obtain ⟨m,P,I,hs1,H,m12,hI,hend⟩:=hm b hl
  have hi:∀ M',(M 2 (CD M') (KJ n f t q g x r ln co lw cw y b (s b) j)).sem = some (KL n f t q g x r ln co lw cw y b (s (b+1)) (λ_=>false) 0):=λM'=>by
   rw [m2,UI,hs1]
   have hw:=l32 b
   exact Uh M' n f t q g x r ln co lw cw y n16 hw hl H m12 hI hend m 0 0 _ 40 (by omega) H.p0.symm (by omega)
  have next:=AcD M hMM n f t q g x r ln co lw cw y m2 n16 l32 s hm e (b+1) (λ_=>.und) u (by omega) (by omega) t16
  have h3:=Aid M _ n f t q g x r ln co lw cw y b (s b) (s (b+1)) j (ofNat_lt hl) (Am (hi _))
  have h4:Ai (LJ M) (OV n f) (WB n f t q g x r ln co lw cw y b (s b) j) = _:=Du (l:=OV n f) (ES (Γ:=⟨Ap RK,M,Gl⟩) (Ay hMM hMM) (A1 Try.f12 0) 0 (WB n f t q g x r ln co lw cw y b (s b) j)) h3
  rw [Ad h4,Ax,Ao hl (by omega)]
  exact next
theorem Aeb {n:Nat} {g:Nat->E6} (n16:n <= 16) {i:Nat} (hi:i < n) (hk:0 < kkN n g):∃ v,v <= 32 ∧ (evF n g (λ_=>true) i).val = ofNat v:=by
 rw [BK hi]
 refine ⟨TE (mbF g) (wrF g) n i,?_,rfl⟩
 obtain ⟨q,q1,q2⟩:=Hk (p:=mbF g) (n:=n) hk
 have hs:=VZ (m:=mbF g) hi q1 q2
 have h1:=hs.lt
 have h2:TE (mbF g) (wrF g) n i <= HS (mbF g) n i+1:=AX _ _
 omega
theorem Ags {n:Nat} {g:Nat->E6} (n16:n <= 16) {i:Nat} (hi:i < n) (hk:0 < kkN n g):∃ k,k < 16 ∧ (evF n g (λ_=>true) i).loc = ofNat k:=by
 rw [BK hi]
 have h1:=PD (g:=g) hi hk
 have h2:kkN n g <= n:=AX _ _
 exact ⟨loN n g i,by omega,Zj hi⟩
theorem Se {a:Int} {n:Nat} {g:Nat->E6} (h:IsCycle a n g) (hl:obF g (n - 1) = true) {b:Nat} (hb:b < ttN n g) :
  ∃ m P I,sT (obF g) n (b+1) = sT (obF g) n b+m ∧ ThrB n g (evF n g (λ_=>true)) ((wsF (feF g n) (evF n g (λ_=>true)) n).lw b) ((wsF (feF g n) (evF n g (λ_=>true)) n).cw b) b (sT (obF g) n b) m P I ∧ m <= 12 ∧
   (∀ d,d < m->InsOK (I d) (evF n g (λ_=>true) (sT (obF g) n b+d)) ((wsF (feF g n) (evF n g (λ_=>true)) n).y (sT (obF g) n b+d)) (rdN (evF n g (λ_=>true)) (sT (obF g) n b) d)) ∧
   (sT (obF g) n b+m < n->ieq (evF n g (λ_=>true) (sT (obF g) n b+m)).th (ofNat b) = false):=by
 obtain ⟨m,m0,m12,hs,H⟩:=Aeo h hl hb
 refine ⟨m,_,_,hs,H,m12,λd hd=>?_,λhc=>?_⟩
 ·have hcm:=H.cm
  have hk:0 < kkN n g:=by have:2 <= Aj (mbF g) n:=h.moves; show 0 < Aj (mbF g) n; omega
  obtain ⟨v,hv,hv2⟩:=Aeb h.hi (i:=sT (obF g) n b+d) (by omega) hk
  obtain ⟨lo,hlo,hlo2⟩:=Ags h.hi (i:=sT (obF g) n b+d) (by omega) hk
  have hth:∀ e,e < m->toN (evF n g (λ_=>true) (sT (obF g) n b+e)).th = b:=λe he=>by rw [(H.st e he).1]; rfl
  have h0:∀ i,i < sT (obF g) n b->toN (evF n g (λ_=>true) i).th ≠ b:=λi hi=>by
   rw [Ve hl (by omega)]
   have:=(Md (o:=obF g) (n:=n) (k:=b) (show i < n by omega)).1 hi
   show Aj (obF g) i ≠ b
   omega
  have hnx:=Ac0 (feF g n) (evF n g (λ_=>true)) h0 hth (by omega) d (by omega)
  have hle:rdN (evF n g (λ_=>true)) (sT (obF g) n b) d <= d:=AX _ _
  have hy:=AgW (feF g n) (evF n g (λ_=>true)) (c:=sT (obF g) n b+d) (n - (sT (obF g) n b+d+1))
  rw [show sT (obF g) n b+d+1+(n - (sT (obF g) n b+d+1)) = n by omega] at hy
  rw [hy]
  exact Ag5 hlo2 hlo hv2 hv (by omega) (by rw [hth d hd]; exact hnx)
 ·rw [Ve hl hc,<- hs]
  refine HF λhe=>?_
  have:=(Md (o:=obF g) (n:=n) (k:=b+1) (show sT (obF g) n b+m < n from hc)).2 (by rw [<- hs]; omega)
  omega
theorem Acs {n:Nat} {y:Nat->Int}:AW [.row 3 1 n (λi=>iV (y i))] = true:=by simp [AW]; exact λ_ _=>rfl
theorem p12:A6 Try.prog Gl 12 AbT:=by
 refine A5 AO AP Try.func12 (by kernel_rfl) (by kernel_rfl) λvs v h' h=>?_
 unfold AbT at h
 split at h
 ·rename_i u
  obtain ⟨n,f,ha,h1⟩:=Cj h
  obtain ⟨hf,hq⟩:=Ag h1
  have:=Ac hq
  simp only [Prod.mk.injEq] at this
  obtain ⟨rfl,rfl⟩:=this
  have hA:BJ [u] [.sl 6 n λi=>eV (f i)]:=λS w cs hv=>by
   obtain ⟨c,l,rfl,q1,q2⟩:=hv
   exact ⟨c,_,rfl,ha S w c q1,q2⟩
  have hx:=AQ AaU [(0,OV n f),(2,DI n f)] (G:=Gl)
  have hL:=AL [(0,OV n f),(2,DI n f)]
  cases hc:ieq (BR 1 n f) 0 with
  | false=>exact ⟨_,AS Gl RK [(0,OV n f),(2,DI n f)],_,hA,rfl,hx.1,hx.2,Akw _ n f hf hc (by simp [AT]) rfl rfl rfl rfl rfl (by rw [V2]; rfl) X4 (by simp [AT]) OQ (by rw [V2]; rfl),AC.refl _⟩
  | true =>
   have hy:=E7 hc
   have hhi:=hy.hi
   have hk:kkN n (shG n f) <= 16:=Nat.le_trans (AX _ _) hhi
   have hg:=Ew hy
   have hlast:=RU hy
   have ht:ttN n (shG n f) <= n:=AX _ _
   have hrun:=λM hM m2 j=>AcD M hM n f (ttN n (shG n f)) (kkN n (shG n f)) (shG n f) (evF n (shG n f) (λ_=>true)) (rfF n (shG n f) (λ_=>true)) (lnN (mbF (shG n f)) (wrF (shG n f)) n) (λk i=>ofNat (coN (mbF (shG n f)) (wrF (shG n f)) n k i)) (lwX 1 n (shG n f) n (evF n (shG n f) (λ_=>true)) (ofNat (ttN n (shG n f))) (ofNat (kkN n (shG n f))) n (rfF n (shG n f) (λ_=>true)) (kkN n (shG n f)) (lnN (mbF (shG n f)) (wrF (shG n f)) n) (λk i=>ofNat (coN (mbF (shG n f)) (wrF (shG n f)) n k i))) (cwX 1 n (shG n f) n (evF n (shG n f) (λ_=>true)) (ofNat (ttN n (shG n f))) (ofNat (kkN n (shG n f))) n (rfF n (shG n f) (λ_=>true)) (kkN n (shG n f)) (lnN (mbF (shG n f)) (wrF (shG n f)) n) (λk i=>ofNat (coN (mbF (shG n f)) (wrF (shG n f)) n k i))) (yyX 1 n (shG n f) n (evF n (shG n f) (λ_=>true)) (ofNat (ttN n (shG n f))) (ofNat (kkN n (shG n f))) n (rfF n (shG n f) (λ_=>true)) (kkN n (shG n f)) (lnN (mbF (shG n f)) (wrF (shG n f)) n) (λk i=>ofNat (coN (mbF (shG n f)) (wrF (shG n f)) n k i))) m2 hhi (λb=>Nat.le_trans (T9 (feF (shG n f) n) (evF n (shG n f) (λ_=>true)) b n) (by omega)) (sT (obF (shG n f)) n)
    (λb hb=>Se hg hlast hb) (ttN n (shG n f)) 0 j 18 (by omega) (by omega) (by omega)
   rw [Ak0,show sT (obF (shG n f)) n (ttN n (shG n f)) = n from Aeu hlast] at hrun
   refine ⟨_,AS Gl RK [(0,OV n f),(2,DI n f)],_,hA,rfl,hx.1,hx.2,?_,AC.refl _⟩
   have hQ:=Ay (k:=0) (r:=Wn n f (ttN n (shG n f)) (kkN n (shG n f)) (shG n f) (evF n (shG n f) (λ_=>true)) (rfF n (shG n f) (λ_=>true)) (lnN (mbF (shG n f)) (wrF (shG n f)) n) (λk i=>ofNat (coN (mbF (shG n f)) (wrF (shG n f)) n k i)) (lwX 1 n (shG n f) n (evF n (shG n f) (λ_=>true)) (ofNat (ttN n (shG n f))) (ofNat (kkN n (shG n f))) n (rfF n (shG n f) (λ_=>true)) (kkN n (shG n f)) (lnN (mbF (shG n f)) (wrF (shG n f)) n) (λk i=>ofNat (coN (mbF (shG n f)) (wrF (shG n f)) n k i))) (cwX 1 n (shG n f) n (evF n (shG n f) (λ_=>true)) (ofNat (ttN n (shG n f))) (ofNat (kkN n (shG n f))) n (rfF n (shG n f) (λ_=>true)) (kkN n (shG n f)) (lnN (mbF (shG n f)) (wrF (shG n f)) n) (λk i=>ofNat (coN (mbF (shG n f)) (wrF (shG n f)) n k i))) (yyX 1 n (shG n f) n (evF n (shG n f) (λ_=>true)) (ofNat (ttN n (shG n f))) (ofNat (kkN n (shG n f))) n (rfF n (shG n f) (λ_=>true)) (kkN n (shG n f)) (lnN (mbF (shG n f)) (wrF (shG n f)) n) (λk i=>ofNat (coN (mbF (shG n f)) (wrF (shG n f)) n k i))) (ttN n (shG n f)) n) hL hL
   refine A7 hQ _ (Akv _ _ n f (ttN n (shG n f)) n hf hc (by simp [AT]) (J8 () ()) (RS hhi) (RS hk) (AJ.2 λ_ _=>Yk hhi) (Abg hy) (XC hy) (Aao _ _ _) (by simp [AT]) Acs (F4 _) (Am ?_))
   show (A9 _ (OV n f) 18 (Tg n f)).sem = _
   rw [ZK]
   exact hrun _ (U7 hL hL 0 _) (λg st=>rfl) _
 ·cases h
end Go.Proofs.Ytjhnfomefcngfaa.Sh
