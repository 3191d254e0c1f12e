/-
  Layer 7: whether lists of numbers, lists of these, shapes are the same. No conditions.
-/
import Derived.Test.YtjhnfomefcngfaaShF
import Derived.Test.YtjhnfomefcngfaaCyT
import Derived.Test.YtjhnfomefcngfaaShW
namespace Go.Proofs.Ytjhnfomefcngfaa.Sh
open Go.Sy Ed
open Int (ofNat)
set_option maxHeartbeats 1000000
set_option maxRecDepth 4000
theorem Kl {n:Nat} (h:Ah n = true):n <= 4611686018427387904:=of_decide_eq_true h
theorem B5 {a b:Bool} (h:a = true):Af a b = b:=by rw [h]; rfl
theorem GG {a b:Bool} (h:a = false):Af a b = false:=by rw [h]; rfl
theorem GS {n m:Nat} (h:ieq (ofNat n) (ofNat m) = true):n = m:=by
 rw [Dx] at h
 exact of_decide_eq_true h
def CF (n:Nat) (f:Nat->Int) (m:Nat) (g:Nat->Int):Bool:=Af (ieq (ofNat n) (ofNat m)) (Au n λk=>ieq (f k) (g k))
def Qx:List V->T (V × List Blk)
 | [v,u]=>apG Xw v λn f=>apG Xw u λm g=>.br (Ah n) (.leaf (bV (CF n f m g),[])) .fail
 | _=>.fail
def Gj (n:Nat) (ln:Nat->Nat) (co:Nat->Nat->Int) (m:Nat) (ln':Nat->Nat) (co':Nat->Nat->Int):Bool:=Af (ieq (ofNat n) (ofNat m)) (Au n λk=>CF (ln k) (co k) (ln' k) (co' k))
def FK (e e':Ev5):Bool:=Af (ieq e.th e'.th) (Af (ieq e.pl e'.pl) (Af (ieq e.dir e'.dir) (Af (ieq e.loc e'.loc) (Af (ieq e.val e'.val) true))))
def Nu (s s':Sh7):Bool:=Af (ieq s.arch s'.arch) (Af (ieq s.tt s'.tt) (Af (ieq s.kk s'.kk) (Af (CY s.ne s.E s'.ne s'.E) (Af (ieq (ofNat s.nx) (ofNat s'.nx)) (Af (CF s.nr s.R s'.nr s'.R)
 (Af (Gj s.nc (λi=>(s.C i).1) (λi=>(s.C i).2) s'.nc (λi=>(s'.C i).1) (λi=>(s'.C i).2)) (Au s.nx λk=>FK (s.X k) (s'.X k))))))))
def FJ (s:Sh7):Bool:=Af (Ah s.ne) (Af (Ah s.nx) (Af (Ah s.nr) (Af (Ah s.nc) (Au s.nc λi=>Ah (s.C i).1))))
def TX:List V->T (V × List Blk)
 | [v,u]=>apS v λs=>apS u λs'=>.br (FJ s) (.leaf (bV (Nu s s'),[])) .fail
 | _=>.fail
end Go.Proofs.Ytjhnfomefcngfaa.Sh
namespace Go.Proofs.Ytjhnfomefcngfaa.Ed
open Go.Sy Go
def GF (c:UInt8):Bool:=c == 32 || c == 9 || c == 10 || c == 13
def Dq (x:Int):Bool:=bor (ieq x 32) (bor (ieq x 9) (bor (ieq x 10) (ieq x 13)))
theorem MU (c:UInt8) (n:Nat) (hn:n < 256):ieq ((c.toNat:Nat):Int) (n:Int) = (c == UInt8.ofNat n):=by
 rw [Bool.eq_iff_iff]
 simp only [ieq,beq_iff_eq]
 constructor
 ·intro h
  apply UInt8.toNat_inj.1
  rw [UInt8.toNat_ofNat_of_lt' (by simpa using hn)]
  omega
 ·intro h
  rw [h,UInt8.toNat_ofNat_of_lt' (by simpa using hn)]
theorem Aam (c:UInt8):Dq ((c.toNat:Nat):Int) = GF c:=by
 unfold Dq GF bor
 have h1:=MU c 32 (by decide)
 have h2:=MU c 9 (by decide)
 have h3:=MU c 10 (by decide)
 have h4:=MU c 13 (by decide)
 have h1:ieq ((c.toNat:Nat):Int) 32 = (c == 32):=h1
 have h2:ieq ((c.toNat:Nat):Int) 9 = (c == 9):=h2
 have h3:ieq ((c.toNat:Nat):Int) 10 = (c == 10):=h3
 have h4:ieq ((c.toNat:Nat):Int) 13 = (c == 13):=h4
 rw [h1,h2,h3,h4]
 cases (c == 32) <;> cases (c == 9) <;> cases (c == 10) <;> rfl
def B0 (l:List UInt8):List UInt8:=l.takeWhile λc=>!GF c
def C7:Nat->List UInt8->Nat->List E6->List E6 × Int × Nat
 | 0,_,_,acc=>(acc,0,0)
 | _+1,[],_,acc=>(acc,0,0)
 | q+1,c :: l,a,acc =>
  if GF c = true then C7 q l (a+1) acc
  else if Eg (B0 (c :: l)) = 0 then C7 q ((c :: l).drop (B0 (c :: l)).length) (a+(B0 (c :: l)).length) (acc ++ [Fh (B0 (c :: l))])
  else ([],30,a)
theorem Sr {b:UInt8} (hb:GF b = true) (l:List UInt8) (q a:Nat) (acc:List E6):C7 (q+1) (b :: l) a acc = C7 q l (a+1) acc:=by
 rw [C7,if_pos hb]
theorem XE (l:List UInt8):(B0 l).length <= l.length:=by
 induction l with
 | nil=>exact Nat.le_refl _
 | cons c l ih =>
  unfold B0 at ih ⊢
  cases hc:GF c with
  | true=>rw [List.takeWhile_cons_of_neg (by simp [hc])]; exact Nat.zero_le _
  | false =>
   rw [List.takeWhile_cons_of_pos (by simp [hc])]
   simp only [List.length_cons]
   omega
section
variable (L:LT) (x:Int)
include L x
theorem Aho (h0:ieq x 32 = true):(Az (Ak tab ⟨Ap tb0,L,Gl⟩ Try.f96 [.val (.int .u8 x)] [])).sem = some ((bV true),[]):=Aa (bbK 9 511) ((λc0 c1=>[c0,c0,c0,c1,c1,c1,c1,c1,c1]) (ieq x 32) (true)) (by kernel_rfl) (by simp only [h0] <;> rfl)
theorem Ahn (h0:ieq x 32 = false) (h1:ieq x 9 = true):(Az (Ak tab ⟨Ap tb0,L,Gl⟩ Try.f96 [.val (.int .u8 x)] [])).sem = some ((bV true),[]):=Aa (bbK 9 504) [ieq x 32,ieq x 32,ieq x 32,ieq x 9,ieq x 9,ieq x 9,true,true,true] (by kernel_rfl) (by simp only [h0,h1] <;> rfl)
theorem Ahm (h0:ieq x 32 = false) (h1:ieq x 9 = false) (h2:ieq x 10 = true):(Az (Ak tab ⟨Ap tb0,L,Gl⟩ Try.f96 [.val (.int .u8 x)] [])).sem = some ((bV true),[]):=Aa (bbK 9 448) [ieq x 32,ieq x 32,ieq x 32,ieq x 9,ieq x 9,ieq x 9,ieq x 10,ieq x 10,ieq x 10] (by kernel_rfl) (by simp only [*] <;> rfl)
theorem Ahl (h0:ieq x 32 = false) (h1:ieq x 9 = false) (h2:ieq x 10 = false):(Az (Ak tab ⟨Ap tb0,L,Gl⟩ Try.f96 [.val (.int .u8 x)] [])).sem = some ((bV (ieq x 13)),[]):=Aa (bbK 9 0) [ieq x 32,ieq x 32,ieq x 32,ieq x 9,ieq x 9,ieq x 9,ieq x 10,ieq x 10,ieq x 10] (by kernel_rfl) (by simp only [*] <;> rfl)
end
def US:List V->T (V × List Blk)
 | [.val (.int .u8 x)]=>out (bV (Dq x))
 | _=>.fail
theorem Ace {α:Type} {l:List α} {i:Nat} {d:α} (h:i < l.length):l.getD i d = l[i]:=by simp [List.getD,h]
theorem FA {s:List UInt8} {a:Nat} (h:a < s.length):s.drop a = s[a] :: s.drop (a+1):=List.drop_eq_getElem_cons h
theorem M9 {s:List UInt8} {a:Nat} (h:a < s.length):Dq (It s a) = GF s[a]:=by
 unfold It
 rw [Ace h]
 exact Aam _
def L5 (l:List E6) (i:Nat):E6:=l.getD i Gc
theorem SX {l:List E6} {e:E6} {i:Nat} (h:i < l.length+1):L5 (l ++ [e]) i = if i = l.length then e else L5 l i:=by
 unfold L5
 by_cases hi:i = l.length
 ·rw [if_pos hi,hi]; simp
 ·rw [if_neg hi]
  simp only [List.getD,List.getElem?_append_left (show i < l.length by omega)]
def Ey (acc:List E6):Nat->V:=BP (λi=>eV (L5 acc i)) acc.length
theorem Mf {g g':Nat->V}:∀ n,(∀ i,i < n->g i = g' i)->BP g n = BP g' n
 | 0,_=>rfl
 | n+1,h=>by
  show AE n (BP g n) (g n) = AE n (BP g' n) (g' n)
  rw [h n (Nat.lt_succ_self n),Mf n λi hi=>h i (by omega)]
theorem WL (acc:List E6) (e:E6):AE acc.length (Ey acc) (eV e) = Ey (acc ++ [e]):=by
 have h1:Ey (acc ++ [e]) = BP (λi=>eV (L5 (acc ++ [e]) i)) (acc.length+1):=by
  unfold Ey
  rw [List.length_append]
  rfl
 rw [h1]
 show _ = AE acc.length (BP (λi=>eV (L5 (acc ++ [e]) i)) acc.length) (eV (L5 (acc ++ [e]) acc.length))
 rw [SX (Nat.lt_succ_self _),if_pos rfl]
 unfold Ey
 rw [Mf (g:=λi=>eV (L5 (acc ++ [e]) i)) (g':=λi=>eV (L5 acc i)) acc.length λi hi=>by
  show eV (L5 (acc ++ [e]) i) = eV (L5 acc i)
  rw [SX (by omega),if_neg (by omega)]]
def J6:Nat->List UInt8->List E6->List E6 × E6
 | 0,_,acc=>(acc,Gc)
 | _+1,[],acc=>(acc,Gc)
 | q+1,c :: l,acc =>
  if GF c = true then J6 q l acc
  else if Eg (B0 (c :: l)) = 0 then J6 q ((c :: l).drop (B0 (c :: l)).length) (acc ++ [Fh (B0 (c :: l))])
  else (acc,Fh (B0 (c :: l)))
def Aan (s:List UInt8):Bool:=ilt 262144 (Int.ofNat (B9 s))
def psR (s:List UInt8):List E6 × Int × Nat:=C7 (s.length+1) s 0 []
def psL (s:List UInt8):List E6:=bif Aan s then [] else (psR s).1
def psE (s:List UInt8):Int:=bif Aan s then 2 else (psR s).2.1
def psI (s:List UInt8):Int:=bif Aan s then 0 else Int.ofNat (psR s).2.2
def psN (s:List UInt8):Nat:=(psL s).length
def psG (s:List UInt8) (i:Nat):E6:=L5 (psL s) i
def psT:List V->T (V × List Blk)
 | [.str s]=>.leaf (.tup [.ref 0,iV (psE s),iV (psI s)],[.row 44 6 (psN s) λi=>eV (psG s i)])
 | _=>.fail
theorem N8:∀ (q:Nat) (l:List UInt8) (a:Nat) (acc:List E6),(C7 q l a acc).2.1 = 0->(C7 q l a acc).2.2 = 0
 | 0,_,_,_,_=>rfl
 | q+1,[],_,_,_=>rfl
 | q+1,c :: l,a,acc,h=>by
  rw [C7] at h ⊢
  split
  ·rename_i hc
   rw [if_pos hc] at h
   exact N8 q _ _ _ h
  ·rename_i hc
   rw [if_neg hc] at h
   split
   ·rename_i hp
    rw [if_pos hp] at h
    exact N8 q _ _ _ h
   ·rename_i hp
    rw [if_neg hp] at h
    cases h
theorem Ag3 {L:LT} (hL:LLe L L) (k:Nat) (r:Ex × St):LLe (onP k (isP L k r) r L) (onP k (isP L k r) r L):=λid f f' st hf r' hr=>by
 unfold onP at hr ⊢
 cases hk:Nat.beq id k with
 | true =>
  rw [hk] at hr
  obtain ⟨h1,h2⟩:=Ag hr
  unfold isP at h1
  have h1:=@of_decide_eq_true _ (Classical.propDecidable _) h1
  have h3:isP L k r f' st = true:=Am (hL k f f' st hf _ h1)
  show sel (isP L k r f' st) _ _ = _
  rw [h3]
  exact h2
 | false =>
  rw [hk] at hr
  exact hL id f f' st hf _ hr
end Go.Proofs.Ytjhnfomefcngfaa.Ed
namespace Go.Proofs.Ytjhnfomefcngfaa.Ed
open Go.Sy Go
open Int (ofNat)
theorem e84 (Γ:Cx) (vs:List V) (h:List Blk):Ak tab Γ Try.f96 vs h = Ak tab Γ Try.f96 vs h:=by kernel_rfl
theorem p84:A6 Try.prog Gl 96 US:=by
 refine A5 AO AP Try.func96 (by kernel_rfl) (by kernel_rfl) λvs v h' h=>?_
 unfold US at h
 split at h
 ·rename_i x
  have:=Ac h
  simp only [Prod.mk.injEq] at this
  obtain ⟨rfl,rfl⟩:=this
  have hx:=AQ Dd []
  refine ⟨_,AS Gl tb0 [],_,BJ.refl _,rfl,hx.1,hx.2,?_,AC.refl _⟩
  rw [e84]
  unfold Dq
  cases c1:ieq x 32 with
  | true=>exact Aho _ x c1
  | false =>
   cases c2:ieq x 9 with
   | true=>exact Ahn _ x c1 c2
   | false =>
    cases c3:ieq x 10 with
    | true=>exact Ahm _ x c1 c2 c3
    | false=>exact Ahl _ x c1 c2 c3
 ·cases h
noncomputable def tb41:List (Nat × (List V->T (V × List Blk))):=(96,US) :: (97,RH Ut) :: []
theorem tb41_ok:AB Try.prog Gl tb41:=.cons p84 <| .cons p22 .nil
def PO (s:List UInt8) (a k:Nat) (x:Nat->V):Ex × St:=(.rt,⟨(jsV 56 0 (λ_=>.und) [(2,.ref 1),(3,iV 30),(4,nV a),(6,.ref 2)]),[.row 44 6 0 (λ_=>.und),.row 44 6 0 (λ_=>.und),.row 44 6 k x]⟩)
def Dk (s:List UInt8):Lp:=⟨(bmK 56 0 [0,2,3,4,5,6,7,8]),3,bmK 56 0 [0,2,3,4,5,6,7,8],3,B9 s+1⟩
def Nm (s:List UInt8) (a k:Nat) (x:Nat->V) (e:Nat) (j:Nat->V):St:=⟨(jsV 56 0 j [(0,.str s),(2,.ref 0),(3,iV 0),(4,iV 0),(5,.ref 1),(6,.ref 2),(7,nV e),(8,nV a)]),[.row 44 6 0 (λ_=>.und),.row 44 6 0 (λ_=>.und),.row 44 6 k x]⟩
def Gw (s:List UInt8) (a k:Nat) (x:Nat->V) (e:Nat):Ex × St:=(.ex 2,⟨(jsV 56 0 (λ_=>.und) [(0,.str s),(2,.ref 0),(3,iV 0),(4,iV 0),(5,.ref 1),(6,.ref 2),(7,nV e),(8,nV a)]),[.row 44 6 0 (λ_=>.und),.row 44 6 0 (λ_=>.und),.row 44 6 k x]⟩)
noncomputable def Eo (L:LT):St->T (Ex × St):=λst=>AF tab ⟨Ap tb41,L,Gl⟩ (A1 Try.f63 2) 2 st
section
variable (L:LT) (s:List UInt8) (a k:Nat) (x:Nat->V) (e:Nat)  (j:Nat->V)
include L s a k x e j
theorem Ais (h0:ilt (ofNat e) (ofNat (B9 s)) = false):Ai (Eo L) (Dk s) (Nm s a k x e j) = some ((.ex 2),⟨(jsV 56 0 (λ_=>.und) [(0,(.str s)),(2,(.ref 0)),(3,(iV 0)),(4,(iV 0)),(5,(.ref 1)),(6,(.ref 2)),(7,(nV e)),(8,(nV a))]),[.row 44 6 0 (λ_=>.und),.row 44 6 0 (λ_=>.und),.row 44 6 k x]⟩):=Aa (bbK 7 0) ((λc0=>[c0,c0,c0,c0,c0,c0,false]) (ilt (ofNat e) (ofNat (B9 s)))) (by kernel_rfl) (by simp only [h0] <;> rfl)
theorem Ait (h0:ilt (ofNat e) (ofNat (B9 s)) = true) (h1:Af (ile 0 (ofNat e)) (ilt (ofNat e) (ofNat (B9 s))) = true) (h2:Dq (It s e) = true):Ai (Eo L) (Dk s) (Nm s a k x e j) = some ((.ex 2),⟨(jsV 56 0 (λ_=>.und) [(0,(.str s)),(2,(.ref 0)),(3,(iV 0)),(4,(iV 0)),(5,(.ref 1)),(6,(.ref 2)),(7,(nV e)),(8,(nV a))]),[.row 44 6 0 (λ_=>.und),.row 44 6 0 (λ_=>.und),.row 44 6 k x]⟩):=Aa (bbK 8 127) ((λc0=>[c0,c0,c0,Af (ile 0 (ofNat e)) (ilt (ofNat e) (ofNat (B9 s))),c0,c0,c0,An (Dq (It s e))]) (ilt (ofNat e) (ofNat (B9 s)))) (by kernel_rfl) (by simp only [h1] <;> simp only [h0,h2] <;> rfl)
theorem Air (h0:ilt (ofNat e) (ofNat (B9 s)) = true) (h1:Af (ile 0 (ofNat e)) (ilt (ofNat e) (ofNat (B9 s))) = true) (h2:Dq (It s e) = false):Ai (Eo L) (Dk s) (Nm s a k x e j) = some (.nm,⟨(jsV 56 0 (λ_=>.und) [(0,(.str s)),(2,(.ref 0)),(3,(iV 0)),(4,(iV 0)),(5,(.ref 1)),(6,(.ref 2)),(7,(iV (wr .i64 (Ae (ofNat e) 1)))),(8,(nV a))]),[.row 44 6 0 (λ_=>.und),.row 44 6 0 (λ_=>.und),.row 44 6 k x]⟩):=Aa (bbK 8 255) ((λc0=>[c0,c0,c0,Af (ile 0 (ofNat e)) (ilt (ofNat e) (ofNat (B9 s))),c0,c0,c0,An (Dq (It s e))]) (ilt (ofNat e) (ofNat (B9 s)))) (by kernel_rfl) (by simp only [h1] <;> simp only [h0,h2] <;> rfl)
end
def FR (s:List UInt8):Lp:=⟨(bmK 56 0 [0,2,3,4,5,6,7]),3,bmK 56 0 [2,3,4,6],3,B9 s+1⟩
def Nn (s:List UInt8) (a k:Nat) (x:Nat->V) (j:Nat->V):St:=⟨(jsV 56 0 j [(0,.str s),(2,.ref 0),(3,iV 0),(4,iV 0),(5,.ref 1),(6,.ref 2),(7,nV a)]),[.row 44 6 0 (λ_=>.und),.row 44 6 0 (λ_=>.und),.row 44 6 k x]⟩
def O1 (s:List UInt8) (a k:Nat) (x:Nat->V):Ex × St:=(.ex 0,⟨(jsV 56 0 (λ_=>.und) [(2,.ref 0),(3,iV 0),(4,iV 0),(6,.ref 2)]),[.row 44 6 0 (λ_=>.und),.row 44 6 0 (λ_=>.und),.row 44 6 k x]⟩)
noncomputable def Ep (L:LT):St->T (Ex × St):=λst=>AF tab ⟨Ap tb41,L,Gl⟩ (A1 Try.f63 0) 0 st
section
variable (L:LT) (s:List UInt8) (a k:Nat) (x:Nat->V)  (j:Nat->V)
include L s a k x j
theorem Aih (h0:ilt (ofNat a) (ofNat (B9 s)) = false):Ai (Ep L) (FR s) (Nn s a k x j) = some ((.ex 0),⟨(jsV 56 0 (λ_=>.und) [(2,(.ref 0)),(3,(iV 0)),(4,(iV 0)),(6,(.ref 2))]),[.row 44 6 0 (λ_=>.und),.row 44 6 0 (λ_=>.und),.row 44 6 k x]⟩):=Aa [false] [ilt (ofNat a) (ofNat (B9 s))] (by kernel_rfl) (by simp only [h0] <;> rfl)
theorem Aii (h0:ilt (ofNat a) (ofNat (B9 s)) = true) (h1:Af (ile 0 (ofNat a)) (ilt (ofNat a) (ofNat (B9 s))) = true) (h2:Dq (It s a) = true):Ai (Ep L) (FR s) (Nn s a k x j) = some (.nm,⟨(jsV 56 0 (λ_=>.und) [(0,(.str s)),(2,(.ref 0)),(3,(iV 0)),(4,(iV 0)),(5,(.ref 1)),(6,(.ref 2)),(7,(iV (wr .i64 (Ae (ofNat a) 1))))]),[.row 44 6 0 (λ_=>.und),.row 44 6 0 (λ_=>.und),.row 44 6 k x]⟩):=Aa [true,true,true] [ilt (ofNat a) (ofNat (B9 s)),Af (ile 0 (ofNat a)) (ilt (ofNat a) (ofNat (B9 s))),Dq (It s a)] (by kernel_rfl) (by simp only [h1] <;> simp only [h0,h2] <;> rfl)
end
def HN (s:List UInt8) (a k:Nat) (x:Nat->V) (j:Nat->V):St:=⟨(jsV 56 0 j [(0,(.str s)),(2,(.ref 0)),(3,(iV 0)),(4,(iV 0)),(5,(.ref 1)),(6,(.ref 2)),(7,(nV a)),(8,(nV a)),(15,(nV a)),(16,(.str s)),(17,(iV (ofNat (B9 s)))),(18,(bV (ilt (ofNat a) (ofNat (B9 s))))),(19,(.str s)),(20,(nV a)),(21,(.val (Value.int IntKind.u8 (It s a)))),(22,(bV (Dq (It s a)))),(25,(nV a))]),[.row 44 6 0 (λ_=>.und),.row 44 6 0 (λ_=>.und),.row 44 6 k x]⟩
section
variable (L:LT) (p2:PT) (s:List UInt8) (a k:Nat) (x:Nat->V) (e:Nat) (j:Nat->V)
include L p2 s a k x e j
theorem Aif (h0:ilt (ofNat a) (ofNat (B9 s)) = true) (h1:Af (ile 0 (ofNat a)) (ilt (ofNat a) (ofNat (B9 s))) = true) (h2:Dq (It s a) = false) (h3:Af (ile 0 (ofNat a)) (Af (ile (ofNat a) (ofNat e)) (ile (ofNat e) (ofNat (B9 s)))) = true) (h4:ieq (Eg (Ig a (If e s))) 0 = true) (h5:Bg k 1 40 = true) (hp2:p2 (Eo (onP 2 p2 (Gw s a k x e) L)) (HN s a k x j) = true):Ai (Ep (onP 2 p2 (Gw s a k x e) L)) (FR s) (Nn s a k x j) = some (.nm,⟨(jsV 56 0 (λ_=>.und) [(0,(.str s)),(2,(.ref 0)),(3,(iV 0)),(4,(iV 0)),(5,(.ref 1)),(6,(.ref 2)),(7,(nV e))]),[.row 44 6 0 (λ_=>.und),.row 44 6 0 (λ_=>.und),.row 44 6 (Bn k 1) (AE k x (eV (Fh (Ig a (If e s)))))]⟩):=Aa (bbK 7 91) [ilt (ofNat a) (ofNat (B9 s)),Af (ile 0 (ofNat a)) (ilt (ofNat a) (ofNat (B9 s))),Dq (It s a),p2 (Eo (onP 2 p2 (Gw s a k x e) L)) (HN s a k x j),Af (ile 0 (ofNat a)) (Af (ile (ofNat a) (ofNat e)) (ile (ofNat e) (ofNat (B9 s)))),An (ieq (Eg (Ig a (If e s))) 0),Bg k 1 40] (by kernel_rfl) (by simp only [hp2] <;> simp only [h1,h3] <;> simp only [*] <;> rfl)
theorem Aig (h0:ilt (ofNat a) (ofNat (B9 s)) = true) (h1:Af (ile 0 (ofNat a)) (ilt (ofNat a) (ofNat (B9 s))) = true) (h2:Dq (It s a) = false) (h3:Af (ile 0 (ofNat a)) (Af (ile (ofNat a) (ofNat e)) (ile (ofNat e) (ofNat (B9 s)))) = true) (h4:ieq (Eg (Ig a (If e s))) 0 = false) (hp2:p2 (Eo (onP 2 p2 (Gw s a k x e) L)) (HN s a k x j) = true):Ai (Ep (onP 2 p2 (Gw s a k x e) L)) (FR s) (Nn s a k x j) = some (.rt,⟨(jsV 56 0 (λ_=>.und) [(2,(.ref 1)),(3,(iV 30)),(4,(nV a)),(6,(.ref 2))]),[.row 44 6 0 (λ_=>.und),.row 44 6 0 (λ_=>.und),.row 44 6 k x]⟩):=Aa (bbK 6 59) [ilt (ofNat a) (ofNat (B9 s)),Af (ile 0 (ofNat a)) (ilt (ofNat a) (ofNat (B9 s))),Dq (It s a),p2 (Eo (onP 2 p2 (Gw s a k x e) L)) (HN s a k x j),Af (ile 0 (ofNat a)) (Af (ile (ofNat a) (ofNat e)) (ile (ofNat e) (ofNat (B9 s)))),An (ieq (Eg (Ig a (If e s))) 0)] (by kernel_rfl) (by simp only [hp2] <;> simp only [h1,h3] <;> simp only [*] <;> rfl)
end
def KI (s:List UInt8) :St:=⟨(jsV 56 0 (λ_=>AA) [(0,(.str s)),(2,(.ref 0)),(3,(iV 0)),(4,(iV 0)),(5,(.ref 1)),(6,(.ref 2)),(7,(iV 0)),(11,(.str s)),(12,(iV (ofNat (B9 s)))),(13,(bV (ilt 262144 (ofNat (B9 s)))))]),[.row 44 6 0 (λ_=>.und),.row 44 6 0 (λ_=>.und),.row 44 6 0 (λ_=>.und)]⟩
theorem Ahz (L:LT) (s:List UInt8) (h0:ilt 262144 (ofNat (B9 s)) = true):(Az (Ak tab ⟨Ap tb41,L,Gl⟩ Try.f63 [.str s] [])).sem = some ((.tup [.ref 0,iV 2,iV 0]),[.row 44 6 0 (λ_=>.und)]):=Aa [true] [ilt 262144 (ofNat (B9 s))] (by kernel_rfl) (by simp only [h0] <;> rfl)
section
variable (L:LT) (p0:PT) (s:List UInt8) (a k:Nat) (x:Nat->V)
include L p0 s a k x
theorem Ahy (h0:ilt 262144 (ofNat (B9 s)) = false) (hp0:p0 (Ep (onP 0 p0 (O1 s a k x) L)) (KI s) = true):(Az (Ak tab ⟨Ap tb41,onP 0 p0 (O1 s a k x) L,Gl⟩ Try.f63 [.str s] [])).sem = some ((.tup [.ref 0,iV 0,iV 0]),[.row 44 6 k x]):=Aa [false,true] [ilt 262144 (ofNat (B9 s)),p0 (Ep (onP 0 p0 (O1 s a k x) L)) (KI s)] (by kernel_rfl) (by simp only [hp0] <;> simp only [h0] <;> rfl)
theorem Ah0 (h0:ilt 262144 (ofNat (B9 s)) = false) (hp0:p0 (Ep (onP 0 p0 (PO s a k x) L)) (KI s) = true):(Az (Ak tab ⟨Ap tb41,onP 0 p0 (PO s a k x) L,Gl⟩ Try.f63 [.str s] [])).sem = some ((.tup [.ref 0,iV 30,nV a]),[.row 44 6 0 (λ_=>.und)]):=Aa [false,true] [ilt 262144 (ofNat (B9 s)),p0 (Ep (onP 0 p0 (PO s a k x) L)) (KI s)] (by kernel_rfl) (by simp only [hp0] <;> simp only [h0] <;> rfl)
end
theorem Yz (L:LT) (s:List UInt8) (hs:s.length <= 262144) (a k:Nat) (x:Nat->V):∀ (q e:Nat) (j:Nat->V),s.length - e < q ->
  (A9 (Eo L) (Dk s) q (Nm s a k x e j)).sem = some (Gw s a k x (e+(B0 (s.drop e)).length))
 | 0,e,j,h=>absurd h (Nat.not_lt_zero _)
 | q+1,e,j,h=>by
  have hsl:B9 s = s.length:=rfl
  rcases Nat.lt_or_ge e s.length with he | he
  ·have c0:ilt (ofNat e) (ofNat (B9 s)) = true:=ofNat_lt he
   have c1:Af (ile 0 (ofNat e)) (ilt (ofNat e) (ofNat (B9 s))) = true:=Aq he
   rw [FA he]
   cases hb:GF s[e] with
   | true =>
    rw [show B0 (s[e] :: s.drop (e+1)) = [] by unfold B0; rw [List.takeWhile_cons_of_neg (by simp [hb])]]
    exact Ad (Ait L s a k x e j c0 c1 (by rw [M9 he]; exact hb))
   | false =>
    rw [Ad (Air L s a k x e j c0 c1 (by rw [M9 he]; exact hb)),Ax,Ao (n:=s.length) he (by omega)]
    have:=Yz L s hs a k x q (e+1) (λ_=>.und) (by omega)
    rw [show B0 (s[e] :: s.drop (e+1)) = s[e] :: B0 (s.drop (e+1)) by unfold B0; rw [List.takeWhile_cons_of_pos (by simp [hb])],List.length_cons,show e+((B0 (s.drop (e+1))).length+1) = e+1+(B0 (s.drop (e+1))).length by omega]
    exact this
  ·rw [List.drop_eq_nil_of_le he]
   exact Ad (Ais L s a k x e j (AD he))
theorem UG (s:List UInt8) (a k:Nat) (x:Nat->V) (j:Nat->V):HN s a k x j = Nm s a k x a (λi=>nth (HN s a k x j).t i):=by kernel_rfl
theorem Y0 (M:LT) (hMM:LLe M M) (s:List UInt8) (hs:s.length <= 262144) (m2:∀ f st,M 2 f st = A9 f (Dk s) (B9 s+1) st):∀ (q a:Nat) (acc:List E6) (j:Nat->V),s.length - a < q->a <= s.length->acc.length <= a ->
  ((C7 q (s.drop a) a acc).2.1 = 0 ∧ (A9 (Ep M) (FR s) q (Nn s a acc.length (Ey acc) j)).sem = some (O1 s 0 (C7 q (s.drop a) a acc).1.length (Ey (C7 q (s.drop a) a acc).1))) ∨
  ((C7 q (s.drop a) a acc).2.1 = 30 ∧ (C7 q (s.drop a) a acc).1 = [] ∧ (A9 (Ep M) (FR s) q (Nn s a acc.length (Ey acc) j)).sem = some (PO s (C7 q (s.drop a) a acc).2.2 (J6 q (s.drop a) acc).1.length (Ey (J6 q (s.drop a) acc).1)))
 | 0,a,acc,j,h,_,_=>absurd h (Nat.not_lt_zero _)
 | q+1,a,acc,j,h,ha,hk=>by
  have hsl:B9 s = s.length:=rfl
  rcases Nat.lt_or_ge a s.length with he | he
  ·have c0:ilt (ofNat a) (ofNat (B9 s)) = true:=ofNat_lt he
   have c1:Af (ile 0 (ofNat a)) (ilt (ofNat a) (ofNat (B9 s))) = true:=Aq he
   cases hb:GF s[a] with
   | true =>
    have e1:C7 (q+1) (s.drop a) a acc = C7 q (s.drop (a+1)) (a+1) acc:=by rw [FA he,Sr hb]
    have e2:J6 (q+1) (s.drop a) acc = J6 q (s.drop (a+1)) acc:=by rw [FA he,J6,if_pos hb]
    rw [e1,e2,Ad (Aii M s a acc.length (Ey acc) j c0 c1 (by rw [M9 he]; exact hb)),Ax,Ao (n:=s.length) he (by omega)]
    exact Y0 M hMM s hs m2 q (a+1) acc (λ_=>.und) (by omega) (by omega) (by omega)
   | false =>
    have c2:Dq (It s a) = false:=by rw [M9 he]; exact hb
    have hw0:0 < (B0 (s.drop a)).length:=by
     rw [FA he]
     unfold B0
     rw [List.takeWhile_cons_of_pos (by simp [hb])]
     exact Nat.succ_pos _
    have hwl:=XE (s.drop a)
    rw [List.length_drop] at hwl
    have hi:∀ M',(M 2 (Eo M') (HN s a acc.length (Ey acc) j)).sem = some (Gw s a acc.length (Ey acc) (a+(B0 (s.drop a)).length)):=λM'=>by
     rw [m2,UG]
     exact Yz M' s hs a acc.length (Ey acc) (B9 s+1) a _ (by omega)
    have hsub:Ig a (If (a+(B0 (s.drop a)).length) s) = B0 (s.drop a):=by
     show (s.take (a+(B0 (s.drop a)).length)).drop a = _
     rw [List.drop_take,show a+(B0 (s.drop a)).length - a = (B0 (s.drop a)).length by omega]
     exact (List.prefix_iff_eq_take.1 (List.takeWhile_prefix _)).symm
    have c3:Af (ile 0 (ofNat a)) (Af (ile (ofNat a) (ofNat (a+(B0 (s.drop a)).length))) (ile (ofNat (a+(B0 (s.drop a)).length)) (ofNat (B9 s)))) = true:=by
     rw [AI,ile_nat,ile_nat,decide_eq_true (by omega),decide_eq_true (by omega)]
     rfl
    have e0:C7 (q+1) (s.drop a) a acc = if Eg (B0 (s.drop a)) = 0 then C7 q ((s.drop a).drop (B0 (s.drop a)).length) (a+(B0 (s.drop a)).length) (acc ++ [Fh (B0 (s.drop a))]) else ([],30,a):=by
     rw [FA he,C7,if_neg (by rw [hb]; decide)]
    have e5:J6 (q+1) (s.drop a) acc = if Eg (B0 (s.drop a)) = 0 then J6 q ((s.drop a).drop (B0 (s.drop a)).length) (acc ++ [Fh (B0 (s.drop a))]) else (acc,Fh (B0 (s.drop a))):=by
     rw [FA he,J6,if_neg (by rw [hb]; decide)]
    by_cases hp:Eg (B0 (s.drop a)) = 0
    ·have c4:ieq (Eg (Ig a (If (a+(B0 (s.drop a)).length) s))) 0 = true:=by rw [hsub,hp]; rfl
     have h9:(acc.length+1) * 40 <= 140737488355328:=by omega
     have h3:=Aif M _ s a acc.length (Ey acc) (a+(B0 (s.drop a)).length) j c0 c1 c2 c3 c4 (decide_eq_true h9) (Am (hi _))
     have h4:Ai (Ep M) (FR s) (Nn s a acc.length (Ey acc) j) = _:=Du (l:=FR s) (ES (Γ:=⟨Ap tb41,M,Gl⟩) (Ay hMM hMM) (A1 Try.f63 0) 0 (Nn s a acc.length (Ey acc) j)) h3
     rw [if_pos hp,List.drop_drop] at e0 e5
     rw [e0,e5,Ad h4,Ax,hsub,WL]
     have ih:=Y0 M hMM s hs m2 q (a+(B0 (s.drop a)).length) (acc ++ [Fh (B0 (s.drop a))]) (λ_=>.und) (by omega) (by omega) (by rw [List.length_append]; simp only [List.length_cons,List.length_nil]; omega)
     rw [show (acc ++ [Fh (B0 (s.drop a))]).length = acc.length+1 from List.length_append] at ih
     exact ih
    ·have c4:ieq (Eg (Ig a (If (a+(B0 (s.drop a)).length) s))) 0 = false:=by rw [hsub]; simp [ieq,hp]
     have h3:=Aig M _ s a acc.length (Ey acc) (a+(B0 (s.drop a)).length) j c0 c1 c2 c3 c4 (Am (hi _))
     have h4:Ai (Ep M) (FR s) (Nn s a acc.length (Ey acc) j) = _:=Du (l:=FR s) (ES (Γ:=⟨Ap tb41,M,Gl⟩) (Ay hMM hMM) (A1 Try.f63 0) 0 (Nn s a acc.length (Ey acc) j)) h3
     rw [if_neg hp] at e0 e5
     rw [e0,e5]
     refine .inr ⟨rfl,rfl,?_⟩
     rw [Ad h4]
     rfl
  ·rw [List.drop_eq_nil_of_le he]
   exact .inl ⟨rfl,Ad (Aih M s a acc.length (Ey acc) j (AD he))⟩
theorem ZJ (s:List UInt8):KI s = Nn s 0 0 (λ_=>.und) (λi=>nth (KI s).t i):=by kernel_rfl
theorem p41:A6 Try.prog Gl 63 psT:=by
 refine A5 AO AP Try.func63 (by kernel_rfl) (by kernel_rfl) λvs v h' h=>?_
 unfold psT at h
 split at h
 ·rename_i s
  have:=Ac h
  simp only [Prod.mk.injEq] at this
  obtain ⟨rfl,rfl⟩:=this
  have hx:=AQ tb41_ok [(0,FR s),(2,Dk s)]
  have hL:=AL [(0,FR s),(2,Dk s)]
  cases hb:Aan s with
  | true =>
   have e1:psN s = 0:=by unfold psN psL; rw [hb]; rfl
   have e2:psE s = 2:=by unfold psE; rw [hb]; rfl
   have e3:psI s = 0:=by unfold psI; rw [hb]; rfl
   rw [e1,e2,e3]
   exact ⟨_,AS Gl tb41 [(0,FR s),(2,Dk s)],_,BJ.refl _,rfl,hx.1,hx.2,Ahz _ s hb,AC.one λj hj=>absurd hj (Nat.not_lt_zero _)⟩
  | false =>
   have hs:s.length <= 262144:=by
    unfold Aan at hb
    rw [show (262144:Int) = ofNat 262144 from rfl,CJ] at hb
    have:=of_decide_eq_false hb
    have hsl:B9 s = s.length:=rfl
    omega
   have e0:psL s = (psR s).1:=by unfold psL; rw [hb]; rfl
   have e2:psE s = (psR s).2.1:=by unfold psE; rw [hb]; rfl
   have e3:psI s = ofNat (psR s).2.2:=by unfold psI; rw [hb]; rfl
   have hg:ilt 262144 (ofNat (B9 s)) = false:=hb
   have key:∀ M,LLe M M->(∀ f st,M 2 f st = A9 f (Dk s) (B9 s+1) st)->((psR s).2.1 = 0 ∧ (A9 (Ep M) (FR s) (B9 s+1) (KI s)).sem = some (O1 s 0 (psR s).1.length (Ey (psR s).1))) ∨
     ((psR s).2.1 = 30 ∧ (psR s).1 = [] ∧ (A9 (Ep M) (FR s) (B9 s+1) (KI s)).sem = some (PO s (psR s).2.2 (J6 (s.length+1) s []).1.length (Ey (J6 (s.length+1) s []).1))):=λM h1 h2=>by
    rw [ZJ]
    exact Y0 M h1 s hs h2 (s.length+1) 0 [] (λi=>nth (KI s).t i) (by omega) (by omega) (Nat.le_refl _)
   have mm:∀ r,LLe (onP 0 (isP (Bb [(0,FR s),(2,Dk s)]) 0 r) r (Bb [(0,FR s),(2,Dk s)])) (onP 0 (isP (Bb [(0,FR s),(2,Dk s)]) 0 r) r (Bb [(0,FR s),(2,Dk s)])):=λr=>Ag3 hL 0 r
   rw [e2,e3]
   unfold psN psG
   rw [e0]
   by_cases hok:(psR s).2.1 = 0
   ·have hat:(psR s).2.2 = 0:=N8 _ _ _ _ hok
    have hw:=A7 (Ay hL hL) _ (Ahy (Bb [(0,FR s),(2,Dk s)]) _ s 0 (psR s).1.length (Ey (psR s).1) hg (Am (by
     rcases key _ (mm (O1 s 0 (psR s).1.length (Ey (psR s).1))) (λ_ _=>rfl) with ⟨_,h2⟩ | ⟨h1,_⟩
     ·exact h2
     ·rw [hok] at h1; cases h1)))
    rw [hok,hat]
    exact ⟨_,AS Gl tb41 [(0,FR s),(2,Dk s)],_,BJ.refl _,rfl,hx.1,hx.2,hw,AC.one λj hj=>(I0 (λi=>eV (L5 (psR s).1 i)) (psR s).1.length j hj).symm⟩
   ·have hno:(psR s).2.1 = 30 ∧ (psR s).1 = []:=by
     rcases key _ (mm (O1 s 0 0 (Ey []))) (λ_ _=>rfl) with ⟨h1,_⟩ | ⟨h1,h2,_⟩
     ·exact absurd h1 hok
     ·exact ⟨h1,h2⟩
    have hw:=A7 (Ay hL hL) _ (Ah0 (Bb [(0,FR s),(2,Dk s)]) _ s (psR s).2.2 (J6 (s.length+1) s []).1.length (Ey (J6 (s.length+1) s []).1) hg (Am (by
     rcases key _ (mm (PO s (psR s).2.2 (J6 (s.length+1) s []).1.length (Ey (J6 (s.length+1) s []).1))) (λ_ _=>rfl) with ⟨h1,_⟩ | ⟨_,_,h3⟩
     ·exact absurd h1 hok
     ·exact h3)))
    rw [hno.1,hno.2]
    exact ⟨_,AS Gl tb41 [(0,FR s),(2,Dk s)],_,BJ.refl _,rfl,hx.1,hx.2,hw,AC.one λj hj=>absurd hj (Nat.not_lt_zero _)⟩
 ·cases h
end Go.Proofs.Ytjhnfomefcngfaa.Ed
namespace Go.Proofs.Ytjhnfomefcngfaa.Sh
open Go.Sy Ed
open Int (ofNat)
set_option maxRecDepth 4000
def Agu:List UInt8:=[120,121,122,97,98,99,100,101,102,103,104,105,106,107,108,109]
def Gb (x:Int):Int:=bif bor (ilt x 0) (ile 16 x) then 4 else 0
def D3 (x:Int):List UInt8:=bif bor (ilt x 0) (ile 16 x) then [] else [Agu.getD x.toNat 0]
def Agt:List V->T (V × List Blk)
 | [.val (.int .i64 x)]=>.leaf (.tup [.str (D3 x),iV (Gb x)],[])
 | _=>.fail
section
variable (L:LT) (x:Int)
include L x
theorem Akm (h0:ilt x 0 = true):(Az (Ak tab ⟨Ap tb0,L,Gl⟩ Try.f37 [iV x] [])).sem = some ((.tup [.str [],iV 4]),[]):=Aa [true,true,true,true] [ilt x 0,ilt x 0,ilt x 0,true] (by kernel_rfl) (by simp only [h0] <;> rfl)
theorem Akn (h0:ilt x 0 = false) (h1:ile 16 x = true):(Az (Ak tab ⟨Ap tb0,L,Gl⟩ Try.f37 [iV x] [])).sem = some ((.tup [.str [],iV 4]),[]):=Aa [false,false,false,true] [ilt x 0,ilt x 0,ilt x 0,ile 16 x] (by kernel_rfl) (by simp only [h0,h1] <;> rfl)
end
theorem AbP:(Az (Ak tab (AS Gl tb0 []) Try.f37 [nV 0] [])).sem = some (.tup [.str (D3 (ofNat 0)),iV (Gb (ofNat 0))],[]):=by kernel_rfl
theorem AbO:(Az (Ak tab (AS Gl tb0 []) Try.f37 [nV 1] [])).sem = some (.tup [.str (D3 (ofNat 1)),iV (Gb (ofNat 1))],[]):=by kernel_rfl
theorem AbN:(Az (Ak tab (AS Gl tb0 []) Try.f37 [nV 2] [])).sem = some (.tup [.str (D3 (ofNat 2)),iV (Gb (ofNat 2))],[]):=by kernel_rfl
theorem AbM:(Az (Ak tab (AS Gl tb0 []) Try.f37 [nV 3] [])).sem = some (.tup [.str (D3 (ofNat 3)),iV (Gb (ofNat 3))],[]):=by kernel_rfl
theorem AbL:(Az (Ak tab (AS Gl tb0 []) Try.f37 [nV 4] [])).sem = some (.tup [.str (D3 (ofNat 4)),iV (Gb (ofNat 4))],[]):=by kernel_rfl
theorem AbK:(Az (Ak tab (AS Gl tb0 []) Try.f37 [nV 5] [])).sem = some (.tup [.str (D3 (ofNat 5)),iV (Gb (ofNat 5))],[]):=by kernel_rfl
theorem AbJ:(Az (Ak tab (AS Gl tb0 []) Try.f37 [nV 6] [])).sem = some (.tup [.str (D3 (ofNat 6)),iV (Gb (ofNat 6))],[]):=by kernel_rfl
theorem AbI:(Az (Ak tab (AS Gl tb0 []) Try.f37 [nV 7] [])).sem = some (.tup [.str (D3 (ofNat 7)),iV (Gb (ofNat 7))],[]):=by kernel_rfl
theorem AbH:(Az (Ak tab (AS Gl tb0 []) Try.f37 [nV 8] [])).sem = some (.tup [.str (D3 (ofNat 8)),iV (Gb (ofNat 8))],[]):=by kernel_rfl
theorem AbG:(Az (Ak tab (AS Gl tb0 []) Try.f37 [nV 9] [])).sem = some (.tup [.str (D3 (ofNat 9)),iV (Gb (ofNat 9))],[]):=by kernel_rfl
theorem Zh:(Az (Ak tab (AS Gl tb0 []) Try.f37 [nV 10] [])).sem = some (.tup [.str (D3 (ofNat 10)),iV (Gb (ofNat 10))],[]):=by kernel_rfl
theorem Zg:(Az (Ak tab (AS Gl tb0 []) Try.f37 [nV 11] [])).sem = some (.tup [.str (D3 (ofNat 11)),iV (Gb (ofNat 11))],[]):=by kernel_rfl
theorem Zf:(Az (Ak tab (AS Gl tb0 []) Try.f37 [nV 12] [])).sem = some (.tup [.str (D3 (ofNat 12)),iV (Gb (ofNat 12))],[]):=by kernel_rfl
theorem Ze:(Az (Ak tab (AS Gl tb0 []) Try.f37 [nV 13] [])).sem = some (.tup [.str (D3 (ofNat 13)),iV (Gb (ofNat 13))],[]):=by kernel_rfl
theorem Zd:(Az (Ak tab (AS Gl tb0 []) Try.f37 [nV 14] [])).sem = some (.tup [.str (D3 (ofNat 14)),iV (Gb (ofNat 14))],[]):=by kernel_rfl
theorem Zc:(Az (Ak tab (AS Gl tb0 []) Try.f37 [nV 15] [])).sem = some (.tup [.str (D3 (ofNat 15)),iV (Gb (ofNat 15))],[]):=by kernel_rfl
theorem Ajl (k:Nat) (hk:k < 16):(Az (Ak tab (AS Gl tb0 []) Try.f37 [nV k] [])).sem = some (.tup [.str (D3 (ofNat k)),iV (Gb (ofNat k))],[]):=by
 have:k = 0 ∨ k = 1 ∨ k = 2 ∨ k = 3 ∨ k = 4 ∨ k = 5 ∨ k = 6 ∨ k = 7 ∨ k = 8 ∨ k = 9 ∨ k = 10 ∨ k = 11 ∨ k = 12 ∨ k = 13 ∨ k = 14 ∨ k = 15:=by omega
 rcases this with rfl | rfl | rfl | rfl | rfl | rfl | rfl | rfl | rfl | rfl | rfl | rfl | rfl | rfl | rfl | rfl
 ·exact AbP
 ·exact AbO
 ·exact AbN
 ·exact AbM
 ·exact AbL
 ·exact AbK
 ·exact AbJ
 ·exact AbI
 ·exact AbH
 ·exact AbG
 ·exact Zh
 ·exact Zg
 ·exact Zf
 ·exact Ze
 ·exact Zd
 ·exact Zc
theorem p37:A6 Try.prog Gl 37 Agt:=by
 refine A6.congr (AK AO AP Try.func37 (by kernel_rfl) (by kernel_rfl) (Γ:=AS Gl tb0 []) (AQ Dd [])) λvs r h=>?_
 unfold Agt at h
 split at h
 ·rename_i x
  rw [Ac h]
  show (Az (Ak tab (AS Gl tb0 []) Try.f37 [iV x] [])).sem = _
  cases c0:ilt x 0 with
  | true =>
   rw [show D3 x = [] by unfold D3 bor; rw [c0]; rfl,show Gb x = 4 by unfold Gb bor; rw [c0]; rfl]
   exact Akm _ x c0
  | false =>
   cases c1:ile 16 x with
   | true =>
    rw [show D3 x = [] by unfold D3 bor; rw [c0,c1]; rfl,show Gb x = 4 by unfold Gb bor; rw [c0,c1]; rfl]
    exact Akn _ x c0 c1
   | false =>
    have h1:¬ x < 0:=of_decide_eq_false c0
    have h2:¬ (16:Int) <= x:=of_decide_eq_false c1
    obtain ⟨k,rfl⟩:∃ k:Nat,x = ofNat k:=⟨x.toNat,by simp only [Int.ofNat_eq_natCast]; omega⟩
    exact Ajl k (by simp only [Int.ofNat_eq_natCast] at h2; omega)
 ·cases h
end Go.Proofs.Ytjhnfomefcngfaa.Sh
