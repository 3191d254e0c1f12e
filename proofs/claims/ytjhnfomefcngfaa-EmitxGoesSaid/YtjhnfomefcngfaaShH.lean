/-
  Layer 7: whether lists of numbers, lists of these, shapes are the same. No conditions.
-/
import Derived.Test.YtjhnfomefcngfaaShF
import Derived.Test.YtjhnfomefcngfaaCyT
import Derived.Test.YtjhnfomefcngfaaShW
namespace Go.Proofs.Ytjhnfomefcngfaa.Sh
open Go.Sy Ed
open Int (ofNat)
set_option maxHeartbeats 1000000
set_option maxRecDepth 4000
theorem Kl {n:Nat} (h:Ai n = true):n <= 4611686018427387904:=of_decide_eq_true h
theorem B6 {a b:Bool} (h:a = true):Af a b = b:=by rw [h]; rfl
theorem GG {a b:Bool} (h:a = false):Af a b = false:=by rw [h]; rfl
theorem GT {n m:Nat} (h:ieq (ofNat n) (ofNat m) = true):n = m:=by
 rw [D1] at h
 exact of_decide_eq_true h
def CI (n:Nat) (f:Nat->Int) (m:Nat) (g:Nat->Int):Bool:=Af (ieq (ofNat n) (ofNat m)) (Ay n λk=>ieq (f k) (g k))
def Qs:List V->T (V × List Blk)
 | [v,u]=>apG Xn v λn f=>apG Xn u λm g=>.br (Ai n) (.leaf (bV (CI n f m g),[])) .fail
 | _=>.fail
def Gh (n:Nat) (ln:Nat->Nat) (co:Nat->Nat->Int) (m:Nat) (ln':Nat->Nat) (co':Nat->Nat->Int):Bool:=Af (ieq (ofNat n) (ofNat m)) (Ay n λk=>CI (ln k) (co k) (ln' k) (co' k))
def FH (e e':Ev5):Bool:=Af (ieq e.th e'.th) (Af (ieq e.pl e'.pl) (Af (ieq e.dir e'.dir) (Af (ieq e.loc e'.loc) (Af (ieq e.val e'.val) true))))
def Nt (s s':Sh7):Bool:=Af (ieq s.arch s'.arch) (Af (ieq s.tt s'.tt) (Af (ieq s.kk s'.kk) (Af (Dd s.ne s.E s'.ne s'.E) (Af (ieq (ofNat s.nx) (ofNat s'.nx)) (Af (CI s.nr s.R s'.nr s'.R)
 (Af (Gh s.nc (λi=>(s.C i).1) (λi=>(s.C i).2) s'.nc (λi=>(s'.C i).1) (λi=>(s'.C i).2)) (Ay s.nx λk=>FH (s.X k) (s'.X k))))))))
def Hw (s:Sh7):Bool:=Af (Ai s.ne) (Af (Ai s.nx) (Af (Ai s.nr) (Af (Ai s.nc) (Ay s.nc λi=>Ai (s.C i).1))))
def TS:List V->T (V × List Blk)
 | [v,u]=>apS v λs=>apS u λs'=>.br (Hw s) (.leaf (bV (Nt s s'),[])) .fail
 | _=>.fail
end Go.Proofs.Ytjhnfomefcngfaa.Sh
namespace Go.Proofs.Ytjhnfomefcngfaa.Ed
open Go.Sy Go
def GF (c:UInt8):Bool:=c == 32 || c == 9 || c == 10 || c == 13
def Du (x:Int):Bool:=bor (ieq x 32) (bor (ieq x 9) (bor (ieq x 10) (ieq x 13)))
theorem MU (c:UInt8) (n:Nat) (hn:n < 256):ieq ((c.toNat:Nat):Int) (n:Int) = (c == UInt8.ofNat n):=by
 rw [Bool.eq_iff_iff]
 simp only [ieq,beq_iff_eq]
 constructor
 ·intro h
  apply UInt8.toNat_inj.1
  rw [UInt8.toNat_ofNat_of_lt' (by simpa using hn)]
  omega
 ·intro h
  rw [h,UInt8.toNat_ofNat_of_lt' (by simpa using hn)]
theorem Aah (c:UInt8):Du ((c.toNat:Nat):Int) = GF c:=by
 unfold Du GF bor
 have h1:=MU c 32 (by decide)
 have h2:=MU c 9 (by decide)
 have h3:=MU c 10 (by decide)
 have h4:=MU c 13 (by decide)
 have h1:ieq ((c.toNat:Nat):Int) 32 = (c == 32):=h1
 have h2:ieq ((c.toNat:Nat):Int) 9 = (c == 9):=h2
 have h3:ieq ((c.toNat:Nat):Int) 10 = (c == 10):=h3
 have h4:ieq ((c.toNat:Nat):Int) 13 = (c == 13):=h4
 rw [h1,h2,h3,h4]
 cases (c == 32) <;> cases (c == 9) <;> cases (c == 10) <;> rfl
def B2 (l:List UInt8):List UInt8:=l.takeWhile λc=>!GF c
def CB:Nat->List UInt8->Nat->List E6->List E6 × Int × Nat
 | 0,_,_,acc=>(acc,0,0)
 | _+1,[],_,acc=>(acc,0,0)
 | q+1,c :: l,a,acc =>
  if GF c = true then CB q l (a+1) acc
  else if Ej (B2 (c :: l)) = 0 then CB q ((c :: l).drop (B2 (c :: l)).length) (a+(B2 (c :: l)).length) (acc ++ [Fh (B2 (c :: l))])
  else ([],30,a)
theorem Sn {b:UInt8} (hb:GF b = true) (l:List UInt8) (q a:Nat) (acc:List E6):CB (q+1) (b :: l) a acc = CB q l (a+1) acc:=by
 rw [CB,if_pos hb]
theorem X5 (l:List UInt8):(B2 l).length <= l.length:=by
 induction l with
 | nil=>exact Nat.le_refl _
 | cons c l ih =>
  unfold B2 at ih ⊢
  cases hc:GF c with
  | true=>rw [List.takeWhile_cons_of_neg (by simp [hc])]; exact Nat.zero_le _
  | false =>
   rw [List.takeWhile_cons_of_pos (by simp [hc])]
   simp only [List.length_cons]
   omega
section
variable (L:LT) (x:Int)
include L x
theorem AgX (h0:ieq x 32 = true):(A2 (An tab ⟨Aq tb0,L,Gl⟩ Try.f96 [.val (.int .u8 x)] [])).sem = some ((bV true),[]):=Aa (bbK 9 511) ((λc0 c1=>[c0,c0,c0,c1,c1,c1,c1,c1,c1]) (ieq x 32) (true)) (by kernel_rfl) (by simp only [h0] <;> rfl)
theorem AgW (h0:ieq x 32 = false) (h1:ieq x 9 = true):(A2 (An tab ⟨Aq tb0,L,Gl⟩ Try.f96 [.val (.int .u8 x)] [])).sem = some ((bV true),[]):=Aa (bbK 9 504) [ieq x 32,ieq x 32,ieq x 32,ieq x 9,ieq x 9,ieq x 9,true,true,true] (by kernel_rfl) (by simp only [h0,h1] <;> rfl)
theorem AgV (h0:ieq x 32 = false) (h1:ieq x 9 = false) (h2:ieq x 10 = true):(A2 (An tab ⟨Aq tb0,L,Gl⟩ Try.f96 [.val (.int .u8 x)] [])).sem = some ((bV true),[]):=Aa (bbK 9 448) [ieq x 32,ieq x 32,ieq x 32,ieq x 9,ieq x 9,ieq x 9,ieq x 10,ieq x 10,ieq x 10] (by kernel_rfl) (by simp only [*] <;> rfl)
theorem AgU (h0:ieq x 32 = false) (h1:ieq x 9 = false) (h2:ieq x 10 = false):(A2 (An tab ⟨Aq tb0,L,Gl⟩ Try.f96 [.val (.int .u8 x)] [])).sem = some ((bV (ieq x 13)),[]):=Aa (bbK 9 0) [ieq x 32,ieq x 32,ieq x 32,ieq x 9,ieq x 9,ieq x 9,ieq x 10,ieq x 10,ieq x 10] (by kernel_rfl) (by simp only [*] <;> rfl)
end
def UL:List V->T (V × List Blk)
 | [.val (.int .u8 x)]=>out (bV (Du x))
 | _=>.fail
theorem Acb {α:Type} {l:List α} {i:Nat} {d:α} (h:i < l.length):l.getD i d = l[i]:=by simp [List.getD,h]
theorem F7 {s:List UInt8} {a:Nat} (h:a < s.length):s.drop a = s[a] :: s.drop (a+1):=List.drop_eq_getElem_cons h
theorem MB {s:List UInt8} {a:Nat} (h:a < s.length):Du (It s a) = GF s[a]:=by
 unfold It
 rw [Acb h]
 exact Aah _
def L9 (l:List E6) (i:Nat):E6:=l.getD i Ga
theorem ST {l:List E6} {e:E6} {i:Nat} (h:i < l.length+1):L9 (l ++ [e]) i = if i = l.length then e else L9 l i:=by
 unfold L9
 by_cases hi:i = l.length
 ·rw [if_pos hi,hi]; simp
 ·rw [if_neg hi]
  simp only [List.getD,List.getElem?_append_left (show i < l.length by omega)]
def E0 (acc:List E6):Nat->V:=BQ (λi=>eV (L9 acc i)) acc.length
theorem Mi {g g':Nat->V}:∀ n,(∀ i,i < n->g i = g' i)->BQ g n = BQ g' n
 | 0,_=>rfl
 | n+1,h=>by
  show AB n (BQ g n) (g n) = AB n (BQ g' n) (g' n)
  rw [h n (Nat.lt_succ_self n),Mi n λi hi=>h i (by omega)]
theorem WC (acc:List E6) (e:E6):AB acc.length (E0 acc) (eV e) = E0 (acc ++ [e]):=by
 have h1:E0 (acc ++ [e]) = BQ (λi=>eV (L9 (acc ++ [e]) i)) (acc.length+1):=by
  unfold E0
  rw [List.length_append]
  rfl
 rw [h1]
 show _ = AB acc.length (BQ (λi=>eV (L9 (acc ++ [e]) i)) acc.length) (eV (L9 (acc ++ [e]) acc.length))
 rw [ST (Nat.lt_succ_self _),if_pos rfl]
 unfold E0
 rw [Mi (g:=λi=>eV (L9 (acc ++ [e]) i)) (g':=λi=>eV (L9 acc i)) acc.length λi hi=>by
  show eV (L9 (acc ++ [e]) i) = eV (L9 acc i)
  rw [ST (by omega),if_neg (by omega)]]
def J8:Nat->List UInt8->List E6->List E6 × E6
 | 0,_,acc=>(acc,Ga)
 | _+1,[],acc=>(acc,Ga)
 | q+1,c :: l,acc =>
  if GF c = true then J8 q l acc
  else if Ej (B2 (c :: l)) = 0 then J8 q ((c :: l).drop (B2 (c :: l)).length) (acc ++ [Fh (B2 (c :: l))])
  else (acc,Fh (B2 (c :: l)))
def Aai (s:List UInt8):Bool:=ilt 262144 (Int.ofNat (BD s))
def psR (s:List UInt8):List E6 × Int × Nat:=CB (s.length+1) s 0 []
def psL (s:List UInt8):List E6:=bif Aai s then [] else (psR s).1
def psE (s:List UInt8):Int:=bif Aai s then 2 else (psR s).2.1
def psI (s:List UInt8):Int:=bif Aai s then 0 else Int.ofNat (psR s).2.2
def psN (s:List UInt8):Nat:=(psL s).length
def psG (s:List UInt8) (i:Nat):E6:=L9 (psL s) i
def psT:List V->T (V × List Blk)
 | [.str s]=>.leaf (.tup [.ref 0,iV (psE s),iV (psI s)],[.row 44 6 (psN s) λi=>eV (psG s i)])
 | _=>.fail
theorem N7:∀ (q:Nat) (l:List UInt8) (a:Nat) (acc:List E6),(CB q l a acc).2.1 = 0->(CB q l a acc).2.2 = 0
 | 0,_,_,_,_=>rfl
 | q+1,[],_,_,_=>rfl
 | q+1,c :: l,a,acc,h=>by
  rw [CB] at h ⊢
  split
  ·rename_i hc
   rw [if_pos hc] at h
   exact N7 q _ _ _ h
  ·rename_i hc
   rw [if_neg hc] at h
   split
   ·rename_i hp
    rw [if_pos hp] at h
    exact N7 q _ _ _ h
   ·rename_i hp
    rw [if_neg hp] at h
    cases h
theorem Agq {L:LT} (hL:LLe L L) (k:Nat) (r:Ex × St):LLe (onP k (isP L k r) r L) (onP k (isP L k r) r L):=λid f f' st hf r' hr=>by
 unfold onP at hr ⊢
 cases hk:Nat.beq id k with
 | true =>
  rw [hk] at hr
  obtain ⟨h1,h2⟩:=Ag hr
  unfold isP at h1
  have h1:=@of_decide_eq_true _ (Classical.propDecidable _) h1
  have h3:isP L k r f' st = true:=Am (hL k f f' st hf _ h1)
  show sel (isP L k r f' st) _ _ = _
  rw [h3]
  exact h2
 | false =>
  rw [hk] at hr
  exact hL id f f' st hf _ hr
end Go.Proofs.Ytjhnfomefcngfaa.Ed
namespace Go.Proofs.Ytjhnfomefcngfaa.Ed
open Go.Sy Go
open Int (ofNat)
theorem e84 (Γ:Cx) (vs:List V) (h:List Blk):An tab Γ Try.f96 vs h = An tab Γ Try.f96 vs h:=by kernel_rfl
theorem p84:AA Try.prog Gl 96 UL:=by
 refine A5 AQ AR Try.func96 (by kernel_rfl) (by kernel_rfl) λvs v h' h=>?_
 unfold UL at h
 split at h
 ·rename_i x
  have:=Ac h
  simp only [Prod.mk.injEq] at this
  obtain ⟨rfl,rfl⟩:=this
  have hx:=AS Ee []
  refine ⟨_,AT Gl tb0 [],_,BL.refl _,rfl,hx.1,hx.2,?_,AE.refl _⟩
  rw [e84]
  unfold Du
  cases c1:ieq x 32 with
  | true=>exact AgX _ x c1
  | false =>
   cases c2:ieq x 9 with
   | true=>exact AgW _ x c1 c2
   | false =>
    cases c3:ieq x 10 with
    | true=>exact AgV _ x c1 c2 c3
    | false=>exact AgU _ x c1 c2 c3
 ·cases h
noncomputable def tb41:List (Nat × (List V->T (V × List Blk))):=(96,UL) :: (97,RE Un) :: []
theorem tb41_ok:AC Try.prog Gl tb41:=.cons p84 <| .cons p22 .nil
def PK (s:List UInt8) (a k:Nat) (x:Nat->V):Ex × St:=(.rt,⟨(jsV 56 0 (λ_=>.und) [(2,.ref 1),(3,iV 30),(4,nV a),(6,.ref 2)]),[.row 44 6 0 (λ_=>.und),.row 44 6 0 (λ_=>.und),.row 44 6 k x]⟩)
def Do (s:List UInt8):Lp:=⟨(bmK 56 0 [0,2,3,4,5,6,7,8]),3,bmK 56 0 [0,2,3,4,5,6,7,8],3,BD s+1⟩
def Nl (s:List UInt8) (a k:Nat) (x:Nat->V) (e:Nat) (j:Nat->V):St:=⟨(jsV 56 0 j [(0,.str s),(2,.ref 0),(3,iV 0),(4,iV 0),(5,.ref 1),(6,.ref 2),(7,nV e),(8,nV a)]),[.row 44 6 0 (λ_=>.und),.row 44 6 0 (λ_=>.und),.row 44 6 k x]⟩
def Gv (s:List UInt8) (a k:Nat) (x:Nat->V) (e:Nat):Ex × St:=(.ex 2,⟨(jsV 56 0 (λ_=>.und) [(0,.str s),(2,.ref 0),(3,iV 0),(4,iV 0),(5,.ref 1),(6,.ref 2),(7,nV e),(8,nV a)]),[.row 44 6 0 (λ_=>.und),.row 44 6 0 (λ_=>.und),.row 44 6 k x]⟩)
noncomputable def Er (L:LT):St->T (Ex × St):=λst=>AG tab ⟨Aq tb41,L,Gl⟩ (A1 Try.f63 2) 2 st
section
variable (L:LT) (s:List UInt8) (a k:Nat) (x:Nat->V) (e:Nat)  (j:Nat->V)
include L s a k x e j
theorem Aia (h0:ilt (ofNat e) (ofNat (BD s)) = false):Aj (Er L) (Do s) (Nl s a k x e j) = some ((.ex 2),⟨(jsV 56 0 (λ_=>.und) [(0,(.str s)),(2,(.ref 0)),(3,(iV 0)),(4,(iV 0)),(5,(.ref 1)),(6,(.ref 2)),(7,(nV e)),(8,(nV a))]),[.row 44 6 0 (λ_=>.und),.row 44 6 0 (λ_=>.und),.row 44 6 k x]⟩):=Aa (bbK 7 0) ((λc0=>[c0,c0,c0,c0,c0,c0,false]) (ilt (ofNat e) (ofNat (BD s)))) (by kernel_rfl) (by simp only [h0] <;> rfl)
theorem Aib (h0:ilt (ofNat e) (ofNat (BD s)) = true) (h1:Af (ile 0 (ofNat e)) (ilt (ofNat e) (ofNat (BD s))) = true) (h2:Du (It s e) = true):Aj (Er L) (Do s) (Nl s a k x e j) = some ((.ex 2),⟨(jsV 56 0 (λ_=>.und) [(0,(.str s)),(2,(.ref 0)),(3,(iV 0)),(4,(iV 0)),(5,(.ref 1)),(6,(.ref 2)),(7,(nV e)),(8,(nV a))]),[.row 44 6 0 (λ_=>.und),.row 44 6 0 (λ_=>.und),.row 44 6 k x]⟩):=Aa (bbK 8 127) ((λc0=>[c0,c0,c0,Af (ile 0 (ofNat e)) (ilt (ofNat e) (ofNat (BD s))),c0,c0,c0,Ah (Du (It s e))]) (ilt (ofNat e) (ofNat (BD s)))) (by kernel_rfl) (by simp only [h1] <;> simp only [h0,h2] <;> rfl)
theorem AhZ (h0:ilt (ofNat e) (ofNat (BD s)) = true) (h1:Af (ile 0 (ofNat e)) (ilt (ofNat e) (ofNat (BD s))) = true) (h2:Du (It s e) = false):Aj (Er L) (Do s) (Nl s a k x e j) = some (.nm,⟨(jsV 56 0 (λ_=>.und) [(0,(.str s)),(2,(.ref 0)),(3,(iV 0)),(4,(iV 0)),(5,(.ref 1)),(6,(.ref 2)),(7,(iV (wr .i64 (Ae (ofNat e) 1)))),(8,(nV a))]),[.row 44 6 0 (λ_=>.und),.row 44 6 0 (λ_=>.und),.row 44 6 k x]⟩):=Aa (bbK 8 255) ((λc0=>[c0,c0,c0,Af (ile 0 (ofNat e)) (ilt (ofNat e) (ofNat (BD s))),c0,c0,c0,Ah (Du (It s e))]) (ilt (ofNat e) (ofNat (BD s)))) (by kernel_rfl) (by simp only [h1] <;> simp only [h0,h2] <;> rfl)
end
def FO (s:List UInt8):Lp:=⟨(bmK 56 0 [0,2,3,4,5,6,7]),3,bmK 56 0 [2,3,4,6],3,BD s+1⟩
def Nm (s:List UInt8) (a k:Nat) (x:Nat->V) (j:Nat->V):St:=⟨(jsV 56 0 j [(0,.str s),(2,.ref 0),(3,iV 0),(4,iV 0),(5,.ref 1),(6,.ref 2),(7,nV a)]),[.row 44 6 0 (λ_=>.und),.row 44 6 0 (λ_=>.und),.row 44 6 k x]⟩
def O0 (s:List UInt8) (a k:Nat) (x:Nat->V):Ex × St:=(.ex 0,⟨(jsV 56 0 (λ_=>.und) [(2,.ref 0),(3,iV 0),(4,iV 0),(6,.ref 2)]),[.row 44 6 0 (λ_=>.und),.row 44 6 0 (λ_=>.und),.row 44 6 k x]⟩)
noncomputable def Es (L:LT):St->T (Ex × St):=λst=>AG tab ⟨Aq tb41,L,Gl⟩ (A1 Try.f63 0) 0 st
section
variable (L:LT) (s:List UInt8) (a k:Nat) (x:Nat->V)  (j:Nat->V)
include L s a k x j
theorem AhP (h0:ilt (ofNat a) (ofNat (BD s)) = false):Aj (Es L) (FO s) (Nm s a k x j) = some ((.ex 0),⟨(jsV 56 0 (λ_=>.und) [(2,(.ref 0)),(3,(iV 0)),(4,(iV 0)),(6,(.ref 2))]),[.row 44 6 0 (λ_=>.und),.row 44 6 0 (λ_=>.und),.row 44 6 k x]⟩):=Aa [false] [ilt (ofNat a) (ofNat (BD s))] (by kernel_rfl) (by simp only [h0] <;> rfl)
theorem AhQ (h0:ilt (ofNat a) (ofNat (BD s)) = true) (h1:Af (ile 0 (ofNat a)) (ilt (ofNat a) (ofNat (BD s))) = true) (h2:Du (It s a) = true):Aj (Es L) (FO s) (Nm s a k x j) = some (.nm,⟨(jsV 56 0 (λ_=>.und) [(0,(.str s)),(2,(.ref 0)),(3,(iV 0)),(4,(iV 0)),(5,(.ref 1)),(6,(.ref 2)),(7,(iV (wr .i64 (Ae (ofNat a) 1))))]),[.row 44 6 0 (λ_=>.und),.row 44 6 0 (λ_=>.und),.row 44 6 k x]⟩):=Aa [true,true,true] [ilt (ofNat a) (ofNat (BD s)),Af (ile 0 (ofNat a)) (ilt (ofNat a) (ofNat (BD s))),Du (It s a)] (by kernel_rfl) (by simp only [h1] <;> simp only [h0,h2] <;> rfl)
end
def HN (s:List UInt8) (a k:Nat) (x:Nat->V) (j:Nat->V):St:=⟨(jsV 56 0 j [(0,(.str s)),(2,(.ref 0)),(3,(iV 0)),(4,(iV 0)),(5,(.ref 1)),(6,(.ref 2)),(7,(nV a)),(8,(nV a)),(15,(nV a)),(16,(.str s)),(17,(iV (ofNat (BD s)))),(18,(bV (ilt (ofNat a) (ofNat (BD s))))),(19,(.str s)),(20,(nV a)),(21,(.val (Value.int IntKind.u8 (It s a)))),(22,(bV (Du (It s a)))),(25,(nV a))]),[.row 44 6 0 (λ_=>.und),.row 44 6 0 (λ_=>.und),.row 44 6 k x]⟩
section
variable (L:LT) (p2:PT) (s:List UInt8) (a k:Nat) (x:Nat->V) (e:Nat) (j:Nat->V)
include L p2 s a k x e j
theorem AhN (h0:ilt (ofNat a) (ofNat (BD s)) = true) (h1:Af (ile 0 (ofNat a)) (ilt (ofNat a) (ofNat (BD s))) = true) (h2:Du (It s a) = false) (h3:Af (ile 0 (ofNat a)) (Af (ile (ofNat a) (ofNat e)) (ile (ofNat e) (ofNat (BD s)))) = true) (h4:ieq (Ej (If a (Ie e s))) 0 = true) (h5:Bh k 1 40 = true) (hp2:p2 (Er (onP 2 p2 (Gv s a k x e) L)) (HN s a k x j) = true):Aj (Es (onP 2 p2 (Gv s a k x e) L)) (FO s) (Nm s a k x j) = some (.nm,⟨(jsV 56 0 (λ_=>.und) [(0,(.str s)),(2,(.ref 0)),(3,(iV 0)),(4,(iV 0)),(5,(.ref 1)),(6,(.ref 2)),(7,(nV e))]),[.row 44 6 0 (λ_=>.und),.row 44 6 0 (λ_=>.und),.row 44 6 (Bp k 1) (AB k x (eV (Fh (If a (Ie e s)))))]⟩):=Aa (bbK 7 91) [ilt (ofNat a) (ofNat (BD s)),Af (ile 0 (ofNat a)) (ilt (ofNat a) (ofNat (BD s))),Du (It s a),p2 (Er (onP 2 p2 (Gv s a k x e) L)) (HN s a k x j),Af (ile 0 (ofNat a)) (Af (ile (ofNat a) (ofNat e)) (ile (ofNat e) (ofNat (BD s)))),Ah (ieq (Ej (If a (Ie e s))) 0),Bh k 1 40] (by kernel_rfl) (by simp only [hp2] <;> simp only [h1,h3] <;> simp only [*] <;> rfl)
theorem AhO (h0:ilt (ofNat a) (ofNat (BD s)) = true) (h1:Af (ile 0 (ofNat a)) (ilt (ofNat a) (ofNat (BD s))) = true) (h2:Du (It s a) = false) (h3:Af (ile 0 (ofNat a)) (Af (ile (ofNat a) (ofNat e)) (ile (ofNat e) (ofNat (BD s)))) = true) (h4:ieq (Ej (If a (Ie e s))) 0 = false) (hp2:p2 (Er (onP 2 p2 (Gv s a k x e) L)) (HN s a k x j) = true):Aj (Es (onP 2 p2 (Gv s a k x e) L)) (FO s) (Nm s a k x j) = some (.rt,⟨(jsV 56 0 (λ_=>.und) [(2,(.ref 1)),(3,(iV 30)),(4,(nV a)),(6,(.ref 2))]),[.row 44 6 0 (λ_=>.und),.row 44 6 0 (λ_=>.und),.row 44 6 k x]⟩):=Aa (bbK 6 59) [ilt (ofNat a) (ofNat (BD s)),Af (ile 0 (ofNat a)) (ilt (ofNat a) (ofNat (BD s))),Du (It s a),p2 (Er (onP 2 p2 (Gv s a k x e) L)) (HN s a k x j),Af (ile 0 (ofNat a)) (Af (ile (ofNat a) (ofNat e)) (ile (ofNat e) (ofNat (BD s)))),Ah (ieq (Ej (If a (Ie e s))) 0)] (by kernel_rfl) (by simp only [hp2] <;> simp only [h1,h3] <;> simp only [*] <;> rfl)
end
def KJ (s:List UInt8) :St:=⟨(jsV 56 0 (λ_=>A9) [(0,(.str s)),(2,(.ref 0)),(3,(iV 0)),(4,(iV 0)),(5,(.ref 1)),(6,(.ref 2)),(7,(iV 0)),(11,(.str s)),(12,(iV (ofNat (BD s)))),(13,(bV (ilt 262144 (ofNat (BD s)))))]),[.row 44 6 0 (λ_=>.und),.row 44 6 0 (λ_=>.und),.row 44 6 0 (λ_=>.und)]⟩
theorem Ahi (L:LT) (s:List UInt8) (h0:ilt 262144 (ofNat (BD s)) = true):(A2 (An tab ⟨Aq tb41,L,Gl⟩ Try.f63 [.str s] [])).sem = some ((.tup [.ref 0,iV 2,iV 0]),[.row 44 6 0 (λ_=>.und)]):=Aa [true] [ilt 262144 (ofNat (BD s))] (by kernel_rfl) (by simp only [h0] <;> rfl)
section
variable (L:LT) (p0:PT) (s:List UInt8) (a k:Nat) (x:Nat->V)
include L p0 s a k x
theorem Ahh (h0:ilt 262144 (ofNat (BD s)) = false) (hp0:p0 (Es (onP 0 p0 (O0 s a k x) L)) (KJ s) = true):(A2 (An tab ⟨Aq tb41,onP 0 p0 (O0 s a k x) L,Gl⟩ Try.f63 [.str s] [])).sem = some ((.tup [.ref 0,iV 0,iV 0]),[.row 44 6 k x]):=Aa [false,true] [ilt 262144 (ofNat (BD s)),p0 (Es (onP 0 p0 (O0 s a k x) L)) (KJ s)] (by kernel_rfl) (by simp only [hp0] <;> simp only [h0] <;> rfl)
theorem Ahj (h0:ilt 262144 (ofNat (BD s)) = false) (hp0:p0 (Es (onP 0 p0 (PK s a k x) L)) (KJ s) = true):(A2 (An tab ⟨Aq tb41,onP 0 p0 (PK s a k x) L,Gl⟩ Try.f63 [.str s] [])).sem = some ((.tup [.ref 0,iV 30,nV a]),[.row 44 6 0 (λ_=>.und)]):=Aa [false,true] [ilt 262144 (ofNat (BD s)),p0 (Es (onP 0 p0 (PK s a k x) L)) (KJ s)] (by kernel_rfl) (by simp only [hp0] <;> simp only [h0] <;> rfl)
end
theorem Yy (L:LT) (s:List UInt8) (hs:s.length <= 262144) (a k:Nat) (x:Nat->V):∀ (q e:Nat) (j:Nat->V),s.length - e < q ->
  (A8 (Er L) (Do s) q (Nl s a k x e j)).sem = some (Gv s a k x (e+(B2 (s.drop e)).length))
 | 0,e,j,h=>absurd h (Nat.not_lt_zero _)
 | q+1,e,j,h=>by
  have hsl:BD s = s.length:=rfl
  rcases Nat.lt_or_ge e s.length with he | he
  ·have c0:ilt (ofNat e) (ofNat (BD s)) = true:=ofNat_lt he
   have c1:Af (ile 0 (ofNat e)) (ilt (ofNat e) (ofNat (BD s))) = true:=Ap he
   rw [F7 he]
   cases hb:GF s[e] with
   | true =>
    rw [show B2 (s[e] :: s.drop (e+1)) = [] by unfold B2; rw [List.takeWhile_cons_of_neg (by simp [hb])]]
    exact Ad (Aib L s a k x e j c0 c1 (by rw [MB he]; exact hb))
   | false =>
    rw [Ad (AhZ L s a k x e j c0 c1 (by rw [MB he]; exact hb)),Aw,Ao (n:=s.length) he (by omega)]
    have:=Yy L s hs a k x q (e+1) (λ_=>.und) (by omega)
    rw [show B2 (s[e] :: s.drop (e+1)) = s[e] :: B2 (s.drop (e+1)) by unfold B2; rw [List.takeWhile_cons_of_pos (by simp [hb])],List.length_cons,show e+((B2 (s.drop (e+1))).length+1) = e+1+(B2 (s.drop (e+1))).length by omega]
    exact this
  ·rw [List.drop_eq_nil_of_le he]
   exact Ad (Aia L s a k x e j (AF he))
theorem U9 (s:List UInt8) (a k:Nat) (x:Nat->V) (j:Nat->V):HN s a k x j = Nl s a k x a (λi=>nth (HN s a k x j).t i):=by kernel_rfl
theorem Yz (M:LT) (hMM:LLe M M) (s:List UInt8) (hs:s.length <= 262144) (m2:∀ f st,M 2 f st = A8 f (Do s) (BD s+1) st):∀ (q a:Nat) (acc:List E6) (j:Nat->V),s.length - a < q->a <= s.length->acc.length <= a ->
  ((CB q (s.drop a) a acc).2.1 = 0 ∧ (A8 (Es M) (FO s) q (Nm s a acc.length (E0 acc) j)).sem = some (O0 s 0 (CB q (s.drop a) a acc).1.length (E0 (CB q (s.drop a) a acc).1))) ∨
  ((CB q (s.drop a) a acc).2.1 = 30 ∧ (CB q (s.drop a) a acc).1 = [] ∧ (A8 (Es M) (FO s) q (Nm s a acc.length (E0 acc) j)).sem = some (PK s (CB q (s.drop a) a acc).2.2 (J8 q (s.drop a) acc).1.length (E0 (J8 q (s.drop a) acc).1)))
 | 0,a,acc,j,h,_,_=>absurd h (Nat.not_lt_zero _)
 | q+1,a,acc,j,h,ha,hk=>by
  have hsl:BD s = s.length:=rfl
  rcases Nat.lt_or_ge a s.length with he | he
  ·have c0:ilt (ofNat a) (ofNat (BD s)) = true:=ofNat_lt he
   have c1:Af (ile 0 (ofNat a)) (ilt (ofNat a) (ofNat (BD s))) = true:=Ap he
   cases hb:GF s[a] with
   | true =>
    have e1:CB (q+1) (s.drop a) a acc = CB q (s.drop (a+1)) (a+1) acc:=by rw [F7 he,Sn hb]
    have e2:J8 (q+1) (s.drop a) acc = J8 q (s.drop (a+1)) acc:=by rw [F7 he,J8,if_pos hb]
    rw [e1,e2,Ad (AhQ M s a acc.length (E0 acc) j c0 c1 (by rw [MB he]; exact hb)),Aw,Ao (n:=s.length) he (by omega)]
    exact Yz M hMM s hs m2 q (a+1) acc (λ_=>.und) (by omega) (by omega) (by omega)
   | false =>
    have c2:Du (It s a) = false:=by rw [MB he]; exact hb
    have hw0:0 < (B2 (s.drop a)).length:=by
     rw [F7 he]
     unfold B2
     rw [List.takeWhile_cons_of_pos (by simp [hb])]
     exact Nat.succ_pos _
    have hwl:=X5 (s.drop a)
    rw [List.length_drop] at hwl
    have hi:∀ M',(M 2 (Er M') (HN s a acc.length (E0 acc) j)).sem = some (Gv s a acc.length (E0 acc) (a+(B2 (s.drop a)).length)):=λM'=>by
     rw [m2,U9]
     exact Yy M' s hs a acc.length (E0 acc) (BD s+1) a _ (by omega)
    have hsub:If a (Ie (a+(B2 (s.drop a)).length) s) = B2 (s.drop a):=by
     show (s.take (a+(B2 (s.drop a)).length)).drop a = _
     rw [List.drop_take,show a+(B2 (s.drop a)).length - a = (B2 (s.drop a)).length by omega]
     exact (List.prefix_iff_eq_take.1 (List.takeWhile_prefix _)).symm
    have c3:Af (ile 0 (ofNat a)) (Af (ile (ofNat a) (ofNat (a+(B2 (s.drop a)).length))) (ile (ofNat (a+(B2 (s.drop a)).length)) (ofNat (BD s)))) = true:=by
     rw [AK,ile_nat,ile_nat,decide_eq_true (by omega),decide_eq_true (by omega)]
     rfl
    have e0:CB (q+1) (s.drop a) a acc = if Ej (B2 (s.drop a)) = 0 then CB q ((s.drop a).drop (B2 (s.drop a)).length) (a+(B2 (s.drop a)).length) (acc ++ [Fh (B2 (s.drop a))]) else ([],30,a):=by
     rw [F7 he,CB,if_neg (by rw [hb]; decide)]
    have e5:J8 (q+1) (s.drop a) acc = if Ej (B2 (s.drop a)) = 0 then J8 q ((s.drop a).drop (B2 (s.drop a)).length) (acc ++ [Fh (B2 (s.drop a))]) else (acc,Fh (B2 (s.drop a))):=by
     rw [F7 he,J8,if_neg (by rw [hb]; decide)]
    by_cases hp:Ej (B2 (s.drop a)) = 0
    ·have c4:ieq (Ej (If a (Ie (a+(B2 (s.drop a)).length) s))) 0 = true:=by rw [hsub,hp]; rfl
     have h9:(acc.length+1) * 40 <= 140737488355328:=by omega
     have h3:=AhN M _ s a acc.length (E0 acc) (a+(B2 (s.drop a)).length) j c0 c1 c2 c3 c4 (decide_eq_true h9) (Am (hi _))
     have h4:Aj (Es M) (FO s) (Nm s a acc.length (E0 acc) j) = _:=Dy (l:=FO s) (EU (Γ:=⟨Aq tb41,M,Gl⟩) (Az hMM hMM) (A1 Try.f63 0) 0 (Nm s a acc.length (E0 acc) j)) h3
     rw [if_pos hp,List.drop_drop] at e0 e5
     rw [e0,e5,Ad h4,Aw,hsub,WC]
     have ih:=Yz M hMM s hs m2 q (a+(B2 (s.drop a)).length) (acc ++ [Fh (B2 (s.drop a))]) (λ_=>.und) (by omega) (by omega) (by rw [List.length_append]; simp only [List.length_cons,List.length_nil]; omega)
     rw [show (acc ++ [Fh (B2 (s.drop a))]).length = acc.length+1 from List.length_append] at ih
     exact ih
    ·have c4:ieq (Ej (If a (Ie (a+(B2 (s.drop a)).length) s))) 0 = false:=by rw [hsub]; simp [ieq,hp]
     have h3:=AhO M _ s a acc.length (E0 acc) (a+(B2 (s.drop a)).length) j c0 c1 c2 c3 c4 (Am (hi _))
     have h4:Aj (Es M) (FO s) (Nm s a acc.length (E0 acc) j) = _:=Dy (l:=FO s) (EU (Γ:=⟨Aq tb41,M,Gl⟩) (Az hMM hMM) (A1 Try.f63 0) 0 (Nm s a acc.length (E0 acc) j)) h3
     rw [if_neg hp] at e0 e5
     rw [e0,e5]
     refine .inr ⟨rfl,rfl,?_⟩
     rw [Ad h4]
     rfl
  ·rw [List.drop_eq_nil_of_le he]
   exact .inl ⟨rfl,Ad (AhP M s a acc.length (E0 acc) j (AF he))⟩
theorem ZE (s:List UInt8):KJ s = Nm s 0 0 (λ_=>.und) (λi=>nth (KJ s).t i):=by kernel_rfl
theorem p41:AA Try.prog Gl 63 psT:=by
 refine A5 AQ AR Try.func63 (by kernel_rfl) (by kernel_rfl) λvs v h' h=>?_
 unfold psT at h
 split at h
 ·rename_i s
  have:=Ac h
  simp only [Prod.mk.injEq] at this
  obtain ⟨rfl,rfl⟩:=this
  have hx:=AS tb41_ok [(0,FO s),(2,Do s)]
  have hL:=AL [(0,FO s),(2,Do s)]
  cases hb:Aai s with
  | true =>
   have e1:psN s = 0:=by unfold psN psL; rw [hb]; rfl
   have e2:psE s = 2:=by unfold psE; rw [hb]; rfl
   have e3:psI s = 0:=by unfold psI; rw [hb]; rfl
   rw [e1,e2,e3]
   exact ⟨_,AT Gl tb41 [(0,FO s),(2,Do s)],_,BL.refl _,rfl,hx.1,hx.2,Ahi _ s hb,AE.one λj hj=>absurd hj (Nat.not_lt_zero _)⟩
  | false =>
   have hs:s.length <= 262144:=by
    unfold Aai at hb
    rw [show (262144:Int) = ofNat 262144 from rfl,CN] at hb
    have:=of_decide_eq_false hb
    have hsl:BD s = s.length:=rfl
    omega
   have e0:psL s = (psR s).1:=by unfold psL; rw [hb]; rfl
   have e2:psE s = (psR s).2.1:=by unfold psE; rw [hb]; rfl
   have e3:psI s = ofNat (psR s).2.2:=by unfold psI; rw [hb]; rfl
   have hg:ilt 262144 (ofNat (BD s)) = false:=hb
   have key:∀ M,LLe M M->(∀ f st,M 2 f st = A8 f (Do s) (BD s+1) st)->((psR s).2.1 = 0 ∧ (A8 (Es M) (FO s) (BD s+1) (KJ s)).sem = some (O0 s 0 (psR s).1.length (E0 (psR s).1))) ∨
     ((psR s).2.1 = 30 ∧ (psR s).1 = [] ∧ (A8 (Es M) (FO s) (BD s+1) (KJ s)).sem = some (PK s (psR s).2.2 (J8 (s.length+1) s []).1.length (E0 (J8 (s.length+1) s []).1))):=λM h1 h2=>by
    rw [ZE]
    exact Yz M h1 s hs h2 (s.length+1) 0 [] (λi=>nth (KJ s).t i) (by omega) (by omega) (Nat.le_refl _)
   have mm:∀ r,LLe (onP 0 (isP (AZ [(0,FO s),(2,Do s)]) 0 r) r (AZ [(0,FO s),(2,Do s)])) (onP 0 (isP (AZ [(0,FO s),(2,Do s)]) 0 r) r (AZ [(0,FO s),(2,Do s)])):=λr=>Agq hL 0 r
   rw [e2,e3]
   unfold psN psG
   rw [e0]
   by_cases hok:(psR s).2.1 = 0
   ·have hat:(psR s).2.2 = 0:=N7 _ _ _ _ hok
    have hw:=A6 (Az hL hL) _ (Ahh (AZ [(0,FO s),(2,Do s)]) _ s 0 (psR s).1.length (E0 (psR s).1) hg (Am (by
     rcases key _ (mm (O0 s 0 (psR s).1.length (E0 (psR s).1))) (λ_ _=>rfl) with ⟨_,h2⟩ | ⟨h1,_⟩
     ·exact h2
     ·rw [hok] at h1; cases h1)))
    rw [hok,hat]
    exact ⟨_,AT Gl tb41 [(0,FO s),(2,Do s)],_,BL.refl _,rfl,hx.1,hx.2,hw,AE.one λj hj=>(I0 (λi=>eV (L9 (psR s).1 i)) (psR s).1.length j hj).symm⟩
   ·have hno:(psR s).2.1 = 30 ∧ (psR s).1 = []:=by
     rcases key _ (mm (O0 s 0 0 (E0 []))) (λ_ _=>rfl) with ⟨h1,_⟩ | ⟨h1,h2,_⟩
     ·exact absurd h1 hok
     ·exact ⟨h1,h2⟩
    have hw:=A6 (Az hL hL) _ (Ahj (AZ [(0,FO s),(2,Do s)]) _ s (psR s).2.2 (J8 (s.length+1) s []).1.length (E0 (J8 (s.length+1) s []).1) hg (Am (by
     rcases key _ (mm (PK s (psR s).2.2 (J8 (s.length+1) s []).1.length (E0 (J8 (s.length+1) s []).1))) (λ_ _=>rfl) with ⟨h1,_⟩ | ⟨_,_,h3⟩
     ·exact absurd h1 hok
     ·exact h3)))
    rw [hno.1,hno.2]
    exact ⟨_,AT Gl tb41 [(0,FO s),(2,Do s)],_,BL.refl _,rfl,hx.1,hx.2,hw,AE.one λj hj=>absurd hj (Nat.not_lt_zero _)⟩
 ·cases h
end Go.Proofs.Ytjhnfomefcngfaa.Ed
namespace Go.Proofs.Ytjhnfomefcngfaa.Sh
open Go.Sy Ed
open Int (ofNat)
set_option maxRecDepth 4000
def Akr:List UInt8:=[120,121,122,97,98,99,100,101,102,103,104,105,106,107,108,109]
def FZ (x:Int):Int:=bif bor (ilt x 0) (ile 16 x) then 4 else 0
def Bn (x:Int):List UInt8:=bif bor (ilt x 0) (ile 16 x) then [] else [Akr.getD x.toNat 0]
def AbB:List V->T (V × List Blk)
 | [.val (.int .i64 x)]=>.leaf (.tup [.str (Bn x),iV (FZ x)],[])
 | _=>.fail
section
variable (L:LT) (x:Int)
include L x
theorem AjM (h0:ilt x 0 = true):(A2 (An tab ⟨Aq tb0,L,Gl⟩ Try.f37 [iV x] [])).sem = some ((.tup [.str [],iV 4]),[]):=Aa [true,true,true,true] [ilt x 0,ilt x 0,ilt x 0,true] (by kernel_rfl) (by simp only [h0] <;> rfl)
theorem AjN (h0:ilt x 0 = false) (h1:ile 16 x = true):(A2 (An tab ⟨Aq tb0,L,Gl⟩ Try.f37 [iV x] [])).sem = some ((.tup [.str [],iV 4]),[]):=Aa [false,false,false,true] [ilt x 0,ilt x 0,ilt x 0,ile 16 x] (by kernel_rfl) (by simp only [h0,h1] <;> rfl)
end
theorem AbL:(A2 (An tab (AT Gl tb0 []) Try.f37 [nV 0] [])).sem = some (.tup [.str (Bn (ofNat 0)),iV (FZ (ofNat 0))],[]):=by kernel_rfl
theorem AbK:(A2 (An tab (AT Gl tb0 []) Try.f37 [nV 1] [])).sem = some (.tup [.str (Bn (ofNat 1)),iV (FZ (ofNat 1))],[]):=by kernel_rfl
theorem AbJ:(A2 (An tab (AT Gl tb0 []) Try.f37 [nV 2] [])).sem = some (.tup [.str (Bn (ofNat 2)),iV (FZ (ofNat 2))],[]):=by kernel_rfl
theorem AbI:(A2 (An tab (AT Gl tb0 []) Try.f37 [nV 3] [])).sem = some (.tup [.str (Bn (ofNat 3)),iV (FZ (ofNat 3))],[]):=by kernel_rfl
theorem AbH:(A2 (An tab (AT Gl tb0 []) Try.f37 [nV 4] [])).sem = some (.tup [.str (Bn (ofNat 4)),iV (FZ (ofNat 4))],[]):=by kernel_rfl
theorem AbG:(A2 (An tab (AT Gl tb0 []) Try.f37 [nV 5] [])).sem = some (.tup [.str (Bn (ofNat 5)),iV (FZ (ofNat 5))],[]):=by kernel_rfl
theorem AbF:(A2 (An tab (AT Gl tb0 []) Try.f37 [nV 6] [])).sem = some (.tup [.str (Bn (ofNat 6)),iV (FZ (ofNat 6))],[]):=by kernel_rfl
theorem AbE:(A2 (An tab (AT Gl tb0 []) Try.f37 [nV 7] [])).sem = some (.tup [.str (Bn (ofNat 7)),iV (FZ (ofNat 7))],[]):=by kernel_rfl
theorem AbD:(A2 (An tab (AT Gl tb0 []) Try.f37 [nV 8] [])).sem = some (.tup [.str (Bn (ofNat 8)),iV (FZ (ofNat 8))],[]):=by kernel_rfl
theorem AbC:(A2 (An tab (AT Gl tb0 []) Try.f37 [nV 9] [])).sem = some (.tup [.str (Bn (ofNat 9)),iV (FZ (ofNat 9))],[]):=by kernel_rfl
theorem Zd:(A2 (An tab (AT Gl tb0 []) Try.f37 [nV 10] [])).sem = some (.tup [.str (Bn (ofNat 10)),iV (FZ (ofNat 10))],[]):=by kernel_rfl
theorem Zc:(A2 (An tab (AT Gl tb0 []) Try.f37 [nV 11] [])).sem = some (.tup [.str (Bn (ofNat 11)),iV (FZ (ofNat 11))],[]):=by kernel_rfl
theorem Zb:(A2 (An tab (AT Gl tb0 []) Try.f37 [nV 12] [])).sem = some (.tup [.str (Bn (ofNat 12)),iV (FZ (ofNat 12))],[]):=by kernel_rfl
theorem Za:(A2 (An tab (AT Gl tb0 []) Try.f37 [nV 13] [])).sem = some (.tup [.str (Bn (ofNat 13)),iV (FZ (ofNat 13))],[]):=by kernel_rfl
theorem YZ:(A2 (An tab (AT Gl tb0 []) Try.f37 [nV 14] [])).sem = some (.tup [.str (Bn (ofNat 14)),iV (FZ (ofNat 14))],[]):=by kernel_rfl
theorem YY:(A2 (An tab (AT Gl tb0 []) Try.f37 [nV 15] [])).sem = some (.tup [.str (Bn (ofNat 15)),iV (FZ (ofNat 15))],[]):=by kernel_rfl
theorem AiT (k:Nat) (hk:k < 16):(A2 (An tab (AT Gl tb0 []) Try.f37 [nV k] [])).sem = some (.tup [.str (Bn (ofNat k)),iV (FZ (ofNat k))],[]):=by
 have:k = 0 ∨ k = 1 ∨ k = 2 ∨ k = 3 ∨ k = 4 ∨ k = 5 ∨ k = 6 ∨ k = 7 ∨ k = 8 ∨ k = 9 ∨ k = 10 ∨ k = 11 ∨ k = 12 ∨ k = 13 ∨ k = 14 ∨ k = 15:=by omega
 rcases this with rfl | rfl | rfl | rfl | rfl | rfl | rfl | rfl | rfl | rfl | rfl | rfl | rfl | rfl | rfl | rfl
 ·exact AbL
 ·exact AbK
 ·exact AbJ
 ·exact AbI
 ·exact AbH
 ·exact AbG
 ·exact AbF
 ·exact AbE
 ·exact AbD
 ·exact AbC
 ·exact Zd
 ·exact Zc
 ·exact Zb
 ·exact Za
 ·exact YZ
 ·exact YY
theorem p37:AA Try.prog Gl 37 AbB:=by
 refine AA.congr (AO AQ AR Try.func37 (by kernel_rfl) (by kernel_rfl) (Γ:=AT Gl tb0 []) (AS Ee [])) λvs r h=>?_
 unfold AbB at h
 split at h
 ·rename_i x
  rw [Ac h]
  show (A2 (An tab (AT Gl tb0 []) Try.f37 [iV x] [])).sem = _
  cases c0:ilt x 0 with
  | true =>
   rw [show Bn x = [] by unfold Bn bor; rw [c0]; rfl,show FZ x = 4 by unfold FZ bor; rw [c0]; rfl]
   exact AjM _ x c0
  | false =>
   cases c1:ile 16 x with
   | true =>
    rw [show Bn x = [] by unfold Bn bor; rw [c0,c1]; rfl,show FZ x = 4 by unfold FZ bor; rw [c0,c1]; rfl]
    exact AjN _ x c0 c1
   | false =>
    have h1:¬ x < 0:=of_decide_eq_false c0
    have h2:¬ (16:Int) <= x:=of_decide_eq_false c1
    obtain ⟨k,rfl⟩:∃ k:Nat,x = ofNat k:=⟨x.toNat,by simp only [Int.ofNat_eq_natCast]; omega⟩
    exact AiT k (by simp only [Int.ofNat_eq_natCast] at h2; omega)
 ·cases h
end Go.Proofs.Ytjhnfomefcngfaa.Sh
