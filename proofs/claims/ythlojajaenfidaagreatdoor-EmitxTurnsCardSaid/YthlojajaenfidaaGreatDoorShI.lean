/-
  Layer 7: whether lists of numbers, lists of these, shapes are the same. No conditions.
-/
import Derived.Test.YthlojajaenfidaaGreatDoorShF
import Derived.Test.YthlojajaenfidaaGreatDoorCyT
import Derived.Test.YthlojajaenfidaaGreatDoorShW
namespace Go.Proofs.YthlojajaenfidaaGreatDoor.Sh
open Go.Sy Ed
open Int (ofNat)
set_option maxHeartbeats 1000000
set_option maxRecDepth 4000
theorem Kc {n:Nat} (h:Ao n = true):n <= 4611686018427387904:=of_decide_eq_true h
theorem B0 {a b:Bool} (h:a = true):Al a b = b:=by rw [h]; rfl
theorem Gr {a b:Bool} (h:a = false):Al a b = false:=by rw [h]; rfl
theorem G8 {n m:Nat} (h:ieq (ofNat n) (ofNat m) = true):n = m:=by
 rw [Df] at h
 exact of_decide_eq_true h
def D8 (n:Nat) (f:Nat->Int) (m:Nat) (g:Nat->Int):Bool:=Al (ieq (ofNat n) (ofNat m)) (AJ n λk=>ieq (f k) (g k))
def QG:List V->T (V × List Blk)
 | [v,u]=>apG TD v λn f=>apG TD u λm g=>.br (Ao n) (.leaf (bV (D8 n f m g),[])) .fail
 | _=>.fail
def HC (n:Nat) (ln:Nat->Nat) (co:Nat->Nat->Int) (m:Nat) (ln':Nat->Nat) (co':Nat->Nat->Int):Bool:=Al (ieq (ofNat n) (ofNat m)) (AJ n λk=>D8 (ln k) (co k) (ln' k) (co' k))
def G2 (e e':Ev5):Bool:=Al (ieq e.th e'.th) (Al (ieq e.pl e'.pl) (Al (ieq e.dir e'.dir) (Al (ieq e.loc e'.loc) (Al (ieq e.val e'.val) true))))
def N2 (s s':Sh7):Bool:=Al (ieq s.arch s'.arch) (Al (ieq s.tt s'.tt) (Al (ieq s.kk s'.kk) (Al (DT s.ne s.E s'.ne s'.E) (Al (ieq (ofNat s.nx) (ofNat s'.nx)) (Al (D8 s.nr s.R s'.nr s'.R)
 (Al (HC s.nc (λi=>(s.C i).1) (λi=>(s.C i).2) s'.nc (λi=>(s'.C i).1) (λi=>(s'.C i).2)) (AJ s.nx λk=>G2 (s.X k) (s'.X k))))))))
def Cm (s:Sh7):Bool:=Al (Ao s.ne) (Al (Ao s.nx) (Al (Ao s.nr) (Al (Ao s.nc) (AJ s.nc λi=>Ao (s.C i).1))))
def U2:List V->T (V × List Blk)
 | [v,u]=>apS v λs=>apS u λs'=>.br (Cm s) (.leaf (bV (N2 s s'),[])) .fail
 | _=>.fail
end Go.Proofs.YthlojajaenfidaaGreatDoor.Sh
namespace Go.Proofs.YthlojajaenfidaaGreatDoor.Ed
open Go.Sy Go
def Gq (c:UInt8):Bool:=c == 32 || c == 9 || c == 10 || c == 13
def ER (x:Int):Bool:=bor (ieq x 32) (bor (ieq x 9) (bor (ieq x 10) (ieq x 13)))
theorem MW (c:UInt8) (n:Nat) (hn:n < 256):ieq ((c.toNat:Nat):Int) (n:Int) = (c == UInt8.ofNat n):=by
 rw [Bool.eq_iff_iff]
 simp only [ieq,beq_iff_eq]
 constructor
 ·intro h
  apply UInt8.toNat_inj.1
  rw [UInt8.toNat_ofNat_of_lt' (by simpa using hn)]
  omega
 ·intro h
  rw [h,UInt8.toNat_ofNat_of_lt' (by simpa using hn)]
theorem AbM (c:UInt8):ER ((c.toNat:Nat):Int) = Gq c:=by
 unfold ER Gq bor
 have h1:=MW c 32 (by decide)
 have h2:=MW c 9 (by decide)
 have h3:=MW c 10 (by decide)
 have h4:=MW c 13 (by decide)
 have h1:ieq ((c.toNat:Nat):Int) 32 = (c == 32):=h1
 have h2:ieq ((c.toNat:Nat):Int) 9 = (c == 9):=h2
 have h3:ieq ((c.toNat:Nat):Int) 10 = (c == 10):=h3
 have h4:ieq ((c.toNat:Nat):Int) 13 = (c == 13):=h4
 rw [h1,h2,h3,h4]
 cases (c == 32) <;> cases (c == 9) <;> cases (c == 10) <;> rfl
def B1 (l:List UInt8):List UInt8:=l.takeWhile λc=>!Gq c
def Cz:Nat->List UInt8->Nat->List E6->List E6 × Int × Nat
 | 0,_,_,acc=>(acc,0,0)
 | _+1,[],_,acc=>(acc,0,0)
 | q+1,c :: l,a,acc =>
  if Gq c = true then Cz q l (a+1) acc
  else if EK (B1 (c :: l)) = 0 then Cz q ((c :: l).drop (B1 (c :: l)).length) (a+(B1 (c :: l)).length) (acc ++ [EL (B1 (c :: l))])
  else ([],30,a)
theorem SG {b:UInt8} (hb:Gq b = true) (l:List UInt8) (q a:Nat) (acc:List E6):Cz (q+1) (b :: l) a acc = Cz q l (a+1) acc:=by
 rw [Cz,if_pos hb]
theorem YK (l:List UInt8):(B1 l).length <= l.length:=by
 induction l with
 | nil=>exact Nat.le_refl _
 | cons c l ih =>
  unfold B1 at ih ⊢
  cases hc:Gq c with
  | true=>rw [List.takeWhile_cons_of_neg (by simp [hc])]; exact Nat.zero_le _
  | false =>
   rw [List.takeWhile_cons_of_pos (by simp [hc])]
   simp only [List.length_cons]
   omega
section
variable (L:LT) (x:Int)
include L x
theorem Ajc (h0:ieq x 32 = true):(Au (Ah tab ⟨Ak tb0,L,Gl⟩ Tryz.f52 [.val (.int .u8 x)] [])).sem = some ((bV true),[]):=by
 exact Aa (ks:=[kn h0,kn h0,kn h0,kT,kT,kT,kT,kT,kT]) (by kernel_rfl)
theorem Ajb (h0:ieq x 32 = false) (h1:ieq x 9 = true):(Au (Ah tab ⟨Ak tb0,L,Gl⟩ Tryz.f52 [.val (.int .u8 x)] [])).sem = some ((bV true),[]):=by
 exact Aa (ks:=[kn h0,kn h0,kn h0,kn h1,kn h1,kn h1,kT,kT,kT]) (by kernel_rfl)
theorem Aja (h0:ieq x 32 = false) (h1:ieq x 9 = false) (h2:ieq x 10 = true):(Au (Ah tab ⟨Ak tb0,L,Gl⟩ Tryz.f52 [.val (.int .u8 x)] [])).sem = some ((bV true),[]):=by
 exact Aa (ks:=[kn h0,kn h0,kn h0,kn h1,kn h1,kn h1,kn h2,kn h2,kn h2]) (by kernel_rfl)
theorem AiZ (h0:ieq x 32 = false) (h1:ieq x 9 = false) (h2:ieq x 10 = false):(Au (Ah tab ⟨Ak tb0,L,Gl⟩ Tryz.f52 [.val (.int .u8 x)] [])).sem = some ((bV (ieq x 13)),[]):=by
 exact Aa (ks:=[kn h0,kn h0,kn h0,kn h1,kn h1,kn h1,kn h2,kn h2,kn h2]) (by kernel_rfl)
end
def VN:List V->T (V × List Blk)
 | [.val (.int .u8 x)]=>out (bV (ER x))
 | _=>.fail
theorem AdI {α:Type} {l:List α} {i:Nat} {d:α} (h:i < l.length):l.getD i d = l[i]:=by simp [List.getD,h]
theorem Fm {s:List UInt8} {a:Nat} (h:a < s.length):s.drop a = s[a] :: s.drop (a+1):=List.drop_eq_getElem_cons h
theorem MF {s:List UInt8} {a:Nat} (h:a < s.length):ER (DW s a) = Gq s[a]:=by
 unfold DW
 rw [AdI h]
 exact AbM _
def LN (l:List E6) (i:Nat):E6:=l.getD i Ft
theorem Tn {l:List E6} {e:E6} {i:Nat} (h:i < l.length+1):LN (l ++ [e]) i = if i = l.length then e else LN l i:=by
 unfold LN
 by_cases hi:i = l.length
 ·rw [if_pos hi,hi]; simp
 ·rw [if_neg hi]
  simp only [List.getD,List.getElem?_append_left (show i < l.length by omega)]
def DX (acc:List E6):Nat->V:=BA (λi=>eV (LN acc i)) acc.length
theorem Mn {g g':Nat->V}:∀ n,(∀ i,i < n->g i = g' i)->BA g n = BA g' n
 | 0,_=>rfl
 | n+1,h=>by
  show A2 n (BA g n) (g n) = A2 n (BA g' n) (g' n)
  rw [h n (Nat.lt_succ_self n),Mn n λi hi=>h i (by omega)]
theorem XK (acc:List E6) (e:E6):A2 acc.length (DX acc) (eV e) = DX (acc ++ [e]):=by
 have h1:DX (acc ++ [e]) = BA (λi=>eV (LN (acc ++ [e]) i)) (acc.length+1):=by
  unfold DX
  rw [List.length_append]
  rfl
 rw [h1]
 show _ = A2 acc.length (BA (λi=>eV (LN (acc ++ [e]) i)) acc.length) (eV (LN (acc ++ [e]) acc.length))
 rw [Tn (Nat.lt_succ_self _),if_pos rfl]
 unfold DX
 rw [Mn (g:=λi=>eV (LN (acc ++ [e]) i)) (g':=λi=>eV (LN acc i)) acc.length λi hi=>by
  show eV (LN (acc ++ [e]) i) = eV (LN acc i)
  rw [Tn (by omega),if_neg (by omega)]]
def Jf:Nat->List UInt8->List E6->List E6 × E6
 | 0,_,acc=>(acc,Ft)
 | _+1,[],acc=>(acc,Ft)
 | q+1,c :: l,acc =>
  if Gq c = true then Jf q l acc
  else if EK (B1 (c :: l)) = 0 then Jf q ((c :: l).drop (B1 (c :: l)).length) (acc ++ [EL (B1 (c :: l))])
  else (acc,EL (B1 (c :: l)))
def AbN (s:List UInt8):Bool:=ilt 262144 (Int.ofNat (Bq s))
def psR (s:List UInt8):List E6 × Int × Nat:=Cz (s.length+1) s 0 []
def psL (s:List UInt8):List E6:=bif AbN s then [] else (psR s).1
def psE (s:List UInt8):Int:=bif AbN s then 2 else (psR s).2.1
def psI (s:List UInt8):Int:=bif AbN s then 0 else Int.ofNat (psR s).2.2
def psN (s:List UInt8):Nat:=(psL s).length
def psG (s:List UInt8) (i:Nat):E6:=LN (psL s) i
def psT:List V->T (V × List Blk)
 | [.str s]=>.leaf (.tup [.ref 0,iV (psE s),iV (psI s)],[.row 57 6 (psN s) λi=>eV (psG s i)])
 | _=>.fail
theorem NH:∀ (q:Nat) (l:List UInt8) (a:Nat) (acc:List E6),(Cz q l a acc).2.1 = 0->(Cz q l a acc).2.2 = 0
 | 0,_,_,_,_=>rfl
 | q+1,[],_,_,_=>rfl
 | q+1,c :: l,a,acc,h=>by
  rw [Cz] at h ⊢
  split
  ·rename_i hc
   rw [if_pos hc] at h
   exact NH q _ _ _ h
  ·rename_i hc
   rw [if_neg hc] at h
   split
   ·rename_i hp
    rw [if_pos hp] at h
    exact NH q _ _ _ h
   ·rename_i hp
    rw [if_neg hp] at h
    cases h
theorem Air {L:LT} (hL:LLe L L) (k:Nat) (r:Ex × St):LLe (onP k (isP L k r) r L) (onP k (isP L k r) r L):=λid f f' st hf r' hr=>by
 unfold onP at hr ⊢
 cases hk:Nat.beq id k with
 | true =>
  rw [hk] at hr
  obtain ⟨h1,h2⟩:=Ad hr
  unfold isP at h1
  have h1:=@of_decide_eq_true _ (Classical.propDecidable _) h1
  have h3:isP L k r f' st = true:=Ai (hL k f f' st hf _ h1)
  show sel (isP L k r f' st) _ _ = _
  rw [h3]
  exact h2
 | false =>
  rw [hk] at hr
  exact hL id f f' st hf _ hr
end Go.Proofs.YthlojajaenfidaaGreatDoor.Ed
namespace Go.Proofs.YthlojajaenfidaaGreatDoor.Ed
open Go.Sy Go
open Int (ofNat)
theorem e84 (Γ:Cx) (vs:List V) (h:List Blk):Ah tab Γ Tryz.f52 vs h = Ah tab Γ Tryz.f52 vs h:=by kernel_rfl
theorem p84:A6 Tryz.prog Gl 52 VN:=by
 refine Av AI mixed Tryz.func52 (by kernel_rfl) (by kernel_rfl) λvs v h' h=>?_
 unfold VN at h
 split at h
 ·rename_i x
  have:=Ac h
  simp only [Prod.mk.injEq] at this
  obtain ⟨rfl,rfl⟩:=this
  have hx:=AK Dn []
  refine ⟨_,AN Gl tb0 [],_,Bm.refl _,rfl,hx.1,hx.2,?_,A0.refl _⟩
  rw [e84]
  unfold ER
  cases c1:ieq x 32 with
  | true=>exact Ajc _ x c1
  | false =>
   cases c2:ieq x 9 with
   | true=>exact Ajb _ x c1 c2
   | false =>
    cases c3:ieq x 10 with
    | true=>exact Aja _ x c1 c2 c3
    | false=>exact AiZ _ x c1 c2 c3
 ·cases h
noncomputable def tb41:List (Nat × (List V->T (V × List Blk))):=(52,VN) :: (53,RW UP) :: []
theorem tb41_ok:A8 Tryz.prog Gl tb41:=.cons p84 <| .cons p22 .nil
def T2 (s:List UInt8) (a k:Nat) (x:Nat->V):Ex × St:=(.rt,⟨(jsV 56 0 (λ_=>.und) [(2,.ref 1),(3,iV 30),(4,nV a),(6,.ref 2)]),[.row 57 6 0 (λ_=>.und),.row 57 6 0 (λ_=>.und),.row 57 6 k x]⟩)
def CS (s:List UInt8):Lp:=⟨(bmK 56 0 [0,2,3,4,5,6,7,8]),3,bmK 56 0 [0,2,3,4,5,6,7,8],3,Bq s+1⟩
def Nq (s:List UInt8) (a k:Nat) (x:Nat->V) (e:Nat) (j:Nat->V):St:=⟨(jsV 56 0 j [(0,.str s),(2,.ref 0),(3,iV 0),(4,iV 0),(5,.ref 1),(6,.ref 2),(7,nV e),(8,nV a)]),[.row 57 6 0 (λ_=>.und),.row 57 6 0 (λ_=>.und),.row 57 6 k x]⟩
def IQ (s:List UInt8) (a k:Nat) (x:Nat->V) (e:Nat):Ex × St:=(.ex 2,⟨(jsV 56 0 (λ_=>.und) [(0,.str s),(2,.ref 0),(3,iV 0),(4,iV 0),(5,.ref 1),(6,.ref 2),(7,nV e),(8,nV a)]),[.row 57 6 0 (λ_=>.und),.row 57 6 0 (λ_=>.und),.row 57 6 k x]⟩)
noncomputable def F7 (L:LT):St->T (Ex × St):=λst=>AD tab ⟨Ak tb41,L,Gl⟩ (As Tryz.f24 2) 2 st
section
variable (L:LT) (s:List UInt8) (a k:Nat) (x:Nat->V) (e:Nat)  (j:Nat->V)
include L s a k x e j
theorem Akj (h0:ilt (ofNat e) (ofNat (Bq s)) = false):Ag (F7 L) (CS s) (Nq s a k x e j) = some ((.ex 2),⟨(jsV 56 0 (λ_=>.und) [(0,(.str s)),(2,(.ref 0)),(3,(iV 0)),(4,(iV 0)),(5,(.ref 1)),(6,(.ref 2)),(7,(nV e)),(8,(nV a))]),[(.row 57 6 0 (λ_=>.und)),(.row 57 6 0 (λ_=>.und)),(.row 57 6 k x)]⟩):=by
 exact Aa (ks:=[kn h0,kn h0,kn h0,kn h0,kn h0,kn h0,kF]) (by kernel_rfl)
theorem Akk (h0:ilt (ofNat e) (ofNat (Bq s)) = true) (h1:Al (ile 0 (ofNat e)) (ilt (ofNat e) (ofNat (Bq s))) = true) (h2:ER (DW s e) = true):Ag (F7 L) (CS s) (Nq s a k x e j) = some ((.ex 2),⟨(jsV 56 0 (λ_=>.und) [(0,(.str s)),(2,(.ref 0)),(3,(iV 0)),(4,(iV 0)),(5,(.ref 1)),(6,(.ref 2)),(7,(nV e)),(8,(nV a))]),[(.row 57 6 0 (λ_=>.und)),(.row 57 6 0 (λ_=>.und)),(.row 57 6 k x)]⟩):=by
 exact Aa (ks:=[kn h0,kn h0,kn h0,kn h1,kn h0,kn h0,kn h0,kN (kn h2)]) (by kernel_rfl)
theorem Aki (h0:ilt (ofNat e) (ofNat (Bq s)) = true) (h1:Al (ile 0 (ofNat e)) (ilt (ofNat e) (ofNat (Bq s))) = true) (h2:ER (DW s e) = false):Ag (F7 L) (CS s) (Nq s a k x e j) = some (.nm,⟨(jsV 56 0 (λ_=>.und) [(0,(.str s)),(2,(.ref 0)),(3,(iV 0)),(4,(iV 0)),(5,(.ref 1)),(6,(.ref 2)),(7,(iV (wr .i64 (Af (ofNat e) 1)))),(8,(nV a))]),[(.row 57 6 0 (λ_=>.und)),(.row 57 6 0 (λ_=>.und)),(.row 57 6 k x)]⟩):=by
 exact Aa (ks:=[kn h0,kn h0,kn h0,kn h1,kn h0,kn h0,kn h0,kN (kn h2)]) (by kernel_rfl)
end
def F2 (s:List UInt8):Lp:=⟨(bmK 56 0 [0,2,3,4,5,6,7]),3,bmK 56 0 [2,3,4,6],3,Bq s+1⟩
def Nr (s:List UInt8) (a k:Nat) (x:Nat->V) (j:Nat->V):St:=⟨(jsV 56 0 j [(0,.str s),(2,.ref 0),(3,iV 0),(4,iV 0),(5,.ref 1),(6,.ref 2),(7,nV a)]),[.row 57 6 0 (λ_=>.und),.row 57 6 0 (λ_=>.und),.row 57 6 k x]⟩
def PX (s:List UInt8) (a k:Nat) (x:Nat->V):Ex × St:=(.ex 0,⟨(jsV 56 0 (λ_=>.und) [(2,.ref 0),(3,iV 0),(4,iV 0),(6,.ref 2)]),[.row 57 6 0 (λ_=>.und),.row 57 6 0 (λ_=>.und),.row 57 6 k x]⟩)
noncomputable def EQ (L:LT):St->T (Ex × St):=λst=>AD tab ⟨Ak tb41,L,Gl⟩ (As Tryz.f24 0) 0 st
section
variable (L:LT) (s:List UInt8) (a k:Nat) (x:Nat->V)  (j:Nat->V)
include L s a k x j
theorem AjY (h0:ilt (ofNat a) (ofNat (Bq s)) = false):Ag (EQ L) (F2 s) (Nr s a k x j) = some ((.ex 0),⟨(jsV 56 0 (λ_=>.und) [(2,(.ref 0)),(3,(iV 0)),(4,(iV 0)),(6,(.ref 2))]),[(.row 57 6 0 (λ_=>.und)),(.row 57 6 0 (λ_=>.und)),(.row 57 6 k x)]⟩):=by
 exact Aa (ks:=[kn h0]) (by kernel_rfl)
theorem AjZ (h0:ilt (ofNat a) (ofNat (Bq s)) = true) (h1:Al (ile 0 (ofNat a)) (ilt (ofNat a) (ofNat (Bq s))) = true) (h2:ER (DW s a) = true):Ag (EQ L) (F2 s) (Nr s a k x j) = some (.nm,⟨(jsV 56 0 (λ_=>.und) [(0,(.str s)),(2,(.ref 0)),(3,(iV 0)),(4,(iV 0)),(5,(.ref 1)),(6,(.ref 2)),(7,(iV (wr .i64 (Af (ofNat a) 1))))]),[(.row 57 6 0 (λ_=>.und)),(.row 57 6 0 (λ_=>.und)),(.row 57 6 k x)]⟩):=by
 exact Aa (ks:=[kn h0,kn h1,kn h2]) (by kernel_rfl)
end
def KA (s:List UInt8) (a k:Nat) (x:Nat->V) (j:Nat->V):St:=⟨(jsV 56 0 j [(0,(.str s)),(2,(.ref 0)),(3,(iV 0)),(4,(iV 0)),(5,(.ref 1)),(6,(.ref 2)),(7,(nV a)),(8,(nV a)),(15,(nV a)),(16,(.str s)),(17,(iV (ofNat (Bq s)))),(18,(bV (ilt (ofNat a) (ofNat (Bq s))))),(19,(.str s)),(20,(nV a)),(21,(.val (Value.int IntKind.u8 (DW s a)))),(22,(bV (ER (DW s a)))),(25,(nV a))]),[.row 57 6 0 (λ_=>.und),.row 57 6 0 (λ_=>.und),.row 57 6 k x]⟩
section
variable (L:LT) (p2:PT) (s:List UInt8) (a k:Nat) (x:Nat->V) (e:Nat) (j:Nat->V)
include L p2 s a k x e j
theorem AjW (h0:ilt (ofNat a) (ofNat (Bq s)) = true) (h1:Al (ile 0 (ofNat a)) (ilt (ofNat a) (ofNat (Bq s))) = true) (h2:ER (DW s a) = false) (h3:Al (ile 0 (ofNat a)) (Al (ile (ofNat a) (ofNat e)) (ile (ofNat e) (ofNat (Bq s)))) = true) (h4:ieq (EK (Jm a (Ji e s))) 0 = true) (h5:Bx k 1 40 = true) (hp2:p2 (F7 (onP 2 p2 (IQ s a k x e) L)) (KA s a k x j) = true):Ag (EQ (onP 2 p2 (IQ s a k x e) L)) (F2 s) (Nr s a k x j) = some (.nm,⟨(jsV 56 0 (λ_=>.und) [(0,(.str s)),(2,(.ref 0)),(3,(iV 0)),(4,(iV 0)),(5,(.ref 1)),(6,(.ref 2)),(7,(nV e))]),[(.row 57 6 0 (λ_=>.und)),(.row 57 6 0 (λ_=>.und)),(.row 57 6 (Bd k 1) (A2 k x (eV (EL (Jm a (Ji e s))))))]⟩):=by
 exact Aa (ks:=[kn h0,kn h1,kn h2,kn hp2,kn h3,kN (kn h4),kn h5]) (by kernel_rfl)
theorem AjX (h0:ilt (ofNat a) (ofNat (Bq s)) = true) (h1:Al (ile 0 (ofNat a)) (ilt (ofNat a) (ofNat (Bq s))) = true) (h2:ER (DW s a) = false) (h3:Al (ile 0 (ofNat a)) (Al (ile (ofNat a) (ofNat e)) (ile (ofNat e) (ofNat (Bq s)))) = true) (h4:ieq (EK (Jm a (Ji e s))) 0 = false) (hp2:p2 (F7 (onP 2 p2 (IQ s a k x e) L)) (KA s a k x j) = true):Ag (EQ (onP 2 p2 (IQ s a k x e) L)) (F2 s) (Nr s a k x j) = some (.rt,⟨(jsV 56 0 (λ_=>.und) [(2,(.ref 1)),(3,(iV 30)),(4,(nV a)),(6,(.ref 2))]),[(.row 57 6 0 (λ_=>.und)),(.row 57 6 0 (λ_=>.und)),(.row 57 6 k x)]⟩):=by
 exact Aa (ks:=[kn h0,kn h1,kn h2,kn hp2,kn h3,kN (kn h4)]) (by kernel_rfl)
end
def O1 (s:List UInt8) :St:=⟨(jsV 56 0 (λ_=>A7) [(0,(.str s)),(2,(.ref 0)),(3,(iV 0)),(4,(iV 0)),(5,(.ref 1)),(6,(.ref 2)),(7,(iV 0)),(11,(.str s)),(12,(iV (ofNat (Bq s)))),(13,(bV (ilt 262144 (ofNat (Bq s)))))]),[.row 57 6 0 (λ_=>.und),.row 57 6 0 (λ_=>.und),.row 57 6 0 (λ_=>.und)]⟩
theorem Ajq (L:LT) (s:List UInt8) (h0:ilt 262144 (ofNat (Bq s)) = true):(Au (Ah tab ⟨Ak tb41,L,Gl⟩ Tryz.f24 [.str s] [])).sem = some ((.tup [(.ref 0),(iV 2),(iV 0)]),[(.row 57 6 0 (λ_=>.und))]):=by
 exact Aa (ks:=[kn h0]) (by kernel_rfl)
section
variable (L:LT) (p0:PT) (s:List UInt8) (a k:Nat) (x:Nat->V)
include L p0 s a k x
theorem Ajp (h0:ilt 262144 (ofNat (Bq s)) = false) (hp0:p0 (EQ (onP 0 p0 (PX s a k x) L)) (O1 s) = true):(Au (Ah tab ⟨Ak tb41,(onP 0 p0 (PX s a k x) L),Gl⟩ Tryz.f24 [.str s] [])).sem = some ((.tup [(.ref 0),(iV 0),(iV 0)]),[(.row 57 6 k x)]):=by
 exact Aa (ks:=[kn h0,kn hp0]) (by kernel_rfl)
theorem Ajr (h0:ilt 262144 (ofNat (Bq s)) = false) (hp0:p0 (EQ (onP 0 p0 (T2 s a k x) L)) (O1 s) = true):(Au (Ah tab ⟨Ak tb41,(onP 0 p0 (T2 s a k x) L),Gl⟩ Tryz.f24 [.str s] [])).sem = some ((.tup [(.ref 0),(iV 30),(nV a)]),[(.row 57 6 0 (λ_=>.und))]):=by
 exact Aa (ks:=[kn h0,kn hp0]) (by kernel_rfl)
end
theorem ZA (L:LT) (s:List UInt8) (hs:s.length <= 262144) (a k:Nat) (x:Nat->V):∀ (q e:Nat) (j:Nat->V),s.length - e < q ->
  (AA (F7 L) (CS s) q (Nq s a k x e j)).sem = some (IQ s a k x (e+(B1 (s.drop e)).length))
 | 0,e,j,h=>absurd h (Nat.not_lt_zero _)
 | q+1,e,j,h=>by
  have hsl:Bq s = s.length:=rfl
  rcases Nat.lt_or_ge e s.length with he | he
  ·have c0:ilt (ofNat e) (ofNat (Bq s)) = true:=ofNat_lt he
   have c1:Al (ile 0 (ofNat e)) (ilt (ofNat e) (ofNat (Bq s))) = true:=Ap he
   rw [Fm he]
   cases hb:Gq s[e] with
   | true =>
    rw [show B1 (s[e] :: s.drop (e+1)) = [] by unfold B1; rw [List.takeWhile_cons_of_neg (by simp [hb])]]
    exact Ab (Akk L s a k x e j c0 c1 (by rw [MF he]; exact hb))
   | false =>
    rw [Ab (Aki L s a k x e j c0 c1 (by rw [MF he]; exact hb)),Aq,An (n:=s.length) he (by omega)]
    have:=ZA L s hs a k x q (e+1) (λ_=>.und) (by omega)
    rw [show B1 (s[e] :: s.drop (e+1)) = s[e] :: B1 (s.drop (e+1)) by unfold B1; rw [List.takeWhile_cons_of_pos (by simp [hb])],List.length_cons,show e+((B1 (s.drop (e+1))).length+1) = e+1+(B1 (s.drop (e+1))).length by omega]
    exact this
  ·rw [List.drop_eq_nil_of_le he]
   exact Ab (Akj L s a k x e j (A9 he))
theorem Vw (s:List UInt8) (a k:Nat) (x:Nat->V) (j:Nat->V):KA s a k x j = Nq s a k x a (λi=>nth (KA s a k x j).t i):=by kernel_rfl
theorem ZB (M:LT) (hMM:LLe M M) (s:List UInt8) (hs:s.length <= 262144) (m2:∀ f st,M 2 f st = AA f (CS s) (Bq s+1) st):∀ (q a:Nat) (acc:List E6) (j:Nat->V),s.length - a < q->a <= s.length->acc.length <= a ->
  ((Cz q (s.drop a) a acc).2.1 = 0 ∧ (AA (EQ M) (F2 s) q (Nr s a acc.length (DX acc) j)).sem = some (PX s 0 (Cz q (s.drop a) a acc).1.length (DX (Cz q (s.drop a) a acc).1))) ∨
  ((Cz q (s.drop a) a acc).2.1 = 30 ∧ (Cz q (s.drop a) a acc).1 = [] ∧ (AA (EQ M) (F2 s) q (Nr s a acc.length (DX acc) j)).sem = some (T2 s (Cz q (s.drop a) a acc).2.2 (Jf q (s.drop a) acc).1.length (DX (Jf q (s.drop a) acc).1)))
 | 0,a,acc,j,h,_,_=>absurd h (Nat.not_lt_zero _)
 | q+1,a,acc,j,h,ha,hk=>by
  have hsl:Bq s = s.length:=rfl
  rcases Nat.lt_or_ge a s.length with he | he
  ·have c0:ilt (ofNat a) (ofNat (Bq s)) = true:=ofNat_lt he
   have c1:Al (ile 0 (ofNat a)) (ilt (ofNat a) (ofNat (Bq s))) = true:=Ap he
   cases hb:Gq s[a] with
   | true =>
    have e1:Cz (q+1) (s.drop a) a acc = Cz q (s.drop (a+1)) (a+1) acc:=by rw [Fm he,SG hb]
    have e2:Jf (q+1) (s.drop a) acc = Jf q (s.drop (a+1)) acc:=by rw [Fm he,Jf,if_pos hb]
    rw [e1,e2,Ab (AjZ M s a acc.length (DX acc) j c0 c1 (by rw [MF he]; exact hb)),Aq,An (n:=s.length) he (by omega)]
    exact ZB M hMM s hs m2 q (a+1) acc (λ_=>.und) (by omega) (by omega) (by omega)
   | false =>
    have c2:ER (DW s a) = false:=by rw [MF he]; exact hb
    have hw0:0 < (B1 (s.drop a)).length:=by
     rw [Fm he]
     unfold B1
     rw [List.takeWhile_cons_of_pos (by simp [hb])]
     exact Nat.succ_pos _
    have hwl:=YK (s.drop a)
    rw [List.length_drop] at hwl
    have hi:∀ M',(M 2 (F7 M') (KA s a acc.length (DX acc) j)).sem = some (IQ s a acc.length (DX acc) (a+(B1 (s.drop a)).length)):=λM'=>by
     rw [m2,Vw]
     exact ZA M' s hs a acc.length (DX acc) (Bq s+1) a _ (by omega)
    have hsub:Jm a (Ji (a+(B1 (s.drop a)).length) s) = B1 (s.drop a):=by
     show (s.take (a+(B1 (s.drop a)).length)).drop a = _
     rw [List.drop_take,show a+(B1 (s.drop a)).length - a = (B1 (s.drop a)).length by omega]
     exact (List.prefix_iff_eq_take.1 (List.takeWhile_prefix _)).symm
    have c3:Al (ile 0 (ofNat a)) (Al (ile (ofNat a) (ofNat (a+(B1 (s.drop a)).length))) (ile (ofNat (a+(B1 (s.drop a)).length)) (ofNat (Bq s)))) = true:=by
     rw [AE,ile_nat,ile_nat,decide_eq_true (by omega),decide_eq_true (by omega)]
     rfl
    have e0:Cz (q+1) (s.drop a) a acc = if EK (B1 (s.drop a)) = 0 then Cz q ((s.drop a).drop (B1 (s.drop a)).length) (a+(B1 (s.drop a)).length) (acc ++ [EL (B1 (s.drop a))]) else ([],30,a):=by
     rw [Fm he,Cz,if_neg (by rw [hb]; decide)]
    have e5:Jf (q+1) (s.drop a) acc = if EK (B1 (s.drop a)) = 0 then Jf q ((s.drop a).drop (B1 (s.drop a)).length) (acc ++ [EL (B1 (s.drop a))]) else (acc,EL (B1 (s.drop a))):=by
     rw [Fm he,Jf,if_neg (by rw [hb]; decide)]
    by_cases hp:EK (B1 (s.drop a)) = 0
    ·have c4:ieq (EK (Jm a (Ji (a+(B1 (s.drop a)).length) s))) 0 = true:=by rw [hsub,hp]; rfl
     have h9:(acc.length+1) * 40 <= 140737488355328:=by omega
     have h3:=AjW M _ s a acc.length (DX acc) (a+(B1 (s.drop a)).length) j c0 c1 c2 c3 c4 (decide_eq_true h9) (Ai (hi _))
     have h4:Ag (EQ M) (F2 s) (Nr s a acc.length (DX acc) j) = _:=Db (l:=F2 s) (E5 (Γ:=⟨Ak tb41,M,Gl⟩) (Ar hMM hMM) (As Tryz.f24 0) 0 (Nr s a acc.length (DX acc) j)) h3
     rw [if_pos hp,List.drop_drop] at e0 e5
     rw [e0,e5,Ab h4,Aq,hsub,XK]
     have ih:=ZB M hMM s hs m2 q (a+(B1 (s.drop a)).length) (acc ++ [EL (B1 (s.drop a))]) (λ_=>.und) (by omega) (by omega) (by rw [List.length_append]; simp only [List.length_cons,List.length_nil]; omega)
     rw [show (acc ++ [EL (B1 (s.drop a))]).length = acc.length+1 from List.length_append] at ih
     exact ih
    ·have c4:ieq (EK (Jm a (Ji (a+(B1 (s.drop a)).length) s))) 0 = false:=by rw [hsub]; simp [ieq,hp]
     have h3:=AjX M _ s a acc.length (DX acc) (a+(B1 (s.drop a)).length) j c0 c1 c2 c3 c4 (Ai (hi _))
     have h4:Ag (EQ M) (F2 s) (Nr s a acc.length (DX acc) j) = _:=Db (l:=F2 s) (E5 (Γ:=⟨Ak tb41,M,Gl⟩) (Ar hMM hMM) (As Tryz.f24 0) 0 (Nr s a acc.length (DX acc) j)) h3
     rw [if_neg hp] at e0 e5
     rw [e0,e5]
     refine .inr ⟨rfl,rfl,?_⟩
     rw [Ab h4]
     rfl
  ·rw [List.drop_eq_nil_of_le he]
   exact .inl ⟨rfl,Ab (AjY M s a acc.length (DX acc) j (A9 he))⟩
theorem Abl (s:List UInt8):O1 s = Nr s 0 0 (λ_=>.und) (λi=>nth (O1 s).t i):=by kernel_rfl
theorem p41:A6 Tryz.prog Gl 24 psT:=by
 refine Av AI mixed Tryz.func24 (by kernel_rfl) (by kernel_rfl) λvs v h' h=>?_
 unfold psT at h
 split at h
 ·rename_i s
  have:=Ac h
  simp only [Prod.mk.injEq] at this
  obtain ⟨rfl,rfl⟩:=this
  have hx:=AK tb41_ok [(0,F2 s),(2,CS s)]
  have hL:=AF [(0,F2 s),(2,CS s)]
  cases hb:AbN s with
  | true =>
   have e1:psN s = 0:=by unfold psN psL; rw [hb]; rfl
   have e2:psE s = 2:=by unfold psE; rw [hb]; rfl
   have e3:psI s = 0:=by unfold psI; rw [hb]; rfl
   rw [e1,e2,e3]
   exact ⟨_,AN Gl tb41 [(0,F2 s),(2,CS s)],_,Bm.refl _,rfl,hx.1,hx.2,Ajq _ s hb,A0.one λj hj=>absurd hj (Nat.not_lt_zero _)⟩
  | false =>
   have hs:s.length <= 262144:=by
    unfold AbN at hb
    rw [show (262144:Int) = ofNat 262144 from rfl,Cf] at hb
    have:=of_decide_eq_false hb
    have hsl:Bq s = s.length:=rfl
    omega
   have e0:psL s = (psR s).1:=by unfold psL; rw [hb]; rfl
   have e2:psE s = (psR s).2.1:=by unfold psE; rw [hb]; rfl
   have e3:psI s = ofNat (psR s).2.2:=by unfold psI; rw [hb]; rfl
   have hg:ilt 262144 (ofNat (Bq s)) = false:=hb
   have key:∀ M,LLe M M->(∀ f st,M 2 f st = AA f (CS s) (Bq s+1) st)->((psR s).2.1 = 0 ∧ (AA (EQ M) (F2 s) (Bq s+1) (O1 s)).sem = some (PX s 0 (psR s).1.length (DX (psR s).1))) ∨
     ((psR s).2.1 = 30 ∧ (psR s).1 = [] ∧ (AA (EQ M) (F2 s) (Bq s+1) (O1 s)).sem = some (T2 s (psR s).2.2 (Jf (s.length+1) s []).1.length (DX (Jf (s.length+1) s []).1))):=λM h1 h2=>by
    rw [Abl]
    exact ZB M h1 s hs h2 (s.length+1) 0 [] (λi=>nth (O1 s).t i) (by omega) (by omega) (Nat.le_refl _)
   have mm:∀ r,LLe (onP 0 (isP (AP [(0,F2 s),(2,CS s)]) 0 r) r (AP [(0,F2 s),(2,CS s)])) (onP 0 (isP (AP [(0,F2 s),(2,CS s)]) 0 r) r (AP [(0,F2 s),(2,CS s)])):=λr=>Air hL 0 r
   rw [e2,e3]
   unfold psN psG
   rw [e0]
   by_cases hok:(psR s).2.1 = 0
   ·have hat:(psR s).2.2 = 0:=NH _ _ _ _ hok
    have hw:=A1 (Ar hL hL) _ (Ajp (AP [(0,F2 s),(2,CS s)]) _ s 0 (psR s).1.length (DX (psR s).1) hg (Ai (by
     rcases key _ (mm (PX s 0 (psR s).1.length (DX (psR s).1))) (λ_ _=>rfl) with ⟨_,h2⟩ | ⟨h1,_⟩
     ·exact h2
     ·rw [hok] at h1; cases h1)))
    rw [hok,hat]
    exact ⟨_,AN Gl tb41 [(0,F2 s),(2,CS s)],_,Bm.refl _,rfl,hx.1,hx.2,hw,A0.one λj hj=>(G5 (λi=>eV (LN (psR s).1 i)) (psR s).1.length j hj).symm⟩
   ·have hno:(psR s).2.1 = 30 ∧ (psR s).1 = []:=by
     rcases key _ (mm (PX s 0 0 (DX []))) (λ_ _=>rfl) with ⟨h1,_⟩ | ⟨h1,h2,_⟩
     ·exact absurd h1 hok
     ·exact ⟨h1,h2⟩
    have hw:=A1 (Ar hL hL) _ (Ajr (AP [(0,F2 s),(2,CS s)]) _ s (psR s).2.2 (Jf (s.length+1) s []).1.length (DX (Jf (s.length+1) s []).1) hg (Ai (by
     rcases key _ (mm (T2 s (psR s).2.2 (Jf (s.length+1) s []).1.length (DX (Jf (s.length+1) s []).1))) (λ_ _=>rfl) with ⟨h1,_⟩ | ⟨_,_,h3⟩
     ·exact absurd h1 hok
     ·exact h3)))
    rw [hno.1,hno.2]
    exact ⟨_,AN Gl tb41 [(0,F2 s),(2,CS s)],_,Bm.refl _,rfl,hx.1,hx.2,hw,A0.one λj hj=>absurd hj (Nat.not_lt_zero _)⟩
 ·cases h
end Go.Proofs.YthlojajaenfidaaGreatDoor.Ed
namespace Go.Proofs.YthlojajaenfidaaGreatDoor.Sh
open Go.Sy Ed
open Int (ofNat)
set_option maxRecDepth 4000
def And:List UInt8:=[120,121,122,97,98,99,100,101,102,103,104,105,106,107,108,109]
def FB (x:Int):Int:=bif bor (ilt x 0) (ile 16 x) then 4 else 0
def C6 (x:Int):List UInt8:=bif bor (ilt x 0) (ile 16 x) then [] else [And.getD x.toNat 0]
def Aay:List V->T (V × List Blk)
 | [.val (.int .i64 x)]=>.leaf (.tup [.str (C6 x),iV (FB x)],[])
 | _=>.fail
section
variable (L:LT) (x:Int)
include L x
theorem Amg (h0:ilt x 0 = true):(Au (Ah tab ⟨Ak tb0,L,Gl⟩ Tryz.f22 [iV x] [])).sem = some ((.tup [(.str []),(iV 4)]),[]):=by
 exact Aa (ks:=[kn h0,kn h0,kn h0,kT]) (by kernel_rfl)
theorem Amh (h0:ilt x 0 = false) (h1:ile 16 x = true):(Au (Ah tab ⟨Ak tb0,L,Gl⟩ Tryz.f22 [iV x] [])).sem = some ((.tup [(.str []),(iV 4)]),[]):=by
 exact Aa (ks:=[kn h0,kn h0,kn h0,kn h1]) (by kernel_rfl)
end
theorem Ad1:(Au (Ah tab (AN Gl tb0 []) Tryz.f22 [nV 0] [])).sem = some (.tup [.str (C6 (ofNat 0)),iV (FB (ofNat 0))],[]):=by kernel_rfl
theorem Ad0:(Au (Ah tab (AN Gl tb0 []) Tryz.f22 [nV 1] [])).sem = some (.tup [.str (C6 (ofNat 1)),iV (FB (ofNat 1))],[]):=by kernel_rfl
theorem Adz:(Au (Ah tab (AN Gl tb0 []) Tryz.f22 [nV 2] [])).sem = some (.tup [.str (C6 (ofNat 2)),iV (FB (ofNat 2))],[]):=by kernel_rfl
theorem Ady:(Au (Ah tab (AN Gl tb0 []) Tryz.f22 [nV 3] [])).sem = some (.tup [.str (C6 (ofNat 3)),iV (FB (ofNat 3))],[]):=by kernel_rfl
theorem Adx:(Au (Ah tab (AN Gl tb0 []) Tryz.f22 [nV 4] [])).sem = some (.tup [.str (C6 (ofNat 4)),iV (FB (ofNat 4))],[]):=by kernel_rfl
theorem Adw:(Au (Ah tab (AN Gl tb0 []) Tryz.f22 [nV 5] [])).sem = some (.tup [.str (C6 (ofNat 5)),iV (FB (ofNat 5))],[]):=by kernel_rfl
theorem Adv:(Au (Ah tab (AN Gl tb0 []) Tryz.f22 [nV 6] [])).sem = some (.tup [.str (C6 (ofNat 6)),iV (FB (ofNat 6))],[]):=by kernel_rfl
theorem Adu:(Au (Ah tab (AN Gl tb0 []) Tryz.f22 [nV 7] [])).sem = some (.tup [.str (C6 (ofNat 7)),iV (FB (ofNat 7))],[]):=by kernel_rfl
theorem Adt:(Au (Ah tab (AN Gl tb0 []) Tryz.f22 [nV 8] [])).sem = some (.tup [.str (C6 (ofNat 8)),iV (FB (ofNat 8))],[]):=by kernel_rfl
theorem Ads:(Au (Ah tab (AN Gl tb0 []) Tryz.f22 [nV 9] [])).sem = some (.tup [.str (C6 (ofNat 9)),iV (FB (ofNat 9))],[]):=by kernel_rfl
theorem Aa4:(Au (Ah tab (AN Gl tb0 []) Tryz.f22 [nV 10] [])).sem = some (.tup [.str (C6 (ofNat 10)),iV (FB (ofNat 10))],[]):=by kernel_rfl
theorem Aa3:(Au (Ah tab (AN Gl tb0 []) Tryz.f22 [nV 11] [])).sem = some (.tup [.str (C6 (ofNat 11)),iV (FB (ofNat 11))],[]):=by kernel_rfl
theorem Aa2:(Au (Ah tab (AN Gl tb0 []) Tryz.f22 [nV 12] [])).sem = some (.tup [.str (C6 (ofNat 12)),iV (FB (ofNat 12))],[]):=by kernel_rfl
theorem Aa1:(Au (Ah tab (AN Gl tb0 []) Tryz.f22 [nV 13] [])).sem = some (.tup [.str (C6 (ofNat 13)),iV (FB (ofNat 13))],[]):=by kernel_rfl
theorem Aa0:(Au (Ah tab (AN Gl tb0 []) Tryz.f22 [nV 14] [])).sem = some (.tup [.str (C6 (ofNat 14)),iV (FB (ofNat 14))],[]):=by kernel_rfl
theorem Aaz:(Au (Ah tab (AN Gl tb0 []) Tryz.f22 [nV 15] [])).sem = some (.tup [.str (C6 (ofNat 15)),iV (FB (ofNat 15))],[]):=by kernel_rfl
theorem Alg (k:Nat) (hk:k < 16):(Au (Ah tab (AN Gl tb0 []) Tryz.f22 [nV k] [])).sem = some (.tup [.str (C6 (ofNat k)),iV (FB (ofNat k))],[]):=by
 have:k = 0 ∨ k = 1 ∨ k = 2 ∨ k = 3 ∨ k = 4 ∨ k = 5 ∨ k = 6 ∨ k = 7 ∨ k = 8 ∨ k = 9 ∨ k = 10 ∨ k = 11 ∨ k = 12 ∨ k = 13 ∨ k = 14 ∨ k = 15:=by omega
 rcases this with rfl | rfl | rfl | rfl | rfl | rfl | rfl | rfl | rfl | rfl | rfl | rfl | rfl | rfl | rfl | rfl
 ·exact Ad1
 ·exact Ad0
 ·exact Adz
 ·exact Ady
 ·exact Adx
 ·exact Adw
 ·exact Adv
 ·exact Adu
 ·exact Adt
 ·exact Ads
 ·exact Aa4
 ·exact Aa3
 ·exact Aa2
 ·exact Aa1
 ·exact Aa0
 ·exact Aaz
theorem p37:A6 Tryz.prog Gl 22 Aay:=by
 refine A6.congr (AL AI mixed Tryz.func22 (by kernel_rfl) (by kernel_rfl) (Γ:=AN Gl tb0 []) (AK Dn [])) λvs r h=>?_
 unfold Aay at h
 split at h
 ·rename_i x
  rw [Ac h]
  show (Au (Ah tab (AN Gl tb0 []) Tryz.f22 [iV x] [])).sem = _
  cases c0:ilt x 0 with
  | true =>
   rw [show C6 x = [] by unfold C6 bor; rw [c0]; rfl,show FB x = 4 by unfold FB bor; rw [c0]; rfl]
   exact Amg _ x c0
  | false =>
   cases c1:ile 16 x with
   | true =>
    rw [show C6 x = [] by unfold C6 bor; rw [c0,c1]; rfl,show FB x = 4 by unfold FB bor; rw [c0,c1]; rfl]
    exact Amh _ x c0 c1
   | false =>
    have h1:¬ x < 0:=of_decide_eq_false c0
    have h2:¬ (16:Int) <= x:=of_decide_eq_false c1
    obtain ⟨k,rfl⟩:∃ k:Nat,x = ofNat k:=⟨x.toNat,by simp only [Int.ofNat_eq_natCast]; omega⟩
    exact Alg k (by simp only [Int.ofNat_eq_natCast] at h2; omega)
 ·cases h
end Go.Proofs.YthlojajaenfidaaGreatDoor.Sh
namespace Go.Proofs.YthlojajaenfidaaGreatDoor.Sh
open Go.Sy Ed
set_option maxHeartbeats 1000000
set_option maxRecDepth 4000
end Go.Proofs.YthlojajaenfidaaGreatDoor.Sh
