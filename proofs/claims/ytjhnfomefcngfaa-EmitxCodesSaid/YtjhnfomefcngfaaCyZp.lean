/-
  Parse: the edges of a text. No conditions.
-/
import Derived.Test.YtjhnfomefcngfaaCyT
import Derived.Test.YtjhnfomefcngfaaShW
namespace Go.Proofs.Ytjhnfomefcngfaa.Ed
open Go.Sy Go
def Gs (c:UInt8):Bool:=c == 32 || c == 9 || c == 10 || c == 13
def EW (x:Int):Bool:=bor (ieq x 32) (bor (ieq x 9) (bor (ieq x 10) (ieq x 13)))
theorem Nb (c:UInt8) (n:Nat) (hn:n < 256):ieq ((c.toNat:Nat):Int) (n:Int) = (c == UInt8.ofNat n):=by
 rw [Bool.eq_iff_iff]
 simp only [ieq,beq_iff_eq]
 constructor
 ·intro h
  apply UInt8.toNat_inj.1
  rw [UInt8.toNat_ofNat_of_lt' (by simpa using hn)]
  omega
 ·intro h
  rw [h,UInt8.toNat_ofNat_of_lt' (by simpa using hn)]
theorem Abp (c:UInt8):EW ((c.toNat:Nat):Int) = Gs c:=by
 unfold EW Gs bor
 have h1:=Nb c 32 (by decide)
 have h2:=Nb c 9 (by decide)
 have h3:=Nb c 10 (by decide)
 have h4:=Nb c 13 (by decide)
 have h1:ieq ((c.toNat:Nat):Int) 32 = (c == 32):=h1
 have h2:ieq ((c.toNat:Nat):Int) 9 = (c == 9):=h2
 have h3:ieq ((c.toNat:Nat):Int) 10 = (c == 10):=h3
 have h4:ieq ((c.toNat:Nat):Int) 13 = (c == 13):=h4
 rw [h1,h2,h3,h4]
 cases (c == 32) <;> cases (c == 9) <;> cases (c == 10) <;> rfl
def B2 (l:List UInt8):List UInt8:=l.takeWhile λc=>!Gs c
def CD:Nat->List UInt8->Nat->List E6->List E6 × Int × Nat
 | 0,_,_,acc=>(acc,0,0)
 | _+1,[],_,acc=>(acc,0,0)
 | q+1,c :: l,a,acc =>
  if Gs c = true then CD q l (a+1) acc
  else if EN (B2 (c :: l)) = 0 then CD q ((c :: l).drop (B2 (c :: l)).length) (a+(B2 (c :: l)).length) (acc ++ [EO (B2 (c :: l))])
  else ([],30,a)
theorem SD {b:UInt8} (hb:Gs b = true) (l:List UInt8) (q a:Nat) (acc:List E6):CD (q+1) (b :: l) a acc = CD q l (a+1) acc:=by
 rw [CD,if_pos hb]
theorem Yu (l:List UInt8):(B2 l).length <= l.length:=by
 induction l with
 | nil=>exact Nat.le_refl _
 | cons c l ih =>
  unfold B2 at ih ⊢
  cases hc:Gs c with
  | true=>rw [List.takeWhile_cons_of_neg (by simp [hc])]; exact Nat.zero_le _
  | false =>
   rw [List.takeWhile_cons_of_pos (by simp [hc])]
   simp only [List.length_cons]
   omega
section
variable (L:LT) (x:Int)
include L x
theorem AiQ (h0:ieq x 32 = true):(Ar (Ai tab ⟨Am tb0,L,Gl⟩ Try.f96 [.val (.int .u8 x)] [])).sem = some ((bV true),[]):=by
 exact Aa (ks:=[kn h0,kn h0,kn h0,kT,kT,kT,kT,kT,kT]) (by kernel_rfl)
theorem AiP (h0:ieq x 32 = false) (h1:ieq x 9 = true):(Ar (Ai tab ⟨Am tb0,L,Gl⟩ Try.f96 [.val (.int .u8 x)] [])).sem = some ((bV true),[]):=by
 exact Aa (ks:=[kn h0,kn h0,kn h0,kn h1,kn h1,kn h1,kT,kT,kT]) (by kernel_rfl)
theorem AiO (h0:ieq x 32 = false) (h1:ieq x 9 = false) (h2:ieq x 10 = true):(Ar (Ai tab ⟨Am tb0,L,Gl⟩ Try.f96 [.val (.int .u8 x)] [])).sem = some ((bV true),[]):=by
 exact Aa (ks:=[kn h0,kn h0,kn h0,kn h1,kn h1,kn h1,kn h2,kn h2,kn h2]) (by kernel_rfl)
theorem AiN (h0:ieq x 32 = false) (h1:ieq x 9 = false) (h2:ieq x 10 = false):(Ar (Ai tab ⟨Am tb0,L,Gl⟩ Try.f96 [.val (.int .u8 x)] [])).sem = some ((bV (ieq x 13)),[]):=by
 exact Aa (ks:=[kn h0,kn h0,kn h0,kn h1,kn h1,kn h1,kn h2,kn h2,kn h2]) (by kernel_rfl)
end
def V6:List V->T (V × List Blk)
 | [.val (.int .u8 x)]=>out (bV (EW x))
 | _=>.fail
theorem Adz {α:Type} {l:List α} {i:Nat} {d:α} (h:i < l.length):l.getD i d = l[i]:=by simp [List.getD,h]
theorem Fo {s:List UInt8} {a:Nat} (h:a < s.length):s.drop a = s[a] :: s.drop (a+1):=List.drop_eq_getElem_cons h
theorem MF {s:List UInt8} {a:Nat} (h:a < s.length):EW (M9 s a) = Gs s[a]:=by
 unfold M9
 rw [Adz h]
 exact Abp _
def LG (l:List E6) (i:Nat):E6:=l.getD i FK
theorem To {l:List E6} {e:E6} {i:Nat} (h:i < l.length+1):LG (l ++ [e]) i = if i = l.length then e else LG l i:=by
 unfold LG
 by_cases hi:i = l.length
 ·rw [if_pos hi,hi]; simp
 ·rw [if_neg hi]
  simp only [List.getD,List.getElem?_append_left (show i < l.length by omega)]
def Ee (acc:List E6):Nat->V:=BN (λi=>eV (LG acc i)) acc.length
theorem Ml {g g':Nat->V}:∀ n,(∀ i,i < n->g i = g' i)->BN g n = BN g' n
 | 0,_=>rfl
 | n+1,h=>by
  show A1 n (BN g n) (g n) = A1 n (BN g' n) (g' n)
  rw [h n (Nat.lt_succ_self n),Ml n λi hi=>h i (by omega)]
theorem Xv (acc:List E6) (e:E6):A1 acc.length (Ee acc) (eV e) = Ee (acc ++ [e]):=by
 have h1:Ee (acc ++ [e]) = BN (λi=>eV (LG (acc ++ [e]) i)) (acc.length+1):=by
  unfold Ee
  rw [List.length_append]
  rfl
 rw [h1]
 show _ = A1 acc.length (BN (λi=>eV (LG (acc ++ [e]) i)) acc.length) (eV (LG (acc ++ [e]) acc.length))
 rw [To (Nat.lt_succ_self _),if_pos rfl]
 unfold Ee
 rw [Ml (g:=λi=>eV (LG (acc ++ [e]) i)) (g':=λi=>eV (LG acc i)) acc.length λi hi=>by
  show eV (LG (acc ++ [e]) i) = eV (LG acc i)
  rw [To (by omega),if_neg (by omega)]]
def Ji:Nat->List UInt8->List E6->List E6 × E6
 | 0,_,acc=>(acc,FK)
 | _+1,[],acc=>(acc,FK)
 | q+1,c :: l,acc =>
  if Gs c = true then Ji q l acc
  else if EN (B2 (c :: l)) = 0 then Ji q ((c :: l).drop (B2 (c :: l)).length) (acc ++ [EO (B2 (c :: l))])
  else (acc,EO (B2 (c :: l)))
def Abq (s:List UInt8):Bool:=ilt 262144 (Int.ofNat (Cq s))
def psR (s:List UInt8):List E6 × Int × Nat:=CD (s.length+1) s 0 []
def psL (s:List UInt8):List E6:=bif Abq s then [] else (psR s).1
def psE (s:List UInt8):Int:=bif Abq s then 2 else (psR s).2.1
def psI (s:List UInt8):Int:=bif Abq s then 0 else Int.ofNat (psR s).2.2
def psN (s:List UInt8):Nat:=(psL s).length
def psG (s:List UInt8) (i:Nat):E6:=LG (psL s) i
def psT:List V->T (V × List Blk)
 | [.str s]=>.leaf (.tup [.ref 0,iV (psE s),iV (psI s)],[.row 44 6 (psN s) λi=>eV (psG s i)])
 | _=>.fail
theorem NJ:∀ (q:Nat) (l:List UInt8) (a:Nat) (acc:List E6),(CD q l a acc).2.1 = 0->(CD q l a acc).2.2 = 0
 | 0,_,_,_,_=>rfl
 | q+1,[],_,_,_=>rfl
 | q+1,c :: l,a,acc,h=>by
  rw [CD] at h ⊢
  split
  ·rename_i hc
   rw [if_pos hc] at h
   exact NJ q _ _ _ h
  ·rename_i hc
   rw [if_neg hc] at h
   split
   ·rename_i hp
    rw [if_pos hp] at h
    exact NJ q _ _ _ h
   ·rename_i hp
    rw [if_neg hp] at h
    cases h
theorem AhV {L:LT} (hL:LLe L L) (k:Nat) (r:Ex × St):LLe (onP k (isP L k r) r L) (onP k (isP L k r) r L):=λid f f' st hf r' hr=>by
 unfold onP at hr ⊢
 cases hk:Nat.beq id k with
 | true =>
  rw [hk] at hr
  obtain ⟨h1,h2⟩:=Ad hr
  unfold isP at h1
  have h1:=@of_decide_eq_true _ (Classical.propDecidable _) h1
  have h3:isP L k r f' st = true:=Aj (hL k f f' st hf _ h1)
  show sel (isP L k r f' st) _ _ = _
  rw [h3]
  exact h2
 | false =>
  rw [hk] at hr
  exact hL id f f' st hf _ hr
end Go.Proofs.Ytjhnfomefcngfaa.Ed
namespace Go.Proofs.Ytjhnfomefcngfaa.Ed
open Go.Sy Go
open Int (ofNat)
theorem e84 (Γ:Cx) (vs:List V) (h:List Blk):Ai tab Γ Try.f96 vs h = Ai tab Γ Try.f96 vs h:=by kernel_rfl
theorem p84:A7 Try.prog Gl 96 V6:=by
 refine Av AL AN Try.func96 (by kernel_rfl) (by kernel_rfl) λvs v h' h=>?_
 unfold V6 at h
 split at h
 ·rename_i x
  have:=Ac h
  simp only [Prod.mk.injEq] at this
  obtain ⟨rfl,rfl⟩:=this
  have hx:=AO C9 []
  refine ⟨_,AI Gl tb0 [],_,Bp.refl _,rfl,hx.1,hx.2,?_,A8.refl _⟩
  rw [e84]
  unfold EW
  cases c1:ieq x 32 with
  | true=>exact AiQ _ x c1
  | false =>
   cases c2:ieq x 9 with
   | true=>exact AiP _ x c1 c2
   | false =>
    cases c3:ieq x 10 with
    | true=>exact AiO _ x c1 c2 c3
    | false=>exact AiN _ x c1 c2 c3
 ·cases h
noncomputable def Nr:List (Nat × (List V->T (V × List Blk))):=(96,V6) :: (97,RR UE) :: []
theorem AbW:AA Try.prog Gl Nr:=.cons p84 <| .cons p22 .nil
def T4 (s:List UInt8) (a k:Nat) (x:Nat->V):Ex × St:=(.rt,⟨(jsV 56 0 (λ_=>.und) [(2,.ref 1),(3,iV 30),(4,nV a),(6,.ref 2)]),[.row 44 6 0 (λ_=>.und),.row 44 6 0 (λ_=>.und),.row 44 6 k x]⟩)
def Dj (s:List UInt8):Lp:=⟨(bmK 56 0 [0,2,3,4,5,6,7,8]),3,bmK 56 0 [0,2,3,4,5,6,7,8],3,Cq s+1⟩
def Nw (s:List UInt8) (a k:Nat) (x:Nat->V) (e:Nat) (j:Nat->V):St:=⟨(jsV 56 0 j [(0,.str s),(2,.ref 0),(3,iV 0),(4,iV 0),(5,.ref 1),(6,.ref 2),(7,nV e),(8,nV a)]),[.row 44 6 0 (λ_=>.und),.row 44 6 0 (λ_=>.und),.row 44 6 k x]⟩
def IS (s:List UInt8) (a k:Nat) (x:Nat->V) (e:Nat):Ex × St:=(.ex 2,⟨(jsV 56 0 (λ_=>.und) [(0,.str s),(2,.ref 0),(3,iV 0),(4,iV 0),(5,.ref 1),(6,.ref 2),(7,nV e),(8,nV a)]),[.row 44 6 0 (λ_=>.und),.row 44 6 0 (λ_=>.und),.row 44 6 k x]⟩)
noncomputable def FG (L:LT):St->T (Ex × St):=λst=>AC tab ⟨Am Nr,L,Gl⟩ (Au Try.f63 2) 2 st
section
variable (L:LT) (s:List UInt8) (a k:Nat) (x:Nat->V) (e:Nat)  (j:Nat->V)
include L s a k x e j
theorem Akr (h0:ilt (ofNat e) (ofNat (Cq s)) = false):Ah (FG L) (Dj s) (Nw s a k x e j) = some ((.ex 2),⟨(jsV 56 0 (λ_=>.und) [(0,(.str s)),(2,(.ref 0)),(3,(iV 0)),(4,(iV 0)),(5,(.ref 1)),(6,(.ref 2)),(7,(nV e)),(8,(nV a))]),[(.row 44 6 0 (λ_=>.und)),(.row 44 6 0 (λ_=>.und)),(.row 44 6 k x)]⟩):=by
 exact Aa (ks:=[kn h0,kn h0,kn h0,kn h0,kn h0,kn h0,kF]) (by kernel_rfl)
theorem Aks (h0:ilt (ofNat e) (ofNat (Cq s)) = true) (h1:Ak (ile 0 (ofNat e)) (ilt (ofNat e) (ofNat (Cq s))) = true) (h2:EW (M9 s e) = true):Ah (FG L) (Dj s) (Nw s a k x e j) = some ((.ex 2),⟨(jsV 56 0 (λ_=>.und) [(0,(.str s)),(2,(.ref 0)),(3,(iV 0)),(4,(iV 0)),(5,(.ref 1)),(6,(.ref 2)),(7,(nV e)),(8,(nV a))]),[(.row 44 6 0 (λ_=>.und)),(.row 44 6 0 (λ_=>.und)),(.row 44 6 k x)]⟩):=by
 exact Aa (ks:=[kn h0,kn h0,kn h0,kn h1,kn h0,kn h0,kn h0,kN (kn h2)]) (by kernel_rfl)
theorem Akq (h0:ilt (ofNat e) (ofNat (Cq s)) = true) (h1:Ak (ile 0 (ofNat e)) (ilt (ofNat e) (ofNat (Cq s))) = true) (h2:EW (M9 s e) = false):Ah (FG L) (Dj s) (Nw s a k x e j) = some (.nm,⟨(jsV 56 0 (λ_=>.und) [(0,(.str s)),(2,(.ref 0)),(3,(iV 0)),(4,(iV 0)),(5,(.ref 1)),(6,(.ref 2)),(7,(iV (wr .i64 (Af (ofNat e) 1)))),(8,(nV a))]),[(.row 44 6 0 (λ_=>.und)),(.row 44 6 0 (λ_=>.und)),(.row 44 6 k x)]⟩):=by
 exact Aa (ks:=[kn h0,kn h0,kn h0,kn h1,kn h0,kn h0,kn h0,kN (kn h2)]) (by kernel_rfl)
end
def F6 (s:List UInt8):Lp:=⟨(bmK 56 0 [0,2,3,4,5,6,7]),3,bmK 56 0 [2,3,4,6],3,Cq s+1⟩
def Nx (s:List UInt8) (a k:Nat) (x:Nat->V) (j:Nat->V):St:=⟨(jsV 56 0 j [(0,.str s),(2,.ref 0),(3,iV 0),(4,iV 0),(5,.ref 1),(6,.ref 2),(7,nV a)]),[.row 44 6 0 (λ_=>.und),.row 44 6 0 (λ_=>.und),.row 44 6 k x]⟩
def PV (s:List UInt8) (a k:Nat) (x:Nat->V):Ex × St:=(.ex 0,⟨(jsV 56 0 (λ_=>.und) [(2,.ref 0),(3,iV 0),(4,iV 0),(6,.ref 2)]),[.row 44 6 0 (λ_=>.und),.row 44 6 0 (λ_=>.und),.row 44 6 k x]⟩)
noncomputable def EV (L:LT):St->T (Ex × St):=λst=>AC tab ⟨Am Nr,L,Gl⟩ (Au Try.f63 0) 0 st
section
variable (L:LT) (s:List UInt8) (a k:Nat) (x:Nat->V)  (j:Nat->V)
include L s a k x j
theorem Akg (h0:ilt (ofNat a) (ofNat (Cq s)) = false):Ah (EV L) (F6 s) (Nx s a k x j) = some ((.ex 0),⟨(jsV 56 0 (λ_=>.und) [(2,(.ref 0)),(3,(iV 0)),(4,(iV 0)),(6,(.ref 2))]),[(.row 44 6 0 (λ_=>.und)),(.row 44 6 0 (λ_=>.und)),(.row 44 6 k x)]⟩):=by
 exact Aa (ks:=[kn h0]) (by kernel_rfl)
theorem Akh (h0:ilt (ofNat a) (ofNat (Cq s)) = true) (h1:Ak (ile 0 (ofNat a)) (ilt (ofNat a) (ofNat (Cq s))) = true) (h2:EW (M9 s a) = true):Ah (EV L) (F6 s) (Nx s a k x j) = some (.nm,⟨(jsV 56 0 (λ_=>.und) [(0,(.str s)),(2,(.ref 0)),(3,(iV 0)),(4,(iV 0)),(5,(.ref 1)),(6,(.ref 2)),(7,(iV (wr .i64 (Af (ofNat a) 1))))]),[(.row 44 6 0 (λ_=>.und)),(.row 44 6 0 (λ_=>.und)),(.row 44 6 k x)]⟩):=by
 exact Aa (ks:=[kn h0,kn h1,kn h2]) (by kernel_rfl)
end
def K9 (s:List UInt8) (a k:Nat) (x:Nat->V) (j:Nat->V):St:=⟨(jsV 56 0 j [(0,(.str s)),(2,(.ref 0)),(3,(iV 0)),(4,(iV 0)),(5,(.ref 1)),(6,(.ref 2)),(7,(nV a)),(8,(nV a)),(15,(nV a)),(16,(.str s)),(17,(iV (ofNat (Cq s)))),(18,(bV (ilt (ofNat a) (ofNat (Cq s))))),(19,(.str s)),(20,(nV a)),(21,(.val (Value.int IntKind.u8 (M9 s a)))),(22,(bV (EW (M9 s a)))),(25,(nV a))]),[.row 44 6 0 (λ_=>.und),.row 44 6 0 (λ_=>.und),.row 44 6 k x]⟩
section
variable (L:LT) (p2:PT) (s:List UInt8) (a k:Nat) (x:Nat->V) (e:Nat) (j:Nat->V)
include L p2 s a k x e j
theorem Ake (h0:ilt (ofNat a) (ofNat (Cq s)) = true) (h1:Ak (ile 0 (ofNat a)) (ilt (ofNat a) (ofNat (Cq s))) = true) (h2:EW (M9 s a) = false) (h3:Ak (ile 0 (ofNat a)) (Ak (ile (ofNat a) (ofNat e)) (ile (ofNat e) (ofNat (Cq s)))) = true) (h4:ieq (EN (Jn a (Jk e s))) 0 = true) (h5:AY k 1 40 = true) (hp2:p2 (FG (onP 2 p2 (IS s a k x e) L)) (K9 s a k x j) = true):Ah (EV (onP 2 p2 (IS s a k x e) L)) (F6 s) (Nx s a k x j) = some (.nm,⟨(jsV 56 0 (λ_=>.und) [(0,(.str s)),(2,(.ref 0)),(3,(iV 0)),(4,(iV 0)),(5,(.ref 1)),(6,(.ref 2)),(7,(nV e))]),[(.row 44 6 0 (λ_=>.und)),(.row 44 6 0 (λ_=>.und)),(.row 44 6 (AQ k 1) (A1 k x (eV (EO (Jn a (Jk e s))))))]⟩):=by
 exact Aa (ks:=[kn h0,kn h1,kn h2,kn hp2,kn h3,kN (kn h4),kn h5]) (by kernel_rfl)
theorem Akf (h0:ilt (ofNat a) (ofNat (Cq s)) = true) (h1:Ak (ile 0 (ofNat a)) (ilt (ofNat a) (ofNat (Cq s))) = true) (h2:EW (M9 s a) = false) (h3:Ak (ile 0 (ofNat a)) (Ak (ile (ofNat a) (ofNat e)) (ile (ofNat e) (ofNat (Cq s)))) = true) (h4:ieq (EN (Jn a (Jk e s))) 0 = false) (hp2:p2 (FG (onP 2 p2 (IS s a k x e) L)) (K9 s a k x j) = true):Ah (EV (onP 2 p2 (IS s a k x e) L)) (F6 s) (Nx s a k x j) = some (.rt,⟨(jsV 56 0 (λ_=>.und) [(2,(.ref 1)),(3,(iV 30)),(4,(nV a)),(6,(.ref 2))]),[(.row 44 6 0 (λ_=>.und)),(.row 44 6 0 (λ_=>.und)),(.row 44 6 k x)]⟩):=by
 exact Aa (ks:=[kn h0,kn h1,kn h2,kn hp2,kn h3,kN (kn h4)]) (by kernel_rfl)
end
def O4 (s:List UInt8) :St:=⟨(jsV 56 0 (λ_=>A9) [(0,(.str s)),(2,(.ref 0)),(3,(iV 0)),(4,(iV 0)),(5,(.ref 1)),(6,(.ref 2)),(7,(iV 0)),(11,(.str s)),(12,(iV (ofNat (Cq s)))),(13,(bV (ilt 262144 (ofNat (Cq s)))))]),[.row 44 6 0 (λ_=>.und),.row 44 6 0 (λ_=>.und),.row 44 6 0 (λ_=>.und)]⟩
theorem Ajb (L:LT) (s:List UInt8) (h0:ilt 262144 (ofNat (Cq s)) = true):(Ar (Ai tab ⟨Am Nr,L,Gl⟩ Try.f63 [.str s] [])).sem = some ((.tup [(.ref 0),(iV 2),(iV 0)]),[(.row 44 6 0 (λ_=>.und))]):=by
 exact Aa (ks:=[kn h0]) (by kernel_rfl)
section
variable (L:LT) (p0:PT) (s:List UInt8) (a k:Nat) (x:Nat->V)
include L p0 s a k x
theorem Aja (h0:ilt 262144 (ofNat (Cq s)) = false) (hp0:p0 (EV (onP 0 p0 (PV s a k x) L)) (O4 s) = true):(Ar (Ai tab ⟨Am Nr,(onP 0 p0 (PV s a k x) L),Gl⟩ Try.f63 [.str s] [])).sem = some ((.tup [(.ref 0),(iV 0),(iV 0)]),[(.row 44 6 k x)]):=by
 exact Aa (ks:=[kn h0,kn hp0]) (by kernel_rfl)
theorem Ajc (h0:ilt 262144 (ofNat (Cq s)) = false) (hp0:p0 (EV (onP 0 p0 (T4 s a k x) L)) (O4 s) = true):(Ar (Ai tab ⟨Am Nr,(onP 0 p0 (T4 s a k x) L),Gl⟩ Try.f63 [.str s] [])).sem = some ((.tup [(.ref 0),(iV 30),(nV a)]),[(.row 44 6 0 (λ_=>.und))]):=by
 exact Aa (ks:=[kn h0,kn hp0]) (by kernel_rfl)
end
theorem Zn (L:LT) (s:List UInt8) (hs:s.length <= 262144) (a k:Nat) (x:Nat->V):∀ (q e:Nat) (j:Nat->V),s.length - e < q ->
  (A4 (FG L) (Dj s) q (Nw s a k x e j)).sem = some (IS s a k x (e+(B2 (s.drop e)).length))
 | 0,e,j,h=>absurd h (Nat.not_lt_zero _)
 | q+1,e,j,h=>by
  have hsl:Cq s = s.length:=rfl
  rcases Nat.lt_or_ge e s.length with he | he
  ·have c0:ilt (ofNat e) (ofNat (Cq s)) = true:=ofNat_lt he
   have c1:Ak (ile 0 (ofNat e)) (ilt (ofNat e) (ofNat (Cq s))) = true:=Ap he
   rw [Fo he]
   cases hb:Gs s[e] with
   | true =>
    rw [show B2 (s[e] :: s.drop (e+1)) = [] by unfold B2; rw [List.takeWhile_cons_of_neg (by simp [hb])]]
    exact Ab (Aks L s a k x e j c0 c1 (by rw [MF he]; exact hb))
   | false =>
    rw [Ab (Akq L s a k x e j c0 c1 (by rw [MF he]; exact hb)),Aq,Ao (n:=s.length) he (by omega)]
    have:=Zn L s hs a k x q (e+1) (λ_=>.und) (by omega)
    rw [show B2 (s[e] :: s.drop (e+1)) = s[e] :: B2 (s.drop (e+1)) by unfold B2; rw [List.takeWhile_cons_of_pos (by simp [hb])],List.length_cons,show e+((B2 (s.drop (e+1))).length+1) = e+1+(B2 (s.drop (e+1))).length by omega]
    exact this
  ·rw [List.drop_eq_nil_of_le he]
   exact Ab (Akr L s a k x e j (A6 he))
theorem Vg (s:List UInt8) (a k:Nat) (x:Nat->V) (j:Nat->V):K9 s a k x j = Nw s a k x a (λi=>nth (K9 s a k x j).t i):=by kernel_rfl
theorem Zo (M:LT) (hMM:LLe M M) (s:List UInt8) (hs:s.length <= 262144) (m2:∀ f st,M 2 f st = A4 f (Dj s) (Cq s+1) st):∀ (q a:Nat) (acc:List E6) (j:Nat->V),s.length - a < q->a <= s.length->acc.length <= a ->
  ((CD q (s.drop a) a acc).2.1 = 0 ∧ (A4 (EV M) (F6 s) q (Nx s a acc.length (Ee acc) j)).sem = some (PV s 0 (CD q (s.drop a) a acc).1.length (Ee (CD q (s.drop a) a acc).1))) ∨
  ((CD q (s.drop a) a acc).2.1 = 30 ∧ (CD q (s.drop a) a acc).1 = [] ∧ (A4 (EV M) (F6 s) q (Nx s a acc.length (Ee acc) j)).sem = some (T4 s (CD q (s.drop a) a acc).2.2 (Ji q (s.drop a) acc).1.length (Ee (Ji q (s.drop a) acc).1)))
 | 0,a,acc,j,h,_,_=>absurd h (Nat.not_lt_zero _)
 | q+1,a,acc,j,h,ha,hk=>by
  have hsl:Cq s = s.length:=rfl
  rcases Nat.lt_or_ge a s.length with he | he
  ·have c0:ilt (ofNat a) (ofNat (Cq s)) = true:=ofNat_lt he
   have c1:Ak (ile 0 (ofNat a)) (ilt (ofNat a) (ofNat (Cq s))) = true:=Ap he
   cases hb:Gs s[a] with
   | true =>
    have e1:CD (q+1) (s.drop a) a acc = CD q (s.drop (a+1)) (a+1) acc:=by rw [Fo he,SD hb]
    have e2:Ji (q+1) (s.drop a) acc = Ji q (s.drop (a+1)) acc:=by rw [Fo he,Ji,if_pos hb]
    rw [e1,e2,Ab (Akh M s a acc.length (Ee acc) j c0 c1 (by rw [MF he]; exact hb)),Aq,Ao (n:=s.length) he (by omega)]
    exact Zo M hMM s hs m2 q (a+1) acc (λ_=>.und) (by omega) (by omega) (by omega)
   | false =>
    have c2:EW (M9 s a) = false:=by rw [MF he]; exact hb
    have hw0:0 < (B2 (s.drop a)).length:=by
     rw [Fo he]
     unfold B2
     rw [List.takeWhile_cons_of_pos (by simp [hb])]
     exact Nat.succ_pos _
    have hwl:=Yu (s.drop a)
    rw [List.length_drop] at hwl
    have hi:∀ M',(M 2 (FG M') (K9 s a acc.length (Ee acc) j)).sem = some (IS s a acc.length (Ee acc) (a+(B2 (s.drop a)).length)):=λM'=>by
     rw [m2,Vg]
     exact Zn M' s hs a acc.length (Ee acc) (Cq s+1) a _ (by omega)
    have hsub:Jn a (Jk (a+(B2 (s.drop a)).length) s) = B2 (s.drop a):=by
     show (s.take (a+(B2 (s.drop a)).length)).drop a = _
     rw [List.drop_take,show a+(B2 (s.drop a)).length - a = (B2 (s.drop a)).length by omega]
     exact (List.prefix_iff_eq_take.1 (List.takeWhile_prefix _)).symm
    have c3:Ak (ile 0 (ofNat a)) (Ak (ile (ofNat a) (ofNat (a+(B2 (s.drop a)).length))) (ile (ofNat (a+(B2 (s.drop a)).length)) (ofNat (Cq s)))) = true:=by
     rw [AF,ile_nat,ile_nat,decide_eq_true (by omega),decide_eq_true (by omega)]
     rfl
    have e0:CD (q+1) (s.drop a) a acc = if EN (B2 (s.drop a)) = 0 then CD q ((s.drop a).drop (B2 (s.drop a)).length) (a+(B2 (s.drop a)).length) (acc ++ [EO (B2 (s.drop a))]) else ([],30,a):=by
     rw [Fo he,CD,if_neg (by rw [hb]; decide)]
    have e5:Ji (q+1) (s.drop a) acc = if EN (B2 (s.drop a)) = 0 then Ji q ((s.drop a).drop (B2 (s.drop a)).length) (acc ++ [EO (B2 (s.drop a))]) else (acc,EO (B2 (s.drop a))):=by
     rw [Fo he,Ji,if_neg (by rw [hb]; decide)]
    by_cases hp:EN (B2 (s.drop a)) = 0
    ·have c4:ieq (EN (Jn a (Jk (a+(B2 (s.drop a)).length) s))) 0 = true:=by rw [hsub,hp]; rfl
     have h9:(acc.length+1) * 40 <= 140737488355328:=by omega
     have h3:=Ake M _ s a acc.length (Ee acc) (a+(B2 (s.drop a)).length) j c0 c1 c2 c3 c4 (decide_eq_true h9) (Aj (hi _))
     have h4:Ah (EV M) (F6 s) (Nx s a acc.length (Ee acc) j) = _:=CB (l:=F6 s) (D5 (Γ:=⟨Am Nr,M,Gl⟩) (As hMM hMM) (Au Try.f63 0) 0 (Nx s a acc.length (Ee acc) j)) h3
     rw [if_pos hp,List.drop_drop] at e0 e5
     rw [e0,e5,Ab h4,Aq,hsub,Xv]
     have ih:=Zo M hMM s hs m2 q (a+(B2 (s.drop a)).length) (acc ++ [EO (B2 (s.drop a))]) (λ_=>.und) (by omega) (by omega) (by rw [List.length_append]; simp only [List.length_cons,List.length_nil]; omega)
     rw [show (acc ++ [EO (B2 (s.drop a))]).length = acc.length+1 from List.length_append] at ih
     exact ih
    ·have c4:ieq (EN (Jn a (Jk (a+(B2 (s.drop a)).length) s))) 0 = false:=by rw [hsub]; simp [ieq,hp]
     have h3:=Akf M _ s a acc.length (Ee acc) (a+(B2 (s.drop a)).length) j c0 c1 c2 c3 c4 (Aj (hi _))
     have h4:Ah (EV M) (F6 s) (Nx s a acc.length (Ee acc) j) = _:=CB (l:=F6 s) (D5 (Γ:=⟨Am Nr,M,Gl⟩) (As hMM hMM) (Au Try.f63 0) 0 (Nx s a acc.length (Ee acc) j)) h3
     rw [if_neg hp] at e0 e5
     rw [e0,e5]
     refine .inr ⟨rfl,rfl,?_⟩
     rw [Ab h4]
     rfl
  ·rw [List.drop_eq_nil_of_le he]
   exact .inl ⟨rfl,Ab (Akg M s a acc.length (Ee acc) j (A6 he))⟩
theorem Aa9 (s:List UInt8):O4 s = Nx s 0 0 (λ_=>.und) (λi=>nth (O4 s).t i):=by kernel_rfl
theorem p41:A7 Try.prog Gl 63 psT:=by
 refine Av AL AN Try.func63 (by kernel_rfl) (by kernel_rfl) λvs v h' h=>?_
 unfold psT at h
 split at h
 ·rename_i s
  have:=Ac h
  simp only [Prod.mk.injEq] at this
  obtain ⟨rfl,rfl⟩:=this
  have hx:=AO AbW [(0,F6 s),(2,Dj s)]
  have hL:=AE [(0,F6 s),(2,Dj s)]
  cases hb:Abq s with
  | true =>
   have e1:psN s = 0:=by unfold psN psL; rw [hb]; rfl
   have e2:psE s = 2:=by unfold psE; rw [hb]; rfl
   have e3:psI s = 0:=by unfold psI; rw [hb]; rfl
   rw [e1,e2,e3]
   exact ⟨_,AI Gl Nr [(0,F6 s),(2,Dj s)],_,Bp.refl _,rfl,hx.1,hx.2,Ajb _ s hb,A8.one λj hj=>absurd hj (Nat.not_lt_zero _)⟩
  | false =>
   have hs:s.length <= 262144:=by
    unfold Abq at hb
    rw [show (262144:Int) = ofNat 262144 from rfl,Cs] at hb
    have:=of_decide_eq_false hb
    have hsl:Cq s = s.length:=rfl
    omega
   have e0:psL s = (psR s).1:=by unfold psL; rw [hb]; rfl
   have e2:psE s = (psR s).2.1:=by unfold psE; rw [hb]; rfl
   have e3:psI s = ofNat (psR s).2.2:=by unfold psI; rw [hb]; rfl
   have hg:ilt 262144 (ofNat (Cq s)) = false:=hb
   have key:∀ M,LLe M M->(∀ f st,M 2 f st = A4 f (Dj s) (Cq s+1) st)->((psR s).2.1 = 0 ∧ (A4 (EV M) (F6 s) (Cq s+1) (O4 s)).sem = some (PV s 0 (psR s).1.length (Ee (psR s).1))) ∨
     ((psR s).2.1 = 30 ∧ (psR s).1 = [] ∧ (A4 (EV M) (F6 s) (Cq s+1) (O4 s)).sem = some (T4 s (psR s).2.2 (Ji (s.length+1) s []).1.length (Ee (Ji (s.length+1) s []).1))):=λM h1 h2=>by
    rw [Aa9]
    exact Zo M h1 s hs h2 (s.length+1) 0 [] (λi=>nth (O4 s).t i) (by omega) (by omega) (Nat.le_refl _)
   have mm:∀ r,LLe (onP 0 (isP (AV [(0,F6 s),(2,Dj s)]) 0 r) r (AV [(0,F6 s),(2,Dj s)])) (onP 0 (isP (AV [(0,F6 s),(2,Dj s)]) 0 r) r (AV [(0,F6 s),(2,Dj s)])):=λr=>AhV hL 0 r
   rw [e2,e3]
   unfold psN psG
   rw [e0]
   by_cases hok:(psR s).2.1 = 0
   ·have hat:(psR s).2.2 = 0:=NJ _ _ _ _ hok
    have hw:=A2 (As hL hL) _ (Aja (AV [(0,F6 s),(2,Dj s)]) _ s 0 (psR s).1.length (Ee (psR s).1) hg (Aj (by
     rcases key _ (mm (PV s 0 (psR s).1.length (Ee (psR s).1))) (λ_ _=>rfl) with ⟨_,h2⟩ | ⟨h1,_⟩
     ·exact h2
     ·rw [hok] at h1; cases h1)))
    rw [hok,hat]
    exact ⟨_,AI Gl Nr [(0,F6 s),(2,Dj s)],_,Bp.refl _,rfl,hx.1,hx.2,hw,A8.one λj hj=>(HP (λi=>eV (LG (psR s).1 i)) (psR s).1.length j hj).symm⟩
   ·have hno:(psR s).2.1 = 30 ∧ (psR s).1 = []:=by
     rcases key _ (mm (PV s 0 0 (Ee []))) (λ_ _=>rfl) with ⟨h1,_⟩ | ⟨h1,h2,_⟩
     ·exact absurd h1 hok
     ·exact ⟨h1,h2⟩
    have hw:=A2 (As hL hL) _ (Ajc (AV [(0,F6 s),(2,Dj s)]) _ s (psR s).2.2 (Ji (s.length+1) s []).1.length (Ee (Ji (s.length+1) s []).1) hg (Aj (by
     rcases key _ (mm (T4 s (psR s).2.2 (Ji (s.length+1) s []).1.length (Ee (Ji (s.length+1) s []).1))) (λ_ _=>rfl) with ⟨h1,_⟩ | ⟨_,_,h3⟩
     ·exact absurd h1 hok
     ·exact h3)))
    rw [hno.1,hno.2]
    exact ⟨_,AI Gl Nr [(0,F6 s),(2,Dj s)],_,Bp.refl _,rfl,hx.1,hx.2,hw,A8.one λj hj=>absurd hj (Nat.not_lt_zero _)⟩
 ·cases h
end Go.Proofs.Ytjhnfomefcngfaa.Ed
