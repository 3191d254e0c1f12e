/-
  Parse: the edges of a text. No conditions.
-/
import Derived.Test.YtjhnfomefcngfaaCyT
import Derived.Test.YtjhnfomefcngfaaCyZ
import Derived.Test.YtjhnfomefcngfaaShG
namespace Go.Proofs.Ytjhnfomefcngfaa.Ed
open Go.Sy Go
def Gu (c:UInt8):Bool:=c == 32 || c == 9 || c == 10 || c == 13
def Di (x:Int):Bool:=bor (ieq x 32) (bor (ieq x 9) (bor (ieq x 10) (ieq x 13)))
theorem M3 (c:UInt8) (n:Nat) (hn:n < 256):ieq ((c.toNat:Nat):Int) (n:Int) = (c == UInt8.ofNat n):=by
  rw [Bool.eq_iff_iff]
  simp only [ieq,beq_iff_eq]
  constructor
  · intro h
    apply UInt8.toNat_inj.1
    rw [UInt8.toNat_ofNat_of_lt' (by simpa using hn)]
    omega
  · intro h
    rw [h,UInt8.toNat_ofNat_of_lt' (by simpa using hn)]
theorem ZM (c:UInt8):Di ((c.toNat:Nat):Int) = Gu c:=by
  unfold Di Gu bor
  have h1:=M3 c 32 (by decide)
  have h2:=M3 c 9 (by decide)
  have h3:=M3 c 10 (by decide)
  have h4:=M3 c 13 (by decide)
  have h1:ieq ((c.toNat:Nat):Int) 32 = (c == 32):=h1
  have h2:ieq ((c.toNat:Nat):Int) 9 = (c == 9):=h2
  have h3:ieq ((c.toNat:Nat):Int) 10 = (c == 10):=h3
  have h4:ieq ((c.toNat:Nat):Int) 13 = (c == 13):=h4
  rw [h1,h2,h3,h4]
  cases (c == 32) <;> cases (c == 9) <;> cases (c == 10) <;> rfl
def B1 (l:List UInt8):List UInt8:=l.takeWhile fun c=>!Gu c
def C1:Nat->List UInt8->Nat->List E6->List E6 × Int × Nat
  | 0,_,_,acc=>(acc,0,0)
  | _+1,[],_,acc=>(acc,0,0)
  | q+1,c :: l,a,acc =>
    if Gu c = true then C1 q l (a+1) acc
    else if DU (B1 (c :: l)) = 0 then C1 q ((c :: l).drop (B1 (c :: l)).length) (a+(B1 (c :: l)).length) (acc ++ [EQ (B1 (c :: l))])
    else ([],30,a)
theorem RC {b:UInt8} (hb:Gu b = true) (l:List UInt8) (q a:Nat) (acc:List E6):C1 (q+1) (b :: l) a acc = C1 q l (a+1) acc:=by
  rw [C1,if_pos hb]
theorem Xg (l:List UInt8):(B1 l).length <= l.length:=by
  induction l with
  | nil=>exact Nat.le_refl _
  | cons c l ih =>
    unfold B1 at ih ⊢
    cases hc:Gu c with
    | true=>rw [List.takeWhile_cons_of_neg (by simp [hc])]; exact Nat.zero_le _
    | false =>
      rw [List.takeWhile_cons_of_pos (by simp [hc])]
      simp only [List.length_cons]
      omega
section
variable (L:LT) (x:Int)
include L x
theorem Ag4 (h0:ieq x 32 = true):(A1 (Al tab ⟨Ao tb0,L,Gl⟩ Try.f96 [.val (.int .u8 x)] [])).sem = some ((bV true),[]):=Aa (bbK 9 511) ((fun c0 c1=>[c0,c0,c0,c1,c1,c1,c1,c1,c1]) (ieq x 32) (true)) (by kernel_rfl) (by simp only [h0] <;> rfl)
theorem Ag3 (h0:ieq x 32 = false) (h1:ieq x 9 = true):(A1 (Al tab ⟨Ao tb0,L,Gl⟩ Try.f96 [.val (.int .u8 x)] [])).sem = some ((bV true),[]):=Aa (bbK 9 504) [ieq x 32,ieq x 32,ieq x 32,ieq x 9,ieq x 9,ieq x 9,true,true,true] (by kernel_rfl) (by simp only [h0,h1] <;> rfl)
theorem Ag2 (h0:ieq x 32 = false) (h1:ieq x 9 = false) (h2:ieq x 10 = true):(A1 (Al tab ⟨Ao tb0,L,Gl⟩ Try.f96 [.val (.int .u8 x)] [])).sem = some ((bV true),[]):=Aa (bbK 9 448) [ieq x 32,ieq x 32,ieq x 32,ieq x 9,ieq x 9,ieq x 9,ieq x 10,ieq x 10,ieq x 10] (by kernel_rfl) (by simp only [*] <;> rfl)
theorem Ag1 (h0:ieq x 32 = false) (h1:ieq x 9 = false) (h2:ieq x 10 = false):(A1 (Al tab ⟨Ao tb0,L,Gl⟩ Try.f96 [.val (.int .u8 x)] [])).sem = some ((bV (ieq x 13)),[]):=Aa (bbK 9 0) [ieq x 32,ieq x 32,ieq x 32,ieq x 9,ieq x 9,ieq x 9,ieq x 10,ieq x 10,ieq x 10] (by kernel_rfl) (by simp only [*] <;> rfl)
end
def Ut:List V->T (V × List Blk)
  | [.val (.int .u8 x)]=>out (bV (Di x))
  | _=>.fail
theorem AbG {α:Type} {l:List α} {i:Nat} {d:α} (h:i < l.length):l.getD i d = l[i]:=by simp [List.getD,h]
theorem Fp {s:List UInt8} {a:Nat} (h:a < s.length):s.drop a = s[a] :: s.drop (a+1):=List.drop_eq_getElem_cons h
theorem Mm {s:List UInt8} {a:Nat} (h:a < s.length):Di (HT s a) = Gu s[a]:=by
  unfold HT
  rw [AbG h]
  exact ZM _
def Lm (l:List E6) (i:Nat):E6:=l.getD i FF
theorem Sp {l:List E6} {e:E6} {i:Nat} (h:i < l.length+1):Lm (l ++ [e]) i = if i = l.length then e else Lm l i:=by
  unfold Lm
  by_cases hi:i = l.length
  · rw [if_pos hi,hi]; simp
  · rw [if_neg hi]
    simp only [List.getD,List.getElem?_append_left (show i < l.length by omega)]
def Ej (acc:List E6):Nat->V:=BJ (fun i=>eV (Lm acc i)) acc.length
theorem LK {g g':Nat->V}:∀ n,(∀ i,i < n->g i = g' i)->BJ g n = BJ g' n
  | 0,_=>rfl
  | n+1,h=>by
    show AK n (BJ g n) (g n) = AK n (BJ g' n) (g' n)
    rw [h n (Nat.lt_succ_self n),LK n fun i hi=>h i (by omega)]
theorem Wp (acc:List E6) (e:E6):AK acc.length (Ej acc) (eV e) = Ej (acc ++ [e]):=by
  have h1:Ej (acc ++ [e]) = BJ (fun i=>eV (Lm (acc ++ [e]) i)) (acc.length+1):=by
    unfold Ej
    rw [List.length_append]
    rfl
  rw [h1]
  show _ = AK acc.length (BJ (fun i=>eV (Lm (acc ++ [e]) i)) acc.length) (eV (Lm (acc ++ [e]) acc.length))
  rw [Sp (Nat.lt_succ_self _),if_pos rfl]
  unfold Ej
  rw [LK (g:=fun i=>eV (Lm (acc ++ [e]) i)) (g':=fun i=>eV (Lm acc i)) acc.length fun i hi=>by
    show eV (Lm (acc ++ [e]) i) = eV (Lm acc i)
    rw [Sp (by omega),if_neg (by omega)]]
def Jq:Nat->List UInt8->List E6->List E6 × E6
  | 0,_,acc=>(acc,FF)
  | _+1,[],acc=>(acc,FF)
  | q+1,c :: l,acc =>
    if Gu c = true then Jq q l acc
    else if DU (B1 (c :: l)) = 0 then Jq q ((c :: l).drop (B1 (c :: l)).length) (acc ++ [EQ (B1 (c :: l))])
    else (acc,EQ (B1 (c :: l)))
def ZN (s:List UInt8):Bool:=ilt 262144 (Int.ofNat (BB s))
def psR (s:List UInt8):List E6 × Int × Nat:=C1 (s.length+1) s 0 []
def psL (s:List UInt8):List E6:=bif ZN s then [] else (psR s).1
def psE (s:List UInt8):Int:=bif ZN s then 2 else (psR s).2.1
def psI (s:List UInt8):Int:=bif ZN s then 0 else Int.ofNat (psR s).2.2
def psN (s:List UInt8):Nat:=(psL s).length
def psG (s:List UInt8) (i:Nat):E6:=Lm (psL s) i
def psT:List V->T (V × List Blk)
  | [.str s]=>.leaf (.tup [.ref 0,iV (psE s),iV (psI s)],[.row 44 6 (psN s) fun i=>eV (psG s i)])
  | _=>.fail
theorem Ng:∀ (q:Nat) (l:List UInt8) (a:Nat) (acc:List E6),(C1 q l a acc).2.1 = 0->(C1 q l a acc).2.2 = 0
  | 0,_,_,_,_=>rfl
  | q+1,[],_,_,_=>rfl
  | q+1,c :: l,a,acc,h=>by
    rw [C1] at h ⊢
    split
    · rename_i hc
      rw [if_pos hc] at h
      exact Ng q _ _ _ h
    · rename_i hc
      rw [if_neg hc] at h
      split
      · rename_i hp
        rw [if_pos hp] at h
        exact Ng q _ _ _ h
      · rename_i hp
        rw [if_neg hp] at h
        cases h
theorem AfM {L:LT} (hL:LLe L L) (k:Nat) (r:Ex × St):LLe (onP k (isP L k r) r L) (onP k (isP L k r) r L):=fun id f f' st hf r' hr=>by
  unfold onP at hr ⊢
  cases hk:Nat.beq id k with
  | true =>
    rw [hk] at hr
    obtain ⟨h1,h2⟩:=Ag hr
    unfold isP at h1
    have h1:=@of_decide_eq_true _ (Classical.propDecidable _) h1
    have h3:isP L k r f' st = true:=Ak (hL k f f' st hf _ h1)
    show sel (isP L k r f' st) _ _ = _
    rw [h3]
    exact h2
  | false =>
    rw [hk] at hr
    exact hL id f f' st hf _ hr
end Go.Proofs.Ytjhnfomefcngfaa.Ed
namespace Go.Proofs.Ytjhnfomefcngfaa.Ed
open Go.Sy Go
open Int (ofNat)
theorem e84 (Γ:Cx) (vs:List V) (h:List Blk):Al tab Γ Try.f96 vs h = Al tab Γ Try.f96 vs h:=by kernel_rfl
theorem p84:AD Try.prog Gl 96 Ut:=by
  refine A5 AO AP Try.func96 (by kernel_rfl) (by kernel_rfl) fun vs v h' h=>?_
  unfold Ut at h
  split at h
  · rename_i x
    have:=Ac h
    simp only [Prod.mk.injEq] at this
    obtain ⟨rfl,rfl⟩:=this
    have hx:=AQ CU []
    refine ⟨_,AR Gl tb0 [],_,BA.refl _,rfl,hx.1,hx.2,?_,AB.refl _⟩
    rw [e84]
    unfold Di
    cases c1:ieq x 32 with
    | true=>exact Ag4 _ x c1
    | false =>
      cases c2:ieq x 9 with
      | true=>exact Ag3 _ x c1 c2
      | false =>
        cases c3:ieq x 10 with
        | true=>exact Ag2 _ x c1 c2 c3
        | false=>exact Ag1 _ x c1 c2 c3
  · cases h
noncomputable def ME:List (Nat × (List V->T (V × List Blk))):=(96,Ut) :: (97,Rk TH) :: []
theorem Aax:AF Try.prog Gl ME:=.cons p84 <| .cons p22 .nil
def Py (s:List UInt8) (a k:Nat) (x:Nat->V):Ex × St:=(.rt,⟨(jsV 56 0 (fun _=>.und) [(2,.ref 1),(3,iV 30),(4,nV a),(6,.ref 2)]),[.row 44 6 0 (fun _=>.und),.row 44 6 0 (fun _=>.und),.row 44 6 k x]⟩)
def Db (s:List UInt8):Lp:=⟨(bmK 56 0 [0,2,3,4,5,6,7,8]),3,bmK 56 0 [0,2,3,4,5,6,7,8],3,BB s+1⟩
def MK (s:List UInt8) (a k:Nat) (x:Nat->V) (e:Nat) (j:Nat->V):St:=⟨(jsV 56 0 j [(0,.str s),(2,.ref 0),(3,iV 0),(4,iV 0),(5,.ref 1),(6,.ref 2),(7,nV e),(8,nV a)]),[.row 44 6 0 (fun _=>.und),.row 44 6 0 (fun _=>.und),.row 44 6 k x]⟩
def FX (s:List UInt8) (a k:Nat) (x:Nat->V) (e:Nat):Ex × St:=(.ex 2,⟨(jsV 56 0 (fun _=>.und) [(0,.str s),(2,.ref 0),(3,iV 0),(4,iV 0),(5,.ref 1),(6,.ref 2),(7,nV e),(8,nV a)]),[.row 44 6 0 (fun _=>.und),.row 44 6 0 (fun _=>.und),.row 44 6 k x]⟩)
noncomputable def Eb (L:LT):St->T (Ex × St):=fun st=>A9 tab ⟨Ao ME,L,Gl⟩ (Av Try.f63 2) 2 st
section
variable (L:LT) (s:List UInt8) (a k:Nat) (x:Nat->V) (e:Nat)  (j:Nat->V)
include L s a k x e j
theorem Ah6 (h0:ilt (ofNat e) (ofNat (BB s)) = false):Ai (Eb L) (Db s) (MK s a k x e j) = some ((.ex 2),⟨(jsV 56 0 (fun _=>.und) [(0,(.str s)),(2,(.ref 0)),(3,(iV 0)),(4,(iV 0)),(5,(.ref 1)),(6,(.ref 2)),(7,(nV e)),(8,(nV a))]),[.row 44 6 0 (fun _=>.und),.row 44 6 0 (fun _=>.und),.row 44 6 k x]⟩):=Aa (bbK 7 0) ((fun c0=>[c0,c0,c0,c0,c0,c0,false]) (ilt (ofNat e) (ofNat (BB s)))) (by kernel_rfl) (by simp only [h0] <;> rfl)
theorem Ah7 (h0:ilt (ofNat e) (ofNat (BB s)) = true) (h1:Af (ile 0 (ofNat e)) (ilt (ofNat e) (ofNat (BB s))) = true) (h2:Di (HT s e) = true):Ai (Eb L) (Db s) (MK s a k x e j) = some ((.ex 2),⟨(jsV 56 0 (fun _=>.und) [(0,(.str s)),(2,(.ref 0)),(3,(iV 0)),(4,(iV 0)),(5,(.ref 1)),(6,(.ref 2)),(7,(nV e)),(8,(nV a))]),[.row 44 6 0 (fun _=>.und),.row 44 6 0 (fun _=>.und),.row 44 6 k x]⟩):=Aa (bbK 8 127) ((fun c0=>[c0,c0,c0,Af (ile 0 (ofNat e)) (ilt (ofNat e) (ofNat (BB s))),c0,c0,c0,Am (Di (HT s e))]) (ilt (ofNat e) (ofNat (BB s)))) (by kernel_rfl) (by simp only [h1] <;> simp only [h0,h2] <;> rfl)
theorem Ah5 (h0:ilt (ofNat e) (ofNat (BB s)) = true) (h1:Af (ile 0 (ofNat e)) (ilt (ofNat e) (ofNat (BB s))) = true) (h2:Di (HT s e) = false):Ai (Eb L) (Db s) (MK s a k x e j) = some (.nm,⟨(jsV 56 0 (fun _=>.und) [(0,(.str s)),(2,(.ref 0)),(3,(iV 0)),(4,(iV 0)),(5,(.ref 1)),(6,(.ref 2)),(7,(iV (wr .i64 (Ae (ofNat e) 1)))),(8,(nV a))]),[.row 44 6 0 (fun _=>.und),.row 44 6 0 (fun _=>.und),.row 44 6 k x]⟩):=Aa (bbK 8 255) ((fun c0=>[c0,c0,c0,Af (ile 0 (ofNat e)) (ilt (ofNat e) (ofNat (BB s))),c0,c0,c0,Am (Di (HT s e))]) (ilt (ofNat e) (ofNat (BB s)))) (by kernel_rfl) (by simp only [h1] <;> simp only [h0,h2] <;> rfl)
end
def F1 (s:List UInt8):Lp:=⟨(bmK 56 0 [0,2,3,4,5,6,7]),3,bmK 56 0 [2,3,4,6],3,BB s+1⟩
def ML (s:List UInt8) (a k:Nat) (x:Nat->V) (j:Nat->V):St:=⟨(jsV 56 0 j [(0,.str s),(2,.ref 0),(3,iV 0),(4,iV 0),(5,.ref 1),(6,.ref 2),(7,nV a)]),[.row 44 6 0 (fun _=>.und),.row 44 6 0 (fun _=>.und),.row 44 6 k x]⟩
def Od (s:List UInt8) (a k:Nat) (x:Nat->V):Ex × St:=(.ex 0,⟨(jsV 56 0 (fun _=>.und) [(2,.ref 0),(3,iV 0),(4,iV 0),(6,.ref 2)]),[.row 44 6 0 (fun _=>.und),.row 44 6 0 (fun _=>.und),.row 44 6 k x]⟩)
noncomputable def Ec (L:LT):St->T (Ex × St):=fun st=>A9 tab ⟨Ao ME,L,Gl⟩ (Av Try.f63 0) 0 st
section
variable (L:LT) (s:List UInt8) (a k:Nat) (x:Nat->V)  (j:Nat->V)
include L s a k x j
theorem Ahv (h0:ilt (ofNat a) (ofNat (BB s)) = false):Ai (Ec L) (F1 s) (ML s a k x j) = some ((.ex 0),⟨(jsV 56 0 (fun _=>.und) [(2,(.ref 0)),(3,(iV 0)),(4,(iV 0)),(6,(.ref 2))]),[.row 44 6 0 (fun _=>.und),.row 44 6 0 (fun _=>.und),.row 44 6 k x]⟩):=Aa [false] [ilt (ofNat a) (ofNat (BB s))] (by kernel_rfl) (by simp only [h0] <;> rfl)
theorem Ahw (h0:ilt (ofNat a) (ofNat (BB s)) = true) (h1:Af (ile 0 (ofNat a)) (ilt (ofNat a) (ofNat (BB s))) = true) (h2:Di (HT s a) = true):Ai (Ec L) (F1 s) (ML s a k x j) = some (.nm,⟨(jsV 56 0 (fun _=>.und) [(0,(.str s)),(2,(.ref 0)),(3,(iV 0)),(4,(iV 0)),(5,(.ref 1)),(6,(.ref 2)),(7,(iV (wr .i64 (Ae (ofNat a) 1))))]),[.row 44 6 0 (fun _=>.und),.row 44 6 0 (fun _=>.und),.row 44 6 k x]⟩):=Aa [true,true,true] [ilt (ofNat a) (ofNat (BB s)),Af (ile 0 (ofNat a)) (ilt (ofNat a) (ofNat (BB s))),Di (HT s a)] (by kernel_rfl) (by simp only [h1] <;> simp only [h0,h2] <;> rfl)
end
def Hv (s:List UInt8) (a k:Nat) (x:Nat->V) (j:Nat->V):St:=⟨(jsV 56 0 j [(0,(.str s)),(2,(.ref 0)),(3,(iV 0)),(4,(iV 0)),(5,(.ref 1)),(6,(.ref 2)),(7,(nV a)),(8,(nV a)),(15,(nV a)),(16,(.str s)),(17,(iV (ofNat (BB s)))),(18,(bV (ilt (ofNat a) (ofNat (BB s))))),(19,(.str s)),(20,(nV a)),(21,(.val (Value.int IntKind.u8 (HT s a)))),(22,(bV (Di (HT s a)))),(25,(nV a))]),[.row 44 6 0 (fun _=>.und),.row 44 6 0 (fun _=>.und),.row 44 6 k x]⟩
section
variable (L:LT) (p2:PT) (s:List UInt8) (a k:Nat) (x:Nat->V) (e:Nat) (j:Nat->V)
include L p2 s a k x e j
theorem Aht (h0:ilt (ofNat a) (ofNat (BB s)) = true) (h1:Af (ile 0 (ofNat a)) (ilt (ofNat a) (ofNat (BB s))) = true) (h2:Di (HT s a) = false) (h3:Af (ile 0 (ofNat a)) (Af (ile (ofNat a) (ofNat e)) (ile (ofNat e) (ofNat (BB s)))) = true) (h4:ieq (DU (HG a (HF e s))) 0 = true) (h5:Bj k 1 40 = true) (hp2:p2 (Eb (onP 2 p2 (FX s a k x e) L)) (Hv s a k x j) = true):Ai (Ec (onP 2 p2 (FX s a k x e) L)) (F1 s) (ML s a k x j) = some (.nm,⟨(jsV 56 0 (fun _=>.und) [(0,(.str s)),(2,(.ref 0)),(3,(iV 0)),(4,(iV 0)),(5,(.ref 1)),(6,(.ref 2)),(7,(nV e))]),[.row 44 6 0 (fun _=>.und),.row 44 6 0 (fun _=>.und),.row 44 6 (B4 k 1) (AK k x (eV (EQ (HG a (HF e s)))))]⟩):=Aa (bbK 7 91) [ilt (ofNat a) (ofNat (BB s)),Af (ile 0 (ofNat a)) (ilt (ofNat a) (ofNat (BB s))),Di (HT s a),p2 (Eb (onP 2 p2 (FX s a k x e) L)) (Hv s a k x j),Af (ile 0 (ofNat a)) (Af (ile (ofNat a) (ofNat e)) (ile (ofNat e) (ofNat (BB s)))),Am (ieq (DU (HG a (HF e s))) 0),Bj k 1 40] (by kernel_rfl) (by simp only [hp2] <;> simp only [h1,h3] <;> simp only [*] <;> rfl)
theorem Ahu (h0:ilt (ofNat a) (ofNat (BB s)) = true) (h1:Af (ile 0 (ofNat a)) (ilt (ofNat a) (ofNat (BB s))) = true) (h2:Di (HT s a) = false) (h3:Af (ile 0 (ofNat a)) (Af (ile (ofNat a) (ofNat e)) (ile (ofNat e) (ofNat (BB s)))) = true) (h4:ieq (DU (HG a (HF e s))) 0 = false) (hp2:p2 (Eb (onP 2 p2 (FX s a k x e) L)) (Hv s a k x j) = true):Ai (Ec (onP 2 p2 (FX s a k x e) L)) (F1 s) (ML s a k x j) = some (.rt,⟨(jsV 56 0 (fun _=>.und) [(2,(.ref 1)),(3,(iV 30)),(4,(nV a)),(6,(.ref 2))]),[.row 44 6 0 (fun _=>.und),.row 44 6 0 (fun _=>.und),.row 44 6 k x]⟩):=Aa (bbK 6 59) [ilt (ofNat a) (ofNat (BB s)),Af (ile 0 (ofNat a)) (ilt (ofNat a) (ofNat (BB s))),Di (HT s a),p2 (Eb (onP 2 p2 (FX s a k x e) L)) (Hv s a k x j),Af (ile 0 (ofNat a)) (Af (ile (ofNat a) (ofNat e)) (ile (ofNat e) (ofNat (BB s)))),Am (ieq (DU (HG a (HF e s))) 0)] (by kernel_rfl) (by simp only [hp2] <;> simp only [h1,h3] <;> simp only [*] <;> rfl)
end
def Kz (s:List UInt8) :St:=⟨(jsV 56 0 (fun _=>A7) [(0,(.str s)),(2,(.ref 0)),(3,(iV 0)),(4,(iV 0)),(5,(.ref 1)),(6,(.ref 2)),(7,(iV 0)),(11,(.str s)),(12,(iV (ofNat (BB s)))),(13,(bV (ilt 262144 (ofNat (BB s)))))]),[.row 44 6 0 (fun _=>.und),.row 44 6 0 (fun _=>.und),.row 44 6 0 (fun _=>.und)]⟩
theorem AgF (L:LT) (s:List UInt8) (h0:ilt 262144 (ofNat (BB s)) = true):(A1 (Al tab ⟨Ao ME,L,Gl⟩ Try.f63 [.str s] [])).sem = some ((.tup [.ref 0,iV 2,iV 0]),[.row 44 6 0 (fun _=>.und)]):=Aa [true] [ilt 262144 (ofNat (BB s))] (by kernel_rfl) (by simp only [h0] <;> rfl)
section
variable (L:LT) (p0:PT) (s:List UInt8) (a k:Nat) (x:Nat->V)
include L p0 s a k x
theorem AgE (h0:ilt 262144 (ofNat (BB s)) = false) (hp0:p0 (Ec (onP 0 p0 (Od s a k x) L)) (Kz s) = true):(A1 (Al tab ⟨Ao ME,onP 0 p0 (Od s a k x) L,Gl⟩ Try.f63 [.str s] [])).sem = some ((.tup [.ref 0,iV 0,iV 0]),[.row 44 6 k x]):=Aa [false,true] [ilt 262144 (ofNat (BB s)),p0 (Ec (onP 0 p0 (Od s a k x) L)) (Kz s)] (by kernel_rfl) (by simp only [hp0] <;> simp only [h0] <;> rfl)
theorem AgG (h0:ilt 262144 (ofNat (BB s)) = false) (hp0:p0 (Ec (onP 0 p0 (Py s a k x) L)) (Kz s) = true):(A1 (Al tab ⟨Ao ME,onP 0 p0 (Py s a k x) L,Gl⟩ Try.f63 [.str s] [])).sem = some ((.tup [.ref 0,iV 30,nV a]),[.row 44 6 0 (fun _=>.und)]):=Aa [false,true] [ilt 262144 (ofNat (BB s)),p0 (Ec (onP 0 p0 (Py s a k x) L)) (Kz s)] (by kernel_rfl) (by simp only [hp0] <;> simp only [h0] <;> rfl)
end
theorem XZ (L:LT) (s:List UInt8) (hs:s.length <= 262144) (a k:Nat) (x:Nat->V):∀ (q e:Nat) (j:Nat->V),s.length - e < q ->
    (A3 (Eb L) (Db s) q (MK s a k x e j)).sem = some (FX s a k x (e+(B1 (s.drop e)).length))
  | 0,e,j,h=>absurd h (Nat.not_lt_zero _)
  | q+1,e,j,h=>by
    have hsl:BB s = s.length:=rfl
    rcases Nat.lt_or_ge e s.length with he | he
    · have c0:ilt (ofNat e) (ofNat (BB s)) = true:=ofNat_lt he
      have c1:Af (ile 0 (ofNat e)) (ilt (ofNat e) (ofNat (BB s))) = true:=Ay he
      rw [Fp he]
      cases hb:Gu s[e] with
      | true =>
        rw [show B1 (s[e] :: s.drop (e+1)) = [] by unfold B1; rw [List.takeWhile_cons_of_neg (by simp [hb])]]
        exact Ab (Ah7 L s a k x e j c0 c1 (by rw [Mm he]; exact hb))
      | false =>
        rw [Ab (Ah5 L s a k x e j c0 c1 (by rw [Mm he]; exact hb)),Aw,Aq (n:=s.length) he (by omega)]
        have:=XZ L s hs a k x q (e+1) (fun _=>.und) (by omega)
        rw [show B1 (s[e] :: s.drop (e+1)) = s[e] :: B1 (s.drop (e+1)) by unfold B1; rw [List.takeWhile_cons_of_pos (by simp [hb])],List.length_cons,show e+((B1 (s.drop (e+1))).length+1) = e+1+(B1 (s.drop (e+1))).length by omega]
        exact this
    · rw [List.drop_eq_nil_of_le he]
      exact Ab (Ah6 L s a k x e j (A8 he))
theorem Uf (s:List UInt8) (a k:Nat) (x:Nat->V) (j:Nat->V):Hv s a k x j = MK s a k x a (fun i=>nth (Hv s a k x j).t i):=by kernel_rfl
theorem Ya (M:LT) (hMM:LLe M M) (s:List UInt8) (hs:s.length <= 262144) (m2:∀ f st,M 2 f st = A3 f (Db s) (BB s+1) st):∀ (q a:Nat) (acc:List E6) (j:Nat->V),s.length - a < q->a <= s.length->acc.length <= a ->
    ((C1 q (s.drop a) a acc).2.1 = 0 ∧ (A3 (Ec M) (F1 s) q (ML s a acc.length (Ej acc) j)).sem = some (Od s 0 (C1 q (s.drop a) a acc).1.length (Ej (C1 q (s.drop a) a acc).1))) ∨
    ((C1 q (s.drop a) a acc).2.1 = 30 ∧ (C1 q (s.drop a) a acc).1 = [] ∧ (A3 (Ec M) (F1 s) q (ML s a acc.length (Ej acc) j)).sem = some (Py s (C1 q (s.drop a) a acc).2.2 (Jq q (s.drop a) acc).1.length (Ej (Jq q (s.drop a) acc).1)))
  | 0,a,acc,j,h,_,_=>absurd h (Nat.not_lt_zero _)
  | q+1,a,acc,j,h,ha,hk=>by
    have hsl:BB s = s.length:=rfl
    rcases Nat.lt_or_ge a s.length with he | he
    · have c0:ilt (ofNat a) (ofNat (BB s)) = true:=ofNat_lt he
      have c1:Af (ile 0 (ofNat a)) (ilt (ofNat a) (ofNat (BB s))) = true:=Ay he
      cases hb:Gu s[a] with
      | true =>
        have e1:C1 (q+1) (s.drop a) a acc = C1 q (s.drop (a+1)) (a+1) acc:=by rw [Fp he,RC hb]
        have e2:Jq (q+1) (s.drop a) acc = Jq q (s.drop (a+1)) acc:=by rw [Fp he,Jq,if_pos hb]
        rw [e1,e2,Ab (Ahw M s a acc.length (Ej acc) j c0 c1 (by rw [Mm he]; exact hb)),Aw,Aq (n:=s.length) he (by omega)]
        exact Ya M hMM s hs m2 q (a+1) acc (fun _=>.und) (by omega) (by omega) (by omega)
      | false =>
        have c2:Di (HT s a) = false:=by rw [Mm he]; exact hb
        have hw0:0 < (B1 (s.drop a)).length:=by
          rw [Fp he]
          unfold B1
          rw [List.takeWhile_cons_of_pos (by simp [hb])]
          exact Nat.succ_pos _
        have hwl:=Xg (s.drop a)
        rw [List.length_drop] at hwl
        have hi:∀ M',(M 2 (Eb M') (Hv s a acc.length (Ej acc) j)).sem = some (FX s a acc.length (Ej acc) (a+(B1 (s.drop a)).length)):=fun M'=>by
          rw [m2,Uf]
          exact XZ M' s hs a acc.length (Ej acc) (BB s+1) a _ (by omega)
        have hsub:HG a (HF (a+(B1 (s.drop a)).length) s) = B1 (s.drop a):=by
          show (s.take (a+(B1 (s.drop a)).length)).drop a = _
          rw [List.drop_take,show a+(B1 (s.drop a)).length - a = (B1 (s.drop a)).length by omega]
          exact (List.prefix_iff_eq_take.1 (List.takeWhile_prefix _)).symm
        have c3:Af (ile 0 (ofNat a)) (Af (ile (ofNat a) (ofNat (a+(B1 (s.drop a)).length))) (ile (ofNat (a+(B1 (s.drop a)).length)) (ofNat (BB s)))) = true:=by
          rw [AJ,ile_nat,ile_nat,decide_eq_true (by omega),decide_eq_true (by omega)]
          rfl
        have e0:C1 (q+1) (s.drop a) a acc = if DU (B1 (s.drop a)) = 0 then C1 q ((s.drop a).drop (B1 (s.drop a)).length) (a+(B1 (s.drop a)).length) (acc ++ [EQ (B1 (s.drop a))]) else ([],30,a):=by
          rw [Fp he,C1,if_neg (by rw [hb]; decide)]
        have e5:Jq (q+1) (s.drop a) acc = if DU (B1 (s.drop a)) = 0 then Jq q ((s.drop a).drop (B1 (s.drop a)).length) (acc ++ [EQ (B1 (s.drop a))]) else (acc,EQ (B1 (s.drop a))):=by
          rw [Fp he,Jq,if_neg (by rw [hb]; decide)]
        by_cases hp:DU (B1 (s.drop a)) = 0
        · have c4:ieq (DU (HG a (HF (a+(B1 (s.drop a)).length) s))) 0 = true:=by rw [hsub,hp]; rfl
          have h9:(acc.length+1) * 40 <= 140737488355328:=by omega
          have h3:=Aht M _ s a acc.length (Ej acc) (a+(B1 (s.drop a)).length) j c0 c1 c2 c3 c4 (decide_eq_true h9) (Ak (hi _))
          have h4:Ai (Ec M) (F1 s) (ML s a acc.length (Ej acc) j) = _:=CJ (l:=F1 s) (Dx (Γ:=⟨Ao ME,M,Gl⟩) (Ax hMM hMM) (Av Try.f63 0) 0 (ML s a acc.length (Ej acc) j)) h3
          rw [if_pos hp,List.drop_drop] at e0 e5
          rw [e0,e5,Ab h4,Aw,hsub,Wp]
          have ih:=Ya M hMM s hs m2 q (a+(B1 (s.drop a)).length) (acc ++ [EQ (B1 (s.drop a))]) (fun _=>.und) (by omega) (by omega) (by rw [List.length_append]; simp only [List.length_cons,List.length_nil]; omega)
          rw [show (acc ++ [EQ (B1 (s.drop a))]).length = acc.length+1 from List.length_append] at ih
          exact ih
        · have c4:ieq (DU (HG a (HF (a+(B1 (s.drop a)).length) s))) 0 = false:=by rw [hsub]; simp [ieq,hp]
          have h3:=Ahu M _ s a acc.length (Ej acc) (a+(B1 (s.drop a)).length) j c0 c1 c2 c3 c4 (Ak (hi _))
          have h4:Ai (Ec M) (F1 s) (ML s a acc.length (Ej acc) j) = _:=CJ (l:=F1 s) (Dx (Γ:=⟨Ao ME,M,Gl⟩) (Ax hMM hMM) (Av Try.f63 0) 0 (ML s a acc.length (Ej acc) j)) h3
          rw [if_neg hp] at e0 e5
          rw [e0,e5]
          refine .inr ⟨rfl,rfl,?_⟩
          rw [Ab h4]
          rfl
    · rw [List.drop_eq_nil_of_le he]
      exact .inl ⟨rfl,Ab (Ahv M s a acc.length (Ej acc) j (A8 he))⟩
theorem Zw (s:List UInt8):Kz s = ML s 0 0 (fun _=>.und) (fun i=>nth (Kz s).t i):=by kernel_rfl
theorem p41:AD Try.prog Gl 63 psT:=by
  refine A5 AO AP Try.func63 (by kernel_rfl) (by kernel_rfl) fun vs v h' h=>?_
  unfold psT at h
  split at h
  · rename_i s
    have:=Ac h
    simp only [Prod.mk.injEq] at this
    obtain ⟨rfl,rfl⟩:=this
    have hx:=AQ Aax [(0,F1 s),(2,Db s)]
    have hL:=AC [(0,F1 s),(2,Db s)]
    cases hb:ZN s with
    | true =>
      have e1:psN s = 0:=by unfold psN psL; rw [hb]; rfl
      have e2:psE s = 2:=by unfold psE; rw [hb]; rfl
      have e3:psI s = 0:=by unfold psI; rw [hb]; rfl
      rw [e1,e2,e3]
      exact ⟨_,AR Gl ME [(0,F1 s),(2,Db s)],_,BA.refl _,rfl,hx.1,hx.2,AgF _ s hb,AB.one fun j hj=>absurd hj (Nat.not_lt_zero _)⟩
    | false =>
      have hs:s.length <= 262144:=by
        unfold ZN at hb
        rw [show (262144:Int) = ofNat 262144 from rfl,Cz] at hb
        have:=of_decide_eq_false hb
        have hsl:BB s = s.length:=rfl
        omega
      have e0:psL s = (psR s).1:=by unfold psL; rw [hb]; rfl
      have e2:psE s = (psR s).2.1:=by unfold psE; rw [hb]; rfl
      have e3:psI s = ofNat (psR s).2.2:=by unfold psI; rw [hb]; rfl
      have hg:ilt 262144 (ofNat (BB s)) = false:=hb
      have key:∀ M,LLe M M->(∀ f st,M 2 f st = A3 f (Db s) (BB s+1) st)->((psR s).2.1 = 0 ∧ (A3 (Ec M) (F1 s) (BB s+1) (Kz s)).sem = some (Od s 0 (psR s).1.length (Ej (psR s).1))) ∨
          ((psR s).2.1 = 30 ∧ (psR s).1 = [] ∧ (A3 (Ec M) (F1 s) (BB s+1) (Kz s)).sem = some (Py s (psR s).2.2 (Jq (s.length+1) s []).1.length (Ej (Jq (s.length+1) s []).1))):=fun M h1 h2=>by
        rw [Zw]
        exact Ya M h1 s hs h2 (s.length+1) 0 [] (fun i=>nth (Kz s).t i) (by omega) (by omega) (Nat.le_refl _)
      have mm:∀ r,LLe (onP 0 (isP (Bc [(0,F1 s),(2,Db s)]) 0 r) r (Bc [(0,F1 s),(2,Db s)])) (onP 0 (isP (Bc [(0,F1 s),(2,Db s)]) 0 r) r (Bc [(0,F1 s),(2,Db s)])):=fun r=>AfM hL 0 r
      rw [e2,e3]
      unfold psN psG
      rw [e0]
      by_cases hok:(psR s).2.1 = 0
      · have hat:(psR s).2.2 = 0:=Ng _ _ _ _ hok
        have hw:=A6 (Ax hL hL) _ (AgE (Bc [(0,F1 s),(2,Db s)]) _ s 0 (psR s).1.length (Ej (psR s).1) hg (Ak (by
          rcases key _ (mm (Od s 0 (psR s).1.length (Ej (psR s).1))) (fun _ _=>rfl) with ⟨_,h2⟩ | ⟨h1,_⟩
          · exact h2
          · rw [hok] at h1; cases h1)))
        rw [hok,hat]
        exact ⟨_,AR Gl ME [(0,F1 s),(2,Db s)],_,BA.refl _,rfl,hx.1,hx.2,hw,AB.one fun j hj=>(Ib (fun i=>eV (Lm (psR s).1 i)) (psR s).1.length j hj).symm⟩
      · have hno:(psR s).2.1 = 30 ∧ (psR s).1 = []:=by
          rcases key _ (mm (Od s 0 0 (Ej []))) (fun _ _=>rfl) with ⟨h1,_⟩ | ⟨h1,h2,_⟩
          · exact absurd h1 hok
          · exact ⟨h1,h2⟩
        have hw:=A6 (Ax hL hL) _ (AgG (Bc [(0,F1 s),(2,Db s)]) _ s (psR s).2.2 (Jq (s.length+1) s []).1.length (Ej (Jq (s.length+1) s []).1) hg (Ak (by
          rcases key _ (mm (Py s (psR s).2.2 (Jq (s.length+1) s []).1.length (Ej (Jq (s.length+1) s []).1))) (fun _ _=>rfl) with ⟨h1,_⟩ | ⟨_,_,h3⟩
          · exact absurd h1 hok
          · exact h3)))
        rw [hno.1,hno.2]
        exact ⟨_,AR Gl ME [(0,F1 s),(2,Db s)],_,BA.refl _,rfl,hx.1,hx.2,hw,AB.one fun j hj=>absurd hj (Nat.not_lt_zero _)⟩
  · cases h
end Go.Proofs.Ytjhnfomefcngfaa.Ed
namespace Go.Proofs.Ytjhnfomefcngfaa.Sh
open Go.Sy Ed
open Int (ofNat)
set_option maxRecDepth 4000
def Akq:List UInt8:=[120,121,122,97,98,99,100,101,102,103,104,105,106,107,108,109]
def FE (x:Int):Int:=bif bor (ilt x 0) (ile 16 x) then 4 else 0
def FD (x:Int):List UInt8:=bif bor (ilt x 0) (ile 16 x) then [] else [Akq.getD x.toNat 0]
def AfF:List V->T (V × List Blk)
  | [.val (.int .i64 x)]=>.leaf (.tup [.str (FD x),iV (FE x)],[])
  | _=>.fail
section
variable (L:LT) (x:Int)
include L x
theorem Aj2 (h0:ilt x 0 = true):(A1 (Al tab ⟨Ao tb0,L,Gl⟩ Try.f37 [iV x] [])).sem = some ((.tup [.str [],iV 4]),[]):=Aa [true,true,true,true] [ilt x 0,ilt x 0,ilt x 0,true] (by kernel_rfl) (by simp only [h0] <;> rfl)
theorem Aj3 (h0:ilt x 0 = false) (h1:ile 16 x = true):(A1 (Al tab ⟨Ao tb0,L,Gl⟩ Try.f37 [iV x] [])).sem = some ((.tup [.str [],iV 4]),[]):=Aa [false,false,false,true] [ilt x 0,ilt x 0,ilt x 0,ile 16 x] (by kernel_rfl) (by simp only [h0,h1] <;> rfl)
end
theorem Aby:(A1 (Al tab (AR Gl tb0 []) Try.f37 [nV 0] [])).sem = some (.tup [.str (FD (ofNat 0)),iV (FE (ofNat 0))],[]):=by kernel_rfl
theorem Abx:(A1 (Al tab (AR Gl tb0 []) Try.f37 [nV 1] [])).sem = some (.tup [.str (FD (ofNat 1)),iV (FE (ofNat 1))],[]):=by kernel_rfl
theorem Abw:(A1 (Al tab (AR Gl tb0 []) Try.f37 [nV 2] [])).sem = some (.tup [.str (FD (ofNat 2)),iV (FE (ofNat 2))],[]):=by kernel_rfl
theorem Abv:(A1 (Al tab (AR Gl tb0 []) Try.f37 [nV 3] [])).sem = some (.tup [.str (FD (ofNat 3)),iV (FE (ofNat 3))],[]):=by kernel_rfl
theorem Abu:(A1 (Al tab (AR Gl tb0 []) Try.f37 [nV 4] [])).sem = some (.tup [.str (FD (ofNat 4)),iV (FE (ofNat 4))],[]):=by kernel_rfl
theorem Abt:(A1 (Al tab (AR Gl tb0 []) Try.f37 [nV 5] [])).sem = some (.tup [.str (FD (ofNat 5)),iV (FE (ofNat 5))],[]):=by kernel_rfl
theorem Abs:(A1 (Al tab (AR Gl tb0 []) Try.f37 [nV 6] [])).sem = some (.tup [.str (FD (ofNat 6)),iV (FE (ofNat 6))],[]):=by kernel_rfl
theorem Abr:(A1 (Al tab (AR Gl tb0 []) Try.f37 [nV 7] [])).sem = some (.tup [.str (FD (ofNat 7)),iV (FE (ofNat 7))],[]):=by kernel_rfl
theorem Abq:(A1 (Al tab (AR Gl tb0 []) Try.f37 [nV 8] [])).sem = some (.tup [.str (FD (ofNat 8)),iV (FE (ofNat 8))],[]):=by kernel_rfl
theorem Abp:(A1 (Al tab (AR Gl tb0 []) Try.f37 [nV 9] [])).sem = some (.tup [.str (FD (ofNat 9)),iV (FE (ofNat 9))],[]):=by kernel_rfl
theorem YG:(A1 (Al tab (AR Gl tb0 []) Try.f37 [nV 10] [])).sem = some (.tup [.str (FD (ofNat 10)),iV (FE (ofNat 10))],[]):=by kernel_rfl
theorem YF:(A1 (Al tab (AR Gl tb0 []) Try.f37 [nV 11] [])).sem = some (.tup [.str (FD (ofNat 11)),iV (FE (ofNat 11))],[]):=by kernel_rfl
theorem YE:(A1 (Al tab (AR Gl tb0 []) Try.f37 [nV 12] [])).sem = some (.tup [.str (FD (ofNat 12)),iV (FE (ofNat 12))],[]):=by kernel_rfl
theorem YD:(A1 (Al tab (AR Gl tb0 []) Try.f37 [nV 13] [])).sem = some (.tup [.str (FD (ofNat 13)),iV (FE (ofNat 13))],[]):=by kernel_rfl
theorem YC:(A1 (Al tab (AR Gl tb0 []) Try.f37 [nV 14] [])).sem = some (.tup [.str (FD (ofNat 14)),iV (FE (ofNat 14))],[]):=by kernel_rfl
theorem YB:(A1 (Al tab (AR Gl tb0 []) Try.f37 [nV 15] [])).sem = some (.tup [.str (FD (ofNat 15)),iV (FE (ofNat 15))],[]):=by kernel_rfl
theorem Ai7 (k:Nat) (hk:k < 16):(A1 (Al tab (AR Gl tb0 []) Try.f37 [nV k] [])).sem = some (.tup [.str (FD (ofNat k)),iV (FE (ofNat k))],[]):=by
  have:k = 0 ∨ k = 1 ∨ k = 2 ∨ k = 3 ∨ k = 4 ∨ k = 5 ∨ k = 6 ∨ k = 7 ∨ k = 8 ∨ k = 9 ∨ k = 10 ∨ k = 11 ∨ k = 12 ∨ k = 13 ∨ k = 14 ∨ k = 15:=by omega
  rcases this with rfl | rfl | rfl | rfl | rfl | rfl | rfl | rfl | rfl | rfl | rfl | rfl | rfl | rfl | rfl | rfl
  · exact Aby
  · exact Abx
  · exact Abw
  · exact Abv
  · exact Abu
  · exact Abt
  · exact Abs
  · exact Abr
  · exact Abq
  · exact Abp
  · exact YG
  · exact YF
  · exact YE
  · exact YD
  · exact YC
  · exact YB
theorem p37:AD Try.prog Gl 37 AfF:=by
  refine AD.congr (AS AO AP Try.func37 (by kernel_rfl) (by kernel_rfl) (Γ:=AR Gl tb0 []) (AQ CU [])) fun vs r h=>?_
  unfold AfF at h
  split at h
  · rename_i x
    rw [Ac h]
    show (A1 (Al tab (AR Gl tb0 []) Try.f37 [iV x] [])).sem = _
    cases c0:ilt x 0 with
    | true =>
      rw [show FD x = [] by unfold FD bor; rw [c0]; rfl,show FE x = 4 by unfold FE bor; rw [c0]; rfl]
      exact Aj2 _ x c0
    | false =>
      cases c1:ile 16 x with
      | true =>
        rw [show FD x = [] by unfold FD bor; rw [c0,c1]; rfl,show FE x = 4 by unfold FE bor; rw [c0,c1]; rfl]
        exact Aj3 _ x c0 c1
      | false =>
        have h1:¬ x < 0:=of_decide_eq_false c0
        have h2:¬ (16:Int) <= x:=of_decide_eq_false c1
        obtain ⟨k,rfl⟩:∃ k:Nat,x = ofNat k:=⟨x.toNat,by simp only [Int.ofNat_eq_natCast]; omega⟩
        exact Ai7 k (by simp only [Int.ofNat_eq_natCast] at h2; omega)
  · cases h
noncomputable def AdF:List (Nat × (List V->T (V × List Blk))):=[(63,psT),(14,ofT),(37,AfF)]
theorem Aa1:AF Try.prog Gl AdF:=.cons p41 <| .cons p14 <| .cons p37 .nil
theorem AiY:(A1 (Al tab (AR Gl AdF []) Try.f18 [] [])).sem = some (bV true,[]):=by kernel_rfl
theorem p18:AD Try.prog Gl 18 (Xm (bV true)):=by
  refine AD.congr (AS AO AP Try.func18 (by kernel_rfl) (by kernel_rfl) (Γ:=AR Gl AdF []) (AQ Aa1 [])) fun vs r h=>?_
  unfold Xm at h
  split at h
  · rw [Ac h]
    exact AiY
  · cases h
end Go.Proofs.Ytjhnfomefcngfaa.Sh
