/-
  Parse: the edges of a text. No conditions.
-/
import Derived.Test.YtjhnfomefcngfaaCyT
import Derived.Test.YtjhnfomefcngfaaShW
namespace Go.Proofs.Ytjhnfomefcngfaa.Ed
open Go.Sy Go
def G1 (c:UInt8):Bool:=c == 32 || c == 9 || c == 10 || c == 13
def Dq (x:Int):Bool:=bor (ieq x 32) (bor (ieq x 9) (bor (ieq x 10) (ieq x 13)))
theorem M8 (c:UInt8) (n:Nat) (hn:n < 256):ieq ((c.toNat:Nat):Int) (n:Int) = (c == UInt8.ofNat n):=by
  rw [Bool.eq_iff_iff]
  simp only [ieq,beq_iff_eq]
  constructor
  · intro h
    apply UInt8.toNat_inj.1
    rw [UInt8.toNat_ofNat_of_lt' (by simpa using hn)]
    omega
  · intro h
    rw [h,UInt8.toNat_ofNat_of_lt' (by simpa using hn)]
theorem Zy (c:UInt8):Dq ((c.toNat:Nat):Int) = G1 c:=by
  unfold Dq G1 bor
  have h1:=M8 c 32 (by decide)
  have h2:=M8 c 9 (by decide)
  have h3:=M8 c 10 (by decide)
  have h4:=M8 c 13 (by decide)
  have h1:ieq ((c.toNat:Nat):Int) 32 = (c == 32):=h1
  have h2:ieq ((c.toNat:Nat):Int) 9 = (c == 9):=h2
  have h3:ieq ((c.toNat:Nat):Int) 10 = (c == 10):=h3
  have h4:ieq ((c.toNat:Nat):Int) 13 = (c == 13):=h4
  rw [h1,h2,h3,h4]
  cases (c == 32) <;> cases (c == 9) <;> cases (c == 10) <;> rfl
def B2 (l:List UInt8):List UInt8:=l.takeWhile fun c=>!G1 c
def CE:Nat->List UInt8->Nat->List E6->List E6 × Int × Nat
  | 0,_,_,acc=>(acc,0,0)
  | _+1,[],_,acc=>(acc,0,0)
  | q+1,c :: l,a,acc =>
    if G1 c = true then CE q l (a+1) acc
    else if Ee (B2 (c :: l)) = 0 then CE q ((c :: l).drop (B2 (c :: l)).length) (a+(B2 (c :: l)).length) (acc ++ [EV (B2 (c :: l))])
    else ([],30,a)
theorem RG {b:UInt8} (hb:G1 b = true) (l:List UInt8) (q a:Nat) (acc:List E6):CE (q+1) (b :: l) a acc = CE q l (a+1) acc:=by
  rw [CE,if_pos hb]
theorem WU (l:List UInt8):(B2 l).length <= l.length:=by
  induction l with
  | nil=>exact Nat.le_refl _
  | cons c l ih =>
    unfold B2 at ih ⊢
    cases hc:G1 c with
    | true=>rw [List.takeWhile_cons_of_neg (by simp [hc])]; exact Nat.zero_le _
    | false =>
      rw [List.takeWhile_cons_of_pos (by simp [hc])]
      simp only [List.length_cons]
      omega
section
variable (L:LT) (x:Int)
include L x
theorem Agx (h0:ieq x 32 = true):(As (Aj tab ⟨Ao tb0,L,Gl⟩ Try.f96 [.val (.int .u8 x)] [])).sem = some ((bV true),[]):=Aa (bbK 9 511) ((fun c0 c1=>[c0,c0,c0,c1,c1,c1,c1,c1,c1]) (ieq x 32) (true)) (by kernel_rfl) (by simp only [h0] <;> rfl)
theorem Agw (h0:ieq x 32 = false) (h1:ieq x 9 = true):(As (Aj tab ⟨Ao tb0,L,Gl⟩ Try.f96 [.val (.int .u8 x)] [])).sem = some ((bV true),[]):=Aa (bbK 9 504) [ieq x 32,ieq x 32,ieq x 32,ieq x 9,ieq x 9,ieq x 9,true,true,true] (by kernel_rfl) (by simp only [h0,h1] <;> rfl)
theorem Agv (h0:ieq x 32 = false) (h1:ieq x 9 = false) (h2:ieq x 10 = true):(As (Aj tab ⟨Ao tb0,L,Gl⟩ Try.f96 [.val (.int .u8 x)] [])).sem = some ((bV true),[]):=Aa (bbK 9 448) [ieq x 32,ieq x 32,ieq x 32,ieq x 9,ieq x 9,ieq x 9,ieq x 10,ieq x 10,ieq x 10] (by kernel_rfl) (by simp only [*] <;> rfl)
theorem Agu (h0:ieq x 32 = false) (h1:ieq x 9 = false) (h2:ieq x 10 = false):(As (Aj tab ⟨Ao tb0,L,Gl⟩ Try.f96 [.val (.int .u8 x)] [])).sem = some ((bV (ieq x 13)),[]):=Aa (bbK 9 0) [ieq x 32,ieq x 32,ieq x 32,ieq x 9,ieq x 9,ieq x 9,ieq x 10,ieq x 10,ieq x 10] (by kernel_rfl) (by simp only [*] <;> rfl)
end
def Ul:List V->T (V × List Blk)
  | [.val (.int .u8 x)]=>out (bV (Dq x))
  | _=>.fail
theorem Ab0 {α:Type} {l:List α} {i:Nat} {d:α} (h:i < l.length):l.getD i d = l[i]:=by simp [List.getD,h]
theorem Fs {s:List UInt8} {a:Nat} (h:a < s.length):s.drop a = s[a] :: s.drop (a+1):=List.drop_eq_getElem_cons h
theorem Mp {s:List UInt8} {a:Nat} (h:a < s.length):Dq (Ia s a) = G1 s[a]:=by
  unfold Ia
  rw [Ab0 h]
  exact Zy _
def Lr (l:List E6) (i:Nat):E6:=l.getD i FK
theorem Ss {l:List E6} {e:E6} {i:Nat} (h:i < l.length+1):Lr (l ++ [e]) i = if i = l.length then e else Lr l i:=by
  unfold Lr
  by_cases hi:i = l.length
  · rw [if_pos hi,hi]; simp
  · rw [if_neg hi]
    simp only [List.getD,List.getElem?_append_left (show i < l.length by omega)]
def En (acc:List E6):Nat->V:=BM (fun i=>eV (Lr acc i)) acc.length
theorem LP {g g':Nat->V}:∀ n,(∀ i,i < n->g i = g' i)->BM g n = BM g' n
  | 0,_=>rfl
  | n+1,h=>by
    show AO n (BM g n) (g n) = AO n (BM g' n) (g' n)
    rw [h n (Nat.lt_succ_self n),LP n fun i hi=>h i (by omega)]
theorem Wj (acc:List E6) (e:E6):AO acc.length (En acc) (eV e) = En (acc ++ [e]):=by
  have h1:En (acc ++ [e]) = BM (fun i=>eV (Lr (acc ++ [e]) i)) (acc.length+1):=by
    unfold En
    rw [List.length_append]
    rfl
  rw [h1]
  show _ = AO acc.length (BM (fun i=>eV (Lr (acc ++ [e]) i)) acc.length) (eV (Lr (acc ++ [e]) acc.length))
  rw [Ss (Nat.lt_succ_self _),if_pos rfl]
  unfold En
  rw [LP (g:=fun i=>eV (Lr (acc ++ [e]) i)) (g':=fun i=>eV (Lr acc i)) acc.length fun i hi=>by
    show eV (Lr (acc ++ [e]) i) = eV (Lr acc i)
    rw [Ss (by omega),if_neg (by omega)]]
def Ju:Nat->List UInt8->List E6->List E6 × E6
  | 0,_,acc=>(acc,FK)
  | _+1,[],acc=>(acc,FK)
  | q+1,c :: l,acc =>
    if G1 c = true then Ju q l acc
    else if Ee (B2 (c :: l)) = 0 then Ju q ((c :: l).drop (B2 (c :: l)).length) (acc ++ [EV (B2 (c :: l))])
    else (acc,EV (B2 (c :: l)))
def Zz (s:List UInt8):Bool:=ilt 262144 (Int.ofNat (B6 s))
def psR (s:List UInt8):List E6 × Int × Nat:=CE (s.length+1) s 0 []
def psL (s:List UInt8):List E6:=bif Zz s then [] else (psR s).1
def psE (s:List UInt8):Int:=bif Zz s then 2 else (psR s).2.1
def psI (s:List UInt8):Int:=bif Zz s then 0 else Int.ofNat (psR s).2.2
def psN (s:List UInt8):Nat:=(psL s).length
def psG (s:List UInt8) (i:Nat):E6:=Lr (psL s) i
def psT:List V->T (V × List Blk)
  | [.str s]=>.leaf (.tup [.ref 0,iV (psE s),iV (psI s)],[.row 44 6 (psN s) fun i=>eV (psG s i)])
  | _=>.fail
theorem Nm:∀ (q:Nat) (l:List UInt8) (a:Nat) (acc:List E6),(CE q l a acc).2.1 = 0->(CE q l a acc).2.2 = 0
  | 0,_,_,_,_=>rfl
  | q+1,[],_,_,_=>rfl
  | q+1,c :: l,a,acc,h=>by
    rw [CE] at h ⊢
    split
    · rename_i hc
      rw [if_pos hc] at h
      exact Nm q _ _ _ h
    · rename_i hc
      rw [if_neg hc] at h
      split
      · rename_i hp
        rw [if_pos hp] at h
        exact Nm q _ _ _ h
      · rename_i hp
        rw [if_neg hp] at h
        cases h
theorem AfD {L:LT} (hL:LLe L L) (k:Nat) (r:Ex × St):LLe (onP k (isP L k r) r L) (onP k (isP L k r) r L):=fun id f f' st hf r' hr=>by
  unfold onP at hr ⊢
  cases hk:Nat.beq id k with
  | true =>
    rw [hk] at hr
    obtain ⟨h1,h2⟩:=Ah hr
    unfold isP at h1
    have h1:=@of_decide_eq_true _ (Classical.propDecidable _) h1
    have h3:isP L k r f' st = true:=An (hL k f f' st hf _ h1)
    show sel (isP L k r f' st) _ _ = _
    rw [h3]
    exact h2
  | false =>
    rw [hk] at hr
    exact hL id f f' st hf _ hr
end Go.Proofs.Ytjhnfomefcngfaa.Ed
namespace Go.Proofs.Ytjhnfomefcngfaa.Ed
open Go.Sy Go
open Int (ofNat)
theorem e84 (Γ:Cx) (vs:List V) (h:List Blk):Aj tab Γ Try.f96 vs h = Aj tab Γ Try.f96 vs h:=by kernel_rfl
theorem p84:AB Try.prog Gl 96 Ul:=by
  refine A1 AQ AR Try.func96 (by kernel_rfl) (by kernel_rfl) fun vs v h' h=>?_
  unfold Ul at h
  split at h
  · rename_i x
    have:=Ad h
    simp only [Prod.mk.injEq] at this
    obtain ⟨rfl,rfl⟩:=this
    have hx:=AP CW []
    refine ⟨_,AI Gl tb0 [],_,Bw.refl _,rfl,hx.1,hx.2,?_,A6.refl _⟩
    rw [e84]
    unfold Dq
    cases c1:ieq x 32 with
    | true=>exact Agx _ x c1
    | false =>
      cases c2:ieq x 9 with
      | true=>exact Agw _ x c1 c2
      | false =>
        cases c3:ieq x 10 with
        | true=>exact Agv _ x c1 c2 c3
        | false=>exact Agu _ x c1 c2 c3
  · cases h
noncomputable def MK:List (Nat × (List V->T (V × List Blk))):=(96,Ul) :: (97,Rn TD) :: []
theorem Aaa:AC Try.prog Gl MK:=.cons p84 <| .cons p22 .nil
def Px (s:List UInt8) (a k:Nat) (x:Nat->V):Ex × St:=(.rt,⟨(jsV 56 0 (fun _=>.und) [(2,.ref 1),(3,iV 30),(4,nV a),(6,.ref 2)]),[.row 44 6 0 (fun _=>.und),.row 44 6 0 (fun _=>.und),.row 44 6 k x]⟩)
def Dl (s:List UInt8):Lp:=⟨(bmK 56 0 [0,2,3,4,5,6,7,8]),3,bmK 56 0 [0,2,3,4,5,6,7,8],3,B6 s+1⟩
def MQ (s:List UInt8) (a k:Nat) (x:Nat->V) (e:Nat) (j:Nat->V):St:=⟨(jsV 56 0 j [(0,.str s),(2,.ref 0),(3,iV 0),(4,iV 0),(5,.ref 1),(6,.ref 2),(7,nV e),(8,nV a)]),[.row 44 6 0 (fun _=>.und),.row 44 6 0 (fun _=>.und),.row 44 6 k x]⟩
def Ge (s:List UInt8) (a k:Nat) (x:Nat->V) (e:Nat):Ex × St:=(.ex 2,⟨(jsV 56 0 (fun _=>.und) [(0,.str s),(2,.ref 0),(3,iV 0),(4,iV 0),(5,.ref 1),(6,.ref 2),(7,nV e),(8,nV a)]),[.row 44 6 0 (fun _=>.und),.row 44 6 0 (fun _=>.und),.row 44 6 k x]⟩)
noncomputable def Ei (L:LT):St->T (Ex × St):=fun st=>AE tab ⟨Ao MK,L,Gl⟩ (Az Try.f63 2) 2 st
section
variable (L:LT) (s:List UInt8) (a k:Nat) (x:Nat->V) (e:Nat)  (j:Nat->V)
include L s a k x e j
theorem Ahz (h0:ilt (ofNat e) (ofNat (B6 s)) = false):Al (Ei L) (Dl s) (MQ s a k x e j) = some ((.ex 2),⟨(jsV 56 0 (fun _=>.und) [(0,(.str s)),(2,(.ref 0)),(3,(iV 0)),(4,(iV 0)),(5,(.ref 1)),(6,(.ref 2)),(7,(nV e)),(8,(nV a))]),[.row 44 6 0 (fun _=>.und),.row 44 6 0 (fun _=>.und),.row 44 6 k x]⟩):=Aa (bbK 7 0) ((fun c0=>[c0,c0,c0,c0,c0,c0,false]) (ilt (ofNat e) (ofNat (B6 s)))) (by kernel_rfl) (by simp only [h0] <;> rfl)
theorem Ah0 (h0:ilt (ofNat e) (ofNat (B6 s)) = true) (h1:Ag (ile 0 (ofNat e)) (ilt (ofNat e) (ofNat (B6 s))) = true) (h2:Dq (Ia s e) = true):Al (Ei L) (Dl s) (MQ s a k x e j) = some ((.ex 2),⟨(jsV 56 0 (fun _=>.und) [(0,(.str s)),(2,(.ref 0)),(3,(iV 0)),(4,(iV 0)),(5,(.ref 1)),(6,(.ref 2)),(7,(nV e)),(8,(nV a))]),[.row 44 6 0 (fun _=>.und),.row 44 6 0 (fun _=>.und),.row 44 6 k x]⟩):=Aa (bbK 8 127) ((fun c0=>[c0,c0,c0,Ag (ile 0 (ofNat e)) (ilt (ofNat e) (ofNat (B6 s))),c0,c0,c0,Am (Dq (Ia s e))]) (ilt (ofNat e) (ofNat (B6 s)))) (by kernel_rfl) (by simp only [h1] <;> simp only [h0,h2] <;> rfl)
theorem Ahy (h0:ilt (ofNat e) (ofNat (B6 s)) = true) (h1:Ag (ile 0 (ofNat e)) (ilt (ofNat e) (ofNat (B6 s))) = true) (h2:Dq (Ia s e) = false):Al (Ei L) (Dl s) (MQ s a k x e j) = some (.nm,⟨(jsV 56 0 (fun _=>.und) [(0,(.str s)),(2,(.ref 0)),(3,(iV 0)),(4,(iV 0)),(5,(.ref 1)),(6,(.ref 2)),(7,(iV (wr .i64 (Af (ofNat e) 1)))),(8,(nV a))]),[.row 44 6 0 (fun _=>.und),.row 44 6 0 (fun _=>.und),.row 44 6 k x]⟩):=Aa (bbK 8 255) ((fun c0=>[c0,c0,c0,Ag (ile 0 (ofNat e)) (ilt (ofNat e) (ofNat (B6 s))),c0,c0,c0,Am (Dq (Ia s e))]) (ilt (ofNat e) (ofNat (B6 s)))) (by kernel_rfl) (by simp only [h1] <;> simp only [h0,h2] <;> rfl)
end
def F5 (s:List UInt8):Lp:=⟨(bmK 56 0 [0,2,3,4,5,6,7]),3,bmK 56 0 [2,3,4,6],3,B6 s+1⟩
def MR (s:List UInt8) (a k:Nat) (x:Nat->V) (j:Nat->V):St:=⟨(jsV 56 0 j [(0,.str s),(2,.ref 0),(3,iV 0),(4,iV 0),(5,.ref 1),(6,.ref 2),(7,nV a)]),[.row 44 6 0 (fun _=>.und),.row 44 6 0 (fun _=>.und),.row 44 6 k x]⟩
def Ob (s:List UInt8) (a k:Nat) (x:Nat->V):Ex × St:=(.ex 0,⟨(jsV 56 0 (fun _=>.und) [(2,.ref 0),(3,iV 0),(4,iV 0),(6,.ref 2)]),[.row 44 6 0 (fun _=>.und),.row 44 6 0 (fun _=>.und),.row 44 6 k x]⟩)
noncomputable def Ej (L:LT):St->T (Ex × St):=fun st=>AE tab ⟨Ao MK,L,Gl⟩ (Az Try.f63 0) 0 st
section
variable (L:LT) (s:List UInt8) (a k:Nat) (x:Nat->V)  (j:Nat->V)
include L s a k x j
theorem Aho (h0:ilt (ofNat a) (ofNat (B6 s)) = false):Al (Ej L) (F5 s) (MR s a k x j) = some ((.ex 0),⟨(jsV 56 0 (fun _=>.und) [(2,(.ref 0)),(3,(iV 0)),(4,(iV 0)),(6,(.ref 2))]),[.row 44 6 0 (fun _=>.und),.row 44 6 0 (fun _=>.und),.row 44 6 k x]⟩):=Aa [false] [ilt (ofNat a) (ofNat (B6 s))] (by kernel_rfl) (by simp only [h0] <;> rfl)
theorem Ahp (h0:ilt (ofNat a) (ofNat (B6 s)) = true) (h1:Ag (ile 0 (ofNat a)) (ilt (ofNat a) (ofNat (B6 s))) = true) (h2:Dq (Ia s a) = true):Al (Ej L) (F5 s) (MR s a k x j) = some (.nm,⟨(jsV 56 0 (fun _=>.und) [(0,(.str s)),(2,(.ref 0)),(3,(iV 0)),(4,(iV 0)),(5,(.ref 1)),(6,(.ref 2)),(7,(iV (wr .i64 (Af (ofNat a) 1))))]),[.row 44 6 0 (fun _=>.und),.row 44 6 0 (fun _=>.und),.row 44 6 k x]⟩):=Aa [true,true,true] [ilt (ofNat a) (ofNat (B6 s)),Ag (ile 0 (ofNat a)) (ilt (ofNat a) (ofNat (B6 s))),Dq (Ia s a)] (by kernel_rfl) (by simp only [h1] <;> simp only [h0,h2] <;> rfl)
end
def H5 (s:List UInt8) (a k:Nat) (x:Nat->V) (j:Nat->V):St:=⟨(jsV 56 0 j [(0,(.str s)),(2,(.ref 0)),(3,(iV 0)),(4,(iV 0)),(5,(.ref 1)),(6,(.ref 2)),(7,(nV a)),(8,(nV a)),(15,(nV a)),(16,(.str s)),(17,(iV (ofNat (B6 s)))),(18,(bV (ilt (ofNat a) (ofNat (B6 s))))),(19,(.str s)),(20,(nV a)),(21,(.val (Value.int IntKind.u8 (Ia s a)))),(22,(bV (Dq (Ia s a)))),(25,(nV a))]),[.row 44 6 0 (fun _=>.und),.row 44 6 0 (fun _=>.und),.row 44 6 k x]⟩
section
variable (L:LT) (p2:PT) (s:List UInt8) (a k:Nat) (x:Nat->V) (e:Nat) (j:Nat->V)
include L p2 s a k x e j
theorem Ahm (h0:ilt (ofNat a) (ofNat (B6 s)) = true) (h1:Ag (ile 0 (ofNat a)) (ilt (ofNat a) (ofNat (B6 s))) = true) (h2:Dq (Ia s a) = false) (h3:Ag (ile 0 (ofNat a)) (Ag (ile (ofNat a) (ofNat e)) (ile (ofNat e) (ofNat (B6 s)))) = true) (h4:ieq (Ee (HO a (HN e s))) 0 = true) (h5:AN k 1 40 = true) (hp2:p2 (Ei (onP 2 p2 (Ge s a k x e) L)) (H5 s a k x j) = true):Al (Ej (onP 2 p2 (Ge s a k x e) L)) (F5 s) (MR s a k x j) = some (.nm,⟨(jsV 56 0 (fun _=>.und) [(0,(.str s)),(2,(.ref 0)),(3,(iV 0)),(4,(iV 0)),(5,(.ref 1)),(6,(.ref 2)),(7,(nV e))]),[.row 44 6 0 (fun _=>.und),.row 44 6 0 (fun _=>.und),.row 44 6 (Bj k 1) (AO k x (eV (EV (HO a (HN e s)))))]⟩):=Aa (bbK 7 91) [ilt (ofNat a) (ofNat (B6 s)),Ag (ile 0 (ofNat a)) (ilt (ofNat a) (ofNat (B6 s))),Dq (Ia s a),p2 (Ei (onP 2 p2 (Ge s a k x e) L)) (H5 s a k x j),Ag (ile 0 (ofNat a)) (Ag (ile (ofNat a) (ofNat e)) (ile (ofNat e) (ofNat (B6 s)))),Am (ieq (Ee (HO a (HN e s))) 0),AN k 1 40] (by kernel_rfl) (by simp only [hp2] <;> simp only [h1,h3] <;> simp only [*] <;> rfl)
theorem Ahn (h0:ilt (ofNat a) (ofNat (B6 s)) = true) (h1:Ag (ile 0 (ofNat a)) (ilt (ofNat a) (ofNat (B6 s))) = true) (h2:Dq (Ia s a) = false) (h3:Ag (ile 0 (ofNat a)) (Ag (ile (ofNat a) (ofNat e)) (ile (ofNat e) (ofNat (B6 s)))) = true) (h4:ieq (Ee (HO a (HN e s))) 0 = false) (hp2:p2 (Ei (onP 2 p2 (Ge s a k x e) L)) (H5 s a k x j) = true):Al (Ej (onP 2 p2 (Ge s a k x e) L)) (F5 s) (MR s a k x j) = some (.rt,⟨(jsV 56 0 (fun _=>.und) [(2,(.ref 1)),(3,(iV 30)),(4,(nV a)),(6,(.ref 2))]),[.row 44 6 0 (fun _=>.und),.row 44 6 0 (fun _=>.und),.row 44 6 k x]⟩):=Aa (bbK 6 59) [ilt (ofNat a) (ofNat (B6 s)),Ag (ile 0 (ofNat a)) (ilt (ofNat a) (ofNat (B6 s))),Dq (Ia s a),p2 (Ei (onP 2 p2 (Ge s a k x e) L)) (H5 s a k x j),Ag (ile 0 (ofNat a)) (Ag (ile (ofNat a) (ofNat e)) (ile (ofNat e) (ofNat (B6 s)))),Am (ieq (Ee (HO a (HN e s))) 0)] (by kernel_rfl) (by simp only [hp2] <;> simp only [h1,h3] <;> simp only [*] <;> rfl)
end
def K4 (s:List UInt8) :St:=⟨(jsV 56 0 (fun _=>A8) [(0,(.str s)),(2,(.ref 0)),(3,(iV 0)),(4,(iV 0)),(5,(.ref 1)),(6,(.ref 2)),(7,(iV 0)),(11,(.str s)),(12,(iV (ofNat (B6 s)))),(13,(bV (ilt 262144 (ofNat (B6 s)))))]),[.row 44 6 0 (fun _=>.und),.row 44 6 0 (fun _=>.und),.row 44 6 0 (fun _=>.und)]⟩
theorem Ag8 (L:LT) (s:List UInt8) (h0:ilt 262144 (ofNat (B6 s)) = true):(As (Aj tab ⟨Ao MK,L,Gl⟩ Try.f63 [.str s] [])).sem = some ((.tup [.ref 0,iV 2,iV 0]),[.row 44 6 0 (fun _=>.und)]):=Aa [true] [ilt 262144 (ofNat (B6 s))] (by kernel_rfl) (by simp only [h0] <;> rfl)
section
variable (L:LT) (p0:PT) (s:List UInt8) (a k:Nat) (x:Nat->V)
include L p0 s a k x
theorem Ag7 (h0:ilt 262144 (ofNat (B6 s)) = false) (hp0:p0 (Ej (onP 0 p0 (Ob s a k x) L)) (K4 s) = true):(As (Aj tab ⟨Ao MK,onP 0 p0 (Ob s a k x) L,Gl⟩ Try.f63 [.str s] [])).sem = some ((.tup [.ref 0,iV 0,iV 0]),[.row 44 6 k x]):=Aa [false,true] [ilt 262144 (ofNat (B6 s)),p0 (Ej (onP 0 p0 (Ob s a k x) L)) (K4 s)] (by kernel_rfl) (by simp only [hp0] <;> simp only [h0] <;> rfl)
theorem Ag9 (h0:ilt 262144 (ofNat (B6 s)) = false) (hp0:p0 (Ej (onP 0 p0 (Px s a k x) L)) (K4 s) = true):(As (Aj tab ⟨Ao MK,onP 0 p0 (Px s a k x) L,Gl⟩ Try.f63 [.str s] [])).sem = some ((.tup [.ref 0,iV 30,nV a]),[.row 44 6 0 (fun _=>.und)]):=Aa [false,true] [ilt 262144 (ofNat (B6 s)),p0 (Ej (onP 0 p0 (Px s a k x) L)) (K4 s)] (by kernel_rfl) (by simp only [hp0] <;> simp only [h0] <;> rfl)
end
theorem XH (L:LT) (s:List UInt8) (hs:s.length <= 262144) (a k:Nat) (x:Nat->V):∀ (q e:Nat) (j:Nat->V),s.length - e < q ->
    (A7 (Ei L) (Dl s) q (MQ s a k x e j)).sem = some (Ge s a k x (e+(B2 (s.drop e)).length))
  | 0,e,j,h=>absurd h (Nat.not_lt_zero _)
  | q+1,e,j,h=>by
    have hsl:B6 s = s.length:=rfl
    rcases Nat.lt_or_ge e s.length with he | he
    · have c0:ilt (ofNat e) (ofNat (B6 s)) = true:=ofNat_lt he
      have c1:Ag (ile 0 (ofNat e)) (ilt (ofNat e) (ofNat (B6 s))) = true:=Ax he
      rw [Fs he]
      cases hb:G1 s[e] with
      | true =>
        rw [show B2 (s[e] :: s.drop (e+1)) = [] by unfold B2; rw [List.takeWhile_cons_of_neg (by simp [hb])]]
        exact Ac (Ah0 L s a k x e j c0 c1 (by rw [Mp he]; exact hb))
      | false =>
        rw [Ac (Ahy L s a k x e j c0 c1 (by rw [Mp he]; exact hb)),Av,Aq (n:=s.length) he (by omega)]
        have:=XH L s hs a k x q (e+1) (fun _=>.und) (by omega)
        rw [show B2 (s[e] :: s.drop (e+1)) = s[e] :: B2 (s.drop (e+1)) by unfold B2; rw [List.takeWhile_cons_of_pos (by simp [hb])],List.length_cons,show e+((B2 (s.drop (e+1))).length+1) = e+1+(B2 (s.drop (e+1))).length by omega]
        exact this
    · rw [List.drop_eq_nil_of_le he]
      exact Ac (Ahz L s a k x e j (AA he))
theorem Ua (s:List UInt8) (a k:Nat) (x:Nat->V) (j:Nat->V):H5 s a k x j = MQ s a k x a (fun i=>nth (H5 s a k x j).t i):=by kernel_rfl
theorem XI (M:LT) (hMM:LLe M M) (s:List UInt8) (hs:s.length <= 262144) (m2:∀ f st,M 2 f st = A7 f (Dl s) (B6 s+1) st):∀ (q a:Nat) (acc:List E6) (j:Nat->V),s.length - a < q->a <= s.length->acc.length <= a ->
    ((CE q (s.drop a) a acc).2.1 = 0 ∧ (A7 (Ej M) (F5 s) q (MR s a acc.length (En acc) j)).sem = some (Ob s 0 (CE q (s.drop a) a acc).1.length (En (CE q (s.drop a) a acc).1))) ∨
    ((CE q (s.drop a) a acc).2.1 = 30 ∧ (CE q (s.drop a) a acc).1 = [] ∧ (A7 (Ej M) (F5 s) q (MR s a acc.length (En acc) j)).sem = some (Px s (CE q (s.drop a) a acc).2.2 (Ju q (s.drop a) acc).1.length (En (Ju q (s.drop a) acc).1)))
  | 0,a,acc,j,h,_,_=>absurd h (Nat.not_lt_zero _)
  | q+1,a,acc,j,h,ha,hk=>by
    have hsl:B6 s = s.length:=rfl
    rcases Nat.lt_or_ge a s.length with he | he
    · have c0:ilt (ofNat a) (ofNat (B6 s)) = true:=ofNat_lt he
      have c1:Ag (ile 0 (ofNat a)) (ilt (ofNat a) (ofNat (B6 s))) = true:=Ax he
      cases hb:G1 s[a] with
      | true =>
        have e1:CE (q+1) (s.drop a) a acc = CE q (s.drop (a+1)) (a+1) acc:=by rw [Fs he,RG hb]
        have e2:Ju (q+1) (s.drop a) acc = Ju q (s.drop (a+1)) acc:=by rw [Fs he,Ju,if_pos hb]
        rw [e1,e2,Ac (Ahp M s a acc.length (En acc) j c0 c1 (by rw [Mp he]; exact hb)),Av,Aq (n:=s.length) he (by omega)]
        exact XI M hMM s hs m2 q (a+1) acc (fun _=>.und) (by omega) (by omega) (by omega)
      | false =>
        have c2:Dq (Ia s a) = false:=by rw [Mp he]; exact hb
        have hw0:0 < (B2 (s.drop a)).length:=by
          rw [Fs he]
          unfold B2
          rw [List.takeWhile_cons_of_pos (by simp [hb])]
          exact Nat.succ_pos _
        have hwl:=WU (s.drop a)
        rw [List.length_drop] at hwl
        have hi:∀ M',(M 2 (Ei M') (H5 s a acc.length (En acc) j)).sem = some (Ge s a acc.length (En acc) (a+(B2 (s.drop a)).length)):=fun M'=>by
          rw [m2,Ua]
          exact XH M' s hs a acc.length (En acc) (B6 s+1) a _ (by omega)
        have hsub:HO a (HN (a+(B2 (s.drop a)).length) s) = B2 (s.drop a):=by
          show (s.take (a+(B2 (s.drop a)).length)).drop a = _
          rw [List.drop_take,show a+(B2 (s.drop a)).length - a = (B2 (s.drop a)).length by omega]
          exact (List.prefix_iff_eq_take.1 (List.takeWhile_prefix _)).symm
        have c3:Ag (ile 0 (ofNat a)) (Ag (ile (ofNat a) (ofNat (a+(B2 (s.drop a)).length))) (ile (ofNat (a+(B2 (s.drop a)).length)) (ofNat (B6 s)))) = true:=by
          rw [AH,ile_nat,ile_nat,decide_eq_true (by omega),decide_eq_true (by omega)]
          rfl
        have e0:CE (q+1) (s.drop a) a acc = if Ee (B2 (s.drop a)) = 0 then CE q ((s.drop a).drop (B2 (s.drop a)).length) (a+(B2 (s.drop a)).length) (acc ++ [EV (B2 (s.drop a))]) else ([],30,a):=by
          rw [Fs he,CE,if_neg (by rw [hb]; decide)]
        have e5:Ju (q+1) (s.drop a) acc = if Ee (B2 (s.drop a)) = 0 then Ju q ((s.drop a).drop (B2 (s.drop a)).length) (acc ++ [EV (B2 (s.drop a))]) else (acc,EV (B2 (s.drop a))):=by
          rw [Fs he,Ju,if_neg (by rw [hb]; decide)]
        by_cases hp:Ee (B2 (s.drop a)) = 0
        · have c4:ieq (Ee (HO a (HN (a+(B2 (s.drop a)).length) s))) 0 = true:=by rw [hsub,hp]; rfl
          have h9:(acc.length+1) * 40 <= 140737488355328:=by omega
          have h3:=Ahm M _ s a acc.length (En acc) (a+(B2 (s.drop a)).length) j c0 c1 c2 c3 c4 (decide_eq_true h9) (An (hi _))
          have h4:Al (Ej M) (F5 s) (MR s a acc.length (En acc) j) = _:=DO (l:=F5 s) (F9 (Γ:=⟨Ao MK,M,Gl⟩) (Aw hMM hMM) (Az Try.f63 0) 0 (MR s a acc.length (En acc) j)) h3
          rw [if_pos hp,List.drop_drop] at e0 e5
          rw [e0,e5,Ac h4,Av,hsub,Wj]
          have ih:=XI M hMM s hs m2 q (a+(B2 (s.drop a)).length) (acc ++ [EV (B2 (s.drop a))]) (fun _=>.und) (by omega) (by omega) (by rw [List.length_append]; simp only [List.length_cons,List.length_nil]; omega)
          rw [show (acc ++ [EV (B2 (s.drop a))]).length = acc.length+1 from List.length_append] at ih
          exact ih
        · have c4:ieq (Ee (HO a (HN (a+(B2 (s.drop a)).length) s))) 0 = false:=by rw [hsub]; simp [ieq,hp]
          have h3:=Ahn M _ s a acc.length (En acc) (a+(B2 (s.drop a)).length) j c0 c1 c2 c3 c4 (An (hi _))
          have h4:Al (Ej M) (F5 s) (MR s a acc.length (En acc) j) = _:=DO (l:=F5 s) (F9 (Γ:=⟨Ao MK,M,Gl⟩) (Aw hMM hMM) (Az Try.f63 0) 0 (MR s a acc.length (En acc) j)) h3
          rw [if_neg hp] at e0 e5
          rw [e0,e5]
          refine .inr ⟨rfl,rfl,?_⟩
          rw [Ac h4]
          rfl
    · rw [List.drop_eq_nil_of_le he]
      exact .inl ⟨rfl,Ac (Aho M s a acc.length (En acc) j (AA he))⟩
theorem Zb (s:List UInt8):K4 s = MR s 0 0 (fun _=>.und) (fun i=>nth (K4 s).t i):=by kernel_rfl
theorem p41:AB Try.prog Gl 63 psT:=by
  refine A1 AQ AR Try.func63 (by kernel_rfl) (by kernel_rfl) fun vs v h' h=>?_
  unfold psT at h
  split at h
  · rename_i s
    have:=Ad h
    simp only [Prod.mk.injEq] at this
    obtain ⟨rfl,rfl⟩:=this
    have hx:=AP Aaa [(0,F5 s),(2,Dl s)]
    have hL:=AD [(0,F5 s),(2,Dl s)]
    cases hb:Zz s with
    | true =>
      have e1:psN s = 0:=by unfold psN psL; rw [hb]; rfl
      have e2:psE s = 2:=by unfold psE; rw [hb]; rfl
      have e3:psI s = 0:=by unfold psI; rw [hb]; rfl
      rw [e1,e2,e3]
      exact ⟨_,AI Gl MK [(0,F5 s),(2,Dl s)],_,Bw.refl _,rfl,hx.1,hx.2,Ag8 _ s hb,A6.one fun j hj=>absurd hj (Nat.not_lt_zero _)⟩
    | false =>
      have hs:s.length <= 262144:=by
        unfold Zz at hb
        rw [show (262144:Int) = ofNat 262144 from rfl,CB] at hb
        have:=of_decide_eq_false hb
        have hsl:B6 s = s.length:=rfl
        omega
      have e0:psL s = (psR s).1:=by unfold psL; rw [hb]; rfl
      have e2:psE s = (psR s).2.1:=by unfold psE; rw [hb]; rfl
      have e3:psI s = ofNat (psR s).2.2:=by unfold psI; rw [hb]; rfl
      have hg:ilt 262144 (ofNat (B6 s)) = false:=hb
      have key:∀ M,LLe M M->(∀ f st,M 2 f st = A7 f (Dl s) (B6 s+1) st)->((psR s).2.1 = 0 ∧ (A7 (Ej M) (F5 s) (B6 s+1) (K4 s)).sem = some (Ob s 0 (psR s).1.length (En (psR s).1))) ∨
          ((psR s).2.1 = 30 ∧ (psR s).1 = [] ∧ (A7 (Ej M) (F5 s) (B6 s+1) (K4 s)).sem = some (Px s (psR s).2.2 (Ju (s.length+1) s []).1.length (En (Ju (s.length+1) s []).1))):=fun M h1 h2=>by
        rw [Zb]
        exact XI M h1 s hs h2 (s.length+1) 0 [] (fun i=>nth (K4 s).t i) (by omega) (by omega) (Nat.le_refl _)
      have mm:∀ r,LLe (onP 0 (isP (Bk [(0,F5 s),(2,Dl s)]) 0 r) r (Bk [(0,F5 s),(2,Dl s)])) (onP 0 (isP (Bk [(0,F5 s),(2,Dl s)]) 0 r) r (Bk [(0,F5 s),(2,Dl s)])):=fun r=>AfD hL 0 r
      rw [e2,e3]
      unfold psN psG
      rw [e0]
      by_cases hok:(psR s).2.1 = 0
      · have hat:(psR s).2.2 = 0:=Nm _ _ _ _ hok
        have hw:=A3 (Aw hL hL) _ (Ag7 (Bk [(0,F5 s),(2,Dl s)]) _ s 0 (psR s).1.length (En (psR s).1) hg (An (by
          rcases key _ (mm (Ob s 0 (psR s).1.length (En (psR s).1))) (fun _ _=>rfl) with ⟨_,h2⟩ | ⟨h1,_⟩
          · exact h2
          · rw [hok] at h1; cases h1)))
        rw [hok,hat]
        exact ⟨_,AI Gl MK [(0,F5 s),(2,Dl s)],_,Bw.refl _,rfl,hx.1,hx.2,hw,A6.one fun j hj=>(Ij (fun i=>eV (Lr (psR s).1 i)) (psR s).1.length j hj).symm⟩
      · have hno:(psR s).2.1 = 30 ∧ (psR s).1 = []:=by
          rcases key _ (mm (Ob s 0 0 (En []))) (fun _ _=>rfl) with ⟨h1,_⟩ | ⟨h1,h2,_⟩
          · exact absurd h1 hok
          · exact ⟨h1,h2⟩
        have hw:=A3 (Aw hL hL) _ (Ag9 (Bk [(0,F5 s),(2,Dl s)]) _ s (psR s).2.2 (Ju (s.length+1) s []).1.length (En (Ju (s.length+1) s []).1) hg (An (by
          rcases key _ (mm (Px s (psR s).2.2 (Ju (s.length+1) s []).1.length (En (Ju (s.length+1) s []).1))) (fun _ _=>rfl) with ⟨h1,_⟩ | ⟨_,_,h3⟩
          · exact absurd h1 hok
          · exact h3)))
        rw [hno.1,hno.2]
        exact ⟨_,AI Gl MK [(0,F5 s),(2,Dl s)],_,Bw.refl _,rfl,hx.1,hx.2,hw,A6.one fun j hj=>absurd hj (Nat.not_lt_zero _)⟩
  · cases h
end Go.Proofs.Ytjhnfomefcngfaa.Ed
