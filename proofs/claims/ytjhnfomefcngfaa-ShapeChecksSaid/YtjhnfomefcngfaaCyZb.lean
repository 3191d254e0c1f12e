/-
  Layer 7: the law ShapeThreads, as a function: the threads' events are all events, side by side, in order. No conditions.
-/
import Derived.Test.YtjhnfomefcngfaaShL
import Derived.Test.YtjhnfomefcngfaaShW
import Derived.Test.YtjhnfomefcngfaaCyP
namespace Go.Proofs.Ytjhnfomefcngfaa.Sh
open Go.Sy Ed
set_option maxHeartbeats 1000000
set_option maxRecDepth 4000
theorem D1 {n:Nat} {h:Nat->Nat}:AW [.row 3 1 n (fun k=>iV (Int.ofNat (h k)))] = true:=by simp [AW]; exact fun _ _=>rfl
theorem Jx:AW [.row 3 1 0 (fun _=>V.und)] = true:=by simp [AW]
theorem Cs {q:Nat} {ln:Nat->Nat}:∀ (_ _:Unit),(Ai q fun i=>Ai (ln i) fun _=>true) = true:=fun _ _=>A4.2 fun _ _=>A4.2 fun _ _=>rfl
end Go.Proofs.Ytjhnfomefcngfaa.Sh
namespace Go.Proofs.Ytjhnfomefcngfaa.Sh
open Go.Sy Ed
open Int (ofNat)
set_option maxHeartbeats 1000000
set_option maxRecDepth 4000
def AiM (s:Sh7):V:=.agg [iV s.arch,.ref 0,.ref 1,iV s.tt,iV s.kk,.ref 2,.jref 3]
def AiN (s:Sh7):List Blk:=[.row 44 6 s.ne (fun i=>eV (s.E i)),.row 40 5 s.nx (fun i=>evV (s.X i)),.row 3 1 s.nr (fun i=>iV (s.R i)),
  .jag ⟨25,1,s.nc,fun _=>.und,0,3,1,fun _=>true,fun i=>(s.C i).1,fun i j=>iV ((s.C i).2 j)⟩]
def Q1 (s:Sh7):Bool:=Ag (AN 0 s.ne 40) (Ag (AN 0 s.nx 40) (Ag (AN 0 s.nr 8) (Ag (AN 0 s.nc 24) (Ai s.nc fun i=>AN 0 (s.C i).1 8))))
def Zj:List V->T (V × List Blk)
  | [v]=>apS v fun s=>.br (Q1 s) (.leaf (AiM s,AiN s)) .fail
  | _=>.fail
theorem My {n i:Nat} {gx g:Nat->V} (h:i < n):Br 0 n gx g i = g i:=by
  unfold Br
  split
  · rw [B4,show i = 0 by omega]
    rfl
  · rw [L8]
    have:Nat.blt i 0 = false:=by cases hb:Nat.blt i 0 with
      | false=>rfl
      | true=>exact absurd (Nat.le_of_ble_eq_true hb) (by omega)
    rw [this]
    rfl
theorem Yb (b:Nat):AO b (fun _=>V.und) .und = fun _=>.und:=by
  funext i
  rw [B4]
  cases Nat.beq i b <;> rfl
def LL (ln:Nat->Nat) (b:Nat):Nat->Nat:=fun i=>if i < b then ln i else 0
noncomputable def CC (ln:Nat->Nat) (co:Nat->Nat->Int) (b:Nat):Nat->Nat->V:=fun i=>if i < b then Br 0 (ln i) (fun _=>.und) (fun w=>iV (co i w)) else fun _=>.und
theorem Ak7 (ln:Nat->Nat):LL ln 0 = fun _=>0:=by
  funext i
  exact if_neg (by omega)
theorem Ak8 (ln:Nat->Nat) (co:Nat->Nat->Int):CC ln co 0 = fun _ _=>.und:=by
  funext i
  exact if_neg (by omega)
theorem AbI (ln:Nat->Nat) (b:Nat):(fun i=>sel (AV i b) (Bj 0 (ln b)) (LL ln b i)) = LL ln (b+1):=by
  funext i
  by_cases h:i = b
  · subst h
    rw [CF]
    show Bj 0 (ln i) = if i < i+1 then ln i else 0
    rw [if_pos (by omega)]
    exact Nat.zero_add _
  · rw [Go.Sy.nbeq_ne h]
    show (if i < b then ln i else 0) = if i < b+1 then ln i else 0
    by_cases h2:i < b
    · rw [if_pos h2,if_pos (by omega)]
    · rw [if_neg h2,if_neg (by omega)]
theorem AbK (ln:Nat->Nat) (co:Nat->Nat->Int) (b:Nat):(fun i j=>DE (fun u w=>CC ln co b u w) b (Br 0 (ln b) (fun _=>.und) (fun i=>iV (co b i))) i j) = CC ln co (b+1):=by
  funext i j
  by_cases h:i = b
  · subst h
    rw [G8]
    unfold CC
    rw [if_pos (by omega)]
  · rw [Kb h]
    show CC ln co b i j = _
    unfold CC
    by_cases h2:i < b
    · rw [if_pos h2,if_pos (by omega)]
    · rw [if_neg h2,if_neg (by omega)]
theorem AdG (b:Bool):sel b true true = true:=by cases b <;> rfl
def S5 (a:Int) (n:Nat) (g:Nat->E6) (m:Nat) (x:Nat->Ev5) (t k:Int) (p:Nat) (r:Nat->Int) (q:Nat) (ln:Nat->Nat) (co:Nat->Nat->Int) :St:=⟨(jsV 50 0 (fun _=>A8) [(0,(.agg (shL a n g m x t k p r q ln co))),(1,(.ptr 0 0)),(2,(.ptr 1 0)),(3,(.ptr 2 0)),(4,(iV 0)),(6,(.agg (shL a n g m x t k p r q ln co))),(7,(.ptr 2 1)),(8,(.ptr 2 2)),(9,(.ptr 2 5)),(10,(.ptr 2 6)),(11,(.ptr 2 1)),(12,.und),(13,(.ptr 0 1)),(14,(.sl 6 n (fun i=>eV (g i)))),(15,(.ref 3)),(16,(.ptr 2 1)),(17,(.ptr 2 2)),(18,.und),(19,(.ptr 0 2)),(20,(.sl 5 m (fun i=>evV (x i)))),(21,(.ref 4)),(22,(.ptr 2 2)),(23,(.ptr 2 5)),(24,.und),(25,(.ptr 0 5)),(26,(.sl 1 p (fun i=>iV (r i)))),(27,(.ref 5)),(28,(.ptr 2 5))]),[.cells (shL a n g m x t k p r q ln co),c7Z,.cells [iV a,.ref 3,.ref 4,iV t,iV k,.ref 5,.jref 6],.row 44 6 (Bj 0 n) (Br 0 n (fun _=>.und) (fun i=>eV (g i))),.row 40 5 (Bj 0 m) (Br 0 m (fun _=>.und) (fun i=>evV (x i))),.row 3 1 (Bj 0 p) (Br 0 p (fun _=>.und) (fun i=>iV (r i))),jgZ]⟩
def TJ (a:Int) (n:Nat) (g:Nat->E6) (m:Nat) (x:Nat->Ev5) (t k:Int) (p:Nat) (r:Nat->Int) (q:Nat) (ln:Nat->Nat) (co:Nat->Nat->Int):Lp:=⟨(bmK 50 0 [1,2,3,4]),7,bmK 50 0 [2,3],7,q+1⟩
def Aap (a:Int) (n:Nat) (g:Nat->E6) (m:Nat) (x:Nat->Ev5) (t k:Int) (p:Nat) (r:Nat->Int) (q:Nat) (ln:Nat->Nat) (co:Nat->Nat->Int) (b:Nat) (y1 y2 y3:Nat->V) (l1:Nat->Nat) (c1:Nat->Nat->V) (j:Nat->V):St:=⟨(jsV 50 0 j [(1,.ptr 0 0),(2,.ptr 1 0),(3,.ptr 2 0),(4,nV b)]),[.cells [iV a,.sl 6 n (fun i=>eV (g i)),.sl 5 m (fun i=>evV (x i)),iV t,iV k,.sl 1 p (fun i=>iV (r i)),.sl 1 q (fun u=>.sl 1 (ln u) (fun i=>iV (co u i)))],c7Z,.cells [iV a,.ref 3,.ref 4,iV t,iV k,.ref 5,.jref 6],.row 44 6 (Bj 0 n) y1,.row 40 5 (Bj 0 m) y2,.row 3 1 (Bj 0 p) y3,.jag (Jag.mk 25 1 b (fun _=>.und) 0 3 1 (fun _=>true) l1 c1)]⟩
def SE (a:Int) (n:Nat) (g:Nat->E6) (m:Nat) (x:Nat->Ev5) (t k:Int) (p:Nat) (r:Nat->Int) (q:Nat) (ln:Nat->Nat) (co:Nat->Nat->Int) (b:Nat) (y1 y2 y3:Nat->V) (l1:Nat->Nat) (c1:Nat->Nat->V):Ex × St:=(.ex 0,⟨(jsV 50 0 (fun _=>.und) [(2,.ptr 1 0),(3,.ptr 2 0)]),[.cells [iV a,.sl 6 n (fun i=>eV (g i)),.sl 5 m (fun i=>evV (x i)),iV t,iV k,.sl 1 p (fun i=>iV (r i)),.sl 1 q (fun u=>.sl 1 (ln u) (fun i=>iV (co u i)))],c7Z,.cells [iV a,.ref 3,.ref 4,iV t,iV k,.ref 5,.jref 6],.row 44 6 (Bj 0 n) y1,.row 40 5 (Bj 0 m) y2,.row 3 1 (Bj 0 p) y3,.jag (Jag.mk 25 1 b (fun _=>.und) 0 3 1 (fun _=>true) l1 c1)]⟩)
noncomputable def Om (L:LT):St->T (Ex × St):=fun st=>AE tab ⟨Ao tb0,L,Gl⟩ (Az Try.f32 0) 0 st
section
variable (L:LT) (a:Int) (n:Nat) (g:Nat->E6) (m:Nat) (x:Nat->Ev5) (t k:Int) (p:Nat) (r:Nat->Int) (q:Nat) (ln:Nat->Nat) (co:Nat->Nat->Int) (b:Nat) (y1 y2 y3:Nat->V) (l1:Nat->Nat) (c1:Nat->Nat->V)  (j:Nat->V)
include L a n g m x t k p r q ln co b y1 y2 y3 l1 c1 j
theorem Ahl (h0:ilt (ofNat b) (ofNat q) = false):Al (Om L) (TJ a n g m x t k p r q ln co) (Aap a n g m x t k p r q ln co b y1 y2 y3 l1 c1 j) = some ((.ex 0),⟨(jsV 50 0 (fun _=>.und) [(2,(.ptr 1 0)),(3,(.ptr 2 0))]),[.cells (shL a n g m x t k p r q ln co),c7Z,.cells [iV a,.ref 3,.ref 4,iV t,iV k,.ref 5,.jref 6],.row 44 6 (Bj 0 n) y1,.row 40 5 (Bj 0 m) y2,.row 3 1 (Bj 0 p) y3,.jag (Jag.mk 25 1 b (fun _=>.und) 0 3 1 (fun _=>true) l1 (fun i i_1=>c1 i i_1))]⟩):=Aa [false] [ilt (ofNat b) (ofNat q)] (by kernel_rfl) (by simp only [h0] <;> rfl)
theorem Ahk (h0:ilt (ofNat b) (ofNat q) = true) (h19:ile 0 (ofNat b) = true) (h20:AN 0 (ln b) 8 = true) (h21:AN b 1 24 = true):Al (Om L) (TJ a n g m x t k p r q ln co) (Aap a n g m x t k p r q ln co b y1 y2 y3 l1 c1 j) = some (.nm,⟨(jsV 50 0 (fun _=>.und) [(1,(.ptr 0 0)),(2,(.ptr 1 0)),(3,(.ptr 2 0)),(4,(iV (wr .i64 (Af (ofNat b) 1))))]),[.cells (shL a n g m x t k p r q ln co),c7Z,.cells [iV a,.ref 3,.ref 4,iV t,iV k,.ref 5,.jref 6],.row 44 6 (Bj 0 n) y1,.row 40 5 (Bj 0 m) y2,.row 3 1 (Bj 0 p) y3,.jag (Jag.mk 25 1 (Bj b 1) (AO b (fun _=>.und) .und) 0 3 1 (fun i=>sel (AV i b) true true) (fun i=>sel (AV i b) (Bj 0 (ln b)) (l1 i)) (fun i i_1=>DE (fun i_2 i_3=>c1 i_2 i_3) b (Br 0 (ln b) (fun _=>.und) (fun i=>iV (co b i))) i i_1))]⟩):=Aa [true,true,true,true,true] [ilt (ofNat b) (ofNat q),Ag (ile 0 (ofNat b)) (ilt (ofNat b) (ofNat q)),AN 0 (ln b) 8,true,AN b 1 24] (by kernel_rfl) (by simp only [*] <;> rfl)
end
theorem Aj8 (L:LT) (p0:PT) (a:Int) (n:Nat) (g:Nat->E6) (m:Nat) (x:Nat->Ev5) (t k:Int) (p:Nat) (r:Nat->Int) (q:Nat) (ln:Nat->Nat) (co:Nat->Nat->Int) (y1 y2 y3:Nat->V) (l1:Nat->Nat) (c1:Nat->Nat->V) (h17:AN 0 n 40 = true) (h18:AN 0 m 40 = true) (h19:AN 0 p 8 = true) (hp0:p0 (Om (onP 0 p0 (SE a n g m x t k p r q ln co q y1 y2 y3 l1 c1) L)) (S5 a n g m x t k p r q ln co) = true):(As (Aj tab ⟨Ao tb0,onP 0 p0 (SE a n g m x t k p r q ln co q y1 y2 y3 l1 c1) L,Gl⟩ Try.f32 [.agg (shL a n g m x t k p r q ln co)] [])).sem = some ((.agg [iV a,.ref 0,.ref 1,iV t,iV k,.ref 2,.jref 3]),[.row 44 6 (Bj 0 n) y1,.row 40 5 (Bj 0 m) y2,.row 3 1 (Bj 0 p) y3,.jag (Jag.mk 25 1 q (fun _=>.und) 0 3 1 (fun _=>true) l1 (fun i i_1=>c1 i i_1))]):=Aa [true,true,true,true] [AN 0 n 40,AN 0 m 40,AN 0 p 8,p0 (Om (onP 0 p0 (SE a n g m x t k p r q ln co q y1 y2 y3 l1 c1) L)) (S5 a n g m x t k p r q ln co)] (by kernel_rfl) (by simp only [hp0] <;> simp only [*] <;> rfl)
theorem Zc (a:Int) (n:Nat) (g:Nat->E6) (m:Nat) (x:Nat->Ev5) (t k:Int) (p:Nat) (r:Nat->Int) (q:Nat) (ln:Nat->Nat) (co:Nat->Nat->Int):S5 a n g m x t k p r q ln co = Aap a n g m x t k p r q ln co 0 (Br 0 n (fun _=>.und) (fun i=>eV (g i))) (Br 0 m (fun _=>.und) (fun i=>evV (x i))) (Br 0 p (fun _=>.und) (fun i=>iV (r i))) (fun _=>0) (fun _ _=>.und) (fun i=>nth (S5 a n g m x t k p r q ln co).t i):=by kernel_rfl
theorem Acb (L:LT) (a:Int) (n:Nat) (g:Nat->E6) (m:Nat) (x:Nat->Ev5) (t k:Int) (p:Nat) (r:Nat->Int) (q:Nat) (ln:Nat->Nat) (co:Nat->Nat->Int) (y1 y2 y3:Nat->V) (h1:AN 0 q 24 = true) (h2:∀ b,b < q->AN 0 (ln b) 8 = true):∀ (e b:Nat) (j:Nat->V) (u:Nat),q = b+e->e < u ->
    (A7 (Om L) (TJ a n g m x t k p r q ln co) u (Aap a n g m x t k p r q ln co b y1 y2 y3 (LL ln b) (CC ln co b) j)).sem = some (SE a n g m x t k p r q ln co q y1 y2 y3 (LL ln q) (CC ln co q))
  | 0,b,j,u+1,h,_=>by
    have:q = b:=by omega
    subst this
    exact Ac (Ahl L a n g m x t k p r q ln co q y1 y2 y3 (LL ln q) (CC ln co q) j (AA (Nat.le_refl _)))
  | e+1,b,j,u+1,h,h3=>by
    have hl:b < q:=by omega
    have h1':(0+q) * 24 <= 140737488355328:=of_decide_eq_true h1
    have hb:AN b 1 24 = true:=decide_eq_true (by omega)
    have next:=Acb L a n g m x t k p r q ln co y1 y2 y3 h1 h2 e (b+1) (fun _=>.und) u (by omega) (by omega)
    have hr:=Ahk L a n g m x t k p r q ln co b y1 y2 y3 (LL ln b) (CC ln co b) j (ofNat_lt hl) (AH b) (h2 b hl) hb
    rw [Ac hr,Av,Aq hl (by omega),AbI,AbK,Yb]
    rw [show (fun i=>sel (AV i b) true true) = fun _=>true from funext fun i=>AdG _]
    exact next
theorem p32:AB Try.prog Gl 32 Zj:=by
  refine A1 AQ AR Try.func32 (by kernel_rfl) (by kernel_rfl) fun vs v h' h=>?_
  unfold Zj at h
  split at h
  · rename_i v1
    obtain ⟨s,a1,h⟩:=Ci h
    obtain ⟨hf,h⟩:=Ah h
    have:=Ad h
    simp only [Prod.mk.injEq] at this
    obtain ⟨rfl,rfl⟩:=this
    obtain ⟨a,n,g,m,x,t,k,p,r,q,C⟩:=s
    have hA:Bw [v1] [.agg [iV a,.sl 6 n (fun i=>eV (g i)),.sl 5 m (fun i=>evV (x i)),iV t,iV k,.sl 1 p (fun i=>iV (r i)),.sl 1 q (fun u=>.sl 1 (C u).1 (fun i=>iV ((C u).2 i)))]]:=fun S w cs hv=>by
      obtain ⟨c,l,rfl,q1,q2⟩:=hv
      exact ⟨c,_,rfl,a1 S w c q1,q2⟩
    have hf:AN 0 n 40 = true ∧ AN 0 m 40 = true ∧ AN 0 p 8 = true ∧ AN 0 q 24 = true ∧ (Ai q fun i=>AN 0 (C i).1 8) = true:=by simpa [Q1,Ag] using hf
    obtain ⟨f1,f2,f3,f4,f5⟩:=hf
    have f5:=A4.1 f5
    have hx:=AP CW [(0,TJ a n g m x t k p r q (fun u=>(C u).1) (fun u=>(C u).2))] (G:=Gl)
    have hL:=AD [(0,TJ a n g m x t k p r q (fun u=>(C u).1) (fun u=>(C u).2))]
    have hQ:=Aw (k:=0) (r:=SE a n g m x t k p r q (fun u=>(C u).1) (fun u=>(C u).2) q (Br 0 n (fun _=>.und) (fun i=>eV (g i))) (Br 0 m (fun _=>.und) (fun i=>evV (x i))) (Br 0 p (fun _=>.und) (fun i=>iV (r i))) (LL (fun u=>(C u).1) q) (CC (fun u=>(C u).1) (fun u=>(C u).2) q)) hL hL
    refine ⟨_,AI Gl tb0 [(0,TJ a n g m x t k p r q (fun u=>(C u).1) (fun u=>(C u).2))],_,hA,rfl,hx.1,hx.2,A3 hQ _ (Aj8 _ _ a n g m x t k p r q (fun u=>(C u).1) (fun u=>(C u).2) _ _ _ _ _ f1 f2 f3 (An ?_)),?_⟩
    · show (A7 _ (TJ a n g m x t k p r q (fun u=>(C u).1) (fun u=>(C u).2)) (q+1) (S5 a n g m x t k p r q (fun u=>(C u).1) (fun u=>(C u).2))).sem = _
      rw [Zc,<- Ak7 (fun u=>(C u).1),<- Ak8 (fun u=>(C u).1) (fun u=>(C u).2)]
      exact Acb _ a n g m x t k p r q (fun u=>(C u).1) (fun u=>(C u).2) _ _ _ f4 f5 q 0 _ (q+1) (by omega) (by omega)
    · rw [show Bj 0 n = n from Nat.zero_add n,show Bj 0 m = m from Nat.zero_add m,show Bj 0 p = p from Nat.zero_add p]
      refine .cons (fun i hi=>(My (g:=fun i=>eV (g i)) hi).symm) <| .cons (fun i hi=>(My (g:=fun i=>evV (x i)) hi).symm) <| .cons (fun i hi=>(My (g:=fun i=>iV (r i)) hi).symm) <| .consB ?_ (.refl [])
      refine SayB.jag (j:=Jag.mk 25 1 q (fun _=>.und) 0 3 1 (fun _=>true) (LL (fun u=>(C u).1) q) (fun i w=>CC (fun u=>(C u).1) (fun u=>(C u).2) q i w)) (fun _ _=>.inr rfl) (fun _ _=>rfl) (fun i hi=>?_) (fun i hi w hw=>?_)
      · exact (if_pos hi).symm
      · have hi:i < q:=hi
        have hw:w < LL (fun u=>(C u).1) q i:=hw
        unfold LL at hw
        rw [if_pos hi] at hw
        show iV ((C i).2 w) = CC (fun u=>(C u).1) (fun u=>(C u).2) q i w
        unfold CC
        rw [if_pos hi,My hw]
  · cases h
end Go.Proofs.Ytjhnfomefcngfaa.Sh
namespace Go.Proofs.Ytjhnfomefcngfaa.Ed
open Go.Sy Go
open Int (ofNat)
def Qj (n:Nat) (f:Nat->Int) (m:Nat) (g:Nat->Int):Lp:=⟨(bmK 46 0 [0,1,4,5]),0,bmK 46 0 [0,1,4],0,n+1⟩
def Jr (n:Nat) (f:Nat->Int) (m:Nat) (g:Nat->Int) (i:Nat) (j:Nat->V):St:=⟨(jsV 46 0 j [(0,.sl 1 n fun k=>iV (f k)),(1,.sl 1 m fun k=>iV (g k)),(4,iV 0),(5,nV i)]),[]⟩
def Vt (n:Nat) (f:Nat->Int) (m:Nat) (g:Nat->Int) (i:Nat):Ex × St:=(.rt,⟨(jsV 46 0 (fun _=>.und) [(0,.sl 1 n fun k=>iV (f k)),(1,.sl 1 m fun k=>iV (g k)),(4,iV (-1))]),[]⟩)
def Vu (n:Nat) (f:Nat->Int) (m:Nat) (g:Nat->Int) (i:Nat):Ex × St:=(.rt,⟨(jsV 46 0 (fun _=>.und) [(0,.sl 1 n fun k=>iV (f k)),(1,.sl 1 m fun k=>iV (g k)),(4,iV 1)]),[]⟩)
def J3 (n:Nat) (f:Nat->Int) (m:Nat) (g:Nat->Int) (i:Nat):Ex × St:=(.ex 0,⟨(jsV 46 0 (fun _=>.und) [(0,.sl 1 n fun k=>iV (f k)),(1,.sl 1 m fun k=>iV (g k)),(4,iV 0)]),[]⟩)
noncomputable def D0 (L:LT):St->T (Ex × St):=fun st=>AE tab ⟨Ao tb0,L,Gl⟩ (Az Try.f73 0) 0 st
section
variable (L:LT) (n:Nat) (f:Nat->Int) (m:Nat) (g:Nat->Int) (i:Nat)  (j:Nat->V)
include L n f m g i j
theorem AhJ (h0:ilt (ofNat i) (ofNat n) = false):Al (D0 L) (Qj n f m g) (Jr n f m g i j) = some ((.ex 0),⟨(jsV 46 0 (fun _=>.und) [(0,(.sl 1 n (fun k=>iV (f k)))),(1,(.sl 1 m (fun k=>iV (g k)))),(4,(iV 0))]),[]⟩):=Aa (bbK 6 0) ((fun c0=>[c0,c0,c0,c0,c0,false]) (ilt (ofNat i) (ofNat n))) (by kernel_rfl) (by simp only [h0] <;> rfl)
theorem AhG (h0:ilt (ofNat i) (ofNat n) = true) (h1:ilt (ofNat i) (ofNat m) = false):Al (D0 L) (Qj n f m g) (Jr n f m g i j) = some ((.ex 0),⟨(jsV 46 0 (fun _=>.und) [(0,(.sl 1 n (fun k=>iV (f k)))),(1,(.sl 1 m (fun k=>iV (g k)))),(4,(iV 0))]),[]⟩):=Aa (bbK 6 31) ((fun c0=>[c0,c0,c0,c0,c0,ilt (ofNat i) (ofNat m)]) (ilt (ofNat i) (ofNat n))) (by kernel_rfl) (by simp only [h0,h1] <;> rfl)
theorem AhH (h0:ilt (ofNat i) (ofNat n) = true) (h1:ilt (ofNat i) (ofNat m) = true) (h12:ile 0 (ofNat i) = true) (h2:ilt (f i) (g i) = true):Al (D0 L) (Qj n f m g) (Jr n f m g i j) = some (.rt,⟨(jsV 46 0 (fun _=>.und) [(0,(.sl 1 n (fun k=>iV (f k)))),(1,(.sl 1 m (fun k=>iV (g k)))),(4,(iV (-1)))]),[]⟩):=Aa (bbK 9 511) ((fun c0=>[c0,c0,c0,c0,c0,ilt (ofNat i) (ofNat m),Ag (ile 0 (ofNat i)) (ilt (ofNat i) (ofNat n)),Ag (ile 0 (ofNat i)) (ilt (ofNat i) (ofNat m)),ilt (f i) (g i)]) (ilt (ofNat i) (ofNat n))) (by kernel_rfl) (by simp only [*] <;> rfl)
theorem AhI (h0:ilt (ofNat i) (ofNat n) = true) (h1:ilt (ofNat i) (ofNat m) = true) (h13:ile 0 (ofNat i) = true) (h2:ilt (f i) (g i) = false) (h3:ilt (g i) (f i) = true):Al (D0 L) (Qj n f m g) (Jr n f m g i j) = some (.rt,⟨(jsV 46 0 (fun _=>.und) [(0,(.sl 1 n (fun k=>iV (f k)))),(1,(.sl 1 m (fun k=>iV (g k)))),(4,(iV 1))]),[]⟩):=Aa (bbK 12 3839) ((fun c0 c1 c2=>[c0,c0,c0,c0,c0,ilt (ofNat i) (ofNat m),c1,c2,ilt (f i) (g i),c1,c2,ilt (g i) (f i)]) (ilt (ofNat i) (ofNat n)) (Ag (ile 0 (ofNat i)) (ilt (ofNat i) (ofNat n))) (Ag (ile 0 (ofNat i)) (ilt (ofNat i) (ofNat m)))) (by kernel_rfl) (by simp only [*] <;> rfl)
theorem AhF (h0:ilt (ofNat i) (ofNat n) = true) (h1:ilt (ofNat i) (ofNat m) = true) (h13:ile 0 (ofNat i) = true) (h2:ilt (f i) (g i) = false) (h3:ilt (g i) (f i) = false):Al (D0 L) (Qj n f m g) (Jr n f m g i j) = some (.nm,⟨(jsV 46 0 (fun _=>.und) [(0,(.sl 1 n (fun k=>iV (f k)))),(1,(.sl 1 m (fun k=>iV (g k)))),(4,(iV 0)),(5,(iV (wr .i64 (Af (ofNat i) 1))))]),[]⟩):=Aa (bbK 12 1791) ((fun c0 c1 c2=>[c0,c0,c0,c0,c0,ilt (ofNat i) (ofNat m),c1,c2,ilt (f i) (g i),c1,c2,ilt (g i) (f i)]) (ilt (ofNat i) (ofNat n)) (Ag (ile 0 (ofNat i)) (ilt (ofNat i) (ofNat n))) (Ag (ile 0 (ofNat i)) (ilt (ofNat i) (ofNat m)))) (by kernel_rfl) (by simp only [*] <;> rfl)
end
def O9 (n:Nat) (f:Nat->Int) (m:Nat) (g:Nat->Int) :Nat->V:=lkV A8 []
section
variable (L:LT) (p0:PT) (n:Nat) (f:Nat->Int) (m:Nat) (g:Nat->Int) (i:Nat)
include L p0 n f m g i
theorem Agh  (hp0:p0 (D0 (onP 0 p0 (Vt n f m g i) L)) (Jr n f m g 0 (O9 n f m g )) = true):(As (Aj tab ⟨Ao tb0,onP 0 p0 (Vt n f m g i) L,Gl⟩ Try.f73 [Cg n f,Cg m g] [])).sem = some ((iV (-1)),[]):=Aa [true] [p0 (D0 (onP 0 p0 (Vt n f m g i) L)) (Jr n f m g 0 (O9 n f m g ))] (by kernel_rfl) (by simp only [hp0] <;> rfl)
theorem Agi  (hp0:p0 (D0 (onP 0 p0 (Vu n f m g i) L)) (Jr n f m g 0 (O9 n f m g )) = true):(As (Aj tab ⟨Ao tb0,onP 0 p0 (Vu n f m g i) L,Gl⟩ Try.f73 [Cg n f,Cg m g] [])).sem = some ((iV 1),[]):=Aa [true] [p0 (D0 (onP 0 p0 (Vu n f m g i) L)) (Jr n f m g 0 (O9 n f m g ))] (by kernel_rfl) (by simp only [hp0] <;> rfl)
theorem Agl (h0:ilt (ofNat n) (ofNat m) = true) (hp0:p0 (D0 (onP 0 p0 (J3 n f m g i) L)) (Jr n f m g 0 (O9 n f m g )) = true):(As (Aj tab ⟨Ao tb0,onP 0 p0 (J3 n f m g i) L,Gl⟩ Try.f73 [Cg n f,Cg m g] [])).sem = some ((iV (-1)),[]):=Aa [true,true] [p0 (D0 (onP 0 p0 (J3 n f m g i) L)) (Jr n f m g 0 (O9 n f m g )),ilt (ofNat n) (ofNat m)] (by kernel_rfl) (by simp only [hp0] <;> simp only [h0] <;> rfl)
theorem Agk (h0:ilt (ofNat n) (ofNat m) = false) (h1:ilt (ofNat m) (ofNat n) = true) (hp0:p0 (D0 (onP 0 p0 (J3 n f m g i) L)) (Jr n f m g 0 (O9 n f m g )) = true):(As (Aj tab ⟨Ao tb0,onP 0 p0 (J3 n f m g i) L,Gl⟩ Try.f73 [Cg n f,Cg m g] [])).sem = some ((iV 1),[]):=Aa [true,false,true] [p0 (D0 (onP 0 p0 (J3 n f m g i) L)) (Jr n f m g 0 (O9 n f m g )),ilt (ofNat n) (ofNat m),ilt (ofNat m) (ofNat n)] (by kernel_rfl) (by simp only [hp0] <;> simp only [h0,h1] <;> rfl)
theorem Agj (h0:ilt (ofNat n) (ofNat m) = false) (h1:ilt (ofNat m) (ofNat n) = false) (hp0:p0 (D0 (onP 0 p0 (J3 n f m g i) L)) (Jr n f m g 0 (O9 n f m g )) = true):(As (Aj tab ⟨Ao tb0,onP 0 p0 (J3 n f m g i) L,Gl⟩ Try.f73 [Cg n f,Cg m g] [])).sem = some ((iV 0),[]):=Aa [true,false,false] [p0 (D0 (onP 0 p0 (J3 n f m g i) L)) (Jr n f m g 0 (O9 n f m g )),ilt (ofNat n) (ofNat m),ilt (ofNat m) (ofNat n)] (by kernel_rfl) (by simp only [hp0] <;> simp only [h0,h1] <;> rfl)
end
theorem AbP (L:LT) (n:Nat) (f:Nat->Int) (m:Nat) (g:Nat->Int) (hn:n <= 4611686018427387904) (hm:m <= 4611686018427387904):∀ (d i:Nat) (j:Nat->V) (q:Nat),min n m = i+d->d < q ->
    (A7 (D0 L) (Qj n f m g) q (Jr n f m g i j)).sem = some (match QW f g d i with | .lt=>Vt n f m g 0 | .gt=>Vu n f m g 0 | .eq=>J3 n f m g 0)
  | 0,i,j,q+1,h,_=>by
    by_cases h3:i < n
    · exact Ac (AhG L n f m g i j (ofNat_lt h3) (AA (by omega)))
    · exact Ac (AhJ L n f m g i j (AA (by omega)))
  | d+1,i,j,q+1,h,h2=>by
    have h3:i < n:=by omega
    have h4:i < m:=by omega
    unfold QW
    by_cases c1:f i < g i
    · rw [if_pos c1]
      exact Ac (AhH L n f m g i j (ofNat_lt h3) (ofNat_lt h4) (NF i) (by simp [ilt,c1]))
    · have c1':ilt (f i) (g i) = false:=by simp only [ilt,decide_eq_false c1]
      rw [if_neg c1]
      by_cases c2:g i < f i
      · rw [if_pos c2]
        exact Ac (AhI L n f m g i j (ofNat_lt h3) (ofNat_lt h4) (NF i) c1' (by simp [ilt,c2]))
      · have c2':ilt (g i) (f i) = false:=by simp only [ilt,decide_eq_false c2]
        rw [if_neg c2,Ac (AhF L n f m g i j (ofNat_lt h3) (ofNat_lt h4) (NF i) c1' c2'),Av,Aq h3 hn]
        exact AbP L n f m g hn hm d (i+1) (fun _=>.und) q (by omega) (by omega)
theorem p99:AB Try.prog Gl 73 Ac2:=by
  refine A1 AQ AR Try.func73 (by kernel_rfl) (by kernel_rfl) fun vs v h' h=>?_
  obtain ⟨n,f,m,g,ha,h1⟩:=P7 h
  obtain ⟨hn,h2⟩:=Ah h1
  obtain ⟨hm,h3⟩:=Ah h2
  have:=Ad h3
  simp only [Prod.mk.injEq] at this
  obtain ⟨rfl,rfl⟩:=this
  have hn:n <= 4611686018427387904:=of_decide_eq_true hn
  have hm:m <= 4611686018427387904:=of_decide_eq_true hm
  have hx:=AP CW [(0,Qj n f m g)]
  have hL:=AD [(0,Qj n f m g)]
  have hr:=fun L j=>AbP L n f m g hn hm (min n m) 0 j (n+1) (by omega) (by omega)
  refine ⟨_,AI Gl tb0 [(0,Qj n f m g)],_,ha,rfl,hx.1,hx.2,?_,A6.refl _⟩
  unfold G0
  cases hc:QW f g (min n m) 0 with
  | lt =>
    rw [hc] at hr
    exact A3 (Aw hL hL) _ (Agh _ _ n f m g 0 (An (hr _ _)))
  | gt =>
    rw [hc] at hr
    exact A3 (Aw hL hL) _ (Agi _ _ n f m g 0 (An (hr _ _)))
  | eq =>
    rw [hc] at hr
    by_cases c1:n < m
    · simp only [if_pos c1]
      exact A3 (Aw hL hL) _ (Agl _ _ n f m g 0 (by rw [CB,decide_eq_true c1]) (An (hr _ _)))
    · by_cases c2:m < n
      · simp only [if_neg c1,if_pos c2]
        exact A3 (Aw hL hL) _ (Agk _ _ n f m g 0 (by rw [CB,decide_eq_false c1]) (by rw [CB,decide_eq_true c2]) (An (hr _ _)))
      · simp only [if_neg c1,if_neg c2]
        exact A3 (Aw hL hL) _ (Agj _ _ n f m g 0 (by rw [CB,decide_eq_false c1]) (by rw [CB,decide_eq_false c2]) (An (hr _ _)))
noncomputable def tb55:List (Nat × (List V->T (V × List Blk))):=(73,Ac2) :: []
theorem tb55_ok:AC Try.prog Gl tb55:=.cons p99 .nil
theorem Ajc (L:LT) (n:Nat) (f:Nat->Int) (m:Nat) (g:Nat->Int) (h12:Ab n = true) (h13:Ab m = true):(As (Aj tab ⟨Ao tb55,L,Gl⟩ Try.f40 [Cg n f,Cg m g] [])).sem = some ((bV (ieq (G0 n f m g) 0)),[]):=Aa [true,true,true,true] [Ai n (fun _=>true),Ai m (fun _=>true),Ab n,Ab m] (by kernel_rfl) (by simp only [h12,h13,Ar] <;> rfl)
def Z4:List V->T (V × List Blk):=AbD fun n f m g=>.br (Ab n) (.br (Ab m) (out (bV (ieq (G0 n f m g) 0))) .fail) .fail
theorem p55:AB Try.prog Gl 40 Z4:=by
  refine A1 AQ AR Try.func40 (by kernel_rfl) (by kernel_rfl) fun vs v h' h=>?_
  obtain ⟨n,f,m,g,ha,h1⟩:=P7 h
  obtain ⟨hn,h2⟩:=Ah h1
  obtain ⟨hm,h3⟩:=Ah h2
  have:=Ad h3
  simp only [Prod.mk.injEq] at this
  obtain ⟨rfl,rfl⟩:=this
  have hx:=AP tb55_ok []
  exact ⟨_,AI Gl tb55 [],_,ha,rfl,hx.1,hx.2,Ajc _ n f m g hn hm,A6.refl _⟩
theorem FE {n:Nat} {f g:Nat->Int} (h:∀ i,i < n->f i = g i):ieq (G0 n f n g) 0 = true:=by
  rw [(WG n f n g).2 ⟨rfl,h⟩]
  rfl
end Go.Proofs.Ytjhnfomefcngfaa.Ed
