/-
  The text of any edges: Print, the program's and the document's; the law CyclePrints as a function. No conditions.
-/
import Derived.Test.YthlojajaenfidaaGreatDoorCyJ
import Derived.Test.YthlojajaenfidaaGreatDoorShS
namespace Go.Proofs.YthlojajaenfidaaGreatDoor.Ed
open Go.Sy
open Int (ofNat)
theorem Ya:(List.range 112).all (λk=>decide ((HT k).length <= 32)) = true:=by kernel_rfl
theorem SK (e:E6):(Dk e).length <= 32:=by
 rcases E7 e with ⟨k,hk,_,_,_,h⟩ | ⟨_,_,h,_⟩
 ·rw [h]
  exact of_decide_eq_true (List.all_eq_true.1 Ya k (List.mem_range.2 hk))
 ·rw [h]; exact Nat.zero_le _
def nm (f:Nat->E6) (i:Nat):List UInt8:=Dk (f i)
def J2 (f:Nat->E6):Nat->List UInt8
 | 0=>[]
 | i+1=>bif decide (0 < i) then QC (QC (J2 f i) [32]) (Dk (f i)) else QC (J2 f i) (Dk (f i))
theorem Aab {f:Nat->E6} {i:Nat} (h:¬ 0 < i):J2 f (i+1) = QC (J2 f i) (Dk (f i)):=by rw [J2,decide_eq_false h]; rfl
theorem Aac {f:Nat->E6} {i:Nat} (h:0 < i):J2 f (i+1) = QC (QC (J2 f i) [32]) (Dk (f i)):=by rw [J2,decide_eq_true h]; rfl
def Gy (f:Nat->E6):Nat->Nat
 | 0=>0
 | i+1=>Gy f i+((Dk (f i)).length+1)
theorem Q9 (f:Nat->E6):∀ i,Gy f i <= 33 * i
 | 0=>Nat.le_refl _
 | i+1=>by
  have h1:=Q9 f i
  have h2:=SK (f i)
  unfold Gy
  omega
theorem Sp (f:Nat->E6):∀ i,Gy f (i+1) = (J2 f (i+1)).length+1
 | 0=>by
  rw [Aab (Nat.lt_irrefl 0)]
  simp [Gy,J2,QC]
 | i+1=>by
  have ih:=Sp f i
  rw [Gy,ih,Aac (f:=f) (i:=i+1) (by omega)]
  simp only [QC,List.length_append,List.length_cons,List.length_nil]
  omega
theorem Yi (x y:List UInt8) (r:List (List UInt8)) (sep:List UInt8):Lib.join ((x :: r) ++ [y]) sep = Lib.join (x :: r) sep ++ sep ++ y:=by
 rw [List.cons_append,Lib.join_cons,Lib.join_cons]
 simp [Lib.joinTail,List.append_assoc]
theorem SV (f:Nat->E6) (g:Nat->List UInt8) (n:Nat) (hg:∀ k,k < n->g k = Dk (f k)):∀ i,i <= n->Lib.join ((List.range i).map g) [32] = J2 f i
 | 0,_=>rfl
 | i+1,h=>by
  have ih:=SV f g n hg i (by omega)
  rw [List.range_succ,List.map_append,List.map_cons,List.map_nil,hg i (by omega)]
  by_cases hi:0 < i
  ·obtain ⟨m,rfl⟩:∃ m,i = m+1:=⟨i - 1,by omega⟩
   rw [Aac hi,<- ih]
   rw [List.range_succ_eq_map,List.map_cons,Yi]
   rfl
  ·have:i = 0:=by omega
   subst this
   rw [Aab hi]
   show Lib.join [Dk (f 0)] [32] = _
   rw [Lib.join_one]
   rfl
def G4 (f:Nat->E6) (i k:Nat):List UInt8:=bif decide (k < i) then Dk (f k) else []
theorem Ag5 (f:Nat->E6):G4 f 0 = λ_=>[]:=by
 funext k
 simp [G4]
theorem XQ (f:Nat->E6) (i:Nat):A2 i (λk=>.str (G4 f i k)) (.str (Dk (f i))) = λk=>.str (G4 f (i+1) k):=by
 funext k
 rw [Bl,show Nat.beq k i = decide (k = i) by rw [Bool.eq_iff_iff]; simp]
 unfold G4
 by_cases h:k = i
 ·subst h; simp
 ·by_cases h2:k < i
  ·have:k < i+1:=by omega
   simp [h,h2,this]
  ·have:¬ k < i+1:=by omega
   simp [h,h2,this]
theorem PI (f:Nat->E6) (n:Nat):PJ n (G4 f n) [32] = J2 f n :=
 SV f (G4 f n) n (λk hk=>by rw [G4,decide_eq_true hk]; rfl) n (Nat.le_refl n)
theorem Aaa {D:Nat} (h:0 < D) (hn:D <= 9223372036854775807):wr .i64 (Az (ofNat D) 1) = ofNat (D - 1):=by
 unfold wr Az IntKind.wrap
 simp [IntKind.bits,IntKind.signed]
 omega
def AdW (n:Nat) (f:Nat->E6):Bool:=decide (262144 < (J2 f n).length)
def Do (n:Nat) (f:Nat->E6):List UInt8:=bif BR n f then (bif AdW n f then [] else J2 f n) else []
def J0 (n:Nat) (f:Nat->E6):Int:=bif BR n f then (bif AdW n f then 2 else 0) else 30
def ZZ:List V->T (V × List Blk):=Gt λn f=>.br (Be n) (out (.tup [.str (Do n f),iV (J0 n f)])) .fail
noncomputable def tb63:List (Nat × (List V->T (V × List Blk))):=(42,BE Kk) :: (43,AaG) :: []
theorem tb63_ok:A8 Tryz.prog Gl tb63:=.cons p26 <| .cons Anb .nil
def Ko (n:Nat) (f:Nat->E6):Lp:=⟨(bmK 38 0 [2,3,4,5,10,11,12]),1,bmK 38 0 [2,3,4,5],1,n+1⟩
def Up (n:Nat) (f:Nat->E6) (s:Int) (i:Nat) (h:Nat->List UInt8) (j:Nat->V):St:=⟨(jsV 38 0 j [(2,.str []),(3,iV 0),(4,.ref 0),(5,iV s),(10,.sl 6 n (λi=>eV (f i))),(11,nV n),(12,nV i)]),[.row 9 1 i (λk=>.str (h k))]⟩
def T1 (n:Nat) (f:Nat->E6) (s:Int) (i:Nat) (h:Nat->List UInt8):Ex × St:=(.ex 0,⟨(jsV 38 0 (λ_=>.und) [(2,.str []),(3,iV 0),(4,.ref 0),(5,iV s)]),[.row 9 1 i (λk=>.str (h k))]⟩)
def Abs (n:Nat) (f:Nat->E6) (s:Int) (i:Nat) (h:Nat->List UInt8):Ex × St:=(.rt,⟨(jsV 38 0 (λ_=>.und) [(2,.str []),(3,iV 30),(4,.ref 0),(5,iV s)]),[.row 9 1 i (λk=>.str (h k))]⟩)
noncomputable def Eh (L:LT):St->T (Ex × St):=λst=>AD tab ⟨Ak tb63,L,Gl⟩ (As Tryz.f20 0) 0 st
section
variable (L:LT) (n:Nat) (f:Nat->E6) (s:Int) (i:Nat) (h:Nat->List UInt8)  (j:Nat->V)
include L n f s i h j
theorem AkK (h0:ilt (ofNat i) (ofNat n) = false):Ag (Eh L) (Ko n f) (Up n f s i h j) = some ((.ex 0),⟨(jsV 38 0 (λ_=>.und) [(2,(.str [])),(3,(iV 0)),(4,(.ref 0)),(5,(iV s))]),[(.row 9 1 i (λk=>(.str (h k))))]⟩):=by
 exact Aa (ks:=[kn h0]) (by kernel_rfl)
theorem AkJ (h0:ilt (ofNat i) (ofNat n) = true) (h1:Al (ile 0 (ofNat i)) (ilt (ofNat i) (ofNat n)) = true) (h2:ieq (AQ (f i)) 0 = false):Ag (Eh L) (Ko n f) (Up n f s i h j) = some (.rt,⟨(jsV 38 0 (λ_=>.und) [(2,(.str [])),(3,(iV 30)),(4,(.ref 0)),(5,(iV s))]),[(.row 9 1 i (λk=>(.str (h k))))]⟩):=by
 exact Aa (ks:=[kn h0,kn h1,kN (kn h2)]) (by kernel_rfl)
theorem AkI (h0:ilt (ofNat i) (ofNat n) = true) (h1:Al (ile 0 (ofNat i)) (ilt (ofNat i) (ofNat n)) = true) (h2:ieq (AQ (f i)) 0 = true) (h3:Bx i 1 16 = true):Ag (Eh L) (Ko n f) (Up n f s i h j) = some (.nm,⟨(jsV 38 0 (λ_=>.und) [(2,(.str [])),(3,(iV 0)),(4,(.ref 0)),(5,(iV (wr .i64 (Af s (wr .i64 (Af (ofNat (Bq (Dk (f i)))) 1)))))),(10,(.sl 6 n (λi=>(eV (f i))))),(11,(nV n)),(12,(iV (wr .i64 (Af (ofNat i) 1))))]),[(.row 9 1 (Bd i 1) (A2 i (λk=>(.str (h k))) (.str (Dk (f i)))))]⟩):=by
 exact Aa (ks:=[kn h0,kn h1,kN (kn h2),kn h3]) (by kernel_rfl)
end
def Jv (n:Nat) (f:Nat->E6) :St:=⟨(jsV 38 0 (λ_=>A7) [(0,(.sl 6 n (λi=>eV (f i)))),(2,(.str [])),(3,(iV 0)),(4,(.ref 0)),(5,(iV 0)),(10,(.sl 6 n (λi=>eV (f i)))),(11,(nV n)),(12,(iV 0))]),[.row 9 1 0 (λ_=>.und)]⟩
theorem Ajm (L:LT) (p0:PT) (n:Nat) (f:Nat->E6) (s:Int) (i:Nat) (h:Nat->List UInt8)  (hp0:p0 (Eh (onP 0 p0 (Abs n f s i h) L)) (Jv n f) = true):(Au (Ah tab ⟨Ak tb63,(onP 0 p0 (Abs n f s i h) L),Gl⟩ Tryz.f20 [A5 n f] [])).sem = some ((.tup [(.str []),(iV 30)]),[]):=by
 exact Aa (ks:=[kn hp0]) (by kernel_rfl)
section
variable (L:LT) (p0:PT) (n:Nat) (f:Nat->E6) (s:Int) (h:Nat->List UInt8)
include L p0 n f s h
theorem Ajl (h0:ilt 262144 (wr .i64 (Az s 1)) = true) (hp0:p0 (Eh (onP 0 p0 (T1 n f s n h) L)) (Jv n f) = true):(Au (Ah tab ⟨Ak tb63,(onP 0 p0 (T1 n f s n h) L),Gl⟩ Tryz.f20 [A5 n f] [])).sem = some ((.tup [(.str []),(iV 2)]),[]):=by
 exact Aa (ks:=[kn hp0,kn h0]) (by kernel_rfl)
theorem Ajk (h0:ilt 262144 (wr .i64 (Az s 1)) = false) (h1:Oh n h [32] = true) (hp0:p0 (Eh (onP 0 p0 (T1 n f s n h) L)) (Jv n f) = true):(Au (Ah tab ⟨Ak tb63,(onP 0 p0 (T1 n f s n h) L),Gl⟩ Tryz.f20 [A5 n f] [])).sem = some ((.tup [(.str (PJ n h [32])),(iV 0)]),[]):=by
 exact Aa (ks:=[kn hp0,kn h0,kL n,kn h1]) (by kernel_rfl)
end
theorem Aet (L:LT) (n:Nat) (f:Nat->E6) (h8:n * 40 <= 140737488355328) (e:Nat) (he:e <= n) (ho:∀ k,k < e->AQ (f k) = 0):∀ (d i:Nat) (j:Nat->V) (q:Nat),e = i+d->n - i < q ->
  (AA (Eh L) (Ko n f) q (Up n f (ofNat (Gy f i)) i (G4 f i) j)).sem = (AA (Eh L) (Ko n f) (q - d) (Up n f (ofNat (Gy f e)) e (G4 f e) (match d with | 0=>j | _+1=>λ_=>.und))).sem
 | 0,i,j,q,h,_=>by
  have:e = i:=by omega
  subst this
  rfl
 | d+1,i,j,q+1,h,h2=>by
  have hl:i < n:=by omega
  have hz:=Q9 f i
  have hz2:=SK (f i)
  have h9:(i+1) * 16 <= 140737488355328:=by omega
  have ha:Bx i 1 16 = true:=decide_eq_true h9
  have c1:ieq (AQ (f i)) 0 = true:=by rw [ho i (by omega)]; rfl
  have e3:wr .i64 (Af (ofNat (Gy f i)) (wr .i64 (Af (ofNat (Bq (Dk (f i)))) 1))) = (ofNat (Gy f (i+1))):=by
   have hs:Bq (Dk (f i)) = (Dk (f i)).length:=rfl
   rw [Lt (by omega),Dm (by omega)]
   rfl
  rw [Ab (AkI L n f (ofNat (Gy f i)) i (G4 f i) j (ofNat_lt hl) (Ap hl) c1 ha),Aq,An hl (by omega),e3,XQ]
  have:=Aet L n f h8 e he ho d (i+1) (λ_=>.und) q (by omega) (by omega)
  rw [show q+1 - (d+1) = q - d by omega]
  refine Eq.trans this ?_
  cases d <;> rfl
theorem Abh (n:Nat) (f:Nat->E6):Ck (Jv n f) [(0,.str [])] = Up n f 0 0 (λ_=>[]) (λi=>nth (Jv n f).t i):=by kernel_rfl
def TV:List (Nat × List (Nat × V)):=[(0,[(0,.str [])])]
theorem Agd (n:Nat) (f:Nat->E6) (hF:Be n = true) :
  (Au (Ah tab (cxZ Gl tb63 TV [(0,Ko n f)]) Tryz.f20 [A5 n f] [])).sem = some (.tup [.str (Do n f),iV (J0 n f)],[]):=by
 have h8:n * 40 <= 140737488355328:=of_decide_eq_true hF
 have hL:=CK TV [(0,Ko n f)]
 have start:∀ L e,e <= n->(∀ k,k < e->AQ (f k) = 0)->∃ j,(BK TV [(0,Ko n f)] 0 (Eh L) (Jv n f)).sem = (AA (Eh L) (Ko n f) (n+1 - e) (Up n f (ofNat (Gy f e)) e (G4 f e) j)).sem:=λL e he ho=>by
  have h:=Aet L n f h8 e he ho e 0 (λi=>nth (Jv n f).t i) (n+1) (by omega) (by omega)
  refine ⟨_,Eq.trans ?_ h⟩
  show (AA (Eh L) (Ko n f) (n+1) (Ck (Jv n f) [(0,.str [])])).sem = _
  rw [Abh,<- Ag5 f]
  rfl
 unfold Do J0
 cases hm:BR n f with
 | false =>
  obtain ⟨e,he,hb,ho⟩:=UZ hm
  have h0:∀ L,(BK TV [(0,Ko n f)] 0 (Eh L) (Jv n f)).sem = some (Abs n f (ofNat (Gy f e)) e (G4 f e)):=λL=>by
   obtain ⟨j,h⟩:=start L e (Nat.le_of_lt he) ho
   rw [h,show n+1 - e = (n - e)+1 by omega]
   have c1:ieq (AQ (f e)) 0 = false:=by rw [hb]; rfl
   exact Ab (AkJ L n f (ofNat (Gy f e)) e (G4 f e) j (ofNat_lt he) (Ap he) c1)
  exact A1 (Ar hL hL) _ (Ajm _ _ n f (ofNat (Gy f e)) e (G4 f e) (Ai (h0 _)))
 | true =>
  have h0:∀ L,(BK TV [(0,Ko n f)] 0 (Eh L) (Jv n f)).sem = some (T1 n f (ofNat (Gy f n)) n (G4 f n)):=λL=>by
   obtain ⟨j,h⟩:=start L n (Nat.le_refl n) (Ds.1 hm)
   rw [h,show n+1 - n = 0+1 by omega]
   exact Ab (AkK L n f (ofNat (Gy f n)) n (G4 f n) j (A9 (Nat.le_refl _)))
  have hg:ilt 262144 (wr .i64 (Az (ofNat (Gy f n)) 1)) = AdW n f:=by
   cases n with
   | zero=>rfl
   | succ m =>
    have h1:=Sp f m
    have h2:=Q9 f (m+1)
    rw [Aaa (by omega) (by omega),show (262144:Int) = ofNat 262144 from rfl,Cf,h1]
    rfl
  cases hb:AdW n f with
  | true =>
   rw [hb] at hg
   exact A1 (Ar hL hL) _ (Ajl _ _ n f (ofNat (Gy f n)) (G4 f n) hg (Ai (h0 _)))
  | false =>
   rw [hb] at hg
   have hlen:(J2 f n).length <= 262144:=by
    have:=of_decide_eq_false hb
    omega
   have hj:Oh n (G4 f n) [32] = true:=by
    simp only [Oh,PI,Bool.and_eq_true,decide_eq_true_eq]
    omega
   have hw:=A1 (Ar hL hL) _ (Ajk _ _ n f (ofNat (Gy f n)) (G4 f n) hg hj (Ai (h0 _)))
   rw [PI] at hw
   exact hw
theorem p63:A6 Tryz.prog Gl 20 ZZ:=by
 refine Av AI mixed Tryz.func20 (by kernel_rfl) (by kernel_rfl) λvs v h' h=>?_
 obtain ⟨n,f,ha,h1⟩:=C2 h
 obtain ⟨hn,hq⟩:=Ad h1
 have:=Ac hq
 simp only [Prod.mk.injEq] at this
 obtain ⟨rfl,rfl⟩:=this
 have hx:=Hx tb63_ok TV [(0,Ko n f)]
 exact ⟨_,cxZ Gl tb63 TV [(0,Ko n f)],_,ha,rfl,hx.1,hx.2,Agd n f hn,A0.refl _⟩
end Go.Proofs.YthlojajaenfidaaGreatDoor.Ed
namespace Go.Proofs.YthlojajaenfidaaGreatDoor.Sh
open Go.Sy Ed
set_option maxHeartbeats 1000000
set_option maxRecDepth 4000
end Go.Proofs.YthlojajaenfidaaGreatDoor.Sh
namespace Go.Proofs.YthlojajaenfidaaGreatDoor.Sh
open Go.Sy Ed
set_option maxHeartbeats 1000000
set_option maxRecDepth 4000
end Go.Proofs.YthlojajaenfidaaGreatDoor.Sh
