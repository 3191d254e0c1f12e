/-
  The text of any edges: Print, the program's and the document's; the law CyclePrints as a function. No conditions.
-/
import Derived.Test.YtkgdhhieomndeaaGreatDoorCyJ
import Derived.Test.YtkgdhhieomndeaaGreatDoorShS
namespace Go.Proofs.YtkgdhhieomndeaaGreatDoor.Ed
open Go.Sy
open Int (ofNat)
theorem YC:(List.range 112).all (λk=>decide ((Id k).length <= 32))=true:=by kernel_rfl
theorem Ks (e:E6):(BO e).length <= 32:=by
 rcases DP e with ⟨k,hk,_,_,_,h⟩ | ⟨_,_,h,_⟩
 ·rw [h]
  exact of_decide_eq_true (List.all_eq_true.1 YC k (List.mem_range.2 hk))
 ·rw [h]; exact Nat.zero_le _
def nm (f:Nat->E6) (i:Nat):List UInt8:=BO (f i)
def CI (f:Nat->E6):Nat->List UInt8
 | 0=>[]
 | i+1=>bif decide (0<i) then Db (Db (CI f i) [32]) (BO (f i)) else Db (CI f i) (BO (f i))
theorem NP {f:Nat->E6} {i:Nat} (h:¬ 0<i):CI f (i+1)=Db (CI f i) (BO (f i)):=by rw [CI,decide_eq_false h]; rfl
theorem NQ {f:Nat->E6} {i:Nat} (h:0<i):CI f (i+1)=Db (Db (CI f i) [32]) (BO (f i)):=by rw [CI,decide_eq_true h]; rfl
theorem PV (f:Nat->E6):∀ {i k:Nat},i <= k->(CI f i).length <= (CI f k).length
 | i,0,h=>by
  have:i=0:=by omega
  subst this;exact Nat.le_refl _
 | i,k+1,h=>by
  by_cases e:i=k+1
  ·subst e; exact Nat.le_refl _
  ·have:=PV f (show i <= k by omega)
   by_cases hk:0<k
   ·rw [NQ hk]
    simp only [Db,List.length_append];omega
   ·rw [NP hk]
    simp only [Db,List.length_append];omega
theorem WY (f:Nat->E6):∀ i,(CI f i).length <= 33 * i
 | 0=>Nat.le_refl _
 | i+1=>by
  have h1:=WY f i;have h2:=Ks (f i);by_cases hk:0<i
  ·rw [NQ hk]
   simp only [Db,List.length_append,List.length_cons,List.length_nil];omega
  ·rw [NP hk]
   simp only [Db,List.length_append];omega
def GK (f:Nat->E6):Nat->Nat
 | 0=>0
 | i+1=>GK f i+((BO (f i)).length+1)
theorem QW (f:Nat->E6):∀ i,GK f i <= 33 * i
 | 0=>Nat.le_refl _
 | i+1=>by
  have h1:=QW f i;have h2:=Ks (f i);unfold GK;omega
theorem SQ (f:Nat->E6):∀ i,GK f (i+1)=(CI f (i+1)).length+1
 | 0=>by
  rw [NP (Nat.lt_irrefl 0)];simp [GK,CI,Db]
 | i+1=>by
  have ih:=SQ f i;rw [GK,ih,NQ (f:=f) (i:=i+1) (by omega)];simp only [Db,List.length_append,List.length_cons,List.length_nil];omega
theorem YL (x y:List UInt8) (r:List (List UInt8)) (sep:List UInt8):Lib.join ((x::r)++[y]) sep=Lib.join (x::r) sep++sep++y:=by
 rw [List.cons_append,Lib.join_cons,Lib.join_cons];simp [Lib.joinTail,List.append_assoc]
theorem T6 (f:Nat->E6) (g:Nat->List UInt8) (n:Nat) (hg:∀ k,k<n->g k=BO (f k)):∀ i,i <= n->Lib.join ((List.range i).map g) [32]=CI f i
 | 0,_=>rfl
 | i+1,h=>by
  have ih:=T6 f g n hg i (by omega);rw [List.range_succ,List.map_append,List.map_cons,List.map_nil,hg i (by omega)];by_cases hi:0<i
  ·obtain ⟨m,rfl⟩:∃ m,i=m+1:=⟨i-1,by omega⟩
   rw [NQ hi,<- ih];rw [List.range_succ_eq_map,List.map_cons,YL];rfl
  ·have:i=0:=by omega
   subst this;rw [NP hi];show Lib.join [BO (f 0)] [32]=_;rw [Lib.join_one];rfl
def GM (f:Nat->E6) (i k:Nat):List UInt8:=bif decide (k<i) then BO (f k) else []
theorem AhG (f:Nat->E6):GM f 0=λ_=>[]:=by
 funext k;simp [GM]
theorem Y0 (f:Nat->E6) (i:Nat):As i (λk=>.str (GM f i k)) (.str (BO (f i)))=λk=>.str (GM f (i+1) k):=by
 funext k;rw [Bi,show Nat.beq k i=decide (k=i) by rw [Bool.eq_iff_iff]; simp];unfold GM;by_cases h:k=i
 ·subst h; simp
 ·by_cases h2:k<i
  ·have:k<i+1:=by omega
   simp [h,h2,this]
  ·have:¬ k<i+1:=by omega
   simp [h,h2,this]
theorem Ql (f:Nat->E6) (n:Nat):Qm n (GM f n) [32]=CI f n :=
 T6 f (GM f n) n (λk hk=>by rw [GM,decide_eq_true hk]; rfl) n (Nat.le_refl n)
theorem AaM {D:Nat} (h:0<D) (hn:D <= 9223372036854775807):wr .i64 (A5 (ofNat D) 1)=ofNat (D-1):=by
 unfold wr A5 IntKind.wrap;simp [IntKind.bits,IntKind.signed];omega
def Zm (n:Nat) (f:Nat->E6):Bool:=decide (262144<(CI f n).length)
def CY (n:Nat) (f:Nat->E6):List UInt8:=bif Co n f then (bif Zm n f then [] else CI f n) else []
def Ib (n:Nat) (f:Nat->E6):Int:=bif Co n f then (bif Zm n f then 2 else 0) else 30
def Rq:List V->AR:=FT λn f=>.br (BF n) (out (.tup [.str (CY n f),iV (Ib n f)])) .fail
noncomputable def tb63:AP:=(39,BI Kt)::(40,Ab7)::[]
theorem tb63_ok:Av Tryz.prog Gl tb63:=.cons p26 <| .cons Ao6 .nil
def Kw (n:Nat) (f:Nat->E6):Lp:=⟨bmK 38 0 [2,3,4,5,10,11,12],1,bmK 38 0 [2,3,4,5],1,n+1⟩
def UO (n:Nat) (f:Nat->E6) (s:Int) (i:Nat) (h:Nat->List UInt8) (j:Nat->V):St:=⟨jsV 38 0 j [(2,.str []),(3,iV 0),(4,.ref 0),(5,iV s),(10,.sl 6 n (λi=>eV (f i))),(11,nV n),(12,nV i)],[.row 9 1 i (λk=>.str (h k))]⟩
def Ud (n:Nat) (f:Nat->E6) (s:Int) (i:Nat) (h:Nat->List UInt8):Ex×St:=(.ex 0,⟨jsV 38 0 Aa [(2,.str []),(3,iV 0),(4,.ref 0),(5,iV s)],[.row 9 1 i (λk=>.str (h k))]⟩)
def Aco (n:Nat) (f:Nat->E6) (s:Int) (i:Nat) (h:Nat->List UInt8):Ex×St:=(.rt,⟨jsV 38 0 Aa [(2,.str []),(3,iV 30),(4,.ref 0),(5,iV s)],[.row 9 1 i (λk=>.str (h k))]⟩)
noncomputable def Ey (L:LT):St->T (Ex×St):=λst=>A7 tab ⟨Ap tb63,L,Gl⟩ (Ar Tryz.f18 0) 0 st
section
variable (L:LT) (n:Nat) (f:Nat->E6) (s:Int) (i:Nat) (h:Nat->List UInt8)  (j:Nat->V)
include L n f s i h j
theorem AlV (h0:ilt (ofNat i) (ofNat n)=false):Ah (Ey L) (Kw n f) (UO n f s i h j)=some ((.ex 0),⟨jsV 38 0 Aa [(2,.str []),(3,iV 0),(4,.ref 0),(5,iV s)],[.row 9 1 i (λk=>.str (h k))]⟩):=by
 exact Ab (ks:=[kn h0]) (by kernel_rfl)
theorem AlU (h0:ilt (ofNat i) (ofNat n)=true) (h1:Al (ile 0 (ofNat i)) (ilt (ofNat i) (ofNat n))=true) (h2:ieq (Bc (f i)) 0=false):Ah (Ey L) (Kw n f) (UO n f s i h j)=some (.rt,⟨jsV 38 0 Aa [(2,.str []),(3,iV 30),(4,.ref 0),(5,iV s)],[.row 9 1 i (λk=>.str (h k))]⟩):=by
 exact Ab (ks:=[kn h0,kn h1,kN (kn h2)]) (by kernel_rfl)
theorem AlT (h0:ilt (ofNat i) (ofNat n)=true) (h1:Al (ile 0 (ofNat i)) (ilt (ofNat i) (ofNat n))=true) (h2:ieq (Bc (f i)) 0=true) (h3:Ba i 1 16=true):Ah (Ey L) (Kw n f) (UO n f s i h j)=some (.nm,⟨jsV 38 0 Aa [(2,.str []),(3,iV 0),(4,.ref 0),(5,iV (wr .i64 (Af s (wr .i64 (Af (ofNat (Bu (BO (f i)))) 1))))),(10,.sl 6 n (λi=>eV (f i))),(11,nV n),(12,iV (wr .i64 (Af (ofNat i) 1)))],[.row 9 1 (AS i 1) (As i (λk=>.str (h k)) (.str (BO (f i))))]⟩):=by
 exact Ab (ks:=[kn h0,kn h1,kN (kn h2),kn h3]) (by kernel_rfl)
end
def Jx (n:Nat) (f:Nat->E6) :St:=⟨jsV 38 0 (λ_=>A9) [(0,.sl 6 n (λi=>eV (f i))),(2,.str []),(3,iV 0),(4,.ref 0),(5,iV 0),(10,.sl 6 n (λi=>eV (f i))),(11,nV n),(12,iV 0)],[.row 9 1 0 Aa]⟩
theorem Akr (L:LT) (p0:PT) (n:Nat) (f:Nat->E6) (s:Int) (i:Nat) (h:Nat->List UInt8)  (hp0:p0 (Ey (onP 0 p0 (Aco n f s i h) L)) (Jx n f)=true):(Az (Ak tab ⟨Ap tb63,onP 0 p0 (Aco n f s i h) L,Gl⟩ Tryz.f18 [AQ n f] [])).sem=some ((.tup [.str [],iV 30]),[]):=by
 exact Ab (ks:=[kn hp0]) (by kernel_rfl)
section
variable (L:LT) (p0:PT) (n:Nat) (f:Nat->E6) (s:Int) (h:Nat->List UInt8)
include L p0 n f s h
theorem Akq (h0:ilt 262144 (wr .i64 (A5 s 1))=true) (hp0:p0 (Ey (onP 0 p0 (Ud n f s n h) L)) (Jx n f)=true):(Az (Ak tab ⟨Ap tb63,onP 0 p0 (Ud n f s n h) L,Gl⟩ Tryz.f18 [AQ n f] [])).sem=some ((.tup [.str [],iV 2]),[]):=by
 exact Ab (ks:=[kn hp0,kn h0]) (by kernel_rfl)
theorem Akp (h0:ilt 262144 (wr .i64 (A5 s 1))=false) (h1:O1 n h [32]=true) (hp0:p0 (Ey (onP 0 p0 (Ud n f s n h) L)) (Jx n f)=true):(Az (Ak tab ⟨Ap tb63,onP 0 p0 (Ud n f s n h) L,Gl⟩ Tryz.f18 [AQ n f] [])).sem=some ((.tup [.str (Qm n h [32]),iV 0]),[]):=by
 exact Ab (ks:=[kn hp0,kn h0,kL n,kn h1]) (by kernel_rfl)
end
theorem AfO (L:LT) (n:Nat) (f:Nat->E6) (h8:n * 40 <= 140737488355328) (e:Nat) (he:e <= n) (ho:∀ k,k<e->Bc (f k)=0):∀ (d i:Nat) (j:Nat->V) (q:Nat),e=i+d->n-i<q ->
  (A3 (Ey L) (Kw n f) q (UO n f (ofNat (GK f i)) i (GM f i) j)).sem=(A3 (Ey L) (Kw n f) (q-d) (UO n f (ofNat (GK f e)) e (GM f e) (match d with | 0=>j | _+1=>λ_=>.und))).sem
 | 0,i,j,q,h,_=>by
  have:e=i:=by omega
  subst this;rfl
 | d+1,i,j,q+1,h,h2=>by
  have hl:i<n:=by omega
  have hz:=QW f i;have hz2:=Ks (f i);have h9:(i+1) * 16 <= 140737488355328:=by omega
  have ha:Ba i 1 16=true:=decide_eq_true h9;have c1:ieq (Bc (f i)) 0=true:=by rw [ho i (by omega)]; rfl
  have e3:wr .i64 (Af (ofNat (GK f i)) (wr .i64 (Af (ofNat (Bu (BO (f i)))) 1)))=(ofNat (GK f (i+1))):=by
   have hs:Bu (BO (f i))=(BO (f i)).length:=rfl;rw [Lu (by omega),D8 (by omega)];rfl
  rw [Ae (AlT L n f (ofNat (GK f i)) i (GM f i) j (ofNat_lt hl) (Ao hl) c1 ha),Ay,Aq hl (by omega),e3,Y0];have:=AfO L n f h8 e he ho d (i+1) Aa q (by omega) (by omega);rw [show q+1-(d+1)=q-d by omega];refine Eq.trans this ?_;cases d <;> rfl
theorem AbZ (n:Nat) (f:Nat->E6):CE (Jx n f) [(0,.str [])]=UO n f 0 0 (λ_=>[]) (λi=>nth (Jx n f).t i):=by kernel_rfl
def U4:List (Nat×List (Nat×V)):=[(0,[(0,.str [])])]
theorem Ahx (n:Nat) (f:Nat->E6) (hF:BF n=true) :
  (Az (Ak tab (cxZ Gl tb63 U4 [(0,Kw n f)]) Tryz.f18 [AQ n f] [])).sem=some (.tup [.str (CY n f),iV (Ib n f)],[]):=by
 have h8:n * 40 <= 140737488355328:=of_decide_eq_true hF;have hL:=DO U4 [(0,Kw n f)];have start:∀ L e,e <= n->(∀ k,k<e->Bc (f k)=0)->∃ j,(Cb U4 [(0,Kw n f)] 0 (Ey L) (Jx n f)).sem=(A3 (Ey L) (Kw n f) (n+1-e) (UO n f (ofNat (GK f e)) e (GM f e) j)).sem:=λL e he ho=>by
  have h:=AfO L n f h8 e he ho e 0 (λi=>nth (Jx n f).t i) (n+1) (by omega) (by omega);refine ⟨_,Eq.trans ?_ h⟩;show (A3 (Ey L) (Kw n f) (n+1) (CE (Jx n f) [(0,.str [])])).sem=_;rw [AbZ,<- AhG f];rfl
 unfold CY Ib;cases hm:Co n f with
 | false =>
  obtain ⟨e,he,hb,ho⟩:=V8 hm;have h0:∀ L,(Cb U4 [(0,Kw n f)] 0 (Ey L) (Jx n f)).sem=some (Aco n f (ofNat (GK f e)) e (GM f e)):=λL=>by
   obtain ⟨j,h⟩:=start L e (Nat.le_of_lt he) ho;rw [h,show n+1-e=(n-e)+1 by omega];have c1:ieq (Bc (f e)) 0=false:=by rw [hb]; rfl
   exact Ae (AlU L n f (ofNat (GK f e)) e (GM f e) j (ofNat_lt he) (Ao he) c1)
  exact AH (AA hL hL) _ (Akr _ _ n f (ofNat (GK f e)) e (GM f e) (Au (h0 _)))
 | true =>
  have h0:∀ L,(Cb U4 [(0,Kw n f)] 0 (Ey L) (Jx n f)).sem=some (Ud n f (ofNat (GK f n)) n (GM f n)):=λL=>by
   obtain ⟨j,h⟩:=start L n (Nat.le_refl n) (EF.1 hm);rw [h,show n+1-n=0+1 by omega];exact Ae (AlV L n f (ofNat (GK f n)) n (GM f n) j (A1 (Nat.le_refl _)))
  have hg:ilt 262144 (wr .i64 (A5 (ofNat (GK f n)) 1))=Zm n f:=by
   cases n with
   | zero=>rfl
   | succ m =>have h1:=SQ f m;have h2:=QW f (m+1);rw [AaM (by omega) (by omega),show (262144:Int)=ofNat 262144 from rfl,BV,h1];rfl
  cases hb:Zm n f with
  | true =>rw [hb] at hg;exact AH (AA hL hL) _ (Akq _ _ n f (ofNat (GK f n)) (GM f n) hg (Au (h0 _)))
  | false =>
   rw [hb] at hg;have hlen:(CI f n).length <= 262144:=by
    have:=of_decide_eq_false hb;omega
   have hj:O1 n (GM f n) [32]=true:=by
    simp only [O1,Ql,Bool.and_eq_true,decide_eq_true_eq];omega
   have hw:=AH (AA hL hL) _ (Akp _ _ n f (ofNat (GK f n)) (GM f n) hg hj (Au (h0 _)));rw [Ql] at hw;exact hw
theorem p63:Ax Tryz.prog Gl 18 Rq:=by
 refine Am A8 mixed Tryz.func18 (by kernel_rfl) (by kernel_rfl) λvs v h' h=>?_;obtain ⟨n,f,ha,h1⟩:=Ct h;obtain ⟨hn,hq⟩:=Ad h1;have:=Ac hq;simp only [Prod.mk.injEq] at this;obtain ⟨rfl,rfl⟩:=this;have hx:=JI tb63_ok U4 [(0,Kw n f)];exact ⟨_,cxZ Gl tb63 U4 [(0,Kw n f)],_,ha,rfl,hx.1,hx.2,Ahx n f hn,Aw.refl _⟩
end Go.Proofs.YtkgdhhieomndeaaGreatDoor.Ed
namespace Go.Proofs.YtkgdhhieomndeaaGreatDoor.Sh
open Go.Sy Ed
set_option maxHeartbeats 1000000
set_option maxRecDepth 4000
noncomputable def tb5:AP:=(57,ofT)::(52,MM)::[]
theorem tb5_ok:Av Tryz.prog Gl tb5:=.cons p14 <| .cons p49 .nil
end Go.Proofs.YtkgdhhieomndeaaGreatDoor.Sh
namespace Go.Proofs.YtkgdhhieomndeaaGreatDoor.Sh
open Go.Sy Ed
set_option maxHeartbeats 1000000
set_option maxRecDepth 4000
theorem K6 {a b:Nat} (h:a ≠ b):ieq (Int.ofNat a) (Int.ofNat b)=false:=by
 cases hc:ieq (Int.ofNat a) (Int.ofNat b) with
 | false=>rfl
 | true=>exact absurd (Int.ofNat.inj (BN hc)) h
theorem Ac8 {e:E6} (h1:ieq e.kind 1=false) (h2:ieq e.kind 2=false) (h3:ieq e.kind 3=false):B3 e=false:=by
 have h1:¬ e.kind=1:=by simpa [ieq] using h1
 have h2:¬ e.kind=2:=by simpa [ieq] using h2
 have h3:¬ e.kind=3:=by simpa [ieq] using h3
 unfold B3;cases ha:ile 1 e.kind with
 | false=>rfl
 | true =>have ha:1 <= e.kind:=of_decide_eq_true ha;rw [Bq rfl];exact decide_eq_false (by omega)
theorem Aej {e:E6} (h:B3 e=false):AK e=false:=by
 unfold AK;rw [h];rfl
end Go.Proofs.YtkgdhhieomndeaaGreatDoor.Sh
