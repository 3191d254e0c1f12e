/-
  The text of any edges: Print, the program's and the document's; the law CyclePrints as a function. No conditions.
-/
import Derived.Test.YtkgdhhieomndeaaGreatDoorCyJ
import Derived.Test.YtkgdhhieomndeaaGreatDoorShS
namespace Go.Proofs.YtkgdhhieomndeaaGreatDoor.Ed
open Go.Sy
open Int (ofNat)
theorem ZE:(List.range 112).all (λk=>decide ((IB k).length <= 32))=true:=by kernel_rfl
theorem KC (e:E6):(Ca e).length <= 32:=by
 rcases Er e with ⟨k,hk,_,_,_,h⟩ | ⟨_,_,h,_⟩
 ·rw [h]
  exact of_decide_eq_true (List.all_eq_true.1 ZE k (List.mem_range.2 hk))
 ·rw [h]; exact Nat.zero_le _
def nm (f:Nat->E6) (i:Nat):List UInt8:=Ca (f i)
def CW (f:Nat->E6):Nat->List UInt8
 | 0=>[]
 | i+1=>bif decide (0<i) then Dq (Dq (CW f i) [32]) (Ca (f i)) else Dq (CW f i) (Ca (f i))
theorem Oq {f:Nat->E6} {i:Nat} (h:¬ 0<i):CW f (i+1)=Dq (CW f i) (Ca (f i)):=by rw [CW,decide_eq_false h]; rfl
theorem Ot {f:Nat->E6} {i:Nat} (h:0<i):CW f (i+1)=Dq (Dq (CW f i) [32]) (Ca (f i)):=by rw [CW,decide_eq_true h]; rfl
theorem Qy (f:Nat->E6):∀ {i k:Nat},i <= k->(CW f i).length <= (CW f k).length
 | i,0,h=>by
  have:i=0:=by omega
  subst this;exact Nat.le_refl _
 | i,k+1,h=>by
  by_cases e:i=k+1
  ·subst e; exact Nat.le_refl _
  ·have:=Qy f (show i <= k by omega)
   by_cases hk:0<k
   ·rw [Ot hk]
    simp only [Dq,List.length_append];omega
   ·rw [Oq hk]
    simp only [Dq,List.length_append];omega
theorem XT (f:Nat->E6):∀ i,(CW f i).length <= 33 * i
 | 0=>Nat.le_refl _
 | i+1=>by
  have h1:=XT f i;have h2:=KC (f i);by_cases hk:0<i
  ·rw [Ot hk]
   simp only [Dq,List.length_append,List.length_cons,List.length_nil];omega
  ·rw [Oq hk]
   simp only [Dq,List.length_append];omega
def Hf (f:Nat->E6):Nat->Nat
 | 0=>0
 | i+1=>Hf f i+((Ca (f i)).length+1)
theorem Rx (f:Nat->E6):∀ i,Hf f i <= 33 * i
 | 0=>Nat.le_refl _
 | i+1=>by
  have h1:=Rx f i;have h2:=KC (f i);unfold Hf;omega
theorem TM (f:Nat->E6):∀ i,Hf f (i+1)=(CW f (i+1)).length+1
 | 0=>by
  rw [Oq (Nat.lt_irrefl 0)];simp [Hf,CW,Dq]
 | i+1=>by
  have ih:=TM f i;rw [Hf,ih,Ot (f:=f) (i:=i+1) (by omega)];simp only [Dq,List.length_append,List.length_cons,List.length_nil];omega
theorem ZM (x y:List UInt8) (r:List (List UInt8)) (sep:List UInt8):Lib.join ((x::r)++[y]) sep=Lib.join (x::r) sep++sep++y:=by
 rw [List.cons_append,Lib.join_cons,Lib.join_cons];simp [Lib.joinTail,List.append_assoc]
theorem Uy (f:Nat->E6) (g:Nat->List UInt8) (n:Nat) (hg:∀ k,k<n->g k=Ca (f k)):∀ i,i <= n->Lib.join ((List.range i).map g) [32]=CW f i
 | 0,_=>rfl
 | i+1,h=>by
  have ih:=Uy f g n hg i (by omega);rw [List.range_succ,List.map_append,List.map_cons,List.map_nil,hg i (by omega)];by_cases hi:0<i
  ·obtain ⟨m,rfl⟩:∃ m,i=m+1:=⟨i-1,by omega⟩
   rw [Ot hi,<- ih];rw [List.range_succ_eq_map,List.map_cons,ZM];rfl
  ·have:i=0:=by omega
   subst this;rw [Oq hi];show Lib.join [Ca (f 0)] [32]=_;rw [Lib.join_one];rfl
def Hh (f:Nat->E6) (i k:Nat):List UInt8:=bif decide (k<i) then Ca (f k) else []
theorem AiJ (f:Nat->E6):Hh f 0=λ_=>[]:=by
 funext k;simp [Hh]
theorem Z3 (f:Nat->E6) (i:Nat):As i (λk=>.str (Hh f i k)) (.str (Ca (f i)))=λk=>.str (Hh f (i+1) k):=by
 funext k;rw [Bo,show Nat.beq k i=decide (k=i) by rw [Bool.eq_iff_iff]; simp];unfold Hh;by_cases h:k=i
 ·subst h; simp
 ·by_cases h2:k<i
  ·have:k<i+1:=by omega
   simp [h,h2,this]
  ·have:¬ k<i+1:=by omega
   simp [h,h2,this]
theorem QB (f:Nat->E6) (n:Nat):QC n (Hh f n) [32]=CW f n :=
 Uy f (Hh f n) n (λk hk=>by rw [Hh,decide_eq_true hk]; rfl) n (Nat.le_refl n)
theorem AbH {D:Nat} (h:0<D) (hn:D <= 9223372036854775807):wr .i64 (AC (ofNat D) 1)=ofNat (D-1):=by
 unfold wr AC IntKind.wrap;simp [IntKind.bits,IntKind.signed];omega
def Aak (n:Nat) (f:Nat->E6):Bool:=decide (262144<(CW f n).length)
def Dn (n:Nat) (f:Nat->E6):List UInt8:=bif Cp n f then (bif Aak n f then [] else CW f n) else []
def I9 (n:Nat) (f:Nat->E6):Int:=bif Cp n f then (bif Aak n f then 2 else 0) else 30
def RR:List V->AE:=Gs λn f=>.br (BC n) (out (.tup [.str (Dn n f),iV (I9 n f)])) .fail
noncomputable def tb63:AK:=(39,BW KD)::(40,Ac5)::[]
theorem tb63_ok:Aq Tryz.prog Gl tb63:=.cons p26 <| .cons ApF .nil
def KG (n:Nat) (f:Nat->E6):Lp:=⟨bmK 38 0 [2,3,4,5,10,11,12],1,bmK 38 0 [2,3,4,5],1,n+1⟩
def VK (n:Nat) (f:Nat->E6) (s:Int) (i:Nat) (h:Nat->List UInt8) (j:Nat->V):St:=⟨jsV 38 0 j [(2,.str []),(3,iV 0),(4,.ref 0),(5,iV s),(10,.sl 6 n (λi=>eV (f i))),(11,nV n),(12,nV i)],[.row 9 1 i (λk=>.str (h k))]⟩
def UZ (n:Nat) (f:Nat->E6) (s:Int) (i:Nat) (h:Nat->List UInt8):Ex×St:=(.ex 0,⟨jsV 38 0 Aa [(2,.str []),(3,iV 0),(4,.ref 0),(5,iV s)],[.row 9 1 i (λk=>.str (h k))]⟩)
def Adk (n:Nat) (f:Nat->E6) (s:Int) (i:Nat) (h:Nat->List UInt8):Ex×St:=(.rt,⟨jsV 38 0 Aa [(2,.str []),(3,iV 30),(4,.ref 0),(5,iV s)],[.row 9 1 i (λk=>.str (h k))]⟩)
noncomputable def EM (L:LT):St->T (Ex×St):=λst=>AD tab ⟨Am tb63,L,Gl⟩ (Au Tryz.f18 0) 0 st
section
variable (L:LT) (n:Nat) (f:Nat->E6) (s:Int) (i:Nat) (h:Nat->List UInt8)  (j:Nat->V)
include L n f s i h j
theorem AmD (h0:ilt (ofNat i) (ofNat n)=false):Al (EM L) (KG n f) (VK n f s i h j)=some ((.ex 0),⟨jsV 38 0 Aa [(2,.str []),(3,iV 0),(4,.ref 0),(5,iV s)],[.row 9 1 i (λk=>.str (h k))]⟩):=by
 exact Ac (ks:=[kn h0]) (by kernel_rfl)
theorem AmC (h0:ilt (ofNat i) (ofNat n)=true) (h1:Ao (ile 0 (ofNat i)) (ilt (ofNat i) (ofNat n))=true) (h2:ieq (Bd (f i)) 0=false):Al (EM L) (KG n f) (VK n f s i h j)=some (.rt,⟨jsV 38 0 Aa [(2,.str []),(3,iV 30),(4,.ref 0),(5,iV s)],[.row 9 1 i (λk=>.str (h k))]⟩):=by
 exact Ac (ks:=[kn h0,kn h1,kN (kn h2)]) (by kernel_rfl)
theorem AmB (h0:ilt (ofNat i) (ofNat n)=true) (h1:Ao (ile 0 (ofNat i)) (ilt (ofNat i) (ofNat n))=true) (h2:ieq (Bd (f i)) 0=true) (h3:Bn i 1 16=true):Al (EM L) (KG n f) (VK n f s i h j)=some (.nm,⟨jsV 38 0 Aa [(2,.str []),(3,iV 0),(4,.ref 0),(5,iV (wr .i64 (Ak s (wr .i64 (Ak (ofNat (B5 (Ca (f i)))) 1))))),(10,.sl 6 n (λi=>eV (f i))),(11,nV n),(12,iV (wr .i64 (Ak (ofNat i) 1)))],[.row 9 1 (AV i 1) (As i (λk=>.str (h k)) (.str (Ca (f i))))]⟩):=by
 exact Ac (ks:=[kn h0,kn h1,kN (kn h2),kn h3]) (by kernel_rfl)
end
def JP (n:Nat) (f:Nat->E6) :St:=⟨jsV 38 0 (λ_=>A9) [(0,.sl 6 n (λi=>eV (f i))),(2,.str []),(3,iV 0),(4,.ref 0),(5,iV 0),(10,.sl 6 n (λi=>eV (f i))),(11,nV n),(12,iV 0)],[.row 9 1 0 Aa]⟩
theorem Alw (L:LT) (p0:PT) (n:Nat) (f:Nat->E6) (s:Int) (i:Nat) (h:Nat->List UInt8)  (hp0:p0 (EM (onP 0 p0 (Adk n f s i h) L)) (JP n f)=true):(Ay (Ai tab ⟨Am tb63,onP 0 p0 (Adk n f s i h) L,Gl⟩ Tryz.f18 [AS n f] [])).sem=some ((.tup [.str [],iV 30]),[]):=by
 exact Ac (ks:=[kn hp0]) (by kernel_rfl)
section
variable (L:LT) (p0:PT) (n:Nat) (f:Nat->E6) (s:Int) (h:Nat->List UInt8)
include L p0 n f s h
theorem Alv (h0:ilt 262144 (wr .i64 (AC s 1))=true) (hp0:p0 (EM (onP 0 p0 (UZ n f s n h) L)) (JP n f)=true):(Ay (Ai tab ⟨Am tb63,onP 0 p0 (UZ n f s n h) L,Gl⟩ Tryz.f18 [AS n f] [])).sem=some ((.tup [.str [],iV 2]),[]):=by
 exact Ac (ks:=[kn hp0,kn h0]) (by kernel_rfl)
theorem Alu (h0:ilt 262144 (wr .i64 (AC s 1))=false) (h1:OT n h [32]=true) (hp0:p0 (EM (onP 0 p0 (UZ n f s n h) L)) (JP n f)=true):(Ay (Ai tab ⟨Am tb63,onP 0 p0 (UZ n f s n h) L,Gl⟩ Tryz.f18 [AS n f] [])).sem=some ((.tup [.str (QC n h [32]),iV 0]),[]):=by
 exact Ac (ks:=[kn hp0,kn h0,kL n,kn h1]) (by kernel_rfl)
end
theorem AgO (L:LT) (n:Nat) (f:Nat->E6) (h8:n * 40 <= 140737488355328) (e:Nat) (he:e <= n) (ho:∀ k,k<e->Bd (f k)=0):∀ (d i:Nat) (j:Nat->V) (q:Nat),e=i+d->n-i<q ->
  (A3 (EM L) (KG n f) q (VK n f (ofNat (Hf f i)) i (Hh f i) j)).sem=(A3 (EM L) (KG n f) (q-d) (VK n f (ofNat (Hf f e)) e (Hh f e) (match d with | 0=>j | _+1=>λ_=>.und))).sem
 | 0,i,j,q,h,_=>by
  have:e=i:=by omega
  subst this;rfl
 | d+1,i,j,q+1,h,h2=>by
  have hl:i<n:=by omega
  have hz:=Rx f i;have hz2:=KC (f i);have h9:(i+1) * 16 <= 140737488355328:=by omega
  have ha:Bn i 1 16=true:=decide_eq_true h9;have c1:ieq (Bd (f i)) 0=true:=by rw [ho i (by omega)]; rfl
  have e3:wr .i64 (Ak (ofNat (Hf f i)) (wr .i64 (Ak (ofNat (B5 (Ca (f i)))) 1)))=(ofNat (Hf f (i+1))):=by
   have hs:B5 (Ca (f i))=(Ca (f i)).length:=rfl;rw [LK (by omega),Fb (by omega)];rfl
  rw [Ae (AmB L n f (ofNat (Hf f i)) i (Hh f i) j (ofNat_lt hl) (Ag hl) c1 ha),A6,Ap hl (by omega),e3,Z3];have:=AgO L n f h8 e he ho d (i+1) Aa q (by omega) (by omega);rw [show q+1-(d+1)=q-d by omega];refine Eq.trans this ?_;cases d <;> rfl
theorem AcX (n:Nat) (f:Nat->E6):Gb (JP n f) [(0,.str [])]=VK n f 0 0 (λ_=>[]) (λi=>nth (JP n f).t i):=by kernel_rfl
def V3:List (Nat×List (Nat×V)):=[(0,[(0,.str [])])]
theorem Ai2 (n:Nat) (f:Nat->E6) (hF:BC n=true) :
  (Ay (Ai tab (cxZ Gl tb63 V3 [(0,KG n f)]) Tryz.f18 [AS n f] [])).sem=some (.tup [.str (Dn n f),iV (I9 n f)],[]):=by
 have h8:n * 40 <= 140737488355328:=of_decide_eq_true hF;have hL:=Ho V3 [(0,KG n f)];have start:∀ L e,e <= n->(∀ k,k<e->Bd (f k)=0)->∃ j,(Eb V3 [(0,KG n f)] 0 (EM L) (JP n f)).sem=(A3 (EM L) (KG n f) (n+1-e) (VK n f (ofNat (Hf f e)) e (Hh f e) j)).sem:=λL e he ho=>by
  have h:=AgO L n f h8 e he ho e 0 (λi=>nth (JP n f).t i) (n+1) (by omega) (by omega);refine ⟨_,Eq.trans ?_ h⟩;show (A3 (EM L) (KG n f) (n+1) (Gb (JP n f) [(0,.str [])])).sem=_;rw [AcX,<- AiJ f];rfl
 unfold Dn I9;cases hm:Cp n f with
 | false =>
  obtain ⟨e,he,hb,ho⟩:=W3 hm;have h0:∀ L,(Eb V3 [(0,KG n f)] 0 (EM L) (JP n f)).sem=some (Adk n f (ofNat (Hf f e)) e (Hh f e)):=λL=>by
   obtain ⟨j,h⟩:=start L e (Nat.le_of_lt he) ho;rw [h,show n+1-e=(n-e)+1 by omega];have c1:ieq (Bd (f e)) 0=false:=by rw [hb]; rfl
   exact Ae (AmC L n f (ofNat (Hf f e)) e (Hh f e) j (ofNat_lt he) (Ag he) c1)
  exact AP (AI hL hL) _ (Alw _ _ n f (ofNat (Hf f e)) e (Hh f e) (Az (h0 _)))
 | true =>
  have h0:∀ L,(Eb V3 [(0,KG n f)] 0 (EM L) (JP n f)).sem=some (UZ n f (ofNat (Hf f n)) n (Hh f n)):=λL=>by
   obtain ⟨j,h⟩:=start L n (Nat.le_refl n) (Dt.1 hm);rw [h,show n+1-n=0+1 by omega];exact Ae (AmD L n f (ofNat (Hf f n)) n (Hh f n) j (Aw (Nat.le_refl _)))
  have hg:ilt 262144 (wr .i64 (AC (ofNat (Hf f n)) 1))=Aak n f:=by
   cases n with
   | zero=>rfl
   | succ m =>have h1:=TM f m;have h2:=Rx f (m+1);rw [AbH (by omega) (by omega),show (262144:Int)=ofNat 262144 from rfl,BP,h1];rfl
  cases hb:Aak n f with
  | true =>rw [hb] at hg;exact AP (AI hL hL) _ (Alv _ _ n f (ofNat (Hf f n)) (Hh f n) hg (Az (h0 _)))
  | false =>
   rw [hb] at hg;have hlen:(CW f n).length <= 262144:=by
    have:=of_decide_eq_false hb;omega
   have hj:OT n (Hh f n) [32]=true:=by
    simp only [OT,QB,Bool.and_eq_true,decide_eq_true_eq];omega
   have hw:=AP (AI hL hL) _ (Alu _ _ n f (ofNat (Hf f n)) (Hh f n) hg hj (Az (h0 _)));rw [QB] at hw;exact hw
theorem p63:Ax Tryz.prog Gl 18 RR:=by
 refine Aj A7 mixed Tryz.func18 (by kernel_rfl) (by kernel_rfl) λvs v h' h=>?_;obtain ⟨n,f,ha,h1⟩:=C7 h;obtain ⟨hn,hq⟩:=Ad h1;have:=Ab hq;simp only [Prod.mk.injEq] at this;obtain ⟨rfl,rfl⟩:=this;have hx:=Pp tb63_ok V3 [(0,KG n f)];exact ⟨_,cxZ Gl tb63 V3 [(0,KG n f)],_,ha,rfl,hx.1,hx.2,Ai2 n f hn,Av.refl _⟩
end Go.Proofs.YtkgdhhieomndeaaGreatDoor.Ed
namespace Go.Proofs.YtkgdhhieomndeaaGreatDoor.Sh
open Go.Sy Ed
set_option maxHeartbeats 1000000
set_option maxRecDepth 4000
noncomputable def tb5:AK:=(57,ofT)::(52,Nr)::[]
theorem tb5_ok:Aq Tryz.prog Gl tb5:=.cons p14 <| .cons p49 .nil
end Go.Proofs.YtkgdhhieomndeaaGreatDoor.Sh
namespace Go.Proofs.YtkgdhhieomndeaaGreatDoor.Sh
open Go.Sy Ed
set_option maxHeartbeats 1000000
set_option maxRecDepth 4000
theorem KQ {a b:Nat} (h:a ≠ b):ieq (Int.ofNat a) (Int.ofNat b)=false:=by
 cases hc:ieq (Int.ofNat a) (Int.ofNat b) with
 | false=>rfl
 | true=>exact absurd (Int.ofNat.inj (BX hc)) h
theorem Ad2 {e:E6} (h1:ieq e.kind 1=false) (h2:ieq e.kind 2=false) (h3:ieq e.kind 3=false):BF e=false:=by
 have h1:¬ e.kind=1:=by simpa [ieq] using h1
 have h2:¬ e.kind=2:=by simpa [ieq] using h2
 have h3:¬ e.kind=3:=by simpa [ieq] using h3
 unfold BF;cases ha:ile 1 e.kind with
 | false=>rfl
 | true =>have ha:1 <= e.kind:=of_decide_eq_true ha;rw [Bp rfl];exact decide_eq_false (by omega)
theorem Afd {e:E6} (h:BF e=false):AB e=false:=by
 unfold AB;rw [h];rfl
end Go.Proofs.YtkgdhhieomndeaaGreatDoor.Sh
