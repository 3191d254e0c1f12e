/-
  Layer 5: closed lists by their length, as traces of powers up to 2^63. No conditions.
-/
import Derived.Test.YtkbgidbledjejaaGreatEnWd
namespace Go.Proofs.YtkbgidbledjejaaGreat.En
open Go.Sy Go Go.Proofs.YtkbgidbledjejaaGreat.Ed
open Int (ofNat)
set_option maxRecDepth 100000
def Aho (us:List (Nat×Lp)) (ls:List (Nat×Lp×List (Nat×(Nat->V)))) (id:Nat) (f:St->T (Ex×St)) (st:St):T (Ex×St) :=
 match Jb id us with
 | some l=>Ax f l l.fuel st
 | none=>C6 ls id f st
theorem Ahn (c:FuncId->List V->St->T (V×Res)) (G:Nat->V) (us:List (Nat×Lp)) (ls:List (Nat×Lp×List (Nat×(Nat->V)))):Cb ⟨c,Aho us ls,G⟩:=λid f st r hr=>by
 have hr:(Aho us ls id f st).sem=some r:=hr;unfold Aho at hr;split at hr
 ·exact .run (GA hr)
 ·exact MD c G ls id f st r hr
def cxU (G:Nat->V) (tbl:AH) (us:List (Nat×Lp)) (ls:List (Nat×Lp×List (Nat×(Nat->V)))):Cx:=⟨A6 tbl,Aho us ls,G⟩
theorem Yf {P:Program} {G:Nat->V} {tbl:AH} (h:Ao P G tbl) (us:List (Nat×Lp)) (ls:List (Nat×Lp×List (Nat×(Nat->V)))):Bb P (cxU G tbl us ls).base∧Cb (cxU G tbl us ls):=⟨Ep rfl h,Ahn _ _ _ _⟩
def AeX (n:Nat):Lp:=⟨[],1000,[],1000,n⟩
theorem N4.one_mul (m:N4):N4.one.mul m=m:=by
 cases m;simp [N4.one,N4.mul]
theorem N4.pow_one (m:N4):m.pow 1=m:=N4.one_mul m
def CL (x:Int):Int:=if 9223372036854775808 <= x then 9223372036854775808 else x
theorem P1 {x y:Int} (hx:0 <= x) (hy:0 <= y):BZ (CL x) (CL y)=CL (x+y):=by
 unfold BZ CL;split <;> split <;> split <;> (try split) <;> omega
theorem JS {x:Int} (h:x<9223372036854775808):CL x=x:=by
 unfold CL;rw [if_neg (by omega)]
theorem UZ {x y:Int} (hx:0 <= x) (hy:0 <= y):BO (CL x) (CL y)=CL (x * y):=by
 rcases Int.lt_or_le 0 x with hx1 | hx1
 ·rcases Int.lt_or_le 0 y with hy1 | hy1
  ·have e1:x <= x * y:=by
    have:=Int.mul_le_mul_of_nonneg_left (show 1 <= y by omega) hx;omega
   have e2:y <= x * y:=by
    have:=Int.mul_le_mul_of_nonneg_right (show 1 <= x by omega) hy;omega
   by_cases h1:9223372036854775808 <= x
   ·have p:CL x=9223372036854775808:=if_pos h1
    have q:CL (x * y)=9223372036854775808:=if_pos (by omega);have r:1 <= CL y:=by unfold CL; split <;> omega
    rw [p,q];unfold BO;rw [if_pos (by omega)]
   ·by_cases h2:9223372036854775808 <= y
    ·have p:CL y=9223372036854775808:=if_pos h2
     have q:CL (x * y)=9223372036854775808:=if_pos (by omega);have r:1 <= CL x:=by unfold CL; split <;> omega
     rw [p,q];unfold BO;rw [if_pos (by omega)]
    ·rw [JS (by omega),JS (by omega)]
     rfl
  ·have:y=0:=by omega
   subst this;rw [Int.mul_zero];unfold BO;rw [show CL 0=0 from rfl,Int.mul_zero];rfl
 ·have:x=0:=by omega
  subst this;rw [Int.zero_mul];unfold BO;rw [show CL 0=0 from rfl,Int.zero_mul];rfl
def N4.s (m:N4):M4:=⟨CL (ofNat m.a),CL (ofNat m.b),CL (ofNat m.c),CL (ofNat m.d)⟩
theorem N4.s_mul (m k:N4):m.s.mul k.s=(m.mul k).s:=by
 have h:∀ x y z u:Nat,BZ (BZ 0 (BO (CL (ofNat x)) (CL (ofNat y)))) (BO (CL (ofNat z)) (CL (ofNat u)))=CL (ofNat (x * y+z * u)):=λx y z u=>by
  have p1:(0:Int) <= ofNat x * ofNat y:=Int.mul_nonneg (by simp) (by simp);have p2:(0:Int) <= ofNat z * ofNat u:=Int.mul_nonneg (by simp) (by simp);have e:ofNat (x * y+z * u)=ofNat x * ofNat y+ofNat z * ofNat u:=by simp
  rw [e,UZ (by simp) (by simp),UZ (by simp) (by simp),show BZ 0=BZ (CL 0) from rfl,P1 (by omega) p1,Int.zero_add,P1 p1 p2]
 unfold M4.mul N4.s N4.mul;simp only [h]
theorem I7 (x:Nat):okU (CL (ofNat x))=true:=by
 rw [DV];have:(0:Int) <= ofNat x:=by simp
 unfold CL;split <;> omega
theorem N4.s_ok (m:N4):m.s.ok=true:=M4.ok_iff.2 ⟨I7 _,I7 _,I7 _,I7 _⟩
theorem N4.s_tr (m:N4):BZ m.s.a m.s.d=CL (ofNat m.tr):=by
 show BZ (CL _) (CL _)=_;rw [P1 (by simp) (by simp)];unfold N4.tr;simp
def Xn (m:N4):Nat->Nat->V
 | 0=>λi=>nth [uV 0] i
 | t+1=>AA (t+1) (Xn m t) (uV (CL (trI m (t+1))))
def wN (m:N4):Nat->Int
 | 0=>0
 | t+1=>CL (trI m (t+1))
theorem Vf (m:N4):∀ t i,i<t+1->Xn m t i=uV (wN m i)
 | 0,i,h=>by
  obtain rfl:i=0:=by omega
  rfl
 | t+1,i,h=>by
  show AA (t+1) (Xn m t) _ i=_;rw [BS];by_cases hi:i=t+1
  ·subst hi
   rw [Nat.beq_refl];rfl
  ·rw [show Nat.beq i (t+1)=false from (Bool.eq_false_iff.2 λh=>hi (Nat.eq_of_beq_eq_true h))]
   exact Vf m t i (by omega)
noncomputable def AlJ:AH:=[(117,Ank),(118,uuT λx y=>uV (BZ x y))]
theorem Afx:Ao Tryz.prog Gl AlJ:=.cons Apn <| .cons AcU .nil
def Aii:Lp:=⟨bmK 52 0 [1,2,4,5,6,11],4,bmK 52 0 [1,2,4,5,6],4,3⟩
def Zb:Lp:=⟨bmK 52 0 [1,2,4,5,6,9,10],5,bmK 52 0 [9],5,1000⟩
def AhB:List (Nat×Lp):=[(2,AeX 3)]
def Aic:List (Nat×Lp×List (Nat×(Nat->V))):=[(0,Aii,[]),(4,Zb,[])]
noncomputable abbrev Ai1:Cx:=cxU Gl AlJ AhB Aic
noncomputable def Ao4 (id:Nat):St->T (Ex×St):=λst=>A8 tab Ai1 (A0 Tryz.f111 id) id st
def VO (a b c d:Int) (m p:M4):List Blk:=[.cells [iV a,iV b,iV c,iV d],.row 108 1 0 Ac,.cells [uV m.a,uV m.b,uV m.c,uV m.d],.cells [uV p.a,uV p.b,uV p.c,uV p.d]]
def ApP (n:Int) (H:List Blk):St:=⟨jsV 52 0 Ac [(1,iV n),(2,.ptr 0 0),(4,.ref 1),(5,.ptr 2 0),(6,.ptr 3 0)],H⟩
def z4:M4:=⟨0,0,0,0⟩
theorem Ap8 (a b c d n:Int) {m:M4} (ha:wr .u64 a=m.a) (hb:wr .u64 b=m.b) (hc:wr .u64 c=m.c) (hd:wr .u64 d=m.d):(Ax (Ao4 0) Aii 3 ⟨jsV 52 0 Ac [(1,iV n),(2,.ptr 0 0),(4,.ref 1),(5,.ptr 2 0),(6,.ptr 3 0),(11,iV 0)],VO a b c d z4 z4⟩).sem=some (.ex 0,ApP n (VO a b c d m z4)):=by
 unfold VO;rw [<- ha,<- hb,<- hc,<- hd]
 kernel_rfl
def Ale (a b c d n:Int) (m p:M4) (k:Nat) (x:Nat->V) (i:Int):St:=⟨jsV 52 0 Ac [(1,iV n),(2,.ptr 0 0),(4,.ref 1),(5,.ptr 2 0),(6,.ptr 3 0),(9,.ref 4),(10,iV i)],VO a b c d m p++[.row 108 1 k x]⟩
def ApU (a b c d:Int) (m p:M4) (k:Nat) (x:Nat->V):Ex×St:=(.ex 4,⟨jsV 52 0 Ac [(9,.ref 4)],VO a b c d m p++[.row 108 1 k x]⟩)
def pwS (m:N4):Nat->M4
 | 0=>m.s
 | t+1=>(m.pow (t+1)).s
def Aon (a b c d n:Int) (m:N4) (t:Nat):St:=Ale a b c d n m.s (pwS m t) (t+1) (Xn m t) (ofNat (t+1))
theorem AoW (a b c d:Int) (m:N4) {n:Int} {N:Nat} (hn:n=ofNat N) (hN:N <= 16):(Ax (Ao4 4) Zb 1000 (Aon a b c d n m 0)).sem=some (ApU a b c d m.s (pwS m N) (N+1) (Xn m N)):=by
 refine Cj (S:=Aon a b c d n m) (m:=N) (λh=>by cases h) (λt ht=>?_) ?_ (by omega)
 ·have hi:ile (ofNat (t+1)) n=true:=decide_eq_true (by rw [hn]; show ((t+1:Nat):Int) <= (N:Int); omega)
  have ha:Ci (t+1) 1 8=true:=decide_eq_true (by show (t+1+1) * 8 <= (140737488355328:Nat); omega);cases t with
  | zero =>
   have hp:m.s=pwS m 1:=by show m.s=(m.pow 1).s; rw [N4.pow_one]
   have hx:BZ m.s.a m.s.d=CL (trI m 1):=by rw [N4.s_tr]; unfold trI; rw [N4.pow_one]
   exact DW.rd (.k hi <| .k (show ilt 1 1=false from rfl) <| .k (I7 m.a) <| .k (I7 m.d) <| .k ha <| .e (nm3 (f:=λp x i=>Ale a b c d n m.s p 2 (AA 1 (Xn m 0) (uV x)) i) hp hx (Cu (by omega)))) (by kernel_rfl)
  | succ t =>
   have h2:ilt 1 (ofNat (t+1+1))=true:=decide_eq_true (by show (1:Int)<((t+1+1:Nat):Int); omega);have hp:(m.pow (t+1)).s.mul m.s=pwS m (t+1+1):=N4.s_mul _ _;have hx:BZ ((m.pow (t+1)).s.mul m.s).a ((m.pow (t+1)).s.mul m.s).d=CL (trI m (t+1+1)):=by rw [N4.s_mul,N4.s_tr]; rfl
   have ho:=M4.ok_iff.1 (M4.ok_mul (N4.s_ok (m.pow (t+1))) (N4.s_ok m));exact DW.rd (.k hi <| .k h2 <| .k (N4.s_ok (m.pow (t+1))) <| .k (N4.s_ok m) <| .k ho.1 <| .k ho.2.2.2 <| .k ha <| .e (nm3 (f:=λp x i=>Ale a b c d n m.s p (t+3) (AA (t+2) (Xn m (t+1)) (uV x)) i) hp hx (Cu (by omega)))) (by kernel_rfl)
 ·have hi:ile (ofNat (N+1)) n=false:=decide_eq_false (by rw [hn]; show ¬ ((N+1:Nat):Int) <= (N:Int); omega)
  exact DW.rd (.k hi <| .l) (by kernel_rfl)
def Qu (x:Int):Bool:=Av (ile 0 x) (ile x 128)
theorem Mb {x:Int} (h:Qu x=true):∃ k:Nat,x=ofNat k∧toN x=k∧k <= 128:=by
 obtain ⟨h1,h2⟩:=Bf h;have h1:(0:Int) <= x:=of_decide_eq_true h1;have h2:x <= (128:Int):=of_decide_eq_true h2;obtain ⟨k,rfl⟩:=Int.eq_ofNat_of_zero_le h1;exact ⟨k,rfl,rfl,by omega⟩
theorem TB {k:Nat} (h:k <= 128):wr .u64 (ofNat k)=CL (ofNat k):=by
 rw [JS (by show (k:Int)<_; omega),Afn];show (k:Int) % _=(k:Int);omega
def WH:List V->A2
 | [.agg [.val (.int .i64 a),.val (.int .i64 b),.val (.int .i64 c),.val (.int .i64 d)],.val (.int .i64 n)]=>.br (Qu a) (.br (Qu b) (.br (Qu c) (.br (Qu d) (.br (ile 1 n) (.br (ile n 16) (.leaf (.ref 0,[.row 108 1 (Bh (toN n) 1) λi=>uV (wN ⟨toN a,toN b,toN c,toN d⟩ i)])) .fail) .fail) .fail) .fail) .fail) .fail
 | _=>.fail
theorem Apr:As Tryz.prog Gl 111 WH:=by
 refine Ah Az mixed Tryz.func111 (by kernel_rfl) (by kernel_rfl) λvs v h' h=>?_;unfold WH at h;split at h
 rotate_left
 ·cases h
 rename_i a b c d n;obtain ⟨g1,h⟩:=Ab h;obtain ⟨g2,h⟩:=Ab h;obtain ⟨g3,h⟩:=Ab h;obtain ⟨g4,h⟩:=Ab h;obtain ⟨g5,h⟩:=Ab h;obtain ⟨g6,h⟩:=Ab h;cases Aa h;obtain ⟨a,rfl,e1,q1⟩:=Mb g1;obtain ⟨b,rfl,e2,q2⟩:=Mb g2;obtain ⟨c,rfl,e3,q3⟩:=Mb g3;obtain ⟨d,rfl,e4,q4⟩:=Mb g4;have g5:(1:Int) <= n:=of_decide_eq_true g5;have g6:n <= (16:Int):=of_decide_eq_true g6;obtain ⟨k,rfl⟩:=Int.eq_ofNat_of_zero_le (show (0:Int) <= n by omega);have hx:=Yf Afx AhB Aic (G:=Gl);have h0:=Ap8 (ofNat a) (ofNat b) (ofNat c) (ofNat d) (ofNat k) (m:=(⟨a,b,c,d⟩:N4).s) (TB q1) (TB q2) (TB q3) (TB q4);have h4:=AoW (ofNat a) (ofNat b) (ofNat c) (ofNat d) ⟨a,b,c,d⟩ (n:=ofNat k) rfl (by omega);exact ⟨_,Ai1,_,B0.refl _,rfl,hx.1,hx.2,DW.ok (.a h0 <| .a h4 <| .l) (by kernel_rfl),Au.one λi hi=>(Vf ⟨a,b,c,d⟩ k i hi).symm⟩
end Go.Proofs.YtkbgidbledjejaaGreat.En
namespace Go.Proofs.YtkbgidbledjejaaGreat.En
open Go.Sy Go Go.Proofs.YtkbgidbledjejaaGreat.Ed
open Int (ofNat)
set_option maxRecDepth 100000
theorem OR:∀ (l:List E6) (q:Nat),Db l q <= l.length
 | [],_=>Nat.le_refl _
 | e::l,q=>by
  have:=OR l q;unfold Db;split <;> simp <;> omega
theorem Aa9:(List.range 112).map (λk=>(decide ((BC k).src=1) || decide ((BC k).src=2)) && (decide ((BC k).dst=1) || decide ((BC k).dst=2)))=(List.range 112).map λ_=>true:=by kernel_rfl
theorem Ahb {e:E6} (h:AB e=0):(e.src=1 ∨ e.src=2)∧(e.dst=1 ∨ e.dst=2):=by
 rcases BK e with ⟨k,hk,_,_,rfl,_⟩ | ⟨h1,_⟩
 ·have:=GH Aa9 k hk
  simpa using this
 ·rw [h1] at h; cases h
theorem AnC {e:E6} (h:AB e=0):(e.src=1∧e.dst=1∧cls e=0) ∨ (e.src=1∧e.dst=2∧cls e=1) ∨ (e.src=2∧e.dst=1∧cls e=2) ∨ (e.src=2∧e.dst=2∧cls e=3):=by
 obtain ⟨hs | hs,hd | hd⟩:=Ahb h
 ·exact .inl ⟨hs,hd,by simp [cls,hs,hd]⟩
 ·exact .inr (.inl ⟨hs,hd,by simp [cls,hs,hd]⟩)
 ·exact .inr (.inr (.inl ⟨hs,hd,by simp [cls,hs,hd]⟩))
 ·exact .inr (.inr (.inr ⟨hs,hd,by simp [cls,hs,hd]⟩))
theorem Q0:∀ (l:List E6) (x:E6),(∃ j,j<l.length∧getE l j=x)↔x ∈ l
 | [],x=>by simp
 | y::l,x=>by
  have ih:=Q0 l x;constructor
  ·rintro ⟨j,hj,he⟩
   have he:(bif Nat.beq j l.length then y else getE l j)=x:=he;cases hb:Nat.beq j l.length with
   | true =>rw [hb] at he;exact List.mem_cons.2 (.inl he.symm)
   | false =>rw [hb] at he;have:=Nat.ne_of_beq_eq_false hb;simp at hj;exact List.mem_cons.2 (.inr (ih.1 ⟨j,by omega,he⟩))
  ·intro h
   rcases List.mem_cons.1 h with rfl | h
   ·refine ⟨l.length,by simp,?_⟩
    show (bif Nat.beq l.length l.length then x else getE l l.length)=x;rw [Nat.beq_refl]; rfl
   ·obtain ⟨j,hj,he⟩:=ih.2 h
    refine ⟨j,by simp; omega,?_⟩;show (bif Nat.beq j l.length then y else getE l j)=x;have:Nat.beq j l.length=false:=by
     cases hb:Nat.beq j l.length with
     | false=>rfl
     | true=>have:=Nat.eq_of_beq_eq_true hb; omega
    rw [this]; exact he
theorem Rc (g:Nat->E6) (e:E6):∀ d i,Kw g e d i=true↔∃ j,i <= j∧j<i+d∧g j=e
 | 0,i=>by
  constructor
  ·intro h; cases h
  ·rintro ⟨j,h1,h2,_⟩; omega
 | d+1,i=>by
  have ih:=Rc g e d (i+1);simp only [Kw,bor,Bool.or_eq_true,Dd,ih];constructor
  ·rintro (h | ⟨j,h1,h2,h3⟩)
   ·exact ⟨i,Nat.le_refl _,by omega,h⟩
   ·exact ⟨j,by omega,by omega,h3⟩
  ·rintro ⟨j,h1,h2,h3⟩
   by_cases hj:j=i
   ·subst hj; exact .inl h3
   ·exact .inr ⟨j,by omega,by omega,h3⟩
theorem AeV (l:List E6) (x:E6):Kw (getE l) x l.length 0=true↔x ∈ l:=by
 rw [Rc,<- Q0];simp
theorem G9 (f:Nat->E6):∀ i,(AG f i).length <= i
 | 0=>Nat.le_refl _
 | i+1=>by
  have:=G9 f i;unfold AG;split
  ·omega
  ·simp; omega
theorem KJ {f:Nat->E6} {i:Nat} (h:Kw (getE (AG f i)) (f i) (AG f i).length 0=true):AG f (i+1)=AG f i:=by rw [AG,h]
theorem Jv {f:Nat->E6} {i:Nat} (h:Kw (getE (AG f i)) (f i) (AG f i).length 0=false):AG f (i+1)=f i::AG f i:=by rw [AG,h]
theorem Ka (f:Nat->E6):∀ (i:Nat) (e:E6),e ∈ AG f i->∃ t,t<i∧e=f t
 | 0,e,h=>by cases h
 | i+1,e,h=>by
  cases hb:Kw (getE (AG f i)) (f i) (AG f i).length 0 with
  | true =>rw [KJ hb] at h;obtain ⟨t,h1,h2⟩:=Ka f i e h;exact ⟨t,by omega,h2⟩
  | false =>
   rw [Jv hb] at h;rcases List.mem_cons.1 h with rfl | h
   ·exact ⟨i,by omega,rfl⟩
   ·obtain ⟨t,h1,h2⟩:=Ka f i e h
    exact ⟨t,by omega,h2⟩
def IZ:List E6->Nat->Bool
 | []=>λ_=>false
 | e::l=>λj=>bif Nat.beq j (toN (Al e)) then true else IZ l j
theorem Sc:∀ (l:List E6) (k:Nat),IZ l k=true↔∃ e,e ∈ l∧toN (Al e)=k
 | [],k=>by simp [IZ]
 | x::l,k=>by
  have ih:=Sc l k;show (bif Nat.beq k (toN (Al x)) then true else IZ l k)=true↔_;cases hb:Nat.beq k (toN (Al x)) with
  | true =>have:=Nat.eq_of_beq_eq_true hb;simp;exact .inl this.symm
  | false =>
   have hne:=Nat.ne_of_beq_eq_false hb;simp only [cond_false,ih,List.mem_cons];constructor
   ·rintro ⟨e,he,hk⟩; exact ⟨e,.inr he,hk⟩
   ·rintro ⟨e,rfl | he,hk⟩
    ·exact absurd hk.symm hne
    ·exact ⟨e,he,hk⟩
theorem Aaj (l:List E6) (x:E6):BF (λj=>bV (IZ l j)) (toN (Al x)) (bV true)=λj=>bV (IZ (x::l) j):=by
 funext j;rw [D7];show (bif Nat.beq j (toN (Al x)) then bV true else bV (IZ l j))=bV (bif Nat.beq j (toN (Al x)) then true else IZ l j);cases Nat.beq j (toN (Al x)) <;> rfl
theorem U4 {e:E6} (h:AB e=0):∃ k:Nat,Al e=ofNat k∧k<112:=by
 rcases BK e with ⟨k,hk,_,h2,_⟩ | ⟨h1,_⟩
 ·exact ⟨k,h2,hk⟩
 ·rw [h1] at h; cases h
theorem Aak {f:Nat->E6} {i:Nat} (ho:∀ t,t <= i->AB (f t)=0):IZ (AG f i) (toN (Al (f i)))=Kw (getE (AG f i)) (f i) (AG f i).length 0:=by
 rw [Bool.eq_iff_iff,AeV,Sc];constructor
 ·rintro ⟨e,he,hk⟩
  obtain ⟨t,ht,rfl⟩:=Ka f i e he;obtain ⟨a,ha,_⟩:=U4 (ho t (by omega));obtain ⟨b,hb,_⟩:=U4 (ho i (Nat.le_refl _));have:f t=f i:=Abg (ho t (by omega)) (ho i (Nat.le_refl _)) (by
   rw [ha,hb] at hk ⊢;have hk:a=b:=hk;rw [hk])
  rw [<- this]; exact he
 ·intro h
  exact ⟨f i,h,rfl⟩
noncomputable def AhE:AH:=[(71,Co KA)]
theorem AbZ:Ao Tryz.prog Gl AhE:=.cons p24 .nil
def Aij:Lp:=⟨bmK 48 0 [2,3,4,5,14,15,16],3,bmK 48 0 [2,3,4],2,1000⟩
def Aid:List (Nat×Lp×List (Nat×(Nat->V))):=[(0,Aij,[])]
noncomputable abbrev Ai2:Cx:=cxA Gl AhE Aid
noncomputable def ApY:St->T (Ex×St):=λst=>A8 tab Ai2 (A0 Tryz.f110 0) 0 st
def c4V (l:List E6):List V:=[iV (ofNat (Db l 0)),iV (ofNat (Db l 1)),iV (ofNat (Db l 2)),iV (ofNat (Db l 3))]
def Alc (n:Nat) (v:Nat->E6) (c0 c1 c2 c3:Int) (s:Nat->V) (i:Int):St:=⟨jsV 48 0 Ac [(2,.ptr 0 0),(3,iV 0),(4,.ptr 1 0),(5,.ept 2 1 0 0),(14,Am n v),(15,nV n),(16,iV i)],[.cells [iV 0,iV 0,iV 0,iV 0],.cells [iV c0,iV c1,iV c2,iV c3],.row 121 1 112 s]⟩
def Abs (n:Nat) (v:Nat->E6) (i:Nat):St:=Alc n v (ofNat (Db (AG v i) 0)) (ofNat (Db (AG v i) 1)) (ofNat (Db (AG v i) 2)) (ofNat (Db (AG v i) 3)) (λj=>bV (IZ (AG v i) j)) (ofNat i)
def ApV (l:List E6):Ex×St:=(.ex 0,⟨jsV 48 0 Ac [(2,.ptr 0 0),(3,iV 0),(4,.ptr 1 0)],[.cells [iV 0,iV 0,iV 0,iV 0],.cells (c4V l)]⟩)
theorem Ahe {e:E6} {l:List E6} {q:Nat} (h:cls e=q):Db (e::l) q=Db l q+1:=by rw [Db,if_pos h]
theorem AkN {e:E6} {l:List E6} {q:Nat} (h:cls e ≠ q):Db (e::l) q=Db l q:=by rw [Db,if_neg h]
theorem AoX {n:Nat} {v:Nat->E6} (hn:n <= 128) (hm:By n v=true):(Ax ApY Aij 1000 (Abs n v 0)).sem=some (ApV (AG v n)):=by
 have ho:=Bw.1 hm;refine Cj (S:=Abs n v) (m:=n) (λh=>by cases h) (λi hi=>?_) ?_ (by omega)
 ·have hc:=ho i hi
  obtain ⟨k,hk,hk'⟩:=U4 hc;have c0:ieq (AB (v i)) 0=true:=decide_eq_true hc;have c1:Av (ile 0 (Al (v i))) (ilt (Al (v i)) 112)=true:=by rw [hk]; exact Af hk'
  have c2:nlt (toN (Al (v i))) 112=true:=by rw [hk]; exact decide_eq_true hk'
  have hs:=Aak (i:=i) λt ht=>ho t (by omega);have hl:=G9 v i;have hw:=λq=>Cu (i:=Db (AG v i) q) (by have:=OR (AG v i) q; omega);have hiw:=Cu (i:=i) (by omega);cases hb:Kw (getE (AG v i)) (v i) (AG v i).length 0 with
  | true =>
   rw [hb] at hs;have e:(Ex.nm,Alc n v (ofNat (Db (AG v i) 0)) (ofNat (Db (AG v i) 1)) (ofNat (Db (AG v i) 2)) (ofNat (Db (AG v i) 3)) (λj=>bV (IZ (AG v i) j)) (wr .i64 (Aj (ofNat i) 1)))=(Ex.nm,Abs n v (i+1)):=by
    unfold Abs;rw [KJ hb,hiw]
   exact DW.rd (.k (ofNat_lt hi) <| .k (Af hi) <| .k (eN c0) <| .k c1 <| .k c2 <| .k (eN hs) <| .e e) (by kernel_rfl)
  | false =>
   rw [hb] at hs;have e:∀ {c0 c1 c2 c3:Int},c0=ofNat (Db (v i::AG v i) 0)->c1=ofNat (Db (v i::AG v i) 1)->c2=ofNat (Db (v i::AG v i) 2)->c3=ofNat (Db (v i::AG v i) 3)->(Ex.nm,Alc n v c0 c1 c2 c3 (BF (λj=>bV (IZ (AG v i) j)) (toN (Al (v i))) (bV true)) (wr .i64 (Aj (ofNat i) 1)))=(Ex.nm,Abs n v (i+1)):=by
    intro c0 c1 c2 c3 h0 h1 h2 h3;unfold Abs;rw [Jv hb,hiw,h0,h1,h2,h3,Aaj]
   have no:∀ {q},cls (v i) ≠ q->ofNat (Db (AG v i) q)=ofNat (Db (v i::AG v i) q):=λh=>by rw [AkN h]
   have yes:∀ {q},cls (v i)=q->wr .i64 (Aj (ofNat (Db (AG v i) q)) 1)=ofNat (Db (v i::AG v i) q):=λh=>by rw [Ahe h,hw]
   rcases AnC hc with ⟨h1,h2,h3⟩ | ⟨h1,h2,h3⟩ | ⟨h1,h2,h3⟩ | ⟨h1,h2,h3⟩
   ·have a:ieq (wr .i64 (Ay (v i).src 1)) 0=true:=by rw [h1]; rfl
    have b:ieq (wr .i64 (Ay (v i).dst 1)) 0=true:=by rw [h2]; rfl
    exact DW.rd (.k (ofNat_lt hi) <| .k (Af hi) <| .k (eN c0) <| .k c1 <| .k c2 <| .k (eN hs) <| .k c1 <| .k c2 <| .k a <| .k b <| .k a <| .k b <| .e (e (yes h3) (no (by omega)) (no (by omega)) (no (by omega)))) (by kernel_rfl)
   ·have a:ieq (wr .i64 (Ay (v i).src 1)) 0=true:=by rw [h1]; rfl
    have b:ieq (wr .i64 (Ay (v i).dst 1)) 0=false:=by rw [h2]; rfl
    have c:ieq (wr .i64 (Ay (v i).dst 1)) 1=true:=by rw [h2]; rfl
    exact DW.rd (.k (ofNat_lt hi) <| .k (Af hi) <| .k (eN c0) <| .k c1 <| .k c2 <| .k (eN hs) <| .k c1 <| .k c2 <| .k a <| .k b <| .k c <| .k a <| .k b <| .k c <| .e (e (no (by omega)) (yes h3) (no (by omega)) (no (by omega)))) (by kernel_rfl)
   ·have a:ieq (wr .i64 (Ay (v i).src 1)) 0=false:=by rw [h1]; rfl
    have b:ieq (wr .i64 (Ay (v i).src 1)) 1=true:=by rw [h1]; rfl
    have c:ieq (wr .i64 (Ay (v i).dst 1)) 0=true:=by rw [h2]; rfl
    exact DW.rd (.k (ofNat_lt hi) <| .k (Af hi) <| .k (eN c0) <| .k c1 <| .k c2 <| .k (eN hs) <| .k c1 <| .k c2 <| .k a <| .k b <| .k c <| .k a <| .k b <| .k c <| .e (e (no (by omega)) (no (by omega)) (yes h3) (no (by omega)))) (by kernel_rfl)
   ·have a:ieq (wr .i64 (Ay (v i).src 1)) 0=false:=by rw [h1]; rfl
    have b:ieq (wr .i64 (Ay (v i).src 1)) 1=true:=by rw [h1]; rfl
    have c:ieq (wr .i64 (Ay (v i).dst 1)) 0=false:=by rw [h2]; rfl
    have d:ieq (wr .i64 (Ay (v i).dst 1)) 1=true:=by rw [h2]; rfl
    exact DW.rd (.k (ofNat_lt hi) <| .k (Af hi) <| .k (eN c0) <| .k c1 <| .k c2 <| .k (eN hs) <| .k c1 <| .k c2 <| .k a <| .k b <| .k c <| .k d <| .k a <| .k b <| .k c <| .k d <| .e (e (no (by omega)) (no (by omega)) (no (by omega)) (yes h3))) (by kernel_rfl)
 ·exact DW.rd (.k (A4 (Nat.le_refl n)) <| .l) (by kernel_rfl)
def Aa5:List V->A2
 | [u]=>apL u λk w=>.br (Av (By k w) (decide (k <= 128))) (.leaf (.tup [.agg (c4V (AG w k)),iV 0],[])) .fail
 | _=>.fail
theorem S7 {vs:List V} {r:V×List Blk} (h:(Aa5 vs).sem=some r):∃ k w,B0 vs [Am k w]∧By k w=true∧k <= 128∧r=(.tup [.agg (c4V (AG w k)),iV 0],[]):=by
 unfold Aa5 at h;split at h
 ·obtain ⟨k,w,ha,h⟩:=AQ h
  obtain ⟨hg,h⟩:=Ab h;obtain ⟨h1,h2⟩:=Bf hg;exact ⟨k,w,Abk ha,h1,of_decide_eq_true h2,Aa h⟩
 ·cases h
theorem Aps:As Tryz.prog Gl 110 Aa5:=by
 refine Ah Az mixed Tryz.func110 (by kernel_rfl) (by kernel_rfl) λvs v h' h=>?_;obtain ⟨k,w,ha,hm,hk,h⟩:=S7 h;cases h;have hx:=Ba AbZ Aid (G:=Gl);have h1:ilt 128 (ofNat k)=false:=decide_eq_false (by show ¬ (128:Int)<(k:Int); omega);exact ⟨[Am k w],Ai2,_,ha,rfl,hx.1,hx.2,DW.ok (.k h1 <| .a (AoX hk hm) <| .l) (by kernel_rfl),Au.refl _⟩
end Go.Proofs.YtkbgidbledjejaaGreat.En
namespace Go.Proofs.YtkbgidbledjejaaGreat.En
open Go.Sy Go Go.Proofs.YtkbgidbledjejaaGreat.Ed
open Int (ofNat)
set_option maxRecDepth 100000
theorem Pf {k:Nat} {w:Nat->E6} {j:Int} (h:Lm k w j=true):By k w=true∧k <= 128∧∃ N:Nat,j=ofNat N∧1 <= N∧N <= 16:=by
 obtain ⟨h1,h⟩:=Bf h;obtain ⟨h2,h⟩:=Bf h;obtain ⟨h3,h4⟩:=Bf h;have h2:(1:Int) <= j:=of_decide_eq_true h2;have h3:j <= (16:Int):=of_decide_eq_true h3;exact ⟨h1,of_decide_eq_true h4,j.toNat,(Int.toNat_of_nonneg (by omega)).symm,by omega,by omega⟩
def AkU (l0:Int):List V->A2
 | [u,.val (.int .i64 j),.val (.int .i64 l)]=>apL u λk w=>.br (Av (ieq l l0) (Lm k w j)) (.br (ile l j) (.leaf (.tup [.ref 0,iV 0],[.row 108 1 (Bh (toN j) 1) λi=>uV (wN (Nl k w) i)])) (.leaf (.tup [.ref 0,iV 40],[.row 108 1 0 λ_=>.und]))) .fail
 | _=>.fail
noncomputable def AiX:AH:=[(110,Aa5),(111,WH)]
theorem Af2:Ao Tryz.prog Gl AiX:=.cons Aps <| .cons Apr .nil
theorem Ahl {k:Nat} (w:Nat->E6) (hk:k <= 128) (q:Nat):Qu (ofNat (Db (AG w k) q))=true:=by
 have:=OR (AG w k) q;have:=G9 w k;unfold Qu Av;rw [show ile 0 (ofNat (Db (AG w k) q))=true from decide_eq_true (Int.natCast_nonneg _),show ile (ofNat (Db (AG w k) q)) 128=true from decide_eq_true (by show ((Db (AG w k) q:Nat):Int) <= (128:Int); omega)];rfl
theorem p96 (l0:Int):As Tryz.prog Gl 96 (AkU l0):=by
 refine Ah Az mixed Tryz.func96 (by kernel_rfl) (by kernel_rfl) λvs v h' h=>?_;unfold AkU at h;split at h
 rotate_left
 ·cases h
 rename_i u j l;obtain ⟨k,w,ha,h⟩:=AQ h;obtain ⟨hg,h⟩:=Ab h;obtain ⟨hl,hg⟩:=Bf hg;obtain ⟨hm,hk,N,hj,h1,h16⟩:=Pf hg;have hx:=Ba Af2 [] (G:=Gl);have hA:B0 [u,iV j,iV l] [Am k w,iV j,iV l]:=λS W cs hq=>by
  obtain ⟨c,m,rfl,q1,c2,m2,rfl,q2,c3,m3,rfl,q3,q4⟩:=hq;exact ⟨c,_,rfl,ha S W c q1,c2,_,rfl,q2,c3,_,rfl,q3,q4⟩
 have hK:Av (By k w) (decide (k <= 128))=true:=by rw [hm,decide_eq_true hk]; rfl
 have g1:ile 1 j=true:=decide_eq_true (by rw [hj]; show (1:Int) <= (N:Int); omega);have g2:ile j 16=true:=decide_eq_true (by rw [hj]; show (N:Int) <= 16; omega);have g3:ilt 16 j=false:=decide_eq_false (by rw [hj]; show ¬ (16:Int)<(N:Int); omega);have h:(T.br (ile l j) (.leaf (.tup [.ref 0,iV 0],[.row 108 1 (Bh (toN j) 1) λi=>uV (wN (Nl k w) i)])) (.leaf (.tup [.ref 0,iV 40],[.row 108 1 0 λ_=>.und]))).sem=some (v,h'):=h;cases hc:ile l j with
 | true =>rw [hc] at h;cases h;have g4:ilt j l=false:=decide_eq_false (by have:l <= j:=of_decide_eq_true hc; omega);exact ⟨_,cxA Gl AiX [],_,hA,rfl,hx.1,hx.2,DW.ok (.k (eL k) <| .k hK <| .k (eN (eI 0)) <| .r 3 g4 <| .k g3 <| .k (Ahl w hk 0) <| .k (Ahl w hk 1) <| .k (Ahl w hk 2) <| .k (Ahl w hk 3) <| .k g1 <| .k g2 <| .l) (by kernel_rfl),Au.refl _⟩
 | false =>rw [hc] at h;cases h;have g4:ilt j l=true:=decide_eq_true (by have:¬ l <= j:=of_decide_eq_false hc; omega);exact ⟨_,cxA Gl AiX [],_,hA,rfl,hx.1,hx.2,DW.ok (.k (eL k) <| .k hK <| .k (eN (eI 0)) <| .r 3 g4 <| .k eT <| .l) (by kernel_rfl),Au.refl _⟩
noncomputable def Ajc:AH:=[(96,AkU 1),(97,Acn)]
theorem Af9:Ao Tryz.prog Gl Ajc:=.cons (p96 1) <| .cons AoZ .nil
theorem Pe {vs:List V} {r:V×List Blk} (h:(RQ vs).sem=some r):∃ k w j,B0 vs [Am k w,iV j]∧Lm k w j=true∧(T.br (ilt (C5 k w (toN j)) 9223372036854775808) (.leaf (.tup [iV (C5 k w (toN j)),iV 0],([]:List Blk))) (.leaf (.tup [iV 0,iV 3],[]))).sem=some r:=by
 unfold RQ at h;split at h
 ·rename_i u j
  obtain ⟨k,w,ha,h⟩:=AQ h;obtain ⟨hg,h⟩:=Ab h;refine ⟨k,w,j,λS W cs hq=>?_,hg,h⟩;obtain ⟨c,l,rfl,q1,q2⟩:=hq;exact ⟨c,_,rfl,ha S W c q1,q2⟩
 ·cases h
theorem p67:As Tryz.prog Gl 67 RQ:=by
 refine Ah Az mixed Tryz.func67 (by kernel_rfl) (by kernel_rfl) λvs v h' h=>?_;obtain ⟨k,w,j,hA,hg,h⟩:=Pe h;obtain ⟨hm,hk,N,rfl,h1,h16⟩:=Pf hg;have hx:=Ba Af9 [] (G:=Gl);have hG:Av (ieq 1 1) (Lm k w (ofNat N))=true:=by rw [hg]; rfl
 have g1:ile 1 (ofNat N)=true:=decide_eq_true (by show (1:Int) <= (N:Int); omega);obtain ⟨M,rfl⟩:∃ M,N=M+1:=⟨N-1,by omega⟩;have e:wN (Nl k w) (M+1)=CL (C5 k w (M+1)):=rfl;have ho:okU (CL (C5 k w (M+1)))=true:=I7 _;have h:(T.br (ilt (C5 k w (M+1)) 9223372036854775808) (.leaf (.tup [iV (C5 k w (M+1)),iV 0],([]:List Blk))) (.leaf (.tup [iV 0,iV 3],[]))).sem=some (v,h'):=h;have b1:Av (ile 0 (ofNat (M+1))) (ilt (ofNat (M+1)) (ofNat (M+1+1)))=true:=Af (Nat.lt_succ_self _);have b2:nlt (M+1) (M+1+1)=true:=decide_eq_true (Nat.lt_succ_self _);cases hc:ilt (C5 k w (M+1)) 9223372036854775808 with
 | true =>rw [hc] at h;cases h;have hc:C5 k w (M+1)<9223372036854775808:=of_decide_eq_true hc;have es:=JS hc;have g4:ile 9223372036854775808 (CL (C5 k w (M+1)))=false:=decide_eq_false (by rw [es]; omega);exact ⟨_,cxA Gl Ajc [],_,hA,rfl,hx.1,hx.2,DW.ok (.k (eL k) <| .k hG <| .k g1 <| .k (eN (eI 0)) <| .k b1 <| .k b2 <| .k ho <| .k g4 <| .e (congrArg (λz=>(V.tup [iV z,iV 0],([]:List Blk))) es)) (by kernel_rfl),Au.refl _⟩
 | false =>rw [hc] at h;cases h;have hc:¬ C5 k w (M+1)<9223372036854775808:=of_decide_eq_false hc;have g4:ile 9223372036854775808 (CL (C5 k w (M+1)))=true:=decide_eq_true (by unfold CL; rw [if_pos (by omega)]; omega);exact ⟨_,cxA Gl Ajc [],_,hA,rfl,hx.1,hx.2,DW.ok (.k (eL k) <| .k hG <| .k g1 <| .k (eN (eI 0)) <| .k b1 <| .k b2 <| .k ho <| .k g4 <| .l) (by kernel_rfl),Au.refl _⟩
end Go.Proofs.YtkbgidbledjejaaGreat.En
namespace Go.Proofs.YtkbgidbledjejaaGreat.En
open Go.Sy Go Go.Proofs.YtkbgidbledjejaaGreat.Ed
set_option maxRecDepth 100000
def B8 (x:Int):Int:=if x <= 9223372036854775807 then x else 9223372036854775807
def okT (x:Int):Bool:=decide (x <= 9223372036854775807)
def okG (x:Int):Bool:=decide (0 <= x) && decide (x <= 9223372036854775807)
theorem EK {x:Int}:okG x=true↔0 <= x∧x <= 9223372036854775807:=by simp [okG]
theorem I8 {x:Int} (h:0 <= x):okG (B8 x)=true:=by
 rw [EK];unfold B8;split <;> omega
theorem WM {x:Int} (h:0 <= x):0 <= B8 x:=(EK.1 (I8 h)).1
theorem FG {x y:Int} (hx:okG x=true) (hy:okG y=true):0 <= Bs x y:=Int.mul_nonneg (EK.1 hx).1 (EK.1 hy).1
theorem AeY {x y:Int} (hx:0 <= x) (hy:0 <= y):0 <= Aj x y:=Int.add_nonneg hx hy
def ggT (F:Int->Int->Int):List V->A2
 | [.val (.int .i64 x),.val (.int .i64 y)]=>.br (okG x) (.br (okG y) (.leaf (.tup [iV (B8 (F x y)),bV (okT (F x y))],[])) .fail) .fail
 | _=>.fail
theorem VX {F:Int->Int->Int} {vs:List V} {r:V×List Blk} (h:(ggT F vs).sem=some r):∃ x y,vs=[iV x,iV y]∧okG x=true∧okG y=true∧r=(.tup [iV (B8 (F x y)),bV (okT (F x y))],[]):=by
 unfold ggT at h;split at h
 ·obtain ⟨h1,h⟩:=Ab h
  obtain ⟨h2,h⟩:=Ab h;exact ⟨_,_,rfl,h1,h2,Aa h⟩
 ·cases h
theorem p58:As Tryz.prog Gl 58 (ggT Aj):=by
 refine Ah Az mixed Tryz.func58 (by kernel_rfl) (by kernel_rfl) λvs v h' h=>?_;obtain ⟨x,y,rfl,h1,h2,h⟩:=VX h;cases h;have h1:=EK.1 h1;have h2:=EK.1 h2;have hx:=Ba (Ao.nil:Ao Tryz.prog Gl []) [] (G:=Gl);refine ⟨_,cxA Gl [] [],_,B0.refl _,rfl,hx.1,hx.2,?_,Au.refl _⟩;have e1:wr .i64 (Ay 9223372036854775807 y)=9223372036854775807-y:=Afo (by show 0 <= 9223372036854775807-y; omega) (by show 9223372036854775807-y<_; omega);unfold B8 okT;by_cases hc:Aj x y <= 9223372036854775807
 ·have hc':x+y <= 9223372036854775807:=hc
  have g:ilt (wr .i64 (Ay 9223372036854775807 y)) x=false:=decide_eq_false (by rw [e1]; omega);rw [if_pos hc,decide_eq_true hc];exact DW.ok (.k g <| .e (congrArg (λz=>(V.tup [iV z,bV true],([]:List Blk))) (Afo (by show 0 <= x+y; omega) (by show x+y<_; omega)))) (by kernel_rfl)
 ·have hc':¬ x+y <= 9223372036854775807:=hc
  have g:ilt (wr .i64 (Ay 9223372036854775807 y)) x=true:=decide_eq_true (by rw [e1]; omega);rw [if_neg hc,decide_eq_false hc];exact DW.ok (.k g <| .l) (by kernel_rfl)
theorem p113:As Tryz.prog Gl 113 (ggT Bs):=by
 refine Ah Az mixed Tryz.func113 (by kernel_rfl) (by kernel_rfl) λvs v h' h=>?_;obtain ⟨x,y,rfl,h1,h2,h⟩:=VX h;cases h;have h1:=EK.1 h1;have h2:=EK.1 h2;have hx:=Ba (Ao.nil:Ao Tryz.prog Gl []) [] (G:=Gl);refine ⟨_,cxA Gl [] [],_,B0.refl _,rfl,hx.1,hx.2,?_,Au.refl _⟩;have hp:0 <= x * y:=Int.mul_nonneg h1.1 h2.1;unfold B8 okT;by_cases hx0:0<x
 ·have hq:=Int.mul_ediv_add_emod 9223372036854775807 x
  have hr0:=Int.emod_nonneg 9223372036854775807 (show x ≠ 0 by omega);have hr1:=Int.emod_lt_of_pos 9223372036854775807 hx0;have hq0:0 <= 9223372036854775807 / x:=Int.ediv_nonneg (by omega) h1.1;have hq1:9223372036854775807 / x <= 9223372036854775807:=Int.ediv_le_self x (by omega);have e1:wr .i64 (Qs 9223372036854775807 x)=9223372036854775807 / x:=by
   unfold Qs;rw [Int.tdiv_eq_ediv_of_nonneg (by omega)];exact Afo hq0 (by omega)
  have g0:ilt 0 x=true:=decide_eq_true hx0;have gz:ieq x 0=false:=decide_eq_false (by omega);by_cases hc:9223372036854775807 / x<y
  ·have:x * (9223372036854775807 / x+1) <= x * y:=Int.mul_le_mul_of_nonneg_left (by omega) h1.1
   rw [Int.mul_add,Int.mul_one] at this;have g1:ilt (wr .i64 (Qs 9223372036854775807 x)) y=true:=decide_eq_true (by rw [e1]; exact hc);have hn:¬ Bs x y <= 9223372036854775807:=by show ¬ x * y <= _; omega
   rw [if_neg hn,decide_eq_false hn];exact DW.ok (.r 3 g0 <| .k gz <| .r 2 g0 <| .k g1 <| .l) (by kernel_rfl)
  ·have:x * y <= x * (9223372036854775807 / x):=Int.mul_le_mul_of_nonneg_left (by omega) h1.1
   have g1:ilt (wr .i64 (Qs 9223372036854775807 x)) y=false:=decide_eq_false (by rw [e1]; exact hc);have hn:Bs x y <= 9223372036854775807:=by show x * y <= _; omega
   rw [if_pos hn,decide_eq_true hn];exact DW.ok (.r 3 g0 <| .k gz <| .r 2 g0 <| .k g1 <| .e (congrArg (λz=>(V.tup [iV z,bV true],([]:List Blk))) (Afo hp (by show x * y<_; omega)))) (by kernel_rfl)
 ·obtain rfl:x=0:=by omega
  have hz:Bs 0 y=0:=Int.zero_mul y;rw [hz];exact DW.ok (.r 5 (show ilt 0 0=false from rfl) <| .k eF <| .e (congrArg (λz=>(V.tup [iV (wr .i64 z),bV true],([]:List Blk))) hz)) (by kernel_rfl)
def Sm (a b c d:Int):Nat->Bool×Bool->Bool×Bool
 | 0,p=>p
 | k+1,p=>Sm a b c d k (bor (Av p.1 (ilt 0 a)) (Av p.2 (ilt 0 c)),bor (Av p.1 (ilt 0 b)) (Av p.2 (ilt 0 d)))
def Ad3:Lp:=⟨bmK 53 0 [2,3,4,9,10],2,bmK 53 0 [2,9],2,1000⟩
def TU:Lp:=⟨bmK 53 0 [2,3,4,9,10,11,12,13],3,bmK 53 0 [2,3,4,9,10,11,12],3,3⟩
def AhA:List (Nat×Lp):=[(2,AeX 3)]
def Aib:List (Nat×Lp×List (Nat×(Nat->V))):=[(0,Ad3,[]),(4,TU,[])]
noncomputable abbrev Ai0:Cx:=cxU Gl [] AhA Aib
noncomputable def Ah6 (id:Nat):St->T (Ex×St):=λst=>A8 tab Ai0 (A0 Tryz.f112 id) id st
def Ahi (p:Bool×Bool):Blk:=.cells [bV p.1,bV p.2]
def Alb (a b c d t n:Int) (p:Bool×Bool) (i:Int):St:=⟨jsV 53 0 Ac [(2,iV t),(3,iV n),(4,.ptr 0 0),(9,.ptr 1 0),(10,iV i)],[.cells [iV a,iV b,iV c,iV d],Ahi p]⟩
def S4 (l:List (Nat×V)) (a b c d t n i k:Int) (p q:Bool×Bool):St:=⟨jsV 53 0 Ac ([(2,iV t),(3,iV n),(4,.ptr 0 0),(9,.ptr 1 0),(10,iV i),(11,.ptr 2 0),(12,iV k)]++l),[.cells [iV a,iV b,iV c,iV d],Ahi p,Ahi q]⟩
def ApT (a b c d t:Int) (p:Bool×Bool):Ex×St:=(.ex 0,⟨jsV 53 0 Ac [(2,iV t),(9,.ptr 1 0)],[.cells [iV a,iV b,iV c,iV d],Ahi p]⟩)
def orS (x:Bool) (a b:Int) (q:Bool×Bool):Bool×Bool:=(bor q.1 (Av x (ilt 0 a)),bor q.2 (Av x (ilt 0 b)))
theorem Akr (a b c d t n i:Int) (x y u v:Bool):(Ax (Ah6 4) TU 3 (S4 [(13,iV 0)] a b c d t n i 0 (x,y) (u,v))).sem=some (.ex 4,S4 [] a b c d t n i 0 (x,y) (orS x a b (u,v))):=by
 cases x <;> cases u <;> cases v <;> kernel_rfl
theorem Akq (a b c d t n i:Int) (x y u v:Bool):(Ax (Ah6 4) TU 3 (S4 [(13,iV 0)] a b c d t n i 1 (x,y) (u,v))).sem=some (.ex 4,S4 [] a b c d t n i 1 (x,y) (orS y c d (u,v))):=by
 cases y <;> cases u <;> cases v <;> kernel_rfl
theorem Am4 {a b c d t n i:Int} {p:Bool×Bool} {x y:Bool} (hi:ilt i n=true) (hx:bor (Av p.1 (ilt 0 a)) (Av p.2 (ilt 0 c))=x) (hy:bor (Av p.1 (ilt 0 b)) (Av p.2 (ilt 0 d))=y):Ap (Ah6 0) Ad3 (Alb a b c d t n p i)=some (.nm,Alb a b c d t n (x,y) (wr .i64 (Aj i 1))):=by
 obtain ⟨u,v⟩:=p;subst hx hy;exact DW.rd (.k hi <| .k (show ilt 0 2=true from rfl) <| .a (Akr a b c d t n i u v false false) <| .k (show ilt 1 2=true from rfl) <| .a (Akq a b c d t n i u v (orS u a b (false,false)).1 (orS u a b (false,false)).2) <| .k (show ilt 2 2=false from rfl) <| .l) (by kernel_rfl)
theorem AmX {a b c d t n:Int} {N:Nat} (hn:n=Int.ofNat N) (hN:N <= 100):∀ (e i:Nat) (p:Bool×Bool) (M:Nat),N=i+e->e<M->(Ax (Ah6 0) Ad3 M (Alb a b c d t n p (Int.ofNat i))).sem=some (ApT a b c d t (Sm a b c d e p))
 | 0,i,p,M,h,hM=>by
  obtain ⟨M,rfl⟩:∃ o,M=o+1:=⟨M-1,by omega⟩;have hi:ilt (Int.ofNat i) n=false:=decide_eq_false (by rw [hn]; show ¬ (i:Int)<(N:Int); omega);exact Ae (t:=some (.ex 0,_)) (DW.rd (.k hi <| .l) (by kernel_rfl))
 | e+1,i,p,M,h,hM=>by
  obtain ⟨M,rfl⟩:∃ o,M=o+1:=⟨M-1,by omega⟩;have hi:ilt (Int.ofNat i) n=true:=decide_eq_true (by rw [hn]; show (i:Int)<(N:Int); omega);rw [Ae (Am4 (p:=p) (a:=a) (b:=b) (c:=c) (d:=d) (t:=t) hi rfl rfl),AN,Cu (by omega)];exact AmX hn hN e (i+1) (bor (Av p.1 (ilt 0 a)) (Av p.2 (ilt 0 c)),bor (Av p.1 (ilt 0 b)) (Av p.2 (ilt 0 d))) M (by omega) (by omega)
def C2 (a b c d:Int) (s t:Nat) (n:Nat):Bool :=
 match t with
 | 0=>(Sm a b c d n (Nat.beq s 0,Nat.beq s 1)).1
 | _=>(Sm a b c d n (Nat.beq s 0,Nat.beq s 1)).2
def Yi:List V->A2
 | [.agg [.val (.int .i64 a),.val (.int .i64 b),.val (.int .i64 c),.val (.int .i64 d)],.val (.int .i64 s),.val (.int .i64 t),.val (.int .i64 n)]=>.br (ile 0 s) (.br (ile s 1) (.br (ile 0 t) (.br (ile t 1) (.br (ile 0 n) (.br (ile n 100) (.leaf (bV (C2 a b c d (toN s) (toN t) (toN n)),[])) .fail) .fail) .fail) .fail) .fail) .fail
 | _=>.fail
theorem Apq:As Tryz.prog Gl 112 Yi:=by
 refine Ah Az mixed Tryz.func112 (by kernel_rfl) (by kernel_rfl) λvs v h' h=>?_;unfold Yi at h;split at h
 rotate_left
 ·cases h
 rename_i a b c d s t n;obtain ⟨g1,h⟩:=Ab h;obtain ⟨g2,h⟩:=Ab h;obtain ⟨g3,h⟩:=Ab h;obtain ⟨g4,h⟩:=Ab h;obtain ⟨g5,h⟩:=Ab h;obtain ⟨g6,h⟩:=Ab h;cases Aa h;have g1:(0:Int) <= s:=of_decide_eq_true g1;have g2:s <= (1:Int):=of_decide_eq_true g2;have g3:(0:Int) <= t:=of_decide_eq_true g3;have g4:t <= (1:Int):=of_decide_eq_true g4;have g5:(0:Int) <= n:=of_decide_eq_true g5;have g6:n <= (100:Int):=of_decide_eq_true g6;obtain ⟨N,rfl⟩:=Int.eq_ofNat_of_zero_le g5;have hx:=Yf (Ao.nil:Ao Tryz.prog Gl []) AhA Aib (G:=Gl);refine ⟨_,Ai0,_,B0.refl _,rfl,hx.1,hx.2,?_,Au.refl _⟩;have hr:=λt p=>AmX (a:=a) (b:=b) (c:=c) (d:=d) (t:=t) (n:=Int.ofNat N) rfl (by omega) N 0 p 1000 (Nat.zero_add N).symm (by omega);obtain rfl | rfl:s=0 ∨ s=1:=by omega
 ·obtain rfl | rfl:t=0 ∨ t=1:=by omega
  ·exact DW.ok (.k (eI 0) <| .a (hr 0 (true,false)) <| .k (eI 0) <| .l) (by kernel_rfl)
  ·exact DW.ok (.k (eI 0) <| .a (hr 1 (true,false)) <| .k (show ieq 1 0=false from rfl) <| .k (eI 1) <| .l) (by kernel_rfl)
 ·obtain rfl | rfl:t=0 ∨ t=1:=by omega
  ·exact DW.ok (.k (show ieq 1 0=false from rfl) <| .k (eI 1) <| .a (hr 0 (false,true)) <| .k (eI 0) <| .l) (by kernel_rfl)
  ·exact DW.ok (.k (show ieq 1 0=false from rfl) <| .k (eI 1) <| .a (hr 1 (false,true)) <| .k (show ieq 1 0=false from rfl) <| .k (eI 1) <| .l) (by kernel_rfl)
end Go.Proofs.YtkbgidbledjejaaGreat.En
