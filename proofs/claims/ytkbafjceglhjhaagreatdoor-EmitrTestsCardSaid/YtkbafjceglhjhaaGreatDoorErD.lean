/-
  Layer 12: a shape's code (emitr.Code). No conditions.
-/
import Derived.Test.YtkbafjceglhjhaaGreatDoorErB
namespace Go.Proofs.YtkbafjceglhjhaaGreatDoor.Er
open Go.Sy Go Go.Proofs.YtkbafjceglhjhaaGreatDoor.Ed Go.Proofs.YtkbafjceglhjhaaGreatDoor.Sh
open Int (ofNat)
set_option maxRecDepth 100000
set_option maxHeartbeats 1000000
def dg1:List UInt8:=[48,49,50,51,52,53,54,55,56,57,97,98,99,100,101,102,103,104,105,106,107,108,109,110,111,112,113,114,115,116,117,118,119,120,121,122]
def dg2:List UInt8:=[48,48,48,49,48,50,48,51,48,52,48,53,48,54,48,55,48,56,48,57,49,48,49,49,49,50,49,51,49,52,49,53,49,54,49,55,49,56,49,57,50,48,50,49,50,50,50,51,50,52,50,53,50,54,50,55,50,56,50,57,51,48,51,49,51,50,51,51,51,52,51,53,51,54,51,55,51,56,51,57,52,48,52,49,52,50,52,51,52,52,52,53,52,54,52,55,52,56,52,57,53,48,53,49,53,50,53,51,53,52,53,53,53,54,53,55,53,56,53,57,54,48,54,49,54,50,54,51,54,52,54,53,54,54,54,55,54,56,54,57,55,48,55,49,55,50,55,51,55,52,55,53,55,54,55,55,55,56,55,57,56,48,56,49,56,50,56,51,56,52,56,53,56,54,56,55,56,56,56,57,57,48,57,49,57,50,57,51,57,52,57,53,57,54,57,55,57,56,57,57]
def Df (y:Int):List UInt8:=bif ilt y 10 then Gv (toN y) (Gr (toN (wr .i64 (Ai y 1))) dg1) else Gv (toN (wr .i64 (Pi y 2))) (Gr (toN (wr .i64 (Ai (wr .i64 (Pi y 2)) 2))) dg2)
def X6 (y:Int):A5:=.br (Al (ile 0 y) (ilt y 100)) (.leaf (.str (Df y),[])) .fail
def Qv:List V->A5
 | [.val (.int .i64 y)]=>X6 y
 | _=>.fail
def Aeq:List V->A5
 | [.val (.int .i64 y),.val (.int .i64 10)]=>X6 y
 | _=>.fail
theorem NK (y:Int):(Df y).length <= 200:=by
 unfold Df Gv Gr;cases ilt y 10 <;> simp [dg1,dg2] <;> omega
theorem Aeo (y:Int):(BK [48] (Df y)).length <= 201:=by
 have:=NK y;unfold BK;simp;omega
theorem RR {a b:List UInt8} (ha:a.length <= 100) {n:Nat} (hb:b.length <= n) (hn:n <= 1000:=by decide):H6 a b=true:=decide_eq_true (by omega)
theorem Aep {y:Int} (h:Al (ile 0 y) (ilt y 100)=true):(ilt y 10=true->Al (ile 0 y) (Al (ile y (wr .i64 (Ai y 1))) (ile (wr .i64 (Ai y 1)) (ofNat (Bq dg1))))=true) ∧
  Al (ile 0 (wr .i64 (Pi y 2))) (Al (ile (wr .i64 (Pi y 2)) (wr .i64 (Ai (wr .i64 (Pi y 2)) 2))) (ile (wr .i64 (Ai (wr .i64 (Pi y 2)) 2)) (ofNat (Bq dg2))))=true:=by
 simp only [Al,ile,ilt,Bool.and_eq_true,decide_eq_true_eq] at h ⊢;obtain ⟨h1,h2⟩:=h;have e1:wr .i64 (Pi y 2)=y * 2:=by
  unfold wr Pi IntKind.wrap;simp [IntKind.bits,IntKind.signed];omega
 have e2:wr .i64 (Ai (y * 2) 2)=y * 2+2:=by
  unfold wr Ai IntKind.wrap;simp [IntKind.bits,IntKind.signed];omega
 have e3:wr .i64 (Ai y 1)=y+1:=by
  unfold wr Ai IntKind.wrap;simp [IntKind.bits,IntKind.signed];omega
 have s1:ofNat (Bq dg1)=36:=rfl;have s2:ofNat (Bq dg2)=200:=rfl;rw [e1,e2,e3,s1,s2];omega
def AqX (y:Int):A5:=.br (Al (ile 0 y) (ilt y 100)) (.br (ilt y 10) (.leaf (.str (Df y),[])) (.leaf (.str (Df y),[]))) .fail
theorem Ain {y:Int} {r:V×List Blk} (h:(X6 y).sem=some r):(AqX y).sem=some r:=by
 unfold AqX;unfold X6 at h;revert h;cases Al (ile 0 y) (ilt y 100) with
 | false=>exact id
 | true =>intro h;rw [<- h];cases ilt y 10 <;> rfl
theorem Asg:Ap Tryz.prog Gl 197 Qv:=by
 refine Ah A2 mixed Tryz.func197 (by kernel_rfl) (by kernel_rfl) λvs v h' h=>?_;unfold Qv at h;split at h
 ·rename_i y
  have hx:=AS Ca [] (G:=Gl);exact ⟨_,cxA Gl tb0 [],_,Ba.refl _,rfl,hx.1,hx.2,DK.of (Ain h) (.g λh0=>.c (λhy=>.k hy <| .k ((Aep h0).1 hy) <| .e (congrArg (λl=>(V.str l,([]:List Blk))) (show Gv (toN y) (Gr (toN (wr .i64 (Ai y 1))) dg1)=Df y from by unfold Df; rw [hy]; rfl)))
   λhy=>.k hy <| .k (Aep h0).2 <| .e (congrArg (λl=>(V.str l,([]:List Blk))) (show Gv (toN (wr .i64 (Pi y 2))) (Gr (toN (wr .i64 (Ai (wr .i64 (Pi y 2)) 2))) dg2)=Df y from by unfold Df; rw [hy]; rfl))) (by kernel_rfl),Am.refl _⟩
 ·cases h
noncomputable def Aiw:A7:=(197,Qv)::[]
theorem Abz:Ao Tryz.prog Gl Aiw:=.cons Asg .nil
theorem Ash:Ap Tryz.prog Gl 194 Aeq:=by
 refine Ah A2 mixed Tryz.func194 (by kernel_rfl) (by kernel_rfl) λvs v h' h=>?_;unfold Aeq at h;split at h
 ·rename_i y
  have hx:=AS Abz [] (G:=Gl);exact ⟨_,cxA Gl Aiw [],_,Ba.refl _,rfl,hx.1,hx.2,DK.of (C:=X6 y) h (.g λh0=>.k (show ieq 10 10=true from rfl) <| .r 3 (show ile 0 y=true from (Bool.and_eq_true_iff.1 h0).1) <| .k (show ilt y 100=true from (Bool.and_eq_true_iff.1 h0).2) <| .k h0 <| .l) (by kernel_rfl),Am.refl _⟩
 ·cases h
noncomputable def Aix:A7:=(194,Aeq)::[]
theorem Ab1:Ao Tryz.prog Gl Aix:=.cons Ash .nil
theorem Asl:Ap Tryz.prog Gl 179 Qv:=by
 refine Ah A2 mixed Tryz.func179 (by kernel_rfl) (by kernel_rfl) λvs v h' h=>?_;unfold Qv at h;split at h
 ·rename_i y
  have hx:=AS Ab1 [] (G:=Gl);exact ⟨_,cxA Gl Aix [],_,Ba.refl _,rfl,hx.1,hx.2,DK.of (C:=X6 y) h (.g λh0=>.k h0 <| .l) (by kernel_rfl),Am.refl _⟩
 ·cases h
noncomputable def Aiy:A7:=(179,Qv)::[]
theorem Ab6:Ao Tryz.prog Gl Aiy:=.cons Asl .nil
theorem Apk:Ap Tryz.prog Gl 147 Qv:=by
 refine Ah A2 mixed Tryz.func147 (by kernel_rfl) (by kernel_rfl) λvs v h' h=>?_;unfold Qv at h;split at h
 ·rename_i y
  have hx:=AS Ab6 [] (G:=Gl);exact ⟨_,cxA Gl Aiy [],_,Ba.refl _,rfl,hx.1,hx.2,DK.of (C:=X6 y) h (.g λh0=>.k h0 <| .l) (by kernel_rfl),Am.refl _⟩
 ·cases h
structure In8 where
 op:Int
 d:Int
 a:Int
 b:Int
 imm:Int
 loc:List UInt8
 lab:List UInt8
 fc:Int
def i8V (e:In8):V:=.agg [iV e.op,iV e.d,iV e.a,iV e.b,iV e.imm,.str e.loc,.str e.lab,iV e.fc]
def BI (l:List In8):Nat:=l.length
def EY (l:List In8):Nat->V:=λk=>nth (l.map i8V) k
theorem S7:∀ (l m:List V) (k:Nat),nth (l++m) k=bif Nat.blt k l.length then nth l k else nth m (k-l.length)
 | [],m,k=>rfl
 | v::l,m,0=>rfl
 | v::l,m,k+1=>by
  show nth (l++m) k=_;rw [S7 l m k,show (k+1)-(v::l).length=k-l.length from by simp];rfl
theorem OF (v:V) (k:Nat):nth [v] k=bif Nat.beq k 0 then v else .und:=by
 cases k <;> rfl
theorem Aqo (l xs:List In8) (h:0<xs.length) (h2:xs.length <= 16):Bn (BI l) xs.length (EY l) (FL xs.length (xs.map i8V))=EY (l++xs):=by
 have hl:FL xs.length (xs.map i8V)=λi=>nth (xs.map i8V) i:=by
  unfold FL;have:SQ xs.length (xs.map i8V)=false:=by
   unfold SQ;cases xs with
   | nil=>cases h
   | cons x xs =>
    rw [show Nat.blt 16 (x::xs).length=false from by
     cases hb:Nat.blt 16 (x::xs).length with
     | false=>rfl
     | true=>have:=Nat.le_of_ble_eq_true hb; omega]
    cases Nat.blt 1 (x::xs).length <;> rfl
  rw [this]
 rw [hl];funext k;unfold EY;rw [List.map_append,S7,List.length_map];cases xs with
 | nil=>cases h
 | cons x t =>
 cases t with
 | nil =>
  show AD l.length (λk=>nth (l.map i8V) k) (i8V x) k=_;rw [Br];show (bif Nat.beq k l.length then i8V x else nth (l.map i8V) k)=bif Nat.blt k l.length then nth (l.map i8V) k else nth [i8V x] (k-l.length);rw [OF];cases hk:Nat.beq k l.length with
  | true =>
   have:=Nat.eq_of_beq_eq_true hk;subst this;rw [show Nat.blt l.length l.length=false from by
    cases hb:Nat.blt l.length l.length with
    | false=>rfl
    | true=>have:=Nat.le_of_ble_eq_true hb; omega,Nat.sub_self]
   rfl
  | false =>
   have:=Nat.ne_of_beq_eq_false hk;cases hb:Nat.blt k l.length with
   | true=>rfl
   | false =>
    have hge:l.length <= k:=Nat.le_of_not_lt λhc=>by rw [show Nat.blt k l.length=true from Nat.ble_eq_true_of_le hc] at hb; cases hb
    have hz:Nat.beq (k-l.length) 0=false:=by
     cases hq:Nat.beq (k-l.length) 0 with
     | false=>rfl
     | true=>have:=Nat.eq_of_beq_eq_true hq; omega
    rw [hz];show nth (l.map i8V) k=V.und;have:∀ (l:List V) (k:Nat),l.length <= k->nth l k = .und:=λl=>by
     induction l with
     | nil=>intro k _; rfl
     | cons v l ih =>
      intro k hk;cases k with
      | zero=>simp at hk
      | succ k=>exact ih k (by simpa using hk)
    exact this _ _ (by simpa using hge)
 | cons y t =>show PS l.length (λk=>nth (l.map i8V) k) (λk=>nth ((x::y::t).map i8V) k) k=_;rw [Gk]
def gF:Nat×(Nat->V)->List (List In8)->Nat×(Nat->V)
 | p,[]=>p
 | p,xs::l=>gF (AE p.1 xs.length,Bn p.1 xs.length p.2 (FL xs.length (xs.map i8V))) l
theorem AdO:∀ (xss:List (List In8)) (l:List In8),(∀ xs,xs ∈ xss->0<xs.length∧xs.length <= 16)->gF (BI l,EY l) xss=(BI (l++xss.flatten),EY (l++xss.flatten))
 | [],l,_=>by simp [gF]
 | xs::xss,l,h=>by
  have h0:=h xs (by simp);show gF (AE (BI l) xs.length,Bn (BI l) xs.length (EY l) (FL xs.length (xs.map i8V))) xss=_;rw [Aqo l xs h0.1 h0.2,show AE (BI l) xs.length=BI (l++xs) from by unfold AE BI; simp,AdO xss (l++xs) λy hy=>h y (by simp [hy])];simp
section
variable (s:Sh7) (i:Nat)
def ed9:E6:=s.E (toN (wr .i64 (Bz (ofNat i) 1)))
def at9:Int:=F7 (Bm (locL s s.nx (toN (s.X i).th))) (Ec (locL s s.nx (toN (s.X i).th))) (s.X i).loc
def rP9:Int:=gtF s s.nx (toN (s.X i).th) (wr .i64 (Bz (ofNat i) 1))
def rI9:Int:=gtF s s.nx (toN (s.X i).th) (ofNat i)
def fcI:In8:=⟨13,0,0,0,0,[],[],(ed9 s i).fence⟩
def lwI (a:Int):In8:=⟨6,rI9 s i,a,0,0,[],[],0⟩
def xr5:In8:=⟨9,5,rP9 s i,rP9 s i,0,[],[],0⟩
def or5:In8:=⟨8,5,5,0,(s.X i).val,[],[],0⟩
def or0:In8:=⟨8,5,0,0,(s.X i).val,[],[],0⟩
def swI (a:Int):In8:=⟨7,0,a,5,0,[],[],0⟩
def bnI (t:List UInt8):In8:=⟨11,0,rP9 s i,0,0,[],t,0⟩
def lbI (t:List UInt8):In8:=⟨12,0,0,0,0,[],t,0⟩
def xr6:In8:=⟨9,6,rP9 s i,rP9 s i,0,[],[],0⟩
def ad6:In8:=⟨10,6,6,at9 s i,0,[],[],0⟩
def tl9 (a:Int):List (List In8):=bif ieq (s.X i).dir 1 then [[lwI s i a]] else bif ieq (ed9 s i).kind 7 then [[xr5 s i,or5 s i],[swI a]] else [[or0 s i],[swI a]]
def lbN:Nat->Nat
 | 0=>0
 | i+1=>bif ilt 0 (s.X i).pl then (bif ieq (ed9 s i).kind 5 then lbN i else bif ieq (ed9 s i).kind 8 then lbN i+1 else lbN i) else lbN i
def Ds:List (List In8) :=
 bif ilt 0 (s.X i).pl then
  (bif ieq (ed9 s i).kind 5 then [fcI s i]::tl9 s i (at9 s i)
  else bif ieq (ed9 s i).kind 8 then
   (bif ieq (ofNat (Bq (Df (ofNat (lbN s i))))) 1 then [bnI s i (BK [76,67] (BK [48] (Df (ofNat (lbN s i))))),lbI (BK [76,67] (BK [48] (Df (ofNat (lbN s i)))))]::tl9 s i (at9 s i)
   else [bnI s i (BK [76,67] (Df (ofNat (lbN s i)))),lbI (BK [76,67] (Df (ofNat (lbN s i))))]::tl9 s i (at9 s i))
  else bif ieq (ed9 s i).kind 6 then [xr6 s i,ad6 s i]::tl9 s i 6
  else tl9 s i (at9 s i))
 else bif ieq (s.X i).dir 1 then [[lwI s i (at9 s i)]] else [[or0 s i],[swI (at9 s i)]]
def cdL:Nat->Nat->List In8
 | 0,_=>[]
 | i+1,u=>bif Nat.beq u (toN (s.X i).th) then cdL i u++(Ds s i).flatten else cdL i u
theorem Aga (P:List (List In8)->Prop) (h1:∀ a,P [[lwI s i a]]) (h2:∀ a,P [[xr5 s i,or5 s i],[swI a]]) (h3:∀ a,P [[or0 s i],[swI a]])
  (hp:∀ xs l,P l->xs=[fcI s i] ∨ (∃ t,xs=[bnI s i t,lbI t]) ∨ xs=[xr6 s i,ad6 s i]->P (xs::l)):P (Ds s i):=by
 have ht:∀ a,P (tl9 s i a):=λa=>by
  unfold tl9;cases ieq (s.X i).dir 1
  ·cases ieq (ed9 s i).kind 7
   ·exact h3 a
   ·exact h2 a
  ·exact h1 a
 unfold Ds;cases ilt 0 (s.X i).pl
 ·cases ieq (s.X i).dir 1
  ·exact h3 _
  ·exact h1 _
 ·cases ieq (ed9 s i).kind 5
  ·cases ieq (ed9 s i).kind 8
   ·cases ieq (ed9 s i).kind 6
    ·exact ht _
    ·exact hp _ _ (ht _) (.inr (.inr rfl))
   ·cases ieq (ofNat (Bq (Df (ofNat (lbN s i))))) 1
    ·exact hp _ _ (ht _) (.inr (.inl ⟨_,rfl⟩))
    ·exact hp _ _ (ht _) (.inr (.inl ⟨_,rfl⟩))
  ·exact hp _ _ (ht _) (.inl rfl)
theorem AfZ:∀ xs,xs ∈ Ds s i->0<xs.length∧xs.length <= 16:=Aga s i (λl=>∀ xs,xs ∈ l->0<xs.length∧xs.length <= 16) (λa xs h=>by simp at h; subst h; simp) (λa xs h=>by simp at h; rcases h with rfl | rfl <;> simp) (λa xs h=>by simp at h; rcases h with rfl | rfl <;> simp)
 λxs l h hx y hy=>by
  rcases List.mem_cons.1 hy with rfl | hy
  ·rcases hx with rfl | ⟨t,rfl⟩ | rfl <;> simp
  ·exact h y hy
theorem Yf:(Ds s i).flatten.length <= 5:=by
 unfold Ds tl9;cases ilt 0 (s.X i).pl <;> cases ieq (s.X i).dir 1 <;> cases ieq (ed9 s i).kind 5 <;> cases ieq (ed9 s i).kind 8 <;> cases ieq (ed9 s i).kind 6 <;> cases ieq (ed9 s i).kind 7 <;> cases ieq (ofNat (Bq (Df (ofNat (lbN s i))))) 1 <;> exact Nat.le_of_ble_eq_true rfl
theorem ME (u:Nat):∀ i,BI (cdL s i u) <= 5 * i
 | 0=>Nat.le_refl _
 | i+1=>by
  have h1:=ME u i;have h2:=Yf s i;rw [cdL];unfold BI at h1 ⊢;cases Nat.beq u (toN (s.X i).th) with
  | true=>simp only [cond_true,List.length_append]; omega
  | false=>simp only [cond_false]; omega
theorem Re:∀ i,lbN s i <= i
 | 0=>Nat.le_refl _
 | i+1=>by
  have:=Re i;rw [lbN];cases ilt 0 (s.X i).pl
  ·simp only [cond_false]; omega
  ·cases ieq (ed9 s i).kind 5
   ·cases ieq (ed9 s i).kind 8 <;> simp only [cond_true,cond_false] <;> omega
   ·simp only [cond_true]; omega
def AhK:Blk:=.jag ⟨63,1,toN s.tt,λ_=>.nilS,0,72,8,λ_=>true,λu=>BI (cdL s s.nx u),λu=>EY (cdL s s.nx u),none⟩
def cdB:Bool:=plB s && AV s.nx λi=>bor (AQ (ilt 0 (s.X i).pl)) (Al (Nat.blt 0 i) (Nat.ble i s.ne))
theorem Lg {i m:Nat} (h:i<m):lvF s m (toN (s.X i).th)=true:=by
 induction m with
 | zero=>cases h
 | succ m ih =>
  rw [lvF];by_cases e:i=m
  ·subst e
   rw [show isT s (toN (s.X i).th) i=true from Nat.beq_refl _,bTO]
  ·rw [ih (by omega),Bool.or_true]
end
section
variable {s:Sh7} (hF:plB s=true) {i:Nat} (hi:i<s.nx)
theorem AsX (hC:cdB s=true) (hi:i<s.nx) (h1:ilt 0 (s.X i).pl=true):Al (ile 0 (wr .i64 (Bz (ofNat i) 1))) (ilt (wr .i64 (Bz (ofNat i) 1)) (ofNat s.ne))=true:=by
 unfold cdB at hC;rw [Bool.and_eq_true] at hC;have h16:=(Bw hC.1).1;have:=A8.1 hC.2 i hi;rw [h1] at this;have this:Al (Nat.blt 0 i) (Nat.ble i s.ne)=true:=this;unfold Al at this;rw [Bool.and_eq_true] at this;have a1:=Nat.le_of_ble_eq_true this.1;have a2:=Nat.le_of_ble_eq_true this.2;obtain ⟨k,rfl⟩:∃ k,i=k+1:=⟨i-1,by omega⟩;have e:wr .i64 (Bz (ofNat (k+1)) 1)=ofNat k:=by
  rw [show Bz (ofNat (k+1)) 1=ofNat k from by unfold Bz; simp];exact He (by omega)
 rw [e];exact Ad (by omega)
include hF
theorem VD (u:Nat):Aq (Bm (locL s s.nx u))=true:=decide_eq_true (by
 have:=Fj (s:=s) u s.nx;have:=(Bw hF).1;omega)
include hi
theorem ap1 (u:Nat) {m:Nat} (hm:m <= 2):Bs (BI (cdL s i u)) m 80=true:=decide_eq_true (by
 have:=ME s u i;have:=(Bw hF).1;omega)
theorem ap2 (u:Nat) {m k:Nat} (hm:m <= 2) (hk:k <= 2):Bs (AE (BI (cdL s i u)) m) k 80=true:=decide_eq_true (by
 have:=ME s u i;have:=(Bw hF).1;unfold AE;omega)
theorem ap3 (u:Nat) {m k l:Nat} (hm:m <= 2) (hk:k <= 2) (hl:l <= 2):Bs (AE (AE (BI (cdL s i u)) m) k) l 80=true:=decide_eq_true (by
 have:=ME s u i;have:=(Bw hF).1;unfold AE;omega)
theorem ApZ:Al (ile 0 (ofNat (lbN s i))) (ilt (ofNat (lbN s i)) 100)=true:=by
 have:=Re s i;have:=(Bw hF).1;simp [Al,ile,ilt];omega
theorem Aau (h1:ilt 0 (s.X i).pl=true) (h2:ieq (ed9 s i).kind 5=false) (h5:ieq (ed9 s i).kind 8=true):wr .i64 (Ai (ofNat (lbN s i)) 1)=ofNat (lbN s (i+1)):=by
 have:=Re s i;have:=(Bw hF).1;rw [EF (n:=100) (by omega) (by decide),lbN,h1,h2,h5];rfl
omit hF hi
theorem Adx (h1:ilt 0 (s.X i).pl=true) (h2:ieq (ed9 s i).kind 5=true):(ofNat (lbN s i))=ofNat (lbN s (i+1)):=by rw [lbN,h1,h2]; rfl
theorem Rf (h1:ilt 0 (s.X i).pl=true) (h2:ieq (ed9 s i).kind 5=false) (h5:ieq (ed9 s i).kind 8=false):(ofNat (lbN s i))=ofNat (lbN s (i+1)):=by rw [lbN,h1,h2,h5]; rfl
theorem AiZ (h1:ilt 0 (s.X i).pl=false):(ofNat (lbN s i))=ofNat (lbN s (i+1)):=by rw [lbN,h1]; rfl
variable (s)
def T9 (c:Int) (lv:Nat->Bool) (ln:Nat->Nat) (mm:Nat->Nat->V) (lab:Int):St:=⟨jsV 69 0 Aa [(1,.ptr 0 0),(5,.jref 2),(6,.jref 3),(7,.ptr 4 0),(23,.sl 5 s.nx (λi=>evV (s.X i))),(24,iV (ofNat s.nx)),(25,iV c)],[.cells [iV s.arch,.sl 6 s.ne (λi=>eV (s.E i)),.sl 5 s.nx (λi=>evV (s.X i)),iV s.tt,iV s.kk,.sl 1 s.nr (λi=>iV (s.R i)),.sl 1 s.nc (λu=>.sl 1 (s.C u).1 (λi=>iV ((s.C u).2 i)))],.jag ⟨63,1,0,λ_=>.und,0,72,8,λ_=>true,λ_=>0,λ_ _=>.und,none⟩,JY s,.jag ⟨63,1,toN s.tt,λ_=>.nilS,0,72,8,lv,ln,mm,none⟩,.cells [iV lab]]⟩
def S9 (c:Int) (_:Unit):St:=T9 s c (λ_=>true) (λu=>BI (cdL s (toN c) u)) (λu=>EY (cdL s (toN c) u)) (ofNat (lbN s (toN c)))
def fn9:Ex×St:=(.ex 0,⟨jsV 69 0 Aa [(6,.jref 3)],[.cells [iV s.arch,.sl 6 s.ne (λi=>eV (s.E i)),.sl 5 s.nx (λi=>evV (s.X i)),iV s.tt,iV s.kk,.sl 1 s.nr (λi=>iV (s.R i)),.sl 1 s.nc (λu=>.sl 1 (s.C u).1 (λi=>iV ((s.C u).2 i)))],.jag ⟨63,1,0,λ_=>.und,0,72,8,λ_=>true,λ_=>0,λ_ _=>.und,none⟩,JY s,AhK s]⟩)
def g9 (i:Nat) (_:Unit):T (Unit ⊕ (Ex×St)):=.br (ilt 0 (s.X i).pl) (.br (ieq (ed9 s i).kind 5) (.br (ieq (s.X i).dir 1) (.leaf (.inl ())) (.br (ieq (ed9 s i).kind 7) (.leaf (.inl ())) (.leaf (.inl ())))) (.br (ieq (ed9 s i).kind 8) (.br (ieq (ofNat (Bq (Df (ofNat (lbN s i))))) 1) (.br (ieq (s.X i).dir 1) (.leaf (.inl ())) (.br (ieq (ed9 s i).kind 7) (.leaf (.inl ())) (.leaf (.inl ())))) (.br (ieq (s.X i).dir 1) (.leaf (.inl ())) (.br (ieq (ed9 s i).kind 7) (.leaf (.inl ())) (.leaf (.inl ()))))) (.br (ieq (ed9 s i).kind 6) (.br (ieq (s.X i).dir 1) (.leaf (.inl ())) (.br (ieq (ed9 s i).kind 7) (.leaf (.inl ())) (.leaf (.inl ())))) (.br (ieq (s.X i).dir 1) (.leaf (.inl ())) (.br (ieq (ed9 s i).kind 7) (.leaf (.inl ())) (.leaf (.inl ()))))))) (.br (ieq (s.X i).dir 1) (.leaf (.inl ())) (.leaf (.inl ())))
variable {s}
include hF hi
theorem lf9 {lab:Int} (xss:List (List In8)) (hx:Ds s i=xss) (hl:lab=ofNat (lbN s (i+1))):(Ex.nm,T9 s (wr .i64 (Ai (ofNat i) 1)) (C2 (C2 (λ_=>true) (toN (s.X i).th) false) (toN (s.X i).th) true) (Dm (λu=>BI (cdL s i u)) (toN (s.X i).th) (gF (BI (cdL s i (toN (s.X i).th)),EY (cdL s i (toN (s.X i).th))) xss).1) (Dn (λu=>EY (cdL s i u)) (toN (s.X i).th) (gF (BI (cdL s i (toN (s.X i).th)),EY (cdL s i (toN (s.X i).th))) xss).2) lab)=(Ex.nm,S9 s (wr .i64 (Ai (ofNat i) 1)) ()):=by
 subst hx;have e:cdL s (i+1)=upL (cdL s i) (toN (s.X i).th) (cdL s i (toN (s.X i).th)++(Ds s i).flatten):=by
  funext u;rw [cdL];unfold upL;cases hu:Nat.beq u (toN (s.X i).th) with
  | true=>rw [Nat.eq_of_beq_eq_true hu]
  | false=>rfl
 rw [AdO _ _ (AfZ s i)];unfold S9;rw [MZ hF hi,show toN (ofNat (i+1))=i+1 from rfl,e,Ol,Ws BI,Wt EY,hl]
end
noncomputable def tb9:A7:=(33,shT Qi)::(34,shT O1)::(61,AhY)::(147,Qv)::[]
theorem Oc:Ao Tryz.prog Gl tb9:=.cons p33 <| .cons p34 <| .cons p61 <| .cons Apk .nil
noncomputable def c9p:FuncId->List V->St->T (V×Res):=Ji [(63,M3 tab (cxA Gl tb9 []) Tryz.f63),(101,M3 tab (cxA Gl tb9 []) Tryz.f101)] (Aw tb9)
theorem Ae9:Bu Tryz.prog ⟨c9p,Gl⟩:=F6 mixed (.cons rfl A2 (AS Oc []).1 (AS Oc []).2 Tryz.func63 (by kernel_rfl) (by kernel_rfl) <| .cons rfl A2 (AS Oc []).1 (AS Oc []).2 Tryz.func101 (by kernel_rfl) (by kernel_rfl) .nil) (Ek rfl Oc)
noncomputable def c9q:FuncId->List V->St->T (V×Res):=Ji [(62,M3 tab ⟨c9p,Go.Sy.askL [],Gl⟩ Tryz.f62)] c9p
theorem Ae8:Bu Tryz.prog ⟨c9q,Gl⟩:=F6 mixed (.cons rfl A2 Ae9 (Fp _ _ _) Tryz.func62 (by kernel_rfl) (by kernel_rfl) .nil) Ae9
noncomputable def c9:FuncId->List V->St->T (V×Res):=Ji [(35,M3 tab ⟨c9q,Go.Sy.askL [],Gl⟩ Tryz.f35)] c9q
theorem AqN:Bu Tryz.prog ⟨c9,Gl⟩:=F6 mixed (.cons rfl A2 Ae8 (Fp _ _ _) Tryz.func35 (by kernel_rfl) (by kernel_rfl) .nil) Ae8
def lp9:Lp:=⟨bmK 69 0 [1,5,6,7,23,24,25],5,bmK 69 0 [6],4,4611686018427387905⟩
noncomputable def B9 (id:Nat) (L:LT):St->T (Ex×St):=λst=>AA tab ⟨c9,L,Gl⟩ (As Tryz.f9 id) id st
theorem r9 (L:LT) {s:Sh7} (hC:cdB s=true) (hF:plB s=true):(Av (B9 0 L) lp9 4611686018427387905 (S9 s 0 ())).sem=some (fn9 s) :=
 AZ (R:=exR) BF (S:=λc a _=>S9 s c a) (j:=λ_=>.und) (g:=g9 s) (fin:=λ_=>fn9 s) (e:=fn9 s) (n:=s.nx) (by have:=(Bw hF).1; omega)
  (λi a j r hi he=>DK.ok (L:=goR (λc a _=>S9 s c a) exR i) (.k (ofNat_lt hi) <| .k (Ad hi) <| .k (C0 hF hi) <| .k (BH hF hi) <| .k eT <| .k (C0 hF hi) <| .k (BH hF hi) <| .k eT <| .k (eI (s.X i).th) <| .k (C0 hF hi) <| .k (eJ (toN (s.X i).th)) <| .k (BH hF hi) <| .k eT <| .r 2 (eJ (toN (s.X i).th)) <| .k (eI (s.X i).th) <| .k (C0 hF hi) <| .k (eJ (toN (s.X i).th)) <| .k (BH hF hi) <| .k eT <| .r 2 (eJ (toN (s.X i).th)) <| .k (eI (s.X i).th) <| .k (C0 hF hi) <| .k (eJ (toN (s.X i).th)) <| .k (BH hF hi) <| .k eT <| .r 2 (eJ (toN (s.X i).th)) <| .k (eI (s.X i).th) <| .k (C0 hF hi) <| .k (eJ (toN (s.X i).th)) <| .k (BH hF hi) <| .k eT <| .r 2 (eJ (toN (s.X i).th)) <| .k (eI (s.X i).th) <| .k (C0 hF hi) <| .k (eJ (toN (s.X i).th)) <| .k (BH hF hi) <| .k eT <| .r 2 (eJ (toN (s.X i).th)) <| .c (λh1=>.k h1 <| .k (AsX hC hi h1) <| .k (Lg s hi) <| .k (Iy (Bz (ofNat i) 1)) <| .k (eG [0,toN s.tt,toN s.tt]) <| .k (eL (Bm (locL s s.nx (toN (s.X i).th)))) <| .k (VD hF (toN (s.X i).th)) <| .c (λh2=>.k h2 <| .k eT <| .k (ap1 hF hi (toN (s.X i).th) (m:=1) (by decide)) <| .c (λh3=>.k h3 <| .k (Lg s hi) <| .k (Ls hF hi) <| .k (ap2 hF hi (toN (s.X i).th) (m:=1) (k:=1) (by decide) (by decide)) <| .k (C0 hF hi) <| .k (BH hF hi) <| .e (lf9 hF hi (lab:=(ofNat (lbN s i))) [[fcI s i],[lwI s i (at9 s i)]] (by unfold Ds tl9; rw [h1,h2,h3]; rfl) (Adx h1 h2))) λh3=>.k h3 <| .c (λh4=>.k h4 <| .k (Lg s hi) <| .k (Iy (Bz (ofNat i) 1)) <| .k (ap2 hF hi (toN (s.X i).th) (m:=1) (k:=2) (by decide) (by decide)) <| .k (ap3 hF hi (toN (s.X i).th) (m:=1) (k:=2) (l:=1) (by decide) (by decide) (by decide)) <| .k (C0 hF hi) <| .k (BH hF hi) <| .e (lf9 hF hi (lab:=(ofNat (lbN s i))) [[fcI s i],[xr5 s i,or5 s i],[swI (at9 s i)]] (by unfold Ds tl9; rw [h1,h2,h3,h4]; rfl) (Adx h1 h2))) λh4=>.k h4 <| .k (ap2 hF hi (toN (s.X i).th) (m:=1) (k:=1) (by decide) (by decide)) <| .k (ap3 hF hi (toN (s.X i).th) (m:=1) (k:=1) (l:=1) (by decide) (by decide) (by decide)) <| .k (C0 hF hi) <| .k (BH hF hi) <| .e (lf9 hF hi (lab:=(ofNat (lbN s i))) [[fcI s i],[or0 s i],[swI (at9 s i)]] (by unfold Ds tl9; rw [h1,h2,h3,h4]; rfl) (Adx h1 h2))) λh2=>.k h2 <| .c (λh5=>.k h5 <| .k (ApZ hF hi) <| .c (λh6=>.k h6 <| .k (RR (a:=[48]) (b:=Df (ofNat (lbN s i))) (by decide) (NK _)) <| .k (RR (a:=[76,67]) (b:=BK [48] (Df (ofNat (lbN s i)))) (by decide) (Aeo _)) <| .k eT <| .k (ap1 hF hi (toN (s.X i).th) (m:=2) (by decide)) <| .c (λh7=>.k h7 <| .k (Lg s hi) <| .k (Ls hF hi) <| .k (ap2 hF hi (toN (s.X i).th) (m:=2) (k:=1) (by decide) (by decide)) <| .k (C0 hF hi) <| .k (BH hF hi) <| .e (lf9 hF hi (lab:=(wr .i64 (Ai (ofNat (lbN s i)) 1))) [[bnI s i (BK [76,67] (BK [48] (Df (ofNat (lbN s i))))),lbI (BK [76,67] (BK [48] (Df (ofNat (lbN s i)))))],[lwI s i (at9 s i)]] (by unfold Ds tl9; rw [h1,h2,h5,h6,h7]; rfl) (Aau hF hi h1 h2 h5))) λh7=>.k h7 <| .c (λh8=>.k h8 <| .k (Lg s hi) <| .k (Iy (Bz (ofNat i) 1)) <| .k (ap2 hF hi (toN (s.X i).th) (m:=2) (k:=2) (by decide) (by decide)) <| .k (ap3 hF hi (toN (s.X i).th) (m:=2) (k:=2) (l:=1) (by decide) (by decide) (by decide)) <| .k (C0 hF hi) <| .k (BH hF hi) <| .e (lf9 hF hi (lab:=(wr .i64 (Ai (ofNat (lbN s i)) 1))) [[bnI s i (BK [76,67] (BK [48] (Df (ofNat (lbN s i))))),lbI (BK [76,67] (BK [48] (Df (ofNat (lbN s i)))))],[xr5 s i,or5 s i],[swI (at9 s i)]] (by unfold Ds tl9; rw [h1,h2,h5,h6,h7,h8]; rfl) (Aau hF hi h1 h2 h5))) λh8=>.k h8 <| .k (ap2 hF hi (toN (s.X i).th) (m:=2) (k:=1) (by decide) (by decide)) <| .k (ap3 hF hi (toN (s.X i).th) (m:=2) (k:=1) (l:=1) (by decide) (by decide) (by decide)) <| .k (C0 hF hi) <| .k (BH hF hi) <| .e (lf9 hF hi (lab:=(wr .i64 (Ai (ofNat (lbN s i)) 1))) [[bnI s i (BK [76,67] (BK [48] (Df (ofNat (lbN s i))))),lbI (BK [76,67] (BK [48] (Df (ofNat (lbN s i)))))],[or0 s i],[swI (at9 s i)]] (by unfold Ds tl9; rw [h1,h2,h5,h6,h7,h8]; rfl) (Aau hF hi h1 h2 h5))) λh6=>.k h6 <| .k (RR (a:=[76,67]) (b:=Df (ofNat (lbN s i))) (by decide) (NK _)) <| .k eT <| .k (ap1 hF hi (toN (s.X i).th) (m:=2) (by decide)) <| .c (λh9=>.k h9 <| .k (Lg s hi) <| .k (Ls hF hi) <| .k (ap2 hF hi (toN (s.X i).th) (m:=2) (k:=1) (by decide) (by decide)) <| .k (C0 hF hi) <| .k (BH hF hi) <| .e (lf9 hF hi (lab:=(wr .i64 (Ai (ofNat (lbN s i)) 1))) [[bnI s i (BK [76,67] (Df (ofNat (lbN s i)))),lbI (BK [76,67] (Df (ofNat (lbN s i))))],[lwI s i (at9 s i)]] (by unfold Ds tl9; rw [h1,h2,h5,h6,h9]; rfl) (Aau hF hi h1 h2 h5))) λh9=>.k h9 <| .c (λh10=>.k h10 <| .k (Lg s hi) <| .k (Iy (Bz (ofNat i) 1)) <| .k (ap2 hF hi (toN (s.X i).th) (m:=2) (k:=2) (by decide) (by decide)) <| .k (ap3 hF hi (toN (s.X i).th) (m:=2) (k:=2) (l:=1) (by decide) (by decide) (by decide)) <| .k (C0 hF hi) <| .k (BH hF hi) <| .e (lf9 hF hi (lab:=(wr .i64 (Ai (ofNat (lbN s i)) 1))) [[bnI s i (BK [76,67] (Df (ofNat (lbN s i)))),lbI (BK [76,67] (Df (ofNat (lbN s i))))],[xr5 s i,or5 s i],[swI (at9 s i)]] (by unfold Ds tl9; rw [h1,h2,h5,h6,h9,h10]; rfl) (Aau hF hi h1 h2 h5))) λh10=>.k h10 <| .k (ap2 hF hi (toN (s.X i).th) (m:=2) (k:=1) (by decide) (by decide)) <| .k (ap3 hF hi (toN (s.X i).th) (m:=2) (k:=1) (l:=1) (by decide) (by decide) (by decide)) <| .k (C0 hF hi) <| .k (BH hF hi) <| .e (lf9 hF hi (lab:=(wr .i64 (Ai (ofNat (lbN s i)) 1))) [[bnI s i (BK [76,67] (Df (ofNat (lbN s i)))),lbI (BK [76,67] (Df (ofNat (lbN s i))))],[or0 s i],[swI (at9 s i)]] (by unfold Ds tl9; rw [h1,h2,h5,h6,h9,h10]; rfl) (Aau hF hi h1 h2 h5))) λh5=>.k h5 <| .c (λh11=>.k h11 <| .k eT <| .k (ap1 hF hi (toN (s.X i).th) (m:=2) (by decide)) <| .c (λh12=>.k h12 <| .k (Lg s hi) <| .k (Ls hF hi) <| .k (ap2 hF hi (toN (s.X i).th) (m:=2) (k:=1) (by decide) (by decide)) <| .k (C0 hF hi) <| .k (BH hF hi) <| .e (lf9 hF hi (lab:=(ofNat (lbN s i))) [[xr6 s i,ad6 s i],[lwI s i 6]] (by unfold Ds tl9; rw [h1,h2,h5,h11,h12]; rfl) (Rf h1 h2 h5))) λh12=>.k h12 <| .c (λh13=>.k h13 <| .k (Lg s hi) <| .k (Iy (Bz (ofNat i) 1)) <| .k (ap2 hF hi (toN (s.X i).th) (m:=2) (k:=2) (by decide) (by decide)) <| .k (ap3 hF hi (toN (s.X i).th) (m:=2) (k:=2) (l:=1) (by decide) (by decide) (by decide)) <| .k (C0 hF hi) <| .k (BH hF hi) <| .e (lf9 hF hi (lab:=(ofNat (lbN s i))) [[xr6 s i,ad6 s i],[xr5 s i,or5 s i],[swI 6]] (by unfold Ds tl9; rw [h1,h2,h5,h11,h12,h13]; rfl) (Rf h1 h2 h5))) λh13=>.k h13 <| .k (ap2 hF hi (toN (s.X i).th) (m:=2) (k:=1) (by decide) (by decide)) <| .k (ap3 hF hi (toN (s.X i).th) (m:=2) (k:=1) (l:=1) (by decide) (by decide) (by decide)) <| .k (C0 hF hi) <| .k (BH hF hi) <| .e (lf9 hF hi (lab:=(ofNat (lbN s i))) [[xr6 s i,ad6 s i],[or0 s i],[swI 6]] (by unfold Ds tl9; rw [h1,h2,h5,h11,h12,h13]; rfl) (Rf h1 h2 h5))) λh11=>.k h11 <| .c (λh14=>.k h14 <| .k (Lg s hi) <| .k (Ls hF hi) <| .k eT <| .k (ap1 hF hi (toN (s.X i).th) (m:=1) (by decide)) <| .k (C0 hF hi) <| .k (BH hF hi) <| .e (lf9 hF hi (lab:=(ofNat (lbN s i))) [[lwI s i (at9 s i)]] (by unfold Ds tl9; rw [h1,h2,h5,h11,h14]; rfl) (Rf h1 h2 h5))) λh14=>.k h14 <| .c (λh15=>.k h15 <| .k (Lg s hi) <| .k (Iy (Bz (ofNat i) 1)) <| .k eT <| .k (ap1 hF hi (toN (s.X i).th) (m:=2) (by decide)) <| .k (ap2 hF hi (toN (s.X i).th) (m:=2) (k:=1) (by decide) (by decide)) <| .k (C0 hF hi) <| .k (BH hF hi) <| .e (lf9 hF hi (lab:=(ofNat (lbN s i))) [[xr5 s i,or5 s i],[swI (at9 s i)]] (by unfold Ds tl9; rw [h1,h2,h5,h11,h14,h15]; rfl) (Rf h1 h2 h5))) λh15=>.k h15 <| .k eT <| .k (ap1 hF hi (toN (s.X i).th) (m:=1) (by decide)) <| .k (ap2 hF hi (toN (s.X i).th) (m:=1) (k:=1) (by decide) (by decide)) <| .k (C0 hF hi) <| .k (BH hF hi) <| .e (lf9 hF hi (lab:=(ofNat (lbN s i))) [[or0 s i],[swI (at9 s i)]] (by unfold Ds tl9; rw [h1,h2,h5,h11,h14,h15]; rfl) (Rf h1 h2 h5))) λh1=>.k h1 <| .k (Lg s hi) <| .k (Iy (Bz (ofNat i) 1)) <| .k (eG [0,toN s.tt,toN s.tt]) <| .k (eL (Bm (locL s s.nx (toN (s.X i).th)))) <| .k (VD hF (toN (s.X i).th)) <| .k (show ieq 0 5=false from rfl) <| .k (show ieq 0 8=false from rfl) <| .k (show ieq 0 6=false from rfl) <| .c (λh16=>.k h16 <| .k (Lg s hi) <| .k (Ls hF hi) <| .k eT <| .k (ap1 hF hi (toN (s.X i).th) (m:=1) (by decide)) <| .k (C0 hF hi) <| .k (BH hF hi) <| .e (lf9 hF hi (lab:=(ofNat (lbN s i))) [[lwI s i (at9 s i)]] (by unfold Ds tl9; rw [h1,h16]; rfl) (AiZ h1))) λh16=>.k h16 <| .k (show ieq 0 7=false from rfl) <| .k eT <| .k (ap1 hF hi (toN (s.X i).th) (m:=1) (by decide)) <| .k (ap2 hF hi (toN (s.X i).th) (m:=1) (k:=1) (by decide) (by decide)) <| .k (C0 hF hi) <| .k (BH hF hi) <| .e (lf9 hF hi (lab:=(ofNat (lbN s i))) [[or0 s i],[swI (at9 s i)]] (by unfold Ds tl9; rw [h1,h16]; rfl) (AiZ h1))) (by kernel_rfl) he) (λa j=>DK.ok (C:=.leaf (fn9 s)) (L:=exR) (.k (A1 (Nat.le_refl s.nx)) .l) (by kernel_rfl) rfl) (Nat.zero_add _).symm (by have:=(Bw hF).1; omega)
  (Cv (acc:=λ_=>()) (λi _=>by
   unfold g9;cases ilt 0 (s.X i).pl <;> cases ieq (s.X i).dir 1 <;> cases ieq (ed9 s i).kind 5 <;> cases ieq (ed9 s i).kind 8 <;> cases ieq (ed9 s i).kind 6 <;> cases ieq (ed9 s i).kind 7 <;> cases ieq (ofNat (Bq (Df (ofNat (lbN s i))))) 1 <;> rfl) _ _ (Nat.zero_add _))
end Go.Proofs.YtkbafjceglhjhaaGreatDoor.Er
namespace Go.Proofs.YtkbafjceglhjhaaGreatDoor.Er
open Go.Sy Go Go.Proofs.YtkbafjceglhjhaaGreatDoor.Ed Go.Proofs.YtkbafjceglhjhaaGreatDoor.Sh
open Int (ofNat)
set_option maxRecDepth 100000
set_option maxHeartbeats 1000000
theorem WL {k:FuncId} {fn:Func} (hf:Tryz.prog.funcs[k]? = some fn) (hb:fn.body.isSome=true) (hn:(fn.name == "runtime.NumGoroutine")=false) {Γ:Sh7->Cx} (hG:∀ s,(Γ s).glob=Gl) (hc:∀ s,Bu Tryz.prog (Γ s).base∧Cr (Γ s))
  {C:Sh7->A5} (h:∀ s v h',(C s).sem=some (v,h')->∃ h'',(A0 (Aj tab (Γ s) fn [EC s] [])).sem=some (v,h'')∧Am h'' h'):Ap Tryz.prog Gl k (shT C):=by
 refine Ah A2 mixed hf hb hn λvs v h' hv=>?_;unfold shT at hv;split at hv
 ·obtain ⟨s,a1,hv⟩:=apS_some hv
  obtain ⟨h'',h1,h2⟩:=h s v h' hv;exact ⟨[EC s],Γ s,h'',λS w cs hq=>by
   obtain ⟨c,l,rfl,q1,q2⟩:=hq;exact ⟨c,_,rfl,a1 S w c q1,q2⟩,hG s,(hc s).1,(hc s).2,h1,h2⟩
 ·cases hv
def zI:In8:=⟨0,0,0,0,0,[],[],0⟩
def Ah7 (l:List In8) (k:Nat):In8:=l.getD k zI
def WT (l:List In8):Nat->V:=λk=>i8V (Ah7 l k)
theorem Yx:∀ (l:List In8) (k:Nat),k<BI l->WT l k=EY l k
 | [],k,h=>absurd h (Nat.not_lt_zero _)
 | x::l,0,_=>rfl
 | x::l,k+1,h=>Yx l k (Nat.lt_of_succ_lt_succ h)
def jE:Blk:=.jag ⟨63,1,0,λ_=>.und,0,72,8,λ_=>true,λ_=>0,λ_ _=>.und,none⟩
def codJ (s:Sh7):Blk:=.jag ⟨63,1,toN s.tt,λ_=>.nilS,0,72,8,λ_=>true,λu=>BI (cdL s s.nx u),λu=>WT (cdL s s.nx u),none⟩
def codE (s:Sh7) (b:Blk):A5:=.br (Ct s.ne) (.br (Al (Aq s.ne) (Al (Aq s.nx) (Al (Aq s.nr) (Al (Aq s.nc) (AV s.nc (λi=>Aq (s.C i).1)))))) (.br (ieq (CQ s) 0) (.br (cdB s) (.leaf (.tup [.jref 0,iV 0],[b])) .fail) (.leaf (.tup [.jref 0,iV (CQ s)],[jE]))) .fail) .fail
def V9 (s:Sh7):A5:=codE s (codJ s)
theorem Ae5 {s:Sh7} (h:cdB s=true):plB s=true:=(Bool.and_eq_true_iff.1 h).1
def ls9:List (Nat×Lp×List (Nat×(Nat->V))):=[(0,lp9,[])]
theorem AhJ {s:Sh7} {v:V} {h':List Blk} (h:(V9 s).sem=some (v,h')):∃ h'',(codE s (AhK s)).sem=some (v,h'')∧Am h'' h':=by
 unfold V9 codE at *;obtain ⟨h1,h⟩:=Ac h;obtain ⟨h2,h⟩:=Ac h;rw [h1,h2];revert h;cases ieq (CQ s) 0 with
 | false=>intro h; exact ⟨h',h,Am.refl _⟩
 | true =>intro h;obtain ⟨h3,h⟩:=Ac h;rw [h3];have:=Ab h;simp only [Prod.mk.injEq] at this;obtain ⟨rfl,rfl⟩:=this;exact ⟨_,rfl,.consB (.jag (λ_ _=>.inl rfl) (λ_ _=>rfl) (λ_ _=>rfl) λk _ q hq=>Yx _ q hq) (Am.refl [])⟩
theorem p9:Ap Tryz.prog Gl 9 (shT V9):=WL Tryz.func9 (by kernel_rfl) (by kernel_rfl) (Γ:=λ_=>⟨c9,Go.Sy.askL ls9,Gl⟩) (λ_=>rfl) (λ_=>⟨AqN,Fp _ _ _⟩) λs v h' h=>by
 obtain ⟨h'',h1,h2⟩:=AhJ h;exact ⟨h'',DK.of h1 (.k (eL s.ne) <| .k (eL s.nx) <| .k (eL s.nr) <| .k (eL2 s.nc s.C) <| .g λh1=>.k h1 <| .g λh2=>.k h2 <| .c (λh3=>.g λhC=>.k (eN h3) <| .k (eL s.ne) <| .k (eL s.nx) <| .k (eL s.nr) <| .k (eL2 s.nc s.C) <| .k (Ae5 hC) <| .k (Acr (Ae5 hC) 24 (by decide)) <| .a (r9 (Go.Sy.askL ls9) hC (Ae5 hC)) <| .l) λh3=>.k (eN h3) <| .l) (by kernel_rfl),h2⟩
def rg9 (s:Sh7) (i:Nat):Int:=bif hsF s s.nx (toN (s.X i).th) (ofNat i) then rI9 s i else -1
def rgC (s:Sh7):A5:=.br (Ct s.ne) (.br (Al (Aq s.ne) (Al (Aq s.nx) (Al (Aq s.nr) (Al (Aq s.nc) (AV s.nc (λi=>Aq (s.C i).1)))))) (.br (ieq (CQ s) 0) (.br (plB s) (.leaf (.tup [.ref 0,iV 0],[.row 3 1 s.nx λk=>iV (rg9 s k)])) .fail) (.leaf (.tup [.ref 0,iV (CQ s)],[.row 3 1 0 λ_=>.und]))) .fail) .fail
noncomputable def AkE:A7:=(33,shT Qi)::(34,shT O1)::[]
theorem AfN:Ao Tryz.prog Gl AkE:=.cons p33 <| .cons p34 .nil
section
variable (s:Sh7)
def T11 (c:Int) (n:Nat) (g:Nat->V):St:=⟨jsV 45 0 Aa [(1,.ptr 0 0),(5,.jref 2),(6,.ref 3),(19,.sl 5 s.nx (λi=>evV (s.X i))),(20,iV (ofNat s.nx)),(21,iV c)],[.cells [iV s.arch,.sl 6 s.ne (λi=>eV (s.E i)),.sl 5 s.nx (λi=>evV (s.X i)),iV s.tt,iV s.kk,.sl 1 s.nr (λi=>iV (s.R i)),.sl 1 s.nc (λu=>.sl 1 (s.C u).1 (λi=>iV ((s.C u).2 i)))],.row 3 1 0 Aa,JY s,.row 3 1 n g]⟩
def S11 (c:Int) (_:Unit):St:=T11 s c (toN c) (λk=>iV (rg9 s k))
def AhE:Ex×St:=(.ex 0,⟨jsV 45 0 Aa [(6,.ref 3)],[.cells [iV s.arch,.sl 6 s.ne (λi=>eV (s.E i)),.sl 5 s.nx (λi=>evV (s.X i)),iV s.tt,iV s.kk,.sl 1 s.nr (λi=>iV (s.R i)),.sl 1 s.nc (λu=>.sl 1 (s.C u).1 (λi=>iV ((s.C u).2 i)))],.row 3 1 0 Aa,JY s,.row 3 1 s.nx (λk=>iV (rg9 s k))]⟩)
def g11 (i:Nat) (_:Unit):T (Unit ⊕ (Ex×St)):=.br (hsF s s.nx (toN (s.X i).th) (ofNat i)) (.leaf (.inl ())) (.leaf (.inl ()))
end
theorem Sp (g:Nat->V) (n:Nat) (x:V) (h:x=g n):AD n g x=g:=by
 funext k;rw [Br];cases hk:Nat.beq k n with
 | true=>rw [Nat.eq_of_beq_eq_true hk,h]; rfl
 | false=>rfl
section
variable {s:Sh7} (hF:plB s=true) {i:Nat} (hi:i<s.nx)
include hF hi
theorem ApY {x:Int} (h:x=rg9 s i):(Ex.nm,T11 s (wr .i64 (Ai (ofNat i) 1)) (AE i 1) (AD i (λk=>iV (rg9 s k)) (iV x)))=(Ex.nm,S11 s (wr .i64 (Ai (ofNat i) 1)) ()):=by
 unfold S11;rw [MZ hF hi,Sp _ _ _ (by rw [h])];rfl
theorem AhW:Bs i 1 8=true:=decide_eq_true (by
 have:=(Bw hF).1;omega)
end
def ApT:Lp:=⟨bmK 45 0 [1,5,6,19,20,21],4,bmK 45 0 [6],4,4611686018427387905⟩
noncomputable def B11 (id:Nat) (L:LT):St->T (Ex×St):=λst=>AA tab ⟨Aw AkE,L,Gl⟩ (As Tryz.f11 id) id st
theorem r11 (L:LT) {s:Sh7} (hF:plB s=true):(Av (B11 0 L) ApT 4611686018427387905 (S11 s 0 ())).sem=some (AhE s) :=
 AZ (R:=exR) BF (S:=λc a _=>S11 s c a) (j:=λ_=>.und) (g:=g11 s) (fin:=λ_=>AhE s) (e:=AhE s) (n:=s.nx) (by have:=(Bw hF).1; omega)
  (λi a j r hi he=>DK.ok (L:=goR (λc a _=>S11 s c a) exR i) (.k (ofNat_lt hi) <| .k (Ad hi) <| .k (C0 hF hi) <| .k (BH hF hi) <| .k eT <| .k (Lg s hi) <| .k (Ls hF hi) <|
   .c (λh1=>.k (eN h1) <| .k (AhW hF hi) <| .e (ApY hF hi (x:=rI9 s i) (by unfold rg9; rw [h1]; rfl))) λh1=>.k (eN h1) <| .k (AhW hF hi) <| .e (ApY hF hi (x:=-1) (by unfold rg9; rw [h1]; rfl))) (by kernel_rfl) he)
  (λa j=>DK.ok (C:=.leaf (AhE s)) (L:=exR) (.k (A1 (Nat.le_refl s.nx)) .l) (by kernel_rfl) rfl) (Nat.zero_add _).symm (by have:=(Bw hF).1; omega)
  (Cv (acc:=λ_=>()) (λi _=>by
   unfold g11;cases hsF s s.nx (toN (s.X i).th) (ofNat i) <;> rfl) _ _ (Nat.zero_add _))
def Ame (s:Sh7):List (Nat×Lp×List (Nat×(Nat->V))):=[(0,ApT,[(3,λk=>iV (rg9 s k))])]
theorem p11:Ap Tryz.prog Gl 11 (shT rgC):=KY Tryz.func11 (by kernel_rfl) (by kernel_rfl) (Γ:=λs=>cxA Gl AkE (Ame s)) (λ_=>rfl) (λs=>AS AfN (Ame s))
 λs r h=>DK.of h (.k (eL s.ne) <| .k (eL s.nx) <| .k (eL s.nr) <| .k (eL2 s.nc s.C) <| .g λh1=>.k h1 <| .g λh2=>.k h2 <| .c (λh3=>.g λhF=>.k (eN h3) <| .k (eL s.ne) <| .k (eL s.nx) <| .k (eL s.nr) <| .k (eL2 s.nc s.C) <| .k hF <| .a (r11 (Go.Sy.askL (Ame s)) hF) <| .l) λh3=>.k (eN h3) <| .l) (by kernel_rfl)
def Acw:List V->A5
 | []=>.leaf (bV true,[])
 | _=>.fail
def rcC (s:Sh7):A5:=.br (Ct s.ne) (.br (Al (Aq s.ne) (Al (Aq s.nx) (Al (Aq s.nr) (Al (Aq s.nc) (AV s.nc (λi=>Aq (s.C i).1)))))) (.br (ieq (CQ s) 0) .fail (.leaf (.tup [.jref 0,iV (CQ s)],[jE]))) .fail) .fail
noncomputable def tb10:A7:=(36,shT Qi)::[]
theorem tb10_ok:Ao Tryz.prog Gl tb10:=.cons p36 .nil
theorem p10:Ap Tryz.prog Gl 10 (shT rcC):=KY Tryz.func10 (by kernel_rfl) (by kernel_rfl) (Γ:=λ_=>cxA Gl tb10 []) (λ_=>rfl) (λ_=>AS tb10_ok [])
 λs r h=>DK.of h (.k (eL s.ne) <| .k (eL s.nx) <| .k (eL s.nr) <| .k (eL2 s.nc s.C) <| .g λh1=>.k h1 <| .g λh2=>.k h2 <| .c (λ_=>.f) λh3=>.k (eN h3) <| .l) (by kernel_rfl)
end Go.Proofs.YtkbafjceglhjhaaGreatDoor.Er
