/-
  Layer 12: a shape's code (emitr.Code). No conditions.
-/
import Derived.Test.YtkbafjceglhjhaaGreatDoorErB
namespace Go.Proofs.YtkbafjceglhjhaaGreatDoor.Er
open Go.Sy Go Go.Proofs.YtkbafjceglhjhaaGreatDoor.Ed Go.Proofs.YtkbafjceglhjhaaGreatDoor.Sh
open Int (ofNat)
set_option maxRecDepth 100000
set_option maxHeartbeats 1000000
def dg1:List UInt8:=[48,49,50,51,52,53,54,55,56,57,97,98,99,100,101,102,103,104,105,106,107,108,109,110,111,112,113,114,115,116,117,118,119,120,121,122]
def dg2:List UInt8:=[48,48,48,49,48,50,48,51,48,52,48,53,48,54,48,55,48,56,48,57,49,48,49,49,49,50,49,51,49,52,49,53,49,54,49,55,49,56,49,57,50,48,50,49,50,50,50,51,50,52,50,53,50,54,50,55,50,56,50,57,51,48,51,49,51,50,51,51,51,52,51,53,51,54,51,55,51,56,51,57,52,48,52,49,52,50,52,51,52,52,52,53,52,54,52,55,52,56,52,57,53,48,53,49,53,50,53,51,53,52,53,53,53,54,53,55,53,56,53,57,54,48,54,49,54,50,54,51,54,52,54,53,54,54,54,55,54,56,54,57,55,48,55,49,55,50,55,51,55,52,55,53,55,54,55,55,55,56,55,57,56,48,56,49,56,50,56,51,56,52,56,53,56,54,56,55,56,56,56,57,57,48,57,49,57,50,57,51,57,52,57,53,57,54,57,55,57,56,57,57]
def D4 (y:Int):List UInt8:=bif ilt y 10 then G0 (toN y) (Gw (toN (wr .i64 (Ai y 1))) dg1) else G0 (toN (wr .i64 (Ph y 2))) (Gw (toN (wr .i64 (Ai (wr .i64 (Ph y 2)) 2))) dg2)
def Xh (y:Int):AA:=.br (Ak (ile 0 y) (ilt y 100)) (.leaf (.str (D4 y),[])) .fail
def Tl:List V->AA
 | [.val (.int .i64 y)]=>Xh y
 | _=>.fail
def Ad9:List V->AA
 | [.val (.int .i64 y),.val (.int .i64 10)]=>Xh y
 | _=>.fail
theorem Tk (y:Int):(D4 y).length <= 200:=by
 unfold D4 G0 Gw;cases ilt y 10 <;> simp [dg1,dg2] <;> omega
theorem Ad7 (y:Int):(E3 [48] (D4 y)).length <= 201:=by
 have:=Tk y;unfold E3;simp;omega
theorem VQ {a b:List UInt8} (ha:a.length <= 100) {n:Nat} (hb:b.length <= n) (hn:n <= 1000:=by decide):MZ a b=true:=decide_eq_true (by omega)
theorem Ad8 {y:Int} (h:Ak (ile 0 y) (ilt y 100)=true):(ilt y 10=true->Ak (ile 0 y) (Ak (ile y (wr .i64 (Ai y 1))) (ile (wr .i64 (Ai y 1)) (ofNat (Cl dg1))))=true) ∧
  Ak (ile 0 (wr .i64 (Ph y 2))) (Ak (ile (wr .i64 (Ph y 2)) (wr .i64 (Ai (wr .i64 (Ph y 2)) 2))) (ile (wr .i64 (Ai (wr .i64 (Ph y 2)) 2)) (ofNat (Cl dg2))))=true:=by
 simp only [Ak,ile,ilt,Bool.and_eq_true,decide_eq_true_eq] at h ⊢;obtain ⟨h1,h2⟩:=h;have e1:wr .i64 (Ph y 2)=y * 2:=by
  unfold wr Ph IntKind.wrap;simp [IntKind.bits,IntKind.signed];omega
 have e2:wr .i64 (Ai (y * 2) 2)=y * 2+2:=by
  unfold wr Ai IntKind.wrap;simp [IntKind.bits,IntKind.signed];omega
 have e3:wr .i64 (Ai y 1)=y+1:=by
  unfold wr Ai IntKind.wrap;simp [IntKind.bits,IntKind.signed];omega
 have s1:ofNat (Cl dg1)=36:=rfl;have s2:ofNat (Cl dg2)=200:=rfl;rw [e1,e2,e3,s1,s2];omega
def ApB (y:Int):AA:=.br (Ak (ile 0 y) (ilt y 100)) (.br (ilt y 10) (.leaf (.str (D4 y),[])) (.leaf (.str (D4 y),[]))) .fail
theorem Ahp {y:Int} {r:V×List Blk} (h:(Xh y).sem=some r):(ApB y).sem=some r:=by
 unfold ApB;unfold Xh at h;revert h;cases Ak (ile 0 y) (ilt y 100) with
 | false=>exact id
 | true =>intro h;rw [<- h];cases ilt y 10 <;> rfl
theorem Aqm:As Tryz.prog Gl 197 Tl:=by
 refine Am A0 mixed Tryz.func197 (by kernel_rfl) (by kernel_rfl) λvs v h' h=>?_;unfold Tl at h;split at h
 ·rename_i y
  have hx:=Bd C5 [] (G:=Gl);exact ⟨_,cxA Gl tb0 [],_,Bw.refl _,rfl,hx.1,hx.2,DK.of (Ahp h) (.g λh0=>.c (λhy=>.k hy <| .k ((Ad8 h0).1 hy) <| .e (congrArg (λl=>(V.str l,([]:List Blk))) (show G0 (toN y) (Gw (toN (wr .i64 (Ai y 1))) dg1)=D4 y from by unfold D4; rw [hy]; rfl)))
   λhy=>.k hy <| .k (Ad8 h0).2 <| .e (congrArg (λl=>(V.str l,([]:List Blk))) (show G0 (toN (wr .i64 (Ph y 2))) (Gw (toN (wr .i64 (Ai (wr .i64 (Ph y 2)) 2))) dg2)=D4 y from by unfold D4; rw [hy]; rfl))) (by kernel_rfl),Aw.refl _⟩
 ·cases h
noncomputable def Ahz:AE:=(197,Tl)::[]
theorem AaO:Ar Tryz.prog Gl Ahz:=.cons Aqm .nil
theorem Aqn:As Tryz.prog Gl 194 Ad9:=by
 refine Am A0 mixed Tryz.func194 (by kernel_rfl) (by kernel_rfl) λvs v h' h=>?_;unfold Ad9 at h;split at h
 ·rename_i y
  have hx:=Bd AaO [] (G:=Gl);exact ⟨_,cxA Gl Ahz [],_,Bw.refl _,rfl,hx.1,hx.2,DK.of (C:=Xh y) h (.g λh0=>.k (show ieq 10 10=true from rfl) <| .r 3 (show ile 0 y=true from (Bool.and_eq_true_iff.1 h0).1) <| .k (show ilt y 100=true from (Bool.and_eq_true_iff.1 h0).2) <| .k h0 <| .l) (by kernel_rfl),Aw.refl _⟩
 ·cases h
noncomputable def Ah0:AE:=(194,Ad9)::[]
theorem AaP:Ar Tryz.prog Gl Ah0:=.cons Aqn .nil
theorem Aqo:As Tryz.prog Gl 179 Tl:=by
 refine Am A0 mixed Tryz.func179 (by kernel_rfl) (by kernel_rfl) λvs v h' h=>?_;unfold Tl at h;split at h
 ·rename_i y
  have hx:=Bd AaP [] (G:=Gl);exact ⟨_,cxA Gl Ah0 [],_,Bw.refl _,rfl,hx.1,hx.2,DK.of (C:=Xh y) h (.g λh0=>.k h0 <| .l) (by kernel_rfl),Aw.refl _⟩
 ·cases h
noncomputable def Ah1:AE:=(179,Tl)::[]
theorem AaQ:Ar Tryz.prog Gl Ah1:=.cons Aqo .nil
theorem Aqp:As Tryz.prog Gl 147 Tl:=by
 refine Am A0 mixed Tryz.func147 (by kernel_rfl) (by kernel_rfl) λvs v h' h=>?_;unfold Tl at h;split at h
 ·rename_i y
  have hx:=Bd AaQ [] (G:=Gl);exact ⟨_,cxA Gl Ah1 [],_,Bw.refl _,rfl,hx.1,hx.2,DK.of (C:=Xh y) h (.g λh0=>.k h0 <| .l) (by kernel_rfl),Aw.refl _⟩
 ·cases h
structure In8 where
 op:Int
 d:Int
 a:Int
 b:Int
 imm:Int
 loc:List UInt8
 lab:List UInt8
 fc:Int
def i8V (e:In8):V:=.agg [iV e.op,iV e.d,iV e.a,iV e.b,iV e.imm,.str e.loc,.str e.lab,iV e.fc]
def Cr (l:List In8):Nat:=l.length
def M1 (l:List In8):Nat->V:=λk=>nth (l.map i8V) k
theorem XU:∀ (l m:List V) (k:Nat),nth (l++m) k=bif Nat.blt k l.length then nth l k else nth m (k-l.length)
 | [],m,k=>rfl
 | v::l,m,0=>rfl
 | v::l,m,k+1=>by
  show nth (l++m) k=_;rw [XU l m k,show (k+1)-(v::l).length=k-l.length from by simp];rfl
theorem W1 (v:V) (k:Nat):nth [v] k=bif Nat.beq k 0 then v else .und:=by
 cases k <;> rfl
theorem AoJ (l xs:List In8) (h:0<xs.length) (h2:xs.length <= 16):CO (Cr l) xs.length (M1 l) (FQ xs.length (xs.map i8V))=M1 (l++xs):=by
 have hl:FQ xs.length (xs.map i8V)=λi=>nth (xs.map i8V) i:=by
  unfold FQ;have:SB xs.length (xs.map i8V)=false:=by
   unfold SB;cases xs with
   | nil=>cases h
   | cons x xs =>
    rw [show Nat.blt 16 (x::xs).length=false from by
     cases hb:Nat.blt 16 (x::xs).length with
     | false=>rfl
     | true=>have:=Nat.le_of_ble_eq_true hb; omega]
    cases Nat.blt 1 (x::xs).length <;> rfl
  rw [this]
 rw [hl];funext k;unfold M1;rw [List.map_append,XU,List.length_map];cases xs with
 | nil=>cases h
 | cons x t =>
 cases t with
 | nil =>
  show AX l.length (λk=>nth (l.map i8V) k) (i8V x) k=_;rw [BK];show (bif Nat.beq k l.length then i8V x else nth (l.map i8V) k)=bif Nat.blt k l.length then nth (l.map i8V) k else nth [i8V x] (k-l.length);rw [W1];cases hk:Nat.beq k l.length with
  | true =>
   have:=Nat.eq_of_beq_eq_true hk;subst this;rw [show Nat.blt l.length l.length=false from by
    cases hb:Nat.blt l.length l.length with
    | false=>rfl
    | true=>have:=Nat.le_of_ble_eq_true hb; omega,Nat.sub_self]
   rfl
  | false =>
   have:=Nat.ne_of_beq_eq_false hk;cases hb:Nat.blt k l.length with
   | true=>rfl
   | false =>
    have hge:l.length <= k:=Nat.le_of_not_lt λhc=>by rw [show Nat.blt k l.length=true from Nat.ble_eq_true_of_le hc] at hb; cases hb
    have hz:Nat.beq (k-l.length) 0=false:=by
     cases hq:Nat.beq (k-l.length) 0 with
     | false=>rfl
     | true=>have:=Nat.eq_of_beq_eq_true hq; omega
    rw [hz];show nth (l.map i8V) k=V.und;have:∀ (l:List V) (k:Nat),l.length <= k->nth l k = .und:=λl=>by
     induction l with
     | nil=>intro k _; rfl
     | cons v l ih =>
      intro k hk;cases k with
      | zero=>simp at hk
      | succ k=>exact ih k (by simpa using hk)
    exact this _ _ (by simpa using hge)
 | cons y t =>show PW l.length (λk=>nth (l.map i8V) k) (λk=>nth ((x::y::t).map i8V) k) k=_;rw [JS]
def gF:Nat×(Nat->V)->List (List In8)->Nat×(Nat->V)
 | p,[]=>p
 | p,xs::l=>gF (BC p.1 xs.length,CO p.1 xs.length p.2 (FQ xs.length (xs.map i8V))) l
theorem Ait:∀ (xss:List (List In8)) (l:List In8),(∀ xs,xs ∈ xss->0<xs.length∧xs.length <= 16)->gF (Cr l,M1 l) xss=(Cr (l++xss.flatten),M1 (l++xss.flatten))
 | [],l,_=>by simp [gF]
 | xs::xss,l,h=>by
  have h0:=h xs (by simp);show gF (BC (Cr l) xs.length,CO (Cr l) xs.length (M1 l) (FQ xs.length (xs.map i8V))) xss=_;rw [AoJ l xs h0.1 h0.2,show BC (Cr l) xs.length=Cr (l++xs) from by unfold BC Cr; simp,Ait xss (l++xs) λy hy=>h y (by simp [hy])];simp
section
variable (s:Sh7) (i:Nat)
def ed9:E6:=s.E (toN (wr .i64 (By (ofNat i) 1)))
def at9:Int:=Iz (B5 (locL s s.nx (toN (s.X i).th))) (Ew (locL s s.nx (toN (s.X i).th))) (s.X i).loc
def rP9:Int:=gtF s s.nx (toN (s.X i).th) (wr .i64 (By (ofNat i) 1))
def rI9:Int:=gtF s s.nx (toN (s.X i).th) (ofNat i)
def fcI:In8:=⟨13,0,0,0,0,[],[],(ed9 s i).fence⟩
def lwI (a:Int):In8:=⟨6,rI9 s i,a,0,0,[],[],0⟩
def xr5:In8:=⟨9,5,rP9 s i,rP9 s i,0,[],[],0⟩
def or5:In8:=⟨8,5,5,0,(s.X i).val,[],[],0⟩
def or0:In8:=⟨8,5,0,0,(s.X i).val,[],[],0⟩
def swI (a:Int):In8:=⟨7,0,a,5,0,[],[],0⟩
def bnI (t:List UInt8):In8:=⟨11,0,rP9 s i,0,0,[],t,0⟩
def lbI (t:List UInt8):In8:=⟨12,0,0,0,0,[],t,0⟩
def xr6:In8:=⟨9,6,rP9 s i,rP9 s i,0,[],[],0⟩
def ad6:In8:=⟨10,6,6,at9 s i,0,[],[],0⟩
def tl9 (a:Int):List (List In8):=bif ieq (s.X i).dir 1 then [[lwI s i a]] else bif ieq (ed9 s i).kind 7 then [[xr5 s i,or5 s i],[swI a]] else [[or0 s i],[swI a]]
def lbN:Nat->Nat
 | 0=>0
 | i+1=>bif ilt 0 (s.X i).pl then (bif ieq (ed9 s i).kind 5 then lbN i else bif ieq (ed9 s i).kind 8 then lbN i+1 else lbN i) else lbN i
def Es:List (List In8) :=
 bif ilt 0 (s.X i).pl then
  (bif ieq (ed9 s i).kind 5 then [fcI s i]::tl9 s i (at9 s i)
  else bif ieq (ed9 s i).kind 8 then
   (bif ieq (ofNat (Cl (D4 (ofNat (lbN s i))))) 1 then [bnI s i (E3 [76,67] (E3 [48] (D4 (ofNat (lbN s i))))),lbI (E3 [76,67] (E3 [48] (D4 (ofNat (lbN s i)))))]::tl9 s i (at9 s i)
   else [bnI s i (E3 [76,67] (D4 (ofNat (lbN s i)))),lbI (E3 [76,67] (D4 (ofNat (lbN s i))))]::tl9 s i (at9 s i))
  else bif ieq (ed9 s i).kind 6 then [xr6 s i,ad6 s i]::tl9 s i 6
  else tl9 s i (at9 s i))
 else bif ieq (s.X i).dir 1 then [[lwI s i (at9 s i)]] else [[or0 s i],[swI (at9 s i)]]
def cdL:Nat->Nat->List In8
 | 0,_=>[]
 | i+1,u=>bif Nat.beq u (toN (s.X i).th) then cdL i u++(Es s i).flatten else cdL i u
theorem Afd (P:List (List In8)->Prop) (h1:∀ a,P [[lwI s i a]]) (h2:∀ a,P [[xr5 s i,or5 s i],[swI a]]) (h3:∀ a,P [[or0 s i],[swI a]])
  (hp:∀ xs l,P l->xs=[fcI s i] ∨ (∃ t,xs=[bnI s i t,lbI t]) ∨ xs=[xr6 s i,ad6 s i]->P (xs::l)):P (Es s i):=by
 have ht:∀ a,P (tl9 s i a):=λa=>by
  unfold tl9;cases ieq (s.X i).dir 1
  ·cases ieq (ed9 s i).kind 7
   ·exact h3 a
   ·exact h2 a
  ·exact h1 a
 unfold Es;cases ilt 0 (s.X i).pl
 ·cases ieq (s.X i).dir 1
  ·exact h3 _
  ·exact h1 _
 ·cases ieq (ed9 s i).kind 5
  ·cases ieq (ed9 s i).kind 8
   ·cases ieq (ed9 s i).kind 6
    ·exact ht _
    ·exact hp _ _ (ht _) (.inr (.inr rfl))
   ·cases ieq (ofNat (Cl (D4 (ofNat (lbN s i))))) 1
    ·exact hp _ _ (ht _) (.inr (.inl ⟨_,rfl⟩))
    ·exact hp _ _ (ht _) (.inr (.inl ⟨_,rfl⟩))
  ·exact hp _ _ (ht _) (.inl rfl)
theorem Afb:∀ xs,xs ∈ Es s i->0<xs.length∧xs.length <= 16:=Afd s i (λl=>∀ xs,xs ∈ l->0<xs.length∧xs.length <= 16) (λa xs h=>by simp at h; subst h; simp) (λa xs h=>by simp at h; rcases h with rfl | rfl <;> simp) (λa xs h=>by simp at h; rcases h with rfl | rfl <;> simp)
 λxs l h hx y hy=>by
  rcases List.mem_cons.1 hy with rfl | hy
  ·rcases hx with rfl | ⟨t,rfl⟩ | rfl <;> simp
  ·exact h y hy
theorem Afc:(Es s i).flatten.length <= 5:=by
 unfold Es tl9;cases ilt 0 (s.X i).pl <;> cases ieq (s.X i).dir 1 <;> cases ieq (ed9 s i).kind 5 <;> cases ieq (ed9 s i).kind 8 <;> cases ieq (ed9 s i).kind 6 <;> cases ieq (ed9 s i).kind 7 <;> cases ieq (ofNat (Cl (D4 (ofNat (lbN s i))))) 1 <;> exact Nat.le_of_ble_eq_true rfl
theorem MK (u:Nat):∀ i,Cr (cdL s i u) <= 5 * i
 | 0=>Nat.le_refl _
 | i+1=>by
  have h1:=MK u i;have h2:=Afc s i;rw [cdL];unfold Cr at h1 ⊢;cases Nat.beq u (toN (s.X i).th) with
  | true=>simp only [cond_true,List.length_append]; omega
  | false=>simp only [cond_false]; omega
theorem UB:∀ i,lbN s i <= i
 | 0=>Nat.le_refl _
 | i+1=>by
  have:=UB i;rw [lbN];cases ilt 0 (s.X i).pl
  ·simp only [cond_false]; omega
  ·cases ieq (ed9 s i).kind 5
   ·cases ieq (ed9 s i).kind 8 <;> simp only [cond_true,cond_false] <;> omega
   ·simp only [cond_true]; omega
def Apt:Blk:=.jag ⟨63,1,toN s.tt,λ_=>.nilS,0,72,8,λ_=>true,λu=>Cr (cdL s s.nx u),λu=>M1 (cdL s s.nx u),none⟩
def cdB:Bool:=plB s && Bo s.nx λi=>bor (AV (ilt 0 (s.X i).pl)) (Ak (Nat.blt 0 i) (Nat.ble i s.ne))
theorem Ln {i m:Nat} (h:i<m):lvF s m (toN (s.X i).th)=true:=by
 induction m with
 | zero=>cases h
 | succ m ih =>
  rw [lvF];by_cases e:i=m
  ·subst e
   rw [show isT s (toN (s.X i).th) i=true from Nat.beq_refl _,bTO]
  ·rw [ih (by omega),Bool.or_true]
end
section
variable {s:Sh7} (hF:plB s=true) {i:Nat} (hi:i<s.nx)
theorem AqW (hC:cdB s=true) (hi:i<s.nx) (h1:ilt 0 (s.X i).pl=true):Ak (ile 0 (wr .i64 (By (ofNat i) 1))) (ilt (wr .i64 (By (ofNat i) 1)) (ofNat s.ne))=true:=by
 unfold cdB at hC;rw [Bool.and_eq_true] at hC;have h16:=(BO hC.1).1;have:=AO.1 hC.2 i hi;rw [h1] at this;have this:Ak (Nat.blt 0 i) (Nat.ble i s.ne)=true:=this;unfold Ak at this;rw [Bool.and_eq_true] at this;have a1:=Nat.le_of_ble_eq_true this.1;have a2:=Nat.le_of_ble_eq_true this.2;obtain ⟨k,rfl⟩:∃ k,i=k+1:=⟨i-1,by omega⟩;have e:wr .i64 (By (ofNat (k+1)) 1)=ofNat k:=by
  rw [show By (ofNat (k+1)) 1=ofNat k from by unfold By; simp];exact IB (by omega)
 rw [e];exact Ae (by omega)
include hF
theorem Vy (u:Nat):Au (B5 (locL s s.nx u))=true:=decide_eq_true (by
 have:=GV (s:=s) u s.nx;have:=(BO hF).1;omega)
include hi
theorem ap1 (u:Nat) {m:Nat} (hm:m <= 2):C4 (Cr (cdL s i u)) m 80=true:=decide_eq_true (by
 have:=MK s u i;have:=(BO hF).1;omega)
theorem ap2 (u:Nat) {m k:Nat} (hm:m <= 2) (hk:k <= 2):C4 (BC (Cr (cdL s i u)) m) k 80=true:=decide_eq_true (by
 have:=MK s u i;have:=(BO hF).1;unfold BC;omega)
theorem ap3 (u:Nat) {m k l:Nat} (hm:m <= 2) (hk:k <= 2) (hl:l <= 2):C4 (BC (BC (Cr (cdL s i u)) m) k) l 80=true:=decide_eq_true (by
 have:=MK s u i;have:=(BO hF).1;unfold BC;omega)
theorem Ao5:Ak (ile 0 (ofNat (lbN s i))) (ilt (ofNat (lbN s i)) 100)=true:=by
 have:=UB s i;have:=(BO hF).1;simp [Ak,ile,ilt];omega
theorem ZP (h1:ilt 0 (s.X i).pl=true) (h2:ieq (ed9 s i).kind 5=false) (h5:ieq (ed9 s i).kind 8=true):wr .i64 (Ai (ofNat (lbN s i)) 1)=ofNat (lbN s (i+1)):=by
 have:=UB s i;have:=(BO hF).1;rw [CU (n:=100) (by omega) (by decide),lbN,h1,h2,h5];rfl
omit hF hi
theorem AcD (h1:ilt 0 (s.X i).pl=true) (h2:ieq (ed9 s i).kind 5=true):(ofNat (lbN s i))=ofNat (lbN s (i+1)):=by rw [lbN,h1,h2]; rfl
theorem Rb (h1:ilt 0 (s.X i).pl=true) (h2:ieq (ed9 s i).kind 5=false) (h5:ieq (ed9 s i).kind 8=false):(ofNat (lbN s i))=ofNat (lbN s (i+1)):=by rw [lbN,h1,h2,h5]; rfl
theorem Aie (h1:ilt 0 (s.X i).pl=false):(ofNat (lbN s i))=ofNat (lbN s (i+1)):=by rw [lbN,h1]; rfl
variable (s)
def T9 (c:Int) (lv:Nat->Bool) (ln:Nat->Nat) (mm:Nat->Nat->V) (lab:Int):St:=⟨jsV 69 0 Ab [(1,.ptr 0 0),(5,.jref 2),(6,.jref 3),(7,.ptr 4 0),(23,.sl 5 s.nx (λi=>evV (s.X i))),(24,iV (ofNat s.nx)),(25,iV c)],[.cells [iV s.arch,.sl 6 s.ne (λi=>eV (s.E i)),.sl 5 s.nx (λi=>evV (s.X i)),iV s.tt,iV s.kk,.sl 1 s.nr (λi=>iV (s.R i)),.sl 1 s.nc (λu=>.sl 1 (s.C u).1 (λi=>iV ((s.C u).2 i)))],.jag ⟨63,1,0,λ_=>.und,0,72,8,λ_=>true,λ_=>0,λ_ _=>.und,none⟩,Kg s,.jag ⟨63,1,toN s.tt,λ_=>.nilS,0,72,8,lv,ln,mm,none⟩,.cells [iV lab]]⟩
def S9 (c:Int) (_:Unit):St:=T9 s c (λ_=>true) (λu=>Cr (cdL s (toN c) u)) (λu=>M1 (cdL s (toN c) u)) (ofNat (lbN s (toN c)))
def fn9:Ex×St:=(.ex 0,⟨jsV 69 0 Ab [(6,.jref 3)],[.cells [iV s.arch,.sl 6 s.ne (λi=>eV (s.E i)),.sl 5 s.nx (λi=>evV (s.X i)),iV s.tt,iV s.kk,.sl 1 s.nr (λi=>iV (s.R i)),.sl 1 s.nc (λu=>.sl 1 (s.C u).1 (λi=>iV ((s.C u).2 i)))],.jag ⟨63,1,0,λ_=>.und,0,72,8,λ_=>true,λ_=>0,λ_ _=>.und,none⟩,Kg s,Apt s]⟩)
def g9 (i:Nat) (_:Unit):T (Unit ⊕ (Ex×St)):=.br (ilt 0 (s.X i).pl) (.br (ieq (ed9 s i).kind 5) (.br (ieq (s.X i).dir 1) (.leaf (.inl ())) (.br (ieq (ed9 s i).kind 7) (.leaf (.inl ())) (.leaf (.inl ())))) (.br (ieq (ed9 s i).kind 8) (.br (ieq (ofNat (Cl (D4 (ofNat (lbN s i))))) 1) (.br (ieq (s.X i).dir 1) (.leaf (.inl ())) (.br (ieq (ed9 s i).kind 7) (.leaf (.inl ())) (.leaf (.inl ())))) (.br (ieq (s.X i).dir 1) (.leaf (.inl ())) (.br (ieq (ed9 s i).kind 7) (.leaf (.inl ())) (.leaf (.inl ()))))) (.br (ieq (ed9 s i).kind 6) (.br (ieq (s.X i).dir 1) (.leaf (.inl ())) (.br (ieq (ed9 s i).kind 7) (.leaf (.inl ())) (.leaf (.inl ())))) (.br (ieq (s.X i).dir 1) (.leaf (.inl ())) (.br (ieq (ed9 s i).kind 7) (.leaf (.inl ())) (.leaf (.inl ()))))))) (.br (ieq (s.X i).dir 1) (.leaf (.inl ())) (.leaf (.inl ())))
variable {s}
include hF hi
theorem lf9 {lab:Int} (xss:List (List In8)) (hx:Es s i=xss) (hl:lab=ofNat (lbN s (i+1))):(Ex.nm,T9 s (wr .i64 (Ai (ofNat i) 1)) (CX (CX (λ_=>true) (toN (s.X i).th) false) (toN (s.X i).th) true) (DJ (λu=>Cr (cdL s i u)) (toN (s.X i).th) (gF (Cr (cdL s i (toN (s.X i).th)),M1 (cdL s i (toN (s.X i).th))) xss).1) (Eo (λu=>M1 (cdL s i u)) (toN (s.X i).th) (gF (Cr (cdL s i (toN (s.X i).th)),M1 (cdL s i (toN (s.X i).th))) xss).2) lab)=(Ex.nm,S9 s (wr .i64 (Ai (ofNat i) 1)) ()):=by
 subst hx;have e:cdL s (i+1)=upL (cdL s i) (toN (s.X i).th) (cdL s i (toN (s.X i).th)++(Es s i).flatten):=by
  funext u;rw [cdL];unfold upL;cases hu:Nat.beq u (toN (s.X i).th) with
  | true=>rw [Nat.eq_of_beq_eq_true hu]
  | false=>rfl
 rw [Ait _ _ (Afb s i)];unfold S9;rw [Uv hF hi,show toN (ofNat (i+1))=i+1 from rfl,e,Uf,Abf Cr,Abg M1,hl]
end
noncomputable def tb9:AE:=(33,shT TL)::(34,shT O5)::(61,AgY)::(147,Tl)::[]
theorem On:Ar Tryz.prog Gl tb9:=.cons p33 <| .cons p34 <| .cons p61 <| .cons Aqp .nil
noncomputable def c9p:FuncId->List V->St->T (V×Res):=I7 [(63,F8 tab (cxA Gl tb9 []) Tryz.f63),(101,F8 tab (cxA Gl tb9 []) Tryz.f101)] (A2 tb9)
theorem AdS:Bi Tryz.prog ⟨c9p,Gl⟩:=EV mixed (.cons rfl A0 (Bd On []).1 (Bd On []).2 Tryz.func63 (by kernel_rfl) (by kernel_rfl) <| .cons rfl A0 (Bd On []).1 (Bd On []).2 Tryz.func101 (by kernel_rfl) (by kernel_rfl) .nil) (FF rfl On)
noncomputable def c9q:FuncId->List V->St->T (V×Res):=I7 [(62,F8 tab ⟨c9p,Go.Sy.askL [],Gl⟩ Tryz.f62)] c9p
theorem AdR:Bi Tryz.prog ⟨c9q,Gl⟩:=EV mixed (.cons rfl A0 AdS (Ei _ _ _) Tryz.func62 (by kernel_rfl) (by kernel_rfl) .nil) AdS
noncomputable def c9:FuncId->List V->St->T (V×Res):=I7 [(35,F8 tab ⟨c9q,Go.Sy.askL [],Gl⟩ Tryz.f35)] c9q
theorem Apx:Bi Tryz.prog ⟨c9,Gl⟩:=EV mixed (.cons rfl A0 AdR (Ei _ _ _) Tryz.func35 (by kernel_rfl) (by kernel_rfl) .nil) AdR
def lp9:Lp:=⟨bmK 69 0 [1,5,6,7,23,24,25],5,bmK 69 0 [6],4,4611686018427387905⟩
noncomputable def B9 (id:Nat) (L:LT):St->T (Ex×St):=λst=>AK tab ⟨c9,L,Gl⟩ (A3 Tryz.f9 id) id st
theorem r9 (L:LT) {s:Sh7} (hC:cdB s=true) (hF:plB s=true):(A4 (B9 0 L) lp9 4611686018427387905 (S9 s 0 ())).sem=some (fn9 s) :=
 AW (R:=exR) BG (S:=λc a _=>S9 s c a) (j:=λ_=>.und) (g:=g9 s) (fin:=λ_=>fn9 s) (e:=fn9 s) (n:=s.nx) (by have:=(BO hF).1; omega)
  (λi a j r hi he=>DK.ok (L:=goR (λc a _=>S9 s c a) exR i) (.k (ofNat_lt hi) <| .k (Ae hi) <| .k (De hF hi) <| .k (BS hF hi) <| .k eT <| .k (De hF hi) <| .k (BS hF hi) <| .k eT <| .k (eI (s.X i).th) <| .k (De hF hi) <| .k (eJ (toN (s.X i).th)) <| .k (BS hF hi) <| .k eT <| .r 2 (eJ (toN (s.X i).th)) <| .k (eI (s.X i).th) <| .k (De hF hi) <| .k (eJ (toN (s.X i).th)) <| .k (BS hF hi) <| .k eT <| .r 2 (eJ (toN (s.X i).th)) <| .k (eI (s.X i).th) <| .k (De hF hi) <| .k (eJ (toN (s.X i).th)) <| .k (BS hF hi) <| .k eT <| .r 2 (eJ (toN (s.X i).th)) <| .k (eI (s.X i).th) <| .k (De hF hi) <| .k (eJ (toN (s.X i).th)) <| .k (BS hF hi) <| .k eT <| .r 2 (eJ (toN (s.X i).th)) <| .k (eI (s.X i).th) <| .k (De hF hi) <| .k (eJ (toN (s.X i).th)) <| .k (BS hF hi) <| .k eT <| .r 2 (eJ (toN (s.X i).th)) <| .c (λh1=>.k h1 <| .k (AqW hC hi h1) <| .k (Ln s hi) <| .k (Ir (By (ofNat i) 1)) <| .k (eG [0,toN s.tt,toN s.tt]) <| .k (eL (B5 (locL s s.nx (toN (s.X i).th)))) <| .k (Vy hF (toN (s.X i).th)) <| .c (λh2=>.k h2 <| .k eT <| .k (ap1 hF hi (toN (s.X i).th) (m:=1) (by decide)) <| .c (λh3=>.k h3 <| .k (Ln s hi) <| .k (L1 hF hi) <| .k (ap2 hF hi (toN (s.X i).th) (m:=1) (k:=1) (by decide) (by decide)) <| .k (De hF hi) <| .k (BS hF hi) <| .e (lf9 hF hi (lab:=(ofNat (lbN s i))) [[fcI s i],[lwI s i (at9 s i)]] (by unfold Es tl9; rw [h1,h2,h3]; rfl) (AcD h1 h2))) λh3=>.k h3 <| .c (λh4=>.k h4 <| .k (Ln s hi) <| .k (Ir (By (ofNat i) 1)) <| .k (ap2 hF hi (toN (s.X i).th) (m:=1) (k:=2) (by decide) (by decide)) <| .k (ap3 hF hi (toN (s.X i).th) (m:=1) (k:=2) (l:=1) (by decide) (by decide) (by decide)) <| .k (De hF hi) <| .k (BS hF hi) <| .e (lf9 hF hi (lab:=(ofNat (lbN s i))) [[fcI s i],[xr5 s i,or5 s i],[swI (at9 s i)]] (by unfold Es tl9; rw [h1,h2,h3,h4]; rfl) (AcD h1 h2))) λh4=>.k h4 <| .k (ap2 hF hi (toN (s.X i).th) (m:=1) (k:=1) (by decide) (by decide)) <| .k (ap3 hF hi (toN (s.X i).th) (m:=1) (k:=1) (l:=1) (by decide) (by decide) (by decide)) <| .k (De hF hi) <| .k (BS hF hi) <| .e (lf9 hF hi (lab:=(ofNat (lbN s i))) [[fcI s i],[or0 s i],[swI (at9 s i)]] (by unfold Es tl9; rw [h1,h2,h3,h4]; rfl) (AcD h1 h2))) λh2=>.k h2 <| .c (λh5=>.k h5 <| .k (Ao5 hF hi) <| .c (λh6=>.k h6 <| .k (VQ (a:=[48]) (b:=D4 (ofNat (lbN s i))) (by decide) (Tk _)) <| .k (VQ (a:=[76,67]) (b:=E3 [48] (D4 (ofNat (lbN s i)))) (by decide) (Ad7 _)) <| .k eT <| .k (ap1 hF hi (toN (s.X i).th) (m:=2) (by decide)) <| .c (λh7=>.k h7 <| .k (Ln s hi) <| .k (L1 hF hi) <| .k (ap2 hF hi (toN (s.X i).th) (m:=2) (k:=1) (by decide) (by decide)) <| .k (De hF hi) <| .k (BS hF hi) <| .e (lf9 hF hi (lab:=(wr .i64 (Ai (ofNat (lbN s i)) 1))) [[bnI s i (E3 [76,67] (E3 [48] (D4 (ofNat (lbN s i))))),lbI (E3 [76,67] (E3 [48] (D4 (ofNat (lbN s i)))))],[lwI s i (at9 s i)]] (by unfold Es tl9; rw [h1,h2,h5,h6,h7]; rfl) (ZP hF hi h1 h2 h5))) λh7=>.k h7 <| .c (λh8=>.k h8 <| .k (Ln s hi) <| .k (Ir (By (ofNat i) 1)) <| .k (ap2 hF hi (toN (s.X i).th) (m:=2) (k:=2) (by decide) (by decide)) <| .k (ap3 hF hi (toN (s.X i).th) (m:=2) (k:=2) (l:=1) (by decide) (by decide) (by decide)) <| .k (De hF hi) <| .k (BS hF hi) <| .e (lf9 hF hi (lab:=(wr .i64 (Ai (ofNat (lbN s i)) 1))) [[bnI s i (E3 [76,67] (E3 [48] (D4 (ofNat (lbN s i))))),lbI (E3 [76,67] (E3 [48] (D4 (ofNat (lbN s i)))))],[xr5 s i,or5 s i],[swI (at9 s i)]] (by unfold Es tl9; rw [h1,h2,h5,h6,h7,h8]; rfl) (ZP hF hi h1 h2 h5))) λh8=>.k h8 <| .k (ap2 hF hi (toN (s.X i).th) (m:=2) (k:=1) (by decide) (by decide)) <| .k (ap3 hF hi (toN (s.X i).th) (m:=2) (k:=1) (l:=1) (by decide) (by decide) (by decide)) <| .k (De hF hi) <| .k (BS hF hi) <| .e (lf9 hF hi (lab:=(wr .i64 (Ai (ofNat (lbN s i)) 1))) [[bnI s i (E3 [76,67] (E3 [48] (D4 (ofNat (lbN s i))))),lbI (E3 [76,67] (E3 [48] (D4 (ofNat (lbN s i)))))],[or0 s i],[swI (at9 s i)]] (by unfold Es tl9; rw [h1,h2,h5,h6,h7,h8]; rfl) (ZP hF hi h1 h2 h5))) λh6=>.k h6 <| .k (VQ (a:=[76,67]) (b:=D4 (ofNat (lbN s i))) (by decide) (Tk _)) <| .k eT <| .k (ap1 hF hi (toN (s.X i).th) (m:=2) (by decide)) <| .c (λh9=>.k h9 <| .k (Ln s hi) <| .k (L1 hF hi) <| .k (ap2 hF hi (toN (s.X i).th) (m:=2) (k:=1) (by decide) (by decide)) <| .k (De hF hi) <| .k (BS hF hi) <| .e (lf9 hF hi (lab:=(wr .i64 (Ai (ofNat (lbN s i)) 1))) [[bnI s i (E3 [76,67] (D4 (ofNat (lbN s i)))),lbI (E3 [76,67] (D4 (ofNat (lbN s i))))],[lwI s i (at9 s i)]] (by unfold Es tl9; rw [h1,h2,h5,h6,h9]; rfl) (ZP hF hi h1 h2 h5))) λh9=>.k h9 <| .c (λh10=>.k h10 <| .k (Ln s hi) <| .k (Ir (By (ofNat i) 1)) <| .k (ap2 hF hi (toN (s.X i).th) (m:=2) (k:=2) (by decide) (by decide)) <| .k (ap3 hF hi (toN (s.X i).th) (m:=2) (k:=2) (l:=1) (by decide) (by decide) (by decide)) <| .k (De hF hi) <| .k (BS hF hi) <| .e (lf9 hF hi (lab:=(wr .i64 (Ai (ofNat (lbN s i)) 1))) [[bnI s i (E3 [76,67] (D4 (ofNat (lbN s i)))),lbI (E3 [76,67] (D4 (ofNat (lbN s i))))],[xr5 s i,or5 s i],[swI (at9 s i)]] (by unfold Es tl9; rw [h1,h2,h5,h6,h9,h10]; rfl) (ZP hF hi h1 h2 h5))) λh10=>.k h10 <| .k (ap2 hF hi (toN (s.X i).th) (m:=2) (k:=1) (by decide) (by decide)) <| .k (ap3 hF hi (toN (s.X i).th) (m:=2) (k:=1) (l:=1) (by decide) (by decide) (by decide)) <| .k (De hF hi) <| .k (BS hF hi) <| .e (lf9 hF hi (lab:=(wr .i64 (Ai (ofNat (lbN s i)) 1))) [[bnI s i (E3 [76,67] (D4 (ofNat (lbN s i)))),lbI (E3 [76,67] (D4 (ofNat (lbN s i))))],[or0 s i],[swI (at9 s i)]] (by unfold Es tl9; rw [h1,h2,h5,h6,h9,h10]; rfl) (ZP hF hi h1 h2 h5))) λh5=>.k h5 <| .c (λh11=>.k h11 <| .k eT <| .k (ap1 hF hi (toN (s.X i).th) (m:=2) (by decide)) <| .c (λh12=>.k h12 <| .k (Ln s hi) <| .k (L1 hF hi) <| .k (ap2 hF hi (toN (s.X i).th) (m:=2) (k:=1) (by decide) (by decide)) <| .k (De hF hi) <| .k (BS hF hi) <| .e (lf9 hF hi (lab:=(ofNat (lbN s i))) [[xr6 s i,ad6 s i],[lwI s i 6]] (by unfold Es tl9; rw [h1,h2,h5,h11,h12]; rfl) (Rb h1 h2 h5))) λh12=>.k h12 <| .c (λh13=>.k h13 <| .k (Ln s hi) <| .k (Ir (By (ofNat i) 1)) <| .k (ap2 hF hi (toN (s.X i).th) (m:=2) (k:=2) (by decide) (by decide)) <| .k (ap3 hF hi (toN (s.X i).th) (m:=2) (k:=2) (l:=1) (by decide) (by decide) (by decide)) <| .k (De hF hi) <| .k (BS hF hi) <| .e (lf9 hF hi (lab:=(ofNat (lbN s i))) [[xr6 s i,ad6 s i],[xr5 s i,or5 s i],[swI 6]] (by unfold Es tl9; rw [h1,h2,h5,h11,h12,h13]; rfl) (Rb h1 h2 h5))) λh13=>.k h13 <| .k (ap2 hF hi (toN (s.X i).th) (m:=2) (k:=1) (by decide) (by decide)) <| .k (ap3 hF hi (toN (s.X i).th) (m:=2) (k:=1) (l:=1) (by decide) (by decide) (by decide)) <| .k (De hF hi) <| .k (BS hF hi) <| .e (lf9 hF hi (lab:=(ofNat (lbN s i))) [[xr6 s i,ad6 s i],[or0 s i],[swI 6]] (by unfold Es tl9; rw [h1,h2,h5,h11,h12,h13]; rfl) (Rb h1 h2 h5))) λh11=>.k h11 <| .c (λh14=>.k h14 <| .k (Ln s hi) <| .k (L1 hF hi) <| .k eT <| .k (ap1 hF hi (toN (s.X i).th) (m:=1) (by decide)) <| .k (De hF hi) <| .k (BS hF hi) <| .e (lf9 hF hi (lab:=(ofNat (lbN s i))) [[lwI s i (at9 s i)]] (by unfold Es tl9; rw [h1,h2,h5,h11,h14]; rfl) (Rb h1 h2 h5))) λh14=>.k h14 <| .c (λh15=>.k h15 <| .k (Ln s hi) <| .k (Ir (By (ofNat i) 1)) <| .k eT <| .k (ap1 hF hi (toN (s.X i).th) (m:=2) (by decide)) <| .k (ap2 hF hi (toN (s.X i).th) (m:=2) (k:=1) (by decide) (by decide)) <| .k (De hF hi) <| .k (BS hF hi) <| .e (lf9 hF hi (lab:=(ofNat (lbN s i))) [[xr5 s i,or5 s i],[swI (at9 s i)]] (by unfold Es tl9; rw [h1,h2,h5,h11,h14,h15]; rfl) (Rb h1 h2 h5))) λh15=>.k h15 <| .k eT <| .k (ap1 hF hi (toN (s.X i).th) (m:=1) (by decide)) <| .k (ap2 hF hi (toN (s.X i).th) (m:=1) (k:=1) (by decide) (by decide)) <| .k (De hF hi) <| .k (BS hF hi) <| .e (lf9 hF hi (lab:=(ofNat (lbN s i))) [[or0 s i],[swI (at9 s i)]] (by unfold Es tl9; rw [h1,h2,h5,h11,h14,h15]; rfl) (Rb h1 h2 h5))) λh1=>.k h1 <| .k (Ln s hi) <| .k (Ir (By (ofNat i) 1)) <| .k (eG [0,toN s.tt,toN s.tt]) <| .k (eL (B5 (locL s s.nx (toN (s.X i).th)))) <| .k (Vy hF (toN (s.X i).th)) <| .k (show ieq 0 5=false from rfl) <| .k (show ieq 0 8=false from rfl) <| .k (show ieq 0 6=false from rfl) <| .c (λh16=>.k h16 <| .k (Ln s hi) <| .k (L1 hF hi) <| .k eT <| .k (ap1 hF hi (toN (s.X i).th) (m:=1) (by decide)) <| .k (De hF hi) <| .k (BS hF hi) <| .e (lf9 hF hi (lab:=(ofNat (lbN s i))) [[lwI s i (at9 s i)]] (by unfold Es tl9; rw [h1,h16]; rfl) (Aie h1))) λh16=>.k h16 <| .k (show ieq 0 7=false from rfl) <| .k eT <| .k (ap1 hF hi (toN (s.X i).th) (m:=1) (by decide)) <| .k (ap2 hF hi (toN (s.X i).th) (m:=1) (k:=1) (by decide) (by decide)) <| .k (De hF hi) <| .k (BS hF hi) <| .e (lf9 hF hi (lab:=(ofNat (lbN s i))) [[or0 s i],[swI (at9 s i)]] (by unfold Es tl9; rw [h1,h16]; rfl) (Aie h1))) (by kernel_rfl) he) (λa j=>DK.ok (C:=.leaf (fn9 s)) (L:=exR) (.k (Az (Nat.le_refl s.nx)) .l) (by kernel_rfl) rfl) (Nat.zero_add _).symm (by have:=(BO hF).1; omega)
  (Cv (acc:=λ_=>()) (λi _=>by
   unfold g9;cases ilt 0 (s.X i).pl <;> cases ieq (s.X i).dir 1 <;> cases ieq (ed9 s i).kind 5 <;> cases ieq (ed9 s i).kind 8 <;> cases ieq (ed9 s i).kind 6 <;> cases ieq (ed9 s i).kind 7 <;> cases ieq (ofNat (Cl (D4 (ofNat (lbN s i))))) 1 <;> rfl) _ _ (Nat.zero_add _))
end Go.Proofs.YtkbafjceglhjhaaGreatDoor.Er
namespace Go.Proofs.YtkbafjceglhjhaaGreatDoor.Er
open Go.Sy Go Go.Proofs.YtkbafjceglhjhaaGreatDoor.Ed Go.Proofs.YtkbafjceglhjhaaGreatDoor.Sh
open Int (ofNat)
set_option maxRecDepth 100000
set_option maxHeartbeats 1000000
theorem AkR {k:FuncId} {fn:Func} (hf:Tryz.prog.funcs[k]? = some fn) (hb:fn.body.isSome=true) (hn:(fn.name == "runtime.NumGoroutine")=false) {Γ:Sh7->Cx} (hG:∀ s,(Γ s).glob=Gl) (hc:∀ s,Bi Tryz.prog (Γ s).base∧BU (Γ s))
  {C:Sh7->AA} (h:∀ s v h',(C s).sem=some (v,h')->∃ h'',(Ay (Aj tab (Γ s) fn [E2 s] [])).sem=some (v,h'')∧Aw h'' h'):As Tryz.prog Gl k (shT C):=by
 refine Am A0 mixed hf hb hn λvs v h' hv=>?_;unfold shT at hv;split at hv
 ·obtain ⟨s,a1,hv⟩:=apS_some hv
  obtain ⟨h'',h1,h2⟩:=h s v h' hv;exact ⟨[E2 s],Γ s,h'',λS w cs hq=>by
   obtain ⟨c,l,rfl,q1,q2⟩:=hq;exact ⟨c,_,rfl,a1 S w c q1,q2⟩,hG s,(hc s).1,(hc s).2,h1,h2⟩
 ·cases hv
def zI:In8:=⟨0,0,0,0,0,[],[],0⟩
def K3 (l:List In8) (k:Nat):In8:=l.getD k zI
def Aof (l:List In8):Nat->V:=λk=>i8V (K3 l k)
theorem AhS:∀ (l:List In8) (k:Nat),k<Cr l->Aof l k=M1 l k
 | [],k,h=>absurd h (Nat.not_lt_zero _)
 | x::l,0,_=>rfl
 | x::l,k+1,h=>AhS l k (Nat.lt_of_succ_lt_succ h)
def jE:Blk:=.jag ⟨63,1,0,λ_=>.und,0,72,8,λ_=>true,λ_=>0,λ_ _=>.und,none⟩
def codJ (s:Sh7):Blk:=.jag ⟨63,1,toN s.tt,λ_=>.nilS,0,72,8,λ_=>true,λu=>Cr (cdL s s.nx u),λu=>Aof (cdL s s.nx u),none⟩
def codE (s:Sh7) (b:Blk):AA:=.br (Dg s.ne) (.br (Ak (Au s.ne) (Ak (Au s.nx) (Ak (Au s.nr) (Ak (Au s.nc) (Bo s.nc (λi=>Au (s.C i).1)))))) (.br (ieq (FK s) 0) (.br (cdB s) (.leaf (.tup [.jref 0,iV 0],[b])) .fail) (.leaf (.tup [.jref 0,iV (FK s)],[jE]))) .fail) .fail
def Xl (s:Sh7):AA:=codE s (codJ s)
theorem AdN {s:Sh7} (h:cdB s=true):plB s=true:=(Bool.and_eq_true_iff.1 h).1
def ls9:List (Nat×Lp×List (Nat×(Nat->V))):=[(0,lp9,[])]
theorem AgL {s:Sh7} {v:V} {h':List Blk} (h:(Xl s).sem=some (v,h')):∃ h'',(codE s (Apt s)).sem=some (v,h'')∧Aw h'' h':=by
 unfold Xl codE at *;obtain ⟨h1,h⟩:=Ad h;obtain ⟨h2,h⟩:=Ad h;rw [h1,h2];revert h;cases ieq (FK s) 0 with
 | false=>intro h; exact ⟨h',h,Aw.refl _⟩
 | true =>intro h;obtain ⟨h3,h⟩:=Ad h;rw [h3];have:=Aa h;simp only [Prod.mk.injEq] at this;obtain ⟨rfl,rfl⟩:=this;exact ⟨_,rfl,.consB (.jag (λ_ _=>.inl rfl) (λ_ _=>rfl) (λ_ _=>rfl) λk _ q hq=>AhS _ q hq) (Aw.refl [])⟩
theorem p9:As Tryz.prog Gl 9 (shT Xl):=AkR Tryz.func9 (by kernel_rfl) (by kernel_rfl) (Γ:=λ_=>⟨c9,Go.Sy.askL ls9,Gl⟩) (λ_=>rfl) (λ_=>⟨Apx,Ei _ _ _⟩) λs v h' h=>by
 obtain ⟨h'',h1,h2⟩:=AgL h;exact ⟨h'',DK.of h1 (.k (eL s.ne) <| .k (eL s.nx) <| .k (eL s.nr) <| .k (eL2 s.nc s.C) <| .g λh1=>.k h1 <| .g λh2=>.k h2 <| .c (λh3=>.g λhC=>.k (eN h3) <| .k (eL s.ne) <| .k (eL s.nx) <| .k (eL s.nr) <| .k (eL2 s.nc s.C) <| .k (AdN hC) <| .k (AhJ (AdN hC) 24 (by decide)) <| .a (r9 (Go.Sy.askL ls9) hC (AdN hC)) <| .l) λh3=>.k (eN h3) <| .l) (by kernel_rfl),h2⟩
def rg9 (s:Sh7) (i:Nat):Int:=bif hsF s s.nx (toN (s.X i).th) (ofNat i) then rI9 s i else -1
def rgC (s:Sh7):AA:=.br (Dg s.ne) (.br (Ak (Au s.ne) (Ak (Au s.nx) (Ak (Au s.nr) (Ak (Au s.nc) (Bo s.nc (λi=>Au (s.C i).1)))))) (.br (ieq (FK s) 0) (.br (plB s) (.leaf (.tup [.ref 0,iV 0],[.row 3 1 s.nx λk=>iV (rg9 s k)])) .fail) (.leaf (.tup [.ref 0,iV (FK s)],[.row 3 1 0 λ_=>.und]))) .fail) .fail
noncomputable def AjR:AE:=(33,shT TL)::(34,shT O5)::[]
theorem AeW:Ar Tryz.prog Gl AjR:=.cons p33 <| .cons p34 .nil
section
variable (s:Sh7)
def T11 (c:Int) (n:Nat) (g:Nat->V):St:=⟨jsV 45 0 Ab [(1,.ptr 0 0),(5,.jref 2),(6,.ref 3),(19,.sl 5 s.nx (λi=>evV (s.X i))),(20,iV (ofNat s.nx)),(21,iV c)],[.cells [iV s.arch,.sl 6 s.ne (λi=>eV (s.E i)),.sl 5 s.nx (λi=>evV (s.X i)),iV s.tt,iV s.kk,.sl 1 s.nr (λi=>iV (s.R i)),.sl 1 s.nc (λu=>.sl 1 (s.C u).1 (λi=>iV ((s.C u).2 i)))],.row 3 1 0 Ab,Kg s,.row 3 1 n g]⟩
def S11 (c:Int) (_:Unit):St:=T11 s c (toN c) (λk=>iV (rg9 s k))
def AgE:Ex×St:=(.ex 0,⟨jsV 45 0 Ab [(6,.ref 3)],[.cells [iV s.arch,.sl 6 s.ne (λi=>eV (s.E i)),.sl 5 s.nx (λi=>evV (s.X i)),iV s.tt,iV s.kk,.sl 1 s.nr (λi=>iV (s.R i)),.sl 1 s.nc (λu=>.sl 1 (s.C u).1 (λi=>iV ((s.C u).2 i)))],.row 3 1 0 Ab,Kg s,.row 3 1 s.nx (λk=>iV (rg9 s k))]⟩)
def g11 (i:Nat) (_:Unit):T (Unit ⊕ (Ex×St)):=.br (hsF s s.nx (toN (s.X i).th) (ofNat i)) (.leaf (.inl ())) (.leaf (.inl ()))
end
theorem XN (g:Nat->V) (n:Nat) (x:V) (h:x=g n):AX n g x=g:=by
 funext k;rw [BK];cases hk:Nat.beq k n with
 | true=>rw [Nat.eq_of_beq_eq_true hk,h]; rfl
 | false=>rfl
section
variable {s:Sh7} (hF:plB s=true) {i:Nat} (hi:i<s.nx)
include hF hi
theorem Ao4 {x:Int} (h:x=rg9 s i):(Ex.nm,T11 s (wr .i64 (Ai (ofNat i) 1)) (BC i 1) (AX i (λk=>iV (rg9 s k)) (iV x)))=(Ex.nm,S11 s (wr .i64 (Ai (ofNat i) 1)) ()):=by
 unfold S11;rw [Uv hF hi,XN _ _ _ (by rw [h])];rfl
theorem Ap1:C4 i 1 8=true:=decide_eq_true (by
 have:=(BO hF).1;omega)
end
def Aox:Lp:=⟨bmK 45 0 [1,5,6,19,20,21],4,bmK 45 0 [6],4,4611686018427387905⟩
noncomputable def B11 (id:Nat) (L:LT):St->T (Ex×St):=λst=>AK tab ⟨A2 AjR,L,Gl⟩ (A3 Tryz.f11 id) id st
theorem r11 (L:LT) {s:Sh7} (hF:plB s=true):(A4 (B11 0 L) Aox 4611686018427387905 (S11 s 0 ())).sem=some (AgE s) :=
 AW (R:=exR) BG (S:=λc a _=>S11 s c a) (j:=λ_=>.und) (g:=g11 s) (fin:=λ_=>AgE s) (e:=AgE s) (n:=s.nx) (by have:=(BO hF).1; omega)
  (λi a j r hi he=>DK.ok (L:=goR (λc a _=>S11 s c a) exR i) (.k (ofNat_lt hi) <| .k (Ae hi) <| .k (De hF hi) <| .k (BS hF hi) <| .k eT <| .k (Ln s hi) <| .k (L1 hF hi) <|
   .c (λh1=>.k (eN h1) <| .k (Ap1 hF hi) <| .e (Ao4 hF hi (x:=rI9 s i) (by unfold rg9; rw [h1]; rfl))) λh1=>.k (eN h1) <| .k (Ap1 hF hi) <| .e (Ao4 hF hi (x:=-1) (by unfold rg9; rw [h1]; rfl))) (by kernel_rfl) he)
  (λa j=>DK.ok (C:=.leaf (AgE s)) (L:=exR) (.k (Az (Nat.le_refl s.nx)) .l) (by kernel_rfl) rfl) (Nat.zero_add _).symm (by have:=(BO hF).1; omega)
  (Cv (acc:=λ_=>()) (λi _=>by
   unfold g11;cases hsF s s.nx (toN (s.X i).th) (ofNat i) <;> rfl) _ _ (Nat.zero_add _))
def Alo (s:Sh7):List (Nat×Lp×List (Nat×(Nat->V))):=[(0,Aox,[(3,λk=>iV (rg9 s k))])]
theorem p11:As Tryz.prog Gl 11 (shT rgC):=QK Tryz.func11 (by kernel_rfl) (by kernel_rfl) (Γ:=λs=>cxA Gl AjR (Alo s)) (λ_=>rfl) (λs=>Bd AeW (Alo s))
 λs r h=>DK.of h (.k (eL s.ne) <| .k (eL s.nx) <| .k (eL s.nr) <| .k (eL2 s.nc s.C) <| .g λh1=>.k h1 <| .g λh2=>.k h2 <| .c (λh3=>.g λhF=>.k (eN h3) <| .k (eL s.ne) <| .k (eL s.nx) <| .k (eL s.nr) <| .k (eL2 s.nc s.C) <| .k hF <| .a (r11 (Go.Sy.askL (Alo s)) hF) <| .l) λh3=>.k (eN h3) <| .l) (by kernel_rfl)
def AbL:List V->AA
 | []=>.leaf (bV true,[])
 | _=>.fail
def rcC (s:Sh7):AA:=.br (Dg s.ne) (.br (Ak (Au s.ne) (Ak (Au s.nx) (Ak (Au s.nr) (Ak (Au s.nc) (Bo s.nc (λi=>Au (s.C i).1)))))) (.br (ieq (FK s) 0) .fail (.leaf (.tup [.jref 0,iV (FK s)],[jE]))) .fail) .fail
noncomputable def tb10:AE:=(36,shT TL)::[]
theorem tb10_ok:Ar Tryz.prog Gl tb10:=.cons p36 .nil
theorem p10:As Tryz.prog Gl 10 (shT rcC):=QK Tryz.func10 (by kernel_rfl) (by kernel_rfl) (Γ:=λ_=>cxA Gl tb10 []) (λ_=>rfl) (λ_=>Bd tb10_ok [])
 λs r h=>DK.of h (.k (eL s.ne) <| .k (eL s.nx) <| .k (eL s.nr) <| .k (eL2 s.nc s.C) <| .g λh1=>.k h1 <| .g λh2=>.k h2 <| .c (λ_=>.f) λh3=>.k (eN h3) <| .l) (by kernel_rfl)
end Go.Proofs.YtkbafjceglhjhaaGreatDoor.Er
