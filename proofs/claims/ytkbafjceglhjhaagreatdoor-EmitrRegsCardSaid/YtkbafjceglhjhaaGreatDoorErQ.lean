/-
  Layer 12: the law EmitrRegs as a function. Conditions: RgOK.
-/
import Derived.Test.YtkbafjceglhjhaaGreatDoorSyZ
import Derived.Test.YtkbafjceglhjhaaGreatDoorErW
namespace Go.Proofs.YtkbafjceglhjhaaGreatDoor.Er
open Go.Sy Go Go.Proofs.YtkbafjceglhjhaaGreatDoor.Ed Go.Proofs.YtkbafjceglhjhaaGreatDoor.Sh
open Int (ofNat)
set_option maxRecDepth 100000
set_option maxHeartbeats 1000000
def wW (b:Nat->Nat) (P:Nat->Nat->Bool) (c r:Nat):Int:=ofNat (b r+Ai (P r) c)
theorem Air {b:Nat->Nat} {P:Nat->Nat->Bool} {c k:Nat} (h:P k c=true) (hne:∀ r,r ≠ k->P r c=false) (hb:b k+c<4611686018427387904) :
  BA (λr=>iV (wW b P c r)) k (iV (wr .i64 (Ah (wW b P c k) 1)))=λr=>iV (wW b P (c+1) r):=by
 rw [Ca];funext r;unfold GN;cases hr:decide (r=k) with
 | true =>have hr:=of_decide_eq_true hr;subst hr;have:=By (P r) c;unfold wW;rw [Bp h,cond_true];rw [C6 (n:=b r+Ai (P r) c+1) (Nat.lt_succ_self _) (by omega)];rfl
 | false =>unfold wW;rw [cond_false,B6 (hne r (of_decide_eq_false hr))]
theorem Ais {b:Nat->Nat} {P:Nat->Nat->Bool} {c:Nat} (h:∀ r,P r c=false):(λr=>iV (wW b P c r))=λr=>iV (wW b P (c+1) r):=by
 funext r;unfold wW;rw [B6 (h r)]
section
variable (s:Sh7) (u:Nat)
def T5 (l:List (Nat×V)) (w:Nat->Int):St:=⟨jsV 239 0 Ab ([(1,.ptr 0 0),(3,.jref 1),(5,.ref 2),(7,.ref 3),(11,nV u),(15,.ept 4 1 0 0)]++l),[.cells [iV s.arch,.sl 6 s.ne (λi=>eV (s.E i)),.sl 5 s.nx (λi=>evV (s.X i)),iV s.tt,iV s.kk,.sl 1 s.nr (λi=>iV (s.R i)),.sl 1 s.nc (λu=>.sl 1 (s.C u).1 (λi=>iV ((s.C u).2 i)))],codJ s,.row 3 1 s.nx (λk=>iV (rg9 s k)),.row 68 5 (Dy (inL s (toN s.tt))) (Ja (inL s (toN s.tt))),.row 64 1 32 (λr=>iV (w r))]⟩
def iP (r i:Nat):Bool:=Aj (ieq (ID (inL s (toN s.tt)) i).th (ofNat u)) (ieq (ID (inL s (toN s.tt)) i).rg (ofNat r))
def cP (r i:Nat):Bool:=Aj (ile 7 (dsI (I6 s u i))) (ieq (dsI (I6 s u i)) (ofNat r))
def wI (c:Nat):Nat->Int:=wW (λ_=>0) (iP s u) c
def bI (r:Nat):Nat:=0+Ai (iP s u r) (Dy (inL s (toN s.tt)))
def wC (c:Nat):Nat->Int:=wW (bI s u) (cP s u) c
def wE:Nat->Int:=wC s u (CS (cdL s s.nx u))
structure RgOK:Prop where
 hl:Dy (inL s (toN s.tt)) <= 256
 ini:∀ i,i<Dy (inL s (toN s.tt))->ilt (ID (inL s (toN s.tt)) i).rg 7=false∧ilt 31 (ID (inL s (toN s.tt)) i).rg=false∧seq (ID (inL s (toN s.tt)) i).nm []=false
 lk:LkOK (CS (cdL s s.nx u)) (I6 s u)
 rd:∀ i,i<s.nx->ieq (s.X i).th (ofNat u)=true->ieq (s.X i).dir 1=true->ilt (rg9 s i) 7=false∧ilt 31 (rg9 s i)=false∧ieq (wE s u (toN (rg9 s i))) 1=true
 top:∀ r,r<32->ilt 1 (wE s u r)=false
def Vb (c:Int) (_:Unit):St:=T5 s u [(16,iV c)] (wI s u (toN c))
def XM (c:Int) (_:Unit):St:=T5 s u [(17,iV c)] (wC s u (toN c))
def AhJ (c:Int) (_:Unit):St:=T5 s u [(21,iV c)] (wE s u)
def AhI (c:Int) (_:Unit):St:=T5 s u [(22,iV c)] (wE s u)
def Wi:Ex×St:=(.ex 2,T5 s u [] (wI s u (Dy (inL s (toN s.tt)))))
def Wh:Ex×St:=(.ex 4,T5 s u [] (wE s u))
def Wg:Ex×St:=(.ex 6,T5 s u [] (wE s u))
def AkN (c:Int):St:=⟨jsV 239 0 Ab [(1,.ptr 0 0),(3,.jref 1),(5,.ref 2),(7,.ref 3),(11,iV c)],[.cells [iV s.arch,.sl 6 s.ne (λi=>eV (s.E i)),.sl 5 s.nx (λi=>evV (s.X i)),iV s.tt,iV s.kk,.sl 1 s.nr (λi=>iV (s.R i)),.sl 1 s.nc (λu=>.sl 1 (s.C u).1 (λi=>iV ((s.C u).2 i)))],codJ s,.row 3 1 s.nx (λk=>iV (rg9 s k)),.row 68 5 (Dy (inL s (toN s.tt))) (Ja (inL s (toN s.tt)))]⟩
def We:Ex×St:=(.ex 8,AkN s (ofNat u))
def AhK (c:Int) (_:Unit):St:=AkN s c
def Aks (i:Nat) (_:Unit):T (Unit ⊕ (Ex×St)):=.br (ieq (ID (inL s (toN s.tt)) i).th (ofNat u)) (.leaf (.inl ())) (.leaf (.inl ()))
def Akr (i:Nat) (_:Unit):T (Unit ⊕ (Ex×St)):=.br (ile 7 (dsI (I6 s u i))) (.leaf (.inl ())) (.leaf (.inl ()))
def Akq (i:Nat) (_:Unit):T (Unit ⊕ (Ex×St)):=.br (ieq (s.X i).th (ofNat u)) (.br (ieq (s.X i).dir 1) (.leaf (.inl ())) (.leaf (.inl ()))) (.leaf (.inl ()))
def g5 (_:Nat) (_:Unit):T (Unit ⊕ (Ex×St)):=.leaf (.inl ())
end
noncomputable def tb5:AM:=(9,shT XD)::(11,shT rgC)::(13,shT Ae5)::(10,shT rcC)::(29,lkT)::(30,Ya)::(25,AbZ)::[]
theorem tb5_ok:Ar Tryz.prog Gl tb5:=.cons p9 <| .cons p11 <| .cons p13 <| .cons p10 <| .cons p29 <| .cons p30 <| .cons p18 .nil
def lp5:Lp:=⟨bmK 239 0 [1,3,5,7,11],4,bmK 239 0 [],0,4611686018427387905⟩
def Aet:Lp:=⟨bmK 239 0 [1,3,5,7,11,15,16],5,bmK 239 0 [1,3,5,7,11,15],5,4611686018427387905⟩
def Aes:Lp:=⟨bmK 239 0 [1,3,5,7,11,15,17],5,bmK 239 0 [1,3,5,7,11,15],5,4611686018427387905⟩
def Aer:Lp:=⟨bmK 239 0 [1,3,5,7,11,15,21],5,bmK 239 0 [1,3,5,7,11,15],5,4611686018427387905⟩
def Aeq:Lp:=⟨bmK 239 0 [1,3,5,7,11,15,22],5,bmK 239 0 [1,3,5,7,11],4,4611686018427387905⟩
noncomputable def B5 (id:Nat) (L:LT):St->T (Ex×St):=λst=>AL tab ⟨A0 tb5,L,Gl⟩ (A3 Tryz.f5 id) id st
theorem LR {z:Int} (h7:ilt z 7=false) (h31:ilt 31 z=false):Aj (ile 0 z) (ilt z 32)=true∧nlt (toN z) 32=true∧z=ofNat (toN z):=by
 have h7:=of_decide_eq_false h7;have h31:=of_decide_eq_false h31;obtain ⟨k,rfl⟩:=Int.eq_ofNat_of_zero_le (show 0 <= z by omega);refine ⟨?_,decide_eq_true (show k<32 by omega),rfl⟩;rw [show ile 0 (k:Int)=true from decide_eq_true (by omega),show ilt (k:Int) 32=true from decide_eq_true (by omega)];rfl
theorem Sw {z:Int} (h:ile 7 z=true):ilt z 7=false:=decide_eq_false (by have:=of_decide_eq_true h; omega)
theorem SN {I:In8} (h:IsI I):ilt 31 (dsI I)=false:=by
 have q:∀ {d:Int},rgB d=true->ilt 31 d=false:=fun {d} hd=>by
  unfold rgB Aj at hd;cases h1:ile 0 d <;> rw [h1] at hd
  ·cases hd
  ·exact decide_eq_false (by have:=of_decide_eq_true hd; omega)
 cases h with
 | lw hd=>exact q hd
 | xor hd=>exact q hd
 | _=>rfl
section
variable (L:LT) {s:Sh7} {u:Nat} (h:RgOK s u)
include h
theorem AjV {i:Nat} (hi:i<Dy (inL s (toN s.tt))) (hth:ieq (ID (inL s (toN s.tt)) i).th (ofNat u)=true):(Ex.nm,(⟨jsV 239 0 Ab [(1,.ptr 0 0),(3,.jref 1),(5,.ref 2),(7,.ref 3),(11,nV u),(15,.ept 4 1 0 0),(16,iV (wr .i64 (Ah (ofNat i) 1)))],[.cells [iV s.arch,.sl 6 s.ne (λi=>eV (s.E i)),.sl 5 s.nx (λi=>evV (s.X i)),iV s.tt,iV s.kk,.sl 1 s.nr (λi=>iV (s.R i)),.sl 1 s.nc (λu=>.sl 1 (s.C u).1 (λi=>iV ((s.C u).2 i)))],codJ s,.row 3 1 s.nx (λk=>iV (rg9 s k)),.row 68 5 (Dy (inL s (toN s.tt))) (Ja (inL s (toN s.tt))),.row 64 1 32 (BA (λr=>iV (wI s u i r)) (toN (ID (inL s (toN s.tt)) i).rg) (iV (wr .i64 (Ah (wI s u i (toN (ID (inL s (toN s.tt)) i).rg)) 1))))]⟩:St))=(Ex.nm,Vb s u (wr .i64 (Ah (ofNat i) 1)) ()):=by
 have hl:=h.hl;obtain ⟨h7,h31,_⟩:=h.ini i hi;obtain ⟨_,_,hz⟩:=LR h7 h31;unfold Vb wI;rw [C6 hi (by omega),Air (by unfold iP; rw [hth,<- hz,eI]; rfl) (λr hr=>by
  unfold iP;rw [hth,show ieq (ID (inL s (toN s.tt)) i).rg (ofNat r)=false from decide_eq_false (by rw [hz]; intro e; exact hr (Int.ofNat.inj e).symm)];rfl) (by omega)]
 rfl
theorem Aho {i:Nat} (hi:i<Dy (inL s (toN s.tt))) (hth:ieq (ID (inL s (toN s.tt)) i).th (ofNat u)=false):(Ex.nm,T5 s u [(16,iV (wr .i64 (Ah (ofNat i) 1)))] (wI s u i))=(Ex.nm,Vb s u (wr .i64 (Ah (ofNat i) 1)) ()):=by
 have hl:=h.hl;unfold Vb wI T5;rw [C6 hi (by omega),Ais (λr=>by unfold iP; rw [hth]; rfl)];rfl
theorem Alo:(A4 (B5 2 L) Aet 4611686018427387905 (Vb s u 0 ())).sem=some (Wi s u) :=
 AD (R:=exR) Bq (S:=λc a _=>Vb s u c a) (j:=λ_=>.und) (g:=Aks s u) (fin:=λ_=>Wi s u) (e:=Wi s u) (n:=Dy (inL s (toN s.tt))) (by have:=h.hl; omega)
  (λi a j r hi he=>DK.ok (L:=goR (λc a _=>Vb s u c a) exR i) (.c (λhth=>.k (ofNat_lt hi) <| .k (Ae hi) <| .k (decide_eq_true hi) <| .r 3 hth <| .k (Ae hi) <| .r 2 hth <| .k (decide_eq_true hi) <| .r 2 hth <| .r 3 (h.ini i hi).1 <| .k (Ae hi) <| .r 2 (h.ini i hi).1 <| .k (decide_eq_true hi) <| .k (h.ini i hi).1 <| .k hth <| .k (h.ini i hi).1 <| .k hth <| .r 3 (h.ini i hi).2.1 <| .k (Ae hi) <| .r 3 (h.ini i hi).2.1 <| .k (decide_eq_true hi) <| .k (h.ini i hi).2.1 <| .k hth <| .k (h.ini i hi).2.1 <| .k hth <| .k (h.ini i hi).2.2 <| .k (Ae hi) <| .k (decide_eq_true hi) <| .k hth <| .k (Ae hi) <| .k (decide_eq_true hi) <| .k (LR (h.ini i hi).1 (h.ini i hi).2.1).1 <| .k (LR (h.ini i hi).1 (h.ini i hi).2.1).2.1 <| .k (LR (h.ini i hi).1 (h.ini i hi).2.1).1 <| .k (LR (h.ini i hi).1 (h.ini i hi).2.1).2.1 <| .e (AjV h hi hth)) λhth=>.k (ofNat_lt hi) <| .k (Ae hi) <| .k (decide_eq_true hi) <| .r 11 hth <| .k eF <| .k (Ae hi) <| .k (decide_eq_true hi) <| .k hth <| .e (Aho h hi hth)) (by kernel_rfl) he)
  (λa j=>DK.ok (C:=.leaf (Wi s u)) (L:=exR) (.k (Au (Nat.le_refl (Dy (inL s (toN s.tt))))) .l) (by kernel_rfl) rfl) (Nat.zero_add _).symm (by have:=h.hl; omega)
  (BE (acc:=λ_=>()) (λi _=>by
   unfold Aks;cases ieq (ID (inL s (toN s.tt)) i).th (ofNat u) <;> rfl) _ _ (Nat.zero_add _))
theorem AjU {i:Nat} (hi:i<CS (cdL s s.nx u)) (h7:ile 7 (dsI (I6 s u i))=true):(Ex.nm,(⟨jsV 239 0 Ab [(1,.ptr 0 0),(3,.jref 1),(5,.ref 2),(7,.ref 3),(11,nV u),(15,.ept 4 1 0 0),(17,iV (wr .i64 (Ah (ofNat i) 1)))],[.cells [iV s.arch,.sl 6 s.ne (λi=>eV (s.E i)),.sl 5 s.nx (λi=>evV (s.X i)),iV s.tt,iV s.kk,.sl 1 s.nr (λi=>iV (s.R i)),.sl 1 s.nc (λu=>.sl 1 (s.C u).1 (λi=>iV ((s.C u).2 i)))],codJ s,.row 3 1 s.nx (λk=>iV (rg9 s k)),.row 68 5 (Dy (inL s (toN s.tt))) (Ja (inL s (toN s.tt))),.row 64 1 32 (BA (λr=>iV (wC s u i r)) (toN (dsI (I6 s u i))) (iV (wr .i64 (Ah (wC s u i (toN (dsI (I6 s u i)))) 1))))]⟩:St))=(Ex.nm,XM s u (wr .i64 (Ah (ofNat i) 1)) ()):=by
 have hl:=h.hl;have hn:=h.lk.hn;have h31:=SN (h.lk.ok i hi);obtain ⟨_,_,hz⟩:=LR (Sw h7) h31;have hc:=By (iP s u (toN (dsI (I6 s u i)))) (Dy (inL s (toN s.tt)));unfold XM wC;rw [C6 hi (by omega),Air (by unfold cP; rw [h7,<- hz,eI]; rfl) (λr hr=>by
  unfold cP;rw [h7,show ieq (dsI (I6 s u i)) (ofNat r)=false from decide_eq_false (by rw [hz]; intro e; exact hr (Int.ofNat.inj e).symm)];rfl) (by unfold bI; omega)]
 rfl
theorem Ahn {i:Nat} (hi:i<CS (cdL s s.nx u)) (h7:ile 7 (dsI (I6 s u i))=false):(Ex.nm,T5 s u [(17,iV (wr .i64 (Ah (ofNat i) 1)))] (wC s u i))=(Ex.nm,XM s u (wr .i64 (Ah (ofNat i) 1)) ()):=by
 have hn:=h.lk.hn;unfold XM wC T5;rw [C6 hi (by omega),Ais (λr=>by unfold cP; rw [h7]; rfl)];rfl
theorem Aln (hu:u<toN s.tt):(A4 (B5 4 L) Aes 4611686018427387905 (T5 s u [(17,iV 0)] (wI s u (Dy (inL s (toN s.tt)))))).sem=some (Wh s u) :=
 AD (R:=exR) Bq (S:=λc a _=>XM s u c a) (j:=λ_=>.und) (g:=Akr s u) (fin:=λ_=>Wh s u) (e:=Wh s u) (n:=CS (cdL s s.nx u)) (by have:=h.lk.hn; omega)
  (λi a j r hi he=>DK.ok (L:=goR (λc a _=>XM s u c a) exR i) (.k (Ae hu) <| .k (decide_eq_true hu) <| .r 2 eT <| .k (ofNat_lt hi) <| .k (Ae hu) <| .k (decide_eq_true hu) <| .r 2 eT <| .k (Ae hi) <| .k eT <| .k (decide_eq_true hi) <| .k eT <| .k (ML (h.lk.ok i hi)) <|
   .c (λh7=>.k h7 <| .k (LR (Sw h7) (SN (h.lk.ok i hi))).1 <| .k (LR (Sw h7) (SN (h.lk.ok i hi))).2.1 <| .k (LR (Sw h7) (SN (h.lk.ok i hi))).1 <| .k (LR (Sw h7) (SN (h.lk.ok i hi))).2.1 <| .e (AjU h hi h7)) λh7=>.k h7 <| .e (Ahn h hi h7)) (by kernel_rfl) he)
  (λa j=>DK.ok (C:=.leaf (Wh s u)) (L:=exR) (.k (Ae hu) <| .k (decide_eq_true hu) <| .r 2 eT <| .k (Au (Nat.le_refl (CS (cdL s s.nx u)))) .l) (by kernel_rfl) rfl) (Nat.zero_add _).symm (by have:=h.lk.hn; omega)
  (BE (acc:=λ_=>()) (λi _=>by
   unfold Akr;cases ile 7 (dsI (I6 s u i)) <;> rfl) _ _ (Nat.zero_add _))
theorem Alm (hp:plB s=true):(A4 (B5 6 L) Aer 4611686018427387905 (AhJ s u 0 ())).sem=some (Wg s u) :=
 AD (R:=exR) Bq (S:=λc a _=>AhJ s u c a) (j:=λ_=>.und) (g:=Akq s u) (fin:=λ_=>Wg s u) (e:=Wg s u) (n:=s.nx) (by have:=(B0 hp).1; omega)
  (λi a j r hi he=>DK.ok (L:=goR (λc a _=>AhJ s u c a) exR i) (.c (λhth=>.c (λhd=>.k (ofNat_lt hi) <| .k (Ae hi) <| .r 4 hth <| .k (Ae hi) <| .r 4 hth <| .k hd <| .k (Ae hi) <| .k (decide_eq_true hi) <| .r 3 (h.rd i hi hth hd).1 <| .k (Ae hi) <| .k (h.rd i hi hth hd).1 <| .k (decide_eq_true hi) <| .r 2 (h.rd i hi hth hd).1 <| .r 3 (h.rd i hi hth hd).2.1 <| .k (Ae hi) <| .k (h.rd i hi hth hd).2.1 <| .k (decide_eq_true hi) <| .k (h.rd i hi hth hd).2.1 <| .k (LR (h.rd i hi hth hd).1 (h.rd i hi hth hd).2.1).1 <| .k (h.rd i hi hth hd).2.1 <| .k (LR (h.rd i hi hth hd).1 (h.rd i hi hth hd).2.1).2.1 <| .r 2 (h.rd i hi hth hd).2.1 <| .k (eN (h.rd i hi hth hd).2.2) <| .l) λhd=>.k (ofNat_lt hi) <| .k (Ae hi) <| .r 4 hth <| .k (Ae hi) <| .r 4 hth <| .k hd <| .l) λhth=>.k (ofNat_lt hi) <| .k (Ae hi) <| .r 8 hth <| .k eF <| .l) (by kernel_rfl) he)
  (λa j=>DK.ok (C:=.leaf (Wg s u)) (L:=exR) (.k (Au (Nat.le_refl s.nx)) .l) (by kernel_rfl) rfl) (Nat.zero_add _).symm (by have:=(B0 hp).1; omega)
  (BE (acc:=λ_=>()) (λi _=>by
   unfold Akq;cases ieq (s.X i).th (ofNat u) <;> cases ieq (s.X i).dir 1 <;> rfl) _ _ (Nat.zero_add _))
theorem All:(A4 (B5 8 L) Aeq 4611686018427387905 (AhI s u 0 ())).sem=some (We s u) :=
 AD (R:=exR) Bq (S:=λc a _=>AhI s u c a) (j:=λ_=>.und) (g:=g5) (fin:=λ_=>We s u) (e:=We s u) (n:=32) (by omega)
  (λi a j r hi he=>DK.ok (L:=goR (λc a _=>AhI s u c a) exR i) (.k (ofNat_lt hi) <| .k (Ae hi) <| .k (decide_eq_true hi) <| .k (h.top i hi) <| .l) (by kernel_rfl) he)
  (λa j=>DK.ok (C:=.leaf (We s u)) (L:=exR) (.k (Au (Nat.le_refl 32)) .l) (by kernel_rfl) rfl) (Nat.zero_add _).symm (by omega)
  (BE (acc:=λ_=>()) (λ_ _=>rfl) _ _ (Nat.zero_add _))
end
def ls5:List (Nat×Lp×List (Nat×(Nat->V))):=[(0,lp5,[]),(2,Aet,[]),(4,Aes,[]),(6,Aer,[]),(8,Aeq,[])]
def fn5:Ex×St:=(.ex 0,⟨jsV 239 0 Ab [],[]⟩)
theorem r5 {s:Sh7} (hp:plB s=true) (hR:∀ u,u<toN s.tt->RgOK s u):(A4 (B5 0 (Go.Sy.askL ls5)) lp5 4611686018427387905 (AhK s 0 ())).sem=some fn5 :=
 AD (R:=exR) Bq (S:=λc a _=>AhK s c a) (j:=λ_=>.und) (g:=g5) (fin:=λ_=>fn5) (e:=fn5) (n:=toN s.tt) (by have:=(B0 hp).2.1; omega)
  (λi a j r hi he=>DK.ok (L:=goR (λc a _=>AhK s c a) exR i) (.k (ofNat_lt hi) <| .k (Ae hi) <| .k (decide_eq_true hi) <| .k eT <| .k (eG [toN s.tt]) <| .k (eL (CS (cdL s s.nx i))) <| .k (ML (hR i hi).lk) <| .k (eN (eI 0)) <| .a (Alo (Go.Sy.askL ls5) (hR i hi)) <| .a (Aln (Go.Sy.askL ls5) (hR i hi) hi) <| .a (Alm (Go.Sy.askL ls5) (hR i hi) hp) <| .a (All (Go.Sy.askL ls5) (hR i hi)) <| .l) (by kernel_rfl) he)
  (λa j=>DK.ok (C:=.leaf fn5) (L:=exR) (.k (Au (Nat.le_refl (toN s.tt))) .l) (by kernel_rfl) rfl) (Nat.zero_add _).symm (by have:=(B0 hp).2.1; omega)
  (BE (acc:=λ_=>()) (λ_ _=>rfl) _ _ (Nat.zero_add _))
end Go.Proofs.YtkbafjceglhjhaaGreatDoor.Er
namespace Go.Proofs.YtkbafjceglhjhaaGreatDoor.Er
open Go.Sy Go Go.Proofs.YtkbafjceglhjhaaGreatDoor.Ed Go.Proofs.YtkbafjceglhjhaaGreatDoor.Sh
open Int (ofNat)
set_option maxRecDepth 100000
set_option maxHeartbeats 1000000
def Adk (e:E6):Bool:=!ieq e.kind 5 || (ile 2 e.fence && ile e.fence 11)
theorem Aab:(List.range 112).all (λk=>!EX 2 (ofNat k) || Adk (Df k))=true:=by kernel_rfl
theorem Ah5 {e:E6} (h:Jd 2 e=true):Adk e=true:=by
 rcases Ec e with ⟨k,hk,h0,hn,he,_⟩ | ⟨h2,_⟩
 ·have:=List.all_eq_true.1 Aab k (by simpa using hk)
  unfold Jd at h;rw [h0,hn] at h;rw [show EX 2 (ofNat k)=true from h,he] at this;simpa using this
 ·unfold Jd at h
  rw [h2] at h;cases h
theorem Wv {p q:Nat->Bool} (n:Nat) (h:∀ i,i<n->p i=true->q i=true):Ai p n <= Ai q n:=by
 induction n with
 | zero=>exact Nat.le_refl _
 | succ n ih =>
  have ih:=ih λi hi=>h i (by omega);cases hp:p n with
  | true=>rw [Bp hp,Bp (h n (by omega) hp)]; omega
  | false =>rw [B6 hp];have:=GB q n;omega
structure Gx (s:Sh7):Prop where
 crowd:∀ u,Ai (isT s u) s.nx <= 12
 val:∀ i,i<s.nx->ile (-2048) (s.X i).val=true∧ile (s.X i).val 2047=true
 loc:∀ i,i<s.nx->∃ k,k<16∧(s.X i).loc=ofNat k
 fen:∀ i,i<s.nx->Adk (s.E i)=true
theorem Akl {s:Sh7} (h:ieq (G2 s) 0=true):Gx s:=by
 have hg:=good h;have hc:Dn s=true:=by
  cases hc:Dn s with
  | true=>rfl
  | false =>unfold G2 at h;rw [hc] at h;cases h
 have ha:s.arch=2:=by
  unfold G2 at h;rw [hc,cond_true] at h;cases ha:ieq s.arch 2 with
  | true=>exact Cc ha
  | false=>rw [ha] at h; cases h
 unfold Dn at hc;obtain ⟨h1,hc⟩:=AS hc;unfold IK at hc;obtain ⟨_,hc⟩:=AS hc;obtain ⟨htt,hc⟩:=AS hc;obtain ⟨_,hc⟩:=AS hc;obtain ⟨hE,hc⟩:=AS hc;obtain ⟨hnx,hc⟩:=AS hc;obtain ⟨_,hc⟩:=AS hc;obtain ⟨_,hX⟩:=AS hc;have hy:=Bj h1;have hG:=Ev hy;have hnx:s.nx=s.ne:=Int.ofNat.inj (Cc hnx);have hE:∀ i,i<s.ne->s.E i=shG s.ne s.E i:=(JD.1 hE).2;have hX:∀ i,i<s.nx->s.X i=evF s.ne (shG s.ne s.E) (λ_=>true) i:=λi hi=>RB (AE.1 hX i hi);have hn16:s.ne <= 16:=hnx ▸ hg.hi;have hth:∀ i,i<s.nx->(s.X i).th=Az (obF (shG s.ne s.E)) s.ne i:=λi hi=>by
  rw [hX i hi,Cz (by omega)];rfl
 refine ⟨λu=>?_,λi hi=>?_,λi hi=>?_,λi hi=>?_⟩
 ·by_cases hu:∃ k,k<s.nx∧isT s u k=true
  ·obtain ⟨k,hk,hku⟩:=hu
   have hcr:=hG.crowd k (by omega)
   replace hcr:ilt 12 (Lg s.ne (Az (λk=>A2 (shG s.ne s.E k)) s.ne) (λ_=>true) (Az (λk=>A2 (shG s.ne s.E k)) s.ne k))=false:=hcr
   have hcr:=of_decide_eq_false hcr;have:Ai (isT s u) s.nx <= Ai (Co (Az (λk=>A2 (shG s.ne s.E k)) s.ne) (λ_=>true) (Az (λk=>A2 (shG s.ne s.E k)) s.ne k)) s.nx:=by
    refine Wv s.nx λi hi hiu=>?_;unfold Co;unfold isT at hiu hku;have e1:=hth i hi;have e2:=hth k hk;have e3:=Nat.eq_of_beq_eq_true hiu;have e4:=Nat.eq_of_beq_eq_true hku;rw [hg.th i hi] at e1 e3;rw [hg.th k hk] at e2 e4;have e5:Ai (obE s) i=Ai (obE s) k:=e3.symm.trans e4;show Aj (ieq (Az (obF (shG s.ne s.E)) s.ne i) (Az (obF (shG s.ne s.E)) s.ne k)) true=true;rw [<- e1,<- e2,e5,eI];rfl
   unfold Lg at hcr;rw [<- hnx] at hcr this;have hcr:¬ ((12:Int)<((Ai (Co (Az (λk=>A2 (shG s.nx s.E k)) s.nx) (λ_=>true) (Az (λk=>A2 (shG s.nx s.E k)) s.nx k)) s.nx:Nat):Int)):=hcr;omega
  ·rw [Dc λi hi=>by
    cases hb:isT s u i with
    | false=>rfl
    | true=>exact absurd ⟨i,hi,hb⟩ hu]
   omega
 ·rw [hX i hi,Cz (by omega)]
  show ile (-2048) (ofNat (P3 _ _ _ _))=true∧ile (ofNat (P3 _ _ _ _)) 2047=true;have h2:=By (λt=>wrF (shG s.ne s.E) (rnd s.ne (Fc (mbF (shG s.ne s.E)) s.ne i) t)) (FG (mbF (shG s.ne s.E)) s.ne i+1);have h3:FG (mbF (shG s.ne s.E)) s.ne i <= s.ne:=by
   unfold FG;exact Acn _ _
  unfold P3 wcN;generalize Ai (λt=>wrF (shG s.ne s.E) (rnd s.ne (Fc (mbF (shG s.ne s.E)) s.ne i) t)) (FG (mbF (shG s.ne s.E)) s.ne i+1)=v at h2 ⊢;exact ⟨decide_eq_true (by show (-2048:Int) <= (v:Int); omega),decide_eq_true (by show (v:Int) <= 2047; omega)⟩
 ·rw [hX i hi,Cz (by omega)]
  show ∃ k,k<16∧loF s.ne (shG s.ne s.E) i=ofNat k;refine ⟨_,?_,Z3 (by omega)⟩;have:=JJ (p:=mbF (shG s.ne s.E)) (n:=s.ne) (k:=i) (by omega);have:=By (mbF (shG s.ne s.E)) s.ne;unfold loN;omega
 ·rw [hE i (by omega)]
  have:=hG.legal i (by omega);unfold Do AN at this;rw [ha] at this;have:=(AS (by simpa using this)).2;exact Ah5 this
end Go.Proofs.YtkbafjceglhjhaaGreatDoor.Er
namespace Go.Proofs.YtkbafjceglhjhaaGreatDoor.Er
open Go.Sy Go Go.Proofs.YtkbafjceglhjhaaGreatDoor.Ed Go.Proofs.YtkbafjceglhjhaaGreatDoor.Sh
open Int (ofNat)
set_option maxRecDepth 100000
set_option maxHeartbeats 1000000
theorem Vx {k:Nat} (h:k <= 31):rgB (ofNat k)=true:=by
 unfold rgB;rw [show ile 0 (ofNat k)=true from decide_eq_true (Int.natCast_nonneg _),show ile (ofNat k) 31=true from decide_eq_true (by show (k:Int) <= 31; omega)];rfl
theorem VD (s:Sh7) (u:Nat):∀ m,Bn (locL s m u) <= Ai (isT s u) m
 | 0=>Nat.le_refl _
 | m+1=>by
  have:=VD s u m;rw [locL];cases h:Nat.beq u (toN (s.X m).th) with
  | false =>rw [bFA,cond_false];have:=GB (isT s u) m;omega
  | true =>
   rw [Bp (show isT s u m=true from h)];cases ieq (Hu (Bn (locL s m u)) (E3 (locL s m u)) (s.X m).loc) 0 with
   | true =>unfold Bn at this ⊢;simp only [bTA,cond_true,List.length_append,List.length_singleton];omega
   | false=>simp only [bTA,cond_false]; omega
theorem AaG {n:Nat} {f:Nat->Int} {lc:Int} (hn:n <= 1000) (h:∃ k,k<n∧f k=lc):∃ k,k<n∧Hu n f lc=ofNat (7+k)∧f k=lc:=by
 unfold Hu tO;cases hq:AQ (λk=>ieq (f k) lc) n 0 with
 | none =>obtain ⟨k,hk,hf⟩:=h;have:=CL.1 hq k (Nat.zero_le _) (by omega);rw [hf,eI] at this;cases this
 | some k =>
  obtain ⟨_,h2,h3⟩:=HS hq;exact ⟨k,by omega,by
   show wr .i64 (Ah 7 (ofNat k))=_;exact K6 (k:=7+k) (by omega),Cc h3⟩
theorem AaH {n:Nat} {f:Nat->Int} {lc:Int} (hn:n <= 1000) (h:ieq (Hu n f lc) 0=false):∃ k,k<n∧f k=lc:=by
 unfold Hu at h;cases hq:AQ (λk=>ieq (f k) lc) n 0 with
 | none=>rw [hq] at h; cases h
 | some k =>obtain ⟨_,h2,h3⟩:=HS hq;exact ⟨k,by omega,Cc h3⟩
theorem Ahz {l:List Int} {x:Int} {k:Nat} (h:k<Bn l):E3 (l++[x]) k=E3 l k:=by
 unfold E3 Bn at *;simp only [List.getD_eq_getElem?_getD];rw [List.getElem?_append_left h]
theorem Ahy {l:List Int} {x:Int}:E3 (l++[x]) (Bn l)=x:=by
 unfold E3 Bn;simp
theorem loc_in (s:Sh7) (u:Nat):∀ m,m <= 16->∀ i,i<m->isT s u i=true->∃ k,k<Bn (locL s m u)∧E3 (locL s m u) k=(s.X i).loc
 | 0,_,_,hi,_=>absurd hi (Nat.not_lt_zero _)
 | m+1,hm,i,hi,hT=>by
  have hl:=FT (s:=s) u m;have hc:isT s u m=true->ieq (Hu (Bn (locL s m u)) (E3 (locL s m u)) (s.X m).loc) 0=false->∃ k,k<Bn (locL s m u)∧E3 (locL s m u) k=(s.X m).loc:=λ_ h2=>AaH (by omega) h2;have hlen:∀ l:List Int,∀ x,Bn (l++[x])=Bn l+1:=λl x=>by unfold Bn; simp
  rw [locL];by_cases him:i=m
  ·subst him
   unfold isT at hT;rw [hT,bTA];cases h2:ieq (Hu (Bn (locL s i u)) (E3 (locL s i u)) (s.X i).loc) 0 with
   | true=>exact ⟨Bn (locL s i u),by rw [cond_true,hlen]; omega,by rw [cond_true]; exact Ahy⟩
   | false=>exact hc (by unfold isT; exact hT) h2
  ·obtain ⟨k,hk,he⟩:=loc_in s u m (by omega) i (by omega) hT
   cases Nat.beq u (toN (s.X m).th) && ieq (Hu (Bn (locL s m u)) (E3 (locL s m u)) (s.X m).loc) 0 with
   | true=>exact ⟨k,by rw [cond_true,hlen]; omega,by rw [cond_true,Ahz hk]; exact he⟩
   | false=>exact ⟨k,hk,he⟩
section
variable {s:Sh7} (hg:Gs s) (hx:Gx s)
include hg hx
theorem Nh (u:Nat):Bn (locL s s.nx u) <= 12:=have _:=hg;Nat.le_trans (VD s u s.nx) (hx.crowd u)
theorem AkK {i:Nat} (hi:i<s.nx):∃ k,k<Bn (locL s s.nx (toN (s.X i).th))∧at9 s i=ofNat (7+k):=by
 have h12:=Nh hg hx (toN (s.X i).th);obtain ⟨k,h1,h2,_⟩:=AaG (f:=E3 (locL s s.nx (toN (s.X i).th))) (lc:=(s.X i).loc) (by omega) (loc_in s (toN (s.X i).th) s.nx hg.hi i hi (Nat.beq_refl _));exact ⟨k,h1,h2⟩
theorem Aei {u j:Nat} (hj:j<s.nx) (hT:isT s u j=true):nrF s j u <= 11:=by
 have _:=hg;have h1:=hx.crowd u;have h2:=AO (isT s u) (show j+1 <= s.nx by omega);rw [Bp hT] at h2;have h3:nrF s j u <= Ai (isT s u) j:=Wv j λk _ hk=>by
  simp only [Bool.and_eq_true] at hk;exact hk.1
 omega
theorem Ae9 (u:Nat) (z:Int):gtF s s.nx u z=0 ∨ ∃ k,7 <= k∧k <= 30∧gtF s s.nx u z=ofNat k:=by
 unfold gtF;cases h:hsF s s.nx u z with
 | false=>exact .inl rfl
 | true =>
  rw [Hh] at h;unfold hsX at h;simp only [Bool.and_eq_true] at h;obtain ⟨h0,h1,h2,_⟩:=h;have h0:=of_decide_eq_true h0;have h1:=of_decide_eq_true h1;obtain ⟨j,rfl⟩:=Int.eq_ofNat_of_zero_le h0;have hj:j<s.nx:=by
   have:(j:Int)<(s.nx:Int):=h1;omega
  have:=Aei hg hx hj h2;have:=Nh hg hx u;exact .inr ⟨7+Bn (locL s s.nx u)+nrF s j u,by omega,by omega,rfl⟩
theorem Ae8 (u:Nat) (z:Int):rgB (gtF s s.nx u z)=true:=by
 rcases Ae9 hg hx u z with h | ⟨k,_,h2,h⟩
 ·rw [h]; rfl
 ·rw [h]; exact Vx (by omega)
theorem AkJ {i:Nat} (hi:i<s.nx):rgB (at9 s i)=true∧ilt 5 (at9 s i)=true∧ilt 6 (at9 s i)=true:=by
 obtain ⟨k,h1,h2⟩:=AkK hg hx hi;have:=Nh hg hx (toN (s.X i).th);rw [h2];exact ⟨Vx (by omega),decide_eq_true (by show (5:Int)<((7+k:Nat):Int); omega),decide_eq_true (by show (6:Int)<((7+k:Nat):Int); omega)⟩
end
end Go.Proofs.YtkbafjceglhjhaaGreatDoor.Er
namespace Go.Proofs.YtkbafjceglhjhaaGreatDoor.Er
open Go.Sy Go Go.Proofs.YtkbafjceglhjhaaGreatDoor.Ed Go.Proofs.YtkbafjceglhjhaaGreatDoor.Sh
open Int (ofNat)
set_option maxRecDepth 100000
set_option maxHeartbeats 1000000
section
variable {s:Sh7} (hg:Gs s) (hx:Gx s) {i:Nat}
theorem Aef (hg:Gs s) (hi:i<s.nx) (h:ilt 0 (s.X i).pl=true):0<i∧obE s (i-1)=false:=by
 rcases Nat.eq_zero_or_pos i with h0 | h0
 ·rw [AgU hg (.inl h0) hi] at h
  cases h
 ·refine ⟨h0,?_⟩
  cases hb:obE s (i-1) with
  | false=>rfl
  | true =>rw [AgU hg (.inr hb) hi] at h;cases h
theorem Aak (hg:Gs s) (hi:i<s.nx) (h0:0<i):ed9 s i=s.E (i-1):=by
 unfold ed9;rw [Ai8 hg h0 hi];rfl
include hg hx
theorem Alh (hi:i<s.nx) (h:ilt 0 (s.X i).pl=true) (hk:ieq (ed9 s i).kind 8=true):ilt 0 (rP9 s i)=true:=by
 obtain ⟨h0,hb⟩:=Aef hg hi h;have hi1:i-1<s.nx:=by omega
 have he:=hg.ok (i-1) hi1;rw [Aak hg hi h0] at hk;unfold Adm at he;rw [hk] at he;simp only [Bool.or_true,Bool.not_true,Bool.and_eq_true,Bool.or_eq_true] at he;have hr:(s.E (i-1)).src=1:=by
  rcases he.2.1 with h | h
  ·cases h
  ·exact Cc h.1
 have ht:tN s i=tN s (i-1):=by
  have h2:=B6 hb;rw [show i-1+1=i by omega] at h2;exact h2
 have hh:hsF s s.nx (tN s (i-1)) (ofNat (i-1))=true:=by
  rw [Hh];unfold hsX isT isR;rw [show toN (ofNat (i-1))=i-1 from rfl,Aiy hg hi1,Nat.beq_refl,hg.dir _ hi1,hr,show ilt (ofNat (i-1)) (ofNat s.nx)=true from ofNat_lt hi1];simp [ile,ieq]
 unfold rP9;rw [Aiy hg hi,ht,Ai8 hg h0 hi];rcases Ae9 hg hx (tN s (i-1)) (ofNat (i-1)) with h | ⟨k,h1,_,h2⟩
 ·unfold gtF at h
  rw [hh,cond_true] at h;have:=Int.ofNat.inj (h.trans (show (0:Int)=ofNat 0 from rfl));omega
 ·rw [h2]
  exact decide_eq_true (by show (0:Int)<(k:Int); omega)
theorem AdK (hi:i<s.nx) {a:Int} (ha:rgB a=true) (h5:ilt 5 a=true):∀ I,I ∈ (tl9 s i a).flatten->IsI I:=by
 have hr:=Ae8 hg hx (toN (s.X i).th);have hv:=hx.val i hi;intro I hI;unfold tl9 at hI;cases h1:ieq (s.X i).dir 1 with
 | true =>rw [h1] at hI;simp at hI;subst hI;exact .lw (hr _) ha
 | false =>
  rw [h1] at hI;cases h7:ieq (ed9 s i).kind 7 with
  | true =>
   rw [h7] at hI;simp at hI;rcases hI with rfl | rfl | rfl
   ·exact .xor rfl (hr _)
   ·exact .ori rfl hv.1 hv.2
   ·exact .sw ha h5
  | false =>
   rw [h7] at hI;simp at hI;rcases hI with rfl | rfl
   ·exact .ori rfl hv.1 hv.2
   ·exact .sw ha h5
theorem Z9 (hi:i<s.nx):nmB (Gr (lbN s i))=true:=have _:=hx;AgY (by
 have:=Sk s i;have:=hg.hi;omega)
omit hg hx in
theorem PH:D2 s i=bif ilt 0 (s.X i).pl then
  (bif ieq (ed9 s i).kind 5 then [fcI s i]::tl9 s i (at9 s i)
  else bif ieq (ed9 s i).kind 8 then [bnI s i (Gr (lbN s i)),lbI (Gr (lbN s i))]::tl9 s i (at9 s i)
  else bif ieq (ed9 s i).kind 6 then [xr6 s i,ad6 s i]::tl9 s i 6
  else tl9 s i (at9 s i))
 else bif ieq (s.X i).dir 1 then [[lwI s i (at9 s i)]] else [[or0 s i],[swI (at9 s i)]]:=by
 unfold D2 Gr;cases ieq (ofNat (IB (CY (ofNat (lbN s i))))) 1 <;> rfl
theorem AfZ (hi:i<s.nx):∀ I,I ∈ (D2 s i).flatten->IsI I:=by
 obtain ⟨ha,h5,h6⟩:=AkJ hg hx hi;have hr:=Ae8 hg hx (toN (s.X i).th);have hv:=hx.val i hi;have ht:=AdK hg hx hi ha h5;intro I hI;rw [PH] at hI;cases hp:ilt 0 (s.X i).pl with
 | false =>
  rw [hp,cond_false] at hI;cases h1:ieq (s.X i).dir 1 with
  | true =>rw [h1] at hI;simp at hI;subst hI;exact .lw (hr _) ha
  | false =>
   rw [h1] at hI;simp at hI;rcases hI with rfl | rfl
   ·exact .ori rfl hv.1 hv.2
   ·exact .sw ha h5
 | true =>
  obtain ⟨h0,hb⟩:=Aef hg hi hp;rw [hp,cond_true] at hI;cases k5:ieq (ed9 s i).kind 5 with
  | true =>
   rw [k5,cond_true,List.flatten_cons] at hI;rcases List.mem_append.1 hI with h | h
   ·simp at h
    subst h;have hf:=hx.fen (i-1) (by omega);rw [Aak hg hi h0] at k5;unfold Adk at hf;rw [k5] at hf;simp only [Bool.not_true,Bool.or_eq_true,Bool.and_eq_true] at hf;unfold fcI;rw [Aak hg hi h0];rcases hf with h | h
    ·cases h
    ·exact .fen h.1 h.2
   ·exact ht I h
  | false =>
   rw [k5,cond_false] at hI;cases k8:ieq (ed9 s i).kind 8 with
   | true =>
    rw [k8,cond_true,List.flatten_cons] at hI;rcases List.mem_append.1 hI with h | h
    ·simp at h
     rcases h with rfl | rfl
     ·exact .bne (hr _) (Alh hg hx hi hp k8) (Z9 hg hx hi)
     ·exact .lab (Z9 hg hx hi)
    ·exact ht I h
   | false =>
    rw [k8,cond_false] at hI;cases k6:ieq (ed9 s i).kind 6 with
    | true =>
     rw [k6,cond_true,List.flatten_cons] at hI;rcases List.mem_append.1 hI with h | h
     ·simp at h
      rcases h with rfl | rfl
      ·exact .xor rfl (hr _)
      ·exact .add ha h6
     ·exact AdK hg hx hi rfl rfl I h
    | false =>rw [k6,cond_false] at hI;exact ht I hI
theorem Aa3 (u:Nat):∀ m,m <= s.nx->∀ I,I ∈ cdL s m u->IsI I
 | 0,_,I,hI=>by cases hI
 | m+1,hm,I,hI=>by
  rw [cdL] at hI;cases h:Nat.beq u (toN (s.X m).th) with
  | true =>
   rw [h,cond_true] at hI;rcases List.mem_append.1 hI with h | h
   ·exact Aa3 u m (by omega) I h
   ·exact AfZ hg hx (by omega) I h
  | false =>rw [h,cond_false] at hI;exact Aa3 u m (by omega) I hI
end
end Go.Proofs.YtkbafjceglhjhaaGreatDoor.Er
