/-
  The document's text of a cycle. No conditions.
-/
import Derived.Test.YtkbafjceglhjhaaGreatDoorCyX
import Derived.Test.YtkbafjceglhjhaaGreatDoorEsA
namespace Go.Proofs.YtkbafjceglhjhaaGreatDoor.Ed
open Go.Sy Go
open Int (ofNat)
set_option maxRecDepth 100000
noncomputable def Abw:A7:=[(79,AlY),(80,BX JZ)]
theorem Af5:Ao Tryz.prog Gl Abw:=.cons p98 <| .cons p27 .nil
def Ns (f:Nat->E6) (i:Nat):Bool:=ilt 262144 (ofNat (Bq (Dc f (i+1))))
theorem Rm {q:Nat->Bool}:∀ {d i:Nat},AN q d i=none->∀ k,i <= k->k<i+d->q k=false
 | 0,i,_,k,h1,h2=>by omega
 | d+1,i,h,k,h1,h2=>by
  cases hq:q i with
  | true=>rw [Dy hq] at h; cases h
  | false =>
   rw [Dz hq] at h;by_cases e:k=i
   ·rw [e]; exact hq
   ·exact Rm h k (by omega) (by omega)
def SH (n:Nat) (f:Nat->E6):Lp:=⟨bmK 36 0 [0,2,3,4,5],0,bmK 36 0 [2,3,4],0,n+1⟩
def Ul (n:Nat) (f:Nat->E6) (o:List UInt8) (i:Nat) (j:Nat->V):St:=⟨jsV 36 0 j [(0,.sl 6 n (λi=>eV (f i))),(2,.str []),(3,iV 0),(4,.str o),(5,nV i)],[]⟩
def Aeg (n:Nat) (f:Nat->E6) (o:List UInt8) (i:Nat):Ex×St:=(.ex 0,⟨jsV 36 0 Aa [(2,.str []),(3,iV 0),(4,.str o)],[]⟩)
def L8 (n:Nat) (f:Nat->E6) (o:List UInt8) (i:Nat):Ex×St:=(.rt,⟨jsV 36 0 Aa [(2,.str []),(3,iV 2),(4,.str o)],[]⟩)
noncomputable def Jj (L:LT):St->T (Ex×St):=λst=>AA tab ⟨Aw Abw,L,Gl⟩ (As Tryz.f52 0) 0 st
section
variable (L:LT) (n:Nat) (f:Nat->E6) (o:List UInt8) (i:Nat)  (j:Nat->V)
include L n f o i j
theorem AoE (h0:ilt (ofNat i) (ofNat n)=false):Au (Jj L) (SH n f) (Ul n f o i j)=some ((.ex 0),⟨jsV 36 0 Aa [(2,.str []),(3,iV 0),(4,.str o)],[]⟩):=by
 exact Ae (ks:=[kn h0]) (by kernel_rfl)
theorem Al0 (h0:ilt (ofNat i) (ofNat n)=true) (h2:ilt 0 (ofNat i)=false) (h1:Al (ile 0 (ofNat i)) (ilt (ofNat i) (ofNat n))=true) (h14:H6 o (Cc (f i))=true) (h3:ilt 262144 (ofNat (Bq (BK o (Cc (f i)))))=false):Au (Jj L) (SH n f) (Ul n f o i j)=some (.nm,⟨jsV 36 0 Aa [(0,.sl 6 n (λi=>eV (f i))),(2,.str []),(3,iV 0),(4,.str (BK o (Cc (f i)))),(5,iV (wr .i64 (Ai (ofNat i) 1)))],[]⟩):=by
 exact Ae (ks:=[kn h0,kn h2,kn h1,kn h14,kn h3]) (by kernel_rfl)
theorem Al1 (h0:ilt (ofNat i) (ofNat n)=true) (h2:ilt 0 (ofNat i)=false) (h1:Al (ile 0 (ofNat i)) (ilt (ofNat i) (ofNat n))=true) (h14:H6 o (Cc (f i))=true) (h3:ilt 262144 (ofNat (Bq (BK o (Cc (f i)))))=true):Au (Jj L) (SH n f) (Ul n f o i j)=some (.rt,⟨jsV 36 0 Aa [(2,.str []),(3,iV 2),(4,.str (BK o (Cc (f i))))],[]⟩):=by
 exact Ae (ks:=[kn h0,kn h2,kn h1,kn h14,kn h3]) (by kernel_rfl)
theorem Al2 (h0:ilt (ofNat i) (ofNat n)=true) (h2:ilt 0 (ofNat i)=true) (h14:H6 o [32]=true) (h1:Al (ile 0 (ofNat i)) (ilt (ofNat i) (ofNat n))=true) (h15:H6 (BK o [32]) (Cc (f i))=true) (h3:ilt 262144 (ofNat (Bq (BK (BK o [32]) (Cc (f i)))))=false):Au (Jj L) (SH n f) (Ul n f o i j)=some (.nm,⟨jsV 36 0 Aa [(0,.sl 6 n (λi=>eV (f i))),(2,.str []),(3,iV 0),(4,.str (BK (BK o [32]) (Cc (f i)))),(5,iV (wr .i64 (Ai (ofNat i) 1)))],[]⟩):=by
 exact Ae (ks:=[kn h0,kn h2,kn h14,kn h1,kn h15,kn h3]) (by kernel_rfl)
theorem Al3 (h0:ilt (ofNat i) (ofNat n)=true) (h2:ilt 0 (ofNat i)=true) (h14:H6 o [32]=true) (h1:Al (ile 0 (ofNat i)) (ilt (ofNat i) (ofNat n))=true) (h15:H6 (BK o [32]) (Cc (f i))=true) (h3:ilt 262144 (ofNat (Bq (BK (BK o [32]) (Cc (f i)))))=true):Au (Jj L) (SH n f) (Ul n f o i j)=some (.rt,⟨jsV 36 0 Aa [(2,.str []),(3,iV 2),(4,.str (BK (BK o [32]) (Cc (f i))))],[]⟩):=by
 exact Ae (ks:=[kn h0,kn h2,kn h14,kn h1,kn h15,kn h3]) (by kernel_rfl)
end
def Aqg (n:Nat) (f:Nat->E6) :Nat->V:=lkV AK [(8,.sl 6 n (λi=>eV (f i))),(9,bV (Di n f)),(10,bV (AQ (Di n f)))]
section
variable (L:LT) (p0:PT) (n:Nat) (f:Nat->E6) (o:List UInt8) (i:Nat)
include L p0 n f o i
theorem An1 (h0:Aq n=true) (h1:Di n f=true) (hp0:p0 (Jj (onP 0 p0 (L8 n f o i) L)) (Ul n f [] 0 (Aqg n f ))=true):(A0 (Aj tab ⟨Aw Abw,onP 0 p0 (L8 n f o i) L,Gl⟩ Tryz.f52 [AI n f] [])).sem=some ((.tup [.str [],iV 2]),[]):=by
 exact Ae (ks:=[kL n,kn h0,kN (kn h1),kn hp0]) (by kernel_rfl)
theorem An0 (h0:Aq n=true) (h1:Di n f=true) (hp0:p0 (Jj (onP 0 p0 (Aeg n f o i) L)) (Ul n f [] 0 (Aqg n f ))=true):(A0 (Aj tab ⟨Aw Abw,onP 0 p0 (Aeg n f o i) L,Gl⟩ Tryz.f52 [AI n f] [])).sem=some ((.tup [.str o,iV 0]),[]):=by
 exact Ae (ks:=[kL n,kn h0,kN (kn h1),kn hp0]) (by kernel_rfl)
end
theorem AbV (L:LT) (n:Nat) (f:Nat->E6) (h8:n * 40 <= 140737488355328):∀ (d i:Nat) (j:Nat->V) (q:Nat),n=i+d->d<q ->
  (Av (Jj L) (SH n f) q (Ul n f (Dc f i) i j)).sem=some (match AN (Ns f) d i with
   | none=>Aeg n f (Dc f n) n
   | some t=>L8 n f (Dc f (t+1)) t)
 | 0,i,j,q+1,h,_=>by
  have:n=i:=by omega
  subst this;exact Af (AoE L n f (Dc f n) n j (A1 (Nat.le_refl _)))
 | d+1,i,j,q+1,h,h2=>by
  have hl:i<n:=by omega
  have g1:=Yr f i;have g2:=Ld (f i);by_cases hi:0<i
  ·have hz:ilt 0 (ofNat i)=true:=by rw [show (0:Int)=ofNat 0 from rfl,Cw,decide_eq_true hi]
   have k1:H6 (Dc f i) [32]=true:=decide_eq_true (by simp only [List.length_cons,List.length_nil]; omega);have k2:H6 (BK (Dc f i) [32]) (Cc (f i))=true:=decide_eq_true (by simp only [BK,List.length_append,List.length_cons,List.length_nil]; omega);have pl:=O0 (f:=f) hi;cases c1:ilt 262144 (ofNat (Bq (BK (BK (Dc f i) [32]) (Cc (f i))))) with
    | true =>rw [Dy (show Ns f i=true by rw [Ns,pl]; exact c1)];show _=some (L8 n f (Dc f (i+1)) i);rw [show L8 n f (Dc f (i+1)) i=L8 n f (BK (BK (Dc f i) [32]) (Cc (f i))) i by rw [pl]];exact Af (Al3 L n f (Dc f i) i j (ofNat_lt hl) hz k1 (Ad hl) k2 c1)
    | false =>rw [Dz (show Ns f i=false by rw [Ns,pl]; exact c1),Af (Al2 L n f (Dc f i) i j (ofNat_lt hl) hz k1 (Ad hl) k2 c1),AT,A3 hl (by omega),<- pl];exact AbV L n f h8 d (i+1) Aa q (by omega) (by omega)
  ·have hz:ilt 0 (ofNat i)=false:=by rw [show (0:Int)=ofNat 0 from rfl,Cw,decide_eq_false hi]
   have k3:H6 (Dc f i) (Cc (f i))=true:=decide_eq_true (by omega);have pl:=Oz (f:=f) hi;cases c1:ilt 262144 (ofNat (Bq (BK (Dc f i) (Cc (f i))))) with
    | true =>rw [Dy (show Ns f i=true by rw [Ns,pl]; exact c1)];show _=some (L8 n f (Dc f (i+1)) i);rw [show L8 n f (Dc f (i+1)) i=L8 n f (BK (Dc f i) (Cc (f i))) i by rw [pl]];exact Af (Al1 L n f (Dc f i) i j (ofNat_lt hl) hz (Ad hl) k3 c1)
    | false =>rw [Dz (show Ns f i=false by rw [Ns,pl]; exact c1),Af (Al0 L n f (Dc f i) i j (ofNat_lt hl) hz (Ad hl) k3 c1),AT,A3 hl (by omega),<- pl];exact AbV L n f h8 d (i+1) Aa q (by omega) (by omega)
theorem p64:Ap Tryz.prog Gl 52 Sr:=by
 refine Ah A2 mixed Tryz.func52 (by kernel_rfl) (by kernel_rfl) λvs v h' h=>?_;obtain ⟨n,f,ha,h1⟩:=CM h;obtain ⟨hF,hq⟩:=Ac h1;have:=Ab hq;simp only [Prod.mk.injEq] at this;obtain ⟨rfl,rfl⟩:=this;have h8:n * 40 <= 140737488355328:=of_decide_eq_true hF;have hs:Aq n=true:=Xn (G8 hF);have hx:=Bh Af5 [(0,SH n f)];have hL:=Bb [(0,SH n f)];refine ⟨_,AO Gl Abw [(0,SH n f)],_,ha,rfl,hx.1,hx.2,?_,Am.refl _⟩;unfold Oy Ss;cases hm:Di n f with
 | false=>exact Ae (ks:=[kL n,kn hs,kN (kn hm)]) (by kernel_rfl)/-W:wc64f-/
 | true =>
  have h0:=λL j=>AbV L n f h8 n 0 j (n+1) (by omega) (by omega);have ht:∀ i,Ns f i=decide (262144<(Dc f (i+1)).length):=λi=>by
   unfold Ns;rw [show (262144:Int)=ofNat 262144 from rfl,Cw];rfl
  cases hq:AN (Ns f) n 0 with
  | some k =>
   rw [hq] at h0;obtain ⟨_,hk,hk2⟩:=GW hq;have hb:AaO n f=true:=by
    rw [ht] at hk2;have:=of_decide_eq_true hk2;have:=QK f (show k+1 <= n by omega);exact decide_eq_true (by omega)
   rw [hb];exact AW (AX hL hL) _ (An1 _ _ n f (Dc f (k+1)) k hs hm (A4 (h0 _ _)))
  | none =>
   rw [hq] at h0;have hb:AaO n f=false:=by
    cases n with
    | zero=>rfl
    | succ m =>have:=Rm hq m (Nat.zero_le m) (by omega);rw [ht] at this;exact this
   rw [hb];exact AW (AX hL hL) _ (An0 _ _ n f (Dc f n) n hs hm (A4 (h0 _ _)))
end Go.Proofs.YtkbafjceglhjhaaGreatDoor.Ed
namespace Go.Proofs.YtkbafjceglhjhaaGreatDoor.Er
open Go.Sy Go Go.Proofs.YtkbafjceglhjhaaGreatDoor.Ed Go.Proofs.YtkbafjceglhjhaaGreatDoor.Sh Go.Proofs.YtkbafjceglhjhaaGreatDoor.Em
open Int (ofNat)
set_option maxRecDepth 100000
set_option maxHeartbeats 1000000
def lcI (k:Nat):Ini5:=⟨-1,0,Cb (ofNat k),[],0⟩
def inU (i k:Nat):V:=bif Nat.blt k i then i5V (lcI k) else .und
def bLc (i:Nat):Blk:=.row 68 5 i (inU i)
theorem YL (i:Nat):Blk.row 68 5 (AE i 1) (AD i (inU i) (i5V (lcI i)))=bLc (i+1):=by
 refine congrArg (Blk.row 68 5 _) (funext λk=>?_);rw [Br];unfold inU;by_cases hk:k=i
 ·subst hk
  rw [show Nat.beq k k=true from Nat.beq_refl k,HY];rfl
 ·rw [Hx hk,HZ hk]
  rfl
def As1 (e:Nt):Ini5:=⟨e.th,e.rg,[],e.nm,0⟩
def teI (s:Sh7) (k:Nat):Ini5:=bif Nat.blt k (toN s.kk) then lcI k else As1 (Amt (LA s) (k-toN s.kk))
theorem XV (s:Sh7):∀ j,j<AE (toN s.kk) (Dw (LA s))->i5V (teI s j)=Bn (toN s.kk) (Dw (LA s)) (inU (toN s.kk)) (Hm (LA s)) j:=λj hj=>by
 rw [Ku _ _ _ _ j hj];unfold teI inU;cases hb:Nat.blt j (toN s.kk) <;> rfl
theorem klt {s:Sh7} {i:Nat} (hk:ieq (ofNat (toN s.kk)) s.kk=true) (hi:i<toN s.kk):ilt (ofNat i) s.kk=true:=by
 rw [<- BP hk];exact ofNat_lt hi
theorem kge {s:Sh7} (hk:ieq (ofNat (toN s.kk)) s.kk=true):ilt (ofNat (toN s.kk)) s.kk=false:=by
 rw [BP hk];simp [ilt]
theorem aI {i:Nat} (h:i <= 1023):Bs i 1 56=true:=decide_eq_true (by omega)
theorem aL {i m:Nat} (h:Nat.ble i 1023=true) (h2:Nat.ble m 1023=true):Bs i m 56=true:=by
 have:=Nat.le_of_ble_eq_true h;have:=Nat.le_of_ble_eq_true h2;exact decide_eq_true (by omega)
theorem AeC (n:Nat):Nat.ble n n=true:=Nat.ble_eq_true_of_le (Nat.le_refl n)
def cyS (s:Sh7):List UInt8:=Oy s.ne λi=>C5 s.ne s.E i
def Ak3 (s:Sh7) (nm:List UInt8) (l:List (Tg×Int)):V×List Blk:=(.tup [.agg [iV s.arch,.str nm,.str (cyS s),.ref 0,.jref 1,iV 1,iV (XJ l.length),iV (I7 l.length (gT l)).th,iV (I7 l.length (gT l)).rg,.str (I7 l.length (gT l)).lc,iV (XK l.length (gW l)),.ref 2],iV 0],
 [.row 68 5 (AE (toN s.kk) (Dw (LA s))) (λk=>i5V (teI s k)),Aax s,.row 46 6 (LV l.length) (ED (gT l) (gW l))])
def Ql (e:Int):V×List Blk:=(.tup [.agg [iV 0,.str [],.str [],.ref 0,.jref 1,iV 0,iV 0,iV 0,iV 0,.str [],iV 0,.nilS],iV e],[.row 68 5 0 Aa,jE])
def ZA (s:Sh7):Bool:=Fa s.nc && (BU s && (Nat.ble s.nx 1023 && (Nat.ble s.nc 1023 && (Di s.ne s.E && (ieq (ofNat (toN s.kk)) s.kk && (Nat.ble (toN s.kk) 1023 && (Nat.ble (Dw (LA s)) 1023 && UD (axR s (rg9 s)))))))))
theorem RN {s:Sh7} (h:ZA s=true):Fa s.nc=true∧BU s=true∧Nat.ble s.nx 1023=true∧Nat.ble s.nc 1023=true∧Di s.ne s.E=true∧ieq (ofNat (toN s.kk)) s.kk=true∧Nat.ble (toN s.kk) 1023=true∧Nat.ble (Dw (LA s)) 1023=true∧UD (axR s (rg9 s))=true:=by
 unfold ZA at h;simpa only [Bool.and_eq_true] using h
def VZ:List V->A5
 | [v,.str nm]=>apS v λs=>.br (g3S s) (.br (ieq (CQ s) 0) (.br (Aq (Bq nm)) (.br (Qk nm) (.br (ZA s) (.leaf (Ak3 s nm (axR s (rg9 s)))) .fail) (.leaf (Ql 130))) .fail) (.leaf (Ql (CQ s)))) .fail
 | _=>.fail
theorem Aqh {s:Sh7} (hw:ieq (CQ s) 0=true):codJ s=Aax s:=by
 unfold codJ Aax ntA KA okA;rw [hw];rfl
section
variable (s:Sh7) (nm:List UInt8) (l:List (Tg×Int))
def T26 (c:Int) (b:Blk):St:=⟨jsV 77 0 Aa [(2,.ptr 0 0),(4,.ptr 1 0),(5,iV 0),(8,.ptr 4 0),(49,iV s.kk),(50,iV c)],[.cells [iV s.arch,.sl 6 s.ne (λi=>eV (s.E i)),.sl 5 s.nx (λi=>evV (s.X i)),iV s.tt,iV s.kk,.sl 1 s.nr (λi=>iV (s.R i)),.sl 1 s.nc (λu=>.sl 1 (s.C u).1 (λi=>iV ((s.C u).2 i)))],.cells [iV 0,.str [],.str [],.nilS,.nilS,iV 0,iV 0,iV 0,iV 0,.str [],iV 0,.nilS],.jag ⟨63,1,ntA s,λ_=>.nilS,0,72,8,λ_=>true,λu=>BI (KA s u),λu=>WT (KA s u),none⟩,.row 46 6 (LV l.length) (ED (gT l) (gW l)),.cells [iV s.arch,.str nm,.str (cyS s),.ref 5,.jref 2,iV 1,iV (XJ l.length),iV (I7 l.length (gT l)).th,iV (I7 l.length (gT l)).rg,.str (I7 l.length (gT l)).lc,iV (XK l.length (gW l)),.ref 3],b,.row 76 6 s.ne (λi=>eV (C5 s.ne s.E i))]⟩
def X26 (b:Blk):Ex×St:=(.ex 0,⟨jsV 77 0 Aa [(2,.ptr 0 0),(4,.ptr 1 0),(5,iV 0),(8,.ptr 4 0)],[.cells [iV s.arch,.sl 6 s.ne (λi=>eV (s.E i)),.sl 5 s.nx (λi=>evV (s.X i)),iV s.tt,iV s.kk,.sl 1 s.nr (λi=>iV (s.R i)),.sl 1 s.nc (λu=>.sl 1 (s.C u).1 (λi=>iV ((s.C u).2 i)))],.cells [iV 0,.str [],.str [],.nilS,.nilS,iV 0,iV 0,iV 0,iV 0,.str [],iV 0,.nilS],.jag ⟨63,1,ntA s,λ_=>.nilS,0,72,8,λ_=>true,λu=>BI (KA s u),λu=>WT (KA s u),none⟩,.row 46 6 (LV l.length) (ED (gT l) (gW l)),.cells [iV s.arch,.str nm,.str (cyS s),.ref 5,.jref 2,iV 1,iV (XJ l.length),iV (I7 l.length (gT l)).th,iV (I7 l.length (gT l)).rg,.str (I7 l.length (gT l)).lc,iV (XK l.length (gW l)),.ref 3],b,.row 76 6 s.ne (λi=>eV (C5 s.ne s.E i))]⟩)
def T27 (c:Int) (b:Blk):St:=⟨jsV 75 0 Aa [(2,.ptr 0 0),(4,.ptr 1 0),(5,iV 0),(12,.ptr 4 0),(13,iV c)],[.cells [iV s.arch,.sl 6 s.ne (λi=>eV (s.E i)),.sl 5 s.nx (λi=>evV (s.X i)),iV s.tt,iV s.kk,.sl 1 s.nr (λi=>iV (s.R i)),.sl 1 s.nc (λu=>.sl 1 (s.C u).1 (λi=>iV ((s.C u).2 i)))],.cells [iV 0,.str [],.str [],.nilS,.nilS,iV 0,iV 0,iV 0,iV 0,.str [],iV 0,.nilS],.cells [iV 0,.str [],.str [],.nilS,.nilS,iV 0,iV 0,iV 0,iV 0,.str [],iV 0,.nilS],.row 76 6 s.ne (λi=>eV (C5 s.ne s.E i)),.cells [iV s.arch,.str nm,.str (cyS s),.ref 5,.jref 6,iV 0,iV 0,iV 0,iV 0,.str [],iV 0,.nilS],b,.jag ⟨63,1,0,λ_=>.und,0,72,8,λ_=>true,λ_=>0,λ_ _=>.und,none⟩]⟩
def X27 (b:Blk):Ex×St:=(.ex 0,⟨jsV 75 0 Aa [(2,.ptr 0 0),(4,.ptr 1 0),(5,iV 0),(12,.ptr 4 0)],[.cells [iV s.arch,.sl 6 s.ne (λi=>eV (s.E i)),.sl 5 s.nx (λi=>evV (s.X i)),iV s.tt,iV s.kk,.sl 1 s.nr (λi=>iV (s.R i)),.sl 1 s.nc (λu=>.sl 1 (s.C u).1 (λi=>iV ((s.C u).2 i)))],.cells [iV 0,.str [],.str [],.nilS,.nilS,iV 0,iV 0,iV 0,iV 0,.str [],iV 0,.nilS],.cells [iV 0,.str [],.str [],.nilS,.nilS,iV 0,iV 0,iV 0,iV 0,.str [],iV 0,.nilS],.row 76 6 s.ne (λi=>eV (C5 s.ne s.E i)),.cells [iV s.arch,.str nm,.str (cyS s),.ref 5,.jref 6,iV 0,iV 0,iV 0,iV 0,.str [],iV 0,.nilS],b,.jag ⟨63,1,0,λ_=>.und,0,72,8,λ_=>true,λ_=>0,λ_ _=>.und,none⟩]⟩)
end
def lp26:Lp:=⟨bmK 77 0 [2,4,5,8,49,50],7,bmK 77 0 [2,4,5,8],7,4611686018427387905⟩
def lp27:Lp:=⟨bmK 75 0 [2,4,5,12,13],7,bmK 75 0 [2,4,5,12],7,4611686018427387905⟩
def Aao:List (Nat×Lp×List (Nat×(Nat->V))):=[(0,lp26,[(5,inU 0)])]
def Aan:List (Nat×Lp×List (Nat×(Nat->V))):=[(0,lp27,[(5,inU 0)])]
noncomputable def tb26:A7:=(9,shT AmC)::(46,ZE)::(47,shT AmJ)::(48,Hv)::(49,Sr)::(13,shT AdD)::(39,SL)::[]
theorem tb26_ok:Ao Tryz.prog Gl tb26:=.cons p9A <| .cons ArV <| .cons p47 <| .cons p65 <| .cons p63 <| .cons Asr <| .cons Sh.p37 .nil
noncomputable def tb27:A7:=(36,shT Qi)::(50,ZE)::(51,Hv)::(52,Sr)::(14,shT AdD)::(41,Ac7)::(37,shT AqJ)::(38,shT AkR)::(53,AmD)::[]
theorem tb27_ok:Ao Tryz.prog Gl tb27:=.cons p36 <| .cons ArU <| .cons Sh.p93 <| .cons p64 <| .cons Asq <| .cons AlK <| .cons ArX <| .cons Apj <| .cons ArT .nil
noncomputable def B26 (id:Nat) (L:LT):St->T (Ex×St):=λst=>AA tab ⟨Aw tb26,L,Gl⟩ (As Tryz.f26 id) id st
noncomputable def B27 (id:Nat) (L:LT):St->T (Ex×St):=λst=>AA tab ⟨Aw tb27,L,Gl⟩ (As Tryz.f27 id) id st
theorem q26 {s:Sh7} {nm:List UInt8} {l:List (Tg×Int)} {i:Nat} (hk:ieq (ofNat (toN s.kk)) s.kk=true) (hi:i<toN s.kk) (hb:i <= 1023):Au (B26 0 (Go.Sy.askL Aao)) lp26 (T26 s nm l (ofNat i) (bLc i))=some (.nm,T26 s nm l (ofNat (i+1)) (bLc (i+1))) :=
 DW.rd (.k (klt hk hi) <| .k (aI hb) <| .e (nm2 (f:=T26 s nm l) (D6 (by omega)) (YL i))) (by kernel_rfl)
theorem q27 {s:Sh7} {nm:List UInt8} {i:Nat} (hk:ieq (ofNat (toN s.kk)) s.kk=true) (hi:i<toN s.kk) (hb:i <= 1023):Au (B27 0 (Go.Sy.askL Aan)) lp27 (T27 s nm (ofNat i) (bLc i))=some (.nm,T27 s nm (ofNat (i+1)) (bLc (i+1))) :=
 DW.rd (.k (klt hk hi) <| .k (aI hb) <| .e (nm2 (f:=T27 s nm) (D6 (by omega)) (YL i))) (by kernel_rfl)
theorem r26 {s:Sh7} {nm:List UInt8} {l:List (Tg×Int)} (hk:ieq (ofNat (toN s.kk)) s.kk=true) (hm:toN s.kk <= 1023):(Av (B26 0 (Go.Sy.askL Aao)) lp26 4611686018427387905 (T26 s nm l 0 (bLc 0))).sem=some (X26 s nm l (bLc (toN s.kk))) :=
 Bv (S:=λi=>T26 s nm l (ofNat i) (bLc i)) (m:=toN s.kk) (show (Ex.ex 0) ≠ .nm from nofun) (λi hi=>q26 hk hi (by omega)) (DW.rd (.k (kge hk) .l) (by kernel_rfl)) (by omega)
theorem r27 {s:Sh7} {nm:List UInt8} (hk:ieq (ofNat (toN s.kk)) s.kk=true) (hm:toN s.kk <= 1023):(Av (B27 0 (Go.Sy.askL Aan)) lp27 4611686018427387905 (T27 s nm 0 (bLc 0))).sem=some (X27 s nm (bLc (toN s.kk))) :=
 Bv (S:=λi=>T27 s nm (ofNat i) (bLc i)) (m:=toN s.kk) (show (Ex.ex 0) ≠ .nm from nofun) (λi hi=>q27 hk hi (by omega)) (DW.rd (.k (kge hk) .l) (by kernel_rfl)) (by omega)
theorem Asb:Ap Tryz.prog Gl 26 VZ:=by
 refine Ah A2 mixed Tryz.func26 (by kernel_rfl) (by kernel_rfl) λvs v h' h=>?_;unfold VZ at h;split at h
 ·rename_i u nm
  obtain ⟨s,a1,h⟩:=apS_some h;obtain ⟨hg,h⟩:=Ac h;have hx:=AS tb26_ok Aao (G:=Gl);have hA:Ba [u,.str nm] [EC s,.str nm]:=λS w cs hq=>by
   obtain ⟨c,l,rfl,q1,q2⟩:=hq;exact ⟨c,_,rfl,a1 S w c q1,q2⟩
  obtain ⟨k1,k3⟩:=Tf hg;cases hw:ieq (CQ s) 0 with
  | false =>rw [hw] at h;cases Ab h;exact ⟨_,cxA Gl tb26 Aao,_,hA,rfl,hx.1,hx.2,DW.ok (.k (eL s.ne) <| .k (eL s.nx) <| .k (eL s.nr) <| .k (eL2 s.nc s.C) <| .k hg <| .k (eN hw) <| .l) (by kernel_rfl),Am.refl _⟩
  | true =>
   rw [hw] at h;obtain ⟨hs,h⟩:=Ac h;cases ht:Qk nm with
   | false =>rw [ht] at h;cases Ab h;exact ⟨_,cxA Gl tb26 Aao,_,hA,rfl,hx.1,hx.2,DW.ok (.k (eL s.ne) <| .k (eL s.nx) <| .k (eL s.nr) <| .k (eL2 s.nc s.C) <| .k hg <| .k (eN hw) <| .k hs <| .k (eN ht) <| .l) (by kernel_rfl),Am.refl _⟩
   | true =>rw [ht] at h;obtain ⟨hT,h⟩:=Ac h;cases Ab h;obtain ⟨k2,k4,k5,k6,k8,hk,k10,k11,k7⟩:=RN hT;have hp:=Cy (good hw);have r0:=r26 (s:=s) (nm:=nm) (l:=axR s (rg9 s)) hk (Nat.le_of_ble_eq_true k10);exact ⟨_,cxA Gl tb26 Aao,[.row 68 5 (AE (toN s.kk) (Dw (LA s))) (Bn (toN s.kk) (Dw (LA s)) (inU (toN s.kk)) (Hm (LA s))),Aax s,.row 46 6 (LV (axR s (rg9 s)).length) (ED (gT (axR s (rg9 s))) (gW (axR s (rg9 s))))],hA,rfl,hx.1,hx.2,DW.ok (.k (eL s.ne) <| .k (eL s.nx) <| .k (eL s.nr) <| .k (eL2 s.nc s.C) <| .k hg <| .k (eN hw) <| .k hs <| .k (eN ht) <| .k (eI s.arch) <| .k (H9 nm) <| .k (eL s.ne) <| .k (eL s.nx) <| .k (eL s.nr) <| .k (eL2 s.nc s.C) <| .k k1 <| .k k2 <| .k k3 <| .k k4 <| .k hw <| .k hp <| .k k5 <| .k k6 <| .k k7 <| .k (eI s.arch) <| .k (H9 nm) <| .k (eI s.arch) <| .k (H9 nm) <| .k (eL s.ne) <| .k k1 <| .k k8 <| .k (eG [ntA s]) <| .k (eL s.ne) <| .k k1 <| .a r0 <| .k (eL s.ne) <| .k (eL s.nx) <| .k (eL s.nr) <| .k (eL2 s.nc s.C) <| .k hg <| .k (aL k10 k11) <| .l) (by kernel_rfl),.cons (XV s) (Am.refl _)⟩
 ·cases h
theorem ArZ:Ap Tryz.prog Gl 27 VZ:=by
 refine Ah A2 mixed Tryz.func27 (by kernel_rfl) (by kernel_rfl) λvs v h' h=>?_;unfold VZ at h;split at h
 ·rename_i u nm
  obtain ⟨s,a1,h⟩:=apS_some h;obtain ⟨hg,h⟩:=Ac h;have hx:=AS tb27_ok Aan (G:=Gl);have hA:Ba [u,.str nm] [EC s,.str nm]:=λS w cs hq=>by
   obtain ⟨c,l,rfl,q1,q2⟩:=hq;exact ⟨c,_,rfl,a1 S w c q1,q2⟩
  obtain ⟨k1,k3⟩:=Tf hg;cases hw:ieq (CQ s) 0 with
  | false =>rw [hw] at h;cases Ab h;exact ⟨_,cxA Gl tb27 Aan,_,hA,rfl,hx.1,hx.2,DW.ok (.k (eL s.ne) <| .k (eL s.nx) <| .k (eL s.nr) <| .k (eL2 s.nc s.C) <| .k k1 <| .k k3 <| .k (eN hw) <| .l) (by kernel_rfl),Am.refl _⟩
  | true =>
   rw [hw] at h;obtain ⟨hs,h⟩:=Ac h;cases ht:Qk nm with
   | false =>rw [ht] at h;cases Ab h;exact ⟨_,cxA Gl tb27 Aan,_,hA,rfl,hx.1,hx.2,DW.ok (.k (eL s.ne) <| .k (eL s.nx) <| .k (eL s.nr) <| .k (eL2 s.nc s.C) <| .k k1 <| .k k3 <| .k (eN hw) <| .k hs <| .k (eN ht) <| .l) (by kernel_rfl),Am.refl _⟩
   | true =>rw [ht] at h;obtain ⟨hT,h⟩:=Ac h;cases Ab h;obtain ⟨k2,k4,k5,k6,k8,hk,k10,k11,k7⟩:=RN hT;have hp:=Cy (good hw);have r0:=r27 (s:=s) (nm:=nm) hk (Nat.le_of_ble_eq_true k10);exact ⟨_,cxA Gl tb27 Aan,[.row 68 5 (AE (toN s.kk) (Dw (LA s))) (Bn (toN s.kk) (Dw (LA s)) (inU (toN s.kk)) (Hm (LA s))),codJ s,.row 46 6 (LV (axR s (rg9 s)).length) (ED (gT (axR s (rg9 s))) (gW (axR s (rg9 s))))],hA,rfl,hx.1,hx.2,DW.ok (.k (eL s.ne) <| .k (eL s.nx) <| .k (eL s.nr) <| .k (eL2 s.nc s.C) <| .k k1 <| .k k3 <| .k (eN hw) <| .k hs <| .k (eN ht) <| .k (eL s.ne) <| .k k1 <| .k k8 <| .k (eL s.ne) <| .k k1 <| .a r0 <| .k (eL s.ne) <| .k (eL s.nx) <| .k (eL s.nr) <| .k (eL2 s.nc s.C) <| .k hg <| .k (aL k10 k11) <| .k (eL s.ne) <| .k (eL s.nx) <| .k (eL s.nr) <| .k (eL2 s.nc s.C) <| .k (Ik (Aqp hw)) <| .k (eL s.ne) <| .k (eL s.nx) <| .k (eL s.nr) <| .k (eL2 s.nc s.C) <| .k hp <| .k (eL s.ne) <| .k (eL s.nx) <| .k (eL s.nr) <| .k (eL2 s.nc s.C) <| .k hp <| .k (eG [toN s.tt]) <| .k (eL s.ne) <| .k (eL s.nx) <| .k (eL s.nr) <| .k (eL2 s.nc s.C) <| .k (eL s.nx) <| .k k5 <| .k k6 <| .k (AeC s.nx) <| .k k7 <| .k (PR (LV (axR s (rg9 s)).length) (gT (axR s (rg9 s))) (gW (axR s (rg9 s)))) <| .l) (by kernel_rfl),.cons (XV s) (.consB (Aqh hw ▸ .same _) (Am.refl _))⟩
 ·cases h
end Go.Proofs.YtkbafjceglhjhaaGreatDoor.Er
namespace Go.Sy
inductive NilB:Blk->Value->Prop where
 | row {e s:Nat} {g:Nat->V} (h:0<s):NilB (.row e s 0 g) (.slice none 0 0)
 | jag {e size off e' s':Nat} {get:Nat->V} {live:Nat->Bool} {len:Nat->Nat} {mem:Nat->Nat->V} (h1:0<size) (h2:off<size) (h3:0<s'):NilB (.jag ⟨e,size,0,get,off,e',s',live,len,mem,none⟩) (.tuple #[.slice none 0 0,.agg #[]])
inductive Ups:V->List Blk->V->List Blk->Prop where
 | refl (v:V) (h:List Blk):Ups v h v h
 | up {v v1:V} {h:List Blk} {b:Blk} {c:Value} {v2:V} {h2:List Blk} (hb:NilB b c) (hv:∀ (S:Nat->Prop) (w:World) (κ:Ax) (d:Value),κ h.length=some c->VR S w v κ d->VR S w v1 κ d) (u:Ups v1 (h++[b]) v2 h2):Ups v h v2 h2
theorem NilB.free {b:Blk} {c:Value} (h:NilB b c) (x:Nat):¬ inBlk (some c) x b:=by
 cases h with
 | row h=>intro hx; cases hx
 | jag h1 h2 h3 =>
  intro hx;obtain ⟨c,ms,e,hx⟩:=hx;cases e;rcases hx with hx | ⟨i,m,hm,_⟩
  ·cases hx
  ·simp at hm
theorem NilB.fixed {b:Blk} {c:Value} (h:NilB b c):¬ Dh b:=by
 cases h with
 | row h=>intro hx; rcases hx with ⟨_,_,_,_,h⟩ | ⟨_,h⟩ <;> cases h
 | jag h1 h2 h3=>exact B5 _
theorem NilB.holds {b:Blk} {c:Value} (h:NilB b c) (S:Nat->Prop) (w:World) (κ:Ax):AY S w κ (some c) b:=by
 cases h with
 | row h=>exact ⟨h,_,[],rfl,World.ownsRow_nil w 0 _ _,λi hi=>absurd hi (Nat.not_lt_zero _)⟩
 | jag h1 h2 h3=>exact ⟨_,_,[],rfl,SX _ _ _ _ _ h1 h2 h3 _ _ _ _⟩
theorem NilB.isRow {b:Blk} {c:Value} (h:NilB b c):FQ b:=by
 cases h with
 | row h=>exact .inl ⟨_,_,_,_,rfl⟩
 | jag h1 h2 h3=>exact .inr ⟨_,rfl⟩
theorem Ib.snoc {h:List Blk} {b:Blk} (hr:Ib h) (hb:FQ b):Ib (h++[b]):=λi b' hi=>by
 rcases Nat.lt_trichotomy i h.length with hl | hl | hl
 ·rw [List.getElem?_append_left hl] at hi
  exact hr i b' hi
 ·subst hl
  rw [List.getElem?_append_right (Nat.le_refl _),Nat.sub_self] at hi;cases hi;exact hb
 ·rw [List.getElem?_eq_none (by simp; omega)] at hi
  cases hi
theorem Ups.rows {v v2:V} {h h2:List Blk} (u:Ups v h v2 h2) (hr:Ib h):Ib h2:=by
 induction u with
 | refl v h=>exact hr
 | up hb hv u ih=>exact ih (hr.snoc hb.isRow)
theorem Ups.ok {κ0:Ax} {S0:Nat->Prop} {h0:List Blk} {w0:World} {v v2:V} {h h2:List Blk} (u:Ups v h v2 h2):∀ {κ:Ax} {S:Nat->Prop} {w:World} {d:Value},
  Good κ S h w->VR S w v κ d->Ext κ0 S0 h0 w0 κ S h w->∃ κ2,Good κ2 S h2 w∧VR S w v2 κ2 d∧Ext κ0 S0 h0 w0 κ2 S h2 w:=by
 induction u with
 | refl v h=>exact λhg hv he=>⟨_,hg,hv,he⟩
 | @up v v1 h b c v2 h2 hb hv u ih =>intro κ S w d hg hvr he;exact ih (κ:=Bp κ h.length c) (hg.adopt b c (hb.holds S w _) λx hx=>absurd hx (hb.free x)) (hv S w _ d (by simp [Bp]) (VR.mono (λ_ hb=>⟨hb,rfl⟩) _ _ _ _ (hg.addK_sub _) hvr)) (he.adopt b c hb.fixed λx hx=>absurd hx (hb.free x))
theorem Ap.ups {P:Program} {G:Nat->V} {f:FuncId} {F F':List V->A5} (h:Ap P G f F) (hF:∀ vs v h',(F' vs).sem=some (v,h')->∃ v0 h0,(F vs).sem=some (v0,h0)∧Ups v0 h0 v h'):Ap P G f F' :=
 ⟨h.1,λvs cs S w v h' h1 h2 h3 h4=>by
  obtain ⟨v0,h0,e,u⟩:=hF vs v h' h4;obtain ⟨r,k⟩:=h.2 vs cs S w v0 h0 h1 h2 h3 e;have hR:=u.rows r;refine ⟨hR,k.mono ?_⟩
  rintro e' w' ⟨c,κ',S',q1,q2,q3,q4⟩
  obtain ⟨κ2,g1,g2,g3⟩:=u.ok q2 q3 q4;exact ⟨c,κ2,S',q1,g1,g2,g3⟩⟩
theorem AdK {S:Nat->Prop} {w:World} {κ:Ax} {v v':V} (h:∀ a,VR S w v κ a->VR S w v' κ a) (r:List V):∀ (l:List V) {ca:List Value},VRs S w (l++v::r) κ ca->VRs S w (l++v'::r) κ ca
 | [],_,⟨a,l',e,h1,h2⟩=>⟨a,l',e,h a h1,h2⟩
 | _::l,_,⟨a,l',e,h1,h2⟩=>⟨a,l',e,h1,AdK h r l h2⟩
theorem VR.aggUp {S:Nat->Prop} {w:World} {κ:Ax} {v v':V} (l r:List V) (h:∀ a,VR S w v κ a->VR S w v' κ a) (a:Value):VR S w (.agg (l++v::r)) κ a->VR S w (.agg (l++v'::r)) κ a :=
 λ⟨ca,e,hq⟩=>⟨ca,e,AdK h r l hq⟩
theorem VR.tupUp {S:Nat->Prop} {w:World} {κ:Ax} {v v':V} (l r:List V) (h:∀ a,VR S w v κ a->VR S w v' κ a) (a:Value):VR S w (.tup (l++v::r)) κ a->VR S w (.tup (l++v'::r)) κ a :=
 λ⟨ca,e,hq⟩=>⟨ca,e,AdK h r l hq⟩
theorem VR.nilRef {S:Nat->Prop} {w:World} {κ:Ax} {k:Nat} (hk:κ k=some (.slice none 0 0)) (a:Value) (h:VR S w .nilS κ a):VR S w (.ref k) κ a:=by
 cases (show a = .slice none 0 0 from h);exact ⟨hk,.inl ⟨_,_,_,rfl⟩⟩
end Go.Sy
namespace Go.Proofs.YtkbafjceglhjhaaGreatDoor.Er
open Go.Sy Go Go.Proofs.YtkbafjceglhjhaaGreatDoor.Ed Go.Proofs.YtkbafjceglhjhaaGreatDoor.Sh Go.Proofs.YtkbafjceglhjhaaGreatDoor.Em
set_option maxRecDepth 100000
set_option maxHeartbeats 1000000
structure Te where
 a:Int
 nm:List UInt8
 cy:List UInt8
 m:Nat
 I:Nat->Ini5
 t:Nat
 K:Nat->List In8
 q:Int
 kd:Int
 th:Int
 rg:Int
 lc:List UInt8
 v:Int
 n:Nat
 X:Nat->Tg
 f:Nat->Int
def kdW (x:Tg) (v:Int):V:=.agg [iV 2,iV x.th,iV x.rg,.str x.lc,iV v,.sl 1 0 λ_=>.und]
def ndW (z:Te):V:=.agg [iV z.kd,iV z.th,iV z.rg,.str z.lc,iV z.v,.sl 6 z.n (ED z.X z.f)]
def cnW (z:Te):V:=.agg [iV z.q,iV z.kd,iV z.th,iV z.rg,.str z.lc,iV z.v,.sl 6 z.n (ED z.X z.f)]
def teW (z:Te):V:=.agg [iV z.a,.str z.nm,.str z.cy,.sl 5 z.m (λk=>i5V (z.I k)),.sl 1 z.t (λu=>.sl 8 (BI (z.K u)) (WT (z.K u))),iV z.q,iV z.kd,iV z.th,iV z.rg,.str z.lc,iV z.v,.sl 6 z.n (ED z.X z.f)]
def teZ (z:Te):Prop:=z.m <= 4611686018427387904∧z.t <= 4611686018427387904∧(∀ i,i<z.t->BI (z.K i) <= 4611686018427387904)∧z.n <= 4611686018427387904
noncomputable def Amn:List V->A5
 | [u,w]=>.br (pB (∃ (x:Tg) (v:Int),u=kdW x v∧w=kdW x v)) (.leaf (bV true,[])) .fail
 | _=>.fail
noncomputable def ndS:List V->A5
 | [u,w]=>.br (pB (∃ z:Te,z.n <= 4611686018427387904∧u=ndW z∧w=ndW z)) (.leaf (bV true,[])) .fail
 | _=>.fail
noncomputable def cnS:List V->A5
 | [u,w]=>.br (pB (∃ z:Te,z.n <= 4611686018427387904∧u=cnW z∧w=cnW z)) (.leaf (bV true,[])) .fail
 | _=>.fail
noncomputable def teS:List V->A5
 | [u,w]=>.br (pB (∃ z:Te,teZ z∧u=teW z∧w=teW z)) (.leaf (bV true,[])) .fail
 | _=>.fail
theorem sK (z:Te) (i:Nat):pB (∃ (x:Tg) (v:Int),kdW (z.X i) (z.f i)=kdW x v∧kdW (z.X i) (z.f i)=kdW x v)=true:=Ik ⟨z.X i,z.f i,rfl,rfl⟩
theorem sN {z:Te} (h:z.n <= 4611686018427387904):pB (∃ y:Te,y.n <= 4611686018427387904∧ndW z=ndW y∧ndW z=ndW y)=true:=Ik ⟨z,h,rfl,rfl⟩
theorem sC {z:Te} (h:z.n <= 4611686018427387904):pB (∃ y:Te,y.n <= 4611686018427387904∧cnW z=cnW y∧cnW z=cnW y)=true:=Ik ⟨z,h,rfl,rfl⟩
theorem sT {z:Te} (h:teZ z):pB (∃ y:Te,teZ y∧teW z=teW y∧teW z=teW y)=true:=Ik ⟨z,h,rfl,rfl⟩
theorem s17 {n:Nat} {f:Nat->Ini5} (h:n <= 4611686018427387904):pB (n <= 4611686018427387904∧n=n∧∀ i,i<n->f i=f i)=true:=Ik ⟨h,rfl,λ_ _=>rfl⟩
theorem s15 {n:Nat} {K:Nat->List In8} (h:n <= 4611686018427387904) (h2:∀ i,i<n->BI (K i) <= 4611686018427387904):pB (P15 n (λu=>(BI (K u),Ah7 (K u))) n (λu=>(BI (K u),Ah7 (K u))))=true:=Ik ⟨h,h2,rfl,λ_ _=>⟨rfl,λ_ _=>rfl⟩⟩
theorem Aq5 (x:Tg):Al (ieq x.th x.th) (Al (ieq x.rg x.rg) (Al (seq x.lc x.lc) true))=true:=by simp [Al,ieq,seq]
theorem eLL (n:Nat) (K:Nat->List In8):(AV n λi=>AV (BI (K i)) λ_=>true)=true:=A8.2 λ_ _=>eL _
def AcL:Lp:=⟨bmK 53 0 [2,3,4,5],2,bmK 53 0 [4],0,4611686018427387905⟩
def QX:List (Nat×Lp×List (Nat×(Nat->V))):=[(0,AcL,[])]
section
variable {x:Tg} {v:Int}
noncomputable def Atn:St->T (Ex×St):=λst=>AA tab ⟨Aw tb0,Go.Sy.askL QX,Gl⟩ (As Tryz.f82 0) 0 st
theorem Ar6:(Av Atn AcL 4611686018427387905 ⟨jsV 53 0 Aa [(2,.ptr 0 0),(3,.ptr 1 0),(4,bV false),(5,iV 0)],[.cells [iV 2,iV x.th,iV x.rg,.str x.lc,iV v,.sl 1 0 λ_=>.und],.cells [iV 2,iV x.th,iV x.rg,.str x.lc,iV v,.sl 1 0 λ_=>.und]]⟩).sem=some (.ex 0,⟨jsV 53 0 Aa [(4,bV false)],[]⟩) :=
 Bv (S:=λ_=>⟨jsV 53 0 Aa [(2,.ptr 0 0),(3,.ptr 1 0),(4,bV false),(5,iV 0)],[.cells [iV 2,iV x.th,iV x.rg,.str x.lc,iV v,.sl 1 0 λ_=>.und],.cells [iV 2,iV x.th,iV x.rg,.str x.lc,iV v,.sl 1 0 λ_=>.und]]⟩) (m:=0) (show (Ex.ex 0) ≠ .nm from nofun) (λi hi=>absurd hi (Nat.not_lt_zero i)) (DW.rd (.k eF .l) (by kernel_rfl)) (by omega)
end
theorem ArN:Ap Tryz.prog Gl 82 Amn:=by
 refine Ah A2 mixed Tryz.func82 (by kernel_rfl) (by kernel_rfl) λvs v h' h=>?_;unfold Amn at h;split at h
 ·obtain ⟨hp,h⟩:=Ac h
  cases Ab h;obtain ⟨x,v,rfl,rfl⟩:=GO hp;have hx:=AS Ca QX (G:=Gl);exact ⟨_,cxA Gl tb0 QX,_,Ba.refl _,rfl,hx.1,hx.2,DW.ok (.r 6 (eN (eI 2)) <| .r 6 (eN (Aq5 x)) <| .r 8 (eN (eI v)) <| .k (eN (eI 0)) <| .a (Ar6 (x:=x) (v:=v)) <| .l) (by kernel_rfl),Am.refl _⟩
 ·cases h
def AmQ (z:Te) (c:Int):St:=⟨jsV 53 0 Aa [(2,.ptr 0 0),(3,.ptr 1 0),(4,bV false),(5,iV c)],[.cells [iV z.kd,iV z.th,iV z.rg,.str z.lc,iV z.v,.sl 6 z.n (ED z.X z.f)],.cells [iV z.kd,iV z.th,iV z.rg,.str z.lc,iV z.v,.sl 6 z.n (ED z.X z.f)]]⟩
noncomputable def Ak6:A7:=[(82,Amn)]
theorem Af0:Ao Tryz.prog Gl Ak6:=.cons ArN .nil
noncomputable def Atm:St->T (Ex×St):=λst=>AA tab ⟨Aw Ak6,Go.Sy.askL QX,Gl⟩ (As Tryz.f82 0) 0 st
theorem Ar5 {z:Te} (hn:z.n <= 4611686018427387904):(Av Atm AcL 4611686018427387905 (AmQ z 0)).sem=some (.ex 0,⟨jsV 53 0 Aa [(4,bV false)],[]⟩) :=
 Bv (S:=λi=>AmQ z (Int.ofNat i)) (m:=z.n) (show (Ex.ex 0) ≠ .nm from nofun) (λi hi=>DW.rd (.k (ofNat_lt hi) <| .r 2 (Ad hi) <| .k (sK z i) <| .k (eN eT) <| .e (nm1 (f:=AmQ z) (D6 (by omega)))) (by kernel_rfl)) (DW.rd (.k (DY z.n) .l) (by kernel_rfl)) (by omega)
theorem ArM:Ap Tryz.prog Gl 82 ndS:=by
 refine Ah A2 mixed Tryz.func82 (by kernel_rfl) (by kernel_rfl) λvs v h' h=>?_;unfold ndS at h;split at h
 ·obtain ⟨hp,h⟩:=Ac h
  cases Ab h;obtain ⟨z,hn,rfl,rfl⟩:=GO hp;have hx:=AS Af0 QX (G:=Gl);exact ⟨_,cxA Gl Ak6 QX,_,Ba.refl _,rfl,hx.1,hx.2,DW.ok (.r 6 (eN (eI z.kd)) <| .r 6 (eN (Aq5 ⟨z.th,z.rg,z.lc⟩)) <| .r 8 (eN (eI z.v)) <| .k (eN (eI (Int.ofNat z.n))) <| .a (Ar5 (z:=z) hn) <| .l) (by kernel_rfl),Am.refl _⟩
 ·cases h
noncomputable def AnQ:A7:=[(82,ndS)]
theorem Af8:Ao Tryz.prog Gl AnQ:=.cons ArM .nil
theorem ArS:Ap Tryz.prog Gl 54 cnS:=by
 refine Ah A2 mixed Tryz.func54 (by kernel_rfl) (by kernel_rfl) λvs v h' h=>?_;unfold cnS at h;split at h
 ·obtain ⟨hp,h⟩:=Ac h
  cases Ab h;obtain ⟨z,hn,rfl,rfl⟩:=GO hp;have hx:=AS Af8 [] (G:=Gl);exact ⟨_,cxA Gl AnQ [],_,Ba.refl _,rfl,hx.1,hx.2,DW.ok (.r 5 (eI z.q) <| .k (sN hn) <| .k (eI z.q) <| .l) (by kernel_rfl),Am.refl _⟩
 ·cases h
noncomputable def AnT:A7:=[(54,cnS),(17,W5),(15,W6)]
theorem AfH:Ao Tryz.prog Gl AnT:=.cons ArS <| .cons Asj <| .cons Aso .nil
theorem ArY:Ap Tryz.prog Gl 28 teS:=by
 refine Ah A2 mixed Tryz.func28 (by kernel_rfl) (by kernel_rfl) λvs v h' h=>?_;unfold teS at h;split at h
 ·obtain ⟨hp,h⟩:=Ac h
  cases Ab h;obtain ⟨z,hz,rfl,rfl⟩:=GO hp;have hx:=AS AfH [] (G:=Gl);exact ⟨_,cxA Gl AnT [],_,Ba.refl _,rfl,hx.1,hx.2,DW.ok (.r 6 (eI z.a) <| .r 6 (H9 z.nm) <| .r 5 (H9 z.cy) <| .r 2 (eL z.m) <| .k (s17 (f:=z.I) hz.1) <| .k (H9 z.cy) <| .r 5 eT <| .r 2 (eLL z.t z.K) <| .k (s15 (K:=z.K) hz.2.1 hz.2.2.1) <| .r 6 eT <| .k (sC hz.2.2.2) <| .k eT <| .l) (by kernel_rfl),Am.refl _⟩
 ·cases h
end Go.Proofs.YtkbafjceglhjhaaGreatDoor.Er
