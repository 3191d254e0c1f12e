/-
  Facts of a cycle's shape and of its test. No conditions.
-/
import Derived.Test.YtkgdhhieomndeaaGreatDoorShO
import Derived.Test.YtkgdhhieomndeaaGreatDoorShT
import Derived.Test.YtkgdhhieomndeaaGreatDoorShVc
import Derived.Test.YtkgdhhieomndeaaGreatDoorShI
namespace Go.Proofs.YtkgdhhieomndeaaGreatDoor.Em
open Go.Sy Go Go.Proofs.YtkgdhhieomndeaaGreatDoor.Ed Go.Proofs.YtkgdhhieomndeaaGreatDoor.Sh
open Int (ofNat)
set_option maxRecDepth 100000
set_option maxHeartbeats 1000000
theorem crR_none {n:Nat} {l:Nat->Int} {c:Nat->Bool} {q:Int} (h:∀ i,i<n->Bi n l c q i=false):crR n l c q=(0,false):=by
 unfold crR;rw [Cv.2 λk _ h2=>h k (by omega)]
theorem Aky {a:Int} {n:Nat} {f:Nat->E6} (h:IsCycle a n f):Ns a n f=(0,0):=by
 have e1:HY a n f=(0,0):=by
  unfold HY;rw [Cv.2 λk _ h2=>h.legal k (by omega)];show (match Bh (Gr n f) n 0 with | some t=>((41:Int),ofNat t) | none=>(0,0))=(0,0)
  rw [Cv.2 λk _ h2=>h.meets k (by omega)]
 have c1:ilt (ofNat n) 2=false:=by rw [show (2:Int)=ofNat 2 from rfl,BP,decide_eq_false (by have:=h.lo; omega)]
 have c2:ilt 16 (ofNat n)=false:=by rw [show (16:Int)=ofNat 16 from rfl,BP,decide_eq_false (by have:=h.hi; omega)]
 have c3:ilt (Ia n f) 2=false:=by unfold Ia; rw [show (2:Int)=ofNat 2 from rfl,BP,decide_eq_false (by have:=h.outer; omega)]
 have c4:ilt (IL n f) 2=false:=by unfold IL; rw [show (2:Int)=ofNat 2 from rfl,BP,decide_eq_false (by have:=h.moves; omega)]
 rw [SU h.arch];unfold My;rw [c1,c2,e1];show PW n f=(0,0);unfold PW;rw [c3,c4];show SS n f=(0,0);unfold SS;rw [crR_none h.writes,crR_none h.crowd]
theorem Agn {a:Int} {n:Nat} {f:Nat->E6} (h:IsCycle a n f):ieq (BK a n f) 0=true∧ieq (D4 a n f) 0=true:=by
 unfold BK D4;rw [Aky h];exact ⟨rfl,rfl⟩
theorem lstN_le (p:Nat->Bool) (n:Nat):Cq p n <= n:=by
 by_cases h:∃ i,i<n∧p i=true
 ·obtain ⟨i,h1,h2⟩:=h
  have:=(DC h1 h2).1;omega
 ·rw [Hn λi hi=>by
   cases hp:p i with
   | false=>rfl
   | true=>exact absurd ⟨i,hi,hp⟩ h]
  exact Nat.le_refl _
theorem canF_congr {n:Nat} {f l:Nat->E6} (hm:Cp n f=true) (hl:∀ i,i<n->l i=f i) {i:Nat} (hi:i<n):AY n l i=AY n f i:=by
 rw [Lv hm hl i hi,Lv hm (λ_ _=>rfl) i hi]
theorem shG_congr {n:Nat} {f l:Nat->E6} (hm:Cp n f=true) (hl:∀ i,i<n->l i=f i):shG n l=shG n f:=by
 have hq:shQ n l=shQ n f:=by
  unfold shQ;rw [FU (p:=λi=>AB (AY n l i)) (q:=λi=>AB (AY n f i)) λi hi=>by rw [canF_congr hm hl hi]]
 funext i;unfold shG Aae;by_cases hi:i<n
 ·rw [decide_eq_true hi,hq]
  exact canF_congr hm hl (Nat.mod_lt _ (by omega))
 ·rw [decide_eq_false hi]
  rfl
theorem small_16 {k:Nat} (h:k <= 16):Af k=true:=decide_eq_true (by omega)
theorem sameB_rfl (n:Nat) (f:Nat->E6):CB n f n f=true:=I7.2 ⟨rfl,λ_ _=>rfl⟩
theorem sameI_rfl (n:Nat) (f:Nat->Int):Da n f n f=true:=by
 unfold Da;rw [Bp (Br _)];exact A0.2 λ_ _=>Br _
theorem sameJ_rfl (n:Nat) (ln:Nat->Nat) (co:Nat->Nat->Int):El n ln co n ln co=true:=by
 unfold El;rw [Bp (Br _)];exact A0.2 λ_ _=>sameI_rfl _ _
theorem sameX_rfl (e:Ev5):FM e e=true:=by
 unfold FM;rw [Bp (Br _),Bp (Br _),Bp (Br _),Bp (Br _),Bp (Br _)]
theorem shG_shG {a:Int} {n:Nat} {f:Nat->E6} (h:IsCycle a n f):shG n (shG n f)=shG n f:=by
 have hlo:=h.lo;have hs:(Cs n (λi=>BD (f i))+shQ n f) % n<n:=Nat.mod_lt _ (by omega);rw [shG_congr (h.turned hs).may (l:=shG n f) λi hi=>?_]
 ·exact VQ h hs
 ·rw [Fz hi]
  show f ((Cs n (λi=>BD (f i))+(shQ n f+i) % n) % n)=_;rw [Nat.add_mod_mod,Nat.mod_add_mod,Nat.add_assoc]
theorem sameS_rfl (s:Sh7):Fv s s=true:=by
 unfold Fv;rw [Bp (Br _),Bp (Br _),Bp (Br _),Bp (sameB_rfl _ _),Bp (Br _),Bp (sameI_rfl _ _),Bp (sameJ_rfl _ _ _)];exact A0.2 λ_ _=>sameX_rfl _
theorem check_of {a:Int} {n:Nat} {f:Nat->E6} (h:IsCycle a n f):Cj (ofS a n f)=true:=by
 unfold Cj;rw [Bp (show ieq (BK (ofS a n f).arch (ofS a n f).ne (ofS a n f).E) 0=true from (Agn (Dl h)).1)];show Fv (ofS a n f) (ofS a n (shG n f))=true;rw [show ofS a n (shG n f)=ofS a n f by unfold ofS; rw [shG_shG h]];exact sameS_rfl _
theorem Ab7 {n:Nat} {f:Nat->E6} (h:IsCycle 1 n f):rtS (ofS 1 n f)=0:=by
 show (bif ieq (sel (Cj (ofS 1 n f)) 0 70) 0 then (bif ieq 1 1 then 0 else 5) else 70)=(0:Int);rw [check_of h];rfl
theorem part_lt {p:Nat->Bool} {n i:Nat} (h:0<An p n) (hi:i<n):AZ p n i<An p n∧AZ p n i <= i:=by
 have h1:=Bm p i;unfold AZ;split
 ·exact ⟨h,Nat.zero_le _⟩
 ·rename_i hne
  have:=Bg p (show i <= n by omega);exact ⟨by omega,h1⟩
theorem Ts {x:Int} (h1:0 <= x) (h2:x<1000):wr .i64 x=x:=by
 unfold wr IntKind.wrap;simp [IntKind.bits,IntKind.signed];omega
theorem Aay (fe:Nat->Bool) (x:Nat->Ev5):∀ b,b <= 16->(∀ u,0 <= (wsF fe x b).nx u∧(wsF fe x b).nx u <= (b:Int))∧(∀ u,(wsF fe x b).lw u <= 2 * b)∧∀ i,i<b->ieq (x i).dir 2=false->0 <= (wsF fe x b).y i∧(wsF fe x b).y i<32
 | 0,_=>⟨λ_=>⟨Int.le_refl _,Int.le_refl _⟩,λ_=>Nat.le_refl _,λi hi=>absurd hi (Nat.not_lt_zero _)⟩
 | b+1,hb=>by
  obtain ⟨h1,h2,h3⟩:=Aay fe x b (by omega);have hw:wr .i64 (Ak ((wsF fe x b).nx (toN (x b).th)) 1)=(wsF fe x b).nx (toN (x b).th)+1:=by
   have:=h1 (toN (x b).th);exact Ts (by unfold Ak; omega) (by unfold Ak; omega)
  have hp:∀ (lw:Nat->Nat) (q u u':Nat),(∀ u,lw u <= q)->Gp lw u u' <= q+1:=λlw q u u' h=>by
   unfold Gp sel AV;have:=h u;have:=h u';cases AW u' u <;> simp <;> omega
  refine ⟨λu=>?_,λu=>?_,λi hi hr=>?_⟩
  ·have g:=h1 u
   have g':=h1 (toN (x b).th);show 0 <= (evW (fe b) (x b) b (wsF fe x b)).nx u∧(evW (fe b) (x b) b (wsF fe x b)).nx u <= ((b+1:Nat):Int);unfold evW yW nxW Wr;cases ieq (x b).dir 2 <;> cases fe b <;> simp only [cond_true,cond_false]
   all_goals first
    | omega
    | (rw [hw]
       unfold sel;cases AW u (toN (x b).th) <;> simp <;> omega)
  ·show (evW (fe b) (x b) b (wsF fe x b)).lw u <= 2 * (b+1)
   unfold evW yW nxW Wr;cases ieq (x b).dir 2 <;> cases fe b <;> simp only [cond_true,cond_false]
   ·exact Nat.le_succ_of_le (hp _ _ _ _ h2)
   ·exact hp _ _ _ _ λu=>hp _ _ _ u h2
   ·exact Nat.le_succ_of_le (hp _ _ _ _ h2)
   ·exact hp _ _ _ _ λu=>hp _ _ _ u h2
  ·show 0 <= (evW (fe b) (x b) b (wsF fe x b)).y i∧(evW (fe b) (x b) b (wsF fe x b)).y i<32
   have g':=h1 (toN (x b).th);have hy:(evW (fe b) (x b) b (wsF fe x b)).y i=bif AW i b then yvW (x b) (wsF fe x b) else (wsF fe x b).y i:=by
    unfold evW yW nxW Wr;cases ieq (x b).dir 2 <;> cases fe b <;> rfl
   rw [hy];cases hib:AW i b with
   | true =>have:i=b:=Nat.eq_of_beq_eq_true hib;subst this;show 0 <= yvW (x i) (wsF fe x i)∧yvW (x i) (wsF fe x i)<32;unfold yvW;rw [hr,nbeq_self,hw];show 0 <= wr .i64 (AC ((wsF fe x i).nx (toN (x i).th)+1) 1)∧wr .i64 (AC ((wsF fe x i).nx (toN (x i).th)+1) 1)<32;rw [Ts (by unfold AC; omega) (by unfold AC; omega)];unfold AC;omega
   | false =>
    have:i ≠ b:=λhc=>by rw [hc,nbeq_self] at hib; cases hib
    exact h3 i (by omega) hr
theorem Af2 {k:Nat} (hk:k<16):U4 (BB (ofNat k))=true:=by
 have:k=0 ∨ k=1 ∨ k=2 ∨ k=3 ∨ k=4 ∨ k=5 ∨ k=6 ∨ k=7 ∨ k=8 ∨ k=9 ∨ k=10 ∨ k=11 ∨ k=12 ∨ k=13 ∨ k=14 ∨ k=15:=by omega
 rcases this with rfl | rfl | rfl | rfl | rfl | rfl | rfl | rfl | rfl | rfl | rfl | rfl | rfl | rfl | rfl | rfl <;> rfl
def V2 (p:Tg×Int):Prop:=tgB p.1.th p.1.rg p.1.lc=true∧FT p.2=true
theorem YV {l:List (Tg×Int)} (h:∀ p,p ∈ l->V2 p):tgA l.length (gT l)=true∧AbU l.length (gW l)=true:=by
 have key:∀ i,i<l.length->V2 (l.getD i (⟨0,0,[]⟩,0)):=λi hi=>h _ (by simp [List.getD,hi]);exact ⟨A0.2 λi hi=>(key i hi).1,A0.2 λi hi=>(key i hi).2⟩
theorem SK {x:Nat->Ev5} {rg:Nat->Int} {m:Nat} (h:∀ i,i<m->ieq (x i).dir 1=true->V2 (⟨(x i).th,rg i,[]⟩,(x i).val)):∀ i,i <= m->∀ p,p ∈ evL x rg i->V2 p
 | 0,_,p,hp=>by cases hp
 | i+1,hi,p,hp=>by
  rw [evL] at hp;cases hc:ieq (x i).dir 1 with
  | true =>
   rw [hc] at hp;rcases List.mem_append.1 (show p ∈ _++_ from hp) with hp | hp
   ·exact SK h i (by omega) p hp
   ·simp only [List.mem_cons,List.not_mem_nil,or_false] at hp
    subst hp;exact h i (by omega) hc
  | false =>rw [hc] at hp;exact SK h i (by omega) p hp
theorem WF {l:List (Tg×Int)} {ln s1:Nat->Nat} {A:Nat} (hl:∀ p,p ∈ l->V2 p) (h:∀ i,i<A->s1 i<16∧ln (s1 i) <= 1000):∀ b,b <= A->∀ p,p ∈ loL l ln s1 b->V2 p
 | 0,_,p,hp=>hl p hp
 | b+1,hb,p,hp=>by
  rw [loL] at hp;rcases List.mem_append.1 hp with hp | hp
  ·exact WF hl h b (by omega) p hp
  ·simp only [List.mem_cons,List.not_mem_nil,or_false] at hp
   subst hp;obtain ⟨h1,h2⟩:=h b (by omega);refine ⟨?_,?_⟩
   ·show (bif ieq (-1) (-1) then (ieq 0 0 && U4 (BB (ofNat (s1 b)))) else _)=true
    rw [Af2 h1];rfl
   ·unfold FT
    rw [show ile (-2147483648) (ofNat (ln (s1 b)))=true from decide_eq_true (by simp only [Int.ofNat_eq_natCast]; omega)];exact decide_eq_true (by simp only [Int.ofNat_eq_natCast]; omega)
theorem ln_le (m w:Nat->Bool) (n k:Nat):lnN m w n k <= n+1:=by
 unfold lnN Cl;refine Nat.le_trans (Bm _ _) ?_;have:=lstN_le (λt=>m (rnd n (stN m n k) t)) n;omega
theorem Aa7 (m w:Nat->Bool) (n i:Nat):Ni m w n i <= n+1:=by
 unfold Ni;refine Nat.le_trans (Bm _ _) ?_;have:=lstN_le (λd=>m (rnd n i (n-1-d))) n;unfold HZ;omega
theorem ok6 {n:Nat} {f:Nat->E6} (h:IsCycle 1 n f):Rq (ofS 1 n f)=true∧BG (ofS 1 n f)=true∧∀ u,(wsS (ofS 1 n f)).lw u<40:=by
 have hhi:=h.hi;have hG:=Dl h;have ht:ttN n (shG n f) <= n:=Bm _ _;have hk:kkN n (shG n f) <= n:=Bm _ _;have hev:∀ i,i<n->evF n (shG n f) (λ_=>true) i=⟨thF n (shG n f) i,ofNat (plF n (shG n f) i),(shG n f i).src,loF n (shG n f) i,ofNat (Ni (mbF (shG n f)) (wrF (shG n f)) n i)⟩:=λi hi=>CH hi;have hth:∀ i,i<n->(evF n (shG n f) (λ_=>true) i).th=ofNat (AZ (obF (shG n f)) n i):=λi hi=>by
  rw [hev i hi];exact Ey hi
 have hpl:∀ i,i<n->AZ (obF (shG n f)) n i<ttN n (shG n f)∧AZ (obF (shG n f)) n i <= i:=λi hi=>part_lt (by have:=hG.outer; exact Nat.lt_of_lt_of_le (by decide) this) hi;obtain ⟨_,w2,w3⟩:=Aay (feF (shG n f) n) (evF n (shG n f) λ_=>true) n hhi;have hw:wrB (ofS 1 n f)=true:=by
  unfold wrB;refine (Bp (Nat.ble_eq_true_of_le hhi)).trans<|(Bp (Nat.ble_eq_true_of_le (show toN (ofNat (ttN n (shG n f))) <= 16 from Nat.le_trans ht hhi))).trans<|(Bp (Br _)).trans<|(Bp (A0.2 λb hb=>?_)).trans (A0.2 λb hb=>?_)
  ·show Ao (ile 0 (evF n (shG n f) (λ_=>true) b).th) (ilt (evF n (shG n f) (λ_=>true) b).th (ofNat (ttN n (shG n f))))=true
   rw [hth b hb];exact Ag (hpl b hb).1
  ·exact decide_eq_true (Nat.mod_lt _ (by have:b<n:=hb; omega))
 have hs:BG (ofS 1 n f)=true:=by
  unfold BG;exact (Bp (small_16 hhi)).trans<|(Bp (small_16 hhi)).trans<|(Bp (small_16 hhi)).trans<|(Bp (small_16 (Nat.le_trans hk hhi))).trans (A0.2 λk _=>decide_eq_true (by have:=ln_le (mbF (shG n f)) (wrF (shG n f)) n k; show lnN _ _ n k <= _; omega))
 have hA:∀ p,p ∈ axS (ofS 1 n f)->V2 p:=WF (SK (λi hi hr=>?_) n (Nat.le_refl _)) (λi hi=>?_) _ (Nat.le_refl _)
 rotate_left
 ·have hi:i<n:=hi
  have hd:ieq (evF n (shG n f) (λ_=>true) i).dir 2=false:=by
   have:=BX (show ieq (evF n (shG n f) (λ_=>true) i).dir 1=true from hr);rw [this];rfl
  have hy:=w3 i hi hd;obtain ⟨p1,p2⟩:=hpl i hi;refine ⟨?_,?_⟩
  ·show tgB (evF n (shG n f) (λ_=>true) i).th ((wsF (feF (shG n f) n) (evF n (shG n f) λ_=>true) n).y i) []=true
   rw [hth i hi];unfold tgB;rw [show ieq (ofNat (AZ (obF (shG n f)) n i)) (-1)=false from rfl];simp only [cond_false,Bool.and_eq_true];refine ⟨decide_eq_true (by simp only [Int.ofNat_eq_natCast]; omega),decide_eq_true (by simp only [Int.ofNat_eq_natCast]; omega),decide_eq_true hy.1,decide_eq_true hy.2,rfl⟩
  ·show FT (evF n (shG n f) (λ_=>true) i).val=true
   rw [hev i hi];have:=Aa7 (mbF (shG n f)) (wrF (shG n f)) n i;unfold FT;rw [show ile (-2147483648) (ofNat (Ni (mbF (shG n f)) (wrF (shG n f)) n i))=true from decide_eq_true (by simp only [Int.ofNat_eq_natCast]; omega)];exact decide_eq_true (by simp only [Int.ofNat_eq_natCast]; omega)
 ·have h1:=(EE (P:=λk=>ieq (ofNat (lnN (mbF (shG n f)) (wrF (shG n f)) n k)) 2) (show i<An _ (kkN n (shG n f)) from hi)).1
  have h2:=ln_le (mbF (shG n f)) (wrF (shG n f)) n (Ir (kkN n (shG n f)) (λk=>lnN (mbF (shG n f)) (wrF (shG n f)) n k) i);exact ⟨Nat.lt_of_lt_of_le h1 (Nat.le_trans hk hhi),Nat.le_trans h2 (by omega)⟩
 obtain ⟨a1,a2⟩:=YV hA;have hlen:(axS (ofS 1 n f)).length <= 1023:=by
  have h1:=Mq (evF n (shG n f) λ_=>true) (wsS (ofS 1 n f)).y n;have h2:(axS (ofS 1 n f)).length=_:=KI (evL (evF n (shG n f) λ_=>true) (wsS (ofS 1 n f)).y n) (λk=>lnN (mbF (shG n f)) (wrF (shG n f)) n k) (Ir (kkN n (shG n f)) λk=>lnN (mbF (shG n f)) (wrF (shG n f)) n k) (Gm (kkN n (shG n f)) λk=>lnN (mbF (shG n f)) (wrF (shG n f)) n k);have h3:Gm (kkN n (shG n f)) (λk=>lnN (mbF (shG n f)) (wrF (shG n f)) n k) <= kkN n (shG n f):=Bm _ _;omega
 refine ⟨?_,hs,λu=>Nat.lt_of_le_of_lt (w2 u) (by omega)⟩;unfold Rq QX;simp only [Bool.and_eq_true];refine ⟨Br _,Nat.ble_eq_true_of_le (show kkN n (shG n f) <= 1023 by omega),hw,hG.may,decide_eq_true (show n * 40 <= _ by omega),decide_eq_true (show kkN n (shG n f) * 8 <= _ by omega),hs,check_of h,Nat.ble_eq_true_of_le (show n <= 1023 by omega),Nat.ble_eq_true_of_le (Nat.le_refl n),Nat.ble_eq_true_of_le (show kkN n (shG n f) <= 1023 by omega),Nat.ble_eq_true_of_le hlen,a1,a2⟩
end Go.Proofs.YtkgdhhieomndeaaGreatDoor.Em
namespace Go.Proofs.YtkgdhhieomndeaaGreatDoor.Ed
open Go.Sy
open Int (ofNat)
noncomputable def AaR:AK:=(72,BW KD)::(71,AjV)::[]
theorem Aew:Aq Tryz.prog Gl AaR:=.cons p27 <| .cons p98 .nil
def Nj (f:Nat->E6) (i:Nat):Bool:=ilt 262144 (ofNat (B5 (CW f (i+1))))
theorem QH {q:Nat->Bool}:∀ {d i:Nat},Bh q d i=none->∀ k,i <= k->k<i+d->q k=false
 | 0,i,_,k,h1,h2=>by omega
 | d+1,i,h,k,h1,h2=>by
  cases hq:q i with
  | true=>rw [Dz hq] at h; cases h
  | false =>
   rw [D1 hq] at h;by_cases e:k=i
   ·rw [e]; exact hq
   ·exact QH h k (by omega) (by omega)
def Sk (n:Nat) (f:Nat->E6):Lp:=⟨bmK 36 0 [0,2,3,4,5],0,bmK 36 0 [2,3,4],0,n+1⟩
def TG (n:Nat) (f:Nat->E6) (o:List UInt8) (i:Nat) (j:Nat->V):St:=⟨jsV 36 0 j [(0,.sl 6 n (λi=>eV (f i))),(2,.str []),(3,iV 0),(4,.str o),(5,nV i)],[]⟩
def Adj (n:Nat) (f:Nat->E6) (o:List UInt8) (i:Nat):Ex×St:=(.ex 0,⟨jsV 36 0 Aa [(2,.str []),(3,iV 0),(4,.str o)],[]⟩)
def Ll (n:Nat) (f:Nat->E6) (o:List UInt8) (i:Nat):Ex×St:=(.rt,⟨jsV 36 0 Aa [(2,.str []),(3,iV 2),(4,.str o)],[]⟩)
noncomputable def IP (L:LT):St->T (Ex×St):=λst=>AD tab ⟨Am AaR,L,Gl⟩ (Au Tryz.f48 0) 0 st
section
variable (L:LT) (n:Nat) (f:Nat->E6) (o:List UInt8) (i:Nat)  (j:Nat->V)
include L n f o i j
theorem AmA (h0:ilt (ofNat i) (ofNat n)=false):Al (IP L) (Sk n f) (TG n f o i j)=some ((.ex 0),⟨jsV 36 0 Aa [(2,.str []),(3,iV 0),(4,.str o)],[]⟩):=by
 exact Ac (ks:=[kn h0]) (by kernel_rfl)
theorem Ajy (h0:ilt (ofNat i) (ofNat n)=true) (h2:ilt 0 (ofNat i)=false) (h1:Ao (ile 0 (ofNat i)) (ilt (ofNat i) (ofNat n))=true) (h14:Iz o (Ca (f i))=true) (h3:ilt 262144 (ofNat (B5 (Dq o (Ca (f i)))))=false):Al (IP L) (Sk n f) (TG n f o i j)=some (.nm,⟨jsV 36 0 Aa [(0,.sl 6 n (λi=>eV (f i))),(2,.str []),(3,iV 0),(4,.str (Dq o (Ca (f i)))),(5,iV (wr .i64 (Ak (ofNat i) 1)))],[]⟩):=by
 exact Ac (ks:=[kn h0,kn h2,kn h1,kn h14,kn h3]) (by kernel_rfl)
theorem Ajz (h0:ilt (ofNat i) (ofNat n)=true) (h2:ilt 0 (ofNat i)=false) (h1:Ao (ile 0 (ofNat i)) (ilt (ofNat i) (ofNat n))=true) (h14:Iz o (Ca (f i))=true) (h3:ilt 262144 (ofNat (B5 (Dq o (Ca (f i)))))=true):Al (IP L) (Sk n f) (TG n f o i j)=some (.rt,⟨jsV 36 0 Aa [(2,.str []),(3,iV 2),(4,.str (Dq o (Ca (f i))))],[]⟩):=by
 exact Ac (ks:=[kn h0,kn h2,kn h1,kn h14,kn h3]) (by kernel_rfl)
theorem Aj0 (h0:ilt (ofNat i) (ofNat n)=true) (h2:ilt 0 (ofNat i)=true) (h14:Iz o [32]=true) (h1:Ao (ile 0 (ofNat i)) (ilt (ofNat i) (ofNat n))=true) (h15:Iz (Dq o [32]) (Ca (f i))=true) (h3:ilt 262144 (ofNat (B5 (Dq (Dq o [32]) (Ca (f i)))))=false):Al (IP L) (Sk n f) (TG n f o i j)=some (.nm,⟨jsV 36 0 Aa [(0,.sl 6 n (λi=>eV (f i))),(2,.str []),(3,iV 0),(4,.str (Dq (Dq o [32]) (Ca (f i)))),(5,iV (wr .i64 (Ak (ofNat i) 1)))],[]⟩):=by
 exact Ac (ks:=[kn h0,kn h2,kn h14,kn h1,kn h15,kn h3]) (by kernel_rfl)
theorem Aj1 (h0:ilt (ofNat i) (ofNat n)=true) (h2:ilt 0 (ofNat i)=true) (h14:Iz o [32]=true) (h1:Ao (ile 0 (ofNat i)) (ilt (ofNat i) (ofNat n))=true) (h15:Iz (Dq o [32]) (Ca (f i))=true) (h3:ilt 262144 (ofNat (B5 (Dq (Dq o [32]) (Ca (f i)))))=true):Al (IP L) (Sk n f) (TG n f o i j)=some (.rt,⟨jsV 36 0 Aa [(2,.str []),(3,iV 2),(4,.str (Dq (Dq o [32]) (Ca (f i))))],[]⟩):=by
 exact Ac (ks:=[kn h0,kn h2,kn h14,kn h1,kn h15,kn h3]) (by kernel_rfl)
end
def Ant (n:Nat) (f:Nat->E6) :Nat->V:=lkV A9 [(8,.sl 6 n (λi=>eV (f i))),(9,bV (Cp n f)),(10,bV (A5 (Cp n f)))]
section
variable (L:LT) (p0:PT) (n:Nat) (f:Nat->E6) (o:List UInt8) (i:Nat)
include L p0 n f o i
theorem Alt (h0:Af n=true) (h1:Cp n f=true) (hp0:p0 (IP (onP 0 p0 (Ll n f o i) L)) (TG n f [] 0 (Ant n f ))=true):(Ay (Ai tab ⟨Am AaR,onP 0 p0 (Ll n f o i) L,Gl⟩ Tryz.f48 [AS n f] [])).sem=some ((.tup [.str [],iV 2]),[]):=by
 exact Ac (ks:=[kL n,kn h0,kN (kn h1),kn hp0]) (by kernel_rfl)
theorem Als (h0:Af n=true) (h1:Cp n f=true) (hp0:p0 (IP (onP 0 p0 (Adj n f o i) L)) (TG n f [] 0 (Ant n f ))=true):(Ay (Ai tab ⟨Am AaR,onP 0 p0 (Adj n f o i) L,Gl⟩ Tryz.f48 [AS n f] [])).sem=some ((.tup [.str o,iV 0]),[]):=by
 exact Ac (ks:=[kL n,kn h0,kN (kn h1),kn hp0]) (by kernel_rfl)
end
theorem Aby (L:LT) (n:Nat) (f:Nat->E6) (h8:n * 40 <= 140737488355328):∀ (d i:Nat) (j:Nat->V) (q:Nat),n=i+d->d<q ->
  (A3 (IP L) (Sk n f) q (TG n f (CW f i) i j)).sem=some (match Bh (Nj f) d i with
   | none=>Adj n f (CW f n) n
   | some t=>Ll n f (CW f (t+1)) t)
 | 0,i,j,q+1,h,_=>by
  have:n=i:=by omega
  subst this;exact Ae (AmA L n f (CW f n) n j (Aw (Nat.le_refl _)))
 | d+1,i,j,q+1,h,h2=>by
  have hl:i<n:=by omega
  have g1:=XT f i;have g2:=KC (f i);by_cases hi:0<i
  ·have hz:ilt 0 (ofNat i)=true:=by rw [show (0:Int)=ofNat 0 from rfl,BP,decide_eq_true hi]
   have k1:Iz (CW f i) [32]=true:=decide_eq_true (by simp only [List.length_cons,List.length_nil]; omega);have k2:Iz (Dq (CW f i) [32]) (Ca (f i))=true:=decide_eq_true (by simp only [Dq,List.length_append,List.length_cons,List.length_nil]; omega);have pl:=Ot (f:=f) hi;cases c1:ilt 262144 (ofNat (B5 (Dq (Dq (CW f i) [32]) (Ca (f i))))) with
    | true =>rw [Dz (show Nj f i=true by rw [Nj,pl]; exact c1)];show _=some (Ll n f (CW f (i+1)) i);rw [show Ll n f (CW f (i+1)) i=Ll n f (Dq (Dq (CW f i) [32]) (Ca (f i))) i by rw [pl]];exact Ae (Aj1 L n f (CW f i) i j (ofNat_lt hl) hz k1 (Ag hl) k2 c1)
    | false =>rw [D1 (show Nj f i=false by rw [Nj,pl]; exact c1),Ae (Aj0 L n f (CW f i) i j (ofNat_lt hl) hz k1 (Ag hl) k2 c1),A6,Ap hl (by omega),<- pl];exact Aby L n f h8 d (i+1) Aa q (by omega) (by omega)
  ·have hz:ilt 0 (ofNat i)=false:=by rw [show (0:Int)=ofNat 0 from rfl,BP,decide_eq_false hi]
   have k3:Iz (CW f i) (Ca (f i))=true:=decide_eq_true (by omega);have pl:=Oq (f:=f) hi;cases c1:ilt 262144 (ofNat (B5 (Dq (CW f i) (Ca (f i))))) with
    | true =>rw [Dz (show Nj f i=true by rw [Nj,pl]; exact c1)];show _=some (Ll n f (CW f (i+1)) i);rw [show Ll n f (CW f (i+1)) i=Ll n f (Dq (CW f i) (Ca (f i))) i by rw [pl]];exact Ae (Ajz L n f (CW f i) i j (ofNat_lt hl) hz (Ag hl) k3 c1)
    | false =>rw [D1 (show Nj f i=false by rw [Nj,pl]; exact c1),Ae (Ajy L n f (CW f i) i j (ofNat_lt hl) hz (Ag hl) k3 c1),A6,Ap hl (by omega),<- pl];exact Aby L n f h8 d (i+1) Aa q (by omega) (by omega)
theorem p64:Ax Tryz.prog Gl 48 RR:=by
 refine Aj A7 mixed Tryz.func48 (by kernel_rfl) (by kernel_rfl) λvs v h' h=>?_;obtain ⟨n,f,ha,h1⟩:=C7 h;obtain ⟨hF,hq⟩:=Ad h1;have:=Ab hq;simp only [Prod.mk.injEq] at this;obtain ⟨rfl,rfl⟩:=this;have h8:n * 40 <= 140737488355328:=of_decide_eq_true hF;have hs:Af n=true:=WQ (Ga hF);have hx:=AH Aew [(0,Sk n f)];have hL:=AQ [(0,Sk n f)];refine ⟨_,AA Gl AaR [(0,Sk n f)],_,ha,rfl,hx.1,hx.2,?_,Av.refl _⟩;unfold Dn I9;cases hm:Cp n f with
 | false=>exact Ac (ks:=[kL n,kn hs,kN (kn hm)]) (by kernel_rfl)/-W:wc64f-/
 | true =>
  have h0:=λL j=>Aby L n f h8 n 0 j (n+1) (by omega) (by omega);have ht:∀ i,Nj f i=decide (262144<(CW f (i+1)).length):=λi=>by
   unfold Nj;rw [show (262144:Int)=ofNat 262144 from rfl,BP];rfl
  cases hq:Bh (Nj f) n 0 with
  | some k =>
   rw [hq] at h0;obtain ⟨_,hk,hk2⟩:=Nb hq;have hb:Aak n f=true:=by
    rw [ht] at hk2;have:=of_decide_eq_true hk2;have:=Qy f (show k+1 <= n by omega);exact decide_eq_true (by omega)
   rw [hb];exact AP (AI hL hL) _ (Alt _ _ n f (CW f (k+1)) k hs hm (Az (h0 _ _)))
  | none =>
   rw [hq] at h0;have hb:Aak n f=false:=by
    cases n with
    | zero=>rfl
    | succ m =>have:=QH hq m (Nat.zero_le m) (by omega);rw [ht] at this;exact this
   rw [hb];exact AP (AI hL hL) _ (Als _ _ n f (CW f n) n hs hm (Az (h0 _ _)))
end Go.Proofs.YtkgdhhieomndeaaGreatDoor.Ed
namespace Go.Proofs.YtkgdhhieomndeaaGreatDoor.Em
open Go.Sy Go Go.Proofs.YtkgdhhieomndeaaGreatDoor.Ed Go.Proofs.YtkgdhhieomndeaaGreatDoor.Sh
open Int (ofNat)
set_option maxRecDepth 100000
set_option maxHeartbeats 1000000
noncomputable def Al8:AK:=[(47,Ib),(48,RR)]
theorem Ae7:Aq Tryz.prog Gl Al8:=.cons p93 <| .cons Ed.p64 .nil
noncomputable def NX:AK:=[(45,OK)]
theorem AaV:Aq Tryz.prog Gl NX:=.cons p38 .nil
def Ank (a:Int) (n:Nat) (g:Nat->E6) (m:Nat) (x:Nat->Ev5) (t:Int) (k:Nat) (p:Nat) (r:Nat->Int) (q:Nat) (ln:Nat->Nat) (co:Nat->Nat->Int):Lp:=⟨bmK 24 0 [1,3,4],3,bmK 24 0 [1,3],3,0⟩
def AeH (a:Int) (n:Nat) (g:Nat->E6) (m:Nat) (x:Nat->Ev5) (t:Int) (k:Nat) (p:Nat) (r:Nat->Int) (q:Nat) (ln:Nat->Nat) (co:Nat->Nat->Int) (b:Nat) (y:Nat->V) (j:Nat->V):St:=⟨jsV 24 0 j [(1,.ptr 0 0),(3,.ref 2),(4,nV b)],[.cells [iV a,.sl 6 n λi=>eV (g i),.sl 5 m λi=>evV (x i),iV t,nV k,.sl 1 p λi=>iV (r i),.sl 1 q λi=>.sl 1 (ln i) λj=>iV (co i j)],.row 55 5 0 Aa,.row 55 5 b y]⟩
def YJ (a:Int) (n:Nat) (g:Nat->E6) (m:Nat) (x:Nat->Ev5) (t:Int) (k:Nat) (p:Nat) (r:Nat->Int) (q:Nat) (ln:Nat->Nat) (co:Nat->Nat->Int) (b:Nat) (y:Nat->V):Ex×St:=(.ex 0,⟨jsV 24 0 Aa [(1,.ptr 0 0),(3,.ref 2)],[.cells [iV a,.sl 6 n λi=>eV (g i),.sl 5 m λi=>evV (x i),iV t,nV k,.sl 1 p λi=>iV (r i),.sl 1 q λi=>.sl 1 (ln i) λj=>iV (co i j)],.row 55 5 0 Aa,.row 55 5 b y]⟩)
noncomputable def P3 (L:LT):St->T (Ex×St):=λst=>AD tab ⟨Am NX,L,Gl⟩ (Au Tryz.f25 0) 0 st
section
variable (L:LT) (a:Int) (n:Nat) (g:Nat->E6) (m:Nat) (x:Nat->Ev5) (t:Int) (k:Nat) (p:Nat) (r:Nat->Int) (q:Nat) (ln:Nat->Nat) (co:Nat->Nat->Int) (b:Nat) (y:Nat->V)  (j:Nat->V)
include L a n g m x t k p r q ln co b y j
theorem Apq (h0:ilt (ofNat b) (ofNat k)=false):Al (P3 L) (Ank a n g m x t k p r q ln co) (AeH a n g m x t k p r q ln co b y j)=some ((.ex 0),⟨jsV 24 0 Aa [(1,.ptr 0 0),(3,.ref 2)],[.cells [iV a,.sl 6 n (λi=>eV (g i)),.sl 5 m (λi=>.agg [iV (x i).th,iV (x i).pl,iV (x i).dir,iV (x i).loc,iV (x i).val]),iV t,nV k,.sl 1 p (λi=>iV (r i)),.sl 1 q (λi=>.sl 1 (ln i) (λj=>iV (co i j)))],.row 55 5 0 Aa,.row 55 5 b y]⟩):=by
 exact Ac (ks:=[kn h0]) (by kernel_rfl)
theorem App (h0:ilt (ofNat b) (ofNat k)=true) (h23:Bn b 1 56=true):Al (P3 L) (Ank a n g m x t k p r q ln co) (AeH a n g m x t k p r q ln co b y j)=some (.nm,⟨jsV 24 0 Aa [(1,.ptr 0 0),(3,.ref 2),(4,iV (wr .i64 (Ak (ofNat b) 1)))],[.cells [iV a,.sl 6 n (λi=>eV (g i)),.sl 5 m (λi=>.agg [iV (x i).th,iV (x i).pl,iV (x i).dir,iV (x i).loc,iV (x i).val]),iV t,nV k,.sl 1 p (λi=>iV (r i)),.sl 1 q (λi=>.sl 1 (ln i) (λj=>iV (co i j)))],.row 55 5 0 Aa,.row 55 5 (AV b 1) (As b y (.agg [iV (-1),iV 0,.str (BB (ofNat b)),.str [],iV 0]))]⟩):=by
 exact Ac (ks:=[kn h0,kn h23]) (by kernel_rfl)
end
def UX (a:Int) (n:Nat) (g:Nat->E6) (m:Nat) (x:Nat->Ev5) (t:Int) (k:Nat) (p:Nat) (r:Nat->Int) (q:Nat) (ln:Nat->Nat) (co:Nat->Nat->Int) :St:=⟨jsV 24 0 (λ_=>A9) [(0,.agg [iV a,.sl 6 n (λi=>eV (g i)),.sl 5 m (λi=>.agg [iV (x i).th,iV (x i).pl,iV (x i).dir,iV (x i).loc,iV (x i).val]),iV t,nV k,.sl 1 p (λi=>iV (r i)),.sl 1 q (λu=>.sl 1 (ln u) (λi=>iV (co u i)))]),(1,.ptr 0 0),(2,.ref 1),(3,.ref 2),(4,iV 0)],[.cells [iV a,.sl 6 n (λi=>eV (g i)),.sl 5 m (λi=>.agg [iV (x i).th,iV (x i).pl,iV (x i).dir,iV (x i).loc,iV (x i).val]),iV t,nV k,.sl 1 p (λi=>iV (r i)),.sl 1 q (λu=>.sl 1 (ln u) (λi=>iV (co u i)))],.row 55 5 0 Aa,.row 55 5 0 Aa]⟩
theorem w25 (L:LT) (p0:PT) (a:Int) (n:Nat) (g:Nat->E6) (m:Nat) (x:Nat->Ev5) (t:Int) (k:Nat) (p:Nat) (r:Nat->Int) (q:Nat) (ln:Nat->Nat) (co:Nat->Nat->Int) (b:Nat) (y:Nat->V)  (hp0:p0 (P3 (onP 0 p0 (YJ a n g m x t k p r q ln co b y) L)) (UX a n g m x t k p r q ln co)=true):(Ay (Ai tab ⟨Am NX,onP 0 p0 (YJ a n g m x t k p r q ln co b y) L,Gl⟩ Tryz.f25 [.agg [iV a,.sl 6 n λi=>eV (g i),.sl 5 m λi=>evV (x i),iV t,nV k,.sl 1 p λi=>iV (r i),.sl 1 q λu=>.sl 1 (ln u) λi=>iV (co u i)]] [])).sem=some ((.ref 0),[.row 55 5 b y]):=by
 exact Ac (ks:=[kn hp0]) (by kernel_rfl)
def Akz:List V->AE
 | [v]=>apS v λs=>.br (BC s.ne) (.br (Cp s.ne s.E) (.leaf (.str (Dn s.ne λi=>AY s.ne s.E i),[])) .fail) .fail
 | _=>.fail
theorem p24:Ax Tryz.prog Gl 24 Akz:=by
 refine Aj A7 mixed Tryz.func24 (by kernel_rfl) (by kernel_rfl) λvs v h' h=>?_;unfold Akz at h;split at h
 ·rename_i v1
  obtain ⟨s,a1,h⟩:=apS_some h;obtain ⟨hf,h⟩:=Ad h;obtain ⟨hn,h⟩:=Ad h;have:=Ab h;simp only [Prod.mk.injEq] at this;obtain ⟨rfl,rfl⟩:=this;obtain ⟨a,n,g,m,x,t,kk,p,r,q,C⟩:=s;obtain ⟨ln,co,hC⟩:∃ (ln:Nat->Nat) (co:Nat->Nat->Int),C=λu=>(ln u,co u):=⟨λu=>(C u).1,λu=>(C u).2,rfl⟩;subst hC;have hA:Bj [v1] [.agg [iV a,.sl 6 n (λi=>eV (g i)),.sl 5 m (λi=>evV (x i)),iV t,iV kk,.sl 1 p (λi=>iV (r i)),.sl 1 q (λu=>.sl 1 (ln u) (λi=>iV (co u i)))]]:=λS w cs hv=>by
   obtain ⟨c,l,rfl,q1,q2⟩:=hv;exact ⟨c,_,rfl,a1 S w c q1,q2⟩
  have hx:=AH Ae7 [] (G:=Gl);exact ⟨_,AA Gl Al8 [],_,hA,rfl,hx.1,hx.2,Ac (ks:=[kL n,kn hf,kn hn,kL n,kn hf]) (by kernel_rfl)/-W:w24-/,Av.refl _⟩
 ·cases h
section
variable (a:Int) (n:Nat) (g:Nat->E6) (m:Nat) (x:Nat->Ev5) (t:Int) (k:Nat) (p:Nat) (r:Nat->Int) (q:Nat) (ln:Nat->Nat) (co:Nat->Nat->Int)
theorem AgW (M:LT) (hk:k <= 1023):∀ (d b:Nat) (j:Nat->V),k=b+d->LRun ⟨Am NX,Gl⟩ (P3 M) (AeH a n g m x t k p r q ln co b Do j) (YJ a n g m x t k p r q ln co k Do)
 | 0,b,j,h=>by
  have:k=b:=by omega
  subst this;exact LRun.exit (Apq M a n g m x t k p r q ln co k Do j (Aw (Nat.le_refl _))) (by simp)
 | d+1,b,j,h=>by
  have hb:b<k:=by omega
  have h1:=App M a n g m x t k p r q ln co b Do j (ofNat_lt hb) (decide_eq_true (by omega));rw [Ap hb (by omega)] at h1;refine LRun.round h1 (Ft (i:=2) (n:=b+1) (g':=Do) rfl λi _=>?_) (AgW M hk d (b+1) Aa (by omega));show Do i=As b Do (Do b) i;rw [Bo];cases hi:Nat.beq i b with
  | true=>rw [Nat.eq_of_beq_eq_true hi]; rfl
  | false=>rfl
theorem Add:(⟨(UX a n g m x t k p r q ln co).t,(UX a n g m x t k p r q ln co).h.set 2 (.row 55 5 0 Do)⟩:St)=AeH a n g m x t k p r q ln co 0 Do (λi=>nth (UX a n g m x t k p r q ln co).t i):=by kernel_rfl
end
def Akp:List V->AE
 | [v]=>apS v λs=>.br (ieq s.kk (ofNat (toN s.kk))) (.br (IG (toN s.kk)) (.leaf (.ref 0,[.row 55 5 (toN s.kk) Do])) .fail) .fail
 | _=>.fail
theorem p25:Ax Tryz.prog Gl 25 Akp:=by
 refine Aj A7 mixed Tryz.func25 (by kernel_rfl) (by kernel_rfl) λvs v h' h=>?_;unfold Akp at h;split at h
 ·rename_i v1
  obtain ⟨s,a1,h⟩:=apS_some h;obtain ⟨hf,h⟩:=Ad h;obtain ⟨hn,h⟩:=Ad h;have:=Ab h;simp only [Prod.mk.injEq] at this;obtain ⟨rfl,rfl⟩:=this;obtain ⟨a,n,g,m,x,t,kk,p,r,q,C⟩:=s;obtain ⟨ln,co,hC⟩:∃ (ln:Nat->Nat) (co:Nat->Nat->Int),C=λu=>(ln u,co u):=⟨λu=>(C u).1,λu=>(C u).2,rfl⟩;subst hC;obtain ⟨k,hk⟩:∃ k:Nat,kk=ofNat k:=⟨toN kk,by simpa [ieq] using hf⟩;subst hk;have hn:k <= 1023:=Nat.le_of_ble_eq_true hn;have hA:Bj [v1] [.agg [iV a,.sl 6 n (λi=>eV (g i)),.sl 5 m (λi=>evV (x i)),iV t,nV k,.sl 1 p (λi=>iV (r i)),.sl 1 q (λu=>.sl 1 (ln u) (λi=>iV (co u i)))]]:=λS w cs hv=>by
   obtain ⟨c,l,rfl,q1,q2⟩:=hv;exact ⟨c,_,rfl,a1 S w c q1,q2⟩
  have hc0:Bv Tryz.prog ⟨Am NX,Gl⟩:=(AH AaV [] (G:=Gl)).1
  let r6:=YJ a n g m x t k p r q ln co k Do
  have hrun:∀ M,LRun ⟨Am NX,Gl⟩ (P3 M) (UX a n g m x t k p r q ln co) r6:=λM=>by
   refine .weak (Ft (i:=2) (n:=0) (g':=Do) rfl λ_ hq=>absurd hq (Nat.not_lt_zero _)) ?_;rw [Add];exact AgW a n g m x t k p r q ln co M hn k 0 _ (by omega)
  exact ⟨_,⟨Am NX,_,Gl⟩,_,hA,rfl,hc0,HH (k:=0) (r:=r6) GO,w25 noL _ a n g m x t k p r q ln co k Do (E1 (hrun _)),Av.refl _⟩
 ·cases h
end Go.Proofs.YtkgdhhieomndeaaGreatDoor.Em
