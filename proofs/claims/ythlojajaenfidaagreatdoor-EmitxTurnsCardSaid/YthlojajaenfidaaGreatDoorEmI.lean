/-
  Facts of a cycle's shape and of its test. No conditions.
-/
import Derived.Test.YthlojajaenfidaaGreatDoorShO
import Derived.Test.YthlojajaenfidaaGreatDoorShYa
namespace Go.Proofs.YthlojajaenfidaaGreatDoor.Em
open Go.Sy Go Go.Proofs.YthlojajaenfidaaGreatDoor.Ed Go.Proofs.YthlojajaenfidaaGreatDoor.Sh
open Int (ofNat)
set_option maxRecDepth 100000
set_option maxHeartbeats 1000000
theorem TA {n:Nat} {l:Nat->Int} {c:Nat->Bool} {q:Int} (h:∀ i,i < n->AH n l c q i = false):crR n l c q = (0,false):=by
 unfold crR
 rw [CU.2 λk _ h2=>h k (by omega)]
theorem Ai3 {a:Int} {n:Nat} {f:Nat->E6} (h:IsCycle a n f):Pb a n f = (0,0):=by
 have e1:Dg a n f = (0,0):=by
  unfold Dg
  rw [CU.2 λk _ h2=>h.legal k (by omega)]
  show (match Ba (ES n f) n 0 with | some t=>((41:Int),ofNat t) | none=>(0,0)) = (0,0)
  rw [CU.2 λk _ h2=>h.meets k (by omega)]
 have c1:ilt (ofNat n) 2 = false:=by rw [show (2:Int) = ofNat 2 from rfl,Cf,decide_eq_false (by have:=h.lo; omega)]
 have c2:ilt 16 (ofNat n) = false:=by rw [show (16:Int) = ofNat 16 from rfl,Cf,decide_eq_false (by have:=h.hi; omega)]
 have c3:ilt (Hy n f) 2 = false:=by unfold Hy; rw [show (2:Int) = ofNat 2 from rfl,Cf,decide_eq_false (by have:=h.outer; omega)]
 have c4:ilt (Ii n f) 2 = false:=by unfold Ii; rw [show (2:Int) = ofNat 2 from rfl,Cf,decide_eq_false (by have:=h.moves; omega)]
 rw [Xr h.arch]
 unfold Jg
 rw [c1,c2,e1]
 show E8 n f = (0,0)
 unfold E8
 rw [c3,c4]
 show Ij n f = (0,0)
 unfold Ij
 rw [TA h.writes,TA h.crowd]
theorem R8 {a:Int} {n:Nat} {f:Nat->E6} (h:IsCycle a n f):ieq (BN a n f) 0 = true ∧ ieq (KT a n f) 0 = true:=by
 unfold BN KT
 rw [Ai3 h]
 exact ⟨rfl,rfl⟩
theorem WE (p:Nat->Bool) (n:Nat):Fb p n <= n:=by
 by_cases h:∃ i,i < n ∧ p i = true
 ·obtain ⟨i,h1,h2⟩:=h
  have:=(Eb h1 h2).1
  omega
 ·rw [IE λi hi=>by
   cases hp:p i with
   | false=>rfl
   | true=>exact absurd ⟨i,hi,hp⟩ h]
  exact Nat.le_refl _
theorem OC {n:Nat} {f l:Nat->E6} (hm:BR n f = true) (hl:∀ i,i < n->l i = f i) {i:Nat} (hi:i < n):Bc n l i = Bc n f i:=by
 rw [RD hm hl i hi,RD hm (λ_ _=>rfl) i hi]
theorem XD {n:Nat} {f l:Nat->E6} (hm:BR n f = true) (hl:∀ i,i < n->l i = f i):shG n l = shG n f:=by
 have hq:shQ n l = shQ n f:=by
  unfold shQ
  rw [J3 (p:=λi=>Ax (Bc n l i)) (q:=λi=>Ax (Bc n f i)) λi hi=>by rw [OC hm hl hi]]
 funext i
 unfold shG AdT
 by_cases hi:i < n
 ·rw [decide_eq_true hi,hq]
  exact OC hm hl (Nat.mod_lt _ (by omega))
 ·rw [decide_eq_false hi]
  rfl
theorem Gx {k:Nat} (h:k <= 16):Ao k = true:=decide_eq_true (by omega)
theorem XJ (n:Nat) (f:Nat->E6):DT n f n f = true:=N4.2 ⟨rfl,λ_ _=>rfl⟩
theorem Pz (n:Nat) (f:Nat->Int):D8 n f n f = true:=by
 unfold D8
 rw [B0 (BP _)]
 exact A4.2 λ_ _=>BP _
theorem XI (n:Nat) (ln:Nat->Nat) (co:Nat->Nat->Int):HC n ln co n ln co = true:=by
 unfold HC
 rw [B0 (BP _)]
 exact A4.2 λ_ _=>Pz _ _
theorem XF (e:Ev5):G2 e e = true:=by
 unfold G2
 rw [B0 (BP _),B0 (BP _),B0 (BP _),B0 (BP _),B0 (BP _)]
theorem AcE {a:Int} {n:Nat} {f:Nat->E6} (h:IsCycle a n f):shG n (shG n f) = shG n f:=by
 have hlo:=h.lo
 have hs:(Co n (λi=>B2 (f i))+shQ n f) % n < n:=Nat.mod_lt _ (by omega)
 rw [XD (h.turned hs).may (l:=shG n f) λi hi=>?_]
 ·exact Nz h hs
 ·rw [Kd hi]
  show f ((Co n (λi=>B2 (f i))+(shQ n f+i) % n) % n) = _
  rw [Nat.add_mod_mod,Nat.mod_add_mod,Nat.add_assoc]
theorem XH (s:Sh7):N2 s s = true:=by
 unfold N2
 rw [B0 (BP _),B0 (BP _),B0 (BP _),B0 (XJ _ _),B0 (BP _),B0 (Pz _ _),B0 (XI _ _ _)]
 exact A4.2 λ_ _=>XF _
theorem TE {a:Int} {n:Nat} {f:Nat->E6} (h:IsCycle a n f):CX (ofS a n f) = true:=by
 unfold CX
 rw [B0 (show ieq (BN (ofS a n f).arch (ofS a n f).ne (ofS a n f).E) 0 = true from (R8 (Fj h)).1)]
 show N2 (ofS a n f) (ofS a n (shG n f)) = true
 rw [show ofS a n (shG n f) = ofS a n f by unfold ofS; rw [AcE h]]
 exact XH _
theorem ZK {n:Nat} {f:Nat->E6} (h:IsCycle 1 n f):rtS (ofS 1 n f) = 0:=by
 show (bif ieq (sel (CX (ofS 1 n f)) 0 70) 0 then (bif ieq 1 1 then 0 else 5) else 70) = (0:Int)
 rw [TE h]
 rfl
def noS:Sh7:=⟨0,0,λ_=>E6.mk 0 false false 0 0 0,0,λ_=>Ev5.mk 0 0 0 0 0,0,0,0,λ_=>0,0,λ_=>(0,λ_=>0)⟩
theorem ZL:rtS noS = 70:=by
 show (bif ieq (sel (CX noS) 0 70) 0 then (bif ieq 0 1 then 0 else 5) else 70) = (70:Int)
 cases hc:CX noS with
 | false=>rfl
 | true =>
  unfold CX at hc
  have h2:2 <= 0:=(D2 (Bj hc).1).lo
  omega
theorem part_lt {p:Nat->Bool} {n i:Nat} (h:0 < Aj p n) (hi:i < n):AU p n i < Aj p n ∧ AU p n i <= i:=by
 have h1:=AV p i
 unfold AU
 split
 ·exact ⟨h,Nat.zero_le _⟩
 ·rename_i hne
  have:=AW p (show i <= n by omega)
  exact ⟨by omega,h1⟩
theorem RR {x:Int} (h1:0 <= x) (h2:x < 1000):wr .i64 x = x:=by
 unfold wr IntKind.wrap
 simp [IntKind.bits,IntKind.signed]
 omega
theorem Aeg (fe:Nat->Bool) (x:Nat->Ev5):∀ b,b <= 16->(∀ u,0 <= (wsF fe x b).nx u ∧ (wsF fe x b).nx u <= (b:Int)) ∧ (∀ u,(wsF fe x b).lw u <= 2 * b) ∧ ∀ i,i < b->ieq (x i).dir 2 = false->0 <= (wsF fe x b).y i ∧ (wsF fe x b).y i < 32
 | 0,_=>⟨λ_=>⟨Int.le_refl _,Int.le_refl _⟩,λ_=>Nat.le_refl _,λi hi=>absurd hi (Nat.not_lt_zero _)⟩
 | b+1,hb=>by
  obtain ⟨h1,h2,h3⟩:=Aeg fe x b (by omega)
  have hw:wr .i64 (Af ((wsF fe x b).nx (toN (x b).th)) 1) = (wsF fe x b).nx (toN (x b).th)+1:=by
   have:=h1 (toN (x b).th)
   exact RR (by unfold Af; omega) (by unfold Af; omega)
  have hp:∀ (lw:Nat->Nat) (q u u':Nat),(∀ u,lw u <= q)->OU lw u u' <= q+1:=λlw q u u' h=>by
   unfold OU sel Bd
   have:=h u
   have:=h u'
   cases AB u' u <;> simp <;> omega
  refine ⟨λu=>?_,λu=>?_,λi hi hr=>?_⟩
  ·have g:=h1 u
   have g':=h1 (toN (x b).th)
   show 0 <= (evW (fe b) (x b) b (wsF fe x b)).nx u ∧ (evW (fe b) (x b) b (wsF fe x b)).nx u <= ((b+1:Nat):Int)
   unfold evW yW nxW UL
   cases ieq (x b).dir 2 <;> cases fe b <;> simp only [cond_true,cond_false]
   all_goals first
    | omega
    | (rw [hw]
       unfold sel
       cases AB u (toN (x b).th) <;> simp <;> omega)
  ·show (evW (fe b) (x b) b (wsF fe x b)).lw u <= 2 * (b+1)
   unfold evW yW nxW UL
   cases ieq (x b).dir 2 <;> cases fe b <;> simp only [cond_true,cond_false]
   ·exact Nat.le_succ_of_le (hp _ _ _ _ h2)
   ·exact hp _ _ _ _ λu=>hp _ _ _ u h2
   ·exact Nat.le_succ_of_le (hp _ _ _ _ h2)
   ·exact hp _ _ _ _ λu=>hp _ _ _ u h2
  ·show 0 <= (evW (fe b) (x b) b (wsF fe x b)).y i ∧ (evW (fe b) (x b) b (wsF fe x b)).y i < 32
   have g':=h1 (toN (x b).th)
   have hy:(evW (fe b) (x b) b (wsF fe x b)).y i = bif AB i b then yvW (x b) (wsF fe x b) else (wsF fe x b).y i:=by
    unfold evW yW nxW UL
    cases ieq (x b).dir 2 <;> cases fe b <;> rfl
   rw [hy]
   cases hib:AB i b with
   | true =>
    have:i = b:=Nat.eq_of_beq_eq_true hib
    subst this
    show 0 <= yvW (x i) (wsF fe x i) ∧ yvW (x i) (wsF fe x i) < 32
    unfold yvW
    rw [hr,BX,hw]
    show 0 <= wr .i64 (Az ((wsF fe x i).nx (toN (x i).th)+1) 1) ∧ wr .i64 (Az ((wsF fe x i).nx (toN (x i).th)+1) 1) < 32
    rw [RR (by unfold Az; omega) (by unfold Az; omega)]
    unfold Az
    omega
   | false =>
    have:i ≠ b:=λhc=>by rw [hc,BX] at hib; cases hib
    exact h3 i (by omega) hr
theorem Adr {k:Nat} (hk:k < 16):Ta (C6 (ofNat k)) = true:=by
 have:k = 0 ∨ k = 1 ∨ k = 2 ∨ k = 3 ∨ k = 4 ∨ k = 5 ∨ k = 6 ∨ k = 7 ∨ k = 8 ∨ k = 9 ∨ k = 10 ∨ k = 11 ∨ k = 12 ∨ k = 13 ∨ k = 14 ∨ k = 15:=by omega
 rcases this with rfl | rfl | rfl | rfl | rfl | rfl | rfl | rfl | rfl | rfl | rfl | rfl | rfl | rfl | rfl | rfl <;> rfl
def VU (p:Tg × Int):Prop:=tgB p.1.th p.1.rg p.1.lc = true ∧ Jo p.2 = true
theorem AdX {l:List (Tg × Int)} (h:∀ p,p ∈ l->VU p):tgA l.length (gT l) = true ∧ Aid l.length (gW l) = true:=by
 have key:∀ i,i < l.length->VU (l.getD i (⟨0,0,[]⟩,0)):=λi hi=>h _ (by simp [List.getD,hi])
 exact ⟨A4.2 λi hi=>(key i hi).1,A4.2 λi hi=>(key i hi).2⟩
theorem Vs {x:Nat->Ev5} {rg:Nat->Int} {m:Nat} (h:∀ i,i < m->ieq (x i).dir 1 = true->VU (⟨(x i).th,rg i,[]⟩,(x i).val)):∀ i,i <= m->∀ p,p ∈ evL x rg i->VU p
 | 0,_,p,hp=>by cases hp
 | i+1,hi,p,hp=>by
  rw [evL] at hp
  cases hc:ieq (x i).dir 1 with
  | true =>
   rw [hc] at hp
   rcases List.mem_append.1 (show p ∈ _ ++ _ from hp) with hp | hp
   ·exact Vs h i (by omega) p hp
   ·simp only [List.mem_cons,List.not_mem_nil,or_false] at hp
    subst hp
    exact h i (by omega) hc
  | false =>
   rw [hc] at hp
   exact Vs h i (by omega) p hp
theorem Aa6 {l:List (Tg × Int)} {ln s1:Nat->Nat} {A:Nat} (hl:∀ p,p ∈ l->VU p) (h:∀ i,i < A->s1 i < 16 ∧ ln (s1 i) <= 1000):∀ b,b <= A->∀ p,p ∈ loL l ln s1 b->VU p
 | 0,_,p,hp=>hl p hp
 | b+1,hb,p,hp=>by
  rw [loL] at hp
  rcases List.mem_append.1 hp with hp | hp
  ·exact Aa6 hl h b (by omega) p hp
  ·simp only [List.mem_cons,List.not_mem_nil,or_false] at hp
   subst hp
   obtain ⟨h1,h2⟩:=h b (by omega)
   refine ⟨?_,?_⟩
   ·show (bif ieq (-1) (-1) then (ieq 0 0 && Ta (C6 (ofNat (s1 b)))) else _) = true
    rw [Adr h1]
    rfl
   ·unfold Jo
    rw [show ile (-2147483648) (ofNat (ln (s1 b))) = true from decide_eq_true (by simp only [Int.ofNat_eq_natCast]; omega)]
    exact decide_eq_true (by simp only [Int.ofNat_eq_natCast]; omega)
theorem AeF (m w:Nat->Bool) (n k:Nat):lnN m w n k <= n+1:=by
 unfold lnN Cj
 refine Nat.le_trans (AV _ _) ?_
 have:=WE (λt=>m (rnd n (stN m n k) t)) n
 omega
theorem AfT (m w:Nat->Bool) (n i:Nat):Qs m w n i <= n+1:=by
 unfold Qs
 refine Nat.le_trans (AV _ _) ?_
 have:=WE (λd=>m (rnd n i (n - 1 - d))) n
 unfold Hw
 omega
theorem ok6 {n:Nat} {f:Nat->E6} (h:IsCycle 1 n f):Un (ofS 1 n f) = true ∧ Cm (ofS 1 n f) = true ∧ ∀ u,(wsS (ofS 1 n f)).lw u < 40:=by
 have hhi:=h.hi
 have hG:=Fj h
 have ht:ttN n (shG n f) <= n:=AV _ _
 have hk:kkN n (shG n f) <= n:=AV _ _
 have hev:∀ i,i < n->evF n (shG n f) (λ_=>true) i = ⟨thF n (shG n f) i,ofNat (plF n (shG n f) i),(shG n f i).src,loF n (shG n f) i,ofNat (Qs (mbF (shG n f)) (wrF (shG n f)) n i)⟩:=λi hi=>CF hi
 have hth:∀ i,i < n->(evF n (shG n f) (λ_=>true) i).th = ofNat (AU (obF (shG n f)) n i):=λi hi=>by
  rw [hev i hi]
  exact FL hi
 have hpl:∀ i,i < n->AU (obF (shG n f)) n i < ttN n (shG n f) ∧ AU (obF (shG n f)) n i <= i:=λi hi=>part_lt (by have:=hG.outer; exact Nat.lt_of_lt_of_le (by decide) this) hi
 obtain ⟨_,w2,w3⟩:=Aeg (feF (shG n f) n) (evF n (shG n f) λ_=>true) n hhi
 have hw:wrB (ofS 1 n f) = true:=by
  unfold wrB
  refine (B0 (Nat.ble_eq_true_of_le hhi)).trans <| (B0 (Nat.ble_eq_true_of_le (show toN (ofNat (ttN n (shG n f))) <= 16 from Nat.le_trans ht hhi))).trans <| (B0 (BP _)).trans <| (B0 (A4.2 λb hb=>?_)).trans (A4.2 λb hb=>?_)
  ·show Al (ile 0 (evF n (shG n f) (λ_=>true) b).th) (ilt (evF n (shG n f) (λ_=>true) b).th (ofNat (ttN n (shG n f)))) = true
   rw [hth b hb]
   exact Ap (hpl b hb).1
  ·exact decide_eq_true (Nat.mod_lt _ (by have:b < n:=hb; omega))
 have hs:Cm (ofS 1 n f) = true:=by
  unfold Cm
  exact (B0 (Gx hhi)).trans <| (B0 (Gx hhi)).trans <| (B0 (Gx hhi)).trans <| (B0 (Gx (Nat.le_trans hk hhi))).trans (A4.2 λk _=>decide_eq_true (by have:=AeF (mbF (shG n f)) (wrF (shG n f)) n k; show lnN _ _ n k <= _; omega))
 have hA:∀ p,p ∈ axS (ofS 1 n f)->VU p:=Aa6 (Vs (λi hi hr=>?_) n (Nat.le_refl _)) (λi hi=>?_) _ (Nat.le_refl _)
 rotate_left
 ·have hi:i < n:=hi
  have hd:ieq (evF n (shG n f) (λ_=>true) i).dir 2 = false:=by
   have:=CC (show ieq (evF n (shG n f) (λ_=>true) i).dir 1 = true from hr)
   rw [this]
   rfl
  have hy:=w3 i hi hd
  obtain ⟨p1,p2⟩:=hpl i hi
  refine ⟨?_,?_⟩
  ·show tgB (evF n (shG n f) (λ_=>true) i).th ((wsF (feF (shG n f) n) (evF n (shG n f) λ_=>true) n).y i) [] = true
   rw [hth i hi]
   unfold tgB
   rw [show ieq (ofNat (AU (obF (shG n f)) n i)) (-1) = false from rfl]
   simp only [cond_false,Bool.and_eq_true]
   refine ⟨decide_eq_true (by simp only [Int.ofNat_eq_natCast]; omega),decide_eq_true (by simp only [Int.ofNat_eq_natCast]; omega),decide_eq_true hy.1,decide_eq_true hy.2,rfl⟩
  ·show Jo (evF n (shG n f) (λ_=>true) i).val = true
   rw [hev i hi]
   have:=AfT (mbF (shG n f)) (wrF (shG n f)) n i
   unfold Jo
   rw [show ile (-2147483648) (ofNat (Qs (mbF (shG n f)) (wrF (shG n f)) n i)) = true from decide_eq_true (by simp only [Int.ofNat_eq_natCast]; omega)]
   exact decide_eq_true (by simp only [Int.ofNat_eq_natCast]; omega)
 ·have h1:=(G1 (P:=λk=>ieq (ofNat (lnN (mbF (shG n f)) (wrF (shG n f)) n k)) 2) (show i < Aj _ (kkN n (shG n f)) from hi)).1
  have h2:=AeF (mbF (shG n f)) (wrF (shG n f)) n (TO (kkN n (shG n f)) (λk=>lnN (mbF (shG n f)) (wrF (shG n f)) n k) i)
  exact ⟨Nat.lt_of_lt_of_le h1 (Nat.le_trans hk hhi),Nat.le_trans h2 (by omega)⟩
 obtain ⟨a1,a2⟩:=AdX hA
 have hlen:(axS (ofS 1 n f)).length <= 1023:=by
  have h1:=Vt (evF n (shG n f) λ_=>true) (wsS (ofS 1 n f)).y n
  have h2:(axS (ofS 1 n f)).length = _:=MJ (evL (evF n (shG n f) λ_=>true) (wsS (ofS 1 n f)).y n) (λk=>lnN (mbF (shG n f)) (wrF (shG n f)) n k) (TO (kkN n (shG n f)) λk=>lnN (mbF (shG n f)) (wrF (shG n f)) n k) (Li (kkN n (shG n f)) λk=>lnN (mbF (shG n f)) (wrF (shG n f)) n k)
  have h3:Li (kkN n (shG n f)) (λk=>lnN (mbF (shG n f)) (wrF (shG n f)) n k) <= kkN n (shG n f):=AV _ _
  omega
 refine ⟨?_,hs,λu=>Nat.lt_of_le_of_lt (w2 u) (by omega)⟩
 unfold Un Qk
 simp only [Bool.and_eq_true]
 refine ⟨BP _,Nat.ble_eq_true_of_le (show kkN n (shG n f) <= 1023 by omega),hw,hG.may,decide_eq_true (show n * 40 <= _ by omega),decide_eq_true (show kkN n (shG n f) * 8 <= _ by omega),hs,TE h,Nat.ble_eq_true_of_le (show n <= 1023 by omega),Nat.ble_eq_true_of_le (Nat.le_refl n),Nat.ble_eq_true_of_le (show kkN n (shG n f) <= 1023 by omega),Nat.ble_eq_true_of_le hlen,a1,a2⟩
end Go.Proofs.YthlojajaenfidaaGreatDoor.Em
namespace Go.Proofs.YthlojajaenfidaaGreatDoor.Em
open Go.Sy Go Go.Proofs.YthlojajaenfidaaGreatDoor.Ed Go.Proofs.YthlojajaenfidaaGreatDoor.Sh
set_option maxRecDepth 100000
set_option maxHeartbeats 1000000
def ofG (n:Nat) (G:Nat->E6):Sh7:=⟨1,n,G,n,evF n G (λ_=>true),Int.ofNat (ttN n G),Int.ofNat (kkN n G),n,rfF n G (λ_=>true),kkN n G,λk=>(lnN (mbF G) (wrF G) n k,λi=>Int.ofNat (coN (mbF G) (wrF G) n k i))⟩
def cyS (s:Sh7):List UInt8:=Do s.ne λi=>Bc s.ne s.E i
def k1S (s:Sh7):Int:=Pd (axS s).length
def k2S (s:Sh7):Int:=(DG (axS s).length (gT (axS s))).th
def k3S (s:Sh7):Int:=(DG (axS s).length (gT (axS s))).rg
def k4S (s:Sh7):List UInt8:=(DG (axS s).length (gT (axS s))).lc
def k5S (s:Sh7):Int:=Pe (axS s).length (gW (axS s))
def knS (s:Sh7):Nat:=MD (axS s).length
def kXS (s:Sh7):Nat->Tg:=gT (axS s)
def kfS (s:Sh7):Nat->Int:=gW (axS s)
def lwS (s:Sh7):Nat->Nat:=(wsS s).lw
def cwS (s:Sh7):Nat->Nat->In4:=(wsS s).cw
def Ais (i:Nat):In5:=⟨-1,0,C6 (Int.ofNat i),[],0⟩
noncomputable def Ade (G:Nat->E6):List V->T (V × List Blk)
 | [.val (.int .i64 a),v]=>apL v λn f=>.br (Be n) (.br (ieq (BN a n f) 0) (.br (HB (shG n f) G) (.leaf (.tup [Nx a n G,iV 0,iV 0],Ny n G)) .fail) (.leaf (.tup [noV,iV (BN a n f),iV (KT a n f)],noH))) .fail
 | _=>.fail
theorem AmT (G:Nat->E6):A6 Tryz.prog Gl 4 (Ade G):=Sh.p14.congr λvs r h=>by
 obtain ⟨a,v,rfl⟩:∃ a v,vs = [.val (.int .i64 a),v]:=by
  unfold Ade at h
  split at h
  ·exact ⟨_,_,rfl⟩
  ·cases h
 unfold Ade at h
 unfold Sh.ofT
 dsimp only at h ⊢
 unfold apL at h ⊢
 split at h
 ·rename_i n g hg
  obtain ⟨h1,h⟩:=Ad h
  dsimp only at h
  obtain ⟨h2,h⟩:=Ad h
  rw [h1]
  dsimp only
  rw [h2]
  cases hc:ieq (BN a n λi=>edE (g i)) 0 with
  | true =>
   rw [hc] at h
   obtain ⟨h3,h⟩:=Ad (show (T.br _ _ .fail).sem = _ from h)
   rw [N3 h3]
   exact h
  | false =>
   rw [hc] at h
   exact h
 ·cases h
noncomputable def tb3 (G:Nat->E6):List (Nat × (List V->T (V × List Blk))):=[(4,Ade G),(5,JT),(6,YY),(7,AaR),(8,X5),(9,YP (bV true)),(10,U1)]
theorem tb3_ok (G:Nat->E6):A8 Tryz.prog Gl (tb3 G):=.cons (AmT G) <| .cons p69 <| .cons p6t <| .cons AmR <| .cons p8 <| .cons p43 <| .cons AmV .nil
section
variable (L:LT) (n:Nat) (f:Nat->E6) (z:Int) (nm:List UInt8) (G:Nat->E6)
include L n f z nm G
theorem w3n (h33:Be n = true) (h34:ieq (BN 1 n f) 0 = false) (h35:AR [.jag (Jag.mk 0 0 0 (λ_=>.und) 0 0 0 (λ_=>true) (λ_=>0) (λ_ _=>.und))] = true) (h36:ieq (BN 1 n (λi=>(D5 n f z i))) 0 = false) (h37:Bk [.row 0 0 0 (λ_=>iV 0),.row 0 0 0 (λ_=>iV 0),.row 0 0 0 (λ_=>iV 0),.jag (Jag.mk 0 1 0 (λ_=>.und) 0 0 0 (λ_=>true) (λ_=>0) (λ_ _=>iV 0))] = true) (h38:AR [.jag (Jag.mk 0 0 0 (λ_=>.und) 0 0 0 (λ_=>true) (λ_=>0) (λ_ _=>.und)),.jag (Jag.mk 0 0 0 (λ_=>.und) 0 0 0 (λ_=>true) (λ_=>0) (λ_ _=>.und))] = true) (h39:AJ 0 (λ_=>false) = true) (h40:AJ 0 (λ_=>(AJ 0 (λ_=>false))) = true) (h41:Be 0 = true) (h42:Cm noS = true) (h43:ieq (rtS noS) 0 = false) (h44:Bk [.row 0 0 0 (λ_=>iV 0),.jag (Jag.mk 0 1 0 (λ_=>.und) 0 0 0 (λ_=>true) (λ_=>0) (λ_ _=>iV 0))] = true) (h45:AR [.jag (Jag.mk 0 0 0 (λ_=>.und) 0 0 0 (λ_=>true) (λ_=>0) (λ_ _=>.und)),.jag (Jag.mk 0 0 0 (λ_=>.und) 0 0 0 (λ_=>true) (λ_=>0) (λ_ _=>.und)),.jag (Jag.mk 0 0 0 (λ_=>.und) 0 0 0 (λ_=>true) (λ_=>0) (λ_ _=>.und))] = true):(Au (Ah tab ⟨Ak (tb3 G),L,Gl⟩ Tryz.f3 [.sl 6 n (λi=>eV (f i)),iV z,.str nm] [])).sem = some ((bV true),[]):=by
 exact Aa (ks:=[kL n,kn h33,kn h34,kL n,kn h33,kn h35,kL n,kn h33,kn h36,kn h37,kn h38,kn h39,kn h39,kn h39,kn h40,kn h41,kn h42,kn h43,kn h44,kn h45,kn h39,kn h39,kn h39,kn h40,kn h41,kn h42,kn h43,kn h44,kL n,kn h33,kn h34,kN kF,kN kF,kN kF,kN kF,kT,kN (kn h43),kN (kn h43),kN (kn h43),kN (kn h43),kN (kn h43),kN (kn h43),kN (kn h43),kN (kn h43),kN (kn h43),kN (kn h43),kN (kn h43),kN (kn h43),kI 0,kI 0]) (by kernel_rfl)
theorem w3t (h34:Be n = true) (h35:ieq (BN 1 n f) 0 = true) (h36:HB (shG n f) G = true) (h37:AR [.jag (Jag.mk 0 0 (kkN n G) (λ_=>.und) 0 0 0 (λ_=>true) (λ_=>0) (λ_ _=>.und))] = true) (h38:ieq (BN 1 n (λi=>(D5 n f z i))) 0 = true) (h39:HB (shG n (λi=>(D5 n f z i))) G = true) (h40:Bk [.row 0 0 n (λ_=>iV 0),.row 0 0 n (λ_=>iV 0),.row 0 0 n (λ_=>iV 0),.jag (Jag.mk 0 1 (kkN n G) (λ_=>.und) 0 0 0 (λ_=>true) (lnN (mbF G) (wrF G) n) (λ_ _=>iV 0))] = true) (h41:AR [.jag (Jag.mk 0 0 (kkN n G) (λ_=>.und) 0 0 0 (λ_=>true) (λ_=>0) (λ_ _=>.und)),.jag (Jag.mk 0 0 (kkN n G) (λ_=>.und) 0 0 0 (λ_=>true) (λ_=>0) (λ_ _=>.und))] = true) (h42:AJ (kkN n G) (λi=>(AJ (lnN (mbF G) (wrF G) n i) (λ_=>true))) = true) (h43:Cm (ofG n G) = true) (h44:ieq (rtS (ofG n G)) 0 = true) (h3:Lx nm = false) (h45:Bk [.row 0 0 0 (λ_=>iV 0),.jag (Jag.mk 0 1 0 (λ_=>.und) 0 0 0 (λ_=>true) (λ_=>0) (λ_ _=>iV 0))] = true) (h46:AR [.jag (Jag.mk 0 0 (kkN n G) (λ_=>.und) 0 0 0 (λ_=>true) (λ_=>0) (λ_ _=>.und)),.jag (Jag.mk 0 0 (kkN n G) (λ_=>.und) 0 0 0 (λ_=>true) (λ_=>0) (λ_ _=>.und)),.jag (Jag.mk 0 0 0 (λ_=>.und) 0 0 0 (λ_=>true) (λ_=>0) (λ_ _=>.und))] = true):(Au (Ah tab ⟨Ak (tb3 G),L,Gl⟩ Tryz.f3 [.sl 6 n (λi=>eV (f i)),iV z,.str nm] [])).sem = some ((bV true),[]):=by
 exact Aa (ks:=[kL n,kn h34,kn h35,kn h36,kL n,kn h34,kn h37,kL n,kn h34,kn h38,kn h39,kn h40,kn h41,kL n,kL n,kL n,kn h42,kn h34,kn h43,kn h44,kn h3,kn h45,kn h46,kL n,kL n,kL n,kn h42,kn h34,kn h43,kn h44,kn h3,kn h45,kL n,kn h34,kn h35,kN kT,kN kT,kN kT,kN kT,kN (kn h3),kN (⟨ieq 130 0,false,rfl⟩),kN (⟨ieq 130 0,false,rfl⟩),kN (⟨ieq 130 0,false,rfl⟩),kN (⟨ieq 130 0,false,rfl⟩),kN (⟨ieq 130 0,false,rfl⟩),kN (⟨ieq 130 0,false,rfl⟩),kN (⟨ieq 130 0,false,rfl⟩),kN (⟨ieq 130 0,false,rfl⟩),kN (⟨ieq 130 0,false,rfl⟩),kN (⟨ieq 130 0,false,rfl⟩),kN (⟨ieq 130 0,false,rfl⟩),kN (⟨ieq 130 0,false,rfl⟩),kI 0,kI 0]) (by kernel_rfl)
theorem w3o (h34:Be n = true) (h35:ieq (BN 1 n f) 0 = true) (h36:HB (shG n f) G = true) (h37:AR [.jag (Jag.mk 0 0 (kkN n G) (λ_=>.und) 0 0 0 (λ_=>true) (λ_=>0) (λ_ _=>.und))] = true) (h38:ieq (BN 1 n (λi=>(D5 n f z i))) 0 = true) (h39:HB (shG n (λi=>(D5 n f z i))) G = true) (h40:Bk [.row 0 0 n (λ_=>iV 0),.row 0 0 n (λ_=>iV 0),.row 0 0 n (λ_=>iV 0),.jag (Jag.mk 0 1 (kkN n G) (λ_=>.und) 0 0 0 (λ_=>true) (lnN (mbF G) (wrF G) n) (λ_ _=>iV 0))] = true) (h41:AR [.jag (Jag.mk 0 0 (kkN n G) (λ_=>.und) 0 0 0 (λ_=>true) (λ_=>0) (λ_ _=>.und)),.jag (Jag.mk 0 0 (kkN n G) (λ_=>.und) 0 0 0 (λ_=>true) (λ_=>0) (λ_ _=>.und))] = true) (h42:AJ (kkN n G) (λi=>(AJ (lnN (mbF G) (wrF G) n i) (λ_=>true))) = true) (h43:Cm (ofG n G) = true) (h44:ieq (rtS (ofG n G)) 0 = true) (h3:Lx nm = true) (h45:Un (ofG n G) = true) (h46:Bk [.row 0 0 (kkN n G) (λ_=>iV 0),.jag (Jag.mk 0 1 (ttN n G) (λ_=>.und) 0 0 0 (λ_=>true) (lwS (ofG n G)) (λ_ _=>iV 0)),.row 0 0 (knS (ofG n G)) (λ_=>iV 0)] = true) (h47:AR [.jag (Jag.mk 0 0 (kkN n G) (λ_=>.und) 0 0 0 (λ_=>true) (λ_=>0) (λ_ _=>.und)),.jag (Jag.mk 0 0 (kkN n G) (λ_=>.und) 0 0 0 (λ_=>true) (λ_=>0) (λ_ _=>.und)),.jag (Jag.mk 0 0 (ttN n G) (λ_=>.und) 0 0 0 (λ_=>true) (λ_=>0) (λ_ _=>.und))] = true) (h48:AR [.jag (Jag.mk 0 0 (kkN n G) (λ_=>.und) 0 0 0 (λ_=>true) (λ_=>0) (λ_ _=>.und)),.jag (Jag.mk 0 0 (kkN n G) (λ_=>.und) 0 0 0 (λ_=>true) (λ_=>0) (λ_ _=>.und)),.jag (Jag.mk 0 0 (ttN n G) (λ_=>.und) 0 0 0 (λ_=>true) (λ_=>0) (λ_ _=>.und)),.jag (Jag.mk 0 0 (ttN n G) (λ_=>.und) 0 0 0 (λ_=>true) (λ_=>0) (λ_ _=>.und)),.jag (Jag.mk 0 0 (kkN n (shG n f)) (λ_=>.und) 0 0 0 (λ_=>true) (λ_=>0) (λ_ _=>.und))] = true) (h49:AJ (ttN n G) (λi=>(AJ (lwS (ofG n G) i) (λ_=>(Al (ieq 0 0) (Al (ieq 0 0) (Al (seq [] []) (ieq 0 0))))))) = true) (h50:AJ (knS (ofG n G)) (λ_=>(ieq 2 2)) = true) (h51:HB (Te.mk 1 nm (cyS (ofG n G)) (kkN n G) Ais (ttN n G) (lwS (ofG n G)) (λu i=>(cwS (ofG n G) u i)) 1 (Nd.mk (k1S (ofG n G)) (k2S (ofG n G)) (k3S (ofG n G)) (k4S (ofG n G)) (k5S (ofG n G)) (knS (ofG n G)) (λi=>(kXS (ofG n G) i)) (kfS (ofG n G)))) (Te.mk 1 nm (cyS (ofG n G)) (kkN n G) Ais (ttN n G) (lwS (ofG n G)) (λu i=>(cwS (ofG n G) u i)) 1 (Nd.mk (k1S (ofG n G)) (k2S (ofG n G)) (k3S (ofG n G)) (k4S (ofG n G)) (k5S (ofG n G)) (knS (ofG n G)) (λi=>(kXS (ofG n G) i)) (kfS (ofG n G)))) = true) (h52:YZ (Te.mk 1 nm (cyS (ofG n G)) (kkN n G) Ais (ttN n G) (lwS (ofG n G)) (λu i=>(cwS (ofG n G) u i)) 1 (Nd.mk (k1S (ofG n G)) (k2S (ofG n G)) (k3S (ofG n G)) (k4S (ofG n G)) (k5S (ofG n G)) (knS (ofG n G)) (λi=>(kXS (ofG n G) i)) (kfS (ofG n G)))) = true) (h53:seq nm nm = true):(Au (Ah tab ⟨Ak (tb3 G),L,Gl⟩ Tryz.f3 [.sl 6 n (λi=>eV (f i)),iV z,.str nm] [])).sem = some ((bV true),[]):=by
 exact Aa (ks:=[kL n,kn h34,kn h35,kn h36,kL n,kn h34,kn h37,kL n,kn h34,kn h38,kn h39,kn h40,kn h41,kL n,kL n,kL n,kn h42,kn h34,kn h43,kn h44,kn h3,kn h45,kn h46,kn h47,kL n,kL n,kL n,kn h42,kn h34,kn h43,kn h44,kn h3,kn h45,kn h46,kL n,kn h34,kn h35,kN kT,kN kT,kN kT,kN kT,kN (kn h3),kI 0,kI 0,kI 0,kI 0,kI 0,kI 0,kI 0,kI 0,kI 0,kI 0,kI 0,kI 0,kn h48,kL (kkN n G),kn h49,kn h50,kL (kkN n G),kn h49,kn h50,kn h51,kn h52,kI 0,kT,kT,kT,kT,kT,kn h53,kn h53]) (by kernel_rfl)
end
def Ad6:List V->T (V × List Blk)
 | [v,.val (.int .i64 _),.str _]=>apL v λn _=>.br (Be n) (.leaf (bV true,[])) .fail
 | _=>.fail
theorem AaC {n:Nat} (f:Nat->E6) {z:Int} {nm:List UInt8} (hn:n * 40 <= 140737488351232):∃ h',(Ad6 [.sl 6 n λi=>eV (f i),iV z,.str nm]).sem = some (bV true,h'):=by
 have h1:(AJ n λi=>okE (eV (f i))) = true:=A4.2 λ_ _=>rfl
 have h2:Be n = true:=decide_eq_true (by omega)
 refine ⟨[],?_⟩
 show (T.br (AJ n λi=>okE (eV (f i))) (.br (Be n) (.leaf (bV true,[])) .fail) .fail).sem = _
 rw [h1,h2]
 rfl
theorem RT {n:Nat} (h:0 < n) (hn:n <= 16) (z:Int):Dj n z < n:=by
 cases hb:ilt (Ae z (Int.ofNat n)) 0 with
 | true=>exact (Pi h (by omega) hb).2
 | false=>exact (Ph h hb).2
theorem Aeb (n:Nat):MD n <= n:=by
 unfold MD
 cases Nat.ble n 1 <;> simp
theorem Ab4 {n k:Nat} {f:Nat->E6} (hk:k < n) (h:IsCycle 1 n λi=>f ((k+i) % n)):IsCycle 1 n f:=by
 have h0:(n - k) % n < n:=Nat.mod_lt _ (by omega)
 refine Jt (h.turned h0) λi hi=>?_
 show f i = f ((k+((n - k) % n+i) % n) % n)
 rw [Nat.add_mod_mod,Nat.add_left_comm,Nat.mod_add_mod,show n - k+(k+i) = i+n by omega,Nat.add_mod_right,Nat.mod_eq_of_lt hi]
theorem p3t:A6 Tryz.prog Gl 3 Ad6:=by
 refine Av AI mixed Tryz.func3 (by kernel_rfl) (by kernel_rfl) λvs v h' h=>?_
 unfold Ad6 at h
 split at h
 ·rename_i u z nm
  obtain ⟨n,f,ha,h1⟩:=Cc h
  obtain ⟨hf,hq⟩:=Ad h1
  have:=Ac hq
  simp only [Prod.mk.injEq] at this
  obtain ⟨rfl,rfl⟩:=this
  have hA:Bm [u,iV z,.str nm] [.sl 6 n λi=>eV (f i),iV z,.str nm]:=λS w cs hv=>by
   obtain ⟨c,l,rfl,q1,q2⟩:=hv
   exact ⟨c,_,rfl,ha S w c q1,q2⟩
  have hc0:∀ G,Bg Tryz.prog ⟨Ak (tb3 G),Gl⟩:=λG=>(AK (tb3_ok G) [] (G:=Gl)).1
  have lv:∀ n,AR [.jag (Jag.mk 0 0 n (λ_=>.und) 0 0 0 (λ_=>true) (λ_=>0) (λ_ _=>.und))] = true:=λn=>by simp [AR]
  cases hc:ieq (BN 1 n f) 0 with
  | false =>
   have hd:ieq (BN 1 n λi=>D5 n f z i) 0 = false:=by
    cases hd:ieq (BN 1 n λi=>D5 n f z i) 0 with
    | false=>rfl
    | true =>
     have hy:=D2 hd
     have hlo:=hy.lo
     have hb:=(R8 (Ab4 (RT (by omega) hy.hi z) hy)).1
     rw [hc] at hb
     cases hb
   exact ⟨_,⟨Ak (tb3 λ_=>E6.mk 0 false false 0 0 0),noL,Gl⟩,_,hA,rfl,hc0 _,HS,w3n noL n f z nm _ hf hc (lv 0) hd rfl (by simp [AR]) rfl rfl rfl rfl (by rw [ZL]; rfl) rfl (by simp [AR]),A0.refl _⟩
  | true =>
   have hy:=D2 hc
   have hlo:=hy.lo
   have hk:=RT (by omega) hy.hi z
   have hd:ieq (BN 1 n λi=>D5 n f z i) 0 = true:=(R8 (hy.turned hk)).1
   have hs:HB (shG n λi=>D5 n f z i) (shG n f) = true:=by
    rw [show (λi=>D5 n f z i) = λi=>f ((Dj n z+i) % n) from rfl,Nz hy hk]
    exact G3 _
   obtain ⟨k1,k2,k3'⟩:=ok6 hy
   have hr:ieq (rtS (ofG n (shG n f))) 0 = true:=by
    rw [show ofG n (shG n f) = ofS 1 n f from rfl,ZK hy]
    rfl
   have hlen:knS (ofG n (shG n f)) <= 1023:=by
    have h1:=k1
    simp only [Un,Qk,Bool.and_eq_true] at h1
    obtain ⟨_,_,_,_,_,_,_,_,_,_,_,h2,_⟩:=h1
    have h2:(axS (ofG n (shG n f))).length <= 1023:=Nat.le_of_ble_eq_true h2
    exact Nat.le_trans (Aeb _) h2
   have hhi:=hy.hi
   have hte:∀ cy I cw k1 k2 k3 k4 k5 X F,YZ ⟨1,nm,cy,kkN n (shG n f),I,ttN n (shG n f),lwS (ofG n (shG n f)),cw,1,⟨k1,k2,k3,k4,k5,knS (ofG n (shG n f)),X,F⟩⟩ = true:=λcy I cw k1 k2 k3 k4 k5 X F=>by
    simp only [YZ,Bool.and_eq_true]
    exact ⟨Gx (Nat.le_trans (AV _ _) hhi),A4.2 λu _=>decide_eq_true (k3' u),Gx (Nat.le_trans (AV _ _) hhi),decide_eq_true (by omega)⟩
   cases ht:Lx nm with
   | false =>
    exact ⟨_,⟨Ak (tb3 (shG n f)),noL,Gl⟩,_,hA,rfl,hc0 _,HS,w3t noL n f z nm _ hf hc (G3 _) (lv _) hd hs (by simp [Bk,JN,iV]) (by simp [AR]) (Fh () ()) k2 hr ht rfl (by simp [AR]),A0.refl _⟩
   | true =>
    exact ⟨_,⟨Ak (tb3 (shG n f)),noL,Gl⟩,_,hA,rfl,hc0 _,HS,w3o noL n f z nm _ hf hc (G3 _) (lv _) hd hs (by simp [Bk,JN,iV]) (by simp [AR]) (Fh () ()) k2 hr ht k1 (by simp [Bk,JN,iV]) (by simp [AR]) (by simp [AR]) (A4.2 λ_ _=>A4.2 λ_ _=>rfl) (A4.2 λ_ _=>rfl) (G3 _) (hte _ _ _ _ _ _ _ _ _ _) (DI _),A0.refl _⟩
 ·cases h
end Go.Proofs.YthlojajaenfidaaGreatDoor.Em
