/-
  A tree of which all ways that are told lead to one leaf; loops that go on up to a round of their own. Conditions: none.
-/
import Derived.Test.YtkbgidbledjejaaGreatSyZ
import Derived.Test.YtkbgidbledjejaaGreatSyS
namespace Go.Sy
inductive DW {α:Type} (r:α):DT α->Prop where
 | e {a:α} (h:a=r):DW r (.lf a)
 | k {b c:Bool} {d:DT α} (h:b=c) (w:DW r d):DW r (.kn b c d)
 | a {o:Option (Ex×St)} {q:Ex×St} {d:DT α} (h:o=some q) (w:DW r d):DW r (.ak o q d)
 | c {d e:DT α} (b:Bool) (w:b=true->DW r d) (u:b=false->DW r e):DW r (.sp d e)
theorem DW.l {α:Type} {r:α}:DW r (.lf r):=.e rfl
theorem DW.r {α:Type} {r:α} {b c:Bool} {d:DT α} (n:Nat) (h:b=c) (w:DW r d):DW r (DT.knR n b c d):=by
 induction n with
 | zero=>exact w
 | succ n ih=>exact .k h ih
theorem DW.ok {α:Type} {r:α} {d:DT α} (w:DW r d):∀ {t:T α},d.run t=some (d.cs,d.os,d.ls)->t.sem=some r:=by
 induction w with
 | e hab =>
  intro t h;cases t with
  | leaf b =>simp only [DT.run,DT.cs,DT.os,DT.ls,Option.some.injEq,Prod.mk.injEq,List.cons.injEq,and_true,true_and] at h;subst h;rw [hab];rfl
  | _=>cases h
 | k hb w ih =>
  rename_i b c d;intro t h;cases t with
  | br b' x y =>
   simp only [DT.run] at h;split at h
   ·rename_i hx
    simp only [DT.cs,DT.os,DT.ls,Option.some.injEq,Prod.mk.injEq,List.cons.injEq] at h;obtain ⟨⟨rfl,rfl⟩,rfl,rfl⟩:=h;subst hb;cases b' with
    | true=>exact (show x.sem=_ from ih hx)
    | false=>exact (show y.sem=_ from ih hx)
   ·cases h
  | _=>cases h
 | a ho w ih =>
  rename_i o q d;intro t h;cases t with
  | ask o' k =>
   simp only [DT.run] at h;split at h
   ·rename_i hx
    simp only [DT.cs,DT.os,DT.ls,Option.some.injEq,Prod.mk.injEq,List.cons.injEq] at h;obtain ⟨rfl,⟨rfl,rfl⟩,rfl⟩:=h;subst ho;exact (show (k q).sem=_ from ih hx)
   ·cases h
  | _=>cases h
 | c b w u ih ih' =>
  rename_i d e;intro t h;simp only [DT.run] at h;split at h
  ·rename_i hx hy
   simp only [DT.cs,DT.os,DT.ls,Option.some.injEq,Prod.mk.injEq] at h;obtain ⟨hc,ho,hl⟩:=h;obtain ⟨e1,e2,e3⟩:=DT.run_len hx;obtain ⟨rfl,rfl⟩:=List.append_inj hc e1;obtain ⟨rfl,rfl⟩:=List.append_inj ho e2;obtain ⟨rfl,rfl⟩:=List.append_inj hl e3;cases hb:b with
   | true=>exact ih hb hx
   | false=>exact ih' hb hy
  ·cases h
theorem DW.rd {f:St->T (Ex×St)} {lp:Lp} {st:St} {r:Ex×St} {d:DT (Ex×St)} (w:DW r d) (h:d.run ((f st).bind λr=>T.leaf (Aod lp r))=some (d.cs,d.os,d.ls)):Ap f lp st=some r:=w.ok h
theorem Cj {f:St->T (Ex×St)} {lp:Lp} {S:Nat->St} {m:Nat} {x:Ex×St} (hx:x.1 ≠ .nm) (h:∀ i,i<m->Ap f lp (S i)=some (.nm,S (i+1))) (h0:Ap f lp (S m)=some x) {q:Nat} (hq:m<q):(Ax f lp q (S 0)).sem=some x:=by
 have stop:∀ {o:Nat},AdZ f lp o (some x)=some x:=fun {o}=>by
  cases x with
  | mk e s=>cases e <;> first | exact absurd rfl hx | rfl
 have key:∀ d i q,i+d=m->d<q->(Ax f lp q (S i)).sem=some x:=λd=>by
  induction d with
  | zero =>
   intro i q hi hq;obtain ⟨q,rfl⟩:∃ o,q=o+1:=⟨q-1,by omega⟩;obtain rfl:i=m:=by omega
   rw [Ae h0,stop]
  | succ d ih =>intro i q hi hq;obtain ⟨q,rfl⟩:∃ o,q=o+1:=⟨q-1,by omega⟩;rw [Ae (h i (by omega))];exact ih (i+1) q (by omega) (by omega)
 exact key m 0 q (Nat.zero_add m) hq
theorem nm1 {α:Type} {f:α->St} {a a':α} (h:a=a'):(Ex.nm,f a)=(Ex.nm,f a'):=by rw [h]
theorem nm2 {α β:Type} {f:α->β->St} {a a':α} {b b':β} (h:a=a') (h2:b=b'):(Ex.nm,f a b)=(Ex.nm,f a' b'):=by rw [h,h2]
theorem nm3 {α β γ:Type} {f:α->β->γ->St} {a a':α} {b b':β} {c c':γ} (h:a=a') (h2:b=b') (h3:c=c'):(Ex.nm,f a b c)=(Ex.nm,f a' b' c'):=by rw [h,h2,h3]
theorem nm4 {α β γ δ:Type} {f:α->β->γ->δ->St} {a a':α} {b b':β} {c c':γ} {d d':δ} (h:a=a') (h2:b=b') (h3:c=c') (h4:d=d'):(Ex.nm,f a b c d)=(Ex.nm,f a' b' c' d'):=by rw [h,h2,h3,h4]
theorem Cu {i:Nat} (h:i <= 4611686018427387904):wr .i64 (Aj (Int.ofNat i) 1)=Int.ofNat (i+1):=by
 unfold wr Aj IntKind.wrap;simp [IntKind.bits,IntKind.signed];omega
end Go.Sy
namespace Go.Proofs.YtkbgidbledjejaaGreat.Ed
open Go.Sy
open Int (ofNat)
set_option maxRecDepth 100000
def Jp (a b:Int):Int:=sel (ilt a b) (-1) (sel (ilt b a) 1 0)
theorem p82:As Tryz.prog Gl 55 (ap2 gI gI λa b=>out (iV (Jp a b))):=by
 refine Ah Az mixed Tryz.func55 (by kernel_rfl) (by kernel_rfl) λvs v h' h=>?_;obtain ⟨a,b,rfl,h⟩:=He Mg Mg h;cases Aa h;have hx:=Ba (Ao.nil:Ao Tryz.prog Gl []) [] (G:=Gl);refine ⟨_,cxA Gl [] [],_,B0.refl _,rfl,hx.1,hx.2,?_,Au.refl _⟩;unfold Jp;cases h1:ilt a b with
 | true=>exact DW.ok (.k h1 <| .l) (by kernel_rfl)
 | false =>
  cases h2:ilt b a with
  | true=>exact DW.ok (.k h1 <| .k h2 <| .l) (by kernel_rfl)
  | false=>exact DW.ok (.k h1 <| .k h2 <| .l) (by kernel_rfl)
theorem CO {i n:Nat} (h:i<n):nlt i n=true:=by simpa [nlt] using h
theorem Aio {i:Int} (h:i=0):AL (ieq i 0)=false:=by rw [h]; rfl
theorem QQ (n m:Nat) (f g:Nat->E6):∀ e,e <= n->e <= m->(∀ t,t<e->Al (f t)=Al (g t))->Mw (BH n f) (BH m g)=Mw ((BH n f).drop e) ((BH m g).drop e)
 | 0,_,_,_=>rfl
 | e+1,h1,h2,h=>by
  rw [QQ n m f g e (by omega) (by omega) (λt ht=>h t (by omega)),El n e f (by omega),El m e g (by omega)];have:=h e (by omega);rcases Ta (Al (f e)) (Al (g e)) ((BH n f).drop (e+1)) ((BH m g).drop (e+1)) with ⟨q,_⟩ | ⟨q,_⟩ | ⟨_,q⟩
  ·omega
  ·omega
  ·exact q
theorem ZE (n m:Nat) (f g:Nat->E6) (h:∀ t,t<min n m->Al (f t)=Al (g t)):Mw (BH n f) (BH m g)=Jp (ofNat n) (ofNat m):=by
 rw [QQ n m f g (min n m) (by omega) (by omega) h];unfold Jp;rcases Nat.lt_trichotomy n m with h1 | h1 | h1
 ·rw [IQ n _ f (by omega),El m _ g (by omega),ofNat_lt h1]
  rfl
 ·subst h1
  rw [IQ n _ f (by omega),IQ n _ g (by omega),A4 (Nat.le_refl n)];rfl
 ·rw [IQ m _ g (by omega),El n _ f (by omega),ofNat_lt h1,A4 (Nat.le_of_lt h1)]
  rfl
theorem AeA (n m:Nat) (f g:Nat->E6) (e:Nat) (h1:e<n) (h2:e<m) (h:∀ t,t<e->Al (f t)=Al (g t)) (hne:Al (f e) ≠ Al (g e)):Mw (BH n f) (BH m g)=Jp (Al (f e)) (Al (g e)):=by
 rw [QQ n m f g e (by omega) (by omega) h,El n e f h1,El m e g h2];unfold Jp;rcases Ta (Al (f e)) (Al (g e)) ((BH n f).drop (e+1)) ((BH m g).drop (e+1)) with ⟨q,r⟩ | ⟨q,r⟩ | ⟨q,_⟩
 ·rw [r,IA q]; rfl
 ·rw [r,IA q,GT (by omega)]; rfl
 ·exact absurd q hne
theorem Z9 (n m:Nat) (f g:Nat->E6):(∀ t,t<min n m->Al (f t)=Al (g t)) ∨ ∃ e,e<n∧e<m∧(∀ t,t<e->Al (f t)=Al (g t))∧Al (f e) ≠ Al (g e):=by
 cases h:CQ (min n m) λt=>ieq (Al (f t)) (Al (g t)) with
 | true=>exact .inl λt ht=>by simpa [ieq] using Bd.1 h t ht
 | false =>obtain ⟨e,h1,h2,h3⟩:=Mk _ _ h;exact .inr ⟨e,by omega,by omega,λt ht=>by simpa [ieq] using h3 t ht,by simpa [ieq] using h2⟩
def AeB:List V->A2:=Ahp λn f m g=>.br (BG n) (.br (BG m) (out (.tup [iV (EG n f m g),iV (Mx n f m g)])) .fail) .fail
theorem SZ {vs:List V} {r:V×List Blk} (h:(AeB vs).sem=some r):∃ n f m g,B0 vs [Am n f,Am m g]∧BG n=true∧BG m=true∧r=(.tup [iV (EG n f m g),iV (Mx n f m g)],[]):=by
 obtain ⟨n,f,m,g,ha,h⟩:=NH h;obtain ⟨hn,h⟩:=Ab h;obtain ⟨hm,h⟩:=Ab h;exact ⟨n,f,m,g,ha,hn,hm,Aa h⟩
noncomputable def AlQ:AH:=(93,U1)::[]
theorem AfD:Ao Tryz.prog Gl AlQ:=.cons p81 .nil
def Adw:Lp:=⟨bmK 69 0 [4,5,6,8,10],2,bmK 69 0 [4,5,6,8],2,4611686018427387905⟩
noncomputable abbrev AnV:Cx:=cxA Gl AlQ [(0,Adw,[])]
noncomputable def B63:St->T (Ex×St):=λst=>A8 tab AnV (A0 Tryz.f63 0) 0 st
section
variable (n:Nat) (f:Nat->E6) (m:Nat) (g:Nat->E6)
def S63 (l:List (Nat×V)) (r:Int):St:=⟨jsV 69 0 Ac ([(4,iV r),(5,iV 0),(6,.ref 0),(8,.ref 1)]++l),[.row 3 1 n λi=>iV (Al (f i)),.row 3 1 m λi=>iV (Al (g i))]⟩
variable {n f m g}
theorem g63 {i:Nat} (hn:n <= 4611686018427387904) (h1:i<n) (h2:i<m) (h:Al (f i)=Al (g i)):Ap B63 Adw (S63 n f m g [(10,nV i)] 0)=some (.nm,S63 n f m g [(10,iV (ofNat (i+1)))] 0):=by
 have a:ilt (Al (f i)) (Al (g i))=false:=GT (by omega);have b:ilt (Al (g i)) (Al (f i))=false:=GT (by omega);exact DW.rd (.r 5 (ofNat_lt h1) <| .k (ofNat_lt h2) <| .k (Af h1) <| .k (CO h1) <| .k (Af h2) <| .k (CO h2) <| .k a <| .k (Af h1) <| .k (CO h1) <| .k (Af h2) <| .k (CO h2) <| .k b <| .e (nm1 (f:=λz=>S63 n f m g [(10,iV z)] 0) (Cu (by omega)))) (by kernel_rfl)
theorem x63 {i:Nat} (h:i=min n m):Ap B63 Adw (S63 n f m g [(10,nV i)] 0)=some (.ex 0,S63 n f m g [] 0):=by
 by_cases h1:i<n
 ·exact DW.rd (.r 5 (ofNat_lt h1) <| .k (A4 (i:=i) (n:=m) (by omega)) <| .l) (by kernel_rfl)
 ·exact DW.rd (.r 5 (A4 (i:=i) (n:=n) (by omega)) <| .k eF <| .l) (by kernel_rfl)
theorem d63 {i:Nat} (h1:i<n) (h2:i<m) (h:Al (f i) ≠ Al (g i)):Ap B63 Adw (S63 n f m g [(10,nV i)] 0)=some (.rt,S63 n f m g [] (Jp (Al (f i)) (Al (g i)))):=by
 unfold Jp;rcases Int.lt_or_gt_of_ne h with hl | hl
 ·have a:=IA hl
  rw [a];exact DW.rd (.r 5 (ofNat_lt h1) <| .k (ofNat_lt h2) <| .k (Af h1) <| .k (CO h1) <| .k (Af h2) <| .k (CO h2) <| .k a <| .l) (by kernel_rfl)
 ·have a:=GT (Int.le_of_lt hl)
  have b:=IA hl;rw [a,b];exact DW.rd (.r 5 (ofNat_lt h1) <| .k (ofNat_lt h2) <| .k (Af h1) <| .k (CO h1) <| .k (Af h2) <| .k (CO h2) <| .k a <| .k (Af h1) <| .k (CO h1) <| .k (Af h2) <| .k (CO h2) <| .k b <| .l) (by kernel_rfl)
end
theorem p38:As Tryz.prog Gl 63 AeB:=by
 refine Ah Az mixed Tryz.func63 (by kernel_rfl) (by kernel_rfl) λvs v h' h=>?_;obtain ⟨n,f,m,g,ha,hn,hm,hr⟩:=SZ h;cases hr;have hx:=Ba AfD [(0,Adw,[])] (G:=Gl);refine ⟨[Am n f,Am m g],AnV,_,ha,rfl,hx.1,hx.2,?_,Au.refl _⟩;have hs:=Ey hn;have z:AL (ieq 0 0)=false:=rfl;have z3:AL (ieq 30 0)=true:=rfl;unfold EG Mx;cases h1:By n f with
 | false =>
  cases h2:By m g with
  | false=>exact DW.ok (.k (eL n) <| .k hn <| .k h1 <| .k (eL m) <| .k hm <| .k h2 <| .r 3 z3 <| .k eT <| .l) (by kernel_rfl)
  | true=>exact DW.ok (.k (eL n) <| .k hn <| .k h1 <| .k (eL m) <| .k hm <| .k h2 <| .r 3 z3 <| .k eT <| .l) (by kernel_rfl)
 | true =>
  cases h2:By m g with
  | false=>exact DW.ok (.k (eL n) <| .k hn <| .k h1 <| .k (eL m) <| .k hm <| .k h2 <| .r 3 z <| .k z3 <| .l) (by kernel_rfl)
  | true =>
   show _=some (V.tup [iV (Mw (BH n f) (BH m g)),iV 0],[]);rcases Z9 n m f g with hd | ⟨e,he,he',hd,hne⟩
   ·have hr:=Cj (S:=λi=>S63 n f m g [(10,nV i)] 0) (m:=min n m) (q:=4611686018427387905) (λh=>by cases h) (λi hi=>g63 hs (by omega) (by omega) (hd i hi)) (x63 rfl) (by omega)
    rw [ZE n m f g hd];unfold Jp;cases h3:ilt (ofNat n) (ofNat m) with
    | true=>exact DW.ok (.k (eL n) <| .k hn <| .k h1 <| .k (eL m) <| .k hm <| .k h2 <| .r 4 z <| .a hr <| .k h3 <| .l) (by kernel_rfl)
    | false =>
     cases h4:ilt (ofNat m) (ofNat n) with
     | true=>exact DW.ok (.k (eL n) <| .k hn <| .k h1 <| .k (eL m) <| .k hm <| .k h2 <| .r 4 z <| .a hr <| .k h3 <| .k h4 <| .l) (by kernel_rfl)
     | false=>exact DW.ok (.k (eL n) <| .k hn <| .k h1 <| .k (eL m) <| .k hm <| .k h2 <| .r 4 z <| .a hr <| .k h3 <| .k h4 <| .l) (by kernel_rfl)
   ·have hr:=Cj (S:=λi=>S63 n f m g [(10,nV i)] 0) (m:=e) (q:=4611686018427387905) (λh=>by cases h) (λi hi=>g63 hs (by omega) (by omega) (hd i hi)) (d63 he he' hne) (by omega)
    rw [AeA n m f g e he he' hd hne];exact DW.ok (.k (eL n) <| .k hn <| .k h1 <| .k (eL m) <| .k hm <| .k h2 <| .r 4 z <| .a hr <| .l) (by kernel_rfl)
noncomputable def Amb:AH:=(45,Co λe=>iV (AB e))::(54,Co KA)::(55,ap2 gI gI λa b=>out (iV (Jp a b)))::[]
theorem AfY:Ao Tryz.prog Gl Amb:=.cons p29 <| .cons p25 <| .cons p82 .nil
def KQ (i:Nat):Lp:=⟨bmK 76 0 [0,1,4,5,i],0,bmK 76 0 [0,1,4,5],0,4611686018427387905⟩
noncomputable abbrev Aob:Cx:=cxA Gl Amb [(0,KQ 6,[]),(2,KQ 7,[]),(4,KQ 8,[])]
noncomputable def B25 (id:Nat):St->T (Ex×St):=λst=>A8 tab Aob (A0 Tryz.f25 id) id st
section
variable (n:Nat) (f:Nat->E6) (m:Nat) (g:Nat->E6)
def S25 (l:List (Nat×V)) (r e:Int):St:=⟨jsV 76 0 Ac ([(0,Am n f),(1,Am m g),(4,iV r),(5,iV e)]++l),[]⟩
variable {n f m g}
theorem Ais {i:Nat} (hn:n <= 4611686018427387904) (h1:i<n) (h:AB (f i)=0):Ap (B25 0) (KQ 6) (S25 n f m g [(6,nV i)] 0 0)=some (.nm,S25 n f m g [(6,iV (ofNat (i+1)))] 0 0) :=
 DW.rd (.k (ofNat_lt h1) <| .k (Af h1) <| .k (Aio h) <| .e (nm1 (f:=λz=>S25 n f m g [(6,iV z)] 0 0) (Cu (by omega)))) (by kernel_rfl)
theorem Air {i:Nat} (hn:m <= 4611686018427387904) (h1:i<m) (h:AB (g i)=0):Ap (B25 2) (KQ 7) (S25 n f m g [(7,nV i)] 0 0)=some (.nm,S25 n f m g [(7,iV (ofNat (i+1)))] 0 0) :=
 DW.rd (.k (ofNat_lt h1) <| .k (Af h1) <| .k (Aio h) <| .e (nm1 (f:=λz=>S25 n f m g [(7,iV z)] 0 0) (Cu (by omega)))) (by kernel_rfl)
theorem Alq:Ap (B25 0) (KQ 6) (S25 n f m g [(6,nV n)] 0 0)=some (.ex 0,S25 n f m g [] 0 0):=DW.rd (.k (A4 (Nat.le_refl n)) <| .l) (by kernel_rfl)
theorem Alp:Ap (B25 2) (KQ 7) (S25 n f m g [(7,nV m)] 0 0)=some (.ex 2,S25 n f m g [] 0 0):=DW.rd (.k (A4 (Nat.le_refl m)) <| .l) (by kernel_rfl)
theorem AdW {i:Int} (h:i=30):AL (ieq i 0)=true:=by rw [h]; rfl
theorem AnP {i:Nat} (h1:i<n) (h:AB (f i)=30):Ap (B25 0) (KQ 6) (S25 n f m g [(6,nV i)] 0 0)=some (.rt,S25 n f m g [] 0 30):=DW.rd (.k (ofNat_lt h1) <| .k (Af h1) <| .k (AdW h) <| .l) (by kernel_rfl)
theorem AnO {i:Nat} (h1:i<m) (h:AB (g i)=30):Ap (B25 2) (KQ 7) (S25 n f m g [(7,nV i)] 0 0)=some (.rt,S25 n f m g [] 0 30):=DW.rd (.k (ofNat_lt h1) <| .k (Af h1) <| .k (AdW h) <| .l) (by kernel_rfl)
theorem Aiq {i:Nat} (hn:n <= 4611686018427387904) (h1:i<n) (h2:i<m) (h:Al (f i)=Al (g i)):Ap (B25 4) (KQ 8) (S25 n f m g [(8,nV i)] 0 0)=some (.nm,S25 n f m g [(8,iV (ofNat (i+1)))] 0 0):=by
 have a:AL (ieq (Al (f i)) (Al (g i)))=false:=by rw [h]; exact eN (eI _)
 exact DW.rd (.r 5 (ofNat_lt h1) <| .k (ofNat_lt h2) <| .k (Af h1) <| .k (Af h2) <| .k a <| .e (nm1 (f:=λz=>S25 n f m g [(8,iV z)] 0 0) (Cu (by omega)))) (by kernel_rfl)
theorem Alo {i:Nat} (h:i=min n m):Ap (B25 4) (KQ 8) (S25 n f m g [(8,nV i)] 0 0)=some (.ex 4,S25 n f m g [] 0 0):=by
 by_cases h1:i<n
 ·exact DW.rd (.r 5 (ofNat_lt h1) <| .k (A4 (i:=i) (n:=m) (by omega)) <| .l) (by kernel_rfl)
 ·exact DW.rd (.r 5 (A4 (i:=i) (n:=n) (by omega)) <| .k eF <| .l) (by kernel_rfl)
theorem AnS {i:Nat} (h1:i<n) (h2:i<m) (h:Al (f i) ≠ Al (g i)):Ap (B25 4) (KQ 8) (S25 n f m g [(8,nV i)] 0 0)=some (.rt,S25 n f m g [] (Jp (Al (f i)) (Al (g i))) 0):=by
 have a:AL (ieq (Al (f i)) (Al (g i)))=true:=by rw [show ieq (Al (f i)) (Al (g i))=false from decide_eq_false h]; rfl
 exact DW.rd (.r 5 (ofNat_lt h1) <| .k (ofNat_lt h2) <| .k (Af h1) <| .k (Af h2) <| .k a <| .l) (by kernel_rfl)
end
theorem p39:As Tryz.prog Gl 25 AeB:=by
 refine Ah Az mixed Tryz.func25 (by kernel_rfl) (by kernel_rfl) λvs v h' h=>?_;obtain ⟨n,f,m,g,ha,hn,hm,hr⟩:=SZ h;cases hr;have hx:=Ba AfY [(0,KQ 6,[]),(2,KQ 7,[]),(4,KQ 8,[])] (G:=Gl);refine ⟨[Am n f,Am m g],Aob,_,ha,rfl,hx.1,hx.2,?_,Au.refl _⟩;have hs:=Ey hn;have hs':=Ey hm;unfold EG Mx;cases h1:By n f with
 | false =>obtain ⟨e,k1,k2,k3⟩:=PW h1;have r0:=Cj (S:=λi=>S25 n f m g [(6,nV i)] 0 0) (m:=e) (q:=4611686018427387905) (λh=>by cases h) (λi hi=>Ais hs (by omega) (k3 i hi)) (AnP k1 k2) (by omega);exact DW.ok (.a r0 <| .l) (by kernel_rfl)
 | true =>
  have r0:=Cj (S:=λi=>S25 n f m g [(6,nV i)] 0 0) (m:=n) (q:=4611686018427387905) (λh=>by cases h) (λi hi=>Ais hs hi (Bw.1 h1 i hi)) Alq (by omega);cases h2:By m g with
  | false =>obtain ⟨e,k1,k2,k3⟩:=PW h2;have r2:=Cj (S:=λi=>S25 n f m g [(7,nV i)] 0 0) (m:=e) (q:=4611686018427387905) (λh=>by cases h) (λi hi=>Air hs' (by omega) (k3 i hi)) (AnO k1 k2) (by omega);exact DW.ok (.a r0 <| .a r2 <| .l) (by kernel_rfl)
  | true =>
   have r2:=Cj (S:=λi=>S25 n f m g [(7,nV i)] 0 0) (m:=m) (q:=4611686018427387905) (λh=>by cases h) (λi hi=>Air hs' hi (Bw.1 h2 i hi)) Alp (by omega);show _=some (V.tup [iV (Mw (BH n f) (BH m g)),iV 0],[]);rcases Z9 n m f g with hd | ⟨e,he,he',hd,hne⟩
   ·have r4:=Cj (S:=λi=>S25 n f m g [(8,nV i)] 0 0) (m:=min n m) (q:=4611686018427387905) (λh=>by cases h) (λi hi=>Aiq hs (by omega) (by omega) (hd i hi)) (Alo rfl) (by omega)
    rw [ZE n m f g hd];exact DW.ok (.a r0 <| .a r2 <| .a r4 <| .l) (by kernel_rfl)
   ·have r4:=Cj (S:=λi=>S25 n f m g [(8,nV i)] 0 0) (m:=e) (q:=4611686018427387905) (λh=>by cases h) (λi hi=>Aiq hs (by omega) (by omega) (hd i hi)) (AnS he he' hne) (by omega)
    rw [AeA n m f g e he he' hd hne];exact DW.ok (.a r0 <| .a r2 <| .a r4 <| .l) (by kernel_rfl)
end Go.Proofs.YtkbgidbledjejaaGreat.Ed
namespace Go.Proofs.YtkbgidbledjejaaGreat.Ed
open Go.Sy
open Int (ofNat)
def DG (p:Nat->Bool) (i k:Nat):Int:=bif decide (k<i) then ofNat (AD p k) else 0
def Bu (p:Nat->Bool) (n k:Nat):Int:=bif decide (k<n) then (bif decide (AD p k=AD p n) then 0 else ofNat (AD p k)) else 0
def ZV (h:Nat->Int) (i:Nat) (s:Int) (k:Nat):Int:=bif decide (k=i) then s else h k
theorem T8 (h:Nat->Int) (i:Nat) (s:Int):BF (λk=>iV (h k)) i (iV s)=λk=>iV (ZV h i s k):=by
 funext k;rw [D7,show Nat.beq k i=decide (k=i) by rw [Bool.eq_iff_iff]; simp];unfold ZV;cases decide (k=i) <;> rfl
theorem AbI (p:Nat->Bool) (i:Nat):ZV (DG p i) i (ofNat (AD p i))=DG p (i+1):=by
 funext k;unfold ZV DG;by_cases h:k=i
 ·subst h; simp
 ·by_cases h2:k<i
  ·have:k<i+1:=by omega
   simp [h,h2,this]
  ·have:¬ k<i+1:=by omega
   simp [h,h2,this]
theorem RR (p:Nat->Bool) (i:Nat):ZV (DG p (i+1)) i 0=DG p i:=by
 funext k;unfold ZV DG;by_cases h:k=i
 ·subst h; simp
 ·by_cases h2:k<i
  ·have:k<i+1:=by omega
   simp [h,h2,this]
  ·have:¬ k<i+1:=by omega
   simp [h,h2,this]
def dn:Nat->Int
 | 0=>-1
 | D+1=>ofNat D
theorem Z8 {D n:Nat} (h:D <= n) (hn:n <= 4611686018427387904):wr .i64 (Ay (ofNat D) 1)=dn D:=by
 cases D with
 | zero=>rfl
 | succ D =>unfold wr Ay IntKind.wrap dn;simp [IntKind.bits,IntKind.signed];omega
theorem FL (p:Nat->Bool):∀ {i k:Nat},i <= k->AD p i <= AD p k
 | i,0,h=>by
  have:i=0:=by omega
  subst this;exact Nat.le_refl _
 | i,k+1,h=>by
  by_cases h2:i=k+1
  ·subst h2; exact Nat.le_refl _
  ·have:=FL p (show i <= k by omega)
   refine Nat.le_trans this ?_;rw [show AD p (k+1)=(match p k with | true=>AD p k+1 | false=>AD p k) from rfl]
   cases p k
   ·exact Nat.le_refl _
   ·exact Nat.le_succ _
theorem LJ (p:Nat->Bool) (n D:Nat) (h:D <= n) (h1:∀ k,k<D->AD p k ≠ AD p n) (h2:∀ k,D <= k->k<n->AD p k=AD p n):DG p D=Bu p n:=by
 funext k;unfold DG Bu;by_cases h3:k<D
 ·have h4:k<n:=by omega
  simp [h3,h4,h1 k h3]
 ·by_cases h4:k<n
  ·simp [h3,h4,h2 k (by omega) h4]
  ·simp [h3,h4]
def fq (b:Bool):V:=match b with
 | true=>.fn 87 []
 | false=>.fn 88 []
def pq (b:Bool):E6->Bool:=match b with
 | true=>λe=>BX e
 | false=>λe=>BM e
def Adu:Lp:=⟨bmK 51 0 [0,1,5,6,13,14,15],2,bmK 51 0 [0,5,6],2,4611686018427387905⟩
def TS:Lp:=⟨bmK 51 0 [5,6,9],2,bmK 51 0 [5],2,4611686018427387905⟩
def Aia:List (Nat×Lp×List (Nat×(Nat->V))):=[(0,Adu,[]),(2,TS,[])]
noncomputable abbrev ZA:Cx:=cxA Gl tbY Aia
noncomputable def Ah4 (id:Nat):St->T (Ex×St):=λst=>A8 tab ZA (A0 Tryz.f91 id) id st
def Aff (n:Nat) (h:Nat->Int):List Blk:=[.row 3 1 0 λ_=>.und,.row 3 1 n λk=>iV (h k)]
section
variable {b:Bool} {n:Nat} {f:Nat->E6} (hn:n <= 4611686018427387904)
def Aoo (b:Bool) (n:Nat) (f:Nat->E6) (s:Int) (h:Nat->Int) (i:Int):St:=⟨jsV 51 0 Ac [(0,Am n f),(1,fq b),(5,.ref 1),(6,iV s),(13,Am n f),(14,nV n),(15,iV i)],Aff n h⟩
abbrev pb (b:Bool) (f:Nat->E6):Nat->Bool:=λk=>pq b (f k)
def AeZ (b:Bool) (n:Nat) (f:Nat->E6) (i:Nat):St:=Aoo b n f (ofNat (AD (pb b f) i)) (DG (pb b f) i) (ofNat i)
theorem AoS {i:Nat} (hn:n <= 4611686018427387904) (hi:i<n):Ap (Ah4 0) Adu (AeZ b n f i)=some (.nm,AeZ b n f (i+1)):=by
 have e:∀ {s:Int},s=ofNat (AD (pb b f) (i+1))->(Ex.nm,(⟨jsV 51 0 Ac [(0,Am n f),(1,fq b),(5,.ref 1),(6,iV s),(13,Am n f),(14,nV n),(15,iV (wr .i64 (Aj (ofNat i) 1)))],[.row 3 1 0 λ_=>.und,.row 3 1 n (BF (λk=>iV (DG (pb b f) i k)) i (iV (ofNat (AD (pb b f) i))))]⟩:St))=(Ex.nm,AeZ b n f (i+1)):=λh=>by
  rw [h,Cu (by omega),T8,AbI];rfl
 have c:=EO (pb b f) i;cases hp:pb b f i with
 | true =>have e:=e (s:=wr .i64 (Aj (ofNat (AD (pb b f) i)) 1)) (by rw [Cu (by omega),AD,hp]);cases b <;> exact DW.rd (.k (ofNat_lt hi) <| .r 2 (Af hi) <| .k (CO hi) <| .k hp <| .e e) (by kernel_rfl)
 | false =>have e:=e (s:=ofNat (AD (pb b f) i)) (by rw [show AD (pb b f) (i+1)=AD (pb b f) i by rw [AD,hp]]);cases b <;> exact DW.rd (.k (ofNat_lt hi) <| .r 2 (Af hi) <| .k (CO hi) <| .k hp <| .e e) (by kernel_rfl)
def UH (n:Nat) (s:Int) (h:Nat->Int) (d:Int):St:=⟨jsV 51 0 Ac [(5,.ref 1),(6,iV s),(9,iV d)],Aff n h⟩
def Alh (n:Nat) (h:Nat->Int):Ex×St:=(.ex 2,⟨jsV 51 0 Ac [(5,.ref 1)],Aff n h⟩)
theorem AcK (p:Nat->Bool) (hn:n <= 4611686018427387904):∀ (D M:Nat),D <= n->D<M->(∀ k,D <= k->k<n->AD p k=AD p n)->(Ax (Ah4 2) TS M (UH n (ofNat (AD p n)) (DG p D) (dn D))).sem=some (Alh n (Bu p n))
 | 0,M,h,hM,hb=>by
  obtain ⟨M,rfl⟩:∃ o,M=o+1:=⟨M-1,by omega⟩;rw [<- LJ p n 0 h (λk hk=>absurd hk (Nat.not_lt_zero _)) hb];exact Ae (t:=some (.ex 2,_)) (DW.rd (.r 7 (show ile 0 (-1)=false from rfl) <| .k eF <| .l) (by kernel_rfl))
 | D+1,M,h,hM,hb=>by
  obtain ⟨M,rfl⟩:∃ o,M=o+1:=⟨M-1,by omega⟩;have h0:=FN D;have hi:=Af (show D<n by omega);have hk:=CO (show D<n by omega);have hr:DG p (D+1) D=ofNat (AD p D):=by simp [DG]
  cases hp:ieq (DG p (D+1) D) (ofNat (AD p n)) with
  | true =>
   have he:AD p D=AD p n:=by
    rw [hr] at hp;exact Int.ofNat.inj (of_decide_eq_true hp)
   have g:Ap (Ah4 2) TS (UH n (ofNat (AD p n)) (DG p (D+1)) (dn (D+1)))=some (.nm,UH n (ofNat (AD p n)) (DG p D) (dn D)):=by
    have e:(Ex.nm,(⟨jsV 51 0 Ac [(5,.ref 1),(6,iV (ofNat (AD p n))),(9,iV (wr .i64 (Ay (ofNat D) 1)))],[.row 3 1 0 λ_=>.und,.row 3 1 n (BF (λk=>iV (DG p (D+1) k)) D (iV 0))]⟩:St))=(Ex.nm,UH n (ofNat (AD p n)) (DG p D) (dn D)):=by
     rw [Z8 (by omega) hn,T8,RR];rfl
    exact DW.rd (.r 3 h0 <| .k hi <| .k h0 <| .k hk <| .r 3 h0 <| .k hp <| .k hi <| .k hk <| .e e) (by kernel_rfl)
   rw [Ae g,AN];exact AcK p hn D M (by omega) (by omega) λk h3 h4=>by
    by_cases h5:k=D
    ·subst h5; exact he
    ·exact hb k (by omega) h4
  | false =>
   have he:AD p D ≠ AD p n:=λe=>by rw [hr,e] at hp; simp [ieq] at hp
   rw [<- LJ p n (D+1) h (λk hk e=>he (by have:=FL p (show k <= D by omega); have:=FL p (show D <= n by omega); omega)) hb];exact Ae (t:=some (.ex 2,_)) (DW.rd (.r 3 h0 <| .k hi <| .k h0 <| .k hk <| .r 3 h0 <| .k hp <| .l) (by kernel_rfl))
end
theorem Ac8 (p:Nat->Bool):DG p 0=λ_=>0:=by
 funext k;simp [DG]
theorem Xt (p:Nat->Bool) (n:Nat) (h:AD p n=0):DG p n=Bu p n:=by
 funext k;unfold DG Bu;by_cases h3:k<n
 ·have:=FL p (show k <= n by omega)
  have h4:AD p k=0:=by omega
  simp [h3,h,h4]
 ·simp [h3]
def Xs:List V->A2
 | [v,.fn g []]=>apL v λn f=>.br (F2 8 (ofNat n) (ofNat n)) (match Nat.beq g 87,Nat.beq g 88 with
  | true,_=>.leaf (.ref 0,[.row 3 1 n λk=>iV (Bu (λk=>BX (f k)) n k)])
  | false,true=>.leaf (.ref 0,[.row 3 1 n λk=>iV (Bu (λk=>BM (f k)) n k)])
  | false,false=>.fail) .fail
 | _=>.fail
theorem AlE (b:Bool) (n:Nat) (f:Nat->E6) (hm:F2 8 (ofNat n) (ofNat n)=true):(AK (Ar tab ZA Tryz.f91 [Am n f,fq b] [])).sem=some (.ref 0,[.row 3 1 n λk=>iV (Bu (pb b f) n k)]):=by
 have hn:n <= 4611686018427387904:=by
  simp only [F2,Bool.and_eq_true,decide_eq_true_eq] at hm;have:=hm.2.2.1;simp only [Int.ofNat_eq_natCast] at this;omega
 have h0:(Ax (Ah4 0) Adu 4611686018427387905 (Aoo b n f 0 (λ_=>0) 0)).sem=some (.ex 0,⟨jsV 51 0 Ac [(0,Am n f),(5,.ref 1),(6,iV (ofNat (AD (pb b f) n)))],Aff n (DG (pb b f) n)⟩):=by
  have:=Cj (S:=AeZ b n f) (m:=n) (q:=4611686018427387905) (x:=(.ex 0,⟨jsV 51 0 Ac [(0,Am n f),(5,.ref 1),(6,iV (ofNat (AD (pb b f) n)))],Aff n (DG (pb b f) n)⟩)) (λh=>by cases h) (λi hi=>AoS hn hi) (by cases b <;> exact DW.rd (.k (A4 (Nat.le_refl n)) <| .l) (by kernel_rfl)) (by omega)
  unfold AeZ at this;rw [Ac8] at this;exact this
 have h2:=AcK (pb b f) hn n 4611686018427387905 (Nat.le_refl n) (by omega) λk h1 h2=>by omega
 rw [<- Z8 (Nat.le_refl n) hn] at h2;cases hs:ilt 0 (ofNat (AD (pb b f) n)) with
 | true=>cases b <;> exact DW.ok (.k hm <| .a h0 <| .k hs <| .a h2 <| .l) (by kernel_rfl)
 | false =>rw [<- Xt (pb b f) n (by simpa [ilt] using hs)];cases b <;> exact DW.ok (.k hm <| .a h0 <| .k hs <| .l) (by kernel_rfl)
theorem p92:As Tryz.prog Gl 91 Xs:=by
 refine Ah Az mixed Tryz.func91 (by kernel_rfl) (by kernel_rfl) λvs v h' h=>?_;unfold Xs at h;split at h
 ·rename_i u g
  obtain ⟨n,f,ha,h1⟩:=AQ h;obtain ⟨hm,hq⟩:=Ab h1;have hA:B0 [u,.fn g []] [Am n f,.fn g []]:=λS w cs hv=>by
   obtain ⟨c,l,rfl,q1,q2⟩:=hv;exact ⟨c,l,rfl,ha S w c q1,q2⟩
  have hx:=Ba WP Aia (G:=Gl);split at hq
  ·rename_i h1
   obtain rfl:=Nat.eq_of_beq_eq_true h1;cases Aa hq;exact ⟨_,ZA,_,hA,rfl,hx.1,hx.2,AlE true n f hm,Au.refl _⟩
  ·rename_i h1
   obtain rfl:=Nat.eq_of_beq_eq_true h1;cases Aa hq;exact ⟨_,ZA,_,hA,rfl,hx.1,hx.2,AlE false n f hm,Au.refl _⟩
  ·cases hq
 ·cases h
end Go.Proofs.YtkbgidbledjejaaGreat.Ed
namespace Go.Proofs.YtkbgidbledjejaaGreat.Ed
open Go.Sy
end Go.Proofs.YtkbgidbledjejaaGreat.Ed
namespace Go.Proofs.YtkbgidbledjejaaGreat.Ed
open Go.Sy
def okI (v:V):Bool:=match gI v with
 | some _=>true
 | none=>false
def edI (v:V):Int:=match gI v with
 | some e=>e
 | none=>0
theorem Adc {v:V} (h:okI v=true):v=iV (edI v):=by
 unfold okI at h;unfold edI;split at h
 ·rename_i e he
  exact Hu he
 ·cases h
def Cn (n:Nat) (f:Nat->Int):V:=.sl 1 n λi=>iV (f i)
def AgV:V->Option (Nat×(Nat->V))
 | .sl s n g=>match Nat.beq s 1 with
  | true=>some (n,g)
  | false=>none
 | _=>none
def apI {α:Type} (v:V) (F:Nat->(Nat->Int)->T α):T α :=
 match AgV v with
 | some (n,g)=>.br (CQ n λi=>okI (g i)) (F n λi=>edI (g i)) .fail
 | none=>.fail
theorem Gd {α:Type} {v:V} {F:Nat->(Nat->Int)->T α} {r:α} (h:(apI v F).sem=some r) :
  ∃ n f,(∀ (S:Nat->Prop) (w:World) (c:Value),VR S w v noK c->VR S w (Cn n f) noK c)∧(F n f).sem=some r:=by
 unfold apI at h;split at h
 ·rename_i n g hg
  obtain ⟨h1,h2⟩:=Ab h;have h1:=Bd.1 h1;refine ⟨n,_,λS w c hv=>?_,h2⟩;unfold AgV at hg;split at hg
  ·rename_i s n' g'
   split at hg
   ·rename_i hs
    simp only [Option.some.injEq,Prod.mk.injEq] at hg;obtain ⟨rfl,rfl⟩:=hg;have hs:s=1:=Nat.eq_of_beq_eq_true hs;subst hs;obtain ⟨a,cap,e,hc,hb⟩:=hv;refine ⟨a,cap,e,hc,hb.imp id ?_⟩
    rintro ⟨b,o,ea,hel⟩
    refine ⟨b,o,ea,λi hi=>?_⟩;have:=hel i hi;rw [Adc (h1 i hi)] at this;exact this
   ·cases hg
  ·cases hg
 ·cases h
def AkW (F:Nat->(Nat->Int)->Nat->(Nat->Int)->A2):List V->A2
 | [v,u]=>apI v λn f=>apI u λm g=>F n f m g
 | _=>.fail
theorem Abm {F:Nat->(Nat->Int)->Nat->(Nat->Int)->A2} {vs:List V} {r:V×List Blk} (h:(AkW F vs).sem=some r) :
  ∃ n f m g,B0 vs [Cn n f,Cn m g]∧(F n f m g).sem=some r:=by
 unfold AkW at h;split at h
 ·obtain ⟨n,f,h1,h2⟩:=Gd h
  obtain ⟨m,g,h3,h4⟩:=Gd h2;refine ⟨n,f,m,g,λS w cs hv=>?_,h4⟩;obtain ⟨c,l,rfl,q1,c',l',rfl,q2,q3⟩:=hv;exact ⟨c,_,rfl,h1 S w c q1,c',l',rfl,h3 S w c' q2,q3⟩
 ·cases h
def Ahq (F:Nat->(Nat->Int)->A2):List V->A2
 | [v]=>apI v F
 | _=>.fail
theorem Tg {F:Nat->(Nat->Int)->A2} {vs:List V} {r:V×List Blk} (h:(Ahq F vs).sem=some r):∃ n f,B0 vs [Cn n f]∧(F n f).sem=some r:=by
 unfold Ahq at h;split at h
 ·obtain ⟨n,f,h1,h2⟩:=Gd h
  refine ⟨n,f,λS w cs hv=>?_,h2⟩;obtain ⟨c,l,rfl,q1,q2⟩:=hv;exact ⟨c,l,rfl,h1 S w c q1,q2⟩
 ·cases h
def okB (v:V):Bool:=match gB v with
 | some _=>true
 | none=>false
def edB (v:V):Bool:=match gB v with
 | some e=>e
 | none=>false
theorem Add {v:V} (h:okB v=true):v=bV (edB v):=by
 unfold okB at h;unfold edB;split at h
 ·rename_i e he
  exact Up he
 ·cases h
def Yt (n:Nat) (f:Nat->Bool):V:=.sl 1 n λi=>bV (f i)
def apB {α:Type} (v:V) (F:Nat->(Nat->Bool)->T α):T α :=
 match AgV v with
 | some (n,g)=>.br (CQ n λi=>okB (g i)) (F n λi=>edB (g i)) .fail
 | none=>.fail
theorem AeU {α:Type} {v:V} {F:Nat->(Nat->Bool)->T α} {r:α} (h:(apB v F).sem=some r) :
  ∃ n f,(∀ (S:Nat->Prop) (w:World) (c:Value),VR S w v noK c->VR S w (Yt n f) noK c)∧(F n f).sem=some r:=by
 unfold apB at h;split at h
 ·rename_i n g hg
  obtain ⟨h1,h2⟩:=Ab h;have h1:=Bd.1 h1;refine ⟨n,_,λS w c hv=>?_,h2⟩;unfold AgV at hg;split at hg
  ·rename_i s n' g'
   split at hg
   ·rename_i hs
    simp only [Option.some.injEq,Prod.mk.injEq] at hg;obtain ⟨rfl,rfl⟩:=hg;have hs:s=1:=Nat.eq_of_beq_eq_true hs;subst hs;obtain ⟨a,cap,e,hc,hb⟩:=hv;refine ⟨a,cap,e,hc,hb.imp id ?_⟩
    rintro ⟨b,o,ea,hel⟩
    refine ⟨b,o,ea,λi hi=>?_⟩;have:=hel i hi;rw [Add (h1 i hi)] at this;exact this
   ·cases hg
  ·cases hg
 ·cases h
theorem AeT {α:Type} (n:Nat) (f:Nat->E6) (F:Nat->(Nat->E6)->T α):(apL (Am n f) F).sem=(F n f).sem:=by
 show sel (CQ n λi=>okE (eV (f i))) (F n f).sem none=_;rw [Ahu];rfl
end Go.Proofs.YtkbgidbledjejaaGreat.Ed
