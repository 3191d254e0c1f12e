/-
  States told under new names of own blocks, between a loop's rounds. No conditions.
-/
import Derived.Test.YtkbgidbledjejaaGreatSyZb
namespace Go.Sy
def HN (is:List Nat):V->V
 | .agg cs=>.agg (rens cs)
 | .tup cs=>.tup (rens cs)
 | .fn f cs=>.fn f (rens cs)
 | .ptr id o=>match Ev id is 0 with
  | some k=>.ptr k o
  | none=>.und
 | .ref id=>match Ev id is 0 with
  | some k=>.ref k
  | none=>.und
 | .ept id s i o=>match Ev id is 0 with
  | some k=>.ept k s i o
  | none=>.und
 | .rct id n=>match Ev id is 0 with
  | some k=>.rct k n
  | none=>.und
 | .jref id=>match Ev id is 0 with
  | some k=>.jref k
  | none=>.und
 | .jept id s i o=>match Ev id is 0 with
  | some k=>.jept k s i o
  | none=>.und
 | .mref id i=>match Ev id is 0 with
  | some k=>.mref k i
  | none=>.und
 | .mept id i s n o=>match Ev id is 0 with
  | some k=>.mept k i s n o
  | none=>.und
 | .mmap id i=>match Ev id is 0 with
  | some k=>.mmap k i
  | none=>.und
 | v=>v
 where rens:List V->List V
 | []=>[]
 | v::vs=>HN is v::rens vs
def P7 (is:List Nat):Blk->Blk
 | .cells cs=>.cells (HN.rens is cs)
 | .xrow _ _ _ _ _=>.dead
 | .saved _=>.dead
 | .rng cd ts q=>.rng cd (HN.rens is ts) q
 | b=>b
def HO (is:List Nat) (h:List Blk):List Nat->List Blk
 | []=>[]
 | j::l=>(match h[j]? with
  | some b=>P7 is b
  | none=>.dead)::HO is h l
section
variable {S:Nat->Prop} {w:World} {κ:Ai} {is:List Nat}
theorem TI {id k:Nat} (h:Ev id is 0=some k):(is[k]?).bind κ=κ id:=by
 obtain ⟨_,h2⟩:=G8 h;rw [Nat.sub_zero] at h2;rw [h2];rfl
mutual
theorem Ala:∀ (v:V) (c:Value),VR S w v κ c->VR S w (HN is v) (λi=>(is[i]?).bind κ) c
 | .val _,_,h=>h
 | .str _,_,h=>h
 | .agg cs,_,h=>by
  obtain ⟨ca,e,h⟩:=h;exact ⟨ca,e,Hh cs _ h⟩
 | .tup cs,_,h=>by
  obtain ⟨ca,e,h⟩:=h;exact ⟨ca,e,Hh cs _ h⟩
 | .fn f cs,_,h=>by
  obtain ⟨ca,e,h⟩:=h;exact ⟨ca,e,Hh cs _ h⟩
 | .nilS,_,h=>h
 | .sl _ _ _,_,h=>h
 | .slr _ _ _ _,_,h=>h
 | .pp _,_,h=>h
 | .ptr id _,_,h=>by
  simp only [HN];split
  ·rename_i k hk
   obtain ⟨g,h1,h2⟩:=h;exact ⟨g,(TI hk).trans h1,h2⟩
  ·trivial
 | .ref id,_,h=>by
  simp only [HN];split
  ·rename_i k hk
   exact ⟨(TI hk).trans h.1,h.2⟩
  ·trivial
 | .ept id _ _ _,_,h=>by
  simp only [HN];split
  ·rename_i k hk
   obtain ⟨g,n,cap,h1,h2⟩:=h;exact ⟨g,n,cap,(TI hk).trans h1,h2⟩
  ·trivial
 | .rct id _,_,h=>by
  simp only [HN];split
  ·rename_i k hk
   obtain ⟨a,n,cap,h1,h2⟩:=h;exact ⟨a,n,cap,(TI hk).trans h1,h2⟩
  ·trivial
 | .jref id,_,h=>by
  simp only [HN];split
  ·rename_i k hk
   obtain ⟨ms,h1,h2⟩:=h;exact ⟨ms,(TI hk).trans h1,h2⟩
  ·trivial
 | .jept id _ _ _,_,h=>by
  simp only [HN];split
  ·rename_i k hk
   obtain ⟨g,n,cap,ms,h1,h2⟩:=h;exact ⟨g,n,cap,ms,(TI hk).trans h1,h2⟩
  ·trivial
 | .mref id _,_,h=>by
  simp only [HN];split
  ·rename_i k hk
   obtain ⟨o,ms,h1,h2⟩:=h;exact ⟨o,ms,(TI hk).trans h1,h2⟩
  ·trivial
 | .mept id _ _ _ _,_,h=>by
  simp only [HN];split
  ·rename_i k hk
   obtain ⟨o,ms,g,n,cap,h1,h2⟩:=h;exact ⟨o,ms,g,n,cap,(TI hk).trans h1,h2⟩
  ·trivial
 | .mmap id _,_,h=>by
  simp only [HN];split
  ·rename_i k hk
   obtain ⟨o,ms,h1,h2⟩:=h;exact ⟨o,ms,(TI hk).trans h1,h2⟩
  ·trivial
 | .anym,_,h=>h
 | .und,_,_=>trivial
theorem Hh:∀ (vs:List V) (l:List Value),VRs S w vs κ l->VRs S w (HN.rens is vs) (λi=>(is[i]?).bind κ) l
 | [],_,h=>h
 | v::vs,_,h=>by
  obtain ⟨a,l',e,h1,h2⟩:=h;exact ⟨a,l',e,Ala v _ h1,Hh vs _ h2⟩
end
end
theorem Si (is0:List Nat) (h:List Blk):∀ (is:List Nat) (i:Nat),(HO is0 h is)[i]? = (is[i]?).map λj=>match h[j]? with
  | some b=>P7 is0 b
  | none=>.dead
 | [],i=>by simp [HO]
 | j::l,0=>by simp [HO]
 | j::l,i+1=>by simpa [HO] using Si is0 h l i
theorem MZ (is0:List Nat) (h:List Blk):∀ (is:List Nat),(HO is0 h is).length=is.length
 | []=>rfl
 | j::l=>by simp [HO,MZ is0 h l]
theorem TJ {is:List Nat} {b:Blk} {v:Option Value} {g:Nat} (h:inBlk v g (P7 is b)):inBlk v g b∧∀ lk e s n g,b ≠ .xrow lk e s n g:=by
 cases b with
 | xrow lk e s n gt=>exact h.elim
 | saved vs=>exact h.elim
 | _=>exact ⟨h,λ_ _ _ _ _ e=>by cases e⟩
theorem P6 {is:List Nat} {b:Blk}:¬ CB (P7 is b):=λh=>by
 cases b <;> rcases h with ⟨_,_,_,_,h⟩ | ⟨_,h⟩ <;> cases h
end Go.Sy
namespace Go.Sy
def X2:V->List Nat
 | .agg cs=>namesVs cs
 | .tup cs=>namesVs cs
 | .fn _ cs=>namesVs cs
 | .ref id | .ptr id _ | .ept id _ _ _ | .rct id _ | .jref id | .jept id _ _ _ | .mref id _ | .mept id _ _ _ _ | .mmap id _=>[id]
 | _=>[]
 where namesVs:List V->List Nat
 | []=>[]
 | v::vs=>X2 v++namesVs vs
def Ahw:List Nat->List Nat->List Nat
 | l,[]=>l
 | l,x::xs=>match D2 x l with
  | true=>Ahw l xs
  | false=>Ahw (l++[x]) xs
def Akd:Option Blk->List Nat
 | some (.cells cs)=>X2.namesVs cs
 | _=>[]
def YS (h:List Blk):List Nat->List Nat
 | []=>[]
 | i::l=>Akd h[i]? ++ YS h l
def AcE (h:List Blk):Nat->List Nat->List Nat
 | 0,l=>l
 | k+1,l=>AcE h k (Ahw l (YS h l))
def okB:Option Blk->Bool
 | some (.cells _) | some (.row _ _ _ _) | some (.imap _ _ _) | some (.gmap _ _ _ _) | some (.jag _)=>true
 | _=>false
def AjZ (h:List Blk):List Nat->Bool
 | []=>true
 | i::l=>okB h[i]? && AjZ h l
def Ht:Option Blk->Bool
 | some (.cells _)=>true
 | _=>false
def NX (h:List Blk):List Nat->Nat->List V
 | [],_=>[]
 | i::l,k=>(match Ht h[i]? with
  | true=>.ptr k 0
  | false=>.und)::NX h l (Nat.succ k)
def Ze:List V->List V->Bool
 | .ptr a b::l,.ptr a' b'::l'=>Nat.beq a a' && (Nat.beq b b' && Ze l l')
 | .und::l,_::l'=>Ze l l'
 | [],[]=>true
 | _,_=>false
def ncs (h:List Blk):List Nat->List Nat
 | []=>[]
 | i::l=>match Ht h[i]? with
  | true=>ncs h l
  | false=>i::ncs h l
def IG:List Nat->List V->List V
 | [],vs=>vs
 | i::l,vs=>IG l (kill.kills i vs)
def Dj:List Nat->Blk->Blk
 | [],b=>b
 | i::l,b=>Dj l (Fj i b)
def KC (n:Nat) (is:List Nat) (m:Nat):List Nat:=(List.range n).map (λi=>match Ev i is 0 with
 | some k=>k
 | none=>m)++(List.range (m-(is.length+1))).map (λi=>is.length+1+i)
def Aa4 (h:List Blk) (is:List Nat) (h2:List Blk) (i:Nat):Blk:=match Ev i is 0 with
 | some k=>match h2[k]? with
  | some b=>P7 (KC h.length is h2.length) b
  | none=>.dead
 | none=>match h[i]? with
  | some b=>Dj (ncs h is) b
  | none=>.dead
def RB (h:List Blk) (is:List Nat) (h2:List Blk):List Blk:=(List.range h.length).map (Aa4 h is h2)++(h2.drop (is.length+1)).map (P7 (KC h.length is h2.length))
def Ajn (E:List V->List Blk->A2) (vs:List V) (st:St) (is:List Nat):T (V×Res) :=
 match Jx is && AjZ st.h is with
 | true=>(E (HN.rens is vs) (HO is st.h is++[.saved (NX st.h is 0)])).bind λp=>match p.2[is.length]? with
  | some (.saved ps)=>match Ze (NX st.h is 0) ps with
   | true=>.leaf (HN (KC st.h.length is p.2.length) p.1,.all ⟨IG (ncs st.h is) st.t,RB st.h is p.2⟩)
   | false=>.fail
  | _=>.fail
 | false=>.fail
def Aof (E:List V->List Blk->A2) (vs:List V) (st:St):T (V×Res):=Ajn E vs st (AcE st.h 3 (Ahw [] (X2.namesVs vs)))
theorem HV {h:List Blk}:∀ {is:List Nat},AjZ h is=true->∀ (k i:Nat),is[k]? = some i->okB h[i]? = true
 | [],_,k,i,hk=>by simp at hk
 | j::l,ho,0,i,hk=>by
  simp at hk;subst hk;exact (Bool.and_eq_true_iff.1 ho).1
 | j::l,ho,k+1,i,hk=>HV (Bool.and_eq_true_iff.1 ho).2 k i (by simpa using hk)
theorem Aka {h:List Blk} {i:Nat} (ho:okB h[i]? = true):i<h.length:=by
 rcases Nat.lt_or_ge i h.length with hl | hl
 ·exact hl
 ·rw [List.getElem?_eq_none hl] at ho
  cases ho
theorem LM {h:List Blk}:∀ {is:List Nat} {i:Nat},i ∈ ncs h is↔i ∈ is∧Ht h[i]? = false
 | [],i=>by simp [ncs]
 | j::l,i=>by
  unfold ncs;split
  ·rename_i hj
   rw [LM];constructor
   ·exact λ⟨h1,h2⟩=>⟨by simp [h1],h2⟩
   ·rintro ⟨h1,h2⟩
    rcases List.mem_cons.1 h1 with rfl | h1
    ·rw [hj] at h2; cases h2
    ·exact ⟨h1,h2⟩
  ·rename_i hj
   rw [List.mem_cons,LM,List.mem_cons];constructor
   ·rintro (rfl | ⟨h1,h2⟩)
    ·exact ⟨.inl rfl,hj⟩
    ·exact ⟨.inr h1,h2⟩
   ·rintro ⟨rfl | h1,h2⟩
    ·exact .inl rfl
    ·exact .inr ⟨h1,h2⟩
theorem Vn {i:Nat}:∀ {l:List Nat} {a:Nat},i ∈ l->∃ k,Ev i l a=some k
 | x::l,a,h=>by
  unfold Ev;split
  ·exact ⟨a,rfl⟩
  ·rename_i hx
   have hx:=Nat.ne_of_beq_eq_false hx;exact Vn ((List.mem_cons.1 h).resolve_left λe=>hx e.symm)
theorem Ju {is:List Nat} {k i:Nat} (h:Ev i is 0=some k):is[k]? = some i:=by
 obtain ⟨_,h2⟩:=G8 h;rwa [Nat.sub_zero] at h2
theorem Nk {h:List Blk}:∀ {is:List Nat},Jx is=true->(ncs h is).Nodup
 | [],_=>List.nodup_nil
 | i::l,hn=>by
  simp only [Jx] at hn;split at hn
  ·cases hn
  ·rename_i hm
   have hm:=Nm hm;unfold ncs;split
   ·exact Nk hn
   ·exact List.nodup_cons.2 ⟨λhc=>hm (LM.1 hc).1,Nk hn⟩
section
variable {S S':Nat->Prop} {w w':World}
theorem Ro:∀ {ks:List Nat} {S S':Nat->Prop} {w w':World} {κ κ':Ai},(∀ b,S b->S' b∧w'.heap[b]? = w.heap[b]?)->ks.Nodup->(∀ id,id ∈ ks->Jd (κ id))->(∀ i,i ∉ ks->κ' i=κ i)->∀ {vs:List V} {l:List Value},VRs S w vs κ l->VRs S' w' (IG ks vs) κ' l
 | [],_,_,_,_,κ,κ',hS,_,_,hk,vs,l,h=>by
  rw [show κ'=κ from funext λi=>hk i (by simp)];exact VR.mono_go hS _ _ _ _ (λ_ _ h=>h) h
 | id::ks,_,_,_,_,κ,κ',hS,hn,hid,hk,vs,l,h=>by
  obtain ⟨hn1,hn2⟩:=List.nodup_cons.1 hn;have h1:=Dm (κ':=λi=>if i=id then κ' i else κ i) hS (hid id (by simp)) (λi hi=>if_neg hi) vs l h
  refine Ro (λb hb=>⟨hb,rfl⟩) hn2 (λj hj=>?_) (λi hi=>?_) h1
  ·have hne:j ≠ id:=λe=>hn1 (e ▸ hj)
   show Jd (if j=id then κ' j else κ j)
   rw [if_neg hne];exact hid j (by simp [hj])
  ·show κ' i=if i=id then κ' i else κ i
   by_cases e:i=id
   ·rw [if_pos e]
   ·rw [if_neg e]
    exact hk i (by simp [e,hi])
theorem SD {v:Option Value} {g:Nat}:∀ {ks:List Nat} {b:Blk},inBlk v g (Dj ks b)↔inBlk v g b
 | [],_=>Iff.rfl
 | _::ks,_=>(SD (ks:=ks)).trans EX
theorem LV:∀ {ks:List Nat} {b:Blk},CB (Dj ks b)->CB b∧Bz (Dj ks b) b
 | [],_,h=>⟨h,Bz.refl h⟩
 | _::ks,_,h=>by
  obtain ⟨h1,h2⟩:=LV (ks:=ks) h;obtain ⟨h3,h4⟩:=J5 h1;exact ⟨h3,h2.trans h h4⟩
theorem Oj {e:TypeId} {s n:Nat} {g:Nat->V} {lk:Bool}:∀ {ks:List Nat},Dj ks (.xrow lk e s n g) = .xrow lk e s n g
 | []=>rfl
 | _::ks=>Oj (ks:=ks)
theorem A7.killL (hS:∀ b,S b->S' b∧w'.heap[b]? = w.heap[b]?) {v:Option Value}:∀ {ks:List Nat} {κ κ':Ai} {b:Blk},(∀ g,inBlk v g b->w'.heap[g]? = w.heap[g]?) ->
  (∀ vs l,VRs S w vs κ l->VRs S' w' (IG ks vs) κ' l)->A7 S w κ v b->A7 S' w' κ' v (Dj ks b):=by
 intro ks κ κ' b hb hk h;have key:∀ (ks:List Nat) (b:Blk),(match b with
  | .cells cs=>Dj ks b = .cells (IG ks cs)
  | .saved vs=>Dj ks b = .saved (IG ks vs)
  | .rng cd ts q=>Dj ks b = .rng cd (IG ks ts) q
  | b=>Dj ks b=b):=λks=>by
  induction ks with
  | nil=>intro b; cases b <;> rfl
  | cons i ks ih=>intro b; cases b with
   | cells cs=>exact ih (.cells _)
   | saved cs=>exact ih (.saved _)
   | rng cd cs q=>exact ih (.rng cd _ q)
   | row e s n g=>exact ih (.row e s n g)
   | imap t n g=>exact ih (.imap t n g)
   | gmap t k hs g=>exact ih (.gmap t k hs g)
   | xrow lk e s n g=>exact ih (.xrow lk e s n g)
   | jag j=>exact ih (.jag j)
   | dead=>exact ih .dead
 have hkb:=key ks b;cases b with
 | cells cs =>rw [show Dj ks (.cells cs)=_ from hkb];obtain ⟨g,e,ca,hv,hg,hr⟩:=h;exact ⟨g,e,ca,hv,by rw [hb g (by rw [hv]; rfl)]; exact hg,hk _ _ hr⟩
 | saved vs =>
  rw [show Dj ks (.saved vs)=_ from hkb];rcases h with rfl | ⟨l,hv,hr⟩
  ·have:∀ ks:List Nat,IG ks Vo=Vo:=λks=>by
    induction ks with
    | nil=>rfl
    | cons i ks ih=>exact ih
   exact .inl (this ks)
  ·exact .inr ⟨l,hv,hk _ _ hr⟩
 | rng cd ts q =>rw [show Dj ks (.rng cd ts q)=_ from hkb];obtain ⟨l,r,hv,hh,h1,h2,hr⟩:=h;exact ⟨l,r,hv,by rw [hb l (by rw [hv]; rfl)]; exact hh,h1,h2,hk _ _ hr⟩
 | row e s n g=>rw [show Dj ks (.row e s n g)=_ from hkb]; exact A7.mono (κ:=noK) hS (λ_ _ h=>by cases h) hb (show A7 S w noK v (.row e s n g) from h)
 | imap ty n get=>rw [show Dj ks (.imap ty n get)=_ from hkb]; exact A7.mono (κ:=noK) hS (λ_ _ h=>by cases h) hb (show A7 S w noK v (.imap ty n get) from h)
 | gmap ty k hs get=>rw [show Dj ks (.gmap ty k hs get)=_ from hkb]; exact A7.mono (κ:=noK) hS (λ_ _ h=>by cases h) hb (show A7 S w noK v (.gmap ty k hs get) from h)
 | xrow lk e s n g=>rw [show Dj ks (.xrow lk e s n g)=_ from hkb]; exact A7.mono (κ:=noK) hS (λ_ _ h=>by cases h) hb (show A7 S w noK v (.xrow lk e s n g) from h)
 | jag j=>rw [show Dj ks (.jag j)=_ from hkb]; exact A7.mono (κ:=noK) hS (λ_ _ h=>by cases h) hb (show A7 S w noK v (.jag j) from h)
 | dead=>rw [show Dj ks .dead=_ from hkb]; trivial
theorem KG {κ κ':Ai} {is:List Nat} {v:Option Value} {b:Blk} (hk:∀ vs l,VRs S w vs κ l->VRs S w (HN.rens is vs) κ' l) (h:A7 S w κ v b):A7 S w κ' v (P7 is b):=by
 cases b with
 | cells cs =>obtain ⟨g,e,ca,p1,p2,p3⟩:=h;exact ⟨g,e,ca,p1,p2,hk _ _ p3⟩
 | rng cd ts q =>obtain ⟨l,r,p1,p2,p3,p4,p5⟩:=h;exact ⟨l,r,p1,p2,p3,p4,hk _ _ p5⟩
 | xrow lk e s n g=>trivial
 | saved vs=>trivial
 | dead=>trivial
 | _=>exact h
end
end Go.Sy
namespace Go.Sy
section
variable {S:Nat->Prop} {w:World} {κ:Ai} {h:List Blk} {is:List Nat}
theorem Ack {i:Nat} {b:Blk} (hb:(HO is h is)[i]? = some b):∃ j,is[i]? = some j∧((h[j]? = none∧b = .dead) ∨ ∃ b0,h[j]? = some b0∧b=P7 is b0):=by
 rw [Si,Option.map_eq_some_iff] at hb;obtain ⟨j,h1,h2⟩:=hb;refine ⟨j,h1,?_⟩;split at h2
 ·rename_i b0 h3
  exact .inr ⟨b0,h3,h2.symm⟩
 ·rename_i h3
  exact .inl ⟨h3,h2.symm⟩
theorem Iw {i g:Nat} (ho:A3 (λi=>(is[i]?).bind κ) (HO is h is) i g):∃ j,is[i]? = some j∧A3 κ h j g:=by
 obtain ⟨b,q1,q2⟩:=ho;obtain ⟨j,h1,⟨_,rfl⟩ | ⟨b0,h2,rfl⟩⟩:=Ack q1
 ·exact q2.elim
 ·have q2:inBlk ((is[i]?).bind κ) g (P7 is b0):=q2
  rw [h1] at q2;exact ⟨j,h1,b0,h2,(TJ q2).1⟩
theorem Acj (hg:Good κ S h w) (hn:Jx is=true):Good (λi=>(is[i]?).bind κ) S (HO is h is) w:=by
 refine ⟨λi b hb=>?_,λi j g hij hi hj=>?_,λb hb=>⟨(hg.out b hb).1,λi hi=>?_⟩,λi hi=>?_⟩
 ·obtain ⟨j,h1,⟨_,rfl⟩ | ⟨b0,h2,rfl⟩⟩:=Ack hb
  ·trivial
  ·show A7 S w _ ((is[i]?).bind κ) (P7 is b0)
   rw [h1];exact KG (λvs l hv=>Hh vs l hv) (hg.blk j _ h2)
 ·obtain ⟨i',h1,h2⟩:=Iw hi
  obtain ⟨j',h3,h4⟩:=Iw hj;refine hg.sep i' j' g (λe=>hij ?_) h2 h4;subst e;exact Jw hn i j i' h1 h3
 ·obtain ⟨j,_,h2⟩:=Iw hi
  exact (hg.out b hb).2 j h2
 ·rw [MZ] at hi
  show (is[i]?).bind κ=none;rw [List.getElem?_eq_none hi];rfl
theorem Uf {h:List Blk} {i:Nat} (hc:Ht h[i]? = true):∃ cs,h[i]? = some (.cells cs):=by
 unfold Ht at hc;split at hc
 ·rename_i cs hh
  exact ⟨cs,hh⟩
 ·cases hc
theorem YK (hg:Good κ S h w):∀ (js:List Nat) (k:Nat),(∀ m j,js[m]? = some j->is[k+m]? = some j)->∃ l,VRs S w (NX h js k) (λi=>(is[i]?).bind κ) l
 | [],_,_=>⟨[],rfl⟩
 | j::js,k,hj=>by
  obtain ⟨l,hl⟩:=YK hg js (k+1) λm i hi=>by
   have:=hj (m+1) i (by simpa using hi);rw [show k+1+m=k+(m+1) by omega];exact this
  unfold NX;split
  ·rename_i hc
   obtain ⟨cs,hh⟩:=Uf hc;obtain ⟨g,e,ca,hv,_⟩:=hg.blk j _ hh;refine ⟨.pointer (some ⟨g,0,none⟩)::l,_,_,rfl,⟨g,?_,rfl⟩,hl⟩;have:=hj 0 j (by simp);show (is[k]?).bind κ=_;rw [show is[k]? = some j from this];exact hv
  ·exact ⟨undef::l,_,_,rfl,trivial,hl⟩
theorem Su {h:List Blk}:∀ {js:List Nat} {k m j:Nat},js[m]? = some j->Ht h[j]? = true->(NX h js k)[m]? = some (.ptr (k+m) 0)
 | [],k,m,j,hj,_=>by simp at hj
 | x::js,k,0,j,hj,hc=>by
  simp at hj;subst hj;unfold NX;rw [hc];rfl
 | x::js,k,m+1,j,hj,hc=>by
  have:=Su (k:=k+1) (m:=m) (by simpa using hj) hc;unfold NX;rw [List.getElem?_cons_succ,this,show k+1+m=k+(m+1) by omega]
theorem Qo:∀ {ps qs:List V} {m k o:Nat},Ze ps qs=true->ps[m]? = some (.ptr k o)->qs[m]? = some (.ptr k o)
 | .ptr a b::l,.ptr a' b'::l',0,k,o,hk,hp=>by
  simp at hp;obtain ⟨rfl,rfl⟩:=hp;obtain ⟨h1,h2⟩:=Bool.and_eq_true_iff.1 hk;obtain ⟨h3,_⟩:=Bool.and_eq_true_iff.1 h2;simp [Nat.eq_of_beq_eq_true h1,Nat.eq_of_beq_eq_true h3]
 | .ptr a b::l,.ptr a' b'::l',m+1,k,o,hk,hp=>by
  obtain ⟨_,h2⟩:=Bool.and_eq_true_iff.1 hk;exact Qo (m:=m) (Bool.and_eq_true_iff.1 h2).2 hp
 | .und::l,_::l',0,k,o,hk,hp=>by simp at hp
 | .und::l,_::l',m+1,k,o,hk,hp=>Qo (m:=m) (ps:=l) (qs:=l') hk hp
 | [],[],m,k,o,hk,hp=>by simp at hp
theorem Ag5 (h2:List Blk):(RB h is h2).length=h.length+(h2.length-(is.length+1)):=by simp [RB]
theorem TP {h2:List Blk} {i:Nat} (hi:i<h.length):(RB h is h2)[i]? = some (Aa4 h is h2 i):=by
 unfold RB;rw [List.getElem?_append_left (by simpa using hi),List.getElem?_map,List.getElem?_range hi];rfl
theorem X3 {h2:List Blk} {i:Nat} (hi:h.length <= i):(RB h is h2)[i]? = (h2[is.length+1+(i-h.length)]?).map (P7 (KC h.length is h2.length)):=by
 unfold RB;rw [List.getElem?_append_right (by simpa using hi),List.getElem?_map,List.getElem?_drop];simp
theorem AeP {m i x:Nat} {n:Nat} (hb:(KC n is m)[i]? = some x):(i<n∧((Ev i is 0=some x) ∨ (Ev i is 0=none∧x=m))) ∨ (n <= i∧x=is.length+1+(i-n)):=by
 unfold KC at hb;rcases Nat.lt_or_ge i n with hl | hl
 ·left
  refine ⟨hl,?_⟩;rw [List.getElem?_append_left (by simpa using hl),List.getElem?_map,List.getElem?_range hl] at hb;simp only [Option.map_some,Option.some.injEq] at hb;split at hb
  ·rename_i k hk
   exact .inl (by rw [hk,hb])
  ·rename_i hk
   exact .inr ⟨hk,hb.symm⟩
 ·right
  refine ⟨hl,?_⟩;rw [List.getElem?_append_right (by simpa using hl),List.getElem?_map] at hb;simp only [List.length_map,List.length_range] at hb;rw [Option.map_eq_some_iff] at hb;obtain ⟨y,h1,h2⟩:=hb;have:=List.getElem?_eq_some_iff.1 h1;obtain ⟨h3,h4⟩:=this;simp at h4;omega
end
theorem Agd {P:Program} {G:Nat->V} {f:FuncId} {E:List V->List Blk->A2} (hE:E4 P G f E) {vs:List V} {cs:List Value} {κ:Ai} {S:Nat->Prop} {st:St} {l:List Value} {w:World} {v:V} {r:Res} {is:List Nat}
  (hg:Good κ S st.h w) (hG:MK G S w) (hv:VRs S w vs κ cs) (ht:VRs S w st.t κ l) (he:(Ajn E vs st is).sem=some (v,r)) :
  HI P f∧Calls P f cs.toArray w λe w'=>∃ c κ' S',e = .returned c∧Good κ' S' (Hf st r).h w'∧VR S' w' v κ' c∧Ext κ S st.h w κ' S' (Hf st r).h w'∧W9 κ κ' S' w w' l r:=by
 unfold Ajn at he;split at he
 rotate_left
 ·cases he
 rename_i hok;obtain ⟨hn,hoks⟩:=Bool.and_eq_true_iff.1 hok;obtain ⟨⟨v2,h2⟩,e1,e2⟩:=Ad he;split at e2
 rotate_left
 ·cases e2
 rename_i ps hat;split at e2
 rotate_left
 ·cases e2
 rename_i hkp;have e2:=Aa e2;simp only [Prod.mk.injEq] at e2;obtain ⟨rfl,rfl⟩:=e2;have hat:h2[is.length]? = some (.saved ps):=hat;have hsub:=Acj hg hn;have hslen:(HO is st.h is).length=is.length:=MZ _ _ _;obtain ⟨pl,hpl⟩:=YK (is:=is) hg is 0 (λm j hj=>by rw [Nat.zero_add]; exact hj);have hg1:=KE hsub hpl;have hv1:VRs S w (HN.rens is vs) (EZ (λi=>(is[i]?).bind κ) (HO is st.h is) pl) cs:=MP hsub (Hh vs cs hv);refine ⟨hE.1,(hE.2 _ _ _ _ _ _ _ _ hg1 hG hv1 e1).mono ?_⟩
 rintro e w' ⟨c,κ2,S2,rfl,g2,gv,gx⟩
 have hfrom:∀ k g,A3 κ2 h2 k g->(∃ j x,is[x]? = some j∧A3 κ st.h j g) ∨ w.heap.size <= g:=λk g hk=>by
  rcases gx.own k g hk with ⟨j,hj⟩ | hle
  ·obtain ⟨j',q1,q2⟩:=Iw (EW.1 hj)
   exact .inl ⟨j',j,q1,q2⟩
  ·exact .inr hle
 have hkeep:∀ b,b<w.heap.size->(∀ j,j ∈ is->¬ A3 κ st.h j b)->w'.heap[b]? = w.heap[b]?:=λb hb hno=>gx.keep b hb λi hi=>by
  obtain ⟨j',q1,q2⟩:=Iw (EW.1 hi);exact hno j' (List.mem_of_getElem? q1) q2
 have hSS:∀ b,S b->S2 b∧w'.heap[b]? = w.heap[b]?:=λb hb=>⟨gx.sup b hb,hkeep b (hg.out b hb).1 λj _=>(hg.out b hb).2 j⟩;have hcell:∀ k j,is[k]? = some j->Ht st.h[j]? = true->κ2 k=κ j:=λk j hk hc=>by
  have hp:=Su (k:=0) hk hc;rw [Nat.zero_add] at hp;have hq:=Qo hkp hp;have hpin:LZ ps=false:=by
   cases hpn:LZ ps with
   | false=>rfl
   | true =>
    exfalso
    unfold LZ at hpn;split at hpn
    ·cases k <;> simp at hq
    ·cases hpn
  obtain ⟨q1,q2⟩:=Px g2 gx (by rw [hslen]; exact hat) hpin;obtain ⟨a,z1,z2⟩:=VRs.get q2 hq;obtain ⟨b,z3,z4⟩:=VRs.get hpl hp;obtain ⟨ga,y1,y2⟩:=z2;obtain ⟨gb,y3,y4⟩:=z4;rw [z1] at z3;simp only [Option.some.injEq] at z3;have y3:(is[k]?).bind κ=some (.pointer (some ⟨gb,0,none⟩)):=y3;rw [hk] at y3;have y3:κ j=some (.pointer (some ⟨gb,0,none⟩)):=y3;rw [y1,y3,<- y2,<- y4,z3]
 obtain ⟨κN,hκN⟩:∃ κN:Ai,κN=λi=>if i<st.h.length then (match Ev i is 0 with | some k=>κ2 k | none=>κ i) else κ2 (is.length+1+(i-st.h.length)):=⟨_,rfl⟩
 have kin:∀ i k,i<st.h.length->Ev i is 0=some k->κN i=κ2 k:=λi k hi hk=>by rw [hκN]; simp [hi,hk]
 have kout:∀ i,i<st.h.length->Ev i is 0=none->κN i=κ i:=λi hi hk=>by rw [hκN]; simp [hi,hk]
 have knew:∀ i,st.h.length <= i->κN i=κ2 (is.length+1+(i-st.h.length)):=λi hi=>by rw [hκN]; simp [Nat.not_lt.2 hi]
 have hmem:∀ j,j ∈ is->j<st.h.length:=λj hj=>by
  obtain ⟨k,hk⟩:=List.getElem?_of_mem hj;exact Aka (HV hoks k j hk)
 have hback:∀ vs l,VRs S2 w' vs κ2 l->VRs S2 w' (HN.rens (KC st.h.length is h2.length) vs) κN l:=λvs l hv=>by
  refine VR.mono_go (λ_ hb=>⟨hb,rfl⟩) _ _ _ _ (λi c hc=>?_) (Hh (is:=KC st.h.length is h2.length) vs l hv);have hc:((KC st.h.length is h2.length)[i]?).bind κ2=some c:=hc;rw [Option.bind_eq_some_iff] at hc;obtain ⟨x,h1,h3⟩:=hc;rcases AeP h1 with ⟨hi,hp | ⟨_,hx⟩⟩ | ⟨hi,hx⟩
  ·rw [kin i x hi hp]; exact h3
  ·rw [g2.dom x (by omega)] at h3; cases h3
  ·rw [knew i hi,<- hx]; exact h3
 have hkeepV:∀ vs l,VRs S w vs κ l->VRs S2 w' (IG (ncs st.h is) vs) κN l:=λvs l hv=>by
  have h1:=Ro (κ':=λi=>if i<st.h.length then κN i else none) hSS (Nk (h:=st.h) hn) (λid hid=>?_) (λi hi=>?_) hv
  ·refine VR.mono_go (λ_ hb=>⟨hb,rfl⟩) _ _ _ _ (λi c hc=>?_) h1
   split at hc
   ·exact hc
   ·cases hc
  ·obtain ⟨h1,h3⟩:=LM.1 hid
   obtain ⟨k,hk⟩:=List.getElem?_of_mem h1;have ho:=HV hoks k id hk;intro a ea;unfold okB at ho;split at ho
   ·rename_i cs hh; rw [hh] at h3; cases h3
   ·rename_i e s n g hh
    obtain ⟨_,c,xs,q1,q2,_⟩:=hg.blk id _ hh;rw [ea] at q1;cases q1;obtain ⟨_,_,q⟩:=Br q2;cases q
   ·rename_i t n g hh
    obtain ⟨b,o,q1,_⟩:=hg.blk id _ hh;rw [ea] at q1;cases q1
   ·rename_i t n g z hh
    obtain ⟨b,o,q1,_⟩:=hg.blk id _ hh;rw [ea] at q1;cases q1
   ·rename_i j hh
    obtain ⟨c,ms,xs,q1,_⟩:=hg.blk id _ hh;rw [ea] at q1;cases q1
   ·cases ho
  ·show (if i<st.h.length then κN i else none)=κ i
   by_cases hl:i<st.h.length
   ·rw [if_pos hl]
    cases hp:Ev i is 0 with
    | none=>exact kout i hl hp
    | some k =>
     have hk:=Ju hp;rw [kin i k hl hp];refine hcell k i hk ?_;cases hc:Ht st.h[i]? with
     | true=>rfl
     | false=>exact absurd (LM.2 ⟨List.mem_of_getElem? hk,hc⟩) hi
   ·rw [if_neg hl]
    exact (hg.dom i (by omega)).symm
 have hown:∀ i g,A3 κN (RB st.h is h2) i g->(∃ k,A3 κ2 h2 k g∧(i<st.h.length∧Ev i is 0=some k ∨ st.h.length <= i∧k=is.length+1+(i-st.h.length))) ∨ (i<st.h.length∧Ev i is 0=none∧A3 κ st.h i g):=by
  rintro i g ⟨b,q1,q2⟩
  rcases Nat.lt_or_ge i st.h.length with hi | hi
  ·rw [TP hi] at q1
   simp only [Option.some.injEq] at q1;unfold Aa4 at q1;cases hp:Ev i is 0 with
   | some k =>
    rw [hp] at q1;simp only at q1;rw [kin i k hi hp] at q2;cases hh:h2[k]? with
    | none=>rw [hh] at q1; subst q1; exact q2.elim
    | some b0 =>rw [hh] at q1;simp only at q1;subst q1;exact .inl ⟨k,⟨b0,hh,(TJ q2).1⟩,.inl ⟨hi,rfl⟩⟩
   | none =>
    rw [hp] at q1;simp only at q1;rw [kout i hi hp] at q2;cases hh:st.h[i]? with
    | none=>rw [hh] at q1; subst q1; exact q2.elim
    | some b0 =>rw [hh] at q1;simp only at q1;subst q1;exact .inr ⟨hi,rfl,b0,hh,SD.1 q2⟩
  ·rw [X3 hi,Option.map_eq_some_iff] at q1
   obtain ⟨b0,hh,rfl⟩:=q1;rw [knew i hi] at q2;exact .inl ⟨_,⟨b0,hh,(TJ q2).1⟩,.inr ⟨hi,rfl⟩⟩
 have hnot:∀ i,i<st.h.length->Ev i is 0=none->∀ j,j ∈ is->j ≠ i:=λi _ hp j hj e=>by
  obtain ⟨k,hk⟩:=Vn (a:=0) hj;rw [e,hp] at hk;cases hk
 have hapart:∀ i k g,i<st.h.length->Ev i is 0=none->A3 κ st.h i g->A3 κ2 h2 k g->False:=λi k g hi hp h1 h3=>by
  rcases hfrom k g h3 with ⟨j,x,q1,q2⟩ | hle
  ·exact hg.sep j i g (hnot i hi hp j (List.mem_of_getElem? q1)) q2 h1
  ·have:=hg.lt h1
   omega
 have hgood:Good κN S2 (RB st.h is h2) w':=by
  refine ⟨λi b hb=>?_,λi j g hij hi hj=>?_,λb hb=>⟨(g2.out b hb).1,λi hi=>?_⟩,λi hi=>?_⟩
  ·rcases Nat.lt_or_ge i st.h.length with hi | hi
   ·rw [TP hi] at hb
    simp only [Option.some.injEq] at hb;unfold Aa4 at hb;cases hp:Ev i is 0 with
    | some k =>
     rw [hp] at hb;simp only at hb;rw [kin i k hi hp];cases hh:h2[k]? with
     | none=>rw [hh] at hb; subst hb; trivial
     | some b0 =>rw [hh] at hb;simp only at hb;subst hb;exact KG hback (g2.blk k _ hh)
    | none =>
     rw [hp] at hb;simp only at hb;rw [kout i hi hp];cases hh:st.h[i]? with
     | none=>rw [hh] at hb; subst hb; trivial
     | some b0 =>rw [hh] at hb;simp only at hb;subst hb;exact A7.killL hSS (λg hgb=>hkeep g (hg.lt ((Aq hh).2 hgb)) λj hj=>hg.sep i j g (λe=>hnot i hi hp j hj e.symm) ((Aq hh).2 hgb)) hkeepV (hg.blk i _ hh)
   ·rw [X3 hi,Option.map_eq_some_iff] at hb
    obtain ⟨b0,hh,rfl⟩:=hb;rw [knew i hi];exact KG hback (g2.blk _ _ hh)
  ·rcases hown i g hi with ⟨k,h1,h3⟩ | ⟨h1,h3,h4⟩ <;> rcases hown j g hj with ⟨k',h1',h3'⟩ | ⟨h1',h3',h4'⟩
   ·refine g2.sep k k' g (λe=>hij ?_) h1 h1'
    subst e;rcases h3 with ⟨a1,a2⟩ | ⟨a1,a2⟩ <;> rcases h3' with ⟨b1,b2⟩ | ⟨b1,b2⟩
    ·have:=(Ju a2).symm.trans (Ju b2)
     simpa using this
    ·have:=(List.getElem?_eq_some_iff.1 (Ju a2)).1
     omega
    ·have:=(List.getElem?_eq_some_iff.1 (Ju b2)).1
     omega
    ·omega
   ·exact hapart j k g h1' h3' h4' h1
   ·exact hapart i k' g h1 h3 h4 h1'
   ·exact hg.sep i j g hij h4 h4'
  ·rcases hown i b hi with ⟨k,h1,_⟩ | ⟨h1,h3,h4⟩
   ·exact (g2.out b hb).2 k h1
   ·rcases gx.sub b hb with hs | ⟨j,hj⟩ | hle
    ·exact (hg.out b hs).2 i h4
    ·obtain ⟨j',q1,q2⟩:=Iw (EW.1 hj)
     exact hg.sep j' i b (hnot i h1 h3 j' (List.mem_of_getElem? q1)) q2 h4
    ·have:=hg.lt h4
     omega
  ·rw [Ag5] at hi
   rw [knew i (by omega)];exact g2.dom _ (by omega)
 have hext:Ext κ S st.h w κN S2 (RB st.h is h2) w':=by
  refine ⟨gx.os,gx.tape,gx.output,gx.size,λb hb hno=>hkeep b hb λj _=>hno j,λi b hi=>?_,λb hb=>?_,gx.sup,I4 gx.size (λb hb hno=>hkeep b hb λj _=>hno j) (λi b hi hb=>?_) (λi e s n g b hh hb=>?_),λi b hi hf=>?_⟩
  ·rcases hown i b hi with ⟨k,h1,_⟩ | ⟨_,_,h4⟩
   ·rcases hfrom k b h1 with ⟨j,_,_,q2⟩ | hle
    ·exact .inl ⟨j,q2⟩
    ·exact .inr hle
   ·exact .inl ⟨i,h4⟩
  ·rcases gx.sub b hb with hs | ⟨j,hj⟩ | hle
   ·exact .inl hs
   ·obtain ⟨j',_,q2⟩:=Iw (EW.1 hj)
    exact .inr (.inl ⟨j',q2⟩)
   ·exact .inr (.inr hle)
  ·rcases hown i b hi with ⟨k,h1,_⟩ | ⟨h1,h3,h4⟩
   ·rcases hfrom k b h1 with ⟨j,x,q1,q2⟩ | hle
    ·refine ⟨j,q2,λe s n g hh=>?_⟩
     have:=HV hoks x j q1;rw [hh] at this;cases this
    ·omega
   ·refine ⟨i,h4,λe s n g hh=>⟨e,s,n,g,?_,Nat.le_refl _⟩⟩
    rw [TP h1];unfold Aa4;rw [h3,hh];exact congrArg some Oj
  ·refine E5.same (hkeep b (hg.lt hb) λj hj=>?_)
   intro hj';have hne:j ≠ i:=λe'=>by
    subst e';obtain ⟨k,hk⟩:=List.getElem?_of_mem hj;have:=HV hoks k j hk;rw [hh] at this;cases this
   exact hg.sep j i b hne hj' hb
  ·rcases Nat.lt_or_ge i st.h.length with hl | hl
   ·rw [TP hl] at hi
    simp only [Option.some.injEq] at hi;unfold Aa4 at hi;cases hp:Ev i is 0 with
    | some k =>
     rw [hp] at hi;simp only at hi;cases hh:h2[k]? with
     | none=>rw [hh] at hi; subst hi; rcases hf with ⟨_,_,_,_,hf⟩ | ⟨_,hf⟩ <;> cases hf
     | some b0=>rw [hh] at hi; simp only at hi; subst hi; exact absurd hf P6
    | none =>
     rw [hp] at hi;simp only at hi;cases hh:st.h[i]? with
     | none=>rw [hh] at hi; subst hi; rcases hf with ⟨_,_,_,_,hf⟩ | ⟨_,hf⟩ <;> cases hf
     | some b0 =>rw [hh] at hi;simp only at hi;subst hi;exact ⟨kout i hl hp,b0,rfl,(LV hf).2⟩
   ·rw [X3 hl,Option.map_eq_some_iff] at hi
    obtain ⟨b0,hh,rfl⟩:=hi;exact absurd hf P6
 have gv':VR S2 w' (HN (KC st.h.length is h2.length) v2) κN c:=by
  obtain ⟨a,l',e1,h1,_⟩:=hback [v2] [c] ⟨c,[],rfl,gv,rfl⟩;simp only [List.cons.injEq] at e1;rw [e1.1];exact h1
 exact ⟨c,κN,S2,rfl,hgood,gv',hext,hkeepV _ _ ht⟩
def M5 (ut:List (Nat×(List V->List Blk->A2))) (c:FuncId->List V->St->T (V×Res)) (f:FuncId) (vs:List V) (st:St):T (V×Res) :=
 match Jb f ut with
 | some E=>Aof E vs st
 | none=>c f vs st
theorem Ij {P:Program} {G:Nat->V} {ut:List (Nat×(List V->List Blk->A2))} {c:FuncId->List V->St->T (V×Res)} (hu:JK P G ut) (hc:Bb P ⟨c,G⟩):Bb P ⟨M5 ut c,G⟩:=by
 intro f vs cs κ S st l w v r hg hE hv ht he;have he:(M5 ut c f vs st).sem=some (v,r):=he;unfold M5 at he;split at he
 ·rename_i E hl
  exact .inl (Agd (hu _ (GU hl)) hg hE hv ht he)
 ·exact hc f vs cs κ S st l w v r hg hE hv ht he
end Go.Sy
