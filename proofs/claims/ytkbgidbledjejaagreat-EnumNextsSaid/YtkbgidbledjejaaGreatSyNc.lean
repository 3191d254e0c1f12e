/-
  A loop that appends to one row of the call's own and writes no other memory: behind it all is as it was. No conditions.
-/
import Derived.Test.YtkbgidbledjejaaGreatSyNb
import Derived.LoopN
namespace Go.Sy
section
variable {S:Nat->Prop} {w w':World} {κ:Ai} {h:List Blk}
def Aa0 (κ:Ai) (id:Nat):Ai:=λi=>if i=0 then κ id else none
theorem JZ {lk:Bool} {id e s n:Nat} {g g':Nat->V} (hh:h[id]? = some (.row e s n g)) (i b:Nat):A3 (Aa0 κ id) [.xrow lk e s n g'] i b↔i=0∧A3 κ h id b:=by
 rw [Aq hh];constructor
 ·rintro ⟨bl,h1,h2⟩
  cases i with
  | zero =>simp at h1;subst h1;exact ⟨rfl,h2⟩
  | succ i=>simp at h1
 ·rintro ⟨rfl,h1⟩
  exact ⟨_,rfl,h1⟩
theorem Good.one {lk:Bool} {id e s n:Nat} {g g0:Nat->V} (hg:Good κ S h w) (hh:h[id]? = some (.row e s n g)) (h0:∀ i,i<n->g0 i=g i):Good (Aa0 κ id) S [.xrow lk e s n g0] w:=by
 refine ⟨λi b hi=>?_,λi j k hij hi hj=>?_,λb hb=>⟨(hg.out b hb).1,λi hi=>?_⟩,λi hi=>?_⟩
 ·cases i with
  | zero =>simp at hi;subst hi;obtain ⟨r0,cc,xs,r1,r2,r3⟩:=hg.blk id _ hh;exact ⟨r0,cc,xs,r1,r2,λi hi=>by rw [h0 i hi]; exact r3 i hi⟩
  | succ i=>simp at hi
 ·have h1:=((JZ hh i k).1 hi).1
  have h2:=((JZ hh j k).1 hj).1;omega
 ·exact (hg.out b hb).2 id ((JZ hh i b).1 hi).2
 ·have hi:1 <= i:=hi
  unfold Aa0;rw [if_neg (by omega)]
theorem Good.back {id e s n:Nat} {g g':Nat->V} (hg:Good κ S h w) (hh:h[id]? = some (.row e s n g)) (hsz:w.heap.size <= w'.heap.size)
  (hkeep:∀ b,b<w.heap.size->¬ A3 κ h id b->w'.heap[b]? = w.heap[b]?) (hB:A7 S w' κ (κ id) (.row e s n g')):Good κ S (h.set id (.row e s n g')) w' :=
 (hg.upd' (b':=.row e s n g') hh (λ_ hk=>hk) (λk hk hlt=>hkeep k hlt λq=>hk ((Aq hh).1 q)) hsz hB).1
theorem Ext.back {id e s n:Nat} {g g':Nat->V} (hg:Good κ S h w) (hh:h[id]? = some (.row e s n g)) (hos:w'.os=w.os) (htape:w'.tape=w.tape) (hout:w'.output=w.output) (hsz:w.heap.size <= w'.heap.size)
  (hkeep:∀ b,b<w.heap.size->¬ A3 κ h id b->w'.heap[b]? = w.heap[b]?) (hB:A7 S w' κ (κ id) (.row e s n g')):Ext κ S h w κ S (h.set id (.row e s n g')) w' :=
 Ext.upd' hg hh rfl (λk hk hlt=>hkeep k hlt λq=>hk ((Aq hh).1 q)) hsz hos htape hout
  (hg.upd' (b':=.row e s n g') hh (λ_ hk=>hk) (λk hk hlt=>hkeep k hlt λq=>hk ((Aq hh).1 q)) hsz hB).2 (λ_ _ _ _ h=>by cases h) (λhf=>absurd hf (notFixed (b:=.row e s n g') trivial (λ_ _ _ _ h=>by cases h)))
end
def Aaz (m:Value):Ai:=λi=>if i=0 then some m else none
section
variable {S:Nat->Prop} {w w':World} {κ:Ai} {h:List Blk} {id i:Nat} {j:Jag} {c m:Value} {ms:Array Value}
theorem HT {lk:Bool} {e s n:Nat} {g:Nat->V} (q b:Nat):A3 (Aaz m) [.xrow lk e s n g] q b↔q=0∧Ak (some m)=some b:=by
 constructor
 ·rintro ⟨bl,h1,h2⟩
  cases q with
  | zero =>simp at h1;subst h1;exact ⟨rfl,h2⟩
  | succ q=>simp at h1
 ·rintro ⟨rfl,h1⟩
  exact ⟨_,rfl,h1⟩
theorem I6 (hh:h[id]? = some (.jag j)) (hk:κ id=some (.tuple #[c,.agg ms])) (hm:ms[i]? = some m) (b:Nat) (hb:Ak (some m)=some b):A3 κ h id b :=
 (Aq hh).2 (by rw [hk]; exact BU hm hb)
theorem Good.oneM {lk:Bool} {g0:Nat->V} (hg:Good κ S h w) (hh:h[id]? = some (.jag j)) (hk:κ id=some (.tuple #[c,.agg ms])) (hm:ms[i]? = some m) (hsl:∃ a n cap,m = .slice a n cap) (hl:j.live i=true) (h0:∀ k,k<j.len i->g0 k=j.mem i k) :
  Good (Aaz m) S [.xrow lk j.e' j.s' (j.len i) g0] w:=by
 obtain ⟨c1,ms1,xs,hk1,hj⟩:=Cd (st:=⟨[],h⟩) hg hh;rw [hk] at hk1;obtain ⟨rfl,rfl⟩:=AC hk1;have hin:i<j.n:=by
  obtain ⟨_,_,_,rfl⟩:=hsl;exact hj.ltS hm
 obtain ⟨_,ys,ho,he⟩:=hj.mem hm hin hl;refine ⟨λq b hq=>?_,λp q k hpq hp hq=>?_,λb hb=>⟨(hg.out b hb).1,λq hq=>?_⟩,λq hq=>?_⟩
 ·cases q with
  | zero =>simp at hq;subst hq;exact ⟨hj.2.1,m,ys,rfl,ho,λk hk=>by rw [h0 k hk]; exact he k hk⟩
  | succ q=>simp at hq
 ·have h1:=((HT p k).1 hp).1
  have h2:=((HT q k).1 hq).1;omega
 ·exact (hg.out b hb).2 id (I6 hh hk hm b ((HT q b).1 hq).2)
 ·have hq:1 <= q:=hq
  unfold Aaz;rw [if_neg (by omega)]
theorem J6 {g':Nat->V} (hg:Good κ S h w) (hh:h[id]? = some (.jag j)) (hk:κ id=some (.tuple #[c,.agg ms])) (hm:ms[i]? = some m) (hsl:∃ a n cap,m = .slice a n cap) (hl:j.live i=true)
  (hkeep:∀ b,b<w.heap.size->¬ Ak (some m)=some b->w'.heap[b]? = w.heap[b]?) {ys:List Value} (ho:w'.ownsRow 0 j.e' j.s' m (j.len i) ys) (he:CS S w' j.s' (j.len i) g' ys) :
  A7 S w' κ (κ id) (.jag { j with mem:=Dz j.mem i g' }):=by
 obtain ⟨c1,ms1,xs,hk1,hj⟩:=Cd (st:=⟨[],h⟩) hg hh;rw [hk] at hk1;obtain ⟨rfl,rfl⟩:=AC hk1;have hin:i<j.n:=by
  obtain ⟨_,_,_,rfl⟩:=hsl;exact hj.ltS hm
 obtain ⟨hx,_⟩:=hj.mem hm hin hl;obtain ⟨g1,g2,g3,g4,g5,g6,g7,g8,g9⟩:=hj;have hS:∀ b,S b->S b∧w'.heap[b]? = w.heap[b]?:=λb hb=>⟨hb,hkeep b (hg.out b hb).1 λhb'=>(hg.out b hb).2 id (I6 hh hk hm b hb')⟩;refine ⟨c,ms,xs,hk,g1,g2,g3,g4,BQ g5 λg hgc=>hkeep g (GQ g5 hgc) λhb'=>(g9 i m g hm hb').1 hgc,g6,NK.mono (j:=j) g7 hS,λi' m' hm'=>?_,g9⟩;by_cases hi:i'=i
 ·subst hi
  rw [hm] at hm';cases hm';refine .inl ⟨hin,?_⟩;unfold HF;show match j.live i' with
   | true=>xs[i' * j.size+j.off]? = some m∧∃ ys,w'.ownsRow 0 j.e' j.s' m (j.len i') ys∧CS S w' j.s' (j.len i') (Dz j.mem i' g' i') ys
   | false=>m = .slice none 0 0
  rw [hl,G7];exact ⟨hx,ys,ho,he⟩
 ·have hb:∀ g,Ak (some m')=some g->w'.heap[g]? = w.heap[g]?:=λg hgc=>hkeep g (hg.lt (I6 hh hk hm' g hgc)) λhb'=>(g9 i m g hm hb').2 i' m' hi hm' hgc
  rcases g8 i' m' hm' with ⟨hkn,h8⟩ | ⟨q,k,h81,rfl,h8⟩
  ·exact .inl ⟨hkn,h8.re hS hb rfl rfl rfl rfl rfl rfl (JM hi) rfl⟩
  ·exact .inr ⟨q,k,h81,rfl,h8.mono hb⟩
theorem Good.backM {j':Jag} (hg:Good κ S h w) (hh:h[id]? = some (.jag j)) (hk:κ id=some (.tuple #[c,.agg ms])) (hm:ms[i]? = some m) (hsz:w.heap.size <= w'.heap.size)
  (hkeep:∀ b,b<w.heap.size->¬ Ak (some m)=some b->w'.heap[b]? = w.heap[b]?) (hB:A7 S w' κ (κ id) (.jag j')):Good κ S (h.set id (.jag j')) w' :=
 (hg.upd' (b':=.jag j') hh (λ_ hk=>hk) (λk hkk hlt=>hkeep k hlt λq=>hkk (by rw [hk]; exact BU hm q)) hsz hB).1
theorem Ext.backM {j':Jag} (hg:Good κ S h w) (hh:h[id]? = some (.jag j)) (hk:κ id=some (.tuple #[c,.agg ms])) (hm:ms[i]? = some m) (hos:w'.os=w.os) (htape:w'.tape=w.tape) (hout:w'.output=w.output) (hsz:w.heap.size <= w'.heap.size)
  (hkeep:∀ b,b<w.heap.size->¬ Ak (some m)=some b->w'.heap[b]? = w.heap[b]?) (hB:A7 S w' κ (κ id) (.jag j')):Ext κ S h w κ S (h.set id (.jag j')) w' :=
 have hw:∀ k,¬ inBlk (κ id) k (.jag j)->k<w.heap.size->w'.heap[k]? = w.heap[k]?:=λk hkk hlt=>hkeep k hlt λq=>hkk (by rw [hk]; exact BU hm q)
 Ext.upd' hg hh rfl hw hsz hos htape hout (hg.upd' (b':=.jag j') hh (λ_ hk=>hk) hw hsz hB).2 (λ_ _ _ _ h=>by cases h) (λhf=>by rcases hf with ⟨_,_,_,_,hf⟩ | ⟨_,hf⟩ <;> cases hf)
end
section
variable {S:Nat->Prop} {w:World}
mutual
theorem Hx {S':Nat->Prop} {w':World}:∀ (v:V) (κ:Ai) (c:Value),MC v=true->VR S w v κ c->VR S' w' v κ c
 | .val _,_,_,_,hv=>hv
 | .str _,_,_,_,hv=>hv
 | .agg cs,_,_,hb,hv=>by
  obtain ⟨ca,e,hv⟩:=hv;exact ⟨ca,e,MI cs _ _ hb hv⟩
 | .tup cs,_,_,hb,hv=>by
  obtain ⟨ca,e,hv⟩:=hv;exact ⟨ca,e,MI cs _ _ hb hv⟩
 | .fn f cs,_,_,hb,hv=>by
  obtain ⟨ca,e,hv⟩:=hv;exact ⟨ca,e,MI cs _ _ hb hv⟩
 | .nilS,_,_,_,hv=>hv
 | .sl _ _ _,_,_,hb,_=>by cases hb
 | .slr _ _ _ _,_,_,hb,_=>by cases hb
 | .pp _,_,_,hb,_=>by cases hb
 | .ptr _ _,_,_,_,hv=>hv
 | .ref _,_,_,_,hv=>hv
 | .ept _ _ _ _,_,_,_,hv=>hv
 | .rct _ _,_,_,_,hv=>hv
 | .jref _,_,_,_,hv=>hv
 | .jept _ _ _ _,_,_,_,hv=>hv
 | .mref _ _,_,_,_,hv=>hv
 | .mmap _ _,_,_,_,hv=>hv
 | .anym,_,_,_,hv=>hv
 | .mept _ _ _ _ _,_,_,_,hv=>hv
 | .und,_,_,_,_=>trivial
theorem MI {S':Nat->Prop} {w':World}:∀ (vs:List V) (κ:Ai) (l:List Value),MC.bares vs=true->VRs S w vs κ l->VRs S' w' vs κ l
 | [],_,_,_,hv=>hv
 | v::vs,_,_,hb,hv=>by
  simp only [MC.bares] at hb;split at hb
  ·rename_i hbv
   obtain ⟨x,l',e,h1,h2⟩:=hv;exact ⟨x,l',e,Hx v _ _ hbv h1,MI vs _ _ hb h2⟩
  ·cases hb
end
end
section
variable {S:Nat->Prop} {w:World} {κ κ':Ai} {n:Nat}
mutual
theorem Rq (hk:∀ i,i<n->κ' i=κ i):∀ (v:V) (c:Value),QY n v=true->VR S w v κ c->VR S w v κ' c
 | .val _,_,_,hv=>hv
 | .str _,_,_,hv=>hv
 | .agg cs,_,hb,hv=>by
  obtain ⟨ca,e,hv⟩:=hv;exact ⟨ca,e,IY hk cs _ hb hv⟩
 | .tup cs,_,hb,hv=>by
  obtain ⟨ca,e,hv⟩:=hv;exact ⟨ca,e,IY hk cs _ hb hv⟩
 | .fn f cs,_,hb,hv=>by
  obtain ⟨ca,e,hv⟩:=hv;exact ⟨ca,e,IY hk cs _ hb hv⟩
 | .nilS,_,_,hv=>hv
 | .sl _ _ _,_,_,hv=>hv
 | .slr _ _ _ _,_,_,hv=>hv
 | .pp _,_,_,hv=>hv
 | .ptr id _,_,hb,hv=>by
  obtain ⟨g,h1,h2⟩:=hv;exact ⟨g,by rw [hk id (Nat.blt_eq ▸ hb)]; exact h1,h2⟩
 | .ref id,_,hb,hv=>⟨by rw [hk id (Nat.blt_eq ▸ hb)]; exact hv.1,hv.2⟩
 | .ept id _ _ _,_,hb,hv=>by
  obtain ⟨g,m,cap,h1,h2⟩:=hv;exact ⟨g,m,cap,by rw [hk id (Nat.blt_eq ▸ hb)]; exact h1,h2⟩
 | .rct id _,_,hb,hv=>by
  obtain ⟨g,m,cap,h1,h2⟩:=hv;exact ⟨g,m,cap,by rw [hk id (Nat.blt_eq ▸ hb)]; exact h1,h2⟩
 | .jref id,_,hb,hv=>by
  obtain ⟨ms,h1,h2⟩:=hv;exact ⟨ms,by rw [hk id (Nat.blt_eq ▸ hb)]; exact h1,h2⟩
 | .jept id _ _ _,_,hb,hv=>by
  obtain ⟨g,m,cap,ms,h1,h2⟩:=hv;exact ⟨g,m,cap,ms,by rw [hk id (Nat.blt_eq ▸ hb)]; exact h1,h2⟩
 | .anym,_,_,hv=>hv
 | .mmap id _,_,hb,hv=>by
  obtain ⟨o,ms,h1,h2⟩:=hv;exact ⟨o,ms,by rw [hk id (Nat.blt_eq ▸ hb)]; exact h1,h2⟩
 | .mref id _,_,hb,hv=>by
  obtain ⟨o,ms,h1,h2⟩:=hv;exact ⟨o,ms,by rw [hk id (Nat.blt_eq ▸ hb)]; exact h1,h2⟩
 | .mept id _ _ _ _,_,hb,hv=>by
  obtain ⟨o,ms,g,m,cap,h1,h2⟩:=hv;exact ⟨o,ms,g,m,cap,by rw [hk id (Nat.blt_eq ▸ hb)]; exact h1,h2⟩
 | .und,_,_,_=>trivial
theorem IY (hk:∀ i,i<n->κ' i=κ i):∀ (vs:List V) (l:List Value),QY.belows n vs=true->VRs S w vs κ l->VRs S w vs κ' l
 | [],_,_,hv=>hv
 | v::vs,_,hb,hv=>by
  simp only [QY.belows] at hb;split at hb
  ·rename_i hbv
   obtain ⟨x,l',e,h1,h2⟩:=hv;exact ⟨x,l',e,Rq hk v _ hbv h1,IY hk vs _ hb h2⟩
  ·cases hb
end
end
theorem CN:∀ h:List Blk,(GP h).length=h.length
 | []=>rfl
 | _::l=>by rw [GP,List.length_cons,CN l,List.length_cons]
theorem PH:∀ (h:List Blk) (i:Nat),i<h.length->(GP h)[i]? = some (.saved Vo)
 | [],i,hi=>absurd hi (Nat.not_lt_zero _)
 | _::l,0,_=>rfl
 | _::l,i+1,hi=>by
  show (GP l)[i]? = _;exact PH l i (by simpa using hi)
theorem AdP {vs:List V} (h:LZ vs=true):vs=Vo:=by
 unfold LZ at h;split at h
 ·rfl
 ·cases h
theorem Oq:∀ (h h':List Blk),MF h h'=true->∀ i,i<h.length->h'[i]? = some (.saved Vo)
 | [],_,_,i,hi=>absurd hi (Nat.not_lt_zero _)
 | _::l,[],hp,_,_=>by cases hp
 | _::l,b::h',hp,i,hi=>by
  cases b with
  | saved vs =>
   simp only [MF] at hp;split at hp
   ·rename_i hv
    cases i with
    | zero=>rw [AdP hv]; rfl
    | succ i=>exact Oq l h' hp i (by simpa using hi)
   ·cases hp
  | _=>cases hp
section
variable {S S':Nat->Prop} {w w':World} {κ κ':Ai} {h h':List Blk} {c:Value} {e s n:Nat} {g:Nat->V}
theorem I5 (i b:Nat):A3 (AZ κ h.length c) (GP h++[.xrow true e s n g]) i b↔i=h.length∧Ak (some c)=some b:=by
 rcases Nat.lt_trichotomy i h.length with hl | rfl | hl
 ·rw [Aq (b:=.saved Vo) (by rw [List.getElem?_append_left (by rw [CN]; exact hl)]; exact PH h i hl)]
  exact ⟨λh=>h.elim,λh=>absurd h.1 (by omega)⟩
 ·rw [Aq (b:=.xrow true e s n g) (by rw [List.getElem?_append_right (by rw [CN]; exact Nat.le_refl _),CN,Nat.sub_self]; rfl)]
  have:AZ κ h.length c h.length=some c:=by simp [AZ]
  rw [this];exact ⟨λh=>⟨rfl,h⟩,λh=>h.2⟩
 ·exact ⟨λhh=>absurd hh (D9 (List.getElem?_eq_none (by simp [CN]; omega))),λh=>absurd h.1 (by omega)⟩
theorem Good.pin (hg:Good κ S h w) {id:Nat} (hown:∀ b,Ak (some c)=some b->A3 κ h id b) (hB:A7 S w (AZ κ h.length c) (some c) (.xrow true e s n g)):Good (AZ κ h.length c) S (GP h++[.xrow true e s n g]) w:=by
 refine ⟨λi b hi=>?_,λi j k hij hi hj=>?_,λb hb=>⟨(hg.out b hb).1,λi hi=>?_⟩,λi hi=>?_⟩
 ·rcases Nat.lt_trichotomy i h.length with hl | rfl | hl
  ·rw [List.getElem?_append_left (by rw [CN]; exact hl),PH h i hl] at hi
   cases hi;exact .inl rfl
  ·rw [List.getElem?_append_right (by rw [CN]; exact Nat.le_refl _),CN,Nat.sub_self] at hi
   cases hi;rw [show AZ κ h.length c h.length=some c by simp [AZ]];exact hB
  ·rw [List.getElem?_eq_none (by simp [CN]; omega)] at hi
   cases hi
 ·have h1:=((I5 i k).1 hi).1
  have h2:=((I5 j k).1 hj).1;omega
 ·exact (hg.out b hb).2 id (hown b ((I5 i b).1 hi).2)
 ·unfold AZ
  have hi:(GP h++[Blk.xrow true e s n g]).length <= i:=hi;rw [List.length_append,CN] at hi;have hi:h.length+1 <= i:=hi;rw [if_neg (by omega)];exact hg.dom i (by omega)
theorem Ahz (hk:∀ i,i<h.length->κ' i=κ i) (v:V) (c:Value) (hv:VR S' w' v κ' c):VR S w (AdH h.length v) κ c:=by
 unfold AdH;split
 ·rename_i hb hl
  exact Hx _ _ _ hb (Rq (λi hi=>(hk i hi).symm) v c hl hv)
 ·trivial
theorem W5 (hk:∀ i,i<h.length->κ' i=κ i):∀ (vs:List V) (l:List Value),VRs S' w' vs κ' l->VRs S w (Uc h.length vs) κ l
 | [],_,hv=>hv
 | v::vs,_,hv=>by
  obtain ⟨x,l',e,h1,h2⟩:=hv;exact ⟨x,l',e,Ahz hk v _ h1,W5 hk vs _ h2⟩
theorem VD {κ0:Ai} {h0:List Blk} {m:Value} {xs:List Value} (hx:Ext κ0 S h0 w κ' S' h' w') (r2:w.ownsRow 0 e s m n xs) (hsafe:∀ k cap,m = .slice (some ⟨k,0,none⟩) n cap->WA κ0 h0 w k (n * s)):w'.ownsRow 0 e s m n xs:=by
 refine ⟨r2.1,?_⟩;rcases r2.2 with hnil | ⟨k,cap,cur,rfl,k0,k1,k2,k3,k4,k5⟩
 ·exact .inl hnil
 ·obtain ⟨cur',p1,p2,p3⟩:=(hx.pre k (n * s) (hsafe k cap rfl)).2 cur e (0,0) k1
  refine .inr ⟨k,cap,cur',rfl,k0,p1,k2,k3,by rw [p2,k4],?_⟩;rw [<- k5];apply List.ext_getElem?;intro j;rw [List.getElem?_take,List.getElem?_take];split
  ·rename_i hj
   rw [Array.getElem?_toList,Array.getElem?_toList];exact p3 j hj
  ·rfl
theorem AaG {v:V} (hg:Good κ S h w) (hv:VR S w v κ c) (hl:(Zd h v).sem=some (e,s,n,g)) :
  Good (AZ κ h.length c) S (GP h++[.xrow true e s n g]) w∧(∃ a m cap,c = .slice a m cap)∧∀ κ' S' h' w',Ext (AZ κ h.length c) S (GP h++[.xrow true e s n g]) w κ' S' h' w'->Good κ S h w'∧Ext κ S h w κ S h w':=by
 unfold Zd at hl;split at hl
 ·rename_i id
  split at hl
  ·rename_i e' s' n' g' hh
   have:=Aa hl;simp only [Prod.mk.injEq] at this;obtain ⟨rfl,rfl,rfl,rfl⟩:=this;obtain ⟨hc,hsl⟩:=hv;obtain ⟨r0,c',xs,r1,r2,r3⟩:=hg.blk id _ hh;rw [hc] at r1;cases r1;have hown:∀ b,Ak (some c)=some b->A3 κ h id b:=λb hb=>(Aq hh).2 (by rw [hc]; exact hb);have hslice:∃ a m cap,c = .slice a m cap:=by
    rcases hsl with hs | ⟨b,rfl⟩ | ⟨b,rfl⟩
    ·exact hs
    all_goals rcases r2.2 with ⟨h1,_⟩ | ⟨_,_,_,h1,_⟩ <;> cases h1
   refine ⟨hg.pin hown ⟨r0,c,xs,rfl,r2,r3⟩,hslice,λκ' S' h' w' hx=>?_⟩;have hkeep:∀ b,b<w.heap.size->¬ A3 κ h id b->w'.heap[b]? = w.heap[b]?:=λb hb hne=>hx.keep b hb λi hi=>hne (hown b ((I5 i b).1 hi).2);have hS:∀ b,S b->S b∧w'.heap[b]? = w.heap[b]?:=λb hb=>⟨hb,hkeep b (hg.out b hb).1 ((hg.out b hb).2 id)⟩;have hset:h.set id (.row e s n g)=h:=by
    have hl:=(List.getElem?_eq_some_iff.1 hh).1;have:=(List.getElem?_eq_some_iff.1 hh).2;rw [<- this,List.set_getElem_self]
   have hB:A7 S w' κ (κ id) (.row e s n g):=⟨r0,c,xs,hc,VD hx r2 λk cap hk=>⟨hg.lt (hown k (by rw [hk]; rfl)),λi hi=>by
    have:=((I5 i k).1 hi).1;subst this;exact ⟨e,s,n,g,by rw [List.getElem?_append_right (by rw [CN]; exact Nat.le_refl _),CN,Nat.sub_self]; rfl,Nat.le_refl _⟩⟩,r3.mono hS⟩
   have hgood:=hg.back (g':=g) hh hx.size hkeep hB;have hext:=Ext.back (S:=S) (g':=g) hg hh hx.os hx.tape hx.output hx.size hkeep hB;rw [hset] at hgood hext;exact ⟨hgood,hext⟩
  ·cases hl
 ·rename_i id i
  split at hl
  ·rename_i j hh
   obtain ⟨hlv,hl⟩:=Ab hl;have:=Aa hl;simp only [Prod.mk.injEq] at this;obtain ⟨rfl,rfl,rfl,rfl⟩:=this;obtain ⟨o,ms,hk,hm0,hsl⟩:=hv;have hown:∀ b,Ak (some c)=some b->A3 κ h id b:=I6 hh hk hm0;have hg1:=hg.oneM (lk:=true) hh hk hm0 hsl hlv λ_ _=>rfl;obtain ⟨r0,c',xs,r1,r2,r3⟩:=hg1.blk 0 _ rfl;cases r1;refine ⟨hg.pin hown ⟨r0,c,xs,rfl,r2,r3⟩,hsl,λκ' S' h' w' hx=>?_⟩;have hkeep:∀ b,b<w.heap.size->¬ Ak (some c)=some b->w'.heap[b]? = w.heap[b]?:=λb hb hne=>hx.keep b hb λi hi=>hne ((I5 i b).1 hi).2;have hS:∀ b,S b->S b∧w'.heap[b]? = w.heap[b]?:=λb hb=>⟨hb,hkeep b (hg.out b hb).1 λq=>(hg.out b hb).2 id (I6 hh hk hm0 b q)⟩;have hset:h.set id (.jag { j with mem:=Dz j.mem i (j.mem i) })=h:=by
    have hl:=(List.getElem?_eq_some_iff.1 hh).1;have:=(List.getElem?_eq_some_iff.1 hh).2;have e:Dz j.mem i (j.mem i)=j.mem:=by
     funext k;by_cases hki:k=i
     ·rw [hki,G7]
     ·rw [JM hki]
    rw [e];show h.set id (.jag j)=h;rw [<- this,List.set_getElem_self]
   have hB:=J6 (w':=w') (g':=j.mem i) (ys:=xs) hg hh hk hm0 hsl hlv hkeep (VD hx r2 λk cap hk'=>⟨hg.lt (hown k (by rw [hk']; rfl)),λq hq=>by
    have:=((I5 q k).1 hq).1;subst this;exact ⟨_,_,_,_,by rw [List.getElem?_append_right (by rw [CN]; exact Nat.le_refl _),CN,Nat.sub_self]; rfl,Nat.le_refl _⟩⟩) (r3.mono hS)
   have hgood:=hg.backM hh hk hm0 hx.size hkeep hB;have hext:=Ext.backM (S:=S) hg hh hk hm0 hx.os hx.tape hx.output hx.size hkeep hB;rw [hset] at hgood hext;exact ⟨hgood,hext⟩
  ·cases hl
 ·cases hl
end
end Go.Sy
