/-
  A loop that appends to one row of the call's own and writes no other memory: behind it all is as it was. No conditions.
-/
import Derived.Test.YtkbafjceglhjhaaGreatDoorSyNb
import Derived.LoopN
namespace Go.Sy
section
variable {S:Nat->Prop} {w w':World} {κ:Ax} {h:List Blk}
def AlP (κ:Ax) (id:Nat):Ax:=λi=>if i=0 then κ id else none
theorem S3 {lk:Bool} {id e s n:Nat} {g g':Nat->V} (hh:h[id]? = some (.row e s n g)) (i b:Nat):AL (AlP κ id) [.xrow lk e s n g'] i b↔i=0∧AL κ h id b:=by
 rw [Az hh];constructor
 ·rintro ⟨bl,h1,h2⟩
  cases i with
  | zero =>simp at h1;subst h1;exact ⟨rfl,h2⟩
  | succ i=>simp at h1
 ·rintro ⟨rfl,h1⟩
  exact ⟨_,rfl,h1⟩
theorem Good.one {lk:Bool} {id e s n:Nat} {g g0:Nat->V} (hg:Good κ S h w) (hh:h[id]? = some (.row e s n g)) (h0:∀ i,i<n->g0 i=g i):Good (AlP κ id) S [.xrow lk e s n g0] w:=by
 refine ⟨λi b hi=>?_,λi j k hij hi hj=>?_,λb hb=>⟨(hg.out b hb).1,λi hi=>?_⟩,λi hi=>?_⟩
 ·cases i with
  | zero =>simp at hi;subst hi;obtain ⟨r0,cc,xs,r1,r2,r3⟩:=hg.blk id _ hh;exact ⟨r0,cc,xs,r1,r2,λi hi=>by rw [h0 i hi]; exact r3 i hi⟩
  | succ i=>simp at hi
 ·have h1:=((S3 hh i k).1 hi).1
  have h2:=((S3 hh j k).1 hj).1;omega
 ·exact (hg.out b hb).2 id ((S3 hh i b).1 hi).2
 ·have hi:1 <= i:=hi
  unfold AlP;rw [if_neg (by omega)]
theorem Good.back {id e s n:Nat} {g g':Nat->V} (hg:Good κ S h w) (hh:h[id]? = some (.row e s n g)) (hsz:w.heap.size <= w'.heap.size)
  (hkeep:∀ b,b<w.heap.size->¬ AL κ h id b->w'.heap[b]? = w.heap[b]?) (hB:AY S w' κ (κ id) (.row e s n g')):Good κ S (h.set id (.row e s n g')) w' :=
 (hg.upd' (b':=.row e s n g') hh (λ_ hk=>hk) (λk hk hlt=>hkeep k hlt λq=>hk ((Az hh).1 q)) hsz hB).1
theorem Ext.back {id e s n:Nat} {g g':Nat->V} (hg:Good κ S h w) (hh:h[id]? = some (.row e s n g)) (hos:w'.os=w.os) (htape:w'.tape=w.tape) (hout:w'.output=w.output) (hsz:w.heap.size <= w'.heap.size)
  (hkeep:∀ b,b<w.heap.size->¬ AL κ h id b->w'.heap[b]? = w.heap[b]?) (hB:AY S w' κ (κ id) (.row e s n g')):Ext κ S h w κ S (h.set id (.row e s n g')) w' :=
 Ext.upd' hg hh rfl (λk hk hlt=>hkeep k hlt λq=>hk ((Az hh).1 q)) hsz hos htape hout
  (hg.upd' (b':=.row e s n g') hh (λ_ hk=>hk) (λk hk hlt=>hkeep k hlt λq=>hk ((Az hh).1 q)) hsz hB).2 (λ_ _ _ _ h=>by cases h) (λhf=>absurd hf (notFixed (b:=.row e s n g') trivial (λ_ _ _ _ h=>by cases h)))
end
def AlO (m:Value):Ax:=λi=>if i=0 then some m else none
section
variable {S:Nat->Prop} {w w':World} {κ:Ax} {h:List Blk} {id i:Nat} {j:Jag} {c m:Value} {ms:Array Value}
theorem OB {lk:Bool} {e s n:Nat} {g:Nat->V} (q b:Nat):AL (AlO m) [.xrow lk e s n g] q b↔q=0∧Ar (some m)=some b:=by
 constructor
 ·rintro ⟨bl,h1,h2⟩
  cases q with
  | zero =>simp at h1;subst h1;exact ⟨rfl,h2⟩
  | succ q=>simp at h1
 ·rintro ⟨rfl,h1⟩
  exact ⟨_,rfl,h1⟩
theorem Lc (hh:h[id]? = some (.jag j)) (hk:κ id=some (.tuple #[c,.agg ms])) (hm:ms[i]? = some m) (b:Nat) (hb:Ar (some m)=some b):AL κ h id b :=
 (Az hh).2 (by rw [hk]; exact Ch hm hb)
theorem Good.oneM {lk:Bool} {g0:Nat->V} (hg:Good κ S h w) (hh:h[id]? = some (.jag j)) (hk:κ id=some (.tuple #[c,.agg ms])) (hm:ms[i]? = some m) (hsl:∃ a n cap,m = .slice a n cap) (hl:j.live i=true) (h0:∀ k,k<j.len i->g0 k=j.mem i k) :
  Good (AlO m) S [.xrow lk j.e' j.s' (j.len i) g0] w:=by
 obtain ⟨c1,ms1,xs,hk1,hj⟩:=Cp (st:=⟨[],h⟩) hg hh;rw [hk] at hk1;obtain ⟨rfl,rfl⟩:=AP hk1;have hin:i<j.n:=by
  obtain ⟨_,_,_,rfl⟩:=hsl;exact hj.ltS hm
 obtain ⟨_,ys,ho,he⟩:=hj.mem hm hin hl;refine ⟨λq b hq=>?_,λp q k hpq hp hq=>?_,λb hb=>⟨(hg.out b hb).1,λq hq=>?_⟩,λq hq=>?_⟩
 ·cases q with
  | zero =>simp at hq;subst hq;exact ⟨hj.2.1,m,ys,rfl,ho,λk hk=>by rw [h0 k hk]; exact he k hk⟩
  | succ q=>simp at hq
 ·have h1:=((OB p k).1 hp).1
  have h2:=((OB q k).1 hq).1;omega
 ·exact (hg.out b hb).2 id (Lc hh hk hm b ((OB q b).1 hq).2)
 ·have hq:1 <= q:=hq
  unfold AlO;rw [if_neg (by omega)]
theorem Vh {g':Nat->V} (hg:Good κ S h w) (hh:h[id]? = some (.jag j)) (hk:κ id=some (.tuple #[c,.agg ms])) (hm:ms[i]? = some m) (hsl:∃ a n cap,m = .slice a n cap) (hl:j.live i=true)
  (hkeep:∀ b,b<w.heap.size->¬ Ar (some m)=some b->w'.heap[b]? = w.heap[b]?) {ys:List Value} (ho:w'.ownsRow 0 j.e' j.s' m (j.len i) ys) (he:CP S w' j.s' (j.len i) g' ys) :
  AY S w' κ (κ id) (.jag { j with mem:=Dn j.mem i g' }):=by
 obtain ⟨c1,ms1,xs,hk1,hj⟩:=Cp (st:=⟨[],h⟩) hg hh;rw [hk] at hk1;obtain ⟨rfl,rfl⟩:=AP hk1;have hin:i<j.n:=by
  obtain ⟨_,_,_,rfl⟩:=hsl;exact hj.ltS hm
 obtain ⟨hx,_⟩:=hj.mem hm hin hl;obtain ⟨g1,g2,g3,g4,g5,g6,g7,g8,g9⟩:=hj;have hS:∀ b,S b->S b∧w'.heap[b]? = w.heap[b]?:=λb hb=>⟨hb,hkeep b (hg.out b hb).1 λhb'=>(hg.out b hb).2 id (Lc hh hk hm b hb')⟩;refine ⟨c,ms,xs,hk,g1,g2,g3,g4,Ce g5 λg hgc=>hkeep g (G2 g5 hgc) λhb'=>(g9 i m g hm hb').1 hgc,g6,ML.mono (j:=j) g7 hS,λi' m' hm'=>?_,g9⟩;by_cases hi:i'=i
 ·subst hi
  rw [hm] at hm';cases hm';refine .inl ⟨hin,?_⟩;unfold Hz;show match j.live i' with
   | true=>xs[i' * j.size+j.off]? = some m∧∃ ys,w'.ownsRow 0 j.e' j.s' m (j.len i') ys∧CP S w' j.s' (j.len i') (Dn j.mem i' g' i') ys
   | false=>m = .slice none 0 0
  rw [hl,H8];exact ⟨hx,ys,ho,he⟩
 ·have hb:∀ g,Ar (some m')=some g->w'.heap[g]? = w.heap[g]?:=λg hgc=>hkeep g (hg.lt (Lc hh hk hm' g hgc)) λhb'=>(g9 i m g hm hb').2 i' m' hi hm' hgc
  rcases g8 i' m' hm' with ⟨hkn,h8⟩ | ⟨q,k,h81,rfl,h8⟩
  ·exact .inl ⟨hkn,h8.re hS hb rfl rfl rfl rfl rfl rfl (KU hi) rfl⟩
  ·exact .inr ⟨q,k,h81,rfl,h8.mono hb⟩
theorem Good.backM {j':Jag} (hg:Good κ S h w) (hh:h[id]? = some (.jag j)) (hk:κ id=some (.tuple #[c,.agg ms])) (hm:ms[i]? = some m) (hsz:w.heap.size <= w'.heap.size)
  (hkeep:∀ b,b<w.heap.size->¬ Ar (some m)=some b->w'.heap[b]? = w.heap[b]?) (hB:AY S w' κ (κ id) (.jag j')):Good κ S (h.set id (.jag j')) w' :=
 (hg.upd' (b':=.jag j') hh (λ_ hk=>hk) (λk hkk hlt=>hkeep k hlt λq=>hkk (by rw [hk]; exact Ch hm q)) hsz hB).1
theorem Ext.backM {j':Jag} (hg:Good κ S h w) (hh:h[id]? = some (.jag j)) (hk:κ id=some (.tuple #[c,.agg ms])) (hm:ms[i]? = some m) (hos:w'.os=w.os) (htape:w'.tape=w.tape) (hout:w'.output=w.output) (hsz:w.heap.size <= w'.heap.size)
  (hkeep:∀ b,b<w.heap.size->¬ Ar (some m)=some b->w'.heap[b]? = w.heap[b]?) (hB:AY S w' κ (κ id) (.jag j')):Ext κ S h w κ S (h.set id (.jag j')) w' :=
 have hw:∀ k,¬ inBlk (κ id) k (.jag j)->k<w.heap.size->w'.heap[k]? = w.heap[k]?:=λk hkk hlt=>hkeep k hlt λq=>hkk (by rw [hk]; exact Ch hm q)
 Ext.upd' hg hh rfl hw hsz hos htape hout (hg.upd' (b':=.jag j') hh (λ_ hk=>hk) hw hsz hB).2 (λ_ _ _ _ h=>by cases h) (λhf=>by rcases hf with ⟨_,_,_,_,hf⟩ | ⟨_,hf⟩ <;> cases hf)
end
section
variable {S:Nat->Prop} {w:World}
mutual
theorem JO {S':Nat->Prop} {w':World}:∀ (v:V) (κ:Ax) (c:Value),MJ v=true->VR S w v κ c->VR S' w' v κ c
 | .val _,_,_,_,hv=>hv
 | .str _,_,_,_,hv=>hv
 | .agg cs,_,_,hb,hv=>by
  obtain ⟨ca,e,hv⟩:=hv;exact ⟨ca,e,LX cs _ _ hb hv⟩
 | .tup cs,_,_,hb,hv=>by
  obtain ⟨ca,e,hv⟩:=hv;exact ⟨ca,e,LX cs _ _ hb hv⟩
 | .fn f cs,_,_,hb,hv=>by
  obtain ⟨ca,e,hv⟩:=hv;exact ⟨ca,e,LX cs _ _ hb hv⟩
 | .nilS,_,_,_,hv=>hv
 | .sl _ _ _,_,_,hb,_=>by cases hb
 | .slr _ _ _ _,_,_,hb,_=>by cases hb
 | .pp _,_,_,hb,_=>by cases hb
 | .ptr _ _,_,_,_,hv=>hv
 | .ref _,_,_,_,hv=>hv
 | .ept _ _ _ _,_,_,_,hv=>hv
 | .rct _ _,_,_,_,hv=>hv
 | .jref _,_,_,_,hv=>hv
 | .jept _ _ _ _,_,_,_,hv=>hv
 | .mref _ _,_,_,_,hv=>hv
 | .mmap _ _,_,_,_,hv=>hv
 | .anym,_,_,_,hv=>hv
 | .mept _ _ _ _ _,_,_,_,hv=>hv
 | .und,_,_,_,_=>trivial
theorem LX {S':Nat->Prop} {w':World}:∀ (vs:List V) (κ:Ax) (l:List Value),MJ.bares vs=true->VRs S w vs κ l->VRs S' w' vs κ l
 | [],_,_,_,hv=>hv
 | v::vs,_,_,hb,hv=>by
  simp only [MJ.bares] at hb;split at hb
  ·rename_i hbv
   obtain ⟨x,l',e,h1,h2⟩:=hv;exact ⟨x,l',e,JO v _ _ hbv h1,LX vs _ _ hb h2⟩
  ·cases hb
end
end
section
variable {S:Nat->Prop} {w:World} {κ κ':Ax} {n:Nat}
mutual
theorem Qe (hk:∀ i,i<n->κ' i=κ i):∀ (v:V) (c:Value),PO n v=true->VR S w v κ c->VR S w v κ' c
 | .val _,_,_,hv=>hv
 | .str _,_,_,hv=>hv
 | .agg cs,_,hb,hv=>by
  obtain ⟨ca,e,hv⟩:=hv;exact ⟨ca,e,IB hk cs _ hb hv⟩
 | .tup cs,_,hb,hv=>by
  obtain ⟨ca,e,hv⟩:=hv;exact ⟨ca,e,IB hk cs _ hb hv⟩
 | .fn f cs,_,hb,hv=>by
  obtain ⟨ca,e,hv⟩:=hv;exact ⟨ca,e,IB hk cs _ hb hv⟩
 | .nilS,_,_,hv=>hv
 | .sl _ _ _,_,_,hv=>hv
 | .slr _ _ _ _,_,_,hv=>hv
 | .pp _,_,_,hv=>hv
 | .ptr id _,_,hb,hv=>by
  obtain ⟨g,h1,h2⟩:=hv;exact ⟨g,by rw [hk id (Nat.blt_eq ▸ hb)]; exact h1,h2⟩
 | .ref id,_,hb,hv=>⟨by rw [hk id (Nat.blt_eq ▸ hb)]; exact hv.1,hv.2⟩
 | .ept id _ _ _,_,hb,hv=>by
  obtain ⟨g,m,cap,h1,h2⟩:=hv;exact ⟨g,m,cap,by rw [hk id (Nat.blt_eq ▸ hb)]; exact h1,h2⟩
 | .rct id _,_,hb,hv=>by
  obtain ⟨g,m,cap,h1,h2⟩:=hv;exact ⟨g,m,cap,by rw [hk id (Nat.blt_eq ▸ hb)]; exact h1,h2⟩
 | .jref id,_,hb,hv=>by
  obtain ⟨ms,h1,h2⟩:=hv;exact ⟨ms,by rw [hk id (Nat.blt_eq ▸ hb)]; exact h1,h2⟩
 | .jept id _ _ _,_,hb,hv=>by
  obtain ⟨g,m,cap,ms,h1,h2⟩:=hv;exact ⟨g,m,cap,ms,by rw [hk id (Nat.blt_eq ▸ hb)]; exact h1,h2⟩
 | .anym,_,_,hv=>hv
 | .mmap id _,_,hb,hv=>by
  obtain ⟨o,ms,h1,h2⟩:=hv;exact ⟨o,ms,by rw [hk id (Nat.blt_eq ▸ hb)]; exact h1,h2⟩
 | .mref id _,_,hb,hv=>by
  obtain ⟨o,ms,h1,h2⟩:=hv;exact ⟨o,ms,by rw [hk id (Nat.blt_eq ▸ hb)]; exact h1,h2⟩
 | .mept id _ _ _ _,_,hb,hv=>by
  obtain ⟨o,ms,g,m,cap,h1,h2⟩:=hv;exact ⟨o,ms,g,m,cap,by rw [hk id (Nat.blt_eq ▸ hb)]; exact h1,h2⟩
 | .und,_,_,_=>trivial
theorem IB (hk:∀ i,i<n->κ' i=κ i):∀ (vs:List V) (l:List Value),PO.belows n vs=true->VRs S w vs κ l->VRs S w vs κ' l
 | [],_,_,hv=>hv
 | v::vs,_,hb,hv=>by
  simp only [PO.belows] at hb;split at hb
  ·rename_i hbv
   obtain ⟨x,l',e,h1,h2⟩:=hv;exact ⟨x,l',e,Qe hk v _ hbv h1,IB hk vs _ hb h2⟩
  ·cases hb
end
end
theorem CO:∀ h:List Blk,(G1 h).length=h.length
 | []=>rfl
 | _::l=>by rw [G1,List.length_cons,CO l,List.length_cons]
theorem O2:∀ (h:List Blk) (i:Nat),i<h.length->(G1 h)[i]? = some (.saved C3)
 | [],i,hi=>absurd hi (Nat.not_lt_zero _)
 | _::l,0,_=>rfl
 | _::l,i+1,hi=>by
  show (G1 l)[i]? = _;exact O2 l i (by simpa using hi)
theorem AdB {vs:List V} (h:YJ vs=true):vs=C3:=by
 unfold YJ at h;split at h
 ·rfl
 ·cases h
theorem Nr:∀ (h h':List Blk),JL h h'=true->∀ i,i<h.length->h'[i]? = some (.saved C3)
 | [],_,_,i,hi=>absurd hi (Nat.not_lt_zero _)
 | _::l,[],hp,_,_=>by cases hp
 | _::l,b::h',hp,i,hi=>by
  cases b with
  | saved vs =>
   simp only [JL] at hp;split at hp
   ·rename_i hv
    cases i with
    | zero=>rw [AdB hv]; rfl
    | succ i=>exact Nr l h' hp i (by simpa using hi)
   ·cases hp
  | _=>cases hp
section
variable {S S':Nat->Prop} {w w':World} {κ κ':Ax} {h h':List Blk} {c:Value} {e s n:Nat} {g:Nat->V}
theorem Il (i b:Nat):AL (Bp κ h.length c) (G1 h++[.xrow true e s n g]) i b↔i=h.length∧Ar (some c)=some b:=by
 rcases Nat.lt_trichotomy i h.length with hl | rfl | hl
 ·rw [Az (b:=.saved C3) (by rw [List.getElem?_append_left (by rw [CO]; exact hl)]; exact O2 h i hl)]
  exact ⟨λh=>h.elim,λh=>absurd h.1 (by omega)⟩
 ·rw [Az (b:=.xrow true e s n g) (by rw [List.getElem?_append_right (by rw [CO]; exact Nat.le_refl _),CO,Nat.sub_self]; rfl)]
  have:Bp κ h.length c h.length=some c:=by simp [Bp]
  rw [this];exact ⟨λh=>⟨rfl,h⟩,λh=>h.2⟩
 ·exact ⟨λhh=>absurd hh (D2 (List.getElem?_eq_none (by simp [CO]; omega))),λh=>absurd h.1 (by omega)⟩
theorem Good.pin (hg:Good κ S h w) {id:Nat} (hown:∀ b,Ar (some c)=some b->AL κ h id b) (hB:AY S w (Bp κ h.length c) (some c) (.xrow true e s n g)):Good (Bp κ h.length c) S (G1 h++[.xrow true e s n g]) w:=by
 refine ⟨λi b hi=>?_,λi j k hij hi hj=>?_,λb hb=>⟨(hg.out b hb).1,λi hi=>?_⟩,λi hi=>?_⟩
 ·rcases Nat.lt_trichotomy i h.length with hl | rfl | hl
  ·rw [List.getElem?_append_left (by rw [CO]; exact hl),O2 h i hl] at hi
   cases hi;exact .inl rfl
  ·rw [List.getElem?_append_right (by rw [CO]; exact Nat.le_refl _),CO,Nat.sub_self] at hi
   cases hi;rw [show Bp κ h.length c h.length=some c by simp [Bp]];exact hB
  ·rw [List.getElem?_eq_none (by simp [CO]; omega)] at hi
   cases hi
 ·have h1:=((Il i k).1 hi).1
  have h2:=((Il j k).1 hj).1;omega
 ·exact (hg.out b hb).2 id (hown b ((Il i b).1 hi).2)
 ·unfold Bp
  have hi:(G1 h++[Blk.xrow true e s n g]).length <= i:=hi;rw [List.length_append,CO] at hi;have hi:h.length+1 <= i:=hi;rw [if_neg (by omega)];exact hg.dom i (by omega)
theorem Aib (hk:∀ i,i<h.length->κ' i=κ i) (v:V) (c:Value) (hv:VR S' w' v κ' c):VR S w (Ad4 h.length v) κ c:=by
 unfold Ad4;split
 ·rename_i hb hl
  exact JO _ _ _ hb (Qe (λi hi=>(hk i hi).symm) v c hl hv)
 ·trivial
theorem VK (hk:∀ i,i<h.length->κ' i=κ i):∀ (vs:List V) (l:List Value),VRs S' w' vs κ' l->VRs S w (Pe h.length vs) κ l
 | [],_,hv=>hv
 | v::vs,_,hv=>by
  obtain ⟨x,l',e,h1,h2⟩:=hv;exact ⟨x,l',e,Aib hk v _ h1,VK hk vs _ h2⟩
theorem US {κ0:Ax} {h0:List Blk} {m:Value} {xs:List Value} (hx:Ext κ0 S h0 w κ' S' h' w') (r2:w.ownsRow 0 e s m n xs) (hsafe:∀ k cap,m = .slice (some ⟨k,0,none⟩) n cap->AaV κ0 h0 w k (n * s)):w'.ownsRow 0 e s m n xs:=by
 refine ⟨r2.1,?_⟩;rcases r2.2 with hnil | ⟨k,cap,cur,rfl,k0,k1,k2,k3,k4,k5⟩
 ·exact .inl hnil
 ·obtain ⟨cur',p1,p2,p3⟩:=(hx.pre k (n * s) (hsafe k cap rfl)).2 cur e (0,0) k1
  refine .inr ⟨k,cap,cur',rfl,k0,p1,k2,k3,by rw [p2,k4],?_⟩;rw [<- k5];apply List.ext_getElem?;intro j;rw [List.getElem?_take,List.getElem?_take];split
  ·rename_i hj
   rw [Array.getElem?_toList,Array.getElem?_toList];exact p3 j hj
  ·rfl
theorem Aas {v:V} (hg:Good κ S h w) (hv:VR S w v κ c) (hl:(UO h v).sem=some (e,s,n,g)) :
  Good (Bp κ h.length c) S (G1 h++[.xrow true e s n g]) w∧(∃ a m cap,c = .slice a m cap)∧∀ κ' S' h' w',Ext (Bp κ h.length c) S (G1 h++[.xrow true e s n g]) w κ' S' h' w'->Good κ S h w'∧Ext κ S h w κ S h w':=by
 unfold UO at hl;split at hl
 ·rename_i id
  split at hl
  ·rename_i e' s' n' g' hh
   have:=Ab hl;simp only [Prod.mk.injEq] at this;obtain ⟨rfl,rfl,rfl,rfl⟩:=this;obtain ⟨hc,hsl⟩:=hv;obtain ⟨r0,c',xs,r1,r2,r3⟩:=hg.blk id _ hh;rw [hc] at r1;cases r1;have hown:∀ b,Ar (some c)=some b->AL κ h id b:=λb hb=>(Az hh).2 (by rw [hc]; exact hb);have hslice:∃ a m cap,c = .slice a m cap:=by
    rcases hsl with hs | ⟨b,rfl⟩
    ·exact hs
    ·rcases r2.2 with ⟨h1,_⟩ | ⟨_,_,_,h1,_⟩ <;> cases h1
   refine ⟨hg.pin hown ⟨r0,c,xs,rfl,r2,r3⟩,hslice,λκ' S' h' w' hx=>?_⟩;have hkeep:∀ b,b<w.heap.size->¬ AL κ h id b->w'.heap[b]? = w.heap[b]?:=λb hb hne=>hx.keep b hb λi hi=>hne (hown b ((Il i b).1 hi).2);have hS:∀ b,S b->S b∧w'.heap[b]? = w.heap[b]?:=λb hb=>⟨hb,hkeep b (hg.out b hb).1 ((hg.out b hb).2 id)⟩;have hset:h.set id (.row e s n g)=h:=by
    have hl:=(List.getElem?_eq_some_iff.1 hh).1;have:=(List.getElem?_eq_some_iff.1 hh).2;rw [<- this,List.set_getElem_self]
   have hB:AY S w' κ (κ id) (.row e s n g):=⟨r0,c,xs,hc,US hx r2 λk cap hk=>⟨hg.lt (hown k (by rw [hk]; rfl)),λi hi=>by
    have:=((Il i k).1 hi).1;subst this;exact ⟨e,s,n,g,by rw [List.getElem?_append_right (by rw [CO]; exact Nat.le_refl _),CO,Nat.sub_self]; rfl,Nat.le_refl _⟩⟩,r3.mono hS⟩
   have hgood:=hg.back (g':=g) hh hx.size hkeep hB;have hext:=Ext.back (S:=S) (g':=g) hg hh hx.os hx.tape hx.output hx.size hkeep hB;rw [hset] at hgood hext;exact ⟨hgood,hext⟩
  ·cases hl
 ·rename_i id i
  split at hl
  ·rename_i j hh
   obtain ⟨hlv,hl⟩:=Ac hl;have:=Ab hl;simp only [Prod.mk.injEq] at this;obtain ⟨rfl,rfl,rfl,rfl⟩:=this;obtain ⟨o,ms,hk,hm0,hsl⟩:=hv;have hown:∀ b,Ar (some c)=some b->AL κ h id b:=Lc hh hk hm0;have hg1:=hg.oneM (lk:=true) hh hk hm0 hsl hlv λ_ _=>rfl;obtain ⟨r0,c',xs,r1,r2,r3⟩:=hg1.blk 0 _ rfl;cases r1;refine ⟨hg.pin hown ⟨r0,c,xs,rfl,r2,r3⟩,hsl,λκ' S' h' w' hx=>?_⟩;have hkeep:∀ b,b<w.heap.size->¬ Ar (some c)=some b->w'.heap[b]? = w.heap[b]?:=λb hb hne=>hx.keep b hb λi hi=>hne ((Il i b).1 hi).2;have hS:∀ b,S b->S b∧w'.heap[b]? = w.heap[b]?:=λb hb=>⟨hb,hkeep b (hg.out b hb).1 λq=>(hg.out b hb).2 id (Lc hh hk hm0 b q)⟩;have hset:h.set id (.jag { j with mem:=Dn j.mem i (j.mem i) })=h:=by
    have hl:=(List.getElem?_eq_some_iff.1 hh).1;have:=(List.getElem?_eq_some_iff.1 hh).2;have e:Dn j.mem i (j.mem i)=j.mem:=by
     funext k;by_cases hki:k=i
     ·rw [hki,H8]
     ·rw [KU hki]
    rw [e];show h.set id (.jag j)=h;rw [<- this,List.set_getElem_self]
   have hB:=Vh (w':=w') (g':=j.mem i) (ys:=xs) hg hh hk hm0 hsl hlv hkeep (US hx r2 λk cap hk'=>⟨hg.lt (hown k (by rw [hk']; rfl)),λq hq=>by
    have:=((Il q k).1 hq).1;subst this;exact ⟨_,_,_,_,by rw [List.getElem?_append_right (by rw [CO]; exact Nat.le_refl _),CO,Nat.sub_self]; rfl,Nat.le_refl _⟩⟩) (r3.mono hS)
   have hgood:=hg.backM hh hk hm0 hx.size hkeep hB;have hext:=Ext.backM (S:=S) hg hh hk hm0 hx.os hx.tape hx.output hx.size hkeep hB;rw [hset] at hgood hext;exact ⟨hgood,hext⟩
  ·cases hl
 ·cases hl
end
end Go.Sy
namespace Go.Sy
section
variable {Γ:Cx0}
def LE (Γ:Cx0) (st st':St):Prop:=∀ κ S a w,Rel Γ κ S st a w->∃ κ' S',Rel Γ κ' S' st' a w∧Ext κ S st.h w κ' S' st'.h w
theorem LE.refl (st:St):LE Γ st st:=λκ S _ _ h=>⟨κ,S,h,Ext.refl _ _ _ _⟩
theorem LE.trans {st st' st'':St} (h:LE Γ st st') (h':LE Γ st' st''):LE Γ st st'':=λκ S a w hr=>by
 obtain ⟨κ1,S1,r1,e1⟩:=h κ S a w hr;obtain ⟨κ2,S2,r2,e2⟩:=h' κ1 S1 a w r1;exact ⟨κ2,S2,r2,e1.trans e2⟩
end
section
variable {S:Nat->Prop} {w:World} {κ κ':Ax} {n:Nat}
theorem Qc:∀ (ks:List Bool) (vs:List V) (l:List Value),VRs S w vs κ l->VRs S w (Yy ks vs) κ l
 | [],[],_,hv=>hv
 | [],_::_,_,hv=>hv
 | _::_,[],_,hv=>hv
 | b::ks,v::vs,_,hv=>by
  obtain ⟨x,l',e,h1,h2⟩:=hv;refine ⟨x,l',e,?_,Qc ks vs _ h2⟩;cases b
  ·trivial
  ·exact h1
theorem AaU (hk:∀ i,i<n->κ' i=κ i) (v:V) (c:Value) (h:VR S w v κ c):VR S w (Tk n v) κ' c:=by
 unfold Tk;split
 ·rename_i hb
  exact Qe hk v c hb h
 ·trivial
theorem IA (hk:∀ i,i<n->κ' i=κ i):∀ (vs:List V) (l:List Value),VRs S w vs κ l->VRs S w (CZ n vs) κ' l
 | [],_,h=>h
 | v::vs,_,h=>by
  obtain ⟨x,l',e,h1,h2⟩:=h;exact ⟨x,l',e,AaU hk v _ h1,IA hk vs _ h2⟩
theorem Iw:∀ (l:List Blk) (i:Nat),(Dx n l)[i]? = (l[i]?).map (Ix n)
 | [],i=>by simp [Dx]
 | b::l,0=>by simp [Dx]
 | b::l,i+1=>by simpa [Dx] using Iw l i
theorem Lq:∀ (l:List Blk),(Dx n l).length=l.length
 | []=>rfl
 | b::l=>by simp [Dx,Lq l]
end
theorem Qs {n g:Nat} {v:Option Value} {b:Blk}:inBlk v g (Ix n b)↔inBlk v g b:=by cases b <;> exact Iff.rfl
theorem Qu {n:Nat} {b:Blk}:Dh (Ix n b)->BS (Ix n b) b:=by
 cases b with
 | xrow lk e s n g=>exact λh=>BS.refl h
 | saved vs=>exact λ_=>⟨vs,rfl⟩
 | _=>intro h; rcases h with ⟨_,_,_,_,h⟩ | ⟨_,h⟩ <;> simp [Ix] at h
theorem Qg {Γ:Cx0} (ks:List Bool) (n:Nat) (st:St):LE Γ st (HN ks n st):=by
 intro κ S a w hr;have hk:∀ i,i<n->(λi=>if i<n then κ i else none) i=κ i:=λi hi=>by simp [hi]
 have hget:∀ (i:Nat) (bl:Blk),(Dx n (st.h.take n))[i]? = some bl->i<n∧∃ b0,st.h[i]? = some b0∧Ix n b0=bl:=by
  intro i bl h;rw [Iw,List.getElem?_take] at h;split at h
  ·rename_i hin
   rw [Option.map_eq_some_iff] at h;exact ⟨hin,h⟩
  ·cases h
 have hown:∀ i b,AL (λi=>if i<n then κ i else none) (Dx n (st.h.take n)) i b->AL κ st.h i b:=by
  rintro i b ⟨bl,q1,q2⟩
  obtain ⟨hi,b0,q3,rfl⟩:=hget i bl q1;refine ⟨b0,q3,?_⟩;rw [Qs] at q2;simpa [hi] using q2
 refine ⟨λi=>if i<n then κ i else none,S,⟨⟨?_,?_,?_,?_⟩,hr.env,IA hk _ _ (Qc ks _ _ hr.tmps),hr.defers⟩,
  ⟨rfl,rfl,rfl,Nat.le_refl _,λ_ _ _=>rfl,λi b hb=>.inl ⟨i,hown i b hb⟩,λ_ hb=>.inl hb,λ_ hb=>hb,
   Ko (Nat.le_refl _) (λ_ _ _=>rfl) (λi b hb _=>⟨i,hown i b hb,λe s m g hh=>⟨e,s,m,g,?_,Nat.le_refl _⟩⟩) (λ_ _ _ _ _ _ _ _=>E3.refl _ _ _),λi bl hi hf=>?_⟩⟩
 rotate_left 4
 ·obtain ⟨bl,q1,q2⟩:=hb
  obtain ⟨hi,b0,q3,q4⟩:=hget i bl q1;show (Dx n (st.h.take n))[i]? = _;rw [Iw,List.getElem?_take,if_pos hi,hh];rfl
 ·obtain ⟨hin,b0,q1,rfl⟩:=hget i bl hi
  exact ⟨if_pos hin,b0,q1,Qu hf⟩
 ·intro i b hi
  obtain ⟨hin,b0,q1,q2⟩:=hget i b hi;rw [if_pos hin];have:=hr.good.blk i b0 q1;cases b0 with
  | cells cs =>subst q2;obtain ⟨g,e,ca,p1,p2,p3⟩:=this;exact ⟨g,e,ca,p1,p2,IA hk cs _ p3⟩
  | saved vs =>
   subst q2;rcases this with rfl | ⟨l,p1,p3⟩
   ·exact .inl rfl
   ·exact .inr ⟨l,p1,IA hk vs _ p3⟩
  | row _ _ _ _=>subst q2; exact this
  | imap _ _ _=>subst q2; exact this
  | xrow _ _ _ _ _=>subst q2; exact this
  | jag _=>subst q2; exact this
  | dead=>subst q2; trivial
 ·intro i j g hij hi hj
  exact hr.good.sep i j g hij (hown i g hi) (hown j g hj)
 ·intro b hb
  exact ⟨(hr.good.out b hb).1,λi hi=>(hr.good.out b hb).2 i (hown i b hi)⟩
 ·intro i hi
  show (if i<n then κ i else none)=none
  split
  ·rename_i hin
   refine hr.good.dom i ?_;have hi:(Dx n (st.h.take n)).length <= i:=hi;rw [Lq,List.length_take] at hi;omega
  ·rfl
inductive LRun (Γ:Cx0) (f:St->T (Ex×St)):St->Ex×St->Prop where
 | stop {st st1 st2:St} {e:Ex}:(f st).sem=some (e,st1)->e ≠ .nm->LE Γ st1 st2->LRun Γ f st (e,st2)
 | next {st st1 st2:St} {r:Ex×St}:(f st).sem=some (.nm,st1)->LE Γ st1 st2->LRun Γ f st2 r->LRun Γ f st r
 | weak {st st1:St} {r:Ex×St}:LE Γ st st1->LRun Γ f st1 r->LRun Γ f st r
inductive LRunF (Γ:Cx0) (f:St->T (Ex×St)) (st:St):Ex×St->Prop where
 | run {r:Ex×St} (h:LRun Γ f st r):LRunF Γ f st r
 | lend {st1:St} {q:Nat} {p:Nat×Nat×Nat×(Nat->V)} {e:Ex} {st2:St} (hle:LE Γ st st1) (hp:(UO st1.h (nth st1.t q)).sem=some p) (h:LRun Γ f (O3 st1 q p) (e,st2)) (ha:JL st1.h st2.h=true) :
  LRunF Γ f st (e,⟨Pe st1.h.length st2.t,st1.h⟩)
abbrev Z1 (τ:List Ty) (Γ:Cx) (c:Code) (id:Nat):=LRun Γ.base λst=>AA τ Γ c id st
theorem HL {Γ:Cx0} {f:St->T (Ex×St)} {l:Lp}:∀ {m:Nat} {st:St} {r:Ex×St},(Av f l m st).sem=some r->LRun Γ f st r
 | 0,_,_,h=>by cases h
 | m+1,st,r,h=>by
  obtain ⟨⟨e,st1⟩,h1,h2⟩:=Ag h;cases e with
  | nm=>exact .next h1 (Qg _ _ _) (HL h2)
  | ex i =>have:=Ab h2;subst this;exact .stop h1 (by simp) (Qg _ _ _)
  | rt =>have:=Ab h2;subst this;exact .stop h1 (by simp) (Qg _ _ _)
section
variable {P:Program} {τ:List Ty} (hτ:TabOK P τ) {Γ:Cx}
def Cr (Γ:Cx):Prop:=∀ id f st r,(Γ.loop id f st).sem=some r->LRunF Γ.base f st r
theorem UN {Γ:Cx0} {κ:Ax} {S:Nat->Prop} {st:St} {a:Act} {w:World} {q:Nat} {p:Nat×Nat×Nat×(Nat->V)} (hr:Rel Γ κ S st a w) (hp:(UO st.h (nth st.t q)).sem=some p) :
  ∃ κ0,Rel Γ κ0 S (O3 st q p) a w∧∀ κ' S' a' w' st2,Rel Γ κ' S' st2 a' w'->Ext κ0 S (O3 st q p).h w κ' S' st2.h w'->JL st.h st2.h=true->Rel Γ κ S ⟨Pe st.h.length st2.t,st.h⟩ a' w'∧Ext κ S st.h w κ S st.h w':=by
 obtain ⟨e,s,n,g⟩:=p;have hq:q<st.t.length:=Nat.lt_of_not_le λhge=>by
  rw [Kp,List.getElem?_eq_none hge] at hp;cases hp
 have hv:=hr.tmps.nth q undef;obtain ⟨h1,hsl,h2⟩:=Aas hr.good hv hp;have hq':q<a.tmps.toList.length:=by rw [hr.tmps.length]; exact hq
 have hself:a.tmps.toList.set q (a.tmps.toList.getD q undef)=a.tmps.toList:=by
  rw [List.getD_eq_getElem?_getD,List.getElem?_eq_getElem hq',Option.getD_some,List.set_getElem_self]
 refine ⟨_,⟨h1,hr.env,?_,hr.defers⟩,λκ' S' a' w' st2 hr2 hx ha=>?_⟩
 ·have:=(VR.mono_go (λb hb=>⟨hb,rfl⟩) st.t _ _ _ (hr.good.addK_sub (a.tmps.toList.getD q undef)) hr.tmps).set q (v:=.ref st.h.length) (c:=a.tmps.toList.getD q undef) ⟨by simp [Bp],.inl hsl⟩
  rw [hself] at this;exact this
 ·obtain ⟨g1,g2⟩:=h2 κ' S' st2.h w' hx
  refine ⟨⟨g1,hr.env.ext hr.good g2,VK (λi hi=>?_) _ _ hr2.tmps,hr2.defers⟩,g2⟩;rw [(hx.fix i _ (Nr _ _ ha i hi) (.inr ⟨_,rfl⟩)).1];unfold Bp;rw [if_neg (by omega)]
def Kw:Ex->Exit
 | .nm=>.normal
 | .ex i=>.exit i
 | .rt=>.ret
def VJ (Γ:Cx) (κ:Ax) (S:Nat->Prop) (h:List Blk) (w:World) (r:Ex×St) (Q:Exit->Act->World->Prop):Prop :=
 ∀ κ' S' a' w',Rel Γ.base κ' S' r.2 a' w'->Ext κ S h w κ' S' r.2.h w'->Q (Kw r.1) a' w'
theorem VJ.ext {κ κ':Ax} {S S':Nat->Prop} {h h':List Blk} {w w':World} {r:Ex×St} {Q:Exit->Act->World->Prop} (hw:VJ Γ κ S h w r Q) (e:Ext κ S h w κ' S' h' w'):VJ Γ κ' S' h' w' r Q :=
 λκ'' S'' a'' w'' hr e'=>hw κ'' S'' a'' w'' hr (e.trans e')
theorem Wc {e:Ex} (he:e ≠ .nm) {N:Act->World->Prop} {Q:Exit->Act->World->Prop} {a:Act} {w:World} (h:Q (Kw e) a w):Exit.then N Q (Kw e) a w:=by
 cases e <;> first | exact absurd rfl he | exact h
include hτ in
theorem NL (hm:P.follows .mixedOrders=true) (hΓ:Bu P Γ.base) (hΛ:Cr Γ):∀ (c:Code) (id:Nat) (st:St) (r:Ex×St) (κ:Ax) (S:Nat->Prop) (a:Act) (w:World) (Q:Exit->Act->World->Prop),
  Rel Γ.base κ S st a w->(AA τ Γ c id st).sem=some r->VJ Γ κ S st.h w r Q->c.wp P Q a w:=by
 intro c
 induction c with
 | skip =>intro id st r κ S a w Q hr h hw;have:=Ab h;subst this;exact wp_skip (hw κ S a w hr (Ext.refl _ _ _ _))
 | region i ops draw =>
  intro id st r κ S a w Q hr h hw;simp only [AA] at h;split at h
  ·obtain ⟨st',h1,h2⟩:=Ag h
   have:=Ab h2;subst this;exact ZR (P:=P) hτ hΓ hr h1 hw
  ·split at h
   ·rename_i hd
    split at h
    ·split at h
     ·rename_i hc
      obtain ⟨st1,h1,h3⟩:=Ag h;obtain ⟨st',h4,h2⟩:=Ag h3;have:=Ab h2;subst this;exact Ot (P:=P) hτ hm hΓ hr hd hc h1 h4 hw
     ·cases h
    ·obtain ⟨_,_,_,h⟩:=Ja h
     have hl:=Ke h;refine (Oq (P:=P) (Q:=Q) hτ hm hΓ hr hd h ?_).2;intro κ' S' a' w' r1 r2;have:=hw κ' S' a' w' r1 r2;rw [hl] at this;exact this
   ·cases h
 | seq x y ihx ihy =>
  intro id st r κ S a w Q hr h hw;obtain ⟨⟨e,st1⟩,h1,h2⟩:=Ag h;refine wp_seq (ihx id st (e,st1) κ S a w _ hr h1 ?_);intro κ' S' a' w' hr' he';cases e with
  | nm=>exact ihy id st1 r κ' S' a' w' Q hr' h2 (hw.ext he')
  | ex j =>have:=Ab h2;subst this;exact hw κ' S' a' w' hr' he'
  | rt =>have:=Ab h2;subst this;exact hw κ' S' a' w' hr' he'
 | cond x t e iht ihe =>
  intro id st r κ S a w Q hr h hw;simp only [AA] at h;split at h
  ·rename_i b hb
   have hx:=B7 hr.env hr.tmps x;rw [hb] at hx;have hx:=BA hx;cases b with
   | false=>exact wp_cond_false hx (ihe id st r κ S a w Q hr h hw)
   | true=>exact wp_cond_true hx (iht id st r κ S a w Q hr h hw)
  ·cases h
 | block i c ih =>
  intro id st r κ S a w Q hr h hw;obtain ⟨⟨e,st1⟩,h1,h2⟩:=Ag h;refine wp_block (ih i st (e,st1) κ S a w _ hr h1 ?_);intro κ' S' a' w' hr' he';cases e with
  | nm =>have:=Ab h2;subst this;exact hw κ' S' a' w' hr' he'
  | ex j =>
   simp only at h2;split at h2
   ·rename_i hj
    have hj:j=i:=Nat.eq_of_beq_eq_true hj;have:=Ab h2;subst this;show (if j=i then Q .normal a' w' else Q (.exit j) a' w')
    rw [if_pos hj];exact hw κ' S' a' w' hr' he'
   ·rename_i hj
    have hj:j ≠ i:=Nat.ne_of_beq_eq_false hj;have:=Ab h2;subst this;show (if j=i then Q .normal a' w' else Q (.exit j) a' w')
    rw [if_neg hj];exact hw κ' S' a' w' hr' he'
  | rt =>have:=Ab h2;subst this;exact hw κ' S' a' w' hr' he'
 | loop c ih =>
  intro id st r κ S a w Q hr h hw;have hrun:LRunF Γ.base (λst=>AA τ Γ c id st) st r:=hΛ _ _ _ _ h;have key:∀ (st:St) (r:Ex×St),Z1 τ Γ c id st r->∃ n,∀ κ S a w,Rel Γ.base κ S st a w->VJ Γ κ S st.h w r Q->Code.rounds P c Q n a w:=by
   intro st r hrun
   induction hrun with
   | stop h1 hne hle =>rename_i st st1 st2 e;refine ⟨1,λκ S a w hr hw=>ih id st (e,st1) κ S a w _ hr h1 ?_⟩;intro κ' S' a' w' hr' he';obtain ⟨κ2,S2,hr2,he2⟩:=hle κ' S' a' w' hr';exact Wc hne (hw κ2 S2 a' w' hr2 (he'.trans he2))
   | next h1 hle _ ihr =>rename_i st st1 st2 r _;obtain ⟨n,hn⟩:=ihr;refine ⟨n+1,λκ S a w hr hw=>ih id st (.nm,st1) κ S a w _ hr h1 ?_⟩;intro κ' S' a' w' hr' he';obtain ⟨κ2,S2,hr2,he2⟩:=hle κ' S' a' w' hr';exact hn κ2 S2 a' w' hr2 (hw.ext (he'.trans he2))
   | weak hle _ ihr =>obtain ⟨n,hn⟩:=ihr;refine ⟨n,λκ S a w hr hw=>?_⟩;obtain ⟨κ2,S2,hr2,he2⟩:=hle κ S a w hr;exact hn κ2 S2 a w hr2 (hw.ext he2)
  cases hrun with
  | run hrun =>obtain ⟨n,hn⟩:=key st r hrun;exact wp_loop_rounds n (hn κ S a w hr hw)
  | lend hle hp hrun ha =>obtain ⟨n,hn⟩:=key _ _ hrun;obtain ⟨κ1,S1,hr1,he1⟩:=hle κ S a w hr;obtain ⟨κ0,hr0,hback⟩:=UN hr1 hp;refine wp_loop_rounds n (hn κ0 S1 a w hr0 λκ' S' a' w' hr' he'=>?_);obtain ⟨b1,b2⟩:=hback κ' S' a' w' _ hr' he' ha;exact hw κ1 S1 a' w' b1 (he1.trans b2)
 | exit i =>intro id st r κ S a w Q hr h hw;have:=Ab h;subst this;exact wp_exit (hw κ S a w hr (Ext.refl _ _ _ _))
 | ret =>intro id st r κ S a w Q hr h hw;have:=Ab h;subst this;exact wp_ret (hw κ S a w hr (Ext.refl _ _ _ _))
 | _ =>intro id st r κ S a w Q hr h hw;cases h
include hτ in
theorem Yn {st:St} {κ:Ax} {S:Nat->Prop} {a:Act} {w:World} (hr:Rel Γ.base κ S st a w) {g:ResultVar->Sem Value} (g1:∀ t,g (.tmp t)=pure (a.tmps.getD t undef))
  (g2:∀ p t,g (.cell p t)=do loadVar t (<- asAddr (a.tmps.getD p undef))):∀ {l:List ResultVar} {vs:List V},ZQ τ st l=some vs ->
  ∃ cs,(l.mapM g).run P w = .ok cs w∧VRs S w vs κ cs
 | [],vs,h=>by
  simp [ZQ] at h;subst h;exact ⟨[],by simp,rfl⟩
 | x::l,vs,h=>by
  simp only [ZQ] at h;split at h
  ·rename_i v us h1 h2
   simp at h;subst h;obtain ⟨cs,h3,h4⟩:=Yn hr g1 g2 h2;have hx:∃ c,(g x).run P w = .ok c w∧VR S w v κ c:=by
    cases x with
    | tmp t =>simp only [AkQ,Option.some.injEq] at h1;subst h1;have:=hr.tmps.nth t undef;rw [Cq] at this;exact ⟨_,by rw [g1]; rfl,this⟩
    | cell p t =>
     simp only [AkQ] at h1;split at h1
     ·rename_i id off hp
      split at h1
      ·rename_i cells hh
       have hpv:=hr.tmps.nth p undef;rw [hp,Cq] at hpv;obtain ⟨gb,e,ca,_,hcx,hgw,hrc⟩:=MI hr.good hh hpv;obtain ⟨c,_,h5,h6,_⟩:=DV (P:=P) hτ h1 hrc;refine ⟨c,?_,h5⟩;have:=h6 gb 0 (λj u hj=>by
        rw [Nat.zero_add,cell_of_row w gb j ca e (0,0) hgw];simpa using hj)
       simp only [Nat.zero_add] at this;rw [g2];simp only [hcx,asAddr,Sem.run_bind,Sem.run_pure,Result.andThen_ok,this]
      ·cases h1
     ·cases h1
   obtain ⟨c,h5,h6⟩:=hx;refine ⟨c::cs,?_,⟨c,cs,rfl,h6,h4⟩⟩;simp only [List.mapM_cons,Sem.run_bind,h5,h3,Result.andThen_ok,Sem.run_pure]
  ·cases h
def Acc (a:Act):ResultVar->Sem Value
 | .tmp t=>pure (a.tmps.getD t undef)
 | .cell p t=>do loadVar t (<- asAddr (a.tmps.getD p undef))
include hτ in
theorem QF {st:St} {κ:Ax} {S:Nat->Prop} {a:Act} {w:World} (hr:Rel Γ.base κ S st a w) {fn:Func} {v:V} (h:J1 τ fn st=some v) :
  ∃ c,(results fn a.tmps).run P w = .ok c w∧VR S w v κ c:=by
 unfold J1 at h;have hrun:∀ vs,ZQ τ st fn.results.toList=some vs->∃ cs:List Value,(results fn a.tmps).run P w = .ok (if h:cs.toArray.size=1 then cs.toArray[0] else .tuple cs.toArray) w∧VRs S w vs κ cs:=by
  intro vs hvs;obtain ⟨cs,h1,h2⟩:=Yn (P:=P) hτ hr (g:=Acc a) (λ_=>rfl) (λ_ _=>rfl) hvs;refine ⟨cs,?_,h2⟩;show ((fn.results.mapM (Acc a) >>= λvs=>pure (if h:vs.size=1 then vs[0] else .tuple vs)):Sem Value).run P w=_
  rw [Sem.run_bind,Array.mapM_eq_mapM_toList,Sem.run_map,h1];rfl
 split at h
 ·rename_i u hu
  simp at h;subst h;obtain ⟨cs,h1,h2⟩:=hrun _ hu;obtain ⟨c,l',rfl,h3,h4⟩:=h2;have h4:l'=[]:=h4;subst h4;exact ⟨c,by rw [h1]; simp,h3⟩
 ·rename_i vs hne hu
  simp at h;subst h;obtain ⟨cs,h1,h2⟩:=hrun _ hu;refine ⟨.tuple cs.toArray,?_,⟨cs,rfl,h2⟩⟩;rw [h1,dif_neg];intro hsz;have hl:=h2.length;have:cs.length=1:=by simpa using hsz
  rw [this] at hl;cases vs with
  | nil=>simp at hl
  | cons u us =>
   cases us with
   | nil=>exact hne u rfl
   | cons _ _=>simp at hl
 ·cases h
theorem Md {S:Nat->Prop} {w:World} {κ:Ax}:∀ n,VRs S w (NW n) κ (List.replicate n undef)
 | 0=>rfl
 | n+1=>⟨undef,List.replicate n undef,rfl,rfl,Md n⟩
include hτ in
theorem P1 (hm:P.follows .mixedOrders=true) (hΓ:Bu P Γ.base) (hΛ:Cr Γ) {f:FuncId} {fn:Func} {c:Code} (hf:P.funcs[f]? = some fn) (hb:fn.body=some c)
  {κ:Ax} {S:Nat->Prop} {h:List Blk} {w:World} {vs:List V} {cs:List Value} {v:V} {h':List Blk}
  (hg:Good κ S h w) (hE:EB Γ.base S w) (hv:VRs S w vs κ cs) (he:(Aj τ Γ fn vs h).sem=some (v,h')) :
  Calls P f cs.toArray w λe w'=>∃ c κ' S',e = .returned c∧Good κ' S' h' w'∧VR S' w' v κ' c∧Ext κ S h w κ' S' h' w':=by
 unfold Aj at he;rw [hb] at he;obtain ⟨⟨e,st⟩,h1,h2⟩:=Ag he;refine calls_of_wp hf hb ?_;have hlen:=hv.length;have hr:Rel Γ.base κ S ⟨vs++NW (Nat.sub fn.ntmps vs.length),h⟩ { tmps:=cs.toArray++Array.replicate (fn.ntmps-cs.toArray.size) undef,defers:=[] } w:=by
  refine ⟨hg,hE,?_,rfl⟩;have:=hv.append (Md (S:=S) (w:=w) (κ:=κ) (Nat.sub fn.ntmps vs.length));have e2:Nat.sub fn.ntmps vs.length=fn.ntmps-cs.length:=by rw [hlen]; rfl
  rw [e2] at this ⊢;simpa using this
 refine NL (P:=P) hτ hm hΓ hΛ c 0 _ (e,st) κ S _ w _ hr h1 ?_;intro κ' S' a' w' hr' he';have fin:J1 τ fn st=some v->st.h=h'->a'.defers=[]∧∃ u,(results fn a'.tmps).run P w' = .ok u w'∧∃ c κ' S',(Ending.returned u) = .returned c∧Good κ' S' h' w'∧VR S' w' v κ' c∧Ext κ S h w κ' S' h' w':=by
  intro q1 q2;subst q2;obtain ⟨u,q3,q4⟩:=QF (P:=P) hτ hr' q1;exact ⟨hr'.defers,u,q3,u,κ',S',rfl,hr'.good,q4,he'⟩
 cases e with
 | ex j=>cases h2
 | nm =>
  simp only at h2;split at h2
  ·rename_i u hu
   have:=Ab h2;simp only [Prod.mk.injEq] at this;obtain ⟨rfl,rfl⟩:=this;exact fin hu rfl
  ·cases h2
 | rt =>
  simp only at h2;split at h2
  ·rename_i u hu
   have:=Ab h2;simp only [Prod.mk.injEq] at this;obtain ⟨rfl,rfl⟩:=this;exact fin hu rfl
  ·cases h2
end
theorem EG {α β:Type} {t t':T α} {f f':α->T β} (h:t.sem=t'.sem) (hf:∀ a,(f a).sem=(f' a).sem):(t.bind f).sem=(t'.bind f').sem:=by
 rw [Db,Db,h];cases t'.sem with
 | none=>rfl
 | some a=>exact hf a
theorem Vt {τ:List Ty} {Γ:Cx} {L L':Nat->(St->T (Ex×St))->St->T (Ex×St)} (h:∀ id f f' st,(∀ st,(f st).sem=(f' st).sem)->(L id f st).sem=(L' id f' st).sem) :
  ∀ (c:Code) (id:Nat) (st:St),(AA τ { Γ with loop:=L } c id st).sem=(AA τ { Γ with loop:=L' } c id st).sem:=by
 intro c
 induction c with
 | skip=>intro id st; rfl
 | region i ops draw=>intro id st; rfl
 | seq a b iha ihb =>
  intro id st;refine EG (iha id st) λr=>?_;cases r.1 with
  | nm=>exact ihb id r.2
  | ex j=>rfl
  | rt=>rfl
 | cond x a b iha ihb =>
  intro id st;show (match ev ⟨Γ.call,Γ.glob⟩ st x with | .val (.bool q)=>T.br q (AA τ { Γ with loop:=L } a id st) (AA τ { Γ with loop:=L } b id st) | _=>.fail).sem=(match ev ⟨Γ.call,Γ.glob⟩ st x with | .val (.bool q)=>T.br q (AA τ { Γ with loop:=L' } a id st) (AA τ { Γ with loop:=L' } b id st) | _=>.fail).sem
  split
  ·simp only [T.sem]
   rw [iha id st,ihb id st]
  ·rfl
 | block i c ih =>
  intro id st;refine EG (ih i st) λr=>?_;cases r.1 with
  | nm=>rfl
  | ex j=>rfl
  | rt=>rfl
 | loop c ih =>intro id st;exact h id _ _ st (ih id)
 | exit i=>intro id st; rfl
 | ret=>intro id st; rfl
 | _=>intro id st; rfl
end Go.Sy
