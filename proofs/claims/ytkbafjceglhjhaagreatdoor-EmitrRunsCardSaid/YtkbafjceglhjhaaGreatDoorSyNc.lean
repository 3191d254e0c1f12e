/-
  A loop that appends to one row of the call's own and writes no other memory: behind it all is as it was. No conditions.
-/
import Derived.Test.YtkbafjceglhjhaaGreatDoorSyNb
import Derived.LoopN
namespace Go.Sy
section
variable {S:Nat->Prop} {w w':World} {κ:Aq} {h:List Blk}
def AkZ (κ:Aq) (id:Nat):Aq:=λi=>if i=0 then κ id else none
theorem Ss {lk:Bool} {id e s n:Nat} {g g':Nat->V} (hh:h[id]? = some (.row e s n g)) (i b:Nat):AC (AkZ κ id) [.xrow lk e s n g'] i b↔i=0∧AC κ h id b:=by
 rw [Ax hh];constructor
 ·rintro ⟨bl,h1,h2⟩
  cases i with
  | zero =>simp at h1;subst h1;exact ⟨rfl,h2⟩
  | succ i=>simp at h1
 ·rintro ⟨rfl,h1⟩
  exact ⟨_,rfl,h1⟩
theorem Good.one {lk:Bool} {id e s n:Nat} {g g0:Nat->V} (hg:Good κ S h w) (hh:h[id]? = some (.row e s n g)) (h0:∀ i,i<n->g0 i=g i):Good (AkZ κ id) S [.xrow lk e s n g0] w:=by
 refine ⟨λi b hi=>?_,λi j k hij hi hj=>?_,λb hb=>⟨(hg.out b hb).1,λi hi=>?_⟩,λi hi=>?_⟩
 ·cases i with
  | zero =>simp at hi;subst hi;obtain ⟨r0,cc,xs,r1,r2,r3⟩:=hg.blk id _ hh;exact ⟨r0,cc,xs,r1,r2,λi hi=>by rw [h0 i hi]; exact r3 i hi⟩
  | succ i=>simp at hi
 ·have h1:=((Ss hh i k).1 hi).1
  have h2:=((Ss hh j k).1 hj).1;omega
 ·exact (hg.out b hb).2 id ((Ss hh i b).1 hi).2
 ·have hi:1 <= i:=hi
  unfold AkZ;rw [if_neg (by omega)]
theorem Good.back {id e s n:Nat} {g g':Nat->V} (hg:Good κ S h w) (hh:h[id]? = some (.row e s n g)) (hsz:w.heap.size <= w'.heap.size)
  (hkeep:∀ b,b<w.heap.size->¬ AC κ h id b->w'.heap[b]? = w.heap[b]?) (hB:AQ S w' κ (κ id) (.row e s n g')):Good κ S (h.set id (.row e s n g')) w' :=
 (hg.upd' (b':=.row e s n g') hh (λ_ hk=>hk) (λk hk hlt=>hkeep k hlt λq=>hk ((Ax hh).1 q)) hsz hB).1
theorem Ext.back {id e s n:Nat} {g g':Nat->V} (hg:Good κ S h w) (hh:h[id]? = some (.row e s n g)) (hos:w'.os=w.os) (htape:w'.tape=w.tape) (hout:w'.output=w.output) (hsz:w.heap.size <= w'.heap.size)
  (hkeep:∀ b,b<w.heap.size->¬ AC κ h id b->w'.heap[b]? = w.heap[b]?) (hB:AQ S w' κ (κ id) (.row e s n g')):Ext κ S h w κ S (h.set id (.row e s n g')) w' :=
 Ext.upd' hg hh rfl (λk hk hlt=>hkeep k hlt λq=>hk ((Ax hh).1 q)) hsz hos htape hout
  (hg.upd' (b':=.row e s n g') hh (λ_ hk=>hk) (λk hk hlt=>hkeep k hlt λq=>hk ((Ax hh).1 q)) hsz hB).2 (λ_ _ _ _ h=>by cases h) (λhf=>absurd hf (notFixed (b:=.row e s n g') trivial (λ_ _ _ _ h=>by cases h)))
end
def AkY (m:Value):Aq:=λi=>if i=0 then some m else none
section
variable {S:Nat->Prop} {w w':World} {κ:Aq} {h:List Blk} {id i:Nat} {j:Jag} {c m:Value} {ms:Array Value}
theorem OE {lk:Bool} {e s n:Nat} {g:Nat->V} (q b:Nat):AC (AkY m) [.xrow lk e s n g] q b↔q=0∧Ao (some m)=some b:=by
 constructor
 ·rintro ⟨bl,h1,h2⟩
  cases q with
  | zero =>simp at h1;subst h1;exact ⟨rfl,h2⟩
  | succ q=>simp at h1
 ·rintro ⟨rfl,h1⟩
  exact ⟨_,rfl,h1⟩
theorem Lj (hh:h[id]? = some (.jag j)) (hk:κ id=some (.tuple #[c,.agg ms])) (hm:ms[i]? = some m) (b:Nat) (hb:Ao (some m)=some b):AC κ h id b :=
 (Ax hh).2 (by rw [hk]; exact Cd hm hb)
theorem Good.oneM {lk:Bool} {g0:Nat->V} (hg:Good κ S h w) (hh:h[id]? = some (.jag j)) (hk:κ id=some (.tuple #[c,.agg ms])) (hm:ms[i]? = some m) (hsl:∃ a n cap,m = .slice a n cap) (hl:j.live i=true) (h0:∀ k,k<j.len i->g0 k=j.mem i k) :
  Good (AkY m) S [.xrow lk j.e' j.s' (j.len i) g0] w:=by
 obtain ⟨c1,ms1,xs,hk1,hj⟩:=Cn (st:=⟨[],h⟩) hg hh;rw [hk] at hk1;obtain ⟨rfl,rfl⟩:=AL hk1;have hin:i<j.n:=by
  obtain ⟨_,_,_,rfl⟩:=hsl;exact hj.ltS hm
 obtain ⟨_,ys,ho,he⟩:=hj.mem hm hin hl;refine ⟨λq b hq=>?_,λp q k hpq hp hq=>?_,λb hb=>⟨(hg.out b hb).1,λq hq=>?_⟩,λq hq=>?_⟩
 ·cases q with
  | zero =>simp at hq;subst hq;exact ⟨hj.2.1,m,ys,rfl,ho,λk hk=>by rw [h0 k hk]; exact he k hk⟩
  | succ q=>simp at hq
 ·have h1:=((OE p k).1 hp).1
  have h2:=((OE q k).1 hq).1;omega
 ·exact (hg.out b hb).2 id (Lj hh hk hm b ((OE q b).1 hq).2)
 ·have hq:1 <= q:=hq
  unfold AkY;rw [if_neg (by omega)]
theorem UR {g':Nat->V} (hg:Good κ S h w) (hh:h[id]? = some (.jag j)) (hk:κ id=some (.tuple #[c,.agg ms])) (hm:ms[i]? = some m) (hsl:∃ a n cap,m = .slice a n cap) (hl:j.live i=true)
  (hkeep:∀ b,b<w.heap.size->¬ Ao (some m)=some b->w'.heap[b]? = w.heap[b]?) {ys:List Value} (ho:w'.ownsRow 0 j.e' j.s' m (j.len i) ys) (he:CW S w' j.s' (j.len i) g' ys) :
  AQ S w' κ (κ id) (.jag { j with mem:=Eo j.mem i g' }):=by
 obtain ⟨c1,ms1,xs,hk1,hj⟩:=Cn (st:=⟨[],h⟩) hg hh;rw [hk] at hk1;obtain ⟨rfl,rfl⟩:=AL hk1;have hin:i<j.n:=by
  obtain ⟨_,_,_,rfl⟩:=hsl;exact hj.ltS hm
 obtain ⟨hx,_⟩:=hj.mem hm hin hl;obtain ⟨g1,g2,g3,g4,g5,g6,g7,g8,g9⟩:=hj;have hS:∀ b,S b->S b∧w'.heap[b]? = w.heap[b]?:=λb hb=>⟨hb,hkeep b (hg.out b hb).1 λhb'=>(hg.out b hb).2 id (Lj hh hk hm b hb')⟩;refine ⟨c,ms,xs,hk,g1,g2,g3,g4,Ca g5 λg hgc=>hkeep g (G5 g5 hgc) λhb'=>(g9 i m g hm hb').1 hgc,g6,MR.mono (j:=j) g7 hS,λi' m' hm'=>?_,g9⟩;by_cases hi:i'=i
 ·subst hi
  rw [hm] at hm';cases hm';refine .inl ⟨hin,?_⟩;unfold Hz;show match j.live i' with
   | true=>xs[i' * j.size+j.off]? = some m∧∃ ys,w'.ownsRow 0 j.e' j.s' m (j.len i') ys∧CW S w' j.s' (j.len i') (Eo j.mem i' g' i') ys
   | false=>m = .slice none 0 0
  rw [hl,H5];exact ⟨hx,ys,ho,he⟩
 ·have hb:∀ g,Ao (some m')=some g->w'.heap[g]? = w.heap[g]?:=λg hgc=>hkeep g (hg.lt (Lj hh hk hm' g hgc)) λhb'=>(g9 i m g hm hb').2 i' m' hi hm' hgc
  rcases g8 i' m' hm' with ⟨hkn,h8⟩ | ⟨q,k,h81,rfl,h8⟩
  ·exact .inl ⟨hkn,h8.re hS hb rfl rfl rfl rfl rfl rfl (La hi) rfl⟩
  ·exact .inr ⟨q,k,h81,rfl,h8.mono hb⟩
theorem Good.backM {j':Jag} (hg:Good κ S h w) (hh:h[id]? = some (.jag j)) (hk:κ id=some (.tuple #[c,.agg ms])) (hm:ms[i]? = some m) (hsz:w.heap.size <= w'.heap.size)
  (hkeep:∀ b,b<w.heap.size->¬ Ao (some m)=some b->w'.heap[b]? = w.heap[b]?) (hB:AQ S w' κ (κ id) (.jag j')):Good κ S (h.set id (.jag j')) w' :=
 (hg.upd' (b':=.jag j') hh (λ_ hk=>hk) (λk hkk hlt=>hkeep k hlt λq=>hkk (by rw [hk]; exact Cd hm q)) hsz hB).1
theorem Ext.backM {j':Jag} (hg:Good κ S h w) (hh:h[id]? = some (.jag j)) (hk:κ id=some (.tuple #[c,.agg ms])) (hm:ms[i]? = some m) (hos:w'.os=w.os) (htape:w'.tape=w.tape) (hout:w'.output=w.output) (hsz:w.heap.size <= w'.heap.size)
  (hkeep:∀ b,b<w.heap.size->¬ Ao (some m)=some b->w'.heap[b]? = w.heap[b]?) (hB:AQ S w' κ (κ id) (.jag j')):Ext κ S h w κ S (h.set id (.jag j')) w' :=
 have hw:∀ k,¬ inBlk (κ id) k (.jag j)->k<w.heap.size->w'.heap[k]? = w.heap[k]?:=λk hkk hlt=>hkeep k hlt λq=>hkk (by rw [hk]; exact Cd hm q)
 Ext.upd' hg hh rfl hw hsz hos htape hout (hg.upd' (b':=.jag j') hh (λ_ hk=>hk) hw hsz hB).2 (λ_ _ _ _ h=>by cases h) (λhf=>by rcases hf with ⟨_,_,_,_,hf⟩ | ⟨_,hf⟩ <;> cases hf)
end
section
variable {S:Nat->Prop} {w:World}
mutual
theorem JV {S':Nat->Prop} {w':World}:∀ (v:V) (κ:Aq) (c:Value),MO v=true->VR S w v κ c->VR S' w' v κ c
 | .val _,_,_,_,hv=>hv
 | .str _,_,_,_,hv=>hv
 | .agg cs,_,_,hb,hv=>by
  obtain ⟨ca,e,hv⟩:=hv;exact ⟨ca,e,Me cs _ _ hb hv⟩
 | .tup cs,_,_,hb,hv=>by
  obtain ⟨ca,e,hv⟩:=hv;exact ⟨ca,e,Me cs _ _ hb hv⟩
 | .fn f cs,_,_,hb,hv=>by
  obtain ⟨ca,e,hv⟩:=hv;exact ⟨ca,e,Me cs _ _ hb hv⟩
 | .nilS,_,_,_,hv=>hv
 | .sl _ _ _,_,_,hb,_=>by cases hb
 | .slr _ _ _ _,_,_,hb,_=>by cases hb
 | .pp _,_,_,hb,_=>by cases hb
 | .ptr _ _,_,_,_,hv=>hv
 | .ref _,_,_,_,hv=>hv
 | .ept _ _ _ _,_,_,_,hv=>hv
 | .rct _ _,_,_,_,hv=>hv
 | .jref _,_,_,_,hv=>hv
 | .jept _ _ _ _,_,_,_,hv=>hv
 | .mref _ _,_,_,_,hv=>hv
 | .mmap _ _,_,_,_,hv=>hv
 | .anym,_,_,_,hv=>hv
 | .mept _ _ _ _ _,_,_,_,hv=>hv
 | .und,_,_,_,_=>trivial
theorem Me {S':Nat->Prop} {w':World}:∀ (vs:List V) (κ:Aq) (l:List Value),MO.bares vs=true->VRs S w vs κ l->VRs S' w' vs κ l
 | [],_,_,_,hv=>hv
 | v::vs,_,_,hb,hv=>by
  simp only [MO.bares] at hb;split at hb
  ·rename_i hbv
   obtain ⟨x,l',e,h1,h2⟩:=hv;exact ⟨x,l',e,JV v _ _ hbv h1,Me vs _ _ hb h2⟩
  ·cases hb
end
end
section
variable {S:Nat->Prop} {w:World} {κ κ':Aq} {n:Nat}
mutual
theorem Qh (hk:∀ i,i<n->κ' i=κ i):∀ (v:V) (c:Value),PS n v=true->VR S w v κ c->VR S w v κ' c
 | .val _,_,_,hv=>hv
 | .str _,_,_,hv=>hv
 | .agg cs,_,hb,hv=>by
  obtain ⟨ca,e,hv⟩:=hv;exact ⟨ca,e,I2 hk cs _ hb hv⟩
 | .tup cs,_,hb,hv=>by
  obtain ⟨ca,e,hv⟩:=hv;exact ⟨ca,e,I2 hk cs _ hb hv⟩
 | .fn f cs,_,hb,hv=>by
  obtain ⟨ca,e,hv⟩:=hv;exact ⟨ca,e,I2 hk cs _ hb hv⟩
 | .nilS,_,_,hv=>hv
 | .sl _ _ _,_,_,hv=>hv
 | .slr _ _ _ _,_,_,hv=>hv
 | .pp _,_,_,hv=>hv
 | .ptr id _,_,hb,hv=>by
  obtain ⟨g,h1,h2⟩:=hv;exact ⟨g,by rw [hk id (Nat.blt_eq ▸ hb)]; exact h1,h2⟩
 | .ref id,_,hb,hv=>⟨by rw [hk id (Nat.blt_eq ▸ hb)]; exact hv.1,hv.2⟩
 | .ept id _ _ _,_,hb,hv=>by
  obtain ⟨g,m,cap,h1,h2⟩:=hv;exact ⟨g,m,cap,by rw [hk id (Nat.blt_eq ▸ hb)]; exact h1,h2⟩
 | .rct id _,_,hb,hv=>by
  obtain ⟨g,m,cap,h1,h2⟩:=hv;exact ⟨g,m,cap,by rw [hk id (Nat.blt_eq ▸ hb)]; exact h1,h2⟩
 | .jref id,_,hb,hv=>by
  obtain ⟨ms,h1,h2⟩:=hv;exact ⟨ms,by rw [hk id (Nat.blt_eq ▸ hb)]; exact h1,h2⟩
 | .jept id _ _ _,_,hb,hv=>by
  obtain ⟨g,m,cap,ms,h1,h2⟩:=hv;exact ⟨g,m,cap,ms,by rw [hk id (Nat.blt_eq ▸ hb)]; exact h1,h2⟩
 | .anym,_,_,hv=>hv
 | .mmap id _,_,hb,hv=>by
  obtain ⟨o,ms,h1,h2⟩:=hv;exact ⟨o,ms,by rw [hk id (Nat.blt_eq ▸ hb)]; exact h1,h2⟩
 | .mref id _,_,hb,hv=>by
  obtain ⟨o,ms,h1,h2⟩:=hv;exact ⟨o,ms,by rw [hk id (Nat.blt_eq ▸ hb)]; exact h1,h2⟩
 | .mept id _ _ _ _,_,hb,hv=>by
  obtain ⟨o,ms,g,m,cap,h1,h2⟩:=hv;exact ⟨o,ms,g,m,cap,by rw [hk id (Nat.blt_eq ▸ hb)]; exact h1,h2⟩
 | .und,_,_,_=>trivial
theorem I2 (hk:∀ i,i<n->κ' i=κ i):∀ (vs:List V) (l:List Value),PS.belows n vs=true->VRs S w vs κ l->VRs S w vs κ' l
 | [],_,_,hv=>hv
 | v::vs,_,hb,hv=>by
  simp only [PS.belows] at hb;split at hb
  ·rename_i hbv
   obtain ⟨x,l',e,h1,h2⟩:=hv;exact ⟨x,l',e,Qh hk v _ hbv h1,I2 hk vs _ hb h2⟩
  ·cases hb
end
end
theorem CV:∀ h:List Blk,(G4 h).length=h.length
 | []=>rfl
 | _::l=>by rw [G4,List.length_cons,CV l,List.length_cons]
theorem O6:∀ (h:List Blk) (i:Nat),i<h.length->(G4 h)[i]? = some (.saved Z5)
 | [],i,hi=>absurd hi (Nat.not_lt_zero _)
 | _::l,0,_=>rfl
 | _::l,i+1,hi=>by
  show (G4 l)[i]? = _;exact O6 l i (by simpa using hi)
theorem AcU {vs:List V} (h:Yt vs=true):vs=Z5:=by
 unfold Yt at h;split at h
 ·rfl
 ·cases h
theorem N2:∀ (h h':List Blk),Mc h h'=true->∀ i,i<h.length->h'[i]? = some (.saved Z5)
 | [],_,_,i,hi=>absurd hi (Nat.not_lt_zero _)
 | _::l,[],hp,_,_=>by cases hp
 | _::l,b::h',hp,i,hi=>by
  cases b with
  | saved vs =>
   simp only [Mc] at hp;split at hp
   ·rename_i hv
    cases i with
    | zero=>rw [AcU hv]; rfl
    | succ i=>exact N2 l h' hp i (by simpa using hi)
   ·cases hp
  | _=>cases hp
section
variable {S S':Nat->Prop} {w w':World} {κ κ':Aq} {h h':List Blk} {c:Value} {e s n:Nat} {g:Nat->V}
theorem Ie (i b:Nat):AC (Bh κ h.length c) (G4 h++[.xrow true e s n g]) i b↔i=h.length∧Ao (some c)=some b:=by
 rcases Nat.lt_trichotomy i h.length with hl | rfl | hl
 ·rw [Ax (b:=.saved Z5) (by rw [List.getElem?_append_left (by rw [CV]; exact hl)]; exact O6 h i hl)]
  exact ⟨λh=>h.elim,λh=>absurd h.1 (by omega)⟩
 ·rw [Ax (b:=.xrow true e s n g) (by rw [List.getElem?_append_right (by rw [CV]; exact Nat.le_refl _),CV,Nat.sub_self]; rfl)]
  have:Bh κ h.length c h.length=some c:=by simp [Bh]
  rw [this];exact ⟨λh=>⟨rfl,h⟩,λh=>h.2⟩
 ·exact ⟨λhh=>absurd hh (D7 (List.getElem?_eq_none (by simp [CV]; omega))),λh=>absurd h.1 (by omega)⟩
theorem Good.pin (hg:Good κ S h w) {id:Nat} (hown:∀ b,Ao (some c)=some b->AC κ h id b) (hB:AQ S w (Bh κ h.length c) (some c) (.xrow true e s n g)):Good (Bh κ h.length c) S (G4 h++[.xrow true e s n g]) w:=by
 refine ⟨λi b hi=>?_,λi j k hij hi hj=>?_,λb hb=>⟨(hg.out b hb).1,λi hi=>?_⟩,λi hi=>?_⟩
 ·rcases Nat.lt_trichotomy i h.length with hl | rfl | hl
  ·rw [List.getElem?_append_left (by rw [CV]; exact hl),O6 h i hl] at hi
   cases hi;exact .inl rfl
  ·rw [List.getElem?_append_right (by rw [CV]; exact Nat.le_refl _),CV,Nat.sub_self] at hi
   cases hi;rw [show Bh κ h.length c h.length=some c by simp [Bh]];exact hB
  ·rw [List.getElem?_eq_none (by simp [CV]; omega)] at hi
   cases hi
 ·have h1:=((Ie i k).1 hi).1
  have h2:=((Ie j k).1 hj).1;omega
 ·exact (hg.out b hb).2 id (hown b ((Ie i b).1 hi).2)
 ·unfold Bh
  have hi:(G4 h++[Blk.xrow true e s n g]).length <= i:=hi;rw [List.length_append,CV] at hi;have hi:h.length+1 <= i:=hi;rw [if_neg (by omega)];exact hg.dom i (by omega)
theorem Ahb (hk:∀ i,i<h.length->κ' i=κ i) (v:V) (c:Value) (hv:VR S' w' v κ' c):VR S w (AcI h.length v) κ c:=by
 unfold AcI;split
 ·rename_i hb hl
  exact JV _ _ _ hb (Qh (λi hi=>(hk i hi).symm) v c hl hv)
 ·trivial
theorem V4 (hk:∀ i,i<h.length->κ' i=κ i):∀ (vs:List V) (l:List Value),VRs S' w' vs κ' l->VRs S w (SG h.length vs) κ l
 | [],_,hv=>hv
 | v::vs,_,hv=>by
  obtain ⟨x,l',e,h1,h2⟩:=hv;exact ⟨x,l',e,Ahb hk v _ h1,V4 hk vs _ h2⟩
theorem UH {κ0:Aq} {h0:List Blk} {m:Value} {xs:List Value} (hx:Ext κ0 S h0 w κ' S' h' w') (r2:w.ownsRow 0 e s m n xs) (hsafe:∀ k cap,m = .slice (some ⟨k,0,none⟩) n cap->Aax κ0 h0 w k (n * s)):w'.ownsRow 0 e s m n xs:=by
 refine ⟨r2.1,?_⟩;rcases r2.2 with hnil | ⟨k,cap,cur,rfl,k0,k1,k2,k3,k4,k5⟩
 ·exact .inl hnil
 ·obtain ⟨cur',p1,p2,p3⟩:=(hx.pre k (n * s) (hsafe k cap rfl)).2 cur e (0,0) k1
  refine .inr ⟨k,cap,cur',rfl,k0,p1,k2,k3,by rw [p2,k4],?_⟩;rw [<- k5];apply List.ext_getElem?;intro j;rw [List.getElem?_take,List.getElem?_take];split
  ·rename_i hj
   rw [Array.getElem?_toList,Array.getElem?_toList];exact p3 j hj
  ·rfl
theorem ZN {v:V} (hg:Good κ S h w) (hv:VR S w v κ c) (hl:(Yf h v).sem=some (e,s,n,g)) :
  Good (Bh κ h.length c) S (G4 h++[.xrow true e s n g]) w∧(∃ a m cap,c = .slice a m cap)∧∀ κ' S' h' w',Ext (Bh κ h.length c) S (G4 h++[.xrow true e s n g]) w κ' S' h' w'->Good κ S h w'∧Ext κ S h w κ S h w':=by
 unfold Yf at hl;split at hl
 ·rename_i id
  split at hl
  ·rename_i e' s' n' g' hh
   have:=Aa hl;simp only [Prod.mk.injEq] at this;obtain ⟨rfl,rfl,rfl,rfl⟩:=this;obtain ⟨hc,hsl⟩:=hv;obtain ⟨r0,c',xs,r1,r2,r3⟩:=hg.blk id _ hh;rw [hc] at r1;cases r1;have hown:∀ b,Ao (some c)=some b->AC κ h id b:=λb hb=>(Ax hh).2 (by rw [hc]; exact hb);have hslice:∃ a m cap,c = .slice a m cap:=by
    rcases hsl with hs | ⟨b,rfl⟩
    ·exact hs
    ·rcases r2.2 with ⟨h1,_⟩ | ⟨_,_,_,h1,_⟩ <;> cases h1
   refine ⟨hg.pin hown ⟨r0,c,xs,rfl,r2,r3⟩,hslice,λκ' S' h' w' hx=>?_⟩;have hkeep:∀ b,b<w.heap.size->¬ AC κ h id b->w'.heap[b]? = w.heap[b]?:=λb hb hne=>hx.keep b hb λi hi=>hne (hown b ((Ie i b).1 hi).2);have hS:∀ b,S b->S b∧w'.heap[b]? = w.heap[b]?:=λb hb=>⟨hb,hkeep b (hg.out b hb).1 ((hg.out b hb).2 id)⟩;have hset:h.set id (.row e s n g)=h:=by
    have hl:=(List.getElem?_eq_some_iff.1 hh).1;have:=(List.getElem?_eq_some_iff.1 hh).2;rw [<- this,List.set_getElem_self]
   have hB:AQ S w' κ (κ id) (.row e s n g):=⟨r0,c,xs,hc,UH hx r2 λk cap hk=>⟨hg.lt (hown k (by rw [hk]; rfl)),λi hi=>by
    have:=((Ie i k).1 hi).1;subst this;exact ⟨e,s,n,g,by rw [List.getElem?_append_right (by rw [CV]; exact Nat.le_refl _),CV,Nat.sub_self]; rfl,Nat.le_refl _⟩⟩,r3.mono hS⟩
   have hgood:=hg.back (g':=g) hh hx.size hkeep hB;have hext:=Ext.back (S:=S) (g':=g) hg hh hx.os hx.tape hx.output hx.size hkeep hB;rw [hset] at hgood hext;exact ⟨hgood,hext⟩
  ·cases hl
 ·rename_i id i
  split at hl
  ·rename_i j hh
   obtain ⟨hlv,hl⟩:=Ad hl;have:=Aa hl;simp only [Prod.mk.injEq] at this;obtain ⟨rfl,rfl,rfl,rfl⟩:=this;obtain ⟨o,ms,hk,hm0,hsl⟩:=hv;have hown:∀ b,Ao (some c)=some b->AC κ h id b:=Lj hh hk hm0;have hg1:=hg.oneM (lk:=true) hh hk hm0 hsl hlv λ_ _=>rfl;obtain ⟨r0,c',xs,r1,r2,r3⟩:=hg1.blk 0 _ rfl;cases r1;refine ⟨hg.pin hown ⟨r0,c,xs,rfl,r2,r3⟩,hsl,λκ' S' h' w' hx=>?_⟩;have hkeep:∀ b,b<w.heap.size->¬ Ao (some c)=some b->w'.heap[b]? = w.heap[b]?:=λb hb hne=>hx.keep b hb λi hi=>hne ((Ie i b).1 hi).2;have hS:∀ b,S b->S b∧w'.heap[b]? = w.heap[b]?:=λb hb=>⟨hb,hkeep b (hg.out b hb).1 λq=>(hg.out b hb).2 id (Lj hh hk hm0 b q)⟩;have hset:h.set id (.jag { j with mem:=Eo j.mem i (j.mem i) })=h:=by
    have hl:=(List.getElem?_eq_some_iff.1 hh).1;have:=(List.getElem?_eq_some_iff.1 hh).2;have e:Eo j.mem i (j.mem i)=j.mem:=by
     funext k;by_cases hki:k=i
     ·rw [hki,H5]
     ·rw [La hki]
    rw [e];show h.set id (.jag j)=h;rw [<- this,List.set_getElem_self]
   have hB:=UR (w':=w') (g':=j.mem i) (ys:=xs) hg hh hk hm0 hsl hlv hkeep (UH hx r2 λk cap hk'=>⟨hg.lt (hown k (by rw [hk']; rfl)),λq hq=>by
    have:=((Ie q k).1 hq).1;subst this;exact ⟨_,_,_,_,by rw [List.getElem?_append_right (by rw [CV]; exact Nat.le_refl _),CV,Nat.sub_self]; rfl,Nat.le_refl _⟩⟩) (r3.mono hS)
   have hgood:=hg.backM hh hk hm0 hx.size hkeep hB;have hext:=Ext.backM (S:=S) hg hh hk hm0 hx.os hx.tape hx.output hx.size hkeep hB;rw [hset] at hgood hext;exact ⟨hgood,hext⟩
  ·cases hl
 ·cases hl
end
end Go.Sy
