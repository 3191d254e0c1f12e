/-
  The program that the evaluator's maps are of. No conditions.
-/
import Derived.Test.YtkbgidbledjejaaGreatProg
import Derived.Test.YtkbgidbledjejaaGreatSyA
import Derived.Maps.Own
import Derived.Laws.AppendOwn
import Derived.Below
namespace Go.Sy
@[irreducible] noncomputable def Iw:Program:=Go.Proofs.Tryz.prog
theorem AeG:Go.Proofs.Tryz.prog=Iw:=by unfold Iw; rfl
end Go.Sy
namespace Go.Sy
theorem NV (u v:V):J1 true u v=u:=by
 unfold J1;split
 ·split <;> rfl
 all_goals rfl
theorem V5:∀ {k k':IntKind},Xt k k'=true->k=k':=by
 intro k k' h;cases k <;> cases k' <;> first | rfl | cases h
theorem LU (u v:V):J1 false u v=v:=by
 unfold J1;split
 ·split
  ·rename_i h
   rw [V5 h];rfl
  ·rfl
 all_goals rfl
theorem IE:∀ (us vs:List V),us.length=vs.length->IF true us vs=us
 | [],[],_=>rfl
 | u::us,v::vs,h=>by rw [IF,NV,IE us vs (by simpa using h)]
 | [],_::_,h=>by simp at h
 | _::_,[],h=>by simp at h
theorem HF:∀ (us vs:List V),us.length=vs.length->IF false us vs=vs
 | [],[],_=>rfl
 | u::us,v::vs,h=>by rw [IF,LU,HF us vs (by simpa using h)]
 | [],_::_,h=>by simp at h
 | _::_,[],h=>by simp at h
theorem Wx (b:Bool) (u v:V):vif b u v=bif b then u else v:=by
 unfold vif;split
 ·split
  ·rename_i h
   have h:=Nat.eq_of_beq_eq_true h;cases b with
   | true=>rw [IE _ _ h]; rfl
   | false=>rw [HF _ _ h]; rfl
  ·rfl
 ·rfl
theorem Nj (b:Bool) (u v:V):J1 b u v=bif b then u else v:=by
 cases b with
 | true=>exact NV u v
 | false=>exact LU u v
theorem Ep (b:Bool) (u v:V):Re b u v=bif b then u else v:=by
 unfold Re;split
 ·split
  ·rename_i h
   have h:=Nat.eq_of_beq_eq_true h;cases b with
   | true=>rw [IE _ _ h]; rfl
   | false=>rw [HF _ _ h]; rfl
  ·rfl
 ·exact Nj _ _ _
theorem UZ:∀ (l:List V) (i:Nat),i<l.length->RZ l i=nth l i
 | [],_,h=>by simp at h
 | [v],i,h=>by
  have:i=0:=by simpa using h
  subst this;rfl
 | v::u::l,0,_=>by
  rw [RZ,Ep]
  ·rfl
  ·simp
 | v::u::l,i+1,h=>by
  rw [RZ,Ep]
  ·show (bif Nat.beq (i+1) 0 then v else RZ (u::l) (i+1-1))=nth (u::l) i
   rw [Nat.add_sub_cancel,UZ (u::l) i (by simpa using h)];rfl
  ·simp
theorem NL {f:Nat->Option V}:∀ {m k:Nat} {l:List V},Px f m k=some l->l.length=m∧∀ i,i<m->f (k+i)=some (nth l i)
 | 0,k,l,h=>by
  simp only [Px,Option.some.injEq] at h;subst h;exact ⟨rfl,λi hi=>absurd hi (Nat.not_lt_zero _)⟩
 | m+1,k,l,h=>by
  unfold Px at h;split at h
  ·rename_i v l' h1 h2
   simp only [Option.some.injEq] at h;subst h;obtain ⟨q1,q2⟩:=NL h2;refine ⟨by simp [q1],λi hi=>?_⟩;cases i with
   | zero=>exact h1
   | succ i =>have:=q2 i (by omega);rw [show k+(i+1)=Nat.succ k+i by omega];exact this
  ·cases h
theorem Ca (n:Nat) (g:Nat->V) (x:V) (i:Nat):AE n g x i=bif Nat.beq i n then x else g i:=Wx _ _ _
theorem N3 (n:Nat) (g g':Nat->V) (i:Nat):Aen n g g' i=bif Nat.blt i n then g i else g' (i-n):=Wx _ _ _
theorem D1 (g:Nat->V) (k:Nat) (x:V) (i:Nat):BJ g k x i=bif Nat.beq i k then x else g i:=Wx _ _ _
def At (S:Nat->Prop) (w:World) (b o:Nat) (cs:List Value):Prop :=
 ∀ j v,cs[j]? = some v->S b∧w.cell? ⟨b,o+j,none⟩=some v
def VR (S:Nat->Prop) (w:World):V->(Ai)->Value->Prop
 | .val v,_,c=>c=v
 | .str l,_,c=>c = .string ⟨l.toArray⟩
 | .agg cs,κ,c=>∃ ca:List Value,c = .agg ca.toArray∧go cs κ ca
 | .tup cs,κ,c=>∃ ca:List Value,c = .tuple ca.toArray∧go cs κ ca
 | .fn f cs,κ,c=>∃ ca:List Value,c = .func (.func f) #[] ca.toArray∧go cs κ ca
 | .nilS,_,c=>c = .slice none 0 0
 | .sl s n g,_,c=>∃ a cap,c = .slice a n cap∧n <= cap∧(n=0 ∨ ∃ b o,a=some ⟨b,o,none⟩ ∧
   ∀ i,i<n->∃ ci,VR S w (g i) (λ_=>none) ci∧ci.cells.size=s∧(∀ u ∈ ci.cells.toList,u.oneCell'=true)∧At S w b (o+i * s) ci.cells.toList)
 | .slr s n m g,_,c=>∃ a cap,c = .slice a n cap∧n <= m∧m <= cap∧(m=0 ∨ ∃ b o,a=some ⟨b,o,none⟩ ∧
   ∀ i,i<m->∃ ci,VR S w (g i) (λ_=>none) ci∧ci.cells.size=s∧(∀ u ∈ ci.cells.toList,u.oneCell'=true)∧At S w b (o+i * s) ci.cells.toList)
 | .pp v,_,c=>∃ b o cv,c = .pointer (some ⟨b,o,none⟩)∧VR S w v (λ_=>none) cv∧At S w b o cv.cells.toList
 | .ptr id off,κ,c=>∃ g,κ id=some (.pointer (some ⟨g,0,none⟩))∧c = .pointer (some ⟨g,off,none⟩)
 | .ref id,κ,c=>κ id=some c∧((∃ a n cap,c = .slice a n cap) ∨ (∃ b,c = .map (some b)) ∨ ∃ l,c = .func (.yield l) #[] #[])
 | .ept id s i off,κ,c=>∃ g n cap,κ id=some (.slice (some ⟨g,0,none⟩) n cap)∧c = .pointer (some ⟨g,i * s+off,none⟩)
 | .rct id k,κ,c=>∃ a n cap,κ id=some (.slice a n cap)∧k <= n∧c = .slice a k cap
 | .jref id,κ,c=>∃ ms,κ id=some (.tuple #[c,.agg ms])∧∃ a n cap,c = .slice a n cap
 | .jept id s i off,κ,c=>∃ g n cap ms,κ id=some (.tuple #[.slice (some ⟨g,0,none⟩) n cap,.agg ms])∧c = .pointer (some ⟨g,i * s+off,none⟩)
 | .mref id i,κ,c=>∃ o ms,κ id=some (.tuple #[o,.agg ms])∧ms[i]? = some c∧∃ a n cap,c = .slice a n cap
 | .mept id i s k off,κ,c=>∃ o ms g n cap,κ id=some (.tuple #[o,.agg ms])∧ms[i]? = some (.slice (some ⟨g,0,none⟩) n cap)∧c = .pointer (some ⟨g,k * s+off,none⟩)
 | .anym,_,c=>c = .map none ∨ ∃ b,c = .map (some b)
 | .mmap id i,κ,c=>∃ o ms,κ id=some (.tuple #[o,.agg ms])∧ms[ms.size / 2+i]? = some c∧(c = .map none ∨ ∃ b,c = .map (some b))
 | .und,_,_=>True
 where go:List V->(Ai)->List Value->Prop
 | [],_,l=>l=[]
 | v::vs,κ,l=>∃ a l',l=a::l'∧VR S w v κ a∧go vs κ l'
abbrev VRs (S:Nat->Prop) (w:World):=VR.go S w
def noK:Ai:=λ_=>none
theorem At.mono {S S':Nat->Prop} {w w':World} {b o:Nat} {cs:List Value} (h:At S w b o cs)
  (hS:∀ b,S b->S' b∧w'.heap[b]? = w.heap[b]?):At S' w' b o cs:=by
 intro j v hj;obtain ⟨h1,h2⟩:=h j v hj;obtain ⟨h3,h4⟩:=hS b h1;exact ⟨h3,by rw [<- h2]; exact World.cell?_of_block (a:=⟨b,o+j,none⟩) h4⟩
section
variable {S S':Nat->Prop} {w w':World}
mutual
theorem VR.mono (hS:∀ b,S b->S' b∧w'.heap[b]? = w.heap[b]?):∀ (v:V) (κ κ':Ai) (c:Value),
  (∀ id c,κ id=some c->κ' id=some c)->VR S w v κ c->VR S' w' v κ' c
 | .val _,_,_,_,_,h=>h
 | .str _,_,_,_,_,h=>h
 | .agg cs,_,_,_,hk,h=>by
  obtain ⟨ca,e,h⟩:=h;exact ⟨ca,e,VR.mono_go hS cs _ _ _ hk h⟩
 | .tup cs,_,_,_,hk,h=>by
  obtain ⟨ca,e,h⟩:=h;exact ⟨ca,e,VR.mono_go hS cs _ _ _ hk h⟩
 | .fn f cs,_,_,_,hk,h=>by
  obtain ⟨ca,e,h⟩:=h;exact ⟨ca,e,VR.mono_go hS cs _ _ _ hk h⟩
 | .nilS,_,_,_,_,h=>h
 | .sl s n g,_,_,_,_,h=>by
  obtain ⟨a,cap,e,hc,h⟩:=h;refine ⟨a,cap,e,hc,h.imp id ?_⟩
  rintro ⟨b,o,ea,h⟩
  refine ⟨b,o,ea,λi hi=>?_⟩;obtain ⟨ci,h1,h2,h3,h4⟩:=h i hi;exact ⟨ci,VR.mono hS (g i) _ _ _ (λ_ _ h=>h) h1,h2,h3,h4.mono hS⟩
 | .slr s n m g,_,_,_,_,h=>by
  obtain ⟨a,cap,e,hc,hm,h⟩:=h;refine ⟨a,cap,e,hc,hm,h.imp id ?_⟩
  rintro ⟨b,o,ea,h⟩
  refine ⟨b,o,ea,λi hi=>?_⟩;obtain ⟨ci,h1,h2,h3,h4⟩:=h i hi;exact ⟨ci,VR.mono hS (g i) _ _ _ (λ_ _ h=>h) h1,h2,h3,h4.mono hS⟩
 | .pp v,_,_,_,_,h=>by
  obtain ⟨b,o,cv,e,h1,h2⟩:=h;exact ⟨b,o,cv,e,VR.mono hS v _ _ _ (λ_ _ h=>h) h1,h2.mono hS⟩
 | .ptr id off,_,_,_,hk,h=>by
  obtain ⟨g,h1,h2⟩:=h;exact ⟨g,hk _ _ h1,h2⟩
 | .ref id,_,_,_,hk,h=>⟨hk _ _ h.1,h.2⟩
 | .ept id s i off,_,_,_,hk,h=>by
  obtain ⟨g,n,cap,h1,h2⟩:=h;exact ⟨g,n,cap,hk _ _ h1,h2⟩
 | .rct id k,_,_,_,hk,h=>by
  obtain ⟨g,n,cap,h1,h2⟩:=h;exact ⟨g,n,cap,hk _ _ h1,h2⟩
 | .jref id,_,_,_,hk,h=>by
  obtain ⟨ms,h1,h2⟩:=h;exact ⟨ms,hk _ _ h1,h2⟩
 | .jept id s i off,_,_,_,hk,h=>by
  obtain ⟨g,n,cap,ms,h1,h2⟩:=h;exact ⟨g,n,cap,ms,hk _ _ h1,h2⟩
 | .mref id i,_,_,_,hk,h=>by
  obtain ⟨o,ms,h1,h2⟩:=h;exact ⟨o,ms,hk _ _ h1,h2⟩
 | .mept id i s k off,_,_,_,hk,h=>by
  obtain ⟨o,ms,g,n,cap,h1,h2⟩:=h;exact ⟨o,ms,g,n,cap,hk _ _ h1,h2⟩
 | .anym,_,_,_,_,h=>h
 | .mmap id i,_,_,_,hk,h=>by
  obtain ⟨o,ms,h1,h2⟩:=h;exact ⟨o,ms,hk _ _ h1,h2⟩
 | .und,_,_,_,_,_=>trivial
theorem VR.mono_go (hS:∀ b,S b->S' b∧w'.heap[b]? = w.heap[b]?):∀ (vs:List V) (κ κ':Ai) (l:List Value),
  (∀ id c,κ id=some c->κ' id=some c)->VRs S w vs κ l->VRs S' w' vs κ' l
 | [],_,_,_,_,h=>h
 | v::vs,_,_,_,hk,h=>by
  obtain ⟨a,l',e,h1,h2⟩:=h;exact ⟨a,l',e,VR.mono hS v _ _ _ hk h1,VR.mono_go hS vs _ _ _ hk h2⟩
end
end
section
variable {S:Nat->Prop} {w:World} {κ:Ai}
theorem VRs.nil:VRs S w [] κ []:=rfl
theorem VRs.cons {v:V} {vs:List V} {a:Value} {l:List Value} (h:VR S w v κ a) (hs:VRs S w vs κ l):VRs S w (v::vs) κ (a::l):=⟨a,l,rfl,h,hs⟩
theorem VRs.length:∀ {vs:List V} {l:List Value},VRs S w vs κ l->l.length=vs.length
 | [],_,h=>by rw [show _=[] from h]; rfl
 | v::vs,_,h=>by
  obtain ⟨a,l',rfl,_,h2⟩:=h;simp [VRs.length h2]
theorem VRs.get:∀ {vs:List V} {l:List Value} {i:Nat} {v:V},VRs S w vs κ l->vs[i]? = some v->∃ c,l[i]? = some c∧VR S w v κ c
 | [],_,_,_,_,h=>by simp at h
 | v::vs,_,0,u,h,hi=>by
  obtain ⟨a,l',rfl,h1,h2⟩:=h;simp at hi; subst hi;exact ⟨a,by simp,h1⟩
 | v::vs,_,i+1,u,h,hi=>by
  obtain ⟨a,l',rfl,h1,h2⟩:=h;simp at hi;obtain ⟨c,h3,h4⟩:=VRs.get h2 hi;exact ⟨c,by simpa using h3,h4⟩
theorem KP:∀ (l:List V) (n:Nat),nth l n=(l[n]?).getD .und
 | [],_=>by simp [nth]
 | _::_,0=>by simp [nth]
 | _::l,n+1=>by simp [nth,KP l n]
theorem VRs.nth {vs:List V} {l:List Value} (h:VRs S w vs κ l) (i:Nat) (d:Value):VR S w (nth vs i) κ (l.getD i d):=by
 rw [KP];cases hv:vs[i]? with
 | none=>exact trivial
 | some v =>obtain ⟨c,h1,h2⟩:=h.get hv;simp [List.getD,h1,h2]
theorem VRs.set:∀ {vs:List V} {l:List Value} {v:V} {c:Value} (i:Nat),VRs S w vs κ l->VR S w v κ c->VRs S w (vs.set i v) κ (l.set i c)
 | [],_,_,_,_,h,_=>by rw [show _=[] from h]; exact rfl
 | u::vs,_,v,c,0,h,hv=>by
  obtain ⟨a,l',rfl,h1,h2⟩:=h;exact ⟨c,l',rfl,hv,h2⟩
 | u::vs,_,v,c,i+1,h,hv=>by
  obtain ⟨a,l',rfl,h1,h2⟩:=h;exact ⟨a,l'.set i c,rfl,h1,VRs.set i h2 hv⟩
theorem VRs.append:∀ {vs us:List V} {l m:List Value},VRs S w vs κ l->VRs S w us κ m->VRs S w (vs++us) κ (l++m)
 | [],_,_,_,h,hu=>by rw [show _=[] from h]; exact hu
 | v::vs,_,_,_,h,hu=>by
  obtain ⟨a,l',rfl,h1,h2⟩:=h;exact ⟨a,_,rfl,h1,VRs.append h2 hu⟩
theorem VRs.take:∀ {vs:List V} {l:List Value} (n:Nat),VRs S w vs κ l->VRs S w (vs.take n) κ (l.take n)
 | _,_,0,_=>by simp; exact rfl
 | [],_,n+1,h=>by rw [show _=[] from h]; simp; exact rfl
 | v::vs,_,n+1,h=>by
  obtain ⟨a,l',rfl,h1,h2⟩:=h;exact ⟨a,_,rfl,h1,VRs.take n h2⟩
theorem VRs.drop:∀ {vs:List V} {l:List Value} (n:Nat),VRs S w vs κ l->VRs S w (vs.drop n) κ (l.drop n)
 | _,_,0,h=>by simpa using h
 | [],_,n+1,h=>by rw [show _=[] from h]; simp; exact rfl
 | v::vs,_,n+1,h=>by
  obtain ⟨a,l',rfl,h1,h2⟩:=h;simpa using VRs.drop n h2
theorem EF:∀ {v:V} {c:Value},Jm v=true->VR S w v κ c->c.cells=#[c]∧c.oneCell'=true
 | .val v,c,hs,h=>by
  rw [show c=v from h];cases v <;> simp [Jm] at hs <;> exact ⟨rfl,rfl⟩
 | .str l,c,_,h=>by rw [show c=_ from h]; exact ⟨rfl,rfl⟩
 | .agg _,_,hs,_=>by simp [Jm] at hs
 | .tup _,_,hs,_=>by simp [Jm] at hs
 | .fn _ _,c,_,h=>by obtain ⟨ca,e,_⟩:=h; subst e; exact ⟨rfl,rfl⟩
 | .nilS,c,_,h=>by rw [show c=_ from h]; exact ⟨rfl,rfl⟩
 | .sl _ _ _,c,_,h=>by obtain ⟨a,cap,e,_,_⟩:=h; subst e; exact ⟨rfl,rfl⟩
 | .slr _ _ _ _,c,_,h=>by obtain ⟨a,cap,e,_,_⟩:=h; subst e; exact ⟨rfl,rfl⟩
 | .pp _,c,_,h=>by obtain ⟨b,o,cv,e,_⟩:=h; subst e; exact ⟨rfl,rfl⟩
 | .ptr _ _,c,_,h=>by obtain ⟨g,_,e⟩:=h; subst e; exact ⟨rfl,rfl⟩
 | .ref _,c,_,h=>by rcases h with ⟨_,⟨a,n,cap,e⟩ | ⟨b,e⟩ | ⟨b,e⟩⟩ <;> (subst e; exact ⟨rfl,rfl⟩)
 | .ept _ _ _ _,c,_,h=>by obtain ⟨g,n,cap,_,e⟩:=h; subst e; exact ⟨rfl,rfl⟩
 | .rct _ _,c,_,h=>by obtain ⟨g,n,cap,_,_,e⟩:=h; subst e; exact ⟨rfl,rfl⟩
 | .jref _,c,_,h=>by obtain ⟨ms,_,a,n,cap,e⟩:=h; subst e; exact ⟨rfl,rfl⟩
 | .jept _ _ _ _,c,_,h=>by obtain ⟨g,n,cap,ms,_,e⟩:=h; subst e; exact ⟨rfl,rfl⟩
 | .mref _ _,c,_,h=>by obtain ⟨o,ms,_,_,a,n,cap,e⟩:=h; subst e; exact ⟨rfl,rfl⟩
 | .mept _ _ _ _ _,c,_,h=>by obtain ⟨o,ms,g,n,cap,_,_,e⟩:=h; subst e; exact ⟨rfl,rfl⟩
 | .anym,c,_,h=>by obtain rfl | ⟨b,rfl⟩:=h <;> exact ⟨rfl,rfl⟩
 | .mmap _ _,c,_,h=>by obtain ⟨o,ms,_,_,rfl | ⟨b,rfl⟩⟩:=h <;> exact ⟨rfl,rfl⟩
 | .und,_,hs,_=>by simp [Jm] at hs
theorem QS:∀ {vs:List V} {l:List Value},Ta vs=true->VRs S w vs κ l->∀ u ∈ l,u.oneCell'=true
 | [],_,_,h=>by rw [show _=[] from h]; simp
 | v::vs,_,hs,h=>by
  obtain ⟨a,l',rfl,h1,h2⟩:=h;simp only [Ta] at hs;split at hs
  ·rename_i hv
   intro u hu;rcases List.mem_cons.1 hu with rfl | hu
   ·exact (EF hv h1).2
   ·exact QS hs h2 u hu
  ·cases hs
theorem Cp {v:V} {cs:List V} {c:Value} (hc:v.cells=some cs) (h:VR S w v κ c) :
  VRs S w cs κ c.cells.toList∧∀ u ∈ c.cells.toList,u.oneCell'=true:=by
 have one:Jm v=true->some [v]=some cs->VRs S w cs κ c.cells.toList∧∀ u ∈ c.cells.toList,u.oneCell'=true:=by
  intro hs he;obtain ⟨h1,h2⟩:=EF hs h;simp at he;subst he;rw [h1];exact ⟨⟨c,[],rfl,h,rfl⟩,by simp [h2]⟩
 cases v with
 | agg cs' =>
  simp only [V.cells] at hc;split at hc
  ·rename_i hs
   simp at hc; subst hc;obtain ⟨ca,rfl,h⟩:=h;exact ⟨by simpa [Value.cells] using h,by simpa [Value.cells] using QS hs h⟩
  ·cases hc
 | val v=>cases v <;> first | exact one rfl hc | (simp [V.cells] at hc)
 | tup _=>simp [V.cells] at hc
 | und=>simp [V.cells] at hc
 | _=>exact one rfl hc
theorem Wo (v:Value):VR S w (NU v) κ v:=by
 unfold NU;split
 ·rename_i s
  show Value.string s=_;congr 1
 ·exact rfl
 ·trivial
 ·trivial
 ·exact rfl
theorem Lg:∀ (l:List Value),VRs S w (l.map NU) κ l
 | []=>rfl
 | v::l=>⟨v,l,rfl,Wo v,Lg l⟩
theorem Cz (v:Value):VR S w (ofValue v) κ v:=by
 unfold ofValue;split
 ·rename_i cs
  exact ⟨cs.toList,by simp,Lg _⟩
 ·exact Wo v
end
def Ao7 (P:Program) (k e:TypeId) (n:Nat) (get:Int->Int) (o:Obj):Prop :=
 ∃ es clock,o = .map es clock∧WideElems.Fit P k (plainElem (H:=Unit) P e) es clock∧es.size <= n ∧
  ∀ x,(Lit.int .i64 x).wf=true->(DataW.map ((es.toList.map (WideElems.rg P k (plainElem (H:=Unit) P e))).foldr DataW.insert [])).atKey (.int .i64 x) (.lit (.int .i64 0)) = .lit (.int .i64 (get x))
@[irreducible] def XZ (t:TypeId) (n:Nat) (get:Int->Int) (o:Obj):Prop :=
 match Iw.underlying t with
 | some (.map k e)=>Ao7 Iw k e n get o
 | _=>False
def Ao6 (P:Program) (k e:TypeId) (n:Nat) (hs:Int->Bool) (get:Int->Int) (o:Obj):Prop :=
 ∃ es clock,o = .map es clock∧WideElems.Fit P k (plainElem (H:=Unit) P e) es clock∧es.size=n∧(∀ x,hs x=false->get x=0) ∧
  ∀ x,(Lit.int .i64 x).wf=true->∀ d,(DataW.map ((es.toList.map (WideElems.rg P k (plainElem (H:=Unit) P e))).foldr DataW.insert [])).atKey (.int .i64 x) d=bif hs x then .lit (.int .i64 (get x)) else d
@[irreducible] def Rw (t:TypeId) (n:Nat) (hs:Int->Bool) (get:Int->Int) (o:Obj):Prop :=
 match Iw.underlying t with
 | some (.map k e)=>Ao6 Iw k e n hs get o
 | _=>False
def DC:Key->Value
 | .i x=>.int .i64 x
 | .s l=>.string ⟨l.toArray⟩
def Wt (k:TypeId) (x:Key):Prop:=∃ l,keyOf Iw k (DC x)=some l
def Anb (S:Nat->Prop) (w:World) (k:TypeId) (hs:Key->Bool) (get:Key->V) (o:Obj):Prop :=
 ∃ es clock,o = .map es clock∧(∀ (i j:Nat) (x y:MapEntry),es[i]? = some x->es[j]? = some y->x.key=y.key->i=j) ∧
  (∀ (i:Nat) (x:MapEntry),es[i]? = some x->∃ y,x.key=DC y∧Wt k y∧hs y=true∧VR S w (get y) noK x.val) ∧
  ∀ y,Wt k y->hs y=true->∃ (i:Nat) (x:MapEntry),es[i]? = some x∧x.key=DC y
def asK:List (Key×V)->Key->Option V
 | [],_=>none
 | a::l,k=>match keq k a.1 with
  | true=>some a.2
  | false=>asK l k
def Iu (S:Nat->Prop) (w:World) (t:TypeId) (hs:Key->Bool) (get:Key->V) (o:Obj):Prop :=
 match Iw.underlying t with
 | some (.map k _)=>Anb S w k hs get o
 | _=>False
theorem Iu.mono {S S':Nat->Prop} {w w':World} {t:TypeId} {hs:Key->Bool} {get:Key->V} {o:Obj} (hS:∀ b,S b->S' b∧w'.heap[b]? = w.heap[b]?) (h:Iu S w t hs get o):Iu S' w' t hs get o:=by
 unfold Iu at h ⊢;split
 ·rename_i k e he
  rw [he] at h;obtain ⟨es,clock,h1,h2,h3,h4⟩:=h;refine ⟨es,clock,h1,h2,λi x hx=>?_,h4⟩;obtain ⟨y,q1,q2,q3,q4⟩:=h3 i x hx;exact ⟨y,q1,q2,q3,VR.mono hS _ _ _ _ (λ_ _ h=>h) q4⟩
 ·rename_i hne
  split at h
  ·rename_i k e he
   exact (hne k e he).elim
  ·exact h
def CL (S:Nat->Prop) (w:World) (s n:Nat) (g:Nat->V) (xs:List Value):Prop :=
 ∀ i,i<n->∃ ci,VR S w (g i) noK ci∧ci.cells.size=s∧(∀ u ∈ ci.cells.toList,u.oneCell'=true)∧∀ j,j<s->xs[i * s+j]? = ci.cells[j]?
def Ak:Option Value->Option Nat
 | some (.pointer (some a))=>some a.block
 | some (.slice (some a) _ _)=>some a.block
 | some (.map (some b))=>some b
 | some (.func (.yield l) _ _)=>some l
 | _=>none
def N8 (S:Nat->Prop) (w:World) (j:Jag) (xs:List Value):Prop :=
 ∀ i,i<j.n->∃ ci,VR S w (j.get i) noK ci∧ci.cells.size=j.size∧(∀ u ∈ ci.cells.toList,u.oneCell'=true)∧∀ k,k<j.size->k ≠ j.off->(∀ q,j.mp=some q->k ≠ q.off)->xs[i * j.size+k]? = ci.cells[k]?
def HN (S:Nat->Prop) (w:World) (j:Jag) (xs:List Value) (i:Nat) (m:Value):Prop :=
 match j.live i with
 | true=>xs[i * j.size+j.off]? = some m∧∃ ys,w.ownsRow 0 j.e' j.s' m (j.len i) ys∧CL S w j.s' (j.len i) (j.mem i) ys
 | false=>m = .slice none 0 0
def On (w:World) (j:Jag) (q:Mp) (xs:List Value) (i:Nat) (m:Value):Prop :=
 xs[i * j.size+q.off]? = some m∧match q.live i with
 | true=>∃ b o,m = .map (some b)∧w.heap[b]? = some o∧Rw q.t (q.len i) (q.hs i) (q.get i) o
 | false=>m = .map none
def AaP (S:Nat->Prop) (w:World) (j:Jag) (xs:List Value) (i:Nat) (m:Value):Prop :=
 (i<j.n∧HN S w j xs i m) ∨ ∃ q k,j.mp=some q∧i=j.n+k∧On w j q xs k m
def mpN (j:Jag):Nat:=match j.mp with
 | none=>0
 | some _=>j.n
def Aoh (j:Jag):Prop:=∀ q,j.mp=some q->q.off<j.size∧q.off ≠ j.off
def Ann (c:Value) (ms:Array Value):Prop :=
 ∀ (i:Nat) (m:Value) (g:Nat),ms[i]? = some m->Ak (some m)=some g->Ak (some c) ≠ some g∧∀ (i':Nat) (m':Value),i' ≠ i->ms[i']? = some m'->Ak (some m') ≠ some g
def HO (S:Nat->Prop) (w:World) (j:Jag) (c:Value) (ms:Array Value) (xs:List Value):Prop :=
 0<j.size∧0<j.s'∧(j.off<j.size∧Aoh j)∧ms.size=j.n+mpN j∧w.ownsRow 0 j.e j.size c j.n xs∧(∀ u ∈ xs,u.oneCell'=true)∧N8 S w j xs∧(∀ i m,ms[i]? = some m->AaP S w j xs i m)∧Ann c ms
def exC:Ex->Code
 | .nm=>.skip
 | .ex i=>.exit i
 | .rt=>.ret
def AmY (r:Loop):Rs->Prop
 | .ready=>r.state = .ready∧r.pending=none
 | .busy=>r.state = .busy
 | .done e=>r.state = .done∧r.pending=some (exC e)
def Ao5 (S:Nat->Prop) (w:World) (κ:Ai) (v:Option Value) (cd:RngCode) (ts:List V) (q:Rs):Prop :=
 ∃ l r,v=some (.func (.yield l) #[] #[])∧w.heap[l]? = some (.loop r)∧(r.params=cd.ps∧r.assign=cd.a∧r.body=cd.b)∧AmY r q∧VRs S w ts κ r.tmps.toList
def A5 (S:Nat->Prop) (w:World) (κ:Ai) (v:Option Value):Blk->Prop
 | .cells cs=>∃ g e ca,v=some (.pointer (some ⟨g,0,none⟩))∧w.heap[g]? = some (.cells ca e (0,0))∧VRs S w cs κ ca.toList
 | .row e s n g=>0<s∧∃ c xs,v=some c∧w.ownsRow 0 e s c n xs∧CL S w s n g xs
 | .imap t n get=>∃ b o,v=some (.map (some b))∧w.heap[b]? = some o∧XZ t n get o
 | .gmap t ks hs get=>∃ b o,v=some (.map (some b))∧w.heap[b]? = some o∧Iu S w t hs get o∧∀ k x,asK ks k=some x->hs k=true∧get k=x
 | .xrow _ e s n g=>0<s∧∃ c xs,v=some c∧w.ownsRow 0 e s c n xs∧CL S w s n g xs
 | .jag j=>∃ c ms xs,v=some (.tuple #[c,.agg ms])∧HO S w j c ms xs
 | .saved vs=>vs=UX ∨ ∃ l:List Value,v=some (.tuple l.toArray)∧VRs S w vs κ l
 | .rng cd ts q=>Ao5 S w κ v cd ts q
 | .dead=>True
def V4 (v:Option Value) (g:Nat):Prop :=
 ∃ (c:Value) (ms:Array Value),v=some (.tuple #[c,.agg ms])∧(Ak (some c)=some g ∨ ∃ (i:Nat) (m:Value),ms[i]? = some m∧Ak (some m)=some g)
def inBlk (v:Option Value) (g:Nat):Blk->Prop
 | .jag _=>V4 v g
 | .saved _=>False
 | .dead=>False
 | _=>Ak v=some g
def A2 (κ:Ai) (h:List Blk) (i g:Nat):Prop:=∃ b,h[i]? = some b∧inBlk (κ i) g b
def C5 (b:Blk):Prop:=(∃ e s n g,b = .xrow false e s n g) ∨ ∃ vs,b = .saved vs
def Bs (b b0:Blk):Prop:=match b with
 | .xrow false e s n _=>∃ g0,b0 = .xrow false e s n g0
 | .saved _=>∃ vs0,b0 = .saved vs0
 | _=>True
structure Good (κ:Ai) (S:Nat->Prop) (h:List Blk) (w:World):Prop where
 blk:∀ i b,h[i]? = some b->A5 S w κ (κ i) b
 sep:∀ i j g,i ≠ j->A2 κ h i g->¬ A2 κ h j g
 out:∀ b,S b->b<w.heap.size∧∀ i,¬ A2 κ h i b
 dom:∀ i,h.length <= i->κ i=none
def Em (w w':World) (b p:Nat):Prop:=∀ ca e z,w.heap[b]? = some (.cells ca e z)->∃ ca',w'.heap[b]? = some (.cells ca' e z)∧ca'.size=ca.size∧∀ j,j<p->ca'[j]? = ca[j]?
def AaN (κ:Ai) (h:List Blk) (w:World) (b p:Nat):Prop :=
 b<w.heap.size∧∀ i,A2 κ h i b->∃ e s n g,h[i]? = some (.xrow true e s n g)∧p <= n * s
structure Ext (κ:Ai) (S:Nat->Prop) (h:List Blk) (w:World) (κ':Ai) (S':Nat->Prop) (h':List Blk) (w':World):Prop where
 os:w'.os=w.os
 tape:w'.tape=w.tape
 output:w'.output=w.output
 size:w.heap.size <= w'.heap.size
 keep:∀ b,b<w.heap.size->(∀ i,¬ A2 κ h i b)->w'.heap[b]? = w.heap[b]?
 own:∀ i b,A2 κ' h' i b->(∃ j,A2 κ h j b) ∨ w.heap.size <= b
 sub:∀ b,S' b->S b ∨ (∃ j,A2 κ h j b) ∨ w.heap.size <= b
 sup:∀ b,S b->S' b
 pre:∀ b p,AaN κ h w b p->AaN κ' h' w' b p∧Em w w' b p
 fix:∀ i b,h'[i]? = some b->C5 b->κ' i=κ i∧∃ b0,h[i]? = some b0∧Bs b b0
theorem Bs.refl {b:Blk} (h:C5 b):Bs b b:=by
 rcases h with ⟨e,s,n,g,rfl⟩ | ⟨vs,rfl⟩
 ·exact ⟨g,rfl⟩
 ·exact ⟨vs,rfl⟩
theorem Bs.fixed {b b0:Blk} (h:C5 b) (ha:Bs b b0):C5 b0:=by
 rcases h with ⟨e,s,n,g,rfl⟩ | ⟨vs,rfl⟩
 ·obtain ⟨g0,rfl⟩:=ha
  exact .inl ⟨_,_,_,_,rfl⟩
 ·obtain ⟨vs0,rfl⟩:=ha
  exact .inr ⟨_,rfl⟩
theorem Bs.trans {b b0 b1:Blk} (h:C5 b) (ha:Bs b b0) (hb:Bs b0 b1):Bs b b1:=by
 rcases h with ⟨e,s,n,g,rfl⟩ | ⟨vs,rfl⟩
 ·obtain ⟨g0,rfl⟩:=ha
  exact hb
 ·obtain ⟨vs0,rfl⟩:=ha
  exact hb
theorem Em.refl (w:World) (b p:Nat):Em w w b p:=λca _ _ h=>⟨ca,h,rfl,λ_ _=>rfl⟩
theorem Em.same {w w':World} {b p:Nat} (h:w'.heap[b]? = w.heap[b]?):Em w w' b p:=λca _ _ hc=>⟨ca,by rw [h]; exact hc,rfl,λ_ _=>rfl⟩
theorem Em.trans {w w' w'':World} {b p:Nat} (h:Em w w' b p) (h':Em w' w'' b p):Em w w'' b p:=λca e z hc=>by
 obtain ⟨c1,q1,q2,q3⟩:=h ca e z hc;obtain ⟨c2,r1,r2,r3⟩:=h' c1 e z q1;exact ⟨c2,r1,r2.trans q2,λj hj=>(r3 j hj).trans (q3 j hj)⟩
theorem Em.mono {w w':World} {b p p':Nat} (h:Em w w' b p) (hp:p' <= p):Em w w' b p':=λca e z hc=>by
 obtain ⟨c1,q1,q2,q3⟩:=h ca e z hc;exact ⟨c1,q1,q2,λj hj=>q3 j (Nat.lt_of_lt_of_le hj hp)⟩
theorem HB {κ κ':Ai} {h h':List Blk} {w w':World} (hsz:w.heap.size <= w'.heap.size) (keep:∀ b,b<w.heap.size->(∀ i,¬ A2 κ h i b)->w'.heap[b]? = w.heap[b]?)
  (own:∀ i b,A2 κ' h' i b->b<w.heap.size->∃ j,A2 κ h j b∧∀ e s n g,h[j]? = some (.xrow true e s n g)->∃ e' s' n' g',h'[i]? = some (.xrow true e' s' n' g')∧n * s <= n' * s')
  (hx:∀ i e s n g b,h[i]? = some (.xrow true e s n g)->A2 κ h i b->Em w w' b (n * s)) :
  ∀ b p,AaN κ h w b p->AaN κ' h' w' b p∧Em w w' b p:=by
 intro b p hs;refine ⟨⟨Nat.lt_of_lt_of_le hs.1 hsz,λi hi=>?_⟩,?_⟩
 ·obtain ⟨j,hj,hx'⟩:=own i b hi hs.1
  obtain ⟨e,s,n,g,hh,hp⟩:=hs.2 j hj;obtain ⟨e',s',n',g',q1,q2⟩:=hx' e s n g hh;exact ⟨e',s',n',g',q1,Nat.le_trans hp q2⟩
 ·by_cases hn:∀ i,¬ A2 κ h i b
  ·exact Em.same (keep b hs.1 hn)
  ·obtain ⟨i,hi⟩:=Classical.not_forall.1 hn
   have hi:=Classical.not_not.1 hi;obtain ⟨e,s,n,g,hh,hp⟩:=hs.2 i hi;exact (hx i e s n g b hh hi).mono hp
theorem Ext.refl (κ:Ai) (S:Nat->Prop) (h:List Blk) (w:World):Ext κ S h w κ S h w :=
 ⟨rfl,rfl,rfl,Nat.le_refl _,λ_ _ _=>rfl,λi _ hb=>.inl ⟨i,hb⟩,λ_ hb=>.inl hb,λ_ hb=>hb,λb p h=>⟨h,Em.refl _ _ _⟩,λ_ b h hb=>⟨rfl,b,h,Bs.refl hb⟩⟩
theorem Ext.trans {κ κ' κ'':Ai} {S S' S'':Nat->Prop} {h h' h'':List Blk} {w w' w'':World}
  (a:Ext κ S h w κ' S' h' w') (b:Ext κ' S' h' w' κ'' S'' h'' w''):Ext κ S h w κ'' S'' h'' w'' where
 os:=b.os.trans a.os
 tape:=b.tape.trans a.tape
 output:=b.output.trans a.output
 size:=Nat.le_trans a.size b.size
 keep:=λk hk hn=>by
  rw [b.keep k (Nat.lt_of_lt_of_le hk a.size) (λi hi=>?_),a.keep k hk hn];rcases a.own i k hi with ⟨j,hj⟩ | hle
  ·exact hn j hj
  ·omega
 own:=λi k hi=>by
  rcases b.own i k hi with ⟨j,hj⟩ | hle
  ·exact a.own j k hj
  ·exact .inr (Nat.le_trans a.size hle)
 sub:=λk hk=>by
  rcases b.sub k hk with h1 | ⟨j,hj⟩ | hle
  ·exact a.sub k h1
  ·exact (a.own j k hj).elim (λh=>.inr (.inl h)) (λh=>.inr (.inr h))
  ·exact .inr (.inr (Nat.le_trans a.size hle))
 sup:=λk hk=>b.sup k (a.sup k hk)
 pre:=λk p hk=>by
  obtain ⟨h1,h2⟩:=a.pre k p hk;obtain ⟨h3,h4⟩:=b.pre k p h1;exact ⟨h3,h2.trans h4⟩
 fix:=λi bl hi hf=>by
  obtain ⟨h1,g1,h2,h5⟩:=b.fix i bl hi hf;obtain ⟨h3,g2,h4,h6⟩:=a.fix i g1 h2 (h5.fixed hf);exact ⟨h1.trans h3,g2,h4,h5.trans hf h6⟩
theorem Ext.pers {κ κ':Ai} {S S':Nat->Prop} {h h':List Blk} {w w':World} (e:Ext κ S h w κ' S' h' w') (g:Good κ S h w) :
  ∀ b,S b->S' b∧w'.heap[b]? = w.heap[b]? :=
 λb hb=>⟨e.sup b hb,e.keep b (g.out b hb).1 (g.out b hb).2⟩
theorem CL.mono {S S':Nat->Prop} {w w':World} {s n:Nat} {g:Nat->V} {xs:List Value} (h:CL S w s n g xs)
  (hS:∀ b,S b->S' b∧w'.heap[b]? = w.heap[b]?):CL S' w' s n g xs:=λi hi=>by
 obtain ⟨ci,h1,h2,h3,h4⟩:=h i hi;exact ⟨ci,VR.mono hS _ _ _ _ (λ_ _ h=>h) h1,h2,h3,h4⟩
end Go.Sy
