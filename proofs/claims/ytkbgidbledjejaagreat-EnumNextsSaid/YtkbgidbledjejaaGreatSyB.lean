/-
  The program that the evaluator's maps are of. No conditions.
-/
import Derived.Test.YtkbgidbledjejaaGreatProg
import Derived.Test.YtkbgidbledjejaaGreatSyA
import Derived.Maps.Own
import Derived.Laws.AppendOwn
import Derived.Below
namespace Go.Sy
@[irreducible] noncomputable def Is:Program:=Go.Proofs.Tryz.prog
theorem Afw:Go.Proofs.Tryz.prog=Is:=by unfold Is; rfl
end Go.Sy
namespace Go.Sy
theorem Oi (u v:V):J3 true u v=u:=by
 unfold J3;split
 ·split <;> rfl
 all_goals rfl
theorem VN:∀ {k k':IntKind},XH k k'=true->k=k':=by
 intro k k' h;cases k <;> cases k' <;> first | rfl | cases h
theorem LS (u v:V):J3 false u v=v:=by
 unfold J3;split
 ·split
  ·rename_i h
   rw [VN h];rfl
  ·rfl
 all_goals rfl
theorem IE:∀ (us vs:List V),us.length=vs.length->IF true us vs=us
 | [],[],_=>rfl
 | u::us,v::vs,h=>by rw [IF,Oi,IE us vs (by simpa using h)]
 | [],_::_,h=>by simp at h
 | _::_,[],h=>by simp at h
theorem H7:∀ (us vs:List V),us.length=vs.length->IF false us vs=vs
 | [],[],_=>rfl
 | u::us,v::vs,h=>by rw [IF,LS,H7 us vs (by simpa using h)]
 | [],_::_,h=>by simp at h
 | _::_,[],h=>by simp at h
theorem WI (b:Bool) (u v:V):vif b u v=bif b then u else v:=by
 unfold vif;split
 ·split
  ·rename_i h
   have h:=Nat.eq_of_beq_eq_true h;cases b with
   | true=>rw [IE _ _ h]; rfl
   | false=>rw [H7 _ _ h]; rfl
  ·rfl
 ·rfl
theorem Nt (b:Bool) (u v:V):J3 b u v=bif b then u else v:=by
 cases b with
 | true=>exact Oi u v
 | false=>exact LS u v
theorem Et (b:Bool) (u v:V):Ry b u v=bif b then u else v:=by
 unfold Ry;split
 ·split
  ·rename_i h
   have h:=Nat.eq_of_beq_eq_true h;cases b with
   | true=>rw [IE _ _ h]; rfl
   | false=>rw [H7 _ _ h]; rfl
  ·rfl
 ·exact Nt _ _ _
theorem Vq:∀ (l:List V) (i:Nat),i<l.length->Sx l i=nth l i
 | [],_,h=>by simp at h
 | [v],i,h=>by
  have:i=0:=by simpa using h
  subst this;rfl
 | v::u::l,0,_=>by
  rw [Sx,Et]
  ·rfl
  ·simp
 | v::u::l,i+1,h=>by
  rw [Sx,Et]
  ·show (bif Nat.beq (i+1) 0 then v else Sx (u::l) (i+1-1))=nth (u::l) i
   rw [Nat.add_sub_cancel,Vq (u::l) i (by simpa using h)];rfl
  ·simp
theorem NY {f:Nat->Option V}:∀ {m k:Nat} {l:List V},PK f m k=some l->l.length=m∧∀ i,i<m->f (k+i)=some (nth l i)
 | 0,k,l,h=>by
  simp only [PK,Option.some.injEq] at h;subst h;exact ⟨rfl,λi hi=>absurd hi (Nat.not_lt_zero _)⟩
 | m+1,k,l,h=>by
  unfold PK at h;split at h
  ·rename_i v l' h1 h2
   simp only [Option.some.injEq] at h;subst h;obtain ⟨q1,q2⟩:=NY h2;refine ⟨by simp [q1],λi hi=>?_⟩;cases i with
   | zero=>exact h1
   | succ i =>have:=q2 i (by omega);rw [show k+(i+1)=Nat.succ k+i by omega];exact this
  ·cases h
theorem BS (n:Nat) (g:Nat->V) (x:V) (i:Nat):AA n g x i=bif Nat.beq i n then x else g i:=WI _ _ _
theorem NF (n:Nat) (g g':Nat->V) (i:Nat):AeS n g g' i=bif Nat.blt i n then g i else g' (i-n):=WI _ _ _
theorem D7 (g:Nat->V) (k:Nat) (x:V) (i:Nat):BF g k x i=bif Nat.beq i k then x else g i:=WI _ _ _
def At (S:Nat->Prop) (w:World) (b o:Nat) (cs:List Value):Prop :=
 ∀ j v,cs[j]? = some v->S b∧w.cell? ⟨b,o+j,none⟩=some v
def VR (S:Nat->Prop) (w:World):V->(Ai)->Value->Prop
 | .val v,_,c=>c=v
 | .str l,_,c=>c = .string ⟨l.toArray⟩
 | .agg cs,κ,c=>∃ ca:List Value,c = .agg ca.toArray∧go cs κ ca
 | .tup cs,κ,c=>∃ ca:List Value,c = .tuple ca.toArray∧go cs κ ca
 | .fn f cs,κ,c=>∃ ca:List Value,c = .func (.func f) #[] ca.toArray∧go cs κ ca
 | .nilS,_,c=>c = .slice none 0 0
 | .sl s n g,_,c=>∃ a cap,c = .slice a n cap∧n <= cap∧(n=0 ∨ ∃ b o,a=some ⟨b,o,none⟩ ∧
   ∀ i,i<n->∃ ci,VR S w (g i) (λ_=>none) ci∧ci.cells.size=s∧(∀ u ∈ ci.cells.toList,u.oneCell'=true)∧At S w b (o+i * s) ci.cells.toList)
 | .slr s n m g,_,c=>∃ a cap,c = .slice a n cap∧n <= m∧m <= cap∧(m=0 ∨ ∃ b o,a=some ⟨b,o,none⟩ ∧
   ∀ i,i<m->∃ ci,VR S w (g i) (λ_=>none) ci∧ci.cells.size=s∧(∀ u ∈ ci.cells.toList,u.oneCell'=true)∧At S w b (o+i * s) ci.cells.toList)
 | .pp v,_,c=>∃ b o cv,c = .pointer (some ⟨b,o,none⟩)∧VR S w v (λ_=>none) cv∧At S w b o cv.cells.toList
 | .ptr id off,κ,c=>∃ g,κ id=some (.pointer (some ⟨g,0,none⟩))∧c = .pointer (some ⟨g,off,none⟩)
 | .ref id,κ,c=>κ id=some c∧((∃ a n cap,c = .slice a n cap) ∨ (∃ b,c = .map (some b)) ∨ ∃ l,c = .func (.yield l) #[] #[])
 | .ept id s i off,κ,c=>∃ g n cap,κ id=some (.slice (some ⟨g,0,none⟩) n cap)∧c = .pointer (some ⟨g,i * s+off,none⟩)
 | .rct id k,κ,c=>∃ a n cap,κ id=some (.slice a n cap)∧k <= n∧c = .slice a k cap
 | .jref id,κ,c=>∃ ms,κ id=some (.tuple #[c,.agg ms])∧∃ a n cap,c = .slice a n cap
 | .jept id s i off,κ,c=>∃ g n cap ms,κ id=some (.tuple #[.slice (some ⟨g,0,none⟩) n cap,.agg ms])∧c = .pointer (some ⟨g,i * s+off,none⟩)
 | .mref id i,κ,c=>∃ o ms,κ id=some (.tuple #[o,.agg ms])∧ms[i]? = some c∧∃ a n cap,c = .slice a n cap
 | .mept id i s k off,κ,c=>∃ o ms g n cap,κ id=some (.tuple #[o,.agg ms])∧ms[i]? = some (.slice (some ⟨g,0,none⟩) n cap)∧c = .pointer (some ⟨g,k * s+off,none⟩)
 | .anym,_,c=>c = .map none ∨ ∃ b,c = .map (some b)
 | .mmap id i,κ,c=>∃ o ms,κ id=some (.tuple #[o,.agg ms])∧ms[ms.size / 2+i]? = some c∧(c = .map none ∨ ∃ b,c = .map (some b))
 | .und,_,_=>True
 where go:List V->(Ai)->List Value->Prop
 | [],_,l=>l=[]
 | v::vs,κ,l=>∃ a l',l=a::l'∧VR S w v κ a∧go vs κ l'
abbrev VRs (S:Nat->Prop) (w:World):=VR.go S w
def noK:Ai:=λ_=>none
theorem At.mono {S S':Nat->Prop} {w w':World} {b o:Nat} {cs:List Value} (h:At S w b o cs)
  (hS:∀ b,S b->S' b∧w'.heap[b]? = w.heap[b]?):At S' w' b o cs:=by
 intro j v hj;obtain ⟨h1,h2⟩:=h j v hj;obtain ⟨h3,h4⟩:=hS b h1;exact ⟨h3,by rw [<- h2]; exact World.cell?_of_block (a:=⟨b,o+j,none⟩) h4⟩
section
variable {S S':Nat->Prop} {w w':World}
mutual
theorem VR.mono (hS:∀ b,S b->S' b∧w'.heap[b]? = w.heap[b]?):∀ (v:V) (κ κ':Ai) (c:Value),
  (∀ id c,κ id=some c->κ' id=some c)->VR S w v κ c->VR S' w' v κ' c
 | .val _,_,_,_,_,h=>h
 | .str _,_,_,_,_,h=>h
 | .agg cs,_,_,_,hk,h=>by
  obtain ⟨ca,e,h⟩:=h;exact ⟨ca,e,VR.mono_go hS cs _ _ _ hk h⟩
 | .tup cs,_,_,_,hk,h=>by
  obtain ⟨ca,e,h⟩:=h;exact ⟨ca,e,VR.mono_go hS cs _ _ _ hk h⟩
 | .fn f cs,_,_,_,hk,h=>by
  obtain ⟨ca,e,h⟩:=h;exact ⟨ca,e,VR.mono_go hS cs _ _ _ hk h⟩
 | .nilS,_,_,_,_,h=>h
 | .sl s n g,_,_,_,_,h=>by
  obtain ⟨a,cap,e,hc,h⟩:=h;refine ⟨a,cap,e,hc,h.imp id ?_⟩
  rintro ⟨b,o,ea,h⟩
  refine ⟨b,o,ea,λi hi=>?_⟩;obtain ⟨ci,h1,h2,h3,h4⟩:=h i hi;exact ⟨ci,VR.mono hS (g i) _ _ _ (λ_ _ h=>h) h1,h2,h3,h4.mono hS⟩
 | .slr s n m g,_,_,_,_,h=>by
  obtain ⟨a,cap,e,hc,hm,h⟩:=h;refine ⟨a,cap,e,hc,hm,h.imp id ?_⟩
  rintro ⟨b,o,ea,h⟩
  refine ⟨b,o,ea,λi hi=>?_⟩;obtain ⟨ci,h1,h2,h3,h4⟩:=h i hi;exact ⟨ci,VR.mono hS (g i) _ _ _ (λ_ _ h=>h) h1,h2,h3,h4.mono hS⟩
 | .pp v,_,_,_,_,h=>by
  obtain ⟨b,o,cv,e,h1,h2⟩:=h;exact ⟨b,o,cv,e,VR.mono hS v _ _ _ (λ_ _ h=>h) h1,h2.mono hS⟩
 | .ptr id off,_,_,_,hk,h=>by
  obtain ⟨g,h1,h2⟩:=h;exact ⟨g,hk _ _ h1,h2⟩
 | .ref id,_,_,_,hk,h=>⟨hk _ _ h.1,h.2⟩
 | .ept id s i off,_,_,_,hk,h=>by
  obtain ⟨g,n,cap,h1,h2⟩:=h;exact ⟨g,n,cap,hk _ _ h1,h2⟩
 | .rct id k,_,_,_,hk,h=>by
  obtain ⟨g,n,cap,h1,h2⟩:=h;exact ⟨g,n,cap,hk _ _ h1,h2⟩
 | .jref id,_,_,_,hk,h=>by
  obtain ⟨ms,h1,h2⟩:=h;exact ⟨ms,hk _ _ h1,h2⟩
 | .jept id s i off,_,_,_,hk,h=>by
  obtain ⟨g,n,cap,ms,h1,h2⟩:=h;exact ⟨g,n,cap,ms,hk _ _ h1,h2⟩
 | .mref id i,_,_,_,hk,h=>by
  obtain ⟨o,ms,h1,h2⟩:=h;exact ⟨o,ms,hk _ _ h1,h2⟩
 | .mept id i s k off,_,_,_,hk,h=>by
  obtain ⟨o,ms,g,n,cap,h1,h2⟩:=h;exact ⟨o,ms,g,n,cap,hk _ _ h1,h2⟩
 | .anym,_,_,_,_,h=>h
 | .mmap id i,_,_,_,hk,h=>by
  obtain ⟨o,ms,h1,h2⟩:=h;exact ⟨o,ms,hk _ _ h1,h2⟩
 | .und,_,_,_,_,_=>trivial
theorem VR.mono_go (hS:∀ b,S b->S' b∧w'.heap[b]? = w.heap[b]?):∀ (vs:List V) (κ κ':Ai) (l:List Value),
  (∀ id c,κ id=some c->κ' id=some c)->VRs S w vs κ l->VRs S' w' vs κ' l
 | [],_,_,_,_,h=>h
 | v::vs,_,_,_,hk,h=>by
  obtain ⟨a,l',e,h1,h2⟩:=h;exact ⟨a,l',e,VR.mono hS v _ _ _ hk h1,VR.mono_go hS vs _ _ _ hk h2⟩
end
end
section
variable {S:Nat->Prop} {w:World} {κ:Ai}
theorem VRs.length:∀ {vs:List V} {l:List Value},VRs S w vs κ l->l.length=vs.length
 | [],_,h=>by rw [show _=[] from h]; rfl
 | v::vs,_,h=>by
  obtain ⟨a,l',rfl,_,h2⟩:=h;simp [VRs.length h2]
theorem VRs.get:∀ {vs:List V} {l:List Value} {i:Nat} {v:V},VRs S w vs κ l->vs[i]? = some v->∃ c,l[i]? = some c∧VR S w v κ c
 | [],_,_,_,_,h=>by simp at h
 | v::vs,_,0,u,h,hi=>by
  obtain ⟨a,l',rfl,h1,h2⟩:=h;simp at hi; subst hi;exact ⟨a,by simp,h1⟩
 | v::vs,_,i+1,u,h,hi=>by
  obtain ⟨a,l',rfl,h1,h2⟩:=h;simp at hi;obtain ⟨c,h3,h4⟩:=VRs.get h2 hi;exact ⟨c,by simpa using h3,h4⟩
theorem KL:∀ (l:List V) (n:Nat),nth l n=(l[n]?).getD .und
 | [],_=>by simp [nth]
 | _::_,0=>by simp [nth]
 | _::l,n+1=>by simp [nth,KL l n]
theorem VRs.nth {vs:List V} {l:List Value} (h:VRs S w vs κ l) (i:Nat) (d:Value):VR S w (nth vs i) κ (l.getD i d):=by
 rw [KL];cases hv:vs[i]? with
 | none=>exact trivial
 | some v =>obtain ⟨c,h1,h2⟩:=h.get hv;simp [List.getD,h1,h2]
theorem VRs.set:∀ {vs:List V} {l:List Value} {v:V} {c:Value} (i:Nat),VRs S w vs κ l->VR S w v κ c->VRs S w (vs.set i v) κ (l.set i c)
 | [],_,_,_,_,h,_=>by rw [show _=[] from h]; exact rfl
 | u::vs,_,v,c,0,h,hv=>by
  obtain ⟨a,l',rfl,h1,h2⟩:=h;exact ⟨c,l',rfl,hv,h2⟩
 | u::vs,_,v,c,i+1,h,hv=>by
  obtain ⟨a,l',rfl,h1,h2⟩:=h;exact ⟨a,l'.set i c,rfl,h1,VRs.set i h2 hv⟩
theorem VRs.append:∀ {vs us:List V} {l m:List Value},VRs S w vs κ l->VRs S w us κ m->VRs S w (vs++us) κ (l++m)
 | [],_,_,_,h,hu=>by rw [show _=[] from h]; exact hu
 | v::vs,_,_,_,h,hu=>by
  obtain ⟨a,l',rfl,h1,h2⟩:=h;exact ⟨a,_,rfl,h1,VRs.append h2 hu⟩
theorem VRs.take:∀ {vs:List V} {l:List Value} (n:Nat),VRs S w vs κ l->VRs S w (vs.take n) κ (l.take n)
 | _,_,0,_=>by simp; exact rfl
 | [],_,n+1,h=>by rw [show _=[] from h]; simp; exact rfl
 | v::vs,_,n+1,h=>by
  obtain ⟨a,l',rfl,h1,h2⟩:=h;exact ⟨a,_,rfl,h1,VRs.take n h2⟩
theorem VRs.drop:∀ {vs:List V} {l:List Value} (n:Nat),VRs S w vs κ l->VRs S w (vs.drop n) κ (l.drop n)
 | _,_,0,h=>by simpa using h
 | [],_,n+1,h=>by rw [show _=[] from h]; simp; exact rfl
 | v::vs,_,n+1,h=>by
  obtain ⟨a,l',rfl,h1,h2⟩:=h;simpa using VRs.drop n h2
theorem EI:∀ {v:V} {c:Value},Jn v=true->VR S w v κ c->c.cells=#[c]∧c.oneCell'=true
 | .val v,c,hs,h=>by
  rw [show c=v from h];cases v <;> simp [Jn] at hs <;> exact ⟨rfl,rfl⟩
 | .str l,c,_,h=>by rw [show c=_ from h]; exact ⟨rfl,rfl⟩
 | .agg _,_,hs,_=>by simp [Jn] at hs
 | .tup _,_,hs,_=>by simp [Jn] at hs
 | .fn _ _,c,_,h=>by obtain ⟨ca,e,_⟩:=h; subst e; exact ⟨rfl,rfl⟩
 | .nilS,c,_,h=>by rw [show c=_ from h]; exact ⟨rfl,rfl⟩
 | .sl _ _ _,c,_,h=>by obtain ⟨a,cap,e,_,_⟩:=h; subst e; exact ⟨rfl,rfl⟩
 | .slr _ _ _ _,c,_,h=>by obtain ⟨a,cap,e,_,_⟩:=h; subst e; exact ⟨rfl,rfl⟩
 | .pp _,c,_,h=>by obtain ⟨b,o,cv,e,_⟩:=h; subst e; exact ⟨rfl,rfl⟩
 | .ptr _ _,c,_,h=>by obtain ⟨g,_,e⟩:=h; subst e; exact ⟨rfl,rfl⟩
 | .ref _,c,_,h=>by rcases h with ⟨_,⟨a,n,cap,e⟩ | ⟨b,e⟩ | ⟨b,e⟩⟩ <;> (subst e; exact ⟨rfl,rfl⟩)
 | .ept _ _ _ _,c,_,h=>by obtain ⟨g,n,cap,_,e⟩:=h; subst e; exact ⟨rfl,rfl⟩
 | .rct _ _,c,_,h=>by obtain ⟨g,n,cap,_,_,e⟩:=h; subst e; exact ⟨rfl,rfl⟩
 | .jref _,c,_,h=>by obtain ⟨ms,_,a,n,cap,e⟩:=h; subst e; exact ⟨rfl,rfl⟩
 | .jept _ _ _ _,c,_,h=>by obtain ⟨g,n,cap,ms,_,e⟩:=h; subst e; exact ⟨rfl,rfl⟩
 | .mref _ _,c,_,h=>by obtain ⟨o,ms,_,_,a,n,cap,e⟩:=h; subst e; exact ⟨rfl,rfl⟩
 | .mept _ _ _ _ _,c,_,h=>by obtain ⟨o,ms,g,n,cap,_,_,e⟩:=h; subst e; exact ⟨rfl,rfl⟩
 | .anym,c,_,h=>by obtain rfl | ⟨b,rfl⟩:=h <;> exact ⟨rfl,rfl⟩
 | .mmap _ _,c,_,h=>by obtain ⟨o,ms,_,_,rfl | ⟨b,rfl⟩⟩:=h <;> exact ⟨rfl,rfl⟩
 | .und,_,hs,_=>by simp [Jn] at hs
theorem Rn:∀ {vs:List V} {l:List Value},Tz vs=true->VRs S w vs κ l->∀ u ∈ l,u.oneCell'=true
 | [],_,_,h=>by rw [show _=[] from h]; simp
 | v::vs,_,hs,h=>by
  obtain ⟨a,l',rfl,h1,h2⟩:=h;simp only [Tz] at hs;split at hs
  ·rename_i hv
   intro u hu;rcases List.mem_cons.1 hu with rfl | hu
   ·exact (EI hv h1).2
   ·exact Rn hs h2 u hu
  ·cases hs
theorem Cp {v:V} {cs:List V} {c:Value} (hc:v.cells=some cs) (h:VR S w v κ c) :
  VRs S w cs κ c.cells.toList∧∀ u ∈ c.cells.toList,u.oneCell'=true:=by
 have one:Jn v=true->some [v]=some cs->VRs S w cs κ c.cells.toList∧∀ u ∈ c.cells.toList,u.oneCell'=true:=by
  intro hs he;obtain ⟨h1,h2⟩:=EI hs h;simp at he;subst he;rw [h1];exact ⟨⟨c,[],rfl,h,rfl⟩,by simp [h2]⟩
 cases v with
 | agg cs' =>
  simp only [V.cells] at hc;split at hc
  ·rename_i hs
   simp at hc; subst hc;obtain ⟨ca,rfl,h⟩:=h;exact ⟨by simpa [Value.cells] using h,by simpa [Value.cells] using Rn hs h⟩
  ·cases hc
 | val v=>cases v <;> first | exact one rfl hc | (simp [V.cells] at hc)
 | tup _=>simp [V.cells] at hc
 | und=>simp [V.cells] at hc
 | _=>exact one rfl hc
theorem W6 (v:Value):VR S w (Oh v) κ v:=by
 unfold Oh;split
 ·rename_i s
  show Value.string s=_;congr 1
 ·exact rfl
 ·trivial
 ·trivial
 ·exact rfl
theorem Le:∀ (l:List Value),VRs S w (l.map Oh) κ l
 | []=>rfl
 | v::l=>⟨v,l,rfl,W6 v,Le l⟩
theorem C4 (v:Value):VR S w (ofValue v) κ v:=by
 unfold ofValue;split
 ·rename_i cs
  exact ⟨cs.toList,by simp,Le _⟩
 ·exact W6 v
end
def ApS (P:Program) (k e:TypeId) (n:Nat) (get:Int->Int) (o:Obj):Prop :=
 ∃ es clock,o = .map es clock∧WideElems.Fit P k (plainElem (H:=Unit) P e) es clock∧es.size <= n ∧
  ∀ x,(Lit.int .i64 x).wf=true->(DataW.map ((es.toList.map (WideElems.rg P k (plainElem (H:=Unit) P e))).foldr DataW.insert [])).atKey (.int .i64 x) (.lit (.int .i64 0)) = .lit (.int .i64 (get x))
@[irreducible] def Yz (t:TypeId) (n:Nat) (get:Int->Int) (o:Obj):Prop :=
 match Is.underlying t with
 | some (.map k e)=>ApS Is k e n get o
 | _=>False
def ApR (P:Program) (k e:TypeId) (n:Nat) (hs:Int->Bool) (get:Int->Int) (o:Obj):Prop :=
 ∃ es clock,o = .map es clock∧WideElems.Fit P k (plainElem (H:=Unit) P e) es clock∧es.size=n∧(∀ x,hs x=false->get x=0) ∧
  ∀ x,(Lit.int .i64 x).wf=true->∀ d,(DataW.map ((es.toList.map (WideElems.rg P k (plainElem (H:=Unit) P e))).foldr DataW.insert [])).atKey (.int .i64 x) d=bif hs x then .lit (.int .i64 (get x)) else d
@[irreducible] def RP (t:TypeId) (n:Nat) (hs:Int->Bool) (get:Int->Int) (o:Obj):Prop :=
 match Is.underlying t with
 | some (.map k e)=>ApR Is k e n hs get o
 | _=>False
def DL:Key->Value
 | .i x=>.int .i64 x
 | .s l=>.string ⟨l.toArray⟩
def WC (k:TypeId) (x:Key):Prop:=∃ l,keyOf Is k (DL x)=some l
def Aot (S:Nat->Prop) (w:World) (k:TypeId) (hs:Key->Bool) (get:Key->V) (o:Obj):Prop :=
 ∃ es clock,o = .map es clock∧(∀ (i j:Nat) (x y:MapEntry),es[i]? = some x->es[j]? = some y->x.key=y.key->i=j) ∧
  (∀ (i:Nat) (x:MapEntry),es[i]? = some x->∃ y,x.key=DL y∧WC k y∧hs y=true∧VR S w (get y) noK x.val) ∧
  ∀ y,WC k y->hs y=true->∃ (i:Nat) (x:MapEntry),es[i]? = some x∧x.key=DL y
def asK:List (Key×V)->Key->Option V
 | [],_=>none
 | a::l,k=>match keq k a.1 with
  | true=>some a.2
  | false=>asK l k
def Iq (S:Nat->Prop) (w:World) (t:TypeId) (hs:Key->Bool) (get:Key->V) (o:Obj):Prop :=
 match Is.underlying t with
 | some (.map k _)=>Aot S w k hs get o
 | _=>False
theorem Iq.mono {S S':Nat->Prop} {w w':World} {t:TypeId} {hs:Key->Bool} {get:Key->V} {o:Obj} (hS:∀ b,S b->S' b∧w'.heap[b]? = w.heap[b]?) (h:Iq S w t hs get o):Iq S' w' t hs get o:=by
 unfold Iq at h ⊢;split
 ·rename_i k e he
  rw [he] at h;obtain ⟨es,clock,h1,h2,h3,h4⟩:=h;refine ⟨es,clock,h1,h2,λi x hx=>?_,h4⟩;obtain ⟨y,q1,q2,q3,q4⟩:=h3 i x hx;exact ⟨y,q1,q2,q3,VR.mono hS _ _ _ _ (λ_ _ h=>h) q4⟩
 ·rename_i hne
  split at h
  ·rename_i k e he
   exact (hne k e he).elim
  ·exact h
def CS (S:Nat->Prop) (w:World) (s n:Nat) (g:Nat->V) (xs:List Value):Prop :=
 ∀ i,i<n->∃ ci,VR S w (g i) noK ci∧ci.cells.size=s∧(∀ u ∈ ci.cells.toList,u.oneCell'=true)∧∀ j,j<s->xs[i * s+j]? = ci.cells[j]?
def Ak:Option Value->Option Nat
 | some (.pointer (some a))=>some a.block
 | some (.slice (some a) _ _)=>some a.block
 | some (.map (some b))=>some b
 | some (.func (.yield l) _ _)=>some l
 | _=>none
def NK (S:Nat->Prop) (w:World) (j:Jag) (xs:List Value):Prop :=
 ∀ i,i<j.n->∃ ci,VR S w (j.get i) noK ci∧ci.cells.size=j.size∧(∀ u ∈ ci.cells.toList,u.oneCell'=true)∧∀ k,k<j.size->k ≠ j.off->(∀ q,j.mp=some q->k ≠ q.off)->xs[i * j.size+k]? = ci.cells[k]?
def HF (S:Nat->Prop) (w:World) (j:Jag) (xs:List Value) (i:Nat) (m:Value):Prop :=
 match j.live i with
 | true=>xs[i * j.size+j.off]? = some m∧∃ ys,w.ownsRow 0 j.e' j.s' m (j.len i) ys∧CS S w j.s' (j.len i) (j.mem i) ys
 | false=>m = .slice none 0 0
def O2 (w:World) (j:Jag) (q:Mp) (xs:List Value) (i:Nat) (m:Value):Prop :=
 xs[i * j.size+q.off]? = some m∧match q.live i with
 | true=>∃ b o,m = .map (some b)∧w.heap[b]? = some o∧RP q.t (q.len i) (q.hs i) (q.get i) o
 | false=>m = .map none
def Abv (S:Nat->Prop) (w:World) (j:Jag) (xs:List Value) (i:Nat) (m:Value):Prop :=
 (i<j.n∧HF S w j xs i m) ∨ ∃ q k,j.mp=some q∧i=j.n+k∧O2 w j q xs k m
def mpN (j:Jag):Nat:=match j.mp with
 | none=>0
 | some _=>j.n
def Ap2 (j:Jag):Prop:=∀ q,j.mp=some q->q.off<j.size∧q.off ≠ j.off
def Ao5 (c:Value) (ms:Array Value):Prop :=
 ∀ (i:Nat) (m:Value) (g:Nat),ms[i]? = some m->Ak (some m)=some g->Ak (some c) ≠ some g∧∀ (i':Nat) (m':Value),i' ≠ i->ms[i']? = some m'->Ak (some m') ≠ some g
def HH (S:Nat->Prop) (w:World) (j:Jag) (c:Value) (ms:Array Value) (xs:List Value):Prop :=
 0<j.size∧0<j.s'∧(j.off<j.size∧Ap2 j)∧ms.size=j.n+mpN j∧w.ownsRow 0 j.e j.size c j.n xs∧(∀ u ∈ xs,u.oneCell'=true)∧NK S w j xs∧(∀ i m,ms[i]? = some m->Abv S w j xs i m)∧Ao5 c ms
def exC:Ex->Code
 | .nm=>.skip
 | .ex i=>.exit i
 | .rt=>.ret
def Aor (r:Loop):Rs->Prop
 | .ready=>r.state = .ready∧r.pending=none
 | .busy=>r.state = .busy
 | .done e=>r.state = .done∧r.pending=some (exC e)
def ApQ (S:Nat->Prop) (w:World) (κ:Ai) (v:Option Value) (cd:RngCode) (ts:List V) (q:Rs):Prop :=
 ∃ l r,v=some (.func (.yield l) #[] #[])∧w.heap[l]? = some (.loop r)∧(r.params=cd.ps∧r.assign=cd.a∧r.body=cd.b)∧Aor r q∧VRs S w ts κ r.tmps.toList
def A7 (S:Nat->Prop) (w:World) (κ:Ai) (v:Option Value):Blk->Prop
 | .cells cs=>∃ g e ca,v=some (.pointer (some ⟨g,0,none⟩))∧w.heap[g]? = some (.cells ca e (0,0))∧VRs S w cs κ ca.toList
 | .row e s n g=>0<s∧∃ c xs,v=some c∧w.ownsRow 0 e s c n xs∧CS S w s n g xs
 | .imap t n get=>∃ b o,v=some (.map (some b))∧w.heap[b]? = some o∧Yz t n get o
 | .gmap t ks hs get=>∃ b o,v=some (.map (some b))∧w.heap[b]? = some o∧Iq S w t hs get o∧∀ k x,asK ks k=some x->hs k=true∧get k=x
 | .xrow _ e s n g=>0<s∧∃ c xs,v=some c∧w.ownsRow 0 e s c n xs∧CS S w s n g xs
 | .jag j=>∃ c ms xs,v=some (.tuple #[c,.agg ms])∧HH S w j c ms xs
 | .saved vs=>vs=Vo ∨ ∃ l:List Value,v=some (.tuple l.toArray)∧VRs S w vs κ l
 | .rng cd ts q=>ApQ S w κ v cd ts q
 | .dead=>True
def VM (v:Option Value) (g:Nat):Prop :=
 ∃ (c:Value) (ms:Array Value),v=some (.tuple #[c,.agg ms])∧(Ak (some c)=some g ∨ ∃ (i:Nat) (m:Value),ms[i]? = some m∧Ak (some m)=some g)
def inBlk (v:Option Value) (g:Nat):Blk->Prop
 | .jag _=>VM v g
 | .saved _=>False
 | .dead=>False
 | _=>Ak v=some g
def A3 (κ:Ai) (h:List Blk) (i g:Nat):Prop:=∃ b,h[i]? = some b∧inBlk (κ i) g b
def CB (b:Blk):Prop:=(∃ e s n g,b = .xrow false e s n g) ∨ ∃ vs,b = .saved vs
def Bz (b b0:Blk):Prop:=match b with
 | .xrow false e s n _=>∃ g0,b0 = .xrow false e s n g0
 | .saved _=>∃ vs0,b0 = .saved vs0
 | _=>True
structure Good (κ:Ai) (S:Nat->Prop) (h:List Blk) (w:World):Prop where
 blk:∀ i b,h[i]? = some b->A7 S w κ (κ i) b
 sep:∀ i j g,i ≠ j->A3 κ h i g->¬ A3 κ h j g
 out:∀ b,S b->b<w.heap.size∧∀ i,¬ A3 κ h i b
 dom:∀ i,h.length <= i->κ i=none
def E5 (w w':World) (b p:Nat):Prop:=∀ ca e z,w.heap[b]? = some (.cells ca e z)->∃ ca',w'.heap[b]? = some (.cells ca' e z)∧ca'.size=ca.size∧∀ j,j<p->ca'[j]? = ca[j]?
def WA (κ:Ai) (h:List Blk) (w:World) (b p:Nat):Prop :=
 b<w.heap.size∧∀ i,A3 κ h i b->∃ e s n g,h[i]? = some (.xrow true e s n g)∧p <= n * s
structure Ext (κ:Ai) (S:Nat->Prop) (h:List Blk) (w:World) (κ':Ai) (S':Nat->Prop) (h':List Blk) (w':World):Prop where
 os:w'.os=w.os
 tape:w'.tape=w.tape
 output:w'.output=w.output
 size:w.heap.size <= w'.heap.size
 keep:∀ b,b<w.heap.size->(∀ i,¬ A3 κ h i b)->w'.heap[b]? = w.heap[b]?
 own:∀ i b,A3 κ' h' i b->(∃ j,A3 κ h j b) ∨ w.heap.size <= b
 sub:∀ b,S' b->S b ∨ (∃ j,A3 κ h j b) ∨ w.heap.size <= b
 sup:∀ b,S b->S' b
 pre:∀ b p,WA κ h w b p->WA κ' h' w' b p∧E5 w w' b p
 fix:∀ i b,h'[i]? = some b->CB b->κ' i=κ i∧∃ b0,h[i]? = some b0∧Bz b b0
theorem Bz.refl {b:Blk} (h:CB b):Bz b b:=by
 rcases h with ⟨e,s,n,g,rfl⟩ | ⟨vs,rfl⟩
 ·exact ⟨g,rfl⟩
 ·exact ⟨vs,rfl⟩
theorem Bz.fixed {b b0:Blk} (h:CB b) (ha:Bz b b0):CB b0:=by
 rcases h with ⟨e,s,n,g,rfl⟩ | ⟨vs,rfl⟩
 ·obtain ⟨g0,rfl⟩:=ha
  exact .inl ⟨_,_,_,_,rfl⟩
 ·obtain ⟨vs0,rfl⟩:=ha
  exact .inr ⟨_,rfl⟩
theorem Bz.trans {b b0 b1:Blk} (h:CB b) (ha:Bz b b0) (hb:Bz b0 b1):Bz b b1:=by
 rcases h with ⟨e,s,n,g,rfl⟩ | ⟨vs,rfl⟩
 ·obtain ⟨g0,rfl⟩:=ha
  exact hb
 ·obtain ⟨vs0,rfl⟩:=ha
  exact hb
theorem E5.refl (w:World) (b p:Nat):E5 w w b p:=λca _ _ h=>⟨ca,h,rfl,λ_ _=>rfl⟩
theorem E5.same {w w':World} {b p:Nat} (h:w'.heap[b]? = w.heap[b]?):E5 w w' b p:=λca _ _ hc=>⟨ca,by rw [h]; exact hc,rfl,λ_ _=>rfl⟩
theorem E5.trans {w w' w'':World} {b p:Nat} (h:E5 w w' b p) (h':E5 w' w'' b p):E5 w w'' b p:=λca e z hc=>by
 obtain ⟨c1,q1,q2,q3⟩:=h ca e z hc;obtain ⟨c2,r1,r2,r3⟩:=h' c1 e z q1;exact ⟨c2,r1,r2.trans q2,λj hj=>(r3 j hj).trans (q3 j hj)⟩
theorem E5.mono {w w':World} {b p p':Nat} (h:E5 w w' b p) (hp:p' <= p):E5 w w' b p':=λca e z hc=>by
 obtain ⟨c1,q1,q2,q3⟩:=h ca e z hc;exact ⟨c1,q1,q2,λj hj=>q3 j (Nat.lt_of_lt_of_le hj hp)⟩
theorem I4 {κ κ':Ai} {h h':List Blk} {w w':World} (hsz:w.heap.size <= w'.heap.size) (keep:∀ b,b<w.heap.size->(∀ i,¬ A3 κ h i b)->w'.heap[b]? = w.heap[b]?)
  (own:∀ i b,A3 κ' h' i b->b<w.heap.size->∃ j,A3 κ h j b∧∀ e s n g,h[j]? = some (.xrow true e s n g)->∃ e' s' n' g',h'[i]? = some (.xrow true e' s' n' g')∧n * s <= n' * s')
  (hx:∀ i e s n g b,h[i]? = some (.xrow true e s n g)->A3 κ h i b->E5 w w' b (n * s)) :
  ∀ b p,WA κ h w b p->WA κ' h' w' b p∧E5 w w' b p:=by
 intro b p hs;refine ⟨⟨Nat.lt_of_lt_of_le hs.1 hsz,λi hi=>?_⟩,?_⟩
 ·obtain ⟨j,hj,hx'⟩:=own i b hi hs.1
  obtain ⟨e,s,n,g,hh,hp⟩:=hs.2 j hj;obtain ⟨e',s',n',g',q1,q2⟩:=hx' e s n g hh;exact ⟨e',s',n',g',q1,Nat.le_trans hp q2⟩
 ·by_cases hn:∀ i,¬ A3 κ h i b
  ·exact E5.same (keep b hs.1 hn)
  ·obtain ⟨i,hi⟩:=Classical.not_forall.1 hn
   have hi:=Classical.not_not.1 hi;obtain ⟨e,s,n,g,hh,hp⟩:=hs.2 i hi;exact (hx i e s n g b hh hi).mono hp
theorem Ext.refl (κ:Ai) (S:Nat->Prop) (h:List Blk) (w:World):Ext κ S h w κ S h w :=
 ⟨rfl,rfl,rfl,Nat.le_refl _,λ_ _ _=>rfl,λi _ hb=>.inl ⟨i,hb⟩,λ_ hb=>.inl hb,λ_ hb=>hb,λb p h=>⟨h,E5.refl _ _ _⟩,λ_ b h hb=>⟨rfl,b,h,Bz.refl hb⟩⟩
theorem Ext.trans {κ κ' κ'':Ai} {S S' S'':Nat->Prop} {h h' h'':List Blk} {w w' w'':World}
  (a:Ext κ S h w κ' S' h' w') (b:Ext κ' S' h' w' κ'' S'' h'' w''):Ext κ S h w κ'' S'' h'' w'' where
 os:=b.os.trans a.os
 tape:=b.tape.trans a.tape
 output:=b.output.trans a.output
 size:=Nat.le_trans a.size b.size
 keep:=λk hk hn=>by
  rw [b.keep k (Nat.lt_of_lt_of_le hk a.size) (λi hi=>?_),a.keep k hk hn];rcases a.own i k hi with ⟨j,hj⟩ | hle
  ·exact hn j hj
  ·omega
 own:=λi k hi=>by
  rcases b.own i k hi with ⟨j,hj⟩ | hle
  ·exact a.own j k hj
  ·exact .inr (Nat.le_trans a.size hle)
 sub:=λk hk=>by
  rcases b.sub k hk with h1 | ⟨j,hj⟩ | hle
  ·exact a.sub k h1
  ·exact (a.own j k hj).elim (λh=>.inr (.inl h)) (λh=>.inr (.inr h))
  ·exact .inr (.inr (Nat.le_trans a.size hle))
 sup:=λk hk=>b.sup k (a.sup k hk)
 pre:=λk p hk=>by
  obtain ⟨h1,h2⟩:=a.pre k p hk;obtain ⟨h3,h4⟩:=b.pre k p h1;exact ⟨h3,h2.trans h4⟩
 fix:=λi bl hi hf=>by
  obtain ⟨h1,g1,h2,h5⟩:=b.fix i bl hi hf;obtain ⟨h3,g2,h4,h6⟩:=a.fix i g1 h2 (h5.fixed hf);exact ⟨h1.trans h3,g2,h4,h5.trans hf h6⟩
theorem Ext.pers {κ κ':Ai} {S S':Nat->Prop} {h h':List Blk} {w w':World} (e:Ext κ S h w κ' S' h' w') (g:Good κ S h w) :
  ∀ b,S b->S' b∧w'.heap[b]? = w.heap[b]? :=
 λb hb=>⟨e.sup b hb,e.keep b (g.out b hb).1 (g.out b hb).2⟩
theorem CS.mono {S S':Nat->Prop} {w w':World} {s n:Nat} {g:Nat->V} {xs:List Value} (h:CS S w s n g xs)
  (hS:∀ b,S b->S' b∧w'.heap[b]? = w.heap[b]?):CS S' w' s n g xs:=λi hi=>by
 obtain ⟨ci,h1,h2,h3,h4⟩:=h i hi;exact ⟨ci,VR.mono hS _ _ _ _ (λ_ _ h=>h) h1,h2,h3,h4⟩
end Go.Sy
