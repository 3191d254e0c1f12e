/-
  Marked, Grown, Heaped: of edges and of numbers. No conditions.
-/
import Derived.Test.YtjhnfomefcngfaaCyUa
import Derived.Test.YtjhnfomefcngfaaSyU
import Derived.Test.YtjhnfomefcngfaaShD
namespace Go.Proofs.Ytjhnfomefcngfaa.Ed
open Go.Sy Go
end Go.Proofs.Ytjhnfomefcngfaa.Ed
namespace Go.Proofs.Ytjhnfomefcngfaa.Ed
open Go.Sy Go
end Go.Proofs.Ytjhnfomefcngfaa.Ed
namespace Go.Proofs.Ytjhnfomefcngfaa.Sh
open Go.Sy Ed
structure Cod (α:Type) where
  size:Nat
  enc:α->V
  ok:V->Bool
  ed:V->α
  law:∀ v,ok v = true->∀ (S:Nat->Prop) (w:World) (c:Value),VR S w v noK c->VR S w (enc (ed v)) noK c
def gSlG (s:Nat):V->Option (Nat × (Nat->V))
  | .sl s' n g=>match Nat.beq s' s with
    | true=>some (n,g)
    | false=>match n with
      | 0=>some (0,g)
      | _=>none
  | .slr s' n _ g=>match Nat.beq s' s with
    | true=>some (n,g)
    | false=>none
  | .nilS=>some (0,fun _=>.und)
  | _=>none
theorem gSlG_law {s:Nat} {v:V} {n:Nat} {g:Nat->V} (hg:gSlG s v = some (n,g)) {e:Nat->V} (he:∀ i,i < n->∀ (S:Nat->Prop) (w:World) (c:Value),VR S w (g i) noK c->VR S w (e i) noK c)
    {S:Nat->Prop} {w:World} {c:Value} (hv:VR S w v noK c):VR S w (.sl s n e) noK c:=by
  unfold gSlG at hg
  split at hg
  · rename_i s' n' g'
    split at hg
    · rename_i hs
      simp only [Option.some.injEq,Prod.mk.injEq] at hg
      obtain ⟨rfl,rfl⟩:=hg
      have hs:s' = s:=Nat.eq_of_beq_eq_true hs
      subst hs
      obtain ⟨a,cap,ea,hc,hb⟩:=hv
      refine ⟨a,cap,ea,hc,hb.imp id ?_⟩
      rintro ⟨b,o,eb,hel⟩
      refine ⟨b,o,eb,fun i hi=>?_⟩
      obtain ⟨ci,h1,h2⟩:=hel i hi
      exact ⟨ci,he i hi S w ci h1,h2⟩
    · split at hg
      · simp only [Option.some.injEq,Prod.mk.injEq] at hg
        obtain ⟨rfl,rfl⟩:=hg
        obtain ⟨a,cap,ea,hc,_⟩:=hv
        exact ⟨a,cap,ea,hc,.inl rfl⟩
      · cases hg
  · rename_i s' n' m' g'
    split at hg
    · rename_i hs
      simp only [Option.some.injEq,Prod.mk.injEq] at hg
      obtain ⟨rfl,rfl⟩:=hg
      have hs:s' = s:=Nat.eq_of_beq_eq_true hs
      subst hs
      obtain ⟨a,cap,ea,hc,hm,hb⟩:=hv
      refine ⟨a,cap,ea,Nat.le_trans hc hm,?_⟩
      rcases hb with h0 | ⟨b,o,eb,hel⟩
      · exact .inl (by omega)
      · refine .inr ⟨b,o,eb,fun i hi=>?_⟩
        obtain ⟨ci,h1,h2⟩:=hel i (by omega)
        exact ⟨ci,he i hi S w ci h1,h2⟩
    · cases hg
  · simp only [Option.some.injEq,Prod.mk.injEq] at hg
    obtain ⟨rfl,rfl⟩:=hg
    have hv:c = .slice none 0 0:=hv
    exact ⟨none,0,hv,Nat.le_refl _,.inl rfl⟩
  · cases hg
def apG {α β:Type} (c:Cod α) (v:V) (F:Nat->(Nat->α)->T β):T β :=
  match gSlG c.size v with
  | some (n,g)=>.br (allN n fun i=>c.ok (g i)) (F n fun i=>c.ed (g i)) .fail
  | none=>.fail
def lstV {α:Type} (c:Cod α) (n:Nat) (f:Nat->α):V:=.sl c.size n fun i=>c.enc (f i)
theorem apG_some {α β:Type} {c:Cod α} {v:V} {F:Nat->(Nat->α)->T β} {r:β} (h:(apG c v F).sem = some r) :
    ∃ n f,(∀ (S:Nat->Prop) (w:World) (u:Value),VR S w v noK u->VR S w (lstV c n f) noK u) ∧ (F n f).sem = some r:=by
  unfold apG at h
  split at h
  · rename_i n g hg
    obtain ⟨h1,h2⟩:=sem_br_fail h
    have h1:=allN_iff.1 h1
    exact ⟨n,_,fun S w u hv=>gSlG_law hg (fun i hi S w cc hc=>c.law _ (h1 i hi) S w cc hc) hv,h2⟩
  · cases h
def codE:Cod E6:=⟨6,eV,okE,edE,fun v h S w c hv=>by rw [<- okE_spec h]; exact hv⟩
def codI:Cod Int:=⟨1,iV,okI,edI,fun v h S w c hv=>by rw [<- okI_spec h]; exact hv⟩
def toX:V->Option Ev5
  | .agg [.val (.int .i64 a),.val (.int .i64 b),.val (.int .i64 c),.val (.int .i64 d),.val (.int .i64 e)]=>some ⟨a,b,c,d,e⟩
  | _=>none
theorem toX_some {v:V} {e:Ev5} (h:toX v = some e):v = evV e:=by
  unfold toX at h
  split at h
  · simp only [Option.some.injEq] at h
    subst h
    rfl
  · cases h
def okX (v:V):Bool:=match toX v with
  | some _=>true
  | none=>false
def edX (v:V):Ev5:=match toX v with
  | some e=>e
  | none=>⟨0,0,0,0,0⟩
theorem okX_spec {v:V} (h:okX v = true):v = evV (edX v):=by
  unfold okX at h
  unfold edX
  split at h
  · rename_i e he
    exact toX_some he
  · cases h
def codX:Cod Ev5:=⟨5,evV,okX,edX,fun v h S w c hv=>by rw [<- okX_spec h]; exact hv⟩
def okJ (v:V):Bool:=match gSlG 1 v with
  | some (n,g)=>allN n fun i=>okI (g i)
  | none=>false
def edJ (v:V):Nat × (Nat->Int):=match gSlG 1 v with
  | some (n,g)=>(n,fun i=>edI (g i))
  | none=>(0,fun _=>0)
def codJ:Cod (Nat × (Nat->Int)):=⟨1,fun p=>.sl 1 p.1 fun i=>iV (p.2 i),okJ,edJ,fun v h S w c hv=>by
  unfold okJ at h
  unfold edJ
  split at h
  · rename_i n g hg
    have h:=allN_iff.1 h
    exact gSlG_law hg (fun i hi S w cc hc=>by rw [<- okI_spec (h i hi)]; exact hc) hv
  · cases h⟩
structure Sh7 where
  arch:Int
  ne:Nat
  E:Nat->E6
  nx:Nat
  X:Nat->Ev5
  tt:Int
  kk:Int
  nr:Nat
  R:Nat->Int
  nc:Nat
  C:Nat->Nat × (Nat->Int)
def sh7V (s:Sh7):V:=.agg [iV s.arch,lstV codE s.ne s.E,lstV codX s.nx s.X,iV s.tt,iV s.kk,lstV codI s.nr s.R,lstV codJ s.nc s.C]
def apS {β:Type} (v:V) (F:Sh7->T β):T β :=
  match v with
  | .agg [.val (.int .i64 a),e,x,.val (.int .i64 t),.val (.int .i64 k),r,c]=>apG codE e fun ne E=>apG codX x fun nx X=>apG codI r fun nr R=>apG codJ c fun nc C=>F ⟨a,ne,E,nx,X,t,k,nr,R,nc,C⟩
  | _=>.fail
theorem apS_some {β:Type} {v:V} {F:Sh7->T β} {r:β} (h:(apS v F).sem = some r) :
    ∃ s,(∀ (S:Nat->Prop) (w:World) (u:Value),VR S w v noK u->VR S w (sh7V s) noK u) ∧ (F s).sem = some r:=by
  unfold apS at h
  split at h
  · obtain ⟨ne,E,h1,h⟩:=apG_some h
    obtain ⟨nx,X,h2,h⟩:=apG_some h
    obtain ⟨nr,R,h3,h⟩:=apG_some h
    obtain ⟨nc,C,h4,h⟩:=apG_some h
    refine ⟨_,fun S w u hv=>?_,h⟩
    obtain ⟨ca,rfl,a1,l1,rfl,q1,a2,l2,rfl,q2,a3,l3,rfl,q3,a4,l4,rfl,q4,a5,l5,rfl,q5,a6,l6,rfl,q6,a7,l7,rfl,q7,q8⟩:=hv
    exact ⟨_,rfl,a1,_,rfl,q1,a2,_,rfl,h1 S w _ q2,a3,_,rfl,h2 S w _ q3,a4,_,rfl,q4,a5,_,rfl,q5,a6,_,rfl,h3 S w _ q6,a7,_,rfl,h4 S w _ q7,q8⟩
  · cases h
end Go.Proofs.Ytjhnfomefcngfaa.Sh
namespace Go.Proofs.Ytjhnfomefcngfaa.Sh
open Go.Sy Ed
set_option maxHeartbeats 1000000
set_option maxRecDepth 4000
end Go.Proofs.Ytjhnfomefcngfaa.Sh
namespace Go.Proofs.Ytjhnfomefcngfaa.Sh
open Go.Sy Ed
set_option maxHeartbeats 1000000
set_option maxRecDepth 4000
end Go.Proofs.Ytjhnfomefcngfaa.Sh
namespace Go.Proofs.Ytjhnfomefcngfaa.Sh
open Go.Sy Ed
set_option maxHeartbeats 1000000
set_option maxRecDepth 4000
theorem band_t {a b:Bool} (h:a = true):band a b = b:=by rw [h]; rfl
def smallS (s:Sh7):Bool:=band (smallN s.ne) (band (smallN s.nx) (band (smallN s.nr) (band (smallN s.nc) (allN s.nc fun i=>smallN (s.C i).1))))
end Go.Proofs.Ytjhnfomefcngfaa.Sh
namespace Go.Proofs.Ytjhnfomefcngfaa.Ed
open Go.Sy Go
def blankC (c:UInt8):Bool:=c == 32 || c == 9 || c == 10 || c == 13
def blankB (x:Int):Bool:=bor (ieq x 32) (bor (ieq x 9) (bor (ieq x 10) (ieq x 13)))
theorem byte_eq (c:UInt8) (n:Nat) (hn:n < 256):ieq ((c.toNat:Nat):Int) (n:Int) = (c == UInt8.ofNat n):=by
  rw [Bool.eq_iff_iff]
  simp only [ieq,beq_iff_eq]
  constructor
  · intro h
    apply UInt8.toNat_inj.1
    rw [UInt8.toNat_ofNat_of_lt' (by simpa using hn)]
    omega
  · intro h
    rw [h,UInt8.toNat_ofNat_of_lt' (by simpa using hn)]
theorem blank_eq (c:UInt8):blankB ((c.toNat:Nat):Int) = blankC c:=by
  unfold blankB blankC bor
  have h1:=byte_eq c 32 (by decide)
  have h2:=byte_eq c 9 (by decide)
  have h3:=byte_eq c 10 (by decide)
  have h4:=byte_eq c 13 (by decide)
  have h1:ieq ((c.toNat:Nat):Int) 32 = (c == 32):=h1
  have h2:ieq ((c.toNat:Nat):Int) 9 = (c == 9):=h2
  have h3:ieq ((c.toNat:Nat):Int) 10 = (c == 10):=h3
  have h4:ieq ((c.toNat:Nat):Int) 13 = (c == 13):=h4
  rw [h1,h2,h3,h4]
  cases (c == 32) <;> cases (c == 9) <;> cases (c == 10) <;> rfl
def wordL (l:List UInt8):List UInt8:=l.takeWhile fun c=>!blankC c
def parseL:Nat->List UInt8->Nat->List E6->List E6 × Int × Nat
  | 0,_,_,acc=>(acc,0,0)
  | _+1,[],_,acc=>(acc,0,0)
  | q+1,c :: l,a,acc =>
    if blankC c = true then parseL q l (a+1) acc
    else if parseF (wordL (c :: l)) = 0 then parseL q ((c :: l).drop (wordL (c :: l)).length) (a+(wordL (c :: l)).length) (acc ++ [parseE (wordL (c :: l))])
    else ([],30,a)
theorem parse_blank {b:UInt8} (hb:blankC b = true) (l:List UInt8) (q a:Nat) (acc:List E6):parseL (q+1) (b :: l) a acc = parseL q l (a+1) acc:=by
  rw [parseL,if_pos hb]
theorem word_len (l:List UInt8):(wordL l).length <= l.length:=by
  induction l with
  | nil=>exact Nat.le_refl _
  | cons c l ih =>
    unfold wordL at ih ⊢
    cases hc:blankC c with
    | true=>rw [List.takeWhile_cons_of_neg (by simp [hc])]; exact Nat.zero_le _
    | false =>
      rw [List.takeWhile_cons_of_pos (by simp [hc])]
      simp only [List.length_cons]
      omega
section
variable (L:LT) (x:Int)
include L x
theorem wc83a (h0:ieq x 32 = true):(finF (evalF tab ⟨callT tb0,L,Gl⟩ Try.f96 [.val (.int .u8 x)] [])).sem = some ((bV true),[]):=by
  exact sem_of_path (ds:=bbK 9 511) (cs:=((fun c0 c1=>[c0,c0,c0,c1,c1,c1,c1,c1,c1]) (ieq x 32) (true))) (by kernel_rfl) (by simp only [h0] <;> rfl)
theorem wc83b (h0:ieq x 32 = false) (h1:ieq x 9 = true):(finF (evalF tab ⟨callT tb0,L,Gl⟩ Try.f96 [.val (.int .u8 x)] [])).sem = some ((bV true),[]):=by
  exact sem_of_path (ds:=bbK 9 504) (cs:=[(ieq x 32),(ieq x 32),(ieq x 32),(ieq x 9),(ieq x 9),(ieq x 9),true,true,true]) (by kernel_rfl) (by simp only [h0,h1] <;> rfl)
theorem wc83c (h0:ieq x 32 = false) (h1:ieq x 9 = false) (h2:ieq x 10 = true):(finF (evalF tab ⟨callT tb0,L,Gl⟩ Try.f96 [.val (.int .u8 x)] [])).sem = some ((bV true),[]):=by
  exact sem_of_path (ds:=bbK 9 448) (cs:=[(ieq x 32),(ieq x 32),(ieq x 32),(ieq x 9),(ieq x 9),(ieq x 9),(ieq x 10),(ieq x 10),(ieq x 10)]) (by kernel_rfl) (by simp only [h0,h1,h2] <;> rfl)
theorem wc83d (h0:ieq x 32 = false) (h1:ieq x 9 = false) (h2:ieq x 10 = false):(finF (evalF tab ⟨callT tb0,L,Gl⟩ Try.f96 [.val (.int .u8 x)] [])).sem = some ((bV (ieq x 13)),[]):=by
  exact sem_of_path (ds:=bbK 9 0) (cs:=[(ieq x 32),(ieq x 32),(ieq x 32),(ieq x 9),(ieq x 9),(ieq x 9),(ieq x 10),(ieq x 10),(ieq x 10)]) (by kernel_rfl) (by simp only [h0,h1,h2] <;> rfl)
end
def blankT:List V->T (V × List Blk)
  | [.val (.int .u8 x)]=>out (bV (blankB x))
  | _=>.fail
theorem getD_lt {α:Type} {l:List α} {i:Nat} {d:α} (h:i < l.length):l.getD i d = l[i]:=by simp [List.getD,h]
theorem drop_cons {s:List UInt8} {a:Nat} (h:a < s.length):s.drop a = s[a] :: s.drop (a+1):=List.drop_eq_getElem_cons h
theorem sget_at {s:List UInt8} {a:Nat} (h:a < s.length):blankB (sget s a) = blankC s[a]:=by
  unfold sget
  rw [getD_lt h]
  exact blank_eq _
def getE (l:List E6) (i:Nat):E6:=l.getD i zeroE
theorem getE_app {l:List E6} {e:E6} {i:Nat} (h:i < l.length+1):getE (l ++ [e]) i = if i = l.length then e else getE l i:=by
  unfold getE
  by_cases hi:i = l.length
  · rw [if_pos hi,hi]; simp
  · rw [if_neg hi]
    simp only [List.getD,List.getElem?_append_left (show i < l.length by omega)]
def rowX (acc:List E6):Nat->V:=pushN (fun i=>eV (getE acc i)) acc.length
theorem pushN_congr {g g':Nat->V}:∀ n,(∀ i,i < n->g i = g' i)->pushN g n = pushN g' n
  | 0,_=>rfl
  | n+1,h=>by
    show pushGet n (pushN g n) (g n) = pushGet n (pushN g' n) (g' n)
    rw [h n (Nat.lt_succ_self n),pushN_congr n fun i hi=>h i (by omega)]
theorem rowX_push (acc:List E6) (e:E6):pushGet acc.length (rowX acc) (eV e) = rowX (acc ++ [e]):=by
  have h1:rowX (acc ++ [e]) = pushN (fun i=>eV (getE (acc ++ [e]) i)) (acc.length+1):=by
    unfold rowX
    rw [List.length_append]
    rfl
  rw [h1]
  show _ = pushGet acc.length (pushN (fun i=>eV (getE (acc ++ [e]) i)) acc.length) (eV (getE (acc ++ [e]) acc.length))
  rw [getE_app (Nat.lt_succ_self _),if_pos rfl]
  unfold rowX
  rw [pushN_congr (g:=fun i=>eV (getE (acc ++ [e]) i)) (g':=fun i=>eV (getE acc i)) acc.length fun i hi=>by
    show eV (getE (acc ++ [e]) i) = eV (getE acc i)
    rw [getE_app (by omega),if_neg (by omega)]]
def errL:Nat->List UInt8->List E6->List E6 × E6
  | 0,_,acc=>(acc,zeroE)
  | _+1,[],acc=>(acc,zeroE)
  | q+1,c :: l,acc =>
    if blankC c = true then errL q l acc
    else if parseF (wordL (c :: l)) = 0 then errL q ((c :: l).drop (wordL (c :: l)).length) (acc ++ [parseE (wordL (c :: l))])
    else (acc,parseE (wordL (c :: l)))
def bigS (s:List UInt8):Bool:=ilt 262144 (Int.ofNat (slen s))
def psR (s:List UInt8):List E6 × Int × Nat:=parseL (s.length+1) s 0 []
def psL (s:List UInt8):List E6:=bif bigS s then [] else (psR s).1
def psE (s:List UInt8):Int:=bif bigS s then 2 else (psR s).2.1
def psI (s:List UInt8):Int:=bif bigS s then 0 else Int.ofNat (psR s).2.2
def psN (s:List UInt8):Nat:=(psL s).length
def psG (s:List UInt8) (i:Nat):E6:=getE (psL s) i
def psT:List V->T (V × List Blk)
  | [.str s]=>.leaf (.tup [.ref 0,iV (psE s),iV (psI s)],[.row 44 6 (psN s) fun i=>eV (psG s i)])
  | _=>.fail
theorem parse_at:∀ (q:Nat) (l:List UInt8) (a:Nat) (acc:List E6),(parseL q l a acc).2.1 = 0->(parseL q l a acc).2.2 = 0
  | 0,_,_,_,_=>rfl
  | q+1,[],_,_,_=>rfl
  | q+1,c :: l,a,acc,h=>by
    rw [parseL] at h ⊢
    split
    · rename_i hc
      rw [if_pos hc] at h
      exact parse_at q _ _ _ h
    · rename_i hc
      rw [if_neg hc] at h
      split
      · rename_i hp
        rw [if_pos hp] at h
        exact parse_at q _ _ _ h
      · rename_i hp
        rw [if_neg hp] at h
        cases h
theorem isPleY {L:LT} (hL:LLe L L) (k:Nat) (r:Ex × St):LLe (onP k (isP L k r) r L) (onP k (isP L k r) r L):=fun id f f' st hf r' hr=>by
  unfold onP at hr ⊢
  cases hk:Nat.beq id k with
  | true =>
    rw [hk] at hr
    obtain ⟨h1,h2⟩:=sem_br_fail hr
    unfold isP at h1
    have h1:=@of_decide_eq_true _ (Classical.propDecidable _) h1
    have h3:isP L k r f' st = true:=isP_true (hL k f f' st hf _ h1)
    show sel (isP L k r f' st) _ _ = _
    rw [h3]
    exact h2
  | false =>
    rw [hk] at hr
    exact hL id f f' st hf _ hr
end Go.Proofs.Ytjhnfomefcngfaa.Ed
