/-
  Marked, Grown, Heaped: of edges and of numbers. No conditions.
-/
import Derived.Test.YtjhnfomefcngfaaCyT
import Derived.Test.YtjhnfomefcngfaaSyU
namespace Go.Proofs.Ytjhnfomefcngfaa.Ed
open Go.Sy Go
open Int (ofNat)
theorem MA {τ:List Ty} {call:FuncId->List V->St->T (V × Res)} {G:Nat->V} {fn:Func} {vs:List V} {H:List Blk} {L L':LT}
    (h:LLe L L'):TLe (Al τ ⟨call,L,G⟩ fn vs H) (Al τ ⟨call,L',G⟩ fn vs H):=by
  unfold Al
  cases fn.body with
  | none=>exact TLe.refl _
  | some c=>exact TLe.bind (Dx (Γ:=⟨call,L,G⟩) h c 0 _) fun _=>TLe.refl _
def cxM (G:Nat->V) (mt:List (Nat × (List V->List Blk->T (V × List Blk)))) (tbl:List (Nat × (List V->T (V × List Blk)))) (loops:List (Nat × Lp)):Cx:=⟨VU mt tbl,Bc loops,G⟩
theorem Z3 {P:Program} {G:Nat->V} {mt:List (Nat × (List V->List Blk->T (V × List Blk)))} {tbl:List (Nat × (List V->T (V × List Blk)))} (hm:I2 P G mt) (h:AF P G tbl) (loops:List (Nat × Lp)):Bm P (cxM G mt tbl loops).base ∧ BX (cxM G mt tbl loops) :=
  ⟨ZH rfl hm h,fun id f st r hr=>by
    have hr:(Bc loops id f st).sem = some r:=hr
    unfold Bc at hr
    split at hr
    · exact ⟨_,_,_,LE.refl _,hr⟩
    · cases hr⟩
noncomputable def O3:List (Nat × (List V->T (V × List Blk))):=(49,Y5) :: []
theorem PH:AF Try.prog Gl O3:=.cons p85 .nil
theorem Age {i k:Nat} (h:i ≠ k):Nat.beq i k = false:=by
  cases hb:Nat.beq i k
  · rfl
  · exact absurd (Nat.eq_of_beq_eq_true hb) h
def Xj {α:Type} (z:Nat->α) (i:Nat) (e:α):Nat->α:=fun k=>bif Nat.beq k i then e else z k
def GC {α:Type} (y:Nat->α) (e:α):Nat->Nat->α
  | 0=>y
  | i+1=>Xj (GC y e i) i e
theorem NM {α:Type} (y:Nat->α) (e:α):∀ i j,j < i->GC y e i j = e
  | i+1,j,h=>by
    show (bif Nat.beq j i then e else GC y e i j) = e
    by_cases hj:j = i
    · rw [hj,Nat.beq_refl]; rfl
    · rw [Age hj]; exact NM y e i j (by omega)
theorem AdJ (z:Nat->E6) (i:Nat) (e:E6):Bl (fun k=>eV (z k)) i (eV e) = fun k=>eV (Xj z i e k):=by
  funext k
  rw [Ei]
  unfold Xj
  cases Nat.beq k i <;> rfl
theorem AdI (z:Nat->Int) (i:Nat) (e:Int):Bl (fun k=>iV (z k)) i (iV e) = fun k=>iV (Xj z i e k):=by
  funext k
  rw [Ei]
  unfold Xj
  cases Nat.beq k i <;> rfl
def OZ (g:Nat->V) (n:Nat) (e:V):Nat->Nat->V
  | 0=>g
  | i+1=>AK (n+i) (OZ g n e i) e
theorem NF (i:Nat):ile 0 (ofNat i) = true:=decide_eq_true (Int.natCast_nonneg i)
def S5 (n:Nat) (y:Nat->E6) (k:Int) :St:=⟨(jsV 17 0 (fun _=>A7) [(0,(.ref 0)),(1,(iV k)),(4,(iV 0))]),[.xrow false 44 6 n (fun i=>eV (y i))]⟩
def TO (n:Nat) (y:Nat->E6) (k:Int):Lp:=⟨(bmK 17 0 [0,1,4]),1,bmK 17 0 [],1,n+1⟩
def Aa8 (n:Nat) (y:Nat->E6) (k:Int) (i:Nat) (z:Nat->E6) (j:Nat->V):St:=⟨(jsV 17 0 j [(0,.ref 0),(1,iV k),(4,nV i)]),[.xrow false 44 6 n (fun i=>eV (z i))]⟩
def SG (n:Nat) (y:Nat->E6) (k:Int) (i:Nat) (z:Nat->E6):Ex × St:=(.ex 0,⟨(jsV 17 0 (fun _=>.und) []),[.xrow false 44 6 n (fun i=>eV (z i))]⟩)
noncomputable def L1 (L:LT):St->T (Ex × St):=fun st=>A9 tab ⟨Ao O3,L,Gl⟩ (Av Try.f31 0) 0 st
section
variable (L:LT) (n:Nat) (y:Nat->E6) (k:Int) (i:Nat) (z:Nat->E6)  (j:Nat->V)
include L n y k i z j
theorem Ail (h0:ilt (ofNat i) (ofNat n) = false):Ai (L1 L) (TO n y k) (Aa8 n y k i z j) = some ((.ex 0),⟨(jsV 17 0 (fun _=>.und) []),[.xrow false 44 6 n (fun i=>eV (z i))]⟩):=Aa [false] [ilt (ofNat i) (ofNat n)] (by kernel_rfl) (by simp only [h0] <;> rfl)
theorem Aik (h0:ilt (ofNat i) (ofNat n) = true) (h10:ile 0 (ofNat i) = true) (h11:nlt i n = true):Ai (L1 L) (TO n y k) (Aa8 n y k i z j) = some (.nm,⟨(jsV 17 0 (fun _=>.und) [(0,(.ref 0)),(1,(iV k)),(4,(iV (wr .i64 (Ae (ofNat i) 1))))]),[.xrow false 44 6 n (Bl (fun i=>eV (z i)) i (eV (LO (wr .i64 (Ae 500 k)))))]⟩):=Aa [true,true,true] [ilt (ofNat i) (ofNat n),Af (ile 0 (ofNat i)) (ilt (ofNat i) (ofNat n)),nlt i n] (by kernel_rfl) (by simp only [*] <;> rfl)
end
theorem Ajo (L:LT) (p0:PT) (n:Nat) (y:Nat->E6) (k:Int) (z:Nat->E6)  (hp0:p0 (L1 (onP 0 p0 (SG n y k n z) L)) (S5 n y k) = true):(Al tab ⟨Ao O3,onP 0 p0 (SG n y k n z) L,Gl⟩ Try.f31 [.ref 0,iV k] [.xrow false 44 6 n (fun i=>eV (y i))]).sem = some ((.tup []),[.xrow false 44 6 n (fun i=>eV (z i))]):=Aa [true] [p0 (L1 (onP 0 p0 (SG n y k n z) L)) (S5 n y k)] (by kernel_rfl) (by simp only [hp0] <;> rfl)
theorem Ach (L:LT) (n:Nat) (y:Nat->E6) (k:Int) (hn:n <= 4611686018427387904):∀ (d i:Nat) (j:Nat->V) (q:Nat),n = i+d->d < q ->
    (A3 (L1 L) (TO n y k) q (Aa8 n y k i (GC y (LO (wr .i64 (Ae 500 k))) i) j)).sem = some (SG n y k n (GC y (LO (wr .i64 (Ae 500 k))) n))
  | 0,i,j,q+1,h,_=>by
    have:n = i:=by omega
    subst this
    exact Ab (Ail L n y k n _ j (A8 (Nat.le_refl _)))
  | d+1,i,j,q+1,h,h2=>by
    have hi:i < n:=by omega
    have h1:=Aik L n y k i (GC y (LO (wr .i64 (Ae 500 k))) i) j (ofNat_lt hi) (NF i) (decide_eq_true hi)
    rw [AdJ] at h1
    rw [Ab h1,Aw,Aq hi (by omega)]
    exact Ach L n y k hn d (i+1) (fun _=>.und) q (by omega) (by omega)
theorem Zv (n:Nat) (y:Nat->E6) (k:Int):S5 n y k = Aa8 n y k 0 y (fun i=>nth (S5 n y k).t i):=by kernel_rfl
def Y6 (n:Nat) (g:Nat->V):List V->T (Nat->V)
  | [.val (.int .i64 k)]=>.br (Ah n) (.br (An n fun i=>okE (g i)) (.leaf fun _=>eV (LO (wr .i64 (Ae 500 k)))) .fail) .fail
  | _=>.fail
theorem m43:O0 Try.prog Gl 31 (Pj 44 6 Y6):=by
  refine RI AO AP Try.func31 (by kernel_rfl) (by kernel_rfl) fun n g vs g' h=>?_
  unfold Y6 at h
  split at h
  · rename_i k
    obtain ⟨hn,h⟩:=Ag h
    obtain ⟨hg,h⟩:=Ag h
    have:=Ac h
    subst this
    have hn:n <= 4611686018427387904:=of_decide_eq_true hn
    have hx:=AQ PH [(0,TO n (fun i=>edE (g i)) k)]
    have hL:=AC [(0,TO n (fun i=>edE (g i)) k)]
    have h0:∀ L,(Bc [(0,TO n (fun i=>edE (g i)) k)] 0 (L1 L) (S5 n (fun i=>edE (g i)) k)).sem = some (SG n (fun i=>edE (g i)) k n (GC (fun i=>edE (g i)) (LO (wr .i64 (Ae 500 k))) n)):=fun L=>by
      rw [Zv]
      exact Ach L n (fun i=>edE (g i)) k hn n 0 _ (n+1) (by omega) (by omega)
    exact ⟨rfl,fun _ _=>rfl,AR Gl O3 [(0,TO n (fun i=>edE (g i)) k)],rfl,hx.1,hx.2,_,_,_,fun i hi=>(Kd (AA.1 hg i hi)).symm,
      MA (Ax hL hL) _ (Ajo _ _ n (fun i=>edE (g i)) k (GC (fun i=>edE (g i)) (LO (wr .i64 (Ae 500 k))) n) (Ak (h0 _))),rfl,fun i hi=>by show eV _ = eV _; rw [NM _ _ n i hi]⟩
  · cases h
def S4 (n:Nat) (y:Nat->Int) (k:Int) :St:=⟨(jsV 16 0 (fun _=>A7) [(0,(.ref 0)),(1,(iV k)),(4,(iV 0))]),[.xrow false 3 1 n (fun i=>iV (y i))]⟩
def lp56 (n:Nat) (y:Nat->Int) (k:Int):Lp:=⟨(bmK 16 0 [0,1,4]),1,bmK 16 0 [],1,n+1⟩
def st56 (n:Nat) (y:Nat->Int) (k:Int) (i:Nat) (z:Nat->Int) (j:Nat->V):St:=⟨(jsV 16 0 j [(0,.ref 0),(1,iV k),(4,nV i)]),[.xrow false 3 1 n (fun i=>iV (z i))]⟩
def SE (n:Nat) (y:Nat->Int) (k:Int) (i:Nat) (z:Nat->Int):Ex × St:=(.ex 0,⟨(jsV 16 0 (fun _=>.und) []),[.xrow false 3 1 n (fun i=>iV (z i))]⟩)
noncomputable def body56 (L:LT):St->T (Ex × St):=fun st=>A9 tab ⟨Ao O3,L,Gl⟩ (Av Try.f28 0) 0 st
section
variable (L:LT) (n:Nat) (y:Nat->Int) (k:Int) (i:Nat) (z:Nat->Int)  (j:Nat->V)
include L n y k i z j
theorem Aij (h0:ilt (ofNat i) (ofNat n) = false):Ai (body56 L) (lp56 n y k) (st56 n y k i z j) = some ((.ex 0),⟨(jsV 16 0 (fun _=>.und) []),[.xrow false 3 1 n (fun i=>iV (z i))]⟩):=Aa [false] [ilt (ofNat i) (ofNat n)] (by kernel_rfl) (by simp only [h0] <;> rfl)
theorem Aii (h0:ilt (ofNat i) (ofNat n) = true) (h10:ile 0 (ofNat i) = true) (h11:nlt i n = true):Ai (body56 L) (lp56 n y k) (st56 n y k i z j) = some (.nm,⟨(jsV 16 0 (fun _=>.und) [(0,(.ref 0)),(1,(iV k)),(4,(iV (wr .i64 (Ae (ofNat i) 1))))]),[.xrow false 3 1 n (Bl (fun i=>iV (z i)) i (iV (wr .i64 (As (-1000000) k))))]⟩):=Aa [true,true,true] [ilt (ofNat i) (ofNat n),Af (ile 0 (ofNat i)) (ilt (ofNat i) (ofNat n)),nlt i n] (by kernel_rfl) (by simp only [*] <;> rfl)
end
theorem Ajn (L:LT) (p0:PT) (n:Nat) (y:Nat->Int) (k:Int) (z:Nat->Int)  (hp0:p0 (body56 (onP 0 p0 (SE n y k n z) L)) (S4 n y k) = true):(Al tab ⟨Ao O3,onP 0 p0 (SE n y k n z) L,Gl⟩ Try.f28 [.ref 0,iV k] [.xrow false 3 1 n (fun i=>iV (y i))]).sem = some ((.tup []),[.xrow false 3 1 n (fun i=>iV (z i))]):=Aa [true] [p0 (body56 (onP 0 p0 (SE n y k n z) L)) (S4 n y k)] (by kernel_rfl) (by simp only [hp0] <;> rfl)
def S3 (n:Nat) (g:Nat->V) (k:Int) :St:=⟨(jsV 14 0 (fun _=>A7) [(0,(.ref 0)),(1,(iV k)),(4,(iV 0))]),[.xrow true 3 1 n g]⟩
def TN (n:Nat) (g:Nat->V) (k:Int):Lp:=⟨(bmK 14 0 [0,1,4]),1,bmK 14 0 [],1,21⟩
def Aa7 (n:Nat) (g:Nat->V) (k:Int) (i m:Nat) (x:Nat->V) (j:Nat->V):St:=⟨(jsV 14 0 j [(0,.ref 0),(1,iV k),(4,nV i)]),[.xrow true 3 1 m x]⟩
def SD (n:Nat) (g:Nat->V) (k:Int) (i m:Nat) (x:Nat->V):Ex × St:=(.ex 0,⟨(jsV 14 0 (fun _=>.und) []),[.xrow true 3 1 m x]⟩)
noncomputable def L0 (L:LT):St->T (Ex × St):=fun st=>A9 tab ⟨Ao O3,L,Gl⟩ (Av Try.f29 0) 0 st
section
variable (L:LT) (n:Nat) (g:Nat->V) (k:Int) (i m:Nat) (x:Nat->V)  (j:Nat->V)
include L n g k i m x j
theorem Aih (h0:ilt (ofNat i) 20 = false):Ai (L0 L) (TN n g k) (Aa7 n g k i m x j) = some ((.ex 0),⟨(jsV 14 0 (fun _=>.und) []),[.xrow true 3 1 m x]⟩):=Aa [false] [ilt (ofNat i) 20] (by kernel_rfl) (by simp only [h0] <;> rfl)
theorem Aig (h0:ilt (ofNat i) 20 = true) (h10:Bj m 1 8 = true):Ai (L0 L) (TN n g k) (Aa7 n g k i m x j) = some (.nm,⟨(jsV 14 0 (fun _=>.und) [(0,(.ref 0)),(1,(iV k)),(4,(iV (wr .i64 (Ae (ofNat i) 1))))]),[.xrow true 3 1 (B4 m 1) (AK m x (iV (wr .i64 (As (-2000000) k))))]⟩):=Aa [true,true] [ilt (ofNat i) 20,Bj m 1 8] (by kernel_rfl) (by simp only [h0,h10] <;> rfl)
end
theorem Ajm (L:LT) (p0:PT) (n:Nat) (g:Nat->V) (k:Int) (m:Nat) (x:Nat->V)  (hp0:p0 (L0 (onP 0 p0 (SD n g k 20 m x) L)) (S3 n g k) = true):(Al tab ⟨Ao O3,onP 0 p0 (SD n g k 20 m x) L,Gl⟩ Try.f29 [.ref 0,iV k] [.xrow true 3 1 n g]).sem = some ((.tup []),[.xrow true 3 1 m x]):=Aa [true] [p0 (L0 (onP 0 p0 (SD n g k 20 m x) L)) (S3 n g k)] (by kernel_rfl) (by simp only [hp0] <;> rfl)
theorem run56 (L:LT) (n:Nat) (y:Nat->Int) (k:Int) (hn:n <= 4611686018427387904):∀ (d i:Nat) (j:Nat->V) (q:Nat),n = i+d->d < q ->
    (A3 (body56 L) (lp56 n y k) q (st56 n y k i (GC y (wr .i64 (As (-1000000) k)) i) j)).sem = some (SE n y k n (GC y (wr .i64 (As (-1000000) k)) n))
  | 0,i,j,q+1,h,_=>by
    have:n = i:=by omega
    subst this
    exact Ab (Aij L n y k n _ j (A8 (Nat.le_refl _)))
  | d+1,i,j,q+1,h,h2=>by
    have hi:i < n:=by omega
    have h1:=Aii L n y k i (GC y (wr .i64 (As (-1000000) k)) i) j (ofNat_lt hi) (NF i) (decide_eq_true hi)
    rw [AdI] at h1
    rw [Ab h1,Aw,Aq hi (by omega)]
    exact run56 L n y k hn d (i+1) (fun _=>.und) q (by omega) (by omega)
theorem Zu (n:Nat) (y:Nat->Int) (k:Int):S4 n y k = st56 n y k 0 y (fun i=>nth (S4 n y k).t i):=by kernel_rfl
def TL (n:Nat) (g:Nat->V):List V->T (Nat->V)
  | [.val (.int .i64 k)]=>.br (Ah n) (.br (An n fun i=>okI (g i)) (.leaf fun _=>iV (wr .i64 (As (-1000000) k))) .fail) .fail
  | _=>.fail
theorem m56:O0 Try.prog Gl 28 (Pj 3 1 TL):=by
  refine RI AO AP Try.func28 (by kernel_rfl) (by kernel_rfl) fun n g vs g' h=>?_
  unfold TL at h
  split at h
  · rename_i k
    obtain ⟨hn,h⟩:=Ag h
    obtain ⟨hg,h⟩:=Ag h
    have:=Ac h
    subst this
    have hn:n <= 4611686018427387904:=of_decide_eq_true hn
    have hx:=AQ PH [(0,lp56 n (fun i=>edI (g i)) k)]
    have hL:=AC [(0,lp56 n (fun i=>edI (g i)) k)]
    have h0:∀ L,(Bc [(0,lp56 n (fun i=>edI (g i)) k)] 0 (body56 L) (S4 n (fun i=>edI (g i)) k)).sem = some (SE n (fun i=>edI (g i)) k n (GC (fun i=>edI (g i)) (wr .i64 (As (-1000000) k)) n)):=fun L=>by
      rw [Zu]
      exact run56 L n (fun i=>edI (g i)) k hn n 0 _ (n+1) (by omega) (by omega)
    exact ⟨rfl,fun _ _=>rfl,AR Gl O3 [(0,lp56 n (fun i=>edI (g i)) k)],rfl,hx.1,hx.2,_,_,_,fun i hi=>(Kc (AA.1 hg i hi)).symm,
      MA (Ax hL hL) _ (Ajn _ _ n (fun i=>edI (g i)) k (GC (fun i=>edI (g i)) (wr .i64 (As (-1000000) k)) n) (Ak (h0 _))),rfl,fun i hi=>by show iV _ = iV _; rw [NM _ _ n i hi]⟩
  · cases h
theorem Acg (L:LT) (n:Nat) (g:Nat->V) (k:Int) (h8:(n+80) * 8 <= 140737488355328) (c:Nat) (hc:c = 20):∀ (d i:Nat) (j:Nat->V) (q:Nat),c = i+d->d < q ->
    (A3 (L0 L) (TN n g k) q (Aa7 n g k i (n+i) (OZ g n (iV (wr .i64 (As (-2000000) k))) i) j)).sem = some (SD n g k c (n+c) (OZ g n (iV (wr .i64 (As (-2000000) k))) c))
  | 0,i,j,q+1,h,_=>by
    have:c = i:=by omega
    subst this
    have hl:ilt (ofNat c) 20 = false:=by rw [show (20:Int) = ofNat 20 from rfl,Cz,decide_eq_false (by omega)]
    exact Ab (Aih L n g k c (n+c) _ j hl)
  | d+1,i,j,q+1,h,h2=>by
    have hl:ilt (ofNat i) 20 = true:=by rw [show (20:Int) = ofNat 20 from rfl,Cz,decide_eq_true (by omega)]
    have h9:(n+i+1) * 8 <= 140737488355328:=Nat.le_trans (Nat.mul_le_mul_right 8 (show n+i+1 <= n+80 by omega)) h8
    have ha:Bj (n+i) 1 8 = true:=decide_eq_true h9
    have h1:=Aig L n g k i (n+i) (OZ g n (iV (wr .i64 (As (-2000000) k))) i) j hl ha
    rw [Ab h1,Aw,Aq (show i < 20 by omega) (by decide)]
    exact Acg L n g k h8 c hc d (i+1) (fun _=>.und) q (by omega) (by omega)
theorem Zt (n:Nat) (g:Nat->V) (k:Int):S3 n g k = Aa7 n g k 0 (n+0) g (fun i=>nth (S3 n g k).t i):=by kernel_rfl
def Zc (n:Nat) (_:Nat->V):List V->T Unit
  | [.val (.int .i64 _)]=>.br (Bj n 80 8) (.leaf ()) .fail
  | _=>.fail
theorem m57:O0 Try.prog Gl 29 (V1 3 1 Zc):=by
  refine YZ AO AP Try.func29 (by kernel_rfl) (by kernel_rfl) fun n g vs u h=>?_
  unfold Zc at h
  split at h
  · rename_i k
    obtain ⟨hn,h⟩:=Ag h
    have h8:(n+80) * 8 <= 140737488355328:=of_decide_eq_true hn
    have hx:=AQ PH [(0,TN n g k)]
    have hL:=AC [(0,TN n g k)]
    have h0:∀ L,(Bc [(0,TN n g k)] 0 (L0 L) (S3 n g k)).sem = some (SD n g k 20 (n+20) (OZ g n (iV (wr .i64 (As (-2000000) k))) 20)):=fun L=>by
      rw [Zt]
      exact Acg L n g k h8 20 rfl 20 0 _ 21 rfl (by omega)
    exact ⟨rfl,AR Gl O3 [(0,TN n g k)],rfl,hx.1,hx.2,_,MA (Ax hL hL) _ (Ajm _ _ n g k (n+20) (OZ g n (iV (wr .i64 (As (-2000000) k))) 20) (Ak (h0 _)))⟩
  · cases h
end Go.Proofs.Ytjhnfomefcngfaa.Ed
