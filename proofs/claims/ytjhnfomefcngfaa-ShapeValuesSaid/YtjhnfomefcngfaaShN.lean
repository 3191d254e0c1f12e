/-
  Layer 7: the law ShapeValues, as a function: a location's writes have unlike values, in order; a read has the value of the write that it reads. No conditions.
-/
import Derived.Test.YtjhnfomefcngfaaShM
namespace Go.Proofs.Ytjhnfomefcngfaa.Sh
open Go.Sy Ed
open Int (ofNat)
set_option maxHeartbeats 1000000
set_option maxRecDepth 4000
theorem le2 {k:Nat} (h:k <= 2):ilt 2 (ofNat k) = false:=decide_eq_false (by
  show ¬ ((2:Int) < (k:Int))
  omega)
theorem nat_ne (k:Nat):ieq (ofNat k) (-1) = false:=by
  cases hc:ieq (ofNat k) (-1) with
  | false=>rfl
  | true =>
    have:(k:Int) = -1:=ieq_eq hc
    omega
theorem nat_ge (k:Nat):ilt (ofNat k) (-1) = false:=decide_eq_false (by
  show ¬ ((k:Int) < -1)
  omega)
theorem neg_ge (n:Nat):ile (ofNat n) (-1) = false:=decide_eq_false (by
  show ¬ ((n:Int) <= -1)
  omega)
theorem sum_mono (f:Nat->Nat):∀ {a b:Nat},a <= b->sumN f a <= sumN f b
  | a,0,h=>by rw [show a = 0 by omega]; exact Nat.le_refl _
  | a,b+1,h=>by
    by_cases he:a = b+1
    · rw [he]; exact Nat.le_refl _
    · have:=sum_mono f (show a <= b by omega)
      rw [sumN]
      omega
theorem read_ok {m w:Nat->Bool} {n i k:Nat} (hi:i < n) (hk:k < n) (hm:m k = true) (hw:w i = false) :
    (rfN m w n i = -1 ∧ valN m w n i = 0) ∨ ∃ j,j < n ∧ rfN m w n i = ofNat j ∧ w j = true ∧ partN m n j = partN m n i ∧ valN m w n j = valN m w n i:=by
  have hs:=inSeg hi hk hm
  have ht:=hs.lt
  have hr:=rf_at hs hw
  have hv:=val_at (w:=w) hs
  have he:=hs.eq
  have hlen:=hs.lt_len
  have hwi:w (rnd n (segN m n i) (dstN m n i)) = false:=by rw [<- he]; exact hw
  rw [wc_f hwi] at hv
  rw [wl_eq (Nat.le_of_lt ht)] at hr
  by_cases h0:wcN w n (segN m n i) (dstN m n i) = 0
  · rw [if_pos h0] at hr
    exact .inl ⟨hr,hv.trans h0⟩
  · rw [if_neg h0] at hr
    obtain ⟨s,s1,s2,s3,s4⟩:=wrAt_spec (w:=w) (n:=n) (b:=segN m n i) (e:=dstN m n i) (v:=wcN w n (segN m n i) (dstN m n i) - 1) (Nat.le_of_lt ht) (by omega)
    have hs2:=inSeg_at hs.lb hs.st (show s < lenN m n (segN m n i) by omega)
    refine .inr ⟨rnd n (segN m n i) s,rnd_lt (by omega),by rw [hr,s4],s2,by rw [part_same hs2,part_same hs],?_⟩
    rw [val_at (w:=w) hs2,wc_t s2,hv,s3]
    omega
theorem two_writes {a:Int} {n:Nat} {g:Nat->E6} (h:IsCycle a n g) {b:Nat} (hb:b < kkN n g):lnN (mbF g) (wrF g) n b <= 2:=by
  rw [ln_cnt hb]
  rcases Nat.eq_zero_or_pos (cntB (fun i=>decide (partN (mbF g) n i = b) && wrF g i) n) with h0 | h0
  · omega
  · obtain ⟨i,h1,h2⟩:=cnt_there (p:=fun i=>decide (partN (mbF g) n i = b) && wrF g i) (n:=n) h0
    have h2:partN (mbF g) n i = b ∧ wrF g i = true:=by simpa using h2
    have h4:=h.writes i h1
    unfold tooMany at h4
    rw [band_t (show isW (g i) = true from h2.2)] at h4
    have h5:¬ ((2:Int) < ofNat (cntB (cntP (partF (fun k=>movB (g k)) n) (fun i=>isW (g i)) (partF (fun k=>movB (g k)) n i)) n)):=of_decide_eq_false h4
    have h6:cntB (cntP (partF (fun k=>movB (g k)) n) (fun i=>isW (g i)) (partF (fun k=>movB (g k)) n i)) n = cntB (fun i=>decide (partN (mbF g) n i = b) && wrF g i) n:=cnt_congr fun k hk=>by
      unfold cntP
      rw [show partF (fun k=>movB (g k)) n i = ofNat b from (partF_N h1).trans (by rw [show partN (fun k=>movB (g k)) n i = b from h2.1]),
        show partF (fun k=>movB (g k)) n k = ofNat (partN (mbF g) n k) from partF_N hk]
      show band (ieq (ofNat (partN (mbF g) n k)) (ofNat b)) (wrF g k) = _
      by_cases he:partN (mbF g) n k = b
      · rw [he,band_t (ieq_rfl _),decide_eq_true rfl]
        rfl
      · have hf:ieq (ofNat (partN (mbF g) n k)) (ofNat b) = false:=by
          cases hc:ieq (ofNat (partN (mbF g) n k)) (ofNat b) with
          | false=>rfl
          | true=>exact absurd (Int.ofNat.inj (ieq_eq hc)) he
        rw [hf,decide_eq_false he]
        rfl
    rw [h6] at h5
    have h5:¬ ((2:Int) < (cntB (fun i=>decide (partN (mbF g) n i = b) && wrF g i) n:Int)):=h5
    omega
noncomputable def tb5:List (Nat × (List V->T (V × List Blk))):=[(14,ofT),(18,unitT (bV true)),(19,chkT)]
theorem tb5_ok:AllPure Try.prog Gl tb5:=.cons p14 <| .cons p18 <| .cons p49 .nil
theorem w5e (L:LT) (a:Int) (n:Nat) (f:Nat->E6) (h19:fitN n = true) (h0:ieq (chkE a n f) 0 = false):(finF (evalF tab ⟨callT tb5,L,Gl⟩ Try.f5 [iV a,.sl 6 n fun i=>eV (f i)] [])).sem = some ((bV true),[]):=by
  exact sem_of_path (ds:=bbK 8 251) (cs:=((fun c0 c1 c2=>[c0,c1,(ieq (chkE a n f) 0),(bnot (ieq (chkE a n f) 0)),c0,c1,c2,c2]) (allN n (fun _=>true)) (fitN n) (ieq (chkE a n f) (chkE a n f)))) (by kernel_rfl) (by simp only [h19,h0,allN_true,ieq_self] <;> rfl)
def ent5 (a:Int) (n:Nat) (f:Nat->E6) :St:=⟨(jsV 207 0 (fun _=>undefV) [(0,(iV a)),(1,(.sl 6 n (fun i=>(eV (f i))))),(4,(bV false)),(5,(.ptr 4 0)),(6,(iV 0)),(7,(iV 0)),(10,(iV 0)),(11,(iV 0)),(18,(.tup [(.agg [(iV a),(.ref 0),(.ref 1),(iV (ofNat (ttN n (shG n f)))),(iV (ofNat (kkN n (shG n f)))),(.ref 2),(.jref 3)]),(iV 0),(iV 0)])),(19,(iV a)),(20,(.sl 6 n (fun i=>(eV (f i))))),(21,(.tup [(.agg [(iV a),(.ref 0),(.ref 1),(iV (ofNat (ttN n (shG n f)))),(iV (ofNat (kkN n (shG n f)))),(.ref 2),(.jref 3)]),(iV 0),(iV 0)])),(22,(.agg [(iV a),(.ref 0),(.ref 1),(iV (ofNat (ttN n (shG n f)))),(iV (ofNat (kkN n (shG n f)))),(.ref 2),(.jref 3)])),(23,(iV 0)),(24,(iV 0)),(25,(iV 0)),(26,(bV (bnot (ieq 0 0)))),(39,(.ptr 4 2)),(40,(.ref 1)),(41,(nV n)),(42,(.sl 6 n (fun i=>(eV (f i))))),(43,(nV n)),(44,(bV (bnot (ieq (ofNat n) (ofNat n))))),(45,(bV (bnot (ieq (ofNat n) (ofNat n))))),(46,(.ptr 4 5)),(47,(.ref 2)),(48,(nV n)),(49,(.sl 6 n (fun i=>(eV (f i))))),(50,(nV n)),(51,(bV (bnot (ieq (ofNat n) (ofNat n))))),(52,(bV (bnot (ieq (ofNat n) (ofNat n)))))]),[(.row 44 6 n (fun i=>(eV (shG n f i)))),(.row 40 5 n (fun i=>(.agg [(iV ((evF n (shG n f) (fun _=>true) i)).th),(iV ((evF n (shG n f) (fun _=>true) i)).pl),(iV ((evF n (shG n f) (fun _=>true) i)).dir),(iV ((evF n (shG n f) (fun _=>true) i)).loc),(iV ((evF n (shG n f) (fun _=>true) i)).val)]))),(.row 3 1 n (fun i=>(iV (rfF n (shG n f) (fun _=>true) i)))),(.jag (Jag.mk 25 1 (kkN n (shG n f)) (fun _=>.und) 0 3 1 (fun _=>true) (lnN (mbF (shG n f)) (wrF (shG n f)) n) (fun k i=>(iV (ofNat (coN (mbF (shG n f)) (wrF (shG n f)) n k i)))))),(.cells [(iV a),(.ref 0),(.ref 1),(iV (ofNat (ttN n (shG n f)))),(iV (ofNat (kkN n (shG n f)))),(.ref 2),(.jref 3)])]⟩
def lp5 (a:Int) (n:Nat) (f:Nat->E6):Lp:=⟨(bmK 207 0 [4,5,10,11]),5,(bmK 207 0 [4,5,10]),5,18⟩
def st5 (a:Int) (n:Nat) (f:Nat->E6) (t q:Nat) (g:Nat->E6) (x:Nat->Ev5) (r:Nat->Int) (ln:Nat->Nat) (co:Nat->Nat->Nat) (b c:Nat) (j:Nat->V):St:=⟨(jsV 207 0 j [(4,bV false),(5,.ptr 4 0),(10,nV c),(11,nV b)]),[(.row 44 6 n (fun i=>(eV (g i)))),(.row 40 5 n (fun i=>evV (x i))),(.row 3 1 n (fun i=>iV (r i))),(.jag (Jag.mk 25 1 q (fun _=>.und) 0 3 1 (fun _=>true) ln (fun k i=>(iV (ofNat (co k i)))))),(.cells [(iV a),(.ref 0),(.ref 1),(nV t),(nV q),(.ref 2),(.jref 3)])]⟩
def en5e (a:Int) (n:Nat) (f:Nat->E6) (t q:Nat) (g:Nat->E6) (x:Nat->Ev5) (r:Nat->Int) (ln:Nat->Nat) (co:Nat->Nat->Nat) (b c:Nat):Ex × St:=(.ex 0,⟨(jsV 207 0 (fun _=>.und) [(4,bV false),(5,.ptr 4 0),(10,nV c)]),[(.row 44 6 n (fun i=>(eV (g i)))),(.row 40 5 n (fun i=>evV (x i))),(.row 3 1 n (fun i=>iV (r i))),(.jag (Jag.mk 25 1 q (fun _=>.und) 0 3 1 (fun _=>true) ln (fun k i=>(iV (ofNat (co k i)))))),(.cells [(iV a),(.ref 0),(.ref 1),(nV t),(nV q),(.ref 2),(.jref 3)])]⟩)
noncomputable def body5 (L:LT):St->T (Ex × St):=fun st=>evalC tab ⟨callT tb5,L,Gl⟩ (loopBody Try.f5 0) 0 st
theorem rt5e (L:LT) (a:Int) (n:Nat) (f:Nat->E6) (t q:Nat) (g:Nat->E6) (x:Nat->Ev5) (r:Nat->Int) (ln:Nat->Nat) (co:Nat->Nat->Nat) (b c:Nat)  (j:Nat->V) (h0:ilt (ofNat b) (ofNat q) = false):roundT (body5 L) (lp5 a n f) (st5 a n f t q g x r ln co b c j) = some ((.ex 0),⟨(jsV 207 0 (fun _=>.und) [(4,(bV false)),(5,(.ptr 4 0)),(10,(nV c))]),[(.row 44 6 n (fun i=>(eV (g i)))),(.row 40 5 n (fun i=>(.agg [(iV ((x i)).th),(iV ((x i)).pl),(iV ((x i)).dir),(iV ((x i)).loc),(iV ((x i)).val)]))),(.row 3 1 n (fun i=>(iV (r i)))),(.jag (Jag.mk 25 1 q (fun _=>.und) 0 3 1 (fun _=>true) ln (fun k i=>(iV (ofNat (co k i)))))),(.cells [(iV a),(.ref 0),(.ref 1),(nV t),(nV q),(.ref 2),(.jref 3)])]⟩):=by
  exact sem_of_path (ds:=[false]) (cs:=[(ilt (ofNat b) (ofNat q))]) (by kernel_rfl) (by simp only [h0] <;> rfl)
def ent5_2 (a:Int) (n:Nat) (f:Nat->E6) (t q:Nat) (g:Nat->E6) (x:Nat->Ev5) (r:Nat->Int) (ln:Nat->Nat) (co:Nat->Nat->Nat) (b c:Nat) (j:Nat->V):St:=⟨(jsV 207 0 j [(4,(bV false)),(5,(.ptr 4 0)),(10,(nV c)),(11,(nV b)),(12,(iV 0)),(53,(nV b)),(54,(.ptr 4 6)),(55,(.jref 3)),(56,(nV q)),(57,(bV (ilt (ofNat b) (ofNat q)))),(60,(.ptr 4 6)),(61,(.jref 3)),(62,(nV b)),(63,(.jept 3 1 b 0)),(64,(.mref 3 b)),(65,(iV (ofNat (ln b)))),(66,(bV (ilt 2 (ofNat (ln b)))))]),[(.row 44 6 n (fun i=>(eV (g i)))),(.row 40 5 n (fun i=>(.agg [(iV ((x i)).th),(iV ((x i)).pl),(iV ((x i)).dir),(iV ((x i)).loc),(iV ((x i)).val)]))),(.row 3 1 n (fun i=>(iV (r i)))),(.jag (Jag.mk 25 1 q (fun _=>.und) 0 3 1 (fun _=>true) ln (fun k i=>(iV (ofNat (co k i)))))),(.cells [(iV a),(.ref 0),(.ref 1),(nV t),(nV q),(.ref 2),(.jref 3)])]⟩
def lp5_2 (a:Int) (n:Nat) (f:Nat->E6):Lp:=⟨(bmK 207 0 [4,5,10,11,12]),5,(bmK 207 0 [4,5,10,11]),5,4⟩
def st5_2 (a:Int) (n:Nat) (f:Nat->E6) (t q:Nat) (g:Nat->E6) (x:Nat->Ev5) (r:Nat->Int) (ln:Nat->Nat) (co:Nat->Nat->Nat) (b c:Nat) (d:Nat) (j:Nat->V):St:=⟨(jsV 207 0 j [(4,bV false),(5,.ptr 4 0),(10,iV (ofNat (nadd c d))),(11,nV b),(12,nV d)]),[(.row 44 6 n (fun i=>(eV (g i)))),(.row 40 5 n (fun i=>evV (x i))),(.row 3 1 n (fun i=>iV (r i))),(.jag (Jag.mk 25 1 q (fun _=>.und) 0 3 1 (fun _=>true) ln (fun k i=>(iV (ofNat (co k i)))))),(.cells [(iV a),(.ref 0),(.ref 1),(nV t),(nV q),(.ref 2),(.jref 3)])]⟩
def en5_2e (a:Int) (n:Nat) (f:Nat->E6) (t q:Nat) (g:Nat->E6) (x:Nat->Ev5) (r:Nat->Int) (ln:Nat->Nat) (co:Nat->Nat->Nat) (b c:Nat) (d:Nat):Ex × St:=(.ex 2,⟨(jsV 207 0 (fun _=>.und) [(4,bV false),(5,.ptr 4 0),(10,iV (ofNat (nadd c d))),(11,nV b)]),[(.row 44 6 n (fun i=>(eV (g i)))),(.row 40 5 n (fun i=>evV (x i))),(.row 3 1 n (fun i=>iV (r i))),(.jag (Jag.mk 25 1 q (fun _=>.und) 0 3 1 (fun _=>true) ln (fun k i=>(iV (ofNat (co k i)))))),(.cells [(iV a),(.ref 0),(.ref 1),(nV t),(nV q),(.ref 2),(.jref 3)])]⟩)
noncomputable def body5_2 (L:LT):St->T (Ex × St):=fun st=>evalC tab ⟨callT tb5,L,Gl⟩ (loopBody Try.f5 2) 2 st
section
variable (L:LT) (a:Int) (n:Nat) (f:Nat->E6) (t q:Nat) (g:Nat->E6) (x:Nat->Ev5) (r:Nat->Int) (ln:Nat->Nat) (co:Nat->Nat->Nat) (b c:Nat) (d:Nat)  (j:Nat->V)
include L a n f t q g x r ln co b c d j
theorem ru5e (h21:band (ile 0 (ofNat b)) (ilt (ofNat b) (ofNat q)) = true) (h0:nlt b q = true) (h1:ilt (ofNat d) (ofNat (ln b)) = false):roundT (body5_2 L) (lp5_2 a n f) (st5_2 a n f t q g x r ln co b c d j) = some ((.ex 2),⟨(jsV 207 0 (fun _=>.und) [(4,(bV false)),(5,(.ptr 4 0)),(10,(iV (ofNat (nadd c d)))),(11,(nV b))]),[(.row 44 6 n (fun i=>(eV (g i)))),(.row 40 5 n (fun i=>(.agg [(iV ((x i)).th),(iV ((x i)).pl),(iV ((x i)).dir),(iV ((x i)).loc),(iV ((x i)).val)]))),(.row 3 1 n (fun i=>(iV (r i)))),(.jag (Jag.mk 25 1 q (fun _=>.und) 0 3 1 (fun _=>true) ln (fun k i=>(iV (ofNat (co k i)))))),(.cells [(iV a),(.ref 0),(.ref 1),(nV t),(nV q),(.ref 2),(.jref 3)])]⟩):=by
  exact sem_of_path (ds:=[true,true,true,true,false]) (cs:=[(band (ile 0 (ofNat b)) (ilt (ofNat b) (ofNat q))),(nlt b q),true,true,(ilt (ofNat d) (ofNat (ln b)))]) (by kernel_rfl) (by simp only [h21] <;> simp only [h0,h1] <;> rfl)
theorem ru5n (h28:band (ile 0 (ofNat b)) (ilt (ofNat b) (ofNat q)) = true) (h0:nlt b q = true) (h1:ilt (ofNat d) (ofNat (ln b)) = true) (h29:ile 0 (ofNat d) = true) (h2:nlt d (ln b) = true) (h3:ilt (ofNat (co b d)) 0 = false) (h4:ile (ofNat n) (ofNat (co b d)) = false) (h31:band (ile 0 (ofNat (co b d))) (ilt (ofNat (co b d)) (ofNat n)) = true) (h5:nlt (co b d) n = true) (h6:ieq ((x (co b d))).dir 2 = true) (h7:ieq ((x (co b d))).loc (ofNat b) = true) (h8:ieq ((x (co b d))).val (wr .i64 (iadd (ofNat d) 1)) = true):roundT (body5_2 L) (lp5_2 a n f) (st5_2 a n f t q g x r ln co b c d j) = some (.nm,⟨(jsV 207 0 (fun _=>.und) [(4,(bV false)),(5,(.ptr 4 0)),(10,(iV (wr .i64 (iadd (ofNat (nadd c d)) 1)))),(11,(nV b)),(12,(iV (wr .i64 (iadd (ofNat d) 1))))]),[(.row 44 6 n (fun i=>(eV (g i)))),(.row 40 5 n (fun i=>(.agg [(iV ((x i)).th),(iV ((x i)).pl),(iV ((x i)).dir),(iV ((x i)).loc),(iV ((x i)).val)]))),(.row 3 1 n (fun i=>(iV (r i)))),(.jag (Jag.mk 25 1 q (fun _=>.und) 0 3 1 (fun _=>true) ln (fun k i=>(iV (ofNat (co k i)))))),(.cells [(iV a),(.ref 0),(.ref 1),(nV t),(nV q),(.ref 2),(.jref 3)])]⟩):=by
  exact sem_of_path (ds:=bbK 52 79203529658367) (cs:=((fun c0 c1 c2 c3 c4 c5 c6 c7 c8=>[c0,c1,c2,c2,(ilt (ofNat d) (ofNat (ln b))),c0,c1,c2,c2,(band (ile 0 (ofNat d)) (ilt (ofNat d) (ofNat (ln b)))),c2,(nlt d (ln b)),c3,c3,c3,c3,c3,c3,c4,c4,c4,c4,c5,c4,c4,c6,c4,c4,c7,c7,c7,c7,c5,c7,c7,c6,c7,c7,c7,c8,c8,c8,c8,c5,c8,c8,c6,c8,c8,c8,c8,(bnot (ieq ((x (co b d))).val (wr .i64 (iadd (ofNat d) 1))))]) (band (ile 0 (ofNat b)) (ilt (ofNat b) (ofNat q))) (nlt b q) (true) (ilt (ofNat (co b d)) 0) (ile (ofNat n) (ofNat (co b d))) (band (ile 0 (ofNat (co b d))) (ilt (ofNat (co b d)) (ofNat n))) (nlt (co b d) n) (bnot (ieq ((x (co b d))).dir 2)) (bnot (ieq ((x (co b d))).loc (ofNat b))))) (by kernel_rfl) (by simp only [h28,h31] <;> simp only [h0,h1,h29,h2,h3,h4,h5,h6,h7,h8] <;> rfl)
end
theorem rt5n (L:LT) (p2:PT) (a:Int) (n:Nat) (f:Nat->E6) (t q:Nat) (g:Nat->E6) (x:Nat->Ev5) (r:Nat->Int) (ln:Nat->Nat) (co:Nat->Nat->Nat) (b c:Nat) (e:Nat) (j:Nat->V) (h0:ilt (ofNat b) (ofNat q) = true) (h21:ile 0 (ofNat b) = true) (h1:nlt b q = true) (h2:ilt 2 (ofNat (ln b)) = false) (hp2:p2 (body5_2 (onP 2 p2 (en5_2e a n f t q g x r ln co b c e) L)) (ent5_2 a n f t q g x r ln co b c j) = true):roundT (body5 (onP 2 p2 (en5_2e a n f t q g x r ln co b c e) L)) (lp5 a n f) (st5 a n f t q g x r ln co b c j) = some (.nm,⟨(jsV 207 0 (fun _=>.und) [(4,(bV false)),(5,(.ptr 4 0)),(10,(iV (ofNat (nadd c e)))),(11,(iV (wr .i64 (iadd (ofNat b) 1))))]),[(.row 44 6 n (fun i=>(eV (g i)))),(.row 40 5 n (fun i=>(.agg [(iV ((x i)).th),(iV ((x i)).pl),(iV ((x i)).dir),(iV ((x i)).loc),(iV ((x i)).val)]))),(.row 3 1 n (fun i=>(iV (r i)))),(.jag (Jag.mk 25 1 q (fun _=>.und) 0 3 1 (fun _=>true) ln (fun k i=>(iV (ofNat (co k i)))))),(.cells [(iV a),(.ref 0),(.ref 1),(nV t),(nV q),(.ref 2),(.jref 3)])]⟩):=by
  exact sem_of_path (ds:=bbK 7 95) (cs:=[(ilt (ofNat b) (ofNat q)),(band (ile 0 (ofNat b)) (ilt (ofNat b) (ofNat q))),(nlt b q),true,true,(ilt 2 (ofNat (ln b))),(p2 (body5_2 (onP 2 p2 (en5_2e a n f t q g x r ln co b c e) L)) (ent5_2 a n f t q g x r ln co b c j))]) (by kernel_rfl) (by simp only [hp2] <;> simp only [h0,h21,h1,h2] <;> rfl)
def ent5_4 (a:Int) (n:Nat) (f:Nat->E6) (b c:Nat):St:=⟨(jsV 207 0 (fun _=>.und) [(4,(bV false)),(5,(.ptr 4 0)),(10,(nV c)),(14,(iV 0)),(15,(iV 0))]),[(.row 44 6 n (fun i=>(eV (shG n f i)))),(.row 40 5 n (fun i=>(.agg [(iV ((evF n (shG n f) (fun _=>true) i)).th),(iV ((evF n (shG n f) (fun _=>true) i)).pl),(iV ((evF n (shG n f) (fun _=>true) i)).dir),(iV ((evF n (shG n f) (fun _=>true) i)).loc),(iV ((evF n (shG n f) (fun _=>true) i)).val)]))),(.row 3 1 n (fun i=>(iV (rfF n (shG n f) (fun _=>true) i)))),(.jag (Jag.mk 25 1 (kkN n (shG n f)) (fun _=>.und) 0 3 1 (fun _=>true) (lnN (mbF (shG n f)) (wrF (shG n f)) n) (fun k i=>(iV (ofNat (coN (mbF (shG n f)) (wrF (shG n f)) n k i)))))),(.cells [(iV a),(.ref 0),(.ref 1),(iV (ofNat (ttN n (shG n f)))),(iV (ofNat (kkN n (shG n f)))),(.ref 2),(.jref 3)])]⟩
def lp5_4 (a:Int) (n:Nat) (f:Nat->E6):Lp:=⟨(bmK 207 0 [4,5,10,14,15]),5,(bmK 207 0 [4,10,14]),5,18⟩
def st5_4 (a:Int) (n:Nat) (f:Nat->E6) (t q:Nat) (g:Nat->E6) (x:Nat->Ev5) (r:Nat->Int) (ln:Nat->Nat) (co:Nat->Nat->Nat) (c w b:Nat) (j:Nat->V):St:=⟨(jsV 207 0 j [(4,bV false),(5,.ptr 4 0),(10,nV c),(14,nV w),(15,nV b)]),[(.row 44 6 n (fun i=>(eV (g i)))),(.row 40 5 n (fun i=>evV (x i))),(.row 3 1 n (fun i=>iV (r i))),(.jag (Jag.mk 25 1 q (fun _=>.und) 0 3 1 (fun _=>true) ln (fun k i=>(iV (ofNat (co k i)))))),(.cells [(iV a),(.ref 0),(.ref 1),(nV t),(nV q),(.ref 2),(.jref 3)])]⟩
def en5_4e (a:Int) (n:Nat) (f:Nat->E6) (t q:Nat) (g:Nat->E6) (x:Nat->Ev5) (r:Nat->Int) (ln:Nat->Nat) (co:Nat->Nat->Nat) (c w b:Nat):Ex × St:=(.ex 4,⟨(jsV 207 0 (fun _=>.und) [(4,bV false),(10,nV c),(14,nV w)]),[(.row 44 6 n (fun i=>(eV (g i)))),(.row 40 5 n (fun i=>evV (x i))),(.row 3 1 n (fun i=>iV (r i))),(.jag (Jag.mk 25 1 q (fun _=>.und) 0 3 1 (fun _=>true) ln (fun k i=>(iV (ofNat (co k i)))))),(.cells [(iV a),(.ref 0),(.ref 1),(nV t),(nV q),(.ref 2),(.jref 3)])]⟩)
noncomputable def body5_4 (L:LT):St->T (Ex × St):=fun st=>evalC tab ⟨callT tb5,L,Gl⟩ (loopBody Try.f5 4) 4 st
section
variable (L:LT) (a:Int) (n:Nat) (f:Nat->E6) (t q:Nat) (g:Nat->E6) (x:Nat->Ev5) (r:Nat->Int) (ln:Nat->Nat) (co:Nat->Nat->Nat) (c w b:Nat)  (j:Nat->V)
include L a n f t q g x r ln co c w b j
theorem rv5e (h0:ilt (ofNat b) (ofNat n) = false):roundT (body5_4 L) (lp5_4 a n f) (st5_4 a n f t q g x r ln co c w b j) = some ((.ex 4),⟨(jsV 207 0 (fun _=>.und) [(4,(bV false)),(10,(nV c)),(14,(nV w))]),[(.row 44 6 n (fun i=>(eV (g i)))),(.row 40 5 n (fun i=>(.agg [(iV ((x i)).th),(iV ((x i)).pl),(iV ((x i)).dir),(iV ((x i)).loc),(iV ((x i)).val)]))),(.row 3 1 n (fun i=>(iV (r i)))),(.jag (Jag.mk 25 1 q (fun _=>.und) 0 3 1 (fun _=>true) ln (fun k i=>(iV (ofNat (co k i)))))),(.cells [(iV a),(.ref 0),(.ref 1),(nV t),(nV q),(.ref 2),(.jref 3)])]⟩):=by
  exact sem_of_path (ds:=[false]) (cs:=[(ilt (ofNat b) (ofNat n))]) (by kernel_rfl) (by simp only [h0] <;> rfl)
theorem rv5w (h0:ilt (ofNat b) (ofNat n) = true) (h22:ile 0 (ofNat b) = true) (h1:nlt b n = true) (h2:ieq ((x b)).dir 2 = true) (h3:ieq (r b) (-1) = true):roundT (body5_4 L) (lp5_4 a n f) (st5_4 a n f t q g x r ln co c w b j) = some (.nm,⟨(jsV 207 0 (fun _=>.und) [(4,(bV false)),(5,(.ptr 4 0)),(10,(nV c)),(14,(iV (wr .i64 (iadd (ofNat w) 1)))),(15,(iV (wr .i64 (iadd (ofNat b) 1))))]),[(.row 44 6 n (fun i=>(eV (g i)))),(.row 40 5 n (fun i=>(.agg [(iV ((x i)).th),(iV ((x i)).pl),(iV ((x i)).dir),(iV ((x i)).loc),(iV ((x i)).val)]))),(.row 3 1 n (fun i=>(iV (r i)))),(.jag (Jag.mk 25 1 q (fun _=>.und) 0 3 1 (fun _=>true) ln (fun k i=>(iV (ofNat (co k i)))))),(.cells [(iV a),(.ref 0),(.ref 1),(nV t),(nV q),(.ref 2),(.jref 3)])]⟩):=by
  exact sem_of_path (ds:=bbK 7 63) (cs:=((fun c0 c1=>[(ilt (ofNat b) (ofNat n)),c0,c1,c0,c1,(ieq ((x b)).dir 2),(bnot (ieq (r b) (-1)))]) (band (ile 0 (ofNat b)) (ilt (ofNat b) (ofNat n))) (nlt b n))) (by kernel_rfl) (by simp only [h0,h22,h1,h2,h3] <;> rfl)
theorem rv5z (h0:ilt (ofNat b) (ofNat n) = true) (h26:ile 0 (ofNat b) = true) (h1:nlt b n = true) (h2:ieq ((x b)).dir 2 = false) (h3:ieq (r b) (-1) = true) (h4:ieq ((x b)).val 0 = true) (h5:ilt (r b) (-1) = false) (h6:ile (ofNat n) (r b) = false) (h7:ile 0 (r b) = false):roundT (body5_4 L) (lp5_4 a n f) (st5_4 a n f t q g x r ln co c w b j) = some (.nm,⟨(jsV 207 0 (fun _=>.und) [(4,(bV false)),(5,(.ptr 4 0)),(10,(nV c)),(14,(nV w)),(15,(iV (wr .i64 (iadd (ofNat b) 1))))]),[(.row 44 6 n (fun i=>(eV (g i)))),(.row 40 5 n (fun i=>(.agg [(iV ((x i)).th),(iV ((x i)).pl),(iV ((x i)).dir),(iV ((x i)).loc),(iV ((x i)).val)]))),(.row 3 1 n (fun i=>(iV (r i)))),(.jag (Jag.mk 25 1 q (fun _=>.und) 0 3 1 (fun _=>true) ln (fun k i=>(iV (ofNat (co k i)))))),(.cells [(iV a),(.ref 0),(.ref 1),(nV t),(nV q),(.ref 2),(.jref 3)])]⟩):=by
  exact sem_of_path (ds:=bbK 33 991) (cs:=((fun c0 c1 c2 c3 c4 c5=>[(ilt (ofNat b) (ofNat n)),c0,c1,c0,c1,(ieq ((x b)).dir 2),c2,c2,c2,c2,c3,c3,c3,c4,c4,c4,c4,c4,c4,(ile (ofNat n) (r b)),c5,c5,c5,c5,c5,c5,c5,c5,c5,c5,c5,c5,false]) (band (ile 0 (ofNat b)) (ilt (ofNat b) (ofNat n))) (nlt b n) (ieq (r b) (-1)) (bnot (ieq ((x b)).val 0)) (ilt (r b) (-1)) (ile 0 (r b)))) (by kernel_rfl) (by simp only [h0,h26,h1,h2,h3,h4,h5,h6,h7] <;> rfl)
theorem rv5r (h0:ilt (ofNat b) (ofNat n) = true) (h28:ile 0 (ofNat b) = true) (h1:nlt b n = true) (h2:ieq ((x b)).dir 2 = false) (h3:ieq (r b) (-1) = false) (h4:ilt (r b) (-1) = false) (h5:ile (ofNat n) (r b) = false) (h6:ile 0 (r b) = true) (h29:band (ile 0 (r b)) (ilt (r b) (ofNat n)) = true) (h30:nlt (toN (r b)) n = true) (h7:ieq ((x (toN (r b)))).dir 2 = true) (h8:ieq ((x (toN (r b)))).loc ((x b)).loc = true) (h9:ieq ((x (toN (r b)))).val ((x b)).val = true):roundT (body5_4 L) (lp5_4 a n f) (st5_4 a n f t q g x r ln co c w b j) = some (.nm,⟨(jsV 207 0 (fun _=>.und) [(4,(bV false)),(5,(.ptr 4 0)),(10,(nV c)),(14,(nV w)),(15,(iV (wr .i64 (iadd (ofNat b) 1))))]),[(.row 44 6 n (fun i=>(eV (g i)))),(.row 40 5 n (fun i=>(.agg [(iV ((x i)).th),(iV ((x i)).pl),(iV ((x i)).dir),(iV ((x i)).loc),(iV ((x i)).val)]))),(.row 3 1 n (fun i=>(iV (r i)))),(.jag (Jag.mk 25 1 q (fun _=>.und) 0 3 1 (fun _=>true) ln (fun k i=>(iV (ofNat (co k i)))))),(.cells [(iV a),(.ref 0),(.ref 1),(nV t),(nV q),(.ref 2),(.jref 3)])]⟩):=by
  exact sem_of_path (ds:=bbK 59 182688410693009439) (cs:=((fun c0 c1 c2 c3 c4 c5 c6 c7 c8 c9=>[(ilt (ofNat b) (ofNat n)),c0,c1,c0,c1,(ieq ((x b)).dir 2),c2,c2,c2,c2,c3,c3,c3,c4,c4,c4,c4,c4,c4,(ile (ofNat n) (r b)),c5,c5,c5,c5,c6,c5,c5,c7,c5,c5,c8,c8,c8,c8,c6,c8,c8,c7,c8,c8,c8,c5,c8,c5,c9,c9,c9,c9,c6,c9,c9,c7,c9,c9,c9,c5,c9,c5,(bnot (ieq ((x (toN (r b)))).val ((x b)).val))]) (band (ile 0 (ofNat b)) (ilt (ofNat b) (ofNat n))) (nlt b n) (ieq (r b) (-1)) (false) (ilt (r b) (-1)) (ile 0 (r b)) (band (ile 0 (r b)) (ilt (r b) (ofNat n))) (nlt (toN (r b)) n) (bnot (ieq ((x (toN (r b)))).dir 2)) (bnot (ieq ((x (toN (r b)))).loc ((x b)).loc)))) (by kernel_rfl) (by simp only [h29] <;> simp only [h0,h28,h1,h2,h3,h4,h5,h6,h30,h7,h8,h9] <;> rfl)
end
theorem w5o (L:LT) (p0:PT) (p4:PT) (a:Int) (n:Nat) (f:Nat->E6) (b c w:Nat) (h20:fitN n = true) (h0:ieq (chkE a n f) 0 = true) (h1:ieq (ofNat c) (ofNat w) = true) (hp0:p0 (body5 (onP 0 p0 (en5e a n f (ttN n (shG n f)) (kkN n (shG n f)) (shG n f) (evF n (shG n f) (fun _=>true)) (rfF n (shG n f) (fun _=>true)) (lnN (mbF (shG n f)) (wrF (shG n f)) n) (coN (mbF (shG n f)) (wrF (shG n f)) n) b c) (onP 4 p4 (en5_4e a n f (ttN n (shG n f)) (kkN n (shG n f)) (shG n f) (evF n (shG n f) (fun _=>true)) (rfF n (shG n f) (fun _=>true)) (lnN (mbF (shG n f)) (wrF (shG n f)) n) (coN (mbF (shG n f)) (wrF (shG n f)) n) c w 0) L))) (ent5 a n f) = true) (hp4:p4 (body5_4 (onP 0 p0 (en5e a n f (ttN n (shG n f)) (kkN n (shG n f)) (shG n f) (evF n (shG n f) (fun _=>true)) (rfF n (shG n f) (fun _=>true)) (lnN (mbF (shG n f)) (wrF (shG n f)) n) (coN (mbF (shG n f)) (wrF (shG n f)) n) b c) (onP 4 p4 (en5_4e a n f (ttN n (shG n f)) (kkN n (shG n f)) (shG n f) (evF n (shG n f) (fun _=>true)) (rfF n (shG n f) (fun _=>true)) (lnN (mbF (shG n f)) (wrF (shG n f)) n) (coN (mbF (shG n f)) (wrF (shG n f)) n) c w 0) L))) (ent5_4 a n f b c) = true):(finF (evalF tab ⟨callT tb5,(onP 0 p0 (en5e a n f (ttN n (shG n f)) (kkN n (shG n f)) (shG n f) (evF n (shG n f) (fun _=>true)) (rfF n (shG n f) (fun _=>true)) (lnN (mbF (shG n f)) (wrF (shG n f)) n) (coN (mbF (shG n f)) (wrF (shG n f)) n) b c) (onP 4 p4 (en5_4e a n f (ttN n (shG n f)) (kkN n (shG n f)) (shG n f) (evF n (shG n f) (fun _=>true)) (rfF n (shG n f) (fun _=>true)) (lnN (mbF (shG n f)) (wrF (shG n f)) n) (coN (mbF (shG n f)) (wrF (shG n f)) n) c w 0) L)),Gl⟩ Try.f5 [iV a,.sl 6 n fun i=>eV (f i)] [])).sem = some ((bV true),[]):=by
  exact sem_of_path (ds:=bbK 16 61447) (cs:=((fun c0 c1=>[(allN n (fun _=>true)),(fitN n),(ieq (chkE a n f) 0),(bnot (ieq 0 0)),c0,c0,c0,c0,c0,c0,c0,c0,(p0 (body5 (onP 0 p0 (en5e a n f (ttN n (shG n f)) (kkN n (shG n f)) (shG n f) (evF n (shG n f) (fun _=>true)) (rfF n (shG n f) (fun _=>true)) (lnN (mbF (shG n f)) (wrF (shG n f)) n) (coN (mbF (shG n f)) (wrF (shG n f)) n) b c) (onP 4 p4 (en5_4e a n f (ttN n (shG n f)) (kkN n (shG n f)) (shG n f) (evF n (shG n f) (fun _=>true)) (rfF n (shG n f) (fun _=>true)) (lnN (mbF (shG n f)) (wrF (shG n f)) n) (coN (mbF (shG n f)) (wrF (shG n f)) n) c w 0) L))) (ent5 a n f)),(p4 (body5_4 (onP 0 p0 (en5e a n f (ttN n (shG n f)) (kkN n (shG n f)) (shG n f) (evF n (shG n f) (fun _=>true)) (rfF n (shG n f) (fun _=>true)) (lnN (mbF (shG n f)) (wrF (shG n f)) n) (coN (mbF (shG n f)) (wrF (shG n f)) n) b c) (onP 4 p4 (en5_4e a n f (ttN n (shG n f)) (kkN n (shG n f)) (shG n f) (evF n (shG n f) (fun _=>true)) (rfF n (shG n f) (fun _=>true)) (lnN (mbF (shG n f)) (wrF (shG n f)) n) (coN (mbF (shG n f)) (wrF (shG n f)) n) c w 0) L))) (ent5_4 a n f b c)),c1,c1]) (bnot (ieq (ofNat n) (ofNat n))) (ieq (ofNat c) (ofNat w)))) (by kernel_rfl) (by simp only [ieq_self,hp0,hp4] <;> simp only [ieq_self,h20,h0,h1,allN_true] <;> rfl)
theorem ent5_eq (a:Int) (n:Nat) (f:Nat->E6):ent5 a n f = st5 a n f (ttN n (shG n f)) (kkN n (shG n f)) (shG n f) (evF n (shG n f) (fun _=>true)) (rfF n (shG n f) (fun _=>true)) (lnN (mbF (shG n f)) (wrF (shG n f)) n) (coN (mbF (shG n f)) (wrF (shG n f)) n) 0 0 (fun i=>nth (ent5 a n f).t i):=by kernel_rfl
theorem ent5_2_eq (a:Int) (n:Nat) (f:Nat->E6) (t q:Nat) (g:Nat->E6) (x:Nat->Ev5) (r:Nat->Int) (ln:Nat->Nat) (co:Nat->Nat->Nat) (b c:Nat) (j:Nat->V) :
    ent5_2 a n f t q g x r ln co b c j = st5_2 a n f t q g x r ln co b c 0 (fun i=>nth (ent5_2 a n f t q g x r ln co b c j).t i):=by kernel_rfl
theorem ent5_4_eq (a:Int) (n:Nat) (f:Nat->E6) (b c:Nat):ent5_4 a n f b c = st5_4 a n f (ttN n (shG n f)) (kkN n (shG n f)) (shG n f) (evF n (shG n f) (fun _=>true)) (rfF n (shG n f) (fun _=>true)) (lnN (mbF (shG n f)) (wrF (shG n f)) n) (coN (mbF (shG n f)) (wrF (shG n f)) n) c 0 0 (fun i=>nth (ent5_4 a n f b c).t i):=by kernel_rfl
theorem run5i (L:LT) (a:Int) (n:Nat) (f:Nat->E6) (t q:Nat) (g:Nat->E6) (x:Nat->Ev5) (r:Nat->Int) (ln:Nat->Nat) (co:Nat->Nat->Nat) (b c:Nat)
    (hb:b < q) (hl2:ln b <= 2) (hcm:c+ln b <= 16) (hm:∀ d,d < ln b->co b d < n ∧ (x (co b d)).dir = 2 ∧ (x (co b d)).loc = ofNat b ∧ (x (co b d)).val = ofNat (d+1)):∀ (e d:Nat) (j:Nat->V) (u:Nat),ln b = d+e->e < u ->
    (iterT (body5_2 L) (lp5_2 a n f) u (st5_2 a n f t q g x r ln co b c d j)).sem = some (en5_2e a n f t q g x r ln co b c (ln b))
  | 0,d,j,u+1,h,_=>by
    have hd:d = ln b:=by omega
    subst hd
    exact iter_round (ru5e L a n f t q g x r ln co b c (ln b) j (by rw [band_t (ofNat_0 _)]; exact ofNat_lt hb) (decide_eq_true hb) (ofNat_ge (Nat.le_refl _)))
  | e+1,d,j,u+1,h,h2=>by
    have hl:d < ln b:=by omega
    obtain ⟨h0,h1,h3,h4⟩:=hm d hl
    have next:=run5i L a n f t q g x r ln co b c hb hl2 hcm hm e (d+1) (fun _=>.und) u (by omega) (by omega)
    rw [iter_round (ru5n L a n f t q g x r ln co b c d j (by rw [band_t (ofNat_0 _)]; exact ofNat_lt hb) (decide_eq_true hb) (ofNat_lt hl) (ofNat_0 d) (decide_eq_true hl) (neg_nat _) (ofNat_lt_ge h0) (by rw [band_t (ofNat_0 _)]; exact ofNat_lt h0) (decide_eq_true h0) (ieq_of h1) (ieq_of h3) (ieq_of (h4.trans (succ_wr hl (by omega)).symm))),goOn_nm,succ_wr hl (by omega)]
    rw [show wr .i64 (iadd (ofNat (nadd c d)) 1) = ofNat (c+(d+1)) from succ_wr (show c+d < 16 by omega) (by omega)]
    exact next
theorem run5 (M:LT) (hMM:LLe M M) (a:Int) (n:Nat) (f:Nat->E6) (t q:Nat) (g:Nat->E6) (x:Nat->Ev5) (r:Nat->Int) (ln:Nat->Nat) (co:Nat->Nat->Nat)
    (m2:∀ g st,M 2 g st = iterT g (lp5_2 a n f) 4 st) (hq:q <= 16) (hs:sumN ln q <= 16)
    (hm:∀ b,b < q->ln b <= 2 ∧ ∀ d,d < ln b->co b d < n ∧ (x (co b d)).dir = 2 ∧ (x (co b d)).loc = ofNat b ∧ (x (co b d)).val = ofNat (d+1)):∀ (e b:Nat) (j:Nat->V) (u:Nat),q = b+e->e < u ->
    (iterT (body5 M) (lp5 a n f) u (st5 a n f t q g x r ln co b (sumN ln b) j)).sem = some (en5e a n f t q g x r ln co q (sumN ln q))
  | 0,b,j,u+1,h,_=>by
    have hb:b = q:=by omega
    subst hb
    exact iter_round (rt5e M a n f t b g x r ln co b (sumN ln b) j (ofNat_ge (Nat.le_refl _)))
  | e+1,b,j,u+1,h,h2=>by
    have hb:b < q:=by omega
    obtain ⟨hl2,hm2⟩:=hm b hb
    have hsb:=sum_mono ln (show b+1 <= q by omega)
    rw [sumN] at hsb
    have hi:∀ M',(M 2 (body5_2 M') (ent5_2 a n f t q g x r ln co b (sumN ln b) j)).sem = some (en5_2e a n f t q g x r ln co b (sumN ln b) (ln b)):=fun M'=>by
      rw [m2,ent5_2_eq]
      exact run5i M' a n f t q g x r ln co b (sumN ln b) hb hl2 (by omega) hm2 (ln b) 0 _ 4 (by omega) (by omega)
    have next:=run5 M hMM a n f t q g x r ln co m2 hq hs hm e (b+1) (fun _=>.und) u (by omega) (by omega)
    have h3:=rt5n M _ a n f t q g x r ln co b (sumN ln b) (ln b) j (ofNat_lt hb) (ofNat_0 b) (decide_eq_true hb) (le2 hl2) (isP_true (hi _))
    have h4:roundT (body5 M) (lp5 a n f) (st5 a n f t q g x r ln co b (sumN ln b) j) = _:=roundT_le (l:=lp5 a n f) (evalC_le (Γ:=⟨callT tb5,M,Gl⟩) (onP_le hMM hMM) (loopBody Try.f5 0) 0 (st5 a n f t q g x r ln co b (sumN ln b) j)) h3
    rw [iter_round h4,goOn_nm,succ_wr hb (by omega)]
    exact next
theorem run5v (L:LT) (a:Int) (n:Nat) (f:Nat->E6) (t q:Nat) (g:Nat->E6) (x:Nat->Ev5) (r:Nat->Int) (ln:Nat->Nat) (co:Nat->Nat->Nat) (c:Nat) (w:Nat->Bool) (hn:n <= 16)
    (hw:∀ b,b < n->ieq (x b).dir 2 = w b)
    (hm:∀ b,b < n->(w b = true->r b = -1) ∧ (w b = false->(r b = -1 ∧ (x b).val = 0) ∨ ∃ k,k < n ∧ r b = ofNat k ∧ (x k).dir = 2 ∧ (x k).loc = (x b).loc ∧ (x k).val = (x b).val)):∀ (e b:Nat) (j:Nat->V) (u:Nat),n = b+e->e < u ->
    (iterT (body5_4 L) (lp5_4 a n f) u (st5_4 a n f t q g x r ln co c (cntB w b) b j)).sem = some (en5_4e a n f t q g x r ln co c (cntB w n) 0)
  | 0,b,j,u+1,h,_=>by
    have hb:b = n:=by omega
    subst hb
    exact iter_round (rv5e L a b f t q g x r ln co c (cntB w b) b j (ofNat_ge (Nat.le_refl _)))
  | e+1,b,j,u+1,h,h2=>by
    have hl:b < n:=by omega
    have hcb:=cntB_le w b
    obtain ⟨c1,c2⟩:=hm b hl
    have hd:=hw b hl
    have next:=run5v L a n f t q g x r ln co c w hn hw hm e (b+1) (fun _=>.und) u (by omega) (by omega)
    cases hp:w b with
    | true =>
      have hr:=c1 hp
      rw [hp] at hd
      rw [cntB_t hp] at next
      rw [iter_round (rv5w L a n f t q g x r ln co c (cntB w b) b j (ofNat_lt hl) (ofNat_0 b) (decide_eq_true hl) hd (ieq_of hr)),goOn_nm,succ_wr hl (by omega),succ_wr (show cntB w b < n by omega) (by omega)]
      exact next
    | false =>
      rw [hp] at hd
      rw [cntB_f hp] at next
      rcases c2 hp with ⟨hr,hv⟩ | ⟨k,hk,hr,k1,k2,k3⟩
      · rw [iter_round (rv5z L a n f t q g x r ln co c (cntB w b) b j (ofNat_lt hl) (ofNat_0 b) (decide_eq_true hl) hd (ieq_of hr) (ieq_of hv) (by rw [hr]; rfl) (by rw [hr]; exact neg_ge n) (by rw [hr]; rfl)),goOn_nm,succ_wr hl (by omega)]
        exact next
      · rw [iter_round (rv5r L a n f t q g x r ln co c (cntB w b) b j (ofNat_lt hl) (ofNat_0 b) (decide_eq_true hl) hd (by rw [hr]; exact nat_ne k) (by rw [hr]; exact nat_ge k) (by rw [hr]; exact ofNat_lt_ge hk) (by rw [hr]; exact ofNat_0 k) (by rw [hr,band_t (ofNat_0 _)]; exact ofNat_lt hk) (by rw [hr]; exact decide_eq_true hk) (by rw [hr]; exact ieq_of k1) (by rw [hr]; exact ieq_of k2) (by rw [hr]; exact ieq_of k3)),goOn_nm,succ_wr hl (by omega)]
        exact next
theorem p5:PureC Try.prog Gl 5 lawT:=by
  refine pureC_intro tabOK mixed Try.func5 (by kernel_rfl) (by kernel_rfl) fun vs v h' h=>?_
  unfold lawT at h
  split at h
  · rename_i a u
    obtain ⟨n,f,ha,h1⟩:=apL_some h
    obtain ⟨hf,hq⟩:=sem_br_fail h1
    have:=sem_leaf hq
    simp only [Prod.mk.injEq] at this
    obtain ⟨rfl,rfl⟩:=this
    have hx:=cx_ok tb5_ok [(0,lp5 a n f),(2,lp5_2 a n f),(4,lp5_4 a n f)]
    have hL:=loopsBy_le [(0,lp5 a n f),(2,lp5_2 a n f),(4,lp5_4 a n f)]
    cases hc:ieq (chkE a n f) 0 with
    | false=>exact ⟨_,cxOf Gl tb5 [(0,lp5 a n f),(2,lp5_2 a n f),(4,lp5_4 a n f)],_,argI ha,rfl,hx.1,hx.2,w5e _ a n f hf hc,RowsLE.refl _⟩
    | true =>
      have hy:=isCycle_of hc
      have hhi:=hy.hi
      have hlo:=hy.lo
      have hk:kkN n (shG n f) <= n:=cntB_le _ _
      have hg:=shG_cycle hy
      have hmv:2 <= kkN n (shG n f):=hg.moves
      obtain ⟨cu,cu1,cu2⟩:=cnt_there (p:=mbF (shG n f)) (n:=n) (by show 0 < kkN n (shG n f); omega)
      have hsum:sumN (lnN (mbF (shG n f)) (wrF (shG n f)) n) (kkN n (shG n f)) = cntB (wrF (shG n f)) n:=sum_ln (by show 0 < kkN n (shG n f); omega)
      have hwn:=cntB_le (wrF (shG n f)) n
      have hev:∀ {i},i < n->evF n (shG n f) (fun _=>true) i = ⟨thF n (shG n f) i,ofNat (plF n (shG n f) i),(shG n f i).src,ofNat (loN n (shG n f) i),ofNat (valN (mbF (shG n f)) (wrF (shG n f)) n i)⟩:=fun {i} hi=>by
        rw [evF_in hi,lo_N hi]
        rfl
      have hrun:=fun M hM m2 j=>run5 M hM a n f (ttN n (shG n f)) (kkN n (shG n f)) (shG n f) (evF n (shG n f) (fun _=>true)) (rfF n (shG n f) (fun _=>true)) (lnN (mbF (shG n f)) (wrF (shG n f)) n) (coN (mbF (shG n f)) (wrF (shG n f)) n) m2 (by omega) (by omega) (fun b hb=>⟨two_writes hg hb,fun d hd=>by
        obtain ⟨h1,h2,h3,h4⟩:=co_spec (m:=mbF (shG n f)) (w:=wrF (shG n f)) (n:=n) hb hd
        rw [hev h1]
        exact ⟨h1,ieq_eq h2,by show ofNat (partN _ _ _) = _; rw [h3],by show ofNat (valN _ _ _ _) = _; rw [h4]⟩⟩) (kkN n (shG n f)) 0 j 18 (by omega) (by omega)
      have hrv:=fun L j=>run5v L a n f (ttN n (shG n f)) (kkN n (shG n f)) (shG n f) (evF n (shG n f) (fun _=>true)) (rfF n (shG n f) (fun _=>true)) (lnN (mbF (shG n f)) (wrF (shG n f)) n) (coN (mbF (shG n f)) (wrF (shG n f)) n) (cntB (wrF (shG n f)) n) (wrF (shG n f)) hhi (fun b hb=>by rw [hev hb]; rfl) (fun b hb=>⟨fun h=>rf_w h,fun h=>by
        rcases read_ok (m:=mbF (shG n f)) hb cu1 cu2 h with ⟨h1,h2⟩ | ⟨k,k0,k1,k2,k3,k4⟩
        · exact .inl ⟨h1,by rw [hev hb]; show ofNat (valN _ _ _ _) = _; rw [h2]; rfl⟩
        · refine .inr ⟨k,k0,k1,?_⟩
          rw [hev k0,hev hb]
          exact ⟨ieq_eq k2,by show ofNat (partN _ _ _) = ofNat (partN _ _ _); rw [k3],by show ofNat (valN _ _ _ _) = ofNat (valN _ _ _ _); rw [k4]⟩⟩) n 0 j 18 (by omega) (by omega)
      rw [hsum] at hrun
      refine ⟨_,cxOf Gl tb5 [(0,lp5 a n f),(2,lp5_2 a n f),(4,lp5_4 a n f)],_,argI ha,rfl,hx.1,hx.2,?_,RowsLE.refl _⟩
      have hQ:=isPle2 hL (isPle2 hL hL 4 (en5_4e a n f (ttN n (shG n f)) (kkN n (shG n f)) (shG n f) (evF n (shG n f) (fun _=>true)) (rfF n (shG n f) (fun _=>true)) (lnN (mbF (shG n f)) (wrF (shG n f)) n) (coN (mbF (shG n f)) (wrF (shG n f)) n) (cntB (wrF (shG n f)) n) (cntB (wrF (shG n f)) n) 0)) 0 (en5e a n f (ttN n (shG n f)) (kkN n (shG n f)) (shG n f) (evF n (shG n f) (fun _=>true)) (rfF n (shG n f) (fun _=>true)) (lnN (mbF (shG n f)) (wrF (shG n f)) n) (coN (mbF (shG n f)) (wrF (shG n f)) n) (kkN n (shG n f)) (cntB (wrF (shG n f)) n))
      refine told_le (onP_le (onP_le hL hL) hL) _ (w5o _ _ _ a n f (kkN n (shG n f)) (cntB (wrF (shG n f)) n) (cntB (wrF (shG n f)) n) hf hc (ieq_rfl _) (isP_true ?_) (isP_true ?_))
      · show (iterT _ (lp5 a n f) 18 (ent5 a n f)).sem = _
        rw [ent5_eq]
        exact hrun _ hQ (fun g st=>rfl) _
      · show (iterT _ (lp5_4 a n f) 18 (ent5_4 a n f _ _)).sem = _
        rw [ent5_4_eq]
        exact hrv _ _
  · cases h
end Go.Proofs.Ytjhnfomefcngfaa.Sh
