/-
  The document's Parse. No conditions.
-/
import Derived.Test.YtjhnfomefcngfaaCyYp
namespace Go.Proofs.Ytjhnfomefcngfaa.Ed
open Go.Sy Go
open Int (ofNat)
theorem e84 (Γ:Cx) (vs:List V) (h:List Blk):evalF tab Γ Try.f96 vs h = evalF tab Γ Try.f96 vs h:=by kernel_rfl
theorem p84:PureC Try.prog Gl 96 blankT:=by
  refine pureC_intro tabOK mixed Try.func96 (by kernel_rfl) (by kernel_rfl) fun vs v h' h=>?_
  unfold blankT at h
  split at h
  · rename_i x
    have:=sem_leaf h
    simp only [Prod.mk.injEq] at this
    obtain ⟨rfl,rfl⟩:=this
    have hx:=cx_ok tb0_ok []
    refine ⟨_,cxOf Gl tb0 [],_,ArgLE.refl _,rfl,hx.1,hx.2,?_,RowsLE.refl _⟩
    rw [e84]
    unfold blankB
    cases c1:ieq x 32 with
    | true=>exact wc83a _ x c1
    | false =>
      cases c2:ieq x 9 with
      | true=>exact wc83b _ x c1 c2
      | false =>
        cases c3:ieq x 10 with
        | true=>exact wc83c _ x c1 c2 c3
        | false=>exact wc83d _ x c1 c2 c3
  · cases h
noncomputable def tb41:List (Nat × (List V->T (V × List Blk))):=(96,blankT) :: (97,textT parseP) :: []
theorem tb41_ok:AllPure Try.prog Gl tb41:=.cons p84 <| .cons p22 .nil
def en41f (s:List UInt8) (a k:Nat) (x:Nat->V):Ex × St:=(.rt,⟨(jsV 56 0 (fun _=>.und) [(2,.ref 1),(3,iV 30),(4,nV a),(6,.ref 2)]),[.row 44 6 0 (fun _=>.und),.row 44 6 0 (fun _=>.und),.row 44 6 k x]⟩)
def lp41_2 (s:List UInt8):Lp:=⟨(bmK 56 0 [0,2,3,4,5,6,7,8]),3,(bmK 56 0 [0,2,3,4,5,6,7,8]),3,slen s+1⟩
def st41_2 (s:List UInt8) (a k:Nat) (x:Nat->V) (e:Nat) (j:Nat->V):St:=⟨(jsV 56 0 j [(0,.str s),(2,.ref 0),(3,iV 0),(4,iV 0),(5,.ref 1),(6,.ref 2),(7,nV e),(8,nV a)]),[.row 44 6 0 (fun _=>.und),.row 44 6 0 (fun _=>.und),.row 44 6 k x]⟩
def en41_2e (s:List UInt8) (a k:Nat) (x:Nat->V) (e:Nat):Ex × St:=(.ex 2,⟨(jsV 56 0 (fun _=>.und) [(0,.str s),(2,.ref 0),(3,iV 0),(4,iV 0),(5,.ref 1),(6,.ref 2),(7,nV e),(8,nV a)]),[.row 44 6 0 (fun _=>.und),.row 44 6 0 (fun _=>.und),.row 44 6 k x]⟩)
noncomputable def body41_2 (L:LT):St->T (Ex × St):=fun st=>evalC tab ⟨callT tb41,L,Gl⟩ (loopBody Try.f63 2) 2 st
section
variable (L:LT) (s:List UInt8) (a k:Nat) (x:Nat->V) (e:Nat)  (j:Nat->V)
include L s a k x e j
theorem ri41e (h0:ilt (ofNat e) (ofNat (slen s)) = false):roundT (body41_2 L) (lp41_2 s) (st41_2 s a k x e j) = some ((.ex 2),⟨(jsV 56 0 (fun _=>.und) [(0,(.str s)),(2,(.ref 0)),(3,(iV 0)),(4,(iV 0)),(5,(.ref 1)),(6,(.ref 2)),(7,(nV e)),(8,(nV a))]),[(.row 44 6 0 (fun _=>.und)),(.row 44 6 0 (fun _=>.und)),(.row 44 6 k x)]⟩):=by
  exact sem_of_path (ds:=bbK 7 0) (cs:=((fun c0=>[c0,c0,c0,c0,c0,c0,false]) (ilt (ofNat e) (ofNat (slen s))))) (by kernel_rfl) (by simp only [h0] <;> rfl)
theorem ri41b (h0:ilt (ofNat e) (ofNat (slen s)) = true) (h1:band (ile 0 (ofNat e)) (ilt (ofNat e) (ofNat (slen s))) = true) (h2:blankB (sget s e) = true):roundT (body41_2 L) (lp41_2 s) (st41_2 s a k x e j) = some ((.ex 2),⟨(jsV 56 0 (fun _=>.und) [(0,(.str s)),(2,(.ref 0)),(3,(iV 0)),(4,(iV 0)),(5,(.ref 1)),(6,(.ref 2)),(7,(nV e)),(8,(nV a))]),[(.row 44 6 0 (fun _=>.und)),(.row 44 6 0 (fun _=>.und)),(.row 44 6 k x)]⟩):=by
  exact sem_of_path (ds:=bbK 8 127) (cs:=((fun c0=>[c0,c0,c0,(band (ile 0 (ofNat e)) (ilt (ofNat e) (ofNat (slen s)))),c0,c0,c0,(bnot (blankB (sget s e)))]) (ilt (ofNat e) (ofNat (slen s))))) (by kernel_rfl) (by simp only [h1] <;> simp only [h0,h2] <;> rfl)
theorem ri41n (h0:ilt (ofNat e) (ofNat (slen s)) = true) (h1:band (ile 0 (ofNat e)) (ilt (ofNat e) (ofNat (slen s))) = true) (h2:blankB (sget s e) = false):roundT (body41_2 L) (lp41_2 s) (st41_2 s a k x e j) = some (.nm,⟨(jsV 56 0 (fun _=>.und) [(0,(.str s)),(2,(.ref 0)),(3,(iV 0)),(4,(iV 0)),(5,(.ref 1)),(6,(.ref 2)),(7,(iV (wr .i64 (iadd (ofNat e) 1)))),(8,(nV a))]),[(.row 44 6 0 (fun _=>.und)),(.row 44 6 0 (fun _=>.und)),(.row 44 6 k x)]⟩):=by
  exact sem_of_path (ds:=bbK 8 255) (cs:=((fun c0=>[c0,c0,c0,(band (ile 0 (ofNat e)) (ilt (ofNat e) (ofNat (slen s)))),c0,c0,c0,(bnot (blankB (sget s e)))]) (ilt (ofNat e) (ofNat (slen s))))) (by kernel_rfl) (by simp only [h1] <;> simp only [h0,h2] <;> rfl)
end
def lp41 (s:List UInt8):Lp:=⟨(bmK 56 0 [0,2,3,4,5,6,7]),3,(bmK 56 0 [2,3,4,6]),3,slen s+1⟩
def st41 (s:List UInt8) (a k:Nat) (x:Nat->V) (j:Nat->V):St:=⟨(jsV 56 0 j [(0,.str s),(2,.ref 0),(3,iV 0),(4,iV 0),(5,.ref 1),(6,.ref 2),(7,nV a)]),[.row 44 6 0 (fun _=>.und),.row 44 6 0 (fun _=>.und),.row 44 6 k x]⟩
def en41e (s:List UInt8) (a k:Nat) (x:Nat->V):Ex × St:=(.ex 0,⟨(jsV 56 0 (fun _=>.und) [(2,.ref 0),(3,iV 0),(4,iV 0),(6,.ref 2)]),[.row 44 6 0 (fun _=>.und),.row 44 6 0 (fun _=>.und),.row 44 6 k x]⟩)
noncomputable def body41 (L:LT):St->T (Ex × St):=fun st=>evalC tab ⟨callT tb41,L,Gl⟩ (loopBody Try.f63 0) 0 st
section
variable (L:LT) (s:List UInt8) (a k:Nat) (x:Nat->V)  (j:Nat->V)
include L s a k x j
theorem ro41e (h0:ilt (ofNat a) (ofNat (slen s)) = false):roundT (body41 L) (lp41 s) (st41 s a k x j) = some ((.ex 0),⟨(jsV 56 0 (fun _=>.und) [(2,(.ref 0)),(3,(iV 0)),(4,(iV 0)),(6,(.ref 2))]),[(.row 44 6 0 (fun _=>.und)),(.row 44 6 0 (fun _=>.und)),(.row 44 6 k x)]⟩):=by
  exact sem_of_path (ds:=[false]) (cs:=[(ilt (ofNat a) (ofNat (slen s)))]) (by kernel_rfl) (by simp only [h0] <;> rfl)
theorem ro41b (h0:ilt (ofNat a) (ofNat (slen s)) = true) (h1:band (ile 0 (ofNat a)) (ilt (ofNat a) (ofNat (slen s))) = true) (h2:blankB (sget s a) = true):roundT (body41 L) (lp41 s) (st41 s a k x j) = some (.nm,⟨(jsV 56 0 (fun _=>.und) [(0,(.str s)),(2,(.ref 0)),(3,(iV 0)),(4,(iV 0)),(5,(.ref 1)),(6,(.ref 2)),(7,(iV (wr .i64 (iadd (ofNat a) 1))))]),[(.row 44 6 0 (fun _=>.und)),(.row 44 6 0 (fun _=>.und)),(.row 44 6 k x)]⟩):=by
  exact sem_of_path (ds:=[true,true,true]) (cs:=[(ilt (ofNat a) (ofNat (slen s))),(band (ile 0 (ofNat a)) (ilt (ofNat a) (ofNat (slen s)))),(blankB (sget s a))]) (by kernel_rfl) (by simp only [h1] <;> simp only [h0,h2] <;> rfl)
end
def ent41_2 (s:List UInt8) (a k:Nat) (x:Nat->V) (j:Nat->V):St:=⟨(jsV 56 0 j [(0,(.str s)),(2,(.ref 0)),(3,(iV 0)),(4,(iV 0)),(5,(.ref 1)),(6,(.ref 2)),(7,(nV a)),(8,(nV a)),(15,(nV a)),(16,(.str s)),(17,(iV (ofNat (slen s)))),(18,(bV (ilt (ofNat a) (ofNat (slen s))))),(19,(.str s)),(20,(nV a)),(21,(.val (Value.int IntKind.u8 (sget s a)))),(22,(bV (blankB (sget s a)))),(25,(nV a))]),[(.row 44 6 0 (fun _=>.und)),(.row 44 6 0 (fun _=>.und)),(.row 44 6 k x)]⟩
section
variable (L:LT) (p2:PT) (s:List UInt8) (a k:Nat) (x:Nat->V) (e:Nat) (j:Nat->V)
include L p2 s a k x e j
theorem ro41w (h0:ilt (ofNat a) (ofNat (slen s)) = true) (h1:band (ile 0 (ofNat a)) (ilt (ofNat a) (ofNat (slen s))) = true) (h2:blankB (sget s a) = false) (h3:band (ile 0 (ofNat a)) (band (ile (ofNat a) (ofNat e)) (ile (ofNat e) (ofNat (slen s)))) = true) (h4:ieq (parseF (sdrop a (stake e s))) 0 = true) (h5:apOK k 1 40 = true) (hp2:p2 (body41_2 (onP 2 p2 (en41_2e s a k x e) L)) (ent41_2 s a k x j) = true):roundT (body41 (onP 2 p2 (en41_2e s a k x e) L)) (lp41 s) (st41 s a k x j) = some (.nm,⟨(jsV 56 0 (fun _=>.und) [(0,(.str s)),(2,(.ref 0)),(3,(iV 0)),(4,(iV 0)),(5,(.ref 1)),(6,(.ref 2)),(7,(nV e))]),[(.row 44 6 0 (fun _=>.und)),(.row 44 6 0 (fun _=>.und)),(.row 44 6 (nadd k 1) (pushGet k x (eV (parseE (sdrop a (stake e s))))))]⟩):=by
  exact sem_of_path (ds:=bbK 7 91) (cs:=[(ilt (ofNat a) (ofNat (slen s))),(band (ile 0 (ofNat a)) (ilt (ofNat a) (ofNat (slen s)))),(blankB (sget s a)),(p2 (body41_2 (onP 2 p2 (en41_2e s a k x e) L)) (ent41_2 s a k x j)),(band (ile 0 (ofNat a)) (band (ile (ofNat a) (ofNat e)) (ile (ofNat e) (ofNat (slen s))))),(bnot (ieq (parseF (sdrop a (stake e s))) 0)),(apOK k 1 40)]) (by kernel_rfl) (by simp only [hp2] <;> simp only [h1,h3] <;> simp only [h0,h2,h4,h5] <;> rfl)
theorem ro41f (h0:ilt (ofNat a) (ofNat (slen s)) = true) (h1:band (ile 0 (ofNat a)) (ilt (ofNat a) (ofNat (slen s))) = true) (h2:blankB (sget s a) = false) (h3:band (ile 0 (ofNat a)) (band (ile (ofNat a) (ofNat e)) (ile (ofNat e) (ofNat (slen s)))) = true) (h4:ieq (parseF (sdrop a (stake e s))) 0 = false) (hp2:p2 (body41_2 (onP 2 p2 (en41_2e s a k x e) L)) (ent41_2 s a k x j) = true):roundT (body41 (onP 2 p2 (en41_2e s a k x e) L)) (lp41 s) (st41 s a k x j) = some (.rt,⟨(jsV 56 0 (fun _=>.und) [(2,(.ref 1)),(3,(iV 30)),(4,(nV a)),(6,(.ref 2))]),[(.row 44 6 0 (fun _=>.und)),(.row 44 6 0 (fun _=>.und)),(.row 44 6 k x)]⟩):=by
  exact sem_of_path (ds:=bbK 6 59) (cs:=[(ilt (ofNat a) (ofNat (slen s))),(band (ile 0 (ofNat a)) (ilt (ofNat a) (ofNat (slen s)))),(blankB (sget s a)),(p2 (body41_2 (onP 2 p2 (en41_2e s a k x e) L)) (ent41_2 s a k x j)),(band (ile 0 (ofNat a)) (band (ile (ofNat a) (ofNat e)) (ile (ofNat e) (ofNat (slen s))))),(bnot (ieq (parseF (sdrop a (stake e s))) 0))]) (by kernel_rfl) (by simp only [hp2] <;> simp only [h1,h3] <;> simp only [h0,h2,h4] <;> rfl)
end
def ent41 (s:List UInt8) :St:=⟨(jsV 56 0 (fun _=>undefV) [(0,(.str s)),(2,(.ref 0)),(3,(iV 0)),(4,(iV 0)),(5,(.ref 1)),(6,(.ref 2)),(7,(iV 0)),(11,(.str s)),(12,(iV (ofNat (slen s)))),(13,(bV (ilt 262144 (ofNat (slen s)))))]),[(.row 44 6 0 (fun _=>.und)),(.row 44 6 0 (fun _=>.und)),(.row 44 6 0 (fun _=>.und))]⟩
theorem wc41g (L:LT) (s:List UInt8) (h0:ilt 262144 (ofNat (slen s)) = true):(finF (evalF tab ⟨callT tb41,L,Gl⟩ Try.f63 [.str s] [])).sem = some ((.tup [(.ref 0),(iV 2),(iV 0)]),[(.row 44 6 0 (fun _=>.und))]):=by
  exact sem_of_path (ds:=[true]) (cs:=[(ilt 262144 (ofNat (slen s)))]) (by kernel_rfl) (by simp only [h0] <;> rfl)
section
variable (L:LT) (p0:PT) (s:List UInt8) (a k:Nat) (x:Nat->V)
include L p0 s a k x
theorem wc41z (h0:ilt 262144 (ofNat (slen s)) = false) (hp0:p0 (body41 (onP 0 p0 (en41e s a k x) L)) (ent41 s) = true):(finF (evalF tab ⟨callT tb41,(onP 0 p0 (en41e s a k x) L),Gl⟩ Try.f63 [.str s] [])).sem = some ((.tup [(.ref 0),(iV 0),(iV 0)]),[(.row 44 6 k x)]):=by
  exact sem_of_path (ds:=[false,true]) (cs:=[(ilt 262144 (ofNat (slen s))),(p0 (body41 (onP 0 p0 (en41e s a k x) L)) (ent41 s))]) (by kernel_rfl) (by simp only [hp0] <;> simp only [h0] <;> rfl)
theorem wc41f (h0:ilt 262144 (ofNat (slen s)) = false) (hp0:p0 (body41 (onP 0 p0 (en41f s a k x) L)) (ent41 s) = true):(finF (evalF tab ⟨callT tb41,(onP 0 p0 (en41f s a k x) L),Gl⟩ Try.f63 [.str s] [])).sem = some ((.tup [(.ref 0),(iV 30),(nV a)]),[(.row 44 6 0 (fun _=>.und))]):=by
  exact sem_of_path (ds:=[false,true]) (cs:=[(ilt 262144 (ofNat (slen s))),(p0 (body41 (onP 0 p0 (en41f s a k x) L)) (ent41 s))]) (by kernel_rfl) (by simp only [hp0] <;> simp only [h0] <;> rfl)
end
theorem run41i (L:LT) (s:List UInt8) (hs:s.length <= 262144) (a k:Nat) (x:Nat->V):∀ (q e:Nat) (j:Nat->V),s.length - e < q ->
    (iterT (body41_2 L) (lp41_2 s) q (st41_2 s a k x e j)).sem = some (en41_2e s a k x (e+(wordL (s.drop e)).length))
  | 0,e,j,h=>absurd h (Nat.not_lt_zero _)
  | q+1,e,j,h=>by
    have hsl:slen s = s.length:=rfl
    rcases Nat.lt_or_ge e s.length with he | he
    · have c0:ilt (ofNat e) (ofNat (slen s)) = true:=ofNat_lt he
      have c1:band (ile 0 (ofNat e)) (ilt (ofNat e) (ofNat (slen s))) = true:=ofNat_in he
      rw [drop_cons he]
      cases hb:blankC s[e] with
      | true =>
        rw [show wordL (s[e] :: s.drop (e+1)) = [] by unfold wordL; rw [List.takeWhile_cons_of_neg (by simp [hb])]]
        exact iter_round (ri41b L s a k x e j c0 c1 (by rw [sget_at he]; exact hb))
      | false =>
        rw [iter_round (ri41n L s a k x e j c0 c1 (by rw [sget_at he]; exact hb)),goOn_nm,succ_wr (n:=s.length) he (by omega)]
        have:=run41i L s hs a k x q (e+1) (fun _=>.und) (by omega)
        rw [show wordL (s[e] :: s.drop (e+1)) = s[e] :: wordL (s.drop (e+1)) by unfold wordL; rw [List.takeWhile_cons_of_pos (by simp [hb])],List.length_cons,show e+((wordL (s.drop (e+1))).length+1) = e+1+(wordL (s.drop (e+1))).length by omega]
        exact this
    · rw [List.drop_eq_nil_of_le he]
      exact iter_round (ri41e L s a k x e j (ofNat_ge he))
theorem ent41_2_eq (s:List UInt8) (a k:Nat) (x:Nat->V) (j:Nat->V):ent41_2 s a k x j = st41_2 s a k x a (fun i=>nth (ent41_2 s a k x j).t i):=by kernel_rfl
theorem run41 (M:LT) (hMM:LLe M M) (s:List UInt8) (hs:s.length <= 262144) (m2:∀ f st,M 2 f st = iterT f (lp41_2 s) (slen s+1) st):∀ (q a:Nat) (acc:List E6) (j:Nat->V),s.length - a < q->a <= s.length->acc.length <= a ->
    ((parseL q (s.drop a) a acc).2.1 = 0 ∧ (iterT (body41 M) (lp41 s) q (st41 s a acc.length (rowX acc) j)).sem = some (en41e s 0 (parseL q (s.drop a) a acc).1.length (rowX (parseL q (s.drop a) a acc).1))) ∨
    ((parseL q (s.drop a) a acc).2.1 = 30 ∧ (parseL q (s.drop a) a acc).1 = [] ∧ (iterT (body41 M) (lp41 s) q (st41 s a acc.length (rowX acc) j)).sem = some (en41f s (parseL q (s.drop a) a acc).2.2 (errL q (s.drop a) acc).1.length (rowX (errL q (s.drop a) acc).1)))
  | 0,a,acc,j,h,_,_=>absurd h (Nat.not_lt_zero _)
  | q+1,a,acc,j,h,ha,hk=>by
    have hsl:slen s = s.length:=rfl
    rcases Nat.lt_or_ge a s.length with he | he
    · have c0:ilt (ofNat a) (ofNat (slen s)) = true:=ofNat_lt he
      have c1:band (ile 0 (ofNat a)) (ilt (ofNat a) (ofNat (slen s))) = true:=ofNat_in he
      cases hb:blankC s[a] with
      | true =>
        have e1:parseL (q+1) (s.drop a) a acc = parseL q (s.drop (a+1)) (a+1) acc:=by rw [drop_cons he,parse_blank hb]
        have e2:errL (q+1) (s.drop a) acc = errL q (s.drop (a+1)) acc:=by rw [drop_cons he,errL,if_pos hb]
        rw [e1,e2,iter_round (ro41b M s a acc.length (rowX acc) j c0 c1 (by rw [sget_at he]; exact hb)),goOn_nm,succ_wr (n:=s.length) he (by omega)]
        exact run41 M hMM s hs m2 q (a+1) acc (fun _=>.und) (by omega) (by omega) (by omega)
      | false =>
        have c2:blankB (sget s a) = false:=by rw [sget_at he]; exact hb
        have hw0:0 < (wordL (s.drop a)).length:=by
          rw [drop_cons he]
          unfold wordL
          rw [List.takeWhile_cons_of_pos (by simp [hb])]
          exact Nat.succ_pos _
        have hwl:=word_len (s.drop a)
        rw [List.length_drop] at hwl
        have hi:∀ M',(M 2 (body41_2 M') (ent41_2 s a acc.length (rowX acc) j)).sem = some (en41_2e s a acc.length (rowX acc) (a+(wordL (s.drop a)).length)):=fun M'=>by
          rw [m2,ent41_2_eq]
          exact run41i M' s hs a acc.length (rowX acc) (slen s+1) a _ (by omega)
        have hsub:sdrop a (stake (a+(wordL (s.drop a)).length) s) = wordL (s.drop a):=by
          show (s.take (a+(wordL (s.drop a)).length)).drop a = _
          rw [List.drop_take,show a+(wordL (s.drop a)).length - a = (wordL (s.drop a)).length by omega]
          exact (List.prefix_iff_eq_take.1 (List.takeWhile_prefix _)).symm
        have c3:band (ile 0 (ofNat a)) (band (ile (ofNat a) (ofNat (a+(wordL (s.drop a)).length))) (ile (ofNat (a+(wordL (s.drop a)).length)) (ofNat (slen s)))) = true:=by
          rw [ofNat_0,ile_nat,ile_nat,decide_eq_true (by omega),decide_eq_true (by omega)]
          rfl
        have e0:parseL (q+1) (s.drop a) a acc = if parseF (wordL (s.drop a)) = 0 then parseL q ((s.drop a).drop (wordL (s.drop a)).length) (a+(wordL (s.drop a)).length) (acc ++ [parseE (wordL (s.drop a))]) else ([],30,a):=by
          rw [drop_cons he,parseL,if_neg (by rw [hb]; decide)]
        have e5:errL (q+1) (s.drop a) acc = if parseF (wordL (s.drop a)) = 0 then errL q ((s.drop a).drop (wordL (s.drop a)).length) (acc ++ [parseE (wordL (s.drop a))]) else (acc,parseE (wordL (s.drop a))):=by
          rw [drop_cons he,errL,if_neg (by rw [hb]; decide)]
        by_cases hp:parseF (wordL (s.drop a)) = 0
        · have c4:ieq (parseF (sdrop a (stake (a+(wordL (s.drop a)).length) s))) 0 = true:=by rw [hsub,hp]; rfl
          have h9:(acc.length+1) * 40 <= 140737488355328:=by omega
          have h3:=ro41w M _ s a acc.length (rowX acc) (a+(wordL (s.drop a)).length) j c0 c1 c2 c3 c4 (decide_eq_true h9) (isP_true (hi _))
          have h4:roundT (body41 M) (lp41 s) (st41 s a acc.length (rowX acc) j) = _:=roundT_le (l:=lp41 s) (evalC_le (Γ:=⟨callT tb41,M,Gl⟩) (onP_le hMM hMM) (loopBody Try.f63 0) 0 (st41 s a acc.length (rowX acc) j)) h3
          rw [if_pos hp,List.drop_drop] at e0 e5
          rw [e0,e5,iter_round h4,goOn_nm,hsub,rowX_push]
          have ih:=run41 M hMM s hs m2 q (a+(wordL (s.drop a)).length) (acc ++ [parseE (wordL (s.drop a))]) (fun _=>.und) (by omega) (by omega) (by rw [List.length_append]; simp only [List.length_cons,List.length_nil]; omega)
          rw [show (acc ++ [parseE (wordL (s.drop a))]).length = acc.length+1 from List.length_append] at ih
          exact ih
        · have c4:ieq (parseF (sdrop a (stake (a+(wordL (s.drop a)).length) s))) 0 = false:=by rw [hsub]; simp [ieq,hp]
          have h3:=ro41f M _ s a acc.length (rowX acc) (a+(wordL (s.drop a)).length) j c0 c1 c2 c3 c4 (isP_true (hi _))
          have h4:roundT (body41 M) (lp41 s) (st41 s a acc.length (rowX acc) j) = _:=roundT_le (l:=lp41 s) (evalC_le (Γ:=⟨callT tb41,M,Gl⟩) (onP_le hMM hMM) (loopBody Try.f63 0) 0 (st41 s a acc.length (rowX acc) j)) h3
          rw [if_neg hp] at e0 e5
          rw [e0,e5]
          refine .inr ⟨rfl,rfl,?_⟩
          rw [iter_round h4]
          rfl
    · rw [List.drop_eq_nil_of_le he]
      exact .inl ⟨rfl,iter_round (ro41e M s a acc.length (rowX acc) j (ofNat_ge he))⟩
theorem ent41_eq (s:List UInt8):ent41 s = st41 s 0 0 (fun _=>.und) (fun i=>nth (ent41 s).t i):=by kernel_rfl
theorem p41:PureC Try.prog Gl 63 psT:=by
  refine pureC_intro tabOK mixed Try.func63 (by kernel_rfl) (by kernel_rfl) fun vs v h' h=>?_
  unfold psT at h
  split at h
  · rename_i s
    have:=sem_leaf h
    simp only [Prod.mk.injEq] at this
    obtain ⟨rfl,rfl⟩:=this
    have hx:=cx_ok tb41_ok [(0,lp41 s),(2,lp41_2 s)]
    have hL:=loopsBy_le [(0,lp41 s),(2,lp41_2 s)]
    cases hb:bigS s with
    | true =>
      have e1:psN s = 0:=by unfold psN psL; rw [hb]; rfl
      have e2:psE s = 2:=by unfold psE; rw [hb]; rfl
      have e3:psI s = 0:=by unfold psI; rw [hb]; rfl
      rw [e1,e2,e3]
      exact ⟨_,cxOf Gl tb41 [(0,lp41 s),(2,lp41_2 s)],_,ArgLE.refl _,rfl,hx.1,hx.2,wc41g _ s hb,RowsLE.one fun j hj=>absurd hj (Nat.not_lt_zero _)⟩
    | false =>
      have hs:s.length <= 262144:=by
        unfold bigS at hb
        rw [show (262144:Int) = ofNat 262144 from rfl,ilt_nat] at hb
        have:=of_decide_eq_false hb
        have hsl:slen s = s.length:=rfl
        omega
      have e0:psL s = (psR s).1:=by unfold psL; rw [hb]; rfl
      have e2:psE s = (psR s).2.1:=by unfold psE; rw [hb]; rfl
      have e3:psI s = ofNat (psR s).2.2:=by unfold psI; rw [hb]; rfl
      have hg:ilt 262144 (ofNat (slen s)) = false:=hb
      have key:∀ M,LLe M M->(∀ f st,M 2 f st = iterT f (lp41_2 s) (slen s+1) st)->((psR s).2.1 = 0 ∧ (iterT (body41 M) (lp41 s) (slen s+1) (ent41 s)).sem = some (en41e s 0 (psR s).1.length (rowX (psR s).1))) ∨
          ((psR s).2.1 = 30 ∧ (psR s).1 = [] ∧ (iterT (body41 M) (lp41 s) (slen s+1) (ent41 s)).sem = some (en41f s (psR s).2.2 (errL (s.length+1) s []).1.length (rowX (errL (s.length+1) s []).1))):=fun M h1 h2=>by
        rw [ent41_eq]
        exact run41 M h1 s hs h2 (s.length+1) 0 [] (fun i=>nth (ent41 s).t i) (by omega) (by omega) (Nat.le_refl _)
      have mm:∀ r,LLe (onP 0 (isP (loopsBy [(0,lp41 s),(2,lp41_2 s)]) 0 r) r (loopsBy [(0,lp41 s),(2,lp41_2 s)])) (onP 0 (isP (loopsBy [(0,lp41 s),(2,lp41_2 s)]) 0 r) r (loopsBy [(0,lp41 s),(2,lp41_2 s)])):=fun r=>isPleY hL 0 r
      rw [e2,e3]
      unfold psN psG
      rw [e0]
      by_cases hok:(psR s).2.1 = 0
      · have hat:(psR s).2.2 = 0:=parse_at _ _ _ _ hok
        have hw:=told_le (onP_le hL hL) _ (wc41z (loopsBy [(0,lp41 s),(2,lp41_2 s)]) _ s 0 (psR s).1.length (rowX (psR s).1) hg (isP_true (by
          rcases key _ (mm (en41e s 0 (psR s).1.length (rowX (psR s).1))) (fun _ _=>rfl) with ⟨_,h2⟩ | ⟨h1,_⟩
          · exact h2
          · rw [hok] at h1; cases h1)))
        rw [hok,hat]
        exact ⟨_,cxOf Gl tb41 [(0,lp41 s),(2,lp41_2 s)],_,ArgLE.refl _,rfl,hx.1,hx.2,hw,RowsLE.one fun j hj=>(pushN_eq (fun i=>eV (getE (psR s).1 i)) (psR s).1.length j hj).symm⟩
      · have hno:(psR s).2.1 = 30 ∧ (psR s).1 = []:=by
          rcases key _ (mm (en41e s 0 0 (rowX []))) (fun _ _=>rfl) with ⟨h1,_⟩ | ⟨h1,h2,_⟩
          · exact absurd h1 hok
          · exact ⟨h1,h2⟩
        have hw:=told_le (onP_le hL hL) _ (wc41f (loopsBy [(0,lp41 s),(2,lp41_2 s)]) _ s (psR s).2.2 (errL (s.length+1) s []).1.length (rowX (errL (s.length+1) s []).1) hg (isP_true (by
          rcases key _ (mm (en41f s (psR s).2.2 (errL (s.length+1) s []).1.length (rowX (errL (s.length+1) s []).1))) (fun _ _=>rfl) with ⟨h1,_⟩ | ⟨_,_,h3⟩
          · exact absurd h1 hok
          · exact h3)))
        rw [hno.1,hno.2]
        exact ⟨_,cxOf Gl tb41 [(0,lp41 s),(2,lp41_2 s)],_,ArgLE.refl _,rfl,hx.1,hx.2,hw,RowsLE.one fun j hj=>absurd hj (Nat.not_lt_zero _)⟩
  · cases h
end Go.Proofs.Ytjhnfomefcngfaa.Ed
namespace Go.Proofs.Ytjhnfomefcngfaa.Sh
open Go.Sy Ed
open Int (ofNat)
set_option maxRecDepth 4000
def locL:List UInt8:=[120,121,122,97,98,99,100,101,102,103,104,105,106,107,108,109]
def locE (x:Int):Int:=bif bor (ilt x 0) (ile 16 x) then 4 else 0
def locS (x:Int):List UInt8:=bif bor (ilt x 0) (ile 16 x) then [] else [locL.getD x.toNat 0]
def locT:List V->T (V × List Blk)
  | [.val (.int .i64 x)]=>.leaf (.tup [.str (locS x),iV (locE x)],[])
  | _=>.fail
section
variable (L:LT) (x:Int)
include L x
theorem w37n (h0:ilt x 0 = true):(finF (evalF tab ⟨callT tb0,L,Gl⟩ Try.f37 [iV x] [])).sem = some ((.tup [(.str []),(iV 4)]),[]):=by
  exact sem_of_path (ds:=[true,true,true,true]) (cs:=[(ilt x 0),(ilt x 0),(ilt x 0),true]) (by kernel_rfl) (by simp only [h0] <;> rfl)
theorem w37g (h0:ilt x 0 = false) (h1:ile 16 x = true):(finF (evalF tab ⟨callT tb0,L,Gl⟩ Try.f37 [iV x] [])).sem = some ((.tup [(.str []),(iV 4)]),[]):=by
  exact sem_of_path (ds:=[false,false,false,true]) (cs:=[(ilt x 0),(ilt x 0),(ilt x 0),(ile 16 x)]) (by kernel_rfl) (by simp only [h0,h1] <;> rfl)
end
theorem loc37_0:(finF (evalF tab (cxOf Gl tb0 []) Try.f37 [nV 0] [])).sem = some (.tup [.str (locS (ofNat 0)),iV (locE (ofNat 0))],[]):=by kernel_rfl
theorem loc37_1:(finF (evalF tab (cxOf Gl tb0 []) Try.f37 [nV 1] [])).sem = some (.tup [.str (locS (ofNat 1)),iV (locE (ofNat 1))],[]):=by kernel_rfl
theorem loc37_2:(finF (evalF tab (cxOf Gl tb0 []) Try.f37 [nV 2] [])).sem = some (.tup [.str (locS (ofNat 2)),iV (locE (ofNat 2))],[]):=by kernel_rfl
theorem loc37_3:(finF (evalF tab (cxOf Gl tb0 []) Try.f37 [nV 3] [])).sem = some (.tup [.str (locS (ofNat 3)),iV (locE (ofNat 3))],[]):=by kernel_rfl
theorem loc37_4:(finF (evalF tab (cxOf Gl tb0 []) Try.f37 [nV 4] [])).sem = some (.tup [.str (locS (ofNat 4)),iV (locE (ofNat 4))],[]):=by kernel_rfl
theorem loc37_5:(finF (evalF tab (cxOf Gl tb0 []) Try.f37 [nV 5] [])).sem = some (.tup [.str (locS (ofNat 5)),iV (locE (ofNat 5))],[]):=by kernel_rfl
theorem loc37_6:(finF (evalF tab (cxOf Gl tb0 []) Try.f37 [nV 6] [])).sem = some (.tup [.str (locS (ofNat 6)),iV (locE (ofNat 6))],[]):=by kernel_rfl
theorem loc37_7:(finF (evalF tab (cxOf Gl tb0 []) Try.f37 [nV 7] [])).sem = some (.tup [.str (locS (ofNat 7)),iV (locE (ofNat 7))],[]):=by kernel_rfl
theorem loc37_8:(finF (evalF tab (cxOf Gl tb0 []) Try.f37 [nV 8] [])).sem = some (.tup [.str (locS (ofNat 8)),iV (locE (ofNat 8))],[]):=by kernel_rfl
theorem loc37_9:(finF (evalF tab (cxOf Gl tb0 []) Try.f37 [nV 9] [])).sem = some (.tup [.str (locS (ofNat 9)),iV (locE (ofNat 9))],[]):=by kernel_rfl
theorem loc37_10:(finF (evalF tab (cxOf Gl tb0 []) Try.f37 [nV 10] [])).sem = some (.tup [.str (locS (ofNat 10)),iV (locE (ofNat 10))],[]):=by kernel_rfl
theorem loc37_11:(finF (evalF tab (cxOf Gl tb0 []) Try.f37 [nV 11] [])).sem = some (.tup [.str (locS (ofNat 11)),iV (locE (ofNat 11))],[]):=by kernel_rfl
theorem loc37_12:(finF (evalF tab (cxOf Gl tb0 []) Try.f37 [nV 12] [])).sem = some (.tup [.str (locS (ofNat 12)),iV (locE (ofNat 12))],[]):=by kernel_rfl
theorem loc37_13:(finF (evalF tab (cxOf Gl tb0 []) Try.f37 [nV 13] [])).sem = some (.tup [.str (locS (ofNat 13)),iV (locE (ofNat 13))],[]):=by kernel_rfl
theorem loc37_14:(finF (evalF tab (cxOf Gl tb0 []) Try.f37 [nV 14] [])).sem = some (.tup [.str (locS (ofNat 14)),iV (locE (ofNat 14))],[]):=by kernel_rfl
theorem loc37_15:(finF (evalF tab (cxOf Gl tb0 []) Try.f37 [nV 15] [])).sem = some (.tup [.str (locS (ofNat 15)),iV (locE (ofNat 15))],[]):=by kernel_rfl
theorem loc37 (k:Nat) (hk:k < 16):(finF (evalF tab (cxOf Gl tb0 []) Try.f37 [nV k] [])).sem = some (.tup [.str (locS (ofNat k)),iV (locE (ofNat k))],[]):=by
  have:k = 0 ∨ k = 1 ∨ k = 2 ∨ k = 3 ∨ k = 4 ∨ k = 5 ∨ k = 6 ∨ k = 7 ∨ k = 8 ∨ k = 9 ∨ k = 10 ∨ k = 11 ∨ k = 12 ∨ k = 13 ∨ k = 14 ∨ k = 15:=by omega
  rcases this with rfl | rfl | rfl | rfl | rfl | rfl | rfl | rfl | rfl | rfl | rfl | rfl | rfl | rfl | rfl | rfl
  · exact loc37_0
  · exact loc37_1
  · exact loc37_2
  · exact loc37_3
  · exact loc37_4
  · exact loc37_5
  · exact loc37_6
  · exact loc37_7
  · exact loc37_8
  · exact loc37_9
  · exact loc37_10
  · exact loc37_11
  · exact loc37_12
  · exact loc37_13
  · exact loc37_14
  · exact loc37_15
theorem p37:PureC Try.prog Gl 37 locT:=by
  refine PureC.congr (pureC_body tabOK mixed Try.func37 (by kernel_rfl) (by kernel_rfl) (Γ:=cxOf Gl tb0 []) (cx_ok tb0_ok [])) fun vs r h=>?_
  unfold locT at h
  split at h
  · rename_i x
    rw [sem_leaf h]
    show (finF (evalF tab (cxOf Gl tb0 []) Try.f37 [iV x] [])).sem = _
    cases c0:ilt x 0 with
    | true =>
      rw [show locS x = [] by unfold locS bor; rw [c0]; rfl,show locE x = 4 by unfold locE bor; rw [c0]; rfl]
      exact w37n _ x c0
    | false =>
      cases c1:ile 16 x with
      | true =>
        rw [show locS x = [] by unfold locS bor; rw [c0,c1]; rfl,show locE x = 4 by unfold locE bor; rw [c0,c1]; rfl]
        exact w37g _ x c0 c1
      | false =>
        have h1:¬ x < 0:=of_decide_eq_false c0
        have h2:¬ (16:Int) <= x:=of_decide_eq_false c1
        obtain ⟨k,rfl⟩:∃ k:Nat,x = ofNat k:=⟨x.toNat,by simp only [Int.ofNat_eq_natCast]; omega⟩
        exact loc37 k (by simp only [Int.ofNat_eq_natCast] at h2; omega)
  · cases h
noncomputable def tb18:List (Nat × (List V->T (V × List Blk))):=[(63,psT),(14,ofT),(37,locT)]
theorem tb18_ok:AllPure Try.prog Gl tb18:=.cons p41 <| .cons p14 <| .cons p37 .nil
theorem awk18:(finF (evalF tab (cxOf Gl tb18 []) Try.f18 [] [])).sem = some (bV true,[]):=by kernel_rfl
theorem p18:PureC Try.prog Gl 18 (unitT (bV true)):=by
  refine PureC.congr (pureC_body tabOK mixed Try.func18 (by kernel_rfl) (by kernel_rfl) (Γ:=cxOf Gl tb18 []) (cx_ok tb18_ok [])) fun vs r h=>?_
  unfold unitT at h
  split at h
  · rw [sem_leaf h]
    exact awk18
  · cases h
end Go.Proofs.Ytjhnfomefcngfaa.Sh
namespace Go.Proofs.Ytjhnfomefcngfaa.Sh
open Go.Sy Ed
set_option maxHeartbeats 1000000
set_option maxRecDepth 4000
theorem small_16 {k:Nat} (h:k <= 16):smallN k = true:=decide_eq_true (by omega)
theorem ln_le (m w:Nat->Bool) (n k:Nat) (h:lenN m n (stN m n k) <= n+1):lnN m w n k <= n+1:=Nat.le_trans (cntB_le _ _) h
theorem len_le (m:Nat->Bool) (n b:Nat):lenN m n b <= n+1:=by
  unfold lenN
  have:=lstN_le (fun t=>m (rnd n b t)) n
  omega
theorem small_ln {m w:Nat->Bool} {n k:Nat} (h:n <= 16):smallN (lnN m w n k) = true:=decide_eq_true (by
  have:=ln_le m w n k (len_le m n _)
  omega)
end Go.Proofs.Ytjhnfomefcngfaa.Sh
