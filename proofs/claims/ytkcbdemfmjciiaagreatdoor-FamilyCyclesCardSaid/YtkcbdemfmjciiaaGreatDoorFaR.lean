/-
  FamilyCycles: the edges at a name's end, plain; the document's Cycle; the law as a function; its listed variables. Conditions: the listed variables read as listed; MaxLen holds some number (Gm).
-/
import Derived.Test.YtkcbdemfmjciiaaGreatDoorFaN
import Derived.Test.YtkcbdemfmjciiaaGreatDoorFaK
import Derived.Test.YtkcbdemfmjciiaaGreatDoorSyW
import Derived.Test.YtkcbdemfmjciiaaGreatDoorEdF
namespace Go.Proofs.YtkcbdemfmjciiaaGreatDoor.Fa
open Go.Sy Go Go.Proofs.YtkcbdemfmjciiaaGreatDoor.Ed
set_option maxRecDepth 100000

/-- A text's part. -/
def prt (s : List UInt8) (i e : Nat) : List UInt8 := sdrop i (stake e s)
/-- The edges that stand at a text's end, a '+' ahead of each: i signs are left, a part ends at e. -/
def tlR (s : List UInt8) : Nat → Nat → List E6 → List E6
  | 0, _, out => out
  | i + 1, e, out => bif s.getD i 0 == 43 then (bif ieq (parseF (prt s (i + 1) e)) 0 then tlR s i i (parseE (prt s (i + 1) e) :: out) else out) else tlR s i e out
theorem tlR_no {s : List UInt8} {i e : Nat} {out : List E6} (h : (s.getD i 0 == 43) = false) : tlR s (i + 1) e out = tlR s i e out := by rw [tlR, h]; rfl
theorem tlR_ok {s : List UInt8} {i e : Nat} {out : List E6} (h : (s.getD i 0 == 43) = true) (hp : ieq (parseF (prt s (i + 1) e)) 0 = true) : tlR s (i + 1) e out = tlR s i i (parseE (prt s (i + 1) e) :: out) := by rw [tlR, h, hp]; rfl
theorem tlR_bad {s : List UInt8} {i e : Nat} {out : List E6} (h : (s.getD i 0 == 43) = true) (hp : ieq (parseF (prt s (i + 1) e)) 0 = false) : tlR s (i + 1) e out = out := by rw [tlR, h, hp]; rfl

theorem tlR_run {s p w r : List UInt8} (hs : s = p ++ 43 :: (w ++ r)) (hw : ∀ c ∈ w, (c == 43) = false) (e : Nat) (out : List E6) : ∀ k, k ≤ w.length → tlR s (p.length + 1 + k) e out = tlR s (p.length + 1) e out
  | 0, _ => rfl
  | k + 1, hk => by
    have h1 : s[p.length + 1 + k]? = some w[k] := by
      rw [hs, List.getElem?_append_right (by omega), show p.length + 1 + k - p.length = k + 1 by omega, List.getElem?_cons_succ, List.getElem?_append_left (by omega), List.getElem?_eq_getElem (by omega)]
    have h2 : (s.getD (p.length + 1 + k) 0 == 43) = false := by
      rw [List.getD, h1]
      exact hw _ (List.getElem_mem _)
    rw [show p.length + 1 + (k + 1) = p.length + 1 + k + 1 by omega, tlR_no h2]
    exact tlR_run hs hw e out k (by omega)

theorem at_plus {s p r : List UInt8} (hs : s = p ++ 43 :: r) : (s.getD p.length 0 == 43) = true := by
  rw [List.getD, hs, List.getElem?_append_right (Nat.le_refl _), Nat.sub_self]
  rfl
theorem prt_word {s p w r : List UInt8} (hs : s = p ++ 43 :: (w ++ r)) : prt s (p.length + 1) (p.length + 1 + w.length) = w := by
  have h1 : s = (p ++ [43] ++ w) ++ r := by rw [hs]; simp
  have h2 : s.take (p.length + 1 + w.length) = p ++ [43] ++ w := by
    rw [h1]
    exact List.take_left' (by simp only [List.length_append, List.length_cons, List.length_nil])
  show (s.take _).drop _ = w
  rw [h2]
  exact List.drop_left' (by simp only [List.length_append, List.length_cons, List.length_nil])

/-- A part that is an edge's name. -/
theorem tlR_word {s p w r : List UInt8} (hs : s = p ++ 43 :: (w ++ r)) (hw : ∀ c ∈ w, (c == 43) = false) (hp : parseF w = 0) (out : List E6) : tlR s (p.length + 1 + w.length) (p.length + 1 + w.length) out = tlR s p.length p.length (parseE w :: out) := by
  have h0 := prt_word hs
  rw [tlR_run hs hw _ _ w.length (Nat.le_refl _), tlR_ok (at_plus hs) (by rw [h0, hp]; rfl), h0]
/-- A part that is none. -/
theorem tlR_end {s p w r : List UInt8} (hs : s = p ++ 43 :: (w ++ r)) (hw : ∀ c ∈ w, (c == 43) = false) (hp : ieq (parseF w) 0 = false) (out : List E6) : tlR s (p.length + 1 + w.length) (p.length + 1 + w.length) out = out := by
  have h0 := prt_word hs
  rw [tlR_run hs hw _ _ w.length (Nat.le_refl _), tlR_bad (at_plus hs) (by rw [h0]; exact hp)]
/-- No '+' any more. -/
theorem tlR_none {s h r : List UInt8} (hs : s = h ++ r) (hh : ∀ c ∈ h, (c == 43) = false) (e : Nat) (out : List E6) : ∀ i, i ≤ h.length → tlR s i e out = out
  | 0, _ => rfl
  | i + 1, hi => by
    have h1 : s[i]? = some h[i] := by rw [hs, List.getElem?_append_left (by omega), List.getElem?_eq_getElem (by omega)]
    rw [tlR_no (by rw [List.getD, h1]; exact hh _ (List.getElem_mem _))]
    exact tlR_none hs hh e out i (by omega)

theorem nameC_no {c : UInt8} (h : nameC c = true) : (c == 43) = false := by
  cases hc : c == 43 with
  | false => rfl
  | true =>
    have : c = 43 := eq_of_beq hc
    subst this
    exact h.symm.trans (show nameC 43 = false from rfl) |>.symm ▸ rfl

theorem tlR_plus {s r : List UInt8} : ∀ (l : List E6) (hd : List UInt8) (out : List E6), (∀ e ∈ l, codeF e = 0) → s = hd ++ (plusT l ++ r) → tlR s (hd.length + (plusT l).length) (hd.length + (plusT l).length) out = tlR s hd.length hd.length (l ++ out)
  | [], _, _, _, _ => rfl
  | e :: es, hd, out, h, hs => by
    have he := h e (List.mem_cons_self ..)
    have hw : ∀ c ∈ nameF e, (c == 43) = false := fun c hc => nameC_no (name_chars he c hc)
    obtain ⟨_, _, hp, hq⟩ := name_facts he
    have h1 : s = (hd ++ 43 :: nameF e) ++ (plusT es ++ r) := by rw [hs, plusT]; simp
    have h2 : s = hd ++ 43 :: (nameF e ++ (plusT es ++ r)) := by rw [h1]; simp
    have hl : (hd ++ 43 :: nameF e).length = hd.length + 1 + (nameF e).length := by simp only [List.length_append, List.length_cons]; omega
    have ih := tlR_plus es (hd ++ 43 :: nameF e) out (fun d hd => h d (List.mem_cons_of_mem _ hd)) h1
    have hn : hd.length + (plusT (e :: es)).length = (hd ++ 43 :: nameF e).length + (plusT es).length := by
      rw [hl, plusT]; simp only [List.length_append, List.length_cons]; omega
    rw [hn, ih, hl, tlR_word h2 hw hp, hq]
    rfl

/-- A beginning's last part: none is an edge's name. -/
def prS (k : Nat) : List UInt8 := (hdS k).takeWhile fun c => !(c == 43)
def wrS (k : Nat) : List UInt8 := (hdS k).drop ((prS k).length + 1)
theorem heads_tail : (List.range 26).all (fun k => (hdS k).all (fun c => !(c == 43)) || (seq (hdS k) (prS k ++ 43 :: wrS k) && ((wrS k).all (fun c => !(c == 43)) && !(ieq (parseF (wrS k)) 0)))) = true := by kernel_rfl
theorem tlR_head {k : Nat} (hk : k < 26) {s r : List UInt8} (hs : s = hdS k ++ r) (out : List E6) : tlR s (hdS k).length (hdS k).length out = out := by
  have h := List.all_eq_true.1 heads_tail k (List.mem_range.2 hk)
  rw [Bool.or_eq_true] at h
  rcases h with h | h
  · exact tlR_none hs (fun c hc => by simpa using List.all_eq_true.1 h c hc) _ out _ (Nat.le_refl _)
  · simp only [Bool.and_eq_true] at h
    obtain ⟨h1, h2, h3⟩ := h
    have e1 : hdS k = prS k ++ 43 :: wrS k := by simpa [seq] using h1
    have hl : (hdS k).length = (prS k).length + 1 + (wrS k).length := by rw [e1]; simp only [List.length_append, List.length_cons]; omega
    have hs' : s = prS k ++ 43 :: (wrS k ++ r) := by rw [hs]; conv => { lhs; rw [e1] }; simp
    rw [hl]
    exact tlR_end hs' (fun c hc => by simpa using List.all_eq_true.1 h2 c hc) (by simpa using h3) out

def rtL (s : List UInt8) : List E6 := tlR s s.length s.length []
def rtN (s : List UInt8) : Nat := (rtL s).length
def rtG (s : List UInt8) (i : Nat) : E6 := getE (rtL s) i

/-- At a name's end stand its canonical edges. -/
theorem tail_name {a : Int} {n : Nat} {f : Nat → E6} (h : ieq (chkE a n f) 0 = true) : rtL (nameT a n f) = lsE n (canF n f) := by
  obtain ⟨k, r, hk, _, hT, hr, _⟩ := name_form h
  have hc := isCycle_of h
  have hs : nameT a n f = hdS k ++ (plusT (lsE n (canF n f)) ++ []) := by rw [hT, hr]; simp
  have hl : (nameT a n f).length = (hdS k).length + (plusT (lsE n (canF n f))).length := by rw [hs, List.append_nil, List.length_append]
  have h1 := tlR_plus (lsE n (canF n f)) (hdS k) [] (lsE_may (mayN_iff.2 fun i hi => canF_may hc.may hi)) hs
  unfold rtL
  rw [hl, h1, tlR_head hk hs]
  simp

/-- What the document's way reads. -/
def rtO (a : Int) (s : List UInt8) : Bool := ieq (chkE a (rtN s) fun i => rtG s i) 0 && seq (nameT a (rtN s) fun i => rtG s i) s
theorem rt_of {a : Int} {n : Nat} {f : Nat → E6} (h : ieq (chkE a n f) 0 = true) : rtO a (nameT a n f) = true ∧ rtN (nameT a n f) = n ∧ ∀ i, i < n → rtG (nameT a n f) i = canF n f i := by
  have ht := tail_name h
  have hn : rtN (nameT a n f) = n := by unfold rtN; rw [ht, lsE_len]
  have hg : ∀ i, i < n → rtG (nameT a n f) i = canF n f i := fun i hi => by unfold rtG; rw [ht, lsE_get hi]
  refine ⟨?_, hn, hg⟩
  have hlo := (isCycle_of h).lo
  have hlt : leastN n (fun i => codeN (f i)) < n := by
    have := leastN_ok n (fun i => codeN (f i))
    omega
  have hg' : ∀ i, i < n → rtG (nameT a n f) i = f ((leastN n (fun i => codeN (f i)) + i) % n) := hg
  unfold rtO
  rw [hn, chkE_congr hg', nameT_congr hg', nameE_turned hlt h, nameT_turned hlt h, seq_rfl]
  rfl

theorem cy_name {a : Int} {n : Nat} {f : Nat → E6} (h : ieq (chkE a n f) 0 = true) : cyE a (nameT a n f) = 0 ∧ cyN a (nameT a n f) = n ∧ ∀ i, i < n → cyG a (nameT a n f) i = canF n f i := by
  obtain ⟨k, hk, hK, h1, h2⟩ := cyK_name h
  obtain ⟨_, _, _, _, _, _, hl⟩ := name_form h
  have hp : rdP a (nameT a n f) (hdS k) = true := (firstQ_some hK).2.2
  obtain ⟨e1, e2⟩ := rdR_eq hp
  have ha : (ieq a 1 || ieq a 2) = true := by
    rcases (isCycle_of h).arch with e | e
    · rw [e]; rfl
    · rw [e]; cases ieq a 1 <;> rfl
  have hb : ilt 1024 (Int.ofNat (slen (nameT a n f))) = false := by
    rw [show (1024 : Int) = Int.ofNat 1024 from rfl, ilt_nat]
    exact decide_eq_false (by unfold slen; omega)
  have e0 : cyE a (nameT a n f) = 0 := by unfold cyE; rw [ha, hb, hK]
  have eH : cyH a (nameT a n f) = hdS k := by unfold cyH; rw [hK]
  refine ⟨e0, ?_, fun i hi => ?_⟩
  · unfold cyN
    rw [e0, eH]
    show rdN (nameT a n f) (hdS k) = n
    rw [e2, h1]
  · unfold cyG rdG
    rw [eH, ← e1]
    exact h2 i hi

/-- Both ways answer alike. -/
theorem cyc_same {a : Int} {s : List UInt8} (ha : (ieq a 1 || ieq a 2) = true) (hb : ilt 1024 (Int.ofNat (slen s)) = false) :
    (rtO a s = true ∧ cyE a s = 0 ∧ cyN a s = rtN s ∧ ∀ i, i < rtN s → cyG a s i = rtG s i) ∨ (rtO a s = false ∧ cyE a s = 4 ∧ cyN a s = 0) := by
  cases hr : rtO a s with
  | true =>
    left
    have h0 := hr
    unfold rtO at h0
    rw [Bool.and_eq_true] at h0
    obtain ⟨h1, h2⟩ := h0
    have h2 : nameT a (rtN s) (fun i => rtG s i) = s := by simpa [seq] using h2
    have c := cy_name h1
    have d := rt_of h1
    rw [h2] at c d
    refine ⟨rfl, c.1, c.2.1, fun i hi => ?_⟩
    rw [c.2.2 i hi, d.2.2 i hi]
  | false =>
    right
    have hk : cyK a s = none := by
      cases hK : cyK a s with
      | none => rfl
      | some k =>
        have hp : rdP a s (hdS k) = true := (firstQ_some hK).2.2
        unfold rdP at hp
        cases hc : cutP (hdS k ++ [43]) s with
        | none => rw [hc] at hp; cases hp
        | some r =>
          rw [hc] at hp
          simp only [Bool.and_eq_true] at hp
          obtain ⟨_, h1, h2⟩ := hp
          have h2 : nameT a (psN (unp r)) (fun i => psG (unp r) i) = s := by simpa [seq] using h2
          have d := rt_of h1
          rw [h2, hr] at d
          cases d.1
    have e : cyE a s = 4 := by unfold cyE; rw [ha, hb, hk]
    refine ⟨rfl, e, ?_⟩
    unfold cyN
    rw [e]
    rfl
end Go.Proofs.YtkcbdemfmjciiaaGreatDoor.Fa

namespace Go.Proofs.YtkcbdemfmjciiaaGreatDoor.Fb
open Go.Sy Go Go.Proofs.YtkcbdemfmjciiaaGreatDoor.Ed Go.Proofs.YtkcbdemfmjciiaaGreatDoor.Fa
set_option maxRecDepth 100000

noncomputable def tb9 : List (Nat × (List V → T (V × List Blk))) := [(16, textT parseP)]
theorem tb9_ok : AllPure Tryz.prog Gl tb9 := .cons p22 .nil

def lp9 (s : List UInt8) : Lp := ⟨[true, false, true, true, true, true, false, false, false, false, false, false, false, false, false, false, false, false, false, false, false, false, false, false, false, false, false, false, false, false, false, false, false, false, false, false, false, false, false], 4, [true, false, true, true, false, false, false, false, false, false, false, false, false, false, false, false, false, false, false, false, false, false, false, false, false, false, false, false, false, false, false, false, false, false, false, false, false, false, false], 4, (slen s + 1)⟩
def st9 (s : List UInt8) (x e : Int) (k : Nat) (g : Nat → V) (j : Nat → V) : St := ⟨[.str s, j 1, .ref 0, .ref 1, iV e, iV x, j 6, j 7, j 8, j 9, j 10, j 11, j 12, j 13, j 14, j 15, j 16, j 17, j 18, j 19, j 20, j 21, j 22, j 23, j 24, j 25, j 26, j 27, j 28, j 29, j 30, j 31, j 32, j 33, j 34, j 35, j 36, j 37, j 38], [.row 38 6 0 (fun _ => .und), .row 38 6 k g]⟩
def en9e (s : List UInt8) (x e : Int) (k : Nat) (g : Nat → V) : Ex × St := (.ex 0, ⟨[.str s, .und, .ref 0, .ref 1, .und, .und, .und, .und, .und, .und, .und, .und, .und, .und, .und, .und, .und, .und, .und, .und, .und, .und, .und, .und, .und, .und, .und, .und, .und, .und, .und, .und, .und, .und, .und, .und, .und, .und, .und], [.row 38 6 0 (fun _ => .und), .row 38 6 k g]⟩)
def en9r (s : List UInt8) (x e : Int) (k : Nat) (g : Nat → V) : Ex × St := (.rt, ⟨[.str s, .und, .ref 1, .ref 1, .und, .und, .und, .und, .und, .und, .und, .und, .und, .und, .und, .und, .und, .und, .und, .und, .und, .und, .und, .und, .und, .und, .und, .und, .und, .und, .und, .und, .und, .und, .und, .und, .und, .und, .und], [.row 38 6 0 (fun _ => .und), .row 38 6 k g]⟩)
noncomputable def body9 (L : Nat → (St → T (Ex × St)) → St → T (Ex × St)) : St → T (Ex × St) := fun st => evalC tab ⟨callT tb9, L, Gl⟩ (loopBody Tryz.f9 0) 0 st
theorem r9e_p (L : Nat → (St → T (Ex × St)) → St → T (Ex × St)) (s : List UInt8) (x e : Int) (k : Nat) (g : Nat → V)  (j : Nat → V) : ((body9 L (st9 s x e k g j)).bind fun r => T.leaf (cutR (lp9 s) r)).path [false] = some ([(ile 0 x)], ((.ex 0), ⟨[(.str s), .und, (.ref 0), (.ref 1), .und, .und, .und, .und, .und, .und, .und, .und, .und, .und, .und, .und, .und, .und, .und, .und, .und, .und, .und, .und, .und, .und, .und, .und, .und, .und, .und, .und, .und, .und, .und, .und, .und, .und, .und], [(.row 38 6 0 (fun _ => .und)), (.row 38 6 k g)]⟩)) := by kernel_rfl
theorem r9e (L : Nat → (St → T (Ex × St)) → St → T (Ex × St)) (s : List UInt8) (x e : Int) (k : Nat) (g : Nat → V)  (j : Nat → V) (h0 : ile 0 x = false) : ((body9 L (st9 s x e k g j)).bind fun r => T.leaf (cutR (lp9 s) r)).sem = some ((.ex 0), ⟨[(.str s), .und, (.ref 0), (.ref 1), .und, .und, .und, .und, .und, .und, .und, .und, .und, .und, .und, .und, .und, .und, .und, .und, .und, .und, .und, .und, .und, .und, .und, .und, .und, .und, .und, .und, .und, .und, .und, .und, .und, .und, .und], [(.row 38 6 0 (fun _ => .und)), (.row 38 6 k g)]⟩) := by
  exact sem_of_path (r9e_p L s x e k g j) (by simp only [h0] <;> rfl)
theorem r9n_p (L : Nat → (St → T (Ex × St)) → St → T (Ex × St)) (s : List UInt8) (x e : Int) (k : Nat) (g : Nat → V)  (j : Nat → V) : ((body9 L (st9 s x e k g j)).bind fun r => T.leaf (cutR (lp9 s) r)).path [true, true, true] = some ([(ile 0 x), (band (ile 0 x) (ilt x (Int.ofNat (slen s)))), (bnot (ieq (sget s (toN x)) 43))], (.nm, ⟨[(.str s), .und, (.ref 0), (.ref 1), (iV e), (iV (wr IntKind.i64 (isub x 1))), .und, .und, .und, .und, .und, .und, .und, .und, .und, .und, .und, .und, .und, .und, .und, .und, .und, .und, .und, .und, .und, .und, .und, .und, .und, .und, .und, .und, .und, .und, .und, .und, .und], [(.row 38 6 0 (fun _ => .und)), (.row 38 6 k g)]⟩)) := by kernel_rfl
theorem r9n (L : Nat → (St → T (Ex × St)) → St → T (Ex × St)) (s : List UInt8) (x e : Int) (k : Nat) (g : Nat → V)  (j : Nat → V) (h0 : ile 0 x = true) (h21 : band (ile 0 x) (ilt x (Int.ofNat (slen s))) = true) (h22 : ieq (sget s (toN x)) 43 = false) : ((body9 L (st9 s x e k g j)).bind fun r => T.leaf (cutR (lp9 s) r)).sem = some (.nm, ⟨[(.str s), .und, (.ref 0), (.ref 1), (iV e), (iV (wr IntKind.i64 (isub x 1))), .und, .und, .und, .und, .und, .und, .und, .und, .und, .und, .und, .und, .und, .und, .und, .und, .und, .und, .und, .und, .und, .und, .und, .und, .und, .und, .und, .und, .und, .und, .und, .und, .und], [(.row 38 6 0 (fun _ => .und)), (.row 38 6 k g)]⟩) := by
  exact sem_of_path (r9n_p L s x e k g j) (by simp only [h21] <;> simp only [h0, h22] <;> rfl)
theorem r9f_p (L : Nat → (St → T (Ex × St)) → St → T (Ex × St)) (s : List UInt8) (x e : Int) (k : Nat) (g : Nat → V)  (j : Nat → V) : ((body9 L (st9 s x e k g j)).bind fun r => T.leaf (cutR (lp9 s) r)).path [true, true, false, true, true] = some ([(ile 0 x), (band (ile 0 x) (ilt x (Int.ofNat (slen s)))), (bnot (ieq (sget s (toN x)) 43)), (band (ile 0 (wr IntKind.i64 (iadd x 1))) (band (ile (wr IntKind.i64 (iadd x 1)) e) (ile e (Int.ofNat (slen s))))), (bnot (ieq (parseF (sdrop (toN (wr IntKind.i64 (iadd x 1))) (stake (toN e) s))) 0))], (.rt, ⟨[(.str s), .und, (.ref 1), (.ref 1), .und, .und, .und, .und, .und, .und, .und, .und, .und, .und, .und, .und, .und, .und, .und, .und, .und, .und, .und, .und, .und, .und, .und, .und, .und, .und, .und, .und, .und, .und, .und, .und, .und, .und, .und], [(.row 38 6 0 (fun _ => .und)), (.row 38 6 k g), (.cells [(iV ((parseE (sdrop (toN (wr IntKind.i64 (iadd x 1))) (stake (toN e) s)))).kind), (bV ((parseE (sdrop (toN (wr IntKind.i64 (iadd x 1))) (stake (toN e) s)))).ext), (bV ((parseE (sdrop (toN (wr IntKind.i64 (iadd x 1))) (stake (toN e) s)))).same), (iV ((parseE (sdrop (toN (wr IntKind.i64 (iadd x 1))) (stake (toN e) s)))).src), (iV ((parseE (sdrop (toN (wr IntKind.i64 (iadd x 1))) (stake (toN e) s)))).dst), (iV ((parseE (sdrop (toN (wr IntKind.i64 (iadd x 1))) (stake (toN e) s)))).fence)])]⟩)) := by kernel_rfl
theorem r9f (L : Nat → (St → T (Ex × St)) → St → T (Ex × St)) (s : List UInt8) (x e : Int) (k : Nat) (g : Nat → V)  (j : Nat → V) (h0 : ile 0 x = true) (h22 : band (ile 0 x) (ilt x (Int.ofNat (slen s))) = true) (h23 : ieq (sget s (toN x)) 43 = true) (h25 : band (ile 0 (wr IntKind.i64 (iadd x 1))) (band (ile (wr IntKind.i64 (iadd x 1)) e) (ile e (Int.ofNat (slen s)))) = true) (h26 : ieq (parseF (sdrop (toN (wr IntKind.i64 (iadd x 1))) (stake (toN e) s))) 0 = false) : ((body9 L (st9 s x e k g j)).bind fun r => T.leaf (cutR (lp9 s) r)).sem = some (.rt, ⟨[(.str s), .und, (.ref 1), (.ref 1), .und, .und, .und, .und, .und, .und, .und, .und, .und, .und, .und, .und, .und, .und, .und, .und, .und, .und, .und, .und, .und, .und, .und, .und, .und, .und, .und, .und, .und, .und, .und, .und, .und, .und, .und], [(.row 38 6 0 (fun _ => .und)), (.row 38 6 k g), (.cells [(iV ((parseE (sdrop (toN (wr IntKind.i64 (iadd x 1))) (stake (toN e) s)))).kind), (bV ((parseE (sdrop (toN (wr IntKind.i64 (iadd x 1))) (stake (toN e) s)))).ext), (bV ((parseE (sdrop (toN (wr IntKind.i64 (iadd x 1))) (stake (toN e) s)))).same), (iV ((parseE (sdrop (toN (wr IntKind.i64 (iadd x 1))) (stake (toN e) s)))).src), (iV ((parseE (sdrop (toN (wr IntKind.i64 (iadd x 1))) (stake (toN e) s)))).dst), (iV ((parseE (sdrop (toN (wr IntKind.i64 (iadd x 1))) (stake (toN e) s)))).fence)])]⟩) := by
  exact sem_of_path (r9f_p L s x e k g j) (by simp only [h22, h25] <;> simp only [h0, h23, h26] <;> rfl)
theorem r9p_p (L : Nat → (St → T (Ex × St)) → St → T (Ex × St)) (s : List UInt8) (x e : Int) (k : Nat) (g : Nat → V)  (j : Nat → V) : ((body9 L (st9 s x e k g j)).bind fun r => T.leaf (cutR (lp9 s) r)).path [true, true, false, true, false, true] = some ([(ile 0 x), (band (ile 0 x) (ilt x (Int.ofNat (slen s)))), (bnot (ieq (sget s (toN x)) 43)), (band (ile 0 (wr IntKind.i64 (iadd x 1))) (band (ile (wr IntKind.i64 (iadd x 1)) e) (ile e (Int.ofNat (slen s))))), (bnot (ieq (parseF (sdrop (toN (wr IntKind.i64 (iadd x 1))) (stake (toN e) s))) 0)), (apOK 1 k 40)], (.nm, ⟨[(.str s), .und, (.ref 0), (.ref 3), (iV x), (iV (wr IntKind.i64 (isub x 1))), .und, .und, .und, .und, .und, .und, .und, .und, .und, .und, .und, .und, .und, .und, .und, .und, .und, .und, .und, .und, .und, .und, .und, .und, .und, .und, .und, .und, .und, .und, .und, .und, .und], [(.row 38 6 0 (fun _ => .und)), (.row 38 6 k g), (.cells [(iV ((parseE (sdrop (toN (wr IntKind.i64 (iadd x 1))) (stake (toN e) s)))).kind), (bV ((parseE (sdrop (toN (wr IntKind.i64 (iadd x 1))) (stake (toN e) s)))).ext), (bV ((parseE (sdrop (toN (wr IntKind.i64 (iadd x 1))) (stake (toN e) s)))).same), (iV ((parseE (sdrop (toN (wr IntKind.i64 (iadd x 1))) (stake (toN e) s)))).src), (iV ((parseE (sdrop (toN (wr IntKind.i64 (iadd x 1))) (stake (toN e) s)))).dst), (iV ((parseE (sdrop (toN (wr IntKind.i64 (iadd x 1))) (stake (toN e) s)))).fence)]), (.row 38 6 (nadd 1 k) (growGet 1 k (litRow 1 [(eV (parseE (sdrop (toN (wr IntKind.i64 (iadd x 1))) (stake (toN e) s))))]) g))]⟩)) := by kernel_rfl
theorem r9p (L : Nat → (St → T (Ex × St)) → St → T (Ex × St)) (s : List UInt8) (x e : Int) (k : Nat) (g : Nat → V)  (j : Nat → V) (h0 : ile 0 x = true) (h22 : band (ile 0 x) (ilt x (Int.ofNat (slen s))) = true) (h23 : ieq (sget s (toN x)) 43 = true) (h25 : band (ile 0 (wr IntKind.i64 (iadd x 1))) (band (ile (wr IntKind.i64 (iadd x 1)) e) (ile e (Int.ofNat (slen s)))) = true) (h26 : ieq (parseF (sdrop (toN (wr IntKind.i64 (iadd x 1))) (stake (toN e) s))) 0 = true) (h27 : apOK 1 k 40 = true) : ((body9 L (st9 s x e k g j)).bind fun r => T.leaf (cutR (lp9 s) r)).sem = some (.nm, ⟨[(.str s), .und, (.ref 0), (.ref 3), (iV x), (iV (wr IntKind.i64 (isub x 1))), .und, .und, .und, .und, .und, .und, .und, .und, .und, .und, .und, .und, .und, .und, .und, .und, .und, .und, .und, .und, .und, .und, .und, .und, .und, .und, .und, .und, .und, .und, .und, .und, .und], [(.row 38 6 0 (fun _ => .und)), (.row 38 6 k g), (.cells [(iV ((parseE (sdrop (toN (wr IntKind.i64 (iadd x 1))) (stake (toN e) s)))).kind), (bV ((parseE (sdrop (toN (wr IntKind.i64 (iadd x 1))) (stake (toN e) s)))).ext), (bV ((parseE (sdrop (toN (wr IntKind.i64 (iadd x 1))) (stake (toN e) s)))).same), (iV ((parseE (sdrop (toN (wr IntKind.i64 (iadd x 1))) (stake (toN e) s)))).src), (iV ((parseE (sdrop (toN (wr IntKind.i64 (iadd x 1))) (stake (toN e) s)))).dst), (iV ((parseE (sdrop (toN (wr IntKind.i64 (iadd x 1))) (stake (toN e) s)))).fence)]), (.row 38 6 (nadd 1 k) (growGet 1 k (litRow 1 [(eV (parseE (sdrop (toN (wr IntKind.i64 (iadd x 1))) (stake (toN e) s))))]) g))]⟩) := by
  exact sem_of_path (r9p_p L s x e k g j) (by simp only [h22, h25] <;> simp only [h0, h23, h26, h27] <;> rfl)

def ent9 (s : List UInt8)  : St := ⟨[(.str s), undefV, (.ref 0), (.ref 1), (iV (Int.ofNat (slen s))), (iV (wr IntKind.i64 (isub (Int.ofNat (slen s)) 1))), undefV, undefV, (.str s), (iV (Int.ofNat (slen s))), (.str s), (iV (Int.ofNat (slen s))), (iV (wr IntKind.i64 (isub (Int.ofNat (slen s)) 1))), undefV, undefV, undefV, undefV, undefV, undefV, undefV, undefV, undefV, undefV, undefV, undefV, undefV, undefV, undefV, undefV, undefV, undefV, undefV, undefV, undefV, undefV, undefV, undefV, undefV, undefV], [(.row 38 6 0 (fun _ => .und)), (.row 38 6 0 (fun _ => .und))]⟩

theorem w9e_p (L : Nat → (St → T (Ex × St)) → St → T (Ex × St)) (p0 : (St → T (Ex × St)) → St → Bool) (s : List UInt8) (x e : Int) (k : Nat) (g : Nat → V) : (finF (evalF tab ⟨callT tb9, (onP 0 p0 (en9e s x e k g) L), Gl⟩ Tryz.f9 [.str s] [])).path [true] = some ([(p0 (body9 (onP 0 p0 (en9e s x e k g) L)) (ent9 s))], ((.ref 0), [(.row 38 6 k g)])) := by kernel_rfl
theorem w9e (L : Nat → (St → T (Ex × St)) → St → T (Ex × St)) (p0 : (St → T (Ex × St)) → St → Bool) (s : List UInt8) (x e : Int) (k : Nat) (g : Nat → V)  (hp0 : p0 (body9 (onP 0 p0 (en9e s x e k g) L)) (ent9 s) = true) : (finF (evalF tab ⟨callT tb9, (onP 0 p0 (en9e s x e k g) L), Gl⟩ Tryz.f9 [.str s] [])).sem = some ((.ref 0), [(.row 38 6 k g)]) := by
  exact sem_of_path (w9e_p L p0 s x e k g) (by simp only [hp0] <;> rfl)

theorem w9r_p (L : Nat → (St → T (Ex × St)) → St → T (Ex × St)) (p0 : (St → T (Ex × St)) → St → Bool) (s : List UInt8) (x e : Int) (k : Nat) (g : Nat → V) : (finF (evalF tab ⟨callT tb9, (onP 0 p0 (en9r s x e k g) L), Gl⟩ Tryz.f9 [.str s] [])).path [true] = some ([(p0 (body9 (onP 0 p0 (en9r s x e k g) L)) (ent9 s))], ((.ref 0), [(.row 38 6 k g)])) := by kernel_rfl
theorem w9r (L : Nat → (St → T (Ex × St)) → St → T (Ex × St)) (p0 : (St → T (Ex × St)) → St → Bool) (s : List UInt8) (x e : Int) (k : Nat) (g : Nat → V)  (hp0 : p0 (body9 (onP 0 p0 (en9r s x e k g) L)) (ent9 s) = true) : (finF (evalF tab ⟨callT tb9, (onP 0 p0 (en9r s x e k g) L), Gl⟩ Tryz.f9 [.str s] [])).sem = some ((.ref 0), [(.row 38 6 k g)]) := by
  exact sem_of_path (w9r_p L p0 s x e k g) (by simp only [hp0] <;> rfl)

/-- Which rows a round leaves: the one that was made, if one was. -/
def ps9 (st : St) : List Nat := match nth st.t 3 with
  | .ref j => (match Nat.beq j 3 with
    | true => [0, 3]
    | false => [0, 1])
  | _ => [0, 1]
theorem ps9_nd (st : St) : (ps9 st).Nodup := by
  unfold ps9
  split
  · split <;> decide
  · decide
theorem pk9n (s : List UInt8) (x e : Int) (k : Nat) (g : Nat → V) : pickR (ps9 ⟨[(.str s), .und, (.ref 0), (.ref 1), (iV e), (iV (wr IntKind.i64 (isub x 1))), .und, .und, .und, .und, .und, .und, .und, .und, .und, .und, .und, .und, .und, .und, .und, .und, .und, .und, .und, .und, .und, .und, .und, .und, .und, .und, .und, .und, .und, .und, .und, .und, .und], [(.row 38 6 0 (fun _ => .und)), (.row 38 6 k g)]⟩) ⟨[(.str s), .und, (.ref 0), (.ref 1), (iV e), (iV (wr IntKind.i64 (isub x 1))), .und, .und, .und, .und, .und, .und, .und, .und, .und, .und, .und, .und, .und, .und, .und, .und, .und, .und, .und, .und, .und, .und, .und, .und, .und, .und, .und, .und, .und, .und, .und, .und, .und], [(.row 38 6 0 (fun _ => .und)), (.row 38 6 k g)]⟩ = st9 s (wr IntKind.i64 (isub x 1)) e k g fun _ => .und := by kernel_rfl
theorem pk9e (s : List UInt8) (x e : Int) (k : Nat) (g : Nat → V) : pickR (ps9 ⟨[(.str s), .und, (.ref 0), (.ref 1), .und, .und, .und, .und, .und, .und, .und, .und, .und, .und, .und, .und, .und, .und, .und, .und, .und, .und, .und, .und, .und, .und, .und, .und, .und, .und, .und, .und, .und, .und, .und, .und, .und, .und, .und], [(.row 38 6 0 (fun _ => .und)), (.row 38 6 k g)]⟩) ⟨[(.str s), .und, (.ref 0), (.ref 1), .und, .und, .und, .und, .und, .und, .und, .und, .und, .und, .und, .und, .und, .und, .und, .und, .und, .und, .und, .und, .und, .und, .und, .und, .und, .und, .und, .und, .und, .und, .und, .und, .und, .und, .und], [(.row 38 6 0 (fun _ => .und)), (.row 38 6 k g)]⟩ = (en9e s 0 0 k g).2 := by kernel_rfl
theorem pk9f (s : List UInt8) (x e : Int) (k : Nat) (g : Nat → V) : pickR (ps9 ⟨[(.str s), .und, (.ref 1), (.ref 1), .und, .und, .und, .und, .und, .und, .und, .und, .und, .und, .und, .und, .und, .und, .und, .und, .und, .und, .und, .und, .und, .und, .und, .und, .und, .und, .und, .und, .und, .und, .und, .und, .und, .und, .und], [(.row 38 6 0 (fun _ => .und)), (.row 38 6 k g), (.cells [(iV ((parseE (sdrop (toN (wr IntKind.i64 (iadd x 1))) (stake (toN e) s)))).kind), (bV ((parseE (sdrop (toN (wr IntKind.i64 (iadd x 1))) (stake (toN e) s)))).ext), (bV ((parseE (sdrop (toN (wr IntKind.i64 (iadd x 1))) (stake (toN e) s)))).same), (iV ((parseE (sdrop (toN (wr IntKind.i64 (iadd x 1))) (stake (toN e) s)))).src), (iV ((parseE (sdrop (toN (wr IntKind.i64 (iadd x 1))) (stake (toN e) s)))).dst), (iV ((parseE (sdrop (toN (wr IntKind.i64 (iadd x 1))) (stake (toN e) s)))).fence)])]⟩) ⟨[(.str s), .und, (.ref 1), (.ref 1), .und, .und, .und, .und, .und, .und, .und, .und, .und, .und, .und, .und, .und, .und, .und, .und, .und, .und, .und, .und, .und, .und, .und, .und, .und, .und, .und, .und, .und, .und, .und, .und, .und, .und, .und], [(.row 38 6 0 (fun _ => .und)), (.row 38 6 k g), (.cells [(iV ((parseE (sdrop (toN (wr IntKind.i64 (iadd x 1))) (stake (toN e) s)))).kind), (bV ((parseE (sdrop (toN (wr IntKind.i64 (iadd x 1))) (stake (toN e) s)))).ext), (bV ((parseE (sdrop (toN (wr IntKind.i64 (iadd x 1))) (stake (toN e) s)))).same), (iV ((parseE (sdrop (toN (wr IntKind.i64 (iadd x 1))) (stake (toN e) s)))).src), (iV ((parseE (sdrop (toN (wr IntKind.i64 (iadd x 1))) (stake (toN e) s)))).dst), (iV ((parseE (sdrop (toN (wr IntKind.i64 (iadd x 1))) (stake (toN e) s)))).fence)])]⟩ = (en9r s 0 0 k g).2 := by kernel_rfl
theorem pk9p (s : List UInt8) (x e : Int) (k : Nat) (g : Nat → V) : pickR (ps9 ⟨[(.str s), .und, (.ref 0), (.ref 3), (iV x), (iV (wr IntKind.i64 (isub x 1))), .und, .und, .und, .und, .und, .und, .und, .und, .und, .und, .und, .und, .und, .und, .und, .und, .und, .und, .und, .und, .und, .und, .und, .und, .und, .und, .und, .und, .und, .und, .und, .und, .und], [(.row 38 6 0 (fun _ => .und)), (.row 38 6 k g), (.cells [(iV ((parseE (sdrop (toN (wr IntKind.i64 (iadd x 1))) (stake (toN e) s)))).kind), (bV ((parseE (sdrop (toN (wr IntKind.i64 (iadd x 1))) (stake (toN e) s)))).ext), (bV ((parseE (sdrop (toN (wr IntKind.i64 (iadd x 1))) (stake (toN e) s)))).same), (iV ((parseE (sdrop (toN (wr IntKind.i64 (iadd x 1))) (stake (toN e) s)))).src), (iV ((parseE (sdrop (toN (wr IntKind.i64 (iadd x 1))) (stake (toN e) s)))).dst), (iV ((parseE (sdrop (toN (wr IntKind.i64 (iadd x 1))) (stake (toN e) s)))).fence)]), (.row 38 6 (nadd 1 k) (growGet 1 k (litRow 1 [(eV (parseE (sdrop (toN (wr IntKind.i64 (iadd x 1))) (stake (toN e) s))))]) g))]⟩) ⟨[(.str s), .und, (.ref 0), (.ref 3), (iV x), (iV (wr IntKind.i64 (isub x 1))), .und, .und, .und, .und, .und, .und, .und, .und, .und, .und, .und, .und, .und, .und, .und, .und, .und, .und, .und, .und, .und, .und, .und, .und, .und, .und, .und, .und, .und, .und, .und, .und, .und], [(.row 38 6 0 (fun _ => .und)), (.row 38 6 k g), (.cells [(iV ((parseE (sdrop (toN (wr IntKind.i64 (iadd x 1))) (stake (toN e) s)))).kind), (bV ((parseE (sdrop (toN (wr IntKind.i64 (iadd x 1))) (stake (toN e) s)))).ext), (bV ((parseE (sdrop (toN (wr IntKind.i64 (iadd x 1))) (stake (toN e) s)))).same), (iV ((parseE (sdrop (toN (wr IntKind.i64 (iadd x 1))) (stake (toN e) s)))).src), (iV ((parseE (sdrop (toN (wr IntKind.i64 (iadd x 1))) (stake (toN e) s)))).dst), (iV ((parseE (sdrop (toN (wr IntKind.i64 (iadd x 1))) (stake (toN e) s)))).fence)]), (.row 38 6 (nadd 1 k) (growGet 1 k (litRow 1 [(eV (parseE (sdrop (toN (wr IntKind.i64 (iadd x 1))) (stake (toN e) s))))]) g))]⟩ = st9 s (wr IntKind.i64 (isub x 1)) x (nadd 1 k) (growGet 1 k (litRow 1 [(eV (parseE (sdrop (toN (wr IntKind.i64 (iadd x 1))) (stake (toN e) s))))]) g) fun _ => .und := by kernel_rfl

/-- A row that grows at its beginning. -/
def rowY : List E6 → Nat → V
  | [] => fun _ => .und
  | e :: l => growGet 1 l.length (litRow 1 [eV e]) (rowY l)
theorem grow1 {m i : Nat} (gx g : Nat → V) (hi : i < m + 1) : growGet 1 m gx g i = bif Nat.blt i 1 then gx i else g (i - 1) := by
  cases m with
  | zero => exact appGet_eq 1 gx g i
  | succ m =>
    cases m with
    | zero =>
      refine (pushGet_eq 1 gx (g 0) i).trans ?_
      have : i = 0 ∨ i = 1 := by omega
      rcases this with rfl | rfl <;> rfl
    | succ m => exact appGet_eq 1 gx g i
theorem rowY_get : ∀ (l : List E6) (i : Nat), i < l.length → rowY l i = eV (getE l i)
  | e :: l, i, hi => by
    have hg : rowY (e :: l) i = bif Nat.blt i 1 then litRow 1 [eV e] i else rowY l (i - 1) := grow1 _ _ hi
    rw [hg]
    cases i with
    | zero => rfl
    | succ i =>
      have hi : i + 1 < l.length + 1 := hi
      show rowY l i = _
      rw [rowY_get l i (by omega)]
      rfl

def xm : Nat → Int
  | 0 => -1
  | b + 1 => Int.ofNat b
theorem xm_wr {b : Nat} (h : b ≤ 1024) : wr .i64 (isub (Int.ofNat b) 1) = xm b := by
  cases b with
  | zero => rfl
  | succ b =>
    unfold wr isub IntKind.wrap xm
    simp [IntKind.bits, IntKind.signed]
    omega
theorem plus_at (s : List UInt8) (b : Nat) : ieq (sget s b) 43 = (s.getD b 0 == 43) := byte_eq (s.getD b 0) 43 (by decide)

/-- Does the walk reach the text's beginning? -/
def tlB (s : List UInt8) : Nat → Nat → Bool
  | 0, _ => true
  | i + 1, e => bif s.getD i 0 == 43 then (bif ieq (parseF (prt s (i + 1) e)) 0 then tlB s i i else false) else tlB s i e

theorem run9 (L : Nat → (St → T (Ex × St)) → St → T (Ex × St)) (s : List UInt8) (hs : s.length ≤ 1024) : ∀ (b e : Nat) (out : List E6) (j : Nat → V) (q : Nat), b < q → b ≤ e → e ≤ s.length → out.length + b ≤ s.length →
    (iterR (body9 L) (lp9 s) ps9 q (st9 s (xm b) (Int.ofNat e) out.length (rowY out) j)).sem = some (bif tlB s b e then en9e s 0 0 (tlR s b e out).length (rowY (tlR s b e out)) else en9r s 0 0 (tlR s b e out).length (rowY (tlR s b e out)))
  | 0, e, out, j, q + 1, _, _, _, _ => by
    rw [iterR_ex (by simp) (r9e L s (xm 0) (Int.ofNat e) out.length (rowY out) j rfl), pk9e s 0 0]
    rfl
  | b + 1, e, out, j, q + 1, hq, hb, he, ho => by
    have hsl : slen s = s.length := rfl
    have c0 : ile 0 (xm (b + 1)) = true := by show ile 0 (Int.ofNat b) = true; exact ofNat_0 b
    have c1 : band (ile 0 (xm (b + 1))) (ilt (xm (b + 1)) (Int.ofNat (slen s))) = true := ofNat_in (by omega)
    have w1 : wr .i64 (isub (xm (b + 1)) 1) = xm b := xm_wr (b := b) (by omega)
    have w2 : wr .i64 (iadd (xm (b + 1)) 1) = Int.ofNat (b + 1) := succ_wr (i := b) (n := s.length) (by omega) (by omega)
    have cb := plus_at s b
    cases hc : s.getD b 0 == 43 with
    | false =>
      rw [hc] at cb
      have h1 := run9 L s hs b e out (fun _ => .und) q (by omega) (by omega) he (by omega)
      rw [tlR_no hc, show tlB s (b + 1) e = tlB s b e by rw [tlB, hc]; rfl, iterR_nm (r9n L s (xm (b + 1)) (Int.ofNat e) out.length (rowY out) j c0 c1 cb), pk9n, w1]
      exact h1
    | true =>
      rw [hc] at cb
      have c3 : band (ile 0 (wr .i64 (iadd (xm (b + 1)) 1))) (band (ile (wr .i64 (iadd (xm (b + 1)) 1)) (Int.ofNat e)) (ile (Int.ofNat e) (Int.ofNat (slen s)))) = true := by
        rw [w2, ofNat_0, ile_nat, ile_nat, decide_eq_true (by omega), decide_eq_true (by omega)]
        rfl
      have cp : sdrop (toN (wr .i64 (iadd (xm (b + 1)) 1))) (stake (toN (Int.ofNat e)) s) = prt s (b + 1) e := by rw [w2]; rfl
      cases hp : ieq (parseF (prt s (b + 1) e)) 0 with
      | false =>
        rw [tlR_bad hc hp, show tlB s (b + 1) e = false by rw [tlB, hc, hp]; rfl, iterR_ex (by simp) (r9f L s (xm (b + 1)) (Int.ofNat e) out.length (rowY out) j c0 c1 cb c3 (by rw [cp]; exact hp)), pk9f]
        rfl
      | true =>
        have ha : apOK 1 out.length 40 = true := decide_eq_true (by omega)
        have h1 := run9 L s hs b b (parseE (prt s (b + 1) e) :: out) (fun _ => .und) q (by omega) (Nat.le_refl _) (by omega) (by simp only [List.length_cons]; omega)
        have hn : nadd 1 out.length = (parseE (prt s (b + 1) e) :: out).length := by show 1 + out.length = out.length + 1; omega
        rw [tlR_ok hc hp, show tlB s (b + 1) e = tlB s b b by rw [tlB, hc, hp]; rfl, iterR_nm (r9p L s (xm (b + 1)) (Int.ofNat e) out.length (rowY out) j c0 c1 cb c3 (by rw [cp]; exact hp) ha), pk9p, w1, cp, hn]
        exact h1

def rtOK (s : List UInt8) : Bool := Nat.ble s.length 1024
def rtT : List V → T (V × List Blk)
  | [.str s] => .br (rtOK s) (.leaf (.ref 0, [.row 38 6 (rtN s) fun i => eV (rtG s i)])) .fail
  | _ => .fail

theorem ent9_eq (s : List UInt8) : ent9 s = st9 s (wr IntKind.i64 (isub (Int.ofNat (slen s)) 1)) (Int.ofNat (slen s)) 0 (fun _ => .und) (fun i => nth (ent9 s).t i) := by kernel_rfl

theorem pTail : PureC Tryz.prog Gl 9 rtT := by
  refine pureC_intro tabOK mixed Tryz.func9 (by kernel_rfl) (by kernel_rfl) fun vs v h' h => ?_
  unfold rtT at h
  split at h
  · rename_i s
    obtain ⟨ho, hq⟩ := sem_br_fail h
    have := sem_leaf hq
    simp only [Prod.mk.injEq] at this
    obtain ⟨rfl, rfl⟩ := this
    have hs : s.length ≤ 1024 := Nat.le_of_ble_eq_true ho
    have hx := cxR_ok (tbl := tb9) tb9_ok 0 (lp9 s) ps9_nd
    have hL := loopR_le 0 (lp9 s) ps9
    have hr := fun M => run9 M s hs s.length s.length [] (fun i => nth (ent9 s).t i) (slen s + 1) (Nat.lt_succ_self _) (Nat.le_refl _) (Nat.le_refl _) (by simp)
    have he : ent9 s = st9 s (xm s.length) (Int.ofNat s.length) 0 (fun _ => .und) (fun i => nth (ent9 s).t i) := by
      rw [← xm_wr hs]
      exact ent9_eq s
    have hrow : ∀ i, i < rtN s → (fun i => eV (rtG s i)) i = rowY (rtL s) i := fun i hi => (rowY_get (rtL s) i hi).symm
    have two : (finF (evalF tab (cxR Gl tb9 0 (lp9 s) ps9) Tryz.f9 [.str s] [])).sem = some (.ref 0, [.row 38 6 (rtN s) (rowY (rtL s))]) := by
      cases hB : tlB s s.length s.length with
      | true =>
        rw [hB] at hr
        exact told_le (onP_le hL hL) _ (w9e (loopR 0 (lp9 s) ps9) _ s 0 0 (rtN s) (rowY (rtL s)) (isP_true (by rw [he]; exact hr _)))
      | false =>
        rw [hB] at hr
        exact told_le (onP_le hL hL) _ (w9r (loopR 0 (lp9 s) ps9) _ s 0 0 (rtN s) (rowY (rtL s)) (isP_true (by rw [he]; exact hr _)))
    exact ⟨_, cxR Gl tb9 0 (lp9 s) ps9, _, ArgLE.refl _, rfl, hx.1, hx.2, two, RowsLE.one hrow⟩
  · cases h

/-! ### The document's Cycle -/

theorem tlR_len (s : List UInt8) : ∀ (b e : Nat) (out : List E6), (tlR s b e out).length ≤ out.length + b
  | 0, _, _ => Nat.le_refl _
  | b + 1, e, out => by
    cases hc : s.getD b 0 == 43 with
    | false =>
      have := tlR_len s b e out
      rw [tlR_no hc]; omega
    | true =>
      cases hp : ieq (parseF (prt s (b + 1) e)) 0 with
      | false => rw [tlR_bad hc hp]; omega
      | true =>
        have := tlR_len s b b (parseE (prt s (b + 1) e) :: out)
        simp only [List.length_cons] at this
        rw [tlR_ok hc hp]; omega
theorem rtN_le (s : List UInt8) : rtN s ≤ s.length := by
  have := tlR_len s s.length s.length []
  simp only [List.length_nil] at this
  unfold rtN rtL
  omega

noncomputable def tb5 : List (Nat × (List V → T (V × List Blk))) := [(9, rtT), (10, nameTT)]
theorem tb5_ok : AllPure Tryz.prog Gl tb5 := .cons pTail <| .cons q12 .nil

theorem w5a_p (L : Nat → (St → T (Ex × St)) → St → T (Ex × St)) (a : Int) (s : List UInt8) : (finF (evalF tab ⟨callT tb5, L, Gl⟩ Tryz.f5 [iV a, .str s] [])).path [true, true, true, true] = some ([(bnot (ieq a 1)), (bnot (ieq a 1)), (bnot (ieq a 1)), (bnot (ieq a 2))], ((.tup [(.ref 0), (iV 1)]), [(.row 38 6 0 (fun _ => .und))])) := by kernel_rfl
theorem w5a (L : Nat → (St → T (Ex × St)) → St → T (Ex × St)) (a : Int) (s : List UInt8) (h0 : ieq a 1 = false) (h1 : ieq a 2 = false) : (finF (evalF tab ⟨callT tb5, L, Gl⟩ Tryz.f5 [iV a, .str s] [])).sem = some ((.tup [(.ref 0), (iV 1)]), [(.row 38 6 0 (fun _ => .und))]) := by
  exact sem_of_path (w5a_p L a s) (by simp only [h0, h1] <;> rfl)

theorem w5bp_p (L : Nat → (St → T (Ex × St)) → St → T (Ex × St)) (a : Int) (s : List UInt8) : (finF (evalF tab ⟨callT tb5, L, Gl⟩ Tryz.f5 [iV a, .str s] [])).path [false, false, false, false, true] = some ([(bnot (ieq a 1)), (bnot (ieq a 1)), (bnot (ieq a 1)), Bool.false, (ilt 1024 (Int.ofNat (slen s)))], ((.tup [(.ref 0), (iV 4)]), [(.row 38 6 0 (fun _ => .und))])) := by kernel_rfl
theorem w5bp (L : Nat → (St → T (Ex × St)) → St → T (Ex × St)) (a : Int) (s : List UInt8) (h0 : ieq a 1 = true) (h1 : ilt 1024 (Int.ofNat (slen s)) = true) : (finF (evalF tab ⟨callT tb5, L, Gl⟩ Tryz.f5 [iV a, .str s] [])).sem = some ((.tup [(.ref 0), (iV 4)]), [(.row 38 6 0 (fun _ => .und))]) := by
  exact sem_of_path (w5bp_p L a s) (by simp only [h0, h1] <;> rfl)

theorem w5cp_p (L : Nat → (St → T (Ex × St)) → St → T (Ex × St)) (a : Int) (s : List UInt8) : (finF (evalF tab ⟨callT tb5, L, Gl⟩ Tryz.f5 [iV a, .str s] [])).path [false, false, false, false, false, true, true, true, true, true, true, true, true] = some ([(bnot (ieq a 1)), (bnot (ieq a 1)), (bnot (ieq a 1)), Bool.false, (ilt 1024 (Int.ofNat (slen s))), (rtOK s), (allN (rtN s) (fun _ => Bool.true)), (fitN (rtN s)), (bnot (ieq (nameE a (rtN s) (fun i => (rtG s i))) 0)), (bnot (ieq (nameE a (rtN s) (fun i => (rtG s i))) 0)), (bnot (ieq (nameE a (rtN s) (fun i => (rtG s i))) 0)), (bnot (ieq (nameE a (rtN s) (fun i => (rtG s i))) 0)), Bool.true], ((.tup [(.ref 0), (iV 4)]), [(.row 38 6 0 (fun _ => .und))])) := by kernel_rfl
theorem w5cp (L : Nat → (St → T (Ex × St)) → St → T (Ex × St)) (a : Int) (s : List UInt8) (h0 : ieq a 1 = true) (h1 : ilt 1024 (Int.ofNat (slen s)) = false) (h22 : rtOK s = true) (h23 : fitN (rtN s) = true) (h24 : ieq (nameE a (rtN s) (fun i => (rtG s i))) 0 = false) : (finF (evalF tab ⟨callT tb5, L, Gl⟩ Tryz.f5 [iV a, .str s] [])).sem = some ((.tup [(.ref 0), (iV 4)]), [(.row 38 6 0 (fun _ => .und))]) := by
  exact sem_of_path (w5cp_p L a s) (by simp only [h0, h1, h22, h23, h24, allN_true] <;> rfl)

theorem w5dp_p (L : Nat → (St → T (Ex × St)) → St → T (Ex × St)) (a : Int) (s : List UInt8) : (finF (evalF tab ⟨callT tb5, L, Gl⟩ Tryz.f5 [iV a, .str s] [])).path [false, false, false, false, false, true, true, true, false, false, false, false, true] = some ([(bnot (ieq a 1)), (bnot (ieq a 1)), (bnot (ieq a 1)), Bool.false, (ilt 1024 (Int.ofNat (slen s))), (rtOK s), (allN (rtN s) (fun _ => Bool.true)), (fitN (rtN s)), (bnot (ieq (nameE a (rtN s) (fun i => (rtG s i))) 0)), (bnot (ieq (nameE a (rtN s) (fun i => (rtG s i))) 0)), (bnot (ieq (nameE a (rtN s) (fun i => (rtG s i))) 0)), (bnot (ieq (nameE a (rtN s) (fun i => (rtG s i))) 0)), (bnot (seq (nameT a (rtN s) (fun i => (rtG s i))) s))], ((.tup [(.ref 0), (iV 4)]), [(.row 38 6 0 (fun _ => .und))])) := by kernel_rfl
theorem w5dp (L : Nat → (St → T (Ex × St)) → St → T (Ex × St)) (a : Int) (s : List UInt8) (h0 : ieq a 1 = true) (h1 : ilt 1024 (Int.ofNat (slen s)) = false) (h23 : rtOK s = true) (h24 : fitN (rtN s) = true) (h25 : ieq (nameE a (rtN s) (fun i => (rtG s i))) 0 = true) (h26 : seq (nameT a (rtN s) (fun i => (rtG s i))) s = false) : (finF (evalF tab ⟨callT tb5, L, Gl⟩ Tryz.f5 [iV a, .str s] [])).sem = some ((.tup [(.ref 0), (iV 4)]), [(.row 38 6 0 (fun _ => .und))]) := by
  exact sem_of_path (w5dp_p L a s) (by simp only [h0, h1, h23, h24, h25, h26, allN_true] <;> rfl)

theorem w5ep_p (L : Nat → (St → T (Ex × St)) → St → T (Ex × St)) (a : Int) (s : List UInt8) : (finF (evalF tab ⟨callT tb5, L, Gl⟩ Tryz.f5 [iV a, .str s] [])).path [false, false, false, false, false, true, true, true, false, false, false, false, false] = some ([(bnot (ieq a 1)), (bnot (ieq a 1)), (bnot (ieq a 1)), Bool.false, (ilt 1024 (Int.ofNat (slen s))), (rtOK s), (allN (rtN s) (fun _ => Bool.true)), (fitN (rtN s)), (bnot (ieq (nameE a (rtN s) (fun i => (rtG s i))) 0)), (bnot (ieq (nameE a (rtN s) (fun i => (rtG s i))) 0)), (bnot (ieq (nameE a (rtN s) (fun i => (rtG s i))) 0)), (bnot (ieq (nameE a (rtN s) (fun i => (rtG s i))) 0)), (bnot (seq (nameT a (rtN s) (fun i => (rtG s i))) s))], ((.tup [(.ref 0), (iV 0)]), [(.row 38 6 (rtN s) (fun i => (eV (rtG s i))))])) := by kernel_rfl
theorem w5ep (L : Nat → (St → T (Ex × St)) → St → T (Ex × St)) (a : Int) (s : List UInt8) (h0 : ieq a 1 = true) (h1 : ilt 1024 (Int.ofNat (slen s)) = false) (h23 : rtOK s = true) (h24 : fitN (rtN s) = true) (h25 : ieq (nameE a (rtN s) (fun i => (rtG s i))) 0 = true) (h26 : seq (nameT a (rtN s) (fun i => (rtG s i))) s = true) : (finF (evalF tab ⟨callT tb5, L, Gl⟩ Tryz.f5 [iV a, .str s] [])).sem = some ((.tup [(.ref 0), (iV 0)]), [(.row 38 6 (rtN s) (fun i => (eV (rtG s i))))]) := by
  exact sem_of_path (w5ep_p L a s) (by simp only [h0, h1, h23, h24, h25, h26, allN_true] <;> rfl)

theorem w5bq_p (L : Nat → (St → T (Ex × St)) → St → T (Ex × St)) (a : Int) (s : List UInt8) : (finF (evalF tab ⟨callT tb5, L, Gl⟩ Tryz.f5 [iV a, .str s] [])).path [true, true, true, false, true] = some ([(bnot (ieq a 1)), (bnot (ieq a 1)), (bnot (ieq a 1)), (bnot (ieq a 2)), (ilt 1024 (Int.ofNat (slen s)))], ((.tup [(.ref 0), (iV 4)]), [(.row 38 6 0 (fun _ => .und))])) := by kernel_rfl
theorem w5bq (L : Nat → (St → T (Ex × St)) → St → T (Ex × St)) (a : Int) (s : List UInt8) (h0 : ieq a 1 = false) (h1 : ieq a 2 = true) (h2 : ilt 1024 (Int.ofNat (slen s)) = true) : (finF (evalF tab ⟨callT tb5, L, Gl⟩ Tryz.f5 [iV a, .str s] [])).sem = some ((.tup [(.ref 0), (iV 4)]), [(.row 38 6 0 (fun _ => .und))]) := by
  exact sem_of_path (w5bq_p L a s) (by simp only [h0, h1, h2] <;> rfl)

theorem w5cq_p (L : Nat → (St → T (Ex × St)) → St → T (Ex × St)) (a : Int) (s : List UInt8) : (finF (evalF tab ⟨callT tb5, L, Gl⟩ Tryz.f5 [iV a, .str s] [])).path [true, true, true, false, false, true, true, true, true, true, true, true, true] = some ([(bnot (ieq a 1)), (bnot (ieq a 1)), (bnot (ieq a 1)), (bnot (ieq a 2)), (ilt 1024 (Int.ofNat (slen s))), (rtOK s), (allN (rtN s) (fun _ => Bool.true)), (fitN (rtN s)), (bnot (ieq (nameE a (rtN s) (fun i => (rtG s i))) 0)), (bnot (ieq (nameE a (rtN s) (fun i => (rtG s i))) 0)), (bnot (ieq (nameE a (rtN s) (fun i => (rtG s i))) 0)), (bnot (ieq (nameE a (rtN s) (fun i => (rtG s i))) 0)), Bool.true], ((.tup [(.ref 0), (iV 4)]), [(.row 38 6 0 (fun _ => .und))])) := by kernel_rfl
theorem w5cq (L : Nat → (St → T (Ex × St)) → St → T (Ex × St)) (a : Int) (s : List UInt8) (h0 : ieq a 1 = false) (h1 : ieq a 2 = true) (h2 : ilt 1024 (Int.ofNat (slen s)) = false) (h23 : rtOK s = true) (h24 : fitN (rtN s) = true) (h25 : ieq (nameE a (rtN s) (fun i => (rtG s i))) 0 = false) : (finF (evalF tab ⟨callT tb5, L, Gl⟩ Tryz.f5 [iV a, .str s] [])).sem = some ((.tup [(.ref 0), (iV 4)]), [(.row 38 6 0 (fun _ => .und))]) := by
  exact sem_of_path (w5cq_p L a s) (by simp only [h0, h1, h2, h23, h24, h25, allN_true] <;> rfl)

theorem w5dq_p (L : Nat → (St → T (Ex × St)) → St → T (Ex × St)) (a : Int) (s : List UInt8) : (finF (evalF tab ⟨callT tb5, L, Gl⟩ Tryz.f5 [iV a, .str s] [])).path [true, true, true, false, false, true, true, true, false, false, false, false, true] = some ([(bnot (ieq a 1)), (bnot (ieq a 1)), (bnot (ieq a 1)), (bnot (ieq a 2)), (ilt 1024 (Int.ofNat (slen s))), (rtOK s), (allN (rtN s) (fun _ => Bool.true)), (fitN (rtN s)), (bnot (ieq (nameE a (rtN s) (fun i => (rtG s i))) 0)), (bnot (ieq (nameE a (rtN s) (fun i => (rtG s i))) 0)), (bnot (ieq (nameE a (rtN s) (fun i => (rtG s i))) 0)), (bnot (ieq (nameE a (rtN s) (fun i => (rtG s i))) 0)), (bnot (seq (nameT a (rtN s) (fun i => (rtG s i))) s))], ((.tup [(.ref 0), (iV 4)]), [(.row 38 6 0 (fun _ => .und))])) := by kernel_rfl
theorem w5dq (L : Nat → (St → T (Ex × St)) → St → T (Ex × St)) (a : Int) (s : List UInt8) (h0 : ieq a 1 = false) (h1 : ieq a 2 = true) (h2 : ilt 1024 (Int.ofNat (slen s)) = false) (h24 : rtOK s = true) (h25 : fitN (rtN s) = true) (h26 : ieq (nameE a (rtN s) (fun i => (rtG s i))) 0 = true) (h27 : seq (nameT a (rtN s) (fun i => (rtG s i))) s = false) : (finF (evalF tab ⟨callT tb5, L, Gl⟩ Tryz.f5 [iV a, .str s] [])).sem = some ((.tup [(.ref 0), (iV 4)]), [(.row 38 6 0 (fun _ => .und))]) := by
  exact sem_of_path (w5dq_p L a s) (by simp only [h0, h1, h2, h24, h25, h26, h27, allN_true] <;> rfl)

theorem w5eq_p (L : Nat → (St → T (Ex × St)) → St → T (Ex × St)) (a : Int) (s : List UInt8) : (finF (evalF tab ⟨callT tb5, L, Gl⟩ Tryz.f5 [iV a, .str s] [])).path [true, true, true, false, false, true, true, true, false, false, false, false, false] = some ([(bnot (ieq a 1)), (bnot (ieq a 1)), (bnot (ieq a 1)), (bnot (ieq a 2)), (ilt 1024 (Int.ofNat (slen s))), (rtOK s), (allN (rtN s) (fun _ => Bool.true)), (fitN (rtN s)), (bnot (ieq (nameE a (rtN s) (fun i => (rtG s i))) 0)), (bnot (ieq (nameE a (rtN s) (fun i => (rtG s i))) 0)), (bnot (ieq (nameE a (rtN s) (fun i => (rtG s i))) 0)), (bnot (ieq (nameE a (rtN s) (fun i => (rtG s i))) 0)), (bnot (seq (nameT a (rtN s) (fun i => (rtG s i))) s))], ((.tup [(.ref 0), (iV 0)]), [(.row 38 6 (rtN s) (fun i => (eV (rtG s i))))])) := by kernel_rfl
theorem w5eq (L : Nat → (St → T (Ex × St)) → St → T (Ex × St)) (a : Int) (s : List UInt8) (h0 : ieq a 1 = false) (h1 : ieq a 2 = true) (h2 : ilt 1024 (Int.ofNat (slen s)) = false) (h24 : rtOK s = true) (h25 : fitN (rtN s) = true) (h26 : ieq (nameE a (rtN s) (fun i => (rtG s i))) 0 = true) (h27 : seq (nameT a (rtN s) (fun i => (rtG s i))) s = true) : (finF (evalF tab ⟨callT tb5, L, Gl⟩ Tryz.f5 [iV a, .str s] [])).sem = some ((.tup [(.ref 0), (iV 0)]), [(.row 38 6 (rtN s) (fun i => (eV (rtG s i))))]) := by
  exact sem_of_path (w5eq_p L a s) (by simp only [h0, h1, h2, h24, h25, h26, h27, allN_true] <;> rfl)

def rcE (a : Int) (s : List UInt8) : Int := match (ieq a 1 || ieq a 2) with
  | false => 1
  | true => match ilt 1024 (Int.ofNat (slen s)) with
    | true => 4
    | false => match rtO a s with
      | true => 0
      | false => 4
def rcN (a : Int) (s : List UInt8) : Nat := match ieq (rcE a s) 0 with
  | true => rtN s
  | false => 0
def rcT : List V → T (V × List Blk)
  | [.val (.int .i64 a), .str s] => .leaf (.tup [.ref 0, iV (rcE a s)], [.row 38 6 (rcN a s) fun i => eV (rtG s i)])
  | _ => .fail

theorem small_of {s : List UInt8} (h : ilt 1024 (Int.ofNat (slen s)) = false) : s.length ≤ 1024 := by
  rw [show (1024 : Int) = Int.ofNat 1024 from rfl, ilt_nat] at h
  have := of_decide_eq_false h
  unfold slen at this
  omega

theorem pRc : PureC Tryz.prog Gl 5 rcT := by
  refine pureC_intro tabOK mixed Tryz.func5 (by kernel_rfl) (by kernel_rfl) fun vs v h' h => ?_
  unfold rcT at h
  split at h
  · rename_i a s
    have := sem_leaf h
    simp only [Prod.mk.injEq] at this
    obtain ⟨rfl, rfl⟩ := this
    have hx := cx_ok tb5_ok []
    have hz : ∀ (g : Nat → V), RowsLE [Blk.row 38 6 0 (fun _ => .und)] [Blk.row 38 6 0 g] := fun g => RowsLE.one fun j hj => absurd hj (Nat.not_lt_zero _)
    have hnone : ieq (rcE a s) 0 = false → rcN a s = 0 := fun e1 => by unfold rcN; rw [e1]
    have hsome : rcE a s = 0 → rcN a s = rtN s := fun e1 => by unfold rcN; rw [e1]; rfl
    have big : (ieq a 1 || ieq a 2) = true → ilt 1024 (Int.ofNat (slen s)) = true → rcE a s = 4 := fun e1 e2 => by unfold rcE; rw [e1, e2]
    have yes : (ieq a 1 || ieq a 2) = true → ilt 1024 (Int.ofNat (slen s)) = false → rtO a s = true → rcE a s = 0 := fun e1 e2 e3 => by unfold rcE; rw [e1, e2, e3]
    have no : (ieq a 1 || ieq a 2) = true → ilt 1024 (Int.ofNat (slen s)) = false → rtO a s = false → rcE a s = 4 := fun e1 e2 e3 => by unfold rcE; rw [e1, e2, e3]
    have kf : ilt 1024 (Int.ofNat (slen s)) = false → rtOK s = true ∧ fitN (rtN s) = true := fun e => by
      have h1 := small_of e
      have h2 := rtN_le s
      exact ⟨Nat.ble_eq_true_of_le h1, fit_le (by omega)⟩
    have hO : rtO a s = (ieq (nameE a (rtN s) fun i => rtG s i) 0 && seq (nameT a (rtN s) fun i => rtG s i) s) := rfl
    cases h1 : ieq a 1 with
    | true =>
      have hA : (ieq a 1 || ieq a 2) = true := by rw [h1]; rfl
      cases hb : ilt 1024 (Int.ofNat (slen s)) with
      | true =>
        have e4 := big hA hb
        rw [hnone (by rw [e4]; rfl), e4]
        exact ⟨_, cxOf Gl tb5 [], _, ArgLE.refl _, rfl, hx.1, hx.2, w5bp _ a s h1 hb, hz _⟩
      | false =>
        obtain ⟨k1, k2⟩ := kf hb
        cases hn : ieq (nameE a (rtN s) fun i => rtG s i) 0 with
        | false =>
          have e4 := no hA hb (by rw [hO, hn]; rfl)
          rw [hnone (by rw [e4]; rfl), e4]
          exact ⟨_, cxOf Gl tb5 [], _, ArgLE.refl _, rfl, hx.1, hx.2, w5cp _ a s h1 hb k1 k2 hn, hz _⟩
        | true =>
          cases ht : seq (nameT a (rtN s) fun i => rtG s i) s with
          | false =>
            have e4 := no hA hb (by rw [hO, hn, ht]; rfl)
            rw [hnone (by rw [e4]; rfl), e4]
            exact ⟨_, cxOf Gl tb5 [], _, ArgLE.refl _, rfl, hx.1, hx.2, w5dp _ a s h1 hb k1 k2 hn ht, hz _⟩
          | true =>
            have e0 := yes hA hb (by rw [hO, hn, ht]; rfl)
            rw [hsome e0, e0]
            exact ⟨_, cxOf Gl tb5 [], _, ArgLE.refl _, rfl, hx.1, hx.2, w5ep _ a s h1 hb k1 k2 hn ht, RowsLE.refl _⟩
    | false =>
      cases h2 : ieq a 2 with
      | false =>
        have e0 : rcE a s = 1 := by unfold rcE; rw [h1, h2]; rfl
        rw [hnone (by rw [e0]; rfl), e0]
        exact ⟨_, cxOf Gl tb5 [], _, ArgLE.refl _, rfl, hx.1, hx.2, w5a _ a s h1 h2, hz _⟩
      | true =>
        have hA : (ieq a 1 || ieq a 2) = true := by rw [h1, h2]; rfl
        cases hb : ilt 1024 (Int.ofNat (slen s)) with
        | true =>
          have e4 := big hA hb
          rw [hnone (by rw [e4]; rfl), e4]
          exact ⟨_, cxOf Gl tb5 [], _, ArgLE.refl _, rfl, hx.1, hx.2, w5bq _ a s h1 h2 hb, hz _⟩
        | false =>
          obtain ⟨k1, k2⟩ := kf hb
          cases hn : ieq (nameE a (rtN s) fun i => rtG s i) 0 with
          | false =>
            have e4 := no hA hb (by rw [hO, hn]; rfl)
            rw [hnone (by rw [e4]; rfl), e4]
            exact ⟨_, cxOf Gl tb5 [], _, ArgLE.refl _, rfl, hx.1, hx.2, w5cq _ a s h1 h2 hb k1 k2 hn, hz _⟩
          | true =>
            cases ht : seq (nameT a (rtN s) fun i => rtG s i) s with
            | false =>
              have e4 := no hA hb (by rw [hO, hn, ht]; rfl)
              rw [hnone (by rw [e4]; rfl), e4]
              exact ⟨_, cxOf Gl tb5 [], _, ArgLE.refl _, rfl, hx.1, hx.2, w5dq _ a s h1 h2 hb k1 k2 hn ht, hz _⟩
            | true =>
              have e0 := yes hA hb (by rw [hO, hn, ht]; rfl)
              rw [hsome e0, e0]
              exact ⟨_, cxOf Gl tb5 [], _, ArgLE.refl _, rfl, hx.1, hx.2, w5eq _ a s h1 h2 hb k1 k2 hn ht, RowsLE.refl _⟩
  · cases h
end Go.Proofs.YtkcbdemfmjciiaaGreatDoor.Fb

namespace Go.Proofs.YtkcbdemfmjciiaaGreatDoor.Fb
open Go.Sy Go Go.Proofs.YtkcbdemfmjciiaaGreatDoor.Ed Go.Proofs.YtkcbdemfmjciiaaGreatDoor.Fa
set_option maxRecDepth 100000

noncomputable def tb3c : List (Nat × (List V → T (V × List Blk))) := [(4, cyT), (5, rcT), (6, sameT), (7, unitT (bV true))]
theorem tb3c_ok (mm : Int) : AllPure Tryz.prog (Gm mm) tb3c := .cons (pCyc mm) <| .cons (gmC mm pRc) <| .cons (gmC mm p42) <| .cons (gmC mm q14) .nil

section
variable {mm : Int}
theorem w3_p (L : Nat → (St → T (Ex × St)) → St → T (Ex × St)) (a : Int) (s : List UInt8) : (finF (evalF tab ⟨callT tb3c, L, Gm mm⟩ Tryz.f3 [iV a, .str s] [])).path [true, true, true, true, true, true, true, true, true] = some ([(allN (cyN a s) (fun _ => Bool.true)), (allN (rcN a s) (fun _ => Bool.true)), (smallN (cyN a s)), (sameB (cyN a s) (fun i => (cyG a s i)) (rcN a s) (fun i => (rtG s i))), (sameB (cyN a s) (fun i => (cyG a s i)) (rcN a s) (fun i => (rtG s i))), (sameB (cyN a s) (fun i => (cyG a s i)) (rcN a s) (fun i => (rtG s i))), (sameB (cyN a s) (fun i => (cyG a s i)) (rcN a s) (fun i => (rtG s i))), (ieq (cyE a s) (rcE a s)), (ieq (cyE a s) (rcE a s))], ((bV Bool.true), [])) := by kernel_rfl
theorem w3 (L : Nat → (St → T (Ex × St)) → St → T (Ex × St)) (a : Int) (s : List UInt8) (h21 : smallN (cyN a s) = true) (h22 : sameB (cyN a s) (fun i => (cyG a s i)) (rcN a s) (fun i => (rtG s i)) = true) (h23 : ieq (cyE a s) (rcE a s) = true) : (finF (evalF tab ⟨callT tb3c, L, Gm mm⟩ Tryz.f3 [iV a, .str s] [])).sem = some ((bV Bool.true), []) := by
  exact sem_of_path (w3_p L a s) (by simp only [h21, h22, h23, allN_true] <;> rfl)
end

/-- Both answer alike, whatever the text. -/
theorem cyc_all (a : Int) (s : List UInt8) : cyE a s = rcE a s ∧ cyN a s = rcN a s ∧ ∀ i, i < cyN a s → cyG a s i = rtG s i := by
  cases hA : (ieq a 1 || ieq a 2) with
  | false =>
    have e1 : cyE a s = 1 := by unfold cyE; rw [hA]
    have e2 : rcE a s = 1 := by unfold rcE; rw [hA]
    have e3 : cyN a s = 0 := by unfold cyN; rw [e1]; rfl
    have e4 : rcN a s = 0 := by unfold rcN; rw [e2]; rfl
    exact ⟨by rw [e1, e2], by rw [e3, e4], fun i hi => by omega⟩
  | true =>
    cases hb : ilt 1024 (Int.ofNat (slen s)) with
    | true =>
      have e1 : cyE a s = 4 := by unfold cyE; rw [hA, hb]
      have e2 : rcE a s = 4 := by unfold rcE; rw [hA, hb]
      have e3 : cyN a s = 0 := by unfold cyN; rw [e1]; rfl
      have e4 : rcN a s = 0 := by unfold rcN; rw [e2]; rfl
      exact ⟨by rw [e1, e2], by rw [e3, e4], fun i hi => by omega⟩
    | false =>
      rcases cyc_same hA hb with ⟨h0, e1, e3, e5⟩ | ⟨h0, e1, e3⟩
      · have e2 : rcE a s = 0 := by unfold rcE; rw [hA, hb, h0]
        have e4 : rcN a s = rtN s := by unfold rcN; rw [e2]; rfl
        exact ⟨by rw [e1, e2], by rw [e3, e4], fun i hi => e5 i (by omega)⟩
      · have e2 : rcE a s = 4 := by unfold rcE; rw [hA, hb, h0]
        have e4 : rcN a s = 0 := by unfold rcN; rw [e2]; rfl
        exact ⟨by rw [e1, e2], by rw [e3, e4], fun i hi => by omega⟩

def law3T : List V → T (V × List Blk)
  | [.val (.int .i64 _), .str _] => out (bV true)
  | _ => .fail

theorem p3 (mm : Int) : PureC Tryz.prog (Gm mm) 3 law3T := by
  refine pureC_intro tabOK mixed Tryz.func3 (by kernel_rfl) (by kernel_rfl) fun vs v h' h => ?_
  unfold law3T at h
  split at h
  · rename_i a s
    have := sem_leaf h
    simp only [Prod.mk.injEq] at this
    obtain ⟨rfl, rfl⟩ := this
    have hx := cx_ok (tb3c_ok mm) []
    obtain ⟨e1, e2, e3⟩ := cyc_all a s
    have k1 : smallN (cyN a s) = true := by
      have hr := rtN_le s
      refine decide_eq_true ?_
      rw [e2]
      unfold rcN
      cases hc : ieq (rcE a s) 0 with
      | false => show (0 : Nat) ≤ _; omega
      | true =>
        show rtN s ≤ _
        have hb : ilt 1024 (Int.ofNat (slen s)) = false := by
          cases hb : ilt 1024 (Int.ofNat (slen s)) with
          | false => rfl
          | true =>
            exfalso
            have : rcE a s = 1 ∨ rcE a s = 4 := by
              unfold rcE
              cases (ieq a 1 || ieq a 2)
              · exact .inl rfl
              · rw [hb]; exact .inr rfl
            rcases this with e | e <;> rw [e] at hc <;> cases hc
        have := small_of hb
        omega
    have k2 : sameB (cyN a s) (fun i => cyG a s i) (rcN a s) (fun i => rtG s i) = true := sameB_at.2 ⟨e2, e3⟩
    have k3 : ieq (cyE a s) (rcE a s) = true := by rw [e1]; simp [ieq]
    exact ⟨_, cxOf (Gm mm) tb3c [], _, ArgLE.refl _, rfl, hx.1, hx.2, w3 _ a s k1 k2 k3, RowsLE.refl _⟩
  · cases h

theorem law3_sem {a : Int} {s : List UInt8} : (law3T [iV a, .str s]).sem = some (bV true, []) := rfl
end Go.Proofs.YtkcbdemfmjciiaaGreatDoor.Fb

namespace Go.Proofs.YtkcbdemfmjciiaaGreatDoor.Fa
open Go.Sy Go Go.Proofs.YtkcbdemfmjciiaaGreatDoor.Ed
set_option maxRecDepth 100000

theorem envA {W : World} (hL : laidMetH Tryz.prog Rows.familyCyclesRow.laid W) : EnvG Gl (Live W) W := by
  have hL : laidMet Tryz.prog [("alembic/edge.comms", .agg (commsL.map fun z => .lit (.string z))), ("alembic/edge.ends", .agg (endsL.map fun z => .lit (.string z))), ("alembic/edge.sets", .agg (setsL.map fun z => .lit (.string z))), ("alembic/edge.deps", .agg (depsL.map fun z => .lit (.string z))), ("unicode/utf8.acceptRanges", Rows.laid_unicode_utf8_acceptRanges), ("alembic/family.all", .agg (famL.map fun z => .agg [.lit (.string z.1), .lit (.string z.2)])), ("unicode/utf8.first", Rows.laid_unicode_utf8_first)] W := hL
  obtain ⟨ps, hv, _, _⟩ := hL
  obtain ⟨h1, q1, hv⟩ := texts_ok (g := 1) (t := 104) (e := 9) (n := 6) (by kernel_rfl) (by kernel_rfl) (by kernel_rfl) (by kernel_rfl) (by kernel_rfl) (by kernel_rfl) hv
  obtain ⟨h4, q4, hv⟩ := texts_ok (g := 4) (t := 107) (e := 9) (n := 4) (by kernel_rfl) (by kernel_rfl) (by kernel_rfl) (by kernel_rfl) (by kernel_rfl) (by kernel_rfl) hv
  obtain ⟨h3, q3, hv⟩ := texts_ok (g := 3) (t := 106) (e := 9) (n := 9) (by kernel_rfl) (by kernel_rfl) (by kernel_rfl) (by kernel_rfl) (by kernel_rfl) (by kernel_rfl) hv
  obtain ⟨h2, q2, hv⟩ := texts_ok (g := 2) (t := 105) (e := 9) (n := 10) (by kernel_rfl) (by kernel_rfl) (by kernel_rfl) (by kernel_rfl) (by kernel_rfl) (by kernel_rfl) hv
  obtain ⟨_, _, _, _, _, _, _, _, _, _, hv, _⟩ := hv
  obtain ⟨h0, q0, hv⟩ := pairs_ok (g := 0) (t := 31) (e := 30) (n := 25) (by kernel_rfl) (by kernel_rfl) (by kernel_rfl) (he := Tryz.underlying30) (by kernel_rfl) (by kernel_rfl) (by kernel_rfl) (by kernel_rfl) (by kernel_rfl) (by kernel_rfl) (by kernel_rfl) (by kernel_rfl) hv
  intro g
  match g with
  | 0 => exact h0
  | 1 => exact h1
  | 2 => exact h2
  | 3 => exact h3
  | 4 => exact h4
  | n + 5 => trivial


/-- A world for the witness: the settled one, the listed variables as their initialisers lay them. -/
noncomputable def laidWorldA (os : Os) : World :=
  { World.holding Tryz.prog os ⟨#[], #[], []⟩ with heap := (World.holding Tryz.prog os ⟨#[], #[], []⟩).heap.mapIdx fun i o => match o with
      | .cells cs t frozen => .cells (match i with
        | 0 => ((pairsF famL).map fun z => Value.string ⟨z.toArray⟩).toArray
        | 1 => (commsL.map fun z => Value.string ⟨z.toArray⟩).toArray
        | 2 => (depsL.map fun z => Value.string ⟨z.toArray⟩).toArray
        | 3 => (setsL.map fun z => Value.string ⟨z.toArray⟩).toArray
        | 4 => (endsL.map fun z => Value.string ⟨z.toArray⟩).toArray
        | 6 => (Pinned.utf8FirstZ.map fun z : Nat => Value.int .u8 (z : Int)).toArray
        | 7 => (([128, 191, 160, 191, 128, 159, 144, 191, 128, 143] ++ List.replicate 22 0).map fun z : Nat => Value.int .u8 (z : Int)).toArray
        | _ => cs) t frozen
      | o => o }

end Go.Proofs.YtkcbdemfmjciiaaGreatDoor.Fa
