/-
  Layer 7: the law ShapeChecks, as a function: of any shape, whether it is one, its last values, what is asked for, a thread's events. No conditions.
-/
import Derived.Test.YtjhnfomefcngfaaCyZb
namespace Go.Proofs.Ytjhnfomefcngfaa.Sh
open Go.Sy Ed
open Int (ofNat)
set_option maxHeartbeats 1000000
set_option maxRecDepth 4000
theorem KP {n:Nat} {P:Nat->Bool} (h:Ab n = true):Ab (Ak P n) = true:=by
  have h1:n <= 4611686018427387904:=of_decide_eq_true h
  exact decide_eq_true (Nat.le_trans (Be P n) h1)
noncomputable def tb9:List (Nat × (List V->T (V × List Blk))):=[(32,Zj),(27,Po),(33,Po),(34,L7),(35,L7),(26,ID),(36,ID),(37,TL),(38,TL),(25,L0),(39,L0),(40,Z4),(16,JA),(18,WZ (bV true))]
theorem AdA:AC Try.prog Gl tb9:=.cons p32 <| .cons p27 <| .cons p33 <| .cons p34 <| .cons p35 <| .cons p26 <| .cons p36 <| .cons p37 <| .cons p38 <| .cons p25 <| .cons p39 <| .cons p55 <| .cons p16 <| .cons p18 .nil
section
variable (L:LT) (a:Int) (n:Nat) (g:Nat->E6) (m:Nat) (x:Nat->Ev5) (t k:Int) (p:Nat) (r:Nat->Int) (q:Nat) (ln:Nat->Nat) (co:Nat->Nat->Int) (z:Int)
include L a n g m x t k p r q ln co z
theorem w9f (h33:Ai q (fun i=>Ai (ln i) (fun _=>true)) = true) (h34:AN 0 n 40 = true) (h35:AN 0 m 40 = true) (h36:AN 0 p 8 = true) (h37:AN 0 q 24 = true) (h38:Ai q (fun i=>AN 0 (ln i) 8) = true) (h40:AL n = true) (h41:BL q = true) (h42:Ab n = true) (h43:Ab m = true) (h44:Ab p = true) (h45:Ab q = true) (h46:Ai q (fun i=>Ab (ln i)) = true) (h0:BV (Sh7.mk a n g m x t k p r q (fun i=>((ln i),(co i)))) = false) (h47:AW [r3Z] = true) (h50:BL m = true) (h52:Ai 0 (fun _=>false) = true) (h53:Ab 0 = true) (h54:ieq (G0 0 (fun _=>0) 0 (fun _=>0)) 0 = true) (h55:seq (BK z) (BK z) = true) (h56:Bm n g n g = true) (h57:Bh p r p r = true) (h58:BJ q ln (fun i i_1=>co i i_1) q ln (fun i i_1=>co i i_1) = true) (h59:Ai m (fun k=>Cf (x k) (x k)) = true):(As (Aj tab ⟨Ao tb9,L,Gl⟩ Try.f9 [.agg (shL a n g m x t k p r q ln co),iV z] [])).sem = some ((bV true),[]):=Aa (bbK 135 43556142965880123323311660956838562619391) ((fun c0 c1 c2 c3 c4 c5 c6 c7 c8 c9 c10 c11 c12 c13 c14 c15 c16 c17 c18=>[c0,c1,c2,c3,Ag (AN 0 n 40) (Ag (AN 0 m 40) (Ag (AN 0 p 8) (Ag (AN 0 q 24) (Ai q (fun i=>AN 0 (ln i) 8))))),AU [.cells (shL a n g m x t k p r q ln co),.row 44 6 n (fun i=>eV (g i)),.row 40 5 m (fun i=>evV (x i)),.row 3 1 p (fun i=>iV (r i)),.jag (Jag.mk 25 1 q (fun _=>.und) 0 3 1 (fun _=>true) ln (fun i j=>iV (co i j))),.cells [iV a,.ref 1,.ref 2,iV t,iV k,.ref 3,.jref 4]],c0,c1,c2,c3,c4,c5,c6,c7,c8,c0,c1,c2,c3,c4,c5,c6,c7,AU [.cells (shL a n g m x t k p r q ln co),.row 44 6 n (fun i=>eV (g i)),.row 40 5 m (fun i=>evV (x i)),.row 3 1 p (fun i=>iV (r i)),.jag (Jag.mk 25 1 q (fun _=>.und) 0 3 1 (fun _=>true) ln (fun i j=>iV (co i j))),.cells [iV a,.ref 1,.ref 2,iV t,iV k,.ref 3,.jref 4],r3Z,r3Z],c0,c1,c2,c3,c4,c5,c6,c7,c8,c0,c1,c2,c3,c4,c5,c6,c7,AU [.cells (shL a n g m x t k p r q ln co),.row 44 6 n (fun i=>eV (g i)),.row 40 5 m (fun i=>evV (x i)),.row 3 1 p (fun i=>iV (r i)),.jag (Jag.mk 25 1 q (fun _=>.und) 0 3 1 (fun _=>true) ln (fun i j=>iV (co i j))),.cells [iV a,.ref 1,.ref 2,iV t,iV k,.ref 3,.jref 4],r3Z,r3Z,r3Z,r3Z],c0,c1,c2,c3,c4,c9,c6,c7,c8,c0,c1,c2,c3,c4,c9,c6,c7,c10,c0,c1,c2,c3,c4,c6,c0,c1,c2,c3,c4,c6,c11,c11,c11,c10,c12,c12,c13,c13,c11,c14,c14,c14,c14,c15,c15,c15,c10,c12,c12,c13,c13,c15,c14,c14,c14,c14,c15,c15,c15,c10,c12,c12,c13,c13,c15,c14,c14,c14,c14,c15,c15,c15,c15,c16,c16,c16,c16,c17,c17,c17,c10,c0,c1,c2,c3,c0,c1,c2,c3,c6,c17,c18,c18]) (Ai n (fun _=>true)) (Ai m (fun _=>true)) (Ai p (fun _=>true)) (Ai q (fun i=>Ai (ln i) (fun _=>true))) (AL n) (BL q) (Ag (Ab n) (Ag (Ab m) (Ag (Ab p) (Ag (Ab q) (Ai q (fun i=>Ab (ln i))))))) (BV (Sh7.mk a n g m x t k p r q (fun i=>((ln i),(co i))))) (AW [r3Z]) (BL m) (AU [.cells (shL a n g m x t k p r q ln co),.row 44 6 n (fun i=>eV (g i)),.row 40 5 m (fun i=>evV (x i)),.row 3 1 p (fun i=>iV (r i)),.jag (Jag.mk 25 1 q (fun _=>.und) 0 3 1 (fun _=>true) ln (fun i j=>iV (co i j))),.cells [iV a,.ref 1,.ref 2,iV t,iV k,.ref 3,.jref 4],r3Z,r3Z,r3Z,r3Z,r3Z,r3Z]) (ieq (A9 a n g m x t k p r q ln (fun i i_1=>co i i_1)) (A9 a n g m x t k p r q ln (fun i i_1=>co i i_1))) (Ai 0 (fun _=>false)) (Ab 0) (ieq (G0 0 (fun _=>0) 0 (fun _=>0)) 0) (ieq 70 70) (seq (BK z) (BK z)) (ieq (Ca z) (Ca z)) (Ag (ieq a a) (Ag (ieq t t) (Ag (ieq k k) (Ag (Bm n g n g) (Ag (ieq (ofNat m) (ofNat m)) (Ag (Bh p r p r) (Ag (BJ q ln (fun i i_1=>co i i_1) q ln (fun i i_1=>co i i_1)) (Ai m (fun k=>Cf (x k) (x k))))))))))) (by kernel_rfl) (by simp only [*,Ar,BQ,jlC,jlR,jlJ,jlN] <;> rfl)
theorem w9o (h34:Ai q (fun i=>Ai (ln i) (fun _=>true)) = true) (h35:AN 0 n 40 = true) (h36:AN 0 m 40 = true) (h37:AN 0 p 8 = true) (h38:AN 0 q 24 = true) (h39:Ai q (fun i=>AN 0 (ln i) 8) = true) (h41:AL n = true) (h42:BL q = true) (h43:Ab n = true) (h44:Ab m = true) (h45:Ab p = true) (h46:Ab q = true) (h47:Ai q (fun i=>Ab (ln i)) = true) (h0:BV (Sh7.mk a n g m x t k p r q (fun i=>((ln i),(co i)))) = true) (h48:AW [.row 3 1 q (fun k=>iV (ofNat (ln k)))] = true) (h50:AW [.row 3 1 (Ak (fun k=>ieq (ofNat (ln k)) 2) q) (fun k=>iV (ofNat (Dg (fun k=>ieq (ofNat (ln k)) 2) q k)))] = true) (h52:BL m = true) (h1:bor (ilt z 0) (ile t z) = true) (h53:AW [r3Z] = true) (h55:ieq (G0 q (fun i=>ofNat (ln i)) q (fun i=>ofNat (ln i))) 0 = true) (h56:Ab (Ak (fun k=>ieq (ofNat (ln k)) 2) q) = true) (h57:ieq (G0 (Ak (fun k=>ieq (ofNat (ln k)) 2) q) (fun i=>ofNat (Dg (fun k=>ieq (ofNat (ln k)) 2) q i)) (Ak (fun k=>ieq (ofNat (ln k)) 2) q) (fun i=>ofNat (Dg (fun k=>ieq (ofNat (ln k)) 2) q i))) 0 = true) (h58:Ai 0 (fun _=>false) = true) (h59:Ab 0 = true) (h60:ieq (G0 0 (fun _=>0) 0 (fun _=>0)) 0 = true) (h61:seq (BK z) (BK z) = true) (h62:Bm n g n g = true) (h63:Bh p r p r = true) (h64:BJ q ln (fun i i_1=>co i i_1) q ln (fun i i_1=>co i i_1) = true) (h65:Ai m (fun k=>Cf (x k) (x k)) = true):(As (Aj tab ⟨Ao tb9,L,Gl⟩ Try.f9 [.agg (shL a n g m x t k p r q ln co),iV z] [])).sem = some ((bV true),[]):=Aa (bbK 137 174224571863520493293247799005065324265471) ((fun c0 c1 c2 c3 c4 c5 c6 c7 c8 c9 c10 c11 c12 c13 c14 c15 c16 c17 c18 c19 c20 c21 c22 c23 c24 c25=>[c0,c1,c2,c3,Ag (AN 0 n 40) (Ag (AN 0 m 40) (Ag (AN 0 p 8) (Ag (AN 0 q 24) (Ai q (fun i=>AN 0 (ln i) 8))))),AU [.cells (shL a n g m x t k p r q ln co),.row 44 6 n (fun i=>eV (g i)),.row 40 5 m (fun i=>evV (x i)),.row 3 1 p (fun i=>iV (r i)),.jag (Jag.mk 25 1 q (fun _=>.und) 0 3 1 (fun _=>true) ln (fun i j=>iV (co i j))),.cells [iV a,.ref 1,.ref 2,iV t,iV k,.ref 3,.jref 4]],c0,c1,c2,c3,c4,c5,c6,c7,AW [.row 3 1 q (fun k=>iV (ofNat (ln k)))],c0,c1,c2,c3,c4,c5,c6,c7,AU [.cells (shL a n g m x t k p r q ln co),.row 44 6 n (fun i=>eV (g i)),.row 40 5 m (fun i=>evV (x i)),.row 3 1 p (fun i=>iV (r i)),.jag (Jag.mk 25 1 q (fun _=>.und) 0 3 1 (fun _=>true) ln (fun i j=>iV (co i j))),.cells [iV a,.ref 1,.ref 2,iV t,iV k,.ref 3,.jref 4],.row 3 1 q (fun k=>iV (ofNat (ln k))),.row 3 1 q (fun k=>iV (ofNat (ln k)))],c0,c1,c2,c3,c4,c5,c6,c7,AW [.row 3 1 (Ak (fun k=>ieq (ofNat (ln k)) 2) q) (fun k=>iV (ofNat (Dg (fun k=>ieq (ofNat (ln k)) 2) q k)))],c0,c1,c2,c3,c4,c5,c6,c7,AU [.cells (shL a n g m x t k p r q ln co),.row 44 6 n (fun i=>eV (g i)),.row 40 5 m (fun i=>evV (x i)),.row 3 1 p (fun i=>iV (r i)),.jag (Jag.mk 25 1 q (fun _=>.und) 0 3 1 (fun _=>true) ln (fun i j=>iV (co i j))),.cells [iV a,.ref 1,.ref 2,iV t,iV k,.ref 3,.jref 4],.row 3 1 q (fun k=>iV (ofNat (ln k))),.row 3 1 q (fun k=>iV (ofNat (ln k))),.row 3 1 (Ak (fun k=>ieq (ofNat (ln k)) 2) q) (fun k=>iV (ofNat (Dg (fun k=>ieq (ofNat (ln k)) 2) q k))),.row 3 1 (Ak (fun k=>ieq (ofNat (ln k)) 2) q) (fun k=>iV (ofNat (Dg (fun k=>ieq (ofNat (ln k)) 2) q k)))],c0,c1,c2,c3,c4,c8,c6,c7,c9,AW [r3Z],c0,c1,c2,c3,c4,c8,c6,c7,c9,c10,c0,c1,c2,c3,c4,c6,c0,c1,c2,c3,c4,c6,c11,c11,c11,c10,c12,c12,c13,c13,c11,c14,c14,c14,c14,c15,c15,c15,c10,c16,c16,c17,c17,c15,c18,c18,c18,c18,c15,c15,c15,c10,c19,c19,c20,c20,c15,c21,c21,c21,c21,c22,c22,c22,c22,c23,c23,c23,c23,c24,c24,c24,c10,c0,c1,c2,c3,c0,c1,c2,c3,c6,c24,c25,c25]) (Ai n (fun _=>true)) (Ai m (fun _=>true)) (Ai p (fun _=>true)) (Ai q (fun i=>Ai (ln i) (fun _=>true))) (AL n) (BL q) (Ag (Ab n) (Ag (Ab m) (Ag (Ab p) (Ag (Ab q) (Ai q (fun i=>Ab (ln i))))))) (BV (Sh7.mk a n g m x t k p r q (fun i=>((ln i),(co i))))) (BL m) (bor (ilt z 0) (ile t z)) (AU [.cells (shL a n g m x t k p r q ln co),.row 44 6 n (fun i=>eV (g i)),.row 40 5 m (fun i=>evV (x i)),.row 3 1 p (fun i=>iV (r i)),.jag (Jag.mk 25 1 q (fun _=>.und) 0 3 1 (fun _=>true) ln (fun i j=>iV (co i j))),.cells [iV a,.ref 1,.ref 2,iV t,iV k,.ref 3,.jref 4],.row 3 1 q (fun k=>iV (ofNat (ln k))),.row 3 1 q (fun k=>iV (ofNat (ln k))),.row 3 1 (Ak (fun k=>ieq (ofNat (ln k)) 2) q) (fun k=>iV (ofNat (Dg (fun k=>ieq (ofNat (ln k)) 2) q k))),.row 3 1 (Ak (fun k=>ieq (ofNat (ln k)) 2) q) (fun k=>iV (ofNat (Dg (fun k=>ieq (ofNat (ln k)) 2) q k))),r3Z,r3Z]) (ieq (A9 a n g m x t k p r q ln (fun i i_1=>co i i_1)) (A9 a n g m x t k p r q ln (fun i i_1=>co i i_1))) (Ai q (fun _=>true)) (Ab q) (ieq (G0 q (fun i=>ofNat (ln i)) q (fun i=>ofNat (ln i))) 0) (ieq 0 0) (Ai (Ak (fun k=>ieq (ofNat (ln k)) 2) q) (fun _=>true)) (Ab (Ak (fun k=>ieq (ofNat (ln k)) 2) q)) (ieq (G0 (Ak (fun k=>ieq (ofNat (ln k)) 2) q) (fun i=>ofNat (Dg (fun k=>ieq (ofNat (ln k)) 2) q i)) (Ak (fun k=>ieq (ofNat (ln k)) 2) q) (fun i=>ofNat (Dg (fun k=>ieq (ofNat (ln k)) 2) q i))) 0) (Ai 0 (fun _=>false)) (Ab 0) (ieq (G0 0 (fun _=>0) 0 (fun _=>0)) 0) (ieq 4 4) (seq (BK z) (BK z)) (ieq (Ca z) (Ca z)) (Ag (ieq a a) (Ag (ieq t t) (Ag (ieq k k) (Ag (Bm n g n g) (Ag (ieq (ofNat m) (ofNat m)) (Ag (Bh p r p r) (Ag (BJ q ln (fun i i_1=>co i i_1) q ln (fun i i_1=>co i i_1)) (Ai m (fun k=>Cf (x k) (x k))))))))))) (by kernel_rfl) (by simp only [*,Ar,BQ,jlC,jlR,jlJ,jlN] <;> rfl)
theorem w9i (h34:Ai q (fun i=>Ai (ln i) (fun _=>true)) = true) (h35:AN 0 n 40 = true) (h36:AN 0 m 40 = true) (h37:AN 0 p 8 = true) (h38:AN 0 q 24 = true) (h39:Ai q (fun i=>AN 0 (ln i) 8) = true) (h41:AL n = true) (h42:BL q = true) (h43:Ab n = true) (h44:Ab m = true) (h45:Ab p = true) (h46:Ab q = true) (h47:Ai q (fun i=>Ab (ln i)) = true) (h0:BV (Sh7.mk a n g m x t k p r q (fun i=>((ln i),(co i)))) = true) (h48:AW [.row 3 1 q (fun k=>iV (ofNat (ln k)))] = true) (h50:AW [.row 3 1 (Ak (fun k=>ieq (ofNat (ln k)) 2) q) (fun k=>iV (ofNat (Dg (fun k=>ieq (ofNat (ln k)) 2) q k)))] = true) (h52:BL m = true) (h1:bor (ilt z 0) (ile t z) = false) (h53:AW [.row 3 1 (Ak (fun i=>ieq ((x i)).th z) m) (fun k=>iV (ofNat (Dg (fun i=>ieq ((x i)).th z) m k)))] = true) (h55:ieq (G0 q (fun i=>ofNat (ln i)) q (fun i=>ofNat (ln i))) 0 = true) (h56:Ab (Ak (fun k=>ieq (ofNat (ln k)) 2) q) = true) (h57:ieq (G0 (Ak (fun k=>ieq (ofNat (ln k)) 2) q) (fun i=>ofNat (Dg (fun k=>ieq (ofNat (ln k)) 2) q i)) (Ak (fun k=>ieq (ofNat (ln k)) 2) q) (fun i=>ofNat (Dg (fun k=>ieq (ofNat (ln k)) 2) q i))) 0 = true) (h58:Ab (Ak (fun i=>ieq ((x i)).th z) m) = true) (h59:ieq (G0 (Ak (fun i=>ieq ((x i)).th z) m) (fun i=>ofNat (Dg (fun i=>ieq ((x i)).th z) m i)) (Ak (fun i=>ieq ((x i)).th z) m) (fun i=>ofNat (Dg (fun i=>ieq ((x i)).th z) m i))) 0 = true) (h60:seq (BK z) (BK z) = true) (h61:Bm n g n g = true) (h62:Bh p r p r = true) (h63:BJ q ln (fun i i_1=>co i i_1) q ln (fun i i_1=>co i i_1) = true) (h64:Ai m (fun k=>Cf (x k) (x k)) = true):(As (Aj tab ⟨Ao tb9,L,Gl⟩ Try.f9 [.agg (shL a n g m x t k p r q ln co),iV z] [])).sem = some ((bV true),[]):=Aa (bbK 137 174224571863520493293246644957660810575871) ((fun c0 c1 c2 c3 c4 c5 c6 c7 c8 c9 c10 c11 c12 c13 c14 c15 c16 c17 c18 c19 c20 c21 c22 c23 c24=>[c0,c1,c2,c3,Ag (AN 0 n 40) (Ag (AN 0 m 40) (Ag (AN 0 p 8) (Ag (AN 0 q 24) (Ai q (fun i=>AN 0 (ln i) 8))))),AU [.cells (shL a n g m x t k p r q ln co),.row 44 6 n (fun i=>eV (g i)),.row 40 5 m (fun i=>evV (x i)),.row 3 1 p (fun i=>iV (r i)),.jag (Jag.mk 25 1 q (fun _=>.und) 0 3 1 (fun _=>true) ln (fun i j=>iV (co i j))),.cells [iV a,.ref 1,.ref 2,iV t,iV k,.ref 3,.jref 4]],c0,c1,c2,c3,c4,c5,c6,c7,AW [.row 3 1 q (fun k=>iV (ofNat (ln k)))],c0,c1,c2,c3,c4,c5,c6,c7,AU [.cells (shL a n g m x t k p r q ln co),.row 44 6 n (fun i=>eV (g i)),.row 40 5 m (fun i=>evV (x i)),.row 3 1 p (fun i=>iV (r i)),.jag (Jag.mk 25 1 q (fun _=>.und) 0 3 1 (fun _=>true) ln (fun i j=>iV (co i j))),.cells [iV a,.ref 1,.ref 2,iV t,iV k,.ref 3,.jref 4],.row 3 1 q (fun k=>iV (ofNat (ln k))),.row 3 1 q (fun k=>iV (ofNat (ln k)))],c0,c1,c2,c3,c4,c5,c6,c7,AW [.row 3 1 (Ak (fun k=>ieq (ofNat (ln k)) 2) q) (fun k=>iV (ofNat (Dg (fun k=>ieq (ofNat (ln k)) 2) q k)))],c0,c1,c2,c3,c4,c5,c6,c7,AU [.cells (shL a n g m x t k p r q ln co),.row 44 6 n (fun i=>eV (g i)),.row 40 5 m (fun i=>evV (x i)),.row 3 1 p (fun i=>iV (r i)),.jag (Jag.mk 25 1 q (fun _=>.und) 0 3 1 (fun _=>true) ln (fun i j=>iV (co i j))),.cells [iV a,.ref 1,.ref 2,iV t,iV k,.ref 3,.jref 4],.row 3 1 q (fun k=>iV (ofNat (ln k))),.row 3 1 q (fun k=>iV (ofNat (ln k))),.row 3 1 (Ak (fun k=>ieq (ofNat (ln k)) 2) q) (fun k=>iV (ofNat (Dg (fun k=>ieq (ofNat (ln k)) 2) q k))),.row 3 1 (Ak (fun k=>ieq (ofNat (ln k)) 2) q) (fun k=>iV (ofNat (Dg (fun k=>ieq (ofNat (ln k)) 2) q k)))],c0,c1,c2,c3,c4,c8,c6,c7,c9,AW [.row 3 1 (Ak (fun i=>ieq ((x i)).th z) m) (fun k=>iV (ofNat (Dg (fun i=>ieq ((x i)).th z) m k)))],c0,c1,c2,c3,c4,c8,c6,c7,c9,c10,c0,c1,c2,c3,c4,c6,c0,c1,c2,c3,c4,c6,c11,c11,c11,c10,c12,c12,c13,c13,c11,c14,c14,c14,c14,c15,c15,c15,c10,c16,c16,c17,c17,c15,c18,c18,c18,c18,c15,c15,c15,c10,c19,c19,c20,c20,c15,c21,c21,c21,c21,c15,c15,c15,c15,c22,c22,c22,c22,c23,c23,c23,c10,c0,c1,c2,c3,c0,c1,c2,c3,c6,c23,c24,c24]) (Ai n (fun _=>true)) (Ai m (fun _=>true)) (Ai p (fun _=>true)) (Ai q (fun i=>Ai (ln i) (fun _=>true))) (AL n) (BL q) (Ag (Ab n) (Ag (Ab m) (Ag (Ab p) (Ag (Ab q) (Ai q (fun i=>Ab (ln i))))))) (BV (Sh7.mk a n g m x t k p r q (fun i=>((ln i),(co i))))) (BL m) (bor (ilt z 0) (ile t z)) (AU [.cells (shL a n g m x t k p r q ln co),.row 44 6 n (fun i=>eV (g i)),.row 40 5 m (fun i=>evV (x i)),.row 3 1 p (fun i=>iV (r i)),.jag (Jag.mk 25 1 q (fun _=>.und) 0 3 1 (fun _=>true) ln (fun i j=>iV (co i j))),.cells [iV a,.ref 1,.ref 2,iV t,iV k,.ref 3,.jref 4],.row 3 1 q (fun k=>iV (ofNat (ln k))),.row 3 1 q (fun k=>iV (ofNat (ln k))),.row 3 1 (Ak (fun k=>ieq (ofNat (ln k)) 2) q) (fun k=>iV (ofNat (Dg (fun k=>ieq (ofNat (ln k)) 2) q k))),.row 3 1 (Ak (fun k=>ieq (ofNat (ln k)) 2) q) (fun k=>iV (ofNat (Dg (fun k=>ieq (ofNat (ln k)) 2) q k))),.row 3 1 (Ak (fun i=>ieq ((x i)).th z) m) (fun k=>iV (ofNat (Dg (fun i=>ieq ((x i)).th z) m k))),.row 3 1 (Ak (fun i=>ieq ((x i)).th z) m) (fun k=>iV (ofNat (Dg (fun i=>ieq ((x i)).th z) m k)))]) (ieq (A9 a n g m x t k p r q ln (fun i i_1=>co i i_1)) (A9 a n g m x t k p r q ln (fun i i_1=>co i i_1))) (Ai q (fun _=>true)) (Ab q) (ieq (G0 q (fun i=>ofNat (ln i)) q (fun i=>ofNat (ln i))) 0) (ieq 0 0) (Ai (Ak (fun k=>ieq (ofNat (ln k)) 2) q) (fun _=>true)) (Ab (Ak (fun k=>ieq (ofNat (ln k)) 2) q)) (ieq (G0 (Ak (fun k=>ieq (ofNat (ln k)) 2) q) (fun i=>ofNat (Dg (fun k=>ieq (ofNat (ln k)) 2) q i)) (Ak (fun k=>ieq (ofNat (ln k)) 2) q) (fun i=>ofNat (Dg (fun k=>ieq (ofNat (ln k)) 2) q i))) 0) (Ai (Ak (fun i=>ieq ((x i)).th z) m) (fun _=>true)) (Ab (Ak (fun i=>ieq ((x i)).th z) m)) (ieq (G0 (Ak (fun i=>ieq ((x i)).th z) m) (fun i=>ofNat (Dg (fun i=>ieq ((x i)).th z) m i)) (Ak (fun i=>ieq ((x i)).th z) m) (fun i=>ofNat (Dg (fun i=>ieq ((x i)).th z) m i))) 0) (seq (BK z) (BK z)) (ieq (Ca z) (Ca z)) (Ag (ieq a a) (Ag (ieq t t) (Ag (ieq k k) (Ag (Bm n g n g) (Ag (ieq (ofNat m) (ofNat m)) (Ag (Bh p r p r) (Ag (BJ q ln (fun i i_1=>co i i_1) q ln (fun i i_1=>co i i_1)) (Ai m (fun k=>Cf (x k) (x k))))))))))) (by kernel_rfl) (by simp only [*,Ar,BQ,jlC,jlR,jlJ,jlN] <;> rfl)
end
def UX:List V->T (V × List Blk)
  | [v,.val (.int .i64 _)]=>apS v fun s=>.br (Q1 s) (out (bV true)) .fail
  | _=>.fail
theorem M9 {α β:Type} (c:Cod α) (n:Nat) (f:Nat->α) (F:Nat->(Nat->α)->T β) (h1:∀ x,c.ok (c.enc x) = true) (h2:∀ x,c.ed (c.enc x) = x):(apG c (Il c n f) F).sem = (F n f).sem:=by
  have h0:TV c.size (Il c n f) = some (n,fun i=>c.enc (f i)):=by
    show (match Nat.beq c.size c.size with
      | true=>some (n,fun i=>c.enc (f i))
      | false=>match n with
        | 0=>some (0,fun i=>c.enc (f i))
        | _=>none) = _
    rw [show Nat.beq c.size c.size = true from Nat.beq_refl _]
  unfold apG
  rw [h0]
  show sel (Ai n fun i=>c.ok (c.enc (f i))) (F n fun i=>c.ed (c.enc (f i))).sem none = _
  rw [show (Ai n fun i=>c.ok (c.enc (f i))) = true from A4.2 fun i _=>h1 _]
  rw [show (fun i=>c.ed (c.enc (f i))) = f from funext fun i=>h2 _]
  rfl
theorem AbC {β:Type} (s:Sh7) (F:Sh7->T β):(apS (PN s) F).sem = (F s).sem:=by
  obtain ⟨a,n,g,m,x,t,k,p,r,q,C⟩:=s
  show (apG QV (Il QV n g) fun ne E=>apG QS (Il QS m x) fun nx X=>apG QU (Il QU p r) fun nr R=>apG QT (Il QT q C) fun nc C=>F ⟨a,ne,E,nx,X,t,k,nr,R,nc,C⟩).sem = _
  rw [M9 QV n g _ (fun _=>rfl) (fun _=>rfl),M9 QS m x _ (fun _=>rfl) (fun _=>rfl),M9 QU p r _ (fun _=>rfl) (fun _=>rfl),M9 QT q C _ (fun x=>?_) (fun _=>rfl)]
  show (match TV 1 (.sl 1 x.1 fun i=>iV (x.2 i)) with
    | some (n,g)=>Ai n fun i=>okI (g i)
    | none=>false) = true
  exact A4.2 fun _ _=>rfl
theorem AiF {s:Sh7} (h:Q1 s = true):AN 0 s.ne 40 = true ∧ AN 0 s.nx 40 = true ∧ AN 0 s.nr 8 = true ∧ AN 0 s.nc 24 = true ∧ (Ai s.nc fun i=>AN 0 (s.C i).1 8) = true:=by simpa [Q1,Ag] using h
theorem AbB {n b:Nat} (h:AN 0 n b = true):n * b <= 140737488355328:=by
  have h:(0+n) * b <= 140737488355328:=of_decide_eq_true h
  rwa [Nat.zero_add] at h
theorem IB {n b:Nat} (h:AN 0 n b = true) (hb:0 < b):Ab n = true:=by
  have h:=AbB h
  have h2:n * 1 <= n * b:=Nat.mul_le_mul_left n hb
  exact decide_eq_true (by omega)
theorem AfE {s:Sh7} (h1:s.ne * 40 <= 140737488355328) (h2:s.nx * 40 <= 140737488355328) (h3:s.nr * 8 <= 140737488355328) (h4:s.nc * 24 <= 140737488355328) (h5:∀ i,i < s.nc->(s.C i).1 * 8 <= 140737488355328):Q1 s = true:=by
  have ap:∀ {n b:Nat},n * b <= 140737488355328->AN 0 n b = true:=fun {n b} h=>decide_eq_true (by rwa [Nat.zero_add])
  unfold Q1
  rw [B5 (ap h1),B5 (ap h2),B5 (ap h3),B5 (ap h4)]
  exact A4.2 fun i hi=>ap (h5 i hi)
theorem Y8 {s:Sh7} {z:Int} (h:Q1 s = true):(UX [PN s,iV z]).sem = some (bV true,[]):=by
  show (apS (PN s) fun s=>T.br (Q1 s) (out (bV true)) .fail).sem = _
  rw [AbC]
  simp only [h]
  rfl
theorem p9:AB Try.prog Gl 9 UX:=by
  refine A1 AQ AR Try.func9 (by kernel_rfl) (by kernel_rfl) fun vs v h' h=>?_
  unfold UX at h
  split at h
  · rename_i v1 z
    obtain ⟨s,a1,h⟩:=Ci h
    obtain ⟨hf,h⟩:=Ah h
    have:=Ad h
    simp only [Prod.mk.injEq] at this
    obtain ⟨rfl,rfl⟩:=this
    obtain ⟨a,n,g,m,x,t,k,p,r,q,C⟩:=s
    have hA:Bw [v1,iV z] [.agg [iV a,.sl 6 n (fun i=>eV (g i)),.sl 5 m (fun i=>evV (x i)),iV t,iV k,.sl 1 p (fun i=>iV (r i)),.sl 1 q (fun u=>.sl 1 (C u).1 (fun i=>iV ((C u).2 i)))],iV z]:=fun S w cs hv=>by
      obtain ⟨c,l,rfl,q1,q2⟩:=hv
      exact ⟨c,_,rfl,a1 S w c q1,q2⟩
    obtain ⟨f1,f2,f3,f4,f5⟩:=AiF hf
    have n1:=IB f1 (by omega)
    have n2:=IB f2 (by omega)
    have n3:=IB f3 (by omega)
    have n4:=IB f4 (by omega)
    have n5:(Ai q fun i=>Ab (C i).1) = true:=A4.2 fun i hi=>IB (A4.1 f5 i hi) (by omega)
    have h1:AL n = true:=decide_eq_true (AbB f1)
    have g1:BL q = true:=decide_eq_true (by
      have:q * 24 <= 140737488355328:=AbB f4
      show q * 8 <= 140737488355328
      omega)
    have g2:BL m = true:=decide_eq_true (by
      have:m * 40 <= 140737488355328:=AbB f2
      show m * 8 <= 140737488355328
      omega)
    have hx:=AP AdA [] (G:=Gl)
    refine ⟨_,AI Gl tb9 [],_,hA,rfl,hx.1,hx.2,?_,A6.refl _⟩
    cases hc:BV ⟨a,n,g,m,x,t,k,p,r,q,fun i=>((C i).1,(C i).2)⟩ with
    | false=>exact w9f _ a n g m x t k p r q (fun u=>(C u).1) (fun u=>(C u).2) z (Cs () ()) f1 f2 f3 f4 f5 h1 g1 n1 n2 n3 n4 n5 hc Jx g2 rfl rfl (FE fun _ _=>rfl) (MV _) (KW _ _) (IN _ _) (KV _ _ _) (A4.2 fun _ _=>KT _)
    | true =>
      cases hz:bor (ilt z 0) (ile t z) with
      | true=>exact w9o _ a n g m x t k p r q (fun u=>(C u).1) (fun u=>(C u).2) z (Cs () ()) f1 f2 f3 f4 f5 h1 g1 n1 n2 n3 n4 n5 hc D1 D1 g2 hz Jx (FE fun _ _=>rfl) (KP n4) (FE fun _ _=>rfl) rfl rfl (FE fun _ _=>rfl) (MV _) (KW _ _) (IN _ _) (KV _ _ _) (A4.2 fun _ _=>KT _)
      | false=>exact w9i _ a n g m x t k p r q (fun u=>(C u).1) (fun u=>(C u).2) z (Cs () ()) f1 f2 f3 f4 f5 h1 g1 n1 n2 n3 n4 n5 hc D1 D1 g2 hz D1 (FE fun _ _=>rfl) (KP n4) (FE fun _ _=>rfl) (KP n2) (FE fun _ _=>rfl) (MV _) (KW _ _) (IN _ _) (KV _ _ _) (A4.2 fun _ _=>KT _)
  · cases h
end Go.Proofs.Ytjhnfomefcngfaa.Sh
