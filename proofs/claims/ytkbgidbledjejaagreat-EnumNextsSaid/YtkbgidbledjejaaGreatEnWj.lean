/-
  Layer 5, the document's: its closed lists, the walk. No conditions.
-/
import Derived.Test.YtkbgidbledjejaaGreatEnWh
namespace Go.Proofs.YtkbgidbledjejaaGreat.En
open Go.Sy Go Go.Proofs.YtkbgidbledjejaaGreat.Ed
open Int (ofNat)
set_option maxRecDepth 100000
noncomputable def AlK:AH:=[(112,Yi),(113,ggT Bs),(58,ggT Aj)]
theorem Af1:Ao Tryz.prog Gl AlK:=.cons Apq <| .cons p113 <| .cons p58 .nil
def Adt:Lp:=⟨bmK 95 0 [1,2,6,7,8,9,10],2,bmK 95 0 [1,2,6,7,8,9],2,1000⟩
def KO:Lp:=⟨bmK 95 0 [1,2,6,7,8,9,10,11,12,13],3,bmK 95 0 [1,2,6,7,8,9,10,11,12],3,3⟩
def Qa:Lp:=⟨bmK 95 0 [1,2,6,7,8],1,bmK 95 0 [6,7],1,3⟩
def AlH:List (Nat×Lp):=[(4,AeX 3)]
def Ann:List (Nat×Lp×List (Nat×(Nat->V))):=[(0,Qa,[]),(2,Adt,[]),(6,KO,[])]
noncomputable abbrev AnT:Cx:=cxU Gl AlK AlH Ann
noncomputable def B98 (id:Nat):St->T (Ex×St):=λst=>A8 tab AnT (A0 Tryz.f98 id) id st
def st1 (c:Bool) (u m r:Int) (F:Bool):Int×Bool :=
 match c with
 | true=>(B8 (Aj r (B8 (Bs u m))),F && okT (Bs u m) && okT (Aj r (B8 (Bs u m))))
 | false=>(r,F)
theorem MR {c:Bool} {u m r:Int} {F:Bool} (hu:okG u=true) (hm:okG m=true) (hr:okG r=true):okG (st1 c u m r F).1=true:=by
 cases c with
 | true=>exact I8 (AeY (EK.1 hr).1 (WM (FG hu hm)))
 | false=>exact hr
section
variable (a b c d n w s k:Int)
def S98 (l:List (Nat×V)) (F:Bool) (x y p q:Int):St:=⟨jsV 95 0 Ac ([(1,iV n),(2,.ptr 0 0),(6,iV w),(7,bV F),(8,iV s),(9,.ptr 1 0),(10,iV k),(11,.ptr 2 0)]++l),[.cells [iV a,iV b,iV c,iV d],.cells [iV x,iV y],.cells [iV p,iV q]]⟩
def R98 (F:Bool) (x y k:Int):St:=⟨jsV 95 0 Ac [(1,iV n),(2,.ptr 0 0),(6,iV w),(7,bV F),(8,iV s),(9,.ptr 1 0),(10,iV k)],[.cells [iV a,iV b,iV c,iV d],.cells [iV x,iV y]]⟩
def E98 (F:Bool) (x y:Int):Ex×St:=(.ex 2,⟨jsV 95 0 Ac [(1,iV n),(2,.ptr 0 0),(6,iV w),(7,bV F),(8,iV s),(9,.ptr 1 0)],[.cells [iV a,iV b,iV c,iV d],.cells [iV x,iV y]]⟩)
abbrev nk (n k:Int):Int:=wr .i64 (Ay n k)
variable {a b c d n w s k} (h0:ile 0 s=true) (h1:ile s 1=true) (h2:ile 0 (nk n k)=true) (h3:ile (nk n k) 100=true)
include h0 h1 h2 h3
theorem AjO {x y p q:Int} {F C:Bool} (gu:okG x=true) (gm:okG a=true) (gr:okG p=true) (hc:C2 a b c d 0 (toN s) (toN (nk n k))=C):Ap (B98 6) KO (S98 a b c d n w s k [(12,iV 0),(13,iV 0)] F x y p q)=some (.nm,S98 a b c d n w s k [(12,iV 0),(13,iV 1)] (st1 C x a p F).2 x y (st1 C x a p F).1 q):=by
 have gt:okG (B8 (Bs x a))=true:=I8 (FG gu gm);cases C with
 | false=>exact DW.rd (.k (show ilt 0 2=true from rfl) <| .k (show ile 0 0=true from rfl) <| .k (show ile 0 1=true from rfl) <| .k h0 <| .k h1 <| .k h2 <| .k h3 <| .k (eN hc) <| .l) (by kernel_rfl)
 | true =>
  cases F with
  | false=>exact DW.rd (.k (show ilt 0 2=true from rfl) <| .k (show ile 0 0=true from rfl) <| .k (show ile 0 1=true from rfl) <| .k h0 <| .k h1 <| .k h2 <| .k h3 <| .k (eN hc) <| .k (eI 0) <| .k (eI 0) <| .k (eI 0) <| .k gu <| .k gm <| .k (eI 0) <| .k gr <| .k gt <| .k (eI 0) <| .r 4 eF <| .e (congrArg (λF=>(Ex.nm,S98 a b c d n w s k [(12,iV 0),(13,iV 1)] F x y (B8 (Aj p (B8 (Bs x a)))) q)) (rfl))) (by kernel_rfl)
  | true =>
   cases ht:okT (Bs x a) with
   | true=>exact DW.rd (.k (show ilt 0 2=true from rfl) <| .k (show ile 0 0=true from rfl) <| .k (show ile 0 1=true from rfl) <| .k h0 <| .k h1 <| .k h2 <| .k h3 <| .k (eN hc) <| .k (eI 0) <| .k (eI 0) <| .k (eI 0) <| .k gu <| .k gm <| .k (eI 0) <| .k gr <| .k gt <| .k (eI 0) <| .r 2 eT <| .r 2 ht <| .e (congrArg (λF=>(Ex.nm,S98 a b c d n w s k [(12,iV 0),(13,iV 1)] F x y (B8 (Aj p (B8 (Bs x a)))) q)) (show okT (Aj p (B8 (Bs x a)))=(true && okT (Bs x a) && okT (Aj p (B8 (Bs x a)))) by rw [ht]; rfl))) (by kernel_rfl)
   | false=>exact DW.rd (.k (show ilt 0 2=true from rfl) <| .k (show ile 0 0=true from rfl) <| .k (show ile 0 1=true from rfl) <| .k h0 <| .k h1 <| .k h2 <| .k h3 <| .k (eN hc) <| .k (eI 0) <| .k (eI 0) <| .k (eI 0) <| .k gu <| .k gm <| .k (eI 0) <| .k gr <| .k gt <| .k (eI 0) <| .r 2 eT <| .r 2 ht <| .e (congrArg (λF=>(Ex.nm,S98 a b c d n w s k [(12,iV 0),(13,iV 1)] F x y (B8 (Aj p (B8 (Bs x a)))) q)) (show false=(true && okT (Bs x a) && okT (Aj p (B8 (Bs x a)))) by rw [ht]; rfl))) (by kernel_rfl)
theorem AjN {x y p q:Int} {F C:Bool} (gu:okG x=true) (gm:okG b=true) (gr:okG q=true) (hc:C2 a b c d 1 (toN s) (toN (nk n k))=C):Ap (B98 6) KO (S98 a b c d n w s k [(12,iV 0),(13,iV 1)] F x y p q)=some (.nm,S98 a b c d n w s k [(12,iV 0),(13,iV 2)] (st1 C x b q F).2 x y p (st1 C x b q F).1):=by
 have gt:okG (B8 (Bs x b))=true:=I8 (FG gu gm);cases C with
 | false=>exact DW.rd (.k (show ilt 1 2=true from rfl) <| .k (show ile 0 1=true from rfl) <| .k (show ile 1 1=true from rfl) <| .k h0 <| .k h1 <| .k h2 <| .k h3 <| .k (eN hc) <| .l) (by kernel_rfl)
 | true =>
  cases F with
  | false=>exact DW.rd (.k (show ilt 1 2=true from rfl) <| .k (show ile 0 1=true from rfl) <| .k (show ile 1 1=true from rfl) <| .k h0 <| .k h1 <| .k h2 <| .k h3 <| .k (eN hc) <| .k (eI 0) <| .k (eI 0) <| .k (show ieq 1 0=false from rfl) <| .k (eI 1) <| .k gu <| .k gm <| .k (show ieq 1 0=false from rfl) <| .k (eI 1) <| .k gr <| .k gt <| .k (show ieq 1 0=false from rfl) <| .k (eI 1) <| .r 4 eF <| .e (congrArg (λF=>(Ex.nm,S98 a b c d n w s k [(12,iV 0),(13,iV 2)] F x y p (B8 (Aj q (B8 (Bs x b)))))) (rfl))) (by kernel_rfl)
  | true =>
   cases ht:okT (Bs x b) with
   | true=>exact DW.rd (.k (show ilt 1 2=true from rfl) <| .k (show ile 0 1=true from rfl) <| .k (show ile 1 1=true from rfl) <| .k h0 <| .k h1 <| .k h2 <| .k h3 <| .k (eN hc) <| .k (eI 0) <| .k (eI 0) <| .k (show ieq 1 0=false from rfl) <| .k (eI 1) <| .k gu <| .k gm <| .k (show ieq 1 0=false from rfl) <| .k (eI 1) <| .k gr <| .k gt <| .k (show ieq 1 0=false from rfl) <| .k (eI 1) <| .r 2 eT <| .r 2 ht <| .e (congrArg (λF=>(Ex.nm,S98 a b c d n w s k [(12,iV 0),(13,iV 2)] F x y p (B8 (Aj q (B8 (Bs x b)))))) (show okT (Aj q (B8 (Bs x b)))=(true && okT (Bs x b) && okT (Aj q (B8 (Bs x b)))) by rw [ht]; rfl))) (by kernel_rfl)
   | false=>exact DW.rd (.k (show ilt 1 2=true from rfl) <| .k (show ile 0 1=true from rfl) <| .k (show ile 1 1=true from rfl) <| .k h0 <| .k h1 <| .k h2 <| .k h3 <| .k (eN hc) <| .k (eI 0) <| .k (eI 0) <| .k (show ieq 1 0=false from rfl) <| .k (eI 1) <| .k gu <| .k gm <| .k (show ieq 1 0=false from rfl) <| .k (eI 1) <| .k gr <| .k gt <| .k (show ieq 1 0=false from rfl) <| .k (eI 1) <| .r 2 eT <| .r 2 ht <| .e (congrArg (λF=>(Ex.nm,S98 a b c d n w s k [(12,iV 0),(13,iV 2)] F x y p (B8 (Aj q (B8 (Bs x b)))))) (show false=(true && okT (Bs x b) && okT (Aj q (B8 (Bs x b)))) by rw [ht]; rfl))) (by kernel_rfl)
theorem AjM {x y p q:Int} {F C:Bool} (gu:okG y=true) (gm:okG c=true) (gr:okG p=true) (hc:C2 a b c d 0 (toN s) (toN (nk n k))=C):Ap (B98 6) KO (S98 a b c d n w s k [(12,iV 1),(13,iV 0)] F x y p q)=some (.nm,S98 a b c d n w s k [(12,iV 1),(13,iV 1)] (st1 C y c p F).2 x y (st1 C y c p F).1 q):=by
 have gt:okG (B8 (Bs y c))=true:=I8 (FG gu gm);cases C with
 | false=>exact DW.rd (.k (show ilt 0 2=true from rfl) <| .k (show ile 0 0=true from rfl) <| .k (show ile 0 1=true from rfl) <| .k h0 <| .k h1 <| .k h2 <| .k h3 <| .k (eN hc) <| .l) (by kernel_rfl)
 | true =>
  cases F with
  | false=>exact DW.rd (.k (show ilt 0 2=true from rfl) <| .k (show ile 0 0=true from rfl) <| .k (show ile 0 1=true from rfl) <| .k h0 <| .k h1 <| .k h2 <| .k h3 <| .k (eN hc) <| .k (show ieq 1 0=false from rfl) <| .k (eI 1) <| .k (show ieq 1 0=false from rfl) <| .k (eI 1) <| .k (eI 0) <| .k gu <| .k gm <| .k (eI 0) <| .k gr <| .k gt <| .k (eI 0) <| .r 4 eF <| .e (congrArg (λF=>(Ex.nm,S98 a b c d n w s k [(12,iV 1),(13,iV 1)] F x y (B8 (Aj p (B8 (Bs y c)))) q)) (rfl))) (by kernel_rfl)
  | true =>
   cases ht:okT (Bs y c) with
   | true=>exact DW.rd (.k (show ilt 0 2=true from rfl) <| .k (show ile 0 0=true from rfl) <| .k (show ile 0 1=true from rfl) <| .k h0 <| .k h1 <| .k h2 <| .k h3 <| .k (eN hc) <| .k (show ieq 1 0=false from rfl) <| .k (eI 1) <| .k (show ieq 1 0=false from rfl) <| .k (eI 1) <| .k (eI 0) <| .k gu <| .k gm <| .k (eI 0) <| .k gr <| .k gt <| .k (eI 0) <| .r 2 eT <| .r 2 ht <| .e (congrArg (λF=>(Ex.nm,S98 a b c d n w s k [(12,iV 1),(13,iV 1)] F x y (B8 (Aj p (B8 (Bs y c)))) q)) (show okT (Aj p (B8 (Bs y c)))=(true && okT (Bs y c) && okT (Aj p (B8 (Bs y c)))) by rw [ht]; rfl))) (by kernel_rfl)
   | false=>exact DW.rd (.k (show ilt 0 2=true from rfl) <| .k (show ile 0 0=true from rfl) <| .k (show ile 0 1=true from rfl) <| .k h0 <| .k h1 <| .k h2 <| .k h3 <| .k (eN hc) <| .k (show ieq 1 0=false from rfl) <| .k (eI 1) <| .k (show ieq 1 0=false from rfl) <| .k (eI 1) <| .k (eI 0) <| .k gu <| .k gm <| .k (eI 0) <| .k gr <| .k gt <| .k (eI 0) <| .r 2 eT <| .r 2 ht <| .e (congrArg (λF=>(Ex.nm,S98 a b c d n w s k [(12,iV 1),(13,iV 1)] F x y (B8 (Aj p (B8 (Bs y c)))) q)) (show false=(true && okT (Bs y c) && okT (Aj p (B8 (Bs y c)))) by rw [ht]; rfl))) (by kernel_rfl)
theorem AjL {x y p q:Int} {F C:Bool} (gu:okG y=true) (gm:okG d=true) (gr:okG q=true) (hc:C2 a b c d 1 (toN s) (toN (nk n k))=C):Ap (B98 6) KO (S98 a b c d n w s k [(12,iV 1),(13,iV 1)] F x y p q)=some (.nm,S98 a b c d n w s k [(12,iV 1),(13,iV 2)] (st1 C y d q F).2 x y p (st1 C y d q F).1):=by
 have gt:okG (B8 (Bs y d))=true:=I8 (FG gu gm);cases C with
 | false=>exact DW.rd (.k (show ilt 1 2=true from rfl) <| .k (show ile 0 1=true from rfl) <| .k (show ile 1 1=true from rfl) <| .k h0 <| .k h1 <| .k h2 <| .k h3 <| .k (eN hc) <| .l) (by kernel_rfl)
 | true =>
  cases F with
  | false=>exact DW.rd (.k (show ilt 1 2=true from rfl) <| .k (show ile 0 1=true from rfl) <| .k (show ile 1 1=true from rfl) <| .k h0 <| .k h1 <| .k h2 <| .k h3 <| .k (eN hc) <| .k (show ieq 1 0=false from rfl) <| .k (eI 1) <| .k (show ieq 1 0=false from rfl) <| .k (eI 1) <| .k (show ieq 1 0=false from rfl) <| .k (eI 1) <| .k gu <| .k gm <| .k (show ieq 1 0=false from rfl) <| .k (eI 1) <| .k gr <| .k gt <| .k (show ieq 1 0=false from rfl) <| .k (eI 1) <| .r 4 eF <| .e (congrArg (λF=>(Ex.nm,S98 a b c d n w s k [(12,iV 1),(13,iV 2)] F x y p (B8 (Aj q (B8 (Bs y d)))))) (rfl))) (by kernel_rfl)
  | true =>
   cases ht:okT (Bs y d) with
   | true=>exact DW.rd (.k (show ilt 1 2=true from rfl) <| .k (show ile 0 1=true from rfl) <| .k (show ile 1 1=true from rfl) <| .k h0 <| .k h1 <| .k h2 <| .k h3 <| .k (eN hc) <| .k (show ieq 1 0=false from rfl) <| .k (eI 1) <| .k (show ieq 1 0=false from rfl) <| .k (eI 1) <| .k (show ieq 1 0=false from rfl) <| .k (eI 1) <| .k gu <| .k gm <| .k (show ieq 1 0=false from rfl) <| .k (eI 1) <| .k gr <| .k gt <| .k (show ieq 1 0=false from rfl) <| .k (eI 1) <| .r 2 eT <| .r 2 ht <| .e (congrArg (λF=>(Ex.nm,S98 a b c d n w s k [(12,iV 1),(13,iV 2)] F x y p (B8 (Aj q (B8 (Bs y d)))))) (show okT (Aj q (B8 (Bs y d)))=(true && okT (Bs y d) && okT (Aj q (B8 (Bs y d)))) by rw [ht]; rfl))) (by kernel_rfl)
   | false=>exact DW.rd (.k (show ilt 1 2=true from rfl) <| .k (show ile 0 1=true from rfl) <| .k (show ile 1 1=true from rfl) <| .k h0 <| .k h1 <| .k h2 <| .k h3 <| .k (eN hc) <| .k (show ieq 1 0=false from rfl) <| .k (eI 1) <| .k (show ieq 1 0=false from rfl) <| .k (eI 1) <| .k (show ieq 1 0=false from rfl) <| .k (eI 1) <| .k gu <| .k gm <| .k (show ieq 1 0=false from rfl) <| .k (eI 1) <| .k gr <| .k gt <| .k (show ieq 1 0=false from rfl) <| .k (eI 1) <| .r 2 eT <| .r 2 ht <| .e (congrArg (λF=>(Ex.nm,S98 a b c d n w s k [(12,iV 1),(13,iV 2)] F x y p (B8 (Aj q (B8 (Bs y d)))))) (show false=(true && okT (Bs y d) && okT (Aj q (B8 (Bs y d)))) by rw [ht]; rfl))) (by kernel_rfl)
theorem An1 {x y p q:Int} {F C D:Bool} (gu:okG x=true) (gm:okG a=true) (gn:okG b=true) (gp:okG p=true) (gq:okG q=true) (hc:C2 a b c d 0 (toN s) (toN (nk n k))=C) (hd:C2 a b c d 1 (toN s) (toN (nk n k))=D):(Ax (B98 6) KO 3 (S98 a b c d n w s k [(12,iV 0),(13,iV 0)] F x y p q)).sem=some (.ex 6,S98 a b c d n w s k [(12,iV 0)] (st1 D x b q (st1 C x a p F).2).2 x y (st1 C x a p F).1 (st1 D x b q (st1 C x a p F).2).1):=by
 rw [Ae (AjO h0 h1 h2 h3 (x:=x) (y:=y) (p:=p) (q:=q) (F:=F) gu gm gp hc),AN,Ae (AjN h0 h1 h2 h3 (x:=x) (y:=y) (p:=(st1 C x a p F).1) (q:=q) (F:=(st1 C x a p F).2) gu gn gq hd),AN];exact Ae (t:=some (.ex 6,_)) (DW.rd (.k (show ilt 2 2=false from rfl) <| .l) (by kernel_rfl))
theorem An0 {x y p q:Int} {F C D:Bool} (gu:okG y=true) (gm:okG c=true) (gn:okG d=true) (gp:okG p=true) (gq:okG q=true) (hc:C2 a b c d 0 (toN s) (toN (nk n k))=C) (hd:C2 a b c d 1 (toN s) (toN (nk n k))=D):(Ax (B98 6) KO 3 (S98 a b c d n w s k [(12,iV 1),(13,iV 0)] F x y p q)).sem=some (.ex 6,S98 a b c d n w s k [(12,iV 1)] (st1 D y d q (st1 C y c p F).2).2 x y (st1 C y c p F).1 (st1 D y d q (st1 C y c p F).2).1):=by
 rw [Ae (AjM h0 h1 h2 h3 (x:=x) (y:=y) (p:=p) (q:=q) (F:=F) gu gm gp hc),AN,Ae (AjL h0 h1 h2 h3 (x:=x) (y:=y) (p:=(st1 C y c p F).1) (q:=q) (F:=(st1 C y c p F).2) gu gn gq hd),AN];exact Ae (t:=some (.ex 6,_)) (DW.rd (.k (show ilt 2 2=false from rfl) <| .l) (by kernel_rfl))
def stp (a b c d:Int) (C D:Bool) (p:Int×Int×Bool):Int×Int×Bool :=
 ((st1 C p.2.1 c (st1 C p.1 a 0 p.2.2).1 (st1 D p.1 b 0 (st1 C p.1 a 0 p.2.2).2).2).1,(st1 D p.2.1 d (st1 D p.1 b 0 (st1 C p.1 a 0 p.2.2).2).1 (st1 C p.2.1 c (st1 C p.1 a 0 p.2.2).1 (st1 D p.1 b 0 (st1 C p.1 a 0 p.2.2).2).2).2).1,(st1 D p.2.1 d (st1 D p.1 b 0 (st1 C p.1 a 0 p.2.2).2).1 (st1 C p.2.1 c (st1 C p.1 a 0 p.2.2).1 (st1 D p.1 b 0 (st1 C p.1 a 0 p.2.2).2).2).2).2)
theorem AoN {x y:Int} {F C D:Bool} (hk:ile k n=true) (ga:okG a=true) (gb:okG b=true) (gc:okG c=true) (gd:okG d=true) (gx:okG x=true) (gy:okG y=true) (hc:C2 a b c d 0 (toN s) (toN (nk n k))=C) (hd:C2 a b c d 1 (toN s) (toN (nk n k))=D):Ap (B98 2) Adt (R98 a b c d n w s F x y k)=some (.nm,R98 a b c d n w s (stp a b c d C D (x,y,F)).2.2 (stp a b c d C D (x,y,F)).1 (stp a b c d C D (x,y,F)).2.1 (wr .i64 (Aj k 1))):=by
 have z:okG 0=true:=rfl;have u:=MR (c:=C) (F:=F) gx ga z;have v:=MR (c:=D) (F:=(st1 C x a 0 F).2) gx gb z;exact DW.rd (.k hk <| .k (show ilt 0 2=true from rfl) <| .a (An1 h0 h1 h2 h3 (w:=w) (x:=x) (y:=y) (p:=0) (q:=0) (F:=F) gx ga gb z z hc hd) <| .k (show ilt 1 2=true from rfl) <| .a (An0 h0 h1 h2 h3 (w:=w) (x:=x) (y:=y) (F:=(st1 D x b 0 (st1 C x a 0 F).2).2) gy gc gd u v hc hd) <| .k (show ilt 2 2=false from rfl) <| .l) (by kernel_rfl)
end
theorem WV {a b c d:Int} {C D:Bool} {p:Int×Int×Bool} (ga:okG a=true) (gb:okG b=true) (gc:okG c=true) (gd:okG d=true) (gx:okG p.1=true) (gy:okG p.2.1=true):okG (stp a b c d C D p).1=true∧okG (stp a b c d C D p).2.1=true:=⟨MR gy gc (MR gx ga rfl),MR gy gd (MR gx gb rfl)⟩
def LC (a b c d:Int) (s n k:Nat) (p:Int×Int×Bool):Int×Int×Bool:=stp a b c d (C2 a b c d 0 s (n-k)) (C2 a b c d 1 s (n-k)) p
def Ds (a b c d:Int) (s n:Nat):Nat->Nat->Int×Int×Bool->Int×Int×Bool
 | 0,_,p=>p
 | e+1,k,p=>Ds a b c d s n e (k+1) (LC a b c d s n k p)
theorem MX {a b c d:Int} (ga:okG a=true) (gb:okG b=true) (gc:okG c=true) (gd:okG d=true) (s n:Nat):∀ (e k:Nat) (p:Int×Int×Bool),okG p.1=true->okG p.2.1=true->okG (Ds a b c d s n e k p).1=true∧okG (Ds a b c d s n e k p).2.1=true
 | 0,_,_,hx,hy=>⟨hx,hy⟩
 | e+1,k,p,hx,hy=>by
  have h:=WV (C:=C2 a b c d 0 s (n-k)) (D:=C2 a b c d 1 s (n-k)) ga gb gc gd hx hy;exact MX ga gb gc gd s n e (k+1) _ h.1 h.2
theorem Ajm {n k:Nat} (h:k <= n) (hn:n <= 1000):nk (ofNat n) (ofNat k)=ofNat (n-k):=by
 unfold nk wr Ay IntKind.wrap;simp [IntKind.bits,IntKind.signed];omega
theorem Acy {a b c d w:Int} (ga:okG a=true) (gb:okG b=true) (gc:okG c=true) (gd:okG d=true) {n s:Nat} (hn:n <= 16) (hs:s <= 1):∀ (e k:Nat) (p:Int×Int×Bool) (M:Nat),n+1=k+e->e<M->okG p.1=true->okG p.2.1=true ->
  (Ax (B98 2) Adt M (R98 a b c d (ofNat n) w (ofNat s) p.2.2 p.1 p.2.1 (ofNat k))).sem=some (E98 a b c d (ofNat n) w (ofNat s) (Ds a b c d s n e k p).2.2 (Ds a b c d s n e k p).1 (Ds a b c d s n e k p).2.1)
 | 0,k,p,M,h,hM,hx,hy=>by
  obtain ⟨M,rfl⟩:∃ o,M=o+1:=⟨M-1,by omega⟩;have hi:ile (ofNat k) (ofNat n)=false:=decide_eq_false (by show ¬ (k:Int) <= (n:Int); omega);exact Ae (t:=some (.ex 2,_)) (DW.rd (.k hi <| .l) (by kernel_rfl))
 | e+1,k,p,M,h,hM,hx,hy=>by
  obtain ⟨M,rfl⟩:∃ o,M=o+1:=⟨M-1,by omega⟩;have hi:ile (ofNat k) (ofNat n)=true:=decide_eq_true (by show (k:Int) <= (n:Int); omega);have hw:=Ajm (n:=n) (k:=k) (by omega) (by omega);have g:=WV (C:=C2 a b c d 0 s (n-k)) (D:=C2 a b c d 1 s (n-k)) ga gb gc gd hx hy;have hr:=AoN (w:=w) (F:=p.2.2) (n:=ofNat n) (k:=ofNat k) (s:=ofNat s) (decide_eq_true (Int.natCast_nonneg s)) (decide_eq_true (by show (s:Int) <= (1:Int); omega)) (by rw [hw]; exact decide_eq_true (Int.natCast_nonneg _)) (by rw [hw]; exact decide_eq_true (by show ((n-k:Nat):Int) <= (100:Int); omega)) hi ga gb gc gd hx hy rfl rfl;rw [Ae hr,AN,Cu (by omega),hw];exact Acy ga gb gc gd hn hs e (k+1) (LC a b c d s n k p) M (by omega) (by omega) g.1 g.2
def Hl (a b c d:Int) (n:Nat):Int×Bool :=
 (B8 (Aj 0 (Ds a b c d 0 n n 1 (1,0,true)).1),(Ds a b c d 0 n n 1 (1,0,true)).2.2 && okT (Aj 0 (Ds a b c d 0 n n 1 (1,0,true)).1))
def Pd (a b c d:Int) (n:Nat):Int×Bool :=
 (B8 (Aj (Hl a b c d n).1 (Ds a b c d 1 n n 1 (0,1,(Hl a b c d n).2)).2.1),(Ds a b c d 1 n n 1 (0,1,(Hl a b c d n).2)).2.2 && okT (Aj (Hl a b c d n).1 (Ds a b c d 1 n n 1 (0,1,(Hl a b c d n).2)).2.1))
def Tj (a b c d n w:Int) (F:Bool) (s:Int):St:=⟨jsV 95 0 Ac [(1,iV n),(2,.ptr 0 0),(6,iV w),(7,bV F),(8,iV s)],[.cells [iV a,iV b,iV c,iV d]]⟩
def Aow (a b c d w:Int) (F:Bool):Ex×St:=(.ex 0,⟨jsV 95 0 Ac [(6,iV w),(7,bV F)],[.cells [iV a,iV b,iV c,iV d]]⟩)
theorem Amo {a b c d n w x y:Int} {F G:Bool} (hr:(Ax (B98 2) Adt 1000 (R98 a b c d n w 0 F 1 0 1)).sem=some (E98 a b c d n w 0 G x y)) (gw:okG w=true) (gx:okG x=true):Ap (B98 0) Qa (Tj a b c d n w F 0)=some (.nm,Tj a b c d n (B8 (Aj w x)) (G && okT (Aj w x)) 1):=by
 cases G with
 | true=>exact DW.rd (.k (show ilt 0 2=true from rfl) <| .k (eI 0) <| .a hr <| .k (eI 0) <| .k gw <| .k gx <| .r 2 eT <| .l) (by kernel_rfl)
 | false=>exact DW.rd (.k (show ilt 0 2=true from rfl) <| .k (eI 0) <| .a hr <| .k (eI 0) <| .k gw <| .k gx <| .r 2 eF <| .l) (by kernel_rfl)
theorem Amn {a b c d n w x y:Int} {F G:Bool} (hr:(Ax (B98 2) Adt 1000 (R98 a b c d n w 1 F 0 1 1)).sem=some (E98 a b c d n w 1 G x y)) (gw:okG w=true) (gy:okG y=true):Ap (B98 0) Qa (Tj a b c d n w F 1)=some (.nm,Tj a b c d n (B8 (Aj w y)) (G && okT (Aj w y)) 2):=by
 cases G with
 | true=>exact DW.rd (.k (show ilt 1 2=true from rfl) <| .k (show ieq 1 0=false from rfl) <| .k (eI 1) <| .a hr <| .k (show ieq 1 0=false from rfl) <| .k (eI 1) <| .k gw <| .k gy <| .r 2 eT <| .l) (by kernel_rfl)
 | false=>exact DW.rd (.k (show ilt 1 2=true from rfl) <| .k (show ieq 1 0=false from rfl) <| .k (eI 1) <| .a hr <| .k (show ieq 1 0=false from rfl) <| .k (eI 1) <| .k gw <| .k gy <| .r 2 eF <| .l) (by kernel_rfl)
def AbD:List V->A2
 | [.agg [.val (.int .i64 a),.val (.int .i64 b),.val (.int .i64 c),.val (.int .i64 d)],.val (.int .i64 n)]=>.br (okG a) (.br (okG b) (.br (okG c) (.br (okG d) (.br (ile 1 n) (.br (ile n 16) (.leaf (.tup [iV (Pd a b c d (toN n)).1,bV (Pd a b c d (toN n)).2],[])) .fail) .fail) .fail) .fail) .fail) .fail
 | _=>.fail
theorem p98:As Tryz.prog Gl 98 AbD:=by
 refine Ah Az mixed Tryz.func98 (by kernel_rfl) (by kernel_rfl) λvs v h' h=>?_;unfold AbD at h;split at h
 rotate_left
 ·cases h
 rename_i a b c d n;obtain ⟨ga,h⟩:=Ab h;obtain ⟨gb,h⟩:=Ab h;obtain ⟨gc,h⟩:=Ab h;obtain ⟨gd,h⟩:=Ab h;obtain ⟨g5,h⟩:=Ab h;obtain ⟨g6,h⟩:=Ab h;cases Aa h;have g5:(1:Int) <= n:=of_decide_eq_true g5;have g6:n <= (16:Int):=of_decide_eq_true g6;obtain ⟨n,rfl⟩:=Int.eq_ofNat_of_zero_le (show (0:Int) <= n by omega);have hx:=Yf Af1 AlH Ann (G:=Gl);refine ⟨_,AnT,_,B0.refl _,rfl,hx.1,hx.2,?_,Au.refl _⟩;have g1:okG 1=true:=rfl;have g0:okG 0=true:=rfl;have k0:=(MX ga gb gc gd 0 n n 1 (1,0,true) g1 g0).1;have r0:=Acy (w:=0) ga gb gc gd (n:=n) (s:=0) (by omega) (by omega) n 1 (1,0,true) 1000 (by omega) (by omega) g1 g0;have v1:okG (Hl a b c d n).1=true:=I8 (AeY (Int.le_refl 0) (EK.1 k0).1);have k1:=(MX ga gb gc gd 1 n n 1 (0,1,(Hl a b c d n).2) g0 g1).2;have r1:=Acy (w:=(Hl a b c d n).1) ga gb gc gd (n:=n) (s:=1) (by omega) (by omega) n 1 (0,1,(Hl a b c d n).2) 1000 (by omega) (by omega) g0 g1;have hl:(Ax (B98 0) Qa 3 (Tj a b c d (ofNat n) 0 true 0)).sem=some (Aow a b c d (Pd a b c d n).1 (Pd a b c d n).2):=by
  rw [Ae (Amo r0 g0 k0),AN];show (Ax (B98 0) Qa 2 (Tj a b c d (ofNat n) (Hl a b c d n).1 (Hl a b c d n).2 1)).sem=_;rw [Ae (Amn (F:=(Hl a b c d n).2) r1 v1 k1),AN];exact Ae (t:=some (.ex 0,_)) (DW.rd (.k (show ilt 2 2=false from rfl) <| .l) (by kernel_rfl))
 exact DW.ok (.a hl <| .l) (by kernel_rfl)
end Go.Proofs.YtkbgidbledjejaaGreat.En
namespace Go.Proofs.YtkbgidbledjejaaGreat.En
open Go.Sy Go Go.Proofs.YtkbgidbledjejaaGreat.Ed
open Int (ofNat)
set_option maxRecDepth 100000
theorem N4.mul_assoc (m k l:N4):(m.mul k).mul l=m.mul (k.mul l):=by
 simp only [N4.mul,N4.mk.injEq];refine ⟨?_,?_,?_,?_⟩ <;> grind
theorem N4.mul_one (m:N4):m.mul N4.one=m:=by simp [N4.mul,N4.one]
theorem N4.pow_add (m:N4) (i:Nat):∀ j,m.pow (i+j)=(m.pow i).mul (m.pow j)
 | 0=>(N4.mul_one _).symm
 | j+1=>by
  show (m.pow (i+j)).mul m=(m.pow i).mul ((m.pow j).mul m);rw [N4.pow_add m i j,N4.mul_assoc]
def N4.at (m:N4) (i j:Nat):Nat :=
 match i,j with
 | 0,0=>m.a
 | 0,_=>m.b
 | _,0=>m.c
 | _,_=>m.d
def okN (m:N4):Bool:=okG (ofNat m.a) && (okG (ofNat m.b) && (okG (ofNat m.c) && okG (ofNat m.d)))
theorem ZJ (u v x y:Nat):bor (Av (decide (0<u)) (ilt 0 (ofNat x))) (Av (decide (0<v)) (ilt 0 (ofNat y)))=decide (0<u * x+v * y):=by
 have hx:ilt 0 (ofNat x)=decide (0<x):=by unfold ilt; simp
 have hy:ilt 0 (ofNat y)=decide (0<y):=by unfold ilt; simp
 rw [hx,hy];unfold bor Av;rw [Bool.eq_iff_iff];simp only [Bool.or_eq_true,Bool.and_eq_true,decide_eq_true_eq];constructor
 ·rintro (⟨h1,h2⟩ | ⟨h1,h2⟩)
  ·have:=Nat.mul_pos h1 h2; omega
  ·have:=Nat.mul_pos h1 h2; omega
 ·intro h
  by_cases h1:0<u * x
  ·exact .inl ⟨Nat.pos_of_mul_pos_right h1,Nat.pos_of_mul_pos_left h1⟩
  ·have h2:0<v * y:=by omega
   exact .inr ⟨Nat.pos_of_mul_pos_right h2,Nat.pos_of_mul_pos_left h2⟩
theorem Sr (m:N4) (e:Nat):m.pow (e+1)=m.mul (m.pow e):=by
 rw [Nat.add_comm,N4.pow_add,N4.pow_one]
theorem Nb (m:N4):∀ (e u v:Nat),Sm (ofNat m.a) (ofNat m.b) (ofNat m.c) (ofNat m.d) e (decide (0<u),decide (0<v)) =
  (decide (0<u * (m.pow e).a+v * (m.pow e).c),decide (0<u * (m.pow e).b+v * (m.pow e).d))
 | 0,u,v=>by
  show (decide (0<u),decide (0<v))=(decide (0<u * 1+v * 0),decide (0<u * 0+v * 1));simp
 | e+1,u,v=>by
  show Sm _ _ _ _ e (bor (Av (decide (0<u)) (ilt 0 (ofNat m.a))) (Av (decide (0<v)) (ilt 0 (ofNat m.c))),bor (Av (decide (0<u)) (ilt 0 (ofNat m.b))) (Av (decide (0<v)) (ilt 0 (ofNat m.d))))=_;rw [ZJ,ZJ,Nb m e,Sr];simp only [N4.mul];have e1:(u * m.a+v * m.c) * (m.pow e).a+(u * m.b+v * m.d) * (m.pow e).c=u * (m.a * (m.pow e).a+m.b * (m.pow e).c)+v * (m.c * (m.pow e).a+m.d * (m.pow e).c):=by grind
  have e2:(u * m.a+v * m.c) * (m.pow e).b+(u * m.b+v * m.d) * (m.pow e).d=u * (m.a * (m.pow e).b+m.b * (m.pow e).d)+v * (m.c * (m.pow e).b+m.d * (m.pow e).d):=by grind
  exact Prod.ext (decide_eq_decide.2 (by rw [e1])) (decide_eq_decide.2 (by rw [e2]))
theorem SV (m:N4) (s t e:Nat) (hs:s <= 1) (ht:t <= 1):C2 (ofNat m.a) (ofNat m.b) (ofNat m.c) (ofNat m.d) s t e=decide (0<(m.pow e).at s t):=by
 have hs:s=0 ∨ s=1:=by omega
 have ht:t=0 ∨ t=1:=by omega
 unfold C2;rcases hs with rfl | rfl
 ·have h:=Nb m e 1 0
  rw [show (Nat.beq 0 0,Nat.beq 0 1)=(decide (0<1),decide (0<0)) from rfl,h];rcases ht with rfl | rfl <;> simp [N4.at]
 ·have h:=Nb m e 0 1
  rw [show (Nat.beq 1 0,Nat.beq 1 1)=(decide (0<0),decide (0<1)) from rfl,h];rcases ht with rfl | rfl <;> simp [N4.at]
theorem Lr (p q:Int) (hp:0 <= p) (hq:0 <= q):(okT p && (okT (Aj 0 (B8 p)) && (okT q && okT (Aj (B8 (Aj 0 (B8 p))) (B8 q)))))=okT (p+q)∧(okT (p+q)=true->B8 (Aj (B8 (Aj 0 (B8 p))) (B8 q))=p+q):=by
 unfold okT Aj B8;by_cases h1:p <= 9223372036854775807
 ·by_cases h2:q <= 9223372036854775807
  ·rw [if_pos h1,if_pos h2,decide_eq_true h1,decide_eq_true h2,if_pos (show 0+p <= 9223372036854775807 by omega),decide_eq_true (show 0+p <= 9223372036854775807 by omega),Int.zero_add]
   refine ⟨rfl,λh=>if_pos (of_decide_eq_true h)⟩
  ·rw [decide_eq_false h2,decide_eq_false (show ¬ p+q <= 9223372036854775807 by omega)]
   simp
 ·rw [decide_eq_false h1,decide_eq_false (show ¬ p+q <= 9223372036854775807 by omega)]
  simp
def nxt (u v x y:Int):Int:=B8 (Aj (B8 (Aj 0 (B8 (Bs x u)))) (B8 (Bs y v)))
theorem Ajo {a b c d x y:Int} (C D F:Bool) (ga:okG a=true) (gb:okG b=true) (gc:okG c=true) (gd:okG d=true) (gx:okG x=true) (gy:okG y=true) :
  stp a b c d C D (x,y,F)=(sel C (nxt a c x y) 0,sel D (nxt b d x y) 0,F && (sel C (okT (Bs x a+Bs y c)) true && sel D (okT (Bs x b+Bs y d)) true)):=by
 rw [<- (Lr (Bs x a) (Bs y c) (FG gx ga) (FG gy gc)).1,<- (Lr (Bs x b) (Bs y d) (FG gx gb) (FG gy gd)).1];refine Prod.ext ?_ (Prod.ext ?_ ?_)
 ·cases C <;> cases D <;> rfl
 ·cases C <;> cases D <;> rfl
 ·cases C <;> cases D <;> simp only [stp,st1,GM,JQ,nxt,Bool.and_true,Bool.true_and] <;> ac_rfl
def Ru (m:N4) (s n k:Nat) (p:Int×Int×Bool):Prop :=
 okG p.1=true∧okG p.2.1=true∧(p.2.2=true->(0<(m.pow (n-k)).at 0 s->p.1=ofNat ((m.pow k).at s 0))∧(0<(m.pow (n-k)).at 1 s->p.2.1=ofNat ((m.pow k).at s 1)))∧(p.2.2=false->(9223372036854775807:Int)<ofNat ((m.pow n).at s s))
theorem UB (m k:N4) (i j:Nat) (hi:i <= 1) (hj:j <= 1):(m.mul k).at i j=m.at i 0 * k.at 0 j+m.at i 1 * k.at 1 j:=by
 have hi:i=0 ∨ i=1:=by omega
 have hj:j=0 ∨ j=1:=by omega
 rcases hi with rfl | rfl <;> rcases hj with rfl | rfl <;> rfl
theorem Ww (m:N4) (s n k:Nat) (hs:s <= 1) (hk:k+1 <= n) (t:Nat) (ht:t <= 1) (x y:Int) (hx:0<(m.pow (n-k)).at 0 s->x=ofNat ((m.pow k).at s 0)) (hy:0<(m.pow (n-k)).at 1 s->y=ofNat ((m.pow k).at s 1))
  (hc:0<(m.pow (n-(k+1))).at t s):x * ofNat (m.at 0 t)+y * ofNat (m.at 1 t)=ofNat ((m.pow (k+1)).at s t)∧ofNat ((m.pow (k+1)).at s t) <= ofNat ((m.pow n).at s s):=by
 have e1:m.pow (n-k)=m.mul (m.pow (n-(k+1))):=by rw [<- Sr]; congr 1; omega
 have e2:(m.pow (k+1)).at s t=(m.pow k).at s 0 * m.at 0 t+(m.pow k).at s 1 * m.at 1 t:=UB (m.pow k) m s t hs ht;have e3:m.pow n=(m.pow (k+1)).mul (m.pow (n-(k+1))):=by rw [<- N4.pow_add]; congr 1; omega
 have fx:x * ofNat (m.at 0 t)=ofNat ((m.pow k).at s 0 * m.at 0 t):=by
  rcases Nat.eq_zero_or_pos (m.at 0 t) with hz | hz
  ·rw [hz]; simp
  ·have:0<(m.pow (n-k)).at 0 s:=by
    rw [e1,UB _ _ 0 s (by omega) hs];have hp:=Nat.mul_pos hz hc;have ht:t=0 ∨ t=1:=by omega
    rcases ht with rfl | rfl <;> omega
   rw [hx this];simp
 have fy:y * ofNat (m.at 1 t)=ofNat ((m.pow k).at s 1 * m.at 1 t):=by
  rcases Nat.eq_zero_or_pos (m.at 1 t) with hz | hz
  ·rw [hz]; simp
  ·have:0<(m.pow (n-k)).at 1 s:=by
    rw [e1,UB _ _ 1 s (by omega) hs];have hp:=Nat.mul_pos hz hc;have ht:t=0 ∨ t=1:=by omega
    rcases ht with rfl | rfl <;> omega
   rw [hy this];simp
 refine ⟨by rw [fx,fy,e2]; simp,?_⟩;rw [e3,UB _ _ s s hs hs];have hp:=Nat.mul_le_mul_left ((m.pow (k+1)).at s t) hc;have ht:t=0 ∨ t=1:=by omega
 refine Int.ofNat_le.2 ?_;rcases ht with rfl | rfl <;> omega
theorem Vg (m:N4) (hm:okN m=true) (s n k:Nat) (hs:s <= 1) (hk:k+1 <= n) (p:Int×Int×Bool) (h:Ru m s n k p) :
  Ru m s n (k+1) (LC (ofNat m.a) (ofNat m.b) (ofNat m.c) (ofNat m.d) s n (k+1) p):=by
 simp only [okN,Bool.and_eq_true] at hm;obtain ⟨ga,gb,gc,gd⟩:=hm;obtain ⟨h1,h2,h3,h4⟩:=h;have hk1:=WV (C:=C2 (ofNat m.a) (ofNat m.b) (ofNat m.c) (ofNat m.d) 0 s (n-(k+1))) (D:=C2 (ofNat m.a) (ofNat m.b) (ofNat m.c) (ofNat m.d) 1 s (n-(k+1))) ga gb gc gd h1 h2;refine ⟨hk1.1,hk1.2,?_⟩;obtain ⟨x,y,F⟩:=p;unfold LC;rw [Ajo _ _ _ ga gb gc gd h1 h2,SV m 0 s _ (by omega) hs,SV m 1 s _ (by omega) hs];simp only at h1 h2 h3 h4 ⊢;have q0:=Lr (Bs x (ofNat m.a)) (Bs y (ofNat m.c)) (FG h1 ga) (FG h2 gc);have q1:=Lr (Bs x (ofNat m.b)) (Bs y (ofNat m.d)) (FG h1 gb) (FG h2 gd);cases F with
 | false =>refine ⟨λhf=>by simp at hf,λ_=>h4 rfl⟩
 | true =>
  obtain ⟨hx,hy⟩:=h3 rfl;have s0:=Ww m s n k hs hk 0 (by omega) x y hx hy;have s1:=Ww m s n k hs hk 1 (by omega) x y hx hy;have d0:m.at 0 0=m.a:=rfl;have d1:m.at 1 0=m.c:=rfl;have d2:m.at 0 1=m.b:=rfl;have d3:m.at 1 1=m.d:=rfl;rw [d0,d1] at s0;rw [d2,d3] at s1;have i0:Bs x (ofNat m.a)+Bs y (ofNat m.c)=x * ofNat m.a+y * ofNat m.c:=rfl;have i1:Bs x (ofNat m.b)+Bs y (ofNat m.d)=x * ofNat m.b+y * ofNat m.d:=rfl;rw [i0] at q0 ⊢;rw [i1] at q1 ⊢;constructor
  ·intro hf
   simp only [Bool.true_and,Bool.and_eq_true] at hf;obtain ⟨f0,f1⟩:=hf;constructor
   ·intro hc
    rw [decide_eq_true hc] at f0 ⊢;rw [GM] at f0 ⊢;rw [<- (s0 hc).1];exact q0.2 f0
   ·intro hc
    rw [decide_eq_true hc] at f1 ⊢;rw [GM] at f1 ⊢;rw [<- (s1 hc).1];exact q1.2 f1
  ·intro hf
   simp only [Bool.true_and] at hf;by_cases hc0:0<(m.pow (n-(k+1))).at 0 s
   ·rw [decide_eq_true hc0,GM] at hf
    cases ht:okT (x * ofNat m.a+y * ofNat m.c) with
    | false =>have:=of_decide_eq_false ht;have:=s0 hc0;omega
    | true =>
     rw [ht,Bool.true_and] at hf;by_cases hc1:0<(m.pow (n-(k+1))).at 1 s
     ·rw [decide_eq_true hc1,GM] at hf
      have:=of_decide_eq_false hf;have:=s1 hc1;omega
     ·rw [decide_eq_false hc1,JQ] at hf
      cases hf
   ·rw [decide_eq_false hc0,JQ,Bool.true_and] at hf
    by_cases hc1:0<(m.pow (n-(k+1))).at 1 s
    ·rw [decide_eq_true hc1,GM] at hf
     have:=of_decide_eq_false hf;have:=s1 hc1;omega
    ·rw [decide_eq_false hc1,JQ] at hf
     cases hf
theorem KF (m:N4) (hm:okN m=true) (s n:Nat) (hs:s <= 1):∀ (e k:Nat) (p:Int×Int×Bool),n=k+e->Ru m s n k p ->
  Ru m s n n (Ds (ofNat m.a) (ofNat m.b) (ofNat m.c) (ofNat m.d) s n e (k+1) p)
 | 0,k,p,h,hp=>by
  have:n=k:=by omega
  subst this;exact hp
 | e+1,k,p,h,hp=>KF m hm s n hs e (k+1) _ (by omega) (Vg m hm s n k hs (by omega) p hp)
theorem LD (a b c d:Int) (s n:Nat):∀ (e k:Nat) (p:Int×Int×Bool),p.2.2=false->(Ds a b c d s n e k p).2.2=false
 | 0,_,_,h=>h
 | e+1,k,p,h=>LD a b c d s n e (k+1) _ (by
  obtain ⟨x,y,F⟩:=p;obtain rfl:F=false:=h;unfold LC;generalize C2 a b c d 0 s (n-k)=C;generalize C2 a b c d 1 s (n-k)=D;cases C <;> cases D <;> rfl)
theorem AbO {x:Int} (h:okG x=true):B8 (Aj 0 x)=x∧okT (Aj 0 x)=true:=by
 have h:=EK.1 h;unfold B8 okT Aj;rw [Int.zero_add,if_pos h.2,decide_eq_true h.2];exact ⟨rfl,rfl⟩
theorem AbC (m:N4) (hm:okN m=true) (n:Nat) :
  (Pd (ofNat m.a) (ofNat m.b) (ofNat m.c) (ofNat m.d) n).2=okT (trI m n)∧(okT (trI m n)=true->(Pd (ofNat m.a) (ofNat m.b) (ofNat m.c) (ofNat m.d) n).1=trI m n):=by
 have hA:=KF m hm 0 n (by omega) n 0 (1,0,true) (by omega) ⟨rfl,rfl,λ_=>⟨λ_=>rfl,λ_=>rfl⟩,λh=>by cases h⟩;have e0:(m.pow (n-n)).at 0 0=1:=by rw [Nat.sub_self]; rfl
 have e1:(m.pow (n-n)).at 1 1=1:=by rw [Nat.sub_self]; rfl
 have et:trI m n=ofNat ((m.pow n).at 0 0)+ofNat ((m.pow n).at 1 1):=rfl;have z0:(0:Int) <= ofNat ((m.pow n).at 0 0):=by simp
 have z1:(0:Int) <= ofNat ((m.pow n).at 1 1):=by simp
 have hB:∀ F,(F=true ∨ F=false)->(F=true->Ru m 1 n n (Ds (ofNat m.a) (ofNat m.b) (ofNat m.c) (ofNat m.d) 1 n n 1 (0,1,F))):=by
  intro F _ hF;subst hF;exact KF m hm 1 n (by omega) n 0 (0,1,true) (by omega) ⟨rfl,rfl,λ_=>⟨λ_=>rfl,λ_=>rfl⟩,λh=>by cases h⟩
 unfold Pd;obtain ⟨a1,a2,a3,a4⟩:=hA;rw [Nat.zero_add] at a1 a2 a3 a4;have wA:Hl (ofNat m.a) (ofNat m.b) (ofNat m.c) (ofNat m.d) n=((Ds (ofNat m.a) (ofNat m.b) (ofNat m.c) (ofNat m.d) 0 n n 1 (1,0,true)).1,(Ds (ofNat m.a) (ofNat m.b) (ofNat m.c) (ofNat m.d) 0 n n 1 (1,0,true)).2.2):=by
  unfold Hl;rw [(AbO a1).1,(AbO a1).2,Bool.and_true]
 rw [wA];generalize Ds (ofNat m.a) (ofNat m.b) (ofNat m.c) (ofNat m.d) 0 n n 1 (1,0,true)=P at *;obtain ⟨x,y,F⟩:=P;simp only at a1 a2 a3 a4 ⊢;cases F with
 | false =>have:=a4 rfl;have hf:=LD (ofNat m.a) (ofNat m.b) (ofNat m.c) (ofNat m.d) 1 n n 1 (0,1,false) rfl;have ht:okT (trI m n)=false:=decide_eq_false (by omega);rw [hf,ht];exact ⟨rfl,λh=>by cases h⟩
 | true =>
  have hx:=(a3 rfl).1 (by rw [e0]; omega);obtain ⟨b1,b2,b3,b4⟩:=hB true (.inl rfl) rfl;generalize Ds (ofNat m.a) (ofNat m.b) (ofNat m.c) (ofNat m.d) 1 n n 1 (0,1,true)=Q at *;obtain ⟨u,v,G⟩:=Q;simp only at b1 b2 b3 b4 ⊢;cases G with
  | false =>have:=b4 rfl;have ht:okT (trI m n)=false:=decide_eq_false (by omega);rw [ht];exact ⟨rfl,λh=>by cases h⟩
  | true =>
   have hy:=(b3 rfl).2 (by rw [e1]; omega);have es:Aj x v=trI m n:=by rw [et,hx,hy]; rfl
   rw [es];refine ⟨rfl,λh=>?_⟩;unfold B8;rw [if_pos (of_decide_eq_true h)]
end Go.Proofs.YtkbgidbledjejaaGreat.En
